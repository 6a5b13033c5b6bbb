/- The call of clauses.Same, as a walk uses it. -/
import Derived.Test.YtpkamfjkmbakhaaGCall
import Derived.Test.YtpkamfjkmbakhaaG20

namespace Go.Proofs.Ytpkamfjkmbakhaa.G
open Go.RowKit Go.Proofs.YtpkamfjkmbakhaaW.PrintWords Go.Proofs.YtpkamfjkmbakhaaW.PrintLast Go.Proofs.YtpkamfjkmbakhaaW.PrintMore
section
variable {w W : World} {a : Int} {A1 : Option Addr} {c1 : Nat} {l1 : List S36} {A2 : Option Addr} {c2 : Nat} {l2 : List Int} {j : Bool} {A4 : Option Addr} {c4 : Nat} {l4 : List S36} {p0 p1 p2 : Int} {y : Bool} {t : Int}
variable {b : Int} {C1 : Option Addr} {e1 : Nat} {m1 : List S36} {C2 : Option Addr} {e2 : Nat} {m2 : List Int} {i : Bool} {C4 : Option Addr} {e4 : Nat} {m4 : List S36} {r0 r1 r2 : Int} {z : Bool} {u : Int}
theorem call19 {k : Nat} {g1 : Bool} {g2 : Int} (o : QOk W A1 c1 l1 A2 c2 l2 A4 c4 l4) (o2 : QOk W C1 e1 m1 C2 e2 m2 C4 e4 m4) (h : clauses_Same.f k a l1 l2 j l4 p0 p1 p2 y t b m1 m2 i m4 r0 r1 r2 z u = some (g1, g2)) :
    Calls Try.prog 19 #[.agg #[.int .u8 a, .slice A1 l1.length c1, .slice A2 l2.length c2, .bool j, .slice A4 l4.length c4, .int .u8 p0, .int .i64 p1, .int .i64 p2, .bool y, .int .u8 t], .agg #[.int .u8 b, .slice C1 m1.length e1, .slice C2 m2.length e2, .bool i, .slice C4 m4.length e4, .int .u8 r0, .int .i64 r1, .int .i64 r2, .bool z, .int .u8 u]] W fun e w' => e = .returned (.tuple #[.bool g1, .int .i64 g2]) ∧ Below W.heap.size W w' :=
  clauses_Same.calls k a _ _ l1 _ _ l2 j _ _ l4 p0 p1 p2 y t b _ _ m1 _ _ m2 i _ _ m4 r0 r1 r2 z u g1 g2 W o.r1 o.h1 o.r2 o.h2 o.r4 o.h4 o2.r1 o2.h1 o2.r2 o2.h2 o2.r4 o2.h4 h
end
end Go.Proofs.Ytpkamfjkmbakhaa.G
