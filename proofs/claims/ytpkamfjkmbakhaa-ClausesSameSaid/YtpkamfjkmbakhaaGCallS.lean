/- The calls of the query laws, as their walks use them. -/
import Derived.Test.YtpkamfjkmbakhaaGU
import Derived.Test.YtpkamfjkmbakhaaG3
import Derived.Test.YtpkamfjkmbakhaaG9
import Derived.Test.YtpkamfjkmbakhaaG17
import Derived.Test.YtpkamfjkmbakhaaG20
import Derived.Test.YtpkamfjkmbakhaaG25
namespace Go.Proofs.Ytpkamfjkmbakhaa.G
open Go.RowKit Go.Proofs.YtpkamfjkmbakhaaW.PrintWords Go.Proofs.YtpkamfjkmbakhaaW.PrintLast Go.Proofs.YtpkamfjkmbakhaaW.PrintMore

/-- The lists of a query lie in w. -/
structure QOk (w : World) (A1 : Option Addr) (c1 : Nat) (l1 : List S36) (A2 : Option Addr) (c2 : Nat) (l2 : List Int) (A4 : Option Addr) (c4 : Nat) (l4 : List S36) : Prop where
  r1 : Kd.C k36 w A1 l1.length l1
  h1 : l1.length ≤ c1
  r2 : Kd.C (Kd.int .i64) w A2 l2.length l2
  h2 : l2.length ≤ c2
  r4 : Kd.C k36 w A4 l4.length l4
  h4 : l4.length ≤ c4

section
variable {w W : World} {a : Int} {A1 : Option Addr} {c1 : Nat} {l1 : List S36} {A2 : Option Addr} {c2 : Nat} {l2 : List Int} {j : Bool} {A4 : Option Addr} {c4 : Nat} {l4 : List S36} {p0 p1 p2 : Int} {y : Bool} {t : Int}
theorem QOk.step (o : QOk w A1 c1 l1 A2 c2 l2 A4 c4 l4) (hB : Below w.heap.size w W) : QOk W A1 c1 l1 A2 c2 l2 A4 c4 l4 := ⟨Kd.C_below o.r1 hB, o.h1, Kd.C_below o.r2 hB, o.h2, Kd.C_below o.r4 hB, o.h4⟩
theorem call16 {r : Bool} (o : QOk w A1 c1 l1 A2 c2 l2 A4 c4 l4) (hB : Below w.heap.size w W) (h : tailwaterref08_Great.f a l1 l2 j l4 p0 p1 p2 y t = some r) :
    Calls Try.prog 16 #[.agg #[.int .u8 a, .slice A1 l1.length c1, .slice A2 l2.length c2, .bool j, .slice A4 l4.length c4, .int .u8 p0, .int .i64 p1, .int .i64 p2, .bool y, .int .u8 t]] W fun e w' => e = .returned (.bool r) ∧ Below W.heap.size W w' :=
  tailwaterref08_Great.calls a _ _ l1 _ _ l2 j _ _ l4 p0 p1 p2 y t r W (Kd.C_below o.r1 hB) o.h1 (Kd.C_below o.r2 hB) o.h2 (Kd.C_below o.r4 hB) o.h4 h
theorem call17 {k : Nat} {r : Int} (o : QOk w A1 c1 l1 A2 c2 l2 A4 c4 l4) (hB : Below w.heap.size w W) (h : tailwaterref08_Check.f k a l1 l2 j l4 p0 p1 p2 y t = some r) :
    Calls Try.prog 17 #[.agg #[.int .u8 a, .slice A1 l1.length c1, .slice A2 l2.length c2, .bool j, .slice A4 l4.length c4, .int .u8 p0, .int .i64 p1, .int .i64 p2, .bool y, .int .u8 t]] W fun e w' => e = .returned (.int .i64 r) ∧ Below W.heap.size W w' :=
  tailwaterref08_Check.calls k a _ _ l1 _ _ l2 j _ _ l4 p0 p1 p2 y t r W (Kd.C_below o.r1 hB) o.h1 (Kd.C_below o.r2 hB) o.h2 (Kd.C_below o.r4 hB) o.h4 h
theorem call26 {k : Nat} {r : Int} (o : QOk w A1 c1 l1 A2 c2 l2 A4 c4 l4) (hB : Below w.heap.size w W) (h : clauses_Check.f k a l1 l2 j l4 p0 p1 p2 y t = some r) :
    Calls Try.prog 26 #[.agg #[.int .u8 a, .slice A1 l1.length c1, .slice A2 l2.length c2, .bool j, .slice A4 l4.length c4, .int .u8 p0, .int .i64 p1, .int .i64 p2, .bool y, .int .u8 t]] W fun e w' => e = .returned (.int .i64 r) ∧ Below W.heap.size W w' :=
  clauses_Check.calls k a _ _ l1 _ _ l2 j _ _ l4 p0 p1 p2 y t r W (Kd.C_below o.r1 hB) o.h1 (Kd.C_below o.r2 hB) o.h2 (Kd.C_below o.r4 hB) o.h4 h
theorem Lie.fill10 (m1 m2 : List (Nat × Obj)) {g : Nat} {tt : TypeId} {x0 x1 x2 x3 x4 x5 x6 x7 x8 x9 : Value} (h : Lie w (m1 ++ (g, .cells #[x0, x1, x2, x3, x4, x5, x6, x7, x8, x9] tt (0, 0)) :: m2) W) (v0 v1 v2 v3 v4 v5 v6 v7 v8 v9 : Value) :
    Lie w (m1 ++ (g, .cells #[v0, v1, v2, v3, v4, v5, v6, v7, v8, v9] tt (0, 0)) :: m2) ((((((((((W.setCell ⟨g, 0, none⟩ v0).setCell ⟨g, 1, none⟩ v1).setCell ⟨g, 2, none⟩ v2).setCell ⟨g, 3, none⟩ v3).setCell ⟨g, 4, none⟩ v4).setCell ⟨g, 5, none⟩ v5).setCell ⟨g, 6, none⟩ v6).setCell ⟨g, 7, none⟩ v7).setCell ⟨g, 8, none⟩ v8).setCell ⟨g, 9, none⟩ v9) := by
  have := (((((((((h.put m1 m2 0 v0).put m1 m2 1 v1).put m1 m2 2 v2).put m1 m2 3 v3).put m1 m2 4 v4).put m1 m2 5 v5).put m1 m2 6 v6).put m1 m2 7 v7).put m1 m2 8 v8).put m1 m2 9 v9
  simpa only [List.setIfInBounds_toArray, List.set_cons_zero, List.set_cons_succ] using this
end
section
variable {w W : World} {a : Int} {A1 : Option Addr} {c1 : Nat} {l1 : List S36} {A2 : Option Addr} {c2 : Nat} {l2 : List Int} {j : Bool} {A4 : Option Addr} {c4 : Nat} {l4 : List S36} {p0 p1 p2 : Int} {y : Bool} {t : Int}
variable {b : Int} {C1 : Option Addr} {e1 : Nat} {m1 : List S36} {C2 : Option Addr} {e2 : Nat} {m2 : List Int} {i : Bool} {C4 : Option Addr} {e4 : Nat} {m4 : List S36} {r0 r1 r2 : Int} {z : Bool} {u : Int}
theorem call19 {k : Nat} {g1 : Bool} {g2 : Int} (o : QOk W A1 c1 l1 A2 c2 l2 A4 c4 l4) (o2 : QOk W C1 e1 m1 C2 e2 m2 C4 e4 m4) (h : clauses_Same.f k a l1 l2 j l4 p0 p1 p2 y t b m1 m2 i m4 r0 r1 r2 z u = some (g1, g2)) :
    Calls Try.prog 19 #[.agg #[.int .u8 a, .slice A1 l1.length c1, .slice A2 l2.length c2, .bool j, .slice A4 l4.length c4, .int .u8 p0, .int .i64 p1, .int .i64 p2, .bool y, .int .u8 t], .agg #[.int .u8 b, .slice C1 m1.length e1, .slice C2 m2.length e2, .bool i, .slice C4 m4.length e4, .int .u8 r0, .int .i64 r1, .int .i64 r2, .bool z, .int .u8 u]] W fun e w' => e = .returned (.tuple #[.bool g1, .int .i64 g2]) ∧ Below W.heap.size W w' :=
  clauses_Same.calls k a _ _ l1 _ _ l2 j _ _ l4 p0 p1 p2 y t b _ _ m1 _ _ m2 i _ _ m4 r0 r1 r2 z u g1 g2 W o.r1 o.h1 o.r2 o.h2 o.r4 o.h4 o2.r1 o2.h1 o2.r2 o2.h2 o2.r4 o2.h4 h
theorem call21 {k : Nat} {g1 : Bool} (o : QOk W A1 c1 l1 A2 c2 l2 A4 c4 l4) (o2 : QOk W C1 e1 m1 C2 e2 m2 C4 e4 m4) (h : tailwaterref08_Equal.f k a l1 l2 j l4 p0 p1 p2 y t b m1 m2 i m4 r0 r1 r2 z u = some g1) :
    Calls Try.prog 21 #[.agg #[.int .u8 a, .slice A1 l1.length c1, .slice A2 l2.length c2, .bool j, .slice A4 l4.length c4, .int .u8 p0, .int .i64 p1, .int .i64 p2, .bool y, .int .u8 t], .agg #[.int .u8 b, .slice C1 m1.length e1, .slice C2 m2.length e2, .bool i, .slice C4 m4.length e4, .int .u8 r0, .int .i64 r1, .int .i64 r2, .bool z, .int .u8 u]] W fun e w' => e = .returned (.bool g1) ∧ Below W.heap.size W w' :=
  tailwaterref08_Equal.calls k a _ _ l1 _ _ l2 j _ _ l4 p0 p1 p2 y t b _ _ m1 _ _ m2 i _ _ m4 r0 r1 r2 z u g1 W o.r1 o.h1 o.r2 o.h2 o.r4 o.h4 o2.r1 o2.h1 o2.r2 o2.h2 o2.r4 o2.h4 h
/-- A twin: the same lists, in memory of their own. -/
theorem call20 (o : QOk W A1 c1 l1 A2 c2 l2 A4 c4 l4) (s1 : l1.length ≤ 70) (s4 : l4.length ≤ 70) (s2 : l2.length ≤ 10) :
    Calls Try.prog 20 #[.agg #[.int .u8 a, .slice A1 l1.length c1, .slice A2 l2.length c2, .bool j, .slice A4 l4.length c4, .int .u8 p0, .int .i64 p1, .int .i64 p2, .bool y, .int .u8 t]] W fun e w' => ∃ B1 d1 B2 d2 B4 d4, e = .returned (.agg #[.int .u8 a, .slice B1 l1.length d1, .slice B2 l2.length d2, .bool j, .slice B4 l4.length d4, .int .u8 p0, .int .i64 p1, .int .i64 p2, .bool y, .int .u8 t]) ∧
      QOk w' B1 d1 l1 B2 d2 l2 B4 d4 l4 ∧ Kd.R k36 36 w' W.heap.size (fun k_ => some k_ ≠ (.slice B4 l4.length d4 : Value).ownBlock) (.slice B1 l1.length d1) l1 ∧ Kd.R (Kd.int .i64) 3 w' W.heap.size (fun _ => True) (.slice B2 l2.length d2) l2 ∧
      Kd.R k36 36 w' W.heap.size (fun k_ => some k_ ≠ (.slice B1 l1.length d1 : Value).ownBlock) (.slice B4 l4.length d4) l4 ∧ Below W.heap.size W w' := by
  have h : tailwaterref08_Twin.f a l1 l2 j l4 p0 p1 p2 y t = some (a, l1, l2, j, l4, p0, p1, p2, y, t) := by
    unfold tailwaterref08_Twin.f
    simp only [Option.bind_some, List.length_nil, List.nil_append]
    rw [if_pos (by omega), if_pos (by omega), if_pos (by omega)]
  refine (tailwaterref08_Twin.calls a _ _ l1 _ _ l2 j _ _ l4 p0 p1 p2 y t a l1 l2 j l4 p0 p1 p2 y t W o.r1 o.h1 o.r2 o.h2 o.r4 o.h4 h).mono ?_
  rintro e w' ⟨v1, v2, v4, rfl, k1, k2, k4, hb⟩
  obtain ⟨B1, d1, rfl⟩ := Kd.R_slice k1
  obtain ⟨B2, d2, rfl⟩ := Kd.R_slice k2
  obtain ⟨B4, d4, rfl⟩ := Kd.R_slice k4
  exact ⟨B1, d1, B2, d2, B4, d4, rfl, ⟨(Kd.R_reads' k1).2.2, (Kd.R_reads' k1).2.1, (Kd.R_reads' k2).2.2, (Kd.R_reads' k2).2.1, (Kd.R_reads' k4).2.2, (Kd.R_reads' k4).2.1⟩, k1, k2, k4, hb⟩
end
end Go.Proofs.Ytpkamfjkmbakhaa.G
