/- The program's answers for queries are the reference's. Nothing is assumed. -/
import Derived.Test.YtpkamfjkmbakhaaGPure7
import Derived.Test.YtpkamfjkmbakhaaG29
namespace Go.Proofs.Ytpkamfjkmbakhaa.G.Pure
open Go.RowKit Go.Proofs.Ytpkamfjkmbakhaa.G Go.Proofs.YtpkamfjkmbakhaaW.PrintWords Go.Proofs.YtpkamfjkmbakhaaW.PrintLast Go.Proofs.YtpkamfjkmbakhaaW.PrintMore

def Qu.rsame (k : Nat) (p q : Qu) : Option (Bool × Int) := tailwaterref08_Same.f k p.a p.A p.S p.j p.B p.w0 p.w1 p.w2 p.y p.t q.a q.A q.S q.j q.B q.w0 q.w1 q.w2 q.y q.t

theorem rsame_is {p q : Qu} (hp : p.small) (hq : q.small) {k : Nat} (hk : 410 ≤ k) : p.rsame k q = some (if p.chk = 0 then (if q.chk = 0 then (decide (p.bare = q.bare), 0) else (false, q.chk)) else (false, p.chk)) := by
  have e1 := rcheck_is hp hk
  have e2 := rcheck_is hq hk
  have e3 := ralike_is hp q hk
  unfold Qu.rcheck at e1 e2
  unfold Qu.ralike at e3
  unfold Qu.rsame tailwaterref08_Same.f
  rw [e1, Option.bind_some, Option.bind_some]
  by_cases h : p.chk = 0
  · rw [if_pos h, if_pos h, e2, Option.bind_some, Option.bind_some]
    by_cases h' : q.chk = 0
    · rw [if_pos h', if_pos h', e3, Option.bind_some]
    · rw [if_neg h', if_neg h']
  · rw [if_neg h, if_neg h]

/-- What the walk of ClausesQueries reads. -/
theorem queries_all (p q : Qu) (hp : p.small) (hq : q.small) : ∃ (g : Bool) (e : Int) (g' : Bool) (e' : Int) (c c' : Int),
    clauses_Same.f 500 p.a p.A p.S p.j p.B p.w0 p.w1 p.w2 p.y p.t q.a q.A q.S q.j q.B q.w0 q.w1 q.w2 q.y q.t = some (g, e) ∧
    tailwaterref08_Same.f 500 p.a p.A p.S p.j p.B p.w0 p.w1 p.w2 p.y p.t q.a q.A q.S q.j q.B q.w0 q.w1 q.w2 q.y q.t = some (g', e') ∧ (g == g') = true ∧ (e == e') = true ∧
    clauses_Check.f 500 p.a p.A p.S p.j p.B p.w0 p.w1 p.w2 p.y p.t = some c ∧ tailwaterref08_Check.f 500 p.a p.A p.S p.j p.B p.w0 p.w1 p.w2 p.y p.t = some c' ∧ (c == c') = true ∧
    tailwaterref08_Equal.f 500 p.a p.A p.S p.j p.B p.w0 p.w1 p.w2 p.y p.t p.a p.A p.S p.j p.B p.w0 p.w1 p.w2 p.y p.t = some true := by
  have e1 := same_is hp hq (k := 500) (by omega)
  have e2 := rsame_is hp hq (k := 500) (by omega)
  have e5 := requal_is hp p (k := 500) (by omega)
  rw [decide_eq_true rfl] at e5
  refine ⟨_, _, _, _, _, _, e1, e2, by simp, by simp, check_is hp (k := 500) (by omega), rcheck_is hp (k := 500) (by omega), by simp, e5⟩

end Go.Proofs.Ytpkamfjkmbakhaa.G.Pure
