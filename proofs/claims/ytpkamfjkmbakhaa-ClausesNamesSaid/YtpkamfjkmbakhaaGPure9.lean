/- A valid query, one part replaced: what it answers then. Nothing is assumed. -/
import Derived.Test.YtpkamfjkmbakhaaGPure6
import Derived.Test.YtpkamfjkmbakhaaG13
namespace Go.Proofs.Ytpkamfjkmbakhaa.G.Pure
open Go.RowKit Go.Proofs.Ytpkamfjkmbakhaa.G Go.Proofs.YtpkamfjkmbakhaaW.PrintWords Go.Proofs.YtpkamfjkmbakhaaW.PrintLast Go.Proofs.YtpkamfjkmbakhaaW.PrintMore

theorem alive_is {k : Nat} (hk : 60 ≤ k) : tailwaterlaw08_alive.f k = some true := by
  have h : tailwaterlaw08_alive.f 60 = some true := by decide +kernel
  have := more_rounds (g := tailwaterlaw08_alive.f) (fun k => tailwaterlaw08_alive.mono k) 60 (k - 60) _ h
  rwa [show 60 + (k - 60) = k by omega] at this

theorem q1_of {a : Int} {A : List S36} {S : List Int} {j : Bool} {B : List S36} {w0 w1 w2 : Int} (h : if a = 1 then A.length = 0 else chk A = 0) : q1 a A S j B w0 w1 w2 = q2 S j B w0 w1 w2 := by
  unfold q1
  by_cases h1 : a = 1
  · rw [if_pos h1] at h; rw [if_pos h1, if_neg (by omega)]
  · rw [if_neg h1] at h; rw [if_neg h1, if_pos h]
theorem q2_of {S : List Int} {j : Bool} {B : List S36} {w0 w1 w2 : Int} (h : B.length = 0 ∨ chk B = 0) : q2 S j B w0 w1 w2 = q3 S j w0 w1 w2 := by
  unfold q2
  rw [if_neg (fun g => h.elim (fun e => by omega) (fun e => g.2 e))]

theorem rep_window {a : Int} {A : List S36} {S : List Int} {B : List S36} {w0 w1 w2 t : Int} (h : qchk a A S false B w0 w1 w2 t = 0) (v0 v1 v2 : Int) : qchk a A S false B v0 v1 v2 t = win v0 v1 v2 := by
  obtain ⟨g1, g2, g3, g4, g5, g6⟩ := qchk_zero.1 h
  unfold qchk
  rw [if_neg (by omega), q1_of g2, q2_of g3]
  unfold q3
  rw [if_pos g4, if_neg (by simp)]
theorem rep_sources {a : Int} {A : List S36} {S : List Int} {B : List S36} {w0 w1 w2 t : Int} (h : qchk a A S false B w0 w1 w2 t = 0) (l : List Int) : qchk a A l false B w0 w1 w2 t = src l false := by
  obtain ⟨g1, g2, g3, g4, g5, g6⟩ := qchk_zero.1 h
  unfold qchk
  rw [if_neg (by omega), q1_of g2, q2_of g3]
  unfold q3
  by_cases e : src l false = 0
  · rw [if_pos e, if_neg (by simp), g6, e]
  · rw [if_neg e]
theorem rep_arg {a : Int} {A : List S36} {S : List Int} {B : List S36} {w0 w1 w2 t : Int} (h : qchk a A S false B w0 w1 w2 t = 0) (x : List S36) : qchk 4 x S false B w0 w1 w2 t = chk x := by
  obtain ⟨g1, g2, g3, g4, g5, g6⟩ := qchk_zero.1 h
  unfold qchk q1
  rw [if_neg (by omega), if_neg (by omega)]
  by_cases e : chk x = 0
  · rw [if_pos e, q2_of g3, e]
    unfold q3
    rw [if_pos g4, if_neg (by simp), g6]
  · rw [if_neg e]
theorem rep_where {a : Int} {A : List S36} {S : List Int} {B : List S36} {w0 w1 w2 t : Int} (h : qchk a A S false B w0 w1 w2 t = 0) (x : List S36) : qchk a A S false x w0 w1 w2 t = if x.length = 0 then 0 else chk x := by
  obtain ⟨g1, g2, g3, g4, g5, g6⟩ := qchk_zero.1 h
  have e3 : q3 S false w0 w1 w2 = 0 := by unfold q3; rw [if_pos g4, if_neg (by simp), g6]
  unfold qchk
  rw [if_neg (by omega), q1_of g2]
  unfold q2
  rw [e3]
  by_cases e : x.length = 0
  · rw [if_pos e, if_neg (by omega)]
  · rw [if_neg e]
    by_cases e2 : chk x = 0
    · rw [e2, if_neg (by simp)]
    · rw [if_pos ⟨by omega, e2⟩]

theorem check500 (a : Int) (A : List S36) (S : List Int) (j : Bool) (B : List S36) (w0 w1 w2 : Int) (y : Bool) (t : Int) (hA : A.length ≤ 70) (hB : B.length ≤ 70) : clauses_Check.f 500 a A S j B w0 w1 w2 y t = some (qchk a A S j B w0 w1 w2 t) :=
  prog_query (k := 497) (by omega) a A S j B w0 w1 w2 y t hA hB
theorem rcheck500 (a : Int) (A : List S36) (S : List Int) (j : Bool) (B : List S36) (w0 w1 w2 : Int) (y : Bool) (t : Int) (hA : A.length ≤ 70) (hB : B.length ≤ 70) : tailwaterref08_Check.f 500 a A S j B w0 w1 w2 y t = some (qchk a A S j B w0 w1 w2 t) :=
  ref_query (k := 496) (by omega) a A S j B w0 w1 w2 y t hA hB
theorem alive500 : tailwaterlaw08_alive.f 500 = some true := alive_is (by omega)

/-- What the walk of ClausesReplace reads, for a valid query. -/
theorem replace_all {a : Int} {A : List S36} {S : List Int} {B : List S36} {w0 w1 w2 : Int} {y : Bool} {t : Int} (hA : A.length ≤ 70) (hB : B.length ≤ 70) (h : qchk a A S false B w0 w1 w2 t = 0) (v0 v1 v2 : Int) (l : List Int) (x : List S36) (hx : x.length ≤ 70) :
    clauses_Check.f 500 a A S false B w0 w1 w2 y t = some 0 ∧
    ∃ ta tw tb ts td te tc : Int, clauses_Check.f 500 a A S false B v0 v1 v2 y t = some ta ∧ clauses_Window.f 500 v0 v1 v2 = some tw ∧ (ta != tw) = false ∧
      clauses_Check.f 500 a A l false B w0 w1 w2 y t = some tb ∧ clauses_Sources.f l false = some ts ∧ (tb != ts) = false ∧
      clauses_Check.f 500 4 x S false B w0 w1 w2 y t = some td ∧ nodes_Check.f 500 x = some te ∧ (td != te) = false ∧
      clauses_Check.f 500 a A S false x w0 w1 w2 y t = some tc ∧ (x.length = 0 → (tc == 0) = true) ∧ (¬ x.length = 0 → (tc == te) = true) := by
  refine ⟨by rw [check500 _ _ _ _ _ _ _ _ _ _ hA hB, h], _, _, _, _, _, _, _, check500 _ _ _ _ _ _ _ _ _ _ hA hB, prog_window v0 v1 v2 (k := 498), ?_, check500 _ _ _ _ _ _ _ _ _ _ hA hB, prog_sources l false, ?_, check500 _ _ _ _ _ _ _ _ _ _ hx hB, pcheck hx (by omega), ?_, check500 _ _ _ _ _ _ _ _ _ _ hA hx, ?_, ?_⟩
  · rw [rep_window h]; simp
  · rw [rep_sources h]; simp
  · rw [rep_arg h]; simp
  · intro e; rw [rep_where h, if_pos e]; rfl
  · intro e; rw [rep_where h, if_neg e]; simp

end Go.Proofs.Ytpkamfjkmbakhaa.G.Pure
