/- Joins. Nothing is assumed. -/
import Derived.Test.YtpkamfjkmbakhaaDPure6
import Derived.Test.YtpkamfjkmbakhaaD17
import Derived.Test.YtpkamfjkmbakhaaDOpens
namespace Go.Proofs.Ytpkamfjkmbakhaa.D.Pure
open Go.RowKit Go.Proofs.Ytpkamfjkmbakhaa.D Go.Proofs.YtpkamfjkmbakhaaW.PrintWords Go.Proofs.YtpkamfjkmbakhaaW.PrintLast Go.Proofs.YtpkamfjkmbakhaaW.PrintMore

theorem alive_is {k : Nat} (hk : 60 ≤ k) : tailwaterlaw08_alive.f k = some true := by
  have h : tailwaterlaw08_alive.f 60 = some true := by decide +kernel
  have := more_rounds (g := tailwaterlaw08_alive.f) (fun k => tailwaterlaw08_alive.mono k) 60 (k - 60) _ h
  rwa [show 60 + (k - 60) = k by omega] at this

theorem ClausesJoin_ok {k : Nat} (hk : 410 ≤ k) (a : Int) (A : List S36) (S : List Int) (j : Bool) (B : List S36) (w0 w1 w2 : Int) (y : Bool) (t : Int) :
    tailwaterlaw08_ClausesJoin.f (k + 6) a A S j B w0 w1 w2 y t = some true := by
  have no : tailwaterlaw08_ClausesJoin.j0 (k + 6) true a A S j B w0 w1 w2 y t = some true := by
    rw [tailwaterlaw08_ClausesJoin.j0, if_pos rfl, alive_is (by omega)]; rfl
  unfold tailwaterlaw08_ClausesJoin.f
  obtain ⟨r, e, hr⟩ := great_query a A S j B w0 w1 w2 y t
  rw [e, Option.bind_some]
  by_cases h : r = true
  · rw [if_pos h]; exact no
  rw [if_neg h]
  obtain ⟨hA, hB, _⟩ := hr.1 (by simpa using h)
  rw [show k + 6 = (k + 2) + 4 by omega, ref_query (by omega) a A S j B w0 w1 w2 y t hA hB, Option.bind_some]
  by_cases hq : qchk a A S j B w0 w1 w2 t = 0
  rotate_left
  · have e : (qchk a A S j B w0 w1 w2 t != 0) = true := by simp [hq]
    rw [e]; exact no
  have e0 : (qchk a A S j B w0 w1 w2 t != 0) = false := by simp [hq]
  rw [e0, tailwaterlaw08_ClausesJoin.j0, if_neg (by simp)]
  obtain ⟨g1, g2, g3, g4, g5, g6⟩ := qchk_zero.1 hq
  have s4 := src_zero.1 g4
  have hsrc : ∀ i : Bool, src S i = if i = true ∧ ¬ S.length = 2 then 8 else 0 := by
    intro i
    by_cases h : i = true ∧ ¬ S.length = 2
    · rw [if_pos h]; unfold src; rw [if_neg (by omega), if_pos (Or.inr (Or.inl h))]
    · rw [if_neg h, src_zero]
      exact ⟨s4.1, s4.2.1, fun e => Classical.byContradiction fun f => h ⟨e, f⟩, s4.2.2.2.1, s4.2.2.2.2⟩
  have hoth : qchk a A S (!j) B w0 w1 w2 t = if (!j) = true ∧ ¬ (S.length = 2 ∧ w0 = 1) then 8 else 0 := by
    by_cases h : (!j) = true ∧ ¬ (S.length = 2 ∧ w0 = 1)
    · rw [if_pos h]
      have h2 : q2 S (!j) B w0 w1 w2 = 8 := by
        unfold q2 q3
        rw [if_neg (show ¬ (B.length > 0 ∧ ¬ chk B = 0) from fun g => g3.elim (fun e => by omega) (fun e => g.2 e)), hsrc]
        by_cases h4 : S.length = 2
        · rw [if_neg (show ¬ ((!j) = true ∧ ¬ S.length = 2) from fun g => g.2 h4), if_pos rfl, if_pos ⟨h.1, fun e => h.2 ⟨h4, e⟩⟩]
        · rw [if_pos (show (!j) = true ∧ ¬ S.length = 2 from ⟨h.1, h4⟩), if_neg (by omega)]
      unfold qchk q1
      rw [if_neg (by omega), h2]
      by_cases h1 : a = 1
      · rw [if_pos h1] at g2; rw [if_pos h1, if_neg (by omega)]
      · rw [if_neg h1] at g2; rw [if_neg h1, if_pos g2]
    · rw [if_neg h, qchk_zero]
      refine ⟨g1, g2, g3, ?_, fun g => h ⟨g.1, fun e => g.2 e.2⟩, g6⟩
      rw [hsrc, if_neg (fun g => h ⟨g.1, fun e => g.2 e.1⟩)]
  have key : ∀ both : Bool, both = decide (S.length = 2 ∧ w0 = 1) → tailwaterlaw08_ClausesJoin.j1 (k + 5) both a A S j B w0 w1 w2 y t a A S (!j) B w0 w1 w2 y t = some true := by
    intro both hb
    have pass : tailwaterlaw08_ClausesJoin.j2 (k + 4) both false a A S (!j) B w0 w1 w2 y t = some true := by
      rw [tailwaterlaw08_ClausesJoin.j2, if_neg (by simp), show k + 3 = k + 3 from rfl, prog_query (by omega) a A S (!j) B w0 w1 w2 y t hA hB, Option.bind_some]
      by_cases hbt : S.length = 2 ∧ w0 = 1
      · rw [decide_eq_true hbt] at hb
        rw [if_neg (fun g => g.2 hbt)] at hoth
        rw [hb, hoth, if_pos (by decide), if_pos rfl, alive_is (by omega), Option.bind_some]
      · rw [decide_eq_false hbt] at hb
        have hj : j = false := by
          cases hj : j with
          | false => rfl
          | true =>
            exfalso; apply hbt
            rw [hj] at s4 g5
            exact ⟨s4.2.2.1 rfl, Classical.byContradiction fun f => g5 ⟨rfl, f⟩⟩
        rw [if_pos ⟨by rw [hj]; rfl, hbt⟩] at hoth
        rw [hb, hoth, if_pos (by decide), if_neg (by simp), Option.bind_some, if_pos rfl, alive_is (by omega), Option.bind_some]
    rw [tailwaterlaw08_ClausesJoin.j1]
    by_cases hj : j = true
    · rw [if_pos hj]
      have : both = true := by
        rw [hb, decide_eq_true_eq]
        exact ⟨s4.2.2.1 hj, Classical.byContradiction fun f => g5 ⟨hj, f⟩⟩
      rw [show (!both) = false by rw [this]; rfl]
      exact pass
    · rw [if_neg hj]; exact pass
  by_cases h2 : S.length = 2
  · rw [if_pos (by omega)]
    refine key _ ?_
    by_cases h3 : w0 = 1 <;> simp [h2, h3]
  · rw [if_neg (by omega)]
    exact key _ (by simp [h2])

/-- The law. -/
theorem ClausesJoin (a : Int) (A : List S36) (S : List Int) (j : Bool) (B : List S36) (w0 w1 w2 : Int) (y : Bool) (t : Int) (_ : ∀ x ∈ A, OpensD.W36 x) (_ : ∀ x ∈ S, (Lit.int .i64 x).wf = true) (_ : ∀ x ∈ B, OpensD.W36 x) : ∃ k, tailwaterlaw08_ClausesJoin.f k a A S j B w0 w1 w2 y t = some true :=
  ⟨416, ClausesJoin_ok (Nat.le_refl _) a A S j B w0 w1 w2 y t⟩

end Go.Proofs.Ytpkamfjkmbakhaa.D.Pure
