/- Which queries are valid: the program's answer and the reference's, in plain words. Nothing is assumed. -/
import Derived.Test.YtpkamfjkmbakhaaGPure5
import Derived.Test.YtpkamfjkmbakhaaG3
import Derived.Test.YtpkamfjkmbakhaaG9
import Derived.Test.YtpkamfjkmbakhaaG17
namespace Go.Proofs.Ytpkamfjkmbakhaa.G.Pure
open Go.RowKit Go.Proofs.Ytpkamfjkmbakhaa.G Go.Proofs.YtpkamfjkmbakhaaW.PrintWords Go.Proofs.YtpkamfjkmbakhaaW.PrintLast Go.Proofs.YtpkamfjkmbakhaaW.PrintMore

def q3 (S : List Int) (j : Bool) (w0 w1 w2 : Int) : Int := if src S j = 0 then (if j = true ∧ ¬ w0 = 1 then 8 else win w0 w1 w2) else src S j
def q2 (S : List Int) (j : Bool) (B : List S36) (w0 w1 w2 : Int) : Int := if B.length > 0 ∧ ¬ chk B = 0 then chk B else q3 S j w0 w1 w2
def q1 (a : Int) (A : List S36) (S : List Int) (j : Bool) (B : List S36) (w0 w1 w2 : Int) : Int := if a = 1 then (if A.length > 0 then 8 else q2 S j B w0 w1 w2) else if chk A = 0 then q2 S j B w0 w1 w2 else chk A
/-- Which queries are valid. -/
def qchk (a : Int) (A : List S36) (S : List Int) (j : Bool) (B : List S36) (w0 w1 w2 t : Int) : Int := if a < 1 ∨ a > 4 ∨ t < 1 ∨ t > 2 then 8 else q1 a A S j B w0 w1 w2

theorem prog_query {k : Nat} (hk : 400 ≤ k) (a : Int) (A : List S36) (S : List Int) (j : Bool) (B : List S36) (w0 w1 w2 : Int) (y : Bool) (t : Int) (hA : A.length ≤ 70) (hB : B.length ≤ 70) :
    clauses_Check.f (k + 3) a A S j B w0 w1 w2 y t = some (qchk a A S j B w0 w1 w2 t) := by
  obtain ⟨k, rfl⟩ : ∃ z, k = z + 2 := ⟨k - 2, by omega⟩
  have e3 : clauses_Check.j2 (k + 2 + 1) a A S j B w0 w1 w2 y t = some (q3 S j w0 w1 w2) := by
    rw [clauses_Check.j2, prog_sources, Option.bind_some]
    unfold q3
    by_cases h : src S j = 0
    · rw [if_pos h, if_pos h]
      by_cases h2 : j = true
      · rw [if_pos h2]
        by_cases h3 : w0 = 1
        · rw [if_pos h3, prog_window, Option.bind_some, if_neg (fun g => g.2 h3)]
        · rw [if_neg h3, if_pos ⟨h2, h3⟩]
      · rw [if_neg h2, prog_window, Option.bind_some, if_neg (fun g => h2 g.1)]
    · rw [if_neg h, if_neg h]
  have e2 : clauses_Check.j1 (k + 2 + 1 + 1) a A S j B w0 w1 w2 y t = some (q2 S j B w0 w1 w2) := by
    rw [clauses_Check.j1, e3]
    unfold q2
    by_cases h : B.length > 0
    · rw [if_pos (by omega), pcheck hB (by omega), Option.bind_some]
      by_cases h2 : chk B = 0
      · rw [if_pos h2, if_neg (fun g => g.2 h2)]
      · rw [if_neg h2, if_pos ⟨h, h2⟩]
    · rw [if_neg (by omega), if_neg (fun g => h g.1)]
  have eT : clauses_Check.j0 (k + 2 + 1 + 1 + 1) true a A S j B w0 w1 w2 y t = some 8 := by rw [clauses_Check.j0, if_pos rfl]
  have e1 : clauses_Check.j0 (k + 2 + 1 + 1 + 1) false a A S j B w0 w1 w2 y t = some (q1 a A S j B w0 w1 w2) := by
    rw [clauses_Check.j0, e2, if_neg (by simp)]
    unfold q1
    by_cases h : a = 1
    · rw [if_pos h, if_pos h]
      by_cases h2 : A.length > 0
      · rw [if_pos (by omega), if_pos h2]
      · rw [if_neg (by omega), if_neg h2]
    · rw [if_neg h, if_neg h, pcheck hA (by omega), Option.bind_some]
      by_cases h2 : chk A = 0
      · rw [if_pos h2, if_pos h2]
      · rw [if_neg h2, if_neg h2]
  unfold clauses_Check.f qchk
  rw [show k + 2 + 3 = k + 2 + 1 + 1 + 1 from rfl, eT, e1]
  by_cases h1 : a < 1
  · rw [if_pos h1, if_pos (Or.inl h1)]
  rw [if_neg h1]
  by_cases h2 : a > 4
  · rw [if_pos h2, if_pos (Or.inr (Or.inl h2))]
  rw [if_neg h2]
  by_cases h3 : t = 1
  · rw [if_pos h3, if_neg (by omega)]
  rw [if_neg h3]
  by_cases h4 : t = 2
  · have e : (t != 2) = false := by simp [h4]
    rw [e, e1, if_neg (by omega)]
  · have e : (t != 2) = true := by simp [h4]
    rw [e, eT, if_pos (by omega)]

theorem ref_query {k : Nat} (hk : 400 ≤ k) (a : Int) (A : List S36) (S : List Int) (j : Bool) (B : List S36) (w0 w1 w2 : Int) (y : Bool) (t : Int) (hA : A.length ≤ 70) (hB : B.length ≤ 70) :
    tailwaterref08_Check.f (k + 4) a A S j B w0 w1 w2 y t = some (qchk a A S j B w0 w1 w2 t) := by
  obtain ⟨k, rfl⟩ : ∃ z, k = z + 1 := ⟨k - 1, by omega⟩
  have e4 : tailwaterref08_Check.j3 (k + 1 + 1) false a A S j B w0 w1 w2 y t = some (q3 S j w0 w1 w2) := by
    rw [tailwaterref08_Check.j3, if_neg (by simp), ref_sources S j (by omega), Option.bind_some, Option.bind_some]
    unfold q3
    by_cases h : src S j = 0
    · rw [if_pos h, if_pos h, ref_fits, Option.bind_some]
      have hw := win_cases w0 w1 w2
      by_cases h1 : win w0 w1 w2 = 0
      · rw [if_pos (by simp [h1]), h1]
        by_cases h2 : j = true
        · rw [if_pos h2]
          by_cases h3 : w0 = 1
          · rw [if_pos h3, if_neg (fun g => g.2 h3)]
          · rw [if_neg h3, if_pos ⟨h2, h3⟩]
        · rw [if_neg h2, if_neg (fun g => h2 g.1)]
      · rw [if_neg (by simp [h1]), hw.resolve_left h1]
        split <;> rfl
    · rw [if_neg h, if_neg h]
  have e4' : ∀ x, tailwaterref08_Check.j3 (k + 1 + 1) x a A S j B w0 w1 w2 y t = if x = true then some (chk B) else some (q3 S j w0 w1 w2) := by
    intro x
    cases x with
    | true => rw [tailwaterref08_Check.j3, if_pos rfl, ref_check hB (by omega), Option.bind_some, if_pos rfl]
    | false => rw [e4, if_neg (by simp)]
  have e3 : tailwaterref08_Check.j2 (k + 1 + 1 + 1) false a A S j B w0 w1 w2 y t = some (q2 S j B w0 w1 w2) := by
    rw [tailwaterref08_Check.j2, if_neg (by simp)]
    unfold q2
    by_cases h : B.length > 0
    · rw [if_pos (by omega), ref_check hB (by omega), Option.bind_some, e4']
      by_cases h2 : chk B = 0
      · rw [if_neg (by simp [h2]), if_neg (fun g => g.2 h2)]
      · rw [if_pos (by simp [h2]), if_pos ⟨h, h2⟩]
    · rw [if_neg (by omega), e4, if_neg (fun g => h g.1)]
  have eT2 : tailwaterref08_Check.j2 (k + 1 + 1 + 1) true a A S j B w0 w1 w2 y t = some (chk A) := by
    rw [tailwaterref08_Check.j2, if_pos rfl, ref_check hA (by omega), Option.bind_some]
  have eT : tailwaterref08_Check.j0 (k + 1 + 1 + 1 + 1 + 1) true a A S j B w0 w1 w2 y t = some 8 := by rw [tailwaterref08_Check.j0, if_pos rfl]
  have e2 : ∀ x, tailwaterref08_Check.j1 (k + 1 + 1 + 1 + 1) x a A S j B w0 w1 w2 y t = if x = true then some 8 else if a = 1 then some (q2 S j B w0 w1 w2) else some (if chk A = 0 then q2 S j B w0 w1 w2 else chk A) := by
    intro x
    rw [tailwaterref08_Check.j1]
    cases x with
    | true => rw [if_pos rfl, if_pos rfl]
    | false =>
      simp only [Bool.false_eq_true, if_false]
      by_cases h : a = 1
      · rw [if_pos h, if_pos h, e3]
      · rw [if_neg h, if_neg h, ref_check hA (by omega), Option.bind_some]
        by_cases h2 : chk A = 0
        · have e : (chk A != 0) = false := by simp [h2]
          rw [e, e3, if_pos h2]
        · have e : (chk A != 0) = true := by simp [h2]
          rw [e, eT2, if_neg h2]
  have e1 : tailwaterref08_Check.j0 (k + 1 + 1 + 1 + 1 + 1) false a A S j B w0 w1 w2 y t = some (q1 a A S j B w0 w1 w2) := by
    rw [tailwaterref08_Check.j0, if_neg (by simp)]
    unfold q1
    by_cases h : a = 1
    · rw [if_pos h, if_pos h, e2]
      by_cases h2 : A.length > 0
      · rw [if_pos (by rw [decide_eq_true_eq]; omega), if_pos h2]
      · rw [if_neg (by rw [decide_eq_true_eq]; omega), if_pos h, if_neg h2]
    · rw [if_neg h, if_neg h, e2, if_neg (by simp), if_neg h]
  unfold tailwaterref08_Check.f qchk
  rw [show k + 1 + 4 = k + 1 + 1 + 1 + 1 + 1 from rfl, eT]
  by_cases h1 : a < 1
  · rw [if_pos h1, if_pos (Or.inl h1)]
  rw [if_neg h1]
  by_cases h2 : a > 4
  · rw [if_pos h2, if_pos (Or.inr (Or.inl h2))]
  rw [if_neg h2]
  by_cases h3 : t < 1
  · rw [if_pos h3, if_pos (Or.inr (Or.inr (Or.inl h3)))]
  rw [if_neg h3]
  by_cases h4 : t > 2
  · rw [decide_eq_true h4, eT, if_pos (Or.inr (Or.inr (Or.inr h4)))]
  · rw [decide_eq_false h4, e1, if_neg (by omega)]

theorem great_one (l : List S36) : tailwaterref04_Great.f l = some (decide (l.length > 70)) := by
  unfold tailwaterref04_Great.f
  congr 1
  rw [decide_eq_decide]; omega

/-- Which queries are not great. -/
theorem great_query (a : Int) (A : List S36) (S : List Int) (j : Bool) (B : List S36) (w0 w1 w2 : Int) (y : Bool) (t : Int) :
    ∃ r, tailwaterref08_Great.f a A S j B w0 w1 w2 y t = some r ∧ (r = false ↔ A.length ≤ 70 ∧ B.length ≤ 70 ∧ S.length ≤ 10) := by
  unfold tailwaterref08_Great.f
  rw [great_one, Option.bind_some, great_one, Option.bind_some]
  by_cases h1 : A.length > 70
  · rw [if_pos (by simpa using h1)]; exact ⟨true, rfl, by simp; omega⟩
  rw [if_neg (by simpa using h1)]
  by_cases h2 : B.length > 70
  · rw [if_pos (by simpa using h2)]; exact ⟨true, rfl, by simp; omega⟩
  rw [if_neg (by simpa using h2)]
  exact ⟨_, rfl, by simp; omega⟩

theorem src_zero {S : List Int} {j : Bool} : src S j = 0 ↔ S.length ≤ 4 ∧ ¬ S.length = 0 ∧ (j = true → S.length = 2) ∧ ¬ S.any outB = true ∧ S.Nodup := by
  unfold src
  by_cases h1 : S.length > 4
  · rw [if_pos h1]; simp; omega
  rw [if_neg h1]
  by_cases h2 : S.length = 0 ∨ (j = true ∧ ¬ S.length = 2) ∨ S.any outB = true
  · rw [if_pos h2]
    refine ⟨fun g => by omega, fun g => ?_⟩
    rcases h2 with h | h | h
    · exact absurd h g.2.1
    · exact absurd (g.2.2.1 h.1) h.2
    · exact absurd h g.2.2.2.1
  · rw [if_neg h2]
    have h3 : ¬ S.length = 0 := fun g => h2 (Or.inl g)
    have h4 : j = true → S.length = 2 := fun g => Classical.byContradiction fun e => h2 (Or.inr (Or.inl ⟨g, e⟩))
    have h5 : ¬ S.any outB = true := fun g => h2 (Or.inr (Or.inr g))
    by_cases h : S.Nodup
    · rw [if_pos h]; exact ⟨fun _ => ⟨by omega, h3, h4, h5, h⟩, fun _ => rfl⟩
    · rw [if_neg h]; exact ⟨fun g => by omega, fun g => absurd g.2.2.2.2 h⟩

/-- A valid query's parts. -/
theorem qchk_zero {a : Int} {A : List S36} {S : List Int} {j : Bool} {B : List S36} {w0 w1 w2 t : Int} : qchk a A S j B w0 w1 w2 t = 0 ↔ (1 ≤ a ∧ a ≤ 4 ∧ 1 ≤ t ∧ t ≤ 2) ∧ (if a = 1 then A.length = 0 else chk A = 0) ∧ (B.length = 0 ∨ chk B = 0) ∧ src S j = 0 ∧ ¬ (j = true ∧ ¬ w0 = 1) ∧ win w0 w1 w2 = 0 := by
  have h3 : q3 S j w0 w1 w2 = 0 ↔ src S j = 0 ∧ ¬ (j = true ∧ ¬ w0 = 1) ∧ win w0 w1 w2 = 0 := by
    unfold q3
    by_cases h : src S j = 0
    · rw [if_pos h]
      by_cases h2 : j = true ∧ ¬ w0 = 1
      · rw [if_pos h2]; exact ⟨fun g => by omega, fun g => absurd h2 g.2.1⟩
      · rw [if_neg h2]; exact ⟨fun g => ⟨h, h2, g⟩, fun g => g.2.2⟩
    · rw [if_neg h]; exact ⟨fun g => absurd g h, fun g => absurd g.1 h⟩
  have h2 : q2 S j B w0 w1 w2 = 0 ↔ (B.length = 0 ∨ chk B = 0) ∧ q3 S j w0 w1 w2 = 0 := by
    unfold q2
    by_cases h : B.length > 0 ∧ ¬ chk B = 0
    · rw [if_pos h]; exact ⟨fun g => absurd g h.2, fun g => g.1.elim (fun e => by omega) (fun e => absurd e h.2)⟩
    · rw [if_neg h]
      refine ⟨fun g => ⟨?_, g⟩, fun g => g.2⟩
      by_cases e : B.length = 0
      · exact Or.inl e
      · exact Or.inr (Classical.byContradiction fun f => h ⟨by omega, f⟩)
  unfold qchk q1
  by_cases h : a < 1 ∨ a > 4 ∨ t < 1 ∨ t > 2
  · rw [if_pos h]; exact ⟨fun g => by omega, fun g => by omega⟩
  rw [if_neg h]
  by_cases h1 : a = 1
  · rw [if_pos h1, if_pos h1]
    by_cases e : A.length > 0
    · rw [if_pos e]; exact ⟨fun g => by omega, fun g => by omega⟩
    · rw [if_neg e, h2, h3]; exact ⟨fun g => ⟨by omega, by omega, g⟩, fun g => g.2.2⟩
  · rw [if_neg h1, if_neg h1]
    by_cases e : chk A = 0
    · rw [if_pos e, h2, h3]; exact ⟨fun g => ⟨by omega, e, g⟩, fun g => g.2.2⟩
    · rw [if_neg e]; exact ⟨fun g => absurd g e, fun g => absurd g.2.1 e⟩

end Go.Proofs.Ytpkamfjkmbakhaa.G.Pure
