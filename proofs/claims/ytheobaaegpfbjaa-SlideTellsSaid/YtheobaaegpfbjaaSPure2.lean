/- Plain lemmas: what slide.Of, clauses.Window and the comparison of lists of spans answer. Nothing is assumed. -/
import Derived.Test.YtheobaaegpfbjaaSPure1
import Derived.Test.YtheobaaegpfbjaaS6
import Derived.Test.YtheobaaegpfbjaaS7
namespace Go.Proofs.Ytheobaaegpfbjaa.Pure
open Go.RowKit Go.Proofs.Ytheobaaegpfbjaa.S Go.Proofs.YtheobaaegpfbjaaW.PrintWords Go.Proofs.YtheobaaegpfbjaaW.PrintLast Go.Proofs.YtheobaaegpfbjaaW.PrintMore

theorem all_bad {t size every : Int} (g : ¬ Good size every) (k : Nat) : slide_All.f (k + 1) t size every = some ([], 2) := by
  unfold slide_All.f Good at *
  have z : slide_All.j0 (k + 1) t size every true = some ([], 2) := by simp [slide_All.j0]
  by_cases a : mn size every < 1
  · rw [if_pos a, z]
  · rw [if_neg a]
    by_cases b : size > 1073741824
    · rw [if_pos b, z]
    · rw [if_neg b]
      by_cases c : every > size
      · rw [if_pos c, z]
      · rw [if_neg c]
        have d : 1 ≤ every ∧ 1 ≤ size := by unfold mn at a; split at a <;> omega
        have e : -9223372036854775808 ≤ 16 * every ∧ 16 * every ≤ 9223372036854775807 := by omega
        have f : size > 16 * every := by omega
        rw [w64 e, decide_eq_true f, z]
theorem all_far {t size every : Int} (g : Good size every) (h : ¬ (-1099511627776 ≤ t ∧ t ≤ 1099511627776)) (k : Nat) : slide_All.f (k + 2) t size every = some ([], 16) := by
  obtain ⟨g1, g2, g3, g4⟩ := g
  unfold slide_All.f
  have a : ¬ mn size every < 1 := by unfold mn; split <;> omega
  have e : -9223372036854775808 ≤ 16 * every ∧ 16 * every ≤ 9223372036854775807 := by omega
  have c : chk t every = 16 := by
    unfold chk
    rw [if_neg (by omega), if_neg (by omega)]
    by_cases l : t < -1099511627776
    · rw [if_pos l]
    · rw [if_neg l, if_pos (by omega)]
  rw [if_neg a, if_neg (by omega), if_neg (by omega), w64 e, decide_eq_false (by omega)]
  simp only [slide_All.j0, Bool.false_eq_true, if_false]
  rw [of_eq k, c]
  simp
/-- valid windows -/
def Valid (kind size every : Int) : Prop := 1 ≤ size ∧ size ≤ 1073741824 ∧ ((kind = 2 ∧ Good size every) ∨ ((kind = 1 ∨ kind = 3) ∧ every = 0))
instance (kind size every : Int) : Decidable (Valid kind size every) := by unfold Valid; exact inferInstance
theorem window_eq (k : Nat) (kind size every : Int) : clauses_Window.f (k + 2) kind size every = some (if Valid kind size every then 0 else 8) := by
  unfold clauses_Window.f
  by_cases a : size < 1
  · rw [if_pos a, if_neg (by unfold Valid; omega)]
    simp [clauses_Window.j0]
  · rw [if_neg a]
    by_cases b : size > 1073741824
    · rw [decide_eq_true b, if_neg (by unfold Valid; omega)]
      simp [clauses_Window.j0]
    · rw [decide_eq_false b]
      simp only [clauses_Window.j0, clauses_Window.j1, Bool.false_eq_true, if_false]
      by_cases c : kind = 2
      · rw [if_pos c]
        by_cases d : every ≥ 1
        · rw [if_pos d]
          by_cases e : every ≤ size
          · rw [if_pos e]
            have f : -9223372036854775808 ≤ 16 * every ∧ 16 * every ≤ 9223372036854775807 := by omega
            rw [w64 f]
            by_cases h : size ≤ 16 * every
            · rw [if_pos (decide_eq_true h), if_pos (show Valid kind size every by unfold Valid Good; omega)]
            · rw [if_neg (by simpa using h), if_neg (show ¬ Valid kind size every by unfold Valid Good; omega)]
          · rw [if_neg e, if_neg (by unfold Valid Good; omega)]
        · rw [if_neg d, if_neg (by unfold Valid Good; omega)]
      · rw [if_neg c]
        by_cases d : kind = 1
        · rw [if_pos d]
          by_cases e : every = 0
          · rw [if_pos e, if_pos (by unfold Valid Good; omega)]
          · rw [if_neg e, if_neg (by unfold Valid Good; omega)]
        · rw [if_neg d]
          by_cases d3 : kind = 3
          · rw [if_pos d3]
            by_cases e : every = 0
            · rw [if_pos e, if_pos (by unfold Valid Good; omega)]
            · rw [if_neg e, if_neg (by unfold Valid Good; omega)]
          · rw [if_neg d3, if_neg (by unfold Valid Good; omega)]
theorem fits_eq (k : Nat) (kind size every : Int) : tailwaterref08_Fits.f (k + 1) kind size every = some (decide (Valid kind size every)) := by
  unfold tailwaterref08_Fits.f
  by_cases a : size < 1
  · rw [if_pos a, decide_eq_false (show ¬ Valid kind size every by unfold Valid; omega)]
    simp [tailwaterref08_Fits.j0]
  · rw [if_neg a]
    by_cases b : size > 1073741824
    · rw [decide_eq_true b, decide_eq_false (show ¬ Valid kind size every by unfold Valid; omega)]
      simp [tailwaterref08_Fits.j0]
    · rw [decide_eq_false b]
      simp only [tailwaterref08_Fits.j0, Bool.false_eq_true, if_false]
      by_cases c : kind = 2
      · rw [if_pos c]
        by_cases d : every ≥ 1
        · rw [if_pos d]
          by_cases e : every ≤ size
          · rw [if_pos e]
            have f : -9223372036854775808 ≤ 16 * every ∧ 16 * every ≤ 9223372036854775807 := by omega
            rw [w64 f]
            exact congrArg some (decide_eq_decide.mpr (by unfold Valid Good; omega))
          · rw [if_neg e, decide_eq_false (show ¬ Valid kind size every by unfold Valid Good; omega)]
        · rw [if_neg d, decide_eq_false (show ¬ Valid kind size every by unfold Valid Good; omega)]
      · rw [if_neg c]
        by_cases d : kind = 1
        · rw [if_pos d]
          by_cases e : every = 0
          · rw [decide_eq_true (show Valid kind size every by unfold Valid Good; omega)]
            simp [e]
          · rw [decide_eq_false (show ¬ Valid kind size every by unfold Valid Good; omega)]
            simp [e]
        · rw [if_neg d]
          by_cases d3 : kind = 3
          · rw [if_pos d3]
            by_cases e : every = 0
            · rw [decide_eq_true (show Valid kind size every by unfold Valid Good; omega)]
              simp [e]
            · rw [decide_eq_false (show ¬ Valid kind size every by unfold Valid Good; omega)]
              simp [e]
          · rw [if_neg d3, decide_eq_false (show ¬ Valid kind size every by unfold Valid Good; omega)]
/-- a list is the same as itself -/
theorem same_loop (l : List S23) (hl : l.length ≤ 1000) (d : Nat) : ∀ (k i : Nat), i + d = l.length → d < k → tailwaterref14_Same.l0 k l l i = some true := by
  induction d with
  | zero =>
    intro k i hi hk
    obtain ⟨k, rfl⟩ : ∃ z, k = z + 1 := ⟨k - 1, by omega⟩
    simp only [tailwaterref14_Same.l0]
    rw [if_neg (by omega)]
  | succ d ih =>
    intro k i hi hk
    obtain ⟨k, rfl⟩ : ∃ z, k = z + 1 := ⟨k - 1, by omega⟩
    have f1 : (i : Int) < l.length := by omega
    have f0 : (0 : Int) ≤ i := by omega
    have f7 : -9223372036854775808 ≤ (i : Int) + 1 ∧ (i : Int) + 1 ≤ 9223372036854775807 := by omega
    have f8 : (i : Int) + 1 = ((i + 1 : Nat) : Int) := by omega
    have nx := ih k (i + 1) (by omega) (by omega)
    simp only [tailwaterref14_Same.l0]
    rw [if_pos f1, if_pos f0, if_pos f1, if_neg (by simp), w64 f7, f8, nx]
theorem same_refl (l : List S23) (hl : l.length ≤ 1000) (k : Nat) (hk : l.length < k) : tailwaterref14_Same.f k l l = some true := by
  unfold tailwaterref14_Same.f
  rw [if_pos rfl]
  exact same_loop l hl l.length k 0 (by omega) hk
end Go.Proofs.Ytheobaaegpfbjaa.Pure
