/- The window of a time begins at the time, or before, and ends behind it, has as many times as its size, and is told by its number. Nothing is assumed: the statement is over all whole numbers of 64 bits. -/
import Derived.Test.YtheobaaegpfbjaaPTumbleOnex2
namespace Go.Proofs.Ytheobaaegpfbjaa.Pure
open Go.RowKit Go.Proofs.Ytheobaaegpfbjaa.PTumbleOne Go.Proofs.YtheobaaegpfbjaaW.PrintWords Go.Proofs.YtheobaaegpfbjaaW.PrintLast

/-- the error of a time and a size -/
def chk (t s : Int) : Int := if s < 1 then 2 else if s > 1073741824 then 2 else if t < -1099511627776 then 16 else if t > 1099511627776 then 16 else 0
theorem chk_zero {t s : Int} (h : chk t s = 0) : 1 ≤ s ∧ s ≤ 1073741824 ∧ -1099511627776 ≤ t ∧ t ≤ 1099511627776 := by
  unfold chk at h
  repeat' split at h
  all_goals omega
theorem chk_ok {t s : Int} (h : 1 ≤ s ∧ s ≤ 1073741824 ∧ -1099511627776 ≤ t ∧ t ≤ 1099511627776) : chk t s = 0 := by
  unfold chk
  rw [if_neg (by omega), if_neg (by omega), if_neg (by omega), if_neg (by omega)]
theorem check_eq (k : Nat) (t s : Int) : tumble_check.f (k + 1) t s = some (chk t s) := by
  unfold tumble_check.f chk
  simp only [tumble_check.j0]
  by_cases h1 : s < 1
  · simp [h1]
  · by_cases h2 : s > 1073741824
    · simp [h1, h2]
    · simp only [h1, h2]
      simp only [if_false, decide_false, Bool.false_eq_true]
      repeat' split
      all_goals rfl
theorem w64 {x : Int} (h : -9223372036854775808 ≤ x ∧ x ≤ 9223372036854775807) : wrap64 x = x := by
  unfold wrap64
  omega
/-- a quotient, rounded down, and what is told of it -/
theorem quo {t s : Int} (h : 1 ≤ s) : t / s * s ≤ t ∧ t < t / s * s + s := by
  have a := Int.mul_ediv_add_emod t s
  have b := Int.emod_nonneg t (show s ≠ 0 by omega)
  have c := Int.emod_lt_of_pos t (show 0 < s by omega)
  rw [Int.mul_comm] at a
  generalize t / s * s = P at *
  omega
theorem quo_bd {t s : Int} (h : 1 ≤ s) (a : -1099511627776 ≤ t) (b : t ≤ 1099511627776) : -1099511627776 ≤ t / s ∧ t / s ≤ 1099511627776 := by
  constructor
  · apply Int.le_ediv_of_mul_le (by omega)
    have : 0 ≤ 1099511627776 * (s - 1) := Int.mul_nonneg (by omega) (by omega)
    omega
  · apply Int.ediv_le_of_le_mul (by omega)
    have : 0 ≤ 1099511627776 * (s - 1) := Int.mul_nonneg (by omega) (by omega)
    omega
theorem tdiv_floor (t s : Int) (h : 1 ≤ s) : (if Int.tmod t s < 0 then Int.tdiv t s - 1 else Int.tdiv t s) = t / s := by
  rcases Int.le_total 0 t with h0 | h0
  · rw [if_neg (by have := Int.tmod_nonneg s h0; omega), Int.tdiv_eq_ediv_of_nonneg h0]
  · have e : Int.tdiv t s = -((-t) / s) := by
      rw [show t = -(-t) by omega, Int.neg_tdiv, Int.tdiv_eq_ediv_of_nonneg (by omega), show - - -t = -t by omega]
    have m : Int.tmod t s = -((-t) % s) := by
      rw [show t = -(-t) by omega, Int.neg_tmod, Int.tmod_eq_emod_of_nonneg (by omega), show - - -t = -t by omega]
    have a := Int.mul_ediv_add_emod (-t) s
    have b := Int.emod_nonneg (-t) (show s ≠ 0 by omega)
    have c := Int.emod_lt_of_pos (-t) (show 0 < s by omega)
    rw [e, m]
    by_cases z : (-t) % s = 0
    · rw [if_neg (by omega)]
      symm
      apply Int.ediv_eq_of_eq_mul_left (by omega)
      rw [Int.neg_mul, Int.mul_comm]
      omega
    · rw [if_pos (by omega)]
      symm
      have q := quo (t := t) (s := s) h
      have r : s * ((-t) / s) < s * (-(t / s)) := by
        rw [Int.mul_neg, Int.mul_comm s (t / s)]
        generalize t / s * s = P at *
        omega
      have r1 := Int.lt_of_mul_lt_mul_left r (by omega)
      have u : s * (-(t / s)) < s * ((-t) / s + 2) := by
        rw [Int.mul_neg, Int.mul_comm s (t / s), Int.mul_add]
        generalize t / s * s = P at *
        omega
      have u1 := Int.lt_of_mul_lt_mul_left u (by omega)
      omega
theorem number_eq (k : Nat) (t s : Int) : tumble_Number.f (k + 1) t s = some (if chk t s = 0 then (t / s, 0) else (0, chk t s)) := by
  unfold tumble_Number.f
  rw [check_eq]
  simp only [Option.bind_some]
  by_cases h : chk t s = 0
  · obtain ⟨h1, h2, h3, h4⟩ := chk_zero h
    rw [if_pos h, if_pos h, if_neg (by omega), ← tdiv_floor t s h1]
    have b := quo_bd h1 h3 h4
    rw [← tdiv_floor t s h1] at b
    by_cases m : Int.tmod t s < 0
    · rw [if_pos m] at b ⊢
      rw [if_pos m, w64 (x := Int.tdiv t s) (by omega), w64 (by omega)]
    · rw [if_neg m] at b ⊢
      rw [if_neg m, w64 (by omega)]
  · rw [if_neg h, if_neg h]
theorem of_eq (k : Nat) (t s : Int) : tumble_Of.f (k + 1) t s = some (if chk t s = 0 then (t / s * s, t / s * s + s, 0) else (0, 0, chk t s)) := by
  unfold tumble_Of.f
  rw [number_eq]
  simp only [Option.bind_some]
  by_cases h : chk t s = 0
  · obtain ⟨h1, h2, h3, h4⟩ := chk_zero h
    have b := quo_bd h1 h3 h4
    have q := quo (t := t) h1
    simp only [if_pos h, if_true]
    have e : (t / s + 1) * s = t / s * s + s := by rw [Int.add_mul, Int.one_mul]
    rw [w64 (x := t / s + 1) (by omega), e]
    generalize t / s * s = P at *
    rw [w64 (by omega), w64 (by omega)]
  · simp only [if_neg h]
theorem alive_ok : tailwaterlaw13_alive.f 9 = some true := by decide +kernel
theorem ref_eq (k : Nat) (t s : Int) : tailwaterref13_Check.f (k + 1) t s = some (chk t s) := by
  unfold tailwaterref13_Check.f chk
  simp only [tailwaterref13_Check.j0]
  by_cases h1 : s < 1
  · simp [h1]
  · by_cases h2 : s > 1073741824
    · simp [h1, h2]
    · simp only [h1, h2]
      simp only [if_false, decide_false, Bool.false_eq_true]
      repeat' split
      all_goals rfl
theorem mul_lt_of {n m s : Int} (h : 1 ≤ s) (l : n * s < m * s) : n < m := Int.lt_of_mul_lt_mul_right l (by omega)
theorem mul_le_of {n m s : Int} (h : 1 ≤ s) (l : n < m) : n * s + s ≤ m * s := by
  have : (n + 1) * s ≤ m * s := Int.mul_le_mul_of_nonneg_right (by omega) (by omega)
  rw [Int.add_mul, Int.one_mul] at this
  exact this
/-- the quotient of a number between two multiples -/
theorem quo_of {n t s : Int} (h : 1 ≤ s) (a : n * s ≤ t) (b : t < n * s + s) : t / s = n := by
  have q := quo (t := t) h
  have x := mul_lt_of (n := n) (m := t / s + 1) h (by rw [Int.add_mul, Int.one_mul]; omega)
  have y := mul_lt_of (n := t / s) (m := n + 1) h (by rw [Int.add_mul, Int.one_mul]; omega)
  omega
theorem TumbleOne : tailwaterlaw13_TumbleOne.Pure := by
  intro t s _ _
  refine ⟨9, ?_⟩
  unfold tailwaterlaw13_TumbleOne.f
  rw [alive_ok, ref_eq 8]
  simp only [Option.bind_some]
  by_cases h : chk t s = 0
  · rw [if_pos h]
    simp only [tailwaterlaw13_TumbleOne.j0]
    rw [of_eq 7, number_eq 7]
    obtain ⟨h1, h2, h3, h4⟩ := chk_zero h
    have q := quo (t := t) h1
    simp only [if_pos h, Option.bind_some, Bool.not_true, Bool.false_eq_true, if_false, if_true]
    have e : Int.tmod (t / s * s) s = 0 := Int.mul_tmod_left _ _
    have d : Int.tdiv (t / s * s) s = t / s := Int.mul_tdiv_cancel _ (by omega)
    have b := quo_bd h1 h3 h4
    rw [e, d, w64 (x := t / s) (by omega)]
    generalize t / s * s = P at *
    rw [if_pos (by omega), if_pos (by omega), w64 (x := P + s - P) (by omega), if_pos (by omega), if_neg (by omega)]
    simp
  · rw [if_neg h]
    simp only [tailwaterlaw13_TumbleOne.j0]
    simp
end Go.Proofs.Ytheobaaegpfbjaa.Pure
