/- The windows of a time are as many as told, each has the time and begins every later than the one before. Nothing is assumed: the statement is over all whole numbers of 64 bits. -/
import Derived.Test.YtheobaaegpfbjaaS4
import Derived.Test.YtheobaaegpfbjaaSPure1
namespace Go.Proofs.Ytheobaaegpfbjaa.Pure
open Go.RowKit Go.Proofs.Ytheobaaegpfbjaa.S Go.Proofs.YtheobaaegpfbjaaW.PrintWords Go.Proofs.YtheobaaegpfbjaaW.PrintLast Go.Proofs.YtheobaaegpfbjaaW.PrintMore

theorem many_loop {t size every n : Int} {m : Nat} (g : Good size every) (h5 : -1099511627776 ≤ t) (h6 : t ≤ 1099511627776) (T : Told t size every n m) (d : Nat) :
    ∀ (k i : Nat), i + d = m → d < k → tailwaterlaw14_SlideMany.l0 k t size every true (spans n every size m) i = some true := by
  obtain ⟨g1, g2, g3, g4⟩ := g
  have q := quo (t := t) g1
  obtain ⟨t1, t2, t3, t4, t5⟩ := T
  have l3 : (n + m - 1) * every ≤ t := by rw [t3]; exact q.1
  induction d with
  | zero =>
    intro k i hi hk
    obtain ⟨k, rfl⟩ : ∃ z, k = z + 1 := ⟨k - 1, by omega⟩
    simp only [tailwaterlaw14_SlideMany.l0, spans_length]
    rw [if_neg (by omega)]
  | succ d ih =>
    intro k i hi hk
    obtain ⟨k, rfl⟩ : ∃ z, k = z + 1 := ⟨k - 1, by omega⟩
    have nx := ih k (i + 1) (by omega) (by omega)
    have f0 : (0 : Int) ≤ i := by omega
    have f1 : (i : Int) < m := by omega
    have f2 : ¬ every = 0 := by omega
    have a1 : (n + i) * every ≤ (n + m - 1) * every := mul_le g1 (by omega)
    have a2 : n * every ≤ (n + i) * every := mul_le g1 (by omega)
    rw [pred_mul'] at t5
    have e1 : (n + i) * every + size - (n + i) * every = size := by omega
    have e2 : (n + i) * every = (n + (i - 1)) * every + every := by rw [← succ_mul', show n + ((i : Int) - 1) + 1 = n + i by omega]
    have f3 : ¬ (n + i) * every > t := by generalize (n + i) * every = P at *; omega
    have f4 : ¬ t ≥ (n + i) * every + size := by generalize (n + i) * every = P at *; omega
    have f6 : -9223372036854775808 ≤ (n + i) * every ∧ (n + i) * every ≤ 9223372036854775807 := by generalize (n + i) * every = P at *; omega
    have f7 : -9223372036854775808 ≤ (i : Int) + 1 ∧ (i : Int) + 1 ≤ 9223372036854775807 := by omega
    have f8 : (i : Int) + 1 = ((i + 1 : Nat) : Int) := by omega
    have f9 : -9223372036854775808 ≤ size ∧ size ≤ 9223372036854775807 := by omega
    have g0 : (i : Int) > 0 → (0 : Int) ≤ i - 1 ∧ (i : Int) - 1 < m ∧ -9223372036854775808 ≤ (i : Int) - 1 ∧ (i : Int) - 1 ≤ 9223372036854775807 := by omega
    have f5 : wrap64 ((n + (i - 1)) * every + every) = (n + i) * every := by rw [← e2, w64 f6]
    have w1 : wrap64 ((i : Int) + 1) = ((i + 1 : Nat) : Int) := by rw [w64 f7, f8]
    simp only [tailwaterlaw14_SlideMany.l0, spans_length]
    rw [if_pos f1, if_pos f0, if_neg f2, spans_rd f0 f1, if_pos (Int.mul_tmod_left _ _)]
    simp only []
    rw [e1, w64 f9, if_pos rfl, if_neg f3, if_neg f4]
    by_cases z : (i : Int) > 0
    · obtain ⟨z0, z1, z2⟩ := g0 z
      rw [if_pos z, w64 z2, if_pos z0, if_pos z1, spans_rd z0 z1]
      simp only []
      rw [f5, if_pos rfl, w1, nx]
    · rw [if_neg z, w1, nx]
theorem SlideMany : tailwaterlaw14_SlideMany.Pure := by
  intro t size every _ _ _
  refine ⟨40, ?_⟩
  unfold tailwaterlaw14_SlideMany.f
  rw [alive_ok, fit_eq 39]
  simp only [Option.bind_some]
  by_cases g : Good size every ∧ -1099511627776 ≤ t ∧ t ≤ 1099511627776
  · rw [decide_eq_true g]
    obtain ⟨g, h5, h6⟩ := g
    obtain ⟨n, m, T, hA⟩ := all_eq g h5 h6 19
    have L := many_loop g h5 h6 T m 38 0 (by omega) (by have := T.most; omega)
    obtain ⟨g1, g2, g3, g4⟩ := g
    have q := quo (t := t) g1
    obtain ⟨t1, t2, t3, t4, t5⟩ := T
    have b0 : 0 ≤ size / every := Int.ediv_nonneg (by omega) (by omega)
    have b1 : size / every ≤ m := by
      have : size < (m + 1) * every := by
        have e1 : (n + m - 1) * every = (n - 1) * every + m * every := by rw [← Int.add_mul, show n - 1 + (m : Int) = n + m - 1 by omega]
        rw [t3] at e1
        rw [succ_mul']
        omega
      have z := Int.ediv_lt_of_lt_mul (show 0 < every by omega) this
      omega
    have b2 : (m : Int) ≤ (size + every - 1) / every := by
      apply Int.le_ediv_of_mul_le (by omega)
      have e1 : (n + m - 1) * every = n * every + m * every - every := by rw [pred_mul', Int.add_mul]
      rw [t3] at e1
      omega
    have b3 : (size + every - 1) / every ≤ 1099511627776 := (quo_bd (t := size + every - 1) g1 (by omega) (by omega)).2
    simp only [if_true, tailwaterlaw14_SlideMany.j0]
    rw [hA]
    simp only [Option.bind_some, if_true, Bool.not_true, Bool.false_eq_true, if_false, spans_length]
    rw [if_neg (by omega), Int.tdiv_eq_ediv_of_nonneg (by omega), w64 (x := size / every) (by omega), if_neg (by omega), w64 (x := size + every) (by omega), w64 (x := size + every - 1) (by omega), Int.tdiv_eq_ediv_of_nonneg (by omega), w64 (x := (size + every - 1) / every) (by omega), if_neg (by omega), if_neg (by omega), decide_eq_false (show ¬ (m : Int) > 16 by omega)]
    simp only [tailwaterlaw14_SlideMany.j1, Bool.false_eq_true, if_false]
    exact L
  · rw [decide_eq_false g]
    simp only [Bool.false_eq_true, if_false, tailwaterlaw14_SlideMany.j0, if_true]
end Go.Proofs.Ytheobaaegpfbjaa.Pure
