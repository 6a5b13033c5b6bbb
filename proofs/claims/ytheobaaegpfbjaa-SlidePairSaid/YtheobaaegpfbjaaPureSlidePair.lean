/- Two times are both in just those windows that both have. Nothing is assumed: the statement is over all whole numbers of 64 bits. -/
import Derived.Test.YtheobaaegpfbjaaS5
import Derived.Test.YtheobaaegpfbjaaSPure1
namespace Go.Proofs.Ytheobaaegpfbjaa.Pure
open Go.RowKit Go.Proofs.Ytheobaaegpfbjaa.S Go.Proofs.YtheobaaegpfbjaaW.PrintWords Go.Proofs.YtheobaaegpfbjaaW.PrintLast Go.Proofs.YtheobaaegpfbjaaW.PrintMore

theorem pair_loop {t later size every n1 n2 : Int} {m1 m2 : Nat} (g : Good size every) (hl : 0 ≤ later) (hl2 : later ≤ 2147483648) (h5 : -1099511627776 ≤ t) (h6 : t ≤ 1099511627776)
    (T : Told t size every n1 m1) (U : Told (t + later) size every n2 m2) (d : Nat) :
    ∀ (k i c : Nat), i + d = m1 → d < k → (n1 + i ≤ n2 → c = 0) → (n2 ≤ n1 + i → (c : Int) = n1 + i - n2) → tailwaterlaw14_SlidePair.l0 k t later true (spans n1 every size m1) (spans n2 every size m2) c i = some true := by
  obtain ⟨g1, g2, g3, g4⟩ := g
  have q := quo (t := t) g1
  have p := quo (t := t + later) g1
  obtain ⟨t1, t2, t3, t4, t5⟩ := T
  obtain ⟨u1, u2, u3, u4, u5⟩ := U
  have mono : t / every ≤ (t + later) / every := Int.ediv_le_ediv (by omega) (by omega)
  have tl : -9223372036854775808 ≤ t + later ∧ t + later ≤ 9223372036854775807 := by omega
  induction d with
  | zero =>
    intro k i c hi hk h1 h2
    obtain ⟨k, rfl⟩ : ∃ z, k = z + 1 := ⟨k - 1, by omega⟩
    have f1 : ¬ (i : Int) < m1 := by omega
    simp only [tailwaterlaw14_SlidePair.l0, spans_length]
    rw [if_neg f1]
    simp only [if_true]
    by_cases e : (c : Int) = m2
    · rw [if_pos e]
    · have c0 : (0 : Int) ≤ c := by omega
      have c1 : (c : Int) < m2 := by omega
      have c2 : t / every + 1 ≤ n2 + c := by omega
      have c3 : (t / every + 1) * every ≤ (n2 + c) * every := mul_le g1 c2
      rw [succ_mul'] at c3
      have c4 : (n2 + c) * every > t := by
        generalize (n2 + c) * every = P at *
        generalize t / every * every = Q at *
        omega
      rw [if_neg e, if_pos c0, if_pos c1, spans_rd c0 c1]
      simp only []
      rw [decide_eq_true c4]
  | succ d ih =>
    intro k i c hi hk h1 h2
    obtain ⟨k, rfl⟩ : ∃ z, k = z + 1 := ⟨k - 1, by omega⟩
    have f0 : (0 : Int) ≤ i := by omega
    have f1 : (i : Int) < m1 := by omega
    have f7 : -9223372036854775808 ≤ (i : Int) + 1 ∧ (i : Int) + 1 ≤ 9223372036854775807 := by omega
    have f8 : (i : Int) + 1 = ((i + 1 : Nat) : Int) := by omega
    simp only [tailwaterlaw14_SlidePair.l0, spans_length]
    rw [if_pos f1, if_pos f0, spans_rd f0 f1, w64 tl, w64 f7, f8]
    simp only []
    by_cases e : n1 + i < n2
    · have a1 : (n1 + i) * every ≤ (n2 - 1) * every := mul_le g1 (by omega)
      have a2 : (n1 + i) * every + size ≤ t + later := by
        generalize (n1 + i) * every = P at *
        generalize (n2 - 1) * every = Q at *
        omega
      rw [if_pos a2]
      exact ih k (i + 1) c (by omega) (by omega) (by omega) (by omega)
    · have a1 : n2 * every ≤ (n1 + i) * every := mul_le g1 (by omega)
      have a2 : ¬ (n1 + i) * every + size ≤ t + later := by
        generalize (n1 + i) * every = P at *
        generalize n2 * every = Q at *
        omega
      have c5 : (c : Int) = n1 + i - n2 := h2 (by omega)
      have c0 : (0 : Int) ≤ c := by omega
      have c1 : (c : Int) < m2 := by omega
      have c6 : n2 + (c : Int) = n1 + i := by omega
      have c7 : ¬ (c : Int) ≥ m2 := by omega
      have f9 : -9223372036854775808 ≤ (c : Int) + 1 ∧ (c : Int) + 1 ≤ 9223372036854775807 := by omega
      have g0 : (c : Int) + 1 = ((c + 1 : Nat) : Int) := by omega
      have nx := ih k (i + 1) (c + 1) (by omega) (by omega) (by omega) (by omega)
      rw [if_neg a2, if_neg c7, if_pos c0, if_pos c1, spans_rd c0 c1, c6, if_neg (by simp), w64 f9, g0]
      exact nx
theorem SlidePair : tailwaterlaw14_SlidePair.Pure := by
  intro t later size every _ _ _ _
  refine ⟨40, ?_⟩
  unfold tailwaterlaw14_SlidePair.f
  rw [alive_ok]
  simp only [Option.bind_some]
  have done : tailwaterlaw14_SlidePair.j0 40 t later size every true true = some true := by simp only [tailwaterlaw14_SlidePair.j0, if_true]
  by_cases l1 : later < 0
  · rw [if_pos l1, done]
  · rw [if_neg l1]
    by_cases l2 : later > 2147483648
    · rw [if_pos l2, done]
    · rw [if_neg l2, fit_eq 39]
      simp only [Option.bind_some]
      by_cases g : Good size every ∧ -1099511627776 ≤ t ∧ t ≤ 1099511627776
      · rw [decide_eq_true g]
        obtain ⟨g, h5, h6⟩ := g
        have tl : -9223372036854775808 ≤ t + later ∧ t + later ≤ 9223372036854775807 := by omega
        rw [w64 tl, fit_eq 39]
        simp only [Option.bind_some, if_true]
        by_cases b : Good size every ∧ -1099511627776 ≤ t + later ∧ t + later ≤ 1099511627776
        · rw [decide_eq_true b]
          obtain ⟨_, b5, b6⟩ := b
          obtain ⟨n1, m1, T, hA⟩ := all_eq g h5 h6 19
          obtain ⟨n2, m2, U, hB⟩ := all_eq g b5 b6 19
          have key := pair_loop g (by omega) (by omega) h5 h6 T U m1 38 0 0 (by omega) (by have := T.most; omega) (fun _ => rfl) (fun h => by
            have l : n1 ≤ n2 := by
              have x : n1 - 1 < n2 := by
                apply mul_lt_of g.1
                have a := T.none
                have b := U.first
                generalize (n1 - 1) * every = P at *
                generalize n2 * every = Q at *
                omega
              omega
            simp at h ⊢
            omega)
          simp only [if_true, Bool.not_true, tailwaterlaw14_SlidePair.j0, Bool.false_eq_true, if_false]
          rw [w64 tl, hA, hB]
          simp only [Option.bind_some, if_true, tailwaterlaw14_SlidePair.j1, bne_self_eq_false, Bool.false_eq_true, if_false]
          exact key
        · rw [decide_eq_false b]
          simp only [Bool.false_eq_true, if_false]
          exact done
      · rw [decide_eq_false g]
        simp only [Bool.false_eq_true, if_false]
        exact done
end Go.Proofs.Ytheobaaegpfbjaa.Pure
