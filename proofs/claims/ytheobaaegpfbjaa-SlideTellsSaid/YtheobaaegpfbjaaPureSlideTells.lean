/- All and Of return what the reference returns, for any numbers and window. Nothing is assumed: the statement is over all whole numbers of 64 bits. -/
import Derived.Test.YtheobaaegpfbjaaS7
import Derived.Test.YtheobaaegpfbjaaSPure2
namespace Go.Proofs.Ytheobaaegpfbjaa.Pure
open Go.RowKit Go.Proofs.Ytheobaaegpfbjaa.S Go.Proofs.YtheobaaegpfbjaaW.PrintWords Go.Proofs.YtheobaaegpfbjaaW.PrintLast Go.Proofs.YtheobaaegpfbjaaW.PrintMore

theorem at_eq {t s : Int} (h : chk t s = 0) : tailwaterref13_At.f t s = some (t / s) := by
  obtain ⟨h1, h2, h3, h4⟩ := chk_zero h
  unfold tailwaterref13_At.f
  rw [if_neg (by omega), Int.tdiv_eq_ediv_of_nonneg (a := 1099511627776) (by omega)]
  have q := quo (t := 1099511627776) h1
  have b : 0 ≤ (1099511627776 : Int) / s := Int.ediv_nonneg (by omega) (by omega)
  have c := quo_bd (t := 1099511627776) h1 (by omega) (by omega)
  rw [w64 (x := 1099511627776 / s) (by omega), w64 (x := 1099511627776 / s + 1) (by omega)]
  generalize hm : (1099511627776 : Int) / s + 1 = m
  have e : m * s = 1099511627776 / s * s + s := by rw [← hm, Int.add_mul, Int.one_mul]
  have d := quo_bd h1 h3 h4
  rw [← e] at q
  have qq : m * s ≤ 1099511627776 + s := by omega
  clear e
  have f : (t + m * s) / s = t / s + m := Int.add_mul_ediv_right _ _ (by omega)
  rw [w64 (x := m * s) (by omega), w64 (x := t + m * s) (by omega), Int.tdiv_eq_ediv_of_nonneg (by omega), f, w64 (x := t / s + m) (by omega), show t / s + m - m = t / s by omega, w64 (by omega)]
theorem spans_snoc (n every size : Int) (c : Nat) : spans n every size (c + 1) = spans n every size c ++ [(⟨(n + c) * every, (n + c) * every + size⟩ : S23)] := by simp [spans, List.range_succ]
/-- the reference's loop finds the same windows -/
theorem windows_loop {t size every n : Int} {m : Nat} (g : Good size every) (h5 : -1099511627776 ≤ t) (h6 : t ≤ 1099511627776) (T : Told t size every n m) (d : Nat) :
    ∀ (k c : Nat) (i : Int), i + d = t / every + 2 → t / every - 16 ≤ i → d < k → (i ≤ n → c = 0) → (n ≤ i → i ≤ t / every + 1 → (c : Int) = i - n) → (t / every + 1 ≤ i → c = m) →
      tailwaterref14_Windows.l0 k t size every (t / every) (spans n every size c) i = some (spans n every size m) := by
  obtain ⟨g1, g2, g3, g4⟩ := g
  have q := quo (t := t) g1
  have qb := quo_bd g1 h5 h6
  obtain ⟨t1, t2, t3, t4, t5⟩ := T
  have qw : -9223372036854775808 ≤ t / every + 1 ∧ t / every + 1 ≤ 9223372036854775807 := by omega
  induction d with
  | zero =>
    intro k c i hi hlo hk h1 h2 h3
    obtain ⟨k, rfl⟩ : ∃ z, k = z + 1 := ⟨k - 1, by omega⟩
    have e : ¬ i ≤ t / every + 1 := by omega
    obtain rfl : c = m := h3 (by omega)
    simp only [tailwaterref14_Windows.l0]
    rw [w64 qw, if_neg e]
  | succ d ih =>
    intro k c i hi hlo hk h1 h2 h3
    obtain ⟨k, rfl⟩ : ∃ z, k = z + 1 := ⟨k - 1, by omega⟩
    have e : i ≤ t / every + 1 := by omega
    have iw : -9223372036854775808 ≤ i + 1 ∧ i + 1 ≤ 9223372036854775807 := by omega
    have lo : (t / every - 16) * every ≤ i * every := mul_le g1 hlo
    have hi' : i * every ≤ (t / every + 1) * every := mul_le g1 e
    have e16 : (t / every - 16) * every = t / every * every - 16 * every := by rw [Int.sub_mul]
    rw [e16] at lo
    rw [succ_mul'] at hi'
    have pw : -9223372036854775808 ≤ i * every ∧ i * every ≤ 9223372036854775807 := by
      generalize i * every = P at *
      generalize t / every * every = Q at *
      omega
    have sw : -9223372036854775808 ≤ i * every + size ∧ i * every + size ≤ 9223372036854775807 := by
      generalize i * every = P at *
      generalize t / every * every = Q at *
      omega
    simp only [tailwaterref14_Windows.l0]
    rw [w64 qw, if_pos e, w64 pw, w64 sw, w64 iw]
    by_cases c1 : i ≤ t / every
    · have a1 : i * every ≤ t / every * every := mul_le g1 c1
      have a2 : i * every ≤ t := by
        generalize i * every = P at *
        generalize t / every * every = Q at *
        omega
      rw [if_pos a2]
      by_cases c2 : n ≤ i
      · have b1 : n * every ≤ i * every := mul_le g1 c2
        have b2 : t < i * every + size := by
          generalize i * every = P at *
          generalize n * every = R at *
          omega
        have cc := h2 c2 (by omega)
        have b3 : (spans n every size c).length < 8796093022208 := by rw [spans_length]; omega
        rw [if_pos b2, if_pos b3, show i = n + c by omega, ← spans_snoc, show n + (c : Int) + 1 = i + 1 by omega]
        exact ih k (c + 1) (i + 1) (by omega) (by omega) (by omega) (by omega) (by omega) (by omega)
      · have b1 : i * every ≤ (n - 1) * every := mul_le g1 (by omega)
        have b2 : ¬ t < i * every + size := by
          generalize i * every = P at *
          generalize (n - 1) * every = R at *
          omega
        rw [if_neg b2]
        have c0 := h1 (by omega)
        exact ih k c (i + 1) (by omega) (by omega) (by omega) (by omega) (by omega) (by omega)
    · have a1 : (t / every + 1) * every ≤ i * every := mul_le g1 (by omega)
      rw [succ_mul'] at a1
      have a2 : ¬ i * every ≤ t := by
        generalize i * every = P at *
        generalize t / every * every = Q at *
        omega
      rw [if_neg a2]
      have c0 := h3 (by omega)
      exact ih k c (i + 1) (by omega) (by omega) (by omega) (by omega) (by omega) (by omega)
theorem windows_eq {t size every n : Int} {m : Nat} (g : Good size every) (h5 : -1099511627776 ≤ t) (h6 : t ≤ 1099511627776) (T : Told t size every n m) : tailwaterref14_Windows.f 40 t size every = some (spans n every size m) := by
  unfold tailwaterref14_Windows.f
  rw [at_eq (chk_ok (by unfold Good at g; omega))]
  simp only [Option.bind_some]
  have qb := quo_bd g.1 h5 h6
  rw [w64 (x := t / every - 16) (by omega)]
  have x : t / every - 16 < n := by
    have := T.last
    have := T.most
    omega
  have key := windows_loop g h5 h6 T 18 40 0 (t / every - 16) (by omega) (by omega) (by omega) (fun _ => rfl) (by intro h; omega) (by intro h; omega)
  simpa [spans] using key
theorem ref_all {t size every : Int} : ∃ l e, slide_All.f 40 t size every = some (l, e) ∧ tailwaterref14_All.f 40 t size every = some (l, e) ∧ l.length ≤ 16 := by
  unfold tailwaterref14_All.f
  rw [right_eq, ref_eq 39]
  simp only [Option.bind_some]
  by_cases g : Good size every
  · rw [decide_eq_true g]
    by_cases h : -1099511627776 ≤ t ∧ t ≤ 1099511627776
    · obtain ⟨n, m, T, hA⟩ := all_eq g h.1 h.2 20
      refine ⟨_, _, hA, ?_, by rw [spans_length]; exact T.most⟩
      rw [windows_eq g h.1 h.2 T, if_pos rfl, if_pos (chk_ok (by omega))]
      rfl
    · refine ⟨_, _, all_far g h 38, ?_, by simp⟩
      have c : chk t 1 = 16 := by
        unfold chk
        rw [if_neg (by omega), if_neg (by omega)]
        by_cases l : t < -1099511627776
        · rw [if_pos l]
        · rw [if_neg l, if_pos (by omega)]
      rw [c]
      simp
  · rw [decide_eq_false g]
    exact ⟨_, _, all_bad g 39, by simp, by simp⟩
theorem chk_size {t s : Int} (h : 1 ≤ s) (h2 : s ≤ 1073741824) : chk t s = chk t 1 := by
  unfold chk
  rw [if_neg (by omega), if_neg (by omega), if_neg (by omega : ¬ (1 : Int) < 1), if_neg (by omega : ¬ (1 : Int) > 1073741824)]
theorem chk_one {t : Int} (h : ¬ chk t 1 = 0) : chk t 1 = 16 := by
  revert h
  unfold chk
  rw [if_neg (by omega), if_neg (by omega)]
  intro h
  by_cases l : t < -1099511627776
  · rw [if_pos l]
  · rw [if_neg l] at h ⊢
    by_cases l2 : t > 1099511627776
    · rw [if_pos l2]
    · rw [if_neg l2] at h
      exact absurd rfl h
theorem ref_of {t kind size every : Int} : ∃ l e, slide_Of.f 40 kind size every t = some (l, e) ∧ tailwaterref14_Of.f 40 kind size every t = some (l, e) ∧ l.length ≤ 16 := by
  unfold slide_Of.f tailwaterref14_Of.f tailwaterref08_Window.f
  rw [window_eq 38, fits_eq 39]
  simp only [Option.bind_some]
  by_cases v : Valid kind size every
  · rw [if_pos v, decide_eq_true v]
    simp only [if_true, Option.bind_some]
    have v' := v
    obtain ⟨v1, v2, v3⟩ := v'
    rw [ref_eq 39]
    simp only [Option.bind_some]
    by_cases k1 : kind = 1
    · rw [if_pos k1, if_neg (show ¬ kind = 3 by omega), of_eq 39, chk_size v1 v2]
      unfold tailwaterref14_Spans.f tailwaterref13_Of.f
      rw [if_pos k1, ref_eq 39, chk_size v1 v2]
      simp only [Option.bind_some]
      by_cases c : chk t 1 = 0
      · have c' := c
        rw [← chk_size v1 v2] at c'
        obtain ⟨_, _, h3, h4⟩ := chk_zero c'
        have q := quo (t := t) v1
        have w1 : -9223372036854775808 ≤ t / size * size ∧ t / size * size ≤ 9223372036854775807 := by generalize t / size * size = P at *; omega
        have w2 : -9223372036854775808 ≤ t / size * size + size ∧ t / size * size + size ≤ 9223372036854775807 := by generalize t / size * size = P at *; omega
        simp only [if_pos c]
        rw [at_eq c']
        simp only [Option.bind_some]
        rw [w64 w1, w64 w2]
        exact ⟨_, _, rfl, rfl, by simp⟩
      · simp only [if_neg c, Option.bind_some]
        have e := chk_one c
        rw [e]
        exact ⟨_, _, rfl, rfl, by simp⟩
    · rw [if_neg k1]
      by_cases k2 : kind = 2
      · rw [if_pos k2, if_neg (show ¬ kind = 3 by omega)]
        have g : Good size every := by
          rcases v3 with ⟨_, g⟩ | ⟨h, _⟩
          · exact g
          · omega
        unfold tailwaterref14_Spans.f
        rw [if_neg k1]
        by_cases h : -1099511627776 ≤ t ∧ t ≤ 1099511627776
        · obtain ⟨n, m, T, hA⟩ := all_eq g h.1 h.2 20
          rw [hA, windows_eq g h.1 h.2 T, if_pos (chk_ok (by omega))]
          exact ⟨_, _, rfl, rfl, by rw [spans_length]; exact T.most⟩
        · have c : chk t 1 = 16 := by
            unfold chk
            rw [if_neg (by omega), if_neg (by omega)]
            by_cases l : t < -1099511627776
            · rw [if_pos l]
            · rw [if_neg l, if_pos (by omega)]
          rw [all_far g h 38, c]
          exact ⟨_, _, rfl, by simp, by simp⟩
      · rw [if_neg k2, if_pos (show kind = 3 by omega)]
        exact ⟨_, _, rfl, rfl, by simp⟩
  · rw [if_neg v, decide_eq_false v]
    exact ⟨_, _, rfl, by simp, by simp⟩
theorem SlideTells (t size every kind wsize wevery : Int) : ∃ k, tailwaterlaw14_SlideTells.f k t size every kind wsize wevery = some true := by
  refine ⟨40, ?_⟩
  unfold tailwaterlaw14_SlideTells.f
  obtain ⟨l, e, h1, h2, h3⟩ := ref_all (t := t) (size := size) (every := every)
  obtain ⟨l', e', h1', h2', h3'⟩ := ref_of (t := t) (kind := kind) (size := wsize) (every := wevery)
  rw [h1, h2, h1', h2']
  simp only [Option.bind_some]
  rw [same_refl l (by omega) 40 (by omega), same_refl l' (by omega) 40 (by omega)]
  simp
end Go.Proofs.Ytheobaaegpfbjaa.Pure
