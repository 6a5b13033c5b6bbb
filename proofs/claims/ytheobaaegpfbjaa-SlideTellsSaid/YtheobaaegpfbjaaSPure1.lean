/- Plain lemmas: what slide.All answers: the windows of a time, as a list of spans told by their numbers. Nothing is assumed. -/
import Derived.Test.YtheobaaegpfbjaaS3
namespace Go.Proofs.Ytheobaaegpfbjaa.Pure
open Go.RowKit Go.Proofs.Ytheobaaegpfbjaa.S Go.Proofs.YtheobaaegpfbjaaW.PrintWords Go.Proofs.YtheobaaegpfbjaaW.PrintLast Go.Proofs.YtheobaaegpfbjaaW.PrintMore

/-- the error of a time and a size -/
def chk (t s : Int) : Int := if s < 1 then 2 else if s > 1073741824 then 2 else if t < -1099511627776 then 16 else if t > 1099511627776 then 16 else 0
theorem chk_zero {t s : Int} (h : chk t s = 0) : 1 ≤ s ∧ s ≤ 1073741824 ∧ -1099511627776 ≤ t ∧ t ≤ 1099511627776 := by
  unfold chk at h
  repeat' split at h
  all_goals omega
theorem chk_ok {t s : Int} (h : 1 ≤ s ∧ s ≤ 1073741824 ∧ -1099511627776 ≤ t ∧ t ≤ 1099511627776) : chk t s = 0 := by
  unfold chk
  rw [if_neg (by omega), if_neg (by omega), if_neg (by omega), if_neg (by omega)]
theorem check_eq (k : Nat) (t s : Int) : tumble_check.f (k + 1) t s = some (chk t s) := by
  unfold tumble_check.f chk
  simp only [tumble_check.j0]
  by_cases h1 : s < 1
  · simp [h1]
  · by_cases h2 : s > 1073741824
    · simp [h1, h2]
    · simp only [h1, h2]
      simp only [if_false, decide_false, Bool.false_eq_true]
      repeat' split
      all_goals rfl
theorem w64 {x : Int} (h : -9223372036854775808 ≤ x ∧ x ≤ 9223372036854775807) : wrap64 x = x := by
  unfold wrap64
  omega
/-- a quotient, rounded down, and what is told of it -/
theorem quo {t s : Int} (h : 1 ≤ s) : t / s * s ≤ t ∧ t < t / s * s + s := by
  have a := Int.mul_ediv_add_emod t s
  have b := Int.emod_nonneg t (show s ≠ 0 by omega)
  have c := Int.emod_lt_of_pos t (show 0 < s by omega)
  rw [Int.mul_comm] at a
  generalize t / s * s = P at *
  omega
theorem quo_bd {t s : Int} (h : 1 ≤ s) (a : -1099511627776 ≤ t) (b : t ≤ 1099511627776) : -1099511627776 ≤ t / s ∧ t / s ≤ 1099511627776 := by
  constructor
  · apply Int.le_ediv_of_mul_le (by omega)
    have : 0 ≤ 1099511627776 * (s - 1) := Int.mul_nonneg (by omega) (by omega)
    omega
  · apply Int.ediv_le_of_le_mul (by omega)
    have : 0 ≤ 1099511627776 * (s - 1) := Int.mul_nonneg (by omega) (by omega)
    omega
theorem tdiv_floor (t s : Int) (h : 1 ≤ s) : (if Int.tmod t s < 0 then Int.tdiv t s - 1 else Int.tdiv t s) = t / s := by
  rcases Int.le_total 0 t with h0 | h0
  · rw [if_neg (by have := Int.tmod_nonneg s h0; omega), Int.tdiv_eq_ediv_of_nonneg h0]
  · have e : Int.tdiv t s = -((-t) / s) := by
      rw [show t = -(-t) by omega, Int.neg_tdiv, Int.tdiv_eq_ediv_of_nonneg (by omega), show - - -t = -t by omega]
    have m : Int.tmod t s = -((-t) % s) := by
      rw [show t = -(-t) by omega, Int.neg_tmod, Int.tmod_eq_emod_of_nonneg (by omega), show - - -t = -t by omega]
    have a := Int.mul_ediv_add_emod (-t) s
    have b := Int.emod_nonneg (-t) (show s ≠ 0 by omega)
    have c := Int.emod_lt_of_pos (-t) (show 0 < s by omega)
    rw [e, m]
    by_cases z : (-t) % s = 0
    · rw [if_neg (by omega)]
      symm
      apply Int.ediv_eq_of_eq_mul_left (by omega)
      rw [Int.neg_mul, Int.mul_comm]
      omega
    · rw [if_pos (by omega)]
      symm
      have q := quo (t := t) (s := s) h
      have r : s * ((-t) / s) < s * (-(t / s)) := by
        rw [Int.mul_neg, Int.mul_comm s (t / s)]
        generalize t / s * s = P at *
        omega
      have r1 := Int.lt_of_mul_lt_mul_left r (by omega)
      have u : s * (-(t / s)) < s * ((-t) / s + 2) := by
        rw [Int.mul_neg, Int.mul_comm s (t / s), Int.mul_add]
        generalize t / s * s = P at *
        omega
      have u1 := Int.lt_of_mul_lt_mul_left u (by omega)
      omega
theorem number_eq (k : Nat) (t s : Int) : tumble_Number.f (k + 1) t s = some (if chk t s = 0 then (t / s, 0) else (0, chk t s)) := by
  unfold tumble_Number.f
  rw [check_eq]
  simp only [Option.bind_some]
  by_cases h : chk t s = 0
  · obtain ⟨h1, h2, h3, h4⟩ := chk_zero h
    rw [if_pos h, if_pos h, if_neg (by omega), ← tdiv_floor t s h1]
    have b := quo_bd h1 h3 h4
    rw [← tdiv_floor t s h1] at b
    by_cases m : Int.tmod t s < 0
    · rw [if_pos m] at b ⊢
      rw [if_pos m, w64 (x := Int.tdiv t s) (by omega), w64 (by omega)]
    · rw [if_neg m] at b ⊢
      rw [if_neg m, w64 (by omega)]
  · rw [if_neg h, if_neg h]
theorem of_eq (k : Nat) (t s : Int) : tumble_Of.f (k + 1) t s = some (if chk t s = 0 then (t / s * s, t / s * s + s, 0) else (0, 0, chk t s)) := by
  unfold tumble_Of.f
  rw [number_eq]
  simp only [Option.bind_some]
  by_cases h : chk t s = 0
  · obtain ⟨h1, h2, h3, h4⟩ := chk_zero h
    have b := quo_bd h1 h3 h4
    have q := quo (t := t) h1
    simp only [if_pos h, if_true]
    have e : (t / s + 1) * s = t / s * s + s := by rw [Int.add_mul, Int.one_mul]
    rw [w64 (x := t / s + 1) (by omega), e]
    generalize t / s * s = P at *
    rw [w64 (by omega), w64 (by omega)]
  · simp only [if_neg h]
theorem ref_eq (k : Nat) (t s : Int) : tailwaterref13_Check.f (k + 1) t s = some (chk t s) := by
  unfold tailwaterref13_Check.f chk
  simp only [tailwaterref13_Check.j0]
  by_cases h1 : s < 1
  · simp [h1]
  · by_cases h2 : s > 1073741824
    · simp [h1, h2]
    · simp only [h1, h2]
      simp only [if_false, decide_false, Bool.false_eq_true]
      repeat' split
      all_goals rfl
theorem alive_ok : tailwaterlaw14_alive.f 40 = some true := by decide +kernel

/-! multiples -/
theorem mul_lt_of {n m s : Int} (h : 1 ≤ s) (l : n * s < m * s) : n < m := Int.lt_of_mul_lt_mul_right l (by omega)
theorem mul_le {n m s : Int} (h : 1 ≤ s) (l : n ≤ m) : n * s ≤ m * s := Int.mul_le_mul_of_nonneg_right l (by omega)
theorem mul_step {n m s : Int} (h : 1 ≤ s) (l : n < m) : n * s + s ≤ m * s := by
  have := mul_le h (show n + 1 ≤ m by omega)
  rw [Int.add_mul, Int.one_mul] at this
  exact this
theorem succ_mul' (n s : Int) : (n + 1) * s = n * s + s := by rw [Int.add_mul, Int.one_mul]
theorem pred_mul' (n s : Int) : (n - 1) * s = n * s - s := by rw [Int.sub_mul, Int.one_mul]

/-- the spans of a size, every so far, from number n on, m of them -/
def spans (n every size : Int) (m : Nat) : List S23 := (List.range m).map fun j : Nat => (⟨(n + j) * every, (n + j) * every + size⟩ : S23)
theorem spans_length (n every size : Int) (m : Nat) : (spans n every size m).length = m := by simp [spans]
theorem spans_rd {n every size : Int} {m : Nat} {i : Int} (h0 : 0 ≤ i) (h1 : i < m) : rd_T23 (spans n every size m) i = ⟨(n + i) * every, (n + i) * every + size⟩ := by
  have h : i.toNat < m := by omega
  have e : ((i.toNat : Nat) : Int) = i := by omega
  simp only [rd_T23, spans]
  rw [List.getD_eq_getElem?_getD, List.getElem?_eq_getElem (by simpa using h)]
  simp [e]
/-- the spans from number n downwards -/
def downs (n every size : Int) (m : Nat) : List S23 := (List.range m).map fun j : Nat => (⟨(n - j) * every, (n - j) * every + size⟩ : S23)
theorem downs_succ (n every size : Int) (m : Nat) : downs n every size (m + 1) = ⟨n * every, n * every + size⟩ :: downs (n - 1) every size m := by
  simp only [downs, List.range_succ_eq_map, List.map_cons, List.map_map]
  congr 1
  · simp
  · apply List.map_congr_left
    intro j _
    have e : n - ((j + 1 : Nat) : Int) = n - 1 - (j : Int) := by omega
    simp only [Function.comp_apply, Nat.succ_eq_add_one, e]
theorem downs_reverse (n every size : Int) (m : Nat) : (downs n every size m).reverse = spans (n - m + 1) every size m := by
  apply List.ext_getElem
  · simp [downs, spans]
  · intro i h1 h2
    have h : i < m := by simpa [spans] using h2
    have e : n - (((m - 1 - i : Nat)) : Int) = n - m + 1 + i := by omega
    simp [downs, spans, List.getElem_reverse, e]
/-- the loop: down from number n, as long as a span has the time -/
theorem loop_eq {t size every : Int} (h1 : 1 ≤ every) (h2 : every ≤ 1073741824) (h3 : 1 ≤ size) (h4 : size ≤ 1073741824) (h5 : -1099511627776 ≤ t) (h6 : t ≤ 1099511627776) (d : Nat) :
    ∀ (k : Nat) (acc : List S23) (n : Int), -1125899906842624 ≤ n * every → n * every ≤ 1125899906842624 → n * every + size - t ≤ d * every → d < k → acc.length + d < 8796093022208 →
      ∃ m : Nat, m ≤ d ∧ slide_All.l0 k t size every acc (n * every) = some ((acc ++ downs n every size m).reverse, 0) ∧ (n - m) * every + size ≤ t ∧ (0 < m → t < (n - m + 1) * every + size) := by
  induction d with
  | zero =>
    intro k acc n b1 b2 hd hk hl
    obtain ⟨k, rfl⟩ : ∃ q, k = q + 1 := ⟨k - 1, by omega⟩
    refine ⟨0, Nat.le_refl _, ?_, ?_, fun h => absurd h (by omega)⟩
    · simp only [slide_All.l0]
      rw [w64 (x := n * every + size) (by omega), if_neg (by simp at hd; omega), if_pos (by omega)]
      simp [downs]
    · simp at hd ⊢
      omega
  | succ d ih =>
    intro k acc n b1 b2 hd hk hl
    obtain ⟨k, rfl⟩ : ∃ q, k = q + 1 := ⟨k - 1, by omega⟩
    have hd' : ((d + 1 : Nat) : Int) * every = d * every + every := by push_cast; rw [succ_mul']
    rw [hd'] at hd
    by_cases c : n * every + size > t
    · have e : n * every - every = (n - 1) * every := (pred_mul' n every).symm
      obtain ⟨m, hm, hr, hlo, hhi⟩ := ih k (acc ++ [⟨n * every, n * every + size⟩]) (n - 1) (by rw [pred_mul']; omega) (by rw [pred_mul']; omega) (by rw [pred_mul']; omega) (by omega) (by simp; omega)
      refine ⟨m + 1, by omega, ?_, ?_, fun _ => ?_⟩
      · simp only [slide_All.l0]
        rw [w64 (x := n * every + size) (by omega), if_pos c, if_pos (by omega), w64 (x := n * every - every) (by omega), e, hr, downs_succ]
        simp
      · have e2 : n - ((m + 1 : Nat) : Int) = n - 1 - m := by omega
        rw [e2]
        exact hlo
      · have e2 : n - ((m + 1 : Nat) : Int) + 1 = n - m := by omega
        rw [e2]
        by_cases z : 0 < m
        · have := hhi z
          rw [show n - 1 - (m : Int) + 1 = n - m by omega] at this
          exact this
        · obtain rfl : m = 0 := by omega
          simp
          omega
    · refine ⟨0, by omega, ?_, ?_, fun h => absurd h (by omega)⟩
      · simp only [slide_All.l0]
        rw [w64 (x := n * every + size) (by omega), if_neg c, if_pos (by omega)]
        simp [downs]
      · simp
        omega
/-- sizes that are right -/
def Good (size every : Int) : Prop := 1 ≤ every ∧ every ≤ size ∧ size ≤ 1073741824 ∧ size ≤ 16 * every
/-- what is told of the windows of a time: their first number, how many -/
structure Told (t size every n : Int) (m : Nat) : Prop where
  one : 1 ≤ m
  most : m ≤ 16
  last : n + m - 1 = t / every
  first : t < n * every + size
  none : (n - 1) * every + size ≤ t
theorem all_eq {t size every : Int} (g : Good size every) (h5 : -1099511627776 ≤ t) (h6 : t ≤ 1099511627776) (k : Nat) :
    ∃ (n : Int) (m : Nat), Told t size every n m ∧ slide_All.f (k + 20) t size every = some (spans n every size m, 0) := by
  obtain ⟨g1, g2, g3, g4⟩ := g
  have q := quo (t := t) g1
  obtain ⟨m, hm, hr, hlo, hhi⟩ := loop_eq (t := t) (size := size) (every := every) g1 (by omega) (by omega) g3 h5 h6 16 (k + 18 + 1) [] (t / every) (by generalize t / every * every = P at *; omega) (by generalize t / every * every = P at *; omega) (by generalize t / every * every = P at *; push_cast; omega) (by omega) (by simp)
  have hz : 0 < m := by
    rcases Nat.eq_zero_or_pos m with rfl | h
    · simp at hlo
      generalize t / every * every = P at *
      omega
    · exact h
  refine ⟨t / every - m + 1, m, ⟨hz, hm, by omega, hhi hz, by rw [show t / every - (m : Int) + 1 - 1 = t / every - m by omega]; exact hlo⟩, ?_⟩
  unfold slide_All.f
  have e0 : ¬ mn size every < 1 := by unfold mn; split <;> omega
  have e1 : (decide (size > wrap64 (16 * every))) = false := by rw [w64 (by omega)]; simp; omega
  rw [if_neg e0, if_neg (by omega), if_neg (by omega), e1]
  simp only [slide_All.j0]
  rw [of_eq (k + 18), if_pos (chk_ok ⟨g1, by omega, h5, h6⟩)]
  simp only [Option.bind_some, if_true, Bool.false_eq_true, if_false]
  rw [hr, List.nil_append, downs_reverse]
instance (size every : Int) : Decidable (Good size every) := by unfold Good; exact inferInstance
theorem right_eq (size every : Int) : tailwaterref14_Right.f size every = some (decide (Good size every)) := by
  unfold tailwaterref14_Right.f
  by_cases a : size ≥ 1
  · by_cases b : every ≥ 1
    · by_cases c : size ≤ 1073741824
      · by_cases d : every ≤ size
        · rw [if_pos a, if_pos b, if_pos c, if_pos d, w64 (by omega)]
          exact congrArg some (decide_eq_decide.mpr (by unfold Good; omega))
        · rw [if_pos a, if_pos b, if_pos c, if_neg d]
          rw [decide_eq_false (show ¬ Good size every by unfold Good; omega)]
      · rw [if_pos a, if_pos b, if_neg c]
        rw [decide_eq_false (show ¬ Good size every by unfold Good; omega)]
    · rw [if_pos a, if_neg b]
      rw [decide_eq_false (show ¬ Good size every by unfold Good; omega)]
  · rw [if_neg a]
    rw [decide_eq_false (show ¬ Good size every by unfold Good; omega)]
theorem fit_eq (k : Nat) (t size every : Int) : tailwaterlaw14_fit.f (k + 1) t size every = some (decide (Good size every ∧ -1099511627776 ≤ t ∧ t ≤ 1099511627776)) := by
  unfold tailwaterlaw14_fit.f
  rw [right_eq, ref_eq]
  simp only [Option.bind_some]
  by_cases g : Good size every
  · have g' := g
    obtain ⟨g1, g2, g3, g4⟩ := g'
    simp only [g, decide_true, if_true, true_and]
    congr 1
    rw [Bool.eq_iff_iff]
    simp
    constructor
    · intro h
      have := chk_zero h
      omega
    · intro h
      exact chk_ok ⟨g1, by omega, h.1, h.2⟩
  · simp [g]
end Go.Proofs.Ytheobaaegpfbjaa.Pure
