/- The reference's sizes and the program's stack of parts both are the run. Nothing is assumed. -/
import Derived.Test.YtpkamfjkmbakhaaGPure1
namespace Go.Proofs.Ytpkamfjkmbakhaa.G.Pure
open Go.RowKit Go.Proofs.Ytpkamfjkmbakhaa.G Go.Proofs.YtpkamfjkmbakhaaW.PrintWords Go.Proofs.YtpkamfjkmbakhaaW.PrintLast Go.Proofs.YtpkamfjkmbakhaaW.PrintMore

theorem rd36 {l : List S36} {i : Nat} {x : S36} (h : l[i]? = some x) : rd_T36 l (i : Int) = x := by
  simp [rd_T36, List.getD, h]
theorem rd96 {l : List S96} {i : Nat} {x : S96} (h : l[i]? = some x) : rd_T96 l (i : Int) = x := by
  simp [rd_T96, List.getD, h]
theorem rd1 {A : List S96} {i : Nat} {x : S96} (h : A[i]? = some x) : rd (A.map (·.f1)) (i : Int) = x.f1 := by
  simp [rd, List.getD, h]
theorem rd2 {A : List S96} {i : Nat} {x : S96} (h : A[i]? = some x) : rd (A.map (·.f2)) (i : Int) = x.f2 := by
  simp [rd, List.getD, h]

theorem parts_eq (k : Nat) (x : Int) : nodes_Parts.f (k + 2) x = some (match cnt x with | none => (0, 2) | some n => ((n : Int), 0)) := by
  unfold nodes_Parts.f
  rcases cnt_cases x with h | h | h | h
  · rw [h]; rw [cntN] at h
    rcases h with h | h
    · rw [if_neg (by omega)]; simp only [nodes_Parts.j0, nodes_Parts.j1]
      have e : (x == 6) = false := by simp; omega
      rw [e, if_neg (by decide), if_neg (by omega), if_neg (by decide), if_neg (by omega)]
    · rw [if_pos (by omega)]; simp only [nodes_Parts.j0, nodes_Parts.j1]
      have e : (x == 6) = false := by simp; omega
      have e4 : decide (x ≤ 4) = false := by simp; omega
      rw [e, e4, if_neg (by decide), if_neg (by omega), if_neg (by decide), if_pos (by omega), if_neg (by omega)]
  · rw [h]; rw [cnt0] at h
    rw [if_pos (by omega)]; simp only [nodes_Parts.j0]
    have e4 : decide (x ≤ 4) = true := by simp; omega
    rw [e4, if_pos rfl]; rfl
  · rw [h]; rw [cnt1] at h
    rw [if_pos (by omega)]; simp only [nodes_Parts.j0, nodes_Parts.j1]
    have e4 : decide (x ≤ 4) = false := by simp; omega
    rw [e4, if_neg (by decide)]
    by_cases h5 : x = 5
    · rw [if_pos h5]; simp
    · have e : (x == 6) = true := by simp; omega
      rw [if_neg h5, e, if_pos rfl]; rfl
  · rw [h]; rw [cnt2] at h
    rw [if_pos (by omega)]; simp only [nodes_Parts.j0, nodes_Parts.j1]
    have e : (x == 6) = false := by simp; omega
    have e4 : decide (x ≤ 4) = false := by simp; omega
    rw [e, e4, if_neg (by decide), if_neg (by omega), if_neg (by decide), if_pos (by omega), if_pos (by omega)]; rfl

/-- The second of a stack. -/
theorem St.top {A : List S96} {P : List S36} {t : S96} {T : List S96} (h : St A P (t :: T)) : ∃ (Q L : List S36), P = Q ++ L ∧ St A Q T ∧ t.f0 = Q.length + L.length - 1 ∧ t.f1 = L.length ∧ 1 ≤ L.length ∧ 1 ≤ t.f2 ∧ t.f2 ≤ L.length ∧ A[Q.length + L.length - 1]? = some t := by
  cases h with
  | cons h1 h2 h3 =>
    have := h2.bounds
    exact ⟨_, _, rfl, h1, rfl, rfl, by omega, this.1, this.2, h3⟩

theorem St.empty {A : List S96} {P : List S36} (h : St A P []) : P = [] := by cases h; rfl

def said : Option (List S96 × List S96) → List Int × List Int × Bool
  | none => ([], [], false)
  | some u => (u.1.map (·.f1), u.1.map (·.f2), u.2.length == 1)

theorem sizes_run {l : List S36} (hl : l.length ≤ 70) {R : List S36} : ∀ {P : List S36} {A T : List S96} {k : Nat}, l = P ++ R → St A P T → Al A P → R.length < k →
    tailwaterref04_Sizes.l0 k l (A.map (·.f1)) (A.map (·.f2)) P.length = some (said (run R P.length A T)) := by
  induction R with
  | nil =>
    intro P A T k e hS hA hk
    obtain ⟨k, rfl⟩ : ∃ z, k = z + 1 := ⟨k - 1, by omega⟩
    obtain rfl : l = P := by simpa using e
    simp only [tailwaterref04_Sizes.l0, run, said]
    rw [if_neg (by omega)]
    cases T with
    | nil =>
      obtain rfl := hS.empty
      rw [if_neg (by simp)]; rfl
    | cons t T =>
      obtain ⟨Q, L, rfl, h1, h2, h3, h4, h5, h6, h7⟩ := hS.top
      have hlen : (Q ++ L).length = Q.length + L.length := by simp
      have hw : wrap64 (((Q ++ L).length : Int) - 1) = ((Q.length + L.length - 1 : Nat) : Int) := by rw [w64 (by omega), hlen]; omega
      have hal := hA.1
      rw [if_pos (by omega), hw, if_pos (by omega), if_pos (by simp only [List.length_map]; omega), rd1 h7, h3]
      congr 3
      have : (T.length = 0 ↔ Q.length = 0) := by
        cases T with
        | nil => have := h1.empty; simp [this]
        | cons u T => obtain ⟨Q2, L2, rfl, _, _, _, g, _⟩ := h1.top; simp only [List.length_append, List.length_cons]; omega
      rw [Bool.eq_iff_iff]
      simp only [beq_iff_eq, List.length_cons]
      omega
  | cons x R ih =>
    intro P A T k e hS hA hk
    obtain ⟨k, rfl⟩ : ∃ z, k = z + 1 := ⟨k - 1, by omega⟩
    have hlen : l.length = P.length + R.length + 1 := by rw [e]; simp; omega
    have hx : l[P.length]? = some x := by rw [e]; simp
    have hal := hA.1
    simp only [List.length_cons] at hk
    have nx : ∀ (t : S96) (T' : List S96), step x P.length T = some (t, T') → tailwaterref04_Sizes.l0 k l ((A ++ [t]).map (·.f1)) ((A ++ [t]).map (·.f2)) (wrap64 ((P.length : Int) + 1)) = some (said (run (x :: R) P.length A T)) := by
      intro t T' h
      obtain ⟨g1, g2, _⟩ := step_ok hS hA h
      have := ih (k := k) (by rw [e]; simp) g1 g2 (by omega)
      rw [w64 (by omega), show ((P.length : Int) + 1) = ((P ++ [x]).length : Int) by simp, this]
      simp only [run, h, Option.bind_some]
      rw [show ((P ++ [x]).length : Int) = (P.length : Int) + 1 by simp]
    have no : step x P.length T = none → run (x :: R) P.length A T = none := by
      intro h; simp only [run, h, Option.bind_none]
    have c1 : ((P.length : Int) < (l.length : Int)) = True := eq_true (by omega)
    have c2 : ((0 : Int) ≤ (P.length : Int)) = True := eq_true (by omega)
    have c3 : ((A.map (·.f1)).length < 17592186044416) = True := eq_true (by simp only [List.length_map]; omega)
    have c4 : ((A.map (·.f2)).length < 17592186044416) = True := eq_true (by simp only [List.length_map]; omega)
    have z0 : ((0 : Int) > 0) = False := eq_false (by omega)
    have z1 : (((1 : Nat) : Int) > 0) = True := eq_true (by omega)
    have z2 : (((2 : Nat) : Int) > 0) = True := eq_true (by omega)
    have z3 : (((1 : Nat) : Int) = 2) = False := eq_false (by omega)
    have z4 : (((2 : Nat) : Int) = 2) = True := eq_true (by omega)
    have z5 : (((0 : Nat) : Int) > 0) = False := eq_false (by omega)
    have z6 : ((2 : Int) > 0) = True := eq_true (by omega)
    have o1 : (some 1 = some (0 : Nat)) = False := eq_false (by simp)
    have o2 : (some 2 = some (0 : Nat)) = False := eq_false (by simp)
    have o3 : (some 2 = some (1 : Nat)) = False := eq_false (by simp)
    have o4 : (none = some (0 : Nat)) = False := eq_false (by simp)
    have o5 : (none = some (1 : Nat)) = False := eq_false (by simp)
    have o6 : (none = some (2 : Nat)) = False := eq_false (by simp)
    have n0 : (some 0 ≠ (none : Option Nat)) = True := eq_true (by simp)
    have n1 : (some 1 ≠ (none : Option Nat)) = True := eq_true (by simp)
    have n2 : (some 2 ≠ (none : Option Nat)) = True := eq_true (by simp)
    have n3 : ((none : Option Nat) ≠ none) = False := eq_false (by simp)
    have fin : ∀ t T', step x P.length T = some (t, T') → ∀ (s d : Int), s = t.f1 → d = t.f2 → (tailwaterref04_Sizes.l0 k l (A.map (·.f1) ++ [s]) (A.map (·.f2) ++ [d]) (wrap64 ((P.length : Int) + 1))) = some (said (run (x :: R) P.length A T)) := by
      intro t T' h s d e1 e2
      rw [← nx t T' h, e1, e2, List.map_append, List.map_append]; rfl
    cases T with
    | nil =>
      obtain rfl := hS.empty
      have w : wrap64 (((([] : List S36).length : Nat) : Int) - 1) = -1 := w64 (by simp)
      have w1 : ((-1 : Int) < 0) = True := eq_true (by omega)
      rcases cnt_cases x.f0 with hc | hc | hc | hc
      · rw [no (by simp [step, hc])]
        by_cases h1 : x.f0 < 1
        · simp only [tailwaterref04_Sizes.l0, rd36 hx, right_eq, count_eq, Option.bind_some, c1, c2, hc, w, w1, z0, n3, if_true, false_and, decide_false, Bool.false_eq_true, if_false, eq_true h1]; rfl
        · simp only [tailwaterref04_Sizes.l0, rd36 hx, right_eq, count_eq, Option.bind_some, c1, c2, hc, w, w1, z6, n3, if_true, false_and, decide_false, Bool.false_eq_true, if_false, eq_false h1]; rfl
      · by_cases hg : Good x 0 0
        · have := fin _ _ (by simp only [step, hc, if_true, eq_true hg]; rfl) 1 1 rfl rfl
          simp only [tailwaterref04_Sizes.l0, rd36 hx, right_eq, count_eq, Option.bind_some, c1, c2, c3, c4, hc, z5, n0, if_true, true_and, eq_true hg, decide_true, if_false]
          exact this
        · rw [no (by simp only [step, hc, if_true, eq_false hg]; rfl)]
          simp only [tailwaterref04_Sizes.l0, rd36 hx, right_eq, count_eq, Option.bind_some, c1, c2, hc, z5, n0, if_true, true_and, eq_false hg, decide_false, Bool.false_eq_true, if_false]; rfl
      · rw [no (by simp only [step, hc, o1, if_true, if_false])]
        simp only [tailwaterref04_Sizes.l0, rd36 hx, right_eq, count_eq, Option.bind_some, c1, c2, hc, w, w1, z1, if_true]; rfl
      · rw [no (by simp only [step, hc, o2, o3, if_true, if_false])]
        simp only [tailwaterref04_Sizes.l0, rd36 hx, right_eq, count_eq, Option.bind_some, c1, c2, hc, w, w1, z2, if_true]; rfl
    | cons t T =>
      obtain ⟨Q, L, rfl, h1, h2, h3, h4, h5, h6, h7⟩ := hS.top
      have hpl : (Q ++ L).length = Q.length + L.length := by simp
      have w : wrap64 (((Q ++ L).length : Int) - 1) = ((Q.length + L.length - 1 : Nat) : Int) := by rw [w64 (by omega)]; omega
      have r1 := rd1 h7
      have r2 := rd2 h7
      generalize hm : Q.length + L.length - 1 = m at w r1 r2
      have m1 : ((m : Int) < 0) = False := eq_false (by omega)
      have m2 : ((0 : Int) ≤ (m : Int)) = True := eq_true (by omega)
      have m3 : ((m : Int) < ((A.map (·.f1)).length : Int)) = True := eq_true (by simp only [List.length_map]; omega)
      have m4 : ((m : Int) < ((A.map (·.f2)).length : Int)) = True := eq_true (by simp only [List.length_map]; omega)
      have a1 : wrap64 (1 + t.f1) = 1 + t.f1 := w64 (by omega)
      have a2 : wrap64 (1 + t.f2) = t.f2 + 1 := by rw [w64 (by omega)]; omega
      have hmt : t.f0 = m := by omega
      have leafok : cnt x.f0 = some 0 → tailwaterref04_Sizes.l0 (k + 1) l (A.map (·.f1)) (A.map (·.f2)) (Q ++ L).length = some (said (run (x :: R) (Q ++ L).length A (t :: T))) := by
        intro hc
        by_cases hg : Good x 0 0
        · have := fin ⟨(Q ++ L).length, 1, 1⟩ (t :: T) (by simp only [step, hc, if_true, eq_true hg]) 1 1 rfl rfl
          simp only [tailwaterref04_Sizes.l0, rd36 hx, right_eq, count_eq, Option.bind_some, c1, c2, hc, c3, c4, z5, n0, if_true, true_and, eq_true hg, decide_true, if_false]
          exact this
        · rw [no (by simp only [step, hc, if_true, eq_false hg]; rfl)]
          simp only [tailwaterref04_Sizes.l0, rd36 hx, right_eq, count_eq, Option.bind_some, c1, c2, hc, z5, n0, if_true, true_and, eq_false hg, decide_false, Bool.false_eq_true, if_false]; rfl
      have unok : cnt x.f0 = some 1 → tailwaterref04_Sizes.l0 (k + 1) l (A.map (·.f1)) (A.map (·.f2)) (Q ++ L).length = some (said (run (x :: R) (Q ++ L).length A (t :: T))) := by
        intro hc
        by_cases hg : Good x m 0
        · have := fin ⟨(Q ++ L).length, 1 + t.f1, t.f2 + 1⟩ T (by simp only [step, hc, o1, hmt, if_true, if_false, eq_true hg]) (wrap64 (1 + t.f1)) (wrap64 (1 + t.f2)) a1 a2
          simp only [tailwaterref04_Sizes.l0, rd36 hx, right_eq, count_eq, Option.bind_some, c1, c2, hc, c3, c4, w, m1, m2, m3, m4, r1, r2, z1, z3, n1, if_true, true_and, eq_true hg, decide_true, if_false]
          exact this
        · rw [no (by simp only [step, hc, o1, hmt, if_true, if_false, eq_false hg])]
          simp only [tailwaterref04_Sizes.l0, rd36 hx, right_eq, count_eq, Option.bind_some, c1, c2, hc, w, m1, m2, m3, m4, r1, r2, z1, z3, n1, if_true, true_and, eq_false hg, decide_false, Bool.false_eq_true, if_false]; rfl
      cases T with
      | nil =>
        obtain rfl := h1.empty
        have v : wrap64 ((m : Int) - t.f1) = -1 := by rw [w64 (by omega)]; simp at hm; omega
        have v1 : ((-1 : Int) < 0) = True := eq_true (by omega)
        rcases cnt_cases x.f0 with hc | hc | hc | hc
        · rw [no (by simp [step, hc])]
          by_cases g : x.f0 < 1
          · simp only [tailwaterref04_Sizes.l0, rd36 hx, right_eq, count_eq, Option.bind_some, c1, c2, hc, z0, n3, if_true, false_and, decide_false, Bool.false_eq_true, if_false, eq_true g]; rfl
          · simp only [tailwaterref04_Sizes.l0, rd36 hx, right_eq, count_eq, Option.bind_some, c1, c2, hc, w, m1, m2, m3, m4, r1, r2, v, v1, z6, if_true, if_false, eq_false g]; rfl
        · exact leafok hc
        · exact unok hc
        · rw [no (by simp only [step, hc, o2, o3, if_true, if_false])]
          simp only [tailwaterref04_Sizes.l0, rd36 hx, right_eq, count_eq, Option.bind_some, c1, c2, hc, w, m1, m2, m3, m4, r1, r2, v, v1, z2, z4, if_true, if_false]; rfl
      | cons p T =>
        obtain ⟨Q2, L2, rfl, g1, g2, g3, g4, g5, g6, g7⟩ := h1.top
        have hql : (Q2 ++ L2).length = Q2.length + L2.length := by simp
        have v : wrap64 ((m : Int) - t.f1) = ((Q2.length + L2.length - 1 : Nat) : Int) := by rw [w64 (by omega)]; omega
        have s1 := rd1 g7
        have s2 := rd2 g7
        have hlt : Q2.length + L2.length - 1 < A.length := by omega
        have hpf : p.f0 = ((Q2.length + L2.length - 1 : Nat) : Int) := by omega
        generalize hj : Q2.length + L2.length - 1 = j at v s1 s2 hlt hpf
        have j1 : ((j : Int) < 0) = False := eq_false (by omega)
        have j2 : ((0 : Int) ≤ (j : Int)) = True := eq_true (by omega)
        have j3 : ((j : Int) < ((A.map (·.f1)).length : Int)) = True := eq_true (by simp only [List.length_map]; omega)
        have j4 : ((j : Int) < ((A.map (·.f2)).length : Int)) = True := eq_true (by simp only [List.length_map]; omega)
        have b1 : wrap64 (1 + t.f1 + p.f1) = 1 + p.f1 + t.f1 := by rw [w64 (by omega)]; omega
        have b2 : wrap64 (1 + p.f2) = p.f2 + 1 := by rw [w64 (by omega)]; omega
        have b3 : mx (t.f2 + 1) (p.f2 + 1) = mx (p.f2 + 1) (t.f2 + 1) := by unfold mx; split <;> split <;> omega
        rcases cnt_cases x.f0 with hc | hc | hc | hc
        · rw [no (by simp [step, hc])]
          by_cases g : x.f0 < 1
          · simp only [tailwaterref04_Sizes.l0, rd36 hx, right_eq, count_eq, Option.bind_some, c1, c2, hc, z0, n3, if_true, false_and, decide_false, Bool.false_eq_true, if_false, eq_true g]; rfl
          · simp only [tailwaterref04_Sizes.l0, rd36 hx, right_eq, count_eq, Option.bind_some, c1, c2, hc, w, m1, m2, m3, m4, r1, r2, v, j1, j2, j3, j4, z6, n3, false_and, decide_false, Bool.false_eq_true, if_true, if_false, eq_false g]; rfl
        · exact leafok hc
        · exact unok hc
        · by_cases hg : Good x j m
          · have := fin ⟨((Q2 ++ L2) ++ L).length, 1 + p.f1 + t.f1, mx (p.f2 + 1) (t.f2 + 1)⟩ T (by simp only [step, hc, o2, o3, hmt, hpf, if_true, if_false, eq_true hg]) (wrap64 (1 + t.f1 + p.f1)) (mx (t.f2 + 1) (p.f2 + 1)) b1 b3
            simp only [tailwaterref04_Sizes.l0, rd36 hx, right_eq, count_eq, Option.bind_some, c1, c2, hc, c3, c4, w, m1, m2, m3, m4, r1, r2, s1, s2, v, j1, j2, j3, j4, a1, a2, b2, z2, z4, n2, if_true, true_and, eq_true hg, decide_true, if_false]
            exact this
          · rw [no (by simp only [step, hc, o2, o3, hmt, hpf, if_true, if_false, eq_false hg])]
            simp only [tailwaterref04_Sizes.l0, rd36 hx, right_eq, count_eq, Option.bind_some, c1, c2, hc, w, m1, m2, m3, m4, r1, r2, v, j1, j2, j3, j4, z2, z4, n2, if_true, true_and, eq_false hg, decide_false, Bool.false_eq_true, if_false]; rfl

theorem sizes_is {l : List S36} (hl : l.length ≤ 70) {k : Nat} (hk : l.length < k) : tailwaterref04_Sizes.f k l = some (said (run l 0 [] [])) :=
  sizes_run hl (P := []) (A := []) (T := []) rfl .nil ⟨rfl, by simp⟩ hk

end Go.Proofs.Ytpkamfjkmbakhaa.G.Pure
