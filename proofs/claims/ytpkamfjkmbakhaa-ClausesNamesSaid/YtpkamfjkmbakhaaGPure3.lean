/- The program's stack of parts is the run; its check is the reference's. Nothing is assumed. -/
import Derived.Test.YtpkamfjkmbakhaaGPure2
namespace Go.Proofs.Ytpkamfjkmbakhaa.G.Pure
open Go.RowKit Go.Proofs.Ytpkamfjkmbakhaa.G Go.Proofs.YtpkamfjkmbakhaaW.PrintWords Go.Proofs.YtpkamfjkmbakhaaW.PrintLast Go.Proofs.YtpkamfjkmbakhaaW.PrintMore

/-- What follows the loop over the parts. -/
theorem l1_fin {k : Nat} {A S : List S96} {l : List S36} {len i : Int} {Q : List S96} {n z : Int} {x : S36} {a b s d : Int} (hz : ¬ z < n) (hS : S.length ≤ 70) (hA : A.length ≤ 70) :
    nodes_tops.l1 (k + 1) A S l len i Q n z x.f0 x.f1 x.f2 x.f3 x.f4 x.f0 0 a b (mn (mx x.f4 0) 400) i s d = if Good x a b then nodes_tops.l0 k (A ++ [⟨i, s, d⟩]) (S ++ [⟨i, s, d⟩]) l len (wrap64 (i + 1)) else some (A, false) := by
  have e4 : (mn (mx x.f4 0) 400 == x.f4) = decide (0 ≤ x.f4 ∧ x.f4 ≤ 400) := by
    rw [Bool.eq_iff_iff]; simp only [beq_iff_eq, decide_eq_true_eq]; unfold mx mn; split <;> split <;> omega
  have e1 : (mx x.f1 0 == x.f1) = decide (0 ≤ x.f1) := by
    rw [Bool.eq_iff_iff]; simp only [beq_iff_eq, decide_eq_true_eq]; unfold mx; split <;> omega
  have l1 : S.length < 5864062014805 := by omega
  have l2 : A.length < 5864062014805 := by omega
  simp only [nodes_tops.l1]
  rw [if_neg hz]
  by_cases h1 : x.f0 = 1
  · rw [if_pos h1, e4, e1]
    by_cases hg : Good x a b
    · rw [if_pos hg]
      unfold Good at hg
      rw [if_neg (by simp; omega), if_pos l1, if_pos l2]
    · rw [if_neg hg]
      unfold Good at hg
      rw [if_pos (by simp; omega)]
  · rw [if_neg h1, e4]
    by_cases hg : Good x a b
    · rw [if_pos hg]
      unfold Good at hg
      rw [if_neg (by simp; omega), if_pos l1, if_pos l2]
    · rw [if_neg hg]
      unfold Good at hg
      rw [if_pos (by simp; omega)]

theorem l1_round {k : Nat} {A S : List S96} {l : List S36} {len i : Int} {Q : List S96} {n z x0 x1 x2 x3 x4 o0 o1 o2 o3 o4 ti s d : Int} (h : z < n) (h0 : 0 ≤ z) (h1 : z < (Q.length : Int)) :
    nodes_tops.l1 (k + 1) A S l len i Q n z x0 x1 x2 x3 x4 o0 o1 o2 o3 o4 ti s d = if z = 0 then nodes_tops.l1 k A S l len i Q n (wrap64 (z + 1)) x0 x1 x2 x3 x4 o0 o1 ((rd_T96 Q z).f0) o3 o4 ti (wrap64 (s + ((rd_T96 Q z).f1))) (mx d (wrap64 (((rd_T96 Q z).f2) + 1)))
      else nodes_tops.l1 k A S l len i Q n (wrap64 (z + 1)) x0 x1 x2 x3 x4 o0 o1 o2 ((rd_T96 Q z).f0) o4 ti (wrap64 (s + ((rd_T96 Q z).f1))) (mx d (wrap64 (((rd_T96 Q z).f2) + 1))) := by
  rw [nodes_tops.l1, if_pos h, if_pos h0, if_pos h1]

def Tells (f : Option (List S96 × Bool)) (r : Option (List S96 × List S96)) : Prop :=
  (∀ u, r = some u → f = some (u.1, (u.2.length : Int) == 1)) ∧ (r = none → ∃ Z, f = some (Z, false))

theorem tops_run {l : List S36} (hl : l.length ≤ 70) {R : List S36} : ∀ {P : List S36} {A T : List S96} {k : Nat}, l = P ++ R → St A P T → Al A P → T.length ≤ P.length → 5 * R.length + 5 ≤ k →
    Tells (nodes_tops.l0 k A T.reverse l l.length P.length) (run R P.length A T) := by
  induction R with
  | nil =>
    intro P A T k e hS hA hT hk
    obtain ⟨k, rfl⟩ : ∃ z, k = z + 1 := ⟨k - 1, by omega⟩
    obtain rfl : l = P := by simpa using e
    simp only [nodes_tops.l0, run]
    rw [if_neg (by omega)]
    refine ⟨?_, fun h => by cases h⟩
    intro u h
    obtain rfl := Option.some.inj h
    simp
  | cons x R ih =>
    intro P A T k e hS hA hT hk
    obtain ⟨k, rfl⟩ : ∃ z, k = z + 5 := ⟨k - 5, by omega⟩
    have hlen : l.length = P.length + R.length + 1 := by rw [e]; simp; omega
    have hx : l[P.length]? = some x := by rw [e]; simp
    have hal := hA.1
    simp only [List.length_cons] at hk
    have nx : ∀ (j : Nat) (t : S96) (T' : List S96), k ≤ j → T'.length ≤ P.length → step x P.length T = some (t, T') → Tells (nodes_tops.l0 j (A ++ [t]) (T'.reverse ++ [t]) l l.length (wrap64 ((P.length : Int) + 1))) (run (x :: R) P.length A T) := by
      intro j t T' hj hT' h
      obtain ⟨g1, g2, _⟩ := step_ok hS hA h
      have := ih (k := j) (by rw [e]; simp) g1 g2 (by simp only [List.length_append, List.length_cons, List.length_nil]; omega) (by omega)
      rw [List.reverse_cons, show ((P ++ [x]).length : Int) = (P.length : Int) + 1 by simp] at this
      simp only [run, h, Option.bind_some]
      rw [w64 (by omega)]
      exact this
    have no : step x P.length T = none → Tells (some (A, false)) (run (x :: R) P.length A T) := by
      intro h
      simp only [run, h, Option.bind_none]
      exact ⟨fun u h => (by cases h), fun _ => ⟨_, rfl⟩⟩
    simp only [nodes_tops.l0]
    rw [if_pos (by omega), if_pos (by omega), if_pos (by omega), rd36 hx, show k + 4 = (k + 2) + 2 by omega, parts_eq, Option.bind_some]
    rcases cnt_cases x.f0 with hc | hc | hc | hc
    · rw [hc]
      rw [if_neg (by simp)]
      simp only [nodes_tops.j1]
      exact no (by simp [step, hc])
    · rw [hc]
      rw [if_pos rfl]
      simp only [nodes_tops.j1]
      rw [if_neg (by simp)]
      have hp : nodes_pop.f T.reverse ((0 : Nat) : Int) = some (T.reverse, []) := by
        unfold nodes_pop.f; rw [if_pos (by omega), if_pos (by omega)]; simp only [Int.toNat_natCast, Nat.sub_zero, List.take_length, List.drop_length]
      rw [hp, Option.bind_some, l1_fin (by simp) (by simp; omega) (by omega)]
      split
      · rename_i hg
        exact nx _ _ _ (by omega) hT (by simp only [step, hc, if_true, eq_true hg])
      · rename_i hg
        exact no (by simp only [step, hc, if_true, eq_false hg]; rfl)
    · rw [hc]
      rw [if_pos rfl]
      simp only [nodes_tops.j1]
      cases T with
      | nil =>
        rw [if_pos (by simp)]
        exact no (by simp [step, hc])
      | cons p T =>
        obtain ⟨Q, L, rfl, h1, h2, h3, h4, h5, h6, h7⟩ := hS.top
        have hpl : (Q ++ L).length = Q.length + L.length := by simp
        simp only [List.length_cons] at hT
        rw [if_neg (by simp; omega)]
        have hp : nodes_pop.f (p :: T).reverse ((1 : Nat) : Int) = some (T.reverse, [p]) := by
          unfold nodes_pop.f; rw [if_pos (by omega), if_pos (by simp; omega)]; simp
        rw [hp, Option.bind_some]
        rw [l1_round (by simp) (by omega) (by simp), if_pos rfl, show wrap64 ((0 : Int) + 1) = 1 from w64 (by omega), show rd_T96 [p] 0 = p from rfl, w64 (x := 1 + p.f1) (by omega), w64 (x := p.f2 + 1) (by omega)]
        have := l1_fin (k := k + 1) (A := A) (S := T.reverse) (l := l) (len := l.length) (i := (Q ++ L).length) (Q := [p]) (n := ([p].length : Int)) (z := 1) (x := x) (a := p.f0) (b := 0) (s := 1 + p.f1) (d := mx 1 (p.f2 + 1)) (by simp) (by simp; omega) (by omega)
        have hm : mx 1 (p.f2 + 1) = p.f2 + 1 := by unfold mx; split <;> omega
        rw [hm] at this ⊢
        refine (congrArg (Tells · _) this).mpr ?_
        split
        · rename_i hg
          exact nx _ _ _ (by omega) (by omega) (by simp [step, hc, hg])
        · rename_i hg
          exact no (by simp [step, hc, hg])
    · rw [hc]
      rw [if_pos rfl]
      simp only [nodes_tops.j1]
      cases T with
      | nil =>
        rw [if_pos (by simp)]
        exact no (by simp [step, hc])
      | cons q T =>
        obtain ⟨Q, L, rfl, h1, h2, h3, h4, h5, h6, h7⟩ := hS.top
        have hpl : (Q ++ L).length = Q.length + L.length := by simp
        cases T with
        | nil =>
          rw [if_pos (by simp)]
          exact no (by simp [step, hc])
        | cons p T =>
          obtain ⟨Q2, L2, rfl, g1, g2, g3, g4, g5, g6, g7⟩ := h1.top
          have hql : (Q2 ++ L2).length = Q2.length + L2.length := by simp
          simp only [List.length_cons] at hT
          rw [if_neg (by simp; omega)]
          have hp : nodes_pop.f (q :: p :: T).reverse ((2 : Nat) : Int) = some (T.reverse, [p, q]) := by
            unfold nodes_pop.f; rw [if_pos (by omega), if_pos (by simp; omega)]; simp
          rw [hp, Option.bind_some]
          rw [l1_round (by simp) (by omega) (by simp), if_pos rfl, show wrap64 ((0 : Int) + 1) = 1 from w64 (by omega), show rd_T96 [p, q] 0 = p from rfl, w64 (x := 1 + p.f1) (by omega), w64 (x := p.f2 + 1) (by omega)]
          rw [l1_round (by simp) (by omega) (by simp), if_neg (by omega), show wrap64 ((1 : Int) + 1) = 2 from w64 (by omega), show rd_T96 [p, q] 1 = q from rfl, w64 (x := 1 + p.f1 + q.f1) (by omega), w64 (x := q.f2 + 1) (by omega)]
          have := l1_fin (k := k) (A := A) (S := T.reverse) (l := l) (len := l.length) (i := (Q2 ++ L2 ++ L).length) (Q := [p, q]) (n := ([p, q].length : Int)) (z := 2) (x := x) (a := p.f0) (b := q.f0) (s := 1 + p.f1 + q.f1) (d := mx (mx 1 (p.f2 + 1)) (q.f2 + 1)) (by simp) (by simp; omega) (by omega)
          have hm : mx 1 (p.f2 + 1) = p.f2 + 1 := by unfold mx; split <;> omega
          rw [hm] at this ⊢
          refine (congrArg (Tells · _) this).mpr ?_
          split
          · rename_i hg
            exact nx _ _ _ (by omega) (by omega) (by simp [step, hc, hg])
          · rename_i hg
            exact no (by simp [step, hc, hg])

theorem tops_is {l : List S36} (hl : l.length ≤ 70) {k : Nat} (hk : 5 * l.length + 5 ≤ k) : Tells (nodes_tops.f k l) (run l 0 [] []) :=
  tops_run hl (P := []) (A := []) (T := []) rfl .nil ⟨rfl, by simp⟩ (Nat.le_refl _) hk

end Go.Proofs.Ytpkamfjkmbakhaa.G.Pure
