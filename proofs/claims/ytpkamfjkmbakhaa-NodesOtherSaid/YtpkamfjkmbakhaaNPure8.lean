/- The same expressions. Nothing is assumed. -/
import Derived.Test.YtpkamfjkmbakhaaNPure6
import Derived.Test.YtpkamfjkmbakhaaN15
namespace Go.Proofs.Ytpkamfjkmbakhaa.N.Pure
open Go.RowKit Go.Proofs.Ytpkamfjkmbakhaa.N Go.Proofs.YtpkamfjkmbakhaaW.PrintWords Go.Proofs.YtpkamfjkmbakhaaW.PrintLast Go.Proofs.YtpkamfjkmbakhaaW.PrintMore

theorem pcheck_ {l : List S36} (hl : l.length ≤ 70) {k : Nat} (hk : 400 ≤ k) : nodes_Check.f k l = some (chk l) := by
  obtain ⟨A, e, _⟩ := prog_check hl hk
  unfold nodes_Check.f; rw [e, Option.bind_some]

/-- A node, but for where it stands. -/
def strip (x : S36) : S36 := ⟨x.f0, x.f1, x.f2, x.f3, 0⟩

theorem strip_iff {x y : S36} : strip x = strip y ↔ x.f0 = y.f0 ∧ x.f1 = y.f1 ∧ x.f2 = y.f2 ∧ x.f3 = y.f3 := by
  unfold strip; rw [S36.mk.injEq]; simp

theorem eqfA_run {R : List S36} : ∀ {D E S : List S36} {k : Nat}, D.length = E.length → R.length = S.length → D.length + R.length ≤ 100 → R.length < k →
    ∃ r, eqfA.l0 k (E ++ S) (D ++ R) ((D.length + R.length : Nat) : Int) (D.length : Int) = some r ∧ (r = true ↔ R.map strip = S.map strip) := by
  induction R with
  | nil =>
    intro D E S k hD hR hl hk
    obtain ⟨k, rfl⟩ : ∃ z, k = z + 1 := ⟨k - 1, by omega⟩
    rw [eqfA.l0, if_neg (by simp)]
    obtain rfl : S = [] := List.eq_nil_of_length_eq_zero (by simpa using hR.symm)
    exact ⟨true, rfl, by simp⟩
  | cons x R ih =>
    intro D E S k hD hR hl hk
    obtain ⟨k, rfl⟩ : ∃ z, k = z + 1 := ⟨k - 1, by omega⟩
    match S, hR with
    | y :: S, hR =>
      simp only [List.length_cons] at hR hl hk
      have hx : rd_T36 (D ++ x :: R) (D.length : Int) = x := rd36 (by simp)
      have hy : rd_T36 (E ++ y :: S) (D.length : Int) = y := by rw [hD]; exact rd36 (by simp)
      rw [eqfA.l0, if_pos (by simp only [List.length_cons]; omega), if_pos (by omega), if_pos (by simp; omega), if_pos (by simp; omega), hx, hy]
      unfold nodes_Same_1.f
      rw [Option.bind_some]
      by_cases h : strip x = strip y
      · have h' := strip_iff.1 h
        rw [if_pos (by simp [h'])]
        rw [w64 (by omega)]
        obtain ⟨r, e, hr⟩ := ih (D := D ++ [x]) (E := E ++ [y]) (S := S) (k := k) (by simp [hD]) (by omega) (by simp; omega) (by omega)
        simp only [List.append_assoc, List.cons_append, List.nil_append, List.length_append, List.length_cons, List.length_nil] at e
        simp only [List.length_cons]
        rw [show ((D.length : Int) + 1) = ((D.length + (0 + 1) : Nat) : Int) by omega, show D.length + (R.length + 1) = D.length + (0 + 1) + R.length by omega, e]
        exact ⟨r, rfl, by rw [hr]; simp [h]⟩
      · have h' : ¬ (x.f0 = y.f0 ∧ x.f1 = y.f1 ∧ x.f2 = y.f2 ∧ x.f3 = y.f3) := fun g => h (strip_iff.2 g)
        rw [if_neg ?_]
        · exact ⟨false, rfl, by simp [h]⟩
        · simp only [Bool.and_eq_true, beq_iff_eq]; exact h'

theorem eqfA_is {a b : List S36} (h : a.length ≤ 100) {k : Nat} (hk : a.length < k) (z : Int) : ∃ r, eqfA.f k a b z = some r ∧ (r = true ↔ a.map strip = b.map strip) := by
  unfold eqfA.f
  by_cases hl : a.length = b.length
  · rw [if_pos (by omega)]
    have := eqfA_run (D := []) (E := []) (R := a) (S := b) (k := k) rfl hl (by simpa using h) hk
    simpa using this
  · rw [if_neg (by omega)]
    exact ⟨false, rfl, by simp; intro e; have := congrArg List.length e; simp at this; exact hl this⟩

theorem same_is {a b : List S36} (ha : chk a = 0) (hb : chk b = 0) {k : Nat} (hk : 400 ≤ k) : ∃ r, nodes_Same.f k a b = some (r, 0) ∧ (r = true ↔ a.map strip = b.map strip) := by
  have la := (chk_ok ha).1
  have lb := (chk_ok hb).1
  obtain ⟨r, e, hr⟩ := eqfA_is (a := a) (b := b) (by omega) (k := k) (by omega) 0
  refine ⟨r, ?_, hr⟩
  unfold nodes_Same.f
  rw [pcheck_ (by omega) hk, Option.bind_some, if_pos ha, pcheck_ (by omega) hk, Option.bind_some, if_pos hb, e, Option.bind_some]

theorem good_strip {x y : S36} {a b : Int} (h : Good x a b) (e : strip x = strip y) (hy : 0 ≤ y.f4 ∧ y.f4 ≤ 400) : Good y a b := by
  have := strip_iff.1 e
  unfold Good at h ⊢
  omega

theorem one_of {M : List S36} {x : S36} (e : M.map strip = [x].map strip) : ∃ y, M = [y] ∧ strip y = strip x := by
  obtain ⟨y, h1, h2⟩ := List.map_eq_singleton_iff.1 e
  exact ⟨y, h1, h2⟩

theorem Ex.alike {o : Int} {L : List S36} {d : Int} (h : Ex o L d) : ∀ {M : List S36}, L.map strip = M.map strip → (∀ x ∈ M, 0 ≤ x.f4 ∧ x.f4 ≤ 400) → Ex o M d := by
  induction h with
  | @leaf o x h1 h2 =>
    intro M e hM
    obtain ⟨y, rfl, e2⟩ := one_of e.symm
    have e' := strip_iff.1 e2
    exact .leaf (by rw [e'.1]; exact h1) (good_strip h2 e2.symm (hM y (by simp)))
  | @un o L d x h1 h2 h3 ih =>
    intro M e hM
    rw [List.map_append] at e
    obtain ⟨L', M', rfl, e1, e2⟩ := List.map_eq_append_iff.1 e.symm
    obtain ⟨y, rfl, e5⟩ := one_of e2
    · have e' := strip_iff.1 e5
      have hl : L'.length = L.length := by have := congrArg List.length e1; simpa using this
      exact .un (ih e1.symm (fun z hz => hM z (by simp [hz]))) (by rw [e'.1]; exact h2) (by rw [hl]; exact good_strip h3 e5.symm (hM y (by simp)))
  | @bin o L d R e x h1 h2 h3 h4 ih1 ih2 =>
    intro M e hM
    rw [List.map_append, List.map_append] at e
    obtain ⟨LR, M', rfl, e1, e2⟩ := List.map_eq_append_iff.1 e.symm
    obtain ⟨L', R', rfl, e3, e4⟩ := List.map_eq_append_iff.1 e1
    obtain ⟨y, rfl, e5⟩ := one_of e2
    · have e' := strip_iff.1 e5
      have hl : L'.length = L.length := by have := congrArg List.length e3; simpa using this
      have hr : R'.length = R.length := by have := congrArg List.length e4; simpa using this
      exact .bin (ih1 e3.symm (fun z hz => hM z (by simp [hz]))) (by rw [hl]; exact ih2 e4.symm (fun z hz => hM z (by simp [hz]))) (by rw [e'.1]; exact h3) (by rw [hl, hr]; exact good_strip h4 e5.symm (hM y (by simp)))

theorem Ex.one {L : List S36} {d e : Int} (h : Ex 0 L d) (g : Ex 0 L e) : d = e := by
  obtain ⟨B, _, e1⟩ := run_all h [] []
  obtain ⟨C, _, e2⟩ := run_all g [] []
  rw [e1] at e2
  simp only [Option.some.injEq, Prod.mk.injEq, List.cons.injEq, S96.mk.injEq] at e2
  exact e2.2.1.2.2

/-- A node that stands elsewhere. -/
def place (t : Int) (x : S36) : S36 := ⟨x.f0, x.f1, x.f2, x.f3, t⟩

theorem place_run {x0 x1 : List S36} {t : Int} {x7 : Bool} {x8 : Int} {x9 : Bool} {x10 : Int} {R : List S36} : ∀ {D : List S36} {k : Nat}, D.length + R.length ≤ 100 →
    tailwaterlaw04_NodesSame.l0 (k + R.length) x0 x1 t x7 x8 x9 x10 (D ++ R) (D.length : Int) = tailwaterlaw04_NodesSame.l0 k x0 x1 t x7 x8 x9 x10 (D ++ R.map (place t)) ((D.length + R.length : Nat) : Int) := by
  induction R with
  | nil => intro D k _; simp
  | cons x R ih =>
    intro D k h
    simp only [List.length_cons] at h ⊢
    have hx : rd_T36 (D ++ x :: R) (D.length : Int) = x := rd36 (by simp)
    rw [show k + (R.length + 1) = (k + R.length) + 1 by omega, tailwaterlaw04_NodesSame.l0, if_pos (by simp; omega), if_pos (by omega), hx, set_mid, w64 (by omega)]
    have := ih (D := D ++ [place t x]) (k := k) (by simp; omega)
    simp only [List.append_assoc, List.cons_append, List.nil_append, List.length_append, List.length_cons, List.length_nil] at this
    rw [show ((D.length : Int) + 1) = ((D.length + (0 + 1) : Nat) : Int) by omega, List.map_cons, show D.length + (R.length + 1) = D.length + (0 + 1) + R.length by omega]
    exact this

theorem NodesSame_ok {k : Nat} (hk : 400 ≤ k) (l m : List S36) (t : Int) : ∃ j, k ≤ j ∧ tailwaterlaw04_NodesSame.f j l m t = some true := by
  refine ⟨k + 1 + l.length + 1, by omega, ?_⟩
  have no : tailwaterlaw04_NodesSame.j0 (k + 1 + l.length + 1) l m t true = some true := by
    rw [tailwaterlaw04_NodesSame.j0, if_pos rfl, alive_is (by omega)]; rfl
  unfold tailwaterlaw04_NodesSame.f
  rw [great_is, Option.bind_some]
  by_cases hg : l.length > 70
  · rw [if_pos (by simpa using hg)]; exact no
  rw [if_neg (by simpa using hg), great_is, Option.bind_some]
  by_cases hg2 : m.length > 70
  · rw [if_pos (by simpa using hg2)]; exact no
  rw [if_neg (by simpa using hg2), ref_check (by omega) (by omega), Option.bind_some]
  by_cases hc : chk l = 0
  rotate_left
  · rw [if_neg hc]; exact no
  rw [if_pos hc, ref_check (by omega) (by omega), Option.bind_some]
  by_cases hc2 : chk m = 0
  rotate_left
  · rw [if_neg hc2]; exact no
  rw [if_pos hc2]
  by_cases h1 : t < 0
  · rw [if_pos h1]; exact no
  rw [if_neg h1]
  by_cases h2 : t > 400
  · rw [decide_eq_true h2]; exact no
  rw [decide_eq_false h2]
  obtain ⟨hl, A, d, hV, hd⟩ := chk_ok hc
  obtain ⟨hl2, A2, d2, hV2, hd2⟩ := chk_ok hc2
  obtain ⟨r1, e1, hr1⟩ := same_is hc hc2 (k := k + 1 + l.length) (by omega)
  obtain ⟨r2, e2, hr2⟩ := same_is hc2 hc (k := k + 1 + l.length) (by omega)
  rw [tailwaterlaw04_NodesSame.j0, if_neg (by simp), e1, Option.bind_some, e2, Option.bind_some, Option.bind_some, if_pos (by simp; omega)]
  have hp := place_run (x0 := l) (x1 := m) (t := t) (x7 := r1) (x8 := 0) (x9 := r2) (x10 := 0) (R := l) (D := []) (k := k + 1) (by simp; omega)
  simp only [List.nil_append, List.length_nil] at hp ⊢
  rw [show ((0 : Nat) : Int) = 0 from rfl] at hp
  rw [hp]
  have hst : l.map strip = (l.map (place t)).map strip := by
    rw [List.map_map]; exact List.map_congr_left fun x _ => rfl
  have hE : Ex 0 (l.map (place t)) d := hV.ex.alike hst (fun x hx => by
    obtain ⟨y, _, rfl⟩ := List.mem_map.1 hx
    simp only [place]; omega)
  obtain ⟨A3, hV3⟩ := V.of_ex hE
  have hc3 : chk (l.map (place t)) = 0 := chk_zero hV3 (by simp; omega) hd
  obtain ⟨r3, e3, hr3⟩ := same_is hc hc3 (k := k) hk
  rw [tailwaterlaw04_NodesSame.l0, if_neg (by simp), e3, Option.bind_some, depth_ok hV hl hd hk, Option.bind_some, depth_ok hV2 hl2 hd2 hk, Option.bind_some]
  simp only
  have h12 : r1 = r2 := by
    rw [Bool.eq_iff_iff, hr1, hr2]; exact ⟨fun h => h.symm, fun h => h.symm⟩
  have h3 : r3 = true := hr3.2 hst
  rw [if_pos trivial, if_pos trivial, if_pos trivial, if_pos trivial, if_pos trivial, if_pos (by simp [h12]), if_pos h3]
  cases hr : r1 with
  | true =>
    have ha := hr1.1 hr
    have hll : l.length = m.length := by have := congrArg List.length ha; simpa using this
    have hE2 := hV.ex.alike ha (fun x hx => by have := hV2.ex.small (by omega) x hx; omega)
    rw [if_pos rfl, if_pos (hE2.one hV2.ex), if_pos (by omega), alive_is (by omega), Option.bind_some]
  | false =>
    rw [if_neg (by simp)]
    obtain ⟨r, e, he⟩ := equal_is (a := l) (b := m) (by omega) (k := k) (by omega)
    rw [e, Option.bind_some, if_neg ?_, alive_is (by omega), Option.bind_some]
    intro h
    have hlm := he.1 h
    have := hr1.2 (by rw [hlm])
    rw [hr] at this; cases this

/-- The law. -/
theorem NodesSame (l m : List S36) (t : Int) (_ : ∀ x ∈ l, OpensN.W36 x) (_ : ∀ x ∈ m, OpensN.W36 x) (_ : (Lit.int .i64 t).wf = true) : ∃ k, tailwaterlaw04_NodesSame.f k l m t = some true := by
  obtain ⟨j, _, h⟩ := NodesSame_ok (Nat.le_refl 400) l m t
  exact ⟨j, h⟩

end Go.Proofs.Ytpkamfjkmbakhaa.N.Pure
