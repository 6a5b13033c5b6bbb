/- A list of which one thing is another one. Nothing is assumed but the bounds of whole numbers. -/
import Derived.Test.YtpkamfjkmbakhaaNPure8
import Derived.Test.YtpkamfjkmbakhaaN16
namespace Go.Proofs.Ytpkamfjkmbakhaa.N.Pure
open Go.RowKit Go.Proofs.Ytpkamfjkmbakhaa.N Go.Proofs.YtpkamfjkmbakhaaW.PrintWords Go.Proofs.YtpkamfjkmbakhaaW.PrintLast Go.Proofs.YtpkamfjkmbakhaaW.PrintMore

/-- Where one node can't stand on what is before it, the whole is no expression. -/
theorem chk_spoilt {l : List S36} (h : chk l = 0) {Q Z : List S36} {x y : S36} (hq : l = Q ++ x :: Z) (hy : ∀ T u, step x Q.length T = some u → step y Q.length T = none) : chk (Q ++ y :: Z) = 8 := by
  obtain ⟨hl, A, d, hV, _⟩ := chk_ok h
  refine chk_bad ?_ (by rw [hq] at hl; simpa using hl)
  unfold V at hV
  rw [hq, run_append] at hV
  obtain ⟨u, hu, hV⟩ := Option.bind_eq_some_iff.1 hV
  simp only [run] at hV
  obtain ⟨v, hv, _⟩ := Option.bind_eq_some_iff.1 hV
  rw [run_append, hu, Option.bind_some]
  simp only [run]
  rw [show (0 : Int) + (Q.length : Int) = Q.length by omega] at hv ⊢
  rw [hy _ _ hv, Option.bind_none]

/-- The same kind, and not the same indices. -/
theorem step_other {x y : S36} {i : Int} (h0 : y.f0 = x.f0) (h : ∀ a b, Good x a b → ¬ Good y a b) (T : List S96) (u : S96 × List S96) (hs : step x i T = some u) : step y i T = none := by
  unfold step at hs ⊢
  rw [h0]
  rcases cnt_cases x.f0 with hc | hc | hc | hc <;> simp only [hc] at hs ⊢
  · simp at hs
  · simp only [if_true] at hs ⊢
    split at hs
    · rename_i g; rw [if_neg (h _ _ g)]
    · cases hs
  · simp only [Option.some.injEq, Nat.one_ne_zero, if_false, if_true] at hs ⊢
    cases T with
    | nil => simp at hs
    | cons p T =>
      simp only at hs ⊢
      split at hs
      · rename_i g; rw [if_neg (h _ _ g)]
      · cases hs
  · simp only [Option.some.injEq] at hs ⊢
    match T, hs with
    | q :: p :: T, hs =>
      simp at hs ⊢
      exact fun g => h _ _ hs.1 g

theorem NodesOther_ok {k : Nat} (hk : 405 ≤ k) (l : List S36) (a which by_ : Int) (hw : ∀ x ∈ l, OpensN.W36 x) : tailwaterlaw04_NodesOther.f (k + 3) l a which by_ = some true := by
  have no : tailwaterlaw04_NodesOther.j0 (k + 3) l a which by_ true = some true := by
    rw [tailwaterlaw04_NodesOther.j0, if_pos rfl, alive_is (by omega)]; rfl
  unfold tailwaterlaw04_NodesOther.f
  rw [great_is, Option.bind_some]
  by_cases hg : l.length > 70
  · rw [if_pos (by simpa using hg)]; exact no
  rw [if_neg (by simpa using hg), ref_check (by omega) (by omega), Option.bind_some]
  by_cases hc : chk l = 0
  rotate_left
  · rw [if_neg hc]; exact no
  rw [if_pos hc]
  by_cases h1 : a < 0
  · rw [if_pos h1]; exact no
  rw [if_neg h1]
  by_cases h2 : a ≥ (l.length : Int)
  · rw [if_pos h2]; exact no
  rw [if_neg h2]
  by_cases h3 : by_ = 0
  · rw [if_pos h3]; exact no
  rw [if_neg h3]
  by_cases h4 : by_ < -100
  · rw [if_pos h4]; exact no
  rw [if_neg h4]
  by_cases h5 : by_ > 100
  · rw [decide_eq_true h5]; exact no
  rw [decide_eq_false h5]
  obtain ⟨i, rfl⟩ : ∃ i : Nat, a = i := ⟨a.toNat, by omega⟩
  obtain ⟨hl, A, d, hV, hd⟩ := chk_ok hc
  have hi : i < l.length := by omega
  obtain ⟨Q, x, Z, hq, hQ⟩ : ∃ Q x Z, l = Q ++ x :: Z ∧ Q.length = i := ⟨l.take i, l[i], l.drop (i + 1), by rw [List.getElem_cons_drop, List.take_append_drop], by simp; omega⟩
  subst hQ
  have hx : rd_T36 l (Q.length : Int) = x := rd36 (by rw [hq]; simp)
  have hset : ∀ y, l.set ((Q.length : Int)).toNat y = Q ++ y :: Z := by intro y; rw [hq]; exact set_mid
  have hxm : x ∈ l := by rw [hq]; simp
  have hsm := hV.ex.small (by omega) x hxm
  have hwx := hw x hxm
  have hwN := Go.bounds_i64 hwx.2.1
  have hkind : ∃ c, cnt x.f0 = some c ∧ 1 ≤ x.f0 ∧ x.f0 ≤ 19 := by
    rcases cnt_cases x.f0 with h | h | h | h
    · exfalso
      unfold V at hV
      rw [hq, run_append] at hV
      obtain ⟨u, hu, hV⟩ := Option.bind_eq_some_iff.1 hV
      simp only [run, step, h] at hV
      simp at hV
    · exact ⟨0, h, by rw [cnt0] at h; omega⟩
    · exact ⟨1, h, by rw [cnt1] at h; omega⟩
    · exact ⟨2, h, by rw [cnt2] at h; omega⟩
  obtain ⟨c, hcx, hk1, hk2⟩ := hkind
  have hlen : ∀ y, (Q ++ y :: Z).length ≤ 60 := by intro y; rw [hq] at hl; simpa using hl
  -- the end: another list, that isn't the same
  have fin : ∀ j : Nat, 400 ≤ j → ∀ y, strip y ≠ strip x → ∀ n : Int, 0 ≤ n → tailwaterlaw04_NodesOther.j1 (j + 1) l (Q ++ y :: Z) n = some true := by
    intro j hj y hy n hn
    rw [tailwaterlaw04_NodesOther.j1, pcheck_ (by have := hlen y; omega) hj, Option.bind_some]
    by_cases h : chk (Q ++ y :: Z) = 0
    · obtain ⟨r, e, hr⟩ := same_is hc h hj
      rw [if_pos h, e, Option.bind_some]
      simp only
      rw [if_pos trivial, if_neg ?_, alive_is (by omega), Option.bind_some]
      intro ht
      have := hr.1 ht
      rw [hq, List.map_append, List.map_append, List.map_cons, List.map_cons] at this
      have := List.append_cancel_left this
      simp only [List.cons.injEq] at this
      exact hy this.1.symm
    · rw [if_neg h, if_pos hn, alive_is (by omega), Option.bind_some]
  rw [tailwaterlaw04_NodesOther.j0, if_neg (by simp), Option.bind_some, if_pos (by simp; omega), Option.bind_some, if_pos (by omega), if_pos (by omega), hx, show k + 2 = k + 2 from rfl, parts_eq, Option.bind_some, hcx]
  simp only [List.nil_append]
  rw [if_pos trivial, hx]
  by_cases hw0 : which = 0
  · rw [if_pos hw0, if_pos (by omega), hset]
    exact fin (k + 1) (by omega) _ (by rw [ne_eq, strip_iff]; simp only; omega) _ (by omega)
  rw [if_neg hw0]
  by_cases hw1 : which = 1
  · rw [if_pos hw1, if_pos (by omega), Option.bind_some, hset]
    have e : chk (Q ++ ⟨x.f0, x.f1, wrap64 (x.f2 + by_), x.f3, x.f4⟩ :: Z) = 8 := chk_spoilt hc hq (step_other (by rfl) (fun a b g g2 => by
      unfold Good at g g2; simp only at g2; rw [w64 (by omega)] at g2; omega))
    rw [pcheck_ (by have := hlen ⟨x.f0, x.f1, wrap64 (x.f2 + by_), x.f3, x.f4⟩; omega) (by omega), Option.bind_some, if_pos e]
    exact fin (k + 1) (by omega) _ (by rw [ne_eq, strip_iff]; simp only; rw [w64 (by omega)]; omega) _ (by omega)
  rw [if_neg hw1]
  by_cases hw2 : which = 2
  · rw [if_pos hw2, if_pos (by omega), Option.bind_some, hset]
    have e : chk (Q ++ ⟨x.f0, x.f1, x.f2, wrap64 (x.f3 + by_), x.f4⟩ :: Z) = 8 := chk_spoilt hc hq (step_other (by rfl) (fun a b g g2 => by
      unfold Good at g g2; simp only at g2; rw [w64 (by omega)] at g2; omega))
    rw [pcheck_ (by have := hlen ⟨x.f0, x.f1, x.f2, wrap64 (x.f3 + by_), x.f4⟩; omega) (by omega), Option.bind_some, if_pos e]
    exact fin (k + 1) (by omega) _ (by rw [ne_eq, strip_iff]; simp only; rw [w64 (by omega)]; omega) _ (by omega)
  rw [if_neg hw2, if_pos (by omega), Option.bind_some, hset]
  have hne : wrap64 (x.f1 + by_) ≠ x.f1 := by unfold wrap64; omega
  by_cases hk0 : x.f0 = 1
  · rw [if_pos hk0]
    exact fin (k + 1) (by omega) _ (by rw [ne_eq, strip_iff]; simp only; intro g; exact hne g.2.1) _ (by omega)
  · rw [if_neg hk0]
    have e : chk (Q ++ ⟨x.f0, wrap64 (x.f1 + by_), x.f2, x.f3, x.f4⟩ :: Z) = 8 := chk_spoilt hc hq (step_other (by rfl) (fun a b g g2 => by
      unfold Good at g g2; simp only at g2
      generalize wrap64 (x.f1 + by_) = W at hne g2; omega))
    rw [pcheck_ (by have := hlen ⟨x.f0, wrap64 (x.f1 + by_), x.f2, x.f3, x.f4⟩; omega) (by omega), Option.bind_some, if_pos e]
    exact fin (k + 1) (by omega) _ (by rw [ne_eq, strip_iff]; simp only; intro g; exact hne g.2.1) _ (by omega)

/-- The law. -/
theorem NodesOther (l : List S36) (a which by_ : Int) (hw : ∀ x ∈ l, OpensN.W36 x) (_ : (Lit.int .i64 a).wf = true) (_ : (Lit.int .i64 which).wf = true) (_ : (Lit.int .i64 by_).wf = true) : ∃ k, tailwaterlaw04_NodesOther.f k l a which by_ = some true := ⟨408, NodesOther_ok (Nat.le_refl _) l a which by_ hw⟩

end Go.Proofs.Ytpkamfjkmbakhaa.N.Pure
