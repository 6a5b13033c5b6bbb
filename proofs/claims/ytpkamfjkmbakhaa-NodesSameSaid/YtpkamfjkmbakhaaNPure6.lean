/- Sizes add up. Nothing is assumed. -/
import Derived.Test.YtpkamfjkmbakhaaNPure5
import Derived.Test.YtpkamfjkmbakhaaN9
import Derived.Test.YtpkamfjkmbakhaaN10
import Derived.Test.YtpkamfjkmbakhaaNOpens
namespace Go.Proofs.Ytpkamfjkmbakhaa.N.Pure
open Go.RowKit Go.Proofs.Ytpkamfjkmbakhaa.N Go.Proofs.YtpkamfjkmbakhaaW.PrintWords Go.Proofs.YtpkamfjkmbakhaaW.PrintLast Go.Proofs.YtpkamfjkmbakhaaW.PrintMore

theorem alive_is {k : Nat} (hk : 60 ≤ k) : tailwaterlaw04_alive.f k = some true := by
  have h : tailwaterlaw04_alive.f 60 = some true := by decide +kernel
  have := more_rounds (g := tailwaterlaw04_alive.f) (fun k => tailwaterlaw04_alive.mono k) 60 (k - 60) _ h
  rwa [show 60 + (k - 60) = k by omega] at this

theorem great_is (l : List S36) : tailwaterref04_Great.f l = some (decide (l.length > 70)) := by
  unfold tailwaterref04_Great.f
  congr 1
  rw [decide_eq_decide]; omega

theorem S36.ext_ {x y : S36} (h0 : x.f0 = y.f0) (h1 : x.f1 = y.f1) (h2 : x.f2 = y.f2) (h3 : x.f3 = y.f3) (h4 : x.f4 = y.f4) : x = y := by
  cases x; cases y; simp only at h0 h1 h2 h3 h4; subst h0 h1 h2 h3 h4; rfl

theorem equal_run {R : List S36} : ∀ {D E S : List S36} {k : Nat}, D.length = E.length → R.length = S.length → D.length + R.length ≤ 100 → R.length < k →
    ∃ r, tailwaterref04_Equal.l0 k (D ++ R) (E ++ S) (D.length : Int) = some r ∧ (r = true ↔ R = S) := by
  induction R with
  | nil =>
    intro D E S k hD hR hl hk
    obtain ⟨k, rfl⟩ : ∃ z, k = z + 1 := ⟨k - 1, by omega⟩
    rw [tailwaterref04_Equal.l0, if_neg (by simp)]
    obtain rfl : S = [] := List.eq_nil_of_length_eq_zero (by simpa using hR.symm)
    exact ⟨true, rfl, by simp⟩
  | cons x R ih =>
    intro D E S k hD hR hl hk
    obtain ⟨k, rfl⟩ : ∃ z, k = z + 1 := ⟨k - 1, by omega⟩
    match S, hR with
    | y :: S, hR =>
      simp only [List.length_cons] at hR hl hk
      have hx : rd_T36 (D ++ x :: R) (D.length : Int) = x := rd36 (by simp)
      have hy : rd_T36 (E ++ y :: S) (D.length : Int) = y := by rw [hD]; exact rd36 (by simp)
      rw [tailwaterref04_Equal.l0, if_pos (by simp; omega), if_pos (by omega), if_pos (by simp; omega), hx, hy]
      by_cases h : x = y
      · subst h
        rw [if_neg (by simp), w64 (by omega)]
        obtain ⟨r, e, hr⟩ := ih (D := D ++ [x]) (E := E ++ [x]) (S := S) (k := k) (by simp [hD]) (by omega) (by simp; omega) (by omega)
        simp only [List.append_assoc, List.cons_append, List.nil_append, List.length_append, List.length_cons, List.length_nil] at e
        rw [show ((D.length : Int) + 1) = ((D.length + (0 + 1) : Nat) : Int) by omega, e]
        exact ⟨r, rfl, by rw [hr]; simp⟩
      · rw [if_pos ?_]
        · exact ⟨false, rfl, by simp [h]⟩
        · have hne : ¬ (x.f0 = y.f0 ∧ x.f1 = y.f1 ∧ x.f2 = y.f2 ∧ x.f3 = y.f3 ∧ x.f4 = y.f4) := fun g => h (S36.ext_ g.1 g.2.1 g.2.2.1 g.2.2.2.1 g.2.2.2.2)
          simp only [Bool.or_eq_true, Bool.not_eq_true', beq_eq_false_iff_ne, ne_eq]
          omega

theorem equal_is {a b : List S36} (h : a.length ≤ 100) {k : Nat} (hk : a.length < k) : ∃ r, tailwaterref04_Equal.f k a b = some r ∧ (r = true ↔ a = b) := by
  unfold tailwaterref04_Equal.f
  by_cases hl : a.length = b.length
  · rw [if_pos (by omega)]
    exact equal_run (D := []) (E := []) rfl hl (by simpa using h) hk
  · rw [if_neg (by omega)]
    exact ⟨false, rfl, by simp; intro e; exact hl (by rw [e])⟩
theorem equal_self {a : List S36} (h : a.length ≤ 100) {k : Nat} (hk : a.length < k) : tailwaterref04_Equal.f k a a = some true := by
  obtain ⟨r, e, hr⟩ := equal_is (b := a) h hk
  rw [e, hr.2 rfl]

theorem whole_part {l A d} (h : V l A d) (hl : l.length ≤ 60) (hd : d ≤ 20) {k : Nat} (hk : 400 ≤ k) : nodes_Part.f k l ((l.length - 1 : Nat) : Int) = some (l, 0) := by
  have hb := h.ex.bounds
  have hA : A[l.length - 1]? = some ⟨((l.length - 1 : Nat) : Int), l.length, d⟩ := by
    rw [h.last]; congr 1; rw [S96.mk.injEq]; exact ⟨by omega, rfl, rfl⟩
  rw [part_is h hl hd hk (Q := []) (L := l) (Z := []) (e := d) (by simp) (by simp; omega) hA]
  have := h.ex.shift0 (by omega) (by omega)
  simp only [List.length_nil]
  rw [show (-((0 : Nat) : Int)) = 0 by simp, this]

/-- A part's own part is an expression. -/
theorem sub_ok {Q L : List S36} {e : Int} (h : Ex Q.length L e) (hl : Q.length + L.length ≤ 100) : ∃ A, V (L.map (shift (-(Q.length : Int)))) A e := by
  have := h.shift (b := -(Q.length : Int)) (by omega) (by omega) (by omega)
  rw [show (Q.length : Int) + -(Q.length : Int) = 0 by omega] at this
  exact V.of_ex this

theorem NodesSizes_ok {k : Nat} (hk : 400 ≤ k) (l : List S36) (a : Int) : tailwaterlaw04_NodesSizes.f (k + 3) l a = some true := by
  have no : tailwaterlaw04_NodesSizes.j0 (k + 3) l a true = some true := by
    rw [tailwaterlaw04_NodesSizes.j0, if_pos rfl, alive_is (by omega)]; rfl
  unfold tailwaterlaw04_NodesSizes.f
  rw [great_is, Option.bind_some]
  by_cases hg : l.length > 70
  · rw [if_pos (by simpa using hg)]; exact no
  rw [if_neg (by simpa using hg), ref_check (by omega) (by omega), Option.bind_some]
  by_cases hc : chk l = 0
  rotate_left
  · rw [if_neg hc]; exact no
  rw [if_pos hc]
  by_cases h1 : a < 0
  · rw [if_pos h1]; exact no
  rw [if_neg h1]
  by_cases h2 : a ≥ (l.length : Int)
  · rw [decide_eq_true h2]; exact no
  rw [decide_eq_false h2]
  obtain ⟨i, rfl⟩ : ∃ i : Nat, a = i := ⟨a.toNat, by omega⟩
  obtain ⟨hl, A, d, hV, hd⟩ := chk_ok hc
  have hb := hV.ex.bounds
  obtain ⟨Q, L, Z, e, hq, hi, hE, hA, hed⟩ := hV.node (i := i) (by omega)
  have hll : l.length = Q.length + L.length + Z.length := by rw [hq]; simp; omega
  have hAl : A[l.length - 1]? = some ⟨((l.length - 1 : Nat) : Int), l.length, d⟩ := by
    rw [hV.last]; congr 1; rw [S96.mk.injEq]; exact ⟨by omega, rfl, rfl⟩
  have hw : wrap64 ((l.length : Int) - 1) = ((l.length - 1 : Nat) : Int) := by rw [w64 (by omega)]; omega
  obtain ⟨B, hB⟩ := sub_ok hE (by omega)
  have eb := hE.bounds
  have last : ∀ j : Nat, 400 ≤ j → ∀ n, cnt (rd_T36 l i).f0 = some n → ∀ s, s = (L.length : Int) → n ≤ 1 → tailwaterlaw04_NodesSizes.j2 (j + 1) l i L.length n d s = some true := by
    intro j hj n hn s hs hn1
    rw [tailwaterlaw04_NodesSizes.j2, if_neg (by omega), part_is hV hl hd hj hq hi hA, Option.bind_some]
    simp only
    rw [depth_ok hB (by simp; omega) (by omega) hj, Option.bind_some, if_pos hs]
    simp only [List.length_map]
    rw [if_pos trivial, if_pos trivial, if_pos trivial, if_pos (by omega), alive_is (by omega), Option.bind_some]
  have go : ∀ n, cnt (rd_T36 l i).f0 = some n → tailwaterlaw04_NodesSizes.j1 (k + 2) l i L.length n d false = some true → tailwaterlaw04_NodesSizes.j0 (k + 3) l i false = some true := by
    intro n hn h
    rw [tailwaterlaw04_NodesSizes.j0, if_neg (by simp), size_ok hV hl hd (by omega) hA, Option.bind_some, if_pos (by omega), if_pos (by omega), show k + 2 = k + 2 from rfl, parts_eq, Option.bind_some, hn]
    simp only
    rw [hw, size_ok hV hl hd (by omega) hAl, Option.bind_some, depth_ok hV hl hd (by omega), Option.bind_some, whole_part hV hl hd (by omega), Option.bind_some]
    simp only
    rw [if_pos trivial, if_pos trivial, if_pos trivial, if_pos trivial, if_pos trivial, if_pos trivial, if_neg (by omega), if_neg (by omega), equal_self (by omega) (by omega), Option.bind_some]
    exact h
  cases hE with
  | @leaf _ x h1 h2 =>
    have hx : l[i]? = some x := by rw [hq]; simp at hi; simp [← hi]
    have hr := rd36 hx
    refine go 0 (by rw [hr]; exact h1) ?_
    rw [tailwaterlaw04_NodesSizes.j1, if_neg (by simp), if_neg (by simp)]
    exact last k hk 0 (by rw [hr]; exact h1) 1 (by simp) (by omega)
  | @un _ L1 d1 x h1 h2 h3 =>
    have hlen : (L1 ++ [x]).length = L1.length + 1 := by simp
    have hx : l[i]? = some x := by rw [hq, show i = Q.length + L1.length by omega]; simp
    have hr := rd36 hx
    refine go 1 (by rw [hr]; exact h2) ?_
    have b1 := h1.bounds
    have hs := all_at hV (Q := Q) (L := L1) (Z := [x] ++ Z) (by rw [hq]; simp) h1
    have hf : x.f2 = ((Q.length + L1.length - 1 : Nat) : Int) := by unfold Good at h3; omega
    rw [tailwaterlaw04_NodesSizes.j1, if_neg (by simp), if_pos (by omega), if_pos (by omega), if_pos (by omega), hr, hf, size_ok hV hl hd (by omega) hs, Option.bind_some]
    simp only
    rw [if_pos trivial]
    exact last k hk 1 (by rw [hr]; exact h2) _ (by rw [w64 (by omega), hlen]; omega) (by omega)
  | @bin _ L1 d1 R1 e1 x h1 h2 h3 h4 =>
    have hlen : (L1 ++ R1 ++ [x]).length = L1.length + R1.length + 1 := by simp; omega
    have hx : l[i]? = some x := by rw [hq, show i = Q.length + (L1.length + R1.length) by omega]; simp
    have hr := rd36 hx
    refine go 2 (by rw [hr]; exact h3) ?_
    have b1 := h1.bounds
    have b2 := h2.bounds
    have hs := all_at hV (Q := Q) (L := L1) (Z := R1 ++ [x] ++ Z) (by rw [hq]; simp) h1
    have hs2 := all_at hV (Q := Q ++ L1) (L := R1) (Z := [x] ++ Z) (by rw [hq]; simp) (by rw [List.length_append, show ((Q.length + L1.length : Nat) : Int) = Q.length + L1.length by omega]; exact h2)
    rw [List.length_append] at hs2
    have hf : x.f2 = ((Q.length + L1.length - 1 : Nat) : Int) := by unfold Good at h4; omega
    have hf3 : x.f3 = ((Q.length + L1.length + R1.length - 1 : Nat) : Int) := by unfold Good at h4; omega
    rw [tailwaterlaw04_NodesSizes.j1, if_neg (by simp), if_pos (by omega), if_pos (by omega), if_pos (by omega), hr, hf, size_ok hV hl hd (by omega) hs, Option.bind_some]
    simp only
    rw [if_pos trivial, tailwaterlaw04_NodesSizes.j2, if_pos (by omega), if_pos (by omega), if_pos (by omega), hr, hf3, size_ok hV hl hd hk hs2, Option.bind_some]
    simp only
    rw [if_pos trivial, part_is hV hl hd hk hq hi hA, Option.bind_some]
    simp only
    rw [depth_ok hB (by simp; omega) (by omega) hk, Option.bind_some, if_pos (by rw [w64 (x := 1 + (L1.length : Int)) (by omega), w64 (by omega), hlen]; omega)]
    simp only [List.length_map]
    rw [if_pos trivial, if_pos trivial, if_pos trivial, if_pos (by omega), alive_is (by omega), Option.bind_some]

/-- The law. -/
theorem NodesSizes (l : List S36) (a : Int) (_ : ∀ x ∈ l, OpensN.W36 x) (_ : (Lit.int .i64 a).wf = true) : ∃ k, tailwaterlaw04_NodesSizes.f k l a = some true := ⟨403, NodesSizes_ok (Nat.le_refl _) l a⟩

end Go.Proofs.Ytpkamfjkmbakhaa.N.Pure
