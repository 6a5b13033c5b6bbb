/- Moved nodes; the part of a node. Nothing is assumed. -/
import Derived.Test.YtpkamfjkmbakhaaMPure4
import Derived.Test.YtpkamfjkmbakhaaM9
import Derived.Test.YtpkamfjkmbakhaaM2
namespace Go.Proofs.Ytpkamfjkmbakhaa.M.Pure
open Go.RowKit Go.Proofs.Ytpkamfjkmbakhaa.M Go.Proofs.YtpkamfjkmbakhaaW.PrintWords Go.Proofs.YtpkamfjkmbakhaaW.PrintLast Go.Proofs.YtpkamfjkmbakhaaW.PrintMore

/-- A node whose parts have other indices. -/
def shift (b : Int) (x : S36) : S36 := match cnt x.f0 with
  | some 1 => ⟨x.f0, x.f1, wrap64 (x.f2 + b), x.f3, x.f4⟩
  | some 2 => ⟨x.f0, x.f1, wrap64 (x.f2 + b), wrap64 (x.f3 + b), x.f4⟩
  | _ => x

theorem set_mid {D R : List S36} {x y : S36} : (D ++ x :: R).set ((D.length : Int)).toNat y = D ++ y :: R := by
  simp

theorem moved_run {b : Int} {R : List S36} : ∀ {D : List S36} {k : Nat}, D.length + R.length ≤ 70 → R.length + 4 ≤ k → nodes_moved.l0 k b (D ++ R) ((D.length + R.length : Nat) : Int) (D.length : Int) = some (D ++ R.map (shift b)) := by
  induction R with
  | nil =>
    intro D k h hk
    obtain ⟨k, rfl⟩ : ∃ z, k = z + 1 := ⟨k - 1, by omega⟩
    rw [nodes_moved.l0, if_neg (by simp)]
    simp
  | cons x R ih =>
    intro D k h hk
    obtain ⟨k, rfl⟩ : ∃ z, k = z + 3 := ⟨k - 3, by omega⟩
    simp only [List.length_cons] at h hk
    have hr : ∀ y : S36, rd_T36 (D ++ y :: R) (D.length : Int) = y := fun y => rd36 (by simp)
    have nx : ∀ y : S36, nodes_moved.l0 (k + 2) b (D ++ y :: R) ((D.length + (x :: R).length : Nat) : Int) (wrap64 ((D.length : Int) + 1)) = some (D ++ y :: R.map (shift b)) := by
      intro y
      have := ih (D := D ++ [y]) (k := k + 2) (by simp; omega) (by omega)
      rw [w64 (by omega)]
      simp only [List.append_assoc, List.cons_append, List.nil_append, List.length_append, List.length_cons, List.length_nil] at this
      rw [show ((D.length : Int) + 1) = ((D.length + (0 + 1) : Nat) : Int) by omega, ← this]
      congr 1
      simp only [List.length_cons]; omega
    rw [nodes_moved.l0, if_pos (by simp only [List.length_cons]; omega), if_pos (by omega), if_pos (by simp; omega), hr, parts_eq, Option.bind_some]
    simp only [List.map_cons]
    rcases cnt_cases x.f0 with hc | hc | hc | hc
    · rw [show shift b x = x by unfold shift; simp only [hc], hc]
      rw [if_neg (by simp), if_neg (by simp)]
      exact nx x
    · rw [show shift b x = x by unfold shift; simp only [hc], hc]
      rw [if_neg (by simp), if_neg (by simp)]
      exact nx x
    · rw [show shift b x = ⟨x.f0, x.f1, wrap64 (x.f2 + b), x.f3, x.f4⟩ by unfold shift; simp only [hc], hc]
      rw [if_pos (by simp), Option.bind_some, if_neg (by simp), set_mid]
      exact nx _
    · rw [show shift b x = ⟨x.f0, x.f1, wrap64 (x.f2 + b), wrap64 (x.f3 + b), x.f4⟩ by unfold shift; simp only [hc], hc]
      rw [if_pos (by simp), Option.bind_some, if_pos (by simp), set_mid, hr, set_mid]
      exact nx _

theorem clone_is {l : List S36} (h : l.length ≤ 70) : api_Node.f l = some l := by
  unfold api_Node.f
  rw [Option.bind_some, if_pos (by simp; omega)]
  simp

theorem moved_is {b : Int} {l : List S36} (h : l.length ≤ 70) {k : Nat} (hk : 100 ≤ k) : nodes_moved.f k l b = some (l.map (shift b)) := by
  unfold nodes_moved.f
  rw [clone_is h, Option.bind_some]
  have := moved_run (b := b) (D := []) (R := l) (k := k) (by simpa using h) (by omega)
  simpa using this

theorem part_is {l A d} (h : V l A d) (hl : l.length ≤ 60) (hd : d ≤ 20) {k : Nat} (hk : 400 ≤ k) {Q L Z : List S36} {e : Int} {i : Nat} (hq : l = Q ++ L ++ Z) (hi : Q.length + L.length = i + 1) (hA : A[i]? = some ⟨i, L.length, e⟩) : nodes_Part.f k l i = some (L.map (shift (-(Q.length : Int))), 0) := by
  have hlen := h.len
  have hin := (List.getElem?_eq_some_iff.1 hA).1
  have hll : l.length = Q.length + L.length + Z.length := by rw [hq]; simp; omega
  unfold nodes_Part.f
  rw [size_ok h hl hd hk hA, Option.bind_some]
  simp only
  have e1 : wrap64 ((i : Int) + 1) = ((i + 1 : Nat) : Int) := by rw [w64 (by omega)]; omega
  have e2 : wrap64 (((i + 1 : Nat) : Int) - (L.length : Int)) = (Q.length : Int) := by rw [w64 (by omega)]; omega
  have e3 : wrap64 (-(Q.length : Int)) = -(Q.length : Int) := w64 (by omega)
  rw [if_pos trivial, e1, e2, if_pos (by omega), if_pos (by omega), if_pos (by omega), e3]
  have e4 : (l.take ((i + 1 : Nat) : Int).toNat).drop ((Q.length : Int)).toNat = L := by
    rw [Int.toNat_natCast, Int.toNat_natCast, ← hi, hq, ← List.length_append, List.take_left, List.drop_left]
  rw [e4, moved_is (by omega) (by omega), Option.bind_some]

theorem part_arg {l A d} (h : V l A d) (hl : l.length ≤ 60) (hd : d ≤ 20) {k : Nat} (hk : 400 ≤ k) {i : Int} (hi : i < 0 ∨ (l.length : Int) ≤ i) : nodes_Part.f k l i = some ([], 2) := by
  unfold nodes_Part.f
  rw [size_arg h hl hd hk hi, Option.bind_some, if_neg (by simp)]

theorem shift_kind (b : Int) (x : S36) : (shift b x).f0 = x.f0 ∧ (shift b x).f1 = x.f1 ∧ (shift b x).f4 = x.f4 := by
  unfold shift; split <;> exact ⟨rfl, rfl, rfl⟩

/-- An expression that is moved. -/
theorem Ex.shift {o : Int} {L : List S36} {d : Int} (h : Ex o L d) {b : Int} (hb : -1000 ≤ b ∧ b ≤ 1000) : 0 ≤ o → o + L.length ≤ 1000 → Ex (o + b) (L.map (shift b)) d := by
  induction h with
  | @leaf o x h1 h2 =>
    intro _ _
    have e : Pure.shift b x = x := by unfold Pure.shift; simp only [h1]
    simp only [List.map_cons, List.map_nil, e]
    exact .leaf h1 h2
  | @un o L d x h1 h2 h3 ih =>
    intro h0 hl
    simp only [List.length_append, List.length_cons, List.length_nil] at hl
    have e : Pure.shift b x = ⟨x.f0, x.f1, wrap64 (x.f2 + b), x.f3, x.f4⟩ := by unfold Pure.shift; simp only [h2]
    have g := ih h0 (by omega)
    simp only [List.map_append, List.map_cons, List.map_nil, e]
    refine .un g h2 ?_
    unfold Good at h3 ⊢
    simp only [List.length_map]
    rw [w64 (by omega)]
    refine ⟨h3.1, h3.2.1, h3.2.2.1, h3.2.2.2.1, by omega, h3.2.2.2.2.2⟩
  | @bin o L d R e x h1 h2 h3 h4 ih1 ih2 =>
    intro h0 hl
    simp only [List.length_append, List.length_cons, List.length_nil] at hl
    have ee : Pure.shift b x = ⟨x.f0, x.f1, wrap64 (x.f2 + b), wrap64 (x.f3 + b), x.f4⟩ := by unfold Pure.shift; simp only [h3]
    have g1 := ih1 h0 (by omega)
    have g2 := ih2 (by omega) (by omega)
    simp only [List.map_append, List.map_cons, List.map_nil, ee]
    refine .bin g1 (by rw [List.length_map, show o + b + (L.length : Int) = o + L.length + b by omega]; exact g2) h3 ?_
    unfold Good at h4 ⊢
    simp only [List.length_map]
    rw [w64 (x := x.f2 + b) (by omega), w64 (x := x.f3 + b) (by omega)]
    refine ⟨h4.1, h4.2.1, h4.2.2.1, h4.2.2.2.1, by omega, by omega⟩

/-- Indices of an expression's nodes are small. -/
theorem Ex.small {o : Int} {L : List S36} {d : Int} (h : Ex o L d) : 0 ≤ o → ∀ x ∈ L, 0 ≤ x.f2 ∧ x.f2 ≤ o + L.length ∧ 0 ≤ x.f3 ∧ x.f3 ≤ o + L.length ∧ 0 ≤ x.f4 ∧ x.f4 ≤ 400 := by
  induction h with
  | @leaf o x h1 h2 =>
    intro h0 y hy
    rw [List.mem_singleton.1 hy]
    unfold Good at h2
    simp; omega
  | @un o L d x h1 h2 h3 ih =>
    intro h0 y hy
    have hb := h1.bounds
    simp only [List.length_append, List.length_cons, List.length_nil]
    rcases List.mem_append.1 hy with hy | hy
    · have := ih h0 y hy; omega
    · rw [List.mem_singleton.1 hy]; unfold Good at h3; omega
  | @bin o L d R e x h1 h2 h3 h4 ih1 ih2 =>
    intro h0 y hy
    have hb := h1.bounds
    have hb2 := h2.bounds
    simp only [List.length_append, List.length_cons, List.length_nil]
    rcases List.mem_append.1 hy with hy | hy
    · rcases List.mem_append.1 hy with hy | hy
      · have := ih1 h0 y hy; omega
      · have := ih2 (by omega) y hy; omega
    · rw [List.mem_singleton.1 hy]; unfold Good at h4; omega

theorem shift_shift {x : S36} {a b : Int} (h2 : -100000 ≤ x.f2 ∧ x.f2 ≤ 100000) (h3 : -100000 ≤ x.f3 ∧ x.f3 ≤ 100000) (_ha : -1000 ≤ a ∧ a ≤ 1000) (hb : -1000 ≤ b ∧ b ≤ 1000) : shift a (shift b x) = shift (b + a) x := by
  unfold shift
  rcases cnt_cases x.f0 with h | h | h | h <;> simp only [h]
  · rw [w64 (x := x.f2 + b) (by omega), show x.f2 + b + a = x.f2 + (b + a) by omega]
  · rw [w64 (x := x.f2 + b) (by omega), w64 (x := x.f3 + b) (by omega), show x.f2 + b + a = x.f2 + (b + a) by omega, show x.f3 + b + a = x.f3 + (b + a) by omega]
theorem shift_zero {x : S36} (h2 : -100000 ≤ x.f2 ∧ x.f2 ≤ 100000) (h3 : -100000 ≤ x.f3 ∧ x.f3 ≤ 100000) : shift 0 x = x := by
  unfold shift
  rcases cnt_cases x.f0 with h | h | h | h <;> simp only [h, Int.add_zero]
  · rw [w64 (by omega)]
  · rw [w64 (x := x.f2) (by omega), w64 (x := x.f3) (by omega)]

theorem Ex.shift0 {o : Int} {L : List S36} {d : Int} (h : Ex o L d) (h0 : 0 ≤ o) (hl : o + L.length ≤ 1000) : L.map (Pure.shift 0) = L := by
  have hs := h.small h0
  conv => rhs; rw [← List.map_id L]
  refine List.map_congr_left fun x hx => ?_
  have := hs x hx
  exact shift_zero (by omega) (by omega)
theorem Ex.shift2 {o : Int} {L : List S36} {d : Int} (h : Ex o L d) (h0 : 0 ≤ o) (hl : o + L.length ≤ 1000) {a b : Int} (ha : -1000 ≤ a ∧ a ≤ 1000) (hb : -1000 ≤ b ∧ b ≤ 1000) : (L.map (Pure.shift b)).map (Pure.shift a) = L.map (Pure.shift (b + a)) := by
  have hs := h.small h0
  rw [List.map_map]
  refine List.map_congr_left fun x hx => ?_
  have := hs x hx
  exact shift_shift (by omega) (by omega) ha hb

theorem great_is (l : List S36) : tailwaterref04_Great.f l = some (decide (l.length > 70)) := by
  unfold tailwaterref04_Great.f
  congr 1
  rw [decide_eq_decide]; omega

theorem S36.ext_ {x y : S36} (h0 : x.f0 = y.f0) (h1 : x.f1 = y.f1) (h2 : x.f2 = y.f2) (h3 : x.f3 = y.f3) (h4 : x.f4 = y.f4) : x = y := by
  cases x; cases y; simp only at h0 h1 h2 h3 h4; subst h0 h1 h2 h3 h4; rfl

theorem equal_run {R : List S36} : ∀ {D E S : List S36} {k : Nat}, D.length = E.length → R.length = S.length → D.length + R.length ≤ 100 → R.length < k →
    ∃ r, tailwaterref04_Equal.l0 k (D ++ R) (E ++ S) (D.length : Int) = some r ∧ (r = true ↔ R = S) := by
  induction R with
  | nil =>
    intro D E S k hD hR hl hk
    obtain ⟨k, rfl⟩ : ∃ z, k = z + 1 := ⟨k - 1, by omega⟩
    rw [tailwaterref04_Equal.l0, if_neg (by simp)]
    obtain rfl : S = [] := List.eq_nil_of_length_eq_zero (by simpa using hR.symm)
    exact ⟨true, rfl, by simp⟩
  | cons x R ih =>
    intro D E S k hD hR hl hk
    obtain ⟨k, rfl⟩ : ∃ z, k = z + 1 := ⟨k - 1, by omega⟩
    match S, hR with
    | y :: S, hR =>
      simp only [List.length_cons] at hR hl hk
      have hx : rd_T36 (D ++ x :: R) (D.length : Int) = x := rd36 (by simp)
      have hy : rd_T36 (E ++ y :: S) (D.length : Int) = y := by rw [hD]; exact rd36 (by simp)
      rw [tailwaterref04_Equal.l0, if_pos (by simp; omega), if_pos (by omega), if_pos (by simp; omega), hx, hy]
      by_cases h : x = y
      · subst h
        rw [if_neg (by simp), w64 (by omega)]
        obtain ⟨r, e, hr⟩ := ih (D := D ++ [x]) (E := E ++ [x]) (S := S) (k := k) (by simp [hD]) (by omega) (by simp; omega) (by omega)
        simp only [List.append_assoc, List.cons_append, List.nil_append, List.length_append, List.length_cons, List.length_nil] at e
        rw [show ((D.length : Int) + 1) = ((D.length + (0 + 1) : Nat) : Int) by omega, e]
        exact ⟨r, rfl, by rw [hr]; simp⟩
      · rw [if_pos ?_]
        · exact ⟨false, rfl, by simp [h]⟩
        · have hne : ¬ (x.f0 = y.f0 ∧ x.f1 = y.f1 ∧ x.f2 = y.f2 ∧ x.f3 = y.f3 ∧ x.f4 = y.f4) := fun g => h (S36.ext_ g.1 g.2.1 g.2.2.1 g.2.2.2.1 g.2.2.2.2)
          simp only [Bool.or_eq_true, Bool.not_eq_true', beq_eq_false_iff_ne, ne_eq]
          omega

theorem equal_is {a b : List S36} (h : a.length ≤ 100) {k : Nat} (hk : a.length < k) : ∃ r, tailwaterref04_Equal.f k a b = some r ∧ (r = true ↔ a = b) := by
  unfold tailwaterref04_Equal.f
  by_cases hl : a.length = b.length
  · rw [if_pos (by omega)]
    exact equal_run (D := []) (E := []) rfl hl (by simpa using h) hk
  · rw [if_neg (by omega)]
    exact ⟨false, rfl, by simp; intro e; exact hl (by rw [e])⟩
theorem equal_self {a : List S36} (h : a.length ≤ 100) {k : Nat} (hk : a.length < k) : tailwaterref04_Equal.f k a a = some true := by
  obtain ⟨r, e, hr⟩ := equal_is (b := a) h hk
  rw [e, hr.2 rfl]

end Go.Proofs.Ytpkamfjkmbakhaa.M.Pure
