/- Which sources are valid: the program's answer and the reference's, in plain words. Nothing is assumed. -/
import Derived.Test.YtpkamfjkmbakhaaGPure4
import Derived.Test.YtpkamfjkmbakhaaG10
import Derived.Test.YtpkamfjkmbakhaaG8
import Derived.Test.YtpkamfjkmbakhaaG12
import Derived.Test.YtpkamfjkmbakhaaG4
namespace Go.Proofs.Ytpkamfjkmbakhaa.G.Pure
open Go.RowKit Go.Proofs.Ytpkamfjkmbakhaa.G Go.Proofs.YtpkamfjkmbakhaaW.PrintWords Go.Proofs.YtpkamfjkmbakhaaW.PrintLast Go.Proofs.YtpkamfjkmbakhaaW.PrintMore

theorem any_same (M : List Int) (x : Int) : (M.map (Lit.int .i64)).any (fun y => y.sameKey (Lit.int .i64 x)) = decide (x ∈ M) := by
  induction M with
  | nil => rfl
  | cons y M ih =>
    rw [List.map_cons, List.any_cons, ih]
    have : Lit.sameKey (Lit.int .i64 y) (Lit.int .i64 x) = decide (y = x) := by simp [Lit.sameKey]
    rw [this, Bool.eq_iff_iff]
    simp only [Bool.or_eq_true, decide_eq_true_eq, List.mem_cons]
    exact ⟨fun h => h.imp Eq.symm id, fun h => h.imp Eq.symm id⟩

theorem keys_len (xs : List Int) : ∀ (M : List Int), M.Nodup → ((xs.map (Lit.int .i64)).foldl Maps.addKey (M.map (Lit.int .i64))).length ≤ M.length + xs.length ∧ (((xs.map (Lit.int .i64)).foldl Maps.addKey (M.map (Lit.int .i64))).length = M.length + xs.length ↔ (M ++ xs).Nodup) := by
  induction xs with
  | nil => intro M h; simpa using h
  | cons x xs ih =>
    intro M h
    simp only [List.map_cons, List.foldl_cons]
    unfold Maps.addKey
    rw [any_same]
    by_cases hx : x ∈ M
    · rw [decide_eq_true hx, if_pos rfl]
      have := ih M h
      unfold Maps.addKey at this
      simp only [List.length_cons]
      refine ⟨by omega, ⟨fun g => by omega, fun g => ?_⟩⟩
      rw [List.nodup_append] at g
      exact absurd rfl (g.2.2 x hx x (by simp))
    · rw [decide_eq_false hx, if_neg (by simp)]
      have hn : (M ++ [x]).Nodup := by
        rw [List.nodup_append]
        exact ⟨h, by simp, fun a ha b hb => by rw [List.mem_singleton.1 hb]; intro e; exact hx (e ▸ ha)⟩
      have := ih (M ++ [x]) hn
      unfold Maps.addKey at this
      simp only [List.map_append, List.map_cons, List.map_nil, List.length_append, List.length_cons, List.length_nil, List.append_assoc, List.cons_append, List.nil_append] at this ⊢
      refine ⟨by omega, ?_⟩
      rw [← this.2]
      omega

theorem distinct_lt (l : List Int) : distinctN l < l.length ↔ ¬ l.Nodup := by
  have := keys_len l [] (by simp)
  unfold distinctN
  simp only [List.map_nil, List.length_nil, Nat.zero_add, List.nil_append] at this
  rw [← this.2]; omega

/-- Which sources are valid. -/
def src (l : List Int) (j : Bool) : Int := if l.length > 4 then 4 else if l.length = 0 ∨ (j = true ∧ ¬ l.length = 2) ∨ l.any outB = true then 8 else if l.Nodup then 0 else 43

theorem prog_sources (l : List Int) (j : Bool) : clauses_Sources.f l j = some (src l j) := by
  unfold clauses_Sources.f src
  by_cases h1 : l.length > 4
  · rw [if_pos h1, if_pos h1]
  rw [if_neg h1, if_neg h1]
  by_cases h2 : l.length = 0
  · rw [if_pos h2, if_pos (Or.inl h2)]
  rw [if_neg h2]
  by_cases h3 : j = true ∧ ¬ l.length = 2
  · rw [if_pos h3, if_pos (Or.inr (Or.inl h3))]
  rw [if_neg h3]
  by_cases h4 : l.any outB = true
  · rw [if_pos h4, if_pos (Or.inr (Or.inr h4))]
  have hno : ¬ (l.length = 0 ∨ (j = true ∧ ¬ l.length = 2) ∨ l.any outB = true) := fun g => g.elim h2 (fun g => g.elim h3 h4)
  rw [if_neg h4, if_neg hno]
  by_cases h5 : l.Nodup
  · rw [if_neg (fun g => (distinct_lt l).1 g h5), if_pos h5]
  · rw [if_pos ((distinct_lt l).2 h5), if_neg h5]

theorem rdI {l : List Int} {i : Nat} {x : Int} (h : l[i]? = some x) : rd l (i : Int) = x := by
  simp [rd, List.getD, h]

theorem l0_run {k : Nat} {R : List Int} : ∀ {D l : List Int}, l = D ++ R → l.length ≤ 4 → tailwaterref08_Sources.l0 (k + R.length + 1) l (D.length : Int) = if R.any outB = true then some 8 else tailwaterref08_Sources.l1 k l 0 := by
  induction R with
  | nil =>
    intro D l e hl
    rw [tailwaterref08_Sources.l0, if_neg (by rw [e]; simp)]
    simp
  | cons x R ih =>
    intro D l e hl
    have hx : rd l (D.length : Int) = x := rdI (by rw [e]; simp)
    have hlen : l.length = D.length + R.length + 1 := by rw [e]; simp; omega
    rw [tailwaterref08_Sources.l0, if_pos (by omega), if_pos (by omega), hx]
    have ho : outB x = true ↔ x < 0 ∨ x ≥ 4 := by unfold outB; simp
    by_cases h1 : x < 0
    · rw [if_pos h1, if_pos (by rw [List.any_cons, ho.2 (Or.inl h1)]; rfl)]
    rw [if_neg h1]
    by_cases h2 : x > 3
    · rw [if_pos h2, if_pos (by rw [List.any_cons, ho.2 (Or.inr (by omega))]; rfl)]
    rw [if_neg h2, w64 (by omega)]
    have hf : outB x = false := by rw [Bool.eq_false_iff, ne_eq, ho]; omega
    rw [List.any_cons, hf, Bool.false_or]
    have := ih (D := D ++ [x]) (l := l) (by rw [e]; simp) hl
    rw [← this]
    simp only [List.length_append, List.length_cons, List.length_nil]
    rw [show k + (R.length + 1) = k + R.length + 1 by omega, show ((D.length : Int) + 1) = ((D.length + (0 + 1) : Nat) : Int) by omega]

theorem l2_run {k : Nat} {x : Int} {F : List Int} : ∀ {D E R l : List Int}, l = D ++ x :: R → D = E ++ F → l.length ≤ 4 → tailwaterref08_Sources.l2 (k + F.length + 1) l (D.length : Int) (E.length : Int) = if x ∈ F then some 43 else tailwaterref08_Sources.l1 k l ((D.length + 1 : Nat) : Int) := by
  induction F with
  | nil =>
    intro D E R l e e2 hl
    have hlen : l.length = D.length + R.length + 1 := by rw [e]; simp; omega
    rw [tailwaterref08_Sources.l2, if_neg (by rw [e2]; simp), w64 (by omega)]
    simp only [List.length_nil, Nat.add_zero, List.not_mem_nil, if_false]
    rw [show ((D.length : Int) + 1) = ((D.length + 1 : Nat) : Int) by omega]
  | cons y F ih =>
    intro D E R l e e2 hl
    have hlen : l.length = D.length + R.length + 1 := by rw [e]; simp; omega
    have hd : D.length = E.length + F.length + 1 := by rw [e2]; simp; omega
    have hx : rd l (D.length : Int) = x := rdI (by rw [e]; simp)
    have hy : rd l (E.length : Int) = y := rdI (by rw [e, e2]; simp)
    rw [tailwaterref08_Sources.l2, if_pos (by omega), if_pos (by omega), if_pos (by omega), if_pos (by omega), if_pos (by omega), hx, hy]
    by_cases h : y = x
    · rw [if_pos h, if_pos (by simp [h])]
    · rw [if_neg h, w64 (by omega)]
      have := ih (D := D) (E := E ++ [y]) (R := R) (l := l) e (by rw [e2]; simp) hl
      simp only [List.length_append, List.length_cons, List.length_nil] at this ⊢
      rw [show k + (F.length + 1) = k + F.length + 1 by omega, show ((E.length : Int) + 1) = ((E.length + (0 + 1) : Nat) : Int) by omega, this]
      have : x ∈ y :: F ↔ x ∈ F := by simp only [List.mem_cons]; exact ⟨fun g => g.resolve_left (fun e => h e.symm), Or.inr⟩
      simp only [this]

theorem l1_run {R : List Int} : ∀ {D l : List Int} {k : Nat}, l = D ++ R → l.length ≤ 4 → D.Nodup → R.length * 8 + 1 ≤ k → tailwaterref08_Sources.l1 k l (D.length : Int) = some (if l.Nodup then 0 else 43) := by
  induction R with
  | nil =>
    intro D l k e hl hD hk
    obtain ⟨k, rfl⟩ : ∃ z, k = z + 1 := ⟨k - 1, by omega⟩
    rw [tailwaterref08_Sources.l1, if_neg (by rw [e]; simp), if_pos (by rw [e]; simpa using hD)]
  | cons x R ih =>
    intro D l k e hl hD hk
    have hlen : l.length = D.length + R.length + 1 := by rw [e]; simp; omega
    simp only [List.length_cons] at hk
    obtain ⟨k, rfl⟩ : ∃ z, k = z + D.length + 1 + 1 := ⟨k - D.length - 2, by omega⟩
    rw [tailwaterref08_Sources.l1, if_pos (by omega)]
    have := l2_run (k := k) (x := x) (F := D) (D := D) (E := []) (R := R) (l := l) e rfl hl
    simp only [List.length_nil] at this
    rw [show ((0 : Nat) : Int) = 0 from rfl] at this
    rw [this]
    by_cases h : x ∈ D
    · rw [if_pos h, if_neg ?_]
      rw [e, List.nodup_append]
      exact fun g => absurd rfl (g.2.2 x h x (by simp))
    · rw [if_neg h]
      have := ih (D := D ++ [x]) (l := l) (k := k) (by rw [e]; simp) hl (by
        rw [List.nodup_append]
        exact ⟨hD, by simp, fun a ha b hb => by rw [List.mem_singleton.1 hb]; intro e; exact h (e ▸ ha)⟩) (by omega)
      rw [← this]
      simp

theorem ref_sources (l : List Int) (j : Bool) {k : Nat} (hk : 60 ≤ k) : tailwaterref08_Sources.f k l j = some (src l j) := by
  unfold tailwaterref08_Sources.f src
  by_cases h1 : l.length > 4
  · rw [if_pos (by omega), if_pos h1]
  rw [if_neg (by omega), if_neg h1]
  obtain ⟨k, rfl⟩ : ∃ z, k = z + l.length + 1 + 1 := ⟨k - l.length - 2, by omega⟩
  have hT : tailwaterref08_Sources.j0 (k + l.length + 1 + 1) l true = some 8 := by rw [tailwaterref08_Sources.j0, if_pos rfl]
  have hF : tailwaterref08_Sources.j0 (k + l.length + 1 + 1) l false = some (if l.any outB = true then 8 else if l.Nodup then 0 else 43) := by
    rw [tailwaterref08_Sources.j0, if_neg (by simp)]
    have := l0_run (k := k) (R := l) (D := []) (l := l) rfl (by omega)
    simp only [List.length_nil] at this
    rw [show ((0 : Nat) : Int) = 0 from rfl] at this
    rw [this]
    by_cases h : l.any outB = true
    · rw [if_pos h, if_pos h]
    · rw [if_neg h, if_neg h]
      exact l1_run (R := l) (D := []) (l := l) rfl (by omega) (by simp) (by omega)
  by_cases h2 : l.length = 0
  · rw [if_pos (by omega), hT, if_pos (Or.inl h2)]
  rw [if_neg (by omega)]
  by_cases h3 : j = true
  · rw [if_pos h3]
    by_cases h4 : l.length = 2
    · have e : ((l.length : Int) != 2) = false := by rw [h4]; rfl
      rw [e, hF]
      by_cases h : l.any outB = true
      · rw [if_pos h, if_pos (Or.inr (Or.inr h))]
      · rw [if_neg h, if_neg (show ¬ (l.length = 0 ∨ (j = true ∧ ¬ l.length = 2) ∨ l.any outB = true) from fun g => g.elim h2 (fun g => g.elim (fun g => g.2 h4) h))]
    · have e : ((l.length : Int) != 2) = true := by simp; omega
      rw [e, hT, if_pos (Or.inr (Or.inl ⟨h3, h4⟩))]
  · rw [if_neg h3, hF]
    by_cases h : l.any outB = true
    · rw [if_pos h, if_pos (Or.inr (Or.inr h))]
    · rw [if_neg h, if_neg (show ¬ (l.length = 0 ∨ (j = true ∧ ¬ l.length = 2) ∨ l.any outB = true) from fun g => g.elim h2 (fun g => g.elim (fun g => h3 g.1) h))]

theorem src_perm {l m : List Int} (h : l.Perm m) (j : Bool) : src l j = src m j := by
  unfold src
  have h1 := h.length_eq
  have h2 : l.any outB = m.any outB := by
    rw [Bool.eq_iff_iff, List.any_eq_true, List.any_eq_true]
    exact ⟨fun ⟨x, hx, g⟩ => ⟨x, h.mem_iff.1 hx, g⟩, fun ⟨x, hx, g⟩ => ⟨x, h.mem_iff.2 hx, g⟩⟩
  have h3 := h.nodup_iff
  simp only [h1, h2, h3]

/-- Which windows are valid. -/
def win (a b c : Int) : Int := if b < 1 ∨ b > 1073741824 then 8 else if a = 2 then (if c ≥ 1 ∧ c ≤ b ∧ b ≤ wrap64 (16 * c) then 0 else 8) else if (a = 1 ∨ a = 3) ∧ c = 0 then 0 else 8

theorem prog_window (a b c : Int) {k : Nat} : clauses_Window.f (k + 2) a b c = some (win a b c) := by
  have hT : clauses_Window.j0 (k + 2) true a b c = some 8 := by rw [clauses_Window.j0, if_pos rfl]
  have hj : ∀ x, clauses_Window.j1 (k + 1) x = some (if x = true then 0 else 8) := by
    intro x; rw [clauses_Window.j1]; split <;> rfl
  unfold clauses_Window.f win
  by_cases h1 : b < 1
  · rw [if_pos h1, hT, if_pos (Or.inl h1)]
  rw [if_neg h1]
  by_cases h2 : b > 1073741824
  · rw [decide_eq_true h2, hT, if_pos (Or.inr h2)]
  rw [decide_eq_false h2, if_neg (show ¬ (b < 1 ∨ b > 1073741824) from fun g => g.elim h1 h2), clauses_Window.j0, if_neg (by simp)]
  by_cases h3 : a = 2
  · rw [if_pos h3, if_pos h3]
    by_cases h4 : c ≥ 1
    · rw [if_pos h4]
      by_cases h5 : c ≤ b
      · rw [if_pos h5, hj]
        by_cases h6 : b ≤ wrap64 (16 * c)
        · rw [if_pos (by simpa using h6), if_pos ⟨h4, h5, h6⟩]
        · rw [if_neg (by simpa using h6), if_neg (fun g => h6 g.2.2)]
      · rw [if_neg h5, hj, if_neg (by simp), if_neg (fun g => h5 g.2.1)]
    · rw [if_neg h4, hj, if_neg (by simp), if_neg (fun g => h4 g.1)]
  · rw [if_neg h3, if_neg h3]
    by_cases h4 : a = 1
    · rw [if_pos h4]
      by_cases h5 : c = 0
      · rw [if_pos h5, if_pos ⟨Or.inl h4, h5⟩]
      · rw [if_neg h5, if_neg (fun g => h5 g.2)]
    · rw [if_neg h4]
      by_cases h6 : a = 3
      · rw [if_pos h6]
        by_cases h5 : c = 0
        · rw [if_pos h5, if_pos ⟨Or.inr h6, h5⟩]
        · rw [if_neg h5, if_neg (fun g => h5 g.2)]
      · rw [if_neg h6, if_neg (fun g => g.1.elim h4 h6)]

theorem ref_fits (a b c : Int) {k : Nat} : tailwaterref08_Fits.f (k + 1) a b c = some (decide (win a b c = 0)) := by
  have hT : tailwaterref08_Fits.j0 (k + 1) true a b c = some false := by rw [tailwaterref08_Fits.j0, if_pos rfl]
  unfold tailwaterref08_Fits.f win
  by_cases h1 : b < 1
  · rw [if_pos h1, hT, if_pos (Or.inl h1)]; rfl
  rw [if_neg h1]
  by_cases h2 : b > 1073741824
  · rw [decide_eq_true h2, hT, if_pos (Or.inr h2)]; rfl
  rw [decide_eq_false h2, if_neg (show ¬ (b < 1 ∨ b > 1073741824) from fun g => g.elim h1 h2), tailwaterref08_Fits.j0, if_neg (by simp)]
  by_cases h3 : a = 2
  · rw [if_pos h3, if_pos h3]
    by_cases h4 : c ≥ 1
    · rw [if_pos h4]
      by_cases h5 : c ≤ b
      · rw [if_pos h5]
        by_cases h6 : b ≤ wrap64 (16 * c)
        · rw [decide_eq_true h6, if_pos (⟨h4, h5, h6⟩ : c ≥ 1 ∧ c ≤ b ∧ b ≤ wrap64 (16 * c))]; rfl
        · rw [decide_eq_false h6, if_neg (show ¬ (c ≥ 1 ∧ c ≤ b ∧ b ≤ wrap64 (16 * c)) from fun g => h6 g.2.2)]; rfl
      · rw [if_neg h5, if_neg (show ¬ (c ≥ 1 ∧ c ≤ b ∧ b ≤ wrap64 (16 * c)) from fun g => h5 g.2.1)]; rfl
    · rw [if_neg h4, if_neg (show ¬ (c ≥ 1 ∧ c ≤ b ∧ b ≤ wrap64 (16 * c)) from fun g => h4 g.1)]; rfl
  · rw [if_neg h3, if_neg h3]
    have hd : (c == 0) = decide (c = 0) := by by_cases h : c = 0 <;> simp [h]
    by_cases h4 : a = 1
    · rw [if_pos h4, hd]
      by_cases h5 : c = 0
      · rw [if_pos (⟨Or.inl h4, h5⟩ : (a = 1 ∨ a = 3) ∧ c = 0), decide_eq_true h5]; rfl
      · rw [if_neg (show ¬ ((a = 1 ∨ a = 3) ∧ c = 0) from fun g => h5 g.2), decide_eq_false h5]; rfl
    · rw [if_neg h4]
      by_cases h6 : a = 3
      · rw [if_pos h6, hd]
        by_cases h5 : c = 0
        · rw [if_pos (⟨Or.inr h6, h5⟩ : (a = 1 ∨ a = 3) ∧ c = 0), decide_eq_true h5]; rfl
        · rw [if_neg (show ¬ ((a = 1 ∨ a = 3) ∧ c = 0) from fun g => h5 g.2), decide_eq_false h5]; rfl
      · rw [if_neg h6, if_neg (show ¬ ((a = 1 ∨ a = 3) ∧ c = 0) from fun g => g.1.elim h4 h6)]; rfl

theorem win_cases (a b c : Int) : win a b c = 0 ∨ win a b c = 8 := by
  unfold win
  split
  · exact Or.inr rfl
  · split
    · split
      · exact Or.inl rfl
      · exact Or.inr rfl
    · split
      · exact Or.inl rfl
      · exact Or.inr rfl

end Go.Proofs.Ytpkamfjkmbakhaa.G.Pure
