/- Which queries are the same: the program's answer, in plain words. Nothing is assumed. -/
import Derived.Test.YtpkamfjkmbakhaaGPure6
import Derived.Test.YtpkamfjkmbakhaaG20
namespace Go.Proofs.Ytpkamfjkmbakhaa.G.Pure
open Go.RowKit Go.Proofs.Ytpkamfjkmbakhaa.G Go.Proofs.YtpkamfjkmbakhaaW.PrintWords Go.Proofs.YtpkamfjkmbakhaaW.PrintLast Go.Proofs.YtpkamfjkmbakhaaW.PrintMore

instance : DecidableEq S36 := fun x y => decidable_of_iff (x.f0 = y.f0 ∧ x.f1 = y.f1 ∧ x.f2 = y.f2 ∧ x.f3 = y.f3 ∧ x.f4 = y.f4) (by cases x; cases y; simp)
/-- A node, but for where it stands. -/
def strip (x : S36) : S36 := ⟨x.f0, x.f1, x.f2, x.f3, 0⟩

theorem strip_iff {x y : S36} : strip x = strip y ↔ x.f0 = y.f0 ∧ x.f1 = y.f1 ∧ x.f2 = y.f2 ∧ x.f3 = y.f3 := by
  unfold strip; rw [S36.mk.injEq]; simp

theorem eqfB_run {R : List S36} : ∀ {D E S : List S36} {k : Nat}, D.length = E.length → R.length = S.length → D.length + R.length ≤ 100 → R.length < k →
    ∃ r, eqfB.l0 k (E ++ S) (D ++ R) ((D.length + R.length : Nat) : Int) (D.length : Int) = some r ∧ (r = true ↔ R.map strip = S.map strip) := by
  induction R with
  | nil =>
    intro D E S k hD hR hl hk
    obtain ⟨k, rfl⟩ : ∃ z, k = z + 1 := ⟨k - 1, by omega⟩
    rw [eqfB.l0, if_neg (by simp)]
    obtain rfl : S = [] := List.eq_nil_of_length_eq_zero (by simpa using hR.symm)
    exact ⟨true, rfl, by simp⟩
  | cons x R ih =>
    intro D E S k hD hR hl hk
    obtain ⟨k, rfl⟩ : ∃ z, k = z + 1 := ⟨k - 1, by omega⟩
    match S, hR with
    | y :: S, hR =>
      simp only [List.length_cons] at hR hl hk
      have hx : rd_T36 (D ++ x :: R) (D.length : Int) = x := rd36 (by simp)
      have hy : rd_T36 (E ++ y :: S) (D.length : Int) = y := by rw [hD]; exact rd36 (by simp)
      rw [eqfB.l0, if_pos (by simp only [List.length_cons]; omega), if_pos (by omega), if_pos (by simp; omega), if_pos (by simp; omega), hx, hy]
      unfold clauses_Same_1_1.f
      rw [Option.bind_some]
      by_cases h : strip x = strip y
      · have h' := strip_iff.1 h
        rw [if_pos (by simp [h'])]
        rw [w64 (by omega)]
        obtain ⟨r, e, hr⟩ := ih (D := D ++ [x]) (E := E ++ [y]) (S := S) (k := k) (by simp [hD]) (by omega) (by simp; omega) (by omega)
        simp only [List.append_assoc, List.cons_append, List.nil_append, List.length_append, List.length_cons, List.length_nil] at e
        simp only [List.length_cons]
        rw [show ((D.length : Int) + 1) = ((D.length + (0 + 1) : Nat) : Int) by omega, show D.length + (R.length + 1) = D.length + (0 + 1) + R.length by omega, e]
        exact ⟨r, rfl, by rw [hr]; simp [h]⟩
      · have h' : ¬ (x.f0 = y.f0 ∧ x.f1 = y.f1 ∧ x.f2 = y.f2 ∧ x.f3 = y.f3) := fun g => h (strip_iff.2 g)
        rw [if_neg ?_]
        · exact ⟨false, rfl, by simp [h]⟩
        · simp only [Bool.and_eq_true, beq_iff_eq]; exact h'

theorem same1_is {a b : List S36} (h : a.length ≤ 100) {k : Nat} (hk : a.length < k) : clauses_Same_1.f k a b = some (decide (a.map strip = b.map strip)) := by
  have : ∃ r, eqfB.f k a b 0 = some r ∧ (r = true ↔ a.map strip = b.map strip) := by
    unfold eqfB.f
    by_cases hl : a.length = b.length
    · rw [if_pos (by omega)]
      have := eqfB_run (D := []) (E := []) (R := a) (S := b) (k := k) rfl hl (by simpa using h) hk
      simpa using this
    · rw [if_neg (by omega)]
      exact ⟨false, rfl, by simp; intro e; have := congrArg List.length e; simp at this; exact hl this⟩
  obtain ⟨r, e, hr⟩ := this
  unfold clauses_Same_1.f
  rw [e, Option.bind_some]
  congr 1
  rw [← decide_eq_true_eq (p := a.map strip = b.map strip)] at hr
  cases r <;> cases hd : decide (a.map strip = b.map strip) <;> simp_all

theorem of_iff {o : Option Bool} {p : Prop} [Decidable p] (h : ∃ r, o = some r ∧ (r = true ↔ p)) : o = some (decide p) := by
  obtain ⟨r, e, hr⟩ := h
  rw [e]; congr 1
  rw [← decide_eq_true_eq (p := p)] at hr
  cases r <;> cases hd : decide p <;> simp_all

theorem rd_mid {D R : List Int} {x : Int} : rd (D ++ x :: R) (D.length : Int) = x := by
  unfold rd; simp

theorem ints_run {R : List Int} : ∀ {D E S : List Int} {k : Nat}, D.length = E.length → R.length = S.length → D.length + R.length ≤ 100 → R.length < k →
    ∃ r, slices_Equal_int_int.l0 k (D ++ R) (E ++ S) ((D.length + R.length : Nat) : Int) (D.length : Int) = some r ∧ (r = true ↔ R = S) := by
  induction R with
  | nil =>
    intro D E S k hD hR hl hk
    obtain ⟨k, rfl⟩ : ∃ z, k = z + 1 := ⟨k - 1, by omega⟩
    rw [slices_Equal_int_int.l0, if_neg (by simp)]
    obtain rfl : S = [] := List.eq_nil_of_length_eq_zero (by simpa using hR.symm)
    exact ⟨true, rfl, by simp⟩
  | cons x R ih =>
    intro D E S k hD hR hl hk
    obtain ⟨k, rfl⟩ : ∃ z, k = z + 1 := ⟨k - 1, by omega⟩
    match S, hR with
    | y :: S, hR =>
      simp only [List.length_cons] at hR hl hk
      have hy : rd (E ++ y :: S) (D.length : Int) = y := by rw [hD]; exact rd_mid
      rw [slices_Equal_int_int.l0, if_pos (by simp only [List.length_cons]; omega), if_pos (by omega), if_pos (by simp; omega), if_pos (by simp; omega), rd_mid, hy]
      by_cases h : x = y
      · rw [if_pos h, w64 (by omega)]
        obtain ⟨r, e, hr⟩ := ih (D := D ++ [x]) (E := E ++ [y]) (S := S) (k := k) (by simp [hD]) (by omega) (by simp; omega) (by omega)
        simp only [List.append_assoc, List.cons_append, List.nil_append, List.length_append, List.length_cons, List.length_nil] at e
        simp only [List.length_cons]
        rw [show ((D.length : Int) + 1) = ((D.length + (0 + 1) : Nat) : Int) by omega, show D.length + (R.length + 1) = D.length + (0 + 1) + R.length by omega, e]
        exact ⟨r, rfl, by rw [hr]; simp [h]⟩
      · rw [if_neg h]
        exact ⟨false, rfl, by simp [h]⟩

theorem ints_is {a b : List Int} (h : a.length ≤ 100) {k : Nat} (hk : a.length < k) : slices_Equal_int_int.f k a b = some (decide (a = b)) := by
  refine of_iff ?_
  unfold slices_Equal_int_int.f
  by_cases hl : a.length = b.length
  · rw [if_pos (by omega)]
    have := ints_run (D := []) (E := []) (R := a) (S := b) (k := k) rfl hl (by simpa using h) hk
    simpa using this
  · rw [if_neg (by omega)]
    exact ⟨false, rfl, by simp; intro e; exact hl (congrArg List.length e)⟩

/-- A query, its parts in order. -/
structure Qu where
  a : Int
  A : List S36
  S : List Int
  j : Bool
  B : List S36
  w0 : Int
  w1 : Int
  w2 : Int
  y : Bool
  t : Int
instance : DecidableEq Qu := fun p q => decidable_of_iff (p.a = q.a ∧ p.A = q.A ∧ p.S = q.S ∧ p.j = q.j ∧ p.B = q.B ∧ p.w0 = q.w0 ∧ p.w1 = q.w1 ∧ p.w2 = q.w2 ∧ p.y = q.y ∧ p.t = q.t) (by cases p; cases q; simp)
/-- A query, but for where its nodes stand. -/
def Qu.bare (p : Qu) : Qu := { p with A := p.A.map strip, B := p.B.map strip }
def Qu.chk (p : Qu) : Int := qchk p.a p.A p.S p.j p.B p.w0 p.w1 p.w2 p.t
def Qu.small (p : Qu) : Prop := p.A.length ≤ 70 ∧ p.B.length ≤ 70 ∧ p.S.length ≤ 10
def Qu.check (k : Nat) (p : Qu) : Option Int := clauses_Check.f k p.a p.A p.S p.j p.B p.w0 p.w1 p.w2 p.y p.t
def Qu.same (k : Nat) (p q : Qu) : Option (Bool × Int) := clauses_Same.f k p.a p.A p.S p.j p.B p.w0 p.w1 p.w2 p.y p.t q.a q.A q.S q.j q.B q.w0 q.w1 q.w2 q.y q.t
theorem check_is {p : Qu} (hp : p.small) {k : Nat} (hk : 410 ≤ k) : p.check k = some p.chk := by
  unfold Qu.check Qu.chk
  obtain ⟨k, rfl⟩ : ∃ z, k = z + 3 := ⟨k - 3, by omega⟩
  exact prog_query (by omega) _ _ _ _ _ _ _ _ _ _ hp.1 hp.2.1
theorem bare_iff (p q : Qu) : p.bare = q.bare ↔ p.a = q.a ∧ p.A.map strip = q.A.map strip ∧ p.S = q.S ∧ p.j = q.j ∧ p.B.map strip = q.B.map strip ∧ p.w0 = q.w0 ∧ p.w1 = q.w1 ∧ p.w2 = q.w2 ∧ p.y = q.y ∧ p.t = q.t := by
  unfold Qu.bare; rw [Qu.mk.injEq]

theorem same_is {p q : Qu} (hp : p.small) (hq : q.small) {k : Nat} (hk : 410 ≤ k) : p.same k q = some (if p.chk = 0 then (if q.chk = 0 then (decide (p.bare = q.bare), 0) else (false, q.chk)) else (false, p.chk)) := by
  have e1 := check_is hp hk
  have e2 := check_is hq hk
  unfold Qu.check at e1 e2
  unfold Qu.same clauses_Same.f
  rw [e1, Option.bind_some]
  by_cases h : p.chk = 0
  rotate_left
  · rw [if_neg h, if_neg h]
  rw [if_pos h, if_pos h, e2, Option.bind_some]
  by_cases h' : q.chk = 0
  rotate_left
  · rw [if_neg h', if_neg h']
  rw [if_pos h', if_pos h']
  rw [same1_is (by have := hp.1; omega) (by have := hp.1; omega), same1_is (by have := hp.2.1; omega) (by have := hp.2.1; omega), ints_is (by have := hp.2.2; omega) (by have := hp.2.2; omega)]
  simp only [Option.bind_some, decide_eq_true_eq, beq_iff_eq, Bool.and_eq_true]
  have no : ∀ c : Prop, ¬ c → (p.bare = q.bare → c) → (some (false, (0 : Int)) : Option (Bool × Int)) = some (decide (p.bare = q.bare), 0) := fun c hc hi => by
    rw [decide_eq_false (fun e => hc (hi e))]
  have hb := bare_iff p q
  by_cases h0 : p.a = q.a
  · rw [if_pos h0]
    by_cases h3 : p.j = q.j
    · rw [if_pos h3]
      by_cases h5 : p.w0 = q.w0 ∧ p.w1 = q.w1 ∧ p.w2 = q.w2
      · rw [if_pos h5]
        by_cases h6 : p.y = q.y
        · rw [if_pos h6]
          by_cases h7 : p.t = q.t
          · rw [if_pos h7]
            by_cases h2 : p.S = q.S
            · rw [if_pos h2]
              by_cases h1 : p.A.map strip = q.A.map strip
              · rw [if_pos h1]
                congr 2
                rw [decide_eq_decide, hb]
                exact ⟨fun g => ⟨h0, h1, h2, h3, g, h5.1, h5.2.1, h5.2.2, h6, h7⟩, fun g => g.2.2.2.2.1⟩
              · rw [if_neg h1]; exact no _ h1 (fun e => (hb.1 e).2.1)
            · rw [if_neg h2]; exact no _ h2 (fun e => (hb.1 e).2.2.1)
          · rw [if_neg h7]; exact no _ h7 (fun e => (hb.1 e).2.2.2.2.2.2.2.2.2)
        · rw [if_neg h6]; exact no _ h6 (fun e => (hb.1 e).2.2.2.2.2.2.2.2.1)
      · rw [if_neg h5]; exact no _ h5 (fun e => ⟨(hb.1 e).2.2.2.2.2.1, (hb.1 e).2.2.2.2.2.2.1, (hb.1 e).2.2.2.2.2.2.2.1⟩)
    · rw [if_neg h3]; exact no _ h3 (fun e => (hb.1 e).2.2.2.1)
  · rw [if_neg h0]; exact no _ h0 (fun e => (hb.1 e).1)

end Go.Proofs.Ytpkamfjkmbakhaa.G.Pure
