/- Lists of nodes: what is an expression, in plain words; the reference's sizes and the program's stack both follow it. Nothing is assumed. -/
import Derived.Test.YtpkamfjkmbakhaaG7
import Derived.Test.YtpkamfjkmbakhaaG16
namespace Go.Proofs.Ytpkamfjkmbakhaa.G.Pure
open Go.RowKit Go.Proofs.Ytpkamfjkmbakhaa.G Go.Proofs.YtpkamfjkmbakhaaW.PrintWords Go.Proofs.YtpkamfjkmbakhaaW.PrintLast Go.Proofs.YtpkamfjkmbakhaaW.PrintMore

theorem w64 {x : Int} (h : -9223372036854775808 ≤ x ∧ x ≤ 9223372036854775807) : wrap64 x = x := by
  unfold wrap64; omega

/-- How many parts a kind has. -/
def cnt (x : Int) : Option Nat := if x < 1 then none else if x ≤ 4 then some 0 else if x ≤ 6 then some 1 else if x ≤ 19 then some 2 else none

theorem cnt0 {x : Int} : cnt x = some 0 ↔ 1 ≤ x ∧ x ≤ 4 := by
  unfold cnt; split
  · simp; omega
  · split
    · simp; omega
    · split
      · simp; omega
      · split <;> simp <;> omega
theorem cnt1 {x : Int} : cnt x = some 1 ↔ 5 ≤ x ∧ x ≤ 6 := by
  unfold cnt; split
  · simp; omega
  · split
    · simp; omega
    · split
      · simp; omega
      · split <;> simp <;> omega
theorem cnt2 {x : Int} : cnt x = some 2 ↔ 7 ≤ x ∧ x ≤ 19 := by
  unfold cnt; split
  · simp; omega
  · split
    · simp; omega
    · split
      · simp; omega
      · split <;> simp <;> omega
theorem cntN {x : Int} : cnt x = none ↔ x < 1 ∨ 19 < x := by
  unfold cnt; split
  · simp; omega
  · split
    · simp; omega
    · split
      · simp; omega
      · split <;> simp <;> omega
theorem cnt_cases (x : Int) : cnt x = none ∨ cnt x = some 0 ∨ cnt x = some 1 ∨ cnt x = some 2 := by
  rw [cnt0, cnt1, cnt2, cntN]; omega

/-- A node is right with the indices of its parts. -/
def Good (x : S36) (a b : Int) : Prop := 0 ≤ x.f1 ∧ (x.f1 = 0 ∨ x.f0 = 1) ∧ 0 ≤ x.f4 ∧ x.f4 ≤ 400 ∧ x.f2 = a ∧ x.f3 = b
instance (x : S36) (a b : Int) : Decidable (Good x a b) := by unfold Good; infer_instance

theorem count_eq (x : Int) : tailwaterref04_Count.f x = some (match cnt x with | none => if x < 1 then 0 else 2 | some n => (n : Int)) := by
  unfold tailwaterref04_Count.f
  rcases cnt_cases x with h | h | h | h
  · rw [h]; rw [cntN] at h
    rcases h with h | h
    · rw [if_pos (by omega)]; simp [h]
    · rw [if_neg (by omega), if_neg (by omega)]; simp; omega
  · rw [h]; rw [cnt0] at h; rw [if_pos (by omega)]; rfl
  · rw [h]; rw [cnt1] at h; rw [if_neg (by omega), if_pos (by omega)]; rfl
  · rw [h]; rw [cnt2] at h; rw [if_neg (by omega), if_neg (by omega)]; rfl

theorem right_eq (x : S36) (a b : Int) : tailwaterref04_right.f x.f0 x.f1 x.f2 x.f3 x.f4 a b = some (decide (cnt x.f0 ≠ none ∧ Good x a b)) := by
  have hc : cnt x.f0 ≠ none ↔ 1 ≤ x.f0 ∧ x.f0 ≤ 19 := by rw [ne_eq, cntN]; omega
  by_cases hP : cnt x.f0 ≠ none ∧ Good x a b
  · rw [decide_eq_true hP]
    rw [hc] at hP; unfold Good at hP
    unfold tailwaterref04_right.f
    rw [if_pos (by omega), if_pos (by omega), if_pos (by omega)]
    have e : (x.f3 == b) = true := by simp only [beq_iff_eq]; omega
    rw [e, if_pos (show x.f4 ≥ 0 by omega), if_pos (show x.f4 ≤ 400 by omega), if_pos (show x.f2 = a by omega)]
    split
    · rfl
    · rw [if_pos (by omega)]
  · rw [decide_eq_false hP]
    rw [hc] at hP; unfold Good at hP
    unfold tailwaterref04_right.f
    have e : x.f3 = b ∨ (x.f3 == b) = false := by by_cases h : x.f3 = b <;> simp [h]
    repeat' split
    all_goals first | rfl | (rcases e with e | e; (exfalso; omega); rw [e])

/-- An expression that begins at an index: its nodes, and its depth. -/
inductive Ex : Int → List S36 → Int → Prop
  | leaf {o x} : cnt x.f0 = some 0 → Good x 0 0 → Ex o [x] 1
  | un {o L d x} : Ex o L d → cnt x.f0 = some 1 → Good x (o + L.length - 1) 0 → Ex o (L ++ [x]) (d + 1)
  | bin {o L d R e x} : Ex o L d → Ex (o + L.length) R e → cnt x.f0 = some 2 → Good x (o + L.length - 1) (o + L.length + R.length - 1) → Ex o (L ++ R ++ [x]) (mx (d + 1) (e + 1))

theorem mx_le {a b c : Int} : mx a b ≤ c ↔ a ≤ c ∧ b ≤ c := by unfold mx; split <;> omega
theorem mx_ge (a b : Int) : a ≤ mx a b ∧ b ≤ mx a b := by unfold mx; split <;> omega

theorem Ex.bounds {o : Int} {L : List S36} {d : Int} (h : Ex o L d) : 1 ≤ d ∧ d ≤ L.length := by
  induction h with
  | leaf _ _ => simp
  | un _ _ _ ih => simp; omega
  | bin _ _ _ _ ih1 ih2 =>
    have := mx_ge
    refine ⟨?_, mx_le.2 ?_⟩
    · rename_i o L d R e x _ _ _ _
      have := mx_ge (d + 1) (e + 1); omega
    · simp only [List.length_append, List.length_cons, List.length_nil]; omega

/-- One node, onto a stack (its top first). -/
def step (x : S36) (i : Int) (T : List S96) : Option (S96 × List S96) :=
  if cnt x.f0 = some 0 then (if Good x 0 0 then some (⟨i, 1, 1⟩, T) else none)
  else if cnt x.f0 = some 1 then (match T with | p :: T => if Good x p.f0 0 then some (⟨i, 1 + p.f1, p.f2 + 1⟩, T) else none | [] => none)
  else if cnt x.f0 = some 2 then (match T with | q :: p :: T => if Good x p.f0 q.f0 then some (⟨i, 1 + p.f1 + q.f1, mx (p.f2 + 1) (q.f2 + 1)⟩, T) else none | _ => none)
  else none
def run : List S36 → Int → List S96 → List S96 → Option (List S96 × List S96)
  | [], _, A, T => some (A, T)
  | x :: xs, i, A, T => (step x i T).bind fun u => run xs (i + 1) (A ++ [u.1]) (u.1 :: u.2)

/-- What has been read is a row of expressions; the stack tells of each. -/
inductive St (A : List S96) : List S36 → List S96 → Prop
  | nil : St A [] []
  | cons {P T L d} : St A P T → Ex P.length L d → A[P.length + L.length - 1]? = some ⟨P.length + L.length - 1, L.length, d⟩ → St A (P ++ L) (⟨P.length + L.length - 1, L.length, d⟩ :: T)

theorem St.grow {A B : List S96} {P : List S36} {T : List S96} (h : St A P T) : St (A ++ B) P T := by
  induction h with
  | nil => exact .nil
  | cons _ h1 h2 ih => exact .cons ih h1 (by rw [List.getElem?_append_left (List.getElem?_eq_some_iff.1 h2).1]; exact h2)

/-- What is told of each node. -/
def Al (A : List S96) (P : List S36) : Prop :=
  A.length = P.length ∧ ∀ (i : Nat) t, A[i]? = some t → ∃ Q L Z d, P = Q ++ L ++ Z ∧ Q.length + L.length = i + 1 ∧ Ex Q.length L d ∧ t = ⟨i, L.length, d⟩

theorem last_at {A : List S96} {t u : S96} {n : Nat} (h : n = A.length) (e : t = u) : (A ++ [t])[n]? = some u := by subst h; subst e; simp

theorem Al.snoc {A : List S96} {P : List S36} {x : S36} {t : S96} (h : Al A P) {Q L d} (e : P ++ [x] = Q ++ L) (hE : Ex Q.length L d) (ht : t = ⟨P.length, L.length, d⟩) : Al (A ++ [t]) (P ++ [x]) := by
  have hl := congrArg List.length e
  simp only [List.length_append, List.length_cons, List.length_nil] at hl
  refine ⟨by simp [h.1], fun i u hu => ?_⟩
  by_cases hi : i < A.length
  · rw [List.getElem?_append_left hi] at hu
    obtain ⟨Q', L', Z, d', e1, e2, e3, e4⟩ := h.2 i u hu
    exact ⟨Q', L', Z ++ [x], d', by rw [e1]; simp, e2, e3, e4⟩
  · have hi2 : i < (A ++ [t]).length := (List.getElem?_eq_some_iff.1 hu).1
    simp only [List.length_append, List.length_cons, List.length_nil] at hi2
    obtain rfl : i = A.length := by omega
    rw [List.getElem?_append_right (Nat.le_refl _)] at hu
    simp at hu
    subst hu
    exact ⟨Q, L, [], d, by simp [e], by have := h.1; omega, hE, by rw [h.1]; exact ht⟩

theorem step_ok {A : List S96} {P : List S36} {T : List S96} {x : S36} {u : S96 × List S96} (hS : St A P T) (hA : Al A P) (h : step x P.length T = some u) : St (A ++ [u.1]) (P ++ [x]) (u.1 :: u.2) ∧ Al (A ++ [u.1]) (P ++ [x]) ∧ u.1.f0 = P.length ∧ 1 ≤ u.1.f1 ∧ u.1.f1 ≤ P.length + 1 ∧ 1 ≤ u.1.f2 ∧ u.1.f2 ≤ P.length + 1 := by
  unfold step at h
  split at h
  · rename_i hc
    split at h
    · rename_i hg
      obtain rfl := Option.some.inj h
      have hE : Ex P.length [x] 1 := .leaf hc hg
      refine ⟨?_, Al.snoc hA rfl hE (by simp), rfl, by simp, by simp; omega, by simp, by simp; omega⟩
      have := St.cons (hS.grow (B := [⟨P.length, 1, 1⟩])) hE (by simp [hA.1])
      simpa using this
    · cases h
  · split at h
    · rename_i hc
      cases hS with
      | nil => cases h
      | cons h1 h2 h3 =>
        rename_i P T L d
        simp only at h
        split at h
        · rename_i hg
          obtain rfl := Option.some.inj h
          have hE : Ex P.length (L ++ [x]) (d + 1) := .un h2 hc hg
          have hb := h2.bounds
          have hl : A.length = P.length + L.length := by rw [hA.1]; simp
          refine ⟨?_, Al.snoc hA (by simp) hE (by simp; omega), rfl, by simp; omega, by simp; omega, by simp; omega, by simp; omega⟩
          have := St.cons (h1.grow (B := [⟨P.length + L.length, 1 + L.length, d + 1⟩])) hE (last_at (by simp only [List.length_append, List.length_cons, List.length_nil]; omega) (by simp only [List.length_append, List.length_cons, List.length_nil, S96.mk.injEq, and_true]; omega))
          simp only [List.length_append, List.length_cons, List.length_nil] at this ⊢
          rw [show ((P.length : Int) + ((L.length + (0 + 1) : Nat) : Int) - 1) = P.length + L.length by omega, show ((L.length + (0 + 1) : Nat) : Int) = 1 + L.length by omega] at this
          rw [show (((P.length + L.length : Nat) : Int)) = P.length + L.length by omega, List.append_assoc]
          exact this
        · cases h
    · split at h
      · rename_i hc
        cases hS with
        | nil => cases h
        | cons h1 h2 h3 =>
          cases h1 with
          | nil => cases h
          | cons g1 g2 g3 =>
            rename_i R e P T L d
            simp only at h
            split at h
            · rename_i hg
              obtain rfl := Option.some.inj h
              simp only [List.length_append] at h2 hg
              have hE : Ex P.length (L ++ R ++ [x]) (mx (d + 1) (e + 1)) := .bin g2 (by rw [show ((P.length + L.length : Nat) : Int) = P.length + L.length by omega] at h2; exact h2) hc (by rw [show ((P.length + L.length : Nat) : Int) = P.length + L.length by omega] at hg; exact hg)
              have hb := g2.bounds
              have hb2 := h2.bounds
              have hm := mx_ge (d + 1) (e + 1)
              have hm2 : mx (d + 1) (e + 1) ≤ P.length + L.length + R.length + 1 := mx_le.2 (by omega)
              have hl : A.length = P.length + L.length + R.length := by rw [hA.1, List.length_append, List.length_append]
              refine ⟨?_, Al.snoc hA (by simp) hE (by simp; omega), rfl, by simp; omega, by simp; omega, by simp; omega, by simp; omega⟩
              have := St.cons (g1.grow (B := [⟨P.length + L.length + R.length, 1 + L.length + R.length, mx (d + 1) (e + 1)⟩])) hE (last_at (by simp only [List.length_append, List.length_cons, List.length_nil]; omega) (by simp only [List.length_append, List.length_cons, List.length_nil, S96.mk.injEq, and_true]; omega))
              simp only [List.length_append, List.length_cons, List.length_nil] at this ⊢
              rw [show ((P.length : Int) + ((L.length + R.length + (0 + 1) : Nat) : Int) - 1) = P.length + L.length + R.length by omega, show ((L.length + R.length + (0 + 1) : Nat) : Int) = 1 + L.length + R.length by omega] at this
              rw [show (((P.length + L.length + R.length : Nat) : Int)) = P.length + L.length + R.length by omega, List.append_assoc, List.append_assoc]
              rw [List.append_assoc] at this
              exact this
            · cases h
      · cases h

theorem run_ok {R : List S36} : ∀ {A : List S96} {P : List S36} {T : List S96} {u : List S96 × List S96}, St A P T → Al A P → run R P.length A T = some u → St u.1 (P ++ R) u.2 ∧ Al u.1 (P ++ R) := by
  induction R with
  | nil => intro A P T u hS hA h; obtain rfl := Option.some.inj h; simpa using ⟨hS, hA⟩
  | cons x R ih =>
    intro A P T u hS hA h
    simp only [run] at h
    obtain ⟨v, hv, h⟩ := Option.bind_eq_some_iff.1 h
    obtain ⟨g1, g2, _⟩ := step_ok hS hA hv
    have := ih g1 g2 (by simpa using h)
    simpa using this

theorem run_append (L R : List S36) : ∀ (i : Int) (A T : List S96), run (L ++ R) i A T = (run L i A T).bind fun u => run R (i + L.length) u.1 u.2 := by
  induction L with
  | nil => intro i A T; simp [run]
  | cons x L ih =>
    intro i A T
    simp only [List.cons_append, run]
    cases step x i T with
    | none => rfl
    | some u =>
      simp only [Option.bind_some, ih]
      rw [show i + 1 + (L.length : Int) = i + ((x :: L).length : Int) by simp only [List.length_cons]; omega]

theorem run_all {o : Int} {L : List S36} {d : Int} (h : Ex o L d) : ∀ (A T : List S96), ∃ B, B.length = L.length ∧ run L o A T = some (A ++ B, ⟨o + L.length - 1, L.length, d⟩ :: T) := by
  induction h with
  | @leaf o x h1 h2 =>
    intro A T
    refine ⟨[⟨o, 1, 1⟩], rfl, ?_⟩
    simp [run, step, h1, h2]
  | @un o L d x h1 h2 h3 ih =>
    intro A T
    obtain ⟨B, e1, e2⟩ := ih A T
    refine ⟨B ++ [⟨o + L.length, 1 + L.length, d + 1⟩], by simp [e1], ?_⟩
    rw [run_append, e2]
    simp [run, step, h2, h3]
    omega
  | @bin o L d R e x h1 h2 h3 h4 ih1 ih2 =>
    intro A T
    obtain ⟨B, e1, e2⟩ := ih1 A T
    obtain ⟨C, f1, f2⟩ := ih2 (A ++ B) (⟨o + L.length - 1, L.length, d⟩ :: T)
    refine ⟨B ++ C ++ [⟨o + L.length + R.length, 1 + L.length + R.length, mx (d + 1) (e + 1)⟩], by simp [e1, f1], ?_⟩
    rw [run_append, run_append, e2]
    simp only [Option.bind_some, f2]
    simp [run, step, h3, h4]
    omega

theorem St.one {A : List S96} {P : List S36} {t : S96} (h : St A P [t]) : Ex 0 P t.f2 ∧ t = ⟨P.length - 1, P.length, t.f2⟩ := by
  cases h with
  | cons h1 h2 h3 => cases h1; simpa using h2

/-- The whole is an expression just if the stack has one entry at the end. -/
theorem whole {l : List S36} {u : List S96 × List S96} (h : run l 0 [] [] = some u) {t} (ht : u.2 = [t]) : Ex 0 l t.f2 := by
  have := (run_ok (P := []) .nil ⟨rfl, by simp⟩ h).1
  rw [ht] at this
  simpa using this.one.1

end Go.Proofs.Ytpkamfjkmbakhaa.G.Pure
