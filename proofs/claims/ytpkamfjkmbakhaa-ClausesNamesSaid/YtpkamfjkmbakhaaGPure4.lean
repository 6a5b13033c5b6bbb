/- What the checks tell; sizes, depths and parts of a valid list. Nothing is assumed. -/
import Derived.Test.YtpkamfjkmbakhaaGPure3
namespace Go.Proofs.Ytpkamfjkmbakhaa.G.Pure
open Go.RowKit Go.Proofs.Ytpkamfjkmbakhaa.G Go.Proofs.YtpkamfjkmbakhaaW.PrintWords Go.Proofs.YtpkamfjkmbakhaaW.PrintLast Go.Proofs.YtpkamfjkmbakhaaW.PrintMore

theorem run_grows {R : List S36} : ∀ {i : Int} {A T : List S96} {u}, run R i A T = some u → ∃ C, u.1 = A ++ C := by
  induction R with
  | nil => intro i A T u h; obtain rfl := Option.some.inj h; exact ⟨[], by simp⟩
  | cons x R ih =>
    intro i A T u h
    simp only [run] at h
    obtain ⟨v, _, h⟩ := Option.bind_eq_some_iff.1 h
    obtain ⟨C, hC⟩ := ih h
    exact ⟨[v.1] ++ C, by rw [hC]; simp⟩

/-- As before; and no part is deeper than the whole. -/
theorem run_deep {o : Int} {L : List S36} {d : Int} (h : Ex o L d) : ∀ (A T : List S96), ∃ B, B.length = L.length ∧ (∀ t ∈ B, t.f2 ≤ d) ∧ run L o A T = some (A ++ B, ⟨o + L.length - 1, L.length, d⟩ :: T) := by
  induction h with
  | @leaf o x h1 h2 =>
    intro A T
    refine ⟨[⟨o, 1, 1⟩], rfl, by simp, ?_⟩
    simp [run, step, h1, h2]
  | @un o L d x h1 h2 h3 ih =>
    intro A T
    obtain ⟨B, e1, e3, e2⟩ := ih A T
    refine ⟨B ++ [⟨o + L.length, 1 + L.length, d + 1⟩], by simp [e1], ?_, ?_⟩
    · intro t ht
      rcases List.mem_append.1 ht with ht | ht
      · have := e3 t ht; omega
      · rw [List.mem_singleton.1 ht]; simp
    rw [run_append, e2]
    simp [run, step, h2, h3]
    omega
  | @bin o L d R e x h1 h2 h3 h4 ih1 ih2 =>
    intro A T
    obtain ⟨B, e1, e3, e2⟩ := ih1 A T
    obtain ⟨C, f1, f3, f2⟩ := ih2 (A ++ B) (⟨o + L.length - 1, L.length, d⟩ :: T)
    have hm := mx_ge (d + 1) (e + 1)
    refine ⟨B ++ C ++ [⟨o + L.length + R.length, 1 + L.length + R.length, mx (d + 1) (e + 1)⟩], by simp [e1, f1], ?_, ?_⟩
    · intro t ht
      rcases List.mem_append.1 ht with ht | ht
      · rcases List.mem_append.1 ht with ht | ht
        · have := e3 t ht; omega
        · have := f3 t ht; omega
      · rw [List.mem_singleton.1 ht]; simp
    rw [run_append, run_append, e2]
    simp only [Option.bind_some, f2]
    simp [run, step, h3, h4]
    omega

/-- An expression, and what is told of its nodes. -/
def V (l : List S36) (A : List S96) (d : Int) : Prop := run l 0 [] [] = some (A, [⟨l.length - 1, l.length, d⟩])

theorem V.of_ex {l : List S36} {d : Int} (h : Ex 0 l d) : ∃ A, V l A d := by
  obtain ⟨B, _, e⟩ := run_all h [] []
  exact ⟨B, by unfold V; rw [e]; simp⟩

theorem V.of_run {l : List S36} {A : List S96} {t : S96} (h : run l 0 [] [] = some (A, [t])) : V l A t.f2 := by
  have := (run_ok (P := []) .nil ⟨rfl, by simp⟩ h).1.one.2
  simp only [List.nil_append] at this
  unfold V; rw [h, ← this]

theorem V.ex {l A d} (h : V l A d) : Ex 0 l d := whole h rfl
theorem V.al {l A d} (h : V l A d) : Al A l := (run_ok (P := []) .nil ⟨rfl, by simp⟩ h).2
theorem V.len {l A d} (h : V l A d) : A.length = l.length := h.al.1
theorem V.deep {l A d} (h : V l A d) : ∀ t ∈ A, t.f2 ≤ d := by
  obtain ⟨B, _, e3, e⟩ := run_deep h.ex [] []
  unfold V at h
  rw [h] at e
  simp only [Option.some.injEq, Prod.mk.injEq, List.nil_append] at e
  rw [e.1]; exact e3
theorem V.last {l A d} (h : V l A d) : A[l.length - 1]? = some ⟨l.length - 1, l.length, d⟩ := by
  have hS := (run_ok (P := []) .nil ⟨rfl, by simp⟩ h).1
  obtain ⟨Q, L, e, h1, h2, h3, h4, h5, h6, h7⟩ := hS.top
  simp only [List.nil_append] at e
  rw [e, List.length_append]
  simpa [e] using h7

theorem all_at {l A T} (h : run l 0 [] [] = some (A, T)) {Q L Z : List S36} {d : Int} (e : l = Q ++ L ++ Z) (hE : Ex Q.length L d) : A[Q.length + L.length - 1]? = some ⟨Q.length + L.length - 1, L.length, d⟩ := by
  rw [e, run_append, run_append] at h
  obtain ⟨u, hu, h⟩ := Option.bind_eq_some_iff.1 h
  obtain ⟨v, hv, hu⟩ := Option.bind_eq_some_iff.1 hu
  obtain ⟨B, e1, e2⟩ := run_all hE v.1 v.2
  simp only [Int.zero_add] at hu h
  rw [e2] at hu
  obtain rfl := Option.some.inj hu
  have g := run_ok (P := []) .nil ⟨rfl, by simp⟩ hv
  simp only [List.nil_append] at g
  obtain ⟨g1, g2⟩ := run_ok g.1 g.2 e2
  obtain ⟨Q2, L2, f1, f2, f3, f4, f5, f6, f7, f8⟩ := g1.top
  have hl := congrArg List.length f1
  simp only [List.length_append] at hl
  obtain ⟨C, hC⟩ := run_grows h
  simp only at hC
  rw [hC, hl, List.getElem?_append_left (List.getElem?_eq_some_iff.1 f8).1, f8]

/-- What is told of a node, told in two ways. -/
theorem V.node {l A d} (h : V l A d) {i : Nat} (hi : i < l.length) : ∃ (Q L Z : List S36) (e : Int), l = Q ++ L ++ Z ∧ Q.length + L.length = i + 1 ∧ Ex Q.length L e ∧ A[i]? = some ⟨i, L.length, e⟩ ∧ e ≤ d := by
  have hl := h.len
  have : A[i]? = some A[i] := List.getElem?_eq_getElem (by omega)
  obtain ⟨Q, L, Z, e, e1, e2, e3, e4⟩ := h.al.2 i _ this
  refine ⟨Q, L, Z, e, e1, e2, e3, by rw [this, e4], ?_⟩
  have := h.deep A[i] (List.getElem_mem _)
  rw [e4] at this; exact this

/-- The check's number. -/
def chk (l : List S36) : Int := if l.length > 60 then 4 else match run l 0 [] [] with | some (_, [t]) => if t.f2 > 20 then 34 else 0 | _ => 8

theorem chk_ok {l : List S36} (h : chk l = 0) : l.length ≤ 60 ∧ ∃ A d, V l A d ∧ d ≤ 20 := by
  unfold chk at h
  split at h
  · omega
  · refine ⟨by omega, ?_⟩
    split at h
    · rename_i A t hr
      split at h
      · omega
      · exact ⟨A, t.f2, V.of_run hr, by omega⟩
    · omega
theorem chk_zero {l A d} (h : V l A d) (hl : l.length ≤ 60) (hd : d ≤ 20) : chk l = 0 := by
  unfold chk; unfold V at h
  rw [if_neg (by omega), h]
  simp only
  rw [if_neg (by omega)]
theorem chk_bad {l} (h : run l 0 [] [] = none) (hl : l.length ≤ 60) : chk l = 8 := by
  unfold chk
  rw [if_neg (by omega), h]

theorem ref_check {l : List S36} (hl : l.length ≤ 70) {k : Nat} (hk : l.length < k) : tailwaterref04_Check.f k l = some (chk l) := by
  unfold tailwaterref04_Check.f chk
  by_cases h6 : l.length > 60
  · rw [if_pos (by omega), if_pos h6]
  · rw [if_neg (by omega), if_neg h6, sizes_is hl hk, Option.bind_some]
    cases hr : run l 0 [] [] with
    | none => rfl
    | some u =>
      obtain ⟨A, T⟩ := u
      match T with
      | [] => rfl
      | _ :: _ :: _ => simp [said]
      | [t] =>
        have hV := V.of_run hr
        have hb := hV.ex.bounds
        have hlen := hV.len
        have hw : wrap64 ((l.length : Int) - 1) = ((l.length - 1 : Nat) : Int) := by rw [w64 (by omega)]; omega
        rw [if_pos (show (said (some (A, [t]))).2.2 = true from rfl), hw, if_pos (by omega), if_pos (show ((l.length - 1 : Nat) : Int) < ((said (some (A, [t]))).2.1.length : Int) by simp only [said, List.length_map]; omega)]
        show (if rd (A.map (·.f2)) ((l.length - 1 : Nat) : Int) > 20 then some 34 else some 0) = _
        rw [rd2 hV.last]
        simp only
        split <;> rfl

theorem prog_check {l : List S36} (hl : l.length ≤ 70) {k : Nat} (hk : 400 ≤ k) : ∃ A, nodes_check.f k l = some (A, chk l) ∧ ∀ B d, V l B d → chk l = 0 → A = B := by
  unfold nodes_check.f
  by_cases h6 : l.length > 60
  · rw [if_pos (by omega)]
    have hc : chk l = 4 := by unfold chk; rw [if_pos h6]
    rw [hc]; exact ⟨_, rfl, fun _ _ _ h => by omega⟩
  · rw [if_neg (by omega)]
    have ht := tops_is hl (k := k) (by omega)
    cases hr : run l 0 [] [] with
    | none =>
      obtain ⟨Z, hZ⟩ := ht.2 hr
      have hc := chk_bad hr (by omega)
      rw [hZ, Option.bind_some, if_neg (by simp), hc]
      exact ⟨_, rfl, fun _ _ _ h => by omega⟩
    | some u =>
      obtain ⟨A, T⟩ := u
      rw [ht.1 _ hr, Option.bind_some]
      match T with
      | [] =>
        have hc : chk l = 8 := by unfold chk; rw [if_neg h6, hr]
        rw [if_neg (by simp), hc]; exact ⟨_, rfl, fun _ _ _ h => by omega⟩
      | _ :: _ :: _ =>
        have hc : chk l = 8 := by unfold chk; rw [if_neg h6, hr]
        rw [if_neg (by simp; omega), hc]; exact ⟨_, rfl, fun _ _ _ h => by omega⟩
      | [t] =>
        have hV := V.of_run hr
        have hb := hV.ex.bounds
        have hlen := hV.len
        have hc : chk l = if t.f2 > 20 then 34 else 0 := by unfold chk; rw [if_neg h6, hr]
        rw [if_pos (by simp)]
        have hw : wrap64 ((A.length : Int) - 1) = ((l.length - 1 : Nat) : Int) := by rw [w64 (by omega)]; omega
        simp only
        rw [hw, if_pos (by omega), if_pos (by omega), rd96 hV.last, hc]
        simp only
        split
        · exact ⟨_, rfl, fun _ _ _ h => by omega⟩
        · refine ⟨_, rfl, fun B d hB _ => ?_⟩
          unfold V at hB; rw [hr] at hB; simp only [Option.some.injEq, Prod.mk.injEq] at hB; exact hB.1

theorem pcheck {l : List S36} (hl : l.length ≤ 70) {k : Nat} (hk : 400 ≤ k) : nodes_Check.f k l = some (chk l) := by
  obtain ⟨A, e, _⟩ := prog_check hl hk
  unfold nodes_Check.f; rw [e, Option.bind_some]

end Go.Proofs.Ytpkamfjkmbakhaa.G.Pure
