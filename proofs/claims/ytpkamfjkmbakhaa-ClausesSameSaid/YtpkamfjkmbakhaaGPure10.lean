/- What the walk of ClausesSame reads: the same queries, moved ones, other ones. Nothing is assumed. -/
import Derived.Test.YtpkamfjkmbakhaaGPure7
import Derived.Test.YtpkamfjkmbakhaaGPure9
namespace Go.Proofs.Ytpkamfjkmbakhaa.G.Pure
open Go.RowKit Go.Proofs.Ytpkamfjkmbakhaa.G Go.Proofs.YtpkamfjkmbakhaaW.PrintWords Go.Proofs.YtpkamfjkmbakhaaW.PrintLast Go.Proofs.YtpkamfjkmbakhaaW.PrintMore

theorem good_strip {x y : S36} {a b : Int} (h : Good x a b) (e : strip x = strip y) (hy : 0 ≤ y.f4 ∧ y.f4 ≤ 400) : Good y a b := by
  have := strip_iff.1 e
  unfold Good at h ⊢
  omega

theorem one_of {M : List S36} {x : S36} (e : M.map strip = [x].map strip) : ∃ y, M = [y] ∧ strip y = strip x := by
  obtain ⟨y, h1, h2⟩ := List.map_eq_singleton_iff.1 e
  exact ⟨y, h1, h2⟩

theorem Ex.alike {o : Int} {L : List S36} {d : Int} (h : Ex o L d) : ∀ {M : List S36}, L.map strip = M.map strip → (∀ x ∈ M, 0 ≤ x.f4 ∧ x.f4 ≤ 400) → Ex o M d := by
  induction h with
  | @leaf o x h1 h2 =>
    intro M e hM
    obtain ⟨y, rfl, e2⟩ := one_of e.symm
    have e' := strip_iff.1 e2
    exact .leaf (by rw [e'.1]; exact h1) (good_strip h2 e2.symm (hM y (by simp)))
  | @un o L d x h1 h2 h3 ih =>
    intro M e hM
    rw [List.map_append] at e
    obtain ⟨L', M', rfl, e1, e2⟩ := List.map_eq_append_iff.1 e.symm
    obtain ⟨y, rfl, e5⟩ := one_of e2
    · have e' := strip_iff.1 e5
      have hl : L'.length = L.length := by have := congrArg List.length e1; simpa using this
      exact .un (ih e1.symm (fun z hz => hM z (by simp [hz]))) (by rw [e'.1]; exact h2) (by rw [hl]; exact good_strip h3 e5.symm (hM y (by simp)))
  | @bin o L d R e x h1 h2 h3 h4 ih1 ih2 =>
    intro M e hM
    rw [List.map_append, List.map_append] at e
    obtain ⟨LR, M', rfl, e1, e2⟩ := List.map_eq_append_iff.1 e.symm
    obtain ⟨L', R', rfl, e3, e4⟩ := List.map_eq_append_iff.1 e1
    obtain ⟨y, rfl, e5⟩ := one_of e2
    · have e' := strip_iff.1 e5
      have hl : L'.length = L.length := by have := congrArg List.length e3; simpa using this
      have hr : R'.length = R.length := by have := congrArg List.length e4; simpa using this
      exact .bin (ih1 e3.symm (fun z hz => hM z (by simp [hz]))) (by rw [hl]; exact ih2 e4.symm (fun z hz => hM z (by simp [hz]))) (by rw [e'.1]; exact h3) (by rw [hl, hr]; exact good_strip h4 e5.symm (hM y (by simp)))

theorem Ex.small {o : Int} {L : List S36} {d : Int} (h : Ex o L d) : 0 ≤ o → ∀ x ∈ L, 0 ≤ x.f2 ∧ x.f2 ≤ o + L.length ∧ 0 ≤ x.f3 ∧ x.f3 ≤ o + L.length ∧ 0 ≤ x.f4 ∧ x.f4 ≤ 400 := by
  induction h with
  | @leaf o x h1 h2 =>
    intro h0 y hy
    rw [List.mem_singleton.1 hy]
    unfold Good at h2
    simp; omega
  | @un o L d x h1 h2 h3 ih =>
    intro h0 y hy
    have hb := h1.bounds
    simp only [List.length_append, List.length_cons, List.length_nil]
    rcases List.mem_append.1 hy with hy | hy
    · have := ih h0 y hy; omega
    · rw [List.mem_singleton.1 hy]; unfold Good at h3; omega
  | @bin o L d R e x h1 h2 h3 h4 ih1 ih2 =>
    intro h0 y hy
    have hb := h1.bounds
    have hb2 := h2.bounds
    simp only [List.length_append, List.length_cons, List.length_nil]
    rcases List.mem_append.1 hy with hy | hy
    · rcases List.mem_append.1 hy with hy | hy
      · have := ih1 h0 y hy; omega
      · have := ih2 (by omega) y hy; omega
    · rw [List.mem_singleton.1 hy]; unfold Good at h4; omega

/-- An expression, or none. -/
def Fine (l : List S36) : Prop := l.length = 0 ∨ chk l = 0
/-- The same, but that nodes may stand elsewhere. -/
def Moves (l x : List S36) : Prop := x.length = l.length ∧ x.map strip = l.map strip ∧ ∀ y ∈ x, 0 ≤ y.f4 ∧ y.f4 ≤ 400

theorem Fine.moves {l : List S36} (h : Fine l) : Moves l l := by
  refine ⟨rfl, rfl, fun y hy => ?_⟩
  rcases h with h | h
  · rw [List.eq_nil_of_length_eq_zero h] at hy; cases hy
  · obtain ⟨hl, A, d, hV, hd⟩ := chk_ok h
    have := hV.ex.small (by omega) y hy
    omega

theorem Moves.set {l x : List S36} (h : Moves l x) {n : Int} (h0 : 0 ≤ n) (h1 : n < (x.length : Int)) {s : Int} (hs : 0 ≤ s ∧ s ≤ 400) : Moves l (x.set n.toNat ⟨(rd_T36 x n).f0, (rd_T36 x n).f1, (rd_T36 x n).f2, (rd_T36 x n).f3, s⟩) := by
  have hn : n.toNat < x.length := by omega
  have hr : rd_T36 x n = x[n.toNat] := by unfold rd_T36; rw [List.getD_eq_getElem?_getD, List.getElem?_eq_getElem hn]; rfl
  refine ⟨by rw [List.length_set]; exact h.1, ?_, fun y hy => ?_⟩
  · rw [← h.2.1, List.map_set]
    have : strip ⟨(rd_T36 x n).f0, (rd_T36 x n).f1, (rd_T36 x n).f2, (rd_T36 x n).f3, s⟩ = (x.map strip)[n.toNat]'(by simpa using hn) := by
      rw [List.getElem_map, hr]; rfl
    rw [this, List.set_getElem_self]
  · rcases List.mem_or_eq_of_mem_set hy with hy | rfl
    · exact h.2.2 y hy
    · exact hs

theorem Moves.fine {l x : List S36} (h : Moves l x) (f : Fine l) : Fine x := by
  rcases f with f | f
  · exact .inl (by rw [h.1]; exact f)
  · refine .inr ?_
    obtain ⟨hl, A, d, hV, hd⟩ := chk_ok f
    obtain ⟨B, hB⟩ := V.of_ex (hV.ex.alike h.2.1.symm h.2.2)
    exact chk_zero hB (by rw [h.1]; exact hl) hd
theorem Moves.zero {l x : List S36} (h : Moves l x) (f : chk l = 0) : chk x = 0 := by
  obtain ⟨hl, A, d, hV, hd⟩ := chk_ok f
  obtain ⟨B, hB⟩ := V.of_ex (hV.ex.alike h.2.1.symm h.2.2)
  exact chk_zero hB (by rw [h.1]; exact hl) hd

theorem fine_parts {a : Int} {A : List S36} {S : List Int} {j : Bool} {B : List S36} {w0 w1 w2 t : Int} (h : qchk a A S j B w0 w1 w2 t = 0) : Fine A ∧ Fine B ∧ 1 ≤ t ∧ t ≤ 2 := by
  obtain ⟨g1, g2, g3, g4, g5, g6⟩ := qchk_zero.1 h
  refine ⟨?_, g3, by omega, by omega⟩
  by_cases h1 : a = 1
  · rw [if_pos h1] at g2; exact .inl g2
  · rw [if_neg h1] at g2; exact .inr g2

theorem same_moved {p : Qu} (hp : p.small) (cp : p.chk = 0) {x1 x4 : List S36} (h1 : Moves p.A x1) (h4 : Moves p.B x4) : p.same 500 { p with A := x1, B := x4 } = some (true, 0) := by
  have hq : ({ p with A := x1, B := x4 } : Qu).small := ⟨by show x1.length ≤ 70; rw [h1.1]; exact hp.1, by show x4.length ≤ 70; rw [h4.1]; exact hp.2.1, hp.2.2⟩
  have cq : ({ p with A := x1, B := x4 } : Qu).chk = 0 := by
    unfold Qu.chk at cp ⊢
    obtain ⟨g1, g2, g3, g4, g5, g6⟩ := qchk_zero.1 cp
    refine qchk_zero.2 ⟨g1, ?_, h4.fine g3, g4, g5, g6⟩
    by_cases e : p.a = 1
    · rw [if_pos e] at g2; rw [if_pos e]; exact h1.1.trans g2
    · rw [if_neg e] at g2; rw [if_neg e]; exact h1.zero g2
  rw [same_is hp hq (by omega), if_pos cp, if_pos cq, decide_eq_true]
  unfold Qu.bare
  simp only [h1.2.1, h4.2.1]

theorem same_vals {p q : Qu} (hp : p.small) (hq : q.small) (cp : p.chk = 0) (cq : q.chk = 0) : ∃ g g' r : Bool, p.same 500 q = some (g, 0) ∧ q.same 500 p = some (g', 0) ∧ (g == g') = true ∧
    p.same 500 { p with y := !p.y } = some (false, 0) ∧ p.same 500 { p with t := (3 - p.t) % 256 } = some (false, 0) ∧ p.requal 500 q = some r ∧ (g = false → r = false) := by
  have e1 := same_is hp hq (k := 500) (by omega)
  have e2 := same_is hq hp (k := 500) (by omega)
  rw [if_pos cp, if_pos cq] at e1
  rw [if_pos cq, if_pos cp] at e2
  have ht := (fine_parts cp).2.2
  have e3 : p.same 500 { p with y := !p.y } = some (false, 0) := by
    rw [same_is hp (q := { p with y := !p.y }) hp (by omega), if_pos cp, if_pos (show ({ p with y := !p.y } : Qu).chk = 0 from cp), decide_eq_false]
    rw [bare_iff]
    intro h
    have := h.2.2.2.2.2.2.2.2.1
    cases hy : p.y <;> simp [hy] at this
  have e4 : p.same 500 { p with t := (3 - p.t) % 256 } = some (false, 0) := by
    have cl : ({ p with t := (3 - p.t) % 256 } : Qu).chk = 0 := by
      unfold Qu.chk at cp ⊢
      obtain ⟨g1, g2, g3, g4, g5, g6⟩ := qchk_zero.1 cp
      exact qchk_zero.2 ⟨⟨g1.1, g1.2.1, by show 1 ≤ (3 - p.t) % 256; omega, by show (3 - p.t) % 256 ≤ 2; omega⟩, g2, g3, g4, g5, g6⟩
    rw [same_is hp (q := { p with t := (3 - p.t) % 256 }) hp (by omega), if_pos cp, if_pos cl, decide_eq_false]
    rw [bare_iff]
    intro h
    have h9 : p.t = (3 - p.t) % 256 := h.2.2.2.2.2.2.2.2.2
    omega
  refine ⟨_, _, _, e1, e2, ?_, e3, e4, requal_is hp q (by omega), ?_⟩
  · rw [beq_iff_eq, decide_eq_decide]; exact ⟨fun h => h.symm, fun h => h.symm⟩
  · intro h
    rw [decide_eq_false_iff_not] at h ⊢
    rintro rfl
    exact h rfl

end Go.Proofs.Ytpkamfjkmbakhaa.G.Pure
