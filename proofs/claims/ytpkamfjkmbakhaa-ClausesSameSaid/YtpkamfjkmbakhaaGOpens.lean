/- The arguments of the laws, opened: slices of nodes, slices of whole numbers. (The first block is the guide's own.) Nothing is assumed. -/
import Derived.Test.YtpkamfjkmbakhaaG0
import Derived.Deep.Slices
import Derived.Deep.Fields
import Derived.ChangeSame
import Derived.OpenShut
import Derived.ChangeSlices
namespace Go.Proofs.Ytpkamfjkmbakhaa.OpensG
open Go.ChangeShapes Go.WideShapes Go.Deep Go.RowKit Go.Proofs.Ytpkamfjkmbakhaa.G Go.Proofs.YtpkamfjkmbakhaaW.PrintWords Go.Proofs.YtpkamfjkmbakhaaW.PrintLast Go.Proofs.YtpkamfjkmbakhaaW.PrintMore

section
variable {H : Type} {enc : TypeId × Value → H} {P : Program} {w : World} {base : Nat} {spare : Nat → Bool} {held : Bool}
theorem open_slice_fields {t e : TypeId} {fs : Array Field} {fuel : Nat} {cs : List Value} {x : DataW H × List MemPlace} (ht : P.underlying t = some (.slice e)) (he : P.underlying e = some (.struct fs))
    (hone : oneCellFields P fs = true) (hC : P.cellsOf e = fs.size) (h : DataW.trod enc P w base spare held fuel t cs = some x) :
    (cs = [.slice none 0 0] ∧ x = (.nil, [])) ∨
    ∃ (a : Addr) (len cap m : Nat) (D : Nat → DataW H) (Pl : Nat → List MemPlace), cs = [.slice (some a) len cap] ∧ base ≤ a.block ∧ len ≤ cap ∧ cap ≤ maxLen ∧ m = (if spare a.block then cap else len) ∧
      x = (.slice ((List.range len).map D) ((List.range (m - len)).map fun j => D (len + j)), MemPlace.row a (m * fs.size) ++ (List.range m).flatMap Pl) ∧
      ∀ i, i < m → ∃ (ys : List (DataW H × List MemPlace)) (n : Nat), D i = .agg (ys.map (·.1)) ∧ Pl i = ys.flatMap (·.2) ∧ ys.length = fs.size ∧
        ∀ (j : Nat) (f : Field), fs[j]? = some f → ∃ (v : Value) (y : DataW H × List MemPlace), w.cell? (a.add (i * fs.size + j)) = some v ∧ ys[j]? = some y ∧ DataW.trod enc P w base spare held n f.type [v] = some y := by
  rcases open_slice ht h with h0 | ⟨a, len, cap, m, n, D, Pl, hcs, hb, hl, hm, hmm, hx, hi⟩
  · exact .inl h0
  · refine .inr ⟨a, len, cap, m, D, Pl, hcs, hb, hl, hm, hmm, by rw [hC] at hx; exact hx, fun i him => ?_⟩
    obtain ⟨cs', hc, ht'⟩ := hi i him
    rw [hC] at hc
    obtain ⟨ys, n', hn', hy, hlen, hyl, hf⟩ := DataW.trod_struct he ht'
    obtain ⟨_, hcl, hat⟩ := World.cells?_some hc
    simp only [Prod.mk.injEq] at hy
    refine ⟨ys, n', hy.1, hy.2, hyl, fun j f hj => ?_⟩
    obtain ⟨ho, hk⟩ := hone_of hone j f hj
    have hjl : j < fs.size := (Array.getElem?_eq_some_iff.1 hj).1
    have hcell := hat j hjl
    have hv : cs'[j]? = some (cs'[j]'(by omega)) := List.getElem?_eq_getElem (by omega)
    have h1 := hf j f hj
    rw [ho, hk] at h1
    have hone' : (cs'.drop j).take 1 = [cs'[j]'(by omega)] := by
      rw [List.drop_eq_getElem_cons (by omega)]
      rfl
    rw [hone'] at h1
    have hys : ys[j]? = some (ys[j]'(by omega)) := List.getElem?_eq_getElem (by omega)
    refine ⟨_, _, ?_, hys, h1.trans hys⟩
    rw [← Go.Deep.add_add, hcell, hv]
end


set_option maxRecDepth 100000
theorem rows {α : Type} {P : Nat → α → Prop} : ∀ n, (∀ i, i < n → ∃ x, P i x) → ∃ l : List α, l.length = n ∧ ∀ j x, l[j]? = some x → P j x
  | 0, _ => ⟨[], rfl, by simp⟩
  | n + 1, h => by
    obtain ⟨l, e, hl⟩ := rows n (fun i hi => h i (by omega))
    obtain ⟨x, hx⟩ := h n (by omega)
    refine ⟨l ++ [x], by simp [e], fun j y hj => ?_⟩
    by_cases hjn : j < l.length
    · rw [List.getElem?_append_left hjn] at hj; exact hl j y hj
    · have hj2 := (List.getElem?_eq_some_iff.1 hj).1
      simp only [List.length_append, List.length_cons, List.length_nil] at hj2
      obtain rfl : j = l.length := by omega
      rw [List.getElem?_append_right (Nat.le_refl _)] at hj
      simp at hj; subst hj; rw [e]; exact hx

/-- The parts of a node are whole numbers of their kinds. -/
def W36 (x : S36) : Prop := (Lit.int .u8 x.f0).wf = true ∧ (Lit.int .i64 x.f1).wf = true ∧ (Lit.int .i64 x.f2).wf = true ∧ (Lit.int .i64 x.f3).wf = true ∧ (Lit.int .i64 x.f4).wf = true

section
variable {H : Type} {enc : TypeId × Value → H} {W : World} {base b0 : Nat} {spare : Nat → Bool} {held : Bool} {r : Reach} {v : Value} {d : DataW H} {p : List MemPlace}
theorem nodes_cells {fuel : Nat} {cs : List Value} {x : DataW H × List MemPlace} (hf : DataW.trod enc Try.prog W base spare held fuel 22 cs = some x) : ∃ A c, ∃ l : List S36, cs = [.slice A l.length c] ∧ Kd.C k36 W A l.length l ∧ l.length ≤ c ∧ ∀ x ∈ l, W36 x := by
  rcases open_slice_fields Try.underlying22 Try.underlying36 (by kernel_rfl) (by kernel_rfl) hf with ⟨h0, _⟩ | ⟨a, len, cap, m, D, Pl, hcs, _, hl, hm, hmm, _, hi⟩
  · exact ⟨none, 0, [], h0, Kd.C_nil _ _, Nat.le_refl _, by simp⟩
  · have hlm : len ≤ m := by rw [hmm]; split <;> omega
    obtain ⟨l, e, hP⟩ := rows (P := fun i (x : S36) => W36 x ∧ W.cell? (a.add (i * 5)) = some (.int .u8 x.f0) ∧ W.cell? (a.add (i * 5 + 1)) = some (.int .i64 x.f1) ∧ W.cell? (a.add (i * 5 + 2)) = some (.int .i64 x.f2) ∧ W.cell? (a.add (i * 5 + 3)) = some (.int .i64 x.f3) ∧ W.cell? (a.add (i * 5 + 4)) = some (.int .i64 x.f4)) len (by
      intro i hil
      obtain ⟨ys, n, _, _, _, hj⟩ := hi i (by omega)
      obtain ⟨v0, y0, c0, _, t0⟩ := hj 0 _ rfl
      obtain ⟨v1, y1, c1, _, t1⟩ := hj 1 _ rfl
      obtain ⟨v2, y2, c2, _, t2⟩ := hj 2 _ rfl
      obtain ⟨v3, y3, c3, _, t3⟩ := hj 3 _ rfl
      obtain ⟨v4, y4, c4, _, t4⟩ := hj 4 _ rfl
      obtain ⟨n0, e0, _, w0⟩ := DataW.trod_int Try.underlying5 t0
      obtain ⟨n1, e1, _, w1⟩ := DataW.trod_int Try.underlying2 t1
      obtain ⟨n2, e2, _, w2⟩ := DataW.trod_int Try.underlying3 t2
      obtain ⟨n3, e3, _, w3⟩ := DataW.trod_int Try.underlying3 t3
      obtain ⟨n4, e4, _, w4⟩ := DataW.trod_int Try.underlying3 t4
      cases e0; cases e1; cases e2; cases e3; cases e4
      exact ⟨⟨n0, n1, n2, n3, n4⟩, ⟨w0, w1, w2, w3, w4⟩, c0, c1, c2, c3, c4⟩)
    subst e
    refine ⟨some a, cap, l, hcs, ⟨rfl, by have : maxLen ≤ 9223372036854775807 := (by decide); omega, fun _ => ⟨a, rfl, fun j x hx => ?_⟩⟩, hl, fun x hx => ?_⟩
    · obtain ⟨_, c0, c1, c2, c3, c4⟩ := hP j x hx
      refine ⟨_, rfl, k36_mk W x, fun i u hu => ?_⟩
      match i, hu with
      | 0, hu => cases hu; exact c0
      | 1, hu => cases hu; exact c1
      | 2, hu => cases hu; exact c2
      | 3, hu => cases hu; exact c3
      | 4, hu => cases hu; exact c4
      | i + 5, hu => simp at hu
    · obtain ⟨j, hj⟩ := List.getElem?_of_mem hx
      exact (hP j x hj).1

theorem nodes (hv : Value.okWide Try.prog W r b0 22 v) (h : DataW.Trod enc Try.prog W base spare held 22 v d p) : ∃ A c, ∃ l : List S36, v = .slice A l.length c ∧ Kd.C k36 W A l.length l ∧ l.length ≤ c ∧ ∀ x ∈ l, W36 x := by
  obtain ⟨a, len, cap, rfl⟩ := okWide_slice Try.underlying22 hv
  obtain ⟨fuel, hf⟩ := h
  obtain ⟨A, c, l, e, h1, h2, h3⟩ := nodes_cells hf
  exact ⟨A, c, l, by simpa [Value.cells] using e, h1, h2, h3⟩

theorem ints_cells {fuel : Nat} {cs : List Value} {x : DataW H × List MemPlace} (hf : DataW.trod enc Try.prog W base spare held fuel 23 cs = some x) : ∃ A c, ∃ l : List Int, cs = [.slice A l.length c] ∧ Kd.C (Kd.int .i64) W A l.length l ∧ l.length ≤ c ∧ ∀ x ∈ l, (Lit.int .i64 x).wf = true := by
  rcases open_ints Try.underlying23 Try.underlying3 (by kernel_rfl) hf with ⟨h0, _⟩ | ⟨a, len, cap, zs, hcs, _, hl, hm, hz, _, hcell, hwz⟩
  · exact ⟨none, 0, [], h0, Kd.C_nil _ _, Nat.le_refl _, by simp⟩
  · have hlz : (zs.take len).length ≤ zs.length := by simp; omega
    by_cases hlen : len ≤ zs.length
    · have e : (zs.take len).length = len := by rw [List.length_take]; omega
      refine ⟨some a, cap, zs.take len, by rw [e]; exact hcs, ⟨rfl, by have : maxLen ≤ 9223372036854775807 := (by decide); omega, fun _ => ⟨a, rfl, fun j x hx => ⟨_, rfl, rfl, fun i u hu => ?_⟩⟩⟩, by omega, fun x hx => hwz x (List.mem_of_mem_take hx)⟩
      have hj := (List.getElem?_eq_some_iff.1 hx).1
      have hx2 : zs[j]? = some x := by rw [List.getElem?_take] at hx; split at hx <;> simp_all
      match i, hu with
      | 0, hu =>
        cases hu
        have := hcell j (by omega)
        rw [List.getD_eq_getElem?_getD, hx2] at this
        have g : W.cell? (a.add (j * 1 + 0)) = some (Value.int IntKind.i64 x) := by simpa using this
        exact g
      | i + 1, hu => simp at hu
    · exfalso
      rw [hz] at hlen
      split at hlen <;> omega

theorem ints (hv : Value.okWide Try.prog W r b0 23 v) (h : DataW.Trod enc Try.prog W base spare held 23 v d p) : ∃ A c, ∃ l : List Int, v = .slice A l.length c ∧ Kd.C (Kd.int .i64) W A l.length l ∧ l.length ≤ c ∧ ∀ x ∈ l, (Lit.int .i64 x).wf = true := by
  obtain ⟨a, len, cap, rfl⟩ := okWide_slice Try.underlying23 hv
  obtain ⟨fuel, hf⟩ := h
  obtain ⟨A, c, l, e, h1, h2, h3⟩ := ints_cells hf
  exact ⟨A, c, l, by simpa [Value.cells] using e, h1, h2, h3⟩

set_option maxHeartbeats 4000000 in
theorem query (hv : Value.okWide Try.prog W r b0 27 v) (h : DataW.Trod enc Try.prog W base spare held 27 v d p) : ∃ (b0 : Int) (A1 : Option Addr) (c1 : Nat) (l1 : List S36) (A2 : Option Addr) (c2 : Nat) (l2 : List Int) (b3 : Bool) (A4 : Option Addr) (c4 : Nat) (l4 : List S36) (b5 b6 b7 : Int) (b8 : Bool) (b9 : Int),
    v = .agg #[.int .u8 b0, .slice A1 l1.length c1, .slice A2 l2.length c2, .bool b3, .slice A4 l4.length c4, .int .u8 b5, .int .i64 b6, .int .i64 b7, .bool b8, .int .u8 b9] ∧ Kd.C k36 W A1 l1.length l1 ∧ l1.length ≤ c1 ∧ (∀ x ∈ l1, W36 x) ∧ Kd.C (Kd.int .i64) W A2 l2.length l2 ∧ l2.length ≤ c2 ∧ (∀ x ∈ l2, (Lit.int .i64 x).wf = true) ∧ Kd.C k36 W A4 l4.length l4 ∧ l4.length ≤ c4 ∧ (∀ x ∈ l4, W36 x) := by
  obtain ⟨cs, rfl, hsz⟩ := okWide_struct Try.underlying27 hv
  obtain ⟨l⟩ := cs
  have h10 : l.length = 10 := hsz.trans (by kernel_rfl)
  match l, h10 with
  | [v0, v1, v2, v3, v4, v5, v6, v7, v8, v9], _ =>
    obtain ⟨fuel, hf⟩ := h
    obtain ⟨xs, n, _, _, _, hlen, hg⟩ := DataW.trod_struct Try.underlying27 hf
    have hlen8 : xs.length = 8 := hlen
    match xs, hlen8 with
    | [y0, y1, y2, y3, y4, y5, y6, y7], _ =>
      have g0 : DataW.trod enc Try.prog W base spare held n 5 [v0] = some y0 := by simpa [Value.cells, show Try.prog.cellsOf 5 = 1 from by kernel_rfl] using hg 0 _ rfl
      have g1 : DataW.trod enc Try.prog W base spare held n 22 [v1] = some y1 := by simpa [Value.cells, show Try.prog.cellsOf 22 = 1 from by kernel_rfl] using hg 1 _ rfl
      have g2 : DataW.trod enc Try.prog W base spare held n 23 [v2] = some y2 := by simpa [Value.cells, show Try.prog.cellsOf 23 = 1 from by kernel_rfl] using hg 2 _ rfl
      have g3 : DataW.trod enc Try.prog W base spare held n 4 [v3] = some y3 := by simpa [Value.cells, show Try.prog.cellsOf 4 = 1 from by kernel_rfl] using hg 3 _ rfl
      have g4 : DataW.trod enc Try.prog W base spare held n 22 [v4] = some y4 := by simpa [Value.cells, show Try.prog.cellsOf 22 = 1 from by kernel_rfl] using hg 4 _ rfl
      have g5 : DataW.trod enc Try.prog W base spare held n 25 [v5, v6, v7] = some y5 := by simpa [Value.cells, show Try.prog.cellsOf 25 = 3 from by kernel_rfl] using hg 5 _ rfl
      have g6 : DataW.trod enc Try.prog W base spare held n 4 [v8] = some y6 := by simpa [Value.cells, show Try.prog.cellsOf 4 = 1 from by kernel_rfl] using hg 6 _ rfl
      have g7 : DataW.trod enc Try.prog W base spare held n 5 [v9] = some y7 := by simpa [Value.cells, show Try.prog.cellsOf 5 = 1 from by kernel_rfl] using hg 7 _ rfl
      obtain ⟨ws, m, _, _, _, hlen3, hw⟩ := DataW.trod_struct Try.underlying25 g5
      have hlen3' : ws.length = 3 := hlen3
      match ws, hlen3' with
      | [z0, z1, z2], _ =>
        have j0 : DataW.trod enc Try.prog W base spare held m 5 [v5] = some z0 := by simpa [Value.cells, show Try.prog.cellsOf 5 = 1 from by kernel_rfl] using hw 0 _ rfl
        have j1 : DataW.trod enc Try.prog W base spare held m 2 [v6] = some z1 := by simpa [Value.cells, show Try.prog.cellsOf 2 = 1 from by kernel_rfl] using hw 1 _ rfl
        have j2 : DataW.trod enc Try.prog W base spare held m 2 [v7] = some z2 := by simpa [Value.cells, show Try.prog.cellsOf 2 = 1 from by kernel_rfl] using hw 2 _ rfl
        obtain ⟨n0, e0, _, _⟩ := DataW.trod_int Try.underlying5 g0
        obtain ⟨A1, c1, l1, e1, C1, hc1, wf1⟩ := nodes_cells g1
        obtain ⟨A2, c2, l2, e2, C2, hc2, wf2⟩ := ints_cells g2
        obtain ⟨n3, e3, _⟩ := DataW.trod_bool Try.underlying4 g3
        obtain ⟨A4, c4, l4, e4, C4, hc4, wf4⟩ := nodes_cells g4
        obtain ⟨n5, e5, _, _⟩ := DataW.trod_int Try.underlying5 j0
        obtain ⟨n6, e6, _, _⟩ := DataW.trod_int Try.underlying2 j1
        obtain ⟨n7, e7, _, _⟩ := DataW.trod_int Try.underlying2 j2
        obtain ⟨n8, e8, _⟩ := DataW.trod_bool Try.underlying4 g6
        obtain ⟨n9, e9, _, _⟩ := DataW.trod_int Try.underlying5 g7
        cases e0; cases e1; cases e2; cases e3; cases e4; cases e5; cases e6; cases e7; cases e8; cases e9
        exact ⟨n0, A1, c1, l1, A2, c2, l2, n3, A4, c4, l4, n5, n6, n7, n8, n9, rfl, C1, hc1, wf1, C2, hc2, wf2, C4, hc4, wf4⟩
end

end Go.Proofs.Ytpkamfjkmbakhaa.OpensG
