/- Blocks that a walk has laid: where they stand, that they are apart, that what was there before is kept. -/
import Derived.Test.YtpkamfjkmbakhaaG0
namespace Go.Proofs.Ytpkamfjkmbakhaa.G
open Go.RowKit Go.Proofs.YtpkamfjkmbakhaaW.PrintWords Go.Proofs.YtpkamfjkmbakhaaW.PrintLast Go.Proofs.YtpkamfjkmbakhaaW.PrintMore

/-- W keeps what w had, and the blocks of l lie in it, behind what w had, each at its own place. -/
structure Lie (w : World) (l : List (Nat × Obj)) (W : World) : Prop where
  bel : Below w.heap.size w W
  at_ : ∀ p, p ∈ l → W.heap[p.1]? = some p.2 ∧ w.heap.size ≤ p.1
  nod : (l.map Prod.fst).Nodup

namespace Lie
variable {w W W' : World} {l l1 l2 : List (Nat × Obj)} {g : Nat} {o : Obj}
theorem nil (h : Below w.heap.size w W) : Lie w [] W := ⟨h, fun _ hp => (by cases hp), List.nodup_nil⟩
theorem perm (h : Lie w l W) {l' : List (Nat × Obj)} (hp : l.Perm l') : Lie w l' W :=
  ⟨h.bel, fun p hm => h.at_ p (hp.mem_iff.2 hm), (hp.map Prod.fst).nodup_iff.1 h.nod⟩
theorem lt (h : Lie w l W) {p : Nat × Obj} (hm : p ∈ l) : p.1 < W.heap.size := blk_lt (h.at_ p hm).1
/-- A world that keeps all that W has. -/
theorem step (h : Lie w l W) (hb : Below W.heap.size W W') : Lie w l W' :=
  ⟨below_step h.bel hb, fun p hm => ⟨blk_below (h.at_ p hm).1 hb, (h.at_ p hm).2⟩, h.nod⟩
theorem drew (h : Lie w l W) : Lie w l W.drew := ⟨below_drew1 h.bel, fun p hm => h.at_ p hm, h.nod⟩
theorem drewN (h : Lie w l W) (n : Nat) : Lie w l (W.drewN n) := ⟨pw_below_drewN h.bel n, fun p hm => h.at_ p hm, h.nod⟩
/-- One more block. -/
theorem more (l1 l2 : List (Nat × Obj)) (h : Lie w (l1 ++ l2) W) (hg : g = W.heap.size) (hx : W'.heap[g]? = some o) (hb : Below W.heap.size W W') : Lie w (l1 ++ (g, o) :: l2) W' := by
  have h' := h.step hb
  have hn : g ∉ (l1 ++ l2).map Prod.fst := by
    intro hm
    obtain ⟨p, hp, rfl⟩ := List.mem_map.1 hm
    have := h.lt hp
    omega
  refine (show Lie w ((g, o) :: (l1 ++ l2)) W' from ⟨h'.bel, fun p hm => ?_, List.nodup_cons.2 ⟨hn, h'.nod⟩⟩).perm List.perm_middle.symm
  rcases List.mem_cons.1 hm with rfl | hm
  · exact ⟨hx, by rw [hg]; exact h.bel.size⟩
  · exact h'.at_ p hm
theorem get (h : Lie w l W) (i : Nat) (e : l[i]? = some (g, o)) : W.heap[g]? = some o := (h.at_ (g, o) (List.mem_of_getElem? e)).1
theorem ge (h : Lie w l W) (i : Nat) (e : l[i]? = some (g, o)) : w.heap.size ≤ g := (h.at_ (g, o) (List.mem_of_getElem? e)).2
theorem ne (h : Lie w l W) (i j : Nat) {g2 : Nat} {o2 : Obj} (e : l[i]? = some (g, o)) (e2 : l[j]? = some (g2, o2)) (hij : i ≠ j) : g ≠ g2 := by
  have a : (l.map Prod.fst)[i]? = some g := by simp [e]
  have b : (l.map Prod.fst)[j]? = some g2 := by simp [e2]
  obtain ⟨hi, a⟩ := List.getElem?_eq_some_iff.1 a
  obtain ⟨hj, b⟩ := List.getElem?_eq_some_iff.1 b
  rintro rfl
  exact hij ((List.getElem_inj h.nod).1 (a.trans b.symm))
/-- A cell of one of the blocks is written. -/
theorem put (l1 l2 : List (Nat × Obj)) {cs : Array Value} {t : TypeId} (h : Lie w (l1 ++ (g, .cells cs t (0, 0)) :: l2) W) (j : Nat) (v : Value) : Lie w (l1 ++ (g, .cells (cs.setIfInBounds j v) t (0, 0)) :: l2) (W.setCell ⟨g, j, none⟩ v) := by
  have hn := h.nod
  have hm0 : (g, Obj.cells cs t (0, 0)) ∈ l1 ++ (g, .cells cs t (0, 0)) :: l2 := by simp
  refine ⟨below_set h.bel (h.at_ _ hm0).2, fun p hm => ?_, by simpa using hn⟩
  have hg := (h.at_ _ hm0).2
  have key : p ∈ l1 ++ l2 → (W.setCell ⟨g, j, none⟩ v).heap[p.1]? = some p.2 ∧ w.heap.size ≤ p.1 := by
    intro hp
    have hp' : p ∈ l1 ++ (g, .cells cs t (0, 0)) :: l2 := by
      rcases List.mem_append.1 hp with hp | hp <;> simp [hp]
    have hne : p.1 ≠ g := by
      rintro e
      have hx : ((g, Obj.cells cs t (0, 0)) :: (l1 ++ l2)).map Prod.fst |>.Nodup := ((List.perm_middle (l₁ := l1) (l₂ := l2) (a := (g, Obj.cells cs t (0, 0)))).map Prod.fst).nodup_iff.1 hn
      exact (List.nodup_cons.1 hx).1 (List.mem_map.2 ⟨p, hp, e⟩)
    exact ⟨(Below.heap_setCell W ⟨g, j, none⟩ v p.1 hne).trans (h.at_ p hp').1, (h.at_ p hp').2⟩
  rcases List.mem_append.1 hm with hm | hm
  · exact key (List.mem_append.2 (.inl hm))
  · rcases List.mem_cons.1 hm with rfl | hm
    · exact ⟨blk_set (h.at_ _ hm0).1 j v, hg⟩
    · exact key (List.mem_append.2 (.inr hm))
end Lie
/-- The five cells of a node in a block. -/
theorem node_cells {W : World} {g : Nat} {a b c d e : Value} {t : TypeId} (h : W.heap[g]? = some (.cells #[a, b, c, d, e] t (0, 0))) :
    W.cell? ⟨g, 0, none⟩ = some a ∧ W.cell? ⟨g, 1, none⟩ = some b ∧ W.cell? ⟨g, 2, none⟩ = some c ∧ W.cell? ⟨g, 3, none⟩ = some d ∧ W.cell? ⟨g, 4, none⟩ = some e ∧
    W.frozen? ⟨g, 0, none⟩ = false ∧ W.frozen? ⟨g, 1, none⟩ = false ∧ W.frozen? ⟨g, 2, none⟩ = false ∧ W.frozen? ⟨g, 3, none⟩ = false ∧ W.frozen? ⟨g, 4, none⟩ = false :=
  ⟨(blk_cell h 0).trans rfl, (blk_cell h 1).trans rfl, (blk_cell h 2).trans rfl, (blk_cell h 3).trans rfl, (blk_cell h 4).trans rfl, blk_frozen h 0, blk_frozen h 1, blk_frozen h 2, blk_frozen h 3, blk_frozen h 4⟩
/-- The ten cells of a query in a block. -/
theorem query_cells {W : World} {g : Nat} {a b c d e f i j k l : Value} {t : TypeId} (h : W.heap[g]? = some (.cells #[a, b, c, d, e, f, i, j, k, l] t (0, 0))) :
    (W.cell? ⟨g, 0, none⟩ = some a ∧ W.cell? ⟨g, 1, none⟩ = some b ∧ W.cell? ⟨g, 2, none⟩ = some c ∧ W.cell? ⟨g, 3, none⟩ = some d ∧ W.cell? ⟨g, 4, none⟩ = some e ∧
    W.cell? ⟨g, 5, none⟩ = some f ∧ W.cell? ⟨g, 6, none⟩ = some i ∧ W.cell? ⟨g, 7, none⟩ = some j ∧ W.cell? ⟨g, 8, none⟩ = some k ∧ W.cell? ⟨g, 9, none⟩ = some l) ∧
    W.frozen? ⟨g, 0, none⟩ = false ∧ W.frozen? ⟨g, 1, none⟩ = false ∧ W.frozen? ⟨g, 2, none⟩ = false ∧ W.frozen? ⟨g, 3, none⟩ = false ∧ W.frozen? ⟨g, 4, none⟩ = false ∧
    W.frozen? ⟨g, 5, none⟩ = false ∧ W.frozen? ⟨g, 6, none⟩ = false ∧ W.frozen? ⟨g, 7, none⟩ = false ∧ W.frozen? ⟨g, 8, none⟩ = false ∧ W.frozen? ⟨g, 9, none⟩ = false :=
  ⟨⟨(blk_cell h 0).trans rfl, (blk_cell h 1).trans rfl, (blk_cell h 2).trans rfl, (blk_cell h 3).trans rfl, (blk_cell h 4).trans rfl, (blk_cell h 5).trans rfl, (blk_cell h 6).trans rfl, (blk_cell h 7).trans rfl, (blk_cell h 8).trans rfl, (blk_cell h 9).trans rfl⟩,
    blk_frozen h 0, blk_frozen h 1, blk_frozen h 2, blk_frozen h 3, blk_frozen h 4, blk_frozen h 5, blk_frozen h 6, blk_frozen h 7, blk_frozen h 8, blk_frozen h 9⟩
/-- The world put away under a fact. -/
theorem gen_wp {P : Program} {c : Code} {Q : Exit → Act → World → Prop} {a : Act} {W : World} (F : World → Prop) (hF : F W) (h : ∀ wz, F wz → Code.wp P c Q a wz) : Code.wp P c Q a W := h W hF
theorem gen_any {P : Program} {md : Region.Mode} {ops : Array Oper} {Q : Exit → Act → World → Prop} {S : World → Prop} {ds : List Nat} {fuel : Nat} {l : Array Bool} {a : Act} {W : World} (F : World → Prop) (hF : F W)
    (h : ∀ wz, F wz → wpAnyLast P md ops Q S ds fuel l a wz) : wpAnyLast P md ops Q S ds fuel l a W := h W hF
/-- The three cells of windows in a block. -/
theorem win_cells {W : World} {g : Nat} {a b c : Value} {t : TypeId} (h : W.heap[g]? = some (.cells #[a, b, c] t (0, 0))) :
    W.cell? ⟨g, 0, none⟩ = some a ∧ W.cell? ⟨g, 1, none⟩ = some b ∧ W.cell? ⟨g, 2, none⟩ = some c ∧ W.frozen? ⟨g, 0, none⟩ = false ∧ W.frozen? ⟨g, 1, none⟩ = false ∧ W.frozen? ⟨g, 2, none⟩ = false :=
  ⟨(blk_cell h 0).trans rfl, (blk_cell h 1).trans rfl, (blk_cell h 2).trans rfl, blk_frozen h 0, blk_frozen h 1, blk_frozen h 2⟩
/-! The same, handed on. -/
theorem win_cells_ {W : World} {g : Nat} {a b c : Value} {t : TypeId} {p : Prop} (h : W.heap[g]? = some (.cells #[a, b, c] t (0, 0))) (k : W.cell? ⟨g, 0, none⟩ = some a → W.cell? ⟨g, 1, none⟩ = some b → W.cell? ⟨g, 2, none⟩ = some c → W.frozen? ⟨g, 0, none⟩ = false → W.frozen? ⟨g, 1, none⟩ = false → W.frozen? ⟨g, 2, none⟩ = false → p) : p :=
  k ((blk_cell h 0).trans rfl) ((blk_cell h 1).trans rfl) ((blk_cell h 2).trans rfl) (blk_frozen h 0) (blk_frozen h 1) (blk_frozen h 2)
theorem node_cells_ {W : World} {g : Nat} {a b c d e : Value} {t : TypeId} {p : Prop} (h : W.heap[g]? = some (.cells #[a, b, c, d, e] t (0, 0))) (k : W.cell? ⟨g, 0, none⟩ = some a → W.cell? ⟨g, 1, none⟩ = some b → W.cell? ⟨g, 2, none⟩ = some c → W.cell? ⟨g, 3, none⟩ = some d → W.cell? ⟨g, 4, none⟩ = some e → W.frozen? ⟨g, 0, none⟩ = false → W.frozen? ⟨g, 1, none⟩ = false → W.frozen? ⟨g, 2, none⟩ = false → W.frozen? ⟨g, 3, none⟩ = false → W.frozen? ⟨g, 4, none⟩ = false → p) : p :=
  k ((blk_cell h 0).trans rfl) ((blk_cell h 1).trans rfl) ((blk_cell h 2).trans rfl) ((blk_cell h 3).trans rfl) ((blk_cell h 4).trans rfl) (blk_frozen h 0) (blk_frozen h 1) (blk_frozen h 2) (blk_frozen h 3) (blk_frozen h 4)
theorem query_cells_ {W : World} {g : Nat} {a b c d e f i j m l : Value} {t : TypeId} {p : Prop} (h : W.heap[g]? = some (.cells #[a, b, c, d, e, f, i, j, m, l] t (0, 0))) (k : W.cell? ⟨g, 0, none⟩ = some a → W.cell? ⟨g, 1, none⟩ = some b → W.cell? ⟨g, 2, none⟩ = some c → W.cell? ⟨g, 3, none⟩ = some d → W.cell? ⟨g, 4, none⟩ = some e → W.cell? ⟨g, 5, none⟩ = some f → W.cell? ⟨g, 6, none⟩ = some i → W.cell? ⟨g, 7, none⟩ = some j → W.cell? ⟨g, 8, none⟩ = some m → W.cell? ⟨g, 9, none⟩ = some l → W.frozen? ⟨g, 0, none⟩ = false → W.frozen? ⟨g, 1, none⟩ = false → W.frozen? ⟨g, 2, none⟩ = false → W.frozen? ⟨g, 3, none⟩ = false → W.frozen? ⟨g, 4, none⟩ = false → W.frozen? ⟨g, 5, none⟩ = false → W.frozen? ⟨g, 6, none⟩ = false → W.frozen? ⟨g, 7, none⟩ = false → W.frozen? ⟨g, 8, none⟩ = false → W.frozen? ⟨g, 9, none⟩ = false → p) : p :=
  k ((blk_cell h 0).trans rfl) ((blk_cell h 1).trans rfl) ((blk_cell h 2).trans rfl) ((blk_cell h 3).trans rfl) ((blk_cell h 4).trans rfl) ((blk_cell h 5).trans rfl) ((blk_cell h 6).trans rfl) ((blk_cell h 7).trans rfl) ((blk_cell h 8).trans rfl) ((blk_cell h 9).trans rfl) (blk_frozen h 0) (blk_frozen h 1) (blk_frozen h 2) (blk_frozen h 3) (blk_frozen h 4) (blk_frozen h 5) (blk_frozen h 6) (blk_frozen h 7) (blk_frozen h 8) (blk_frozen h 9)
/-! Short names. -/
theorem zA : type_of% @Kd.R_alloc := @Kd.R_alloc
theorem zN : type_of% @Kd.R_drewN := @Kd.R_drewN
theorem zD : type_of% @Kd.R_drew := @Kd.R_drew
theorem zM : type_of% @Aside0.mk := @Aside0.mk
theorem zE : type_of% @Kd.R_elder' := @Kd.R_elder'
theorem zP : type_of% @pw_below_drewN := @pw_below_drewN
theorem zW : type_of% @Kd.R_new' := @Kd.R_new'
theorem zB : type_of% @Kd.R_base := @Kd.R_base
theorem zL : type_of% @Kd.R_lt := @Kd.R_lt
theorem zO : type_of% @below_drew1 := @below_drew1
theorem zC : type_of% @below_alloc := @below_alloc
theorem zCN : type_of% @Kd.C_drewN := @Kd.C_drewN
theorem zCA : type_of% @Kd.C_alloc := @Kd.C_alloc
theorem zCD : type_of% @Kd.C_drew := @Kd.C_drew
theorem zCB : type_of% @Kd.C_below := @Kd.C_below
theorem zRB : type_of% @Kd.R_below := @Kd.R_below
theorem zbN : type_of% @blk_drewN := @blk_drewN
theorem zbD : type_of% @blk_drew := @blk_drew
theorem zbA : type_of% @blk_alloc := @blk_alloc
theorem zS : type_of% @below_set := @below_set
theorem zT : type_of% @below_step := @below_step
theorem zZ : type_of% @below_size := @below_size
theorem zX : type_of% @blk_below := @blk_below
end Go.Proofs.Ytpkamfjkmbakhaa.G
