-- Written by a program of this place (wip/prt.py), out of Lean's own print of the program: Lean checks it.
import Derived.Test.YtpkamfjkmbakhaaM0
import Derived.Test.YtpkamfjkmbakhaaM2
import Derived.Test.YtpkamfjkmbakhaaM3
namespace Go.Proofs.Ytpkamfjkmbakhaa.M
open Go.RowKit Go.Proofs.YtpkamfjkmbakhaaW.PrintWords Go.Proofs.YtpkamfjkmbakhaaW.PrintLast Go.Proofs.YtpkamfjkmbakhaaW.PrintMore
attribute [local go_sem] max2_int min2_int max_two min_two max_three min_three max_four min_four   -- for this text's walks alone
set_option linter.unusedVariables false
set_option linter.unusedSimpArgs false

/-! ### tailwaterref04_Cut: function 62 -/
def tailwaterref04_Cut.l0 : Nat → List (S36) → Int → Int → List (S36) → Int → Option ((List (S36)))
  | 0, _, _, _, _, _ => none
  | k + 1, x0, x1, x8, x9, x10 => if x10 ≤ x1 then (if 0 ≤ x10 then (if x10 < (x0.length : Int) then ((tailwaterref04_Count.f ((rd_T36 x0 x10).f0)).bind fun t210 => (if t210 > 0 then ((tailwaterref04_Count.f ((rd_T36 x0 x10).f0)).bind fun t211 => (if t211 > 1 then (if x9.length < 3518437208883 then (tailwaterref04_Cut.l0 k x0 x1 x8 (x9 ++ [(⟨(rd_T36 x0 x10).f0, (rd_T36 x0 x10).f1, wrap64 (((rd_T36 x0 x10).f2) - x8), wrap64 (((rd_T36 x0 x10).f3) - x8), (rd_T36 x0 x10).f4⟩ : S36)]) (wrap64 (x10 + 1))) else (none)) else (if x9.length < 3518437208883 then (tailwaterref04_Cut.l0 k x0 x1 x8 (x9 ++ [(⟨(rd_T36 x0 x10).f0, (rd_T36 x0 x10).f1, wrap64 (((rd_T36 x0 x10).f2) - x8), (rd_T36 x0 x10).f3, (rd_T36 x0 x10).f4⟩ : S36)]) (wrap64 (x10 + 1))) else (none)))) else ((tailwaterref04_Count.f ((rd_T36 x0 x10).f0)).bind fun t218 => (if t218 > 1 then (if x9.length < 3518437208883 then (tailwaterref04_Cut.l0 k x0 x1 x8 (x9 ++ [(⟨(rd_T36 x0 x10).f0, (rd_T36 x0 x10).f1, (rd_T36 x0 x10).f2, wrap64 (((rd_T36 x0 x10).f3) - x8), (rd_T36 x0 x10).f4⟩ : S36)]) (wrap64 (x10 + 1))) else (none)) else (if x9.length < 3518437208883 then (tailwaterref04_Cut.l0 k x0 x1 x8 (x9 ++ [(⟨(rd_T36 x0 x10).f0, (rd_T36 x0 x10).f1, (rd_T36 x0 x10).f2, (rd_T36 x0 x10).f3, (rd_T36 x0 x10).f4⟩ : S36)]) (wrap64 (x10 + 1))) else (none)))))) else (none)) else (none)) else (some x9)
def tailwaterref04_Cut.f (k : Nat) (l0 : List (S36)) (a1 : Int) : Option ((List (S36))) := (tailwaterref04_Sizes.f k l0).bind fun bt200 => (if 0 ≤ a1 then (if a1 < (bt200.1.length : Int) then (tailwaterref04_Cut.l0 k l0 a1 (wrap64 ((wrap64 (a1 + 1)) - (rd bt200.1 a1))) ([] : List (S36)) (wrap64 ((wrap64 (a1 + 1)) - (rd bt200.1 a1)))) else (none)) else (none))
theorem tailwaterref04_Cut.mono_l : ∀ k, (∀ y0 y1 y2 y3 y4, LeO (tailwaterref04_Cut.l0 k y0 y1 y2 y3 y4) (tailwaterref04_Cut.l0 (k + 1) y0 y1 y2 y3 y4))
  | 0 => fun _ _ _ _ _ r h => by simp [tailwaterref04_Cut.l0] at h
  | k + 1 => by
    have ih0 := tailwaterref04_Cut.mono_l k
    · intro y0 y1 y2 y3 y4
      unfold tailwaterref04_Cut.l0
      repeat' first
      | (with_reducible exact ih0 _ _ _ _ _)
      | (with_reducible exact tailwaterref04_Sizes.mono _ _)
      | (with_reducible exact LeO.refl _)
      | (with_reducible exact LeO.none _)
      | (with_reducible refine LeO.ite ?_ ?_)
      | (with_reducible refine LeO.bind ?_ (fun _ => ?_))
      | exact ih0 _ _ _ _ _
      | exact tailwaterref04_Sizes.mono _ _
      | exact LeO.none _
      | refine LeO.ite ?_ ?_
      | refine LeO.bind ?_ (fun _ => ?_)
theorem tailwaterref04_Cut.mono : ∀ a0 a1 k, LeO (tailwaterref04_Cut.f k a0 a1) (tailwaterref04_Cut.f (k + 1) a0 a1) := by
  intro a0 a1 k
  have ih0 := tailwaterref04_Cut.mono_l k
  unfold tailwaterref04_Cut.f
  repeat' first
      | (with_reducible exact ih0 _ _ _ _ _)
      | (with_reducible exact tailwaterref04_Sizes.mono _ _)
      | (with_reducible exact LeO.refl _)
      | (with_reducible exact LeO.none _)
      | (with_reducible refine LeO.ite ?_ ?_)
      | (with_reducible refine LeO.bind ?_ (fun _ => ?_))
      | exact ih0 _ _ _ _ _
      | exact tailwaterref04_Sizes.mono _ _
      | exact LeO.none _
      | refine LeO.ite ?_ ?_
      | refine LeO.bind ?_ (fun _ => ?_)
theorem gen_wp {P : Program} {c : Code} {Q : Exit → Act → World → Prop} {a : Act} {W : World} (F : World → Prop) (hF : F W) (h : ∀ wz, F wz → Code.wp P c Q a wz) : Code.wp P c Q a W := h W hF
set_option maxHeartbeats 1500000 in
set_option maxRecDepth 100000 in
theorem tailwaterref04_Cut.calls (k : Nat) (A0 : Option Addr) (c0 : Nat) (l0 : List (S36)) (a1 : Int) (r : List (S36)) (w : World) (hr0 : Kd.C k36 w A0 l0.length l0) (hc0 : l0.length ≤ c0) (h : tailwaterref04_Cut.f k l0 a1 = some r) :
    Calls Try.prog 62 #[.slice A0 l0.length c0, .int .i64 a1] w fun e w' => ∃ v0_ : Value, e = .returned (v0_) ∧ Kd.R k36 36 w' w.heap.size (fun _ => True) v0_ r ∧ Below w.heap.size w w' := by
  have hu36 := Try.underlying36
  have HR0 := Aside0.mk hr0
  have HC0 := Aside0.mk hc0
  clear hr0 hc0
  have HB := Aside0.mk (Below.refl w.heap.size w)
  have H : ((tailwaterref04_Sizes.f k l0).bind fun bt200 => (if 0 ≤ a1 then (if a1 < (bt200.1.length : Int) then (tailwaterref04_Cut.l0 k l0 a1 (wrap64 ((wrap64 (a1 + 1)) - (rd bt200.1 a1))) ([] : List (S36)) (wrap64 ((wrap64 (a1 + 1)) - (rd bt200.1 a1)))) else (none)) else (none))) = some r := h
  clear h
  replace H := Option.bind_eq_some_iff.mp H
  obtain ⟨⟨t200, t201, t202⟩, A30, H⟩ := H
  replace H : (if 0 ≤ a1 then (if a1 < (t200.length : Int) then (tailwaterref04_Cut.l0 k l0 a1 (wrap64 ((wrap64 (a1 + 1)) - (rd t200 a1))) ([] : List (S36)) (wrap64 ((wrap64 (a1 + 1)) - (rd t200 a1)))) else (none)) else (none)) = some r := H
  have A3 := Aside0.mk A30
  clear A30
  by_cases c4 : 0 ≤ a1
  · rw [if_pos c4] at H
    have c4b0 : decide (0 ≤ a1) = true := decide_eq_true c4
    clear c4
    by_cases c5 : a1 < (t200.length : Int)
    · rw [if_pos c5] at H
      have c5b0 : decide (a1 < (t200.length : Int)) = true := decide_eq_true c5
      clear c5
      have H' := Aside0.mk H
      clear H
      go_enter Try.func62, Try.ntmps62
      go_wp2_with (first | ((with_reducible refine gate_callee (f := 59) rfl ?_); refine goesL_ (some 14) rfl rfl Try.func59 (by kernel_rfl) rfl #[.slice A0 l0.length c0] rfl (by (try simp only [List.map_toArray, List.map_cons, List.map_nil]); first | done | rfl | (simp only [List.length_drop, List.length_take]; rfl)) ?_; (with_reducible refine (tailwaterref04_Sizes.calls k _ _ l0 t200 t201 t202 _ ?side1 ?side2 A3.out).mono ?_); (case side1 => repeat (first | exact HR0.out | (with_reducible refine Kd.C_alloc ?_ _) | (with_reducible refine Kd.C_drewN ?_ _) | (with_reducible refine Kd.C_drew ?_))); (case side2 => exact HC0.out); rintro e w6 ⟨v203, v205, rfl, ho0, ho1, hb⟩; refine ⟨_, rfl, ?_⟩; have n0_ := Aside0.mk (Kd.R_lower ho0 (below_size (by repeat (first | (with_reducible first | exact HB.out | apply below_alloc | apply pw_below_drewN | apply below_drew1) | exact HB.out)))); have n1_ := Aside0.mk (Kd.R_lower ho1 (below_size (by repeat (first | (with_reducible first | exact HB.out | apply below_alloc | apply pw_below_drewN | apply below_drew1) | exact HB.out)))); have n2_ := Aside0.mk (below_step (by repeat (first | (with_reducible first | exact HB.out | apply below_alloc | apply pw_below_drewN | apply below_drew1) | exact HB.out)) hb); clear HB; have HO204 := n0_; have HO206 := n1_; have HB := n2_; clear n0_ n1_ n2_; (try clear hb); (try clear hb2); (try clear hk); (try clear hi); (try clear ho0); (try clear ho1); obtain ⟨Ao7, co7, eo7⟩ := Kd.R_slice HO204.out; subst eo7; have p207 : 0 ≤ (a1 : Int) := of_decide_eq_true (by first | (with_reducible assumption) | assumption); have q207 : a1 < (t200.length : Int) := of_decide_eq_true (by first | (with_reducible assumption) | assumption); obtain ⟨ad207, e207, hx207_0⟩ := Kd.at_int (Kd.R_reads' HO204.out).2.2 a1 p207 q207; cases e207; replace p207 := eq_true p207; replace q207 := eq_true q207))
      go_loopg [9, 10] k (fun kq v9 v10 w' => ∃ (x9_1 : List (S36)) (x10_1 : Int), v10 = .int .i64 x10_1 ∧ Aside0 (tailwaterref04_Cut.l0 kq l0 a1 (wrap64 ((wrap64 (a1 + 1)) - (rd t200 a1))) x9_1 x10_1 = some r) ∧ Aside0 (kq ≤ k) ∧ Aside0 (Kd.R k36 36 w' w.heap.size (fun _ => True) v9 x9_1) ∧ Aside0 (Below w.heap.size w w'))
      case atStart => exact ⟨(([] : List (S36))), (wrap64 ((wrap64 (a1 + 1)) - (rd t200 a1))), (by first | rfl | (simp; done) | (simp [*]; done)), H', ⟨Nat.le_refl _⟩, ⟨by first | exact Kd.R_nil _ _ _ _ _ | exact Kd.N_nil _ _ _ _ _ | exact Kd.V_nil _ _ _ _ _ | exact Kd.Q_nil _ _ _ _ _ | exact Kd.S_nil _ _ _ _ _⟩, ⟨by repeat (first | (with_reducible first | exact HB.out | apply below_alloc | apply pw_below_drewN | apply below_drew1) | exact HB.out)⟩⟩
      case round =>
        clear H'
        try clear p2
        try clear q2
        try clear hx2
        try clear c4
        try clear c4b0
        try clear c5
        try clear c5b0
        try clear c6
        try clear p6
        try clear hx207_0
        try clear p207
        try clear q207
        obtain ⟨x9_1, x10_1, rfl, HA, HK1, HO_9, HB⟩ := hrel
        cases gk with
        | zero => exact absurd HA.out (by simp [tailwaterref04_Cut.l0])
        | succ k1 =>
          have H := HA.out
          clear HA
          simp only [tailwaterref04_Cut.l0] at H
          by_cases c8 : x10_1 ≤ a1
          · rw [if_pos c8] at H
            have c8b0 : decide (x10_1 ≤ a1) = true := decide_eq_true c8
            clear c8
            by_cases c9 : 0 ≤ x10_1
            · rw [if_pos c9] at H
              have c9b0 : decide (0 ≤ x10_1) = true := decide_eq_true c9
              clear c9
              by_cases c10 : x10_1 < (l0.length : Int)
              · rw [if_pos c10] at H
                have c10b0 : decide (x10_1 < (l0.length : Int)) = true := decide_eq_true c10
                clear c10
                replace H := Option.bind_eq_some_iff.mp H
                obtain ⟨t210, A110, H⟩ := H
                replace H : (if t210 > 0 then ((tailwaterref04_Count.f ((rd_T36 l0 x10_1).f0)).bind fun t211 => (if t211 > 1 then (if x9_1.length < 3518437208883 then (tailwaterref04_Cut.l0 k1 l0 a1 (wrap64 ((wrap64 (a1 + 1)) - (rd t200 a1))) (x9_1 ++ [(⟨(rd_T36 l0 x10_1).f0, (rd_T36 l0 x10_1).f1, wrap64 (((rd_T36 l0 x10_1).f2) - (wrap64 ((wrap64 (a1 + 1)) - (rd t200 a1)))), wrap64 (((rd_T36 l0 x10_1).f3) - (wrap64 ((wrap64 (a1 + 1)) - (rd t200 a1)))), (rd_T36 l0 x10_1).f4⟩ : S36)]) (wrap64 (x10_1 + 1))) else (none)) else (if x9_1.length < 3518437208883 then (tailwaterref04_Cut.l0 k1 l0 a1 (wrap64 ((wrap64 (a1 + 1)) - (rd t200 a1))) (x9_1 ++ [(⟨(rd_T36 l0 x10_1).f0, (rd_T36 l0 x10_1).f1, wrap64 (((rd_T36 l0 x10_1).f2) - (wrap64 ((wrap64 (a1 + 1)) - (rd t200 a1)))), (rd_T36 l0 x10_1).f3, (rd_T36 l0 x10_1).f4⟩ : S36)]) (wrap64 (x10_1 + 1))) else (none)))) else ((tailwaterref04_Count.f ((rd_T36 l0 x10_1).f0)).bind fun t218 => (if t218 > 1 then (if x9_1.length < 3518437208883 then (tailwaterref04_Cut.l0 k1 l0 a1 (wrap64 ((wrap64 (a1 + 1)) - (rd t200 a1))) (x9_1 ++ [(⟨(rd_T36 l0 x10_1).f0, (rd_T36 l0 x10_1).f1, (rd_T36 l0 x10_1).f2, wrap64 (((rd_T36 l0 x10_1).f3) - (wrap64 ((wrap64 (a1 + 1)) - (rd t200 a1)))), (rd_T36 l0 x10_1).f4⟩ : S36)]) (wrap64 (x10_1 + 1))) else (none)) else (if x9_1.length < 3518437208883 then (tailwaterref04_Cut.l0 k1 l0 a1 (wrap64 ((wrap64 (a1 + 1)) - (rd t200 a1))) (x9_1 ++ [(⟨(rd_T36 l0 x10_1).f0, (rd_T36 l0 x10_1).f1, (rd_T36 l0 x10_1).f2, (rd_T36 l0 x10_1).f3, (rd_T36 l0 x10_1).f4⟩ : S36)]) (wrap64 (x10_1 + 1))) else (none))))) = some r := H
                have A11 := Aside0.mk A110
                clear A110
                by_cases c12 : t210 > 0
                · rw [if_pos c12] at H
                  have c12b0 : decide (0 < t210) = true := decide_eq_true c12
                  clear c12
                  replace H := Option.bind_eq_some_iff.mp H
                  obtain ⟨t211, A130, H⟩ := H
                  replace H : (if t211 > 1 then (if x9_1.length < 3518437208883 then (tailwaterref04_Cut.l0 k1 l0 a1 (wrap64 ((wrap64 (a1 + 1)) - (rd t200 a1))) (x9_1 ++ [(⟨(rd_T36 l0 x10_1).f0, (rd_T36 l0 x10_1).f1, wrap64 (((rd_T36 l0 x10_1).f2) - (wrap64 ((wrap64 (a1 + 1)) - (rd t200 a1)))), wrap64 (((rd_T36 l0 x10_1).f3) - (wrap64 ((wrap64 (a1 + 1)) - (rd t200 a1)))), (rd_T36 l0 x10_1).f4⟩ : S36)]) (wrap64 (x10_1 + 1))) else (none)) else (if x9_1.length < 3518437208883 then (tailwaterref04_Cut.l0 k1 l0 a1 (wrap64 ((wrap64 (a1 + 1)) - (rd t200 a1))) (x9_1 ++ [(⟨(rd_T36 l0 x10_1).f0, (rd_T36 l0 x10_1).f1, wrap64 (((rd_T36 l0 x10_1).f2) - (wrap64 ((wrap64 (a1 + 1)) - (rd t200 a1)))), (rd_T36 l0 x10_1).f3, (rd_T36 l0 x10_1).f4⟩ : S36)]) (wrap64 (x10_1 + 1))) else (none))) = some r := H
                  have A13 := Aside0.mk A130
                  clear A130
                  by_cases c14 : t211 > 1
                  · rw [if_pos c14] at H
                    have c14b0 : decide (1 < t211) = true := decide_eq_true c14
                    clear c14
                    by_cases c15 : x9_1.length < 3518437208883
                    · rw [if_pos c15] at H
                      have LMc15 := Aside0.mk c15
                      clear c15
                      obtain ⟨y212, hy212⟩ : ∃ y_ : List (S36), y_ = (x9_1 ++ [(⟨(rd_T36 l0 x10_1).f0, (rd_T36 l0 x10_1).f1, wrap64 (((rd_T36 l0 x10_1).f2) - (wrap64 ((wrap64 (a1 + 1)) - (rd t200 a1)))), wrap64 (((rd_T36 l0 x10_1).f3) - (wrap64 ((wrap64 (a1 + 1)) - (rd t200 a1)))), (rd_T36 l0 x10_1).f4⟩ : S36)]) := ⟨_, rfl⟩
                      replace H : (tailwaterref04_Cut.l0 k1 l0 a1 (wrap64 ((wrap64 (a1 + 1)) - (rd t200 a1))) y212 (wrap64 (x10_1 + 1))) = some r := by first | (rw [hy212]; with_reducible exact H) | (have H2_ := (Option.bind_some _ _).symm.trans H; rw [hy212]; with_reducible exact H2_) | (have H2_ := (Option.bind_some _ _).symm.trans H; with_reducible exact H2_) | with_reducible exact H | (rw [hy212]; exact H) | exact H
                      have Ny212 := Aside0.mk hy212
                      clear hy212
                      have H' := Aside0.mk H
                      clear H
                      have p208 : 0 ≤ (x10_1 : Int) := of_decide_eq_true (by first | (with_reducible assumption) | assumption)
                      have q208 : x10_1 < (l0.length : Int) := of_decide_eq_true (by first | (with_reducible assumption) | assumption)
                      obtain ⟨ad208, e208, hx208_0, hx208_1, hx208_2, hx208_3, hx208_4⟩ := at_T36 HR0.out x10_1 p208 q208
                      cases e208
                      replace hx208_0 := (HB.out.cell (World.block_lt_of_cell? w _ hx208_0)).trans hx208_0
                      replace hx208_1 := (HB.out.cell (World.block_lt_of_cell? w _ hx208_1)).trans hx208_1
                      replace hx208_2 := (HB.out.cell (World.block_lt_of_cell? w _ hx208_2)).trans hx208_2
                      replace hx208_3 := (HB.out.cell (World.block_lt_of_cell? w _ hx208_3)).trans hx208_3
                      replace hx208_4 := (HB.out.cell (World.block_lt_of_cell? w _ hx208_4)).trans hx208_4
                      replace p208 := eq_true p208
                      replace q208 := eq_true q208
                      go_upto_region 12 with (first | ((with_reducible refine gate_dst (N := 11) rfl ?_); refine box_event ?hg (N := 11) ?hd (cs := #[.int .u8 0, .int .i64 0, .int .i64 0, .int .i64 0, .int .i64 0]) (t := 36) ?hr ?_; (case hd => rfl); (case hg => rfl); (case hr => first | (go_simp; done) | (go_simp; rfl)); intro gb209 hg w16 hbox hb; have n0_ := Aside0.mk (Kd.R_below (Kd.R_elderB (by (with_reducible repeat (first | apply Kd.R_alloc | apply Kd.R_drewN | apply Kd.R_drew)); exact HO_9.out) gb209 (Nat.le_of_eq hg.symm)) hb); have n1_ := Aside0.mk (below_step (by repeat (first | (with_reducible first | exact HB.out | apply below_alloc | apply pw_below_drewN | apply below_drew1) | exact HB.out)) hb); have n2_ := Aside0.mk (hbox); have n3_ := Aside0.mk ((by rw [hg]; exact (below_size (by repeat (first | (with_reducible first | exact HB.out | apply below_alloc | apply pw_below_drewN | apply below_drew1) | exact HB.out))) : w.heap.size ≤ gb209)); have n4_ := Aside0.mk ((by rw [hg]; exact (below_size (by repeat (first | (with_reducible first | exact HB.out | apply below_alloc | apply pw_below_drewN | apply below_drew1) | exact HB.out))) : w.heap.size ≤ gb209)); clear HO_9; clear HB; have HO_9 := n0_; have HB := n1_; have BK209 := n2_; have GW209 := n3_; have GE209 := n4_; clear n0_ n1_ n2_ n3_ n4_; clear hb hbox hg; have hcz17_0 : w16.cell? ⟨gb209, 0, none⟩ = some (.int .u8 0) := (blk_cell BK209.out 0).trans rfl; have hcz17_1 : w16.cell? ⟨gb209, 1, none⟩ = some (.int .i64 0) := (blk_cell BK209.out 1).trans rfl; have hcz17_2 : w16.cell? ⟨gb209, 2, none⟩ = some (.int .i64 0) := (blk_cell BK209.out 2).trans rfl; have hcz17_3 : w16.cell? ⟨gb209, 3, none⟩ = some (.int .i64 0) := (blk_cell BK209.out 3).trans rfl; have hcz17_4 : w16.cell? ⟨gb209, 4, none⟩ = some (.int .i64 0) := (blk_cell BK209.out 4).trans rfl; have hfz17_0 := blk_frozen BK209.out 0; have hfz17_1 := blk_frozen BK209.out 1; have hfz17_2 := blk_frozen BK209.out 2; have hfz17_3 := blk_frozen BK209.out 3; have hfz17_4 := blk_frozen BK209.out 4) | ((with_reducible refine gate_callee (f := 63) rfl ?_); refine goesL_ (some 37) rfl rfl Try.func63 (by kernel_rfl) rfl #[.int .u8 ((rd_T36 l0 x10_1).f0)] rfl (by (try simp only [List.map_toArray, List.map_cons, List.map_nil]); first | done | rfl | (simp only [List.length_drop, List.length_take]; rfl)) ?_; (with_reducible refine (tailwaterref04_Count.calls ((rd_T36 l0 x10_1).f0) t210 _ A11.out).mono ?_); rintro e w' ⟨rfl, ⟨nd, rfl⟩⟩; refine ⟨_, rfl, ?_⟩) | ((with_reducible refine gate_callee (f := 63) rfl ?_); refine goesL_ (some 46) rfl rfl Try.func63 (by kernel_rfl) rfl #[.int .u8 ((rd_T36 l0 x10_1).f0)] rfl (by (try simp only [List.map_toArray, List.map_cons, List.map_nil]); first | done | rfl | (simp only [List.length_drop, List.length_take]; rfl)) ?_; (with_reducible refine (tailwaterref04_Count.calls ((rd_T36 l0 x10_1).f0) t211 _ A13.out).mono ?_); rintro e w' ⟨rfl, ⟨nd, rfl⟩⟩; refine ⟨_, rfl, ?_⟩))
                      refine gen_wp (fun wz => wz.heap[gb209]? = some (.cells #[.int .u8 ((rd_T36 l0 x10_1).f0), .int .i64 ((rd_T36 l0 x10_1).f1), .int .i64 (wrap64 (((rd_T36 l0 x10_1).f2) - (wrap64 ((wrap64 (a1 + 1)) - (rd t200 a1))))), .int .i64 (wrap64 (((rd_T36 l0 x10_1).f3) - (wrap64 ((wrap64 (a1 + 1)) - (rd t200 a1))))), .int .i64 ((rd_T36 l0 x10_1).f4)] 36 (0, 0)) ∧ Kd.R k36 36 wz w.heap.size (fun k_ => k_ ≠ gb209) u9 x9_1 ∧ Below w.heap.size w wz) ⟨(by (with_reducible repeat (first | refine blk_drewN ?_ _ | refine blk_drew ?_ | refine blk_alloc ?_ _)); refine blk_put (cs := #[.int .u8 ((rd_T36 l0 x10_1).f0), .int .i64 ((rd_T36 l0 x10_1).f1), .int .i64 (wrap64 (((rd_T36 l0 x10_1).f2) - (wrap64 ((wrap64 (a1 + 1)) - (rd t200 a1))))), .int .i64 ((rd_T36 l0 x10_1).f3), .int .i64 ((rd_T36 l0 x10_1).f4)]) ?_ 3 _ rfl; (with_reducible repeat (first | refine blk_drewN ?_ _ | refine blk_drew ?_ | refine blk_alloc ?_ _)); refine blk_put (cs := #[.int .u8 ((rd_T36 l0 x10_1).f0), .int .i64 ((rd_T36 l0 x10_1).f1), .int .i64 ((rd_T36 l0 x10_1).f2), .int .i64 ((rd_T36 l0 x10_1).f3), .int .i64 ((rd_T36 l0 x10_1).f4)]) ?_ 2 _ rfl; (with_reducible repeat (first | refine blk_drewN ?_ _ | refine blk_drew ?_ | refine blk_alloc ?_ _)); refine blk_put (cs := #[.int .u8 ((rd_T36 l0 x10_1).f0), .int .i64 ((rd_T36 l0 x10_1).f1), .int .i64 ((rd_T36 l0 x10_1).f2), .int .i64 ((rd_T36 l0 x10_1).f3), .int .i64 0]) ?_ 4 _ rfl; (with_reducible repeat (first | refine blk_drewN ?_ _ | refine blk_drew ?_ | refine blk_alloc ?_ _)); refine blk_put (cs := #[.int .u8 ((rd_T36 l0 x10_1).f0), .int .i64 ((rd_T36 l0 x10_1).f1), .int .i64 ((rd_T36 l0 x10_1).f2), .int .i64 0, .int .i64 0]) ?_ 3 _ rfl; (with_reducible repeat (first | refine blk_drewN ?_ _ | refine blk_drew ?_ | refine blk_alloc ?_ _)); refine blk_put (cs := #[.int .u8 ((rd_T36 l0 x10_1).f0), .int .i64 ((rd_T36 l0 x10_1).f1), .int .i64 0, .int .i64 0, .int .i64 0]) ?_ 2 _ rfl; (with_reducible repeat (first | refine blk_drewN ?_ _ | refine blk_drew ?_ | refine blk_alloc ?_ _)); refine blk_put (cs := #[.int .u8 ((rd_T36 l0 x10_1).f0), .int .i64 0, .int .i64 0, .int .i64 0, .int .i64 0]) ?_ 1 _ rfl; (with_reducible repeat (first | refine blk_drewN ?_ _ | refine blk_drew ?_ | refine blk_alloc ?_ _)); refine blk_put (cs := #[.int .u8 0, .int .i64 0, .int .i64 0, .int .i64 0, .int .i64 0]) ?_ 0 _ rfl; (with_reducible repeat (first | refine blk_drewN ?_ _ | refine blk_drew ?_ | refine blk_alloc ?_ _)); exact BK209.out), (by refine Kd.R_mono (ok := fun k_ => (True ∧ k_ ≠ gb209) ∧ k_ ≠ gb209) ?_ (fun _ hk => hk.2); (repeat (first | (with_reducible refine Kd.R_drewN ?_ _) | (with_reducible refine Kd.R_far ?_ (fun _ hk => hk.2) _))); exact Kd.R_mono HO_9.out (fun k_ hk => ⟨hk, hk.2⟩)), (by repeat (first | (with_reducible first | exact HB.out | apply below_alloc | apply pw_below_drewN | apply below_drew1 | refine below_set ?_ GE209.out) | exact HB.out))⟩ ?_
                      clear HB BK209
                      intro wz ⟨bz_, oz_, hz_⟩
                      have BK209 := Aside0.mk bz_
                      have HOz := Aside0.mk oz_
                      have HB := Aside0.mk hz_
                      clear bz_ oz_ hz_
                      have hczz_0 : wz.cell? ⟨gb209, 0, none⟩ = some (.int .u8 ((rd_T36 l0 x10_1).f0)) := (blk_cell BK209.out 0).trans rfl
                      have hczz_1 : wz.cell? ⟨gb209, 1, none⟩ = some (.int .i64 ((rd_T36 l0 x10_1).f1)) := (blk_cell BK209.out 1).trans rfl
                      have hczz_2 : wz.cell? ⟨gb209, 2, none⟩ = some (.int .i64 (wrap64 (((rd_T36 l0 x10_1).f2) - (wrap64 ((wrap64 (a1 + 1)) - (rd t200 a1)))))) := (blk_cell BK209.out 2).trans rfl
                      have hczz_3 : wz.cell? ⟨gb209, 3, none⟩ = some (.int .i64 (wrap64 (((rd_T36 l0 x10_1).f3) - (wrap64 ((wrap64 (a1 + 1)) - (rd t200 a1)))))) := (blk_cell BK209.out 3).trans rfl
                      have hczz_4 : wz.cell? ⟨gb209, 4, none⟩ = some (.int .i64 ((rd_T36 l0 x10_1).f4)) := (blk_cell BK209.out 4).trans rfl
                      have hfzz_0 := blk_frozen BK209.out 0
                      have hfzz_1 := blk_frozen BK209.out 1
                      have hfzz_2 := blk_frozen BK209.out 2
                      have hfzz_3 := blk_frozen BK209.out 3
                      have hfzz_4 := blk_frozen BK209.out 4
                      go_wp2_with (first | ((with_reducible refine gate_builtin (b := .append) (xs := #[.tmp 53, .tmp 55]) rfl ?_); at_builtin; refine Kd.R_append k36 (w0 := w) w.heap.size rfl (.tmp 53) (.tmp 55) 22 36 (.agg #[(.int .u8 0), (.int .i64 0), (.int .i64 0), (.int .i64 0), (.int .i64 0)]) 40 rfl Try.underlying22 info36 rfl (by decide) (by omega) u9 x9_1 (⟨(rd_T36 l0 x10_1).f0, (rd_T36 l0 x10_1).f1, wrap64 (((rd_T36 l0 x10_1).f2) - (wrap64 ((wrap64 (a1 + 1)) - (rd t200 a1)))), wrap64 (((rd_T36 l0 x10_1).f3) - (wrap64 ((wrap64 (a1 + 1)) - (rd t200 a1)))), (rd_T36 l0 x10_1).f4⟩ : S36) [.int .u8 ((rd_T36 l0 x10_1).f0), .int .i64 ((rd_T36 l0 x10_1).f1), .int .i64 (wrap64 (((rd_T36 l0 x10_1).f2) - (wrap64 ((wrap64 (a1 + 1)) - (rd t200 a1))))), .int .i64 (wrap64 (((rd_T36 l0 x10_1).f3) - (wrap64 ((wrap64 (a1 + 1)) - (rd t200 a1))))), .int .i64 ((rd_T36 l0 x10_1).f4)] (fun k_ => k_ ≠ gb209) (fun _ => False) rfl (by first | (go_simp; done) | (go_simp; rfl)) ?aP (fun _ hk => hk.elim) ?aF ?aO ?aB ?aS ?aL ?_; (case aP => exact k36_mkM _ _ _ (⟨(rd_T36 l0 x10_1).f0, (rd_T36 l0 x10_1).f1, wrap64 (((rd_T36 l0 x10_1).f2) - (wrap64 ((wrap64 (a1 + 1)) - (rd t200 a1)))), wrap64 (((rd_T36 l0 x10_1).f3) - (wrap64 ((wrap64 (a1 + 1)) - (rd t200 a1)))), (rd_T36 l0 x10_1).f4⟩ : S36)); (case aB => exact (by repeat (first | (with_reducible first | exact HB.out | apply below_alloc | apply pw_below_drewN | apply below_drew1 | refine below_set ?_ GE209.out) | exact HB.out))); (case aF => exact (fun k_ hk => Kd.freshB (g := gb209) (o := .cells #[.int .u8 ((rd_T36 l0 x10_1).f0), .int .i64 ((rd_T36 l0 x10_1).f1), .int .i64 (wrap64 (((rd_T36 l0 x10_1).f2) - (wrap64 ((wrap64 (a1 + 1)) - (rd t200 a1))))), .int .i64 (wrap64 (((rd_T36 l0 x10_1).f3) - (wrap64 ((wrap64 (a1 + 1)) - (rd t200 a1))))), .int .i64 ((rd_T36 l0 x10_1).f4)] 36 (0, 0)) BK209.out k_ hk)); (case aO => exact Kd.R_mono HOz.out (fun _ hk => hk)); (case aS => exact (below_size (by repeat (first | (with_reducible first | exact HB.out | apply below_alloc | apply pw_below_drewN | apply below_drew1 | refine below_set ?_ GE209.out) | exact HB.out)))); (case aL => have := LMc15.out; omega); intro v213 w18 ho hb hg hat; rw [← Ny212.out] at ho; have n0_ := Aside0.mk (blk_grown (g := gb209) (o := .cells #[.int .u8 ((rd_T36 l0 x10_1).f0), .int .i64 ((rd_T36 l0 x10_1).f1), .int .i64 (wrap64 (((rd_T36 l0 x10_1).f2) - (wrap64 ((wrap64 (a1 + 1)) - (rd t200 a1))))), .int .i64 (wrap64 (((rd_T36 l0 x10_1).f3) - (wrap64 ((wrap64 (a1 + 1)) - (rd t200 a1))))), .int .i64 ((rd_T36 l0 x10_1).f4)] 36 (0, 0)) BK209.out hg (Kd.R_away HO_9.out (fun _ hk => hk.2))); have n1_ := Aside0.mk (hb); have n2_ := Aside0.mk (ho); clear BK209; clear HB; clear HO_9; have BK209 := n0_; have HB := n1_; have HO214 := n2_; clear n0_ n1_ n2_; clear ho hb hg hat))
                      go_roundg k1
                      case measure => have := HK1.out; omega
                      case rel => exact ⟨(y212), (wrap64 (x10_1 + 1)), (by first | rfl | (simp; done) | (simp [*]; done)), H', ⟨by have := HK1.out; omega⟩, ⟨by (with_reducible repeat (first | apply Kd.R_alloc | apply Kd.R_drewN | apply Kd.R_drew)); exact Kd.R_mono HO214.out (fun _ hk => trivial)⟩, ⟨by repeat (first | (with_reducible first | exact HB.out | apply below_alloc | apply pw_below_drewN | apply below_drew1 | refine below_set ?_ GE209.out) | exact HB.out)⟩⟩
                    · rw [if_neg c15] at H
                      exact absurd H (by simp)
                  · rw [if_neg c14] at H
                    have c14b0 : decide (1 < t211) = false := decide_eq_false c14
                    clear c14
                    by_cases c19 : x9_1.length < 3518437208883
                    · rw [if_pos c19] at H
                      have LMc19 := Aside0.mk c19
                      clear c19
                      obtain ⟨y215, hy215⟩ : ∃ y_ : List (S36), y_ = (x9_1 ++ [(⟨(rd_T36 l0 x10_1).f0, (rd_T36 l0 x10_1).f1, wrap64 (((rd_T36 l0 x10_1).f2) - (wrap64 ((wrap64 (a1 + 1)) - (rd t200 a1)))), (rd_T36 l0 x10_1).f3, (rd_T36 l0 x10_1).f4⟩ : S36)]) := ⟨_, rfl⟩
                      replace H : (tailwaterref04_Cut.l0 k1 l0 a1 (wrap64 ((wrap64 (a1 + 1)) - (rd t200 a1))) y215 (wrap64 (x10_1 + 1))) = some r := by first | (rw [hy215]; with_reducible exact H) | (have H2_ := (Option.bind_some _ _).symm.trans H; rw [hy215]; with_reducible exact H2_) | (have H2_ := (Option.bind_some _ _).symm.trans H; with_reducible exact H2_) | with_reducible exact H | (rw [hy215]; exact H) | exact H
                      have Ny215 := Aside0.mk hy215
                      clear hy215
                      have H' := Aside0.mk H
                      clear H
                      have p208 : 0 ≤ (x10_1 : Int) := of_decide_eq_true (by first | (with_reducible assumption) | assumption)
                      have q208 : x10_1 < (l0.length : Int) := of_decide_eq_true (by first | (with_reducible assumption) | assumption)
                      obtain ⟨ad208, e208, hx208_0, hx208_1, hx208_2, hx208_3, hx208_4⟩ := at_T36 HR0.out x10_1 p208 q208
                      cases e208
                      replace hx208_0 := (HB.out.cell (World.block_lt_of_cell? w _ hx208_0)).trans hx208_0
                      replace hx208_1 := (HB.out.cell (World.block_lt_of_cell? w _ hx208_1)).trans hx208_1
                      replace hx208_2 := (HB.out.cell (World.block_lt_of_cell? w _ hx208_2)).trans hx208_2
                      replace hx208_3 := (HB.out.cell (World.block_lt_of_cell? w _ hx208_3)).trans hx208_3
                      replace hx208_4 := (HB.out.cell (World.block_lt_of_cell? w _ hx208_4)).trans hx208_4
                      replace p208 := eq_true p208
                      replace q208 := eq_true q208
                      go_upto_region 12 with (first | ((with_reducible refine gate_dst (N := 11) rfl ?_); refine box_event ?hg (N := 11) ?hd (cs := #[.int .u8 0, .int .i64 0, .int .i64 0, .int .i64 0, .int .i64 0]) (t := 36) ?hr ?_; (case hd => rfl); (case hg => rfl); (case hr => first | (go_simp; done) | (go_simp; rfl)); intro gb209 hg w20 hbox hb; have n0_ := Aside0.mk (Kd.R_below (Kd.R_elderB (by (with_reducible repeat (first | apply Kd.R_alloc | apply Kd.R_drewN | apply Kd.R_drew)); exact HO_9.out) gb209 (Nat.le_of_eq hg.symm)) hb); have n1_ := Aside0.mk (below_step (by repeat (first | (with_reducible first | exact HB.out | apply below_alloc | apply pw_below_drewN | apply below_drew1) | exact HB.out)) hb); have n2_ := Aside0.mk (hbox); have n3_ := Aside0.mk ((by rw [hg]; exact (below_size (by repeat (first | (with_reducible first | exact HB.out | apply below_alloc | apply pw_below_drewN | apply below_drew1) | exact HB.out))) : w.heap.size ≤ gb209)); have n4_ := Aside0.mk ((by rw [hg]; exact (below_size (by repeat (first | (with_reducible first | exact HB.out | apply below_alloc | apply pw_below_drewN | apply below_drew1) | exact HB.out))) : w.heap.size ≤ gb209)); clear HO_9; clear HB; have HO_9 := n0_; have HB := n1_; have BK209 := n2_; have GW209 := n3_; have GE209 := n4_; clear n0_ n1_ n2_ n3_ n4_; clear hb hbox hg; have hcz21_0 : w20.cell? ⟨gb209, 0, none⟩ = some (.int .u8 0) := (blk_cell BK209.out 0).trans rfl; have hcz21_1 : w20.cell? ⟨gb209, 1, none⟩ = some (.int .i64 0) := (blk_cell BK209.out 1).trans rfl; have hcz21_2 : w20.cell? ⟨gb209, 2, none⟩ = some (.int .i64 0) := (blk_cell BK209.out 2).trans rfl; have hcz21_3 : w20.cell? ⟨gb209, 3, none⟩ = some (.int .i64 0) := (blk_cell BK209.out 3).trans rfl; have hcz21_4 : w20.cell? ⟨gb209, 4, none⟩ = some (.int .i64 0) := (blk_cell BK209.out 4).trans rfl; have hfz21_0 := blk_frozen BK209.out 0; have hfz21_1 := blk_frozen BK209.out 1; have hfz21_2 := blk_frozen BK209.out 2; have hfz21_3 := blk_frozen BK209.out 3; have hfz21_4 := blk_frozen BK209.out 4) | ((with_reducible refine gate_callee (f := 63) rfl ?_); refine goesL_ (some 37) rfl rfl Try.func63 (by kernel_rfl) rfl #[.int .u8 ((rd_T36 l0 x10_1).f0)] rfl (by (try simp only [List.map_toArray, List.map_cons, List.map_nil]); first | done | rfl | (simp only [List.length_drop, List.length_take]; rfl)) ?_; (with_reducible refine (tailwaterref04_Count.calls ((rd_T36 l0 x10_1).f0) t210 _ A11.out).mono ?_); rintro e w' ⟨rfl, ⟨nd, rfl⟩⟩; refine ⟨_, rfl, ?_⟩) | ((with_reducible refine gate_callee (f := 63) rfl ?_); refine goesL_ (some 46) rfl rfl Try.func63 (by kernel_rfl) rfl #[.int .u8 ((rd_T36 l0 x10_1).f0)] rfl (by (try simp only [List.map_toArray, List.map_cons, List.map_nil]); first | done | rfl | (simp only [List.length_drop, List.length_take]; rfl)) ?_; (with_reducible refine (tailwaterref04_Count.calls ((rd_T36 l0 x10_1).f0) t211 _ A13.out).mono ?_); rintro e w' ⟨rfl, ⟨nd, rfl⟩⟩; refine ⟨_, rfl, ?_⟩))
                      refine gen_wp (fun wz => wz.heap[gb209]? = some (.cells #[.int .u8 ((rd_T36 l0 x10_1).f0), .int .i64 ((rd_T36 l0 x10_1).f1), .int .i64 (wrap64 (((rd_T36 l0 x10_1).f2) - (wrap64 ((wrap64 (a1 + 1)) - (rd t200 a1))))), .int .i64 ((rd_T36 l0 x10_1).f3), .int .i64 ((rd_T36 l0 x10_1).f4)] 36 (0, 0)) ∧ Kd.R k36 36 wz w.heap.size (fun k_ => k_ ≠ gb209) u9 x9_1 ∧ Below w.heap.size w wz) ⟨(by (with_reducible repeat (first | refine blk_drewN ?_ _ | refine blk_drew ?_ | refine blk_alloc ?_ _)); refine blk_put (cs := #[.int .u8 ((rd_T36 l0 x10_1).f0), .int .i64 ((rd_T36 l0 x10_1).f1), .int .i64 ((rd_T36 l0 x10_1).f2), .int .i64 ((rd_T36 l0 x10_1).f3), .int .i64 ((rd_T36 l0 x10_1).f4)]) ?_ 2 _ rfl; (with_reducible repeat (first | refine blk_drewN ?_ _ | refine blk_drew ?_ | refine blk_alloc ?_ _)); refine blk_put (cs := #[.int .u8 ((rd_T36 l0 x10_1).f0), .int .i64 ((rd_T36 l0 x10_1).f1), .int .i64 ((rd_T36 l0 x10_1).f2), .int .i64 ((rd_T36 l0 x10_1).f3), .int .i64 0]) ?_ 4 _ rfl; (with_reducible repeat (first | refine blk_drewN ?_ _ | refine blk_drew ?_ | refine blk_alloc ?_ _)); refine blk_put (cs := #[.int .u8 ((rd_T36 l0 x10_1).f0), .int .i64 ((rd_T36 l0 x10_1).f1), .int .i64 ((rd_T36 l0 x10_1).f2), .int .i64 0, .int .i64 0]) ?_ 3 _ rfl; (with_reducible repeat (first | refine blk_drewN ?_ _ | refine blk_drew ?_ | refine blk_alloc ?_ _)); refine blk_put (cs := #[.int .u8 ((rd_T36 l0 x10_1).f0), .int .i64 ((rd_T36 l0 x10_1).f1), .int .i64 0, .int .i64 0, .int .i64 0]) ?_ 2 _ rfl; (with_reducible repeat (first | refine blk_drewN ?_ _ | refine blk_drew ?_ | refine blk_alloc ?_ _)); refine blk_put (cs := #[.int .u8 ((rd_T36 l0 x10_1).f0), .int .i64 0, .int .i64 0, .int .i64 0, .int .i64 0]) ?_ 1 _ rfl; (with_reducible repeat (first | refine blk_drewN ?_ _ | refine blk_drew ?_ | refine blk_alloc ?_ _)); refine blk_put (cs := #[.int .u8 0, .int .i64 0, .int .i64 0, .int .i64 0, .int .i64 0]) ?_ 0 _ rfl; (with_reducible repeat (first | refine blk_drewN ?_ _ | refine blk_drew ?_ | refine blk_alloc ?_ _)); exact BK209.out), (by refine Kd.R_mono (ok := fun k_ => (True ∧ k_ ≠ gb209) ∧ k_ ≠ gb209) ?_ (fun _ hk => hk.2); (repeat (first | (with_reducible refine Kd.R_drewN ?_ _) | (with_reducible refine Kd.R_far ?_ (fun _ hk => hk.2) _))); exact Kd.R_mono HO_9.out (fun k_ hk => ⟨hk, hk.2⟩)), (by repeat (first | (with_reducible first | exact HB.out | apply below_alloc | apply pw_below_drewN | apply below_drew1 | refine below_set ?_ GE209.out) | exact HB.out))⟩ ?_
                      clear HB BK209
                      intro wz ⟨bz_, oz_, hz_⟩
                      have BK209 := Aside0.mk bz_
                      have HOz := Aside0.mk oz_
                      have HB := Aside0.mk hz_
                      clear bz_ oz_ hz_
                      have hczz_0 : wz.cell? ⟨gb209, 0, none⟩ = some (.int .u8 ((rd_T36 l0 x10_1).f0)) := (blk_cell BK209.out 0).trans rfl
                      have hczz_1 : wz.cell? ⟨gb209, 1, none⟩ = some (.int .i64 ((rd_T36 l0 x10_1).f1)) := (blk_cell BK209.out 1).trans rfl
                      have hczz_2 : wz.cell? ⟨gb209, 2, none⟩ = some (.int .i64 (wrap64 (((rd_T36 l0 x10_1).f2) - (wrap64 ((wrap64 (a1 + 1)) - (rd t200 a1)))))) := (blk_cell BK209.out 2).trans rfl
                      have hczz_3 : wz.cell? ⟨gb209, 3, none⟩ = some (.int .i64 ((rd_T36 l0 x10_1).f3)) := (blk_cell BK209.out 3).trans rfl
                      have hczz_4 : wz.cell? ⟨gb209, 4, none⟩ = some (.int .i64 ((rd_T36 l0 x10_1).f4)) := (blk_cell BK209.out 4).trans rfl
                      have hfzz_0 := blk_frozen BK209.out 0
                      have hfzz_1 := blk_frozen BK209.out 1
                      have hfzz_2 := blk_frozen BK209.out 2
                      have hfzz_3 := blk_frozen BK209.out 3
                      have hfzz_4 := blk_frozen BK209.out 4
                      go_wp2_with (first | ((with_reducible refine gate_builtin (b := .append) (xs := #[.tmp 53, .tmp 55]) rfl ?_); at_builtin; refine Kd.R_append k36 (w0 := w) w.heap.size rfl (.tmp 53) (.tmp 55) 22 36 (.agg #[(.int .u8 0), (.int .i64 0), (.int .i64 0), (.int .i64 0), (.int .i64 0)]) 40 rfl Try.underlying22 info36 rfl (by decide) (by omega) u9 x9_1 (⟨(rd_T36 l0 x10_1).f0, (rd_T36 l0 x10_1).f1, wrap64 (((rd_T36 l0 x10_1).f2) - (wrap64 ((wrap64 (a1 + 1)) - (rd t200 a1)))), (rd_T36 l0 x10_1).f3, (rd_T36 l0 x10_1).f4⟩ : S36) [.int .u8 ((rd_T36 l0 x10_1).f0), .int .i64 ((rd_T36 l0 x10_1).f1), .int .i64 (wrap64 (((rd_T36 l0 x10_1).f2) - (wrap64 ((wrap64 (a1 + 1)) - (rd t200 a1))))), .int .i64 ((rd_T36 l0 x10_1).f3), .int .i64 ((rd_T36 l0 x10_1).f4)] (fun k_ => k_ ≠ gb209) (fun _ => False) rfl (by first | (go_simp; done) | (go_simp; rfl)) ?aP (fun _ hk => hk.elim) ?aF ?aO ?aB ?aS ?aL ?_; (case aP => exact k36_mkM _ _ _ (⟨(rd_T36 l0 x10_1).f0, (rd_T36 l0 x10_1).f1, wrap64 (((rd_T36 l0 x10_1).f2) - (wrap64 ((wrap64 (a1 + 1)) - (rd t200 a1)))), (rd_T36 l0 x10_1).f3, (rd_T36 l0 x10_1).f4⟩ : S36)); (case aB => exact (by repeat (first | (with_reducible first | exact HB.out | apply below_alloc | apply pw_below_drewN | apply below_drew1 | refine below_set ?_ GE209.out) | exact HB.out))); (case aF => exact (fun k_ hk => Kd.freshB (g := gb209) (o := .cells #[.int .u8 ((rd_T36 l0 x10_1).f0), .int .i64 ((rd_T36 l0 x10_1).f1), .int .i64 (wrap64 (((rd_T36 l0 x10_1).f2) - (wrap64 ((wrap64 (a1 + 1)) - (rd t200 a1))))), .int .i64 ((rd_T36 l0 x10_1).f3), .int .i64 ((rd_T36 l0 x10_1).f4)] 36 (0, 0)) BK209.out k_ hk)); (case aO => exact Kd.R_mono HOz.out (fun _ hk => hk)); (case aS => exact (below_size (by repeat (first | (with_reducible first | exact HB.out | apply below_alloc | apply pw_below_drewN | apply below_drew1 | refine below_set ?_ GE209.out) | exact HB.out)))); (case aL => have := LMc19.out; omega); intro v216 w22 ho hb hg hat; rw [← Ny215.out] at ho; have n0_ := Aside0.mk (blk_grown (g := gb209) (o := .cells #[.int .u8 ((rd_T36 l0 x10_1).f0), .int .i64 ((rd_T36 l0 x10_1).f1), .int .i64 (wrap64 (((rd_T36 l0 x10_1).f2) - (wrap64 ((wrap64 (a1 + 1)) - (rd t200 a1))))), .int .i64 ((rd_T36 l0 x10_1).f3), .int .i64 ((rd_T36 l0 x10_1).f4)] 36 (0, 0)) BK209.out hg (Kd.R_away HO_9.out (fun _ hk => hk.2))); have n1_ := Aside0.mk (hb); have n2_ := Aside0.mk (ho); clear BK209; clear HB; clear HO_9; have BK209 := n0_; have HB := n1_; have HO217 := n2_; clear n0_ n1_ n2_; clear ho hb hg hat))
                      go_roundg k1
                      case measure => have := HK1.out; omega
                      case rel => exact ⟨(y215), (wrap64 (x10_1 + 1)), (by first | rfl | (simp; done) | (simp [*]; done)), H', ⟨by have := HK1.out; omega⟩, ⟨by (with_reducible repeat (first | apply Kd.R_alloc | apply Kd.R_drewN | apply Kd.R_drew)); exact Kd.R_mono HO217.out (fun _ hk => trivial)⟩, ⟨by repeat (first | (with_reducible first | exact HB.out | apply below_alloc | apply pw_below_drewN | apply below_drew1 | refine below_set ?_ GE209.out) | exact HB.out)⟩⟩
                    · rw [if_neg c19] at H
                      exact absurd H (by simp)
                · rw [if_neg c12] at H
                  have c12b0 : decide (0 < t210) = false := decide_eq_false c12
                  clear c12
                  replace H := Option.bind_eq_some_iff.mp H
                  obtain ⟨t218, A230, H⟩ := H
                  replace H : (if t218 > 1 then (if x9_1.length < 3518437208883 then (tailwaterref04_Cut.l0 k1 l0 a1 (wrap64 ((wrap64 (a1 + 1)) - (rd t200 a1))) (x9_1 ++ [(⟨(rd_T36 l0 x10_1).f0, (rd_T36 l0 x10_1).f1, (rd_T36 l0 x10_1).f2, wrap64 (((rd_T36 l0 x10_1).f3) - (wrap64 ((wrap64 (a1 + 1)) - (rd t200 a1)))), (rd_T36 l0 x10_1).f4⟩ : S36)]) (wrap64 (x10_1 + 1))) else (none)) else (if x9_1.length < 3518437208883 then (tailwaterref04_Cut.l0 k1 l0 a1 (wrap64 ((wrap64 (a1 + 1)) - (rd t200 a1))) (x9_1 ++ [(⟨(rd_T36 l0 x10_1).f0, (rd_T36 l0 x10_1).f1, (rd_T36 l0 x10_1).f2, (rd_T36 l0 x10_1).f3, (rd_T36 l0 x10_1).f4⟩ : S36)]) (wrap64 (x10_1 + 1))) else (none))) = some r := H
                  have A23 := Aside0.mk A230
                  clear A230
                  by_cases c24 : t218 > 1
                  · rw [if_pos c24] at H
                    have c24b0 : decide (1 < t218) = true := decide_eq_true c24
                    clear c24
                    by_cases c25 : x9_1.length < 3518437208883
                    · rw [if_pos c25] at H
                      have LMc25 := Aside0.mk c25
                      clear c25
                      obtain ⟨y219, hy219⟩ : ∃ y_ : List (S36), y_ = (x9_1 ++ [(⟨(rd_T36 l0 x10_1).f0, (rd_T36 l0 x10_1).f1, (rd_T36 l0 x10_1).f2, wrap64 (((rd_T36 l0 x10_1).f3) - (wrap64 ((wrap64 (a1 + 1)) - (rd t200 a1)))), (rd_T36 l0 x10_1).f4⟩ : S36)]) := ⟨_, rfl⟩
                      replace H : (tailwaterref04_Cut.l0 k1 l0 a1 (wrap64 ((wrap64 (a1 + 1)) - (rd t200 a1))) y219 (wrap64 (x10_1 + 1))) = some r := by first | (rw [hy219]; with_reducible exact H) | (have H2_ := (Option.bind_some _ _).symm.trans H; rw [hy219]; with_reducible exact H2_) | (have H2_ := (Option.bind_some _ _).symm.trans H; with_reducible exact H2_) | with_reducible exact H | (rw [hy219]; exact H) | exact H
                      have Ny219 := Aside0.mk hy219
                      clear hy219
                      have H' := Aside0.mk H
                      clear H
                      have p208 : 0 ≤ (x10_1 : Int) := of_decide_eq_true (by first | (with_reducible assumption) | assumption)
                      have q208 : x10_1 < (l0.length : Int) := of_decide_eq_true (by first | (with_reducible assumption) | assumption)
                      obtain ⟨ad208, e208, hx208_0, hx208_1, hx208_2, hx208_3, hx208_4⟩ := at_T36 HR0.out x10_1 p208 q208
                      cases e208
                      replace hx208_0 := (HB.out.cell (World.block_lt_of_cell? w _ hx208_0)).trans hx208_0
                      replace hx208_1 := (HB.out.cell (World.block_lt_of_cell? w _ hx208_1)).trans hx208_1
                      replace hx208_2 := (HB.out.cell (World.block_lt_of_cell? w _ hx208_2)).trans hx208_2
                      replace hx208_3 := (HB.out.cell (World.block_lt_of_cell? w _ hx208_3)).trans hx208_3
                      replace hx208_4 := (HB.out.cell (World.block_lt_of_cell? w _ hx208_4)).trans hx208_4
                      replace p208 := eq_true p208
                      replace q208 := eq_true q208
                      go_upto_region 12 with (first | ((with_reducible refine gate_dst (N := 11) rfl ?_); refine box_event ?hg (N := 11) ?hd (cs := #[.int .u8 0, .int .i64 0, .int .i64 0, .int .i64 0, .int .i64 0]) (t := 36) ?hr ?_; (case hd => rfl); (case hg => rfl); (case hr => first | (go_simp; done) | (go_simp; rfl)); intro gb209 hg w26 hbox hb; have n0_ := Aside0.mk (Kd.R_below (Kd.R_elderB (by (with_reducible repeat (first | apply Kd.R_alloc | apply Kd.R_drewN | apply Kd.R_drew)); exact HO_9.out) gb209 (Nat.le_of_eq hg.symm)) hb); have n1_ := Aside0.mk (below_step (by repeat (first | (with_reducible first | exact HB.out | apply below_alloc | apply pw_below_drewN | apply below_drew1) | exact HB.out)) hb); have n2_ := Aside0.mk (hbox); have n3_ := Aside0.mk ((by rw [hg]; exact (below_size (by repeat (first | (with_reducible first | exact HB.out | apply below_alloc | apply pw_below_drewN | apply below_drew1) | exact HB.out))) : w.heap.size ≤ gb209)); have n4_ := Aside0.mk ((by rw [hg]; exact (below_size (by repeat (first | (with_reducible first | exact HB.out | apply below_alloc | apply pw_below_drewN | apply below_drew1) | exact HB.out))) : w.heap.size ≤ gb209)); clear HO_9; clear HB; have HO_9 := n0_; have HB := n1_; have BK209 := n2_; have GW209 := n3_; have GE209 := n4_; clear n0_ n1_ n2_ n3_ n4_; clear hb hbox hg; have hcz27_0 : w26.cell? ⟨gb209, 0, none⟩ = some (.int .u8 0) := (blk_cell BK209.out 0).trans rfl; have hcz27_1 : w26.cell? ⟨gb209, 1, none⟩ = some (.int .i64 0) := (blk_cell BK209.out 1).trans rfl; have hcz27_2 : w26.cell? ⟨gb209, 2, none⟩ = some (.int .i64 0) := (blk_cell BK209.out 2).trans rfl; have hcz27_3 : w26.cell? ⟨gb209, 3, none⟩ = some (.int .i64 0) := (blk_cell BK209.out 3).trans rfl; have hcz27_4 : w26.cell? ⟨gb209, 4, none⟩ = some (.int .i64 0) := (blk_cell BK209.out 4).trans rfl; have hfz27_0 := blk_frozen BK209.out 0; have hfz27_1 := blk_frozen BK209.out 1; have hfz27_2 := blk_frozen BK209.out 2; have hfz27_3 := blk_frozen BK209.out 3; have hfz27_4 := blk_frozen BK209.out 4) | ((with_reducible refine gate_callee (f := 63) rfl ?_); refine goesL_ (some 37) rfl rfl Try.func63 (by kernel_rfl) rfl #[.int .u8 ((rd_T36 l0 x10_1).f0)] rfl (by (try simp only [List.map_toArray, List.map_cons, List.map_nil]); first | done | rfl | (simp only [List.length_drop, List.length_take]; rfl)) ?_; (with_reducible refine (tailwaterref04_Count.calls ((rd_T36 l0 x10_1).f0) t210 _ A11.out).mono ?_); rintro e w' ⟨rfl, ⟨nd, rfl⟩⟩; refine ⟨_, rfl, ?_⟩) | ((with_reducible refine gate_callee (f := 63) rfl ?_); refine goesL_ (some 46) rfl rfl Try.func63 (by kernel_rfl) rfl #[.int .u8 ((rd_T36 l0 x10_1).f0)] rfl (by (try simp only [List.map_toArray, List.map_cons, List.map_nil]); first | done | rfl | (simp only [List.length_drop, List.length_take]; rfl)) ?_; (with_reducible refine (tailwaterref04_Count.calls ((rd_T36 l0 x10_1).f0) t218 _ A23.out).mono ?_); rintro e w' ⟨rfl, ⟨nd, rfl⟩⟩; refine ⟨_, rfl, ?_⟩))
                      refine gen_wp (fun wz => wz.heap[gb209]? = some (.cells #[.int .u8 ((rd_T36 l0 x10_1).f0), .int .i64 ((rd_T36 l0 x10_1).f1), .int .i64 ((rd_T36 l0 x10_1).f2), .int .i64 (wrap64 (((rd_T36 l0 x10_1).f3) - (wrap64 ((wrap64 (a1 + 1)) - (rd t200 a1))))), .int .i64 ((rd_T36 l0 x10_1).f4)] 36 (0, 0)) ∧ Kd.R k36 36 wz w.heap.size (fun k_ => k_ ≠ gb209) u9 x9_1 ∧ Below w.heap.size w wz) ⟨(by (with_reducible repeat (first | refine blk_drewN ?_ _ | refine blk_drew ?_ | refine blk_alloc ?_ _)); refine blk_put (cs := #[.int .u8 ((rd_T36 l0 x10_1).f0), .int .i64 ((rd_T36 l0 x10_1).f1), .int .i64 ((rd_T36 l0 x10_1).f2), .int .i64 ((rd_T36 l0 x10_1).f3), .int .i64 ((rd_T36 l0 x10_1).f4)]) ?_ 3 _ rfl; (with_reducible repeat (first | refine blk_drewN ?_ _ | refine blk_drew ?_ | refine blk_alloc ?_ _)); refine blk_put (cs := #[.int .u8 ((rd_T36 l0 x10_1).f0), .int .i64 ((rd_T36 l0 x10_1).f1), .int .i64 ((rd_T36 l0 x10_1).f2), .int .i64 ((rd_T36 l0 x10_1).f3), .int .i64 0]) ?_ 4 _ rfl; (with_reducible repeat (first | refine blk_drewN ?_ _ | refine blk_drew ?_ | refine blk_alloc ?_ _)); refine blk_put (cs := #[.int .u8 ((rd_T36 l0 x10_1).f0), .int .i64 ((rd_T36 l0 x10_1).f1), .int .i64 ((rd_T36 l0 x10_1).f2), .int .i64 0, .int .i64 0]) ?_ 3 _ rfl; (with_reducible repeat (first | refine blk_drewN ?_ _ | refine blk_drew ?_ | refine blk_alloc ?_ _)); refine blk_put (cs := #[.int .u8 ((rd_T36 l0 x10_1).f0), .int .i64 ((rd_T36 l0 x10_1).f1), .int .i64 0, .int .i64 0, .int .i64 0]) ?_ 2 _ rfl; (with_reducible repeat (first | refine blk_drewN ?_ _ | refine blk_drew ?_ | refine blk_alloc ?_ _)); refine blk_put (cs := #[.int .u8 ((rd_T36 l0 x10_1).f0), .int .i64 0, .int .i64 0, .int .i64 0, .int .i64 0]) ?_ 1 _ rfl; (with_reducible repeat (first | refine blk_drewN ?_ _ | refine blk_drew ?_ | refine blk_alloc ?_ _)); refine blk_put (cs := #[.int .u8 0, .int .i64 0, .int .i64 0, .int .i64 0, .int .i64 0]) ?_ 0 _ rfl; (with_reducible repeat (first | refine blk_drewN ?_ _ | refine blk_drew ?_ | refine blk_alloc ?_ _)); exact BK209.out), (by refine Kd.R_mono (ok := fun k_ => (True ∧ k_ ≠ gb209) ∧ k_ ≠ gb209) ?_ (fun _ hk => hk.2); (repeat (first | (with_reducible refine Kd.R_drewN ?_ _) | (with_reducible refine Kd.R_far ?_ (fun _ hk => hk.2) _))); exact Kd.R_mono HO_9.out (fun k_ hk => ⟨hk, hk.2⟩)), (by repeat (first | (with_reducible first | exact HB.out | apply below_alloc | apply pw_below_drewN | apply below_drew1 | refine below_set ?_ GE209.out) | exact HB.out))⟩ ?_
                      clear HB BK209
                      intro wz ⟨bz_, oz_, hz_⟩
                      have BK209 := Aside0.mk bz_
                      have HOz := Aside0.mk oz_
                      have HB := Aside0.mk hz_
                      clear bz_ oz_ hz_
                      have hczz_0 : wz.cell? ⟨gb209, 0, none⟩ = some (.int .u8 ((rd_T36 l0 x10_1).f0)) := (blk_cell BK209.out 0).trans rfl
                      have hczz_1 : wz.cell? ⟨gb209, 1, none⟩ = some (.int .i64 ((rd_T36 l0 x10_1).f1)) := (blk_cell BK209.out 1).trans rfl
                      have hczz_2 : wz.cell? ⟨gb209, 2, none⟩ = some (.int .i64 ((rd_T36 l0 x10_1).f2)) := (blk_cell BK209.out 2).trans rfl
                      have hczz_3 : wz.cell? ⟨gb209, 3, none⟩ = some (.int .i64 (wrap64 (((rd_T36 l0 x10_1).f3) - (wrap64 ((wrap64 (a1 + 1)) - (rd t200 a1)))))) := (blk_cell BK209.out 3).trans rfl
                      have hczz_4 : wz.cell? ⟨gb209, 4, none⟩ = some (.int .i64 ((rd_T36 l0 x10_1).f4)) := (blk_cell BK209.out 4).trans rfl
                      have hfzz_0 := blk_frozen BK209.out 0
                      have hfzz_1 := blk_frozen BK209.out 1
                      have hfzz_2 := blk_frozen BK209.out 2
                      have hfzz_3 := blk_frozen BK209.out 3
                      have hfzz_4 := blk_frozen BK209.out 4
                      go_wp2_with (first | ((with_reducible refine gate_builtin (b := .append) (xs := #[.tmp 53, .tmp 55]) rfl ?_); at_builtin; refine Kd.R_append k36 (w0 := w) w.heap.size rfl (.tmp 53) (.tmp 55) 22 36 (.agg #[(.int .u8 0), (.int .i64 0), (.int .i64 0), (.int .i64 0), (.int .i64 0)]) 40 rfl Try.underlying22 info36 rfl (by decide) (by omega) u9 x9_1 (⟨(rd_T36 l0 x10_1).f0, (rd_T36 l0 x10_1).f1, (rd_T36 l0 x10_1).f2, wrap64 (((rd_T36 l0 x10_1).f3) - (wrap64 ((wrap64 (a1 + 1)) - (rd t200 a1)))), (rd_T36 l0 x10_1).f4⟩ : S36) [.int .u8 ((rd_T36 l0 x10_1).f0), .int .i64 ((rd_T36 l0 x10_1).f1), .int .i64 ((rd_T36 l0 x10_1).f2), .int .i64 (wrap64 (((rd_T36 l0 x10_1).f3) - (wrap64 ((wrap64 (a1 + 1)) - (rd t200 a1))))), .int .i64 ((rd_T36 l0 x10_1).f4)] (fun k_ => k_ ≠ gb209) (fun _ => False) rfl (by first | (go_simp; done) | (go_simp; rfl)) ?aP (fun _ hk => hk.elim) ?aF ?aO ?aB ?aS ?aL ?_; (case aP => exact k36_mkM _ _ _ (⟨(rd_T36 l0 x10_1).f0, (rd_T36 l0 x10_1).f1, (rd_T36 l0 x10_1).f2, wrap64 (((rd_T36 l0 x10_1).f3) - (wrap64 ((wrap64 (a1 + 1)) - (rd t200 a1)))), (rd_T36 l0 x10_1).f4⟩ : S36)); (case aB => exact (by repeat (first | (with_reducible first | exact HB.out | apply below_alloc | apply pw_below_drewN | apply below_drew1 | refine below_set ?_ GE209.out) | exact HB.out))); (case aF => exact (fun k_ hk => Kd.freshB (g := gb209) (o := .cells #[.int .u8 ((rd_T36 l0 x10_1).f0), .int .i64 ((rd_T36 l0 x10_1).f1), .int .i64 ((rd_T36 l0 x10_1).f2), .int .i64 (wrap64 (((rd_T36 l0 x10_1).f3) - (wrap64 ((wrap64 (a1 + 1)) - (rd t200 a1))))), .int .i64 ((rd_T36 l0 x10_1).f4)] 36 (0, 0)) BK209.out k_ hk)); (case aO => exact Kd.R_mono HOz.out (fun _ hk => hk)); (case aS => exact (below_size (by repeat (first | (with_reducible first | exact HB.out | apply below_alloc | apply pw_below_drewN | apply below_drew1 | refine below_set ?_ GE209.out) | exact HB.out)))); (case aL => have := LMc25.out; omega); intro v220 w28 ho hb hg hat; rw [← Ny219.out] at ho; have n0_ := Aside0.mk (blk_grown (g := gb209) (o := .cells #[.int .u8 ((rd_T36 l0 x10_1).f0), .int .i64 ((rd_T36 l0 x10_1).f1), .int .i64 ((rd_T36 l0 x10_1).f2), .int .i64 (wrap64 (((rd_T36 l0 x10_1).f3) - (wrap64 ((wrap64 (a1 + 1)) - (rd t200 a1))))), .int .i64 ((rd_T36 l0 x10_1).f4)] 36 (0, 0)) BK209.out hg (Kd.R_away HO_9.out (fun _ hk => hk.2))); have n1_ := Aside0.mk (hb); have n2_ := Aside0.mk (ho); clear BK209; clear HB; clear HO_9; have BK209 := n0_; have HB := n1_; have HO221 := n2_; clear n0_ n1_ n2_; clear ho hb hg hat))
                      go_roundg k1
                      case measure => have := HK1.out; omega
                      case rel => exact ⟨(y219), (wrap64 (x10_1 + 1)), (by first | rfl | (simp; done) | (simp [*]; done)), H', ⟨by have := HK1.out; omega⟩, ⟨by (with_reducible repeat (first | apply Kd.R_alloc | apply Kd.R_drewN | apply Kd.R_drew)); exact Kd.R_mono HO221.out (fun _ hk => trivial)⟩, ⟨by repeat (first | (with_reducible first | exact HB.out | apply below_alloc | apply pw_below_drewN | apply below_drew1 | refine below_set ?_ GE209.out) | exact HB.out)⟩⟩
                    · rw [if_neg c25] at H
                      exact absurd H (by simp)
                  · rw [if_neg c24] at H
                    have c24b0 : decide (1 < t218) = false := decide_eq_false c24
                    clear c24
                    by_cases c29 : x9_1.length < 3518437208883
                    · rw [if_pos c29] at H
                      have LMc29 := Aside0.mk c29
                      clear c29
                      obtain ⟨y222, hy222⟩ : ∃ y_ : List (S36), y_ = (x9_1 ++ [(⟨(rd_T36 l0 x10_1).f0, (rd_T36 l0 x10_1).f1, (rd_T36 l0 x10_1).f2, (rd_T36 l0 x10_1).f3, (rd_T36 l0 x10_1).f4⟩ : S36)]) := ⟨_, rfl⟩
                      replace H : (tailwaterref04_Cut.l0 k1 l0 a1 (wrap64 ((wrap64 (a1 + 1)) - (rd t200 a1))) y222 (wrap64 (x10_1 + 1))) = some r := by first | (rw [hy222]; with_reducible exact H) | (have H2_ := (Option.bind_some _ _).symm.trans H; rw [hy222]; with_reducible exact H2_) | (have H2_ := (Option.bind_some _ _).symm.trans H; with_reducible exact H2_) | with_reducible exact H | (rw [hy222]; exact H) | exact H
                      have Ny222 := Aside0.mk hy222
                      clear hy222
                      have H' := Aside0.mk H
                      clear H
                      have p208 : 0 ≤ (x10_1 : Int) := of_decide_eq_true (by first | (with_reducible assumption) | assumption)
                      have q208 : x10_1 < (l0.length : Int) := of_decide_eq_true (by first | (with_reducible assumption) | assumption)
                      obtain ⟨ad208, e208, hx208_0, hx208_1, hx208_2, hx208_3, hx208_4⟩ := at_T36 HR0.out x10_1 p208 q208
                      cases e208
                      replace hx208_0 := (HB.out.cell (World.block_lt_of_cell? w _ hx208_0)).trans hx208_0
                      replace hx208_1 := (HB.out.cell (World.block_lt_of_cell? w _ hx208_1)).trans hx208_1
                      replace hx208_2 := (HB.out.cell (World.block_lt_of_cell? w _ hx208_2)).trans hx208_2
                      replace hx208_3 := (HB.out.cell (World.block_lt_of_cell? w _ hx208_3)).trans hx208_3
                      replace hx208_4 := (HB.out.cell (World.block_lt_of_cell? w _ hx208_4)).trans hx208_4
                      replace p208 := eq_true p208
                      replace q208 := eq_true q208
                      go_upto_region 12 with (first | ((with_reducible refine gate_dst (N := 11) rfl ?_); refine box_event ?hg (N := 11) ?hd (cs := #[.int .u8 0, .int .i64 0, .int .i64 0, .int .i64 0, .int .i64 0]) (t := 36) ?hr ?_; (case hd => rfl); (case hg => rfl); (case hr => first | (go_simp; done) | (go_simp; rfl)); intro gb209 hg w30 hbox hb; have n0_ := Aside0.mk (Kd.R_below (Kd.R_elderB (by (with_reducible repeat (first | apply Kd.R_alloc | apply Kd.R_drewN | apply Kd.R_drew)); exact HO_9.out) gb209 (Nat.le_of_eq hg.symm)) hb); have n1_ := Aside0.mk (below_step (by repeat (first | (with_reducible first | exact HB.out | apply below_alloc | apply pw_below_drewN | apply below_drew1) | exact HB.out)) hb); have n2_ := Aside0.mk (hbox); have n3_ := Aside0.mk ((by rw [hg]; exact (below_size (by repeat (first | (with_reducible first | exact HB.out | apply below_alloc | apply pw_below_drewN | apply below_drew1) | exact HB.out))) : w.heap.size ≤ gb209)); have n4_ := Aside0.mk ((by rw [hg]; exact (below_size (by repeat (first | (with_reducible first | exact HB.out | apply below_alloc | apply pw_below_drewN | apply below_drew1) | exact HB.out))) : w.heap.size ≤ gb209)); clear HO_9; clear HB; have HO_9 := n0_; have HB := n1_; have BK209 := n2_; have GW209 := n3_; have GE209 := n4_; clear n0_ n1_ n2_ n3_ n4_; clear hb hbox hg; have hcz31_0 : w30.cell? ⟨gb209, 0, none⟩ = some (.int .u8 0) := (blk_cell BK209.out 0).trans rfl; have hcz31_1 : w30.cell? ⟨gb209, 1, none⟩ = some (.int .i64 0) := (blk_cell BK209.out 1).trans rfl; have hcz31_2 : w30.cell? ⟨gb209, 2, none⟩ = some (.int .i64 0) := (blk_cell BK209.out 2).trans rfl; have hcz31_3 : w30.cell? ⟨gb209, 3, none⟩ = some (.int .i64 0) := (blk_cell BK209.out 3).trans rfl; have hcz31_4 : w30.cell? ⟨gb209, 4, none⟩ = some (.int .i64 0) := (blk_cell BK209.out 4).trans rfl; have hfz31_0 := blk_frozen BK209.out 0; have hfz31_1 := blk_frozen BK209.out 1; have hfz31_2 := blk_frozen BK209.out 2; have hfz31_3 := blk_frozen BK209.out 3; have hfz31_4 := blk_frozen BK209.out 4) | ((with_reducible refine gate_callee (f := 63) rfl ?_); refine goesL_ (some 37) rfl rfl Try.func63 (by kernel_rfl) rfl #[.int .u8 ((rd_T36 l0 x10_1).f0)] rfl (by (try simp only [List.map_toArray, List.map_cons, List.map_nil]); first | done | rfl | (simp only [List.length_drop, List.length_take]; rfl)) ?_; (with_reducible refine (tailwaterref04_Count.calls ((rd_T36 l0 x10_1).f0) t210 _ A11.out).mono ?_); rintro e w' ⟨rfl, ⟨nd, rfl⟩⟩; refine ⟨_, rfl, ?_⟩) | ((with_reducible refine gate_callee (f := 63) rfl ?_); refine goesL_ (some 46) rfl rfl Try.func63 (by kernel_rfl) rfl #[.int .u8 ((rd_T36 l0 x10_1).f0)] rfl (by (try simp only [List.map_toArray, List.map_cons, List.map_nil]); first | done | rfl | (simp only [List.length_drop, List.length_take]; rfl)) ?_; (with_reducible refine (tailwaterref04_Count.calls ((rd_T36 l0 x10_1).f0) t218 _ A23.out).mono ?_); rintro e w' ⟨rfl, ⟨nd, rfl⟩⟩; refine ⟨_, rfl, ?_⟩))
                      refine gen_wp (fun wz => wz.heap[gb209]? = some (.cells #[.int .u8 ((rd_T36 l0 x10_1).f0), .int .i64 ((rd_T36 l0 x10_1).f1), .int .i64 ((rd_T36 l0 x10_1).f2), .int .i64 ((rd_T36 l0 x10_1).f3), .int .i64 ((rd_T36 l0 x10_1).f4)] 36 (0, 0)) ∧ Kd.R k36 36 wz w.heap.size (fun k_ => k_ ≠ gb209) u9 x9_1 ∧ Below w.heap.size w wz) ⟨(by (with_reducible repeat (first | refine blk_drewN ?_ _ | refine blk_drew ?_ | refine blk_alloc ?_ _)); refine blk_put (cs := #[.int .u8 ((rd_T36 l0 x10_1).f0), .int .i64 ((rd_T36 l0 x10_1).f1), .int .i64 ((rd_T36 l0 x10_1).f2), .int .i64 ((rd_T36 l0 x10_1).f3), .int .i64 0]) ?_ 4 _ rfl; (with_reducible repeat (first | refine blk_drewN ?_ _ | refine blk_drew ?_ | refine blk_alloc ?_ _)); refine blk_put (cs := #[.int .u8 ((rd_T36 l0 x10_1).f0), .int .i64 ((rd_T36 l0 x10_1).f1), .int .i64 ((rd_T36 l0 x10_1).f2), .int .i64 0, .int .i64 0]) ?_ 3 _ rfl; (with_reducible repeat (first | refine blk_drewN ?_ _ | refine blk_drew ?_ | refine blk_alloc ?_ _)); refine blk_put (cs := #[.int .u8 ((rd_T36 l0 x10_1).f0), .int .i64 ((rd_T36 l0 x10_1).f1), .int .i64 0, .int .i64 0, .int .i64 0]) ?_ 2 _ rfl; (with_reducible repeat (first | refine blk_drewN ?_ _ | refine blk_drew ?_ | refine blk_alloc ?_ _)); refine blk_put (cs := #[.int .u8 ((rd_T36 l0 x10_1).f0), .int .i64 0, .int .i64 0, .int .i64 0, .int .i64 0]) ?_ 1 _ rfl; (with_reducible repeat (first | refine blk_drewN ?_ _ | refine blk_drew ?_ | refine blk_alloc ?_ _)); refine blk_put (cs := #[.int .u8 0, .int .i64 0, .int .i64 0, .int .i64 0, .int .i64 0]) ?_ 0 _ rfl; (with_reducible repeat (first | refine blk_drewN ?_ _ | refine blk_drew ?_ | refine blk_alloc ?_ _)); exact BK209.out), (by refine Kd.R_mono (ok := fun k_ => (True ∧ k_ ≠ gb209) ∧ k_ ≠ gb209) ?_ (fun _ hk => hk.2); (repeat (first | (with_reducible refine Kd.R_drewN ?_ _) | (with_reducible refine Kd.R_far ?_ (fun _ hk => hk.2) _))); exact Kd.R_mono HO_9.out (fun k_ hk => ⟨hk, hk.2⟩)), (by repeat (first | (with_reducible first | exact HB.out | apply below_alloc | apply pw_below_drewN | apply below_drew1 | refine below_set ?_ GE209.out) | exact HB.out))⟩ ?_
                      clear HB BK209
                      intro wz ⟨bz_, oz_, hz_⟩
                      have BK209 := Aside0.mk bz_
                      have HOz := Aside0.mk oz_
                      have HB := Aside0.mk hz_
                      clear bz_ oz_ hz_
                      have hczz_0 : wz.cell? ⟨gb209, 0, none⟩ = some (.int .u8 ((rd_T36 l0 x10_1).f0)) := (blk_cell BK209.out 0).trans rfl
                      have hczz_1 : wz.cell? ⟨gb209, 1, none⟩ = some (.int .i64 ((rd_T36 l0 x10_1).f1)) := (blk_cell BK209.out 1).trans rfl
                      have hczz_2 : wz.cell? ⟨gb209, 2, none⟩ = some (.int .i64 ((rd_T36 l0 x10_1).f2)) := (blk_cell BK209.out 2).trans rfl
                      have hczz_3 : wz.cell? ⟨gb209, 3, none⟩ = some (.int .i64 ((rd_T36 l0 x10_1).f3)) := (blk_cell BK209.out 3).trans rfl
                      have hczz_4 : wz.cell? ⟨gb209, 4, none⟩ = some (.int .i64 ((rd_T36 l0 x10_1).f4)) := (blk_cell BK209.out 4).trans rfl
                      have hfzz_0 := blk_frozen BK209.out 0
                      have hfzz_1 := blk_frozen BK209.out 1
                      have hfzz_2 := blk_frozen BK209.out 2
                      have hfzz_3 := blk_frozen BK209.out 3
                      have hfzz_4 := blk_frozen BK209.out 4
                      go_wp2_with (first | ((with_reducible refine gate_builtin (b := .append) (xs := #[.tmp 53, .tmp 55]) rfl ?_); at_builtin; refine Kd.R_append k36 (w0 := w) w.heap.size rfl (.tmp 53) (.tmp 55) 22 36 (.agg #[(.int .u8 0), (.int .i64 0), (.int .i64 0), (.int .i64 0), (.int .i64 0)]) 40 rfl Try.underlying22 info36 rfl (by decide) (by omega) u9 x9_1 (⟨(rd_T36 l0 x10_1).f0, (rd_T36 l0 x10_1).f1, (rd_T36 l0 x10_1).f2, (rd_T36 l0 x10_1).f3, (rd_T36 l0 x10_1).f4⟩ : S36) [.int .u8 ((rd_T36 l0 x10_1).f0), .int .i64 ((rd_T36 l0 x10_1).f1), .int .i64 ((rd_T36 l0 x10_1).f2), .int .i64 ((rd_T36 l0 x10_1).f3), .int .i64 ((rd_T36 l0 x10_1).f4)] (fun k_ => k_ ≠ gb209) (fun _ => False) rfl (by first | (go_simp; done) | (go_simp; rfl)) ?aP (fun _ hk => hk.elim) ?aF ?aO ?aB ?aS ?aL ?_; (case aP => exact k36_mkM _ _ _ (⟨(rd_T36 l0 x10_1).f0, (rd_T36 l0 x10_1).f1, (rd_T36 l0 x10_1).f2, (rd_T36 l0 x10_1).f3, (rd_T36 l0 x10_1).f4⟩ : S36)); (case aB => exact (by repeat (first | (with_reducible first | exact HB.out | apply below_alloc | apply pw_below_drewN | apply below_drew1 | refine below_set ?_ GE209.out) | exact HB.out))); (case aF => exact (fun k_ hk => Kd.freshB (g := gb209) (o := .cells #[.int .u8 ((rd_T36 l0 x10_1).f0), .int .i64 ((rd_T36 l0 x10_1).f1), .int .i64 ((rd_T36 l0 x10_1).f2), .int .i64 ((rd_T36 l0 x10_1).f3), .int .i64 ((rd_T36 l0 x10_1).f4)] 36 (0, 0)) BK209.out k_ hk)); (case aO => exact Kd.R_mono HOz.out (fun _ hk => hk)); (case aS => exact (below_size (by repeat (first | (with_reducible first | exact HB.out | apply below_alloc | apply pw_below_drewN | apply below_drew1 | refine below_set ?_ GE209.out) | exact HB.out)))); (case aL => have := LMc29.out; omega); intro v223 w32 ho hb hg hat; rw [← Ny222.out] at ho; have n0_ := Aside0.mk (blk_grown (g := gb209) (o := .cells #[.int .u8 ((rd_T36 l0 x10_1).f0), .int .i64 ((rd_T36 l0 x10_1).f1), .int .i64 ((rd_T36 l0 x10_1).f2), .int .i64 ((rd_T36 l0 x10_1).f3), .int .i64 ((rd_T36 l0 x10_1).f4)] 36 (0, 0)) BK209.out hg (Kd.R_away HO_9.out (fun _ hk => hk.2))); have n1_ := Aside0.mk (hb); have n2_ := Aside0.mk (ho); clear BK209; clear HB; clear HO_9; have BK209 := n0_; have HB := n1_; have HO224 := n2_; clear n0_ n1_ n2_; clear ho hb hg hat))
                      go_roundg k1
                      case measure => have := HK1.out; omega
                      case rel => exact ⟨(y222), (wrap64 (x10_1 + 1)), (by first | rfl | (simp; done) | (simp [*]; done)), H', ⟨by have := HK1.out; omega⟩, ⟨by (with_reducible repeat (first | apply Kd.R_alloc | apply Kd.R_drewN | apply Kd.R_drew)); exact Kd.R_mono HO224.out (fun _ hk => trivial)⟩, ⟨by repeat (first | (with_reducible first | exact HB.out | apply below_alloc | apply pw_below_drewN | apply below_drew1 | refine below_set ?_ GE209.out) | exact HB.out)⟩⟩
                    · rw [if_neg c29] at H
                      exact absurd H (by simp)
              · rw [if_neg c10] at H
                exact absurd H (by simp)
            · rw [if_neg c9] at H
              exact absurd H (by simp)
          · rw [if_neg c8] at H
            have c8b0 : decide (x10_1 ≤ a1) = false := decide_eq_false c8
            clear c8
            obtain rfl := Option.some.inj H
            go_wp2
            go_ret
            exact ⟨_, by first | rfl | (simp [errW_none, errW_some] <;> rfl) | (simp [*, errW_none, errW_some] <;> rfl), by (with_reducible repeat (first | apply Kd.R_alloc | apply Kd.R_drewN | apply Kd.R_drew)); exact HO_9.out, by repeat (first | (with_reducible first | exact HB.out | apply below_alloc | apply pw_below_drewN | apply below_drew1) | exact HB.out)⟩
    · rw [if_neg c5] at H
      exact absurd H (by simp)
  · rw [if_neg c4] at H
    exact absurd H (by simp)

end Go.Proofs.Ytpkamfjkmbakhaa.M
