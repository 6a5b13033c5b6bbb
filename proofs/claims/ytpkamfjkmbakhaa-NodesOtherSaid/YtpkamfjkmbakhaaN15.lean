-- Written by a program of this place (wip/prt.py), out of Lean's own print of the program: Lean checks it.
import Derived.Test.YtpkamfjkmbakhaaN0
import Derived.Test.YtpkamfjkmbakhaaN2
import Derived.Test.YtpkamfjkmbakhaaN4
import Derived.Test.YtpkamfjkmbakhaaN7
import Derived.Test.YtpkamfjkmbakhaaN9
import Derived.Test.YtpkamfjkmbakhaaN14
namespace Go.Proofs.Ytpkamfjkmbakhaa.N
open Go.RowKit Go.Proofs.YtpkamfjkmbakhaaW.PrintWords Go.Proofs.YtpkamfjkmbakhaaW.PrintLast Go.Proofs.YtpkamfjkmbakhaaW.PrintMore
attribute [local go_sem] max2_int min2_int max_two min_two max_three min_three max_four min_four   -- for this text's walks alone
set_option linter.unusedVariables false
set_option linter.unusedSimpArgs false

/-! ### tailwaterlaw04_NodesSame: function 10 -/
mutual
def tailwaterlaw04_NodesSame.j0 : Nat → List (S36) → List (S36) → Int → Bool → Option (Bool)
  | 0, _, _, _, _ => none
  | k + 1, x0, x1, x2, x42 => if x42 = true then ((tailwaterlaw04_alive.f k).bind fun t296 => (some t296)) else ((nodes_Same.f k x0 x1).bind fun bt297 => ((nodes_Same.f k x1 x0).bind fun bt299 => ((some (([] : List (S36)) : List (S36))).bind fun y301 => (if y301.length + x0.length < 3518437208883 then (tailwaterlaw04_NodesSame.l0 k x0 x1 x2 bt297.1 bt297.2 bt299.1 bt299.2 (y301 ++ x0) 0) else (none)))))
def tailwaterlaw04_NodesSame.l0 : Nat → List (S36) → List (S36) → Int → Bool → Int → Bool → Int → List (S36) → Int → Option (Bool)
  | 0, _, _, _, _, _, _, _, _, _ => none
  | k + 1, x0, x1, x2, x7, x8, x9, x10, x11, x12 => if x12 < (x11.length : Int) then (if 0 ≤ x12 then (tailwaterlaw04_NodesSame.l0 k x0 x1 x2 x7 x8 x9 x10 (x11.set (x12 : Int).toNat (⟨(rd_T36 x11 x12).f0, (rd_T36 x11 x12).f1, (rd_T36 x11 x12).f2, (rd_T36 x11 x12).f3, x2⟩ : S36)) (wrap64 (x12 + 1))) else (none)) else ((nodes_Same.f k x0 x11).bind fun bt308 => ((nodes_Depth.f k x0).bind fun bt310 => ((nodes_Depth.f k x1).bind fun bt312 => (if x8 = 0 then (if x10 = 0 then (if bt308.2 = 0 then (if bt310.2 = 0 then (if bt312.2 = 0 then (if (x7 == x9) = true then (if bt308.1 = true then (if x7 = true then (if bt310.1 = bt312.1 then (if (x0.length : Int) = (x1.length : Int) then ((tailwaterlaw04_alive.f k).bind fun t314 => (some t314)) else (some false)) else (some false)) else ((tailwaterref04_Equal.f k x0 x1).bind fun t315 => (if t315 = true then (some false) else ((tailwaterlaw04_alive.f k).bind fun t316 => (some t316))))) else (some false)) else (some false)) else (some false)) else (some false)) else (some false)) else (some false)) else (some false)))))
end
def tailwaterlaw04_NodesSame.f (k : Nat) (l0 : List (S36)) (l1 : List (S36)) (a2 : Int) : Option (Bool) := (tailwaterref04_Great.f l0).bind fun t292 => (if t292 = true then (tailwaterlaw04_NodesSame.j0 k l0 l1 a2 true) else ((tailwaterref04_Great.f l1).bind fun t293 => (if t293 = true then (tailwaterlaw04_NodesSame.j0 k l0 l1 a2 true) else ((tailwaterref04_Check.f k l0).bind fun t294 => (if t294 = 0 then ((tailwaterref04_Check.f k l1).bind fun t295 => (if t295 = 0 then (if a2 < 0 then (tailwaterlaw04_NodesSame.j0 k l0 l1 a2 true) else (tailwaterlaw04_NodesSame.j0 k l0 l1 a2 (decide (a2 > 400)))) else (tailwaterlaw04_NodesSame.j0 k l0 l1 a2 true))) else (tailwaterlaw04_NodesSame.j0 k l0 l1 a2 true))))))
theorem tailwaterlaw04_NodesSame.mono_l : ∀ k, (∀ y0 y1 y2 y3, LeO (tailwaterlaw04_NodesSame.j0 k y0 y1 y2 y3) (tailwaterlaw04_NodesSame.j0 (k + 1) y0 y1 y2 y3)) ∧ (∀ y0 y1 y2 y3 y4 y5 y6 y7 y8, LeO (tailwaterlaw04_NodesSame.l0 k y0 y1 y2 y3 y4 y5 y6 y7 y8) (tailwaterlaw04_NodesSame.l0 (k + 1) y0 y1 y2 y3 y4 y5 y6 y7 y8))
  | 0 => ⟨fun _ _ _ _ r h => by simp [tailwaterlaw04_NodesSame.j0] at h, fun _ _ _ _ _ _ _ _ _ r h => by simp [tailwaterlaw04_NodesSame.l0] at h⟩
  | k + 1 => by
    obtain ⟨ih0, ih1⟩ := tailwaterlaw04_NodesSame.mono_l k
    refine ⟨?_, ?_⟩
    · intro y0 y1 y2 y3
      unfold tailwaterlaw04_NodesSame.j0
      repeat' first
      | (with_reducible exact ih0 _ _ _ _)
      | (with_reducible exact ih1 _ _ _ _ _ _ _ _ _)
      | (with_reducible exact nodes_Depth.mono _ _)
      | (with_reducible exact nodes_Same.mono _ _ _)
      | (with_reducible exact tailwaterlaw04_alive.mono _)
      | (with_reducible exact tailwaterref04_Check.mono _ _)
      | (with_reducible exact tailwaterref04_Equal.mono _ _ _)
      | (with_reducible exact LeO.refl _)
      | (with_reducible exact LeO.none _)
      | (with_reducible refine LeO.ite ?_ ?_)
      | (with_reducible refine LeO.bind ?_ (fun _ => ?_))
      | exact ih0 _ _ _ _
      | exact ih1 _ _ _ _ _ _ _ _ _
      | exact nodes_Depth.mono _ _
      | exact nodes_Same.mono _ _ _
      | exact tailwaterlaw04_alive.mono _
      | exact tailwaterref04_Check.mono _ _
      | exact tailwaterref04_Equal.mono _ _ _
      | exact LeO.none _
      | refine LeO.ite ?_ ?_
      | refine LeO.bind ?_ (fun _ => ?_)
    · intro y0 y1 y2 y3 y4 y5 y6 y7 y8
      unfold tailwaterlaw04_NodesSame.l0
      repeat' first
      | (with_reducible exact ih0 _ _ _ _)
      | (with_reducible exact ih1 _ _ _ _ _ _ _ _ _)
      | (with_reducible exact nodes_Depth.mono _ _)
      | (with_reducible exact nodes_Same.mono _ _ _)
      | (with_reducible exact tailwaterlaw04_alive.mono _)
      | (with_reducible exact tailwaterref04_Check.mono _ _)
      | (with_reducible exact tailwaterref04_Equal.mono _ _ _)
      | (with_reducible exact LeO.refl _)
      | (with_reducible exact LeO.none _)
      | (with_reducible refine LeO.ite ?_ ?_)
      | (with_reducible refine LeO.bind ?_ (fun _ => ?_))
      | exact ih0 _ _ _ _
      | exact ih1 _ _ _ _ _ _ _ _ _
      | exact nodes_Depth.mono _ _
      | exact nodes_Same.mono _ _ _
      | exact tailwaterlaw04_alive.mono _
      | exact tailwaterref04_Check.mono _ _
      | exact tailwaterref04_Equal.mono _ _ _
      | exact LeO.none _
      | refine LeO.ite ?_ ?_
      | refine LeO.bind ?_ (fun _ => ?_)
theorem tailwaterlaw04_NodesSame.mono : ∀ a0 a1 a2 k, LeO (tailwaterlaw04_NodesSame.f k a0 a1 a2) (tailwaterlaw04_NodesSame.f (k + 1) a0 a1 a2) := by
  intro a0 a1 a2 k
  obtain ⟨ih0, ih1⟩ := tailwaterlaw04_NodesSame.mono_l k
  unfold tailwaterlaw04_NodesSame.f
  repeat' first
      | (with_reducible exact ih0 _ _ _ _)
      | (with_reducible exact ih1 _ _ _ _ _ _ _ _ _)
      | (with_reducible exact nodes_Depth.mono _ _)
      | (with_reducible exact nodes_Same.mono _ _ _)
      | (with_reducible exact tailwaterlaw04_alive.mono _)
      | (with_reducible exact tailwaterref04_Check.mono _ _)
      | (with_reducible exact tailwaterref04_Equal.mono _ _ _)
      | (with_reducible exact LeO.refl _)
      | (with_reducible exact LeO.none _)
      | (with_reducible refine LeO.ite ?_ ?_)
      | (with_reducible refine LeO.bind ?_ (fun _ => ?_))
      | exact ih0 _ _ _ _
      | exact ih1 _ _ _ _ _ _ _ _ _
      | exact nodes_Depth.mono _ _
      | exact nodes_Same.mono _ _ _
      | exact tailwaterlaw04_alive.mono _
      | exact tailwaterref04_Check.mono _ _
      | exact tailwaterref04_Equal.mono _ _ _
      | exact LeO.none _
      | refine LeO.ite ?_ ?_
      | refine LeO.bind ?_ (fun _ => ?_)
set_option maxHeartbeats 8000000 in
set_option maxRecDepth 100000 in
theorem tailwaterlaw04_NodesSame.calls (k : Nat) (A0 : Option Addr) (c0 : Nat) (l0 : List (S36)) (A1 : Option Addr) (c1 : Nat) (l1 : List (S36)) (a2 : Int) (w : World) (hr0 : Kd.C k36 w A0 l0.length l0) (hc0 : l0.length ≤ c0) (hr1 : Kd.C k36 w A1 l1.length l1) (hc1 : l1.length ≤ c1) (h : tailwaterlaw04_NodesSame.f k l0 l1 a2 = some true) :
    Calls Try.prog 10 #[.slice A0 l0.length c0, .slice A1 l1.length c1, .int .i64 a2] w fun e w' => e = .returned (.bool true) ∧ Below w.heap.size w w' := by
  have HR0 := Aside0.mk hr0
  have HC0 := Aside0.mk hc0
  clear hr0 hc0
  have HR1 := Aside0.mk hr1
  have HC1 := Aside0.mk hc1
  clear hr1 hc1
  have HB := Aside0.mk (Below.refl w.heap.size w)
  have H : ((tailwaterref04_Great.f l0).bind fun t292 => (if t292 = true then (tailwaterlaw04_NodesSame.j0 k l0 l1 a2 true) else ((tailwaterref04_Great.f l1).bind fun t293 => (if t293 = true then (tailwaterlaw04_NodesSame.j0 k l0 l1 a2 true) else ((tailwaterref04_Check.f k l0).bind fun t294 => (if t294 = 0 then ((tailwaterref04_Check.f k l1).bind fun t295 => (if t295 = 0 then (if a2 < 0 then (tailwaterlaw04_NodesSame.j0 k l0 l1 a2 true) else (tailwaterlaw04_NodesSame.j0 k l0 l1 a2 (decide (a2 > 400)))) else (tailwaterlaw04_NodesSame.j0 k l0 l1 a2 true))) else (tailwaterlaw04_NodesSame.j0 k l0 l1 a2 true))))))) = some true := h
  clear h
  have HC4 := Aside0.mk H
  clear H
  go_enter Try.func10, Try.ntmps10
  go_upto_region 1 with (fail)
  go_cut [42] (fun v42 wc => ∃ (kq : Nat) (x42_3 : Bool), v42 = .bool x42_3 ∧ Aside0 (tailwaterlaw04_NodesSame.j0 kq l0 l1 a2 x42_3 = some true) ∧ Aside0 (kq ≤ k) ∧ Aside0 (Below w.heap.size w wc))
  case first =>
    have H := HC4.out
    clear HC4
    replace H := Option.bind_eq_some_iff.mp H
    obtain ⟨t292, A50, H⟩ := H
    replace H : (if t292 = true then (tailwaterlaw04_NodesSame.j0 k l0 l1 a2 true) else ((tailwaterref04_Great.f l1).bind fun t293 => (if t293 = true then (tailwaterlaw04_NodesSame.j0 k l0 l1 a2 true) else ((tailwaterref04_Check.f k l0).bind fun t294 => (if t294 = 0 then ((tailwaterref04_Check.f k l1).bind fun t295 => (if t295 = 0 then (if a2 < 0 then (tailwaterlaw04_NodesSame.j0 k l0 l1 a2 true) else (tailwaterlaw04_NodesSame.j0 k l0 l1 a2 (decide (a2 > 400)))) else (tailwaterlaw04_NodesSame.j0 k l0 l1 a2 true))) else (tailwaterlaw04_NodesSame.j0 k l0 l1 a2 true)))))) = some true := H
    have A5 := Aside0.mk A50
    clear A50
    by_cases c6 : t292 = true
    · subst c6
      have H1 : (tailwaterlaw04_NodesSame.j0 k l0 l1 a2 true) = some true := by rw [if_pos rfl] at H; exact H
      clear H
      have H := H1
      clear H1
      have H' := Aside0.mk H
      clear H
      go_wp2_with (first | ((with_reducible refine gate_callee (f := 33) rfl ?_); refine goesL_ (some 20) rfl rfl Try.func33 (by kernel_rfl) rfl #[.slice A0 l0.length c0] rfl (by (try simp only [List.map_toArray, List.map_cons, List.map_nil]); first | done | rfl | (simp only [List.length_drop, List.length_take]; rfl)) ?_; (with_reducible refine (tailwaterref04_Great.calls _ _ l0 true _ ?side1 ?side2 A5.out).mono ?_); (case side1 => repeat (first | exact (Kd.C_below HR0.out HB.out) | (with_reducible refine Kd.C_alloc ?_ _) | (with_reducible refine Kd.C_drewN ?_ _) | (with_reducible refine Kd.C_drew ?_))); (case side2 => exact HC0.out); rintro e w' ⟨rfl, ⟨nd, rfl⟩⟩; refine ⟨_, rfl, ?_⟩))
      go_meet
      case rel => exact ⟨_, (true), (by first | rfl | (simp; done) | (simp [*]; done)), H', ⟨by first | omega | exact Nat.le_refl _⟩, ⟨by repeat (first | (with_reducible first | exact HB.out | apply below_alloc | apply pw_below_drewN | apply below_drew1) | exact HB.out)⟩⟩
    · replace c6 := Bool.eq_false_iff.mpr c6
      subst c6
      have H1 : ((tailwaterref04_Great.f l1).bind fun t293 => (if t293 = true then (tailwaterlaw04_NodesSame.j0 k l0 l1 a2 true) else ((tailwaterref04_Check.f k l0).bind fun t294 => (if t294 = 0 then ((tailwaterref04_Check.f k l1).bind fun t295 => (if t295 = 0 then (if a2 < 0 then (tailwaterlaw04_NodesSame.j0 k l0 l1 a2 true) else (tailwaterlaw04_NodesSame.j0 k l0 l1 a2 (decide (a2 > 400)))) else (tailwaterlaw04_NodesSame.j0 k l0 l1 a2 true))) else (tailwaterlaw04_NodesSame.j0 k l0 l1 a2 true))))) = some true := by rw [if_neg (show ¬ (false = true) by decide)] at H; exact H
      clear H
      have H := H1
      clear H1
      replace H := Option.bind_eq_some_iff.mp H
      obtain ⟨t293, A70, H⟩ := H
      replace H : (if t293 = true then (tailwaterlaw04_NodesSame.j0 k l0 l1 a2 true) else ((tailwaterref04_Check.f k l0).bind fun t294 => (if t294 = 0 then ((tailwaterref04_Check.f k l1).bind fun t295 => (if t295 = 0 then (if a2 < 0 then (tailwaterlaw04_NodesSame.j0 k l0 l1 a2 true) else (tailwaterlaw04_NodesSame.j0 k l0 l1 a2 (decide (a2 > 400)))) else (tailwaterlaw04_NodesSame.j0 k l0 l1 a2 true))) else (tailwaterlaw04_NodesSame.j0 k l0 l1 a2 true)))) = some true := H
      have A7 := Aside0.mk A70
      clear A70
      by_cases c8 : t293 = true
      · subst c8
        have H1 : (tailwaterlaw04_NodesSame.j0 k l0 l1 a2 true) = some true := by rw [if_pos rfl] at H; exact H
        clear H
        have H := H1
        clear H1
        have H' := Aside0.mk H
        clear H
        go_wp2_with (first | ((with_reducible refine gate_callee (f := 33) rfl ?_); refine goesL_ (some 20) rfl rfl Try.func33 (by kernel_rfl) rfl #[.slice A0 l0.length c0] rfl (by (try simp only [List.map_toArray, List.map_cons, List.map_nil]); first | done | rfl | (simp only [List.length_drop, List.length_take]; rfl)) ?_; (with_reducible refine (tailwaterref04_Great.calls _ _ l0 false _ ?side1 ?side2 A5.out).mono ?_); (case side1 => repeat (first | exact (Kd.C_below HR0.out HB.out) | (with_reducible refine Kd.C_alloc ?_ _) | (with_reducible refine Kd.C_drewN ?_ _) | (with_reducible refine Kd.C_drew ?_))); (case side2 => exact HC0.out); rintro e w' ⟨rfl, ⟨nd, rfl⟩⟩; refine ⟨_, rfl, ?_⟩) | (go_at_call 33; (with_reducible refine (tailwaterref04_Great.calls _ _ l1 true _ ?side1 ?side2 A7.out).mono ?_); (case side1 => repeat (first | exact (Kd.C_below HR1.out (by repeat (first | (with_reducible first | exact HB.out | apply below_alloc | apply pw_below_drewN | apply below_drew1) | exact HB.out))) | (with_reducible refine Kd.C_alloc ?_ _) | (with_reducible refine Kd.C_drewN ?_ _) | (with_reducible refine Kd.C_drew ?_))); (case side2 => exact HC1.out); rintro e w' ⟨rfl, ⟨nd, rfl⟩⟩))
        go_meet
        case rel => exact ⟨_, (true), (by first | rfl | (simp; done) | (simp [*]; done)), H', ⟨by first | omega | exact Nat.le_refl _⟩, ⟨by repeat (first | (with_reducible first | exact HB.out | apply below_alloc | apply pw_below_drewN | apply below_drew1) | exact HB.out)⟩⟩
      · replace c8 := Bool.eq_false_iff.mpr c8
        subst c8
        have H1 : ((tailwaterref04_Check.f k l0).bind fun t294 => (if t294 = 0 then ((tailwaterref04_Check.f k l1).bind fun t295 => (if t295 = 0 then (if a2 < 0 then (tailwaterlaw04_NodesSame.j0 k l0 l1 a2 true) else (tailwaterlaw04_NodesSame.j0 k l0 l1 a2 (decide (a2 > 400)))) else (tailwaterlaw04_NodesSame.j0 k l0 l1 a2 true))) else (tailwaterlaw04_NodesSame.j0 k l0 l1 a2 true))) = some true := by rw [if_neg (show ¬ (false = true) by decide)] at H; exact H
        clear H
        have H := H1
        clear H1
        replace H := Option.bind_eq_some_iff.mp H
        obtain ⟨t294, A90, H⟩ := H
        replace H : (if t294 = 0 then ((tailwaterref04_Check.f k l1).bind fun t295 => (if t295 = 0 then (if a2 < 0 then (tailwaterlaw04_NodesSame.j0 k l0 l1 a2 true) else (tailwaterlaw04_NodesSame.j0 k l0 l1 a2 (decide (a2 > 400)))) else (tailwaterlaw04_NodesSame.j0 k l0 l1 a2 true))) else (tailwaterlaw04_NodesSame.j0 k l0 l1 a2 true)) = some true := H
        have A9 := Aside0.mk A90
        clear A90
        by_cases c10 : t294 = 0
        · rw [if_pos c10] at H
          have c10b0 : (t294 == 0) = true := beq_iff_eq.mpr c10
          have c10b1 : (t294 != 0) = false := bne_eq_false_iff_eq.mpr c10
          clear c10
          (first | rw [c10b0] | (simp only [i64_w, i32_w]; rw [c10b0]) | skip)
          replace H := Option.bind_eq_some_iff.mp H
          obtain ⟨t295, A110, H⟩ := H
          replace H : (if t295 = 0 then (if a2 < 0 then (tailwaterlaw04_NodesSame.j0 k l0 l1 a2 true) else (tailwaterlaw04_NodesSame.j0 k l0 l1 a2 (decide (a2 > 400)))) else (tailwaterlaw04_NodesSame.j0 k l0 l1 a2 true)) = some true := H
          have A11 := Aside0.mk A110
          clear A110
          by_cases c12 : t295 = 0
          · rw [if_pos c12] at H
            have c12b0 : (t295 == 0) = true := beq_iff_eq.mpr c12
            have c12b1 : (t295 != 0) = false := bne_eq_false_iff_eq.mpr c12
            clear c12
            by_cases c13 : a2 < 0
            · rw [if_pos c13] at H
              have c13b0 : decide (a2 < 0) = true := decide_eq_true c13
              clear c13
              have H' := Aside0.mk H
              clear H
              go_wp2_with (first | ((with_reducible refine gate_callee (f := 33) rfl ?_); refine goesL_ (some 20) rfl rfl Try.func33 (by kernel_rfl) rfl #[.slice A0 l0.length c0] rfl (by (try simp only [List.map_toArray, List.map_cons, List.map_nil]); first | done | rfl | (simp only [List.length_drop, List.length_take]; rfl)) ?_; (with_reducible refine (tailwaterref04_Great.calls _ _ l0 false _ ?side1 ?side2 A5.out).mono ?_); (case side1 => repeat (first | exact (Kd.C_below HR0.out HB.out) | (with_reducible refine Kd.C_alloc ?_ _) | (with_reducible refine Kd.C_drewN ?_ _) | (with_reducible refine Kd.C_drew ?_))); (case side2 => exact HC0.out); rintro e w' ⟨rfl, ⟨nd, rfl⟩⟩; refine ⟨_, rfl, ?_⟩) | (go_at_call 33; (with_reducible refine (tailwaterref04_Great.calls _ _ l1 false _ ?side1 ?side2 A7.out).mono ?_); (case side1 => repeat (first | exact (Kd.C_below HR1.out (by repeat (first | (with_reducible first | exact HB.out | apply below_alloc | apply pw_below_drewN | apply below_drew1) | exact HB.out))) | (with_reducible refine Kd.C_alloc ?_ _) | (with_reducible refine Kd.C_drewN ?_ _) | (with_reducible refine Kd.C_drew ?_))); (case side2 => exact HC1.out); rintro e w' ⟨rfl, ⟨nd, rfl⟩⟩) | (go_at_call 34; (with_reducible refine (tailwaterref04_Check.calls k _ _ l0 t294 _ ?side1 ?side2 A9.out).mono ?_); (case side1 => repeat (first | exact (Kd.C_below HR0.out (by repeat (first | (with_reducible first | exact HB.out | apply below_alloc | apply pw_below_drewN | apply below_drew1) | exact HB.out))) | (with_reducible refine Kd.C_alloc ?_ _) | (with_reducible refine Kd.C_drewN ?_ _) | (with_reducible refine Kd.C_drew ?_))); (case side2 => exact HC0.out); rintro e w14 ⟨rfl, hb⟩; have n0_ := Aside0.mk (below_step (by repeat (first | (with_reducible first | exact HB.out | apply below_alloc | apply pw_below_drewN | apply below_drew1) | exact HB.out)) hb); clear HB; have HB := n0_; clear n0_; (try clear hb); (try clear hb2); (try clear hk); (try clear hi)) | (go_at_call 34; (with_reducible refine (tailwaterref04_Check.calls k _ _ l1 t295 _ ?side1 ?side2 A11.out).mono ?_); (case side1 => repeat (first | exact (Kd.C_below HR1.out HB.out) | (with_reducible refine Kd.C_alloc ?_ _) | (with_reducible refine Kd.C_drewN ?_ _) | (with_reducible refine Kd.C_drew ?_))); (case side2 => exact HC1.out); rintro e w15 ⟨rfl, hb⟩; have n0_ := Aside0.mk (below_step (by repeat (first | (with_reducible first | exact HB.out | apply below_alloc | apply pw_below_drewN | apply below_drew1) | exact HB.out)) hb); clear HB; have HB := n0_; clear n0_; (try clear hb); (try clear hb2); (try clear hk); (try clear hi)))
              go_meet
              case rel => exact ⟨_, (true), (by first | rfl | (simp; done) | (simp [*]; done)), H', ⟨by first | omega | exact Nat.le_refl _⟩, ⟨by repeat (first | (with_reducible first | exact HB.out | apply below_alloc | apply pw_below_drewN | apply below_drew1) | exact HB.out)⟩⟩
            · rw [if_neg c13] at H
              have c13b0 : decide (a2 < 0) = false := decide_eq_false c13
              clear c13
              have H' := Aside0.mk H
              clear H
              go_wp2_with (first | ((with_reducible refine gate_callee (f := 33) rfl ?_); refine goesL_ (some 20) rfl rfl Try.func33 (by kernel_rfl) rfl #[.slice A0 l0.length c0] rfl (by (try simp only [List.map_toArray, List.map_cons, List.map_nil]); first | done | rfl | (simp only [List.length_drop, List.length_take]; rfl)) ?_; (with_reducible refine (tailwaterref04_Great.calls _ _ l0 false _ ?side1 ?side2 A5.out).mono ?_); (case side1 => repeat (first | exact (Kd.C_below HR0.out HB.out) | (with_reducible refine Kd.C_alloc ?_ _) | (with_reducible refine Kd.C_drewN ?_ _) | (with_reducible refine Kd.C_drew ?_))); (case side2 => exact HC0.out); rintro e w' ⟨rfl, ⟨nd, rfl⟩⟩; refine ⟨_, rfl, ?_⟩) | (go_at_call 33; (with_reducible refine (tailwaterref04_Great.calls _ _ l1 false _ ?side1 ?side2 A7.out).mono ?_); (case side1 => repeat (first | exact (Kd.C_below HR1.out (by repeat (first | (with_reducible first | exact HB.out | apply below_alloc | apply pw_below_drewN | apply below_drew1) | exact HB.out))) | (with_reducible refine Kd.C_alloc ?_ _) | (with_reducible refine Kd.C_drewN ?_ _) | (with_reducible refine Kd.C_drew ?_))); (case side2 => exact HC1.out); rintro e w' ⟨rfl, ⟨nd, rfl⟩⟩) | (go_at_call 34; (with_reducible refine (tailwaterref04_Check.calls k _ _ l0 t294 _ ?side1 ?side2 A9.out).mono ?_); (case side1 => repeat (first | exact (Kd.C_below HR0.out (by repeat (first | (with_reducible first | exact HB.out | apply below_alloc | apply pw_below_drewN | apply below_drew1) | exact HB.out))) | (with_reducible refine Kd.C_alloc ?_ _) | (with_reducible refine Kd.C_drewN ?_ _) | (with_reducible refine Kd.C_drew ?_))); (case side2 => exact HC0.out); rintro e w16 ⟨rfl, hb⟩; have n0_ := Aside0.mk (below_step (by repeat (first | (with_reducible first | exact HB.out | apply below_alloc | apply pw_below_drewN | apply below_drew1) | exact HB.out)) hb); clear HB; have HB := n0_; clear n0_; (try clear hb); (try clear hb2); (try clear hk); (try clear hi)) | (go_at_call 34; (with_reducible refine (tailwaterref04_Check.calls k _ _ l1 t295 _ ?side1 ?side2 A11.out).mono ?_); (case side1 => repeat (first | exact (Kd.C_below HR1.out HB.out) | (with_reducible refine Kd.C_alloc ?_ _) | (with_reducible refine Kd.C_drewN ?_ _) | (with_reducible refine Kd.C_drew ?_))); (case side2 => exact HC1.out); rintro e w17 ⟨rfl, hb⟩; have n0_ := Aside0.mk (below_step (by repeat (first | (with_reducible first | exact HB.out | apply below_alloc | apply pw_below_drewN | apply below_drew1) | exact HB.out)) hb); clear HB; have HB := n0_; clear n0_; (try clear hb); (try clear hb2); (try clear hk); (try clear hi)))
              go_meet
              case rel => exact ⟨_, (decide (a2 > 400)), (by first | rfl | (simp; done) | (simp [*]; done)), H', ⟨by first | omega | exact Nat.le_refl _⟩, ⟨by repeat (first | (with_reducible first | exact HB.out | apply below_alloc | apply pw_below_drewN | apply below_drew1) | exact HB.out)⟩⟩
          · rw [if_neg c12] at H
            have c12b0 : (t295 == 0) = false := beq_eq_false_iff_ne.mpr c12
            have c12b1 : (t295 != 0) = true := bne_iff_ne.mpr c12
            have H' := Aside0.mk H
            clear H
            go_wp2_with (first | ((with_reducible refine gate_callee (f := 33) rfl ?_); refine goesL_ (some 20) rfl rfl Try.func33 (by kernel_rfl) rfl #[.slice A0 l0.length c0] rfl (by (try simp only [List.map_toArray, List.map_cons, List.map_nil]); first | done | rfl | (simp only [List.length_drop, List.length_take]; rfl)) ?_; (with_reducible refine (tailwaterref04_Great.calls _ _ l0 false _ ?side1 ?side2 A5.out).mono ?_); (case side1 => repeat (first | exact (Kd.C_below HR0.out HB.out) | (with_reducible refine Kd.C_alloc ?_ _) | (with_reducible refine Kd.C_drewN ?_ _) | (with_reducible refine Kd.C_drew ?_))); (case side2 => exact HC0.out); rintro e w' ⟨rfl, ⟨nd, rfl⟩⟩; refine ⟨_, rfl, ?_⟩) | (go_at_call 33; (with_reducible refine (tailwaterref04_Great.calls _ _ l1 false _ ?side1 ?side2 A7.out).mono ?_); (case side1 => repeat (first | exact (Kd.C_below HR1.out (by repeat (first | (with_reducible first | exact HB.out | apply below_alloc | apply pw_below_drewN | apply below_drew1) | exact HB.out))) | (with_reducible refine Kd.C_alloc ?_ _) | (with_reducible refine Kd.C_drewN ?_ _) | (with_reducible refine Kd.C_drew ?_))); (case side2 => exact HC1.out); rintro e w' ⟨rfl, ⟨nd, rfl⟩⟩) | (go_at_call 34; (with_reducible refine (tailwaterref04_Check.calls k _ _ l0 t294 _ ?side1 ?side2 A9.out).mono ?_); (case side1 => repeat (first | exact (Kd.C_below HR0.out (by repeat (first | (with_reducible first | exact HB.out | apply below_alloc | apply pw_below_drewN | apply below_drew1) | exact HB.out))) | (with_reducible refine Kd.C_alloc ?_ _) | (with_reducible refine Kd.C_drewN ?_ _) | (with_reducible refine Kd.C_drew ?_))); (case side2 => exact HC0.out); rintro e w18 ⟨rfl, hb⟩; have n0_ := Aside0.mk (below_step (by repeat (first | (with_reducible first | exact HB.out | apply below_alloc | apply pw_below_drewN | apply below_drew1) | exact HB.out)) hb); clear HB; have HB := n0_; clear n0_; (try clear hb); (try clear hb2); (try clear hk); (try clear hi)) | (go_at_call 34; (with_reducible refine (tailwaterref04_Check.calls k _ _ l1 t295 _ ?side1 ?side2 A11.out).mono ?_); (case side1 => repeat (first | exact (Kd.C_below HR1.out HB.out) | (with_reducible refine Kd.C_alloc ?_ _) | (with_reducible refine Kd.C_drewN ?_ _) | (with_reducible refine Kd.C_drew ?_))); (case side2 => exact HC1.out); rintro e w19 ⟨rfl, hb⟩; have n0_ := Aside0.mk (below_step (by repeat (first | (with_reducible first | exact HB.out | apply below_alloc | apply pw_below_drewN | apply below_drew1) | exact HB.out)) hb); clear HB; have HB := n0_; clear n0_; (try clear hb); (try clear hb2); (try clear hk); (try clear hi)))
            go_meet
            case rel => exact ⟨_, (true), (by first | rfl | (simp; done) | (simp [*]; done)), H', ⟨by first | omega | exact Nat.le_refl _⟩, ⟨by repeat (first | (with_reducible first | exact HB.out | apply below_alloc | apply pw_below_drewN | apply below_drew1) | exact HB.out)⟩⟩
        · rw [if_neg c10] at H
          have c10b0 : (t294 == 0) = false := beq_eq_false_iff_ne.mpr c10
          have c10b1 : (t294 != 0) = true := bne_iff_ne.mpr c10
          (first | rw [c10b0] | (simp only [i64_w, i32_w]; rw [c10b0]) | skip)
          have H' := Aside0.mk H
          clear H
          go_wp2_with (first | ((with_reducible refine gate_callee (f := 33) rfl ?_); refine goesL_ (some 20) rfl rfl Try.func33 (by kernel_rfl) rfl #[.slice A0 l0.length c0] rfl (by (try simp only [List.map_toArray, List.map_cons, List.map_nil]); first | done | rfl | (simp only [List.length_drop, List.length_take]; rfl)) ?_; (with_reducible refine (tailwaterref04_Great.calls _ _ l0 false _ ?side1 ?side2 A5.out).mono ?_); (case side1 => repeat (first | exact (Kd.C_below HR0.out HB.out) | (with_reducible refine Kd.C_alloc ?_ _) | (with_reducible refine Kd.C_drewN ?_ _) | (with_reducible refine Kd.C_drew ?_))); (case side2 => exact HC0.out); rintro e w' ⟨rfl, ⟨nd, rfl⟩⟩; refine ⟨_, rfl, ?_⟩) | (go_at_call 33; (with_reducible refine (tailwaterref04_Great.calls _ _ l1 false _ ?side1 ?side2 A7.out).mono ?_); (case side1 => repeat (first | exact (Kd.C_below HR1.out (by repeat (first | (with_reducible first | exact HB.out | apply below_alloc | apply pw_below_drewN | apply below_drew1) | exact HB.out))) | (with_reducible refine Kd.C_alloc ?_ _) | (with_reducible refine Kd.C_drewN ?_ _) | (with_reducible refine Kd.C_drew ?_))); (case side2 => exact HC1.out); rintro e w' ⟨rfl, ⟨nd, rfl⟩⟩) | (go_at_call 34; (with_reducible refine (tailwaterref04_Check.calls k _ _ l0 t294 _ ?side1 ?side2 A9.out).mono ?_); (case side1 => repeat (first | exact (Kd.C_below HR0.out (by repeat (first | (with_reducible first | exact HB.out | apply below_alloc | apply pw_below_drewN | apply below_drew1) | exact HB.out))) | (with_reducible refine Kd.C_alloc ?_ _) | (with_reducible refine Kd.C_drewN ?_ _) | (with_reducible refine Kd.C_drew ?_))); (case side2 => exact HC0.out); rintro e w20 ⟨rfl, hb⟩; have n0_ := Aside0.mk (below_step (by repeat (first | (with_reducible first | exact HB.out | apply below_alloc | apply pw_below_drewN | apply below_drew1) | exact HB.out)) hb); clear HB; have HB := n0_; clear n0_; (try clear hb); (try clear hb2); (try clear hk); (try clear hi)))
          go_meet
          case rel => exact ⟨_, (true), (by first | rfl | (simp; done) | (simp [*]; done)), H', ⟨by first | omega | exact Nat.le_refl _⟩, ⟨by repeat (first | (with_reducible first | exact HB.out | apply below_alloc | apply pw_below_drewN | apply below_drew1) | exact HB.out)⟩⟩
  case rest =>
    clear HC4
    try clear c1
    try clear p2
    try clear c3
    try clear c6
    try clear c8
    try clear c10
    try clear c10b0
    try clear c10b1
    try clear c12
    try clear c12b0
    try clear c12b1
    try clear c13
    try clear c13b0
    obtain ⟨kq, x42_3, rfl, HA, HJ3, HB⟩ := hcut
    cases kq with
    | zero => exact absurd HA.out (by simp [tailwaterlaw04_NodesSame.j0])
    | succ kj3 =>
      have H := HA.out
      clear HA
      simp only [tailwaterlaw04_NodesSame.j0] at H
      by_cases c21 : x42_3 = true
      · subst c21
        have H1 : ((tailwaterlaw04_alive.f kj3).bind fun t296 => (some t296)) = some true := by rw [if_pos rfl] at H; exact H
        clear H
        have H := H1
        clear H1
        replace H := Option.bind_eq_some_iff.mp H
        obtain ⟨t296, A220, H⟩ := H
        replace H : (some t296) = some true := H
        have A22 := Aside0.mk A220
        clear A220
        have hv_ := Option.some.inj H
        clear H
        go_wp2_with (first | ((with_reducible refine gate_callee (f := 35) rfl ?_); refine goesL_ (some 43) rfl rfl Try.func35 (by kernel_rfl) rfl #[] rfl (by (try simp only [List.map_toArray, List.map_cons, List.map_nil]); first | done | rfl | (simp only [List.length_drop, List.length_take]; rfl)) ?_; (with_reducible refine (tailwaterlaw04_alive.calls kj3  t296 _ A22.out).mono ?_); rintro e w23 ⟨rfl, hb⟩; refine ⟨_, rfl, ?_⟩; have n0_ := Aside0.mk (below_step (by repeat (first | (with_reducible first | exact HB.out | apply below_alloc | apply pw_below_drewN | apply below_drew1) | exact HB.out)) hb); clear HB; have HB := n0_; clear n0_; (try clear hb); (try clear hb2); (try clear hk); (try clear hi)))
        go_ret
        exact ⟨by first | rfl | (simp [errW_none, errW_some] <;> rfl) | (simp [*, errW_none, errW_some] <;> rfl), by repeat (first | (with_reducible first | exact HB.out | apply below_alloc | apply pw_below_drewN | apply below_drew1) | exact HB.out)⟩
      · replace c21 := Bool.eq_false_iff.mpr c21
        subst c21
        have H1 : ((nodes_Same.f kj3 l0 l1).bind fun bt297 => ((nodes_Same.f kj3 l1 l0).bind fun bt299 => ((some (([] : List (S36)) : List (S36))).bind fun y301 => (if y301.length + l0.length < 3518437208883 then (tailwaterlaw04_NodesSame.l0 kj3 l0 l1 a2 bt297.1 bt297.2 bt299.1 bt299.2 (y301 ++ l0) 0) else (none))))) = some true := by rw [if_neg (show ¬ (false = true) by decide)] at H; exact H
        clear H
        have H := H1
        clear H1
        replace H := Option.bind_eq_some_iff.mp H
        obtain ⟨⟨t297, t298⟩, A240, H⟩ := H
        replace H : ((nodes_Same.f kj3 l1 l0).bind fun bt299 => ((some (([] : List (S36)) : List (S36))).bind fun y301 => (if y301.length + l0.length < 3518437208883 then (tailwaterlaw04_NodesSame.l0 kj3 l0 l1 a2 t297 t298 bt299.1 bt299.2 (y301 ++ l0) 0) else (none)))) = some true := H
        have A24 := Aside0.mk A240
        clear A240
        replace H := Option.bind_eq_some_iff.mp H
        obtain ⟨⟨t299, t300⟩, A250, H⟩ := H
        replace H : ((some (([] : List (S36)) : List (S36))).bind fun y301 => (if y301.length + l0.length < 3518437208883 then (tailwaterlaw04_NodesSame.l0 kj3 l0 l1 a2 t297 t298 t299 t300 (y301 ++ l0) 0) else (none))) = some true := H
        have A25 := Aside0.mk A250
        clear A250
        obtain ⟨y301, hy301⟩ : ∃ y_ : List (S36), y_ = (([] : List (S36))) := ⟨_, rfl⟩
        replace H : (if y301.length + l0.length < 3518437208883 then (tailwaterlaw04_NodesSame.l0 kj3 l0 l1 a2 t297 t298 t299 t300 (y301 ++ l0) 0) else (none)) = some true := by first | (rw [hy301]; with_reducible exact H) | (have H2_ := (Option.bind_some _ _).symm.trans H; rw [hy301]; with_reducible exact H2_) | (have H2_ := (Option.bind_some _ _).symm.trans H; with_reducible exact H2_) | with_reducible exact H | (rw [hy301]; exact H) | exact H
        have Ny301 := Aside0.mk hy301
        clear hy301
        by_cases c26 : y301.length + l0.length < 3518437208883
        · rw [if_pos c26] at H
          have LMc26 := Aside0.mk c26
          clear c26
          obtain ⟨y304, hy304⟩ : ∃ y_ : List (S36), y_ = (y301 ++ l0) := ⟨_, rfl⟩
          replace H : (tailwaterlaw04_NodesSame.l0 kj3 l0 l1 a2 t297 t298 t299 t300 y304 0) = some true := by first | (rw [hy304]; with_reducible exact H) | (have H2_ := (Option.bind_some _ _).symm.trans H; rw [hy304]; with_reducible exact H2_) | (have H2_ := (Option.bind_some _ _).symm.trans H; with_reducible exact H2_) | with_reducible exact H | (rw [hy304]; exact H) | exact H
          have Ny304 := Aside0.mk hy304
          clear hy304
          have H' := Aside0.mk H
          clear H
          go_wp2_with (first | ((with_reducible refine gate_callee (f := 47) rfl ?_); refine goesL_ (some 47) rfl rfl Try.func47 (by kernel_rfl) rfl #[.slice A0 l0.length c0, .slice A1 l1.length c1] rfl (by (try simp only [List.map_toArray, List.map_cons, List.map_nil]); first | done | rfl | (simp only [List.length_drop, List.length_take]; rfl)) ?_; (with_reducible refine (nodes_Same.calls kj3 _ _ l0 _ _ l1 t297 t298 _ ?side1 ?side2 ?side3 ?side4 A24.out).mono ?_); (case side1 => repeat (first | exact (Kd.C_below HR0.out HB.out) | (with_reducible refine Kd.C_alloc ?_ _) | (with_reducible refine Kd.C_drewN ?_ _) | (with_reducible refine Kd.C_drew ?_))); (case side2 => exact HC0.out); (case side3 => repeat (first | exact (Kd.C_below HR1.out HB.out) | (with_reducible refine Kd.C_alloc ?_ _) | (with_reducible refine Kd.C_drewN ?_ _) | (with_reducible refine Kd.C_drew ?_))); (case side4 => exact HC1.out); rintro e w27 ⟨rfl, hb⟩; refine ⟨_, rfl, ?_⟩; have n0_ := Aside0.mk (below_step (by repeat (first | (with_reducible first | exact HB.out | apply below_alloc | apply pw_below_drewN | apply below_drew1) | exact HB.out)) hb); clear HB; have HB := n0_; clear n0_; (try clear hb); (try clear hb2); (try clear hk); (try clear hi)) | ((with_reducible refine gate_callee (f := 47) rfl ?_); refine goesL_ (some 53) rfl rfl Try.func47 (by kernel_rfl) rfl #[.slice A1 l1.length c1, .slice A0 l0.length c0] rfl (by (try simp only [List.map_toArray, List.map_cons, List.map_nil]); first | done | rfl | (simp only [List.length_drop, List.length_take]; rfl)) ?_; (with_reducible refine (nodes_Same.calls kj3 _ _ l1 _ _ l0 t299 t300 _ ?side1 ?side2 ?side3 ?side4 A25.out).mono ?_); (case side1 => repeat (first | exact (Kd.C_below HR1.out HB.out) | (with_reducible refine Kd.C_alloc ?_ _) | (with_reducible refine Kd.C_drewN ?_ _) | (with_reducible refine Kd.C_drew ?_))); (case side2 => exact HC1.out); (case side3 => repeat (first | exact (Kd.C_below HR0.out HB.out) | (with_reducible refine Kd.C_alloc ?_ _) | (with_reducible refine Kd.C_drewN ?_ _) | (with_reducible refine Kd.C_drew ?_))); (case side4 => exact HC0.out); rintro e w28 ⟨rfl, hb⟩; refine ⟨_, rfl, ?_⟩; have n0_ := Aside0.mk (below_step (by repeat (first | (with_reducible first | exact HB.out | apply below_alloc | apply pw_below_drewN | apply below_drew1) | exact HB.out)) hb); clear HB; have HB := n0_; clear n0_; (try clear hb); (try clear hb2); (try clear hk); (try clear hi)) | ((with_reducible refine gate_dst (N := 56) rfl ?_); (try (refine gate_guard (by rfl) ?_; dsimp only)); refine Kd.R_lit k36 _ 36 ?hg (N := 56) ?hd (xs := ([] : List (S36))) (inner := []) (ok := fun _ => True) (okp := fun _ => True) ?hr ?hp (fun _ hk => hk) trivial (Below.refl _ _) (Nat.le_refl _) (by simp) ?_; (case hd => rfl); (case hg => rfl); (case hr => first | (go_simp; done) | (go_simp; rfl)); (case hp => exact (Reps.none _ _)); intro v302 w29 ho30 hb hg_ hnew_; clear hg_ hnew_; (first | rw [← Ny301.out] at ho30 | (simp only [Int.reduceToNat] at ho30; rw [← Ny301.out] at ho30)); have n0_ := Aside0.mk (Kd.R_lower ho30 (below_size (by repeat (first | (with_reducible first | exact HB.out | apply below_alloc | apply pw_below_drewN | apply below_drew1) | exact HB.out)))); have n1_ := Aside0.mk (below_step (by repeat (first | (with_reducible first | exact HB.out | apply below_alloc | apply pw_below_drewN | apply below_drew1) | exact HB.out)) hb); clear HB; have HO303 := n0_; have HB := n1_; clear n0_ n1_; clear hb ho30) | ((with_reducible refine gate_builtin (b := .append) (xs := #[.tmp 56, .tmp 57]) rfl ?_); (try (refine gate_guard (by rfl) ?_; dsimp only)); at_builtin; refine Kd.R_append_rows k36 (w0 := w) w.heap.size rfl (.tmp 56) (.tmp 57) 22 36 (.agg #[(.int .u8 0), (.int .i64 0), (.int .i64 0), (.int .i64 0), (.int .i64 0)]) 40 rfl Try.underlying22 info36 rfl (by decide) (by omega) v302 y301 l0 _ _ _ (fun _ => True) (fun _ => False) rfl rfl ?aO ?aR (fun _ _ h => h) (fun _ h => h.elim) ?aF ?aB ?aS ?aL ?_; (case aR => repeat (first | exact (Kd.C_below HR0.out HB.out) | (with_reducible refine Kd.C_alloc ?_ _) | (with_reducible refine Kd.C_drewN ?_ _) | (with_reducible refine Kd.C_drew ?_))); (case aB => exact (by repeat (first | (with_reducible first | exact HB.out | apply below_alloc | apply pw_below_drewN | apply below_drew1) | exact HB.out))); (case aF => exact (fun _ _ => trivial)); (case aO => exact (by (with_reducible repeat (first | apply Kd.R_alloc | apply Kd.R_drewN | apply Kd.R_drew)); exact HO303.out)); (case aS => exact (below_size (by repeat (first | (with_reducible first | exact HB.out | apply below_alloc | apply pw_below_drewN | apply below_drew1) | exact HB.out)))); (case aL => have := LMc26.out; omega); intro v305 w31 ho hb hg hat; rw [← Ny304.out] at ho; have n0_ := Aside0.mk (hb); have n1_ := Aside0.mk (ho); clear HB; clear HO303; have HB := n0_; have HO306 := n1_; clear n0_ n1_; clear ho hb hg hat))
          go_loopg [12] kj3 (fun kq v12 w' => ∃ (x11_2 : List (S36)) (x12_2 : Int), v12 = .int .i64 x12_2 ∧ Aside0 (tailwaterlaw04_NodesSame.l0 kq l0 l1 a2 t297 t298 t299 t300 x11_2 x12_2 = some true) ∧ Aside0 (kq ≤ kj3) ∧ Aside0 (Kd.R k36 36 w' w.heap.size (fun _ => True) v305 x11_2) ∧ Aside0 (Below w.heap.size w w'))
          case atStart => exact ⟨(y304), (0), (by first | rfl | (simp; done) | (simp [*]; done)), H', ⟨Nat.le_refl _⟩, ⟨by (with_reducible repeat (first | apply Kd.R_alloc | apply Kd.R_drewN | apply Kd.R_drew)); exact HO306.out⟩, ⟨by repeat (first | (with_reducible first | exact HB.out | apply below_alloc | apply pw_below_drewN | apply below_drew1) | exact HB.out)⟩⟩
          case round =>
            clear H'
            try clear c1
            try clear c2
            try clear p2
            try clear c3
            try clear c4
            try clear c6
            try clear c8
            try clear c10
            try clear c10b0
            try clear c10b1
            try clear c12
            try clear c12b0
            try clear c12b1
            try clear c13
            try clear c13b0
            try clear c21
            try clear c26
            try clear p2
            obtain ⟨x11_2, x12_2, rfl, HA, HK2, HO_11, HB⟩ := hrel
            cases gk with
            | zero => exact absurd HA.out (by simp [tailwaterlaw04_NodesSame.l0])
            | succ k2 =>
              have H := HA.out
              clear HA
              simp only [tailwaterlaw04_NodesSame.l0] at H
              by_cases c32 : x12_2 < (x11_2.length : Int)
              · rw [if_pos c32] at H
                have c32b0 : decide (x12_2 < (x11_2.length : Int)) = true := decide_eq_true c32
                clear c32
                by_cases c33 : 0 ≤ x12_2
                · rw [if_pos c33] at H
                  have c33b0 : decide (0 ≤ x12_2) = true := decide_eq_true c33
                  clear c33
                  obtain ⟨y307, hy307⟩ : ∃ y_ : List (S36), y_ = (x11_2.set (x12_2 : Int).toNat (⟨(rd_T36 x11_2 x12_2).f0, (rd_T36 x11_2 x12_2).f1, (rd_T36 x11_2 x12_2).f2, (rd_T36 x11_2 x12_2).f3, a2⟩ : S36)) := ⟨_, rfl⟩
                  replace H : (tailwaterlaw04_NodesSame.l0 k2 l0 l1 a2 t297 t298 t299 t300 y307 (wrap64 (x12_2 + 1))) = some true := by first | (rw [hy307]; with_reducible exact H) | (have H2_ := (Option.bind_some _ _).symm.trans H; rw [hy307]; with_reducible exact H2_) | (have H2_ := (Option.bind_some _ _).symm.trans H; with_reducible exact H2_) | with_reducible exact H | (rw [hy307]; exact H) | exact H
                  have Ny307 := Aside0.mk hy307
                  clear hy307
                  have H' := Aside0.mk H
                  clear H
                  obtain ⟨Ao35, co35, eo35⟩ := Kd.R_slice HO_11.out
                  subst eo35
                  have p34 : 0 ≤ (x12_2 : Int) := of_decide_eq_true (by first | (with_reducible assumption) | assumption)
                  have q34 : (x12_2 : Int) < ((x11_2.length : Int) : Int) := of_decide_eq_true (by first | (with_reducible assumption) | assumption)
                  obtain ⟨go34, co34, eo34, gb34, gl34, cl34, HG34⟩ := Kd.R_form HO_11.out (by omega)
                  (first | cases eo34 | (injection eo34 with ea_ en_ ec_; (first | subst ea_ | (injection ea_ with ea_; subst ea_)); subst ec_; clear en_))
                  have GB34 := Aside0.mk gb34
                  have GG34 := Aside0.mk HG34
                  clear gb34 gl34 HG34
                  obtain ⟨ce34, hcl34, hM34, hcc34, hfr34⟩ := Kd.R_elem HO_11.out z36 (x12_2 : Int) p34 q34
                  obtain rfl := k36_openM hM34
                  have hx34_0 : wr.cell? ⟨go34, (x12_2 : Int).toNat * 5, none⟩ = some (.int .u8 ((rd_T36 x11_2 x12_2).f0)) := hcc34 0 _ rfl
                  have hx34_1 : wr.cell? ⟨go34, (x12_2 : Int).toNat * 5 + 1, none⟩ = some (.int .i64 ((rd_T36 x11_2 x12_2).f1)) := hcc34 1 _ rfl
                  have hx34_2 : wr.cell? ⟨go34, (x12_2 : Int).toNat * 5 + 2, none⟩ = some (.int .i64 ((rd_T36 x11_2 x12_2).f2)) := hcc34 2 _ rfl
                  have hx34_3 : wr.cell? ⟨go34, (x12_2 : Int).toNat * 5 + 3, none⟩ = some (.int .i64 ((rd_T36 x11_2 x12_2).f3)) := hcc34 3 _ rfl
                  have hx34_4 : wr.cell? ⟨go34, (x12_2 : Int).toNat * 5 + 4, none⟩ = some (.int .i64 ((rd_T36 x11_2 x12_2).f4)) := hcc34 4 _ rfl
                  have hf34_0 : wr.frozen? ⟨go34, (x12_2 : Int).toNat * 5, none⟩ = false := hfr34 0
                  have hf34_1 : wr.frozen? ⟨go34, (x12_2 : Int).toNat * 5 + 1, none⟩ = false := hfr34 1
                  have hf34_2 : wr.frozen? ⟨go34, (x12_2 : Int).toNat * 5 + 2, none⟩ = false := hfr34 2
                  have hf34_3 : wr.frozen? ⟨go34, (x12_2 : Int).toNat * 5 + 3, none⟩ = false := hfr34 3
                  have hf34_4 : wr.frozen? ⟨go34, (x12_2 : Int).toNat * 5 + 4, none⟩ = false := hfr34 4
                  clear hcl34 hcc34 hfr34 hM34
                  replace p34 := eq_true p34
                  replace q34 := eq_true q34
                  have HX36 := Aside0.mk (show Kd.R k36 36 wr w.heap.size (fun _ => True) (.slice (some ⟨go34, 0, none⟩) x11_2.length co35) x11_2 from (by (with_reducible repeat (first | apply Kd.R_alloc | apply Kd.R_drewN | apply Kd.R_drew)); exact HO_11.out))
                  obtain ⟨ce36, hcl36, hM36, hcc36, hfr36⟩ := Kd.R_elem HX36.out z36 (x12_2 : Int) (of_decide_eq_true (by first | (with_reducible assumption) | assumption)) (by have h_ : (x12_2 : Int) < ((x11_2.length : Int) : Int) := of_decide_eq_true (by first | (with_reducible assumption) | assumption); first | exact h_ | (have e_ := (Kd.R_reads' HO_11.out).1; omega) | simpa using h_)
                  obtain rfl := k36_openM hM36
                  have HP36 := Kd.R_seg HX36.out (x12_2 : Int) (of_decide_eq_true (by first | (with_reducible assumption) | assumption)) (by have h_ : (x12_2 : Int) < ((x11_2.length : Int) : Int) := of_decide_eq_true (by first | (with_reducible assumption) | assumption); first | exact h_ | (have e_ := (Kd.R_reads' HO_11.out).1; omega) | simpa using h_) (seg := [.int .i64 a2]) (j := 4) hcl36 hcc36 (show 5 ≤ 5 from by decide) (x' := (⟨(rd_T36 x11_2 x12_2).f0, (rd_T36 x11_2 x12_2).f1, (rd_T36 x11_2 x12_2).f2, (rd_T36 x11_2 x12_2).f3, a2⟩ : S36)) (k36_mkM _ _ _ (⟨(rd_T36 x11_2 x12_2).f0, (rd_T36 x11_2 x12_2).f1, (rd_T36 x11_2 x12_2).f2, (rd_T36 x11_2 x12_2).f3, a2⟩ : S36) ) (fun _ hk => hk)
                  have hx36_4 := hcc36 4 _ rfl
                  (try simp only [show (k36).sz = 5 from rfl, Nat.mul_one, Nat.add_zero] at hx36_4)
                  have hf36_4 := hfr36 4
                  (try simp only [show (k36).sz = 5 from rfl, Nat.mul_one, Nat.add_zero] at hf36_4)
                  clear hcl36 hcc36 hfr36 hM36
                  go_wp2_with (first | ((with_reducible refine gate_store (t := 3) (p := 69) rfl ?_); refine store_event (t := 3) (p := 69) (v := ?vo_w37) (w1 := (wr.setCell ⟨go34, (x12_2 : Int).toNat * 5 + 4, none⟩ (.int .i64 a2))) ?hg ?ho ?hn ?hr ?_; (case ho => rfl); (case hg => rfl); (case hn => rfl); (case hr => first | (go_simp; done) | (go_simp; rfl)); intro w37 hw; have hg : wr.grownBy w37 (some go34) := (by rw [hw]; exact HP36.2); have hp_ : Kd.R k36 36 w37 w.heap.size (fun _ => True) (.slice (some ⟨go34, 0, none⟩) x11_2.length co35) y307 := (by rw [hw, Ny307.out]; exact HP36.1); clear HP36; have n0_ := Aside0.mk (hp_); have n1_ := Aside0.mk ((by rw [hw]; exact below_set (HB.out) GB34.out : Below w.heap.size w w37)); clear HO_11; clear HB; have HO_11 := n0_; have HB := n1_; clear n0_ n1_; clear hg hw hp_))
                  go_roundg k2
                  case measure => have := HJ3.out; have := HK2.out; omega
                  case rel => exact ⟨(y307), (wrap64 (x12_2 + 1)), (by first | rfl | (simp; done) | (simp [*]; done)), H', ⟨by have := HJ3.out; have := HK2.out; omega⟩, ⟨by (with_reducible repeat (first | apply Kd.R_alloc | apply Kd.R_drewN | apply Kd.R_drew)); exact HO_11.out⟩, ⟨by repeat (first | (with_reducible first | exact HB.out | apply below_alloc | apply pw_below_drewN | apply below_drew1) | exact HB.out)⟩⟩
                · rw [if_neg c33] at H
                  exact absurd H (by simp)
              · rw [if_neg c32] at H
                have c32b0 : decide (x12_2 < (x11_2.length : Int)) = false := decide_eq_false c32
                clear c32
                replace H := Option.bind_eq_some_iff.mp H
                obtain ⟨⟨t308, t309⟩, A380, H⟩ := H
                replace H : ((nodes_Depth.f k2 l0).bind fun bt310 => ((nodes_Depth.f k2 l1).bind fun bt312 => (if t298 = 0 then (if t300 = 0 then (if t309 = 0 then (if bt310.2 = 0 then (if bt312.2 = 0 then (if (t297 == t299) = true then (if t308 = true then (if t297 = true then (if bt310.1 = bt312.1 then (if (l0.length : Int) = (l1.length : Int) then ((tailwaterlaw04_alive.f k2).bind fun t314 => (some t314)) else (some false)) else (some false)) else ((tailwaterref04_Equal.f k2 l0 l1).bind fun t315 => (if t315 = true then (some false) else ((tailwaterlaw04_alive.f k2).bind fun t316 => (some t316))))) else (some false)) else (some false)) else (some false)) else (some false)) else (some false)) else (some false)) else (some false)))) = some true := H
                have A38 := Aside0.mk A380
                clear A380
                replace H := Option.bind_eq_some_iff.mp H
                obtain ⟨⟨t310, t311⟩, A390, H⟩ := H
                replace H : ((nodes_Depth.f k2 l1).bind fun bt312 => (if t298 = 0 then (if t300 = 0 then (if t309 = 0 then (if t311 = 0 then (if bt312.2 = 0 then (if (t297 == t299) = true then (if t308 = true then (if t297 = true then (if t310 = bt312.1 then (if (l0.length : Int) = (l1.length : Int) then ((tailwaterlaw04_alive.f k2).bind fun t314 => (some t314)) else (some false)) else (some false)) else ((tailwaterref04_Equal.f k2 l0 l1).bind fun t315 => (if t315 = true then (some false) else ((tailwaterlaw04_alive.f k2).bind fun t316 => (some t316))))) else (some false)) else (some false)) else (some false)) else (some false)) else (some false)) else (some false)) else (some false))) = some true := H
                have A39 := Aside0.mk A390
                clear A390
                replace H := Option.bind_eq_some_iff.mp H
                obtain ⟨⟨t312, t313⟩, A400, H⟩ := H
                replace H : (if t298 = 0 then (if t300 = 0 then (if t309 = 0 then (if t311 = 0 then (if t313 = 0 then (if (t297 == t299) = true then (if t308 = true then (if t297 = true then (if t310 = t312 then (if (l0.length : Int) = (l1.length : Int) then ((tailwaterlaw04_alive.f k2).bind fun t314 => (some t314)) else (some false)) else (some false)) else ((tailwaterref04_Equal.f k2 l0 l1).bind fun t315 => (if t315 = true then (some false) else ((tailwaterlaw04_alive.f k2).bind fun t316 => (some t316))))) else (some false)) else (some false)) else (some false)) else (some false)) else (some false)) else (some false)) else (some false)) = some true := H
                have A40 := Aside0.mk A400
                clear A400
                by_cases c41 : t298 = 0
                · rw [if_pos c41] at H
                  have c41b0 : (t298 == 0) = true := beq_iff_eq.mpr c41
                  have c41b1 : (t298 != 0) = false := bne_eq_false_iff_eq.mpr c41
                  clear c41
                  by_cases c42 : t300 = 0
                  · rw [if_pos c42] at H
                    have c42b0 : (t300 == 0) = true := beq_iff_eq.mpr c42
                    have c42b1 : (t300 != 0) = false := bne_eq_false_iff_eq.mpr c42
                    clear c42
                    by_cases c43 : t309 = 0
                    · rw [if_pos c43] at H
                      have c43b0 : (t309 == 0) = true := beq_iff_eq.mpr c43
                      have c43b1 : (t309 != 0) = false := bne_eq_false_iff_eq.mpr c43
                      clear c43
                      by_cases c44 : t311 = 0
                      · rw [if_pos c44] at H
                        have c44b0 : (t311 == 0) = true := beq_iff_eq.mpr c44
                        have c44b1 : (t311 != 0) = false := bne_eq_false_iff_eq.mpr c44
                        clear c44
                        by_cases c45 : t313 = 0
                        · rw [if_pos c45] at H
                          have c45b0 : (t313 == 0) = true := beq_iff_eq.mpr c45
                          have c45b1 : (t313 != 0) = false := bne_eq_false_iff_eq.mpr c45
                          clear c45
                          by_cases c46 : (t297 == t299) = true
                          · rw [if_pos c46] at H
                            have c46b0 : (t297 == t299) = true := c46
                            (try (have c46b1 : decide (t297 = t299) = true := by simpa using c46))
                            (try (have c46b2 : (t297 == t299) = true := by simpa using c46))
                            clear c46
                            by_cases c47 : t308 = true
                            · subst c47
                              have H1 : (if t297 = true then (if t310 = t312 then (if (l0.length : Int) = (l1.length : Int) then ((tailwaterlaw04_alive.f k2).bind fun t314 => (some t314)) else (some false)) else (some false)) else ((tailwaterref04_Equal.f k2 l0 l1).bind fun t315 => (if t315 = true then (some false) else ((tailwaterlaw04_alive.f k2).bind fun t316 => (some t316))))) = some true := by rw [if_pos rfl] at H; exact H
                              clear H
                              have H := H1
                              clear H1
                              by_cases c48 : t297 = true
                              · subst c48
                                have H1 : (if t310 = t312 then (if (l0.length : Int) = (l1.length : Int) then ((tailwaterlaw04_alive.f k2).bind fun t314 => (some t314)) else (some false)) else (some false)) = some true := by rw [if_pos rfl] at H; exact H
                                clear H
                                have H := H1
                                clear H1
                                by_cases c49 : t310 = t312
                                · rw [if_pos c49] at H
                                  have c49b0 : (t310 == t312) = true := beq_iff_eq.mpr c49
                                  have c49b1 : (t310 != t312) = false := bne_eq_false_iff_eq.mpr c49
                                  clear c49
                                  by_cases c50 : (l0.length : Int) = (l1.length : Int)
                                  · rw [if_pos c50] at H
                                    have c50b0 : ((l0.length : Int) == (l1.length : Int)) = true := beq_iff_eq.mpr c50
                                    have c50b1 : ((l0.length : Int) != (l1.length : Int)) = false := bne_eq_false_iff_eq.mpr c50
                                    have c50b2 : (l0.length == l1.length) = true := by first | simpa using c50 | (simp at c50 ⊢; omega)
                                    clear c50
                                    replace H := Option.bind_eq_some_iff.mp H
                                    obtain ⟨t314, A510, H⟩ := H
                                    replace H : (some t314) = some true := H
                                    have A51 := Aside0.mk A510
                                    clear A510
                                    have hv_ := Option.some.inj H
                                    clear H
                                    obtain ⟨Ao52, co52, eo52⟩ := Kd.R_slice HO_11.out
                                    subst eo52
                                    go_wp2_with (first | ((with_reducible refine gate_callee (f := 47) rfl ?_); refine goesL_ (some 73) rfl rfl Try.func47 (by kernel_rfl) rfl #[.slice A0 l0.length c0, .slice Ao52 x11_2.length co52] rfl (by (try simp only [List.map_toArray, List.map_cons, List.map_nil]); first | done | rfl | (simp only [List.length_drop, List.length_take]; rfl)) ?_; (with_reducible refine (nodes_Same.calls k2 _ _ l0 _ _ x11_2 true t309 _ ?side1 ?side2 ?side3 ?side4 A38.out).mono ?_); (case side1 => repeat (first | exact (Kd.C_below HR0.out HB.out) | (with_reducible refine Kd.C_alloc ?_ _) | (with_reducible refine Kd.C_drewN ?_ _) | (with_reducible refine Kd.C_drew ?_))); (case side2 => exact HC0.out); (case side3 => repeat (first | exact (Kd.R_reads' HO_11.out).2.2 | (with_reducible refine Kd.C_alloc ?_ _) | (with_reducible refine Kd.C_drewN ?_ _) | (with_reducible refine Kd.C_drew ?_))); (case side4 => exact (Kd.R_reads' HO_11.out).2.1); rintro e w53 ⟨rfl, hb⟩; refine ⟨_, rfl, ?_⟩; have n0_ := Aside0.mk (Kd.R_below (by (with_reducible repeat (first | apply Kd.R_alloc | apply Kd.R_drewN | apply Kd.R_drew)); exact HO_11.out) hb); have n1_ := Aside0.mk (below_step (by repeat (first | (with_reducible first | exact HB.out | apply below_alloc | apply pw_below_drewN | apply below_drew1) | exact HB.out)) hb); clear HO_11; clear HB; have HO_11 := n0_; have HB := n1_; clear n0_ n1_; (try clear hb); (try clear hb2); (try clear hk); (try clear hi)) | ((with_reducible refine gate_callee (f := 38) rfl ?_); refine goesL_ (some 78) rfl rfl Try.func38 (by kernel_rfl) rfl #[.slice A0 l0.length c0] rfl (by (try simp only [List.map_toArray, List.map_cons, List.map_nil]); first | done | rfl | (simp only [List.length_drop, List.length_take]; rfl)) ?_; (with_reducible refine (nodes_Depth.calls k2 _ _ l0 t310 t311 _ ?side1 ?side2 A39.out).mono ?_); (case side1 => repeat (first | exact (Kd.C_below HR0.out HB.out) | (with_reducible refine Kd.C_alloc ?_ _) | (with_reducible refine Kd.C_drewN ?_ _) | (with_reducible refine Kd.C_drew ?_))); (case side2 => exact HC0.out); rintro e w54 ⟨rfl, hb⟩; refine ⟨_, rfl, ?_⟩; have n0_ := Aside0.mk (Kd.R_below (by (with_reducible repeat (first | apply Kd.R_alloc | apply Kd.R_drewN | apply Kd.R_drew)); exact HO_11.out) hb); have n1_ := Aside0.mk (below_step (by repeat (first | (with_reducible first | exact HB.out | apply below_alloc | apply pw_below_drewN | apply below_drew1) | exact HB.out)) hb); clear HO_11; clear HB; have HO_11 := n0_; have HB := n1_; clear n0_ n1_; (try clear hb); (try clear hb2); (try clear hk); (try clear hi)) | ((with_reducible refine gate_callee (f := 38) rfl ?_); refine goesL_ (some 83) rfl rfl Try.func38 (by kernel_rfl) rfl #[.slice A1 l1.length c1] rfl (by (try simp only [List.map_toArray, List.map_cons, List.map_nil]); first | done | rfl | (simp only [List.length_drop, List.length_take]; rfl)) ?_; (with_reducible refine (nodes_Depth.calls k2 _ _ l1 t312 t313 _ ?side1 ?side2 A40.out).mono ?_); (case side1 => repeat (first | exact (Kd.C_below HR1.out HB.out) | (with_reducible refine Kd.C_alloc ?_ _) | (with_reducible refine Kd.C_drewN ?_ _) | (with_reducible refine Kd.C_drew ?_))); (case side2 => exact HC1.out); rintro e w55 ⟨rfl, hb⟩; refine ⟨_, rfl, ?_⟩; have n0_ := Aside0.mk (Kd.R_below (by (with_reducible repeat (first | apply Kd.R_alloc | apply Kd.R_drewN | apply Kd.R_drew)); exact HO_11.out) hb); have n1_ := Aside0.mk (below_step (by repeat (first | (with_reducible first | exact HB.out | apply below_alloc | apply pw_below_drewN | apply below_drew1) | exact HB.out)) hb); clear HO_11; clear HB; have HO_11 := n0_; have HB := n1_; clear n0_ n1_; (try clear hb); (try clear hb2); (try clear hk); (try clear hi)) | (go_at_call 35; (with_reducible refine (tailwaterlaw04_alive.calls k2  t314 _ A51.out).mono ?_); rintro e w56 ⟨rfl, hb⟩; have n0_ := Aside0.mk (Kd.R_below (by (with_reducible repeat (first | apply Kd.R_alloc | apply Kd.R_drewN | apply Kd.R_drew)); exact HO_11.out) hb); have n1_ := Aside0.mk (below_step (by repeat (first | (with_reducible first | exact HB.out | apply below_alloc | apply pw_below_drewN | apply below_drew1) | exact HB.out)) hb); clear HO_11; clear HB; have HO_11 := n0_; have HB := n1_; clear n0_ n1_; (try clear hb); (try clear hb2); (try clear hk); (try clear hi)))
                                    go_ret
                                    exact ⟨by first | rfl | (simp [errW_none, errW_some] <;> rfl) | (simp [*, errW_none, errW_some] <;> rfl), by repeat (first | (with_reducible first | exact HB.out | apply below_alloc | apply pw_below_drewN | apply below_drew1) | exact HB.out)⟩
                                  · rw [if_neg c50] at H
                                    have c50b0 : ((l0.length : Int) == (l1.length : Int)) = false := beq_eq_false_iff_ne.mpr c50
                                    have c50b1 : ((l0.length : Int) != (l1.length : Int)) = true := bne_iff_ne.mpr c50
                                    have c50b2 : (l0.length == l1.length) = false := by first | simpa using c50 | (simp at c50 ⊢; omega)
                                    exact absurd H (by simp)
                                · rw [if_neg c49] at H
                                  have c49b0 : (t310 == t312) = false := beq_eq_false_iff_ne.mpr c49
                                  have c49b1 : (t310 != t312) = true := bne_iff_ne.mpr c49
                                  exact absurd H (by simp)
                              · replace c48 := Bool.eq_false_iff.mpr c48
                                subst c48
                                have H1 : ((tailwaterref04_Equal.f k2 l0 l1).bind fun t315 => (if t315 = true then (some false) else ((tailwaterlaw04_alive.f k2).bind fun t316 => (some t316)))) = some true := by rw [if_neg (show ¬ (false = true) by decide)] at H; exact H
                                clear H
                                have H := H1
                                clear H1
                                replace H := Option.bind_eq_some_iff.mp H
                                obtain ⟨t315, A570, H⟩ := H
                                replace H : (if t315 = true then (some false) else ((tailwaterlaw04_alive.f k2).bind fun t316 => (some t316))) = some true := H
                                have A57 := Aside0.mk A570
                                clear A570
                                by_cases c58 : t315 = true
                                · subst c58
                                  have H1 : (some false) = some true := by rw [if_pos rfl] at H; exact H
                                  clear H
                                  have H := H1
                                  clear H1
                                  exact absurd H (by simp)
                                · replace c58 := Bool.eq_false_iff.mpr c58
                                  subst c58
                                  have H1 : ((tailwaterlaw04_alive.f k2).bind fun t316 => (some t316)) = some true := by rw [if_neg (show ¬ (false = true) by decide)] at H; exact H
                                  clear H
                                  have H := H1
                                  clear H1
                                  replace H := Option.bind_eq_some_iff.mp H
                                  obtain ⟨t316, A590, H⟩ := H
                                  replace H : (some t316) = some true := H
                                  have A59 := Aside0.mk A590
                                  clear A590
                                  have hv_ := Option.some.inj H
                                  clear H
                                  obtain ⟨Ao60, co60, eo60⟩ := Kd.R_slice HO_11.out
                                  subst eo60
                                  go_wp2_with (first | ((with_reducible refine gate_callee (f := 47) rfl ?_); refine goesL_ (some 73) rfl rfl Try.func47 (by kernel_rfl) rfl #[.slice A0 l0.length c0, .slice Ao60 x11_2.length co60] rfl (by (try simp only [List.map_toArray, List.map_cons, List.map_nil]); first | done | rfl | (simp only [List.length_drop, List.length_take]; rfl)) ?_; (with_reducible refine (nodes_Same.calls k2 _ _ l0 _ _ x11_2 true t309 _ ?side1 ?side2 ?side3 ?side4 A38.out).mono ?_); (case side1 => repeat (first | exact (Kd.C_below HR0.out HB.out) | (with_reducible refine Kd.C_alloc ?_ _) | (with_reducible refine Kd.C_drewN ?_ _) | (with_reducible refine Kd.C_drew ?_))); (case side2 => exact HC0.out); (case side3 => repeat (first | exact (Kd.R_reads' HO_11.out).2.2 | (with_reducible refine Kd.C_alloc ?_ _) | (with_reducible refine Kd.C_drewN ?_ _) | (with_reducible refine Kd.C_drew ?_))); (case side4 => exact (Kd.R_reads' HO_11.out).2.1); rintro e w61 ⟨rfl, hb⟩; refine ⟨_, rfl, ?_⟩; have n0_ := Aside0.mk (Kd.R_below (by (with_reducible repeat (first | apply Kd.R_alloc | apply Kd.R_drewN | apply Kd.R_drew)); exact HO_11.out) hb); have n1_ := Aside0.mk (below_step (by repeat (first | (with_reducible first | exact HB.out | apply below_alloc | apply pw_below_drewN | apply below_drew1) | exact HB.out)) hb); clear HO_11; clear HB; have HO_11 := n0_; have HB := n1_; clear n0_ n1_; (try clear hb); (try clear hb2); (try clear hk); (try clear hi)) | ((with_reducible refine gate_callee (f := 38) rfl ?_); refine goesL_ (some 78) rfl rfl Try.func38 (by kernel_rfl) rfl #[.slice A0 l0.length c0] rfl (by (try simp only [List.map_toArray, List.map_cons, List.map_nil]); first | done | rfl | (simp only [List.length_drop, List.length_take]; rfl)) ?_; (with_reducible refine (nodes_Depth.calls k2 _ _ l0 t310 t311 _ ?side1 ?side2 A39.out).mono ?_); (case side1 => repeat (first | exact (Kd.C_below HR0.out HB.out) | (with_reducible refine Kd.C_alloc ?_ _) | (with_reducible refine Kd.C_drewN ?_ _) | (with_reducible refine Kd.C_drew ?_))); (case side2 => exact HC0.out); rintro e w62 ⟨rfl, hb⟩; refine ⟨_, rfl, ?_⟩; have n0_ := Aside0.mk (Kd.R_below (by (with_reducible repeat (first | apply Kd.R_alloc | apply Kd.R_drewN | apply Kd.R_drew)); exact HO_11.out) hb); have n1_ := Aside0.mk (below_step (by repeat (first | (with_reducible first | exact HB.out | apply below_alloc | apply pw_below_drewN | apply below_drew1) | exact HB.out)) hb); clear HO_11; clear HB; have HO_11 := n0_; have HB := n1_; clear n0_ n1_; (try clear hb); (try clear hb2); (try clear hk); (try clear hi)) | ((with_reducible refine gate_callee (f := 38) rfl ?_); refine goesL_ (some 83) rfl rfl Try.func38 (by kernel_rfl) rfl #[.slice A1 l1.length c1] rfl (by (try simp only [List.map_toArray, List.map_cons, List.map_nil]); first | done | rfl | (simp only [List.length_drop, List.length_take]; rfl)) ?_; (with_reducible refine (nodes_Depth.calls k2 _ _ l1 t312 t313 _ ?side1 ?side2 A40.out).mono ?_); (case side1 => repeat (first | exact (Kd.C_below HR1.out HB.out) | (with_reducible refine Kd.C_alloc ?_ _) | (with_reducible refine Kd.C_drewN ?_ _) | (with_reducible refine Kd.C_drew ?_))); (case side2 => exact HC1.out); rintro e w63 ⟨rfl, hb⟩; refine ⟨_, rfl, ?_⟩; have n0_ := Aside0.mk (Kd.R_below (by (with_reducible repeat (first | apply Kd.R_alloc | apply Kd.R_drewN | apply Kd.R_drew)); exact HO_11.out) hb); have n1_ := Aside0.mk (below_step (by repeat (first | (with_reducible first | exact HB.out | apply below_alloc | apply pw_below_drewN | apply below_drew1) | exact HB.out)) hb); clear HO_11; clear HB; have HO_11 := n0_; have HB := n1_; clear n0_ n1_; (try clear hb); (try clear hb2); (try clear hk); (try clear hi)) | (go_at_call 40; (with_reducible refine (tailwaterref04_Equal.calls k2 _ _ l0 _ _ l1 false _ ?side1 ?side2 ?side3 ?side4 A57.out).mono ?_); (case side1 => repeat (first | exact (Kd.C_below HR0.out HB.out) | (with_reducible refine Kd.C_alloc ?_ _) | (with_reducible refine Kd.C_drewN ?_ _) | (with_reducible refine Kd.C_drew ?_))); (case side2 => exact HC0.out); (case side3 => repeat (first | exact (Kd.C_below HR1.out HB.out) | (with_reducible refine Kd.C_alloc ?_ _) | (with_reducible refine Kd.C_drewN ?_ _) | (with_reducible refine Kd.C_drew ?_))); (case side4 => exact HC1.out); rintro e w' ⟨rfl, ⟨nd, rfl⟩⟩) | (go_at_call 35; (with_reducible refine (tailwaterlaw04_alive.calls k2  t316 _ A59.out).mono ?_); rintro e w64 ⟨rfl, hb⟩; have n0_ := Aside0.mk (Kd.R_below (by (with_reducible repeat (first | apply Kd.R_alloc | apply Kd.R_drewN | apply Kd.R_drew)); exact HO_11.out) hb); have n1_ := Aside0.mk (below_step (by repeat (first | (with_reducible first | exact HB.out | apply below_alloc | apply pw_below_drewN | apply below_drew1) | exact HB.out)) hb); clear HO_11; clear HB; have HO_11 := n0_; have HB := n1_; clear n0_ n1_; (try clear hb); (try clear hb2); (try clear hk); (try clear hi)))
                                  go_ret
                                  exact ⟨by first | rfl | (simp [errW_none, errW_some] <;> rfl) | (simp [*, errW_none, errW_some] <;> rfl), by repeat (first | (with_reducible first | exact HB.out | apply below_alloc | apply pw_below_drewN | apply below_drew1) | exact HB.out)⟩
                            · replace c47 := Bool.eq_false_iff.mpr c47
                              subst c47
                              have H1 : (some false) = some true := by rw [if_neg (show ¬ (false = true) by decide)] at H; exact H
                              clear H
                              have H := H1
                              clear H1
                              exact absurd H (by simp)
                          · rw [if_neg c46] at H
                            have c46b0 : (t297 == t299) = false := by simpa using c46
                            (try (have c46b1 : decide (t297 = t299) = false := by simpa using c46))
                            (try (have c46b2 : (t297 == t299) = false := by simpa using c46))
                            (try (have c46b3 : ¬ (t297 = t299) := by simpa using c46))
                            clear c46
                            exact absurd H (by simp)
                        · rw [if_neg c45] at H
                          have c45b0 : (t313 == 0) = false := beq_eq_false_iff_ne.mpr c45
                          have c45b1 : (t313 != 0) = true := bne_iff_ne.mpr c45
                          exact absurd H (by simp)
                      · rw [if_neg c44] at H
                        have c44b0 : (t311 == 0) = false := beq_eq_false_iff_ne.mpr c44
                        have c44b1 : (t311 != 0) = true := bne_iff_ne.mpr c44
                        exact absurd H (by simp)
                    · rw [if_neg c43] at H
                      have c43b0 : (t309 == 0) = false := beq_eq_false_iff_ne.mpr c43
                      have c43b1 : (t309 != 0) = true := bne_iff_ne.mpr c43
                      exact absurd H (by simp)
                  · rw [if_neg c42] at H
                    have c42b0 : (t300 == 0) = false := beq_eq_false_iff_ne.mpr c42
                    have c42b1 : (t300 != 0) = true := bne_iff_ne.mpr c42
                    exact absurd H (by simp)
                · rw [if_neg c41] at H
                  have c41b0 : (t298 == 0) = false := beq_eq_false_iff_ne.mpr c41
                  have c41b1 : (t298 != 0) = true := bne_iff_ne.mpr c41
                  exact absurd H (by simp)
        · rw [if_neg c26] at H
          exact absurd H (by simp)

end Go.Proofs.Ytpkamfjkmbakhaa.N
