-- Written by a program of this place (wip/prt.py), out of Lean's own print of the program: Lean checks it.
import Derived.Test.YtpkamfjkmbakhaaN0
import Derived.Test.YtpkamfjkmbakhaaN2
import Derived.Test.YtpkamfjkmbakhaaN4
import Derived.Test.YtpkamfjkmbakhaaN5
import Derived.Test.YtpkamfjkmbakhaaN7
import Derived.Test.YtpkamfjkmbakhaaN8
import Derived.Test.YtpkamfjkmbakhaaN9
namespace Go.Proofs.Ytpkamfjkmbakhaa.N
open Go.RowKit Go.Proofs.YtpkamfjkmbakhaaW.PrintWords Go.Proofs.YtpkamfjkmbakhaaW.PrintLast Go.Proofs.YtpkamfjkmbakhaaW.PrintMore
attribute [local go_sem] max2_int min2_int max_two min_two max_three min_three max_four min_four   -- for this text's walks alone
set_option linter.unusedVariables false
set_option linter.unusedSimpArgs false

/-! ### tailwaterlaw04_NodesSizes: function 7 -/
mutual
def tailwaterlaw04_NodesSizes.j0 : Nat → List (S36) → Int → Bool → Option (Bool)
  | 0, _, _, _ => none
  | k + 1, x0, x1, x40 => if x40 = true then ((tailwaterlaw04_alive.f k).bind fun t201 => (some t201)) else ((nodes_Size.f k x0 x1).bind fun bt202 => (if 0 ≤ x1 then (if x1 < (x0.length : Int) then ((nodes_Parts.f k ((rd_T36 x0 x1).f0)).bind fun bt205 => ((nodes_Size.f k x0 (wrap64 ((x0.length : Int) - 1))).bind fun bt207 => ((nodes_Depth.f k x0).bind fun bt209 => ((nodes_Part.f k x0 (wrap64 ((x0.length : Int) - 1))).bind fun bt211 => (if bt202.2 = 0 then (if bt205.2 = 0 then (if bt207.2 = 0 then (if bt209.2 = 0 then (if bt211.2 = 0 then (if bt207.1 = (x0.length : Int) then (if bt209.1 < 1 then (tailwaterlaw04_NodesSizes.j1 k x0 x1 bt202.1 bt205.1 bt209.1 true) else (if bt209.1 > bt207.1 then (tailwaterlaw04_NodesSizes.j1 k x0 x1 bt202.1 bt205.1 bt209.1 true) else ((tailwaterref04_Equal.f k bt211.1 x0).bind fun t215 => (tailwaterlaw04_NodesSizes.j1 k x0 x1 bt202.1 bt205.1 bt209.1 (!t215))))) else (tailwaterlaw04_NodesSizes.j1 k x0 x1 bt202.1 bt205.1 bt209.1 true)) else (tailwaterlaw04_NodesSizes.j1 k x0 x1 bt202.1 bt205.1 bt209.1 true)) else (tailwaterlaw04_NodesSizes.j1 k x0 x1 bt202.1 bt205.1 bt209.1 true)) else (tailwaterlaw04_NodesSizes.j1 k x0 x1 bt202.1 bt205.1 bt209.1 true)) else (tailwaterlaw04_NodesSizes.j1 k x0 x1 bt202.1 bt205.1 bt209.1 true)) else (tailwaterlaw04_NodesSizes.j1 k x0 x1 bt202.1 bt205.1 bt209.1 true)))))) else (none)) else (none)))
def tailwaterlaw04_NodesSizes.j1 : Nat → List (S36) → Int → Int → Int → Int → Bool → Option (Bool)
  | 0, _, _, _, _, _, _ => none
  | k + 1, x0, x1, x5, x7, x11, x116 => if x116 = true then (some false) else (if x7 > 0 then (if 0 ≤ x1 then (if x1 < (x0.length : Int) then ((nodes_Size.f k x0 ((rd_T36 x0 x1).f2)).bind fun bt217 => (if bt217.2 = 0 then (tailwaterlaw04_NodesSizes.j2 k x0 x1 x5 x7 x11 (wrap64 (1 + bt217.1))) else (some false))) else (none)) else (none)) else (tailwaterlaw04_NodesSizes.j2 k x0 x1 x5 x7 x11 1))
def tailwaterlaw04_NodesSizes.j2 : Nat → List (S36) → Int → Int → Int → Int → Int → Option (Bool)
  | 0, _, _, _, _, _, _ => none
  | k + 1, x0, x1, x5, x7, x11, x15 => if x7 > 1 then (if 0 ≤ x1 then (if x1 < (x0.length : Int) then ((nodes_Size.f k x0 ((rd_T36 x0 x1).f3)).bind fun bt220 => (if bt220.2 = 0 then ((nodes_Part.f k x0 x1).bind fun bt222 => ((nodes_Depth.f k bt222.1).bind fun bt226 => (if (wrap64 (x15 + bt220.1)) = x5 then (if bt222.2 = 0 then (if bt226.2 = 0 then (if (bt222.1.length : Int) = x5 then (if bt226.1 ≤ x11 then ((tailwaterlaw04_alive.f k).bind fun t228 => (some t228)) else (some false)) else (some false)) else (some false)) else (some false)) else (some false)))) else (some false))) else (none)) else (none)) else ((nodes_Part.f k x0 x1).bind fun bt229 => ((nodes_Depth.f k bt229.1).bind fun bt233 => (if x15 = x5 then (if bt229.2 = 0 then (if bt233.2 = 0 then (if (bt229.1.length : Int) = x5 then (if bt233.1 ≤ x11 then ((tailwaterlaw04_alive.f k).bind fun t235 => (some t235)) else (some false)) else (some false)) else (some false)) else (some false)) else (some false))))
end
def tailwaterlaw04_NodesSizes.f (k : Nat) (l0 : List (S36)) (a1 : Int) : Option (Bool) := (tailwaterref04_Great.f l0).bind fun t199 => (if t199 = true then (tailwaterlaw04_NodesSizes.j0 k l0 a1 true) else ((tailwaterref04_Check.f k l0).bind fun t200 => (if t200 = 0 then (if a1 < 0 then (tailwaterlaw04_NodesSizes.j0 k l0 a1 true) else (tailwaterlaw04_NodesSizes.j0 k l0 a1 (decide (a1 ≥ (l0.length : Int))))) else (tailwaterlaw04_NodesSizes.j0 k l0 a1 true))))
theorem tailwaterlaw04_NodesSizes.mono_l : ∀ k, (∀ y0 y1 y2, LeO (tailwaterlaw04_NodesSizes.j0 k y0 y1 y2) (tailwaterlaw04_NodesSizes.j0 (k + 1) y0 y1 y2)) ∧ (∀ y0 y1 y2 y3 y4 y5, LeO (tailwaterlaw04_NodesSizes.j1 k y0 y1 y2 y3 y4 y5) (tailwaterlaw04_NodesSizes.j1 (k + 1) y0 y1 y2 y3 y4 y5)) ∧ (∀ y0 y1 y2 y3 y4 y5, LeO (tailwaterlaw04_NodesSizes.j2 k y0 y1 y2 y3 y4 y5) (tailwaterlaw04_NodesSizes.j2 (k + 1) y0 y1 y2 y3 y4 y5))
  | 0 => ⟨fun _ _ _ r h => by simp [tailwaterlaw04_NodesSizes.j0] at h, fun _ _ _ _ _ _ r h => by simp [tailwaterlaw04_NodesSizes.j1] at h, fun _ _ _ _ _ _ r h => by simp [tailwaterlaw04_NodesSizes.j2] at h⟩
  | k + 1 => by
    obtain ⟨ih0, ih1, ih2⟩ := tailwaterlaw04_NodesSizes.mono_l k
    refine ⟨?_, ?_, ?_⟩
    · intro y0 y1 y2
      unfold tailwaterlaw04_NodesSizes.j0
      repeat' first
      | (with_reducible exact ih0 _ _ _)
      | (with_reducible exact ih1 _ _ _ _ _ _)
      | (with_reducible exact ih2 _ _ _ _ _ _)
      | (with_reducible exact nodes_Depth.mono _ _)
      | (with_reducible exact nodes_Part.mono _ _ _)
      | (with_reducible exact nodes_Parts.mono _ _)
      | (with_reducible exact nodes_Size.mono _ _ _)
      | (with_reducible exact tailwaterlaw04_alive.mono _)
      | (with_reducible exact tailwaterref04_Check.mono _ _)
      | (with_reducible exact tailwaterref04_Equal.mono _ _ _)
      | (with_reducible exact LeO.refl _)
      | (with_reducible exact LeO.none _)
      | (with_reducible refine LeO.ite ?_ ?_)
      | (with_reducible refine LeO.bind ?_ (fun _ => ?_))
      | exact ih0 _ _ _
      | exact ih1 _ _ _ _ _ _
      | exact ih2 _ _ _ _ _ _
      | exact nodes_Depth.mono _ _
      | exact nodes_Part.mono _ _ _
      | exact nodes_Parts.mono _ _
      | exact nodes_Size.mono _ _ _
      | exact tailwaterlaw04_alive.mono _
      | exact tailwaterref04_Check.mono _ _
      | exact tailwaterref04_Equal.mono _ _ _
      | exact LeO.none _
      | refine LeO.ite ?_ ?_
      | refine LeO.bind ?_ (fun _ => ?_)
    · intro y0 y1 y2 y3 y4 y5
      unfold tailwaterlaw04_NodesSizes.j1
      repeat' first
      | (with_reducible exact ih0 _ _ _)
      | (with_reducible exact ih1 _ _ _ _ _ _)
      | (with_reducible exact ih2 _ _ _ _ _ _)
      | (with_reducible exact nodes_Depth.mono _ _)
      | (with_reducible exact nodes_Part.mono _ _ _)
      | (with_reducible exact nodes_Parts.mono _ _)
      | (with_reducible exact nodes_Size.mono _ _ _)
      | (with_reducible exact tailwaterlaw04_alive.mono _)
      | (with_reducible exact tailwaterref04_Check.mono _ _)
      | (with_reducible exact tailwaterref04_Equal.mono _ _ _)
      | (with_reducible exact LeO.refl _)
      | (with_reducible exact LeO.none _)
      | (with_reducible refine LeO.ite ?_ ?_)
      | (with_reducible refine LeO.bind ?_ (fun _ => ?_))
      | exact ih0 _ _ _
      | exact ih1 _ _ _ _ _ _
      | exact ih2 _ _ _ _ _ _
      | exact nodes_Depth.mono _ _
      | exact nodes_Part.mono _ _ _
      | exact nodes_Parts.mono _ _
      | exact nodes_Size.mono _ _ _
      | exact tailwaterlaw04_alive.mono _
      | exact tailwaterref04_Check.mono _ _
      | exact tailwaterref04_Equal.mono _ _ _
      | exact LeO.none _
      | refine LeO.ite ?_ ?_
      | refine LeO.bind ?_ (fun _ => ?_)
    · intro y0 y1 y2 y3 y4 y5
      unfold tailwaterlaw04_NodesSizes.j2
      repeat' first
      | (with_reducible exact ih0 _ _ _)
      | (with_reducible exact ih1 _ _ _ _ _ _)
      | (with_reducible exact ih2 _ _ _ _ _ _)
      | (with_reducible exact nodes_Depth.mono _ _)
      | (with_reducible exact nodes_Part.mono _ _ _)
      | (with_reducible exact nodes_Parts.mono _ _)
      | (with_reducible exact nodes_Size.mono _ _ _)
      | (with_reducible exact tailwaterlaw04_alive.mono _)
      | (with_reducible exact tailwaterref04_Check.mono _ _)
      | (with_reducible exact tailwaterref04_Equal.mono _ _ _)
      | (with_reducible exact LeO.refl _)
      | (with_reducible exact LeO.none _)
      | (with_reducible refine LeO.ite ?_ ?_)
      | (with_reducible refine LeO.bind ?_ (fun _ => ?_))
      | exact ih0 _ _ _
      | exact ih1 _ _ _ _ _ _
      | exact ih2 _ _ _ _ _ _
      | exact nodes_Depth.mono _ _
      | exact nodes_Part.mono _ _ _
      | exact nodes_Parts.mono _ _
      | exact nodes_Size.mono _ _ _
      | exact tailwaterlaw04_alive.mono _
      | exact tailwaterref04_Check.mono _ _
      | exact tailwaterref04_Equal.mono _ _ _
      | exact LeO.none _
      | refine LeO.ite ?_ ?_
      | refine LeO.bind ?_ (fun _ => ?_)
theorem tailwaterlaw04_NodesSizes.mono : ∀ a0 a1 k, LeO (tailwaterlaw04_NodesSizes.f k a0 a1) (tailwaterlaw04_NodesSizes.f (k + 1) a0 a1) := by
  intro a0 a1 k
  obtain ⟨ih0, ih1, ih2⟩ := tailwaterlaw04_NodesSizes.mono_l k
  unfold tailwaterlaw04_NodesSizes.f
  repeat' first
      | (with_reducible exact ih0 _ _ _)
      | (with_reducible exact ih1 _ _ _ _ _ _)
      | (with_reducible exact ih2 _ _ _ _ _ _)
      | (with_reducible exact nodes_Depth.mono _ _)
      | (with_reducible exact nodes_Part.mono _ _ _)
      | (with_reducible exact nodes_Parts.mono _ _)
      | (with_reducible exact nodes_Size.mono _ _ _)
      | (with_reducible exact tailwaterlaw04_alive.mono _)
      | (with_reducible exact tailwaterref04_Check.mono _ _)
      | (with_reducible exact tailwaterref04_Equal.mono _ _ _)
      | (with_reducible exact LeO.refl _)
      | (with_reducible exact LeO.none _)
      | (with_reducible refine LeO.ite ?_ ?_)
      | (with_reducible refine LeO.bind ?_ (fun _ => ?_))
      | exact ih0 _ _ _
      | exact ih1 _ _ _ _ _ _
      | exact ih2 _ _ _ _ _ _
      | exact nodes_Depth.mono _ _
      | exact nodes_Part.mono _ _ _
      | exact nodes_Parts.mono _ _
      | exact nodes_Size.mono _ _ _
      | exact tailwaterlaw04_alive.mono _
      | exact tailwaterref04_Check.mono _ _
      | exact tailwaterref04_Equal.mono _ _ _
      | exact LeO.none _
      | refine LeO.ite ?_ ?_
      | refine LeO.bind ?_ (fun _ => ?_)
set_option maxHeartbeats 8000000 in
set_option maxRecDepth 100000 in
theorem tailwaterlaw04_NodesSizes.calls (k : Nat) (A0 : Option Addr) (c0 : Nat) (l0 : List (S36)) (a1 : Int) (w : World) (hr0 : Kd.C k36 w A0 l0.length l0) (hc0 : l0.length ≤ c0) (h : tailwaterlaw04_NodesSizes.f k l0 a1 = some true) :
    Calls Try.prog 7 #[.slice A0 l0.length c0, .int .i64 a1] w fun e w' => e = .returned (.bool true) ∧ Below w.heap.size w w' := by
  have HR0 := Aside0.mk hr0
  have HC0 := Aside0.mk hc0
  clear hr0 hc0
  have HB := Aside0.mk (Below.refl w.heap.size w)
  have H : ((tailwaterref04_Great.f l0).bind fun t199 => (if t199 = true then (tailwaterlaw04_NodesSizes.j0 k l0 a1 true) else ((tailwaterref04_Check.f k l0).bind fun t200 => (if t200 = 0 then (if a1 < 0 then (tailwaterlaw04_NodesSizes.j0 k l0 a1 true) else (tailwaterlaw04_NodesSizes.j0 k l0 a1 (decide (a1 ≥ (l0.length : Int))))) else (tailwaterlaw04_NodesSizes.j0 k l0 a1 true))))) = some true := h
  clear h
  have HC3 := Aside0.mk H
  clear H
  go_enter Try.func7, Try.ntmps7
  go_upto_region 1 with (fail)
  go_cut [40] (fun v40 wc => ∃ (kq : Nat) (x40_2 : Bool), v40 = .bool x40_2 ∧ Aside0 (tailwaterlaw04_NodesSizes.j0 kq l0 a1 x40_2 = some true) ∧ Aside0 (kq ≤ k) ∧ Aside0 (Below w.heap.size w wc))
  case first =>
    have H := HC3.out
    clear HC3
    replace H := Option.bind_eq_some_iff.mp H
    obtain ⟨t199, A40, H⟩ := H
    replace H : (if t199 = true then (tailwaterlaw04_NodesSizes.j0 k l0 a1 true) else ((tailwaterref04_Check.f k l0).bind fun t200 => (if t200 = 0 then (if a1 < 0 then (tailwaterlaw04_NodesSizes.j0 k l0 a1 true) else (tailwaterlaw04_NodesSizes.j0 k l0 a1 (decide (a1 ≥ (l0.length : Int))))) else (tailwaterlaw04_NodesSizes.j0 k l0 a1 true)))) = some true := H
    have A4 := Aside0.mk A40
    clear A40
    by_cases c5 : t199 = true
    · subst c5
      have H1 : (tailwaterlaw04_NodesSizes.j0 k l0 a1 true) = some true := by rw [if_pos rfl] at H; exact H
      clear H
      have H := H1
      clear H1
      have H' := Aside0.mk H
      clear H
      go_wp2_with (first | ((with_reducible refine gate_callee (f := 33) rfl ?_); refine goesL_ (some 25) rfl rfl Try.func33 (by kernel_rfl) rfl #[.slice A0 l0.length c0] rfl (by (try simp only [List.map_toArray, List.map_cons, List.map_nil]); first | done | rfl | (simp only [List.length_drop, List.length_take]; rfl)) ?_; (with_reducible refine (tailwaterref04_Great.calls _ _ l0 true _ ?side1 ?side2 A4.out).mono ?_); (case side1 => repeat (first | exact (Kd.C_below HR0.out HB.out) | (with_reducible refine Kd.C_alloc ?_ _) | (with_reducible refine Kd.C_drewN ?_ _) | (with_reducible refine Kd.C_drew ?_))); (case side2 => exact HC0.out); rintro e w' ⟨rfl, ⟨nd, rfl⟩⟩; refine ⟨_, rfl, ?_⟩))
      go_meet
      case rel => exact ⟨_, (true), (by first | rfl | (simp; done) | (simp [*]; done)), H', ⟨by first | omega | exact Nat.le_refl _⟩, ⟨by repeat (first | (with_reducible first | exact HB.out | apply below_alloc | apply pw_below_drewN | apply below_drew1) | exact HB.out)⟩⟩
    · replace c5 := Bool.eq_false_iff.mpr c5
      subst c5
      have H1 : ((tailwaterref04_Check.f k l0).bind fun t200 => (if t200 = 0 then (if a1 < 0 then (tailwaterlaw04_NodesSizes.j0 k l0 a1 true) else (tailwaterlaw04_NodesSizes.j0 k l0 a1 (decide (a1 ≥ (l0.length : Int))))) else (tailwaterlaw04_NodesSizes.j0 k l0 a1 true))) = some true := by rw [if_neg (show ¬ (false = true) by decide)] at H; exact H
      clear H
      have H := H1
      clear H1
      replace H := Option.bind_eq_some_iff.mp H
      obtain ⟨t200, A60, H⟩ := H
      replace H : (if t200 = 0 then (if a1 < 0 then (tailwaterlaw04_NodesSizes.j0 k l0 a1 true) else (tailwaterlaw04_NodesSizes.j0 k l0 a1 (decide (a1 ≥ (l0.length : Int))))) else (tailwaterlaw04_NodesSizes.j0 k l0 a1 true)) = some true := H
      have A6 := Aside0.mk A60
      clear A60
      by_cases c7 : t200 = 0
      · rw [if_pos c7] at H
        have c7b0 : (t200 == 0) = true := beq_iff_eq.mpr c7
        have c7b1 : (t200 != 0) = false := bne_eq_false_iff_eq.mpr c7
        clear c7
        (first | rw [c7b0] | (simp only [i64_w, i32_w]; rw [c7b0]) | skip)
        by_cases c8 : a1 < 0
        · rw [if_pos c8] at H
          have c8b0 : decide (a1 < 0) = true := decide_eq_true c8
          clear c8
          have H' := Aside0.mk H
          clear H
          go_wp2_with (first | ((with_reducible refine gate_callee (f := 33) rfl ?_); refine goesL_ (some 25) rfl rfl Try.func33 (by kernel_rfl) rfl #[.slice A0 l0.length c0] rfl (by (try simp only [List.map_toArray, List.map_cons, List.map_nil]); first | done | rfl | (simp only [List.length_drop, List.length_take]; rfl)) ?_; (with_reducible refine (tailwaterref04_Great.calls _ _ l0 false _ ?side1 ?side2 A4.out).mono ?_); (case side1 => repeat (first | exact (Kd.C_below HR0.out HB.out) | (with_reducible refine Kd.C_alloc ?_ _) | (with_reducible refine Kd.C_drewN ?_ _) | (with_reducible refine Kd.C_drew ?_))); (case side2 => exact HC0.out); rintro e w' ⟨rfl, ⟨nd, rfl⟩⟩; refine ⟨_, rfl, ?_⟩) | (go_at_call 34; (with_reducible refine (tailwaterref04_Check.calls k _ _ l0 t200 _ ?side1 ?side2 A6.out).mono ?_); (case side1 => repeat (first | exact (Kd.C_below HR0.out (by repeat (first | (with_reducible first | exact HB.out | apply below_alloc | apply pw_below_drewN | apply below_drew1) | exact HB.out))) | (with_reducible refine Kd.C_alloc ?_ _) | (with_reducible refine Kd.C_drewN ?_ _) | (with_reducible refine Kd.C_drew ?_))); (case side2 => exact HC0.out); rintro e w9 ⟨rfl, hb⟩; have n0_ := Aside0.mk (below_step (by repeat (first | (with_reducible first | exact HB.out | apply below_alloc | apply pw_below_drewN | apply below_drew1) | exact HB.out)) hb); clear HB; have HB := n0_; clear n0_; (try clear hb); (try clear hb2); (try clear hk); (try clear hi)))
          go_meet
          case rel => exact ⟨_, (true), (by first | rfl | (simp; done) | (simp [*]; done)), H', ⟨by first | omega | exact Nat.le_refl _⟩, ⟨by repeat (first | (with_reducible first | exact HB.out | apply below_alloc | apply pw_below_drewN | apply below_drew1) | exact HB.out)⟩⟩
        · rw [if_neg c8] at H
          have c8b0 : decide (a1 < 0) = false := decide_eq_false c8
          clear c8
          have H' := Aside0.mk H
          clear H
          go_wp2_with (first | ((with_reducible refine gate_callee (f := 33) rfl ?_); refine goesL_ (some 25) rfl rfl Try.func33 (by kernel_rfl) rfl #[.slice A0 l0.length c0] rfl (by (try simp only [List.map_toArray, List.map_cons, List.map_nil]); first | done | rfl | (simp only [List.length_drop, List.length_take]; rfl)) ?_; (with_reducible refine (tailwaterref04_Great.calls _ _ l0 false _ ?side1 ?side2 A4.out).mono ?_); (case side1 => repeat (first | exact (Kd.C_below HR0.out HB.out) | (with_reducible refine Kd.C_alloc ?_ _) | (with_reducible refine Kd.C_drewN ?_ _) | (with_reducible refine Kd.C_drew ?_))); (case side2 => exact HC0.out); rintro e w' ⟨rfl, ⟨nd, rfl⟩⟩; refine ⟨_, rfl, ?_⟩) | (go_at_call 34; (with_reducible refine (tailwaterref04_Check.calls k _ _ l0 t200 _ ?side1 ?side2 A6.out).mono ?_); (case side1 => repeat (first | exact (Kd.C_below HR0.out (by repeat (first | (with_reducible first | exact HB.out | apply below_alloc | apply pw_below_drewN | apply below_drew1) | exact HB.out))) | (with_reducible refine Kd.C_alloc ?_ _) | (with_reducible refine Kd.C_drewN ?_ _) | (with_reducible refine Kd.C_drew ?_))); (case side2 => exact HC0.out); rintro e w10 ⟨rfl, hb⟩; have n0_ := Aside0.mk (below_step (by repeat (first | (with_reducible first | exact HB.out | apply below_alloc | apply pw_below_drewN | apply below_drew1) | exact HB.out)) hb); clear HB; have HB := n0_; clear n0_; (try clear hb); (try clear hb2); (try clear hk); (try clear hi)))
          go_meet
          case rel => exact ⟨_, (decide (a1 ≥ (l0.length : Int))), (by first | rfl | (simp; done) | (simp [*]; done)), H', ⟨by first | omega | exact Nat.le_refl _⟩, ⟨by repeat (first | (with_reducible first | exact HB.out | apply below_alloc | apply pw_below_drewN | apply below_drew1) | exact HB.out)⟩⟩
      · rw [if_neg c7] at H
        have c7b0 : (t200 == 0) = false := beq_eq_false_iff_ne.mpr c7
        have c7b1 : (t200 != 0) = true := bne_iff_ne.mpr c7
        (first | rw [c7b0] | (simp only [i64_w, i32_w]; rw [c7b0]) | skip)
        have H' := Aside0.mk H
        clear H
        go_wp2_with (first | ((with_reducible refine gate_callee (f := 33) rfl ?_); refine goesL_ (some 25) rfl rfl Try.func33 (by kernel_rfl) rfl #[.slice A0 l0.length c0] rfl (by (try simp only [List.map_toArray, List.map_cons, List.map_nil]); first | done | rfl | (simp only [List.length_drop, List.length_take]; rfl)) ?_; (with_reducible refine (tailwaterref04_Great.calls _ _ l0 false _ ?side1 ?side2 A4.out).mono ?_); (case side1 => repeat (first | exact (Kd.C_below HR0.out HB.out) | (with_reducible refine Kd.C_alloc ?_ _) | (with_reducible refine Kd.C_drewN ?_ _) | (with_reducible refine Kd.C_drew ?_))); (case side2 => exact HC0.out); rintro e w' ⟨rfl, ⟨nd, rfl⟩⟩; refine ⟨_, rfl, ?_⟩) | (go_at_call 34; (with_reducible refine (tailwaterref04_Check.calls k _ _ l0 t200 _ ?side1 ?side2 A6.out).mono ?_); (case side1 => repeat (first | exact (Kd.C_below HR0.out (by repeat (first | (with_reducible first | exact HB.out | apply below_alloc | apply pw_below_drewN | apply below_drew1) | exact HB.out))) | (with_reducible refine Kd.C_alloc ?_ _) | (with_reducible refine Kd.C_drewN ?_ _) | (with_reducible refine Kd.C_drew ?_))); (case side2 => exact HC0.out); rintro e w11 ⟨rfl, hb⟩; have n0_ := Aside0.mk (below_step (by repeat (first | (with_reducible first | exact HB.out | apply below_alloc | apply pw_below_drewN | apply below_drew1) | exact HB.out)) hb); clear HB; have HB := n0_; clear n0_; (try clear hb); (try clear hb2); (try clear hk); (try clear hi)))
        go_meet
        case rel => exact ⟨_, (true), (by first | rfl | (simp; done) | (simp [*]; done)), H', ⟨by first | omega | exact Nat.le_refl _⟩, ⟨by repeat (first | (with_reducible first | exact HB.out | apply below_alloc | apply pw_below_drewN | apply below_drew1) | exact HB.out)⟩⟩
  case rest =>
    clear HC3
    try clear p2
    try clear c3
    try clear c5
    try clear c7
    try clear c7b0
    try clear c7b1
    try clear c8
    try clear c8b0
    obtain ⟨kq, x40_2, rfl, HA, HJ2, HB⟩ := hcut
    cases kq with
    | zero => exact absurd HA.out (by simp [tailwaterlaw04_NodesSizes.j0])
    | succ kj2 =>
      have H := HA.out
      clear HA
      simp only [tailwaterlaw04_NodesSizes.j0] at H
      by_cases c12 : x40_2 = true
      · subst c12
        have H1 : ((tailwaterlaw04_alive.f kj2).bind fun t201 => (some t201)) = some true := by rw [if_pos rfl] at H; exact H
        clear H
        have H := H1
        clear H1
        replace H := Option.bind_eq_some_iff.mp H
        obtain ⟨t201, A130, H⟩ := H
        replace H : (some t201) = some true := H
        have A13 := Aside0.mk A130
        clear A130
        have hv_ := Option.some.inj H
        clear H
        go_wp2_with (first | ((with_reducible refine gate_callee (f := 35) rfl ?_); refine goesL_ (some 41) rfl rfl Try.func35 (by kernel_rfl) rfl #[] rfl (by (try simp only [List.map_toArray, List.map_cons, List.map_nil]); first | done | rfl | (simp only [List.length_drop, List.length_take]; rfl)) ?_; (with_reducible refine (tailwaterlaw04_alive.calls kj2  t201 _ A13.out).mono ?_); rintro e w14 ⟨rfl, hb⟩; refine ⟨_, rfl, ?_⟩; have n0_ := Aside0.mk (below_step (by repeat (first | (with_reducible first | exact HB.out | apply below_alloc | apply pw_below_drewN | apply below_drew1) | exact HB.out)) hb); clear HB; have HB := n0_; clear n0_; (try clear hb); (try clear hb2); (try clear hk); (try clear hi)))
        go_ret
        exact ⟨by first | rfl | (simp [errW_none, errW_some] <;> rfl) | (simp [*, errW_none, errW_some] <;> rfl), by repeat (first | (with_reducible first | exact HB.out | apply below_alloc | apply pw_below_drewN | apply below_drew1) | exact HB.out)⟩
      · replace c12 := Bool.eq_false_iff.mpr c12
        subst c12
        have H1 : ((nodes_Size.f kj2 l0 a1).bind fun bt202 => (if 0 ≤ a1 then (if a1 < (l0.length : Int) then ((nodes_Parts.f kj2 ((rd_T36 l0 a1).f0)).bind fun bt205 => ((nodes_Size.f kj2 l0 (wrap64 ((l0.length : Int) - 1))).bind fun bt207 => ((nodes_Depth.f kj2 l0).bind fun bt209 => ((nodes_Part.f kj2 l0 (wrap64 ((l0.length : Int) - 1))).bind fun bt211 => (if bt202.2 = 0 then (if bt205.2 = 0 then (if bt207.2 = 0 then (if bt209.2 = 0 then (if bt211.2 = 0 then (if bt207.1 = (l0.length : Int) then (if bt209.1 < 1 then (tailwaterlaw04_NodesSizes.j1 kj2 l0 a1 bt202.1 bt205.1 bt209.1 true) else (if bt209.1 > bt207.1 then (tailwaterlaw04_NodesSizes.j1 kj2 l0 a1 bt202.1 bt205.1 bt209.1 true) else ((tailwaterref04_Equal.f kj2 bt211.1 l0).bind fun t215 => (tailwaterlaw04_NodesSizes.j1 kj2 l0 a1 bt202.1 bt205.1 bt209.1 (!t215))))) else (tailwaterlaw04_NodesSizes.j1 kj2 l0 a1 bt202.1 bt205.1 bt209.1 true)) else (tailwaterlaw04_NodesSizes.j1 kj2 l0 a1 bt202.1 bt205.1 bt209.1 true)) else (tailwaterlaw04_NodesSizes.j1 kj2 l0 a1 bt202.1 bt205.1 bt209.1 true)) else (tailwaterlaw04_NodesSizes.j1 kj2 l0 a1 bt202.1 bt205.1 bt209.1 true)) else (tailwaterlaw04_NodesSizes.j1 kj2 l0 a1 bt202.1 bt205.1 bt209.1 true)) else (tailwaterlaw04_NodesSizes.j1 kj2 l0 a1 bt202.1 bt205.1 bt209.1 true)))))) else (none)) else (none))) = some true := by rw [if_neg (show ¬ (false = true) by decide)] at H; exact H
        clear H
        have H := H1
        clear H1
        replace H := Option.bind_eq_some_iff.mp H
        obtain ⟨⟨t202, t203⟩, A150, H⟩ := H
        replace H : (if 0 ≤ a1 then (if a1 < (l0.length : Int) then ((nodes_Parts.f kj2 ((rd_T36 l0 a1).f0)).bind fun bt205 => ((nodes_Size.f kj2 l0 (wrap64 ((l0.length : Int) - 1))).bind fun bt207 => ((nodes_Depth.f kj2 l0).bind fun bt209 => ((nodes_Part.f kj2 l0 (wrap64 ((l0.length : Int) - 1))).bind fun bt211 => (if t203 = 0 then (if bt205.2 = 0 then (if bt207.2 = 0 then (if bt209.2 = 0 then (if bt211.2 = 0 then (if bt207.1 = (l0.length : Int) then (if bt209.1 < 1 then (tailwaterlaw04_NodesSizes.j1 kj2 l0 a1 t202 bt205.1 bt209.1 true) else (if bt209.1 > bt207.1 then (tailwaterlaw04_NodesSizes.j1 kj2 l0 a1 t202 bt205.1 bt209.1 true) else ((tailwaterref04_Equal.f kj2 bt211.1 l0).bind fun t215 => (tailwaterlaw04_NodesSizes.j1 kj2 l0 a1 t202 bt205.1 bt209.1 (!t215))))) else (tailwaterlaw04_NodesSizes.j1 kj2 l0 a1 t202 bt205.1 bt209.1 true)) else (tailwaterlaw04_NodesSizes.j1 kj2 l0 a1 t202 bt205.1 bt209.1 true)) else (tailwaterlaw04_NodesSizes.j1 kj2 l0 a1 t202 bt205.1 bt209.1 true)) else (tailwaterlaw04_NodesSizes.j1 kj2 l0 a1 t202 bt205.1 bt209.1 true)) else (tailwaterlaw04_NodesSizes.j1 kj2 l0 a1 t202 bt205.1 bt209.1 true)) else (tailwaterlaw04_NodesSizes.j1 kj2 l0 a1 t202 bt205.1 bt209.1 true)))))) else (none)) else (none)) = some true := H
        have A15 := Aside0.mk A150
        clear A150
        by_cases c16 : 0 ≤ a1
        · rw [if_pos c16] at H
          have c16b0 : decide (0 ≤ a1) = true := decide_eq_true c16
          clear c16
          by_cases c17 : a1 < (l0.length : Int)
          · rw [if_pos c17] at H
            have c17b0 : decide (a1 < (l0.length : Int)) = true := decide_eq_true c17
            clear c17
            replace H := Option.bind_eq_some_iff.mp H
            obtain ⟨⟨t205, t206⟩, A180, H⟩ := H
            replace H : ((nodes_Size.f kj2 l0 (wrap64 ((l0.length : Int) - 1))).bind fun bt207 => ((nodes_Depth.f kj2 l0).bind fun bt209 => ((nodes_Part.f kj2 l0 (wrap64 ((l0.length : Int) - 1))).bind fun bt211 => (if t203 = 0 then (if t206 = 0 then (if bt207.2 = 0 then (if bt209.2 = 0 then (if bt211.2 = 0 then (if bt207.1 = (l0.length : Int) then (if bt209.1 < 1 then (tailwaterlaw04_NodesSizes.j1 kj2 l0 a1 t202 t205 bt209.1 true) else (if bt209.1 > bt207.1 then (tailwaterlaw04_NodesSizes.j1 kj2 l0 a1 t202 t205 bt209.1 true) else ((tailwaterref04_Equal.f kj2 bt211.1 l0).bind fun t215 => (tailwaterlaw04_NodesSizes.j1 kj2 l0 a1 t202 t205 bt209.1 (!t215))))) else (tailwaterlaw04_NodesSizes.j1 kj2 l0 a1 t202 t205 bt209.1 true)) else (tailwaterlaw04_NodesSizes.j1 kj2 l0 a1 t202 t205 bt209.1 true)) else (tailwaterlaw04_NodesSizes.j1 kj2 l0 a1 t202 t205 bt209.1 true)) else (tailwaterlaw04_NodesSizes.j1 kj2 l0 a1 t202 t205 bt209.1 true)) else (tailwaterlaw04_NodesSizes.j1 kj2 l0 a1 t202 t205 bt209.1 true)) else (tailwaterlaw04_NodesSizes.j1 kj2 l0 a1 t202 t205 bt209.1 true))))) = some true := H
            have A18 := Aside0.mk A180
            clear A180
            replace H := Option.bind_eq_some_iff.mp H
            obtain ⟨⟨t207, t208⟩, A190, H⟩ := H
            replace H : ((nodes_Depth.f kj2 l0).bind fun bt209 => ((nodes_Part.f kj2 l0 (wrap64 ((l0.length : Int) - 1))).bind fun bt211 => (if t203 = 0 then (if t206 = 0 then (if t208 = 0 then (if bt209.2 = 0 then (if bt211.2 = 0 then (if t207 = (l0.length : Int) then (if bt209.1 < 1 then (tailwaterlaw04_NodesSizes.j1 kj2 l0 a1 t202 t205 bt209.1 true) else (if bt209.1 > t207 then (tailwaterlaw04_NodesSizes.j1 kj2 l0 a1 t202 t205 bt209.1 true) else ((tailwaterref04_Equal.f kj2 bt211.1 l0).bind fun t215 => (tailwaterlaw04_NodesSizes.j1 kj2 l0 a1 t202 t205 bt209.1 (!t215))))) else (tailwaterlaw04_NodesSizes.j1 kj2 l0 a1 t202 t205 bt209.1 true)) else (tailwaterlaw04_NodesSizes.j1 kj2 l0 a1 t202 t205 bt209.1 true)) else (tailwaterlaw04_NodesSizes.j1 kj2 l0 a1 t202 t205 bt209.1 true)) else (tailwaterlaw04_NodesSizes.j1 kj2 l0 a1 t202 t205 bt209.1 true)) else (tailwaterlaw04_NodesSizes.j1 kj2 l0 a1 t202 t205 bt209.1 true)) else (tailwaterlaw04_NodesSizes.j1 kj2 l0 a1 t202 t205 bt209.1 true)))) = some true := H
            have A19 := Aside0.mk A190
            clear A190
            replace H := Option.bind_eq_some_iff.mp H
            obtain ⟨⟨t209, t210⟩, A200, H⟩ := H
            replace H : ((nodes_Part.f kj2 l0 (wrap64 ((l0.length : Int) - 1))).bind fun bt211 => (if t203 = 0 then (if t206 = 0 then (if t208 = 0 then (if t210 = 0 then (if bt211.2 = 0 then (if t207 = (l0.length : Int) then (if t209 < 1 then (tailwaterlaw04_NodesSizes.j1 kj2 l0 a1 t202 t205 t209 true) else (if t209 > t207 then (tailwaterlaw04_NodesSizes.j1 kj2 l0 a1 t202 t205 t209 true) else ((tailwaterref04_Equal.f kj2 bt211.1 l0).bind fun t215 => (tailwaterlaw04_NodesSizes.j1 kj2 l0 a1 t202 t205 t209 (!t215))))) else (tailwaterlaw04_NodesSizes.j1 kj2 l0 a1 t202 t205 t209 true)) else (tailwaterlaw04_NodesSizes.j1 kj2 l0 a1 t202 t205 t209 true)) else (tailwaterlaw04_NodesSizes.j1 kj2 l0 a1 t202 t205 t209 true)) else (tailwaterlaw04_NodesSizes.j1 kj2 l0 a1 t202 t205 t209 true)) else (tailwaterlaw04_NodesSizes.j1 kj2 l0 a1 t202 t205 t209 true)) else (tailwaterlaw04_NodesSizes.j1 kj2 l0 a1 t202 t205 t209 true))) = some true := H
            have A20 := Aside0.mk A200
            clear A200
            replace H := Option.bind_eq_some_iff.mp H
            obtain ⟨⟨t211, t212⟩, A210, H⟩ := H
            replace H : (if t203 = 0 then (if t206 = 0 then (if t208 = 0 then (if t210 = 0 then (if t212 = 0 then (if t207 = (l0.length : Int) then (if t209 < 1 then (tailwaterlaw04_NodesSizes.j1 kj2 l0 a1 t202 t205 t209 true) else (if t209 > t207 then (tailwaterlaw04_NodesSizes.j1 kj2 l0 a1 t202 t205 t209 true) else ((tailwaterref04_Equal.f kj2 t211 l0).bind fun t215 => (tailwaterlaw04_NodesSizes.j1 kj2 l0 a1 t202 t205 t209 (!t215))))) else (tailwaterlaw04_NodesSizes.j1 kj2 l0 a1 t202 t205 t209 true)) else (tailwaterlaw04_NodesSizes.j1 kj2 l0 a1 t202 t205 t209 true)) else (tailwaterlaw04_NodesSizes.j1 kj2 l0 a1 t202 t205 t209 true)) else (tailwaterlaw04_NodesSizes.j1 kj2 l0 a1 t202 t205 t209 true)) else (tailwaterlaw04_NodesSizes.j1 kj2 l0 a1 t202 t205 t209 true)) else (tailwaterlaw04_NodesSizes.j1 kj2 l0 a1 t202 t205 t209 true)) = some true := H
            have A21 := Aside0.mk A210
            clear A210
            have HC22 := Aside0.mk H
            clear H
            go_upto_region 8 with (first | ((with_reducible refine gate_callee (f := 36) rfl ?_); refine goesL_ (some 45) rfl rfl Try.func36 (by kernel_rfl) rfl #[.slice A0 l0.length c0, .int .i64 a1] rfl (by (try simp only [List.map_toArray, List.map_cons, List.map_nil]); first | done | rfl | (simp only [List.length_drop, List.length_take]; rfl)) ?_; (with_reducible refine (nodes_Size.calls kj2 _ _ l0 a1 t202 t203 _ ?side1 ?side2 A15.out).mono ?_); (case side1 => repeat (first | exact (Kd.C_below HR0.out HB.out) | (with_reducible refine Kd.C_alloc ?_ _) | (with_reducible refine Kd.C_drewN ?_ _) | (with_reducible refine Kd.C_drew ?_))); (case side2 => exact HC0.out); rintro e w23 ⟨rfl, hb⟩; refine ⟨_, rfl, ?_⟩; have n0_ := Aside0.mk (below_step (by repeat (first | (with_reducible first | exact HB.out | apply below_alloc | apply pw_below_drewN | apply below_drew1) | exact HB.out)) hb); clear HB; have HB := n0_; clear n0_; (try clear hb); (try clear hb2); (try clear hk); (try clear hi); have p204 : 0 ≤ (a1 : Int) := of_decide_eq_true (by first | (with_reducible assumption) | assumption); have q204 : a1 < (l0.length : Int) := of_decide_eq_true (by first | (with_reducible assumption) | assumption); obtain ⟨ad204, e204, hx204_0, hx204_1, hx204_2, hx204_3, hx204_4⟩ := at_T36 HR0.out a1 p204 q204; cases e204; replace hx204_0 := (HB.out.cell (World.block_lt_of_cell? w _ hx204_0)).trans hx204_0; replace hx204_1 := (HB.out.cell (World.block_lt_of_cell? w _ hx204_1)).trans hx204_1; replace hx204_2 := (HB.out.cell (World.block_lt_of_cell? w _ hx204_2)).trans hx204_2; replace hx204_3 := (HB.out.cell (World.block_lt_of_cell? w _ hx204_3)).trans hx204_3; replace hx204_4 := (HB.out.cell (World.block_lt_of_cell? w _ hx204_4)).trans hx204_4; replace p204 := eq_true p204; replace q204 := eq_true q204) | ((with_reducible refine gate_callee (f := 37) rfl ?_); refine goesL_ (some 54) rfl rfl Try.func37 (by kernel_rfl) rfl #[.int .u8 ((rd_T36 l0 a1).f0)] rfl (by (try simp only [List.map_toArray, List.map_cons, List.map_nil]); first | done | rfl | (simp only [List.length_drop, List.length_take]; rfl)) ?_; (with_reducible refine (nodes_Parts.calls kj2 ((rd_T36 l0 a1).f0) t205 t206 _ A18.out).mono ?_); rintro e w' ⟨rfl, ⟨nd, rfl⟩⟩; refine ⟨_, rfl, ?_⟩) | ((with_reducible refine gate_callee (f := 36) rfl ?_); refine goesL_ (some 62) rfl rfl Try.func36 (by kernel_rfl) rfl #[.slice (some ad204) l0.length c0, .int .i64 (wrap64 ((l0.length : Int) - 1))] rfl (by (try simp only [List.map_toArray, List.map_cons, List.map_nil]); first | done | rfl | (simp only [List.length_drop, List.length_take]; rfl)) ?_; (with_reducible refine (nodes_Size.calls kj2 _ _ l0 (wrap64 ((l0.length : Int) - 1)) t207 t208 _ ?side1 ?side2 A19.out).mono ?_); (case side1 => repeat (first | exact (Kd.C_below HR0.out (by repeat (first | (with_reducible first | exact HB.out | apply below_alloc | apply pw_below_drewN | apply below_drew1) | exact HB.out))) | (with_reducible refine Kd.C_alloc ?_ _) | (with_reducible refine Kd.C_drewN ?_ _) | (with_reducible refine Kd.C_drew ?_))); (case side2 => exact HC0.out); rintro e w24 ⟨rfl, hb⟩; refine ⟨_, rfl, ?_⟩; have n0_ := Aside0.mk (below_step (by repeat (first | (with_reducible first | exact HB.out | apply below_alloc | apply pw_below_drewN | apply below_drew1) | exact HB.out)) hb); clear HB; have HB := n0_; clear n0_; (try clear hb); (try clear hb2); (try clear hk); (try clear hi)) | ((with_reducible refine gate_callee (f := 38) rfl ?_); refine goesL_ (some 67) rfl rfl Try.func38 (by kernel_rfl) rfl #[.slice (some ad204) l0.length c0] rfl (by (try simp only [List.map_toArray, List.map_cons, List.map_nil]); first | done | rfl | (simp only [List.length_drop, List.length_take]; rfl)) ?_; (with_reducible refine (nodes_Depth.calls kj2 _ _ l0 t209 t210 _ ?side1 ?side2 A20.out).mono ?_); (case side1 => repeat (first | exact (Kd.C_below HR0.out HB.out) | (with_reducible refine Kd.C_alloc ?_ _) | (with_reducible refine Kd.C_drewN ?_ _) | (with_reducible refine Kd.C_drew ?_))); (case side2 => exact HC0.out); rintro e w25 ⟨rfl, hb⟩; refine ⟨_, rfl, ?_⟩; have n0_ := Aside0.mk (below_step (by repeat (first | (with_reducible first | exact HB.out | apply below_alloc | apply pw_below_drewN | apply below_drew1) | exact HB.out)) hb); clear HB; have HB := n0_; clear n0_; (try clear hb); (try clear hb2); (try clear hk); (try clear hi)) | ((with_reducible refine gate_callee (f := 39) rfl ?_); refine goesL_ (some 75) rfl rfl Try.func39 (by kernel_rfl) rfl #[.slice (some ad204) l0.length c0, .int .i64 (wrap64 ((l0.length : Int) - 1))] rfl (by (try simp only [List.map_toArray, List.map_cons, List.map_nil]); first | done | rfl | (simp only [List.length_drop, List.length_take]; rfl)) ?_; (with_reducible refine (nodes_Part.calls kj2 _ _ l0 (wrap64 ((l0.length : Int) - 1)) t211 t212 _ ?side1 ?side2 A21.out).mono ?_); (case side1 => repeat (first | exact (Kd.C_below HR0.out HB.out) | (with_reducible refine Kd.C_alloc ?_ _) | (with_reducible refine Kd.C_drewN ?_ _) | (with_reducible refine Kd.C_drew ?_))); (case side2 => exact HC0.out); rintro e w26 ⟨v213, rfl, ho0, hb⟩; refine ⟨_, rfl, ?_⟩; have n0_ := Aside0.mk (Kd.R_lower ho0 (below_size (by repeat (first | (with_reducible first | exact HB.out | apply below_alloc | apply pw_below_drewN | apply below_drew1) | exact HB.out)))); have n1_ := Aside0.mk (below_step (by repeat (first | (with_reducible first | exact HB.out | apply below_alloc | apply pw_below_drewN | apply below_drew1) | exact HB.out)) hb); clear HB; have HO214 := n0_; have HB := n1_; clear n0_ n1_; (try clear hb); (try clear hb2); (try clear hk); (try clear hi); (try clear ho0)))
            (try simp only [Act.put, List.setIfInBounds_toArray, List.set_cons_zero, List.set_cons_succ])
            go_cut [116] (fun v116 wc => ∃ (kq : Nat) (x116_21 : Bool), v116 = .bool x116_21 ∧ Aside0 (tailwaterlaw04_NodesSizes.j1 kq l0 a1 t202 t205 t209 x116_21 = some true) ∧ Aside0 (kq ≤ kj2) ∧ Aside0 (Below w.heap.size w wc))
            case first =>
              have H := HC22.out
              clear HC22
              by_cases c27 : t203 = 0
              · rw [if_pos c27] at H
                have c27b0 : (t203 == 0) = true := beq_iff_eq.mpr c27
                have c27b1 : (t203 != 0) = false := bne_eq_false_iff_eq.mpr c27
                clear c27
                (first | rw [c27b0] | (simp only [i64_w, i32_w]; rw [c27b0]) | skip)
                by_cases c28 : t206 = 0
                · rw [if_pos c28] at H
                  have c28b0 : (t206 == 0) = true := beq_iff_eq.mpr c28
                  have c28b1 : (t206 != 0) = false := bne_eq_false_iff_eq.mpr c28
                  clear c28
                  by_cases c29 : t208 = 0
                  · rw [if_pos c29] at H
                    have c29b0 : (t208 == 0) = true := beq_iff_eq.mpr c29
                    have c29b1 : (t208 != 0) = false := bne_eq_false_iff_eq.mpr c29
                    clear c29
                    by_cases c30 : t210 = 0
                    · rw [if_pos c30] at H
                      have c30b0 : (t210 == 0) = true := beq_iff_eq.mpr c30
                      have c30b1 : (t210 != 0) = false := bne_eq_false_iff_eq.mpr c30
                      clear c30
                      by_cases c31 : t212 = 0
                      · rw [if_pos c31] at H
                        have c31b0 : (t212 == 0) = true := beq_iff_eq.mpr c31
                        have c31b1 : (t212 != 0) = false := bne_eq_false_iff_eq.mpr c31
                        clear c31
                        by_cases c32 : t207 = (l0.length : Int)
                        · rw [if_pos c32] at H
                          have c32b0 : (t207 == (l0.length : Int)) = true := beq_iff_eq.mpr c32
                          have c32b1 : (t207 != (l0.length : Int)) = false := bne_eq_false_iff_eq.mpr c32
                          clear c32
                          by_cases c33 : t209 < 1
                          · rw [if_pos c33] at H
                            have c33b0 : decide (t209 < 1) = true := decide_eq_true c33
                            clear c33
                            have H' := Aside0.mk H
                            clear H
                            go_wp2
                            go_meet
                            case rel => exact ⟨_, (true), (by first | rfl | (simp; done) | (simp [*]; done)), H', ⟨by have := HJ2.out; first | omega | exact Nat.le_refl _⟩, ⟨by repeat (first | (with_reducible first | exact HB.out | apply below_alloc | apply pw_below_drewN | apply below_drew1) | exact HB.out)⟩⟩
                          · rw [if_neg c33] at H
                            have c33b0 : decide (t209 < 1) = false := decide_eq_false c33
                            clear c33
                            by_cases c34 : t209 > t207
                            · rw [if_pos c34] at H
                              have c34b0 : decide (t207 < t209) = true := decide_eq_true c34
                              clear c34
                              have H' := Aside0.mk H
                              clear H
                              go_wp2
                              go_meet
                              case rel => exact ⟨_, (true), (by first | rfl | (simp; done) | (simp [*]; done)), H', ⟨by have := HJ2.out; first | omega | exact Nat.le_refl _⟩, ⟨by repeat (first | (with_reducible first | exact HB.out | apply below_alloc | apply pw_below_drewN | apply below_drew1) | exact HB.out)⟩⟩
                            · rw [if_neg c34] at H
                              have c34b0 : decide (t207 < t209) = false := decide_eq_false c34
                              clear c34
                              replace H := Option.bind_eq_some_iff.mp H
                              obtain ⟨t215, A350, H⟩ := H
                              replace H : (tailwaterlaw04_NodesSizes.j1 kj2 l0 a1 t202 t205 t209 (!t215)) = some true := H
                              have A35 := Aside0.mk A350
                              clear A350
                              have H' := Aside0.mk H
                              clear H
                              obtain ⟨Ao36, co36, eo36⟩ := Kd.R_slice HO214.out
                              subst eo36
                              go_wp2_with (first | (go_at_call 40; (with_reducible refine (tailwaterref04_Equal.calls kj2 _ _ t211 _ _ l0 t215 _ ?side1 ?side2 ?side3 ?side4 A35.out).mono ?_); (case side1 => repeat (first | exact (Kd.R_reads' HO214.out).2.2 | (with_reducible refine Kd.C_alloc ?_ _) | (with_reducible refine Kd.C_drewN ?_ _) | (with_reducible refine Kd.C_drew ?_))); (case side2 => exact (Kd.R_reads' HO214.out).2.1); (case side3 => repeat (first | exact (Kd.C_below HR0.out HB.out) | (with_reducible refine Kd.C_alloc ?_ _) | (with_reducible refine Kd.C_drewN ?_ _) | (with_reducible refine Kd.C_drew ?_))); (case side4 => exact HC0.out); rintro e w' ⟨rfl, ⟨nd, rfl⟩⟩))
                              go_meet
                              case rel => exact ⟨_, (!t215), (by first | rfl | (simp; done) | (simp [*]; done)), H', ⟨by have := HJ2.out; first | omega | exact Nat.le_refl _⟩, ⟨by repeat (first | (with_reducible first | exact HB.out | apply below_alloc | apply pw_below_drewN | apply below_drew1) | exact HB.out)⟩⟩
                        · rw [if_neg c32] at H
                          have c32b0 : (t207 == (l0.length : Int)) = false := beq_eq_false_iff_ne.mpr c32
                          have c32b1 : (t207 != (l0.length : Int)) = true := bne_iff_ne.mpr c32
                          have H' := Aside0.mk H
                          clear H
                          go_wp2
                          go_meet
                          case rel => exact ⟨_, (true), (by first | rfl | (simp; done) | (simp [*]; done)), H', ⟨by have := HJ2.out; first | omega | exact Nat.le_refl _⟩, ⟨by repeat (first | (with_reducible first | exact HB.out | apply below_alloc | apply pw_below_drewN | apply below_drew1) | exact HB.out)⟩⟩
                      · rw [if_neg c31] at H
                        have c31b0 : (t212 == 0) = false := beq_eq_false_iff_ne.mpr c31
                        have c31b1 : (t212 != 0) = true := bne_iff_ne.mpr c31
                        have H' := Aside0.mk H
                        clear H
                        go_wp2
                        go_meet
                        case rel => exact ⟨_, (true), (by first | rfl | (simp; done) | (simp [*]; done)), H', ⟨by have := HJ2.out; first | omega | exact Nat.le_refl _⟩, ⟨by repeat (first | (with_reducible first | exact HB.out | apply below_alloc | apply pw_below_drewN | apply below_drew1) | exact HB.out)⟩⟩
                    · rw [if_neg c30] at H
                      have c30b0 : (t210 == 0) = false := beq_eq_false_iff_ne.mpr c30
                      have c30b1 : (t210 != 0) = true := bne_iff_ne.mpr c30
                      have H' := Aside0.mk H
                      clear H
                      go_wp2
                      go_meet
                      case rel => exact ⟨_, (true), (by first | rfl | (simp; done) | (simp [*]; done)), H', ⟨by have := HJ2.out; first | omega | exact Nat.le_refl _⟩, ⟨by repeat (first | (with_reducible first | exact HB.out | apply below_alloc | apply pw_below_drewN | apply below_drew1) | exact HB.out)⟩⟩
                  · rw [if_neg c29] at H
                    have c29b0 : (t208 == 0) = false := beq_eq_false_iff_ne.mpr c29
                    have c29b1 : (t208 != 0) = true := bne_iff_ne.mpr c29
                    have H' := Aside0.mk H
                    clear H
                    go_wp2
                    go_meet
                    case rel => exact ⟨_, (true), (by first | rfl | (simp; done) | (simp [*]; done)), H', ⟨by have := HJ2.out; first | omega | exact Nat.le_refl _⟩, ⟨by repeat (first | (with_reducible first | exact HB.out | apply below_alloc | apply pw_below_drewN | apply below_drew1) | exact HB.out)⟩⟩
                · rw [if_neg c28] at H
                  have c28b0 : (t206 == 0) = false := beq_eq_false_iff_ne.mpr c28
                  have c28b1 : (t206 != 0) = true := bne_iff_ne.mpr c28
                  have H' := Aside0.mk H
                  clear H
                  go_wp2
                  go_meet
                  case rel => exact ⟨_, (true), (by first | rfl | (simp; done) | (simp [*]; done)), H', ⟨by have := HJ2.out; first | omega | exact Nat.le_refl _⟩, ⟨by repeat (first | (with_reducible first | exact HB.out | apply below_alloc | apply pw_below_drewN | apply below_drew1) | exact HB.out)⟩⟩
              · rw [if_neg c27] at H
                have c27b0 : (t203 == 0) = false := beq_eq_false_iff_ne.mpr c27
                have c27b1 : (t203 != 0) = true := bne_iff_ne.mpr c27
                (first | rw [c27b0] | (simp only [i64_w, i32_w]; rw [c27b0]) | skip)
                have H' := Aside0.mk H
                clear H
                go_wp2
                go_meet
                case rel => exact ⟨_, (true), (by first | rfl | (simp; done) | (simp [*]; done)), H', ⟨by have := HJ2.out; first | omega | exact Nat.le_refl _⟩, ⟨by repeat (first | (with_reducible first | exact HB.out | apply below_alloc | apply pw_below_drewN | apply below_drew1) | exact HB.out)⟩⟩
            case rest =>
              clear HC22
              try clear c1
              try clear c2
              try clear p2
              try clear q2
              try clear hx2
              try clear c3
              try clear c5
              try clear p6
              try clear c7
              try clear c7b0
              try clear c7b1
              try clear c8
              try clear c8b0
              try clear c12
              try clear c16
              try clear c16b0
              try clear c17
              try clear c17b0
              try clear p20
              try clear q20
              try clear hx20
              try clear c27
              try clear c27b0
              try clear c27b1
              try clear c28
              try clear c28b0
              try clear c28b1
              try clear c29
              try clear c29b0
              try clear c29b1
              try clear c30
              try clear c30b0
              try clear c30b1
              try clear c31
              try clear c31b0
              try clear c31b1
              try clear c32
              try clear c32b0
              try clear c32b1
              try clear c33
              try clear c33b0
              try clear c34
              try clear c34b0
              try clear c35
              try clear c36
              try clear hx204_0
              try clear hx204_1
              try clear hx204_2
              try clear hx204_3
              try clear hx204_4
              try clear p2
              try clear p204
              try clear q204
              obtain ⟨kq, x116_21, rfl, HA, HJ21, HB⟩ := hcut
              cases kq with
              | zero => exact absurd HA.out (by simp [tailwaterlaw04_NodesSizes.j1])
              | succ kj21 =>
                have H := HA.out
                clear HA
                simp only [tailwaterlaw04_NodesSizes.j1] at H
                by_cases c37 : x116_21 = true
                · subst c37
                  have H1 : (some false) = some true := by rw [if_pos rfl] at H; exact H
                  clear H
                  have H := H1
                  clear H1
                  exact absurd H (by simp)
                · replace c37 := Bool.eq_false_iff.mpr c37
                  subst c37
                  have H1 : (if t205 > 0 then (if 0 ≤ a1 then (if a1 < (l0.length : Int) then ((nodes_Size.f kj21 l0 ((rd_T36 l0 a1).f2)).bind fun bt217 => (if bt217.2 = 0 then (tailwaterlaw04_NodesSizes.j2 kj21 l0 a1 t202 t205 t209 (wrap64 (1 + bt217.1))) else (some false))) else (none)) else (none)) else (tailwaterlaw04_NodesSizes.j2 kj21 l0 a1 t202 t205 t209 1)) = some true := by rw [if_neg (show ¬ (false = true) by decide)] at H; exact H
                  clear H
                  have H := H1
                  clear H1
                  have HC38 := Aside0.mk H
                  clear H
                  go_upto_if 118 with (fail)
                  go_cut [15] (fun v15 wc => ∃ (kq : Nat) (x15_37 : Int), v15 = .int .i64 x15_37 ∧ Aside0 (tailwaterlaw04_NodesSizes.j2 kq l0 a1 t202 t205 t209 x15_37 = some true) ∧ Aside0 (kq ≤ kj21) ∧ Aside0 (Below w.heap.size w wc))
                  case first =>
                    have H := HC38.out
                    clear HC38
                    by_cases c39 : t205 > 0
                    · rw [if_pos c39] at H
                      have c39b0 : decide (0 < t205) = true := decide_eq_true c39
                      clear c39
                      (first | rw [c39b0] | (simp only [i64_w, i32_w]; rw [c39b0]) | skip)
                      by_cases c40 : 0 ≤ a1
                      · rw [if_pos c40] at H
                        have c40b0 : decide (0 ≤ a1) = true := decide_eq_true c40
                        clear c40
                        by_cases c41 : a1 < (l0.length : Int)
                        · rw [if_pos c41] at H
                          have c41b0 : decide (a1 < (l0.length : Int)) = true := decide_eq_true c41
                          clear c41
                          replace H := Option.bind_eq_some_iff.mp H
                          obtain ⟨⟨t217, t218⟩, A420, H⟩ := H
                          replace H : (if t218 = 0 then (tailwaterlaw04_NodesSizes.j2 kj21 l0 a1 t202 t205 t209 (wrap64 (1 + t217))) else (some false)) = some true := H
                          have A42 := Aside0.mk A420
                          clear A420
                          by_cases c43 : t218 = 0
                          · rw [if_pos c43] at H
                            have c43b0 : (t218 == 0) = true := beq_iff_eq.mpr c43
                            have c43b1 : (t218 != 0) = false := bne_eq_false_iff_eq.mpr c43
                            clear c43
                            have H' := Aside0.mk H
                            clear H
                            have p216 : 0 ≤ (a1 : Int) := of_decide_eq_true (by first | (with_reducible assumption) | assumption)
                            have q216 : a1 < (l0.length : Int) := of_decide_eq_true (by first | (with_reducible assumption) | assumption)
                            obtain ⟨ad216, e216, hx216_0, hx216_1, hx216_2, hx216_3, hx216_4⟩ := at_T36 HR0.out a1 p216 q216
                            obtain rfl : ad204 = ad216 := (by injection e216)
                            replace hx216_0 := (HB.out.cell (World.block_lt_of_cell? w _ hx216_0)).trans hx216_0
                            replace hx216_1 := (HB.out.cell (World.block_lt_of_cell? w _ hx216_1)).trans hx216_1
                            replace hx216_2 := (HB.out.cell (World.block_lt_of_cell? w _ hx216_2)).trans hx216_2
                            replace hx216_3 := (HB.out.cell (World.block_lt_of_cell? w _ hx216_3)).trans hx216_3
                            replace hx216_4 := (HB.out.cell (World.block_lt_of_cell? w _ hx216_4)).trans hx216_4
                            replace p216 := eq_true p216
                            replace q216 := eq_true q216
                            go_wp2_with (first | ((with_reducible refine gate_callee (f := 36) rfl ?_); refine goesL_ (some 126) rfl rfl Try.func36 (by kernel_rfl) rfl #[.slice (some ad204) l0.length c0, .int .i64 ((rd_T36 l0 a1).f2)] rfl (by (try simp only [List.map_toArray, List.map_cons, List.map_nil]); first | done | rfl | (simp only [List.length_drop, List.length_take]; rfl)) ?_; (with_reducible refine (nodes_Size.calls kj21 _ _ l0 ((rd_T36 l0 a1).f2) t217 t218 _ ?side1 ?side2 A42.out).mono ?_); (case side1 => repeat (first | exact (Kd.C_below HR0.out HB.out) | (with_reducible refine Kd.C_alloc ?_ _) | (with_reducible refine Kd.C_drewN ?_ _) | (with_reducible refine Kd.C_drew ?_))); (case side2 => exact HC0.out); rintro e w44 ⟨rfl, hb⟩; refine ⟨_, rfl, ?_⟩; have n0_ := Aside0.mk (below_step (by repeat (first | (with_reducible first | exact HB.out | apply below_alloc | apply pw_below_drewN | apply below_drew1) | exact HB.out)) hb); clear HB; have HB := n0_; clear n0_; (try clear hb); (try clear hb2); (try clear hk); (try clear hi)))
                            go_meet
                            case rel => exact ⟨_, (wrap64 (1 + t217)), (by first | rfl | (simp; done) | (simp [*]; done)), H', ⟨by have := HJ2.out; have := HJ21.out; first | omega | exact Nat.le_refl _⟩, ⟨by repeat (first | (with_reducible first | exact HB.out | apply below_alloc | apply pw_below_drewN | apply below_drew1) | exact HB.out)⟩⟩
                          · rw [if_neg c43] at H
                            have c43b0 : (t218 == 0) = false := beq_eq_false_iff_ne.mpr c43
                            have c43b1 : (t218 != 0) = true := bne_iff_ne.mpr c43
                            exact absurd H (by simp)
                        · rw [if_neg c41] at H
                          exact absurd H (by simp)
                      · rw [if_neg c40] at H
                        exact absurd H (by simp)
                    · rw [if_neg c39] at H
                      have c39b0 : decide (0 < t205) = false := decide_eq_false c39
                      clear c39
                      (first | rw [c39b0] | (simp only [i64_w, i32_w]; rw [c39b0]) | skip)
                      have H' := Aside0.mk H
                      clear H
                      go_wp2
                      go_meet
                      case rel => exact ⟨_, (1), (by first | rfl | (simp; done) | (simp [*]; done)), H', ⟨by have := HJ2.out; have := HJ21.out; first | omega | exact Nat.le_refl _⟩, ⟨by repeat (first | (with_reducible first | exact HB.out | apply below_alloc | apply pw_below_drewN | apply below_drew1) | exact HB.out)⟩⟩
                  case rest =>
                    clear HC38
                    try clear c1
                    try clear c2
                    try clear p2
                    try clear q2
                    try clear hx2
                    try clear c3
                    try clear c4
                    try clear c5
                    try clear p6
                    try clear c7
                    try clear c7b0
                    try clear c7b1
                    try clear c8
                    try clear c8b0
                    try clear c12
                    try clear c16
                    try clear c16b0
                    try clear c17
                    try clear c17b0
                    try clear p20
                    try clear q20
                    try clear hx20
                    try clear p21
                    try clear q21
                    try clear hx21
                    try clear c27
                    try clear c27b0
                    try clear c27b1
                    try clear c28
                    try clear c28b0
                    try clear c28b1
                    try clear c29
                    try clear c29b0
                    try clear c29b1
                    try clear c30
                    try clear c30b0
                    try clear c30b1
                    try clear c31
                    try clear c31b0
                    try clear c31b1
                    try clear c32
                    try clear c32b0
                    try clear c32b1
                    try clear c33
                    try clear c33b0
                    try clear c34
                    try clear c34b0
                    try clear c35
                    try clear c36
                    try clear c37
                    try clear c38
                    try clear c39
                    try clear c39b0
                    try clear c40
                    try clear c40b0
                    try clear c41
                    try clear c41b0
                    try clear c43
                    try clear c43b0
                    try clear c43b1
                    try clear hx204_0
                    try clear hx204_1
                    try clear hx204_2
                    try clear hx204_3
                    try clear hx204_4
                    try clear hx216_0
                    try clear hx216_1
                    try clear hx216_2
                    try clear hx216_3
                    try clear hx216_4
                    try clear p2
                    try clear p20
                    try clear p204
                    try clear p216
                    try clear p6
                    try clear q2
                    try clear q20
                    try clear q204
                    try clear q216
                    obtain ⟨kq, x15_37, rfl, HA, HJ37, HB⟩ := hcut
                    cases kq with
                    | zero => exact absurd HA.out (by simp [tailwaterlaw04_NodesSizes.j2])
                    | succ kj37 =>
                      have H := HA.out
                      clear HA
                      simp only [tailwaterlaw04_NodesSizes.j2] at H
                      by_cases c45 : t205 > 1
                      · rw [if_pos c45] at H
                        have c45b0 : decide (1 < t205) = true := decide_eq_true c45
                        clear c45
                        by_cases c46 : 0 ≤ a1
                        · rw [if_pos c46] at H
                          have c46b0 : decide (0 ≤ a1) = true := decide_eq_true c46
                          clear c46
                          by_cases c47 : a1 < (l0.length : Int)
                          · rw [if_pos c47] at H
                            have c47b0 : decide (a1 < (l0.length : Int)) = true := decide_eq_true c47
                            clear c47
                            replace H := Option.bind_eq_some_iff.mp H
                            obtain ⟨⟨t220, t221⟩, A480, H⟩ := H
                            replace H : (if t221 = 0 then ((nodes_Part.f kj37 l0 a1).bind fun bt222 => ((nodes_Depth.f kj37 bt222.1).bind fun bt226 => (if (wrap64 (x15_37 + t220)) = t202 then (if bt222.2 = 0 then (if bt226.2 = 0 then (if (bt222.1.length : Int) = t202 then (if bt226.1 ≤ t209 then ((tailwaterlaw04_alive.f kj37).bind fun t228 => (some t228)) else (some false)) else (some false)) else (some false)) else (some false)) else (some false)))) else (some false)) = some true := H
                            have A48 := Aside0.mk A480
                            clear A480
                            by_cases c49 : t221 = 0
                            · rw [if_pos c49] at H
                              have c49b0 : (t221 == 0) = true := beq_iff_eq.mpr c49
                              have c49b1 : (t221 != 0) = false := bne_eq_false_iff_eq.mpr c49
                              clear c49
                              replace H := Option.bind_eq_some_iff.mp H
                              obtain ⟨⟨t222, t223⟩, A500, H⟩ := H
                              replace H : ((nodes_Depth.f kj37 t222).bind fun bt226 => (if (wrap64 (x15_37 + t220)) = t202 then (if t223 = 0 then (if bt226.2 = 0 then (if (t222.length : Int) = t202 then (if bt226.1 ≤ t209 then ((tailwaterlaw04_alive.f kj37).bind fun t228 => (some t228)) else (some false)) else (some false)) else (some false)) else (some false)) else (some false))) = some true := H
                              have A50 := Aside0.mk A500
                              clear A500
                              replace H := Option.bind_eq_some_iff.mp H
                              obtain ⟨⟨t226, t227⟩, A510, H⟩ := H
                              replace H : (if (wrap64 (x15_37 + t220)) = t202 then (if t223 = 0 then (if t227 = 0 then (if (t222.length : Int) = t202 then (if t226 ≤ t209 then ((tailwaterlaw04_alive.f kj37).bind fun t228 => (some t228)) else (some false)) else (some false)) else (some false)) else (some false)) else (some false)) = some true := H
                              have A51 := Aside0.mk A510
                              clear A510
                              by_cases c52 : (wrap64 (x15_37 + t220)) = t202
                              · rw [if_pos c52] at H
                                have c52b0 : ((wrap64 (x15_37 + t220)) == t202) = true := beq_iff_eq.mpr c52
                                have c52b1 : ((wrap64 (x15_37 + t220)) != t202) = false := bne_eq_false_iff_eq.mpr c52
                                clear c52
                                by_cases c53 : t223 = 0
                                · rw [if_pos c53] at H
                                  have c53b0 : (t223 == 0) = true := beq_iff_eq.mpr c53
                                  have c53b1 : (t223 != 0) = false := bne_eq_false_iff_eq.mpr c53
                                  clear c53
                                  by_cases c54 : t227 = 0
                                  · rw [if_pos c54] at H
                                    have c54b0 : (t227 == 0) = true := beq_iff_eq.mpr c54
                                    have c54b1 : (t227 != 0) = false := bne_eq_false_iff_eq.mpr c54
                                    clear c54
                                    by_cases c55 : (t222.length : Int) = t202
                                    · rw [if_pos c55] at H
                                      have c55b0 : ((t222.length : Int) == t202) = true := beq_iff_eq.mpr c55
                                      have c55b1 : ((t222.length : Int) != t202) = false := bne_eq_false_iff_eq.mpr c55
                                      clear c55
                                      by_cases c56 : t226 ≤ t209
                                      · rw [if_pos c56] at H
                                        have c56b0 : decide (t226 ≤ t209) = true := decide_eq_true c56
                                        clear c56
                                        replace H := Option.bind_eq_some_iff.mp H
                                        obtain ⟨t228, A570, H⟩ := H
                                        replace H : (some t228) = some true := H
                                        have A57 := Aside0.mk A570
                                        clear A570
                                        have hv_ := Option.some.inj H
                                        clear H
                                        have p219 : 0 ≤ (a1 : Int) := of_decide_eq_true (by first | (with_reducible assumption) | assumption)
                                        have q219 : a1 < (l0.length : Int) := of_decide_eq_true (by first | (with_reducible assumption) | assumption)
                                        obtain ⟨ad219, e219, hx219_0, hx219_1, hx219_2, hx219_3, hx219_4⟩ := at_T36 HR0.out a1 p219 q219
                                        obtain rfl : ad204 = ad219 := (by injection e219)
                                        replace hx219_0 := (HB.out.cell (World.block_lt_of_cell? w _ hx219_0)).trans hx219_0
                                        replace hx219_1 := (HB.out.cell (World.block_lt_of_cell? w _ hx219_1)).trans hx219_1
                                        replace hx219_2 := (HB.out.cell (World.block_lt_of_cell? w _ hx219_2)).trans hx219_2
                                        replace hx219_3 := (HB.out.cell (World.block_lt_of_cell? w _ hx219_3)).trans hx219_3
                                        replace hx219_4 := (HB.out.cell (World.block_lt_of_cell? w _ hx219_4)).trans hx219_4
                                        replace p219 := eq_true p219
                                        replace q219 := eq_true q219
                                        go_wp2_with (first | ((with_reducible refine gate_callee (f := 36) rfl ?_); refine goesL_ (some 143) rfl rfl Try.func36 (by kernel_rfl) rfl #[.slice (some ad204) l0.length c0, .int .i64 ((rd_T36 l0 a1).f3)] rfl (by (try simp only [List.map_toArray, List.map_cons, List.map_nil]); first | done | rfl | (simp only [List.length_drop, List.length_take]; rfl)) ?_; (with_reducible refine (nodes_Size.calls kj37 _ _ l0 ((rd_T36 l0 a1).f3) t220 t221 _ ?side1 ?side2 A48.out).mono ?_); (case side1 => repeat (first | exact (Kd.C_below HR0.out HB.out) | (with_reducible refine Kd.C_alloc ?_ _) | (with_reducible refine Kd.C_drewN ?_ _) | (with_reducible refine Kd.C_drew ?_))); (case side2 => exact HC0.out); rintro e w58 ⟨rfl, hb⟩; refine ⟨_, rfl, ?_⟩; have n0_ := Aside0.mk (below_step (by repeat (first | (with_reducible first | exact HB.out | apply below_alloc | apply pw_below_drewN | apply below_drew1) | exact HB.out)) hb); clear HB; have HB := n0_; clear n0_; (try clear hb); (try clear hb2); (try clear hk); (try clear hi)) | ((with_reducible refine gate_callee (f := 39) rfl ?_); refine goesL_ (some 154) rfl rfl Try.func39 (by kernel_rfl) rfl #[.slice (some ad204) l0.length c0, .int .i64 a1] rfl (by (try simp only [List.map_toArray, List.map_cons, List.map_nil]); first | done | rfl | (simp only [List.length_drop, List.length_take]; rfl)) ?_; (with_reducible refine (nodes_Part.calls kj37 _ _ l0 a1 t222 t223 _ ?side1 ?side2 A50.out).mono ?_); (case side1 => repeat (first | exact (Kd.C_below HR0.out HB.out) | (with_reducible refine Kd.C_alloc ?_ _) | (with_reducible refine Kd.C_drewN ?_ _) | (with_reducible refine Kd.C_drew ?_))); (case side2 => exact HC0.out); rintro e w59 ⟨v224, rfl, ho0, hb⟩; refine ⟨_, rfl, ?_⟩; have n0_ := Aside0.mk (Kd.R_lower ho0 (below_size (by repeat (first | (with_reducible first | exact HB.out | apply below_alloc | apply pw_below_drewN | apply below_drew1) | exact HB.out)))); have n1_ := Aside0.mk (below_step (by repeat (first | (with_reducible first | exact HB.out | apply below_alloc | apply pw_below_drewN | apply below_drew1) | exact HB.out)) hb); clear HB; have HO225 := n0_; have HB := n1_; clear n0_ n1_; (try clear hb); (try clear hb2); (try clear hk); (try clear hi); (try clear ho0); obtain ⟨Ao60, co60, eo60⟩ := Kd.R_slice HO225.out; subst eo60) | ((with_reducible refine gate_callee (f := 38) rfl ?_); refine goesL_ (some 159) rfl rfl Try.func38 (by kernel_rfl) rfl #[.slice Ao60 t222.length co60] rfl (by (try simp only [List.map_toArray, List.map_cons, List.map_nil]); first | done | rfl | (simp only [List.length_drop, List.length_take]; rfl)) ?_; (with_reducible refine (nodes_Depth.calls kj37 _ _ t222 t226 t227 _ ?side1 ?side2 A51.out).mono ?_); (case side1 => repeat (first | exact (Kd.R_reads' HO225.out).2.2 | (with_reducible refine Kd.C_alloc ?_ _) | (with_reducible refine Kd.C_drewN ?_ _) | (with_reducible refine Kd.C_drew ?_))); (case side2 => exact (Kd.R_reads' HO225.out).2.1); rintro e w61 ⟨rfl, hb⟩; refine ⟨_, rfl, ?_⟩; have n0_ := Aside0.mk (Kd.R_below (by (with_reducible repeat (first | apply Kd.R_alloc | apply Kd.R_drewN | apply Kd.R_drew)); exact HO225.out) hb); have n1_ := Aside0.mk (below_step (by repeat (first | (with_reducible first | exact HB.out | apply below_alloc | apply pw_below_drewN | apply below_drew1) | exact HB.out)) hb); clear HO225; clear HB; have HO225 := n0_; have HB := n1_; clear n0_ n1_; (try clear hb); (try clear hb2); (try clear hk); (try clear hi)) | (go_at_call 35; (with_reducible refine (tailwaterlaw04_alive.calls kj37  t228 _ A57.out).mono ?_); rintro e w62 ⟨rfl, hb⟩; have n0_ := Aside0.mk (Kd.R_below (by (with_reducible repeat (first | apply Kd.R_alloc | apply Kd.R_drewN | apply Kd.R_drew)); exact HO225.out) hb); have n1_ := Aside0.mk (below_step (by repeat (first | (with_reducible first | exact HB.out | apply below_alloc | apply pw_below_drewN | apply below_drew1) | exact HB.out)) hb); clear HO225; clear HB; have HO225 := n0_; have HB := n1_; clear n0_ n1_; (try clear hb); (try clear hb2); (try clear hk); (try clear hi)))
                                        go_ret
                                        exact ⟨by first | rfl | (simp [errW_none, errW_some] <;> rfl) | (simp [*, errW_none, errW_some] <;> rfl), by repeat (first | (with_reducible first | exact HB.out | apply below_alloc | apply pw_below_drewN | apply below_drew1) | exact HB.out)⟩
                                      · rw [if_neg c56] at H
                                        have c56b0 : decide (t226 ≤ t209) = false := decide_eq_false c56
                                        clear c56
                                        exact absurd H (by simp)
                                    · rw [if_neg c55] at H
                                      have c55b0 : ((t222.length : Int) == t202) = false := beq_eq_false_iff_ne.mpr c55
                                      have c55b1 : ((t222.length : Int) != t202) = true := bne_iff_ne.mpr c55
                                      exact absurd H (by simp)
                                  · rw [if_neg c54] at H
                                    have c54b0 : (t227 == 0) = false := beq_eq_false_iff_ne.mpr c54
                                    have c54b1 : (t227 != 0) = true := bne_iff_ne.mpr c54
                                    exact absurd H (by simp)
                                · rw [if_neg c53] at H
                                  have c53b0 : (t223 == 0) = false := beq_eq_false_iff_ne.mpr c53
                                  have c53b1 : (t223 != 0) = true := bne_iff_ne.mpr c53
                                  exact absurd H (by simp)
                              · rw [if_neg c52] at H
                                have c52b0 : ((wrap64 (x15_37 + t220)) == t202) = false := beq_eq_false_iff_ne.mpr c52
                                have c52b1 : ((wrap64 (x15_37 + t220)) != t202) = true := bne_iff_ne.mpr c52
                                exact absurd H (by simp)
                            · rw [if_neg c49] at H
                              have c49b0 : (t221 == 0) = false := beq_eq_false_iff_ne.mpr c49
                              have c49b1 : (t221 != 0) = true := bne_iff_ne.mpr c49
                              exact absurd H (by simp)
                          · rw [if_neg c47] at H
                            exact absurd H (by simp)
                        · rw [if_neg c46] at H
                          exact absurd H (by simp)
                      · rw [if_neg c45] at H
                        have c45b0 : decide (1 < t205) = false := decide_eq_false c45
                        clear c45
                        replace H := Option.bind_eq_some_iff.mp H
                        obtain ⟨⟨t229, t230⟩, A630, H⟩ := H
                        replace H : ((nodes_Depth.f kj37 t229).bind fun bt233 => (if x15_37 = t202 then (if t230 = 0 then (if bt233.2 = 0 then (if (t229.length : Int) = t202 then (if bt233.1 ≤ t209 then ((tailwaterlaw04_alive.f kj37).bind fun t235 => (some t235)) else (some false)) else (some false)) else (some false)) else (some false)) else (some false))) = some true := H
                        have A63 := Aside0.mk A630
                        clear A630
                        replace H := Option.bind_eq_some_iff.mp H
                        obtain ⟨⟨t233, t234⟩, A640, H⟩ := H
                        replace H : (if x15_37 = t202 then (if t230 = 0 then (if t234 = 0 then (if (t229.length : Int) = t202 then (if t233 ≤ t209 then ((tailwaterlaw04_alive.f kj37).bind fun t235 => (some t235)) else (some false)) else (some false)) else (some false)) else (some false)) else (some false)) = some true := H
                        have A64 := Aside0.mk A640
                        clear A640
                        by_cases c65 : x15_37 = t202
                        · rw [if_pos c65] at H
                          have c65b0 : (x15_37 == t202) = true := beq_iff_eq.mpr c65
                          have c65b1 : (x15_37 != t202) = false := bne_eq_false_iff_eq.mpr c65
                          clear c65
                          by_cases c66 : t230 = 0
                          · rw [if_pos c66] at H
                            have c66b0 : (t230 == 0) = true := beq_iff_eq.mpr c66
                            have c66b1 : (t230 != 0) = false := bne_eq_false_iff_eq.mpr c66
                            clear c66
                            by_cases c67 : t234 = 0
                            · rw [if_pos c67] at H
                              have c67b0 : (t234 == 0) = true := beq_iff_eq.mpr c67
                              have c67b1 : (t234 != 0) = false := bne_eq_false_iff_eq.mpr c67
                              clear c67
                              by_cases c68 : (t229.length : Int) = t202
                              · rw [if_pos c68] at H
                                have c68b0 : ((t229.length : Int) == t202) = true := beq_iff_eq.mpr c68
                                have c68b1 : ((t229.length : Int) != t202) = false := bne_eq_false_iff_eq.mpr c68
                                clear c68
                                by_cases c69 : t233 ≤ t209
                                · rw [if_pos c69] at H
                                  have c69b0 : decide (t233 ≤ t209) = true := decide_eq_true c69
                                  clear c69
                                  replace H := Option.bind_eq_some_iff.mp H
                                  obtain ⟨t235, A700, H⟩ := H
                                  replace H : (some t235) = some true := H
                                  have A70 := Aside0.mk A700
                                  clear A700
                                  have hv_ := Option.some.inj H
                                  clear H
                                  go_wp2_with (first | ((with_reducible refine gate_callee (f := 39) rfl ?_); refine goesL_ (some 154) rfl rfl Try.func39 (by kernel_rfl) rfl #[.slice (some ad204) l0.length c0, .int .i64 a1] rfl (by (try simp only [List.map_toArray, List.map_cons, List.map_nil]); first | done | rfl | (simp only [List.length_drop, List.length_take]; rfl)) ?_; (with_reducible refine (nodes_Part.calls kj37 _ _ l0 a1 t229 t230 _ ?side1 ?side2 A63.out).mono ?_); (case side1 => repeat (first | exact (Kd.C_below HR0.out HB.out) | (with_reducible refine Kd.C_alloc ?_ _) | (with_reducible refine Kd.C_drewN ?_ _) | (with_reducible refine Kd.C_drew ?_))); (case side2 => exact HC0.out); rintro e w71 ⟨v231, rfl, ho0, hb⟩; refine ⟨_, rfl, ?_⟩; have n0_ := Aside0.mk (Kd.R_lower ho0 (below_size (by repeat (first | (with_reducible first | exact HB.out | apply below_alloc | apply pw_below_drewN | apply below_drew1) | exact HB.out)))); have n1_ := Aside0.mk (below_step (by repeat (first | (with_reducible first | exact HB.out | apply below_alloc | apply pw_below_drewN | apply below_drew1) | exact HB.out)) hb); clear HB; have HO232 := n0_; have HB := n1_; clear n0_ n1_; (try clear hb); (try clear hb2); (try clear hk); (try clear hi); (try clear ho0); obtain ⟨Ao72, co72, eo72⟩ := Kd.R_slice HO232.out; subst eo72) | ((with_reducible refine gate_callee (f := 38) rfl ?_); refine goesL_ (some 159) rfl rfl Try.func38 (by kernel_rfl) rfl #[.slice Ao72 t229.length co72] rfl (by (try simp only [List.map_toArray, List.map_cons, List.map_nil]); first | done | rfl | (simp only [List.length_drop, List.length_take]; rfl)) ?_; (with_reducible refine (nodes_Depth.calls kj37 _ _ t229 t233 t234 _ ?side1 ?side2 A64.out).mono ?_); (case side1 => repeat (first | exact (Kd.R_reads' HO232.out).2.2 | (with_reducible refine Kd.C_alloc ?_ _) | (with_reducible refine Kd.C_drewN ?_ _) | (with_reducible refine Kd.C_drew ?_))); (case side2 => exact (Kd.R_reads' HO232.out).2.1); rintro e w73 ⟨rfl, hb⟩; refine ⟨_, rfl, ?_⟩; have n0_ := Aside0.mk (Kd.R_below (by (with_reducible repeat (first | apply Kd.R_alloc | apply Kd.R_drewN | apply Kd.R_drew)); exact HO232.out) hb); have n1_ := Aside0.mk (below_step (by repeat (first | (with_reducible first | exact HB.out | apply below_alloc | apply pw_below_drewN | apply below_drew1) | exact HB.out)) hb); clear HO232; clear HB; have HO232 := n0_; have HB := n1_; clear n0_ n1_; (try clear hb); (try clear hb2); (try clear hk); (try clear hi)) | (go_at_call 35; (with_reducible refine (tailwaterlaw04_alive.calls kj37  t235 _ A70.out).mono ?_); rintro e w74 ⟨rfl, hb⟩; have n0_ := Aside0.mk (Kd.R_below (by (with_reducible repeat (first | apply Kd.R_alloc | apply Kd.R_drewN | apply Kd.R_drew)); exact HO232.out) hb); have n1_ := Aside0.mk (below_step (by repeat (first | (with_reducible first | exact HB.out | apply below_alloc | apply pw_below_drewN | apply below_drew1) | exact HB.out)) hb); clear HO232; clear HB; have HO232 := n0_; have HB := n1_; clear n0_ n1_; (try clear hb); (try clear hb2); (try clear hk); (try clear hi)))
                                  go_ret
                                  exact ⟨by first | rfl | (simp [errW_none, errW_some] <;> rfl) | (simp [*, errW_none, errW_some] <;> rfl), by repeat (first | (with_reducible first | exact HB.out | apply below_alloc | apply pw_below_drewN | apply below_drew1) | exact HB.out)⟩
                                · rw [if_neg c69] at H
                                  have c69b0 : decide (t233 ≤ t209) = false := decide_eq_false c69
                                  clear c69
                                  exact absurd H (by simp)
                              · rw [if_neg c68] at H
                                have c68b0 : ((t229.length : Int) == t202) = false := beq_eq_false_iff_ne.mpr c68
                                have c68b1 : ((t229.length : Int) != t202) = true := bne_iff_ne.mpr c68
                                exact absurd H (by simp)
                            · rw [if_neg c67] at H
                              have c67b0 : (t234 == 0) = false := beq_eq_false_iff_ne.mpr c67
                              have c67b1 : (t234 != 0) = true := bne_iff_ne.mpr c67
                              exact absurd H (by simp)
                          · rw [if_neg c66] at H
                            have c66b0 : (t230 == 0) = false := beq_eq_false_iff_ne.mpr c66
                            have c66b1 : (t230 != 0) = true := bne_iff_ne.mpr c66
                            exact absurd H (by simp)
                        · rw [if_neg c65] at H
                          have c65b0 : (x15_37 == t202) = false := beq_eq_false_iff_ne.mpr c65
                          have c65b1 : (x15_37 != t202) = true := bne_iff_ne.mpr c65
                          exact absurd H (by simp)
          · rw [if_neg c17] at H
            exact absurd H (by simp)
        · rw [if_neg c16] at H
          exact absurd H (by simp)

end Go.Proofs.Ytpkamfjkmbakhaa.N
