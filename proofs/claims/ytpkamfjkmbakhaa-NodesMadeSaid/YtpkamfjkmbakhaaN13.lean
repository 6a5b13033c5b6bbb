-- Written by a program of this place (wip/prt.py), out of Lean's own print of the program: Lean checks it.
import Derived.Test.YtpkamfjkmbakhaaN0
import Derived.Test.YtpkamfjkmbakhaaN2
import Derived.Test.YtpkamfjkmbakhaaN4
import Derived.Test.YtpkamfjkmbakhaaN5
import Derived.Test.YtpkamfjkmbakhaaN8
import Derived.Test.YtpkamfjkmbakhaaN9
import Derived.Test.YtpkamfjkmbakhaaN12
namespace Go.Proofs.Ytpkamfjkmbakhaa.N
open Go.RowKit Go.Proofs.YtpkamfjkmbakhaaW.PrintWords Go.Proofs.YtpkamfjkmbakhaaW.PrintLast Go.Proofs.YtpkamfjkmbakhaaW.PrintMore
attribute [local go_sem] max2_int min2_int max_two min_two max_three min_three max_four min_four   -- for this text's walks alone
set_option linter.unusedVariables false
set_option linter.unusedSimpArgs false

/-! ### tailwaterlaw04_NodesMade: function 9 -/
mutual
def tailwaterlaw04_NodesMade.j0 : Nat → List (S36) → Int → Bool → Option (Bool)
  | 0, _, _, _ => none
  | k + 1, x0, x1, x33 => if x33 = true then ((tailwaterlaw04_alive.f k).bind fun t257 => (some t257)) else ((nodes_Part.f k x0 x1).bind fun bt258 => (if 0 ≤ x1 then (if x1 < (x0.length : Int) then ((nodes_Parts.f k ((rd_T36 x0 x1).f0)).bind fun bt264 => (if bt258.2 = 0 then (tailwaterlaw04_NodesMade.j1 k x0 bt258.1 bt264.1 (bt264.2 != 0) ((rd_T36 x0 x1).f0) ((rd_T36 x0 x1).f1) ((rd_T36 x0 x1).f2) ((rd_T36 x0 x1).f3) ((rd_T36 x0 x1).f4)) else (tailwaterlaw04_NodesMade.j1 k x0 bt258.1 bt264.1 true ((rd_T36 x0 x1).f0) ((rd_T36 x0 x1).f1) ((rd_T36 x0 x1).f2) ((rd_T36 x0 x1).f3) ((rd_T36 x0 x1).f4)))) else (none)) else (none)))
def tailwaterlaw04_NodesMade.j1 : Nat → List (S36) → List (S36) → Int → Bool → Int → Int → Int → Int → Int → Option (Bool)
  | 0, _, _, _, _, _, _, _, _, _ => none
  | k + 1, x0, x5, x8, x56, x264000, x264001, x264002, x264003, x264004 => if x56 = true then (some false) else (if x8 > 0 then ((nodes_Part.f k x0 x264002).bind fun bt266 => (if bt266.2 = 0 then (if ([] : List (List (S36))).length < 5864062014805 then (tailwaterlaw04_NodesMade.j2 k x0 x5 x8 (([] : List (List (S36))) ++ [bt266.1]) x264000 x264001 x264002 x264003 x264004) else (none)) else (some false))) else (tailwaterlaw04_NodesMade.j2 k x0 x5 x8 ([] : List (List (S36))) x264000 x264001 x264002 x264003 x264004))
def tailwaterlaw04_NodesMade.j2 : Nat → List (S36) → List (S36) → Int → List (List (S36)) → Int → Int → Int → Int → Int → Option (Bool)
  | 0, _, _, _, _, _, _, _, _, _ => none
  | k + 1, x0, x5, x8, x10, x264000, x264001, x264002, x264003, x264004 => if x8 > 1 then ((nodes_Part.f k x0 x264003).bind fun bt273 => (if bt273.2 = 0 then (if x10.length < 5864062014805 then ((nodes_Node.f k x264000 x264001 x264004 (x10 ++ [bt273.1])).bind fun bt280 => (if bt280.2 = 0 then ((tailwaterref04_Equal.f k bt280.1 x5).bind fun t284 => (if t284 = true then ((tailwaterlaw04_alive.f k).bind fun t285 => (some t285)) else (some false))) else (some false))) else (none)) else (some false))) else ((nodes_Node.f k x264000 x264001 x264004 x10).bind fun bt286 => (if bt286.2 = 0 then ((tailwaterref04_Equal.f k bt286.1 x5).bind fun t290 => (if t290 = true then ((tailwaterlaw04_alive.f k).bind fun t291 => (some t291)) else (some false))) else (some false)))
end
def tailwaterlaw04_NodesMade.f (k : Nat) (l0 : List (S36)) (a1 : Int) : Option (Bool) := (tailwaterref04_Great.f l0).bind fun t255 => (if t255 = true then (tailwaterlaw04_NodesMade.j0 k l0 a1 true) else ((tailwaterref04_Check.f k l0).bind fun t256 => (if t256 = 0 then (if a1 < 0 then (tailwaterlaw04_NodesMade.j0 k l0 a1 true) else (tailwaterlaw04_NodesMade.j0 k l0 a1 (decide (a1 ≥ (l0.length : Int))))) else (tailwaterlaw04_NodesMade.j0 k l0 a1 true))))
theorem tailwaterlaw04_NodesMade.mono_l : ∀ k, (∀ y0 y1 y2, LeO (tailwaterlaw04_NodesMade.j0 k y0 y1 y2) (tailwaterlaw04_NodesMade.j0 (k + 1) y0 y1 y2)) ∧ (∀ y0 y1 y2 y3 y4 y5 y6 y7 y8, LeO (tailwaterlaw04_NodesMade.j1 k y0 y1 y2 y3 y4 y5 y6 y7 y8) (tailwaterlaw04_NodesMade.j1 (k + 1) y0 y1 y2 y3 y4 y5 y6 y7 y8)) ∧ (∀ y0 y1 y2 y3 y4 y5 y6 y7 y8, LeO (tailwaterlaw04_NodesMade.j2 k y0 y1 y2 y3 y4 y5 y6 y7 y8) (tailwaterlaw04_NodesMade.j2 (k + 1) y0 y1 y2 y3 y4 y5 y6 y7 y8))
  | 0 => ⟨fun _ _ _ r h => by simp [tailwaterlaw04_NodesMade.j0] at h, fun _ _ _ _ _ _ _ _ _ r h => by simp [tailwaterlaw04_NodesMade.j1] at h, fun _ _ _ _ _ _ _ _ _ r h => by simp [tailwaterlaw04_NodesMade.j2] at h⟩
  | k + 1 => by
    obtain ⟨ih0, ih1, ih2⟩ := tailwaterlaw04_NodesMade.mono_l k
    refine ⟨?_, ?_, ?_⟩
    · intro y0 y1 y2
      unfold tailwaterlaw04_NodesMade.j0
      repeat' first
      | (with_reducible exact ih0 _ _ _)
      | (with_reducible exact ih1 _ _ _ _ _ _ _ _ _)
      | (with_reducible exact ih2 _ _ _ _ _ _ _ _ _)
      | (with_reducible exact nodes_Node.mono _ _ _ _ _)
      | (with_reducible exact nodes_Part.mono _ _ _)
      | (with_reducible exact nodes_Parts.mono _ _)
      | (with_reducible exact tailwaterlaw04_alive.mono _)
      | (with_reducible exact tailwaterref04_Check.mono _ _)
      | (with_reducible exact tailwaterref04_Equal.mono _ _ _)
      | (with_reducible exact LeO.refl _)
      | (with_reducible exact LeO.none _)
      | (with_reducible refine LeO.ite ?_ ?_)
      | (with_reducible refine LeO.bind ?_ (fun _ => ?_))
      | exact ih0 _ _ _
      | exact ih1 _ _ _ _ _ _ _ _ _
      | exact ih2 _ _ _ _ _ _ _ _ _
      | exact nodes_Node.mono _ _ _ _ _
      | exact nodes_Part.mono _ _ _
      | exact nodes_Parts.mono _ _
      | exact tailwaterlaw04_alive.mono _
      | exact tailwaterref04_Check.mono _ _
      | exact tailwaterref04_Equal.mono _ _ _
      | exact LeO.none _
      | refine LeO.ite ?_ ?_
      | refine LeO.bind ?_ (fun _ => ?_)
    · intro y0 y1 y2 y3 y4 y5 y6 y7 y8
      unfold tailwaterlaw04_NodesMade.j1
      repeat' first
      | (with_reducible exact ih0 _ _ _)
      | (with_reducible exact ih1 _ _ _ _ _ _ _ _ _)
      | (with_reducible exact ih2 _ _ _ _ _ _ _ _ _)
      | (with_reducible exact nodes_Node.mono _ _ _ _ _)
      | (with_reducible exact nodes_Part.mono _ _ _)
      | (with_reducible exact nodes_Parts.mono _ _)
      | (with_reducible exact tailwaterlaw04_alive.mono _)
      | (with_reducible exact tailwaterref04_Check.mono _ _)
      | (with_reducible exact tailwaterref04_Equal.mono _ _ _)
      | (with_reducible exact LeO.refl _)
      | (with_reducible exact LeO.none _)
      | (with_reducible refine LeO.ite ?_ ?_)
      | (with_reducible refine LeO.bind ?_ (fun _ => ?_))
      | exact ih0 _ _ _
      | exact ih1 _ _ _ _ _ _ _ _ _
      | exact ih2 _ _ _ _ _ _ _ _ _
      | exact nodes_Node.mono _ _ _ _ _
      | exact nodes_Part.mono _ _ _
      | exact nodes_Parts.mono _ _
      | exact tailwaterlaw04_alive.mono _
      | exact tailwaterref04_Check.mono _ _
      | exact tailwaterref04_Equal.mono _ _ _
      | exact LeO.none _
      | refine LeO.ite ?_ ?_
      | refine LeO.bind ?_ (fun _ => ?_)
    · intro y0 y1 y2 y3 y4 y5 y6 y7 y8
      unfold tailwaterlaw04_NodesMade.j2
      repeat' first
      | (with_reducible exact ih0 _ _ _)
      | (with_reducible exact ih1 _ _ _ _ _ _ _ _ _)
      | (with_reducible exact ih2 _ _ _ _ _ _ _ _ _)
      | (with_reducible exact nodes_Node.mono _ _ _ _ _)
      | (with_reducible exact nodes_Part.mono _ _ _)
      | (with_reducible exact nodes_Parts.mono _ _)
      | (with_reducible exact tailwaterlaw04_alive.mono _)
      | (with_reducible exact tailwaterref04_Check.mono _ _)
      | (with_reducible exact tailwaterref04_Equal.mono _ _ _)
      | (with_reducible exact LeO.refl _)
      | (with_reducible exact LeO.none _)
      | (with_reducible refine LeO.ite ?_ ?_)
      | (with_reducible refine LeO.bind ?_ (fun _ => ?_))
      | exact ih0 _ _ _
      | exact ih1 _ _ _ _ _ _ _ _ _
      | exact ih2 _ _ _ _ _ _ _ _ _
      | exact nodes_Node.mono _ _ _ _ _
      | exact nodes_Part.mono _ _ _
      | exact nodes_Parts.mono _ _
      | exact tailwaterlaw04_alive.mono _
      | exact tailwaterref04_Check.mono _ _
      | exact tailwaterref04_Equal.mono _ _ _
      | exact LeO.none _
      | refine LeO.ite ?_ ?_
      | refine LeO.bind ?_ (fun _ => ?_)
theorem tailwaterlaw04_NodesMade.mono : ∀ a0 a1 k, LeO (tailwaterlaw04_NodesMade.f k a0 a1) (tailwaterlaw04_NodesMade.f (k + 1) a0 a1) := by
  intro a0 a1 k
  obtain ⟨ih0, ih1, ih2⟩ := tailwaterlaw04_NodesMade.mono_l k
  unfold tailwaterlaw04_NodesMade.f
  repeat' first
      | (with_reducible exact ih0 _ _ _)
      | (with_reducible exact ih1 _ _ _ _ _ _ _ _ _)
      | (with_reducible exact ih2 _ _ _ _ _ _ _ _ _)
      | (with_reducible exact nodes_Node.mono _ _ _ _ _)
      | (with_reducible exact nodes_Part.mono _ _ _)
      | (with_reducible exact nodes_Parts.mono _ _)
      | (with_reducible exact tailwaterlaw04_alive.mono _)
      | (with_reducible exact tailwaterref04_Check.mono _ _)
      | (with_reducible exact tailwaterref04_Equal.mono _ _ _)
      | (with_reducible exact LeO.refl _)
      | (with_reducible exact LeO.none _)
      | (with_reducible refine LeO.ite ?_ ?_)
      | (with_reducible refine LeO.bind ?_ (fun _ => ?_))
      | exact ih0 _ _ _
      | exact ih1 _ _ _ _ _ _ _ _ _
      | exact ih2 _ _ _ _ _ _ _ _ _
      | exact nodes_Node.mono _ _ _ _ _
      | exact nodes_Part.mono _ _ _
      | exact nodes_Parts.mono _ _
      | exact tailwaterlaw04_alive.mono _
      | exact tailwaterref04_Check.mono _ _
      | exact tailwaterref04_Equal.mono _ _ _
      | exact LeO.none _
      | refine LeO.ite ?_ ?_
      | refine LeO.bind ?_ (fun _ => ?_)
set_option maxHeartbeats 8000000 in
set_option maxRecDepth 100000 in
theorem tailwaterlaw04_NodesMade.calls (k : Nat) (A0 : Option Addr) (c0 : Nat) (l0 : List (S36)) (a1 : Int) (w : World) (hr0 : Kd.C k36 w A0 l0.length l0) (hc0 : l0.length ≤ c0) (h : tailwaterlaw04_NodesMade.f k l0 a1 = some true) :
    Calls Try.prog 9 #[.slice A0 l0.length c0, .int .i64 a1] w fun e w' => e = .returned (.bool true) ∧ Below w.heap.size w w' := by
  have hu36 := Try.underlying36
  have HR0 := Aside0.mk hr0
  have HC0 := Aside0.mk hc0
  clear hr0 hc0
  have HB := Aside0.mk (Below.refl w.heap.size w)
  have H : ((tailwaterref04_Great.f l0).bind fun t255 => (if t255 = true then (tailwaterlaw04_NodesMade.j0 k l0 a1 true) else ((tailwaterref04_Check.f k l0).bind fun t256 => (if t256 = 0 then (if a1 < 0 then (tailwaterlaw04_NodesMade.j0 k l0 a1 true) else (tailwaterlaw04_NodesMade.j0 k l0 a1 (decide (a1 ≥ (l0.length : Int))))) else (tailwaterlaw04_NodesMade.j0 k l0 a1 true))))) = some true := h
  clear h
  have HC3 := Aside0.mk H
  clear H
  go_enter Try.func9, Try.ntmps9
  go_upto_region 1 with (fail)
  go_cut [33] (fun v33 wc => ∃ (kq : Nat) (x33_2 : Bool), v33 = .bool x33_2 ∧ Aside0 (tailwaterlaw04_NodesMade.j0 kq l0 a1 x33_2 = some true) ∧ Aside0 (kq ≤ k) ∧ Aside0 (Below w.heap.size w wc))
  case first =>
    have H := HC3.out
    clear HC3
    replace H := Option.bind_eq_some_iff.mp H
    obtain ⟨t255, A40, H⟩ := H
    replace H : (if t255 = true then (tailwaterlaw04_NodesMade.j0 k l0 a1 true) else ((tailwaterref04_Check.f k l0).bind fun t256 => (if t256 = 0 then (if a1 < 0 then (tailwaterlaw04_NodesMade.j0 k l0 a1 true) else (tailwaterlaw04_NodesMade.j0 k l0 a1 (decide (a1 ≥ (l0.length : Int))))) else (tailwaterlaw04_NodesMade.j0 k l0 a1 true)))) = some true := H
    have A4 := Aside0.mk A40
    clear A40
    by_cases c5 : t255 = true
    · subst c5
      have H1 : (tailwaterlaw04_NodesMade.j0 k l0 a1 true) = some true := by rw [if_pos rfl] at H; exact H
      clear H
      have H := H1
      clear H1
      have H' := Aside0.mk H
      clear H
      go_wp2_with (first | ((with_reducible refine gate_callee (f := 33) rfl ?_); refine goesL_ (some 18) rfl rfl Try.func33 (by kernel_rfl) rfl #[.slice A0 l0.length c0] rfl (by (try simp only [List.map_toArray, List.map_cons, List.map_nil]); first | done | rfl | (simp only [List.length_drop, List.length_take]; rfl)) ?_; (with_reducible refine (tailwaterref04_Great.calls _ _ l0 true _ ?side1 ?side2 A4.out).mono ?_); (case side1 => repeat (first | exact (Kd.C_below HR0.out HB.out) | (with_reducible refine Kd.C_alloc ?_ _) | (with_reducible refine Kd.C_drewN ?_ _) | (with_reducible refine Kd.C_drew ?_))); (case side2 => exact HC0.out); rintro e w' ⟨rfl, ⟨nd, rfl⟩⟩; refine ⟨_, rfl, ?_⟩))
      go_meet
      case rel => exact ⟨_, (true), (by first | rfl | (simp; done) | (simp [*]; done)), H', ⟨by first | omega | exact Nat.le_refl _⟩, ⟨by repeat (first | (with_reducible first | exact HB.out | apply below_alloc | apply pw_below_drewN | apply below_drew1) | exact HB.out)⟩⟩
    · replace c5 := Bool.eq_false_iff.mpr c5
      subst c5
      have H1 : ((tailwaterref04_Check.f k l0).bind fun t256 => (if t256 = 0 then (if a1 < 0 then (tailwaterlaw04_NodesMade.j0 k l0 a1 true) else (tailwaterlaw04_NodesMade.j0 k l0 a1 (decide (a1 ≥ (l0.length : Int))))) else (tailwaterlaw04_NodesMade.j0 k l0 a1 true))) = some true := by rw [if_neg (show ¬ (false = true) by decide)] at H; exact H
      clear H
      have H := H1
      clear H1
      replace H := Option.bind_eq_some_iff.mp H
      obtain ⟨t256, A60, H⟩ := H
      replace H : (if t256 = 0 then (if a1 < 0 then (tailwaterlaw04_NodesMade.j0 k l0 a1 true) else (tailwaterlaw04_NodesMade.j0 k l0 a1 (decide (a1 ≥ (l0.length : Int))))) else (tailwaterlaw04_NodesMade.j0 k l0 a1 true)) = some true := H
      have A6 := Aside0.mk A60
      clear A60
      by_cases c7 : t256 = 0
      · rw [if_pos c7] at H
        have c7b0 : (t256 == 0) = true := beq_iff_eq.mpr c7
        have c7b1 : (t256 != 0) = false := bne_eq_false_iff_eq.mpr c7
        clear c7
        (first | rw [c7b0] | (simp only [i64_w, i32_w]; rw [c7b0]) | skip)
        by_cases c8 : a1 < 0
        · rw [if_pos c8] at H
          have c8b0 : decide (a1 < 0) = true := decide_eq_true c8
          clear c8
          have H' := Aside0.mk H
          clear H
          go_wp2_with (first | ((with_reducible refine gate_callee (f := 33) rfl ?_); refine goesL_ (some 18) rfl rfl Try.func33 (by kernel_rfl) rfl #[.slice A0 l0.length c0] rfl (by (try simp only [List.map_toArray, List.map_cons, List.map_nil]); first | done | rfl | (simp only [List.length_drop, List.length_take]; rfl)) ?_; (with_reducible refine (tailwaterref04_Great.calls _ _ l0 false _ ?side1 ?side2 A4.out).mono ?_); (case side1 => repeat (first | exact (Kd.C_below HR0.out HB.out) | (with_reducible refine Kd.C_alloc ?_ _) | (with_reducible refine Kd.C_drewN ?_ _) | (with_reducible refine Kd.C_drew ?_))); (case side2 => exact HC0.out); rintro e w' ⟨rfl, ⟨nd, rfl⟩⟩; refine ⟨_, rfl, ?_⟩) | (go_at_call 34; (with_reducible refine (tailwaterref04_Check.calls k _ _ l0 t256 _ ?side1 ?side2 A6.out).mono ?_); (case side1 => repeat (first | exact (Kd.C_below HR0.out (by repeat (first | (with_reducible first | exact HB.out | apply below_alloc | apply pw_below_drewN | apply below_drew1) | exact HB.out))) | (with_reducible refine Kd.C_alloc ?_ _) | (with_reducible refine Kd.C_drewN ?_ _) | (with_reducible refine Kd.C_drew ?_))); (case side2 => exact HC0.out); rintro e w9 ⟨rfl, hb⟩; have n0_ := Aside0.mk (below_step (by repeat (first | (with_reducible first | exact HB.out | apply below_alloc | apply pw_below_drewN | apply below_drew1) | exact HB.out)) hb); clear HB; have HB := n0_; clear n0_; (try clear hb); (try clear hb2); (try clear hk); (try clear hi)))
          go_meet
          case rel => exact ⟨_, (true), (by first | rfl | (simp; done) | (simp [*]; done)), H', ⟨by first | omega | exact Nat.le_refl _⟩, ⟨by repeat (first | (with_reducible first | exact HB.out | apply below_alloc | apply pw_below_drewN | apply below_drew1) | exact HB.out)⟩⟩
        · rw [if_neg c8] at H
          have c8b0 : decide (a1 < 0) = false := decide_eq_false c8
          clear c8
          have H' := Aside0.mk H
          clear H
          go_wp2_with (first | ((with_reducible refine gate_callee (f := 33) rfl ?_); refine goesL_ (some 18) rfl rfl Try.func33 (by kernel_rfl) rfl #[.slice A0 l0.length c0] rfl (by (try simp only [List.map_toArray, List.map_cons, List.map_nil]); first | done | rfl | (simp only [List.length_drop, List.length_take]; rfl)) ?_; (with_reducible refine (tailwaterref04_Great.calls _ _ l0 false _ ?side1 ?side2 A4.out).mono ?_); (case side1 => repeat (first | exact (Kd.C_below HR0.out HB.out) | (with_reducible refine Kd.C_alloc ?_ _) | (with_reducible refine Kd.C_drewN ?_ _) | (with_reducible refine Kd.C_drew ?_))); (case side2 => exact HC0.out); rintro e w' ⟨rfl, ⟨nd, rfl⟩⟩; refine ⟨_, rfl, ?_⟩) | (go_at_call 34; (with_reducible refine (tailwaterref04_Check.calls k _ _ l0 t256 _ ?side1 ?side2 A6.out).mono ?_); (case side1 => repeat (first | exact (Kd.C_below HR0.out (by repeat (first | (with_reducible first | exact HB.out | apply below_alloc | apply pw_below_drewN | apply below_drew1) | exact HB.out))) | (with_reducible refine Kd.C_alloc ?_ _) | (with_reducible refine Kd.C_drewN ?_ _) | (with_reducible refine Kd.C_drew ?_))); (case side2 => exact HC0.out); rintro e w10 ⟨rfl, hb⟩; have n0_ := Aside0.mk (below_step (by repeat (first | (with_reducible first | exact HB.out | apply below_alloc | apply pw_below_drewN | apply below_drew1) | exact HB.out)) hb); clear HB; have HB := n0_; clear n0_; (try clear hb); (try clear hb2); (try clear hk); (try clear hi)))
          go_meet
          case rel => exact ⟨_, (decide (a1 ≥ (l0.length : Int))), (by first | rfl | (simp; done) | (simp [*]; done)), H', ⟨by first | omega | exact Nat.le_refl _⟩, ⟨by repeat (first | (with_reducible first | exact HB.out | apply below_alloc | apply pw_below_drewN | apply below_drew1) | exact HB.out)⟩⟩
      · rw [if_neg c7] at H
        have c7b0 : (t256 == 0) = false := beq_eq_false_iff_ne.mpr c7
        have c7b1 : (t256 != 0) = true := bne_iff_ne.mpr c7
        (first | rw [c7b0] | (simp only [i64_w, i32_w]; rw [c7b0]) | skip)
        have H' := Aside0.mk H
        clear H
        go_wp2_with (first | ((with_reducible refine gate_callee (f := 33) rfl ?_); refine goesL_ (some 18) rfl rfl Try.func33 (by kernel_rfl) rfl #[.slice A0 l0.length c0] rfl (by (try simp only [List.map_toArray, List.map_cons, List.map_nil]); first | done | rfl | (simp only [List.length_drop, List.length_take]; rfl)) ?_; (with_reducible refine (tailwaterref04_Great.calls _ _ l0 false _ ?side1 ?side2 A4.out).mono ?_); (case side1 => repeat (first | exact (Kd.C_below HR0.out HB.out) | (with_reducible refine Kd.C_alloc ?_ _) | (with_reducible refine Kd.C_drewN ?_ _) | (with_reducible refine Kd.C_drew ?_))); (case side2 => exact HC0.out); rintro e w' ⟨rfl, ⟨nd, rfl⟩⟩; refine ⟨_, rfl, ?_⟩) | (go_at_call 34; (with_reducible refine (tailwaterref04_Check.calls k _ _ l0 t256 _ ?side1 ?side2 A6.out).mono ?_); (case side1 => repeat (first | exact (Kd.C_below HR0.out (by repeat (first | (with_reducible first | exact HB.out | apply below_alloc | apply pw_below_drewN | apply below_drew1) | exact HB.out))) | (with_reducible refine Kd.C_alloc ?_ _) | (with_reducible refine Kd.C_drewN ?_ _) | (with_reducible refine Kd.C_drew ?_))); (case side2 => exact HC0.out); rintro e w11 ⟨rfl, hb⟩; have n0_ := Aside0.mk (below_step (by repeat (first | (with_reducible first | exact HB.out | apply below_alloc | apply pw_below_drewN | apply below_drew1) | exact HB.out)) hb); clear HB; have HB := n0_; clear n0_; (try clear hb); (try clear hb2); (try clear hk); (try clear hi)))
        go_meet
        case rel => exact ⟨_, (true), (by first | rfl | (simp; done) | (simp [*]; done)), H', ⟨by first | omega | exact Nat.le_refl _⟩, ⟨by repeat (first | (with_reducible first | exact HB.out | apply below_alloc | apply pw_below_drewN | apply below_drew1) | exact HB.out)⟩⟩
  case rest =>
    clear HC3
    try clear p2
    try clear c3
    try clear c5
    try clear c7
    try clear c7b0
    try clear c7b1
    try clear c8
    try clear c8b0
    try clear c9
    obtain ⟨kq, x33_2, rfl, HA, HJ2, HB⟩ := hcut
    cases kq with
    | zero => exact absurd HA.out (by simp [tailwaterlaw04_NodesMade.j0])
    | succ kj2 =>
      have H := HA.out
      clear HA
      simp only [tailwaterlaw04_NodesMade.j0] at H
      by_cases c12 : x33_2 = true
      · subst c12
        have H1 : ((tailwaterlaw04_alive.f kj2).bind fun t257 => (some t257)) = some true := by rw [if_pos rfl] at H; exact H
        clear H
        have H := H1
        clear H1
        replace H := Option.bind_eq_some_iff.mp H
        obtain ⟨t257, A130, H⟩ := H
        replace H : (some t257) = some true := H
        have A13 := Aside0.mk A130
        clear A130
        have hv_ := Option.some.inj H
        clear H
        go_wp2_with (first | ((with_reducible refine gate_callee (f := 35) rfl ?_); refine goesL_ (some 34) rfl rfl Try.func35 (by kernel_rfl) rfl #[] rfl (by (try simp only [List.map_toArray, List.map_cons, List.map_nil]); first | done | rfl | (simp only [List.length_drop, List.length_take]; rfl)) ?_; (with_reducible refine (tailwaterlaw04_alive.calls kj2  t257 _ A13.out).mono ?_); rintro e w14 ⟨rfl, hb⟩; refine ⟨_, rfl, ?_⟩; have n0_ := Aside0.mk (below_step (by repeat (first | (with_reducible first | exact HB.out | apply below_alloc | apply pw_below_drewN | apply below_drew1) | exact HB.out)) hb); clear HB; have HB := n0_; clear n0_; (try clear hb); (try clear hb2); (try clear hk); (try clear hi)))
        go_ret
        exact ⟨by first | rfl | (simp [errW_none, errW_some] <;> rfl) | (simp [*, errW_none, errW_some] <;> rfl), by repeat (first | (with_reducible first | exact HB.out | apply below_alloc | apply pw_below_drewN | apply below_drew1) | exact HB.out)⟩
      · replace c12 := Bool.eq_false_iff.mpr c12
        subst c12
        have H1 : ((nodes_Part.f kj2 l0 a1).bind fun bt258 => (if 0 ≤ a1 then (if a1 < (l0.length : Int) then ((nodes_Parts.f kj2 ((rd_T36 l0 a1).f0)).bind fun bt264 => (if bt258.2 = 0 then (tailwaterlaw04_NodesMade.j1 kj2 l0 bt258.1 bt264.1 (bt264.2 != 0) ((rd_T36 l0 a1).f0) ((rd_T36 l0 a1).f1) ((rd_T36 l0 a1).f2) ((rd_T36 l0 a1).f3) ((rd_T36 l0 a1).f4)) else (tailwaterlaw04_NodesMade.j1 kj2 l0 bt258.1 bt264.1 true ((rd_T36 l0 a1).f0) ((rd_T36 l0 a1).f1) ((rd_T36 l0 a1).f2) ((rd_T36 l0 a1).f3) ((rd_T36 l0 a1).f4)))) else (none)) else (none))) = some true := by rw [if_neg (show ¬ (false = true) by decide)] at H; exact H
        clear H
        have H := H1
        clear H1
        replace H := Option.bind_eq_some_iff.mp H
        obtain ⟨⟨t258, t259⟩, A150, H⟩ := H
        replace H : (if 0 ≤ a1 then (if a1 < (l0.length : Int) then ((nodes_Parts.f kj2 ((rd_T36 l0 a1).f0)).bind fun bt264 => (if t259 = 0 then (tailwaterlaw04_NodesMade.j1 kj2 l0 t258 bt264.1 (bt264.2 != 0) ((rd_T36 l0 a1).f0) ((rd_T36 l0 a1).f1) ((rd_T36 l0 a1).f2) ((rd_T36 l0 a1).f3) ((rd_T36 l0 a1).f4)) else (tailwaterlaw04_NodesMade.j1 kj2 l0 t258 bt264.1 true ((rd_T36 l0 a1).f0) ((rd_T36 l0 a1).f1) ((rd_T36 l0 a1).f2) ((rd_T36 l0 a1).f3) ((rd_T36 l0 a1).f4)))) else (none)) else (none)) = some true := H
        have A15 := Aside0.mk A150
        clear A150
        by_cases c16 : 0 ≤ a1
        · rw [if_pos c16] at H
          have c16b0 : decide (0 ≤ a1) = true := decide_eq_true c16
          clear c16
          by_cases c17 : a1 < (l0.length : Int)
          · rw [if_pos c17] at H
            have c17b0 : decide (a1 < (l0.length : Int)) = true := decide_eq_true c17
            clear c17
            replace H := Option.bind_eq_some_iff.mp H
            obtain ⟨⟨t264, t265⟩, A180, H⟩ := H
            replace H : (if t259 = 0 then (tailwaterlaw04_NodesMade.j1 kj2 l0 t258 t264 (t265 != 0) ((rd_T36 l0 a1).f0) ((rd_T36 l0 a1).f1) ((rd_T36 l0 a1).f2) ((rd_T36 l0 a1).f3) ((rd_T36 l0 a1).f4)) else (tailwaterlaw04_NodesMade.j1 kj2 l0 t258 t264 true ((rd_T36 l0 a1).f0) ((rd_T36 l0 a1).f1) ((rd_T36 l0 a1).f2) ((rd_T36 l0 a1).f3) ((rd_T36 l0 a1).f4))) = some true := H
            have A18 := Aside0.mk A180
            clear A180
            have HC19 := Aside0.mk H
            clear H
            go_upto_region 6 with (first | ((with_reducible refine gate_callee (f := 39) rfl ?_); refine goesL_ (some 38) rfl rfl Try.func39 (by kernel_rfl) rfl #[.slice A0 l0.length c0, .int .i64 a1] rfl (by (try simp only [List.map_toArray, List.map_cons, List.map_nil]); first | done | rfl | (simp only [List.length_drop, List.length_take]; rfl)) ?_; (with_reducible refine (nodes_Part.calls kj2 _ _ l0 a1 t258 t259 _ ?side1 ?side2 A15.out).mono ?_); (case side1 => repeat (first | exact (Kd.C_below HR0.out HB.out) | (with_reducible refine Kd.C_alloc ?_ _) | (with_reducible refine Kd.C_drewN ?_ _) | (with_reducible refine Kd.C_drew ?_))); (case side2 => exact HC0.out); rintro e w20 ⟨v260, rfl, ho0, hb⟩; refine ⟨_, rfl, ?_⟩; have n0_ := Aside0.mk (Kd.R_lower ho0 (below_size (by repeat (first | (with_reducible first | exact HB.out | apply below_alloc | apply pw_below_drewN | apply below_drew1) | exact HB.out)))); have n1_ := Aside0.mk (below_step (by repeat (first | (with_reducible first | exact HB.out | apply below_alloc | apply pw_below_drewN | apply below_drew1) | exact HB.out)) hb); clear HB; have HO261 := n0_; have HB := n1_; clear n0_ n1_; (try clear hb); (try clear hb2); (try clear hk); (try clear hi); (try clear ho0); have p262 : 0 ≤ (a1 : Int) := of_decide_eq_true (by first | (with_reducible assumption) | assumption); have q262 : a1 < (l0.length : Int) := of_decide_eq_true (by first | (with_reducible assumption) | assumption); obtain ⟨ad262, e262, hx262_0, hx262_1, hx262_2, hx262_3, hx262_4⟩ := at_T36 HR0.out a1 p262 q262; cases e262; replace hx262_0 := (HB.out.cell (World.block_lt_of_cell? w _ hx262_0)).trans hx262_0; replace hx262_1 := (HB.out.cell (World.block_lt_of_cell? w _ hx262_1)).trans hx262_1; replace hx262_2 := (HB.out.cell (World.block_lt_of_cell? w _ hx262_2)).trans hx262_2; replace hx262_3 := (HB.out.cell (World.block_lt_of_cell? w _ hx262_3)).trans hx262_3; replace hx262_4 := (HB.out.cell (World.block_lt_of_cell? w _ hx262_4)).trans hx262_4; replace p262 := eq_true p262; replace q262 := eq_true q262) | ((with_reducible refine gate_dst (N := 7) rfl ?_); (try (refine gate_guard (by rfl) ?_; dsimp only)); refine box_event ?hg (N := 7) ?hd (cs := #[.int .u8 0, .int .i64 0, .int .i64 0, .int .i64 0, .int .i64 0]) (t := 36) ?hr ?_; (case hd => rfl); (case hg => rfl); (case hr => first | (go_simp; done) | (go_simp; rfl)); intro gb263 hg w21 hbox hb; have n0_ := Aside0.mk (Kd.R_below (Kd.R_elderB (by (with_reducible repeat (first | apply Kd.R_alloc | apply Kd.R_drewN | apply Kd.R_drew)); exact HO261.out) gb263 (Nat.le_of_eq hg.symm)) hb); have n1_ := Aside0.mk (below_step (by repeat (first | (with_reducible first | exact HB.out | apply below_alloc | apply pw_below_drewN | apply below_drew1) | exact HB.out)) hb); have n2_ := Aside0.mk (hbox); have n3_ := Aside0.mk ((by rw [hg]; exact (below_size (by repeat (first | (with_reducible first | exact HB.out | apply below_alloc | apply pw_below_drewN | apply below_drew1) | exact HB.out))) : w.heap.size ≤ gb263)); have n4_ := Aside0.mk ((by rw [hg]; exact (below_size (by repeat (first | (with_reducible first | exact HB.out | apply below_alloc | apply pw_below_drewN | apply below_drew1) | exact HB.out))) : w.heap.size ≤ gb263)); clear HO261; clear HB; have HO261 := n0_; have HB := n1_; have BK263 := n2_; have GW263 := n3_; have GE263 := n4_; clear n0_ n1_ n2_ n3_ n4_; clear hb hbox hg; have hcz22_0 : w21.cell? ⟨gb263, 0, none⟩ = some (.int .u8 0) := (blk_cell BK263.out 0).trans rfl; have hcz22_1 : w21.cell? ⟨gb263, 1, none⟩ = some (.int .i64 0) := (blk_cell BK263.out 1).trans rfl; have hcz22_2 : w21.cell? ⟨gb263, 2, none⟩ = some (.int .i64 0) := (blk_cell BK263.out 2).trans rfl; have hcz22_3 : w21.cell? ⟨gb263, 3, none⟩ = some (.int .i64 0) := (blk_cell BK263.out 3).trans rfl; have hcz22_4 : w21.cell? ⟨gb263, 4, none⟩ = some (.int .i64 0) := (blk_cell BK263.out 4).trans rfl; have hfz22_0 := blk_frozen BK263.out 0; have hfz22_1 := blk_frozen BK263.out 1; have hfz22_2 := blk_frozen BK263.out 2; have hfz22_3 := blk_frozen BK263.out 3; have hfz22_4 := blk_frozen BK263.out 4) | ((with_reducible refine gate_callee (f := 37) rfl ?_); refine goesL_ (some 48) rfl rfl Try.func37 (by kernel_rfl) rfl #[.int .u8 ((rd_T36 l0 a1).f0)] rfl (by (try simp only [List.map_toArray, List.map_cons, List.map_nil]); first | done | rfl | (simp only [List.length_drop, List.length_take]; rfl)) ?_; (with_reducible refine (nodes_Parts.calls kj2 ((rd_T36 l0 a1).f0) t264 t265 _ A18.out).mono ?_); rintro e w' ⟨rfl, ⟨nd, rfl⟩⟩; refine ⟨_, rfl, ?_⟩))
            (try simp only [Act.put, List.setIfInBounds_toArray, List.set_cons_zero, List.set_cons_succ])
            go_cut [56] (fun v56 wc => ∃ (kq : Nat) (x56_18 : Bool), v56 = .bool x56_18 ∧ Aside0 (tailwaterlaw04_NodesMade.j1 kq l0 t258 t264 x56_18 ((rd_T36 l0 a1).f0) ((rd_T36 l0 a1).f1) ((rd_T36 l0 a1).f2) ((rd_T36 l0 a1).f3) ((rd_T36 l0 a1).f4) = some true) ∧ Aside0 (kq ≤ kj2) ∧ Aside0 (Kd.R k36 36 wc w.heap.size (fun k_ => k_ ≠ gb263) v260 t258) ∧ Aside0 (wc.heap[gb263]? = some (.cells #[.int .u8 ((rd_T36 l0 a1).f0), .int .i64 ((rd_T36 l0 a1).f1), .int .i64 ((rd_T36 l0 a1).f2), .int .i64 ((rd_T36 l0 a1).f3), .int .i64 ((rd_T36 l0 a1).f4)] 36 (0, 0))) ∧ Aside0 (Below w.heap.size w wc))
            case first =>
              have H := HC19.out
              clear HC19
              by_cases c23 : t259 = 0
              · rw [if_pos c23] at H
                have c23b0 : (t259 == 0) = true := beq_iff_eq.mpr c23
                have c23b1 : (t259 != 0) = false := bne_eq_false_iff_eq.mpr c23
                clear c23
                (first | rw [c23b0] | (simp only [i64_w, i32_w]; rw [c23b0]) | skip)
                have H' := Aside0.mk H
                clear H
                go_wp2
                go_meet
                case rel => exact ⟨_, ((t265 != 0)), (by first | rfl | (simp; done) | (simp [*]; done)), H', ⟨by have := HJ2.out; first | omega | exact Nat.le_refl _⟩, ⟨by (with_reducible repeat (first | apply Kd.R_alloc | apply Kd.R_drewN | apply Kd.R_drew)); exact Kd.R_mono (Kd.R_far (p := ⟨gb263, 4, none⟩) (Kd.R_far (p := ⟨gb263, 3, none⟩) (Kd.R_far (p := ⟨gb263, 2, none⟩) (Kd.R_far (p := ⟨gb263, 1, none⟩) (Kd.R_far (p := ⟨gb263, 0, none⟩) (Kd.R_mono HO261.out (fun k_ hk => (⟨hk, hk.2⟩ : _ ∧ k_ ≠ gb263))) (fun _ hk => hk.2) (.int .u8 ((rd_T36 l0 a1).f0))) (fun _ hk => hk.2) (.int .i64 ((rd_T36 l0 a1).f1))) (fun _ hk => hk.2) (.int .i64 ((rd_T36 l0 a1).f2))) (fun _ hk => hk.2) (.int .i64 ((rd_T36 l0 a1).f3))) (fun _ hk => hk.2) (.int .i64 ((rd_T36 l0 a1).f4))) (fun _ hk => hk.1.2)⟩, ⟨by (with_reducible repeat (first | refine blk_drewN ?_ _ | refine blk_drew ?_ | refine blk_alloc ?_ _)); refine blk_put (cs := #[.int .u8 ((rd_T36 l0 a1).f0), .int .i64 ((rd_T36 l0 a1).f1), .int .i64 ((rd_T36 l0 a1).f2), .int .i64 ((rd_T36 l0 a1).f3), .int .i64 0]) ?_ 4 _ rfl; (with_reducible repeat (first | refine blk_drewN ?_ _ | refine blk_drew ?_ | refine blk_alloc ?_ _)); refine blk_put (cs := #[.int .u8 ((rd_T36 l0 a1).f0), .int .i64 ((rd_T36 l0 a1).f1), .int .i64 ((rd_T36 l0 a1).f2), .int .i64 0, .int .i64 0]) ?_ 3 _ rfl; (with_reducible repeat (first | refine blk_drewN ?_ _ | refine blk_drew ?_ | refine blk_alloc ?_ _)); refine blk_put (cs := #[.int .u8 ((rd_T36 l0 a1).f0), .int .i64 ((rd_T36 l0 a1).f1), .int .i64 0, .int .i64 0, .int .i64 0]) ?_ 2 _ rfl; (with_reducible repeat (first | refine blk_drewN ?_ _ | refine blk_drew ?_ | refine blk_alloc ?_ _)); refine blk_put (cs := #[.int .u8 ((rd_T36 l0 a1).f0), .int .i64 0, .int .i64 0, .int .i64 0, .int .i64 0]) ?_ 1 _ rfl; (with_reducible repeat (first | refine blk_drewN ?_ _ | refine blk_drew ?_ | refine blk_alloc ?_ _)); refine blk_put (cs := #[.int .u8 0, .int .i64 0, .int .i64 0, .int .i64 0, .int .i64 0]) ?_ 0 _ rfl; (with_reducible repeat (first | refine blk_drewN ?_ _ | refine blk_drew ?_ | refine blk_alloc ?_ _)); exact BK263.out⟩, ⟨by repeat (first | (with_reducible first | exact HB.out | apply below_alloc | apply pw_below_drewN | apply below_drew1 | refine below_set ?_ GE263.out) | exact HB.out)⟩⟩
              · rw [if_neg c23] at H
                have c23b0 : (t259 == 0) = false := beq_eq_false_iff_ne.mpr c23
                have c23b1 : (t259 != 0) = true := bne_iff_ne.mpr c23
                (first | rw [c23b0] | (simp only [i64_w, i32_w]; rw [c23b0]) | skip)
                have H' := Aside0.mk H
                clear H
                go_wp2
                go_meet
                case rel => exact ⟨_, (true), (by first | rfl | (simp; done) | (simp [*]; done)), H', ⟨by have := HJ2.out; first | omega | exact Nat.le_refl _⟩, ⟨by (with_reducible repeat (first | apply Kd.R_alloc | apply Kd.R_drewN | apply Kd.R_drew)); exact Kd.R_mono (Kd.R_far (p := ⟨gb263, 4, none⟩) (Kd.R_far (p := ⟨gb263, 3, none⟩) (Kd.R_far (p := ⟨gb263, 2, none⟩) (Kd.R_far (p := ⟨gb263, 1, none⟩) (Kd.R_far (p := ⟨gb263, 0, none⟩) (Kd.R_mono HO261.out (fun k_ hk => (⟨hk, hk.2⟩ : _ ∧ k_ ≠ gb263))) (fun _ hk => hk.2) (.int .u8 ((rd_T36 l0 a1).f0))) (fun _ hk => hk.2) (.int .i64 ((rd_T36 l0 a1).f1))) (fun _ hk => hk.2) (.int .i64 ((rd_T36 l0 a1).f2))) (fun _ hk => hk.2) (.int .i64 ((rd_T36 l0 a1).f3))) (fun _ hk => hk.2) (.int .i64 ((rd_T36 l0 a1).f4))) (fun _ hk => hk.1.2)⟩, ⟨by (with_reducible repeat (first | refine blk_drewN ?_ _ | refine blk_drew ?_ | refine blk_alloc ?_ _)); refine blk_put (cs := #[.int .u8 ((rd_T36 l0 a1).f0), .int .i64 ((rd_T36 l0 a1).f1), .int .i64 ((rd_T36 l0 a1).f2), .int .i64 ((rd_T36 l0 a1).f3), .int .i64 0]) ?_ 4 _ rfl; (with_reducible repeat (first | refine blk_drewN ?_ _ | refine blk_drew ?_ | refine blk_alloc ?_ _)); refine blk_put (cs := #[.int .u8 ((rd_T36 l0 a1).f0), .int .i64 ((rd_T36 l0 a1).f1), .int .i64 ((rd_T36 l0 a1).f2), .int .i64 0, .int .i64 0]) ?_ 3 _ rfl; (with_reducible repeat (first | refine blk_drewN ?_ _ | refine blk_drew ?_ | refine blk_alloc ?_ _)); refine blk_put (cs := #[.int .u8 ((rd_T36 l0 a1).f0), .int .i64 ((rd_T36 l0 a1).f1), .int .i64 0, .int .i64 0, .int .i64 0]) ?_ 2 _ rfl; (with_reducible repeat (first | refine blk_drewN ?_ _ | refine blk_drew ?_ | refine blk_alloc ?_ _)); refine blk_put (cs := #[.int .u8 ((rd_T36 l0 a1).f0), .int .i64 0, .int .i64 0, .int .i64 0, .int .i64 0]) ?_ 1 _ rfl; (with_reducible repeat (first | refine blk_drewN ?_ _ | refine blk_drew ?_ | refine blk_alloc ?_ _)); refine blk_put (cs := #[.int .u8 0, .int .i64 0, .int .i64 0, .int .i64 0, .int .i64 0]) ?_ 0 _ rfl; (with_reducible repeat (first | refine blk_drewN ?_ _ | refine blk_drew ?_ | refine blk_alloc ?_ _)); exact BK263.out⟩, ⟨by repeat (first | (with_reducible first | exact HB.out | apply below_alloc | apply pw_below_drewN | apply below_drew1 | refine below_set ?_ GE263.out) | exact HB.out)⟩⟩
            case rest =>
              clear HC19
              try clear c1
              try clear c2
              try clear p2
              try clear q2
              try clear hx2
              try clear c3
              try clear c5
              try clear c7
              try clear c7b0
              try clear c7b1
              try clear c8
              try clear c8b0
              try clear c9
              try clear c12
              try clear c16
              try clear c16b0
              try clear c17
              try clear c17b0
              try clear c23
              try clear c23b0
              try clear c23b1
              try clear hcz22_0
              try clear hcz22_1
              try clear hcz22_2
              try clear hcz22_3
              try clear hcz22_4
              try clear hfz22_0
              try clear hfz22_1
              try clear hfz22_2
              try clear hfz22_3
              try clear hfz22_4
              try clear hx262_0
              try clear hx262_1
              try clear hx262_2
              try clear hx262_3
              try clear hx262_4
              try clear p2
              try clear p262
              try clear q262
              obtain ⟨kq, x56_18, rfl, HA, HJ18, HO_5, BK263, HB⟩ := hcut
              cases kq with
              | zero => exact absurd HA.out (by simp [tailwaterlaw04_NodesMade.j1])
              | succ kj18 =>
                have H := HA.out
                clear HA
                simp only [tailwaterlaw04_NodesMade.j1] at H
                by_cases c24 : x56_18 = true
                · subst c24
                  have H1 : (some false) = some true := by rw [if_pos rfl] at H; exact H
                  clear H
                  have H := H1
                  clear H1
                  exact absurd H (by simp)
                · replace c24 := Bool.eq_false_iff.mpr c24
                  subst c24
                  have H1 : (if t264 > 0 then ((nodes_Part.f kj18 l0 ((rd_T36 l0 a1).f2)).bind fun bt266 => (if bt266.2 = 0 then (if ([] : List (List (S36))).length < 5864062014805 then (tailwaterlaw04_NodesMade.j2 kj18 l0 t258 t264 (([] : List (List (S36))) ++ [bt266.1]) ((rd_T36 l0 a1).f0) ((rd_T36 l0 a1).f1) ((rd_T36 l0 a1).f2) ((rd_T36 l0 a1).f3) ((rd_T36 l0 a1).f4)) else (none)) else (some false))) else (tailwaterlaw04_NodesMade.j2 kj18 l0 t258 t264 ([] : List (List (S36))) ((rd_T36 l0 a1).f0) ((rd_T36 l0 a1).f1) ((rd_T36 l0 a1).f2) ((rd_T36 l0 a1).f3) ((rd_T36 l0 a1).f4))) = some true := by rw [if_neg (show ¬ (false = true) by decide)] at H; exact H
                  clear H
                  have H := H1
                  clear H1
                  have HC25 := Aside0.mk H
                  clear H
                  go_upto_if 58 with (fail)
                  go_cut [10] (fun v10 wc => ∃ (kq : Nat) (x10_24 : List (List (S36))), Aside0 (tailwaterlaw04_NodesMade.j2 kq l0 t258 t264 x10_24 ((rd_T36 l0 a1).f0) ((rd_T36 l0 a1).f1) ((rd_T36 l0 a1).f2) ((rd_T36 l0 a1).f3) ((rd_T36 l0 a1).f4) = some true) ∧ Aside0 (kq ≤ kj18) ∧ Aside0 (Kd.R k36 36 wc w.heap.size (fun k_ => k_ ≠ gb263) v260 t258) ∧ Aside0 (Kd.S (Kd.slice 36 k36) 22 wc w.heap.size (fun k_ => some k_ ≠ (v260 : Value).ownBlock ∧ k_ ≠ gb263) v10 x10_24) ∧ Aside0 (wc.heap[gb263]? = some (.cells #[.int .u8 ((rd_T36 l0 a1).f0), .int .i64 ((rd_T36 l0 a1).f1), .int .i64 ((rd_T36 l0 a1).f2), .int .i64 ((rd_T36 l0 a1).f3), .int .i64 ((rd_T36 l0 a1).f4)] 36 (0, 0))) ∧ Aside0 (Below w.heap.size w wc))
                  case first =>
                    have H := HC25.out
                    clear HC25
                    by_cases c26 : t264 > 0
                    · rw [if_pos c26] at H
                      have c26b0 : decide (0 < t264) = true := decide_eq_true c26
                      clear c26
                      (first | rw [c26b0] | (simp only [i64_w, i32_w]; rw [c26b0]) | skip)
                      replace H := Option.bind_eq_some_iff.mp H
                      obtain ⟨⟨t266, t267⟩, A270, H⟩ := H
                      replace H : (if t267 = 0 then (if ([] : List (List (S36))).length < 5864062014805 then (tailwaterlaw04_NodesMade.j2 kj18 l0 t258 t264 (([] : List (List (S36))) ++ [t266]) ((rd_T36 l0 a1).f0) ((rd_T36 l0 a1).f1) ((rd_T36 l0 a1).f2) ((rd_T36 l0 a1).f3) ((rd_T36 l0 a1).f4)) else (none)) else (some false)) = some true := H
                      have A27 := Aside0.mk A270
                      clear A270
                      by_cases c28 : t267 = 0
                      · rw [if_pos c28] at H
                        have c28b0 : (t267 == 0) = true := beq_iff_eq.mpr c28
                        have c28b1 : (t267 != 0) = false := bne_eq_false_iff_eq.mpr c28
                        clear c28
                        by_cases c29 : ([] : List (List (S36))).length < 5864062014805
                        · rw [if_pos c29] at H
                          have LMc29 := Aside0.mk c29
                          clear c29
                          obtain ⟨y270, hy270⟩ : ∃ y_ : List (List (S36)), y_ = (([] : List (List (S36))) ++ [t266]) := ⟨_, rfl⟩
                          replace H : (tailwaterlaw04_NodesMade.j2 kj18 l0 t258 t264 y270 ((rd_T36 l0 a1).f0) ((rd_T36 l0 a1).f1) ((rd_T36 l0 a1).f2) ((rd_T36 l0 a1).f3) ((rd_T36 l0 a1).f4)) = some true := by first | (rw [hy270]; with_reducible exact H) | (have H2_ := (Option.bind_some _ _).symm.trans H; rw [hy270]; with_reducible exact H2_) | (have H2_ := (Option.bind_some _ _).symm.trans H; with_reducible exact H2_) | with_reducible exact H | (rw [hy270]; exact H) | exact H
                          have Ny270 := Aside0.mk hy270
                          clear hy270
                          have H' := Aside0.mk H
                          clear H
                          have hcz30_0 : wc.cell? ⟨gb263, 0, none⟩ = some (.int .u8 ((rd_T36 l0 a1).f0)) := (blk_cell BK263.out 0).trans rfl
                          have hcz30_1 : wc.cell? ⟨gb263, 1, none⟩ = some (.int .i64 ((rd_T36 l0 a1).f1)) := (blk_cell BK263.out 1).trans rfl
                          have hcz30_2 : wc.cell? ⟨gb263, 2, none⟩ = some (.int .i64 ((rd_T36 l0 a1).f2)) := (blk_cell BK263.out 2).trans rfl
                          have hcz30_3 : wc.cell? ⟨gb263, 3, none⟩ = some (.int .i64 ((rd_T36 l0 a1).f3)) := (blk_cell BK263.out 3).trans rfl
                          have hcz30_4 : wc.cell? ⟨gb263, 4, none⟩ = some (.int .i64 ((rd_T36 l0 a1).f4)) := (blk_cell BK263.out 4).trans rfl
                          have hfz30_0 := blk_frozen BK263.out 0
                          have hfz30_1 := blk_frozen BK263.out 1
                          have hfz30_2 := blk_frozen BK263.out 2
                          have hfz30_3 := blk_frozen BK263.out 3
                          have hfz30_4 := blk_frozen BK263.out 4
                          go_wp2_with (first | ((with_reducible refine gate_callee (f := 39) rfl ?_); refine goesL_ (some 63) rfl rfl Try.func39 (by kernel_rfl) rfl #[.slice (some ad262) l0.length c0, .int .i64 ((rd_T36 l0 a1).f2)] rfl (by (try simp only [List.map_toArray, List.map_cons, List.map_nil]); first | done | rfl | (simp only [List.length_drop, List.length_take]; rfl)) ?_; (with_reducible refine (nodes_Part.calls kj18 _ _ l0 ((rd_T36 l0 a1).f2) t266 t267 _ ?side1 ?side2 A27.out).mono ?_); (case side1 => repeat (first | exact (Kd.C_below HR0.out HB.out) | (with_reducible refine Kd.C_alloc ?_ _) | (with_reducible refine Kd.C_drewN ?_ _) | (with_reducible refine Kd.C_drew ?_))); (case side2 => exact HC0.out); rintro e w31 ⟨v268, rfl, ho0, hb⟩; refine ⟨_, rfl, ?_⟩; have n0_ := Aside0.mk (Kd.R_elder' (by (with_reducible repeat (first | apply Kd.R_alloc | apply Kd.R_drewN | apply Kd.R_drew)); exact HO_5.out) (Kd.R_base ho0) hb); have n1_ := Aside0.mk (Kd.R_lower (Kd.R_newB (Kd.R_new' ho0 (Kd.R_lt (by (with_reducible repeat (first | apply Kd.R_alloc | apply Kd.R_drewN | apply Kd.R_drew)); exact HO_5.out))) (g := gb263) (o := .cells #[.int .u8 ((rd_T36 l0 a1).f0), .int .i64 ((rd_T36 l0 a1).f1), .int .i64 ((rd_T36 l0 a1).f2), .int .i64 ((rd_T36 l0 a1).f3), .int .i64 ((rd_T36 l0 a1).f4)] 36 (0, 0)) (by (with_reducible repeat (first | refine blk_drewN ?_ _ | refine blk_drew ?_ | refine blk_alloc ?_ _)); exact BK263.out)) (below_size (by repeat (first | (with_reducible first | exact HB.out | apply below_alloc | apply pw_below_drewN | apply below_drew1 | refine below_set ?_ GE263.out) | exact HB.out)))); have n2_ := Aside0.mk (blk_below (g := gb263) (o := .cells #[.int .u8 ((rd_T36 l0 a1).f0), .int .i64 ((rd_T36 l0 a1).f1), .int .i64 ((rd_T36 l0 a1).f2), .int .i64 ((rd_T36 l0 a1).f3), .int .i64 ((rd_T36 l0 a1).f4)] 36 (0, 0)) (by (with_reducible repeat (first | refine blk_drewN ?_ _ | refine blk_drew ?_ | refine blk_alloc ?_ _)); exact BK263.out) hb); have n3_ := Aside0.mk (below_step (by repeat (first | (with_reducible first | exact HB.out | apply below_alloc | apply pw_below_drewN | apply below_drew1 | refine below_set ?_ GE263.out) | exact HB.out)) hb); clear HO_5; clear BK263; clear HB; have HO_5 := n0_; have HO269 := n1_; have BK263 := n2_; have HB := n3_; clear n0_ n1_ n2_ n3_; (try clear hb); (try clear hb2); (try clear hk); (try clear hi); (try clear ho0); obtain ⟨Ao33, co33, eo33⟩ := Kd.R_slice HO269.out; subst eo33) | ((with_reducible refine gate_builtin (b := .append) (xs := #[.tmp 68, .tmp 70]) rfl ?_); (try (refine gate_guard (by rfl) ?_; dsimp only)); at_builtin; refine Kd.S_append (Kd.slice 36 k36) (w0 := w) w.heap.size rfl (.tmp 68) (.tmp 70) 73 22 (.slice none 0 0) 24 rfl Try.underlying73 info22 rfl (by decide) (by omega) (.slice none 0 0) ([] : List (List (S36))) t266 [.slice Ao33 t266.length co33] (fun k_ => some k_ ≠ (v260 : Value).ownBlock ∧ k_ ≠ gb263) (fun k_ => some k_ = (.slice Ao33 t266.length co33 : Value).ownBlock) rfl rfl ?aP (fun k_ hk_ => ((Kd.R_mono (ok' := fun k_ => ((fun k_ => some k_ ≠ (v260 : Value).ownBlock ∧ k_ ≠ gb263)) k_ ∧ some k_ ≠ (.slice none 0 0 : Value).ownBlock) (HO269.out) (fun k_ hk => ⟨⟨hk.1.2, hk.2⟩, (by simp [Value.ownBlock])⟩))).1 k_ hk_.symm) ?aF ?aO ?aB ?aS ?aL ?_; (case aP => exact Kd.M_row (Kd.R_mono (Kd.R_tight rfl (Kd.R_mono (ok' := fun k_ => ((fun k_ => some k_ ≠ (v260 : Value).ownBlock ∧ k_ ≠ gb263)) k_ ∧ some k_ ≠ (.slice none 0 0 : Value).ownBlock) (HO269.out) (fun k_ hk => ⟨⟨hk.1.2, hk.2⟩, (by simp [Value.ownBlock])⟩))) (fun _ h_ => h_))); (case aB => exact (by repeat (first | (with_reducible first | exact HB.out | apply below_alloc | apply pw_below_drewN | apply below_drew1 | refine below_set ?_ GE263.out) | exact HB.out))); (case aF => exact (fun k_ hk => ⟨Kd.fresh' (Kd.R_lt (by (with_reducible repeat (first | apply Kd.R_alloc | apply Kd.R_drewN | apply Kd.R_drew)); exact HO_5.out)) k_ hk, Kd.freshB (g := gb263) (o := .cells #[.int .u8 ((rd_T36 l0 a1).f0), .int .i64 ((rd_T36 l0 a1).f1), .int .i64 ((rd_T36 l0 a1).f2), .int .i64 ((rd_T36 l0 a1).f3), .int .i64 ((rd_T36 l0 a1).f4)] 36 (0, 0)) (by (with_reducible repeat (first | refine blk_drewN ?_ _ | refine blk_drew ?_ | refine blk_alloc ?_ _)); exact BK263.out) k_ hk⟩)); (case aO => exact ((Kd.S_nil _ _ _ _ _))); (case aS => exact (below_size (by repeat (first | (with_reducible first | exact HB.out | apply below_alloc | apply pw_below_drewN | apply below_drew1 | refine below_set ?_ GE263.out) | exact HB.out)))); (case aL => have := LMc29.out; omega); intro v271 w32 ho hb hg hat; rw [← Ny270.out] at ho; have n0_ := Aside0.mk (Kd.R_grown (by (with_reducible repeat (first | apply Kd.R_alloc | apply Kd.R_drewN | apply Kd.R_drew)); exact HO_5.out) hg (fun _ _ => by simp [Value.ownBlock])); have n1_ := Aside0.mk (blk_grown (g := gb263) (o := .cells #[.int .u8 ((rd_T36 l0 a1).f0), .int .i64 ((rd_T36 l0 a1).f1), .int .i64 ((rd_T36 l0 a1).f2), .int .i64 ((rd_T36 l0 a1).f3), .int .i64 ((rd_T36 l0 a1).f4)] 36 (0, 0)) (by (with_reducible repeat (first | refine blk_drewN ?_ _ | refine blk_drew ?_ | refine blk_alloc ?_ _)); exact BK263.out) hg (by simp [Value.ownBlock])); have n2_ := Aside0.mk (hb); have n3_ := Aside0.mk (ho); clear HO_5; clear BK263; clear HB; clear HO269; have HO_5 := n0_; have BK263 := n1_; have HB := n2_; have HO272 := n3_; clear n0_ n1_ n2_ n3_; clear ho hb hg hat))
                          go_meet
                          case rel => exact ⟨_, (y270), H', ⟨by have := HJ2.out; have := HJ18.out; first | omega | exact Nat.le_refl _⟩, ⟨by (with_reducible repeat (first | apply Kd.R_alloc | apply Kd.R_drewN | apply Kd.R_drew)); exact Kd.R_mono HO_5.out (fun _ hk => hk.1)⟩, ⟨by (with_reducible repeat (first | apply Kd.S_alloc | apply Kd.S_drewN | apply Kd.S_drew)); exact HO272.out⟩, ⟨by (with_reducible repeat (first | refine blk_drewN ?_ _ | refine blk_drew ?_ | refine blk_alloc ?_ _)); exact BK263.out⟩, ⟨by repeat (first | (with_reducible first | exact HB.out | apply below_alloc | apply pw_below_drewN | apply below_drew1 | refine below_set ?_ GE263.out) | exact HB.out)⟩⟩
                        · rw [if_neg c29] at H
                          exact absurd H (by simp)
                      · rw [if_neg c28] at H
                        have c28b0 : (t267 == 0) = false := beq_eq_false_iff_ne.mpr c28
                        have c28b1 : (t267 != 0) = true := bne_iff_ne.mpr c28
                        exact absurd H (by simp)
                    · rw [if_neg c26] at H
                      have c26b0 : decide (0 < t264) = false := decide_eq_false c26
                      clear c26
                      (first | rw [c26b0] | (simp only [i64_w, i32_w]; rw [c26b0]) | skip)
                      have H' := Aside0.mk H
                      clear H
                      go_wp2
                      go_meet
                      case rel => exact ⟨_, (([] : List (List (S36)))), H', ⟨by have := HJ2.out; have := HJ18.out; first | omega | exact Nat.le_refl _⟩, ⟨by (with_reducible repeat (first | apply Kd.R_alloc | apply Kd.R_drewN | apply Kd.R_drew)); exact HO_5.out⟩, ⟨by first | exact Kd.S_nil _ _ _ _ _ | exact Kd.N_nil _ _ _ _ _ | exact Kd.V_nil _ _ _ _ _ | exact Kd.Q_nil _ _ _ _ _ | exact Kd.R_nil _ _ _ _ _⟩, ⟨by (with_reducible repeat (first | refine blk_drewN ?_ _ | refine blk_drew ?_ | refine blk_alloc ?_ _)); exact BK263.out⟩, ⟨by repeat (first | (with_reducible first | exact HB.out | apply below_alloc | apply pw_below_drewN | apply below_drew1 | refine below_set ?_ GE263.out) | exact HB.out)⟩⟩
                  case rest =>
                    clear HC25
                    try clear c1
                    try clear c2
                    try clear p2
                    try clear q2
                    try clear hx2
                    try clear c3
                    try clear c5
                    try clear c7
                    try clear c7b0
                    try clear c7b1
                    try clear c8
                    try clear c8b0
                    try clear c9
                    try clear c12
                    try clear c16
                    try clear c16b0
                    try clear c17
                    try clear c17b0
                    try clear c23
                    try clear c23b0
                    try clear c23b1
                    try clear c24
                    try clear c26
                    try clear c26b0
                    try clear p26
                    try clear q26
                    try clear hx26
                    try clear c28
                    try clear c28b0
                    try clear c28b1
                    try clear c29
                    try clear c33
                    try clear hcz22_0
                    try clear hcz22_1
                    try clear hcz22_2
                    try clear hcz22_3
                    try clear hcz22_4
                    try clear hcz30_0
                    try clear hcz30_1
                    try clear hcz30_2
                    try clear hcz30_3
                    try clear hcz30_4
                    try clear hfz22_0
                    try clear hfz22_1
                    try clear hfz22_2
                    try clear hfz22_3
                    try clear hfz22_4
                    try clear hfz30_0
                    try clear hfz30_1
                    try clear hfz30_2
                    try clear hfz30_3
                    try clear hfz30_4
                    try clear hx262_0
                    try clear hx262_1
                    try clear hx262_2
                    try clear hx262_3
                    try clear hx262_4
                    try clear p2
                    try clear p262
                    try clear q2
                    try clear q262
                    obtain ⟨kq, x10_24, HA, HJ24, HO_5, HO_10, BK263, HB⟩ := hcut
                    cases kq with
                    | zero => exact absurd HA.out (by simp [tailwaterlaw04_NodesMade.j2])
                    | succ kj24 =>
                      have H := HA.out
                      clear HA
                      simp only [tailwaterlaw04_NodesMade.j2] at H
                      by_cases c34 : t264 > 1
                      · rw [if_pos c34] at H
                        have c34b0 : decide (1 < t264) = true := decide_eq_true c34
                        clear c34
                        replace H := Option.bind_eq_some_iff.mp H
                        obtain ⟨⟨t273, t274⟩, A350, H⟩ := H
                        replace H : (if t274 = 0 then (if x10_24.length < 5864062014805 then ((nodes_Node.f kj24 ((rd_T36 l0 a1).f0) ((rd_T36 l0 a1).f1) ((rd_T36 l0 a1).f4) (x10_24 ++ [t273])).bind fun bt280 => (if bt280.2 = 0 then ((tailwaterref04_Equal.f kj24 bt280.1 t258).bind fun t284 => (if t284 = true then ((tailwaterlaw04_alive.f kj24).bind fun t285 => (some t285)) else (some false))) else (some false))) else (none)) else (some false)) = some true := H
                        have A35 := Aside0.mk A350
                        clear A350
                        by_cases c36 : t274 = 0
                        · rw [if_pos c36] at H
                          have c36b0 : (t274 == 0) = true := beq_iff_eq.mpr c36
                          have c36b1 : (t274 != 0) = false := bne_eq_false_iff_eq.mpr c36
                          clear c36
                          by_cases c37 : x10_24.length < 5864062014805
                          · rw [if_pos c37] at H
                            have LMc37 := Aside0.mk c37
                            clear c37
                            obtain ⟨y277, hy277⟩ : ∃ y_ : List (List (S36)), y_ = (x10_24 ++ [t273]) := ⟨_, rfl⟩
                            replace H : ((nodes_Node.f kj24 ((rd_T36 l0 a1).f0) ((rd_T36 l0 a1).f1) ((rd_T36 l0 a1).f4) y277).bind fun bt280 => (if bt280.2 = 0 then ((tailwaterref04_Equal.f kj24 bt280.1 t258).bind fun t284 => (if t284 = true then ((tailwaterlaw04_alive.f kj24).bind fun t285 => (some t285)) else (some false))) else (some false))) = some true := by first | (rw [hy277]; with_reducible exact H) | (have H2_ := (Option.bind_some _ _).symm.trans H; rw [hy277]; with_reducible exact H2_) | (have H2_ := (Option.bind_some _ _).symm.trans H; with_reducible exact H2_) | with_reducible exact H | (rw [hy277]; exact H) | exact H
                            have Ny277 := Aside0.mk hy277
                            clear hy277
                            replace H := Option.bind_eq_some_iff.mp H
                            obtain ⟨⟨t280, t281⟩, A380, H⟩ := H
                            replace H : (if t281 = 0 then ((tailwaterref04_Equal.f kj24 t280 t258).bind fun t284 => (if t284 = true then ((tailwaterlaw04_alive.f kj24).bind fun t285 => (some t285)) else (some false))) else (some false)) = some true := H
                            have A38 := Aside0.mk A380
                            clear A380
                            by_cases c39 : t281 = 0
                            · rw [if_pos c39] at H
                              have c39b0 : (t281 == 0) = true := beq_iff_eq.mpr c39
                              have c39b1 : (t281 != 0) = false := bne_eq_false_iff_eq.mpr c39
                              clear c39
                              replace H := Option.bind_eq_some_iff.mp H
                              obtain ⟨t284, A400, H⟩ := H
                              replace H : (if t284 = true then ((tailwaterlaw04_alive.f kj24).bind fun t285 => (some t285)) else (some false)) = some true := H
                              have A40 := Aside0.mk A400
                              clear A400
                              by_cases c41 : t284 = true
                              · subst c41
                                have H1 : ((tailwaterlaw04_alive.f kj24).bind fun t285 => (some t285)) = some true := by rw [if_pos rfl] at H; exact H
                                clear H
                                have H := H1
                                clear H1
                                replace H := Option.bind_eq_some_iff.mp H
                                obtain ⟨t285, A420, H⟩ := H
                                replace H : (some t285) = some true := H
                                have A42 := Aside0.mk A420
                                clear A420
                                have hv_ := Option.some.inj H
                                clear H
                                have hcz43_0 : wc.cell? ⟨gb263, 0, none⟩ = some (.int .u8 ((rd_T36 l0 a1).f0)) := (blk_cell BK263.out 0).trans rfl
                                have hcz43_1 : wc.cell? ⟨gb263, 1, none⟩ = some (.int .i64 ((rd_T36 l0 a1).f1)) := (blk_cell BK263.out 1).trans rfl
                                have hcz43_2 : wc.cell? ⟨gb263, 2, none⟩ = some (.int .i64 ((rd_T36 l0 a1).f2)) := (blk_cell BK263.out 2).trans rfl
                                have hcz43_3 : wc.cell? ⟨gb263, 3, none⟩ = some (.int .i64 ((rd_T36 l0 a1).f3)) := (blk_cell BK263.out 3).trans rfl
                                have hcz43_4 : wc.cell? ⟨gb263, 4, none⟩ = some (.int .i64 ((rd_T36 l0 a1).f4)) := (blk_cell BK263.out 4).trans rfl
                                have hfz43_0 := blk_frozen BK263.out 0
                                have hfz43_1 := blk_frozen BK263.out 1
                                have hfz43_2 := blk_frozen BK263.out 2
                                have hfz43_3 := blk_frozen BK263.out 3
                                have hfz43_4 := blk_frozen BK263.out 4
                                go_wp2_with (first | ((with_reducible refine gate_callee (f := 39) rfl ?_); refine goesL_ (some 78) rfl rfl Try.func39 (by kernel_rfl) rfl #[.slice (some ad262) l0.length c0, .int .i64 ((rd_T36 l0 a1).f3)] rfl (by (try simp only [List.map_toArray, List.map_cons, List.map_nil]); first | done | rfl | (simp only [List.length_drop, List.length_take]; rfl)) ?_; (with_reducible refine (nodes_Part.calls kj24 _ _ l0 ((rd_T36 l0 a1).f3) t273 t274 _ ?side1 ?side2 A35.out).mono ?_); (case side1 => repeat (first | exact (Kd.C_below HR0.out HB.out) | (with_reducible refine Kd.C_alloc ?_ _) | (with_reducible refine Kd.C_drewN ?_ _) | (with_reducible refine Kd.C_drew ?_))); (case side2 => exact HC0.out); rintro e w44 ⟨v275, rfl, ho0, hb⟩; refine ⟨_, rfl, ?_⟩; have n0_ := Aside0.mk (Kd.R_elder' (by (with_reducible repeat (first | apply Kd.R_alloc | apply Kd.R_drewN | apply Kd.R_drew)); exact HO_5.out) (Kd.R_base ho0) hb); have n1_ := Aside0.mk (Kd.S_elder' (by (with_reducible repeat (first | apply Kd.S_alloc | apply Kd.S_drewN | apply Kd.S_drew)); exact HO_10.out) (Kd.R_base ho0) hb); have n2_ := Aside0.mk (Kd.R_lower (Kd.R_newB (Kd.R_new' ho0 (Kd.R_lt (by (with_reducible repeat (first | apply Kd.R_alloc | apply Kd.R_drewN | apply Kd.R_drew)); exact HO_5.out))) (g := gb263) (o := .cells #[.int .u8 ((rd_T36 l0 a1).f0), .int .i64 ((rd_T36 l0 a1).f1), .int .i64 ((rd_T36 l0 a1).f2), .int .i64 ((rd_T36 l0 a1).f3), .int .i64 ((rd_T36 l0 a1).f4)] 36 (0, 0)) (by (with_reducible repeat (first | refine blk_drewN ?_ _ | refine blk_drew ?_ | refine blk_alloc ?_ _)); exact BK263.out)) (below_size (by repeat (first | (with_reducible first | exact HB.out | apply below_alloc | apply pw_below_drewN | apply below_drew1 | refine below_set ?_ GE263.out) | exact HB.out)))); have n3_ := Aside0.mk (blk_below (g := gb263) (o := .cells #[.int .u8 ((rd_T36 l0 a1).f0), .int .i64 ((rd_T36 l0 a1).f1), .int .i64 ((rd_T36 l0 a1).f2), .int .i64 ((rd_T36 l0 a1).f3), .int .i64 ((rd_T36 l0 a1).f4)] 36 (0, 0)) (by (with_reducible repeat (first | refine blk_drewN ?_ _ | refine blk_drew ?_ | refine blk_alloc ?_ _)); exact BK263.out) hb); have n4_ := Aside0.mk (below_step (by repeat (first | (with_reducible first | exact HB.out | apply below_alloc | apply pw_below_drewN | apply below_drew1 | refine below_set ?_ GE263.out) | exact HB.out)) hb); clear HO_5; clear HO_10; clear BK263; clear HB; have HO_5 := n0_; have HO_10 := n1_; have HO276 := n2_; have BK263 := n3_; have HB := n4_; clear n0_ n1_ n2_ n3_ n4_; (try clear hb); (try clear hb2); (try clear hk); (try clear hi); (try clear ho0); obtain ⟨Ao46, co46, eo46⟩ := Kd.R_slice HO276.out; subst eo46) | ((with_reducible refine gate_builtin (b := .append) (xs := #[.tmp 83, .tmp 85]) rfl ?_); (try (refine gate_guard (by rfl) ?_; dsimp only)); at_builtin; refine Kd.S_append (Kd.slice 36 k36) (w0 := w) w.heap.size rfl (.tmp 83) (.tmp 85) 73 22 (.slice none 0 0) 24 rfl Try.underlying73 info22 rfl (by decide) (by omega) u10 x10_24 t273 [.slice Ao46 t273.length co46] (fun k_ => some k_ ≠ (v260 : Value).ownBlock ∧ k_ ≠ gb263) (fun k_ => some k_ = (.slice Ao46 t273.length co46 : Value).ownBlock) rfl rfl ?aP (fun k_ hk_ => ((Kd.R_mono (ok' := fun k_ => ((fun k_ => some k_ ≠ (v260 : Value).ownBlock ∧ k_ ≠ gb263)) k_ ∧ some k_ ≠ (u10 : Value).ownBlock) (Kd.R_apart' (HO276.out) (Kd.S_typed HO_10.out) (by decide)) (fun k_ hk => ⟨⟨hk.1.1.2, hk.1.2⟩, hk.2⟩))).1 k_ hk_.symm) ?aF ?aO ?aB ?aS ?aL ?_; (case aP => exact Kd.M_row (Kd.R_mono (Kd.R_tight rfl (Kd.R_mono (ok' := fun k_ => ((fun k_ => some k_ ≠ (v260 : Value).ownBlock ∧ k_ ≠ gb263)) k_ ∧ some k_ ≠ (u10 : Value).ownBlock) (Kd.R_apart' (HO276.out) (Kd.S_typed HO_10.out) (by decide)) (fun k_ hk => ⟨⟨hk.1.1.2, hk.1.2⟩, hk.2⟩))) (fun _ h_ => h_))); (case aB => exact (by repeat (first | (with_reducible first | exact HB.out | apply below_alloc | apply pw_below_drewN | apply below_drew1 | refine below_set ?_ GE263.out) | exact HB.out))); (case aF => exact (fun k_ hk => ⟨Kd.fresh' (Kd.R_lt (by (with_reducible repeat (first | apply Kd.R_alloc | apply Kd.R_drewN | apply Kd.R_drew)); exact HO_5.out)) k_ hk, Kd.freshB (g := gb263) (o := .cells #[.int .u8 ((rd_T36 l0 a1).f0), .int .i64 ((rd_T36 l0 a1).f1), .int .i64 ((rd_T36 l0 a1).f2), .int .i64 ((rd_T36 l0 a1).f3), .int .i64 ((rd_T36 l0 a1).f4)] 36 (0, 0)) (by (with_reducible repeat (first | refine blk_drewN ?_ _ | refine blk_drew ?_ | refine blk_alloc ?_ _)); exact BK263.out) k_ hk⟩)); (case aO => exact (by (with_reducible repeat (first | apply Kd.S_alloc | apply Kd.S_drewN | apply Kd.S_drew)); exact Kd.S_mono HO_10.out (fun k_ hk => ⟨⟨hk.1.1, hk.1.2⟩, fun e_ => hk.2 e_⟩))); (case aS => exact (below_size (by repeat (first | (with_reducible first | exact HB.out | apply below_alloc | apply pw_below_drewN | apply below_drew1 | refine below_set ?_ GE263.out) | exact HB.out)))); (case aL => have := LMc37.out; omega); intro v278 w45 ho hb hg hat; rw [← Ny277.out] at ho; have n0_ := Aside0.mk (Kd.R_over' (by (with_reducible repeat (first | apply Kd.R_alloc | apply Kd.R_drewN | apply Kd.R_drew)); exact HO_5.out) (Kd.S_typed (by (with_reducible repeat (first | apply Kd.S_alloc | apply Kd.S_drewN | apply Kd.S_drew)); exact HO_10.out)) (by decide) hg); have n1_ := Aside0.mk (blk_grown (g := gb263) (o := .cells #[.int .u8 ((rd_T36 l0 a1).f0), .int .i64 ((rd_T36 l0 a1).f1), .int .i64 ((rd_T36 l0 a1).f2), .int .i64 ((rd_T36 l0 a1).f3), .int .i64 ((rd_T36 l0 a1).f4)] 36 (0, 0)) (by (with_reducible repeat (first | refine blk_drewN ?_ _ | refine blk_drew ?_ | refine blk_alloc ?_ _)); exact BK263.out) hg (Kd.S_ne HO_10.out BK263.out (by decide))); have n2_ := Aside0.mk (hb); have n3_ := Aside0.mk (ho); clear HO_5; clear BK263; clear HB; clear HO_10; clear HO276; have HO_5 := n0_; have BK263 := n1_; have HB := n2_; have HO279 := n3_; clear n0_ n1_ n2_ n3_; clear ho hb hg hat; have hcz47_0 : w45.cell? ⟨gb263, 0, none⟩ = some (.int .u8 ((rd_T36 l0 a1).f0)) := (blk_cell BK263.out 0).trans rfl; have hcz47_1 : w45.cell? ⟨gb263, 1, none⟩ = some (.int .i64 ((rd_T36 l0 a1).f1)) := (blk_cell BK263.out 1).trans rfl; have hcz47_2 : w45.cell? ⟨gb263, 2, none⟩ = some (.int .i64 ((rd_T36 l0 a1).f2)) := (blk_cell BK263.out 2).trans rfl; have hcz47_3 : w45.cell? ⟨gb263, 3, none⟩ = some (.int .i64 ((rd_T36 l0 a1).f3)) := (blk_cell BK263.out 3).trans rfl; have hcz47_4 : w45.cell? ⟨gb263, 4, none⟩ = some (.int .i64 ((rd_T36 l0 a1).f4)) := (blk_cell BK263.out 4).trans rfl; have hfz47_0 := blk_frozen BK263.out 0; have hfz47_1 := blk_frozen BK263.out 1; have hfz47_2 := blk_frozen BK263.out 2; have hfz47_3 := blk_frozen BK263.out 3; have hfz47_4 := blk_frozen BK263.out 4; obtain ⟨Ao48, co48, eo48⟩ := Kd.S_slice HO279.out; subst eo48) | ((with_reducible refine gate_callee (f := 46) rfl ?_); refine goesL_ (some 95) rfl rfl Try.func46 (by kernel_rfl) rfl #[.int .u8 ((rd_T36 l0 a1).f0), .int .i64 ((rd_T36 l0 a1).f1), .int .i64 ((rd_T36 l0 a1).f4), .slice Ao48 y277.length co48] rfl (by (try simp only [List.map_toArray, List.map_cons, List.map_nil]); first | done | rfl | (simp only [List.length_drop, List.length_take]; rfl)) ?_; (with_reducible refine (nodes_Node.calls kj24 ((rd_T36 l0 a1).f0) ((rd_T36 l0 a1).f1) ((rd_T36 l0 a1).f4) _ _ y277 t280 t281 _ ?side1 ?side2 A38.out).mono ?_); (case side1 => repeat (first | exact (Kd.S_reads' HO279.out).2.2 | (with_reducible refine Kd.C_alloc ?_ _) | (with_reducible refine Kd.C_drewN ?_ _) | (with_reducible refine Kd.C_drew ?_))); (case side2 => exact (Kd.S_reads' HO279.out).2.1); rintro e w49 ⟨v282, rfl, ho0, hb⟩; refine ⟨_, rfl, ?_⟩; have n0_ := Aside0.mk (Kd.R_elder' (by (with_reducible repeat (first | apply Kd.R_alloc | apply Kd.R_drewN | apply Kd.R_drew)); exact HO_5.out) (Kd.R_base ho0) hb); have n1_ := Aside0.mk (Kd.S_elder' (by (with_reducible repeat (first | apply Kd.S_alloc | apply Kd.S_drewN | apply Kd.S_drew)); exact HO279.out) (Kd.R_base ho0) hb); have n2_ := Aside0.mk (Kd.R_lower (Kd.R_newB (Kd.R_new' ho0 (Kd.R_lt (by (with_reducible repeat (first | apply Kd.R_alloc | apply Kd.R_drewN | apply Kd.R_drew)); exact HO_5.out))) (g := gb263) (o := .cells #[.int .u8 ((rd_T36 l0 a1).f0), .int .i64 ((rd_T36 l0 a1).f1), .int .i64 ((rd_T36 l0 a1).f2), .int .i64 ((rd_T36 l0 a1).f3), .int .i64 ((rd_T36 l0 a1).f4)] 36 (0, 0)) (by (with_reducible repeat (first | refine blk_drewN ?_ _ | refine blk_drew ?_ | refine blk_alloc ?_ _)); exact BK263.out)) (below_size (by repeat (first | (with_reducible first | exact HB.out | apply below_alloc | apply pw_below_drewN | apply below_drew1 | refine below_set ?_ GE263.out) | exact HB.out)))); have n3_ := Aside0.mk (blk_below (g := gb263) (o := .cells #[.int .u8 ((rd_T36 l0 a1).f0), .int .i64 ((rd_T36 l0 a1).f1), .int .i64 ((rd_T36 l0 a1).f2), .int .i64 ((rd_T36 l0 a1).f3), .int .i64 ((rd_T36 l0 a1).f4)] 36 (0, 0)) (by (with_reducible repeat (first | refine blk_drewN ?_ _ | refine blk_drew ?_ | refine blk_alloc ?_ _)); exact BK263.out) hb); have n4_ := Aside0.mk (below_step (by repeat (first | (with_reducible first | exact HB.out | apply below_alloc | apply pw_below_drewN | apply below_drew1 | refine below_set ?_ GE263.out) | exact HB.out)) hb); clear HO_5; clear HO279; clear BK263; clear HB; have HO_5 := n0_; have HO279 := n1_; have HO283 := n2_; have BK263 := n3_; have HB := n4_; clear n0_ n1_ n2_ n3_ n4_; (try clear hb); (try clear hb2); (try clear hk); (try clear hi); (try clear ho0); obtain ⟨Ao50, co50, eo50⟩ := Kd.R_slice HO283.out; subst eo50; obtain ⟨Ao51, co51, eo51⟩ := Kd.R_slice HO_5.out; subst eo51) | (go_at_call 40; (with_reducible refine (tailwaterref04_Equal.calls kj24 _ _ t280 _ _ t258 true _ ?side1 ?side2 ?side3 ?side4 A40.out).mono ?_); (case side1 => repeat (first | exact (Kd.R_reads' HO283.out).2.2 | (with_reducible refine Kd.C_alloc ?_ _) | (with_reducible refine Kd.C_drewN ?_ _) | (with_reducible refine Kd.C_drew ?_))); (case side2 => exact (Kd.R_reads' HO283.out).2.1); (case side3 => repeat (first | exact (Kd.R_reads' HO_5.out).2.2 | (with_reducible refine Kd.C_alloc ?_ _) | (with_reducible refine Kd.C_drewN ?_ _) | (with_reducible refine Kd.C_drew ?_))); (case side4 => exact (Kd.R_reads' HO_5.out).2.1); rintro e w' ⟨rfl, ⟨nd, rfl⟩⟩) | (go_at_call 35; (with_reducible refine (tailwaterlaw04_alive.calls kj24  t285 _ A42.out).mono ?_); rintro e w52 ⟨rfl, hb⟩; have n0_ := Aside0.mk (Kd.R_below (by (with_reducible repeat (first | apply Kd.R_alloc | apply Kd.R_drewN | apply Kd.R_drew)); exact HO_5.out) hb); have n1_ := Aside0.mk (Kd.S_below (by (with_reducible repeat (first | apply Kd.S_alloc | apply Kd.S_drewN | apply Kd.S_drew)); exact HO279.out) hb); have n2_ := Aside0.mk (Kd.R_below (by (with_reducible repeat (first | apply Kd.R_alloc | apply Kd.R_drewN | apply Kd.R_drew)); exact HO283.out) hb); have n3_ := Aside0.mk (blk_below (g := gb263) (o := .cells #[.int .u8 ((rd_T36 l0 a1).f0), .int .i64 ((rd_T36 l0 a1).f1), .int .i64 ((rd_T36 l0 a1).f2), .int .i64 ((rd_T36 l0 a1).f3), .int .i64 ((rd_T36 l0 a1).f4)] 36 (0, 0)) (by (with_reducible repeat (first | refine blk_drewN ?_ _ | refine blk_drew ?_ | refine blk_alloc ?_ _)); exact BK263.out) hb); have n4_ := Aside0.mk (below_step (by repeat (first | (with_reducible first | exact HB.out | apply below_alloc | apply pw_below_drewN | apply below_drew1 | refine below_set ?_ GE263.out) | exact HB.out)) hb); clear HO_5; clear HO279; clear HO283; clear BK263; clear HB; have HO_5 := n0_; have HO279 := n1_; have HO283 := n2_; have BK263 := n3_; have HB := n4_; clear n0_ n1_ n2_ n3_ n4_; (try clear hb); (try clear hb2); (try clear hk); (try clear hi)))
                                go_ret
                                exact ⟨by first | rfl | (simp [errW_none, errW_some] <;> rfl) | (simp [*, errW_none, errW_some] <;> rfl), by repeat (first | (with_reducible first | exact HB.out | apply below_alloc | apply pw_below_drewN | apply below_drew1 | refine below_set ?_ GE263.out) | exact HB.out)⟩
                              · replace c41 := Bool.eq_false_iff.mpr c41
                                subst c41
                                have H1 : (some false) = some true := by rw [if_neg (show ¬ (false = true) by decide)] at H; exact H
                                clear H
                                have H := H1
                                clear H1
                                exact absurd H (by simp)
                            · rw [if_neg c39] at H
                              have c39b0 : (t281 == 0) = false := beq_eq_false_iff_ne.mpr c39
                              have c39b1 : (t281 != 0) = true := bne_iff_ne.mpr c39
                              exact absurd H (by simp)
                          · rw [if_neg c37] at H
                            exact absurd H (by simp)
                        · rw [if_neg c36] at H
                          have c36b0 : (t274 == 0) = false := beq_eq_false_iff_ne.mpr c36
                          have c36b1 : (t274 != 0) = true := bne_iff_ne.mpr c36
                          exact absurd H (by simp)
                      · rw [if_neg c34] at H
                        have c34b0 : decide (1 < t264) = false := decide_eq_false c34
                        clear c34
                        replace H := Option.bind_eq_some_iff.mp H
                        obtain ⟨⟨t286, t287⟩, A530, H⟩ := H
                        replace H : (if t287 = 0 then ((tailwaterref04_Equal.f kj24 t286 t258).bind fun t290 => (if t290 = true then ((tailwaterlaw04_alive.f kj24).bind fun t291 => (some t291)) else (some false))) else (some false)) = some true := H
                        have A53 := Aside0.mk A530
                        clear A530
                        by_cases c54 : t287 = 0
                        · rw [if_pos c54] at H
                          have c54b0 : (t287 == 0) = true := beq_iff_eq.mpr c54
                          have c54b1 : (t287 != 0) = false := bne_eq_false_iff_eq.mpr c54
                          clear c54
                          replace H := Option.bind_eq_some_iff.mp H
                          obtain ⟨t290, A550, H⟩ := H
                          replace H : (if t290 = true then ((tailwaterlaw04_alive.f kj24).bind fun t291 => (some t291)) else (some false)) = some true := H
                          have A55 := Aside0.mk A550
                          clear A550
                          by_cases c56 : t290 = true
                          · subst c56
                            have H1 : ((tailwaterlaw04_alive.f kj24).bind fun t291 => (some t291)) = some true := by rw [if_pos rfl] at H; exact H
                            clear H
                            have H := H1
                            clear H1
                            replace H := Option.bind_eq_some_iff.mp H
                            obtain ⟨t291, A570, H⟩ := H
                            replace H : (some t291) = some true := H
                            have A57 := Aside0.mk A570
                            clear A570
                            have hv_ := Option.some.inj H
                            clear H
                            have hcz58_0 : wc.cell? ⟨gb263, 0, none⟩ = some (.int .u8 ((rd_T36 l0 a1).f0)) := (blk_cell BK263.out 0).trans rfl
                            have hcz58_1 : wc.cell? ⟨gb263, 1, none⟩ = some (.int .i64 ((rd_T36 l0 a1).f1)) := (blk_cell BK263.out 1).trans rfl
                            have hcz58_2 : wc.cell? ⟨gb263, 2, none⟩ = some (.int .i64 ((rd_T36 l0 a1).f2)) := (blk_cell BK263.out 2).trans rfl
                            have hcz58_3 : wc.cell? ⟨gb263, 3, none⟩ = some (.int .i64 ((rd_T36 l0 a1).f3)) := (blk_cell BK263.out 3).trans rfl
                            have hcz58_4 : wc.cell? ⟨gb263, 4, none⟩ = some (.int .i64 ((rd_T36 l0 a1).f4)) := (blk_cell BK263.out 4).trans rfl
                            have hfz58_0 := blk_frozen BK263.out 0
                            have hfz58_1 := blk_frozen BK263.out 1
                            have hfz58_2 := blk_frozen BK263.out 2
                            have hfz58_3 := blk_frozen BK263.out 3
                            have hfz58_4 := blk_frozen BK263.out 4
                            obtain ⟨Ao59, co59, eo59⟩ := Kd.S_slice HO_10.out
                            subst eo59
                            go_wp2_with (first | ((with_reducible refine gate_callee (f := 46) rfl ?_); refine goesL_ (some 95) rfl rfl Try.func46 (by kernel_rfl) rfl #[.int .u8 ((rd_T36 l0 a1).f0), .int .i64 ((rd_T36 l0 a1).f1), .int .i64 ((rd_T36 l0 a1).f4), .slice Ao59 x10_24.length co59] rfl (by (try simp only [List.map_toArray, List.map_cons, List.map_nil]); first | done | rfl | (simp only [List.length_drop, List.length_take]; rfl)) ?_; (with_reducible refine (nodes_Node.calls kj24 ((rd_T36 l0 a1).f0) ((rd_T36 l0 a1).f1) ((rd_T36 l0 a1).f4) _ _ x10_24 t286 t287 _ ?side1 ?side2 A53.out).mono ?_); (case side1 => repeat (first | exact (Kd.S_reads' HO_10.out).2.2 | (with_reducible refine Kd.C_alloc ?_ _) | (with_reducible refine Kd.C_drewN ?_ _) | (with_reducible refine Kd.C_drew ?_))); (case side2 => exact (Kd.S_reads' HO_10.out).2.1); rintro e w60 ⟨v288, rfl, ho0, hb⟩; refine ⟨_, rfl, ?_⟩; have n0_ := Aside0.mk (Kd.R_elder' (by (with_reducible repeat (first | apply Kd.R_alloc | apply Kd.R_drewN | apply Kd.R_drew)); exact HO_5.out) (Kd.R_base ho0) hb); have n1_ := Aside0.mk (Kd.S_elder' (by (with_reducible repeat (first | apply Kd.S_alloc | apply Kd.S_drewN | apply Kd.S_drew)); exact HO_10.out) (Kd.R_base ho0) hb); have n2_ := Aside0.mk (Kd.R_lower (Kd.R_newB (Kd.R_new' ho0 (Kd.R_lt (by (with_reducible repeat (first | apply Kd.R_alloc | apply Kd.R_drewN | apply Kd.R_drew)); exact HO_5.out))) (g := gb263) (o := .cells #[.int .u8 ((rd_T36 l0 a1).f0), .int .i64 ((rd_T36 l0 a1).f1), .int .i64 ((rd_T36 l0 a1).f2), .int .i64 ((rd_T36 l0 a1).f3), .int .i64 ((rd_T36 l0 a1).f4)] 36 (0, 0)) (by (with_reducible repeat (first | refine blk_drewN ?_ _ | refine blk_drew ?_ | refine blk_alloc ?_ _)); exact BK263.out)) (below_size (by repeat (first | (with_reducible first | exact HB.out | apply below_alloc | apply pw_below_drewN | apply below_drew1 | refine below_set ?_ GE263.out) | exact HB.out)))); have n3_ := Aside0.mk (blk_below (g := gb263) (o := .cells #[.int .u8 ((rd_T36 l0 a1).f0), .int .i64 ((rd_T36 l0 a1).f1), .int .i64 ((rd_T36 l0 a1).f2), .int .i64 ((rd_T36 l0 a1).f3), .int .i64 ((rd_T36 l0 a1).f4)] 36 (0, 0)) (by (with_reducible repeat (first | refine blk_drewN ?_ _ | refine blk_drew ?_ | refine blk_alloc ?_ _)); exact BK263.out) hb); have n4_ := Aside0.mk (below_step (by repeat (first | (with_reducible first | exact HB.out | apply below_alloc | apply pw_below_drewN | apply below_drew1 | refine below_set ?_ GE263.out) | exact HB.out)) hb); clear HO_5; clear HO_10; clear BK263; clear HB; have HO_5 := n0_; have HO_10 := n1_; have HO289 := n2_; have BK263 := n3_; have HB := n4_; clear n0_ n1_ n2_ n3_ n4_; (try clear hb); (try clear hb2); (try clear hk); (try clear hi); (try clear ho0); obtain ⟨Ao61, co61, eo61⟩ := Kd.R_slice HO289.out; subst eo61; obtain ⟨Ao62, co62, eo62⟩ := Kd.R_slice HO_5.out; subst eo62) | (go_at_call 40; (with_reducible refine (tailwaterref04_Equal.calls kj24 _ _ t286 _ _ t258 true _ ?side1 ?side2 ?side3 ?side4 A55.out).mono ?_); (case side1 => repeat (first | exact (Kd.R_reads' HO289.out).2.2 | (with_reducible refine Kd.C_alloc ?_ _) | (with_reducible refine Kd.C_drewN ?_ _) | (with_reducible refine Kd.C_drew ?_))); (case side2 => exact (Kd.R_reads' HO289.out).2.1); (case side3 => repeat (first | exact (Kd.R_reads' HO_5.out).2.2 | (with_reducible refine Kd.C_alloc ?_ _) | (with_reducible refine Kd.C_drewN ?_ _) | (with_reducible refine Kd.C_drew ?_))); (case side4 => exact (Kd.R_reads' HO_5.out).2.1); rintro e w' ⟨rfl, ⟨nd, rfl⟩⟩) | (go_at_call 35; (with_reducible refine (tailwaterlaw04_alive.calls kj24  t291 _ A57.out).mono ?_); rintro e w63 ⟨rfl, hb⟩; have n0_ := Aside0.mk (Kd.R_below (by (with_reducible repeat (first | apply Kd.R_alloc | apply Kd.R_drewN | apply Kd.R_drew)); exact HO_5.out) hb); have n1_ := Aside0.mk (Kd.S_below (by (with_reducible repeat (first | apply Kd.S_alloc | apply Kd.S_drewN | apply Kd.S_drew)); exact HO_10.out) hb); have n2_ := Aside0.mk (Kd.R_below (by (with_reducible repeat (first | apply Kd.R_alloc | apply Kd.R_drewN | apply Kd.R_drew)); exact HO289.out) hb); have n3_ := Aside0.mk (blk_below (g := gb263) (o := .cells #[.int .u8 ((rd_T36 l0 a1).f0), .int .i64 ((rd_T36 l0 a1).f1), .int .i64 ((rd_T36 l0 a1).f2), .int .i64 ((rd_T36 l0 a1).f3), .int .i64 ((rd_T36 l0 a1).f4)] 36 (0, 0)) (by (with_reducible repeat (first | refine blk_drewN ?_ _ | refine blk_drew ?_ | refine blk_alloc ?_ _)); exact BK263.out) hb); have n4_ := Aside0.mk (below_step (by repeat (first | (with_reducible first | exact HB.out | apply below_alloc | apply pw_below_drewN | apply below_drew1 | refine below_set ?_ GE263.out) | exact HB.out)) hb); clear HO_5; clear HO_10; clear HO289; clear BK263; clear HB; have HO_5 := n0_; have HO_10 := n1_; have HO289 := n2_; have BK263 := n3_; have HB := n4_; clear n0_ n1_ n2_ n3_ n4_; (try clear hb); (try clear hb2); (try clear hk); (try clear hi)))
                            go_ret
                            exact ⟨by first | rfl | (simp [errW_none, errW_some] <;> rfl) | (simp [*, errW_none, errW_some] <;> rfl), by repeat (first | (with_reducible first | exact HB.out | apply below_alloc | apply pw_below_drewN | apply below_drew1 | refine below_set ?_ GE263.out) | exact HB.out)⟩
                          · replace c56 := Bool.eq_false_iff.mpr c56
                            subst c56
                            have H1 : (some false) = some true := by rw [if_neg (show ¬ (false = true) by decide)] at H; exact H
                            clear H
                            have H := H1
                            clear H1
                            exact absurd H (by simp)
                        · rw [if_neg c54] at H
                          have c54b0 : (t287 == 0) = false := beq_eq_false_iff_ne.mpr c54
                          have c54b1 : (t287 != 0) = true := bne_iff_ne.mpr c54
                          exact absurd H (by simp)
          · rw [if_neg c17] at H
            exact absurd H (by simp)
        · rw [if_neg c16] at H
          exact absurd H (by simp)

end Go.Proofs.Ytpkamfjkmbakhaa.N
