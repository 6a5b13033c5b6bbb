-- Written by a program of this place (wip/prt.py), out of Lean's own print of the program: Lean checks it.
import Derived.Test.YtpkamfjkmbakhaaN0
import Derived.Test.YtpkamfjkmbakhaaN2
import Derived.Test.YtpkamfjkmbakhaaN4
import Derived.Test.YtpkamfjkmbakhaaN5
import Derived.Test.YtpkamfjkmbakhaaN9
import Derived.Test.YtpkamfjkmbakhaaN11
import Derived.Test.YtpkamfjkmbakhaaN14
namespace Go.Proofs.Ytpkamfjkmbakhaa.N
open Go.RowKit Go.Proofs.YtpkamfjkmbakhaaW.PrintWords Go.Proofs.YtpkamfjkmbakhaaW.PrintLast Go.Proofs.YtpkamfjkmbakhaaW.PrintMore
attribute [local go_sem] max2_int min2_int max_two min_two max_three min_three max_four min_four   -- for this text's walks alone
set_option linter.unusedVariables false
set_option linter.unusedSimpArgs false

/-! ### tailwaterlaw04_NodesOther: function 11 -/
mutual
def tailwaterlaw04_NodesOther.j0 : Nat → List (S36) → Int → Int → Int → Bool → Option (Bool)
  | 0, _, _, _, _, _ => none
  | k + 1, x0, x1, x2, x3, x42 => if x42 = true then ((tailwaterlaw04_alive.f k).bind fun t319 => (some t319)) else ((some (([] : List (S36)) : List (S36))).bind fun y320 => (if y320.length + x0.length < 3518437208883 then ((some (y320 ++ x0 : List (S36))).bind fun y323 => (if 0 ≤ x1 then (if x1 < (x0.length : Int) then ((nodes_Parts.f k ((rd_T36 x0 x1).f0)).bind fun bt327 => (if bt327.2 = 0 then (if x2 = 0 then (if x1 < (y323.length : Int) then (tailwaterlaw04_NodesOther.j1 k x0 (y323.set (x1 : Int).toNat (⟨(((rd_T36 y323 x1).f0) + x3) % 256, (rd_T36 y323 x1).f1, (rd_T36 y323 x1).f2, (rd_T36 y323 x1).f3, (rd_T36 y323 x1).f4⟩ : S36)) bt327.1) else (none)) else (if x2 = 1 then (if x1 < (y323.length : Int) then ((some (y323.set (x1 : Int).toNat (⟨(rd_T36 y323 x1).f0, (rd_T36 y323 x1).f1, wrap64 (((rd_T36 y323 x1).f2) + x3), (rd_T36 y323 x1).f3, (rd_T36 y323 x1).f4⟩ : S36) : List (S36))).bind fun y332 => ((nodes_Check.f k y332).bind fun t333 => (if t333 = 8 then (tailwaterlaw04_NodesOther.j1 k x0 y332 bt327.1) else (some false)))) else (none)) else (if x2 = 2 then (if x1 < (y323.length : Int) then ((some (y323.set (x1 : Int).toNat (⟨(rd_T36 y323 x1).f0, (rd_T36 y323 x1).f1, (rd_T36 y323 x1).f2, wrap64 (((rd_T36 y323 x1).f3) + x3), (rd_T36 y323 x1).f4⟩ : S36) : List (S36))).bind fun y335 => ((nodes_Check.f k y335).bind fun t336 => (if t336 = 8 then (tailwaterlaw04_NodesOther.j1 k x0 y335 bt327.1) else (some false)))) else (none)) else (if x1 < (y323.length : Int) then ((some (y323.set (x1 : Int).toNat (⟨(rd_T36 y323 x1).f0, wrap64 (((rd_T36 y323 x1).f1) + x3), (rd_T36 y323 x1).f2, (rd_T36 y323 x1).f3, (rd_T36 y323 x1).f4⟩ : S36) : List (S36))).bind fun y338 => (if ((rd_T36 x0 x1).f0) = 1 then (tailwaterlaw04_NodesOther.j1 k x0 y338 bt327.1) else ((nodes_Check.f k y338).bind fun t340 => (if t340 = 8 then (tailwaterlaw04_NodesOther.j1 k x0 y338 bt327.1) else (some false))))) else (none))))) else (some false))) else (none)) else (none))) else (none)))
def tailwaterlaw04_NodesOther.j1 : Nat → List (S36) → List (S36) → Int → Option (Bool)
  | 0, _, _, _ => none
  | k + 1, x0, x9, x10 => (nodes_Check.f k x9).bind fun t341 => (if t341 = 0 then ((nodes_Same.f k x0 x9).bind fun bt342 => (if bt342.2 = 0 then (if bt342.1 = true then (some false) else ((tailwaterlaw04_alive.f k).bind fun t344 => (some t344))) else (some false))) else (if x10 ≥ 0 then ((tailwaterlaw04_alive.f k).bind fun t345 => (some t345)) else (some false)))
end
def tailwaterlaw04_NodesOther.f (k : Nat) (l0 : List (S36)) (a1 : Int) (a2 : Int) (a3 : Int) : Option (Bool) := (tailwaterref04_Great.f l0).bind fun t317 => (if t317 = true then (tailwaterlaw04_NodesOther.j0 k l0 a1 a2 a3 true) else ((tailwaterref04_Check.f k l0).bind fun t318 => (if t318 = 0 then (if a1 < 0 then (tailwaterlaw04_NodesOther.j0 k l0 a1 a2 a3 true) else (if a1 ≥ (l0.length : Int) then (tailwaterlaw04_NodesOther.j0 k l0 a1 a2 a3 true) else (if a3 = 0 then (tailwaterlaw04_NodesOther.j0 k l0 a1 a2 a3 true) else (if a3 < (-100) then (tailwaterlaw04_NodesOther.j0 k l0 a1 a2 a3 true) else (tailwaterlaw04_NodesOther.j0 k l0 a1 a2 a3 (decide (a3 > 100))))))) else (tailwaterlaw04_NodesOther.j0 k l0 a1 a2 a3 true))))
theorem tailwaterlaw04_NodesOther.mono_l : ∀ k, (∀ y0 y1 y2 y3 y4, LeO (tailwaterlaw04_NodesOther.j0 k y0 y1 y2 y3 y4) (tailwaterlaw04_NodesOther.j0 (k + 1) y0 y1 y2 y3 y4)) ∧ (∀ y0 y1 y2, LeO (tailwaterlaw04_NodesOther.j1 k y0 y1 y2) (tailwaterlaw04_NodesOther.j1 (k + 1) y0 y1 y2))
  | 0 => ⟨fun _ _ _ _ _ r h => by simp [tailwaterlaw04_NodesOther.j0] at h, fun _ _ _ r h => by simp [tailwaterlaw04_NodesOther.j1] at h⟩
  | k + 1 => by
    obtain ⟨ih0, ih1⟩ := tailwaterlaw04_NodesOther.mono_l k
    refine ⟨?_, ?_⟩
    · intro y0 y1 y2 y3 y4
      unfold tailwaterlaw04_NodesOther.j0
      repeat' first
      | (with_reducible exact ih0 _ _ _ _ _)
      | (with_reducible exact ih1 _ _ _)
      | (with_reducible exact nodes_Check.mono _ _)
      | (with_reducible exact nodes_Parts.mono _ _)
      | (with_reducible exact nodes_Same.mono _ _ _)
      | (with_reducible exact tailwaterlaw04_alive.mono _)
      | (with_reducible exact tailwaterref04_Check.mono _ _)
      | (with_reducible exact LeO.refl _)
      | (with_reducible exact LeO.none _)
      | (with_reducible refine LeO.ite ?_ ?_)
      | (with_reducible refine LeO.bind ?_ (fun _ => ?_))
      | exact ih0 _ _ _ _ _
      | exact ih1 _ _ _
      | exact nodes_Check.mono _ _
      | exact nodes_Parts.mono _ _
      | exact nodes_Same.mono _ _ _
      | exact tailwaterlaw04_alive.mono _
      | exact tailwaterref04_Check.mono _ _
      | exact LeO.none _
      | refine LeO.ite ?_ ?_
      | refine LeO.bind ?_ (fun _ => ?_)
    · intro y0 y1 y2
      unfold tailwaterlaw04_NodesOther.j1
      repeat' first
      | (with_reducible exact ih0 _ _ _ _ _)
      | (with_reducible exact ih1 _ _ _)
      | (with_reducible exact nodes_Check.mono _ _)
      | (with_reducible exact nodes_Parts.mono _ _)
      | (with_reducible exact nodes_Same.mono _ _ _)
      | (with_reducible exact tailwaterlaw04_alive.mono _)
      | (with_reducible exact tailwaterref04_Check.mono _ _)
      | (with_reducible exact LeO.refl _)
      | (with_reducible exact LeO.none _)
      | (with_reducible refine LeO.ite ?_ ?_)
      | (with_reducible refine LeO.bind ?_ (fun _ => ?_))
      | exact ih0 _ _ _ _ _
      | exact ih1 _ _ _
      | exact nodes_Check.mono _ _
      | exact nodes_Parts.mono _ _
      | exact nodes_Same.mono _ _ _
      | exact tailwaterlaw04_alive.mono _
      | exact tailwaterref04_Check.mono _ _
      | exact LeO.none _
      | refine LeO.ite ?_ ?_
      | refine LeO.bind ?_ (fun _ => ?_)
theorem tailwaterlaw04_NodesOther.mono : ∀ a0 a1 a2 a3 k, LeO (tailwaterlaw04_NodesOther.f k a0 a1 a2 a3) (tailwaterlaw04_NodesOther.f (k + 1) a0 a1 a2 a3) := by
  intro a0 a1 a2 a3 k
  obtain ⟨ih0, ih1⟩ := tailwaterlaw04_NodesOther.mono_l k
  unfold tailwaterlaw04_NodesOther.f
  repeat' first
      | (with_reducible exact ih0 _ _ _ _ _)
      | (with_reducible exact ih1 _ _ _)
      | (with_reducible exact nodes_Check.mono _ _)
      | (with_reducible exact nodes_Parts.mono _ _)
      | (with_reducible exact nodes_Same.mono _ _ _)
      | (with_reducible exact tailwaterlaw04_alive.mono _)
      | (with_reducible exact tailwaterref04_Check.mono _ _)
      | (with_reducible exact LeO.refl _)
      | (with_reducible exact LeO.none _)
      | (with_reducible refine LeO.ite ?_ ?_)
      | (with_reducible refine LeO.bind ?_ (fun _ => ?_))
      | exact ih0 _ _ _ _ _
      | exact ih1 _ _ _
      | exact nodes_Check.mono _ _
      | exact nodes_Parts.mono _ _
      | exact nodes_Same.mono _ _ _
      | exact tailwaterlaw04_alive.mono _
      | exact tailwaterref04_Check.mono _ _
      | exact LeO.none _
      | refine LeO.ite ?_ ?_
      | refine LeO.bind ?_ (fun _ => ?_)
set_option maxHeartbeats 8000000 in
set_option maxRecDepth 100000 in
theorem tailwaterlaw04_NodesOther.calls (k : Nat) (A0 : Option Addr) (c0 : Nat) (l0 : List (S36)) (a1 : Int) (a2 : Int) (a3 : Int) (w : World) (hr0 : Kd.C k36 w A0 l0.length l0) (hc0 : l0.length ≤ c0) (h : tailwaterlaw04_NodesOther.f k l0 a1 a2 a3 = some true) :
    Calls Try.prog 11 #[.slice A0 l0.length c0, .int .i64 a1, .int .i64 a2, .int .i64 a3] w fun e w' => e = .returned (.bool true) ∧ Below w.heap.size w w' := by
  have HR0 := Aside0.mk hr0
  have HC0 := Aside0.mk hc0
  clear hr0 hc0
  have HB := Aside0.mk (Below.refl w.heap.size w)
  have H : ((tailwaterref04_Great.f l0).bind fun t317 => (if t317 = true then (tailwaterlaw04_NodesOther.j0 k l0 a1 a2 a3 true) else ((tailwaterref04_Check.f k l0).bind fun t318 => (if t318 = 0 then (if a1 < 0 then (tailwaterlaw04_NodesOther.j0 k l0 a1 a2 a3 true) else (if a1 ≥ (l0.length : Int) then (tailwaterlaw04_NodesOther.j0 k l0 a1 a2 a3 true) else (if a3 = 0 then (tailwaterlaw04_NodesOther.j0 k l0 a1 a2 a3 true) else (if a3 < (-100) then (tailwaterlaw04_NodesOther.j0 k l0 a1 a2 a3 true) else (tailwaterlaw04_NodesOther.j0 k l0 a1 a2 a3 (decide (a3 > 100))))))) else (tailwaterlaw04_NodesOther.j0 k l0 a1 a2 a3 true))))) = some true := h
  clear h
  have HC5 := Aside0.mk H
  clear H
  go_enter Try.func11, Try.ntmps11
  go_upto_region 1 with (fail)
  go_cut [42] (fun v42 wc => ∃ (kq : Nat) (x42_4 : Bool), v42 = .bool x42_4 ∧ Aside0 (tailwaterlaw04_NodesOther.j0 kq l0 a1 a2 a3 x42_4 = some true) ∧ Aside0 (kq ≤ k) ∧ Aside0 (Below w.heap.size w wc))
  case first =>
    have H := HC5.out
    clear HC5
    replace H := Option.bind_eq_some_iff.mp H
    obtain ⟨t317, A60, H⟩ := H
    replace H : (if t317 = true then (tailwaterlaw04_NodesOther.j0 k l0 a1 a2 a3 true) else ((tailwaterref04_Check.f k l0).bind fun t318 => (if t318 = 0 then (if a1 < 0 then (tailwaterlaw04_NodesOther.j0 k l0 a1 a2 a3 true) else (if a1 ≥ (l0.length : Int) then (tailwaterlaw04_NodesOther.j0 k l0 a1 a2 a3 true) else (if a3 = 0 then (tailwaterlaw04_NodesOther.j0 k l0 a1 a2 a3 true) else (if a3 < (-100) then (tailwaterlaw04_NodesOther.j0 k l0 a1 a2 a3 true) else (tailwaterlaw04_NodesOther.j0 k l0 a1 a2 a3 (decide (a3 > 100))))))) else (tailwaterlaw04_NodesOther.j0 k l0 a1 a2 a3 true)))) = some true := H
    have A6 := Aside0.mk A60
    clear A60
    by_cases c7 : t317 = true
    · subst c7
      have H1 : (tailwaterlaw04_NodesOther.j0 k l0 a1 a2 a3 true) = some true := by rw [if_pos rfl] at H; exact H
      clear H
      have H := H1
      clear H1
      have H' := Aside0.mk H
      clear H
      go_wp2_with (first | ((with_reducible refine gate_callee (f := 33) rfl ?_); refine goesL_ (some 15) rfl rfl Try.func33 (by kernel_rfl) rfl #[.slice A0 l0.length c0] rfl (by (try simp only [List.map_toArray, List.map_cons, List.map_nil]); first | done | rfl | (simp only [List.length_drop, List.length_take]; rfl)) ?_; (with_reducible refine (tailwaterref04_Great.calls _ _ l0 true _ ?side1 ?side2 A6.out).mono ?_); (case side1 => repeat (first | exact (Kd.C_below HR0.out HB.out) | (with_reducible refine Kd.C_alloc ?_ _) | (with_reducible refine Kd.C_drewN ?_ _) | (with_reducible refine Kd.C_drew ?_))); (case side2 => exact HC0.out); rintro e w' ⟨rfl, ⟨nd, rfl⟩⟩; refine ⟨_, rfl, ?_⟩))
      go_meet
      case rel => exact ⟨_, (true), (by first | rfl | (simp; done) | (simp [*]; done)), H', ⟨by first | omega | exact Nat.le_refl _⟩, ⟨by repeat (first | (with_reducible first | exact HB.out | apply below_alloc | apply pw_below_drewN | apply below_drew1) | exact HB.out)⟩⟩
    · replace c7 := Bool.eq_false_iff.mpr c7
      subst c7
      have H1 : ((tailwaterref04_Check.f k l0).bind fun t318 => (if t318 = 0 then (if a1 < 0 then (tailwaterlaw04_NodesOther.j0 k l0 a1 a2 a3 true) else (if a1 ≥ (l0.length : Int) then (tailwaterlaw04_NodesOther.j0 k l0 a1 a2 a3 true) else (if a3 = 0 then (tailwaterlaw04_NodesOther.j0 k l0 a1 a2 a3 true) else (if a3 < (-100) then (tailwaterlaw04_NodesOther.j0 k l0 a1 a2 a3 true) else (tailwaterlaw04_NodesOther.j0 k l0 a1 a2 a3 (decide (a3 > 100))))))) else (tailwaterlaw04_NodesOther.j0 k l0 a1 a2 a3 true))) = some true := by rw [if_neg (show ¬ (false = true) by decide)] at H; exact H
      clear H
      have H := H1
      clear H1
      replace H := Option.bind_eq_some_iff.mp H
      obtain ⟨t318, A80, H⟩ := H
      replace H : (if t318 = 0 then (if a1 < 0 then (tailwaterlaw04_NodesOther.j0 k l0 a1 a2 a3 true) else (if a1 ≥ (l0.length : Int) then (tailwaterlaw04_NodesOther.j0 k l0 a1 a2 a3 true) else (if a3 = 0 then (tailwaterlaw04_NodesOther.j0 k l0 a1 a2 a3 true) else (if a3 < (-100) then (tailwaterlaw04_NodesOther.j0 k l0 a1 a2 a3 true) else (tailwaterlaw04_NodesOther.j0 k l0 a1 a2 a3 (decide (a3 > 100))))))) else (tailwaterlaw04_NodesOther.j0 k l0 a1 a2 a3 true)) = some true := H
      have A8 := Aside0.mk A80
      clear A80
      by_cases c9 : t318 = 0
      · rw [if_pos c9] at H
        have c9b0 : (t318 == 0) = true := beq_iff_eq.mpr c9
        have c9b1 : (t318 != 0) = false := bne_eq_false_iff_eq.mpr c9
        clear c9
        (first | rw [c9b0] | (simp only [i64_w, i32_w]; rw [c9b0]) | skip)
        by_cases c10 : a1 < 0
        · rw [if_pos c10] at H
          have c10b0 : decide (a1 < 0) = true := decide_eq_true c10
          clear c10
          have H' := Aside0.mk H
          clear H
          go_wp2_with (first | ((with_reducible refine gate_callee (f := 33) rfl ?_); refine goesL_ (some 15) rfl rfl Try.func33 (by kernel_rfl) rfl #[.slice A0 l0.length c0] rfl (by (try simp only [List.map_toArray, List.map_cons, List.map_nil]); first | done | rfl | (simp only [List.length_drop, List.length_take]; rfl)) ?_; (with_reducible refine (tailwaterref04_Great.calls _ _ l0 false _ ?side1 ?side2 A6.out).mono ?_); (case side1 => repeat (first | exact (Kd.C_below HR0.out HB.out) | (with_reducible refine Kd.C_alloc ?_ _) | (with_reducible refine Kd.C_drewN ?_ _) | (with_reducible refine Kd.C_drew ?_))); (case side2 => exact HC0.out); rintro e w' ⟨rfl, ⟨nd, rfl⟩⟩; refine ⟨_, rfl, ?_⟩) | (go_at_call 34; (with_reducible refine (tailwaterref04_Check.calls k _ _ l0 t318 _ ?side1 ?side2 A8.out).mono ?_); (case side1 => repeat (first | exact (Kd.C_below HR0.out (by repeat (first | (with_reducible first | exact HB.out | apply below_alloc | apply pw_below_drewN | apply below_drew1) | exact HB.out))) | (with_reducible refine Kd.C_alloc ?_ _) | (with_reducible refine Kd.C_drewN ?_ _) | (with_reducible refine Kd.C_drew ?_))); (case side2 => exact HC0.out); rintro e w11 ⟨rfl, hb⟩; have n0_ := Aside0.mk (below_step (by repeat (first | (with_reducible first | exact HB.out | apply below_alloc | apply pw_below_drewN | apply below_drew1) | exact HB.out)) hb); clear HB; have HB := n0_; clear n0_; (try clear hb); (try clear hb2); (try clear hk); (try clear hi)))
          go_meet
          case rel => exact ⟨_, (true), (by first | rfl | (simp; done) | (simp [*]; done)), H', ⟨by first | omega | exact Nat.le_refl _⟩, ⟨by repeat (first | (with_reducible first | exact HB.out | apply below_alloc | apply pw_below_drewN | apply below_drew1) | exact HB.out)⟩⟩
        · rw [if_neg c10] at H
          have c10b0 : decide (a1 < 0) = false := decide_eq_false c10
          clear c10
          by_cases c12 : a1 ≥ (l0.length : Int)
          · rw [if_pos c12] at H
            have c12b0 : decide ((l0.length : Int) ≤ a1) = true := decide_eq_true c12
            clear c12
            have H' := Aside0.mk H
            clear H
            go_wp2_with (first | ((with_reducible refine gate_callee (f := 33) rfl ?_); refine goesL_ (some 15) rfl rfl Try.func33 (by kernel_rfl) rfl #[.slice A0 l0.length c0] rfl (by (try simp only [List.map_toArray, List.map_cons, List.map_nil]); first | done | rfl | (simp only [List.length_drop, List.length_take]; rfl)) ?_; (with_reducible refine (tailwaterref04_Great.calls _ _ l0 false _ ?side1 ?side2 A6.out).mono ?_); (case side1 => repeat (first | exact (Kd.C_below HR0.out HB.out) | (with_reducible refine Kd.C_alloc ?_ _) | (with_reducible refine Kd.C_drewN ?_ _) | (with_reducible refine Kd.C_drew ?_))); (case side2 => exact HC0.out); rintro e w' ⟨rfl, ⟨nd, rfl⟩⟩; refine ⟨_, rfl, ?_⟩) | (go_at_call 34; (with_reducible refine (tailwaterref04_Check.calls k _ _ l0 t318 _ ?side1 ?side2 A8.out).mono ?_); (case side1 => repeat (first | exact (Kd.C_below HR0.out (by repeat (first | (with_reducible first | exact HB.out | apply below_alloc | apply pw_below_drewN | apply below_drew1) | exact HB.out))) | (with_reducible refine Kd.C_alloc ?_ _) | (with_reducible refine Kd.C_drewN ?_ _) | (with_reducible refine Kd.C_drew ?_))); (case side2 => exact HC0.out); rintro e w13 ⟨rfl, hb⟩; have n0_ := Aside0.mk (below_step (by repeat (first | (with_reducible first | exact HB.out | apply below_alloc | apply pw_below_drewN | apply below_drew1) | exact HB.out)) hb); clear HB; have HB := n0_; clear n0_; (try clear hb); (try clear hb2); (try clear hk); (try clear hi)))
            go_meet
            case rel => exact ⟨_, (true), (by first | rfl | (simp; done) | (simp [*]; done)), H', ⟨by first | omega | exact Nat.le_refl _⟩, ⟨by repeat (first | (with_reducible first | exact HB.out | apply below_alloc | apply pw_below_drewN | apply below_drew1) | exact HB.out)⟩⟩
          · rw [if_neg c12] at H
            have c12b0 : decide ((l0.length : Int) ≤ a1) = false := decide_eq_false c12
            clear c12
            by_cases c14 : a3 = 0
            · rw [if_pos c14] at H
              have c14b0 : (a3 == 0) = true := beq_iff_eq.mpr c14
              have c14b1 : (a3 != 0) = false := bne_eq_false_iff_eq.mpr c14
              clear c14
              have H' := Aside0.mk H
              clear H
              go_wp2_with (first | ((with_reducible refine gate_callee (f := 33) rfl ?_); refine goesL_ (some 15) rfl rfl Try.func33 (by kernel_rfl) rfl #[.slice A0 l0.length c0] rfl (by (try simp only [List.map_toArray, List.map_cons, List.map_nil]); first | done | rfl | (simp only [List.length_drop, List.length_take]; rfl)) ?_; (with_reducible refine (tailwaterref04_Great.calls _ _ l0 false _ ?side1 ?side2 A6.out).mono ?_); (case side1 => repeat (first | exact (Kd.C_below HR0.out HB.out) | (with_reducible refine Kd.C_alloc ?_ _) | (with_reducible refine Kd.C_drewN ?_ _) | (with_reducible refine Kd.C_drew ?_))); (case side2 => exact HC0.out); rintro e w' ⟨rfl, ⟨nd, rfl⟩⟩; refine ⟨_, rfl, ?_⟩) | (go_at_call 34; (with_reducible refine (tailwaterref04_Check.calls k _ _ l0 t318 _ ?side1 ?side2 A8.out).mono ?_); (case side1 => repeat (first | exact (Kd.C_below HR0.out (by repeat (first | (with_reducible first | exact HB.out | apply below_alloc | apply pw_below_drewN | apply below_drew1) | exact HB.out))) | (with_reducible refine Kd.C_alloc ?_ _) | (with_reducible refine Kd.C_drewN ?_ _) | (with_reducible refine Kd.C_drew ?_))); (case side2 => exact HC0.out); rintro e w15 ⟨rfl, hb⟩; have n0_ := Aside0.mk (below_step (by repeat (first | (with_reducible first | exact HB.out | apply below_alloc | apply pw_below_drewN | apply below_drew1) | exact HB.out)) hb); clear HB; have HB := n0_; clear n0_; (try clear hb); (try clear hb2); (try clear hk); (try clear hi)))
              go_meet
              case rel => exact ⟨_, (true), (by first | rfl | (simp; done) | (simp [*]; done)), H', ⟨by first | omega | exact Nat.le_refl _⟩, ⟨by repeat (first | (with_reducible first | exact HB.out | apply below_alloc | apply pw_below_drewN | apply below_drew1) | exact HB.out)⟩⟩
            · rw [if_neg c14] at H
              have c14b0 : (a3 == 0) = false := beq_eq_false_iff_ne.mpr c14
              have c14b1 : (a3 != 0) = true := bne_iff_ne.mpr c14
              by_cases c16 : a3 < (-100)
              · rw [if_pos c16] at H
                have c16b0 : decide (a3 < (-100)) = true := decide_eq_true c16
                clear c16
                have H' := Aside0.mk H
                clear H
                go_wp2_with (first | ((with_reducible refine gate_callee (f := 33) rfl ?_); refine goesL_ (some 15) rfl rfl Try.func33 (by kernel_rfl) rfl #[.slice A0 l0.length c0] rfl (by (try simp only [List.map_toArray, List.map_cons, List.map_nil]); first | done | rfl | (simp only [List.length_drop, List.length_take]; rfl)) ?_; (with_reducible refine (tailwaterref04_Great.calls _ _ l0 false _ ?side1 ?side2 A6.out).mono ?_); (case side1 => repeat (first | exact (Kd.C_below HR0.out HB.out) | (with_reducible refine Kd.C_alloc ?_ _) | (with_reducible refine Kd.C_drewN ?_ _) | (with_reducible refine Kd.C_drew ?_))); (case side2 => exact HC0.out); rintro e w' ⟨rfl, ⟨nd, rfl⟩⟩; refine ⟨_, rfl, ?_⟩) | (go_at_call 34; (with_reducible refine (tailwaterref04_Check.calls k _ _ l0 t318 _ ?side1 ?side2 A8.out).mono ?_); (case side1 => repeat (first | exact (Kd.C_below HR0.out (by repeat (first | (with_reducible first | exact HB.out | apply below_alloc | apply pw_below_drewN | apply below_drew1) | exact HB.out))) | (with_reducible refine Kd.C_alloc ?_ _) | (with_reducible refine Kd.C_drewN ?_ _) | (with_reducible refine Kd.C_drew ?_))); (case side2 => exact HC0.out); rintro e w17 ⟨rfl, hb⟩; have n0_ := Aside0.mk (below_step (by repeat (first | (with_reducible first | exact HB.out | apply below_alloc | apply pw_below_drewN | apply below_drew1) | exact HB.out)) hb); clear HB; have HB := n0_; clear n0_; (try clear hb); (try clear hb2); (try clear hk); (try clear hi)))
                go_meet
                case rel => exact ⟨_, (true), (by first | rfl | (simp; done) | (simp [*]; done)), H', ⟨by first | omega | exact Nat.le_refl _⟩, ⟨by repeat (first | (with_reducible first | exact HB.out | apply below_alloc | apply pw_below_drewN | apply below_drew1) | exact HB.out)⟩⟩
              · rw [if_neg c16] at H
                have c16b0 : decide (a3 < (-100)) = false := decide_eq_false c16
                clear c16
                have H' := Aside0.mk H
                clear H
                go_wp2_with (first | ((with_reducible refine gate_callee (f := 33) rfl ?_); refine goesL_ (some 15) rfl rfl Try.func33 (by kernel_rfl) rfl #[.slice A0 l0.length c0] rfl (by (try simp only [List.map_toArray, List.map_cons, List.map_nil]); first | done | rfl | (simp only [List.length_drop, List.length_take]; rfl)) ?_; (with_reducible refine (tailwaterref04_Great.calls _ _ l0 false _ ?side1 ?side2 A6.out).mono ?_); (case side1 => repeat (first | exact (Kd.C_below HR0.out HB.out) | (with_reducible refine Kd.C_alloc ?_ _) | (with_reducible refine Kd.C_drewN ?_ _) | (with_reducible refine Kd.C_drew ?_))); (case side2 => exact HC0.out); rintro e w' ⟨rfl, ⟨nd, rfl⟩⟩; refine ⟨_, rfl, ?_⟩) | (go_at_call 34; (with_reducible refine (tailwaterref04_Check.calls k _ _ l0 t318 _ ?side1 ?side2 A8.out).mono ?_); (case side1 => repeat (first | exact (Kd.C_below HR0.out (by repeat (first | (with_reducible first | exact HB.out | apply below_alloc | apply pw_below_drewN | apply below_drew1) | exact HB.out))) | (with_reducible refine Kd.C_alloc ?_ _) | (with_reducible refine Kd.C_drewN ?_ _) | (with_reducible refine Kd.C_drew ?_))); (case side2 => exact HC0.out); rintro e w18 ⟨rfl, hb⟩; have n0_ := Aside0.mk (below_step (by repeat (first | (with_reducible first | exact HB.out | apply below_alloc | apply pw_below_drewN | apply below_drew1) | exact HB.out)) hb); clear HB; have HB := n0_; clear n0_; (try clear hb); (try clear hb2); (try clear hk); (try clear hi)))
                go_meet
                case rel => exact ⟨_, (decide (a3 > 100)), (by first | rfl | (simp; done) | (simp [*]; done)), H', ⟨by first | omega | exact Nat.le_refl _⟩, ⟨by repeat (first | (with_reducible first | exact HB.out | apply below_alloc | apply pw_below_drewN | apply below_drew1) | exact HB.out)⟩⟩
      · rw [if_neg c9] at H
        have c9b0 : (t318 == 0) = false := beq_eq_false_iff_ne.mpr c9
        have c9b1 : (t318 != 0) = true := bne_iff_ne.mpr c9
        (first | rw [c9b0] | (simp only [i64_w, i32_w]; rw [c9b0]) | skip)
        have H' := Aside0.mk H
        clear H
        go_wp2_with (first | ((with_reducible refine gate_callee (f := 33) rfl ?_); refine goesL_ (some 15) rfl rfl Try.func33 (by kernel_rfl) rfl #[.slice A0 l0.length c0] rfl (by (try simp only [List.map_toArray, List.map_cons, List.map_nil]); first | done | rfl | (simp only [List.length_drop, List.length_take]; rfl)) ?_; (with_reducible refine (tailwaterref04_Great.calls _ _ l0 false _ ?side1 ?side2 A6.out).mono ?_); (case side1 => repeat (first | exact (Kd.C_below HR0.out HB.out) | (with_reducible refine Kd.C_alloc ?_ _) | (with_reducible refine Kd.C_drewN ?_ _) | (with_reducible refine Kd.C_drew ?_))); (case side2 => exact HC0.out); rintro e w' ⟨rfl, ⟨nd, rfl⟩⟩; refine ⟨_, rfl, ?_⟩) | (go_at_call 34; (with_reducible refine (tailwaterref04_Check.calls k _ _ l0 t318 _ ?side1 ?side2 A8.out).mono ?_); (case side1 => repeat (first | exact (Kd.C_below HR0.out (by repeat (first | (with_reducible first | exact HB.out | apply below_alloc | apply pw_below_drewN | apply below_drew1) | exact HB.out))) | (with_reducible refine Kd.C_alloc ?_ _) | (with_reducible refine Kd.C_drewN ?_ _) | (with_reducible refine Kd.C_drew ?_))); (case side2 => exact HC0.out); rintro e w19 ⟨rfl, hb⟩; have n0_ := Aside0.mk (below_step (by repeat (first | (with_reducible first | exact HB.out | apply below_alloc | apply pw_below_drewN | apply below_drew1) | exact HB.out)) hb); clear HB; have HB := n0_; clear n0_; (try clear hb); (try clear hb2); (try clear hk); (try clear hi)))
        go_meet
        case rel => exact ⟨_, (true), (by first | rfl | (simp; done) | (simp [*]; done)), H', ⟨by first | omega | exact Nat.le_refl _⟩, ⟨by repeat (first | (with_reducible first | exact HB.out | apply below_alloc | apply pw_below_drewN | apply below_drew1) | exact HB.out)⟩⟩
  case rest =>
    clear HC5
    try clear c1
    try clear p2
    try clear c3
    try clear c7
    try clear c9
    try clear c9b0
    try clear c9b1
    try clear c10
    try clear c10b0
    try clear c11
    try clear c12
    try clear c12b0
    try clear c14
    try clear c14b0
    try clear c14b1
    try clear c16
    try clear c16b0
    obtain ⟨kq, x42_4, rfl, HA, HJ4, HB⟩ := hcut
    cases kq with
    | zero => exact absurd HA.out (by simp [tailwaterlaw04_NodesOther.j0])
    | succ kj4 =>
      have H := HA.out
      clear HA
      simp only [tailwaterlaw04_NodesOther.j0] at H
      by_cases c20 : x42_4 = true
      · subst c20
        have H1 : ((tailwaterlaw04_alive.f kj4).bind fun t319 => (some t319)) = some true := by rw [if_pos rfl] at H; exact H
        clear H
        have H := H1
        clear H1
        replace H := Option.bind_eq_some_iff.mp H
        obtain ⟨t319, A210, H⟩ := H
        replace H : (some t319) = some true := H
        have A21 := Aside0.mk A210
        clear A210
        have hv_ := Option.some.inj H
        clear H
        go_wp2_with (first | ((with_reducible refine gate_callee (f := 35) rfl ?_); refine goesL_ (some 43) rfl rfl Try.func35 (by kernel_rfl) rfl #[] rfl (by (try simp only [List.map_toArray, List.map_cons, List.map_nil]); first | done | rfl | (simp only [List.length_drop, List.length_take]; rfl)) ?_; (with_reducible refine (tailwaterlaw04_alive.calls kj4  t319 _ A21.out).mono ?_); rintro e w22 ⟨rfl, hb⟩; refine ⟨_, rfl, ?_⟩; have n0_ := Aside0.mk (below_step (by repeat (first | (with_reducible first | exact HB.out | apply below_alloc | apply pw_below_drewN | apply below_drew1) | exact HB.out)) hb); clear HB; have HB := n0_; clear n0_; (try clear hb); (try clear hb2); (try clear hk); (try clear hi)))
        go_ret
        exact ⟨by first | rfl | (simp [errW_none, errW_some] <;> rfl) | (simp [*, errW_none, errW_some] <;> rfl), by repeat (first | (with_reducible first | exact HB.out | apply below_alloc | apply pw_below_drewN | apply below_drew1) | exact HB.out)⟩
      · replace c20 := Bool.eq_false_iff.mpr c20
        subst c20
        have H1 : ((some (([] : List (S36)) : List (S36))).bind fun y320 => (if y320.length + l0.length < 3518437208883 then ((some (y320 ++ l0 : List (S36))).bind fun y323 => (if 0 ≤ a1 then (if a1 < (l0.length : Int) then ((nodes_Parts.f kj4 ((rd_T36 l0 a1).f0)).bind fun bt327 => (if bt327.2 = 0 then (if a2 = 0 then (if a1 < (y323.length : Int) then (tailwaterlaw04_NodesOther.j1 kj4 l0 (y323.set (a1 : Int).toNat (⟨(((rd_T36 y323 a1).f0) + a3) % 256, (rd_T36 y323 a1).f1, (rd_T36 y323 a1).f2, (rd_T36 y323 a1).f3, (rd_T36 y323 a1).f4⟩ : S36)) bt327.1) else (none)) else (if a2 = 1 then (if a1 < (y323.length : Int) then ((some (y323.set (a1 : Int).toNat (⟨(rd_T36 y323 a1).f0, (rd_T36 y323 a1).f1, wrap64 (((rd_T36 y323 a1).f2) + a3), (rd_T36 y323 a1).f3, (rd_T36 y323 a1).f4⟩ : S36) : List (S36))).bind fun y332 => ((nodes_Check.f kj4 y332).bind fun t333 => (if t333 = 8 then (tailwaterlaw04_NodesOther.j1 kj4 l0 y332 bt327.1) else (some false)))) else (none)) else (if a2 = 2 then (if a1 < (y323.length : Int) then ((some (y323.set (a1 : Int).toNat (⟨(rd_T36 y323 a1).f0, (rd_T36 y323 a1).f1, (rd_T36 y323 a1).f2, wrap64 (((rd_T36 y323 a1).f3) + a3), (rd_T36 y323 a1).f4⟩ : S36) : List (S36))).bind fun y335 => ((nodes_Check.f kj4 y335).bind fun t336 => (if t336 = 8 then (tailwaterlaw04_NodesOther.j1 kj4 l0 y335 bt327.1) else (some false)))) else (none)) else (if a1 < (y323.length : Int) then ((some (y323.set (a1 : Int).toNat (⟨(rd_T36 y323 a1).f0, wrap64 (((rd_T36 y323 a1).f1) + a3), (rd_T36 y323 a1).f2, (rd_T36 y323 a1).f3, (rd_T36 y323 a1).f4⟩ : S36) : List (S36))).bind fun y338 => (if ((rd_T36 l0 a1).f0) = 1 then (tailwaterlaw04_NodesOther.j1 kj4 l0 y338 bt327.1) else ((nodes_Check.f kj4 y338).bind fun t340 => (if t340 = 8 then (tailwaterlaw04_NodesOther.j1 kj4 l0 y338 bt327.1) else (some false))))) else (none))))) else (some false))) else (none)) else (none))) else (none))) = some true := by rw [if_neg (show ¬ (false = true) by decide)] at H; exact H
        clear H
        have H := H1
        clear H1
        obtain ⟨y320, hy320⟩ : ∃ y_ : List (S36), y_ = (([] : List (S36))) := ⟨_, rfl⟩
        replace H : (if y320.length + l0.length < 3518437208883 then ((some (y320 ++ l0 : List (S36))).bind fun y323 => (if 0 ≤ a1 then (if a1 < (l0.length : Int) then ((nodes_Parts.f kj4 ((rd_T36 l0 a1).f0)).bind fun bt327 => (if bt327.2 = 0 then (if a2 = 0 then (if a1 < (y323.length : Int) then (tailwaterlaw04_NodesOther.j1 kj4 l0 (y323.set (a1 : Int).toNat (⟨(((rd_T36 y323 a1).f0) + a3) % 256, (rd_T36 y323 a1).f1, (rd_T36 y323 a1).f2, (rd_T36 y323 a1).f3, (rd_T36 y323 a1).f4⟩ : S36)) bt327.1) else (none)) else (if a2 = 1 then (if a1 < (y323.length : Int) then ((some (y323.set (a1 : Int).toNat (⟨(rd_T36 y323 a1).f0, (rd_T36 y323 a1).f1, wrap64 (((rd_T36 y323 a1).f2) + a3), (rd_T36 y323 a1).f3, (rd_T36 y323 a1).f4⟩ : S36) : List (S36))).bind fun y332 => ((nodes_Check.f kj4 y332).bind fun t333 => (if t333 = 8 then (tailwaterlaw04_NodesOther.j1 kj4 l0 y332 bt327.1) else (some false)))) else (none)) else (if a2 = 2 then (if a1 < (y323.length : Int) then ((some (y323.set (a1 : Int).toNat (⟨(rd_T36 y323 a1).f0, (rd_T36 y323 a1).f1, (rd_T36 y323 a1).f2, wrap64 (((rd_T36 y323 a1).f3) + a3), (rd_T36 y323 a1).f4⟩ : S36) : List (S36))).bind fun y335 => ((nodes_Check.f kj4 y335).bind fun t336 => (if t336 = 8 then (tailwaterlaw04_NodesOther.j1 kj4 l0 y335 bt327.1) else (some false)))) else (none)) else (if a1 < (y323.length : Int) then ((some (y323.set (a1 : Int).toNat (⟨(rd_T36 y323 a1).f0, wrap64 (((rd_T36 y323 a1).f1) + a3), (rd_T36 y323 a1).f2, (rd_T36 y323 a1).f3, (rd_T36 y323 a1).f4⟩ : S36) : List (S36))).bind fun y338 => (if ((rd_T36 l0 a1).f0) = 1 then (tailwaterlaw04_NodesOther.j1 kj4 l0 y338 bt327.1) else ((nodes_Check.f kj4 y338).bind fun t340 => (if t340 = 8 then (tailwaterlaw04_NodesOther.j1 kj4 l0 y338 bt327.1) else (some false))))) else (none))))) else (some false))) else (none)) else (none))) else (none)) = some true := by first | (rw [hy320]; with_reducible exact H) | (have H2_ := (Option.bind_some _ _).symm.trans H; rw [hy320]; with_reducible exact H2_) | (have H2_ := (Option.bind_some _ _).symm.trans H; with_reducible exact H2_) | with_reducible exact H | (rw [hy320]; exact H) | exact H
        have Ny320 := Aside0.mk hy320
        clear hy320
        by_cases c23 : y320.length + l0.length < 3518437208883
        · rw [if_pos c23] at H
          have LMc23 := Aside0.mk c23
          clear c23
          obtain ⟨y323, hy323⟩ : ∃ y_ : List (S36), y_ = (y320 ++ l0) := ⟨_, rfl⟩
          replace H : (if 0 ≤ a1 then (if a1 < (l0.length : Int) then ((nodes_Parts.f kj4 ((rd_T36 l0 a1).f0)).bind fun bt327 => (if bt327.2 = 0 then (if a2 = 0 then (if a1 < (y323.length : Int) then (tailwaterlaw04_NodesOther.j1 kj4 l0 (y323.set (a1 : Int).toNat (⟨(((rd_T36 y323 a1).f0) + a3) % 256, (rd_T36 y323 a1).f1, (rd_T36 y323 a1).f2, (rd_T36 y323 a1).f3, (rd_T36 y323 a1).f4⟩ : S36)) bt327.1) else (none)) else (if a2 = 1 then (if a1 < (y323.length : Int) then ((some (y323.set (a1 : Int).toNat (⟨(rd_T36 y323 a1).f0, (rd_T36 y323 a1).f1, wrap64 (((rd_T36 y323 a1).f2) + a3), (rd_T36 y323 a1).f3, (rd_T36 y323 a1).f4⟩ : S36) : List (S36))).bind fun y332 => ((nodes_Check.f kj4 y332).bind fun t333 => (if t333 = 8 then (tailwaterlaw04_NodesOther.j1 kj4 l0 y332 bt327.1) else (some false)))) else (none)) else (if a2 = 2 then (if a1 < (y323.length : Int) then ((some (y323.set (a1 : Int).toNat (⟨(rd_T36 y323 a1).f0, (rd_T36 y323 a1).f1, (rd_T36 y323 a1).f2, wrap64 (((rd_T36 y323 a1).f3) + a3), (rd_T36 y323 a1).f4⟩ : S36) : List (S36))).bind fun y335 => ((nodes_Check.f kj4 y335).bind fun t336 => (if t336 = 8 then (tailwaterlaw04_NodesOther.j1 kj4 l0 y335 bt327.1) else (some false)))) else (none)) else (if a1 < (y323.length : Int) then ((some (y323.set (a1 : Int).toNat (⟨(rd_T36 y323 a1).f0, wrap64 (((rd_T36 y323 a1).f1) + a3), (rd_T36 y323 a1).f2, (rd_T36 y323 a1).f3, (rd_T36 y323 a1).f4⟩ : S36) : List (S36))).bind fun y338 => (if ((rd_T36 l0 a1).f0) = 1 then (tailwaterlaw04_NodesOther.j1 kj4 l0 y338 bt327.1) else ((nodes_Check.f kj4 y338).bind fun t340 => (if t340 = 8 then (tailwaterlaw04_NodesOther.j1 kj4 l0 y338 bt327.1) else (some false))))) else (none))))) else (some false))) else (none)) else (none)) = some true := by first | (rw [hy323]; with_reducible exact H) | (have H2_ := (Option.bind_some _ _).symm.trans H; rw [hy323]; with_reducible exact H2_) | (have H2_ := (Option.bind_some _ _).symm.trans H; with_reducible exact H2_) | with_reducible exact H | (rw [hy323]; exact H) | exact H
          have Ny323 := Aside0.mk hy323
          clear hy323
          by_cases c24 : 0 ≤ a1
          · rw [if_pos c24] at H
            have c24b0 : decide (0 ≤ a1) = true := decide_eq_true c24
            clear c24
            by_cases c25 : a1 < (l0.length : Int)
            · rw [if_pos c25] at H
              have c25b0 : decide (a1 < (l0.length : Int)) = true := decide_eq_true c25
              clear c25
              replace H := Option.bind_eq_some_iff.mp H
              obtain ⟨⟨t327, t328⟩, A260, H⟩ := H
              replace H : (if t328 = 0 then (if a2 = 0 then (if a1 < (y323.length : Int) then (tailwaterlaw04_NodesOther.j1 kj4 l0 (y323.set (a1 : Int).toNat (⟨(((rd_T36 y323 a1).f0) + a3) % 256, (rd_T36 y323 a1).f1, (rd_T36 y323 a1).f2, (rd_T36 y323 a1).f3, (rd_T36 y323 a1).f4⟩ : S36)) t327) else (none)) else (if a2 = 1 then (if a1 < (y323.length : Int) then ((some (y323.set (a1 : Int).toNat (⟨(rd_T36 y323 a1).f0, (rd_T36 y323 a1).f1, wrap64 (((rd_T36 y323 a1).f2) + a3), (rd_T36 y323 a1).f3, (rd_T36 y323 a1).f4⟩ : S36) : List (S36))).bind fun y332 => ((nodes_Check.f kj4 y332).bind fun t333 => (if t333 = 8 then (tailwaterlaw04_NodesOther.j1 kj4 l0 y332 t327) else (some false)))) else (none)) else (if a2 = 2 then (if a1 < (y323.length : Int) then ((some (y323.set (a1 : Int).toNat (⟨(rd_T36 y323 a1).f0, (rd_T36 y323 a1).f1, (rd_T36 y323 a1).f2, wrap64 (((rd_T36 y323 a1).f3) + a3), (rd_T36 y323 a1).f4⟩ : S36) : List (S36))).bind fun y335 => ((nodes_Check.f kj4 y335).bind fun t336 => (if t336 = 8 then (tailwaterlaw04_NodesOther.j1 kj4 l0 y335 t327) else (some false)))) else (none)) else (if a1 < (y323.length : Int) then ((some (y323.set (a1 : Int).toNat (⟨(rd_T36 y323 a1).f0, wrap64 (((rd_T36 y323 a1).f1) + a3), (rd_T36 y323 a1).f2, (rd_T36 y323 a1).f3, (rd_T36 y323 a1).f4⟩ : S36) : List (S36))).bind fun y338 => (if ((rd_T36 l0 a1).f0) = 1 then (tailwaterlaw04_NodesOther.j1 kj4 l0 y338 t327) else ((nodes_Check.f kj4 y338).bind fun t340 => (if t340 = 8 then (tailwaterlaw04_NodesOther.j1 kj4 l0 y338 t327) else (some false))))) else (none))))) else (some false)) = some true := H
              have A26 := Aside0.mk A260
              clear A260
              by_cases c27 : t328 = 0
              · rw [if_pos c27] at H
                have c27b0 : (t328 == 0) = true := beq_iff_eq.mpr c27
                have c27b1 : (t328 != 0) = false := bne_eq_false_iff_eq.mpr c27
                clear c27
                have HC28 := Aside0.mk H
                clear H
                go_upto_block 0 with (first | ((with_reducible refine gate_dst (N := 44) rfl ?_); (try (refine gate_guard (by rfl) ?_; dsimp only)); refine Kd.R_lit k36 _ 36 ?hg (N := 44) ?hd (xs := ([] : List (S36))) (inner := []) (ok := fun _ => True) (okp := fun _ => True) ?hr ?hp (fun _ hk => hk) trivial (Below.refl _ _) (Nat.le_refl _) (by simp) ?_; (case hd => rfl); (case hg => rfl); (case hr => first | (go_simp; done) | (go_simp; rfl)); (case hp => exact (Reps.none _ _)); intro v321 w29 ho30 hb hg_ hnew_; clear hg_ hnew_; (first | rw [← Ny320.out] at ho30 | (simp only [Int.reduceToNat] at ho30; rw [← Ny320.out] at ho30)); have n0_ := Aside0.mk (Kd.R_lower ho30 (below_size (by repeat (first | (with_reducible first | exact HB.out | apply below_alloc | apply pw_below_drewN | apply below_drew1) | exact HB.out)))); have n1_ := Aside0.mk (below_step (by repeat (first | (with_reducible first | exact HB.out | apply below_alloc | apply pw_below_drewN | apply below_drew1) | exact HB.out)) hb); clear HB; have HO322 := n0_; have HB := n1_; clear n0_ n1_; clear hb ho30) | ((with_reducible refine gate_builtin (b := .append) (xs := #[.tmp 44, .tmp 45]) rfl ?_); (try (refine gate_guard (by rfl) ?_; dsimp only)); at_builtin; refine Kd.R_append_rows k36 (w0 := w) w.heap.size rfl (.tmp 44) (.tmp 45) 22 36 (.agg #[(.int .u8 0), (.int .i64 0), (.int .i64 0), (.int .i64 0), (.int .i64 0)]) 40 rfl Try.underlying22 info36 rfl (by decide) (by omega) v321 y320 l0 _ _ _ (fun _ => True) (fun _ => False) rfl rfl ?aO ?aR (fun _ _ h => h) (fun _ h => h.elim) ?aF ?aB ?aS ?aL ?_; (case aR => repeat (first | exact (Kd.C_below HR0.out HB.out) | (with_reducible refine Kd.C_alloc ?_ _) | (with_reducible refine Kd.C_drewN ?_ _) | (with_reducible refine Kd.C_drew ?_))); (case aB => exact (by repeat (first | (with_reducible first | exact HB.out | apply below_alloc | apply pw_below_drewN | apply below_drew1) | exact HB.out))); (case aF => exact (fun _ _ => trivial)); (case aO => exact (by (with_reducible repeat (first | apply Kd.R_alloc | apply Kd.R_drewN | apply Kd.R_drew)); exact HO322.out)); (case aS => exact (below_size (by repeat (first | (with_reducible first | exact HB.out | apply below_alloc | apply pw_below_drewN | apply below_drew1) | exact HB.out)))); (case aL => have := LMc23.out; omega); intro v324 w31 ho hb hg hat; rw [← Ny323.out] at ho; have n0_ := Aside0.mk (hb); have n1_ := Aside0.mk (ho); clear HB; clear HO322; have HB := n0_; have HO325 := n1_; clear n0_ n1_; clear ho hb hg hat; have p326 : 0 ≤ (a1 : Int) := of_decide_eq_true (by first | (with_reducible assumption) | assumption); have q326 : a1 < (l0.length : Int) := of_decide_eq_true (by first | (with_reducible assumption) | assumption); obtain ⟨ad326, e326, hx326_0, hx326_1, hx326_2, hx326_3, hx326_4⟩ := at_T36 HR0.out a1 p326 q326; cases e326; replace hx326_0 := (HB.out.cell (World.block_lt_of_cell? w _ hx326_0)).trans hx326_0; replace hx326_1 := (HB.out.cell (World.block_lt_of_cell? w _ hx326_1)).trans hx326_1; replace hx326_2 := (HB.out.cell (World.block_lt_of_cell? w _ hx326_2)).trans hx326_2; replace hx326_3 := (HB.out.cell (World.block_lt_of_cell? w _ hx326_3)).trans hx326_3; replace hx326_4 := (HB.out.cell (World.block_lt_of_cell? w _ hx326_4)).trans hx326_4; replace p326 := eq_true p326; replace q326 := eq_true q326) | ((with_reducible refine gate_callee (f := 37) rfl ?_); refine goesL_ (some 53) rfl rfl Try.func37 (by kernel_rfl) rfl #[.int .u8 ((rd_T36 l0 a1).f0)] rfl (by (try simp only [List.map_toArray, List.map_cons, List.map_nil]); first | done | rfl | (simp only [List.length_drop, List.length_take]; rfl)) ?_; (with_reducible refine (nodes_Parts.calls kj4 ((rd_T36 l0 a1).f0) t327 t328 _ A26.out).mono ?_); rintro e w' ⟨rfl, ⟨nd, rfl⟩⟩; refine ⟨_, rfl, ?_⟩; (try (rw [drewN_self w31]; generalize hq_ : World.drewN w31 _ = w31; have n0_ : Aside0 (Kd.R k36 36 w31 w.heap.size (fun _ => True) v324 y323) := ⟨by rw [← hq_]; exact (by (with_reducible repeat (first | apply Kd.R_alloc | apply Kd.R_drewN | apply Kd.R_drew)); exact HO325.out)⟩; have n1_ : Aside0 (Below w.heap.size w w31) := ⟨by rw [← hq_]; exact (by repeat (first | (with_reducible first | exact HB.out | apply below_alloc | apply pw_below_drewN | apply below_drew1) | exact HB.out))⟩; clear HO325 HB hq_; have HO325 := n0_; have HB := n1_; clear n0_ n1_))))
                (try simp only [Act.put, List.setIfInBounds_toArray, List.set_cons_zero, List.set_cons_succ])
                go_cut [] (fun wc => ∃ (kq : Nat) (x9_27 : List (S36)), Aside0 (tailwaterlaw04_NodesOther.j1 kq l0 x9_27 t327 = some true) ∧ Aside0 (kq ≤ kj4) ∧ Aside0 (Kd.R k36 36 wc w.heap.size (fun _ => True) v324 x9_27) ∧ Aside0 (Below w.heap.size w wc))
                case first =>
                  have H := HC28.out
                  clear HC28
                  by_cases c32 : a2 = 0
                  · rw [if_pos c32] at H
                    have c32b0 : (a2 == 0) = true := beq_iff_eq.mpr c32
                    have c32b1 : (a2 != 0) = false := bne_eq_false_iff_eq.mpr c32
                    clear c32
                    (first | rw [c32b0] | (simp only [i64_w, i32_w]; rw [c32b0]) | skip)
                    by_cases c33 : a1 < (y323.length : Int)
                    · rw [if_pos c33] at H
                      have c33b0 : decide (a1 < (y323.length : Int)) = true := decide_eq_true c33
                      clear c33
                      obtain ⟨y330, hy330⟩ : ∃ y_ : List (S36), y_ = (y323.set (a1 : Int).toNat (⟨(((rd_T36 y323 a1).f0) + a3) % 256, (rd_T36 y323 a1).f1, (rd_T36 y323 a1).f2, (rd_T36 y323 a1).f3, (rd_T36 y323 a1).f4⟩ : S36)) := ⟨_, rfl⟩
                      replace H : (tailwaterlaw04_NodesOther.j1 kj4 l0 y330 t327) = some true := by first | (rw [hy330]; with_reducible exact H) | (have H2_ := (Option.bind_some _ _).symm.trans H; rw [hy330]; with_reducible exact H2_) | (have H2_ := (Option.bind_some _ _).symm.trans H; with_reducible exact H2_) | with_reducible exact H | (rw [hy330]; exact H) | exact H
                      have Ny330 := Aside0.mk hy330
                      clear hy330
                      have H' := Aside0.mk H
                      clear H
                      obtain ⟨Ao35, co35, eo35⟩ := Kd.R_slice HO325.out
                      subst eo35
                      have p329 : 0 ≤ (a1 : Int) := of_decide_eq_true (by first | (with_reducible assumption) | assumption)
                      have q329 : a1 < (y323.length : Int) := of_decide_eq_true (by first | (with_reducible assumption) | assumption)
                      obtain ⟨ad329, e329, hx329_0, hx329_1, hx329_2, hx329_3, hx329_4⟩ := at_T36 (Kd.R_reads' HO325.out).2.2 a1 p329 q329
                      cases e329
                      replace p329 := eq_true p329
                      replace q329 := eq_true q329
                      have p34 : 0 ≤ (a1 : Int) := of_decide_eq_true (by first | (with_reducible assumption) | assumption)
                      have q34 : (a1 : Int) < ((y323.length : Int) : Int) := of_decide_eq_true (by first | (with_reducible assumption) | assumption)
                      obtain ⟨go34, co34, eo34, gb34, gl34, cl34, HG34⟩ := Kd.R_form HO325.out (by omega)
                      (first | cases eo34 | (injection eo34 with ea_ en_ ec_; (first | subst ea_ | (injection ea_ with ea_; subst ea_)); subst ec_; clear en_))
                      have GB34 := Aside0.mk gb34
                      have GG34 := Aside0.mk HG34
                      clear gb34 gl34 HG34
                      (first | simp only [add_plain] at hx329_0 | skip)
                      (first | simp only [add_plain] at hx329_1 | skip)
                      (first | simp only [add_plain] at hx329_2 | skip)
                      (first | simp only [add_plain] at hx329_3 | skip)
                      (first | simp only [add_plain] at hx329_4 | skip)
                      obtain ⟨ce34, hcl34, hM34, hcc34, hfr34⟩ := Kd.R_elem HO325.out z36 (a1 : Int) p34 q34
                      obtain rfl := k36_openM hM34
                      have hx34_0 : w31.cell? ⟨go34, (a1 : Int).toNat * 5, none⟩ = some (.int .u8 ((rd_T36 y323 a1).f0)) := hcc34 0 _ rfl
                      have hx34_1 : w31.cell? ⟨go34, (a1 : Int).toNat * 5 + 1, none⟩ = some (.int .i64 ((rd_T36 y323 a1).f1)) := hcc34 1 _ rfl
                      have hx34_2 : w31.cell? ⟨go34, (a1 : Int).toNat * 5 + 2, none⟩ = some (.int .i64 ((rd_T36 y323 a1).f2)) := hcc34 2 _ rfl
                      have hx34_3 : w31.cell? ⟨go34, (a1 : Int).toNat * 5 + 3, none⟩ = some (.int .i64 ((rd_T36 y323 a1).f3)) := hcc34 3 _ rfl
                      have hx34_4 : w31.cell? ⟨go34, (a1 : Int).toNat * 5 + 4, none⟩ = some (.int .i64 ((rd_T36 y323 a1).f4)) := hcc34 4 _ rfl
                      have hf34_0 : w31.frozen? ⟨go34, (a1 : Int).toNat * 5, none⟩ = false := hfr34 0
                      have hf34_1 : w31.frozen? ⟨go34, (a1 : Int).toNat * 5 + 1, none⟩ = false := hfr34 1
                      have hf34_2 : w31.frozen? ⟨go34, (a1 : Int).toNat * 5 + 2, none⟩ = false := hfr34 2
                      have hf34_3 : w31.frozen? ⟨go34, (a1 : Int).toNat * 5 + 3, none⟩ = false := hfr34 3
                      have hf34_4 : w31.frozen? ⟨go34, (a1 : Int).toNat * 5 + 4, none⟩ = false := hfr34 4
                      clear hcl34 hcc34 hfr34 hM34
                      replace p34 := eq_true p34
                      replace q34 := eq_true q34
                      have HX36 := Aside0.mk (show Kd.R k36 36 w31 w.heap.size (fun _ => True) (.slice (some ⟨go34, 0, none⟩) y323.length co35) y323 from (by (with_reducible repeat (first | apply Kd.R_alloc | apply Kd.R_drewN | apply Kd.R_drew)); exact HO325.out))
                      obtain ⟨ce36, hcl36, hM36, hcc36, hfr36⟩ := Kd.R_elem HX36.out z36 (a1 : Int) (of_decide_eq_true (by first | (with_reducible assumption) | assumption)) (by have h_ : (a1 : Int) < ((y323.length : Int) : Int) := of_decide_eq_true (by first | (with_reducible assumption) | assumption); first | exact h_ | (have e_ := (Kd.R_reads' HO325.out).1; omega) | simpa using h_)
                      obtain rfl := k36_openM hM36
                      have HP36 := Kd.R_seg HX36.out (a1 : Int) (of_decide_eq_true (by first | (with_reducible assumption) | assumption)) (by have h_ : (a1 : Int) < ((y323.length : Int) : Int) := of_decide_eq_true (by first | (with_reducible assumption) | assumption); first | exact h_ | (have e_ := (Kd.R_reads' HO325.out).1; omega) | simpa using h_) (seg := [.int .u8 ((((rd_T36 y323 a1).f0) + a3) % 256)]) (j := 0) hcl36 hcc36 (show 1 ≤ 5 from by decide) (x' := (⟨(((rd_T36 y323 a1).f0) + a3) % 256, (rd_T36 y323 a1).f1, (rd_T36 y323 a1).f2, (rd_T36 y323 a1).f3, (rd_T36 y323 a1).f4⟩ : S36)) (k36_mkM _ _ _ (⟨(((rd_T36 y323 a1).f0) + a3) % 256, (rd_T36 y323 a1).f1, (rd_T36 y323 a1).f2, (rd_T36 y323 a1).f3, (rd_T36 y323 a1).f4⟩ : S36) ) (fun _ hk => hk)
                      have hx36_0 := hcc36 0 _ rfl
                      (try simp only [show (k36).sz = 5 from rfl, Nat.mul_one, Nat.add_zero] at hx36_0)
                      have hf36_0 := hfr36 0
                      (try simp only [show (k36).sz = 5 from rfl, Nat.mul_one, Nat.add_zero] at hf36_0)
                      clear hcl36 hcc36 hfr36 hM36
                      go_wp2_with (first | ((with_reducible refine gate_store (t := 5) (p := 90) rfl ?_); refine store_event (t := 5) (p := 90) (v := ?vo_w37) (w1 := (w31.setCell ⟨go34, (a1 : Int).toNat * 5, none⟩ (.int .u8 ((((rd_T36 y323 a1).f0) + a3) % 256)))) ?hg ?ho ?hn ?hr ?_; (case ho => rfl); (case hg => rfl); (case hn => rfl); (case hr => first | (go_simp; done) | (go_simp; rfl)); intro w37 hw; have hg : w31.grownBy w37 (some go34) := (by rw [hw]; exact HP36.2); have hp_ : Kd.R k36 36 w37 w.heap.size (fun _ => True) (.slice (some ⟨go34, 0, none⟩) y323.length co35) y330 := (by rw [hw, Ny330.out]; exact HP36.1); clear HP36; have n0_ := Aside0.mk (hp_); have n1_ := Aside0.mk ((by rw [hw]; exact below_set (HB.out) GB34.out : Below w.heap.size w w37)); clear HO325; clear HB; have HO325 := n0_; have HB := n1_; clear n0_ n1_; clear hg hw hp_))
                      go_meet
                      case rel => exact ⟨_, (y330), H', ⟨by have := HJ4.out; first | omega | exact Nat.le_refl _⟩, ⟨by (with_reducible repeat (first | apply Kd.R_alloc | apply Kd.R_drewN | apply Kd.R_drew)); exact HO325.out⟩, ⟨by repeat (first | (with_reducible first | exact HB.out | apply below_alloc | apply pw_below_drewN | apply below_drew1) | exact HB.out)⟩⟩
                    · rw [if_neg c33] at H
                      exact absurd H (by simp)
                  · rw [if_neg c32] at H
                    have c32b0 : (a2 == 0) = false := beq_eq_false_iff_ne.mpr c32
                    have c32b1 : (a2 != 0) = true := bne_iff_ne.mpr c32
                    (first | rw [c32b0] | (simp only [i64_w, i32_w]; rw [c32b0]) | skip)
                    by_cases c38 : a2 = 1
                    · rw [if_pos c38] at H
                      have c38b0 : (a2 == 1) = true := beq_iff_eq.mpr c38
                      have c38b1 : (a2 != 1) = false := bne_eq_false_iff_eq.mpr c38
                      clear c38
                      by_cases c39 : a1 < (y323.length : Int)
                      · rw [if_pos c39] at H
                        have c39b0 : decide (a1 < (y323.length : Int)) = true := decide_eq_true c39
                        clear c39
                        obtain ⟨y332, hy332⟩ : ∃ y_ : List (S36), y_ = (y323.set (a1 : Int).toNat (⟨(rd_T36 y323 a1).f0, (rd_T36 y323 a1).f1, wrap64 (((rd_T36 y323 a1).f2) + a3), (rd_T36 y323 a1).f3, (rd_T36 y323 a1).f4⟩ : S36)) := ⟨_, rfl⟩
                        replace H : ((nodes_Check.f kj4 y332).bind fun t333 => (if t333 = 8 then (tailwaterlaw04_NodesOther.j1 kj4 l0 y332 t327) else (some false))) = some true := by first | (rw [hy332]; with_reducible exact H) | (have H2_ := (Option.bind_some _ _).symm.trans H; rw [hy332]; with_reducible exact H2_) | (have H2_ := (Option.bind_some _ _).symm.trans H; with_reducible exact H2_) | with_reducible exact H | (rw [hy332]; exact H) | exact H
                        have Ny332 := Aside0.mk hy332
                        clear hy332
                        replace H := Option.bind_eq_some_iff.mp H
                        obtain ⟨t333, A410, H⟩ := H
                        replace H : (if t333 = 8 then (tailwaterlaw04_NodesOther.j1 kj4 l0 y332 t327) else (some false)) = some true := H
                        have A41 := Aside0.mk A410
                        clear A410
                        by_cases c42 : t333 = 8
                        · rw [if_pos c42] at H
                          have c42b0 : (t333 == 8) = true := beq_iff_eq.mpr c42
                          have c42b1 : (t333 != 8) = false := bne_eq_false_iff_eq.mpr c42
                          clear c42
                          have H' := Aside0.mk H
                          clear H
                          obtain ⟨Ao43, co43, eo43⟩ := Kd.R_slice HO325.out
                          subst eo43
                          have p331 : 0 ≤ (a1 : Int) := of_decide_eq_true (by first | (with_reducible assumption) | assumption)
                          have q331 : a1 < (y323.length : Int) := of_decide_eq_true (by first | (with_reducible assumption) | assumption)
                          obtain ⟨ad331, e331, hx331_0, hx331_1, hx331_2, hx331_3, hx331_4⟩ := at_T36 (Kd.R_reads' HO325.out).2.2 a1 p331 q331
                          cases e331
                          replace p331 := eq_true p331
                          replace q331 := eq_true q331
                          have p40 : 0 ≤ (a1 : Int) := of_decide_eq_true (by first | (with_reducible assumption) | assumption)
                          have q40 : (a1 : Int) < ((y323.length : Int) : Int) := of_decide_eq_true (by first | (with_reducible assumption) | assumption)
                          obtain ⟨go40, co40, eo40, gb40, gl40, cl40, HG40⟩ := Kd.R_form HO325.out (by omega)
                          (first | cases eo40 | (injection eo40 with ea_ en_ ec_; (first | subst ea_ | (injection ea_ with ea_; subst ea_)); subst ec_; clear en_))
                          have GB40 := Aside0.mk gb40
                          have GG40 := Aside0.mk HG40
                          clear gb40 gl40 HG40
                          (first | simp only [add_plain] at hx331_0 | skip)
                          (first | simp only [add_plain] at hx331_1 | skip)
                          (first | simp only [add_plain] at hx331_2 | skip)
                          (first | simp only [add_plain] at hx331_3 | skip)
                          (first | simp only [add_plain] at hx331_4 | skip)
                          obtain ⟨ce40, hcl40, hM40, hcc40, hfr40⟩ := Kd.R_elem HO325.out z36 (a1 : Int) p40 q40
                          obtain rfl := k36_openM hM40
                          have hx40_0 : w31.cell? ⟨go40, (a1 : Int).toNat * 5, none⟩ = some (.int .u8 ((rd_T36 y323 a1).f0)) := hcc40 0 _ rfl
                          have hx40_1 : w31.cell? ⟨go40, (a1 : Int).toNat * 5 + 1, none⟩ = some (.int .i64 ((rd_T36 y323 a1).f1)) := hcc40 1 _ rfl
                          have hx40_2 : w31.cell? ⟨go40, (a1 : Int).toNat * 5 + 2, none⟩ = some (.int .i64 ((rd_T36 y323 a1).f2)) := hcc40 2 _ rfl
                          have hx40_3 : w31.cell? ⟨go40, (a1 : Int).toNat * 5 + 3, none⟩ = some (.int .i64 ((rd_T36 y323 a1).f3)) := hcc40 3 _ rfl
                          have hx40_4 : w31.cell? ⟨go40, (a1 : Int).toNat * 5 + 4, none⟩ = some (.int .i64 ((rd_T36 y323 a1).f4)) := hcc40 4 _ rfl
                          have hf40_0 : w31.frozen? ⟨go40, (a1 : Int).toNat * 5, none⟩ = false := hfr40 0
                          have hf40_1 : w31.frozen? ⟨go40, (a1 : Int).toNat * 5 + 1, none⟩ = false := hfr40 1
                          have hf40_2 : w31.frozen? ⟨go40, (a1 : Int).toNat * 5 + 2, none⟩ = false := hfr40 2
                          have hf40_3 : w31.frozen? ⟨go40, (a1 : Int).toNat * 5 + 3, none⟩ = false := hfr40 3
                          have hf40_4 : w31.frozen? ⟨go40, (a1 : Int).toNat * 5 + 4, none⟩ = false := hfr40 4
                          clear hcl40 hcc40 hfr40 hM40
                          replace p40 := eq_true p40
                          replace q40 := eq_true q40
                          have HX44 := Aside0.mk (show Kd.R k36 36 w31 w.heap.size (fun _ => True) (.slice (some ⟨go40, 0, none⟩) y323.length co43) y323 from (by (with_reducible repeat (first | apply Kd.R_alloc | apply Kd.R_drewN | apply Kd.R_drew)); exact HO325.out))
                          obtain ⟨ce44, hcl44, hM44, hcc44, hfr44⟩ := Kd.R_elem HX44.out z36 (a1 : Int) (of_decide_eq_true (by first | (with_reducible assumption) | assumption)) (by have h_ : (a1 : Int) < ((y323.length : Int) : Int) := of_decide_eq_true (by first | (with_reducible assumption) | assumption); first | exact h_ | (have e_ := (Kd.R_reads' HO325.out).1; omega) | simpa using h_)
                          obtain rfl := k36_openM hM44
                          have HP44 := Kd.R_seg HX44.out (a1 : Int) (of_decide_eq_true (by first | (with_reducible assumption) | assumption)) (by have h_ : (a1 : Int) < ((y323.length : Int) : Int) := of_decide_eq_true (by first | (with_reducible assumption) | assumption); first | exact h_ | (have e_ := (Kd.R_reads' HO325.out).1; omega) | simpa using h_) (seg := [.int .i64 (wrap64 (((rd_T36 y323 a1).f2) + a3))]) (j := 2) hcl44 hcc44 (show 3 ≤ 5 from by decide) (x' := (⟨(rd_T36 y323 a1).f0, (rd_T36 y323 a1).f1, wrap64 (((rd_T36 y323 a1).f2) + a3), (rd_T36 y323 a1).f3, (rd_T36 y323 a1).f4⟩ : S36)) (k36_mkM _ _ _ (⟨(rd_T36 y323 a1).f0, (rd_T36 y323 a1).f1, wrap64 (((rd_T36 y323 a1).f2) + a3), (rd_T36 y323 a1).f3, (rd_T36 y323 a1).f4⟩ : S36) ) (fun _ hk => hk)
                          have hx44_2 := hcc44 2 _ rfl
                          (try simp only [show (k36).sz = 5 from rfl, Nat.mul_one, Nat.add_zero] at hx44_2)
                          have hf44_2 := hfr44 2
                          (try simp only [show (k36).sz = 5 from rfl, Nat.mul_one, Nat.add_zero] at hf44_2)
                          clear hcl44 hcc44 hfr44 hM44
                          go_wp2_with (first | ((with_reducible refine gate_store (t := 3) (p := 101) rfl ?_); refine store_event (t := 3) (p := 101) (v := ?vo_w45) (w1 := (w31.setCell ⟨go40, (a1 : Int).toNat * 5 + 2, none⟩ (.int .i64 (wrap64 (((rd_T36 y323 a1).f2) + a3))))) ?hg ?ho ?hn ?hr ?_; (case ho => rfl); (case hg => rfl); (case hn => rfl); (case hr => first | (go_simp; done) | (go_simp; rfl)); intro w45 hw; have hg : w31.grownBy w45 (some go40) := (by rw [hw]; exact HP44.2); have hp_ : Kd.R k36 36 w45 w.heap.size (fun _ => True) (.slice (some ⟨go40, 0, none⟩) y323.length co43) y332 := (by rw [hw, Ny332.out]; exact HP44.1); clear HP44; have n0_ := Aside0.mk (hp_); have n1_ := Aside0.mk ((by rw [hw]; exact below_set (HB.out) GB40.out : Below w.heap.size w w45)); clear HO325; clear HB; have HO325 := n0_; have HB := n1_; clear n0_ n1_; clear hg hw hp_) | ((with_reducible refine gate_callee (f := 45) rfl ?_); refine goesL_ (some 103) rfl rfl Try.func45 (by kernel_rfl) rfl #[.slice (some ⟨go40, 0, none⟩) y332.length co43] rfl (by (try simp only [List.map_toArray, List.map_cons, List.map_nil]); first | done | (rw [show y332.length = y323.length from (Kd.R_reads' HO325.out).1.symm] <;> rfl) | rfl | (simp only [List.length_drop, List.length_take]; rfl)) ?_; (with_reducible refine (nodes_Check.calls kj4 _ _ y332 t333 _ ?side1 ?side2 A41.out).mono ?_); (case side1 => repeat (first | exact (Kd.R_reads' HO325.out).2.2 | (with_reducible refine Kd.C_alloc ?_ _) | (with_reducible refine Kd.C_drewN ?_ _) | (with_reducible refine Kd.C_drew ?_))); (case side2 => rw [show y332.length = y323.length from (Kd.R_reads' HO325.out).1.symm]; exact (Kd.R_reads' HO325.out).2.1); rintro e w46 ⟨rfl, hb⟩; refine ⟨_, rfl, ?_⟩; have n0_ := Aside0.mk (Kd.R_below (by (with_reducible repeat (first | apply Kd.R_alloc | apply Kd.R_drewN | apply Kd.R_drew)); exact HO325.out) hb); have n1_ := Aside0.mk (below_step (by repeat (first | (with_reducible first | exact HB.out | apply below_alloc | apply pw_below_drewN | apply below_drew1) | exact HB.out)) hb); clear HO325; clear HB; have HO325 := n0_; have HB := n1_; clear n0_ n1_; (try clear hb); (try clear hb2); (try clear hk); (try clear hi)))
                          go_meet
                          case rel => exact ⟨_, (y332), H', ⟨by have := HJ4.out; first | omega | exact Nat.le_refl _⟩, ⟨by (with_reducible repeat (first | apply Kd.R_alloc | apply Kd.R_drewN | apply Kd.R_drew)); exact HO325.out⟩, ⟨by repeat (first | (with_reducible first | exact HB.out | apply below_alloc | apply pw_below_drewN | apply below_drew1) | exact HB.out)⟩⟩
                        · rw [if_neg c42] at H
                          have c42b0 : (t333 == 8) = false := beq_eq_false_iff_ne.mpr c42
                          have c42b1 : (t333 != 8) = true := bne_iff_ne.mpr c42
                          exact absurd H (by simp)
                      · rw [if_neg c39] at H
                        exact absurd H (by simp)
                    · rw [if_neg c38] at H
                      have c38b0 : (a2 == 1) = false := beq_eq_false_iff_ne.mpr c38
                      have c38b1 : (a2 != 1) = true := bne_iff_ne.mpr c38
                      by_cases c47 : a2 = 2
                      · rw [if_pos c47] at H
                        have c47b0 : (a2 == 2) = true := beq_iff_eq.mpr c47
                        have c47b1 : (a2 != 2) = false := bne_eq_false_iff_eq.mpr c47
                        clear c47
                        by_cases c48 : a1 < (y323.length : Int)
                        · rw [if_pos c48] at H
                          have c48b0 : decide (a1 < (y323.length : Int)) = true := decide_eq_true c48
                          clear c48
                          obtain ⟨y335, hy335⟩ : ∃ y_ : List (S36), y_ = (y323.set (a1 : Int).toNat (⟨(rd_T36 y323 a1).f0, (rd_T36 y323 a1).f1, (rd_T36 y323 a1).f2, wrap64 (((rd_T36 y323 a1).f3) + a3), (rd_T36 y323 a1).f4⟩ : S36)) := ⟨_, rfl⟩
                          replace H : ((nodes_Check.f kj4 y335).bind fun t336 => (if t336 = 8 then (tailwaterlaw04_NodesOther.j1 kj4 l0 y335 t327) else (some false))) = some true := by first | (rw [hy335]; with_reducible exact H) | (have H2_ := (Option.bind_some _ _).symm.trans H; rw [hy335]; with_reducible exact H2_) | (have H2_ := (Option.bind_some _ _).symm.trans H; with_reducible exact H2_) | with_reducible exact H | (rw [hy335]; exact H) | exact H
                          have Ny335 := Aside0.mk hy335
                          clear hy335
                          replace H := Option.bind_eq_some_iff.mp H
                          obtain ⟨t336, A500, H⟩ := H
                          replace H : (if t336 = 8 then (tailwaterlaw04_NodesOther.j1 kj4 l0 y335 t327) else (some false)) = some true := H
                          have A50 := Aside0.mk A500
                          clear A500
                          by_cases c51 : t336 = 8
                          · rw [if_pos c51] at H
                            have c51b0 : (t336 == 8) = true := beq_iff_eq.mpr c51
                            have c51b1 : (t336 != 8) = false := bne_eq_false_iff_eq.mpr c51
                            clear c51
                            have H' := Aside0.mk H
                            clear H
                            obtain ⟨Ao52, co52, eo52⟩ := Kd.R_slice HO325.out
                            subst eo52
                            have p334 : 0 ≤ (a1 : Int) := of_decide_eq_true (by first | (with_reducible assumption) | assumption)
                            have q334 : a1 < (y323.length : Int) := of_decide_eq_true (by first | (with_reducible assumption) | assumption)
                            obtain ⟨ad334, e334, hx334_0, hx334_1, hx334_2, hx334_3, hx334_4⟩ := at_T36 (Kd.R_reads' HO325.out).2.2 a1 p334 q334
                            cases e334
                            replace p334 := eq_true p334
                            replace q334 := eq_true q334
                            have p49 : 0 ≤ (a1 : Int) := of_decide_eq_true (by first | (with_reducible assumption) | assumption)
                            have q49 : (a1 : Int) < ((y323.length : Int) : Int) := of_decide_eq_true (by first | (with_reducible assumption) | assumption)
                            obtain ⟨go49, co49, eo49, gb49, gl49, cl49, HG49⟩ := Kd.R_form HO325.out (by omega)
                            (first | cases eo49 | (injection eo49 with ea_ en_ ec_; (first | subst ea_ | (injection ea_ with ea_; subst ea_)); subst ec_; clear en_))
                            have GB49 := Aside0.mk gb49
                            have GG49 := Aside0.mk HG49
                            clear gb49 gl49 HG49
                            (first | simp only [add_plain] at hx334_0 | skip)
                            (first | simp only [add_plain] at hx334_1 | skip)
                            (first | simp only [add_plain] at hx334_2 | skip)
                            (first | simp only [add_plain] at hx334_3 | skip)
                            (first | simp only [add_plain] at hx334_4 | skip)
                            obtain ⟨ce49, hcl49, hM49, hcc49, hfr49⟩ := Kd.R_elem HO325.out z36 (a1 : Int) p49 q49
                            obtain rfl := k36_openM hM49
                            have hx49_0 : w31.cell? ⟨go49, (a1 : Int).toNat * 5, none⟩ = some (.int .u8 ((rd_T36 y323 a1).f0)) := hcc49 0 _ rfl
                            have hx49_1 : w31.cell? ⟨go49, (a1 : Int).toNat * 5 + 1, none⟩ = some (.int .i64 ((rd_T36 y323 a1).f1)) := hcc49 1 _ rfl
                            have hx49_2 : w31.cell? ⟨go49, (a1 : Int).toNat * 5 + 2, none⟩ = some (.int .i64 ((rd_T36 y323 a1).f2)) := hcc49 2 _ rfl
                            have hx49_3 : w31.cell? ⟨go49, (a1 : Int).toNat * 5 + 3, none⟩ = some (.int .i64 ((rd_T36 y323 a1).f3)) := hcc49 3 _ rfl
                            have hx49_4 : w31.cell? ⟨go49, (a1 : Int).toNat * 5 + 4, none⟩ = some (.int .i64 ((rd_T36 y323 a1).f4)) := hcc49 4 _ rfl
                            have hf49_0 : w31.frozen? ⟨go49, (a1 : Int).toNat * 5, none⟩ = false := hfr49 0
                            have hf49_1 : w31.frozen? ⟨go49, (a1 : Int).toNat * 5 + 1, none⟩ = false := hfr49 1
                            have hf49_2 : w31.frozen? ⟨go49, (a1 : Int).toNat * 5 + 2, none⟩ = false := hfr49 2
                            have hf49_3 : w31.frozen? ⟨go49, (a1 : Int).toNat * 5 + 3, none⟩ = false := hfr49 3
                            have hf49_4 : w31.frozen? ⟨go49, (a1 : Int).toNat * 5 + 4, none⟩ = false := hfr49 4
                            clear hcl49 hcc49 hfr49 hM49
                            replace p49 := eq_true p49
                            replace q49 := eq_true q49
                            have HX53 := Aside0.mk (show Kd.R k36 36 w31 w.heap.size (fun _ => True) (.slice (some ⟨go49, 0, none⟩) y323.length co52) y323 from (by (with_reducible repeat (first | apply Kd.R_alloc | apply Kd.R_drewN | apply Kd.R_drew)); exact HO325.out))
                            obtain ⟨ce53, hcl53, hM53, hcc53, hfr53⟩ := Kd.R_elem HX53.out z36 (a1 : Int) (of_decide_eq_true (by first | (with_reducible assumption) | assumption)) (by have h_ : (a1 : Int) < ((y323.length : Int) : Int) := of_decide_eq_true (by first | (with_reducible assumption) | assumption); first | exact h_ | (have e_ := (Kd.R_reads' HO325.out).1; omega) | simpa using h_)
                            obtain rfl := k36_openM hM53
                            have HP53 := Kd.R_seg HX53.out (a1 : Int) (of_decide_eq_true (by first | (with_reducible assumption) | assumption)) (by have h_ : (a1 : Int) < ((y323.length : Int) : Int) := of_decide_eq_true (by first | (with_reducible assumption) | assumption); first | exact h_ | (have e_ := (Kd.R_reads' HO325.out).1; omega) | simpa using h_) (seg := [.int .i64 (wrap64 (((rd_T36 y323 a1).f3) + a3))]) (j := 3) hcl53 hcc53 (show 4 ≤ 5 from by decide) (x' := (⟨(rd_T36 y323 a1).f0, (rd_T36 y323 a1).f1, (rd_T36 y323 a1).f2, wrap64 (((rd_T36 y323 a1).f3) + a3), (rd_T36 y323 a1).f4⟩ : S36)) (k36_mkM _ _ _ (⟨(rd_T36 y323 a1).f0, (rd_T36 y323 a1).f1, (rd_T36 y323 a1).f2, wrap64 (((rd_T36 y323 a1).f3) + a3), (rd_T36 y323 a1).f4⟩ : S36) ) (fun _ hk => hk)
                            have hx53_3 := hcc53 3 _ rfl
                            (try simp only [show (k36).sz = 5 from rfl, Nat.mul_one, Nat.add_zero] at hx53_3)
                            have hf53_3 := hfr53 3
                            (try simp only [show (k36).sz = 5 from rfl, Nat.mul_one, Nat.add_zero] at hf53_3)
                            clear hcl53 hcc53 hfr53 hM53
                            go_wp2_with (first | ((with_reducible refine gate_store (t := 3) (p := 115) rfl ?_); refine store_event (t := 3) (p := 115) (v := ?vo_w54) (w1 := (w31.setCell ⟨go49, (a1 : Int).toNat * 5 + 3, none⟩ (.int .i64 (wrap64 (((rd_T36 y323 a1).f3) + a3))))) ?hg ?ho ?hn ?hr ?_; (case ho => rfl); (case hg => rfl); (case hn => rfl); (case hr => first | (go_simp; done) | (go_simp; rfl)); intro w54 hw; have hg : w31.grownBy w54 (some go49) := (by rw [hw]; exact HP53.2); have hp_ : Kd.R k36 36 w54 w.heap.size (fun _ => True) (.slice (some ⟨go49, 0, none⟩) y323.length co52) y335 := (by rw [hw, Ny335.out]; exact HP53.1); clear HP53; have n0_ := Aside0.mk (hp_); have n1_ := Aside0.mk ((by rw [hw]; exact below_set (HB.out) GB49.out : Below w.heap.size w w54)); clear HO325; clear HB; have HO325 := n0_; have HB := n1_; clear n0_ n1_; clear hg hw hp_) | ((with_reducible refine gate_callee (f := 45) rfl ?_); refine goesL_ (some 117) rfl rfl Try.func45 (by kernel_rfl) rfl #[.slice (some ⟨go49, 0, none⟩) y335.length co52] rfl (by (try simp only [List.map_toArray, List.map_cons, List.map_nil]); first | done | (rw [show y335.length = y323.length from (Kd.R_reads' HO325.out).1.symm] <;> rfl) | rfl | (simp only [List.length_drop, List.length_take]; rfl)) ?_; (with_reducible refine (nodes_Check.calls kj4 _ _ y335 t336 _ ?side1 ?side2 A50.out).mono ?_); (case side1 => repeat (first | exact (Kd.R_reads' HO325.out).2.2 | (with_reducible refine Kd.C_alloc ?_ _) | (with_reducible refine Kd.C_drewN ?_ _) | (with_reducible refine Kd.C_drew ?_))); (case side2 => rw [show y335.length = y323.length from (Kd.R_reads' HO325.out).1.symm]; exact (Kd.R_reads' HO325.out).2.1); rintro e w55 ⟨rfl, hb⟩; refine ⟨_, rfl, ?_⟩; have n0_ := Aside0.mk (Kd.R_below (by (with_reducible repeat (first | apply Kd.R_alloc | apply Kd.R_drewN | apply Kd.R_drew)); exact HO325.out) hb); have n1_ := Aside0.mk (below_step (by repeat (first | (with_reducible first | exact HB.out | apply below_alloc | apply pw_below_drewN | apply below_drew1) | exact HB.out)) hb); clear HO325; clear HB; have HO325 := n0_; have HB := n1_; clear n0_ n1_; (try clear hb); (try clear hb2); (try clear hk); (try clear hi)))
                            go_meet
                            case rel => exact ⟨_, (y335), H', ⟨by have := HJ4.out; first | omega | exact Nat.le_refl _⟩, ⟨by (with_reducible repeat (first | apply Kd.R_alloc | apply Kd.R_drewN | apply Kd.R_drew)); exact HO325.out⟩, ⟨by repeat (first | (with_reducible first | exact HB.out | apply below_alloc | apply pw_below_drewN | apply below_drew1) | exact HB.out)⟩⟩
                          · rw [if_neg c51] at H
                            have c51b0 : (t336 == 8) = false := beq_eq_false_iff_ne.mpr c51
                            have c51b1 : (t336 != 8) = true := bne_iff_ne.mpr c51
                            exact absurd H (by simp)
                        · rw [if_neg c48] at H
                          exact absurd H (by simp)
                      · rw [if_neg c47] at H
                        have c47b0 : (a2 == 2) = false := beq_eq_false_iff_ne.mpr c47
                        have c47b1 : (a2 != 2) = true := bne_iff_ne.mpr c47
                        by_cases c56 : a1 < (y323.length : Int)
                        · rw [if_pos c56] at H
                          have c56b0 : decide (a1 < (y323.length : Int)) = true := decide_eq_true c56
                          clear c56
                          obtain ⟨y338, hy338⟩ : ∃ y_ : List (S36), y_ = (y323.set (a1 : Int).toNat (⟨(rd_T36 y323 a1).f0, wrap64 (((rd_T36 y323 a1).f1) + a3), (rd_T36 y323 a1).f2, (rd_T36 y323 a1).f3, (rd_T36 y323 a1).f4⟩ : S36)) := ⟨_, rfl⟩
                          replace H : (if ((rd_T36 l0 a1).f0) = 1 then (tailwaterlaw04_NodesOther.j1 kj4 l0 y338 t327) else ((nodes_Check.f kj4 y338).bind fun t340 => (if t340 = 8 then (tailwaterlaw04_NodesOther.j1 kj4 l0 y338 t327) else (some false)))) = some true := by first | (rw [hy338]; with_reducible exact H) | (have H2_ := (Option.bind_some _ _).symm.trans H; rw [hy338]; with_reducible exact H2_) | (have H2_ := (Option.bind_some _ _).symm.trans H; with_reducible exact H2_) | with_reducible exact H | (rw [hy338]; exact H) | exact H
                          have Ny338 := Aside0.mk hy338
                          clear hy338
                          by_cases c58 : ((rd_T36 l0 a1).f0) = 1
                          · rw [if_pos c58] at H
                            have c58b0 : (((rd_T36 l0 a1).f0) == 1) = true := beq_iff_eq.mpr c58
                            have c58b1 : (((rd_T36 l0 a1).f0) != 1) = false := bne_eq_false_iff_eq.mpr c58
                            clear c58
                            have H' := Aside0.mk H
                            clear H
                            obtain ⟨Ao59, co59, eo59⟩ := Kd.R_slice HO325.out
                            subst eo59
                            have p337 : 0 ≤ (a1 : Int) := of_decide_eq_true (by first | (with_reducible assumption) | assumption)
                            have q337 : a1 < (y323.length : Int) := of_decide_eq_true (by first | (with_reducible assumption) | assumption)
                            obtain ⟨ad337, e337, hx337_0, hx337_1, hx337_2, hx337_3, hx337_4⟩ := at_T36 (Kd.R_reads' HO325.out).2.2 a1 p337 q337
                            cases e337
                            replace p337 := eq_true p337
                            replace q337 := eq_true q337
                            have p57 : 0 ≤ (a1 : Int) := of_decide_eq_true (by first | (with_reducible assumption) | assumption)
                            have q57 : (a1 : Int) < ((y323.length : Int) : Int) := of_decide_eq_true (by first | (with_reducible assumption) | assumption)
                            obtain ⟨go57, co57, eo57, gb57, gl57, cl57, HG57⟩ := Kd.R_form HO325.out (by omega)
                            (first | cases eo57 | (injection eo57 with ea_ en_ ec_; (first | subst ea_ | (injection ea_ with ea_; subst ea_)); subst ec_; clear en_))
                            have GB57 := Aside0.mk gb57
                            have GG57 := Aside0.mk HG57
                            clear gb57 gl57 HG57
                            (first | simp only [add_plain] at hx337_0 | skip)
                            (first | simp only [add_plain] at hx337_1 | skip)
                            (first | simp only [add_plain] at hx337_2 | skip)
                            (first | simp only [add_plain] at hx337_3 | skip)
                            (first | simp only [add_plain] at hx337_4 | skip)
                            obtain ⟨ce57, hcl57, hM57, hcc57, hfr57⟩ := Kd.R_elem HO325.out z36 (a1 : Int) p57 q57
                            obtain rfl := k36_openM hM57
                            have hx57_0 : w31.cell? ⟨go57, (a1 : Int).toNat * 5, none⟩ = some (.int .u8 ((rd_T36 y323 a1).f0)) := hcc57 0 _ rfl
                            have hx57_1 : w31.cell? ⟨go57, (a1 : Int).toNat * 5 + 1, none⟩ = some (.int .i64 ((rd_T36 y323 a1).f1)) := hcc57 1 _ rfl
                            have hx57_2 : w31.cell? ⟨go57, (a1 : Int).toNat * 5 + 2, none⟩ = some (.int .i64 ((rd_T36 y323 a1).f2)) := hcc57 2 _ rfl
                            have hx57_3 : w31.cell? ⟨go57, (a1 : Int).toNat * 5 + 3, none⟩ = some (.int .i64 ((rd_T36 y323 a1).f3)) := hcc57 3 _ rfl
                            have hx57_4 : w31.cell? ⟨go57, (a1 : Int).toNat * 5 + 4, none⟩ = some (.int .i64 ((rd_T36 y323 a1).f4)) := hcc57 4 _ rfl
                            have hf57_0 : w31.frozen? ⟨go57, (a1 : Int).toNat * 5, none⟩ = false := hfr57 0
                            have hf57_1 : w31.frozen? ⟨go57, (a1 : Int).toNat * 5 + 1, none⟩ = false := hfr57 1
                            have hf57_2 : w31.frozen? ⟨go57, (a1 : Int).toNat * 5 + 2, none⟩ = false := hfr57 2
                            have hf57_3 : w31.frozen? ⟨go57, (a1 : Int).toNat * 5 + 3, none⟩ = false := hfr57 3
                            have hf57_4 : w31.frozen? ⟨go57, (a1 : Int).toNat * 5 + 4, none⟩ = false := hfr57 4
                            clear hcl57 hcc57 hfr57 hM57
                            replace p57 := eq_true p57
                            replace q57 := eq_true q57
                            have HX60 := Aside0.mk (show Kd.R k36 36 w31 w.heap.size (fun _ => True) (.slice (some ⟨go57, 0, none⟩) y323.length co59) y323 from (by (with_reducible repeat (first | apply Kd.R_alloc | apply Kd.R_drewN | apply Kd.R_drew)); exact HO325.out))
                            obtain ⟨ce60, hcl60, hM60, hcc60, hfr60⟩ := Kd.R_elem HX60.out z36 (a1 : Int) (of_decide_eq_true (by first | (with_reducible assumption) | assumption)) (by have h_ : (a1 : Int) < ((y323.length : Int) : Int) := of_decide_eq_true (by first | (with_reducible assumption) | assumption); first | exact h_ | (have e_ := (Kd.R_reads' HO325.out).1; omega) | simpa using h_)
                            obtain rfl := k36_openM hM60
                            have HP60 := Kd.R_seg HX60.out (a1 : Int) (of_decide_eq_true (by first | (with_reducible assumption) | assumption)) (by have h_ : (a1 : Int) < ((y323.length : Int) : Int) := of_decide_eq_true (by first | (with_reducible assumption) | assumption); first | exact h_ | (have e_ := (Kd.R_reads' HO325.out).1; omega) | simpa using h_) (seg := [.int .i64 (wrap64 (((rd_T36 y323 a1).f1) + a3))]) (j := 1) hcl60 hcc60 (show 2 ≤ 5 from by decide) (x' := (⟨(rd_T36 y323 a1).f0, wrap64 (((rd_T36 y323 a1).f1) + a3), (rd_T36 y323 a1).f2, (rd_T36 y323 a1).f3, (rd_T36 y323 a1).f4⟩ : S36)) (k36_mkM _ _ _ (⟨(rd_T36 y323 a1).f0, wrap64 (((rd_T36 y323 a1).f1) + a3), (rd_T36 y323 a1).f2, (rd_T36 y323 a1).f3, (rd_T36 y323 a1).f4⟩ : S36) ) (fun _ hk => hk)
                            have hx60_1 := hcc60 1 _ rfl
                            (try simp only [show (k36).sz = 5 from rfl, Nat.mul_one, Nat.add_zero] at hx60_1)
                            have hf60_1 := hfr60 1
                            (try simp only [show (k36).sz = 5 from rfl, Nat.mul_one, Nat.add_zero] at hf60_1)
                            clear hcl60 hcc60 hfr60 hM60
                            go_wp2_with (first | ((with_reducible refine gate_store (t := 2) (p := 67) rfl ?_); refine store_event (t := 2) (p := 67) (v := ?vo_w61) (w1 := (w31.setCell ⟨go57, (a1 : Int).toNat * 5 + 1, none⟩ (.int .i64 (wrap64 (((rd_T36 y323 a1).f1) + a3))))) ?hg ?ho ?hn ?hr ?_; (case ho => rfl); (case hg => rfl); (case hn => rfl); (case hr => first | (go_simp; done) | (go_simp; rfl)); intro w61 hw; have hg : w31.grownBy w61 (some go57) := (by rw [hw]; exact HP60.2); have hp_ : Kd.R k36 36 w61 w.heap.size (fun _ => True) (.slice (some ⟨go57, 0, none⟩) y323.length co59) y338 := (by rw [hw, Ny338.out]; exact HP60.1); clear HP60; have n0_ := Aside0.mk (hp_); have n1_ := Aside0.mk ((by rw [hw]; exact below_set (HB.out) GB57.out : Below w.heap.size w w61)); clear HO325; clear HB; have HO325 := n0_; have HB := n1_; clear n0_ n1_; clear hg hw hp_; have p339 : 0 ≤ (a1 : Int) := of_decide_eq_true (by first | (with_reducible assumption) | assumption); have q339 : a1 < (l0.length : Int) := of_decide_eq_true (by first | (with_reducible assumption) | assumption); obtain ⟨ad339, e339, hx339_0, hx339_1, hx339_2, hx339_3, hx339_4⟩ := at_T36 HR0.out a1 p339 q339; obtain rfl : ad326 = ad339 := (by injection e339); replace hx339_0 := (HB.out.cell (World.block_lt_of_cell? w _ hx339_0)).trans hx339_0; replace hx339_1 := (HB.out.cell (World.block_lt_of_cell? w _ hx339_1)).trans hx339_1; replace hx339_2 := (HB.out.cell (World.block_lt_of_cell? w _ hx339_2)).trans hx339_2; replace hx339_3 := (HB.out.cell (World.block_lt_of_cell? w _ hx339_3)).trans hx339_3; replace hx339_4 := (HB.out.cell (World.block_lt_of_cell? w _ hx339_4)).trans hx339_4; replace p339 := eq_true p339; replace q339 := eq_true q339))
                            go_meet
                            case rel => exact ⟨_, (y338), H', ⟨by have := HJ4.out; first | omega | exact Nat.le_refl _⟩, ⟨by (with_reducible repeat (first | apply Kd.R_alloc | apply Kd.R_drewN | apply Kd.R_drew)); exact HO325.out⟩, ⟨by repeat (first | (with_reducible first | exact HB.out | apply below_alloc | apply pw_below_drewN | apply below_drew1) | exact HB.out)⟩⟩
                          · rw [if_neg c58] at H
                            have c58b0 : (((rd_T36 l0 a1).f0) == 1) = false := beq_eq_false_iff_ne.mpr c58
                            have c58b1 : (((rd_T36 l0 a1).f0) != 1) = true := bne_iff_ne.mpr c58
                            replace H := Option.bind_eq_some_iff.mp H
                            obtain ⟨t340, A620, H⟩ := H
                            replace H : (if t340 = 8 then (tailwaterlaw04_NodesOther.j1 kj4 l0 y338 t327) else (some false)) = some true := H
                            have A62 := Aside0.mk A620
                            clear A620
                            by_cases c63 : t340 = 8
                            · rw [if_pos c63] at H
                              have c63b0 : (t340 == 8) = true := beq_iff_eq.mpr c63
                              have c63b1 : (t340 != 8) = false := bne_eq_false_iff_eq.mpr c63
                              clear c63
                              have H' := Aside0.mk H
                              clear H
                              obtain ⟨Ao64, co64, eo64⟩ := Kd.R_slice HO325.out
                              subst eo64
                              have p337 : 0 ≤ (a1 : Int) := of_decide_eq_true (by first | (with_reducible assumption) | assumption)
                              have q337 : a1 < (y323.length : Int) := of_decide_eq_true (by first | (with_reducible assumption) | assumption)
                              obtain ⟨ad337, e337, hx337_0, hx337_1, hx337_2, hx337_3, hx337_4⟩ := at_T36 (Kd.R_reads' HO325.out).2.2 a1 p337 q337
                              cases e337
                              replace p337 := eq_true p337
                              replace q337 := eq_true q337
                              have p57 : 0 ≤ (a1 : Int) := of_decide_eq_true (by first | (with_reducible assumption) | assumption)
                              have q57 : (a1 : Int) < ((y323.length : Int) : Int) := of_decide_eq_true (by first | (with_reducible assumption) | assumption)
                              obtain ⟨go57, co57, eo57, gb57, gl57, cl57, HG57⟩ := Kd.R_form HO325.out (by omega)
                              (first | cases eo57 | (injection eo57 with ea_ en_ ec_; (first | subst ea_ | (injection ea_ with ea_; subst ea_)); subst ec_; clear en_))
                              have GB57 := Aside0.mk gb57
                              have GG57 := Aside0.mk HG57
                              clear gb57 gl57 HG57
                              (first | simp only [add_plain] at hx337_0 | skip)
                              (first | simp only [add_plain] at hx337_1 | skip)
                              (first | simp only [add_plain] at hx337_2 | skip)
                              (first | simp only [add_plain] at hx337_3 | skip)
                              (first | simp only [add_plain] at hx337_4 | skip)
                              obtain ⟨ce57, hcl57, hM57, hcc57, hfr57⟩ := Kd.R_elem HO325.out z36 (a1 : Int) p57 q57
                              obtain rfl := k36_openM hM57
                              have hx57_0 : w31.cell? ⟨go57, (a1 : Int).toNat * 5, none⟩ = some (.int .u8 ((rd_T36 y323 a1).f0)) := hcc57 0 _ rfl
                              have hx57_1 : w31.cell? ⟨go57, (a1 : Int).toNat * 5 + 1, none⟩ = some (.int .i64 ((rd_T36 y323 a1).f1)) := hcc57 1 _ rfl
                              have hx57_2 : w31.cell? ⟨go57, (a1 : Int).toNat * 5 + 2, none⟩ = some (.int .i64 ((rd_T36 y323 a1).f2)) := hcc57 2 _ rfl
                              have hx57_3 : w31.cell? ⟨go57, (a1 : Int).toNat * 5 + 3, none⟩ = some (.int .i64 ((rd_T36 y323 a1).f3)) := hcc57 3 _ rfl
                              have hx57_4 : w31.cell? ⟨go57, (a1 : Int).toNat * 5 + 4, none⟩ = some (.int .i64 ((rd_T36 y323 a1).f4)) := hcc57 4 _ rfl
                              have hf57_0 : w31.frozen? ⟨go57, (a1 : Int).toNat * 5, none⟩ = false := hfr57 0
                              have hf57_1 : w31.frozen? ⟨go57, (a1 : Int).toNat * 5 + 1, none⟩ = false := hfr57 1
                              have hf57_2 : w31.frozen? ⟨go57, (a1 : Int).toNat * 5 + 2, none⟩ = false := hfr57 2
                              have hf57_3 : w31.frozen? ⟨go57, (a1 : Int).toNat * 5 + 3, none⟩ = false := hfr57 3
                              have hf57_4 : w31.frozen? ⟨go57, (a1 : Int).toNat * 5 + 4, none⟩ = false := hfr57 4
                              clear hcl57 hcc57 hfr57 hM57
                              replace p57 := eq_true p57
                              replace q57 := eq_true q57
                              have HX65 := Aside0.mk (show Kd.R k36 36 w31 w.heap.size (fun _ => True) (.slice (some ⟨go57, 0, none⟩) y323.length co64) y323 from (by (with_reducible repeat (first | apply Kd.R_alloc | apply Kd.R_drewN | apply Kd.R_drew)); exact HO325.out))
                              obtain ⟨ce65, hcl65, hM65, hcc65, hfr65⟩ := Kd.R_elem HX65.out z36 (a1 : Int) (of_decide_eq_true (by first | (with_reducible assumption) | assumption)) (by have h_ : (a1 : Int) < ((y323.length : Int) : Int) := of_decide_eq_true (by first | (with_reducible assumption) | assumption); first | exact h_ | (have e_ := (Kd.R_reads' HO325.out).1; omega) | simpa using h_)
                              obtain rfl := k36_openM hM65
                              have HP65 := Kd.R_seg HX65.out (a1 : Int) (of_decide_eq_true (by first | (with_reducible assumption) | assumption)) (by have h_ : (a1 : Int) < ((y323.length : Int) : Int) := of_decide_eq_true (by first | (with_reducible assumption) | assumption); first | exact h_ | (have e_ := (Kd.R_reads' HO325.out).1; omega) | simpa using h_) (seg := [.int .i64 (wrap64 (((rd_T36 y323 a1).f1) + a3))]) (j := 1) hcl65 hcc65 (show 2 ≤ 5 from by decide) (x' := (⟨(rd_T36 y323 a1).f0, wrap64 (((rd_T36 y323 a1).f1) + a3), (rd_T36 y323 a1).f2, (rd_T36 y323 a1).f3, (rd_T36 y323 a1).f4⟩ : S36)) (k36_mkM _ _ _ (⟨(rd_T36 y323 a1).f0, wrap64 (((rd_T36 y323 a1).f1) + a3), (rd_T36 y323 a1).f2, (rd_T36 y323 a1).f3, (rd_T36 y323 a1).f4⟩ : S36) ) (fun _ hk => hk)
                              have hx65_1 := hcc65 1 _ rfl
                              (try simp only [show (k36).sz = 5 from rfl, Nat.mul_one, Nat.add_zero] at hx65_1)
                              have hf65_1 := hfr65 1
                              (try simp only [show (k36).sz = 5 from rfl, Nat.mul_one, Nat.add_zero] at hf65_1)
                              clear hcl65 hcc65 hfr65 hM65
                              go_wp2_with (first | ((with_reducible refine gate_store (t := 2) (p := 67) rfl ?_); refine store_event (t := 2) (p := 67) (v := ?vo_w66) (w1 := (w31.setCell ⟨go57, (a1 : Int).toNat * 5 + 1, none⟩ (.int .i64 (wrap64 (((rd_T36 y323 a1).f1) + a3))))) ?hg ?ho ?hn ?hr ?_; (case ho => rfl); (case hg => rfl); (case hn => rfl); (case hr => first | (go_simp; done) | (go_simp; rfl)); intro w66 hw; have hg : w31.grownBy w66 (some go57) := (by rw [hw]; exact HP65.2); have hp_ : Kd.R k36 36 w66 w.heap.size (fun _ => True) (.slice (some ⟨go57, 0, none⟩) y323.length co64) y338 := (by rw [hw, Ny338.out]; exact HP65.1); clear HP65; have n0_ := Aside0.mk (hp_); have n1_ := Aside0.mk ((by rw [hw]; exact below_set (HB.out) GB57.out : Below w.heap.size w w66)); clear HO325; clear HB; have HO325 := n0_; have HB := n1_; clear n0_ n1_; clear hg hw hp_; have p339 : 0 ≤ (a1 : Int) := of_decide_eq_true (by first | (with_reducible assumption) | assumption); have q339 : a1 < (l0.length : Int) := of_decide_eq_true (by first | (with_reducible assumption) | assumption); obtain ⟨ad339, e339, hx339_0, hx339_1, hx339_2, hx339_3, hx339_4⟩ := at_T36 HR0.out a1 p339 q339; obtain rfl : ad326 = ad339 := (by injection e339); replace hx339_0 := (HB.out.cell (World.block_lt_of_cell? w _ hx339_0)).trans hx339_0; replace hx339_1 := (HB.out.cell (World.block_lt_of_cell? w _ hx339_1)).trans hx339_1; replace hx339_2 := (HB.out.cell (World.block_lt_of_cell? w _ hx339_2)).trans hx339_2; replace hx339_3 := (HB.out.cell (World.block_lt_of_cell? w _ hx339_3)).trans hx339_3; replace hx339_4 := (HB.out.cell (World.block_lt_of_cell? w _ hx339_4)).trans hx339_4; replace p339 := eq_true p339; replace q339 := eq_true q339) | (go_at_call 45; refine calls_of_args (args' := #[.slice (some ⟨go57, 0, none⟩) y338.length co64]) (by first | (rw [show y338.length = y323.length from (Kd.R_reads' HO325.out).1.symm] <;> rfl) | rfl) ?_; (with_reducible refine (nodes_Check.calls kj4 _ _ y338 t340 _ ?side1 ?side2 A62.out).mono ?_); (case side1 => repeat (first | exact (Kd.R_reads' HO325.out).2.2 | (with_reducible refine Kd.C_alloc ?_ _) | (with_reducible refine Kd.C_drewN ?_ _) | (with_reducible refine Kd.C_drew ?_))); (case side2 => rw [show y338.length = y323.length from (Kd.R_reads' HO325.out).1.symm]; exact (Kd.R_reads' HO325.out).2.1); rintro e w67 ⟨rfl, hb⟩; have n0_ := Aside0.mk (Kd.R_below (by (with_reducible repeat (first | apply Kd.R_alloc | apply Kd.R_drewN | apply Kd.R_drew)); exact HO325.out) hb); have n1_ := Aside0.mk (below_step (by repeat (first | (with_reducible first | exact HB.out | apply below_alloc | apply pw_below_drewN | apply below_drew1) | exact HB.out)) hb); clear HO325; clear HB; have HO325 := n0_; have HB := n1_; clear n0_ n1_; (try clear hb); (try clear hb2); (try clear hk); (try clear hi)))
                              go_meet
                              case rel => exact ⟨_, (y338), H', ⟨by have := HJ4.out; first | omega | exact Nat.le_refl _⟩, ⟨by (with_reducible repeat (first | apply Kd.R_alloc | apply Kd.R_drewN | apply Kd.R_drew)); exact HO325.out⟩, ⟨by repeat (first | (with_reducible first | exact HB.out | apply below_alloc | apply pw_below_drewN | apply below_drew1) | exact HB.out)⟩⟩
                            · rw [if_neg c63] at H
                              have c63b0 : (t340 == 8) = false := beq_eq_false_iff_ne.mpr c63
                              have c63b1 : (t340 != 8) = true := bne_iff_ne.mpr c63
                              exact absurd H (by simp)
                        · rw [if_neg c56] at H
                          exact absurd H (by simp)
                case rest =>
                  clear HC28
                  try clear c1
                  try clear c2
                  try clear p2
                  try clear c3
                  try clear p3
                  try clear q3
                  try clear hx3
                  try clear c4
                  try clear p4
                  try clear q4
                  try clear hx4
                  try clear hf4
                  try clear c5
                  try clear p5
                  try clear q5
                  try clear hx5
                  try clear hf5
                  try clear c6
                  try clear p6
                  try clear hx6
                  try clear hf6
                  try clear c7
                  try clear c9
                  try clear c9b0
                  try clear c9b1
                  try clear c10
                  try clear c10b0
                  try clear c11
                  try clear c12
                  try clear c12b0
                  try clear c14
                  try clear c14b0
                  try clear c14b1
                  try clear c16
                  try clear c16b0
                  try clear c20
                  try clear c23
                  try clear c24
                  try clear c24b0
                  try clear c25
                  try clear c25b0
                  try clear c27
                  try clear c27b0
                  try clear c27b1
                  try clear c32
                  try clear c32b0
                  try clear c32b1
                  try clear p32
                  try clear q32
                  try clear hx32
                  try clear c33
                  try clear c33b0
                  try clear p33
                  try clear q33
                  try clear hx33
                  try clear c34
                  try clear p34
                  try clear q34
                  try clear hx34
                  try clear hf34
                  try clear c35
                  try clear c36
                  try clear hx36
                  try clear hf36
                  try clear c37
                  try clear c38
                  try clear c38b0
                  try clear c38b1
                  try clear c39
                  try clear c39b0
                  try clear c40
                  try clear p40
                  try clear q40
                  try clear hx40
                  try clear hf40
                  try clear c42
                  try clear c42b0
                  try clear c42b1
                  try clear c44
                  try clear hx44
                  try clear hf44
                  try clear c45
                  try clear c47
                  try clear c47b0
                  try clear c47b1
                  try clear c48
                  try clear c48b0
                  try clear c49
                  try clear p49
                  try clear q49
                  try clear hx49
                  try clear hf49
                  try clear c51
                  try clear c51b0
                  try clear c51b1
                  try clear c53
                  try clear hx53
                  try clear hf53
                  try clear c56
                  try clear c56b0
                  try clear c57
                  try clear p57
                  try clear q57
                  try clear hx57
                  try clear hf57
                  try clear c58
                  try clear c58b0
                  try clear c58b1
                  try clear c60
                  try clear hx60
                  try clear hf60
                  try clear c63
                  try clear c63b0
                  try clear c63b1
                  try clear p64
                  try clear c65
                  try clear hx65
                  try clear hf65
                  try clear hx326_0
                  try clear hx326_1
                  try clear hx326_2
                  try clear hx326_3
                  try clear hx326_4
                  try clear hx329_0
                  try clear hx329_1
                  try clear hx329_2
                  try clear hx329_3
                  try clear hx329_4
                  try clear hx331_0
                  try clear hx331_1
                  try clear hx331_2
                  try clear hx331_3
                  try clear hx331_4
                  try clear hx334_0
                  try clear hx334_1
                  try clear hx334_2
                  try clear hx334_3
                  try clear hx334_4
                  try clear hx337_0
                  try clear hx337_1
                  try clear hx337_2
                  try clear hx337_3
                  try clear hx337_4
                  try clear hx339_0
                  try clear hx339_1
                  try clear hx339_2
                  try clear hx339_3
                  try clear hx339_4
                  try clear hx34_0
                  try clear hx34_1
                  try clear hx34_2
                  try clear hx34_3
                  try clear hx34_4
                  try clear hx36_0
                  try clear hx40_0
                  try clear hx40_1
                  try clear hx40_2
                  try clear hx40_3
                  try clear hx40_4
                  try clear hx44_2
                  try clear hx49_0
                  try clear hx49_1
                  try clear hx49_2
                  try clear hx49_3
                  try clear hx49_4
                  try clear hx53_3
                  try clear hx57_0
                  try clear hx57_1
                  try clear hx57_2
                  try clear hx57_3
                  try clear hx57_4
                  try clear hx60_1
                  try clear hx65_1
                  try clear p2
                  try clear p326
                  try clear p329
                  try clear p331
                  try clear p334
                  try clear p337
                  try clear p339
                  try clear p34
                  try clear p40
                  try clear p49
                  try clear p57
                  try clear q326
                  try clear q329
                  try clear q331
                  try clear q334
                  try clear q337
                  try clear q339
                  try clear q34
                  try clear q40
                  try clear q49
                  try clear q57
                  obtain ⟨kq, x9_27, HA, HJ27, HO_9, HB⟩ := hcut
                  cases kq with
                  | zero => exact absurd HA.out (by simp [tailwaterlaw04_NodesOther.j1])
                  | succ kj27 =>
                    have H := HA.out
                    clear HA
                    simp only [tailwaterlaw04_NodesOther.j1] at H
                    replace H := Option.bind_eq_some_iff.mp H
                    obtain ⟨t341, A680, H⟩ := H
                    replace H : (if t341 = 0 then ((nodes_Same.f kj27 l0 x9_27).bind fun bt342 => (if bt342.2 = 0 then (if bt342.1 = true then (some false) else ((tailwaterlaw04_alive.f kj27).bind fun t344 => (some t344))) else (some false))) else (if t327 ≥ 0 then ((tailwaterlaw04_alive.f kj27).bind fun t345 => (some t345)) else (some false))) = some true := H
                    have A68 := Aside0.mk A680
                    clear A680
                    by_cases c69 : t341 = 0
                    · rw [if_pos c69] at H
                      have c69b0 : (t341 == 0) = true := beq_iff_eq.mpr c69
                      have c69b1 : (t341 != 0) = false := bne_eq_false_iff_eq.mpr c69
                      clear c69
                      replace H := Option.bind_eq_some_iff.mp H
                      obtain ⟨⟨t342, t343⟩, A700, H⟩ := H
                      replace H : (if t343 = 0 then (if t342 = true then (some false) else ((tailwaterlaw04_alive.f kj27).bind fun t344 => (some t344))) else (some false)) = some true := H
                      have A70 := Aside0.mk A700
                      clear A700
                      by_cases c71 : t343 = 0
                      · rw [if_pos c71] at H
                        have c71b0 : (t343 == 0) = true := beq_iff_eq.mpr c71
                        have c71b1 : (t343 != 0) = false := bne_eq_false_iff_eq.mpr c71
                        clear c71
                        by_cases c72 : t342 = true
                        · subst c72
                          have H1 : (some false) = some true := by rw [if_pos rfl] at H; exact H
                          clear H
                          have H := H1
                          clear H1
                          exact absurd H (by simp)
                        · replace c72 := Bool.eq_false_iff.mpr c72
                          subst c72
                          have H1 : ((tailwaterlaw04_alive.f kj27).bind fun t344 => (some t344)) = some true := by rw [if_neg (show ¬ (false = true) by decide)] at H; exact H
                          clear H
                          have H := H1
                          clear H1
                          replace H := Option.bind_eq_some_iff.mp H
                          obtain ⟨t344, A730, H⟩ := H
                          replace H : (some t344) = some true := H
                          have A73 := Aside0.mk A730
                          clear A730
                          have hv_ := Option.some.inj H
                          clear H
                          obtain ⟨Ao74, co74, eo74⟩ := Kd.R_slice HO_9.out
                          subst eo74
                          go_wp2_with (first | ((with_reducible refine gate_callee (f := 45) rfl ?_); refine goesL_ (some 120) rfl rfl Try.func45 (by kernel_rfl) rfl #[.slice Ao74 x9_27.length co74] rfl (by (try simp only [List.map_toArray, List.map_cons, List.map_nil]); first | done | rfl | (simp only [List.length_drop, List.length_take]; rfl)) ?_; (with_reducible refine (nodes_Check.calls kj27 _ _ x9_27 t341 _ ?side1 ?side2 A68.out).mono ?_); (case side1 => repeat (first | exact (Kd.R_reads' HO_9.out).2.2 | (with_reducible refine Kd.C_alloc ?_ _) | (with_reducible refine Kd.C_drewN ?_ _) | (with_reducible refine Kd.C_drew ?_))); (case side2 => exact (Kd.R_reads' HO_9.out).2.1); rintro e w75 ⟨rfl, hb⟩; refine ⟨_, rfl, ?_⟩; have n0_ := Aside0.mk (Kd.R_below (by (with_reducible repeat (first | apply Kd.R_alloc | apply Kd.R_drewN | apply Kd.R_drew)); exact HO_9.out) hb); have n1_ := Aside0.mk (below_step (by repeat (first | (with_reducible first | exact HB.out | apply below_alloc | apply pw_below_drewN | apply below_drew1) | exact HB.out)) hb); clear HO_9; clear HB; have HO_9 := n0_; have HB := n1_; clear n0_ n1_; (try clear hb); (try clear hb2); (try clear hk); (try clear hi)) | ((with_reducible refine gate_callee (f := 47) rfl ?_); refine goesL_ (some 130) rfl rfl Try.func47 (by kernel_rfl) rfl #[.slice (some ad326) l0.length c0, .slice Ao74 x9_27.length co74] rfl (by (try simp only [List.map_toArray, List.map_cons, List.map_nil]); first | done | rfl | (simp only [List.length_drop, List.length_take]; rfl)) ?_; (with_reducible refine (nodes_Same.calls kj27 _ _ l0 _ _ x9_27 false t343 _ ?side1 ?side2 ?side3 ?side4 A70.out).mono ?_); (case side1 => repeat (first | exact (Kd.C_below HR0.out HB.out) | (with_reducible refine Kd.C_alloc ?_ _) | (with_reducible refine Kd.C_drewN ?_ _) | (with_reducible refine Kd.C_drew ?_))); (case side2 => exact HC0.out); (case side3 => repeat (first | exact (Kd.R_reads' HO_9.out).2.2 | (with_reducible refine Kd.C_alloc ?_ _) | (with_reducible refine Kd.C_drewN ?_ _) | (with_reducible refine Kd.C_drew ?_))); (case side4 => exact (Kd.R_reads' HO_9.out).2.1); rintro e w76 ⟨rfl, hb⟩; refine ⟨_, rfl, ?_⟩; have n0_ := Aside0.mk (Kd.R_below (by (with_reducible repeat (first | apply Kd.R_alloc | apply Kd.R_drewN | apply Kd.R_drew)); exact HO_9.out) hb); have n1_ := Aside0.mk (below_step (by repeat (first | (with_reducible first | exact HB.out | apply below_alloc | apply pw_below_drewN | apply below_drew1) | exact HB.out)) hb); clear HO_9; clear HB; have HO_9 := n0_; have HB := n1_; clear n0_ n1_; (try clear hb); (try clear hb2); (try clear hk); (try clear hi)) | (go_at_call 35; (with_reducible refine (tailwaterlaw04_alive.calls kj27  t344 _ A73.out).mono ?_); rintro e w77 ⟨rfl, hb⟩; have n0_ := Aside0.mk (Kd.R_below (by (with_reducible repeat (first | apply Kd.R_alloc | apply Kd.R_drewN | apply Kd.R_drew)); exact HO_9.out) hb); have n1_ := Aside0.mk (below_step (by repeat (first | (with_reducible first | exact HB.out | apply below_alloc | apply pw_below_drewN | apply below_drew1) | exact HB.out)) hb); clear HO_9; clear HB; have HO_9 := n0_; have HB := n1_; clear n0_ n1_; (try clear hb); (try clear hb2); (try clear hk); (try clear hi)))
                          go_ret
                          exact ⟨by first | rfl | (simp [errW_none, errW_some] <;> rfl) | (simp [*, errW_none, errW_some] <;> rfl), by repeat (first | (with_reducible first | exact HB.out | apply below_alloc | apply pw_below_drewN | apply below_drew1) | exact HB.out)⟩
                      · rw [if_neg c71] at H
                        have c71b0 : (t343 == 0) = false := beq_eq_false_iff_ne.mpr c71
                        have c71b1 : (t343 != 0) = true := bne_iff_ne.mpr c71
                        exact absurd H (by simp)
                    · rw [if_neg c69] at H
                      have c69b0 : (t341 == 0) = false := beq_eq_false_iff_ne.mpr c69
                      have c69b1 : (t341 != 0) = true := bne_iff_ne.mpr c69
                      by_cases c78 : t327 ≥ 0
                      · rw [if_pos c78] at H
                        have c78b0 : decide (0 ≤ t327) = true := decide_eq_true c78
                        clear c78
                        replace H := Option.bind_eq_some_iff.mp H
                        obtain ⟨t345, A790, H⟩ := H
                        replace H : (some t345) = some true := H
                        have A79 := Aside0.mk A790
                        clear A790
                        have hv_ := Option.some.inj H
                        clear H
                        obtain ⟨Ao80, co80, eo80⟩ := Kd.R_slice HO_9.out
                        subst eo80
                        go_wp2_with (first | ((with_reducible refine gate_callee (f := 45) rfl ?_); refine goesL_ (some 120) rfl rfl Try.func45 (by kernel_rfl) rfl #[.slice Ao80 x9_27.length co80] rfl (by (try simp only [List.map_toArray, List.map_cons, List.map_nil]); first | done | rfl | (simp only [List.length_drop, List.length_take]; rfl)) ?_; (with_reducible refine (nodes_Check.calls kj27 _ _ x9_27 t341 _ ?side1 ?side2 A68.out).mono ?_); (case side1 => repeat (first | exact (Kd.R_reads' HO_9.out).2.2 | (with_reducible refine Kd.C_alloc ?_ _) | (with_reducible refine Kd.C_drewN ?_ _) | (with_reducible refine Kd.C_drew ?_))); (case side2 => exact (Kd.R_reads' HO_9.out).2.1); rintro e w81 ⟨rfl, hb⟩; refine ⟨_, rfl, ?_⟩; have n0_ := Aside0.mk (Kd.R_below (by (with_reducible repeat (first | apply Kd.R_alloc | apply Kd.R_drewN | apply Kd.R_drew)); exact HO_9.out) hb); have n1_ := Aside0.mk (below_step (by repeat (first | (with_reducible first | exact HB.out | apply below_alloc | apply pw_below_drewN | apply below_drew1) | exact HB.out)) hb); clear HO_9; clear HB; have HO_9 := n0_; have HB := n1_; clear n0_ n1_; (try clear hb); (try clear hb2); (try clear hk); (try clear hi)) | (go_at_call 35; (with_reducible refine (tailwaterlaw04_alive.calls kj27  t345 _ A79.out).mono ?_); rintro e w82 ⟨rfl, hb⟩; have n0_ := Aside0.mk (Kd.R_below (by (with_reducible repeat (first | apply Kd.R_alloc | apply Kd.R_drewN | apply Kd.R_drew)); exact HO_9.out) hb); have n1_ := Aside0.mk (below_step (by repeat (first | (with_reducible first | exact HB.out | apply below_alloc | apply pw_below_drewN | apply below_drew1) | exact HB.out)) hb); clear HO_9; clear HB; have HO_9 := n0_; have HB := n1_; clear n0_ n1_; (try clear hb); (try clear hb2); (try clear hk); (try clear hi)))
                        go_ret
                        exact ⟨by first | rfl | (simp [errW_none, errW_some] <;> rfl) | (simp [*, errW_none, errW_some] <;> rfl), by repeat (first | (with_reducible first | exact HB.out | apply below_alloc | apply pw_below_drewN | apply below_drew1) | exact HB.out)⟩
                      · rw [if_neg c78] at H
                        have c78b0 : decide (0 ≤ t327) = false := decide_eq_false c78
                        clear c78
                        exact absurd H (by simp)
              · rw [if_neg c27] at H
                have c27b0 : (t328 == 0) = false := beq_eq_false_iff_ne.mpr c27
                have c27b1 : (t328 != 0) = true := bne_iff_ne.mpr c27
                exact absurd H (by simp)
            · rw [if_neg c25] at H
              exact absurd H (by simp)
          · rw [if_neg c24] at H
            exact absurd H (by simp)
        · rw [if_neg c23] at H
          exact absurd H (by simp)

end Go.Proofs.Ytpkamfjkmbakhaa.N
