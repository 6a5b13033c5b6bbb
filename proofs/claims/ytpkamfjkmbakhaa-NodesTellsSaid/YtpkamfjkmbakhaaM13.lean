-- Written by a program of this place (wip/prt.py), out of Lean's own print of the program: Lean checks it.
import Derived.Test.YtpkamfjkmbakhaaM0
import Derived.Test.YtpkamfjkmbakhaaM2
import Derived.Test.YtpkamfjkmbakhaaM4
import Derived.Test.YtpkamfjkmbakhaaM5
import Derived.Test.YtpkamfjkmbakhaaM7
import Derived.Test.YtpkamfjkmbakhaaM8
import Derived.Test.YtpkamfjkmbakhaaM9
import Derived.Test.YtpkamfjkmbakhaaM10
import Derived.Test.YtpkamfjkmbakhaaM12
namespace Go.Proofs.Ytpkamfjkmbakhaa.M
open Go.RowKit Go.Proofs.YtpkamfjkmbakhaaW.PrintWords Go.Proofs.YtpkamfjkmbakhaaW.PrintLast Go.Proofs.YtpkamfjkmbakhaaW.PrintMore
attribute [local go_sem] max2_int min2_int max_two min_two max_three min_three max_four min_four   -- for this text's walks alone
set_option linter.unusedVariables false
set_option linter.unusedSimpArgs false

/-! ### tailwaterlaw04_NodesTells: function 8 -/
def tailwaterlaw04_NodesTells.f (k : Nat) (l0 : List (S36)) (a1 : Int) (a2 : Int) : Option (Bool) := (tailwaterref04_Great.f l0).bind fun t235 => (if t235 = true then (some true) else ((some (([] : List (S36)) : List (S36))).bind fun y236 => (if y236.length + l0.length < 3518437208883 then ((some (y236 ++ l0 : List (S36))).bind fun y239 => ((nodes_Depth.f k y239).bind fun bt242 => ((tailwaterref04_Depth.f k l0).bind fun bt244 => ((nodes_Size.f k y239 a1).bind fun bt246 => ((tailwaterref04_Size.f k l0 a1).bind fun bt248 => ((nodes_Part.f k y239 a1).bind fun bt250 => ((tailwaterref04_Part.f k l0 a1).bind fun bt254 => ((nodes_Parts.f k a2).bind fun bt258 => ((tailwaterref04_Parts.f a2).bind fun bt260 => ((nodes_Check.f k y239).bind fun t262 => ((tailwaterref04_Check.f k l0).bind fun t263 => (if t262 = t263 then (if bt242.1 = bt244.1 then (if bt242.2 = bt244.2 then (if bt246.1 = bt248.1 then (if bt246.2 = bt248.2 then ((tailwaterref04_Equal.f k bt250.1 bt254.1).bind fun t264 => (if t264 = true then (if bt250.2 = bt254.2 then (if bt258.1 = bt260.1 then (if bt258.2 = bt260.2 then ((tailwaterref04_Equal.f k y239 l0).bind fun t265 => (some t265)) else (some false)) else (some false)) else (some false)) else (some false))) else (some false)) else (some false)) else (some false)) else (some false)) else (some false))))))))))))) else (none))))
theorem tailwaterlaw04_NodesTells.mono : ∀ a0 a1 a2 k, LeO (tailwaterlaw04_NodesTells.f k a0 a1 a2) (tailwaterlaw04_NodesTells.f (k + 1) a0 a1 a2) := by
  intro a0 a1 a2 k
  unfold tailwaterlaw04_NodesTells.f
  repeat' first
      | (with_reducible exact nodes_Check.mono _ _)
      | (with_reducible exact nodes_Depth.mono _ _)
      | (with_reducible exact nodes_Part.mono _ _ _)
      | (with_reducible exact nodes_Parts.mono _ _)
      | (with_reducible exact nodes_Size.mono _ _ _)
      | (with_reducible exact tailwaterref04_Check.mono _ _)
      | (with_reducible exact tailwaterref04_Depth.mono _ _)
      | (with_reducible exact tailwaterref04_Equal.mono _ _ _)
      | (with_reducible exact tailwaterref04_Part.mono _ _ _)
      | (with_reducible exact tailwaterref04_Size.mono _ _ _)
      | (with_reducible exact LeO.refl _)
      | (with_reducible exact LeO.none _)
      | (with_reducible refine LeO.ite ?_ ?_)
      | (with_reducible refine LeO.bind ?_ (fun _ => ?_))
      | exact nodes_Check.mono _ _
      | exact nodes_Depth.mono _ _
      | exact nodes_Part.mono _ _ _
      | exact nodes_Parts.mono _ _
      | exact nodes_Size.mono _ _ _
      | exact tailwaterref04_Check.mono _ _
      | exact tailwaterref04_Depth.mono _ _
      | exact tailwaterref04_Equal.mono _ _ _
      | exact tailwaterref04_Part.mono _ _ _
      | exact tailwaterref04_Size.mono _ _ _
      | exact LeO.none _
      | refine LeO.ite ?_ ?_
      | refine LeO.bind ?_ (fun _ => ?_)
set_option maxHeartbeats 8000000 in
set_option maxRecDepth 100000 in
theorem tailwaterlaw04_NodesTells.calls (k : Nat) (A0 : Option Addr) (c0 : Nat) (l0 : List (S36)) (a1 : Int) (a2 : Int) (w : World) (hr0 : Kd.C k36 w A0 l0.length l0) (hc0 : l0.length ≤ c0) (h : tailwaterlaw04_NodesTells.f k l0 a1 a2 = some true) :
    Calls Try.prog 8 #[.slice A0 l0.length c0, .int .i64 a1, .int .u8 a2] w fun e w' => e = .returned (.bool true) ∧ Below w.heap.size w w' := by
  have HR0 := Aside0.mk hr0
  have HC0 := Aside0.mk hc0
  clear hr0 hc0
  have HB := Aside0.mk (Below.refl w.heap.size w)
  have H : ((tailwaterref04_Great.f l0).bind fun t235 => (if t235 = true then (some true) else ((some (([] : List (S36)) : List (S36))).bind fun y236 => (if y236.length + l0.length < 3518437208883 then ((some (y236 ++ l0 : List (S36))).bind fun y239 => ((nodes_Depth.f k y239).bind fun bt242 => ((tailwaterref04_Depth.f k l0).bind fun bt244 => ((nodes_Size.f k y239 a1).bind fun bt246 => ((tailwaterref04_Size.f k l0 a1).bind fun bt248 => ((nodes_Part.f k y239 a1).bind fun bt250 => ((tailwaterref04_Part.f k l0 a1).bind fun bt254 => ((nodes_Parts.f k a2).bind fun bt258 => ((tailwaterref04_Parts.f a2).bind fun bt260 => ((nodes_Check.f k y239).bind fun t262 => ((tailwaterref04_Check.f k l0).bind fun t263 => (if t262 = t263 then (if bt242.1 = bt244.1 then (if bt242.2 = bt244.2 then (if bt246.1 = bt248.1 then (if bt246.2 = bt248.2 then ((tailwaterref04_Equal.f k bt250.1 bt254.1).bind fun t264 => (if t264 = true then (if bt250.2 = bt254.2 then (if bt258.1 = bt260.1 then (if bt258.2 = bt260.2 then ((tailwaterref04_Equal.f k y239 l0).bind fun t265 => (some t265)) else (some false)) else (some false)) else (some false)) else (some false))) else (some false)) else (some false)) else (some false)) else (some false)) else (some false))))))))))))) else (none))))) = some true := h
  clear h
  replace H := Option.bind_eq_some_iff.mp H
  obtain ⟨t235, A40, H⟩ := H
  replace H : (if t235 = true then (some true) else ((some (([] : List (S36)) : List (S36))).bind fun y236 => (if y236.length + l0.length < 3518437208883 then ((some (y236 ++ l0 : List (S36))).bind fun y239 => ((nodes_Depth.f k y239).bind fun bt242 => ((tailwaterref04_Depth.f k l0).bind fun bt244 => ((nodes_Size.f k y239 a1).bind fun bt246 => ((tailwaterref04_Size.f k l0 a1).bind fun bt248 => ((nodes_Part.f k y239 a1).bind fun bt250 => ((tailwaterref04_Part.f k l0 a1).bind fun bt254 => ((nodes_Parts.f k a2).bind fun bt258 => ((tailwaterref04_Parts.f a2).bind fun bt260 => ((nodes_Check.f k y239).bind fun t262 => ((tailwaterref04_Check.f k l0).bind fun t263 => (if t262 = t263 then (if bt242.1 = bt244.1 then (if bt242.2 = bt244.2 then (if bt246.1 = bt248.1 then (if bt246.2 = bt248.2 then ((tailwaterref04_Equal.f k bt250.1 bt254.1).bind fun t264 => (if t264 = true then (if bt250.2 = bt254.2 then (if bt258.1 = bt260.1 then (if bt258.2 = bt260.2 then ((tailwaterref04_Equal.f k y239 l0).bind fun t265 => (some t265)) else (some false)) else (some false)) else (some false)) else (some false))) else (some false)) else (some false)) else (some false)) else (some false)) else (some false))))))))))))) else (none)))) = some true := H
  have A4 := Aside0.mk A40
  clear A40
  by_cases c5 : t235 = true
  · subst c5
    have H1 : (some true) = some true := rfl
    clear H
    have H := H1
    clear H1
    clear H
    go_enter Try.func8, Try.ntmps8
    go_wp2_with (first | ((with_reducible refine gate_callee (f := 33) rfl ?_); refine goesL_ (some 25) rfl rfl Try.func33 (by kernel_rfl) rfl #[.slice A0 l0.length c0] rfl (by (try simp only [List.map_toArray, List.map_cons, List.map_nil]); first | done | rfl | (simp only [List.length_drop, List.length_take]; rfl)) ?_; (with_reducible refine (tailwaterref04_Great.calls _ _ l0 true _ ?side1 ?side2 A4.out).mono ?_); (case side1 => repeat (first | exact HR0.out | (with_reducible refine Kd.C_alloc ?_ _) | (with_reducible refine Kd.C_drewN ?_ _) | (with_reducible refine Kd.C_drew ?_))); (case side2 => exact HC0.out); rintro e w' ⟨rfl, ⟨nd, rfl⟩⟩; refine ⟨_, rfl, ?_⟩))
    go_ret
    exact ⟨by first | rfl | (simp [errW_none, errW_some] <;> rfl) | (simp [*, errW_none, errW_some] <;> rfl), by repeat (first | (with_reducible first | exact HB.out | apply below_alloc | apply pw_below_drewN | apply below_drew1) | exact HB.out)⟩
  · replace c5 := Bool.eq_false_iff.mpr c5
    subst c5
    have H1 : ((some (([] : List (S36)) : List (S36))).bind fun y236 => (if y236.length + l0.length < 3518437208883 then ((some (y236 ++ l0 : List (S36))).bind fun y239 => ((nodes_Depth.f k y239).bind fun bt242 => ((tailwaterref04_Depth.f k l0).bind fun bt244 => ((nodes_Size.f k y239 a1).bind fun bt246 => ((tailwaterref04_Size.f k l0 a1).bind fun bt248 => ((nodes_Part.f k y239 a1).bind fun bt250 => ((tailwaterref04_Part.f k l0 a1).bind fun bt254 => ((nodes_Parts.f k a2).bind fun bt258 => ((tailwaterref04_Parts.f a2).bind fun bt260 => ((nodes_Check.f k y239).bind fun t262 => ((tailwaterref04_Check.f k l0).bind fun t263 => (if t262 = t263 then (if bt242.1 = bt244.1 then (if bt242.2 = bt244.2 then (if bt246.1 = bt248.1 then (if bt246.2 = bt248.2 then ((tailwaterref04_Equal.f k bt250.1 bt254.1).bind fun t264 => (if t264 = true then (if bt250.2 = bt254.2 then (if bt258.1 = bt260.1 then (if bt258.2 = bt260.2 then ((tailwaterref04_Equal.f k y239 l0).bind fun t265 => (some t265)) else (some false)) else (some false)) else (some false)) else (some false))) else (some false)) else (some false)) else (some false)) else (some false)) else (some false))))))))))))) else (none))) = some true := by rw [if_neg (show ¬ (false = true) by decide)] at H; exact H
    clear H
    have H := H1
    clear H1
    obtain ⟨y236, hy236⟩ : ∃ y_ : List (S36), y_ = (([] : List (S36))) := ⟨_, rfl⟩
    replace H : (if y236.length + l0.length < 3518437208883 then ((some (y236 ++ l0 : List (S36))).bind fun y239 => ((nodes_Depth.f k y239).bind fun bt242 => ((tailwaterref04_Depth.f k l0).bind fun bt244 => ((nodes_Size.f k y239 a1).bind fun bt246 => ((tailwaterref04_Size.f k l0 a1).bind fun bt248 => ((nodes_Part.f k y239 a1).bind fun bt250 => ((tailwaterref04_Part.f k l0 a1).bind fun bt254 => ((nodes_Parts.f k a2).bind fun bt258 => ((tailwaterref04_Parts.f a2).bind fun bt260 => ((nodes_Check.f k y239).bind fun t262 => ((tailwaterref04_Check.f k l0).bind fun t263 => (if t262 = t263 then (if bt242.1 = bt244.1 then (if bt242.2 = bt244.2 then (if bt246.1 = bt248.1 then (if bt246.2 = bt248.2 then ((tailwaterref04_Equal.f k bt250.1 bt254.1).bind fun t264 => (if t264 = true then (if bt250.2 = bt254.2 then (if bt258.1 = bt260.1 then (if bt258.2 = bt260.2 then ((tailwaterref04_Equal.f k y239 l0).bind fun t265 => (some t265)) else (some false)) else (some false)) else (some false)) else (some false))) else (some false)) else (some false)) else (some false)) else (some false)) else (some false))))))))))))) else (none)) = some true := by first | (rw [hy236]; with_reducible exact H) | (have H2_ := (Option.bind_some _ _).symm.trans H; rw [hy236]; with_reducible exact H2_) | (have H2_ := (Option.bind_some _ _).symm.trans H; with_reducible exact H2_) | with_reducible exact H | (rw [hy236]; exact H) | exact H
    have Ny236 := Aside0.mk hy236
    clear hy236
    by_cases c6 : y236.length + l0.length < 3518437208883
    · rw [if_pos c6] at H
      have LMc6 := Aside0.mk c6
      clear c6
      obtain ⟨y239, hy239⟩ : ∃ y_ : List (S36), y_ = (y236 ++ l0) := ⟨_, rfl⟩
      replace H : ((nodes_Depth.f k y239).bind fun bt242 => ((tailwaterref04_Depth.f k l0).bind fun bt244 => ((nodes_Size.f k y239 a1).bind fun bt246 => ((tailwaterref04_Size.f k l0 a1).bind fun bt248 => ((nodes_Part.f k y239 a1).bind fun bt250 => ((tailwaterref04_Part.f k l0 a1).bind fun bt254 => ((nodes_Parts.f k a2).bind fun bt258 => ((tailwaterref04_Parts.f a2).bind fun bt260 => ((nodes_Check.f k y239).bind fun t262 => ((tailwaterref04_Check.f k l0).bind fun t263 => (if t262 = t263 then (if bt242.1 = bt244.1 then (if bt242.2 = bt244.2 then (if bt246.1 = bt248.1 then (if bt246.2 = bt248.2 then ((tailwaterref04_Equal.f k bt250.1 bt254.1).bind fun t264 => (if t264 = true then (if bt250.2 = bt254.2 then (if bt258.1 = bt260.1 then (if bt258.2 = bt260.2 then ((tailwaterref04_Equal.f k y239 l0).bind fun t265 => (some t265)) else (some false)) else (some false)) else (some false)) else (some false))) else (some false)) else (some false)) else (some false)) else (some false)) else (some false)))))))))))) = some true := by first | (rw [hy239]; with_reducible exact H) | (have H2_ := (Option.bind_some _ _).symm.trans H; rw [hy239]; with_reducible exact H2_) | (have H2_ := (Option.bind_some _ _).symm.trans H; with_reducible exact H2_) | with_reducible exact H | (rw [hy239]; exact H) | exact H
      have Ny239 := Aside0.mk hy239
      clear hy239
      replace H := Option.bind_eq_some_iff.mp H
      obtain ⟨⟨t242, t243⟩, A70, H⟩ := H
      replace H : ((tailwaterref04_Depth.f k l0).bind fun bt244 => ((nodes_Size.f k y239 a1).bind fun bt246 => ((tailwaterref04_Size.f k l0 a1).bind fun bt248 => ((nodes_Part.f k y239 a1).bind fun bt250 => ((tailwaterref04_Part.f k l0 a1).bind fun bt254 => ((nodes_Parts.f k a2).bind fun bt258 => ((tailwaterref04_Parts.f a2).bind fun bt260 => ((nodes_Check.f k y239).bind fun t262 => ((tailwaterref04_Check.f k l0).bind fun t263 => (if t262 = t263 then (if t242 = bt244.1 then (if t243 = bt244.2 then (if bt246.1 = bt248.1 then (if bt246.2 = bt248.2 then ((tailwaterref04_Equal.f k bt250.1 bt254.1).bind fun t264 => (if t264 = true then (if bt250.2 = bt254.2 then (if bt258.1 = bt260.1 then (if bt258.2 = bt260.2 then ((tailwaterref04_Equal.f k y239 l0).bind fun t265 => (some t265)) else (some false)) else (some false)) else (some false)) else (some false))) else (some false)) else (some false)) else (some false)) else (some false)) else (some false))))))))))) = some true := H
      have A7 := Aside0.mk A70
      clear A70
      replace H := Option.bind_eq_some_iff.mp H
      obtain ⟨⟨t244, t245⟩, A80, H⟩ := H
      replace H : ((nodes_Size.f k y239 a1).bind fun bt246 => ((tailwaterref04_Size.f k l0 a1).bind fun bt248 => ((nodes_Part.f k y239 a1).bind fun bt250 => ((tailwaterref04_Part.f k l0 a1).bind fun bt254 => ((nodes_Parts.f k a2).bind fun bt258 => ((tailwaterref04_Parts.f a2).bind fun bt260 => ((nodes_Check.f k y239).bind fun t262 => ((tailwaterref04_Check.f k l0).bind fun t263 => (if t262 = t263 then (if t242 = t244 then (if t243 = t245 then (if bt246.1 = bt248.1 then (if bt246.2 = bt248.2 then ((tailwaterref04_Equal.f k bt250.1 bt254.1).bind fun t264 => (if t264 = true then (if bt250.2 = bt254.2 then (if bt258.1 = bt260.1 then (if bt258.2 = bt260.2 then ((tailwaterref04_Equal.f k y239 l0).bind fun t265 => (some t265)) else (some false)) else (some false)) else (some false)) else (some false))) else (some false)) else (some false)) else (some false)) else (some false)) else (some false)))))))))) = some true := H
      have A8 := Aside0.mk A80
      clear A80
      replace H := Option.bind_eq_some_iff.mp H
      obtain ⟨⟨t246, t247⟩, A90, H⟩ := H
      replace H : ((tailwaterref04_Size.f k l0 a1).bind fun bt248 => ((nodes_Part.f k y239 a1).bind fun bt250 => ((tailwaterref04_Part.f k l0 a1).bind fun bt254 => ((nodes_Parts.f k a2).bind fun bt258 => ((tailwaterref04_Parts.f a2).bind fun bt260 => ((nodes_Check.f k y239).bind fun t262 => ((tailwaterref04_Check.f k l0).bind fun t263 => (if t262 = t263 then (if t242 = t244 then (if t243 = t245 then (if t246 = bt248.1 then (if t247 = bt248.2 then ((tailwaterref04_Equal.f k bt250.1 bt254.1).bind fun t264 => (if t264 = true then (if bt250.2 = bt254.2 then (if bt258.1 = bt260.1 then (if bt258.2 = bt260.2 then ((tailwaterref04_Equal.f k y239 l0).bind fun t265 => (some t265)) else (some false)) else (some false)) else (some false)) else (some false))) else (some false)) else (some false)) else (some false)) else (some false)) else (some false))))))))) = some true := H
      have A9 := Aside0.mk A90
      clear A90
      replace H := Option.bind_eq_some_iff.mp H
      obtain ⟨⟨t248, t249⟩, A100, H⟩ := H
      replace H : ((nodes_Part.f k y239 a1).bind fun bt250 => ((tailwaterref04_Part.f k l0 a1).bind fun bt254 => ((nodes_Parts.f k a2).bind fun bt258 => ((tailwaterref04_Parts.f a2).bind fun bt260 => ((nodes_Check.f k y239).bind fun t262 => ((tailwaterref04_Check.f k l0).bind fun t263 => (if t262 = t263 then (if t242 = t244 then (if t243 = t245 then (if t246 = t248 then (if t247 = t249 then ((tailwaterref04_Equal.f k bt250.1 bt254.1).bind fun t264 => (if t264 = true then (if bt250.2 = bt254.2 then (if bt258.1 = bt260.1 then (if bt258.2 = bt260.2 then ((tailwaterref04_Equal.f k y239 l0).bind fun t265 => (some t265)) else (some false)) else (some false)) else (some false)) else (some false))) else (some false)) else (some false)) else (some false)) else (some false)) else (some false)))))))) = some true := H
      have A10 := Aside0.mk A100
      clear A100
      replace H := Option.bind_eq_some_iff.mp H
      obtain ⟨⟨t250, t251⟩, A110, H⟩ := H
      replace H : ((tailwaterref04_Part.f k l0 a1).bind fun bt254 => ((nodes_Parts.f k a2).bind fun bt258 => ((tailwaterref04_Parts.f a2).bind fun bt260 => ((nodes_Check.f k y239).bind fun t262 => ((tailwaterref04_Check.f k l0).bind fun t263 => (if t262 = t263 then (if t242 = t244 then (if t243 = t245 then (if t246 = t248 then (if t247 = t249 then ((tailwaterref04_Equal.f k t250 bt254.1).bind fun t264 => (if t264 = true then (if t251 = bt254.2 then (if bt258.1 = bt260.1 then (if bt258.2 = bt260.2 then ((tailwaterref04_Equal.f k y239 l0).bind fun t265 => (some t265)) else (some false)) else (some false)) else (some false)) else (some false))) else (some false)) else (some false)) else (some false)) else (some false)) else (some false))))))) = some true := H
      have A11 := Aside0.mk A110
      clear A110
      replace H := Option.bind_eq_some_iff.mp H
      obtain ⟨⟨t254, t255⟩, A120, H⟩ := H
      replace H : ((nodes_Parts.f k a2).bind fun bt258 => ((tailwaterref04_Parts.f a2).bind fun bt260 => ((nodes_Check.f k y239).bind fun t262 => ((tailwaterref04_Check.f k l0).bind fun t263 => (if t262 = t263 then (if t242 = t244 then (if t243 = t245 then (if t246 = t248 then (if t247 = t249 then ((tailwaterref04_Equal.f k t250 t254).bind fun t264 => (if t264 = true then (if t251 = t255 then (if bt258.1 = bt260.1 then (if bt258.2 = bt260.2 then ((tailwaterref04_Equal.f k y239 l0).bind fun t265 => (some t265)) else (some false)) else (some false)) else (some false)) else (some false))) else (some false)) else (some false)) else (some false)) else (some false)) else (some false)))))) = some true := H
      have A12 := Aside0.mk A120
      clear A120
      replace H := Option.bind_eq_some_iff.mp H
      obtain ⟨⟨t258, t259⟩, A130, H⟩ := H
      replace H : ((tailwaterref04_Parts.f a2).bind fun bt260 => ((nodes_Check.f k y239).bind fun t262 => ((tailwaterref04_Check.f k l0).bind fun t263 => (if t262 = t263 then (if t242 = t244 then (if t243 = t245 then (if t246 = t248 then (if t247 = t249 then ((tailwaterref04_Equal.f k t250 t254).bind fun t264 => (if t264 = true then (if t251 = t255 then (if t258 = bt260.1 then (if t259 = bt260.2 then ((tailwaterref04_Equal.f k y239 l0).bind fun t265 => (some t265)) else (some false)) else (some false)) else (some false)) else (some false))) else (some false)) else (some false)) else (some false)) else (some false)) else (some false))))) = some true := H
      have A13 := Aside0.mk A130
      clear A130
      replace H := Option.bind_eq_some_iff.mp H
      obtain ⟨⟨t260, t261⟩, A140, H⟩ := H
      replace H : ((nodes_Check.f k y239).bind fun t262 => ((tailwaterref04_Check.f k l0).bind fun t263 => (if t262 = t263 then (if t242 = t244 then (if t243 = t245 then (if t246 = t248 then (if t247 = t249 then ((tailwaterref04_Equal.f k t250 t254).bind fun t264 => (if t264 = true then (if t251 = t255 then (if t258 = t260 then (if t259 = t261 then ((tailwaterref04_Equal.f k y239 l0).bind fun t265 => (some t265)) else (some false)) else (some false)) else (some false)) else (some false))) else (some false)) else (some false)) else (some false)) else (some false)) else (some false)))) = some true := H
      have A14 := Aside0.mk A140
      clear A140
      replace H := Option.bind_eq_some_iff.mp H
      obtain ⟨t262, A150, H⟩ := H
      replace H : ((tailwaterref04_Check.f k l0).bind fun t263 => (if t262 = t263 then (if t242 = t244 then (if t243 = t245 then (if t246 = t248 then (if t247 = t249 then ((tailwaterref04_Equal.f k t250 t254).bind fun t264 => (if t264 = true then (if t251 = t255 then (if t258 = t260 then (if t259 = t261 then ((tailwaterref04_Equal.f k y239 l0).bind fun t265 => (some t265)) else (some false)) else (some false)) else (some false)) else (some false))) else (some false)) else (some false)) else (some false)) else (some false)) else (some false))) = some true := H
      have A15 := Aside0.mk A150
      clear A150
      replace H := Option.bind_eq_some_iff.mp H
      obtain ⟨t263, A160, H⟩ := H
      replace H : (if t262 = t263 then (if t242 = t244 then (if t243 = t245 then (if t246 = t248 then (if t247 = t249 then ((tailwaterref04_Equal.f k t250 t254).bind fun t264 => (if t264 = true then (if t251 = t255 then (if t258 = t260 then (if t259 = t261 then ((tailwaterref04_Equal.f k y239 l0).bind fun t265 => (some t265)) else (some false)) else (some false)) else (some false)) else (some false))) else (some false)) else (some false)) else (some false)) else (some false)) else (some false)) = some true := H
      have A16 := Aside0.mk A160
      clear A160
      by_cases c17 : t262 = t263
      · rw [if_pos c17] at H
        have c17b0 : (t262 == t263) = true := beq_iff_eq.mpr c17
        have c17b1 : (t262 != t263) = false := bne_eq_false_iff_eq.mpr c17
        clear c17
        by_cases c18 : t242 = t244
        · rw [if_pos c18] at H
          have c18b0 : (t242 == t244) = true := beq_iff_eq.mpr c18
          have c18b1 : (t242 != t244) = false := bne_eq_false_iff_eq.mpr c18
          clear c18
          by_cases c19 : t243 = t245
          · rw [if_pos c19] at H
            have c19b0 : (t243 == t245) = true := beq_iff_eq.mpr c19
            have c19b1 : (t243 != t245) = false := bne_eq_false_iff_eq.mpr c19
            clear c19
            by_cases c20 : t246 = t248
            · rw [if_pos c20] at H
              have c20b0 : (t246 == t248) = true := beq_iff_eq.mpr c20
              have c20b1 : (t246 != t248) = false := bne_eq_false_iff_eq.mpr c20
              clear c20
              by_cases c21 : t247 = t249
              · rw [if_pos c21] at H
                have c21b0 : (t247 == t249) = true := beq_iff_eq.mpr c21
                have c21b1 : (t247 != t249) = false := bne_eq_false_iff_eq.mpr c21
                clear c21
                replace H := Option.bind_eq_some_iff.mp H
                obtain ⟨t264, A220, H⟩ := H
                replace H : (if t264 = true then (if t251 = t255 then (if t258 = t260 then (if t259 = t261 then ((tailwaterref04_Equal.f k y239 l0).bind fun t265 => (some t265)) else (some false)) else (some false)) else (some false)) else (some false)) = some true := H
                have A22 := Aside0.mk A220
                clear A220
                by_cases c23 : t264 = true
                · subst c23
                  have H1 : (if t251 = t255 then (if t258 = t260 then (if t259 = t261 then ((tailwaterref04_Equal.f k y239 l0).bind fun t265 => (some t265)) else (some false)) else (some false)) else (some false)) = some true := by rw [if_pos rfl] at H; exact H
                  clear H
                  have H := H1
                  clear H1
                  by_cases c24 : t251 = t255
                  · rw [if_pos c24] at H
                    have c24b0 : (t251 == t255) = true := beq_iff_eq.mpr c24
                    have c24b1 : (t251 != t255) = false := bne_eq_false_iff_eq.mpr c24
                    clear c24
                    by_cases c25 : t258 = t260
                    · rw [if_pos c25] at H
                      have c25b0 : (t258 == t260) = true := beq_iff_eq.mpr c25
                      have c25b1 : (t258 != t260) = false := bne_eq_false_iff_eq.mpr c25
                      clear c25
                      by_cases c26 : t259 = t261
                      · rw [if_pos c26] at H
                        have c26b0 : (t259 == t261) = true := beq_iff_eq.mpr c26
                        have c26b1 : (t259 != t261) = false := bne_eq_false_iff_eq.mpr c26
                        clear c26
                        replace H := Option.bind_eq_some_iff.mp H
                        obtain ⟨t265, A270, H⟩ := H
                        replace H : (some t265) = some true := H
                        have A27 := Aside0.mk A270
                        clear A270
                        have hv_ := Option.some.inj H
                        clear H
                        go_enter Try.func8, Try.ntmps8
                        go_wp2_with (first | ((with_reducible refine gate_callee (f := 33) rfl ?_); refine goesL_ (some 25) rfl rfl Try.func33 (by kernel_rfl) rfl #[.slice A0 l0.length c0] rfl (by (try simp only [List.map_toArray, List.map_cons, List.map_nil]); first | done | rfl | (simp only [List.length_drop, List.length_take]; rfl)) ?_; (with_reducible refine (tailwaterref04_Great.calls _ _ l0 false _ ?side1 ?side2 A4.out).mono ?_); (case side1 => repeat (first | exact HR0.out | (with_reducible refine Kd.C_alloc ?_ _) | (with_reducible refine Kd.C_drewN ?_ _) | (with_reducible refine Kd.C_drew ?_))); (case side2 => exact HC0.out); rintro e w' ⟨rfl, ⟨nd, rfl⟩⟩; refine ⟨_, rfl, ?_⟩) | ((with_reducible refine gate_dst (N := 26) rfl ?_); refine Kd.R_lit k36 _ 36 ?hg (N := 26) ?hd (xs := ([] : List (S36))) (inner := []) (ok := fun _ => True) (okp := fun _ => True) ?hr ?hp (fun _ hk => hk) trivial (Below.refl _ _) (Nat.le_refl _) (by simp) ?_; (case hd => rfl); (case hg => rfl); (case hr => first | (go_simp; done) | (go_simp; rfl)); (case hp => exact (Reps.none _ _)); intro v237 w28 ho29 hb hg_ hnew_; clear hg_ hnew_; (first | rw [← Ny236.out] at ho29 | (simp only [Int.reduceToNat] at ho29; rw [← Ny236.out] at ho29)); have n0_ := Aside0.mk (Kd.R_lower ho29 (below_size (by repeat (first | (with_reducible first | exact HB.out | apply below_alloc | apply pw_below_drewN | apply below_drew1) | exact HB.out)))); have n1_ := Aside0.mk (below_step (by repeat (first | (with_reducible first | exact HB.out | apply below_alloc | apply pw_below_drewN | apply below_drew1) | exact HB.out)) hb); clear HB; have HO238 := n0_; have HB := n1_; clear n0_ n1_; clear hb ho29) | ((with_reducible refine gate_builtin (b := .append) (xs := #[.tmp 26, .tmp 27]) rfl ?_); at_builtin; refine Kd.R_append_rows k36 (w0 := w) w.heap.size rfl (.tmp 26) (.tmp 27) 22 36 (.agg #[(.int .u8 0), (.int .i64 0), (.int .i64 0), (.int .i64 0), (.int .i64 0)]) 40 rfl Try.underlying22 info36 rfl (by decide) (by omega) v237 y236 l0 _ _ _ (fun _ => True) (fun _ => False) rfl rfl ?aO ?aR (fun _ _ h => h) (fun _ h => h.elim) ?aF ?aB ?aS ?aL ?_; (case aR => repeat (first | exact (Kd.C_below HR0.out HB.out) | (with_reducible refine Kd.C_alloc ?_ _) | (with_reducible refine Kd.C_drewN ?_ _) | (with_reducible refine Kd.C_drew ?_))); (case aB => exact (by repeat (first | (with_reducible first | exact HB.out | apply below_alloc | apply pw_below_drewN | apply below_drew1) | exact HB.out))); (case aF => exact (fun _ _ => trivial)); (case aO => exact (by (with_reducible repeat (first | apply Kd.R_alloc | apply Kd.R_drewN | apply Kd.R_drew)); exact HO238.out)); (case aS => exact (below_size (by repeat (first | (with_reducible first | exact HB.out | apply below_alloc | apply pw_below_drewN | apply below_drew1) | exact HB.out)))); (case aL => have := LMc6.out; omega); intro v240 w30 ho hb hg hat; rw [← Ny239.out] at ho; have n0_ := Aside0.mk (hb); have n1_ := Aside0.mk (ho); clear HB; clear HO238; have HB := n0_; have HO241 := n1_; clear n0_ n1_; clear ho hb hg hat; obtain ⟨Ao31, co31, eo31⟩ := Kd.R_slice HO241.out; subst eo31) | ((with_reducible refine gate_callee (f := 38) rfl ?_); refine goesL_ (some 31) rfl rfl Try.func38 (by kernel_rfl) rfl #[.slice Ao31 y239.length co31] rfl (by (try simp only [List.map_toArray, List.map_cons, List.map_nil]); first | done | rfl | (simp only [List.length_drop, List.length_take]; rfl)) ?_; (with_reducible refine (nodes_Depth.calls k _ _ y239 t242 t243 _ ?side1 ?side2 A7.out).mono ?_); (case side1 => repeat (first | exact (Kd.R_reads' HO241.out).2.2 | (with_reducible refine Kd.C_alloc ?_ _) | (with_reducible refine Kd.C_drewN ?_ _) | (with_reducible refine Kd.C_drew ?_))); (case side2 => exact (Kd.R_reads' HO241.out).2.1); rintro e w32 ⟨rfl, hb⟩; refine ⟨_, rfl, ?_⟩; have n0_ := Aside0.mk (Kd.R_below (by (with_reducible repeat (first | apply Kd.R_alloc | apply Kd.R_drewN | apply Kd.R_drew)); exact HO241.out) hb); have n1_ := Aside0.mk (below_step (by repeat (first | (with_reducible first | exact HB.out | apply below_alloc | apply pw_below_drewN | apply below_drew1) | exact HB.out)) hb); clear HO241; clear HB; have HO241 := n0_; have HB := n1_; clear n0_ n1_; (try clear hb); (try clear hb2); (try clear hk); (try clear hi)) | ((with_reducible refine gate_callee (f := 41) rfl ?_); refine goesL_ (some 36) rfl rfl Try.func41 (by kernel_rfl) rfl #[.slice A0 l0.length c0] rfl (by (try simp only [List.map_toArray, List.map_cons, List.map_nil]); first | done | rfl | (simp only [List.length_drop, List.length_take]; rfl)) ?_; (with_reducible refine (tailwaterref04_Depth.calls k _ _ l0 t244 t245 _ ?side1 ?side2 A8.out).mono ?_); (case side1 => repeat (first | exact (Kd.C_below HR0.out HB.out) | (with_reducible refine Kd.C_alloc ?_ _) | (with_reducible refine Kd.C_drewN ?_ _) | (with_reducible refine Kd.C_drew ?_))); (case side2 => exact HC0.out); rintro e w33 ⟨rfl, hb⟩; refine ⟨_, rfl, ?_⟩; have n0_ := Aside0.mk (Kd.R_below (by (with_reducible repeat (first | apply Kd.R_alloc | apply Kd.R_drewN | apply Kd.R_drew)); exact HO241.out) hb); have n1_ := Aside0.mk (below_step (by repeat (first | (with_reducible first | exact HB.out | apply below_alloc | apply pw_below_drewN | apply below_drew1) | exact HB.out)) hb); clear HO241; clear HB; have HO241 := n0_; have HB := n1_; clear n0_ n1_; (try clear hb); (try clear hb2); (try clear hk); (try clear hi)) | ((with_reducible refine gate_callee (f := 36) rfl ?_); refine goesL_ (some 42) rfl rfl Try.func36 (by kernel_rfl) rfl #[.slice Ao31 y239.length co31, .int .i64 a1] rfl (by (try simp only [List.map_toArray, List.map_cons, List.map_nil]); first | done | rfl | (simp only [List.length_drop, List.length_take]; rfl)) ?_; (with_reducible refine (nodes_Size.calls k _ _ y239 a1 t246 t247 _ ?side1 ?side2 A9.out).mono ?_); (case side1 => repeat (first | exact (Kd.R_reads' HO241.out).2.2 | (with_reducible refine Kd.C_alloc ?_ _) | (with_reducible refine Kd.C_drewN ?_ _) | (with_reducible refine Kd.C_drew ?_))); (case side2 => exact (Kd.R_reads' HO241.out).2.1); rintro e w34 ⟨rfl, hb⟩; refine ⟨_, rfl, ?_⟩; have n0_ := Aside0.mk (Kd.R_below (by (with_reducible repeat (first | apply Kd.R_alloc | apply Kd.R_drewN | apply Kd.R_drew)); exact HO241.out) hb); have n1_ := Aside0.mk (below_step (by repeat (first | (with_reducible first | exact HB.out | apply below_alloc | apply pw_below_drewN | apply below_drew1) | exact HB.out)) hb); clear HO241; clear HB; have HO241 := n0_; have HB := n1_; clear n0_ n1_; (try clear hb); (try clear hb2); (try clear hk); (try clear hi)) | ((with_reducible refine gate_callee (f := 42) rfl ?_); refine goesL_ (some 48) rfl rfl Try.func42 (by kernel_rfl) rfl #[.slice A0 l0.length c0, .int .i64 a1] rfl (by (try simp only [List.map_toArray, List.map_cons, List.map_nil]); first | done | rfl | (simp only [List.length_drop, List.length_take]; rfl)) ?_; (with_reducible refine (tailwaterref04_Size.calls k _ _ l0 a1 t248 t249 _ ?side1 ?side2 A10.out).mono ?_); (case side1 => repeat (first | exact (Kd.C_below HR0.out HB.out) | (with_reducible refine Kd.C_alloc ?_ _) | (with_reducible refine Kd.C_drewN ?_ _) | (with_reducible refine Kd.C_drew ?_))); (case side2 => exact HC0.out); rintro e w35 ⟨rfl, hb⟩; refine ⟨_, rfl, ?_⟩; have n0_ := Aside0.mk (Kd.R_below (by (with_reducible repeat (first | apply Kd.R_alloc | apply Kd.R_drewN | apply Kd.R_drew)); exact HO241.out) hb); have n1_ := Aside0.mk (below_step (by repeat (first | (with_reducible first | exact HB.out | apply below_alloc | apply pw_below_drewN | apply below_drew1) | exact HB.out)) hb); clear HO241; clear HB; have HO241 := n0_; have HB := n1_; clear n0_ n1_; (try clear hb); (try clear hb2); (try clear hk); (try clear hi)) | ((with_reducible refine gate_callee (f := 39) rfl ?_); refine goesL_ (some 54) rfl rfl Try.func39 (by kernel_rfl) rfl #[.slice Ao31 y239.length co31, .int .i64 a1] rfl (by (try simp only [List.map_toArray, List.map_cons, List.map_nil]); first | done | rfl | (simp only [List.length_drop, List.length_take]; rfl)) ?_; (with_reducible refine (nodes_Part.calls k _ _ y239 a1 t250 t251 _ ?side1 ?side2 A11.out).mono ?_); (case side1 => repeat (first | exact (Kd.R_reads' HO241.out).2.2 | (with_reducible refine Kd.C_alloc ?_ _) | (with_reducible refine Kd.C_drewN ?_ _) | (with_reducible refine Kd.C_drew ?_))); (case side2 => exact (Kd.R_reads' HO241.out).2.1); rintro e w36 ⟨v252, rfl, ho0, hb⟩; refine ⟨_, rfl, ?_⟩; have n0_ := Aside0.mk (Kd.R_elder' (by (with_reducible repeat (first | apply Kd.R_alloc | apply Kd.R_drewN | apply Kd.R_drew)); exact HO241.out) (Kd.R_base ho0) hb); have n1_ := Aside0.mk (Kd.R_lower (Kd.R_new' ho0 (Kd.R_lt (by (with_reducible repeat (first | apply Kd.R_alloc | apply Kd.R_drewN | apply Kd.R_drew)); exact HO241.out))) (below_size (by repeat (first | (with_reducible first | exact HB.out | apply below_alloc | apply pw_below_drewN | apply below_drew1) | exact HB.out)))); have n2_ := Aside0.mk (below_step (by repeat (first | (with_reducible first | exact HB.out | apply below_alloc | apply pw_below_drewN | apply below_drew1) | exact HB.out)) hb); clear HO241; clear HB; have HO241 := n0_; have HO253 := n1_; have HB := n2_; clear n0_ n1_ n2_; (try clear hb); (try clear hb2); (try clear hk); (try clear hi); (try clear ho0)) | ((with_reducible refine gate_callee (f := 43) rfl ?_); refine goesL_ (some 60) rfl rfl Try.func43 (by kernel_rfl) rfl #[.slice A0 l0.length c0, .int .i64 a1] rfl (by (try simp only [List.map_toArray, List.map_cons, List.map_nil]); first | done | rfl | (simp only [List.length_drop, List.length_take]; rfl)) ?_; (with_reducible refine (tailwaterref04_Part.calls k _ _ l0 a1 t254 t255 _ ?side1 ?side2 A12.out).mono ?_); (case side1 => repeat (first | exact (Kd.C_below HR0.out HB.out) | (with_reducible refine Kd.C_alloc ?_ _) | (with_reducible refine Kd.C_drewN ?_ _) | (with_reducible refine Kd.C_drew ?_))); (case side2 => exact HC0.out); rintro e w37 ⟨v256, rfl, ho0, hb⟩; refine ⟨_, rfl, ?_⟩; have n0_ := Aside0.mk (Kd.R_elder' (by (with_reducible repeat (first | apply Kd.R_alloc | apply Kd.R_drewN | apply Kd.R_drew)); exact HO241.out) (Kd.R_base ho0) hb); have n1_ := Aside0.mk (Kd.R_elder' (by (with_reducible repeat (first | apply Kd.R_alloc | apply Kd.R_drewN | apply Kd.R_drew)); exact HO253.out) (Kd.R_base ho0) hb); have n2_ := Aside0.mk (Kd.R_lower (Kd.R_new' (Kd.R_new' ho0 (Kd.R_lt (by (with_reducible repeat (first | apply Kd.R_alloc | apply Kd.R_drewN | apply Kd.R_drew)); exact HO241.out))) (Kd.R_lt (by (with_reducible repeat (first | apply Kd.R_alloc | apply Kd.R_drewN | apply Kd.R_drew)); exact HO253.out))) (below_size (by repeat (first | (with_reducible first | exact HB.out | apply below_alloc | apply pw_below_drewN | apply below_drew1) | exact HB.out)))); have n3_ := Aside0.mk (below_step (by repeat (first | (with_reducible first | exact HB.out | apply below_alloc | apply pw_below_drewN | apply below_drew1) | exact HB.out)) hb); clear HO241; clear HO253; clear HB; have HO241 := n0_; have HO253 := n1_; have HO257 := n2_; have HB := n3_; clear n0_ n1_ n2_ n3_; (try clear hb); (try clear hb2); (try clear hk); (try clear hi); (try clear ho0)) | ((with_reducible refine gate_callee (f := 37) rfl ?_); refine goesL_ (some 65) rfl rfl Try.func37 (by kernel_rfl) rfl #[.int .u8 a2] rfl (by (try simp only [List.map_toArray, List.map_cons, List.map_nil]); first | done | rfl | (simp only [List.length_drop, List.length_take]; rfl)) ?_; (with_reducible refine (nodes_Parts.calls k a2 t258 t259 _ A13.out).mono ?_); rintro e w' ⟨rfl, ⟨nd, rfl⟩⟩; refine ⟨_, rfl, ?_⟩) | ((with_reducible refine gate_callee (f := 44) rfl ?_); refine goesL_ (some 70) rfl rfl Try.func44 (by kernel_rfl) rfl #[.int .u8 a2] rfl (by (try simp only [List.map_toArray, List.map_cons, List.map_nil]); first | done | rfl | (simp only [List.length_drop, List.length_take]; rfl)) ?_; (with_reducible refine (tailwaterref04_Parts.calls a2 t260 t261 _ A14.out).mono ?_); rintro e w' ⟨rfl, ⟨nd, rfl⟩⟩; refine ⟨_, rfl, ?_⟩) | ((with_reducible refine gate_callee (f := 45) rfl ?_); refine goesL_ (some 74) rfl rfl Try.func45 (by kernel_rfl) rfl #[.slice Ao31 y239.length co31] rfl (by (try simp only [List.map_toArray, List.map_cons, List.map_nil]); first | done | rfl | (simp only [List.length_drop, List.length_take]; rfl)) ?_; (with_reducible refine (nodes_Check.calls k _ _ y239 t262 _ ?side1 ?side2 A15.out).mono ?_); (case side1 => repeat (first | exact (Kd.R_reads' HO241.out).2.2 | (with_reducible refine Kd.C_alloc ?_ _) | (with_reducible refine Kd.C_drewN ?_ _) | (with_reducible refine Kd.C_drew ?_))); (case side2 => exact (Kd.R_reads' HO241.out).2.1); rintro e w38 ⟨rfl, hb⟩; refine ⟨_, rfl, ?_⟩; have n0_ := Aside0.mk (Kd.R_below (by (with_reducible repeat (first | apply Kd.R_alloc | apply Kd.R_drewN | apply Kd.R_drew)); exact HO241.out) hb); have n1_ := Aside0.mk (Kd.R_below (by (with_reducible repeat (first | apply Kd.R_alloc | apply Kd.R_drewN | apply Kd.R_drew)); exact HO253.out) hb); have n2_ := Aside0.mk (Kd.R_below (by (with_reducible repeat (first | apply Kd.R_alloc | apply Kd.R_drewN | apply Kd.R_drew)); exact HO257.out) hb); have n3_ := Aside0.mk (below_step (by repeat (first | (with_reducible first | exact HB.out | apply below_alloc | apply pw_below_drewN | apply below_drew1) | exact HB.out)) hb); clear HO241; clear HO253; clear HO257; clear HB; have HO241 := n0_; have HO253 := n1_; have HO257 := n2_; have HB := n3_; clear n0_ n1_ n2_ n3_; (try clear hb); (try clear hb2); (try clear hk); (try clear hi)) | ((with_reducible refine gate_callee (f := 34) rfl ?_); refine goesL_ (some 76) rfl rfl Try.func34 (by kernel_rfl) rfl #[.slice A0 l0.length c0] rfl (by (try simp only [List.map_toArray, List.map_cons, List.map_nil]); first | done | rfl | (simp only [List.length_drop, List.length_take]; rfl)) ?_; (with_reducible refine (tailwaterref04_Check.calls k _ _ l0 t263 _ ?side1 ?side2 A16.out).mono ?_); (case side1 => repeat (first | exact (Kd.C_below HR0.out HB.out) | (with_reducible refine Kd.C_alloc ?_ _) | (with_reducible refine Kd.C_drewN ?_ _) | (with_reducible refine Kd.C_drew ?_))); (case side2 => exact HC0.out); rintro e w39 ⟨rfl, hb⟩; refine ⟨_, rfl, ?_⟩; have n0_ := Aside0.mk (Kd.R_below (by (with_reducible repeat (first | apply Kd.R_alloc | apply Kd.R_drewN | apply Kd.R_drew)); exact HO241.out) hb); have n1_ := Aside0.mk (Kd.R_below (by (with_reducible repeat (first | apply Kd.R_alloc | apply Kd.R_drewN | apply Kd.R_drew)); exact HO253.out) hb); have n2_ := Aside0.mk (Kd.R_below (by (with_reducible repeat (first | apply Kd.R_alloc | apply Kd.R_drewN | apply Kd.R_drew)); exact HO257.out) hb); have n3_ := Aside0.mk (below_step (by repeat (first | (with_reducible first | exact HB.out | apply below_alloc | apply pw_below_drewN | apply below_drew1) | exact HB.out)) hb); clear HO241; clear HO253; clear HO257; clear HB; have HO241 := n0_; have HO253 := n1_; have HO257 := n2_; have HB := n3_; clear n0_ n1_ n2_ n3_; (try clear hb); (try clear hb2); (try clear hk); (try clear hi); obtain ⟨Ao40, co40, eo40⟩ := Kd.R_slice HO253.out; subst eo40; obtain ⟨Ao41, co41, eo41⟩ := Kd.R_slice HO257.out; subst eo41) | (go_at_call 40; (with_reducible refine (tailwaterref04_Equal.calls k _ _ t250 _ _ t254 true _ ?side1 ?side2 ?side3 ?side4 A22.out).mono ?_); (case side1 => repeat (first | exact (Kd.R_reads' HO253.out).2.2 | (with_reducible refine Kd.C_alloc ?_ _) | (with_reducible refine Kd.C_drewN ?_ _) | (with_reducible refine Kd.C_drew ?_))); (case side2 => exact (Kd.R_reads' HO253.out).2.1); (case side3 => repeat (first | exact (Kd.R_reads' HO257.out).2.2 | (with_reducible refine Kd.C_alloc ?_ _) | (with_reducible refine Kd.C_drewN ?_ _) | (with_reducible refine Kd.C_drew ?_))); (case side4 => exact (Kd.R_reads' HO257.out).2.1); rintro e w' ⟨rfl, ⟨nd, rfl⟩⟩) | (go_at_call 40; (with_reducible refine (tailwaterref04_Equal.calls k _ _ y239 _ _ l0 t265 _ ?side1 ?side2 ?side3 ?side4 A27.out).mono ?_); (case side1 => repeat (first | exact (Kd.R_reads' HO241.out).2.2 | (with_reducible refine Kd.C_alloc ?_ _) | (with_reducible refine Kd.C_drewN ?_ _) | (with_reducible refine Kd.C_drew ?_))); (case side2 => exact (Kd.R_reads' HO241.out).2.1); (case side3 => repeat (first | exact (Kd.C_below HR0.out (by repeat (first | (with_reducible first | exact HB.out | apply below_alloc | apply pw_below_drewN | apply below_drew1) | exact HB.out))) | (with_reducible refine Kd.C_alloc ?_ _) | (with_reducible refine Kd.C_drewN ?_ _) | (with_reducible refine Kd.C_drew ?_))); (case side4 => exact HC0.out); rintro e w' ⟨rfl, ⟨nd, rfl⟩⟩))
                        go_ret
                        exact ⟨by first | rfl | (simp [errW_none, errW_some] <;> rfl) | (simp [*, errW_none, errW_some] <;> rfl), by repeat (first | (with_reducible first | exact HB.out | apply below_alloc | apply pw_below_drewN | apply below_drew1) | exact HB.out)⟩
                      · rw [if_neg c26] at H
                        have c26b0 : (t259 == t261) = false := beq_eq_false_iff_ne.mpr c26
                        have c26b1 : (t259 != t261) = true := bne_iff_ne.mpr c26
                        exact absurd H (by simp)
                    · rw [if_neg c25] at H
                      have c25b0 : (t258 == t260) = false := beq_eq_false_iff_ne.mpr c25
                      have c25b1 : (t258 != t260) = true := bne_iff_ne.mpr c25
                      exact absurd H (by simp)
                  · rw [if_neg c24] at H
                    have c24b0 : (t251 == t255) = false := beq_eq_false_iff_ne.mpr c24
                    have c24b1 : (t251 != t255) = true := bne_iff_ne.mpr c24
                    exact absurd H (by simp)
                · replace c23 := Bool.eq_false_iff.mpr c23
                  subst c23
                  have H1 : (some false) = some true := by rw [if_neg (show ¬ (false = true) by decide)] at H; exact H
                  clear H
                  have H := H1
                  clear H1
                  exact absurd H (by simp)
              · rw [if_neg c21] at H
                have c21b0 : (t247 == t249) = false := beq_eq_false_iff_ne.mpr c21
                have c21b1 : (t247 != t249) = true := bne_iff_ne.mpr c21
                exact absurd H (by simp)
            · rw [if_neg c20] at H
              have c20b0 : (t246 == t248) = false := beq_eq_false_iff_ne.mpr c20
              have c20b1 : (t246 != t248) = true := bne_iff_ne.mpr c20
              exact absurd H (by simp)
          · rw [if_neg c19] at H
            have c19b0 : (t243 == t245) = false := beq_eq_false_iff_ne.mpr c19
            have c19b1 : (t243 != t245) = true := bne_iff_ne.mpr c19
            exact absurd H (by simp)
        · rw [if_neg c18] at H
          have c18b0 : (t242 == t244) = false := beq_eq_false_iff_ne.mpr c18
          have c18b1 : (t242 != t244) = true := bne_iff_ne.mpr c18
          exact absurd H (by simp)
      · rw [if_neg c17] at H
        have c17b0 : (t262 == t263) = false := beq_eq_false_iff_ne.mpr c17
        have c17b1 : (t262 != t263) = true := bne_iff_ne.mpr c17
        exact absurd H (by simp)
    · rw [if_neg c6] at H
      exact absurd H (by simp)

end Go.Proofs.Ytpkamfjkmbakhaa.M
