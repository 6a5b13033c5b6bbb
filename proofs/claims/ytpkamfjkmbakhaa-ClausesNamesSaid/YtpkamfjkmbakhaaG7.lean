-- Written by a program of this place (wip/prt.py), out of Lean's own print of the program: Lean checks it.
import Derived.Test.YtpkamfjkmbakhaaG0
import Derived.Test.YtpkamfjkmbakhaaG6
import Derived.Test.YtpkamfjkmbakhaaGU
namespace Go.Proofs.Ytpkamfjkmbakhaa.G
open Go.RowKit Go.Proofs.YtpkamfjkmbakhaaW.PrintWords Go.Proofs.YtpkamfjkmbakhaaW.PrintLast Go.Proofs.YtpkamfjkmbakhaaW.PrintMore
attribute [local go_sem] max2_int min2_int max_two min_two max_three min_three max_four min_four   -- for this text's walks alone
set_option linter.unusedVariables false
set_option linter.unusedSimpArgs false

/-! ### tailwaterref04_Check: function 34 -/
def tailwaterref04_Check.f (k : Nat) (l0 : List (S36)) : Option (Int) := if (l0.length : Int) > 60 then (some 4) else ((tailwaterref04_Sizes.f k l0).bind fun bt141 => (if bt141.2.2 = true then (if 0 ≤ (wrap64 ((l0.length : Int) - 1)) then (if (wrap64 ((l0.length : Int) - 1)) < (bt141.2.1.length : Int) then (if (rd bt141.2.1 (wrap64 ((l0.length : Int) - 1))) > 20 then (some 34) else (some 0)) else (none)) else (none)) else (some 8)))
theorem tailwaterref04_Check.mono : ∀ a0 k, LeO (tailwaterref04_Check.f k a0) (tailwaterref04_Check.f (k + 1) a0) := by
 intro a0 k
 unfold tailwaterref04_Check.f
 repeat' first
   | (with_reducible exact tailwaterref04_Sizes.mono _ _)
   | (with_reducible exact LeO.refl _)
   | (with_reducible exact LeO.none _)
   | (with_reducible refine LeO.ite ?_ ?_)
   | (with_reducible refine LeO.bind ?_ (fun _ => ?_))
   | exact tailwaterref04_Sizes.mono _ _
   | exact LeO.none _
   | refine LeO.ite ?_ ?_
   | refine LeO.bind ?_ (fun _ => ?_)
set_option maxHeartbeats 8000000 in
set_option maxRecDepth 100000 in
theorem tailwaterref04_Check.calls (k : Nat) (A0 : Option Addr) (c0 : Nat) (l0 : List (S36)) (r : Int) (w : World) (hr0 : Kd.C k36 w A0 l0.length l0) (hc0 : l0.length ≤ c0) (h : tailwaterref04_Check.f k l0 = some r) :
  Calls Try.prog 34 #[.slice A0 l0.length c0] w fun e w' => e = .returned (.int .i64 r) ∧ Below w.heap.size w w' := by
 have HR0 := zM hr0
 have HC0 := zM hc0
 clear hr0 hc0
 have HB := zM (Below.refl w.heap.size w)
 have H : (if (l0.length : Int) > 60 then (some 4) else ((tailwaterref04_Sizes.f k l0).bind fun bt141 => (if bt141.2.2 = true then (if 0 ≤ (wrap64 ((l0.length : Int) - 1)) then (if (wrap64 ((l0.length : Int) - 1)) < (bt141.2.1.length : Int) then (if (rd bt141.2.1 (wrap64 ((l0.length : Int) - 1))) > 20 then (some 34) else (some 0)) else (none)) else (none)) else (some 8)))) = some r := h
 clear h
 by_cases c2 : (l0.length : Int) > 60
 ·
  rw [if_pos c2] at H
  have c2b0 : decide (60 < (l0.length : Int)) = true := decide_eq_true c2
  have c2b1 : decide (60 < l0.length) = true := decide_eq_true (by omega)
  clear c2
  obtain rfl := Option.some.inj H
  go_enter Try.func34, Try.ntmps34
  go_wp2
  go_ret
  exact ⟨by first | rfl | (simp [errW_none, errW_some] <;> rfl) | (simp [*, errW_none, errW_some] <;> rfl), by repeat (first | (with_reducible first | exact HB.out | apply zC | apply zP | apply zO) | exact HB.out)⟩
 ·
  rw [if_neg c2] at H
  have c2b0 : decide (60 < (l0.length : Int)) = false := decide_eq_false c2
  have c2b1 : decide (60 < l0.length) = false := decide_eq_false (by omega)
  clear c2
  replace H := Option.bind_eq_some_iff.mp H
  obtain ⟨⟨t141, t142, t143⟩, A30, H⟩ := H
  replace H : (if t143 = true then (if 0 ≤ (wrap64 ((l0.length : Int) - 1)) then (if (wrap64 ((l0.length : Int) - 1)) < (t142.length : Int) then (if (rd t142 (wrap64 ((l0.length : Int) - 1))) > 20 then (some 34) else (some 0)) else (none)) else (none)) else (some 8)) = some r := H
  have A3 := zM A30
  clear A30
  by_cases c4 : t143 = true
  ·
   subst c4
   have H1 : (if 0 ≤ (wrap64 ((l0.length : Int) - 1)) then (if (wrap64 ((l0.length : Int) - 1)) < (t142.length : Int) then (if (rd t142 (wrap64 ((l0.length : Int) - 1))) > 20 then (some 34) else (some 0)) else (none)) else (none)) = some r := by rw [if_pos rfl] at H; exact H
   clear H
   have H := H1
   clear H1
   obtain ⟨ji5, hji5⟩ : ∃ j_ : Int, (wrap64 ((l0.length : Int) - 1)) = j_ := ⟨_, rfl⟩
   replace H : (if 0 ≤ (ji5) then (if (ji5) < (t142.length : Int) then (if (rd t142 (ji5)) > 20 then (some 34) else (some 0)) else (none)) else (none)) = some r := by first | (rw [hji5] at H; exact H) | (simp only [hji5] at H ⊢; exact H)
   (try rw [hji5] at A3)
   have hji5w : (IntKind.i64.wrap ((l0.length : Int) - 1)) = ji5 := (i64_w _).trans hji5
   by_cases c6 : 0 ≤ (ji5)
   ·
    rw [if_pos c6] at H
    have c6b0 : decide (0 ≤ (ji5)) = true := decide_eq_true c6
    clear c6
    by_cases c7 : (ji5) < (t142.length : Int)
    ·
     rw [if_pos c7] at H
     have c7b0 : decide ((ji5) < (t142.length : Int)) = true := decide_eq_true c7
     clear c7
     by_cases c8 : (rd t142 (ji5)) > 20
     ·
      rw [if_pos c8] at H
      have c8b0 : decide (20 < (rd t142 (ji5))) = true := decide_eq_true c8
      clear c8
      obtain rfl := Option.some.inj H
      go_enter Try.func34, Try.ntmps34
      go_wp2_with (first | ((with_reducible refine gate_callee (f := 59) rfl ?_); refine goesL_ (some 11) rfl rfl Try.func59 (by kernel_rfl) rfl #[.slice A0 l0.length c0] rfl (by (try simp only [List.map_toArray, List.map_cons, List.map_nil]); first | done | rfl | (simp only [List.length_drop, List.length_take]; rfl)) ?_; (with_reducible refine (tailwaterref04_Sizes.calls k _ _ l0 t141 t142 true _ ?side1 ?side2 A3.out).mono ?_); (case side1 => repeat (first | exact HR0.out | (with_reducible refine zCA ?_ _) | (with_reducible refine zCN ?_ _) | (with_reducible refine zCD ?_))); (case side2 => exact HC0.out); rintro e w9 ⟨v144, v146, rfl, ho0, ho1, hb⟩; refine ⟨_, rfl, ?_⟩; have n0_ := zM (Kd.R_lower ho0 (zZ (by repeat (first | (with_reducible first | exact HB.out | apply zC | apply zP | apply zO) | exact HB.out)))); have n1_ := zM (Kd.R_lower ho1 (zZ (by repeat (first | (with_reducible first | exact HB.out | apply zC | apply zP | apply zO) | exact HB.out)))); have n2_ := zM (zT (by repeat (first | (with_reducible first | exact HB.out | apply zC | apply zP | apply zO) | exact HB.out)) hb); clear HB; have HO145 := n0_; have HO147 := n1_; have HB := n2_; clear n0_ n1_ n2_; (try clear hb); (try clear hb2); (try clear hk); (try clear hi); (try clear ho0); (try clear ho1); obtain ⟨Ao10, co10, eo10⟩ := Kd.R_slice HO147.out; subst eo10; have p148 : 0 ≤ ((ji5) : Int) := of_decide_eq_true (by first | (with_reducible assumption) | assumption); have q148 : (ji5) < (t142.length : Int) := of_decide_eq_true (by first | (with_reducible assumption) | assumption); obtain ⟨ad148, e148, hx148_0⟩ := Kd.at_int (Kd.R_reads' HO147.out).2.2 (ji5) p148 q148; cases e148; replace p148 := eq_true p148; replace q148 := eq_true q148))
      go_ret
      exact ⟨by first | rfl | (simp [errW_none, errW_some] <;> rfl) | (simp only [← hji5]; first | rfl | (simp [errW_none, errW_some] <;> rfl)) | (simp [*, errW_none, errW_some] <;> rfl), by repeat (first | (with_reducible first | exact HB.out | apply zC | apply zP | apply zO) | exact HB.out)⟩
     ·
      rw [if_neg c8] at H
      have c8b0 : decide (20 < (rd t142 (ji5))) = false := decide_eq_false c8
      clear c8
      obtain rfl := Option.some.inj H
      go_enter Try.func34, Try.ntmps34
      go_wp2_with (first | ((with_reducible refine gate_callee (f := 59) rfl ?_); refine goesL_ (some 11) rfl rfl Try.func59 (by kernel_rfl) rfl #[.slice A0 l0.length c0] rfl (by (try simp only [List.map_toArray, List.map_cons, List.map_nil]); first | done | rfl | (simp only [List.length_drop, List.length_take]; rfl)) ?_; (with_reducible refine (tailwaterref04_Sizes.calls k _ _ l0 t141 t142 true _ ?side1 ?side2 A3.out).mono ?_); (case side1 => repeat (first | exact HR0.out | (with_reducible refine zCA ?_ _) | (with_reducible refine zCN ?_ _) | (with_reducible refine zCD ?_))); (case side2 => exact HC0.out); rintro e w11 ⟨v144, v146, rfl, ho0, ho1, hb⟩; refine ⟨_, rfl, ?_⟩; have n0_ := zM (Kd.R_lower ho0 (zZ (by repeat (first | (with_reducible first | exact HB.out | apply zC | apply zP | apply zO) | exact HB.out)))); have n1_ := zM (Kd.R_lower ho1 (zZ (by repeat (first | (with_reducible first | exact HB.out | apply zC | apply zP | apply zO) | exact HB.out)))); have n2_ := zM (zT (by repeat (first | (with_reducible first | exact HB.out | apply zC | apply zP | apply zO) | exact HB.out)) hb); clear HB; have HO145 := n0_; have HO147 := n1_; have HB := n2_; clear n0_ n1_ n2_; (try clear hb); (try clear hb2); (try clear hk); (try clear hi); (try clear ho0); (try clear ho1); obtain ⟨Ao12, co12, eo12⟩ := Kd.R_slice HO147.out; subst eo12; have p148 : 0 ≤ ((ji5) : Int) := of_decide_eq_true (by first | (with_reducible assumption) | assumption); have q148 : (ji5) < (t142.length : Int) := of_decide_eq_true (by first | (with_reducible assumption) | assumption); obtain ⟨ad148, e148, hx148_0⟩ := Kd.at_int (Kd.R_reads' HO147.out).2.2 (ji5) p148 q148; cases e148; replace p148 := eq_true p148; replace q148 := eq_true q148))
      go_ret
      exact ⟨by first | rfl | (simp [errW_none, errW_some] <;> rfl) | (simp only [← hji5]; first | rfl | (simp [errW_none, errW_some] <;> rfl)) | (simp [*, errW_none, errW_some] <;> rfl), by repeat (first | (with_reducible first | exact HB.out | apply zC | apply zP | apply zO) | exact HB.out)⟩
    ·
     rw [if_neg c7] at H
     exact absurd H (by simp)
   ·
    rw [if_neg c6] at H
    exact absurd H (by simp)
  ·
   replace c4 := Bool.eq_false_iff.mpr c4
   subst c4
   have H1 : (some 8) = some r := by rw [if_neg (show ¬ (false = true) by decide)] at H; exact H
   clear H
   have H := H1
   clear H1
   obtain rfl := Option.some.inj H
   go_enter Try.func34, Try.ntmps34
   go_wp2_with (first | ((with_reducible refine gate_callee (f := 59) rfl ?_); refine goesL_ (some 11) rfl rfl Try.func59 (by kernel_rfl) rfl #[.slice A0 l0.length c0] rfl (by (try simp only [List.map_toArray, List.map_cons, List.map_nil]); first | done | rfl | (simp only [List.length_drop, List.length_take]; rfl)) ?_; (with_reducible refine (tailwaterref04_Sizes.calls k _ _ l0 t141 t142 false _ ?side1 ?side2 A3.out).mono ?_); (case side1 => repeat (first | exact HR0.out | (with_reducible refine zCA ?_ _) | (with_reducible refine zCN ?_ _) | (with_reducible refine zCD ?_))); (case side2 => exact HC0.out); rintro e w13 ⟨v144, v146, rfl, ho0, ho1, hb⟩; refine ⟨_, rfl, ?_⟩; have n0_ := zM (Kd.R_lower ho0 (zZ (by repeat (first | (with_reducible first | exact HB.out | apply zC | apply zP | apply zO) | exact HB.out)))); have n1_ := zM (Kd.R_lower ho1 (zZ (by repeat (first | (with_reducible first | exact HB.out | apply zC | apply zP | apply zO) | exact HB.out)))); have n2_ := zM (zT (by repeat (first | (with_reducible first | exact HB.out | apply zC | apply zP | apply zO) | exact HB.out)) hb); clear HB; have HO145 := n0_; have HO147 := n1_; have HB := n2_; clear n0_ n1_ n2_; (try clear hb); (try clear hb2); (try clear hk); (try clear hi); (try clear ho0); (try clear ho1)))
   go_ret
   exact ⟨by first | rfl | (simp [errW_none, errW_some] <;> rfl) | (simp [*, errW_none, errW_some] <;> rfl), by repeat (first | (with_reducible first | exact HB.out | apply zC | apply zP | apply zO) | exact HB.out)⟩

end Go.Proofs.Ytpkamfjkmbakhaa.G
