-- Written by a program of this place (wip/prt.py), out of Lean's own print of the program: Lean checks it.
import Derived.Test.YtheobaaegpfbjaaS0
import Derived.Test.YtheobaaegpfbjaaS2
import Derived.Test.YtheobaaegpfbjaaS3
namespace Go.Proofs.Ytheobaaegpfbjaa.S
open Go.RowKit Go.Proofs.YtheobaaegpfbjaaW.PrintWords Go.Proofs.YtheobaaegpfbjaaW.PrintLast Go.Proofs.YtheobaaegpfbjaaW.PrintMore
attribute [local go_sem] max2_int min2_int max_two min_two max_three min_three max_four min_four   -- for this text's walks alone
set_option linter.unusedVariables false
set_option linter.unusedSimpArgs false

/-! ### tailwaterlaw14_SlideMany: function 9 -/
mutual
def tailwaterlaw14_SlideMany.j0 : Nat → Int → Int → Int → Bool → Bool → Option (Bool)
  | 0, _, _, _, _, _ => none
  | k + 1, x0, x1, x2, x7, x20 => if x20 = true then (some x7) else ((slide_All.f k x0 x1 x2).bind fun bt128 => (if bt128.2 = 0 then (if x2 = 0 then (none) else (if (bt128.1.length : Int) < (wrap64 (Int.tdiv x1 x2)) then (tailwaterlaw14_SlideMany.j1 k x0 x1 x2 x7 bt128.1 true) else (if (bt128.1.length : Int) > (wrap64 (Int.tdiv (wrap64 ((wrap64 (x1 + x2)) - 1)) x2)) then (tailwaterlaw14_SlideMany.j1 k x0 x1 x2 x7 bt128.1 true) else (if (bt128.1.length : Int) < 1 then (tailwaterlaw14_SlideMany.j1 k x0 x1 x2 x7 bt128.1 true) else (tailwaterlaw14_SlideMany.j1 k x0 x1 x2 x7 bt128.1 (decide ((bt128.1.length : Int) > 16))))))) else (tailwaterlaw14_SlideMany.j1 k x0 x1 x2 x7 bt128.1 true)))
def tailwaterlaw14_SlideMany.j1 : Nat → Int → Int → Int → Bool → List (S23) → Bool → Option (Bool)
  | 0, _, _, _, _, _, _ => none
  | k + 1, x0, x1, x2, x7, x8, x59 => if x59 = true then (some false) else (tailwaterlaw14_SlideMany.l0 k x0 x1 x2 x7 x8 0)
def tailwaterlaw14_SlideMany.l0 : Nat → Int → Int → Int → Bool → List (S23) → Int → Option (Bool)
  | 0, _, _, _, _, _, _ => none
  | k + 1, x0, x1, x2, x7, x8, x10 => if x10 < (x8.length : Int) then (if 0 ≤ x10 then (if x2 = 0 then (none) else (if (Int.tmod ((rd_T23 x8 x10).f0) x2) = 0 then (if (wrap64 (((rd_T23 x8 x10).f1) - ((rd_T23 x8 x10).f0))) = x1 then (if ((rd_T23 x8 x10).f0) > x0 then (some false) else (if x0 ≥ ((rd_T23 x8 x10).f1) then (some false) else (if x10 > 0 then (if 0 ≤ (wrap64 (x10 - 1)) then (if (wrap64 (x10 - 1)) < (x8.length : Int) then (if ((rd_T23 x8 x10).f0) = (wrap64 (((rd_T23 x8 (wrap64 (x10 - 1))).f0) + x2)) then (tailwaterlaw14_SlideMany.l0 k x0 x1 x2 x7 x8 (wrap64 (x10 + 1))) else (some false)) else (none)) else (none)) else (tailwaterlaw14_SlideMany.l0 k x0 x1 x2 x7 x8 (wrap64 (x10 + 1)))))) else (some false)) else (some false))) else (none)) else (some x7)
end
def tailwaterlaw14_SlideMany.f (k : Nat) (a0 : Int) (a1 : Int) (a2 : Int) : Option (Bool) := (tailwaterlaw14_alive.f k).bind fun t126 => ((tailwaterlaw14_fit.f k a0 a1 a2).bind fun t127 => (if t127 = true then (tailwaterlaw14_SlideMany.j0 k a0 a1 a2 t126 (!t126)) else (tailwaterlaw14_SlideMany.j0 k a0 a1 a2 t126 true)))
theorem tailwaterlaw14_SlideMany.mono_l : ∀ k, (∀ y0 y1 y2 y3 y4, LeO (tailwaterlaw14_SlideMany.j0 k y0 y1 y2 y3 y4) (tailwaterlaw14_SlideMany.j0 (k + 1) y0 y1 y2 y3 y4)) ∧ (∀ y0 y1 y2 y3 y4 y5, LeO (tailwaterlaw14_SlideMany.j1 k y0 y1 y2 y3 y4 y5) (tailwaterlaw14_SlideMany.j1 (k + 1) y0 y1 y2 y3 y4 y5)) ∧ (∀ y0 y1 y2 y3 y4 y5, LeO (tailwaterlaw14_SlideMany.l0 k y0 y1 y2 y3 y4 y5) (tailwaterlaw14_SlideMany.l0 (k + 1) y0 y1 y2 y3 y4 y5))
  | 0 => ⟨fun _ _ _ _ _ r h => by simp [tailwaterlaw14_SlideMany.j0] at h, fun _ _ _ _ _ _ r h => by simp [tailwaterlaw14_SlideMany.j1] at h, fun _ _ _ _ _ _ r h => by simp [tailwaterlaw14_SlideMany.l0] at h⟩
  | k + 1 => by
    obtain ⟨ih0, ih1, ih2⟩ := tailwaterlaw14_SlideMany.mono_l k
    refine ⟨?_, ?_, ?_⟩
    · intro y0 y1 y2 y3 y4
      unfold tailwaterlaw14_SlideMany.j0
      repeat' first
      | (with_reducible exact ih0 _ _ _ _ _)
      | (with_reducible exact ih1 _ _ _ _ _ _)
      | (with_reducible exact ih2 _ _ _ _ _ _)
      | (with_reducible exact slide_All.mono _ _ _ _)
      | (with_reducible exact tailwaterlaw14_alive.mono _)
      | (with_reducible exact tailwaterlaw14_fit.mono _ _ _ _)
      | (with_reducible exact LeO.refl _)
      | (with_reducible exact LeO.none _)
      | (with_reducible refine LeO.ite ?_ ?_)
      | (with_reducible refine LeO.bind ?_ (fun _ => ?_))
      | exact ih0 _ _ _ _ _
      | exact ih1 _ _ _ _ _ _
      | exact ih2 _ _ _ _ _ _
      | exact slide_All.mono _ _ _ _
      | exact tailwaterlaw14_alive.mono _
      | exact tailwaterlaw14_fit.mono _ _ _ _
      | exact LeO.none _
      | refine LeO.ite ?_ ?_
      | refine LeO.bind ?_ (fun _ => ?_)
    · intro y0 y1 y2 y3 y4 y5
      unfold tailwaterlaw14_SlideMany.j1
      repeat' first
      | (with_reducible exact ih0 _ _ _ _ _)
      | (with_reducible exact ih1 _ _ _ _ _ _)
      | (with_reducible exact ih2 _ _ _ _ _ _)
      | (with_reducible exact slide_All.mono _ _ _ _)
      | (with_reducible exact tailwaterlaw14_alive.mono _)
      | (with_reducible exact tailwaterlaw14_fit.mono _ _ _ _)
      | (with_reducible exact LeO.refl _)
      | (with_reducible exact LeO.none _)
      | (with_reducible refine LeO.ite ?_ ?_)
      | (with_reducible refine LeO.bind ?_ (fun _ => ?_))
      | exact ih0 _ _ _ _ _
      | exact ih1 _ _ _ _ _ _
      | exact ih2 _ _ _ _ _ _
      | exact slide_All.mono _ _ _ _
      | exact tailwaterlaw14_alive.mono _
      | exact tailwaterlaw14_fit.mono _ _ _ _
      | exact LeO.none _
      | refine LeO.ite ?_ ?_
      | refine LeO.bind ?_ (fun _ => ?_)
    · intro y0 y1 y2 y3 y4 y5
      unfold tailwaterlaw14_SlideMany.l0
      repeat' first
      | (with_reducible exact ih0 _ _ _ _ _)
      | (with_reducible exact ih1 _ _ _ _ _ _)
      | (with_reducible exact ih2 _ _ _ _ _ _)
      | (with_reducible exact slide_All.mono _ _ _ _)
      | (with_reducible exact tailwaterlaw14_alive.mono _)
      | (with_reducible exact tailwaterlaw14_fit.mono _ _ _ _)
      | (with_reducible exact LeO.refl _)
      | (with_reducible exact LeO.none _)
      | (with_reducible refine LeO.ite ?_ ?_)
      | (with_reducible refine LeO.bind ?_ (fun _ => ?_))
      | exact ih0 _ _ _ _ _
      | exact ih1 _ _ _ _ _ _
      | exact ih2 _ _ _ _ _ _
      | exact slide_All.mono _ _ _ _
      | exact tailwaterlaw14_alive.mono _
      | exact tailwaterlaw14_fit.mono _ _ _ _
      | exact LeO.none _
      | refine LeO.ite ?_ ?_
      | refine LeO.bind ?_ (fun _ => ?_)
theorem tailwaterlaw14_SlideMany.mono : ∀ a0 a1 a2 k, LeO (tailwaterlaw14_SlideMany.f k a0 a1 a2) (tailwaterlaw14_SlideMany.f (k + 1) a0 a1 a2) := by
  intro a0 a1 a2 k
  obtain ⟨ih0, ih1, ih2⟩ := tailwaterlaw14_SlideMany.mono_l k
  unfold tailwaterlaw14_SlideMany.f
  repeat' first
      | (with_reducible exact ih0 _ _ _ _ _)
      | (with_reducible exact ih1 _ _ _ _ _ _)
      | (with_reducible exact ih2 _ _ _ _ _ _)
      | (with_reducible exact slide_All.mono _ _ _ _)
      | (with_reducible exact tailwaterlaw14_alive.mono _)
      | (with_reducible exact tailwaterlaw14_fit.mono _ _ _ _)
      | (with_reducible exact LeO.refl _)
      | (with_reducible exact LeO.none _)
      | (with_reducible refine LeO.ite ?_ ?_)
      | (with_reducible refine LeO.bind ?_ (fun _ => ?_))
      | exact ih0 _ _ _ _ _
      | exact ih1 _ _ _ _ _ _
      | exact ih2 _ _ _ _ _ _
      | exact slide_All.mono _ _ _ _
      | exact tailwaterlaw14_alive.mono _
      | exact tailwaterlaw14_fit.mono _ _ _ _
      | exact LeO.none _
      | refine LeO.ite ?_ ?_
      | refine LeO.bind ?_ (fun _ => ?_)
set_option maxHeartbeats 8000000 in
set_option maxRecDepth 100000 in
theorem tailwaterlaw14_SlideMany.calls (k : Nat) (a0 : Int) (a1 : Int) (a2 : Int) (r : Bool) (w : World) (h : tailwaterlaw14_SlideMany.f k a0 a1 a2 = some r) :
    Calls Try.prog 9 #[.int .i64 a0, .int .i64 a1, .int .i64 a2] w fun e w' => e = .returned (.bool r) ∧ Below w.heap.size w w' := by
  have HB := Aside0.mk (Below.refl w.heap.size w)
  have H : ((tailwaterlaw14_alive.f k).bind fun t126 => ((tailwaterlaw14_fit.f k a0 a1 a2).bind fun t127 => (if t127 = true then (tailwaterlaw14_SlideMany.j0 k a0 a1 a2 t126 (!t126)) else (tailwaterlaw14_SlideMany.j0 k a0 a1 a2 t126 true)))) = some r := h
  clear h
  replace H := Option.bind_eq_some_iff.mp H
  obtain ⟨t126, A40, H⟩ := H
  replace H : ((tailwaterlaw14_fit.f k a0 a1 a2).bind fun t127 => (if t127 = true then (tailwaterlaw14_SlideMany.j0 k a0 a1 a2 t126 (!t126)) else (tailwaterlaw14_SlideMany.j0 k a0 a1 a2 t126 true))) = some r := H
  have A4 := Aside0.mk A40
  clear A40
  have HC5 := Aside0.mk H
  clear H
  go_enter Try.func9, Try.ntmps9
  go_upto_region 2 with (first | (go_at_call 21; (with_reducible refine (tailwaterlaw14_alive.calls k  t126 _ A4.out).mono ?_); rintro e w6 ⟨rfl, hb⟩; have n0_ := Aside0.mk (below_step (by repeat (first | (with_reducible first | exact HB.out | apply below_alloc | apply pw_below_drewN | apply below_drew1) | exact HB.out)) hb); clear HB; have HB := n0_; clear n0_; (try clear hb); (try clear hb2); (try clear hk); (try clear hi)))
  repeat (go_quiet (first | (go_at_call 21; (with_reducible refine (tailwaterlaw14_alive.calls k  t126 _ A4.out).mono ?_); rintro e w6 ⟨rfl, hb⟩; have n0_ := Aside0.mk (below_step (by repeat (first | (with_reducible first | exact HB.out | apply below_alloc | apply pw_below_drewN | apply below_drew1) | exact HB.out)) hb); clear HB; have HB := n0_; clear n0_; (try clear hb); (try clear hb2); (try clear hk); (try clear hi))); go_upto_region 2 with (first | (go_at_call 21; (with_reducible refine (tailwaterlaw14_alive.calls k  t126 _ A4.out).mono ?_); rintro e w6 ⟨rfl, hb⟩; have n0_ := Aside0.mk (below_step (by repeat (first | (with_reducible first | exact HB.out | apply below_alloc | apply pw_below_drewN | apply below_drew1) | exact HB.out)) hb); clear HB; have HB := n0_; clear n0_; (try clear hb); (try clear hb2); (try clear hk); (try clear hi))))
  (try simp only [Act.put, List.setIfInBounds_toArray, List.set_cons_zero, List.set_cons_succ])
  go_cut [20] (fun v20 wc => ∃ (kq : Nat) (x20_4 : Bool), v20 = .bool x20_4 ∧ Aside0 (tailwaterlaw14_SlideMany.j0 kq a0 a1 a2 t126 x20_4 = some r) ∧ Aside0 (kq ≤ k) ∧ Aside0 (Below w.heap.size w wc))
  case first =>
    have H := HC5.out
    clear HC5
    replace H := Option.bind_eq_some_iff.mp H
    obtain ⟨t127, A70, H⟩ := H
    replace H : (if t127 = true then (tailwaterlaw14_SlideMany.j0 k a0 a1 a2 t126 (!t126)) else (tailwaterlaw14_SlideMany.j0 k a0 a1 a2 t126 true)) = some r := H
    have A7 := Aside0.mk A70
    clear A70
    by_cases c8 : t127 = true
    · subst c8
      have H1 : (tailwaterlaw14_SlideMany.j0 k a0 a1 a2 t126 (!t126)) = some r := by rw [if_pos rfl] at H; exact H
      clear H
      have H := H1
      clear H1
      have H' := Aside0.mk H
      clear H
      go_wp2_with (first | (go_at_call 22; (with_reducible refine (tailwaterlaw14_fit.calls k a0 a1 a2 true _ A7.out).mono ?_); rintro e w' ⟨rfl, ⟨nd, rfl⟩⟩; (try first | exact ⟨rfl, _, World.drewN_drewN _ _ _⟩ | exact ⟨rfl, _, Eq.trans (World.drewN_drewN _ _ _) (congrArg (World.drewN _) (Nat.add_assoc _ _ _))⟩)))
      repeat (go_quiet (first | (go_at_call 22; (with_reducible refine (tailwaterlaw14_fit.calls k a0 a1 a2 true _ A7.out).mono ?_); rintro e w' ⟨rfl, ⟨nd, rfl⟩⟩; (try first | exact ⟨rfl, _, World.drewN_drewN _ _ _⟩ | exact ⟨rfl, _, Eq.trans (World.drewN_drewN _ _ _) (congrArg (World.drewN _) (Nat.add_assoc _ _ _))⟩))); try go_wp2_with (first | (go_at_call 22; (with_reducible refine (tailwaterlaw14_fit.calls k a0 a1 a2 true _ A7.out).mono ?_); rintro e w' ⟨rfl, ⟨nd, rfl⟩⟩; (try first | exact ⟨rfl, _, World.drewN_drewN _ _ _⟩ | exact ⟨rfl, _, Eq.trans (World.drewN_drewN _ _ _) (congrArg (World.drewN _) (Nat.add_assoc _ _ _))⟩))))
      go_meet
      case rel => exact ⟨_, (!t126), (by first | rfl | (simp; done) | (simp [*]; done)), H', ⟨by first | omega | exact Nat.le_refl _⟩, ⟨by repeat (first | (with_reducible first | exact HB.out | apply below_alloc | apply pw_below_drewN | apply below_drew1) | exact HB.out)⟩⟩
    · replace c8 := Bool.eq_false_iff.mpr c8
      subst c8
      have H1 : (tailwaterlaw14_SlideMany.j0 k a0 a1 a2 t126 true) = some r := by rw [if_neg (show ¬ (false = true) by decide)] at H; exact H
      clear H
      have H := H1
      clear H1
      have H' := Aside0.mk H
      clear H
      go_wp2_with (first | (go_at_call 22; (with_reducible refine (tailwaterlaw14_fit.calls k a0 a1 a2 false _ A7.out).mono ?_); rintro e w' ⟨rfl, ⟨nd, rfl⟩⟩; (try first | exact ⟨rfl, _, World.drewN_drewN _ _ _⟩ | exact ⟨rfl, _, Eq.trans (World.drewN_drewN _ _ _) (congrArg (World.drewN _) (Nat.add_assoc _ _ _))⟩)))
      repeat (go_quiet (first | (go_at_call 22; (with_reducible refine (tailwaterlaw14_fit.calls k a0 a1 a2 false _ A7.out).mono ?_); rintro e w' ⟨rfl, ⟨nd, rfl⟩⟩; (try first | exact ⟨rfl, _, World.drewN_drewN _ _ _⟩ | exact ⟨rfl, _, Eq.trans (World.drewN_drewN _ _ _) (congrArg (World.drewN _) (Nat.add_assoc _ _ _))⟩))); try go_wp2_with (first | (go_at_call 22; (with_reducible refine (tailwaterlaw14_fit.calls k a0 a1 a2 false _ A7.out).mono ?_); rintro e w' ⟨rfl, ⟨nd, rfl⟩⟩; (try first | exact ⟨rfl, _, World.drewN_drewN _ _ _⟩ | exact ⟨rfl, _, Eq.trans (World.drewN_drewN _ _ _) (congrArg (World.drewN _) (Nat.add_assoc _ _ _))⟩))))
      go_meet
      case rel => exact ⟨_, (true), (by first | rfl | (simp; done) | (simp [*]; done)), H', ⟨by first | omega | exact Nat.le_refl _⟩, ⟨by repeat (first | (with_reducible first | exact HB.out | apply below_alloc | apply pw_below_drewN | apply below_drew1) | exact HB.out)⟩⟩
  case rest =>
    clear HC5
    try clear p2
    try clear c8
    obtain ⟨kq, x20_4, rfl, HA, HJ4, HB⟩ := hcut
    cases kq with
    | zero => exact absurd HA.out (by simp [tailwaterlaw14_SlideMany.j0])
    | succ kj4 =>
      have H := HA.out
      clear HA
      simp only [tailwaterlaw14_SlideMany.j0] at H
      by_cases c9 : x20_4 = true
      · subst c9
        have H1 : (some t126) = some r := by rw [if_pos rfl] at H; exact H
        clear H
        have H := H1
        clear H1
        obtain rfl := Option.some.inj H
        go_wp2
        repeat (go_quiet (fail); try go_wp2)
        go_ret
        exact ⟨by first | rfl | (simp [errW_none, errW_some] <;> rfl) | (simp [*, errW_none, errW_some] <;> rfl), by repeat (first | (with_reducible first | exact HB.out | apply below_alloc | apply pw_below_drewN | apply below_drew1) | exact HB.out)⟩
      · replace c9 := Bool.eq_false_iff.mpr c9
        subst c9
        have H1 : ((slide_All.f kj4 a0 a1 a2).bind fun bt128 => (if bt128.2 = 0 then (if a2 = 0 then (none) else (if (bt128.1.length : Int) < (wrap64 (Int.tdiv a1 a2)) then (tailwaterlaw14_SlideMany.j1 kj4 a0 a1 a2 t126 bt128.1 true) else (if (bt128.1.length : Int) > (wrap64 (Int.tdiv (wrap64 ((wrap64 (a1 + a2)) - 1)) a2)) then (tailwaterlaw14_SlideMany.j1 kj4 a0 a1 a2 t126 bt128.1 true) else (if (bt128.1.length : Int) < 1 then (tailwaterlaw14_SlideMany.j1 kj4 a0 a1 a2 t126 bt128.1 true) else (tailwaterlaw14_SlideMany.j1 kj4 a0 a1 a2 t126 bt128.1 (decide ((bt128.1.length : Int) > 16))))))) else (tailwaterlaw14_SlideMany.j1 kj4 a0 a1 a2 t126 bt128.1 true))) = some r := by rw [if_neg (show ¬ (false = true) by decide)] at H; exact H
        clear H
        have H := H1
        clear H1
        replace H := Option.bind_eq_some_iff.mp H
        obtain ⟨⟨t128, t129⟩, A100, H⟩ := H
        replace H : (if t129 = 0 then (if a2 = 0 then (none) else (if (t128.length : Int) < (wrap64 (Int.tdiv a1 a2)) then (tailwaterlaw14_SlideMany.j1 kj4 a0 a1 a2 t126 t128 true) else (if (t128.length : Int) > (wrap64 (Int.tdiv (wrap64 ((wrap64 (a1 + a2)) - 1)) a2)) then (tailwaterlaw14_SlideMany.j1 kj4 a0 a1 a2 t126 t128 true) else (if (t128.length : Int) < 1 then (tailwaterlaw14_SlideMany.j1 kj4 a0 a1 a2 t126 t128 true) else (tailwaterlaw14_SlideMany.j1 kj4 a0 a1 a2 t126 t128 (decide ((t128.length : Int) > 16))))))) else (tailwaterlaw14_SlideMany.j1 kj4 a0 a1 a2 t126 t128 true)) = some r := H
        have A10 := Aside0.mk A100
        clear A100
        have HC11 := Aside0.mk H
        clear H
        go_upto_region 5 with (first | (go_at_call 23; (with_reducible refine (slide_All.calls kj4 a0 a1 a2 t128 t129 _ A10.out).mono ?_); rintro e w12 ⟨v130, rfl, ho0, hb⟩; have n0_ := Aside0.mk (Kd.R_lower ho0 (below_size (by repeat (first | (with_reducible first | exact HB.out | apply below_alloc | apply pw_below_drewN | apply below_drew1) | exact HB.out)))); have n1_ := Aside0.mk (below_step (by repeat (first | (with_reducible first | exact HB.out | apply below_alloc | apply pw_below_drewN | apply below_drew1) | exact HB.out)) hb); clear HB; have HO131 := n0_; have HB := n1_; clear n0_ n1_; (try clear hb); (try clear hb2); (try clear hk); (try clear hi); (try clear ho0)))
        repeat (go_quiet (first | (go_at_call 23; (with_reducible refine (slide_All.calls kj4 a0 a1 a2 t128 t129 _ A10.out).mono ?_); rintro e w12 ⟨v130, rfl, ho0, hb⟩; have n0_ := Aside0.mk (Kd.R_lower ho0 (below_size (by repeat (first | (with_reducible first | exact HB.out | apply below_alloc | apply pw_below_drewN | apply below_drew1) | exact HB.out)))); have n1_ := Aside0.mk (below_step (by repeat (first | (with_reducible first | exact HB.out | apply below_alloc | apply pw_below_drewN | apply below_drew1) | exact HB.out)) hb); clear HB; have HO131 := n0_; have HB := n1_; clear n0_ n1_; (try clear hb); (try clear hb2); (try clear hk); (try clear hi); (try clear ho0))); go_upto_region 5 with (first | (go_at_call 23; (with_reducible refine (slide_All.calls kj4 a0 a1 a2 t128 t129 _ A10.out).mono ?_); rintro e w12 ⟨v130, rfl, ho0, hb⟩; have n0_ := Aside0.mk (Kd.R_lower ho0 (below_size (by repeat (first | (with_reducible first | exact HB.out | apply below_alloc | apply pw_below_drewN | apply below_drew1) | exact HB.out)))); have n1_ := Aside0.mk (below_step (by repeat (first | (with_reducible first | exact HB.out | apply below_alloc | apply pw_below_drewN | apply below_drew1) | exact HB.out)) hb); clear HB; have HO131 := n0_; have HB := n1_; clear n0_ n1_; (try clear hb); (try clear hb2); (try clear hk); (try clear hi); (try clear ho0))))
        (try simp only [Act.put, List.setIfInBounds_toArray, List.set_cons_zero, List.set_cons_succ])
        go_cut [59] (fun v59 wc => ∃ (kq : Nat) (x59_10 : Bool), v59 = .bool x59_10 ∧ Aside0 (tailwaterlaw14_SlideMany.j1 kq a0 a1 a2 t126 t128 x59_10 = some r) ∧ Aside0 (kq ≤ kj4) ∧ Aside0 (Kd.R k23 23 wc w.heap.size (fun _ => True) v130 t128) ∧ Aside0 (Below w.heap.size w wc))
        case first =>
          have H := HC11.out
          clear HC11
          by_cases c13 : t129 = 0
          · rw [if_pos c13] at H
            have c13b0 : (t129 == 0) = true := beq_iff_eq.mpr c13
            have c13b1 : (t129 != 0) = false := bne_eq_false_iff_eq.mpr c13
            clear c13
            (first | rw [c13b0] | (simp only [i64_w, i32_w]; rw [c13b0]) | skip)
            by_cases c14 : a2 = 0
            · rw [if_pos c14] at H
              exact absurd H (by simp)
            · rw [if_neg c14] at H
              have c14b0 : (a2 == 0) = false := beq_eq_false_iff_ne.mpr c14
              have c14b1 : (a2 != 0) = true := bne_iff_ne.mpr c14
              by_cases c15 : (t128.length : Int) < (wrap64 (Int.tdiv a1 a2))
              · rw [if_pos c15] at H
                have c15b0 : decide ((t128.length : Int) < (wrap64 (Int.tdiv a1 a2))) = true := decide_eq_true c15
                clear c15
                have H' := Aside0.mk H
                clear H
                obtain ⟨Ao16, co16, eo16⟩ := Kd.R_slice HO131.out
                subst eo16
                go_wp2
                repeat (go_quiet (fail); try go_wp2)
                go_meet
                case rel => exact ⟨_, (true), (by first | rfl | (simp; done) | (simp [*]; done)), H', ⟨by have := HJ4.out; first | omega | exact Nat.le_refl _⟩, ⟨by (with_reducible repeat (first | apply Kd.R_alloc | apply Kd.R_drewN | apply Kd.R_drew)); exact HO131.out⟩, ⟨by repeat (first | (with_reducible first | exact HB.out | apply below_alloc | apply pw_below_drewN | apply below_drew1) | exact HB.out)⟩⟩
              · rw [if_neg c15] at H
                have c15b0 : decide ((t128.length : Int) < (wrap64 (Int.tdiv a1 a2))) = false := decide_eq_false c15
                clear c15
                by_cases c17 : (t128.length : Int) > (wrap64 (Int.tdiv (wrap64 ((wrap64 (a1 + a2)) - 1)) a2))
                · rw [if_pos c17] at H
                  have c17b0 : decide ((wrap64 (Int.tdiv (wrap64 ((wrap64 (a1 + a2)) - 1)) a2)) < (t128.length : Int)) = true := decide_eq_true c17
                  clear c17
                  have H' := Aside0.mk H
                  clear H
                  obtain ⟨Ao18, co18, eo18⟩ := Kd.R_slice HO131.out
                  subst eo18
                  go_wp2
                  repeat (go_quiet (fail); try go_wp2)
                  go_meet
                  case rel => exact ⟨_, (true), (by first | rfl | (simp; done) | (simp [*]; done)), H', ⟨by have := HJ4.out; first | omega | exact Nat.le_refl _⟩, ⟨by (with_reducible repeat (first | apply Kd.R_alloc | apply Kd.R_drewN | apply Kd.R_drew)); exact HO131.out⟩, ⟨by repeat (first | (with_reducible first | exact HB.out | apply below_alloc | apply pw_below_drewN | apply below_drew1) | exact HB.out)⟩⟩
                · rw [if_neg c17] at H
                  have c17b0 : decide ((wrap64 (Int.tdiv (wrap64 ((wrap64 (a1 + a2)) - 1)) a2)) < (t128.length : Int)) = false := decide_eq_false c17
                  clear c17
                  by_cases c19 : (t128.length : Int) < 1
                  · rw [if_pos c19] at H
                    have c19b0 : decide ((t128.length : Int) < 1) = true := decide_eq_true c19
                    have c19b1 : decide (t128.length < 1) = true := decide_eq_true (by omega)
                    clear c19
                    have H' := Aside0.mk H
                    clear H
                    obtain ⟨Ao20, co20, eo20⟩ := Kd.R_slice HO131.out
                    subst eo20
                    go_wp2
                    repeat (go_quiet (fail); try go_wp2)
                    go_meet
                    case rel => exact ⟨_, (true), (by first | rfl | (simp; done) | (simp [*]; done)), H', ⟨by have := HJ4.out; first | omega | exact Nat.le_refl _⟩, ⟨by (with_reducible repeat (first | apply Kd.R_alloc | apply Kd.R_drewN | apply Kd.R_drew)); exact HO131.out⟩, ⟨by repeat (first | (with_reducible first | exact HB.out | apply below_alloc | apply pw_below_drewN | apply below_drew1) | exact HB.out)⟩⟩
                  · rw [if_neg c19] at H
                    have c19b0 : decide ((t128.length : Int) < 1) = false := decide_eq_false c19
                    have c19b1 : decide (t128.length < 1) = false := decide_eq_false (by omega)
                    clear c19
                    have H' := Aside0.mk H
                    clear H
                    obtain ⟨Ao21, co21, eo21⟩ := Kd.R_slice HO131.out
                    subst eo21
                    go_wp2
                    repeat (go_quiet (fail); try go_wp2)
                    go_meet
                    case rel => exact ⟨_, (decide ((t128.length : Int) > 16)), (by first | rfl | (simp; done) | (simp [*]; done)), H', ⟨by have := HJ4.out; first | omega | exact Nat.le_refl _⟩, ⟨by (with_reducible repeat (first | apply Kd.R_alloc | apply Kd.R_drewN | apply Kd.R_drew)); exact HO131.out⟩, ⟨by repeat (first | (with_reducible first | exact HB.out | apply below_alloc | apply pw_below_drewN | apply below_drew1) | exact HB.out)⟩⟩
          · rw [if_neg c13] at H
            have c13b0 : (t129 == 0) = false := beq_eq_false_iff_ne.mpr c13
            have c13b1 : (t129 != 0) = true := bne_iff_ne.mpr c13
            (first | rw [c13b0] | (simp only [i64_w, i32_w]; rw [c13b0]) | skip)
            have H' := Aside0.mk H
            clear H
            go_wp2
            repeat (go_quiet (fail); try go_wp2)
            go_meet
            case rel => exact ⟨_, (true), (by first | rfl | (simp; done) | (simp [*]; done)), H', ⟨by have := HJ4.out; first | omega | exact Nat.le_refl _⟩, ⟨by (with_reducible repeat (first | apply Kd.R_alloc | apply Kd.R_drewN | apply Kd.R_drew)); exact HO131.out⟩, ⟨by repeat (first | (with_reducible first | exact HB.out | apply below_alloc | apply pw_below_drewN | apply below_drew1) | exact HB.out)⟩⟩
        case rest =>
          clear HC11
          try clear c1
          try clear p2
          try clear p6
          try clear c8
          try clear c9
          try clear c13
          try clear c13b0
          try clear c13b1
          try clear c14
          try clear c14b0
          try clear c14b1
          try clear c15
          try clear c15b0
          try clear c17
          try clear c17b0
          try clear c19
          try clear c19b0
          try clear c19b1
          try clear p2
          obtain ⟨kq, x59_10, rfl, HA, HJ10, HO_8, HB⟩ := hcut
          cases kq with
          | zero => exact absurd HA.out (by simp [tailwaterlaw14_SlideMany.j1])
          | succ kj10 =>
            have H := HA.out
            clear HA
            simp only [tailwaterlaw14_SlideMany.j1] at H
            by_cases c22 : x59_10 = true
            · subst c22
              have H1 : (some false) = some r := by rw [if_pos rfl] at H; exact H
              clear H
              have H := H1
              clear H1
              obtain rfl := Option.some.inj H
              go_wp2
              repeat (go_quiet (fail); try go_wp2)
              go_ret
              exact ⟨by first | rfl | (simp [errW_none, errW_some] <;> rfl) | (simp [*, errW_none, errW_some] <;> rfl), by repeat (first | (with_reducible first | exact HB.out | apply below_alloc | apply pw_below_drewN | apply below_drew1) | exact HB.out)⟩
            · replace c22 := Bool.eq_false_iff.mpr c22
              subst c22
              have H1 : (tailwaterlaw14_SlideMany.l0 kj10 a0 a1 a2 t126 t128 0) = some r := by rw [if_neg (show ¬ (false = true) by decide)] at H; exact H
              clear H
              have H := H1
              clear H1
              have H' := Aside0.mk H
              clear H
              go_wp2
              repeat (go_quiet (fail); try go_wp2)
              go_loopg [10] kj10 (fun kq v10 w' => ∃ (x10_3 : Int), v10 = .int .i64 x10_3 ∧ Aside0 (tailwaterlaw14_SlideMany.l0 kq a0 a1 a2 t126 t128 x10_3 = some r) ∧ Aside0 (kq ≤ kj10) ∧ Aside0 (Kd.R k23 23 w' w.heap.size (fun _ => True) v130 t128) ∧ Aside0 (Below w.heap.size w w'))
              case atStart => exact ⟨(0), (by first | rfl | (simp; done) | (simp [*]; done)), H', ⟨Nat.le_refl _⟩, ⟨by (with_reducible repeat (first | apply Kd.R_alloc | apply Kd.R_drewN | apply Kd.R_drew)); exact HO_8.out⟩, ⟨by repeat (first | (with_reducible first | exact HB.out | apply below_alloc | apply pw_below_drewN | apply below_drew1) | exact HB.out)⟩⟩
              case round =>
                clear H'
                try clear c1
                try clear c2
                try clear p2
                try clear p6
                try clear c8
                try clear c9
                try clear c13
                try clear c13b0
                try clear c13b1
                try clear c14
                try clear c14b0
                try clear c14b1
                try clear c15
                try clear c15b0
                try clear c17
                try clear c17b0
                try clear c19
                try clear c19b0
                try clear c19b1
                try clear c22
                try clear p2
                try clear p6
                obtain ⟨x10_3, rfl, HA, HK3, HO_8, HB⟩ := hrel
                cases gk with
                | zero => exact absurd HA.out (by simp [tailwaterlaw14_SlideMany.l0])
                | succ k3 =>
                  have H := HA.out
                  clear HA
                  simp only [tailwaterlaw14_SlideMany.l0] at H
                  by_cases c23 : x10_3 < (t128.length : Int)
                  · rw [if_pos c23] at H
                    have c23b0 : decide (x10_3 < (t128.length : Int)) = true := decide_eq_true c23
                    clear c23
                    by_cases c24 : 0 ≤ x10_3
                    · rw [if_pos c24] at H
                      have c24b0 : decide (0 ≤ x10_3) = true := decide_eq_true c24
                      clear c24
                      by_cases c25 : a2 = 0
                      · rw [if_pos c25] at H
                        exact absurd H (by simp)
                      · rw [if_neg c25] at H
                        have c25b0 : (a2 == 0) = false := beq_eq_false_iff_ne.mpr c25
                        have c25b1 : (a2 != 0) = true := bne_iff_ne.mpr c25
                        by_cases c26 : (Int.tmod ((rd_T23 t128 x10_3).f0) a2) = 0
                        · rw [if_pos c26] at H
                          have c26b0 : ((Int.tmod ((rd_T23 t128 x10_3).f0) a2) == 0) = true := beq_iff_eq.mpr c26
                          have c26b1 : ((Int.tmod ((rd_T23 t128 x10_3).f0) a2) != 0) = false := bne_eq_false_iff_eq.mpr c26
                          clear c26
                          by_cases c27 : (wrap64 (((rd_T23 t128 x10_3).f1) - ((rd_T23 t128 x10_3).f0))) = a1
                          · rw [if_pos c27] at H
                            have c27b0 : ((wrap64 (((rd_T23 t128 x10_3).f1) - ((rd_T23 t128 x10_3).f0))) == a1) = true := beq_iff_eq.mpr c27
                            have c27b1 : ((wrap64 (((rd_T23 t128 x10_3).f1) - ((rd_T23 t128 x10_3).f0))) != a1) = false := bne_eq_false_iff_eq.mpr c27
                            clear c27
                            by_cases c28 : ((rd_T23 t128 x10_3).f0) > a0
                            · rw [if_pos c28] at H
                              have c28b0 : decide (a0 < ((rd_T23 t128 x10_3).f0)) = true := decide_eq_true c28
                              clear c28
                              obtain rfl := Option.some.inj H
                              obtain ⟨Ao29, co29, eo29⟩ := Kd.R_slice HO_8.out
                              subst eo29
                              have p132 : 0 ≤ (x10_3 : Int) := of_decide_eq_true (by first | (with_reducible assumption) | assumption)
                              have q132 : x10_3 < (t128.length : Int) := of_decide_eq_true (by first | (with_reducible assumption) | assumption)
                              obtain ⟨ad132, e132, hx132_0, hx132_1⟩ := at_T23 (Kd.R_reads' HO_8.out).2.2 x10_3 p132 q132
                              cases e132
                              replace p132 := eq_true p132
                              replace q132 := eq_true q132
                              have p133 : 0 ≤ (x10_3 : Int) := of_decide_eq_true (by first | (with_reducible assumption) | assumption)
                              have q133 : x10_3 < (t128.length : Int) := of_decide_eq_true (by first | (with_reducible assumption) | assumption)
                              obtain ⟨ad133, e133, hx133_0, hx133_1⟩ := at_T23 (Kd.R_reads' HO_8.out).2.2 x10_3 p133 q133
                              obtain rfl : ad132 = ad133 := (by injection e133)
                              replace p133 := eq_true p133
                              replace q133 := eq_true q133
                              have p134 : 0 ≤ (x10_3 : Int) := of_decide_eq_true (by first | (with_reducible assumption) | assumption)
                              have q134 : x10_3 < (t128.length : Int) := of_decide_eq_true (by first | (with_reducible assumption) | assumption)
                              obtain ⟨ad134, e134, hx134_0, hx134_1⟩ := at_T23 (Kd.R_reads' HO_8.out).2.2 x10_3 p134 q134
                              obtain rfl : ad132 = ad134 := (by injection e134)
                              replace p134 := eq_true p134
                              replace q134 := eq_true q134
                              have p135 : 0 ≤ (x10_3 : Int) := of_decide_eq_true (by first | (with_reducible assumption) | assumption)
                              have q135 : x10_3 < (t128.length : Int) := of_decide_eq_true (by first | (with_reducible assumption) | assumption)
                              obtain ⟨ad135, e135, hx135_0, hx135_1⟩ := at_T23 (Kd.R_reads' HO_8.out).2.2 x10_3 p135 q135
                              obtain rfl : ad132 = ad135 := (by injection e135)
                              replace p135 := eq_true p135
                              replace q135 := eq_true q135
                              go_wp2
                              repeat (go_quiet (fail); try go_wp2)
                              go_ret
                              exact ⟨by first | rfl | (simp [errW_none, errW_some] <;> rfl) | (simp [*, errW_none, errW_some] <;> rfl), by repeat (first | (with_reducible first | exact HB.out | apply below_alloc | apply pw_below_drewN | apply below_drew1) | exact HB.out)⟩
                            · rw [if_neg c28] at H
                              have c28b0 : decide (a0 < ((rd_T23 t128 x10_3).f0)) = false := decide_eq_false c28
                              clear c28
                              by_cases c30 : a0 ≥ ((rd_T23 t128 x10_3).f1)
                              · rw [if_pos c30] at H
                                have c30b0 : decide (((rd_T23 t128 x10_3).f1) ≤ a0) = true := decide_eq_true c30
                                clear c30
                                obtain rfl := Option.some.inj H
                                obtain ⟨Ao31, co31, eo31⟩ := Kd.R_slice HO_8.out
                                subst eo31
                                have p132 : 0 ≤ (x10_3 : Int) := of_decide_eq_true (by first | (with_reducible assumption) | assumption)
                                have q132 : x10_3 < (t128.length : Int) := of_decide_eq_true (by first | (with_reducible assumption) | assumption)
                                obtain ⟨ad132, e132, hx132_0, hx132_1⟩ := at_T23 (Kd.R_reads' HO_8.out).2.2 x10_3 p132 q132
                                cases e132
                                replace p132 := eq_true p132
                                replace q132 := eq_true q132
                                have p133 : 0 ≤ (x10_3 : Int) := of_decide_eq_true (by first | (with_reducible assumption) | assumption)
                                have q133 : x10_3 < (t128.length : Int) := of_decide_eq_true (by first | (with_reducible assumption) | assumption)
                                obtain ⟨ad133, e133, hx133_0, hx133_1⟩ := at_T23 (Kd.R_reads' HO_8.out).2.2 x10_3 p133 q133
                                obtain rfl : ad132 = ad133 := (by injection e133)
                                replace p133 := eq_true p133
                                replace q133 := eq_true q133
                                have p134 : 0 ≤ (x10_3 : Int) := of_decide_eq_true (by first | (with_reducible assumption) | assumption)
                                have q134 : x10_3 < (t128.length : Int) := of_decide_eq_true (by first | (with_reducible assumption) | assumption)
                                obtain ⟨ad134, e134, hx134_0, hx134_1⟩ := at_T23 (Kd.R_reads' HO_8.out).2.2 x10_3 p134 q134
                                obtain rfl : ad132 = ad134 := (by injection e134)
                                replace p134 := eq_true p134
                                replace q134 := eq_true q134
                                have p135 : 0 ≤ (x10_3 : Int) := of_decide_eq_true (by first | (with_reducible assumption) | assumption)
                                have q135 : x10_3 < (t128.length : Int) := of_decide_eq_true (by first | (with_reducible assumption) | assumption)
                                obtain ⟨ad135, e135, hx135_0, hx135_1⟩ := at_T23 (Kd.R_reads' HO_8.out).2.2 x10_3 p135 q135
                                obtain rfl : ad132 = ad135 := (by injection e135)
                                replace p135 := eq_true p135
                                replace q135 := eq_true q135
                                have p136 : 0 ≤ (x10_3 : Int) := of_decide_eq_true (by first | (with_reducible assumption) | assumption)
                                have q136 : x10_3 < (t128.length : Int) := of_decide_eq_true (by first | (with_reducible assumption) | assumption)
                                obtain ⟨ad136, e136, hx136_0, hx136_1⟩ := at_T23 (Kd.R_reads' HO_8.out).2.2 x10_3 p136 q136
                                obtain rfl : ad132 = ad136 := (by injection e136)
                                replace p136 := eq_true p136
                                replace q136 := eq_true q136
                                go_wp2
                                repeat (go_quiet (fail); try go_wp2)
                                go_ret
                                exact ⟨by first | rfl | (simp [errW_none, errW_some] <;> rfl) | (simp [*, errW_none, errW_some] <;> rfl), by repeat (first | (with_reducible first | exact HB.out | apply below_alloc | apply pw_below_drewN | apply below_drew1) | exact HB.out)⟩
                              · rw [if_neg c30] at H
                                have c30b0 : decide (((rd_T23 t128 x10_3).f1) ≤ a0) = false := decide_eq_false c30
                                clear c30
                                by_cases c32 : x10_3 > 0
                                · rw [if_pos c32] at H
                                  have c32b0 : decide (0 < x10_3) = true := decide_eq_true c32
                                  clear c32
                                  obtain ⟨ji33, hji33⟩ : ∃ j_ : Int, (wrap64 (x10_3 - 1)) = j_ := ⟨_, rfl⟩
                                  replace H : (if 0 ≤ (ji33) then (if (ji33) < (t128.length : Int) then (if ((rd_T23 t128 x10_3).f0) = (wrap64 (((rd_T23 t128 (ji33)).f0) + a2)) then (tailwaterlaw14_SlideMany.l0 k3 a0 a1 a2 t126 t128 (wrap64 (x10_3 + 1))) else (some false)) else (none)) else (none)) = some r := by first | (rw [hji33] at H; exact H) | (simp only [hji33] at H ⊢; exact H)
                                  have hji33w : (IntKind.i64.wrap (x10_3 - 1)) = ji33 := (i64_w _).trans hji33
                                  by_cases c34 : 0 ≤ (ji33)
                                  · rw [if_pos c34] at H
                                    have c34b0 : decide (0 ≤ (ji33)) = true := decide_eq_true c34
                                    clear c34
                                    by_cases c35 : (ji33) < (t128.length : Int)
                                    · rw [if_pos c35] at H
                                      have c35b0 : decide ((ji33) < (t128.length : Int)) = true := decide_eq_true c35
                                      clear c35
                                      by_cases c36 : ((rd_T23 t128 x10_3).f0) = (wrap64 (((rd_T23 t128 (ji33)).f0) + a2))
                                      · rw [if_pos c36] at H
                                        have c36b0 : (((rd_T23 t128 x10_3).f0) == (wrap64 (((rd_T23 t128 (ji33)).f0) + a2))) = true := beq_iff_eq.mpr c36
                                        have c36b1 : (((rd_T23 t128 x10_3).f0) != (wrap64 (((rd_T23 t128 (ji33)).f0) + a2))) = false := bne_eq_false_iff_eq.mpr c36
                                        clear c36
                                        have H' := Aside0.mk H
                                        clear H
                                        obtain ⟨Ao37, co37, eo37⟩ := Kd.R_slice HO_8.out
                                        subst eo37
                                        have p132 : 0 ≤ (x10_3 : Int) := of_decide_eq_true (by first | (with_reducible assumption) | assumption)
                                        have q132 : x10_3 < (t128.length : Int) := of_decide_eq_true (by first | (with_reducible assumption) | assumption)
                                        obtain ⟨ad132, e132, hx132_0, hx132_1⟩ := at_T23 (Kd.R_reads' HO_8.out).2.2 x10_3 p132 q132
                                        cases e132
                                        replace p132 := eq_true p132
                                        replace q132 := eq_true q132
                                        have p133 : 0 ≤ (x10_3 : Int) := of_decide_eq_true (by first | (with_reducible assumption) | assumption)
                                        have q133 : x10_3 < (t128.length : Int) := of_decide_eq_true (by first | (with_reducible assumption) | assumption)
                                        obtain ⟨ad133, e133, hx133_0, hx133_1⟩ := at_T23 (Kd.R_reads' HO_8.out).2.2 x10_3 p133 q133
                                        obtain rfl : ad132 = ad133 := (by injection e133)
                                        replace p133 := eq_true p133
                                        replace q133 := eq_true q133
                                        have p134 : 0 ≤ (x10_3 : Int) := of_decide_eq_true (by first | (with_reducible assumption) | assumption)
                                        have q134 : x10_3 < (t128.length : Int) := of_decide_eq_true (by first | (with_reducible assumption) | assumption)
                                        obtain ⟨ad134, e134, hx134_0, hx134_1⟩ := at_T23 (Kd.R_reads' HO_8.out).2.2 x10_3 p134 q134
                                        obtain rfl : ad132 = ad134 := (by injection e134)
                                        replace p134 := eq_true p134
                                        replace q134 := eq_true q134
                                        have p135 : 0 ≤ (x10_3 : Int) := of_decide_eq_true (by first | (with_reducible assumption) | assumption)
                                        have q135 : x10_3 < (t128.length : Int) := of_decide_eq_true (by first | (with_reducible assumption) | assumption)
                                        obtain ⟨ad135, e135, hx135_0, hx135_1⟩ := at_T23 (Kd.R_reads' HO_8.out).2.2 x10_3 p135 q135
                                        obtain rfl : ad132 = ad135 := (by injection e135)
                                        replace p135 := eq_true p135
                                        replace q135 := eq_true q135
                                        have p136 : 0 ≤ (x10_3 : Int) := of_decide_eq_true (by first | (with_reducible assumption) | assumption)
                                        have q136 : x10_3 < (t128.length : Int) := of_decide_eq_true (by first | (with_reducible assumption) | assumption)
                                        obtain ⟨ad136, e136, hx136_0, hx136_1⟩ := at_T23 (Kd.R_reads' HO_8.out).2.2 x10_3 p136 q136
                                        obtain rfl : ad132 = ad136 := (by injection e136)
                                        replace p136 := eq_true p136
                                        replace q136 := eq_true q136
                                        have p137 : 0 ≤ (x10_3 : Int) := of_decide_eq_true (by first | (with_reducible assumption) | assumption)
                                        have q137 : x10_3 < (t128.length : Int) := of_decide_eq_true (by first | (with_reducible assumption) | assumption)
                                        obtain ⟨ad137, e137, hx137_0, hx137_1⟩ := at_T23 (Kd.R_reads' HO_8.out).2.2 x10_3 p137 q137
                                        obtain rfl : ad132 = ad137 := (by injection e137)
                                        replace p137 := eq_true p137
                                        replace q137 := eq_true q137
                                        have p138 : 0 ≤ ((ji33) : Int) := of_decide_eq_true (by first | (with_reducible assumption) | assumption)
                                        have q138 : (ji33) < (t128.length : Int) := of_decide_eq_true (by first | (with_reducible assumption) | assumption)
                                        obtain ⟨ad138, e138, hx138_0, hx138_1⟩ := at_T23 (Kd.R_reads' HO_8.out).2.2 (ji33) p138 q138
                                        obtain rfl : ad132 = ad138 := (by injection e138)
                                        replace p138 := eq_true p138
                                        replace q138 := eq_true q138
                                        go_wp2
                                        repeat (go_quiet (fail); try go_wp2)
                                        go_roundg k3
                                        case measure => have := HJ4.out; have := HJ10.out; have := HK3.out; omega
                                        case rel => exact ⟨(wrap64 (x10_3 + 1)), (by first | rfl | (simp; done) | (simp [*]; done)), H', ⟨by have := HJ4.out; have := HJ10.out; have := HK3.out; omega⟩, ⟨by (with_reducible repeat (first | apply Kd.R_alloc | apply Kd.R_drewN | apply Kd.R_drew)); exact HO_8.out⟩, ⟨by repeat (first | (with_reducible first | exact HB.out | apply below_alloc | apply pw_below_drewN | apply below_drew1) | exact HB.out)⟩⟩
                                      · rw [if_neg c36] at H
                                        have c36b0 : (((rd_T23 t128 x10_3).f0) == (wrap64 (((rd_T23 t128 (ji33)).f0) + a2))) = false := beq_eq_false_iff_ne.mpr c36
                                        have c36b1 : (((rd_T23 t128 x10_3).f0) != (wrap64 (((rd_T23 t128 (ji33)).f0) + a2))) = true := bne_iff_ne.mpr c36
                                        obtain rfl := Option.some.inj H
                                        obtain ⟨Ao38, co38, eo38⟩ := Kd.R_slice HO_8.out
                                        subst eo38
                                        have p132 : 0 ≤ (x10_3 : Int) := of_decide_eq_true (by first | (with_reducible assumption) | assumption)
                                        have q132 : x10_3 < (t128.length : Int) := of_decide_eq_true (by first | (with_reducible assumption) | assumption)
                                        obtain ⟨ad132, e132, hx132_0, hx132_1⟩ := at_T23 (Kd.R_reads' HO_8.out).2.2 x10_3 p132 q132
                                        cases e132
                                        replace p132 := eq_true p132
                                        replace q132 := eq_true q132
                                        have p133 : 0 ≤ (x10_3 : Int) := of_decide_eq_true (by first | (with_reducible assumption) | assumption)
                                        have q133 : x10_3 < (t128.length : Int) := of_decide_eq_true (by first | (with_reducible assumption) | assumption)
                                        obtain ⟨ad133, e133, hx133_0, hx133_1⟩ := at_T23 (Kd.R_reads' HO_8.out).2.2 x10_3 p133 q133
                                        obtain rfl : ad132 = ad133 := (by injection e133)
                                        replace p133 := eq_true p133
                                        replace q133 := eq_true q133
                                        have p134 : 0 ≤ (x10_3 : Int) := of_decide_eq_true (by first | (with_reducible assumption) | assumption)
                                        have q134 : x10_3 < (t128.length : Int) := of_decide_eq_true (by first | (with_reducible assumption) | assumption)
                                        obtain ⟨ad134, e134, hx134_0, hx134_1⟩ := at_T23 (Kd.R_reads' HO_8.out).2.2 x10_3 p134 q134
                                        obtain rfl : ad132 = ad134 := (by injection e134)
                                        replace p134 := eq_true p134
                                        replace q134 := eq_true q134
                                        have p135 : 0 ≤ (x10_3 : Int) := of_decide_eq_true (by first | (with_reducible assumption) | assumption)
                                        have q135 : x10_3 < (t128.length : Int) := of_decide_eq_true (by first | (with_reducible assumption) | assumption)
                                        obtain ⟨ad135, e135, hx135_0, hx135_1⟩ := at_T23 (Kd.R_reads' HO_8.out).2.2 x10_3 p135 q135
                                        obtain rfl : ad132 = ad135 := (by injection e135)
                                        replace p135 := eq_true p135
                                        replace q135 := eq_true q135
                                        have p136 : 0 ≤ (x10_3 : Int) := of_decide_eq_true (by first | (with_reducible assumption) | assumption)
                                        have q136 : x10_3 < (t128.length : Int) := of_decide_eq_true (by first | (with_reducible assumption) | assumption)
                                        obtain ⟨ad136, e136, hx136_0, hx136_1⟩ := at_T23 (Kd.R_reads' HO_8.out).2.2 x10_3 p136 q136
                                        obtain rfl : ad132 = ad136 := (by injection e136)
                                        replace p136 := eq_true p136
                                        replace q136 := eq_true q136
                                        have p137 : 0 ≤ (x10_3 : Int) := of_decide_eq_true (by first | (with_reducible assumption) | assumption)
                                        have q137 : x10_3 < (t128.length : Int) := of_decide_eq_true (by first | (with_reducible assumption) | assumption)
                                        obtain ⟨ad137, e137, hx137_0, hx137_1⟩ := at_T23 (Kd.R_reads' HO_8.out).2.2 x10_3 p137 q137
                                        obtain rfl : ad132 = ad137 := (by injection e137)
                                        replace p137 := eq_true p137
                                        replace q137 := eq_true q137
                                        have p138 : 0 ≤ ((ji33) : Int) := of_decide_eq_true (by first | (with_reducible assumption) | assumption)
                                        have q138 : (ji33) < (t128.length : Int) := of_decide_eq_true (by first | (with_reducible assumption) | assumption)
                                        obtain ⟨ad138, e138, hx138_0, hx138_1⟩ := at_T23 (Kd.R_reads' HO_8.out).2.2 (ji33) p138 q138
                                        obtain rfl : ad132 = ad138 := (by injection e138)
                                        replace p138 := eq_true p138
                                        replace q138 := eq_true q138
                                        go_wp2
                                        repeat (go_quiet (fail); try go_wp2)
                                        go_ret
                                        exact ⟨by first | rfl | (simp [errW_none, errW_some] <;> rfl) | (simp only [← hji33]; first | rfl | (simp [errW_none, errW_some] <;> rfl)) | (simp [*, errW_none, errW_some] <;> rfl), by repeat (first | (with_reducible first | exact HB.out | apply below_alloc | apply pw_below_drewN | apply below_drew1) | exact HB.out)⟩
                                    · rw [if_neg c35] at H
                                      exact absurd H (by simp)
                                  · rw [if_neg c34] at H
                                    exact absurd H (by simp)
                                · rw [if_neg c32] at H
                                  have c32b0 : decide (0 < x10_3) = false := decide_eq_false c32
                                  clear c32
                                  have H' := Aside0.mk H
                                  clear H
                                  obtain ⟨Ao39, co39, eo39⟩ := Kd.R_slice HO_8.out
                                  subst eo39
                                  have p132 : 0 ≤ (x10_3 : Int) := of_decide_eq_true (by first | (with_reducible assumption) | assumption)
                                  have q132 : x10_3 < (t128.length : Int) := of_decide_eq_true (by first | (with_reducible assumption) | assumption)
                                  obtain ⟨ad132, e132, hx132_0, hx132_1⟩ := at_T23 (Kd.R_reads' HO_8.out).2.2 x10_3 p132 q132
                                  cases e132
                                  replace p132 := eq_true p132
                                  replace q132 := eq_true q132
                                  have p133 : 0 ≤ (x10_3 : Int) := of_decide_eq_true (by first | (with_reducible assumption) | assumption)
                                  have q133 : x10_3 < (t128.length : Int) := of_decide_eq_true (by first | (with_reducible assumption) | assumption)
                                  obtain ⟨ad133, e133, hx133_0, hx133_1⟩ := at_T23 (Kd.R_reads' HO_8.out).2.2 x10_3 p133 q133
                                  obtain rfl : ad132 = ad133 := (by injection e133)
                                  replace p133 := eq_true p133
                                  replace q133 := eq_true q133
                                  have p134 : 0 ≤ (x10_3 : Int) := of_decide_eq_true (by first | (with_reducible assumption) | assumption)
                                  have q134 : x10_3 < (t128.length : Int) := of_decide_eq_true (by first | (with_reducible assumption) | assumption)
                                  obtain ⟨ad134, e134, hx134_0, hx134_1⟩ := at_T23 (Kd.R_reads' HO_8.out).2.2 x10_3 p134 q134
                                  obtain rfl : ad132 = ad134 := (by injection e134)
                                  replace p134 := eq_true p134
                                  replace q134 := eq_true q134
                                  have p135 : 0 ≤ (x10_3 : Int) := of_decide_eq_true (by first | (with_reducible assumption) | assumption)
                                  have q135 : x10_3 < (t128.length : Int) := of_decide_eq_true (by first | (with_reducible assumption) | assumption)
                                  obtain ⟨ad135, e135, hx135_0, hx135_1⟩ := at_T23 (Kd.R_reads' HO_8.out).2.2 x10_3 p135 q135
                                  obtain rfl : ad132 = ad135 := (by injection e135)
                                  replace p135 := eq_true p135
                                  replace q135 := eq_true q135
                                  have p136 : 0 ≤ (x10_3 : Int) := of_decide_eq_true (by first | (with_reducible assumption) | assumption)
                                  have q136 : x10_3 < (t128.length : Int) := of_decide_eq_true (by first | (with_reducible assumption) | assumption)
                                  obtain ⟨ad136, e136, hx136_0, hx136_1⟩ := at_T23 (Kd.R_reads' HO_8.out).2.2 x10_3 p136 q136
                                  obtain rfl : ad132 = ad136 := (by injection e136)
                                  replace p136 := eq_true p136
                                  replace q136 := eq_true q136
                                  go_wp2
                                  repeat (go_quiet (fail); try go_wp2)
                                  go_roundg k3
                                  case measure => have := HJ4.out; have := HJ10.out; have := HK3.out; omega
                                  case rel => exact ⟨(wrap64 (x10_3 + 1)), (by first | rfl | (simp; done) | (simp [*]; done)), H', ⟨by have := HJ4.out; have := HJ10.out; have := HK3.out; omega⟩, ⟨by (with_reducible repeat (first | apply Kd.R_alloc | apply Kd.R_drewN | apply Kd.R_drew)); exact HO_8.out⟩, ⟨by repeat (first | (with_reducible first | exact HB.out | apply below_alloc | apply pw_below_drewN | apply below_drew1) | exact HB.out)⟩⟩
                          · rw [if_neg c27] at H
                            have c27b0 : ((wrap64 (((rd_T23 t128 x10_3).f1) - ((rd_T23 t128 x10_3).f0))) == a1) = false := beq_eq_false_iff_ne.mpr c27
                            have c27b1 : ((wrap64 (((rd_T23 t128 x10_3).f1) - ((rd_T23 t128 x10_3).f0))) != a1) = true := bne_iff_ne.mpr c27
                            obtain rfl := Option.some.inj H
                            obtain ⟨Ao40, co40, eo40⟩ := Kd.R_slice HO_8.out
                            subst eo40
                            have p132 : 0 ≤ (x10_3 : Int) := of_decide_eq_true (by first | (with_reducible assumption) | assumption)
                            have q132 : x10_3 < (t128.length : Int) := of_decide_eq_true (by first | (with_reducible assumption) | assumption)
                            obtain ⟨ad132, e132, hx132_0, hx132_1⟩ := at_T23 (Kd.R_reads' HO_8.out).2.2 x10_3 p132 q132
                            cases e132
                            replace p132 := eq_true p132
                            replace q132 := eq_true q132
                            have p133 : 0 ≤ (x10_3 : Int) := of_decide_eq_true (by first | (with_reducible assumption) | assumption)
                            have q133 : x10_3 < (t128.length : Int) := of_decide_eq_true (by first | (with_reducible assumption) | assumption)
                            obtain ⟨ad133, e133, hx133_0, hx133_1⟩ := at_T23 (Kd.R_reads' HO_8.out).2.2 x10_3 p133 q133
                            obtain rfl : ad132 = ad133 := (by injection e133)
                            replace p133 := eq_true p133
                            replace q133 := eq_true q133
                            have p134 : 0 ≤ (x10_3 : Int) := of_decide_eq_true (by first | (with_reducible assumption) | assumption)
                            have q134 : x10_3 < (t128.length : Int) := of_decide_eq_true (by first | (with_reducible assumption) | assumption)
                            obtain ⟨ad134, e134, hx134_0, hx134_1⟩ := at_T23 (Kd.R_reads' HO_8.out).2.2 x10_3 p134 q134
                            obtain rfl : ad132 = ad134 := (by injection e134)
                            replace p134 := eq_true p134
                            replace q134 := eq_true q134
                            go_wp2
                            repeat (go_quiet (fail); try go_wp2)
                            go_ret
                            exact ⟨by first | rfl | (simp [errW_none, errW_some] <;> rfl) | (simp [*, errW_none, errW_some] <;> rfl), by repeat (first | (with_reducible first | exact HB.out | apply below_alloc | apply pw_below_drewN | apply below_drew1) | exact HB.out)⟩
                        · rw [if_neg c26] at H
                          have c26b0 : ((Int.tmod ((rd_T23 t128 x10_3).f0) a2) == 0) = false := beq_eq_false_iff_ne.mpr c26
                          have c26b1 : ((Int.tmod ((rd_T23 t128 x10_3).f0) a2) != 0) = true := bne_iff_ne.mpr c26
                          obtain rfl := Option.some.inj H
                          obtain ⟨Ao41, co41, eo41⟩ := Kd.R_slice HO_8.out
                          subst eo41
                          have p132 : 0 ≤ (x10_3 : Int) := of_decide_eq_true (by first | (with_reducible assumption) | assumption)
                          have q132 : x10_3 < (t128.length : Int) := of_decide_eq_true (by first | (with_reducible assumption) | assumption)
                          obtain ⟨ad132, e132, hx132_0, hx132_1⟩ := at_T23 (Kd.R_reads' HO_8.out).2.2 x10_3 p132 q132
                          cases e132
                          replace p132 := eq_true p132
                          replace q132 := eq_true q132
                          go_wp2
                          repeat (go_quiet (fail); try go_wp2)
                          go_ret
                          exact ⟨by first | rfl | (simp [errW_none, errW_some] <;> rfl) | (simp [*, errW_none, errW_some] <;> rfl), by repeat (first | (with_reducible first | exact HB.out | apply below_alloc | apply pw_below_drewN | apply below_drew1) | exact HB.out)⟩
                    · rw [if_neg c24] at H
                      exact absurd H (by simp)
                  · rw [if_neg c23] at H
                    have c23b0 : decide (x10_3 < (t128.length : Int)) = false := decide_eq_false c23
                    clear c23
                    obtain rfl := Option.some.inj H
                    obtain ⟨Ao42, co42, eo42⟩ := Kd.R_slice HO_8.out
                    subst eo42
                    go_wp2
                    repeat (go_quiet (fail); try go_wp2)
                    go_ret
                    exact ⟨by first | rfl | (simp [errW_none, errW_some] <;> rfl) | (simp [*, errW_none, errW_some] <;> rfl), by repeat (first | (with_reducible first | exact HB.out | apply below_alloc | apply pw_below_drewN | apply below_drew1) | exact HB.out)⟩

/-- THE ONE PURE STATEMENT of tailwaterlaw14_SlideMany: yours. -/
def tailwaterlaw14_SlideMany.Pure : Prop := ∀ (a0 : Int) (a1 : Int) (a2 : Int), (Lit.int .i64 a0).wf = true → (Lit.int .i64 a1).wf = true → (Lit.int .i64 a2).wf = true → ∃ k, tailwaterlaw14_SlideMany.f k a0 a1 a2 = some true
theorem tailwaterlaw14_SlideMany.walk (P : tailwaterlaw14_SlideMany.Pure) (a0 : Int) (a1 : Int) (a2 : Int) (w : World) (w0 : (Lit.int .i64 a0).wf = true) (w1 : (Lit.int .i64 a1).wf = true) (w2 : (Lit.int .i64 a2).wf = true) :
    Calls Try.prog 9 #[.int .i64 a0, .int .i64 a1, .int .i64 a2] w fun e w' => e = .returned (.bool true) ∧ Below w.heap.size w w' := by
  obtain ⟨k, h⟩ := P a0 a1 a2 w0 w1 w2
  refine (tailwaterlaw14_SlideMany.calls k a0 a1 a2 true w h).mono ?_
  rintro e w' ⟨rfl, hd⟩
  exact ⟨rfl, hd⟩

end Go.Proofs.Ytheobaaegpfbjaa.S
