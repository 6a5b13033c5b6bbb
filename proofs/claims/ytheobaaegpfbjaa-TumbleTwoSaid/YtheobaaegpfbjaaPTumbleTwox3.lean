-- PRINTED BY print.sh 35421559b90ae4d0a3588c463048766b98c2df88dd9212a6774a882060cdf62d: not written by this session
import Derived.Test.YtheobaaegpfbjaaPTumbleTwox0
import Derived.Test.YtheobaaegpfbjaaPTumbleTwox1
import Derived.Test.YtheobaaegpfbjaaPTumbleTwox2
namespace Go.Proofs.Ytheobaaegpfbjaa.PTumbleTwo
open Go.RowKit Go.Proofs.YtheobaaegpfbjaaW.PrintWords Go.Proofs.YtheobaaegpfbjaaW.PrintLast Go.Proofs.YtheobaaegpfbjaaW.PrintMore
attribute [local go_sem] max2_int min2_int max_two min_two max_three min_three max_four min_four   -- for this text's walks alone
set_option linter.unusedVariables false
set_option linter.unusedSimpArgs false

attribute [local go_sem high] eqA23
/-! ### tailwaterlaw13_TumbleTwo: function 6 -/
mutual
def tailwaterlaw13_TumbleTwo.j0 : Nat → Int → Int → Int → Bool → Bool → Option (Bool)
  | 0, _, _, _, _, _ => none
  | k + 1, x0, x1, x2, x7, x35 => if x35 = true then (some x7) else ((tumble_Of.f k x0 x2).bind fun bt118 => ((tumble_Of.f k x1 x2).bind fun bt122 => ((tumble_Number.f k x0 x2).bind fun bt126 => ((tumble_Number.f k x1 x2).bind fun bt128 => (if bt118.2.2 = 0 then (if bt122.2.2 = 0 then (if bt126.2 = 0 then (tailwaterlaw13_TumbleTwo.j1 k x0 x1 x2 x7 bt126.1 bt128.1 (bt128.2 != 0) bt118.1 bt118.2.1 bt122.1 bt122.2.1) else (tailwaterlaw13_TumbleTwo.j1 k x0 x1 x2 x7 bt126.1 bt128.1 true bt118.1 bt118.2.1 bt122.1 bt122.2.1)) else (tailwaterlaw13_TumbleTwo.j1 k x0 x1 x2 x7 bt126.1 bt128.1 true bt118.1 bt118.2.1 bt122.1 bt122.2.1)) else (tailwaterlaw13_TumbleTwo.j1 k x0 x1 x2 x7 bt126.1 bt128.1 true bt118.1 bt118.2.1 bt122.1 bt122.2.1))))))
def tailwaterlaw13_TumbleTwo.j1 : Nat → Int → Int → Int → Bool → Int → Int → Bool → Int → Int → Int → Int → Option (Bool)
  | 0, _, _, _, _, _, _, _, _, _, _, _ => none
  | k + 1, x0, x1, x2, x7, x12, x14, x74, x122000, x122001, x126000, x126001 => if x74 = true then (some false) else (if (x122000 == x126000 && (x122001 == x126001)) = true then (if x7 = true then (if x12 = x14 then (some (decide ((wrap64 (x1 - x0)) < x2))) else (some false)) else (some false)) else (if x7 = true then (if x12 < x14 then (some (decide (x122001 ≤ x126000))) else (some false)) else (some false)))
end
def tailwaterlaw13_TumbleTwo.f (k : Nat) (a0 : Int) (a1 : Int) (a2 : Int) : Option (Bool) := (tailwaterlaw13_alive.f k).bind fun t115 => ((tailwaterref13_Check.f k a0 a2).bind fun t116 => (if t116 = 0 then ((tailwaterref13_Check.f k a1 a2).bind fun t117 => (if t117 = 0 then (if a0 > a1 then (tailwaterlaw13_TumbleTwo.j0 k a0 a1 a2 t115 true) else (tailwaterlaw13_TumbleTwo.j0 k a0 a1 a2 t115 (!t115))) else (tailwaterlaw13_TumbleTwo.j0 k a0 a1 a2 t115 true))) else (tailwaterlaw13_TumbleTwo.j0 k a0 a1 a2 t115 true)))
theorem tailwaterlaw13_TumbleTwo.mono_l : ∀ k, (∀ y0 y1 y2 y3 y4, LeO (tailwaterlaw13_TumbleTwo.j0 k y0 y1 y2 y3 y4) (tailwaterlaw13_TumbleTwo.j0 (k + 1) y0 y1 y2 y3 y4)) ∧ (∀ y0 y1 y2 y3 y4 y5 y6 y7 y8 y9 y10, LeO (tailwaterlaw13_TumbleTwo.j1 k y0 y1 y2 y3 y4 y5 y6 y7 y8 y9 y10) (tailwaterlaw13_TumbleTwo.j1 (k + 1) y0 y1 y2 y3 y4 y5 y6 y7 y8 y9 y10))
  | 0 => ⟨fun _ _ _ _ _ r h => by simp [tailwaterlaw13_TumbleTwo.j0] at h, fun _ _ _ _ _ _ _ _ _ _ _ r h => by simp [tailwaterlaw13_TumbleTwo.j1] at h⟩
  | k + 1 => by
    obtain ⟨ih0, ih1⟩ := tailwaterlaw13_TumbleTwo.mono_l k
    refine ⟨?_, ?_⟩
    · intro y0 y1 y2 y3 y4
      unfold tailwaterlaw13_TumbleTwo.j0
      repeat' first
      | (with_reducible exact ih0 _ _ _ _ _)
      | (with_reducible exact ih1 _ _ _ _ _ _ _ _ _ _ _)
      | (with_reducible exact tailwaterlaw13_alive.mono _)
      | (with_reducible exact tailwaterref13_Check.mono _ _ _)
      | (with_reducible exact tumble_Number.mono _ _ _)
      | (with_reducible exact tumble_Of.mono _ _ _)
      | (with_reducible exact LeO.refl _)
      | (with_reducible exact LeO.none _)
      | (with_reducible refine LeO.ite ?_ ?_)
      | (with_reducible refine LeO.bind ?_ (fun _ => ?_))
      | exact ih0 _ _ _ _ _
      | exact ih1 _ _ _ _ _ _ _ _ _ _ _
      | exact tailwaterlaw13_alive.mono _
      | exact tailwaterref13_Check.mono _ _ _
      | exact tumble_Number.mono _ _ _
      | exact tumble_Of.mono _ _ _
      | exact LeO.none _
      | refine LeO.ite ?_ ?_
      | refine LeO.bind ?_ (fun _ => ?_)
    · intro y0 y1 y2 y3 y4 y5 y6 y7 y8 y9 y10
      unfold tailwaterlaw13_TumbleTwo.j1
      repeat' first
      | (with_reducible exact ih0 _ _ _ _ _)
      | (with_reducible exact ih1 _ _ _ _ _ _ _ _ _ _ _)
      | (with_reducible exact tailwaterlaw13_alive.mono _)
      | (with_reducible exact tailwaterref13_Check.mono _ _ _)
      | (with_reducible exact tumble_Number.mono _ _ _)
      | (with_reducible exact tumble_Of.mono _ _ _)
      | (with_reducible exact LeO.refl _)
      | (with_reducible exact LeO.none _)
      | (with_reducible refine LeO.ite ?_ ?_)
      | (with_reducible refine LeO.bind ?_ (fun _ => ?_))
      | exact ih0 _ _ _ _ _
      | exact ih1 _ _ _ _ _ _ _ _ _ _ _
      | exact tailwaterlaw13_alive.mono _
      | exact tailwaterref13_Check.mono _ _ _
      | exact tumble_Number.mono _ _ _
      | exact tumble_Of.mono _ _ _
      | exact LeO.none _
      | refine LeO.ite ?_ ?_
      | refine LeO.bind ?_ (fun _ => ?_)
theorem tailwaterlaw13_TumbleTwo.mono : ∀ a0 a1 a2 k, LeO (tailwaterlaw13_TumbleTwo.f k a0 a1 a2) (tailwaterlaw13_TumbleTwo.f (k + 1) a0 a1 a2) := by
  intro a0 a1 a2 k
  obtain ⟨ih0, ih1⟩ := tailwaterlaw13_TumbleTwo.mono_l k
  unfold tailwaterlaw13_TumbleTwo.f
  repeat' first
      | (with_reducible exact ih0 _ _ _ _ _)
      | (with_reducible exact ih1 _ _ _ _ _ _ _ _ _ _ _)
      | (with_reducible exact tailwaterlaw13_alive.mono _)
      | (with_reducible exact tailwaterref13_Check.mono _ _ _)
      | (with_reducible exact tumble_Number.mono _ _ _)
      | (with_reducible exact tumble_Of.mono _ _ _)
      | (with_reducible exact LeO.refl _)
      | (with_reducible exact LeO.none _)
      | (with_reducible refine LeO.ite ?_ ?_)
      | (with_reducible refine LeO.bind ?_ (fun _ => ?_))
      | exact ih0 _ _ _ _ _
      | exact ih1 _ _ _ _ _ _ _ _ _ _ _
      | exact tailwaterlaw13_alive.mono _
      | exact tailwaterref13_Check.mono _ _ _
      | exact tumble_Number.mono _ _ _
      | exact tumble_Of.mono _ _ _
      | exact LeO.none _
      | refine LeO.ite ?_ ?_
      | refine LeO.bind ?_ (fun _ => ?_)
set_option maxHeartbeats 8000000 in
set_option maxRecDepth 100000 in
theorem tailwaterlaw13_TumbleTwo.calls (k : Nat) (a0 : Int) (a1 : Int) (a2 : Int) (r : Bool) (w : World) (h : tailwaterlaw13_TumbleTwo.f k a0 a1 a2 = some r) :
    Calls Try.prog 6 #[.int .i64 a0, .int .i64 a1, .int .i64 a2] w fun e w' => e = .returned (.bool r) ∧ Below w.heap.size w w' := by
  have hu23 := Try.underlying23
  have HB := Aside0.mk (Below.refl w.heap.size w)
  have H : ((tailwaterlaw13_alive.f k).bind fun t115 => ((tailwaterref13_Check.f k a0 a2).bind fun t116 => (if t116 = 0 then ((tailwaterref13_Check.f k a1 a2).bind fun t117 => (if t117 = 0 then (if a0 > a1 then (tailwaterlaw13_TumbleTwo.j0 k a0 a1 a2 t115 true) else (tailwaterlaw13_TumbleTwo.j0 k a0 a1 a2 t115 (!t115))) else (tailwaterlaw13_TumbleTwo.j0 k a0 a1 a2 t115 true))) else (tailwaterlaw13_TumbleTwo.j0 k a0 a1 a2 t115 true)))) = some r := h
  clear h
  replace H := Option.bind_eq_some_iff.mp H
  obtain ⟨t115, A40, H⟩ := H
  replace H : ((tailwaterref13_Check.f k a0 a2).bind fun t116 => (if t116 = 0 then ((tailwaterref13_Check.f k a1 a2).bind fun t117 => (if t117 = 0 then (if a0 > a1 then (tailwaterlaw13_TumbleTwo.j0 k a0 a1 a2 t115 true) else (tailwaterlaw13_TumbleTwo.j0 k a0 a1 a2 t115 (!t115))) else (tailwaterlaw13_TumbleTwo.j0 k a0 a1 a2 t115 true))) else (tailwaterlaw13_TumbleTwo.j0 k a0 a1 a2 t115 true))) = some r := H
  have A4 := Aside0.mk A40
  clear A40
  have HC5 := Aside0.mk H
  clear H
  go_enter Try.func6, Try.ntmps6
  go_upto_region 2 with (first | ((with_reducible refine gate_callee (f := 19) rfl ?_); refine goesL_ (some 16) rfl rfl Try.func19 (by kernel_rfl) rfl #[] rfl (by (try simp only [List.map_toArray, List.map_cons, List.map_nil]); first | done | rfl | (simp only [List.length_drop, List.length_take]; rfl)) ?_; (with_reducible refine (tailwaterlaw13_alive.calls k  t115 _ A4.out).mono ?_); rintro e w6 ⟨rfl, hb⟩; refine ⟨_, rfl, ?_⟩; have n0_ := Aside0.mk (below_step (by repeat (first | (with_reducible first | exact HB.out | apply below_alloc | apply pw_below_drewN | apply below_drew1) | exact HB.out)) hb); clear HB; have HB := n0_; clear n0_; (try clear hb); (try clear hb2); (try clear hk); (try clear hi)))
  (try simp only [Act.put, List.setIfInBounds_toArray, List.set_cons_zero, List.set_cons_succ])
  go_cut [35] (fun v35 wc => ∃ (kq : Nat) (x35_4 : Bool), v35 = .bool x35_4 ∧ Aside0 (tailwaterlaw13_TumbleTwo.j0 kq a0 a1 a2 t115 x35_4 = some r) ∧ Aside0 (kq ≤ k) ∧ Aside0 (Below w.heap.size w wc))
  case first =>
    have H := HC5.out
    clear HC5
    replace H := Option.bind_eq_some_iff.mp H
    obtain ⟨t116, A70, H⟩ := H
    replace H : (if t116 = 0 then ((tailwaterref13_Check.f k a1 a2).bind fun t117 => (if t117 = 0 then (if a0 > a1 then (tailwaterlaw13_TumbleTwo.j0 k a0 a1 a2 t115 true) else (tailwaterlaw13_TumbleTwo.j0 k a0 a1 a2 t115 (!t115))) else (tailwaterlaw13_TumbleTwo.j0 k a0 a1 a2 t115 true))) else (tailwaterlaw13_TumbleTwo.j0 k a0 a1 a2 t115 true)) = some r := H
    have A7 := Aside0.mk A70
    clear A70
    by_cases c8 : t116 = 0
    · rw [if_pos c8] at H
      have c8b0 : (t116 == 0) = true := beq_iff_eq.mpr c8
      have c8b1 : (t116 != 0) = false := bne_eq_false_iff_eq.mpr c8
      clear c8
      (first | rw [c8b0] | (simp only [i64_w, i32_w]; rw [c8b0]) | skip)
      replace H := Option.bind_eq_some_iff.mp H
      obtain ⟨t117, A90, H⟩ := H
      replace H : (if t117 = 0 then (if a0 > a1 then (tailwaterlaw13_TumbleTwo.j0 k a0 a1 a2 t115 true) else (tailwaterlaw13_TumbleTwo.j0 k a0 a1 a2 t115 (!t115))) else (tailwaterlaw13_TumbleTwo.j0 k a0 a1 a2 t115 true)) = some r := H
      have A9 := Aside0.mk A90
      clear A90
      by_cases c10 : t117 = 0
      · rw [if_pos c10] at H
        have c10b0 : (t117 == 0) = true := beq_iff_eq.mpr c10
        have c10b1 : (t117 != 0) = false := bne_eq_false_iff_eq.mpr c10
        clear c10
        by_cases c11 : a0 > a1
        · rw [if_pos c11] at H
          have c11b0 : decide (a1 < a0) = true := decide_eq_true c11
          clear c11
          have H' := Aside0.mk H
          clear H
          go_wp2_with (first | ((with_reducible refine gate_callee (f := 20) rfl ?_); refine goesL_ (some 19) rfl rfl Try.func20 (by kernel_rfl) rfl #[.int .i64 a0, .int .i64 a2] rfl (by (try simp only [List.map_toArray, List.map_cons, List.map_nil]); first | done | rfl | (simp only [List.length_drop, List.length_take]; rfl)) ?_; (with_reducible refine (tailwaterref13_Check.calls k a0 a2 t116 _ A7.out).mono ?_); rintro e w' ⟨rfl, ⟨nd, rfl⟩⟩; refine ⟨_, rfl, ?_⟩) | (go_at_call 20; (with_reducible refine (tailwaterref13_Check.calls k a1 a2 t117 _ A9.out).mono ?_); rintro e w' ⟨rfl, ⟨nd, rfl⟩⟩))
          go_meet
          case rel => exact ⟨_, (true), (by first | rfl | (simp; done) | (simp [*]; done)), H', ⟨by first | omega | exact Nat.le_refl _⟩, ⟨by repeat (first | (with_reducible first | exact HB.out | apply below_alloc | apply pw_below_drewN | apply below_drew1) | exact HB.out)⟩⟩
        · rw [if_neg c11] at H
          have c11b0 : decide (a1 < a0) = false := decide_eq_false c11
          clear c11
          have H' := Aside0.mk H
          clear H
          go_wp2_with (first | ((with_reducible refine gate_callee (f := 20) rfl ?_); refine goesL_ (some 19) rfl rfl Try.func20 (by kernel_rfl) rfl #[.int .i64 a0, .int .i64 a2] rfl (by (try simp only [List.map_toArray, List.map_cons, List.map_nil]); first | done | rfl | (simp only [List.length_drop, List.length_take]; rfl)) ?_; (with_reducible refine (tailwaterref13_Check.calls k a0 a2 t116 _ A7.out).mono ?_); rintro e w' ⟨rfl, ⟨nd, rfl⟩⟩; refine ⟨_, rfl, ?_⟩) | (go_at_call 20; (with_reducible refine (tailwaterref13_Check.calls k a1 a2 t117 _ A9.out).mono ?_); rintro e w' ⟨rfl, ⟨nd, rfl⟩⟩))
          go_meet
          case rel => exact ⟨_, (!t115), (by first | rfl | (simp; done) | (simp [*]; done)), H', ⟨by first | omega | exact Nat.le_refl _⟩, ⟨by repeat (first | (with_reducible first | exact HB.out | apply below_alloc | apply pw_below_drewN | apply below_drew1) | exact HB.out)⟩⟩
      · rw [if_neg c10] at H
        have c10b0 : (t117 == 0) = false := beq_eq_false_iff_ne.mpr c10
        have c10b1 : (t117 != 0) = true := bne_iff_ne.mpr c10
        have H' := Aside0.mk H
        clear H
        go_wp2_with (first | ((with_reducible refine gate_callee (f := 20) rfl ?_); refine goesL_ (some 19) rfl rfl Try.func20 (by kernel_rfl) rfl #[.int .i64 a0, .int .i64 a2] rfl (by (try simp only [List.map_toArray, List.map_cons, List.map_nil]); first | done | rfl | (simp only [List.length_drop, List.length_take]; rfl)) ?_; (with_reducible refine (tailwaterref13_Check.calls k a0 a2 t116 _ A7.out).mono ?_); rintro e w' ⟨rfl, ⟨nd, rfl⟩⟩; refine ⟨_, rfl, ?_⟩) | (go_at_call 20; (with_reducible refine (tailwaterref13_Check.calls k a1 a2 t117 _ A9.out).mono ?_); rintro e w' ⟨rfl, ⟨nd, rfl⟩⟩))
        go_meet
        case rel => exact ⟨_, (true), (by first | rfl | (simp; done) | (simp [*]; done)), H', ⟨by first | omega | exact Nat.le_refl _⟩, ⟨by repeat (first | (with_reducible first | exact HB.out | apply below_alloc | apply pw_below_drewN | apply below_drew1) | exact HB.out)⟩⟩
    · rw [if_neg c8] at H
      have c8b0 : (t116 == 0) = false := beq_eq_false_iff_ne.mpr c8
      have c8b1 : (t116 != 0) = true := bne_iff_ne.mpr c8
      (first | rw [c8b0] | (simp only [i64_w, i32_w]; rw [c8b0]) | skip)
      have H' := Aside0.mk H
      clear H
      go_wp2_with (first | ((with_reducible refine gate_callee (f := 20) rfl ?_); refine goesL_ (some 19) rfl rfl Try.func20 (by kernel_rfl) rfl #[.int .i64 a0, .int .i64 a2] rfl (by (try simp only [List.map_toArray, List.map_cons, List.map_nil]); first | done | rfl | (simp only [List.length_drop, List.length_take]; rfl)) ?_; (with_reducible refine (tailwaterref13_Check.calls k a0 a2 t116 _ A7.out).mono ?_); rintro e w' ⟨rfl, ⟨nd, rfl⟩⟩; refine ⟨_, rfl, ?_⟩))
      go_meet
      case rel => exact ⟨_, (true), (by first | rfl | (simp; done) | (simp [*]; done)), H', ⟨by first | omega | exact Nat.le_refl _⟩, ⟨by repeat (first | (with_reducible first | exact HB.out | apply below_alloc | apply pw_below_drewN | apply below_drew1) | exact HB.out)⟩⟩
  case rest =>
    clear HC5
    try clear c1
    try clear c2
    try clear p2
    try clear c6
    try clear c8
    try clear c8b0
    try clear c8b1
    try clear c10
    try clear c10b0
    try clear c10b1
    try clear c11
    try clear c11b0
    obtain ⟨kq, x35_4, rfl, HA, HJ4, HB⟩ := hcut
    cases kq with
    | zero => exact absurd HA.out (by simp [tailwaterlaw13_TumbleTwo.j0])
    | succ kj4 =>
      have H := HA.out
      clear HA
      simp only [tailwaterlaw13_TumbleTwo.j0] at H
      by_cases c12 : x35_4 = true
      · subst c12
        have H1 : (some t115) = some r := by rw [if_pos rfl] at H; exact H
        clear H
        have H := H1
        clear H1
        obtain rfl := Option.some.inj H
        go_wp2
        go_ret
        exact ⟨by first | rfl | (simp [errW_none, errW_some] <;> rfl) | (simp [*, errW_none, errW_some] <;> rfl), by repeat (first | (with_reducible first | exact HB.out | apply below_alloc | apply pw_below_drewN | apply below_drew1) | exact HB.out)⟩
      · replace c12 := Bool.eq_false_iff.mpr c12
        subst c12
        have H1 : ((tumble_Of.f kj4 a0 a2).bind fun bt118 => ((tumble_Of.f kj4 a1 a2).bind fun bt122 => ((tumble_Number.f kj4 a0 a2).bind fun bt126 => ((tumble_Number.f kj4 a1 a2).bind fun bt128 => (if bt118.2.2 = 0 then (if bt122.2.2 = 0 then (if bt126.2 = 0 then (tailwaterlaw13_TumbleTwo.j1 kj4 a0 a1 a2 t115 bt126.1 bt128.1 (bt128.2 != 0) bt118.1 bt118.2.1 bt122.1 bt122.2.1) else (tailwaterlaw13_TumbleTwo.j1 kj4 a0 a1 a2 t115 bt126.1 bt128.1 true bt118.1 bt118.2.1 bt122.1 bt122.2.1)) else (tailwaterlaw13_TumbleTwo.j1 kj4 a0 a1 a2 t115 bt126.1 bt128.1 true bt118.1 bt118.2.1 bt122.1 bt122.2.1)) else (tailwaterlaw13_TumbleTwo.j1 kj4 a0 a1 a2 t115 bt126.1 bt128.1 true bt118.1 bt118.2.1 bt122.1 bt122.2.1)))))) = some r := by rw [if_neg (show ¬ (false = true) by decide)] at H; exact H
        clear H
        have H := H1
        clear H1
        replace H := Option.bind_eq_some_iff.mp H
        obtain ⟨⟨t118, t119, t120⟩, A130, H⟩ := H
        replace H : ((tumble_Of.f kj4 a1 a2).bind fun bt122 => ((tumble_Number.f kj4 a0 a2).bind fun bt126 => ((tumble_Number.f kj4 a1 a2).bind fun bt128 => (if t120 = 0 then (if bt122.2.2 = 0 then (if bt126.2 = 0 then (tailwaterlaw13_TumbleTwo.j1 kj4 a0 a1 a2 t115 bt126.1 bt128.1 (bt128.2 != 0) t118 t119 bt122.1 bt122.2.1) else (tailwaterlaw13_TumbleTwo.j1 kj4 a0 a1 a2 t115 bt126.1 bt128.1 true t118 t119 bt122.1 bt122.2.1)) else (tailwaterlaw13_TumbleTwo.j1 kj4 a0 a1 a2 t115 bt126.1 bt128.1 true t118 t119 bt122.1 bt122.2.1)) else (tailwaterlaw13_TumbleTwo.j1 kj4 a0 a1 a2 t115 bt126.1 bt128.1 true t118 t119 bt122.1 bt122.2.1))))) = some r := H
        have A13 := Aside0.mk A130
        clear A130
        replace H := Option.bind_eq_some_iff.mp H
        obtain ⟨⟨t122, t123, t124⟩, A140, H⟩ := H
        replace H : ((tumble_Number.f kj4 a0 a2).bind fun bt126 => ((tumble_Number.f kj4 a1 a2).bind fun bt128 => (if t120 = 0 then (if t124 = 0 then (if bt126.2 = 0 then (tailwaterlaw13_TumbleTwo.j1 kj4 a0 a1 a2 t115 bt126.1 bt128.1 (bt128.2 != 0) t118 t119 t122 t123) else (tailwaterlaw13_TumbleTwo.j1 kj4 a0 a1 a2 t115 bt126.1 bt128.1 true t118 t119 t122 t123)) else (tailwaterlaw13_TumbleTwo.j1 kj4 a0 a1 a2 t115 bt126.1 bt128.1 true t118 t119 t122 t123)) else (tailwaterlaw13_TumbleTwo.j1 kj4 a0 a1 a2 t115 bt126.1 bt128.1 true t118 t119 t122 t123)))) = some r := H
        have A14 := Aside0.mk A140
        clear A140
        replace H := Option.bind_eq_some_iff.mp H
        obtain ⟨⟨t126, t127⟩, A150, H⟩ := H
        replace H : ((tumble_Number.f kj4 a1 a2).bind fun bt128 => (if t120 = 0 then (if t124 = 0 then (if t127 = 0 then (tailwaterlaw13_TumbleTwo.j1 kj4 a0 a1 a2 t115 t126 bt128.1 (bt128.2 != 0) t118 t119 t122 t123) else (tailwaterlaw13_TumbleTwo.j1 kj4 a0 a1 a2 t115 t126 bt128.1 true t118 t119 t122 t123)) else (tailwaterlaw13_TumbleTwo.j1 kj4 a0 a1 a2 t115 t126 bt128.1 true t118 t119 t122 t123)) else (tailwaterlaw13_TumbleTwo.j1 kj4 a0 a1 a2 t115 t126 bt128.1 true t118 t119 t122 t123))) = some r := H
        have A15 := Aside0.mk A150
        clear A150
        replace H := Option.bind_eq_some_iff.mp H
        obtain ⟨⟨t128, t129⟩, A160, H⟩ := H
        replace H : (if t120 = 0 then (if t124 = 0 then (if t127 = 0 then (tailwaterlaw13_TumbleTwo.j1 kj4 a0 a1 a2 t115 t126 t128 (t129 != 0) t118 t119 t122 t123) else (tailwaterlaw13_TumbleTwo.j1 kj4 a0 a1 a2 t115 t126 t128 true t118 t119 t122 t123)) else (tailwaterlaw13_TumbleTwo.j1 kj4 a0 a1 a2 t115 t126 t128 true t118 t119 t122 t123)) else (tailwaterlaw13_TumbleTwo.j1 kj4 a0 a1 a2 t115 t126 t128 true t118 t119 t122 t123)) = some r := H
        have A16 := Aside0.mk A160
        clear A160
        have HC17 := Aside0.mk H
        clear H
        go_upto_region 8 with (first | ((with_reducible refine gate_callee (f := 15) rfl ?_); refine goesL_ (some 40) rfl rfl Try.func15 (by kernel_rfl) rfl #[.int .i64 a0, .int .i64 a2] rfl (by (try simp only [List.map_toArray, List.map_cons, List.map_nil]); first | done | rfl | (simp only [List.length_drop, List.length_take]; rfl)) ?_; (with_reducible refine (tumble_Of.calls kj4 a0 a2 t118 t119 t120 _ A13.out).mono ?_); rintro e w18 ⟨rfl, hb⟩; refine ⟨_, rfl, ?_⟩; have n0_ := Aside0.mk (below_step (by repeat (first | (with_reducible first | exact HB.out | apply below_alloc | apply pw_below_drewN | apply below_drew1) | exact HB.out)) hb); clear HB; have HB := n0_; clear n0_; (try clear hb); (try clear hb2); (try clear hk); (try clear hi)) | ((with_reducible refine gate_dst (N := 8) rfl ?_); refine box_event ?hg (N := 8) ?hd (cs := #[.int .i64 0, .int .i64 0]) (t := 23) ?hr ?_; (case hd => rfl); (case hg => rfl); (case hr => first | (go_simp; done) | (go_simp; rfl)); intro gb121 hg w19 hbox hb; have n0_ := Aside0.mk (below_step (by repeat (first | (with_reducible first | exact HB.out | apply below_alloc | apply pw_below_drewN | apply below_drew1) | exact HB.out)) hb); have n1_ := Aside0.mk (hbox); have n2_ := Aside0.mk ((by rw [hg]; exact (below_size (by repeat (first | (with_reducible first | exact HB.out | apply below_alloc | apply pw_below_drewN | apply below_drew1) | exact HB.out))) : w.heap.size ≤ gb121)); have n3_ := Aside0.mk ((by rw [hg]; exact (below_size (by repeat (first | (with_reducible first | exact HB.out | apply below_alloc | apply pw_below_drewN | apply below_drew1) | exact HB.out))) : w.heap.size ≤ gb121)); clear HB; have HB := n0_; have BK121 := n1_; have GW121 := n2_; have GE121 := n3_; clear n0_ n1_ n2_ n3_; clear hb hbox hg; have hcz20_0 : w19.cell? ⟨gb121, 0, none⟩ = some (.int .i64 0) := (blk_cell BK121.out 0).trans rfl; have hcz20_1 : w19.cell? ⟨gb121, 1, none⟩ = some (.int .i64 0) := (blk_cell BK121.out 1).trans rfl; have hfz20_0 := blk_frozen BK121.out 0; have hfz20_1 := blk_frozen BK121.out 1) | ((with_reducible refine gate_callee (f := 15) rfl ?_); refine goesL_ (some 46) rfl rfl Try.func15 (by kernel_rfl) rfl #[.int .i64 a1, .int .i64 a2] rfl (by (try simp only [List.map_toArray, List.map_cons, List.map_nil]); first | done | rfl | (simp only [List.length_drop, List.length_take]; rfl)) ?_; (with_reducible refine (tumble_Of.calls kj4 a1 a2 t122 t123 t124 _ A14.out).mono ?_); rintro e w21 ⟨rfl, hb⟩; refine ⟨_, rfl, ?_⟩; have n0_ := Aside0.mk (blk_below (g := gb121) (o := .cells #[.int .i64 t118, .int .i64 t119] 23 (0, 0)) (by (with_reducible repeat (first | refine blk_drewN ?_ _ | refine blk_drew ?_ | refine blk_alloc ?_ _)); refine blk_put (cs := #[.int .i64 t118, .int .i64 0]) ?_ 1 _ rfl; (with_reducible repeat (first | refine blk_drewN ?_ _ | refine blk_drew ?_ | refine blk_alloc ?_ _)); refine blk_put (cs := #[.int .i64 0, .int .i64 0]) ?_ 0 _ rfl; (with_reducible repeat (first | refine blk_drewN ?_ _ | refine blk_drew ?_ | refine blk_alloc ?_ _)); exact BK121.out) hb); have n1_ := Aside0.mk (below_step (by repeat (first | (with_reducible first | exact HB.out | apply below_alloc | apply pw_below_drewN | apply below_drew1 | refine below_set ?_ GE121.out) | exact HB.out)) hb); clear BK121; clear HB; have BK121 := n0_; have HB := n1_; clear n0_ n1_; (try clear hb); (try clear hb2); (try clear hk); (try clear hi)) | ((with_reducible refine gate_dst (N := 10) rfl ?_); refine box_event ?hg (N := 10) ?hd (cs := #[.int .i64 0, .int .i64 0]) (t := 23) ?hr ?_; (case hd => rfl); (case hg => rfl); (case hr => first | (go_simp; done) | (go_simp; rfl)); intro gb125 hg w22 hbox hb; have n0_ := Aside0.mk (blk_below (g := gb121) (o := .cells #[.int .i64 t118, .int .i64 t119] 23 (0, 0)) (by (with_reducible repeat (first | refine blk_drewN ?_ _ | refine blk_drew ?_ | refine blk_alloc ?_ _)); exact BK121.out) hb); have n1_ := Aside0.mk (below_step (by repeat (first | (with_reducible first | exact HB.out | apply below_alloc | apply pw_below_drewN | apply below_drew1 | refine below_set ?_ GE121.out) | exact HB.out)) hb); have n2_ := Aside0.mk (hbox); have n3_ := Aside0.mk ((by rw [hg]; exact (below_size (by repeat (first | (with_reducible first | exact HB.out | apply below_alloc | apply pw_below_drewN | apply below_drew1 | refine below_set ?_ GE121.out) | exact HB.out))) : w.heap.size ≤ gb125)); have n4_ := Aside0.mk ((by rw [hg]; exact (below_size (by repeat (first | (with_reducible first | exact HB.out | apply below_alloc | apply pw_below_drewN | apply below_drew1 | refine below_set ?_ GE121.out) | exact HB.out))) : w.heap.size ≤ gb125)); have n5_ := Aside0.mk ((by rw [hg]; exact Nat.ne_of_lt (blk_lt (g := gb121) (o := .cells #[.int .i64 t118, .int .i64 t119] 23 (0, 0)) (by (with_reducible repeat (first | refine blk_drewN ?_ _ | refine blk_drew ?_ | refine blk_alloc ?_ _)); exact BK121.out)) : gb121 ≠ gb125)); have n6_ := Aside0.mk ((by rw [hg]; exact Nat.ne_of_gt (blk_lt (g := gb121) (o := .cells #[.int .i64 t118, .int .i64 t119] 23 (0, 0)) (by (with_reducible repeat (first | refine blk_drewN ?_ _ | refine blk_drew ?_ | refine blk_alloc ?_ _)); exact BK121.out)) : gb125 ≠ gb121)); clear BK121; clear HB; have BK121 := n0_; have HB := n1_; have BK125 := n2_; have GW125 := n3_; have GE125 := n4_; have NB121_125 := n5_; have NB125_121 := n6_; clear n0_ n1_ n2_ n3_ n4_ n5_ n6_; clear hb hbox hg; have hnb23 := NB125_121.out; have hnc23 := NB121_125.out; have hcz24_0 : w22.cell? ⟨gb125, 0, none⟩ = some (.int .i64 0) := (blk_cell BK125.out 0).trans rfl; have hcz24_1 : w22.cell? ⟨gb125, 1, none⟩ = some (.int .i64 0) := (blk_cell BK125.out 1).trans rfl; have hfz24_0 := blk_frozen BK125.out 0; have hfz24_1 := blk_frozen BK125.out 1) | ((with_reducible refine gate_callee (f := 17) rfl ?_); refine goesL_ (some 52) rfl rfl Try.func17 (by kernel_rfl) rfl #[.int .i64 a0, .int .i64 a2] rfl (by (try simp only [List.map_toArray, List.map_cons, List.map_nil]); first | done | rfl | (simp only [List.length_drop, List.length_take]; rfl)) ?_; (with_reducible refine (tumble_Number.calls kj4 a0 a2 t126 t127 _ A15.out).mono ?_); rintro e w' ⟨rfl, ⟨nd, rfl⟩⟩; refine ⟨_, rfl, ?_⟩) | ((with_reducible refine gate_callee (f := 17) rfl ?_); refine goesL_ (some 58) rfl rfl Try.func17 (by kernel_rfl) rfl #[.int .i64 a1, .int .i64 a2] rfl (by (try simp only [List.map_toArray, List.map_cons, List.map_nil]); first | done | rfl | (simp only [List.length_drop, List.length_take]; rfl)) ?_; (with_reducible refine (tumble_Number.calls kj4 a1 a2 t128 t129 _ A16.out).mono ?_); rintro e w' ⟨rfl, ⟨nd, rfl⟩⟩; refine ⟨_, rfl, ?_⟩))
        (try simp only [Act.put, List.setIfInBounds_toArray, List.set_cons_zero, List.set_cons_succ])
        go_cut [74] (fun v74 wc => ∃ (kq : Nat) (x74_16 : Bool), v74 = .bool x74_16 ∧ Aside0 (tailwaterlaw13_TumbleTwo.j1 kq a0 a1 a2 t115 t126 t128 x74_16 t118 t119 t122 t123 = some r) ∧ Aside0 (kq ≤ kj4) ∧ Aside0 (wc.heap[gb121]? = some (.cells #[.int .i64 t118, .int .i64 t119] 23 (0, 0))) ∧ Aside0 (wc.heap[gb125]? = some (.cells #[.int .i64 t122, .int .i64 t123] 23 (0, 0))) ∧ Aside0 (Below w.heap.size w wc))
        case first =>
          have H := HC17.out
          clear HC17
          by_cases c25 : t120 = 0
          · rw [if_pos c25] at H
            have c25b0 : (t120 == 0) = true := beq_iff_eq.mpr c25
            have c25b1 : (t120 != 0) = false := bne_eq_false_iff_eq.mpr c25
            clear c25
            (first | rw [c25b0] | (simp only [i64_w, i32_w]; rw [c25b0]) | skip)
            by_cases c26 : t124 = 0
            · rw [if_pos c26] at H
              have c26b0 : (t124 == 0) = true := beq_iff_eq.mpr c26
              have c26b1 : (t124 != 0) = false := bne_eq_false_iff_eq.mpr c26
              clear c26
              by_cases c27 : t127 = 0
              · rw [if_pos c27] at H
                have c27b0 : (t127 == 0) = true := beq_iff_eq.mpr c27
                have c27b1 : (t127 != 0) = false := bne_eq_false_iff_eq.mpr c27
                clear c27
                have H' := Aside0.mk H
                clear H
                go_wp2
                go_meet
                case rel => exact ⟨_, ((t129 != 0)), (by first | rfl | (simp; done) | (simp [*]; done)), H', ⟨by have := HJ4.out; first | omega | exact Nat.le_refl _⟩, ⟨by (with_reducible repeat (first | refine blk_drewN ?_ _ | refine blk_drew ?_ | refine blk_alloc ?_ _)); refine blk_far ?_ NB121_125.out _; (with_reducible repeat (first | refine blk_drewN ?_ _ | refine blk_drew ?_ | refine blk_alloc ?_ _)); refine blk_far ?_ NB121_125.out _; (with_reducible repeat (first | refine blk_drewN ?_ _ | refine blk_drew ?_ | refine blk_alloc ?_ _)); exact BK121.out⟩, ⟨by (with_reducible repeat (first | refine blk_drewN ?_ _ | refine blk_drew ?_ | refine blk_alloc ?_ _)); refine blk_put (cs := #[.int .i64 t122, .int .i64 0]) ?_ 1 _ rfl; (with_reducible repeat (first | refine blk_drewN ?_ _ | refine blk_drew ?_ | refine blk_alloc ?_ _)); refine blk_put (cs := #[.int .i64 0, .int .i64 0]) ?_ 0 _ rfl; (with_reducible repeat (first | refine blk_drewN ?_ _ | refine blk_drew ?_ | refine blk_alloc ?_ _)); exact BK125.out⟩, ⟨by repeat (first | (with_reducible first | exact HB.out | apply below_alloc | apply pw_below_drewN | apply below_drew1 | refine below_set ?_ GE121.out | refine below_set ?_ GE125.out) | exact HB.out)⟩⟩
              · rw [if_neg c27] at H
                have c27b0 : (t127 == 0) = false := beq_eq_false_iff_ne.mpr c27
                have c27b1 : (t127 != 0) = true := bne_iff_ne.mpr c27
                have H' := Aside0.mk H
                clear H
                go_wp2
                go_meet
                case rel => exact ⟨_, (true), (by first | rfl | (simp; done) | (simp [*]; done)), H', ⟨by have := HJ4.out; first | omega | exact Nat.le_refl _⟩, ⟨by (with_reducible repeat (first | refine blk_drewN ?_ _ | refine blk_drew ?_ | refine blk_alloc ?_ _)); refine blk_far ?_ NB121_125.out _; (with_reducible repeat (first | refine blk_drewN ?_ _ | refine blk_drew ?_ | refine blk_alloc ?_ _)); refine blk_far ?_ NB121_125.out _; (with_reducible repeat (first | refine blk_drewN ?_ _ | refine blk_drew ?_ | refine blk_alloc ?_ _)); exact BK121.out⟩, ⟨by (with_reducible repeat (first | refine blk_drewN ?_ _ | refine blk_drew ?_ | refine blk_alloc ?_ _)); refine blk_put (cs := #[.int .i64 t122, .int .i64 0]) ?_ 1 _ rfl; (with_reducible repeat (first | refine blk_drewN ?_ _ | refine blk_drew ?_ | refine blk_alloc ?_ _)); refine blk_put (cs := #[.int .i64 0, .int .i64 0]) ?_ 0 _ rfl; (with_reducible repeat (first | refine blk_drewN ?_ _ | refine blk_drew ?_ | refine blk_alloc ?_ _)); exact BK125.out⟩, ⟨by repeat (first | (with_reducible first | exact HB.out | apply below_alloc | apply pw_below_drewN | apply below_drew1 | refine below_set ?_ GE121.out | refine below_set ?_ GE125.out) | exact HB.out)⟩⟩
            · rw [if_neg c26] at H
              have c26b0 : (t124 == 0) = false := beq_eq_false_iff_ne.mpr c26
              have c26b1 : (t124 != 0) = true := bne_iff_ne.mpr c26
              have H' := Aside0.mk H
              clear H
              go_wp2
              go_meet
              case rel => exact ⟨_, (true), (by first | rfl | (simp; done) | (simp [*]; done)), H', ⟨by have := HJ4.out; first | omega | exact Nat.le_refl _⟩, ⟨by (with_reducible repeat (first | refine blk_drewN ?_ _ | refine blk_drew ?_ | refine blk_alloc ?_ _)); refine blk_far ?_ NB121_125.out _; (with_reducible repeat (first | refine blk_drewN ?_ _ | refine blk_drew ?_ | refine blk_alloc ?_ _)); refine blk_far ?_ NB121_125.out _; (with_reducible repeat (first | refine blk_drewN ?_ _ | refine blk_drew ?_ | refine blk_alloc ?_ _)); exact BK121.out⟩, ⟨by (with_reducible repeat (first | refine blk_drewN ?_ _ | refine blk_drew ?_ | refine blk_alloc ?_ _)); refine blk_put (cs := #[.int .i64 t122, .int .i64 0]) ?_ 1 _ rfl; (with_reducible repeat (first | refine blk_drewN ?_ _ | refine blk_drew ?_ | refine blk_alloc ?_ _)); refine blk_put (cs := #[.int .i64 0, .int .i64 0]) ?_ 0 _ rfl; (with_reducible repeat (first | refine blk_drewN ?_ _ | refine blk_drew ?_ | refine blk_alloc ?_ _)); exact BK125.out⟩, ⟨by repeat (first | (with_reducible first | exact HB.out | apply below_alloc | apply pw_below_drewN | apply below_drew1 | refine below_set ?_ GE121.out | refine below_set ?_ GE125.out) | exact HB.out)⟩⟩
          · rw [if_neg c25] at H
            have c25b0 : (t120 == 0) = false := beq_eq_false_iff_ne.mpr c25
            have c25b1 : (t120 != 0) = true := bne_iff_ne.mpr c25
            (first | rw [c25b0] | (simp only [i64_w, i32_w]; rw [c25b0]) | skip)
            have H' := Aside0.mk H
            clear H
            go_wp2
            go_meet
            case rel => exact ⟨_, (true), (by first | rfl | (simp; done) | (simp [*]; done)), H', ⟨by have := HJ4.out; first | omega | exact Nat.le_refl _⟩, ⟨by (with_reducible repeat (first | refine blk_drewN ?_ _ | refine blk_drew ?_ | refine blk_alloc ?_ _)); refine blk_far ?_ NB121_125.out _; (with_reducible repeat (first | refine blk_drewN ?_ _ | refine blk_drew ?_ | refine blk_alloc ?_ _)); refine blk_far ?_ NB121_125.out _; (with_reducible repeat (first | refine blk_drewN ?_ _ | refine blk_drew ?_ | refine blk_alloc ?_ _)); exact BK121.out⟩, ⟨by (with_reducible repeat (first | refine blk_drewN ?_ _ | refine blk_drew ?_ | refine blk_alloc ?_ _)); refine blk_put (cs := #[.int .i64 t122, .int .i64 0]) ?_ 1 _ rfl; (with_reducible repeat (first | refine blk_drewN ?_ _ | refine blk_drew ?_ | refine blk_alloc ?_ _)); refine blk_put (cs := #[.int .i64 0, .int .i64 0]) ?_ 0 _ rfl; (with_reducible repeat (first | refine blk_drewN ?_ _ | refine blk_drew ?_ | refine blk_alloc ?_ _)); exact BK125.out⟩, ⟨by repeat (first | (with_reducible first | exact HB.out | apply below_alloc | apply pw_below_drewN | apply below_drew1 | refine below_set ?_ GE121.out | refine below_set ?_ GE125.out) | exact HB.out)⟩⟩
        case rest =>
          clear HC17
          try clear c1
          try clear c2
          try clear p2
          try clear c6
          try clear c8
          try clear c8b0
          try clear c8b1
          try clear c10
          try clear c10b0
          try clear c10b1
          try clear c11
          try clear c11b0
          try clear c12
          try clear c15
          try clear c17
          try clear c19
          try clear c20
          try clear c23
          try clear c25
          try clear c25b0
          try clear c25b1
          try clear c26
          try clear c26b0
          try clear c26b1
          try clear c27
          try clear c27b0
          try clear c27b1
          try clear hcz20_0
          try clear hcz20_1
          try clear hcz24_0
          try clear hcz24_1
          try clear hfz20_0
          try clear hfz20_1
          try clear hfz24_0
          try clear hfz24_1
          try clear p2
          obtain ⟨kq, x74_16, rfl, HA, HJ16, BK121, BK125, HB⟩ := hcut
          cases kq with
          | zero => exact absurd HA.out (by simp [tailwaterlaw13_TumbleTwo.j1])
          | succ kj16 =>
            have H := HA.out
            clear HA
            simp only [tailwaterlaw13_TumbleTwo.j1] at H
            by_cases c28 : x74_16 = true
            · subst c28
              have H1 : (some false) = some r := by rw [if_pos rfl] at H; exact H
              clear H
              have H := H1
              clear H1
              obtain rfl := Option.some.inj H
              go_wp2
              go_ret
              exact ⟨by first | rfl | (simp [errW_none, errW_some] <;> rfl) | (simp [*, errW_none, errW_some] <;> rfl), by repeat (first | (with_reducible first | exact HB.out | apply below_alloc | apply pw_below_drewN | apply below_drew1 | refine below_set ?_ GE121.out | refine below_set ?_ GE125.out) | exact HB.out)⟩
            · replace c28 := Bool.eq_false_iff.mpr c28
              subst c28
              have H1 : (if (t118 == t122 && (t119 == t123)) = true then (if t115 = true then (if t126 = t128 then (some (decide ((wrap64 (a1 - a0)) < a2))) else (some false)) else (some false)) else (if t115 = true then (if t126 < t128 then (some (decide (t119 ≤ t122))) else (some false)) else (some false))) = some r := by rw [if_neg (show ¬ (false = true) by decide)] at H; exact H
              clear H
              have H := H1
              clear H1
              by_cases c29 : (t118 == t122 && (t119 == t123)) = true
              · rw [if_pos c29] at H
                have c29b0 : (t118 == t122 && (t119 == t123)) = true := c29
                (try (have c29b1 : decide (t118 = t122 && (t119 == t123)) = true := by simpa using c29))
                (try (have c29b2 : (t118 == t122 && (t119 == t123)) = true := by simpa using c29))
                clear c29
                by_cases c30 : t115 = true
                · subst c30
                  have H1 : (if t126 = t128 then (some (decide ((wrap64 (a1 - a0)) < a2))) else (some false)) = some r := by rw [if_pos rfl] at H; exact H
                  clear H
                  have H := H1
                  clear H1
                  by_cases c31 : t126 = t128
                  · rw [if_pos c31] at H
                    have c31b0 : (t126 == t128) = true := beq_iff_eq.mpr c31
                    have c31b1 : (t126 != t128) = false := bne_eq_false_iff_eq.mpr c31
                    clear c31
                    obtain rfl := Option.some.inj H
                    have hnb32 := NB121_125.out
                    have hnc32 := NB125_121.out
                    have hcz33_0 : wc.cell? ⟨gb121, 0, none⟩ = some (.int .i64 t118) := (blk_cell BK121.out 0).trans rfl
                    have hcz33_1 : wc.cell? ⟨gb121, 1, none⟩ = some (.int .i64 t119) := (blk_cell BK121.out 1).trans rfl
                    have hfz33_0 := blk_frozen BK121.out 0
                    have hfz33_1 := blk_frozen BK121.out 1
                    have hcz34_0 : wc.cell? ⟨gb125, 0, none⟩ = some (.int .i64 t122) := (blk_cell BK125.out 0).trans rfl
                    have hcz34_1 : wc.cell? ⟨gb125, 1, none⟩ = some (.int .i64 t123) := (blk_cell BK125.out 1).trans rfl
                    have hfz34_0 := blk_frozen BK125.out 0
                    have hfz34_1 := blk_frozen BK125.out 1
                    go_wp2
                    go_ret
                    exact ⟨by first | rfl | (simp [errW_none, errW_some] <;> rfl) | (simp [*, errW_none, errW_some] <;> rfl), by repeat (first | (with_reducible first | exact HB.out | apply below_alloc | apply pw_below_drewN | apply below_drew1 | refine below_set ?_ GE121.out | refine below_set ?_ GE125.out) | exact HB.out)⟩
                  · rw [if_neg c31] at H
                    have c31b0 : (t126 == t128) = false := beq_eq_false_iff_ne.mpr c31
                    have c31b1 : (t126 != t128) = true := bne_iff_ne.mpr c31
                    obtain rfl := Option.some.inj H
                    have hnb35 := NB121_125.out
                    have hnc35 := NB125_121.out
                    have hcz36_0 : wc.cell? ⟨gb121, 0, none⟩ = some (.int .i64 t118) := (blk_cell BK121.out 0).trans rfl
                    have hcz36_1 : wc.cell? ⟨gb121, 1, none⟩ = some (.int .i64 t119) := (blk_cell BK121.out 1).trans rfl
                    have hfz36_0 := blk_frozen BK121.out 0
                    have hfz36_1 := blk_frozen BK121.out 1
                    have hcz37_0 : wc.cell? ⟨gb125, 0, none⟩ = some (.int .i64 t122) := (blk_cell BK125.out 0).trans rfl
                    have hcz37_1 : wc.cell? ⟨gb125, 1, none⟩ = some (.int .i64 t123) := (blk_cell BK125.out 1).trans rfl
                    have hfz37_0 := blk_frozen BK125.out 0
                    have hfz37_1 := blk_frozen BK125.out 1
                    go_wp2
                    go_ret
                    exact ⟨by first | rfl | (simp [errW_none, errW_some] <;> rfl) | (simp [*, errW_none, errW_some] <;> rfl), by repeat (first | (with_reducible first | exact HB.out | apply below_alloc | apply pw_below_drewN | apply below_drew1 | refine below_set ?_ GE121.out | refine below_set ?_ GE125.out) | exact HB.out)⟩
                · replace c30 := Bool.eq_false_iff.mpr c30
                  subst c30
                  have H1 : (some false) = some r := by rw [if_neg (show ¬ (false = true) by decide)] at H; exact H
                  clear H
                  have H := H1
                  clear H1
                  obtain rfl := Option.some.inj H
                  have hnb38 := NB121_125.out
                  have hnc38 := NB125_121.out
                  have hcz39_0 : wc.cell? ⟨gb121, 0, none⟩ = some (.int .i64 t118) := (blk_cell BK121.out 0).trans rfl
                  have hcz39_1 : wc.cell? ⟨gb121, 1, none⟩ = some (.int .i64 t119) := (blk_cell BK121.out 1).trans rfl
                  have hfz39_0 := blk_frozen BK121.out 0
                  have hfz39_1 := blk_frozen BK121.out 1
                  have hcz40_0 : wc.cell? ⟨gb125, 0, none⟩ = some (.int .i64 t122) := (blk_cell BK125.out 0).trans rfl
                  have hcz40_1 : wc.cell? ⟨gb125, 1, none⟩ = some (.int .i64 t123) := (blk_cell BK125.out 1).trans rfl
                  have hfz40_0 := blk_frozen BK125.out 0
                  have hfz40_1 := blk_frozen BK125.out 1
                  go_wp2
                  go_ret
                  exact ⟨by first | rfl | (simp [errW_none, errW_some] <;> rfl) | (simp [*, errW_none, errW_some] <;> rfl), by repeat (first | (with_reducible first | exact HB.out | apply below_alloc | apply pw_below_drewN | apply below_drew1 | refine below_set ?_ GE121.out | refine below_set ?_ GE125.out) | exact HB.out)⟩
              · rw [if_neg c29] at H
                have c29b0 : (t118 == t122 && (t119 == t123)) = false := by simpa using c29
                (try (have c29b1 : decide (t118 = t122 && (t119 == t123)) = false := by simpa using c29))
                (try (have c29b2 : (t118 == t122 && (t119 == t123)) = false := by simpa using c29))
                (try (have c29b3 : ¬ (t118 = t122 && (t119 == t123)) := by simpa using c29))
                clear c29
                by_cases c41 : t115 = true
                · subst c41
                  have H1 : (if t126 < t128 then (some (decide (t119 ≤ t122))) else (some false)) = some r := by rw [if_pos rfl] at H; exact H
                  clear H
                  have H := H1
                  clear H1
                  by_cases c42 : t126 < t128
                  · rw [if_pos c42] at H
                    have c42b0 : decide (t126 < t128) = true := decide_eq_true c42
                    clear c42
                    obtain rfl := Option.some.inj H
                    have hnb43 := NB121_125.out
                    have hnc43 := NB125_121.out
                    have hcz44_0 : wc.cell? ⟨gb121, 0, none⟩ = some (.int .i64 t118) := (blk_cell BK121.out 0).trans rfl
                    have hcz44_1 : wc.cell? ⟨gb121, 1, none⟩ = some (.int .i64 t119) := (blk_cell BK121.out 1).trans rfl
                    have hfz44_0 := blk_frozen BK121.out 0
                    have hfz44_1 := blk_frozen BK121.out 1
                    have hcz45_0 : wc.cell? ⟨gb125, 0, none⟩ = some (.int .i64 t122) := (blk_cell BK125.out 0).trans rfl
                    have hcz45_1 : wc.cell? ⟨gb125, 1, none⟩ = some (.int .i64 t123) := (blk_cell BK125.out 1).trans rfl
                    have hfz45_0 := blk_frozen BK125.out 0
                    have hfz45_1 := blk_frozen BK125.out 1
                    go_wp2
                    go_ret
                    exact ⟨by first | rfl | (simp [errW_none, errW_some] <;> rfl) | (simp [*, errW_none, errW_some] <;> rfl), by repeat (first | (with_reducible first | exact HB.out | apply below_alloc | apply pw_below_drewN | apply below_drew1 | refine below_set ?_ GE121.out | refine below_set ?_ GE125.out) | exact HB.out)⟩
                  · rw [if_neg c42] at H
                    have c42b0 : decide (t126 < t128) = false := decide_eq_false c42
                    clear c42
                    obtain rfl := Option.some.inj H
                    have hnb46 := NB121_125.out
                    have hnc46 := NB125_121.out
                    have hcz47_0 : wc.cell? ⟨gb121, 0, none⟩ = some (.int .i64 t118) := (blk_cell BK121.out 0).trans rfl
                    have hcz47_1 : wc.cell? ⟨gb121, 1, none⟩ = some (.int .i64 t119) := (blk_cell BK121.out 1).trans rfl
                    have hfz47_0 := blk_frozen BK121.out 0
                    have hfz47_1 := blk_frozen BK121.out 1
                    have hcz48_0 : wc.cell? ⟨gb125, 0, none⟩ = some (.int .i64 t122) := (blk_cell BK125.out 0).trans rfl
                    have hcz48_1 : wc.cell? ⟨gb125, 1, none⟩ = some (.int .i64 t123) := (blk_cell BK125.out 1).trans rfl
                    have hfz48_0 := blk_frozen BK125.out 0
                    have hfz48_1 := blk_frozen BK125.out 1
                    go_wp2
                    go_ret
                    exact ⟨by first | rfl | (simp [errW_none, errW_some] <;> rfl) | (simp [*, errW_none, errW_some] <;> rfl), by repeat (first | (with_reducible first | exact HB.out | apply below_alloc | apply pw_below_drewN | apply below_drew1 | refine below_set ?_ GE121.out | refine below_set ?_ GE125.out) | exact HB.out)⟩
                · replace c41 := Bool.eq_false_iff.mpr c41
                  subst c41
                  have H1 : (some false) = some r := by rw [if_neg (show ¬ (false = true) by decide)] at H; exact H
                  clear H
                  have H := H1
                  clear H1
                  obtain rfl := Option.some.inj H
                  have hnb49 := NB121_125.out
                  have hnc49 := NB125_121.out
                  have hcz50_0 : wc.cell? ⟨gb121, 0, none⟩ = some (.int .i64 t118) := (blk_cell BK121.out 0).trans rfl
                  have hcz50_1 : wc.cell? ⟨gb121, 1, none⟩ = some (.int .i64 t119) := (blk_cell BK121.out 1).trans rfl
                  have hfz50_0 := blk_frozen BK121.out 0
                  have hfz50_1 := blk_frozen BK121.out 1
                  have hcz51_0 : wc.cell? ⟨gb125, 0, none⟩ = some (.int .i64 t122) := (blk_cell BK125.out 0).trans rfl
                  have hcz51_1 : wc.cell? ⟨gb125, 1, none⟩ = some (.int .i64 t123) := (blk_cell BK125.out 1).trans rfl
                  have hfz51_0 := blk_frozen BK125.out 0
                  have hfz51_1 := blk_frozen BK125.out 1
                  go_wp2
                  go_ret
                  exact ⟨by first | rfl | (simp [errW_none, errW_some] <;> rfl) | (simp [*, errW_none, errW_some] <;> rfl), by repeat (first | (with_reducible first | exact HB.out | apply below_alloc | apply pw_below_drewN | apply below_drew1 | refine below_set ?_ GE121.out | refine below_set ?_ GE125.out) | exact HB.out)⟩

/-- THE ONE PURE STATEMENT of tailwaterlaw13_TumbleTwo: yours. -/
def tailwaterlaw13_TumbleTwo.Pure : Prop := ∀ (a0 : Int) (a1 : Int) (a2 : Int), (Lit.int .i64 a0).wf = true → (Lit.int .i64 a1).wf = true → (Lit.int .i64 a2).wf = true → ∃ k, tailwaterlaw13_TumbleTwo.f k a0 a1 a2 = some true
theorem tailwaterlaw13_TumbleTwo.walk (P : tailwaterlaw13_TumbleTwo.Pure) (a0 : Int) (a1 : Int) (a2 : Int) (w : World) (w0 : (Lit.int .i64 a0).wf = true) (w1 : (Lit.int .i64 a1).wf = true) (w2 : (Lit.int .i64 a2).wf = true) :
    Calls Try.prog 6 #[.int .i64 a0, .int .i64 a1, .int .i64 a2] w fun e w' => e = .returned (.bool true) ∧ Below w.heap.size w w' := by
  obtain ⟨k, h⟩ := P a0 a1 a2 w0 w1 w2
  refine (tailwaterlaw13_TumbleTwo.calls k a0 a1 a2 true w h).mono ?_
  rintro e w' ⟨rfl, hd⟩
  exact ⟨rfl, hd⟩

end Go.Proofs.Ytheobaaegpfbjaa.PTumbleTwo
