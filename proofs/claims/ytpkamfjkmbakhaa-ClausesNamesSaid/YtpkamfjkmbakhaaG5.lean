-- Written by a program of this place (wip/prt.py), out of Lean's own print of the program: Lean checks it.
import Derived.Test.YtpkamfjkmbakhaaG0
import Derived.Test.YtpkamfjkmbakhaaGU
namespace Go.Proofs.Ytpkamfjkmbakhaa.G
open Go.RowKit Go.Proofs.YtpkamfjkmbakhaaW.PrintWords Go.Proofs.YtpkamfjkmbakhaaW.PrintLast Go.Proofs.YtpkamfjkmbakhaaW.PrintMore
attribute [local go_sem] max2_int min2_int max_two min_two max_three min_three max_four min_four   -- for this text's walks alone
set_option linter.unusedVariables false
set_option linter.unusedSimpArgs false

/-! ### tailwaterref04_Count: function 63 -/
def tailwaterref04_Count.f (a0 : Int) : Option (Int) := if a0 ≤ 4 then (some 0) else (if a0 ≤ 6 then (some 1) else (some 2))
set_option maxHeartbeats 8000000 in
set_option maxRecDepth 100000 in
theorem tailwaterref04_Count.calls (a0 : Int) (r : Int) (w : World) (h : tailwaterref04_Count.f a0 = some r) :
  Calls Try.prog 63 #[.int .u8 a0] w fun e w' => e = .returned (.int .i64 r) ∧ Drawn0 w w' := by
 have H : (if a0 ≤ 4 then (some 0) else (if a0 ≤ 6 then (some 1) else (some 2))) = some r := h
 clear h
 by_cases c2 : a0 ≤ 4
 ·
  rw [if_pos c2] at H
  have c2b0 : decide (a0 ≤ 4) = true := decide_eq_true c2
  clear c2
  obtain rfl := Option.some.inj H
  go_enter Try.func63, Try.ntmps63
  go_wp2
  go_ret
  exact ⟨by first | rfl | (simp; done) | (simp [*]; done), by repeat (first | exact Drawn0.refl _ | apply Drawn0.step)⟩
 ·
  rw [if_neg c2] at H
  have c2b0 : decide (a0 ≤ 4) = false := decide_eq_false c2
  clear c2
  by_cases c3 : a0 ≤ 6
  ·
   rw [if_pos c3] at H
   have c3b0 : decide (a0 ≤ 6) = true := decide_eq_true c3
   clear c3
   obtain rfl := Option.some.inj H
   go_enter Try.func63, Try.ntmps63
   go_wp2
   go_ret
   exact ⟨by first | rfl | (simp; done) | (simp [*]; done), by repeat (first | exact Drawn0.refl _ | apply Drawn0.step)⟩
  ·
   rw [if_neg c3] at H
   have c3b0 : decide (a0 ≤ 6) = false := decide_eq_false c3
   clear c3
   obtain rfl := Option.some.inj H
   go_enter Try.func63, Try.ntmps63
   go_wp2
   go_ret
   exact ⟨by first | rfl | (simp; done) | (simp [*]; done), by repeat (first | exact Drawn0.refl _ | apply Drawn0.step)⟩

/-! ### tailwaterref04_right: function 68 -/
def tailwaterref04_right.f (a0_0 : Int) (a0_1 : Int) (a0_2 : Int) (a0_3 : Int) (a0_4 : Int) (a1 : Int) (a2 : Int) : Option (Bool) := if a0_0 ≥ 1 then (if a0_0 ≤ 19 then (if a0_1 ≥ 0 then (if a0_1 = 0 then (if a0_4 ≥ 0 then (if a0_4 ≤ 400 then (if a0_2 = a1 then (some (a0_3 == a2)) else (some false)) else (some false)) else (some false)) else (if a0_0 = 1 then (if a0_4 ≥ 0 then (if a0_4 ≤ 400 then (if a0_2 = a1 then (some (a0_3 == a2)) else (some false)) else (some false)) else (some false)) else (some false))) else (some false)) else (some false)) else (some false)
set_option maxHeartbeats 8000000 in
set_option maxRecDepth 100000 in
theorem tailwaterref04_right.calls (a0_0 : Int) (a0_1 : Int) (a0_2 : Int) (a0_3 : Int) (a0_4 : Int) (a1 : Int) (a2 : Int) (r : Bool) (w : World) (h : tailwaterref04_right.f a0_0 a0_1 a0_2 a0_3 a0_4 a1 a2 = some r) :
  Calls Try.prog 68 #[.agg #[.int .u8 a0_0, .int .i64 a0_1, .int .i64 a0_2, .int .i64 a0_3, .int .i64 a0_4], .int .i64 a1, .int .i64 a2] w fun e w' => e = .returned (.bool r) ∧ Below w.heap.size w w' := by
 have hu36 := Try.underlying36
 have HB := zM (Below.refl w.heap.size w)
 have H : (if a0_0 ≥ 1 then (if a0_0 ≤ 19 then (if a0_1 ≥ 0 then (if a0_1 = 0 then (if a0_4 ≥ 0 then (if a0_4 ≤ 400 then (if a0_2 = a1 then (some (a0_3 == a2)) else (some false)) else (some false)) else (some false)) else (if a0_0 = 1 then (if a0_4 ≥ 0 then (if a0_4 ≤ 400 then (if a0_2 = a1 then (some (a0_3 == a2)) else (some false)) else (some false)) else (some false)) else (some false))) else (some false)) else (some false)) else (some false)) = some r := h
 clear h
 by_cases c4 : a0_0 ≥ 1
 ·
  rw [if_pos c4] at H
  have c4b0 : decide (1 ≤ a0_0) = true := decide_eq_true c4
  clear c4
  by_cases c5 : a0_0 ≤ 19
  ·
   rw [if_pos c5] at H
   have c5b0 : decide (a0_0 ≤ 19) = true := decide_eq_true c5
   clear c5
   by_cases c6 : a0_1 ≥ 0
   ·
    rw [if_pos c6] at H
    have c6b0 : decide (0 ≤ a0_1) = true := decide_eq_true c6
    clear c6
    by_cases c7 : a0_1 = 0
    ·
     rw [if_pos c7] at H
     have c7b0 : (a0_1 == 0) = true := beq_iff_eq.mpr c7
     have c7b1 : (a0_1 != 0) = false := bne_eq_false_iff_eq.mpr c7
     clear c7
     by_cases c8 : a0_4 ≥ 0
     ·
      rw [if_pos c8] at H
      have c8b0 : decide (0 ≤ a0_4) = true := decide_eq_true c8
      clear c8
      by_cases c9 : a0_4 ≤ 400
      ·
       rw [if_pos c9] at H
       have c9b0 : decide (a0_4 ≤ 400) = true := decide_eq_true c9
       clear c9
       by_cases c10 : a0_2 = a1
       ·
        rw [if_pos c10] at H
        have c10b0 : (a0_2 == a1) = true := beq_iff_eq.mpr c10
        have c10b1 : (a0_2 != a1) = false := bne_eq_false_iff_eq.mpr c10
        clear c10
        obtain rfl := Option.some.inj H
        go_enter Try.func68, Try.ntmps68
        go_wp2_with (first | ((with_reducible refine gate_dst (N := 3) rfl ?_); refine box_event ?hg (N := 3) ?hd (cs := #[.int .u8 a0_0, .int .i64 a0_1, .int .i64 a0_2, .int .i64 a0_3, .int .i64 a0_4]) (t := 36) ?hr ?_; (case hd => rfl); (case hg => rfl); (case hr => first | (go_simp; done) | (go_simp; rfl)); intro gb108 hg w11 hbox hb; have n0_ := zM (zT (by repeat (first | (with_reducible first | exact HB.out | apply zC | apply zP | apply zO) | exact HB.out)) hb); have n1_ := zM (hbox); have n2_ := zM ((by rw [hg]; exact (zZ (by repeat (first | (with_reducible first | exact HB.out | apply zC | apply zP | apply zO) | exact HB.out))) : w.heap.size ≤ gb108)); have n3_ := zM ((by rw [hg]; exact (zZ (by repeat (first | (with_reducible first | exact HB.out | apply zC | apply zP | apply zO) | exact HB.out))) : w.heap.size ≤ gb108)); clear HB; have HB := n0_; have BK108 := n1_; have GW108 := n2_; have GE108 := n3_; clear n0_ n1_ n2_ n3_; clear hb hbox hg; refine node_cells_ BK108.out fun hcz12_0 hcz12_1 hcz12_2 hcz12_3 hcz12_4 hfz12_0 hfz12_1 hfz12_2 hfz12_3 hfz12_4 => ?_))
        go_ret
        exact ⟨by first | rfl | (simp [errW_none, errW_some] <;> rfl) | (simp [*, errW_none, errW_some] <;> rfl), by repeat (first | (with_reducible first | exact HB.out | apply zC | apply zP | apply zO | refine zS ?_ GE108.out) | exact HB.out)⟩
       ·
        rw [if_neg c10] at H
        have c10b0 : (a0_2 == a1) = false := beq_eq_false_iff_ne.mpr c10
        have c10b1 : (a0_2 != a1) = true := bne_iff_ne.mpr c10
        obtain rfl := Option.some.inj H
        go_enter Try.func68, Try.ntmps68
        go_wp2_with (first | ((with_reducible refine gate_dst (N := 3) rfl ?_); refine box_event ?hg (N := 3) ?hd (cs := #[.int .u8 a0_0, .int .i64 a0_1, .int .i64 a0_2, .int .i64 a0_3, .int .i64 a0_4]) (t := 36) ?hr ?_; (case hd => rfl); (case hg => rfl); (case hr => first | (go_simp; done) | (go_simp; rfl)); intro gb108 hg w13 hbox hb; have n0_ := zM (zT (by repeat (first | (with_reducible first | exact HB.out | apply zC | apply zP | apply zO) | exact HB.out)) hb); have n1_ := zM (hbox); have n2_ := zM ((by rw [hg]; exact (zZ (by repeat (first | (with_reducible first | exact HB.out | apply zC | apply zP | apply zO) | exact HB.out))) : w.heap.size ≤ gb108)); have n3_ := zM ((by rw [hg]; exact (zZ (by repeat (first | (with_reducible first | exact HB.out | apply zC | apply zP | apply zO) | exact HB.out))) : w.heap.size ≤ gb108)); clear HB; have HB := n0_; have BK108 := n1_; have GW108 := n2_; have GE108 := n3_; clear n0_ n1_ n2_ n3_; clear hb hbox hg; refine node_cells_ BK108.out fun hcz14_0 hcz14_1 hcz14_2 hcz14_3 hcz14_4 hfz14_0 hfz14_1 hfz14_2 hfz14_3 hfz14_4 => ?_))
        go_ret
        exact ⟨by first | rfl | (simp [errW_none, errW_some] <;> rfl) | (simp [*, errW_none, errW_some] <;> rfl), by repeat (first | (with_reducible first | exact HB.out | apply zC | apply zP | apply zO | refine zS ?_ GE108.out) | exact HB.out)⟩
      ·
       rw [if_neg c9] at H
       have c9b0 : decide (a0_4 ≤ 400) = false := decide_eq_false c9
       clear c9
       obtain rfl := Option.some.inj H
       go_enter Try.func68, Try.ntmps68
       go_wp2_with (first | ((with_reducible refine gate_dst (N := 3) rfl ?_); refine box_event ?hg (N := 3) ?hd (cs := #[.int .u8 a0_0, .int .i64 a0_1, .int .i64 a0_2, .int .i64 a0_3, .int .i64 a0_4]) (t := 36) ?hr ?_; (case hd => rfl); (case hg => rfl); (case hr => first | (go_simp; done) | (go_simp; rfl)); intro gb108 hg w15 hbox hb; have n0_ := zM (zT (by repeat (first | (with_reducible first | exact HB.out | apply zC | apply zP | apply zO) | exact HB.out)) hb); have n1_ := zM (hbox); have n2_ := zM ((by rw [hg]; exact (zZ (by repeat (first | (with_reducible first | exact HB.out | apply zC | apply zP | apply zO) | exact HB.out))) : w.heap.size ≤ gb108)); have n3_ := zM ((by rw [hg]; exact (zZ (by repeat (first | (with_reducible first | exact HB.out | apply zC | apply zP | apply zO) | exact HB.out))) : w.heap.size ≤ gb108)); clear HB; have HB := n0_; have BK108 := n1_; have GW108 := n2_; have GE108 := n3_; clear n0_ n1_ n2_ n3_; clear hb hbox hg; refine node_cells_ BK108.out fun hcz16_0 hcz16_1 hcz16_2 hcz16_3 hcz16_4 hfz16_0 hfz16_1 hfz16_2 hfz16_3 hfz16_4 => ?_))
       go_ret
       exact ⟨by first | rfl | (simp [errW_none, errW_some] <;> rfl) | (simp [*, errW_none, errW_some] <;> rfl), by repeat (first | (with_reducible first | exact HB.out | apply zC | apply zP | apply zO | refine zS ?_ GE108.out) | exact HB.out)⟩
     ·
      rw [if_neg c8] at H
      have c8b0 : decide (0 ≤ a0_4) = false := decide_eq_false c8
      clear c8
      obtain rfl := Option.some.inj H
      go_enter Try.func68, Try.ntmps68
      go_wp2_with (first | ((with_reducible refine gate_dst (N := 3) rfl ?_); refine box_event ?hg (N := 3) ?hd (cs := #[.int .u8 a0_0, .int .i64 a0_1, .int .i64 a0_2, .int .i64 a0_3, .int .i64 a0_4]) (t := 36) ?hr ?_; (case hd => rfl); (case hg => rfl); (case hr => first | (go_simp; done) | (go_simp; rfl)); intro gb108 hg w17 hbox hb; have n0_ := zM (zT (by repeat (first | (with_reducible first | exact HB.out | apply zC | apply zP | apply zO) | exact HB.out)) hb); have n1_ := zM (hbox); have n2_ := zM ((by rw [hg]; exact (zZ (by repeat (first | (with_reducible first | exact HB.out | apply zC | apply zP | apply zO) | exact HB.out))) : w.heap.size ≤ gb108)); have n3_ := zM ((by rw [hg]; exact (zZ (by repeat (first | (with_reducible first | exact HB.out | apply zC | apply zP | apply zO) | exact HB.out))) : w.heap.size ≤ gb108)); clear HB; have HB := n0_; have BK108 := n1_; have GW108 := n2_; have GE108 := n3_; clear n0_ n1_ n2_ n3_; clear hb hbox hg; refine node_cells_ BK108.out fun hcz18_0 hcz18_1 hcz18_2 hcz18_3 hcz18_4 hfz18_0 hfz18_1 hfz18_2 hfz18_3 hfz18_4 => ?_))
      go_ret
      exact ⟨by first | rfl | (simp [errW_none, errW_some] <;> rfl) | (simp [*, errW_none, errW_some] <;> rfl), by repeat (first | (with_reducible first | exact HB.out | apply zC | apply zP | apply zO | refine zS ?_ GE108.out) | exact HB.out)⟩
    ·
     rw [if_neg c7] at H
     have c7b0 : (a0_1 == 0) = false := beq_eq_false_iff_ne.mpr c7
     have c7b1 : (a0_1 != 0) = true := bne_iff_ne.mpr c7
     by_cases c19 : a0_0 = 1
     ·
      rw [if_pos c19] at H
      have c19b0 : (a0_0 == 1) = true := beq_iff_eq.mpr c19
      have c19b1 : (a0_0 != 1) = false := bne_eq_false_iff_eq.mpr c19
      clear c19
      by_cases c20 : a0_4 ≥ 0
      ·
       rw [if_pos c20] at H
       have c20b0 : decide (0 ≤ a0_4) = true := decide_eq_true c20
       clear c20
       by_cases c21 : a0_4 ≤ 400
       ·
        rw [if_pos c21] at H
        have c21b0 : decide (a0_4 ≤ 400) = true := decide_eq_true c21
        clear c21
        by_cases c22 : a0_2 = a1
        ·
         rw [if_pos c22] at H
         have c22b0 : (a0_2 == a1) = true := beq_iff_eq.mpr c22
         have c22b1 : (a0_2 != a1) = false := bne_eq_false_iff_eq.mpr c22
         clear c22
         obtain rfl := Option.some.inj H
         go_enter Try.func68, Try.ntmps68
         go_wp2_with (first | ((with_reducible refine gate_dst (N := 3) rfl ?_); refine box_event ?hg (N := 3) ?hd (cs := #[.int .u8 a0_0, .int .i64 a0_1, .int .i64 a0_2, .int .i64 a0_3, .int .i64 a0_4]) (t := 36) ?hr ?_; (case hd => rfl); (case hg => rfl); (case hr => first | (go_simp; done) | (go_simp; rfl)); intro gb108 hg w23 hbox hb; have n0_ := zM (zT (by repeat (first | (with_reducible first | exact HB.out | apply zC | apply zP | apply zO) | exact HB.out)) hb); have n1_ := zM (hbox); have n2_ := zM ((by rw [hg]; exact (zZ (by repeat (first | (with_reducible first | exact HB.out | apply zC | apply zP | apply zO) | exact HB.out))) : w.heap.size ≤ gb108)); have n3_ := zM ((by rw [hg]; exact (zZ (by repeat (first | (with_reducible first | exact HB.out | apply zC | apply zP | apply zO) | exact HB.out))) : w.heap.size ≤ gb108)); clear HB; have HB := n0_; have BK108 := n1_; have GW108 := n2_; have GE108 := n3_; clear n0_ n1_ n2_ n3_; clear hb hbox hg; refine node_cells_ BK108.out fun hcz24_0 hcz24_1 hcz24_2 hcz24_3 hcz24_4 hfz24_0 hfz24_1 hfz24_2 hfz24_3 hfz24_4 => ?_))
         go_ret
         exact ⟨by first | rfl | (simp [errW_none, errW_some] <;> rfl) | (simp [*, errW_none, errW_some] <;> rfl), by repeat (first | (with_reducible first | exact HB.out | apply zC | apply zP | apply zO | refine zS ?_ GE108.out) | exact HB.out)⟩
        ·
         rw [if_neg c22] at H
         have c22b0 : (a0_2 == a1) = false := beq_eq_false_iff_ne.mpr c22
         have c22b1 : (a0_2 != a1) = true := bne_iff_ne.mpr c22
         obtain rfl := Option.some.inj H
         go_enter Try.func68, Try.ntmps68
         go_wp2_with (first | ((with_reducible refine gate_dst (N := 3) rfl ?_); refine box_event ?hg (N := 3) ?hd (cs := #[.int .u8 a0_0, .int .i64 a0_1, .int .i64 a0_2, .int .i64 a0_3, .int .i64 a0_4]) (t := 36) ?hr ?_; (case hd => rfl); (case hg => rfl); (case hr => first | (go_simp; done) | (go_simp; rfl)); intro gb108 hg w25 hbox hb; have n0_ := zM (zT (by repeat (first | (with_reducible first | exact HB.out | apply zC | apply zP | apply zO) | exact HB.out)) hb); have n1_ := zM (hbox); have n2_ := zM ((by rw [hg]; exact (zZ (by repeat (first | (with_reducible first | exact HB.out | apply zC | apply zP | apply zO) | exact HB.out))) : w.heap.size ≤ gb108)); have n3_ := zM ((by rw [hg]; exact (zZ (by repeat (first | (with_reducible first | exact HB.out | apply zC | apply zP | apply zO) | exact HB.out))) : w.heap.size ≤ gb108)); clear HB; have HB := n0_; have BK108 := n1_; have GW108 := n2_; have GE108 := n3_; clear n0_ n1_ n2_ n3_; clear hb hbox hg; refine node_cells_ BK108.out fun hcz26_0 hcz26_1 hcz26_2 hcz26_3 hcz26_4 hfz26_0 hfz26_1 hfz26_2 hfz26_3 hfz26_4 => ?_))
         go_ret
         exact ⟨by first | rfl | (simp [errW_none, errW_some] <;> rfl) | (simp [*, errW_none, errW_some] <;> rfl), by repeat (first | (with_reducible first | exact HB.out | apply zC | apply zP | apply zO | refine zS ?_ GE108.out) | exact HB.out)⟩
       ·
        rw [if_neg c21] at H
        have c21b0 : decide (a0_4 ≤ 400) = false := decide_eq_false c21
        clear c21
        obtain rfl := Option.some.inj H
        go_enter Try.func68, Try.ntmps68
        go_wp2_with (first | ((with_reducible refine gate_dst (N := 3) rfl ?_); refine box_event ?hg (N := 3) ?hd (cs := #[.int .u8 a0_0, .int .i64 a0_1, .int .i64 a0_2, .int .i64 a0_3, .int .i64 a0_4]) (t := 36) ?hr ?_; (case hd => rfl); (case hg => rfl); (case hr => first | (go_simp; done) | (go_simp; rfl)); intro gb108 hg w27 hbox hb; have n0_ := zM (zT (by repeat (first | (with_reducible first | exact HB.out | apply zC | apply zP | apply zO) | exact HB.out)) hb); have n1_ := zM (hbox); have n2_ := zM ((by rw [hg]; exact (zZ (by repeat (first | (with_reducible first | exact HB.out | apply zC | apply zP | apply zO) | exact HB.out))) : w.heap.size ≤ gb108)); have n3_ := zM ((by rw [hg]; exact (zZ (by repeat (first | (with_reducible first | exact HB.out | apply zC | apply zP | apply zO) | exact HB.out))) : w.heap.size ≤ gb108)); clear HB; have HB := n0_; have BK108 := n1_; have GW108 := n2_; have GE108 := n3_; clear n0_ n1_ n2_ n3_; clear hb hbox hg; refine node_cells_ BK108.out fun hcz28_0 hcz28_1 hcz28_2 hcz28_3 hcz28_4 hfz28_0 hfz28_1 hfz28_2 hfz28_3 hfz28_4 => ?_))
        go_ret
        exact ⟨by first | rfl | (simp [errW_none, errW_some] <;> rfl) | (simp [*, errW_none, errW_some] <;> rfl), by repeat (first | (with_reducible first | exact HB.out | apply zC | apply zP | apply zO | refine zS ?_ GE108.out) | exact HB.out)⟩
      ·
       rw [if_neg c20] at H
       have c20b0 : decide (0 ≤ a0_4) = false := decide_eq_false c20
       clear c20
       obtain rfl := Option.some.inj H
       go_enter Try.func68, Try.ntmps68
       go_wp2_with (first | ((with_reducible refine gate_dst (N := 3) rfl ?_); refine box_event ?hg (N := 3) ?hd (cs := #[.int .u8 a0_0, .int .i64 a0_1, .int .i64 a0_2, .int .i64 a0_3, .int .i64 a0_4]) (t := 36) ?hr ?_; (case hd => rfl); (case hg => rfl); (case hr => first | (go_simp; done) | (go_simp; rfl)); intro gb108 hg w29 hbox hb; have n0_ := zM (zT (by repeat (first | (with_reducible first | exact HB.out | apply zC | apply zP | apply zO) | exact HB.out)) hb); have n1_ := zM (hbox); have n2_ := zM ((by rw [hg]; exact (zZ (by repeat (first | (with_reducible first | exact HB.out | apply zC | apply zP | apply zO) | exact HB.out))) : w.heap.size ≤ gb108)); have n3_ := zM ((by rw [hg]; exact (zZ (by repeat (first | (with_reducible first | exact HB.out | apply zC | apply zP | apply zO) | exact HB.out))) : w.heap.size ≤ gb108)); clear HB; have HB := n0_; have BK108 := n1_; have GW108 := n2_; have GE108 := n3_; clear n0_ n1_ n2_ n3_; clear hb hbox hg; refine node_cells_ BK108.out fun hcz30_0 hcz30_1 hcz30_2 hcz30_3 hcz30_4 hfz30_0 hfz30_1 hfz30_2 hfz30_3 hfz30_4 => ?_))
       go_ret
       exact ⟨by first | rfl | (simp [errW_none, errW_some] <;> rfl) | (simp [*, errW_none, errW_some] <;> rfl), by repeat (first | (with_reducible first | exact HB.out | apply zC | apply zP | apply zO | refine zS ?_ GE108.out) | exact HB.out)⟩
     ·
      rw [if_neg c19] at H
      have c19b0 : (a0_0 == 1) = false := beq_eq_false_iff_ne.mpr c19
      have c19b1 : (a0_0 != 1) = true := bne_iff_ne.mpr c19
      obtain rfl := Option.some.inj H
      go_enter Try.func68, Try.ntmps68
      go_wp2_with (first | ((with_reducible refine gate_dst (N := 3) rfl ?_); refine box_event ?hg (N := 3) ?hd (cs := #[.int .u8 a0_0, .int .i64 a0_1, .int .i64 a0_2, .int .i64 a0_3, .int .i64 a0_4]) (t := 36) ?hr ?_; (case hd => rfl); (case hg => rfl); (case hr => first | (go_simp; done) | (go_simp; rfl)); intro gb108 hg w31 hbox hb; have n0_ := zM (zT (by repeat (first | (with_reducible first | exact HB.out | apply zC | apply zP | apply zO) | exact HB.out)) hb); have n1_ := zM (hbox); have n2_ := zM ((by rw [hg]; exact (zZ (by repeat (first | (with_reducible first | exact HB.out | apply zC | apply zP | apply zO) | exact HB.out))) : w.heap.size ≤ gb108)); have n3_ := zM ((by rw [hg]; exact (zZ (by repeat (first | (with_reducible first | exact HB.out | apply zC | apply zP | apply zO) | exact HB.out))) : w.heap.size ≤ gb108)); clear HB; have HB := n0_; have BK108 := n1_; have GW108 := n2_; have GE108 := n3_; clear n0_ n1_ n2_ n3_; clear hb hbox hg; refine node_cells_ BK108.out fun hcz32_0 hcz32_1 hcz32_2 hcz32_3 hcz32_4 hfz32_0 hfz32_1 hfz32_2 hfz32_3 hfz32_4 => ?_))
      go_ret
      exact ⟨by first | rfl | (simp [errW_none, errW_some] <;> rfl) | (simp [*, errW_none, errW_some] <;> rfl), by repeat (first | (with_reducible first | exact HB.out | apply zC | apply zP | apply zO | refine zS ?_ GE108.out) | exact HB.out)⟩
   ·
    rw [if_neg c6] at H
    have c6b0 : decide (0 ≤ a0_1) = false := decide_eq_false c6
    clear c6
    obtain rfl := Option.some.inj H
    go_enter Try.func68, Try.ntmps68
    go_wp2_with (first | ((with_reducible refine gate_dst (N := 3) rfl ?_); refine box_event ?hg (N := 3) ?hd (cs := #[.int .u8 a0_0, .int .i64 a0_1, .int .i64 a0_2, .int .i64 a0_3, .int .i64 a0_4]) (t := 36) ?hr ?_; (case hd => rfl); (case hg => rfl); (case hr => first | (go_simp; done) | (go_simp; rfl)); intro gb108 hg w33 hbox hb; have n0_ := zM (zT (by repeat (first | (with_reducible first | exact HB.out | apply zC | apply zP | apply zO) | exact HB.out)) hb); have n1_ := zM (hbox); have n2_ := zM ((by rw [hg]; exact (zZ (by repeat (first | (with_reducible first | exact HB.out | apply zC | apply zP | apply zO) | exact HB.out))) : w.heap.size ≤ gb108)); have n3_ := zM ((by rw [hg]; exact (zZ (by repeat (first | (with_reducible first | exact HB.out | apply zC | apply zP | apply zO) | exact HB.out))) : w.heap.size ≤ gb108)); clear HB; have HB := n0_; have BK108 := n1_; have GW108 := n2_; have GE108 := n3_; clear n0_ n1_ n2_ n3_; clear hb hbox hg; refine node_cells_ BK108.out fun hcz34_0 hcz34_1 hcz34_2 hcz34_3 hcz34_4 hfz34_0 hfz34_1 hfz34_2 hfz34_3 hfz34_4 => ?_))
    go_ret
    exact ⟨by first | rfl | (simp [errW_none, errW_some] <;> rfl) | (simp [*, errW_none, errW_some] <;> rfl), by repeat (first | (with_reducible first | exact HB.out | apply zC | apply zP | apply zO | refine zS ?_ GE108.out) | exact HB.out)⟩
  ·
   rw [if_neg c5] at H
   have c5b0 : decide (a0_0 ≤ 19) = false := decide_eq_false c5
   clear c5
   obtain rfl := Option.some.inj H
   go_enter Try.func68, Try.ntmps68
   go_wp2_with (first | ((with_reducible refine gate_dst (N := 3) rfl ?_); refine box_event ?hg (N := 3) ?hd (cs := #[.int .u8 a0_0, .int .i64 a0_1, .int .i64 a0_2, .int .i64 a0_3, .int .i64 a0_4]) (t := 36) ?hr ?_; (case hd => rfl); (case hg => rfl); (case hr => first | (go_simp; done) | (go_simp; rfl)); intro gb108 hg w35 hbox hb; have n0_ := zM (zT (by repeat (first | (with_reducible first | exact HB.out | apply zC | apply zP | apply zO) | exact HB.out)) hb); have n1_ := zM (hbox); have n2_ := zM ((by rw [hg]; exact (zZ (by repeat (first | (with_reducible first | exact HB.out | apply zC | apply zP | apply zO) | exact HB.out))) : w.heap.size ≤ gb108)); have n3_ := zM ((by rw [hg]; exact (zZ (by repeat (first | (with_reducible first | exact HB.out | apply zC | apply zP | apply zO) | exact HB.out))) : w.heap.size ≤ gb108)); clear HB; have HB := n0_; have BK108 := n1_; have GW108 := n2_; have GE108 := n3_; clear n0_ n1_ n2_ n3_; clear hb hbox hg; refine node_cells_ BK108.out fun hcz36_0 hcz36_1 hcz36_2 hcz36_3 hcz36_4 hfz36_0 hfz36_1 hfz36_2 hfz36_3 hfz36_4 => ?_))
   go_ret
   exact ⟨by first | rfl | (simp [errW_none, errW_some] <;> rfl) | (simp [*, errW_none, errW_some] <;> rfl), by repeat (first | (with_reducible first | exact HB.out | apply zC | apply zP | apply zO | refine zS ?_ GE108.out) | exact HB.out)⟩
 ·
  rw [if_neg c4] at H
  have c4b0 : decide (1 ≤ a0_0) = false := decide_eq_false c4
  clear c4
  obtain rfl := Option.some.inj H
  go_enter Try.func68, Try.ntmps68
  go_wp2_with (first | ((with_reducible refine gate_dst (N := 3) rfl ?_); refine box_event ?hg (N := 3) ?hd (cs := #[.int .u8 a0_0, .int .i64 a0_1, .int .i64 a0_2, .int .i64 a0_3, .int .i64 a0_4]) (t := 36) ?hr ?_; (case hd => rfl); (case hg => rfl); (case hr => first | (go_simp; done) | (go_simp; rfl)); intro gb108 hg w37 hbox hb; have n0_ := zM (zT (by repeat (first | (with_reducible first | exact HB.out | apply zC | apply zP | apply zO) | exact HB.out)) hb); have n1_ := zM (hbox); have n2_ := zM ((by rw [hg]; exact (zZ (by repeat (first | (with_reducible first | exact HB.out | apply zC | apply zP | apply zO) | exact HB.out))) : w.heap.size ≤ gb108)); have n3_ := zM ((by rw [hg]; exact (zZ (by repeat (first | (with_reducible first | exact HB.out | apply zC | apply zP | apply zO) | exact HB.out))) : w.heap.size ≤ gb108)); clear HB; have HB := n0_; have BK108 := n1_; have GW108 := n2_; have GE108 := n3_; clear n0_ n1_ n2_ n3_; clear hb hbox hg; refine node_cells_ BK108.out fun hcz38_0 hcz38_1 hcz38_2 hcz38_3 hcz38_4 hfz38_0 hfz38_1 hfz38_2 hfz38_3 hfz38_4 => ?_))
  go_ret
  exact ⟨by first | rfl | (simp [errW_none, errW_some] <;> rfl) | (simp [*, errW_none, errW_some] <;> rfl), by repeat (first | (with_reducible first | exact HB.out | apply zC | apply zP | apply zO | refine zS ?_ GE108.out) | exact HB.out)⟩

end Go.Proofs.Ytpkamfjkmbakhaa.G
