-- Written by a program of this place (wip/prt.py), out of Lean's own print of the program: Lean checks it.
import Derived.Test.YtpkamfjkmbakhaaG0
import Derived.Test.YtpkamfjkmbakhaaG1
import Derived.Test.YtpkamfjkmbakhaaG17
import Derived.Test.YtpkamfjkmbakhaaG19
import Derived.Test.YtpkamfjkmbakhaaGU
namespace Go.Proofs.Ytpkamfjkmbakhaa.G
open Go.RowKit Go.Proofs.YtpkamfjkmbakhaaW.PrintWords Go.Proofs.YtpkamfjkmbakhaaW.PrintLast Go.Proofs.YtpkamfjkmbakhaaW.PrintMore
attribute [local go_sem] max2_int min2_int max_two min_two max_three min_three max_four min_four   -- for this text's walks alone
set_option linter.unusedVariables false
set_option linter.unusedSimpArgs false

/-! ### clauses_Same: function 19 -/
section
theorem eqA36c (d : Nat) (w : World) (x0 y0 : Int) (x1 y1 : Int) (x2 y2 : Int) (x3 y3 : Int) (x4 y4 : Int) :
  (Op.equalIn (d + 2) 36 (.agg #[.int .u8 x0, .int .i64 x1, .int .i64 x2, .int .i64 x3, .int .i64 x4]) (.agg #[.int .u8 y0, .int .i64 y1, .int .i64 y2, .int .i64 y3, .int .i64 y4])).run Try.prog w = .ok (x0 == y0 && (x1 == y1 && (x2 == y2 && (x3 == y3 && (x4 == y4))))) w := by
 refine eqA_of Try.underlying36 (by kernel_rfl) ?_
 refine eqf_cons (by rfl) (by go_simp; rfl) (by go_simp; rfl) (by go_simp) ?_
 refine eqf_cons (by rfl) (by go_simp; rfl) (by go_simp; rfl) (by go_simp) ?_
 refine eqf_cons (by rfl) (by go_simp; rfl) (by go_simp; rfl) (by go_simp) ?_
 refine eqf_cons (by rfl) (by go_simp; rfl) (by go_simp; rfl) (by go_simp) ?_
 exact eqf_last (by rfl) (by go_simp; rfl) (by go_simp; rfl) (by go_simp)
attribute [local go_sem high] eqA36c
def clauses_Same_1_1.f (a0_0 : Int) (a0_1 : Int) (a0_2 : Int) (a0_3 : Int) (a0_4 : Int) (a1_0 : Int) (a1_1 : Int) (a1_2 : Int) (a1_3 : Int) (a1_4 : Int) : Option (Bool) := some (a0_0 == a1_0 && (a0_1 == a1_1 && (a0_2 == a1_2 && (a0_3 == a1_3))))
set_option maxHeartbeats 8000000 in
set_option maxRecDepth 100000 in
theorem clauses_Same_1_1.calls (a0_0 : Int) (a0_1 : Int) (a0_2 : Int) (a0_3 : Int) (a0_4 : Int) (a1_0 : Int) (a1_1 : Int) (a1_2 : Int) (a1_3 : Int) (a1_4 : Int) (r : Bool) (w : World) (h : clauses_Same_1_1.f a0_0 a0_1 a0_2 a0_3 a0_4 a1_0 a1_1 a1_2 a1_3 a1_4 = some r) :
  Calls Try.prog 53 #[.agg #[.int .u8 a0_0, .int .i64 a0_1, .int .i64 a0_2, .int .i64 a0_3, .int .i64 a0_4], .agg #[.int .u8 a1_0, .int .i64 a1_1, .int .i64 a1_2, .int .i64 a1_3, .int .i64 a1_4]] w fun e w' => e = .returned (.bool r) ∧ Below w.heap.size w w' := by
 have hu36 := Try.underlying36
 have HB := zM (Below.refl w.heap.size w)
 have H : (some (a0_0 == a1_0 && (a0_1 == a1_1 && (a0_2 == a1_2 && (a0_3 == a1_3))))) = some r := h
 clear h
 obtain rfl := Option.some.inj H
 go_enter Try.func53, Try.ntmps53
 go_wp2_with (first | ((with_reducible refine gate_dst (N := 2) rfl ?_); refine box_event ?hg (N := 2) ?hd (cs := #[.int .u8 a0_0, .int .i64 a0_1, .int .i64 a0_2, .int .i64 a0_3, .int .i64 a0_4]) (t := 36) ?hr ?_; (case hd => rfl); (case hg => rfl); (case hr => first | (go_simp; done) | (go_simp; rfl)); intro gb103 hg w3 hbox hb; have n0_ := zM (zT (by repeat (first | (with_reducible first | exact HB.out | apply zC | apply zP | apply zO) | exact HB.out)) hb); have n1_ := zM (hbox); have n2_ := zM ((by rw [hg]; exact (zZ (by repeat (first | (with_reducible first | exact HB.out | apply zC | apply zP | apply zO) | exact HB.out))) : w.heap.size ≤ gb103)); have n3_ := zM ((by rw [hg]; exact (zZ (by repeat (first | (with_reducible first | exact HB.out | apply zC | apply zP | apply zO) | exact HB.out))) : w.heap.size ≤ gb103)); clear HB; have HB := n0_; have BK103 := n1_; have GW103 := n2_; have GE103 := n3_; clear n0_ n1_ n2_ n3_; clear hb hbox hg) | ((with_reducible refine gate_dst (N := 3) rfl ?_); refine box_event ?hg (N := 3) ?hd (cs := #[.int .u8 a1_0, .int .i64 a1_1, .int .i64 a1_2, .int .i64 a1_3, .int .i64 a1_4]) (t := 36) ?hr ?_; (case hd => rfl); (case hg => rfl); (case hr => first | (go_simp; done) | (go_simp; rfl)); intro gb104 hg w4 hbox hb; have n0_ := zM (zX (g := gb103) (o := .cells #[.int .u8 a0_0, .int .i64 a0_1, .int .i64 a0_2, .int .i64 a0_3, .int .i64 a0_4] 36 (0, 0)) (by (with_reducible repeat (first | refine zbN ?_ _ | refine zbD ?_ | refine zbA ?_ _)); exact BK103.out) hb); have n1_ := zM (zT (by repeat (first | (with_reducible first | exact HB.out | apply zC | apply zP | apply zO | refine zS ?_ GE103.out) | exact HB.out)) hb); have n2_ := zM (hbox); have n3_ := zM ((by rw [hg]; exact (zZ (by repeat (first | (with_reducible first | exact HB.out | apply zC | apply zP | apply zO | refine zS ?_ GE103.out) | exact HB.out))) : w.heap.size ≤ gb104)); have n4_ := zM ((by rw [hg]; exact (zZ (by repeat (first | (with_reducible first | exact HB.out | apply zC | apply zP | apply zO | refine zS ?_ GE103.out) | exact HB.out))) : w.heap.size ≤ gb104)); have n5_ := zM ((by rw [hg]; exact Nat.ne_of_lt (blk_lt (g := gb103) (o := .cells #[.int .u8 a0_0, .int .i64 a0_1, .int .i64 a0_2, .int .i64 a0_3, .int .i64 a0_4] 36 (0, 0)) (by (with_reducible repeat (first | refine zbN ?_ _ | refine zbD ?_ | refine zbA ?_ _)); exact BK103.out)) : gb103 ≠ gb104)); have n6_ := zM ((by rw [hg]; exact Nat.ne_of_gt (blk_lt (g := gb103) (o := .cells #[.int .u8 a0_0, .int .i64 a0_1, .int .i64 a0_2, .int .i64 a0_3, .int .i64 a0_4] 36 (0, 0)) (by (with_reducible repeat (first | refine zbN ?_ _ | refine zbD ?_ | refine zbA ?_ _)); exact BK103.out)) : gb104 ≠ gb103)); clear BK103; clear HB; have BK103 := n0_; have HB := n1_; have BK104 := n2_; have GW104 := n3_; have GE104 := n4_; have NB103_104 := n5_; have NB104_103 := n6_; clear n0_ n1_ n2_ n3_ n4_ n5_ n6_; clear hb hbox hg; have hnb5 := NB104_103.out; have hnc5 := NB103_104.out; refine node_cells_ BK104.out fun hcz6_0 hcz6_1 hcz6_2 hcz6_3 hcz6_4 hfz6_0 hfz6_1 hfz6_2 hfz6_3 hfz6_4 => ?_; refine node_cells_ BK103.out fun hcz7_0 hcz7_1 hcz7_2 hcz7_3 hcz7_4 hfz7_0 hfz7_1 hfz7_2 hfz7_3 hfz7_4 => ?_))
 go_ret
 exact ⟨by first | rfl | (simp [errW_none, errW_some] <;> rfl) | (simp [*, errW_none, errW_some] <;> rfl), by repeat (first | (with_reducible first | exact HB.out | apply zC | apply zP | apply zO | refine zS ?_ GE103.out | refine zS ?_ GE104.out) | exact HB.out)⟩
def eqfB.l0 : Nat → List (S36) → List (S36) → Int → Int → Option (Bool)
 | 0, _, _, _, _ => none
 | k + 1, x1, x15, x16, x17 => if x17 < x16 then (if 0 ≤ x17 then (if x17 < (x15.length : Int) then (if x17 < (x1.length : Int) then ((clauses_Same_1_1.f ((rd_T36 x15 x17).f0) ((rd_T36 x15 x17).f1) ((rd_T36 x15 x17).f2) ((rd_T36 x15 x17).f3) ((rd_T36 x15 x17).f4) ((rd_T36 x1 x17).f0) ((rd_T36 x1 x17).f1) ((rd_T36 x1 x17).f2) ((rd_T36 x1 x17).f3) ((rd_T36 x1 x17).f4)).bind fun t118 => (if t118 = true then (eqfB.l0 k x1 x15 x16 (wrap64 (x17 + 1))) else (some false))) else (none)) else (none)) else (none)) else (some true)
def eqfB.f (k : Nat) (l0 : List (S36)) (l1 : List (S36)) (a2 : Int) : Option (Bool) := if (l0.length : Int) = (l1.length : Int) then (eqfB.l0 k l1 l0 (l0.length : Int) 0) else (some false)
theorem eqfB.mono_l : ∀ k, (∀ y0 y1 y2 y3, LeO (eqfB.l0 k y0 y1 y2 y3) (eqfB.l0 (k + 1) y0 y1 y2 y3))
 | 0 => fun _ _ _ _ r h => by simp [eqfB.l0] at h
 | k + 1 => by
  have ih0 := eqfB.mono_l k
  ·
   intro y0 y1 y2 y3
   unfold eqfB.l0
   repeat' first
   | (with_reducible exact ih0 _ _ _ _)
   | (with_reducible exact LeO.refl _)
   | (with_reducible exact LeO.none _)
   | (with_reducible refine LeO.ite ?_ ?_)
   | (with_reducible refine LeO.bind ?_ (fun _ => ?_))
   | exact ih0 _ _ _ _
   | exact LeO.none _
   | refine LeO.ite ?_ ?_
   | refine LeO.bind ?_ (fun _ => ?_)
theorem eqfB.mono : ∀ a0 a1 a2 k, LeO (eqfB.f k a0 a1 a2) (eqfB.f (k + 1) a0 a1 a2) := by
 intro a0 a1 a2 k
 have ih0 := eqfB.mono_l k
 unfold eqfB.f
 repeat' first
   | (with_reducible exact ih0 _ _ _ _)
   | (with_reducible exact LeO.refl _)
   | (with_reducible exact LeO.none _)
   | (with_reducible refine LeO.ite ?_ ?_)
   | (with_reducible refine LeO.bind ?_ (fun _ => ?_))
   | exact ih0 _ _ _ _
   | exact LeO.none _
   | refine LeO.ite ?_ ?_
   | refine LeO.bind ?_ (fun _ => ?_)
set_option maxHeartbeats 8000000 in
set_option maxRecDepth 100000 in
theorem eqfB.calls (k : Nat) (A0 : Option Addr) (c0 : Nat) (l0 : List (S36)) (A1 : Option Addr) (c1 : Nat) (l1 : List (S36)) (a2 : Int) (r : Bool) (w : World) (hr0 : Kd.C k36 w A0 l0.length l0) (hc0 : l0.length ≤ c0) (hr1 : Kd.C k36 w A1 l1.length l1) (hc1 : l1.length ≤ c1) (h : eqfB.f k l0 l1 a2 = some r) :
  Calls Try.prog 52 #[.slice A0 l0.length c0, .slice A1 l1.length c1, .func (.func 53) #[] #[]] w fun e w' => e = .returned (.bool r) ∧ Below w.heap.size w w' := by
 have hu36 := Try.underlying36
 have HR0 := zM hr0
 have HC0 := zM hc0
 clear hr0 hc0
 have HR1 := zM hr1
 have HC1 := zM hc1
 clear hr1 hc1
 have HB := zM (Below.refl w.heap.size w)
 have H : (if (l0.length : Int) = (l1.length : Int) then (eqfB.l0 k l1 l0 (l0.length : Int) 0) else (some false)) = some r := h
 clear h
 by_cases c4 : (l0.length : Int) = (l1.length : Int)
 ·
  rw [if_pos c4] at H
  have c4b0 : ((l0.length : Int) == (l1.length : Int)) = true := beq_iff_eq.mpr c4
  have c4b1 : ((l0.length : Int) != (l1.length : Int)) = false := bne_eq_false_iff_eq.mpr c4
  have c4b2 : (l0.length == l1.length) = true := by first | simpa using c4 | (simp at c4 ⊢; omega)
  clear c4
  have H' := zM H
  clear H
  go_enter Try.func52, Try.ntmps52
  go_wp2
  go_loopg [17] k (fun kq v17 w' => ∃ (x17_1 : Int), v17 = .int .i64 x17_1 ∧ Aside0 (eqfB.l0 kq l1 l0 (l0.length : Int) x17_1 = some r) ∧ Aside0 (kq ≤ k) ∧ Aside0 (Below w.heap.size w w'))
  case atStart => exact ⟨(0), (by first | rfl | (simp; done) | (simp [*]; done)), H', ⟨Nat.le_refl _⟩, ⟨by repeat (first | (with_reducible first | exact HB.out | apply zC | apply zP | apply zO) | exact HB.out)⟩⟩
  case round =>
   clear H'
   try clear c1
   try clear p2
   try clear c4
   try clear c4b0
   try clear c4b1
   try clear c4b2
   obtain ⟨x17_1, rfl, HA, HK1, HB⟩ := hrel
   cases gk with
   | zero => exact absurd HA.out (by simp [eqfB.l0])
   | succ k1 =>
    have H := HA.out
    clear HA
    simp only [eqfB.l0] at H
    by_cases c5 : x17_1 < (l0.length : Int)
    ·
     rw [if_pos c5] at H
     have c5b0 : decide (x17_1 < (l0.length : Int)) = true := decide_eq_true c5
     clear c5
     by_cases c6 : 0 ≤ x17_1
     ·
      rw [if_pos c6] at H
      have c6b0 : decide (0 ≤ x17_1) = true := decide_eq_true c6
      clear c6
      by_cases c7 : x17_1 < (l0.length : Int)
      ·
       rw [if_pos c7] at H
       have c7b0 : decide (x17_1 < (l0.length : Int)) = true := decide_eq_true c7
       clear c7
       by_cases c8 : x17_1 < (l1.length : Int)
       ·
        rw [if_pos c8] at H
        have c8b0 : decide (x17_1 < (l1.length : Int)) = true := decide_eq_true c8
        clear c8
        replace H := Option.bind_eq_some_iff.mp H
        obtain ⟨t118, A90, H⟩ := H
        replace H : (if t118 = true then (eqfB.l0 k1 l1 l0 (l0.length : Int) (wrap64 (x17_1 + 1))) else (some false)) = some r := H
        have A9 := zM A90
        clear A90
        by_cases c10 : t118 = true
        ·
         subst c10
         have H1 : (eqfB.l0 k1 l1 l0 (l0.length : Int) (wrap64 (x17_1 + 1))) = some r := by rw [if_pos rfl] at H; exact H
         clear H
         have H := H1
         clear H1
         have H' := zM H
         clear H
         have p114 : 0 ≤ (x17_1 : Int) := of_decide_eq_true (by first | (with_reducible assumption) | assumption)
         have q114 : x17_1 < (l0.length : Int) := of_decide_eq_true (by first | (with_reducible assumption) | assumption)
         obtain ⟨ad114, e114, hx114_0, hx114_1, hx114_2, hx114_3, hx114_4⟩ := at_T36 HR0.out x17_1 p114 q114
         cases e114
         replace hx114_0 := (HB.out.cell (World.block_lt_of_cell? w _ hx114_0)).trans hx114_0
         replace hx114_1 := (HB.out.cell (World.block_lt_of_cell? w _ hx114_1)).trans hx114_1
         replace hx114_2 := (HB.out.cell (World.block_lt_of_cell? w _ hx114_2)).trans hx114_2
         replace hx114_3 := (HB.out.cell (World.block_lt_of_cell? w _ hx114_3)).trans hx114_3
         replace hx114_4 := (HB.out.cell (World.block_lt_of_cell? w _ hx114_4)).trans hx114_4
         replace p114 := eq_true p114
         replace q114 := eq_true q114
         go_wp2_with (first | ((with_reducible refine gate_dst (N := 8) rfl ?_); refine box_event ?hg (N := 8) ?hd (cs := #[.int .u8 0, .int .i64 0, .int .i64 0, .int .i64 0, .int .i64 0]) (t := 36) ?hr ?_; (case hd => rfl); (case hg => rfl); (case hr => first | (go_simp; done) | (go_simp; rfl)); intro gb115 hg w11 hbox hb; have n0_ := zM (zT (by repeat (first | (with_reducible first | exact HB.out | apply zC | apply zP | apply zO) | exact HB.out)) hb); have n1_ := zM (hbox); have n2_ := zM ((by rw [hg]; exact (zZ (by repeat (first | (with_reducible first | exact HB.out | apply zC | apply zP | apply zO) | exact HB.out))) : w.heap.size ≤ gb115)); have n3_ := zM ((by rw [hg]; exact (zZ (by repeat (first | (with_reducible first | exact HB.out | apply zC | apply zP | apply zO) | exact HB.out))) : w.heap.size ≤ gb115)); clear HB; have HB := n0_; have BK115 := n1_; have GW115 := n2_; have GE115 := n3_; clear n0_ n1_ n2_ n3_; clear hb hbox hg; refine node_cells_ BK115.out fun hcz12_0 hcz12_1 hcz12_2 hcz12_3 hcz12_4 hfz12_0 hfz12_1 hfz12_2 hfz12_3 hfz12_4 => ?_; have p116 : 0 ≤ (x17_1 : Int) := of_decide_eq_true (by first | (with_reducible assumption) | assumption); have q116 : x17_1 < (l1.length : Int) := of_decide_eq_true (by first | (with_reducible assumption) | assumption); obtain ⟨ad116, e116, hx116_0, hx116_1, hx116_2, hx116_3, hx116_4⟩ := at_T36 HR1.out x17_1 p116 q116; cases e116; have hn116_0 : ad116.block ≠ gb115 := Nat.ne_of_lt (Nat.lt_of_lt_of_le (by have := World.block_lt_of_cell? _ _ hx116_0; first | rwa [add_block] at this | exact this) GW115.out); have hn116_1 : ad116.block ≠ gb115 := Nat.ne_of_lt (Nat.lt_of_lt_of_le (by have := World.block_lt_of_cell? _ _ hx116_0; first | rwa [add_block] at this | exact this) GW115.out); have hn116_2 : ad116.block ≠ gb115 := Nat.ne_of_lt (Nat.lt_of_lt_of_le (by have := World.block_lt_of_cell? _ _ hx116_0; first | rwa [add_block] at this | exact this) GW115.out); have hn116_3 : ad116.block ≠ gb115 := Nat.ne_of_lt (Nat.lt_of_lt_of_le (by have := World.block_lt_of_cell? _ _ hx116_0; first | rwa [add_block] at this | exact this) GW115.out); have hn116_4 : ad116.block ≠ gb115 := Nat.ne_of_lt (Nat.lt_of_lt_of_le (by have := World.block_lt_of_cell? _ _ hx116_0; first | rwa [add_block] at this | exact this) GW115.out); replace hx116_0 := (HB.out.cell (World.block_lt_of_cell? w _ hx116_0)).trans hx116_0; replace hx116_1 := (HB.out.cell (World.block_lt_of_cell? w _ hx116_1)).trans hx116_1; replace hx116_2 := (HB.out.cell (World.block_lt_of_cell? w _ hx116_2)).trans hx116_2; replace hx116_3 := (HB.out.cell (World.block_lt_of_cell? w _ hx116_3)).trans hx116_3; replace hx116_4 := (HB.out.cell (World.block_lt_of_cell? w _ hx116_4)).trans hx116_4; replace hx116_0 := (cell_far (p := ⟨gb115, 0, none⟩) (by first | (rw [add_block]; exact hn116_0) | (show (Addr.add _ _).block ≠ _; rw [add_block]; exact hn116_0) | exact hn116_0) (.int .u8 ((rd_T36 l0 x17_1).f0))).trans hx116_0; replace hx116_1 := (cell_far (p := ⟨gb115, 0, none⟩) (by first | (rw [add_block]; exact hn116_0) | (show (Addr.add _ _).block ≠ _; rw [add_block]; exact hn116_0) | exact hn116_0) (.int .u8 ((rd_T36 l0 x17_1).f0))).trans hx116_1; replace hx116_2 := (cell_far (p := ⟨gb115, 0, none⟩) (by first | (rw [add_block]; exact hn116_0) | (show (Addr.add _ _).block ≠ _; rw [add_block]; exact hn116_0) | exact hn116_0) (.int .u8 ((rd_T36 l0 x17_1).f0))).trans hx116_2; replace hx116_3 := (cell_far (p := ⟨gb115, 0, none⟩) (by first | (rw [add_block]; exact hn116_0) | (show (Addr.add _ _).block ≠ _; rw [add_block]; exact hn116_0) | exact hn116_0) (.int .u8 ((rd_T36 l0 x17_1).f0))).trans hx116_3; replace hx116_4 := (cell_far (p := ⟨gb115, 0, none⟩) (by first | (rw [add_block]; exact hn116_0) | (show (Addr.add _ _).block ≠ _; rw [add_block]; exact hn116_0) | exact hn116_0) (.int .u8 ((rd_T36 l0 x17_1).f0))).trans hx116_4; replace hx116_0 := (cell_far (p := ⟨gb115, 1, none⟩) (by first | (rw [add_block]; exact hn116_1) | (show (Addr.add _ _).block ≠ _; rw [add_block]; exact hn116_1) | exact hn116_1) (.int .i64 ((rd_T36 l0 x17_1).f1))).trans hx116_0; replace hx116_1 := (cell_far (p := ⟨gb115, 1, none⟩) (by first | (rw [add_block]; exact hn116_1) | (show (Addr.add _ _).block ≠ _; rw [add_block]; exact hn116_1) | exact hn116_1) (.int .i64 ((rd_T36 l0 x17_1).f1))).trans hx116_1; replace hx116_2 := (cell_far (p := ⟨gb115, 1, none⟩) (by first | (rw [add_block]; exact hn116_1) | (show (Addr.add _ _).block ≠ _; rw [add_block]; exact hn116_1) | exact hn116_1) (.int .i64 ((rd_T36 l0 x17_1).f1))).trans hx116_2; replace hx116_3 := (cell_far (p := ⟨gb115, 1, none⟩) (by first | (rw [add_block]; exact hn116_1) | (show (Addr.add _ _).block ≠ _; rw [add_block]; exact hn116_1) | exact hn116_1) (.int .i64 ((rd_T36 l0 x17_1).f1))).trans hx116_3; replace hx116_4 := (cell_far (p := ⟨gb115, 1, none⟩) (by first | (rw [add_block]; exact hn116_1) | (show (Addr.add _ _).block ≠ _; rw [add_block]; exact hn116_1) | exact hn116_1) (.int .i64 ((rd_T36 l0 x17_1).f1))).trans hx116_4; replace hx116_0 := (cell_far (p := ⟨gb115, 2, none⟩) (by first | (rw [add_block]; exact hn116_2) | (show (Addr.add _ _).block ≠ _; rw [add_block]; exact hn116_2) | exact hn116_2) (.int .i64 ((rd_T36 l0 x17_1).f2))).trans hx116_0; replace hx116_1 := (cell_far (p := ⟨gb115, 2, none⟩) (by first | (rw [add_block]; exact hn116_2) | (show (Addr.add _ _).block ≠ _; rw [add_block]; exact hn116_2) | exact hn116_2) (.int .i64 ((rd_T36 l0 x17_1).f2))).trans hx116_1; replace hx116_2 := (cell_far (p := ⟨gb115, 2, none⟩) (by first | (rw [add_block]; exact hn116_2) | (show (Addr.add _ _).block ≠ _; rw [add_block]; exact hn116_2) | exact hn116_2) (.int .i64 ((rd_T36 l0 x17_1).f2))).trans hx116_2; replace hx116_3 := (cell_far (p := ⟨gb115, 2, none⟩) (by first | (rw [add_block]; exact hn116_2) | (show (Addr.add _ _).block ≠ _; rw [add_block]; exact hn116_2) | exact hn116_2) (.int .i64 ((rd_T36 l0 x17_1).f2))).trans hx116_3; replace hx116_4 := (cell_far (p := ⟨gb115, 2, none⟩) (by first | (rw [add_block]; exact hn116_2) | (show (Addr.add _ _).block ≠ _; rw [add_block]; exact hn116_2) | exact hn116_2) (.int .i64 ((rd_T36 l0 x17_1).f2))).trans hx116_4; replace hx116_0 := (cell_far (p := ⟨gb115, 3, none⟩) (by first | (rw [add_block]; exact hn116_3) | (show (Addr.add _ _).block ≠ _; rw [add_block]; exact hn116_3) | exact hn116_3) (.int .i64 ((rd_T36 l0 x17_1).f3))).trans hx116_0; replace hx116_1 := (cell_far (p := ⟨gb115, 3, none⟩) (by first | (rw [add_block]; exact hn116_3) | (show (Addr.add _ _).block ≠ _; rw [add_block]; exact hn116_3) | exact hn116_3) (.int .i64 ((rd_T36 l0 x17_1).f3))).trans hx116_1; replace hx116_2 := (cell_far (p := ⟨gb115, 3, none⟩) (by first | (rw [add_block]; exact hn116_3) | (show (Addr.add _ _).block ≠ _; rw [add_block]; exact hn116_3) | exact hn116_3) (.int .i64 ((rd_T36 l0 x17_1).f3))).trans hx116_2; replace hx116_3 := (cell_far (p := ⟨gb115, 3, none⟩) (by first | (rw [add_block]; exact hn116_3) | (show (Addr.add _ _).block ≠ _; rw [add_block]; exact hn116_3) | exact hn116_3) (.int .i64 ((rd_T36 l0 x17_1).f3))).trans hx116_3; replace hx116_4 := (cell_far (p := ⟨gb115, 3, none⟩) (by first | (rw [add_block]; exact hn116_3) | (show (Addr.add _ _).block ≠ _; rw [add_block]; exact hn116_3) | exact hn116_3) (.int .i64 ((rd_T36 l0 x17_1).f3))).trans hx116_4; replace hx116_0 := (cell_far (p := ⟨gb115, 4, none⟩) (by first | (rw [add_block]; exact hn116_4) | (show (Addr.add _ _).block ≠ _; rw [add_block]; exact hn116_4) | exact hn116_4) (.int .i64 ((rd_T36 l0 x17_1).f4))).trans hx116_0; replace hx116_1 := (cell_far (p := ⟨gb115, 4, none⟩) (by first | (rw [add_block]; exact hn116_4) | (show (Addr.add _ _).block ≠ _; rw [add_block]; exact hn116_4) | exact hn116_4) (.int .i64 ((rd_T36 l0 x17_1).f4))).trans hx116_1; replace hx116_2 := (cell_far (p := ⟨gb115, 4, none⟩) (by first | (rw [add_block]; exact hn116_4) | (show (Addr.add _ _).block ≠ _; rw [add_block]; exact hn116_4) | exact hn116_4) (.int .i64 ((rd_T36 l0 x17_1).f4))).trans hx116_2; replace hx116_3 := (cell_far (p := ⟨gb115, 4, none⟩) (by first | (rw [add_block]; exact hn116_4) | (show (Addr.add _ _).block ≠ _; rw [add_block]; exact hn116_4) | exact hn116_4) (.int .i64 ((rd_T36 l0 x17_1).f4))).trans hx116_3; replace hx116_4 := (cell_far (p := ⟨gb115, 4, none⟩) (by first | (rw [add_block]; exact hn116_4) | (show (Addr.add _ _).block ≠ _; rw [add_block]; exact hn116_4) | exact hn116_4) (.int .i64 ((rd_T36 l0 x17_1).f4))).trans hx116_4; clear hn116_0; clear hn116_1; clear hn116_2; clear hn116_3; clear hn116_4; replace p116 := eq_true p116; replace q116 := eq_true q116) | ((with_reducible refine gate_dst (N := 9) rfl ?_); refine box_event ?hg (N := 9) ?hd (cs := #[.int .u8 0, .int .i64 0, .int .i64 0, .int .i64 0, .int .i64 0]) (t := 36) ?hr ?_; (case hd => rfl); (case hg => rfl); (case hr => first | (go_simp; done) | (go_simp; rfl)); intro gb117 hg w13 hbox hb; have n0_ := zM (zX (g := gb115) (o := .cells #[.int .u8 ((rd_T36 l0 x17_1).f0), .int .i64 ((rd_T36 l0 x17_1).f1), .int .i64 ((rd_T36 l0 x17_1).f2), .int .i64 ((rd_T36 l0 x17_1).f3), .int .i64 ((rd_T36 l0 x17_1).f4)] 36 (0, 0)) (by (with_reducible repeat (first | refine zbN ?_ _ | refine zbD ?_ | refine zbA ?_ _)); refine blk_put (cs := #[.int .u8 ((rd_T36 l0 x17_1).f0), .int .i64 ((rd_T36 l0 x17_1).f1), .int .i64 ((rd_T36 l0 x17_1).f2), .int .i64 ((rd_T36 l0 x17_1).f3), .int .i64 0]) ?_ 4 _ rfl; (with_reducible repeat (first | refine zbN ?_ _ | refine zbD ?_ | refine zbA ?_ _)); refine blk_put (cs := #[.int .u8 ((rd_T36 l0 x17_1).f0), .int .i64 ((rd_T36 l0 x17_1).f1), .int .i64 ((rd_T36 l0 x17_1).f2), .int .i64 0, .int .i64 0]) ?_ 3 _ rfl; (with_reducible repeat (first | refine zbN ?_ _ | refine zbD ?_ | refine zbA ?_ _)); refine blk_put (cs := #[.int .u8 ((rd_T36 l0 x17_1).f0), .int .i64 ((rd_T36 l0 x17_1).f1), .int .i64 0, .int .i64 0, .int .i64 0]) ?_ 2 _ rfl; (with_reducible repeat (first | refine zbN ?_ _ | refine zbD ?_ | refine zbA ?_ _)); refine blk_put (cs := #[.int .u8 ((rd_T36 l0 x17_1).f0), .int .i64 0, .int .i64 0, .int .i64 0, .int .i64 0]) ?_ 1 _ rfl; (with_reducible repeat (first | refine zbN ?_ _ | refine zbD ?_ | refine zbA ?_ _)); refine blk_put (cs := #[.int .u8 0, .int .i64 0, .int .i64 0, .int .i64 0, .int .i64 0]) ?_ 0 _ rfl; (with_reducible repeat (first | refine zbN ?_ _ | refine zbD ?_ | refine zbA ?_ _)); exact BK115.out) hb); have n1_ := zM (zT (by repeat (first | (with_reducible first | exact HB.out | apply zC | apply zP | apply zO | refine zS ?_ GE115.out) | exact HB.out)) hb); have n2_ := zM (hbox); have n3_ := zM ((by rw [hg]; exact (zZ (by repeat (first | (with_reducible first | exact HB.out | apply zC | apply zP | apply zO | refine zS ?_ GE115.out) | exact HB.out))) : w.heap.size ≤ gb117)); have n4_ := zM ((by rw [hg]; exact (zZ (by repeat (first | (with_reducible first | exact HB.out | apply zC | apply zP | apply zO | refine zS ?_ GE115.out) | exact HB.out))) : w.heap.size ≤ gb117)); have n5_ := zM ((by rw [hg]; exact Nat.ne_of_lt (blk_lt (g := gb115) (o := .cells #[.int .u8 ((rd_T36 l0 x17_1).f0), .int .i64 ((rd_T36 l0 x17_1).f1), .int .i64 ((rd_T36 l0 x17_1).f2), .int .i64 ((rd_T36 l0 x17_1).f3), .int .i64 ((rd_T36 l0 x17_1).f4)] 36 (0, 0)) (by (with_reducible repeat (first | refine zbN ?_ _ | refine zbD ?_ | refine zbA ?_ _)); refine blk_put (cs := #[.int .u8 ((rd_T36 l0 x17_1).f0), .int .i64 ((rd_T36 l0 x17_1).f1), .int .i64 ((rd_T36 l0 x17_1).f2), .int .i64 ((rd_T36 l0 x17_1).f3), .int .i64 0]) ?_ 4 _ rfl; (with_reducible repeat (first | refine zbN ?_ _ | refine zbD ?_ | refine zbA ?_ _)); refine blk_put (cs := #[.int .u8 ((rd_T36 l0 x17_1).f0), .int .i64 ((rd_T36 l0 x17_1).f1), .int .i64 ((rd_T36 l0 x17_1).f2), .int .i64 0, .int .i64 0]) ?_ 3 _ rfl; (with_reducible repeat (first | refine zbN ?_ _ | refine zbD ?_ | refine zbA ?_ _)); refine blk_put (cs := #[.int .u8 ((rd_T36 l0 x17_1).f0), .int .i64 ((rd_T36 l0 x17_1).f1), .int .i64 0, .int .i64 0, .int .i64 0]) ?_ 2 _ rfl; (with_reducible repeat (first | refine zbN ?_ _ | refine zbD ?_ | refine zbA ?_ _)); refine blk_put (cs := #[.int .u8 ((rd_T36 l0 x17_1).f0), .int .i64 0, .int .i64 0, .int .i64 0, .int .i64 0]) ?_ 1 _ rfl; (with_reducible repeat (first | refine zbN ?_ _ | refine zbD ?_ | refine zbA ?_ _)); refine blk_put (cs := #[.int .u8 0, .int .i64 0, .int .i64 0, .int .i64 0, .int .i64 0]) ?_ 0 _ rfl; (with_reducible repeat (first | refine zbN ?_ _ | refine zbD ?_ | refine zbA ?_ _)); exact BK115.out)) : gb115 ≠ gb117)); have n6_ := zM ((by rw [hg]; exact Nat.ne_of_gt (blk_lt (g := gb115) (o := .cells #[.int .u8 ((rd_T36 l0 x17_1).f0), .int .i64 ((rd_T36 l0 x17_1).f1), .int .i64 ((rd_T36 l0 x17_1).f2), .int .i64 ((rd_T36 l0 x17_1).f3), .int .i64 ((rd_T36 l0 x17_1).f4)] 36 (0, 0)) (by (with_reducible repeat (first | refine zbN ?_ _ | refine zbD ?_ | refine zbA ?_ _)); refine blk_put (cs := #[.int .u8 ((rd_T36 l0 x17_1).f0), .int .i64 ((rd_T36 l0 x17_1).f1), .int .i64 ((rd_T36 l0 x17_1).f2), .int .i64 ((rd_T36 l0 x17_1).f3), .int .i64 0]) ?_ 4 _ rfl; (with_reducible repeat (first | refine zbN ?_ _ | refine zbD ?_ | refine zbA ?_ _)); refine blk_put (cs := #[.int .u8 ((rd_T36 l0 x17_1).f0), .int .i64 ((rd_T36 l0 x17_1).f1), .int .i64 ((rd_T36 l0 x17_1).f2), .int .i64 0, .int .i64 0]) ?_ 3 _ rfl; (with_reducible repeat (first | refine zbN ?_ _ | refine zbD ?_ | refine zbA ?_ _)); refine blk_put (cs := #[.int .u8 ((rd_T36 l0 x17_1).f0), .int .i64 ((rd_T36 l0 x17_1).f1), .int .i64 0, .int .i64 0, .int .i64 0]) ?_ 2 _ rfl; (with_reducible repeat (first | refine zbN ?_ _ | refine zbD ?_ | refine zbA ?_ _)); refine blk_put (cs := #[.int .u8 ((rd_T36 l0 x17_1).f0), .int .i64 0, .int .i64 0, .int .i64 0, .int .i64 0]) ?_ 1 _ rfl; (with_reducible repeat (first | refine zbN ?_ _ | refine zbD ?_ | refine zbA ?_ _)); refine blk_put (cs := #[.int .u8 0, .int .i64 0, .int .i64 0, .int .i64 0, .int .i64 0]) ?_ 0 _ rfl; (with_reducible repeat (first | refine zbN ?_ _ | refine zbD ?_ | refine zbA ?_ _)); exact BK115.out)) : gb117 ≠ gb115)); clear BK115; clear HB; have BK115 := n0_; have HB := n1_; have BK117 := n2_; have GW117 := n3_; have GE117 := n4_; have NB115_117 := n5_; have NB117_115 := n6_; clear n0_ n1_ n2_ n3_ n4_ n5_ n6_; clear hb hbox hg; have hnb14 := NB117_115.out; have hnc14 := NB115_117.out; refine node_cells_ BK117.out fun hcz15_0 hcz15_1 hcz15_2 hcz15_3 hcz15_4 hfz15_0 hfz15_1 hfz15_2 hfz15_3 hfz15_4 => ?_; refine node_cells_ BK115.out fun hcz16_0 hcz16_1 hcz16_2 hcz16_3 hcz16_4 hfz16_0 hfz16_1 hfz16_2 hfz16_3 hfz16_4 => ?_) | (go_at_call 53; (with_reducible refine (clauses_Same_1_1.calls ((rd_T36 l0 x17_1).f0) ((rd_T36 l0 x17_1).f1) ((rd_T36 l0 x17_1).f2) ((rd_T36 l0 x17_1).f3) ((rd_T36 l0 x17_1).f4) ((rd_T36 l1 x17_1).f0) ((rd_T36 l1 x17_1).f1) ((rd_T36 l1 x17_1).f2) ((rd_T36 l1 x17_1).f3) ((rd_T36 l1 x17_1).f4) true _ A9.out).mono ?_); rintro e w17 ⟨rfl, hb⟩; have n0_ := zM (zX (g := gb115) (o := .cells #[.int .u8 ((rd_T36 l0 x17_1).f0), .int .i64 ((rd_T36 l0 x17_1).f1), .int .i64 ((rd_T36 l0 x17_1).f2), .int .i64 ((rd_T36 l0 x17_1).f3), .int .i64 ((rd_T36 l0 x17_1).f4)] 36 (0, 0)) (by (with_reducible repeat (first | refine zbN ?_ _ | refine zbD ?_ | refine zbA ?_ _)); refine blk_far ?_ NB115_117.out _; (with_reducible repeat (first | refine zbN ?_ _ | refine zbD ?_ | refine zbA ?_ _)); refine blk_far ?_ NB115_117.out _; (with_reducible repeat (first | refine zbN ?_ _ | refine zbD ?_ | refine zbA ?_ _)); refine blk_far ?_ NB115_117.out _; (with_reducible repeat (first | refine zbN ?_ _ | refine zbD ?_ | refine zbA ?_ _)); refine blk_far ?_ NB115_117.out _; (with_reducible repeat (first | refine zbN ?_ _ | refine zbD ?_ | refine zbA ?_ _)); refine blk_far ?_ NB115_117.out _; (with_reducible repeat (first | refine zbN ?_ _ | refine zbD ?_ | refine zbA ?_ _)); exact BK115.out) hb); have n1_ := zM (zX (g := gb117) (o := .cells #[.int .u8 ((rd_T36 l1 x17_1).f0), .int .i64 ((rd_T36 l1 x17_1).f1), .int .i64 ((rd_T36 l1 x17_1).f2), .int .i64 ((rd_T36 l1 x17_1).f3), .int .i64 ((rd_T36 l1 x17_1).f4)] 36 (0, 0)) (by (with_reducible repeat (first | refine zbN ?_ _ | refine zbD ?_ | refine zbA ?_ _)); refine blk_put (cs := #[.int .u8 ((rd_T36 l1 x17_1).f0), .int .i64 ((rd_T36 l1 x17_1).f1), .int .i64 ((rd_T36 l1 x17_1).f2), .int .i64 ((rd_T36 l1 x17_1).f3), .int .i64 0]) ?_ 4 _ rfl; (with_reducible repeat (first | refine zbN ?_ _ | refine zbD ?_ | refine zbA ?_ _)); refine blk_put (cs := #[.int .u8 ((rd_T36 l1 x17_1).f0), .int .i64 ((rd_T36 l1 x17_1).f1), .int .i64 ((rd_T36 l1 x17_1).f2), .int .i64 0, .int .i64 0]) ?_ 3 _ rfl; (with_reducible repeat (first | refine zbN ?_ _ | refine zbD ?_ | refine zbA ?_ _)); refine blk_put (cs := #[.int .u8 ((rd_T36 l1 x17_1).f0), .int .i64 ((rd_T36 l1 x17_1).f1), .int .i64 0, .int .i64 0, .int .i64 0]) ?_ 2 _ rfl; (with_reducible repeat (first | refine zbN ?_ _ | refine zbD ?_ | refine zbA ?_ _)); refine blk_put (cs := #[.int .u8 ((rd_T36 l1 x17_1).f0), .int .i64 0, .int .i64 0, .int .i64 0, .int .i64 0]) ?_ 1 _ rfl; (with_reducible repeat (first | refine zbN ?_ _ | refine zbD ?_ | refine zbA ?_ _)); refine blk_put (cs := #[.int .u8 0, .int .i64 0, .int .i64 0, .int .i64 0, .int .i64 0]) ?_ 0 _ rfl; (with_reducible repeat (first | refine zbN ?_ _ | refine zbD ?_ | refine zbA ?_ _)); exact BK117.out) hb); have n2_ := zM (zT (by repeat (first | (with_reducible first | exact HB.out | apply zC | apply zP | apply zO | refine zS ?_ GE115.out | refine zS ?_ GE117.out) | exact HB.out)) hb); clear BK115; clear BK117; clear HB; have BK115 := n0_; have BK117 := n1_; have HB := n2_; clear n0_ n1_ n2_; (try clear hb); (try clear hb2); (try clear hk); (try clear hi)))
         go_roundg k1
         case measure => have := HK1.out; omega
         case rel => exact ⟨(wrap64 (x17_1 + 1)), (by first | rfl | (simp; done) | (simp [*]; done)), H', ⟨by have := HK1.out; omega⟩, ⟨by repeat (first | (with_reducible first | exact HB.out | apply zC | apply zP | apply zO | refine zS ?_ GE115.out | refine zS ?_ GE117.out) | exact HB.out)⟩⟩
        ·
         replace c10 := Bool.eq_false_iff.mpr c10
         subst c10
         have H1 : (some false) = some r := by rw [if_neg (show ¬ (false = true) by decide)] at H; exact H
         clear H
         have H := H1
         clear H1
         obtain rfl := Option.some.inj H
         have p114 : 0 ≤ (x17_1 : Int) := of_decide_eq_true (by first | (with_reducible assumption) | assumption)
         have q114 : x17_1 < (l0.length : Int) := of_decide_eq_true (by first | (with_reducible assumption) | assumption)
         obtain ⟨ad114, e114, hx114_0, hx114_1, hx114_2, hx114_3, hx114_4⟩ := at_T36 HR0.out x17_1 p114 q114
         cases e114
         replace hx114_0 := (HB.out.cell (World.block_lt_of_cell? w _ hx114_0)).trans hx114_0
         replace hx114_1 := (HB.out.cell (World.block_lt_of_cell? w _ hx114_1)).trans hx114_1
         replace hx114_2 := (HB.out.cell (World.block_lt_of_cell? w _ hx114_2)).trans hx114_2
         replace hx114_3 := (HB.out.cell (World.block_lt_of_cell? w _ hx114_3)).trans hx114_3
         replace hx114_4 := (HB.out.cell (World.block_lt_of_cell? w _ hx114_4)).trans hx114_4
         replace p114 := eq_true p114
         replace q114 := eq_true q114
         go_wp2_with (first | ((with_reducible refine gate_dst (N := 8) rfl ?_); refine box_event ?hg (N := 8) ?hd (cs := #[.int .u8 0, .int .i64 0, .int .i64 0, .int .i64 0, .int .i64 0]) (t := 36) ?hr ?_; (case hd => rfl); (case hg => rfl); (case hr => first | (go_simp; done) | (go_simp; rfl)); intro gb115 hg w18 hbox hb; have n0_ := zM (zT (by repeat (first | (with_reducible first | exact HB.out | apply zC | apply zP | apply zO) | exact HB.out)) hb); have n1_ := zM (hbox); have n2_ := zM ((by rw [hg]; exact (zZ (by repeat (first | (with_reducible first | exact HB.out | apply zC | apply zP | apply zO) | exact HB.out))) : w.heap.size ≤ gb115)); have n3_ := zM ((by rw [hg]; exact (zZ (by repeat (first | (with_reducible first | exact HB.out | apply zC | apply zP | apply zO) | exact HB.out))) : w.heap.size ≤ gb115)); clear HB; have HB := n0_; have BK115 := n1_; have GW115 := n2_; have GE115 := n3_; clear n0_ n1_ n2_ n3_; clear hb hbox hg; refine node_cells_ BK115.out fun hcz19_0 hcz19_1 hcz19_2 hcz19_3 hcz19_4 hfz19_0 hfz19_1 hfz19_2 hfz19_3 hfz19_4 => ?_; have p116 : 0 ≤ (x17_1 : Int) := of_decide_eq_true (by first | (with_reducible assumption) | assumption); have q116 : x17_1 < (l1.length : Int) := of_decide_eq_true (by first | (with_reducible assumption) | assumption); obtain ⟨ad116, e116, hx116_0, hx116_1, hx116_2, hx116_3, hx116_4⟩ := at_T36 HR1.out x17_1 p116 q116; cases e116; have hn116_0 : ad116.block ≠ gb115 := Nat.ne_of_lt (Nat.lt_of_lt_of_le (by have := World.block_lt_of_cell? _ _ hx116_0; first | rwa [add_block] at this | exact this) GW115.out); have hn116_1 : ad116.block ≠ gb115 := Nat.ne_of_lt (Nat.lt_of_lt_of_le (by have := World.block_lt_of_cell? _ _ hx116_0; first | rwa [add_block] at this | exact this) GW115.out); have hn116_2 : ad116.block ≠ gb115 := Nat.ne_of_lt (Nat.lt_of_lt_of_le (by have := World.block_lt_of_cell? _ _ hx116_0; first | rwa [add_block] at this | exact this) GW115.out); have hn116_3 : ad116.block ≠ gb115 := Nat.ne_of_lt (Nat.lt_of_lt_of_le (by have := World.block_lt_of_cell? _ _ hx116_0; first | rwa [add_block] at this | exact this) GW115.out); have hn116_4 : ad116.block ≠ gb115 := Nat.ne_of_lt (Nat.lt_of_lt_of_le (by have := World.block_lt_of_cell? _ _ hx116_0; first | rwa [add_block] at this | exact this) GW115.out); replace hx116_0 := (HB.out.cell (World.block_lt_of_cell? w _ hx116_0)).trans hx116_0; replace hx116_1 := (HB.out.cell (World.block_lt_of_cell? w _ hx116_1)).trans hx116_1; replace hx116_2 := (HB.out.cell (World.block_lt_of_cell? w _ hx116_2)).trans hx116_2; replace hx116_3 := (HB.out.cell (World.block_lt_of_cell? w _ hx116_3)).trans hx116_3; replace hx116_4 := (HB.out.cell (World.block_lt_of_cell? w _ hx116_4)).trans hx116_4; replace hx116_0 := (cell_far (p := ⟨gb115, 0, none⟩) (by first | (rw [add_block]; exact hn116_0) | (show (Addr.add _ _).block ≠ _; rw [add_block]; exact hn116_0) | exact hn116_0) (.int .u8 ((rd_T36 l0 x17_1).f0))).trans hx116_0; replace hx116_1 := (cell_far (p := ⟨gb115, 0, none⟩) (by first | (rw [add_block]; exact hn116_0) | (show (Addr.add _ _).block ≠ _; rw [add_block]; exact hn116_0) | exact hn116_0) (.int .u8 ((rd_T36 l0 x17_1).f0))).trans hx116_1; replace hx116_2 := (cell_far (p := ⟨gb115, 0, none⟩) (by first | (rw [add_block]; exact hn116_0) | (show (Addr.add _ _).block ≠ _; rw [add_block]; exact hn116_0) | exact hn116_0) (.int .u8 ((rd_T36 l0 x17_1).f0))).trans hx116_2; replace hx116_3 := (cell_far (p := ⟨gb115, 0, none⟩) (by first | (rw [add_block]; exact hn116_0) | (show (Addr.add _ _).block ≠ _; rw [add_block]; exact hn116_0) | exact hn116_0) (.int .u8 ((rd_T36 l0 x17_1).f0))).trans hx116_3; replace hx116_4 := (cell_far (p := ⟨gb115, 0, none⟩) (by first | (rw [add_block]; exact hn116_0) | (show (Addr.add _ _).block ≠ _; rw [add_block]; exact hn116_0) | exact hn116_0) (.int .u8 ((rd_T36 l0 x17_1).f0))).trans hx116_4; replace hx116_0 := (cell_far (p := ⟨gb115, 1, none⟩) (by first | (rw [add_block]; exact hn116_1) | (show (Addr.add _ _).block ≠ _; rw [add_block]; exact hn116_1) | exact hn116_1) (.int .i64 ((rd_T36 l0 x17_1).f1))).trans hx116_0; replace hx116_1 := (cell_far (p := ⟨gb115, 1, none⟩) (by first | (rw [add_block]; exact hn116_1) | (show (Addr.add _ _).block ≠ _; rw [add_block]; exact hn116_1) | exact hn116_1) (.int .i64 ((rd_T36 l0 x17_1).f1))).trans hx116_1; replace hx116_2 := (cell_far (p := ⟨gb115, 1, none⟩) (by first | (rw [add_block]; exact hn116_1) | (show (Addr.add _ _).block ≠ _; rw [add_block]; exact hn116_1) | exact hn116_1) (.int .i64 ((rd_T36 l0 x17_1).f1))).trans hx116_2; replace hx116_3 := (cell_far (p := ⟨gb115, 1, none⟩) (by first | (rw [add_block]; exact hn116_1) | (show (Addr.add _ _).block ≠ _; rw [add_block]; exact hn116_1) | exact hn116_1) (.int .i64 ((rd_T36 l0 x17_1).f1))).trans hx116_3; replace hx116_4 := (cell_far (p := ⟨gb115, 1, none⟩) (by first | (rw [add_block]; exact hn116_1) | (show (Addr.add _ _).block ≠ _; rw [add_block]; exact hn116_1) | exact hn116_1) (.int .i64 ((rd_T36 l0 x17_1).f1))).trans hx116_4; replace hx116_0 := (cell_far (p := ⟨gb115, 2, none⟩) (by first | (rw [add_block]; exact hn116_2) | (show (Addr.add _ _).block ≠ _; rw [add_block]; exact hn116_2) | exact hn116_2) (.int .i64 ((rd_T36 l0 x17_1).f2))).trans hx116_0; replace hx116_1 := (cell_far (p := ⟨gb115, 2, none⟩) (by first | (rw [add_block]; exact hn116_2) | (show (Addr.add _ _).block ≠ _; rw [add_block]; exact hn116_2) | exact hn116_2) (.int .i64 ((rd_T36 l0 x17_1).f2))).trans hx116_1; replace hx116_2 := (cell_far (p := ⟨gb115, 2, none⟩) (by first | (rw [add_block]; exact hn116_2) | (show (Addr.add _ _).block ≠ _; rw [add_block]; exact hn116_2) | exact hn116_2) (.int .i64 ((rd_T36 l0 x17_1).f2))).trans hx116_2; replace hx116_3 := (cell_far (p := ⟨gb115, 2, none⟩) (by first | (rw [add_block]; exact hn116_2) | (show (Addr.add _ _).block ≠ _; rw [add_block]; exact hn116_2) | exact hn116_2) (.int .i64 ((rd_T36 l0 x17_1).f2))).trans hx116_3; replace hx116_4 := (cell_far (p := ⟨gb115, 2, none⟩) (by first | (rw [add_block]; exact hn116_2) | (show (Addr.add _ _).block ≠ _; rw [add_block]; exact hn116_2) | exact hn116_2) (.int .i64 ((rd_T36 l0 x17_1).f2))).trans hx116_4; replace hx116_0 := (cell_far (p := ⟨gb115, 3, none⟩) (by first | (rw [add_block]; exact hn116_3) | (show (Addr.add _ _).block ≠ _; rw [add_block]; exact hn116_3) | exact hn116_3) (.int .i64 ((rd_T36 l0 x17_1).f3))).trans hx116_0; replace hx116_1 := (cell_far (p := ⟨gb115, 3, none⟩) (by first | (rw [add_block]; exact hn116_3) | (show (Addr.add _ _).block ≠ _; rw [add_block]; exact hn116_3) | exact hn116_3) (.int .i64 ((rd_T36 l0 x17_1).f3))).trans hx116_1; replace hx116_2 := (cell_far (p := ⟨gb115, 3, none⟩) (by first | (rw [add_block]; exact hn116_3) | (show (Addr.add _ _).block ≠ _; rw [add_block]; exact hn116_3) | exact hn116_3) (.int .i64 ((rd_T36 l0 x17_1).f3))).trans hx116_2; replace hx116_3 := (cell_far (p := ⟨gb115, 3, none⟩) (by first | (rw [add_block]; exact hn116_3) | (show (Addr.add _ _).block ≠ _; rw [add_block]; exact hn116_3) | exact hn116_3) (.int .i64 ((rd_T36 l0 x17_1).f3))).trans hx116_3; replace hx116_4 := (cell_far (p := ⟨gb115, 3, none⟩) (by first | (rw [add_block]; exact hn116_3) | (show (Addr.add _ _).block ≠ _; rw [add_block]; exact hn116_3) | exact hn116_3) (.int .i64 ((rd_T36 l0 x17_1).f3))).trans hx116_4; replace hx116_0 := (cell_far (p := ⟨gb115, 4, none⟩) (by first | (rw [add_block]; exact hn116_4) | (show (Addr.add _ _).block ≠ _; rw [add_block]; exact hn116_4) | exact hn116_4) (.int .i64 ((rd_T36 l0 x17_1).f4))).trans hx116_0; replace hx116_1 := (cell_far (p := ⟨gb115, 4, none⟩) (by first | (rw [add_block]; exact hn116_4) | (show (Addr.add _ _).block ≠ _; rw [add_block]; exact hn116_4) | exact hn116_4) (.int .i64 ((rd_T36 l0 x17_1).f4))).trans hx116_1; replace hx116_2 := (cell_far (p := ⟨gb115, 4, none⟩) (by first | (rw [add_block]; exact hn116_4) | (show (Addr.add _ _).block ≠ _; rw [add_block]; exact hn116_4) | exact hn116_4) (.int .i64 ((rd_T36 l0 x17_1).f4))).trans hx116_2; replace hx116_3 := (cell_far (p := ⟨gb115, 4, none⟩) (by first | (rw [add_block]; exact hn116_4) | (show (Addr.add _ _).block ≠ _; rw [add_block]; exact hn116_4) | exact hn116_4) (.int .i64 ((rd_T36 l0 x17_1).f4))).trans hx116_3; replace hx116_4 := (cell_far (p := ⟨gb115, 4, none⟩) (by first | (rw [add_block]; exact hn116_4) | (show (Addr.add _ _).block ≠ _; rw [add_block]; exact hn116_4) | exact hn116_4) (.int .i64 ((rd_T36 l0 x17_1).f4))).trans hx116_4; clear hn116_0; clear hn116_1; clear hn116_2; clear hn116_3; clear hn116_4; replace p116 := eq_true p116; replace q116 := eq_true q116) | ((with_reducible refine gate_dst (N := 9) rfl ?_); refine box_event ?hg (N := 9) ?hd (cs := #[.int .u8 0, .int .i64 0, .int .i64 0, .int .i64 0, .int .i64 0]) (t := 36) ?hr ?_; (case hd => rfl); (case hg => rfl); (case hr => first | (go_simp; done) | (go_simp; rfl)); intro gb117 hg w20 hbox hb; have n0_ := zM (zX (g := gb115) (o := .cells #[.int .u8 ((rd_T36 l0 x17_1).f0), .int .i64 ((rd_T36 l0 x17_1).f1), .int .i64 ((rd_T36 l0 x17_1).f2), .int .i64 ((rd_T36 l0 x17_1).f3), .int .i64 ((rd_T36 l0 x17_1).f4)] 36 (0, 0)) (by (with_reducible repeat (first | refine zbN ?_ _ | refine zbD ?_ | refine zbA ?_ _)); refine blk_put (cs := #[.int .u8 ((rd_T36 l0 x17_1).f0), .int .i64 ((rd_T36 l0 x17_1).f1), .int .i64 ((rd_T36 l0 x17_1).f2), .int .i64 ((rd_T36 l0 x17_1).f3), .int .i64 0]) ?_ 4 _ rfl; (with_reducible repeat (first | refine zbN ?_ _ | refine zbD ?_ | refine zbA ?_ _)); refine blk_put (cs := #[.int .u8 ((rd_T36 l0 x17_1).f0), .int .i64 ((rd_T36 l0 x17_1).f1), .int .i64 ((rd_T36 l0 x17_1).f2), .int .i64 0, .int .i64 0]) ?_ 3 _ rfl; (with_reducible repeat (first | refine zbN ?_ _ | refine zbD ?_ | refine zbA ?_ _)); refine blk_put (cs := #[.int .u8 ((rd_T36 l0 x17_1).f0), .int .i64 ((rd_T36 l0 x17_1).f1), .int .i64 0, .int .i64 0, .int .i64 0]) ?_ 2 _ rfl; (with_reducible repeat (first | refine zbN ?_ _ | refine zbD ?_ | refine zbA ?_ _)); refine blk_put (cs := #[.int .u8 ((rd_T36 l0 x17_1).f0), .int .i64 0, .int .i64 0, .int .i64 0, .int .i64 0]) ?_ 1 _ rfl; (with_reducible repeat (first | refine zbN ?_ _ | refine zbD ?_ | refine zbA ?_ _)); refine blk_put (cs := #[.int .u8 0, .int .i64 0, .int .i64 0, .int .i64 0, .int .i64 0]) ?_ 0 _ rfl; (with_reducible repeat (first | refine zbN ?_ _ | refine zbD ?_ | refine zbA ?_ _)); exact BK115.out) hb); have n1_ := zM (zT (by repeat (first | (with_reducible first | exact HB.out | apply zC | apply zP | apply zO | refine zS ?_ GE115.out) | exact HB.out)) hb); have n2_ := zM (hbox); have n3_ := zM ((by rw [hg]; exact (zZ (by repeat (first | (with_reducible first | exact HB.out | apply zC | apply zP | apply zO | refine zS ?_ GE115.out) | exact HB.out))) : w.heap.size ≤ gb117)); have n4_ := zM ((by rw [hg]; exact (zZ (by repeat (first | (with_reducible first | exact HB.out | apply zC | apply zP | apply zO | refine zS ?_ GE115.out) | exact HB.out))) : w.heap.size ≤ gb117)); have n5_ := zM ((by rw [hg]; exact Nat.ne_of_lt (blk_lt (g := gb115) (o := .cells #[.int .u8 ((rd_T36 l0 x17_1).f0), .int .i64 ((rd_T36 l0 x17_1).f1), .int .i64 ((rd_T36 l0 x17_1).f2), .int .i64 ((rd_T36 l0 x17_1).f3), .int .i64 ((rd_T36 l0 x17_1).f4)] 36 (0, 0)) (by (with_reducible repeat (first | refine zbN ?_ _ | refine zbD ?_ | refine zbA ?_ _)); refine blk_put (cs := #[.int .u8 ((rd_T36 l0 x17_1).f0), .int .i64 ((rd_T36 l0 x17_1).f1), .int .i64 ((rd_T36 l0 x17_1).f2), .int .i64 ((rd_T36 l0 x17_1).f3), .int .i64 0]) ?_ 4 _ rfl; (with_reducible repeat (first | refine zbN ?_ _ | refine zbD ?_ | refine zbA ?_ _)); refine blk_put (cs := #[.int .u8 ((rd_T36 l0 x17_1).f0), .int .i64 ((rd_T36 l0 x17_1).f1), .int .i64 ((rd_T36 l0 x17_1).f2), .int .i64 0, .int .i64 0]) ?_ 3 _ rfl; (with_reducible repeat (first | refine zbN ?_ _ | refine zbD ?_ | refine zbA ?_ _)); refine blk_put (cs := #[.int .u8 ((rd_T36 l0 x17_1).f0), .int .i64 ((rd_T36 l0 x17_1).f1), .int .i64 0, .int .i64 0, .int .i64 0]) ?_ 2 _ rfl; (with_reducible repeat (first | refine zbN ?_ _ | refine zbD ?_ | refine zbA ?_ _)); refine blk_put (cs := #[.int .u8 ((rd_T36 l0 x17_1).f0), .int .i64 0, .int .i64 0, .int .i64 0, .int .i64 0]) ?_ 1 _ rfl; (with_reducible repeat (first | refine zbN ?_ _ | refine zbD ?_ | refine zbA ?_ _)); refine blk_put (cs := #[.int .u8 0, .int .i64 0, .int .i64 0, .int .i64 0, .int .i64 0]) ?_ 0 _ rfl; (with_reducible repeat (first | refine zbN ?_ _ | refine zbD ?_ | refine zbA ?_ _)); exact BK115.out)) : gb115 ≠ gb117)); have n6_ := zM ((by rw [hg]; exact Nat.ne_of_gt (blk_lt (g := gb115) (o := .cells #[.int .u8 ((rd_T36 l0 x17_1).f0), .int .i64 ((rd_T36 l0 x17_1).f1), .int .i64 ((rd_T36 l0 x17_1).f2), .int .i64 ((rd_T36 l0 x17_1).f3), .int .i64 ((rd_T36 l0 x17_1).f4)] 36 (0, 0)) (by (with_reducible repeat (first | refine zbN ?_ _ | refine zbD ?_ | refine zbA ?_ _)); refine blk_put (cs := #[.int .u8 ((rd_T36 l0 x17_1).f0), .int .i64 ((rd_T36 l0 x17_1).f1), .int .i64 ((rd_T36 l0 x17_1).f2), .int .i64 ((rd_T36 l0 x17_1).f3), .int .i64 0]) ?_ 4 _ rfl; (with_reducible repeat (first | refine zbN ?_ _ | refine zbD ?_ | refine zbA ?_ _)); refine blk_put (cs := #[.int .u8 ((rd_T36 l0 x17_1).f0), .int .i64 ((rd_T36 l0 x17_1).f1), .int .i64 ((rd_T36 l0 x17_1).f2), .int .i64 0, .int .i64 0]) ?_ 3 _ rfl; (with_reducible repeat (first | refine zbN ?_ _ | refine zbD ?_ | refine zbA ?_ _)); refine blk_put (cs := #[.int .u8 ((rd_T36 l0 x17_1).f0), .int .i64 ((rd_T36 l0 x17_1).f1), .int .i64 0, .int .i64 0, .int .i64 0]) ?_ 2 _ rfl; (with_reducible repeat (first | refine zbN ?_ _ | refine zbD ?_ | refine zbA ?_ _)); refine blk_put (cs := #[.int .u8 ((rd_T36 l0 x17_1).f0), .int .i64 0, .int .i64 0, .int .i64 0, .int .i64 0]) ?_ 1 _ rfl; (with_reducible repeat (first | refine zbN ?_ _ | refine zbD ?_ | refine zbA ?_ _)); refine blk_put (cs := #[.int .u8 0, .int .i64 0, .int .i64 0, .int .i64 0, .int .i64 0]) ?_ 0 _ rfl; (with_reducible repeat (first | refine zbN ?_ _ | refine zbD ?_ | refine zbA ?_ _)); exact BK115.out)) : gb117 ≠ gb115)); clear BK115; clear HB; have BK115 := n0_; have HB := n1_; have BK117 := n2_; have GW117 := n3_; have GE117 := n4_; have NB115_117 := n5_; have NB117_115 := n6_; clear n0_ n1_ n2_ n3_ n4_ n5_ n6_; clear hb hbox hg; have hnb21 := NB117_115.out; have hnc21 := NB115_117.out; refine node_cells_ BK117.out fun hcz22_0 hcz22_1 hcz22_2 hcz22_3 hcz22_4 hfz22_0 hfz22_1 hfz22_2 hfz22_3 hfz22_4 => ?_; refine node_cells_ BK115.out fun hcz23_0 hcz23_1 hcz23_2 hcz23_3 hcz23_4 hfz23_0 hfz23_1 hfz23_2 hfz23_3 hfz23_4 => ?_) | (go_at_call 53; (with_reducible refine (clauses_Same_1_1.calls ((rd_T36 l0 x17_1).f0) ((rd_T36 l0 x17_1).f1) ((rd_T36 l0 x17_1).f2) ((rd_T36 l0 x17_1).f3) ((rd_T36 l0 x17_1).f4) ((rd_T36 l1 x17_1).f0) ((rd_T36 l1 x17_1).f1) ((rd_T36 l1 x17_1).f2) ((rd_T36 l1 x17_1).f3) ((rd_T36 l1 x17_1).f4) false _ A9.out).mono ?_); rintro e w24 ⟨rfl, hb⟩; have n0_ := zM (zX (g := gb115) (o := .cells #[.int .u8 ((rd_T36 l0 x17_1).f0), .int .i64 ((rd_T36 l0 x17_1).f1), .int .i64 ((rd_T36 l0 x17_1).f2), .int .i64 ((rd_T36 l0 x17_1).f3), .int .i64 ((rd_T36 l0 x17_1).f4)] 36 (0, 0)) (by (with_reducible repeat (first | refine zbN ?_ _ | refine zbD ?_ | refine zbA ?_ _)); refine blk_far ?_ NB115_117.out _; (with_reducible repeat (first | refine zbN ?_ _ | refine zbD ?_ | refine zbA ?_ _)); refine blk_far ?_ NB115_117.out _; (with_reducible repeat (first | refine zbN ?_ _ | refine zbD ?_ | refine zbA ?_ _)); refine blk_far ?_ NB115_117.out _; (with_reducible repeat (first | refine zbN ?_ _ | refine zbD ?_ | refine zbA ?_ _)); refine blk_far ?_ NB115_117.out _; (with_reducible repeat (first | refine zbN ?_ _ | refine zbD ?_ | refine zbA ?_ _)); refine blk_far ?_ NB115_117.out _; (with_reducible repeat (first | refine zbN ?_ _ | refine zbD ?_ | refine zbA ?_ _)); exact BK115.out) hb); have n1_ := zM (zX (g := gb117) (o := .cells #[.int .u8 ((rd_T36 l1 x17_1).f0), .int .i64 ((rd_T36 l1 x17_1).f1), .int .i64 ((rd_T36 l1 x17_1).f2), .int .i64 ((rd_T36 l1 x17_1).f3), .int .i64 ((rd_T36 l1 x17_1).f4)] 36 (0, 0)) (by (with_reducible repeat (first | refine zbN ?_ _ | refine zbD ?_ | refine zbA ?_ _)); refine blk_put (cs := #[.int .u8 ((rd_T36 l1 x17_1).f0), .int .i64 ((rd_T36 l1 x17_1).f1), .int .i64 ((rd_T36 l1 x17_1).f2), .int .i64 ((rd_T36 l1 x17_1).f3), .int .i64 0]) ?_ 4 _ rfl; (with_reducible repeat (first | refine zbN ?_ _ | refine zbD ?_ | refine zbA ?_ _)); refine blk_put (cs := #[.int .u8 ((rd_T36 l1 x17_1).f0), .int .i64 ((rd_T36 l1 x17_1).f1), .int .i64 ((rd_T36 l1 x17_1).f2), .int .i64 0, .int .i64 0]) ?_ 3 _ rfl; (with_reducible repeat (first | refine zbN ?_ _ | refine zbD ?_ | refine zbA ?_ _)); refine blk_put (cs := #[.int .u8 ((rd_T36 l1 x17_1).f0), .int .i64 ((rd_T36 l1 x17_1).f1), .int .i64 0, .int .i64 0, .int .i64 0]) ?_ 2 _ rfl; (with_reducible repeat (first | refine zbN ?_ _ | refine zbD ?_ | refine zbA ?_ _)); refine blk_put (cs := #[.int .u8 ((rd_T36 l1 x17_1).f0), .int .i64 0, .int .i64 0, .int .i64 0, .int .i64 0]) ?_ 1 _ rfl; (with_reducible repeat (first | refine zbN ?_ _ | refine zbD ?_ | refine zbA ?_ _)); refine blk_put (cs := #[.int .u8 0, .int .i64 0, .int .i64 0, .int .i64 0, .int .i64 0]) ?_ 0 _ rfl; (with_reducible repeat (first | refine zbN ?_ _ | refine zbD ?_ | refine zbA ?_ _)); exact BK117.out) hb); have n2_ := zM (zT (by repeat (first | (with_reducible first | exact HB.out | apply zC | apply zP | apply zO | refine zS ?_ GE115.out | refine zS ?_ GE117.out) | exact HB.out)) hb); clear BK115; clear BK117; clear HB; have BK115 := n0_; have BK117 := n1_; have HB := n2_; clear n0_ n1_ n2_; (try clear hb); (try clear hb2); (try clear hk); (try clear hi)))
         go_ret
         exact ⟨by first | rfl | (simp [errW_none, errW_some] <;> rfl) | (simp [*, errW_none, errW_some] <;> rfl), by repeat (first | (with_reducible first | exact HB.out | apply zC | apply zP | apply zO | refine zS ?_ GE115.out | refine zS ?_ GE117.out) | exact HB.out)⟩
       ·
        rw [if_neg c8] at H
        exact absurd H (by simp)
      ·
       rw [if_neg c7] at H
       exact absurd H (by simp)
     ·
      rw [if_neg c6] at H
      exact absurd H (by simp)
    ·
     rw [if_neg c5] at H
     have c5b0 : decide (x17_1 < (l0.length : Int)) = false := decide_eq_false c5
     clear c5
     obtain rfl := Option.some.inj H
     go_wp2
     go_ret
     exact ⟨by first | rfl | (simp [errW_none, errW_some] <;> rfl) | (simp [*, errW_none, errW_some] <;> rfl), by repeat (first | (with_reducible first | exact HB.out | apply zC | apply zP | apply zO) | exact HB.out)⟩
 ·
  rw [if_neg c4] at H
  have c4b0 : ((l0.length : Int) == (l1.length : Int)) = false := beq_eq_false_iff_ne.mpr c4
  have c4b1 : ((l0.length : Int) != (l1.length : Int)) = true := bne_iff_ne.mpr c4
  have c4b2 : (l0.length == l1.length) = false := by first | simpa using c4 | (simp at c4 ⊢; omega)
  obtain rfl := Option.some.inj H
  go_enter Try.func52, Try.ntmps52
  go_wp2
  go_ret
  exact ⟨by first | rfl | (simp [errW_none, errW_some] <;> rfl) | (simp [*, errW_none, errW_some] <;> rfl), by repeat (first | (with_reducible first | exact HB.out | apply zC | apply zP | apply zO) | exact HB.out)⟩
end
def clauses_Same_1.f (k : Nat) (l0 : List (S36)) (l1 : List (S36)) : Option (Bool) := (eqfB.f k l0 l1 0).bind fun t122 => (some t122)
theorem clauses_Same_1.mono : ∀ a0 a1 k, LeO (clauses_Same_1.f k a0 a1) (clauses_Same_1.f (k + 1) a0 a1) := by
 intro a0 a1 k
 unfold clauses_Same_1.f
 repeat' first
   | (with_reducible exact eqfB.mono _ _ _ _)
   | (with_reducible exact LeO.refl _)
   | (with_reducible exact LeO.none _)
   | (with_reducible refine LeO.ite ?_ ?_)
   | (with_reducible refine LeO.bind ?_ (fun _ => ?_))
   | exact eqfB.mono _ _ _ _
   | exact LeO.none _
   | refine LeO.ite ?_ ?_
   | refine LeO.bind ?_ (fun _ => ?_)
set_option maxHeartbeats 8000000 in
set_option maxRecDepth 100000 in
theorem clauses_Same_1.calls (k : Nat) (A0 : Option Addr) (c0 : Nat) (l0 : List (S36)) (A1 : Option Addr) (c1 : Nat) (l1 : List (S36)) (r : Bool) (w : World) (hr0 : Kd.C k36 w A0 l0.length l0) (hc0 : l0.length ≤ c0) (hr1 : Kd.C k36 w A1 l1.length l1) (hc1 : l1.length ≤ c1) (h : clauses_Same_1.f k l0 l1 = some r) :
  Calls Try.prog 51 #[.slice A0 l0.length c0, .slice A1 l1.length c1] w fun e w' => e = .returned (.bool r) ∧ Below w.heap.size w w' := by
 have HR0 := zM hr0
 have HC0 := zM hc0
 clear hr0 hc0
 have HR1 := zM hr1
 have HC1 := zM hc1
 clear hr1 hc1
 have HB := zM (Below.refl w.heap.size w)
 have H : ((eqfB.f k l0 l1 0).bind fun t122 => (some t122)) = some r := h
 clear h
 replace H := Option.bind_eq_some_iff.mp H
 obtain ⟨t122, A30, H⟩ := H
 replace H : (some t122) = some r := H
 have A3 := zM A30
 clear A30
 obtain rfl := Option.some.inj H
 go_enter Try.func51, Try.ntmps51
 go_wp2_with (first | ((with_reducible refine gate_callee (f := 52) rfl ?_); refine goesL_ (some 7) rfl rfl Try.func52 (by kernel_rfl) rfl #[.slice A0 l0.length c0, .slice A1 l1.length c1, .func (.func 53) #[] #[]] rfl (by (try simp only [List.map_toArray, List.map_cons, List.map_nil]); first | done | rfl | (simp only [List.length_drop, List.length_take]; rfl)) ?_; (with_reducible refine (eqfB.calls k _ _ l0 _ _ l1 0 t122 _ ?side1 ?side2 ?side3 ?side4 A3.out).mono ?_); (case side1 => repeat (first | exact HR0.out | (with_reducible refine zCA ?_ _) | (with_reducible refine zCN ?_ _) | (with_reducible refine zCD ?_))); (case side2 => exact HC0.out); (case side3 => repeat (first | exact HR1.out | (with_reducible refine zCA ?_ _) | (with_reducible refine zCN ?_ _) | (with_reducible refine zCD ?_))); (case side4 => exact HC1.out); rintro e w4 ⟨rfl, hb⟩; refine ⟨_, rfl, ?_⟩; have n0_ := zM (zT (by repeat (first | (with_reducible first | exact HB.out | apply zC | apply zP | apply zO) | exact HB.out)) hb); clear HB; have HB := n0_; clear n0_; (try clear hb); (try clear hb2); (try clear hk); (try clear hi)))
 go_ret
 exact ⟨by first | rfl | (simp [errW_none, errW_some] <;> rfl) | (simp [*, errW_none, errW_some] <;> rfl), by repeat (first | (with_reducible first | exact HB.out | apply zC | apply zP | apply zO) | exact HB.out)⟩
section
attribute [local go_sem high] eqA25
def clauses_Same.f (k : Nat) (a0_0 : Int) (l0_1 : List (S36)) (l0_2 : List Int) (a0_3 : Bool) (l0_4 : List (S36)) (a0_5 : Int) (a0_6 : Int) (a0_7 : Int) (a0_8 : Bool) (a0_9 : Int) (a1_0 : Int) (l1_1 : List (S36)) (l1_2 : List Int) (a1_3 : Bool) (l1_4 : List (S36)) (a1_5 : Int) (a1_6 : Int) (a1_7 : Int) (a1_8 : Bool) (a1_9 : Int) : Option (Bool × Int) := (clauses_Check.f k a0_0 l0_1 l0_2 a0_3 l0_4 a0_5 a0_6 a0_7 a0_8 a0_9).bind fun t134 => (if t134 = 0 then ((clauses_Check.f k a1_0 l1_1 l1_2 a1_3 l1_4 a1_5 a1_6 a1_7 a1_8 a1_9).bind fun t135 => (if t135 = 0 then (if a0_0 = a1_0 then (if (a0_3 == a1_3) = true then (if (a0_5 == a1_5 && (a0_6 == a1_6 && (a0_7 == a1_7))) = true then (if (a0_8 == a1_8) = true then (if a0_9 = a1_9 then ((slices_Equal_int_int.f k l0_2 l1_2).bind fun t136 => (if t136 = true then ((clauses_Same_1.f k l0_1 l1_1).bind fun t137 => (if t137 = true then ((clauses_Same_1.f k l0_4 l1_4).bind fun t138 => (some (t138, 0))) else (some (false, 0)))) else (some (false, 0)))) else (some (false, 0))) else (some (false, 0))) else (some (false, 0))) else (some (false, 0))) else (some (false, 0))) else (some (false, t135)))) else (some (false, t134)))
theorem clauses_Same.mono : ∀ a0 a1 a2 a3 a4 a5 a6 a7 a8 a9 a10 a11 a12 a13 a14 a15 a16 a17 a18 a19 k, LeO (clauses_Same.f k a0 a1 a2 a3 a4 a5 a6 a7 a8 a9 a10 a11 a12 a13 a14 a15 a16 a17 a18 a19) (clauses_Same.f (k + 1) a0 a1 a2 a3 a4 a5 a6 a7 a8 a9 a10 a11 a12 a13 a14 a15 a16 a17 a18 a19) := by
 intro a0 a1 a2 a3 a4 a5 a6 a7 a8 a9 a10 a11 a12 a13 a14 a15 a16 a17 a18 a19 k
 unfold clauses_Same.f
 repeat' first
   | (with_reducible exact clauses_Check.mono _ _ _ _ _ _ _ _ _ _ _)
   | (with_reducible exact clauses_Same_1.mono _ _ _)
   | (with_reducible exact slices_Equal_int_int.mono _ _ _)
   | (with_reducible exact LeO.refl _)
   | (with_reducible exact LeO.none _)
   | (with_reducible refine LeO.ite ?_ ?_)
   | (with_reducible refine LeO.bind ?_ (fun _ => ?_))
   | exact clauses_Check.mono _ _ _ _ _ _ _ _ _ _ _
   | exact clauses_Same_1.mono _ _ _
   | exact slices_Equal_int_int.mono _ _ _
   | exact LeO.none _
   | refine LeO.ite ?_ ?_
   | refine LeO.bind ?_ (fun _ => ?_)
set_option maxHeartbeats 8000000 in
set_option maxRecDepth 100000 in
theorem clauses_Same.calls (k : Nat) (a0_0 : Int) (A0_1 : Option Addr) (c0_1 : Nat) (l0_1 : List (S36)) (A0_2 : Option Addr) (c0_2 : Nat) (l0_2 : List Int) (a0_3 : Bool) (A0_4 : Option Addr) (c0_4 : Nat) (l0_4 : List (S36)) (a0_5 : Int) (a0_6 : Int) (a0_7 : Int) (a0_8 : Bool) (a0_9 : Int) (a1_0 : Int) (A1_1 : Option Addr) (c1_1 : Nat) (l1_1 : List (S36)) (A1_2 : Option Addr) (c1_2 : Nat) (l1_2 : List Int) (a1_3 : Bool) (A1_4 : Option Addr) (c1_4 : Nat) (l1_4 : List (S36)) (a1_5 : Int) (a1_6 : Int) (a1_7 : Int) (a1_8 : Bool) (a1_9 : Int) (r1 : Bool) (r2 : Int) (w : World) (hr0_1 : Kd.C k36 w A0_1 l0_1.length l0_1) (hc0_1 : l0_1.length ≤ c0_1) (hr0_2 : Kd.C (Kd.int .i64) w A0_2 l0_2.length l0_2) (hc0_2 : l0_2.length ≤ c0_2) (hr0_4 : Kd.C k36 w A0_4 l0_4.length l0_4) (hc0_4 : l0_4.length ≤ c0_4) (hr1_1 : Kd.C k36 w A1_1 l1_1.length l1_1) (hc1_1 : l1_1.length ≤ c1_1) (hr1_2 : Kd.C (Kd.int .i64) w A1_2 l1_2.length l1_2) (hc1_2 : l1_2.length ≤ c1_2) (hr1_4 : Kd.C k36 w A1_4 l1_4.length l1_4) (hc1_4 : l1_4.length ≤ c1_4) (h : clauses_Same.f k a0_0 l0_1 l0_2 a0_3 l0_4 a0_5 a0_6 a0_7 a0_8 a0_9 a1_0 l1_1 l1_2 a1_3 l1_4 a1_5 a1_6 a1_7 a1_8 a1_9 = some (r1, r2)) :
  Calls Try.prog 19 #[.agg #[.int .u8 a0_0, .slice A0_1 l0_1.length c0_1, .slice A0_2 l0_2.length c0_2, .bool a0_3, .slice A0_4 l0_4.length c0_4, .int .u8 a0_5, .int .i64 a0_6, .int .i64 a0_7, .bool a0_8, .int .u8 a0_9], .agg #[.int .u8 a1_0, .slice A1_1 l1_1.length c1_1, .slice A1_2 l1_2.length c1_2, .bool a1_3, .slice A1_4 l1_4.length c1_4, .int .u8 a1_5, .int .i64 a1_6, .int .i64 a1_7, .bool a1_8, .int .u8 a1_9]] w fun e w' => e = .returned (.tuple #[.bool r1, .int .i64 r2]) ∧ Below w.heap.size w w' := by
 have hu27 := Try.underlying27
 have hu25 := Try.underlying25
 have O1 := Aside0.mk (And.intro hr0_1 (And.intro hr0_2 hr0_4))
 have P1 := Aside0.mk (And.intro hc0_1 (And.intro hc0_2 hc0_4))
 have O2 := Aside0.mk (And.intro hr1_1 (And.intro hr1_2 hr1_4))
 have P2 := Aside0.mk (And.intro hc1_1 (And.intro hc1_2 hc1_4))
 clear hr0_1 hr0_2 hr0_4 hc0_1 hc0_2 hc0_4 hr1_1 hr1_2 hr1_4 hc1_1 hc1_2 hc1_4
 have L := Lie.nil (Below.refl w.heap.size w)
 unfold clauses_Same.f at h
 have H' := Aside0.mk h
 clear h
 go_enter Try.func19, Try.ntmps19
 go_upto_region 1 with (first | ((with_reducible refine gate_dst (N := 2) rfl ?_); (try (refine gate_guard (by rfl) ?_; dsimp only)); refine box_event ?hg (N := 2) ?hd (cs := #[.int .u8 a0_0, .slice A0_1 l0_1.length c0_1, .slice A0_2 l0_2.length c0_2, .bool a0_3, .slice A0_4 l0_4.length c0_4, .int .u8 a0_5, .int .i64 a0_6, .int .i64 a0_7, .bool a0_8, .int .u8 a0_9]) (t := 27) ?hr ?_; (case hd => rfl); (case hg => rfl); (case hr => first | (go_simp; done) | (go_simp; rfl)); intro g2 hg W2 hbox hb; replace L := L.more [] [] hg hbox hb; clear hg hbox hb) | ((with_reducible refine gate_dst (N := 3) rfl ?_); (try (refine gate_guard (by rfl) ?_; dsimp only)); refine box_event ?hg (N := 3) ?hd (cs := #[.int .u8 a1_0, .slice A1_1 l1_1.length c1_1, .slice A1_2 l1_2.length c1_2, .bool a1_3, .slice A1_4 l1_4.length c1_4, .int .u8 a1_5, .int .i64 a1_6, .int .i64 a1_7, .bool a1_8, .int .u8 a1_9]) (t := 27) ?hr ?_; (case hd => rfl); (case hg => rfl); (case hr => first | (go_simp; done) | (go_simp; rfl)); intro g3 hg W3 hbox hb; replace L := L.more [(g2, _)] [] hg hbox hb; clear hg hbox hb))
 (try simp only [Act.put, List.setIfInBounds_toArray, List.set_cons_zero, List.set_cons_succ])
 refine query_cells_ (L.get 0 rfl) fun x0 x1 x2 x3 x4 x5 x6 x7 x8 x9 f0 f1 f2 f3 f4 f5 f6 f7 f8 f9 => ?_
 refine query_cells_ (L.get 1 rfl) fun y0 y1 y2 y3 y4 y5 y6 y7 y8 y9 q0 q1 q2 q3 q4 q5 q6 q7 q8 q9 => ?_
 have H := H'.out
 clear H'
 obtain ⟨t0, E0_, H⟩ := Option.bind_eq_some_iff.mp H
 have E0 := Aside0.mk E0_
 clear E0_
 by_cases e0 : t0 = 0
 rotate_left
 · rw [if_neg e0] at H
   have b0 : (t0 != 0) = true := bne_iff_ne.mpr e0
   clear e0
   simp only [Option.some.injEq, Prod.mk.injEq] at H
   obtain ⟨rfl, rfl⟩ := H
   go_wp2_with (first | ((with_reducible refine gate_callee (f := 26) rfl ?_); refine goesL_ (some 10) rfl rfl Try.func26 (by kernel_rfl) rfl #[.agg #[.int .u8 a0_0, .slice A0_1 l0_1.length c0_1, .slice A0_2 l0_2.length c0_2, .bool a0_3, .slice A0_4 l0_4.length c0_4, .int .u8 a0_5, .int .i64 a0_6, .int .i64 a0_7, .bool a0_8, .int .u8 a0_9]] rfl (by (try simp only [List.map_toArray, List.map_cons, List.map_nil]); first | done | rfl | (simp only [List.length_drop, List.length_take]; rfl)) ?_; refine (clauses_Check.calls k a0_0 _ _ l0_1 _ _ l0_2 a0_3 _ _ l0_4 a0_5 a0_6 a0_7 a0_8 a0_9 t0 _ (Kd.C_below O1.out.1 L.bel) P1.out.1 (Kd.C_below O1.out.2.1 L.bel) P1.out.2.1 (Kd.C_below O1.out.2.2 L.bel) P1.out.2.2 E0.out).mono ?_; rintro e w26 ⟨rfl, hb⟩; refine ⟨_, rfl, ?_⟩; replace L := L.step hb; clear hb; refine query_cells_ (L.get 0 rfl) fun x0 x1 x2 x3 x4 x5 x6 x7 x8 x9 f0 f1 f2 f3 f4 f5 f6 f7 f8 f9 => ?_; refine query_cells_ (L.get 1 rfl) fun y0 y1 y2 y3 y4 y5 y6 y7 y8 y9 q0 q1 q2 q3 q4 q5 q6 q7 q8 q9 => ?_))
   go_ret2
   exact ⟨by first | rfl | (simp [errW_none, errW_some] <;> rfl) | (simp [*, errW_none, errW_some] <;> rfl), L.bel⟩
 rw [if_pos e0] at H
 have b0 : (t0 != 0) = false := bne_eq_false_iff_eq.mpr e0
 clear e0
 obtain ⟨t1, E1_, H⟩ := Option.bind_eq_some_iff.mp H
 have E1 := Aside0.mk E1_
 clear E1_
 by_cases e1 : t1 = 0
 rotate_left
 · rw [if_neg e1] at H
   have b1 : (t1 != 0) = true := bne_iff_ne.mpr e1
   clear e1
   simp only [Option.some.injEq, Prod.mk.injEq] at H
   obtain ⟨rfl, rfl⟩ := H
   go_wp2_with (first | ((with_reducible refine gate_callee (f := 26) rfl ?_); refine goesL_ (some 10) rfl rfl Try.func26 (by kernel_rfl) rfl #[.agg #[.int .u8 a0_0, .slice A0_1 l0_1.length c0_1, .slice A0_2 l0_2.length c0_2, .bool a0_3, .slice A0_4 l0_4.length c0_4, .int .u8 a0_5, .int .i64 a0_6, .int .i64 a0_7, .bool a0_8, .int .u8 a0_9]] rfl (by (try simp only [List.map_toArray, List.map_cons, List.map_nil]); first | done | rfl | (simp only [List.length_drop, List.length_take]; rfl)) ?_; refine (clauses_Check.calls k a0_0 _ _ l0_1 _ _ l0_2 a0_3 _ _ l0_4 a0_5 a0_6 a0_7 a0_8 a0_9 t0 _ (Kd.C_below O1.out.1 L.bel) P1.out.1 (Kd.C_below O1.out.2.1 L.bel) P1.out.2.1 (Kd.C_below O1.out.2.2 L.bel) P1.out.2.2 E0.out).mono ?_; rintro e w26 ⟨rfl, hb⟩; refine ⟨_, rfl, ?_⟩; replace L := L.step hb; clear hb; refine query_cells_ (L.get 0 rfl) fun x0 x1 x2 x3 x4 x5 x6 x7 x8 x9 f0 f1 f2 f3 f4 f5 f6 f7 f8 f9 => ?_; refine query_cells_ (L.get 1 rfl) fun y0 y1 y2 y3 y4 y5 y6 y7 y8 y9 q0 q1 q2 q3 q4 q5 q6 q7 q8 q9 => ?_) | ((with_reducible refine gate_callee (f := 26) rfl ?_); refine goesL_ (some 15) rfl rfl Try.func26 (by kernel_rfl) rfl #[.agg #[.int .u8 a1_0, .slice A1_1 l1_1.length c1_1, .slice A1_2 l1_2.length c1_2, .bool a1_3, .slice A1_4 l1_4.length c1_4, .int .u8 a1_5, .int .i64 a1_6, .int .i64 a1_7, .bool a1_8, .int .u8 a1_9]] rfl (by (try simp only [List.map_toArray, List.map_cons, List.map_nil]); first | done | rfl | (simp only [List.length_drop, List.length_take]; rfl)) ?_; refine (clauses_Check.calls k a1_0 _ _ l1_1 _ _ l1_2 a1_3 _ _ l1_4 a1_5 a1_6 a1_7 a1_8 a1_9 t1 _ (Kd.C_below O2.out.1 L.bel) P2.out.1 (Kd.C_below O2.out.2.1 L.bel) P2.out.2.1 (Kd.C_below O2.out.2.2 L.bel) P2.out.2.2 E1.out).mono ?_; rintro e w26 ⟨rfl, hb⟩; refine ⟨_, rfl, ?_⟩; replace L := L.step hb; clear hb; refine query_cells_ (L.get 0 rfl) fun x0 x1 x2 x3 x4 x5 x6 x7 x8 x9 f0 f1 f2 f3 f4 f5 f6 f7 f8 f9 => ?_; refine query_cells_ (L.get 1 rfl) fun y0 y1 y2 y3 y4 y5 y6 y7 y8 y9 q0 q1 q2 q3 q4 q5 q6 q7 q8 q9 => ?_))
   go_ret2
   exact ⟨by first | rfl | (simp [errW_none, errW_some] <;> rfl) | (simp [*, errW_none, errW_some] <;> rfl), L.bel⟩
 rw [if_pos e1] at H
 have b1 : (t1 != 0) = false := bne_eq_false_iff_eq.mpr e1
 clear e1
 by_cases e2 : a0_0 = a1_0
 rotate_left
 · rw [if_neg e2] at H
   have b2 : (a0_0 == a1_0) = false := beq_eq_false_iff_ne.mpr e2
   clear e2
   simp only [Option.some.injEq, Prod.mk.injEq] at H
   obtain ⟨rfl, rfl⟩ := H
   go_wp2_with (first | ((with_reducible refine gate_callee (f := 26) rfl ?_); refine goesL_ (some 10) rfl rfl Try.func26 (by kernel_rfl) rfl #[.agg #[.int .u8 a0_0, .slice A0_1 l0_1.length c0_1, .slice A0_2 l0_2.length c0_2, .bool a0_3, .slice A0_4 l0_4.length c0_4, .int .u8 a0_5, .int .i64 a0_6, .int .i64 a0_7, .bool a0_8, .int .u8 a0_9]] rfl (by (try simp only [List.map_toArray, List.map_cons, List.map_nil]); first | done | rfl | (simp only [List.length_drop, List.length_take]; rfl)) ?_; refine (clauses_Check.calls k a0_0 _ _ l0_1 _ _ l0_2 a0_3 _ _ l0_4 a0_5 a0_6 a0_7 a0_8 a0_9 t0 _ (Kd.C_below O1.out.1 L.bel) P1.out.1 (Kd.C_below O1.out.2.1 L.bel) P1.out.2.1 (Kd.C_below O1.out.2.2 L.bel) P1.out.2.2 E0.out).mono ?_; rintro e w26 ⟨rfl, hb⟩; refine ⟨_, rfl, ?_⟩; replace L := L.step hb; clear hb; refine query_cells_ (L.get 0 rfl) fun x0 x1 x2 x3 x4 x5 x6 x7 x8 x9 f0 f1 f2 f3 f4 f5 f6 f7 f8 f9 => ?_; refine query_cells_ (L.get 1 rfl) fun y0 y1 y2 y3 y4 y5 y6 y7 y8 y9 q0 q1 q2 q3 q4 q5 q6 q7 q8 q9 => ?_) | ((with_reducible refine gate_callee (f := 26) rfl ?_); refine goesL_ (some 15) rfl rfl Try.func26 (by kernel_rfl) rfl #[.agg #[.int .u8 a1_0, .slice A1_1 l1_1.length c1_1, .slice A1_2 l1_2.length c1_2, .bool a1_3, .slice A1_4 l1_4.length c1_4, .int .u8 a1_5, .int .i64 a1_6, .int .i64 a1_7, .bool a1_8, .int .u8 a1_9]] rfl (by (try simp only [List.map_toArray, List.map_cons, List.map_nil]); first | done | rfl | (simp only [List.length_drop, List.length_take]; rfl)) ?_; refine (clauses_Check.calls k a1_0 _ _ l1_1 _ _ l1_2 a1_3 _ _ l1_4 a1_5 a1_6 a1_7 a1_8 a1_9 t1 _ (Kd.C_below O2.out.1 L.bel) P2.out.1 (Kd.C_below O2.out.2.1 L.bel) P2.out.2.1 (Kd.C_below O2.out.2.2 L.bel) P2.out.2.2 E1.out).mono ?_; rintro e w26 ⟨rfl, hb⟩; refine ⟨_, rfl, ?_⟩; replace L := L.step hb; clear hb; refine query_cells_ (L.get 0 rfl) fun x0 x1 x2 x3 x4 x5 x6 x7 x8 x9 f0 f1 f2 f3 f4 f5 f6 f7 f8 f9 => ?_; refine query_cells_ (L.get 1 rfl) fun y0 y1 y2 y3 y4 y5 y6 y7 y8 y9 q0 q1 q2 q3 q4 q5 q6 q7 q8 q9 => ?_))
   go_ret2
   exact ⟨by first | rfl | (simp [errW_none, errW_some] <;> rfl) | (simp [*, errW_none, errW_some] <;> rfl), L.bel⟩
 rw [if_pos e2] at H
 have b2 : (a0_0 == a1_0) = true := beq_iff_eq.mpr e2
 clear e2
 by_cases e3 : (a0_3 == a1_3) = true
 rotate_left
 · rw [if_neg e3] at H
   have b3 : (a0_3 == a1_3) = false := Bool.eq_false_iff.mpr e3
   clear e3
   simp only [Option.some.injEq, Prod.mk.injEq] at H
   obtain ⟨rfl, rfl⟩ := H
   go_wp2_with (first | ((with_reducible refine gate_callee (f := 26) rfl ?_); refine goesL_ (some 10) rfl rfl Try.func26 (by kernel_rfl) rfl #[.agg #[.int .u8 a0_0, .slice A0_1 l0_1.length c0_1, .slice A0_2 l0_2.length c0_2, .bool a0_3, .slice A0_4 l0_4.length c0_4, .int .u8 a0_5, .int .i64 a0_6, .int .i64 a0_7, .bool a0_8, .int .u8 a0_9]] rfl (by (try simp only [List.map_toArray, List.map_cons, List.map_nil]); first | done | rfl | (simp only [List.length_drop, List.length_take]; rfl)) ?_; refine (clauses_Check.calls k a0_0 _ _ l0_1 _ _ l0_2 a0_3 _ _ l0_4 a0_5 a0_6 a0_7 a0_8 a0_9 t0 _ (Kd.C_below O1.out.1 L.bel) P1.out.1 (Kd.C_below O1.out.2.1 L.bel) P1.out.2.1 (Kd.C_below O1.out.2.2 L.bel) P1.out.2.2 E0.out).mono ?_; rintro e w26 ⟨rfl, hb⟩; refine ⟨_, rfl, ?_⟩; replace L := L.step hb; clear hb; refine query_cells_ (L.get 0 rfl) fun x0 x1 x2 x3 x4 x5 x6 x7 x8 x9 f0 f1 f2 f3 f4 f5 f6 f7 f8 f9 => ?_; refine query_cells_ (L.get 1 rfl) fun y0 y1 y2 y3 y4 y5 y6 y7 y8 y9 q0 q1 q2 q3 q4 q5 q6 q7 q8 q9 => ?_) | ((with_reducible refine gate_callee (f := 26) rfl ?_); refine goesL_ (some 15) rfl rfl Try.func26 (by kernel_rfl) rfl #[.agg #[.int .u8 a1_0, .slice A1_1 l1_1.length c1_1, .slice A1_2 l1_2.length c1_2, .bool a1_3, .slice A1_4 l1_4.length c1_4, .int .u8 a1_5, .int .i64 a1_6, .int .i64 a1_7, .bool a1_8, .int .u8 a1_9]] rfl (by (try simp only [List.map_toArray, List.map_cons, List.map_nil]); first | done | rfl | (simp only [List.length_drop, List.length_take]; rfl)) ?_; refine (clauses_Check.calls k a1_0 _ _ l1_1 _ _ l1_2 a1_3 _ _ l1_4 a1_5 a1_6 a1_7 a1_8 a1_9 t1 _ (Kd.C_below O2.out.1 L.bel) P2.out.1 (Kd.C_below O2.out.2.1 L.bel) P2.out.2.1 (Kd.C_below O2.out.2.2 L.bel) P2.out.2.2 E1.out).mono ?_; rintro e w26 ⟨rfl, hb⟩; refine ⟨_, rfl, ?_⟩; replace L := L.step hb; clear hb; refine query_cells_ (L.get 0 rfl) fun x0 x1 x2 x3 x4 x5 x6 x7 x8 x9 f0 f1 f2 f3 f4 f5 f6 f7 f8 f9 => ?_; refine query_cells_ (L.get 1 rfl) fun y0 y1 y2 y3 y4 y5 y6 y7 y8 y9 q0 q1 q2 q3 q4 q5 q6 q7 q8 q9 => ?_))
   go_ret2
   exact ⟨by first | rfl | (simp [errW_none, errW_some] <;> rfl) | (simp [*, errW_none, errW_some] <;> rfl), L.bel⟩
 rw [if_pos e3] at H
 have b3 : (a0_3 == a1_3) = true := e3
 clear e3
 by_cases e4 : (a0_5 == a1_5 && (a0_6 == a1_6 && (a0_7 == a1_7))) = true
 rotate_left
 · rw [if_neg e4] at H
   have b4 : (a0_5 == a1_5 && (a0_6 == a1_6 && (a0_7 == a1_7))) = false := Bool.eq_false_iff.mpr e4
   clear e4
   simp only [Option.some.injEq, Prod.mk.injEq] at H
   obtain ⟨rfl, rfl⟩ := H
   go_wp2_with (first | ((with_reducible refine gate_callee (f := 26) rfl ?_); refine goesL_ (some 10) rfl rfl Try.func26 (by kernel_rfl) rfl #[.agg #[.int .u8 a0_0, .slice A0_1 l0_1.length c0_1, .slice A0_2 l0_2.length c0_2, .bool a0_3, .slice A0_4 l0_4.length c0_4, .int .u8 a0_5, .int .i64 a0_6, .int .i64 a0_7, .bool a0_8, .int .u8 a0_9]] rfl (by (try simp only [List.map_toArray, List.map_cons, List.map_nil]); first | done | rfl | (simp only [List.length_drop, List.length_take]; rfl)) ?_; refine (clauses_Check.calls k a0_0 _ _ l0_1 _ _ l0_2 a0_3 _ _ l0_4 a0_5 a0_6 a0_7 a0_8 a0_9 t0 _ (Kd.C_below O1.out.1 L.bel) P1.out.1 (Kd.C_below O1.out.2.1 L.bel) P1.out.2.1 (Kd.C_below O1.out.2.2 L.bel) P1.out.2.2 E0.out).mono ?_; rintro e w26 ⟨rfl, hb⟩; refine ⟨_, rfl, ?_⟩; replace L := L.step hb; clear hb; refine query_cells_ (L.get 0 rfl) fun x0 x1 x2 x3 x4 x5 x6 x7 x8 x9 f0 f1 f2 f3 f4 f5 f6 f7 f8 f9 => ?_; refine query_cells_ (L.get 1 rfl) fun y0 y1 y2 y3 y4 y5 y6 y7 y8 y9 q0 q1 q2 q3 q4 q5 q6 q7 q8 q9 => ?_) | ((with_reducible refine gate_callee (f := 26) rfl ?_); refine goesL_ (some 15) rfl rfl Try.func26 (by kernel_rfl) rfl #[.agg #[.int .u8 a1_0, .slice A1_1 l1_1.length c1_1, .slice A1_2 l1_2.length c1_2, .bool a1_3, .slice A1_4 l1_4.length c1_4, .int .u8 a1_5, .int .i64 a1_6, .int .i64 a1_7, .bool a1_8, .int .u8 a1_9]] rfl (by (try simp only [List.map_toArray, List.map_cons, List.map_nil]); first | done | rfl | (simp only [List.length_drop, List.length_take]; rfl)) ?_; refine (clauses_Check.calls k a1_0 _ _ l1_1 _ _ l1_2 a1_3 _ _ l1_4 a1_5 a1_6 a1_7 a1_8 a1_9 t1 _ (Kd.C_below O2.out.1 L.bel) P2.out.1 (Kd.C_below O2.out.2.1 L.bel) P2.out.2.1 (Kd.C_below O2.out.2.2 L.bel) P2.out.2.2 E1.out).mono ?_; rintro e w26 ⟨rfl, hb⟩; refine ⟨_, rfl, ?_⟩; replace L := L.step hb; clear hb; refine query_cells_ (L.get 0 rfl) fun x0 x1 x2 x3 x4 x5 x6 x7 x8 x9 f0 f1 f2 f3 f4 f5 f6 f7 f8 f9 => ?_; refine query_cells_ (L.get 1 rfl) fun y0 y1 y2 y3 y4 y5 y6 y7 y8 y9 q0 q1 q2 q3 q4 q5 q6 q7 q8 q9 => ?_))
   go_ret2
   exact ⟨by first | rfl | (simp [errW_none, errW_some] <;> rfl) | (simp [*, errW_none, errW_some] <;> rfl), L.bel⟩
 rw [if_pos e4] at H
 have b4 : (a0_5 == a1_5 && (a0_6 == a1_6 && (a0_7 == a1_7))) = true := e4
 clear e4
 by_cases e5 : (a0_8 == a1_8) = true
 rotate_left
 · rw [if_neg e5] at H
   have b5 : (a0_8 == a1_8) = false := Bool.eq_false_iff.mpr e5
   clear e5
   simp only [Option.some.injEq, Prod.mk.injEq] at H
   obtain ⟨rfl, rfl⟩ := H
   go_wp2_with (first | ((with_reducible refine gate_callee (f := 26) rfl ?_); refine goesL_ (some 10) rfl rfl Try.func26 (by kernel_rfl) rfl #[.agg #[.int .u8 a0_0, .slice A0_1 l0_1.length c0_1, .slice A0_2 l0_2.length c0_2, .bool a0_3, .slice A0_4 l0_4.length c0_4, .int .u8 a0_5, .int .i64 a0_6, .int .i64 a0_7, .bool a0_8, .int .u8 a0_9]] rfl (by (try simp only [List.map_toArray, List.map_cons, List.map_nil]); first | done | rfl | (simp only [List.length_drop, List.length_take]; rfl)) ?_; refine (clauses_Check.calls k a0_0 _ _ l0_1 _ _ l0_2 a0_3 _ _ l0_4 a0_5 a0_6 a0_7 a0_8 a0_9 t0 _ (Kd.C_below O1.out.1 L.bel) P1.out.1 (Kd.C_below O1.out.2.1 L.bel) P1.out.2.1 (Kd.C_below O1.out.2.2 L.bel) P1.out.2.2 E0.out).mono ?_; rintro e w26 ⟨rfl, hb⟩; refine ⟨_, rfl, ?_⟩; replace L := L.step hb; clear hb; refine query_cells_ (L.get 0 rfl) fun x0 x1 x2 x3 x4 x5 x6 x7 x8 x9 f0 f1 f2 f3 f4 f5 f6 f7 f8 f9 => ?_; refine query_cells_ (L.get 1 rfl) fun y0 y1 y2 y3 y4 y5 y6 y7 y8 y9 q0 q1 q2 q3 q4 q5 q6 q7 q8 q9 => ?_) | ((with_reducible refine gate_callee (f := 26) rfl ?_); refine goesL_ (some 15) rfl rfl Try.func26 (by kernel_rfl) rfl #[.agg #[.int .u8 a1_0, .slice A1_1 l1_1.length c1_1, .slice A1_2 l1_2.length c1_2, .bool a1_3, .slice A1_4 l1_4.length c1_4, .int .u8 a1_5, .int .i64 a1_6, .int .i64 a1_7, .bool a1_8, .int .u8 a1_9]] rfl (by (try simp only [List.map_toArray, List.map_cons, List.map_nil]); first | done | rfl | (simp only [List.length_drop, List.length_take]; rfl)) ?_; refine (clauses_Check.calls k a1_0 _ _ l1_1 _ _ l1_2 a1_3 _ _ l1_4 a1_5 a1_6 a1_7 a1_8 a1_9 t1 _ (Kd.C_below O2.out.1 L.bel) P2.out.1 (Kd.C_below O2.out.2.1 L.bel) P2.out.2.1 (Kd.C_below O2.out.2.2 L.bel) P2.out.2.2 E1.out).mono ?_; rintro e w26 ⟨rfl, hb⟩; refine ⟨_, rfl, ?_⟩; replace L := L.step hb; clear hb; refine query_cells_ (L.get 0 rfl) fun x0 x1 x2 x3 x4 x5 x6 x7 x8 x9 f0 f1 f2 f3 f4 f5 f6 f7 f8 f9 => ?_; refine query_cells_ (L.get 1 rfl) fun y0 y1 y2 y3 y4 y5 y6 y7 y8 y9 q0 q1 q2 q3 q4 q5 q6 q7 q8 q9 => ?_))
   go_ret2
   exact ⟨by first | rfl | (simp [errW_none, errW_some] <;> rfl) | (simp [*, errW_none, errW_some] <;> rfl), L.bel⟩
 rw [if_pos e5] at H
 have b5 : (a0_8 == a1_8) = true := e5
 clear e5
 by_cases e6 : a0_9 = a1_9
 rotate_left
 · rw [if_neg e6] at H
   have b6 : (a0_9 == a1_9) = false := beq_eq_false_iff_ne.mpr e6
   clear e6
   simp only [Option.some.injEq, Prod.mk.injEq] at H
   obtain ⟨rfl, rfl⟩ := H
   go_wp2_with (first | ((with_reducible refine gate_callee (f := 26) rfl ?_); refine goesL_ (some 10) rfl rfl Try.func26 (by kernel_rfl) rfl #[.agg #[.int .u8 a0_0, .slice A0_1 l0_1.length c0_1, .slice A0_2 l0_2.length c0_2, .bool a0_3, .slice A0_4 l0_4.length c0_4, .int .u8 a0_5, .int .i64 a0_6, .int .i64 a0_7, .bool a0_8, .int .u8 a0_9]] rfl (by (try simp only [List.map_toArray, List.map_cons, List.map_nil]); first | done | rfl | (simp only [List.length_drop, List.length_take]; rfl)) ?_; refine (clauses_Check.calls k a0_0 _ _ l0_1 _ _ l0_2 a0_3 _ _ l0_4 a0_5 a0_6 a0_7 a0_8 a0_9 t0 _ (Kd.C_below O1.out.1 L.bel) P1.out.1 (Kd.C_below O1.out.2.1 L.bel) P1.out.2.1 (Kd.C_below O1.out.2.2 L.bel) P1.out.2.2 E0.out).mono ?_; rintro e w26 ⟨rfl, hb⟩; refine ⟨_, rfl, ?_⟩; replace L := L.step hb; clear hb; refine query_cells_ (L.get 0 rfl) fun x0 x1 x2 x3 x4 x5 x6 x7 x8 x9 f0 f1 f2 f3 f4 f5 f6 f7 f8 f9 => ?_; refine query_cells_ (L.get 1 rfl) fun y0 y1 y2 y3 y4 y5 y6 y7 y8 y9 q0 q1 q2 q3 q4 q5 q6 q7 q8 q9 => ?_) | ((with_reducible refine gate_callee (f := 26) rfl ?_); refine goesL_ (some 15) rfl rfl Try.func26 (by kernel_rfl) rfl #[.agg #[.int .u8 a1_0, .slice A1_1 l1_1.length c1_1, .slice A1_2 l1_2.length c1_2, .bool a1_3, .slice A1_4 l1_4.length c1_4, .int .u8 a1_5, .int .i64 a1_6, .int .i64 a1_7, .bool a1_8, .int .u8 a1_9]] rfl (by (try simp only [List.map_toArray, List.map_cons, List.map_nil]); first | done | rfl | (simp only [List.length_drop, List.length_take]; rfl)) ?_; refine (clauses_Check.calls k a1_0 _ _ l1_1 _ _ l1_2 a1_3 _ _ l1_4 a1_5 a1_6 a1_7 a1_8 a1_9 t1 _ (Kd.C_below O2.out.1 L.bel) P2.out.1 (Kd.C_below O2.out.2.1 L.bel) P2.out.2.1 (Kd.C_below O2.out.2.2 L.bel) P2.out.2.2 E1.out).mono ?_; rintro e w26 ⟨rfl, hb⟩; refine ⟨_, rfl, ?_⟩; replace L := L.step hb; clear hb; refine query_cells_ (L.get 0 rfl) fun x0 x1 x2 x3 x4 x5 x6 x7 x8 x9 f0 f1 f2 f3 f4 f5 f6 f7 f8 f9 => ?_; refine query_cells_ (L.get 1 rfl) fun y0 y1 y2 y3 y4 y5 y6 y7 y8 y9 q0 q1 q2 q3 q4 q5 q6 q7 q8 q9 => ?_))
   go_ret2
   exact ⟨by first | rfl | (simp [errW_none, errW_some] <;> rfl) | (simp [*, errW_none, errW_some] <;> rfl), L.bel⟩
 rw [if_pos e6] at H
 have b6 : (a0_9 == a1_9) = true := beq_iff_eq.mpr e6
 clear e6
 obtain ⟨t7, E7_, H⟩ := Option.bind_eq_some_iff.mp H
 have E7 := Aside0.mk E7_
 clear E7_
 cases t7 with
 | false =>
  rw [if_neg (by decide)] at H
  simp only [Option.some.injEq, Prod.mk.injEq] at H
  obtain ⟨rfl, rfl⟩ := H
  go_wp2_with (first | ((with_reducible refine gate_callee (f := 26) rfl ?_); refine goesL_ (some 10) rfl rfl Try.func26 (by kernel_rfl) rfl #[.agg #[.int .u8 a0_0, .slice A0_1 l0_1.length c0_1, .slice A0_2 l0_2.length c0_2, .bool a0_3, .slice A0_4 l0_4.length c0_4, .int .u8 a0_5, .int .i64 a0_6, .int .i64 a0_7, .bool a0_8, .int .u8 a0_9]] rfl (by (try simp only [List.map_toArray, List.map_cons, List.map_nil]); first | done | rfl | (simp only [List.length_drop, List.length_take]; rfl)) ?_; refine (clauses_Check.calls k a0_0 _ _ l0_1 _ _ l0_2 a0_3 _ _ l0_4 a0_5 a0_6 a0_7 a0_8 a0_9 t0 _ (Kd.C_below O1.out.1 L.bel) P1.out.1 (Kd.C_below O1.out.2.1 L.bel) P1.out.2.1 (Kd.C_below O1.out.2.2 L.bel) P1.out.2.2 E0.out).mono ?_; rintro e w26 ⟨rfl, hb⟩; refine ⟨_, rfl, ?_⟩; replace L := L.step hb; clear hb; refine query_cells_ (L.get 0 rfl) fun x0 x1 x2 x3 x4 x5 x6 x7 x8 x9 f0 f1 f2 f3 f4 f5 f6 f7 f8 f9 => ?_; refine query_cells_ (L.get 1 rfl) fun y0 y1 y2 y3 y4 y5 y6 y7 y8 y9 q0 q1 q2 q3 q4 q5 q6 q7 q8 q9 => ?_) | ((with_reducible refine gate_callee (f := 26) rfl ?_); refine goesL_ (some 15) rfl rfl Try.func26 (by kernel_rfl) rfl #[.agg #[.int .u8 a1_0, .slice A1_1 l1_1.length c1_1, .slice A1_2 l1_2.length c1_2, .bool a1_3, .slice A1_4 l1_4.length c1_4, .int .u8 a1_5, .int .i64 a1_6, .int .i64 a1_7, .bool a1_8, .int .u8 a1_9]] rfl (by (try simp only [List.map_toArray, List.map_cons, List.map_nil]); first | done | rfl | (simp only [List.length_drop, List.length_take]; rfl)) ?_; refine (clauses_Check.calls k a1_0 _ _ l1_1 _ _ l1_2 a1_3 _ _ l1_4 a1_5 a1_6 a1_7 a1_8 a1_9 t1 _ (Kd.C_below O2.out.1 L.bel) P2.out.1 (Kd.C_below O2.out.2.1 L.bel) P2.out.2.1 (Kd.C_below O2.out.2.2 L.bel) P2.out.2.2 E1.out).mono ?_; rintro e w26 ⟨rfl, hb⟩; refine ⟨_, rfl, ?_⟩; replace L := L.step hb; clear hb; refine query_cells_ (L.get 0 rfl) fun x0 x1 x2 x3 x4 x5 x6 x7 x8 x9 f0 f1 f2 f3 f4 f5 f6 f7 f8 f9 => ?_; refine query_cells_ (L.get 1 rfl) fun y0 y1 y2 y3 y4 y5 y6 y7 y8 y9 q0 q1 q2 q3 q4 q5 q6 q7 q8 q9 => ?_) | (go_at_call 54; (with_reducible refine (slices_Equal_int_int.calls k _ _ l0_2 _ _ l1_2 _ _ (Kd.C_below O1.out.2.1 L.bel) P1.out.2.1 (Kd.C_below O2.out.2.1 L.bel) P2.out.2.1 E7.out).mono ?_); rintro e w54 ⟨rfl, ⟨nd, rfl⟩⟩; replace L := L.drewN nd))
  go_ret2
  exact ⟨by first | rfl | (simp [errW_none, errW_some] <;> rfl) | (simp [*, errW_none, errW_some] <;> rfl), L.bel⟩
 | true =>
  rw [if_pos rfl] at H
  obtain ⟨t8, E8_, H⟩ := Option.bind_eq_some_iff.mp H
  have E8 := Aside0.mk E8_
  clear E8_
  cases t8 with
  | false =>
   rw [if_neg (by decide)] at H
   simp only [Option.some.injEq, Prod.mk.injEq] at H
   obtain ⟨rfl, rfl⟩ := H
   go_wp2_with (first | ((with_reducible refine gate_callee (f := 26) rfl ?_); refine goesL_ (some 10) rfl rfl Try.func26 (by kernel_rfl) rfl #[.agg #[.int .u8 a0_0, .slice A0_1 l0_1.length c0_1, .slice A0_2 l0_2.length c0_2, .bool a0_3, .slice A0_4 l0_4.length c0_4, .int .u8 a0_5, .int .i64 a0_6, .int .i64 a0_7, .bool a0_8, .int .u8 a0_9]] rfl (by (try simp only [List.map_toArray, List.map_cons, List.map_nil]); first | done | rfl | (simp only [List.length_drop, List.length_take]; rfl)) ?_; refine (clauses_Check.calls k a0_0 _ _ l0_1 _ _ l0_2 a0_3 _ _ l0_4 a0_5 a0_6 a0_7 a0_8 a0_9 t0 _ (Kd.C_below O1.out.1 L.bel) P1.out.1 (Kd.C_below O1.out.2.1 L.bel) P1.out.2.1 (Kd.C_below O1.out.2.2 L.bel) P1.out.2.2 E0.out).mono ?_; rintro e w26 ⟨rfl, hb⟩; refine ⟨_, rfl, ?_⟩; replace L := L.step hb; clear hb; refine query_cells_ (L.get 0 rfl) fun x0 x1 x2 x3 x4 x5 x6 x7 x8 x9 f0 f1 f2 f3 f4 f5 f6 f7 f8 f9 => ?_; refine query_cells_ (L.get 1 rfl) fun y0 y1 y2 y3 y4 y5 y6 y7 y8 y9 q0 q1 q2 q3 q4 q5 q6 q7 q8 q9 => ?_) | ((with_reducible refine gate_callee (f := 26) rfl ?_); refine goesL_ (some 15) rfl rfl Try.func26 (by kernel_rfl) rfl #[.agg #[.int .u8 a1_0, .slice A1_1 l1_1.length c1_1, .slice A1_2 l1_2.length c1_2, .bool a1_3, .slice A1_4 l1_4.length c1_4, .int .u8 a1_5, .int .i64 a1_6, .int .i64 a1_7, .bool a1_8, .int .u8 a1_9]] rfl (by (try simp only [List.map_toArray, List.map_cons, List.map_nil]); first | done | rfl | (simp only [List.length_drop, List.length_take]; rfl)) ?_; refine (clauses_Check.calls k a1_0 _ _ l1_1 _ _ l1_2 a1_3 _ _ l1_4 a1_5 a1_6 a1_7 a1_8 a1_9 t1 _ (Kd.C_below O2.out.1 L.bel) P2.out.1 (Kd.C_below O2.out.2.1 L.bel) P2.out.2.1 (Kd.C_below O2.out.2.2 L.bel) P2.out.2.2 E1.out).mono ?_; rintro e w26 ⟨rfl, hb⟩; refine ⟨_, rfl, ?_⟩; replace L := L.step hb; clear hb; refine query_cells_ (L.get 0 rfl) fun x0 x1 x2 x3 x4 x5 x6 x7 x8 x9 f0 f1 f2 f3 f4 f5 f6 f7 f8 f9 => ?_; refine query_cells_ (L.get 1 rfl) fun y0 y1 y2 y3 y4 y5 y6 y7 y8 y9 q0 q1 q2 q3 q4 q5 q6 q7 q8 q9 => ?_) | (go_at_call 54; (with_reducible refine (slices_Equal_int_int.calls k _ _ l0_2 _ _ l1_2 _ _ (Kd.C_below O1.out.2.1 L.bel) P1.out.2.1 (Kd.C_below O2.out.2.1 L.bel) P2.out.2.1 E7.out).mono ?_); rintro e w54 ⟨rfl, ⟨nd, rfl⟩⟩; replace L := L.drewN nd) | (go_at_call 51; (with_reducible refine (clauses_Same_1.calls k _ _ l0_1 _ _ l1_1 _ _ (Kd.C_below O1.out.1 L.bel) P1.out.1 (Kd.C_below O2.out.1 L.bel) P2.out.1 E8.out).mono ?_); rintro e w51 ⟨rfl, hb⟩; replace L := L.step hb; clear hb; refine query_cells_ (L.get 0 rfl) fun x0 x1 x2 x3 x4 x5 x6 x7 x8 x9 f0 f1 f2 f3 f4 f5 f6 f7 f8 f9 => ?_; refine query_cells_ (L.get 1 rfl) fun y0 y1 y2 y3 y4 y5 y6 y7 y8 y9 q0 q1 q2 q3 q4 q5 q6 q7 q8 q9 => ?_))
   go_ret2
   exact ⟨by first | rfl | (simp [errW_none, errW_some] <;> rfl) | (simp [*, errW_none, errW_some] <;> rfl), L.bel⟩
  | true =>
   rw [if_pos rfl] at H
   obtain ⟨t9, E9_, H⟩ := Option.bind_eq_some_iff.mp H
   have E9 := Aside0.mk E9_
   clear E9_
   simp only [Option.some.injEq, Prod.mk.injEq] at H
   obtain ⟨rfl, rfl⟩ := H
   go_wp2_with (first | ((with_reducible refine gate_callee (f := 26) rfl ?_); refine goesL_ (some 10) rfl rfl Try.func26 (by kernel_rfl) rfl #[.agg #[.int .u8 a0_0, .slice A0_1 l0_1.length c0_1, .slice A0_2 l0_2.length c0_2, .bool a0_3, .slice A0_4 l0_4.length c0_4, .int .u8 a0_5, .int .i64 a0_6, .int .i64 a0_7, .bool a0_8, .int .u8 a0_9]] rfl (by (try simp only [List.map_toArray, List.map_cons, List.map_nil]); first | done | rfl | (simp only [List.length_drop, List.length_take]; rfl)) ?_; refine (clauses_Check.calls k a0_0 _ _ l0_1 _ _ l0_2 a0_3 _ _ l0_4 a0_5 a0_6 a0_7 a0_8 a0_9 t0 _ (Kd.C_below O1.out.1 L.bel) P1.out.1 (Kd.C_below O1.out.2.1 L.bel) P1.out.2.1 (Kd.C_below O1.out.2.2 L.bel) P1.out.2.2 E0.out).mono ?_; rintro e w26 ⟨rfl, hb⟩; refine ⟨_, rfl, ?_⟩; replace L := L.step hb; clear hb; refine query_cells_ (L.get 0 rfl) fun x0 x1 x2 x3 x4 x5 x6 x7 x8 x9 f0 f1 f2 f3 f4 f5 f6 f7 f8 f9 => ?_; refine query_cells_ (L.get 1 rfl) fun y0 y1 y2 y3 y4 y5 y6 y7 y8 y9 q0 q1 q2 q3 q4 q5 q6 q7 q8 q9 => ?_) | ((with_reducible refine gate_callee (f := 26) rfl ?_); refine goesL_ (some 15) rfl rfl Try.func26 (by kernel_rfl) rfl #[.agg #[.int .u8 a1_0, .slice A1_1 l1_1.length c1_1, .slice A1_2 l1_2.length c1_2, .bool a1_3, .slice A1_4 l1_4.length c1_4, .int .u8 a1_5, .int .i64 a1_6, .int .i64 a1_7, .bool a1_8, .int .u8 a1_9]] rfl (by (try simp only [List.map_toArray, List.map_cons, List.map_nil]); first | done | rfl | (simp only [List.length_drop, List.length_take]; rfl)) ?_; refine (clauses_Check.calls k a1_0 _ _ l1_1 _ _ l1_2 a1_3 _ _ l1_4 a1_5 a1_6 a1_7 a1_8 a1_9 t1 _ (Kd.C_below O2.out.1 L.bel) P2.out.1 (Kd.C_below O2.out.2.1 L.bel) P2.out.2.1 (Kd.C_below O2.out.2.2 L.bel) P2.out.2.2 E1.out).mono ?_; rintro e w26 ⟨rfl, hb⟩; refine ⟨_, rfl, ?_⟩; replace L := L.step hb; clear hb; refine query_cells_ (L.get 0 rfl) fun x0 x1 x2 x3 x4 x5 x6 x7 x8 x9 f0 f1 f2 f3 f4 f5 f6 f7 f8 f9 => ?_; refine query_cells_ (L.get 1 rfl) fun y0 y1 y2 y3 y4 y5 y6 y7 y8 y9 q0 q1 q2 q3 q4 q5 q6 q7 q8 q9 => ?_) | (go_at_call 54; (with_reducible refine (slices_Equal_int_int.calls k _ _ l0_2 _ _ l1_2 _ _ (Kd.C_below O1.out.2.1 L.bel) P1.out.2.1 (Kd.C_below O2.out.2.1 L.bel) P2.out.2.1 E7.out).mono ?_); rintro e w54 ⟨rfl, ⟨nd, rfl⟩⟩; replace L := L.drewN nd) | (go_at_call 51; (with_reducible refine (clauses_Same_1.calls k _ _ l0_1 _ _ l1_1 _ _ (Kd.C_below O1.out.1 L.bel) P1.out.1 (Kd.C_below O2.out.1 L.bel) P2.out.1 E8.out).mono ?_); rintro e w51 ⟨rfl, hb⟩; replace L := L.step hb; clear hb; refine query_cells_ (L.get 0 rfl) fun x0 x1 x2 x3 x4 x5 x6 x7 x8 x9 f0 f1 f2 f3 f4 f5 f6 f7 f8 f9 => ?_; refine query_cells_ (L.get 1 rfl) fun y0 y1 y2 y3 y4 y5 y6 y7 y8 y9 q0 q1 q2 q3 q4 q5 q6 q7 q8 q9 => ?_) | (go_at_call 51; (with_reducible refine (clauses_Same_1.calls k _ _ l0_4 _ _ l1_4 _ _ (Kd.C_below O1.out.2.2 L.bel) P1.out.2.2 (Kd.C_below O2.out.2.2 L.bel) P2.out.2.2 E9.out).mono ?_); rintro e w51 ⟨rfl, hb⟩; replace L := L.step hb; clear hb; refine query_cells_ (L.get 0 rfl) fun x0 x1 x2 x3 x4 x5 x6 x7 x8 x9 f0 f1 f2 f3 f4 f5 f6 f7 f8 f9 => ?_; refine query_cells_ (L.get 1 rfl) fun y0 y1 y2 y3 y4 y5 y6 y7 y8 y9 q0 q1 q2 q3 q4 q5 q6 q7 q8 q9 => ?_))
   go_ret2
   exact ⟨by first | rfl | (simp [errW_none, errW_some] <;> rfl) | (simp [*, errW_none, errW_some] <;> rfl), L.bel⟩

end

end Go.Proofs.Ytpkamfjkmbakhaa.G
