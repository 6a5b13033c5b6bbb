-- Written by a program of this place (wip/prt.py), out of Lean's own print of the program: Lean checks it.
import Derived.Test.YtpkamfjkmbakhaaG0
import Derived.Test.YtpkamfjkmbakhaaGU
namespace Go.Proofs.Ytpkamfjkmbakhaa.G
open Go.RowKit Go.Proofs.YtpkamfjkmbakhaaW.PrintWords Go.Proofs.YtpkamfjkmbakhaaW.PrintLast Go.Proofs.YtpkamfjkmbakhaaW.PrintMore
attribute [local go_sem] max2_int min2_int max_two min_two max_three min_three max_four min_four   -- for this text's walks alone
set_option linter.unusedVariables false
set_option linter.unusedSimpArgs false

/-! ### tailwaterlaw08_good: function 25 -/
def tailwaterlaw08_good.f  : Option (Int × (List (S36)) × List Int × Bool × (List (S36)) × Int × Int × Int × Bool × Int) := (some (([(⟨4, 0, 0, 0, 0⟩ : S36)] : List (S36)) : List (S36))).bind fun y293 => (some (2, y293, (([1, 0] : List Int)), false, y293, 1, 5, 0, false, 2))
set_option maxHeartbeats 8000000 in
set_option maxRecDepth 100000 in
theorem tailwaterlaw08_good.calls  (r1 : Int) (r2 : List (S36)) (r3 : List Int) (r4 : Bool) (r5 : List (S36)) (r6 : Int) (r7 : Int) (r8 : Int) (r9 : Bool) (r10 : Int) (w : World) (h : tailwaterlaw08_good.f  = some (r1, r2, r3, r4, r5, r6, r7, r8, r9, r10)) :
  Calls Try.prog 25 #[] w fun e w' => ∃ v1_ v2_ v4_ : Value, e = .returned (.agg #[.int .u8 r1, v1_, v2_, .bool r4, v4_, .int .u8 r6, .int .i64 r7, .int .i64 r8, .bool r9, .int .u8 r10]) ∧ Kd.V k36 36 w' w.heap.size (fun k_ => (w.heap.size ≤ k_) ∧ some k_ ≠ (v2_ : Value).ownBlock) v1_ r2 ∧ Kd.R (Kd.int .i64) 3 w' w.heap.size (fun k_ => (w.heap.size ≤ k_)) v2_ r3 ∧ Kd.V k36 36 w' w.heap.size (fun k_ => (w.heap.size ≤ k_) ∧ some k_ ≠ (v2_ : Value).ownBlock) v4_ r5 ∧ Below w.heap.size w w' := by
 have hu27 := Try.underlying27
 have hu36 := Try.underlying36
 have hu25 := Try.underlying25
 have HB := zM (Below.refl w.heap.size w)
 have H : ((some (([(⟨4, 0, 0, 0, 0⟩ : S36)] : List (S36)) : List (S36))).bind fun y293 => (some (2, y293, (([1, 0] : List Int)), false, y293, 1, 5, 0, false, 2))) = some (r1, r2, r3, r4, r5, r6, r7, r8, r9, r10) := h
 clear h
 obtain ⟨y293, hy293⟩ : ∃ y_ : List (S36), y_ = (([(⟨4, 0, 0, 0, 0⟩ : S36)] : List (S36))) := ⟨_, rfl⟩
 replace H : (some (2, y293, (([1, 0] : List Int)), false, y293, 1, 5, 0, false, 2)) = some (r1, r2, r3, r4, r5, r6, r7, r8, r9, r10) := by first | (rw [hy293]; with_reducible exact H) | (have H2_ := (Option.bind_some _ _).symm.trans H; rw [hy293]; with_reducible exact H2_) | (have H2_ := (Option.bind_some _ _).symm.trans H; with_reducible exact H2_) | with_reducible exact H | (rw [hy293]; exact H) | exact H
 have Ny293 := zM hy293
 clear hy293
 obtain ⟨y296, hy296⟩ : ∃ y_ : List Int, y_ = (([1, 0] : List Int)) := ⟨_, rfl⟩
 replace H : (some (2, y293, y296, false, y293, 1, 5, 0, false, 2)) = some (r1, r2, r3, r4, r5, r6, r7, r8, r9, r10) := by first | (rw [hy296]; with_reducible exact H) | (have H2_ := (Option.bind_some _ _).symm.trans H; rw [hy296]; with_reducible exact H2_) | (have H2_ := (Option.bind_some _ _).symm.trans H; with_reducible exact H2_) | with_reducible exact H | (rw [hy296]; exact H) | exact H
 have Ny296 := zM hy296
 clear hy296
 simp only [Option.some.injEq, Prod.mk.injEq] at H
 obtain ⟨rfl, rfl, rfl, rfl, rfl, rfl, rfl, rfl, rfl, rfl⟩ := H
 go_enter Try.func25, Try.ntmps25
 go_wp2_with (first | ((with_reducible refine gate_dst (N := 0) rfl ?_); refine box_event ?hg (N := 0) ?hd (cs := #[.int .u8 0, .slice none 0 0, .slice none 0 0, .bool false, .slice none 0 0, .int .u8 0, .int .i64 0, .int .i64 0, .bool false, .int .u8 0]) (t := 27) ?hr ?_; (case hd => rfl); (case hg => rfl); (case hr => first | (go_simp; done) | (go_simp; rfl)); intro gb292 hg w1 hbox hb; have n0_ := zM (zT (by repeat (first | (with_reducible first | exact HB.out | apply zC | apply zP | apply zO) | exact HB.out)) hb); have n1_ := zM (hbox); have n2_ := zM ((by rw [hg]; exact (zZ (by repeat (first | (with_reducible first | exact HB.out | apply zC | apply zP | apply zO) | exact HB.out))) : w.heap.size ≤ gb292)); have n3_ := zM ((by rw [hg]; exact (zZ (by repeat (first | (with_reducible first | exact HB.out | apply zC | apply zP | apply zO) | exact HB.out))) : w.heap.size ≤ gb292)); clear HB; have HB := n0_; have BK292 := n1_; have GW292 := n2_; have GE292 := n3_; clear n0_ n1_ n2_ n3_; clear hb hbox hg) | ((with_reducible refine gate_dst (N := 3) rfl ?_); refine Kd.R_lit k36 _ 36 ?hg (N := 3) ?hd (xs := ([(⟨4, 0, 0, 0, 0⟩ : S36)] : List (S36))) (inner := [.int .u8 4, .int .i64 0, .int .i64 0, .int .i64 0, .int .i64 0]) (ok := fun _ => True) (okp := fun _ => True) ?hr ?hp (fun _ hk => hk) trivial (Below.refl _ _) (Nat.le_refl _) (by simp) ?_; (case hd => rfl); (case hg => rfl); (case hr => first | (go_simp; done) | (go_simp; rfl)); (case hp => exact (Reps.c5 (show Kd.M k36 _ _ _ (⟨4, 0, 0, 0, 0⟩ : S36) [.int .u8 4, .int .i64 0, .int .i64 0, .int .i64 0, .int .i64 0] from (k36_mkM _ _ _ (⟨4, 0, 0, 0, 0⟩ : S36) )) (Reps.none _ _))); intro v294 w2 ho3 hb hg_ hnew_; clear hg_ hnew_; (first | rw [← Ny293.out] at ho3 | (simp only [Int.reduceToNat] at ho3; rw [← Ny293.out] at ho3)); have n0_ := zM (Kd.R_lower (Kd.R_newM (M := fun k_ => (w.heap.size ≤ k_)) ho3 (zZ (by repeat (first | (with_reducible first | exact HB.out | apply zC | apply zP | apply zO | refine zS ?_ GE292.out) | exact HB.out))) (fun k_ h_ => h_)) (zZ (by repeat (first | (with_reducible first | exact HB.out | apply zC | apply zP | apply zO | refine zS ?_ GE292.out) | exact HB.out)))); have n1_ := zM (zX (g := gb292) (o := .cells #[.int .u8 0, .slice none 0 0, .slice none 0 0, .bool false, .slice none 0 0, .int .u8 0, .int .i64 0, .int .i64 0, .bool false, .int .u8 0] 27 (0, 0)) (by (with_reducible repeat (first | refine zbN ?_ _ | refine zbD ?_ | refine zbA ?_ _)); exact BK292.out) hb); have n2_ := zM (zT (by repeat (first | (with_reducible first | exact HB.out | apply zC | apply zP | apply zO | refine zS ?_ GE292.out) | exact HB.out)) hb); clear BK292; clear HB; have HO295 := n0_; have BK292 := n1_; have HB := n2_; clear n0_ n1_ n2_; clear hb ho3) | ((with_reducible refine gate_dst (N := 6) rfl ?_); refine Kd.R_lit (Kd.int .i64) _ 3 ?hg (N := 6) ?hd (xs := ([1, 0] : List Int)) (inner := [.int .i64 1, .int .i64 0]) (ok := fun _ => True) (okp := fun _ => True) ?hr ?hp (fun _ hk => hk) trivial (Below.refl _ _) (Nat.le_refl _) (by simp) ?_; (case hd => rfl); (case hg => rfl); (case hr => first | (go_simp; done) | (go_simp; rfl)); (case hp => exact (Reps.one (show Kd.M (Kd.int .i64) _ _ _ 1 [.int .i64 1] from rfl) (Reps.one (show Kd.M (Kd.int .i64) _ _ _ 0 [.int .i64 0] from rfl) (Reps.none _ _)))); intro v297 w4 ho5 hb hg_ hnew_; clear hg_ hnew_; (first | rw [← Ny296.out] at ho5 | (simp only [Int.reduceToNat] at ho5; rw [← Ny296.out] at ho5)); have n0_ := zM (zRB (by (with_reducible repeat (first | apply zA | apply zN | apply zD)); exact HO295.out) hb); have n1_ := zM (Kd.R_lower (Kd.R_newM (M := fun k_ => (w.heap.size ≤ k_)) ho5 (zZ (by repeat (first | (with_reducible first | exact HB.out | apply zC | apply zP | apply zO | refine zS ?_ GE292.out) | exact HB.out))) (fun k_ h_ => h_)) (zZ (by repeat (first | (with_reducible first | exact HB.out | apply zC | apply zP | apply zO | refine zS ?_ GE292.out) | exact HB.out)))); have n2_ := zM (zX (g := gb292) (o := .cells #[.int .u8 0, .slice none 0 0, .slice none 0 0, .bool false, .slice none 0 0, .int .u8 0, .int .i64 0, .int .i64 0, .bool false, .int .u8 0] 27 (0, 0)) (by (with_reducible repeat (first | refine zbN ?_ _ | refine zbD ?_ | refine zbA ?_ _)); exact BK292.out) hb); have n3_ := zM (zT (by repeat (first | (with_reducible first | exact HB.out | apply zC | apply zP | apply zO | refine zS ?_ GE292.out) | exact HB.out)) hb); clear HO295; clear BK292; clear HB; have HO295 := n0_; have HO298 := n1_; have BK292 := n2_; have HB := n3_; clear n0_ n1_ n2_ n3_; clear hb ho5; obtain ⟨Ao6, co6, eo6⟩ := Kd.R_slice HO295.out; subst eo6; obtain ⟨Ao7, co7, eo7⟩ := Kd.R_slice HO298.out; subst eo7; refine query_cells_ BK292.out fun hcz8_0 hcz8_1 hcz8_2 hcz8_3 hcz8_4 hcz8_5 hcz8_6 hcz8_7 hcz8_8 hcz8_9 hfz8_0 hfz8_1 hfz8_2 hfz8_3 hfz8_4 hfz8_5 hfz8_6 hfz8_7 hfz8_8 hfz8_9 => ?_))
 refine bodyPost_ret (results_cell_row rfl _ _ gb292 27 #[.int .u8 2, .slice Ao6 y293.length co6, .slice Ao7 y296.length co7, .bool false, .slice Ao6 y293.length co6, .int .u8 1, .int .i64 5, .int .i64 0, .bool false, .int .u8 2] (0, 0) _ rfl (by (with_reducible repeat (first | refine zbN ?_ _ | refine zbD ?_ | refine zbA ?_ _)); refine blk_put (cs := #[.int .u8 2, .slice Ao6 y293.length co6, .slice Ao7 y296.length co7, .bool false, .slice Ao6 y293.length co6, .int .u8 1, .int .i64 5, .int .i64 0, .bool false, .int .u8 0]) ?_ 9 _ rfl; (with_reducible repeat (first | refine zbN ?_ _ | refine zbD ?_ | refine zbA ?_ _)); refine blk_put (cs := #[.int .u8 2, .slice Ao6 y293.length co6, .slice Ao7 y296.length co7, .bool false, .slice Ao6 y293.length co6, .int .u8 1, .int .i64 5, .int .i64 0, .bool false, .int .u8 0]) ?_ 8 _ rfl; (with_reducible repeat (first | refine zbN ?_ _ | refine zbD ?_ | refine zbA ?_ _)); refine blk_put (cs := #[.int .u8 2, .slice Ao6 y293.length co6, .slice Ao7 y296.length co7, .bool false, .slice Ao6 y293.length co6, .int .u8 1, .int .i64 5, .int .i64 0, .bool false, .int .u8 0]) ?_ 7 _ rfl; (with_reducible repeat (first | refine zbN ?_ _ | refine zbD ?_ | refine zbA ?_ _)); refine blk_put (cs := #[.int .u8 2, .slice Ao6 y293.length co6, .slice Ao7 y296.length co7, .bool false, .slice Ao6 y293.length co6, .int .u8 1, .int .i64 0, .int .i64 0, .bool false, .int .u8 0]) ?_ 6 _ rfl; (with_reducible repeat (first | refine zbN ?_ _ | refine zbD ?_ | refine zbA ?_ _)); refine blk_put (cs := #[.int .u8 2, .slice Ao6 y293.length co6, .slice Ao7 y296.length co7, .bool false, .slice Ao6 y293.length co6, .int .u8 0, .int .i64 0, .int .i64 0, .bool false, .int .u8 0]) ?_ 5 _ rfl; (with_reducible repeat (first | refine zbN ?_ _ | refine zbD ?_ | refine zbA ?_ _)); refine blk_put (cs := #[.int .u8 2, .slice Ao6 y293.length co6, .slice Ao7 y296.length co7, .bool false, .slice none 0 0, .int .u8 0, .int .i64 0, .int .i64 0, .bool false, .int .u8 0]) ?_ 4 _ rfl; (with_reducible repeat (first | refine zbN ?_ _ | refine zbD ?_ | refine zbA ?_ _)); refine blk_put (cs := #[.int .u8 2, .slice Ao6 y293.length co6, .slice Ao7 y296.length co7, .bool false, .slice none 0 0, .int .u8 0, .int .i64 0, .int .i64 0, .bool false, .int .u8 0]) ?_ 3 _ rfl; (with_reducible repeat (first | refine zbN ?_ _ | refine zbD ?_ | refine zbA ?_ _)); refine blk_put (cs := #[.int .u8 2, .slice Ao6 y293.length co6, .slice none 0 0, .bool false, .slice none 0 0, .int .u8 0, .int .i64 0, .int .i64 0, .bool false, .int .u8 0]) ?_ 2 _ rfl; (with_reducible repeat (first | refine zbN ?_ _ | refine zbD ?_ | refine zbA ?_ _)); refine blk_put (cs := #[.int .u8 2, .slice none 0 0, .slice none 0 0, .bool false, .slice none 0 0, .int .u8 0, .int .i64 0, .int .i64 0, .bool false, .int .u8 0]) ?_ 1 _ rfl; (with_reducible repeat (first | refine zbN ?_ _ | refine zbD ?_ | refine zbA ?_ _)); refine blk_put (cs := #[.int .u8 0, .slice none 0 0, .slice none 0 0, .bool false, .slice none 0 0, .int .u8 0, .int .i64 0, .int .i64 0, .bool false, .int .u8 0]) ?_ 0 _ rfl; (with_reducible repeat (first | refine zbN ?_ _ | refine zbD ?_ | refine zbA ?_ _)); exact BK292.out) Try.underlying27 rfl (by kernel_rfl)) rfl ?_
 exact ⟨_, _, _, by first | rfl | (simp [errW_none, errW_some] <;> rfl) | (simp [*, errW_none, errW_some] <;> rfl), Kd.R_V (by (with_reducible repeat (first | apply zA | apply zN | apply zD)); exact Kd.R_mono (Kd.R_far (p := ⟨gb292, 9, none⟩) (Kd.R_far (p := ⟨gb292, 8, none⟩) (Kd.R_far (p := ⟨gb292, 7, none⟩) (Kd.R_far (p := ⟨gb292, 6, none⟩) (Kd.R_far (p := ⟨gb292, 5, none⟩) (Kd.R_far (p := ⟨gb292, 4, none⟩) (Kd.R_far (p := ⟨gb292, 3, none⟩) (Kd.R_far (p := ⟨gb292, 2, none⟩) (Kd.R_far (p := ⟨gb292, 1, none⟩) (Kd.R_far (p := ⟨gb292, 0, none⟩) (Kd.R_types (Kd.R_apart' HO295.out (Kd.R_typed HO298.out) (by decide)) BK292.out (by decide)) (fun _ hk => hk.2) (.int .u8 2)) (fun _ hk => hk.2) (.slice Ao6 y293.length co6)) (fun _ hk => hk.2) (.slice Ao7 y296.length co7)) (fun _ hk => hk.2) (.bool false)) (fun _ hk => hk.2) (.slice Ao6 y293.length co6)) (fun _ hk => hk.2) (.int .u8 1)) (fun _ hk => hk.2) (.int .i64 5)) (fun _ hk => hk.2) (.int .i64 0)) (fun _ hk => hk.2) (.bool false)) (fun _ hk => hk.2) (.int .u8 2)) (fun _ hk => ⟨hk.1.1.1, hk.1.2⟩)), by (with_reducible repeat (first | apply zA | apply zN | apply zD)); exact Kd.R_mono (Kd.R_far (p := ⟨gb292, 9, none⟩) (Kd.R_far (p := ⟨gb292, 8, none⟩) (Kd.R_far (p := ⟨gb292, 7, none⟩) (Kd.R_far (p := ⟨gb292, 6, none⟩) (Kd.R_far (p := ⟨gb292, 5, none⟩) (Kd.R_far (p := ⟨gb292, 4, none⟩) (Kd.R_far (p := ⟨gb292, 3, none⟩) (Kd.R_far (p := ⟨gb292, 2, none⟩) (Kd.R_far (p := ⟨gb292, 1, none⟩) (Kd.R_far (p := ⟨gb292, 0, none⟩) (Kd.R_types HO298.out BK292.out (by decide)) (fun _ hk => hk.2) (.int .u8 2)) (fun _ hk => hk.2) (.slice Ao6 y293.length co6)) (fun _ hk => hk.2) (.slice Ao7 y296.length co7)) (fun _ hk => hk.2) (.bool false)) (fun _ hk => hk.2) (.slice Ao6 y293.length co6)) (fun _ hk => hk.2) (.int .u8 1)) (fun _ hk => hk.2) (.int .i64 5)) (fun _ hk => hk.2) (.int .i64 0)) (fun _ hk => hk.2) (.bool false)) (fun _ hk => hk.2) (.int .u8 2)) (fun _ hk => hk.1.1), Kd.R_V (by (with_reducible repeat (first | apply zA | apply zN | apply zD)); exact Kd.R_mono (Kd.R_far (p := ⟨gb292, 9, none⟩) (Kd.R_far (p := ⟨gb292, 8, none⟩) (Kd.R_far (p := ⟨gb292, 7, none⟩) (Kd.R_far (p := ⟨gb292, 6, none⟩) (Kd.R_far (p := ⟨gb292, 5, none⟩) (Kd.R_far (p := ⟨gb292, 4, none⟩) (Kd.R_far (p := ⟨gb292, 3, none⟩) (Kd.R_far (p := ⟨gb292, 2, none⟩) (Kd.R_far (p := ⟨gb292, 1, none⟩) (Kd.R_far (p := ⟨gb292, 0, none⟩) (Kd.R_types (Kd.R_apart' HO295.out (Kd.R_typed HO298.out) (by decide)) BK292.out (by decide)) (fun _ hk => hk.2) (.int .u8 2)) (fun _ hk => hk.2) (.slice Ao6 y293.length co6)) (fun _ hk => hk.2) (.slice Ao7 y296.length co7)) (fun _ hk => hk.2) (.bool false)) (fun _ hk => hk.2) (.slice Ao6 y293.length co6)) (fun _ hk => hk.2) (.int .u8 1)) (fun _ hk => hk.2) (.int .i64 5)) (fun _ hk => hk.2) (.int .i64 0)) (fun _ hk => hk.2) (.bool false)) (fun _ hk => hk.2) (.int .u8 2)) (fun _ hk => ⟨hk.1.1.1, hk.1.2⟩)), by repeat (first | (with_reducible first | exact HB.out | apply zC | apply zP | apply zO | refine zS ?_ GE292.out) | exact HB.out)⟩

/-! ### clauses_Name: function 27 -/
def clauses_Name.f (a0 : Int) : Option (ByteArray × Int) := if a0 < 0 then (some ((⟨#[]⟩ : ByteArray), 2)) else (if a0 ≥ 4 then (some ((⟨#[]⟩ : ByteArray), 2)) else (if 0 ≤ a0 then (if a0 ≤ (wrap64 (a0 + 1)) then (if (wrap64 (a0 + 1)) ≤ 4 then (some ((⟨#[97, 98, 99, 100]⟩ : ByteArray).extract (a0 : Int).toNat ((wrap64 (a0 + 1)) : Int).toNat, 0)) else (none)) else (none)) else (none)))
set_option maxHeartbeats 8000000 in
set_option maxRecDepth 100000 in
theorem clauses_Name.calls (a0 : Int) (r1 : ByteArray) (r2 : Int) (w : World) (h : clauses_Name.f a0 = some (r1, r2)) :
  Calls Try.prog 27 #[.int .i64 a0] w fun e w' => e = .returned (.tuple #[.string r1, .int .i64 r2]) ∧ Drawn0 w w' := by
 have H : (if a0 < 0 then (some ((⟨#[]⟩ : ByteArray), 2)) else (if a0 ≥ 4 then (some ((⟨#[]⟩ : ByteArray), 2)) else (if 0 ≤ a0 then (if a0 ≤ (wrap64 (a0 + 1)) then (if (wrap64 (a0 + 1)) ≤ 4 then (some ((⟨#[97, 98, 99, 100]⟩ : ByteArray).extract (a0 : Int).toNat ((wrap64 (a0 + 1)) : Int).toNat, 0)) else (none)) else (none)) else (none)))) = some (r1, r2) := h
 clear h
 by_cases c2 : a0 < 0
 ·
  rw [if_pos c2] at H
  have c2b0 : decide (a0 < 0) = true := decide_eq_true c2
  clear c2
  simp only [Option.some.injEq, Prod.mk.injEq] at H
  obtain ⟨rfl, rfl⟩ := H
  go_enter Try.func27, Try.ntmps27
  go_wp2
  go_ret2
  exact ⟨by first | rfl | (simp; done) | (simp [*]; done), by repeat (first | exact Drawn0.refl _ | apply Drawn0.step)⟩
 ·
  rw [if_neg c2] at H
  have c2b0 : decide (a0 < 0) = false := decide_eq_false c2
  clear c2
  by_cases c3 : a0 ≥ 4
  ·
   rw [if_pos c3] at H
   have c3b0 : decide (4 ≤ a0) = true := decide_eq_true c3
   clear c3
   simp only [Option.some.injEq, Prod.mk.injEq] at H
   obtain ⟨rfl, rfl⟩ := H
   go_enter Try.func27, Try.ntmps27
   go_wp2
   go_ret2
   exact ⟨by first | rfl | (simp; done) | (simp [*]; done), by repeat (first | exact Drawn0.refl _ | apply Drawn0.step)⟩
  ·
   rw [if_neg c3] at H
   have c3b0 : decide (4 ≤ a0) = false := decide_eq_false c3
   clear c3
   by_cases c4 : 0 ≤ a0
   ·
    rw [if_pos c4] at H
    have c4b0 := eq_true c4
    have c4b1 : decide (0 ≤ a0) = true := decide_eq_true c4
    clear c4
    by_cases c5 : a0 ≤ (wrap64 (a0 + 1))
    ·
     rw [if_pos c5] at H
     have c5b0 := eq_true c5
     have c5b1 : decide (a0 ≤ (wrap64 (a0 + 1))) = true := decide_eq_true c5
     by_cases c6 : (wrap64 (a0 + 1)) ≤ 4
     ·
      rw [if_pos c6] at H
      have c6b0 := eq_true c6
      have c6b1 : decide ((wrap64 (a0 + 1)) ≤ 4) = true := decide_eq_true c6
      simp only [Option.some.injEq, Prod.mk.injEq] at H
      obtain ⟨rfl, rfl⟩ := H
      go_enter Try.func27, Try.ntmps27
      go_wp2
      go_ret2
      exact ⟨by first | rfl | (simp; done) | (simp [*]; done), by repeat (first | exact Drawn0.refl _ | apply Drawn0.step)⟩
     ·
      rw [if_neg c6] at H
      exact absurd H (by simp)
    ·
     rw [if_neg c5] at H
     exact absurd H (by simp)
   ·
    rw [if_neg c4] at H
    exact absurd H (by simp)

/-! ### clauses_Source: function 28 -/
def clauses_Source.l0 : Nat → ByteArray → Int → Option (Int × Int)
 | 0, _, _ => none
 | k + 1, x0, x5 => if x5 < 4 then (if 0 ≤ x5 then (if x5 ≤ (wrap64 (x5 + 1)) then (if (wrap64 (x5 + 1)) ≤ 4 then (if ((⟨#[97, 98, 99, 100]⟩ : ByteArray).extract (x5 : Int).toNat ((wrap64 (x5 + 1)) : Int).toNat).toList = x0.toList then (some (x5, 0)) else (clauses_Source.l0 k x0 (wrap64 (x5 + 1)))) else (none)) else (none)) else (none)) else (some (0, 2))
def clauses_Source.f (k : Nat) (a0 : ByteArray) : Option (Int × Int) := clauses_Source.l0 k a0 0
theorem clauses_Source.mono_l : ∀ k, (∀ y0 y1, LeO (clauses_Source.l0 k y0 y1) (clauses_Source.l0 (k + 1) y0 y1))
 | 0 => fun _ _ r h => by simp [clauses_Source.l0] at h
 | k + 1 => by
  have ih0 := clauses_Source.mono_l k
  ·
   intro y0 y1
   unfold clauses_Source.l0
   repeat' first
   | (with_reducible exact ih0 _ _)
   | (with_reducible exact LeO.refl _)
   | (with_reducible exact LeO.none _)
   | (with_reducible refine LeO.ite ?_ ?_)
   | (with_reducible refine LeO.bind ?_ (fun _ => ?_))
   | exact ih0 _ _
   | exact LeO.none _
   | refine LeO.ite ?_ ?_
   | refine LeO.bind ?_ (fun _ => ?_)
theorem clauses_Source.mono : ∀ a0 k, LeO (clauses_Source.f k a0) (clauses_Source.f (k + 1) a0) := by
 intro a0 k
 have ih0 := clauses_Source.mono_l k
 unfold clauses_Source.f
 repeat' first
   | (with_reducible exact ih0 _ _)
   | (with_reducible exact LeO.refl _)
   | (with_reducible exact LeO.none _)
   | (with_reducible refine LeO.ite ?_ ?_)
   | (with_reducible refine LeO.bind ?_ (fun _ => ?_))
   | exact ih0 _ _
   | exact LeO.none _
   | refine LeO.ite ?_ ?_
   | refine LeO.bind ?_ (fun _ => ?_)
set_option maxHeartbeats 8000000 in
set_option maxRecDepth 100000 in
theorem clauses_Source.calls (k : Nat) (a0 : ByteArray) (r1 : Int) (r2 : Int) (w : World) (h : clauses_Source.f k a0 = some (r1, r2)) :
  Calls Try.prog 28 #[.string a0] w fun e w' => e = .returned (.tuple #[.int .i64 r1, .int .i64 r2]) ∧ Drawn0 w w' := by
 have H : (clauses_Source.l0 k a0 0) = some (r1, r2) := h
 clear h
 have H' := zM H
 clear H
 go_enter Try.func28, Try.ntmps28
 go_wp2
 go_loopg [5] k (fun kq v5 w' => ∃ (x5_1 : Int), v5 = .int .i64 x5_1 ∧ Aside0 (clauses_Source.l0 kq a0 x5_1 = some (r1, r2)) ∧ Aside0 (kq ≤ k) ∧ Drawn0 w w')
 case atStart => exact ⟨(0), (by first | rfl | (simp; done) | (simp [*]; done)), H', ⟨Nat.le_refl _⟩, by repeat (first | exact Drawn0.refl _ | apply Drawn0.step)⟩
 case round =>
  clear H'
  obtain ⟨x5_1, rfl, HA, HK1, ⟨m1, rfl⟩⟩ := hrel
  cases gk with
  | zero => exact absurd HA.out (by simp [clauses_Source.l0])
  | succ k1 =>
   have H := HA.out
   clear HA
   simp only [clauses_Source.l0] at H
   by_cases c2 : x5_1 < 4
   ·
    rw [if_pos c2] at H
    have c2b0 : decide (x5_1 < 4) = true := decide_eq_true c2
    clear c2
    by_cases c3 : 0 ≤ x5_1
    ·
     rw [if_pos c3] at H
     have c3b0 := eq_true c3
     have c3b1 : decide (0 ≤ x5_1) = true := decide_eq_true c3
     clear c3
     by_cases c4 : x5_1 ≤ (wrap64 (x5_1 + 1))
     ·
      rw [if_pos c4] at H
      have c4b0 := eq_true c4
      have c4b1 : decide (x5_1 ≤ (wrap64 (x5_1 + 1))) = true := decide_eq_true c4
      by_cases c5 : (wrap64 (x5_1 + 1)) ≤ 4
      ·
       rw [if_pos c5] at H
       have c5b0 := eq_true c5
       have c5b1 : decide ((wrap64 (x5_1 + 1)) ≤ 4) = true := decide_eq_true c5
       by_cases c6 : ((⟨#[97, 98, 99, 100]⟩ : ByteArray).extract (x5_1 : Int).toNat ((wrap64 (x5_1 + 1)) : Int).toNat).toList = a0.toList
       ·
        rw [if_pos c6] at H
        have c6b0 : (((⟨#[97, 98, 99, 100]⟩ : ByteArray).extract (x5_1 : Int).toNat ((wrap64 (x5_1 + 1)) : Int).toNat).toList == a0.toList) = true := beq_iff_eq.mpr c6
        have c6b1 : (((⟨#[97, 98, 99, 100]⟩ : ByteArray).extract (x5_1 : Int).toNat ((wrap64 (x5_1 + 1)) : Int).toNat).toList != a0.toList) = false := bne_eq_false_iff_eq.mpr c6
        clear c6
        simp only [Option.some.injEq, Prod.mk.injEq] at H
        obtain ⟨rfl, rfl⟩ := H
        go_wp2
        go_ret2
        exact ⟨by first | rfl | (simp; done) | (simp [*]; done), by repeat (first | exact Drawn0.refl _ | apply Drawn0.step)⟩
       ·
        rw [if_neg c6] at H
        have c6b0 : (((⟨#[97, 98, 99, 100]⟩ : ByteArray).extract (x5_1 : Int).toNat ((wrap64 (x5_1 + 1)) : Int).toNat).toList == a0.toList) = false := beq_eq_false_iff_ne.mpr c6
        have c6b1 : (((⟨#[97, 98, 99, 100]⟩ : ByteArray).extract (x5_1 : Int).toNat ((wrap64 (x5_1 + 1)) : Int).toNat).toList != a0.toList) = true := bne_iff_ne.mpr c6
        have H' := zM H
        clear H
        go_wp2
        go_roundg k1
        case measure => have := HK1.out; omega
        case rel => exact ⟨(wrap64 (x5_1 + 1)), (by first | rfl | (simp; done) | (simp [*]; done)), H', ⟨by have := HK1.out; omega⟩, by repeat (first | exact Drawn0.refl _ | apply Drawn0.step)⟩
      ·
       rw [if_neg c5] at H
       exact absurd H (by simp)
     ·
      rw [if_neg c4] at H
      exact absurd H (by simp)
    ·
     rw [if_neg c3] at H
     exact absurd H (by simp)
   ·
    rw [if_neg c2] at H
    have c2b0 : decide (x5_1 < 4) = false := decide_eq_false c2
    clear c2
    simp only [Option.some.injEq, Prod.mk.injEq] at H
    obtain ⟨rfl, rfl⟩ := H
    go_wp2
    go_ret2
    exact ⟨by first | rfl | (simp; done) | (simp [*]; done), by repeat (first | exact Drawn0.refl _ | apply Drawn0.step)⟩

end Go.Proofs.Ytpkamfjkmbakhaa.G
