-- Written by a program of this place (wip/prt.py), out of Lean's own print of the program: Lean checks it.
import Derived.Test.YtpkamfjkmbakhaaG0
import Derived.Test.YtpkamfjkmbakhaaG11
import Derived.Test.YtpkamfjkmbakhaaG12
import Derived.Test.YtpkamfjkmbakhaaGU
namespace Go.Proofs.Ytpkamfjkmbakhaa.G
open Go.RowKit Go.Proofs.YtpkamfjkmbakhaaW.PrintWords Go.Proofs.YtpkamfjkmbakhaaW.PrintLast Go.Proofs.YtpkamfjkmbakhaaW.PrintMore
attribute [local go_sem] max2_int min2_int max_two min_two max_three min_three max_four min_four   -- for this text's walks alone
set_option linter.unusedVariables false
set_option linter.unusedSimpArgs false

/-! ### tailwaterlaw08_alive: function 18 -/
def tailwaterlaw08_alive.f (k : Nat)  : Option (Bool) := (tailwaterlaw08_slide.f k 10 3).bind fun t160 => (if t160 = 0 then ((tailwaterlaw08_slide.f k 10 11).bind fun t161 => (if t161 = 8 then ((tailwaterlaw08_slide.f k 17 1).bind fun t162 => (if t162 = 8 then ((clauses_Sources.f (([2, 0] : List Int)) false).bind fun t166 => (if t166 = 0 then ((clauses_Sources.f (([2, 2] : List Int)) false).bind fun t170 => (if t170 = 43 then ((clauses_Sources.f (([2] : List Int)) true).bind fun t174 => (some (t174 == 8))) else (some false))) else (some false))) else (some false))) else (some false))) else (some false))
theorem tailwaterlaw08_alive.mono : ∀ k, LeO (tailwaterlaw08_alive.f k ) (tailwaterlaw08_alive.f (k + 1) ) := by
 intro  k
 unfold tailwaterlaw08_alive.f
 repeat' first
   | (with_reducible exact tailwaterlaw08_slide.mono _ _ _)
   | (with_reducible exact LeO.refl _)
   | (with_reducible exact LeO.none _)
   | (with_reducible refine LeO.ite ?_ ?_)
   | (with_reducible refine LeO.bind ?_ (fun _ => ?_))
   | exact tailwaterlaw08_slide.mono _ _ _
   | exact LeO.none _
   | refine LeO.ite ?_ ?_
   | refine LeO.bind ?_ (fun _ => ?_)
set_option maxHeartbeats 8000000 in
set_option maxRecDepth 100000 in
theorem tailwaterlaw08_alive.calls (k : Nat)  (r : Bool) (w : World) (h : tailwaterlaw08_alive.f k  = some r) :
  Calls Try.prog 18 #[] w fun e w' => e = .returned (.bool r) ∧ Below w.heap.size w w' := by
 have HB := zM (Below.refl w.heap.size w)
 have H : ((tailwaterlaw08_slide.f k 10 3).bind fun t160 => (if t160 = 0 then ((tailwaterlaw08_slide.f k 10 11).bind fun t161 => (if t161 = 8 then ((tailwaterlaw08_slide.f k 17 1).bind fun t162 => (if t162 = 8 then ((clauses_Sources.f (([2, 0] : List Int)) false).bind fun t166 => (if t166 = 0 then ((clauses_Sources.f (([2, 2] : List Int)) false).bind fun t170 => (if t170 = 43 then ((clauses_Sources.f (([2] : List Int)) true).bind fun t174 => (some (t174 == 8))) else (some false))) else (some false))) else (some false))) else (some false))) else (some false))) = some r := h
 clear h
 replace H := Option.bind_eq_some_iff.mp H
 obtain ⟨t160, A10, H⟩ := H
 replace H : (if t160 = 0 then ((tailwaterlaw08_slide.f k 10 11).bind fun t161 => (if t161 = 8 then ((tailwaterlaw08_slide.f k 17 1).bind fun t162 => (if t162 = 8 then ((clauses_Sources.f (([2, 0] : List Int)) false).bind fun t166 => (if t166 = 0 then ((clauses_Sources.f (([2, 2] : List Int)) false).bind fun t170 => (if t170 = 43 then ((clauses_Sources.f (([2] : List Int)) true).bind fun t174 => (some (t174 == 8))) else (some false))) else (some false))) else (some false))) else (some false))) else (some false)) = some r := H
 have A1 := zM A10
 clear A10
 by_cases c2 : t160 = 0
 ·
  rw [if_pos c2] at H
  have c2b0 : (t160 == 0) = true := beq_iff_eq.mpr c2
  have c2b1 : (t160 != 0) = false := bne_eq_false_iff_eq.mpr c2
  clear c2
  replace H := Option.bind_eq_some_iff.mp H
  obtain ⟨t161, A30, H⟩ := H
  replace H : (if t161 = 8 then ((tailwaterlaw08_slide.f k 17 1).bind fun t162 => (if t162 = 8 then ((clauses_Sources.f (([2, 0] : List Int)) false).bind fun t166 => (if t166 = 0 then ((clauses_Sources.f (([2, 2] : List Int)) false).bind fun t170 => (if t170 = 43 then ((clauses_Sources.f (([2] : List Int)) true).bind fun t174 => (some (t174 == 8))) else (some false))) else (some false))) else (some false))) else (some false)) = some r := H
  have A3 := zM A30
  clear A30
  by_cases c4 : t161 = 8
  ·
   rw [if_pos c4] at H
   have c4b0 : (t161 == 8) = true := beq_iff_eq.mpr c4
   have c4b1 : (t161 != 8) = false := bne_eq_false_iff_eq.mpr c4
   clear c4
   replace H := Option.bind_eq_some_iff.mp H
   obtain ⟨t162, A50, H⟩ := H
   replace H : (if t162 = 8 then ((clauses_Sources.f (([2, 0] : List Int)) false).bind fun t166 => (if t166 = 0 then ((clauses_Sources.f (([2, 2] : List Int)) false).bind fun t170 => (if t170 = 43 then ((clauses_Sources.f (([2] : List Int)) true).bind fun t174 => (some (t174 == 8))) else (some false))) else (some false))) else (some false)) = some r := H
   have A5 := zM A50
   clear A50
   by_cases c6 : t162 = 8
   ·
    rw [if_pos c6] at H
    have c6b0 : (t162 == 8) = true := beq_iff_eq.mpr c6
    have c6b1 : (t162 != 8) = false := bne_eq_false_iff_eq.mpr c6
    clear c6
    obtain ⟨y163, hy163⟩ : ∃ y_ : List Int, y_ = (([2, 0] : List Int)) := ⟨_, rfl⟩
    replace H : ((clauses_Sources.f y163 false).bind fun t166 => (if t166 = 0 then ((clauses_Sources.f (([2, 2] : List Int)) false).bind fun t170 => (if t170 = 43 then ((clauses_Sources.f (([2] : List Int)) true).bind fun t174 => (some (t174 == 8))) else (some false))) else (some false))) = some r := by first | (rw [hy163]; with_reducible exact H) | (have H2_ := (Option.bind_some _ _).symm.trans H; rw [hy163]; with_reducible exact H2_) | (have H2_ := (Option.bind_some _ _).symm.trans H; with_reducible exact H2_) | with_reducible exact H | (rw [hy163]; exact H) | exact H
    have Ny163 := zM hy163
    clear hy163
    replace H := Option.bind_eq_some_iff.mp H
    obtain ⟨t166, A70, H⟩ := H
    replace H : (if t166 = 0 then ((clauses_Sources.f (([2, 2] : List Int)) false).bind fun t170 => (if t170 = 43 then ((clauses_Sources.f (([2] : List Int)) true).bind fun t174 => (some (t174 == 8))) else (some false))) else (some false)) = some r := H
    have A7 := zM A70
    clear A70
    by_cases c8 : t166 = 0
    ·
     rw [if_pos c8] at H
     have c8b0 : (t166 == 0) = true := beq_iff_eq.mpr c8
     have c8b1 : (t166 != 0) = false := bne_eq_false_iff_eq.mpr c8
     clear c8
     obtain ⟨y167, hy167⟩ : ∃ y_ : List Int, y_ = (([2, 2] : List Int)) := ⟨_, rfl⟩
     replace H : ((clauses_Sources.f y167 false).bind fun t170 => (if t170 = 43 then ((clauses_Sources.f (([2] : List Int)) true).bind fun t174 => (some (t174 == 8))) else (some false))) = some r := by first | (rw [hy167]; with_reducible exact H) | (have H2_ := (Option.bind_some _ _).symm.trans H; rw [hy167]; with_reducible exact H2_) | (have H2_ := (Option.bind_some _ _).symm.trans H; with_reducible exact H2_) | with_reducible exact H | (rw [hy167]; exact H) | exact H
     have Ny167 := zM hy167
     clear hy167
     replace H := Option.bind_eq_some_iff.mp H
     obtain ⟨t170, A90, H⟩ := H
     replace H : (if t170 = 43 then ((clauses_Sources.f (([2] : List Int)) true).bind fun t174 => (some (t174 == 8))) else (some false)) = some r := H
     have A9 := zM A90
     clear A90
     by_cases c10 : t170 = 43
     ·
      rw [if_pos c10] at H
      have c10b0 : (t170 == 43) = true := beq_iff_eq.mpr c10
      have c10b1 : (t170 != 43) = false := bne_eq_false_iff_eq.mpr c10
      clear c10
      obtain ⟨y171, hy171⟩ : ∃ y_ : List Int, y_ = (([2] : List Int)) := ⟨_, rfl⟩
      replace H : ((clauses_Sources.f y171 true).bind fun t174 => (some (t174 == 8))) = some r := by first | (rw [hy171]; with_reducible exact H) | (have H2_ := (Option.bind_some _ _).symm.trans H; rw [hy171]; with_reducible exact H2_) | (have H2_ := (Option.bind_some _ _).symm.trans H; with_reducible exact H2_) | with_reducible exact H | (rw [hy171]; exact H) | exact H
      have Ny171 := zM hy171
      clear hy171
      replace H := Option.bind_eq_some_iff.mp H
      obtain ⟨t174, A110, H⟩ := H
      replace H : (some (t174 == 8)) = some r := H
      have A11 := zM A110
      clear A110
      obtain rfl := Option.some.inj H
      go_enter Try.func18, Try.ntmps18
      go_wp2_with (first | ((with_reducible refine gate_callee (f := 23) rfl ?_); refine goesL_ (some 1) rfl rfl Try.func23 (by kernel_rfl) rfl #[.int .i64 10, .int .i64 3] rfl (by (try simp only [List.map_toArray, List.map_cons, List.map_nil]); first | done | rfl | (simp only [List.length_drop, List.length_take]; rfl)) ?_; (with_reducible refine (tailwaterlaw08_slide.calls k 10 3 t160 _ A1.out).mono ?_); rintro e w12 ⟨rfl, hb⟩; refine ⟨_, rfl, ?_⟩; have n0_ := zM (zT (by repeat (first | (with_reducible first | exact HB.out | apply zC | apply zP | apply zO) | exact HB.out)) hb); clear HB; have HB := n0_; clear n0_; (try clear hb); (try clear hb2); (try clear hk); (try clear hi)) | (go_at_call 23; (with_reducible refine (tailwaterlaw08_slide.calls k 10 11 t161 _ A3.out).mono ?_); rintro e w13 ⟨rfl, hb⟩; have n0_ := zM (zT (by repeat (first | (with_reducible first | exact HB.out | apply zC | apply zP | apply zO) | exact HB.out)) hb); clear HB; have HB := n0_; clear n0_; (try clear hb); (try clear hb2); (try clear hk); (try clear hi)) | (go_at_call 23; (with_reducible refine (tailwaterlaw08_slide.calls k 17 1 t162 _ A5.out).mono ?_); rintro e w14 ⟨rfl, hb⟩; have n0_ := zM (zT (by repeat (first | (with_reducible first | exact HB.out | apply zC | apply zP | apply zO) | exact HB.out)) hb); clear HB; have HB := n0_; clear n0_; (try clear hb); (try clear hb2); (try clear hk); (try clear hi)) | ((with_reducible refine gate_dst (N := 12) rfl ?_); (try (refine gate_guard (by rfl) ?_; dsimp only)); refine Kd.R_lit (Kd.int .i64) _ 3 ?hg (N := 12) ?hd (xs := ([2, 0] : List Int)) (inner := [.int .i64 2, .int .i64 0]) (ok := fun _ => True) (okp := fun _ => True) ?hr ?hp (fun _ hk => hk) trivial (Below.refl _ _) (Nat.le_refl _) (by simp) ?_; (case hd => rfl); (case hg => rfl); (case hr => first | (go_simp; done) | (go_simp; rfl)); (case hp => exact (Reps.one (show Kd.M (Kd.int .i64) _ _ _ 2 [.int .i64 2] from rfl) (Reps.one (show Kd.M (Kd.int .i64) _ _ _ 0 [.int .i64 0] from rfl) (Reps.none _ _)))); intro v164 w15 ho16 hb hg_ hnew_; clear hg_ hnew_; (first | rw [← Ny163.out] at ho16 | (simp only [Int.reduceToNat] at ho16; rw [← Ny163.out] at ho16)); have n0_ := zM (Kd.R_lower ho16 (zZ (by repeat (first | (with_reducible first | exact HB.out | apply zC | apply zP | apply zO) | exact HB.out)))); have n1_ := zM (zT (by repeat (first | (with_reducible first | exact HB.out | apply zC | apply zP | apply zO) | exact HB.out)) hb); clear HB; have HO165 := n0_; have HB := n1_; clear n0_ n1_; clear hb ho16; obtain ⟨Ao17, co17, eo17⟩ := Kd.R_slice HO165.out; subst eo17) | (go_at_call 24; (with_reducible refine (clauses_Sources.calls _ _ y163 false t166 _ ?side1 ?side2 A7.out).mono ?_); (case side1 => repeat (first | exact (Kd.R_reads' HO165.out).2.2 | (with_reducible refine zCA ?_ _) | (with_reducible refine zCN ?_ _) | (with_reducible refine zCD ?_))); (case side2 => exact (Kd.R_reads' HO165.out).2.1); rintro e w18 ⟨rfl, hb⟩; have n0_ := zM (zRB (by (with_reducible repeat (first | apply zA | apply zN | apply zD)); exact HO165.out) hb); have n1_ := zM (zT (by repeat (first | (with_reducible first | exact HB.out | apply zC | apply zP | apply zO) | exact HB.out)) hb); clear HO165; clear HB; have HO165 := n0_; have HB := n1_; clear n0_ n1_; (try clear hb); (try clear hb2); (try clear hk); (try clear hi)) | ((with_reducible refine gate_dst (N := 17) rfl ?_); (try (refine gate_guard (by rfl) ?_; dsimp only)); refine Kd.R_lit (Kd.int .i64) _ 3 ?hg (N := 17) ?hd (xs := ([2, 2] : List Int)) (inner := [.int .i64 2, .int .i64 2]) (ok := fun _ => True) (okp := fun _ => True) ?hr ?hp (fun _ hk => hk) trivial (Below.refl _ _) (Nat.le_refl _) (by simp) ?_; (case hd => rfl); (case hg => rfl); (case hr => first | (go_simp; done) | (go_simp; rfl)); (case hp => exact (Reps.one (show Kd.M (Kd.int .i64) _ _ _ 2 [.int .i64 2] from rfl) (Reps.one (show Kd.M (Kd.int .i64) _ _ _ 2 [.int .i64 2] from rfl) (Reps.none _ _)))); intro v168 w19 ho20 hb hg_ hnew_; clear hg_ hnew_; (first | rw [← Ny167.out] at ho20 | (simp only [Int.reduceToNat] at ho20; rw [← Ny167.out] at ho20)); have n0_ := zM (zE (by (with_reducible repeat (first | apply zA | apply zN | apply zD)); exact HO165.out) (zB ho20) hb); have n1_ := zM (Kd.R_lower (zW ho20 (zL (by (with_reducible repeat (first | apply zA | apply zN | apply zD)); exact HO165.out))) (zZ (by repeat (first | (with_reducible first | exact HB.out | apply zC | apply zP | apply zO) | exact HB.out)))); have n2_ := zM (zT (by repeat (first | (with_reducible first | exact HB.out | apply zC | apply zP | apply zO) | exact HB.out)) hb); clear HO165; clear HB; have HO165 := n0_; have HO169 := n1_; have HB := n2_; clear n0_ n1_ n2_; clear hb ho20; obtain ⟨Ao21, co21, eo21⟩ := Kd.R_slice HO169.out; subst eo21) | (go_at_call 24; (with_reducible refine (clauses_Sources.calls _ _ y167 false t170 _ ?side1 ?side2 A9.out).mono ?_); (case side1 => repeat (first | exact (Kd.R_reads' HO169.out).2.2 | (with_reducible refine zCA ?_ _) | (with_reducible refine zCN ?_ _) | (with_reducible refine zCD ?_))); (case side2 => exact (Kd.R_reads' HO169.out).2.1); rintro e w22 ⟨rfl, hb⟩; have n0_ := zM (zRB (by (with_reducible repeat (first | apply zA | apply zN | apply zD)); exact HO165.out) hb); have n1_ := zM (zRB (by (with_reducible repeat (first | apply zA | apply zN | apply zD)); exact HO169.out) hb); have n2_ := zM (zT (by repeat (first | (with_reducible first | exact HB.out | apply zC | apply zP | apply zO) | exact HB.out)) hb); clear HO165; clear HO169; clear HB; have HO165 := n0_; have HO169 := n1_; have HB := n2_; clear n0_ n1_ n2_; (try clear hb); (try clear hb2); (try clear hk); (try clear hi)) | ((with_reducible refine gate_dst (N := 22) rfl ?_); (try (refine gate_guard (by rfl) ?_; dsimp only)); refine Kd.R_lit (Kd.int .i64) _ 3 ?hg (N := 22) ?hd (xs := ([2] : List Int)) (inner := [.int .i64 2]) (ok := fun _ => True) (okp := fun _ => True) ?hr ?hp (fun _ hk => hk) trivial (Below.refl _ _) (Nat.le_refl _) (by simp) ?_; (case hd => rfl); (case hg => rfl); (case hr => first | (go_simp; done) | (go_simp; rfl)); (case hp => exact (Reps.one (show Kd.M (Kd.int .i64) _ _ _ 2 [.int .i64 2] from rfl) (Reps.none _ _))); intro v172 w23 ho24 hb hg_ hnew_; clear hg_ hnew_; (first | rw [← Ny171.out] at ho24 | (simp only [Int.reduceToNat] at ho24; rw [← Ny171.out] at ho24)); have n0_ := zM (zE (by (with_reducible repeat (first | apply zA | apply zN | apply zD)); exact HO165.out) (zB ho24) hb); have n1_ := zM (zE (by (with_reducible repeat (first | apply zA | apply zN | apply zD)); exact HO169.out) (zB ho24) hb); have n2_ := zM (Kd.R_lower (zW (zW ho24 (zL (by (with_reducible repeat (first | apply zA | apply zN | apply zD)); exact HO165.out))) (zL (by (with_reducible repeat (first | apply zA | apply zN | apply zD)); exact HO169.out))) (zZ (by repeat (first | (with_reducible first | exact HB.out | apply zC | apply zP | apply zO) | exact HB.out)))); have n3_ := zM (zT (by repeat (first | (with_reducible first | exact HB.out | apply zC | apply zP | apply zO) | exact HB.out)) hb); clear HO165; clear HO169; clear HB; have HO165 := n0_; have HO169 := n1_; have HO173 := n2_; have HB := n3_; clear n0_ n1_ n2_ n3_; clear hb ho24; obtain ⟨Ao25, co25, eo25⟩ := Kd.R_slice HO173.out; subst eo25) | (go_at_call 24; (with_reducible refine (clauses_Sources.calls _ _ y171 true t174 _ ?side1 ?side2 A11.out).mono ?_); (case side1 => repeat (first | exact (Kd.R_reads' HO173.out).2.2 | (with_reducible refine zCA ?_ _) | (with_reducible refine zCN ?_ _) | (with_reducible refine zCD ?_))); (case side2 => exact (Kd.R_reads' HO173.out).2.1); rintro e w26 ⟨rfl, hb⟩; have n0_ := zM (zRB (by (with_reducible repeat (first | apply zA | apply zN | apply zD)); exact HO165.out) hb); have n1_ := zM (zRB (by (with_reducible repeat (first | apply zA | apply zN | apply zD)); exact HO169.out) hb); have n2_ := zM (zRB (by (with_reducible repeat (first | apply zA | apply zN | apply zD)); exact HO173.out) hb); have n3_ := zM (zT (by repeat (first | (with_reducible first | exact HB.out | apply zC | apply zP | apply zO) | exact HB.out)) hb); clear HO165; clear HO169; clear HO173; clear HB; have HO165 := n0_; have HO169 := n1_; have HO173 := n2_; have HB := n3_; clear n0_ n1_ n2_ n3_; (try clear hb); (try clear hb2); (try clear hk); (try clear hi)))
      go_ret
      exact ⟨by first | rfl | (simp [errW_none, errW_some] <;> rfl) | (simp [*, errW_none, errW_some] <;> rfl), by repeat (first | (with_reducible first | exact HB.out | apply zC | apply zP | apply zO) | exact HB.out)⟩
     ·
      rw [if_neg c10] at H
      have c10b0 : (t170 == 43) = false := beq_eq_false_iff_ne.mpr c10
      have c10b1 : (t170 != 43) = true := bne_iff_ne.mpr c10
      obtain rfl := Option.some.inj H
      go_enter Try.func18, Try.ntmps18
      go_wp2_with (first | ((with_reducible refine gate_callee (f := 23) rfl ?_); refine goesL_ (some 1) rfl rfl Try.func23 (by kernel_rfl) rfl #[.int .i64 10, .int .i64 3] rfl (by (try simp only [List.map_toArray, List.map_cons, List.map_nil]); first | done | rfl | (simp only [List.length_drop, List.length_take]; rfl)) ?_; (with_reducible refine (tailwaterlaw08_slide.calls k 10 3 t160 _ A1.out).mono ?_); rintro e w27 ⟨rfl, hb⟩; refine ⟨_, rfl, ?_⟩; have n0_ := zM (zT (by repeat (first | (with_reducible first | exact HB.out | apply zC | apply zP | apply zO) | exact HB.out)) hb); clear HB; have HB := n0_; clear n0_; (try clear hb); (try clear hb2); (try clear hk); (try clear hi)) | (go_at_call 23; (with_reducible refine (tailwaterlaw08_slide.calls k 10 11 t161 _ A3.out).mono ?_); rintro e w28 ⟨rfl, hb⟩; have n0_ := zM (zT (by repeat (first | (with_reducible first | exact HB.out | apply zC | apply zP | apply zO) | exact HB.out)) hb); clear HB; have HB := n0_; clear n0_; (try clear hb); (try clear hb2); (try clear hk); (try clear hi)) | (go_at_call 23; (with_reducible refine (tailwaterlaw08_slide.calls k 17 1 t162 _ A5.out).mono ?_); rintro e w29 ⟨rfl, hb⟩; have n0_ := zM (zT (by repeat (first | (with_reducible first | exact HB.out | apply zC | apply zP | apply zO) | exact HB.out)) hb); clear HB; have HB := n0_; clear n0_; (try clear hb); (try clear hb2); (try clear hk); (try clear hi)) | ((with_reducible refine gate_dst (N := 12) rfl ?_); (try (refine gate_guard (by rfl) ?_; dsimp only)); refine Kd.R_lit (Kd.int .i64) _ 3 ?hg (N := 12) ?hd (xs := ([2, 0] : List Int)) (inner := [.int .i64 2, .int .i64 0]) (ok := fun _ => True) (okp := fun _ => True) ?hr ?hp (fun _ hk => hk) trivial (Below.refl _ _) (Nat.le_refl _) (by simp) ?_; (case hd => rfl); (case hg => rfl); (case hr => first | (go_simp; done) | (go_simp; rfl)); (case hp => exact (Reps.one (show Kd.M (Kd.int .i64) _ _ _ 2 [.int .i64 2] from rfl) (Reps.one (show Kd.M (Kd.int .i64) _ _ _ 0 [.int .i64 0] from rfl) (Reps.none _ _)))); intro v164 w30 ho31 hb hg_ hnew_; clear hg_ hnew_; (first | rw [← Ny163.out] at ho31 | (simp only [Int.reduceToNat] at ho31; rw [← Ny163.out] at ho31)); have n0_ := zM (Kd.R_lower ho31 (zZ (by repeat (first | (with_reducible first | exact HB.out | apply zC | apply zP | apply zO) | exact HB.out)))); have n1_ := zM (zT (by repeat (first | (with_reducible first | exact HB.out | apply zC | apply zP | apply zO) | exact HB.out)) hb); clear HB; have HO165 := n0_; have HB := n1_; clear n0_ n1_; clear hb ho31; obtain ⟨Ao32, co32, eo32⟩ := Kd.R_slice HO165.out; subst eo32) | (go_at_call 24; (with_reducible refine (clauses_Sources.calls _ _ y163 false t166 _ ?side1 ?side2 A7.out).mono ?_); (case side1 => repeat (first | exact (Kd.R_reads' HO165.out).2.2 | (with_reducible refine zCA ?_ _) | (with_reducible refine zCN ?_ _) | (with_reducible refine zCD ?_))); (case side2 => exact (Kd.R_reads' HO165.out).2.1); rintro e w33 ⟨rfl, hb⟩; have n0_ := zM (zRB (by (with_reducible repeat (first | apply zA | apply zN | apply zD)); exact HO165.out) hb); have n1_ := zM (zT (by repeat (first | (with_reducible first | exact HB.out | apply zC | apply zP | apply zO) | exact HB.out)) hb); clear HO165; clear HB; have HO165 := n0_; have HB := n1_; clear n0_ n1_; (try clear hb); (try clear hb2); (try clear hk); (try clear hi)) | ((with_reducible refine gate_dst (N := 17) rfl ?_); (try (refine gate_guard (by rfl) ?_; dsimp only)); refine Kd.R_lit (Kd.int .i64) _ 3 ?hg (N := 17) ?hd (xs := ([2, 2] : List Int)) (inner := [.int .i64 2, .int .i64 2]) (ok := fun _ => True) (okp := fun _ => True) ?hr ?hp (fun _ hk => hk) trivial (Below.refl _ _) (Nat.le_refl _) (by simp) ?_; (case hd => rfl); (case hg => rfl); (case hr => first | (go_simp; done) | (go_simp; rfl)); (case hp => exact (Reps.one (show Kd.M (Kd.int .i64) _ _ _ 2 [.int .i64 2] from rfl) (Reps.one (show Kd.M (Kd.int .i64) _ _ _ 2 [.int .i64 2] from rfl) (Reps.none _ _)))); intro v168 w34 ho35 hb hg_ hnew_; clear hg_ hnew_; (first | rw [← Ny167.out] at ho35 | (simp only [Int.reduceToNat] at ho35; rw [← Ny167.out] at ho35)); have n0_ := zM (zE (by (with_reducible repeat (first | apply zA | apply zN | apply zD)); exact HO165.out) (zB ho35) hb); have n1_ := zM (Kd.R_lower (zW ho35 (zL (by (with_reducible repeat (first | apply zA | apply zN | apply zD)); exact HO165.out))) (zZ (by repeat (first | (with_reducible first | exact HB.out | apply zC | apply zP | apply zO) | exact HB.out)))); have n2_ := zM (zT (by repeat (first | (with_reducible first | exact HB.out | apply zC | apply zP | apply zO) | exact HB.out)) hb); clear HO165; clear HB; have HO165 := n0_; have HO169 := n1_; have HB := n2_; clear n0_ n1_ n2_; clear hb ho35; obtain ⟨Ao36, co36, eo36⟩ := Kd.R_slice HO169.out; subst eo36) | (go_at_call 24; (with_reducible refine (clauses_Sources.calls _ _ y167 false t170 _ ?side1 ?side2 A9.out).mono ?_); (case side1 => repeat (first | exact (Kd.R_reads' HO169.out).2.2 | (with_reducible refine zCA ?_ _) | (with_reducible refine zCN ?_ _) | (with_reducible refine zCD ?_))); (case side2 => exact (Kd.R_reads' HO169.out).2.1); rintro e w37 ⟨rfl, hb⟩; have n0_ := zM (zRB (by (with_reducible repeat (first | apply zA | apply zN | apply zD)); exact HO165.out) hb); have n1_ := zM (zRB (by (with_reducible repeat (first | apply zA | apply zN | apply zD)); exact HO169.out) hb); have n2_ := zM (zT (by repeat (first | (with_reducible first | exact HB.out | apply zC | apply zP | apply zO) | exact HB.out)) hb); clear HO165; clear HO169; clear HB; have HO165 := n0_; have HO169 := n1_; have HB := n2_; clear n0_ n1_ n2_; (try clear hb); (try clear hb2); (try clear hk); (try clear hi)))
      go_ret
      exact ⟨by first | rfl | (simp [errW_none, errW_some] <;> rfl) | (simp [*, errW_none, errW_some] <;> rfl), by repeat (first | (with_reducible first | exact HB.out | apply zC | apply zP | apply zO) | exact HB.out)⟩
    ·
     rw [if_neg c8] at H
     have c8b0 : (t166 == 0) = false := beq_eq_false_iff_ne.mpr c8
     have c8b1 : (t166 != 0) = true := bne_iff_ne.mpr c8
     obtain rfl := Option.some.inj H
     go_enter Try.func18, Try.ntmps18
     go_wp2_with (first | ((with_reducible refine gate_callee (f := 23) rfl ?_); refine goesL_ (some 1) rfl rfl Try.func23 (by kernel_rfl) rfl #[.int .i64 10, .int .i64 3] rfl (by (try simp only [List.map_toArray, List.map_cons, List.map_nil]); first | done | rfl | (simp only [List.length_drop, List.length_take]; rfl)) ?_; (with_reducible refine (tailwaterlaw08_slide.calls k 10 3 t160 _ A1.out).mono ?_); rintro e w38 ⟨rfl, hb⟩; refine ⟨_, rfl, ?_⟩; have n0_ := zM (zT (by repeat (first | (with_reducible first | exact HB.out | apply zC | apply zP | apply zO) | exact HB.out)) hb); clear HB; have HB := n0_; clear n0_; (try clear hb); (try clear hb2); (try clear hk); (try clear hi)) | (go_at_call 23; (with_reducible refine (tailwaterlaw08_slide.calls k 10 11 t161 _ A3.out).mono ?_); rintro e w39 ⟨rfl, hb⟩; have n0_ := zM (zT (by repeat (first | (with_reducible first | exact HB.out | apply zC | apply zP | apply zO) | exact HB.out)) hb); clear HB; have HB := n0_; clear n0_; (try clear hb); (try clear hb2); (try clear hk); (try clear hi)) | (go_at_call 23; (with_reducible refine (tailwaterlaw08_slide.calls k 17 1 t162 _ A5.out).mono ?_); rintro e w40 ⟨rfl, hb⟩; have n0_ := zM (zT (by repeat (first | (with_reducible first | exact HB.out | apply zC | apply zP | apply zO) | exact HB.out)) hb); clear HB; have HB := n0_; clear n0_; (try clear hb); (try clear hb2); (try clear hk); (try clear hi)) | ((with_reducible refine gate_dst (N := 12) rfl ?_); (try (refine gate_guard (by rfl) ?_; dsimp only)); refine Kd.R_lit (Kd.int .i64) _ 3 ?hg (N := 12) ?hd (xs := ([2, 0] : List Int)) (inner := [.int .i64 2, .int .i64 0]) (ok := fun _ => True) (okp := fun _ => True) ?hr ?hp (fun _ hk => hk) trivial (Below.refl _ _) (Nat.le_refl _) (by simp) ?_; (case hd => rfl); (case hg => rfl); (case hr => first | (go_simp; done) | (go_simp; rfl)); (case hp => exact (Reps.one (show Kd.M (Kd.int .i64) _ _ _ 2 [.int .i64 2] from rfl) (Reps.one (show Kd.M (Kd.int .i64) _ _ _ 0 [.int .i64 0] from rfl) (Reps.none _ _)))); intro v164 w41 ho42 hb hg_ hnew_; clear hg_ hnew_; (first | rw [← Ny163.out] at ho42 | (simp only [Int.reduceToNat] at ho42; rw [← Ny163.out] at ho42)); have n0_ := zM (Kd.R_lower ho42 (zZ (by repeat (first | (with_reducible first | exact HB.out | apply zC | apply zP | apply zO) | exact HB.out)))); have n1_ := zM (zT (by repeat (first | (with_reducible first | exact HB.out | apply zC | apply zP | apply zO) | exact HB.out)) hb); clear HB; have HO165 := n0_; have HB := n1_; clear n0_ n1_; clear hb ho42; obtain ⟨Ao43, co43, eo43⟩ := Kd.R_slice HO165.out; subst eo43) | (go_at_call 24; (with_reducible refine (clauses_Sources.calls _ _ y163 false t166 _ ?side1 ?side2 A7.out).mono ?_); (case side1 => repeat (first | exact (Kd.R_reads' HO165.out).2.2 | (with_reducible refine zCA ?_ _) | (with_reducible refine zCN ?_ _) | (with_reducible refine zCD ?_))); (case side2 => exact (Kd.R_reads' HO165.out).2.1); rintro e w44 ⟨rfl, hb⟩; have n0_ := zM (zRB (by (with_reducible repeat (first | apply zA | apply zN | apply zD)); exact HO165.out) hb); have n1_ := zM (zT (by repeat (first | (with_reducible first | exact HB.out | apply zC | apply zP | apply zO) | exact HB.out)) hb); clear HO165; clear HB; have HO165 := n0_; have HB := n1_; clear n0_ n1_; (try clear hb); (try clear hb2); (try clear hk); (try clear hi)))
     go_ret
     exact ⟨by first | rfl | (simp [errW_none, errW_some] <;> rfl) | (simp [*, errW_none, errW_some] <;> rfl), by repeat (first | (with_reducible first | exact HB.out | apply zC | apply zP | apply zO) | exact HB.out)⟩
   ·
    rw [if_neg c6] at H
    have c6b0 : (t162 == 8) = false := beq_eq_false_iff_ne.mpr c6
    have c6b1 : (t162 != 8) = true := bne_iff_ne.mpr c6
    obtain rfl := Option.some.inj H
    go_enter Try.func18, Try.ntmps18
    go_wp2_with (first | ((with_reducible refine gate_callee (f := 23) rfl ?_); refine goesL_ (some 1) rfl rfl Try.func23 (by kernel_rfl) rfl #[.int .i64 10, .int .i64 3] rfl (by (try simp only [List.map_toArray, List.map_cons, List.map_nil]); first | done | rfl | (simp only [List.length_drop, List.length_take]; rfl)) ?_; (with_reducible refine (tailwaterlaw08_slide.calls k 10 3 t160 _ A1.out).mono ?_); rintro e w45 ⟨rfl, hb⟩; refine ⟨_, rfl, ?_⟩; have n0_ := zM (zT (by repeat (first | (with_reducible first | exact HB.out | apply zC | apply zP | apply zO) | exact HB.out)) hb); clear HB; have HB := n0_; clear n0_; (try clear hb); (try clear hb2); (try clear hk); (try clear hi)) | (go_at_call 23; (with_reducible refine (tailwaterlaw08_slide.calls k 10 11 t161 _ A3.out).mono ?_); rintro e w46 ⟨rfl, hb⟩; have n0_ := zM (zT (by repeat (first | (with_reducible first | exact HB.out | apply zC | apply zP | apply zO) | exact HB.out)) hb); clear HB; have HB := n0_; clear n0_; (try clear hb); (try clear hb2); (try clear hk); (try clear hi)) | (go_at_call 23; (with_reducible refine (tailwaterlaw08_slide.calls k 17 1 t162 _ A5.out).mono ?_); rintro e w47 ⟨rfl, hb⟩; have n0_ := zM (zT (by repeat (first | (with_reducible first | exact HB.out | apply zC | apply zP | apply zO) | exact HB.out)) hb); clear HB; have HB := n0_; clear n0_; (try clear hb); (try clear hb2); (try clear hk); (try clear hi)))
    go_ret
    exact ⟨by first | rfl | (simp [errW_none, errW_some] <;> rfl) | (simp [*, errW_none, errW_some] <;> rfl), by repeat (first | (with_reducible first | exact HB.out | apply zC | apply zP | apply zO) | exact HB.out)⟩
  ·
   rw [if_neg c4] at H
   have c4b0 : (t161 == 8) = false := beq_eq_false_iff_ne.mpr c4
   have c4b1 : (t161 != 8) = true := bne_iff_ne.mpr c4
   obtain rfl := Option.some.inj H
   go_enter Try.func18, Try.ntmps18
   go_wp2_with (first | ((with_reducible refine gate_callee (f := 23) rfl ?_); refine goesL_ (some 1) rfl rfl Try.func23 (by kernel_rfl) rfl #[.int .i64 10, .int .i64 3] rfl (by (try simp only [List.map_toArray, List.map_cons, List.map_nil]); first | done | rfl | (simp only [List.length_drop, List.length_take]; rfl)) ?_; (with_reducible refine (tailwaterlaw08_slide.calls k 10 3 t160 _ A1.out).mono ?_); rintro e w48 ⟨rfl, hb⟩; refine ⟨_, rfl, ?_⟩; have n0_ := zM (zT (by repeat (first | (with_reducible first | exact HB.out | apply zC | apply zP | apply zO) | exact HB.out)) hb); clear HB; have HB := n0_; clear n0_; (try clear hb); (try clear hb2); (try clear hk); (try clear hi)) | (go_at_call 23; (with_reducible refine (tailwaterlaw08_slide.calls k 10 11 t161 _ A3.out).mono ?_); rintro e w49 ⟨rfl, hb⟩; have n0_ := zM (zT (by repeat (first | (with_reducible first | exact HB.out | apply zC | apply zP | apply zO) | exact HB.out)) hb); clear HB; have HB := n0_; clear n0_; (try clear hb); (try clear hb2); (try clear hk); (try clear hi)))
   go_ret
   exact ⟨by first | rfl | (simp [errW_none, errW_some] <;> rfl) | (simp [*, errW_none, errW_some] <;> rfl), by repeat (first | (with_reducible first | exact HB.out | apply zC | apply zP | apply zO) | exact HB.out)⟩
 ·
  rw [if_neg c2] at H
  have c2b0 : (t160 == 0) = false := beq_eq_false_iff_ne.mpr c2
  have c2b1 : (t160 != 0) = true := bne_iff_ne.mpr c2
  obtain rfl := Option.some.inj H
  go_enter Try.func18, Try.ntmps18
  go_wp2_with (first | ((with_reducible refine gate_callee (f := 23) rfl ?_); refine goesL_ (some 1) rfl rfl Try.func23 (by kernel_rfl) rfl #[.int .i64 10, .int .i64 3] rfl (by (try simp only [List.map_toArray, List.map_cons, List.map_nil]); first | done | rfl | (simp only [List.length_drop, List.length_take]; rfl)) ?_; (with_reducible refine (tailwaterlaw08_slide.calls k 10 3 t160 _ A1.out).mono ?_); rintro e w50 ⟨rfl, hb⟩; refine ⟨_, rfl, ?_⟩; have n0_ := zM (zT (by repeat (first | (with_reducible first | exact HB.out | apply zC | apply zP | apply zO) | exact HB.out)) hb); clear HB; have HB := n0_; clear n0_; (try clear hb); (try clear hb2); (try clear hk); (try clear hi)))
  go_ret
  exact ⟨by first | rfl | (simp [errW_none, errW_some] <;> rfl) | (simp [*, errW_none, errW_some] <;> rfl), by repeat (first | (with_reducible first | exact HB.out | apply zC | apply zP | apply zO) | exact HB.out)⟩

end Go.Proofs.Ytpkamfjkmbakhaa.G
