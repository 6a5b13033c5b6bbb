-- Written by a program of this place (wip/prt.py), out of Lean's own print of the program: Lean checks it.
import Derived.Test.YtpkamfjkmbakhaaG0
import Derived.Test.YtpkamfjkmbakhaaG1
import Derived.Test.YtpkamfjkmbakhaaG22
import Derived.Test.YtpkamfjkmbakhaaG23
import Derived.Test.YtpkamfjkmbakhaaGU
namespace Go.Proofs.Ytpkamfjkmbakhaa.G
open Go.RowKit Go.Proofs.YtpkamfjkmbakhaaW.PrintWords Go.Proofs.YtpkamfjkmbakhaaW.PrintLast Go.Proofs.YtpkamfjkmbakhaaW.PrintMore
attribute [local go_sem] max2_int min2_int max_two min_two max_three min_three max_four min_four   -- for this text's walks alone
set_option linter.unusedVariables false
set_option linter.unusedSimpArgs false

attribute [local go_sem high] eqA25
/-! ### tailwaterref08_Alike: function 55 -/
def tailwaterref08_Alike.f (k : Nat) (a0_0 : Int) (l0_1 : List (S36)) (l0_2 : List Int) (a0_3 : Bool) (l0_4 : List (S36)) (a0_5 : Int) (a0_6 : Int) (a0_7 : Int) (a0_8 : Bool) (a0_9 : Int) (a1_0 : Int) (l1_1 : List (S36)) (l1_2 : List Int) (a1_3 : Bool) (l1_4 : List (S36)) (a1_5 : Int) (a1_6 : Int) (a1_7 : Int) (a1_8 : Bool) (a1_9 : Int) : Option (Bool) := if a0_0 = a1_0 then ((tailwaterref04_Alike.f k l0_1 l1_1).bind fun t243 => (if t243 = true then ((tailwaterref08_SameSources.f k l0_2 l1_2).bind fun t244 => (if t244 = true then (if (a0_3 == a1_3) = true then ((tailwaterref04_Alike.f k l0_4 l1_4).bind fun t245 => (if t245 = true then (if (a0_5 == a1_5 && (a0_6 == a1_6 && (a0_7 == a1_7))) = true then (if (a0_8 == a1_8) = true then (some (a0_9 == a1_9)) else (some false)) else (some false)) else (some false))) else (some false)) else (some false))) else (some false))) else (some false)
theorem tailwaterref08_Alike.mono : ∀ a0 a1 a2 a3 a4 a5 a6 a7 a8 a9 a10 a11 a12 a13 a14 a15 a16 a17 a18 a19 k, LeO (tailwaterref08_Alike.f k a0 a1 a2 a3 a4 a5 a6 a7 a8 a9 a10 a11 a12 a13 a14 a15 a16 a17 a18 a19) (tailwaterref08_Alike.f (k + 1) a0 a1 a2 a3 a4 a5 a6 a7 a8 a9 a10 a11 a12 a13 a14 a15 a16 a17 a18 a19) := by
 intro a0 a1 a2 a3 a4 a5 a6 a7 a8 a9 a10 a11 a12 a13 a14 a15 a16 a17 a18 a19 k
 unfold tailwaterref08_Alike.f
 repeat' first
   | (with_reducible exact tailwaterref04_Alike.mono _ _ _)
   | (with_reducible exact tailwaterref08_SameSources.mono _ _ _)
   | (with_reducible exact LeO.refl _)
   | (with_reducible exact LeO.none _)
   | (with_reducible refine LeO.ite ?_ ?_)
   | (with_reducible refine LeO.bind ?_ (fun _ => ?_))
   | exact tailwaterref04_Alike.mono _ _ _
   | exact tailwaterref08_SameSources.mono _ _ _
   | exact LeO.none _
   | refine LeO.ite ?_ ?_
   | refine LeO.bind ?_ (fun _ => ?_)
set_option maxHeartbeats 8000000 in
set_option maxRecDepth 100000 in
theorem tailwaterref08_Alike.calls (k : Nat) (a0_0 : Int) (A0_1 : Option Addr) (c0_1 : Nat) (l0_1 : List (S36)) (A0_2 : Option Addr) (c0_2 : Nat) (l0_2 : List Int) (a0_3 : Bool) (A0_4 : Option Addr) (c0_4 : Nat) (l0_4 : List (S36)) (a0_5 : Int) (a0_6 : Int) (a0_7 : Int) (a0_8 : Bool) (a0_9 : Int) (a1_0 : Int) (A1_1 : Option Addr) (c1_1 : Nat) (l1_1 : List (S36)) (A1_2 : Option Addr) (c1_2 : Nat) (l1_2 : List Int) (a1_3 : Bool) (A1_4 : Option Addr) (c1_4 : Nat) (l1_4 : List (S36)) (a1_5 : Int) (a1_6 : Int) (a1_7 : Int) (a1_8 : Bool) (a1_9 : Int) (r : Bool) (w : World) (hr0_1 : Kd.C k36 w A0_1 l0_1.length l0_1) (hc0_1 : l0_1.length ≤ c0_1) (hr0_2 : Kd.C (Kd.int .i64) w A0_2 l0_2.length l0_2) (hc0_2 : l0_2.length ≤ c0_2) (hr0_4 : Kd.C k36 w A0_4 l0_4.length l0_4) (hc0_4 : l0_4.length ≤ c0_4) (hr1_1 : Kd.C k36 w A1_1 l1_1.length l1_1) (hc1_1 : l1_1.length ≤ c1_1) (hr1_2 : Kd.C (Kd.int .i64) w A1_2 l1_2.length l1_2) (hc1_2 : l1_2.length ≤ c1_2) (hr1_4 : Kd.C k36 w A1_4 l1_4.length l1_4) (hc1_4 : l1_4.length ≤ c1_4) (h : tailwaterref08_Alike.f k a0_0 l0_1 l0_2 a0_3 l0_4 a0_5 a0_6 a0_7 a0_8 a0_9 a1_0 l1_1 l1_2 a1_3 l1_4 a1_5 a1_6 a1_7 a1_8 a1_9 = some r) :
  Calls Try.prog 55 #[.agg #[.int .u8 a0_0, .slice A0_1 l0_1.length c0_1, .slice A0_2 l0_2.length c0_2, .bool a0_3, .slice A0_4 l0_4.length c0_4, .int .u8 a0_5, .int .i64 a0_6, .int .i64 a0_7, .bool a0_8, .int .u8 a0_9], .agg #[.int .u8 a1_0, .slice A1_1 l1_1.length c1_1, .slice A1_2 l1_2.length c1_2, .bool a1_3, .slice A1_4 l1_4.length c1_4, .int .u8 a1_5, .int .i64 a1_6, .int .i64 a1_7, .bool a1_8, .int .u8 a1_9]] w fun e w' => e = .returned (.bool r) ∧ Below w.heap.size w w' := by
 have hu27 := Try.underlying27
 have hu25 := Try.underlying25
 have O1 := Aside0.mk (And.intro hr0_1 (And.intro hr0_2 hr0_4))
 have P1 := Aside0.mk (And.intro hc0_1 (And.intro hc0_2 hc0_4))
 have O2 := Aside0.mk (And.intro hr1_1 (And.intro hr1_2 hr1_4))
 have P2 := Aside0.mk (And.intro hc1_1 (And.intro hc1_2 hc1_4))
 clear hr0_1 hr0_2 hr0_4 hc0_1 hc0_2 hc0_4 hr1_1 hr1_2 hr1_4 hc1_1 hc1_2 hc1_4
 have L := Lie.nil (Below.refl w.heap.size w)
 unfold tailwaterref08_Alike.f at h
 have H' := Aside0.mk h
 clear h
 go_enter Try.func55, Try.ntmps55
 go_upto_region 1 with (first | ((with_reducible refine gate_dst (N := 2) rfl ?_); (try (refine gate_guard (by rfl) ?_; dsimp only)); refine box_event ?hg (N := 2) ?hd (cs := #[.int .u8 a0_0, .slice A0_1 l0_1.length c0_1, .slice A0_2 l0_2.length c0_2, .bool a0_3, .slice A0_4 l0_4.length c0_4, .int .u8 a0_5, .int .i64 a0_6, .int .i64 a0_7, .bool a0_8, .int .u8 a0_9]) (t := 27) ?hr ?_; (case hd => rfl); (case hg => rfl); (case hr => first | (go_simp; done) | (go_simp; rfl)); intro g2 hg W2 hbox hb; replace L := L.more [] [] hg hbox hb; clear hg hbox hb) | ((with_reducible refine gate_dst (N := 3) rfl ?_); (try (refine gate_guard (by rfl) ?_; dsimp only)); refine box_event ?hg (N := 3) ?hd (cs := #[.int .u8 a1_0, .slice A1_1 l1_1.length c1_1, .slice A1_2 l1_2.length c1_2, .bool a1_3, .slice A1_4 l1_4.length c1_4, .int .u8 a1_5, .int .i64 a1_6, .int .i64 a1_7, .bool a1_8, .int .u8 a1_9]) (t := 27) ?hr ?_; (case hd => rfl); (case hg => rfl); (case hr => first | (go_simp; done) | (go_simp; rfl)); intro g3 hg W3 hbox hb; replace L := L.more [(g2, _)] [] hg hbox hb; clear hg hbox hb))
 (try simp only [Act.put, List.setIfInBounds_toArray, List.set_cons_zero, List.set_cons_succ])
 refine query_cells_ (L.get 0 rfl) fun x0 x1 x2 x3 x4 x5 x6 x7 x8 x9 f0 f1 f2 f3 f4 f5 f6 f7 f8 f9 => ?_
 refine query_cells_ (L.get 1 rfl) fun y0 y1 y2 y3 y4 y5 y6 y7 y8 y9 q0 q1 q2 q3 q4 q5 q6 q7 q8 q9 => ?_
 have H := H'.out
 clear H'
 by_cases e0 : a0_0 = a1_0
 rotate_left
 · rw [if_neg e0] at H
   have b0 : (a0_0 == a1_0) = false := beq_eq_false_iff_ne.mpr e0
   clear e0
   obtain rfl := Option.some.inj H
   go_wp2
   go_ret
   exact ⟨by first | rfl | (simp [errW_none, errW_some] <;> rfl) | (simp [*, errW_none, errW_some] <;> rfl), L.bel⟩
 rw [if_pos e0] at H
 have b0 : (a0_0 == a1_0) = true := beq_iff_eq.mpr e0
 clear e0
 obtain ⟨t1, E1_, H⟩ := Option.bind_eq_some_iff.mp H
 have E1 := Aside0.mk E1_
 clear E1_
 cases t1 with
 | false =>
  rw [if_neg (by decide)] at H
  obtain rfl := Option.some.inj H
  go_wp2_with (first | (go_at_call 65; (with_reducible refine (tailwaterref04_Alike.calls k _ _ l0_1 _ _ l1_1 _ _ (Kd.C_below O1.out.1 L.bel) P1.out.1 (Kd.C_below O2.out.1 L.bel) P2.out.1 E1.out).mono ?_); rintro e w65 ⟨rfl, hb⟩; replace L := L.step hb; clear hb; refine query_cells_ (L.get 0 rfl) fun x0 x1 x2 x3 x4 x5 x6 x7 x8 x9 f0 f1 f2 f3 f4 f5 f6 f7 f8 f9 => ?_; refine query_cells_ (L.get 1 rfl) fun y0 y1 y2 y3 y4 y5 y6 y7 y8 y9 q0 q1 q2 q3 q4 q5 q6 q7 q8 q9 => ?_))
  go_ret
  exact ⟨by first | rfl | (simp [errW_none, errW_some] <;> rfl) | (simp [*, errW_none, errW_some] <;> rfl), L.bel⟩
 | true =>
  rw [if_pos rfl] at H
  obtain ⟨t2, E2_, H⟩ := Option.bind_eq_some_iff.mp H
  have E2 := Aside0.mk E2_
  clear E2_
  cases t2 with
  | false =>
   rw [if_neg (by decide)] at H
   obtain rfl := Option.some.inj H
   go_wp2_with (first | (go_at_call 65; (with_reducible refine (tailwaterref04_Alike.calls k _ _ l0_1 _ _ l1_1 _ _ (Kd.C_below O1.out.1 L.bel) P1.out.1 (Kd.C_below O2.out.1 L.bel) P2.out.1 E1.out).mono ?_); rintro e w65 ⟨rfl, hb⟩; replace L := L.step hb; clear hb; refine query_cells_ (L.get 0 rfl) fun x0 x1 x2 x3 x4 x5 x6 x7 x8 x9 f0 f1 f2 f3 f4 f5 f6 f7 f8 f9 => ?_; refine query_cells_ (L.get 1 rfl) fun y0 y1 y2 y3 y4 y5 y6 y7 y8 y9 q0 q1 q2 q3 q4 q5 q6 q7 q8 q9 => ?_) | (go_at_call 66; (with_reducible refine (tailwaterref08_SameSources.calls k _ _ l0_2 _ _ l1_2 _ _ (Kd.C_below O1.out.2.1 L.bel) P1.out.2.1 (Kd.C_below O2.out.2.1 L.bel) P2.out.2.1 E2.out).mono ?_); rintro e w66 ⟨rfl, ⟨nd, rfl⟩⟩; replace L := L.drewN nd))
   go_ret
   exact ⟨by first | rfl | (simp [errW_none, errW_some] <;> rfl) | (simp [*, errW_none, errW_some] <;> rfl), L.bel⟩
  | true =>
   rw [if_pos rfl] at H
   by_cases e3 : (a0_3 == a1_3) = true
   rotate_left
   · rw [if_neg e3] at H
     have b3 : (a0_3 == a1_3) = false := Bool.eq_false_iff.mpr e3
     clear e3
     obtain rfl := Option.some.inj H
     go_wp2_with (first | (go_at_call 65; (with_reducible refine (tailwaterref04_Alike.calls k _ _ l0_1 _ _ l1_1 _ _ (Kd.C_below O1.out.1 L.bel) P1.out.1 (Kd.C_below O2.out.1 L.bel) P2.out.1 E1.out).mono ?_); rintro e w65 ⟨rfl, hb⟩; replace L := L.step hb; clear hb; refine query_cells_ (L.get 0 rfl) fun x0 x1 x2 x3 x4 x5 x6 x7 x8 x9 f0 f1 f2 f3 f4 f5 f6 f7 f8 f9 => ?_; refine query_cells_ (L.get 1 rfl) fun y0 y1 y2 y3 y4 y5 y6 y7 y8 y9 q0 q1 q2 q3 q4 q5 q6 q7 q8 q9 => ?_) | (go_at_call 66; (with_reducible refine (tailwaterref08_SameSources.calls k _ _ l0_2 _ _ l1_2 _ _ (Kd.C_below O1.out.2.1 L.bel) P1.out.2.1 (Kd.C_below O2.out.2.1 L.bel) P2.out.2.1 E2.out).mono ?_); rintro e w66 ⟨rfl, ⟨nd, rfl⟩⟩; replace L := L.drewN nd))
     go_ret
     exact ⟨by first | rfl | (simp [errW_none, errW_some] <;> rfl) | (simp [*, errW_none, errW_some] <;> rfl), L.bel⟩
   rw [if_pos e3] at H
   have b3 : (a0_3 == a1_3) = true := e3
   clear e3
   obtain ⟨t4, E4_, H⟩ := Option.bind_eq_some_iff.mp H
   have E4 := Aside0.mk E4_
   clear E4_
   cases t4 with
   | false =>
    rw [if_neg (by decide)] at H
    obtain rfl := Option.some.inj H
    go_wp2_with (first | (go_at_call 65; (with_reducible refine (tailwaterref04_Alike.calls k _ _ l0_1 _ _ l1_1 _ _ (Kd.C_below O1.out.1 L.bel) P1.out.1 (Kd.C_below O2.out.1 L.bel) P2.out.1 E1.out).mono ?_); rintro e w65 ⟨rfl, hb⟩; replace L := L.step hb; clear hb; refine query_cells_ (L.get 0 rfl) fun x0 x1 x2 x3 x4 x5 x6 x7 x8 x9 f0 f1 f2 f3 f4 f5 f6 f7 f8 f9 => ?_; refine query_cells_ (L.get 1 rfl) fun y0 y1 y2 y3 y4 y5 y6 y7 y8 y9 q0 q1 q2 q3 q4 q5 q6 q7 q8 q9 => ?_) | (go_at_call 66; (with_reducible refine (tailwaterref08_SameSources.calls k _ _ l0_2 _ _ l1_2 _ _ (Kd.C_below O1.out.2.1 L.bel) P1.out.2.1 (Kd.C_below O2.out.2.1 L.bel) P2.out.2.1 E2.out).mono ?_); rintro e w66 ⟨rfl, ⟨nd, rfl⟩⟩; replace L := L.drewN nd) | (go_at_call 65; (with_reducible refine (tailwaterref04_Alike.calls k _ _ l0_4 _ _ l1_4 _ _ (Kd.C_below O1.out.2.2 L.bel) P1.out.2.2 (Kd.C_below O2.out.2.2 L.bel) P2.out.2.2 E4.out).mono ?_); rintro e w65 ⟨rfl, hb⟩; replace L := L.step hb; clear hb; refine query_cells_ (L.get 0 rfl) fun x0 x1 x2 x3 x4 x5 x6 x7 x8 x9 f0 f1 f2 f3 f4 f5 f6 f7 f8 f9 => ?_; refine query_cells_ (L.get 1 rfl) fun y0 y1 y2 y3 y4 y5 y6 y7 y8 y9 q0 q1 q2 q3 q4 q5 q6 q7 q8 q9 => ?_))
    go_ret
    exact ⟨by first | rfl | (simp [errW_none, errW_some] <;> rfl) | (simp [*, errW_none, errW_some] <;> rfl), L.bel⟩
   | true =>
    rw [if_pos rfl] at H
    by_cases e5 : (a0_5 == a1_5 && (a0_6 == a1_6 && (a0_7 == a1_7))) = true
    rotate_left
    · rw [if_neg e5] at H
      have b5 : (a0_5 == a1_5 && (a0_6 == a1_6 && (a0_7 == a1_7))) = false := Bool.eq_false_iff.mpr e5
      clear e5
      obtain rfl := Option.some.inj H
      go_wp2_with (first | (go_at_call 65; (with_reducible refine (tailwaterref04_Alike.calls k _ _ l0_1 _ _ l1_1 _ _ (Kd.C_below O1.out.1 L.bel) P1.out.1 (Kd.C_below O2.out.1 L.bel) P2.out.1 E1.out).mono ?_); rintro e w65 ⟨rfl, hb⟩; replace L := L.step hb; clear hb; refine query_cells_ (L.get 0 rfl) fun x0 x1 x2 x3 x4 x5 x6 x7 x8 x9 f0 f1 f2 f3 f4 f5 f6 f7 f8 f9 => ?_; refine query_cells_ (L.get 1 rfl) fun y0 y1 y2 y3 y4 y5 y6 y7 y8 y9 q0 q1 q2 q3 q4 q5 q6 q7 q8 q9 => ?_) | (go_at_call 66; (with_reducible refine (tailwaterref08_SameSources.calls k _ _ l0_2 _ _ l1_2 _ _ (Kd.C_below O1.out.2.1 L.bel) P1.out.2.1 (Kd.C_below O2.out.2.1 L.bel) P2.out.2.1 E2.out).mono ?_); rintro e w66 ⟨rfl, ⟨nd, rfl⟩⟩; replace L := L.drewN nd) | (go_at_call 65; (with_reducible refine (tailwaterref04_Alike.calls k _ _ l0_4 _ _ l1_4 _ _ (Kd.C_below O1.out.2.2 L.bel) P1.out.2.2 (Kd.C_below O2.out.2.2 L.bel) P2.out.2.2 E4.out).mono ?_); rintro e w65 ⟨rfl, hb⟩; replace L := L.step hb; clear hb; refine query_cells_ (L.get 0 rfl) fun x0 x1 x2 x3 x4 x5 x6 x7 x8 x9 f0 f1 f2 f3 f4 f5 f6 f7 f8 f9 => ?_; refine query_cells_ (L.get 1 rfl) fun y0 y1 y2 y3 y4 y5 y6 y7 y8 y9 q0 q1 q2 q3 q4 q5 q6 q7 q8 q9 => ?_))
      go_ret
      exact ⟨by first | rfl | (simp [errW_none, errW_some] <;> rfl) | (simp [*, errW_none, errW_some] <;> rfl), L.bel⟩
    rw [if_pos e5] at H
    have b5 : (a0_5 == a1_5 && (a0_6 == a1_6 && (a0_7 == a1_7))) = true := e5
    clear e5
    by_cases e6 : (a0_8 == a1_8) = true
    rotate_left
    · rw [if_neg e6] at H
      have b6 : (a0_8 == a1_8) = false := Bool.eq_false_iff.mpr e6
      clear e6
      obtain rfl := Option.some.inj H
      go_wp2_with (first | (go_at_call 65; (with_reducible refine (tailwaterref04_Alike.calls k _ _ l0_1 _ _ l1_1 _ _ (Kd.C_below O1.out.1 L.bel) P1.out.1 (Kd.C_below O2.out.1 L.bel) P2.out.1 E1.out).mono ?_); rintro e w65 ⟨rfl, hb⟩; replace L := L.step hb; clear hb; refine query_cells_ (L.get 0 rfl) fun x0 x1 x2 x3 x4 x5 x6 x7 x8 x9 f0 f1 f2 f3 f4 f5 f6 f7 f8 f9 => ?_; refine query_cells_ (L.get 1 rfl) fun y0 y1 y2 y3 y4 y5 y6 y7 y8 y9 q0 q1 q2 q3 q4 q5 q6 q7 q8 q9 => ?_) | (go_at_call 66; (with_reducible refine (tailwaterref08_SameSources.calls k _ _ l0_2 _ _ l1_2 _ _ (Kd.C_below O1.out.2.1 L.bel) P1.out.2.1 (Kd.C_below O2.out.2.1 L.bel) P2.out.2.1 E2.out).mono ?_); rintro e w66 ⟨rfl, ⟨nd, rfl⟩⟩; replace L := L.drewN nd) | (go_at_call 65; (with_reducible refine (tailwaterref04_Alike.calls k _ _ l0_4 _ _ l1_4 _ _ (Kd.C_below O1.out.2.2 L.bel) P1.out.2.2 (Kd.C_below O2.out.2.2 L.bel) P2.out.2.2 E4.out).mono ?_); rintro e w65 ⟨rfl, hb⟩; replace L := L.step hb; clear hb; refine query_cells_ (L.get 0 rfl) fun x0 x1 x2 x3 x4 x5 x6 x7 x8 x9 f0 f1 f2 f3 f4 f5 f6 f7 f8 f9 => ?_; refine query_cells_ (L.get 1 rfl) fun y0 y1 y2 y3 y4 y5 y6 y7 y8 y9 q0 q1 q2 q3 q4 q5 q6 q7 q8 q9 => ?_))
      go_ret
      exact ⟨by first | rfl | (simp [errW_none, errW_some] <;> rfl) | (simp [*, errW_none, errW_some] <;> rfl), L.bel⟩
    rw [if_pos e6] at H
    have b6 : (a0_8 == a1_8) = true := e6
    clear e6
    obtain rfl := Option.some.inj H
    go_wp2_with (first | (go_at_call 65; (with_reducible refine (tailwaterref04_Alike.calls k _ _ l0_1 _ _ l1_1 _ _ (Kd.C_below O1.out.1 L.bel) P1.out.1 (Kd.C_below O2.out.1 L.bel) P2.out.1 E1.out).mono ?_); rintro e w65 ⟨rfl, hb⟩; replace L := L.step hb; clear hb; refine query_cells_ (L.get 0 rfl) fun x0 x1 x2 x3 x4 x5 x6 x7 x8 x9 f0 f1 f2 f3 f4 f5 f6 f7 f8 f9 => ?_; refine query_cells_ (L.get 1 rfl) fun y0 y1 y2 y3 y4 y5 y6 y7 y8 y9 q0 q1 q2 q3 q4 q5 q6 q7 q8 q9 => ?_) | (go_at_call 66; (with_reducible refine (tailwaterref08_SameSources.calls k _ _ l0_2 _ _ l1_2 _ _ (Kd.C_below O1.out.2.1 L.bel) P1.out.2.1 (Kd.C_below O2.out.2.1 L.bel) P2.out.2.1 E2.out).mono ?_); rintro e w66 ⟨rfl, ⟨nd, rfl⟩⟩; replace L := L.drewN nd) | (go_at_call 65; (with_reducible refine (tailwaterref04_Alike.calls k _ _ l0_4 _ _ l1_4 _ _ (Kd.C_below O1.out.2.2 L.bel) P1.out.2.2 (Kd.C_below O2.out.2.2 L.bel) P2.out.2.2 E4.out).mono ?_); rintro e w65 ⟨rfl, hb⟩; replace L := L.step hb; clear hb; refine query_cells_ (L.get 0 rfl) fun x0 x1 x2 x3 x4 x5 x6 x7 x8 x9 f0 f1 f2 f3 f4 f5 f6 f7 f8 f9 => ?_; refine query_cells_ (L.get 1 rfl) fun y0 y1 y2 y3 y4 y5 y6 y7 y8 y9 q0 q1 q2 q3 q4 q5 q6 q7 q8 q9 => ?_))
    go_ret
    exact ⟨by first | rfl | (simp [errW_none, errW_some] <;> rfl) | (simp [*, errW_none, errW_some] <;> rfl), L.bel⟩

end Go.Proofs.Ytpkamfjkmbakhaa.G
