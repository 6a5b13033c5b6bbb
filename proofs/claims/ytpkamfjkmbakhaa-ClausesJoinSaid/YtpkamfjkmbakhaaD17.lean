-- Written by a program of this place (wip/prt.py), out of Lean's own print of the program: Lean checks it.
import Derived.Test.YtpkamfjkmbakhaaD0
import Derived.Test.YtpkamfjkmbakhaaD1
import Derived.Test.YtpkamfjkmbakhaaD7
import Derived.Test.YtpkamfjkmbakhaaD11
import Derived.Test.YtpkamfjkmbakhaaD15
namespace Go.Proofs.Ytpkamfjkmbakhaa.D
open Go.RowKit Go.Proofs.YtpkamfjkmbakhaaW.PrintWords Go.Proofs.YtpkamfjkmbakhaaW.PrintLast Go.Proofs.YtpkamfjkmbakhaaW.PrintMore
attribute [local go_sem] max2_int min2_int max_two min_two max_three min_three max_four min_four   -- for this text's walks alone
set_option linter.unusedVariables false
set_option linter.unusedSimpArgs false

/-! ### tailwaterlaw08_ClausesJoin: function 13 -/
mutual
def tailwaterlaw08_ClausesJoin.j0 : Nat → Bool → Int → List (S36) → List Int → Bool → List (S36) → Int → Int → Int → Bool → Int → Option (Bool)
  | 0, _, _, _, _, _, _, _, _, _, _, _ => none
  | k + 1, x11, x212000, x212001, x212002, x212003, x212004, x212005, x212006, x212007, x212008, x212009 => if x11 = true then ((tailwaterlaw08_alive.f k).bind fun t214 => (some t214)) else (if (x212002.length : Int) = 2 then (tailwaterlaw08_ClausesJoin.j1 k (x212005 == 1) x212000 x212001 x212002 x212003 x212004 x212005 x212006 x212007 x212008 x212009 x212000 x212001 x212002 (!x212003) x212004 x212005 x212006 x212007 x212008 x212009) else (tailwaterlaw08_ClausesJoin.j1 k false x212000 x212001 x212002 x212003 x212004 x212005 x212006 x212007 x212008 x212009 x212000 x212001 x212002 (!x212003) x212004 x212005 x212006 x212007 x212008 x212009))
def tailwaterlaw08_ClausesJoin.j1 : Nat → Bool → Int → List (S36) → List Int → Bool → List (S36) → Int → Int → Int → Bool → Int → Int → List (S36) → List Int → Bool → List (S36) → Int → Int → Int → Bool → Int → Option (Bool)
  | 0, _, _, _, _, _, _, _, _, _, _, _, _, _, _, _, _, _, _, _, _, _ => none
  | k + 1, x4, x212000, x212001, x212002, x212003, x212004, x212005, x212006, x212007, x212008, x212009, x216000, x216001, x216002, x216003, x216004, x216005, x216006, x216007, x216008, x216009 => if x212003 = true then (tailwaterlaw08_ClausesJoin.j2 k x4 (!x4) x216000 x216001 x216002 x216003 x216004 x216005 x216006 x216007 x216008 x216009) else (tailwaterlaw08_ClausesJoin.j2 k x4 false x216000 x216001 x216002 x216003 x216004 x216005 x216006 x216007 x216008 x216009)
def tailwaterlaw08_ClausesJoin.j2 : Nat → Bool → Bool → Int → List (S36) → List Int → Bool → List (S36) → Int → Int → Int → Bool → Int → Option (Bool)
  | 0, _, _, _, _, _, _, _, _, _, _, _, _ => none
  | k + 1, x4, x33, x216000, x216001, x216002, x216003, x216004, x216005, x216006, x216007, x216008, x216009 => if x33 = true then (some false) else ((clauses_Check.f k x216000 x216001 x216002 x216003 x216004 x216005 x216006 x216007 x216008 x216009).bind fun t216 => (if ((t216 == 0) == x4) = true then (if x4 = true then ((tailwaterlaw08_alive.f k).bind fun t217 => (some t217)) else ((clauses_Check.f k x216000 x216001 x216002 x216003 x216004 x216005 x216006 x216007 x216008 x216009).bind fun t218 => (if t218 = 8 then ((tailwaterlaw08_alive.f k).bind fun t219 => (some t219)) else (some false)))) else (some false)))
end
def tailwaterlaw08_ClausesJoin.f (k : Nat) (a0_0 : Int) (l0_1 : List (S36)) (l0_2 : List Int) (a0_3 : Bool) (l0_4 : List (S36)) (a0_5 : Int) (a0_6 : Int) (a0_7 : Int) (a0_8 : Bool) (a0_9 : Int) : Option (Bool) := (tailwaterref08_Great.f a0_0 l0_1 l0_2 a0_3 l0_4 a0_5 a0_6 a0_7 a0_8 a0_9).bind fun t212 => (if t212 = true then (tailwaterlaw08_ClausesJoin.j0 k true a0_0 l0_1 l0_2 a0_3 l0_4 a0_5 a0_6 a0_7 a0_8 a0_9) else ((tailwaterref08_Check.f k a0_0 l0_1 l0_2 a0_3 l0_4 a0_5 a0_6 a0_7 a0_8 a0_9).bind fun t213 => (tailwaterlaw08_ClausesJoin.j0 k (t213 != 0) a0_0 l0_1 l0_2 a0_3 l0_4 a0_5 a0_6 a0_7 a0_8 a0_9)))
theorem tailwaterlaw08_ClausesJoin.mono_l : ∀ k, (∀ y0 y1 y2 y3 y4 y5 y6 y7 y8 y9 y10, LeO (tailwaterlaw08_ClausesJoin.j0 k y0 y1 y2 y3 y4 y5 y6 y7 y8 y9 y10) (tailwaterlaw08_ClausesJoin.j0 (k + 1) y0 y1 y2 y3 y4 y5 y6 y7 y8 y9 y10)) ∧ (∀ y0 y1 y2 y3 y4 y5 y6 y7 y8 y9 y10 y11 y12 y13 y14 y15 y16 y17 y18 y19 y20, LeO (tailwaterlaw08_ClausesJoin.j1 k y0 y1 y2 y3 y4 y5 y6 y7 y8 y9 y10 y11 y12 y13 y14 y15 y16 y17 y18 y19 y20) (tailwaterlaw08_ClausesJoin.j1 (k + 1) y0 y1 y2 y3 y4 y5 y6 y7 y8 y9 y10 y11 y12 y13 y14 y15 y16 y17 y18 y19 y20)) ∧ (∀ y0 y1 y2 y3 y4 y5 y6 y7 y8 y9 y10 y11, LeO (tailwaterlaw08_ClausesJoin.j2 k y0 y1 y2 y3 y4 y5 y6 y7 y8 y9 y10 y11) (tailwaterlaw08_ClausesJoin.j2 (k + 1) y0 y1 y2 y3 y4 y5 y6 y7 y8 y9 y10 y11))
  | 0 => ⟨fun _ _ _ _ _ _ _ _ _ _ _ r h => by simp [tailwaterlaw08_ClausesJoin.j0] at h, fun _ _ _ _ _ _ _ _ _ _ _ _ _ _ _ _ _ _ _ _ _ r h => by simp [tailwaterlaw08_ClausesJoin.j1] at h, fun _ _ _ _ _ _ _ _ _ _ _ _ r h => by simp [tailwaterlaw08_ClausesJoin.j2] at h⟩
  | k + 1 => by
    obtain ⟨ih0, ih1, ih2⟩ := tailwaterlaw08_ClausesJoin.mono_l k
    refine ⟨?_, ?_, ?_⟩
    · intro y0 y1 y2 y3 y4 y5 y6 y7 y8 y9 y10
      unfold tailwaterlaw08_ClausesJoin.j0
      repeat' first
      | (with_reducible exact ih0 _ _ _ _ _ _ _ _ _ _ _)
      | (with_reducible exact ih1 _ _ _ _ _ _ _ _ _ _ _ _ _ _ _ _ _ _ _ _ _)
      | (with_reducible exact ih2 _ _ _ _ _ _ _ _ _ _ _ _)
      | (with_reducible exact clauses_Check.mono _ _ _ _ _ _ _ _ _ _ _)
      | (with_reducible exact tailwaterlaw08_alive.mono _)
      | (with_reducible exact tailwaterref08_Check.mono _ _ _ _ _ _ _ _ _ _ _)
      | (with_reducible exact LeO.refl _)
      | (with_reducible exact LeO.none _)
      | (with_reducible refine LeO.ite ?_ ?_)
      | (with_reducible refine LeO.bind ?_ (fun _ => ?_))
      | exact ih0 _ _ _ _ _ _ _ _ _ _ _
      | exact ih1 _ _ _ _ _ _ _ _ _ _ _ _ _ _ _ _ _ _ _ _ _
      | exact ih2 _ _ _ _ _ _ _ _ _ _ _ _
      | exact clauses_Check.mono _ _ _ _ _ _ _ _ _ _ _
      | exact tailwaterlaw08_alive.mono _
      | exact tailwaterref08_Check.mono _ _ _ _ _ _ _ _ _ _ _
      | exact LeO.none _
      | refine LeO.ite ?_ ?_
      | refine LeO.bind ?_ (fun _ => ?_)
    · intro y0 y1 y2 y3 y4 y5 y6 y7 y8 y9 y10 y11 y12 y13 y14 y15 y16 y17 y18 y19 y20
      unfold tailwaterlaw08_ClausesJoin.j1
      repeat' first
      | (with_reducible exact ih0 _ _ _ _ _ _ _ _ _ _ _)
      | (with_reducible exact ih1 _ _ _ _ _ _ _ _ _ _ _ _ _ _ _ _ _ _ _ _ _)
      | (with_reducible exact ih2 _ _ _ _ _ _ _ _ _ _ _ _)
      | (with_reducible exact clauses_Check.mono _ _ _ _ _ _ _ _ _ _ _)
      | (with_reducible exact tailwaterlaw08_alive.mono _)
      | (with_reducible exact tailwaterref08_Check.mono _ _ _ _ _ _ _ _ _ _ _)
      | (with_reducible exact LeO.refl _)
      | (with_reducible exact LeO.none _)
      | (with_reducible refine LeO.ite ?_ ?_)
      | (with_reducible refine LeO.bind ?_ (fun _ => ?_))
      | exact ih0 _ _ _ _ _ _ _ _ _ _ _
      | exact ih1 _ _ _ _ _ _ _ _ _ _ _ _ _ _ _ _ _ _ _ _ _
      | exact ih2 _ _ _ _ _ _ _ _ _ _ _ _
      | exact clauses_Check.mono _ _ _ _ _ _ _ _ _ _ _
      | exact tailwaterlaw08_alive.mono _
      | exact tailwaterref08_Check.mono _ _ _ _ _ _ _ _ _ _ _
      | exact LeO.none _
      | refine LeO.ite ?_ ?_
      | refine LeO.bind ?_ (fun _ => ?_)
    · intro y0 y1 y2 y3 y4 y5 y6 y7 y8 y9 y10 y11
      unfold tailwaterlaw08_ClausesJoin.j2
      repeat' first
      | (with_reducible exact ih0 _ _ _ _ _ _ _ _ _ _ _)
      | (with_reducible exact ih1 _ _ _ _ _ _ _ _ _ _ _ _ _ _ _ _ _ _ _ _ _)
      | (with_reducible exact ih2 _ _ _ _ _ _ _ _ _ _ _ _)
      | (with_reducible exact clauses_Check.mono _ _ _ _ _ _ _ _ _ _ _)
      | (with_reducible exact tailwaterlaw08_alive.mono _)
      | (with_reducible exact tailwaterref08_Check.mono _ _ _ _ _ _ _ _ _ _ _)
      | (with_reducible exact LeO.refl _)
      | (with_reducible exact LeO.none _)
      | (with_reducible refine LeO.ite ?_ ?_)
      | (with_reducible refine LeO.bind ?_ (fun _ => ?_))
      | exact ih0 _ _ _ _ _ _ _ _ _ _ _
      | exact ih1 _ _ _ _ _ _ _ _ _ _ _ _ _ _ _ _ _ _ _ _ _
      | exact ih2 _ _ _ _ _ _ _ _ _ _ _ _
      | exact clauses_Check.mono _ _ _ _ _ _ _ _ _ _ _
      | exact tailwaterlaw08_alive.mono _
      | exact tailwaterref08_Check.mono _ _ _ _ _ _ _ _ _ _ _
      | exact LeO.none _
      | refine LeO.ite ?_ ?_
      | refine LeO.bind ?_ (fun _ => ?_)
theorem tailwaterlaw08_ClausesJoin.mono : ∀ a0 a1 a2 a3 a4 a5 a6 a7 a8 a9 k, LeO (tailwaterlaw08_ClausesJoin.f k a0 a1 a2 a3 a4 a5 a6 a7 a8 a9) (tailwaterlaw08_ClausesJoin.f (k + 1) a0 a1 a2 a3 a4 a5 a6 a7 a8 a9) := by
  intro a0 a1 a2 a3 a4 a5 a6 a7 a8 a9 k
  obtain ⟨ih0, ih1, ih2⟩ := tailwaterlaw08_ClausesJoin.mono_l k
  unfold tailwaterlaw08_ClausesJoin.f
  repeat' first
      | (with_reducible exact ih0 _ _ _ _ _ _ _ _ _ _ _)
      | (with_reducible exact ih1 _ _ _ _ _ _ _ _ _ _ _ _ _ _ _ _ _ _ _ _ _)
      | (with_reducible exact ih2 _ _ _ _ _ _ _ _ _ _ _ _)
      | (with_reducible exact clauses_Check.mono _ _ _ _ _ _ _ _ _ _ _)
      | (with_reducible exact tailwaterlaw08_alive.mono _)
      | (with_reducible exact tailwaterref08_Check.mono _ _ _ _ _ _ _ _ _ _ _)
      | (with_reducible exact LeO.refl _)
      | (with_reducible exact LeO.none _)
      | (with_reducible refine LeO.ite ?_ ?_)
      | (with_reducible refine LeO.bind ?_ (fun _ => ?_))
      | exact ih0 _ _ _ _ _ _ _ _ _ _ _
      | exact ih1 _ _ _ _ _ _ _ _ _ _ _ _ _ _ _ _ _ _ _ _ _
      | exact ih2 _ _ _ _ _ _ _ _ _ _ _ _
      | exact clauses_Check.mono _ _ _ _ _ _ _ _ _ _ _
      | exact tailwaterlaw08_alive.mono _
      | exact tailwaterref08_Check.mono _ _ _ _ _ _ _ _ _ _ _
      | exact LeO.none _
      | refine LeO.ite ?_ ?_
      | refine LeO.bind ?_ (fun _ => ?_)
set_option maxHeartbeats 8000000 in
set_option maxRecDepth 100000 in
theorem tailwaterlaw08_ClausesJoin.calls (k : Nat) (a0_0 : Int) (A0_1 : Option Addr) (c0_1 : Nat) (l0_1 : List (S36)) (A0_2 : Option Addr) (c0_2 : Nat) (l0_2 : List Int) (a0_3 : Bool) (A0_4 : Option Addr) (c0_4 : Nat) (l0_4 : List (S36)) (a0_5 : Int) (a0_6 : Int) (a0_7 : Int) (a0_8 : Bool) (a0_9 : Int) (w : World) (hr0_1 : Kd.C k36 w A0_1 l0_1.length l0_1) (hc0_1 : l0_1.length ≤ c0_1) (hr0_2 : Kd.C (Kd.int .i64) w A0_2 l0_2.length l0_2) (hc0_2 : l0_2.length ≤ c0_2) (hr0_4 : Kd.C k36 w A0_4 l0_4.length l0_4) (hc0_4 : l0_4.length ≤ c0_4) (h : tailwaterlaw08_ClausesJoin.f k a0_0 l0_1 l0_2 a0_3 l0_4 a0_5 a0_6 a0_7 a0_8 a0_9 = some true) :
    Calls Try.prog 13 #[.agg #[.int .u8 a0_0, .slice A0_1 l0_1.length c0_1, .slice A0_2 l0_2.length c0_2, .bool a0_3, .slice A0_4 l0_4.length c0_4, .int .u8 a0_5, .int .i64 a0_6, .int .i64 a0_7, .bool a0_8, .int .u8 a0_9]] w fun e w' => e = .returned (.bool true) ∧ Below w.heap.size w w' := by
  have hu27 := Try.underlying27
  have HR0_1 := Aside0.mk hr0_1
  have HC0_1 := Aside0.mk hc0_1
  clear hr0_1 hc0_1
  have HR0_2 := Aside0.mk hr0_2
  have HC0_2 := Aside0.mk hc0_2
  clear hr0_2 hc0_2
  have HR0_4 := Aside0.mk hr0_4
  have HC0_4 := Aside0.mk hc0_4
  clear hr0_4 hc0_4
  have HB := Aside0.mk (Below.refl w.heap.size w)
  have H : ((tailwaterref08_Great.f a0_0 l0_1 l0_2 a0_3 l0_4 a0_5 a0_6 a0_7 a0_8 a0_9).bind fun t212 => (if t212 = true then (tailwaterlaw08_ClausesJoin.j0 k true a0_0 l0_1 l0_2 a0_3 l0_4 a0_5 a0_6 a0_7 a0_8 a0_9) else ((tailwaterref08_Check.f k a0_0 l0_1 l0_2 a0_3 l0_4 a0_5 a0_6 a0_7 a0_8 a0_9).bind fun t213 => (tailwaterlaw08_ClausesJoin.j0 k (t213 != 0) a0_0 l0_1 l0_2 a0_3 l0_4 a0_5 a0_6 a0_7 a0_8 a0_9)))) = some true := h
  clear h
  have HC2 := Aside0.mk H
  clear H
  go_enter Try.func13, Try.ntmps13
  go_upto_region 1 with (first | ((with_reducible refine gate_dst (N := 1) rfl ?_); refine box_event ?hg (N := 1) ?hd (cs := #[.int .u8 a0_0, .slice A0_1 l0_1.length c0_1, .slice A0_2 l0_2.length c0_2, .bool a0_3, .slice A0_4 l0_4.length c0_4, .int .u8 a0_5, .int .i64 a0_6, .int .i64 a0_7, .bool a0_8, .int .u8 a0_9]) (t := 27) ?hr ?_; (case hd => rfl); (case hg => rfl); (case hr => first | (go_simp; done) | (go_simp; rfl)); intro gb211 hg w3 hbox hb; have n0_ := Aside0.mk (below_step (by repeat (first | (with_reducible first | exact HB.out | apply below_alloc | apply pw_below_drewN | apply below_drew1) | exact HB.out)) hb); have n1_ := Aside0.mk (hbox); have n2_ := Aside0.mk ((by rw [hg]; exact (below_size (by repeat (first | (with_reducible first | exact HB.out | apply below_alloc | apply pw_below_drewN | apply below_drew1) | exact HB.out))) : w.heap.size ≤ gb211)); have n3_ := Aside0.mk ((by rw [hg]; exact (below_size (by repeat (first | (with_reducible first | exact HB.out | apply below_alloc | apply pw_below_drewN | apply below_drew1) | exact HB.out))) : w.heap.size ≤ gb211)); clear HB; have HB := n0_; have BK211 := n1_; have GW211 := n2_; have GE211 := n3_; clear n0_ n1_ n2_ n3_; clear hb hbox hg))
  (try simp only [Act.put, List.setIfInBounds_toArray, List.set_cons_zero, List.set_cons_succ])
  go_cut [11] (fun v11 wc => ∃ (kq : Nat) (x11_1 : Bool), v11 = .bool x11_1 ∧ Aside0 (tailwaterlaw08_ClausesJoin.j0 kq x11_1 a0_0 l0_1 l0_2 a0_3 l0_4 a0_5 a0_6 a0_7 a0_8 a0_9 = some true) ∧ Aside0 (kq ≤ k) ∧ Aside0 (wc.heap[gb211]? = some (.cells #[.int .u8 a0_0, (.slice A0_1 l0_1.length c0_1), (.slice A0_2 l0_2.length c0_2), .bool a0_3, (.slice A0_4 l0_4.length c0_4), .int .u8 a0_5, .int .i64 a0_6, .int .i64 a0_7, .bool a0_8, .int .u8 a0_9] 27 (0, 0))) ∧ Aside0 (Below w.heap.size w wc))
  case first =>
    have H := HC2.out
    clear HC2
    replace H := Option.bind_eq_some_iff.mp H
    obtain ⟨t212, A40, H⟩ := H
    replace H : (if t212 = true then (tailwaterlaw08_ClausesJoin.j0 k true a0_0 l0_1 l0_2 a0_3 l0_4 a0_5 a0_6 a0_7 a0_8 a0_9) else ((tailwaterref08_Check.f k a0_0 l0_1 l0_2 a0_3 l0_4 a0_5 a0_6 a0_7 a0_8 a0_9).bind fun t213 => (tailwaterlaw08_ClausesJoin.j0 k (t213 != 0) a0_0 l0_1 l0_2 a0_3 l0_4 a0_5 a0_6 a0_7 a0_8 a0_9))) = some true := H
    have A4 := Aside0.mk A40
    clear A40
    by_cases c5 : t212 = true
    · subst c5
      have H1 : (tailwaterlaw08_ClausesJoin.j0 k true a0_0 l0_1 l0_2 a0_3 l0_4 a0_5 a0_6 a0_7 a0_8 a0_9) = some true := by rw [if_pos rfl] at H; exact H
      clear H
      have H := H1
      clear H1
      have H' := Aside0.mk H
      clear H
      have hcz6_0 : w3.cell? ⟨gb211, 0, none⟩ = some (.int .u8 a0_0) := (blk_cell BK211.out 0).trans rfl
      have hcz6_1 : w3.cell? ⟨gb211, 1, none⟩ = some (.slice A0_1 l0_1.length c0_1) := (blk_cell BK211.out 1).trans rfl
      have hcz6_2 : w3.cell? ⟨gb211, 2, none⟩ = some (.slice A0_2 l0_2.length c0_2) := (blk_cell BK211.out 2).trans rfl
      have hcz6_3 : w3.cell? ⟨gb211, 3, none⟩ = some (.bool a0_3) := (blk_cell BK211.out 3).trans rfl
      have hcz6_4 : w3.cell? ⟨gb211, 4, none⟩ = some (.slice A0_4 l0_4.length c0_4) := (blk_cell BK211.out 4).trans rfl
      have hcz6_5 : w3.cell? ⟨gb211, 5, none⟩ = some (.int .u8 a0_5) := (blk_cell BK211.out 5).trans rfl
      have hcz6_6 : w3.cell? ⟨gb211, 6, none⟩ = some (.int .i64 a0_6) := (blk_cell BK211.out 6).trans rfl
      have hcz6_7 : w3.cell? ⟨gb211, 7, none⟩ = some (.int .i64 a0_7) := (blk_cell BK211.out 7).trans rfl
      have hcz6_8 : w3.cell? ⟨gb211, 8, none⟩ = some (.bool a0_8) := (blk_cell BK211.out 8).trans rfl
      have hcz6_9 : w3.cell? ⟨gb211, 9, none⟩ = some (.int .u8 a0_9) := (blk_cell BK211.out 9).trans rfl
      have hfz6_0 := blk_frozen BK211.out 0
      have hfz6_1 := blk_frozen BK211.out 1
      have hfz6_2 := blk_frozen BK211.out 2
      have hfz6_3 := blk_frozen BK211.out 3
      have hfz6_4 := blk_frozen BK211.out 4
      have hfz6_5 := blk_frozen BK211.out 5
      have hfz6_6 := blk_frozen BK211.out 6
      have hfz6_7 := blk_frozen BK211.out 7
      have hfz6_8 := blk_frozen BK211.out 8
      have hfz6_9 := blk_frozen BK211.out 9
      go_wp2_with (first | ((with_reducible refine gate_callee (f := 16) rfl ?_); refine goesL_ (some 6) rfl rfl Try.func16 (by kernel_rfl) rfl #[.agg #[.int .u8 a0_0, .slice A0_1 l0_1.length c0_1, .slice A0_2 l0_2.length c0_2, .bool a0_3, .slice A0_4 l0_4.length c0_4, .int .u8 a0_5, .int .i64 a0_6, .int .i64 a0_7, .bool a0_8, .int .u8 a0_9]] rfl (by (try simp only [List.map_toArray, List.map_cons, List.map_nil]); first | done | rfl | (simp only [List.length_drop, List.length_take]; rfl)) ?_; (with_reducible refine (tailwaterref08_Great.calls a0_0 _ _ l0_1 _ _ l0_2 a0_3 _ _ l0_4 a0_5 a0_6 a0_7 a0_8 a0_9 true _ ?side1 ?side2 ?side3 ?side4 ?side5 ?side6 A4.out).mono ?_); (case side1 => repeat (first | exact (Kd.C_below HR0_1.out HB.out) | (with_reducible refine Kd.C_alloc ?_ _) | (with_reducible refine Kd.C_drewN ?_ _) | (with_reducible refine Kd.C_drew ?_))); (case side2 => exact HC0_1.out); (case side3 => repeat (first | exact (Kd.C_below HR0_2.out HB.out) | (with_reducible refine Kd.C_alloc ?_ _) | (with_reducible refine Kd.C_drewN ?_ _) | (with_reducible refine Kd.C_drew ?_))); (case side4 => exact HC0_2.out); (case side5 => repeat (first | exact (Kd.C_below HR0_4.out HB.out) | (with_reducible refine Kd.C_alloc ?_ _) | (with_reducible refine Kd.C_drewN ?_ _) | (with_reducible refine Kd.C_drew ?_))); (case side6 => exact HC0_4.out); rintro e w7 ⟨rfl, hb⟩; refine ⟨_, rfl, ?_⟩; have n0_ := Aside0.mk (blk_below (g := gb211) (o := .cells #[.int .u8 a0_0, .slice A0_1 l0_1.length c0_1, .slice A0_2 l0_2.length c0_2, .bool a0_3, .slice A0_4 l0_4.length c0_4, .int .u8 a0_5, .int .i64 a0_6, .int .i64 a0_7, .bool a0_8, .int .u8 a0_9] 27 (0, 0)) (by (with_reducible repeat (first | refine blk_drewN ?_ _ | refine blk_drew ?_ | refine blk_alloc ?_ _)); exact BK211.out) hb); have n1_ := Aside0.mk (below_step (by repeat (first | (with_reducible first | exact HB.out | apply below_alloc | apply pw_below_drewN | apply below_drew1 | refine below_set ?_ GE211.out) | exact HB.out)) hb); clear BK211; clear HB; have BK211 := n0_; have HB := n1_; clear n0_ n1_; (try clear hb); (try clear hb2); (try clear hk); (try clear hi)))
      go_meet
      case rel => exact ⟨_, (true), (by first | rfl | (simp; done) | (simp [*]; done)), H', ⟨by first | omega | exact Nat.le_refl _⟩, ⟨by (with_reducible repeat (first | refine blk_drewN ?_ _ | refine blk_drew ?_ | refine blk_alloc ?_ _)); exact BK211.out⟩, ⟨by repeat (first | (with_reducible first | exact HB.out | apply below_alloc | apply pw_below_drewN | apply below_drew1 | refine below_set ?_ GE211.out) | exact HB.out)⟩⟩
    · replace c5 := Bool.eq_false_iff.mpr c5
      subst c5
      have H1 : ((tailwaterref08_Check.f k a0_0 l0_1 l0_2 a0_3 l0_4 a0_5 a0_6 a0_7 a0_8 a0_9).bind fun t213 => (tailwaterlaw08_ClausesJoin.j0 k (t213 != 0) a0_0 l0_1 l0_2 a0_3 l0_4 a0_5 a0_6 a0_7 a0_8 a0_9)) = some true := by rw [if_neg (show ¬ (false = true) by decide)] at H; exact H
      clear H
      have H := H1
      clear H1
      replace H := Option.bind_eq_some_iff.mp H
      obtain ⟨t213, A80, H⟩ := H
      replace H : (tailwaterlaw08_ClausesJoin.j0 k (t213 != 0) a0_0 l0_1 l0_2 a0_3 l0_4 a0_5 a0_6 a0_7 a0_8 a0_9) = some true := H
      have A8 := Aside0.mk A80
      clear A80
      have H' := Aside0.mk H
      clear H
      have hcz9_0 : w3.cell? ⟨gb211, 0, none⟩ = some (.int .u8 a0_0) := (blk_cell BK211.out 0).trans rfl
      have hcz9_1 : w3.cell? ⟨gb211, 1, none⟩ = some (.slice A0_1 l0_1.length c0_1) := (blk_cell BK211.out 1).trans rfl
      have hcz9_2 : w3.cell? ⟨gb211, 2, none⟩ = some (.slice A0_2 l0_2.length c0_2) := (blk_cell BK211.out 2).trans rfl
      have hcz9_3 : w3.cell? ⟨gb211, 3, none⟩ = some (.bool a0_3) := (blk_cell BK211.out 3).trans rfl
      have hcz9_4 : w3.cell? ⟨gb211, 4, none⟩ = some (.slice A0_4 l0_4.length c0_4) := (blk_cell BK211.out 4).trans rfl
      have hcz9_5 : w3.cell? ⟨gb211, 5, none⟩ = some (.int .u8 a0_5) := (blk_cell BK211.out 5).trans rfl
      have hcz9_6 : w3.cell? ⟨gb211, 6, none⟩ = some (.int .i64 a0_6) := (blk_cell BK211.out 6).trans rfl
      have hcz9_7 : w3.cell? ⟨gb211, 7, none⟩ = some (.int .i64 a0_7) := (blk_cell BK211.out 7).trans rfl
      have hcz9_8 : w3.cell? ⟨gb211, 8, none⟩ = some (.bool a0_8) := (blk_cell BK211.out 8).trans rfl
      have hcz9_9 : w3.cell? ⟨gb211, 9, none⟩ = some (.int .u8 a0_9) := (blk_cell BK211.out 9).trans rfl
      have hfz9_0 := blk_frozen BK211.out 0
      have hfz9_1 := blk_frozen BK211.out 1
      have hfz9_2 := blk_frozen BK211.out 2
      have hfz9_3 := blk_frozen BK211.out 3
      have hfz9_4 := blk_frozen BK211.out 4
      have hfz9_5 := blk_frozen BK211.out 5
      have hfz9_6 := blk_frozen BK211.out 6
      have hfz9_7 := blk_frozen BK211.out 7
      have hfz9_8 := blk_frozen BK211.out 8
      have hfz9_9 := blk_frozen BK211.out 9
      go_wp2_with (first | ((with_reducible refine gate_callee (f := 16) rfl ?_); refine goesL_ (some 6) rfl rfl Try.func16 (by kernel_rfl) rfl #[.agg #[.int .u8 a0_0, .slice A0_1 l0_1.length c0_1, .slice A0_2 l0_2.length c0_2, .bool a0_3, .slice A0_4 l0_4.length c0_4, .int .u8 a0_5, .int .i64 a0_6, .int .i64 a0_7, .bool a0_8, .int .u8 a0_9]] rfl (by (try simp only [List.map_toArray, List.map_cons, List.map_nil]); first | done | rfl | (simp only [List.length_drop, List.length_take]; rfl)) ?_; (with_reducible refine (tailwaterref08_Great.calls a0_0 _ _ l0_1 _ _ l0_2 a0_3 _ _ l0_4 a0_5 a0_6 a0_7 a0_8 a0_9 false _ ?side1 ?side2 ?side3 ?side4 ?side5 ?side6 A4.out).mono ?_); (case side1 => repeat (first | exact (Kd.C_below HR0_1.out HB.out) | (with_reducible refine Kd.C_alloc ?_ _) | (with_reducible refine Kd.C_drewN ?_ _) | (with_reducible refine Kd.C_drew ?_))); (case side2 => exact HC0_1.out); (case side3 => repeat (first | exact (Kd.C_below HR0_2.out HB.out) | (with_reducible refine Kd.C_alloc ?_ _) | (with_reducible refine Kd.C_drewN ?_ _) | (with_reducible refine Kd.C_drew ?_))); (case side4 => exact HC0_2.out); (case side5 => repeat (first | exact (Kd.C_below HR0_4.out HB.out) | (with_reducible refine Kd.C_alloc ?_ _) | (with_reducible refine Kd.C_drewN ?_ _) | (with_reducible refine Kd.C_drew ?_))); (case side6 => exact HC0_4.out); rintro e w10 ⟨rfl, hb⟩; refine ⟨_, rfl, ?_⟩; have n0_ := Aside0.mk (blk_below (g := gb211) (o := .cells #[.int .u8 a0_0, .slice A0_1 l0_1.length c0_1, .slice A0_2 l0_2.length c0_2, .bool a0_3, .slice A0_4 l0_4.length c0_4, .int .u8 a0_5, .int .i64 a0_6, .int .i64 a0_7, .bool a0_8, .int .u8 a0_9] 27 (0, 0)) (by (with_reducible repeat (first | refine blk_drewN ?_ _ | refine blk_drew ?_ | refine blk_alloc ?_ _)); exact BK211.out) hb); have n1_ := Aside0.mk (below_step (by repeat (first | (with_reducible first | exact HB.out | apply below_alloc | apply pw_below_drewN | apply below_drew1 | refine below_set ?_ GE211.out) | exact HB.out)) hb); clear BK211; clear HB; have BK211 := n0_; have HB := n1_; clear n0_ n1_; (try clear hb); (try clear hb2); (try clear hk); (try clear hi); have hcz11_0 : w10.cell? ⟨gb211, 0, none⟩ = some (.int .u8 a0_0) := (blk_cell BK211.out 0).trans rfl; have hcz11_1 : w10.cell? ⟨gb211, 1, none⟩ = some (.slice A0_1 l0_1.length c0_1) := (blk_cell BK211.out 1).trans rfl; have hcz11_2 : w10.cell? ⟨gb211, 2, none⟩ = some (.slice A0_2 l0_2.length c0_2) := (blk_cell BK211.out 2).trans rfl; have hcz11_3 : w10.cell? ⟨gb211, 3, none⟩ = some (.bool a0_3) := (blk_cell BK211.out 3).trans rfl; have hcz11_4 : w10.cell? ⟨gb211, 4, none⟩ = some (.slice A0_4 l0_4.length c0_4) := (blk_cell BK211.out 4).trans rfl; have hcz11_5 : w10.cell? ⟨gb211, 5, none⟩ = some (.int .u8 a0_5) := (blk_cell BK211.out 5).trans rfl; have hcz11_6 : w10.cell? ⟨gb211, 6, none⟩ = some (.int .i64 a0_6) := (blk_cell BK211.out 6).trans rfl; have hcz11_7 : w10.cell? ⟨gb211, 7, none⟩ = some (.int .i64 a0_7) := (blk_cell BK211.out 7).trans rfl; have hcz11_8 : w10.cell? ⟨gb211, 8, none⟩ = some (.bool a0_8) := (blk_cell BK211.out 8).trans rfl; have hcz11_9 : w10.cell? ⟨gb211, 9, none⟩ = some (.int .u8 a0_9) := (blk_cell BK211.out 9).trans rfl; have hfz11_0 := blk_frozen BK211.out 0; have hfz11_1 := blk_frozen BK211.out 1; have hfz11_2 := blk_frozen BK211.out 2; have hfz11_3 := blk_frozen BK211.out 3; have hfz11_4 := blk_frozen BK211.out 4; have hfz11_5 := blk_frozen BK211.out 5; have hfz11_6 := blk_frozen BK211.out 6; have hfz11_7 := blk_frozen BK211.out 7; have hfz11_8 := blk_frozen BK211.out 8; have hfz11_9 := blk_frozen BK211.out 9) | (go_at_call 17; (with_reducible refine (tailwaterref08_Check.calls k a0_0 _ _ l0_1 _ _ l0_2 a0_3 _ _ l0_4 a0_5 a0_6 a0_7 a0_8 a0_9 t213 _ ?side1 ?side2 ?side3 ?side4 ?side5 ?side6 A8.out).mono ?_); (case side1 => repeat (first | exact (Kd.C_below HR0_1.out HB.out) | (with_reducible refine Kd.C_alloc ?_ _) | (with_reducible refine Kd.C_drewN ?_ _) | (with_reducible refine Kd.C_drew ?_))); (case side2 => exact HC0_1.out); (case side3 => repeat (first | exact (Kd.C_below HR0_2.out HB.out) | (with_reducible refine Kd.C_alloc ?_ _) | (with_reducible refine Kd.C_drewN ?_ _) | (with_reducible refine Kd.C_drew ?_))); (case side4 => exact HC0_2.out); (case side5 => repeat (first | exact (Kd.C_below HR0_4.out HB.out) | (with_reducible refine Kd.C_alloc ?_ _) | (with_reducible refine Kd.C_drewN ?_ _) | (with_reducible refine Kd.C_drew ?_))); (case side6 => exact HC0_4.out); rintro e w12 ⟨rfl, hb⟩; have n0_ := Aside0.mk (blk_below (g := gb211) (o := .cells #[.int .u8 a0_0, .slice A0_1 l0_1.length c0_1, .slice A0_2 l0_2.length c0_2, .bool a0_3, .slice A0_4 l0_4.length c0_4, .int .u8 a0_5, .int .i64 a0_6, .int .i64 a0_7, .bool a0_8, .int .u8 a0_9] 27 (0, 0)) (by (with_reducible repeat (first | refine blk_drewN ?_ _ | refine blk_drew ?_ | refine blk_alloc ?_ _)); exact BK211.out) hb); have n1_ := Aside0.mk (below_step (by repeat (first | (with_reducible first | exact HB.out | apply below_alloc | apply pw_below_drewN | apply below_drew1 | refine below_set ?_ GE211.out) | exact HB.out)) hb); clear BK211; clear HB; have BK211 := n0_; have HB := n1_; clear n0_ n1_; (try clear hb); (try clear hb2); (try clear hk); (try clear hi)))
      go_meet
      case rel => exact ⟨_, ((t213 != 0)), (by first | rfl | (simp; done) | (simp [*]; done)), H', ⟨by first | omega | exact Nat.le_refl _⟩, ⟨by (with_reducible repeat (first | refine blk_drewN ?_ _ | refine blk_drew ?_ | refine blk_alloc ?_ _)); exact BK211.out⟩, ⟨by repeat (first | (with_reducible first | exact HB.out | apply below_alloc | apply pw_below_drewN | apply below_drew1 | refine below_set ?_ GE211.out) | exact HB.out)⟩⟩
  case rest =>
    clear HC2
    try clear c1
    try clear p2
    try clear c5
    try clear hcz11_0
    try clear hcz11_1
    try clear hcz11_2
    try clear hcz11_3
    try clear hcz11_4
    try clear hcz11_5
    try clear hcz11_6
    try clear hcz11_7
    try clear hcz11_8
    try clear hcz11_9
    try clear hcz6_0
    try clear hcz6_1
    try clear hcz6_2
    try clear hcz6_3
    try clear hcz6_4
    try clear hcz6_5
    try clear hcz6_6
    try clear hcz6_7
    try clear hcz6_8
    try clear hcz6_9
    try clear hcz9_0
    try clear hcz9_1
    try clear hcz9_2
    try clear hcz9_3
    try clear hcz9_4
    try clear hcz9_5
    try clear hcz9_6
    try clear hcz9_7
    try clear hcz9_8
    try clear hcz9_9
    try clear hfz11_0
    try clear hfz11_1
    try clear hfz11_2
    try clear hfz11_3
    try clear hfz11_4
    try clear hfz11_5
    try clear hfz11_6
    try clear hfz11_7
    try clear hfz11_8
    try clear hfz11_9
    try clear hfz6_0
    try clear hfz6_1
    try clear hfz6_2
    try clear hfz6_3
    try clear hfz6_4
    try clear hfz6_5
    try clear hfz6_6
    try clear hfz6_7
    try clear hfz6_8
    try clear hfz6_9
    try clear hfz9_0
    try clear hfz9_1
    try clear hfz9_2
    try clear hfz9_3
    try clear hfz9_4
    try clear hfz9_5
    try clear hfz9_6
    try clear hfz9_7
    try clear hfz9_8
    try clear hfz9_9
    obtain ⟨kq, x11_1, rfl, HA, HJ1, BK211, HB⟩ := hcut
    cases kq with
    | zero => exact absurd HA.out (by simp [tailwaterlaw08_ClausesJoin.j0])
    | succ kj1 =>
      have H := HA.out
      clear HA
      simp only [tailwaterlaw08_ClausesJoin.j0] at H
      by_cases c13 : x11_1 = true
      · subst c13
        have H1 : ((tailwaterlaw08_alive.f kj1).bind fun t214 => (some t214)) = some true := by rw [if_pos rfl] at H; exact H
        clear H
        have H := H1
        clear H1
        replace H := Option.bind_eq_some_iff.mp H
        obtain ⟨t214, A140, H⟩ := H
        replace H : (some t214) = some true := H
        have A14 := Aside0.mk A140
        clear A140
        have hv_ := Option.some.inj H
        clear H
        go_wp2_with (first | ((with_reducible refine gate_callee (f := 18) rfl ?_); refine goesL_ (some 12) rfl rfl Try.func18 (by kernel_rfl) rfl #[] rfl (by (try simp only [List.map_toArray, List.map_cons, List.map_nil]); first | done | rfl | (simp only [List.length_drop, List.length_take]; rfl)) ?_; (with_reducible refine (tailwaterlaw08_alive.calls kj1  t214 _ A14.out).mono ?_); rintro e w15 ⟨rfl, hb⟩; refine ⟨_, rfl, ?_⟩; have n0_ := Aside0.mk (blk_below (g := gb211) (o := .cells #[.int .u8 a0_0, .slice A0_1 l0_1.length c0_1, .slice A0_2 l0_2.length c0_2, .bool a0_3, .slice A0_4 l0_4.length c0_4, .int .u8 a0_5, .int .i64 a0_6, .int .i64 a0_7, .bool a0_8, .int .u8 a0_9] 27 (0, 0)) (by (with_reducible repeat (first | refine blk_drewN ?_ _ | refine blk_drew ?_ | refine blk_alloc ?_ _)); exact BK211.out) hb); have n1_ := Aside0.mk (below_step (by repeat (first | (with_reducible first | exact HB.out | apply below_alloc | apply pw_below_drewN | apply below_drew1 | refine below_set ?_ GE211.out) | exact HB.out)) hb); clear BK211; clear HB; have BK211 := n0_; have HB := n1_; clear n0_ n1_; (try clear hb); (try clear hb2); (try clear hk); (try clear hi)))
        go_ret
        exact ⟨by first | rfl | (simp [errW_none, errW_some] <;> rfl) | (simp [*, errW_none, errW_some] <;> rfl), by repeat (first | (with_reducible first | exact HB.out | apply below_alloc | apply pw_below_drewN | apply below_drew1 | refine below_set ?_ GE211.out) | exact HB.out)⟩
      · replace c13 := Bool.eq_false_iff.mpr c13
        subst c13
        have H1 : (if (l0_2.length : Int) = 2 then (tailwaterlaw08_ClausesJoin.j1 kj1 (a0_5 == 1) a0_0 l0_1 l0_2 a0_3 l0_4 a0_5 a0_6 a0_7 a0_8 a0_9 a0_0 l0_1 l0_2 (!a0_3) l0_4 a0_5 a0_6 a0_7 a0_8 a0_9) else (tailwaterlaw08_ClausesJoin.j1 kj1 false a0_0 l0_1 l0_2 a0_3 l0_4 a0_5 a0_6 a0_7 a0_8 a0_9 a0_0 l0_1 l0_2 (!a0_3) l0_4 a0_5 a0_6 a0_7 a0_8 a0_9)) = some true := by rw [if_neg (show ¬ (false = true) by decide)] at H; exact H
        clear H
        have H := H1
        clear H1
        have HC16 := Aside0.mk H
        clear H
        have hcz17_0 : wc.cell? ⟨gb211, 0, none⟩ = some (.int .u8 a0_0) := (blk_cell BK211.out 0).trans rfl
        have hcz17_1 : wc.cell? ⟨gb211, 1, none⟩ = some (.slice A0_1 l0_1.length c0_1) := (blk_cell BK211.out 1).trans rfl
        have hcz17_2 : wc.cell? ⟨gb211, 2, none⟩ = some (.slice A0_2 l0_2.length c0_2) := (blk_cell BK211.out 2).trans rfl
        have hcz17_3 : wc.cell? ⟨gb211, 3, none⟩ = some (.bool a0_3) := (blk_cell BK211.out 3).trans rfl
        have hcz17_4 : wc.cell? ⟨gb211, 4, none⟩ = some (.slice A0_4 l0_4.length c0_4) := (blk_cell BK211.out 4).trans rfl
        have hcz17_5 : wc.cell? ⟨gb211, 5, none⟩ = some (.int .u8 a0_5) := (blk_cell BK211.out 5).trans rfl
        have hcz17_6 : wc.cell? ⟨gb211, 6, none⟩ = some (.int .i64 a0_6) := (blk_cell BK211.out 6).trans rfl
        have hcz17_7 : wc.cell? ⟨gb211, 7, none⟩ = some (.int .i64 a0_7) := (blk_cell BK211.out 7).trans rfl
        have hcz17_8 : wc.cell? ⟨gb211, 8, none⟩ = some (.bool a0_8) := (blk_cell BK211.out 8).trans rfl
        have hcz17_9 : wc.cell? ⟨gb211, 9, none⟩ = some (.int .u8 a0_9) := (blk_cell BK211.out 9).trans rfl
        have hfz17_0 := blk_frozen BK211.out 0
        have hfz17_1 := blk_frozen BK211.out 1
        have hfz17_2 := blk_frozen BK211.out 2
        have hfz17_3 := blk_frozen BK211.out 3
        have hfz17_4 := blk_frozen BK211.out 4
        have hfz17_5 := blk_frozen BK211.out 5
        have hfz17_6 := blk_frozen BK211.out 6
        have hfz17_7 := blk_frozen BK211.out 7
        have hfz17_8 := blk_frozen BK211.out 8
        have hfz17_9 := blk_frozen BK211.out 9
        go_upto_region 5 with (first | ((with_reducible refine gate_dst (N := 3) rfl ?_); refine box_event ?hg (N := 3) ?hd (cs := #[.int .u8 0, .slice none 0 0, .slice none 0 0, .bool false, .slice none 0 0, .int .u8 0, .int .i64 0, .int .i64 0, .bool false, .int .u8 0]) (t := 27) ?hr ?_; (case hd => rfl); (case hg => rfl); (case hr => first | (go_simp; done) | (go_simp; rfl)); intro gb215 hg w18 hbox hb; have n0_ := Aside0.mk (blk_below (g := gb211) (o := .cells #[.int .u8 a0_0, .slice A0_1 l0_1.length c0_1, .slice A0_2 l0_2.length c0_2, .bool a0_3, .slice A0_4 l0_4.length c0_4, .int .u8 a0_5, .int .i64 a0_6, .int .i64 a0_7, .bool a0_8, .int .u8 a0_9] 27 (0, 0)) (by (with_reducible repeat (first | refine blk_drewN ?_ _ | refine blk_drew ?_ | refine blk_alloc ?_ _)); exact BK211.out) hb); have n1_ := Aside0.mk (below_step (by repeat (first | (with_reducible first | exact HB.out | apply below_alloc | apply pw_below_drewN | apply below_drew1 | refine below_set ?_ GE211.out) | exact HB.out)) hb); have n2_ := Aside0.mk (hbox); have n3_ := Aside0.mk ((by rw [hg]; exact (below_size (by repeat (first | (with_reducible first | exact HB.out | apply below_alloc | apply pw_below_drewN | apply below_drew1 | refine below_set ?_ GE211.out) | exact HB.out))) : w.heap.size ≤ gb215)); have n4_ := Aside0.mk ((by rw [hg]; exact (below_size (by repeat (first | (with_reducible first | exact HB.out | apply below_alloc | apply pw_below_drewN | apply below_drew1 | refine below_set ?_ GE211.out) | exact HB.out))) : w.heap.size ≤ gb215)); have n5_ := Aside0.mk ((by rw [hg]; exact Nat.ne_of_lt (blk_lt (g := gb211) (o := .cells #[.int .u8 a0_0, .slice A0_1 l0_1.length c0_1, .slice A0_2 l0_2.length c0_2, .bool a0_3, .slice A0_4 l0_4.length c0_4, .int .u8 a0_5, .int .i64 a0_6, .int .i64 a0_7, .bool a0_8, .int .u8 a0_9] 27 (0, 0)) (by (with_reducible repeat (first | refine blk_drewN ?_ _ | refine blk_drew ?_ | refine blk_alloc ?_ _)); exact BK211.out)) : gb211 ≠ gb215)); have n6_ := Aside0.mk ((by rw [hg]; exact Nat.ne_of_gt (blk_lt (g := gb211) (o := .cells #[.int .u8 a0_0, .slice A0_1 l0_1.length c0_1, .slice A0_2 l0_2.length c0_2, .bool a0_3, .slice A0_4 l0_4.length c0_4, .int .u8 a0_5, .int .i64 a0_6, .int .i64 a0_7, .bool a0_8, .int .u8 a0_9] 27 (0, 0)) (by (with_reducible repeat (first | refine blk_drewN ?_ _ | refine blk_drew ?_ | refine blk_alloc ?_ _)); exact BK211.out)) : gb215 ≠ gb211)); clear BK211; clear HB; have BK211 := n0_; have HB := n1_; have BK215 := n2_; have GW215 := n3_; have GE215 := n4_; have NB211_215 := n5_; have NB215_211 := n6_; clear n0_ n1_ n2_ n3_ n4_ n5_ n6_; clear hb hbox hg; have hnb19 := NB215_211.out; have hnc19 := NB211_215.out; have hcz20_0 : w18.cell? ⟨gb215, 0, none⟩ = some (.int .u8 0) := (blk_cell BK215.out 0).trans rfl; have hcz20_1 : w18.cell? ⟨gb215, 1, none⟩ = some (.slice none 0 0) := (blk_cell BK215.out 1).trans rfl; have hcz20_2 : w18.cell? ⟨gb215, 2, none⟩ = some (.slice none 0 0) := (blk_cell BK215.out 2).trans rfl; have hcz20_3 : w18.cell? ⟨gb215, 3, none⟩ = some (.bool false) := (blk_cell BK215.out 3).trans rfl; have hcz20_4 : w18.cell? ⟨gb215, 4, none⟩ = some (.slice none 0 0) := (blk_cell BK215.out 4).trans rfl; have hcz20_5 : w18.cell? ⟨gb215, 5, none⟩ = some (.int .u8 0) := (blk_cell BK215.out 5).trans rfl; have hcz20_6 : w18.cell? ⟨gb215, 6, none⟩ = some (.int .i64 0) := (blk_cell BK215.out 6).trans rfl; have hcz20_7 : w18.cell? ⟨gb215, 7, none⟩ = some (.int .i64 0) := (blk_cell BK215.out 7).trans rfl; have hcz20_8 : w18.cell? ⟨gb215, 8, none⟩ = some (.bool false) := (blk_cell BK215.out 8).trans rfl; have hcz20_9 : w18.cell? ⟨gb215, 9, none⟩ = some (.int .u8 0) := (blk_cell BK215.out 9).trans rfl; have hfz20_0 := blk_frozen BK215.out 0; have hfz20_1 := blk_frozen BK215.out 1; have hfz20_2 := blk_frozen BK215.out 2; have hfz20_3 := blk_frozen BK215.out 3; have hfz20_4 := blk_frozen BK215.out 4; have hfz20_5 := blk_frozen BK215.out 5; have hfz20_6 := blk_frozen BK215.out 6; have hfz20_7 := blk_frozen BK215.out 7; have hfz20_8 := blk_frozen BK215.out 8; have hfz20_9 := blk_frozen BK215.out 9; have hcz21_0 : w18.cell? ⟨gb211, 0, none⟩ = some (.int .u8 a0_0) := (blk_cell BK211.out 0).trans rfl; have hcz21_1 : w18.cell? ⟨gb211, 1, none⟩ = some (.slice A0_1 l0_1.length c0_1) := (blk_cell BK211.out 1).trans rfl; have hcz21_2 : w18.cell? ⟨gb211, 2, none⟩ = some (.slice A0_2 l0_2.length c0_2) := (blk_cell BK211.out 2).trans rfl; have hcz21_3 : w18.cell? ⟨gb211, 3, none⟩ = some (.bool a0_3) := (blk_cell BK211.out 3).trans rfl; have hcz21_4 : w18.cell? ⟨gb211, 4, none⟩ = some (.slice A0_4 l0_4.length c0_4) := (blk_cell BK211.out 4).trans rfl; have hcz21_5 : w18.cell? ⟨gb211, 5, none⟩ = some (.int .u8 a0_5) := (blk_cell BK211.out 5).trans rfl; have hcz21_6 : w18.cell? ⟨gb211, 6, none⟩ = some (.int .i64 a0_6) := (blk_cell BK211.out 6).trans rfl; have hcz21_7 : w18.cell? ⟨gb211, 7, none⟩ = some (.int .i64 a0_7) := (blk_cell BK211.out 7).trans rfl; have hcz21_8 : w18.cell? ⟨gb211, 8, none⟩ = some (.bool a0_8) := (blk_cell BK211.out 8).trans rfl; have hcz21_9 : w18.cell? ⟨gb211, 9, none⟩ = some (.int .u8 a0_9) := (blk_cell BK211.out 9).trans rfl; have hfz21_0 := blk_frozen BK211.out 0; have hfz21_1 := blk_frozen BK211.out 1; have hfz21_2 := blk_frozen BK211.out 2; have hfz21_3 := blk_frozen BK211.out 3; have hfz21_4 := blk_frozen BK211.out 4; have hfz21_5 := blk_frozen BK211.out 5; have hfz21_6 := blk_frozen BK211.out 6; have hfz21_7 := blk_frozen BK211.out 7; have hfz21_8 := blk_frozen BK211.out 8; have hfz21_9 := blk_frozen BK211.out 9))
        (try simp only [Act.put, List.setIfInBounds_toArray, List.set_cons_zero, List.set_cons_succ])
        go_cut [4] (fun v4 wc => ∃ (kq : Nat) (x4_15 : Bool), v4 = .bool x4_15 ∧ Aside0 (tailwaterlaw08_ClausesJoin.j1 kq x4_15 a0_0 l0_1 l0_2 a0_3 l0_4 a0_5 a0_6 a0_7 a0_8 a0_9 a0_0 l0_1 l0_2 (!a0_3) l0_4 a0_5 a0_6 a0_7 a0_8 a0_9 = some true) ∧ Aside0 (kq ≤ kj1) ∧ Aside0 (wc.heap[gb211]? = some (.cells #[.int .u8 a0_0, (.slice A0_1 l0_1.length c0_1), (.slice A0_2 l0_2.length c0_2), .bool a0_3, (.slice A0_4 l0_4.length c0_4), .int .u8 a0_5, .int .i64 a0_6, .int .i64 a0_7, .bool a0_8, .int .u8 a0_9] 27 (0, 0))) ∧ Aside0 (wc.heap[gb215]? = some (.cells #[.int .u8 a0_0, (.slice A0_1 l0_1.length c0_1), (.slice A0_2 l0_2.length c0_2), .bool (!a0_3), (.slice A0_4 l0_4.length c0_4), .int .u8 a0_5, .int .i64 a0_6, .int .i64 a0_7, .bool a0_8, .int .u8 a0_9] 27 (0, 0))) ∧ Aside0 (Below w.heap.size w wc))
        case first =>
          have H := HC16.out
          clear HC16
          by_cases c22 : (l0_2.length : Int) = 2
          · rw [if_pos c22] at H
            have c22b0 : ((l0_2.length : Int) == 2) = true := beq_iff_eq.mpr c22
            have c22b1 : ((l0_2.length : Int) != 2) = false := bne_eq_false_iff_eq.mpr c22
            clear c22
            (first | rw [c22b0] | (simp only [i64_w, i32_w]; rw [c22b0]) | rw [c22b1] | skip)
            have H' := Aside0.mk H
            clear H
            have hnb23 := NB211_215.out
            have hnc23 := NB215_211.out
            have hcz24_0 : w18.cell? ⟨gb211, 0, none⟩ = some (.int .u8 a0_0) := (blk_cell BK211.out 0).trans rfl
            have hcz24_1 : w18.cell? ⟨gb211, 1, none⟩ = some (.slice A0_1 l0_1.length c0_1) := (blk_cell BK211.out 1).trans rfl
            have hcz24_2 : w18.cell? ⟨gb211, 2, none⟩ = some (.slice A0_2 l0_2.length c0_2) := (blk_cell BK211.out 2).trans rfl
            have hcz24_3 : w18.cell? ⟨gb211, 3, none⟩ = some (.bool a0_3) := (blk_cell BK211.out 3).trans rfl
            have hcz24_4 : w18.cell? ⟨gb211, 4, none⟩ = some (.slice A0_4 l0_4.length c0_4) := (blk_cell BK211.out 4).trans rfl
            have hcz24_5 : w18.cell? ⟨gb211, 5, none⟩ = some (.int .u8 a0_5) := (blk_cell BK211.out 5).trans rfl
            have hcz24_6 : w18.cell? ⟨gb211, 6, none⟩ = some (.int .i64 a0_6) := (blk_cell BK211.out 6).trans rfl
            have hcz24_7 : w18.cell? ⟨gb211, 7, none⟩ = some (.int .i64 a0_7) := (blk_cell BK211.out 7).trans rfl
            have hcz24_8 : w18.cell? ⟨gb211, 8, none⟩ = some (.bool a0_8) := (blk_cell BK211.out 8).trans rfl
            have hcz24_9 : w18.cell? ⟨gb211, 9, none⟩ = some (.int .u8 a0_9) := (blk_cell BK211.out 9).trans rfl
            have hfz24_0 := blk_frozen BK211.out 0
            have hfz24_1 := blk_frozen BK211.out 1
            have hfz24_2 := blk_frozen BK211.out 2
            have hfz24_3 := blk_frozen BK211.out 3
            have hfz24_4 := blk_frozen BK211.out 4
            have hfz24_5 := blk_frozen BK211.out 5
            have hfz24_6 := blk_frozen BK211.out 6
            have hfz24_7 := blk_frozen BK211.out 7
            have hfz24_8 := blk_frozen BK211.out 8
            have hfz24_9 := blk_frozen BK211.out 9
            go_wp2
            go_meet
            case rel => exact ⟨_, ((a0_5 == 1)), (by first | rfl | (simp; done) | (simp [*]; done)), H', ⟨by have := HJ1.out; first | omega | exact Nat.le_refl _⟩, ⟨by (with_reducible repeat (first | refine blk_drewN ?_ _ | refine blk_drew ?_ | refine blk_alloc ?_ _)); refine blk_far ?_ NB211_215.out _; (with_reducible repeat (first | refine blk_drewN ?_ _ | refine blk_drew ?_ | refine blk_alloc ?_ _)); refine blk_far ?_ NB211_215.out _; (with_reducible repeat (first | refine blk_drewN ?_ _ | refine blk_drew ?_ | refine blk_alloc ?_ _)); refine blk_far ?_ NB211_215.out _; (with_reducible repeat (first | refine blk_drewN ?_ _ | refine blk_drew ?_ | refine blk_alloc ?_ _)); refine blk_far ?_ NB211_215.out _; (with_reducible repeat (first | refine blk_drewN ?_ _ | refine blk_drew ?_ | refine blk_alloc ?_ _)); refine blk_far ?_ NB211_215.out _; (with_reducible repeat (first | refine blk_drewN ?_ _ | refine blk_drew ?_ | refine blk_alloc ?_ _)); refine blk_far ?_ NB211_215.out _; (with_reducible repeat (first | refine blk_drewN ?_ _ | refine blk_drew ?_ | refine blk_alloc ?_ _)); refine blk_far ?_ NB211_215.out _; (with_reducible repeat (first | refine blk_drewN ?_ _ | refine blk_drew ?_ | refine blk_alloc ?_ _)); refine blk_far ?_ NB211_215.out _; (with_reducible repeat (first | refine blk_drewN ?_ _ | refine blk_drew ?_ | refine blk_alloc ?_ _)); refine blk_far ?_ NB211_215.out _; (with_reducible repeat (first | refine blk_drewN ?_ _ | refine blk_drew ?_ | refine blk_alloc ?_ _)); refine blk_far ?_ NB211_215.out _; (with_reducible repeat (first | refine blk_drewN ?_ _ | refine blk_drew ?_ | refine blk_alloc ?_ _)); refine blk_far ?_ NB211_215.out _; (with_reducible repeat (first | refine blk_drewN ?_ _ | refine blk_drew ?_ | refine blk_alloc ?_ _)); exact BK211.out⟩, ⟨by (with_reducible repeat (first | refine blk_drewN ?_ _ | refine blk_drew ?_ | refine blk_alloc ?_ _)); refine blk_put (cs := #[.int .u8 a0_0, .slice A0_1 l0_1.length c0_1, .slice A0_2 l0_2.length c0_2, .bool a0_3, .slice A0_4 l0_4.length c0_4, .int .u8 a0_5, .int .i64 a0_6, .int .i64 a0_7, .bool a0_8, .int .u8 a0_9]) ?_ 3 _ rfl; (with_reducible repeat (first | refine blk_drewN ?_ _ | refine blk_drew ?_ | refine blk_alloc ?_ _)); refine blk_put (cs := #[.int .u8 a0_0, .slice A0_1 l0_1.length c0_1, .slice A0_2 l0_2.length c0_2, .bool a0_3, .slice A0_4 l0_4.length c0_4, .int .u8 a0_5, .int .i64 a0_6, .int .i64 a0_7, .bool a0_8, .int .u8 0]) ?_ 9 _ rfl; (with_reducible repeat (first | refine blk_drewN ?_ _ | refine blk_drew ?_ | refine blk_alloc ?_ _)); refine blk_put (cs := #[.int .u8 a0_0, .slice A0_1 l0_1.length c0_1, .slice A0_2 l0_2.length c0_2, .bool a0_3, .slice A0_4 l0_4.length c0_4, .int .u8 a0_5, .int .i64 a0_6, .int .i64 a0_7, .bool false, .int .u8 0]) ?_ 8 _ rfl; (with_reducible repeat (first | refine blk_drewN ?_ _ | refine blk_drew ?_ | refine blk_alloc ?_ _)); refine blk_put (cs := #[.int .u8 a0_0, .slice A0_1 l0_1.length c0_1, .slice A0_2 l0_2.length c0_2, .bool a0_3, .slice A0_4 l0_4.length c0_4, .int .u8 a0_5, .int .i64 a0_6, .int .i64 0, .bool false, .int .u8 0]) ?_ 7 _ rfl; (with_reducible repeat (first | refine blk_drewN ?_ _ | refine blk_drew ?_ | refine blk_alloc ?_ _)); refine blk_put (cs := #[.int .u8 a0_0, .slice A0_1 l0_1.length c0_1, .slice A0_2 l0_2.length c0_2, .bool a0_3, .slice A0_4 l0_4.length c0_4, .int .u8 a0_5, .int .i64 0, .int .i64 0, .bool false, .int .u8 0]) ?_ 6 _ rfl; (with_reducible repeat (first | refine blk_drewN ?_ _ | refine blk_drew ?_ | refine blk_alloc ?_ _)); refine blk_put (cs := #[.int .u8 a0_0, .slice A0_1 l0_1.length c0_1, .slice A0_2 l0_2.length c0_2, .bool a0_3, .slice A0_4 l0_4.length c0_4, .int .u8 0, .int .i64 0, .int .i64 0, .bool false, .int .u8 0]) ?_ 5 _ rfl; (with_reducible repeat (first | refine blk_drewN ?_ _ | refine blk_drew ?_ | refine blk_alloc ?_ _)); refine blk_put (cs := #[.int .u8 a0_0, .slice A0_1 l0_1.length c0_1, .slice A0_2 l0_2.length c0_2, .bool a0_3, .slice none 0 0, .int .u8 0, .int .i64 0, .int .i64 0, .bool false, .int .u8 0]) ?_ 4 _ rfl; (with_reducible repeat (first | refine blk_drewN ?_ _ | refine blk_drew ?_ | refine blk_alloc ?_ _)); refine blk_put (cs := #[.int .u8 a0_0, .slice A0_1 l0_1.length c0_1, .slice A0_2 l0_2.length c0_2, .bool false, .slice none 0 0, .int .u8 0, .int .i64 0, .int .i64 0, .bool false, .int .u8 0]) ?_ 3 _ rfl; (with_reducible repeat (first | refine blk_drewN ?_ _ | refine blk_drew ?_ | refine blk_alloc ?_ _)); refine blk_put (cs := #[.int .u8 a0_0, .slice A0_1 l0_1.length c0_1, .slice none 0 0, .bool false, .slice none 0 0, .int .u8 0, .int .i64 0, .int .i64 0, .bool false, .int .u8 0]) ?_ 2 _ rfl; (with_reducible repeat (first | refine blk_drewN ?_ _ | refine blk_drew ?_ | refine blk_alloc ?_ _)); refine blk_put (cs := #[.int .u8 a0_0, .slice none 0 0, .slice none 0 0, .bool false, .slice none 0 0, .int .u8 0, .int .i64 0, .int .i64 0, .bool false, .int .u8 0]) ?_ 1 _ rfl; (with_reducible repeat (first | refine blk_drewN ?_ _ | refine blk_drew ?_ | refine blk_alloc ?_ _)); refine blk_put (cs := #[.int .u8 0, .slice none 0 0, .slice none 0 0, .bool false, .slice none 0 0, .int .u8 0, .int .i64 0, .int .i64 0, .bool false, .int .u8 0]) ?_ 0 _ rfl; (with_reducible repeat (first | refine blk_drewN ?_ _ | refine blk_drew ?_ | refine blk_alloc ?_ _)); exact BK215.out⟩, ⟨by repeat (first | (with_reducible first | exact HB.out | apply below_alloc | apply pw_below_drewN | apply below_drew1 | refine below_set ?_ GE211.out | refine below_set ?_ GE215.out) | exact HB.out)⟩⟩
          · rw [if_neg c22] at H
            have c22b0 : ((l0_2.length : Int) == 2) = false := beq_eq_false_iff_ne.mpr c22
            have c22b1 : ((l0_2.length : Int) != 2) = true := bne_iff_ne.mpr c22
            (first | rw [c22b0] | (simp only [i64_w, i32_w]; rw [c22b0]) | rw [c22b1] | skip)
            have H' := Aside0.mk H
            clear H
            have hnb25 := NB211_215.out
            have hnc25 := NB215_211.out
            have hcz26_0 : w18.cell? ⟨gb211, 0, none⟩ = some (.int .u8 a0_0) := (blk_cell BK211.out 0).trans rfl
            have hcz26_1 : w18.cell? ⟨gb211, 1, none⟩ = some (.slice A0_1 l0_1.length c0_1) := (blk_cell BK211.out 1).trans rfl
            have hcz26_2 : w18.cell? ⟨gb211, 2, none⟩ = some (.slice A0_2 l0_2.length c0_2) := (blk_cell BK211.out 2).trans rfl
            have hcz26_3 : w18.cell? ⟨gb211, 3, none⟩ = some (.bool a0_3) := (blk_cell BK211.out 3).trans rfl
            have hcz26_4 : w18.cell? ⟨gb211, 4, none⟩ = some (.slice A0_4 l0_4.length c0_4) := (blk_cell BK211.out 4).trans rfl
            have hcz26_5 : w18.cell? ⟨gb211, 5, none⟩ = some (.int .u8 a0_5) := (blk_cell BK211.out 5).trans rfl
            have hcz26_6 : w18.cell? ⟨gb211, 6, none⟩ = some (.int .i64 a0_6) := (blk_cell BK211.out 6).trans rfl
            have hcz26_7 : w18.cell? ⟨gb211, 7, none⟩ = some (.int .i64 a0_7) := (blk_cell BK211.out 7).trans rfl
            have hcz26_8 : w18.cell? ⟨gb211, 8, none⟩ = some (.bool a0_8) := (blk_cell BK211.out 8).trans rfl
            have hcz26_9 : w18.cell? ⟨gb211, 9, none⟩ = some (.int .u8 a0_9) := (blk_cell BK211.out 9).trans rfl
            have hfz26_0 := blk_frozen BK211.out 0
            have hfz26_1 := blk_frozen BK211.out 1
            have hfz26_2 := blk_frozen BK211.out 2
            have hfz26_3 := blk_frozen BK211.out 3
            have hfz26_4 := blk_frozen BK211.out 4
            have hfz26_5 := blk_frozen BK211.out 5
            have hfz26_6 := blk_frozen BK211.out 6
            have hfz26_7 := blk_frozen BK211.out 7
            have hfz26_8 := blk_frozen BK211.out 8
            have hfz26_9 := blk_frozen BK211.out 9
            go_wp2
            go_meet
            case rel => exact ⟨_, (false), (by first | rfl | (simp; done) | (simp [*]; done)), H', ⟨by have := HJ1.out; first | omega | exact Nat.le_refl _⟩, ⟨by (with_reducible repeat (first | refine blk_drewN ?_ _ | refine blk_drew ?_ | refine blk_alloc ?_ _)); refine blk_far ?_ NB211_215.out _; (with_reducible repeat (first | refine blk_drewN ?_ _ | refine blk_drew ?_ | refine blk_alloc ?_ _)); refine blk_far ?_ NB211_215.out _; (with_reducible repeat (first | refine blk_drewN ?_ _ | refine blk_drew ?_ | refine blk_alloc ?_ _)); refine blk_far ?_ NB211_215.out _; (with_reducible repeat (first | refine blk_drewN ?_ _ | refine blk_drew ?_ | refine blk_alloc ?_ _)); refine blk_far ?_ NB211_215.out _; (with_reducible repeat (first | refine blk_drewN ?_ _ | refine blk_drew ?_ | refine blk_alloc ?_ _)); refine blk_far ?_ NB211_215.out _; (with_reducible repeat (first | refine blk_drewN ?_ _ | refine blk_drew ?_ | refine blk_alloc ?_ _)); refine blk_far ?_ NB211_215.out _; (with_reducible repeat (first | refine blk_drewN ?_ _ | refine blk_drew ?_ | refine blk_alloc ?_ _)); refine blk_far ?_ NB211_215.out _; (with_reducible repeat (first | refine blk_drewN ?_ _ | refine blk_drew ?_ | refine blk_alloc ?_ _)); refine blk_far ?_ NB211_215.out _; (with_reducible repeat (first | refine blk_drewN ?_ _ | refine blk_drew ?_ | refine blk_alloc ?_ _)); refine blk_far ?_ NB211_215.out _; (with_reducible repeat (first | refine blk_drewN ?_ _ | refine blk_drew ?_ | refine blk_alloc ?_ _)); refine blk_far ?_ NB211_215.out _; (with_reducible repeat (first | refine blk_drewN ?_ _ | refine blk_drew ?_ | refine blk_alloc ?_ _)); refine blk_far ?_ NB211_215.out _; (with_reducible repeat (first | refine blk_drewN ?_ _ | refine blk_drew ?_ | refine blk_alloc ?_ _)); exact BK211.out⟩, ⟨by (with_reducible repeat (first | refine blk_drewN ?_ _ | refine blk_drew ?_ | refine blk_alloc ?_ _)); refine blk_put (cs := #[.int .u8 a0_0, .slice A0_1 l0_1.length c0_1, .slice A0_2 l0_2.length c0_2, .bool a0_3, .slice A0_4 l0_4.length c0_4, .int .u8 a0_5, .int .i64 a0_6, .int .i64 a0_7, .bool a0_8, .int .u8 a0_9]) ?_ 3 _ rfl; (with_reducible repeat (first | refine blk_drewN ?_ _ | refine blk_drew ?_ | refine blk_alloc ?_ _)); refine blk_put (cs := #[.int .u8 a0_0, .slice A0_1 l0_1.length c0_1, .slice A0_2 l0_2.length c0_2, .bool a0_3, .slice A0_4 l0_4.length c0_4, .int .u8 a0_5, .int .i64 a0_6, .int .i64 a0_7, .bool a0_8, .int .u8 0]) ?_ 9 _ rfl; (with_reducible repeat (first | refine blk_drewN ?_ _ | refine blk_drew ?_ | refine blk_alloc ?_ _)); refine blk_put (cs := #[.int .u8 a0_0, .slice A0_1 l0_1.length c0_1, .slice A0_2 l0_2.length c0_2, .bool a0_3, .slice A0_4 l0_4.length c0_4, .int .u8 a0_5, .int .i64 a0_6, .int .i64 a0_7, .bool false, .int .u8 0]) ?_ 8 _ rfl; (with_reducible repeat (first | refine blk_drewN ?_ _ | refine blk_drew ?_ | refine blk_alloc ?_ _)); refine blk_put (cs := #[.int .u8 a0_0, .slice A0_1 l0_1.length c0_1, .slice A0_2 l0_2.length c0_2, .bool a0_3, .slice A0_4 l0_4.length c0_4, .int .u8 a0_5, .int .i64 a0_6, .int .i64 0, .bool false, .int .u8 0]) ?_ 7 _ rfl; (with_reducible repeat (first | refine blk_drewN ?_ _ | refine blk_drew ?_ | refine blk_alloc ?_ _)); refine blk_put (cs := #[.int .u8 a0_0, .slice A0_1 l0_1.length c0_1, .slice A0_2 l0_2.length c0_2, .bool a0_3, .slice A0_4 l0_4.length c0_4, .int .u8 a0_5, .int .i64 0, .int .i64 0, .bool false, .int .u8 0]) ?_ 6 _ rfl; (with_reducible repeat (first | refine blk_drewN ?_ _ | refine blk_drew ?_ | refine blk_alloc ?_ _)); refine blk_put (cs := #[.int .u8 a0_0, .slice A0_1 l0_1.length c0_1, .slice A0_2 l0_2.length c0_2, .bool a0_3, .slice A0_4 l0_4.length c0_4, .int .u8 0, .int .i64 0, .int .i64 0, .bool false, .int .u8 0]) ?_ 5 _ rfl; (with_reducible repeat (first | refine blk_drewN ?_ _ | refine blk_drew ?_ | refine blk_alloc ?_ _)); refine blk_put (cs := #[.int .u8 a0_0, .slice A0_1 l0_1.length c0_1, .slice A0_2 l0_2.length c0_2, .bool a0_3, .slice none 0 0, .int .u8 0, .int .i64 0, .int .i64 0, .bool false, .int .u8 0]) ?_ 4 _ rfl; (with_reducible repeat (first | refine blk_drewN ?_ _ | refine blk_drew ?_ | refine blk_alloc ?_ _)); refine blk_put (cs := #[.int .u8 a0_0, .slice A0_1 l0_1.length c0_1, .slice A0_2 l0_2.length c0_2, .bool false, .slice none 0 0, .int .u8 0, .int .i64 0, .int .i64 0, .bool false, .int .u8 0]) ?_ 3 _ rfl; (with_reducible repeat (first | refine blk_drewN ?_ _ | refine blk_drew ?_ | refine blk_alloc ?_ _)); refine blk_put (cs := #[.int .u8 a0_0, .slice A0_1 l0_1.length c0_1, .slice none 0 0, .bool false, .slice none 0 0, .int .u8 0, .int .i64 0, .int .i64 0, .bool false, .int .u8 0]) ?_ 2 _ rfl; (with_reducible repeat (first | refine blk_drewN ?_ _ | refine blk_drew ?_ | refine blk_alloc ?_ _)); refine blk_put (cs := #[.int .u8 a0_0, .slice none 0 0, .slice none 0 0, .bool false, .slice none 0 0, .int .u8 0, .int .i64 0, .int .i64 0, .bool false, .int .u8 0]) ?_ 1 _ rfl; (with_reducible repeat (first | refine blk_drewN ?_ _ | refine blk_drew ?_ | refine blk_alloc ?_ _)); refine blk_put (cs := #[.int .u8 0, .slice none 0 0, .slice none 0 0, .bool false, .slice none 0 0, .int .u8 0, .int .i64 0, .int .i64 0, .bool false, .int .u8 0]) ?_ 0 _ rfl; (with_reducible repeat (first | refine blk_drewN ?_ _ | refine blk_drew ?_ | refine blk_alloc ?_ _)); exact BK215.out⟩, ⟨by repeat (first | (with_reducible first | exact HB.out | apply below_alloc | apply pw_below_drewN | apply below_drew1 | refine below_set ?_ GE211.out | refine below_set ?_ GE215.out) | exact HB.out)⟩⟩
        case rest =>
          clear HC16
          try clear c1
          try clear c2
          try clear p2
          try clear c5
          try clear c13
          try clear c16
          try clear c18
          try clear c19
          try clear c22
          try clear c22b0
          try clear c22b1
          try clear c23
          try clear c25
          try clear hcz11_0
          try clear hcz11_1
          try clear hcz11_2
          try clear hcz11_3
          try clear hcz11_4
          try clear hcz11_5
          try clear hcz11_6
          try clear hcz11_7
          try clear hcz11_8
          try clear hcz11_9
          try clear hcz17_0
          try clear hcz17_1
          try clear hcz17_2
          try clear hcz17_3
          try clear hcz17_4
          try clear hcz17_5
          try clear hcz17_6
          try clear hcz17_7
          try clear hcz17_8
          try clear hcz17_9
          try clear hcz20_0
          try clear hcz20_1
          try clear hcz20_2
          try clear hcz20_3
          try clear hcz20_4
          try clear hcz20_5
          try clear hcz20_6
          try clear hcz20_7
          try clear hcz20_8
          try clear hcz20_9
          try clear hcz21_0
          try clear hcz21_1
          try clear hcz21_2
          try clear hcz21_3
          try clear hcz21_4
          try clear hcz21_5
          try clear hcz21_6
          try clear hcz21_7
          try clear hcz21_8
          try clear hcz21_9
          try clear hcz24_0
          try clear hcz24_1
          try clear hcz24_2
          try clear hcz24_3
          try clear hcz24_4
          try clear hcz24_5
          try clear hcz24_6
          try clear hcz24_7
          try clear hcz24_8
          try clear hcz24_9
          try clear hcz26_0
          try clear hcz26_1
          try clear hcz26_2
          try clear hcz26_3
          try clear hcz26_4
          try clear hcz26_5
          try clear hcz26_6
          try clear hcz26_7
          try clear hcz26_8
          try clear hcz26_9
          try clear hcz6_0
          try clear hcz6_1
          try clear hcz6_2
          try clear hcz6_3
          try clear hcz6_4
          try clear hcz6_5
          try clear hcz6_6
          try clear hcz6_7
          try clear hcz6_8
          try clear hcz6_9
          try clear hcz9_0
          try clear hcz9_1
          try clear hcz9_2
          try clear hcz9_3
          try clear hcz9_4
          try clear hcz9_5
          try clear hcz9_6
          try clear hcz9_7
          try clear hcz9_8
          try clear hcz9_9
          try clear hfz11_0
          try clear hfz11_1
          try clear hfz11_2
          try clear hfz11_3
          try clear hfz11_4
          try clear hfz11_5
          try clear hfz11_6
          try clear hfz11_7
          try clear hfz11_8
          try clear hfz11_9
          try clear hfz17_0
          try clear hfz17_1
          try clear hfz17_2
          try clear hfz17_3
          try clear hfz17_4
          try clear hfz17_5
          try clear hfz17_6
          try clear hfz17_7
          try clear hfz17_8
          try clear hfz17_9
          try clear hfz20_0
          try clear hfz20_1
          try clear hfz20_2
          try clear hfz20_3
          try clear hfz20_4
          try clear hfz20_5
          try clear hfz20_6
          try clear hfz20_7
          try clear hfz20_8
          try clear hfz20_9
          try clear hfz21_0
          try clear hfz21_1
          try clear hfz21_2
          try clear hfz21_3
          try clear hfz21_4
          try clear hfz21_5
          try clear hfz21_6
          try clear hfz21_7
          try clear hfz21_8
          try clear hfz21_9
          try clear hfz24_0
          try clear hfz24_1
          try clear hfz24_2
          try clear hfz24_3
          try clear hfz24_4
          try clear hfz24_5
          try clear hfz24_6
          try clear hfz24_7
          try clear hfz24_8
          try clear hfz24_9
          try clear hfz26_0
          try clear hfz26_1
          try clear hfz26_2
          try clear hfz26_3
          try clear hfz26_4
          try clear hfz26_5
          try clear hfz26_6
          try clear hfz26_7
          try clear hfz26_8
          try clear hfz26_9
          try clear hfz6_0
          try clear hfz6_1
          try clear hfz6_2
          try clear hfz6_3
          try clear hfz6_4
          try clear hfz6_5
          try clear hfz6_6
          try clear hfz6_7
          try clear hfz6_8
          try clear hfz6_9
          try clear hfz9_0
          try clear hfz9_1
          try clear hfz9_2
          try clear hfz9_3
          try clear hfz9_4
          try clear hfz9_5
          try clear hfz9_6
          try clear hfz9_7
          try clear hfz9_8
          try clear hfz9_9
          try clear p2
          obtain ⟨kq, x4_15, rfl, HA, HJ15, BK211, BK215, HB⟩ := hcut
          cases kq with
          | zero => exact absurd HA.out (by simp [tailwaterlaw08_ClausesJoin.j1])
          | succ kj15 =>
            have H := HA.out
            clear HA
            simp only [tailwaterlaw08_ClausesJoin.j1] at H
            have HC27 := Aside0.mk H
            clear H
            go_upto_region 6 with (fail)
            go_cut [33] (fun v33 wc => ∃ (kq : Nat) (x33_26 : Bool), v33 = .bool x33_26 ∧ Aside0 (tailwaterlaw08_ClausesJoin.j2 kq x4_15 x33_26 a0_0 l0_1 l0_2 (!a0_3) l0_4 a0_5 a0_6 a0_7 a0_8 a0_9 = some true) ∧ Aside0 (kq ≤ kj15) ∧ Aside0 (wc.heap[gb211]? = some (.cells #[.int .u8 a0_0, (.slice A0_1 l0_1.length c0_1), (.slice A0_2 l0_2.length c0_2), .bool a0_3, (.slice A0_4 l0_4.length c0_4), .int .u8 a0_5, .int .i64 a0_6, .int .i64 a0_7, .bool a0_8, .int .u8 a0_9] 27 (0, 0))) ∧ Aside0 (wc.heap[gb215]? = some (.cells #[.int .u8 a0_0, (.slice A0_1 l0_1.length c0_1), (.slice A0_2 l0_2.length c0_2), .bool (!a0_3), (.slice A0_4 l0_4.length c0_4), .int .u8 a0_5, .int .i64 a0_6, .int .i64 a0_7, .bool a0_8, .int .u8 a0_9] 27 (0, 0))) ∧ Aside0 (Below w.heap.size w wc))
            case first =>
              have H := HC27.out
              clear HC27
              by_cases c28 : a0_3 = true
              · subst c28
                have H1 : (tailwaterlaw08_ClausesJoin.j2 kj15 x4_15 (!x4_15) a0_0 l0_1 l0_2 (!true) l0_4 a0_5 a0_6 a0_7 a0_8 a0_9) = some true := by rw [if_pos rfl] at H; exact H
                clear H
                have H := H1
                clear H1
                have H' := Aside0.mk H
                clear H
                have hnb29 := NB211_215.out
                have hnc29 := NB215_211.out
                have hcz30_0 : wc.cell? ⟨gb211, 0, none⟩ = some (.int .u8 a0_0) := (blk_cell BK211.out 0).trans rfl
                have hcz30_1 : wc.cell? ⟨gb211, 1, none⟩ = some (.slice A0_1 l0_1.length c0_1) := (blk_cell BK211.out 1).trans rfl
                have hcz30_2 : wc.cell? ⟨gb211, 2, none⟩ = some (.slice A0_2 l0_2.length c0_2) := (blk_cell BK211.out 2).trans rfl
                have hcz30_3 : wc.cell? ⟨gb211, 3, none⟩ = some (.bool true) := (blk_cell BK211.out 3).trans rfl
                have hcz30_4 : wc.cell? ⟨gb211, 4, none⟩ = some (.slice A0_4 l0_4.length c0_4) := (blk_cell BK211.out 4).trans rfl
                have hcz30_5 : wc.cell? ⟨gb211, 5, none⟩ = some (.int .u8 a0_5) := (blk_cell BK211.out 5).trans rfl
                have hcz30_6 : wc.cell? ⟨gb211, 6, none⟩ = some (.int .i64 a0_6) := (blk_cell BK211.out 6).trans rfl
                have hcz30_7 : wc.cell? ⟨gb211, 7, none⟩ = some (.int .i64 a0_7) := (blk_cell BK211.out 7).trans rfl
                have hcz30_8 : wc.cell? ⟨gb211, 8, none⟩ = some (.bool a0_8) := (blk_cell BK211.out 8).trans rfl
                have hcz30_9 : wc.cell? ⟨gb211, 9, none⟩ = some (.int .u8 a0_9) := (blk_cell BK211.out 9).trans rfl
                have hfz30_0 := blk_frozen BK211.out 0
                have hfz30_1 := blk_frozen BK211.out 1
                have hfz30_2 := blk_frozen BK211.out 2
                have hfz30_3 := blk_frozen BK211.out 3
                have hfz30_4 := blk_frozen BK211.out 4
                have hfz30_5 := blk_frozen BK211.out 5
                have hfz30_6 := blk_frozen BK211.out 6
                have hfz30_7 := blk_frozen BK211.out 7
                have hfz30_8 := blk_frozen BK211.out 8
                have hfz30_9 := blk_frozen BK211.out 9
                go_wp2
                go_meet
                case rel => exact ⟨_, (!x4_15), (by first | rfl | (simp; done) | (simp [*]; done)), H', ⟨by have := HJ1.out; have := HJ15.out; first | omega | exact Nat.le_refl _⟩, ⟨by (with_reducible repeat (first | refine blk_drewN ?_ _ | refine blk_drew ?_ | refine blk_alloc ?_ _)); exact BK211.out⟩, ⟨by (with_reducible repeat (first | refine blk_drewN ?_ _ | refine blk_drew ?_ | refine blk_alloc ?_ _)); exact BK215.out⟩, ⟨by repeat (first | (with_reducible first | exact HB.out | apply below_alloc | apply pw_below_drewN | apply below_drew1 | refine below_set ?_ GE211.out | refine below_set ?_ GE215.out) | exact HB.out)⟩⟩
              · replace c28 := Bool.eq_false_iff.mpr c28
                subst c28
                have H1 : (tailwaterlaw08_ClausesJoin.j2 kj15 x4_15 false a0_0 l0_1 l0_2 (!false) l0_4 a0_5 a0_6 a0_7 a0_8 a0_9) = some true := by rw [if_neg (show ¬ (false = true) by decide)] at H; exact H
                clear H
                have H := H1
                clear H1
                have H' := Aside0.mk H
                clear H
                have hnb31 := NB211_215.out
                have hnc31 := NB215_211.out
                have hcz32_0 : wc.cell? ⟨gb211, 0, none⟩ = some (.int .u8 a0_0) := (blk_cell BK211.out 0).trans rfl
                have hcz32_1 : wc.cell? ⟨gb211, 1, none⟩ = some (.slice A0_1 l0_1.length c0_1) := (blk_cell BK211.out 1).trans rfl
                have hcz32_2 : wc.cell? ⟨gb211, 2, none⟩ = some (.slice A0_2 l0_2.length c0_2) := (blk_cell BK211.out 2).trans rfl
                have hcz32_3 : wc.cell? ⟨gb211, 3, none⟩ = some (.bool false) := (blk_cell BK211.out 3).trans rfl
                have hcz32_4 : wc.cell? ⟨gb211, 4, none⟩ = some (.slice A0_4 l0_4.length c0_4) := (blk_cell BK211.out 4).trans rfl
                have hcz32_5 : wc.cell? ⟨gb211, 5, none⟩ = some (.int .u8 a0_5) := (blk_cell BK211.out 5).trans rfl
                have hcz32_6 : wc.cell? ⟨gb211, 6, none⟩ = some (.int .i64 a0_6) := (blk_cell BK211.out 6).trans rfl
                have hcz32_7 : wc.cell? ⟨gb211, 7, none⟩ = some (.int .i64 a0_7) := (blk_cell BK211.out 7).trans rfl
                have hcz32_8 : wc.cell? ⟨gb211, 8, none⟩ = some (.bool a0_8) := (blk_cell BK211.out 8).trans rfl
                have hcz32_9 : wc.cell? ⟨gb211, 9, none⟩ = some (.int .u8 a0_9) := (blk_cell BK211.out 9).trans rfl
                have hfz32_0 := blk_frozen BK211.out 0
                have hfz32_1 := blk_frozen BK211.out 1
                have hfz32_2 := blk_frozen BK211.out 2
                have hfz32_3 := blk_frozen BK211.out 3
                have hfz32_4 := blk_frozen BK211.out 4
                have hfz32_5 := blk_frozen BK211.out 5
                have hfz32_6 := blk_frozen BK211.out 6
                have hfz32_7 := blk_frozen BK211.out 7
                have hfz32_8 := blk_frozen BK211.out 8
                have hfz32_9 := blk_frozen BK211.out 9
                go_wp2
                go_meet
                case rel => exact ⟨_, (false), (by first | rfl | (simp; done) | (simp [*]; done)), H', ⟨by have := HJ1.out; have := HJ15.out; first | omega | exact Nat.le_refl _⟩, ⟨by (with_reducible repeat (first | refine blk_drewN ?_ _ | refine blk_drew ?_ | refine blk_alloc ?_ _)); exact BK211.out⟩, ⟨by (with_reducible repeat (first | refine blk_drewN ?_ _ | refine blk_drew ?_ | refine blk_alloc ?_ _)); exact BK215.out⟩, ⟨by repeat (first | (with_reducible first | exact HB.out | apply below_alloc | apply pw_below_drewN | apply below_drew1 | refine below_set ?_ GE211.out | refine below_set ?_ GE215.out) | exact HB.out)⟩⟩
            case rest =>
              clear HC27
              try clear c1
              try clear c2
              try clear p2
              try clear c3
              try clear c5
              try clear c13
              try clear c16
              try clear c18
              try clear c19
              try clear c22
              try clear c22b0
              try clear c22b1
              try clear c23
              try clear c25
              try clear c28
              try clear c29
              try clear c31
              try clear hcz11_0
              try clear hcz11_1
              try clear hcz11_2
              try clear hcz11_3
              try clear hcz11_4
              try clear hcz11_5
              try clear hcz11_6
              try clear hcz11_7
              try clear hcz11_8
              try clear hcz11_9
              try clear hcz17_0
              try clear hcz17_1
              try clear hcz17_2
              try clear hcz17_3
              try clear hcz17_4
              try clear hcz17_5
              try clear hcz17_6
              try clear hcz17_7
              try clear hcz17_8
              try clear hcz17_9
              try clear hcz20_0
              try clear hcz20_1
              try clear hcz20_2
              try clear hcz20_3
              try clear hcz20_4
              try clear hcz20_5
              try clear hcz20_6
              try clear hcz20_7
              try clear hcz20_8
              try clear hcz20_9
              try clear hcz21_0
              try clear hcz21_1
              try clear hcz21_2
              try clear hcz21_3
              try clear hcz21_4
              try clear hcz21_5
              try clear hcz21_6
              try clear hcz21_7
              try clear hcz21_8
              try clear hcz21_9
              try clear hcz24_0
              try clear hcz24_1
              try clear hcz24_2
              try clear hcz24_3
              try clear hcz24_4
              try clear hcz24_5
              try clear hcz24_6
              try clear hcz24_7
              try clear hcz24_8
              try clear hcz24_9
              try clear hcz26_0
              try clear hcz26_1
              try clear hcz26_2
              try clear hcz26_3
              try clear hcz26_4
              try clear hcz26_5
              try clear hcz26_6
              try clear hcz26_7
              try clear hcz26_8
              try clear hcz26_9
              try clear hcz30_0
              try clear hcz30_1
              try clear hcz30_2
              try clear hcz30_3
              try clear hcz30_4
              try clear hcz30_5
              try clear hcz30_6
              try clear hcz30_7
              try clear hcz30_8
              try clear hcz30_9
              try clear hcz32_0
              try clear hcz32_1
              try clear hcz32_2
              try clear hcz32_3
              try clear hcz32_4
              try clear hcz32_5
              try clear hcz32_6
              try clear hcz32_7
              try clear hcz32_8
              try clear hcz32_9
              try clear hcz6_0
              try clear hcz6_1
              try clear hcz6_2
              try clear hcz6_3
              try clear hcz6_4
              try clear hcz6_5
              try clear hcz6_6
              try clear hcz6_7
              try clear hcz6_8
              try clear hcz6_9
              try clear hcz9_0
              try clear hcz9_1
              try clear hcz9_2
              try clear hcz9_3
              try clear hcz9_4
              try clear hcz9_5
              try clear hcz9_6
              try clear hcz9_7
              try clear hcz9_8
              try clear hcz9_9
              try clear hfz11_0
              try clear hfz11_1
              try clear hfz11_2
              try clear hfz11_3
              try clear hfz11_4
              try clear hfz11_5
              try clear hfz11_6
              try clear hfz11_7
              try clear hfz11_8
              try clear hfz11_9
              try clear hfz17_0
              try clear hfz17_1
              try clear hfz17_2
              try clear hfz17_3
              try clear hfz17_4
              try clear hfz17_5
              try clear hfz17_6
              try clear hfz17_7
              try clear hfz17_8
              try clear hfz17_9
              try clear hfz20_0
              try clear hfz20_1
              try clear hfz20_2
              try clear hfz20_3
              try clear hfz20_4
              try clear hfz20_5
              try clear hfz20_6
              try clear hfz20_7
              try clear hfz20_8
              try clear hfz20_9
              try clear hfz21_0
              try clear hfz21_1
              try clear hfz21_2
              try clear hfz21_3
              try clear hfz21_4
              try clear hfz21_5
              try clear hfz21_6
              try clear hfz21_7
              try clear hfz21_8
              try clear hfz21_9
              try clear hfz24_0
              try clear hfz24_1
              try clear hfz24_2
              try clear hfz24_3
              try clear hfz24_4
              try clear hfz24_5
              try clear hfz24_6
              try clear hfz24_7
              try clear hfz24_8
              try clear hfz24_9
              try clear hfz26_0
              try clear hfz26_1
              try clear hfz26_2
              try clear hfz26_3
              try clear hfz26_4
              try clear hfz26_5
              try clear hfz26_6
              try clear hfz26_7
              try clear hfz26_8
              try clear hfz26_9
              try clear hfz30_0
              try clear hfz30_1
              try clear hfz30_2
              try clear hfz30_3
              try clear hfz30_4
              try clear hfz30_5
              try clear hfz30_6
              try clear hfz30_7
              try clear hfz30_8
              try clear hfz30_9
              try clear hfz32_0
              try clear hfz32_1
              try clear hfz32_2
              try clear hfz32_3
              try clear hfz32_4
              try clear hfz32_5
              try clear hfz32_6
              try clear hfz32_7
              try clear hfz32_8
              try clear hfz32_9
              try clear hfz6_0
              try clear hfz6_1
              try clear hfz6_2
              try clear hfz6_3
              try clear hfz6_4
              try clear hfz6_5
              try clear hfz6_6
              try clear hfz6_7
              try clear hfz6_8
              try clear hfz6_9
              try clear hfz9_0
              try clear hfz9_1
              try clear hfz9_2
              try clear hfz9_3
              try clear hfz9_4
              try clear hfz9_5
              try clear hfz9_6
              try clear hfz9_7
              try clear hfz9_8
              try clear hfz9_9
              try clear p2
              obtain ⟨kq, x33_26, rfl, HA, HJ26, BK211, BK215, HB⟩ := hcut
              cases kq with
              | zero => exact absurd HA.out (by simp [tailwaterlaw08_ClausesJoin.j2])
              | succ kj26 =>
                have H := HA.out
                clear HA
                simp only [tailwaterlaw08_ClausesJoin.j2] at H
                by_cases c33 : x33_26 = true
                · subst c33
                  have H1 : (some false) = some true := by rw [if_pos rfl] at H; exact H
                  clear H
                  have H := H1
                  clear H1
                  exact absurd H (by simp)
                · replace c33 := Bool.eq_false_iff.mpr c33
                  subst c33
                  have H1 : ((clauses_Check.f kj26 a0_0 l0_1 l0_2 (!a0_3) l0_4 a0_5 a0_6 a0_7 a0_8 a0_9).bind fun t216 => (if ((t216 == 0) == x4_15) = true then (if x4_15 = true then ((tailwaterlaw08_alive.f kj26).bind fun t217 => (some t217)) else ((clauses_Check.f kj26 a0_0 l0_1 l0_2 (!a0_3) l0_4 a0_5 a0_6 a0_7 a0_8 a0_9).bind fun t218 => (if t218 = 8 then ((tailwaterlaw08_alive.f kj26).bind fun t219 => (some t219)) else (some false)))) else (some false))) = some true := by rw [if_neg (show ¬ (false = true) by decide)] at H; exact H
                  clear H
                  have H := H1
                  clear H1
                  replace H := Option.bind_eq_some_iff.mp H
                  obtain ⟨t216, A340, H⟩ := H
                  replace H : (if ((t216 == 0) == x4_15) = true then (if x4_15 = true then ((tailwaterlaw08_alive.f kj26).bind fun t217 => (some t217)) else ((clauses_Check.f kj26 a0_0 l0_1 l0_2 (!a0_3) l0_4 a0_5 a0_6 a0_7 a0_8 a0_9).bind fun t218 => (if t218 = 8 then ((tailwaterlaw08_alive.f kj26).bind fun t219 => (some t219)) else (some false)))) else (some false)) = some true := H
                  have A34 := Aside0.mk A340
                  clear A340
                  by_cases c35 : ((t216 == 0) == x4_15) = true
                  · rw [if_pos c35] at H
                    have c35b0 : ((t216 == 0) == x4_15) = true := c35
                    (try (have c35b1 : decide ((t216 == 0) = x4_15) = true := by simpa using c35))
                    (try (have c35b2 : ((t216 == 0) == x4_15) = true := by simpa using c35))
                    clear c35
                    by_cases c36 : x4_15 = true
                    · subst c36
                      have H1 : ((tailwaterlaw08_alive.f kj26).bind fun t217 => (some t217)) = some true := by rw [if_pos rfl] at H; exact H
                      clear H
                      have H := H1
                      clear H1
                      replace H := Option.bind_eq_some_iff.mp H
                      obtain ⟨t217, A370, H⟩ := H
                      replace H : (some t217) = some true := H
                      have A37 := Aside0.mk A370
                      clear A370
                      have hv_ := Option.some.inj H
                      clear H
                      have hnb38 := NB215_211.out
                      have hnc38 := NB211_215.out
                      have hcz39_0 : wc.cell? ⟨gb215, 0, none⟩ = some (.int .u8 a0_0) := (blk_cell BK215.out 0).trans rfl
                      have hcz39_1 : wc.cell? ⟨gb215, 1, none⟩ = some (.slice A0_1 l0_1.length c0_1) := (blk_cell BK215.out 1).trans rfl
                      have hcz39_2 : wc.cell? ⟨gb215, 2, none⟩ = some (.slice A0_2 l0_2.length c0_2) := (blk_cell BK215.out 2).trans rfl
                      have hcz39_3 : wc.cell? ⟨gb215, 3, none⟩ = some (.bool (!a0_3)) := (blk_cell BK215.out 3).trans rfl
                      have hcz39_4 : wc.cell? ⟨gb215, 4, none⟩ = some (.slice A0_4 l0_4.length c0_4) := (blk_cell BK215.out 4).trans rfl
                      have hcz39_5 : wc.cell? ⟨gb215, 5, none⟩ = some (.int .u8 a0_5) := (blk_cell BK215.out 5).trans rfl
                      have hcz39_6 : wc.cell? ⟨gb215, 6, none⟩ = some (.int .i64 a0_6) := (blk_cell BK215.out 6).trans rfl
                      have hcz39_7 : wc.cell? ⟨gb215, 7, none⟩ = some (.int .i64 a0_7) := (blk_cell BK215.out 7).trans rfl
                      have hcz39_8 : wc.cell? ⟨gb215, 8, none⟩ = some (.bool a0_8) := (blk_cell BK215.out 8).trans rfl
                      have hcz39_9 : wc.cell? ⟨gb215, 9, none⟩ = some (.int .u8 a0_9) := (blk_cell BK215.out 9).trans rfl
                      have hfz39_0 := blk_frozen BK215.out 0
                      have hfz39_1 := blk_frozen BK215.out 1
                      have hfz39_2 := blk_frozen BK215.out 2
                      have hfz39_3 := blk_frozen BK215.out 3
                      have hfz39_4 := blk_frozen BK215.out 4
                      have hfz39_5 := blk_frozen BK215.out 5
                      have hfz39_6 := blk_frozen BK215.out 6
                      have hfz39_7 := blk_frozen BK215.out 7
                      have hfz39_8 := blk_frozen BK215.out 8
                      have hfz39_9 := blk_frozen BK215.out 9
                      go_wp2_with (first | ((with_reducible refine gate_callee (f := 26) rfl ?_); refine goesL_ (some 35) rfl rfl Try.func26 (by kernel_rfl) rfl #[.agg #[.int .u8 a0_0, .slice A0_1 l0_1.length c0_1, .slice A0_2 l0_2.length c0_2, .bool (!a0_3), .slice A0_4 l0_4.length c0_4, .int .u8 a0_5, .int .i64 a0_6, .int .i64 a0_7, .bool a0_8, .int .u8 a0_9]] rfl (by (try simp only [List.map_toArray, List.map_cons, List.map_nil]); first | done | rfl | (simp only [List.length_drop, List.length_take]; rfl)) ?_; (with_reducible refine (clauses_Check.calls kj26 a0_0 _ _ l0_1 _ _ l0_2 (!a0_3) _ _ l0_4 a0_5 a0_6 a0_7 a0_8 a0_9 t216 _ ?side1 ?side2 ?side3 ?side4 ?side5 ?side6 A34.out).mono ?_); (case side1 => repeat (first | exact (Kd.C_below HR0_1.out HB.out) | (with_reducible refine Kd.C_alloc ?_ _) | (with_reducible refine Kd.C_drewN ?_ _) | (with_reducible refine Kd.C_drew ?_))); (case side2 => exact HC0_1.out); (case side3 => repeat (first | exact (Kd.C_below HR0_2.out HB.out) | (with_reducible refine Kd.C_alloc ?_ _) | (with_reducible refine Kd.C_drewN ?_ _) | (with_reducible refine Kd.C_drew ?_))); (case side4 => exact HC0_2.out); (case side5 => repeat (first | exact (Kd.C_below HR0_4.out HB.out) | (with_reducible refine Kd.C_alloc ?_ _) | (with_reducible refine Kd.C_drewN ?_ _) | (with_reducible refine Kd.C_drew ?_))); (case side6 => exact HC0_4.out); rintro e w40 ⟨rfl, hb⟩; refine ⟨_, rfl, ?_⟩; have n0_ := Aside0.mk (blk_below (g := gb211) (o := .cells #[.int .u8 a0_0, .slice A0_1 l0_1.length c0_1, .slice A0_2 l0_2.length c0_2, .bool a0_3, .slice A0_4 l0_4.length c0_4, .int .u8 a0_5, .int .i64 a0_6, .int .i64 a0_7, .bool a0_8, .int .u8 a0_9] 27 (0, 0)) (by (with_reducible repeat (first | refine blk_drewN ?_ _ | refine blk_drew ?_ | refine blk_alloc ?_ _)); exact BK211.out) hb); have n1_ := Aside0.mk (blk_below (g := gb215) (o := .cells #[.int .u8 a0_0, .slice A0_1 l0_1.length c0_1, .slice A0_2 l0_2.length c0_2, .bool (!a0_3), .slice A0_4 l0_4.length c0_4, .int .u8 a0_5, .int .i64 a0_6, .int .i64 a0_7, .bool a0_8, .int .u8 a0_9] 27 (0, 0)) (by (with_reducible repeat (first | refine blk_drewN ?_ _ | refine blk_drew ?_ | refine blk_alloc ?_ _)); exact BK215.out) hb); have n2_ := Aside0.mk (below_step (by repeat (first | (with_reducible first | exact HB.out | apply below_alloc | apply pw_below_drewN | apply below_drew1 | refine below_set ?_ GE211.out | refine below_set ?_ GE215.out) | exact HB.out)) hb); clear BK211; clear BK215; clear HB; have BK211 := n0_; have BK215 := n1_; have HB := n2_; clear n0_ n1_ n2_; (try clear hb); (try clear hb2); (try clear hk); (try clear hi)) | (go_at_call 18; (with_reducible refine (tailwaterlaw08_alive.calls kj26  t217 _ A37.out).mono ?_); rintro e w41 ⟨rfl, hb⟩; have n0_ := Aside0.mk (blk_below (g := gb211) (o := .cells #[.int .u8 a0_0, .slice A0_1 l0_1.length c0_1, .slice A0_2 l0_2.length c0_2, .bool a0_3, .slice A0_4 l0_4.length c0_4, .int .u8 a0_5, .int .i64 a0_6, .int .i64 a0_7, .bool a0_8, .int .u8 a0_9] 27 (0, 0)) (by (with_reducible repeat (first | refine blk_drewN ?_ _ | refine blk_drew ?_ | refine blk_alloc ?_ _)); exact BK211.out) hb); have n1_ := Aside0.mk (blk_below (g := gb215) (o := .cells #[.int .u8 a0_0, .slice A0_1 l0_1.length c0_1, .slice A0_2 l0_2.length c0_2, .bool (!a0_3), .slice A0_4 l0_4.length c0_4, .int .u8 a0_5, .int .i64 a0_6, .int .i64 a0_7, .bool a0_8, .int .u8 a0_9] 27 (0, 0)) (by (with_reducible repeat (first | refine blk_drewN ?_ _ | refine blk_drew ?_ | refine blk_alloc ?_ _)); exact BK215.out) hb); have n2_ := Aside0.mk (below_step (by repeat (first | (with_reducible first | exact HB.out | apply below_alloc | apply pw_below_drewN | apply below_drew1 | refine below_set ?_ GE211.out | refine below_set ?_ GE215.out) | exact HB.out)) hb); clear BK211; clear BK215; clear HB; have BK211 := n0_; have BK215 := n1_; have HB := n2_; clear n0_ n1_ n2_; (try clear hb); (try clear hb2); (try clear hk); (try clear hi)))
                      go_ret
                      exact ⟨by first | rfl | (simp [errW_none, errW_some] <;> rfl) | (simp [*, errW_none, errW_some] <;> rfl), by repeat (first | (with_reducible first | exact HB.out | apply below_alloc | apply pw_below_drewN | apply below_drew1 | refine below_set ?_ GE211.out | refine below_set ?_ GE215.out) | exact HB.out)⟩
                    · replace c36 := Bool.eq_false_iff.mpr c36
                      subst c36
                      have H1 : ((clauses_Check.f kj26 a0_0 l0_1 l0_2 (!a0_3) l0_4 a0_5 a0_6 a0_7 a0_8 a0_9).bind fun t218 => (if t218 = 8 then ((tailwaterlaw08_alive.f kj26).bind fun t219 => (some t219)) else (some false))) = some true := by rw [if_neg (show ¬ (false = true) by decide)] at H; exact H
                      clear H
                      have H := H1
                      clear H1
                      replace H := Option.bind_eq_some_iff.mp H
                      obtain ⟨t218, A420, H⟩ := H
                      replace H : (if t218 = 8 then ((tailwaterlaw08_alive.f kj26).bind fun t219 => (some t219)) else (some false)) = some true := H
                      have A42 := Aside0.mk A420
                      clear A420
                      by_cases c43 : t218 = 8
                      · rw [if_pos c43] at H
                        have c43b0 : (t218 == 8) = true := beq_iff_eq.mpr c43
                        have c43b1 : (t218 != 8) = false := bne_eq_false_iff_eq.mpr c43
                        clear c43
                        replace H := Option.bind_eq_some_iff.mp H
                        obtain ⟨t219, A440, H⟩ := H
                        replace H : (some t219) = some true := H
                        have A44 := Aside0.mk A440
                        clear A440
                        have hv_ := Option.some.inj H
                        clear H
                        have hnb45 := NB215_211.out
                        have hnc45 := NB211_215.out
                        have hcz46_0 : wc.cell? ⟨gb215, 0, none⟩ = some (.int .u8 a0_0) := (blk_cell BK215.out 0).trans rfl
                        have hcz46_1 : wc.cell? ⟨gb215, 1, none⟩ = some (.slice A0_1 l0_1.length c0_1) := (blk_cell BK215.out 1).trans rfl
                        have hcz46_2 : wc.cell? ⟨gb215, 2, none⟩ = some (.slice A0_2 l0_2.length c0_2) := (blk_cell BK215.out 2).trans rfl
                        have hcz46_3 : wc.cell? ⟨gb215, 3, none⟩ = some (.bool (!a0_3)) := (blk_cell BK215.out 3).trans rfl
                        have hcz46_4 : wc.cell? ⟨gb215, 4, none⟩ = some (.slice A0_4 l0_4.length c0_4) := (blk_cell BK215.out 4).trans rfl
                        have hcz46_5 : wc.cell? ⟨gb215, 5, none⟩ = some (.int .u8 a0_5) := (blk_cell BK215.out 5).trans rfl
                        have hcz46_6 : wc.cell? ⟨gb215, 6, none⟩ = some (.int .i64 a0_6) := (blk_cell BK215.out 6).trans rfl
                        have hcz46_7 : wc.cell? ⟨gb215, 7, none⟩ = some (.int .i64 a0_7) := (blk_cell BK215.out 7).trans rfl
                        have hcz46_8 : wc.cell? ⟨gb215, 8, none⟩ = some (.bool a0_8) := (blk_cell BK215.out 8).trans rfl
                        have hcz46_9 : wc.cell? ⟨gb215, 9, none⟩ = some (.int .u8 a0_9) := (blk_cell BK215.out 9).trans rfl
                        have hfz46_0 := blk_frozen BK215.out 0
                        have hfz46_1 := blk_frozen BK215.out 1
                        have hfz46_2 := blk_frozen BK215.out 2
                        have hfz46_3 := blk_frozen BK215.out 3
                        have hfz46_4 := blk_frozen BK215.out 4
                        have hfz46_5 := blk_frozen BK215.out 5
                        have hfz46_6 := blk_frozen BK215.out 6
                        have hfz46_7 := blk_frozen BK215.out 7
                        have hfz46_8 := blk_frozen BK215.out 8
                        have hfz46_9 := blk_frozen BK215.out 9
                        go_wp2_with (first | ((with_reducible refine gate_callee (f := 26) rfl ?_); refine goesL_ (some 35) rfl rfl Try.func26 (by kernel_rfl) rfl #[.agg #[.int .u8 a0_0, .slice A0_1 l0_1.length c0_1, .slice A0_2 l0_2.length c0_2, .bool (!a0_3), .slice A0_4 l0_4.length c0_4, .int .u8 a0_5, .int .i64 a0_6, .int .i64 a0_7, .bool a0_8, .int .u8 a0_9]] rfl (by (try simp only [List.map_toArray, List.map_cons, List.map_nil]); first | done | rfl | (simp only [List.length_drop, List.length_take]; rfl)) ?_; (with_reducible refine (clauses_Check.calls kj26 a0_0 _ _ l0_1 _ _ l0_2 (!a0_3) _ _ l0_4 a0_5 a0_6 a0_7 a0_8 a0_9 t216 _ ?side1 ?side2 ?side3 ?side4 ?side5 ?side6 A34.out).mono ?_); (case side1 => repeat (first | exact (Kd.C_below HR0_1.out HB.out) | (with_reducible refine Kd.C_alloc ?_ _) | (with_reducible refine Kd.C_drewN ?_ _) | (with_reducible refine Kd.C_drew ?_))); (case side2 => exact HC0_1.out); (case side3 => repeat (first | exact (Kd.C_below HR0_2.out HB.out) | (with_reducible refine Kd.C_alloc ?_ _) | (with_reducible refine Kd.C_drewN ?_ _) | (with_reducible refine Kd.C_drew ?_))); (case side4 => exact HC0_2.out); (case side5 => repeat (first | exact (Kd.C_below HR0_4.out HB.out) | (with_reducible refine Kd.C_alloc ?_ _) | (with_reducible refine Kd.C_drewN ?_ _) | (with_reducible refine Kd.C_drew ?_))); (case side6 => exact HC0_4.out); rintro e w47 ⟨rfl, hb⟩; refine ⟨_, rfl, ?_⟩; have n0_ := Aside0.mk (blk_below (g := gb211) (o := .cells #[.int .u8 a0_0, .slice A0_1 l0_1.length c0_1, .slice A0_2 l0_2.length c0_2, .bool a0_3, .slice A0_4 l0_4.length c0_4, .int .u8 a0_5, .int .i64 a0_6, .int .i64 a0_7, .bool a0_8, .int .u8 a0_9] 27 (0, 0)) (by (with_reducible repeat (first | refine blk_drewN ?_ _ | refine blk_drew ?_ | refine blk_alloc ?_ _)); exact BK211.out) hb); have n1_ := Aside0.mk (blk_below (g := gb215) (o := .cells #[.int .u8 a0_0, .slice A0_1 l0_1.length c0_1, .slice A0_2 l0_2.length c0_2, .bool (!a0_3), .slice A0_4 l0_4.length c0_4, .int .u8 a0_5, .int .i64 a0_6, .int .i64 a0_7, .bool a0_8, .int .u8 a0_9] 27 (0, 0)) (by (with_reducible repeat (first | refine blk_drewN ?_ _ | refine blk_drew ?_ | refine blk_alloc ?_ _)); exact BK215.out) hb); have n2_ := Aside0.mk (below_step (by repeat (first | (with_reducible first | exact HB.out | apply below_alloc | apply pw_below_drewN | apply below_drew1 | refine below_set ?_ GE211.out | refine below_set ?_ GE215.out) | exact HB.out)) hb); clear BK211; clear BK215; clear HB; have BK211 := n0_; have BK215 := n1_; have HB := n2_; clear n0_ n1_ n2_; (try clear hb); (try clear hb2); (try clear hk); (try clear hi); have hcz48_0 : w47.cell? ⟨gb215, 0, none⟩ = some (.int .u8 a0_0) := (blk_cell BK215.out 0).trans rfl; have hcz48_1 : w47.cell? ⟨gb215, 1, none⟩ = some (.slice A0_1 l0_1.length c0_1) := (blk_cell BK215.out 1).trans rfl; have hcz48_2 : w47.cell? ⟨gb215, 2, none⟩ = some (.slice A0_2 l0_2.length c0_2) := (blk_cell BK215.out 2).trans rfl; have hcz48_3 : w47.cell? ⟨gb215, 3, none⟩ = some (.bool (!a0_3)) := (blk_cell BK215.out 3).trans rfl; have hcz48_4 : w47.cell? ⟨gb215, 4, none⟩ = some (.slice A0_4 l0_4.length c0_4) := (blk_cell BK215.out 4).trans rfl; have hcz48_5 : w47.cell? ⟨gb215, 5, none⟩ = some (.int .u8 a0_5) := (blk_cell BK215.out 5).trans rfl; have hcz48_6 : w47.cell? ⟨gb215, 6, none⟩ = some (.int .i64 a0_6) := (blk_cell BK215.out 6).trans rfl; have hcz48_7 : w47.cell? ⟨gb215, 7, none⟩ = some (.int .i64 a0_7) := (blk_cell BK215.out 7).trans rfl; have hcz48_8 : w47.cell? ⟨gb215, 8, none⟩ = some (.bool a0_8) := (blk_cell BK215.out 8).trans rfl; have hcz48_9 : w47.cell? ⟨gb215, 9, none⟩ = some (.int .u8 a0_9) := (blk_cell BK215.out 9).trans rfl; have hfz48_0 := blk_frozen BK215.out 0; have hfz48_1 := blk_frozen BK215.out 1; have hfz48_2 := blk_frozen BK215.out 2; have hfz48_3 := blk_frozen BK215.out 3; have hfz48_4 := blk_frozen BK215.out 4; have hfz48_5 := blk_frozen BK215.out 5; have hfz48_6 := blk_frozen BK215.out 6; have hfz48_7 := blk_frozen BK215.out 7; have hfz48_8 := blk_frozen BK215.out 8; have hfz48_9 := blk_frozen BK215.out 9) | (go_at_call 26; (with_reducible refine (clauses_Check.calls kj26 a0_0 _ _ l0_1 _ _ l0_2 (!a0_3) _ _ l0_4 a0_5 a0_6 a0_7 a0_8 a0_9 t218 _ ?side1 ?side2 ?side3 ?side4 ?side5 ?side6 A42.out).mono ?_); (case side1 => repeat (first | exact (Kd.C_below HR0_1.out HB.out) | (with_reducible refine Kd.C_alloc ?_ _) | (with_reducible refine Kd.C_drewN ?_ _) | (with_reducible refine Kd.C_drew ?_))); (case side2 => exact HC0_1.out); (case side3 => repeat (first | exact (Kd.C_below HR0_2.out HB.out) | (with_reducible refine Kd.C_alloc ?_ _) | (with_reducible refine Kd.C_drewN ?_ _) | (with_reducible refine Kd.C_drew ?_))); (case side4 => exact HC0_2.out); (case side5 => repeat (first | exact (Kd.C_below HR0_4.out HB.out) | (with_reducible refine Kd.C_alloc ?_ _) | (with_reducible refine Kd.C_drewN ?_ _) | (with_reducible refine Kd.C_drew ?_))); (case side6 => exact HC0_4.out); rintro e w49 ⟨rfl, hb⟩; have n0_ := Aside0.mk (blk_below (g := gb211) (o := .cells #[.int .u8 a0_0, .slice A0_1 l0_1.length c0_1, .slice A0_2 l0_2.length c0_2, .bool a0_3, .slice A0_4 l0_4.length c0_4, .int .u8 a0_5, .int .i64 a0_6, .int .i64 a0_7, .bool a0_8, .int .u8 a0_9] 27 (0, 0)) (by (with_reducible repeat (first | refine blk_drewN ?_ _ | refine blk_drew ?_ | refine blk_alloc ?_ _)); exact BK211.out) hb); have n1_ := Aside0.mk (blk_below (g := gb215) (o := .cells #[.int .u8 a0_0, .slice A0_1 l0_1.length c0_1, .slice A0_2 l0_2.length c0_2, .bool (!a0_3), .slice A0_4 l0_4.length c0_4, .int .u8 a0_5, .int .i64 a0_6, .int .i64 a0_7, .bool a0_8, .int .u8 a0_9] 27 (0, 0)) (by (with_reducible repeat (first | refine blk_drewN ?_ _ | refine blk_drew ?_ | refine blk_alloc ?_ _)); exact BK215.out) hb); have n2_ := Aside0.mk (below_step (by repeat (first | (with_reducible first | exact HB.out | apply below_alloc | apply pw_below_drewN | apply below_drew1 | refine below_set ?_ GE211.out | refine below_set ?_ GE215.out) | exact HB.out)) hb); clear BK211; clear BK215; clear HB; have BK211 := n0_; have BK215 := n1_; have HB := n2_; clear n0_ n1_ n2_; (try clear hb); (try clear hb2); (try clear hk); (try clear hi)) | (go_at_call 18; (with_reducible refine (tailwaterlaw08_alive.calls kj26  t219 _ A44.out).mono ?_); rintro e w50 ⟨rfl, hb⟩; have n0_ := Aside0.mk (blk_below (g := gb211) (o := .cells #[.int .u8 a0_0, .slice A0_1 l0_1.length c0_1, .slice A0_2 l0_2.length c0_2, .bool a0_3, .slice A0_4 l0_4.length c0_4, .int .u8 a0_5, .int .i64 a0_6, .int .i64 a0_7, .bool a0_8, .int .u8 a0_9] 27 (0, 0)) (by (with_reducible repeat (first | refine blk_drewN ?_ _ | refine blk_drew ?_ | refine blk_alloc ?_ _)); exact BK211.out) hb); have n1_ := Aside0.mk (blk_below (g := gb215) (o := .cells #[.int .u8 a0_0, .slice A0_1 l0_1.length c0_1, .slice A0_2 l0_2.length c0_2, .bool (!a0_3), .slice A0_4 l0_4.length c0_4, .int .u8 a0_5, .int .i64 a0_6, .int .i64 a0_7, .bool a0_8, .int .u8 a0_9] 27 (0, 0)) (by (with_reducible repeat (first | refine blk_drewN ?_ _ | refine blk_drew ?_ | refine blk_alloc ?_ _)); exact BK215.out) hb); have n2_ := Aside0.mk (below_step (by repeat (first | (with_reducible first | exact HB.out | apply below_alloc | apply pw_below_drewN | apply below_drew1 | refine below_set ?_ GE211.out | refine below_set ?_ GE215.out) | exact HB.out)) hb); clear BK211; clear BK215; clear HB; have BK211 := n0_; have BK215 := n1_; have HB := n2_; clear n0_ n1_ n2_; (try clear hb); (try clear hb2); (try clear hk); (try clear hi)))
                        go_ret
                        exact ⟨by first | rfl | (simp [errW_none, errW_some] <;> rfl) | (simp [*, errW_none, errW_some] <;> rfl), by repeat (first | (with_reducible first | exact HB.out | apply below_alloc | apply pw_below_drewN | apply below_drew1 | refine below_set ?_ GE211.out | refine below_set ?_ GE215.out) | exact HB.out)⟩
                      · rw [if_neg c43] at H
                        have c43b0 : (t218 == 8) = false := beq_eq_false_iff_ne.mpr c43
                        have c43b1 : (t218 != 8) = true := bne_iff_ne.mpr c43
                        exact absurd H (by simp)
                  · rw [if_neg c35] at H
                    have c35b0 : ((t216 == 0) == x4_15) = false := by simpa using c35
                    (try (have c35b1 : decide ((t216 == 0) = x4_15) = false := by simpa using c35))
                    (try (have c35b2 : ((t216 == 0) == x4_15) = false := by simpa using c35))
                    (try (have c35b3 : ¬ ((t216 == 0) = x4_15) := by simpa using c35))
                    clear c35
                    exact absurd H (by simp)

end Go.Proofs.Ytpkamfjkmbakhaa.D
