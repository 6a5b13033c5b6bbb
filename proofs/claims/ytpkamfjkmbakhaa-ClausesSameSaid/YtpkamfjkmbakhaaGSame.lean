/- The walk of ClausesSame: being the same, moved nodes, other parts. Nothing is assumed. -/
import Derived.Test.YtpkamfjkmbakhaaGCallS
import Derived.Test.YtpkamfjkmbakhaaGPure10
namespace Go.Proofs.Ytpkamfjkmbakhaa.G
open Go.RowKit Go.Proofs.YtpkamfjkmbakhaaW.PrintWords Go.Proofs.YtpkamfjkmbakhaaW.PrintLast Go.Proofs.YtpkamfjkmbakhaaW.PrintMore
attribute [local go_sem] max2_int min2_int max_two min_two max_three min_three max_four min_four
set_option linter.unusedVariables false
set_option linter.unusedSimpArgs false

/-- Beside the blocks l (all of type 27) lie three rows of their own. -/
structure Moved (w : World) (B1 : Option Addr) (d1 : Nat) (x1 : List S36) (B2 : Option Addr) (d2 : Nat) (x2 : List Int) (B4 : Option Addr) (d4 : Nat) (x4 : List S36) (l : List (Nat × Obj)) (W : World) : Prop where
  L : Lie w l W
  r1 : Kd.R k36 36 W w.heap.size (fun k_ => some k_ ≠ (.slice B4 x4.length d4 : Value).ownBlock) (.slice B1 x1.length d1) x1
  r2 : Kd.R (Kd.int .i64) 3 W w.heap.size (fun _ => True) (.slice B2 x2.length d2) x2
  r4 : Kd.R k36 36 W w.heap.size (fun k_ => some k_ ≠ (.slice B1 x1.length d1 : Value).ownBlock) (.slice B4 x4.length d4) x4
  ty : ∀ p, p ∈ l → ∃ cs, p.2 = .cells cs 27 (0, 0)

namespace Moved
variable {w W W' : World} {B1 : Option Addr} {d1 : Nat} {x1 : List S36} {B2 : Option Addr} {d2 : Nat} {x2 : List Int} {B4 : Option Addr} {d4 : Nat} {x4 : List S36} {l : List (Nat × Obj)}
theorem ok (m : Moved w B1 d1 x1 B2 d2 x2 B4 d4 x4 l W) : QOk W B1 d1 x1 B2 d2 x2 B4 d4 x4 :=
  ⟨(Kd.R_reads' m.r1).2.2, (Kd.R_reads' m.r1).2.1, (Kd.R_reads' m.r2).2.2, (Kd.R_reads' m.r2).2.1, (Kd.R_reads' m.r4).2.2, (Kd.R_reads' m.r4).2.1⟩
theorem swap (m : Moved w B1 d1 x1 B2 d2 x2 B4 d4 x4 l W) : Moved w B4 d4 x4 B2 d2 x2 B1 d1 x1 l W := ⟨m.L, m.r4, m.r2, m.r1, m.ty⟩
/-- One node of the last row is moved: what its cell is, and what lies there then. -/
theorem put4 (m : Moved w B1 d1 x1 B2 d2 x2 B4 d4 x4 l W) {n : Int} (h0 : 0 ≤ n) (h1 : n < (x4.length : Int)) (s : Int) :
    ∃ g, B4 = some ⟨g, 0, none⟩ ∧ (∃ v, W.cell? ⟨g, n.toNat * 5 + 4, none⟩ = some (.int .i64 v)) ∧ W.frozen? ⟨g, n.toNat * 5 + 4, none⟩ = false ∧
      Moved w B1 d1 x1 B2 d2 x2 B4 d4 (x4.set n.toNat ⟨(rd_T36 x4 n).f0, (rd_T36 x4 n).f1, (rd_T36 x4 n).f2, (rd_T36 x4 n).f3, s⟩) l (W.setCell ⟨g, n.toNat * 5 + 4, none⟩ (.int .i64 s)) := by
  obtain ⟨g, cap, e, hb, hl, cells, hc⟩ := Kd.R_form m.r4 (by omega)
  injection e with e1 e2 e3
  subst e1
  obtain ⟨ce, hcl, hM, hcc, hfr⟩ := Kd.R_elem m.r4 z36 n h0 h1
  obtain rfl := k36_openM hM
  have HP := Kd.R_seg m.r4 n h0 h1 (seg := [.int .i64 s]) (j := 4) hcl hcc (show 5 ≤ 5 from by decide) (x' := (⟨(rd_T36 x4 n).f0, (rd_T36 x4 n).f1, (rd_T36 x4 n).f2, (rd_T36 x4 n).f3, s⟩ : S36)) (k36_mkM _ _ _ (⟨(rd_T36 x4 n).f0, (rd_T36 x4 n).f1, (rd_T36 x4 n).f2, (rd_T36 x4 n).f3, s⟩ : S36)) (fun _ hk => hk)
  have hg : W.grownBy (W.setCell ⟨g, n.toNat * 5 + 4, none⟩ (.int .i64 s)) (some g) := HP.2
  refine ⟨g, rfl, ⟨_, hcc 4 _ rfl⟩, hfr 4, ⟨⟨pw_below_grown m.L.bel (some g) m.L.bel.size hg (fun k hk => by injection hk with hk; omega), fun p hp => ⟨?_, (m.L.at_ p hp).2⟩, m.L.nod⟩, ?_, ?_, ?_, m.ty⟩⟩
  · refine blk_grown (m.L.at_ p hp).1 hg ?_
    intro hk
    injection hk with hk
    obtain ⟨cs, hcs⟩ := m.ty p hp
    have h2 := (m.L.at_ p hp).1
    rw [hk, hc, hcs] at h2
    injection h2 with h2
    injection h2 with _ h2
    exact absurd h2 (by decide)
  · rw [List.length_set]
    have hr : Kd.R k36 36 W w.heap.size (fun k => True ∧ some k ≠ (.slice (some ⟨g, 0, none⟩) x4.length d4 : Value).ownBlock) (.slice B1 x1.length d1) x1 := Kd.R_mono m.r1 (fun _ hk => ⟨trivial, hk⟩)
    exact Kd.R_mono (Kd.R_after (v1 := .slice (some ⟨g, 0, none⟩) x4.length d4) hr hg (.inl rfl)) (fun _ hk => hk.2)
  · exact Kd.R_over' m.r2 (Kd.R_typed m.r4) (by decide) hg
  · rw [List.length_set]
    exact HP.1
end Moved
namespace SameLaw
abbrev Z27 : Obj := .cells #[.int .u8 0, .slice none 0 0, .slice none 0 0, .bool false, .slice none 0 0, .int .u8 0, .int .i64 0, .int .i64 0, .bool false, .int .u8 0] 27 (0, 0)
set_option maxHeartbeats 8000000 in
set_option maxRecDepth 100000 in
theorem walk (a : Int) (A1 : Option Addr) (c1 : Nat) (l1 : List S36) (A2 : Option Addr) (c2 : Nat) (l2 : List Int) (j : Bool) (A4 : Option Addr) (c4 : Nat) (l4 : List S36) (p0 p1 p2 : Int) (y : Bool) (t : Int)
    (b : Int) (C1 : Option Addr) (e1 : Nat) (m1 : List S36) (C2 : Option Addr) (e2 : Nat) (m2 : List Int) (i : Bool) (C4 : Option Addr) (e4 : Nat) (m4 : List S36) (r0 r1 r2 : Int) (z : Bool) (u : Int) (s : Int) (w : World)
    (h1 : Kd.C k36 w A1 l1.length l1) (f1 : l1.length ≤ c1) (h2 : Kd.C (Kd.int .i64) w A2 l2.length l2) (f2 : l2.length ≤ c2) (h4 : Kd.C k36 w A4 l4.length l4) (f4 : l4.length ≤ c4)
    (k1 : Kd.C k36 w C1 m1.length m1) (n1 : m1.length ≤ e1) (k2 : Kd.C (Kd.int .i64) w C2 m2.length m2) (n2 : m2.length ≤ e2) (k4 : Kd.C k36 w C4 m4.length m4) (n4 : m4.length ≤ e4) :
    Calls Try.prog 3 #[.agg #[.int .u8 a, .slice A1 l1.length c1, .slice A2 l2.length c2, .bool j, .slice A4 l4.length c4, .int .u8 p0, .int .i64 p1, .int .i64 p2, .bool y, .int .u8 t], .agg #[.int .u8 b, .slice C1 m1.length e1, .slice C2 m2.length e2, .bool i, .slice C4 m4.length e4, .int .u8 r0, .int .i64 r1, .int .i64 r2, .bool z, .int .u8 u], .int .i64 s] w fun e w' => e = .returned (.bool true) ∧ Below w.heap.size w w' := by
  have hu27 := Try.underlying27
  have hu36 := Try.underlying36
  have O1 : QOk w A1 c1 l1 A2 c2 l2 A4 c4 l4 := ⟨h1, f1, h2, f2, h4, f4⟩
  have O2 : QOk w C1 e1 m1 C2 e2 m2 C4 e4 m4 := ⟨k1, n1, k2, n2, k4, n4⟩
  clear h1 f1 h2 f2 h4 f4 k1 n1 k2 n2 k4 n4
  have L := Lie.nil (Below.refl w.heap.size w)
  have GR := Aside0.mk (Pure.great_query a l1 l2 j l4 p0 p1 p2 y t)
  have GS := Aside0.mk (Pure.great_query b m1 m2 i m4 r0 r1 r2 z u)
  go_enter Try.func3, Try.ntmps3
  go_upto_region 1 with (first | ((with_reducible refine gate_dst (N := 3) rfl ?_); (try (refine gate_guard (by rfl) ?_; dsimp only)); refine box_event ?hg (N := 3) ?hd (cs := #[.int .u8 a, .slice A1 l1.length c1, .slice A2 l2.length c2, .bool j, .slice A4 l4.length c4, .int .u8 p0, .int .i64 p1, .int .i64 p2, .bool y, .int .u8 t]) (t := 27) ?hr ?_; (case hd => rfl); (case hg => rfl); (case hr => first | (go_simp; done) | (go_simp; rfl)); intro g3 hg W2 hbox hb; replace L := L.more [] [] hg hbox hb; clear hg hbox hb) | ((with_reducible refine gate_dst (N := 4) rfl ?_); (try (refine gate_guard (by rfl) ?_; dsimp only)); refine box_event ?hg (N := 4) ?hd (cs := #[.int .u8 b, .slice C1 m1.length e1, .slice C2 m2.length e2, .bool i, .slice C4 m4.length e4, .int .u8 r0, .int .i64 r1, .int .i64 r2, .bool z, .int .u8 u]) (t := 27) ?hr ?_; (case hd => rfl); (case hg => rfl); (case hr => first | (go_simp; done) | (go_simp; rfl)); intro g4 hg W3 hbox hb; replace L := L.more [(g3, _)] [] hg hbox hb; clear hg hbox hb))
  (try simp only [Act.put, List.setIfInBounds_toArray, List.set_cons_zero, List.set_cons_succ])
  go_cut [45] (fun v45 wc => ∃ x : Bool, v45 = .bool x ∧ Aside0 (x = false → (Pure.Qu.small ⟨a, l1, l2, j, l4, p0, p1, p2, y, t⟩ ∧ Pure.Qu.small ⟨b, m1, m2, i, m4, r0, r1, r2, z, u⟩ ∧ Pure.Qu.chk ⟨a, l1, l2, j, l4, p0, p1, p2, y, t⟩ = 0 ∧ Pure.Qu.chk ⟨b, m1, m2, i, m4, r0, r1, r2, z, u⟩ = 0 ∧ 0 ≤ s ∧ s ≤ 400)) ∧ Lie w [(g3, .cells #[.int .u8 a, .slice A1 l1.length c1, .slice A2 l2.length c2, .bool j, .slice A4 l4.length c4, .int .u8 p0, .int .i64 p1, .int .i64 p2, .bool y, .int .u8 t] 27 (0, 0)), (g4, .cells #[.int .u8 b, .slice C1 m1.length e1, .slice C2 m2.length e2, .bool i, .slice C4 m4.length e4, .int .u8 r0, .int .i64 r1, .int .i64 r2, .bool z, .int .u8 u] 27 (0, 0))] wc)
  case first =>
    obtain ⟨r, eG, hr⟩ := GR.out
    obtain ⟨r', eS, hr'⟩ := GS.out
    have EG := Aside0.mk eG
    have ES := Aside0.mk eS
    have HS := Aside0.mk (And.intro hr hr')
    clear eG eS GR GS hr hr'
    refine query_cells_ (L.get 0 rfl) fun ox0 ox1 ox2 ox3 ox4 ox5 ox6 ox7 ox8 ox9 of0 of1 of2 of3 of4 of5 of6 of7 of8 of9 => ?_
    refine query_cells_ (L.get 1 rfl) fun ov0 ov1 ov2 ov3 ov4 ov5 ov6 ov7 ov8 ov9 oq0 oq1 oq2 oq3 oq4 oq5 oq6 oq7 oq8 oq9 => ?_
    cases r with
    | true =>
      go_wp2_with (first | ((with_reducible refine gate_callee (f := 16) rfl ?_); refine goesL_ (some 23) rfl rfl Try.func16 (by kernel_rfl) rfl #[.agg #[.int .u8 a, .slice A1 l1.length c1, .slice A2 l2.length c2, .bool j, .slice A4 l4.length c4, .int .u8 p0, .int .i64 p1, .int .i64 p2, .bool y, .int .u8 t]] rfl (by (try simp only [List.map_toArray, List.map_cons, List.map_nil]); first | done | rfl | (simp only [List.length_drop, List.length_take]; rfl)) ?_; refine (call16 O1 L.bel EG.out).mono ?_; rintro e w16 ⟨rfl, hb⟩; refine ⟨_, rfl, ?_⟩; replace L := L.step hb; clear hb; refine query_cells_ (L.get 0 rfl) fun ox0 ox1 ox2 ox3 ox4 ox5 ox6 ox7 ox8 ox9 of0 of1 of2 of3 of4 of5 of6 of7 of8 of9 => ?_; refine query_cells_ (L.get 1 rfl) fun ov0 ov1 ov2 ov3 ov4 ov5 ov6 ov7 ov8 ov9 oq0 oq1 oq2 oq3 oq4 oq5 oq6 oq7 oq8 oq9 => ?_))
      go_meet
      case rel => exact ⟨true, (by first | rfl | (simp; done) | (simp [*]; done)), ⟨fun h => absurd h (by simp)⟩, L⟩
    | false =>
      cases r' with
      | true =>
        go_wp2_with (first | ((with_reducible refine gate_callee (f := 16) rfl ?_); refine goesL_ (some 23) rfl rfl Try.func16 (by kernel_rfl) rfl #[.agg #[.int .u8 a, .slice A1 l1.length c1, .slice A2 l2.length c2, .bool j, .slice A4 l4.length c4, .int .u8 p0, .int .i64 p1, .int .i64 p2, .bool y, .int .u8 t]] rfl (by (try simp only [List.map_toArray, List.map_cons, List.map_nil]); first | done | rfl | (simp only [List.length_drop, List.length_take]; rfl)) ?_; refine (call16 O1 L.bel EG.out).mono ?_; rintro e w16 ⟨rfl, hb⟩; refine ⟨_, rfl, ?_⟩; replace L := L.step hb; clear hb; refine query_cells_ (L.get 0 rfl) fun ox0 ox1 ox2 ox3 ox4 ox5 ox6 ox7 ox8 ox9 of0 of1 of2 of3 of4 of5 of6 of7 of8 of9 => ?_; refine query_cells_ (L.get 1 rfl) fun ov0 ov1 ov2 ov3 ov4 ov5 ov6 ov7 ov8 ov9 oq0 oq1 oq2 oq3 oq4 oq5 oq6 oq7 oq8 oq9 => ?_) | (go_at_call 16; (with_reducible refine (call16 O2 L.bel ES.out).mono ?_); rintro e w17 ⟨rfl, hb⟩; replace L := L.step hb; clear hb; refine query_cells_ (L.get 0 rfl) fun ox0 ox1 ox2 ox3 ox4 ox5 ox6 ox7 ox8 ox9 of0 of1 of2 of3 of4 of5 of6 of7 of8 of9 => ?_; refine query_cells_ (L.get 1 rfl) fun ov0 ov1 ov2 ov3 ov4 ov5 ov6 ov7 ov8 ov9 oq0 oq1 oq2 oq3 oq4 oq5 oq6 oq7 oq8 oq9 => ?_))
        go_meet
        case rel => exact ⟨true, (by first | rfl | (simp; done) | (simp [*]; done)), ⟨fun h => absurd h (by simp)⟩, L⟩
      | false =>
        have H1 := Aside0.mk (HS.out.1.1 (by trivial))
        have H2 := Aside0.mk (HS.out.2.1 (by trivial))
        clear HS
        obtain ⟨t0, e0_, h0⟩ : ∃ v, tailwaterref08_Check.f 500 a l1 l2 j l4 p0 p1 p2 y t = some v ∧ v = Pure.Qu.chk ⟨a, l1, l2, j, l4, p0, p1, p2, y, t⟩ := ⟨_, Pure.rcheck_is (p := ⟨a, l1, l2, j, l4, p0, p1, p2, y, t⟩) H1.out (by omega), rfl⟩
        have EC := Aside0.mk e0_
        have K0 := Aside0.mk h0
        clear e0_ h0
        by_cases hq0 : t0 = 0
        rotate_left
        · have b0 : (t0 != 0) = true := bne_iff_ne.mpr hq0
          clear hq0
          go_wp2_with (first | ((with_reducible refine gate_callee (f := 16) rfl ?_); refine goesL_ (some 23) rfl rfl Try.func16 (by kernel_rfl) rfl #[.agg #[.int .u8 a, .slice A1 l1.length c1, .slice A2 l2.length c2, .bool j, .slice A4 l4.length c4, .int .u8 p0, .int .i64 p1, .int .i64 p2, .bool y, .int .u8 t]] rfl (by (try simp only [List.map_toArray, List.map_cons, List.map_nil]); first | done | rfl | (simp only [List.length_drop, List.length_take]; rfl)) ?_; refine (call16 O1 L.bel EG.out).mono ?_; rintro e w16 ⟨rfl, hb⟩; refine ⟨_, rfl, ?_⟩; replace L := L.step hb; clear hb; refine query_cells_ (L.get 0 rfl) fun ox0 ox1 ox2 ox3 ox4 ox5 ox6 ox7 ox8 ox9 of0 of1 of2 of3 of4 of5 of6 of7 of8 of9 => ?_; refine query_cells_ (L.get 1 rfl) fun ov0 ov1 ov2 ov3 ov4 ov5 ov6 ov7 ov8 ov9 oq0 oq1 oq2 oq3 oq4 oq5 oq6 oq7 oq8 oq9 => ?_) | (go_at_call 16; (with_reducible refine (call16 O2 L.bel ES.out).mono ?_); rintro e w17 ⟨rfl, hb⟩; replace L := L.step hb; clear hb; refine query_cells_ (L.get 0 rfl) fun ox0 ox1 ox2 ox3 ox4 ox5 ox6 ox7 ox8 ox9 of0 of1 of2 of3 of4 of5 of6 of7 of8 of9 => ?_; refine query_cells_ (L.get 1 rfl) fun ov0 ov1 ov2 ov3 ov4 ov5 ov6 ov7 ov8 ov9 oq0 oq1 oq2 oq3 oq4 oq5 oq6 oq7 oq8 oq9 => ?_) | (go_at_call 17; (with_reducible refine (call17 O1 L.bel EC.out).mono ?_); rintro e w18 ⟨rfl, hb⟩; replace L := L.step hb; clear hb; refine query_cells_ (L.get 0 rfl) fun ox0 ox1 ox2 ox3 ox4 ox5 ox6 ox7 ox8 ox9 of0 of1 of2 of3 of4 of5 of6 of7 of8 of9 => ?_; refine query_cells_ (L.get 1 rfl) fun ov0 ov1 ov2 ov3 ov4 ov5 ov6 ov7 ov8 ov9 oq0 oq1 oq2 oq3 oq4 oq5 oq6 oq7 oq8 oq9 => ?_))
          go_meet
          case rel => exact ⟨true, (by first | rfl | (simp; done) | (simp [*]; done)), ⟨fun h => absurd h (by simp)⟩, L⟩
        have b0 : (t0 != 0) = false := bne_eq_false_iff_eq.mpr hq0
        have Z0 := Aside0.mk hq0
        clear hq0
        obtain ⟨t1, e1_, h1⟩ : ∃ v, tailwaterref08_Check.f 500 b m1 m2 i m4 r0 r1 r2 z u = some v ∧ v = Pure.Qu.chk ⟨b, m1, m2, i, m4, r0, r1, r2, z, u⟩ := ⟨_, Pure.rcheck_is (p := ⟨b, m1, m2, i, m4, r0, r1, r2, z, u⟩) H2.out (by omega), rfl⟩
        have ED := Aside0.mk e1_
        have K1 := Aside0.mk h1
        clear e1_ h1
        by_cases hq1 : t1 = 0
        rotate_left
        · have b1 : (t1 != 0) = true := bne_iff_ne.mpr hq1
          clear hq1
          go_wp2_with (first | ((with_reducible refine gate_callee (f := 16) rfl ?_); refine goesL_ (some 23) rfl rfl Try.func16 (by kernel_rfl) rfl #[.agg #[.int .u8 a, .slice A1 l1.length c1, .slice A2 l2.length c2, .bool j, .slice A4 l4.length c4, .int .u8 p0, .int .i64 p1, .int .i64 p2, .bool y, .int .u8 t]] rfl (by (try simp only [List.map_toArray, List.map_cons, List.map_nil]); first | done | rfl | (simp only [List.length_drop, List.length_take]; rfl)) ?_; refine (call16 O1 L.bel EG.out).mono ?_; rintro e w16 ⟨rfl, hb⟩; refine ⟨_, rfl, ?_⟩; replace L := L.step hb; clear hb; refine query_cells_ (L.get 0 rfl) fun ox0 ox1 ox2 ox3 ox4 ox5 ox6 ox7 ox8 ox9 of0 of1 of2 of3 of4 of5 of6 of7 of8 of9 => ?_; refine query_cells_ (L.get 1 rfl) fun ov0 ov1 ov2 ov3 ov4 ov5 ov6 ov7 ov8 ov9 oq0 oq1 oq2 oq3 oq4 oq5 oq6 oq7 oq8 oq9 => ?_) | (go_at_call 16; (with_reducible refine (call16 O2 L.bel ES.out).mono ?_); rintro e w17 ⟨rfl, hb⟩; replace L := L.step hb; clear hb; refine query_cells_ (L.get 0 rfl) fun ox0 ox1 ox2 ox3 ox4 ox5 ox6 ox7 ox8 ox9 of0 of1 of2 of3 of4 of5 of6 of7 of8 of9 => ?_; refine query_cells_ (L.get 1 rfl) fun ov0 ov1 ov2 ov3 ov4 ov5 ov6 ov7 ov8 ov9 oq0 oq1 oq2 oq3 oq4 oq5 oq6 oq7 oq8 oq9 => ?_) | (go_at_call 17; (with_reducible refine (call17 O1 L.bel EC.out).mono ?_); rintro e w18 ⟨rfl, hb⟩; replace L := L.step hb; clear hb; refine query_cells_ (L.get 0 rfl) fun ox0 ox1 ox2 ox3 ox4 ox5 ox6 ox7 ox8 ox9 of0 of1 of2 of3 of4 of5 of6 of7 of8 of9 => ?_; refine query_cells_ (L.get 1 rfl) fun ov0 ov1 ov2 ov3 ov4 ov5 ov6 ov7 ov8 ov9 oq0 oq1 oq2 oq3 oq4 oq5 oq6 oq7 oq8 oq9 => ?_) | (go_at_call 17; (with_reducible refine (call17 O2 L.bel ED.out).mono ?_); rintro e w19 ⟨rfl, hb⟩; replace L := L.step hb; clear hb; refine query_cells_ (L.get 0 rfl) fun ox0 ox1 ox2 ox3 ox4 ox5 ox6 ox7 ox8 ox9 of0 of1 of2 of3 of4 of5 of6 of7 of8 of9 => ?_; refine query_cells_ (L.get 1 rfl) fun ov0 ov1 ov2 ov3 ov4 ov5 ov6 ov7 ov8 ov9 oq0 oq1 oq2 oq3 oq4 oq5 oq6 oq7 oq8 oq9 => ?_))
          go_meet
          case rel => exact ⟨true, (by first | rfl | (simp; done) | (simp [*]; done)), ⟨fun h => absurd h (by simp)⟩, L⟩
        have b1 : (t1 != 0) = false := bne_eq_false_iff_eq.mpr hq1
        have Z1 := Aside0.mk hq1
        clear hq1
        by_cases hs : s < 0
        · have b2 : decide (s < 0) = true := decide_eq_true hs
          clear hs
          go_wp2_with (first | ((with_reducible refine gate_callee (f := 16) rfl ?_); refine goesL_ (some 23) rfl rfl Try.func16 (by kernel_rfl) rfl #[.agg #[.int .u8 a, .slice A1 l1.length c1, .slice A2 l2.length c2, .bool j, .slice A4 l4.length c4, .int .u8 p0, .int .i64 p1, .int .i64 p2, .bool y, .int .u8 t]] rfl (by (try simp only [List.map_toArray, List.map_cons, List.map_nil]); first | done | rfl | (simp only [List.length_drop, List.length_take]; rfl)) ?_; refine (call16 O1 L.bel EG.out).mono ?_; rintro e w16 ⟨rfl, hb⟩; refine ⟨_, rfl, ?_⟩; replace L := L.step hb; clear hb; refine query_cells_ (L.get 0 rfl) fun ox0 ox1 ox2 ox3 ox4 ox5 ox6 ox7 ox8 ox9 of0 of1 of2 of3 of4 of5 of6 of7 of8 of9 => ?_; refine query_cells_ (L.get 1 rfl) fun ov0 ov1 ov2 ov3 ov4 ov5 ov6 ov7 ov8 ov9 oq0 oq1 oq2 oq3 oq4 oq5 oq6 oq7 oq8 oq9 => ?_) | (go_at_call 16; (with_reducible refine (call16 O2 L.bel ES.out).mono ?_); rintro e w17 ⟨rfl, hb⟩; replace L := L.step hb; clear hb; refine query_cells_ (L.get 0 rfl) fun ox0 ox1 ox2 ox3 ox4 ox5 ox6 ox7 ox8 ox9 of0 of1 of2 of3 of4 of5 of6 of7 of8 of9 => ?_; refine query_cells_ (L.get 1 rfl) fun ov0 ov1 ov2 ov3 ov4 ov5 ov6 ov7 ov8 ov9 oq0 oq1 oq2 oq3 oq4 oq5 oq6 oq7 oq8 oq9 => ?_) | (go_at_call 17; (with_reducible refine (call17 O1 L.bel EC.out).mono ?_); rintro e w18 ⟨rfl, hb⟩; replace L := L.step hb; clear hb; refine query_cells_ (L.get 0 rfl) fun ox0 ox1 ox2 ox3 ox4 ox5 ox6 ox7 ox8 ox9 of0 of1 of2 of3 of4 of5 of6 of7 of8 of9 => ?_; refine query_cells_ (L.get 1 rfl) fun ov0 ov1 ov2 ov3 ov4 ov5 ov6 ov7 ov8 ov9 oq0 oq1 oq2 oq3 oq4 oq5 oq6 oq7 oq8 oq9 => ?_) | (go_at_call 17; (with_reducible refine (call17 O2 L.bel ED.out).mono ?_); rintro e w19 ⟨rfl, hb⟩; replace L := L.step hb; clear hb; refine query_cells_ (L.get 0 rfl) fun ox0 ox1 ox2 ox3 ox4 ox5 ox6 ox7 ox8 ox9 of0 of1 of2 of3 of4 of5 of6 of7 of8 of9 => ?_; refine query_cells_ (L.get 1 rfl) fun ov0 ov1 ov2 ov3 ov4 ov5 ov6 ov7 ov8 ov9 oq0 oq1 oq2 oq3 oq4 oq5 oq6 oq7 oq8 oq9 => ?_))
          go_meet
          case rel => exact ⟨true, (by first | rfl | (simp; done) | (simp [*]; done)), ⟨fun h => absurd h (by simp)⟩, L⟩
        · have b2 : decide (s < 0) = false := decide_eq_false hs
          have HN := Aside0.mk hs
          clear hs
          go_wp2_with (first | ((with_reducible refine gate_callee (f := 16) rfl ?_); refine goesL_ (some 23) rfl rfl Try.func16 (by kernel_rfl) rfl #[.agg #[.int .u8 a, .slice A1 l1.length c1, .slice A2 l2.length c2, .bool j, .slice A4 l4.length c4, .int .u8 p0, .int .i64 p1, .int .i64 p2, .bool y, .int .u8 t]] rfl (by (try simp only [List.map_toArray, List.map_cons, List.map_nil]); first | done | rfl | (simp only [List.length_drop, List.length_take]; rfl)) ?_; refine (call16 O1 L.bel EG.out).mono ?_; rintro e w16 ⟨rfl, hb⟩; refine ⟨_, rfl, ?_⟩; replace L := L.step hb; clear hb; refine query_cells_ (L.get 0 rfl) fun ox0 ox1 ox2 ox3 ox4 ox5 ox6 ox7 ox8 ox9 of0 of1 of2 of3 of4 of5 of6 of7 of8 of9 => ?_; refine query_cells_ (L.get 1 rfl) fun ov0 ov1 ov2 ov3 ov4 ov5 ov6 ov7 ov8 ov9 oq0 oq1 oq2 oq3 oq4 oq5 oq6 oq7 oq8 oq9 => ?_) | (go_at_call 16; (with_reducible refine (call16 O2 L.bel ES.out).mono ?_); rintro e w17 ⟨rfl, hb⟩; replace L := L.step hb; clear hb; refine query_cells_ (L.get 0 rfl) fun ox0 ox1 ox2 ox3 ox4 ox5 ox6 ox7 ox8 ox9 of0 of1 of2 of3 of4 of5 of6 of7 of8 of9 => ?_; refine query_cells_ (L.get 1 rfl) fun ov0 ov1 ov2 ov3 ov4 ov5 ov6 ov7 ov8 ov9 oq0 oq1 oq2 oq3 oq4 oq5 oq6 oq7 oq8 oq9 => ?_) | (go_at_call 17; (with_reducible refine (call17 O1 L.bel EC.out).mono ?_); rintro e w18 ⟨rfl, hb⟩; replace L := L.step hb; clear hb; refine query_cells_ (L.get 0 rfl) fun ox0 ox1 ox2 ox3 ox4 ox5 ox6 ox7 ox8 ox9 of0 of1 of2 of3 of4 of5 of6 of7 of8 of9 => ?_; refine query_cells_ (L.get 1 rfl) fun ov0 ov1 ov2 ov3 ov4 ov5 ov6 ov7 ov8 ov9 oq0 oq1 oq2 oq3 oq4 oq5 oq6 oq7 oq8 oq9 => ?_) | (go_at_call 17; (with_reducible refine (call17 O2 L.bel ED.out).mono ?_); rintro e w19 ⟨rfl, hb⟩; replace L := L.step hb; clear hb; refine query_cells_ (L.get 0 rfl) fun ox0 ox1 ox2 ox3 ox4 ox5 ox6 ox7 ox8 ox9 of0 of1 of2 of3 of4 of5 of6 of7 of8 of9 => ?_; refine query_cells_ (L.get 1 rfl) fun ov0 ov1 ov2 ov3 ov4 ov5 ov6 ov7 ov8 ov9 oq0 oq1 oq2 oq3 oq4 oq5 oq6 oq7 oq8 oq9 => ?_))
          go_meet
          case rel => exact ⟨decide (s > 400), (by first | rfl | (simp; done) | (simp [*]; done)), ⟨fun h => ⟨H1.out, H2.out, K0.out.symm.trans Z0.out, K1.out.symm.trans Z1.out, by have := HN.out; omega, by have := of_decide_eq_false h; omega⟩⟩, L⟩
  case rest =>
    clear GR GS
    obtain ⟨x, rfl, HX, L⟩ := hcut
    cases x with
    | true =>
      clear HX
      go_wp2_with (first | ((with_reducible refine gate_callee (f := 18) rfl ?_); refine goesL_ (some 46) rfl rfl Try.func18 (by kernel_rfl) rfl #[] rfl (by (try simp only [List.map_toArray, List.map_cons, List.map_nil]); first | done | rfl | (simp only [List.length_drop, List.length_take]; rfl)) ?_; refine (tailwaterlaw08_alive.calls 500 true _ Pure.alive500).mono ?_; rintro e w18 ⟨rfl, hb⟩; refine ⟨_, rfl, ?_⟩; replace L := L.step hb; clear hb))
      go_ret
      exact ⟨by first | rfl | (simp [*]; done), L.bel⟩
    | false =>
      obtain ⟨sp, sq, cp, cq, s0, s4⟩ := HX.out rfl
      clear HX
      obtain ⟨g, g', r, x1, x2, n1, x3, x4, x5, n2⟩ := Pure.same_vals sp sq cp cq
      have E1 : Aside0 (clauses_Same.f 500 a l1 l2 j l4 p0 p1 p2 y t b m1 m2 i m4 r0 r1 r2 z u = some (g, 0)) := ⟨x1⟩
      have E2 : Aside0 (clauses_Same.f 500 b m1 m2 i m4 r0 r1 r2 z u a l1 l2 j l4 p0 p1 p2 y t = some (g', 0)) := ⟨x2⟩
      have EK : Aside0 (clauses_Same.f 500 a l1 l2 j l4 p0 p1 p2 y t a l1 l2 j l4 p0 p1 p2 (!y) t = some (false, 0)) := ⟨x3⟩
      have EL : Aside0 (clauses_Same.f 500 a l1 l2 j l4 p0 p1 p2 y t a l1 l2 j l4 p0 p1 p2 y ((3 - t) % 256) = some (false, 0)) := ⟨x4⟩
      have EE : Aside0 (tailwaterref08_Equal.f 500 a l1 l2 j l4 p0 p1 p2 y t b m1 m2 i m4 r0 r1 r2 z u = some r) := ⟨x5⟩
      have N1 := Aside0.mk n1
      have N2 := Aside0.mk n2
      have SP := Aside0.mk sp
      have CP := Aside0.mk cp
      have HF := Aside0.mk (Pure.fine_parts cp)
      have S4 := Aside0.mk (And.intro s0 s4)
      clear x1 x2 n1 x3 x4 x5 n2 sp sq cp cq s0 s4
      refine query_cells_ (L.get 0 rfl) fun ox0 ox1 ox2 ox3 ox4 ox5 ox6 ox7 ox8 ox9 of0 of1 of2 of3 of4 of5 of6 of7 of8 of9 => ?_
      refine query_cells_ (L.get 1 rfl) fun ov0 ov1 ov2 ov3 ov4 ov5 ov6 ov7 ov8 ov9 oq0 oq1 oq2 oq3 oq4 oq5 oq6 oq7 oq8 oq9 => ?_
      go_upto_region 6 with (first | ((with_reducible refine gate_callee (f := 19) rfl ?_); refine goesL_ (some 50) rfl rfl Try.func19 (by kernel_rfl) rfl #[.agg #[.int .u8 a, .slice A1 l1.length c1, .slice A2 l2.length c2, .bool j, .slice A4 l4.length c4, .int .u8 p0, .int .i64 p1, .int .i64 p2, .bool y, .int .u8 t], .agg #[.int .u8 b, .slice C1 m1.length e1, .slice C2 m2.length e2, .bool i, .slice C4 m4.length e4, .int .u8 r0, .int .i64 r1, .int .i64 r2, .bool z, .int .u8 u]] rfl (by (try simp only [List.map_toArray, List.map_cons, List.map_nil]); first | done | rfl | (simp only [List.length_drop, List.length_take]; rfl)) ?_; refine (call19 (O1.step L.bel) (O2.step L.bel) E1.out).mono ?_; rintro e w50 ⟨rfl, hb⟩; refine ⟨_, rfl, ?_⟩; replace L := L.step hb; clear hb; refine query_cells_ (L.get 0 rfl) fun ox0 ox1 ox2 ox3 ox4 ox5 ox6 ox7 ox8 ox9 of0 of1 of2 of3 of4 of5 of6 of7 of8 of9 => ?_; refine query_cells_ (L.get 1 rfl) fun ov0 ov1 ov2 ov3 ov4 ov5 ov6 ov7 ov8 ov9 oq0 oq1 oq2 oq3 oq4 oq5 oq6 oq7 oq8 oq9 => ?_) | ((with_reducible refine gate_callee (f := 19) rfl ?_); refine goesL_ (some 56) rfl rfl Try.func19 (by kernel_rfl) rfl #[.agg #[.int .u8 b, .slice C1 m1.length e1, .slice C2 m2.length e2, .bool i, .slice C4 m4.length e4, .int .u8 r0, .int .i64 r1, .int .i64 r2, .bool z, .int .u8 u], .agg #[.int .u8 a, .slice A1 l1.length c1, .slice A2 l2.length c2, .bool j, .slice A4 l4.length c4, .int .u8 p0, .int .i64 p1, .int .i64 p2, .bool y, .int .u8 t]] rfl (by (try simp only [List.map_toArray, List.map_cons, List.map_nil]); first | done | rfl | (simp only [List.length_drop, List.length_take]; rfl)) ?_; refine (call19 (O2.step L.bel) (O1.step L.bel) E2.out).mono ?_; rintro e w56 ⟨rfl, hb⟩; refine ⟨_, rfl, ?_⟩; replace L := L.step hb; clear hb; refine query_cells_ (L.get 0 rfl) fun ox0 ox1 ox2 ox3 ox4 ox5 ox6 ox7 ox8 ox9 of0 of1 of2 of3 of4 of5 of6 of7 of8 of9 => ?_; refine query_cells_ (L.get 1 rfl) fun ov0 ov1 ov2 ov3 ov4 ov5 ov6 ov7 ov8 ov9 oq0 oq1 oq2 oq3 oq4 oq5 oq6 oq7 oq8 oq9 => ?_) | ((with_reducible refine gate_callee (f := 20) rfl ?_); refine goesL_ (some 60) rfl rfl Try.func20 (by kernel_rfl) rfl #[.agg #[.int .u8 a, .slice A1 l1.length c1, .slice A2 l2.length c2, .bool j, .slice A4 l4.length c4, .int .u8 p0, .int .i64 p1, .int .i64 p2, .bool y, .int .u8 t]] rfl (by (try simp only [List.map_toArray, List.map_cons, List.map_nil]); first | done | rfl | (simp only [List.length_drop, List.length_take]; rfl)) ?_; refine (call20 (O1.step L.bel) SP.out.1 SP.out.2.1 SP.out.2.2).mono ?_; rintro e w20 ⟨B1, d1, B2, d2, B4, d4, rfl, -, k1, k2, k4, hb⟩; refine ⟨_, rfl, ?_⟩; replace k1 := Kd.R_lower k1 L.bel.size; replace k2 := Kd.R_lower k2 L.bel.size; replace k4 := Kd.R_lower k4 L.bel.size; replace L := L.step hb; clear hb; have LT := Lie.nil (Below.refl w20.heap.size w20)) | ((with_reducible refine gate_dst (N := 11) rfl ?_); (try (refine gate_guard (by rfl) ?_; dsimp only)); refine box_event ?hg (N := 11) ?hd (cs := #[.int .u8 0, .slice none 0 0, .slice none 0 0, .bool false, .slice none 0 0, .int .u8 0, .int .i64 0, .int .i64 0, .bool false, .int .u8 0]) (t := 27) ?hr ?_; (case hd => rfl); (case hg => rfl); (case hr => first | (go_simp; done) | (go_simp; rfl)); intro g11 hg W5 hbox hb; replace LT := LT.more [] [] hg hbox hb; replace L := L.more [(g3, _), (g4, _)] [] hg hbox hb; clear hg hbox hb; refine query_cells_ (L.get 2 rfl) fun ox0 ox1 ox2 ox3 ox4 ox5 ox6 ox7 ox8 ox9 of0 of1 of2 of3 of4 of5 of6 of7 of8 of9 => ?_))
      (try simp only [Act.put, List.setIfInBounds_toArray, List.set_cons_zero, List.set_cons_succ])
      have LU := Lie.fill10 [] [] LT (.int .u8 a) (.slice B1 l1.length d1) (.slice B2 l2.length d2) (.bool j) (.slice B4 l4.length d4) (.int .u8 p0) (.int .i64 p1) (.int .i64 p2) (.bool y) (.int .u8 t)
      refine gen_wp (Moved w B1 d1 l1 B2 d2 l2 B4 d4 l4 [(g3, .cells #[.int .u8 a, .slice A1 l1.length c1, .slice A2 l2.length c2, .bool j, .slice A4 l4.length c4, .int .u8 p0, .int .i64 p1, .int .i64 p2, .bool y, .int .u8 t] 27 (0, 0)), (g4, .cells #[.int .u8 b, .slice C1 m1.length e1, .slice C2 m2.length e2, .bool i, .slice C4 m4.length e4, .int .u8 r0, .int .i64 r1, .int .i64 r2, .bool z, .int .u8 u] 27 (0, 0)), (g11, .cells #[.int .u8 a, .slice B1 l1.length d1, .slice B2 l2.length d2, .bool j, .slice B4 l4.length d4, .int .u8 p0, .int .i64 p1, .int .i64 p2, .bool y, .int .u8 t] 27 (0, 0))]) ⟨Lie.fill10 [(g3, _), (g4, _)] [] L (.int .u8 a) (.slice B1 l1.length d1) (.slice B2 l2.length d2) (.bool j) (.slice B4 l4.length d4) (.int .u8 p0) (.int .i64 p1) (.int .i64 p2) (.bool y) (.int .u8 t), Kd.R_below k1 LU.bel, Kd.R_below k2 LU.bel, Kd.R_below k4 LU.bel, fun p hp => by simp only [List.mem_cons, List.not_mem_nil, or_false] at hp; rcases hp with rfl | rfl | rfl <;> exact ⟨_, rfl⟩⟩ ?_
      clear L LT LU k1 k2 k4 ox0 ox1 ox2 ox3 ox4 ox5 ox6 ox7 ox8 ox9 of0 of1 of2 of3 of4 of5 of6 of7 of8 of9
      intro wz M
      go_wp2
      go_loopg [12] (l4.length + 1) (fun kq v_ w' => ∃ (n : Int) (x4 : List S36), v_ = .int .i64 n ∧ Aside0 (0 ≤ n ∧ n ≤ (l4.length : Int) ∧ (l4.length : Int) < n + (kq : Int) ∧ kq ≤ l4.length + 1 ∧ Pure.Moves l4 x4) ∧ Moved w B1 d1 l1 B2 d2 l2 B4 d4 x4 [(g3, .cells #[.int .u8 a, .slice A1 l1.length c1, .slice A2 l2.length c2, .bool j, .slice A4 l4.length c4, .int .u8 p0, .int .i64 p1, .int .i64 p2, .bool y, .int .u8 t] 27 (0, 0)), (g4, .cells #[.int .u8 b, .slice C1 m1.length e1, .slice C2 m2.length e2, .bool i, .slice C4 m4.length e4, .int .u8 r0, .int .i64 r1, .int .i64 r2, .bool z, .int .u8 u] 27 (0, 0)), (g11, .cells #[.int .u8 a, .slice B1 l1.length d1, .slice B2 l2.length d2, .bool j, .slice B4 l4.length d4, .int .u8 p0, .int .i64 p1, .int .i64 p2, .bool y, .int .u8 t] 27 (0, 0))] w')
      case atStart => exact ⟨0, l4, (by first | rfl | (simp; done) | (simp [*]; done)), ⟨by omega, by omega, by omega, Nat.le_refl _, HF.out.2.1.moves⟩, M⟩
      case round =>
        clear M
        obtain ⟨n, x4, rfl, HI, M⟩ := hrel
        have hlen : l4.length ≤ 70 := SP.out.2.1
        cases gk with
        | zero => exact absurd HI.out.2.2.1 (by have := HI.out.2.1; omega)
        | succ k2 =>
          have hx4 : x4.length = l4.length := HI.out.2.2.2.2.1
          by_cases c : n < (l4.length : Int)
          · have b0 : decide (n < (l4.length : Int)) = true := decide_eq_true c
            have b1 : decide (0 ≤ n) = true := decide_eq_true HI.out.1
            obtain ⟨gg, rfl, ⟨vv, hv⟩, hf, M2⟩ := M.put4 HI.out.1 (by rw [hx4]; exact c) s
            have HM := HI.out.2.2.2.2.set HI.out.1 (by rw [hx4]; exact c) S4.out
            have HC := Aside0.mk (And.intro c HM)
            have pp := eq_true HI.out.1
            replace c := eq_true c
            clear HM
            refine query_cells_ (M.L.get 2 rfl) fun ox0 ox1 ox2 ox3 ox4 ox5 ox6 ox7 ox8 ox9 of0 of1 of2 of3 of4 of5 of6 of7 of8 of9 => ?_
            go_wp2
            go_roundg k2
            case measure => have := HI.out; omega
            case rel => exact ⟨wrap64 (n + 1), _, (by first | rfl | (simp; done) | (simp [*]; done)), ⟨by have := HI.out; have := HC.out.1; rw [Pure.w64 (by omega)]; exact ⟨by omega, by omega, by omega, by omega, HC.out.2⟩⟩, M2⟩
          · have b0 : decide (n < (l4.length : Int)) = false := decide_eq_false c
            clear c
            have Hx4 := Aside0.mk HI.out.2.2.2.2
            clear HI hlen
            refine query_cells_ (M.L.get 2 rfl) fun ox0 ox1 ox2 ox3 ox4 ox5 ox6 ox7 ox8 ox9 of0 of1 of2 of3 of4 of5 of6 of7 of8 of9 => ?_
            go_wp2
            go_loopg [13] (l1.length + 1) (fun kq v_ w' => ∃ (n : Int) (x1 : List S36), v_ = .int .i64 n ∧ Aside0 (0 ≤ n ∧ n ≤ (l1.length : Int) ∧ (l1.length : Int) < n + (kq : Int) ∧ kq ≤ l1.length + 1 ∧ Pure.Moves l1 x1) ∧ Moved w B1 d1 x1 B2 d2 l2 B4 d4 x4 [(g3, .cells #[.int .u8 a, .slice A1 l1.length c1, .slice A2 l2.length c2, .bool j, .slice A4 l4.length c4, .int .u8 p0, .int .i64 p1, .int .i64 p2, .bool y, .int .u8 t] 27 (0, 0)), (g4, .cells #[.int .u8 b, .slice C1 m1.length e1, .slice C2 m2.length e2, .bool i, .slice C4 m4.length e4, .int .u8 r0, .int .i64 r1, .int .i64 r2, .bool z, .int .u8 u] 27 (0, 0)), (g11, .cells #[.int .u8 a, .slice B1 l1.length d1, .slice B2 l2.length d2, .bool j, .slice B4 l4.length d4, .int .u8 p0, .int .i64 p1, .int .i64 p2, .bool y, .int .u8 t] 27 (0, 0))] w')
            case atStart => exact ⟨0, l1, (by first | rfl | (simp; done) | (simp [*]; done)), ⟨by omega, by omega, by omega, Nat.le_refl _, HF.out.1.moves⟩, M⟩
            case round =>
              clear M
              obtain ⟨n, x1, rfl, HI, M⟩ := hrel
              have hlen : l1.length ≤ 70 := SP.out.1
              cases gk with
              | zero => exact absurd HI.out.2.2.1 (by have := HI.out.2.1; omega)
              | succ k2 =>
                have hx1 : x1.length = l1.length := HI.out.2.2.2.2.1
                by_cases c : n < (l1.length : Int)
                · have b0 : decide (n < (l1.length : Int)) = true := decide_eq_true c
                  have b1 : decide (0 ≤ n) = true := decide_eq_true HI.out.1
                  obtain ⟨gg, rfl, ⟨vv, hv⟩, hf, M2⟩ := M.swap.put4 HI.out.1 (by rw [hx1]; exact c) s
                  have HM := HI.out.2.2.2.2.set HI.out.1 (by rw [hx1]; exact c) S4.out
                  have HC := Aside0.mk (And.intro c HM)
                  have pp := eq_true HI.out.1
                  replace c := eq_true c
                  clear HM
                  refine query_cells_ (M.L.get 2 rfl) fun ox0 ox1 ox2 ox3 ox4 ox5 ox6 ox7 ox8 ox9 of0 of1 of2 of3 of4 of5 of6 of7 of8 of9 => ?_
                  go_wp2
                  go_roundg k2
                  case measure => have := HI.out; omega
                  case rel => exact ⟨wrap64 (n + 1), _, (by first | rfl | (simp; done) | (simp [*]; done)), ⟨by have := HI.out; have := HC.out.1; rw [Pure.w64 (by omega)]; exact ⟨by omega, by omega, by omega, by omega, HC.out.2⟩⟩, M2.swap⟩
                · have b0 : decide (n < (l1.length : Int)) = false := decide_eq_false c
                  clear c
                  have Hx1 := Aside0.mk HI.out.2.2.2.2
                  clear HI hlen
                  refine query_cells_ (M.L.get 2 rfl) fun ox0 ox1 ox2 ox3 ox4 ox5 ox6 ox7 ox8 ox9 of0 of1 of2 of3 of4 of5 of6 of7 of8 of9 => ?_
                  refine query_cells_ (M.L.get 0 rfl) fun ov0 ov1 ov2 ov3 ov4 ov5 ov6 ov7 ov8 ov9 oq0 oq1 oq2 oq3 oq4 oq5 oq6 oq7 oq8 oq9 => ?_
                  have EM : Aside0 (clauses_Same.f 500 a l1 l2 j l4 p0 p1 p2 y t a x1 l2 j x4 p0 p1 p2 y t = some (true, 0)) := ⟨Pure.same_moved (p := ⟨a, l1, l2, j, l4, p0, p1, p2, y, t⟩) SP.out CP.out Hx1.out Hx4.out⟩
                  try go_wp2_with (first | ((with_reducible refine gate_callee (f := 19) rfl ?_); have e_ := call19 (O1.step M.L.bel) M.ok EM.out; rw [hx1, hx4] at e_; refine goesL_ (some 90) rfl rfl Try.func19 (by kernel_rfl) rfl #[.agg #[.int .u8 a, .slice A1 l1.length c1, .slice A2 l2.length c2, .bool j, .slice A4 l4.length c4, .int .u8 p0, .int .i64 p1, .int .i64 p2, .bool y, .int .u8 t], .agg #[.int .u8 a, .slice B1 l1.length d1, .slice B2 l2.length d2, .bool j, .slice B4 l4.length d4, .int .u8 p0, .int .i64 p1, .int .i64 p2, .bool y, .int .u8 t]] rfl (by (try simp only [List.map_toArray, List.map_cons, List.map_nil]); first | done | rfl | (simp only [List.length_drop, List.length_take]; rfl)) ?_; refine (e_).mono ?_; rintro e w90 ⟨rfl, hb⟩; refine ⟨_, rfl, ?_⟩; have L := M.L.step hb; clear hb e_))
                  clear M EM hx1 hx4 Hx1 Hx4
                  replace L := L.drew
                  refine start_ (n := 6) (S := fun w' => w'.heap[g3]? = some (.cells #[.int .u8 a, .slice A1 l1.length c1, .slice A2 l2.length c2, .bool j, .slice A4 l4.length c4, .int .u8 p0, .int .i64 p1, .int .i64 p2, .bool y, .int .u8 t] 27 (0, 0))) (ds := []) #[false, false, false, false, false, false] (by kernel_rfl) rfl rfl (L.get 0 rfl) (fun hHeld => ?_)
                  generalize w90.drew = w91 at L hHeld ⊢
                  refine take_ (i := 0) (N := some 93) (v := ?_) (a' := ?_) #[true, false, false, false, false, false] rfl rfl (by kernel_rfl) (fun _ _ _ h => h) (Or.inl ⟨by rfl, ?_⟩) hHeld ?_ ?_
                  rotate_left
                  · intro w' hS
                    refine query_cells_ (hS) fun ox0 ox1 ox2 ox3 ox4 ox5 ox6 ox7 ox8 ox9 of0 of1 of2 of3 of4 of5 of6 of7 of8 of9 => ?_
                    go_simp
                    with_reducible rfl
                  rotate_left
                  · simp only [Act.put, List.setIfInBounds_toArray, List.set_cons_zero, List.set_cons_succ, i64_w, i32_w]
                    rfl
                  refine take_ (i := 1) (N := some 94) (v := ?_) (a' := ?_) #[true, true, false, false, false, false] rfl rfl (by kernel_rfl) (fun _ _ _ h => h) (Or.inl ⟨by rfl, ?_⟩) hHeld ?_ ?_
                  rotate_left
                  · intro w' hS
                    refine query_cells_ (hS) fun ox0 ox1 ox2 ox3 ox4 ox5 ox6 ox7 ox8 ox9 of0 of1 of2 of3 of4 of5 of6 of7 of8 of9 => ?_
                    go_simp
                    with_reducible rfl
                  rotate_left
                  · simp only [Act.put, List.setIfInBounds_toArray, List.set_cons_zero, List.set_cons_succ, i64_w, i32_w]
                    rfl
                  refine join_ (σ := Nat × Nat) 2 #[true, true, true, true, false, false] (fun s_ => [(16, .pointer (some ⟨s_.1, 0, none⟩)), (17, .pointer (some ⟨s_.2, 0, none⟩))]) (fun s_ w' => Lie w [(g3, .cells #[.int .u8 a, .slice A1 l1.length c1, .slice A2 l2.length c2, .bool j, .slice A4 l4.length c4, .int .u8 p0, .int .i64 p1, .int .i64 p2, .bool y, .int .u8 t] 27 (0, 0)), (g4, .cells #[.int .u8 b, .slice C1 m1.length e1, .slice C2 m2.length e2, .bool i, .slice C4 m4.length e4, .int .u8 r0, .int .i64 r1, .int .i64 r2, .bool z, .int .u8 u] 27 (0, 0)), (g11, .cells #[.int .u8 a, .slice B1 l1.length d1, .slice B2 l2.length d2, .bool j, .slice B4 l4.length d4, .int .u8 p0, .int .i64 p1, .int .i64 p2, .bool y, .int .u8 t] 27 (0, 0)), (s_.1, Z27), (s_.2, Z27)] w') ?_ ?_
                  rotate_left
                  · intro hCont
                    refine two_ (i := 2) (j := 3) (Ni := some 16) (Nj := some 17) #[true, true, true, false, false, false] #[true, true, false, true, false, false] rfl rfl rfl rfl (by kernel_rfl) (by decide) (by decide) (fun K hK => ?_) (fun K hK => ?_)
                    · skip
                      refine box_step ?hg (N := 16) ?hd (cs := #[.int .u8 0, .slice none 0 0, .slice none 0 0, .bool false, .slice none 0 0, .int .u8 0, .int .i64 0, .int .i64 0, .bool false, .int .u8 0]) (t := 27) ?hr ?_; (case hd => rfl); (case hg => rfl); (case hr => first | (go_simp; done) | (go_simp; rfl))
                      intro g16 hg w50 hbox hb
                      have L := L.more [(g3, _), (g4, _), (g11, _)] [] hg hbox hb
                      clear hbox hb hg
                      refine hK.out _ _ (L.get 0 rfl) (fun _ => ?_)
                      clear hK K
                      refine norm_ (a' := ?_) ?_ ?_
                      rotate_left
                      · show Act.put _ (some 16) _ = _
                        simp only [Act.put, List.setIfInBounds_toArray, List.set_cons_zero, List.set_cons_succ, i64_w, i32_w]
                        rfl
                      refine one_ (i := 3) (N := some 17) #[true, true, true, true, false, false] rfl rfl (by kernel_rfl) (by decide) (fun K hK => ?_)
                      refine box_step ?hg (N := 17) ?hd (cs := #[.int .u8 0, .slice none 0 0, .slice none 0 0, .bool false, .slice none 0 0, .int .u8 0, .int .i64 0, .int .i64 0, .bool false, .int .u8 0]) (t := 27) ?hr ?_; (case hd => rfl); (case hg => rfl); (case hr => first | (go_simp; done) | (go_simp; rfl))
                      intro g17 hg w50 hbox hb
                      have L := L.more [(g3, _), (g4, _), (g11, _), (g16, _)] [] hg hbox hb
                      clear hbox hb hg
                      refine hK.out _ _ (L.get 0 rfl) (fun _ => ?_)
                      clear hK K
                      refine norm_ (a' := ?_) ?_ ?_
                      rotate_left
                      · show Act.put _ (some 17) _ = _
                        simp only [Act.put, List.setIfInBounds_toArray, List.set_cons_zero, List.set_cons_succ, i64_w, i32_w]
                        rfl
                      exact norm_ (by first | (simp only [putAll, Act.put, List.setIfInBounds_toArray, List.set_cons_zero, List.set_cons_succ]; done) | (simp only [putAll, Act.put, List.setIfInBounds_toArray, List.set_cons_zero, List.set_cons_succ]; rfl)) (hCont (g16, g17) _ L)
                    · skip
                      refine box_step ?hg (N := 17) ?hd (cs := #[.int .u8 0, .slice none 0 0, .slice none 0 0, .bool false, .slice none 0 0, .int .u8 0, .int .i64 0, .int .i64 0, .bool false, .int .u8 0]) (t := 27) ?hr ?_; (case hd => rfl); (case hg => rfl); (case hr => first | (go_simp; done) | (go_simp; rfl))
                      intro g17 hg w50 hbox hb
                      have L := L.more [(g3, _), (g4, _), (g11, _)] [] hg hbox hb
                      clear hbox hb hg
                      refine hK.out _ _ (L.get 0 rfl) (fun _ => ?_)
                      clear hK K
                      refine norm_ (a' := ?_) ?_ ?_
                      rotate_left
                      · show Act.put _ (some 17) _ = _
                        simp only [Act.put, List.setIfInBounds_toArray, List.set_cons_zero, List.set_cons_succ, i64_w, i32_w]
                        rfl
                      refine one_ (i := 2) (N := some 16) #[true, true, true, true, false, false] rfl rfl (by kernel_rfl) (by decide) (fun K hK => ?_)
                      refine box_step ?hg (N := 16) ?hd (cs := #[.int .u8 0, .slice none 0 0, .slice none 0 0, .bool false, .slice none 0 0, .int .u8 0, .int .i64 0, .int .i64 0, .bool false, .int .u8 0]) (t := 27) ?hr ?_; (case hd => rfl); (case hg => rfl); (case hr => first | (go_simp; done) | (go_simp; rfl))
                      intro g16 hg w50 hbox hb
                      have L := L.more [(g3, _), (g4, _), (g11, _)] [(g17, _)] hg hbox hb
                      clear hbox hb hg
                      refine hK.out _ _ (L.get 0 rfl) (fun _ => ?_)
                      clear hK K
                      refine norm_ (a' := ?_) ?_ ?_
                      rotate_left
                      · show Act.put _ (some 16) _ = _
                        simp only [Act.put, List.setIfInBounds_toArray, List.set_cons_zero, List.set_cons_succ, i64_w, i32_w]
                        rfl
                      exact norm_ (by first | (simp only [putAll, Act.put, List.setIfInBounds_toArray, List.set_cons_zero, List.set_cons_succ]; done) | (simp only [putAll, Act.put, List.setIfInBounds_toArray, List.set_cons_zero, List.set_cons_succ]; rfl)) (hCont (g16, g17) _ L)
                  clear L hHeld
                  rintro ⟨g16, g17⟩ w49 L
                  refine norm_ (a' := ?_) ?_ ?_
                  rotate_left
                  · simp only [putAll, Act.put, List.setIfInBounds_toArray, List.set_cons_zero, List.set_cons_succ]
                    rfl
                  refine one_ (i := 4) (N := none) #[true, true, true, true, true, false] rfl rfl (by kernel_rfl) (by decide) (fun K hK => ?_)
                  refine query_cells_ (L.get 3 rfl) fun ox0 ox1 ox2 ox3 ox4 ox5 ox6 ox7 ox8 ox9 of0 of1 of2 of3 of4 of5 of6 of7 of8 of9 => ?_
                  refine skip_ (w1 := ?_) (by rfl) rfl ?_ ?_
                  rotate_left
                  · go_simp
                    rfl
                  replace L := Lie.fill10 [(g3, _), (g4, _), (g11, _)] [(g17, _)] L (.int .u8 a) (.slice A1 l1.length c1) (.slice A2 l2.length c2) (.bool j) (.slice A4 l4.length c4) (.int .u8 p0) (.int .i64 p1) (.int .i64 p2) (.bool y) (.int .u8 t)
                  refine hK.out _ _ (L.get 0 rfl) (fun _ => ?_)
                  clear hK K ox0 ox1 ox2 ox3 ox4 ox5 ox6 ox7 ox8 ox9 of0 of1 of2 of3 of4 of5 of6 of7 of8 of9
                  refine gen_any (Lie w [(g3, .cells #[.int .u8 a, .slice A1 l1.length c1, .slice A2 l2.length c2, .bool j, .slice A4 l4.length c4, .int .u8 p0, .int .i64 p1, .int .i64 p2, .bool y, .int .u8 t] 27 (0, 0)), (g4, .cells #[.int .u8 b, .slice C1 m1.length e1, .slice C2 m2.length e2, .bool i, .slice C4 m4.length e4, .int .u8 r0, .int .i64 r1, .int .i64 r2, .bool z, .int .u8 u] 27 (0, 0)), (g11, .cells #[.int .u8 a, .slice B1 l1.length d1, .slice B2 l2.length d2, .bool j, .slice B4 l4.length d4, .int .u8 p0, .int .i64 p1, .int .i64 p2, .bool y, .int .u8 t] 27 (0, 0)), (g16, .cells #[.int .u8 a, .slice A1 l1.length c1, .slice A2 l2.length c2, .bool j, .slice A4 l4.length c4, .int .u8 p0, .int .i64 p1, .int .i64 p2, .bool y, .int .u8 t] 27 (0, 0)), (g17, Z27)]) L ?_
                  clear L
                  intro w60 L
                  refine one_ (i := 5) (N := none) #[true, true, true, true, true, true] rfl rfl (by kernel_rfl) (by decide) (fun K hK => ?_)
                  refine query_cells_ (L.get 4 rfl) fun ox0 ox1 ox2 ox3 ox4 ox5 ox6 ox7 ox8 ox9 of0 of1 of2 of3 of4 of5 of6 of7 of8 of9 => ?_
                  refine skip_ (w1 := ?_) (by rfl) rfl ?_ ?_
                  rotate_left
                  · go_simp
                    rfl
                  replace L := Lie.fill10 [(g3, _), (g4, _), (g11, _), (g16, _)] [] L (.int .u8 a) (.slice A1 l1.length c1) (.slice A2 l2.length c2) (.bool j) (.slice A4 l4.length c4) (.int .u8 p0) (.int .i64 p1) (.int .i64 p2) (.bool y) (.int .u8 t)
                  refine hK.out _ _ (L.get 0 rfl) (fun _ => ?_)
                  clear hK K ox0 ox1 ox2 ox3 ox4 ox5 ox6 ox7 ox8 ox9 of0 of1 of2 of3 of4 of5 of6 of7 of8 of9
                  refine gen_any (Lie w [(g3, .cells #[.int .u8 a, .slice A1 l1.length c1, .slice A2 l2.length c2, .bool j, .slice A4 l4.length c4, .int .u8 p0, .int .i64 p1, .int .i64 p2, .bool y, .int .u8 t] 27 (0, 0)), (g4, .cells #[.int .u8 b, .slice C1 m1.length e1, .slice C2 m2.length e2, .bool i, .slice C4 m4.length e4, .int .u8 r0, .int .i64 r1, .int .i64 r2, .bool z, .int .u8 u] 27 (0, 0)), (g11, .cells #[.int .u8 a, .slice B1 l1.length d1, .slice B2 l2.length d2, .bool j, .slice B4 l4.length d4, .int .u8 p0, .int .i64 p1, .int .i64 p2, .bool y, .int .u8 t] 27 (0, 0)), (g16, .cells #[.int .u8 a, .slice A1 l1.length c1, .slice A2 l2.length c2, .bool j, .slice A4 l4.length c4, .int .u8 p0, .int .i64 p1, .int .i64 p2, .bool y, .int .u8 t] 27 (0, 0)), (g17, .cells #[.int .u8 a, .slice A1 l1.length c1, .slice A2 l2.length c2, .bool j, .slice A4 l4.length c4, .int .u8 p0, .int .i64 p1, .int .i64 p2, .bool y, .int .u8 t] 27 (0, 0))]) L ?_
                  clear L
                  intro w61 L
                  refine done_ (by kernel_rfl) ?_
                  refine query_cells_ (L.get 0 rfl) fun ox0 ox1 ox2 ox3 ox4 ox5 ox6 ox7 ox8 ox9 of0 of1 of2 of3 of4 of5 of6 of7 of8 of9 => ?_
                  refine query_cells_ (L.get 3 rfl) fun ov0 ov1 ov2 ov3 ov4 ov5 ov6 ov7 ov8 ov9 oq0 oq1 oq2 oq3 oq4 oq5 oq6 oq7 oq8 oq9 => ?_
                  refine query_cells_ (L.get 4 rfl) fun oh0 oh1 oh2 oh3 oh4 oh5 oh6 oh7 oh8 oh9 ok0 ok1 ok2 ok3 ok4 ok5 ok6 ok7 ok8 ok9 => ?_
                  have hn1 := L.ne 3 4 rfl rfl (by decide)
                  have hn2 := L.ne 4 3 rfl rfl (by decide)
                  have hn3 := L.ne 0 3 rfl rfl (by decide)
                  have hn4 := L.ne 3 0 rfl rfl (by decide)
                  have hn5 := L.ne 0 4 rfl rfl (by decide)
                  have hn6 := L.ne 4 0 rfl rfl (by decide)
                  cases g with
                  | true =>
                    obtain rfl : g' = true := by have := N1.out; revert this; cases g' <;> simp
                    clear N1 N2
                    go_wp2_with (first | ((with_reducible refine gate_callee (f := 19) rfl ?_); have n_ : Lie w [(g3, .cells #[.int .u8 a, .slice A1 l1.length c1, .slice A2 l2.length c2, .bool j, .slice A4 l4.length c4, .int .u8 p0, .int .i64 p1, .int .i64 p2, .bool y, .int .u8 t] 27 (0, 0)), (g4, .cells #[.int .u8 b, .slice C1 m1.length e1, .slice C2 m2.length e2, .bool i, .slice C4 m4.length e4, .int .u8 r0, .int .i64 r1, .int .i64 r2, .bool z, .int .u8 u] 27 (0, 0)), (g11, .cells #[.int .u8 a, .slice B1 l1.length d1, .slice B2 l2.length d2, .bool j, .slice B4 l4.length d4, .int .u8 p0, .int .i64 p1, .int .i64 p2, .bool y, .int .u8 t] 27 (0, 0)), (g16, .cells #[.int .u8 a, .slice A1 l1.length c1, .slice A2 l2.length c2, .bool j, .slice A4 l4.length c4, .int .u8 p0, .int .i64 p1, .int .i64 p2, .bool (!y), .int .u8 t] 27 (0, 0)), (g17, .cells #[.int .u8 a, .slice A1 l1.length c1, .slice A2 l2.length c2, .bool j, .slice A4 l4.length c4, .int .u8 p0, .int .i64 p1, .int .i64 p2, .bool y, .int .u8 ((3 - t) % 256)] 27 (0, 0))] _ := (L.put [(g3, _), (g4, _), (g11, _)] [(g17, _)] 8 (.bool (!y))).put [(g3, _), (g4, _), (g11, _), (g16, _)] [] 9 (.int .u8 ((3 - t) % 256)); refine goesL_ (some 106) rfl rfl Try.func19 (by kernel_rfl) rfl #[.agg #[.int .u8 a, .slice A1 l1.length c1, .slice A2 l2.length c2, .bool j, .slice A4 l4.length c4, .int .u8 p0, .int .i64 p1, .int .i64 p2, .bool y, .int .u8 t], .agg #[.int .u8 a, .slice A1 l1.length c1, .slice A2 l2.length c2, .bool j, .slice A4 l4.length c4, .int .u8 p0, .int .i64 p1, .int .i64 p2, .bool (!y), .int .u8 t]] rfl (by (try simp only [List.map_toArray, List.map_cons, List.map_nil]); first | done | rfl | (simp only [List.length_drop, List.length_take]; rfl)) ?_; refine (call19 (O1.step n_.bel) (O1.step n_.bel) EK.out).mono ?_; rintro e w106 ⟨rfl, hb⟩; refine ⟨_, rfl, ?_⟩; replace L := n_.step hb; clear n_ hb; refine query_cells_ (L.get 0 rfl) fun ox0 ox1 ox2 ox3 ox4 ox5 ox6 ox7 ox8 ox9 of0 of1 of2 of3 of4 of5 of6 of7 of8 of9 => ?_; refine query_cells_ (L.get 4 rfl) fun oh0 oh1 oh2 oh3 oh4 oh5 oh6 oh7 oh8 oh9 ok0 ok1 ok2 ok3 ok4 ok5 ok6 ok7 ok8 ok9 => ?_) | ((with_reducible refine gate_callee (f := 19) rfl ?_); refine goesL_ (some 112) rfl rfl Try.func19 (by kernel_rfl) rfl #[.agg #[.int .u8 a, .slice A1 l1.length c1, .slice A2 l2.length c2, .bool j, .slice A4 l4.length c4, .int .u8 p0, .int .i64 p1, .int .i64 p2, .bool y, .int .u8 t], .agg #[.int .u8 a, .slice A1 l1.length c1, .slice A2 l2.length c2, .bool j, .slice A4 l4.length c4, .int .u8 p0, .int .i64 p1, .int .i64 p2, .bool y, .int .u8 ((3 - t) % 256)]] rfl (by (try simp only [List.map_toArray, List.map_cons, List.map_nil]); first | done | rfl | (simp only [List.length_drop, List.length_take]; rfl)) ?_; refine (call19 (O1.step L.bel) (O1.step L.bel) EL.out).mono ?_; rintro e w112 ⟨rfl, hb⟩; refine ⟨_, rfl, ?_⟩; replace L := L.step hb; clear hb; refine query_cells_ (L.get 0 rfl) fun ox0 ox1 ox2 ox3 ox4 ox5 ox6 ox7 ox8 ox9 of0 of1 of2 of3 of4 of5 of6 of7 of8 of9 => ?_; refine query_cells_ (L.get 1 rfl) fun ov0 ov1 ov2 ov3 ov4 ov5 ov6 ov7 ov8 ov9 oq0 oq1 oq2 oq3 oq4 oq5 oq6 oq7 oq8 oq9 => ?_) | (go_at_call 21; (with_reducible refine (call21 (O1.step L.bel) (O2.step L.bel) EE.out).mono ?_); rintro e w21 ⟨rfl, hb⟩; replace L := L.step hb; clear hb) | (go_at_call 18; (with_reducible refine (tailwaterlaw08_alive.calls 500 true _ Pure.alive500).mono ?_); rintro e w22 ⟨rfl, hb⟩; replace L := L.step hb; clear hb))
                    go_ret
                    exact ⟨by first | rfl | (simp [*]; done), L.bel⟩
                  | false =>
                    obtain rfl : g' = false := by have := N1.out; revert this; cases g' <;> simp
                    obtain rfl : r = false := N2.out rfl
                    clear N1 N2
                    go_wp2_with (first | ((with_reducible refine gate_callee (f := 19) rfl ?_); have n_ : Lie w [(g3, .cells #[.int .u8 a, .slice A1 l1.length c1, .slice A2 l2.length c2, .bool j, .slice A4 l4.length c4, .int .u8 p0, .int .i64 p1, .int .i64 p2, .bool y, .int .u8 t] 27 (0, 0)), (g4, .cells #[.int .u8 b, .slice C1 m1.length e1, .slice C2 m2.length e2, .bool i, .slice C4 m4.length e4, .int .u8 r0, .int .i64 r1, .int .i64 r2, .bool z, .int .u8 u] 27 (0, 0)), (g11, .cells #[.int .u8 a, .slice B1 l1.length d1, .slice B2 l2.length d2, .bool j, .slice B4 l4.length d4, .int .u8 p0, .int .i64 p1, .int .i64 p2, .bool y, .int .u8 t] 27 (0, 0)), (g16, .cells #[.int .u8 a, .slice A1 l1.length c1, .slice A2 l2.length c2, .bool j, .slice A4 l4.length c4, .int .u8 p0, .int .i64 p1, .int .i64 p2, .bool (!y), .int .u8 t] 27 (0, 0)), (g17, .cells #[.int .u8 a, .slice A1 l1.length c1, .slice A2 l2.length c2, .bool j, .slice A4 l4.length c4, .int .u8 p0, .int .i64 p1, .int .i64 p2, .bool y, .int .u8 ((3 - t) % 256)] 27 (0, 0))] _ := (L.put [(g3, _), (g4, _), (g11, _)] [(g17, _)] 8 (.bool (!y))).put [(g3, _), (g4, _), (g11, _), (g16, _)] [] 9 (.int .u8 ((3 - t) % 256)); refine goesL_ (some 106) rfl rfl Try.func19 (by kernel_rfl) rfl #[.agg #[.int .u8 a, .slice A1 l1.length c1, .slice A2 l2.length c2, .bool j, .slice A4 l4.length c4, .int .u8 p0, .int .i64 p1, .int .i64 p2, .bool y, .int .u8 t], .agg #[.int .u8 a, .slice A1 l1.length c1, .slice A2 l2.length c2, .bool j, .slice A4 l4.length c4, .int .u8 p0, .int .i64 p1, .int .i64 p2, .bool (!y), .int .u8 t]] rfl (by (try simp only [List.map_toArray, List.map_cons, List.map_nil]); first | done | rfl | (simp only [List.length_drop, List.length_take]; rfl)) ?_; refine (call19 (O1.step n_.bel) (O1.step n_.bel) EK.out).mono ?_; rintro e w106 ⟨rfl, hb⟩; refine ⟨_, rfl, ?_⟩; replace L := n_.step hb; clear n_ hb; refine query_cells_ (L.get 0 rfl) fun ox0 ox1 ox2 ox3 ox4 ox5 ox6 ox7 ox8 ox9 of0 of1 of2 of3 of4 of5 of6 of7 of8 of9 => ?_; refine query_cells_ (L.get 4 rfl) fun oh0 oh1 oh2 oh3 oh4 oh5 oh6 oh7 oh8 oh9 ok0 ok1 ok2 ok3 ok4 ok5 ok6 ok7 ok8 ok9 => ?_) | ((with_reducible refine gate_callee (f := 19) rfl ?_); refine goesL_ (some 112) rfl rfl Try.func19 (by kernel_rfl) rfl #[.agg #[.int .u8 a, .slice A1 l1.length c1, .slice A2 l2.length c2, .bool j, .slice A4 l4.length c4, .int .u8 p0, .int .i64 p1, .int .i64 p2, .bool y, .int .u8 t], .agg #[.int .u8 a, .slice A1 l1.length c1, .slice A2 l2.length c2, .bool j, .slice A4 l4.length c4, .int .u8 p0, .int .i64 p1, .int .i64 p2, .bool y, .int .u8 ((3 - t) % 256)]] rfl (by (try simp only [List.map_toArray, List.map_cons, List.map_nil]); first | done | rfl | (simp only [List.length_drop, List.length_take]; rfl)) ?_; refine (call19 (O1.step L.bel) (O1.step L.bel) EL.out).mono ?_; rintro e w112 ⟨rfl, hb⟩; refine ⟨_, rfl, ?_⟩; replace L := L.step hb; clear hb; refine query_cells_ (L.get 0 rfl) fun ox0 ox1 ox2 ox3 ox4 ox5 ox6 ox7 ox8 ox9 of0 of1 of2 of3 of4 of5 of6 of7 of8 of9 => ?_; refine query_cells_ (L.get 1 rfl) fun ov0 ov1 ov2 ov3 ov4 ov5 ov6 ov7 ov8 ov9 oq0 oq1 oq2 oq3 oq4 oq5 oq6 oq7 oq8 oq9 => ?_) | (go_at_call 21; (with_reducible refine (call21 (O1.step L.bel) (O2.step L.bel) EE.out).mono ?_); rintro e w21 ⟨rfl, hb⟩; replace L := L.step hb; clear hb) | (go_at_call 18; (with_reducible refine (tailwaterlaw08_alive.calls 500 true _ Pure.alive500).mono ?_); rintro e w22 ⟨rfl, hb⟩; replace L := L.step hb; clear hb))
                    go_ret
                    exact ⟨by first | rfl | (simp [*]; done), L.bel⟩
end SameLaw
end Go.Proofs.Ytpkamfjkmbakhaa.G
