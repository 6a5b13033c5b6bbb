/- The walk of ClausesReplace: a valid query with another part in the place of one. Nothing is assumed. -/
import Derived.Test.YtpkamfjkmbakhaaGCall
import Derived.Test.YtpkamfjkmbakhaaGPure9
namespace Go.Proofs.Ytpkamfjkmbakhaa.G
open Go.RowKit Go.Proofs.YtpkamfjkmbakhaaW.PrintWords Go.Proofs.YtpkamfjkmbakhaaW.PrintLast Go.Proofs.YtpkamfjkmbakhaaW.PrintMore
attribute [local go_sem] max2_int min2_int max_two min_two max_three min_three max_four min_four
set_option linter.unusedVariables false
set_option linter.unusedSimpArgs false

namespace Replace
def T5 : Bool × List (List Nat × List Nat) := (true, [([], []), ([], []), ([], []), ([], []), ([], []), ([], []), ([], []), ([], []), ([4, 0, 0, 4, 5, 6, 7], [0, 4]), ([5, 1, 8, 0, 1, 4, 5, 6, 7, 8], [1, 5]), ([6, 2, 9, 0, 1, 2, 4, 5, 6, 7, 8, 9], [2, 6]), ([7, 3, 10, 0, 1, 2, 3, 4, 5, 6, 7, 8, 9, 10], [3, 7])])
def B5 : List Nat := [0, 0, 0, 0, 0, 0, 0, 0, 241, 499, 1015, 2047]
theorem tab5 : rtab .any (opsOf Try.f12 5) = T5 := by kernel_rfl
theorem bits5 : waitsOk T5.2 B5 = true := by kernel_rfl
def T9 : Bool × List (List Nat × List Nat) := (true, [([], []), ([0], [0]), ([], []), ([2, 1], [2]), ([1, 3], [1, 3]), ([4, 3], [4]), ([5], [5]), ([6, 5, 5], [5, 6]), ([5], [5]), ([8, 7, 5], [5, 8]), ([7, 9, 5], [5, 7, 9]), ([5, 10], [5, 10]), ([11, 9], [11]), ([12], [12]), ([13, 12, 12], [12, 13]), ([12], [12]), ([14, 15, 12], [12, 14, 15]), ([12, 16], [12, 16])])
def B9 : List Nat := [0, 1, 0, 7, 15, 31, 63, 127, 63, 511, 1023, 2047, 4095, 8191, 16383, 8191, 65535, 131071]
theorem tab9 : rtab .any (opsOf Try.f12 9) = T9 := by kernel_rfl
theorem bits9 : waitsOk T9.2 B9 = true := by kernel_rfl
abbrev Z27 : Obj := .cells #[.int .u8 0, .slice none 0 0, .slice none 0 0, .bool false, .slice none 0 0, .int .u8 0, .int .i64 0, .int .i64 0, .bool false, .int .u8 0] 27 (0, 0)
set_option maxHeartbeats 8000000 in
set_option maxRecDepth 100000 in
theorem walk (a : Int) (A1 : Option Addr) (c1 : Nat) (l1 : List S36) (A2 : Option Addr) (c2 : Nat) (l2 : List Int) (j : Bool) (A4 : Option Addr) (c4 : Nat) (l4 : List S36) (p0 p1 p2 : Int) (y : Bool) (t : Int) (v0 v1 v2 : Int) (A5 : Option Addr) (c5 : Nat) (l5 : List Int) (A6 : Option Addr) (c6 : Nat) (l6 : List S36) (w : World)
    (h1 : Kd.C k36 w A1 l1.length l1) (d1 : l1.length ≤ c1) (h2 : Kd.C (Kd.int .i64) w A2 l2.length l2) (d2 : l2.length ≤ c2) (h4 : Kd.C k36 w A4 l4.length l4) (d4 : l4.length ≤ c4) (h5 : Kd.C (Kd.int .i64) w A5 l5.length l5) (d5 : l5.length ≤ c5) (h6 : Kd.C k36 w A6 l6.length l6) (d6 : l6.length ≤ c6) :
    Calls Try.prog 12 #[.agg #[.int .u8 a, .slice A1 l1.length c1, .slice A2 l2.length c2, .bool j, .slice A4 l4.length c4, .int .u8 p0, .int .i64 p1, .int .i64 p2, .bool y, .int .u8 t], .agg #[.int .u8 v0, .int .i64 v1, .int .i64 v2], .slice A5 l5.length c5, .slice A6 l6.length c6] w fun e w' => e = .returned (.bool true) ∧ Below w.heap.size w w' := by
  have hu27 := Try.underlying27
  have hu25 := Try.underlying25
  have O : QOk w A1 c1 l1 A2 c2 l2 A4 c4 l4 := ⟨h1, d1, h2, d2, h4, d4⟩
  have OB : QOk w A1 c1 l1 A5 c5 l5 A4 c4 l4 := ⟨h1, d1, h5, d5, h4, d4⟩
  have OC : QOk w A1 c1 l1 A2 c2 l2 A6 c6 l6 := ⟨h1, d1, h2, d2, h6, d6⟩
  have OD : QOk w A6 c6 l6 A2 c2 l2 A4 c4 l4 := ⟨h6, d6, h2, d2, h4, d4⟩
  have L := Lie.nil (Below.refl w.heap.size w)
  have H5 := Aside0.mk (And.intro h5 d5)
  have H6 := Aside0.mk (And.intro h6 d6)
  clear h1 d1 h2 d2 h4 d4 h5 d5 h6 d6
  have GR := Aside0.mk (Pure.great_query a l1 l2 j l4 p0 p1 p2 y t)
  go_enter Try.func12, Try.ntmps12
  go_upto_region 1 with (first | ((with_reducible refine gate_dst (N := 4) rfl ?_); (try (refine gate_guard (by rfl) ?_; dsimp only)); refine box_event ?hg (N := 4) ?hd (cs := #[.int .u8 a, .slice A1 l1.length c1, .slice A2 l2.length c2, .bool j, .slice A4 l4.length c4, .int .u8 p0, .int .i64 p1, .int .i64 p2, .bool y, .int .u8 t]) (t := 27) ?hr ?_; (case hd => rfl); (case hg => rfl); (case hr => first | (go_simp; done) | (go_simp; rfl)); intro g4 hg W4 hbox hb; replace L := L.more [] [] hg hbox hb; clear hg hbox hb) | ((with_reducible refine gate_dst (N := 5) rfl ?_); (try (refine gate_guard (by rfl) ?_; dsimp only)); refine box_event ?hg (N := 5) ?hd (cs := #[.int .u8 v0, .int .i64 v1, .int .i64 v2]) (t := 25) ?hr ?_; (case hd => rfl); (case hg => rfl); (case hr => first | (go_simp; done) | (go_simp; rfl)); intro g5 hg W5 hbox hb; replace L := L.more [(g4, _)] [] hg hbox hb; clear hg hbox hb))
  (try simp only [Act.put, List.setIfInBounds_toArray, List.set_cons_zero, List.set_cons_succ])
  go_cut [33] (fun v33 wc => ∃ x : Bool, v33 = .bool x ∧ Aside0 (x = false → (l1.length ≤ 70 ∧ l4.length ≤ 70 ∧ j = false ∧ Pure.qchk a l1 l2 j l4 p0 p1 p2 t = 0 ∧ l6.length ≤ 70)) ∧ Lie w [(g4, .cells #[.int .u8 a, .slice A1 l1.length c1, .slice A2 l2.length c2, .bool j, .slice A4 l4.length c4, .int .u8 p0, .int .i64 p1, .int .i64 p2, .bool y, .int .u8 t] 27 (0, 0)), (g5, .cells #[.int .u8 v0, .int .i64 v1, .int .i64 v2] 25 (0, 0))] wc)
  case first =>
    obtain ⟨r, eG, hr⟩ := GR.out
    have EG := Aside0.mk eG
    clear eG GR
    cases r with
    | true =>
      clear hr
      refine query_cells_ (L.get 0 rfl) fun z0 z1 z2 z3 z4 z5 z6 z7 z8 z9 f0 f1 f2 f3 f4 f5 f6 f7 f8 f9 => ?_
      go_wp2_with (first | ((with_reducible refine gate_callee (f := 16) rfl ?_); refine goesL_ (some 15) rfl rfl Try.func16 (by kernel_rfl) rfl #[.agg #[.int .u8 a, .slice A1 l1.length c1, .slice A2 l2.length c2, .bool j, .slice A4 l4.length c4, .int .u8 p0, .int .i64 p1, .int .i64 p2, .bool y, .int .u8 t]] rfl (by (try simp only [List.map_toArray, List.map_cons, List.map_nil]); first | done | rfl | (simp only [List.length_drop, List.length_take]; rfl)) ?_; refine (call16 O L.bel EG.out).mono ?_; rintro e w16 ⟨rfl, hb⟩; refine ⟨_, rfl, ?_⟩; replace L := L.step hb; clear hb; refine query_cells_ (L.get 0 rfl) fun y0 y1 y2 y3 y4 y5 y6 y7 y8 y9 q0 q1 q2 q3 q4 q5 q6 q7 q8 q9 => ?_))
      go_meet
      case rel => exact ⟨true, (by first | rfl | (simp; done) | (simp [*]; done)), ⟨fun h => absurd h (by simp)⟩, L⟩
    | false =>
      have HS := Aside0.mk (hr.1 rfl)
      clear hr
      cases j with
      | true =>
        refine query_cells_ (L.get 0 rfl) fun z0 z1 z2 z3 z4 z5 z6 z7 z8 z9 f0 f1 f2 f3 f4 f5 f6 f7 f8 f9 => ?_
        go_wp2_with (first | ((with_reducible refine gate_callee (f := 16) rfl ?_); refine goesL_ (some 15) rfl rfl Try.func16 (by kernel_rfl) rfl #[.agg #[.int .u8 a, .slice A1 l1.length c1, .slice A2 l2.length c2, .bool true, .slice A4 l4.length c4, .int .u8 p0, .int .i64 p1, .int .i64 p2, .bool y, .int .u8 t]] rfl (by (try simp only [List.map_toArray, List.map_cons, List.map_nil]); first | done | rfl | (simp only [List.length_drop, List.length_take]; rfl)) ?_; refine (call16 O L.bel EG.out).mono ?_; rintro e w16 ⟨rfl, hb⟩; refine ⟨_, rfl, ?_⟩; replace L := L.step hb; clear hb; refine query_cells_ (L.get 0 rfl) fun y0 y1 y2 y3 y4 y5 y6 y7 y8 y9 q0 q1 q2 q3 q4 q5 q6 q7 q8 q9 => ?_))
        go_meet
        case rel => exact ⟨true, (by first | rfl | (simp; done) | (simp [*]; done)), ⟨fun h => absurd h (by simp)⟩, L⟩
      | false =>
        obtain ⟨t17, e17, h17⟩ : ∃ z, tailwaterref08_Check.f 500 a l1 l2 false l4 p0 p1 p2 y t = some z ∧ z = Pure.qchk a l1 l2 false l4 p0 p1 p2 t := ⟨_, Pure.rcheck500 _ _ _ _ _ _ _ _ _ _ HS.out.1 HS.out.2.1, rfl⟩
        have EC := Aside0.mk e17
        have H17 := Aside0.mk h17
        clear e17 h17
        by_cases hq : t17 = 0
        · have c0 : (t17 != 0) = false := bne_eq_false_iff_eq.mpr hq
          have HQ := Aside0.mk hq
          clear hq
          by_cases hl : (l5.length : Int) > 10
          · have c1b : decide (10 < (l5.length : Int)) = true := decide_eq_true hl
            have c2b : decide (10 < l5.length) = true := decide_eq_true (by omega)
            clear hl
            refine query_cells_ (L.get 0 rfl) fun z0 z1 z2 z3 z4 z5 z6 z7 z8 z9 f0 f1 f2 f3 f4 f5 f6 f7 f8 f9 => ?_
            go_wp2_with (first | ((with_reducible refine gate_callee (f := 16) rfl ?_); refine goesL_ (some 15) rfl rfl Try.func16 (by kernel_rfl) rfl #[.agg #[.int .u8 a, .slice A1 l1.length c1, .slice A2 l2.length c2, .bool false, .slice A4 l4.length c4, .int .u8 p0, .int .i64 p1, .int .i64 p2, .bool y, .int .u8 t]] rfl (by (try simp only [List.map_toArray, List.map_cons, List.map_nil]); first | done | rfl | (simp only [List.length_drop, List.length_take]; rfl)) ?_; refine (call16 O L.bel EG.out).mono ?_; rintro e w16 ⟨rfl, hb⟩; refine ⟨_, rfl, ?_⟩; replace L := L.step hb; clear hb; refine query_cells_ (L.get 0 rfl) fun y0 y1 y2 y3 y4 y5 y6 y7 y8 y9 q0 q1 q2 q3 q4 q5 q6 q7 q8 q9 => ?_) | (go_at_call 17; refine (call17 O L.bel EC.out).mono ?_; rintro e w17 ⟨rfl, hb⟩; replace L := L.step hb; clear hb; refine query_cells_ (L.get 0 rfl) fun u0 u1 u2 u3 u4 u5 u6 u7 u8 u9 s0 s1 s2 s3 s4 s5 s6 s7 s8 s9 => ?_))
            go_meet
            case rel => exact ⟨true, (by first | rfl | (simp; done) | (simp [*]; done)), ⟨fun h => absurd h (by simp)⟩, L⟩
          · have c1b : decide (10 < (l5.length : Int)) = false := decide_eq_false hl
            have c2b : decide (10 < l5.length) = false := decide_eq_false (by omega)
            clear hl
            refine query_cells_ (L.get 0 rfl) fun z0 z1 z2 z3 z4 z5 z6 z7 z8 z9 f0 f1 f2 f3 f4 f5 f6 f7 f8 f9 => ?_
            go_wp2_with (first | ((with_reducible refine gate_callee (f := 16) rfl ?_); refine goesL_ (some 15) rfl rfl Try.func16 (by kernel_rfl) rfl #[.agg #[.int .u8 a, .slice A1 l1.length c1, .slice A2 l2.length c2, .bool false, .slice A4 l4.length c4, .int .u8 p0, .int .i64 p1, .int .i64 p2, .bool y, .int .u8 t]] rfl (by (try simp only [List.map_toArray, List.map_cons, List.map_nil]); first | done | rfl | (simp only [List.length_drop, List.length_take]; rfl)) ?_; refine (call16 O L.bel EG.out).mono ?_; rintro e w16 ⟨rfl, hb⟩; refine ⟨_, rfl, ?_⟩; replace L := L.step hb; clear hb; refine query_cells_ (L.get 0 rfl) fun y0 y1 y2 y3 y4 y5 y6 y7 y8 y9 q0 q1 q2 q3 q4 q5 q6 q7 q8 q9 => ?_) | (go_at_call 17; refine (call17 O L.bel EC.out).mono ?_; rintro e w17 ⟨rfl, hb⟩; replace L := L.step hb; clear hb; refine query_cells_ (L.get 0 rfl) fun u0 u1 u2 u3 u4 u5 u6 u7 u8 u9 s0 s1 s2 s3 s4 s5 s6 s7 s8 s9 => ?_) | (go_at_call 33; refine (tailwaterref04_Great.calls _ _ l6 (decide (l6.length > 70)) _ (Kd.C_below H6.out.1 L.bel) H6.out.2 (Pure.great_one l6)).mono ?_; rintro e w' ⟨rfl, ⟨nd, rfl⟩⟩; replace L := L.drewN nd))
            go_meet
            case rel => exact ⟨decide (l6.length > 70), (by first | rfl | (simp; done) | (simp [*]; done)), ⟨fun h => ⟨HS.out.1, HS.out.2.1, (by trivial), H17.out.symm.trans HQ.out, by simpa using h⟩⟩, L⟩
        · have c0 : (t17 != 0) = true := bne_iff_ne.mpr hq
          clear hq
          refine query_cells_ (L.get 0 rfl) fun z0 z1 z2 z3 z4 z5 z6 z7 z8 z9 f0 f1 f2 f3 f4 f5 f6 f7 f8 f9 => ?_
          go_wp2_with (first | ((with_reducible refine gate_callee (f := 16) rfl ?_); refine goesL_ (some 15) rfl rfl Try.func16 (by kernel_rfl) rfl #[.agg #[.int .u8 a, .slice A1 l1.length c1, .slice A2 l2.length c2, .bool false, .slice A4 l4.length c4, .int .u8 p0, .int .i64 p1, .int .i64 p2, .bool y, .int .u8 t]] rfl (by (try simp only [List.map_toArray, List.map_cons, List.map_nil]); first | done | rfl | (simp only [List.length_drop, List.length_take]; rfl)) ?_; refine (call16 O L.bel EG.out).mono ?_; rintro e w16 ⟨rfl, hb⟩; refine ⟨_, rfl, ?_⟩; replace L := L.step hb; clear hb; refine query_cells_ (L.get 0 rfl) fun y0 y1 y2 y3 y4 y5 y6 y7 y8 y9 q0 q1 q2 q3 q4 q5 q6 q7 q8 q9 => ?_) | (go_at_call 17; refine (call17 O L.bel EC.out).mono ?_; rintro e w17 ⟨rfl, hb⟩; replace L := L.step hb; clear hb; refine query_cells_ (L.get 0 rfl) fun u0 u1 u2 u3 u4 u5 u6 u7 u8 u9 s0 s1 s2 s3 s4 s5 s6 s7 s8 s9 => ?_))
          go_meet
          case rel => exact ⟨true, (by first | rfl | (simp; done) | (simp [*]; done)), ⟨fun h => absurd h (by simp)⟩, L⟩
  case rest =>
    clear GR
    obtain ⟨x, rfl, HX, L⟩ := hcut
    cases x with
    | true =>
      clear HX
      go_wp2_with (first | ((with_reducible refine gate_callee (f := 18) rfl ?_); refine goesL_ (some 34) rfl rfl Try.func18 (by kernel_rfl) rfl #[] rfl (by (try simp only [List.map_toArray, List.map_cons, List.map_nil]); first | done | rfl | (simp only [List.length_drop, List.length_take]; rfl)) ?_; refine (tailwaterlaw08_alive.calls 500 true _ Pure.alive500).mono ?_; rintro e w18 ⟨rfl, hb⟩; refine ⟨_, rfl, ?_⟩; replace L := L.step hb; clear hb))
      go_ret
      exact ⟨by first | rfl | (simp [*]; done), L.bel⟩
    | false =>
      obtain ⟨s1, s4, rfl, hq, s6⟩ := HX.out rfl
      clear HX
      obtain ⟨e0, ta, tw, tb, ts, td, te, tc, ea, ew, n1, eb, es, n2, ed, ee, n3, ec, n4, n5⟩ := Pure.replace_all (y := y) s1 s4 hq v0 v1 v2 l5 l6 s6
      have E0_ := Aside0.mk e0
      have EA_ := Aside0.mk ea
      have EW_ := Aside0.mk ew
      have EB_ := Aside0.mk eb
      have ES_ := Aside0.mk es
      have ED_ := Aside0.mk ed
      have EE_ := Aside0.mk ee
      have EC_ := Aside0.mk ec
      have N4_ := Aside0.mk n4
      have N5_ := Aside0.mk n5
      clear e0 ea ew eb es ed ee ec n4 n5 s1 s4 hq s6
      refine query_cells_ (L.get 0 rfl) fun z0 z1 z2 z3 z4 z5 z6 z7 z8 z9 f0 f1 f2 f3 f4 f5 f6 f7 f8 f9 => ?_
      try go_wp2_with (first | ((with_reducible refine gate_callee (f := 26) rfl ?_); refine goesL_ (some 36) rfl rfl Try.func26 (by kernel_rfl) rfl #[.agg #[.int .u8 a, .slice A1 l1.length c1, .slice A2 l2.length c2, .bool false, .slice A4 l4.length c4, .int .u8 p0, .int .i64 p1, .int .i64 p2, .bool y, .int .u8 t]] rfl (by (try simp only [List.map_toArray, List.map_cons, List.map_nil]); first | done | rfl | (simp only [List.length_drop, List.length_take]; rfl)) ?_; refine (call26 O L.bel E0_.out).mono ?_; rintro e w26 ⟨rfl, hb⟩; refine ⟨_, rfl, ?_⟩; replace L := L.step hb; clear hb))
      clear z0 z1 z2 z3 z4 z5 z6 z7 z8 z9 f0 f1 f2 f3 f4 f5 f6 f7 f8 f9
      refine start_ (n := 12) (S := fun w' => w'.heap[g4]? = some (.cells #[.int .u8 a, .slice A1 l1.length c1, .slice A2 l2.length c2, .bool false, .slice A4 l4.length c4, .int .u8 p0, .int .i64 p1, .int .i64 p2, .bool y, .int .u8 t] 27 (0, 0))) (ds := []) #[false, false, false, false, false, false, false, false, false, false, false, false] (by kernel_rfl) rfl rfl (L.drew.get 0 rfl) (fun hHeld => ?_); refine with_tabW tab5 bits5 (fun HT_ HW_ => ?_)
      replace L := L.drew
      generalize w26.drew = w27 at L hHeld ⊢
      refine take_ (i := 0) (N := some 38) (v := ?_) (a' := ?_) #[true, false, false, false, false, false, false, false, false, false, false, false] rfl rfl (take_ofW HT_.out HW_.out (by kernel_rfl)) (fun _ _ _ h => h) (Or.inl ⟨by rfl, ?_⟩) hHeld ?_ ?_
      rotate_left
      · intro w' hS
        refine query_cells_ (hS) fun z0 z1 z2 z3 z4 z5 z6 z7 z8 z9 f0 f1 f2 f3 f4 f5 f6 f7 f8 f9 => ?_
        go_simp
        with_reducible rfl
      rotate_left
      · simp only [Act.put, List.setIfInBounds_toArray, List.set_cons_zero, List.set_cons_succ, i64_w, i32_w]
        rfl
      refine take_ (i := 1) (N := some 39) (v := ?_) (a' := ?_) #[true, true, false, false, false, false, false, false, false, false, false, false] rfl rfl (take_ofW HT_.out HW_.out (by kernel_rfl)) (fun _ _ _ h => h) (Or.inl ⟨by rfl, ?_⟩) hHeld ?_ ?_
      rotate_left
      · intro w' hS
        refine query_cells_ (hS) fun z0 z1 z2 z3 z4 z5 z6 z7 z8 z9 f0 f1 f2 f3 f4 f5 f6 f7 f8 f9 => ?_
        go_simp
        with_reducible rfl
      rotate_left
      · simp only [Act.put, List.setIfInBounds_toArray, List.set_cons_zero, List.set_cons_succ, i64_w, i32_w]
        rfl
      refine take_ (i := 2) (N := some 40) (v := ?_) (a' := ?_) #[true, true, true, false, false, false, false, false, false, false, false, false] rfl rfl (take_ofW HT_.out HW_.out (by kernel_rfl)) (fun _ _ _ h => h) (Or.inl ⟨by rfl, ?_⟩) hHeld ?_ ?_
      rotate_left
      · intro w' hS
        refine query_cells_ (hS) fun z0 z1 z2 z3 z4 z5 z6 z7 z8 z9 f0 f1 f2 f3 f4 f5 f6 f7 f8 f9 => ?_
        go_simp
        with_reducible rfl
      rotate_left
      · simp only [Act.put, List.setIfInBounds_toArray, List.set_cons_zero, List.set_cons_succ, i64_w, i32_w]
        rfl
      refine take_ (i := 3) (N := some 41) (v := ?_) (a' := ?_) #[true, true, true, true, false, false, false, false, false, false, false, false] rfl rfl (take_ofW HT_.out HW_.out (by kernel_rfl)) (fun _ _ _ h => h) (Or.inl ⟨by rfl, ?_⟩) hHeld ?_ ?_
      rotate_left
      · intro w' hS
        refine query_cells_ (hS) fun z0 z1 z2 z3 z4 z5 z6 z7 z8 z9 f0 f1 f2 f3 f4 f5 f6 f7 f8 f9 => ?_
        go_simp
        with_reducible rfl
      rotate_left
      · simp only [Act.put, List.setIfInBounds_toArray, List.set_cons_zero, List.set_cons_succ, i64_w, i32_w]
        rfl
      refine join_ (σ := Nat × Nat × Nat × Nat) 4 #[true, true, true, true, true, true, true, true, false, false, false, false] (fun s_ => [(9, .pointer (some ⟨s_.1, 0, none⟩)), (10, .pointer (some ⟨s_.2.1, 0, none⟩)), (11, .pointer (some ⟨s_.2.2.1, 0, none⟩)), (12, .pointer (some ⟨s_.2.2.2, 0, none⟩))]) (fun s_ w' => Lie w [(g4, .cells #[.int .u8 a, .slice A1 l1.length c1, .slice A2 l2.length c2, .bool false, .slice A4 l4.length c4, .int .u8 p0, .int .i64 p1, .int .i64 p2, .bool y, .int .u8 t] 27 (0, 0)), (g5, .cells #[.int .u8 v0, .int .i64 v1, .int .i64 v2] 25 (0, 0)), (s_.1, Z27), (s_.2.1, Z27), (s_.2.2.1, Z27), (s_.2.2.2, Z27)] w') ?_ ?_
      rotate_left
      · intro hJ0_1_2_3
        refine join_ (σ := Nat × Nat × Nat) 5 #[true, true, true, true, true, true, true, false, false, false, false, false] (fun s_ => [(9, .pointer (some ⟨s_.1, 0, none⟩)), (10, .pointer (some ⟨s_.2.1, 0, none⟩)), (11, .pointer (some ⟨s_.2.2, 0, none⟩))]) (fun s_ w' => Lie w [(g4, .cells #[.int .u8 a, .slice A1 l1.length c1, .slice A2 l2.length c2, .bool false, .slice A4 l4.length c4, .int .u8 p0, .int .i64 p1, .int .i64 p2, .bool y, .int .u8 t] 27 (0, 0)), (g5, .cells #[.int .u8 v0, .int .i64 v1, .int .i64 v2] 25 (0, 0)), (s_.1, Z27), (s_.2.1, Z27), (s_.2.2, Z27)] w') ?_ ?_
        rotate_left
        · intro hJ0_1_2
          refine join_ (σ := Nat × Nat × Nat) 5 #[true, true, true, true, true, true, false, true, false, false, false, false] (fun s_ => [(9, .pointer (some ⟨s_.1, 0, none⟩)), (10, .pointer (some ⟨s_.2.1, 0, none⟩)), (12, .pointer (some ⟨s_.2.2, 0, none⟩))]) (fun s_ w' => Lie w [(g4, .cells #[.int .u8 a, .slice A1 l1.length c1, .slice A2 l2.length c2, .bool false, .slice A4 l4.length c4, .int .u8 p0, .int .i64 p1, .int .i64 p2, .bool y, .int .u8 t] 27 (0, 0)), (g5, .cells #[.int .u8 v0, .int .i64 v1, .int .i64 v2] 25 (0, 0)), (s_.1, Z27), (s_.2.1, Z27), (s_.2.2, Z27)] w') ?_ ?_
          rotate_left
          · intro hJ0_1_3
            refine join_ (σ := Nat × Nat × Nat) 5 #[true, true, true, true, true, false, true, true, false, false, false, false] (fun s_ => [(9, .pointer (some ⟨s_.1, 0, none⟩)), (11, .pointer (some ⟨s_.2.1, 0, none⟩)), (12, .pointer (some ⟨s_.2.2, 0, none⟩))]) (fun s_ w' => Lie w [(g4, .cells #[.int .u8 a, .slice A1 l1.length c1, .slice A2 l2.length c2, .bool false, .slice A4 l4.length c4, .int .u8 p0, .int .i64 p1, .int .i64 p2, .bool y, .int .u8 t] 27 (0, 0)), (g5, .cells #[.int .u8 v0, .int .i64 v1, .int .i64 v2] 25 (0, 0)), (s_.1, Z27), (s_.2.1, Z27), (s_.2.2, Z27)] w') ?_ ?_
            rotate_left
            · intro hJ0_2_3
              refine join_ (σ := Nat × Nat × Nat) 5 #[true, true, true, true, false, true, true, true, false, false, false, false] (fun s_ => [(10, .pointer (some ⟨s_.1, 0, none⟩)), (11, .pointer (some ⟨s_.2.1, 0, none⟩)), (12, .pointer (some ⟨s_.2.2, 0, none⟩))]) (fun s_ w' => Lie w [(g4, .cells #[.int .u8 a, .slice A1 l1.length c1, .slice A2 l2.length c2, .bool false, .slice A4 l4.length c4, .int .u8 p0, .int .i64 p1, .int .i64 p2, .bool y, .int .u8 t] 27 (0, 0)), (g5, .cells #[.int .u8 v0, .int .i64 v1, .int .i64 v2] 25 (0, 0)), (s_.1, Z27), (s_.2.1, Z27), (s_.2.2, Z27)] w') ?_ ?_
              rotate_left
              · intro hJ1_2_3
                refine join_ (σ := Nat × Nat) 6 #[true, true, true, true, true, true, false, false, false, false, false, false] (fun s_ => [(9, .pointer (some ⟨s_.1, 0, none⟩)), (10, .pointer (some ⟨s_.2, 0, none⟩))]) (fun s_ w' => Lie w [(g4, .cells #[.int .u8 a, .slice A1 l1.length c1, .slice A2 l2.length c2, .bool false, .slice A4 l4.length c4, .int .u8 p0, .int .i64 p1, .int .i64 p2, .bool y, .int .u8 t] 27 (0, 0)), (g5, .cells #[.int .u8 v0, .int .i64 v1, .int .i64 v2] 25 (0, 0)), (s_.1, Z27), (s_.2, Z27)] w') ?_ ?_
                rotate_left
                · intro hJ0_1
                  refine join_ (σ := Nat × Nat) 6 #[true, true, true, true, true, false, true, false, false, false, false, false] (fun s_ => [(9, .pointer (some ⟨s_.1, 0, none⟩)), (11, .pointer (some ⟨s_.2, 0, none⟩))]) (fun s_ w' => Lie w [(g4, .cells #[.int .u8 a, .slice A1 l1.length c1, .slice A2 l2.length c2, .bool false, .slice A4 l4.length c4, .int .u8 p0, .int .i64 p1, .int .i64 p2, .bool y, .int .u8 t] 27 (0, 0)), (g5, .cells #[.int .u8 v0, .int .i64 v1, .int .i64 v2] 25 (0, 0)), (s_.1, Z27), (s_.2, Z27)] w') ?_ ?_
                  rotate_left
                  · intro hJ0_2
                    refine join_ (σ := Nat × Nat) 6 #[true, true, true, true, true, false, false, true, false, false, false, false] (fun s_ => [(9, .pointer (some ⟨s_.1, 0, none⟩)), (12, .pointer (some ⟨s_.2, 0, none⟩))]) (fun s_ w' => Lie w [(g4, .cells #[.int .u8 a, .slice A1 l1.length c1, .slice A2 l2.length c2, .bool false, .slice A4 l4.length c4, .int .u8 p0, .int .i64 p1, .int .i64 p2, .bool y, .int .u8 t] 27 (0, 0)), (g5, .cells #[.int .u8 v0, .int .i64 v1, .int .i64 v2] 25 (0, 0)), (s_.1, Z27), (s_.2, Z27)] w') ?_ ?_
                    rotate_left
                    · intro hJ0_3
                      refine join_ (σ := Nat × Nat) 6 #[true, true, true, true, false, true, true, false, false, false, false, false] (fun s_ => [(10, .pointer (some ⟨s_.1, 0, none⟩)), (11, .pointer (some ⟨s_.2, 0, none⟩))]) (fun s_ w' => Lie w [(g4, .cells #[.int .u8 a, .slice A1 l1.length c1, .slice A2 l2.length c2, .bool false, .slice A4 l4.length c4, .int .u8 p0, .int .i64 p1, .int .i64 p2, .bool y, .int .u8 t] 27 (0, 0)), (g5, .cells #[.int .u8 v0, .int .i64 v1, .int .i64 v2] 25 (0, 0)), (s_.1, Z27), (s_.2, Z27)] w') ?_ ?_
                      rotate_left
                      · intro hJ1_2
                        refine join_ (σ := Nat × Nat) 6 #[true, true, true, true, false, true, false, true, false, false, false, false] (fun s_ => [(10, .pointer (some ⟨s_.1, 0, none⟩)), (12, .pointer (some ⟨s_.2, 0, none⟩))]) (fun s_ w' => Lie w [(g4, .cells #[.int .u8 a, .slice A1 l1.length c1, .slice A2 l2.length c2, .bool false, .slice A4 l4.length c4, .int .u8 p0, .int .i64 p1, .int .i64 p2, .bool y, .int .u8 t] 27 (0, 0)), (g5, .cells #[.int .u8 v0, .int .i64 v1, .int .i64 v2] 25 (0, 0)), (s_.1, Z27), (s_.2, Z27)] w') ?_ ?_
                        rotate_left
                        · intro hJ1_3
                          refine join_ (σ := Nat × Nat) 6 #[true, true, true, true, false, false, true, true, false, false, false, false] (fun s_ => [(11, .pointer (some ⟨s_.1, 0, none⟩)), (12, .pointer (some ⟨s_.2, 0, none⟩))]) (fun s_ w' => Lie w [(g4, .cells #[.int .u8 a, .slice A1 l1.length c1, .slice A2 l2.length c2, .bool false, .slice A4 l4.length c4, .int .u8 p0, .int .i64 p1, .int .i64 p2, .bool y, .int .u8 t] 27 (0, 0)), (g5, .cells #[.int .u8 v0, .int .i64 v1, .int .i64 v2] 25 (0, 0)), (s_.1, Z27), (s_.2, Z27)] w') ?_ ?_
                          rotate_left
                          · intro hJ2_3
                            refine join_ (σ := Nat) 7 #[true, true, true, true, true, false, false, false, false, false, false, false] (fun s_ => [(9, .pointer (some ⟨s_, 0, none⟩))]) (fun s_ w' => Lie w [(g4, .cells #[.int .u8 a, .slice A1 l1.length c1, .slice A2 l2.length c2, .bool false, .slice A4 l4.length c4, .int .u8 p0, .int .i64 p1, .int .i64 p2, .bool y, .int .u8 t] 27 (0, 0)), (g5, .cells #[.int .u8 v0, .int .i64 v1, .int .i64 v2] 25 (0, 0)), (s_, Z27)] w') ?_ ?_
                            rotate_left
                            · intro hJ0
                              refine join_ (σ := Nat) 7 #[true, true, true, true, false, true, false, false, false, false, false, false] (fun s_ => [(10, .pointer (some ⟨s_, 0, none⟩))]) (fun s_ w' => Lie w [(g4, .cells #[.int .u8 a, .slice A1 l1.length c1, .slice A2 l2.length c2, .bool false, .slice A4 l4.length c4, .int .u8 p0, .int .i64 p1, .int .i64 p2, .bool y, .int .u8 t] 27 (0, 0)), (g5, .cells #[.int .u8 v0, .int .i64 v1, .int .i64 v2] 25 (0, 0)), (s_, Z27)] w') ?_ ?_
                              rotate_left
                              · intro hJ1
                                refine join_ (σ := Nat) 7 #[true, true, true, true, false, false, true, false, false, false, false, false] (fun s_ => [(11, .pointer (some ⟨s_, 0, none⟩))]) (fun s_ w' => Lie w [(g4, .cells #[.int .u8 a, .slice A1 l1.length c1, .slice A2 l2.length c2, .bool false, .slice A4 l4.length c4, .int .u8 p0, .int .i64 p1, .int .i64 p2, .bool y, .int .u8 t] 27 (0, 0)), (g5, .cells #[.int .u8 v0, .int .i64 v1, .int .i64 v2] 25 (0, 0)), (s_, Z27)] w') ?_ ?_
                                rotate_left
                                · intro hJ2
                                  refine join_ (σ := Nat) 7 #[true, true, true, true, false, false, false, true, false, false, false, false] (fun s_ => [(12, .pointer (some ⟨s_, 0, none⟩))]) (fun s_ w' => Lie w [(g4, .cells #[.int .u8 a, .slice A1 l1.length c1, .slice A2 l2.length c2, .bool false, .slice A4 l4.length c4, .int .u8 p0, .int .i64 p1, .int .i64 p2, .bool y, .int .u8 t] 27 (0, 0)), (g5, .cells #[.int .u8 v0, .int .i64 v1, .int .i64 v2] 25 (0, 0)), (s_, Z27)] w') ?_ ?_
                                  rotate_left
                                  · intro hJ3
                                    refine four_ (i := 4) (j := 5) (k := 6) (m := 7) (Ni := some 9) (Nj := some 10) (Nk := some 11) (Nm := some 12) #[true, true, true, true, true, false, false, false, false, false, false, false] #[true, true, true, true, false, true, false, false, false, false, false, false] #[true, true, true, true, false, false, true, false, false, false, false, false] #[true, true, true, true, false, false, false, true, false, false, false, false] rfl rfl rfl rfl rfl rfl rfl rfl (four_of HT_.out (by kernel_rfl)) (by decide) (by decide) (by decide) (by decide) (fun K hK => ?_) (fun K hK => ?_) (fun K hK => ?_) (fun K hK => ?_)
                                    · skip
                                      refine box_step ?hg (N := 9) ?hd (cs := #[.int .u8 0, .slice none 0 0, .slice none 0 0, .bool false, .slice none 0 0, .int .u8 0, .int .i64 0, .int .i64 0, .bool false, .int .u8 0]) (t := 27) ?hr ?_; (case hd => rfl); (case hg => rfl); (case hr => first | (go_simp; done) | (go_simp; rfl))
                                      intro g9 hg w50 hbox hb
                                      have L := L.more [(g4, _), (g5, _)] [] hg hbox hb
                                      clear hbox hb hg
                                      refine hK.out _ _ (L.get 0 rfl) (fun _ => ?_)
                                      clear hK K
                                      refine norm_ (a' := ?_) ?_ ?_
                                      rotate_left
                                      · show Act.put _ (some 9) _ = _
                                        simp only [Act.put, List.setIfInBounds_toArray, List.set_cons_zero, List.set_cons_succ, i64_w, i32_w]
                                        rfl
                                      exact norm_ (by first | (simp only [putAll, Act.put, List.setIfInBounds_toArray, List.set_cons_zero, List.set_cons_succ]; done) | (simp only [putAll, Act.put, List.setIfInBounds_toArray, List.set_cons_zero, List.set_cons_succ]; rfl)) (hJ0 g9 _ L)
                                    · skip
                                      refine box_step ?hg (N := 10) ?hd (cs := #[.int .u8 0, .slice none 0 0, .slice none 0 0, .bool false, .slice none 0 0, .int .u8 0, .int .i64 0, .int .i64 0, .bool false, .int .u8 0]) (t := 27) ?hr ?_; (case hd => rfl); (case hg => rfl); (case hr => first | (go_simp; done) | (go_simp; rfl))
                                      intro g10 hg w50 hbox hb
                                      have L := L.more [(g4, _), (g5, _)] [] hg hbox hb
                                      clear hbox hb hg
                                      refine hK.out _ _ (L.get 0 rfl) (fun _ => ?_)
                                      clear hK K
                                      refine norm_ (a' := ?_) ?_ ?_
                                      rotate_left
                                      · show Act.put _ (some 10) _ = _
                                        simp only [Act.put, List.setIfInBounds_toArray, List.set_cons_zero, List.set_cons_succ, i64_w, i32_w]
                                        rfl
                                      exact norm_ (by first | (simp only [putAll, Act.put, List.setIfInBounds_toArray, List.set_cons_zero, List.set_cons_succ]; done) | (simp only [putAll, Act.put, List.setIfInBounds_toArray, List.set_cons_zero, List.set_cons_succ]; rfl)) (hJ1 g10 _ L)
                                    · skip
                                      refine box_step ?hg (N := 11) ?hd (cs := #[.int .u8 0, .slice none 0 0, .slice none 0 0, .bool false, .slice none 0 0, .int .u8 0, .int .i64 0, .int .i64 0, .bool false, .int .u8 0]) (t := 27) ?hr ?_; (case hd => rfl); (case hg => rfl); (case hr => first | (go_simp; done) | (go_simp; rfl))
                                      intro g11 hg w50 hbox hb
                                      have L := L.more [(g4, _), (g5, _)] [] hg hbox hb
                                      clear hbox hb hg
                                      refine hK.out _ _ (L.get 0 rfl) (fun _ => ?_)
                                      clear hK K
                                      refine norm_ (a' := ?_) ?_ ?_
                                      rotate_left
                                      · show Act.put _ (some 11) _ = _
                                        simp only [Act.put, List.setIfInBounds_toArray, List.set_cons_zero, List.set_cons_succ, i64_w, i32_w]
                                        rfl
                                      exact norm_ (by first | (simp only [putAll, Act.put, List.setIfInBounds_toArray, List.set_cons_zero, List.set_cons_succ]; done) | (simp only [putAll, Act.put, List.setIfInBounds_toArray, List.set_cons_zero, List.set_cons_succ]; rfl)) (hJ2 g11 _ L)
                                    · skip
                                      refine box_step ?hg (N := 12) ?hd (cs := #[.int .u8 0, .slice none 0 0, .slice none 0 0, .bool false, .slice none 0 0, .int .u8 0, .int .i64 0, .int .i64 0, .bool false, .int .u8 0]) (t := 27) ?hr ?_; (case hd => rfl); (case hg => rfl); (case hr => first | (go_simp; done) | (go_simp; rfl))
                                      intro g12 hg w50 hbox hb
                                      have L := L.more [(g4, _), (g5, _)] [] hg hbox hb
                                      clear hbox hb hg
                                      refine hK.out _ _ (L.get 0 rfl) (fun _ => ?_)
                                      clear hK K
                                      refine norm_ (a' := ?_) ?_ ?_
                                      rotate_left
                                      · show Act.put _ (some 12) _ = _
                                        simp only [Act.put, List.setIfInBounds_toArray, List.set_cons_zero, List.set_cons_succ, i64_w, i32_w]
                                        rfl
                                      exact norm_ (by first | (simp only [putAll, Act.put, List.setIfInBounds_toArray, List.set_cons_zero, List.set_cons_succ]; done) | (simp only [putAll, Act.put, List.setIfInBounds_toArray, List.set_cons_zero, List.set_cons_succ]; rfl)) (hJ3 g12 _ L)
                                  clear L hHeld
                                  rintro g12 w49 L
                                  have hHeld : w49.heap[g4]? = some (.cells #[.int .u8 a, .slice A1 l1.length c1, .slice A2 l2.length c2, .bool false, .slice A4 l4.length c4, .int .u8 p0, .int .i64 p1, .int .i64 p2, .bool y, .int .u8 t] 27 (0, 0)) := L.get 0 rfl
                                  refine norm_ (a' := ?_) ?_ ?_
                                  rotate_left
                                  · simp only [putAll, Act.put, List.setIfInBounds_toArray, List.set_cons_zero, List.set_cons_succ]
                                    rfl
                                  refine three_ (i := 4) (j := 5) (k := 6) (Ni := some 9) (Nj := some 10) (Nk := some 11) #[true, true, true, true, true, false, false, true, false, false, false, false] #[true, true, true, true, false, true, false, true, false, false, false, false] #[true, true, true, true, false, false, true, true, false, false, false, false] rfl rfl rfl rfl rfl rfl (three_of HT_.out (by kernel_rfl)) (by decide) (by decide) (by decide) (fun K hK => ?_) (fun K hK => ?_) (fun K hK => ?_)
                                  · skip
                                    refine box_step ?hg (N := 9) ?hd (cs := #[.int .u8 0, .slice none 0 0, .slice none 0 0, .bool false, .slice none 0 0, .int .u8 0, .int .i64 0, .int .i64 0, .bool false, .int .u8 0]) (t := 27) ?hr ?_; (case hd => rfl); (case hg => rfl); (case hr => first | (go_simp; done) | (go_simp; rfl))
                                    intro g9 hg w50 hbox hb
                                    have L := L.more [(g4, _), (g5, _)] [(g12, _)] hg hbox hb
                                    clear hbox hb hg
                                    refine hK.out _ _ (L.get 0 rfl) (fun _ => ?_)
                                    clear hK K
                                    refine norm_ (a' := ?_) ?_ ?_
                                    rotate_left
                                    · show Act.put _ (some 9) _ = _
                                      simp only [Act.put, List.setIfInBounds_toArray, List.set_cons_zero, List.set_cons_succ, i64_w, i32_w]
                                      rfl
                                    exact norm_ (by first | (simp only [putAll, Act.put, List.setIfInBounds_toArray, List.set_cons_zero, List.set_cons_succ]; done) | (simp only [putAll, Act.put, List.setIfInBounds_toArray, List.set_cons_zero, List.set_cons_succ]; rfl)) (hJ0_3 (g9, g12) _ L)
                                  · skip
                                    refine box_step ?hg (N := 10) ?hd (cs := #[.int .u8 0, .slice none 0 0, .slice none 0 0, .bool false, .slice none 0 0, .int .u8 0, .int .i64 0, .int .i64 0, .bool false, .int .u8 0]) (t := 27) ?hr ?_; (case hd => rfl); (case hg => rfl); (case hr => first | (go_simp; done) | (go_simp; rfl))
                                    intro g10 hg w50 hbox hb
                                    have L := L.more [(g4, _), (g5, _)] [(g12, _)] hg hbox hb
                                    clear hbox hb hg
                                    refine hK.out _ _ (L.get 0 rfl) (fun _ => ?_)
                                    clear hK K
                                    refine norm_ (a' := ?_) ?_ ?_
                                    rotate_left
                                    · show Act.put _ (some 10) _ = _
                                      simp only [Act.put, List.setIfInBounds_toArray, List.set_cons_zero, List.set_cons_succ, i64_w, i32_w]
                                      rfl
                                    exact norm_ (by first | (simp only [putAll, Act.put, List.setIfInBounds_toArray, List.set_cons_zero, List.set_cons_succ]; done) | (simp only [putAll, Act.put, List.setIfInBounds_toArray, List.set_cons_zero, List.set_cons_succ]; rfl)) (hJ1_3 (g10, g12) _ L)
                                  · skip
                                    refine box_step ?hg (N := 11) ?hd (cs := #[.int .u8 0, .slice none 0 0, .slice none 0 0, .bool false, .slice none 0 0, .int .u8 0, .int .i64 0, .int .i64 0, .bool false, .int .u8 0]) (t := 27) ?hr ?_; (case hd => rfl); (case hg => rfl); (case hr => first | (go_simp; done) | (go_simp; rfl))
                                    intro g11 hg w50 hbox hb
                                    have L := L.more [(g4, _), (g5, _)] [(g12, _)] hg hbox hb
                                    clear hbox hb hg
                                    refine hK.out _ _ (L.get 0 rfl) (fun _ => ?_)
                                    clear hK K
                                    refine norm_ (a' := ?_) ?_ ?_
                                    rotate_left
                                    · show Act.put _ (some 11) _ = _
                                      simp only [Act.put, List.setIfInBounds_toArray, List.set_cons_zero, List.set_cons_succ, i64_w, i32_w]
                                      rfl
                                    exact norm_ (by first | (simp only [putAll, Act.put, List.setIfInBounds_toArray, List.set_cons_zero, List.set_cons_succ]; done) | (simp only [putAll, Act.put, List.setIfInBounds_toArray, List.set_cons_zero, List.set_cons_succ]; rfl)) (hJ2_3 (g11, g12) _ L)
                                clear L hHeld
                                rintro g11 w49 L
                                have hHeld : w49.heap[g4]? = some (.cells #[.int .u8 a, .slice A1 l1.length c1, .slice A2 l2.length c2, .bool false, .slice A4 l4.length c4, .int .u8 p0, .int .i64 p1, .int .i64 p2, .bool y, .int .u8 t] 27 (0, 0)) := L.get 0 rfl
                                refine norm_ (a' := ?_) ?_ ?_
                                rotate_left
                                · simp only [putAll, Act.put, List.setIfInBounds_toArray, List.set_cons_zero, List.set_cons_succ]
                                  rfl
                                refine three_ (i := 4) (j := 5) (k := 7) (Ni := some 9) (Nj := some 10) (Nk := some 12) #[true, true, true, true, true, false, true, false, false, false, false, false] #[true, true, true, true, false, true, true, false, false, false, false, false] #[true, true, true, true, false, false, true, true, false, false, false, false] rfl rfl rfl rfl rfl rfl (three_of HT_.out (by kernel_rfl)) (by decide) (by decide) (by decide) (fun K hK => ?_) (fun K hK => ?_) (fun K hK => ?_)
                                · skip
                                  refine box_step ?hg (N := 9) ?hd (cs := #[.int .u8 0, .slice none 0 0, .slice none 0 0, .bool false, .slice none 0 0, .int .u8 0, .int .i64 0, .int .i64 0, .bool false, .int .u8 0]) (t := 27) ?hr ?_; (case hd => rfl); (case hg => rfl); (case hr => first | (go_simp; done) | (go_simp; rfl))
                                  intro g9 hg w50 hbox hb
                                  have L := L.more [(g4, _), (g5, _)] [(g11, _)] hg hbox hb
                                  clear hbox hb hg
                                  refine hK.out _ _ (L.get 0 rfl) (fun _ => ?_)
                                  clear hK K
                                  refine norm_ (a' := ?_) ?_ ?_
                                  rotate_left
                                  · show Act.put _ (some 9) _ = _
                                    simp only [Act.put, List.setIfInBounds_toArray, List.set_cons_zero, List.set_cons_succ, i64_w, i32_w]
                                    rfl
                                  exact norm_ (by first | (simp only [putAll, Act.put, List.setIfInBounds_toArray, List.set_cons_zero, List.set_cons_succ]; done) | (simp only [putAll, Act.put, List.setIfInBounds_toArray, List.set_cons_zero, List.set_cons_succ]; rfl)) (hJ0_2 (g9, g11) _ L)
                                · skip
                                  refine box_step ?hg (N := 10) ?hd (cs := #[.int .u8 0, .slice none 0 0, .slice none 0 0, .bool false, .slice none 0 0, .int .u8 0, .int .i64 0, .int .i64 0, .bool false, .int .u8 0]) (t := 27) ?hr ?_; (case hd => rfl); (case hg => rfl); (case hr => first | (go_simp; done) | (go_simp; rfl))
                                  intro g10 hg w50 hbox hb
                                  have L := L.more [(g4, _), (g5, _)] [(g11, _)] hg hbox hb
                                  clear hbox hb hg
                                  refine hK.out _ _ (L.get 0 rfl) (fun _ => ?_)
                                  clear hK K
                                  refine norm_ (a' := ?_) ?_ ?_
                                  rotate_left
                                  · show Act.put _ (some 10) _ = _
                                    simp only [Act.put, List.setIfInBounds_toArray, List.set_cons_zero, List.set_cons_succ, i64_w, i32_w]
                                    rfl
                                  exact norm_ (by first | (simp only [putAll, Act.put, List.setIfInBounds_toArray, List.set_cons_zero, List.set_cons_succ]; done) | (simp only [putAll, Act.put, List.setIfInBounds_toArray, List.set_cons_zero, List.set_cons_succ]; rfl)) (hJ1_2 (g10, g11) _ L)
                                · skip
                                  refine box_step ?hg (N := 12) ?hd (cs := #[.int .u8 0, .slice none 0 0, .slice none 0 0, .bool false, .slice none 0 0, .int .u8 0, .int .i64 0, .int .i64 0, .bool false, .int .u8 0]) (t := 27) ?hr ?_; (case hd => rfl); (case hg => rfl); (case hr => first | (go_simp; done) | (go_simp; rfl))
                                  intro g12 hg w50 hbox hb
                                  have L := L.more [(g4, _), (g5, _), (g11, _)] [] hg hbox hb
                                  clear hbox hb hg
                                  refine hK.out _ _ (L.get 0 rfl) (fun _ => ?_)
                                  clear hK K
                                  refine norm_ (a' := ?_) ?_ ?_
                                  rotate_left
                                  · show Act.put _ (some 12) _ = _
                                    simp only [Act.put, List.setIfInBounds_toArray, List.set_cons_zero, List.set_cons_succ, i64_w, i32_w]
                                    rfl
                                  exact norm_ (by first | (simp only [putAll, Act.put, List.setIfInBounds_toArray, List.set_cons_zero, List.set_cons_succ]; done) | (simp only [putAll, Act.put, List.setIfInBounds_toArray, List.set_cons_zero, List.set_cons_succ]; rfl)) (hJ2_3 (g11, g12) _ L)
                              clear L hHeld
                              rintro g10 w49 L
                              have hHeld : w49.heap[g4]? = some (.cells #[.int .u8 a, .slice A1 l1.length c1, .slice A2 l2.length c2, .bool false, .slice A4 l4.length c4, .int .u8 p0, .int .i64 p1, .int .i64 p2, .bool y, .int .u8 t] 27 (0, 0)) := L.get 0 rfl
                              refine norm_ (a' := ?_) ?_ ?_
                              rotate_left
                              · simp only [putAll, Act.put, List.setIfInBounds_toArray, List.set_cons_zero, List.set_cons_succ]
                                rfl
                              refine three_ (i := 4) (j := 6) (k := 7) (Ni := some 9) (Nj := some 11) (Nk := some 12) #[true, true, true, true, true, true, false, false, false, false, false, false] #[true, true, true, true, false, true, true, false, false, false, false, false] #[true, true, true, true, false, true, false, true, false, false, false, false] rfl rfl rfl rfl rfl rfl (three_of HT_.out (by kernel_rfl)) (by decide) (by decide) (by decide) (fun K hK => ?_) (fun K hK => ?_) (fun K hK => ?_)
                              · skip
                                refine box_step ?hg (N := 9) ?hd (cs := #[.int .u8 0, .slice none 0 0, .slice none 0 0, .bool false, .slice none 0 0, .int .u8 0, .int .i64 0, .int .i64 0, .bool false, .int .u8 0]) (t := 27) ?hr ?_; (case hd => rfl); (case hg => rfl); (case hr => first | (go_simp; done) | (go_simp; rfl))
                                intro g9 hg w50 hbox hb
                                have L := L.more [(g4, _), (g5, _)] [(g10, _)] hg hbox hb
                                clear hbox hb hg
                                refine hK.out _ _ (L.get 0 rfl) (fun _ => ?_)
                                clear hK K
                                refine norm_ (a' := ?_) ?_ ?_
                                rotate_left
                                · show Act.put _ (some 9) _ = _
                                  simp only [Act.put, List.setIfInBounds_toArray, List.set_cons_zero, List.set_cons_succ, i64_w, i32_w]
                                  rfl
                                exact norm_ (by first | (simp only [putAll, Act.put, List.setIfInBounds_toArray, List.set_cons_zero, List.set_cons_succ]; done) | (simp only [putAll, Act.put, List.setIfInBounds_toArray, List.set_cons_zero, List.set_cons_succ]; rfl)) (hJ0_1 (g9, g10) _ L)
                              · skip
                                refine box_step ?hg (N := 11) ?hd (cs := #[.int .u8 0, .slice none 0 0, .slice none 0 0, .bool false, .slice none 0 0, .int .u8 0, .int .i64 0, .int .i64 0, .bool false, .int .u8 0]) (t := 27) ?hr ?_; (case hd => rfl); (case hg => rfl); (case hr => first | (go_simp; done) | (go_simp; rfl))
                                intro g11 hg w50 hbox hb
                                have L := L.more [(g4, _), (g5, _), (g10, _)] [] hg hbox hb
                                clear hbox hb hg
                                refine hK.out _ _ (L.get 0 rfl) (fun _ => ?_)
                                clear hK K
                                refine norm_ (a' := ?_) ?_ ?_
                                rotate_left
                                · show Act.put _ (some 11) _ = _
                                  simp only [Act.put, List.setIfInBounds_toArray, List.set_cons_zero, List.set_cons_succ, i64_w, i32_w]
                                  rfl
                                exact norm_ (by first | (simp only [putAll, Act.put, List.setIfInBounds_toArray, List.set_cons_zero, List.set_cons_succ]; done) | (simp only [putAll, Act.put, List.setIfInBounds_toArray, List.set_cons_zero, List.set_cons_succ]; rfl)) (hJ1_2 (g10, g11) _ L)
                              · skip
                                refine box_step ?hg (N := 12) ?hd (cs := #[.int .u8 0, .slice none 0 0, .slice none 0 0, .bool false, .slice none 0 0, .int .u8 0, .int .i64 0, .int .i64 0, .bool false, .int .u8 0]) (t := 27) ?hr ?_; (case hd => rfl); (case hg => rfl); (case hr => first | (go_simp; done) | (go_simp; rfl))
                                intro g12 hg w50 hbox hb
                                have L := L.more [(g4, _), (g5, _), (g10, _)] [] hg hbox hb
                                clear hbox hb hg
                                refine hK.out _ _ (L.get 0 rfl) (fun _ => ?_)
                                clear hK K
                                refine norm_ (a' := ?_) ?_ ?_
                                rotate_left
                                · show Act.put _ (some 12) _ = _
                                  simp only [Act.put, List.setIfInBounds_toArray, List.set_cons_zero, List.set_cons_succ, i64_w, i32_w]
                                  rfl
                                exact norm_ (by first | (simp only [putAll, Act.put, List.setIfInBounds_toArray, List.set_cons_zero, List.set_cons_succ]; done) | (simp only [putAll, Act.put, List.setIfInBounds_toArray, List.set_cons_zero, List.set_cons_succ]; rfl)) (hJ1_3 (g10, g12) _ L)
                            clear L hHeld
                            rintro g9 w49 L
                            have hHeld : w49.heap[g4]? = some (.cells #[.int .u8 a, .slice A1 l1.length c1, .slice A2 l2.length c2, .bool false, .slice A4 l4.length c4, .int .u8 p0, .int .i64 p1, .int .i64 p2, .bool y, .int .u8 t] 27 (0, 0)) := L.get 0 rfl
                            refine norm_ (a' := ?_) ?_ ?_
                            rotate_left
                            · simp only [putAll, Act.put, List.setIfInBounds_toArray, List.set_cons_zero, List.set_cons_succ]
                              rfl
                            refine three_ (i := 5) (j := 6) (k := 7) (Ni := some 10) (Nj := some 11) (Nk := some 12) #[true, true, true, true, true, true, false, false, false, false, false, false] #[true, true, true, true, true, false, true, false, false, false, false, false] #[true, true, true, true, true, false, false, true, false, false, false, false] rfl rfl rfl rfl rfl rfl (three_of HT_.out (by kernel_rfl)) (by decide) (by decide) (by decide) (fun K hK => ?_) (fun K hK => ?_) (fun K hK => ?_)
                            · skip
                              refine box_step ?hg (N := 10) ?hd (cs := #[.int .u8 0, .slice none 0 0, .slice none 0 0, .bool false, .slice none 0 0, .int .u8 0, .int .i64 0, .int .i64 0, .bool false, .int .u8 0]) (t := 27) ?hr ?_; (case hd => rfl); (case hg => rfl); (case hr => first | (go_simp; done) | (go_simp; rfl))
                              intro g10 hg w50 hbox hb
                              have L := L.more [(g4, _), (g5, _), (g9, _)] [] hg hbox hb
                              clear hbox hb hg
                              refine hK.out _ _ (L.get 0 rfl) (fun _ => ?_)
                              clear hK K
                              refine norm_ (a' := ?_) ?_ ?_
                              rotate_left
                              · show Act.put _ (some 10) _ = _
                                simp only [Act.put, List.setIfInBounds_toArray, List.set_cons_zero, List.set_cons_succ, i64_w, i32_w]
                                rfl
                              exact norm_ (by first | (simp only [putAll, Act.put, List.setIfInBounds_toArray, List.set_cons_zero, List.set_cons_succ]; done) | (simp only [putAll, Act.put, List.setIfInBounds_toArray, List.set_cons_zero, List.set_cons_succ]; rfl)) (hJ0_1 (g9, g10) _ L)
                            · skip
                              refine box_step ?hg (N := 11) ?hd (cs := #[.int .u8 0, .slice none 0 0, .slice none 0 0, .bool false, .slice none 0 0, .int .u8 0, .int .i64 0, .int .i64 0, .bool false, .int .u8 0]) (t := 27) ?hr ?_; (case hd => rfl); (case hg => rfl); (case hr => first | (go_simp; done) | (go_simp; rfl))
                              intro g11 hg w50 hbox hb
                              have L := L.more [(g4, _), (g5, _), (g9, _)] [] hg hbox hb
                              clear hbox hb hg
                              refine hK.out _ _ (L.get 0 rfl) (fun _ => ?_)
                              clear hK K
                              refine norm_ (a' := ?_) ?_ ?_
                              rotate_left
                              · show Act.put _ (some 11) _ = _
                                simp only [Act.put, List.setIfInBounds_toArray, List.set_cons_zero, List.set_cons_succ, i64_w, i32_w]
                                rfl
                              exact norm_ (by first | (simp only [putAll, Act.put, List.setIfInBounds_toArray, List.set_cons_zero, List.set_cons_succ]; done) | (simp only [putAll, Act.put, List.setIfInBounds_toArray, List.set_cons_zero, List.set_cons_succ]; rfl)) (hJ0_2 (g9, g11) _ L)
                            · skip
                              refine box_step ?hg (N := 12) ?hd (cs := #[.int .u8 0, .slice none 0 0, .slice none 0 0, .bool false, .slice none 0 0, .int .u8 0, .int .i64 0, .int .i64 0, .bool false, .int .u8 0]) (t := 27) ?hr ?_; (case hd => rfl); (case hg => rfl); (case hr => first | (go_simp; done) | (go_simp; rfl))
                              intro g12 hg w50 hbox hb
                              have L := L.more [(g4, _), (g5, _), (g9, _)] [] hg hbox hb
                              clear hbox hb hg
                              refine hK.out _ _ (L.get 0 rfl) (fun _ => ?_)
                              clear hK K
                              refine norm_ (a' := ?_) ?_ ?_
                              rotate_left
                              · show Act.put _ (some 12) _ = _
                                simp only [Act.put, List.setIfInBounds_toArray, List.set_cons_zero, List.set_cons_succ, i64_w, i32_w]
                                rfl
                              exact norm_ (by first | (simp only [putAll, Act.put, List.setIfInBounds_toArray, List.set_cons_zero, List.set_cons_succ]; done) | (simp only [putAll, Act.put, List.setIfInBounds_toArray, List.set_cons_zero, List.set_cons_succ]; rfl)) (hJ0_3 (g9, g12) _ L)
                          clear L hHeld
                          rintro ⟨g11, g12⟩ w49 L
                          have hHeld : w49.heap[g4]? = some (.cells #[.int .u8 a, .slice A1 l1.length c1, .slice A2 l2.length c2, .bool false, .slice A4 l4.length c4, .int .u8 p0, .int .i64 p1, .int .i64 p2, .bool y, .int .u8 t] 27 (0, 0)) := L.get 0 rfl
                          refine norm_ (a' := ?_) ?_ ?_
                          rotate_left
                          · simp only [putAll, Act.put, List.setIfInBounds_toArray, List.set_cons_zero, List.set_cons_succ]
                            rfl
                          refine two_ (i := 4) (j := 5) (Ni := some 9) (Nj := some 10) #[true, true, true, true, true, false, true, true, false, false, false, false] #[true, true, true, true, false, true, true, true, false, false, false, false] rfl rfl rfl rfl (two_of HT_.out (by kernel_rfl)) (by decide) (by decide) (fun K hK => ?_) (fun K hK => ?_)
                          · skip
                            refine box_step ?hg (N := 9) ?hd (cs := #[.int .u8 0, .slice none 0 0, .slice none 0 0, .bool false, .slice none 0 0, .int .u8 0, .int .i64 0, .int .i64 0, .bool false, .int .u8 0]) (t := 27) ?hr ?_; (case hd => rfl); (case hg => rfl); (case hr => first | (go_simp; done) | (go_simp; rfl))
                            intro g9 hg w50 hbox hb
                            have L := L.more [(g4, _), (g5, _)] [(g11, _), (g12, _)] hg hbox hb
                            clear hbox hb hg
                            refine hK.out _ _ (L.get 0 rfl) (fun _ => ?_)
                            clear hK K
                            refine norm_ (a' := ?_) ?_ ?_
                            rotate_left
                            · show Act.put _ (some 9) _ = _
                              simp only [Act.put, List.setIfInBounds_toArray, List.set_cons_zero, List.set_cons_succ, i64_w, i32_w]
                              rfl
                            exact norm_ (by first | (simp only [putAll, Act.put, List.setIfInBounds_toArray, List.set_cons_zero, List.set_cons_succ]; done) | (simp only [putAll, Act.put, List.setIfInBounds_toArray, List.set_cons_zero, List.set_cons_succ]; rfl)) (hJ0_2_3 (g9, g11, g12) _ L)
                          · skip
                            refine box_step ?hg (N := 10) ?hd (cs := #[.int .u8 0, .slice none 0 0, .slice none 0 0, .bool false, .slice none 0 0, .int .u8 0, .int .i64 0, .int .i64 0, .bool false, .int .u8 0]) (t := 27) ?hr ?_; (case hd => rfl); (case hg => rfl); (case hr => first | (go_simp; done) | (go_simp; rfl))
                            intro g10 hg w50 hbox hb
                            have L := L.more [(g4, _), (g5, _)] [(g11, _), (g12, _)] hg hbox hb
                            clear hbox hb hg
                            refine hK.out _ _ (L.get 0 rfl) (fun _ => ?_)
                            clear hK K
                            refine norm_ (a' := ?_) ?_ ?_
                            rotate_left
                            · show Act.put _ (some 10) _ = _
                              simp only [Act.put, List.setIfInBounds_toArray, List.set_cons_zero, List.set_cons_succ, i64_w, i32_w]
                              rfl
                            exact norm_ (by first | (simp only [putAll, Act.put, List.setIfInBounds_toArray, List.set_cons_zero, List.set_cons_succ]; done) | (simp only [putAll, Act.put, List.setIfInBounds_toArray, List.set_cons_zero, List.set_cons_succ]; rfl)) (hJ1_2_3 (g10, g11, g12) _ L)
                        clear L hHeld
                        rintro ⟨g10, g12⟩ w49 L
                        have hHeld : w49.heap[g4]? = some (.cells #[.int .u8 a, .slice A1 l1.length c1, .slice A2 l2.length c2, .bool false, .slice A4 l4.length c4, .int .u8 p0, .int .i64 p1, .int .i64 p2, .bool y, .int .u8 t] 27 (0, 0)) := L.get 0 rfl
                        refine norm_ (a' := ?_) ?_ ?_
                        rotate_left
                        · simp only [putAll, Act.put, List.setIfInBounds_toArray, List.set_cons_zero, List.set_cons_succ]
                          rfl
                        refine two_ (i := 4) (j := 6) (Ni := some 9) (Nj := some 11) #[true, true, true, true, true, true, false, true, false, false, false, false] #[true, true, true, true, false, true, true, true, false, false, false, false] rfl rfl rfl rfl (two_of HT_.out (by kernel_rfl)) (by decide) (by decide) (fun K hK => ?_) (fun K hK => ?_)
                        · skip
                          refine box_step ?hg (N := 9) ?hd (cs := #[.int .u8 0, .slice none 0 0, .slice none 0 0, .bool false, .slice none 0 0, .int .u8 0, .int .i64 0, .int .i64 0, .bool false, .int .u8 0]) (t := 27) ?hr ?_; (case hd => rfl); (case hg => rfl); (case hr => first | (go_simp; done) | (go_simp; rfl))
                          intro g9 hg w50 hbox hb
                          have L := L.more [(g4, _), (g5, _)] [(g10, _), (g12, _)] hg hbox hb
                          clear hbox hb hg
                          refine hK.out _ _ (L.get 0 rfl) (fun _ => ?_)
                          clear hK K
                          refine norm_ (a' := ?_) ?_ ?_
                          rotate_left
                          · show Act.put _ (some 9) _ = _
                            simp only [Act.put, List.setIfInBounds_toArray, List.set_cons_zero, List.set_cons_succ, i64_w, i32_w]
                            rfl
                          exact norm_ (by first | (simp only [putAll, Act.put, List.setIfInBounds_toArray, List.set_cons_zero, List.set_cons_succ]; done) | (simp only [putAll, Act.put, List.setIfInBounds_toArray, List.set_cons_zero, List.set_cons_succ]; rfl)) (hJ0_1_3 (g9, g10, g12) _ L)
                        · skip
                          refine box_step ?hg (N := 11) ?hd (cs := #[.int .u8 0, .slice none 0 0, .slice none 0 0, .bool false, .slice none 0 0, .int .u8 0, .int .i64 0, .int .i64 0, .bool false, .int .u8 0]) (t := 27) ?hr ?_; (case hd => rfl); (case hg => rfl); (case hr => first | (go_simp; done) | (go_simp; rfl))
                          intro g11 hg w50 hbox hb
                          have L := L.more [(g4, _), (g5, _), (g10, _)] [(g12, _)] hg hbox hb
                          clear hbox hb hg
                          refine hK.out _ _ (L.get 0 rfl) (fun _ => ?_)
                          clear hK K
                          refine norm_ (a' := ?_) ?_ ?_
                          rotate_left
                          · show Act.put _ (some 11) _ = _
                            simp only [Act.put, List.setIfInBounds_toArray, List.set_cons_zero, List.set_cons_succ, i64_w, i32_w]
                            rfl
                          exact norm_ (by first | (simp only [putAll, Act.put, List.setIfInBounds_toArray, List.set_cons_zero, List.set_cons_succ]; done) | (simp only [putAll, Act.put, List.setIfInBounds_toArray, List.set_cons_zero, List.set_cons_succ]; rfl)) (hJ1_2_3 (g10, g11, g12) _ L)
                      clear L hHeld
                      rintro ⟨g10, g11⟩ w49 L
                      have hHeld : w49.heap[g4]? = some (.cells #[.int .u8 a, .slice A1 l1.length c1, .slice A2 l2.length c2, .bool false, .slice A4 l4.length c4, .int .u8 p0, .int .i64 p1, .int .i64 p2, .bool y, .int .u8 t] 27 (0, 0)) := L.get 0 rfl
                      refine norm_ (a' := ?_) ?_ ?_
                      rotate_left
                      · simp only [putAll, Act.put, List.setIfInBounds_toArray, List.set_cons_zero, List.set_cons_succ]
                        rfl
                      refine two_ (i := 4) (j := 7) (Ni := some 9) (Nj := some 12) #[true, true, true, true, true, true, true, false, false, false, false, false] #[true, true, true, true, false, true, true, true, false, false, false, false] rfl rfl rfl rfl (two_of HT_.out (by kernel_rfl)) (by decide) (by decide) (fun K hK => ?_) (fun K hK => ?_)
                      · skip
                        refine box_step ?hg (N := 9) ?hd (cs := #[.int .u8 0, .slice none 0 0, .slice none 0 0, .bool false, .slice none 0 0, .int .u8 0, .int .i64 0, .int .i64 0, .bool false, .int .u8 0]) (t := 27) ?hr ?_; (case hd => rfl); (case hg => rfl); (case hr => first | (go_simp; done) | (go_simp; rfl))
                        intro g9 hg w50 hbox hb
                        have L := L.more [(g4, _), (g5, _)] [(g10, _), (g11, _)] hg hbox hb
                        clear hbox hb hg
                        refine hK.out _ _ (L.get 0 rfl) (fun _ => ?_)
                        clear hK K
                        refine norm_ (a' := ?_) ?_ ?_
                        rotate_left
                        · show Act.put _ (some 9) _ = _
                          simp only [Act.put, List.setIfInBounds_toArray, List.set_cons_zero, List.set_cons_succ, i64_w, i32_w]
                          rfl
                        exact norm_ (by first | (simp only [putAll, Act.put, List.setIfInBounds_toArray, List.set_cons_zero, List.set_cons_succ]; done) | (simp only [putAll, Act.put, List.setIfInBounds_toArray, List.set_cons_zero, List.set_cons_succ]; rfl)) (hJ0_1_2 (g9, g10, g11) _ L)
                      · skip
                        refine box_step ?hg (N := 12) ?hd (cs := #[.int .u8 0, .slice none 0 0, .slice none 0 0, .bool false, .slice none 0 0, .int .u8 0, .int .i64 0, .int .i64 0, .bool false, .int .u8 0]) (t := 27) ?hr ?_; (case hd => rfl); (case hg => rfl); (case hr => first | (go_simp; done) | (go_simp; rfl))
                        intro g12 hg w50 hbox hb
                        have L := L.more [(g4, _), (g5, _), (g10, _), (g11, _)] [] hg hbox hb
                        clear hbox hb hg
                        refine hK.out _ _ (L.get 0 rfl) (fun _ => ?_)
                        clear hK K
                        refine norm_ (a' := ?_) ?_ ?_
                        rotate_left
                        · show Act.put _ (some 12) _ = _
                          simp only [Act.put, List.setIfInBounds_toArray, List.set_cons_zero, List.set_cons_succ, i64_w, i32_w]
                          rfl
                        exact norm_ (by first | (simp only [putAll, Act.put, List.setIfInBounds_toArray, List.set_cons_zero, List.set_cons_succ]; done) | (simp only [putAll, Act.put, List.setIfInBounds_toArray, List.set_cons_zero, List.set_cons_succ]; rfl)) (hJ1_2_3 (g10, g11, g12) _ L)
                    clear L hHeld
                    rintro ⟨g9, g12⟩ w49 L
                    have hHeld : w49.heap[g4]? = some (.cells #[.int .u8 a, .slice A1 l1.length c1, .slice A2 l2.length c2, .bool false, .slice A4 l4.length c4, .int .u8 p0, .int .i64 p1, .int .i64 p2, .bool y, .int .u8 t] 27 (0, 0)) := L.get 0 rfl
                    refine norm_ (a' := ?_) ?_ ?_
                    rotate_left
                    · simp only [putAll, Act.put, List.setIfInBounds_toArray, List.set_cons_zero, List.set_cons_succ]
                      rfl
                    refine two_ (i := 5) (j := 6) (Ni := some 10) (Nj := some 11) #[true, true, true, true, true, true, false, true, false, false, false, false] #[true, true, true, true, true, false, true, true, false, false, false, false] rfl rfl rfl rfl (two_of HT_.out (by kernel_rfl)) (by decide) (by decide) (fun K hK => ?_) (fun K hK => ?_)
                    · skip
                      refine box_step ?hg (N := 10) ?hd (cs := #[.int .u8 0, .slice none 0 0, .slice none 0 0, .bool false, .slice none 0 0, .int .u8 0, .int .i64 0, .int .i64 0, .bool false, .int .u8 0]) (t := 27) ?hr ?_; (case hd => rfl); (case hg => rfl); (case hr => first | (go_simp; done) | (go_simp; rfl))
                      intro g10 hg w50 hbox hb
                      have L := L.more [(g4, _), (g5, _), (g9, _)] [(g12, _)] hg hbox hb
                      clear hbox hb hg
                      refine hK.out _ _ (L.get 0 rfl) (fun _ => ?_)
                      clear hK K
                      refine norm_ (a' := ?_) ?_ ?_
                      rotate_left
                      · show Act.put _ (some 10) _ = _
                        simp only [Act.put, List.setIfInBounds_toArray, List.set_cons_zero, List.set_cons_succ, i64_w, i32_w]
                        rfl
                      exact norm_ (by first | (simp only [putAll, Act.put, List.setIfInBounds_toArray, List.set_cons_zero, List.set_cons_succ]; done) | (simp only [putAll, Act.put, List.setIfInBounds_toArray, List.set_cons_zero, List.set_cons_succ]; rfl)) (hJ0_1_3 (g9, g10, g12) _ L)
                    · skip
                      refine box_step ?hg (N := 11) ?hd (cs := #[.int .u8 0, .slice none 0 0, .slice none 0 0, .bool false, .slice none 0 0, .int .u8 0, .int .i64 0, .int .i64 0, .bool false, .int .u8 0]) (t := 27) ?hr ?_; (case hd => rfl); (case hg => rfl); (case hr => first | (go_simp; done) | (go_simp; rfl))
                      intro g11 hg w50 hbox hb
                      have L := L.more [(g4, _), (g5, _), (g9, _)] [(g12, _)] hg hbox hb
                      clear hbox hb hg
                      refine hK.out _ _ (L.get 0 rfl) (fun _ => ?_)
                      clear hK K
                      refine norm_ (a' := ?_) ?_ ?_
                      rotate_left
                      · show Act.put _ (some 11) _ = _
                        simp only [Act.put, List.setIfInBounds_toArray, List.set_cons_zero, List.set_cons_succ, i64_w, i32_w]
                        rfl
                      exact norm_ (by first | (simp only [putAll, Act.put, List.setIfInBounds_toArray, List.set_cons_zero, List.set_cons_succ]; done) | (simp only [putAll, Act.put, List.setIfInBounds_toArray, List.set_cons_zero, List.set_cons_succ]; rfl)) (hJ0_2_3 (g9, g11, g12) _ L)
                  clear L hHeld
                  rintro ⟨g9, g11⟩ w49 L
                  have hHeld : w49.heap[g4]? = some (.cells #[.int .u8 a, .slice A1 l1.length c1, .slice A2 l2.length c2, .bool false, .slice A4 l4.length c4, .int .u8 p0, .int .i64 p1, .int .i64 p2, .bool y, .int .u8 t] 27 (0, 0)) := L.get 0 rfl
                  refine norm_ (a' := ?_) ?_ ?_
                  rotate_left
                  · simp only [putAll, Act.put, List.setIfInBounds_toArray, List.set_cons_zero, List.set_cons_succ]
                    rfl
                  refine two_ (i := 5) (j := 7) (Ni := some 10) (Nj := some 12) #[true, true, true, true, true, true, true, false, false, false, false, false] #[true, true, true, true, true, false, true, true, false, false, false, false] rfl rfl rfl rfl (two_of HT_.out (by kernel_rfl)) (by decide) (by decide) (fun K hK => ?_) (fun K hK => ?_)
                  · skip
                    refine box_step ?hg (N := 10) ?hd (cs := #[.int .u8 0, .slice none 0 0, .slice none 0 0, .bool false, .slice none 0 0, .int .u8 0, .int .i64 0, .int .i64 0, .bool false, .int .u8 0]) (t := 27) ?hr ?_; (case hd => rfl); (case hg => rfl); (case hr => first | (go_simp; done) | (go_simp; rfl))
                    intro g10 hg w50 hbox hb
                    have L := L.more [(g4, _), (g5, _), (g9, _)] [(g11, _)] hg hbox hb
                    clear hbox hb hg
                    refine hK.out _ _ (L.get 0 rfl) (fun _ => ?_)
                    clear hK K
                    refine norm_ (a' := ?_) ?_ ?_
                    rotate_left
                    · show Act.put _ (some 10) _ = _
                      simp only [Act.put, List.setIfInBounds_toArray, List.set_cons_zero, List.set_cons_succ, i64_w, i32_w]
                      rfl
                    exact norm_ (by first | (simp only [putAll, Act.put, List.setIfInBounds_toArray, List.set_cons_zero, List.set_cons_succ]; done) | (simp only [putAll, Act.put, List.setIfInBounds_toArray, List.set_cons_zero, List.set_cons_succ]; rfl)) (hJ0_1_2 (g9, g10, g11) _ L)
                  · skip
                    refine box_step ?hg (N := 12) ?hd (cs := #[.int .u8 0, .slice none 0 0, .slice none 0 0, .bool false, .slice none 0 0, .int .u8 0, .int .i64 0, .int .i64 0, .bool false, .int .u8 0]) (t := 27) ?hr ?_; (case hd => rfl); (case hg => rfl); (case hr => first | (go_simp; done) | (go_simp; rfl))
                    intro g12 hg w50 hbox hb
                    have L := L.more [(g4, _), (g5, _), (g9, _), (g11, _)] [] hg hbox hb
                    clear hbox hb hg
                    refine hK.out _ _ (L.get 0 rfl) (fun _ => ?_)
                    clear hK K
                    refine norm_ (a' := ?_) ?_ ?_
                    rotate_left
                    · show Act.put _ (some 12) _ = _
                      simp only [Act.put, List.setIfInBounds_toArray, List.set_cons_zero, List.set_cons_succ, i64_w, i32_w]
                      rfl
                    exact norm_ (by first | (simp only [putAll, Act.put, List.setIfInBounds_toArray, List.set_cons_zero, List.set_cons_succ]; done) | (simp only [putAll, Act.put, List.setIfInBounds_toArray, List.set_cons_zero, List.set_cons_succ]; rfl)) (hJ0_2_3 (g9, g11, g12) _ L)
                clear L hHeld
                rintro ⟨g9, g10⟩ w49 L
                have hHeld : w49.heap[g4]? = some (.cells #[.int .u8 a, .slice A1 l1.length c1, .slice A2 l2.length c2, .bool false, .slice A4 l4.length c4, .int .u8 p0, .int .i64 p1, .int .i64 p2, .bool y, .int .u8 t] 27 (0, 0)) := L.get 0 rfl
                refine norm_ (a' := ?_) ?_ ?_
                rotate_left
                · simp only [putAll, Act.put, List.setIfInBounds_toArray, List.set_cons_zero, List.set_cons_succ]
                  rfl
                refine two_ (i := 6) (j := 7) (Ni := some 11) (Nj := some 12) #[true, true, true, true, true, true, true, false, false, false, false, false] #[true, true, true, true, true, true, false, true, false, false, false, false] rfl rfl rfl rfl (two_of HT_.out (by kernel_rfl)) (by decide) (by decide) (fun K hK => ?_) (fun K hK => ?_)
                · skip
                  refine box_step ?hg (N := 11) ?hd (cs := #[.int .u8 0, .slice none 0 0, .slice none 0 0, .bool false, .slice none 0 0, .int .u8 0, .int .i64 0, .int .i64 0, .bool false, .int .u8 0]) (t := 27) ?hr ?_; (case hd => rfl); (case hg => rfl); (case hr => first | (go_simp; done) | (go_simp; rfl))
                  intro g11 hg w50 hbox hb
                  have L := L.more [(g4, _), (g5, _), (g9, _), (g10, _)] [] hg hbox hb
                  clear hbox hb hg
                  refine hK.out _ _ (L.get 0 rfl) (fun _ => ?_)
                  clear hK K
                  refine norm_ (a' := ?_) ?_ ?_
                  rotate_left
                  · show Act.put _ (some 11) _ = _
                    simp only [Act.put, List.setIfInBounds_toArray, List.set_cons_zero, List.set_cons_succ, i64_w, i32_w]
                    rfl
                  exact norm_ (by first | (simp only [putAll, Act.put, List.setIfInBounds_toArray, List.set_cons_zero, List.set_cons_succ]; done) | (simp only [putAll, Act.put, List.setIfInBounds_toArray, List.set_cons_zero, List.set_cons_succ]; rfl)) (hJ0_1_2 (g9, g10, g11) _ L)
                · skip
                  refine box_step ?hg (N := 12) ?hd (cs := #[.int .u8 0, .slice none 0 0, .slice none 0 0, .bool false, .slice none 0 0, .int .u8 0, .int .i64 0, .int .i64 0, .bool false, .int .u8 0]) (t := 27) ?hr ?_; (case hd => rfl); (case hg => rfl); (case hr => first | (go_simp; done) | (go_simp; rfl))
                  intro g12 hg w50 hbox hb
                  have L := L.more [(g4, _), (g5, _), (g9, _), (g10, _)] [] hg hbox hb
                  clear hbox hb hg
                  refine hK.out _ _ (L.get 0 rfl) (fun _ => ?_)
                  clear hK K
                  refine norm_ (a' := ?_) ?_ ?_
                  rotate_left
                  · show Act.put _ (some 12) _ = _
                    simp only [Act.put, List.setIfInBounds_toArray, List.set_cons_zero, List.set_cons_succ, i64_w, i32_w]
                    rfl
                  exact norm_ (by first | (simp only [putAll, Act.put, List.setIfInBounds_toArray, List.set_cons_zero, List.set_cons_succ]; done) | (simp only [putAll, Act.put, List.setIfInBounds_toArray, List.set_cons_zero, List.set_cons_succ]; rfl)) (hJ0_1_3 (g9, g10, g12) _ L)
              clear L hHeld
              rintro ⟨g10, g11, g12⟩ w49 L
              have hHeld : w49.heap[g4]? = some (.cells #[.int .u8 a, .slice A1 l1.length c1, .slice A2 l2.length c2, .bool false, .slice A4 l4.length c4, .int .u8 p0, .int .i64 p1, .int .i64 p2, .bool y, .int .u8 t] 27 (0, 0)) := L.get 0 rfl
              refine norm_ (a' := ?_) ?_ ?_
              rotate_left
              · simp only [putAll, Act.put, List.setIfInBounds_toArray, List.set_cons_zero, List.set_cons_succ]
                rfl
              refine one_ (i := 4) (N := some 9) #[true, true, true, true, true, true, true, true, false, false, false, false] rfl rfl (one_of HT_.out (by kernel_rfl)) (by decide) (fun K hK => ?_)
              refine box_step ?hg (N := 9) ?hd (cs := #[.int .u8 0, .slice none 0 0, .slice none 0 0, .bool false, .slice none 0 0, .int .u8 0, .int .i64 0, .int .i64 0, .bool false, .int .u8 0]) (t := 27) ?hr ?_; (case hd => rfl); (case hg => rfl); (case hr => first | (go_simp; done) | (go_simp; rfl))
              intro g9 hg w50 hbox hb
              have L := L.more [(g4, _), (g5, _)] [(g10, _), (g11, _), (g12, _)] hg hbox hb
              clear hbox hb hg
              refine hK.out _ _ (L.get 0 rfl) (fun _ => ?_)
              clear hK K
              refine norm_ (a' := ?_) ?_ ?_
              rotate_left
              · show Act.put _ (some 9) _ = _
                simp only [Act.put, List.setIfInBounds_toArray, List.set_cons_zero, List.set_cons_succ, i64_w, i32_w]
                rfl
              exact norm_ (by first | (simp only [putAll, Act.put, List.setIfInBounds_toArray, List.set_cons_zero, List.set_cons_succ]; done) | (simp only [putAll, Act.put, List.setIfInBounds_toArray, List.set_cons_zero, List.set_cons_succ]; rfl)) (hJ0_1_2_3 (g9, g10, g11, g12) _ L)
            clear L hHeld
            rintro ⟨g9, g11, g12⟩ w49 L
            have hHeld : w49.heap[g4]? = some (.cells #[.int .u8 a, .slice A1 l1.length c1, .slice A2 l2.length c2, .bool false, .slice A4 l4.length c4, .int .u8 p0, .int .i64 p1, .int .i64 p2, .bool y, .int .u8 t] 27 (0, 0)) := L.get 0 rfl
            refine norm_ (a' := ?_) ?_ ?_
            rotate_left
            · simp only [putAll, Act.put, List.setIfInBounds_toArray, List.set_cons_zero, List.set_cons_succ]
              rfl
            refine one_ (i := 5) (N := some 10) #[true, true, true, true, true, true, true, true, false, false, false, false] rfl rfl (one_of HT_.out (by kernel_rfl)) (by decide) (fun K hK => ?_)
            refine box_step ?hg (N := 10) ?hd (cs := #[.int .u8 0, .slice none 0 0, .slice none 0 0, .bool false, .slice none 0 0, .int .u8 0, .int .i64 0, .int .i64 0, .bool false, .int .u8 0]) (t := 27) ?hr ?_; (case hd => rfl); (case hg => rfl); (case hr => first | (go_simp; done) | (go_simp; rfl))
            intro g10 hg w50 hbox hb
            have L := L.more [(g4, _), (g5, _), (g9, _)] [(g11, _), (g12, _)] hg hbox hb
            clear hbox hb hg
            refine hK.out _ _ (L.get 0 rfl) (fun _ => ?_)
            clear hK K
            refine norm_ (a' := ?_) ?_ ?_
            rotate_left
            · show Act.put _ (some 10) _ = _
              simp only [Act.put, List.setIfInBounds_toArray, List.set_cons_zero, List.set_cons_succ, i64_w, i32_w]
              rfl
            exact norm_ (by first | (simp only [putAll, Act.put, List.setIfInBounds_toArray, List.set_cons_zero, List.set_cons_succ]; done) | (simp only [putAll, Act.put, List.setIfInBounds_toArray, List.set_cons_zero, List.set_cons_succ]; rfl)) (hJ0_1_2_3 (g9, g10, g11, g12) _ L)
          clear L hHeld
          rintro ⟨g9, g10, g12⟩ w49 L
          have hHeld : w49.heap[g4]? = some (.cells #[.int .u8 a, .slice A1 l1.length c1, .slice A2 l2.length c2, .bool false, .slice A4 l4.length c4, .int .u8 p0, .int .i64 p1, .int .i64 p2, .bool y, .int .u8 t] 27 (0, 0)) := L.get 0 rfl
          refine norm_ (a' := ?_) ?_ ?_
          rotate_left
          · simp only [putAll, Act.put, List.setIfInBounds_toArray, List.set_cons_zero, List.set_cons_succ]
            rfl
          refine one_ (i := 6) (N := some 11) #[true, true, true, true, true, true, true, true, false, false, false, false] rfl rfl (one_of HT_.out (by kernel_rfl)) (by decide) (fun K hK => ?_)
          refine box_step ?hg (N := 11) ?hd (cs := #[.int .u8 0, .slice none 0 0, .slice none 0 0, .bool false, .slice none 0 0, .int .u8 0, .int .i64 0, .int .i64 0, .bool false, .int .u8 0]) (t := 27) ?hr ?_; (case hd => rfl); (case hg => rfl); (case hr => first | (go_simp; done) | (go_simp; rfl))
          intro g11 hg w50 hbox hb
          have L := L.more [(g4, _), (g5, _), (g9, _), (g10, _)] [(g12, _)] hg hbox hb
          clear hbox hb hg
          refine hK.out _ _ (L.get 0 rfl) (fun _ => ?_)
          clear hK K
          refine norm_ (a' := ?_) ?_ ?_
          rotate_left
          · show Act.put _ (some 11) _ = _
            simp only [Act.put, List.setIfInBounds_toArray, List.set_cons_zero, List.set_cons_succ, i64_w, i32_w]
            rfl
          exact norm_ (by first | (simp only [putAll, Act.put, List.setIfInBounds_toArray, List.set_cons_zero, List.set_cons_succ]; done) | (simp only [putAll, Act.put, List.setIfInBounds_toArray, List.set_cons_zero, List.set_cons_succ]; rfl)) (hJ0_1_2_3 (g9, g10, g11, g12) _ L)
        clear L hHeld
        rintro ⟨g9, g10, g11⟩ w49 L
        have hHeld : w49.heap[g4]? = some (.cells #[.int .u8 a, .slice A1 l1.length c1, .slice A2 l2.length c2, .bool false, .slice A4 l4.length c4, .int .u8 p0, .int .i64 p1, .int .i64 p2, .bool y, .int .u8 t] 27 (0, 0)) := L.get 0 rfl
        refine norm_ (a' := ?_) ?_ ?_
        rotate_left
        · simp only [putAll, Act.put, List.setIfInBounds_toArray, List.set_cons_zero, List.set_cons_succ]
          rfl
        refine one_ (i := 7) (N := some 12) #[true, true, true, true, true, true, true, true, false, false, false, false] rfl rfl (one_of HT_.out (by kernel_rfl)) (by decide) (fun K hK => ?_)
        refine box_step ?hg (N := 12) ?hd (cs := #[.int .u8 0, .slice none 0 0, .slice none 0 0, .bool false, .slice none 0 0, .int .u8 0, .int .i64 0, .int .i64 0, .bool false, .int .u8 0]) (t := 27) ?hr ?_; (case hd => rfl); (case hg => rfl); (case hr => first | (go_simp; done) | (go_simp; rfl))
        intro g12 hg w50 hbox hb
        have L := L.more [(g4, _), (g5, _), (g9, _), (g10, _), (g11, _)] [] hg hbox hb
        clear hbox hb hg
        refine hK.out _ _ (L.get 0 rfl) (fun _ => ?_)
        clear hK K
        refine norm_ (a' := ?_) ?_ ?_
        rotate_left
        · show Act.put _ (some 12) _ = _
          simp only [Act.put, List.setIfInBounds_toArray, List.set_cons_zero, List.set_cons_succ, i64_w, i32_w]
          rfl
        exact norm_ (by first | (simp only [putAll, Act.put, List.setIfInBounds_toArray, List.set_cons_zero, List.set_cons_succ]; done) | (simp only [putAll, Act.put, List.setIfInBounds_toArray, List.set_cons_zero, List.set_cons_succ]; rfl)) (hJ0_1_2_3 (g9, g10, g11, g12) _ L)
      clear L hHeld
      rintro ⟨g9, g10, g11, g12⟩ w49 L
      have hHeld : w49.heap[g4]? = some (.cells #[.int .u8 a, .slice A1 l1.length c1, .slice A2 l2.length c2, .bool false, .slice A4 l4.length c4, .int .u8 p0, .int .i64 p1, .int .i64 p2, .bool y, .int .u8 t] 27 (0, 0)) := L.get 0 rfl
      refine norm_ (a' := ?_) ?_ ?_
      rotate_left
      · simp only [putAll, Act.put, List.setIfInBounds_toArray, List.set_cons_zero, List.set_cons_succ]
        rfl
      refine one_ (i := 8) (N := none) #[true, true, true, true, true, true, true, true, true, false, false, false] rfl rfl (one_of HT_.out (by kernel_rfl)) (by decide) (fun K hK => ?_)
      refine query_cells_ (L.get 2 rfl) fun z0 z1 z2 z3 z4 z5 z6 z7 z8 z9 f0 f1 f2 f3 f4 f5 f6 f7 f8 f9 => ?_
      refine skip_ (w1 := ?_) (by rfl) rfl ?_ ?_
      rotate_left
      · go_simp
        rfl
      replace L := Lie.fill10 [(g4, _), (g5, _)] [(g10, _), (g11, _), (g12, _)] L (.int .u8 a) (.slice A1 l1.length c1) (.slice A2 l2.length c2) (.bool false) (.slice A4 l4.length c4) (.int .u8 p0) (.int .i64 p1) (.int .i64 p2) (.bool y) (.int .u8 t)
      refine hK.out _ _ (L.get 0 rfl) (fun _ => ?_)
      clear hK K z0 z1 z2 z3 z4 z5 z6 z7 z8 z9 f0 f1 f2 f3 f4 f5 f6 f7 f8 f9
      refine gen_any (Lie w [(g4, .cells #[.int .u8 a, .slice A1 l1.length c1, .slice A2 l2.length c2, .bool false, .slice A4 l4.length c4, .int .u8 p0, .int .i64 p1, .int .i64 p2, .bool y, .int .u8 t] 27 (0, 0)), (g5, .cells #[.int .u8 v0, .int .i64 v1, .int .i64 v2] 25 (0, 0)), (g9, .cells #[.int .u8 a, .slice A1 l1.length c1, .slice A2 l2.length c2, .bool false, .slice A4 l4.length c4, .int .u8 p0, .int .i64 p1, .int .i64 p2, .bool y, .int .u8 t] 27 (0, 0)), (g10, Z27), (g11, Z27), (g12, Z27)]) L ?_
      clear L hHeld
      intro w60 L
      have hHeld : w60.heap[g4]? = some (.cells #[.int .u8 a, .slice A1 l1.length c1, .slice A2 l2.length c2, .bool false, .slice A4 l4.length c4, .int .u8 p0, .int .i64 p1, .int .i64 p2, .bool y, .int .u8 t] 27 (0, 0)) := L.get 0 rfl
      refine one_ (i := 9) (N := none) #[true, true, true, true, true, true, true, true, true, true, false, false] rfl rfl (one_of HT_.out (by kernel_rfl)) (by decide) (fun K hK => ?_)
      refine query_cells_ (L.get 3 rfl) fun z0 z1 z2 z3 z4 z5 z6 z7 z8 z9 f0 f1 f2 f3 f4 f5 f6 f7 f8 f9 => ?_
      refine skip_ (w1 := ?_) (by rfl) rfl ?_ ?_
      rotate_left
      · go_simp
        rfl
      replace L := Lie.fill10 [(g4, _), (g5, _), (g9, _)] [(g11, _), (g12, _)] L (.int .u8 a) (.slice A1 l1.length c1) (.slice A2 l2.length c2) (.bool false) (.slice A4 l4.length c4) (.int .u8 p0) (.int .i64 p1) (.int .i64 p2) (.bool y) (.int .u8 t)
      refine hK.out _ _ (L.get 0 rfl) (fun _ => ?_)
      clear hK K z0 z1 z2 z3 z4 z5 z6 z7 z8 z9 f0 f1 f2 f3 f4 f5 f6 f7 f8 f9
      refine gen_any (Lie w [(g4, .cells #[.int .u8 a, .slice A1 l1.length c1, .slice A2 l2.length c2, .bool false, .slice A4 l4.length c4, .int .u8 p0, .int .i64 p1, .int .i64 p2, .bool y, .int .u8 t] 27 (0, 0)), (g5, .cells #[.int .u8 v0, .int .i64 v1, .int .i64 v2] 25 (0, 0)), (g9, .cells #[.int .u8 a, .slice A1 l1.length c1, .slice A2 l2.length c2, .bool false, .slice A4 l4.length c4, .int .u8 p0, .int .i64 p1, .int .i64 p2, .bool y, .int .u8 t] 27 (0, 0)), (g10, .cells #[.int .u8 a, .slice A1 l1.length c1, .slice A2 l2.length c2, .bool false, .slice A4 l4.length c4, .int .u8 p0, .int .i64 p1, .int .i64 p2, .bool y, .int .u8 t] 27 (0, 0)), (g11, Z27), (g12, Z27)]) L ?_
      clear L hHeld
      intro w61 L
      have hHeld : w61.heap[g4]? = some (.cells #[.int .u8 a, .slice A1 l1.length c1, .slice A2 l2.length c2, .bool false, .slice A4 l4.length c4, .int .u8 p0, .int .i64 p1, .int .i64 p2, .bool y, .int .u8 t] 27 (0, 0)) := L.get 0 rfl
      refine one_ (i := 10) (N := none) #[true, true, true, true, true, true, true, true, true, true, true, false] rfl rfl (one_of HT_.out (by kernel_rfl)) (by decide) (fun K hK => ?_)
      refine query_cells_ (L.get 4 rfl) fun z0 z1 z2 z3 z4 z5 z6 z7 z8 z9 f0 f1 f2 f3 f4 f5 f6 f7 f8 f9 => ?_
      refine skip_ (w1 := ?_) (by rfl) rfl ?_ ?_
      rotate_left
      · go_simp
        rfl
      replace L := Lie.fill10 [(g4, _), (g5, _), (g9, _), (g10, _)] [(g12, _)] L (.int .u8 a) (.slice A1 l1.length c1) (.slice A2 l2.length c2) (.bool false) (.slice A4 l4.length c4) (.int .u8 p0) (.int .i64 p1) (.int .i64 p2) (.bool y) (.int .u8 t)
      refine hK.out _ _ (L.get 0 rfl) (fun _ => ?_)
      clear hK K z0 z1 z2 z3 z4 z5 z6 z7 z8 z9 f0 f1 f2 f3 f4 f5 f6 f7 f8 f9
      refine gen_any (Lie w [(g4, .cells #[.int .u8 a, .slice A1 l1.length c1, .slice A2 l2.length c2, .bool false, .slice A4 l4.length c4, .int .u8 p0, .int .i64 p1, .int .i64 p2, .bool y, .int .u8 t] 27 (0, 0)), (g5, .cells #[.int .u8 v0, .int .i64 v1, .int .i64 v2] 25 (0, 0)), (g9, .cells #[.int .u8 a, .slice A1 l1.length c1, .slice A2 l2.length c2, .bool false, .slice A4 l4.length c4, .int .u8 p0, .int .i64 p1, .int .i64 p2, .bool y, .int .u8 t] 27 (0, 0)), (g10, .cells #[.int .u8 a, .slice A1 l1.length c1, .slice A2 l2.length c2, .bool false, .slice A4 l4.length c4, .int .u8 p0, .int .i64 p1, .int .i64 p2, .bool y, .int .u8 t] 27 (0, 0)), (g11, .cells #[.int .u8 a, .slice A1 l1.length c1, .slice A2 l2.length c2, .bool false, .slice A4 l4.length c4, .int .u8 p0, .int .i64 p1, .int .i64 p2, .bool y, .int .u8 t] 27 (0, 0)), (g12, Z27)]) L ?_
      clear L hHeld
      intro w62 L
      have hHeld : w62.heap[g4]? = some (.cells #[.int .u8 a, .slice A1 l1.length c1, .slice A2 l2.length c2, .bool false, .slice A4 l4.length c4, .int .u8 p0, .int .i64 p1, .int .i64 p2, .bool y, .int .u8 t] 27 (0, 0)) := L.get 0 rfl
      refine one_ (i := 11) (N := none) #[true, true, true, true, true, true, true, true, true, true, true, true] rfl rfl (one_of HT_.out (by kernel_rfl)) (by decide) (fun K hK => ?_)
      refine query_cells_ (L.get 5 rfl) fun z0 z1 z2 z3 z4 z5 z6 z7 z8 z9 f0 f1 f2 f3 f4 f5 f6 f7 f8 f9 => ?_
      refine skip_ (w1 := ?_) (by rfl) rfl ?_ ?_
      rotate_left
      · go_simp
        rfl
      replace L := Lie.fill10 [(g4, _), (g5, _), (g9, _), (g10, _), (g11, _)] [] L (.int .u8 a) (.slice A1 l1.length c1) (.slice A2 l2.length c2) (.bool false) (.slice A4 l4.length c4) (.int .u8 p0) (.int .i64 p1) (.int .i64 p2) (.bool y) (.int .u8 t)
      refine hK.out _ _ (L.get 0 rfl) (fun _ => ?_)
      clear hK K z0 z1 z2 z3 z4 z5 z6 z7 z8 z9 f0 f1 f2 f3 f4 f5 f6 f7 f8 f9
      refine gen_any (Lie w [(g4, .cells #[.int .u8 a, .slice A1 l1.length c1, .slice A2 l2.length c2, .bool false, .slice A4 l4.length c4, .int .u8 p0, .int .i64 p1, .int .i64 p2, .bool y, .int .u8 t] 27 (0, 0)), (g5, .cells #[.int .u8 v0, .int .i64 v1, .int .i64 v2] 25 (0, 0)), (g9, .cells #[.int .u8 a, .slice A1 l1.length c1, .slice A2 l2.length c2, .bool false, .slice A4 l4.length c4, .int .u8 p0, .int .i64 p1, .int .i64 p2, .bool y, .int .u8 t] 27 (0, 0)), (g10, .cells #[.int .u8 a, .slice A1 l1.length c1, .slice A2 l2.length c2, .bool false, .slice A4 l4.length c4, .int .u8 p0, .int .i64 p1, .int .i64 p2, .bool y, .int .u8 t] 27 (0, 0)), (g11, .cells #[.int .u8 a, .slice A1 l1.length c1, .slice A2 l2.length c2, .bool false, .slice A4 l4.length c4, .int .u8 p0, .int .i64 p1, .int .i64 p2, .bool y, .int .u8 t] 27 (0, 0)), (g12, .cells #[.int .u8 a, .slice A1 l1.length c1, .slice A2 l2.length c2, .bool false, .slice A4 l4.length c4, .int .u8 p0, .int .i64 p1, .int .i64 p2, .bool y, .int .u8 t] 27 (0, 0))]) L ?_
      clear L hHeld
      intro w63 L
      have hHeld : w63.heap[g4]? = some (.cells #[.int .u8 a, .slice A1 l1.length c1, .slice A2 l2.length c2, .bool false, .slice A4 l4.length c4, .int .u8 p0, .int .i64 p1, .int .i64 p2, .bool y, .int .u8 t] 27 (0, 0)) := L.get 0 rfl
      refine done_ (done_of HT_.out (by kernel_rfl)) ?_
      clear HT_ HW_ hHeld
      refine query_cells_ (L.get 2 rfl) fun z9_0 z9_1 z9_2 z9_3 z9_4 z9_5 z9_6 z9_7 z9_8 z9_9 f9_0 f9_1 f9_2 f9_3 f9_4 f9_5 f9_6 f9_7 f9_8 f9_9 => ?_
      refine query_cells_ (L.get 3 rfl) fun z10_0 z10_1 z10_2 z10_3 z10_4 z10_5 z10_6 z10_7 z10_8 z10_9 f10_0 f10_1 f10_2 f10_3 f10_4 f10_5 f10_6 f10_7 f10_8 f10_9 => ?_
      refine query_cells_ (L.get 4 rfl) fun z11_0 z11_1 z11_2 z11_3 z11_4 z11_5 z11_6 z11_7 z11_8 z11_9 f11_0 f11_1 f11_2 f11_3 f11_4 f11_5 f11_6 f11_7 f11_8 f11_9 => ?_
      refine query_cells_ (L.get 5 rfl) fun z12_0 z12_1 z12_2 z12_3 z12_4 z12_5 z12_6 z12_7 z12_8 z12_9 f12_0 f12_1 f12_2 f12_3 f12_4 f12_5 f12_6 f12_7 f12_8 f12_9 => ?_
      refine win_cells_ (L.get 1 rfl) fun z5_0 z5_1 z5_2 f5_0 f5_1 f5_2 => ?_
      have hn2_3 := L.ne 2 3 rfl rfl (by decide)
      have hn2_4 := L.ne 2 4 rfl rfl (by decide)
      have hn2_5 := L.ne 2 5 rfl rfl (by decide)
      have hn3_2 := L.ne 3 2 rfl rfl (by decide)
      have hn3_4 := L.ne 3 4 rfl rfl (by decide)
      have hn3_5 := L.ne 3 5 rfl rfl (by decide)
      have hn4_2 := L.ne 4 2 rfl rfl (by decide)
      have hn4_3 := L.ne 4 3 rfl rfl (by decide)
      have hn4_5 := L.ne 4 5 rfl rfl (by decide)
      have hn5_2 := L.ne 5 2 rfl rfl (by decide)
      have hn5_3 := L.ne 5 3 rfl rfl (by decide)
      have hn5_4 := L.ne 5 4 rfl rfl (by decide)
      try go_wp2_with (first | ((with_reducible refine gate_callee (f := 45) rfl ?_); have n_ := ((((((L.put [(g4, _), (g5, _)] [(g10, _), (g11, _), (g12, _)] 5 (.int .u8 v0)).put [(g4, _), (g5, _)] [(g10, _), (g11, _), (g12, _)] 6 (.int .i64 v1)).put [(g4, _), (g5, _)] [(g10, _), (g11, _), (g12, _)] 7 (.int .i64 v2)).put [(g4, _), (g5, _), (g9, _)] [(g11, _), (g12, _)] 2 (.slice A5 l5.length c5)).put [(g4, _), (g5, _), (g9, _), (g10, _)] [(g12, _)] 4 (.slice A6 l6.length c6)).put [(g4, _), (g5, _), (g9, _), (g10, _), (g11, _)] [] 1 (.slice A6 l6.length c6)).put [(g4, _), (g5, _), (g9, _), (g10, _), (g11, _)] [] 0 (.int .u8 4); refine goesL_ (some 52) rfl rfl Try.func45 (by kernel_rfl) rfl #[.slice A6 l6.length c6] rfl (by (try simp only [List.map_toArray, List.map_cons, List.map_nil]); first | done | rfl | (simp only [List.length_drop, List.length_take]; rfl)) ?_; refine (nodes_Check.calls 500 _ _ l6 te _ (Kd.C_below H6.out.1 n_.bel) H6.out.2 EE_.out).mono ?_; rintro e w45 ⟨rfl, hb⟩; refine ⟨_, rfl, ?_⟩; replace L := n_.step hb; clear n_ hb))
      have L : Lie w [(g4, .cells #[.int .u8 a, .slice A1 l1.length c1, .slice A2 l2.length c2, .bool false, .slice A4 l4.length c4, .int .u8 p0, .int .i64 p1, .int .i64 p2, .bool y, .int .u8 t] 27 (0, 0)), (g5, .cells #[.int .u8 v0, .int .i64 v1, .int .i64 v2] 25 (0, 0)), (g9, .cells #[.int .u8 a, .slice A1 l1.length c1, .slice A2 l2.length c2, .bool false, .slice A4 l4.length c4, .int .u8 v0, .int .i64 v1, .int .i64 v2, .bool y, .int .u8 t] 27 (0, 0)), (g10, .cells #[.int .u8 a, .slice A1 l1.length c1, .slice A5 l5.length c5, .bool false, .slice A4 l4.length c4, .int .u8 p0, .int .i64 p1, .int .i64 p2, .bool y, .int .u8 t] 27 (0, 0)), (g11, .cells #[.int .u8 a, .slice A1 l1.length c1, .slice A2 l2.length c2, .bool false, .slice A6 l6.length c6, .int .u8 p0, .int .i64 p1, .int .i64 p2, .bool y, .int .u8 t] 27 (0, 0)), (g12, .cells #[.int .u8 4, .slice A6 l6.length c6, .slice A2 l2.length c2, .bool false, .slice A4 l4.length c4, .int .u8 p0, .int .i64 p1, .int .i64 p2, .bool y, .int .u8 t] 27 (0, 0))] w45 := L
      clear z9_0 z9_1 z9_2 z9_3 z9_4 z9_5 z9_6 z9_7 z9_8 z9_9 f9_0 f9_1 f9_2 f9_3 f9_4 f9_5 f9_6 f9_7 f9_8 f9_9 z10_0 z10_1 z10_2 z10_3 z10_4 z10_5 z10_6 z10_7 z10_8 z10_9 f10_0 f10_1 f10_2 f10_3 f10_4 f10_5 f10_6 f10_7 f10_8 f10_9 z11_0 z11_1 z11_2 z11_3 z11_4 z11_5 z11_6 z11_7 z11_8 z11_9 f11_0 f11_1 f11_2 f11_3 f11_4 f11_5 f11_6 f11_7 f11_8 f11_9 z12_0 z12_1 z12_2 z12_3 z12_4 z12_5 z12_6 z12_7 z12_8 z12_9 f12_0 f12_1 f12_2 f12_3 f12_4 f12_5 f12_6 f12_7 f12_8 f12_9 z5_0 z5_1 z5_2 f5_0 f5_1 f5_2 hn2_3 hn2_4 hn2_5 hn3_2 hn3_4 hn3_5 hn4_2 hn4_3 hn4_5 hn5_2 hn5_3 hn5_4
      go_cut [70] (fun v70 wc => v70 = .bool false ∧ Lie w [(g4, .cells #[.int .u8 a, .slice A1 l1.length c1, .slice A2 l2.length c2, .bool false, .slice A4 l4.length c4, .int .u8 p0, .int .i64 p1, .int .i64 p2, .bool y, .int .u8 t] 27 (0, 0)), (g5, .cells #[.int .u8 v0, .int .i64 v1, .int .i64 v2] 25 (0, 0)), (g9, .cells #[.int .u8 a, .slice A1 l1.length c1, .slice A2 l2.length c2, .bool false, .slice A4 l4.length c4, .int .u8 v0, .int .i64 v1, .int .i64 v2, .bool y, .int .u8 t] 27 (0, 0)), (g10, .cells #[.int .u8 a, .slice A1 l1.length c1, .slice A5 l5.length c5, .bool false, .slice A4 l4.length c4, .int .u8 p0, .int .i64 p1, .int .i64 p2, .bool y, .int .u8 t] 27 (0, 0)), (g11, .cells #[.int .u8 a, .slice A1 l1.length c1, .slice A2 l2.length c2, .bool false, .slice A6 l6.length c6, .int .u8 p0, .int .i64 p1, .int .i64 p2, .bool y, .int .u8 t] 27 (0, 0)), (g12, .cells #[.int .u8 4, .slice A6 l6.length c6, .slice A2 l2.length c2, .bool false, .slice A4 l4.length c4, .int .u8 p0, .int .i64 p1, .int .i64 p2, .bool y, .int .u8 t] 27 (0, 0))] wc)
      case first =>
        try go_wp2
        replace L := L.drew
        refine start_ (n := 18) (S := fun w' => w'.heap[g5]? = some (.cells #[.int .u8 v0, .int .i64 v1, .int .i64 v2] 25 (0, 0)) ∧ w'.heap[g9]? = some (.cells #[.int .u8 a, .slice A1 l1.length c1, .slice A2 l2.length c2, .bool false, .slice A4 l4.length c4, .int .u8 v0, .int .i64 v1, .int .i64 v2, .bool y, .int .u8 t] 27 (0, 0)) ∧ w'.heap[g10]? = some (.cells #[.int .u8 a, .slice A1 l1.length c1, .slice A5 l5.length c5, .bool false, .slice A4 l4.length c4, .int .u8 p0, .int .i64 p1, .int .i64 p2, .bool y, .int .u8 t] 27 (0, 0)) ∧ w'.heap[g12]? = some (.cells #[.int .u8 4, .slice A6 l6.length c6, .slice A2 l2.length c2, .bool false, .slice A4 l4.length c4, .int .u8 p0, .int .i64 p1, .int .i64 p2, .bool y, .int .u8 t] 27 (0, 0))) (ds := []) #[false, false, false, false, false, false, false, false, false, false, false, false, false, false, false, false, false, false] (by kernel_rfl) rfl rfl ⟨L.get 1 rfl, L.get 2 rfl, L.get 3 rfl, L.get 5 rfl⟩ (fun hHeld => ?_); refine with_tabW tab9 bits9 (fun HT_ HW_ => ?_)
        generalize w45.drew = w90 at L hHeld ⊢
        refine take_ (i := 0) (N := some 53) (v := ?_) (a' := ?_) #[true, false, false, false, false, false, false, false, false, false, false, false, false, false, false, false, false, false] rfl rfl (take_ofW HT_.out HW_.out (by kernel_rfl)) (fun _ _ _ h => h) (Or.inl ⟨by rfl, ?_⟩) ⟨L.get 1 rfl, L.get 2 rfl, L.get 3 rfl, L.get 5 rfl⟩ ?_ ?_
        rotate_left
        · intro w' hS
          refine query_cells_ (hS.2.1) fun z0 z1 z2 z3 z4 z5 z6 z7 z8 z9 f0 f1 f2 f3 f4 f5 f6 f7 f8 f9 => ?_
          go_simp
          with_reducible rfl
        rotate_left
        · simp only [Act.put, List.setIfInBounds_toArray, List.set_cons_zero, List.set_cons_succ, i64_w, i32_w]
          rfl
        refine take_ (i := 2) (N := some 55) (v := ?_) (a' := ?_) #[true, false, true, false, false, false, false, false, false, false, false, false, false, false, false, false, false, false] rfl rfl (take_ofW HT_.out HW_.out (by kernel_rfl)) (fun _ _ _ h => h) (Or.inl ⟨by rfl, ?_⟩) ⟨L.get 1 rfl, L.get 2 rfl, L.get 3 rfl, L.get 5 rfl⟩ ?_ ?_
        rotate_left
        · intro w' hS
          refine win_cells_ (hS.1) fun z0 z1 z2 f0 f1 f2 => ?_
          go_simp
          with_reducible rfl
        rotate_left
        · simp only [Act.put, List.setIfInBounds_toArray, List.set_cons_zero, List.set_cons_succ, i64_w, i32_w]
          rfl
        refine one_ (i := 1) (N := some 54) #[true, true, true, false, false, false, false, false, false, false, false, false, false, false, false, false, false, false] rfl rfl (one_of HT_.out (by kernel_rfl)) (by decide) (fun K hK => ?_)
        refine goes_ Try.func26 (by kernel_rfl) rfl #[.agg #[.int .u8 a, .slice A1 l1.length c1, .slice A2 l2.length c2, .bool false, .slice A4 l4.length c4, .int .u8 v0, .int .i64 v1, .int .i64 v2, .bool y, .int .u8 t]] (by rfl) rfl rfl (by (try simp only [List.map_toArray, List.map_cons, List.map_nil]); first | done | rfl | (simp only [List.length_drop, List.length_take]; rfl)) ?_
        refine (call26 O L.bel EA_.out).mono ?_
        rintro e w91 ⟨rfl, hb⟩
        refine ⟨_, rfl, ?_⟩
        replace L := L.step hb
        clear hb
        refine hK.out _ _ ⟨L.get 1 rfl, L.get 2 rfl, L.get 3 rfl, L.get 5 rfl⟩ (fun _ => ?_)
        clear hK K hHeld
        refine norm_ (a' := ?_) ?_ ?_
        rotate_left
        · show Act.put _ (some 54) _ = _
          simp only [Act.put, List.setIfInBounds_toArray, List.set_cons_zero, List.set_cons_succ, i64_w, i32_w]
          rfl
        have hHeld := And.intro (L.get 1 rfl) (And.intro (L.get 2 rfl) (And.intro (L.get 3 rfl) (L.get 5 rfl)))
        refine one_ (i := 3) (N := some 56) #[true, true, true, true, false, false, false, false, false, false, false, false, false, false, false, false, false, false] rfl rfl (one_of HT_.out (by kernel_rfl)) (by decide) (fun K hK => ?_)
        refine goes_ Try.func22 (by kernel_rfl) rfl #[.agg #[.int .u8 v0, .int .i64 v1, .int .i64 v2]] (by rfl) rfl rfl (by (try simp only [List.map_toArray, List.map_cons, List.map_nil]); first | done | rfl | (simp only [List.length_drop, List.length_take]; rfl)) ?_
        refine (clauses_Window.calls 500 v0 v1 v2 tw _ EW_.out).mono ?_
        rintro e w91 ⟨rfl, hb⟩
        refine ⟨_, rfl, ?_⟩
        replace L := L.step hb
        clear hb
        refine hK.out _ _ ⟨L.get 1 rfl, L.get 2 rfl, L.get 3 rfl, L.get 5 rfl⟩ (fun _ => ?_)
        clear hK K hHeld
        refine norm_ (a' := ?_) ?_ ?_
        rotate_left
        · show Act.put _ (some 56) _ = _
          simp only [Act.put, List.setIfInBounds_toArray, List.set_cons_zero, List.set_cons_succ, i64_w, i32_w]
          rfl
        have hHeld := And.intro (L.get 1 rfl) (And.intro (L.get 2 rfl) (And.intro (L.get 3 rfl) (L.get 5 rfl)))
        refine pure_ (i := 4) (N := some 57) (v := ?_) (a' := ?_) #[true, true, true, true, true, false, false, false, false, false, false, false, false, false, false, false, false, false] rfl rfl (any_of HT_.out (by kernel_rfl)) (fun _ _ _ h => h) (Or.inl ⟨by rfl, ?_⟩) ?_ ?_
        rotate_left
        · intro w'
          go_simp
          with_reducible rfl
        rotate_left
        · simp only [Act.put, List.setIfInBounds_toArray, List.set_cons_zero, List.set_cons_succ, i64_w, i32_w]
          rfl
        refine pure_ (i := 5) (N := some 58) (v := ?_) (a' := ?_) #[true, true, true, true, true, true, false, false, false, false, false, false, false, false, false, false, false, false] rfl rfl (any_of HT_.out (by kernel_rfl)) (fun _ _ _ h => h) (Or.inl ⟨by rfl, ?_⟩) ?_ ?_
        rotate_left
        · intro w'
          go_simp
          with_reducible rfl
        rotate_left
        · simp only [Act.put, List.setIfInBounds_toArray, List.set_cons_zero, List.set_cons_succ, i64_w, i32_w]
          rfl
        refine pure_ (i := 8) (N := some 61) (v := ?_) (a' := ?_) #[true, true, true, true, true, true, false, false, true, false, false, false, false, false, false, false, false, false] rfl rfl (any_of HT_.out (by kernel_rfl)) (fun _ _ _ h => h) (Or.inl ⟨by rfl, ?_⟩) ?_ ?_
        rotate_left
        · intro w'
          go_simp
          with_reducible rfl
        rotate_left
        · simp only [Act.put, List.setIfInBounds_toArray, List.set_cons_zero, List.set_cons_succ, i64_w, i32_w]
          rfl
        refine take_ (i := 6) (N := some 59) (v := ?_) (a' := ?_) #[true, true, true, true, true, true, true, false, true, false, false, false, false, false, false, false, false, false] rfl rfl (take_ofW HT_.out HW_.out (by kernel_rfl)) (fun _ _ _ h => h) (Or.inl ⟨by rfl, ?_⟩) ⟨L.get 1 rfl, L.get 2 rfl, L.get 3 rfl, L.get 5 rfl⟩ ?_ ?_
        rotate_left
        · intro w' hS
          refine query_cells_ (hS.2.2.1) fun z0 z1 z2 z3 z4 z5 z6 z7 z8 z9 f0 f1 f2 f3 f4 f5 f6 f7 f8 f9 => ?_
          go_simp
          with_reducible rfl
        rotate_left
        · simp only [Act.put, List.setIfInBounds_toArray, List.set_cons_zero, List.set_cons_succ, i64_w, i32_w]
          rfl
        refine one_ (i := 7) (N := some 60) #[true, true, true, true, true, true, true, true, true, false, false, false, false, false, false, false, false, false] rfl rfl (one_of HT_.out (by kernel_rfl)) (by decide) (fun K hK => ?_)
        refine goes_ Try.func26 (by kernel_rfl) rfl #[.agg #[.int .u8 a, .slice A1 l1.length c1, .slice A5 l5.length c5, .bool false, .slice A4 l4.length c4, .int .u8 p0, .int .i64 p1, .int .i64 p2, .bool y, .int .u8 t]] (by rfl) rfl rfl (by (try simp only [List.map_toArray, List.map_cons, List.map_nil]); first | done | rfl | (simp only [List.length_drop, List.length_take]; rfl)) ?_
        refine (call26 OB L.bel EB_.out).mono ?_
        rintro e w91 ⟨rfl, hb⟩
        refine ⟨_, rfl, ?_⟩
        replace L := L.step hb
        clear hb
        refine hK.out _ _ ⟨L.get 1 rfl, L.get 2 rfl, L.get 3 rfl, L.get 5 rfl⟩ (fun _ => ?_)
        clear hK K hHeld
        refine norm_ (a' := ?_) ?_ ?_
        rotate_left
        · show Act.put _ (some 60) _ = _
          simp only [Act.put, List.setIfInBounds_toArray, List.set_cons_zero, List.set_cons_succ, i64_w, i32_w]
          rfl
        have hHeld := And.intro (L.get 1 rfl) (And.intro (L.get 2 rfl) (And.intro (L.get 3 rfl) (L.get 5 rfl)))
        refine one_ (i := 9) (N := some 62) #[true, true, true, true, true, true, true, true, true, true, false, false, false, false, false, false, false, false] rfl rfl (one_of HT_.out (by kernel_rfl)) (by decide) (fun K hK => ?_)
        refine goes_ Try.func24 (by kernel_rfl) rfl #[.slice A5 l5.length c5, .bool false] (by rfl) rfl rfl (by (try simp only [List.map_toArray, List.map_cons, List.map_nil]); first | done | rfl | (simp only [List.length_drop, List.length_take]; rfl)) ?_
        refine (clauses_Sources.calls _ _ l5 false ts _ (Kd.C_below H5.out.1 L.bel) H5.out.2 ES_.out).mono ?_
        rintro e w91 ⟨rfl, hb⟩
        refine ⟨_, rfl, ?_⟩
        replace L := L.step hb
        clear hb
        refine hK.out _ _ ⟨L.get 1 rfl, L.get 2 rfl, L.get 3 rfl, L.get 5 rfl⟩ (fun _ => ?_)
        clear hK K hHeld
        refine norm_ (a' := ?_) ?_ ?_
        rotate_left
        · show Act.put _ (some 62) _ = _
          simp only [Act.put, List.setIfInBounds_toArray, List.set_cons_zero, List.set_cons_succ, i64_w, i32_w]
          rfl
        have hHeld := And.intro (L.get 1 rfl) (And.intro (L.get 2 rfl) (And.intro (L.get 3 rfl) (L.get 5 rfl)))
        refine pure_ (i := 10) (N := some 63) (v := ?_) (a' := ?_) #[true, true, true, true, true, true, true, true, true, true, true, false, false, false, false, false, false, false] rfl rfl (any_of HT_.out (by kernel_rfl)) (fun _ _ _ h => h) (Or.inl ⟨by rfl, ?_⟩) ?_ ?_
        rotate_left
        · intro w'
          go_simp
          with_reducible rfl
        rotate_left
        · simp only [Act.put, List.setIfInBounds_toArray, List.set_cons_zero, List.set_cons_succ, i64_w, i32_w]
          rfl
        refine pure_ (i := 11) (N := some 64) (v := ?_) (a' := ?_) #[true, true, true, true, true, true, true, true, true, true, true, true, false, false, false, false, false, false] rfl rfl (any_of HT_.out (by kernel_rfl)) (fun _ _ _ h => h) (Or.inl ⟨by rfl, ?_⟩) ?_ ?_
        rotate_left
        · intro w'
          go_simp
          with_reducible rfl
        rotate_left
        · simp only [Act.put, List.setIfInBounds_toArray, List.set_cons_zero, List.set_cons_succ, i64_w, i32_w]
          rfl
        refine pure_ (i := 12) (N := some 65) (v := ?_) (a' := ?_) #[true, true, true, true, true, true, true, true, true, true, true, true, true, false, false, false, false, false] rfl rfl (any_of HT_.out (by kernel_rfl)) (fun _ _ _ h => h) (Or.inl ⟨by rfl, ?_⟩) ?_ ?_
        rotate_left
        · intro w'
          go_simp
          with_reducible rfl
        rotate_left
        · simp only [Act.put, List.setIfInBounds_toArray, List.set_cons_zero, List.set_cons_succ, i64_w, i32_w]
          rfl
        refine pure_ (i := 15) (N := some 68) (v := ?_) (a' := ?_) #[true, true, true, true, true, true, true, true, true, true, true, true, true, false, false, true, false, false] rfl rfl (any_of HT_.out (by kernel_rfl)) (fun _ _ _ h => h) (Or.inl ⟨by rfl, ?_⟩) ?_ ?_
        rotate_left
        · intro w'
          go_simp
          with_reducible rfl
        rotate_left
        · simp only [Act.put, List.setIfInBounds_toArray, List.set_cons_zero, List.set_cons_succ, i64_w, i32_w]
          rfl
        refine take_ (i := 13) (N := some 66) (v := ?_) (a' := ?_) #[true, true, true, true, true, true, true, true, true, true, true, true, true, true, false, true, false, false] rfl rfl (take_ofW HT_.out HW_.out (by kernel_rfl)) (fun _ _ _ h => h) (Or.inl ⟨by rfl, ?_⟩) ⟨L.get 1 rfl, L.get 2 rfl, L.get 3 rfl, L.get 5 rfl⟩ ?_ ?_
        rotate_left
        · intro w' hS
          refine query_cells_ (hS.2.2.2) fun z0 z1 z2 z3 z4 z5 z6 z7 z8 z9 f0 f1 f2 f3 f4 f5 f6 f7 f8 f9 => ?_
          go_simp
          with_reducible rfl
        rotate_left
        · simp only [Act.put, List.setIfInBounds_toArray, List.set_cons_zero, List.set_cons_succ, i64_w, i32_w]
          rfl
        refine one_ (i := 14) (N := some 67) #[true, true, true, true, true, true, true, true, true, true, true, true, true, true, true, true, false, false] rfl rfl (one_of HT_.out (by kernel_rfl)) (by decide) (fun K hK => ?_)
        refine goes_ Try.func26 (by kernel_rfl) rfl #[.agg #[.int .u8 4, .slice A6 l6.length c6, .slice A2 l2.length c2, .bool false, .slice A4 l4.length c4, .int .u8 p0, .int .i64 p1, .int .i64 p2, .bool y, .int .u8 t]] (by rfl) rfl rfl (by (try simp only [List.map_toArray, List.map_cons, List.map_nil]); first | done | rfl | (simp only [List.length_drop, List.length_take]; rfl)) ?_
        refine (call26 OD L.bel ED_.out).mono ?_
        rintro e w91 ⟨rfl, hb⟩
        refine ⟨_, rfl, ?_⟩
        replace L := L.step hb
        clear hb
        refine hK.out _ _ ⟨L.get 1 rfl, L.get 2 rfl, L.get 3 rfl, L.get 5 rfl⟩ (fun _ => ?_)
        clear hK K hHeld
        refine norm_ (a' := ?_) ?_ ?_
        rotate_left
        · show Act.put _ (some 67) _ = _
          simp only [Act.put, List.setIfInBounds_toArray, List.set_cons_zero, List.set_cons_succ, i64_w, i32_w]
          rfl
        have hHeld := And.intro (L.get 1 rfl) (And.intro (L.get 2 rfl) (And.intro (L.get 3 rfl) (L.get 5 rfl)))
        refine pure_ (i := 16) (N := some 69) (v := ?_) (a' := ?_) #[true, true, true, true, true, true, true, true, true, true, true, true, true, true, true, true, true, false] rfl rfl (any_of HT_.out (by kernel_rfl)) (fun _ _ _ h => h) (Or.inl ⟨by rfl, ?_⟩) ?_ ?_
        rotate_left
        · intro w'
          go_simp
          with_reducible rfl
        rotate_left
        · simp only [Act.put, List.setIfInBounds_toArray, List.set_cons_zero, List.set_cons_succ, i64_w, i32_w]
          rfl
        refine pure_ (i := 17) (N := some 70) (v := ?_) (a' := ?_) #[true, true, true, true, true, true, true, true, true, true, true, true, true, true, true, true, true, true] rfl rfl (any_of HT_.out (by kernel_rfl)) (fun _ _ _ h => h) (Or.inl ⟨by rfl, ?_⟩) ?_ ?_
        rotate_left
        · intro w'
          go_simp
          with_reducible rfl
        rotate_left
        · simp only [Act.put, List.setIfInBounds_toArray, List.set_cons_zero, List.set_cons_succ, i64_w, i32_w]
          rfl
        refine done_ (done_of HT_.out (by kernel_rfl)) ?_
        try go_wp2
        go_meet
        case rel => exact ⟨(by first | rfl | (simp; done) | (simp [*]; done)), L⟩
      case rest =>
        obtain ⟨rfl, L⟩ := hcut
        clear n1 n2 n3
        by_cases hx : l6.length = 0
        · have b0 := N4_.out hx
          have b2 : ((l6.length : Int) == 0) = true := beq_iff_eq.mpr (by omega)
          have b3 : (l6.length == 0) = true := beq_iff_eq.mpr hx
          clear hx
          refine query_cells_ (L.get 4 rfl) fun z0 z1 z2 z3 z4 z5 z6 z7 z8 z9 f0 f1 f2 f3 f4 f5 f6 f7 f8 f9 => ?_
          go_wp2_with (first | ((with_reducible refine gate_callee (f := 26) rfl ?_); refine goesL_ (some 75) rfl rfl Try.func26 (by kernel_rfl) rfl #[.agg #[.int .u8 a, .slice A1 l1.length c1, .slice A2 l2.length c2, .bool false, .slice A6 l6.length c6, .int .u8 p0, .int .i64 p1, .int .i64 p2, .bool y, .int .u8 t]] rfl (by (try simp only [List.map_toArray, List.map_cons, List.map_nil]); first | done | rfl | (simp only [List.length_drop, List.length_take]; rfl)) ?_; refine (call26 OC L.bel EC_.out).mono ?_; rintro e w75 ⟨rfl, hb⟩; refine ⟨_, rfl, ?_⟩; replace L := L.step hb; clear hb) | (go_at_call 18; refine (tailwaterlaw08_alive.calls 500 true _ Pure.alive500).mono ?_; rintro e w79 ⟨rfl, hb⟩; replace L := L.step hb; clear hb))
          go_ret
          exact ⟨by first | rfl | (simp [*]; done), L.bel⟩
        · have b1 := N5_.out hx
          have b2 : ((l6.length : Int) == 0) = false := beq_eq_false_iff_ne.mpr (by omega)
          have b3 : (l6.length == 0) = false := beq_eq_false_iff_ne.mpr hx
          clear hx
          refine query_cells_ (L.get 4 rfl) fun z0 z1 z2 z3 z4 z5 z6 z7 z8 z9 f0 f1 f2 f3 f4 f5 f6 f7 f8 f9 => ?_
          go_wp2_with (first | ((with_reducible refine gate_callee (f := 26) rfl ?_); refine goesL_ (some 75) rfl rfl Try.func26 (by kernel_rfl) rfl #[.agg #[.int .u8 a, .slice A1 l1.length c1, .slice A2 l2.length c2, .bool false, .slice A6 l6.length c6, .int .u8 p0, .int .i64 p1, .int .i64 p2, .bool y, .int .u8 t]] rfl (by (try simp only [List.map_toArray, List.map_cons, List.map_nil]); first | done | rfl | (simp only [List.length_drop, List.length_take]; rfl)) ?_; refine (call26 OC L.bel EC_.out).mono ?_; rintro e w75 ⟨rfl, hb⟩; refine ⟨_, rfl, ?_⟩; replace L := L.step hb; clear hb) | (go_at_call 18; refine (tailwaterlaw08_alive.calls 500 true _ Pure.alive500).mono ?_; rintro e w79 ⟨rfl, hb⟩; replace L := L.step hb; clear hb))
          go_ret
          exact ⟨by first | rfl | (simp [*]; done), L.bel⟩
end Replace
end Go.Proofs.Ytpkamfjkmbakhaa.G
