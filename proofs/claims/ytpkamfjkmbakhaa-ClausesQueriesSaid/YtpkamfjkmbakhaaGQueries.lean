/- The walk of ClausesQueries: the program's answers for queries are the reference's. Nothing is assumed. -/
import Derived.Test.YtpkamfjkmbakhaaGCall2
import Derived.Test.YtpkamfjkmbakhaaGCall3
import Derived.Test.YtpkamfjkmbakhaaGPure8
namespace Go.Proofs.Ytpkamfjkmbakhaa.G
open Go.RowKit Go.Proofs.YtpkamfjkmbakhaaW.PrintWords Go.Proofs.YtpkamfjkmbakhaaW.PrintLast Go.Proofs.YtpkamfjkmbakhaaW.PrintMore
attribute [local go_sem] max2_int min2_int max_two min_two max_three min_three max_four min_four
set_option linter.unusedVariables false
set_option linter.unusedSimpArgs false

namespace Queries
def T6 : Bool × List (List Nat × List Nat) := (true, [([], []), ([0], [0]), ([], []), ([2, 1], [2]), ([1, 3], [1, 3]), ([4, 3], [4]), ([5], [5]), ([5], [5]), ([6, 7, 5], [5, 6, 7]), ([5, 8], [5, 8]), ([9, 5], [9]), ([10], [10]), ([10], [10]), ([11, 12, 10], [10, 11, 12]), ([10, 13], [10, 13]), ([14, 10], [14]), ([15], [15]), ([15], [15]), ([16, 17, 15, 15], [15, 16, 17]), ([15, 18], [15, 18]), ([19, 18, 0, 1, 2, 3, 4, 5, 6, 7, 8, 9, 10, 11, 12, 13, 14, 15, 16, 17, 18, 19], [19])])
def B6 : List Nat := [0, 1, 0, 7, 15, 31, 63, 63, 255, 511, 1023, 2047, 2047, 8191, 16383, 32767, 65535, 65535, 262143, 524287, 1048575]
theorem tab6 : rtab .any (opsOf Try.f15 6) = T6 := by kernel_rfl
theorem bits6 : waitsOk T6.2 B6 = true := by kernel_rfl
set_option maxHeartbeats 8000000 in
set_option maxRecDepth 100000 in
theorem walk (a : Int) (A1 : Option Addr) (c1 : Nat) (l1 : List S36) (A2 : Option Addr) (c2 : Nat) (l2 : List Int) (j : Bool) (A4 : Option Addr) (c4 : Nat) (l4 : List S36) (p0 p1 p2 : Int) (y : Bool) (t : Int)
    (b : Int) (C1 : Option Addr) (e1 : Nat) (m1 : List S36) (C2 : Option Addr) (e2 : Nat) (m2 : List Int) (i : Bool) (C4 : Option Addr) (e4 : Nat) (m4 : List S36) (r0 r1 r2 : Int) (z : Bool) (u : Int) (w : World)
    (h1 : Kd.C k36 w A1 l1.length l1) (f1 : l1.length ≤ c1) (h2 : Kd.C (Kd.int .i64) w A2 l2.length l2) (f2 : l2.length ≤ c2) (h4 : Kd.C k36 w A4 l4.length l4) (f4 : l4.length ≤ c4)
    (k1 : Kd.C k36 w C1 m1.length m1) (n1 : m1.length ≤ e1) (k2 : Kd.C (Kd.int .i64) w C2 m2.length m2) (n2 : m2.length ≤ e2) (k4 : Kd.C k36 w C4 m4.length m4) (n4 : m4.length ≤ e4) :
    Calls Try.prog 15 #[.agg #[.int .u8 a, .slice A1 l1.length c1, .slice A2 l2.length c2, .bool j, .slice A4 l4.length c4, .int .u8 p0, .int .i64 p1, .int .i64 p2, .bool y, .int .u8 t], .agg #[.int .u8 b, .slice C1 m1.length e1, .slice C2 m2.length e2, .bool i, .slice C4 m4.length e4, .int .u8 r0, .int .i64 r1, .int .i64 r2, .bool z, .int .u8 u]] w fun e w' => e = .returned (.bool true) ∧ Below w.heap.size w w' := by
  have hu27 := Try.underlying27
  have O1 : QOk w A1 c1 l1 A2 c2 l2 A4 c4 l4 := ⟨h1, f1, h2, f2, h4, f4⟩
  have O2 : QOk w C1 e1 m1 C2 e2 m2 C4 e4 m4 := ⟨k1, n1, k2, n2, k4, n4⟩
  clear h1 f1 h2 f2 h4 f4 k1 n1 k2 n2 k4 n4
  have L := Lie.nil (Below.refl w.heap.size w)
  have GR := Aside0.mk (Pure.great_query a l1 l2 j l4 p0 p1 p2 y t)
  have GS := Aside0.mk (Pure.great_query b m1 m2 i m4 r0 r1 r2 z u)
  go_enter Try.func15, Try.ntmps15
  go_upto_region 1 with (first | ((with_reducible refine gate_dst (N := 2) rfl ?_); (try (refine gate_guard (by rfl) ?_; dsimp only)); refine box_event ?hg (N := 2) ?hd (cs := #[.int .u8 a, .slice A1 l1.length c1, .slice A2 l2.length c2, .bool j, .slice A4 l4.length c4, .int .u8 p0, .int .i64 p1, .int .i64 p2, .bool y, .int .u8 t]) (t := 27) ?hr ?_; (case hd => rfl); (case hg => rfl); (case hr => first | (go_simp; done) | (go_simp; rfl)); intro g2 hg W2 hbox hb; replace L := L.more [] [] hg hbox hb; clear hg hbox hb) | ((with_reducible refine gate_dst (N := 3) rfl ?_); (try (refine gate_guard (by rfl) ?_; dsimp only)); refine box_event ?hg (N := 3) ?hd (cs := #[.int .u8 b, .slice C1 m1.length e1, .slice C2 m2.length e2, .bool i, .slice C4 m4.length e4, .int .u8 r0, .int .i64 r1, .int .i64 r2, .bool z, .int .u8 u]) (t := 27) ?hr ?_; (case hd => rfl); (case hg => rfl); (case hr => first | (go_simp; done) | (go_simp; rfl)); intro g3 hg W3 hbox hb; replace L := L.more [(g2, _)] [] hg hbox hb; clear hg hbox hb))
  (try simp only [Act.put, List.setIfInBounds_toArray, List.set_cons_zero, List.set_cons_succ])
  go_cut [15] (fun v15 wc => ∃ x : Bool, v15 = .bool x ∧ Aside0 (x = false → (l1.length ≤ 70 ∧ l4.length ≤ 70 ∧ l2.length ≤ 10) ∧ (m1.length ≤ 70 ∧ m4.length ≤ 70 ∧ m2.length ≤ 10)) ∧ Lie w [(g2, .cells #[.int .u8 a, .slice A1 l1.length c1, .slice A2 l2.length c2, .bool j, .slice A4 l4.length c4, .int .u8 p0, .int .i64 p1, .int .i64 p2, .bool y, .int .u8 t] 27 (0, 0)), (g3, .cells #[.int .u8 b, .slice C1 m1.length e1, .slice C2 m2.length e2, .bool i, .slice C4 m4.length e4, .int .u8 r0, .int .i64 r1, .int .i64 r2, .bool z, .int .u8 u] 27 (0, 0))] wc)
  case first =>
    obtain ⟨r, eG, hr⟩ := GR.out
    obtain ⟨r', eS, hr'⟩ := GS.out
    have EG := Aside0.mk eG
    have ES := Aside0.mk eS
    have HS := Aside0.mk (And.intro hr hr')
    clear eG eS GR GS hr hr'
    refine query_cells_ (L.get 0 rfl) fun x0 x1 x2 x3 x4 x5 x6 x7 x8 x9 f0 f1 f2 f3 f4 f5 f6 f7 f8 f9 => ?_
    refine query_cells_ (L.get 1 rfl) fun y0 y1 y2 y3 y4 y5 y6 y7 y8 y9 q0 q1 q2 q3 q4 q5 q6 q7 q8 q9 => ?_
    cases r with
    | true =>
      go_wp2_with (first | ((with_reducible refine gate_callee (f := 16) rfl ?_); refine goesL_ (some 11) rfl rfl Try.func16 (by kernel_rfl) rfl #[.agg #[.int .u8 a, .slice A1 l1.length c1, .slice A2 l2.length c2, .bool j, .slice A4 l4.length c4, .int .u8 p0, .int .i64 p1, .int .i64 p2, .bool y, .int .u8 t]] rfl (by (try simp only [List.map_toArray, List.map_cons, List.map_nil]); first | done | rfl | (simp only [List.length_drop, List.length_take]; rfl)) ?_; refine (call16 O1 L.bel EG.out).mono ?_; rintro e w16 ⟨rfl, hb⟩; refine ⟨_, rfl, ?_⟩; replace L := L.step hb; clear hb; refine query_cells_ (L.get 1 rfl) fun s0 s1 s2 s3 s4 s5 s6 s7 s8 s9 k0 k1 k2 k3 k4 k5 k6 k7 k8 k9 => ?_))
      go_meet
      case rel => exact ⟨true, (by first | rfl | (simp; done) | (simp [*]; done)), ⟨fun h => absurd h (by simp)⟩, L⟩
    | false =>
      go_wp2_with (first | ((with_reducible refine gate_callee (f := 16) rfl ?_); refine goesL_ (some 11) rfl rfl Try.func16 (by kernel_rfl) rfl #[.agg #[.int .u8 a, .slice A1 l1.length c1, .slice A2 l2.length c2, .bool j, .slice A4 l4.length c4, .int .u8 p0, .int .i64 p1, .int .i64 p2, .bool y, .int .u8 t]] rfl (by (try simp only [List.map_toArray, List.map_cons, List.map_nil]); first | done | rfl | (simp only [List.length_drop, List.length_take]; rfl)) ?_; refine (call16 O1 L.bel EG.out).mono ?_; rintro e w16 ⟨rfl, hb⟩; refine ⟨_, rfl, ?_⟩; replace L := L.step hb; clear hb; refine query_cells_ (L.get 1 rfl) fun s0 s1 s2 s3 s4 s5 s6 s7 s8 s9 k0 k1 k2 k3 k4 k5 k6 k7 k8 k9 => ?_) | (go_at_call 16; (with_reducible refine (call16 O2 L.bel ES.out).mono ?_); rintro e w17 ⟨rfl, hb⟩; replace L := L.step hb; clear hb))
      go_meet
      case rel => exact ⟨r', (by first | rfl | (simp; done) | (simp [*]; done)), ⟨fun h => ⟨HS.out.1.1 (by trivial), HS.out.2.1 h⟩⟩, L⟩
  case rest =>
    clear GR GS
    obtain ⟨x, rfl, HX, L⟩ := hcut
    cases x with
    | true =>
      clear HX
      go_wp2
      go_ret
      exact ⟨by first | rfl | (simp [*]; done), L.bel⟩
    | false =>
      have SA := HX.out rfl
      clear HX
      obtain ⟨g, ge, g', ge', gc, gc', ea, eb, n1, n2, ec, ed, n3, ee⟩ := Pure.queries_all ⟨a, l1, l2, j, l4, p0, p1, p2, y, t⟩ ⟨b, m1, m2, i, m4, r0, r1, r2, z, u⟩ SA.1 SA.2
      have HS := Aside0.mk SA
      clear SA
      have EA_ := Aside0.mk ea
      have EB_ := Aside0.mk eb
      have EC_ := Aside0.mk ec
      have ED_ := Aside0.mk ed
      have EE_ := Aside0.mk ee
      clear ea eb ec ed ee
      refine query_cells_ (L.get 0 rfl) fun x0 x1 x2 x3 x4 x5 x6 x7 x8 x9 f0 f1 f2 f3 f4 f5 f6 f7 f8 f9 => ?_
      go_upto_region 4 with (first | ((with_reducible refine gate_callee (f := 20) rfl ?_); refine goesL_ (some 17) rfl rfl Try.func20 (by kernel_rfl) rfl #[.agg #[.int .u8 a, .slice A1 l1.length c1, .slice A2 l2.length c2, .bool j, .slice A4 l4.length c4, .int .u8 p0, .int .i64 p1, .int .i64 p2, .bool y, .int .u8 t]] rfl (by (try simp only [List.map_toArray, List.map_cons, List.map_nil]); first | done | rfl | (simp only [List.length_drop, List.length_take]; rfl)) ?_; refine (call20 (O1.step L.bel) HS.out.1.1 HS.out.1.2.1 HS.out.1.2.2).mono ?_; rintro e w20 ⟨B1, d1, B2, d2, B4, d4, rfl, ot, -, -, -, hb⟩; refine ⟨_, rfl, ?_⟩; have OT := ot; clear ot; replace L := L.step hb; clear hb; have LT := Lie.nil (Below.refl w20.heap.size w20)) | ((with_reducible refine gate_dst (N := 5) rfl ?_); (try (refine gate_guard (by rfl) ?_; dsimp only)); refine box_event ?hg (N := 5) ?hd (cs := #[.int .u8 0, .slice none 0 0, .slice none 0 0, .bool false, .slice none 0 0, .int .u8 0, .int .i64 0, .int .i64 0, .bool false, .int .u8 0]) (t := 27) ?hr ?_; (case hd => rfl); (case hg => rfl); (case hr => first | (go_simp; done) | (go_simp; rfl)); intro g5 hg W5 hbox hb; replace LT := LT.more [] [] hg hbox hb; replace L := L.more [(g2, _), (g3, _)] [] hg hbox hb; clear hg hbox hb; refine query_cells_ (L.get 2 rfl) fun s0 s1 s2 s3 s4 s5 s6 s7 s8 s9 k0 k1 k2 k3 k4 k5 k6 k7 k8 k9 => ?_))
      (try simp only [Act.put, List.setIfInBounds_toArray, List.set_cons_zero, List.set_cons_succ])
      refine gen_wp (fun wz => Lie w [(g2, .cells #[.int .u8 a, .slice A1 l1.length c1, .slice A2 l2.length c2, .bool j, .slice A4 l4.length c4, .int .u8 p0, .int .i64 p1, .int .i64 p2, .bool y, .int .u8 t] 27 (0, 0)), (g3, .cells #[.int .u8 b, .slice C1 m1.length e1, .slice C2 m2.length e2, .bool i, .slice C4 m4.length e4, .int .u8 r0, .int .i64 r1, .int .i64 r2, .bool z, .int .u8 u] 27 (0, 0)), (g5, .cells #[.int .u8 a, .slice B1 l1.length d1, .slice B2 l2.length d2, .bool j, .slice B4 l4.length d4, .int .u8 p0, .int .i64 p1, .int .i64 p2, .bool y, .int .u8 t] 27 (0, 0))] wz ∧ Lie w20 [(g5, .cells #[.int .u8 a, .slice B1 l1.length d1, .slice B2 l2.length d2, .bool j, .slice B4 l4.length d4, .int .u8 p0, .int .i64 p1, .int .i64 p2, .bool y, .int .u8 t] 27 (0, 0))] wz) ⟨Lie.fill10 [(g2, _), (g3, _)] [] L (.int .u8 a) (.slice B1 l1.length d1) (.slice B2 l2.length d2) (.bool j) (.slice B4 l4.length d4) (.int .u8 p0) (.int .i64 p1) (.int .i64 p2) (.bool y) (.int .u8 t), Lie.fill10 [] [] LT (.int .u8 a) (.slice B1 l1.length d1) (.slice B2 l2.length d2) (.bool j) (.slice B4 l4.length d4) (.int .u8 p0) (.int .i64 p1) (.int .i64 p2) (.bool y) (.int .u8 t)⟩ ?_
      clear L LT s0 s1 s2 s3 s4 s5 s6 s7 s8 s9 k0 k1 k2 k3 k4 k5 k6 k7 k8 k9
      rintro wz ⟨L, LT⟩
      refine query_cells_ (L.get 1 rfl) fun x0 x1 x2 x3 x4 x5 x6 x7 x8 x9 f0 f1 f2 f3 f4 f5 f6 f7 f8 f9 => ?_
      refine query_cells_ (L.get 2 rfl) fun s0 s1 s2 s3 s4 s5 s6 s7 s8 s9 k0 k1 k2 k3 k4 k5 k6 k7 k8 k9 => ?_
      try go_wp2_with (first | ((with_reducible refine gate_callee (f := 19) rfl ?_); refine goesL_ (some 21) rfl rfl Try.func19 (by kernel_rfl) rfl #[.agg #[.int .u8 a, .slice B1 l1.length d1, .slice B2 l2.length d2, .bool j, .slice B4 l4.length d4, .int .u8 p0, .int .i64 p1, .int .i64 p2, .bool y, .int .u8 t], .agg #[.int .u8 b, .slice C1 m1.length e1, .slice C2 m2.length e2, .bool i, .slice C4 m4.length e4, .int .u8 r0, .int .i64 r1, .int .i64 r2, .bool z, .int .u8 u]] rfl (by (try simp only [List.map_toArray, List.map_cons, List.map_nil]); first | done | rfl | (simp only [List.length_drop, List.length_take]; rfl)) ?_; refine (call19 (OT.step LT.bel) (O2.step L.bel) EA_.out).mono ?_; rintro e w19 ⟨rfl, hb⟩; refine ⟨_, rfl, ?_⟩; replace L := L.step hb; replace LT := LT.step hb; clear hb; refine query_cells_ (L.get 0 rfl) fun x0 x1 x2 x3 x4 x5 x6 x7 x8 x9 f0 f1 f2 f3 f4 f5 f6 f7 f8 f9 => ?_; refine query_cells_ (L.get 1 rfl) fun y0 y1 y2 y3 y4 y5 y6 y7 y8 y9 q0 q1 q2 q3 q4 q5 q6 q7 q8 q9 => ?_) | ((with_reducible refine gate_callee (f := 49) rfl ?_); refine goesL_ (some 27) rfl rfl Try.func49 (by kernel_rfl) rfl #[.agg #[.int .u8 a, .slice A1 l1.length c1, .slice A2 l2.length c2, .bool j, .slice A4 l4.length c4, .int .u8 p0, .int .i64 p1, .int .i64 p2, .bool y, .int .u8 t], .agg #[.int .u8 b, .slice C1 m1.length e1, .slice C2 m2.length e2, .bool i, .slice C4 m4.length e4, .int .u8 r0, .int .i64 r1, .int .i64 r2, .bool z, .int .u8 u]] rfl (by (try simp only [List.map_toArray, List.map_cons, List.map_nil]); first | done | rfl | (simp only [List.length_drop, List.length_take]; rfl)) ?_; refine (call49 (O1.step L.bel) (O2.step L.bel) EB_.out).mono ?_; rintro e w49 ⟨rfl, hb⟩; refine ⟨_, rfl, ?_⟩; replace L := L.step hb; replace LT := LT.step hb; clear hb))
      replace L := L.drew
      replace LT := LT.drew
      refine start_ (n := 21) (S := fun w' => w'.heap[g2]? = some (.cells #[.int .u8 a, .slice A1 l1.length c1, .slice A2 l2.length c2, .bool j, .slice A4 l4.length c4, .int .u8 p0, .int .i64 p1, .int .i64 p2, .bool y, .int .u8 t] 27 (0, 0)) ∧ w'.heap[g5]? = some (.cells #[.int .u8 a, .slice B1 l1.length d1, .slice B2 l2.length d2, .bool j, .slice B4 l4.length d4, .int .u8 p0, .int .i64 p1, .int .i64 p2, .bool y, .int .u8 t] 27 (0, 0))) (ds := []) #[false, false, false, false, false, false, false, false, false, false, false, false, false, false, false, false, false, false, false, false, false] (by kernel_rfl) rfl rfl ⟨L.get 0 rfl, L.get 2 rfl⟩ (fun hHeld => ?_); refine with_tabW tab6 bits6 (fun HT_ HW_ => ?_)
      generalize w49.drew = w90 at L LT hHeld ⊢
      refine take_ (i := 0) (N := some 30) (v := ?_) (a' := ?_) #[true, false, false, false, false, false, false, false, false, false, false, false, false, false, false, false, false, false, false, false, false] rfl rfl (take_ofW HT_.out HW_.out (by kernel_rfl)) (fun _ _ _ h => h) (Or.inl ⟨by rfl, ?_⟩) ⟨L.get 0 rfl, L.get 2 rfl⟩ ?_ ?_
      rotate_left
      · intro w' hS
        refine query_cells_ (hS.2) fun x0 x1 x2 x3 x4 x5 x6 x7 x8 x9 f0 f1 f2 f3 f4 f5 f6 f7 f8 f9 => ?_
        go_simp
        with_reducible rfl
      rotate_left
      · simp only [Act.put, List.setIfInBounds_toArray, List.set_cons_zero, List.set_cons_succ, i64_w, i32_w]
        rfl
      refine take_ (i := 2) (N := some 32) (v := ?_) (a' := ?_) #[true, false, true, false, false, false, false, false, false, false, false, false, false, false, false, false, false, false, false, false, false] rfl rfl (take_ofW HT_.out HW_.out (by kernel_rfl)) (fun _ _ _ h => h) (Or.inl ⟨by rfl, ?_⟩) ⟨L.get 0 rfl, L.get 2 rfl⟩ ?_ ?_
      rotate_left
      · intro w' hS
        refine query_cells_ (hS.1) fun x0 x1 x2 x3 x4 x5 x6 x7 x8 x9 f0 f1 f2 f3 f4 f5 f6 f7 f8 f9 => ?_
        go_simp
        with_reducible rfl
      rotate_left
      · simp only [Act.put, List.setIfInBounds_toArray, List.set_cons_zero, List.set_cons_succ, i64_w, i32_w]
        rfl
      refine one_ (i := 1) (N := some 31) #[true, true, true, false, false, false, false, false, false, false, false, false, false, false, false, false, false, false, false, false, false] rfl rfl (one_of HT_.out (by kernel_rfl)) (by decide) (fun K hK => ?_)
      refine goes_ Try.func26 (by kernel_rfl) rfl #[.agg #[.int .u8 a, .slice B1 l1.length d1, .slice B2 l2.length d2, .bool j, .slice B4 l4.length d4, .int .u8 p0, .int .i64 p1, .int .i64 p2, .bool y, .int .u8 t]] (by rfl) rfl rfl (by (try simp only [List.map_toArray, List.map_cons, List.map_nil]); first | done | rfl | (simp only [List.length_drop, List.length_take]; rfl)) ?_
      refine (call26 OT LT.bel EC_.out).mono ?_
      rintro e w91 ⟨rfl, hb⟩
      refine ⟨_, rfl, ?_⟩
      replace L := L.step hb
      replace LT := LT.step hb
      clear hb
      refine hK.out _ _ ⟨L.get 0 rfl, L.get 2 rfl⟩ (fun _ => ?_)
      clear hK K hHeld
      refine norm_ (a' := ?_) ?_ ?_
      rotate_left
      · show Act.put _ (some 31) _ = _
        simp only [Act.put, List.setIfInBounds_toArray, List.set_cons_zero, List.set_cons_succ, i64_w, i32_w]
        rfl
      have hHeld := And.intro (L.get 0 rfl) (L.get 2 rfl)
      refine one_ (i := 3) (N := some 33) #[true, true, true, true, false, false, false, false, false, false, false, false, false, false, false, false, false, false, false, false, false] rfl rfl (one_of HT_.out (by kernel_rfl)) (by decide) (fun K hK => ?_)
      refine goes_ Try.func17 (by kernel_rfl) rfl #[.agg #[.int .u8 a, .slice A1 l1.length c1, .slice A2 l2.length c2, .bool j, .slice A4 l4.length c4, .int .u8 p0, .int .i64 p1, .int .i64 p2, .bool y, .int .u8 t]] (by rfl) rfl rfl (by (try simp only [List.map_toArray, List.map_cons, List.map_nil]); first | done | rfl | (simp only [List.length_drop, List.length_take]; rfl)) ?_
      refine (call17 O1 L.bel ED_.out).mono ?_
      rintro e w91 ⟨rfl, hb⟩
      refine ⟨_, rfl, ?_⟩
      replace L := L.step hb
      replace LT := LT.step hb
      clear hb
      refine hK.out _ _ ⟨L.get 0 rfl, L.get 2 rfl⟩ (fun _ => ?_)
      clear hK K hHeld
      refine norm_ (a' := ?_) ?_ ?_
      rotate_left
      · show Act.put _ (some 33) _ = _
        simp only [Act.put, List.setIfInBounds_toArray, List.set_cons_zero, List.set_cons_succ, i64_w, i32_w]
        rfl
      have hHeld := And.intro (L.get 0 rfl) (L.get 2 rfl)
      refine pure_ (i := 4) (N := some 34) (v := ?_) (a' := ?_) #[true, true, true, true, true, false, false, false, false, false, false, false, false, false, false, false, false, false, false, false, false] rfl rfl (any_of HT_.out (by kernel_rfl)) (fun _ _ _ h => h) (Or.inl ⟨by rfl, ?_⟩) ?_ ?_
      rotate_left
      · intro w'
        go_simp
        with_reducible rfl
      rotate_left
      · simp only [Act.put, List.setIfInBounds_toArray, List.set_cons_zero, List.set_cons_succ, i64_w, i32_w]
        rfl
      refine pure_ (i := 5) (N := some 35) (v := ?_) (a' := ?_) #[true, true, true, true, true, true, false, false, false, false, false, false, false, false, false, false, false, false, false, false, false] rfl rfl (any_of HT_.out (by kernel_rfl)) (fun _ _ _ h => h) (Or.inl ⟨by rfl, ?_⟩) ?_ ?_
      rotate_left
      · intro w'
        go_simp
        with_reducible rfl
      rotate_left
      · simp only [Act.put, List.setIfInBounds_toArray, List.set_cons_zero, List.set_cons_succ, i64_w, i32_w]
        rfl
      refine pure_ (i := 6) (N := some 36) (v := ?_) (a' := ?_) #[true, true, true, true, true, true, true, false, false, false, false, false, false, false, false, false, false, false, false, false, false] rfl rfl (any_of HT_.out (by kernel_rfl)) (fun _ _ _ h => h) (Or.inl ⟨by rfl, ?_⟩) ?_ ?_
      rotate_left
      · intro w'
        go_simp
        with_reducible rfl
      rotate_left
      · simp only [Act.put, List.setIfInBounds_toArray, List.set_cons_zero, List.set_cons_succ, i64_w, i32_w]
        rfl
      refine pure_ (i := 7) (N := some 37) (v := ?_) (a' := ?_) #[true, true, true, true, true, true, true, true, false, false, false, false, false, false, false, false, false, false, false, false, false] rfl rfl (any_of HT_.out (by kernel_rfl)) (fun _ _ _ h => h) (Or.inl ⟨by rfl, ?_⟩) ?_ ?_
      rotate_left
      · intro w'
        go_simp
        with_reducible rfl
      rotate_left
      · simp only [Act.put, List.setIfInBounds_toArray, List.set_cons_zero, List.set_cons_succ, i64_w, i32_w]
        rfl
      refine pure_ (i := 8) (N := some 38) (v := ?_) (a' := ?_) #[true, true, true, true, true, true, true, true, true, false, false, false, false, false, false, false, false, false, false, false, false] rfl rfl (any_of HT_.out (by kernel_rfl)) (fun _ _ _ h => h) (Or.inl ⟨by rfl, ?_⟩) ?_ ?_
      rotate_left
      · intro w'
        go_simp
        with_reducible rfl
      rotate_left
      · simp only [Act.put, List.setIfInBounds_toArray, List.set_cons_zero, List.set_cons_succ, i64_w, i32_w]
        rfl
      refine pure_ (i := 9) (N := some 39) (v := ?_) (a' := ?_) #[true, true, true, true, true, true, true, true, true, true, false, false, false, false, false, false, false, false, false, false, false] rfl rfl (any_of HT_.out (by kernel_rfl)) (fun _ _ _ h => h) (Or.inl ⟨by rfl, ?_⟩) ?_ ?_
      rotate_left
      · intro w'
        go_simp
        with_reducible rfl
      rotate_left
      · simp only [Act.put, List.setIfInBounds_toArray, List.set_cons_zero, List.set_cons_succ, i64_w, i32_w]
        rfl
      refine pure_ (i := 10) (N := some 40) (v := ?_) (a' := ?_) #[true, true, true, true, true, true, true, true, true, true, true, false, false, false, false, false, false, false, false, false, false] rfl rfl (any_of HT_.out (by kernel_rfl)) (fun _ _ _ h => h) (Or.inl ⟨by rfl, ?_⟩) ?_ ?_
      rotate_left
      · intro w'
        go_simp
        with_reducible rfl
      rotate_left
      · simp only [Act.put, List.setIfInBounds_toArray, List.set_cons_zero, List.set_cons_succ, i64_w, i32_w]
        rfl
      refine pure_ (i := 11) (N := some 41) (v := ?_) (a' := ?_) #[true, true, true, true, true, true, true, true, true, true, true, true, false, false, false, false, false, false, false, false, false] rfl rfl (any_of HT_.out (by kernel_rfl)) (fun _ _ _ h => h) (Or.inl ⟨by rfl, ?_⟩) ?_ ?_
      rotate_left
      · intro w'
        go_simp
        with_reducible rfl
      rotate_left
      · simp only [Act.put, List.setIfInBounds_toArray, List.set_cons_zero, List.set_cons_succ, i64_w, i32_w]
        rfl
      refine pure_ (i := 12) (N := some 42) (v := ?_) (a' := ?_) #[true, true, true, true, true, true, true, true, true, true, true, true, true, false, false, false, false, false, false, false, false] rfl rfl (any_of HT_.out (by kernel_rfl)) (fun _ _ _ h => h) (Or.inl ⟨by rfl, ?_⟩) ?_ ?_
      rotate_left
      · intro w'
        go_simp
        with_reducible rfl
      rotate_left
      · simp only [Act.put, List.setIfInBounds_toArray, List.set_cons_zero, List.set_cons_succ, i64_w, i32_w]
        rfl
      refine pure_ (i := 13) (N := some 43) (v := ?_) (a' := ?_) #[true, true, true, true, true, true, true, true, true, true, true, true, true, true, false, false, false, false, false, false, false] rfl rfl (any_of HT_.out (by kernel_rfl)) (fun _ _ _ h => h) (Or.inl ⟨by rfl, ?_⟩) ?_ ?_
      rotate_left
      · intro w'
        go_simp
        with_reducible rfl
      rotate_left
      · simp only [Act.put, List.setIfInBounds_toArray, List.set_cons_zero, List.set_cons_succ, i64_w, i32_w]
        rfl
      refine pure_ (i := 14) (N := some 44) (v := ?_) (a' := ?_) #[true, true, true, true, true, true, true, true, true, true, true, true, true, true, true, false, false, false, false, false, false] rfl rfl (any_of HT_.out (by kernel_rfl)) (fun _ _ _ h => h) (Or.inl ⟨by rfl, ?_⟩) ?_ ?_
      rotate_left
      · intro w'
        go_simp
        with_reducible rfl
      rotate_left
      · simp only [Act.put, List.setIfInBounds_toArray, List.set_cons_zero, List.set_cons_succ, i64_w, i32_w]
        rfl
      refine pure_ (i := 15) (N := some 45) (v := ?_) (a' := ?_) #[true, true, true, true, true, true, true, true, true, true, true, true, true, true, true, true, false, false, false, false, false] rfl rfl (any_of HT_.out (by kernel_rfl)) (fun _ _ _ h => h) (Or.inl ⟨by rfl, ?_⟩) ?_ ?_
      rotate_left
      · intro w'
        go_simp
        with_reducible rfl
      rotate_left
      · simp only [Act.put, List.setIfInBounds_toArray, List.set_cons_zero, List.set_cons_succ, i64_w, i32_w]
        rfl
      refine take_ (i := 16) (N := some 46) (v := ?_) (a' := ?_) #[true, true, true, true, true, true, true, true, true, true, true, true, true, true, true, true, true, false, false, false, false] rfl rfl (take_ofW HT_.out HW_.out (by kernel_rfl)) (fun _ _ _ h => h) (Or.inl ⟨by rfl, ?_⟩) ⟨L.get 0 rfl, L.get 2 rfl⟩ ?_ ?_
      rotate_left
      · intro w' hS
        refine query_cells_ (hS.2) fun x0 x1 x2 x3 x4 x5 x6 x7 x8 x9 f0 f1 f2 f3 f4 f5 f6 f7 f8 f9 => ?_
        go_simp
        with_reducible rfl
      rotate_left
      · simp only [Act.put, List.setIfInBounds_toArray, List.set_cons_zero, List.set_cons_succ, i64_w, i32_w]
        rfl
      refine take_ (i := 17) (N := some 47) (v := ?_) (a' := ?_) #[true, true, true, true, true, true, true, true, true, true, true, true, true, true, true, true, true, true, false, false, false] rfl rfl (take_ofW HT_.out HW_.out (by kernel_rfl)) (fun _ _ _ h => h) (Or.inl ⟨by rfl, ?_⟩) ⟨L.get 0 rfl, L.get 2 rfl⟩ ?_ ?_
      rotate_left
      · intro w' hS
        refine query_cells_ (hS.1) fun x0 x1 x2 x3 x4 x5 x6 x7 x8 x9 f0 f1 f2 f3 f4 f5 f6 f7 f8 f9 => ?_
        go_simp
        with_reducible rfl
      rotate_left
      · simp only [Act.put, List.setIfInBounds_toArray, List.set_cons_zero, List.set_cons_succ, i64_w, i32_w]
        rfl
      refine one_ (i := 18) (N := some 48) #[true, true, true, true, true, true, true, true, true, true, true, true, true, true, true, true, true, true, true, false, false] rfl rfl (one_of HT_.out (by kernel_rfl)) (by decide) (fun K hK => ?_)
      refine goes_ Try.func21 (by kernel_rfl) rfl #[.agg #[.int .u8 a, .slice B1 l1.length d1, .slice B2 l2.length d2, .bool j, .slice B4 l4.length d4, .int .u8 p0, .int .i64 p1, .int .i64 p2, .bool y, .int .u8 t], .agg #[.int .u8 a, .slice A1 l1.length c1, .slice A2 l2.length c2, .bool j, .slice A4 l4.length c4, .int .u8 p0, .int .i64 p1, .int .i64 p2, .bool y, .int .u8 t]] (by rfl) rfl rfl (by (try simp only [List.map_toArray, List.map_cons, List.map_nil]); first | done | rfl | (simp only [List.length_drop, List.length_take]; rfl)) ?_
      refine (call21 (OT.step LT.bel) (O1.step L.bel) EE_.out).mono ?_
      rintro e w91 ⟨rfl, hb⟩
      refine ⟨_, rfl, ?_⟩
      replace L := L.step hb
      replace LT := LT.step hb
      clear hb
      refine hK.out _ _ ⟨L.get 0 rfl, L.get 2 rfl⟩ (fun _ => ?_)
      clear hK K hHeld
      refine norm_ (a' := ?_) ?_ ?_
      rotate_left
      · show Act.put _ (some 48) _ = _
        simp only [Act.put, List.setIfInBounds_toArray, List.set_cons_zero, List.set_cons_succ, i64_w, i32_w]
        rfl
      have hHeld := And.intro (L.get 0 rfl) (L.get 2 rfl)
      refine pure_ (i := 19) (N := some 49) (v := ?_) (a' := ?_) #[true, true, true, true, true, true, true, true, true, true, true, true, true, true, true, true, true, true, true, true, false] rfl rfl (any_of HT_.out (by kernel_rfl)) (fun _ _ _ h => h) (Or.inl ⟨by rfl, ?_⟩) ?_ ?_
      rotate_left
      · intro w'
        go_simp
        with_reducible rfl
      rotate_left
      · simp only [Act.put, List.setIfInBounds_toArray, List.set_cons_zero, List.set_cons_succ, i64_w, i32_w]
        rfl
      refine pure_ (i := 20) (N := some 4) (v := ?_) (a' := ?_) #[true, true, true, true, true, true, true, true, true, true, true, true, true, true, true, true, true, true, true, true, true] rfl rfl (any_of HT_.out (by kernel_rfl)) (fun _ _ _ h => h) (Or.inl ⟨by rfl, ?_⟩) ?_ ?_
      rotate_left
      · intro w'
        go_simp
        with_reducible rfl
      rotate_left
      · simp only [Act.put, List.setIfInBounds_toArray, List.set_cons_zero, List.set_cons_succ, i64_w, i32_w]
        rfl
      refine done_ (done_of HT_.out (by kernel_rfl)) ?_
      try go_wp2
      go_ret
      exact ⟨by first | rfl | (simp [*]; done), L.bel⟩
end Queries
end Go.Proofs.Ytpkamfjkmbakhaa.G
