/- The walk of ClausesNames: examples, limits, queries that are not valid, errors. Nothing is assumed. -/
import Derived.Test.YtpkamfjkmbakhaaGCall19
import Derived.Test.YtpkamfjkmbakhaaGPure11
namespace Go.Proofs.Ytpkamfjkmbakhaa.G
open Go.RowKit Go.Proofs.YtpkamfjkmbakhaaW.PrintWords Go.Proofs.YtpkamfjkmbakhaaW.PrintLast Go.Proofs.YtpkamfjkmbakhaaW.PrintMore
attribute [local go_sem] max2_int min2_int max_two min_two max_three min_three max_four min_four
set_option linter.unusedVariables false
set_option linter.unusedSimpArgs false

namespace Names
def T40 : Bool × List (List Nat × List Nat) := (true, [([], []), ([], []), ([0, 1, 1], [0, 1]), ([2], [2]), ([3], [3]), ([3], [3]), ([4, 2, 0, 1, 2, 3, 4], [4]), ([5, 6, 0, 1, 2, 3, 4, 5, 6], [5])])
def B40 : List Nat := [0, 0, 3, 7, 15, 15, 31, 127]
theorem tab40 : rtab .any (opsOf Try.f4 40) = T40 := by kernel_rfl
theorem bits40 : waitsOk T40.2 B40 = true := by kernel_rfl
def T41 : Bool × List (List Nat × List Nat) := (true, [([], []), ([], []), ([0, 1, 0], [0, 1]), ([2], [2]), ([3], [3]), ([3], [3]), ([4, 2, 0, 1, 2, 3, 4], [4]), ([5, 6, 0, 1, 2, 3, 4, 5, 6], [5])])
def B41 : List Nat := [0, 0, 3, 7, 15, 15, 31, 127]
theorem tab41 : rtab .any (opsOf Try.f4 41) = T41 := by kernel_rfl
theorem bits41 : waitsOk T41.2 B41 = true := by kernel_rfl
theorem call25 {W : World} {gv : List S36} {gs : List Int} (hv : gv = [Pure.vnode]) (hs : gs = [1, 0]) :
    Calls Try.prog 25 #[] W fun e w' => ∃ B1 d1 B2 d2 B4 d4, e = .returned (.agg #[.int .u8 2, .slice B1 gv.length d1, .slice B2 gs.length d2, .bool false, .slice B4 gv.length d4, .int .u8 1, .int .i64 5, .int .i64 0, .bool false, .int .u8 2]) ∧ QOk w' B1 d1 gv B2 d2 gs B4 d4 gv ∧ Below W.heap.size W w' := by
  refine (tailwaterlaw08_good.calls 2 gv gs false gv 1 5 0 false 2 W (Pure.good_is hv hs)).mono ?_
  rintro e w' ⟨v1, v2, v4, rfl, k1, k2, k4, hb⟩
  obtain ⟨B1, d1, rfl⟩ := Kd.V_slice k1
  obtain ⟨B2, d2, rfl⟩ := Kd.R_slice k2
  obtain ⟨B4, d4, rfl⟩ := Kd.V_slice k4
  exact ⟨B1, d1, B2, d2, B4, d4, rfl, ⟨(Kd.V_reads' k1).2.2, (Kd.V_reads' k1).2.1, (Kd.R_reads' k2).2.2, (Kd.R_reads' k2).2.1, (Kd.V_reads' k4).2.2, (Kd.V_reads' k4).2.1⟩, hb⟩
theorem count26 {w W : World} {B2 : Option Addr} {d2 : Nat} {gs : List Int} (hs : gs = [1, 0]) (o : QOk w none 0 [] B2 d2 gs none 0 []) (hB : Below w.heap.size w W) :
    Calls Try.prog 26 #[.agg #[.int .u8 1, .slice none 0 0, .slice B2 gs.length d2, .bool false, .slice none 0 0, .int .u8 1, .int .i64 5, .int .i64 0, .bool false, .int .u8 2]] W fun e w' => e = .returned (.int .i64 0) ∧ Below W.heap.size W w' := by
  have e := call26 (j := false) (y := false) (a := 1) (p0 := 1) (p1 := 5) (p2 := 0) (t := 2) (o.step hB) (Below.refl _ _) (Pure.count_check hs)
  simp only [List.length_nil] at e
  exact e
theorem nil36 (W : World) : Kd.C k36 W none 0 [] := (Kd.R_reads' (Kd.R_nil k36 36 W 0 (fun _ => True))).2.2
theorem nilInt (W : World) : Kd.C (Kd.int .i64) W none 0 [] := (Kd.R_reads' (Kd.R_nil (Kd.int .i64) 3 W 0 (fun _ => True))).2.2
set_option maxHeartbeats 8000000 in
set_option maxRecDepth 100000 in
theorem walk (w : World) : Calls Try.prog 4 #[] w fun e w' => e = .returned (.bool true) ∧ Below w.heap.size w w' := by
  have hu25 := Try.underlying25
  have hu27 := Try.underlying27
  have hu36 := Try.underlying36
  obtain ⟨ys, hys⟩ : ∃ y_ : List S25, y_ = ([(⟨0, 0, 0⟩ : S25), (⟨1, 0, 0⟩ : S25), (⟨4, 5, 0⟩ : S25), (⟨1, (-1), 0⟩ : S25), (⟨1, 1073741825, 0⟩ : S25), (⟨1, 5, 5⟩ : S25), (⟨3, 5, 1⟩ : S25), (⟨2, 5, 0⟩ : S25), (⟨2, 5, (-1)⟩ : S25), (⟨2, 5, (-9223372036854775808)⟩ : S25), (⟨2, 0, 0⟩ : S25), (⟨3, 0, 0⟩ : S25)] : List S25) := ⟨_, rfl⟩
  have N38 := Aside0.mk hys
  have NB := Aside0.mk (show ys = Pure.bads from hys)
  clear hys
  obtain ⟨gv, hgv⟩ : ∃ y_ : List S36, y_ = [Pure.vnode] := ⟨_, rfl⟩
  have NV := Aside0.mk hgv
  clear hgv
  obtain ⟨gs, hgs⟩ : ∃ y_ : List Int, y_ = [1, 0] := ⟨_, rfl⟩
  have NS := Aside0.mk hgs
  clear hgs
  obtain ⟨y70, hy70⟩ : ∃ y_ : List Int, y_ = ([0, 1, 2, 3] : List Int) := ⟨_, rfl⟩
  have N70 := Aside0.mk hy70
  clear hy70
  obtain ⟨y74, hy74⟩ : ∃ y_ : List Int, y_ = ([0, 1, 2, 3, 9] : List Int) := ⟨_, rfl⟩
  have N74 := Aside0.mk hy74
  clear hy74
  obtain ⟨y83, hy83⟩ : ∃ y_ : List Int, y_ = ([0, 0, 4] : List Int) := ⟨_, rfl⟩
  have N83 := Aside0.mk hy83
  clear hy83
  obtain ⟨y88, hy88⟩ : ∃ y_ : List Int, y_ = ([(-1)] : List Int) := ⟨_, rfl⟩
  have N88 := Aside0.mk hy88
  clear hy88
  obtain ⟨y93, hy93⟩ : ∃ y_ : List Int, y_ = ([3, 3] : List Int) := ⟨_, rfl⟩
  have N93 := Aside0.mk hy93
  clear hy93
  obtain ⟨y98, hy98⟩ : ∃ y_ : List Int, y_ = ([0, 1, 2] : List Int) := ⟨_, rfl⟩
  have N98 := Aside0.mk hy98
  clear hy98
  obtain ⟨y103, hy103⟩ : ∃ y_ : List Int, y_ = ([0, 1, 0] : List Int) := ⟨_, rfl⟩
  have N103 := Aside0.mk hy103
  clear hy103
  obtain ⟨y148, hy148⟩ : ∃ y_ : List Int, y_ = ([1, 1] : List Int) := ⟨_, rfl⟩
  have N148 := Aside0.mk hy148
  clear hy148
  obtain ⟨y113, hy113⟩ : ∃ y_ : List Int, y_ = ([0] : List Int) := ⟨_, rfl⟩
  have N113 := Aside0.mk hy113
  clear hy113
  obtain ⟨y137, hy137⟩ : ∃ y_ : List S36, y_ = ([(⟨0, 0, 0, 0, 0⟩ : S36)] : List S36) := ⟨_, rfl⟩
  have N137 := Aside0.mk hy137
  clear hy137
  obtain ⟨y141, hy141⟩ : ∃ y_ : List S36, y_ = List.replicate 61 z36 := ⟨_, rfl⟩
  have N141 := Aside0.mk hy141
  clear hy141
  have S70 := Aside0.mk (Pure.sources_of N70.out (j := false) (r := 0) (by decide +kernel))
  have S74 := Aside0.mk (Pure.sources_of N74.out (j := true) (r := 4) (by decide +kernel))
  have S83 := Aside0.mk (Pure.sources_of N83.out (j := false) (r := 8) (by decide +kernel))
  have S88 := Aside0.mk (Pure.sources_of N88.out (j := false) (r := 8) (by decide +kernel))
  have S93 := Aside0.mk (Pure.sources_of N93.out (j := true) (r := 43) (by decide +kernel))
  have S98 := Aside0.mk (Pure.sources_of N98.out (j := true) (r := 8) (by decide +kernel))
  have S103 := Aside0.mk (Pure.sources_of N103.out (j := false) (r := 43) (by decide +kernel))
  have SN := Aside0.mk (Pure.sources_of (l := []) rfl (j := false) (r := 8) (by decide +kernel))
  have SL := Aside0.mk Pure.slides
  obtain ⟨sd, hsd⟩ : ∃ s_ : ByteArray, s_ = (⟨#[100]⟩ : ByteArray) := ⟨_, rfl⟩
  have bsd : (sd.toList = [100]) = True := eq_true (by rw [hsd]; decide +kernel)
  obtain ⟨e27, ⟨s4, e274⟩, ⟨s5, e275⟩, e28, ⟨n6, e286⟩, ⟨n7, e287⟩⟩ := Pure.named
  rw [← hsd] at e27
  clear hsd
  have E27 := Aside0.mk e27
  have E274 := Aside0.mk e274
  have E275 := Aside0.mk e275
  have E28 := Aside0.mk e28
  have E286 := Aside0.mk e286
  have E287 := Aside0.mk e287
  clear e27 e274 e275 e28 e286 e287
  have L := Lie.nil (Below.refl w.heap.size w)
  go_enter Try.func4, Try.ntmps4
  go_wp2_with (first | ((with_reducible refine gate_dst (N := 38) rfl ?_); (try (refine gate_guard (by rfl) ?_; dsimp only)); refine Kd.R_lit k25 _ 25 ?hg (N := 38) ?hd (xs := ([(⟨0, 0, 0⟩ : S25), (⟨1, 0, 0⟩ : S25), (⟨4, 5, 0⟩ : S25), (⟨1, (-1), 0⟩ : S25), (⟨1, 1073741825, 0⟩ : S25), (⟨1, 5, 5⟩ : S25), (⟨3, 5, 1⟩ : S25), (⟨2, 5, 0⟩ : S25), (⟨2, 5, (-1)⟩ : S25), (⟨2, 5, (-9223372036854775808)⟩ : S25), (⟨2, 0, 0⟩ : S25), (⟨3, 0, 0⟩ : S25)] : List S25)) (inner := [.int .u8 0, .int .i64 0, .int .i64 0, .int .u8 1, .int .i64 0, .int .i64 0, .int .u8 4, .int .i64 5, .int .i64 0, .int .u8 1, .int .i64 (-1), .int .i64 0, .int .u8 1, .int .i64 1073741825, .int .i64 0, .int .u8 1, .int .i64 5, .int .i64 5, .int .u8 3, .int .i64 5, .int .i64 1, .int .u8 2, .int .i64 5, .int .i64 0, .int .u8 2, .int .i64 5, .int .i64 (-1), .int .u8 2, .int .i64 5, .int .i64 (-9223372036854775808), .int .u8 2, .int .i64 0, .int .i64 0, .int .u8 3, .int .i64 0, .int .i64 0]) (ok := fun _ => True) (okp := fun _ => True) ?hr ?hp (fun _ hk => hk) trivial (Below.refl _ _) (Nat.le_refl _) (by simp) ?_; (case hd => rfl); (case hg => rfl); (case hr => first | (go_simp; done) | (go_simp; rfl)); (case hp => exact (Reps.c3 (show Kd.M k25 _ _ _ (⟨0, 0, 0⟩ : S25) [.int .u8 0, .int .i64 0, .int .i64 0] from (k25_mkM _ _ _ (⟨0, 0, 0⟩ : S25))) (Reps.c3 (show Kd.M k25 _ _ _ (⟨1, 0, 0⟩ : S25) [.int .u8 1, .int .i64 0, .int .i64 0] from (k25_mkM _ _ _ (⟨1, 0, 0⟩ : S25))) (Reps.c3 (show Kd.M k25 _ _ _ (⟨4, 5, 0⟩ : S25) [.int .u8 4, .int .i64 5, .int .i64 0] from (k25_mkM _ _ _ (⟨4, 5, 0⟩ : S25))) (Reps.c3 (show Kd.M k25 _ _ _ (⟨1, (-1), 0⟩ : S25) [.int .u8 1, .int .i64 (-1), .int .i64 0] from (k25_mkM _ _ _ (⟨1, (-1), 0⟩ : S25))) (Reps.c3 (show Kd.M k25 _ _ _ (⟨1, 1073741825, 0⟩ : S25) [.int .u8 1, .int .i64 1073741825, .int .i64 0] from (k25_mkM _ _ _ (⟨1, 1073741825, 0⟩ : S25))) (Reps.c3 (show Kd.M k25 _ _ _ (⟨1, 5, 5⟩ : S25) [.int .u8 1, .int .i64 5, .int .i64 5] from (k25_mkM _ _ _ (⟨1, 5, 5⟩ : S25))) (Reps.c3 (show Kd.M k25 _ _ _ (⟨3, 5, 1⟩ : S25) [.int .u8 3, .int .i64 5, .int .i64 1] from (k25_mkM _ _ _ (⟨3, 5, 1⟩ : S25))) (Reps.c3 (show Kd.M k25 _ _ _ (⟨2, 5, 0⟩ : S25) [.int .u8 2, .int .i64 5, .int .i64 0] from (k25_mkM _ _ _ (⟨2, 5, 0⟩ : S25))) (Reps.c3 (show Kd.M k25 _ _ _ (⟨2, 5, (-1)⟩ : S25) [.int .u8 2, .int .i64 5, .int .i64 (-1)] from (k25_mkM _ _ _ (⟨2, 5, (-1)⟩ : S25))) (Reps.c3 (show Kd.M k25 _ _ _ (⟨2, 5, (-9223372036854775808)⟩ : S25) [.int .u8 2, .int .i64 5, .int .i64 (-9223372036854775808)] from (k25_mkM _ _ _ (⟨2, 5, (-9223372036854775808)⟩ : S25))) (Reps.c3 (show Kd.M k25 _ _ _ (⟨2, 0, 0⟩ : S25) [.int .u8 2, .int .i64 0, .int .i64 0] from (k25_mkM _ _ _ (⟨2, 0, 0⟩ : S25))) (Reps.c3 (show Kd.M k25 _ _ _ (⟨3, 0, 0⟩ : S25) [.int .u8 3, .int .i64 0, .int .i64 0] from (k25_mkM _ _ _ (⟨3, 0, 0⟩ : S25))) (Reps.none _ _)))))))))))))); intro v38 w1 ho38 hb hg_ hnew_; clear hg_ hnew_; (first | rw [← N38.out] at ho38 | (simp only [Int.reduceToNat] at ho38; rw [← N38.out] at ho38)); replace ho38 := Kd.R_lower ho38 L.bel.size; replace L := L.step hb; clear hb))
  go_loopg [2] 13 (fun kq v_ w' => ∃ n : Int, v_ = .int .i64 n ∧ Aside0 (0 ≤ n ∧ n ≤ 12 ∧ 12 < n + (kq : Int) ∧ kq ≤ 13) ∧ Kd.R k25 25 w' w.heap.size (fun _ => True) v38 ys ∧ Lie w [] w')
  case atStart => exact ⟨0, (by first | rfl | (simp; done) | (simp [*]; done)), ⟨by omega, by omega, by omega, Nat.le_refl _⟩, ho38, L⟩
  case round =>
    clear ho38 L
    obtain ⟨n, rfl, HI, HO, L⟩ := hrel
    have hl : ys.length = 12 := by rw [NB.out]; rfl
    have HL := Aside0.mk hl
    clear hl
    cases gk with
    | zero => exact absurd HI.out.2.2.1 (by have := HI.out.2.1; omega)
    | succ k2 =>
      obtain ⟨Ao, co, rfl⟩ := Kd.R_slice HO
      by_cases c : n < (ys.length : Int)
      · have b0 : decide (n < (ys.length : Int)) = true := decide_eq_true c
        have b1 : decide (0 ≤ n) = true := decide_eq_true HI.out.1
        obtain ⟨ad, e_, hx0, hx1, hx2⟩ := at_T25 (Kd.R_reads' HO).2.2 n HI.out.1 c
        cases e_
        have EW := Aside0.mk (Pure.bad_windows NB.out c)
        have HC := Aside0.mk c
        have pp := eq_true HI.out.1
        replace c := eq_true c
        go_wp2_with (first | ((with_reducible refine gate_callee (f := 22) rfl ?_); refine goesL_ (some 49) rfl rfl Try.func22 (by kernel_rfl) rfl #[.agg #[.int .u8 ((rd_T25 ys n).f0), .int .i64 ((rd_T25 ys n).f1), .int .i64 ((rd_T25 ys n).f2)]] rfl (by (try simp only [List.map_toArray, List.map_cons, List.map_nil]); first | done | rfl | (simp only [List.length_drop, List.length_take]; rfl)) ?_; refine (clauses_Window.calls 9 ((rd_T25 ys n).f0) ((rd_T25 ys n).f1) ((rd_T25 ys n).f2) 8 _ EW.out).mono ?_; rintro e w8 ⟨rfl, hb⟩; refine ⟨_, rfl, ?_⟩; replace HO := Kd.R_below HO hb; replace L := L.step hb; clear hb))
        go_roundg k2
        case measure => have := HI.out; omega
        case rel => exact ⟨wrap64 (n + 1), (by first | rfl | (simp; done) | (simp [*]; done)), ⟨by have := HI.out; have := HC.out; have := HL.out; rw [Pure.w64 (by omega)]; exact ⟨by omega, by omega, by omega, by omega⟩⟩, HO, L⟩
      · have b0 : decide (n < (ys.length : Int)) = false := decide_eq_false c
        clear c HI HO HL N38 NB
        go_wp2_with (first | ((with_reducible refine gate_callee (f := 22) rfl ?_); refine goesL_ (some 52) rfl rfl Try.func22 (by kernel_rfl) rfl #[.agg #[.int .u8 3, .int .i64 1073741824, .int .i64 0]] rfl (by (try simp only [List.map_toArray, List.map_cons, List.map_nil]); first | done | rfl | (simp only [List.length_drop, List.length_take]; rfl)) ?_; refine (clauses_Window.calls 9 3 1073741824 0 0 _ SL.out.2.2.2.2).mono ?_; rintro e w52 ⟨rfl, hb⟩; refine ⟨_, rfl, ?_⟩; replace L := L.step hb; clear hb) | (go_at_call 23; (with_reducible refine (tailwaterlaw08_slide.calls 9 1073741824 1073741824 0 _ SL.out.1).mono ?_); rintro e w53 ⟨rfl, hb⟩; replace L := L.step hb; clear hb) | (go_at_call 23; (with_reducible refine (tailwaterlaw08_slide.calls 9 16 1 0 _ SL.out.2.1).mono ?_); rintro e w53 ⟨rfl, hb⟩; replace L := L.step hb; clear hb) | (go_at_call 23; (with_reducible refine (tailwaterlaw08_slide.calls 9 1073741824 67108864 0 _ SL.out.2.2.1).mono ?_); rintro e w53 ⟨rfl, hb⟩; replace L := L.step hb; clear hb) | (go_at_call 23; (with_reducible refine (tailwaterlaw08_slide.calls 9 1073741824 67108863 8 _ SL.out.2.2.2.1).mono ?_); rintro e w53 ⟨rfl, hb⟩; replace L := L.step hb; clear hb) | ((with_reducible refine gate_dst (N := 70) rfl ?_); (try (refine gate_guard (by rfl) ?_; dsimp only)); refine Kd.R_lit (Kd.int .i64) _ 3 ?hg (N := 70) ?hd (xs := ([0, 1, 2, 3] : List Int)) (inner := [.int .i64 0, .int .i64 1, .int .i64 2, .int .i64 3]) (ok := fun _ => True) (okp := fun _ => True) ?hr ?hp (fun _ hk => hk) trivial (Below.refl _ _) (Nat.le_refl _) (by simp) ?_; (case hd => rfl); (case hg => rfl); (case hr => first | (go_simp; done) | (go_simp; rfl)); (case hp => exact (Reps.one (show Kd.M (Kd.int .i64) _ _ _ 0 [.int .i64 0] from rfl) (Reps.one (show Kd.M (Kd.int .i64) _ _ _ 1 [.int .i64 1] from rfl) (Reps.one (show Kd.M (Kd.int .i64) _ _ _ 2 [.int .i64 2] from rfl) (Reps.one (show Kd.M (Kd.int .i64) _ _ _ 3 [.int .i64 3] from rfl) (Reps.none _ _)))))); intro v70 w9 ho70 hb hg_ hnew_; clear hg_ hnew_; (first | rw [← N70.out] at ho70 | (simp only [Int.reduceToNat] at ho70; rw [← N70.out] at ho70)); obtain ⟨A70, c70, rfl⟩ := Kd.R_slice ho70; replace L := L.step hb; clear hb) | ((with_reducible refine gate_callee (f := 24) rfl ?_); refine goesL_ (some 71) rfl rfl Try.func24 (by kernel_rfl) rfl #[.slice A70 y70.length c70, .bool false] rfl (by (try simp only [List.map_toArray, List.map_cons, List.map_nil]); first | done | rfl | (simp only [List.length_drop, List.length_take]; rfl)) ?_; refine (clauses_Sources.calls _ _ y70 false 0 _ (Kd.R_reads' ho70).2.2 (Kd.R_reads' ho70).2.1 S70.out).mono ?_; rintro e w71 ⟨rfl, hb⟩; refine ⟨_, rfl, ?_⟩; replace L := L.step hb; clear hb; clear ho70) | ((with_reducible refine gate_dst (N := 74) rfl ?_); (try (refine gate_guard (by rfl) ?_; dsimp only)); refine Kd.R_lit (Kd.int .i64) _ 3 ?hg (N := 74) ?hd (xs := ([0, 1, 2, 3, 9] : List Int)) (inner := [.int .i64 0, .int .i64 1, .int .i64 2, .int .i64 3, .int .i64 9]) (ok := fun _ => True) (okp := fun _ => True) ?hr ?hp (fun _ hk => hk) trivial (Below.refl _ _) (Nat.le_refl _) (by simp) ?_; (case hd => rfl); (case hg => rfl); (case hr => first | (go_simp; done) | (go_simp; rfl)); (case hp => exact (Reps.one (show Kd.M (Kd.int .i64) _ _ _ 0 [.int .i64 0] from rfl) (Reps.one (show Kd.M (Kd.int .i64) _ _ _ 1 [.int .i64 1] from rfl) (Reps.one (show Kd.M (Kd.int .i64) _ _ _ 2 [.int .i64 2] from rfl) (Reps.one (show Kd.M (Kd.int .i64) _ _ _ 3 [.int .i64 3] from rfl) (Reps.one (show Kd.M (Kd.int .i64) _ _ _ 9 [.int .i64 9] from rfl) (Reps.none _ _))))))); intro v74 w9 ho74 hb hg_ hnew_; clear hg_ hnew_; (first | rw [← N74.out] at ho74 | (simp only [Int.reduceToNat] at ho74; rw [← N74.out] at ho74)); obtain ⟨A74, c74, rfl⟩ := Kd.R_slice ho74; replace L := L.step hb; clear hb) | (go_at_call 24; (with_reducible refine (clauses_Sources.calls _ _ y74 true 4 _ (Kd.R_reads' ho74).2.2 (Kd.R_reads' ho74).2.1 S74.out).mono ?_); rintro e w72 ⟨rfl, hb⟩; replace L := L.step hb; clear hb; clear ho74) | ((with_reducible refine gate_dst (N := 83) rfl ?_); (try (refine gate_guard (by rfl) ?_; dsimp only)); refine Kd.R_lit (Kd.int .i64) _ 3 ?hg (N := 83) ?hd (xs := ([0, 0, 4] : List Int)) (inner := [.int .i64 0, .int .i64 0, .int .i64 4]) (ok := fun _ => True) (okp := fun _ => True) ?hr ?hp (fun _ hk => hk) trivial (Below.refl _ _) (Nat.le_refl _) (by simp) ?_; (case hd => rfl); (case hg => rfl); (case hr => first | (go_simp; done) | (go_simp; rfl)); (case hp => exact (Reps.one (show Kd.M (Kd.int .i64) _ _ _ 0 [.int .i64 0] from rfl) (Reps.one (show Kd.M (Kd.int .i64) _ _ _ 0 [.int .i64 0] from rfl) (Reps.one (show Kd.M (Kd.int .i64) _ _ _ 4 [.int .i64 4] from rfl) (Reps.none _ _))))); intro v83 w9 ho83 hb hg_ hnew_; clear hg_ hnew_; (first | rw [← N83.out] at ho83 | (simp only [Int.reduceToNat] at ho83; rw [← N83.out] at ho83)); obtain ⟨A83, c83, rfl⟩ := Kd.R_slice ho83; replace L := L.step hb; clear hb) | (go_at_call 24; (with_reducible refine (clauses_Sources.calls _ _ y83 false 8 _ (Kd.R_reads' ho83).2.2 (Kd.R_reads' ho83).2.1 S83.out).mono ?_); rintro e w72 ⟨rfl, hb⟩; replace L := L.step hb; clear hb; clear ho83) | ((with_reducible refine gate_dst (N := 88) rfl ?_); (try (refine gate_guard (by rfl) ?_; dsimp only)); refine Kd.R_lit (Kd.int .i64) _ 3 ?hg (N := 88) ?hd (xs := ([(-1)] : List Int)) (inner := [.int .i64 (-1)]) (ok := fun _ => True) (okp := fun _ => True) ?hr ?hp (fun _ hk => hk) trivial (Below.refl _ _) (Nat.le_refl _) (by simp) ?_; (case hd => rfl); (case hg => rfl); (case hr => first | (go_simp; done) | (go_simp; rfl)); (case hp => exact (Reps.one (show Kd.M (Kd.int .i64) _ _ _ (-1) [.int .i64 (-1)] from rfl) (Reps.none _ _))); intro v88 w9 ho88 hb hg_ hnew_; clear hg_ hnew_; (first | rw [← N88.out] at ho88 | (simp only [Int.reduceToNat] at ho88; rw [← N88.out] at ho88)); obtain ⟨A88, c88, rfl⟩ := Kd.R_slice ho88; replace L := L.step hb; clear hb) | (go_at_call 24; (with_reducible refine (clauses_Sources.calls _ _ y88 false 8 _ (Kd.R_reads' ho88).2.2 (Kd.R_reads' ho88).2.1 S88.out).mono ?_); rintro e w72 ⟨rfl, hb⟩; replace L := L.step hb; clear hb; clear ho88) | ((with_reducible refine gate_dst (N := 93) rfl ?_); (try (refine gate_guard (by rfl) ?_; dsimp only)); refine Kd.R_lit (Kd.int .i64) _ 3 ?hg (N := 93) ?hd (xs := ([3, 3] : List Int)) (inner := [.int .i64 3, .int .i64 3]) (ok := fun _ => True) (okp := fun _ => True) ?hr ?hp (fun _ hk => hk) trivial (Below.refl _ _) (Nat.le_refl _) (by simp) ?_; (case hd => rfl); (case hg => rfl); (case hr => first | (go_simp; done) | (go_simp; rfl)); (case hp => exact (Reps.one (show Kd.M (Kd.int .i64) _ _ _ 3 [.int .i64 3] from rfl) (Reps.one (show Kd.M (Kd.int .i64) _ _ _ 3 [.int .i64 3] from rfl) (Reps.none _ _)))); intro v93 w9 ho93 hb hg_ hnew_; clear hg_ hnew_; (first | rw [← N93.out] at ho93 | (simp only [Int.reduceToNat] at ho93; rw [← N93.out] at ho93)); obtain ⟨A93, c93, rfl⟩ := Kd.R_slice ho93; replace L := L.step hb; clear hb) | (go_at_call 24; (with_reducible refine (clauses_Sources.calls _ _ y93 true 43 _ (Kd.R_reads' ho93).2.2 (Kd.R_reads' ho93).2.1 S93.out).mono ?_); rintro e w72 ⟨rfl, hb⟩; replace L := L.step hb; clear hb; clear ho93) | ((with_reducible refine gate_dst (N := 98) rfl ?_); (try (refine gate_guard (by rfl) ?_; dsimp only)); refine Kd.R_lit (Kd.int .i64) _ 3 ?hg (N := 98) ?hd (xs := ([0, 1, 2] : List Int)) (inner := [.int .i64 0, .int .i64 1, .int .i64 2]) (ok := fun _ => True) (okp := fun _ => True) ?hr ?hp (fun _ hk => hk) trivial (Below.refl _ _) (Nat.le_refl _) (by simp) ?_; (case hd => rfl); (case hg => rfl); (case hr => first | (go_simp; done) | (go_simp; rfl)); (case hp => exact (Reps.one (show Kd.M (Kd.int .i64) _ _ _ 0 [.int .i64 0] from rfl) (Reps.one (show Kd.M (Kd.int .i64) _ _ _ 1 [.int .i64 1] from rfl) (Reps.one (show Kd.M (Kd.int .i64) _ _ _ 2 [.int .i64 2] from rfl) (Reps.none _ _))))); intro v98 w9 ho98 hb hg_ hnew_; clear hg_ hnew_; (first | rw [← N98.out] at ho98 | (simp only [Int.reduceToNat] at ho98; rw [← N98.out] at ho98)); obtain ⟨A98, c98, rfl⟩ := Kd.R_slice ho98; replace L := L.step hb; clear hb) | (go_at_call 24; (with_reducible refine (clauses_Sources.calls _ _ y98 true 8 _ (Kd.R_reads' ho98).2.2 (Kd.R_reads' ho98).2.1 S98.out).mono ?_); rintro e w72 ⟨rfl, hb⟩; replace L := L.step hb; clear hb; clear ho98) | ((with_reducible refine gate_dst (N := 103) rfl ?_); (try (refine gate_guard (by rfl) ?_; dsimp only)); refine Kd.R_lit (Kd.int .i64) _ 3 ?hg (N := 103) ?hd (xs := ([0, 1, 0] : List Int)) (inner := [.int .i64 0, .int .i64 1, .int .i64 0]) (ok := fun _ => True) (okp := fun _ => True) ?hr ?hp (fun _ hk => hk) trivial (Below.refl _ _) (Nat.le_refl _) (by simp) ?_; (case hd => rfl); (case hg => rfl); (case hr => first | (go_simp; done) | (go_simp; rfl)); (case hp => exact (Reps.one (show Kd.M (Kd.int .i64) _ _ _ 0 [.int .i64 0] from rfl) (Reps.one (show Kd.M (Kd.int .i64) _ _ _ 1 [.int .i64 1] from rfl) (Reps.one (show Kd.M (Kd.int .i64) _ _ _ 0 [.int .i64 0] from rfl) (Reps.none _ _))))); intro v103 w9 ho103 hb hg_ hnew_; clear hg_ hnew_; (first | rw [← N103.out] at ho103 | (simp only [Int.reduceToNat] at ho103; rw [← N103.out] at ho103)); obtain ⟨A103, c103, rfl⟩ := Kd.R_slice ho103; replace L := L.step hb; clear hb) | (go_at_call 24; (with_reducible refine (clauses_Sources.calls _ _ y103 false 43 _ (Kd.R_reads' ho103).2.2 (Kd.R_reads' ho103).2.1 S103.out).mono ?_); rintro e w72 ⟨rfl, hb⟩; replace L := L.step hb; clear hb; clear ho103) | (go_at_call 24; refine (clauses_Sources.calls none 0 [] false 8 _ (nilInt _) (Nat.le_refl _) SN.out).mono ?_; rintro e w73 ⟨rfl, hb⟩; replace L := L.step hb; clear hb))
        clear S70 S74 S83 S88 S93 S98 S103 SN SL
        go_loopg [5] 14 (fun kq v_ w' => ∃ n : Int, v_ = .int .i64 n ∧ Aside0 (0 ≤ n ∧ n ≤ 13 ∧ 13 < n + (kq : Int) ∧ kq ≤ 14) ∧ Lie w [] w')
        case atStart => exact ⟨0, (by first | rfl | (simp; done) | (simp [*]; done)), ⟨by omega, by omega, by omega, Nat.le_refl _⟩, L⟩
        case round =>
          clear L
          obtain ⟨n, rfl, HI, L⟩ := hrel
          cases gk with
          | zero => exact absurd HI.out.2.2.1 (by have := HI.out.2.1; omega)
          | succ k3 =>
            by_cases c : n < 13
            · have b0 : decide (n < 13) = true := decide_eq_true c
              have HC := Aside0.mk c
              clear c
              go_upto_block 4 with (first | ((with_reducible refine gate_callee (f := 25) rfl ?_); refine goesL_ (some 111) rfl rfl Try.func25 (by kernel_rfl) rfl #[] rfl (by (try simp only [List.map_toArray, List.map_cons, List.map_nil]); first | done | rfl | (simp only [List.length_drop, List.length_take]; rfl)) ?_; refine (call25 NV.out NS.out).mono ?_; rintro e w25 ⟨B1, d1, B2, d2, B4, d4, rfl, OG, hb⟩; refine ⟨_, rfl, ?_⟩; replace L := L.step hb; clear hb; have LT := Lie.nil (Below.refl w25.heap.size w25)) | ((with_reducible refine gate_dst (N := 6) rfl ?_); (try (refine gate_guard (by rfl) ?_; dsimp only)); refine box_event ?hg (N := 6) ?hd (cs := #[.int .u8 0, .slice none 0 0, .slice none 0 0, .bool false, .slice none 0 0, .int .u8 0, .int .i64 0, .int .i64 0, .bool false, .int .u8 0]) (t := 27) ?hr ?_; (case hd => rfl); (case hg => rfl); (case hr => first | (go_simp; done) | (go_simp; rfl)); intro g6 hg W5 hbox hb; replace LT := LT.more [] [] hg hbox hb; replace L := L.more [] [] hg hbox hb; clear hg hbox hb; refine query_cells_ (L.get 0 rfl) fun x0 x1 x2 x3 x4 x5 x6 x7 x8 x9 f0 f1 f2 f3 f4 f5 f6 f7 f8 f9 => ?_))
              (try simp only [Act.put, List.setIfInBounds_toArray, List.set_cons_zero, List.set_cons_succ])
              refine gen_wp (fun wz => Lie w [(g6, .cells #[.int .u8 2, .slice B1 gv.length d1, .slice B2 gs.length d2, .bool false, .slice B4 gv.length d4, .int .u8 1, .int .i64 5, .int .i64 0, .bool false, .int .u8 2] 27 (0, 0))] wz ∧ Lie w25 [(g6, .cells #[.int .u8 2, .slice B1 gv.length d1, .slice B2 gs.length d2, .bool false, .slice B4 gv.length d4, .int .u8 1, .int .i64 5, .int .i64 0, .bool false, .int .u8 2] 27 (0, 0))] wz) ⟨Lie.fill10 [] [] L (.int .u8 2) (.slice B1 gv.length d1) (.slice B2 gs.length d2) (.bool false) (.slice B4 gv.length d4) (.int .u8 1) (.int .i64 5) (.int .i64 0) (.bool false) (.int .u8 2), Lie.fill10 [] [] LT (.int .u8 2) (.slice B1 gv.length d1) (.slice B2 gs.length d2) (.bool false) (.slice B4 gv.length d4) (.int .u8 1) (.int .i64 5) (.int .i64 0) (.bool false) (.int .u8 2)⟩ ?_
              clear L LT x0 x1 x2 x3 x4 x5 x6 x7 x8 x9 f0 f1 f2 f3 f4 f5 f6 f7 f8 f9
              rintro wz ⟨L, LT⟩
              go_cut [7] (fun v7 wc => ∃ (a : Int) (A1 : Option Addr) (c1 : Nat) (l1 : List S36) (A2 : Option Addr) (c2 : Nat) (l2 : List Int) (j : Bool) (A4 : Option Addr) (c4 : Nat) (l4 : List S36) (p0 p1 t want : Int), v7 = .int .i64 want ∧ Aside0 (Pure.Bad gv gs a l1 l2 j l4 p0 p1 t want) ∧ QOk wc A1 c1 l1 A2 c2 l2 A4 c4 l4 ∧ Lie w [(g6, .cells #[.int .u8 a, .slice A1 l1.length c1, .slice A2 l2.length c2, .bool j, .slice A4 l4.length c4, .int .u8 p0, .int .i64 p1, .int .i64 0, .bool false, .int .u8 t] 27 (0, 0))] wc)
              case first =>
                have hn : n = 0 ∨ n = 1 ∨ n = 2 ∨ n = 3 ∨ n = 4 ∨ n = 5 ∨ n = 6 ∨ n = 7 ∨ n = 8 ∨ n = 9 ∨ n = 10 ∨ n = 11 ∨ n = 12 := by have := HI.out; have := HC.out; omega
                rcases hn with rfl | rfl | rfl | rfl | rfl | rfl | rfl | rfl | rfl | rfl | rfl | rfl | rfl
                · refine query_cells_ (L.get 0 rfl) fun x0 x1 x2 x3 x4 x5 x6 x7 x8 x9 f0 f1 f2 f3 f4 f5 f6 f7 f8 f9 => ?_
                  go_wp2
                  go_meet
                  case rel =>
                    have o_ := OG.step (LT.put [] [] 0 (.int .u8 0)).bel
                    exact ⟨0, B1, d1, gv, B2, d2, gs, false, B4, d4, gv, 1, 5, 2, 8, (by first | rfl | (simp; done) | (simp [*]; done)), ⟨Pure.bad_of NV.out NS.out (by rw [NV.out]; decide) (by rw [NV.out]; decide) (by rw [NS.out]; decide) (by rw [NV.out, NS.out]; decide +kernel) (by decide)⟩, ⟨o_.r1, o_.h1, o_.r2, o_.h2, o_.r4, o_.h4⟩, L.put [] [] 0 (.int .u8 0)⟩
                · refine query_cells_ (L.get 0 rfl) fun x0 x1 x2 x3 x4 x5 x6 x7 x8 x9 f0 f1 f2 f3 f4 f5 f6 f7 f8 f9 => ?_
                  go_wp2
                  go_meet
                  case rel =>
                    have o_ := OG.step (LT.put [] [] 0 (.int .u8 5)).bel
                    exact ⟨5, B1, d1, gv, B2, d2, gs, false, B4, d4, gv, 1, 5, 2, 8, (by first | rfl | (simp; done) | (simp [*]; done)), ⟨Pure.bad_of NV.out NS.out (by rw [NV.out]; decide) (by rw [NV.out]; decide) (by rw [NS.out]; decide) (by rw [NV.out, NS.out]; decide +kernel) (by decide)⟩, ⟨o_.r1, o_.h1, o_.r2, o_.h2, o_.r4, o_.h4⟩, L.put [] [] 0 (.int .u8 5)⟩
                · refine query_cells_ (L.get 0 rfl) fun x0 x1 x2 x3 x4 x5 x6 x7 x8 x9 f0 f1 f2 f3 f4 f5 f6 f7 f8 f9 => ?_
                  go_wp2
                  go_meet
                  case rel =>
                    have o_ := OG.step (LT.put [] [] 9 (.int .u8 0)).bel
                    exact ⟨2, B1, d1, gv, B2, d2, gs, false, B4, d4, gv, 1, 5, 0, 8, (by first | rfl | (simp; done) | (simp [*]; done)), ⟨Pure.bad_of NV.out NS.out (by rw [NV.out]; decide) (by rw [NV.out]; decide) (by rw [NS.out]; decide) (by rw [NV.out, NS.out]; decide +kernel) (by decide)⟩, ⟨o_.r1, o_.h1, o_.r2, o_.h2, o_.r4, o_.h4⟩, L.put [] [] 9 (.int .u8 0)⟩
                · refine query_cells_ (L.get 0 rfl) fun x0 x1 x2 x3 x4 x5 x6 x7 x8 x9 f0 f1 f2 f3 f4 f5 f6 f7 f8 f9 => ?_
                  go_wp2
                  go_meet
                  case rel =>
                    have o_ := OG.step (LT.put [] [] 9 (.int .u8 3)).bel
                    exact ⟨2, B1, d1, gv, B2, d2, gs, false, B4, d4, gv, 1, 5, 3, 8, (by first | rfl | (simp; done) | (simp [*]; done)), ⟨Pure.bad_of NV.out NS.out (by rw [NV.out]; decide) (by rw [NV.out]; decide) (by rw [NS.out]; decide) (by rw [NV.out, NS.out]; decide +kernel) (by decide)⟩, ⟨o_.r1, o_.h1, o_.r2, o_.h2, o_.r4, o_.h4⟩, L.put [] [] 9 (.int .u8 3)⟩
                · refine query_cells_ (L.get 0 rfl) fun x0 x1 x2 x3 x4 x5 x6 x7 x8 x9 f0 f1 f2 f3 f4 f5 f6 f7 f8 f9 => ?_
                  go_wp2
                  go_meet
                  case rel =>
                    have o_ := OG.step (LT.put [] [] 0 (.int .u8 1)).bel
                    exact ⟨1, B1, d1, gv, B2, d2, gs, false, B4, d4, gv, 1, 5, 2, 8, (by first | rfl | (simp; done) | (simp [*]; done)), ⟨Pure.bad_of NV.out NS.out (by rw [NV.out]; decide) (by rw [NV.out]; decide) (by rw [NS.out]; decide) (by rw [NV.out, NS.out]; decide +kernel) (by decide)⟩, ⟨o_.r1, o_.h1, o_.r2, o_.h2, o_.r4, o_.h4⟩, L.put [] [] 0 (.int .u8 1)⟩
                · refine query_cells_ (L.get 0 rfl) fun x0 x1 x2 x3 x4 x5 x6 x7 x8 x9 f0 f1 f2 f3 f4 f5 f6 f7 f8 f9 => ?_
                  go_wp2
                  go_meet
                  case rel =>
                    have o_ := OG.step (LT.put [] [] 1 (.slice none 0 0)).bel
                    exact ⟨2, none, 0, [], B2, d2, gs, false, B4, d4, gv, 1, 5, 2, 8, (by first | rfl | (simp; done) | (simp [*]; done)), ⟨Pure.bad_of NV.out NS.out (by simp) (by rw [NV.out]; decide) (by rw [NS.out]; decide) (by rw [NV.out, NS.out]; decide +kernel) (by decide)⟩, ⟨nil36 _, Nat.le_refl _, o_.r2, o_.h2, o_.r4, o_.h4⟩, L.put [] [] 1 (.slice none 0 0)⟩
                · refine query_cells_ (L.get 0 rfl) fun x0 x1 x2 x3 x4 x5 x6 x7 x8 x9 f0 f1 f2 f3 f4 f5 f6 f7 f8 f9 => ?_
                  go_wp2_with (first | ((with_reducible refine gate_dst (N := 137) rfl ?_); (try (refine gate_guard (by rfl) ?_; dsimp only)); refine Kd.R_lit k36 _ 36 ?hg (N := 137) ?hd (xs := ([(⟨0, 0, 0, 0, 0⟩ : S36)] : List S36)) (inner := [.int .u8 0, .int .i64 0, .int .i64 0, .int .i64 0, .int .i64 0]) (ok := fun k_ => k_ ≠ g6) (okp := fun k_ => k_ ≠ g6) ?hr ?hp (fun _ hk => hk) (Nat.ne_of_gt (L.lt (p := (g6, _)) List.mem_cons_self)) (Below.refl _ _) (Nat.le_refl _) (by simp) ?_; (case hd => rfl); (case hg => rfl); (case hr => first | (go_simp; done) | (go_simp; rfl)); (case hp => exact (Reps.c5 (show Kd.M k36 _ _ _ (⟨0, 0, 0, 0, 0⟩ : S36) [.int .u8 0, .int .i64 0, .int .i64 0, .int .i64 0, .int .i64 0] from (k36_mkM _ _ _ (⟨0, 0, 0, 0, 0⟩ : S36))) (Reps.none _ _))); intro v137 w9 ho137 hb hg_ hnew_; clear hg_ hnew_; (first | rw [← N137.out] at ho137 | (simp only [Int.reduceToNat] at ho137; rw [← N137.out] at ho137)); obtain ⟨A137, c137, rfl⟩ := Kd.R_slice ho137; replace L := L.step hb; replace LT := LT.step hb; clear hb; refine query_cells_ (L.get 0 rfl) fun x0 x1 x2 x3 x4 x5 x6 x7 x8 x9 f0 f1 f2 f3 f4 f5 f6 f7 f8 f9 => ?_))
                  go_meet
                  case rel =>
                    have o_ := OG.step (LT.put [] [] 4 (.slice A137 y137.length c137)).bel
                    exact ⟨2, B1, d1, gv, B2, d2, gs, false, A137, c137, y137, 1, 5, 2, 8, (by first | rfl | (simp; done) | (simp [*]; done)), ⟨Pure.bad_of NV.out NS.out (by rw [NV.out]; decide) (by rw [N137.out]; decide) (by rw [NS.out]; decide) (by rw [NV.out, NS.out, N137.out]; decide +kernel) (by decide)⟩, ⟨o_.r1, o_.h1, o_.r2, o_.h2, (Kd.R_reads' (Kd.R_far (ho137) (p := ⟨g6, 4, none⟩) (fun _ hk => hk) (.slice A137 y137.length c137))).2.2, (Kd.R_reads' (Kd.R_far (ho137) (p := ⟨g6, 4, none⟩) (fun _ hk => hk) (.slice A137 y137.length c137))).2.1⟩, L.put [] [] 4 (.slice A137 y137.length c137)⟩
                · refine query_cells_ (L.get 0 rfl) fun x0 x1 x2 x3 x4 x5 x6 x7 x8 x9 f0 f1 f2 f3 f4 f5 f6 f7 f8 f9 => ?_
                  go_wp2_with (first | ((with_reducible refine gate_dst (N := 141) rfl ?_); (try (refine gate_guard (by rfl) ?_; dsimp only)); refine Kd.R_make k36 _ 36 rfl (N := 141) rfl 22 _ _ rfl 61 rfl rfl Try.underlying22 (.agg #[(.int .u8 0), (.int .i64 0), (.int .i64 0), (.int .i64 0), (.int .i64 0)]) 40 info36 rfl (by decide) (by omega) z36 (ok := fun k_ => k_ ≠ g6) (okp := fun k_ => k_ ≠ g6) (k36_mkM _ _ _ z36 ) (fun _ hk => hk) (Nat.ne_of_gt (L.lt (p := (g6, _)) List.mem_cons_self)) (by omega) (by omega) (Below.refl _ _) (Nat.le_refl _) ?_; intro v141 w9 ho141 hb hg_ hnew_; clear hg_ hnew_; (first | rw [← N141.out] at ho141 | (simp only [Int.reduceToNat] at ho141; rw [← N141.out] at ho141)); obtain ⟨A141, c141, rfl⟩ := Kd.R_slice ho141; replace L := L.step hb; replace LT := LT.step hb; clear hb; refine query_cells_ (L.get 0 rfl) fun x0 x1 x2 x3 x4 x5 x6 x7 x8 x9 f0 f1 f2 f3 f4 f5 f6 f7 f8 f9 => ?_))
                  go_meet
                  case rel =>
                    have o_ := OG.step (LT.put [] [] 4 (.slice A141 y141.length c141)).bel
                    exact ⟨2, B1, d1, gv, B2, d2, gs, false, A141, c141, y141, 1, 5, 2, 4, (by first | rfl | (simp; done) | (simp [*]; done)), ⟨Pure.bad_of NV.out NS.out (by rw [NV.out]; decide) (by rw [N141.out]; decide) (by rw [NS.out]; decide) (by rw [NV.out, NS.out, N141.out]; decide +kernel) (by decide)⟩, ⟨o_.r1, o_.h1, o_.r2, o_.h2, (Kd.R_reads' (Kd.R_far (ho141) (p := ⟨g6, 4, none⟩) (fun _ hk => hk) (.slice A141 y141.length c141))).2.2, (Kd.R_reads' (Kd.R_far (ho141) (p := ⟨g6, 4, none⟩) (fun _ hk => hk) (.slice A141 y141.length c141))).2.1⟩, L.put [] [] 4 (.slice A141 y141.length c141)⟩
                · refine query_cells_ (L.get 0 rfl) fun x0 x1 x2 x3 x4 x5 x6 x7 x8 x9 f0 f1 f2 f3 f4 f5 f6 f7 f8 f9 => ?_
                  go_wp2
                  go_meet
                  case rel =>
                    have o_ := OG.step (LT.put [] [] 2 (.slice none 0 0)).bel
                    exact ⟨2, B1, d1, gv, none, 0, [], false, B4, d4, gv, 1, 5, 2, 8, (by first | rfl | (simp; done) | (simp [*]; done)), ⟨Pure.bad_of NV.out NS.out (by rw [NV.out]; decide) (by rw [NV.out]; decide) (by simp) (by rw [NV.out]; decide +kernel) (by decide)⟩, ⟨o_.r1, o_.h1, nilInt _, Nat.le_refl _, o_.r4, o_.h4⟩, L.put [] [] 2 (.slice none 0 0)⟩
                · refine query_cells_ (L.get 0 rfl) fun x0 x1 x2 x3 x4 x5 x6 x7 x8 x9 f0 f1 f2 f3 f4 f5 f6 f7 f8 f9 => ?_
                  go_wp2_with (first | ((with_reducible refine gate_dst (N := 148) rfl ?_); (try (refine gate_guard (by rfl) ?_; dsimp only)); refine Kd.R_lit (Kd.int .i64) _ 3 ?hg (N := 148) ?hd (xs := ([1, 1] : List Int)) (inner := [.int .i64 1, .int .i64 1]) (ok := fun k_ => k_ ≠ g6) (okp := fun k_ => k_ ≠ g6) ?hr ?hp (fun _ hk => hk) (Nat.ne_of_gt (L.lt (p := (g6, _)) List.mem_cons_self)) (Below.refl _ _) (Nat.le_refl _) (by simp) ?_; (case hd => rfl); (case hg => rfl); (case hr => first | (go_simp; done) | (go_simp; rfl)); (case hp => exact (Reps.one (show Kd.M (Kd.int .i64) _ _ _ 1 [.int .i64 1] from rfl) (Reps.one (show Kd.M (Kd.int .i64) _ _ _ 1 [.int .i64 1] from rfl) (Reps.none _ _)))); intro v148 w9 ho148 hb hg_ hnew_; clear hg_ hnew_; (first | rw [← N148.out] at ho148 | (simp only [Int.reduceToNat] at ho148; rw [← N148.out] at ho148)); obtain ⟨A148, c148, rfl⟩ := Kd.R_slice ho148; replace L := L.step hb; replace LT := LT.step hb; clear hb; refine query_cells_ (L.get 0 rfl) fun x0 x1 x2 x3 x4 x5 x6 x7 x8 x9 f0 f1 f2 f3 f4 f5 f6 f7 f8 f9 => ?_))
                  go_meet
                  case rel =>
                    have o_ := OG.step (LT.put [] [] 2 (.slice A148 y148.length c148)).bel
                    exact ⟨2, B1, d1, gv, A148, c148, y148, false, B4, d4, gv, 1, 5, 2, 43, (by first | rfl | (simp; done) | (simp [*]; done)), ⟨Pure.bad_of NV.out NS.out (by rw [NV.out]; decide) (by rw [NV.out]; decide) (by rw [N148.out]; decide) (by rw [NV.out, N148.out]; decide +kernel) (by decide)⟩, ⟨o_.r1, o_.h1, (Kd.R_reads' (Kd.R_far (ho148) (p := ⟨g6, 2, none⟩) (fun _ hk => hk) (.slice A148 y148.length c148))).2.2, (Kd.R_reads' (Kd.R_far (ho148) (p := ⟨g6, 2, none⟩) (fun _ hk => hk) (.slice A148 y148.length c148))).2.1, o_.r4, o_.h4⟩, L.put [] [] 2 (.slice A148 y148.length c148)⟩
                · refine query_cells_ (L.get 0 rfl) fun x0 x1 x2 x3 x4 x5 x6 x7 x8 x9 f0 f1 f2 f3 f4 f5 f6 f7 f8 f9 => ?_
                  go_wp2
                  go_meet
                  case rel =>
                    have o_ := OG.step (LT.put [] [] 6 (.int .i64 0)).bel
                    exact ⟨2, B1, d1, gv, B2, d2, gs, false, B4, d4, gv, 1, 0, 2, 8, (by first | rfl | (simp; done) | (simp [*]; done)), ⟨Pure.bad_of NV.out NS.out (by rw [NV.out]; decide) (by rw [NV.out]; decide) (by rw [NS.out]; decide) (by rw [NV.out, NS.out]; decide +kernel) (by decide)⟩, ⟨o_.r1, o_.h1, o_.r2, o_.h2, o_.r4, o_.h4⟩, L.put [] [] 6 (.int .i64 0)⟩
                · refine query_cells_ (L.get 0 rfl) fun x0 x1 x2 x3 x4 x5 x6 x7 x8 x9 f0 f1 f2 f3 f4 f5 f6 f7 f8 f9 => ?_
                  go_wp2
                  go_meet
                  case rel =>
                    have o_ := OG.step ((LT.put [] [] 3 (.bool true)).put [] [] 5 (.int .u8 3)).bel
                    exact ⟨2, B1, d1, gv, B2, d2, gs, true, B4, d4, gv, 3, 5, 2, 8, (by first | rfl | (simp; done) | (simp [*]; done)), ⟨Pure.bad_of NV.out NS.out (by rw [NV.out]; decide) (by rw [NV.out]; decide) (by rw [NS.out]; decide) (by rw [NV.out, NS.out]; decide +kernel) (by decide)⟩, ⟨o_.r1, o_.h1, o_.r2, o_.h2, o_.r4, o_.h4⟩, (L.put [] [] 3 (.bool true)).put [] [] 5 (.int .u8 3)⟩
                · refine query_cells_ (L.get 0 rfl) fun x0 x1 x2 x3 x4 x5 x6 x7 x8 x9 f0 f1 f2 f3 f4 f5 f6 f7 f8 f9 => ?_
                  go_wp2_with (first | ((with_reducible refine gate_dst (N := 113) rfl ?_); (try (refine gate_guard (by rfl) ?_; dsimp only)); refine Kd.R_lit (Kd.int .i64) _ 3 ?hg (N := 113) ?hd (xs := ([0] : List Int)) (inner := [.int .i64 0]) (ok := fun k_ => k_ ≠ g6) (okp := fun k_ => k_ ≠ g6) ?hr ?hp (fun _ hk => hk) (Nat.ne_of_gt (L.lt (p := (g6, _)) List.mem_cons_self)) (Below.refl _ _) (Nat.le_refl _) (by simp) ?_; (case hd => rfl); (case hg => rfl); (case hr => first | (go_simp; done) | (go_simp; rfl)); (case hp => exact (Reps.one (show Kd.M (Kd.int .i64) _ _ _ 0 [.int .i64 0] from rfl) (Reps.none _ _))); intro v113 w9 ho113 hb hg_ hnew_; clear hg_ hnew_; (first | rw [← N113.out] at ho113 | (simp only [Int.reduceToNat] at ho113; rw [← N113.out] at ho113)); obtain ⟨A113, c113, rfl⟩ := Kd.R_slice ho113; replace L := L.step hb; replace LT := LT.step hb; clear hb; refine query_cells_ (L.get 0 rfl) fun x0 x1 x2 x3 x4 x5 x6 x7 x8 x9 f0 f1 f2 f3 f4 f5 f6 f7 f8 f9 => ?_))
                  go_meet
                  case rel =>
                    have o_ := OG.step ((LT.put [] [] 3 (.bool true)).put [] [] 2 (.slice A113 y113.length c113)).bel
                    exact ⟨2, B1, d1, gv, A113, c113, y113, true, B4, d4, gv, 1, 5, 2, 8, (by first | rfl | (simp; done) | (simp [*]; done)), ⟨Pure.bad_of NV.out NS.out (by rw [NV.out]; decide) (by rw [NV.out]; decide) (by rw [N113.out]; decide) (by rw [NV.out, N113.out]; decide +kernel) (by decide)⟩, ⟨o_.r1, o_.h1, (Kd.R_reads' (Kd.R_far (Kd.R_far (ho113) (p := ⟨g6, 3, none⟩) (fun _ hk => hk) (.bool true)) (p := ⟨g6, 2, none⟩) (fun _ hk => hk) (.slice A113 y113.length c113))).2.2, (Kd.R_reads' (Kd.R_far (Kd.R_far (ho113) (p := ⟨g6, 3, none⟩) (fun _ hk => hk) (.bool true)) (p := ⟨g6, 2, none⟩) (fun _ hk => hk) (.slice A113 y113.length c113))).2.1, o_.r4, o_.h4⟩, (L.put [] [] 3 (.bool true)).put [] [] 2 (.slice A113 y113.length c113)⟩
              case rest =>
                clear L LT OG
                obtain ⟨a, A1, c1, l1, A2, c2, l2, j, A4, c4, l4, p0, p1, t, want, rfl, HW, OQ, L⟩ := hcut
                have LC := Lie.nil (Below.refl wc.heap.size wc)
                have hw : (want != want) = false := by simp
                try go_wp2
                replace L := L.drew
                replace LC := LC.drew
                refine start_ (n := 8) (S := fun w' => w'.heap[g6]? = some (.cells #[.int .u8 a, .slice A1 l1.length c1, .slice A2 l2.length c2, .bool j, .slice A4 l4.length c4, .int .u8 p0, .int .i64 p1, .int .i64 0, .bool false, .int .u8 t] 27 (0, 0))) (ds := []) #[false, false, false, false, false, false, false, false] (by kernel_rfl) rfl rfl (L.get 0 rfl) (fun hHeld => ?_); refine with_tabW tab40 bits40 (fun HT_ HW_ => ?_)
                generalize wc.drew = w93 at L LC hHeld ⊢
                refine take_ (i := 0) (N := some 160) (v := ?_) (a' := ?_) #[true, false, false, false, false, false, false, false] rfl rfl (take_ofW HT_.out HW_.out (by kernel_rfl)) (fun _ _ _ h => h) (Or.inl ⟨by rfl, ?_⟩) (L.get 0 rfl) ?_ ?_
                rotate_left
                · intro w' hS
                  refine query_cells_ (hS) fun x0 x1 x2 x3 x4 x5 x6 x7 x8 x9 f0 f1 f2 f3 f4 f5 f6 f7 f8 f9 => ?_
                  go_simp
                  with_reducible rfl
                rotate_left
                · simp only [Act.put, List.setIfInBounds_toArray, List.set_cons_zero, List.set_cons_succ, i64_w, i32_w]
                  rfl
                refine one_ (i := 1) (N := some 161) #[true, true, false, false, false, false, false, false] rfl rfl (one_of HT_.out (by kernel_rfl)) (by decide) (fun K hK => ?_)
                refine goes_ Try.func25 (by kernel_rfl) rfl #[] (by rfl) rfl rfl (by (try simp only [List.map_toArray, List.map_cons, List.map_nil]); first | done | rfl | (simp only [List.length_drop, List.length_take]; rfl)) ?_
                refine (call25 NV.out NS.out).mono ?_
                rintro e w91 ⟨B1, d1, B2, d2, B4, d4, rfl, OG, hb⟩
                refine ⟨_, rfl, ?_⟩
                replace L := L.step hb
                replace LC := LC.step hb
                clear hb
                refine hK.out _ _ (L.get 0 rfl) (fun _ => ?_)
                clear hK K hHeld
                refine norm_ (a' := ?_) ?_ ?_
                rotate_left
                · show Act.put _ (some 161) _ = _
                  simp only [Act.put, List.setIfInBounds_toArray, List.set_cons_zero, List.set_cons_succ, i64_w, i32_w]
                  rfl
                have hHeld := L.get 0 rfl
                refine one_ (i := 2) (N := some 162) #[true, true, true, false, false, false, false, false] rfl rfl (one_of HT_.out (by kernel_rfl)) (by decide) (fun K hK => ?_)
                refine goes_ Try.func19 (by kernel_rfl) rfl #[.agg #[.int .u8 a, .slice A1 l1.length c1, .slice A2 l2.length c2, .bool j, .slice A4 l4.length c4, .int .u8 p0, .int .i64 p1, .int .i64 0, .bool false, .int .u8 t], .agg #[.int .u8 2, .slice B1 gv.length d1, .slice B2 gs.length d2, .bool false, .slice B4 gv.length d4, .int .u8 1, .int .i64 5, .int .i64 0, .bool false, .int .u8 2]] (by rfl) rfl rfl (by (try simp only [List.map_toArray, List.map_cons, List.map_nil]); first | done | rfl | (simp only [List.length_drop, List.length_take]; rfl)) ?_
                refine (call19 (OQ.step LC.bel) OG HW.out.2.1).mono ?_
                rintro e w91 ⟨rfl, hb⟩
                refine ⟨_, rfl, ?_⟩
                replace L := L.step hb
                replace LC := LC.step hb
                clear hb
                refine hK.out _ _ (L.get 0 rfl) (fun _ => ?_)
                clear hK K hHeld
                refine norm_ (a' := ?_) ?_ ?_
                rotate_left
                · show Act.put _ (some 162) _ = _
                  simp only [Act.put, List.setIfInBounds_toArray, List.set_cons_zero, List.set_cons_succ, i64_w, i32_w]
                  rfl
                have hHeld := L.get 0 rfl
                refine pure_ (i := 3) (N := some 159) (v := ?_) (a' := ?_) #[true, true, true, true, false, false, false, false] rfl rfl (any_of HT_.out (by kernel_rfl)) (fun _ _ _ h => h) (Or.inl ⟨by rfl, ?_⟩) ?_ ?_
                rotate_left
                · intro w'
                  go_simp
                  with_reducible rfl
                rotate_left
                · simp only [Act.put, List.setIfInBounds_toArray, List.set_cons_zero, List.set_cons_succ, i64_w, i32_w]
                  rfl
                refine pure_ (i := 4) (N := some 163) (v := ?_) (a' := ?_) #[true, true, true, true, true, false, false, false] rfl rfl (any_of HT_.out (by kernel_rfl)) (fun _ _ _ h => h) (Or.inl ⟨by rfl, ?_⟩) ?_ ?_
                rotate_left
                · intro w'
                  go_simp
                  with_reducible rfl
                rotate_left
                · simp only [Act.put, List.setIfInBounds_toArray, List.set_cons_zero, List.set_cons_succ, i64_w, i32_w]
                  rfl
                refine pure_ (i := 5) (N := some 164) (v := ?_) (a' := ?_) #[true, true, true, true, true, true, false, false] rfl rfl (any_of HT_.out (by kernel_rfl)) (fun _ _ _ h => h) (Or.inl ⟨by rfl, ?_⟩) ?_ ?_
                rotate_left
                · intro w'
                  go_simp
                  with_reducible rfl
                rotate_left
                · simp only [Act.put, List.setIfInBounds_toArray, List.set_cons_zero, List.set_cons_succ, i64_w, i32_w]
                  rfl
                refine pure_ (i := 6) (N := some 8) (v := ?_) (a' := ?_) #[true, true, true, true, true, true, true, false] rfl rfl (any_of HT_.out (by kernel_rfl)) (fun _ _ _ h => h) (Or.inl ⟨by rfl, ?_⟩) ?_ ?_
                rotate_left
                · intro w'
                  go_simp
                  with_reducible rfl
                rotate_left
                · simp only [Act.put, List.setIfInBounds_toArray, List.set_cons_zero, List.set_cons_succ, i64_w, i32_w]
                  rfl
                refine pure_ (i := 7) (N := some 9) (v := ?_) (a' := ?_) #[true, true, true, true, true, true, true, true] rfl rfl (any_of HT_.out (by kernel_rfl)) (fun _ _ _ h => h) (Or.inl ⟨by rfl, ?_⟩) ?_ ?_
                rotate_left
                · intro w'
                  go_simp
                  with_reducible rfl
                rotate_left
                · simp only [Act.put, List.setIfInBounds_toArray, List.set_cons_zero, List.set_cons_succ, i64_w, i32_w]
                  rfl
                refine done_ (done_of HT_.out (by kernel_rfl)) ?_
                clear hHeld HT_ HW_ OG
                try go_wp2
                replace L := L.drew
                replace LC := LC.drew
                refine start_ (n := 8) (S := fun w' => w'.heap[g6]? = some (.cells #[.int .u8 a, .slice A1 l1.length c1, .slice A2 l2.length c2, .bool j, .slice A4 l4.length c4, .int .u8 p0, .int .i64 p1, .int .i64 0, .bool false, .int .u8 t] 27 (0, 0))) (ds := []) #[false, false, false, false, false, false, false, false] (by kernel_rfl) rfl rfl (L.get 0 rfl) (fun hHeld => ?_); refine with_tabW tab41 bits41 (fun HT_ HW_ => ?_)
                generalize w91.drew = w94 at L LC hHeld ⊢
                refine take_ (i := 1) (N := some 167) (v := ?_) (a' := ?_) #[false, true, false, false, false, false, false, false] rfl rfl (take_ofW HT_.out HW_.out (by kernel_rfl)) (fun _ _ _ h => h) (Or.inl ⟨by rfl, ?_⟩) (L.get 0 rfl) ?_ ?_
                rotate_left
                · intro w' hS
                  refine query_cells_ (hS) fun x0 x1 x2 x3 x4 x5 x6 x7 x8 x9 f0 f1 f2 f3 f4 f5 f6 f7 f8 f9 => ?_
                  go_simp
                  with_reducible rfl
                rotate_left
                · simp only [Act.put, List.setIfInBounds_toArray, List.set_cons_zero, List.set_cons_succ, i64_w, i32_w]
                  rfl
                refine one_ (i := 0) (N := some 166) #[true, true, false, false, false, false, false, false] rfl rfl (one_of HT_.out (by kernel_rfl)) (by decide) (fun K hK => ?_)
                refine goes_ Try.func25 (by kernel_rfl) rfl #[] (by rfl) rfl rfl (by (try simp only [List.map_toArray, List.map_cons, List.map_nil]); first | done | rfl | (simp only [List.length_drop, List.length_take]; rfl)) ?_
                refine (call25 NV.out NS.out).mono ?_
                rintro e w91 ⟨B1, d1, B2, d2, B4, d4, rfl, OG, hb⟩
                refine ⟨_, rfl, ?_⟩
                replace L := L.step hb
                replace LC := LC.step hb
                clear hb
                refine hK.out _ _ (L.get 0 rfl) (fun _ => ?_)
                clear hK K hHeld
                refine norm_ (a' := ?_) ?_ ?_
                rotate_left
                · show Act.put _ (some 166) _ = _
                  simp only [Act.put, List.setIfInBounds_toArray, List.set_cons_zero, List.set_cons_succ, i64_w, i32_w]
                  rfl
                have hHeld := L.get 0 rfl
                refine one_ (i := 2) (N := some 168) #[true, true, true, false, false, false, false, false] rfl rfl (one_of HT_.out (by kernel_rfl)) (by decide) (fun K hK => ?_)
                refine goes_ Try.func19 (by kernel_rfl) rfl #[.agg #[.int .u8 2, .slice B1 gv.length d1, .slice B2 gs.length d2, .bool false, .slice B4 gv.length d4, .int .u8 1, .int .i64 5, .int .i64 0, .bool false, .int .u8 2], .agg #[.int .u8 a, .slice A1 l1.length c1, .slice A2 l2.length c2, .bool j, .slice A4 l4.length c4, .int .u8 p0, .int .i64 p1, .int .i64 0, .bool false, .int .u8 t]] (by rfl) rfl rfl (by (try simp only [List.map_toArray, List.map_cons, List.map_nil]); first | done | rfl | (simp only [List.length_drop, List.length_take]; rfl)) ?_
                refine (call19 OG (OQ.step LC.bel) HW.out.2.2).mono ?_
                rintro e w91 ⟨rfl, hb⟩
                refine ⟨_, rfl, ?_⟩
                replace L := L.step hb
                replace LC := LC.step hb
                clear hb
                refine hK.out _ _ (L.get 0 rfl) (fun _ => ?_)
                clear hK K hHeld
                refine norm_ (a' := ?_) ?_ ?_
                rotate_left
                · show Act.put _ (some 168) _ = _
                  simp only [Act.put, List.setIfInBounds_toArray, List.set_cons_zero, List.set_cons_succ, i64_w, i32_w]
                  rfl
                have hHeld := L.get 0 rfl
                refine pure_ (i := 3) (N := some 165) (v := ?_) (a' := ?_) #[true, true, true, true, false, false, false, false] rfl rfl (any_of HT_.out (by kernel_rfl)) (fun _ _ _ h => h) (Or.inl ⟨by rfl, ?_⟩) ?_ ?_
                rotate_left
                · intro w'
                  go_simp
                  with_reducible rfl
                rotate_left
                · simp only [Act.put, List.setIfInBounds_toArray, List.set_cons_zero, List.set_cons_succ, i64_w, i32_w]
                  rfl
                refine pure_ (i := 4) (N := some 169) (v := ?_) (a' := ?_) #[true, true, true, true, true, false, false, false] rfl rfl (any_of HT_.out (by kernel_rfl)) (fun _ _ _ h => h) (Or.inl ⟨by rfl, ?_⟩) ?_ ?_
                rotate_left
                · intro w'
                  go_simp
                  with_reducible rfl
                rotate_left
                · simp only [Act.put, List.setIfInBounds_toArray, List.set_cons_zero, List.set_cons_succ, i64_w, i32_w]
                  rfl
                refine pure_ (i := 5) (N := some 170) (v := ?_) (a' := ?_) #[true, true, true, true, true, true, false, false] rfl rfl (any_of HT_.out (by kernel_rfl)) (fun _ _ _ h => h) (Or.inl ⟨by rfl, ?_⟩) ?_ ?_
                rotate_left
                · intro w'
                  go_simp
                  with_reducible rfl
                rotate_left
                · simp only [Act.put, List.setIfInBounds_toArray, List.set_cons_zero, List.set_cons_succ, i64_w, i32_w]
                  rfl
                refine pure_ (i := 6) (N := some 10) (v := ?_) (a' := ?_) #[true, true, true, true, true, true, true, false] rfl rfl (any_of HT_.out (by kernel_rfl)) (fun _ _ _ h => h) (Or.inl ⟨by rfl, ?_⟩) ?_ ?_
                rotate_left
                · intro w'
                  go_simp
                  with_reducible rfl
                rotate_left
                · simp only [Act.put, List.setIfInBounds_toArray, List.set_cons_zero, List.set_cons_succ, i64_w, i32_w]
                  rfl
                refine pure_ (i := 7) (N := some 11) (v := ?_) (a' := ?_) #[true, true, true, true, true, true, true, true] rfl rfl (any_of HT_.out (by kernel_rfl)) (fun _ _ _ h => h) (Or.inl ⟨by rfl, ?_⟩) ?_ ?_
                rotate_left
                · intro w'
                  go_simp
                  with_reducible rfl
                rotate_left
                · simp only [Act.put, List.setIfInBounds_toArray, List.set_cons_zero, List.set_cons_succ, i64_w, i32_w]
                  rfl
                refine done_ (done_of HT_.out (by kernel_rfl)) ?_
                clear hHeld HT_ HW_ OG
                refine query_cells_ (L.get 0 rfl) fun x0 x1 x2 x3 x4 x5 x6 x7 x8 x9 f0 f1 f2 f3 f4 f5 f6 f7 f8 f9 => ?_
                try go_wp2_with (first | ((with_reducible refine gate_callee (f := 26) rfl ?_); refine goesL_ (some 172) rfl rfl Try.func26 (by kernel_rfl) rfl #[.agg #[.int .u8 a, .slice A1 l1.length c1, .slice A2 l2.length c2, .bool j, .slice A4 l4.length c4, .int .u8 p0, .int .i64 p1, .int .i64 0, .bool false, .int .u8 t]] rfl (by (try simp only [List.map_toArray, List.map_cons, List.map_nil]); first | done | rfl | (simp only [List.length_drop, List.length_take]; rfl)) ?_; refine (call26 (OQ.step LC.bel) (Below.refl _ _) HW.out.1).mono ?_; rintro e w95 ⟨rfl, hb⟩; refine ⟨_, rfl, ?_⟩; replace L := L.step hb; clear hb))
                go_roundg k3
                case measure => have := HI.out; omega
                case rel => exact ⟨wrap64 (n + 1), (by first | rfl | (simp; done) | (simp [*]; done)), ⟨by have := HI.out; have := HC.out; rw [Pure.w64 (by omega)]; exact ⟨by omega, by omega, by omega, by omega⟩⟩, Lie.nil L.bel⟩
            · have b0 : decide (n < 13) = false := decide_eq_false c
              clear c HI
              go_upto_region 45 with (first | ((with_reducible refine gate_callee (f := 25) rfl ?_); refine goesL_ (some 185) rfl rfl Try.func25 (by kernel_rfl) rfl #[] rfl (by (try simp only [List.map_toArray, List.map_cons, List.map_nil]); first | done | rfl | (simp only [List.length_drop, List.length_take]; rfl)) ?_; refine (call25 NV.out NS.out).mono ?_; rintro e w25 ⟨B1, d1, B2, d2, B4, d4, rfl, OG, hb⟩; refine ⟨_, rfl, ?_⟩; replace L := L.step hb; clear hb; have LT := Lie.nil (Below.refl w25.heap.size w25)) | ((with_reducible refine gate_dst (N := 12) rfl ?_); (try (refine gate_guard (by rfl) ?_; dsimp only)); refine box_event ?hg (N := 12) ?hd (cs := #[.int .u8 0, .slice none 0 0, .slice none 0 0, .bool false, .slice none 0 0, .int .u8 0, .int .i64 0, .int .i64 0, .bool false, .int .u8 0]) (t := 27) ?hr ?_; (case hd => rfl); (case hg => rfl); (case hr => first | (go_simp; done) | (go_simp; rfl)); intro g12 hg W5 hbox hb; replace LT := LT.more [] [] hg hbox hb; replace L := L.more [] [] hg hbox hb; clear hg hbox hb; refine query_cells_ (L.get 0 rfl) fun x0 x1 x2 x3 x4 x5 x6 x7 x8 x9 f0 f1 f2 f3 f4 f5 f6 f7 f8 f9 => ?_))
              (try simp only [Act.put, List.setIfInBounds_toArray, List.set_cons_zero, List.set_cons_succ])
              refine gen_wp (fun wz => Lie w [(g12, .cells #[.int .u8 2, .slice B1 gv.length d1, .slice B2 gs.length d2, .bool false, .slice B4 gv.length d4, .int .u8 1, .int .i64 5, .int .i64 0, .bool false, .int .u8 2] 27 (0, 0))] wz ∧ Lie w25 [(g12, .cells #[.int .u8 2, .slice B1 gv.length d1, .slice B2 gs.length d2, .bool false, .slice B4 gv.length d4, .int .u8 1, .int .i64 5, .int .i64 0, .bool false, .int .u8 2] 27 (0, 0))] wz) ⟨Lie.fill10 [] [] L (.int .u8 2) (.slice B1 gv.length d1) (.slice B2 gs.length d2) (.bool false) (.slice B4 gv.length d4) (.int .u8 1) (.int .i64 5) (.int .i64 0) (.bool false) (.int .u8 2), Lie.fill10 [] [] LT (.int .u8 2) (.slice B1 gv.length d1) (.slice B2 gs.length d2) (.bool false) (.slice B4 gv.length d4) (.int .u8 1) (.int .i64 5) (.int .i64 0) (.bool false) (.int .u8 2)⟩ ?_
              clear L LT x0 x1 x2 x3 x4 x5 x6 x7 x8 x9 f0 f1 f2 f3 f4 f5 f6 f7 f8 f9
              rintro wz ⟨L, LT⟩
              refine query_cells_ (L.get 0 rfl) fun x0 x1 x2 x3 x4 x5 x6 x7 x8 x9 f0 f1 f2 f3 f4 f5 f6 f7 f8 f9 => ?_
              go_upto_region 46 with (fail)
              (try simp only [Act.put, List.setIfInBounds_toArray, List.set_cons_zero, List.set_cons_succ])
              have o_ := OG.step (((LT.put [] [] 0 (.int .u8 1)).put [] [] 1 (.slice none 0 0)).put [] [] 4 (.slice none 0 0)).bel
              refine gen_wp (fun wz => Lie w [(g12, .cells #[.int .u8 1, .slice none 0 0, .slice B2 gs.length d2, .bool false, .slice none 0 0, .int .u8 1, .int .i64 5, .int .i64 0, .bool false, .int .u8 2] 27 (0, 0))] wz ∧ QOk wz none 0 [] B2 d2 gs none 0 []) ⟨((L.put [] [] 0 (.int .u8 1)).put [] [] 1 (.slice none 0 0)).put [] [] 4 (.slice none 0 0), ⟨nil36 _, Nat.le_refl _, o_.r2, o_.h2, nil36 _, Nat.le_refl _⟩⟩ ?_
              clear L LT OG o_ x0 x1 x2 x3 x4 x5 x6 x7 x8 x9 f0 f1 f2 f3 f4 f5 f6 f7 f8 f9
              rintro wy ⟨L, OC⟩
              have LY := Lie.nil (Below.refl wy.heap.size wy)
              go_upto_region 47 with (first | ((with_reducible refine gate_callee (f := 25) rfl ?_); refine goesL_ (some 189) rfl rfl Try.func25 (by kernel_rfl) rfl #[] rfl (by (try simp only [List.map_toArray, List.map_cons, List.map_nil]); first | done | rfl | (simp only [List.length_drop, List.length_take]; rfl)) ?_; refine (call25 NV.out NS.out).mono ?_; rintro e w25 ⟨D1, f1_, D2, f2_, D4, f4_, rfl, OG, hb⟩; refine ⟨_, rfl, ?_⟩; replace L := L.step hb; replace LY := LY.step hb; clear hb; have LT := Lie.nil (Below.refl w25.heap.size w25)) | ((with_reducible refine gate_dst (N := 13) rfl ?_); (try (refine gate_guard (by rfl) ?_; dsimp only)); refine box_event ?hg (N := 13) ?hd (cs := #[.int .u8 0, .slice none 0 0, .slice none 0 0, .bool false, .slice none 0 0, .int .u8 0, .int .i64 0, .int .i64 0, .bool false, .int .u8 0]) (t := 27) ?hr ?_; (case hd => rfl); (case hg => rfl); (case hr => first | (go_simp; done) | (go_simp; rfl)); intro g13 hg W5 hbox hb; replace LT := LT.more [] [] hg hbox hb; replace LY := LY.more [] [] hg hbox hb; replace L := L.more [(g12, _)] [] hg hbox hb; clear hg hbox hb; refine query_cells_ (L.get 1 rfl) fun x0 x1 x2 x3 x4 x5 x6 x7 x8 x9 f0 f1 f2 f3 f4 f5 f6 f7 f8 f9 => ?_))
              (try simp only [Act.put, List.setIfInBounds_toArray, List.set_cons_zero, List.set_cons_succ])
              refine gen_wp (fun wz => Lie w [(g12, .cells #[.int .u8 1, .slice none 0 0, .slice B2 gs.length d2, .bool false, .slice none 0 0, .int .u8 1, .int .i64 5, .int .i64 0, .bool false, .int .u8 2] 27 (0, 0)), (g13, .cells #[.int .u8 2, .slice D1 gv.length f1_, .slice D2 gs.length f2_, .bool false, .slice D4 gv.length f4_, .int .u8 1, .int .i64 5, .int .i64 0, .bool false, .int .u8 2] 27 (0, 0))] wz ∧ Lie wy [(g13, .cells #[.int .u8 2, .slice D1 gv.length f1_, .slice D2 gs.length f2_, .bool false, .slice D4 gv.length f4_, .int .u8 1, .int .i64 5, .int .i64 0, .bool false, .int .u8 2] 27 (0, 0))] wz ∧ Lie w25 [(g13, .cells #[.int .u8 2, .slice D1 gv.length f1_, .slice D2 gs.length f2_, .bool false, .slice D4 gv.length f4_, .int .u8 1, .int .i64 5, .int .i64 0, .bool false, .int .u8 2] 27 (0, 0))] wz) ⟨Lie.fill10 [(g12, _)] [] L (.int .u8 2) (.slice D1 gv.length f1_) (.slice D2 gs.length f2_) (.bool false) (.slice D4 gv.length f4_) (.int .u8 1) (.int .i64 5) (.int .i64 0) (.bool false) (.int .u8 2), Lie.fill10 [] [] LY (.int .u8 2) (.slice D1 gv.length f1_) (.slice D2 gs.length f2_) (.bool false) (.slice D4 gv.length f4_) (.int .u8 1) (.int .i64 5) (.int .i64 0) (.bool false) (.int .u8 2), Lie.fill10 [] [] LT (.int .u8 2) (.slice D1 gv.length f1_) (.slice D2 gs.length f2_) (.bool false) (.slice D4 gv.length f4_) (.int .u8 1) (.int .i64 5) (.int .i64 0) (.bool false) (.int .u8 2)⟩ ?_
              clear L LT LY x0 x1 x2 x3 x4 x5 x6 x7 x8 x9 f0 f1 f2 f3 f4 f5 f6 f7 f8 f9
              rintro wz ⟨L, LY, LT⟩
              refine query_cells_ (L.get 1 rfl) fun x0 x1 x2 x3 x4 x5 x6 x7 x8 x9 f0 f1 f2 f3 f4 f5 f6 f7 f8 f9 => ?_
              go_upto_region 48 with (fail)
              (try simp only [Act.put, List.setIfInBounds_toArray, List.set_cons_zero, List.set_cons_succ])
              refine gen_wp (fun wz => Lie w [(g12, .cells #[.int .u8 1, .slice none 0 0, .slice B2 gs.length d2, .bool false, .slice none 0 0, .int .u8 1, .int .i64 5, .int .i64 0, .bool false, .int .u8 2] 27 (0, 0)), (g13, .cells #[.int .u8 2, .slice D1 gv.length f1_, .slice D2 gs.length f2_, .bool true, .slice D4 gv.length f4_, .int .u8 1, .int .i64 5, .int .i64 0, .bool false, .int .u8 2] 27 (0, 0))] wz ∧ QOk wz none 0 [] B2 d2 gs none 0 [] ∧ QOk wz D1 f1_ gv D2 f2_ gs D4 f4_ gv) ⟨L.put [(g12, _)] [] 3 (.bool true), OC.step (LY.put [] [] 3 (.bool true)).bel, OG.step (LT.put [] [] 3 (.bool true)).bel⟩ ?_
              clear L LT LY OC OG x0 x1 x2 x3 x4 x5 x6 x7 x8 x9 f0 f1 f2 f3 f4 f5 f6 f7 f8 f9
              rintro wx ⟨L, OC, OJ⟩
              have LT := Lie.nil (Below.refl wx.heap.size wx)
              have EC := Aside0.mk (Pure.count_check NS.out)
              have EJ := Aside0.mk (Pure.good_check NV.out NS.out true)
              have EG := Aside0.mk (Pure.good_check NV.out NS.out false)
              refine query_cells_ (L.get 0 rfl) fun x0 x1 x2 x3 x4 x5 x6 x7 x8 x9 f0 f1 f2 f3 f4 f5 f6 f7 f8 f9 => ?_
              refine query_cells_ (L.get 1 rfl) fun y0 y1 y2 y3 y4 y5 y6 y7 y8 y9 q0 q1 q2 q3 q4 q5 q6 q7 q8 q9 => ?_
              go_wp2_with (first | ((with_reducible refine gate_callee (f := 27) rfl ?_); refine goesL_ (some 192) rfl rfl Try.func27 (by kernel_rfl) rfl #[.int .i64 3] rfl (by (try simp only [List.map_toArray, List.map_cons, List.map_nil]); first | done | rfl | (simp only [List.length_drop, List.length_take]; rfl)) ?_; refine (clauses_Name.calls 3 sd 0 _ E27.out).mono ?_; rintro e w96 ⟨rfl, ⟨nd, rfl⟩⟩; refine ⟨_, rfl, ?_⟩; skip) | ((with_reducible refine gate_callee (f := 27) rfl ?_); refine goesL_ (some 196) rfl rfl Try.func27 (by kernel_rfl) rfl #[.int .i64 4] rfl (by (try simp only [List.map_toArray, List.map_cons, List.map_nil]); first | done | rfl | (simp only [List.length_drop, List.length_take]; rfl)) ?_; refine (clauses_Name.calls 4 s4 2 _ E274.out).mono ?_; rintro e w96 ⟨rfl, ⟨nd, rfl⟩⟩; refine ⟨_, rfl, ?_⟩; skip) | ((with_reducible refine gate_callee (f := 27) rfl ?_); refine goesL_ (some 200) rfl rfl Try.func27 (by kernel_rfl) rfl #[.int .i64 (-1)] rfl (by (try simp only [List.map_toArray, List.map_cons, List.map_nil]); first | done | rfl | (simp only [List.length_drop, List.length_take]; rfl)) ?_; refine (clauses_Name.calls (-1) s5 2 _ E275.out).mono ?_; rintro e w96 ⟨rfl, ⟨nd, rfl⟩⟩; refine ⟨_, rfl, ?_⟩; skip) | ((with_reducible refine gate_callee (f := 28) rfl ?_); refine goesL_ (some 204) rfl rfl Try.func28 (by kernel_rfl) rfl #[.string (⟨#[99]⟩ : ByteArray)] rfl (by (try simp only [List.map_toArray, List.map_cons, List.map_nil]); first | done | rfl | (simp only [List.length_drop, List.length_take]; rfl)) ?_; refine (clauses_Source.calls 9 (⟨#[99]⟩ : ByteArray) 2 0 _ E28.out).mono ?_; rintro e w97 ⟨rfl, ⟨nd, rfl⟩⟩; refine ⟨_, rfl, ?_⟩; skip) | ((with_reducible refine gate_callee (f := 28) rfl ?_); refine goesL_ (some 208) rfl rfl Try.func28 (by kernel_rfl) rfl #[.string (⟨#[]⟩ : ByteArray)] rfl (by (try simp only [List.map_toArray, List.map_cons, List.map_nil]); first | done | rfl | (simp only [List.length_drop, List.length_take]; rfl)) ?_; refine (clauses_Source.calls 9 (⟨#[]⟩ : ByteArray) n6 2 _ E286.out).mono ?_; rintro e w97 ⟨rfl, ⟨nd, rfl⟩⟩; refine ⟨_, rfl, ?_⟩; skip) | ((with_reducible refine gate_callee (f := 28) rfl ?_); refine goesL_ (some 212) rfl rfl Try.func28 (by kernel_rfl) rfl #[.string (⟨#[97, 98]⟩ : ByteArray)] rfl (by (try simp only [List.map_toArray, List.map_cons, List.map_nil]); first | done | rfl | (simp only [List.length_drop, List.length_take]; rfl)) ?_; refine (clauses_Source.calls 9 (⟨#[97, 98]⟩ : ByteArray) n7 2 _ E287.out).mono ?_; rintro e w97 ⟨rfl, ⟨nd, rfl⟩⟩; refine ⟨_, rfl, ?_⟩; skip) | (go_at_call 26; (with_reducible refine (count26 NS.out OC (LT.drewN _).bel).mono ?_); rintro e w98 ⟨rfl, hb⟩; replace L := (L.drewN _).step hb; replace LT := (LT.drewN _).step hb; clear hb; refine query_cells_ (L.get 1 rfl) fun y0 y1 y2 y3 y4 y5 y6 y7 y8 y9 q0 q1 q2 q3 q4 q5 q6 q7 q8 q9 => ?_) | (go_at_call 26; (with_reducible refine (call26 (OJ.step LT.bel) (Below.refl _ _) EJ.out).mono ?_); rintro e w99 ⟨rfl, hb⟩; replace L := L.step hb; replace LT := LT.step hb; clear hb) | (go_at_call 25; (with_reducible refine (call25 NV.out NS.out).mono ?_); rintro e w100 ⟨B1, d1, B2, d2, B4, d4, rfl, OG, hb⟩; replace L := L.step hb; replace LT := LT.step hb; clear hb) | (go_at_call 26; (with_reducible refine (call26 OG (Below.refl _ _) EG.out).mono ?_); rintro e w101 ⟨rfl, hb⟩; replace L := L.step hb; replace LT := LT.step hb; clear hb) | (go_at_call 18; (with_reducible refine (tailwaterlaw08_alive.calls 500 true _ Pure.alive500).mono ?_); rintro e w102 ⟨rfl, hb⟩; replace L := L.step hb; replace LT := LT.step hb; clear hb))
              go_ret
              exact ⟨by first | rfl | (simp [*]; done), L.bel⟩
end Names
end Go.Proofs.Ytpkamfjkmbakhaa.G
