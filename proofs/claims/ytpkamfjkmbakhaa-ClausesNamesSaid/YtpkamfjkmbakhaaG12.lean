-- Written by a program of this place (wip/prt.py), out of Lean's own print of the program: Lean checks it.
import Derived.Test.YtpkamfjkmbakhaaG0
import Derived.Test.YtpkamfjkmbakhaaGU
namespace Go.Proofs.Ytpkamfjkmbakhaa.G
open Go.RowKit Go.Proofs.YtpkamfjkmbakhaaW.PrintWords Go.Proofs.YtpkamfjkmbakhaaW.PrintLast Go.Proofs.YtpkamfjkmbakhaaW.PrintMore
attribute [local go_sem] max2_int min2_int max_two min_two max_three min_three max_four min_four   -- for this text's walks alone
set_option linter.unusedVariables false
set_option linter.unusedSimpArgs false

/-! ### clauses_Sources: function 24 -/
/-- is a source outside -/
def outB (x : Int) : Bool := decide (x < 0) || decide (x ≥ 4)
theorem out_calls (x : Int) (b : Bool) (h : outB x = b) (w : World) : Calls Try.prog 56 #[.int .i64 x] w fun e w' => e = .returned (.bool b) ∧ w = w' := by
 unfold outB at h
 by_cases h1 : x < 0
 ·
  have c1 : decide (x < 0) = true := decide_eq_true h1
  obtain rfl : b = true := by rw [← h, c1]; rfl
  clear h
  go_enter Try.func56, Try.ntmps56
  go_wp2
  go_ret
  exact ⟨rfl, rfl⟩
 ·
  have c1 : decide (x < 0) = false := decide_eq_false h1
  have c2 : decide (4 ≤ x) = b := by rw [← h, c1]; rfl
  clear h
  go_enter Try.func56, Try.ntmps56
  go_wp2
  go_ret
  exact ⟨rfl, rfl⟩
/-- what IndexFunc tells: the place of the first source outside, or -1 -/
def IdxPost (l : List Int) (w : World) (e : Ending) (w' : World) : Prop := ∃ r : Int, e = .returned (.int .i64 r) ∧ (l.any outB = true → 0 ≤ r) ∧ (l.any outB = false → r < 0) ∧ Drawn0 w w'
theorem any_take_succ (l : List Int) (k : Nat) (h : k < l.length) : (l.take (k + 1)).any outB = ((l.take k).any outB || outB (rd l k)) := by
 rw [List.take_succ_eq_append_getElem h, List.any_append]
 simp only [List.any_cons, List.any_nil, Bool.or_false, rd, Int.toNat_natCast]
 rw [List.getD_eq_getElem?_getD, List.getElem?_eq_getElem h]
 rfl
set_option maxHeartbeats 2000000 in
set_option maxRecDepth 100000 in
theorem index_calls (A : Option Addr) (c : Nat) (l : List Int) (w : World) (hr : Kd.C (Kd.int .i64) w A l.length l) : Calls Try.prog 67 #[.slice A l.length c, .func (.func 56) #[] #[]] w (IdxPost l w) := by
 have hm : l.length ≤ 9223372036854775807 := hr.2.1
 have HR := zM hr
 clear hr
 go_enter Try.func67, Try.ntmps67
 go_wp2
 go_loopw [8] (fun v wr => ∃ k : Nat, k ≤ l.length ∧ v = .int .i64 k ∧ Hid ((l.take k).any outB = false) ∧ Drawn0 w wr) (fun v _ => l.length - (intOf v).toNat)
 case atStart => exact ⟨0, Nat.zero_le _, rfl, Lib.hid rfl, Drawn0.refl _⟩
 case round =>
  obtain ⟨k, hk, rfl, hn, ⟨nd, rfl⟩⟩ := hrel
  by_cases hlt : k < l.length
  ·
   obtain ⟨ad, e, hx⟩ := Kd.at_int HR.out (k : Int) (by omega) (by omega)
   cases e
   simp only [Int.toNat_natCast] at hx
   cases hB : outB (rd l k) with
   | true =>
    have HO := Lib.hid hB
    clear hB
    go_wp2_with (go_at_call 56; refine (out_calls _ true HO.out _).mono ?_; rintro e w' ⟨rfl, rfl⟩)
    go_ret
    refine ⟨k, rfl, fun _ => by omega, fun h => ?_, by repeat (first | exact Drawn0.refl _ | apply Drawn0.step)⟩
    have h2 := any_take_succ l k hlt
    rw [HO.out, Bool.or_true] at h2
    have h3 : l.any outB = true := by
     rw [← List.take_append_drop (k + 1) l, List.any_append, h2]
     rfl
    rw [h] at h3
    exact absurd h3 (by decide)
   | false =>
    have HO := Lib.hid hB
    clear hB
    go_wp2_with (go_at_call 56; refine (out_calls _ false HO.out _).mono ?_; rintro e w' ⟨rfl, rfl⟩)
    go_roundw
    case rel => exact ⟨k + 1, by omega, by go_num, Lib.hid (by rw [any_take_succ l k hlt, hn.out, HO.out]; rfl), by repeat (first | exact Drawn0.refl _ | apply Drawn0.step)⟩
    case measure => simp [intOf]; omega
  ·
   obtain rfl : k = l.length := by omega
   go_wp2
   go_ret
   exact ⟨-1, rfl, fun h => by rw [List.take_length] at hn; rw [hn.out] at h; exact absurd h (by decide), fun _ => by decide, by repeat (first | exact Drawn0.refl _ | apply Drawn0.step)⟩
set_option maxHeartbeats 1000000 in
theorem contains_calls (A : Option Addr) (c : Nat) (l : List Int) (b : Bool) (hb : l.any outB = b) (w : World) (hr : Kd.C (Kd.int .i64) w A l.length l) : Calls Try.prog 57 #[.slice A l.length c, .func (.func 56) #[] #[]] w fun e w' => e = .returned (.bool b) ∧ Drawn0 w w' := by
 go_enter Try.func57, Try.ntmps57
 have HR := zM hr
 clear hr
 have HB := Lib.hid hb
 clear hb
 go_wp2_with (go_at_call 67; refine (index_calls A c l _ HR.out).mono ?_; rintro e w' ⟨r, rfl, h1, h2, nd, rfl⟩; have h3 := Lib.hid h1; have h4 := Lib.hid h2; clear h1 h2)
 go_ret
 refine ⟨?_, by repeat (first | exact Drawn0.refl _ | apply Drawn0.step)⟩
 cases b with
 | true =>
  rw [decide_eq_true (h3.out HB.out)]
  rfl
 | false =>
  rw [decide_eq_false (by have := h4.out HB.out; omega)]
  rfl
/-- how many different ones there are -/
def distinctN (l : List Int) : Nat := ((l.map (Lit.int .i64)).foldl Maps.addKey []).length
theorem keys_lit (l : List Int) : ∀ x ∈ l.map (Lit.int .i64), WideAt.IsKeyLit x := by
 intro x hx
 obtain ⟨y, _, rfl⟩ := List.mem_map.mp hx
 exact trivial
set_option maxHeartbeats 2000000 in
set_option maxRecDepth 100000 in
theorem distinct_calls {H : Type} (A : Option Addr) (c : Nat) (l : List Int) (hw : ∀ x ∈ l, (Lit.int .i64 x).wf = true) (w : World) (hr : Kd.C (Kd.int .i64) w A l.length l) (hlen : l.length ≤ 4) : Calls Try.prog 58 #[.slice A l.length c] w fun e w' => e = .returned (.int .i64 (distinctN l)) ∧ Below w.heap.size w w' := by
 have hm : l.length ≤ 9223372036854775807 := hr.2.1
 have HR := zM hr
 clear hr
 have HW := Lib.hid hw
 clear hw
 have hmm := @run_makeMap Try.prog
 go_enter Try.func58, Try.ntmps58
 go_wp2
 go_loopw [9] (fun v wr => ∃ k : Nat, k ≤ l.length ∧ v = .int .i64 k ∧ Hid (wr.ownsMap Try.prog 3 (plainElem (H := H) Try.prog 4) w.heap.size k (Maps.setOf (.lit (.bool true)) ((l.take k).map (Lit.int .i64)))) ∧ Hid (Below w.heap.size w wr)) (fun v _ => l.length - (intOf v).toNat)
 case atStart => exact ⟨0, Nat.zero_le _, rfl, Lib.hid (World.ownsMap_made _ _ _ _), Lib.hid ((Below.refl _ _).alloc (Nat.le_refl _) _)⟩
 case round =>
  obtain ⟨k, hk, rfl, hown, hB⟩ := hrel
  by_cases hlt : k < l.length
  ·
   obtain ⟨ad, e, hx⟩ := Kd.at_int HR.out (k : Int) (by omega) (by omega)
   have hba := hB.out
   have hx2 : wr.cell? (ad.add (k : Int).toNat) = some (.int .i64 (rd l k)) := by
    have := Kd.at_int (zCB HR.out hB.out) (k : Int) (by omega) (by omega)
    obtain ⟨ad2, e2, hx3⟩ := this
    rw [e] at e2
    cases e2
    exact hx3
   cases e
   clear hx hba
   simp only [Int.toNat_natCast] at hx2
   have hel : rd l k = l[k] := by
    simp only [rd, Int.toNat_natCast]
    rw [List.getD_eq_getElem?_getD, List.getElem?_eq_getElem hlt]
    rfl
   have hkey : Hid (keyOf Try.prog 3 (.int .i64 (rd l k)) = some (.int .i64 (rd l k))) := Lib.hid (Maps.keyOf_int_mk Try.underlying3 (by rw [hel]; exact HW.out _ (List.getElem_mem hlt)))
   have hstep : Hid (Maps.setOf (H := H) (.lit (.bool true)) ((l.take (k + 1)).map (Lit.int .i64)) = (Maps.setOf (.lit (.bool true)) ((l.take k).map (Lit.int .i64))).put (.int .i64 (rd l k)) (.lit (.bool true))) := Lib.hid (by
    rw [List.take_succ_eq_append_getElem hlt, List.map_append, List.map_singleton, Maps.setOf_snoc, hel])
   clear hel
   go_wp2_with (at_mapUpdate; refine wpList_mapUpdate_own _ rfl _ _ _ 100 rfl 3 4 (Maps.int_keyed Try.underlying3) Try.underlying100 _ w.heap.size k _ rfl hown.out (by unfold maxLen; omega) _ _ _ rfl rfl hkey.out _ [] (plainElem_bool Try.underlying4 true) ?_; intro w1 hown1 hgrow1; have HO1 := Lib.hid hown1; have HG1 := Lib.hid hgrow1; clear hown1 hgrow1)
   go_roundw
   case rel => exact ⟨k + 1, by omega, by go_num, Lib.hid (by rw [hstep.out]; exact HO1.out), Lib.hid (hB.out.grown HG1.out hB.out.size (fun j hj => by cases hj; exact Nat.le_refl _))⟩
   case measure => simp [intOf]; omega
  ·
   obtain rfl : k = l.length := by omega
   have hsz : Hid (Maps.size (H := H) (Maps.setOf (.lit (.bool true)) (l.map (Lit.int .i64))) = distinctN l) := Lib.hid (by rw [Maps.size_setOf _ _ (keys_lit l)]; rfl)
   go_wp2_with (at_len; refine wpList_len_own _ rfl _ 100 rfl 3 4 Try.underlying100 _ w.heap.size l.length _ rfl hown.out ?_)
   go_ret
   exact ⟨by rw [hsz.out]; rfl, hB.out⟩
theorem wf_of_in {l : List Int} (h : l.any outB = false) : ∀ x ∈ l, (Lit.int .i64 x).wf = true := by
 intro x hx
 have h1 : ¬ outB x = true := fun h2 => by
  have h3 := List.any_eq_true.mpr ⟨x, hx, h2⟩
  rw [h] at h3
  exact absurd h3 (by decide)
 unfold outB at h1
 simp at h1
 have h4 : x = 0 ∨ x = 1 ∨ x = 2 ∨ x = 3 := by omega
 rcases h4 with rfl | rfl | rfl | rfl <;> decide
/-- the error of sources -/
def clauses_Sources.f (l0 : List Int) (a1 : Bool) : Option Int :=
 if l0.length > 4 then some 4 else if l0.length = 0 then some 8 else if a1 = true ∧ ¬ l0.length = 2 then some 8 else if l0.any outB = true then some 8 else if distinctN l0 < l0.length then some 43 else some 0
set_option maxHeartbeats 2000000 in
set_option maxRecDepth 100000 in
theorem clauses_Sources.calls (A0 : Option Addr) (c0 : Nat) (l0 : List Int) (a1 : Bool) (r : Int) (w : World) (hr0 : Kd.C (Kd.int .i64) w A0 l0.length l0) (hc0 : l0.length ≤ c0) (h : clauses_Sources.f l0 a1 = some r) :
  Calls Try.prog 24 #[.slice A0 l0.length c0, .bool a1] w fun e w' => e = .returned (.int .i64 r) ∧ Below w.heap.size w w' := by
 have HR := zM hr0
 clear hr0 hc0
 unfold clauses_Sources.f at h
 by_cases h1 : l0.length > 4
 ·
  rw [if_pos h1] at h
  obtain rfl := Option.some.inj h
  have c1 : decide ((l0.length : Int) > 4) = true := decide_eq_true (by omega)
  have c2 : decide (4 < l0.length) = true := decide_eq_true (by omega)
  clear h1 h
  go_enter Try.func24, Try.ntmps24
  go_wp2
  go_ret
  exact ⟨rfl, Below.refl _ _⟩
 ·
  rw [if_neg h1] at h
  have hl4 : l0.length ≤ 4 := by omega
  have c1 : decide ((l0.length : Int) > 4) = false := decide_eq_false (by omega)
  have c2 : decide (4 < l0.length) = false := decide_eq_false (by omega)
  clear h1
  by_cases h2 : l0.length = 0
  ·
   rw [if_pos h2] at h
   obtain rfl := Option.some.inj h
   obtain rfl : l0 = [] := List.length_eq_zero_iff.mp h2
   clear h h2 c1 c2 hl4
   go_enter Try.func24, Try.ntmps24
   go_wp2
   go_ret
   exact ⟨rfl, Below.refl _ _⟩
  ·
   rw [if_neg h2] at h
   have d1 : ((l0.length : Int) == 0) = false := beq_eq_false_iff_ne.mpr (by omega)
   have d2 : (l0.length == 0) = false := beq_eq_false_iff_ne.mpr (by omega)
   have d3 : ¬ l0 = [] := fun e => h2 (by rw [e]; rfl)
   clear h2
   by_cases h3 : a1 = true ∧ ¬ l0.length = 2
   ·
    rw [if_pos h3] at h
    obtain rfl := Option.some.inj h
    obtain ⟨rfl, h4⟩ := h3
    have e1 : ((l0.length : Int) != 2) = true := bne_iff_ne.mpr (by omega)
    have e2 : (l0.length != 2) = true := bne_iff_ne.mpr (by omega)
    clear h h4 hl4
    go_enter Try.func24, Try.ntmps24
    go_wp2
    go_ret
    exact ⟨rfl, Below.refl _ _⟩
   ·
    rw [if_neg h3] at h
    cases hA : l0.any outB with
    | true =>
     rw [if_pos hA] at h
     obtain rfl := Option.some.inj h
     have HA := Lib.hid hA
     clear hA h
     cases a1 with
     | true =>
      have e0 : l0.length = 2 := by
       by_cases z : l0.length = 2
       ·
        exact z
       ·
        exact absurd ⟨rfl, z⟩ h3
      have e1 : ((l0.length : Int) != 2) = false := bne_eq_false_iff_eq.mpr (by omega)
      have e2 : (l0.length != 2) = false := bne_eq_false_iff_eq.mpr (by omega)
      clear e0 h3 hl4
      go_enter Try.func24, Try.ntmps24
      go_wp2_with (go_at_call 57; refine (contains_calls A0 c0 l0 true HA.out _ HR.out).mono ?_; rintro e w' ⟨rfl, nd, rfl⟩)
      go_ret
      exact ⟨rfl, by repeat (first | exact Below.refl _ _ | apply zP)⟩
     | false =>
      clear h3 hl4
      go_enter Try.func24, Try.ntmps24
      go_wp2_with (go_at_call 57; refine (contains_calls A0 c0 l0 true HA.out _ HR.out).mono ?_; rintro e w' ⟨rfl, nd, rfl⟩)
      go_ret
      exact ⟨rfl, by repeat (first | exact Below.refl _ _ | apply zP)⟩
    | false =>
     rw [if_neg (by rw [hA]; decide)] at h
     have HA := Lib.hid hA
     clear hA
     have hj : a1 = true → l0.length = 2 := fun e => by
      by_cases z : l0.length = 2
      ·
       exact z
      ·
       exact absurd ⟨e, z⟩ h3
     clear h3
     have HW := Lib.hid (wf_of_in HA.out)
     have HL := Lib.hid hl4
     clear hl4
     by_cases h5 : distinctN l0 < l0.length
     ·
      rw [if_pos h5] at h
      obtain rfl := Option.some.inj h
      have f1 : decide ((distinctN l0 : Int) < (l0.length : Int)) = true := decide_eq_true (by omega)
      have f2 : decide (distinctN l0 < l0.length) = true := decide_eq_true h5
      clear h5 h
      cases a1 with
      | true =>
       have e1 : ((l0.length : Int) != 2) = false := bne_eq_false_iff_eq.mpr (by have := hj rfl; omega)
       have e2 : (l0.length != 2) = false := bne_eq_false_iff_eq.mpr (hj rfl)
       clear hj
       go_enter Try.func24, Try.ntmps24
       go_wp2_with (first | (go_at_call 57; refine (contains_calls A0 c0 l0 false HA.out _ HR.out).mono ?_; rintro e w' ⟨rfl, nd, rfl⟩) | (go_at_call 58; refine (distinct_calls (H := Unit) A0 c0 l0 HW.out _ ?sideC HL.out).mono ?_; (case sideC => repeat (first | exact HR.out | (with_reducible refine zCN ?_ _))); rintro e w' ⟨rfl, hb⟩; have HB := Lib.hid hb; clear hb))
       go_ret
       exact ⟨rfl, Below.trans (show Below w.heap.size w (w.drewN nd) by repeat (first | exact Below.refl _ _ | apply zP)) (by simpa using HB.out)⟩
      | false =>
       clear hj
       go_enter Try.func24, Try.ntmps24
       go_wp2_with (first | (go_at_call 57; refine (contains_calls A0 c0 l0 false HA.out _ HR.out).mono ?_; rintro e w' ⟨rfl, nd, rfl⟩) | (go_at_call 58; refine (distinct_calls (H := Unit) A0 c0 l0 HW.out _ ?sideC HL.out).mono ?_; (case sideC => repeat (first | exact HR.out | (with_reducible refine zCN ?_ _))); rintro e w' ⟨rfl, hb⟩; have HB := Lib.hid hb; clear hb))
       go_ret
       exact ⟨rfl, Below.trans (show Below w.heap.size w (w.drewN nd) by repeat (first | exact Below.refl _ _ | apply zP)) (by simpa using HB.out)⟩
     ·
      rw [if_neg h5] at h
      obtain rfl := Option.some.inj h
      have f1 : decide ((distinctN l0 : Int) < (l0.length : Int)) = false := decide_eq_false (by omega)
      have f2 : decide (distinctN l0 < l0.length) = false := decide_eq_false h5
      clear h5 h
      cases a1 with
      | true =>
       have e1 : ((l0.length : Int) != 2) = false := bne_eq_false_iff_eq.mpr (by have := hj rfl; omega)
       have e2 : (l0.length != 2) = false := bne_eq_false_iff_eq.mpr (hj rfl)
       clear hj
       go_enter Try.func24, Try.ntmps24
       go_wp2_with (first | (go_at_call 57; refine (contains_calls A0 c0 l0 false HA.out _ HR.out).mono ?_; rintro e w' ⟨rfl, nd, rfl⟩) | (go_at_call 58; refine (distinct_calls (H := Unit) A0 c0 l0 HW.out _ ?sideC HL.out).mono ?_; (case sideC => repeat (first | exact HR.out | (with_reducible refine zCN ?_ _))); rintro e w' ⟨rfl, hb⟩; have HB := Lib.hid hb; clear hb))
       go_ret
       exact ⟨rfl, Below.trans (show Below w.heap.size w (w.drewN nd) by repeat (first | exact Below.refl _ _ | apply zP)) (by simpa using HB.out)⟩
      | false =>
       clear hj
       go_enter Try.func24, Try.ntmps24
       go_wp2_with (first | (go_at_call 57; refine (contains_calls A0 c0 l0 false HA.out _ HR.out).mono ?_; rintro e w' ⟨rfl, nd, rfl⟩) | (go_at_call 58; refine (distinct_calls (H := Unit) A0 c0 l0 HW.out _ ?sideC HL.out).mono ?_; (case sideC => repeat (first | exact HR.out | (with_reducible refine zCN ?_ _))); rintro e w' ⟨rfl, hb⟩; have HB := Lib.hid hb; clear hb))
       go_ret
       exact ⟨rfl, Below.trans (show Below w.heap.size w (w.drewN nd) by repeat (first | exact Below.refl _ _ | apply zP)) (by simpa using HB.out)⟩

end Go.Proofs.Ytpkamfjkmbakhaa.G
