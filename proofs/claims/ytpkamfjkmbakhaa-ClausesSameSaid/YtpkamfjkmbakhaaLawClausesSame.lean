/- The law ClausesSame of the given program holds for every input: the row, out of the plain law and the walk. No conditions. -/
import Derived.Test.YtpkamfjkmbakhaaRows
import Derived.Test.YtpkamfjkmbakhaaGSame
import Derived.Test.YtpkamfjkmbakhaaGSame
import Derived.WalkKit
import Derived.ProofKit
import Derived.OpenShut
import Derived.ShutString
import Derived.ChangeOld
import Derived.Below
import Derived.SizedLaws
import Derived.Carry
import Derived.Lib.SmallJoins
import Derived.Test.YtpkamfjkmbakhaaGOpens
namespace Go.Proofs.Ytpkamfjkmbakhaa.clausesSame
open Go.ChangeShapes Go.WideShapes Go.ChangeAt Go.RowKit
open Go.ChangeMaps (open_string shut_string)
theorem own : ownKnob Try.prog.godebug = none := by kernel_rfl
theorem laidOut : laidOutB Try.prog = true := by kernel_rfl
set_option maxRecDepth 100000 in
theorem lifted (os : Os) (started : os.Started) (H : Type) (enc : TypeId × Value → H) :
    ReturnsInHanded {} Try.checked os 3 .any (Rows.clausesSameSpec.pre6 enc Try.prog Try.f3 Rows.clausesSameRow.domain false) (Rows.clausesSameSpec.post enc Try.prog Try.f3 false true false false) := by
  refine returnsInHanded_of_change_sized (C := Try.checked) own started (by kernel_rfl) Try.func3
    (ChangeSpec.witness6 (enc := enc) (C := Try.checked) false ⟨#[], #[.agg #[.int .u8 0, .slice none 0 0, .slice none 0 0, .bool false, .slice none 0 0, .int .u8 0, .int .i64 0, .int .i64 0, .bool false, .int .u8 0], .agg #[.int .u8 0, .slice none 0 0, .slice none 0 0, .bool false, .slice none 0 0, .int .u8 0, .int .i64 0, .int .i64 0, .bool false, .int .u8 0], .int .i64 0], []⟩ 8 (by kernel_rfl) (by kernel_rfl) (by kernel_rfl) (by kernel_rfl)) ?_
  intro W base args ds gs before hval0 hW hcnd hsz0 _
  have hval : ∀ (j : Nat) t v, Try.f3.params[j]? = some t → args[j]? = some v → Value.okWide Try.prog W .any base t v := hval0
  have hW' := hW
  obtain ⟨p, q, hA0, hV, rfl, hfz, hnd⟩ := hW
  have hA : DataW.TrodAll enc Try.prog W 0 (fun _ => true) true Try.f3.params.toList args.toList ds p := hA0
  rw [Try.params3] at hA hval
  obtain ⟨v0, vs0, d0, ds0, p0, q0, hargs, rfl, rfl, h0, r0⟩ := trodAll_cons hA
  obtain ⟨v1, vs1, d1, ds1, p1, q1, rfl, rfl, rfl, h1, r1⟩ := trodAll_cons r0
  obtain ⟨v2, vs2, d2, ds2, p2, q2, rfl, rfl, rfl, h2, r2⟩ := trodAll_cons r1
  obtain ⟨rfl, rfl, rfl⟩ := trodAll_nil r2
  obtain rfl : args = #[v0, v1, v2] := by cases args; simp_all
  obtain ⟨rfl, rfl⟩ := trodVars_none hV
  have k0 := h0
  have lt0 : ∀ x ∈ p0, x.block < W.heap.size := by obtain ⟨m, hm⟩ := k0; exact DataW.trod_lt m _ _ _ hm
  obtain ⟨b0_0, A0_1, c0_1, l0_1, A0_2, c0_2, l0_2, b0_3, A0_4, c0_4, l0_4, b0_5, b0_6, b0_7, b0_8, b0_9, rfl, C0_1, hc0_1, wf0_1, C0_2, hc0_2, wf0_2, C0_4, hc0_4, wf0_4⟩ := OpensG.query (hval 0 27 v0 rfl rfl) h0
  have k1 := h1
  have lt1 : ∀ x ∈ p1, x.block < W.heap.size := by obtain ⟨m, hm⟩ := k1; exact DataW.trod_lt m _ _ _ hm
  obtain ⟨b1_0, A1_1, c1_1, l1_1, A1_2, c1_2, l1_2, b1_3, A1_4, c1_4, l1_4, b1_5, b1_6, b1_7, b1_8, b1_9, rfl, C1_1, hc1_1, wf1_1, C1_2, hc1_2, wf1_2, C1_4, hc1_4, wf1_4⟩ := OpensG.query (hval 1 27 v1 rfl rfl) h1
  obtain ⟨a2, rfl, rfl, rfl, w2⟩ := open_int Try.underlying3 (hval 2 3 v2 rfl rfl) h2
  clear hA0 hval0
  refine (G.SameLaw.walk b0_0 A0_1 c0_1 l0_1 A0_2 c0_2 l0_2 b0_3 A0_4 c0_4 l0_4 b0_5 b0_6 b0_7 b0_8 b0_9 b1_0 A1_1 c1_1 l1_1 A1_2 c1_2 l1_2 b1_3 A1_4 c1_4 l1_4 b1_5 b1_6 b1_7 b1_8 b1_9 a2 W C0_1 hc0_1 C0_2 hc0_2 C0_4 hc0_4 C1_1 hc1_1 C1_2 hc1_2 C1_4 hc1_4).mono fun e W' ⟨he, bel0⟩ => ?_
  have bel : Below W.heap.size W W' := bel0
  subst he
  exact ⟨_, rfl, _, _, _, [], _, [], hW', trodAll_mk1 (shut_bool Try.underlying4 _), (trodAll_cons_mk (Below.trod laidOut (by kernel_rfl) (of_decide_eq_true (by kernel_rfl)) k0 bel lt0) (trodAll_cons_mk (Below.trod laidOut (by kernel_rfl) (of_decide_eq_true (by kernel_rfl)) k1 bel lt1) (trodAll_cons_mk (shut_int Try.underlying3 w2) trodAll_mk0))), rfl, bel.frame _, fun h => by cases h⟩
theorem over : Rows.clausesSameRow.holds Try.pinned (OpenSpec.ofChange Rows.clausesSameSpec) :=
  OpenClaim.holds_of_wide 3 Try.f3 rfl rfl rfl rfl rfl rfl rfl ⟨rfl, rfl, rfl, rfl, rfl⟩ rfl rfl rfl rfl rfl (by kernel_rfl) Try.func3 (by kernel_rfl)
    (of_decide_eq_true (by kernel_rfl)) (by unfold Func.isWrapper; first | (rw [if_pos (by decide +kernel)]; kernel_rfl) | (rw [if_neg (by decide +kernel)]; exact ⟨rfl, rfl⟩))
    (fun os started H enc _ => lifted os started H enc)
theorem proved : Rows.ClausesSameSaid := over
#print axioms proved
end Go.Proofs.Ytpkamfjkmbakhaa.clausesSame
namespace Go.Proofs.Ytpkamfjkmbakhaa
/-- The row, under a short name, for the claim. -/
theorem clausesSame_holds : Rows.ClausesSameSaid := clausesSame.proved
end Go.Proofs.Ytpkamfjkmbakhaa
