/- The law ClausesJoin of the given program holds for every input: the row, out of the plain law and the walk. No conditions. -/
import Derived.Test.YtpkamfjkmbakhaaRows
import Derived.Test.YtpkamfjkmbakhaaD17
import Derived.Test.YtpkamfjkmbakhaaDPure7
import Derived.WalkKit
import Derived.ProofKit
import Derived.OpenShut
import Derived.ShutString
import Derived.ChangeOld
import Derived.Below
import Derived.SizedLaws
import Derived.Carry
import Derived.Lib.SmallJoins
import Derived.Test.YtpkamfjkmbakhaaDOpens
namespace Go.Proofs.Ytpkamfjkmbakhaa.clausesJoin
open Go.ChangeShapes Go.WideShapes Go.ChangeAt Go.RowKit
open Go.ChangeMaps (open_string shut_string)
theorem own : ownKnob Try.prog.godebug = none := by kernel_rfl
theorem laidOut : laidOutB Try.prog = true := by kernel_rfl
set_option maxRecDepth 100000 in
theorem lifted (os : Os) (started : os.Started) (H : Type) (enc : TypeId × Value → H) :
    ReturnsInHanded {} Try.checked os 13 .any (Rows.clausesJoinSpec.pre6 enc Try.prog Try.f13 Rows.clausesJoinRow.domain false) (Rows.clausesJoinSpec.post enc Try.prog Try.f13 false true false false) := by
  refine returnsInHanded_of_change_sized (C := Try.checked) own started (by kernel_rfl) Try.func13
    (ChangeSpec.witness6 (enc := enc) (C := Try.checked) false ⟨#[], #[.agg #[.int .u8 0, .slice none 0 0, .slice none 0 0, .bool false, .slice none 0 0, .int .u8 0, .int .i64 0, .int .i64 0, .bool false, .int .u8 0]], []⟩ 8 (by kernel_rfl) (by kernel_rfl) (by kernel_rfl) (by kernel_rfl)) ?_
  intro W base args ds gs before hval0 hW hcnd hsz0 _
  have hval : ∀ (j : Nat) t v, Try.f13.params[j]? = some t → args[j]? = some v → Value.okWide Try.prog W .any base t v := hval0
  have hW' := hW
  obtain ⟨p, q, hA0, hV, rfl, hfz, hnd⟩ := hW
  have hA : DataW.TrodAll enc Try.prog W 0 (fun _ => true) true Try.f13.params.toList args.toList ds p := hA0
  rw [Try.params13] at hA hval
  obtain ⟨v0, vs0, d0, ds0, p0, q0, hargs, rfl, rfl, h0, r0⟩ := trodAll_cons hA
  obtain ⟨rfl, rfl, rfl⟩ := trodAll_nil r0
  obtain rfl : args = #[v0] := by cases args; simp_all
  obtain ⟨rfl, rfl⟩ := trodVars_none hV
  have k0 := h0
  have lt0 : ∀ x ∈ p0, x.block < W.heap.size := by obtain ⟨m, hm⟩ := k0; exact DataW.trod_lt m _ _ _ hm
  obtain ⟨b0_0, A0_1, c0_1, l0_1, A0_2, c0_2, l0_2, b0_3, A0_4, c0_4, l0_4, b0_5, b0_6, b0_7, b0_8, b0_9, rfl, C0_1, hc0_1, wf0_1, C0_2, hc0_2, wf0_2, C0_4, hc0_4, wf0_4⟩ := OpensD.query (hval 0 27 v0 rfl rfl) h0
  clear hA0 hval0
  obtain ⟨k, h⟩ := D.Pure.ClausesJoin b0_0 l0_1 l0_2 b0_3 l0_4 b0_5 b0_6 b0_7 b0_8 b0_9 wf0_1 wf0_2 wf0_4
  refine (D.tailwaterlaw08_ClausesJoin.calls k b0_0 A0_1 c0_1 l0_1 A0_2 c0_2 l0_2 b0_3 A0_4 c0_4 l0_4 b0_5 b0_6 b0_7 b0_8 b0_9 W C0_1 hc0_1 C0_2 hc0_2 C0_4 hc0_4 h).mono fun e W' ⟨he, bel0⟩ => ?_
  have bel : Below W.heap.size W W' := bel0
  subst he
  exact ⟨_, rfl, _, _, _, [], _, [], hW', trodAll_mk1 (shut_bool Try.underlying4 _), (trodAll_cons_mk (Below.trod laidOut (by kernel_rfl) (of_decide_eq_true (by kernel_rfl)) k0 bel lt0) trodAll_mk0), rfl, bel.frame _, fun h => by cases h⟩
theorem over : Rows.clausesJoinRow.holds Try.pinned (OpenSpec.ofChange Rows.clausesJoinSpec) :=
  OpenClaim.holds_of_wide 13 Try.f13 rfl rfl rfl rfl rfl rfl rfl ⟨rfl, rfl, rfl, rfl, rfl⟩ rfl rfl rfl rfl rfl (by kernel_rfl) Try.func13 (by kernel_rfl)
    (of_decide_eq_true (by kernel_rfl)) (by unfold Func.isWrapper; first | (rw [if_pos (by decide +kernel)]; kernel_rfl) | (rw [if_neg (by decide +kernel)]; exact ⟨rfl, rfl⟩))
    (fun os started H enc _ => lifted os started H enc)
theorem proved : Rows.ClausesJoinSaid := over
#print axioms proved
end Go.Proofs.Ytpkamfjkmbakhaa.clausesJoin
namespace Go.Proofs.Ytpkamfjkmbakhaa
/-- The row, under a short name, for the claim. -/
theorem clausesJoin_holds : Rows.ClausesJoinSaid := clausesJoin.proved
end Go.Proofs.Ytpkamfjkmbakhaa
