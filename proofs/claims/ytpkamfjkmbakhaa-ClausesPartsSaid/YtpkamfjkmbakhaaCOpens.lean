/- The arguments of the laws, opened: slices of whole numbers. Nothing is assumed. -/
import Derived.Test.YtpkamfjkmbakhaaC0
import Derived.ChangeSlices
import Derived.OpenShut
namespace Go.Proofs.Ytpkamfjkmbakhaa.OpensC
open Go.ChangeShapes Go.WideShapes Go.RowKit Go.Proofs.Ytpkamfjkmbakhaa.C Go.Proofs.YtpkamfjkmbakhaaW.PrintWords Go.Proofs.YtpkamfjkmbakhaaW.PrintLast Go.Proofs.YtpkamfjkmbakhaaW.PrintMore

set_option maxRecDepth 100000
section
variable {H : Type} {enc : TypeId × Value → H} {W : World} {base b0 : Nat} {spare : Nat → Bool} {held : Bool} {r : Reach} {v : Value} {d : DataW H} {p : List MemPlace}
theorem ints_cells {fuel : Nat} {cs : List Value} {x : DataW H × List MemPlace} (hf : DataW.trod enc Try.prog W base spare held fuel 23 cs = some x) : ∃ A c, ∃ l : List Int, cs = [.slice A l.length c] ∧ Kd.C (Kd.int .i64) W A l.length l ∧ l.length ≤ c ∧ ∀ x ∈ l, (Lit.int .i64 x).wf = true := by
  rcases open_ints Try.underlying23 Try.underlying3 (by kernel_rfl) hf with ⟨h0, _⟩ | ⟨a, len, cap, zs, hcs, _, hl, hm, hz, _, hcell, hwz⟩
  · exact ⟨none, 0, [], h0, Kd.C_nil _ _, Nat.le_refl _, by simp⟩
  · have hlz : (zs.take len).length ≤ zs.length := by simp; omega
    by_cases hlen : len ≤ zs.length
    · have e : (zs.take len).length = len := by rw [List.length_take]; omega
      refine ⟨some a, cap, zs.take len, by rw [e]; exact hcs, ⟨rfl, by have : maxLen ≤ 9223372036854775807 := (by decide); omega, fun _ => ⟨a, rfl, fun j x hx => ⟨_, rfl, rfl, fun i u hu => ?_⟩⟩⟩, by omega, fun x hx => hwz x (List.mem_of_mem_take hx)⟩
      have hj := (List.getElem?_eq_some_iff.1 hx).1
      have hx2 : zs[j]? = some x := by rw [List.getElem?_take] at hx; split at hx <;> simp_all
      match i, hu with
      | 0, hu =>
        cases hu
        have := hcell j (by omega)
        rw [List.getD_eq_getElem?_getD, hx2] at this
        have g : W.cell? (a.add (j * 1 + 0)) = some (Value.int IntKind.i64 x) := by simpa using this
        exact g
      | i + 1, hu => simp at hu
    · exfalso
      rw [hz] at hlen
      split at hlen <;> omega

theorem ints (hv : Value.okWide Try.prog W r b0 23 v) (h : DataW.Trod enc Try.prog W base spare held 23 v d p) : ∃ A c, ∃ l : List Int, v = .slice A l.length c ∧ Kd.C (Kd.int .i64) W A l.length l ∧ l.length ≤ c ∧ ∀ x ∈ l, (Lit.int .i64 x).wf = true := by
  obtain ⟨a, len, cap, rfl⟩ := okWide_slice Try.underlying23 hv
  obtain ⟨fuel, hf⟩ := h
  obtain ⟨A, c, l, e, h1, h2, h3⟩ := ints_cells hf
  exact ⟨A, c, l, by simpa [Value.cells] using e, h1, h2, h3⟩
end

end Go.Proofs.Ytpkamfjkmbakhaa.OpensC
