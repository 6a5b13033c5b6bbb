/- Which sources are valid doesn't depend on their order; names and sources are a bijection. Nothing is assumed. -/
import Derived.Test.YtpkamfjkmbakhaaC10
import Derived.Test.YtpkamfjkmbakhaaCPure1
namespace Go.Proofs.Ytpkamfjkmbakhaa.Pure
open Go.RowKit Go.Proofs.Ytpkamfjkmbakhaa.C Go.Proofs.YtpkamfjkmbakhaaW.PrintWords Go.Proofs.YtpkamfjkmbakhaaW.PrintLast

theorem order_alive : tailwaterlaw08_alive.f 60 = some true := by decide +kernel
theorem order_names : tailwaterlaw08_ClausesOrder.l0 66 0 = some true := by decide +kernel

theorem ClausesOrder : tailwaterlaw08_ClausesOrder.Pure := by
  intro l j a _ _ _ _
  refine ⟨67, ?_⟩
  have no : tailwaterlaw08_ClausesOrder.j0 67 l j a true = some true := by
    rw [tailwaterlaw08_ClausesOrder.j0, if_pos rfl, more_rounds (g := tailwaterlaw08_alive.f) (fun k => tailwaterlaw08_alive.mono k) 60 6 _ order_alive]; rfl
  unfold tailwaterlaw08_ClausesOrder.f
  by_cases h1 : (l.length : Int) > 4
  · rw [if_pos h1]; exact no
  rw [if_neg h1]
  by_cases h2 : a < 0
  · rw [if_pos h2]; exact no
  rw [if_neg h2]
  by_cases h3 : a > (l.length : Int)
  · rw [decide_eq_true h3]; exact no
  rw [decide_eq_false h3, tailwaterlaw08_ClausesOrder.j0, if_neg (by simp), Option.bind_some, if_pos (by omega), if_pos (by omega), if_pos (by simp; omega), Option.bind_some, if_pos (by simp; omega)]
  have hp : (([] : List Int) ++ l.drop (a : Int).toNat ++ l.take (a : Int).toNat).Perm l := by
    rw [List.nil_append]
    exact (List.perm_append_comm).trans (by rw [List.take_append_drop])
  rw [C.Pure.prog_sources, Option.bind_some, C.Pure.prog_sources, Option.bind_some, C.Pure.src_perm hp, if_pos rfl]
  exact order_names

end Go.Proofs.Ytpkamfjkmbakhaa.Pure
