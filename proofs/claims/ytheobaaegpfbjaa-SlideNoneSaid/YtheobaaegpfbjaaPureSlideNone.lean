/- No other window that begins at a multiple of every has the time: neither the one before the first one, nor the one behind the last one. Nothing is assumed: the statement is over all whole numbers of 64 bits. -/
import Derived.Test.YtheobaaegpfbjaaS5
import Derived.Test.YtheobaaegpfbjaaSPure1
namespace Go.Proofs.Ytheobaaegpfbjaa.Pure
open Go.RowKit Go.Proofs.Ytheobaaegpfbjaa.S Go.Proofs.YtheobaaegpfbjaaW.PrintWords Go.Proofs.YtheobaaegpfbjaaW.PrintLast Go.Proofs.YtheobaaegpfbjaaW.PrintMore

theorem SlideNone : tailwaterlaw14_SlideNone.Pure := by
  intro t size every _ _ _
  refine ⟨40, ?_⟩
  unfold tailwaterlaw14_SlideNone.f
  rw [alive_ok, fit_eq 39]
  simp only [Option.bind_some]
  by_cases g : Good size every ∧ -1099511627776 ≤ t ∧ t ≤ 1099511627776
  · rw [decide_eq_true g]
    obtain ⟨g, h5, h6⟩ := g
    obtain ⟨n, m, T, hA⟩ := all_eq g h5 h6 19
    obtain ⟨g1, g2, g3, g4⟩ := g
    have q := quo (t := t) g1
    obtain ⟨t1, t2, t3, t4, t5⟩ := T
    have l3 : (n + m - 1) * every ≤ t := by rw [t3]; exact q.1
    have l4 : t < (n + m - 1) * every + every := by rw [t3]; exact q.2
    have a1 : n * every ≤ (n + m - 1) * every := mul_le g1 (by omega)
    simp only [if_true, tailwaterlaw14_SlideNone.j0]
    rw [hA]
    simp only [Option.bind_some, if_true, Bool.not_true, Bool.false_eq_true, if_false, spans_length]
    rw [if_neg (by omega), if_pos (by omega), spans_rd (by omega) (by omega)]
    simp only [Int.add_zero]
    rw [pred_mul'] at t5
    rw [w64 (x := n * every - every) (by omega), w64 (x := n * every - every + size) (by omega), if_pos (by omega), w64 (x := (m : Int) - 1) (by omega), if_pos (by omega), if_pos (by omega), spans_rd (by omega) (by omega)]
    simp only []
    rw [show n + ((m : Int) - 1) = n + m - 1 by omega, w64 (x := (n + m - 1) * every + every) (by omega), decide_eq_true (by omega)]
  · rw [decide_eq_false g]
    simp only [Bool.false_eq_true, if_false, tailwaterlaw14_SlideNone.j0, if_true]
end Go.Proofs.Ytheobaaegpfbjaa.Pure
