/- Where every is the size there is one window, the tumbling one; and Of agrees with All. Nothing is assumed: the statement is over all whole numbers of 64 bits. -/
import Derived.Test.YtheobaaegpfbjaaS8
import Derived.Test.YtheobaaegpfbjaaSPure2
namespace Go.Proofs.Ytheobaaegpfbjaa.Pure
open Go.RowKit Go.Proofs.Ytheobaaegpfbjaa.S Go.Proofs.YtheobaaegpfbjaaW.PrintWords Go.Proofs.YtheobaaegpfbjaaW.PrintLast Go.Proofs.YtheobaaegpfbjaaW.PrintMore

theorem SlideTumble : tailwaterlaw14_SlideTumble.Pure := by
  intro t size every _ _ _
  refine ⟨40, ?_⟩
  unfold tailwaterlaw14_SlideTumble.f
  rw [alive_ok, fit_eq 39]
  simp only [Option.bind_some]
  by_cases g : Good size every ∧ -1099511627776 ≤ t ∧ t ≤ 1099511627776
  · rw [decide_eq_true g]
    obtain ⟨g, h5, h6⟩ := g
    have ge : Good every every := by unfold Good at *; omega
    obtain ⟨n, m, T, hA⟩ := all_eq ge h5 h6 19
    obtain ⟨n2, m2, T2, hB⟩ := all_eq g h5 h6 19
    have v1 : Valid 1 every 0 := by unfold Valid Good at *; omega
    have v2 : Valid 2 size every := by unfold Valid Good at *; omega
    have c0 : chk t every = 0 := chk_ok (by unfold Good at g; omega)
    have hO : slide_Of.f 39 1 every 0 t = some ([(⟨t / every * every, t / every * every + every⟩ : S23)], 0) := by
      unfold slide_Of.f
      rw [window_eq 37, if_pos v1]
      simp only [Option.bind_some, if_true]
      rw [of_eq 38, if_pos c0]
      simp only [Option.bind_some, if_true]
    have hP : slide_Of.f 39 2 size every t = some (spans n2 every size m2, 0) := by
      unfold slide_Of.f
      rw [window_eq 37, if_pos v2, hB]
      simp
    have e : spans n every every m = [(⟨t / every * every, t / every * every + every⟩ : S23)] := by
      have q := quo (t := t) g.1
      obtain ⟨t1, t2, t3, t4, t5⟩ := T
      have x : t / every < n + 1 := by
        apply mul_lt_of g.1
        rw [succ_mul']
        generalize t / every * every = P at *
        omega
      obtain rfl : m = 1 := by omega
      obtain rfl : n = t / every := by omega
      simp [spans]
    simp only [if_true, Bool.not_true, tailwaterlaw14_SlideTumble.j0, Bool.false_eq_true, if_false]
    rw [hA, hB, hO, hP, of_eq 38, if_pos c0, e]
    simp only [Option.bind_some, if_true]
    have s1 := same_refl [(⟨t / every * every, t / every * every + every⟩ : S23)] (by simp) 39 (by simp)
    have s2 := same_refl (spans n2 every size m2) (by rw [spans_length]; have := T2.most; omega) 39 (by rw [spans_length]; have := T2.most; omega)
    rw [s1, s2]
    simp only [Option.bind_some, if_true]
  · rw [decide_eq_false g]
    simp only [Bool.false_eq_true, if_false, tailwaterlaw14_SlideTumble.j0, if_true]
end Go.Proofs.Ytheobaaegpfbjaa.Pure
