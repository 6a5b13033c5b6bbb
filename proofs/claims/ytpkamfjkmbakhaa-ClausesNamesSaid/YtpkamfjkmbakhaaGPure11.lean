/- What the walk of ClausesNames reads: windows, queries that are not valid, valid ones. Nothing is assumed. -/
import Derived.Test.YtpkamfjkmbakhaaGPure7n
import Derived.Test.YtpkamfjkmbakhaaGPure9
import Derived.Test.YtpkamfjkmbakhaaG27
namespace Go.Proofs.Ytpkamfjkmbakhaa.G.Pure
open Go.RowKit Go.Proofs.Ytpkamfjkmbakhaa.G Go.Proofs.YtpkamfjkmbakhaaW.PrintWords Go.Proofs.YtpkamfjkmbakhaaW.PrintLast Go.Proofs.YtpkamfjkmbakhaaW.PrintMore

/-- The windows that are not valid. -/
def bads : List S25 := [⟨0, 0, 0⟩, ⟨1, 0, 0⟩, ⟨4, 5, 0⟩, ⟨1, (-1), 0⟩, ⟨1, 1073741825, 0⟩, ⟨1, 5, 5⟩, ⟨3, 5, 1⟩, ⟨2, 5, 0⟩, ⟨2, 5, (-1)⟩, ⟨2, 5, (-9223372036854775808)⟩, ⟨2, 0, 0⟩, ⟨3, 0, 0⟩]
theorem bad_windows {ys : List S25} (h : ys = bads) {n : Int} (h1 : n < (ys.length : Int)) : clauses_Window.f 9 (rd_T25 ys n).f0 (rd_T25 ys n).f1 (rd_T25 ys n).f2 = some 8 := by
  subst h
  have e : ∀ i : Fin 12, clauses_Window.f 9 (bads.getD i.val z25).f0 (bads.getD i.val z25).f1 (bads.getD i.val z25).f2 = some 8 := by decide +kernel
  have hl : bads.length = 12 := rfl
  exact e ⟨n.toNat, by omega⟩

/-- The node of a value. -/
def vnode : S36 := ⟨4, 0, 0, 0, 0⟩
/-- A query is not valid: what Check and Same answer. -/
def Bad (gv : List S36) (gs : List Int) (a : Int) (l1 : List S36) (l2 : List Int) (j : Bool) (l4 : List S36) (p0 p1 t want : Int) : Prop :=
  clauses_Check.f 500 a l1 l2 j l4 p0 p1 0 false t = some want ∧ clauses_Same.f 500 a l1 l2 j l4 p0 p1 0 false t 2 gv gs false gv 1 5 0 false 2 = some (false, want) ∧
    clauses_Same.f 500 2 gv gs false gv 1 5 0 false 2 a l1 l2 j l4 p0 p1 0 false t = some (false, want)
theorem bad_of {gv : List S36} {gs : List Int} (hv : gv = [vnode]) (hs : gs = [1, 0]) {a : Int} {l1 : List S36} {l2 : List Int} {j : Bool} {l4 : List S36} {p0 p1 t want : Int} (h1 : l1.length ≤ 70) (h4 : l4.length ≤ 70) (h2 : l2.length ≤ 10)
    (hq : qchk a l1 l2 j l4 p0 p1 0 t = want) (hw : ¬ want = 0) : Bad gv gs a l1 l2 j l4 p0 p1 t want := by
  subst hv; subst hs
  have sp : (⟨a, l1, l2, j, l4, p0, p1, 0, false, t⟩ : Qu).small := ⟨h1, h4, h2⟩
  have sg : (⟨2, [vnode], [1, 0], false, [vnode], 1, 5, 0, false, 2⟩ : Qu).small := ⟨by decide, by decide, by decide⟩
  have cg : (⟨2, [vnode], [1, 0], false, [vnode], 1, 5, 0, false, 2⟩ : Qu).chk = 0 := by decide +kernel
  have cp : (⟨a, l1, l2, j, l4, p0, p1, 0, false, t⟩ : Qu).chk = want := hq
  have e1 := check_is sp (k := 500) (by omega)
  have e2 := same_is sp sg (k := 500) (by omega)
  have e3 := same_is sg sp (k := 500) (by omega)
  rw [cp] at e1 e2 e3
  rw [if_neg hw] at e2 e3
  rw [if_pos cg] at e3
  exact ⟨e1, e2, e3⟩
theorem good_is {gv : List S36} {gs : List Int} (hv : gv = [vnode]) (hs : gs = [1, 0]) : tailwaterlaw08_good.f = some (2, gv, gs, false, gv, 1, 5, 0, false, 2) := by
  subst hv; subst hs; rfl
theorem good_check {gv : List S36} {gs : List Int} (hv : gv = [vnode]) (hs : gs = [1, 0]) (j : Bool) : clauses_Check.f 500 2 gv gs j gv 1 5 0 false 2 = some 0 := by
  subst hv; subst hs
  rw [check500 _ _ _ _ _ _ _ _ _ _ (by decide) (by decide)]
  cases j <;> decide +kernel
theorem count_check {gs : List Int} (hs : gs = [1, 0]) : clauses_Check.f 500 1 [] gs false [] 1 5 0 false 2 = some 0 := by
  subst hs
  rw [check500 _ _ _ _ _ _ _ _ _ _ (by decide) (by decide)]
  decide +kernel
theorem slides : tailwaterlaw08_slide.f 9 1073741824 1073741824 = some 0 ∧ tailwaterlaw08_slide.f 9 16 1 = some 0 ∧ tailwaterlaw08_slide.f 9 1073741824 67108864 = some 0 ∧ tailwaterlaw08_slide.f 9 1073741824 67108863 = some 8 ∧ clauses_Window.f 9 3 1073741824 0 = some 0 := by decide +kernel
theorem sources_of {l : List Int} {l' : List Int} (h : l = l') {j : Bool} {r : Int} (e : src l' j = r) : clauses_Sources.f l j = some r := by subst h; rw [prog_sources, e]
theorem named : clauses_Name.f 3 = some ((⟨#[100]⟩ : ByteArray), 0) ∧ (∃ s, clauses_Name.f 4 = some (s, 2)) ∧ (∃ s, clauses_Name.f (-1) = some (s, 2)) ∧ clauses_Source.f 9 (⟨#[99]⟩ : ByteArray) = some (2, 0) ∧ (∃ n, clauses_Source.f 9 (⟨#[]⟩ : ByteArray) = some (n, 2)) ∧ (∃ n, clauses_Source.f 9 (⟨#[97, 98]⟩ : ByteArray) = some (n, 2)) :=
  ⟨by decide +kernel, ⟨⟨#[]⟩, by decide +kernel⟩, ⟨⟨#[]⟩, by decide +kernel⟩, by decide +kernel, ⟨0, by decide +kernel⟩, ⟨0, by decide +kernel⟩⟩

end Go.Proofs.Ytpkamfjkmbakhaa.G.Pure
