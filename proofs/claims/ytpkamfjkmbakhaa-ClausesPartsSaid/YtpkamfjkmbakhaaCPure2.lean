/- Windows, sources, names: the program's answers are the reference's. Nothing is assumed. -/
import Derived.Test.YtpkamfjkmbakhaaCPure1
import Derived.Test.YtpkamfjkmbakhaaC8
namespace Go.Proofs.Ytpkamfjkmbakhaa.C.Pure
open Go.RowKit Go.Proofs.Ytpkamfjkmbakhaa.C Go.Proofs.YtpkamfjkmbakhaaW.PrintWords Go.Proofs.YtpkamfjkmbakhaaW.PrintLast Go.Proofs.YtpkamfjkmbakhaaW.PrintMore

/-- Which windows are valid. -/
def win (a b c : Int) : Int := if b < 1 ∨ b > 1073741824 then 8 else if a = 2 then (if c ≥ 1 ∧ c ≤ b ∧ b ≤ wrap64 (16 * c) then 0 else 8) else if (a = 1 ∨ a = 3) ∧ c = 0 then 0 else 8

theorem prog_window (a b c : Int) {k : Nat} : clauses_Window.f (k + 2) a b c = some (win a b c) := by
  have hT : clauses_Window.j0 (k + 2) true a b c = some 8 := by rw [clauses_Window.j0, if_pos rfl]
  have hj : ∀ x, clauses_Window.j1 (k + 1) x = some (if x = true then 0 else 8) := by
    intro x; rw [clauses_Window.j1]; split <;> rfl
  unfold clauses_Window.f win
  by_cases h1 : b < 1
  · rw [if_pos h1, hT, if_pos (Or.inl h1)]
  rw [if_neg h1]
  by_cases h2 : b > 1073741824
  · rw [decide_eq_true h2, hT, if_pos (Or.inr h2)]
  rw [decide_eq_false h2, if_neg (show ¬ (b < 1 ∨ b > 1073741824) from fun g => g.elim h1 h2), clauses_Window.j0, if_neg (by simp)]
  by_cases h3 : a = 2
  · rw [if_pos h3, if_pos h3]
    by_cases h4 : c ≥ 1
    · rw [if_pos h4]
      by_cases h5 : c ≤ b
      · rw [if_pos h5, hj]
        by_cases h6 : b ≤ wrap64 (16 * c)
        · rw [if_pos (by simpa using h6), if_pos ⟨h4, h5, h6⟩]
        · rw [if_neg (by simpa using h6), if_neg (fun g => h6 g.2.2)]
      · rw [if_neg h5, hj, if_neg (by simp), if_neg (fun g => h5 g.2.1)]
    · rw [if_neg h4, hj, if_neg (by simp), if_neg (fun g => h4 g.1)]
  · rw [if_neg h3, if_neg h3]
    by_cases h4 : a = 1
    · rw [if_pos h4]
      by_cases h5 : c = 0
      · rw [if_pos h5, if_pos ⟨Or.inl h4, h5⟩]
      · rw [if_neg h5, if_neg (fun g => h5 g.2)]
    · rw [if_neg h4]
      by_cases h6 : a = 3
      · rw [if_pos h6]
        by_cases h5 : c = 0
        · rw [if_pos h5, if_pos ⟨Or.inr h6, h5⟩]
        · rw [if_neg h5, if_neg (fun g => h5 g.2)]
      · rw [if_neg h6, if_neg (fun g => g.1.elim h4 h6)]

theorem ref_fits (a b c : Int) {k : Nat} : tailwaterref08_Fits.f (k + 1) a b c = some (decide (win a b c = 0)) := by
  have hT : tailwaterref08_Fits.j0 (k + 1) true a b c = some false := by rw [tailwaterref08_Fits.j0, if_pos rfl]
  unfold tailwaterref08_Fits.f win
  by_cases h1 : b < 1
  · rw [if_pos h1, hT, if_pos (Or.inl h1)]; rfl
  rw [if_neg h1]
  by_cases h2 : b > 1073741824
  · rw [decide_eq_true h2, hT, if_pos (Or.inr h2)]; rfl
  rw [decide_eq_false h2, if_neg (show ¬ (b < 1 ∨ b > 1073741824) from fun g => g.elim h1 h2), tailwaterref08_Fits.j0, if_neg (by simp)]
  by_cases h3 : a = 2
  · rw [if_pos h3, if_pos h3]
    by_cases h4 : c ≥ 1
    · rw [if_pos h4]
      by_cases h5 : c ≤ b
      · rw [if_pos h5]
        by_cases h6 : b ≤ wrap64 (16 * c)
        · rw [decide_eq_true h6, if_pos (⟨h4, h5, h6⟩ : c ≥ 1 ∧ c ≤ b ∧ b ≤ wrap64 (16 * c))]; rfl
        · rw [decide_eq_false h6, if_neg (show ¬ (c ≥ 1 ∧ c ≤ b ∧ b ≤ wrap64 (16 * c)) from fun g => h6 g.2.2)]; rfl
      · rw [if_neg h5, if_neg (show ¬ (c ≥ 1 ∧ c ≤ b ∧ b ≤ wrap64 (16 * c)) from fun g => h5 g.2.1)]; rfl
    · rw [if_neg h4, if_neg (show ¬ (c ≥ 1 ∧ c ≤ b ∧ b ≤ wrap64 (16 * c)) from fun g => h4 g.1)]; rfl
  · rw [if_neg h3, if_neg h3]
    have hd : (c == 0) = decide (c = 0) := by by_cases h : c = 0 <;> simp [h]
    by_cases h4 : a = 1
    · rw [if_pos h4, hd]
      by_cases h5 : c = 0
      · rw [if_pos (⟨Or.inl h4, h5⟩ : (a = 1 ∨ a = 3) ∧ c = 0), decide_eq_true h5]; rfl
      · rw [if_neg (show ¬ ((a = 1 ∨ a = 3) ∧ c = 0) from fun g => h5 g.2), decide_eq_false h5]; rfl
    · rw [if_neg h4]
      by_cases h6 : a = 3
      · rw [if_pos h6, hd]
        by_cases h5 : c = 0
        · rw [if_pos (⟨Or.inr h6, h5⟩ : (a = 1 ∨ a = 3) ∧ c = 0), decide_eq_true h5]; rfl
        · rw [if_neg (show ¬ ((a = 1 ∨ a = 3) ∧ c = 0) from fun g => h5 g.2), decide_eq_false h5]; rfl
      · rw [if_neg h6, if_neg (show ¬ ((a = 1 ∨ a = 3) ∧ c = 0) from fun g => g.1.elim h4 h6)]; rfl

theorem win_cases (a b c : Int) : win a b c = 0 ∨ win a b c = 8 := by
  unfold win
  split
  · exact Or.inr rfl
  · split
    · split
      · exact Or.inl rfl
      · exact Or.inr rfl
    · split
      · exact Or.inl rfl
      · exact Or.inr rfl

theorem ref_window (a b c : Int) {k : Nat} : tailwaterref08_Window.f (k + 1) a b c = some (win a b c) := by
  unfold tailwaterref08_Window.f
  rw [ref_fits, Option.bind_some]
  rcases win_cases a b c with h | h
  · rw [if_pos (by simp [h]), h]
  · rw [if_neg (by simp [h]), h]

theorem names_eq (n : Int) : ∃ a b e, clauses_Name.f n = some (a, e) ∧ tailwaterref08_Name.f n = some (b, e) ∧ a.toList = b.toList := by
  by_cases h1 : n < 0
  · refine ⟨⟨#[]⟩, ⟨#[]⟩, 2, ?_, ?_, rfl⟩
    · unfold clauses_Name.f; rw [if_pos h1]
    · unfold tailwaterref08_Name.f; rw [if_pos h1]
  by_cases h2 : n ≥ 4
  · refine ⟨⟨#[]⟩, ⟨#[]⟩, 2, ?_, ?_, rfl⟩
    · unfold clauses_Name.f; rw [if_neg h1, if_pos h2]
    · unfold tailwaterref08_Name.f; rw [if_neg h1, if_pos (by omega)]
  have hn : n = 0 ∨ n = 1 ∨ n = 2 ∨ n = 3 := by omega
  rcases hn with rfl | rfl | rfl | rfl
  · exact ⟨(⟨#[97, 98, 99, 100]⟩ : ByteArray).extract 0 1, ⟨#[97]⟩, 0, by decide +kernel, by decide +kernel, by decide +kernel⟩
  · exact ⟨(⟨#[97, 98, 99, 100]⟩ : ByteArray).extract 1 2, ⟨#[98]⟩, 0, by decide +kernel, by decide +kernel, by decide +kernel⟩
  · exact ⟨(⟨#[97, 98, 99, 100]⟩ : ByteArray).extract 2 3, ⟨#[99]⟩, 0, by decide +kernel, by decide +kernel, by decide +kernel⟩
  · exact ⟨(⟨#[97, 98, 99, 100]⟩ : ByteArray).extract 3 4, ⟨#[100]⟩, 0, by decide +kernel, by decide +kernel, by decide +kernel⟩

def srcOf (s : ByteArray) : Int × Int := if [97] = s.toList then (0, 0) else if [98] = s.toList then (1, 0) else if [99] = s.toList then (2, 0) else if [100] = s.toList then (3, 0) else (0, 2)

theorem prog_source (s : ByteArray) {k : Nat} : clauses_Source.f (k + 5) s = some (srcOf s) := by
  unfold clauses_Source.f srcOf
  rw [clauses_Source.l0, if_pos (by omega), if_pos (by omega), show wrap64 ((0 : Int) + 1) = 1 from w64 (by omega), if_pos (by omega), if_pos (by omega), show ((⟨#[97, 98, 99, 100]⟩ : ByteArray).extract ((0 : Int)).toNat ((1 : Int)).toNat).toList = [97] by decide +kernel]
  by_cases h0 : [97] = s.toList
  · rw [if_pos h0, if_pos h0]
  rw [if_neg h0, if_neg h0]
  rw [clauses_Source.l0, if_pos (by omega), if_pos (by omega), show wrap64 ((1 : Int) + 1) = 2 from w64 (by omega), if_pos (by omega), if_pos (by omega), show ((⟨#[97, 98, 99, 100]⟩ : ByteArray).extract ((1 : Int)).toNat ((2 : Int)).toNat).toList = [98] by decide +kernel]
  by_cases h1 : [98] = s.toList
  · rw [if_pos h1, if_pos h1]
  rw [if_neg h1, if_neg h1]
  rw [clauses_Source.l0, if_pos (by omega), if_pos (by omega), show wrap64 ((2 : Int) + 1) = 3 from w64 (by omega), if_pos (by omega), if_pos (by omega), show ((⟨#[97, 98, 99, 100]⟩ : ByteArray).extract ((2 : Int)).toNat ((3 : Int)).toNat).toList = [99] by decide +kernel]
  by_cases h2 : [99] = s.toList
  · rw [if_pos h2, if_pos h2]
  rw [if_neg h2, if_neg h2]
  rw [clauses_Source.l0, if_pos (by omega), if_pos (by omega), show wrap64 ((3 : Int) + 1) = 4 from w64 (by omega), if_pos (by omega), if_pos (by omega), show ((⟨#[97, 98, 99, 100]⟩ : ByteArray).extract ((3 : Int)).toNat ((4 : Int)).toNat).toList = [100] by decide +kernel]
  by_cases h3 : [100] = s.toList
  · rw [if_pos h3, if_pos h3]
  rw [if_neg h3, if_neg h3]
  rw [clauses_Source.l0, if_neg (by omega)]

theorem ref_source (s : ByteArray) {k : Nat} : tailwaterref08_Source.f (k + 5) s = some (srcOf s) := by
  unfold tailwaterref08_Source.f srcOf
  rw [tailwaterref08_Source.l0, if_pos (by omega), show tailwaterref08_Name.f 0 = some (⟨#[97]⟩, 0) by decide +kernel, Option.bind_some, show (⟨#[97]⟩ : ByteArray).toList = [97] by decide +kernel, show wrap64 ((0 : Int) + 1) = 1 from w64 (by omega)]
  by_cases h0 : [97] = s.toList
  · rw [if_pos h0, if_pos h0]
  rw [if_neg h0, if_neg h0]
  rw [tailwaterref08_Source.l0, if_pos (by omega), show tailwaterref08_Name.f 1 = some (⟨#[98]⟩, 0) by decide +kernel, Option.bind_some, show (⟨#[98]⟩ : ByteArray).toList = [98] by decide +kernel, show wrap64 ((1 : Int) + 1) = 2 from w64 (by omega)]
  by_cases h1 : [98] = s.toList
  · rw [if_pos h1, if_pos h1]
  rw [if_neg h1, if_neg h1]
  rw [tailwaterref08_Source.l0, if_pos (by omega), show tailwaterref08_Name.f 2 = some (⟨#[99]⟩, 0) by decide +kernel, Option.bind_some, show (⟨#[99]⟩ : ByteArray).toList = [99] by decide +kernel, show wrap64 ((2 : Int) + 1) = 3 from w64 (by omega)]
  by_cases h2 : [99] = s.toList
  · rw [if_pos h2, if_pos h2]
  rw [if_neg h2, if_neg h2]
  rw [tailwaterref08_Source.l0, if_pos (by omega), show tailwaterref08_Name.f 3 = some (⟨#[100]⟩, 0) by decide +kernel, Option.bind_some, show (⟨#[100]⟩ : ByteArray).toList = [100] by decide +kernel, show wrap64 ((3 : Int) + 1) = 4 from w64 (by omega)]
  by_cases h3 : [100] = s.toList
  · rw [if_pos h3, if_pos h3]
  rw [if_neg h3, if_neg h3]
  rw [tailwaterref08_Source.l0, if_neg (by omega)]

theorem ClausesParts_ok (a b c : Int) (l : List Int) (j : Bool) (n : Int) (s : ByteArray) : tailwaterlaw08_ClausesParts.f 101 a b c l j n s = some true := by
  have no : tailwaterlaw08_ClausesParts.j0 101 l j n s true a b c = some true := by
    rw [tailwaterlaw08_ClausesParts.j0, if_pos rfl]
  unfold tailwaterlaw08_ClausesParts.f
  by_cases h1 : (l.length : Int) > 10
  · rw [if_pos h1]; exact no
  rw [if_neg h1]
  by_cases h2 : (s.size : Int) > 20
  · rw [decide_eq_true h2]; exact no
  obtain ⟨x, y, e, e1, e2, e3⟩ := names_eq n
  rw [decide_eq_false h2, tailwaterlaw08_ClausesParts.j0, if_neg (by simp), e1, Option.bind_some, e2, Option.bind_some]
  rw [prog_source (k := 95), Option.bind_some, ref_source (k := 95), Option.bind_some, prog_window (k := 98), Option.bind_some, ref_window (k := 99), Option.bind_some, if_pos rfl, prog_sources, Option.bind_some, ref_sources l j (by omega), Option.bind_some, if_pos rfl]
  simp only
  rw [if_pos e3, if_pos trivial, if_pos trivial]
  simp

/-- The law. -/
theorem ClausesParts (a b c : Int) (l : List Int) (j : Bool) (n : Int) (s : ByteArray) (_ : ∀ x ∈ l, (Lit.int .i64 x).wf = true) (_ : (Lit.int .i64 n).wf = true) (_ : s.size ≤ 140737488351232) : ∃ k, tailwaterlaw08_ClausesParts.f k a b c l j n s = some true := ⟨101, ClausesParts_ok a b c l j n s⟩

end Go.Proofs.Ytpkamfjkmbakhaa.C.Pure
