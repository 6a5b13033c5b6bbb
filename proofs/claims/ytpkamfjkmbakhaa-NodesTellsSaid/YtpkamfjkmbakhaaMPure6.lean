/- Checks, sizes, parts: the program's answers are the reference's. Nothing is assumed. -/
import Derived.Test.YtpkamfjkmbakhaaMPure5
import Derived.Test.YtpkamfjkmbakhaaM13
import Derived.Test.YtpkamfjkmbakhaaMOpens
namespace Go.Proofs.Ytpkamfjkmbakhaa.M.Pure
open Go.RowKit Go.Proofs.Ytpkamfjkmbakhaa.M Go.Proofs.YtpkamfjkmbakhaaW.PrintWords Go.Proofs.YtpkamfjkmbakhaaW.PrintLast Go.Proofs.YtpkamfjkmbakhaaW.PrintMore

theorem pcheck {l : List S36} (hl : l.length ≤ 70) {k : Nat} (hk : 400 ≤ k) : nodes_Check.f k l = some (chk l) := by
  obtain ⟨A, e, _⟩ := prog_check hl hk
  unfold nodes_Check.f; rw [e, Option.bind_some]

theorem Ex.kind {o : Int} {L : List S36} {d : Int} (h : Ex o L d) : ∀ x ∈ L, cnt x.f0 ≠ none := by
  induction h with
  | leaf h1 _ => intro y hy; rw [List.mem_singleton.1 hy, h1]; simp
  | un _ h2 _ ih =>
    intro y hy
    rcases List.mem_append.1 hy with hy | hy
    · exact ih y hy
    · rw [List.mem_singleton.1 hy, h2]; simp
  | bin _ _ h3 _ ih1 ih2 =>
    intro y hy
    rcases List.mem_append.1 hy with hy | hy
    · rcases List.mem_append.1 hy with hy | hy
      · exact ih1 y hy
      · exact ih2 y hy
    · rw [List.mem_singleton.1 hy, h3]; simp

theorem cut_run {at_ from_ : Int} {R : List S36} : ∀ {l P Z O : List S36} {k : Nat}, l = P ++ R ++ Z → l.length ≤ 70 → O.length + R.length ≤ 100 → at_ = (P.length : Int) + R.length - 1 → (∀ x ∈ R, cnt x.f0 ≠ none) → R.length < k →
    tailwaterref04_Cut.l0 k l at_ from_ O (P.length : Int) = some (O ++ R.map (shift (-from_))) := by
  induction R with
  | nil =>
    intro l P Z O k e hl hO ha hk hR
    obtain ⟨k, rfl⟩ : ∃ z, k = z + 1 := ⟨k - 1, by omega⟩
    simp only [List.length_nil] at ha
    rw [tailwaterref04_Cut.l0, if_neg (by omega)]
    simp
  | cons x R ih =>
    intro l P Z O k e hl hO ha hk hR
    obtain ⟨k, rfl⟩ : ∃ z, k = z + 1 := ⟨k - 1, by omega⟩
    simp only [List.length_cons] at ha hO hR
    have hlen : l.length = P.length + R.length + 1 + Z.length := by rw [e]; simp; omega
    have hx : rd_T36 l (P.length : Int) = x := rd36 (by rw [e]; simp)
    have nx : ∀ y, tailwaterref04_Cut.l0 k l at_ from_ (O ++ [y]) (wrap64 ((P.length : Int) + 1)) = some (O ++ y :: R.map (shift (-from_))) := by
      intro y
      have := ih (l := l) (P := P ++ [x]) (Z := Z) (O := O ++ [y]) (k := k) (by rw [e]; simp) hl (by simp; omega) (by simp; omega) (fun z hz => hk z (by simp [hz])) (by omega)
      rw [w64 (by omega), show ((P.length : Int) + 1) = ((P ++ [x]).length : Int) by simp, this]
      simp
    have hm : ∀ a : Int, wrap64 (a + -from_) = wrap64 (a - from_) := fun a => by rw [Int.sub_eq_add_neg]
    rw [tailwaterref04_Cut.l0, if_pos (by omega), if_pos (by omega), if_pos (by omega), hx, count_eq, Option.bind_some, Option.bind_some]
    simp only [List.map_cons, Option.bind_some]
    rcases cnt_cases x.f0 with hc | hc | hc | hc
    · exact absurd hc (hk x (by simp))
    · rw [show shift (-from_) x = x by unfold shift; simp only [hc], hc]
      simp only
      rw [if_neg (by simp), if_neg (by simp), if_pos (by omega)]
      exact nx x
    · rw [show shift (-from_) x = ⟨x.f0, x.f1, wrap64 (x.f2 - from_), x.f3, x.f4⟩ by unfold shift; simp only [hc, hm], hc]
      simp only
      rw [if_pos (by simp), if_neg (by simp), if_pos (by omega)]
      exact nx _
    · rw [show shift (-from_) x = ⟨x.f0, x.f1, wrap64 (x.f2 - from_), wrap64 (x.f3 - from_), x.f4⟩ by unfold shift; simp only [hc, hm], hc]
      simp only
      rw [if_pos (by simp), if_pos (by simp), if_pos (by omega)]
      exact nx _

theorem ref_bad {l : List S36} (hl : l.length ≤ 70) {k : Nat} (hk : 400 ≤ k) (h : chk l ≠ 0) (at_ : Int) : tailwaterref04_Depth.f k l = some (0, chk l) ∧ tailwaterref04_Size.f k l at_ = some (0, chk l) ∧ tailwaterref04_Part.f k l at_ = some ([], chk l) := by
  have e := ref_check hl (k := k) (by omega)
  have hs : tailwaterref04_Size.f k l at_ = some (0, chk l) := by unfold tailwaterref04_Size.f; rw [e, Option.bind_some, if_neg h, Option.bind_some]
  refine ⟨?_, hs, ?_⟩
  · unfold tailwaterref04_Depth.f; rw [e, Option.bind_some, if_neg h, Option.bind_some]
  · unfold tailwaterref04_Part.f; rw [hs, Option.bind_some, if_neg h]

theorem said_ok {l A d} (h : V l A d) : said (run l 0 [] []) = (A.map (·.f1), A.map (·.f2), true) := by
  unfold V at h; rw [h]; rfl

theorem ref_depth {l A d} (h : V l A d) (hl : l.length ≤ 60) (hd : d ≤ 20) {k : Nat} (hk : 400 ≤ k) : tailwaterref04_Depth.f k l = some (d, 0) := by
  have hb := h.ex.bounds
  have hlen := h.len
  have hw : wrap64 ((l.length : Int) - 1) = ((l.length - 1 : Nat) : Int) := by rw [w64 (by omega)]; omega
  unfold tailwaterref04_Depth.f
  rw [ref_check (by omega) (by omega), Option.bind_some, if_pos (chk_zero h hl hd), sizes_is (by omega) (by omega), Option.bind_some, said_ok h]
  simp only
  rw [hw, if_pos (by omega), if_pos (by simp only [List.length_map]; omega), rd2 h.last]

theorem ref_size {l A d} (h : V l A d) (hl : l.length ≤ 60) (hd : d ≤ 20) {k : Nat} (hk : 400 ≤ k) {i : Nat} {t : S96} (ht : A[i]? = some t) : tailwaterref04_Size.f k l i = some (t.f1, 0) := by
  have hlen := h.len
  have hi := (List.getElem?_eq_some_iff.1 ht).1
  unfold tailwaterref04_Size.f
  rw [ref_check (by omega) (by omega), Option.bind_some, if_pos (chk_zero h hl hd), if_neg (by omega), if_neg (by omega), sizes_is (by omega) (by omega), Option.bind_some, said_ok h]
  simp only
  rw [if_pos (by omega), if_pos (by simp only [List.length_map]; omega), rd1 ht]

theorem ref_arg {l A d} (h : V l A d) (hl : l.length ≤ 60) (hd : d ≤ 20) {k : Nat} (hk : 400 ≤ k) {i : Int} (hi : i < 0 ∨ (l.length : Int) ≤ i) : tailwaterref04_Size.f k l i = some (0, 2) ∧ tailwaterref04_Part.f k l i = some ([], 2) := by
  have hs : tailwaterref04_Size.f k l i = some (0, 2) := by
    unfold tailwaterref04_Size.f
    rw [ref_check (by omega) (by omega), Option.bind_some, if_pos (chk_zero h hl hd)]
    rcases hi with hi | hi
    · rw [if_pos hi]
    · rw [if_neg (by omega), if_pos (by omega)]
  refine ⟨hs, ?_⟩
  unfold tailwaterref04_Part.f; rw [hs, Option.bind_some, if_neg (by simp)]

theorem ref_part {l A d} (h : V l A d) (hl : l.length ≤ 60) (hd : d ≤ 20) {k : Nat} (hk : 400 ≤ k) {Q L Z : List S36} {e : Int} {i : Nat} (hq : l = Q ++ L ++ Z) (hi : Q.length + L.length = i + 1) (hE : Ex Q.length L e) (hA : A[i]? = some ⟨i, L.length, e⟩) : tailwaterref04_Part.f k l i = some (L.map (shift (-(Q.length : Int))), 0) := by
  have hlen := h.len
  have hin := (List.getElem?_eq_some_iff.1 hA).1
  have hll : l.length = Q.length + L.length + Z.length := by rw [hq]; simp; omega
  unfold tailwaterref04_Part.f
  rw [ref_size h hl hd hk hA, Option.bind_some]
  simp only
  rw [if_pos trivial]
  unfold tailwaterref04_Cut.f
  rw [sizes_is (by omega) (by omega), Option.bind_some, said_ok h]
  simp only
  have e1 : wrap64 ((i : Int) + 1) = ((i + 1 : Nat) : Int) := by rw [w64 (by omega)]; omega
  have e2 : wrap64 (((i + 1 : Nat) : Int) - (L.length : Int)) = (Q.length : Int) := by rw [w64 (by omega)]; omega
  rw [if_pos (by omega), if_pos (by simp only [List.length_map]; omega), rd1 hA, e1, e2, cut_run hq (by omega) (by simp; omega) (by omega) hE.kind (by omega), Option.bind_some]
  simp

theorem ref_parts (x : Int) : tailwaterref04_Parts.f x = some (match cnt x with | none => (0, 2) | some n => ((n : Int), 0)) := by
  unfold tailwaterref04_Parts.f
  rcases cnt_cases x with h | h | h | h
  · rw [h]; rw [cntN] at h
    rcases h with h | h
    · rw [if_pos (by omega)]
    · rw [if_neg (by omega), if_pos (by omega)]
  · have h' := h; rw [cnt0] at h'
    rw [if_neg (by omega), if_neg (by omega), count_eq, Option.bind_some, h]
  · have h' := h; rw [cnt1] at h'
    rw [if_neg (by omega), if_neg (by omega), count_eq, Option.bind_some, h]
  · have h' := h; rw [cnt2] at h'
    rw [if_neg (by omega), if_neg (by omega), count_eq, Option.bind_some, h]

theorem NodesTells_ok {k : Nat} (hk : 405 ≤ k) (l : List S36) (a kind : Int) : tailwaterlaw04_NodesTells.f k l a kind = some true := by
  unfold tailwaterlaw04_NodesTells.f
  rw [great_is, Option.bind_some]
  by_cases hg : l.length > 70
  · rw [if_pos (by simpa using hg)]
  rw [if_neg (by simpa using hg), Option.bind_some, if_pos (by simp; omega), Option.bind_some]
  simp only [List.nil_append]
  obtain ⟨k, rfl⟩ : ∃ z, k = z + 2 := ⟨k - 2, by omega⟩
  obtain ⟨x, y, z, hz, h1, h2, h3, h4, h5, h6⟩ : ∃ (x : Int × Int) (y : Int × Int) (z : List S36 × Int), z.1.length ≤ 70 ∧ nodes_Depth.f (k + 2) l = some x ∧ tailwaterref04_Depth.f (k + 2) l = some x ∧ nodes_Size.f (k + 2) l a = some y ∧ tailwaterref04_Size.f (k + 2) l a = some y ∧ nodes_Part.f (k + 2) l a = some z ∧ tailwaterref04_Part.f (k + 2) l a = some z := by
    by_cases hc : chk l = 0
    · obtain ⟨hl, A, d, hV, hd⟩ := chk_ok hc
      by_cases h : a < 0 ∨ (l.length : Int) ≤ a
      · have r := ref_arg hV hl hd (k := k + 2) (by omega) h
        exact ⟨_, _, ([], 2), by simp, depth_ok hV hl hd (by omega), ref_depth hV hl hd (by omega), size_arg hV hl hd (by omega) h, r.1, part_arg hV hl hd (by omega) h, r.2⟩
      · obtain ⟨i, rfl⟩ : ∃ i : Nat, a = i := ⟨a.toNat, by omega⟩
        obtain ⟨Q, L, Z, e, hq, hi, hE, hA, hed⟩ := hV.node (i := i) (by omega)
        have hll : l.length = Q.length + L.length + Z.length := by rw [hq]; simp; omega
        exact ⟨_, _, (L.map (shift (-(Q.length : Int))), 0), by simp; omega, depth_ok hV hl hd (by omega), ref_depth hV hl hd (by omega), size_ok hV hl hd (by omega) hA, ref_size hV hl hd (by omega) hA, part_is hV hl hd (by omega) hq hi hA, ref_part hV hl hd (by omega) hq hi hE hA⟩
    · have p := check_bad (l := l) (by omega) (k := k + 2) (by omega) hc a
      have r := ref_bad (l := l) (by omega) (k := k + 2) (by omega) hc a
      exact ⟨_, _, ([], chk l), by simp, p.1, r.1, p.2.1, r.2.1, p.2.2, r.2.2⟩
  obtain ⟨q, hp1, hp2⟩ : ∃ q, nodes_Parts.f (k + 2) kind = some q ∧ tailwaterref04_Parts.f kind = some q := ⟨_, parts_eq k kind, ref_parts kind⟩
  rw [h1, Option.bind_some, h2, Option.bind_some, h3, Option.bind_some, h4, Option.bind_some, h5, Option.bind_some, h6, Option.bind_some, hp1, Option.bind_some, hp2, Option.bind_some, pcheck (by omega) (by omega), Option.bind_some, ref_check (by omega) (by omega), Option.bind_some, if_pos rfl, if_pos rfl, if_pos rfl, if_pos rfl, if_pos rfl, equal_self (by omega) (by omega), Option.bind_some, if_pos rfl, if_pos rfl, if_pos rfl, if_pos rfl, equal_self (by omega) (by omega), Option.bind_some]

/-- The law. -/
theorem NodesTells (l : List S36) (a kind : Int) (_ : ∀ x ∈ l, OpensM.W36 x) (_ : (Lit.int .i64 a).wf = true) (_ : (Lit.int .u8 kind).wf = true) : ∃ k, tailwaterlaw04_NodesTells.f k l a kind = some true := ⟨405, NodesTells_ok (Nat.le_refl _) l a kind⟩

end Go.Proofs.Ytpkamfjkmbakhaa.M.Pure
