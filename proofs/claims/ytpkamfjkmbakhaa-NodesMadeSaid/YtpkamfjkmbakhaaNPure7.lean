/- Expressions are made of their parts. Nothing is assumed. -/
import Derived.Test.YtpkamfjkmbakhaaNPure6
import Derived.Test.YtpkamfjkmbakhaaN13
namespace Go.Proofs.Ytpkamfjkmbakhaa.N.Pure
open Go.RowKit Go.Proofs.Ytpkamfjkmbakhaa.N Go.Proofs.YtpkamfjkmbakhaaW.PrintWords Go.Proofs.YtpkamfjkmbakhaaW.PrintLast Go.Proofs.YtpkamfjkmbakhaaW.PrintMore

theorem pcheck {l : List S36} (hl : l.length ≤ 70) {k : Nat} (hk : 400 ≤ k) : nodes_Check.f k l = some (chk l) := by
  obtain ⟨A, e, _⟩ := prog_check hl hk
  unfold nodes_Check.f; rw [e, Option.bind_some]

theorem rdL {xs : List (List S36)} {i : Nat} {x : List S36} (h : xs[i]? = some x) : rd_L4 xs (i : Int) = x := by
  simp [rd_L4, List.getD, h]

/-- The conditions of a node by itself. -/
theorem node_head {k : Nat} {kind n at_ : Int} {parts : List (List S36)} {c : Nat} (hc : cnt kind = some c) (hp : parts.length = c) (hn : 0 ≤ n) (hk1 : n = 0 ∨ kind = 1) (ha : 0 ≤ at_ ∧ at_ ≤ 400) :
    nodes_Node.f (k + 2) kind n at_ parts = nodes_Node.l0 (k + 1) [] parts parts.length 0 kind n 0 0 at_ := by
  have hj : nodes_Node.j0 (k + 2) kind n at_ parts false = nodes_Node.l0 (k + 1) [] parts parts.length 0 kind n 0 0 at_ := by
    rw [nodes_Node.j0, if_neg (by simp)]
  unfold nodes_Node.f
  rw [parts_eq, Option.bind_some, hc]
  simp only
  rw [if_pos trivial, if_pos (by omega), if_neg (by omega), decide_eq_false (by omega : ¬ at_ > 400), hj]
  by_cases h : n > 0
  · rw [if_pos h, if_pos (by omega), if_neg (by omega)]
  · rw [if_neg h, if_neg (by omega)]

theorem node_part {k : Nat} (hk : 400 ≤ k) {D : List S36} {parts : List (List S36)} {i : Nat} {p : List S36} {x0 x1 x2 x3 x4 : Int} (hp : parts[i]? = some p) (hl : p.length ≤ 60) (hD : D.length ≤ 100) (hc : chk p = 0) (hbig : parts.length ≤ 2) :
    nodes_Node.l0 (k + 1) D parts parts.length i x0 x1 x2 x3 x4 = if i = 0 then nodes_Node.l0 k (D ++ p.map (shift D.length)) parts parts.length ((i + 1 : Nat) : Int) x0 x1 ((D.length : Int) + p.length - 1) x3 x4 else nodes_Node.l0 k (D ++ p.map (shift D.length)) parts parts.length ((i + 1 : Nat) : Int) x0 x1 x2 ((D.length : Int) + p.length - 1) x4 := by
  have hi := (List.getElem?_eq_some_iff.1 hp).1
  rw [nodes_Node.l0, if_pos (by omega), if_pos (by omega), if_pos (by omega), rdL hp, pcheck (by omega) hk, Option.bind_some, if_pos hc, moved_is (by omega) (by omega), Option.bind_some, if_pos (by simp; omega), Option.bind_some]
  rw [w64 (x := (i : Int) + 1) (by omega), show (i : Int) + 1 = ((i + 1 : Nat) : Int) by omega]
  have e : wrap64 (((D ++ p.map (shift D.length)).length : Int) - 1) = (D.length : Int) + p.length - 1 := by rw [w64 (by simp; omega)]; simp
  rw [e]
  by_cases h0 : i = 0
  · rw [if_pos (by omega), if_pos h0]
  · rw [if_neg (by omega), if_neg h0]

theorem node_tail {k : Nat} (hk : 400 ≤ k) {D : List S36} {parts : List (List S36)} {x0 x1 x2 x3 x4 : Int} (hD : D.length ≤ 59) (hc : chk (D ++ [⟨x0, x1, x2, x3, x4⟩]) = 0) :
    nodes_Node.l0 (k + 1) D parts parts.length parts.length x0 x1 x2 x3 x4 = some (D ++ [⟨x0, x1, x2, x3, x4⟩], 0) := by
  rw [nodes_Node.l0, if_neg (by omega), if_pos (by omega), Option.bind_some, pcheck (by simp; omega) hk, Option.bind_some, if_pos hc]

theorem NodesMade_ok {k : Nat} (hk : 405 ≤ k) (l : List S36) (a : Int) : tailwaterlaw04_NodesMade.f (k + 3) l a = some true := by
  have no : tailwaterlaw04_NodesMade.j0 (k + 3) l a true = some true := by
    rw [tailwaterlaw04_NodesMade.j0, if_pos rfl, alive_is (by omega)]; rfl
  unfold tailwaterlaw04_NodesMade.f
  rw [great_is, Option.bind_some]
  by_cases hg : l.length > 70
  · rw [if_pos (by simpa using hg)]; exact no
  rw [if_neg (by simpa using hg), ref_check (by omega) (by omega), Option.bind_some]
  by_cases hc : chk l = 0
  rotate_left
  · rw [if_neg hc]; exact no
  rw [if_pos hc]
  by_cases h1 : a < 0
  · rw [if_pos h1]; exact no
  rw [if_neg h1]
  by_cases h2 : a ≥ (l.length : Int)
  · rw [decide_eq_true h2]; exact no
  rw [decide_eq_false h2]
  obtain ⟨i, rfl⟩ : ∃ i : Nat, a = i := ⟨a.toNat, by omega⟩
  obtain ⟨hl, A, d, hV, hd⟩ := chk_ok hc
  have hb := hV.ex.bounds
  obtain ⟨Q, L, Z, e, hq, hi, hE, hA, hed⟩ := hV.node (i := i) (by omega)
  have hll : l.length = Q.length + L.length + Z.length := by rw [hq]; simp; omega
  obtain ⟨B, hB⟩ := sub_ok hE (by omega)
  have hown : chk (L.map (shift (-(Q.length : Int)))) = 0 := chk_zero hB (by simp; omega) (by omega)
  have eb := hE.bounds
  obtain ⟨k, rfl⟩ : ∃ z, k = z + 5 := ⟨k - 5, by omega⟩
  have go : ∀ x, rd_T36 l i = x → ∀ n, cnt x.f0 = some n → tailwaterlaw04_NodesMade.j1 (k + 7) l (L.map (shift (-(Q.length : Int)))) n false x.f0 x.f1 x.f2 x.f3 x.f4 = some true → tailwaterlaw04_NodesMade.j0 (k + 8) l i false = some true := by
    intro x hx n hn h
    rw [tailwaterlaw04_NodesMade.j0, if_neg (by simp), part_is hV hl hd (by omega) hq hi hA, Option.bind_some, if_pos (by omega), if_pos (by omega), hx, parts_eq, Option.bind_some, hn]
    simp only
    rw [if_pos trivial]
    exact h
  have fin : ∀ j : Nat, 400 ≤ j → ∀ m : List S36, m = L.map (shift (-(Q.length : Int))) → ((tailwaterref04_Equal.f j m (L.map (shift (-(Q.length : Int))))).bind fun t => if t = true then ((tailwaterlaw04_alive.f j).bind fun t => some t) else some false) = some true := by
    intro j hj m hm
    rw [hm, equal_self (by simp; omega) (by simp; omega), Option.bind_some, if_pos rfl, alive_is (by omega), Option.bind_some]
  cases hE with
  | @leaf _ x h1 h2 =>
    have hx : l[i]? = some x := by rw [hq]; simp at hi; simp [← hi]
    have hr := rd36 hx
    refine go x hr 0 h1 ?_
    unfold Good at h2
    have hsx : shift (-(Q.length : Int)) x = ⟨x.f0, x.f1, 0, 0, x.f4⟩ := by
      unfold shift; simp only [h1]; exact S36.ext_ rfl rfl h2.2.2.2.2.1 h2.2.2.2.2.2 rfl
    rw [tailwaterlaw04_NodesMade.j1, if_neg (by simp), if_neg (by simp), tailwaterlaw04_NodesMade.j2, if_neg (by simp), node_head (k := k + 3) (c := 0) h1 rfl h2.1 h2.2.1 ⟨h2.2.2.1, h2.2.2.2.1⟩]
    simp only [List.map_cons, List.map_nil, hsx] at hown fin ⊢
    have := node_tail (k := k + 3) (by omega) (D := []) (parts := []) (x0 := x.f0) (x1 := x.f1) (x2 := 0) (x3 := 0) (x4 := x.f4) (by simp) hown
    simp only [List.nil_append, List.length_nil] at this ⊢
    rw [show ((0 : Nat) : Int) = 0 from rfl] at this ⊢
    rw [this, Option.bind_some]
    simp only
    rw [if_pos trivial]
    exact fin (k + 5) (by omega) _ rfl
  | @un _ L1 d1 x h1 h2 h3 =>
    have hlen : (L1 ++ [x]).length = L1.length + 1 := by simp
    have hx : l[i]? = some x := by rw [hq, show i = Q.length + L1.length by omega]; simp
    have hr := rd36 hx
    refine go x hr 1 h2 ?_
    have b1 := h1.bounds
    unfold Good at h3
    have hf : x.f2 = ((Q.length + L1.length - 1 : Nat) : Int) := by omega
    have hs : A[Q.length + L1.length - 1]? = some ⟨((Q.length + L1.length - 1 : Nat) : Int), L1.length, d1⟩ := by
      rw [all_at hV (Q := Q) (L := L1) (Z := [x] ++ Z) (by rw [hq]; simp) h1]; congr 1; rw [S96.mk.injEq]; exact ⟨by omega, rfl, rfl⟩
    obtain ⟨B1, hB1⟩ := sub_ok h1 (by omega)
    have hde : d1 ≤ d := hV.deep _ (List.mem_of_getElem? hs)
    have hp1 : chk (L1.map (shift (-(Q.length : Int)))) = 0 := chk_zero hB1 (by simp; omega) (by omega)
    have hsx : shift (-(Q.length : Int)) x = ⟨x.f0, x.f1, (L1.length : Int) - 1, 0, x.f4⟩ := by
      unfold shift; simp only [h2]; exact S36.ext_ rfl rfl (by simp only; rw [w64 (by omega)]; omega) h3.2.2.2.2.2 rfl
    rw [tailwaterlaw04_NodesMade.j1, if_neg (by simp), if_pos (by omega), hf, part_is hV hl hd (by omega) (Q := Q) (L := L1) (Z := [x] ++ Z) (by rw [hq]; simp) (by omega) hs, Option.bind_some]
    simp only
    rw [if_pos trivial, if_pos (by simp), tailwaterlaw04_NodesMade.j2, if_neg (by omega), node_head (k := k + 3) (c := 1) h2 (by simp) h3.1 h3.2.1 ⟨h3.2.2.1, h3.2.2.2.1⟩]
    simp only [List.nil_append]
    have n1 := node_part (k := k + 3) (by omega) (D := []) (parts := [L1.map (shift (-(Q.length : Int)))]) (i := 0) (p := L1.map (shift (-(Q.length : Int)))) (x0 := x.f0) (x1 := x.f1) (x2 := 0) (x3 := 0) (x4 := x.f4) rfl (by simp; omega) (by simp) hp1 (by simp)
    have z1 := hB1.ex.shift0 (by omega) (by simp; omega)
    have s0 : ((L1.map (shift (-(Q.length : Int)))).map (shift ((([] : List S36).length : Nat) : Int))) = L1.map (shift (-(Q.length : Int))) := by
      rw [show ((([] : List S36).length : Nat) : Int) = 0 from rfl]; exact z1
    rw [if_pos rfl, s0] at n1
    have n2 := node_tail (k := k + 2) (by omega) (D := L1.map (shift (-(Q.length : Int)))) (parts := [L1.map (shift (-(Q.length : Int)))]) (x0 := x.f0) (x1 := x.f1) (x2 := (L1.length : Int) - 1) (x3 := 0) (x4 := x.f4) (by simp; omega) (by rw [List.map_append, List.map_cons, List.map_nil, hsx] at hown; exact hown)
    have n3 : nodes_Node.l0 (k + 3 + 1) [] [L1.map (shift (-(Q.length : Int)))] (([L1.map (shift (-(Q.length : Int)))] : List (List S36)).length : Int) 0 x.f0 x.f1 0 0 x.f4 = some (L1.map (shift (-(Q.length : Int))) ++ [⟨x.f0, x.f1, (L1.length : Int) - 1, 0, x.f4⟩], 0) := by
      rw [← n2]
      refine Eq.trans n1 ?_
      rw [show ((([] : List S36).length : Nat) : Int) + ((L1.map (shift (-(Q.length : Int)))).length : Int) - 1 = (L1.length : Int) - 1 by simp]
      rfl
    rw [n3, Option.bind_some]
    simp only
    rw [if_pos trivial]
    exact fin (k + 5) (by omega) _ (by rw [List.map_append, List.map_cons, List.map_nil, hsx])
  | @bin _ L1 d1 R1 e1 x h1 h2 h3 h4 =>
    have hlen : (L1 ++ R1 ++ [x]).length = L1.length + R1.length + 1 := by simp; omega
    have hx : l[i]? = some x := by rw [hq, show i = Q.length + (L1.length + R1.length) by omega]; simp
    have hr := rd36 hx
    refine go x hr 2 h3 ?_
    have b1 := h1.bounds
    have b2 := h2.bounds
    unfold Good at h4
    have hf : x.f2 = ((Q.length + L1.length - 1 : Nat) : Int) := by omega
    have hf3 : x.f3 = ((Q.length + L1.length + R1.length - 1 : Nat) : Int) := by omega
    have h2' : Ex ((Q ++ L1).length : Int) R1 e1 := by rw [List.length_append, show ((Q.length + L1.length : Nat) : Int) = Q.length + L1.length by omega]; exact h2
    have hs : A[Q.length + L1.length - 1]? = some ⟨((Q.length + L1.length - 1 : Nat) : Int), L1.length, d1⟩ := by
      rw [all_at hV (Q := Q) (L := L1) (Z := R1 ++ [x] ++ Z) (by rw [hq]; simp) h1]; congr 1; rw [S96.mk.injEq]; exact ⟨by omega, rfl, rfl⟩
    have hs2 : A[Q.length + L1.length + R1.length - 1]? = some ⟨((Q.length + L1.length + R1.length - 1 : Nat) : Int), R1.length, e1⟩ := by
      have := all_at hV (Q := Q ++ L1) (L := R1) (Z := [x] ++ Z) (by rw [hq]; simp) h2'
      rw [List.length_append] at this
      rw [this]; congr 1; rw [S96.mk.injEq]; exact ⟨by omega, rfl, rfl⟩
    obtain ⟨B1, hB1⟩ := sub_ok h1 (by omega)
    obtain ⟨B2, hB2⟩ := sub_ok h2' (by rw [List.length_append]; omega)
    rw [List.length_append] at hB2
    have hde : d1 ≤ d := hV.deep _ (List.mem_of_getElem? hs)
    have hde2 : e1 ≤ d := hV.deep _ (List.mem_of_getElem? hs2)
    have hp1 : chk (L1.map (shift (-(Q.length : Int)))) = 0 := chk_zero hB1 (by simp; omega) (by omega)
    have hp2 : chk (R1.map (shift (-((Q.length + L1.length : Nat) : Int)))) = 0 := chk_zero hB2 (by simp; omega) (by omega)
    have hsx : shift (-(Q.length : Int)) x = ⟨x.f0, x.f1, (L1.length : Int) - 1, (L1.length : Int) + R1.length - 1, x.f4⟩ := by
      unfold shift; simp only [h3]; exact S36.ext_ rfl rfl (by simp only; rw [w64 (by omega)]; omega) (by simp only; rw [w64 (by omega)]; omega) rfl
    rw [tailwaterlaw04_NodesMade.j1, if_neg (by simp), if_pos (by omega), hf, part_is hV hl hd (by omega) (Q := Q) (L := L1) (Z := R1 ++ [x] ++ Z) (by rw [hq]; simp) (by omega) hs, Option.bind_some]
    simp only
    rw [if_pos trivial, if_pos (by simp), tailwaterlaw04_NodesMade.j2, if_pos (by omega), hf3, part_is hV hl hd (by omega) (Q := Q ++ L1) (L := R1) (Z := [x] ++ Z) (by rw [hq]; simp) (by rw [List.length_append]; omega) hs2, Option.bind_some]
    simp only
    rw [if_pos trivial, if_pos (by simp), List.length_append, node_head (k := k + 3) (c := 2) h3 (by simp) h4.1 h4.2.1 ⟨h4.2.2.1, h4.2.2.2.1⟩]
    simp only [List.nil_append, List.cons_append]
    have z1 := hB1.ex.shift0 (by omega) (by simp; omega)
    have s0 : ((L1.map (shift (-(Q.length : Int)))).map (shift ((([] : List S36).length : Nat) : Int))) = L1.map (shift (-(Q.length : Int))) := by
      rw [show ((([] : List S36).length : Nat) : Int) = 0 from rfl]; exact z1
    have s1 : ((R1.map (shift (-((Q.length + L1.length : Nat) : Int)))).map (shift ((L1.map (shift (-(Q.length : Int)))).length : Int))) = R1.map (shift (-(Q.length : Int))) := by
      rw [List.length_map, h2'.shift2 (by omega) (by rw [List.length_append]; omega) (by omega) (by omega), show (-((Q.length + L1.length : Nat) : Int)) + (L1.length : Int) = -(Q.length : Int) by omega]
    have n1 := node_part (k := k + 3) (by omega) (D := []) (parts := [L1.map (shift (-(Q.length : Int))), R1.map (shift (-((Q.length + L1.length : Nat) : Int)))]) (i := 0) (p := L1.map (shift (-(Q.length : Int)))) (x0 := x.f0) (x1 := x.f1) (x2 := 0) (x3 := 0) (x4 := x.f4) rfl (by simp; omega) (by simp) hp1 (by simp)
    rw [if_pos rfl, s0] at n1
    have n2 := node_part (k := k + 2) (by omega) (D := L1.map (shift (-(Q.length : Int)))) (parts := [L1.map (shift (-(Q.length : Int))), R1.map (shift (-((Q.length + L1.length : Nat) : Int)))]) (i := 1) (p := R1.map (shift (-((Q.length + L1.length : Nat) : Int)))) (x0 := x.f0) (x1 := x.f1) (x2 := (L1.length : Int) - 1) (x3 := 0) (x4 := x.f4) rfl (by simp; omega) (by simp; omega) hp2 (by simp)
    rw [if_neg (by omega), s1] at n2
    have hm : (L1 ++ R1 ++ [x]).map (shift (-(Q.length : Int))) = (L1.map (shift (-(Q.length : Int))) ++ R1.map (shift (-(Q.length : Int)))) ++ [⟨x.f0, x.f1, (L1.length : Int) - 1, (L1.length : Int) + R1.length - 1, x.f4⟩] := by
      rw [List.map_append, List.map_append, List.map_cons, List.map_nil, hsx]
    rw [hm] at hown
    have n3 := node_tail (k := k + 1) (by omega) (D := L1.map (shift (-(Q.length : Int))) ++ R1.map (shift (-(Q.length : Int)))) (parts := [L1.map (shift (-(Q.length : Int))), R1.map (shift (-((Q.length + L1.length : Nat) : Int)))]) (x0 := x.f0) (x1 := x.f1) (x2 := (L1.length : Int) - 1) (x3 := (L1.length : Int) + R1.length - 1) (x4 := x.f4) (by simp; omega) hown
    have n4 : nodes_Node.l0 (k + 3 + 1) [] [L1.map (shift (-(Q.length : Int))), R1.map (shift (-((Q.length + L1.length : Nat) : Int)))] (([L1.map (shift (-(Q.length : Int))), R1.map (shift (-((Q.length + L1.length : Nat) : Int)))] : List (List S36)).length : Int) 0 x.f0 x.f1 0 0 x.f4 = some ((L1.map (shift (-(Q.length : Int))) ++ R1.map (shift (-(Q.length : Int)))) ++ [⟨x.f0, x.f1, (L1.length : Int) - 1, (L1.length : Int) + R1.length - 1, x.f4⟩], 0) := by
      rw [← n3]
      refine Eq.trans n1 ?_
      rw [show ((([] : List S36).length : Nat) : Int) + ((L1.map (shift (-(Q.length : Int)))).length : Int) - 1 = (L1.length : Int) - 1 by simp]
      refine Eq.trans n2 ?_
      rw [show ((L1.map (shift (-(Q.length : Int)))).length : Int) + ((R1.map (shift (-((Q.length + L1.length : Nat) : Int)))).length : Int) - 1 = (L1.length : Int) + R1.length - 1 by simp]
      rfl
    rw [n4, Option.bind_some]
    simp only
    rw [if_pos trivial]
    exact fin (k + 5) (by omega) _ hm.symm

/-- The law. -/
theorem NodesMade (l : List S36) (a : Int) (_ : ∀ x ∈ l, OpensN.W36 x) (_ : (Lit.int .i64 a).wf = true) : ∃ k, tailwaterlaw04_NodesMade.f k l a = some true := ⟨408, NodesMade_ok (Nat.le_refl _) l a⟩

end Go.Proofs.Ytpkamfjkmbakhaa.N.Pure
