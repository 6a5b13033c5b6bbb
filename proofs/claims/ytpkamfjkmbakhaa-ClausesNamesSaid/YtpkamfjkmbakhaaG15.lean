-- Written by a program of this place (wip/prt.py), out of Lean's own print of the program: Lean checks it.
import Derived.Test.YtpkamfjkmbakhaaG0
import Derived.Test.YtpkamfjkmbakhaaG14
import Derived.Test.YtpkamfjkmbakhaaGU
namespace Go.Proofs.Ytpkamfjkmbakhaa.G
open Go.RowKit Go.Proofs.YtpkamfjkmbakhaaW.PrintWords Go.Proofs.YtpkamfjkmbakhaaW.PrintLast Go.Proofs.YtpkamfjkmbakhaaW.PrintMore
attribute [local go_sem] max2_int min2_int max_two min_two max_three min_three max_four min_four   -- for this text's walks alone
set_option linter.unusedVariables false
set_option linter.unusedSimpArgs false

/-! ### nodes_tops: function 69 -/
/-- pop: what is left of a stack, and what is taken from its end -/
def nodes_pop.f (l : List S96) (n : Int) : Option (List S96 × List S96) :=
 if 0 ≤ n then (if n ≤ (l.length : Int) then some (l.take (l.length - n.toNat), l.drop (l.length - n.toNat)) else none) else none
set_option maxHeartbeats 1000000 in
theorem nodes_pop.nil (W : World) : Calls Try.prog 71 #[.slice none 0 0, .int .i64 0] W fun e w' => e = .returned (.tuple #[.slice none 0 0, .slice none 0 0]) ∧ Drawn0 W w' := by
 go_enter Try.func71, Try.ntmps71
 go_wp2
 repeat (go_quiet (fail); try go_wp2)
 go_ret2
 exact ⟨rfl, by repeat (first | exact Drawn0.refl _ | apply Drawn0.step)⟩
/-- what is told behind pop of a slice that lies somewhere -/
def PopPost (W : World) (g L cap n : Nat) (e : Ending) (w' : World) : Prop :=
 ∃ cp, e = .returned (.tuple #[.slice (Option.some ⟨g, 0, none⟩) (L - n) cap, .slice (if cap = L - n then Option.some ⟨g, 0, none⟩ else (Option.some (⟨g, 0, none⟩ : Addr)).map (·.add ((L - n) * 3))) (L - (L - n)) cp]) ∧ Drawn0 W w'
set_option maxHeartbeats 1000000 in
theorem nodes_pop.some (W : World) (g L cap n : Nat) (h1 : n ≤ L) (h2 : L ≤ cap) (h3 : cap ≤ 9223372036854775807) :
  Calls Try.prog 71 #[.slice (Option.some ⟨g, 0, none⟩) L cap, .int .i64 n] W (PopPost W g L cap n) := by
 have b1 : (n : Int) ≤ L := by omega
 have b2 : (L : Int) ≤ cap := by omega
 have b3 : (cap : Int) ≤ 9223372036854775807 := by omega
 go_enter Try.func71, Try.ntmps71
 go_wp2
 go_quiet (fail)
 go_wp2
 ·
  go_ret2
  refine ⟨0, ?_, by repeat (first | exact Drawn0.refl _ | apply Drawn0.step)⟩
  rw [if_pos (by omega)]
  subst_vars
  rfl
 ·
  go_ret2
  refine ⟨cap - (L - n), ?_, by repeat (first | exact Drawn0.refl _ | apply Drawn0.step)⟩
  rw [if_neg (by omega)]
  by_cases z : L - n = 0
  ·
   simp [Addr.add, z]
  ·
   have z3 : ¬ (L - n) * 3 = 0 := by omega
   simp [Addr.add, z3]
theorem pop_own (A : Option Addr) (n m c c' : Nat) : (Value.slice A n c).ownBlock = (Value.slice A m c').ownBlock := by cases A <;> rfl
/-- what is told of what pop hands over, in whatever world -/
structure Popped (A : Option Addr) (c : Nat) (l r1 r2 : List S96) (v : Value) (Ap : Option Addr) : Prop where
 own : v.ownBlock = (Value.slice A l.length c).ownBlock
 row : ∀ (W : World) (base : Nat) (ok : Nat → Prop), Kd.R k96 96 W base ok (.slice A l.length c) l → Kd.R k96 96 W base ok v r1
 read : ∀ W : World, Kd.C k96 W A l.length l → Kd.C k96 W Ap r2.length r2
theorem nodes_pop.calls {W0 : World} {base : Nat} {ok : Nat → Prop} (A : Option Addr) (c : Nat) (l : List S96) (n : Int) (r1 r2 : List S96) (w : World) (hR : Kd.R k96 96 W0 base ok (.slice A l.length c) l) (h : nodes_pop.f l n = Option.some (r1, r2)) :
  Calls Try.prog 71 #[.slice A l.length c, .int .i64 n] w fun e w' => ∃ v Ap cp, e = .returned (.tuple #[v, .slice Ap r2.length cp]) ∧ Popped A c l r1 r2 v Ap ∧ Drawn0 w w' := by
 unfold nodes_pop.f at h
 by_cases h0 : 0 ≤ n
 ·
  rw [if_pos h0] at h
  by_cases h1 : n ≤ (l.length : Int)
  ·
   rw [if_pos h1] at h
   simp only [Option.some.injEq, Prod.mk.injEq] at h
   obtain ⟨rfl, rfl⟩ := h
   obtain ⟨m, rfl⟩ : ∃ m : Nat, n = m := ⟨n.toNat, by omega⟩
   simp only [Int.toNat_natCast] at *
   have hm : m ≤ l.length := by omega
   have hRR : ∀ (W : World) (base : Nat) (ok : Nat → Prop), Kd.R k96 96 W base ok (.slice A l.length c) l → Kd.R k96 96 W base ok (.slice A (l.length - m) c) (l.take (l.length - m)) := fun W base ok h => Kd.R_take h (by omega)
   obtain ⟨_, inner, ⟨_, ho⟩, _⟩ := hR
   rcases ho with ⟨ev, hn⟩ | ⟨g, cap, cur, ev, _, _, hlc, hcm, _⟩
   ·
    have hl0 : l = [] := List.length_eq_zero_iff.mp (by omega)
    subst hl0
    cases ev
    obtain rfl : m = 0 := by simpa using hm
    refine (nodes_pop.nil w).mono ?_
    rintro e w' ⟨rfl, hd⟩
    exact ⟨_, none, 0, rfl, ⟨rfl, hRR, fun W hC => hC⟩, hd⟩
   ·
    cases ev
    refine (nodes_pop.some w g l.length c m hm hlc (by unfold maxLen at hcm; exact hcm)).mono ?_
    rintro e w' ⟨cp, rfl, hd⟩
    refine ⟨_, _, cp, by rw [List.length_drop], ⟨pop_own _ _ _ _ _, hRR, fun W hC => ?_⟩, hd⟩
    exact Kd.C_drop hC (by omega) hlc
  ·
   rw [if_neg h1] at h
   exact absurd h (by simp)
 ·
  rw [if_neg h0] at h
  exact absurd h (by simp)
section
theorem info96x : (Try.prog.info? 96).map (fun i => (i.zero, i.size, i.bytes)) = some (some (.agg #[(.int .i64 0), (.int .i64 0), (.int .i64 0)]), 3, 24) := by kernel_rfl
theorem eqA36t (d : Nat) (w : World) (x0 y0 : Int) (x1 y1 : Int) (x2 y2 : Int) (x3 y3 : Int) (x4 y4 : Int) :
  (Op.equalIn (d + 2) 36 (.agg #[.int .u8 x0, .int .i64 x1, .int .i64 x2, .int .i64 x3, .int .i64 x4]) (.agg #[.int .u8 y0, .int .i64 y1, .int .i64 y2, .int .i64 y3, .int .i64 y4])).run Try.prog w = .ok (x0 == y0 && (x1 == y1 && (x2 == y2 && (x3 == y3 && (x4 == y4))))) w := by
 refine eqA_of Try.underlying36 (by kernel_rfl) ?_
 refine eqf_cons (by rfl) (by go_simp; rfl) (by go_simp; rfl) (by go_simp) ?_
 refine eqf_cons (by rfl) (by go_simp; rfl) (by go_simp; rfl) (by go_simp) ?_
 refine eqf_cons (by rfl) (by go_simp; rfl) (by go_simp; rfl) (by go_simp) ?_
 refine eqf_cons (by rfl) (by go_simp; rfl) (by go_simp; rfl) (by go_simp) ?_
 exact eqf_last (by rfl) (by go_simp; rfl) (by go_simp; rfl) (by go_simp)
attribute [local go_sem high] eqA36t
theorem nilown (k : Nat) : some k ≠ (.slice none 0 0 : Value).ownBlock := by simp [Value.ownBlock]
mutual
def nodes_tops.l0 : Nat → List (S96) → List (S96) → List (S36) → Int → Int → Option ((List (S96)) × Bool)
 | 0, _, _, _, _, _ => none
 | k + 1, x4, x5, x15, x16, x17 => if x17 < x16 then (if 0 ≤ x17 then (if x17 < (x15.length : Int) then ((nodes_Parts.f k ((rd_T36 x15 x17).f0)).bind fun bt103 => (if bt103.2 = 0 then (nodes_tops.j1 k x4 x5 x17 bt103.1 x15 x16 x17 (decide (bt103.1 > (x5.length : Int))) ((rd_T36 x15 x17).f0) ((rd_T36 x15 x17).f1) ((rd_T36 x15 x17).f2) ((rd_T36 x15 x17).f3) ((rd_T36 x15 x17).f4)) else (nodes_tops.j1 k x4 x5 x17 bt103.1 x15 x16 x17 true ((rd_T36 x15 x17).f0) ((rd_T36 x15 x17).f1) ((rd_T36 x15 x17).f2) ((rd_T36 x15 x17).f3) ((rd_T36 x15 x17).f4)))) else (none)) else (none)) else (some (x4, ((x5.length : Int) == 1)))
def nodes_tops.j1 : Nat → List (S96) → List (S96) → Int → Int → List (S36) → Int → Int → Bool → Int → Int → Int → Int → Int → Option ((List (S96)) × Bool)
 | 0, _, _, _, _, _, _, _, _, _, _, _, _, _ => none
 | k + 1, x4, x5, x6, x8, x15, x16, x17, x35, x103000, x103001, x103002, x103003, x103004 => if x35 = true then (some (x4, false)) else ((nodes_pop.f x5 x8).bind fun bt105 => (nodes_tops.l1 k x4 bt105.1 x15 x16 x17 bt105.2 (bt105.2.length : Int) 0 x103000 x103001 x103002 x103003 x103004 x103000 0 0 0 (mn (mx x103004 0) 400) x6 1 1))
def nodes_tops.l1 : Nat → List (S96) → List (S96) → List (S36) → Int → Int → List (S96) → Int → Int → Int → Int → Int → Int → Int → Int → Int → Int → Int → Int → Int → Int → Int → Option ((List (S96)) × Bool)
 | 0, _, _, _, _, _, _, _, _, _, _, _, _, _, _, _, _, _, _, _, _, _ => none
 | k + 1, x4, x5, x15, x16, x17, x52, x53, x54, x103000, x103001, x103002, x103003, x103004, x112000, x112001, x112002, x112003, x112004, x113000, x113001, x113002 => if x54 < x53 then (if 0 ≤ x54 then (if x54 < (x52.length : Int) then (if x54 = 0 then (nodes_tops.l1 k x4 x5 x15 x16 x17 x52 x53 (wrap64 (x54 + 1)) x103000 x103001 x103002 x103003 x103004 x112000 x112001 ((rd_T96 x52 x54).f0) x112003 x112004 x113000 (wrap64 (x113001 + ((rd_T96 x52 x54).f1))) (mx x113002 (wrap64 (((rd_T96 x52 x54).f2) + 1)))) else (nodes_tops.l1 k x4 x5 x15 x16 x17 x52 x53 (wrap64 (x54 + 1)) x103000 x103001 x103002 x103003 x103004 x112000 x112001 x112002 ((rd_T96 x52 x54).f0) x112004 x113000 (wrap64 (x113001 + ((rd_T96 x52 x54).f1))) (mx x113002 (wrap64 (((rd_T96 x52 x54).f2) + 1))))) else (none)) else (none)) else (if x103000 = 1 then (if (!(x112000 == x103000) || (!((mx x103001 0) == x103001) || (!(x112002 == x103002) || (!(x112003 == x103003) || (!(x112004 == x103004)))))) = true then (some (x4, false)) else (if x5.length < 5864062014805 then (if x4.length < 5864062014805 then (nodes_tops.l0 k (x4 ++ [(⟨x113000, x113001, x113002⟩ : S96)]) (x5 ++ [(⟨x113000, x113001, x113002⟩ : S96)]) x15 x16 (wrap64 (x17 + 1))) else (none)) else (none))) else (if (!(x112000 == x103000) || (!(x112001 == x103001) || (!(x112002 == x103002) || (!(x112003 == x103003) || (!(x112004 == x103004)))))) = true then (some (x4, false)) else (if x5.length < 5864062014805 then (if x4.length < 5864062014805 then (nodes_tops.l0 k (x4 ++ [(⟨x113000, x113001, x113002⟩ : S96)]) (x5 ++ [(⟨x113000, x113001, x113002⟩ : S96)]) x15 x16 (wrap64 (x17 + 1))) else (none)) else (none))))
end
def nodes_tops.f (k : Nat) (l0 : List (S36)) : Option ((List (S96)) × Bool) := nodes_tops.l0 k ([] : List (S96)) ([] : List (S96)) l0 (l0.length : Int) 0
theorem nodes_tops.mono_l : ∀ k, (∀ y0 y1 y2 y3 y4, LeO (nodes_tops.l0 k y0 y1 y2 y3 y4) (nodes_tops.l0 (k + 1) y0 y1 y2 y3 y4)) ∧ (∀ y0 y1 y2 y3 y4 y5 y6 y7 y8 y9 y10 y11 y12, LeO (nodes_tops.j1 k y0 y1 y2 y3 y4 y5 y6 y7 y8 y9 y10 y11 y12) (nodes_tops.j1 (k + 1) y0 y1 y2 y3 y4 y5 y6 y7 y8 y9 y10 y11 y12)) ∧ (∀ y0 y1 y2 y3 y4 y5 y6 y7 y8 y9 y10 y11 y12 y13 y14 y15 y16 y17 y18 y19 y20, LeO (nodes_tops.l1 k y0 y1 y2 y3 y4 y5 y6 y7 y8 y9 y10 y11 y12 y13 y14 y15 y16 y17 y18 y19 y20) (nodes_tops.l1 (k + 1) y0 y1 y2 y3 y4 y5 y6 y7 y8 y9 y10 y11 y12 y13 y14 y15 y16 y17 y18 y19 y20))
 | 0 => ⟨fun _ _ _ _ _ r h => by simp [nodes_tops.l0] at h, fun _ _ _ _ _ _ _ _ _ _ _ _ _ r h => by simp [nodes_tops.j1] at h, fun _ _ _ _ _ _ _ _ _ _ _ _ _ _ _ _ _ _ _ _ _ r h => by simp [nodes_tops.l1] at h⟩
 | k + 1 => by
  obtain ⟨ih0, ih1, ih2⟩ := nodes_tops.mono_l k
  refine ⟨?_, ?_, ?_⟩
  ·
   intro y0 y1 y2 y3 y4
   unfold nodes_tops.l0
   repeat' first
   | (with_reducible exact ih0 _ _ _ _ _)
   | (with_reducible exact ih1 _ _ _ _ _ _ _ _ _ _ _ _ _)
   | (with_reducible exact ih2 _ _ _ _ _ _ _ _ _ _ _ _ _ _ _ _ _ _ _ _ _)
   | (with_reducible exact nodes_Parts.mono _ _)
   | (with_reducible exact LeO.refl _)
   | (with_reducible exact LeO.none _)
   | (with_reducible refine LeO.ite ?_ ?_)
   | (with_reducible refine LeO.bind ?_ (fun _ => ?_))
   | exact ih0 _ _ _ _ _
   | exact ih1 _ _ _ _ _ _ _ _ _ _ _ _ _
   | exact ih2 _ _ _ _ _ _ _ _ _ _ _ _ _ _ _ _ _ _ _ _ _
   | exact nodes_Parts.mono _ _
   | exact LeO.none _
   | refine LeO.ite ?_ ?_
   | refine LeO.bind ?_ (fun _ => ?_)
  ·
   intro y0 y1 y2 y3 y4 y5 y6 y7 y8 y9 y10 y11 y12
   unfold nodes_tops.j1
   repeat' first
   | (with_reducible exact ih0 _ _ _ _ _)
   | (with_reducible exact ih1 _ _ _ _ _ _ _ _ _ _ _ _ _)
   | (with_reducible exact ih2 _ _ _ _ _ _ _ _ _ _ _ _ _ _ _ _ _ _ _ _ _)
   | (with_reducible exact nodes_Parts.mono _ _)
   | (with_reducible exact LeO.refl _)
   | (with_reducible exact LeO.none _)
   | (with_reducible refine LeO.ite ?_ ?_)
   | (with_reducible refine LeO.bind ?_ (fun _ => ?_))
   | exact ih0 _ _ _ _ _
   | exact ih1 _ _ _ _ _ _ _ _ _ _ _ _ _
   | exact ih2 _ _ _ _ _ _ _ _ _ _ _ _ _ _ _ _ _ _ _ _ _
   | exact nodes_Parts.mono _ _
   | exact LeO.none _
   | refine LeO.ite ?_ ?_
   | refine LeO.bind ?_ (fun _ => ?_)
  ·
   intro y0 y1 y2 y3 y4 y5 y6 y7 y8 y9 y10 y11 y12 y13 y14 y15 y16 y17 y18 y19 y20
   unfold nodes_tops.l1
   repeat' first
   | (with_reducible exact ih0 _ _ _ _ _)
   | (with_reducible exact ih1 _ _ _ _ _ _ _ _ _ _ _ _ _)
   | (with_reducible exact ih2 _ _ _ _ _ _ _ _ _ _ _ _ _ _ _ _ _ _ _ _ _)
   | (with_reducible exact nodes_Parts.mono _ _)
   | (with_reducible exact LeO.refl _)
   | (with_reducible exact LeO.none _)
   | (with_reducible refine LeO.ite ?_ ?_)
   | (with_reducible refine LeO.bind ?_ (fun _ => ?_))
   | exact ih0 _ _ _ _ _
   | exact ih1 _ _ _ _ _ _ _ _ _ _ _ _ _
   | exact ih2 _ _ _ _ _ _ _ _ _ _ _ _ _ _ _ _ _ _ _ _ _
   | exact nodes_Parts.mono _ _
   | exact LeO.none _
   | refine LeO.ite ?_ ?_
   | refine LeO.bind ?_ (fun _ => ?_)
theorem nodes_tops.mono : ∀ a0 k, LeO (nodes_tops.f k a0) (nodes_tops.f (k + 1) a0) := by
 intro a0 k
 obtain ⟨ih0, ih1, ih2⟩ := nodes_tops.mono_l k
 unfold nodes_tops.f
 repeat' first
   | (with_reducible exact ih0 _ _ _ _ _)
   | (with_reducible exact ih1 _ _ _ _ _ _ _ _ _ _ _ _ _)
   | (with_reducible exact ih2 _ _ _ _ _ _ _ _ _ _ _ _ _ _ _ _ _ _ _ _ _)
   | (with_reducible exact nodes_Parts.mono _ _)
   | (with_reducible exact LeO.refl _)
   | (with_reducible exact LeO.none _)
   | (with_reducible refine LeO.ite ?_ ?_)
   | (with_reducible refine LeO.bind ?_ (fun _ => ?_))
   | exact ih0 _ _ _ _ _
   | exact ih1 _ _ _ _ _ _ _ _ _ _ _ _ _
   | exact ih2 _ _ _ _ _ _ _ _ _ _ _ _ _ _ _ _ _ _ _ _ _
   | exact nodes_Parts.mono _ _
   | exact LeO.none _
   | refine LeO.ite ?_ ?_
   | refine LeO.bind ?_ (fun _ => ?_)
set_option maxHeartbeats 8000000 in
set_option maxRecDepth 100000 in
theorem nodes_tops.calls (k : Nat) (A0 : Option Addr) (c0 : Nat) (l0 : List (S36)) (r1 : List (S96)) (r2 : Bool) (w : World) (hr0 : Kd.C k36 w A0 l0.length l0) (hc0 : l0.length ≤ c0) (h : nodes_tops.f k l0 = some (r1, r2)) :
  Calls Try.prog 69 #[.slice A0 l0.length c0] w fun e w' => ∃ v0_ : Value, e = .returned (.tuple #[v0_, .bool r2]) ∧ Kd.R k96 96 w' w.heap.size (fun _ => True) v0_ r1 ∧ Below w.heap.size w w' := by
 have hu36 := Try.underlying36
 have hu96 := Try.underlying96
 have HR0 := zM hr0
 have HC0 := zM hc0
 clear hr0 hc0
 have HB := zM (Below.refl w.heap.size w)
 have H : (nodes_tops.l0 k ([] : List (S96)) ([] : List (S96)) l0 (l0.length : Int) 0) = some (r1, r2) := h
 clear h
 have H' := zM H
 clear H
 go_enter Try.func69, Try.ntmps69
 go_wp2
 go_loopg [4, 5, 17] k (fun kq v4 v5 v17 w' => ∃ (x4_1 : List (S96)) (x5_1 : List (S96)) (x17_1 : Int), v17 = .int .i64 x17_1 ∧ Aside0 (nodes_tops.l0 kq x4_1 x5_1 l0 (l0.length : Int) x17_1 = some (r1, r2)) ∧ Aside0 (kq ≤ k) ∧ Aside0 (Kd.R k96 96 w' w.heap.size (fun k_ => some k_ ≠ (v5 : Value).ownBlock) v4 x4_1) ∧ Aside0 (Kd.R k96 96 w' w.heap.size (fun k_ => some k_ ≠ (v4 : Value).ownBlock) v5 x5_1) ∧ Aside0 (Below w.heap.size w w'))
 case atStart => exact ⟨(([] : List (S96))), (([] : List (S96))), (0), (by first | rfl | (simp; done) | (simp [*]; done)), H', ⟨Nat.le_refl _⟩, ⟨by first | exact Kd.R_nil _ _ _ _ _ | exact Kd.N_nil _ _ _ _ _ | exact Kd.V_nil _ _ _ _ _ | exact Kd.Q_nil _ _ _ _ _ | exact Kd.S_nil _ _ _ _ _⟩, ⟨by first | exact Kd.R_nil _ _ _ _ _ | exact Kd.N_nil _ _ _ _ _ | exact Kd.V_nil _ _ _ _ _ | exact Kd.Q_nil _ _ _ _ _ | exact Kd.S_nil _ _ _ _ _⟩, ⟨by repeat (first | (with_reducible first | exact HB.out | apply zC | apply zP | apply zO) | exact HB.out)⟩⟩
 case round =>
  clear H'
  obtain ⟨x4_1, x5_1, x17_1, rfl, HA, HK1, HO_4, HO_5, HB⟩ := hrel
  cases gk with
  | zero => exact absurd HA.out (by simp [nodes_tops.l0])
  | succ k1 =>
   have H := HA.out
   clear HA
   simp only [nodes_tops.l0] at H
   by_cases c2 : x17_1 < (l0.length : Int)
   ·
    rw [if_pos c2] at H
    have c2b0 : decide (x17_1 < (l0.length : Int)) = true := decide_eq_true c2
    clear c2
    by_cases c3 : 0 ≤ x17_1
    ·
     rw [if_pos c3] at H
     have c3b0 : decide (0 ≤ x17_1) = true := decide_eq_true c3
     clear c3
     by_cases c4 : x17_1 < (l0.length : Int)
     ·
      rw [if_pos c4] at H
      have c4b0 : decide (x17_1 < (l0.length : Int)) = true := decide_eq_true c4
      clear c4
      replace H := Option.bind_eq_some_iff.mp H
      obtain ⟨⟨t103, t104⟩, A50, H⟩ := H
      replace H : (if t104 = 0 then (nodes_tops.j1 k1 x4_1 x5_1 x17_1 t103 l0 (l0.length : Int) x17_1 (decide (t103 > (x5_1.length : Int))) ((rd_T36 l0 x17_1).f0) ((rd_T36 l0 x17_1).f1) ((rd_T36 l0 x17_1).f2) ((rd_T36 l0 x17_1).f3) ((rd_T36 l0 x17_1).f4)) else (nodes_tops.j1 k1 x4_1 x5_1 x17_1 t103 l0 (l0.length : Int) x17_1 true ((rd_T36 l0 x17_1).f0) ((rd_T36 l0 x17_1).f1) ((rd_T36 l0 x17_1).f2) ((rd_T36 l0 x17_1).f3) ((rd_T36 l0 x17_1).f4))) = some (r1, r2) := H
      have A5 := zM A50
      clear A50
      have HC6 := zM H
      clear H
      have p101 : 0 ≤ (x17_1 : Int) := of_decide_eq_true (by first | (with_reducible assumption) | assumption)
      have q101 : x17_1 < (l0.length : Int) := of_decide_eq_true (by first | (with_reducible assumption) | assumption)
      obtain ⟨ad101, e101, hx101_0, hx101_1, hx101_2, hx101_3, hx101_4⟩ := at_T36 HR0.out x17_1 p101 q101
      cases e101
      replace hx101_0 := (HB.out.cell (World.block_lt_of_cell? w _ hx101_0)).trans hx101_0
      replace hx101_1 := (HB.out.cell (World.block_lt_of_cell? w _ hx101_1)).trans hx101_1
      replace hx101_2 := (HB.out.cell (World.block_lt_of_cell? w _ hx101_2)).trans hx101_2
      replace hx101_3 := (HB.out.cell (World.block_lt_of_cell? w _ hx101_3)).trans hx101_3
      replace hx101_4 := (HB.out.cell (World.block_lt_of_cell? w _ hx101_4)).trans hx101_4
      replace p101 := eq_true p101
      replace q101 := eq_true q101
      go_upto_region 6 with (first | ((with_reducible refine gate_dst (N := 7) rfl ?_); (try (refine gate_guard (by rfl) ?_; dsimp only)); refine box_event ?hg (N := 7) ?hd (cs := #[.int .u8 0, .int .i64 0, .int .i64 0, .int .i64 0, .int .i64 0]) (t := 36) ?hr ?_; (case hd => rfl); (case hg => rfl); (case hr => first | (go_simp; done) | (go_simp; rfl)); intro gb102 hg w7 hbox hb; have n0_ := zM (zRB (by (with_reducible repeat (first | apply zA | apply zN | apply zD)); exact HO_4.out) hb); have n1_ := zM (zRB (by (with_reducible repeat (first | apply zA | apply zN | apply zD)); exact HO_5.out) hb); have n2_ := zM (zT (by repeat (first | (with_reducible first | exact HB.out | apply zC | apply zP | apply zO) | exact HB.out)) hb); have n3_ := zM (hbox); have n4_ := zM ((by rw [hg]; exact (zZ (by repeat (first | (with_reducible first | exact HB.out | apply zC | apply zP | apply zO) | exact HB.out))) : w.heap.size ≤ gb102)); have n5_ := zM ((by rw [hg]; exact (zZ (by repeat (first | (with_reducible first | exact HB.out | apply zC | apply zP | apply zO) | exact HB.out))) : w.heap.size ≤ gb102)); clear HO_4; clear HO_5; clear HB; have HO_4 := n0_; have HO_5 := n1_; have HB := n2_; have BK102 := n3_; have GW102 := n4_; have GE102 := n5_; clear n0_ n1_ n2_ n3_ n4_ n5_; clear hb hbox hg; refine node_cells_ BK102.out fun hcz8_0 hcz8_1 hcz8_2 hcz8_3 hcz8_4 hfz8_0 hfz8_1 hfz8_2 hfz8_3 hfz8_4 => ?_) | ((with_reducible refine gate_callee (f := 37) rfl ?_); refine goesL_ (some 25) rfl rfl Try.func37 (by kernel_rfl) rfl #[.int .u8 ((rd_T36 l0 x17_1).f0)] rfl (by (try simp only [List.map_toArray, List.map_cons, List.map_nil]); first | done | rfl | (simp only [List.length_drop, List.length_take]; rfl)) ?_; (with_reducible refine (nodes_Parts.calls k1 ((rd_T36 l0 x17_1).f0) t103 t104 _ A5.out).mono ?_); rintro e w' ⟨rfl, ⟨nd, rfl⟩⟩; refine ⟨_, rfl, ?_⟩))
      (try simp only [Act.put, List.setIfInBounds_toArray, List.set_cons_zero, List.set_cons_succ])
      go_cut [35] (fun v35 wc => ∃ (kq : Nat) (x35_5 : Bool), v35 = .bool x35_5 ∧ Aside0 (nodes_tops.j1 kq x4_1 x5_1 x17_1 t103 l0 (l0.length : Int) x17_1 x35_5 ((rd_T36 l0 x17_1).f0) ((rd_T36 l0 x17_1).f1) ((rd_T36 l0 x17_1).f2) ((rd_T36 l0 x17_1).f3) ((rd_T36 l0 x17_1).f4) = some (r1, r2)) ∧ Aside0 (kq ≤ k1) ∧ Aside0 (Kd.R k96 96 wc w.heap.size (fun k_ => some k_ ≠ (u5 : Value).ownBlock) u4 x4_1) ∧ Aside0 (Kd.R k96 96 wc w.heap.size (fun k_ => some k_ ≠ (u4 : Value).ownBlock) u5 x5_1) ∧ Aside0 (wc.heap[gb102]? = some (.cells #[.int .u8 ((rd_T36 l0 x17_1).f0), .int .i64 ((rd_T36 l0 x17_1).f1), .int .i64 ((rd_T36 l0 x17_1).f2), .int .i64 ((rd_T36 l0 x17_1).f3), .int .i64 ((rd_T36 l0 x17_1).f4)] 36 (0, 0))) ∧ Aside0 (Below w.heap.size w wc))
      case first =>
       have H := HC6.out
       clear HC6
       by_cases c9 : t104 = 0
       ·
        rw [if_pos c9] at H
        have c9b0 : (t104 == 0) = true := beq_iff_eq.mpr c9
        have c9b1 : (t104 != 0) = false := bne_eq_false_iff_eq.mpr c9
        clear c9
        (first | rw [c9b0] | (simp only [i64_w, i32_w]; rw [c9b0]) | rw [c9b1] | skip)
        have H' := zM H
        clear H
        obtain ⟨Ao10, co10, eo10⟩ := Kd.R_slice HO_5.out
        subst eo10
        go_wp2
        go_meet
        case rel => exact ⟨_, (decide (t103 > (x5_1.length : Int))), (by first | rfl | (simp; done) | (simp [*]; done)), H', ⟨by have := HK1.out; first | omega | exact Nat.le_refl _⟩, ⟨by (with_reducible repeat (first | apply zA | apply zN | apply zD)); exact Kd.R_mono (Kd.R_far (p := ⟨gb102, 4, none⟩) (Kd.R_far (p := ⟨gb102, 3, none⟩) (Kd.R_far (p := ⟨gb102, 2, none⟩) (Kd.R_far (p := ⟨gb102, 1, none⟩) (Kd.R_far (p := ⟨gb102, 0, none⟩) (Kd.R_types HO_4.out BK102.out (by decide)) (fun _ hk => hk.2) (.int .u8 ((rd_T36 l0 x17_1).f0))) (fun _ hk => hk.2) (.int .i64 ((rd_T36 l0 x17_1).f1))) (fun _ hk => hk.2) (.int .i64 ((rd_T36 l0 x17_1).f2))) (fun _ hk => hk.2) (.int .i64 ((rd_T36 l0 x17_1).f3))) (fun _ hk => hk.2) (.int .i64 ((rd_T36 l0 x17_1).f4))) (fun _ hk => hk.1)⟩, ⟨by (with_reducible repeat (first | apply zA | apply zN | apply zD)); exact Kd.R_mono (Kd.R_far (p := ⟨gb102, 4, none⟩) (Kd.R_far (p := ⟨gb102, 3, none⟩) (Kd.R_far (p := ⟨gb102, 2, none⟩) (Kd.R_far (p := ⟨gb102, 1, none⟩) (Kd.R_far (p := ⟨gb102, 0, none⟩) (Kd.R_types HO_5.out BK102.out (by decide)) (fun _ hk => hk.2) (.int .u8 ((rd_T36 l0 x17_1).f0))) (fun _ hk => hk.2) (.int .i64 ((rd_T36 l0 x17_1).f1))) (fun _ hk => hk.2) (.int .i64 ((rd_T36 l0 x17_1).f2))) (fun _ hk => hk.2) (.int .i64 ((rd_T36 l0 x17_1).f3))) (fun _ hk => hk.2) (.int .i64 ((rd_T36 l0 x17_1).f4))) (fun _ hk => hk.1)⟩, ⟨by (with_reducible repeat (first | refine zbN ?_ _ | refine zbD ?_ | refine zbA ?_ _)); refine blk_put (cs := #[.int .u8 ((rd_T36 l0 x17_1).f0), .int .i64 ((rd_T36 l0 x17_1).f1), .int .i64 ((rd_T36 l0 x17_1).f2), .int .i64 ((rd_T36 l0 x17_1).f3), .int .i64 0]) ?_ 4 _ rfl; (with_reducible repeat (first | refine zbN ?_ _ | refine zbD ?_ | refine zbA ?_ _)); refine blk_put (cs := #[.int .u8 ((rd_T36 l0 x17_1).f0), .int .i64 ((rd_T36 l0 x17_1).f1), .int .i64 ((rd_T36 l0 x17_1).f2), .int .i64 0, .int .i64 0]) ?_ 3 _ rfl; (with_reducible repeat (first | refine zbN ?_ _ | refine zbD ?_ | refine zbA ?_ _)); refine blk_put (cs := #[.int .u8 ((rd_T36 l0 x17_1).f0), .int .i64 ((rd_T36 l0 x17_1).f1), .int .i64 0, .int .i64 0, .int .i64 0]) ?_ 2 _ rfl; (with_reducible repeat (first | refine zbN ?_ _ | refine zbD ?_ | refine zbA ?_ _)); refine blk_put (cs := #[.int .u8 ((rd_T36 l0 x17_1).f0), .int .i64 0, .int .i64 0, .int .i64 0, .int .i64 0]) ?_ 1 _ rfl; (with_reducible repeat (first | refine zbN ?_ _ | refine zbD ?_ | refine zbA ?_ _)); refine blk_put (cs := #[.int .u8 0, .int .i64 0, .int .i64 0, .int .i64 0, .int .i64 0]) ?_ 0 _ rfl; (with_reducible repeat (first | refine zbN ?_ _ | refine zbD ?_ | refine zbA ?_ _)); exact BK102.out⟩, ⟨by repeat (first | (with_reducible first | exact HB.out | apply zC | apply zP | apply zO | refine zS ?_ GE102.out) | exact HB.out)⟩⟩
       ·
        rw [if_neg c9] at H
        have c9b0 : (t104 == 0) = false := beq_eq_false_iff_ne.mpr c9
        have c9b1 : (t104 != 0) = true := bne_iff_ne.mpr c9
        (first | rw [c9b0] | (simp only [i64_w, i32_w]; rw [c9b0]) | rw [c9b1] | skip)
        have H' := zM H
        clear H
        go_wp2
        go_meet
        case rel => exact ⟨_, (true), (by first | rfl | (simp; done) | (simp [*]; done)), H', ⟨by have := HK1.out; first | omega | exact Nat.le_refl _⟩, ⟨by (with_reducible repeat (first | apply zA | apply zN | apply zD)); exact Kd.R_mono (Kd.R_far (p := ⟨gb102, 4, none⟩) (Kd.R_far (p := ⟨gb102, 3, none⟩) (Kd.R_far (p := ⟨gb102, 2, none⟩) (Kd.R_far (p := ⟨gb102, 1, none⟩) (Kd.R_far (p := ⟨gb102, 0, none⟩) (Kd.R_types HO_4.out BK102.out (by decide)) (fun _ hk => hk.2) (.int .u8 ((rd_T36 l0 x17_1).f0))) (fun _ hk => hk.2) (.int .i64 ((rd_T36 l0 x17_1).f1))) (fun _ hk => hk.2) (.int .i64 ((rd_T36 l0 x17_1).f2))) (fun _ hk => hk.2) (.int .i64 ((rd_T36 l0 x17_1).f3))) (fun _ hk => hk.2) (.int .i64 ((rd_T36 l0 x17_1).f4))) (fun _ hk => hk.1)⟩, ⟨by (with_reducible repeat (first | apply zA | apply zN | apply zD)); exact Kd.R_mono (Kd.R_far (p := ⟨gb102, 4, none⟩) (Kd.R_far (p := ⟨gb102, 3, none⟩) (Kd.R_far (p := ⟨gb102, 2, none⟩) (Kd.R_far (p := ⟨gb102, 1, none⟩) (Kd.R_far (p := ⟨gb102, 0, none⟩) (Kd.R_types HO_5.out BK102.out (by decide)) (fun _ hk => hk.2) (.int .u8 ((rd_T36 l0 x17_1).f0))) (fun _ hk => hk.2) (.int .i64 ((rd_T36 l0 x17_1).f1))) (fun _ hk => hk.2) (.int .i64 ((rd_T36 l0 x17_1).f2))) (fun _ hk => hk.2) (.int .i64 ((rd_T36 l0 x17_1).f3))) (fun _ hk => hk.2) (.int .i64 ((rd_T36 l0 x17_1).f4))) (fun _ hk => hk.1)⟩, ⟨by (with_reducible repeat (first | refine zbN ?_ _ | refine zbD ?_ | refine zbA ?_ _)); refine blk_put (cs := #[.int .u8 ((rd_T36 l0 x17_1).f0), .int .i64 ((rd_T36 l0 x17_1).f1), .int .i64 ((rd_T36 l0 x17_1).f2), .int .i64 ((rd_T36 l0 x17_1).f3), .int .i64 0]) ?_ 4 _ rfl; (with_reducible repeat (first | refine zbN ?_ _ | refine zbD ?_ | refine zbA ?_ _)); refine blk_put (cs := #[.int .u8 ((rd_T36 l0 x17_1).f0), .int .i64 ((rd_T36 l0 x17_1).f1), .int .i64 ((rd_T36 l0 x17_1).f2), .int .i64 0, .int .i64 0]) ?_ 3 _ rfl; (with_reducible repeat (first | refine zbN ?_ _ | refine zbD ?_ | refine zbA ?_ _)); refine blk_put (cs := #[.int .u8 ((rd_T36 l0 x17_1).f0), .int .i64 ((rd_T36 l0 x17_1).f1), .int .i64 0, .int .i64 0, .int .i64 0]) ?_ 2 _ rfl; (with_reducible repeat (first | refine zbN ?_ _ | refine zbD ?_ | refine zbA ?_ _)); refine blk_put (cs := #[.int .u8 ((rd_T36 l0 x17_1).f0), .int .i64 0, .int .i64 0, .int .i64 0, .int .i64 0]) ?_ 1 _ rfl; (with_reducible repeat (first | refine zbN ?_ _ | refine zbD ?_ | refine zbA ?_ _)); refine blk_put (cs := #[.int .u8 0, .int .i64 0, .int .i64 0, .int .i64 0, .int .i64 0]) ?_ 0 _ rfl; (with_reducible repeat (first | refine zbN ?_ _ | refine zbD ?_ | refine zbA ?_ _)); exact BK102.out⟩, ⟨by repeat (first | (with_reducible first | exact HB.out | apply zC | apply zP | apply zO | refine zS ?_ GE102.out) | exact HB.out)⟩⟩
      case rest =>
       clear HC6
       try clear p1
       try clear q1
       try clear hx1
       try clear c2
       try clear c2b0
       try clear p2
       try clear c3
       try clear c3b0
       try clear c4
       try clear c4b0
       try clear c6
       try clear c9
       try clear c9b0
       try clear c9b1
       try clear p10
       try clear q10
       try clear hx10
       try clear hcz8_0
       try clear hcz8_1
       try clear hcz8_2
       try clear hcz8_3
       try clear hcz8_4
       try clear hfz8_0
       try clear hfz8_1
       try clear hfz8_2
       try clear hfz8_3
       try clear hfz8_4
       try clear hx101_0
       try clear hx101_1
       try clear hx101_2
       try clear hx101_3
       try clear hx101_4
       try clear p101
       try clear q101
       obtain ⟨kq, x35_5, rfl, HA, HJ5, HO_4, HO_5, BK102, HB⟩ := hcut
       cases kq with
       | zero => exact absurd HA.out (by simp [nodes_tops.j1])
       | succ kj5 =>
        have H := HA.out
        clear HA
        simp only [nodes_tops.j1] at H
        by_cases c11 : x35_5 = true
        ·
         subst c11
         have H1 : (some (x4_1, false)) = some (r1, r2) := by rw [if_pos rfl] at H; exact H
         clear H
         have H := H1
         clear H1
         simp only [Option.some.injEq, Prod.mk.injEq] at H
         obtain ⟨rfl, rfl⟩ := H
         go_wp2
         go_ret2
         exact ⟨_, by first | rfl | (simp [errW_none, errW_some] <;> rfl) | (simp [*, errW_none, errW_some] <;> rfl), by (with_reducible repeat (first | apply zA | apply zN | apply zD)); exact Kd.R_mono HO_4.out (fun _ hk => trivial), by repeat (first | (with_reducible first | exact HB.out | apply zC | apply zP | apply zO | refine zS ?_ GE102.out) | exact HB.out)⟩
        ·
         replace c11 := Bool.eq_false_iff.mpr c11
         subst c11
         have H1 : ((nodes_pop.f x5_1 t103).bind fun bt105 => (nodes_tops.l1 kj5 x4_1 bt105.1 l0 (l0.length : Int) x17_1 bt105.2 (bt105.2.length : Int) 0 ((rd_T36 l0 x17_1).f0) ((rd_T36 l0 x17_1).f1) ((rd_T36 l0 x17_1).f2) ((rd_T36 l0 x17_1).f3) ((rd_T36 l0 x17_1).f4) ((rd_T36 l0 x17_1).f0) 0 0 0 (mn (mx ((rd_T36 l0 x17_1).f4) 0) 400) x17_1 1 1)) = some (r1, r2) := by rw [if_neg (show ¬ (false = true) by decide)] at H; exact H
         clear H
         have H := H1
         clear H1
         replace H := Option.bind_eq_some_iff.mp H
         obtain ⟨⟨t105, t106⟩, A120, H⟩ := H
         replace H : (nodes_tops.l1 kj5 x4_1 t105 l0 (l0.length : Int) x17_1 t106 (t106.length : Int) 0 ((rd_T36 l0 x17_1).f0) ((rd_T36 l0 x17_1).f1) ((rd_T36 l0 x17_1).f2) ((rd_T36 l0 x17_1).f3) ((rd_T36 l0 x17_1).f4) ((rd_T36 l0 x17_1).f0) 0 0 0 (mn (mx ((rd_T36 l0 x17_1).f4) 0) 400) x17_1 1 1) = some (r1, r2) := H
         have A12 := zM A120
         clear A120
         obtain ⟨ji13, hji13⟩ : ∃ j_ : Int, (mx ((rd_T36 l0 x17_1).f4) 0) = j_ := ⟨_, rfl⟩
         replace H : (nodes_tops.l1 kj5 x4_1 t105 l0 (l0.length : Int) x17_1 t106 (t106.length : Int) 0 ((rd_T36 l0 x17_1).f0) ((rd_T36 l0 x17_1).f1) ((rd_T36 l0 x17_1).f2) ((rd_T36 l0 x17_1).f3) ((rd_T36 l0 x17_1).f4) ((rd_T36 l0 x17_1).f0) 0 0 0 (mn (ji13) 400) x17_1 1 1) = some (r1, r2) := by first | (rw [hji13] at H; exact H) | (simp only [hji13] at H ⊢; exact H)
         (try rw [hji13] at A12)
         have hji13_ : (if ((rd_T36 l0 x17_1).f4) < 0 then 0 else ((rd_T36 l0 x17_1).f4)) = ji13 := hji13
         obtain ⟨ji14, hji14⟩ : ∃ j_ : Int, (mn (ji13) 400) = j_ := ⟨_, rfl⟩
         replace H : (nodes_tops.l1 kj5 x4_1 t105 l0 (l0.length : Int) x17_1 t106 (t106.length : Int) 0 ((rd_T36 l0 x17_1).f0) ((rd_T36 l0 x17_1).f1) ((rd_T36 l0 x17_1).f2) ((rd_T36 l0 x17_1).f3) ((rd_T36 l0 x17_1).f4) ((rd_T36 l0 x17_1).f0) 0 0 0 ji14 x17_1 1 1) = some (r1, r2) := by first | (rw [hji14] at H; exact H) | (simp only [hji14] at H ⊢; exact H)
         (try rw [hji14] at A12)
         have hji14_ : (if 400 < (ji13) then 400 else (ji13)) = ji14 := hji14
         have H' := zM H
         clear H
         obtain ⟨Ao15, co15, eo15⟩ := Kd.R_slice HO_5.out
         subst eo15
         go_wp2_with (first | ((with_reducible refine gate_callee (f := 71) rfl ?_); refine goesL_ (some 40) rfl rfl Try.func71 (by kernel_rfl) rfl #[.slice Ao15 x5_1.length co15, .int .i64 t103] rfl (by (try simp only [List.map_toArray, List.map_cons, List.map_nil]); first | done | rfl) ?_; (with_reducible refine (nodes_pop.calls _ _ x5_1 t103 t105 t106 _ HO_5.out A12.out).mono ?_); rintro e w16 ⟨v107, Ao25, co25, rfl, hpop, ⟨nd, rfl⟩⟩; refine ⟨_, rfl, ?_⟩; have HPOP := zM hpop; clear hpop; have HO108 := zM HO_5.out; have HO110 := zM (Kd.R_nil k96 96 _ w.heap.size (fun _ => True) : Kd.R k96 96 wc w.heap.size (fun _ => True) (.slice none 0 0) []); refine node_cells_ BK102.out fun hcz17_0 hcz17_1 hcz17_2 hcz17_3 hcz17_4 hfz17_0 hfz17_1 hfz17_2 hfz17_3 hfz17_4 => ?_) | ((with_reducible refine gate_dst (N := 11) rfl ?_); (try (refine gate_guard (by rfl) ?_; dsimp only)); refine box_event ?hg (N := 11) ?hd (cs := #[.int .u8 0, .int .i64 0, .int .i64 0, .int .i64 0, .int .i64 0]) (t := 36) ?hr ?_; (case hd => rfl); (case hg => rfl); (case hr => first | (go_simp; done) | (go_simp; rfl)); intro gb111 hg w18 hbox hb; have n0_ := zM (zRB (by (with_reducible repeat (first | apply zA | apply zN | apply zD)); exact HO_4.out) hb); have n1_ := zM (zRB (by (with_reducible repeat (first | apply zA | apply zN | apply zD)); exact HO_5.out) hb); have n2_ := zM (zRB (by (with_reducible repeat (first | apply zA | apply zN | apply zD)); exact HO108.out) hb); have n3_ := zM (zRB (by (with_reducible repeat (first | apply zA | apply zN | apply zD)); exact HO110.out) hb); have n4_ := zM (zX (g := gb102) (o := .cells #[.int .u8 ((rd_T36 l0 x17_1).f0), .int .i64 ((rd_T36 l0 x17_1).f1), .int .i64 ((rd_T36 l0 x17_1).f2), .int .i64 ((rd_T36 l0 x17_1).f3), .int .i64 ((rd_T36 l0 x17_1).f4)] 36 (0, 0)) (by (with_reducible repeat (first | refine zbN ?_ _ | refine zbD ?_ | refine zbA ?_ _)); exact BK102.out) hb); have n5_ := zM (zT (by repeat (first | (with_reducible first | exact HB.out | apply zC | apply zP | apply zO | refine zS ?_ GE102.out) | exact HB.out)) hb); have n6_ := zM (hbox); have n7_ := zM ((by rw [hg]; exact (zZ (by repeat (first | (with_reducible first | exact HB.out | apply zC | apply zP | apply zO | refine zS ?_ GE102.out) | exact HB.out))) : w.heap.size ≤ gb111)); have n8_ := zM ((by rw [hg]; exact (zZ (by repeat (first | (with_reducible first | exact HB.out | apply zC | apply zP | apply zO | refine zS ?_ GE102.out) | exact HB.out))) : w.heap.size ≤ gb111)); have n9_ := zM ((by rw [hg]; exact Nat.ne_of_lt (blk_lt (g := gb102) (o := .cells #[.int .u8 ((rd_T36 l0 x17_1).f0), .int .i64 ((rd_T36 l0 x17_1).f1), .int .i64 ((rd_T36 l0 x17_1).f2), .int .i64 ((rd_T36 l0 x17_1).f3), .int .i64 ((rd_T36 l0 x17_1).f4)] 36 (0, 0)) (by (with_reducible repeat (first | refine zbN ?_ _ | refine zbD ?_ | refine zbA ?_ _)); exact BK102.out)) : gb102 ≠ gb111)); have n10_ := zM ((by rw [hg]; exact Nat.ne_of_gt (blk_lt (g := gb102) (o := .cells #[.int .u8 ((rd_T36 l0 x17_1).f0), .int .i64 ((rd_T36 l0 x17_1).f1), .int .i64 ((rd_T36 l0 x17_1).f2), .int .i64 ((rd_T36 l0 x17_1).f3), .int .i64 ((rd_T36 l0 x17_1).f4)] 36 (0, 0)) (by (with_reducible repeat (first | refine zbN ?_ _ | refine zbD ?_ | refine zbA ?_ _)); exact BK102.out)) : gb111 ≠ gb102)); clear HO_4; clear HO_5; clear HO108; clear HO110; clear BK102; clear HB; have HO_4 := n0_; have HO_5 := n1_; have HO108 := n2_; have HO110 := n3_; have BK102 := n4_; have HB := n5_; have BK111 := n6_; have GW111 := n7_; have GE111 := n8_; have NB102_111 := n9_; have NB111_102 := n10_; clear n0_ n1_ n2_ n3_ n4_ n5_ n6_ n7_ n8_ n9_ n10_; clear hb hbox hg; have hnb19 := NB111_102.out; have hnc19 := NB102_111.out; refine node_cells_ BK111.out fun hcz20_0 hcz20_1 hcz20_2 hcz20_3 hcz20_4 hfz20_0 hfz20_1 hfz20_2 hfz20_3 hfz20_4 => ?_) | ((with_reducible refine gate_dst (N := 12) rfl ?_); (try (refine gate_guard (by rfl) ?_; dsimp only)); refine box_event ?hg (N := 12) ?hd (cs := #[.int .i64 0, .int .i64 0, .int .i64 0]) (t := 96) ?hr ?_; (case hd => rfl); (case hg => rfl); (case hr => first | (go_simp; done) | (go_simp; rfl)); intro gb112 hg w21 hbox hb; have n0_ := zM (zRB (Kd.R_elderB (by (with_reducible repeat (first | apply zA | apply zN | apply zD)); exact (Kd.R_mono (Kd.R_far (p := ⟨gb111, 4, none⟩) (Kd.R_far (p := ⟨gb111, 3, none⟩) (Kd.R_far (p := ⟨gb111, 2, none⟩) (Kd.R_far (p := ⟨gb111, 1, none⟩) (Kd.R_far (p := ⟨gb111, 0, none⟩) (Kd.R_types HO_4.out BK111.out (by decide)) (fun _ hk => hk.2) (.int .u8 ((rd_T36 l0 x17_1).f0))) (fun _ hk => hk.2) (.int .i64 0)) (fun _ hk => hk.2) (.int .i64 0)) (fun _ hk => hk.2) (.int .i64 0)) (fun _ hk => hk.2) (.int .i64 ji14)) (fun _ h_ => h_.1))) gb112 (Nat.le_of_eq hg.symm)) hb); have n1_ := zM (zRB (Kd.R_elderB (by (with_reducible repeat (first | apply zA | apply zN | apply zD)); exact (Kd.R_mono (Kd.R_far (p := ⟨gb111, 4, none⟩) (Kd.R_far (p := ⟨gb111, 3, none⟩) (Kd.R_far (p := ⟨gb111, 2, none⟩) (Kd.R_far (p := ⟨gb111, 1, none⟩) (Kd.R_far (p := ⟨gb111, 0, none⟩) (Kd.R_types HO_5.out BK111.out (by decide)) (fun _ hk => hk.2) (.int .u8 ((rd_T36 l0 x17_1).f0))) (fun _ hk => hk.2) (.int .i64 0)) (fun _ hk => hk.2) (.int .i64 0)) (fun _ hk => hk.2) (.int .i64 0)) (fun _ hk => hk.2) (.int .i64 ji14)) (fun _ h_ => h_.1))) gb112 (Nat.le_of_eq hg.symm)) hb); have n2_ := zM (zRB (Kd.R_elderB (by (with_reducible repeat (first | apply zA | apply zN | apply zD)); exact (Kd.R_mono (Kd.R_far (p := ⟨gb111, 4, none⟩) (Kd.R_far (p := ⟨gb111, 3, none⟩) (Kd.R_far (p := ⟨gb111, 2, none⟩) (Kd.R_far (p := ⟨gb111, 1, none⟩) (Kd.R_far (p := ⟨gb111, 0, none⟩) (Kd.R_types HO108.out BK111.out (by decide)) (fun _ hk => hk.2) (.int .u8 ((rd_T36 l0 x17_1).f0))) (fun _ hk => hk.2) (.int .i64 0)) (fun _ hk => hk.2) (.int .i64 0)) (fun _ hk => hk.2) (.int .i64 0)) (fun _ hk => hk.2) (.int .i64 ji14)) (fun _ h_ => h_.1))) gb112 (Nat.le_of_eq hg.symm)) hb); have n3_ := zM (zRB (Kd.R_elderB (by (with_reducible repeat (first | apply zA | apply zN | apply zD)); exact (Kd.R_mono (Kd.R_far (p := ⟨gb111, 4, none⟩) (Kd.R_far (p := ⟨gb111, 3, none⟩) (Kd.R_far (p := ⟨gb111, 2, none⟩) (Kd.R_far (p := ⟨gb111, 1, none⟩) (Kd.R_far (p := ⟨gb111, 0, none⟩) (Kd.R_types HO110.out BK111.out (by decide)) (fun _ hk => hk.2) (.int .u8 ((rd_T36 l0 x17_1).f0))) (fun _ hk => hk.2) (.int .i64 0)) (fun _ hk => hk.2) (.int .i64 0)) (fun _ hk => hk.2) (.int .i64 0)) (fun _ hk => hk.2) (.int .i64 ji14)) (fun _ h_ => h_.1))) gb112 (Nat.le_of_eq hg.symm)) hb); have n4_ := zM (zX (g := gb102) (o := .cells #[.int .u8 ((rd_T36 l0 x17_1).f0), .int .i64 ((rd_T36 l0 x17_1).f1), .int .i64 ((rd_T36 l0 x17_1).f2), .int .i64 ((rd_T36 l0 x17_1).f3), .int .i64 ((rd_T36 l0 x17_1).f4)] 36 (0, 0)) (by (with_reducible repeat (first | refine zbN ?_ _ | refine zbD ?_ | refine zbA ?_ _)); refine blk_far ?_ NB102_111.out _; (with_reducible repeat (first | refine zbN ?_ _ | refine zbD ?_ | refine zbA ?_ _)); refine blk_far ?_ NB102_111.out _; (with_reducible repeat (first | refine zbN ?_ _ | refine zbD ?_ | refine zbA ?_ _)); refine blk_far ?_ NB102_111.out _; (with_reducible repeat (first | refine zbN ?_ _ | refine zbD ?_ | refine zbA ?_ _)); refine blk_far ?_ NB102_111.out _; (with_reducible repeat (first | refine zbN ?_ _ | refine zbD ?_ | refine zbA ?_ _)); refine blk_far ?_ NB102_111.out _; (with_reducible repeat (first | refine zbN ?_ _ | refine zbD ?_ | refine zbA ?_ _)); exact BK102.out) hb); have n5_ := zM (zX (g := gb111) (o := .cells #[.int .u8 ((rd_T36 l0 x17_1).f0), .int .i64 0, .int .i64 0, .int .i64 0, .int .i64 ji14] 36 (0, 0)) (by (with_reducible repeat (first | refine zbN ?_ _ | refine zbD ?_ | refine zbA ?_ _)); refine blk_put (cs := #[.int .u8 ((rd_T36 l0 x17_1).f0), .int .i64 0, .int .i64 0, .int .i64 0, .int .i64 0]) ?_ 4 _ rfl; (with_reducible repeat (first | refine zbN ?_ _ | refine zbD ?_ | refine zbA ?_ _)); refine blk_put (cs := #[.int .u8 ((rd_T36 l0 x17_1).f0), .int .i64 0, .int .i64 0, .int .i64 0, .int .i64 0]) ?_ 3 _ rfl; (with_reducible repeat (first | refine zbN ?_ _ | refine zbD ?_ | refine zbA ?_ _)); refine blk_put (cs := #[.int .u8 ((rd_T36 l0 x17_1).f0), .int .i64 0, .int .i64 0, .int .i64 0, .int .i64 0]) ?_ 2 _ rfl; (with_reducible repeat (first | refine zbN ?_ _ | refine zbD ?_ | refine zbA ?_ _)); refine blk_put (cs := #[.int .u8 ((rd_T36 l0 x17_1).f0), .int .i64 0, .int .i64 0, .int .i64 0, .int .i64 0]) ?_ 1 _ rfl; (with_reducible repeat (first | refine zbN ?_ _ | refine zbD ?_ | refine zbA ?_ _)); refine blk_put (cs := #[.int .u8 0, .int .i64 0, .int .i64 0, .int .i64 0, .int .i64 0]) ?_ 0 _ rfl; (with_reducible repeat (first | refine zbN ?_ _ | refine zbD ?_ | refine zbA ?_ _)); exact BK111.out) hb); have n6_ := zM (zT (by repeat (first | (with_reducible first | exact HB.out | apply zC | apply zP | apply zO | refine zS ?_ GE102.out | refine zS ?_ GE111.out) | exact HB.out)) hb); have n7_ := zM (hbox); have n8_ := zM ((by rw [hg]; exact (zZ (by repeat (first | (with_reducible first | exact HB.out | apply zC | apply zP | apply zO | refine zS ?_ GE102.out | refine zS ?_ GE111.out) | exact HB.out))) : w.heap.size ≤ gb112)); have n9_ := zM ((by rw [hg]; exact (zZ (by repeat (first | (with_reducible first | exact HB.out | apply zC | apply zP | apply zO | refine zS ?_ GE102.out | refine zS ?_ GE111.out) | exact HB.out))) : w.heap.size ≤ gb112)); have n10_ := zM ((by rw [hg]; exact Nat.ne_of_lt (blk_lt (g := gb102) (o := .cells #[.int .u8 ((rd_T36 l0 x17_1).f0), .int .i64 ((rd_T36 l0 x17_1).f1), .int .i64 ((rd_T36 l0 x17_1).f2), .int .i64 ((rd_T36 l0 x17_1).f3), .int .i64 ((rd_T36 l0 x17_1).f4)] 36 (0, 0)) (by (with_reducible repeat (first | refine zbN ?_ _ | refine zbD ?_ | refine zbA ?_ _)); refine blk_far ?_ NB102_111.out _; (with_reducible repeat (first | refine zbN ?_ _ | refine zbD ?_ | refine zbA ?_ _)); refine blk_far ?_ NB102_111.out _; (with_reducible repeat (first | refine zbN ?_ _ | refine zbD ?_ | refine zbA ?_ _)); refine blk_far ?_ NB102_111.out _; (with_reducible repeat (first | refine zbN ?_ _ | refine zbD ?_ | refine zbA ?_ _)); refine blk_far ?_ NB102_111.out _; (with_reducible repeat (first | refine zbN ?_ _ | refine zbD ?_ | refine zbA ?_ _)); refine blk_far ?_ NB102_111.out _; (with_reducible repeat (first | refine zbN ?_ _ | refine zbD ?_ | refine zbA ?_ _)); exact BK102.out)) : gb102 ≠ gb112)); have n11_ := zM ((by rw [hg]; exact Nat.ne_of_gt (blk_lt (g := gb102) (o := .cells #[.int .u8 ((rd_T36 l0 x17_1).f0), .int .i64 ((rd_T36 l0 x17_1).f1), .int .i64 ((rd_T36 l0 x17_1).f2), .int .i64 ((rd_T36 l0 x17_1).f3), .int .i64 ((rd_T36 l0 x17_1).f4)] 36 (0, 0)) (by (with_reducible repeat (first | refine zbN ?_ _ | refine zbD ?_ | refine zbA ?_ _)); refine blk_far ?_ NB102_111.out _; (with_reducible repeat (first | refine zbN ?_ _ | refine zbD ?_ | refine zbA ?_ _)); refine blk_far ?_ NB102_111.out _; (with_reducible repeat (first | refine zbN ?_ _ | refine zbD ?_ | refine zbA ?_ _)); refine blk_far ?_ NB102_111.out _; (with_reducible repeat (first | refine zbN ?_ _ | refine zbD ?_ | refine zbA ?_ _)); refine blk_far ?_ NB102_111.out _; (with_reducible repeat (first | refine zbN ?_ _ | refine zbD ?_ | refine zbA ?_ _)); refine blk_far ?_ NB102_111.out _; (with_reducible repeat (first | refine zbN ?_ _ | refine zbD ?_ | refine zbA ?_ _)); exact BK102.out)) : gb112 ≠ gb102)); have n12_ := zM ((by rw [hg]; exact Nat.ne_of_lt (blk_lt (g := gb111) (o := .cells #[.int .u8 ((rd_T36 l0 x17_1).f0), .int .i64 0, .int .i64 0, .int .i64 0, .int .i64 ji14] 36 (0, 0)) (by (with_reducible repeat (first | refine zbN ?_ _ | refine zbD ?_ | refine zbA ?_ _)); refine blk_put (cs := #[.int .u8 ((rd_T36 l0 x17_1).f0), .int .i64 0, .int .i64 0, .int .i64 0, .int .i64 0]) ?_ 4 _ rfl; (with_reducible repeat (first | refine zbN ?_ _ | refine zbD ?_ | refine zbA ?_ _)); refine blk_put (cs := #[.int .u8 ((rd_T36 l0 x17_1).f0), .int .i64 0, .int .i64 0, .int .i64 0, .int .i64 0]) ?_ 3 _ rfl; (with_reducible repeat (first | refine zbN ?_ _ | refine zbD ?_ | refine zbA ?_ _)); refine blk_put (cs := #[.int .u8 ((rd_T36 l0 x17_1).f0), .int .i64 0, .int .i64 0, .int .i64 0, .int .i64 0]) ?_ 2 _ rfl; (with_reducible repeat (first | refine zbN ?_ _ | refine zbD ?_ | refine zbA ?_ _)); refine blk_put (cs := #[.int .u8 ((rd_T36 l0 x17_1).f0), .int .i64 0, .int .i64 0, .int .i64 0, .int .i64 0]) ?_ 1 _ rfl; (with_reducible repeat (first | refine zbN ?_ _ | refine zbD ?_ | refine zbA ?_ _)); refine blk_put (cs := #[.int .u8 0, .int .i64 0, .int .i64 0, .int .i64 0, .int .i64 0]) ?_ 0 _ rfl; (with_reducible repeat (first | refine zbN ?_ _ | refine zbD ?_ | refine zbA ?_ _)); exact BK111.out)) : gb111 ≠ gb112)); have n13_ := zM ((by rw [hg]; exact Nat.ne_of_gt (blk_lt (g := gb111) (o := .cells #[.int .u8 ((rd_T36 l0 x17_1).f0), .int .i64 0, .int .i64 0, .int .i64 0, .int .i64 ji14] 36 (0, 0)) (by (with_reducible repeat (first | refine zbN ?_ _ | refine zbD ?_ | refine zbA ?_ _)); refine blk_put (cs := #[.int .u8 ((rd_T36 l0 x17_1).f0), .int .i64 0, .int .i64 0, .int .i64 0, .int .i64 0]) ?_ 4 _ rfl; (with_reducible repeat (first | refine zbN ?_ _ | refine zbD ?_ | refine zbA ?_ _)); refine blk_put (cs := #[.int .u8 ((rd_T36 l0 x17_1).f0), .int .i64 0, .int .i64 0, .int .i64 0, .int .i64 0]) ?_ 3 _ rfl; (with_reducible repeat (first | refine zbN ?_ _ | refine zbD ?_ | refine zbA ?_ _)); refine blk_put (cs := #[.int .u8 ((rd_T36 l0 x17_1).f0), .int .i64 0, .int .i64 0, .int .i64 0, .int .i64 0]) ?_ 2 _ rfl; (with_reducible repeat (first | refine zbN ?_ _ | refine zbD ?_ | refine zbA ?_ _)); refine blk_put (cs := #[.int .u8 ((rd_T36 l0 x17_1).f0), .int .i64 0, .int .i64 0, .int .i64 0, .int .i64 0]) ?_ 1 _ rfl; (with_reducible repeat (first | refine zbN ?_ _ | refine zbD ?_ | refine zbA ?_ _)); refine blk_put (cs := #[.int .u8 0, .int .i64 0, .int .i64 0, .int .i64 0, .int .i64 0]) ?_ 0 _ rfl; (with_reducible repeat (first | refine zbN ?_ _ | refine zbD ?_ | refine zbA ?_ _)); exact BK111.out)) : gb112 ≠ gb111)); clear HO_4; clear HO_5; clear HO108; clear HO110; clear BK102; clear BK111; clear HB; have HO_4 := n0_; have HO_5 := n1_; have HO108 := n2_; have HO110 := n3_; have BK102 := n4_; have BK111 := n5_; have HB := n6_; have BK112 := n7_; have GW112 := n8_; have GE112 := n9_; have NB102_112 := n10_; have NB112_102 := n11_; have NB111_112 := n12_; have NB112_111 := n13_; clear n0_ n1_ n2_ n3_ n4_ n5_ n6_ n7_ n8_ n9_ n10_ n11_ n12_ n13_; clear hb hbox hg; have hnb22 := NB112_102.out; have hnc22 := NB102_112.out; have hnb23 := NB112_111.out; have hnc23 := NB111_112.out; refine win_cells_ BK112.out fun hcz24_0 hcz24_1 hcz24_2 hfz24_0 hfz24_1 hfz24_2 => ?_; skip))
         go_loopg [54] kj5 (fun kq v54 w' => ∃ (x54_3 : Int) (x112002_3 : Int) (x112003_3 : Int) (x113001_3 : Int) (x113002_3 : Int), v54 = .int .i64 x54_3 ∧ Aside0 (nodes_tops.l1 kq x4_1 t105 l0 (l0.length : Int) x17_1 t106 (t106.length : Int) x54_3 ((rd_T36 l0 x17_1).f0) ((rd_T36 l0 x17_1).f1) ((rd_T36 l0 x17_1).f2) ((rd_T36 l0 x17_1).f3) ((rd_T36 l0 x17_1).f4) ((rd_T36 l0 x17_1).f0) 0 x112002_3 x112003_3 ji14 x17_1 x113001_3 x113002_3 = some (r1, r2)) ∧ Aside0 (kq ≤ kj5) ∧ Aside0 (Kd.R k96 96 w' w.heap.size (fun k_ => some k_ ≠ (.slice Ao15 x5_1.length co15 : Value).ownBlock ∧ some k_ ≠ (.slice none 0 0 : Value).ownBlock ∧ k_ ≠ gb112) u4 x4_1) ∧ Aside0 (Kd.R k96 96 w' w.heap.size (fun k_ => some k_ ≠ (u4 : Value).ownBlock ∧ some k_ ≠ (.slice none 0 0 : Value).ownBlock ∧ k_ ≠ gb112) (.slice Ao15 x5_1.length co15 : Value) x5_1) ∧ Aside0 (Kd.R k96 96 w' w.heap.size (fun k_ => some k_ ≠ (u4 : Value).ownBlock ∧ some k_ ≠ (.slice Ao15 x5_1.length co15 : Value).ownBlock ∧ k_ ≠ gb112) (.slice none 0 0 : Value) ([] : List S96)) ∧ Aside0 (w'.heap[gb102]? = some (.cells #[.int .u8 ((rd_T36 l0 x17_1).f0), .int .i64 ((rd_T36 l0 x17_1).f1), .int .i64 ((rd_T36 l0 x17_1).f2), .int .i64 ((rd_T36 l0 x17_1).f3), .int .i64 ((rd_T36 l0 x17_1).f4)] 36 (0, 0))) ∧ Aside0 (w'.heap[gb111]? = some (.cells #[.int .u8 ((rd_T36 l0 x17_1).f0), .int .i64 0, .int .i64 x112002_3, .int .i64 x112003_3, .int .i64 ji14] 36 (0, 0))) ∧ Aside0 (w'.heap[gb112]? = some (.cells #[.int .i64 x17_1, .int .i64 x113001_3, .int .i64 x113002_3] 96 (0, 0))) ∧ Aside0 (Below w.heap.size w w'))
         case atStart => exact ⟨(0), (0), (0), (1), (1), (by first | rfl | (simp; done) | (simp [*]; done)), H', ⟨Nat.le_refl _⟩, ⟨by (with_reducible repeat (first | apply zA | apply zN | apply zD)); exact Kd.R_mono (Kd.R_far (p := ⟨gb112, 2, none⟩) (Kd.R_far (p := ⟨gb112, 1, none⟩) (Kd.R_far (p := ⟨gb112, 0, none⟩) (Kd.R_mono HO_4.out (fun k_ hk => (⟨hk, hk.2⟩ : _ ∧ k_ ≠ gb112))) (fun _ hk => hk.2) (.int .i64 x17_1)) (fun _ hk => hk.2) (.int .i64 1)) (fun _ hk => hk.2) (.int .i64 1)) (fun _ hk => ⟨hk.1.1, ⟨nilown _, hk.1.2⟩⟩)⟩, ⟨by (with_reducible repeat (first | apply zA | apply zN | apply zD)); exact Kd.R_mono (Kd.R_far (p := ⟨gb112, 2, none⟩) (Kd.R_far (p := ⟨gb112, 1, none⟩) (Kd.R_far (p := ⟨gb112, 0, none⟩) (Kd.R_mono HO108.out (fun k_ hk => (⟨hk, hk.2⟩ : _ ∧ k_ ≠ gb112))) (fun _ hk => hk.2) (.int .i64 x17_1)) (fun _ hk => hk.2) (.int .i64 1)) (fun _ hk => hk.2) (.int .i64 1)) (fun _ hk => ⟨hk.1.1, ⟨nilown _, hk.1.2⟩⟩)⟩, ⟨by (with_reducible repeat (first | apply zA | apply zN | apply zD)); exact Kd.R_nil _ _ _ _ _⟩, ⟨by (with_reducible repeat (first | refine zbN ?_ _ | refine zbD ?_ | refine zbA ?_ _)); refine blk_far ?_ NB102_112.out _; (with_reducible repeat (first | refine zbN ?_ _ | refine zbD ?_ | refine zbA ?_ _)); refine blk_far ?_ NB102_112.out _; (with_reducible repeat (first | refine zbN ?_ _ | refine zbD ?_ | refine zbA ?_ _)); refine blk_far ?_ NB102_112.out _; (with_reducible repeat (first | refine zbN ?_ _ | refine zbD ?_ | refine zbA ?_ _)); exact BK102.out⟩, ⟨by (with_reducible repeat (first | refine zbN ?_ _ | refine zbD ?_ | refine zbA ?_ _)); refine blk_far ?_ NB111_112.out _; (with_reducible repeat (first | refine zbN ?_ _ | refine zbD ?_ | refine zbA ?_ _)); refine blk_far ?_ NB111_112.out _; (with_reducible repeat (first | refine zbN ?_ _ | refine zbD ?_ | refine zbA ?_ _)); refine blk_far ?_ NB111_112.out _; (with_reducible repeat (first | refine zbN ?_ _ | refine zbD ?_ | refine zbA ?_ _)); exact BK111.out⟩, ⟨by (with_reducible repeat (first | refine zbN ?_ _ | refine zbD ?_ | refine zbA ?_ _)); refine blk_put (cs := #[.int .i64 x17_1, .int .i64 1, .int .i64 0]) ?_ 2 _ rfl; (with_reducible repeat (first | refine zbN ?_ _ | refine zbD ?_ | refine zbA ?_ _)); refine blk_put (cs := #[.int .i64 x17_1, .int .i64 0, .int .i64 0]) ?_ 1 _ rfl; (with_reducible repeat (first | refine zbN ?_ _ | refine zbD ?_ | refine zbA ?_ _)); refine blk_put (cs := #[.int .i64 0, .int .i64 0, .int .i64 0]) ?_ 0 _ rfl; (with_reducible repeat (first | refine zbN ?_ _ | refine zbD ?_ | refine zbA ?_ _)); exact BK112.out⟩, ⟨by repeat (first | (with_reducible first | exact HB.out | apply zC | apply zP | apply zO | refine zS ?_ GE102.out | refine zS ?_ GE111.out | refine zS ?_ GE112.out) | exact HB.out)⟩⟩
         case round =>
          clear H'
          try clear c1
          try clear p1
          try clear q1
          try clear hx1
          try clear c2
          try clear c2b0
          try clear p2
          try clear c3
          try clear c3b0
          try clear c4
          try clear c4b0
          try clear c6
          try clear c7
          try clear c9
          try clear c9b0
          try clear c9b1
          try clear p10
          try clear q10
          try clear hx10
          try clear c11
          try clear c19
          try clear c22
          try clear c23
          try clear hcz17_0
          try clear hcz17_1
          try clear hcz17_2
          try clear hcz17_3
          try clear hcz17_4
          try clear hcz20_0
          try clear hcz20_1
          try clear hcz20_2
          try clear hcz20_3
          try clear hcz20_4
          try clear hcz24_0
          try clear hcz24_1
          try clear hcz24_2
          try clear hcz8_0
          try clear hcz8_1
          try clear hcz8_2
          try clear hcz8_3
          try clear hcz8_4
          try clear hfz17_0
          try clear hfz17_1
          try clear hfz17_2
          try clear hfz17_3
          try clear hfz17_4
          try clear hfz20_0
          try clear hfz20_1
          try clear hfz20_2
          try clear hfz20_3
          try clear hfz20_4
          try clear hfz24_0
          try clear hfz24_1
          try clear hfz24_2
          try clear hfz8_0
          try clear hfz8_1
          try clear hfz8_2
          try clear hfz8_3
          try clear hfz8_4
          try clear hx101_0
          try clear hx101_1
          try clear hx101_2
          try clear hx101_3
          try clear hx101_4
          try clear p1
          try clear p10
          try clear p101
          try clear p2
          try clear q1
          try clear q10
          try clear q101
          obtain ⟨x54_3, x112002_3, x112003_3, x113001_3, x113002_3, rfl, HA, HK3, HO_4, HO_5, HO_52, BK102, BK111, BK112, HB⟩ := hrel
          cases gk with
          | zero => exact absurd HA.out (by simp [nodes_tops.l1])
          | succ k3 =>
           have H := HA.out
           clear HA
           simp only [nodes_tops.l1] at H
           by_cases c26 : x54_3 < (t106.length : Int)
           ·
            rw [if_pos c26] at H
            have c26b0 : decide (x54_3 < (t106.length : Int)) = true := decide_eq_true c26
            clear c26
            by_cases c27 : 0 ≤ x54_3
            ·
             rw [if_pos c27] at H
             have c27b0 : decide (0 ≤ x54_3) = true := decide_eq_true c27
             clear c27
             by_cases c28 : x54_3 < (t106.length : Int)
             ·
              rw [if_pos c28] at H
              have c28b0 : decide (x54_3 < (t106.length : Int)) = true := decide_eq_true c28
              clear c28
              by_cases c29 : x54_3 = 0
              ·
               rw [if_pos c29] at H
               have c29b0 : (x54_3 == 0) = true := beq_iff_eq.mpr c29
               have c29b1 : (x54_3 != 0) = false := bne_eq_false_iff_eq.mpr c29
               clear c29
               obtain ⟨ji30, hji30⟩ : ∃ j_ : Int, (mx x113002_3 (wrap64 (((rd_T96 t106 x54_3).f2) + 1))) = j_ := ⟨_, rfl⟩
               replace H : (nodes_tops.l1 k3 x4_1 t105 l0 (l0.length : Int) x17_1 t106 (t106.length : Int) (wrap64 (x54_3 + 1)) ((rd_T36 l0 x17_1).f0) ((rd_T36 l0 x17_1).f1) ((rd_T36 l0 x17_1).f2) ((rd_T36 l0 x17_1).f3) ((rd_T36 l0 x17_1).f4) ((rd_T36 l0 x17_1).f0) 0 ((rd_T96 t106 x54_3).f0) x112003_3 ji14 x17_1 (wrap64 (x113001_3 + ((rd_T96 t106 x54_3).f1))) ji30) = some (r1, r2) := by first | (rw [hji30] at H; exact H) | (simp only [hji30] at H ⊢; exact H)
               have hji30_ : (if x113002_3 < (wrap64 (((rd_T96 t106 x54_3).f2) + 1)) then (wrap64 (((rd_T96 t106 x54_3).f2) + 1)) else x113002_3) = ji30 := hji30
               have H' := zM H
               clear H
               have p113 : 0 ≤ (x54_3 : Int) := of_decide_eq_true (by first | (with_reducible assumption) | assumption)
               have q113 : x54_3 < (t106.length : Int) := of_decide_eq_true (by first | (with_reducible assumption) | assumption)
               obtain ⟨ad113, e113, hx113_0, hx113_1, hx113_2⟩ := at_T96 (HPOP.out.read _ (Kd.R_reads' HO_5.out).2.2) x54_3 p113 q113
               cases e113
               replace p113 := eq_true p113
               replace q113 := eq_true q113
               go_wp2_with (first | ((with_reducible refine gate_dst (N := 14) rfl ?_); (try (refine gate_guard (by rfl) ?_; dsimp only)); refine box_event ?hg (N := 14) ?hd (cs := #[.int .i64 0, .int .i64 0, .int .i64 0]) (t := 96) ?hr ?_; (case hd => rfl); (case hg => rfl); (case hr => first | (go_simp; done) | (go_simp; rfl)); intro gb114 hg w31 hbox hb; have n0_ := zM (zRB (Kd.R_elderB (by (with_reducible repeat (first | apply zA | apply zN | apply zD)); exact HO_4.out) gb114 (Nat.le_of_eq hg.symm)) hb); have n1_ := zM (zRB (Kd.R_elderB (by (with_reducible repeat (first | apply zA | apply zN | apply zD)); exact HO_5.out) gb114 (Nat.le_of_eq hg.symm)) hb); have n2_ := zM (zRB (Kd.R_elderB (by (with_reducible repeat (first | apply zA | apply zN | apply zD)); exact HO_52.out) gb114 (Nat.le_of_eq hg.symm)) hb); have n3_ := zM (zX (g := gb102) (o := .cells #[.int .u8 ((rd_T36 l0 x17_1).f0), .int .i64 ((rd_T36 l0 x17_1).f1), .int .i64 ((rd_T36 l0 x17_1).f2), .int .i64 ((rd_T36 l0 x17_1).f3), .int .i64 ((rd_T36 l0 x17_1).f4)] 36 (0, 0)) (by (with_reducible repeat (first | refine zbN ?_ _ | refine zbD ?_ | refine zbA ?_ _)); exact BK102.out) hb); have n4_ := zM (zX (g := gb111) (o := .cells #[.int .u8 ((rd_T36 l0 x17_1).f0), .int .i64 0, .int .i64 x112002_3, .int .i64 x112003_3, .int .i64 ji14] 36 (0, 0)) (by (with_reducible repeat (first | refine zbN ?_ _ | refine zbD ?_ | refine zbA ?_ _)); exact BK111.out) hb); have n5_ := zM (zX (g := gb112) (o := .cells #[.int .i64 x17_1, .int .i64 x113001_3, .int .i64 x113002_3] 96 (0, 0)) (by (with_reducible repeat (first | refine zbN ?_ _ | refine zbD ?_ | refine zbA ?_ _)); exact BK112.out) hb); have n6_ := zM (zT (by repeat (first | (with_reducible first | exact HB.out | apply zC | apply zP | apply zO | refine zS ?_ GE102.out | refine zS ?_ GE111.out | refine zS ?_ GE112.out) | exact HB.out)) hb); have n7_ := zM (hbox); have n8_ := zM ((by rw [hg]; exact (zZ (by repeat (first | (with_reducible first | exact HB.out | apply zC | apply zP | apply zO | refine zS ?_ GE102.out | refine zS ?_ GE111.out | refine zS ?_ GE112.out) | exact HB.out))) : w.heap.size ≤ gb114)); have n9_ := zM ((by rw [hg]; exact (zZ (by repeat (first | (with_reducible first | exact HB.out | apply zC | apply zP | apply zO | refine zS ?_ GE102.out | refine zS ?_ GE111.out | refine zS ?_ GE112.out) | exact HB.out))) : w.heap.size ≤ gb114)); have n10_ := zM ((by rw [hg]; exact Nat.ne_of_lt (blk_lt (g := gb102) (o := .cells #[.int .u8 ((rd_T36 l0 x17_1).f0), .int .i64 ((rd_T36 l0 x17_1).f1), .int .i64 ((rd_T36 l0 x17_1).f2), .int .i64 ((rd_T36 l0 x17_1).f3), .int .i64 ((rd_T36 l0 x17_1).f4)] 36 (0, 0)) (by (with_reducible repeat (first | refine zbN ?_ _ | refine zbD ?_ | refine zbA ?_ _)); exact BK102.out)) : gb102 ≠ gb114)); have n11_ := zM ((by rw [hg]; exact Nat.ne_of_gt (blk_lt (g := gb102) (o := .cells #[.int .u8 ((rd_T36 l0 x17_1).f0), .int .i64 ((rd_T36 l0 x17_1).f1), .int .i64 ((rd_T36 l0 x17_1).f2), .int .i64 ((rd_T36 l0 x17_1).f3), .int .i64 ((rd_T36 l0 x17_1).f4)] 36 (0, 0)) (by (with_reducible repeat (first | refine zbN ?_ _ | refine zbD ?_ | refine zbA ?_ _)); exact BK102.out)) : gb114 ≠ gb102)); have n12_ := zM ((by rw [hg]; exact Nat.ne_of_lt (blk_lt (g := gb111) (o := .cells #[.int .u8 ((rd_T36 l0 x17_1).f0), .int .i64 0, .int .i64 x112002_3, .int .i64 x112003_3, .int .i64 ji14] 36 (0, 0)) (by (with_reducible repeat (first | refine zbN ?_ _ | refine zbD ?_ | refine zbA ?_ _)); exact BK111.out)) : gb111 ≠ gb114)); have n13_ := zM ((by rw [hg]; exact Nat.ne_of_gt (blk_lt (g := gb111) (o := .cells #[.int .u8 ((rd_T36 l0 x17_1).f0), .int .i64 0, .int .i64 x112002_3, .int .i64 x112003_3, .int .i64 ji14] 36 (0, 0)) (by (with_reducible repeat (first | refine zbN ?_ _ | refine zbD ?_ | refine zbA ?_ _)); exact BK111.out)) : gb114 ≠ gb111)); have n14_ := zM ((by rw [hg]; exact Nat.ne_of_lt (blk_lt (g := gb112) (o := .cells #[.int .i64 x17_1, .int .i64 x113001_3, .int .i64 x113002_3] 96 (0, 0)) (by (with_reducible repeat (first | refine zbN ?_ _ | refine zbD ?_ | refine zbA ?_ _)); exact BK112.out)) : gb112 ≠ gb114)); have n15_ := zM ((by rw [hg]; exact Nat.ne_of_gt (blk_lt (g := gb112) (o := .cells #[.int .i64 x17_1, .int .i64 x113001_3, .int .i64 x113002_3] 96 (0, 0)) (by (with_reducible repeat (first | refine zbN ?_ _ | refine zbD ?_ | refine zbA ?_ _)); exact BK112.out)) : gb114 ≠ gb112)); clear HO_4; clear HO_5; clear HO_52; clear BK102; clear BK111; clear BK112; clear HB; have HO_4 := n0_; have HO_5 := n1_; have HO_52 := n2_; have BK102 := n3_; have BK111 := n4_; have BK112 := n5_; have HB := n6_; have BK114 := n7_; have GW114 := n8_; have GE114 := n9_; have NB102_114 := n10_; have NB114_102 := n11_; have NB111_114 := n12_; have NB114_111 := n13_; have NB112_114 := n14_; have NB114_112 := n15_; clear n0_ n1_ n2_ n3_ n4_ n5_ n6_ n7_ n8_ n9_ n10_ n11_ n12_ n13_ n14_ n15_; clear hb hbox hg; have hnb32 := NB114_102.out; have hnc32 := NB102_114.out; have hnb33 := NB114_111.out; have hnc33 := NB111_114.out; have hnb34 := NB114_112.out; have hnc34 := NB112_114.out; refine win_cells_ BK114.out fun hcz35_0 hcz35_1 hcz35_2 hfz35_0 hfz35_1 hfz35_2 => ?_; have hnb36 := NB111_102.out; have hnc36 := NB102_111.out; have hnb37 := NB111_112.out; have hnc37 := NB112_111.out; refine node_cells_ BK111.out fun hcz38_0 hcz38_1 hcz38_2 hcz38_3 hcz38_4 hfz38_0 hfz38_1 hfz38_2 hfz38_3 hfz38_4 => ?_; have hnb39 := NB112_102.out; have hnc39 := NB102_112.out; refine win_cells_ BK112.out fun hcz40_0 hcz40_1 hcz40_2 hfz40_0 hfz40_1 hfz40_2 => ?_))
               go_roundg k3
               case measure => have := HK1.out; have := HJ5.out; have := HK3.out; omega
               case rel => exact ⟨(wrap64 (x54_3 + 1)), ((rd_T96 t106 x54_3).f0), (x112003_3), (wrap64 (x113001_3 + ((rd_T96 t106 x54_3).f1))), (ji30), (by first | rfl | (simp; done) | (simp [*]; done)), H', ⟨by have := HK1.out; have := HJ5.out; have := HK3.out; omega⟩, ⟨by (with_reducible repeat (first | apply zA | apply zN | apply zD)); exact Kd.R_mono (Kd.R_far (p := ⟨gb112, 2, none⟩) (Kd.R_far (p := ⟨gb112, 1, none⟩) (Kd.R_far (p := ⟨gb111, 2, none⟩) (Kd.R_far (p := ⟨gb114, 2, none⟩) (Kd.R_far (p := ⟨gb114, 1, none⟩) (Kd.R_far (p := ⟨gb114, 0, none⟩) (Kd.R_mono (Kd.R_types (Kd.R_mono HO_4.out (fun k_ hk => (⟨hk, hk.2⟩ : _ ∧ k_ ≠ gb114))) BK111.out (by decide)) (fun k_ hk => (⟨hk, hk.1.1.1.2.2⟩ : _ ∧ k_ ≠ gb112))) (fun _ hk => hk.1.1.2) (.int .i64 ((rd_T96 t106 x54_3).f0))) (fun _ hk => hk.1.1.2) (.int .i64 ((rd_T96 t106 x54_3).f1))) (fun _ hk => hk.1.1.2) (.int .i64 ((rd_T96 t106 x54_3).f2))) (fun _ hk => hk.1.2) (.int .i64 ((rd_T96 t106 x54_3).f0))) (fun _ hk => hk.2) (.int .i64 (wrap64 (x113001_3 + ((rd_T96 t106 x54_3).f1))))) (fun _ hk => hk.2) (.int .i64 ji30)) (fun _ hk => ⟨hk.1.1.1.1.1, ⟨hk.1.1.1.1.2.1, hk.1.1.1.1.2.2⟩⟩)⟩, ⟨by (with_reducible repeat (first | apply zA | apply zN | apply zD)); exact Kd.R_mono (Kd.R_far (p := ⟨gb112, 2, none⟩) (Kd.R_far (p := ⟨gb112, 1, none⟩) (Kd.R_far (p := ⟨gb111, 2, none⟩) (Kd.R_far (p := ⟨gb114, 2, none⟩) (Kd.R_far (p := ⟨gb114, 1, none⟩) (Kd.R_far (p := ⟨gb114, 0, none⟩) (Kd.R_mono (Kd.R_types (Kd.R_mono HO_5.out (fun k_ hk => (⟨hk, hk.2⟩ : _ ∧ k_ ≠ gb114))) BK111.out (by decide)) (fun k_ hk => (⟨hk, hk.1.1.1.2.2⟩ : _ ∧ k_ ≠ gb112))) (fun _ hk => hk.1.1.2) (.int .i64 ((rd_T96 t106 x54_3).f0))) (fun _ hk => hk.1.1.2) (.int .i64 ((rd_T96 t106 x54_3).f1))) (fun _ hk => hk.1.1.2) (.int .i64 ((rd_T96 t106 x54_3).f2))) (fun _ hk => hk.1.2) (.int .i64 ((rd_T96 t106 x54_3).f0))) (fun _ hk => hk.2) (.int .i64 (wrap64 (x113001_3 + ((rd_T96 t106 x54_3).f1))))) (fun _ hk => hk.2) (.int .i64 ji30)) (fun _ hk => ⟨hk.1.1.1.1.1, ⟨hk.1.1.1.1.2.1, hk.1.1.1.1.2.2⟩⟩)⟩, ⟨by (with_reducible repeat (first | apply zA | apply zN | apply zD)); exact Kd.R_mono (Kd.R_far (p := ⟨gb112, 2, none⟩) (Kd.R_far (p := ⟨gb112, 1, none⟩) (Kd.R_far (p := ⟨gb111, 2, none⟩) (Kd.R_far (p := ⟨gb114, 2, none⟩) (Kd.R_far (p := ⟨gb114, 1, none⟩) (Kd.R_far (p := ⟨gb114, 0, none⟩) (Kd.R_mono (Kd.R_types (Kd.R_mono HO_52.out (fun k_ hk => (⟨hk, hk.2⟩ : _ ∧ k_ ≠ gb114))) BK111.out (by decide)) (fun k_ hk => (⟨hk, hk.1.1.1.2.2⟩ : _ ∧ k_ ≠ gb112))) (fun _ hk => hk.1.1.2) (.int .i64 ((rd_T96 t106 x54_3).f0))) (fun _ hk => hk.1.1.2) (.int .i64 ((rd_T96 t106 x54_3).f1))) (fun _ hk => hk.1.1.2) (.int .i64 ((rd_T96 t106 x54_3).f2))) (fun _ hk => hk.1.2) (.int .i64 ((rd_T96 t106 x54_3).f0))) (fun _ hk => hk.2) (.int .i64 (wrap64 (x113001_3 + ((rd_T96 t106 x54_3).f1))))) (fun _ hk => hk.2) (.int .i64 ji30)) (fun _ hk => ⟨hk.1.1.1.1.1, ⟨hk.1.1.1.1.2.1, hk.1.1.1.1.2.2⟩⟩)⟩, ⟨by (with_reducible repeat (first | refine zbN ?_ _ | refine zbD ?_ | refine zbA ?_ _)); refine blk_far ?_ NB102_112.out _; (with_reducible repeat (first | refine zbN ?_ _ | refine zbD ?_ | refine zbA ?_ _)); refine blk_far ?_ NB102_112.out _; (with_reducible repeat (first | refine zbN ?_ _ | refine zbD ?_ | refine zbA ?_ _)); refine blk_far ?_ NB102_111.out _; (with_reducible repeat (first | refine zbN ?_ _ | refine zbD ?_ | refine zbA ?_ _)); refine blk_far ?_ NB102_114.out _; (with_reducible repeat (first | refine zbN ?_ _ | refine zbD ?_ | refine zbA ?_ _)); refine blk_far ?_ NB102_114.out _; (with_reducible repeat (first | refine zbN ?_ _ | refine zbD ?_ | refine zbA ?_ _)); refine blk_far ?_ NB102_114.out _; (with_reducible repeat (first | refine zbN ?_ _ | refine zbD ?_ | refine zbA ?_ _)); exact BK102.out⟩, ⟨by (with_reducible repeat (first | refine zbN ?_ _ | refine zbD ?_ | refine zbA ?_ _)); refine blk_far ?_ NB111_112.out _; (with_reducible repeat (first | refine zbN ?_ _ | refine zbD ?_ | refine zbA ?_ _)); refine blk_far ?_ NB111_112.out _; (with_reducible repeat (first | refine zbN ?_ _ | refine zbD ?_ | refine zbA ?_ _)); refine blk_put (cs := #[.int .u8 ((rd_T36 l0 x17_1).f0), .int .i64 0, .int .i64 x112002_3, .int .i64 x112003_3, .int .i64 ji14]) ?_ 2 _ rfl; (with_reducible repeat (first | refine zbN ?_ _ | refine zbD ?_ | refine zbA ?_ _)); refine blk_far ?_ NB111_114.out _; (with_reducible repeat (first | refine zbN ?_ _ | refine zbD ?_ | refine zbA ?_ _)); refine blk_far ?_ NB111_114.out _; (with_reducible repeat (first | refine zbN ?_ _ | refine zbD ?_ | refine zbA ?_ _)); refine blk_far ?_ NB111_114.out _; (with_reducible repeat (first | refine zbN ?_ _ | refine zbD ?_ | refine zbA ?_ _)); exact BK111.out⟩, ⟨by (with_reducible repeat (first | refine zbN ?_ _ | refine zbD ?_ | refine zbA ?_ _)); refine blk_put (cs := #[.int .i64 x17_1, .int .i64 (wrap64 (x113001_3 + ((rd_T96 t106 x54_3).f1))), .int .i64 x113002_3]) ?_ 2 _ rfl; (with_reducible repeat (first | refine zbN ?_ _ | refine zbD ?_ | refine zbA ?_ _)); refine blk_put (cs := #[.int .i64 x17_1, .int .i64 x113001_3, .int .i64 x113002_3]) ?_ 1 _ rfl; (with_reducible repeat (first | refine zbN ?_ _ | refine zbD ?_ | refine zbA ?_ _)); refine blk_far ?_ NB112_111.out _; (with_reducible repeat (first | refine zbN ?_ _ | refine zbD ?_ | refine zbA ?_ _)); refine blk_far ?_ NB112_114.out _; (with_reducible repeat (first | refine zbN ?_ _ | refine zbD ?_ | refine zbA ?_ _)); refine blk_far ?_ NB112_114.out _; (with_reducible repeat (first | refine zbN ?_ _ | refine zbD ?_ | refine zbA ?_ _)); refine blk_far ?_ NB112_114.out _; (with_reducible repeat (first | refine zbN ?_ _ | refine zbD ?_ | refine zbA ?_ _)); exact BK112.out⟩, ⟨by repeat (first | (with_reducible first | exact HB.out | apply zC | apply zP | apply zO | refine zS ?_ GE102.out | refine zS ?_ GE111.out | refine zS ?_ GE112.out | refine zS ?_ GE114.out) | exact HB.out)⟩⟩
              ·
               rw [if_neg c29] at H
               have c29b0 : (x54_3 == 0) = false := beq_eq_false_iff_ne.mpr c29
               have c29b1 : (x54_3 != 0) = true := bne_iff_ne.mpr c29
               obtain ⟨ji41, hji41⟩ : ∃ j_ : Int, (mx x113002_3 (wrap64 (((rd_T96 t106 x54_3).f2) + 1))) = j_ := ⟨_, rfl⟩
               replace H : (nodes_tops.l1 k3 x4_1 t105 l0 (l0.length : Int) x17_1 t106 (t106.length : Int) (wrap64 (x54_3 + 1)) ((rd_T36 l0 x17_1).f0) ((rd_T36 l0 x17_1).f1) ((rd_T36 l0 x17_1).f2) ((rd_T36 l0 x17_1).f3) ((rd_T36 l0 x17_1).f4) ((rd_T36 l0 x17_1).f0) 0 x112002_3 ((rd_T96 t106 x54_3).f0) ji14 x17_1 (wrap64 (x113001_3 + ((rd_T96 t106 x54_3).f1))) ji41) = some (r1, r2) := by first | (rw [hji41] at H; exact H) | (simp only [hji41] at H ⊢; exact H)
               have hji41_ : (if x113002_3 < (wrap64 (((rd_T96 t106 x54_3).f2) + 1)) then (wrap64 (((rd_T96 t106 x54_3).f2) + 1)) else x113002_3) = ji41 := hji41
               have H' := zM H
               clear H
               have p113 : 0 ≤ (x54_3 : Int) := of_decide_eq_true (by first | (with_reducible assumption) | assumption)
               have q113 : x54_3 < (t106.length : Int) := of_decide_eq_true (by first | (with_reducible assumption) | assumption)
               obtain ⟨ad113, e113, hx113_0, hx113_1, hx113_2⟩ := at_T96 (HPOP.out.read _ (Kd.R_reads' HO_5.out).2.2) x54_3 p113 q113
               cases e113
               replace p113 := eq_true p113
               replace q113 := eq_true q113
               go_wp2_with (first | ((with_reducible refine gate_dst (N := 14) rfl ?_); (try (refine gate_guard (by rfl) ?_; dsimp only)); refine box_event ?hg (N := 14) ?hd (cs := #[.int .i64 0, .int .i64 0, .int .i64 0]) (t := 96) ?hr ?_; (case hd => rfl); (case hg => rfl); (case hr => first | (go_simp; done) | (go_simp; rfl)); intro gb114 hg w42 hbox hb; have n0_ := zM (zRB (Kd.R_elderB (by (with_reducible repeat (first | apply zA | apply zN | apply zD)); exact HO_4.out) gb114 (Nat.le_of_eq hg.symm)) hb); have n1_ := zM (zRB (Kd.R_elderB (by (with_reducible repeat (first | apply zA | apply zN | apply zD)); exact HO_5.out) gb114 (Nat.le_of_eq hg.symm)) hb); have n2_ := zM (zRB (Kd.R_elderB (by (with_reducible repeat (first | apply zA | apply zN | apply zD)); exact HO_52.out) gb114 (Nat.le_of_eq hg.symm)) hb); have n3_ := zM (zX (g := gb102) (o := .cells #[.int .u8 ((rd_T36 l0 x17_1).f0), .int .i64 ((rd_T36 l0 x17_1).f1), .int .i64 ((rd_T36 l0 x17_1).f2), .int .i64 ((rd_T36 l0 x17_1).f3), .int .i64 ((rd_T36 l0 x17_1).f4)] 36 (0, 0)) (by (with_reducible repeat (first | refine zbN ?_ _ | refine zbD ?_ | refine zbA ?_ _)); exact BK102.out) hb); have n4_ := zM (zX (g := gb111) (o := .cells #[.int .u8 ((rd_T36 l0 x17_1).f0), .int .i64 0, .int .i64 x112002_3, .int .i64 x112003_3, .int .i64 ji14] 36 (0, 0)) (by (with_reducible repeat (first | refine zbN ?_ _ | refine zbD ?_ | refine zbA ?_ _)); exact BK111.out) hb); have n5_ := zM (zX (g := gb112) (o := .cells #[.int .i64 x17_1, .int .i64 x113001_3, .int .i64 x113002_3] 96 (0, 0)) (by (with_reducible repeat (first | refine zbN ?_ _ | refine zbD ?_ | refine zbA ?_ _)); exact BK112.out) hb); have n6_ := zM (zT (by repeat (first | (with_reducible first | exact HB.out | apply zC | apply zP | apply zO | refine zS ?_ GE102.out | refine zS ?_ GE111.out | refine zS ?_ GE112.out) | exact HB.out)) hb); have n7_ := zM (hbox); have n8_ := zM ((by rw [hg]; exact (zZ (by repeat (first | (with_reducible first | exact HB.out | apply zC | apply zP | apply zO | refine zS ?_ GE102.out | refine zS ?_ GE111.out | refine zS ?_ GE112.out) | exact HB.out))) : w.heap.size ≤ gb114)); have n9_ := zM ((by rw [hg]; exact (zZ (by repeat (first | (with_reducible first | exact HB.out | apply zC | apply zP | apply zO | refine zS ?_ GE102.out | refine zS ?_ GE111.out | refine zS ?_ GE112.out) | exact HB.out))) : w.heap.size ≤ gb114)); have n10_ := zM ((by rw [hg]; exact Nat.ne_of_lt (blk_lt (g := gb102) (o := .cells #[.int .u8 ((rd_T36 l0 x17_1).f0), .int .i64 ((rd_T36 l0 x17_1).f1), .int .i64 ((rd_T36 l0 x17_1).f2), .int .i64 ((rd_T36 l0 x17_1).f3), .int .i64 ((rd_T36 l0 x17_1).f4)] 36 (0, 0)) (by (with_reducible repeat (first | refine zbN ?_ _ | refine zbD ?_ | refine zbA ?_ _)); exact BK102.out)) : gb102 ≠ gb114)); have n11_ := zM ((by rw [hg]; exact Nat.ne_of_gt (blk_lt (g := gb102) (o := .cells #[.int .u8 ((rd_T36 l0 x17_1).f0), .int .i64 ((rd_T36 l0 x17_1).f1), .int .i64 ((rd_T36 l0 x17_1).f2), .int .i64 ((rd_T36 l0 x17_1).f3), .int .i64 ((rd_T36 l0 x17_1).f4)] 36 (0, 0)) (by (with_reducible repeat (first | refine zbN ?_ _ | refine zbD ?_ | refine zbA ?_ _)); exact BK102.out)) : gb114 ≠ gb102)); have n12_ := zM ((by rw [hg]; exact Nat.ne_of_lt (blk_lt (g := gb111) (o := .cells #[.int .u8 ((rd_T36 l0 x17_1).f0), .int .i64 0, .int .i64 x112002_3, .int .i64 x112003_3, .int .i64 ji14] 36 (0, 0)) (by (with_reducible repeat (first | refine zbN ?_ _ | refine zbD ?_ | refine zbA ?_ _)); exact BK111.out)) : gb111 ≠ gb114)); have n13_ := zM ((by rw [hg]; exact Nat.ne_of_gt (blk_lt (g := gb111) (o := .cells #[.int .u8 ((rd_T36 l0 x17_1).f0), .int .i64 0, .int .i64 x112002_3, .int .i64 x112003_3, .int .i64 ji14] 36 (0, 0)) (by (with_reducible repeat (first | refine zbN ?_ _ | refine zbD ?_ | refine zbA ?_ _)); exact BK111.out)) : gb114 ≠ gb111)); have n14_ := zM ((by rw [hg]; exact Nat.ne_of_lt (blk_lt (g := gb112) (o := .cells #[.int .i64 x17_1, .int .i64 x113001_3, .int .i64 x113002_3] 96 (0, 0)) (by (with_reducible repeat (first | refine zbN ?_ _ | refine zbD ?_ | refine zbA ?_ _)); exact BK112.out)) : gb112 ≠ gb114)); have n15_ := zM ((by rw [hg]; exact Nat.ne_of_gt (blk_lt (g := gb112) (o := .cells #[.int .i64 x17_1, .int .i64 x113001_3, .int .i64 x113002_3] 96 (0, 0)) (by (with_reducible repeat (first | refine zbN ?_ _ | refine zbD ?_ | refine zbA ?_ _)); exact BK112.out)) : gb114 ≠ gb112)); clear HO_4; clear HO_5; clear HO_52; clear BK102; clear BK111; clear BK112; clear HB; have HO_4 := n0_; have HO_5 := n1_; have HO_52 := n2_; have BK102 := n3_; have BK111 := n4_; have BK112 := n5_; have HB := n6_; have BK114 := n7_; have GW114 := n8_; have GE114 := n9_; have NB102_114 := n10_; have NB114_102 := n11_; have NB111_114 := n12_; have NB114_111 := n13_; have NB112_114 := n14_; have NB114_112 := n15_; clear n0_ n1_ n2_ n3_ n4_ n5_ n6_ n7_ n8_ n9_ n10_ n11_ n12_ n13_ n14_ n15_; clear hb hbox hg; have hnb43 := NB114_102.out; have hnc43 := NB102_114.out; have hnb44 := NB114_111.out; have hnc44 := NB111_114.out; have hnb45 := NB114_112.out; have hnc45 := NB112_114.out; refine win_cells_ BK114.out fun hcz46_0 hcz46_1 hcz46_2 hfz46_0 hfz46_1 hfz46_2 => ?_; have hnb47 := NB111_102.out; have hnc47 := NB102_111.out; have hnb48 := NB111_112.out; have hnc48 := NB112_111.out; refine node_cells_ BK111.out fun hcz49_0 hcz49_1 hcz49_2 hcz49_3 hcz49_4 hfz49_0 hfz49_1 hfz49_2 hfz49_3 hfz49_4 => ?_; have hnb50 := NB112_102.out; have hnc50 := NB102_112.out; refine win_cells_ BK112.out fun hcz51_0 hcz51_1 hcz51_2 hfz51_0 hfz51_1 hfz51_2 => ?_))
               go_roundg k3
               case measure => have := HK1.out; have := HJ5.out; have := HK3.out; omega
               case rel => exact ⟨(wrap64 (x54_3 + 1)), (x112002_3), ((rd_T96 t106 x54_3).f0), (wrap64 (x113001_3 + ((rd_T96 t106 x54_3).f1))), (ji41), (by first | rfl | (simp; done) | (simp [*]; done)), H', ⟨by have := HK1.out; have := HJ5.out; have := HK3.out; omega⟩, ⟨by (with_reducible repeat (first | apply zA | apply zN | apply zD)); exact Kd.R_mono (Kd.R_far (p := ⟨gb112, 2, none⟩) (Kd.R_far (p := ⟨gb112, 1, none⟩) (Kd.R_far (p := ⟨gb111, 3, none⟩) (Kd.R_far (p := ⟨gb114, 2, none⟩) (Kd.R_far (p := ⟨gb114, 1, none⟩) (Kd.R_far (p := ⟨gb114, 0, none⟩) (Kd.R_mono (Kd.R_types (Kd.R_mono HO_4.out (fun k_ hk => (⟨hk, hk.2⟩ : _ ∧ k_ ≠ gb114))) BK111.out (by decide)) (fun k_ hk => (⟨hk, hk.1.1.1.2.2⟩ : _ ∧ k_ ≠ gb112))) (fun _ hk => hk.1.1.2) (.int .i64 ((rd_T96 t106 x54_3).f0))) (fun _ hk => hk.1.1.2) (.int .i64 ((rd_T96 t106 x54_3).f1))) (fun _ hk => hk.1.1.2) (.int .i64 ((rd_T96 t106 x54_3).f2))) (fun _ hk => hk.1.2) (.int .i64 ((rd_T96 t106 x54_3).f0))) (fun _ hk => hk.2) (.int .i64 (wrap64 (x113001_3 + ((rd_T96 t106 x54_3).f1))))) (fun _ hk => hk.2) (.int .i64 ji41)) (fun _ hk => ⟨hk.1.1.1.1.1, ⟨hk.1.1.1.1.2.1, hk.1.1.1.1.2.2⟩⟩)⟩, ⟨by (with_reducible repeat (first | apply zA | apply zN | apply zD)); exact Kd.R_mono (Kd.R_far (p := ⟨gb112, 2, none⟩) (Kd.R_far (p := ⟨gb112, 1, none⟩) (Kd.R_far (p := ⟨gb111, 3, none⟩) (Kd.R_far (p := ⟨gb114, 2, none⟩) (Kd.R_far (p := ⟨gb114, 1, none⟩) (Kd.R_far (p := ⟨gb114, 0, none⟩) (Kd.R_mono (Kd.R_types (Kd.R_mono HO_5.out (fun k_ hk => (⟨hk, hk.2⟩ : _ ∧ k_ ≠ gb114))) BK111.out (by decide)) (fun k_ hk => (⟨hk, hk.1.1.1.2.2⟩ : _ ∧ k_ ≠ gb112))) (fun _ hk => hk.1.1.2) (.int .i64 ((rd_T96 t106 x54_3).f0))) (fun _ hk => hk.1.1.2) (.int .i64 ((rd_T96 t106 x54_3).f1))) (fun _ hk => hk.1.1.2) (.int .i64 ((rd_T96 t106 x54_3).f2))) (fun _ hk => hk.1.2) (.int .i64 ((rd_T96 t106 x54_3).f0))) (fun _ hk => hk.2) (.int .i64 (wrap64 (x113001_3 + ((rd_T96 t106 x54_3).f1))))) (fun _ hk => hk.2) (.int .i64 ji41)) (fun _ hk => ⟨hk.1.1.1.1.1, ⟨hk.1.1.1.1.2.1, hk.1.1.1.1.2.2⟩⟩)⟩, ⟨by (with_reducible repeat (first | apply zA | apply zN | apply zD)); exact Kd.R_mono (Kd.R_far (p := ⟨gb112, 2, none⟩) (Kd.R_far (p := ⟨gb112, 1, none⟩) (Kd.R_far (p := ⟨gb111, 3, none⟩) (Kd.R_far (p := ⟨gb114, 2, none⟩) (Kd.R_far (p := ⟨gb114, 1, none⟩) (Kd.R_far (p := ⟨gb114, 0, none⟩) (Kd.R_mono (Kd.R_types (Kd.R_mono HO_52.out (fun k_ hk => (⟨hk, hk.2⟩ : _ ∧ k_ ≠ gb114))) BK111.out (by decide)) (fun k_ hk => (⟨hk, hk.1.1.1.2.2⟩ : _ ∧ k_ ≠ gb112))) (fun _ hk => hk.1.1.2) (.int .i64 ((rd_T96 t106 x54_3).f0))) (fun _ hk => hk.1.1.2) (.int .i64 ((rd_T96 t106 x54_3).f1))) (fun _ hk => hk.1.1.2) (.int .i64 ((rd_T96 t106 x54_3).f2))) (fun _ hk => hk.1.2) (.int .i64 ((rd_T96 t106 x54_3).f0))) (fun _ hk => hk.2) (.int .i64 (wrap64 (x113001_3 + ((rd_T96 t106 x54_3).f1))))) (fun _ hk => hk.2) (.int .i64 ji41)) (fun _ hk => ⟨hk.1.1.1.1.1, ⟨hk.1.1.1.1.2.1, hk.1.1.1.1.2.2⟩⟩)⟩, ⟨by (with_reducible repeat (first | refine zbN ?_ _ | refine zbD ?_ | refine zbA ?_ _)); refine blk_far ?_ NB102_112.out _; (with_reducible repeat (first | refine zbN ?_ _ | refine zbD ?_ | refine zbA ?_ _)); refine blk_far ?_ NB102_112.out _; (with_reducible repeat (first | refine zbN ?_ _ | refine zbD ?_ | refine zbA ?_ _)); refine blk_far ?_ NB102_111.out _; (with_reducible repeat (first | refine zbN ?_ _ | refine zbD ?_ | refine zbA ?_ _)); refine blk_far ?_ NB102_114.out _; (with_reducible repeat (first | refine zbN ?_ _ | refine zbD ?_ | refine zbA ?_ _)); refine blk_far ?_ NB102_114.out _; (with_reducible repeat (first | refine zbN ?_ _ | refine zbD ?_ | refine zbA ?_ _)); refine blk_far ?_ NB102_114.out _; (with_reducible repeat (first | refine zbN ?_ _ | refine zbD ?_ | refine zbA ?_ _)); exact BK102.out⟩, ⟨by (with_reducible repeat (first | refine zbN ?_ _ | refine zbD ?_ | refine zbA ?_ _)); refine blk_far ?_ NB111_112.out _; (with_reducible repeat (first | refine zbN ?_ _ | refine zbD ?_ | refine zbA ?_ _)); refine blk_far ?_ NB111_112.out _; (with_reducible repeat (first | refine zbN ?_ _ | refine zbD ?_ | refine zbA ?_ _)); refine blk_put (cs := #[.int .u8 ((rd_T36 l0 x17_1).f0), .int .i64 0, .int .i64 x112002_3, .int .i64 x112003_3, .int .i64 ji14]) ?_ 3 _ rfl; (with_reducible repeat (first | refine zbN ?_ _ | refine zbD ?_ | refine zbA ?_ _)); refine blk_far ?_ NB111_114.out _; (with_reducible repeat (first | refine zbN ?_ _ | refine zbD ?_ | refine zbA ?_ _)); refine blk_far ?_ NB111_114.out _; (with_reducible repeat (first | refine zbN ?_ _ | refine zbD ?_ | refine zbA ?_ _)); refine blk_far ?_ NB111_114.out _; (with_reducible repeat (first | refine zbN ?_ _ | refine zbD ?_ | refine zbA ?_ _)); exact BK111.out⟩, ⟨by (with_reducible repeat (first | refine zbN ?_ _ | refine zbD ?_ | refine zbA ?_ _)); refine blk_put (cs := #[.int .i64 x17_1, .int .i64 (wrap64 (x113001_3 + ((rd_T96 t106 x54_3).f1))), .int .i64 x113002_3]) ?_ 2 _ rfl; (with_reducible repeat (first | refine zbN ?_ _ | refine zbD ?_ | refine zbA ?_ _)); refine blk_put (cs := #[.int .i64 x17_1, .int .i64 x113001_3, .int .i64 x113002_3]) ?_ 1 _ rfl; (with_reducible repeat (first | refine zbN ?_ _ | refine zbD ?_ | refine zbA ?_ _)); refine blk_far ?_ NB112_111.out _; (with_reducible repeat (first | refine zbN ?_ _ | refine zbD ?_ | refine zbA ?_ _)); refine blk_far ?_ NB112_114.out _; (with_reducible repeat (first | refine zbN ?_ _ | refine zbD ?_ | refine zbA ?_ _)); refine blk_far ?_ NB112_114.out _; (with_reducible repeat (first | refine zbN ?_ _ | refine zbD ?_ | refine zbA ?_ _)); refine blk_far ?_ NB112_114.out _; (with_reducible repeat (first | refine zbN ?_ _ | refine zbD ?_ | refine zbA ?_ _)); exact BK112.out⟩, ⟨by repeat (first | (with_reducible first | exact HB.out | apply zC | apply zP | apply zO | refine zS ?_ GE102.out | refine zS ?_ GE111.out | refine zS ?_ GE112.out | refine zS ?_ GE114.out) | exact HB.out)⟩⟩
             ·
              rw [if_neg c28] at H
              exact absurd H (by simp)
            ·
             rw [if_neg c27] at H
             exact absurd H (by simp)
           ·
            rw [if_neg c26] at H
            have c26b0 : decide (x54_3 < (t106.length : Int)) = false := decide_eq_false c26
            have HO_5z := zM (HPOP.out.row _ _ _ HO_5.out)
            have HO_4z := zM (Kd.R_mono HO_4.out (ok' := fun k_ => some k_ ≠ (v107 : Value).ownBlock ∧ some k_ ≠ (.slice none 0 0 : Value).ownBlock ∧ k_ ≠ gb112) (fun k_ hk => ⟨by rw [HPOP.out.own]; exact hk.1, hk.2⟩))
            have HO_52z := zM (Kd.R_mono HO_52.out (ok' := fun k_ => some k_ ≠ (u4 : Value).ownBlock ∧ some k_ ≠ (v107 : Value).ownBlock ∧ k_ ≠ gb112) (fun k_ hk => ⟨hk.1, by rw [HPOP.out.own]; exact hk.2.1, hk.2.2⟩))
            clear HO_4 HO_5 HO_52
            have HO_4 := HO_4z
            have HO_5 := HO_5z
            have HO_52 := HO_52z
            clear HO_4z HO_5z HO_52z
            clear c26
            by_cases c52 : ((rd_T36 l0 x17_1).f0) = 1
            ·
             rw [if_pos c52] at H
             have c52b0 : (((rd_T36 l0 x17_1).f0) == 1) = true := beq_iff_eq.mpr c52
             have c52b1 : (((rd_T36 l0 x17_1).f0) != 1) = false := bne_eq_false_iff_eq.mpr c52
             clear c52
             obtain ⟨ji53, hji53⟩ : ∃ j_ : Int, (mx ((rd_T36 l0 x17_1).f1) 0) = j_ := ⟨_, rfl⟩
             replace H : (if (!(((rd_T36 l0 x17_1).f0) == ((rd_T36 l0 x17_1).f0)) || (!((ji53) == ((rd_T36 l0 x17_1).f1)) || (!(x112002_3 == ((rd_T36 l0 x17_1).f2)) || (!(x112003_3 == ((rd_T36 l0 x17_1).f3)) || (!(ji14 == ((rd_T36 l0 x17_1).f4))))))) = true then (some (x4_1, false)) else (if t105.length < 5864062014805 then (if x4_1.length < 5864062014805 then (nodes_tops.l0 k3 (x4_1 ++ [(⟨x17_1, x113001_3, x113002_3⟩ : S96)]) (t105 ++ [(⟨x17_1, x113001_3, x113002_3⟩ : S96)]) l0 (l0.length : Int) (wrap64 (x17_1 + 1))) else (none)) else (none))) = some (r1, r2) := by first | (rw [hji53] at H; exact H) | (simp only [hji53] at H ⊢; exact H)
             have hji53_ : (if ((rd_T36 l0 x17_1).f1) < 0 then 0 else ((rd_T36 l0 x17_1).f1)) = ji53 := hji53
             by_cases c54 : (!(((rd_T36 l0 x17_1).f0) == ((rd_T36 l0 x17_1).f0)) || (!((ji53) == ((rd_T36 l0 x17_1).f1)) || (!(x112002_3 == ((rd_T36 l0 x17_1).f2)) || (!(x112003_3 == ((rd_T36 l0 x17_1).f3)) || (!(ji14 == ((rd_T36 l0 x17_1).f4))))))) = true
             ·
              rw [if_pos c54] at H
              have c54b0 : (!(((rd_T36 l0 x17_1).f0) == ((rd_T36 l0 x17_1).f0)) || (!((ji53) == ((rd_T36 l0 x17_1).f1)) || (!(x112002_3 == ((rd_T36 l0 x17_1).f2)) || (!(x112003_3 == ((rd_T36 l0 x17_1).f3)) || (!(ji14 == ((rd_T36 l0 x17_1).f4))))))) = true := c54
              have c54b0s : (!((ji53) == ((rd_T36 l0 x17_1).f1)) || (!(x112002_3 == ((rd_T36 l0 x17_1).f2)) || (!(x112003_3 == ((rd_T36 l0 x17_1).f3)) || (!(ji14 == ((rd_T36 l0 x17_1).f4)))))) = true := by simpa only [beq_self_eq_true, Bool.not_true, Bool.false_or] using c54b0
              clear c54b0
              clear c54
              simp only [Option.some.injEq, Prod.mk.injEq] at H
              obtain ⟨rfl, rfl⟩ := H
              have hnb55 := NB102_111.out
              have hnc55 := NB111_102.out
              have hnb56 := NB102_112.out
              have hnc56 := NB112_102.out
              refine node_cells_ BK102.out fun hcz57_0 hcz57_1 hcz57_2 hcz57_3 hcz57_4 hfz57_0 hfz57_1 hfz57_2 hfz57_3 hfz57_4 => ?_
              have hnb58 := NB111_112.out
              have hnc58 := NB112_111.out
              refine node_cells_ BK111.out fun hcz59_0 hcz59_1 hcz59_2 hcz59_3 hcz59_4 hfz59_0 hfz59_1 hfz59_2 hfz59_3 hfz59_4 => ?_
              go_wp2
              go_ret2
              exact ⟨_, by first | rfl | (simp [errW_none, errW_some] <;> rfl) | (simp only [← hji13, ← hji14, ← hji53]; first | rfl | (simp [errW_none, errW_some] <;> rfl)) | (simp [*, errW_none, errW_some] <;> rfl), by (with_reducible repeat (first | apply zA | apply zN | apply zD)); exact Kd.R_mono (Kd.R_far (p := ⟨gb111, 1, none⟩) (Kd.R_types HO_4.out BK111.out (by decide)) (fun _ hk => hk.2) (.int .i64 ji53)) (fun _ hk => trivial), by repeat (first | (with_reducible first | exact HB.out | apply zC | apply zP | apply zO | refine zS ?_ GE102.out | refine zS ?_ GE111.out | refine zS ?_ GE112.out) | exact HB.out)⟩
             ·
              rw [if_neg c54] at H
              have c54b0 : (!(((rd_T36 l0 x17_1).f0) == ((rd_T36 l0 x17_1).f0)) || (!((ji53) == ((rd_T36 l0 x17_1).f1)) || (!(x112002_3 == ((rd_T36 l0 x17_1).f2)) || (!(x112003_3 == ((rd_T36 l0 x17_1).f3)) || (!(ji14 == ((rd_T36 l0 x17_1).f4))))))) = false := by simpa using c54
              have c54b0s : (!((ji53) == ((rd_T36 l0 x17_1).f1)) || (!(x112002_3 == ((rd_T36 l0 x17_1).f2)) || (!(x112003_3 == ((rd_T36 l0 x17_1).f3)) || (!(ji14 == ((rd_T36 l0 x17_1).f4)))))) = false := by simpa only [beq_self_eq_true, Bool.not_true, Bool.false_or] using c54b0
              clear c54b0
              clear c54
              by_cases c60 : t105.length < 5864062014805
              ·
               rw [if_pos c60] at H
               have LMc60 := zM c60
               clear c60
               obtain ⟨y115, hy115⟩ : ∃ y_ : List (S96), y_ = (t105 ++ [(⟨x17_1, x113001_3, x113002_3⟩ : S96)]) := ⟨_, rfl⟩
               replace H : (if x4_1.length < 5864062014805 then (nodes_tops.l0 k3 (x4_1 ++ [(⟨x17_1, x113001_3, x113002_3⟩ : S96)]) y115 l0 (l0.length : Int) (wrap64 (x17_1 + 1))) else (none)) = some (r1, r2) := by first | (rw [hy115]; with_reducible exact H) | (have H2_ := (Option.bind_some _ _).symm.trans H; rw [hy115]; with_reducible exact H2_) | (have H2_ := (Option.bind_some _ _).symm.trans H; with_reducible exact H2_) | with_reducible exact H | (rw [hy115]; exact H) | exact H
               have Ny115 := zM hy115
               clear hy115
               by_cases c61 : x4_1.length < 5864062014805
               ·
                rw [if_pos c61] at H
                have LMc61 := zM c61
                clear c61
                obtain ⟨y118, hy118⟩ : ∃ y_ : List (S96), y_ = (x4_1 ++ [(⟨x17_1, x113001_3, x113002_3⟩ : S96)]) := ⟨_, rfl⟩
                replace H : (nodes_tops.l0 k3 y118 y115 l0 (l0.length : Int) (wrap64 (x17_1 + 1))) = some (r1, r2) := by first | (rw [hy118]; with_reducible exact H) | (have H2_ := (Option.bind_some _ _).symm.trans H; rw [hy118]; with_reducible exact H2_) | (have H2_ := (Option.bind_some _ _).symm.trans H; with_reducible exact H2_) | with_reducible exact H | (rw [hy118]; exact H) | exact H
                have Ny118 := zM hy118
                clear hy118
                have H' := zM H
                clear H
                have hnb62 := NB102_111.out
                have hnc62 := NB111_102.out
                have hnb63 := NB102_112.out
                have hnc63 := NB112_102.out
                refine node_cells_ BK102.out fun hcz64_0 hcz64_1 hcz64_2 hcz64_3 hcz64_4 hfz64_0 hfz64_1 hfz64_2 hfz64_3 hfz64_4 => ?_
                have hnb65 := NB111_112.out
                have hnc65 := NB112_111.out
                refine node_cells_ BK111.out fun hcz66_0 hcz66_1 hcz66_2 hcz66_3 hcz66_4 hfz66_0 hfz66_1 hfz66_2 hfz66_3 hfz66_4 => ?_
                refine win_cells_ BK112.out fun hcz67_0 hcz67_1 hcz67_2 hfz67_0 hfz67_1 hfz67_2 => ?_
                go_wp2_with (first | ((with_reducible refine gate_builtin (b := .append) (xs := #[.tmp 92, .tmp 94]) rfl ?_); (try (refine gate_guard (by rfl) ?_; dsimp only)); at_builtin; refine Kd.R_append k96 (w0 := w) w.heap.size rfl (.tmp 92) (.tmp 94) 92 96 (.agg #[(.int .i64 0), (.int .i64 0), (.int .i64 0)]) 24 rfl Try.underlying92 info96x rfl (by decide) (by omega) v107 t105 (⟨x17_1, x113001_3, x113002_3⟩ : S96) [.int .i64 x17_1, .int .i64 x113001_3, .int .i64 x113002_3] (fun k_ => some k_ ≠ (u4 : Value).ownBlock ∧ some k_ ≠ (.slice none 0 0 : Value).ownBlock ∧ k_ ≠ gb112) (fun _ => False) rfl (by first | (go_simp; done) | (go_simp; rfl)) ?aP (fun _ hk => hk.elim) ?aF ?aO ?aB ?aS ?aL ?_; (case aP => exact k96_mkM _ _ _ (⟨x17_1, x113001_3, x113002_3⟩ : S96)); (case aB => exact (by repeat (first | (with_reducible first | exact HB.out | apply zC | apply zP | apply zO | refine zS ?_ GE102.out | refine zS ?_ GE111.out | refine zS ?_ GE112.out) | exact HB.out))); (case aF => exact (fun k_ hk => ⟨Kd.fresh' (zL (by (with_reducible repeat (first | apply zA | apply zN | apply zD)); exact (Kd.R_mono (Kd.R_far (p := ⟨gb111, 1, none⟩) (Kd.R_types HO_4.out BK111.out (by decide)) (fun _ hk => hk.2) (.int .i64 ji53)) (fun _ h_ => h_.1)))) k_ hk, Kd.fresh' (zL (by (with_reducible repeat (first | apply zA | apply zN | apply zD)); exact (Kd.R_mono (Kd.R_far (p := ⟨gb111, 1, none⟩) (Kd.R_types HO_52.out BK111.out (by decide)) (fun _ hk => hk.2) (.int .i64 ji53)) (fun _ h_ => h_.1)))) k_ hk, Kd.freshB (g := gb112) (o := .cells #[.int .i64 x17_1, .int .i64 x113001_3, .int .i64 x113002_3] 96 (0, 0)) (by (with_reducible repeat (first | refine zbN ?_ _ | refine zbD ?_ | refine zbA ?_ _)); refine blk_far ?_ NB112_111.out _; (with_reducible repeat (first | refine zbN ?_ _ | refine zbD ?_ | refine zbA ?_ _)); exact BK112.out) k_ hk⟩)); (case aO => exact (by (with_reducible repeat (first | apply zA | apply zN | apply zD)); exact Kd.R_mono (Kd.R_far (p := ⟨gb111, 1, none⟩) (Kd.R_types HO_5.out BK111.out (by decide)) (fun _ hk => hk.2) (.int .i64 ji53)) (fun _ hk => ⟨hk.1.1, ⟨hk.1.2.1, hk.1.2.2⟩⟩))); (case aS => exact (zZ (by repeat (first | (with_reducible first | exact HB.out | apply zC | apply zP | apply zO | refine zS ?_ GE102.out | refine zS ?_ GE111.out | refine zS ?_ GE112.out) | exact HB.out)))); (case aL => have := LMc60.out; omega); intro v116 w68 ho hb hg hat; rw [← Ny115.out] at ho; have n0_ := zM (Kd.R_after (ok := (fun k_ => some k_ ≠ (.slice none 0 0 : Value).ownBlock ∧ k_ ≠ gb112)) (by (with_reducible repeat (first | apply zA | apply zN | apply zD)); exact Kd.R_mono (Kd.R_far (p := ⟨gb111, 1, none⟩) (Kd.R_types HO_4.out BK111.out (by decide)) (fun _ hk => hk.2) (.int .i64 ji53)) (fun _ hk => ⟨⟨hk.1.2.1, hk.1.2.2⟩, hk.1.1⟩)) hg hat); have n1_ := zM (Kd.R_after (ok := (fun k_ => some k_ ≠ (u4 : Value).ownBlock ∧ k_ ≠ gb112)) (by (with_reducible repeat (first | apply zA | apply zN | apply zD)); exact Kd.R_mono (Kd.R_far (p := ⟨gb111, 1, none⟩) (Kd.R_types HO_52.out BK111.out (by decide)) (fun _ hk => hk.2) (.int .i64 ji53)) (fun _ hk => ⟨⟨hk.1.1, hk.1.2.2⟩, hk.1.2.1⟩)) hg hat); have n2_ := zM (blk_grown (g := gb102) (o := .cells #[.int .u8 ((rd_T36 l0 x17_1).f0), .int .i64 ((rd_T36 l0 x17_1).f1), .int .i64 ((rd_T36 l0 x17_1).f2), .int .i64 ((rd_T36 l0 x17_1).f3), .int .i64 ((rd_T36 l0 x17_1).f4)] 36 (0, 0)) (by (with_reducible repeat (first | refine zbN ?_ _ | refine zbD ?_ | refine zbA ?_ _)); refine blk_far ?_ NB102_111.out _; (with_reducible repeat (first | refine zbN ?_ _ | refine zbD ?_ | refine zbA ?_ _)); exact BK102.out) hg (Kd.R_ne HO_5.out BK102.out (by decide))); have n3_ := zM (blk_grown (g := gb111) (o := .cells #[.int .u8 ((rd_T36 l0 x17_1).f0), .int .i64 ji53, .int .i64 x112002_3, .int .i64 x112003_3, .int .i64 ji14] 36 (0, 0)) (by (with_reducible repeat (first | refine zbN ?_ _ | refine zbD ?_ | refine zbA ?_ _)); refine blk_put (cs := #[.int .u8 ((rd_T36 l0 x17_1).f0), .int .i64 0, .int .i64 x112002_3, .int .i64 x112003_3, .int .i64 ji14]) ?_ 1 _ rfl; (with_reducible repeat (first | refine zbN ?_ _ | refine zbD ?_ | refine zbA ?_ _)); exact BK111.out) hg (Kd.R_ne HO_5.out BK111.out (by decide))); have n4_ := zM (blk_grown (g := gb112) (o := .cells #[.int .i64 x17_1, .int .i64 x113001_3, .int .i64 x113002_3] 96 (0, 0)) (by (with_reducible repeat (first | refine zbN ?_ _ | refine zbD ?_ | refine zbA ?_ _)); refine blk_far ?_ NB112_111.out _; (with_reducible repeat (first | refine zbN ?_ _ | refine zbD ?_ | refine zbA ?_ _)); exact BK112.out) hg (Kd.R_away HO_5.out (fun _ hk => hk.2.2))); have n5_ := zM (hb); have n6_ := zM (ho); clear HO_4; clear HO_52; clear BK102; clear BK111; clear BK112; clear HB; clear HO_5; have HO_4 := n0_; have HO_52 := n1_; have BK102 := n2_; have BK111 := n3_; have BK112 := n4_; have HB := n5_; have HO117 := n6_; clear n0_ n1_ n2_ n3_ n4_ n5_ n6_; clear ho hb hg hat; refine win_cells_ BK112.out fun hcz69_0 hcz69_1 hcz69_2 hfz69_0 hfz69_1 hfz69_2 => ?_) | ((with_reducible refine gate_builtin (b := .append) (xs := #[.tmp 96, .tmp 98]) rfl ?_); (try (refine gate_guard (by rfl) ?_; dsimp only)); at_builtin; refine Kd.R_append k96 (w0 := w) w.heap.size rfl (.tmp 96) (.tmp 98) 92 96 (.agg #[(.int .i64 0), (.int .i64 0), (.int .i64 0)]) 24 rfl Try.underlying92 info96x rfl (by decide) (by omega) u4 x4_1 (⟨x17_1, x113001_3, x113002_3⟩ : S96) [.int .i64 x17_1, .int .i64 x113001_3, .int .i64 x113002_3] (fun k_ => some k_ ≠ (.slice none 0 0 : Value).ownBlock ∧ some k_ ≠ (v116 : Value).ownBlock ∧ k_ ≠ gb112) (fun _ => False) rfl rfl ?aP (fun _ hk => hk.elim) ?aF ?aO ?aB ?aS ?aL ?_; (case aP => exact k96_mkM _ _ _ (⟨x17_1, x113001_3, x113002_3⟩ : S96)); (case aB => exact (by repeat (first | (with_reducible first | exact HB.out | apply zC | apply zP | apply zO | refine zS ?_ GE102.out | refine zS ?_ GE111.out | refine zS ?_ GE112.out) | exact HB.out))); (case aF => exact (fun k_ hk => ⟨Kd.fresh' (zL (by (with_reducible repeat (first | apply zA | apply zN | apply zD)); exact HO_52.out)) k_ hk, Kd.fresh' (zL (by (with_reducible repeat (first | apply zA | apply zN | apply zD)); exact HO117.out)) k_ hk, Kd.freshB (g := gb112) (o := .cells #[.int .i64 x17_1, .int .i64 x113001_3, .int .i64 x113002_3] 96 (0, 0)) (by (with_reducible repeat (first | refine zbN ?_ _ | refine zbD ?_ | refine zbA ?_ _)); exact BK112.out) k_ hk⟩)); (case aO => exact (by (with_reducible repeat (first | apply zA | apply zN | apply zD)); exact Kd.R_mono HO_4.out (fun _ hk => ⟨hk.1.1, ⟨hk.2, hk.1.2⟩⟩))); (case aS => exact (zZ (by repeat (first | (with_reducible first | exact HB.out | apply zC | apply zP | apply zO | refine zS ?_ GE102.out | refine zS ?_ GE111.out | refine zS ?_ GE112.out) | exact HB.out)))); (case aL => have := LMc61.out; omega); intro v119 w70 ho hb hg hat; rw [← Ny118.out] at ho; have n0_ := zM (Kd.R_after (ok := (fun k_ => some k_ ≠ (v116 : Value).ownBlock ∧ k_ ≠ gb112)) (by (with_reducible repeat (first | apply zA | apply zN | apply zD)); exact Kd.R_mono HO_52.out (fun _ hk => ⟨⟨hk.2, hk.1.2⟩, hk.1.1⟩)) hg hat); have n1_ := zM (blk_grown (g := gb102) (o := .cells #[.int .u8 ((rd_T36 l0 x17_1).f0), .int .i64 ((rd_T36 l0 x17_1).f1), .int .i64 ((rd_T36 l0 x17_1).f2), .int .i64 ((rd_T36 l0 x17_1).f3), .int .i64 ((rd_T36 l0 x17_1).f4)] 36 (0, 0)) (by (with_reducible repeat (first | refine zbN ?_ _ | refine zbD ?_ | refine zbA ?_ _)); exact BK102.out) hg (Kd.R_ne HO_4.out BK102.out (by decide))); have n2_ := zM (blk_grown (g := gb111) (o := .cells #[.int .u8 ((rd_T36 l0 x17_1).f0), .int .i64 ji53, .int .i64 x112002_3, .int .i64 x112003_3, .int .i64 ji14] 36 (0, 0)) (by (with_reducible repeat (first | refine zbN ?_ _ | refine zbD ?_ | refine zbA ?_ _)); exact BK111.out) hg (Kd.R_ne HO_4.out BK111.out (by decide))); have n3_ := zM (blk_grown (g := gb112) (o := .cells #[.int .i64 x17_1, .int .i64 x113001_3, .int .i64 x113002_3] 96 (0, 0)) (by (with_reducible repeat (first | refine zbN ?_ _ | refine zbD ?_ | refine zbA ?_ _)); exact BK112.out) hg (Kd.R_away HO_4.out (fun _ hk => hk.1.2))); have n4_ := zM (Kd.R_after (ok := (fun k_ => some k_ ≠ (.slice none 0 0 : Value).ownBlock ∧ k_ ≠ gb112)) (by (with_reducible repeat (first | apply zA | apply zN | apply zD)); exact Kd.R_mono HO117.out (fun _ hk => ⟨⟨hk.2.1, hk.2.2⟩, hk.1⟩)) hg hat); have n5_ := zM (hb); have n6_ := zM (ho); clear HO_52; clear BK102; clear BK111; clear BK112; clear HO117; clear HB; clear HO_4; have HO_52 := n0_; have BK102 := n1_; have BK111 := n2_; have BK112 := n3_; have HO117 := n4_; have HB := n5_; have HO120 := n6_; clear n0_ n1_ n2_ n3_ n4_ n5_ n6_; clear ho hb hg hat))
                go_roundg k3
                case measure => have := HK1.out; have := HJ5.out; have := HK3.out; omega
                case rel => exact ⟨(y118), (y115), (wrap64 (x17_1 + 1)), (by first | rfl | (simp; done) | (simp [*]; done)), H', ⟨by have := HK1.out; have := HJ5.out; have := HK3.out; omega⟩, ⟨by (with_reducible repeat (first | apply zA | apply zN | apply zD)); exact Kd.R_mono HO120.out (fun _ hk => hk.2.1)⟩, ⟨by (with_reducible repeat (first | apply zA | apply zN | apply zD)); exact Kd.R_mono HO117.out (fun _ hk => hk.2)⟩, ⟨by repeat (first | (with_reducible first | exact HB.out | apply zC | apply zP | apply zO | refine zS ?_ GE102.out | refine zS ?_ GE111.out | refine zS ?_ GE112.out) | exact HB.out)⟩⟩
               ·
                rw [if_neg c61] at H
                exact absurd H (by simp)
              ·
               rw [if_neg c60] at H
               exact absurd H (by simp)
            ·
             rw [if_neg c52] at H
             have c52b0 : (((rd_T36 l0 x17_1).f0) == 1) = false := beq_eq_false_iff_ne.mpr c52
             have c52b1 : (((rd_T36 l0 x17_1).f0) != 1) = true := bne_iff_ne.mpr c52
             by_cases c71 : (!(((rd_T36 l0 x17_1).f0) == ((rd_T36 l0 x17_1).f0)) || (!(0 == ((rd_T36 l0 x17_1).f1)) || (!(x112002_3 == ((rd_T36 l0 x17_1).f2)) || (!(x112003_3 == ((rd_T36 l0 x17_1).f3)) || (!(ji14 == ((rd_T36 l0 x17_1).f4))))))) = true
             ·
              rw [if_pos c71] at H
              have c71b0 : (!(((rd_T36 l0 x17_1).f0) == ((rd_T36 l0 x17_1).f0)) || (!(0 == ((rd_T36 l0 x17_1).f1)) || (!(x112002_3 == ((rd_T36 l0 x17_1).f2)) || (!(x112003_3 == ((rd_T36 l0 x17_1).f3)) || (!(ji14 == ((rd_T36 l0 x17_1).f4))))))) = true := c71
              have c71b0s : (!(0 == ((rd_T36 l0 x17_1).f1)) || (!(x112002_3 == ((rd_T36 l0 x17_1).f2)) || (!(x112003_3 == ((rd_T36 l0 x17_1).f3)) || (!(ji14 == ((rd_T36 l0 x17_1).f4)))))) = true := by simpa only [beq_self_eq_true, Bool.not_true, Bool.false_or] using c71b0
              clear c71b0
              clear c71
              simp only [Option.some.injEq, Prod.mk.injEq] at H
              obtain ⟨rfl, rfl⟩ := H
              have hnb72 := NB102_111.out
              have hnc72 := NB111_102.out
              have hnb73 := NB102_112.out
              have hnc73 := NB112_102.out
              refine node_cells_ BK102.out fun hcz74_0 hcz74_1 hcz74_2 hcz74_3 hcz74_4 hfz74_0 hfz74_1 hfz74_2 hfz74_3 hfz74_4 => ?_
              have hnb75 := NB111_112.out
              have hnc75 := NB112_111.out
              refine node_cells_ BK111.out fun hcz76_0 hcz76_1 hcz76_2 hcz76_3 hcz76_4 hfz76_0 hfz76_1 hfz76_2 hfz76_3 hfz76_4 => ?_
              go_wp2
              go_ret2
              exact ⟨_, by first | rfl | (simp [errW_none, errW_some] <;> rfl) | (simp only [← hji13, ← hji14]; first | rfl | (simp [errW_none, errW_some] <;> rfl)) | (simp [*, errW_none, errW_some] <;> rfl), by (with_reducible repeat (first | apply zA | apply zN | apply zD)); exact Kd.R_mono HO_4.out (fun _ hk => trivial), by repeat (first | (with_reducible first | exact HB.out | apply zC | apply zP | apply zO | refine zS ?_ GE102.out | refine zS ?_ GE111.out | refine zS ?_ GE112.out) | exact HB.out)⟩
             ·
              rw [if_neg c71] at H
              have c71b0 : (!(((rd_T36 l0 x17_1).f0) == ((rd_T36 l0 x17_1).f0)) || (!(0 == ((rd_T36 l0 x17_1).f1)) || (!(x112002_3 == ((rd_T36 l0 x17_1).f2)) || (!(x112003_3 == ((rd_T36 l0 x17_1).f3)) || (!(ji14 == ((rd_T36 l0 x17_1).f4))))))) = false := by simpa using c71
              have c71b0s : (!(0 == ((rd_T36 l0 x17_1).f1)) || (!(x112002_3 == ((rd_T36 l0 x17_1).f2)) || (!(x112003_3 == ((rd_T36 l0 x17_1).f3)) || (!(ji14 == ((rd_T36 l0 x17_1).f4)))))) = false := by simpa only [beq_self_eq_true, Bool.not_true, Bool.false_or] using c71b0
              clear c71b0
              clear c71
              by_cases c77 : t105.length < 5864062014805
              ·
               rw [if_pos c77] at H
               have LMc77 := zM c77
               clear c77
               obtain ⟨y121, hy121⟩ : ∃ y_ : List (S96), y_ = (t105 ++ [(⟨x17_1, x113001_3, x113002_3⟩ : S96)]) := ⟨_, rfl⟩
               replace H : (if x4_1.length < 5864062014805 then (nodes_tops.l0 k3 (x4_1 ++ [(⟨x17_1, x113001_3, x113002_3⟩ : S96)]) y121 l0 (l0.length : Int) (wrap64 (x17_1 + 1))) else (none)) = some (r1, r2) := by first | (rw [hy121]; with_reducible exact H) | (have H2_ := (Option.bind_some _ _).symm.trans H; rw [hy121]; with_reducible exact H2_) | (have H2_ := (Option.bind_some _ _).symm.trans H; with_reducible exact H2_) | with_reducible exact H | (rw [hy121]; exact H) | exact H
               have Ny121 := zM hy121
               clear hy121
               by_cases c78 : x4_1.length < 5864062014805
               ·
                rw [if_pos c78] at H
                have LMc78 := zM c78
                clear c78
                obtain ⟨y124, hy124⟩ : ∃ y_ : List (S96), y_ = (x4_1 ++ [(⟨x17_1, x113001_3, x113002_3⟩ : S96)]) := ⟨_, rfl⟩
                replace H : (nodes_tops.l0 k3 y124 y121 l0 (l0.length : Int) (wrap64 (x17_1 + 1))) = some (r1, r2) := by first | (rw [hy124]; with_reducible exact H) | (have H2_ := (Option.bind_some _ _).symm.trans H; rw [hy124]; with_reducible exact H2_) | (have H2_ := (Option.bind_some _ _).symm.trans H; with_reducible exact H2_) | with_reducible exact H | (rw [hy124]; exact H) | exact H
                have Ny124 := zM hy124
                clear hy124
                have H' := zM H
                clear H
                have hnb79 := NB102_111.out
                have hnc79 := NB111_102.out
                have hnb80 := NB102_112.out
                have hnc80 := NB112_102.out
                refine node_cells_ BK102.out fun hcz81_0 hcz81_1 hcz81_2 hcz81_3 hcz81_4 hfz81_0 hfz81_1 hfz81_2 hfz81_3 hfz81_4 => ?_
                have hnb82 := NB111_112.out
                have hnc82 := NB112_111.out
                refine node_cells_ BK111.out fun hcz83_0 hcz83_1 hcz83_2 hcz83_3 hcz83_4 hfz83_0 hfz83_1 hfz83_2 hfz83_3 hfz83_4 => ?_
                refine win_cells_ BK112.out fun hcz84_0 hcz84_1 hcz84_2 hfz84_0 hfz84_1 hfz84_2 => ?_
                go_wp2_with (first | ((with_reducible refine gate_builtin (b := .append) (xs := #[.tmp 92, .tmp 94]) rfl ?_); (try (refine gate_guard (by rfl) ?_; dsimp only)); at_builtin; refine Kd.R_append k96 (w0 := w) w.heap.size rfl (.tmp 92) (.tmp 94) 92 96 (.agg #[(.int .i64 0), (.int .i64 0), (.int .i64 0)]) 24 rfl Try.underlying92 info96x rfl (by decide) (by omega) v107 t105 (⟨x17_1, x113001_3, x113002_3⟩ : S96) [.int .i64 x17_1, .int .i64 x113001_3, .int .i64 x113002_3] (fun k_ => some k_ ≠ (u4 : Value).ownBlock ∧ some k_ ≠ (.slice none 0 0 : Value).ownBlock ∧ k_ ≠ gb112) (fun _ => False) rfl rfl ?aP (fun _ hk => hk.elim) ?aF ?aO ?aB ?aS ?aL ?_; (case aP => exact k96_mkM _ _ _ (⟨x17_1, x113001_3, x113002_3⟩ : S96)); (case aB => exact (by repeat (first | (with_reducible first | exact HB.out | apply zC | apply zP | apply zO | refine zS ?_ GE102.out | refine zS ?_ GE111.out | refine zS ?_ GE112.out) | exact HB.out))); (case aF => exact (fun k_ hk => ⟨Kd.fresh' (zL (by (with_reducible repeat (first | apply zA | apply zN | apply zD)); exact HO_4.out)) k_ hk, Kd.fresh' (zL (by (with_reducible repeat (first | apply zA | apply zN | apply zD)); exact HO_52.out)) k_ hk, Kd.freshB (g := gb112) (o := .cells #[.int .i64 x17_1, .int .i64 x113001_3, .int .i64 x113002_3] 96 (0, 0)) (by (with_reducible repeat (first | refine zbN ?_ _ | refine zbD ?_ | refine zbA ?_ _)); exact BK112.out) k_ hk⟩)); (case aO => exact (by (with_reducible repeat (first | apply zA | apply zN | apply zD)); exact HO_5.out)); (case aS => exact (zZ (by repeat (first | (with_reducible first | exact HB.out | apply zC | apply zP | apply zO | refine zS ?_ GE102.out | refine zS ?_ GE111.out | refine zS ?_ GE112.out) | exact HB.out)))); (case aL => have := LMc77.out; omega); intro v122 w85 ho hb hg hat; rw [← Ny121.out] at ho; have n0_ := zM (Kd.R_after (ok := (fun k_ => some k_ ≠ (.slice none 0 0 : Value).ownBlock ∧ k_ ≠ gb112)) (by (with_reducible repeat (first | apply zA | apply zN | apply zD)); exact Kd.R_mono HO_4.out (fun _ hk => ⟨⟨hk.2.1, hk.2.2⟩, hk.1⟩)) hg hat); have n1_ := zM (Kd.R_after (ok := (fun k_ => some k_ ≠ (u4 : Value).ownBlock ∧ k_ ≠ gb112)) (by (with_reducible repeat (first | apply zA | apply zN | apply zD)); exact Kd.R_mono HO_52.out (fun _ hk => ⟨⟨hk.1, hk.2.2⟩, hk.2.1⟩)) hg hat); have n2_ := zM (blk_grown (g := gb102) (o := .cells #[.int .u8 ((rd_T36 l0 x17_1).f0), .int .i64 ((rd_T36 l0 x17_1).f1), .int .i64 ((rd_T36 l0 x17_1).f2), .int .i64 ((rd_T36 l0 x17_1).f3), .int .i64 ((rd_T36 l0 x17_1).f4)] 36 (0, 0)) (by (with_reducible repeat (first | refine zbN ?_ _ | refine zbD ?_ | refine zbA ?_ _)); exact BK102.out) hg (Kd.R_ne HO_5.out BK102.out (by decide))); have n3_ := zM (blk_grown (g := gb111) (o := .cells #[.int .u8 ((rd_T36 l0 x17_1).f0), .int .i64 0, .int .i64 x112002_3, .int .i64 x112003_3, .int .i64 ji14] 36 (0, 0)) (by (with_reducible repeat (first | refine zbN ?_ _ | refine zbD ?_ | refine zbA ?_ _)); exact BK111.out) hg (Kd.R_ne HO_5.out BK111.out (by decide))); have n4_ := zM (blk_grown (g := gb112) (o := .cells #[.int .i64 x17_1, .int .i64 x113001_3, .int .i64 x113002_3] 96 (0, 0)) (by (with_reducible repeat (first | refine zbN ?_ _ | refine zbD ?_ | refine zbA ?_ _)); exact BK112.out) hg (Kd.R_away HO_5.out (fun _ hk => hk.2.2))); have n5_ := zM (hb); have n6_ := zM (ho); clear HO_4; clear HO_52; clear BK102; clear BK111; clear BK112; clear HB; clear HO_5; have HO_4 := n0_; have HO_52 := n1_; have BK102 := n2_; have BK111 := n3_; have BK112 := n4_; have HB := n5_; have HO123 := n6_; clear n0_ n1_ n2_ n3_ n4_ n5_ n6_; clear ho hb hg hat; refine win_cells_ BK112.out fun hcz86_0 hcz86_1 hcz86_2 hfz86_0 hfz86_1 hfz86_2 => ?_) | ((with_reducible refine gate_builtin (b := .append) (xs := #[.tmp 96, .tmp 98]) rfl ?_); (try (refine gate_guard (by rfl) ?_; dsimp only)); at_builtin; refine Kd.R_append k96 (w0 := w) w.heap.size rfl (.tmp 96) (.tmp 98) 92 96 (.agg #[(.int .i64 0), (.int .i64 0), (.int .i64 0)]) 24 rfl Try.underlying92 info96x rfl (by decide) (by omega) u4 x4_1 (⟨x17_1, x113001_3, x113002_3⟩ : S96) [.int .i64 x17_1, .int .i64 x113001_3, .int .i64 x113002_3] (fun k_ => some k_ ≠ (.slice none 0 0 : Value).ownBlock ∧ some k_ ≠ (v122 : Value).ownBlock ∧ k_ ≠ gb112) (fun _ => False) rfl rfl ?aP (fun _ hk => hk.elim) ?aF ?aO ?aB ?aS ?aL ?_; (case aP => exact k96_mkM _ _ _ (⟨x17_1, x113001_3, x113002_3⟩ : S96)); (case aB => exact (by repeat (first | (with_reducible first | exact HB.out | apply zC | apply zP | apply zO | refine zS ?_ GE102.out | refine zS ?_ GE111.out | refine zS ?_ GE112.out) | exact HB.out))); (case aF => exact (fun k_ hk => ⟨Kd.fresh' (zL (by (with_reducible repeat (first | apply zA | apply zN | apply zD)); exact HO_52.out)) k_ hk, Kd.fresh' (zL (by (with_reducible repeat (first | apply zA | apply zN | apply zD)); exact HO123.out)) k_ hk, Kd.freshB (g := gb112) (o := .cells #[.int .i64 x17_1, .int .i64 x113001_3, .int .i64 x113002_3] 96 (0, 0)) (by (with_reducible repeat (first | refine zbN ?_ _ | refine zbD ?_ | refine zbA ?_ _)); exact BK112.out) k_ hk⟩)); (case aO => exact (by (with_reducible repeat (first | apply zA | apply zN | apply zD)); exact Kd.R_mono HO_4.out (fun _ hk => ⟨hk.1.1, ⟨hk.2, hk.1.2⟩⟩))); (case aS => exact (zZ (by repeat (first | (with_reducible first | exact HB.out | apply zC | apply zP | apply zO | refine zS ?_ GE102.out | refine zS ?_ GE111.out | refine zS ?_ GE112.out) | exact HB.out)))); (case aL => have := LMc78.out; omega); intro v125 w87 ho hb hg hat; rw [← Ny124.out] at ho; have n0_ := zM (Kd.R_after (ok := (fun k_ => some k_ ≠ (v122 : Value).ownBlock ∧ k_ ≠ gb112)) (by (with_reducible repeat (first | apply zA | apply zN | apply zD)); exact Kd.R_mono HO_52.out (fun _ hk => ⟨⟨hk.2, hk.1.2⟩, hk.1.1⟩)) hg hat); have n1_ := zM (blk_grown (g := gb102) (o := .cells #[.int .u8 ((rd_T36 l0 x17_1).f0), .int .i64 ((rd_T36 l0 x17_1).f1), .int .i64 ((rd_T36 l0 x17_1).f2), .int .i64 ((rd_T36 l0 x17_1).f3), .int .i64 ((rd_T36 l0 x17_1).f4)] 36 (0, 0)) (by (with_reducible repeat (first | refine zbN ?_ _ | refine zbD ?_ | refine zbA ?_ _)); exact BK102.out) hg (Kd.R_ne HO_4.out BK102.out (by decide))); have n2_ := zM (blk_grown (g := gb111) (o := .cells #[.int .u8 ((rd_T36 l0 x17_1).f0), .int .i64 0, .int .i64 x112002_3, .int .i64 x112003_3, .int .i64 ji14] 36 (0, 0)) (by (with_reducible repeat (first | refine zbN ?_ _ | refine zbD ?_ | refine zbA ?_ _)); exact BK111.out) hg (Kd.R_ne HO_4.out BK111.out (by decide))); have n3_ := zM (blk_grown (g := gb112) (o := .cells #[.int .i64 x17_1, .int .i64 x113001_3, .int .i64 x113002_3] 96 (0, 0)) (by (with_reducible repeat (first | refine zbN ?_ _ | refine zbD ?_ | refine zbA ?_ _)); exact BK112.out) hg (Kd.R_away HO_4.out (fun _ hk => hk.1.2))); have n4_ := zM (Kd.R_after (ok := (fun k_ => some k_ ≠ (.slice none 0 0 : Value).ownBlock ∧ k_ ≠ gb112)) (by (with_reducible repeat (first | apply zA | apply zN | apply zD)); exact Kd.R_mono HO123.out (fun _ hk => ⟨⟨hk.2.1, hk.2.2⟩, hk.1⟩)) hg hat); have n5_ := zM (hb); have n6_ := zM (ho); clear HO_52; clear BK102; clear BK111; clear BK112; clear HO123; clear HB; clear HO_4; have HO_52 := n0_; have BK102 := n1_; have BK111 := n2_; have BK112 := n3_; have HO123 := n4_; have HB := n5_; have HO126 := n6_; clear n0_ n1_ n2_ n3_ n4_ n5_ n6_; clear ho hb hg hat))
                go_roundg k3
                case measure => have := HK1.out; have := HJ5.out; have := HK3.out; omega
                case rel => exact ⟨(y124), (y121), (wrap64 (x17_1 + 1)), (by first | rfl | (simp; done) | (simp [*]; done)), H', ⟨by have := HK1.out; have := HJ5.out; have := HK3.out; omega⟩, ⟨by (with_reducible repeat (first | apply zA | apply zN | apply zD)); exact Kd.R_mono HO126.out (fun _ hk => hk.2.1)⟩, ⟨by (with_reducible repeat (first | apply zA | apply zN | apply zD)); exact Kd.R_mono HO123.out (fun _ hk => hk.2)⟩, ⟨by repeat (first | (with_reducible first | exact HB.out | apply zC | apply zP | apply zO | refine zS ?_ GE102.out | refine zS ?_ GE111.out | refine zS ?_ GE112.out) | exact HB.out)⟩⟩
               ·
                rw [if_neg c78] at H
                exact absurd H (by simp)
              ·
               rw [if_neg c77] at H
               exact absurd H (by simp)
     ·
      rw [if_neg c4] at H
      exact absurd H (by simp)
    ·
     rw [if_neg c3] at H
     exact absurd H (by simp)
   ·
    rw [if_neg c2] at H
    have c2b0 : decide (x17_1 < (l0.length : Int)) = false := decide_eq_false c2
    clear c2
    simp only [Option.some.injEq, Prod.mk.injEq] at H
    obtain ⟨rfl, rfl⟩ := H
    obtain ⟨Ao88, co88, eo88⟩ := Kd.R_slice HO_5.out
    subst eo88
    go_wp2
    go_ret2
    exact ⟨_, by first | rfl | (simp [errW_none, errW_some] <;> rfl) | (simp [*, errW_none, errW_some] <;> rfl), by (with_reducible repeat (first | apply zA | apply zN | apply zD)); exact Kd.R_mono HO_4.out (fun _ hk => trivial), by repeat (first | (with_reducible first | exact HB.out | apply zC | apply zP | apply zO) | exact HB.out)⟩
end

end Go.Proofs.Ytpkamfjkmbakhaa.G
