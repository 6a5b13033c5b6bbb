-- Written by a program of this place (wip/prt.py), out of Lean's own print of the program: Lean checks it.
import Derived.Test.YtpkamfjkmbakhaaQ0
import Derived.Test.YtpkamfjkmbakhaaQ2
import Derived.Test.YtpkamfjkmbakhaaQ4
import Derived.Test.YtpkamfjkmbakhaaQ5
import Derived.Test.YtpkamfjkmbakhaaQ6
import Derived.Test.YtpkamfjkmbakhaaQ7
import Derived.Test.YtpkamfjkmbakhaaQ8
import Derived.Test.YtpkamfjkmbakhaaQ9
namespace Go.Proofs.Ytpkamfjkmbakhaa.Q
open Go.RowKit Go.Proofs.YtpkamfjkmbakhaaW.PrintWords Go.Proofs.YtpkamfjkmbakhaaW.PrintLast Go.Proofs.YtpkamfjkmbakhaaW.PrintMore
attribute [local go_sem] max2_int min2_int max_two min_two max_three min_three max_four min_four   -- for this text's walks alone
set_option linter.unusedVariables false
set_option linter.unusedSimpArgs false

theorem zA : type_of% @Kd.R_alloc := @Kd.R_alloc
theorem zN : type_of% @Kd.R_drewN := @Kd.R_drewN
theorem zD : type_of% @Kd.R_drew := @Kd.R_drew
theorem zM : type_of% @Aside0.mk := @Aside0.mk
theorem zE : type_of% @Kd.R_elder' := @Kd.R_elder'
theorem zP : type_of% @pw_below_drewN := @pw_below_drewN
theorem zW : type_of% @Kd.R_new' := @Kd.R_new'
theorem zB : type_of% @Kd.R_base := @Kd.R_base
theorem zL : type_of% @Kd.R_lt := @Kd.R_lt
theorem zO : type_of% @below_drew1 := @below_drew1
theorem zC : type_of% @below_alloc := @below_alloc
theorem zCN : type_of% @Kd.C_drewN := @Kd.C_drewN
theorem zCA : type_of% @Kd.C_alloc := @Kd.C_alloc
theorem zCD : type_of% @Kd.C_drew := @Kd.C_drew
theorem zCB : type_of% @Kd.C_below := @Kd.C_below

/-! ### tNN: function 14 -/
mutual
def tNN.l0 : Nat → List (List (S36)) → Int → Int → Int → Int → Int → Int → Option (Bool)
 | 0, _, _, _, _, _, _, _ => none
 | k + 1, x2, x3, x178000, x178001, x178002, x178003, x178004 => if x3 < (x2.length : Int) then (if 0 ≤ x3 then ((nodes_Depth.f k (rd_L4 x2 x3)).bind fun bt239 => ((nodes_Size.f k (rd_L4 x2 x3) (-1)).bind fun bt242 => ((nodes_Part.f k (rd_L4 x2 x3) (-1)).bind fun bt245 => ((tailwaterlaw04_example.f).bind fun t250 => ((nodes_Same.f k (rd_L4 x2 x3) t250).bind fun bt253 => ((tailwaterlaw04_example.f).bind fun t255 => ((nodes_Same.f k t255 (rd_L4 x2 x3)).bind fun bt259 => ((nodes_Node.f k 5 0 0 (([rd_L4 x2 x3] : List (List (S36))))).bind fun bt265 => ((nodes_Check.f k (rd_L4 x2 x3)).bind fun t270 => (if t270 = 8 then (if bt239.2 = 8 then (if bt242.2 = 8 then (if bt245.2 = 8 then (if bt253.2 = 8 then (if bt259.2 = 8 then (if bt265.2 = 8 then (tNN.l0 k x2 (wrap64 (x3 + 1)) x178000 x178001 x178002 x178003 x178004) else (some false)) else (some false)) else (some false)) else (some false)) else (some false)) else (some false)) else (some false))))))))))) else (none)) else (tNN.l1 k (([(⟨x178000, x178001, x178002, x178003, x178004⟩ : S36)] : List (S36))) 0 x178000 x178001 x178002 x178003 x178004)
def tNN.l1 : Nat → List (S36) → Int → Int → Int → Int → Int → Int → Option (Bool)
 | 0, _, _, _, _, _, _, _ => none
 | k + 1, x16, x17, x178000, x178001, x178002, x178003, x178004 => if x17 < 19 then (if x16.length < 3518437208883 then (tNN.l1 k (x16 ++ [(⟨5, 0, x17, 0, 0⟩ : S36)]) (wrap64 (x17 + 1)) x178000 x178001 x178002 x178003 x178004) else (none)) else ((nodes_Depth.f k x16).bind fun bt277 => ((nodes_Node.f k 5 0 0 (([x16] : List (List (S36))))).bind fun bt282 => (tNN.l2 k bt277.1 bt277.2 bt282.2 (([(⟨x178000, x178001, x178002, x178003, x178004⟩ : S36)] : List (S36))) 0 0 x178000 x178001 x178002 x178003 x178004)))
def tNN.j3 : Nat → Int → Int → Int → Int → Option (Bool)
 | 0, _, _, _, _ => none
 | k + 1, x18, x19, x21, x23 => (tailwaterlaw04_example.f).bind fun t299 => ((nodes_Size.f k t299 5).bind fun bt302 => ((tailwaterlaw04_example.f).bind fun t304 => ((nodes_Part.f k t304 (-1)).bind fun bt307 => ((nodes_Parts.f k 0).bind fun bt311 => ((nodes_Parts.f k 20).bind fun bt313 => (if x19 = 0 then (if x18 = 20 then (if x21 = 34 then (if x23 = 34 then (if 61 ≤ 7036874417766 then ((nodes_Check.f k (List.replicate 61 z36)).bind fun t318 => (if t318 = 4 then (if bt302.2 = 2 then (if bt307.2 = 2 then (if bt311.2 = 2 then (if bt313.2 = 2 then ((tailwaterlaw04_alive.f k).bind fun t319 => (some t319)) else (some false)) else (some false)) else (some false)) else (some false)) else (some false))) else (none)) else (some false)) else (some false)) else (some false)) else (some false)))))))
def tNN.l2 : Nat → Int → Int → Int → List (S36) → Int → Int → Int → Int → Int → Int → Int → Option (Bool)
 | 0, _, _, _, _, _, _, _, _, _, _, _ => none
 | k + 1, x18, x19, x21, x22, x23, x24, x178000, x178001, x178002, x178003, x178004 => if x24 < 30 then (if x23 = 0 then ((nodes_Node.f k 8 0 0 (([x22, (([(⟨x178000, x178001, x178002, x178003, x178004⟩ : S36)] : List (S36)))] : List (List (S36))))).bind fun bt295 => (tNN.l2 k x18 x19 x21 bt295.1 bt295.2 (wrap64 (x24 + 1)) x178000 x178001 x178002 x178003 x178004)) else (tNN.j3 k x18 x19 x21 x23)) else (tNN.j3 k x18 x19 x21 x23)
end
def tNN.f (k : Nat)  : Option (Bool) := tNN.l0 k (([(([] : List (S36))), (([(⟨0, 0, 0, 0, 0⟩ : S36)] : List (S36))), (([(⟨20, 0, 0, 0, 0⟩ : S36)] : List (S36))), (([(⟨2, 1, 0, 0, 0⟩ : S36)] : List (S36))), (([(⟨1, (-1), 0, 0, 0⟩ : S36)] : List (S36))), (([(⟨3, 0, 1, 0, 0⟩ : S36)] : List (S36))), (([(⟨3, 0, 0, 1, 0⟩ : S36)] : List (S36))), (([(⟨3, 0, 0, 0, (-1)⟩ : S36)] : List (S36))), (([(⟨3, 0, 0, 0, 401⟩ : S36)] : List (S36))), (([(⟨4, 0, 0, 0, 0⟩ : S36), (⟨4, 0, 0, 0, 0⟩ : S36)] : List (S36))), (([(⟨5, 0, 0, 0, 0⟩ : S36)] : List (S36))), (([(⟨4, 0, 0, 0, 0⟩ : S36), (⟨5, 0, 1, 0, 0⟩ : S36)] : List (S36))), (([(⟨4, 0, 0, 0, 0⟩ : S36), (⟨5, 0, 0, 1, 0⟩ : S36)] : List (S36))), (([(⟨4, 0, 0, 0, 0⟩ : S36), (⟨8, 0, 0, 0, 0⟩ : S36)] : List (S36))), (([(⟨4, 0, 0, 0, 0⟩ : S36), (⟨4, 0, 0, 0, 0⟩ : S36), (⟨8, 0, 1, 0, 0⟩ : S36)] : List (S36))), (([(⟨4, 0, 0, 0, 0⟩ : S36), (⟨4, 0, 0, 0, 0⟩ : S36), (⟨8, 0, 0, 0, 0⟩ : S36)] : List (S36))), (([(⟨4, 0, 0, 0, 0⟩ : S36), (⟨4, 0, 0, 0, 0⟩ : S36), (⟨6, 0, 0, 0, 0⟩ : S36)] : List (S36))), (([(⟨4, 0, 0, 0, 0⟩ : S36), (⟨4, 0, 0, 0, 0⟩ : S36), (⟨4, 0, 0, 0, 0⟩ : S36), (⟨8, 0, 1, 2, 0⟩ : S36)] : List (S36))), (([(⟨4, 0, 0, 0, 0⟩ : S36), (⟨4, 0, 0, 0, 0⟩ : S36), (⟨8, 5, 0, 1, 0⟩ : S36)] : List (S36)))] : List (List (S36)))) 0 4 0 0 0 0
theorem tNN.mono_l : ∀ k, (∀ y0 y1 y2 y3 y4 y5 y6, LeO (tNN.l0 k y0 y1 y2 y3 y4 y5 y6) (tNN.l0 (k + 1) y0 y1 y2 y3 y4 y5 y6)) ∧ (∀ y0 y1 y2 y3 y4 y5 y6, LeO (tNN.l1 k y0 y1 y2 y3 y4 y5 y6) (tNN.l1 (k + 1) y0 y1 y2 y3 y4 y5 y6)) ∧ (∀ y0 y1 y2 y3, LeO (tNN.j3 k y0 y1 y2 y3) (tNN.j3 (k + 1) y0 y1 y2 y3)) ∧ (∀ y0 y1 y2 y3 y4 y5 y6 y7 y8 y9 y10, LeO (tNN.l2 k y0 y1 y2 y3 y4 y5 y6 y7 y8 y9 y10) (tNN.l2 (k + 1) y0 y1 y2 y3 y4 y5 y6 y7 y8 y9 y10))
 | 0 => ⟨fun _ _ _ _ _ _ _ r h => by simp [tNN.l0] at h, fun _ _ _ _ _ _ _ r h => by simp [tNN.l1] at h, fun _ _ _ _ r h => by simp [tNN.j3] at h, fun _ _ _ _ _ _ _ _ _ _ _ r h => by simp [tNN.l2] at h⟩
 | k + 1 => by
  obtain ⟨ih0, ih1, ih2, ih3⟩ := tNN.mono_l k
  refine ⟨?_, ?_, ?_, ?_⟩
  ·
   intro y0 y1 y2 y3 y4 y5 y6
   unfold tNN.l0
   repeat' first
   | (with_reducible exact ih0 _ _ _ _ _ _ _)
   | (with_reducible exact ih1 _ _ _ _ _ _ _)
   | (with_reducible exact ih2 _ _ _ _)
   | (with_reducible exact ih3 _ _ _ _ _ _ _ _ _ _ _)
   | (with_reducible exact nodes_Check.mono _ _)
   | (with_reducible exact nodes_Depth.mono _ _)
   | (with_reducible exact nodes_Node.mono _ _ _ _ _)
   | (with_reducible exact nodes_Part.mono _ _ _)
   | (with_reducible exact nodes_Parts.mono _ _)
   | (with_reducible exact nodes_Same.mono _ _ _)
   | (with_reducible exact nodes_Size.mono _ _ _)
   | (with_reducible exact tailwaterlaw04_alive.mono _)
   | (with_reducible exact LeO.refl _)
   | (with_reducible exact LeO.none _)
   | (with_reducible refine LeO.ite ?_ ?_)
   | (with_reducible refine LeO.bind ?_ (fun _ => ?_))
   | exact ih0 _ _ _ _ _ _ _
   | exact ih1 _ _ _ _ _ _ _
   | exact ih2 _ _ _ _
   | exact ih3 _ _ _ _ _ _ _ _ _ _ _
   | exact nodes_Check.mono _ _
   | exact nodes_Depth.mono _ _
   | exact nodes_Node.mono _ _ _ _ _
   | exact nodes_Part.mono _ _ _
   | exact nodes_Parts.mono _ _
   | exact nodes_Same.mono _ _ _
   | exact nodes_Size.mono _ _ _
   | exact tailwaterlaw04_alive.mono _
   | exact LeO.none _
   | refine LeO.ite ?_ ?_
   | refine LeO.bind ?_ (fun _ => ?_)
  ·
   intro y0 y1 y2 y3 y4 y5 y6
   unfold tNN.l1
   repeat' first
   | (with_reducible exact ih0 _ _ _ _ _ _ _)
   | (with_reducible exact ih1 _ _ _ _ _ _ _)
   | (with_reducible exact ih2 _ _ _ _)
   | (with_reducible exact ih3 _ _ _ _ _ _ _ _ _ _ _)
   | (with_reducible exact nodes_Check.mono _ _)
   | (with_reducible exact nodes_Depth.mono _ _)
   | (with_reducible exact nodes_Node.mono _ _ _ _ _)
   | (with_reducible exact nodes_Part.mono _ _ _)
   | (with_reducible exact nodes_Parts.mono _ _)
   | (with_reducible exact nodes_Same.mono _ _ _)
   | (with_reducible exact nodes_Size.mono _ _ _)
   | (with_reducible exact tailwaterlaw04_alive.mono _)
   | (with_reducible exact LeO.refl _)
   | (with_reducible exact LeO.none _)
   | (with_reducible refine LeO.ite ?_ ?_)
   | (with_reducible refine LeO.bind ?_ (fun _ => ?_))
   | exact ih0 _ _ _ _ _ _ _
   | exact ih1 _ _ _ _ _ _ _
   | exact ih2 _ _ _ _
   | exact ih3 _ _ _ _ _ _ _ _ _ _ _
   | exact nodes_Check.mono _ _
   | exact nodes_Depth.mono _ _
   | exact nodes_Node.mono _ _ _ _ _
   | exact nodes_Part.mono _ _ _
   | exact nodes_Parts.mono _ _
   | exact nodes_Same.mono _ _ _
   | exact nodes_Size.mono _ _ _
   | exact tailwaterlaw04_alive.mono _
   | exact LeO.none _
   | refine LeO.ite ?_ ?_
   | refine LeO.bind ?_ (fun _ => ?_)
  ·
   intro y0 y1 y2 y3
   unfold tNN.j3
   repeat' first
   | (with_reducible exact ih0 _ _ _ _ _ _ _)
   | (with_reducible exact ih1 _ _ _ _ _ _ _)
   | (with_reducible exact ih2 _ _ _ _)
   | (with_reducible exact ih3 _ _ _ _ _ _ _ _ _ _ _)
   | (with_reducible exact nodes_Check.mono _ _)
   | (with_reducible exact nodes_Depth.mono _ _)
   | (with_reducible exact nodes_Node.mono _ _ _ _ _)
   | (with_reducible exact nodes_Part.mono _ _ _)
   | (with_reducible exact nodes_Parts.mono _ _)
   | (with_reducible exact nodes_Same.mono _ _ _)
   | (with_reducible exact nodes_Size.mono _ _ _)
   | (with_reducible exact tailwaterlaw04_alive.mono _)
   | (with_reducible exact LeO.refl _)
   | (with_reducible exact LeO.none _)
   | (with_reducible refine LeO.ite ?_ ?_)
   | (with_reducible refine LeO.bind ?_ (fun _ => ?_))
   | exact ih0 _ _ _ _ _ _ _
   | exact ih1 _ _ _ _ _ _ _
   | exact ih2 _ _ _ _
   | exact ih3 _ _ _ _ _ _ _ _ _ _ _
   | exact nodes_Check.mono _ _
   | exact nodes_Depth.mono _ _
   | exact nodes_Node.mono _ _ _ _ _
   | exact nodes_Part.mono _ _ _
   | exact nodes_Parts.mono _ _
   | exact nodes_Same.mono _ _ _
   | exact nodes_Size.mono _ _ _
   | exact tailwaterlaw04_alive.mono _
   | exact LeO.none _
   | refine LeO.ite ?_ ?_
   | refine LeO.bind ?_ (fun _ => ?_)
  ·
   intro y0 y1 y2 y3 y4 y5 y6 y7 y8 y9 y10
   unfold tNN.l2
   repeat' first
   | (with_reducible exact ih0 _ _ _ _ _ _ _)
   | (with_reducible exact ih1 _ _ _ _ _ _ _)
   | (with_reducible exact ih2 _ _ _ _)
   | (with_reducible exact ih3 _ _ _ _ _ _ _ _ _ _ _)
   | (with_reducible exact nodes_Check.mono _ _)
   | (with_reducible exact nodes_Depth.mono _ _)
   | (with_reducible exact nodes_Node.mono _ _ _ _ _)
   | (with_reducible exact nodes_Part.mono _ _ _)
   | (with_reducible exact nodes_Parts.mono _ _)
   | (with_reducible exact nodes_Same.mono _ _ _)
   | (with_reducible exact nodes_Size.mono _ _ _)
   | (with_reducible exact tailwaterlaw04_alive.mono _)
   | (with_reducible exact LeO.refl _)
   | (with_reducible exact LeO.none _)
   | (with_reducible refine LeO.ite ?_ ?_)
   | (with_reducible refine LeO.bind ?_ (fun _ => ?_))
   | exact ih0 _ _ _ _ _ _ _
   | exact ih1 _ _ _ _ _ _ _
   | exact ih2 _ _ _ _
   | exact ih3 _ _ _ _ _ _ _ _ _ _ _
   | exact nodes_Check.mono _ _
   | exact nodes_Depth.mono _ _
   | exact nodes_Node.mono _ _ _ _ _
   | exact nodes_Part.mono _ _ _
   | exact nodes_Parts.mono _ _
   | exact nodes_Same.mono _ _ _
   | exact nodes_Size.mono _ _ _
   | exact tailwaterlaw04_alive.mono _
   | exact LeO.none _
   | refine LeO.ite ?_ ?_
   | refine LeO.bind ?_ (fun _ => ?_)
theorem tNN.mono : ∀ k, LeO (tNN.f k ) (tNN.f (k + 1) ) := by
 intro  k
 obtain ⟨ih0, ih1, ih2, ih3⟩ := tNN.mono_l k
 unfold tNN.f
 repeat' first
   | (with_reducible exact ih0 _ _ _ _ _ _ _)
   | (with_reducible exact ih1 _ _ _ _ _ _ _)
   | (with_reducible exact ih2 _ _ _ _)
   | (with_reducible exact ih3 _ _ _ _ _ _ _ _ _ _ _)
   | (with_reducible exact nodes_Check.mono _ _)
   | (with_reducible exact nodes_Depth.mono _ _)
   | (with_reducible exact nodes_Node.mono _ _ _ _ _)
   | (with_reducible exact nodes_Part.mono _ _ _)
   | (with_reducible exact nodes_Parts.mono _ _)
   | (with_reducible exact nodes_Same.mono _ _ _)
   | (with_reducible exact nodes_Size.mono _ _ _)
   | (with_reducible exact tailwaterlaw04_alive.mono _)
   | (with_reducible exact LeO.refl _)
   | (with_reducible exact LeO.none _)
   | (with_reducible refine LeO.ite ?_ ?_)
   | (with_reducible refine LeO.bind ?_ (fun _ => ?_))
   | exact ih0 _ _ _ _ _ _ _
   | exact ih1 _ _ _ _ _ _ _
   | exact ih2 _ _ _ _
   | exact ih3 _ _ _ _ _ _ _ _ _ _ _
   | exact nodes_Check.mono _ _
   | exact nodes_Depth.mono _ _
   | exact nodes_Node.mono _ _ _ _ _
   | exact nodes_Part.mono _ _ _
   | exact nodes_Parts.mono _ _
   | exact nodes_Same.mono _ _ _
   | exact nodes_Size.mono _ _ _
   | exact tailwaterlaw04_alive.mono _
   | exact LeO.none _
   | refine LeO.ite ?_ ?_
   | refine LeO.bind ?_ (fun _ => ?_)
def tNN.T9 : Bool × List (List Nat × List Nat) := (true, [([], []), ([], []), ([0, 1], [0, 1]), ([2], [2]), ([], []), ([3, 4, 4], [3, 4]), ([5], [5]), ([6], [6]), ([6], [6]), ([7, 5, 0, 1, 2, 3, 4, 5, 6, 7], [7]), ([8, 9, 0, 1, 2, 3, 4, 5, 6, 7, 8, 9], [8])])
def tNN.B9 : List Nat := [0, 0, 3, 7, 0, 31, 63, 127, 127, 255, 1023]
theorem tNN.tab9 : rtab .any (opsOf Try.f14 9) = tNN.T9 := by kernel_rfl
theorem tNN.bits9 : waitsOk tNN.T9.2 tNN.B9 = true := by kernel_rfl
def tNN.T10 : Bool × List (List Nat × List Nat) := (true, [([], []), ([], []), ([], []), ([1, 2], [1, 2]), ([3], [3]), ([0, 4, 0], [0, 4]), ([5], [5]), ([6], [6]), ([6], [6]), ([7, 5, 0, 1, 2, 3, 4, 5, 6, 7], [7]), ([8, 9, 0, 1, 2, 3, 4, 5, 6, 7, 8, 9], [8])])
def tNN.B10 : List Nat := [0, 0, 0, 6, 14, 31, 63, 127, 127, 255, 1023]
theorem tNN.tab10 : rtab .any (opsOf Try.f14 10) = tNN.T10 := by kernel_rfl
theorem tNN.bits10 : waitsOk tNN.T10.2 tNN.B10 = true := by kernel_rfl
set_option maxHeartbeats 8000000 in
set_option maxRecDepth 100000 in
theorem tNN.calls (k : Nat)  (w : World) (h : tNN.f k  = some true) :
  Calls Try.prog 14 #[] w fun e w' => e = .returned (.bool true) ∧ Below w.heap.size w w' := by
 have hu36 := Try.underlying36
 have HB := zM (Below.refl w.heap.size w)
 have H : (tNN.l0 k (([(([] : List (S36))), (([(⟨0, 0, 0, 0, 0⟩ : S36)] : List (S36))), (([(⟨20, 0, 0, 0, 0⟩ : S36)] : List (S36))), (([(⟨2, 1, 0, 0, 0⟩ : S36)] : List (S36))), (([(⟨1, (-1), 0, 0, 0⟩ : S36)] : List (S36))), (([(⟨3, 0, 1, 0, 0⟩ : S36)] : List (S36))), (([(⟨3, 0, 0, 1, 0⟩ : S36)] : List (S36))), (([(⟨3, 0, 0, 0, (-1)⟩ : S36)] : List (S36))), (([(⟨3, 0, 0, 0, 401⟩ : S36)] : List (S36))), (([(⟨4, 0, 0, 0, 0⟩ : S36), (⟨4, 0, 0, 0, 0⟩ : S36)] : List (S36))), (([(⟨5, 0, 0, 0, 0⟩ : S36)] : List (S36))), (([(⟨4, 0, 0, 0, 0⟩ : S36), (⟨5, 0, 1, 0, 0⟩ : S36)] : List (S36))), (([(⟨4, 0, 0, 0, 0⟩ : S36), (⟨5, 0, 0, 1, 0⟩ : S36)] : List (S36))), (([(⟨4, 0, 0, 0, 0⟩ : S36), (⟨8, 0, 0, 0, 0⟩ : S36)] : List (S36))), (([(⟨4, 0, 0, 0, 0⟩ : S36), (⟨4, 0, 0, 0, 0⟩ : S36), (⟨8, 0, 1, 0, 0⟩ : S36)] : List (S36))), (([(⟨4, 0, 0, 0, 0⟩ : S36), (⟨4, 0, 0, 0, 0⟩ : S36), (⟨8, 0, 0, 0, 0⟩ : S36)] : List (S36))), (([(⟨4, 0, 0, 0, 0⟩ : S36), (⟨4, 0, 0, 0, 0⟩ : S36), (⟨6, 0, 0, 0, 0⟩ : S36)] : List (S36))), (([(⟨4, 0, 0, 0, 0⟩ : S36), (⟨4, 0, 0, 0, 0⟩ : S36), (⟨4, 0, 0, 0, 0⟩ : S36), (⟨8, 0, 1, 2, 0⟩ : S36)] : List (S36))), (([(⟨4, 0, 0, 0, 0⟩ : S36), (⟨4, 0, 0, 0, 0⟩ : S36), (⟨8, 5, 0, 1, 0⟩ : S36)] : List (S36)))] : List (List (S36)))) 0 4 0 0 0 0) = some true := h
 clear h
 obtain ⟨y178, hy178⟩ : ∃ y_ : List (S36), y_ = (([] : List (S36))) := ⟨_, rfl⟩
 replace H : (tNN.l0 k (([y178, (([(⟨0, 0, 0, 0, 0⟩ : S36)] : List (S36))), (([(⟨20, 0, 0, 0, 0⟩ : S36)] : List (S36))), (([(⟨2, 1, 0, 0, 0⟩ : S36)] : List (S36))), (([(⟨1, (-1), 0, 0, 0⟩ : S36)] : List (S36))), (([(⟨3, 0, 1, 0, 0⟩ : S36)] : List (S36))), (([(⟨3, 0, 0, 1, 0⟩ : S36)] : List (S36))), (([(⟨3, 0, 0, 0, (-1)⟩ : S36)] : List (S36))), (([(⟨3, 0, 0, 0, 401⟩ : S36)] : List (S36))), (([(⟨4, 0, 0, 0, 0⟩ : S36), (⟨4, 0, 0, 0, 0⟩ : S36)] : List (S36))), (([(⟨5, 0, 0, 0, 0⟩ : S36)] : List (S36))), (([(⟨4, 0, 0, 0, 0⟩ : S36), (⟨5, 0, 1, 0, 0⟩ : S36)] : List (S36))), (([(⟨4, 0, 0, 0, 0⟩ : S36), (⟨5, 0, 0, 1, 0⟩ : S36)] : List (S36))), (([(⟨4, 0, 0, 0, 0⟩ : S36), (⟨8, 0, 0, 0, 0⟩ : S36)] : List (S36))), (([(⟨4, 0, 0, 0, 0⟩ : S36), (⟨4, 0, 0, 0, 0⟩ : S36), (⟨8, 0, 1, 0, 0⟩ : S36)] : List (S36))), (([(⟨4, 0, 0, 0, 0⟩ : S36), (⟨4, 0, 0, 0, 0⟩ : S36), (⟨8, 0, 0, 0, 0⟩ : S36)] : List (S36))), (([(⟨4, 0, 0, 0, 0⟩ : S36), (⟨4, 0, 0, 0, 0⟩ : S36), (⟨6, 0, 0, 0, 0⟩ : S36)] : List (S36))), (([(⟨4, 0, 0, 0, 0⟩ : S36), (⟨4, 0, 0, 0, 0⟩ : S36), (⟨4, 0, 0, 0, 0⟩ : S36), (⟨8, 0, 1, 2, 0⟩ : S36)] : List (S36))), (([(⟨4, 0, 0, 0, 0⟩ : S36), (⟨4, 0, 0, 0, 0⟩ : S36), (⟨8, 5, 0, 1, 0⟩ : S36)] : List (S36)))] : List (List (S36)))) 0 4 0 0 0 0) = some true := by first | (rw [hy178]; with_reducible exact H) | (have H2_ := (Option.bind_some _ _).symm.trans H; rw [hy178]; with_reducible exact H2_) | (have H2_ := (Option.bind_some _ _).symm.trans H; with_reducible exact H2_) | with_reducible exact H | (rw [hy178]; exact H) | exact H
 have Ny178 := zM hy178
 clear hy178
 obtain ⟨y181, hy181⟩ : ∃ y_ : List (S36), y_ = (([(⟨0, 0, 0, 0, 0⟩ : S36)] : List (S36))) := ⟨_, rfl⟩
 replace H : (tNN.l0 k (([y178, y181, (([(⟨20, 0, 0, 0, 0⟩ : S36)] : List (S36))), (([(⟨2, 1, 0, 0, 0⟩ : S36)] : List (S36))), (([(⟨1, (-1), 0, 0, 0⟩ : S36)] : List (S36))), (([(⟨3, 0, 1, 0, 0⟩ : S36)] : List (S36))), (([(⟨3, 0, 0, 1, 0⟩ : S36)] : List (S36))), (([(⟨3, 0, 0, 0, (-1)⟩ : S36)] : List (S36))), (([(⟨3, 0, 0, 0, 401⟩ : S36)] : List (S36))), (([(⟨4, 0, 0, 0, 0⟩ : S36), (⟨4, 0, 0, 0, 0⟩ : S36)] : List (S36))), (([(⟨5, 0, 0, 0, 0⟩ : S36)] : List (S36))), (([(⟨4, 0, 0, 0, 0⟩ : S36), (⟨5, 0, 1, 0, 0⟩ : S36)] : List (S36))), (([(⟨4, 0, 0, 0, 0⟩ : S36), (⟨5, 0, 0, 1, 0⟩ : S36)] : List (S36))), (([(⟨4, 0, 0, 0, 0⟩ : S36), (⟨8, 0, 0, 0, 0⟩ : S36)] : List (S36))), (([(⟨4, 0, 0, 0, 0⟩ : S36), (⟨4, 0, 0, 0, 0⟩ : S36), (⟨8, 0, 1, 0, 0⟩ : S36)] : List (S36))), (([(⟨4, 0, 0, 0, 0⟩ : S36), (⟨4, 0, 0, 0, 0⟩ : S36), (⟨8, 0, 0, 0, 0⟩ : S36)] : List (S36))), (([(⟨4, 0, 0, 0, 0⟩ : S36), (⟨4, 0, 0, 0, 0⟩ : S36), (⟨6, 0, 0, 0, 0⟩ : S36)] : List (S36))), (([(⟨4, 0, 0, 0, 0⟩ : S36), (⟨4, 0, 0, 0, 0⟩ : S36), (⟨4, 0, 0, 0, 0⟩ : S36), (⟨8, 0, 1, 2, 0⟩ : S36)] : List (S36))), (([(⟨4, 0, 0, 0, 0⟩ : S36), (⟨4, 0, 0, 0, 0⟩ : S36), (⟨8, 5, 0, 1, 0⟩ : S36)] : List (S36)))] : List (List (S36)))) 0 4 0 0 0 0) = some true := by first | (rw [hy181]; with_reducible exact H) | (have H2_ := (Option.bind_some _ _).symm.trans H; rw [hy181]; with_reducible exact H2_) | (have H2_ := (Option.bind_some _ _).symm.trans H; with_reducible exact H2_) | with_reducible exact H | (rw [hy181]; exact H) | exact H
 have Ny181 := zM hy181
 clear hy181
 obtain ⟨y184, hy184⟩ : ∃ y_ : List (S36), y_ = (([(⟨20, 0, 0, 0, 0⟩ : S36)] : List (S36))) := ⟨_, rfl⟩
 replace H : (tNN.l0 k (([y178, y181, y184, (([(⟨2, 1, 0, 0, 0⟩ : S36)] : List (S36))), (([(⟨1, (-1), 0, 0, 0⟩ : S36)] : List (S36))), (([(⟨3, 0, 1, 0, 0⟩ : S36)] : List (S36))), (([(⟨3, 0, 0, 1, 0⟩ : S36)] : List (S36))), (([(⟨3, 0, 0, 0, (-1)⟩ : S36)] : List (S36))), (([(⟨3, 0, 0, 0, 401⟩ : S36)] : List (S36))), (([(⟨4, 0, 0, 0, 0⟩ : S36), (⟨4, 0, 0, 0, 0⟩ : S36)] : List (S36))), (([(⟨5, 0, 0, 0, 0⟩ : S36)] : List (S36))), (([(⟨4, 0, 0, 0, 0⟩ : S36), (⟨5, 0, 1, 0, 0⟩ : S36)] : List (S36))), (([(⟨4, 0, 0, 0, 0⟩ : S36), (⟨5, 0, 0, 1, 0⟩ : S36)] : List (S36))), (([(⟨4, 0, 0, 0, 0⟩ : S36), (⟨8, 0, 0, 0, 0⟩ : S36)] : List (S36))), (([(⟨4, 0, 0, 0, 0⟩ : S36), (⟨4, 0, 0, 0, 0⟩ : S36), (⟨8, 0, 1, 0, 0⟩ : S36)] : List (S36))), (([(⟨4, 0, 0, 0, 0⟩ : S36), (⟨4, 0, 0, 0, 0⟩ : S36), (⟨8, 0, 0, 0, 0⟩ : S36)] : List (S36))), (([(⟨4, 0, 0, 0, 0⟩ : S36), (⟨4, 0, 0, 0, 0⟩ : S36), (⟨6, 0, 0, 0, 0⟩ : S36)] : List (S36))), (([(⟨4, 0, 0, 0, 0⟩ : S36), (⟨4, 0, 0, 0, 0⟩ : S36), (⟨4, 0, 0, 0, 0⟩ : S36), (⟨8, 0, 1, 2, 0⟩ : S36)] : List (S36))), (([(⟨4, 0, 0, 0, 0⟩ : S36), (⟨4, 0, 0, 0, 0⟩ : S36), (⟨8, 5, 0, 1, 0⟩ : S36)] : List (S36)))] : List (List (S36)))) 0 4 0 0 0 0) = some true := by first | (rw [hy184]; with_reducible exact H) | (have H2_ := (Option.bind_some _ _).symm.trans H; rw [hy184]; with_reducible exact H2_) | (have H2_ := (Option.bind_some _ _).symm.trans H; with_reducible exact H2_) | with_reducible exact H | (rw [hy184]; exact H) | exact H
 have Ny184 := zM hy184
 clear hy184
 obtain ⟨y187, hy187⟩ : ∃ y_ : List (S36), y_ = (([(⟨2, 1, 0, 0, 0⟩ : S36)] : List (S36))) := ⟨_, rfl⟩
 replace H : (tNN.l0 k (([y178, y181, y184, y187, (([(⟨1, (-1), 0, 0, 0⟩ : S36)] : List (S36))), (([(⟨3, 0, 1, 0, 0⟩ : S36)] : List (S36))), (([(⟨3, 0, 0, 1, 0⟩ : S36)] : List (S36))), (([(⟨3, 0, 0, 0, (-1)⟩ : S36)] : List (S36))), (([(⟨3, 0, 0, 0, 401⟩ : S36)] : List (S36))), (([(⟨4, 0, 0, 0, 0⟩ : S36), (⟨4, 0, 0, 0, 0⟩ : S36)] : List (S36))), (([(⟨5, 0, 0, 0, 0⟩ : S36)] : List (S36))), (([(⟨4, 0, 0, 0, 0⟩ : S36), (⟨5, 0, 1, 0, 0⟩ : S36)] : List (S36))), (([(⟨4, 0, 0, 0, 0⟩ : S36), (⟨5, 0, 0, 1, 0⟩ : S36)] : List (S36))), (([(⟨4, 0, 0, 0, 0⟩ : S36), (⟨8, 0, 0, 0, 0⟩ : S36)] : List (S36))), (([(⟨4, 0, 0, 0, 0⟩ : S36), (⟨4, 0, 0, 0, 0⟩ : S36), (⟨8, 0, 1, 0, 0⟩ : S36)] : List (S36))), (([(⟨4, 0, 0, 0, 0⟩ : S36), (⟨4, 0, 0, 0, 0⟩ : S36), (⟨8, 0, 0, 0, 0⟩ : S36)] : List (S36))), (([(⟨4, 0, 0, 0, 0⟩ : S36), (⟨4, 0, 0, 0, 0⟩ : S36), (⟨6, 0, 0, 0, 0⟩ : S36)] : List (S36))), (([(⟨4, 0, 0, 0, 0⟩ : S36), (⟨4, 0, 0, 0, 0⟩ : S36), (⟨4, 0, 0, 0, 0⟩ : S36), (⟨8, 0, 1, 2, 0⟩ : S36)] : List (S36))), (([(⟨4, 0, 0, 0, 0⟩ : S36), (⟨4, 0, 0, 0, 0⟩ : S36), (⟨8, 5, 0, 1, 0⟩ : S36)] : List (S36)))] : List (List (S36)))) 0 4 0 0 0 0) = some true := by first | (rw [hy187]; with_reducible exact H) | (have H2_ := (Option.bind_some _ _).symm.trans H; rw [hy187]; with_reducible exact H2_) | (have H2_ := (Option.bind_some _ _).symm.trans H; with_reducible exact H2_) | with_reducible exact H | (rw [hy187]; exact H) | exact H
 have Ny187 := zM hy187
 clear hy187
 obtain ⟨y190, hy190⟩ : ∃ y_ : List (S36), y_ = (([(⟨1, (-1), 0, 0, 0⟩ : S36)] : List (S36))) := ⟨_, rfl⟩
 replace H : (tNN.l0 k (([y178, y181, y184, y187, y190, (([(⟨3, 0, 1, 0, 0⟩ : S36)] : List (S36))), (([(⟨3, 0, 0, 1, 0⟩ : S36)] : List (S36))), (([(⟨3, 0, 0, 0, (-1)⟩ : S36)] : List (S36))), (([(⟨3, 0, 0, 0, 401⟩ : S36)] : List (S36))), (([(⟨4, 0, 0, 0, 0⟩ : S36), (⟨4, 0, 0, 0, 0⟩ : S36)] : List (S36))), (([(⟨5, 0, 0, 0, 0⟩ : S36)] : List (S36))), (([(⟨4, 0, 0, 0, 0⟩ : S36), (⟨5, 0, 1, 0, 0⟩ : S36)] : List (S36))), (([(⟨4, 0, 0, 0, 0⟩ : S36), (⟨5, 0, 0, 1, 0⟩ : S36)] : List (S36))), (([(⟨4, 0, 0, 0, 0⟩ : S36), (⟨8, 0, 0, 0, 0⟩ : S36)] : List (S36))), (([(⟨4, 0, 0, 0, 0⟩ : S36), (⟨4, 0, 0, 0, 0⟩ : S36), (⟨8, 0, 1, 0, 0⟩ : S36)] : List (S36))), (([(⟨4, 0, 0, 0, 0⟩ : S36), (⟨4, 0, 0, 0, 0⟩ : S36), (⟨8, 0, 0, 0, 0⟩ : S36)] : List (S36))), (([(⟨4, 0, 0, 0, 0⟩ : S36), (⟨4, 0, 0, 0, 0⟩ : S36), (⟨6, 0, 0, 0, 0⟩ : S36)] : List (S36))), (([(⟨4, 0, 0, 0, 0⟩ : S36), (⟨4, 0, 0, 0, 0⟩ : S36), (⟨4, 0, 0, 0, 0⟩ : S36), (⟨8, 0, 1, 2, 0⟩ : S36)] : List (S36))), (([(⟨4, 0, 0, 0, 0⟩ : S36), (⟨4, 0, 0, 0, 0⟩ : S36), (⟨8, 5, 0, 1, 0⟩ : S36)] : List (S36)))] : List (List (S36)))) 0 4 0 0 0 0) = some true := by first | (rw [hy190]; with_reducible exact H) | (have H2_ := (Option.bind_some _ _).symm.trans H; rw [hy190]; with_reducible exact H2_) | (have H2_ := (Option.bind_some _ _).symm.trans H; with_reducible exact H2_) | with_reducible exact H | (rw [hy190]; exact H) | exact H
 have Ny190 := zM hy190
 clear hy190
 obtain ⟨y193, hy193⟩ : ∃ y_ : List (S36), y_ = (([(⟨3, 0, 1, 0, 0⟩ : S36)] : List (S36))) := ⟨_, rfl⟩
 replace H : (tNN.l0 k (([y178, y181, y184, y187, y190, y193, (([(⟨3, 0, 0, 1, 0⟩ : S36)] : List (S36))), (([(⟨3, 0, 0, 0, (-1)⟩ : S36)] : List (S36))), (([(⟨3, 0, 0, 0, 401⟩ : S36)] : List (S36))), (([(⟨4, 0, 0, 0, 0⟩ : S36), (⟨4, 0, 0, 0, 0⟩ : S36)] : List (S36))), (([(⟨5, 0, 0, 0, 0⟩ : S36)] : List (S36))), (([(⟨4, 0, 0, 0, 0⟩ : S36), (⟨5, 0, 1, 0, 0⟩ : S36)] : List (S36))), (([(⟨4, 0, 0, 0, 0⟩ : S36), (⟨5, 0, 0, 1, 0⟩ : S36)] : List (S36))), (([(⟨4, 0, 0, 0, 0⟩ : S36), (⟨8, 0, 0, 0, 0⟩ : S36)] : List (S36))), (([(⟨4, 0, 0, 0, 0⟩ : S36), (⟨4, 0, 0, 0, 0⟩ : S36), (⟨8, 0, 1, 0, 0⟩ : S36)] : List (S36))), (([(⟨4, 0, 0, 0, 0⟩ : S36), (⟨4, 0, 0, 0, 0⟩ : S36), (⟨8, 0, 0, 0, 0⟩ : S36)] : List (S36))), (([(⟨4, 0, 0, 0, 0⟩ : S36), (⟨4, 0, 0, 0, 0⟩ : S36), (⟨6, 0, 0, 0, 0⟩ : S36)] : List (S36))), (([(⟨4, 0, 0, 0, 0⟩ : S36), (⟨4, 0, 0, 0, 0⟩ : S36), (⟨4, 0, 0, 0, 0⟩ : S36), (⟨8, 0, 1, 2, 0⟩ : S36)] : List (S36))), (([(⟨4, 0, 0, 0, 0⟩ : S36), (⟨4, 0, 0, 0, 0⟩ : S36), (⟨8, 5, 0, 1, 0⟩ : S36)] : List (S36)))] : List (List (S36)))) 0 4 0 0 0 0) = some true := by first | (rw [hy193]; with_reducible exact H) | (have H2_ := (Option.bind_some _ _).symm.trans H; rw [hy193]; with_reducible exact H2_) | (have H2_ := (Option.bind_some _ _).symm.trans H; with_reducible exact H2_) | with_reducible exact H | (rw [hy193]; exact H) | exact H
 have Ny193 := zM hy193
 clear hy193
 obtain ⟨y196, hy196⟩ : ∃ y_ : List (S36), y_ = (([(⟨3, 0, 0, 1, 0⟩ : S36)] : List (S36))) := ⟨_, rfl⟩
 replace H : (tNN.l0 k (([y178, y181, y184, y187, y190, y193, y196, (([(⟨3, 0, 0, 0, (-1)⟩ : S36)] : List (S36))), (([(⟨3, 0, 0, 0, 401⟩ : S36)] : List (S36))), (([(⟨4, 0, 0, 0, 0⟩ : S36), (⟨4, 0, 0, 0, 0⟩ : S36)] : List (S36))), (([(⟨5, 0, 0, 0, 0⟩ : S36)] : List (S36))), (([(⟨4, 0, 0, 0, 0⟩ : S36), (⟨5, 0, 1, 0, 0⟩ : S36)] : List (S36))), (([(⟨4, 0, 0, 0, 0⟩ : S36), (⟨5, 0, 0, 1, 0⟩ : S36)] : List (S36))), (([(⟨4, 0, 0, 0, 0⟩ : S36), (⟨8, 0, 0, 0, 0⟩ : S36)] : List (S36))), (([(⟨4, 0, 0, 0, 0⟩ : S36), (⟨4, 0, 0, 0, 0⟩ : S36), (⟨8, 0, 1, 0, 0⟩ : S36)] : List (S36))), (([(⟨4, 0, 0, 0, 0⟩ : S36), (⟨4, 0, 0, 0, 0⟩ : S36), (⟨8, 0, 0, 0, 0⟩ : S36)] : List (S36))), (([(⟨4, 0, 0, 0, 0⟩ : S36), (⟨4, 0, 0, 0, 0⟩ : S36), (⟨6, 0, 0, 0, 0⟩ : S36)] : List (S36))), (([(⟨4, 0, 0, 0, 0⟩ : S36), (⟨4, 0, 0, 0, 0⟩ : S36), (⟨4, 0, 0, 0, 0⟩ : S36), (⟨8, 0, 1, 2, 0⟩ : S36)] : List (S36))), (([(⟨4, 0, 0, 0, 0⟩ : S36), (⟨4, 0, 0, 0, 0⟩ : S36), (⟨8, 5, 0, 1, 0⟩ : S36)] : List (S36)))] : List (List (S36)))) 0 4 0 0 0 0) = some true := by first | (rw [hy196]; with_reducible exact H) | (have H2_ := (Option.bind_some _ _).symm.trans H; rw [hy196]; with_reducible exact H2_) | (have H2_ := (Option.bind_some _ _).symm.trans H; with_reducible exact H2_) | with_reducible exact H | (rw [hy196]; exact H) | exact H
 have Ny196 := zM hy196
 clear hy196
 obtain ⟨y199, hy199⟩ : ∃ y_ : List (S36), y_ = (([(⟨3, 0, 0, 0, (-1)⟩ : S36)] : List (S36))) := ⟨_, rfl⟩
 replace H : (tNN.l0 k (([y178, y181, y184, y187, y190, y193, y196, y199, (([(⟨3, 0, 0, 0, 401⟩ : S36)] : List (S36))), (([(⟨4, 0, 0, 0, 0⟩ : S36), (⟨4, 0, 0, 0, 0⟩ : S36)] : List (S36))), (([(⟨5, 0, 0, 0, 0⟩ : S36)] : List (S36))), (([(⟨4, 0, 0, 0, 0⟩ : S36), (⟨5, 0, 1, 0, 0⟩ : S36)] : List (S36))), (([(⟨4, 0, 0, 0, 0⟩ : S36), (⟨5, 0, 0, 1, 0⟩ : S36)] : List (S36))), (([(⟨4, 0, 0, 0, 0⟩ : S36), (⟨8, 0, 0, 0, 0⟩ : S36)] : List (S36))), (([(⟨4, 0, 0, 0, 0⟩ : S36), (⟨4, 0, 0, 0, 0⟩ : S36), (⟨8, 0, 1, 0, 0⟩ : S36)] : List (S36))), (([(⟨4, 0, 0, 0, 0⟩ : S36), (⟨4, 0, 0, 0, 0⟩ : S36), (⟨8, 0, 0, 0, 0⟩ : S36)] : List (S36))), (([(⟨4, 0, 0, 0, 0⟩ : S36), (⟨4, 0, 0, 0, 0⟩ : S36), (⟨6, 0, 0, 0, 0⟩ : S36)] : List (S36))), (([(⟨4, 0, 0, 0, 0⟩ : S36), (⟨4, 0, 0, 0, 0⟩ : S36), (⟨4, 0, 0, 0, 0⟩ : S36), (⟨8, 0, 1, 2, 0⟩ : S36)] : List (S36))), (([(⟨4, 0, 0, 0, 0⟩ : S36), (⟨4, 0, 0, 0, 0⟩ : S36), (⟨8, 5, 0, 1, 0⟩ : S36)] : List (S36)))] : List (List (S36)))) 0 4 0 0 0 0) = some true := by first | (rw [hy199]; with_reducible exact H) | (have H2_ := (Option.bind_some _ _).symm.trans H; rw [hy199]; with_reducible exact H2_) | (have H2_ := (Option.bind_some _ _).symm.trans H; with_reducible exact H2_) | with_reducible exact H | (rw [hy199]; exact H) | exact H
 have Ny199 := zM hy199
 clear hy199
 obtain ⟨y202, hy202⟩ : ∃ y_ : List (S36), y_ = (([(⟨3, 0, 0, 0, 401⟩ : S36)] : List (S36))) := ⟨_, rfl⟩
 replace H : (tNN.l0 k (([y178, y181, y184, y187, y190, y193, y196, y199, y202, (([(⟨4, 0, 0, 0, 0⟩ : S36), (⟨4, 0, 0, 0, 0⟩ : S36)] : List (S36))), (([(⟨5, 0, 0, 0, 0⟩ : S36)] : List (S36))), (([(⟨4, 0, 0, 0, 0⟩ : S36), (⟨5, 0, 1, 0, 0⟩ : S36)] : List (S36))), (([(⟨4, 0, 0, 0, 0⟩ : S36), (⟨5, 0, 0, 1, 0⟩ : S36)] : List (S36))), (([(⟨4, 0, 0, 0, 0⟩ : S36), (⟨8, 0, 0, 0, 0⟩ : S36)] : List (S36))), (([(⟨4, 0, 0, 0, 0⟩ : S36), (⟨4, 0, 0, 0, 0⟩ : S36), (⟨8, 0, 1, 0, 0⟩ : S36)] : List (S36))), (([(⟨4, 0, 0, 0, 0⟩ : S36), (⟨4, 0, 0, 0, 0⟩ : S36), (⟨8, 0, 0, 0, 0⟩ : S36)] : List (S36))), (([(⟨4, 0, 0, 0, 0⟩ : S36), (⟨4, 0, 0, 0, 0⟩ : S36), (⟨6, 0, 0, 0, 0⟩ : S36)] : List (S36))), (([(⟨4, 0, 0, 0, 0⟩ : S36), (⟨4, 0, 0, 0, 0⟩ : S36), (⟨4, 0, 0, 0, 0⟩ : S36), (⟨8, 0, 1, 2, 0⟩ : S36)] : List (S36))), (([(⟨4, 0, 0, 0, 0⟩ : S36), (⟨4, 0, 0, 0, 0⟩ : S36), (⟨8, 5, 0, 1, 0⟩ : S36)] : List (S36)))] : List (List (S36)))) 0 4 0 0 0 0) = some true := by first | (rw [hy202]; with_reducible exact H) | (have H2_ := (Option.bind_some _ _).symm.trans H; rw [hy202]; with_reducible exact H2_) | (have H2_ := (Option.bind_some _ _).symm.trans H; with_reducible exact H2_) | with_reducible exact H | (rw [hy202]; exact H) | exact H
 have Ny202 := zM hy202
 clear hy202
 obtain ⟨y205, hy205⟩ : ∃ y_ : List (S36), y_ = (([(⟨4, 0, 0, 0, 0⟩ : S36), (⟨4, 0, 0, 0, 0⟩ : S36)] : List (S36))) := ⟨_, rfl⟩
 replace H : (tNN.l0 k (([y178, y181, y184, y187, y190, y193, y196, y199, y202, y205, (([(⟨5, 0, 0, 0, 0⟩ : S36)] : List (S36))), (([(⟨4, 0, 0, 0, 0⟩ : S36), (⟨5, 0, 1, 0, 0⟩ : S36)] : List (S36))), (([(⟨4, 0, 0, 0, 0⟩ : S36), (⟨5, 0, 0, 1, 0⟩ : S36)] : List (S36))), (([(⟨4, 0, 0, 0, 0⟩ : S36), (⟨8, 0, 0, 0, 0⟩ : S36)] : List (S36))), (([(⟨4, 0, 0, 0, 0⟩ : S36), (⟨4, 0, 0, 0, 0⟩ : S36), (⟨8, 0, 1, 0, 0⟩ : S36)] : List (S36))), (([(⟨4, 0, 0, 0, 0⟩ : S36), (⟨4, 0, 0, 0, 0⟩ : S36), (⟨8, 0, 0, 0, 0⟩ : S36)] : List (S36))), (([(⟨4, 0, 0, 0, 0⟩ : S36), (⟨4, 0, 0, 0, 0⟩ : S36), (⟨6, 0, 0, 0, 0⟩ : S36)] : List (S36))), (([(⟨4, 0, 0, 0, 0⟩ : S36), (⟨4, 0, 0, 0, 0⟩ : S36), (⟨4, 0, 0, 0, 0⟩ : S36), (⟨8, 0, 1, 2, 0⟩ : S36)] : List (S36))), (([(⟨4, 0, 0, 0, 0⟩ : S36), (⟨4, 0, 0, 0, 0⟩ : S36), (⟨8, 5, 0, 1, 0⟩ : S36)] : List (S36)))] : List (List (S36)))) 0 4 0 0 0 0) = some true := by first | (rw [hy205]; with_reducible exact H) | (have H2_ := (Option.bind_some _ _).symm.trans H; rw [hy205]; with_reducible exact H2_) | (have H2_ := (Option.bind_some _ _).symm.trans H; with_reducible exact H2_) | with_reducible exact H | (rw [hy205]; exact H) | exact H
 have Ny205 := zM hy205
 clear hy205
 obtain ⟨y208, hy208⟩ : ∃ y_ : List (S36), y_ = (([(⟨5, 0, 0, 0, 0⟩ : S36)] : List (S36))) := ⟨_, rfl⟩
 replace H : (tNN.l0 k (([y178, y181, y184, y187, y190, y193, y196, y199, y202, y205, y208, (([(⟨4, 0, 0, 0, 0⟩ : S36), (⟨5, 0, 1, 0, 0⟩ : S36)] : List (S36))), (([(⟨4, 0, 0, 0, 0⟩ : S36), (⟨5, 0, 0, 1, 0⟩ : S36)] : List (S36))), (([(⟨4, 0, 0, 0, 0⟩ : S36), (⟨8, 0, 0, 0, 0⟩ : S36)] : List (S36))), (([(⟨4, 0, 0, 0, 0⟩ : S36), (⟨4, 0, 0, 0, 0⟩ : S36), (⟨8, 0, 1, 0, 0⟩ : S36)] : List (S36))), (([(⟨4, 0, 0, 0, 0⟩ : S36), (⟨4, 0, 0, 0, 0⟩ : S36), (⟨8, 0, 0, 0, 0⟩ : S36)] : List (S36))), (([(⟨4, 0, 0, 0, 0⟩ : S36), (⟨4, 0, 0, 0, 0⟩ : S36), (⟨6, 0, 0, 0, 0⟩ : S36)] : List (S36))), (([(⟨4, 0, 0, 0, 0⟩ : S36), (⟨4, 0, 0, 0, 0⟩ : S36), (⟨4, 0, 0, 0, 0⟩ : S36), (⟨8, 0, 1, 2, 0⟩ : S36)] : List (S36))), (([(⟨4, 0, 0, 0, 0⟩ : S36), (⟨4, 0, 0, 0, 0⟩ : S36), (⟨8, 5, 0, 1, 0⟩ : S36)] : List (S36)))] : List (List (S36)))) 0 4 0 0 0 0) = some true := by first | (rw [hy208]; with_reducible exact H) | (have H2_ := (Option.bind_some _ _).symm.trans H; rw [hy208]; with_reducible exact H2_) | (have H2_ := (Option.bind_some _ _).symm.trans H; with_reducible exact H2_) | with_reducible exact H | (rw [hy208]; exact H) | exact H
 have Ny208 := zM hy208
 clear hy208
 obtain ⟨y211, hy211⟩ : ∃ y_ : List (S36), y_ = (([(⟨4, 0, 0, 0, 0⟩ : S36), (⟨5, 0, 1, 0, 0⟩ : S36)] : List (S36))) := ⟨_, rfl⟩
 replace H : (tNN.l0 k (([y178, y181, y184, y187, y190, y193, y196, y199, y202, y205, y208, y211, (([(⟨4, 0, 0, 0, 0⟩ : S36), (⟨5, 0, 0, 1, 0⟩ : S36)] : List (S36))), (([(⟨4, 0, 0, 0, 0⟩ : S36), (⟨8, 0, 0, 0, 0⟩ : S36)] : List (S36))), (([(⟨4, 0, 0, 0, 0⟩ : S36), (⟨4, 0, 0, 0, 0⟩ : S36), (⟨8, 0, 1, 0, 0⟩ : S36)] : List (S36))), (([(⟨4, 0, 0, 0, 0⟩ : S36), (⟨4, 0, 0, 0, 0⟩ : S36), (⟨8, 0, 0, 0, 0⟩ : S36)] : List (S36))), (([(⟨4, 0, 0, 0, 0⟩ : S36), (⟨4, 0, 0, 0, 0⟩ : S36), (⟨6, 0, 0, 0, 0⟩ : S36)] : List (S36))), (([(⟨4, 0, 0, 0, 0⟩ : S36), (⟨4, 0, 0, 0, 0⟩ : S36), (⟨4, 0, 0, 0, 0⟩ : S36), (⟨8, 0, 1, 2, 0⟩ : S36)] : List (S36))), (([(⟨4, 0, 0, 0, 0⟩ : S36), (⟨4, 0, 0, 0, 0⟩ : S36), (⟨8, 5, 0, 1, 0⟩ : S36)] : List (S36)))] : List (List (S36)))) 0 4 0 0 0 0) = some true := by first | (rw [hy211]; with_reducible exact H) | (have H2_ := (Option.bind_some _ _).symm.trans H; rw [hy211]; with_reducible exact H2_) | (have H2_ := (Option.bind_some _ _).symm.trans H; with_reducible exact H2_) | with_reducible exact H | (rw [hy211]; exact H) | exact H
 have Ny211 := zM hy211
 clear hy211
 obtain ⟨y214, hy214⟩ : ∃ y_ : List (S36), y_ = (([(⟨4, 0, 0, 0, 0⟩ : S36), (⟨5, 0, 0, 1, 0⟩ : S36)] : List (S36))) := ⟨_, rfl⟩
 replace H : (tNN.l0 k (([y178, y181, y184, y187, y190, y193, y196, y199, y202, y205, y208, y211, y214, (([(⟨4, 0, 0, 0, 0⟩ : S36), (⟨8, 0, 0, 0, 0⟩ : S36)] : List (S36))), (([(⟨4, 0, 0, 0, 0⟩ : S36), (⟨4, 0, 0, 0, 0⟩ : S36), (⟨8, 0, 1, 0, 0⟩ : S36)] : List (S36))), (([(⟨4, 0, 0, 0, 0⟩ : S36), (⟨4, 0, 0, 0, 0⟩ : S36), (⟨8, 0, 0, 0, 0⟩ : S36)] : List (S36))), (([(⟨4, 0, 0, 0, 0⟩ : S36), (⟨4, 0, 0, 0, 0⟩ : S36), (⟨6, 0, 0, 0, 0⟩ : S36)] : List (S36))), (([(⟨4, 0, 0, 0, 0⟩ : S36), (⟨4, 0, 0, 0, 0⟩ : S36), (⟨4, 0, 0, 0, 0⟩ : S36), (⟨8, 0, 1, 2, 0⟩ : S36)] : List (S36))), (([(⟨4, 0, 0, 0, 0⟩ : S36), (⟨4, 0, 0, 0, 0⟩ : S36), (⟨8, 5, 0, 1, 0⟩ : S36)] : List (S36)))] : List (List (S36)))) 0 4 0 0 0 0) = some true := by first | (rw [hy214]; with_reducible exact H) | (have H2_ := (Option.bind_some _ _).symm.trans H; rw [hy214]; with_reducible exact H2_) | (have H2_ := (Option.bind_some _ _).symm.trans H; with_reducible exact H2_) | with_reducible exact H | (rw [hy214]; exact H) | exact H
 have Ny214 := zM hy214
 clear hy214
 obtain ⟨y217, hy217⟩ : ∃ y_ : List (S36), y_ = (([(⟨4, 0, 0, 0, 0⟩ : S36), (⟨8, 0, 0, 0, 0⟩ : S36)] : List (S36))) := ⟨_, rfl⟩
 replace H : (tNN.l0 k (([y178, y181, y184, y187, y190, y193, y196, y199, y202, y205, y208, y211, y214, y217, (([(⟨4, 0, 0, 0, 0⟩ : S36), (⟨4, 0, 0, 0, 0⟩ : S36), (⟨8, 0, 1, 0, 0⟩ : S36)] : List (S36))), (([(⟨4, 0, 0, 0, 0⟩ : S36), (⟨4, 0, 0, 0, 0⟩ : S36), (⟨8, 0, 0, 0, 0⟩ : S36)] : List (S36))), (([(⟨4, 0, 0, 0, 0⟩ : S36), (⟨4, 0, 0, 0, 0⟩ : S36), (⟨6, 0, 0, 0, 0⟩ : S36)] : List (S36))), (([(⟨4, 0, 0, 0, 0⟩ : S36), (⟨4, 0, 0, 0, 0⟩ : S36), (⟨4, 0, 0, 0, 0⟩ : S36), (⟨8, 0, 1, 2, 0⟩ : S36)] : List (S36))), (([(⟨4, 0, 0, 0, 0⟩ : S36), (⟨4, 0, 0, 0, 0⟩ : S36), (⟨8, 5, 0, 1, 0⟩ : S36)] : List (S36)))] : List (List (S36)))) 0 4 0 0 0 0) = some true := by first | (rw [hy217]; with_reducible exact H) | (have H2_ := (Option.bind_some _ _).symm.trans H; rw [hy217]; with_reducible exact H2_) | (have H2_ := (Option.bind_some _ _).symm.trans H; with_reducible exact H2_) | with_reducible exact H | (rw [hy217]; exact H) | exact H
 have Ny217 := zM hy217
 clear hy217
 obtain ⟨y220, hy220⟩ : ∃ y_ : List (S36), y_ = (([(⟨4, 0, 0, 0, 0⟩ : S36), (⟨4, 0, 0, 0, 0⟩ : S36), (⟨8, 0, 1, 0, 0⟩ : S36)] : List (S36))) := ⟨_, rfl⟩
 replace H : (tNN.l0 k (([y178, y181, y184, y187, y190, y193, y196, y199, y202, y205, y208, y211, y214, y217, y220, (([(⟨4, 0, 0, 0, 0⟩ : S36), (⟨4, 0, 0, 0, 0⟩ : S36), (⟨8, 0, 0, 0, 0⟩ : S36)] : List (S36))), (([(⟨4, 0, 0, 0, 0⟩ : S36), (⟨4, 0, 0, 0, 0⟩ : S36), (⟨6, 0, 0, 0, 0⟩ : S36)] : List (S36))), (([(⟨4, 0, 0, 0, 0⟩ : S36), (⟨4, 0, 0, 0, 0⟩ : S36), (⟨4, 0, 0, 0, 0⟩ : S36), (⟨8, 0, 1, 2, 0⟩ : S36)] : List (S36))), (([(⟨4, 0, 0, 0, 0⟩ : S36), (⟨4, 0, 0, 0, 0⟩ : S36), (⟨8, 5, 0, 1, 0⟩ : S36)] : List (S36)))] : List (List (S36)))) 0 4 0 0 0 0) = some true := by first | (rw [hy220]; with_reducible exact H) | (have H2_ := (Option.bind_some _ _).symm.trans H; rw [hy220]; with_reducible exact H2_) | (have H2_ := (Option.bind_some _ _).symm.trans H; with_reducible exact H2_) | with_reducible exact H | (rw [hy220]; exact H) | exact H
 have Ny220 := zM hy220
 clear hy220
 obtain ⟨y223, hy223⟩ : ∃ y_ : List (S36), y_ = (([(⟨4, 0, 0, 0, 0⟩ : S36), (⟨4, 0, 0, 0, 0⟩ : S36), (⟨8, 0, 0, 0, 0⟩ : S36)] : List (S36))) := ⟨_, rfl⟩
 replace H : (tNN.l0 k (([y178, y181, y184, y187, y190, y193, y196, y199, y202, y205, y208, y211, y214, y217, y220, y223, (([(⟨4, 0, 0, 0, 0⟩ : S36), (⟨4, 0, 0, 0, 0⟩ : S36), (⟨6, 0, 0, 0, 0⟩ : S36)] : List (S36))), (([(⟨4, 0, 0, 0, 0⟩ : S36), (⟨4, 0, 0, 0, 0⟩ : S36), (⟨4, 0, 0, 0, 0⟩ : S36), (⟨8, 0, 1, 2, 0⟩ : S36)] : List (S36))), (([(⟨4, 0, 0, 0, 0⟩ : S36), (⟨4, 0, 0, 0, 0⟩ : S36), (⟨8, 5, 0, 1, 0⟩ : S36)] : List (S36)))] : List (List (S36)))) 0 4 0 0 0 0) = some true := by first | (rw [hy223]; with_reducible exact H) | (have H2_ := (Option.bind_some _ _).symm.trans H; rw [hy223]; with_reducible exact H2_) | (have H2_ := (Option.bind_some _ _).symm.trans H; with_reducible exact H2_) | with_reducible exact H | (rw [hy223]; exact H) | exact H
 have Ny223 := zM hy223
 clear hy223
 obtain ⟨y226, hy226⟩ : ∃ y_ : List (S36), y_ = (([(⟨4, 0, 0, 0, 0⟩ : S36), (⟨4, 0, 0, 0, 0⟩ : S36), (⟨6, 0, 0, 0, 0⟩ : S36)] : List (S36))) := ⟨_, rfl⟩
 replace H : (tNN.l0 k (([y178, y181, y184, y187, y190, y193, y196, y199, y202, y205, y208, y211, y214, y217, y220, y223, y226, (([(⟨4, 0, 0, 0, 0⟩ : S36), (⟨4, 0, 0, 0, 0⟩ : S36), (⟨4, 0, 0, 0, 0⟩ : S36), (⟨8, 0, 1, 2, 0⟩ : S36)] : List (S36))), (([(⟨4, 0, 0, 0, 0⟩ : S36), (⟨4, 0, 0, 0, 0⟩ : S36), (⟨8, 5, 0, 1, 0⟩ : S36)] : List (S36)))] : List (List (S36)))) 0 4 0 0 0 0) = some true := by first | (rw [hy226]; with_reducible exact H) | (have H2_ := (Option.bind_some _ _).symm.trans H; rw [hy226]; with_reducible exact H2_) | (have H2_ := (Option.bind_some _ _).symm.trans H; with_reducible exact H2_) | with_reducible exact H | (rw [hy226]; exact H) | exact H
 have Ny226 := zM hy226
 clear hy226
 obtain ⟨y229, hy229⟩ : ∃ y_ : List (S36), y_ = (([(⟨4, 0, 0, 0, 0⟩ : S36), (⟨4, 0, 0, 0, 0⟩ : S36), (⟨4, 0, 0, 0, 0⟩ : S36), (⟨8, 0, 1, 2, 0⟩ : S36)] : List (S36))) := ⟨_, rfl⟩
 replace H : (tNN.l0 k (([y178, y181, y184, y187, y190, y193, y196, y199, y202, y205, y208, y211, y214, y217, y220, y223, y226, y229, (([(⟨4, 0, 0, 0, 0⟩ : S36), (⟨4, 0, 0, 0, 0⟩ : S36), (⟨8, 5, 0, 1, 0⟩ : S36)] : List (S36)))] : List (List (S36)))) 0 4 0 0 0 0) = some true := by first | (rw [hy229]; with_reducible exact H) | (have H2_ := (Option.bind_some _ _).symm.trans H; rw [hy229]; with_reducible exact H2_) | (have H2_ := (Option.bind_some _ _).symm.trans H; with_reducible exact H2_) | with_reducible exact H | (rw [hy229]; exact H) | exact H
 have Ny229 := zM hy229
 clear hy229
 obtain ⟨y232, hy232⟩ : ∃ y_ : List (S36), y_ = (([(⟨4, 0, 0, 0, 0⟩ : S36), (⟨4, 0, 0, 0, 0⟩ : S36), (⟨8, 5, 0, 1, 0⟩ : S36)] : List (S36))) := ⟨_, rfl⟩
 replace H : (tNN.l0 k (([y178, y181, y184, y187, y190, y193, y196, y199, y202, y205, y208, y211, y214, y217, y220, y223, y226, y229, y232] : List (List (S36)))) 0 4 0 0 0 0) = some true := by first | (rw [hy232]; with_reducible exact H) | (have H2_ := (Option.bind_some _ _).symm.trans H; rw [hy232]; with_reducible exact H2_) | (have H2_ := (Option.bind_some _ _).symm.trans H; with_reducible exact H2_) | with_reducible exact H | (rw [hy232]; exact H) | exact H
 have Ny232 := zM hy232
 clear hy232
 obtain ⟨y235, hy235⟩ : ∃ y_ : List (List (S36)), y_ = (([y178, y181, y184, y187, y190, y193, y196, y199, y202, y205, y208, y211, y214, y217, y220, y223, y226, y229, y232] : List (List (S36)))) := ⟨_, rfl⟩
 replace H : (tNN.l0 k y235 0 4 0 0 0 0) = some true := by first | (rw [hy235]; with_reducible exact H) | (have H2_ := (Option.bind_some _ _).symm.trans H; rw [hy235]; with_reducible exact H2_) | (have H2_ := (Option.bind_some _ _).symm.trans H; with_reducible exact H2_) | with_reducible exact H | (rw [hy235]; exact H) | exact H
 have Ny235 := zM hy235
 clear hy235
 have H' := zM H
 clear H
 go_enter Try.func14, Try.ntmps14
 go_wp2_with (first | ((with_reducible refine gate_dst (N := 1) rfl ?_); (try (refine gate_guard (by rfl) ?_; dsimp only)); refine box_event ?hg (N := 1) ?hd (cs := #[.int .u8 0, .int .i64 0, .int .i64 0, .int .i64 0, .int .i64 0]) (t := 36) ?hr ?_; (case hd => rfl); (case hg => rfl); (case hr => first | (go_simp; done) | (go_simp; rfl)); intro gb177 hg w1 hbox hb; have n0_ := zM (below_step (by repeat (first | (with_reducible first | exact HB.out | apply zC | apply zP | apply zO) | exact HB.out)) hb); have n1_ := zM (hbox); have n2_ := zM ((by rw [hg]; exact (below_size (by repeat (first | (with_reducible first | exact HB.out | apply zC | apply zP | apply zO) | exact HB.out))) : w.heap.size ≤ gb177)); have n3_ := zM ((by rw [hg]; exact (below_size (by repeat (first | (with_reducible first | exact HB.out | apply zC | apply zP | apply zO) | exact HB.out))) : w.heap.size ≤ gb177)); clear HB; have HB := n0_; have BK177 := n1_; have GW177 := n2_; have GE177 := n3_; clear n0_ n1_ n2_ n3_; clear hb hbox hg; have hcz2_0 : w1.cell? ⟨gb177, 0, none⟩ = some (.int .u8 0) := (blk_cell BK177.out 0).trans rfl; have hcz2_1 : w1.cell? ⟨gb177, 1, none⟩ = some (.int .i64 0) := (blk_cell BK177.out 1).trans rfl; have hcz2_2 : w1.cell? ⟨gb177, 2, none⟩ = some (.int .i64 0) := (blk_cell BK177.out 2).trans rfl; have hcz2_3 : w1.cell? ⟨gb177, 3, none⟩ = some (.int .i64 0) := (blk_cell BK177.out 3).trans rfl; have hcz2_4 : w1.cell? ⟨gb177, 4, none⟩ = some (.int .i64 0) := (blk_cell BK177.out 4).trans rfl; have hfz2_0 := blk_frozen BK177.out 0; have hfz2_1 := blk_frozen BK177.out 1; have hfz2_2 := blk_frozen BK177.out 2; have hfz2_3 := blk_frozen BK177.out 3; have hfz2_4 := blk_frozen BK177.out 4) | ((with_reducible refine gate_dst (N := 34) rfl ?_); (try (refine gate_guard (by rfl) ?_; dsimp only)); refine Kd.R_lit k36 _ 36 ?hg (N := 34) ?hd (xs := ([] : List (S36))) (inner := []) (ok := fun _ => True) (okp := fun _ => True) ?hr ?hp (fun _ hk => hk) trivial (Below.refl _ _) (Nat.le_refl _) (by simp) ?_; (case hd => rfl); (case hg => rfl); (case hr => first | (go_simp; done) | (go_simp; rfl)); (case hp => exact (Reps.none _ _)); intro v179 w3 ho4 hb hg_ hnew_; clear hg_ hnew_; (first | rw [← Ny178.out] at ho4 | (simp only [Int.reduceToNat] at ho4; rw [← Ny178.out] at ho4)); have n0_ := zM (Kd.R_lower (Kd.R_newB ho4 (g := gb177) (o := .cells #[.int .u8 4, .int .i64 0, .int .i64 0, .int .i64 0, .int .i64 0] 36 (0, 0)) (by (with_reducible repeat (first | refine blk_drewN ?_ _ | refine blk_drew ?_ | refine blk_alloc ?_ _)); refine blk_put (cs := #[.int .u8 4, .int .i64 0, .int .i64 0, .int .i64 0, .int .i64 0]) ?_ 4 _ rfl; (with_reducible repeat (first | refine blk_drewN ?_ _ | refine blk_drew ?_ | refine blk_alloc ?_ _)); refine blk_put (cs := #[.int .u8 4, .int .i64 0, .int .i64 0, .int .i64 0, .int .i64 0]) ?_ 3 _ rfl; (with_reducible repeat (first | refine blk_drewN ?_ _ | refine blk_drew ?_ | refine blk_alloc ?_ _)); refine blk_put (cs := #[.int .u8 4, .int .i64 0, .int .i64 0, .int .i64 0, .int .i64 0]) ?_ 2 _ rfl; (with_reducible repeat (first | refine blk_drewN ?_ _ | refine blk_drew ?_ | refine blk_alloc ?_ _)); refine blk_put (cs := #[.int .u8 4, .int .i64 0, .int .i64 0, .int .i64 0, .int .i64 0]) ?_ 1 _ rfl; (with_reducible repeat (first | refine blk_drewN ?_ _ | refine blk_drew ?_ | refine blk_alloc ?_ _)); refine blk_put (cs := #[.int .u8 0, .int .i64 0, .int .i64 0, .int .i64 0, .int .i64 0]) ?_ 0 _ rfl; (with_reducible repeat (first | refine blk_drewN ?_ _ | refine blk_drew ?_ | refine blk_alloc ?_ _)); exact BK177.out)) (below_size (by repeat (first | (with_reducible first | exact HB.out | apply zC | apply zP | apply zO | refine below_set ?_ GE177.out) | exact HB.out)))); have n1_ := zM (blk_below (g := gb177) (o := .cells #[.int .u8 4, .int .i64 0, .int .i64 0, .int .i64 0, .int .i64 0] 36 (0, 0)) (by (with_reducible repeat (first | refine blk_drewN ?_ _ | refine blk_drew ?_ | refine blk_alloc ?_ _)); refine blk_put (cs := #[.int .u8 4, .int .i64 0, .int .i64 0, .int .i64 0, .int .i64 0]) ?_ 4 _ rfl; (with_reducible repeat (first | refine blk_drewN ?_ _ | refine blk_drew ?_ | refine blk_alloc ?_ _)); refine blk_put (cs := #[.int .u8 4, .int .i64 0, .int .i64 0, .int .i64 0, .int .i64 0]) ?_ 3 _ rfl; (with_reducible repeat (first | refine blk_drewN ?_ _ | refine blk_drew ?_ | refine blk_alloc ?_ _)); refine blk_put (cs := #[.int .u8 4, .int .i64 0, .int .i64 0, .int .i64 0, .int .i64 0]) ?_ 2 _ rfl; (with_reducible repeat (first | refine blk_drewN ?_ _ | refine blk_drew ?_ | refine blk_alloc ?_ _)); refine blk_put (cs := #[.int .u8 4, .int .i64 0, .int .i64 0, .int .i64 0, .int .i64 0]) ?_ 1 _ rfl; (with_reducible repeat (first | refine blk_drewN ?_ _ | refine blk_drew ?_ | refine blk_alloc ?_ _)); refine blk_put (cs := #[.int .u8 0, .int .i64 0, .int .i64 0, .int .i64 0, .int .i64 0]) ?_ 0 _ rfl; (with_reducible repeat (first | refine blk_drewN ?_ _ | refine blk_drew ?_ | refine blk_alloc ?_ _)); exact BK177.out) hb); have n2_ := zM (below_step (by repeat (first | (with_reducible first | exact HB.out | apply zC | apply zP | apply zO | refine below_set ?_ GE177.out) | exact HB.out)) hb); clear BK177; clear HB; have HO180 := n0_; have BK177 := n1_; have HB := n2_; clear n0_ n1_ n2_; clear hb ho4) | ((with_reducible refine gate_dst (N := 36) rfl ?_); (try (refine gate_guard (by rfl) ?_; dsimp only)); refine Kd.R_lit k36 _ 36 ?hg (N := 36) ?hd (xs := ([(⟨0, 0, 0, 0, 0⟩ : S36)] : List (S36))) (inner := [.int .u8 0, .int .i64 0, .int .i64 0, .int .i64 0, .int .i64 0]) (ok := fun _ => True) (okp := fun _ => True) ?hr ?hp (fun _ hk => hk) trivial (Below.refl _ _) (Nat.le_refl _) (by simp) ?_; (case hd => rfl); (case hg => rfl); (case hr => first | (go_simp; done) | (go_simp; rfl)); (case hp => exact (Reps.c5 (show Kd.M k36 _ _ _ (⟨0, 0, 0, 0, 0⟩ : S36) [.int .u8 0, .int .i64 0, .int .i64 0, .int .i64 0, .int .i64 0] from (k36_mkM _ _ _ (⟨0, 0, 0, 0, 0⟩ : S36) )) (Reps.none _ _))); intro v182 w5 ho6 hb hg_ hnew_; clear hg_ hnew_; (first | rw [← Ny181.out] at ho6 | (simp only [Int.reduceToNat] at ho6; rw [← Ny181.out] at ho6)); have n0_ := zM (zE (by (with_reducible repeat (first | apply zA | apply zN | apply zD)); exact HO180.out) (zB ho6) hb); have n1_ := zM (Kd.R_lower (Kd.R_newB (zW ho6 (zL (by (with_reducible repeat (first | apply zA | apply zN | apply zD)); exact HO180.out))) (g := gb177) (o := .cells #[.int .u8 4, .int .i64 0, .int .i64 0, .int .i64 0, .int .i64 0] 36 (0, 0)) (by (with_reducible repeat (first | refine blk_drewN ?_ _ | refine blk_drew ?_ | refine blk_alloc ?_ _)); exact BK177.out)) (below_size (by repeat (first | (with_reducible first | exact HB.out | apply zC | apply zP | apply zO | refine below_set ?_ GE177.out) | exact HB.out)))); have n2_ := zM (blk_below (g := gb177) (o := .cells #[.int .u8 4, .int .i64 0, .int .i64 0, .int .i64 0, .int .i64 0] 36 (0, 0)) (by (with_reducible repeat (first | refine blk_drewN ?_ _ | refine blk_drew ?_ | refine blk_alloc ?_ _)); exact BK177.out) hb); have n3_ := zM (below_step (by repeat (first | (with_reducible first | exact HB.out | apply zC | apply zP | apply zO | refine below_set ?_ GE177.out) | exact HB.out)) hb); clear HO180; clear BK177; clear HB; have HO180 := n0_; have HO183 := n1_; have BK177 := n2_; have HB := n3_; clear n0_ n1_ n2_ n3_; clear hb ho6) | ((with_reducible refine gate_dst (N := 38) rfl ?_); (try (refine gate_guard (by rfl) ?_; dsimp only)); refine Kd.R_lit k36 _ 36 ?hg (N := 38) ?hd (xs := ([(⟨20, 0, 0, 0, 0⟩ : S36)] : List (S36))) (inner := [.int .u8 20, .int .i64 0, .int .i64 0, .int .i64 0, .int .i64 0]) (ok := fun _ => True) (okp := fun _ => True) ?hr ?hp (fun _ hk => hk) trivial (Below.refl _ _) (Nat.le_refl _) (by simp) ?_; (case hd => rfl); (case hg => rfl); (case hr => first | (go_simp; done) | (go_simp; rfl)); (case hp => exact (Reps.c5 (show Kd.M k36 _ _ _ (⟨20, 0, 0, 0, 0⟩ : S36) [.int .u8 20, .int .i64 0, .int .i64 0, .int .i64 0, .int .i64 0] from (k36_mkM _ _ _ (⟨20, 0, 0, 0, 0⟩ : S36) )) (Reps.none _ _))); intro v185 w7 ho8 hb hg_ hnew_; clear hg_ hnew_; (first | rw [← Ny184.out] at ho8 | (simp only [Int.reduceToNat] at ho8; rw [← Ny184.out] at ho8)); have n0_ := zM (zE (by (with_reducible repeat (first | apply zA | apply zN | apply zD)); exact HO180.out) (zB ho8) hb); have n1_ := zM (zE (by (with_reducible repeat (first | apply zA | apply zN | apply zD)); exact HO183.out) (zB ho8) hb); have n2_ := zM (Kd.R_lower (Kd.R_newB (zW (zW ho8 (zL (by (with_reducible repeat (first | apply zA | apply zN | apply zD)); exact HO180.out))) (zL (by (with_reducible repeat (first | apply zA | apply zN | apply zD)); exact HO183.out))) (g := gb177) (o := .cells #[.int .u8 4, .int .i64 0, .int .i64 0, .int .i64 0, .int .i64 0] 36 (0, 0)) (by (with_reducible repeat (first | refine blk_drewN ?_ _ | refine blk_drew ?_ | refine blk_alloc ?_ _)); exact BK177.out)) (below_size (by repeat (first | (with_reducible first | exact HB.out | apply zC | apply zP | apply zO | refine below_set ?_ GE177.out) | exact HB.out)))); have n3_ := zM (blk_below (g := gb177) (o := .cells #[.int .u8 4, .int .i64 0, .int .i64 0, .int .i64 0, .int .i64 0] 36 (0, 0)) (by (with_reducible repeat (first | refine blk_drewN ?_ _ | refine blk_drew ?_ | refine blk_alloc ?_ _)); exact BK177.out) hb); have n4_ := zM (below_step (by repeat (first | (with_reducible first | exact HB.out | apply zC | apply zP | apply zO | refine below_set ?_ GE177.out) | exact HB.out)) hb); clear HO180; clear HO183; clear BK177; clear HB; have HO180 := n0_; have HO183 := n1_; have HO186 := n2_; have BK177 := n3_; have HB := n4_; clear n0_ n1_ n2_ n3_ n4_; clear hb ho8) | ((with_reducible refine gate_dst (N := 40) rfl ?_); (try (refine gate_guard (by rfl) ?_; dsimp only)); refine Kd.R_lit k36 _ 36 ?hg (N := 40) ?hd (xs := ([(⟨2, 1, 0, 0, 0⟩ : S36)] : List (S36))) (inner := [.int .u8 2, .int .i64 1, .int .i64 0, .int .i64 0, .int .i64 0]) (ok := fun _ => True) (okp := fun _ => True) ?hr ?hp (fun _ hk => hk) trivial (Below.refl _ _) (Nat.le_refl _) (by simp) ?_; (case hd => rfl); (case hg => rfl); (case hr => first | (go_simp; done) | (go_simp; rfl)); (case hp => exact (Reps.c5 (show Kd.M k36 _ _ _ (⟨2, 1, 0, 0, 0⟩ : S36) [.int .u8 2, .int .i64 1, .int .i64 0, .int .i64 0, .int .i64 0] from (k36_mkM _ _ _ (⟨2, 1, 0, 0, 0⟩ : S36) )) (Reps.none _ _))); intro v188 w9 ho10 hb hg_ hnew_; clear hg_ hnew_; (first | rw [← Ny187.out] at ho10 | (simp only [Int.reduceToNat] at ho10; rw [← Ny187.out] at ho10)); have n0_ := zM (zE (by (with_reducible repeat (first | apply zA | apply zN | apply zD)); exact HO180.out) (zB ho10) hb); have n1_ := zM (zE (by (with_reducible repeat (first | apply zA | apply zN | apply zD)); exact HO183.out) (zB ho10) hb); have n2_ := zM (zE (by (with_reducible repeat (first | apply zA | apply zN | apply zD)); exact HO186.out) (zB ho10) hb); have n3_ := zM (Kd.R_lower (Kd.R_newB (zW (zW (zW ho10 (zL (by (with_reducible repeat (first | apply zA | apply zN | apply zD)); exact HO180.out))) (zL (by (with_reducible repeat (first | apply zA | apply zN | apply zD)); exact HO183.out))) (zL (by (with_reducible repeat (first | apply zA | apply zN | apply zD)); exact HO186.out))) (g := gb177) (o := .cells #[.int .u8 4, .int .i64 0, .int .i64 0, .int .i64 0, .int .i64 0] 36 (0, 0)) (by (with_reducible repeat (first | refine blk_drewN ?_ _ | refine blk_drew ?_ | refine blk_alloc ?_ _)); exact BK177.out)) (below_size (by repeat (first | (with_reducible first | exact HB.out | apply zC | apply zP | apply zO | refine below_set ?_ GE177.out) | exact HB.out)))); have n4_ := zM (blk_below (g := gb177) (o := .cells #[.int .u8 4, .int .i64 0, .int .i64 0, .int .i64 0, .int .i64 0] 36 (0, 0)) (by (with_reducible repeat (first | refine blk_drewN ?_ _ | refine blk_drew ?_ | refine blk_alloc ?_ _)); exact BK177.out) hb); have n5_ := zM (below_step (by repeat (first | (with_reducible first | exact HB.out | apply zC | apply zP | apply zO | refine below_set ?_ GE177.out) | exact HB.out)) hb); clear HO180; clear HO183; clear HO186; clear BK177; clear HB; have HO180 := n0_; have HO183 := n1_; have HO186 := n2_; have HO189 := n3_; have BK177 := n4_; have HB := n5_; clear n0_ n1_ n2_ n3_ n4_ n5_; clear hb ho10) | ((with_reducible refine gate_dst (N := 42) rfl ?_); (try (refine gate_guard (by rfl) ?_; dsimp only)); refine Kd.R_lit k36 _ 36 ?hg (N := 42) ?hd (xs := ([(⟨1, (-1), 0, 0, 0⟩ : S36)] : List (S36))) (inner := [.int .u8 1, .int .i64 (-1), .int .i64 0, .int .i64 0, .int .i64 0]) (ok := fun _ => True) (okp := fun _ => True) ?hr ?hp (fun _ hk => hk) trivial (Below.refl _ _) (Nat.le_refl _) (by simp) ?_; (case hd => rfl); (case hg => rfl); (case hr => first | (go_simp; done) | (go_simp; rfl)); (case hp => exact (Reps.c5 (show Kd.M k36 _ _ _ (⟨1, (-1), 0, 0, 0⟩ : S36) [.int .u8 1, .int .i64 (-1), .int .i64 0, .int .i64 0, .int .i64 0] from (k36_mkM _ _ _ (⟨1, (-1), 0, 0, 0⟩ : S36) )) (Reps.none _ _))); intro v191 w11 ho12 hb hg_ hnew_; clear hg_ hnew_; (first | rw [← Ny190.out] at ho12 | (simp only [Int.reduceToNat] at ho12; rw [← Ny190.out] at ho12)); have n0_ := zM (zE (by (with_reducible repeat (first | apply zA | apply zN | apply zD)); exact HO180.out) (zB ho12) hb); have n1_ := zM (zE (by (with_reducible repeat (first | apply zA | apply zN | apply zD)); exact HO183.out) (zB ho12) hb); have n2_ := zM (zE (by (with_reducible repeat (first | apply zA | apply zN | apply zD)); exact HO186.out) (zB ho12) hb); have n3_ := zM (zE (by (with_reducible repeat (first | apply zA | apply zN | apply zD)); exact HO189.out) (zB ho12) hb); have n4_ := zM (Kd.R_lower (Kd.R_newB (zW (zW (zW (zW ho12 (zL (by (with_reducible repeat (first | apply zA | apply zN | apply zD)); exact HO180.out))) (zL (by (with_reducible repeat (first | apply zA | apply zN | apply zD)); exact HO183.out))) (zL (by (with_reducible repeat (first | apply zA | apply zN | apply zD)); exact HO186.out))) (zL (by (with_reducible repeat (first | apply zA | apply zN | apply zD)); exact HO189.out))) (g := gb177) (o := .cells #[.int .u8 4, .int .i64 0, .int .i64 0, .int .i64 0, .int .i64 0] 36 (0, 0)) (by (with_reducible repeat (first | refine blk_drewN ?_ _ | refine blk_drew ?_ | refine blk_alloc ?_ _)); exact BK177.out)) (below_size (by repeat (first | (with_reducible first | exact HB.out | apply zC | apply zP | apply zO | refine below_set ?_ GE177.out) | exact HB.out)))); have n5_ := zM (blk_below (g := gb177) (o := .cells #[.int .u8 4, .int .i64 0, .int .i64 0, .int .i64 0, .int .i64 0] 36 (0, 0)) (by (with_reducible repeat (first | refine blk_drewN ?_ _ | refine blk_drew ?_ | refine blk_alloc ?_ _)); exact BK177.out) hb); have n6_ := zM (below_step (by repeat (first | (with_reducible first | exact HB.out | apply zC | apply zP | apply zO | refine below_set ?_ GE177.out) | exact HB.out)) hb); clear HO180; clear HO183; clear HO186; clear HO189; clear BK177; clear HB; have HO180 := n0_; have HO183 := n1_; have HO186 := n2_; have HO189 := n3_; have HO192 := n4_; have BK177 := n5_; have HB := n6_; clear n0_ n1_ n2_ n3_ n4_ n5_ n6_; clear hb ho12) | ((with_reducible refine gate_dst (N := 44) rfl ?_); (try (refine gate_guard (by rfl) ?_; dsimp only)); refine Kd.R_lit k36 _ 36 ?hg (N := 44) ?hd (xs := ([(⟨3, 0, 1, 0, 0⟩ : S36)] : List (S36))) (inner := [.int .u8 3, .int .i64 0, .int .i64 1, .int .i64 0, .int .i64 0]) (ok := fun _ => True) (okp := fun _ => True) ?hr ?hp (fun _ hk => hk) trivial (Below.refl _ _) (Nat.le_refl _) (by simp) ?_; (case hd => rfl); (case hg => rfl); (case hr => first | (go_simp; done) | (go_simp; rfl)); (case hp => exact (Reps.c5 (show Kd.M k36 _ _ _ (⟨3, 0, 1, 0, 0⟩ : S36) [.int .u8 3, .int .i64 0, .int .i64 1, .int .i64 0, .int .i64 0] from (k36_mkM _ _ _ (⟨3, 0, 1, 0, 0⟩ : S36) )) (Reps.none _ _))); intro v194 w13 ho14 hb hg_ hnew_; clear hg_ hnew_; (first | rw [← Ny193.out] at ho14 | (simp only [Int.reduceToNat] at ho14; rw [← Ny193.out] at ho14)); have n0_ := zM (zE (by (with_reducible repeat (first | apply zA | apply zN | apply zD)); exact HO180.out) (zB ho14) hb); have n1_ := zM (zE (by (with_reducible repeat (first | apply zA | apply zN | apply zD)); exact HO183.out) (zB ho14) hb); have n2_ := zM (zE (by (with_reducible repeat (first | apply zA | apply zN | apply zD)); exact HO186.out) (zB ho14) hb); have n3_ := zM (zE (by (with_reducible repeat (first | apply zA | apply zN | apply zD)); exact HO189.out) (zB ho14) hb); have n4_ := zM (zE (by (with_reducible repeat (first | apply zA | apply zN | apply zD)); exact HO192.out) (zB ho14) hb); have n5_ := zM (Kd.R_lower (Kd.R_newB (zW (zW (zW (zW (zW ho14 (zL (by (with_reducible repeat (first | apply zA | apply zN | apply zD)); exact HO180.out))) (zL (by (with_reducible repeat (first | apply zA | apply zN | apply zD)); exact HO183.out))) (zL (by (with_reducible repeat (first | apply zA | apply zN | apply zD)); exact HO186.out))) (zL (by (with_reducible repeat (first | apply zA | apply zN | apply zD)); exact HO189.out))) (zL (by (with_reducible repeat (first | apply zA | apply zN | apply zD)); exact HO192.out))) (g := gb177) (o := .cells #[.int .u8 4, .int .i64 0, .int .i64 0, .int .i64 0, .int .i64 0] 36 (0, 0)) (by (with_reducible repeat (first | refine blk_drewN ?_ _ | refine blk_drew ?_ | refine blk_alloc ?_ _)); exact BK177.out)) (below_size (by repeat (first | (with_reducible first | exact HB.out | apply zC | apply zP | apply zO | refine below_set ?_ GE177.out) | exact HB.out)))); have n6_ := zM (blk_below (g := gb177) (o := .cells #[.int .u8 4, .int .i64 0, .int .i64 0, .int .i64 0, .int .i64 0] 36 (0, 0)) (by (with_reducible repeat (first | refine blk_drewN ?_ _ | refine blk_drew ?_ | refine blk_alloc ?_ _)); exact BK177.out) hb); have n7_ := zM (below_step (by repeat (first | (with_reducible first | exact HB.out | apply zC | apply zP | apply zO | refine below_set ?_ GE177.out) | exact HB.out)) hb); clear HO180; clear HO183; clear HO186; clear HO189; clear HO192; clear BK177; clear HB; have HO180 := n0_; have HO183 := n1_; have HO186 := n2_; have HO189 := n3_; have HO192 := n4_; have HO195 := n5_; have BK177 := n6_; have HB := n7_; clear n0_ n1_ n2_ n3_ n4_ n5_ n6_ n7_; clear hb ho14) | ((with_reducible refine gate_dst (N := 46) rfl ?_); (try (refine gate_guard (by rfl) ?_; dsimp only)); refine Kd.R_lit k36 _ 36 ?hg (N := 46) ?hd (xs := ([(⟨3, 0, 0, 1, 0⟩ : S36)] : List (S36))) (inner := [.int .u8 3, .int .i64 0, .int .i64 0, .int .i64 1, .int .i64 0]) (ok := fun _ => True) (okp := fun _ => True) ?hr ?hp (fun _ hk => hk) trivial (Below.refl _ _) (Nat.le_refl _) (by simp) ?_; (case hd => rfl); (case hg => rfl); (case hr => first | (go_simp; done) | (go_simp; rfl)); (case hp => exact (Reps.c5 (show Kd.M k36 _ _ _ (⟨3, 0, 0, 1, 0⟩ : S36) [.int .u8 3, .int .i64 0, .int .i64 0, .int .i64 1, .int .i64 0] from (k36_mkM _ _ _ (⟨3, 0, 0, 1, 0⟩ : S36) )) (Reps.none _ _))); intro v197 w15 ho16 hb hg_ hnew_; clear hg_ hnew_; (first | rw [← Ny196.out] at ho16 | (simp only [Int.reduceToNat] at ho16; rw [← Ny196.out] at ho16)); have n0_ := zM (zE (by (with_reducible repeat (first | apply zA | apply zN | apply zD)); exact HO180.out) (zB ho16) hb); have n1_ := zM (zE (by (with_reducible repeat (first | apply zA | apply zN | apply zD)); exact HO183.out) (zB ho16) hb); have n2_ := zM (zE (by (with_reducible repeat (first | apply zA | apply zN | apply zD)); exact HO186.out) (zB ho16) hb); have n3_ := zM (zE (by (with_reducible repeat (first | apply zA | apply zN | apply zD)); exact HO189.out) (zB ho16) hb); have n4_ := zM (zE (by (with_reducible repeat (first | apply zA | apply zN | apply zD)); exact HO192.out) (zB ho16) hb); have n5_ := zM (zE (by (with_reducible repeat (first | apply zA | apply zN | apply zD)); exact HO195.out) (zB ho16) hb); have n6_ := zM (Kd.R_lower (Kd.R_newB (zW (zW (zW (zW (zW (zW ho16 (zL (by (with_reducible repeat (first | apply zA | apply zN | apply zD)); exact HO180.out))) (zL (by (with_reducible repeat (first | apply zA | apply zN | apply zD)); exact HO183.out))) (zL (by (with_reducible repeat (first | apply zA | apply zN | apply zD)); exact HO186.out))) (zL (by (with_reducible repeat (first | apply zA | apply zN | apply zD)); exact HO189.out))) (zL (by (with_reducible repeat (first | apply zA | apply zN | apply zD)); exact HO192.out))) (zL (by (with_reducible repeat (first | apply zA | apply zN | apply zD)); exact HO195.out))) (g := gb177) (o := .cells #[.int .u8 4, .int .i64 0, .int .i64 0, .int .i64 0, .int .i64 0] 36 (0, 0)) (by (with_reducible repeat (first | refine blk_drewN ?_ _ | refine blk_drew ?_ | refine blk_alloc ?_ _)); exact BK177.out)) (below_size (by repeat (first | (with_reducible first | exact HB.out | apply zC | apply zP | apply zO | refine below_set ?_ GE177.out) | exact HB.out)))); have n7_ := zM (blk_below (g := gb177) (o := .cells #[.int .u8 4, .int .i64 0, .int .i64 0, .int .i64 0, .int .i64 0] 36 (0, 0)) (by (with_reducible repeat (first | refine blk_drewN ?_ _ | refine blk_drew ?_ | refine blk_alloc ?_ _)); exact BK177.out) hb); have n8_ := zM (below_step (by repeat (first | (with_reducible first | exact HB.out | apply zC | apply zP | apply zO | refine below_set ?_ GE177.out) | exact HB.out)) hb); clear HO180; clear HO183; clear HO186; clear HO189; clear HO192; clear HO195; clear BK177; clear HB; have HO180 := n0_; have HO183 := n1_; have HO186 := n2_; have HO189 := n3_; have HO192 := n4_; have HO195 := n5_; have HO198 := n6_; have BK177 := n7_; have HB := n8_; clear n0_ n1_ n2_ n3_ n4_ n5_ n6_ n7_ n8_; clear hb ho16) | ((with_reducible refine gate_dst (N := 48) rfl ?_); (try (refine gate_guard (by rfl) ?_; dsimp only)); refine Kd.R_lit k36 _ 36 ?hg (N := 48) ?hd (xs := ([(⟨3, 0, 0, 0, (-1)⟩ : S36)] : List (S36))) (inner := [.int .u8 3, .int .i64 0, .int .i64 0, .int .i64 0, .int .i64 (-1)]) (ok := fun _ => True) (okp := fun _ => True) ?hr ?hp (fun _ hk => hk) trivial (Below.refl _ _) (Nat.le_refl _) (by simp) ?_; (case hd => rfl); (case hg => rfl); (case hr => first | (go_simp; done) | (go_simp; rfl)); (case hp => exact (Reps.c5 (show Kd.M k36 _ _ _ (⟨3, 0, 0, 0, (-1)⟩ : S36) [.int .u8 3, .int .i64 0, .int .i64 0, .int .i64 0, .int .i64 (-1)] from (k36_mkM _ _ _ (⟨3, 0, 0, 0, (-1)⟩ : S36) )) (Reps.none _ _))); intro v200 w17 ho18 hb hg_ hnew_; clear hg_ hnew_; (first | rw [← Ny199.out] at ho18 | (simp only [Int.reduceToNat] at ho18; rw [← Ny199.out] at ho18)); have n0_ := zM (zE (by (with_reducible repeat (first | apply zA | apply zN | apply zD)); exact HO180.out) (zB ho18) hb); have n1_ := zM (zE (by (with_reducible repeat (first | apply zA | apply zN | apply zD)); exact HO183.out) (zB ho18) hb); have n2_ := zM (zE (by (with_reducible repeat (first | apply zA | apply zN | apply zD)); exact HO186.out) (zB ho18) hb); have n3_ := zM (zE (by (with_reducible repeat (first | apply zA | apply zN | apply zD)); exact HO189.out) (zB ho18) hb); have n4_ := zM (zE (by (with_reducible repeat (first | apply zA | apply zN | apply zD)); exact HO192.out) (zB ho18) hb); have n5_ := zM (zE (by (with_reducible repeat (first | apply zA | apply zN | apply zD)); exact HO195.out) (zB ho18) hb); have n6_ := zM (zE (by (with_reducible repeat (first | apply zA | apply zN | apply zD)); exact HO198.out) (zB ho18) hb); have n7_ := zM (Kd.R_lower (Kd.R_newB (zW (zW (zW (zW (zW (zW (zW ho18 (zL (by (with_reducible repeat (first | apply zA | apply zN | apply zD)); exact HO180.out))) (zL (by (with_reducible repeat (first | apply zA | apply zN | apply zD)); exact HO183.out))) (zL (by (with_reducible repeat (first | apply zA | apply zN | apply zD)); exact HO186.out))) (zL (by (with_reducible repeat (first | apply zA | apply zN | apply zD)); exact HO189.out))) (zL (by (with_reducible repeat (first | apply zA | apply zN | apply zD)); exact HO192.out))) (zL (by (with_reducible repeat (first | apply zA | apply zN | apply zD)); exact HO195.out))) (zL (by (with_reducible repeat (first | apply zA | apply zN | apply zD)); exact HO198.out))) (g := gb177) (o := .cells #[.int .u8 4, .int .i64 0, .int .i64 0, .int .i64 0, .int .i64 0] 36 (0, 0)) (by (with_reducible repeat (first | refine blk_drewN ?_ _ | refine blk_drew ?_ | refine blk_alloc ?_ _)); exact BK177.out)) (below_size (by repeat (first | (with_reducible first | exact HB.out | apply zC | apply zP | apply zO | refine below_set ?_ GE177.out) | exact HB.out)))); have n8_ := zM (blk_below (g := gb177) (o := .cells #[.int .u8 4, .int .i64 0, .int .i64 0, .int .i64 0, .int .i64 0] 36 (0, 0)) (by (with_reducible repeat (first | refine blk_drewN ?_ _ | refine blk_drew ?_ | refine blk_alloc ?_ _)); exact BK177.out) hb); have n9_ := zM (below_step (by repeat (first | (with_reducible first | exact HB.out | apply zC | apply zP | apply zO | refine below_set ?_ GE177.out) | exact HB.out)) hb); clear HO180; clear HO183; clear HO186; clear HO189; clear HO192; clear HO195; clear HO198; clear BK177; clear HB; have HO180 := n0_; have HO183 := n1_; have HO186 := n2_; have HO189 := n3_; have HO192 := n4_; have HO195 := n5_; have HO198 := n6_; have HO201 := n7_; have BK177 := n8_; have HB := n9_; clear n0_ n1_ n2_ n3_ n4_ n5_ n6_ n7_ n8_ n9_; clear hb ho18) | ((with_reducible refine gate_dst (N := 50) rfl ?_); (try (refine gate_guard (by rfl) ?_; dsimp only)); refine Kd.R_lit k36 _ 36 ?hg (N := 50) ?hd (xs := ([(⟨3, 0, 0, 0, 401⟩ : S36)] : List (S36))) (inner := [.int .u8 3, .int .i64 0, .int .i64 0, .int .i64 0, .int .i64 401]) (ok := fun _ => True) (okp := fun _ => True) ?hr ?hp (fun _ hk => hk) trivial (Below.refl _ _) (Nat.le_refl _) (by simp) ?_; (case hd => rfl); (case hg => rfl); (case hr => first | (go_simp; done) | (go_simp; rfl)); (case hp => exact (Reps.c5 (show Kd.M k36 _ _ _ (⟨3, 0, 0, 0, 401⟩ : S36) [.int .u8 3, .int .i64 0, .int .i64 0, .int .i64 0, .int .i64 401] from (k36_mkM _ _ _ (⟨3, 0, 0, 0, 401⟩ : S36) )) (Reps.none _ _))); intro v203 w19 ho20 hb hg_ hnew_; clear hg_ hnew_; (first | rw [← Ny202.out] at ho20 | (simp only [Int.reduceToNat] at ho20; rw [← Ny202.out] at ho20)); have n0_ := zM (zE (by (with_reducible repeat (first | apply zA | apply zN | apply zD)); exact HO180.out) (zB ho20) hb); have n1_ := zM (zE (by (with_reducible repeat (first | apply zA | apply zN | apply zD)); exact HO183.out) (zB ho20) hb); have n2_ := zM (zE (by (with_reducible repeat (first | apply zA | apply zN | apply zD)); exact HO186.out) (zB ho20) hb); have n3_ := zM (zE (by (with_reducible repeat (first | apply zA | apply zN | apply zD)); exact HO189.out) (zB ho20) hb); have n4_ := zM (zE (by (with_reducible repeat (first | apply zA | apply zN | apply zD)); exact HO192.out) (zB ho20) hb); have n5_ := zM (zE (by (with_reducible repeat (first | apply zA | apply zN | apply zD)); exact HO195.out) (zB ho20) hb); have n6_ := zM (zE (by (with_reducible repeat (first | apply zA | apply zN | apply zD)); exact HO198.out) (zB ho20) hb); have n7_ := zM (zE (by (with_reducible repeat (first | apply zA | apply zN | apply zD)); exact HO201.out) (zB ho20) hb); have n8_ := zM (Kd.R_lower (Kd.R_newB (zW (zW (zW (zW (zW (zW (zW (zW ho20 (zL (by (with_reducible repeat (first | apply zA | apply zN | apply zD)); exact HO180.out))) (zL (by (with_reducible repeat (first | apply zA | apply zN | apply zD)); exact HO183.out))) (zL (by (with_reducible repeat (first | apply zA | apply zN | apply zD)); exact HO186.out))) (zL (by (with_reducible repeat (first | apply zA | apply zN | apply zD)); exact HO189.out))) (zL (by (with_reducible repeat (first | apply zA | apply zN | apply zD)); exact HO192.out))) (zL (by (with_reducible repeat (first | apply zA | apply zN | apply zD)); exact HO195.out))) (zL (by (with_reducible repeat (first | apply zA | apply zN | apply zD)); exact HO198.out))) (zL (by (with_reducible repeat (first | apply zA | apply zN | apply zD)); exact HO201.out))) (g := gb177) (o := .cells #[.int .u8 4, .int .i64 0, .int .i64 0, .int .i64 0, .int .i64 0] 36 (0, 0)) (by (with_reducible repeat (first | refine blk_drewN ?_ _ | refine blk_drew ?_ | refine blk_alloc ?_ _)); exact BK177.out)) (below_size (by repeat (first | (with_reducible first | exact HB.out | apply zC | apply zP | apply zO | refine below_set ?_ GE177.out) | exact HB.out)))); have n9_ := zM (blk_below (g := gb177) (o := .cells #[.int .u8 4, .int .i64 0, .int .i64 0, .int .i64 0, .int .i64 0] 36 (0, 0)) (by (with_reducible repeat (first | refine blk_drewN ?_ _ | refine blk_drew ?_ | refine blk_alloc ?_ _)); exact BK177.out) hb); have n10_ := zM (below_step (by repeat (first | (with_reducible first | exact HB.out | apply zC | apply zP | apply zO | refine below_set ?_ GE177.out) | exact HB.out)) hb); clear HO180; clear HO183; clear HO186; clear HO189; clear HO192; clear HO195; clear HO198; clear HO201; clear BK177; clear HB; have HO180 := n0_; have HO183 := n1_; have HO186 := n2_; have HO189 := n3_; have HO192 := n4_; have HO195 := n5_; have HO198 := n6_; have HO201 := n7_; have HO204 := n8_; have BK177 := n9_; have HB := n10_; clear n0_ n1_ n2_ n3_ n4_ n5_ n6_ n7_ n8_ n9_ n10_; clear hb ho20; have hcz21_0 : w19.cell? ⟨gb177, 0, none⟩ = some (.int .u8 4) := (blk_cell BK177.out 0).trans rfl; have hcz21_1 : w19.cell? ⟨gb177, 1, none⟩ = some (.int .i64 0) := (blk_cell BK177.out 1).trans rfl; have hcz21_2 : w19.cell? ⟨gb177, 2, none⟩ = some (.int .i64 0) := (blk_cell BK177.out 2).trans rfl; have hcz21_3 : w19.cell? ⟨gb177, 3, none⟩ = some (.int .i64 0) := (blk_cell BK177.out 3).trans rfl; have hcz21_4 : w19.cell? ⟨gb177, 4, none⟩ = some (.int .i64 0) := (blk_cell BK177.out 4).trans rfl; have hfz21_0 := blk_frozen BK177.out 0; have hfz21_1 := blk_frozen BK177.out 1; have hfz21_2 := blk_frozen BK177.out 2; have hfz21_3 := blk_frozen BK177.out 3; have hfz21_4 := blk_frozen BK177.out 4) | ((with_reducible refine gate_dst (N := 53) rfl ?_); (try (refine gate_guard (by rfl) ?_; dsimp only)); refine Kd.R_lit k36 _ 36 ?hg (N := 53) ?hd (xs := ([(⟨4, 0, 0, 0, 0⟩ : S36), (⟨4, 0, 0, 0, 0⟩ : S36)] : List (S36))) (inner := [.int .u8 4, .int .i64 0, .int .i64 0, .int .i64 0, .int .i64 0, .int .u8 4, .int .i64 0, .int .i64 0, .int .i64 0, .int .i64 0]) (ok := fun _ => True) (okp := fun _ => True) ?hr ?hp (fun _ hk => hk) trivial (Below.refl _ _) (Nat.le_refl _) (by simp) ?_; (case hd => rfl); (case hg => rfl); (case hr => first | (go_simp; done) | (go_simp; rfl)); (case hp => exact (Reps.c5 (show Kd.M k36 _ _ _ (⟨4, 0, 0, 0, 0⟩ : S36) [.int .u8 4, .int .i64 0, .int .i64 0, .int .i64 0, .int .i64 0] from (k36_mkM _ _ _ (⟨4, 0, 0, 0, 0⟩ : S36) )) (Reps.c5 (show Kd.M k36 _ _ _ (⟨4, 0, 0, 0, 0⟩ : S36) [.int .u8 4, .int .i64 0, .int .i64 0, .int .i64 0, .int .i64 0] from (k36_mkM _ _ _ (⟨4, 0, 0, 0, 0⟩ : S36) )) (Reps.none _ _)))); intro v206 w22 ho23 hb hg_ hnew_; clear hg_ hnew_; (first | rw [← Ny205.out] at ho23 | (simp only [Int.reduceToNat] at ho23; rw [← Ny205.out] at ho23)); have n0_ := zM (zE (by (with_reducible repeat (first | apply zA | apply zN | apply zD)); exact HO180.out) (zB ho23) hb); have n1_ := zM (zE (by (with_reducible repeat (first | apply zA | apply zN | apply zD)); exact HO183.out) (zB ho23) hb); have n2_ := zM (zE (by (with_reducible repeat (first | apply zA | apply zN | apply zD)); exact HO186.out) (zB ho23) hb); have n3_ := zM (zE (by (with_reducible repeat (first | apply zA | apply zN | apply zD)); exact HO189.out) (zB ho23) hb); have n4_ := zM (zE (by (with_reducible repeat (first | apply zA | apply zN | apply zD)); exact HO192.out) (zB ho23) hb); have n5_ := zM (zE (by (with_reducible repeat (first | apply zA | apply zN | apply zD)); exact HO195.out) (zB ho23) hb); have n6_ := zM (zE (by (with_reducible repeat (first | apply zA | apply zN | apply zD)); exact HO198.out) (zB ho23) hb); have n7_ := zM (zE (by (with_reducible repeat (first | apply zA | apply zN | apply zD)); exact HO201.out) (zB ho23) hb); have n8_ := zM (zE (by (with_reducible repeat (first | apply zA | apply zN | apply zD)); exact HO204.out) (zB ho23) hb); have n9_ := zM (Kd.R_lower (Kd.R_newB (zW (zW (zW (zW (zW (zW (zW (zW (zW ho23 (zL (by (with_reducible repeat (first | apply zA | apply zN | apply zD)); exact HO180.out))) (zL (by (with_reducible repeat (first | apply zA | apply zN | apply zD)); exact HO183.out))) (zL (by (with_reducible repeat (first | apply zA | apply zN | apply zD)); exact HO186.out))) (zL (by (with_reducible repeat (first | apply zA | apply zN | apply zD)); exact HO189.out))) (zL (by (with_reducible repeat (first | apply zA | apply zN | apply zD)); exact HO192.out))) (zL (by (with_reducible repeat (first | apply zA | apply zN | apply zD)); exact HO195.out))) (zL (by (with_reducible repeat (first | apply zA | apply zN | apply zD)); exact HO198.out))) (zL (by (with_reducible repeat (first | apply zA | apply zN | apply zD)); exact HO201.out))) (zL (by (with_reducible repeat (first | apply zA | apply zN | apply zD)); exact HO204.out))) (g := gb177) (o := .cells #[.int .u8 4, .int .i64 0, .int .i64 0, .int .i64 0, .int .i64 0] 36 (0, 0)) (by (with_reducible repeat (first | refine blk_drewN ?_ _ | refine blk_drew ?_ | refine blk_alloc ?_ _)); exact BK177.out)) (below_size (by repeat (first | (with_reducible first | exact HB.out | apply zC | apply zP | apply zO | refine below_set ?_ GE177.out) | exact HB.out)))); have n10_ := zM (blk_below (g := gb177) (o := .cells #[.int .u8 4, .int .i64 0, .int .i64 0, .int .i64 0, .int .i64 0] 36 (0, 0)) (by (with_reducible repeat (first | refine blk_drewN ?_ _ | refine blk_drew ?_ | refine blk_alloc ?_ _)); exact BK177.out) hb); have n11_ := zM (below_step (by repeat (first | (with_reducible first | exact HB.out | apply zC | apply zP | apply zO | refine below_set ?_ GE177.out) | exact HB.out)) hb); clear HO180; clear HO183; clear HO186; clear HO189; clear HO192; clear HO195; clear HO198; clear HO201; clear HO204; clear BK177; clear HB; have HO180 := n0_; have HO183 := n1_; have HO186 := n2_; have HO189 := n3_; have HO192 := n4_; have HO195 := n5_; have HO198 := n6_; have HO201 := n7_; have HO204 := n8_; have HO207 := n9_; have BK177 := n10_; have HB := n11_; clear n0_ n1_ n2_ n3_ n4_ n5_ n6_ n7_ n8_ n9_ n10_ n11_; clear hb ho23) | ((with_reducible refine gate_dst (N := 55) rfl ?_); (try (refine gate_guard (by rfl) ?_; dsimp only)); refine Kd.R_lit k36 _ 36 ?hg (N := 55) ?hd (xs := ([(⟨5, 0, 0, 0, 0⟩ : S36)] : List (S36))) (inner := [.int .u8 5, .int .i64 0, .int .i64 0, .int .i64 0, .int .i64 0]) (ok := fun _ => True) (okp := fun _ => True) ?hr ?hp (fun _ hk => hk) trivial (Below.refl _ _) (Nat.le_refl _) (by simp) ?_; (case hd => rfl); (case hg => rfl); (case hr => first | (go_simp; done) | (go_simp; rfl)); (case hp => exact (Reps.c5 (show Kd.M k36 _ _ _ (⟨5, 0, 0, 0, 0⟩ : S36) [.int .u8 5, .int .i64 0, .int .i64 0, .int .i64 0, .int .i64 0] from (k36_mkM _ _ _ (⟨5, 0, 0, 0, 0⟩ : S36) )) (Reps.none _ _))); intro v209 w24 ho25 hb hg_ hnew_; clear hg_ hnew_; (first | rw [← Ny208.out] at ho25 | (simp only [Int.reduceToNat] at ho25; rw [← Ny208.out] at ho25)); have n0_ := zM (zE (by (with_reducible repeat (first | apply zA | apply zN | apply zD)); exact HO180.out) (zB ho25) hb); have n1_ := zM (zE (by (with_reducible repeat (first | apply zA | apply zN | apply zD)); exact HO183.out) (zB ho25) hb); have n2_ := zM (zE (by (with_reducible repeat (first | apply zA | apply zN | apply zD)); exact HO186.out) (zB ho25) hb); have n3_ := zM (zE (by (with_reducible repeat (first | apply zA | apply zN | apply zD)); exact HO189.out) (zB ho25) hb); have n4_ := zM (zE (by (with_reducible repeat (first | apply zA | apply zN | apply zD)); exact HO192.out) (zB ho25) hb); have n5_ := zM (zE (by (with_reducible repeat (first | apply zA | apply zN | apply zD)); exact HO195.out) (zB ho25) hb); have n6_ := zM (zE (by (with_reducible repeat (first | apply zA | apply zN | apply zD)); exact HO198.out) (zB ho25) hb); have n7_ := zM (zE (by (with_reducible repeat (first | apply zA | apply zN | apply zD)); exact HO201.out) (zB ho25) hb); have n8_ := zM (zE (by (with_reducible repeat (first | apply zA | apply zN | apply zD)); exact HO204.out) (zB ho25) hb); have n9_ := zM (zE (by (with_reducible repeat (first | apply zA | apply zN | apply zD)); exact HO207.out) (zB ho25) hb); have n10_ := zM (Kd.R_lower (Kd.R_newB (zW (zW (zW (zW (zW (zW (zW (zW (zW (zW ho25 (zL (by (with_reducible repeat (first | apply zA | apply zN | apply zD)); exact HO180.out))) (zL (by (with_reducible repeat (first | apply zA | apply zN | apply zD)); exact HO183.out))) (zL (by (with_reducible repeat (first | apply zA | apply zN | apply zD)); exact HO186.out))) (zL (by (with_reducible repeat (first | apply zA | apply zN | apply zD)); exact HO189.out))) (zL (by (with_reducible repeat (first | apply zA | apply zN | apply zD)); exact HO192.out))) (zL (by (with_reducible repeat (first | apply zA | apply zN | apply zD)); exact HO195.out))) (zL (by (with_reducible repeat (first | apply zA | apply zN | apply zD)); exact HO198.out))) (zL (by (with_reducible repeat (first | apply zA | apply zN | apply zD)); exact HO201.out))) (zL (by (with_reducible repeat (first | apply zA | apply zN | apply zD)); exact HO204.out))) (zL (by (with_reducible repeat (first | apply zA | apply zN | apply zD)); exact HO207.out))) (g := gb177) (o := .cells #[.int .u8 4, .int .i64 0, .int .i64 0, .int .i64 0, .int .i64 0] 36 (0, 0)) (by (with_reducible repeat (first | refine blk_drewN ?_ _ | refine blk_drew ?_ | refine blk_alloc ?_ _)); exact BK177.out)) (below_size (by repeat (first | (with_reducible first | exact HB.out | apply zC | apply zP | apply zO | refine below_set ?_ GE177.out) | exact HB.out)))); have n11_ := zM (blk_below (g := gb177) (o := .cells #[.int .u8 4, .int .i64 0, .int .i64 0, .int .i64 0, .int .i64 0] 36 (0, 0)) (by (with_reducible repeat (first | refine blk_drewN ?_ _ | refine blk_drew ?_ | refine blk_alloc ?_ _)); exact BK177.out) hb); have n12_ := zM (below_step (by repeat (first | (with_reducible first | exact HB.out | apply zC | apply zP | apply zO | refine below_set ?_ GE177.out) | exact HB.out)) hb); clear HO180; clear HO183; clear HO186; clear HO189; clear HO192; clear HO195; clear HO198; clear HO201; clear HO204; clear HO207; clear BK177; clear HB; have HO180 := n0_; have HO183 := n1_; have HO186 := n2_; have HO189 := n3_; have HO192 := n4_; have HO195 := n5_; have HO198 := n6_; have HO201 := n7_; have HO204 := n8_; have HO207 := n9_; have HO210 := n10_; have BK177 := n11_; have HB := n12_; clear n0_ n1_ n2_ n3_ n4_ n5_ n6_ n7_ n8_ n9_ n10_ n11_ n12_; clear hb ho25; have hcz26_0 : w24.cell? ⟨gb177, 0, none⟩ = some (.int .u8 4) := (blk_cell BK177.out 0).trans rfl; have hcz26_1 : w24.cell? ⟨gb177, 1, none⟩ = some (.int .i64 0) := (blk_cell BK177.out 1).trans rfl; have hcz26_2 : w24.cell? ⟨gb177, 2, none⟩ = some (.int .i64 0) := (blk_cell BK177.out 2).trans rfl; have hcz26_3 : w24.cell? ⟨gb177, 3, none⟩ = some (.int .i64 0) := (blk_cell BK177.out 3).trans rfl; have hcz26_4 : w24.cell? ⟨gb177, 4, none⟩ = some (.int .i64 0) := (blk_cell BK177.out 4).trans rfl; have hfz26_0 := blk_frozen BK177.out 0; have hfz26_1 := blk_frozen BK177.out 1; have hfz26_2 := blk_frozen BK177.out 2; have hfz26_3 := blk_frozen BK177.out 3; have hfz26_4 := blk_frozen BK177.out 4) | ((with_reducible refine gate_dst (N := 58) rfl ?_); (try (refine gate_guard (by rfl) ?_; dsimp only)); refine Kd.R_lit k36 _ 36 ?hg (N := 58) ?hd (xs := ([(⟨4, 0, 0, 0, 0⟩ : S36), (⟨5, 0, 1, 0, 0⟩ : S36)] : List (S36))) (inner := [.int .u8 4, .int .i64 0, .int .i64 0, .int .i64 0, .int .i64 0, .int .u8 5, .int .i64 0, .int .i64 1, .int .i64 0, .int .i64 0]) (ok := fun _ => True) (okp := fun _ => True) ?hr ?hp (fun _ hk => hk) trivial (Below.refl _ _) (Nat.le_refl _) (by simp) ?_; (case hd => rfl); (case hg => rfl); (case hr => first | (go_simp; done) | (go_simp; rfl)); (case hp => exact (Reps.c5 (show Kd.M k36 _ _ _ (⟨4, 0, 0, 0, 0⟩ : S36) [.int .u8 4, .int .i64 0, .int .i64 0, .int .i64 0, .int .i64 0] from (k36_mkM _ _ _ (⟨4, 0, 0, 0, 0⟩ : S36) )) (Reps.c5 (show Kd.M k36 _ _ _ (⟨5, 0, 1, 0, 0⟩ : S36) [.int .u8 5, .int .i64 0, .int .i64 1, .int .i64 0, .int .i64 0] from (k36_mkM _ _ _ (⟨5, 0, 1, 0, 0⟩ : S36) )) (Reps.none _ _)))); intro v212 w27 ho28 hb hg_ hnew_; clear hg_ hnew_; (first | rw [← Ny211.out] at ho28 | (simp only [Int.reduceToNat] at ho28; rw [← Ny211.out] at ho28)); have n0_ := zM (zE (by (with_reducible repeat (first | apply zA | apply zN | apply zD)); exact HO180.out) (zB ho28) hb); have n1_ := zM (zE (by (with_reducible repeat (first | apply zA | apply zN | apply zD)); exact HO183.out) (zB ho28) hb); have n2_ := zM (zE (by (with_reducible repeat (first | apply zA | apply zN | apply zD)); exact HO186.out) (zB ho28) hb); have n3_ := zM (zE (by (with_reducible repeat (first | apply zA | apply zN | apply zD)); exact HO189.out) (zB ho28) hb); have n4_ := zM (zE (by (with_reducible repeat (first | apply zA | apply zN | apply zD)); exact HO192.out) (zB ho28) hb); have n5_ := zM (zE (by (with_reducible repeat (first | apply zA | apply zN | apply zD)); exact HO195.out) (zB ho28) hb); have n6_ := zM (zE (by (with_reducible repeat (first | apply zA | apply zN | apply zD)); exact HO198.out) (zB ho28) hb); have n7_ := zM (zE (by (with_reducible repeat (first | apply zA | apply zN | apply zD)); exact HO201.out) (zB ho28) hb); have n8_ := zM (zE (by (with_reducible repeat (first | apply zA | apply zN | apply zD)); exact HO204.out) (zB ho28) hb); have n9_ := zM (zE (by (with_reducible repeat (first | apply zA | apply zN | apply zD)); exact HO207.out) (zB ho28) hb); have n10_ := zM (zE (by (with_reducible repeat (first | apply zA | apply zN | apply zD)); exact HO210.out) (zB ho28) hb); have n11_ := zM (Kd.R_lower (Kd.R_newB (zW (zW (zW (zW (zW (zW (zW (zW (zW (zW (zW ho28 (zL (by (with_reducible repeat (first | apply zA | apply zN | apply zD)); exact HO180.out))) (zL (by (with_reducible repeat (first | apply zA | apply zN | apply zD)); exact HO183.out))) (zL (by (with_reducible repeat (first | apply zA | apply zN | apply zD)); exact HO186.out))) (zL (by (with_reducible repeat (first | apply zA | apply zN | apply zD)); exact HO189.out))) (zL (by (with_reducible repeat (first | apply zA | apply zN | apply zD)); exact HO192.out))) (zL (by (with_reducible repeat (first | apply zA | apply zN | apply zD)); exact HO195.out))) (zL (by (with_reducible repeat (first | apply zA | apply zN | apply zD)); exact HO198.out))) (zL (by (with_reducible repeat (first | apply zA | apply zN | apply zD)); exact HO201.out))) (zL (by (with_reducible repeat (first | apply zA | apply zN | apply zD)); exact HO204.out))) (zL (by (with_reducible repeat (first | apply zA | apply zN | apply zD)); exact HO207.out))) (zL (by (with_reducible repeat (first | apply zA | apply zN | apply zD)); exact HO210.out))) (g := gb177) (o := .cells #[.int .u8 4, .int .i64 0, .int .i64 0, .int .i64 0, .int .i64 0] 36 (0, 0)) (by (with_reducible repeat (first | refine blk_drewN ?_ _ | refine blk_drew ?_ | refine blk_alloc ?_ _)); exact BK177.out)) (below_size (by repeat (first | (with_reducible first | exact HB.out | apply zC | apply zP | apply zO | refine below_set ?_ GE177.out) | exact HB.out)))); have n12_ := zM (blk_below (g := gb177) (o := .cells #[.int .u8 4, .int .i64 0, .int .i64 0, .int .i64 0, .int .i64 0] 36 (0, 0)) (by (with_reducible repeat (first | refine blk_drewN ?_ _ | refine blk_drew ?_ | refine blk_alloc ?_ _)); exact BK177.out) hb); have n13_ := zM (below_step (by repeat (first | (with_reducible first | exact HB.out | apply zC | apply zP | apply zO | refine below_set ?_ GE177.out) | exact HB.out)) hb); clear HO180; clear HO183; clear HO186; clear HO189; clear HO192; clear HO195; clear HO198; clear HO201; clear HO204; clear HO207; clear HO210; clear BK177; clear HB; have HO180 := n0_; have HO183 := n1_; have HO186 := n2_; have HO189 := n3_; have HO192 := n4_; have HO195 := n5_; have HO198 := n6_; have HO201 := n7_; have HO204 := n8_; have HO207 := n9_; have HO210 := n10_; have HO213 := n11_; have BK177 := n12_; have HB := n13_; clear n0_ n1_ n2_ n3_ n4_ n5_ n6_ n7_ n8_ n9_ n10_ n11_ n12_ n13_; clear hb ho28; have hcz29_0 : w27.cell? ⟨gb177, 0, none⟩ = some (.int .u8 4) := (blk_cell BK177.out 0).trans rfl; have hcz29_1 : w27.cell? ⟨gb177, 1, none⟩ = some (.int .i64 0) := (blk_cell BK177.out 1).trans rfl; have hcz29_2 : w27.cell? ⟨gb177, 2, none⟩ = some (.int .i64 0) := (blk_cell BK177.out 2).trans rfl; have hcz29_3 : w27.cell? ⟨gb177, 3, none⟩ = some (.int .i64 0) := (blk_cell BK177.out 3).trans rfl; have hcz29_4 : w27.cell? ⟨gb177, 4, none⟩ = some (.int .i64 0) := (blk_cell BK177.out 4).trans rfl; have hfz29_0 := blk_frozen BK177.out 0; have hfz29_1 := blk_frozen BK177.out 1; have hfz29_2 := blk_frozen BK177.out 2; have hfz29_3 := blk_frozen BK177.out 3; have hfz29_4 := blk_frozen BK177.out 4) | ((with_reducible refine gate_dst (N := 61) rfl ?_); (try (refine gate_guard (by rfl) ?_; dsimp only)); refine Kd.R_lit k36 _ 36 ?hg (N := 61) ?hd (xs := ([(⟨4, 0, 0, 0, 0⟩ : S36), (⟨5, 0, 0, 1, 0⟩ : S36)] : List (S36))) (inner := [.int .u8 4, .int .i64 0, .int .i64 0, .int .i64 0, .int .i64 0, .int .u8 5, .int .i64 0, .int .i64 0, .int .i64 1, .int .i64 0]) (ok := fun _ => True) (okp := fun _ => True) ?hr ?hp (fun _ hk => hk) trivial (Below.refl _ _) (Nat.le_refl _) (by simp) ?_; (case hd => rfl); (case hg => rfl); (case hr => first | (go_simp; done) | (go_simp; rfl)); (case hp => exact (Reps.c5 (show Kd.M k36 _ _ _ (⟨4, 0, 0, 0, 0⟩ : S36) [.int .u8 4, .int .i64 0, .int .i64 0, .int .i64 0, .int .i64 0] from (k36_mkM _ _ _ (⟨4, 0, 0, 0, 0⟩ : S36) )) (Reps.c5 (show Kd.M k36 _ _ _ (⟨5, 0, 0, 1, 0⟩ : S36) [.int .u8 5, .int .i64 0, .int .i64 0, .int .i64 1, .int .i64 0] from (k36_mkM _ _ _ (⟨5, 0, 0, 1, 0⟩ : S36) )) (Reps.none _ _)))); intro v215 w30 ho31 hb hg_ hnew_; clear hg_ hnew_; (first | rw [← Ny214.out] at ho31 | (simp only [Int.reduceToNat] at ho31; rw [← Ny214.out] at ho31)); have n0_ := zM (zE (by (with_reducible repeat (first | apply zA | apply zN | apply zD)); exact HO180.out) (zB ho31) hb); have n1_ := zM (zE (by (with_reducible repeat (first | apply zA | apply zN | apply zD)); exact HO183.out) (zB ho31) hb); have n2_ := zM (zE (by (with_reducible repeat (first | apply zA | apply zN | apply zD)); exact HO186.out) (zB ho31) hb); have n3_ := zM (zE (by (with_reducible repeat (first | apply zA | apply zN | apply zD)); exact HO189.out) (zB ho31) hb); have n4_ := zM (zE (by (with_reducible repeat (first | apply zA | apply zN | apply zD)); exact HO192.out) (zB ho31) hb); have n5_ := zM (zE (by (with_reducible repeat (first | apply zA | apply zN | apply zD)); exact HO195.out) (zB ho31) hb); have n6_ := zM (zE (by (with_reducible repeat (first | apply zA | apply zN | apply zD)); exact HO198.out) (zB ho31) hb); have n7_ := zM (zE (by (with_reducible repeat (first | apply zA | apply zN | apply zD)); exact HO201.out) (zB ho31) hb); have n8_ := zM (zE (by (with_reducible repeat (first | apply zA | apply zN | apply zD)); exact HO204.out) (zB ho31) hb); have n9_ := zM (zE (by (with_reducible repeat (first | apply zA | apply zN | apply zD)); exact HO207.out) (zB ho31) hb); have n10_ := zM (zE (by (with_reducible repeat (first | apply zA | apply zN | apply zD)); exact HO210.out) (zB ho31) hb); have n11_ := zM (zE (by (with_reducible repeat (first | apply zA | apply zN | apply zD)); exact HO213.out) (zB ho31) hb); have n12_ := zM (Kd.R_lower (Kd.R_newB (zW (zW (zW (zW (zW (zW (zW (zW (zW (zW (zW (zW ho31 (zL (by (with_reducible repeat (first | apply zA | apply zN | apply zD)); exact HO180.out))) (zL (by (with_reducible repeat (first | apply zA | apply zN | apply zD)); exact HO183.out))) (zL (by (with_reducible repeat (first | apply zA | apply zN | apply zD)); exact HO186.out))) (zL (by (with_reducible repeat (first | apply zA | apply zN | apply zD)); exact HO189.out))) (zL (by (with_reducible repeat (first | apply zA | apply zN | apply zD)); exact HO192.out))) (zL (by (with_reducible repeat (first | apply zA | apply zN | apply zD)); exact HO195.out))) (zL (by (with_reducible repeat (first | apply zA | apply zN | apply zD)); exact HO198.out))) (zL (by (with_reducible repeat (first | apply zA | apply zN | apply zD)); exact HO201.out))) (zL (by (with_reducible repeat (first | apply zA | apply zN | apply zD)); exact HO204.out))) (zL (by (with_reducible repeat (first | apply zA | apply zN | apply zD)); exact HO207.out))) (zL (by (with_reducible repeat (first | apply zA | apply zN | apply zD)); exact HO210.out))) (zL (by (with_reducible repeat (first | apply zA | apply zN | apply zD)); exact HO213.out))) (g := gb177) (o := .cells #[.int .u8 4, .int .i64 0, .int .i64 0, .int .i64 0, .int .i64 0] 36 (0, 0)) (by (with_reducible repeat (first | refine blk_drewN ?_ _ | refine blk_drew ?_ | refine blk_alloc ?_ _)); exact BK177.out)) (below_size (by repeat (first | (with_reducible first | exact HB.out | apply zC | apply zP | apply zO | refine below_set ?_ GE177.out) | exact HB.out)))); have n13_ := zM (blk_below (g := gb177) (o := .cells #[.int .u8 4, .int .i64 0, .int .i64 0, .int .i64 0, .int .i64 0] 36 (0, 0)) (by (with_reducible repeat (first | refine blk_drewN ?_ _ | refine blk_drew ?_ | refine blk_alloc ?_ _)); exact BK177.out) hb); have n14_ := zM (below_step (by repeat (first | (with_reducible first | exact HB.out | apply zC | apply zP | apply zO | refine below_set ?_ GE177.out) | exact HB.out)) hb); clear HO180; clear HO183; clear HO186; clear HO189; clear HO192; clear HO195; clear HO198; clear HO201; clear HO204; clear HO207; clear HO210; clear HO213; clear BK177; clear HB; have HO180 := n0_; have HO183 := n1_; have HO186 := n2_; have HO189 := n3_; have HO192 := n4_; have HO195 := n5_; have HO198 := n6_; have HO201 := n7_; have HO204 := n8_; have HO207 := n9_; have HO210 := n10_; have HO213 := n11_; have HO216 := n12_; have BK177 := n13_; have HB := n14_; clear n0_ n1_ n2_ n3_ n4_ n5_ n6_ n7_ n8_ n9_ n10_ n11_ n12_ n13_ n14_; clear hb ho31; have hcz32_0 : w30.cell? ⟨gb177, 0, none⟩ = some (.int .u8 4) := (blk_cell BK177.out 0).trans rfl; have hcz32_1 : w30.cell? ⟨gb177, 1, none⟩ = some (.int .i64 0) := (blk_cell BK177.out 1).trans rfl; have hcz32_2 : w30.cell? ⟨gb177, 2, none⟩ = some (.int .i64 0) := (blk_cell BK177.out 2).trans rfl; have hcz32_3 : w30.cell? ⟨gb177, 3, none⟩ = some (.int .i64 0) := (blk_cell BK177.out 3).trans rfl; have hcz32_4 : w30.cell? ⟨gb177, 4, none⟩ = some (.int .i64 0) := (blk_cell BK177.out 4).trans rfl; have hfz32_0 := blk_frozen BK177.out 0; have hfz32_1 := blk_frozen BK177.out 1; have hfz32_2 := blk_frozen BK177.out 2; have hfz32_3 := blk_frozen BK177.out 3; have hfz32_4 := blk_frozen BK177.out 4) | ((with_reducible refine gate_dst (N := 64) rfl ?_); (try (refine gate_guard (by rfl) ?_; dsimp only)); refine Kd.R_lit k36 _ 36 ?hg (N := 64) ?hd (xs := ([(⟨4, 0, 0, 0, 0⟩ : S36), (⟨8, 0, 0, 0, 0⟩ : S36)] : List (S36))) (inner := [.int .u8 4, .int .i64 0, .int .i64 0, .int .i64 0, .int .i64 0, .int .u8 8, .int .i64 0, .int .i64 0, .int .i64 0, .int .i64 0]) (ok := fun _ => True) (okp := fun _ => True) ?hr ?hp (fun _ hk => hk) trivial (Below.refl _ _) (Nat.le_refl _) (by simp) ?_; (case hd => rfl); (case hg => rfl); (case hr => first | (go_simp; done) | (go_simp; rfl)); (case hp => exact (Reps.c5 (show Kd.M k36 _ _ _ (⟨4, 0, 0, 0, 0⟩ : S36) [.int .u8 4, .int .i64 0, .int .i64 0, .int .i64 0, .int .i64 0] from (k36_mkM _ _ _ (⟨4, 0, 0, 0, 0⟩ : S36) )) (Reps.c5 (show Kd.M k36 _ _ _ (⟨8, 0, 0, 0, 0⟩ : S36) [.int .u8 8, .int .i64 0, .int .i64 0, .int .i64 0, .int .i64 0] from (k36_mkM _ _ _ (⟨8, 0, 0, 0, 0⟩ : S36) )) (Reps.none _ _)))); intro v218 w33 ho34 hb hg_ hnew_; clear hg_ hnew_; (first | rw [← Ny217.out] at ho34 | (simp only [Int.reduceToNat] at ho34; rw [← Ny217.out] at ho34)); have n0_ := zM (zE (by (with_reducible repeat (first | apply zA | apply zN | apply zD)); exact HO180.out) (zB ho34) hb); have n1_ := zM (zE (by (with_reducible repeat (first | apply zA | apply zN | apply zD)); exact HO183.out) (zB ho34) hb); have n2_ := zM (zE (by (with_reducible repeat (first | apply zA | apply zN | apply zD)); exact HO186.out) (zB ho34) hb); have n3_ := zM (zE (by (with_reducible repeat (first | apply zA | apply zN | apply zD)); exact HO189.out) (zB ho34) hb); have n4_ := zM (zE (by (with_reducible repeat (first | apply zA | apply zN | apply zD)); exact HO192.out) (zB ho34) hb); have n5_ := zM (zE (by (with_reducible repeat (first | apply zA | apply zN | apply zD)); exact HO195.out) (zB ho34) hb); have n6_ := zM (zE (by (with_reducible repeat (first | apply zA | apply zN | apply zD)); exact HO198.out) (zB ho34) hb); have n7_ := zM (zE (by (with_reducible repeat (first | apply zA | apply zN | apply zD)); exact HO201.out) (zB ho34) hb); have n8_ := zM (zE (by (with_reducible repeat (first | apply zA | apply zN | apply zD)); exact HO204.out) (zB ho34) hb); have n9_ := zM (zE (by (with_reducible repeat (first | apply zA | apply zN | apply zD)); exact HO207.out) (zB ho34) hb); have n10_ := zM (zE (by (with_reducible repeat (first | apply zA | apply zN | apply zD)); exact HO210.out) (zB ho34) hb); have n11_ := zM (zE (by (with_reducible repeat (first | apply zA | apply zN | apply zD)); exact HO213.out) (zB ho34) hb); have n12_ := zM (zE (by (with_reducible repeat (first | apply zA | apply zN | apply zD)); exact HO216.out) (zB ho34) hb); have n13_ := zM (Kd.R_lower (Kd.R_newB (zW (zW (zW (zW (zW (zW (zW (zW (zW (zW (zW (zW (zW ho34 (zL (by (with_reducible repeat (first | apply zA | apply zN | apply zD)); exact HO180.out))) (zL (by (with_reducible repeat (first | apply zA | apply zN | apply zD)); exact HO183.out))) (zL (by (with_reducible repeat (first | apply zA | apply zN | apply zD)); exact HO186.out))) (zL (by (with_reducible repeat (first | apply zA | apply zN | apply zD)); exact HO189.out))) (zL (by (with_reducible repeat (first | apply zA | apply zN | apply zD)); exact HO192.out))) (zL (by (with_reducible repeat (first | apply zA | apply zN | apply zD)); exact HO195.out))) (zL (by (with_reducible repeat (first | apply zA | apply zN | apply zD)); exact HO198.out))) (zL (by (with_reducible repeat (first | apply zA | apply zN | apply zD)); exact HO201.out))) (zL (by (with_reducible repeat (first | apply zA | apply zN | apply zD)); exact HO204.out))) (zL (by (with_reducible repeat (first | apply zA | apply zN | apply zD)); exact HO207.out))) (zL (by (with_reducible repeat (first | apply zA | apply zN | apply zD)); exact HO210.out))) (zL (by (with_reducible repeat (first | apply zA | apply zN | apply zD)); exact HO213.out))) (zL (by (with_reducible repeat (first | apply zA | apply zN | apply zD)); exact HO216.out))) (g := gb177) (o := .cells #[.int .u8 4, .int .i64 0, .int .i64 0, .int .i64 0, .int .i64 0] 36 (0, 0)) (by (with_reducible repeat (first | refine blk_drewN ?_ _ | refine blk_drew ?_ | refine blk_alloc ?_ _)); exact BK177.out)) (below_size (by repeat (first | (with_reducible first | exact HB.out | apply zC | apply zP | apply zO | refine below_set ?_ GE177.out) | exact HB.out)))); have n14_ := zM (blk_below (g := gb177) (o := .cells #[.int .u8 4, .int .i64 0, .int .i64 0, .int .i64 0, .int .i64 0] 36 (0, 0)) (by (with_reducible repeat (first | refine blk_drewN ?_ _ | refine blk_drew ?_ | refine blk_alloc ?_ _)); exact BK177.out) hb); have n15_ := zM (below_step (by repeat (first | (with_reducible first | exact HB.out | apply zC | apply zP | apply zO | refine below_set ?_ GE177.out) | exact HB.out)) hb); clear HO180; clear HO183; clear HO186; clear HO189; clear HO192; clear HO195; clear HO198; clear HO201; clear HO204; clear HO207; clear HO210; clear HO213; clear HO216; clear BK177; clear HB; have HO180 := n0_; have HO183 := n1_; have HO186 := n2_; have HO189 := n3_; have HO192 := n4_; have HO195 := n5_; have HO198 := n6_; have HO201 := n7_; have HO204 := n8_; have HO207 := n9_; have HO210 := n10_; have HO213 := n11_; have HO216 := n12_; have HO219 := n13_; have BK177 := n14_; have HB := n15_; clear n0_ n1_ n2_ n3_ n4_ n5_ n6_ n7_ n8_ n9_ n10_ n11_ n12_ n13_ n14_ n15_; clear hb ho34; have hcz35_0 : w33.cell? ⟨gb177, 0, none⟩ = some (.int .u8 4) := (blk_cell BK177.out 0).trans rfl; have hcz35_1 : w33.cell? ⟨gb177, 1, none⟩ = some (.int .i64 0) := (blk_cell BK177.out 1).trans rfl; have hcz35_2 : w33.cell? ⟨gb177, 2, none⟩ = some (.int .i64 0) := (blk_cell BK177.out 2).trans rfl; have hcz35_3 : w33.cell? ⟨gb177, 3, none⟩ = some (.int .i64 0) := (blk_cell BK177.out 3).trans rfl; have hcz35_4 : w33.cell? ⟨gb177, 4, none⟩ = some (.int .i64 0) := (blk_cell BK177.out 4).trans rfl; have hfz35_0 := blk_frozen BK177.out 0; have hfz35_1 := blk_frozen BK177.out 1; have hfz35_2 := blk_frozen BK177.out 2; have hfz35_3 := blk_frozen BK177.out 3; have hfz35_4 := blk_frozen BK177.out 4) | ((with_reducible refine gate_dst (N := 68) rfl ?_); (try (refine gate_guard (by rfl) ?_; dsimp only)); refine Kd.R_lit k36 _ 36 ?hg (N := 68) ?hd (xs := ([(⟨4, 0, 0, 0, 0⟩ : S36), (⟨4, 0, 0, 0, 0⟩ : S36), (⟨8, 0, 1, 0, 0⟩ : S36)] : List (S36))) (inner := [.int .u8 4, .int .i64 0, .int .i64 0, .int .i64 0, .int .i64 0, .int .u8 4, .int .i64 0, .int .i64 0, .int .i64 0, .int .i64 0, .int .u8 8, .int .i64 0, .int .i64 1, .int .i64 0, .int .i64 0]) (ok := fun _ => True) (okp := fun _ => True) ?hr ?hp (fun _ hk => hk) trivial (Below.refl _ _) (Nat.le_refl _) (by simp) ?_; (case hd => rfl); (case hg => rfl); (case hr => first | (go_simp; done) | (go_simp; rfl)); (case hp => exact (Reps.c5 (show Kd.M k36 _ _ _ (⟨4, 0, 0, 0, 0⟩ : S36) [.int .u8 4, .int .i64 0, .int .i64 0, .int .i64 0, .int .i64 0] from (k36_mkM _ _ _ (⟨4, 0, 0, 0, 0⟩ : S36) )) (Reps.c5 (show Kd.M k36 _ _ _ (⟨4, 0, 0, 0, 0⟩ : S36) [.int .u8 4, .int .i64 0, .int .i64 0, .int .i64 0, .int .i64 0] from (k36_mkM _ _ _ (⟨4, 0, 0, 0, 0⟩ : S36) )) (Reps.c5 (show Kd.M k36 _ _ _ (⟨8, 0, 1, 0, 0⟩ : S36) [.int .u8 8, .int .i64 0, .int .i64 1, .int .i64 0, .int .i64 0] from (k36_mkM _ _ _ (⟨8, 0, 1, 0, 0⟩ : S36) )) (Reps.none _ _))))); intro v221 w36 ho37 hb hg_ hnew_; clear hg_ hnew_; (first | rw [← Ny220.out] at ho37 | (simp only [Int.reduceToNat] at ho37; rw [← Ny220.out] at ho37)); have n0_ := zM (zE (by (with_reducible repeat (first | apply zA | apply zN | apply zD)); exact HO180.out) (zB ho37) hb); have n1_ := zM (zE (by (with_reducible repeat (first | apply zA | apply zN | apply zD)); exact HO183.out) (zB ho37) hb); have n2_ := zM (zE (by (with_reducible repeat (first | apply zA | apply zN | apply zD)); exact HO186.out) (zB ho37) hb); have n3_ := zM (zE (by (with_reducible repeat (first | apply zA | apply zN | apply zD)); exact HO189.out) (zB ho37) hb); have n4_ := zM (zE (by (with_reducible repeat (first | apply zA | apply zN | apply zD)); exact HO192.out) (zB ho37) hb); have n5_ := zM (zE (by (with_reducible repeat (first | apply zA | apply zN | apply zD)); exact HO195.out) (zB ho37) hb); have n6_ := zM (zE (by (with_reducible repeat (first | apply zA | apply zN | apply zD)); exact HO198.out) (zB ho37) hb); have n7_ := zM (zE (by (with_reducible repeat (first | apply zA | apply zN | apply zD)); exact HO201.out) (zB ho37) hb); have n8_ := zM (zE (by (with_reducible repeat (first | apply zA | apply zN | apply zD)); exact HO204.out) (zB ho37) hb); have n9_ := zM (zE (by (with_reducible repeat (first | apply zA | apply zN | apply zD)); exact HO207.out) (zB ho37) hb); have n10_ := zM (zE (by (with_reducible repeat (first | apply zA | apply zN | apply zD)); exact HO210.out) (zB ho37) hb); have n11_ := zM (zE (by (with_reducible repeat (first | apply zA | apply zN | apply zD)); exact HO213.out) (zB ho37) hb); have n12_ := zM (zE (by (with_reducible repeat (first | apply zA | apply zN | apply zD)); exact HO216.out) (zB ho37) hb); have n13_ := zM (zE (by (with_reducible repeat (first | apply zA | apply zN | apply zD)); exact HO219.out) (zB ho37) hb); have n14_ := zM (Kd.R_lower (Kd.R_newB (zW (zW (zW (zW (zW (zW (zW (zW (zW (zW (zW (zW (zW (zW ho37 (zL (by (with_reducible repeat (first | apply zA | apply zN | apply zD)); exact HO180.out))) (zL (by (with_reducible repeat (first | apply zA | apply zN | apply zD)); exact HO183.out))) (zL (by (with_reducible repeat (first | apply zA | apply zN | apply zD)); exact HO186.out))) (zL (by (with_reducible repeat (first | apply zA | apply zN | apply zD)); exact HO189.out))) (zL (by (with_reducible repeat (first | apply zA | apply zN | apply zD)); exact HO192.out))) (zL (by (with_reducible repeat (first | apply zA | apply zN | apply zD)); exact HO195.out))) (zL (by (with_reducible repeat (first | apply zA | apply zN | apply zD)); exact HO198.out))) (zL (by (with_reducible repeat (first | apply zA | apply zN | apply zD)); exact HO201.out))) (zL (by (with_reducible repeat (first | apply zA | apply zN | apply zD)); exact HO204.out))) (zL (by (with_reducible repeat (first | apply zA | apply zN | apply zD)); exact HO207.out))) (zL (by (with_reducible repeat (first | apply zA | apply zN | apply zD)); exact HO210.out))) (zL (by (with_reducible repeat (first | apply zA | apply zN | apply zD)); exact HO213.out))) (zL (by (with_reducible repeat (first | apply zA | apply zN | apply zD)); exact HO216.out))) (zL (by (with_reducible repeat (first | apply zA | apply zN | apply zD)); exact HO219.out))) (g := gb177) (o := .cells #[.int .u8 4, .int .i64 0, .int .i64 0, .int .i64 0, .int .i64 0] 36 (0, 0)) (by (with_reducible repeat (first | refine blk_drewN ?_ _ | refine blk_drew ?_ | refine blk_alloc ?_ _)); exact BK177.out)) (below_size (by repeat (first | (with_reducible first | exact HB.out | apply zC | apply zP | apply zO | refine below_set ?_ GE177.out) | exact HB.out)))); have n15_ := zM (blk_below (g := gb177) (o := .cells #[.int .u8 4, .int .i64 0, .int .i64 0, .int .i64 0, .int .i64 0] 36 (0, 0)) (by (with_reducible repeat (first | refine blk_drewN ?_ _ | refine blk_drew ?_ | refine blk_alloc ?_ _)); exact BK177.out) hb); have n16_ := zM (below_step (by repeat (first | (with_reducible first | exact HB.out | apply zC | apply zP | apply zO | refine below_set ?_ GE177.out) | exact HB.out)) hb); clear HO180; clear HO183; clear HO186; clear HO189; clear HO192; clear HO195; clear HO198; clear HO201; clear HO204; clear HO207; clear HO210; clear HO213; clear HO216; clear HO219; clear BK177; clear HB; have HO180 := n0_; have HO183 := n1_; have HO186 := n2_; have HO189 := n3_; have HO192 := n4_; have HO195 := n5_; have HO198 := n6_; have HO201 := n7_; have HO204 := n8_; have HO207 := n9_; have HO210 := n10_; have HO213 := n11_; have HO216 := n12_; have HO219 := n13_; have HO222 := n14_; have BK177 := n15_; have HB := n16_; clear n0_ n1_ n2_ n3_ n4_ n5_ n6_ n7_ n8_ n9_ n10_ n11_ n12_ n13_ n14_ n15_ n16_; clear hb ho37; have hcz38_0 : w36.cell? ⟨gb177, 0, none⟩ = some (.int .u8 4) := (blk_cell BK177.out 0).trans rfl; have hcz38_1 : w36.cell? ⟨gb177, 1, none⟩ = some (.int .i64 0) := (blk_cell BK177.out 1).trans rfl; have hcz38_2 : w36.cell? ⟨gb177, 2, none⟩ = some (.int .i64 0) := (blk_cell BK177.out 2).trans rfl; have hcz38_3 : w36.cell? ⟨gb177, 3, none⟩ = some (.int .i64 0) := (blk_cell BK177.out 3).trans rfl; have hcz38_4 : w36.cell? ⟨gb177, 4, none⟩ = some (.int .i64 0) := (blk_cell BK177.out 4).trans rfl; have hfz38_0 := blk_frozen BK177.out 0; have hfz38_1 := blk_frozen BK177.out 1; have hfz38_2 := blk_frozen BK177.out 2; have hfz38_3 := blk_frozen BK177.out 3; have hfz38_4 := blk_frozen BK177.out 4) | ((with_reducible refine gate_dst (N := 72) rfl ?_); (try (refine gate_guard (by rfl) ?_; dsimp only)); refine Kd.R_lit k36 _ 36 ?hg (N := 72) ?hd (xs := ([(⟨4, 0, 0, 0, 0⟩ : S36), (⟨4, 0, 0, 0, 0⟩ : S36), (⟨8, 0, 0, 0, 0⟩ : S36)] : List (S36))) (inner := [.int .u8 4, .int .i64 0, .int .i64 0, .int .i64 0, .int .i64 0, .int .u8 4, .int .i64 0, .int .i64 0, .int .i64 0, .int .i64 0, .int .u8 8, .int .i64 0, .int .i64 0, .int .i64 0, .int .i64 0]) (ok := fun _ => True) (okp := fun _ => True) ?hr ?hp (fun _ hk => hk) trivial (Below.refl _ _) (Nat.le_refl _) (by simp) ?_; (case hd => rfl); (case hg => rfl); (case hr => first | (go_simp; done) | (go_simp; rfl)); (case hp => exact (Reps.c5 (show Kd.M k36 _ _ _ (⟨4, 0, 0, 0, 0⟩ : S36) [.int .u8 4, .int .i64 0, .int .i64 0, .int .i64 0, .int .i64 0] from (k36_mkM _ _ _ (⟨4, 0, 0, 0, 0⟩ : S36) )) (Reps.c5 (show Kd.M k36 _ _ _ (⟨4, 0, 0, 0, 0⟩ : S36) [.int .u8 4, .int .i64 0, .int .i64 0, .int .i64 0, .int .i64 0] from (k36_mkM _ _ _ (⟨4, 0, 0, 0, 0⟩ : S36) )) (Reps.c5 (show Kd.M k36 _ _ _ (⟨8, 0, 0, 0, 0⟩ : S36) [.int .u8 8, .int .i64 0, .int .i64 0, .int .i64 0, .int .i64 0] from (k36_mkM _ _ _ (⟨8, 0, 0, 0, 0⟩ : S36) )) (Reps.none _ _))))); intro v224 w39 ho40 hb hg_ hnew_; clear hg_ hnew_; (first | rw [← Ny223.out] at ho40 | (simp only [Int.reduceToNat] at ho40; rw [← Ny223.out] at ho40)); have n0_ := zM (zE (by (with_reducible repeat (first | apply zA | apply zN | apply zD)); exact HO180.out) (zB ho40) hb); have n1_ := zM (zE (by (with_reducible repeat (first | apply zA | apply zN | apply zD)); exact HO183.out) (zB ho40) hb); have n2_ := zM (zE (by (with_reducible repeat (first | apply zA | apply zN | apply zD)); exact HO186.out) (zB ho40) hb); have n3_ := zM (zE (by (with_reducible repeat (first | apply zA | apply zN | apply zD)); exact HO189.out) (zB ho40) hb); have n4_ := zM (zE (by (with_reducible repeat (first | apply zA | apply zN | apply zD)); exact HO192.out) (zB ho40) hb); have n5_ := zM (zE (by (with_reducible repeat (first | apply zA | apply zN | apply zD)); exact HO195.out) (zB ho40) hb); have n6_ := zM (zE (by (with_reducible repeat (first | apply zA | apply zN | apply zD)); exact HO198.out) (zB ho40) hb); have n7_ := zM (zE (by (with_reducible repeat (first | apply zA | apply zN | apply zD)); exact HO201.out) (zB ho40) hb); have n8_ := zM (zE (by (with_reducible repeat (first | apply zA | apply zN | apply zD)); exact HO204.out) (zB ho40) hb); have n9_ := zM (zE (by (with_reducible repeat (first | apply zA | apply zN | apply zD)); exact HO207.out) (zB ho40) hb); have n10_ := zM (zE (by (with_reducible repeat (first | apply zA | apply zN | apply zD)); exact HO210.out) (zB ho40) hb); have n11_ := zM (zE (by (with_reducible repeat (first | apply zA | apply zN | apply zD)); exact HO213.out) (zB ho40) hb); have n12_ := zM (zE (by (with_reducible repeat (first | apply zA | apply zN | apply zD)); exact HO216.out) (zB ho40) hb); have n13_ := zM (zE (by (with_reducible repeat (first | apply zA | apply zN | apply zD)); exact HO219.out) (zB ho40) hb); have n14_ := zM (zE (by (with_reducible repeat (first | apply zA | apply zN | apply zD)); exact HO222.out) (zB ho40) hb); have n15_ := zM (Kd.R_lower (Kd.R_newB (zW (zW (zW (zW (zW (zW (zW (zW (zW (zW (zW (zW (zW (zW (zW ho40 (zL (by (with_reducible repeat (first | apply zA | apply zN | apply zD)); exact HO180.out))) (zL (by (with_reducible repeat (first | apply zA | apply zN | apply zD)); exact HO183.out))) (zL (by (with_reducible repeat (first | apply zA | apply zN | apply zD)); exact HO186.out))) (zL (by (with_reducible repeat (first | apply zA | apply zN | apply zD)); exact HO189.out))) (zL (by (with_reducible repeat (first | apply zA | apply zN | apply zD)); exact HO192.out))) (zL (by (with_reducible repeat (first | apply zA | apply zN | apply zD)); exact HO195.out))) (zL (by (with_reducible repeat (first | apply zA | apply zN | apply zD)); exact HO198.out))) (zL (by (with_reducible repeat (first | apply zA | apply zN | apply zD)); exact HO201.out))) (zL (by (with_reducible repeat (first | apply zA | apply zN | apply zD)); exact HO204.out))) (zL (by (with_reducible repeat (first | apply zA | apply zN | apply zD)); exact HO207.out))) (zL (by (with_reducible repeat (first | apply zA | apply zN | apply zD)); exact HO210.out))) (zL (by (with_reducible repeat (first | apply zA | apply zN | apply zD)); exact HO213.out))) (zL (by (with_reducible repeat (first | apply zA | apply zN | apply zD)); exact HO216.out))) (zL (by (with_reducible repeat (first | apply zA | apply zN | apply zD)); exact HO219.out))) (zL (by (with_reducible repeat (first | apply zA | apply zN | apply zD)); exact HO222.out))) (g := gb177) (o := .cells #[.int .u8 4, .int .i64 0, .int .i64 0, .int .i64 0, .int .i64 0] 36 (0, 0)) (by (with_reducible repeat (first | refine blk_drewN ?_ _ | refine blk_drew ?_ | refine blk_alloc ?_ _)); exact BK177.out)) (below_size (by repeat (first | (with_reducible first | exact HB.out | apply zC | apply zP | apply zO | refine below_set ?_ GE177.out) | exact HB.out)))); have n16_ := zM (blk_below (g := gb177) (o := .cells #[.int .u8 4, .int .i64 0, .int .i64 0, .int .i64 0, .int .i64 0] 36 (0, 0)) (by (with_reducible repeat (first | refine blk_drewN ?_ _ | refine blk_drew ?_ | refine blk_alloc ?_ _)); exact BK177.out) hb); have n17_ := zM (below_step (by repeat (first | (with_reducible first | exact HB.out | apply zC | apply zP | apply zO | refine below_set ?_ GE177.out) | exact HB.out)) hb); clear HO180; clear HO183; clear HO186; clear HO189; clear HO192; clear HO195; clear HO198; clear HO201; clear HO204; clear HO207; clear HO210; clear HO213; clear HO216; clear HO219; clear HO222; clear BK177; clear HB; have HO180 := n0_; have HO183 := n1_; have HO186 := n2_; have HO189 := n3_; have HO192 := n4_; have HO195 := n5_; have HO198 := n6_; have HO201 := n7_; have HO204 := n8_; have HO207 := n9_; have HO210 := n10_; have HO213 := n11_; have HO216 := n12_; have HO219 := n13_; have HO222 := n14_; have HO225 := n15_; have BK177 := n16_; have HB := n17_; clear n0_ n1_ n2_ n3_ n4_ n5_ n6_ n7_ n8_ n9_ n10_ n11_ n12_ n13_ n14_ n15_ n16_ n17_; clear hb ho40; have hcz41_0 : w39.cell? ⟨gb177, 0, none⟩ = some (.int .u8 4) := (blk_cell BK177.out 0).trans rfl; have hcz41_1 : w39.cell? ⟨gb177, 1, none⟩ = some (.int .i64 0) := (blk_cell BK177.out 1).trans rfl; have hcz41_2 : w39.cell? ⟨gb177, 2, none⟩ = some (.int .i64 0) := (blk_cell BK177.out 2).trans rfl; have hcz41_3 : w39.cell? ⟨gb177, 3, none⟩ = some (.int .i64 0) := (blk_cell BK177.out 3).trans rfl; have hcz41_4 : w39.cell? ⟨gb177, 4, none⟩ = some (.int .i64 0) := (blk_cell BK177.out 4).trans rfl; have hfz41_0 := blk_frozen BK177.out 0; have hfz41_1 := blk_frozen BK177.out 1; have hfz41_2 := blk_frozen BK177.out 2; have hfz41_3 := blk_frozen BK177.out 3; have hfz41_4 := blk_frozen BK177.out 4) | ((with_reducible refine gate_dst (N := 76) rfl ?_); (try (refine gate_guard (by rfl) ?_; dsimp only)); refine Kd.R_lit k36 _ 36 ?hg (N := 76) ?hd (xs := ([(⟨4, 0, 0, 0, 0⟩ : S36), (⟨4, 0, 0, 0, 0⟩ : S36), (⟨6, 0, 0, 0, 0⟩ : S36)] : List (S36))) (inner := [.int .u8 4, .int .i64 0, .int .i64 0, .int .i64 0, .int .i64 0, .int .u8 4, .int .i64 0, .int .i64 0, .int .i64 0, .int .i64 0, .int .u8 6, .int .i64 0, .int .i64 0, .int .i64 0, .int .i64 0]) (ok := fun _ => True) (okp := fun _ => True) ?hr ?hp (fun _ hk => hk) trivial (Below.refl _ _) (Nat.le_refl _) (by simp) ?_; (case hd => rfl); (case hg => rfl); (case hr => first | (go_simp; done) | (go_simp; rfl)); (case hp => exact (Reps.c5 (show Kd.M k36 _ _ _ (⟨4, 0, 0, 0, 0⟩ : S36) [.int .u8 4, .int .i64 0, .int .i64 0, .int .i64 0, .int .i64 0] from (k36_mkM _ _ _ (⟨4, 0, 0, 0, 0⟩ : S36) )) (Reps.c5 (show Kd.M k36 _ _ _ (⟨4, 0, 0, 0, 0⟩ : S36) [.int .u8 4, .int .i64 0, .int .i64 0, .int .i64 0, .int .i64 0] from (k36_mkM _ _ _ (⟨4, 0, 0, 0, 0⟩ : S36) )) (Reps.c5 (show Kd.M k36 _ _ _ (⟨6, 0, 0, 0, 0⟩ : S36) [.int .u8 6, .int .i64 0, .int .i64 0, .int .i64 0, .int .i64 0] from (k36_mkM _ _ _ (⟨6, 0, 0, 0, 0⟩ : S36) )) (Reps.none _ _))))); intro v227 w42 ho43 hb hg_ hnew_; clear hg_ hnew_; (first | rw [← Ny226.out] at ho43 | (simp only [Int.reduceToNat] at ho43; rw [← Ny226.out] at ho43)); have n0_ := zM (zE (by (with_reducible repeat (first | apply zA | apply zN | apply zD)); exact HO180.out) (zB ho43) hb); have n1_ := zM (zE (by (with_reducible repeat (first | apply zA | apply zN | apply zD)); exact HO183.out) (zB ho43) hb); have n2_ := zM (zE (by (with_reducible repeat (first | apply zA | apply zN | apply zD)); exact HO186.out) (zB ho43) hb); have n3_ := zM (zE (by (with_reducible repeat (first | apply zA | apply zN | apply zD)); exact HO189.out) (zB ho43) hb); have n4_ := zM (zE (by (with_reducible repeat (first | apply zA | apply zN | apply zD)); exact HO192.out) (zB ho43) hb); have n5_ := zM (zE (by (with_reducible repeat (first | apply zA | apply zN | apply zD)); exact HO195.out) (zB ho43) hb); have n6_ := zM (zE (by (with_reducible repeat (first | apply zA | apply zN | apply zD)); exact HO198.out) (zB ho43) hb); have n7_ := zM (zE (by (with_reducible repeat (first | apply zA | apply zN | apply zD)); exact HO201.out) (zB ho43) hb); have n8_ := zM (zE (by (with_reducible repeat (first | apply zA | apply zN | apply zD)); exact HO204.out) (zB ho43) hb); have n9_ := zM (zE (by (with_reducible repeat (first | apply zA | apply zN | apply zD)); exact HO207.out) (zB ho43) hb); have n10_ := zM (zE (by (with_reducible repeat (first | apply zA | apply zN | apply zD)); exact HO210.out) (zB ho43) hb); have n11_ := zM (zE (by (with_reducible repeat (first | apply zA | apply zN | apply zD)); exact HO213.out) (zB ho43) hb); have n12_ := zM (zE (by (with_reducible repeat (first | apply zA | apply zN | apply zD)); exact HO216.out) (zB ho43) hb); have n13_ := zM (zE (by (with_reducible repeat (first | apply zA | apply zN | apply zD)); exact HO219.out) (zB ho43) hb); have n14_ := zM (zE (by (with_reducible repeat (first | apply zA | apply zN | apply zD)); exact HO222.out) (zB ho43) hb); have n15_ := zM (zE (by (with_reducible repeat (first | apply zA | apply zN | apply zD)); exact HO225.out) (zB ho43) hb); have n16_ := zM (Kd.R_lower (Kd.R_newB (zW (zW (zW (zW (zW (zW (zW (zW (zW (zW (zW (zW (zW (zW (zW (zW ho43 (zL (by (with_reducible repeat (first | apply zA | apply zN | apply zD)); exact HO180.out))) (zL (by (with_reducible repeat (first | apply zA | apply zN | apply zD)); exact HO183.out))) (zL (by (with_reducible repeat (first | apply zA | apply zN | apply zD)); exact HO186.out))) (zL (by (with_reducible repeat (first | apply zA | apply zN | apply zD)); exact HO189.out))) (zL (by (with_reducible repeat (first | apply zA | apply zN | apply zD)); exact HO192.out))) (zL (by (with_reducible repeat (first | apply zA | apply zN | apply zD)); exact HO195.out))) (zL (by (with_reducible repeat (first | apply zA | apply zN | apply zD)); exact HO198.out))) (zL (by (with_reducible repeat (first | apply zA | apply zN | apply zD)); exact HO201.out))) (zL (by (with_reducible repeat (first | apply zA | apply zN | apply zD)); exact HO204.out))) (zL (by (with_reducible repeat (first | apply zA | apply zN | apply zD)); exact HO207.out))) (zL (by (with_reducible repeat (first | apply zA | apply zN | apply zD)); exact HO210.out))) (zL (by (with_reducible repeat (first | apply zA | apply zN | apply zD)); exact HO213.out))) (zL (by (with_reducible repeat (first | apply zA | apply zN | apply zD)); exact HO216.out))) (zL (by (with_reducible repeat (first | apply zA | apply zN | apply zD)); exact HO219.out))) (zL (by (with_reducible repeat (first | apply zA | apply zN | apply zD)); exact HO222.out))) (zL (by (with_reducible repeat (first | apply zA | apply zN | apply zD)); exact HO225.out))) (g := gb177) (o := .cells #[.int .u8 4, .int .i64 0, .int .i64 0, .int .i64 0, .int .i64 0] 36 (0, 0)) (by (with_reducible repeat (first | refine blk_drewN ?_ _ | refine blk_drew ?_ | refine blk_alloc ?_ _)); exact BK177.out)) (below_size (by repeat (first | (with_reducible first | exact HB.out | apply zC | apply zP | apply zO | refine below_set ?_ GE177.out) | exact HB.out)))); have n17_ := zM (blk_below (g := gb177) (o := .cells #[.int .u8 4, .int .i64 0, .int .i64 0, .int .i64 0, .int .i64 0] 36 (0, 0)) (by (with_reducible repeat (first | refine blk_drewN ?_ _ | refine blk_drew ?_ | refine blk_alloc ?_ _)); exact BK177.out) hb); have n18_ := zM (below_step (by repeat (first | (with_reducible first | exact HB.out | apply zC | apply zP | apply zO | refine below_set ?_ GE177.out) | exact HB.out)) hb); clear HO180; clear HO183; clear HO186; clear HO189; clear HO192; clear HO195; clear HO198; clear HO201; clear HO204; clear HO207; clear HO210; clear HO213; clear HO216; clear HO219; clear HO222; clear HO225; clear BK177; clear HB; have HO180 := n0_; have HO183 := n1_; have HO186 := n2_; have HO189 := n3_; have HO192 := n4_; have HO195 := n5_; have HO198 := n6_; have HO201 := n7_; have HO204 := n8_; have HO207 := n9_; have HO210 := n10_; have HO213 := n11_; have HO216 := n12_; have HO219 := n13_; have HO222 := n14_; have HO225 := n15_; have HO228 := n16_; have BK177 := n17_; have HB := n18_; clear n0_ n1_ n2_ n3_ n4_ n5_ n6_ n7_ n8_ n9_ n10_ n11_ n12_ n13_ n14_ n15_ n16_ n17_ n18_; clear hb ho43; have hcz44_0 : w42.cell? ⟨gb177, 0, none⟩ = some (.int .u8 4) := (blk_cell BK177.out 0).trans rfl; have hcz44_1 : w42.cell? ⟨gb177, 1, none⟩ = some (.int .i64 0) := (blk_cell BK177.out 1).trans rfl; have hcz44_2 : w42.cell? ⟨gb177, 2, none⟩ = some (.int .i64 0) := (blk_cell BK177.out 2).trans rfl; have hcz44_3 : w42.cell? ⟨gb177, 3, none⟩ = some (.int .i64 0) := (blk_cell BK177.out 3).trans rfl; have hcz44_4 : w42.cell? ⟨gb177, 4, none⟩ = some (.int .i64 0) := (blk_cell BK177.out 4).trans rfl; have hfz44_0 := blk_frozen BK177.out 0; have hfz44_1 := blk_frozen BK177.out 1; have hfz44_2 := blk_frozen BK177.out 2; have hfz44_3 := blk_frozen BK177.out 3; have hfz44_4 := blk_frozen BK177.out 4) | ((with_reducible refine gate_dst (N := 81) rfl ?_); (try (refine gate_guard (by rfl) ?_; dsimp only)); refine Kd.R_lit k36 _ 36 ?hg (N := 81) ?hd (xs := ([(⟨4, 0, 0, 0, 0⟩ : S36), (⟨4, 0, 0, 0, 0⟩ : S36), (⟨4, 0, 0, 0, 0⟩ : S36), (⟨8, 0, 1, 2, 0⟩ : S36)] : List (S36))) (inner := [.int .u8 4, .int .i64 0, .int .i64 0, .int .i64 0, .int .i64 0, .int .u8 4, .int .i64 0, .int .i64 0, .int .i64 0, .int .i64 0, .int .u8 4, .int .i64 0, .int .i64 0, .int .i64 0, .int .i64 0, .int .u8 8, .int .i64 0, .int .i64 1, .int .i64 2, .int .i64 0]) (ok := fun _ => True) (okp := fun _ => True) ?hr ?hp (fun _ hk => hk) trivial (Below.refl _ _) (Nat.le_refl _) (by simp) ?_; (case hd => rfl); (case hg => rfl); (case hr => first | (go_simp; done) | (go_simp; rfl)); (case hp => exact (Reps.c5 (show Kd.M k36 _ _ _ (⟨4, 0, 0, 0, 0⟩ : S36) [.int .u8 4, .int .i64 0, .int .i64 0, .int .i64 0, .int .i64 0] from (k36_mkM _ _ _ (⟨4, 0, 0, 0, 0⟩ : S36) )) (Reps.c5 (show Kd.M k36 _ _ _ (⟨4, 0, 0, 0, 0⟩ : S36) [.int .u8 4, .int .i64 0, .int .i64 0, .int .i64 0, .int .i64 0] from (k36_mkM _ _ _ (⟨4, 0, 0, 0, 0⟩ : S36) )) (Reps.c5 (show Kd.M k36 _ _ _ (⟨4, 0, 0, 0, 0⟩ : S36) [.int .u8 4, .int .i64 0, .int .i64 0, .int .i64 0, .int .i64 0] from (k36_mkM _ _ _ (⟨4, 0, 0, 0, 0⟩ : S36) )) (Reps.c5 (show Kd.M k36 _ _ _ (⟨8, 0, 1, 2, 0⟩ : S36) [.int .u8 8, .int .i64 0, .int .i64 1, .int .i64 2, .int .i64 0] from (k36_mkM _ _ _ (⟨8, 0, 1, 2, 0⟩ : S36) )) (Reps.none _ _)))))); intro v230 w45 ho46 hb hg_ hnew_; clear hg_ hnew_; (first | rw [← Ny229.out] at ho46 | (simp only [Int.reduceToNat] at ho46; rw [← Ny229.out] at ho46)); have n0_ := zM (zE (by (with_reducible repeat (first | apply zA | apply zN | apply zD)); exact HO180.out) (zB ho46) hb); have n1_ := zM (zE (by (with_reducible repeat (first | apply zA | apply zN | apply zD)); exact HO183.out) (zB ho46) hb); have n2_ := zM (zE (by (with_reducible repeat (first | apply zA | apply zN | apply zD)); exact HO186.out) (zB ho46) hb); have n3_ := zM (zE (by (with_reducible repeat (first | apply zA | apply zN | apply zD)); exact HO189.out) (zB ho46) hb); have n4_ := zM (zE (by (with_reducible repeat (first | apply zA | apply zN | apply zD)); exact HO192.out) (zB ho46) hb); have n5_ := zM (zE (by (with_reducible repeat (first | apply zA | apply zN | apply zD)); exact HO195.out) (zB ho46) hb); have n6_ := zM (zE (by (with_reducible repeat (first | apply zA | apply zN | apply zD)); exact HO198.out) (zB ho46) hb); have n7_ := zM (zE (by (with_reducible repeat (first | apply zA | apply zN | apply zD)); exact HO201.out) (zB ho46) hb); have n8_ := zM (zE (by (with_reducible repeat (first | apply zA | apply zN | apply zD)); exact HO204.out) (zB ho46) hb); have n9_ := zM (zE (by (with_reducible repeat (first | apply zA | apply zN | apply zD)); exact HO207.out) (zB ho46) hb); have n10_ := zM (zE (by (with_reducible repeat (first | apply zA | apply zN | apply zD)); exact HO210.out) (zB ho46) hb); have n11_ := zM (zE (by (with_reducible repeat (first | apply zA | apply zN | apply zD)); exact HO213.out) (zB ho46) hb); have n12_ := zM (zE (by (with_reducible repeat (first | apply zA | apply zN | apply zD)); exact HO216.out) (zB ho46) hb); have n13_ := zM (zE (by (with_reducible repeat (first | apply zA | apply zN | apply zD)); exact HO219.out) (zB ho46) hb); have n14_ := zM (zE (by (with_reducible repeat (first | apply zA | apply zN | apply zD)); exact HO222.out) (zB ho46) hb); have n15_ := zM (zE (by (with_reducible repeat (first | apply zA | apply zN | apply zD)); exact HO225.out) (zB ho46) hb); have n16_ := zM (zE (by (with_reducible repeat (first | apply zA | apply zN | apply zD)); exact HO228.out) (zB ho46) hb); have n17_ := zM (Kd.R_lower (Kd.R_newB (zW (zW (zW (zW (zW (zW (zW (zW (zW (zW (zW (zW (zW (zW (zW (zW (zW ho46 (zL (by (with_reducible repeat (first | apply zA | apply zN | apply zD)); exact HO180.out))) (zL (by (with_reducible repeat (first | apply zA | apply zN | apply zD)); exact HO183.out))) (zL (by (with_reducible repeat (first | apply zA | apply zN | apply zD)); exact HO186.out))) (zL (by (with_reducible repeat (first | apply zA | apply zN | apply zD)); exact HO189.out))) (zL (by (with_reducible repeat (first | apply zA | apply zN | apply zD)); exact HO192.out))) (zL (by (with_reducible repeat (first | apply zA | apply zN | apply zD)); exact HO195.out))) (zL (by (with_reducible repeat (first | apply zA | apply zN | apply zD)); exact HO198.out))) (zL (by (with_reducible repeat (first | apply zA | apply zN | apply zD)); exact HO201.out))) (zL (by (with_reducible repeat (first | apply zA | apply zN | apply zD)); exact HO204.out))) (zL (by (with_reducible repeat (first | apply zA | apply zN | apply zD)); exact HO207.out))) (zL (by (with_reducible repeat (first | apply zA | apply zN | apply zD)); exact HO210.out))) (zL (by (with_reducible repeat (first | apply zA | apply zN | apply zD)); exact HO213.out))) (zL (by (with_reducible repeat (first | apply zA | apply zN | apply zD)); exact HO216.out))) (zL (by (with_reducible repeat (first | apply zA | apply zN | apply zD)); exact HO219.out))) (zL (by (with_reducible repeat (first | apply zA | apply zN | apply zD)); exact HO222.out))) (zL (by (with_reducible repeat (first | apply zA | apply zN | apply zD)); exact HO225.out))) (zL (by (with_reducible repeat (first | apply zA | apply zN | apply zD)); exact HO228.out))) (g := gb177) (o := .cells #[.int .u8 4, .int .i64 0, .int .i64 0, .int .i64 0, .int .i64 0] 36 (0, 0)) (by (with_reducible repeat (first | refine blk_drewN ?_ _ | refine blk_drew ?_ | refine blk_alloc ?_ _)); exact BK177.out)) (below_size (by repeat (first | (with_reducible first | exact HB.out | apply zC | apply zP | apply zO | refine below_set ?_ GE177.out) | exact HB.out)))); have n18_ := zM (blk_below (g := gb177) (o := .cells #[.int .u8 4, .int .i64 0, .int .i64 0, .int .i64 0, .int .i64 0] 36 (0, 0)) (by (with_reducible repeat (first | refine blk_drewN ?_ _ | refine blk_drew ?_ | refine blk_alloc ?_ _)); exact BK177.out) hb); have n19_ := zM (below_step (by repeat (first | (with_reducible first | exact HB.out | apply zC | apply zP | apply zO | refine below_set ?_ GE177.out) | exact HB.out)) hb); clear HO180; clear HO183; clear HO186; clear HO189; clear HO192; clear HO195; clear HO198; clear HO201; clear HO204; clear HO207; clear HO210; clear HO213; clear HO216; clear HO219; clear HO222; clear HO225; clear HO228; clear BK177; clear HB; have HO180 := n0_; have HO183 := n1_; have HO186 := n2_; have HO189 := n3_; have HO192 := n4_; have HO195 := n5_; have HO198 := n6_; have HO201 := n7_; have HO204 := n8_; have HO207 := n9_; have HO210 := n10_; have HO213 := n11_; have HO216 := n12_; have HO219 := n13_; have HO222 := n14_; have HO225 := n15_; have HO228 := n16_; have HO231 := n17_; have BK177 := n18_; have HB := n19_; clear n0_ n1_ n2_ n3_ n4_ n5_ n6_ n7_ n8_ n9_ n10_ n11_ n12_ n13_ n14_ n15_ n16_ n17_ n18_ n19_; clear hb ho46; have hcz47_0 : w45.cell? ⟨gb177, 0, none⟩ = some (.int .u8 4) := (blk_cell BK177.out 0).trans rfl; have hcz47_1 : w45.cell? ⟨gb177, 1, none⟩ = some (.int .i64 0) := (blk_cell BK177.out 1).trans rfl; have hcz47_2 : w45.cell? ⟨gb177, 2, none⟩ = some (.int .i64 0) := (blk_cell BK177.out 2).trans rfl; have hcz47_3 : w45.cell? ⟨gb177, 3, none⟩ = some (.int .i64 0) := (blk_cell BK177.out 3).trans rfl; have hcz47_4 : w45.cell? ⟨gb177, 4, none⟩ = some (.int .i64 0) := (blk_cell BK177.out 4).trans rfl; have hfz47_0 := blk_frozen BK177.out 0; have hfz47_1 := blk_frozen BK177.out 1; have hfz47_2 := blk_frozen BK177.out 2; have hfz47_3 := blk_frozen BK177.out 3; have hfz47_4 := blk_frozen BK177.out 4) | ((with_reducible refine gate_dst (N := 85) rfl ?_); (try (refine gate_guard (by rfl) ?_; dsimp only)); refine Kd.R_lit k36 _ 36 ?hg (N := 85) ?hd (xs := ([(⟨4, 0, 0, 0, 0⟩ : S36), (⟨4, 0, 0, 0, 0⟩ : S36), (⟨8, 5, 0, 1, 0⟩ : S36)] : List (S36))) (inner := [.int .u8 4, .int .i64 0, .int .i64 0, .int .i64 0, .int .i64 0, .int .u8 4, .int .i64 0, .int .i64 0, .int .i64 0, .int .i64 0, .int .u8 8, .int .i64 5, .int .i64 0, .int .i64 1, .int .i64 0]) (ok := fun _ => True) (okp := fun _ => True) ?hr ?hp (fun _ hk => hk) trivial (Below.refl _ _) (Nat.le_refl _) (by simp) ?_; (case hd => rfl); (case hg => rfl); (case hr => first | (go_simp; done) | (go_simp; rfl)); (case hp => exact (Reps.c5 (show Kd.M k36 _ _ _ (⟨4, 0, 0, 0, 0⟩ : S36) [.int .u8 4, .int .i64 0, .int .i64 0, .int .i64 0, .int .i64 0] from (k36_mkM _ _ _ (⟨4, 0, 0, 0, 0⟩ : S36) )) (Reps.c5 (show Kd.M k36 _ _ _ (⟨4, 0, 0, 0, 0⟩ : S36) [.int .u8 4, .int .i64 0, .int .i64 0, .int .i64 0, .int .i64 0] from (k36_mkM _ _ _ (⟨4, 0, 0, 0, 0⟩ : S36) )) (Reps.c5 (show Kd.M k36 _ _ _ (⟨8, 5, 0, 1, 0⟩ : S36) [.int .u8 8, .int .i64 5, .int .i64 0, .int .i64 1, .int .i64 0] from (k36_mkM _ _ _ (⟨8, 5, 0, 1, 0⟩ : S36) )) (Reps.none _ _))))); intro v233 w48 ho49 hb hg_ hnew_; clear hg_ hnew_; (first | rw [← Ny232.out] at ho49 | (simp only [Int.reduceToNat] at ho49; rw [← Ny232.out] at ho49)); have n0_ := zM (zE (by (with_reducible repeat (first | apply zA | apply zN | apply zD)); exact HO180.out) (zB ho49) hb); have n1_ := zM (zE (by (with_reducible repeat (first | apply zA | apply zN | apply zD)); exact HO183.out) (zB ho49) hb); have n2_ := zM (zE (by (with_reducible repeat (first | apply zA | apply zN | apply zD)); exact HO186.out) (zB ho49) hb); have n3_ := zM (zE (by (with_reducible repeat (first | apply zA | apply zN | apply zD)); exact HO189.out) (zB ho49) hb); have n4_ := zM (zE (by (with_reducible repeat (first | apply zA | apply zN | apply zD)); exact HO192.out) (zB ho49) hb); have n5_ := zM (zE (by (with_reducible repeat (first | apply zA | apply zN | apply zD)); exact HO195.out) (zB ho49) hb); have n6_ := zM (zE (by (with_reducible repeat (first | apply zA | apply zN | apply zD)); exact HO198.out) (zB ho49) hb); have n7_ := zM (zE (by (with_reducible repeat (first | apply zA | apply zN | apply zD)); exact HO201.out) (zB ho49) hb); have n8_ := zM (zE (by (with_reducible repeat (first | apply zA | apply zN | apply zD)); exact HO204.out) (zB ho49) hb); have n9_ := zM (zE (by (with_reducible repeat (first | apply zA | apply zN | apply zD)); exact HO207.out) (zB ho49) hb); have n10_ := zM (zE (by (with_reducible repeat (first | apply zA | apply zN | apply zD)); exact HO210.out) (zB ho49) hb); have n11_ := zM (zE (by (with_reducible repeat (first | apply zA | apply zN | apply zD)); exact HO213.out) (zB ho49) hb); have n12_ := zM (zE (by (with_reducible repeat (first | apply zA | apply zN | apply zD)); exact HO216.out) (zB ho49) hb); have n13_ := zM (zE (by (with_reducible repeat (first | apply zA | apply zN | apply zD)); exact HO219.out) (zB ho49) hb); have n14_ := zM (zE (by (with_reducible repeat (first | apply zA | apply zN | apply zD)); exact HO222.out) (zB ho49) hb); have n15_ := zM (zE (by (with_reducible repeat (first | apply zA | apply zN | apply zD)); exact HO225.out) (zB ho49) hb); have n16_ := zM (zE (by (with_reducible repeat (first | apply zA | apply zN | apply zD)); exact HO228.out) (zB ho49) hb); have n17_ := zM (zE (by (with_reducible repeat (first | apply zA | apply zN | apply zD)); exact HO231.out) (zB ho49) hb); have n18_ := zM (Kd.R_lower (Kd.R_newB (zW (zW (zW (zW (zW (zW (zW (zW (zW (zW (zW (zW (zW (zW (zW (zW (zW (zW ho49 (zL (by (with_reducible repeat (first | apply zA | apply zN | apply zD)); exact HO180.out))) (zL (by (with_reducible repeat (first | apply zA | apply zN | apply zD)); exact HO183.out))) (zL (by (with_reducible repeat (first | apply zA | apply zN | apply zD)); exact HO186.out))) (zL (by (with_reducible repeat (first | apply zA | apply zN | apply zD)); exact HO189.out))) (zL (by (with_reducible repeat (first | apply zA | apply zN | apply zD)); exact HO192.out))) (zL (by (with_reducible repeat (first | apply zA | apply zN | apply zD)); exact HO195.out))) (zL (by (with_reducible repeat (first | apply zA | apply zN | apply zD)); exact HO198.out))) (zL (by (with_reducible repeat (first | apply zA | apply zN | apply zD)); exact HO201.out))) (zL (by (with_reducible repeat (first | apply zA | apply zN | apply zD)); exact HO204.out))) (zL (by (with_reducible repeat (first | apply zA | apply zN | apply zD)); exact HO207.out))) (zL (by (with_reducible repeat (first | apply zA | apply zN | apply zD)); exact HO210.out))) (zL (by (with_reducible repeat (first | apply zA | apply zN | apply zD)); exact HO213.out))) (zL (by (with_reducible repeat (first | apply zA | apply zN | apply zD)); exact HO216.out))) (zL (by (with_reducible repeat (first | apply zA | apply zN | apply zD)); exact HO219.out))) (zL (by (with_reducible repeat (first | apply zA | apply zN | apply zD)); exact HO222.out))) (zL (by (with_reducible repeat (first | apply zA | apply zN | apply zD)); exact HO225.out))) (zL (by (with_reducible repeat (first | apply zA | apply zN | apply zD)); exact HO228.out))) (zL (by (with_reducible repeat (first | apply zA | apply zN | apply zD)); exact HO231.out))) (g := gb177) (o := .cells #[.int .u8 4, .int .i64 0, .int .i64 0, .int .i64 0, .int .i64 0] 36 (0, 0)) (by (with_reducible repeat (first | refine blk_drewN ?_ _ | refine blk_drew ?_ | refine blk_alloc ?_ _)); exact BK177.out)) (below_size (by repeat (first | (with_reducible first | exact HB.out | apply zC | apply zP | apply zO | refine below_set ?_ GE177.out) | exact HB.out)))); have n19_ := zM (blk_below (g := gb177) (o := .cells #[.int .u8 4, .int .i64 0, .int .i64 0, .int .i64 0, .int .i64 0] 36 (0, 0)) (by (with_reducible repeat (first | refine blk_drewN ?_ _ | refine blk_drew ?_ | refine blk_alloc ?_ _)); exact BK177.out) hb); have n20_ := zM (below_step (by repeat (first | (with_reducible first | exact HB.out | apply zC | apply zP | apply zO | refine below_set ?_ GE177.out) | exact HB.out)) hb); clear HO180; clear HO183; clear HO186; clear HO189; clear HO192; clear HO195; clear HO198; clear HO201; clear HO204; clear HO207; clear HO210; clear HO213; clear HO216; clear HO219; clear HO222; clear HO225; clear HO228; clear HO231; clear BK177; clear HB; have HO180 := n0_; have HO183 := n1_; have HO186 := n2_; have HO189 := n3_; have HO192 := n4_; have HO195 := n5_; have HO198 := n6_; have HO201 := n7_; have HO204 := n8_; have HO207 := n9_; have HO210 := n10_; have HO213 := n11_; have HO216 := n12_; have HO219 := n13_; have HO222 := n14_; have HO225 := n15_; have HO228 := n16_; have HO231 := n17_; have HO234 := n18_; have BK177 := n19_; have HB := n20_; clear n0_ n1_ n2_ n3_ n4_ n5_ n6_ n7_ n8_ n9_ n10_ n11_ n12_ n13_ n14_ n15_ n16_ n17_ n18_ n19_ n20_; clear hb ho49; obtain ⟨Ao50, co50, eo50⟩ := Kd.R_slice HO180.out; subst eo50; obtain ⟨Ao51, co51, eo51⟩ := Kd.R_slice HO183.out; subst eo51; obtain ⟨Ao52, co52, eo52⟩ := Kd.R_slice HO186.out; subst eo52; obtain ⟨Ao53, co53, eo53⟩ := Kd.R_slice HO189.out; subst eo53; obtain ⟨Ao54, co54, eo54⟩ := Kd.R_slice HO192.out; subst eo54; obtain ⟨Ao55, co55, eo55⟩ := Kd.R_slice HO195.out; subst eo55; obtain ⟨Ao56, co56, eo56⟩ := Kd.R_slice HO198.out; subst eo56; obtain ⟨Ao57, co57, eo57⟩ := Kd.R_slice HO201.out; subst eo57; obtain ⟨Ao58, co58, eo58⟩ := Kd.R_slice HO204.out; subst eo58; obtain ⟨Ao59, co59, eo59⟩ := Kd.R_slice HO207.out; subst eo59; obtain ⟨Ao60, co60, eo60⟩ := Kd.R_slice HO210.out; subst eo60; obtain ⟨Ao61, co61, eo61⟩ := Kd.R_slice HO213.out; subst eo61; obtain ⟨Ao62, co62, eo62⟩ := Kd.R_slice HO216.out; subst eo62; obtain ⟨Ao63, co63, eo63⟩ := Kd.R_slice HO219.out; subst eo63; obtain ⟨Ao64, co64, eo64⟩ := Kd.R_slice HO222.out; subst eo64; obtain ⟨Ao65, co65, eo65⟩ := Kd.R_slice HO225.out; subst eo65; obtain ⟨Ao66, co66, eo66⟩ := Kd.R_slice HO228.out; subst eo66; obtain ⟨Ao67, co67, eo67⟩ := Kd.R_slice HO231.out; subst eo67; obtain ⟨Ao68, co68, eo68⟩ := Kd.R_slice HO234.out; subst eo68) | ((with_reducible refine gate_dst (N := 86) rfl ?_); (try (refine gate_guard (by rfl) ?_; dsimp only)); refine Kd.N_lit (Kd.slice 36 k36) _ 22 ?hg (N' := 86) ?hd (xs := ([y178, y181, y184, y187, y190, y193, y196, y199, y202, y205, y208, y211, y214, y217, y220, y223, y226, y229, y232] : List (List (S36)))) (inner := [.slice Ao50 y178.length co50, .slice Ao51 y181.length co51, .slice Ao52 y184.length co52, .slice Ao53 y187.length co53, .slice Ao54 y190.length co54, .slice Ao55 y193.length co55, .slice Ao56 y196.length co56, .slice Ao57 y199.length co57, .slice Ao58 y202.length co58, .slice Ao59 y205.length co59, .slice Ao60 y208.length co60, .slice Ao61 y211.length co61, .slice Ao62 y214.length co62, .slice Ao63 y217.length co63, .slice Ao64 y220.length co64, .slice Ao65 y223.length co65, .slice Ao66 y226.length co66, .slice Ao67 y229.length co67, .slice Ao68 y232.length co68]) (ok := (fun k_ => k_ ≠ gb177)) (okp := (fun k_ => k_ ≠ gb177)) ?hr ?hp (fun _ hk => hk) ((show ∀ k_, w48.heap.size ≤ k_ → (fun k_ => k_ ≠ gb177) k_ from fun k_ hk => Kd.freshB (g := gb177) (o := .cells #[.int .u8 4, .int .i64 0, .int .i64 0, .int .i64 0, .int .i64 0] 36 (0, 0)) (by (with_reducible repeat (first | refine blk_drewN ?_ _ | refine blk_drew ?_ | refine blk_alloc ?_ _)); exact BK177.out) k_ hk) _ (Nat.le_refl _)) (Below.refl _ _) (Nat.le_refl _) (by simp) ?_; (case hd => rfl); (case hg => rfl); (case hr => first | (go_simp; done) | (go_simp; rfl)); (case hp => exact (Reps.one (show Kd.FK (Kd.slice 36 k36) _ _ y178 [.slice Ao50 y178.length co50] from (Kd.FK_slice_mk (Kd.R_reads' (Kd.R_mono (ok' := (fun k_ => k_ ≠ gb177)) (HO180.out) (fun k_ hk => hk.1.1.1.1.1.1.1.1.1.1.1.1.1.1.1.1.1.1.2))).2.1 (Kd.R_F (Kd.R_mono (ok' := (fun k_ => k_ ≠ gb177)) (HO180.out) (fun k_ hk => hk.1.1.1.1.1.1.1.1.1.1.1.1.1.1.1.1.1.1.2))))) (Reps.one (show Kd.FK (Kd.slice 36 k36) _ _ y181 [.slice Ao51 y181.length co51] from (Kd.FK_slice_mk (Kd.R_reads' (Kd.R_mono (ok' := (fun k_ => k_ ≠ gb177)) (HO183.out) (fun k_ hk => hk.1.1.1.1.1.1.1.1.1.1.1.1.1.1.1.1.1.2))).2.1 (Kd.R_F (Kd.R_mono (ok' := (fun k_ => k_ ≠ gb177)) (HO183.out) (fun k_ hk => hk.1.1.1.1.1.1.1.1.1.1.1.1.1.1.1.1.1.2))))) (Reps.one (show Kd.FK (Kd.slice 36 k36) _ _ y184 [.slice Ao52 y184.length co52] from (Kd.FK_slice_mk (Kd.R_reads' (Kd.R_mono (ok' := (fun k_ => k_ ≠ gb177)) (HO186.out) (fun k_ hk => hk.1.1.1.1.1.1.1.1.1.1.1.1.1.1.1.1.2))).2.1 (Kd.R_F (Kd.R_mono (ok' := (fun k_ => k_ ≠ gb177)) (HO186.out) (fun k_ hk => hk.1.1.1.1.1.1.1.1.1.1.1.1.1.1.1.1.2))))) (Reps.one (show Kd.FK (Kd.slice 36 k36) _ _ y187 [.slice Ao53 y187.length co53] from (Kd.FK_slice_mk (Kd.R_reads' (Kd.R_mono (ok' := (fun k_ => k_ ≠ gb177)) (HO189.out) (fun k_ hk => hk.1.1.1.1.1.1.1.1.1.1.1.1.1.1.1.2))).2.1 (Kd.R_F (Kd.R_mono (ok' := (fun k_ => k_ ≠ gb177)) (HO189.out) (fun k_ hk => hk.1.1.1.1.1.1.1.1.1.1.1.1.1.1.1.2))))) (Reps.one (show Kd.FK (Kd.slice 36 k36) _ _ y190 [.slice Ao54 y190.length co54] from (Kd.FK_slice_mk (Kd.R_reads' (Kd.R_mono (ok' := (fun k_ => k_ ≠ gb177)) (HO192.out) (fun k_ hk => hk.1.1.1.1.1.1.1.1.1.1.1.1.1.1.2))).2.1 (Kd.R_F (Kd.R_mono (ok' := (fun k_ => k_ ≠ gb177)) (HO192.out) (fun k_ hk => hk.1.1.1.1.1.1.1.1.1.1.1.1.1.1.2))))) (Reps.one (show Kd.FK (Kd.slice 36 k36) _ _ y193 [.slice Ao55 y193.length co55] from (Kd.FK_slice_mk (Kd.R_reads' (Kd.R_mono (ok' := (fun k_ => k_ ≠ gb177)) (HO195.out) (fun k_ hk => hk.1.1.1.1.1.1.1.1.1.1.1.1.1.2))).2.1 (Kd.R_F (Kd.R_mono (ok' := (fun k_ => k_ ≠ gb177)) (HO195.out) (fun k_ hk => hk.1.1.1.1.1.1.1.1.1.1.1.1.1.2))))) (Reps.one (show Kd.FK (Kd.slice 36 k36) _ _ y196 [.slice Ao56 y196.length co56] from (Kd.FK_slice_mk (Kd.R_reads' (Kd.R_mono (ok' := (fun k_ => k_ ≠ gb177)) (HO198.out) (fun k_ hk => hk.1.1.1.1.1.1.1.1.1.1.1.1.2))).2.1 (Kd.R_F (Kd.R_mono (ok' := (fun k_ => k_ ≠ gb177)) (HO198.out) (fun k_ hk => hk.1.1.1.1.1.1.1.1.1.1.1.1.2))))) (Reps.one (show Kd.FK (Kd.slice 36 k36) _ _ y199 [.slice Ao57 y199.length co57] from (Kd.FK_slice_mk (Kd.R_reads' (Kd.R_mono (ok' := (fun k_ => k_ ≠ gb177)) (HO201.out) (fun k_ hk => hk.1.1.1.1.1.1.1.1.1.1.1.2))).2.1 (Kd.R_F (Kd.R_mono (ok' := (fun k_ => k_ ≠ gb177)) (HO201.out) (fun k_ hk => hk.1.1.1.1.1.1.1.1.1.1.1.2))))) (Reps.one (show Kd.FK (Kd.slice 36 k36) _ _ y202 [.slice Ao58 y202.length co58] from (Kd.FK_slice_mk (Kd.R_reads' (Kd.R_mono (ok' := (fun k_ => k_ ≠ gb177)) (HO204.out) (fun k_ hk => hk.1.1.1.1.1.1.1.1.1.1.2))).2.1 (Kd.R_F (Kd.R_mono (ok' := (fun k_ => k_ ≠ gb177)) (HO204.out) (fun k_ hk => hk.1.1.1.1.1.1.1.1.1.1.2))))) (Reps.one (show Kd.FK (Kd.slice 36 k36) _ _ y205 [.slice Ao59 y205.length co59] from (Kd.FK_slice_mk (Kd.R_reads' (Kd.R_mono (ok' := (fun k_ => k_ ≠ gb177)) (HO207.out) (fun k_ hk => hk.1.1.1.1.1.1.1.1.1.2))).2.1 (Kd.R_F (Kd.R_mono (ok' := (fun k_ => k_ ≠ gb177)) (HO207.out) (fun k_ hk => hk.1.1.1.1.1.1.1.1.1.2))))) (Reps.one (show Kd.FK (Kd.slice 36 k36) _ _ y208 [.slice Ao60 y208.length co60] from (Kd.FK_slice_mk (Kd.R_reads' (Kd.R_mono (ok' := (fun k_ => k_ ≠ gb177)) (HO210.out) (fun k_ hk => hk.1.1.1.1.1.1.1.1.2))).2.1 (Kd.R_F (Kd.R_mono (ok' := (fun k_ => k_ ≠ gb177)) (HO210.out) (fun k_ hk => hk.1.1.1.1.1.1.1.1.2))))) (Reps.one (show Kd.FK (Kd.slice 36 k36) _ _ y211 [.slice Ao61 y211.length co61] from (Kd.FK_slice_mk (Kd.R_reads' (Kd.R_mono (ok' := (fun k_ => k_ ≠ gb177)) (HO213.out) (fun k_ hk => hk.1.1.1.1.1.1.1.2))).2.1 (Kd.R_F (Kd.R_mono (ok' := (fun k_ => k_ ≠ gb177)) (HO213.out) (fun k_ hk => hk.1.1.1.1.1.1.1.2))))) (Reps.one (show Kd.FK (Kd.slice 36 k36) _ _ y214 [.slice Ao62 y214.length co62] from (Kd.FK_slice_mk (Kd.R_reads' (Kd.R_mono (ok' := (fun k_ => k_ ≠ gb177)) (HO216.out) (fun k_ hk => hk.1.1.1.1.1.1.2))).2.1 (Kd.R_F (Kd.R_mono (ok' := (fun k_ => k_ ≠ gb177)) (HO216.out) (fun k_ hk => hk.1.1.1.1.1.1.2))))) (Reps.one (show Kd.FK (Kd.slice 36 k36) _ _ y217 [.slice Ao63 y217.length co63] from (Kd.FK_slice_mk (Kd.R_reads' (Kd.R_mono (ok' := (fun k_ => k_ ≠ gb177)) (HO219.out) (fun k_ hk => hk.1.1.1.1.1.2))).2.1 (Kd.R_F (Kd.R_mono (ok' := (fun k_ => k_ ≠ gb177)) (HO219.out) (fun k_ hk => hk.1.1.1.1.1.2))))) (Reps.one (show Kd.FK (Kd.slice 36 k36) _ _ y220 [.slice Ao64 y220.length co64] from (Kd.FK_slice_mk (Kd.R_reads' (Kd.R_mono (ok' := (fun k_ => k_ ≠ gb177)) (HO222.out) (fun k_ hk => hk.1.1.1.1.2))).2.1 (Kd.R_F (Kd.R_mono (ok' := (fun k_ => k_ ≠ gb177)) (HO222.out) (fun k_ hk => hk.1.1.1.1.2))))) (Reps.one (show Kd.FK (Kd.slice 36 k36) _ _ y223 [.slice Ao65 y223.length co65] from (Kd.FK_slice_mk (Kd.R_reads' (Kd.R_mono (ok' := (fun k_ => k_ ≠ gb177)) (HO225.out) (fun k_ hk => hk.1.1.1.2))).2.1 (Kd.R_F (Kd.R_mono (ok' := (fun k_ => k_ ≠ gb177)) (HO225.out) (fun k_ hk => hk.1.1.1.2))))) (Reps.one (show Kd.FK (Kd.slice 36 k36) _ _ y226 [.slice Ao66 y226.length co66] from (Kd.FK_slice_mk (Kd.R_reads' (Kd.R_mono (ok' := (fun k_ => k_ ≠ gb177)) (HO228.out) (fun k_ hk => hk.1.1.2))).2.1 (Kd.R_F (Kd.R_mono (ok' := (fun k_ => k_ ≠ gb177)) (HO228.out) (fun k_ hk => hk.1.1.2))))) (Reps.one (show Kd.FK (Kd.slice 36 k36) _ _ y229 [.slice Ao67 y229.length co67] from (Kd.FK_slice_mk (Kd.R_reads' (Kd.R_mono (ok' := (fun k_ => k_ ≠ gb177)) (HO231.out) (fun k_ hk => hk.1.2))).2.1 (Kd.R_F (Kd.R_mono (ok' := (fun k_ => k_ ≠ gb177)) (HO231.out) (fun k_ hk => hk.1.2))))) (Reps.one (show Kd.FK (Kd.slice 36 k36) _ _ y232 [.slice Ao68 y232.length co68] from (Kd.FK_slice_mk (Kd.R_reads' (Kd.R_mono (ok' := (fun k_ => k_ ≠ gb177)) (HO234.out) (fun k_ hk => hk.2))).2.1 (Kd.R_F (Kd.R_mono (ok' := (fun k_ => k_ ≠ gb177)) (HO234.out) (fun k_ hk => hk.2))))) (Reps.none _ _))))))))))))))))))))); intro v236 w69 ho70 hb hg_ hnew_; clear hg_ hnew_; (first | rw [← Ny235.out] at ho70 | (simp only [Int.reduceToNat] at ho70; rw [← Ny235.out] at ho70)); have n0_ := zM (Kd.N_lower ho70 (below_size (by repeat (first | (with_reducible first | exact HB.out | apply zC | apply zP | apply zO | refine below_set ?_ GE177.out) | exact HB.out)))); have n1_ := zM (blk_below (g := gb177) (o := .cells #[.int .u8 4, .int .i64 0, .int .i64 0, .int .i64 0, .int .i64 0] 36 (0, 0)) (by (with_reducible repeat (first | refine blk_drewN ?_ _ | refine blk_drew ?_ | refine blk_alloc ?_ _)); exact BK177.out) hb); have n2_ := zM (below_step (by repeat (first | (with_reducible first | exact HB.out | apply zC | apply zP | apply zO | refine below_set ?_ GE177.out) | exact HB.out)) hb); clear BK177; clear HB; clear HO180; clear HO183; clear HO186; clear HO189; clear HO192; clear HO195; clear HO198; clear HO201; clear HO204; clear HO207; clear HO210; clear HO213; clear HO216; clear HO219; clear HO222; clear HO225; clear HO228; clear HO231; clear HO234; have HO237 := n0_; have BK177 := n1_; have HB := n2_; clear n0_ n1_ n2_; clear hb ho70))
 go_loopg [3] k (fun kq v3 w' => ∃ (x3_1 : Int), v3 = .int .i64 x3_1 ∧ Aside0 (tNN.l0 kq y235 x3_1 4 0 0 0 0 = some true) ∧ Aside0 (kq ≤ k) ∧ Aside0 (Kd.N (Kd.slice 36 k36) 22 w' w.heap.size (fun k_ => k_ ≠ gb177) v236 y235) ∧ Aside0 (w'.heap[gb177]? = some (.cells #[.int .u8 4, .int .i64 0, .int .i64 0, .int .i64 0, .int .i64 0] 36 (0, 0))) ∧ Aside0 (Below w.heap.size w w'))
 case atStart => exact ⟨(0), (by first | rfl | (simp; done) | (simp [*]; done)), H', ⟨Nat.le_refl _⟩, ⟨by (with_reducible repeat (first | apply Kd.N_alloc | apply Kd.N_drewN | apply Kd.N_drew)); exact HO237.out⟩, ⟨by (with_reducible repeat (first | refine blk_drewN ?_ _ | refine blk_drew ?_ | refine blk_alloc ?_ _)); exact BK177.out⟩, ⟨by repeat (first | (with_reducible first | exact HB.out | apply zC | apply zP | apply zO | refine below_set ?_ GE177.out) | exact HB.out)⟩⟩
 case round =>
  clear H'
  try clear c1
  try clear p2
  try clear c5
  try clear c14
  try clear hcz21_0
  try clear hcz21_1
  try clear hcz21_2
  try clear hcz21_3
  try clear hcz21_4
  try clear hcz26_0
  try clear hcz26_1
  try clear hcz26_2
  try clear hcz26_3
  try clear hcz26_4
  try clear hcz29_0
  try clear hcz29_1
  try clear hcz29_2
  try clear hcz29_3
  try clear hcz29_4
  try clear hcz2_0
  try clear hcz2_1
  try clear hcz2_2
  try clear hcz2_3
  try clear hcz2_4
  try clear hcz32_0
  try clear hcz32_1
  try clear hcz32_2
  try clear hcz32_3
  try clear hcz32_4
  try clear hcz35_0
  try clear hcz35_1
  try clear hcz35_2
  try clear hcz35_3
  try clear hcz35_4
  try clear hcz38_0
  try clear hcz38_1
  try clear hcz38_2
  try clear hcz38_3
  try clear hcz38_4
  try clear hcz41_0
  try clear hcz41_1
  try clear hcz41_2
  try clear hcz41_3
  try clear hcz41_4
  try clear hcz44_0
  try clear hcz44_1
  try clear hcz44_2
  try clear hcz44_3
  try clear hcz44_4
  try clear hcz47_0
  try clear hcz47_1
  try clear hcz47_2
  try clear hcz47_3
  try clear hcz47_4
  try clear hfz21_0
  try clear hfz21_1
  try clear hfz21_2
  try clear hfz21_3
  try clear hfz21_4
  try clear hfz26_0
  try clear hfz26_1
  try clear hfz26_2
  try clear hfz26_3
  try clear hfz26_4
  try clear hfz29_0
  try clear hfz29_1
  try clear hfz29_2
  try clear hfz29_3
  try clear hfz29_4
  try clear hfz2_0
  try clear hfz2_1
  try clear hfz2_2
  try clear hfz2_3
  try clear hfz2_4
  try clear hfz32_0
  try clear hfz32_1
  try clear hfz32_2
  try clear hfz32_3
  try clear hfz32_4
  try clear hfz35_0
  try clear hfz35_1
  try clear hfz35_2
  try clear hfz35_3
  try clear hfz35_4
  try clear hfz38_0
  try clear hfz38_1
  try clear hfz38_2
  try clear hfz38_3
  try clear hfz38_4
  try clear hfz41_0
  try clear hfz41_1
  try clear hfz41_2
  try clear hfz41_3
  try clear hfz41_4
  try clear hfz44_0
  try clear hfz44_1
  try clear hfz44_2
  try clear hfz44_3
  try clear hfz44_4
  try clear hfz47_0
  try clear hfz47_1
  try clear hfz47_2
  try clear hfz47_3
  try clear hfz47_4
  obtain ⟨x3_1, rfl, HA, HK1, HO_2, BK177, HB⟩ := hrel
  cases gk with
  | zero => exact absurd HA.out (by simp [tNN.l0])
  | succ k1 =>
   have H := HA.out
   clear HA
   simp only [tNN.l0] at H
   by_cases c71 : x3_1 < (y235.length : Int)
   ·
    rw [if_pos c71] at H
    have c71b0 : decide (x3_1 < (y235.length : Int)) = true := decide_eq_true c71
    clear c71
    by_cases c72 : 0 ≤ x3_1
    ·
     rw [if_pos c72] at H
     have c72b0 : decide (0 ≤ x3_1) = true := decide_eq_true c72
     clear c72
     replace H := Option.bind_eq_some_iff.mp H
     obtain ⟨⟨t239, t240⟩, A730, H⟩ := H
     replace H : ((nodes_Size.f k1 (rd_L4 y235 x3_1) (-1)).bind fun bt242 => ((nodes_Part.f k1 (rd_L4 y235 x3_1) (-1)).bind fun bt245 => ((tailwaterlaw04_example.f).bind fun t250 => ((nodes_Same.f k1 (rd_L4 y235 x3_1) t250).bind fun bt253 => ((tailwaterlaw04_example.f).bind fun t255 => ((nodes_Same.f k1 t255 (rd_L4 y235 x3_1)).bind fun bt259 => ((nodes_Node.f k1 5 0 0 (([rd_L4 y235 x3_1] : List (List (S36))))).bind fun bt265 => ((nodes_Check.f k1 (rd_L4 y235 x3_1)).bind fun t270 => (if t270 = 8 then (if t240 = 8 then (if bt242.2 = 8 then (if bt245.2 = 8 then (if bt253.2 = 8 then (if bt259.2 = 8 then (if bt265.2 = 8 then (tNN.l0 k1 y235 (wrap64 (x3_1 + 1)) 4 0 0 0 0) else (some false)) else (some false)) else (some false)) else (some false)) else (some false)) else (some false)) else (some false)))))))))) = some true := H
     have A73 := zM A730
     clear A730
     replace H := Option.bind_eq_some_iff.mp H
     obtain ⟨⟨t242, t243⟩, A740, H⟩ := H
     replace H : ((nodes_Part.f k1 (rd_L4 y235 x3_1) (-1)).bind fun bt245 => ((tailwaterlaw04_example.f).bind fun t250 => ((nodes_Same.f k1 (rd_L4 y235 x3_1) t250).bind fun bt253 => ((tailwaterlaw04_example.f).bind fun t255 => ((nodes_Same.f k1 t255 (rd_L4 y235 x3_1)).bind fun bt259 => ((nodes_Node.f k1 5 0 0 (([rd_L4 y235 x3_1] : List (List (S36))))).bind fun bt265 => ((nodes_Check.f k1 (rd_L4 y235 x3_1)).bind fun t270 => (if t270 = 8 then (if t240 = 8 then (if t243 = 8 then (if bt245.2 = 8 then (if bt253.2 = 8 then (if bt259.2 = 8 then (if bt265.2 = 8 then (tNN.l0 k1 y235 (wrap64 (x3_1 + 1)) 4 0 0 0 0) else (some false)) else (some false)) else (some false)) else (some false)) else (some false)) else (some false)) else (some false))))))))) = some true := H
     have A74 := zM A740
     clear A740
     replace H := Option.bind_eq_some_iff.mp H
     obtain ⟨⟨t245, t246⟩, A750, H⟩ := H
     replace H : ((tailwaterlaw04_example.f).bind fun t250 => ((nodes_Same.f k1 (rd_L4 y235 x3_1) t250).bind fun bt253 => ((tailwaterlaw04_example.f).bind fun t255 => ((nodes_Same.f k1 t255 (rd_L4 y235 x3_1)).bind fun bt259 => ((nodes_Node.f k1 5 0 0 (([rd_L4 y235 x3_1] : List (List (S36))))).bind fun bt265 => ((nodes_Check.f k1 (rd_L4 y235 x3_1)).bind fun t270 => (if t270 = 8 then (if t240 = 8 then (if t243 = 8 then (if t246 = 8 then (if bt253.2 = 8 then (if bt259.2 = 8 then (if bt265.2 = 8 then (tNN.l0 k1 y235 (wrap64 (x3_1 + 1)) 4 0 0 0 0) else (some false)) else (some false)) else (some false)) else (some false)) else (some false)) else (some false)) else (some false)))))))) = some true := H
     have A75 := zM A750
     clear A750
     replace H := Option.bind_eq_some_iff.mp H
     obtain ⟨t250, A760, H⟩ := H
     replace H : ((nodes_Same.f k1 (rd_L4 y235 x3_1) t250).bind fun bt253 => ((tailwaterlaw04_example.f).bind fun t255 => ((nodes_Same.f k1 t255 (rd_L4 y235 x3_1)).bind fun bt259 => ((nodes_Node.f k1 5 0 0 (([rd_L4 y235 x3_1] : List (List (S36))))).bind fun bt265 => ((nodes_Check.f k1 (rd_L4 y235 x3_1)).bind fun t270 => (if t270 = 8 then (if t240 = 8 then (if t243 = 8 then (if t246 = 8 then (if bt253.2 = 8 then (if bt259.2 = 8 then (if bt265.2 = 8 then (tNN.l0 k1 y235 (wrap64 (x3_1 + 1)) 4 0 0 0 0) else (some false)) else (some false)) else (some false)) else (some false)) else (some false)) else (some false)) else (some false))))))) = some true := H
     have A76 := zM A760
     clear A760
     replace H := Option.bind_eq_some_iff.mp H
     obtain ⟨⟨t253, t254⟩, A770, H⟩ := H
     replace H : ((tailwaterlaw04_example.f).bind fun t255 => ((nodes_Same.f k1 t255 (rd_L4 y235 x3_1)).bind fun bt259 => ((nodes_Node.f k1 5 0 0 (([rd_L4 y235 x3_1] : List (List (S36))))).bind fun bt265 => ((nodes_Check.f k1 (rd_L4 y235 x3_1)).bind fun t270 => (if t270 = 8 then (if t240 = 8 then (if t243 = 8 then (if t246 = 8 then (if t254 = 8 then (if bt259.2 = 8 then (if bt265.2 = 8 then (tNN.l0 k1 y235 (wrap64 (x3_1 + 1)) 4 0 0 0 0) else (some false)) else (some false)) else (some false)) else (some false)) else (some false)) else (some false)) else (some false)))))) = some true := H
     have A77 := zM A770
     clear A770
     replace H := Option.bind_eq_some_iff.mp H
     obtain ⟨t255, A780, H⟩ := H
     replace H : ((nodes_Same.f k1 t255 (rd_L4 y235 x3_1)).bind fun bt259 => ((nodes_Node.f k1 5 0 0 (([rd_L4 y235 x3_1] : List (List (S36))))).bind fun bt265 => ((nodes_Check.f k1 (rd_L4 y235 x3_1)).bind fun t270 => (if t270 = 8 then (if t240 = 8 then (if t243 = 8 then (if t246 = 8 then (if t254 = 8 then (if bt259.2 = 8 then (if bt265.2 = 8 then (tNN.l0 k1 y235 (wrap64 (x3_1 + 1)) 4 0 0 0 0) else (some false)) else (some false)) else (some false)) else (some false)) else (some false)) else (some false)) else (some false))))) = some true := H
     have A78 := zM A780
     clear A780
     replace H := Option.bind_eq_some_iff.mp H
     obtain ⟨⟨t259, t260⟩, A790, H⟩ := H
     replace H : ((nodes_Node.f k1 5 0 0 (([rd_L4 y235 x3_1] : List (List (S36))))).bind fun bt265 => ((nodes_Check.f k1 (rd_L4 y235 x3_1)).bind fun t270 => (if t270 = 8 then (if t240 = 8 then (if t243 = 8 then (if t246 = 8 then (if t254 = 8 then (if t260 = 8 then (if bt265.2 = 8 then (tNN.l0 k1 y235 (wrap64 (x3_1 + 1)) 4 0 0 0 0) else (some false)) else (some false)) else (some false)) else (some false)) else (some false)) else (some false)) else (some false)))) = some true := H
     have A79 := zM A790
     clear A790
     obtain ⟨y262, hy262⟩ : ∃ y_ : List (List (S36)), y_ = (([rd_L4 y235 x3_1] : List (List (S36)))) := ⟨_, rfl⟩
     replace H : ((nodes_Node.f k1 5 0 0 y262).bind fun bt265 => ((nodes_Check.f k1 (rd_L4 y235 x3_1)).bind fun t270 => (if t270 = 8 then (if t240 = 8 then (if t243 = 8 then (if t246 = 8 then (if t254 = 8 then (if t260 = 8 then (if bt265.2 = 8 then (tNN.l0 k1 y235 (wrap64 (x3_1 + 1)) 4 0 0 0 0) else (some false)) else (some false)) else (some false)) else (some false)) else (some false)) else (some false)) else (some false)))) = some true := by first | (rw [hy262]; with_reducible exact H) | (have H2_ := (Option.bind_some _ _).symm.trans H; rw [hy262]; with_reducible exact H2_) | (have H2_ := (Option.bind_some _ _).symm.trans H; with_reducible exact H2_) | with_reducible exact H | (rw [hy262]; exact H) | exact H
     have Ny262 := zM hy262
     clear hy262
     replace H := Option.bind_eq_some_iff.mp H
     obtain ⟨⟨t265, t266⟩, A800, H⟩ := H
     replace H : ((nodes_Check.f k1 (rd_L4 y235 x3_1)).bind fun t270 => (if t270 = 8 then (if t240 = 8 then (if t243 = 8 then (if t246 = 8 then (if t254 = 8 then (if t260 = 8 then (if t266 = 8 then (tNN.l0 k1 y235 (wrap64 (x3_1 + 1)) 4 0 0 0 0) else (some false)) else (some false)) else (some false)) else (some false)) else (some false)) else (some false)) else (some false))) = some true := H
     have A80 := zM A800
     clear A800
     replace H := Option.bind_eq_some_iff.mp H
     obtain ⟨t270, A810, H⟩ := H
     replace H : (if t270 = 8 then (if t240 = 8 then (if t243 = 8 then (if t246 = 8 then (if t254 = 8 then (if t260 = 8 then (if t266 = 8 then (tNN.l0 k1 y235 (wrap64 (x3_1 + 1)) 4 0 0 0 0) else (some false)) else (some false)) else (some false)) else (some false)) else (some false)) else (some false)) else (some false)) = some true := H
     have A81 := zM A810
     clear A810
     by_cases c82 : t270 = 8
     ·
      rw [if_pos c82] at H
      have c82b0 : (t270 == 8) = true := beq_iff_eq.mpr c82
      have c82b1 : (t270 != 8) = false := bne_eq_false_iff_eq.mpr c82
      clear c82
      by_cases c83 : t240 = 8
      ·
       rw [if_pos c83] at H
       have c83b0 : (t240 == 8) = true := beq_iff_eq.mpr c83
       have c83b1 : (t240 != 8) = false := bne_eq_false_iff_eq.mpr c83
       clear c83
       by_cases c84 : t243 = 8
       ·
        rw [if_pos c84] at H
        have c84b0 : (t243 == 8) = true := beq_iff_eq.mpr c84
        have c84b1 : (t243 != 8) = false := bne_eq_false_iff_eq.mpr c84
        clear c84
        by_cases c85 : t246 = 8
        ·
         rw [if_pos c85] at H
         have c85b0 : (t246 == 8) = true := beq_iff_eq.mpr c85
         have c85b1 : (t246 != 8) = false := bne_eq_false_iff_eq.mpr c85
         clear c85
         by_cases c86 : t254 = 8
         ·
          rw [if_pos c86] at H
          have c86b0 : (t254 == 8) = true := beq_iff_eq.mpr c86
          have c86b1 : (t254 != 8) = false := bne_eq_false_iff_eq.mpr c86
          clear c86
          by_cases c87 : t260 = 8
          ·
           rw [if_pos c87] at H
           have c87b0 : (t260 == 8) = true := beq_iff_eq.mpr c87
           have c87b1 : (t260 != 8) = false := bne_eq_false_iff_eq.mpr c87
           clear c87
           by_cases c88 : t266 = 8
           ·
            rw [if_pos c88] at H
            have c88b0 : (t266 == 8) = true := beq_iff_eq.mpr c88
            have c88b1 : (t266 != 8) = false := bne_eq_false_iff_eq.mpr c88
            clear c88
            have H' := zM H
            clear H
            obtain ⟨Ao89, co89, eo89⟩ := Kd.N_slice HO_2.out
            subst eo89
            have p238 : 0 ≤ (x3_1 : Int) := of_decide_eq_true (by first | (with_reducible assumption) | assumption)
            have q238 : x3_1 < (y235.length : Int) := of_decide_eq_true (by first | (with_reducible assumption) | assumption)
            obtain ⟨ad238, A238_0, c238_0, e238, hx238_0, hl238_0, hi238_0⟩ := at_L4 (Kd.N_reads' HO_2.out).2.2 x3_1 p238 q238
            cases e238
            obtain ⟨ce238, hce238, hMe238, hcc238⟩ := Kd.N_get HO_2.out [] x3_1 p238 (by first | exact q238 | exact of_decide_eq_true (by first | (with_reducible assumption) | assumption) | (have e_ := (Kd.N_reads' HO_2.out).1; omega))
            obtain ⟨ua238_0, uc238_0, rfl, ul238_0, ge238_0⟩ := Kd.FK_slice_open hMe238
            have hv238_0 := hcc238 0 _ rfl
            rw [Nat.add_zero, show ((Kd.slice 36 k36)).sz = 1 from rfl, Nat.mul_one] at hv238_0
            replace hv238_0 := Option.some.inj (hv238_0.symm.trans hx238_0)
            injection hv238_0 with hva_ hvn_ hvc_
            rw [hva_] at ge238_0
            rw [hvc_] at ul238_0
            have HL238_0 := zM (show Kd.V k36 36 _ w.heap.size _ _ (rd_L4 y235 x3_1) from Kd.V_mk ul238_0 ge238_0)
            clear hva_ hvn_ hvc_ ge238_0 ul238_0
            clear hcc238 hce238
            have HR238_0 := zM hi238_0
            have HC238_0 := zM hl238_0
            clear hi238_0 hl238_0
            replace p238 := eq_true p238
            replace q238 := eq_true q238
            try go_wp2_with (first | ((with_reducible refine gate_callee (f := 38) rfl ?_); refine goesL_ (some 98) rfl rfl Try.func38 (by kernel_rfl) rfl #[.slice A238_0 (rd_L4 y235 x3_1).length c238_0] rfl (by (try simp only [List.map_toArray, List.map_cons, List.map_nil]); first | done | rfl | (simp only [List.length_drop, List.length_take]; rfl)) ?_; (with_reducible refine (nodes_Depth.calls k1 _ _ (rd_L4 y235 x3_1) t239 t240 _ ?side1 ?side2 A73.out).mono ?_); (case side1 => repeat (first | exact (by repeat (first | (with_reducible exact HR238_0.out) | (with_reducible refine zCA ?_ _) | (with_reducible refine zCN ?_ _) | (with_reducible refine zCD ?_) | exact HR238_0.out)) | (with_reducible refine zCA ?_ _) | (with_reducible refine zCN ?_ _) | (with_reducible refine zCD ?_))); (case side2 => exact HC238_0.out); rintro e w90 ⟨rfl, hb⟩; refine ⟨_, rfl, ?_⟩; have n0_ := zM (Kd.N_below (by (with_reducible repeat (first | apply Kd.N_alloc | apply Kd.N_drewN | apply Kd.N_drew)); exact HO_2.out) hb); have n1_ := zM (Kd.V_below (by (with_reducible repeat (first | apply Kd.V_alloc | apply Kd.V_drewN | apply Kd.V_drew)); exact HL238_0.out) hb); have n2_ := zM (blk_below (g := gb177) (o := .cells #[.int .u8 4, .int .i64 0, .int .i64 0, .int .i64 0, .int .i64 0] 36 (0, 0)) (by (with_reducible repeat (first | refine blk_drewN ?_ _ | refine blk_drew ?_ | refine blk_alloc ?_ _)); exact BK177.out) hb); have n3_ := zM (zCB (by repeat (first | (with_reducible exact HR238_0.out) | (with_reducible refine zCA ?_ _) | (with_reducible refine zCN ?_ _) | (with_reducible refine zCD ?_) | exact HR238_0.out)) hb); have n4_ := zM (below_step (by repeat (first | (with_reducible first | exact HB.out | apply zC | apply zP | apply zO | refine below_set ?_ GE177.out) | exact HB.out)) hb); clear HO_2; clear HL238_0; clear BK177; clear HR238_0; clear HB; have HO_2 := n0_; have HL238_0 := n1_; have BK177 := n2_; have HR238_0 := n3_; have HB := n4_; clear n0_ n1_ n2_ n3_ n4_; (try clear hb); (try clear hb2); (try clear hk); (try clear hi); have p241 : 0 ≤ (x3_1 : Int) := of_decide_eq_true (by first | (with_reducible assumption) | assumption); have q241 : x3_1 < (y235.length : Int) := of_decide_eq_true (by first | (with_reducible assumption) | assumption); obtain ⟨ad241, A241_0, c241_0, e241, hx241_0, hl241_0, hi241_0⟩ := at_L4 (Kd.N_reads' HO_2.out).2.2 x3_1 p241 q241; obtain rfl : ad238 = ad241 := (by injection e241); obtain ⟨ce241, hce241, hMe241, hcc241⟩ := Kd.N_get HO_2.out [] x3_1 p241 (by first | exact q241 | exact of_decide_eq_true (by first | (with_reducible assumption) | assumption) | (have e_ := (Kd.N_reads' HO_2.out).1; omega)); obtain ⟨ua241_0, uc241_0, rfl, ul241_0, ge241_0⟩ := Kd.FK_slice_open hMe241; have hv241_0 := hcc241 0 _ rfl; rw [Nat.add_zero, show ((Kd.slice 36 k36)).sz = 1 from rfl, Nat.mul_one] at hv241_0; replace hv241_0 := Option.some.inj (hv241_0.symm.trans hx241_0); injection hv241_0 with hva_ hvn_ hvc_; rw [hva_] at ge241_0; rw [hvc_] at ul241_0; have HL241_0 := zM (show Kd.V k36 36 _ w.heap.size _ _ (rd_L4 y235 x3_1) from Kd.V_mk ul241_0 ge241_0); clear hva_ hvn_ hvc_ ge241_0 ul241_0; clear hcc241 hce241; have HR241_0 := zM hi241_0; have HC241_0 := zM hl241_0; clear hi241_0 hl241_0; replace p241 := eq_true p241; replace q241 := eq_true q241) | ((with_reducible refine gate_callee (f := 36) rfl ?_); refine goesL_ (some 106) rfl rfl Try.func36 (by kernel_rfl) rfl #[.slice A241_0 (rd_L4 y235 x3_1).length c241_0, .int .i64 (-1)] rfl (by (try simp only [List.map_toArray, List.map_cons, List.map_nil]); first | done | rfl | (simp only [List.length_drop, List.length_take]; rfl)) ?_; (with_reducible refine (nodes_Size.calls k1 _ _ (rd_L4 y235 x3_1) (-1) t242 t243 _ ?side1 ?side2 A74.out).mono ?_); (case side1 => repeat (first | exact (by repeat (first | (with_reducible exact HR241_0.out) | (with_reducible refine zCA ?_ _) | (with_reducible refine zCN ?_ _) | (with_reducible refine zCD ?_) | exact HR241_0.out)) | (with_reducible refine zCA ?_ _) | (with_reducible refine zCN ?_ _) | (with_reducible refine zCD ?_))); (case side2 => exact HC241_0.out); rintro e w91 ⟨rfl, hb⟩; refine ⟨_, rfl, ?_⟩; have n0_ := zM (Kd.N_below (by (with_reducible repeat (first | apply Kd.N_alloc | apply Kd.N_drewN | apply Kd.N_drew)); exact HO_2.out) hb); have n1_ := zM (Kd.V_below (by (with_reducible repeat (first | apply Kd.V_alloc | apply Kd.V_drewN | apply Kd.V_drew)); exact HL238_0.out) hb); have n2_ := zM (Kd.V_below (by (with_reducible repeat (first | apply Kd.V_alloc | apply Kd.V_drewN | apply Kd.V_drew)); exact HL241_0.out) hb); have n3_ := zM (blk_below (g := gb177) (o := .cells #[.int .u8 4, .int .i64 0, .int .i64 0, .int .i64 0, .int .i64 0] 36 (0, 0)) (by (with_reducible repeat (first | refine blk_drewN ?_ _ | refine blk_drew ?_ | refine blk_alloc ?_ _)); exact BK177.out) hb); have n4_ := zM (zCB (by repeat (first | (with_reducible exact HR238_0.out) | (with_reducible refine zCA ?_ _) | (with_reducible refine zCN ?_ _) | (with_reducible refine zCD ?_) | exact HR238_0.out)) hb); have n5_ := zM (zCB (by repeat (first | (with_reducible exact HR241_0.out) | (with_reducible refine zCA ?_ _) | (with_reducible refine zCN ?_ _) | (with_reducible refine zCD ?_) | exact HR241_0.out)) hb); have n6_ := zM (below_step (by repeat (first | (with_reducible first | exact HB.out | apply zC | apply zP | apply zO | refine below_set ?_ GE177.out) | exact HB.out)) hb); clear HO_2; clear HL238_0; clear HL241_0; clear BK177; clear HR238_0; clear HR241_0; clear HB; have HO_2 := n0_; have HL238_0 := n1_; have HL241_0 := n2_; have BK177 := n3_; have HR238_0 := n4_; have HR241_0 := n5_; have HB := n6_; clear n0_ n1_ n2_ n3_ n4_ n5_ n6_; (try clear hb); (try clear hb2); (try clear hk); (try clear hi); have p244 : 0 ≤ (x3_1 : Int) := of_decide_eq_true (by first | (with_reducible assumption) | assumption); have q244 : x3_1 < (y235.length : Int) := of_decide_eq_true (by first | (with_reducible assumption) | assumption); obtain ⟨ad244, A244_0, c244_0, e244, hx244_0, hl244_0, hi244_0⟩ := at_L4 (Kd.N_reads' HO_2.out).2.2 x3_1 p244 q244; obtain rfl : ad238 = ad244 := (by injection e244); obtain ⟨ce244, hce244, hMe244, hcc244⟩ := Kd.N_get HO_2.out [] x3_1 p244 (by first | exact q244 | exact of_decide_eq_true (by first | (with_reducible assumption) | assumption) | (have e_ := (Kd.N_reads' HO_2.out).1; omega)); obtain ⟨ua244_0, uc244_0, rfl, ul244_0, ge244_0⟩ := Kd.FK_slice_open hMe244; have hv244_0 := hcc244 0 _ rfl; rw [Nat.add_zero, show ((Kd.slice 36 k36)).sz = 1 from rfl, Nat.mul_one] at hv244_0; replace hv244_0 := Option.some.inj (hv244_0.symm.trans hx244_0); injection hv244_0 with hva_ hvn_ hvc_; rw [hva_] at ge244_0; rw [hvc_] at ul244_0; have HL244_0 := zM (show Kd.V k36 36 _ w.heap.size _ _ (rd_L4 y235 x3_1) from Kd.V_mk ul244_0 ge244_0); clear hva_ hvn_ hvc_ ge244_0 ul244_0; clear hcc244 hce244; have HR244_0 := zM hi244_0; have HC244_0 := zM hl244_0; clear hi244_0 hl244_0; replace p244 := eq_true p244; replace q244 := eq_true q244) | ((with_reducible refine gate_callee (f := 39) rfl ?_); refine goesL_ (some 114) rfl rfl Try.func39 (by kernel_rfl) rfl #[.slice A244_0 (rd_L4 y235 x3_1).length c244_0, .int .i64 (-1)] rfl (by (try simp only [List.map_toArray, List.map_cons, List.map_nil]); first | done | rfl | (simp only [List.length_drop, List.length_take]; rfl)) ?_; (with_reducible refine (nodes_Part.calls k1 _ _ (rd_L4 y235 x3_1) (-1) t245 t246 _ ?side1 ?side2 A75.out).mono ?_); (case side1 => repeat (first | exact (by repeat (first | (with_reducible exact HR244_0.out) | (with_reducible refine zCA ?_ _) | (with_reducible refine zCN ?_ _) | (with_reducible refine zCD ?_) | exact HR244_0.out)) | (with_reducible refine zCA ?_ _) | (with_reducible refine zCN ?_ _) | (with_reducible refine zCD ?_))); (case side2 => exact HC244_0.out); rintro e w92 ⟨v247, rfl, ho0, hb⟩; refine ⟨_, rfl, ?_⟩; have n0_ := zM (Kd.N_elder' (by (with_reducible repeat (first | apply Kd.N_alloc | apply Kd.N_drewN | apply Kd.N_drew)); exact HO_2.out) (zB ho0) hb); have n1_ := zM (Kd.V_elder' (by (with_reducible repeat (first | apply Kd.V_alloc | apply Kd.V_drewN | apply Kd.V_drew)); exact HL238_0.out) (zB ho0) hb); have n2_ := zM (Kd.V_elder' (by (with_reducible repeat (first | apply Kd.V_alloc | apply Kd.V_drewN | apply Kd.V_drew)); exact HL241_0.out) (zB ho0) hb); have n3_ := zM (Kd.V_elder' (by (with_reducible repeat (first | apply Kd.V_alloc | apply Kd.V_drewN | apply Kd.V_drew)); exact HL244_0.out) (zB ho0) hb); have n4_ := zM (Kd.R_lower (Kd.R_newB ho0 (g := gb177) (o := .cells #[.int .u8 4, .int .i64 0, .int .i64 0, .int .i64 0, .int .i64 0] 36 (0, 0)) (by (with_reducible repeat (first | refine blk_drewN ?_ _ | refine blk_drew ?_ | refine blk_alloc ?_ _)); exact BK177.out)) (below_size (by repeat (first | (with_reducible first | exact HB.out | apply zC | apply zP | apply zO | refine below_set ?_ GE177.out) | exact HB.out)))); have n5_ := zM (blk_below (g := gb177) (o := .cells #[.int .u8 4, .int .i64 0, .int .i64 0, .int .i64 0, .int .i64 0] 36 (0, 0)) (by (with_reducible repeat (first | refine blk_drewN ?_ _ | refine blk_drew ?_ | refine blk_alloc ?_ _)); exact BK177.out) hb); have n6_ := zM (zCB (by repeat (first | (with_reducible exact HR238_0.out) | (with_reducible refine zCA ?_ _) | (with_reducible refine zCN ?_ _) | (with_reducible refine zCD ?_) | exact HR238_0.out)) hb); have n7_ := zM (zCB (by repeat (first | (with_reducible exact HR241_0.out) | (with_reducible refine zCA ?_ _) | (with_reducible refine zCN ?_ _) | (with_reducible refine zCD ?_) | exact HR241_0.out)) hb); have n8_ := zM (zCB (by repeat (first | (with_reducible exact HR244_0.out) | (with_reducible refine zCA ?_ _) | (with_reducible refine zCN ?_ _) | (with_reducible refine zCD ?_) | exact HR244_0.out)) hb); have n9_ := zM (below_step (by repeat (first | (with_reducible first | exact HB.out | apply zC | apply zP | apply zO | refine below_set ?_ GE177.out) | exact HB.out)) hb); clear HO_2; clear HL238_0; clear HL241_0; clear HL244_0; clear BK177; clear HR238_0; clear HR241_0; clear HR244_0; clear HB; have HO_2 := n0_; have HL238_0 := n1_; have HL241_0 := n2_; have HL244_0 := n3_; have HO248 := n4_; have BK177 := n5_; have HR238_0 := n6_; have HR241_0 := n7_; have HR244_0 := n8_; have HB := n9_; clear n0_ n1_ n2_ n3_ n4_ n5_ n6_ n7_ n8_ n9_; (try clear hb); (try clear hb2); (try clear hk); (try clear hi); (try clear ho0)))
            have n0_ := zM (Kd.N_drew HO_2.out)
            have n1_ := zM (Kd.V_drew HL238_0.out)
            have n2_ := zM (Kd.V_drew HL241_0.out)
            have n3_ := zM (Kd.V_drew HL244_0.out)
            have n4_ := zM (zD HO248.out)
            have n5_ := zM (blk_drew BK177.out)
            have n6_ := zM (zCD HR238_0.out)
            have n7_ := zM (zCD HR241_0.out)
            have n8_ := zM (zCD HR244_0.out)
            have n9_ := zM (zO HB.out)
            clear HO_2
            clear HL238_0
            clear HL241_0
            clear HL244_0
            clear HO248
            clear BK177
            clear HR238_0
            clear HR241_0
            clear HR244_0
            clear HB
            have HO_2 := n0_
            have HL238_0 := n1_
            have HL241_0 := n2_
            have HL244_0 := n3_
            have HO248 := n4_
            have BK177 := n5_
            have HR238_0 := n6_
            have HR241_0 := n7_
            have HR244_0 := n8_
            have HB := n9_
            clear n0_ n1_ n2_ n3_ n4_ n5_ n6_ n7_ n8_ n9_
            have p249 : 0 ≤ (x3_1 : Int) := of_decide_eq_true (by first | (with_reducible assumption) | assumption)
            have q249 : x3_1 < (y235.length : Int) := of_decide_eq_true (by first | (with_reducible assumption) | assumption)
            obtain ⟨ad249, A249_0, c249_0, e249, hx249_0, hl249_0, hi249_0⟩ := at_L4 (Kd.N_reads' HO_2.out).2.2 x3_1 p249 q249
            obtain rfl : ad238 = ad249 := (by injection e249)
            obtain ⟨ce249, hce249, hMe249, hcc249⟩ := Kd.N_get HO_2.out [] x3_1 p249 (by first | exact q249 | exact of_decide_eq_true (by first | (with_reducible assumption) | assumption) | (have e_ := (Kd.N_reads' HO_2.out).1; omega))
            obtain ⟨ua249_0, uc249_0, rfl, ul249_0, ge249_0⟩ := Kd.FK_slice_open hMe249
            have hv249_0 := hcc249 0 _ rfl
            rw [Nat.add_zero, show ((Kd.slice 36 k36)).sz = 1 from rfl, Nat.mul_one] at hv249_0
            replace hv249_0 := Option.some.inj (hv249_0.symm.trans hx249_0)
            injection hv249_0 with hva_ hvn_ hvc_
            rw [hva_] at ge249_0
            rw [hvc_] at ul249_0
            have HL249_0 := zM (show Kd.V k36 36 _ w.heap.size _ _ (rd_L4 y235 x3_1) from Kd.V_mk ul249_0 ge249_0)
            clear hva_ hvn_ hvc_ ge249_0 ul249_0
            clear hcc249 hce249
            have HR249_0 := zM hi249_0
            have HC249_0 := zM hl249_0
            clear hi249_0 hl249_0
            replace p249 := eq_true p249
            replace q249 := eq_true q249
            refine start_ (n := 11) (S := fun w' => w'.cell? (ad238.add (x3_1).toNat) = some (.slice A249_0 (rd_L4 y235 x3_1).length c249_0)) (ds := []) #[false, false, false, false, false, false, false, false, false, false, false] (by kernel_rfl) rfl rfl (hx249_0) (fun hHeld => ?_); refine with_tabW tNN.tab9 tNN.bits9 (fun HT_ HW_ => ?_)
            generalize w92.drew = w93 at HO_2 HL238_0 HL241_0 HL244_0 HO248 BK177 HR238_0 HR241_0 HR244_0 HB HL249_0 HR249_0 hx249_0 hHeld ⊢
            refine pure_ (i := 0) (N := some 118) (v := ?_) (a' := ?_) #[true, false, false, false, false, false, false, false, false, false, false] rfl rfl (any_of HT_.out (by kernel_rfl)) (fun _ _ _ h => h) (Or.inl ⟨by rfl, ?_⟩) ?_ ?_
            rotate_left
            ·
             intro w'
             go_simp
             with_reducible rfl
            rotate_left
            ·
             simp only [Act.put, List.setIfInBounds_toArray, List.set_cons_zero, List.set_cons_succ, i64_w, i32_w]
             rfl
            refine pure_ (i := 1) (N := some 119) (v := ?_) (a' := ?_) #[true, true, false, false, false, false, false, false, false, false, false] rfl rfl (any_of HT_.out (by kernel_rfl)) (fun _ _ _ h => h) (Or.inl ⟨by rfl, ?_⟩) ?_ ?_
            rotate_left
            ·
             intro w'
             go_simp
             with_reducible rfl
            rotate_left
            ·
             simp only [Act.put, List.setIfInBounds_toArray, List.set_cons_zero, List.set_cons_succ, i64_w, i32_w]
             rfl
            refine pure_ (i := 2) (N := some 120) (v := ?_) (a' := ?_) #[true, true, true, false, false, false, false, false, false, false, false] rfl rfl (any_of HT_.out (by kernel_rfl)) (fun _ _ _ h => h) (Or.inl ⟨by rfl, ?_⟩) ?_ ?_
            rotate_left
            ·
             intro w'
             go_simp
             with_reducible rfl
            rotate_left
            ·
             simp only [Act.put, List.setIfInBounds_toArray, List.set_cons_zero, List.set_cons_succ, i64_w, i32_w]
             rfl
            refine take_ (i := 3) (N := some 121) (v := ?_) (a' := ?_) #[true, true, true, true, false, false, false, false, false, false, false] rfl rfl (take_ofW HT_.out HW_.out (by kernel_rfl)) (fun _ _ _ h => h) (Or.inl ⟨by rfl, ?_⟩) hHeld ?_ ?_
            rotate_left
            ·
             intro w' s0
             go_simp
             with_reducible rfl
            rotate_left
            ·
             simp only [Act.put, List.setIfInBounds_toArray, List.set_cons_zero, List.set_cons_succ, i64_w, i32_w]
             rfl
            refine one_ (i := 4) (N := some 122) #[true, true, true, true, true, false, false, false, false, false, false] rfl rfl (one_of HT_.out (by kernel_rfl)) (by decide) (fun K hK => ?_)
            refine goes_ Try.func48 (by kernel_rfl) rfl #[] (by rfl) rfl rfl (by (try simp only [List.map_toArray, List.map_cons, List.map_nil]); first | done | rfl | (simp only [List.length_drop, List.length_take]; rfl)) ?_
            with_reducible refine (tailwaterlaw04_example.calls  t250 _ A76.out).mono ?_
            rintro e w94 ⟨v251, rfl, ho0, hb⟩
            have HS0_ := (hb.cell (World.block_lt_of_cell? _ _ (hHeld))).trans (hHeld)
            refine ⟨_, rfl, ?_⟩
            have n0_ := zM (Kd.N_elder' (by (with_reducible repeat (first | apply Kd.N_alloc | apply Kd.N_drewN | apply Kd.N_drew)); exact HO_2.out) (zB ho0) hb)
            have n1_ := zM (Kd.V_elder' (by (with_reducible repeat (first | apply Kd.V_alloc | apply Kd.V_drewN | apply Kd.V_drew)); exact HL238_0.out) (zB ho0) hb)
            have n2_ := zM (Kd.V_elder' (by (with_reducible repeat (first | apply Kd.V_alloc | apply Kd.V_drewN | apply Kd.V_drew)); exact HL241_0.out) (zB ho0) hb)
            have n3_ := zM (Kd.V_elder' (by (with_reducible repeat (first | apply Kd.V_alloc | apply Kd.V_drewN | apply Kd.V_drew)); exact HL244_0.out) (zB ho0) hb)
            have n4_ := zM (zE (by (with_reducible repeat (first | apply zA | apply zN | apply zD)); exact HO248.out) (zB ho0) hb)
            have n5_ := zM (Kd.V_elder' (by (with_reducible repeat (first | apply Kd.V_alloc | apply Kd.V_drewN | apply Kd.V_drew)); exact HL249_0.out) (zB ho0) hb)
            have n6_ := zM (Kd.R_lower (Kd.R_newB (zW ho0 (zL (by (with_reducible repeat (first | apply zA | apply zN | apply zD)); exact HO248.out))) (g := gb177) (o := .cells #[.int .u8 4, .int .i64 0, .int .i64 0, .int .i64 0, .int .i64 0] 36 (0, 0)) (by (with_reducible repeat (first | refine blk_drewN ?_ _ | refine blk_drew ?_ | refine blk_alloc ?_ _)); exact BK177.out)) (below_size (by repeat (first | (with_reducible first | exact HB.out | apply zC | apply zP | apply zO | refine below_set ?_ GE177.out) | exact HB.out))))
            have n7_ := zM (blk_below (g := gb177) (o := .cells #[.int .u8 4, .int .i64 0, .int .i64 0, .int .i64 0, .int .i64 0] 36 (0, 0)) (by (with_reducible repeat (first | refine blk_drewN ?_ _ | refine blk_drew ?_ | refine blk_alloc ?_ _)); exact BK177.out) hb)
            have n8_ := zM (zCB (by repeat (first | (with_reducible exact HR238_0.out) | (with_reducible refine zCA ?_ _) | (with_reducible refine zCN ?_ _) | (with_reducible refine zCD ?_) | exact HR238_0.out)) hb)
            have n9_ := zM (zCB (by repeat (first | (with_reducible exact HR241_0.out) | (with_reducible refine zCA ?_ _) | (with_reducible refine zCN ?_ _) | (with_reducible refine zCD ?_) | exact HR241_0.out)) hb)
            have n10_ := zM (zCB (by repeat (first | (with_reducible exact HR244_0.out) | (with_reducible refine zCA ?_ _) | (with_reducible refine zCN ?_ _) | (with_reducible refine zCD ?_) | exact HR244_0.out)) hb)
            have n11_ := zM (zCB (by repeat (first | (with_reducible exact HR249_0.out) | (with_reducible refine zCA ?_ _) | (with_reducible refine zCN ?_ _) | (with_reducible refine zCD ?_) | exact HR249_0.out)) hb)
            have n12_ := zM (below_step (by repeat (first | (with_reducible first | exact HB.out | apply zC | apply zP | apply zO | refine below_set ?_ GE177.out) | exact HB.out)) hb)
            clear HO_2
            clear HL238_0
            clear HL241_0
            clear HL244_0
            clear HO248
            clear HL249_0
            clear BK177
            clear HR238_0
            clear HR241_0
            clear HR244_0
            clear HR249_0
            clear HB
            have HO_2 := n0_
            have HL238_0 := n1_
            have HL241_0 := n2_
            have HL244_0 := n3_
            have HO248 := n4_
            have HL249_0 := n5_
            have HO252 := n6_
            have BK177 := n7_
            have HR238_0 := n8_
            have HR241_0 := n9_
            have HR244_0 := n10_
            have HR249_0 := n11_
            have HB := n12_
            clear n0_ n1_ n2_ n3_ n4_ n5_ n6_ n7_ n8_ n9_ n10_ n11_ n12_
            (try clear hb)
            (try clear hb2)
            (try clear hk)
            (try clear hi)
            (try clear ho0)
            obtain ⟨Ao95, co95, eo95⟩ := Kd.R_slice HO252.out
            (first | subst eo95 | (injection eo95 with f1_ f2_ f3_; have f4_ := f1_.symm; have f5_ := f3_.symm; clear f1_ f2_ f3_; subst f4_; subst f5_))
            refine hK.out _ _ (HS0_) (fun hHeld => ?_)
            clear hK K
            refine norm_ (a' := ?_) ?_ ?_
            rotate_left
            ·
             show Act.put _ (some 122) _ = _
             simp only [Act.put, List.setIfInBounds_toArray, List.set_cons_zero, List.set_cons_succ, i64_w, i32_w]
             rfl
            refine one_ (i := 5) (N := some 123) #[true, true, true, true, true, true, false, false, false, false, false] rfl rfl (one_of HT_.out (by kernel_rfl)) (by decide) (fun K hK => ?_)
            refine goes_ Try.func47 (by kernel_rfl) rfl #[.slice A249_0 (rd_L4 y235 x3_1).length c249_0, .slice Ao95 t250.length co95] (by rfl) rfl rfl (by (try simp only [List.map_toArray, List.map_cons, List.map_nil]); first | done | rfl | (simp only [List.length_drop, List.length_take]; rfl)) ?_
            with_reducible refine (nodes_Same.calls k1 _ _ (rd_L4 y235 x3_1) _ _ t250 t253 t254 _ ?side1 ?side2 ?side3 ?side4 A77.out).mono ?_
            (case side1 => repeat (first | exact (by repeat (first | (with_reducible exact HR249_0.out) | (with_reducible refine zCA ?_ _) | (with_reducible refine zCN ?_ _) | (with_reducible refine zCD ?_) | exact HR249_0.out)) | (with_reducible refine zCA ?_ _) | (with_reducible refine zCN ?_ _) | (with_reducible refine zCD ?_)))
            (case side2 => exact HC249_0.out)
            (case side3 => repeat (first | exact (Kd.R_reads' HO252.out).2.2 | (with_reducible refine zCA ?_ _) | (with_reducible refine zCN ?_ _) | (with_reducible refine zCD ?_)))
            (case side4 => exact (Kd.R_reads' HO252.out).2.1)
            rintro e w96 ⟨rfl, hb⟩
            have HS0_ := (hb.cell (World.block_lt_of_cell? _ _ (hHeld))).trans (hHeld)
            refine ⟨_, rfl, ?_⟩
            have n0_ := zM (Kd.N_below (by (with_reducible repeat (first | apply Kd.N_alloc | apply Kd.N_drewN | apply Kd.N_drew)); exact HO_2.out) hb)
            have n1_ := zM (Kd.V_below (by (with_reducible repeat (first | apply Kd.V_alloc | apply Kd.V_drewN | apply Kd.V_drew)); exact HL238_0.out) hb)
            have n2_ := zM (Kd.V_below (by (with_reducible repeat (first | apply Kd.V_alloc | apply Kd.V_drewN | apply Kd.V_drew)); exact HL241_0.out) hb)
            have n3_ := zM (Kd.V_below (by (with_reducible repeat (first | apply Kd.V_alloc | apply Kd.V_drewN | apply Kd.V_drew)); exact HL244_0.out) hb)
            have n4_ := zM (Kd.R_below (by (with_reducible repeat (first | apply zA | apply zN | apply zD)); exact HO248.out) hb)
            have n5_ := zM (Kd.V_below (by (with_reducible repeat (first | apply Kd.V_alloc | apply Kd.V_drewN | apply Kd.V_drew)); exact HL249_0.out) hb)
            have n6_ := zM (Kd.R_below (by (with_reducible repeat (first | apply zA | apply zN | apply zD)); exact HO252.out) hb)
            have n7_ := zM (blk_below (g := gb177) (o := .cells #[.int .u8 4, .int .i64 0, .int .i64 0, .int .i64 0, .int .i64 0] 36 (0, 0)) (by (with_reducible repeat (first | refine blk_drewN ?_ _ | refine blk_drew ?_ | refine blk_alloc ?_ _)); exact BK177.out) hb)
            have n8_ := zM (zCB (by repeat (first | (with_reducible exact HR238_0.out) | (with_reducible refine zCA ?_ _) | (with_reducible refine zCN ?_ _) | (with_reducible refine zCD ?_) | exact HR238_0.out)) hb)
            have n9_ := zM (zCB (by repeat (first | (with_reducible exact HR241_0.out) | (with_reducible refine zCA ?_ _) | (with_reducible refine zCN ?_ _) | (with_reducible refine zCD ?_) | exact HR241_0.out)) hb)
            have n10_ := zM (zCB (by repeat (first | (with_reducible exact HR244_0.out) | (with_reducible refine zCA ?_ _) | (with_reducible refine zCN ?_ _) | (with_reducible refine zCD ?_) | exact HR244_0.out)) hb)
            have n11_ := zM (zCB (by repeat (first | (with_reducible exact HR249_0.out) | (with_reducible refine zCA ?_ _) | (with_reducible refine zCN ?_ _) | (with_reducible refine zCD ?_) | exact HR249_0.out)) hb)
            have n12_ := zM (below_step (by repeat (first | (with_reducible first | exact HB.out | apply zC | apply zP | apply zO | refine below_set ?_ GE177.out) | exact HB.out)) hb)
            clear HO_2
            clear HL238_0
            clear HL241_0
            clear HL244_0
            clear HO248
            clear HL249_0
            clear HO252
            clear BK177
            clear HR238_0
            clear HR241_0
            clear HR244_0
            clear HR249_0
            clear HB
            have HO_2 := n0_
            have HL238_0 := n1_
            have HL241_0 := n2_
            have HL244_0 := n3_
            have HO248 := n4_
            have HL249_0 := n5_
            have HO252 := n6_
            have BK177 := n7_
            have HR238_0 := n8_
            have HR241_0 := n9_
            have HR244_0 := n10_
            have HR249_0 := n11_
            have HB := n12_
            clear n0_ n1_ n2_ n3_ n4_ n5_ n6_ n7_ n8_ n9_ n10_ n11_ n12_
            (try clear hb)
            (try clear hb2)
            (try clear hk)
            (try clear hi)
            refine hK.out _ _ (HS0_) (fun hHeld => ?_)
            clear hK K
            refine norm_ (a' := ?_) ?_ ?_
            rotate_left
            ·
             show Act.put _ (some 123) _ = _
             simp only [Act.put, List.setIfInBounds_toArray, List.set_cons_zero, List.set_cons_succ, i64_w, i32_w]
             rfl
            refine pure_ (i := 6) (N := some 117) (v := ?_) (a' := ?_) #[true, true, true, true, true, true, true, false, false, false, false] rfl rfl (any_of HT_.out (by kernel_rfl)) (fun _ _ _ h => h) (Or.inl ⟨by rfl, ?_⟩) ?_ ?_
            rotate_left
            ·
             intro w'
             go_simp
             with_reducible rfl
            rotate_left
            ·
             simp only [Act.put, List.setIfInBounds_toArray, List.set_cons_zero, List.set_cons_succ, i64_w, i32_w]
             rfl
            refine pure_ (i := 7) (N := some 124) (v := ?_) (a' := ?_) #[true, true, true, true, true, true, true, true, false, false, false] rfl rfl (any_of HT_.out (by kernel_rfl)) (fun _ _ _ h => h) (Or.inl ⟨by rfl, ?_⟩) ?_ ?_
            rotate_left
            ·
             intro w'
             go_simp
             with_reducible rfl
            rotate_left
            ·
             simp only [Act.put, List.setIfInBounds_toArray, List.set_cons_zero, List.set_cons_succ, i64_w, i32_w]
             rfl
            refine pure_ (i := 8) (N := some 125) (v := ?_) (a' := ?_) #[true, true, true, true, true, true, true, true, true, false, false] rfl rfl (any_of HT_.out (by kernel_rfl)) (fun _ _ _ h => h) (Or.inl ⟨by rfl, ?_⟩) ?_ ?_
            rotate_left
            ·
             intro w'
             go_simp
             with_reducible rfl
            rotate_left
            ·
             simp only [Act.put, List.setIfInBounds_toArray, List.set_cons_zero, List.set_cons_succ, i64_w, i32_w]
             rfl
            refine pure_ (i := 9) (N := some 10) (v := ?_) (a' := ?_) #[true, true, true, true, true, true, true, true, true, true, false] rfl rfl (any_of HT_.out (by kernel_rfl)) (fun _ _ _ h => h) (Or.inl ⟨by rfl, ?_⟩) ?_ ?_
            rotate_left
            ·
             intro w'
             go_simp
             with_reducible rfl
            rotate_left
            ·
             simp only [Act.put, List.setIfInBounds_toArray, List.set_cons_zero, List.set_cons_succ, i64_w, i32_w]
             rfl
            refine pure_ (i := 10) (N := some 11) (v := ?_) (a' := ?_) #[true, true, true, true, true, true, true, true, true, true, true] rfl rfl (any_of HT_.out (by kernel_rfl)) (fun _ _ _ h => h) (Or.inl ⟨by rfl, ?_⟩) ?_ ?_
            rotate_left
            ·
             intro w'
             go_simp
             with_reducible rfl
            rotate_left
            ·
             simp only [Act.put, List.setIfInBounds_toArray, List.set_cons_zero, List.set_cons_succ, i64_w, i32_w]
             rfl
            refine done_ (done_of HT_.out (by kernel_rfl)) ?_
            try go_wp2
            have n0_ := zM (Kd.N_drew HO_2.out)
            have n1_ := zM (Kd.V_drew HL238_0.out)
            have n2_ := zM (Kd.V_drew HL241_0.out)
            have n3_ := zM (Kd.V_drew HL244_0.out)
            have n4_ := zM (zD HO248.out)
            have n5_ := zM (Kd.V_drew HL249_0.out)
            have n6_ := zM (zD HO252.out)
            have n7_ := zM (blk_drew BK177.out)
            have n8_ := zM (zCD HR238_0.out)
            have n9_ := zM (zCD HR241_0.out)
            have n10_ := zM (zCD HR244_0.out)
            have n11_ := zM (zCD HR249_0.out)
            have n12_ := zM (zO HB.out)
            clear HO_2
            clear HL238_0
            clear HL241_0
            clear HL244_0
            clear HO248
            clear HL249_0
            clear HO252
            clear BK177
            clear HR238_0
            clear HR241_0
            clear HR244_0
            clear HR249_0
            clear HB
            have HO_2 := n0_
            have HL238_0 := n1_
            have HL241_0 := n2_
            have HL244_0 := n3_
            have HO248 := n4_
            have HL249_0 := n5_
            have HO252 := n6_
            have BK177 := n7_
            have HR238_0 := n8_
            have HR241_0 := n9_
            have HR244_0 := n10_
            have HR249_0 := n11_
            have HB := n12_
            clear n0_ n1_ n2_ n3_ n4_ n5_ n6_ n7_ n8_ n9_ n10_ n11_ n12_
            have p258 : 0 ≤ (x3_1 : Int) := of_decide_eq_true (by first | (with_reducible assumption) | assumption)
            have q258 : x3_1 < (y235.length : Int) := of_decide_eq_true (by first | (with_reducible assumption) | assumption)
            obtain ⟨ad258, A258_0, c258_0, e258, hx258_0, hl258_0, hi258_0⟩ := at_L4 (Kd.N_reads' HO_2.out).2.2 x3_1 p258 q258
            obtain rfl : ad238 = ad258 := (by injection e258)
            obtain ⟨ce258, hce258, hMe258, hcc258⟩ := Kd.N_get HO_2.out [] x3_1 p258 (by first | exact q258 | exact of_decide_eq_true (by first | (with_reducible assumption) | assumption) | (have e_ := (Kd.N_reads' HO_2.out).1; omega))
            obtain ⟨ua258_0, uc258_0, rfl, ul258_0, ge258_0⟩ := Kd.FK_slice_open hMe258
            have hv258_0 := hcc258 0 _ rfl
            rw [Nat.add_zero, show ((Kd.slice 36 k36)).sz = 1 from rfl, Nat.mul_one] at hv258_0
            replace hv258_0 := Option.some.inj (hv258_0.symm.trans hx258_0)
            injection hv258_0 with hva_ hvn_ hvc_
            rw [hva_] at ge258_0
            rw [hvc_] at ul258_0
            have HL258_0 := zM (show Kd.V k36 36 _ w.heap.size _ _ (rd_L4 y235 x3_1) from Kd.V_mk ul258_0 ge258_0)
            clear hva_ hvn_ hvc_ ge258_0 ul258_0
            clear hcc258 hce258
            have HR258_0 := zM hi258_0
            have HC258_0 := zM hl258_0
            clear hi258_0 hl258_0
            replace p258 := eq_true p258
            replace q258 := eq_true q258
            refine start_ (n := 11) (S := fun w' => w'.cell? (ad238.add (x3_1).toNat) = some (.slice A258_0 (rd_L4 y235 x3_1).length c258_0)) (ds := []) #[false, false, false, false, false, false, false, false, false, false, false] (by kernel_rfl) rfl rfl (hx258_0) (fun hHeld => ?_); refine with_tabW tNN.tab10 tNN.bits10 (fun HT_ HW_ => ?_)
            generalize w96.drew = w97 at HO_2 HL238_0 HL241_0 HL244_0 HO248 HL249_0 HO252 BK177 HR238_0 HR241_0 HR244_0 HR249_0 HB HL258_0 HR258_0 hx258_0 hHeld ⊢
            refine pure_ (i := 1) (N := some 128) (v := ?_) (a' := ?_) #[false, true, false, false, false, false, false, false, false, false, false] rfl rfl (any_of HT_.out (by kernel_rfl)) (fun _ _ _ h => h) (Or.inl ⟨by rfl, ?_⟩) ?_ ?_
            rotate_left
            ·
             intro w'
             go_simp
             with_reducible rfl
            rotate_left
            ·
             simp only [Act.put, List.setIfInBounds_toArray, List.set_cons_zero, List.set_cons_succ, i64_w, i32_w]
             rfl
            refine pure_ (i := 2) (N := some 129) (v := ?_) (a' := ?_) #[false, true, true, false, false, false, false, false, false, false, false] rfl rfl (any_of HT_.out (by kernel_rfl)) (fun _ _ _ h => h) (Or.inl ⟨by rfl, ?_⟩) ?_ ?_
            rotate_left
            ·
             intro w'
             go_simp
             with_reducible rfl
            rotate_left
            ·
             simp only [Act.put, List.setIfInBounds_toArray, List.set_cons_zero, List.set_cons_succ, i64_w, i32_w]
             rfl
            refine pure_ (i := 3) (N := some 130) (v := ?_) (a' := ?_) #[false, true, true, true, false, false, false, false, false, false, false] rfl rfl (any_of HT_.out (by kernel_rfl)) (fun _ _ _ h => h) (Or.inl ⟨by rfl, ?_⟩) ?_ ?_
            rotate_left
            ·
             intro w'
             go_simp
             with_reducible rfl
            rotate_left
            ·
             simp only [Act.put, List.setIfInBounds_toArray, List.set_cons_zero, List.set_cons_succ, i64_w, i32_w]
             rfl
            refine take_ (i := 4) (N := some 131) (v := ?_) (a' := ?_) #[false, true, true, true, true, false, false, false, false, false, false] rfl rfl (take_ofW HT_.out HW_.out (by kernel_rfl)) (fun _ _ _ h => h) (Or.inl ⟨by rfl, ?_⟩) hHeld ?_ ?_
            rotate_left
            ·
             intro w' s0
             go_simp
             with_reducible rfl
            rotate_left
            ·
             simp only [Act.put, List.setIfInBounds_toArray, List.set_cons_zero, List.set_cons_succ, i64_w, i32_w]
             rfl
            refine one_ (i := 0) (N := some 127) #[true, true, true, true, true, false, false, false, false, false, false] rfl rfl (one_of HT_.out (by kernel_rfl)) (by decide) (fun K hK => ?_)
            refine goes_ Try.func48 (by kernel_rfl) rfl #[] (by rfl) rfl rfl (by (try simp only [List.map_toArray, List.map_cons, List.map_nil]); first | done | rfl | (simp only [List.length_drop, List.length_take]; rfl)) ?_
            with_reducible refine (tailwaterlaw04_example.calls  t255 _ A78.out).mono ?_
            rintro e w98 ⟨v256, rfl, ho0, hb⟩
            have HS0_ := (hb.cell (World.block_lt_of_cell? _ _ (hHeld))).trans (hHeld)
            refine ⟨_, rfl, ?_⟩
            have n0_ := zM (Kd.N_elder' (by (with_reducible repeat (first | apply Kd.N_alloc | apply Kd.N_drewN | apply Kd.N_drew)); exact HO_2.out) (zB ho0) hb)
            have n1_ := zM (Kd.V_elder' (by (with_reducible repeat (first | apply Kd.V_alloc | apply Kd.V_drewN | apply Kd.V_drew)); exact HL238_0.out) (zB ho0) hb)
            have n2_ := zM (Kd.V_elder' (by (with_reducible repeat (first | apply Kd.V_alloc | apply Kd.V_drewN | apply Kd.V_drew)); exact HL241_0.out) (zB ho0) hb)
            have n3_ := zM (Kd.V_elder' (by (with_reducible repeat (first | apply Kd.V_alloc | apply Kd.V_drewN | apply Kd.V_drew)); exact HL244_0.out) (zB ho0) hb)
            have n4_ := zM (zE (by (with_reducible repeat (first | apply zA | apply zN | apply zD)); exact HO248.out) (zB ho0) hb)
            have n5_ := zM (Kd.V_elder' (by (with_reducible repeat (first | apply Kd.V_alloc | apply Kd.V_drewN | apply Kd.V_drew)); exact HL249_0.out) (zB ho0) hb)
            have n6_ := zM (zE (by (with_reducible repeat (first | apply zA | apply zN | apply zD)); exact HO252.out) (zB ho0) hb)
            have n7_ := zM (Kd.V_elder' (by (with_reducible repeat (first | apply Kd.V_alloc | apply Kd.V_drewN | apply Kd.V_drew)); exact HL258_0.out) (zB ho0) hb)
            have n8_ := zM (Kd.R_lower (Kd.R_newB (zW (zW ho0 (zL (by (with_reducible repeat (first | apply zA | apply zN | apply zD)); exact HO248.out))) (zL (by (with_reducible repeat (first | apply zA | apply zN | apply zD)); exact HO252.out))) (g := gb177) (o := .cells #[.int .u8 4, .int .i64 0, .int .i64 0, .int .i64 0, .int .i64 0] 36 (0, 0)) (by (with_reducible repeat (first | refine blk_drewN ?_ _ | refine blk_drew ?_ | refine blk_alloc ?_ _)); exact BK177.out)) (below_size (by repeat (first | (with_reducible first | exact HB.out | apply zC | apply zP | apply zO | refine below_set ?_ GE177.out) | exact HB.out))))
            have n9_ := zM (blk_below (g := gb177) (o := .cells #[.int .u8 4, .int .i64 0, .int .i64 0, .int .i64 0, .int .i64 0] 36 (0, 0)) (by (with_reducible repeat (first | refine blk_drewN ?_ _ | refine blk_drew ?_ | refine blk_alloc ?_ _)); exact BK177.out) hb)
            have n10_ := zM (zCB (by repeat (first | (with_reducible exact HR238_0.out) | (with_reducible refine zCA ?_ _) | (with_reducible refine zCN ?_ _) | (with_reducible refine zCD ?_) | exact HR238_0.out)) hb)
            have n11_ := zM (zCB (by repeat (first | (with_reducible exact HR241_0.out) | (with_reducible refine zCA ?_ _) | (with_reducible refine zCN ?_ _) | (with_reducible refine zCD ?_) | exact HR241_0.out)) hb)
            have n12_ := zM (zCB (by repeat (first | (with_reducible exact HR244_0.out) | (with_reducible refine zCA ?_ _) | (with_reducible refine zCN ?_ _) | (with_reducible refine zCD ?_) | exact HR244_0.out)) hb)
            have n13_ := zM (zCB (by repeat (first | (with_reducible exact HR249_0.out) | (with_reducible refine zCA ?_ _) | (with_reducible refine zCN ?_ _) | (with_reducible refine zCD ?_) | exact HR249_0.out)) hb)
            have n14_ := zM (zCB (by repeat (first | (with_reducible exact HR258_0.out) | (with_reducible refine zCA ?_ _) | (with_reducible refine zCN ?_ _) | (with_reducible refine zCD ?_) | exact HR258_0.out)) hb)
            have n15_ := zM (below_step (by repeat (first | (with_reducible first | exact HB.out | apply zC | apply zP | apply zO | refine below_set ?_ GE177.out) | exact HB.out)) hb)
            clear HO_2
            clear HL238_0
            clear HL241_0
            clear HL244_0
            clear HO248
            clear HL249_0
            clear HO252
            clear HL258_0
            clear BK177
            clear HR238_0
            clear HR241_0
            clear HR244_0
            clear HR249_0
            clear HR258_0
            clear HB
            have HO_2 := n0_
            have HL238_0 := n1_
            have HL241_0 := n2_
            have HL244_0 := n3_
            have HO248 := n4_
            have HL249_0 := n5_
            have HO252 := n6_
            have HL258_0 := n7_
            have HO257 := n8_
            have BK177 := n9_
            have HR238_0 := n10_
            have HR241_0 := n11_
            have HR244_0 := n12_
            have HR249_0 := n13_
            have HR258_0 := n14_
            have HB := n15_
            clear n0_ n1_ n2_ n3_ n4_ n5_ n6_ n7_ n8_ n9_ n10_ n11_ n12_ n13_ n14_ n15_
            (try clear hb)
            (try clear hb2)
            (try clear hk)
            (try clear hi)
            (try clear ho0)
            obtain ⟨Ao99, co99, eo99⟩ := Kd.R_slice HO257.out
            (first | subst eo99 | (injection eo99 with f1_ f2_ f3_; have f4_ := f1_.symm; have f5_ := f3_.symm; clear f1_ f2_ f3_; subst f4_; subst f5_))
            refine hK.out _ _ (HS0_) (fun hHeld => ?_)
            clear hK K
            refine norm_ (a' := ?_) ?_ ?_
            rotate_left
            ·
             show Act.put _ (some 127) _ = _
             simp only [Act.put, List.setIfInBounds_toArray, List.set_cons_zero, List.set_cons_succ, i64_w, i32_w]
             rfl
            refine one_ (i := 5) (N := some 132) #[true, true, true, true, true, true, false, false, false, false, false] rfl rfl (one_of HT_.out (by kernel_rfl)) (by decide) (fun K hK => ?_)
            refine goes_ Try.func47 (by kernel_rfl) rfl #[.slice Ao99 t255.length co99, .slice A258_0 (rd_L4 y235 x3_1).length c258_0] (by rfl) rfl rfl (by (try simp only [List.map_toArray, List.map_cons, List.map_nil]); first | done | rfl | (simp only [List.length_drop, List.length_take]; rfl)) ?_
            with_reducible refine (nodes_Same.calls k1 _ _ t255 _ _ (rd_L4 y235 x3_1) t259 t260 _ ?side1 ?side2 ?side3 ?side4 A79.out).mono ?_
            (case side1 => repeat (first | exact (Kd.R_reads' HO257.out).2.2 | (with_reducible refine zCA ?_ _) | (with_reducible refine zCN ?_ _) | (with_reducible refine zCD ?_)))
            (case side2 => exact (Kd.R_reads' HO257.out).2.1)
            (case side3 => repeat (first | exact (by repeat (first | (with_reducible exact HR258_0.out) | (with_reducible refine zCA ?_ _) | (with_reducible refine zCN ?_ _) | (with_reducible refine zCD ?_) | exact HR258_0.out)) | (with_reducible refine zCA ?_ _) | (with_reducible refine zCN ?_ _) | (with_reducible refine zCD ?_)))
            (case side4 => exact HC258_0.out)
            rintro e w100 ⟨rfl, hb⟩
            have HS0_ := (hb.cell (World.block_lt_of_cell? _ _ (hHeld))).trans (hHeld)
            refine ⟨_, rfl, ?_⟩
            have n0_ := zM (Kd.N_below (by (with_reducible repeat (first | apply Kd.N_alloc | apply Kd.N_drewN | apply Kd.N_drew)); exact HO_2.out) hb)
            have n1_ := zM (Kd.V_below (by (with_reducible repeat (first | apply Kd.V_alloc | apply Kd.V_drewN | apply Kd.V_drew)); exact HL238_0.out) hb)
            have n2_ := zM (Kd.V_below (by (with_reducible repeat (first | apply Kd.V_alloc | apply Kd.V_drewN | apply Kd.V_drew)); exact HL241_0.out) hb)
            have n3_ := zM (Kd.V_below (by (with_reducible repeat (first | apply Kd.V_alloc | apply Kd.V_drewN | apply Kd.V_drew)); exact HL244_0.out) hb)
            have n4_ := zM (Kd.R_below (by (with_reducible repeat (first | apply zA | apply zN | apply zD)); exact HO248.out) hb)
            have n5_ := zM (Kd.V_below (by (with_reducible repeat (first | apply Kd.V_alloc | apply Kd.V_drewN | apply Kd.V_drew)); exact HL249_0.out) hb)
            have n6_ := zM (Kd.R_below (by (with_reducible repeat (first | apply zA | apply zN | apply zD)); exact HO252.out) hb)
            have n7_ := zM (Kd.V_below (by (with_reducible repeat (first | apply Kd.V_alloc | apply Kd.V_drewN | apply Kd.V_drew)); exact HL258_0.out) hb)
            have n8_ := zM (Kd.R_below (by (with_reducible repeat (first | apply zA | apply zN | apply zD)); exact HO257.out) hb)
            have n9_ := zM (blk_below (g := gb177) (o := .cells #[.int .u8 4, .int .i64 0, .int .i64 0, .int .i64 0, .int .i64 0] 36 (0, 0)) (by (with_reducible repeat (first | refine blk_drewN ?_ _ | refine blk_drew ?_ | refine blk_alloc ?_ _)); exact BK177.out) hb)
            have n10_ := zM (zCB (by repeat (first | (with_reducible exact HR238_0.out) | (with_reducible refine zCA ?_ _) | (with_reducible refine zCN ?_ _) | (with_reducible refine zCD ?_) | exact HR238_0.out)) hb)
            have n11_ := zM (zCB (by repeat (first | (with_reducible exact HR241_0.out) | (with_reducible refine zCA ?_ _) | (with_reducible refine zCN ?_ _) | (with_reducible refine zCD ?_) | exact HR241_0.out)) hb)
            have n12_ := zM (zCB (by repeat (first | (with_reducible exact HR244_0.out) | (with_reducible refine zCA ?_ _) | (with_reducible refine zCN ?_ _) | (with_reducible refine zCD ?_) | exact HR244_0.out)) hb)
            have n13_ := zM (zCB (by repeat (first | (with_reducible exact HR249_0.out) | (with_reducible refine zCA ?_ _) | (with_reducible refine zCN ?_ _) | (with_reducible refine zCD ?_) | exact HR249_0.out)) hb)
            have n14_ := zM (zCB (by repeat (first | (with_reducible exact HR258_0.out) | (with_reducible refine zCA ?_ _) | (with_reducible refine zCN ?_ _) | (with_reducible refine zCD ?_) | exact HR258_0.out)) hb)
            have n15_ := zM (below_step (by repeat (first | (with_reducible first | exact HB.out | apply zC | apply zP | apply zO | refine below_set ?_ GE177.out) | exact HB.out)) hb)
            clear HO_2
            clear HL238_0
            clear HL241_0
            clear HL244_0
            clear HO248
            clear HL249_0
            clear HO252
            clear HL258_0
            clear HO257
            clear BK177
            clear HR238_0
            clear HR241_0
            clear HR244_0
            clear HR249_0
            clear HR258_0
            clear HB
            have HO_2 := n0_
            have HL238_0 := n1_
            have HL241_0 := n2_
            have HL244_0 := n3_
            have HO248 := n4_
            have HL249_0 := n5_
            have HO252 := n6_
            have HL258_0 := n7_
            have HO257 := n8_
            have BK177 := n9_
            have HR238_0 := n10_
            have HR241_0 := n11_
            have HR244_0 := n12_
            have HR249_0 := n13_
            have HR258_0 := n14_
            have HB := n15_
            clear n0_ n1_ n2_ n3_ n4_ n5_ n6_ n7_ n8_ n9_ n10_ n11_ n12_ n13_ n14_ n15_
            (try clear hb)
            (try clear hb2)
            (try clear hk)
            (try clear hi)
            refine hK.out _ _ (HS0_) (fun hHeld => ?_)
            clear hK K
            refine norm_ (a' := ?_) ?_ ?_
            rotate_left
            ·
             show Act.put _ (some 132) _ = _
             simp only [Act.put, List.setIfInBounds_toArray, List.set_cons_zero, List.set_cons_succ, i64_w, i32_w]
             rfl
            refine pure_ (i := 6) (N := some 126) (v := ?_) (a' := ?_) #[true, true, true, true, true, true, true, false, false, false, false] rfl rfl (any_of HT_.out (by kernel_rfl)) (fun _ _ _ h => h) (Or.inl ⟨by rfl, ?_⟩) ?_ ?_
            rotate_left
            ·
             intro w'
             go_simp
             with_reducible rfl
            rotate_left
            ·
             simp only [Act.put, List.setIfInBounds_toArray, List.set_cons_zero, List.set_cons_succ, i64_w, i32_w]
             rfl
            refine pure_ (i := 7) (N := some 133) (v := ?_) (a' := ?_) #[true, true, true, true, true, true, true, true, false, false, false] rfl rfl (any_of HT_.out (by kernel_rfl)) (fun _ _ _ h => h) (Or.inl ⟨by rfl, ?_⟩) ?_ ?_
            rotate_left
            ·
             intro w'
             go_simp
             with_reducible rfl
            rotate_left
            ·
             simp only [Act.put, List.setIfInBounds_toArray, List.set_cons_zero, List.set_cons_succ, i64_w, i32_w]
             rfl
            refine pure_ (i := 8) (N := some 134) (v := ?_) (a' := ?_) #[true, true, true, true, true, true, true, true, true, false, false] rfl rfl (any_of HT_.out (by kernel_rfl)) (fun _ _ _ h => h) (Or.inl ⟨by rfl, ?_⟩) ?_ ?_
            rotate_left
            ·
             intro w'
             go_simp
             with_reducible rfl
            rotate_left
            ·
             simp only [Act.put, List.setIfInBounds_toArray, List.set_cons_zero, List.set_cons_succ, i64_w, i32_w]
             rfl
            refine pure_ (i := 9) (N := some 12) (v := ?_) (a' := ?_) #[true, true, true, true, true, true, true, true, true, true, false] rfl rfl (any_of HT_.out (by kernel_rfl)) (fun _ _ _ h => h) (Or.inl ⟨by rfl, ?_⟩) ?_ ?_
            rotate_left
            ·
             intro w'
             go_simp
             with_reducible rfl
            rotate_left
            ·
             simp only [Act.put, List.setIfInBounds_toArray, List.set_cons_zero, List.set_cons_succ, i64_w, i32_w]
             rfl
            refine pure_ (i := 10) (N := some 13) (v := ?_) (a' := ?_) #[true, true, true, true, true, true, true, true, true, true, true] rfl rfl (any_of HT_.out (by kernel_rfl)) (fun _ _ _ h => h) (Or.inl ⟨by rfl, ?_⟩) ?_ ?_
            rotate_left
            ·
             intro w'
             go_simp
             with_reducible rfl
            rotate_left
            ·
             simp only [Act.put, List.setIfInBounds_toArray, List.set_cons_zero, List.set_cons_succ, i64_w, i32_w]
             rfl
            refine done_ (done_of HT_.out (by kernel_rfl)) ?_
            have p261 : 0 ≤ (x3_1 : Int) := of_decide_eq_true (by first | (with_reducible assumption) | assumption)
            have q261 : x3_1 < (y235.length : Int) := of_decide_eq_true (by first | (with_reducible assumption) | assumption)
            obtain ⟨ad261, A261_0, c261_0, e261, hx261_0, hl261_0, hi261_0⟩ := at_L4 (Kd.N_reads' HO_2.out).2.2 x3_1 p261 q261
            obtain rfl : ad238 = ad261 := (by injection e261)
            obtain ⟨ce261, hce261, hMe261, hcc261⟩ := Kd.N_get HO_2.out [] x3_1 p261 (by first | exact q261 | exact of_decide_eq_true (by first | (with_reducible assumption) | assumption) | (have e_ := (Kd.N_reads' HO_2.out).1; omega))
            obtain ⟨ua261_0, uc261_0, rfl, ul261_0, ge261_0⟩ := Kd.FK_slice_open hMe261
            have hv261_0 := hcc261 0 _ rfl
            rw [Nat.add_zero, show ((Kd.slice 36 k36)).sz = 1 from rfl, Nat.mul_one] at hv261_0
            replace hv261_0 := Option.some.inj (hv261_0.symm.trans hx261_0)
            injection hv261_0 with hva_ hvn_ hvc_
            rw [hva_] at ge261_0
            rw [hvc_] at ul261_0
            have HL261_0 := zM (show Kd.V k36 36 _ w.heap.size _ _ (rd_L4 y235 x3_1) from Kd.V_mk ul261_0 ge261_0)
            clear hva_ hvn_ hvc_ ge261_0 ul261_0
            clear hcc261 hce261
            have HR261_0 := zM hi261_0
            have HC261_0 := zM hl261_0
            clear hi261_0 hl261_0
            replace p261 := eq_true p261
            replace q261 := eq_true q261
            try go_wp2_with (first | ((with_reducible refine gate_dst (N := 140) rfl ?_); (try (refine gate_guard (by rfl) ?_; dsimp only)); refine Kd.N_lit (Kd.slice 36 k36) _ 22 ?hg (N' := 140) ?hd (xs := ([rd_L4 y235 x3_1] : List (List (S36)))) (inner := [.slice A258_0 (rd_L4 y235 x3_1).length c258_0]) (ok := (fun k_ => some k_ ≠ (.slice (some ad238) y235.length co89 : Value).ownBlock ∧ some k_ ≠ (v247 : Value).ownBlock ∧ some k_ ≠ (.slice Ao95 t250.length co95 : Value).ownBlock ∧ some k_ ≠ (.slice Ao99 t255.length co99 : Value).ownBlock ∧ k_ ≠ gb177)) (okp := (fun k_ => some k_ ≠ (.slice (some ad238) y235.length co89 : Value).ownBlock ∧ some k_ ≠ (v247 : Value).ownBlock ∧ some k_ ≠ (.slice Ao95 t250.length co95 : Value).ownBlock ∧ some k_ ≠ (.slice Ao99 t255.length co99 : Value).ownBlock ∧ k_ ≠ gb177)) ?hr ?hp (fun _ hk => hk) ((show ∀ k_, w100.heap.size ≤ k_ → (fun k_ => some k_ ≠ (.slice (some ad238) y235.length co89 : Value).ownBlock ∧ some k_ ≠ (v247 : Value).ownBlock ∧ some k_ ≠ (.slice Ao95 t250.length co95 : Value).ownBlock ∧ some k_ ≠ (.slice Ao99 t255.length co99 : Value).ownBlock ∧ k_ ≠ gb177) k_ from fun k_ hk => ⟨Kd.fresh' (Kd.N_lt (by (with_reducible repeat (first | apply Kd.N_alloc | apply Kd.N_drewN | apply Kd.N_drew)); exact HO_2.out)) k_ hk, Kd.fresh' (zL (by (with_reducible repeat (first | apply zA | apply zN | apply zD)); exact HO248.out)) k_ hk, Kd.fresh' (zL (by (with_reducible repeat (first | apply zA | apply zN | apply zD)); exact HO252.out)) k_ hk, Kd.fresh' (zL (by (with_reducible repeat (first | apply zA | apply zN | apply zD)); exact HO257.out)) k_ hk, Kd.freshB (g := gb177) (o := .cells #[.int .u8 4, .int .i64 0, .int .i64 0, .int .i64 0, .int .i64 0] 36 (0, 0)) (by (with_reducible repeat (first | refine blk_drewN ?_ _ | refine blk_drew ?_ | refine blk_alloc ?_ _)); exact BK177.out) k_ hk⟩) _ (Nat.le_refl _)) (Below.refl _ _) (Nat.le_refl _) (by simp) ?_; (case hd => rfl); (case hg => rfl); (case hr => first | (go_simp; done) | (go_simp; rfl)); (case hp => exact (Reps.one (show Kd.FK (Kd.slice 36 k36) _ _ (rd_L4 y235 x3_1) [.slice A258_0 (rd_L4 y235 x3_1).length c258_0] from (Kd.FK_slice_mk (Kd.V_reads' (Kd.V_mono (ok' := (fun k_ => some k_ ≠ (.slice (some ad238) y235.length co89 : Value).ownBlock ∧ some k_ ≠ (v247 : Value).ownBlock ∧ some k_ ≠ (.slice Ao95 t250.length co95 : Value).ownBlock ∧ some k_ ≠ (.slice Ao99 t255.length co99 : Value).ownBlock ∧ k_ ≠ gb177)) (HL258_0.out) (fun k_ hk => by obtain ⟨⟨⟨⟨_, _⟩, _⟩, _⟩, _⟩ := hk; refine ⟨?_, ?_, ?_, ?_, ?_⟩ <;> assumption))).2.1 (Kd.V_F (Kd.V_mono (ok' := (fun k_ => some k_ ≠ (.slice (some ad238) y235.length co89 : Value).ownBlock ∧ some k_ ≠ (v247 : Value).ownBlock ∧ some k_ ≠ (.slice Ao95 t250.length co95 : Value).ownBlock ∧ some k_ ≠ (.slice Ao99 t255.length co99 : Value).ownBlock ∧ k_ ≠ gb177)) (HL258_0.out) (fun k_ hk => by obtain ⟨⟨⟨⟨_, _⟩, _⟩, _⟩, _⟩ := hk; refine ⟨?_, ?_, ?_, ?_, ?_⟩ <;> assumption))))) (Reps.none _ _))); intro v263 w101 ho102 hb hg_ hnew_; clear hg_ hnew_; (first | rw [← Ny262.out] at ho102 | (simp only [Int.reduceToNat] at ho102; rw [← Ny262.out] at ho102)); have n0_ := zM (Kd.N_elder' (by (with_reducible repeat (first | apply Kd.N_alloc | apply Kd.N_drewN | apply Kd.N_drew)); exact HO_2.out) (Kd.N_base ho102) hb); have n1_ := zM (Kd.V_elder' (by (with_reducible repeat (first | apply Kd.V_alloc | apply Kd.V_drewN | apply Kd.V_drew)); exact HL238_0.out) (Kd.N_base ho102) hb); have n2_ := zM (Kd.V_elder' (by (with_reducible repeat (first | apply Kd.V_alloc | apply Kd.V_drewN | apply Kd.V_drew)); exact HL241_0.out) (Kd.N_base ho102) hb); have n3_ := zM (Kd.V_elder' (by (with_reducible repeat (first | apply Kd.V_alloc | apply Kd.V_drewN | apply Kd.V_drew)); exact HL244_0.out) (Kd.N_base ho102) hb); have n4_ := zM (Kd.R_below (by (with_reducible repeat (first | apply zA | apply zN | apply zD)); exact HO248.out) hb); have n5_ := zM (Kd.V_elder' (by (with_reducible repeat (first | apply Kd.V_alloc | apply Kd.V_drewN | apply Kd.V_drew)); exact HL249_0.out) (Kd.N_base ho102) hb); have n6_ := zM (Kd.R_below (by (with_reducible repeat (first | apply zA | apply zN | apply zD)); exact HO252.out) hb); have n7_ := zM (Kd.V_elder' (by (with_reducible repeat (first | apply Kd.V_alloc | apply Kd.V_drewN | apply Kd.V_drew)); exact HL258_0.out) (Kd.N_base ho102) hb); have n8_ := zM (Kd.R_below (by (with_reducible repeat (first | apply zA | apply zN | apply zD)); exact HO257.out) hb); have n9_ := zM (Kd.V_elder' (by (with_reducible repeat (first | apply Kd.V_alloc | apply Kd.V_drewN | apply Kd.V_drew)); exact HL261_0.out) (Kd.N_base ho102) hb); have n10_ := zM (Kd.N_lower ho102 (below_size (by repeat (first | (with_reducible first | exact HB.out | apply zC | apply zP | apply zO | refine below_set ?_ GE177.out) | exact HB.out)))); have n11_ := zM (blk_below (g := gb177) (o := .cells #[.int .u8 4, .int .i64 0, .int .i64 0, .int .i64 0, .int .i64 0] 36 (0, 0)) (by (with_reducible repeat (first | refine blk_drewN ?_ _ | refine blk_drew ?_ | refine blk_alloc ?_ _)); exact BK177.out) hb); have n12_ := zM (zCB (by repeat (first | (with_reducible exact HR238_0.out) | (with_reducible refine zCA ?_ _) | (with_reducible refine zCN ?_ _) | (with_reducible refine zCD ?_) | exact HR238_0.out)) hb); have n13_ := zM (zCB (by repeat (first | (with_reducible exact HR241_0.out) | (with_reducible refine zCA ?_ _) | (with_reducible refine zCN ?_ _) | (with_reducible refine zCD ?_) | exact HR241_0.out)) hb); have n14_ := zM (zCB (by repeat (first | (with_reducible exact HR244_0.out) | (with_reducible refine zCA ?_ _) | (with_reducible refine zCN ?_ _) | (with_reducible refine zCD ?_) | exact HR244_0.out)) hb); have n15_ := zM (zCB (by repeat (first | (with_reducible exact HR249_0.out) | (with_reducible refine zCA ?_ _) | (with_reducible refine zCN ?_ _) | (with_reducible refine zCD ?_) | exact HR249_0.out)) hb); have n16_ := zM (zCB (by repeat (first | (with_reducible exact HR258_0.out) | (with_reducible refine zCA ?_ _) | (with_reducible refine zCN ?_ _) | (with_reducible refine zCD ?_) | exact HR258_0.out)) hb); have n17_ := zM (zCB (by repeat (first | (with_reducible exact HR261_0.out) | (with_reducible refine zCA ?_ _) | (with_reducible refine zCN ?_ _) | (with_reducible refine zCD ?_) | exact HR261_0.out)) hb); have n18_ := zM (below_step (by repeat (first | (with_reducible first | exact HB.out | apply zC | apply zP | apply zO | refine below_set ?_ GE177.out) | exact HB.out)) hb); clear HO_2; clear HL238_0; clear HL241_0; clear HL244_0; clear HO248; clear HL249_0; clear HO252; clear HL258_0; clear HO257; clear HL261_0; clear BK177; clear HR238_0; clear HR241_0; clear HR244_0; clear HR249_0; clear HR258_0; clear HR261_0; clear HB; have HO_2 := n0_; have HL238_0 := n1_; have HL241_0 := n2_; have HL244_0 := n3_; have HO248 := n4_; have HL249_0 := n5_; have HO252 := n6_; have HL258_0 := n7_; have HO257 := n8_; have HL261_0 := n9_; have HO264 := n10_; have BK177 := n11_; have HR238_0 := n12_; have HR241_0 := n13_; have HR244_0 := n14_; have HR249_0 := n15_; have HR258_0 := n16_; have HR261_0 := n17_; have HB := n18_; clear n0_ n1_ n2_ n3_ n4_ n5_ n6_ n7_ n8_ n9_ n10_ n11_ n12_ n13_ n14_ n15_ n16_ n17_ n18_; clear hb ho102; obtain ⟨Ao103, co103, eo103⟩ := Kd.N_slice HO264.out; subst eo103) | ((with_reducible refine gate_callee (f := 46) rfl ?_); refine goesL_ (some 141) rfl rfl Try.func46 (by kernel_rfl) rfl #[.int .u8 5, .int .i64 0, .int .i64 0, .slice Ao103 y262.length co103] rfl (by (try simp only [List.map_toArray, List.map_cons, List.map_nil]); first | done | rfl | (simp only [List.length_drop, List.length_take]; rfl)) ?_; (with_reducible refine (nodes_Node.calls k1 5 0 0 _ _ y262 t265 t266 _ ?side1 ?side2 A80.out).mono ?_); (case side1 => repeat (first | exact (Kd.N_reads' HO264.out).2.2 | (with_reducible refine zCA ?_ _) | (with_reducible refine zCN ?_ _) | (with_reducible refine zCD ?_))); (case side2 => exact (Kd.N_reads' HO264.out).2.1); rintro e w104 ⟨v267, rfl, ho0, hb⟩; refine ⟨_, rfl, ?_⟩; have n0_ := zM (Kd.N_elder' (by (with_reducible repeat (first | apply Kd.N_alloc | apply Kd.N_drewN | apply Kd.N_drew)); exact HO_2.out) (zB ho0) hb); have n1_ := zM (Kd.V_elder' (by (with_reducible repeat (first | apply Kd.V_alloc | apply Kd.V_drewN | apply Kd.V_drew)); exact HL238_0.out) (zB ho0) hb); have n2_ := zM (Kd.V_elder' (by (with_reducible repeat (first | apply Kd.V_alloc | apply Kd.V_drewN | apply Kd.V_drew)); exact HL241_0.out) (zB ho0) hb); have n3_ := zM (Kd.V_elder' (by (with_reducible repeat (first | apply Kd.V_alloc | apply Kd.V_drewN | apply Kd.V_drew)); exact HL244_0.out) (zB ho0) hb); have n4_ := zM (zE (by (with_reducible repeat (first | apply zA | apply zN | apply zD)); exact HO248.out) (zB ho0) hb); have n5_ := zM (Kd.V_elder' (by (with_reducible repeat (first | apply Kd.V_alloc | apply Kd.V_drewN | apply Kd.V_drew)); exact HL249_0.out) (zB ho0) hb); have n6_ := zM (zE (by (with_reducible repeat (first | apply zA | apply zN | apply zD)); exact HO252.out) (zB ho0) hb); have n7_ := zM (Kd.V_elder' (by (with_reducible repeat (first | apply Kd.V_alloc | apply Kd.V_drewN | apply Kd.V_drew)); exact HL258_0.out) (zB ho0) hb); have n8_ := zM (zE (by (with_reducible repeat (first | apply zA | apply zN | apply zD)); exact HO257.out) (zB ho0) hb); have n9_ := zM (Kd.V_elder' (by (with_reducible repeat (first | apply Kd.V_alloc | apply Kd.V_drewN | apply Kd.V_drew)); exact HL261_0.out) (zB ho0) hb); have n10_ := zM (Kd.N_elder' (by (with_reducible repeat (first | apply Kd.N_alloc | apply Kd.N_drewN | apply Kd.N_drew)); exact HO264.out) (zB ho0) hb); have n11_ := zM (Kd.R_lower (Kd.R_newB (zW (zW (zW ho0 (zL (by (with_reducible repeat (first | apply zA | apply zN | apply zD)); exact HO248.out))) (zL (by (with_reducible repeat (first | apply zA | apply zN | apply zD)); exact HO252.out))) (zL (by (with_reducible repeat (first | apply zA | apply zN | apply zD)); exact HO257.out))) (g := gb177) (o := .cells #[.int .u8 4, .int .i64 0, .int .i64 0, .int .i64 0, .int .i64 0] 36 (0, 0)) (by (with_reducible repeat (first | refine blk_drewN ?_ _ | refine blk_drew ?_ | refine blk_alloc ?_ _)); exact BK177.out)) (below_size (by repeat (first | (with_reducible first | exact HB.out | apply zC | apply zP | apply zO | refine below_set ?_ GE177.out) | exact HB.out)))); have n12_ := zM (blk_below (g := gb177) (o := .cells #[.int .u8 4, .int .i64 0, .int .i64 0, .int .i64 0, .int .i64 0] 36 (0, 0)) (by (with_reducible repeat (first | refine blk_drewN ?_ _ | refine blk_drew ?_ | refine blk_alloc ?_ _)); exact BK177.out) hb); have n13_ := zM (zCB (by repeat (first | (with_reducible exact HR238_0.out) | (with_reducible refine zCA ?_ _) | (with_reducible refine zCN ?_ _) | (with_reducible refine zCD ?_) | exact HR238_0.out)) hb); have n14_ := zM (zCB (by repeat (first | (with_reducible exact HR241_0.out) | (with_reducible refine zCA ?_ _) | (with_reducible refine zCN ?_ _) | (with_reducible refine zCD ?_) | exact HR241_0.out)) hb); have n15_ := zM (zCB (by repeat (first | (with_reducible exact HR244_0.out) | (with_reducible refine zCA ?_ _) | (with_reducible refine zCN ?_ _) | (with_reducible refine zCD ?_) | exact HR244_0.out)) hb); have n16_ := zM (zCB (by repeat (first | (with_reducible exact HR249_0.out) | (with_reducible refine zCA ?_ _) | (with_reducible refine zCN ?_ _) | (with_reducible refine zCD ?_) | exact HR249_0.out)) hb); have n17_ := zM (zCB (by repeat (first | (with_reducible exact HR258_0.out) | (with_reducible refine zCA ?_ _) | (with_reducible refine zCN ?_ _) | (with_reducible refine zCD ?_) | exact HR258_0.out)) hb); have n18_ := zM (zCB (by repeat (first | (with_reducible exact HR261_0.out) | (with_reducible refine zCA ?_ _) | (with_reducible refine zCN ?_ _) | (with_reducible refine zCD ?_) | exact HR261_0.out)) hb); have n19_ := zM (below_step (by repeat (first | (with_reducible first | exact HB.out | apply zC | apply zP | apply zO | refine below_set ?_ GE177.out) | exact HB.out)) hb); clear HO_2; clear HL238_0; clear HL241_0; clear HL244_0; clear HO248; clear HL249_0; clear HO252; clear HL258_0; clear HO257; clear HL261_0; clear HO264; clear BK177; clear HR238_0; clear HR241_0; clear HR244_0; clear HR249_0; clear HR258_0; clear HR261_0; clear HB; have HO_2 := n0_; have HL238_0 := n1_; have HL241_0 := n2_; have HL244_0 := n3_; have HO248 := n4_; have HL249_0 := n5_; have HO252 := n6_; have HL258_0 := n7_; have HO257 := n8_; have HL261_0 := n9_; have HO264 := n10_; have HO268 := n11_; have BK177 := n12_; have HR238_0 := n13_; have HR241_0 := n14_; have HR244_0 := n15_; have HR249_0 := n16_; have HR258_0 := n17_; have HR261_0 := n18_; have HB := n19_; clear n0_ n1_ n2_ n3_ n4_ n5_ n6_ n7_ n8_ n9_ n10_ n11_ n12_ n13_ n14_ n15_ n16_ n17_ n18_ n19_; (try clear hb); (try clear hb2); (try clear hk); (try clear hi); (try clear ho0); have p269 : 0 ≤ (x3_1 : Int) := of_decide_eq_true (by first | (with_reducible assumption) | assumption); have q269 : x3_1 < (y235.length : Int) := of_decide_eq_true (by first | (with_reducible assumption) | assumption); obtain ⟨ad269, A269_0, c269_0, e269, hx269_0, hl269_0, hi269_0⟩ := at_L4 (Kd.N_reads' HO_2.out).2.2 x3_1 p269 q269; obtain rfl : ad238 = ad269 := (by injection e269); obtain ⟨ce269, hce269, hMe269, hcc269⟩ := Kd.N_get HO_2.out [] x3_1 p269 (by first | exact q269 | exact of_decide_eq_true (by first | (with_reducible assumption) | assumption) | (have e_ := (Kd.N_reads' HO_2.out).1; omega)); obtain ⟨ua269_0, uc269_0, rfl, ul269_0, ge269_0⟩ := Kd.FK_slice_open hMe269; have hv269_0 := hcc269 0 _ rfl; rw [Nat.add_zero, show ((Kd.slice 36 k36)).sz = 1 from rfl, Nat.mul_one] at hv269_0; replace hv269_0 := Option.some.inj (hv269_0.symm.trans hx269_0); injection hv269_0 with hva_ hvn_ hvc_; rw [hva_] at ge269_0; rw [hvc_] at ul269_0; have HL269_0 := zM (show Kd.V k36 36 _ w.heap.size _ _ (rd_L4 y235 x3_1) from Kd.V_mk ul269_0 ge269_0); clear hva_ hvn_ hvc_ ge269_0 ul269_0; clear hcc269 hce269; have HR269_0 := zM hi269_0; have HC269_0 := zM hl269_0; clear hi269_0 hl269_0; replace p269 := eq_true p269; replace q269 := eq_true q269) | ((with_reducible refine gate_callee (f := 45) rfl ?_); refine goesL_ (some 148) rfl rfl Try.func45 (by kernel_rfl) rfl #[.slice A269_0 (rd_L4 y235 x3_1).length c269_0] rfl (by (try simp only [List.map_toArray, List.map_cons, List.map_nil]); first | done | rfl | (simp only [List.length_drop, List.length_take]; rfl)) ?_; (with_reducible refine (nodes_Check.calls k1 _ _ (rd_L4 y235 x3_1) t270 _ ?side1 ?side2 A81.out).mono ?_); (case side1 => repeat (first | exact (by repeat (first | (with_reducible exact HR269_0.out) | (with_reducible refine zCA ?_ _) | (with_reducible refine zCN ?_ _) | (with_reducible refine zCD ?_) | exact HR269_0.out)) | (with_reducible refine zCA ?_ _) | (with_reducible refine zCN ?_ _) | (with_reducible refine zCD ?_))); (case side2 => exact HC269_0.out); rintro e w105 ⟨rfl, hb⟩; refine ⟨_, rfl, ?_⟩; have n0_ := zM (Kd.N_below (by (with_reducible repeat (first | apply Kd.N_alloc | apply Kd.N_drewN | apply Kd.N_drew)); exact HO_2.out) hb); have n1_ := zM (Kd.V_below (by (with_reducible repeat (first | apply Kd.V_alloc | apply Kd.V_drewN | apply Kd.V_drew)); exact HL238_0.out) hb); have n2_ := zM (Kd.V_below (by (with_reducible repeat (first | apply Kd.V_alloc | apply Kd.V_drewN | apply Kd.V_drew)); exact HL241_0.out) hb); have n3_ := zM (Kd.V_below (by (with_reducible repeat (first | apply Kd.V_alloc | apply Kd.V_drewN | apply Kd.V_drew)); exact HL244_0.out) hb); have n4_ := zM (Kd.R_below (by (with_reducible repeat (first | apply zA | apply zN | apply zD)); exact HO248.out) hb); have n5_ := zM (Kd.V_below (by (with_reducible repeat (first | apply Kd.V_alloc | apply Kd.V_drewN | apply Kd.V_drew)); exact HL249_0.out) hb); have n6_ := zM (Kd.R_below (by (with_reducible repeat (first | apply zA | apply zN | apply zD)); exact HO252.out) hb); have n7_ := zM (Kd.V_below (by (with_reducible repeat (first | apply Kd.V_alloc | apply Kd.V_drewN | apply Kd.V_drew)); exact HL258_0.out) hb); have n8_ := zM (Kd.R_below (by (with_reducible repeat (first | apply zA | apply zN | apply zD)); exact HO257.out) hb); have n9_ := zM (Kd.V_below (by (with_reducible repeat (first | apply Kd.V_alloc | apply Kd.V_drewN | apply Kd.V_drew)); exact HL261_0.out) hb); have n10_ := zM (Kd.N_below (by (with_reducible repeat (first | apply Kd.N_alloc | apply Kd.N_drewN | apply Kd.N_drew)); exact HO264.out) hb); have n11_ := zM (Kd.R_below (by (with_reducible repeat (first | apply zA | apply zN | apply zD)); exact HO268.out) hb); have n12_ := zM (Kd.V_below (by (with_reducible repeat (first | apply Kd.V_alloc | apply Kd.V_drewN | apply Kd.V_drew)); exact HL269_0.out) hb); have n13_ := zM (blk_below (g := gb177) (o := .cells #[.int .u8 4, .int .i64 0, .int .i64 0, .int .i64 0, .int .i64 0] 36 (0, 0)) (by (with_reducible repeat (first | refine blk_drewN ?_ _ | refine blk_drew ?_ | refine blk_alloc ?_ _)); exact BK177.out) hb); have n14_ := zM (zCB (by repeat (first | (with_reducible exact HR238_0.out) | (with_reducible refine zCA ?_ _) | (with_reducible refine zCN ?_ _) | (with_reducible refine zCD ?_) | exact HR238_0.out)) hb); have n15_ := zM (zCB (by repeat (first | (with_reducible exact HR241_0.out) | (with_reducible refine zCA ?_ _) | (with_reducible refine zCN ?_ _) | (with_reducible refine zCD ?_) | exact HR241_0.out)) hb); have n16_ := zM (zCB (by repeat (first | (with_reducible exact HR244_0.out) | (with_reducible refine zCA ?_ _) | (with_reducible refine zCN ?_ _) | (with_reducible refine zCD ?_) | exact HR244_0.out)) hb); have n17_ := zM (zCB (by repeat (first | (with_reducible exact HR249_0.out) | (with_reducible refine zCA ?_ _) | (with_reducible refine zCN ?_ _) | (with_reducible refine zCD ?_) | exact HR249_0.out)) hb); have n18_ := zM (zCB (by repeat (first | (with_reducible exact HR258_0.out) | (with_reducible refine zCA ?_ _) | (with_reducible refine zCN ?_ _) | (with_reducible refine zCD ?_) | exact HR258_0.out)) hb); have n19_ := zM (zCB (by repeat (first | (with_reducible exact HR261_0.out) | (with_reducible refine zCA ?_ _) | (with_reducible refine zCN ?_ _) | (with_reducible refine zCD ?_) | exact HR261_0.out)) hb); have n20_ := zM (zCB (by repeat (first | (with_reducible exact HR269_0.out) | (with_reducible refine zCA ?_ _) | (with_reducible refine zCN ?_ _) | (with_reducible refine zCD ?_) | exact HR269_0.out)) hb); have n21_ := zM (below_step (by repeat (first | (with_reducible first | exact HB.out | apply zC | apply zP | apply zO | refine below_set ?_ GE177.out) | exact HB.out)) hb); clear HO_2; clear HL238_0; clear HL241_0; clear HL244_0; clear HO248; clear HL249_0; clear HO252; clear HL258_0; clear HO257; clear HL261_0; clear HO264; clear HO268; clear HL269_0; clear BK177; clear HR238_0; clear HR241_0; clear HR244_0; clear HR249_0; clear HR258_0; clear HR261_0; clear HR269_0; clear HB; have HO_2 := n0_; have HL238_0 := n1_; have HL241_0 := n2_; have HL244_0 := n3_; have HO248 := n4_; have HL249_0 := n5_; have HO252 := n6_; have HL258_0 := n7_; have HO257 := n8_; have HL261_0 := n9_; have HO264 := n10_; have HO268 := n11_; have HL269_0 := n12_; have BK177 := n13_; have HR238_0 := n14_; have HR241_0 := n15_; have HR244_0 := n16_; have HR249_0 := n17_; have HR258_0 := n18_; have HR261_0 := n19_; have HR269_0 := n20_; have HB := n21_; clear n0_ n1_ n2_ n3_ n4_ n5_ n6_ n7_ n8_ n9_ n10_ n11_ n12_ n13_ n14_ n15_ n16_ n17_ n18_ n19_ n20_ n21_; (try clear hb); (try clear hb2); (try clear hk); (try clear hi)))
            go_roundg k1
            case measure => have := HK1.out; omega
            case rel => exact ⟨(wrap64 (x3_1 + 1)), (by first | rfl | (simp; done) | (simp [*]; done)), H', ⟨by have := HK1.out; omega⟩, ⟨by (with_reducible repeat (first | apply Kd.N_alloc | apply Kd.N_drewN | apply Kd.N_drew)); exact Kd.N_mono HO_2.out (fun _ hk => hk.1.1.1.1.1)⟩, ⟨by (with_reducible repeat (first | refine blk_drewN ?_ _ | refine blk_drew ?_ | refine blk_alloc ?_ _)); exact BK177.out⟩, ⟨by repeat (first | (with_reducible first | exact HB.out | apply zC | apply zP | apply zO | refine below_set ?_ GE177.out) | exact HB.out)⟩⟩
           ·
            rw [if_neg c88] at H
            have c88b0 : (t266 == 8) = false := beq_eq_false_iff_ne.mpr c88
            have c88b1 : (t266 != 8) = true := bne_iff_ne.mpr c88
            exact absurd H (by simp)
          ·
           rw [if_neg c87] at H
           have c87b0 : (t260 == 8) = false := beq_eq_false_iff_ne.mpr c87
           have c87b1 : (t260 != 8) = true := bne_iff_ne.mpr c87
           exact absurd H (by simp)
         ·
          rw [if_neg c86] at H
          have c86b0 : (t254 == 8) = false := beq_eq_false_iff_ne.mpr c86
          have c86b1 : (t254 != 8) = true := bne_iff_ne.mpr c86
          exact absurd H (by simp)
        ·
         rw [if_neg c85] at H
         have c85b0 : (t246 == 8) = false := beq_eq_false_iff_ne.mpr c85
         have c85b1 : (t246 != 8) = true := bne_iff_ne.mpr c85
         exact absurd H (by simp)
       ·
        rw [if_neg c84] at H
        have c84b0 : (t243 == 8) = false := beq_eq_false_iff_ne.mpr c84
        have c84b1 : (t243 != 8) = true := bne_iff_ne.mpr c84
        exact absurd H (by simp)
      ·
       rw [if_neg c83] at H
       have c83b0 : (t240 == 8) = false := beq_eq_false_iff_ne.mpr c83
       have c83b1 : (t240 != 8) = true := bne_iff_ne.mpr c83
       exact absurd H (by simp)
     ·
      rw [if_neg c82] at H
      have c82b0 : (t270 == 8) = false := beq_eq_false_iff_ne.mpr c82
      have c82b1 : (t270 != 8) = true := bne_iff_ne.mpr c82
      exact absurd H (by simp)
    ·
     rw [if_neg c72] at H
     exact absurd H (by simp)
   ·
    rw [if_neg c71] at H
    have c71b0 : decide (x3_1 < (y235.length : Int)) = false := decide_eq_false c71
    clear c71
    obtain ⟨y271, hy271⟩ : ∃ y_ : List (S36), y_ = (([(⟨4, 0, 0, 0, 0⟩ : S36)] : List (S36))) := ⟨_, rfl⟩
    replace H : (tNN.l1 k1 y271 0 4 0 0 0 0) = some true := by first | (rw [hy271]; with_reducible exact H) | (have H2_ := (Option.bind_some _ _).symm.trans H; rw [hy271]; with_reducible exact H2_) | (have H2_ := (Option.bind_some _ _).symm.trans H; with_reducible exact H2_) | with_reducible exact H | (rw [hy271]; exact H) | exact H
    have Ny271 := zM hy271
    clear hy271
    have H' := zM H
    clear H
    obtain ⟨Ao106, co106, eo106⟩ := Kd.N_slice HO_2.out
    subst eo106
    have hcz107_0 : wr.cell? ⟨gb177, 0, none⟩ = some (.int .u8 4) := (blk_cell BK177.out 0).trans rfl
    have hcz107_1 : wr.cell? ⟨gb177, 1, none⟩ = some (.int .i64 0) := (blk_cell BK177.out 1).trans rfl
    have hcz107_2 : wr.cell? ⟨gb177, 2, none⟩ = some (.int .i64 0) := (blk_cell BK177.out 2).trans rfl
    have hcz107_3 : wr.cell? ⟨gb177, 3, none⟩ = some (.int .i64 0) := (blk_cell BK177.out 3).trans rfl
    have hcz107_4 : wr.cell? ⟨gb177, 4, none⟩ = some (.int .i64 0) := (blk_cell BK177.out 4).trans rfl
    have hfz107_0 := blk_frozen BK177.out 0
    have hfz107_1 := blk_frozen BK177.out 1
    have hfz107_2 := blk_frozen BK177.out 2
    have hfz107_3 := blk_frozen BK177.out 3
    have hfz107_4 := blk_frozen BK177.out 4
    go_wp2_with (first | ((with_reducible refine gate_dst (N := 175) rfl ?_); (try (refine gate_guard (by rfl) ?_; dsimp only)); refine Kd.R_lit k36 _ 36 ?hg (N := 175) ?hd (xs := ([(⟨4, 0, 0, 0, 0⟩ : S36)] : List (S36))) (inner := [.int .u8 4, .int .i64 0, .int .i64 0, .int .i64 0, .int .i64 0]) (ok := fun _ => True) (okp := fun _ => True) ?hr ?hp (fun _ hk => hk) trivial (Below.refl _ _) (Nat.le_refl _) (by simp) ?_; (case hd => rfl); (case hg => rfl); (case hr => first | (go_simp; done) | (go_simp; rfl)); (case hp => exact (Reps.c5 (show Kd.M k36 _ _ _ (⟨4, 0, 0, 0, 0⟩ : S36) [.int .u8 4, .int .i64 0, .int .i64 0, .int .i64 0, .int .i64 0] from (k36_mkM _ _ _ (⟨4, 0, 0, 0, 0⟩ : S36) )) (Reps.none _ _))); intro v272 w108 ho109 hb hg_ hnew_; clear hg_ hnew_; (first | rw [← Ny271.out] at ho109 | (simp only [Int.reduceToNat] at ho109; rw [← Ny271.out] at ho109)); have n0_ := zM (Kd.N_elder' (by (with_reducible repeat (first | apply Kd.N_alloc | apply Kd.N_drewN | apply Kd.N_drew)); exact HO_2.out) (zB ho109) hb); have n1_ := zM (Kd.R_lower (Kd.R_newB ho109 (g := gb177) (o := .cells #[.int .u8 4, .int .i64 0, .int .i64 0, .int .i64 0, .int .i64 0] 36 (0, 0)) (by (with_reducible repeat (first | refine blk_drewN ?_ _ | refine blk_drew ?_ | refine blk_alloc ?_ _)); exact BK177.out)) (below_size (by repeat (first | (with_reducible first | exact HB.out | apply zC | apply zP | apply zO | refine below_set ?_ GE177.out) | exact HB.out)))); have n2_ := zM (blk_below (g := gb177) (o := .cells #[.int .u8 4, .int .i64 0, .int .i64 0, .int .i64 0, .int .i64 0] 36 (0, 0)) (by (with_reducible repeat (first | refine blk_drewN ?_ _ | refine blk_drew ?_ | refine blk_alloc ?_ _)); exact BK177.out) hb); have n3_ := zM (below_step (by repeat (first | (with_reducible first | exact HB.out | apply zC | apply zP | apply zO | refine below_set ?_ GE177.out) | exact HB.out)) hb); clear HO_2; clear BK177; clear HB; have HO_2 := n0_; have HO273 := n1_; have BK177 := n2_; have HB := n3_; clear n0_ n1_ n2_ n3_; clear hb ho109))
    go_loopg [16, 17] k1 (fun kq v16 v17 w' => ∃ (x16_2 : List (S36)) (x17_2 : Int), v17 = .int .i64 x17_2 ∧ Aside0 (tNN.l1 kq x16_2 x17_2 4 0 0 0 0 = some true) ∧ Aside0 (kq ≤ k1) ∧ Aside0 (Kd.R k36 36 w' w.heap.size (fun k_ => k_ ≠ gb177) v16 x16_2) ∧ Aside0 (w'.heap[gb177]? = some (.cells #[.int .u8 4, .int .i64 0, .int .i64 0, .int .i64 0, .int .i64 0] 36 (0, 0))) ∧ Aside0 (Below w.heap.size w w'))
    case atStart => exact ⟨(y271), (0), (by first | rfl | (simp; done) | (simp [*]; done)), H', ⟨Nat.le_refl _⟩, ⟨by (with_reducible repeat (first | apply zA | apply zN | apply zD)); exact Kd.R_mono HO273.out (fun _ hk => hk.2)⟩, ⟨by (with_reducible repeat (first | refine blk_drewN ?_ _ | refine blk_drew ?_ | refine blk_alloc ?_ _)); exact BK177.out⟩, ⟨by repeat (first | (with_reducible first | exact HB.out | apply zC | apply zP | apply zO | refine below_set ?_ GE177.out) | exact HB.out)⟩⟩
    case round =>
     clear H'
     try clear c2
     try clear p2
     try clear q2
     try clear hx2
     try clear c4
     try clear c5
     try clear p6
     try clear c7
     try clear c8
     try clear c24
     try clear p24
     try clear q24
     try clear hx24
     try clear c25
     try clear p25
     try clear q25
     try clear hx25
     try clear c26
     try clear p26
     try clear q26
     try clear hx26
     try clear c45
     try clear c46
     try clear c47
     try clear c48
     try clear p64
     try clear c71
     try clear c71b0
     try clear c72
     try clear c82
     try clear c82b0
     try clear c82b1
     try clear c83
     try clear c83b0
     try clear c83b1
     try clear c84
     try clear c84b0
     try clear c84b1
     try clear c85
     try clear c85b0
     try clear c85b1
     try clear c86
     try clear c86b0
     try clear c86b1
     try clear c87
     try clear c87b0
     try clear c87b1
     try clear c88
     try clear c88b0
     try clear c88b1
     try clear hcz107_0
     try clear hcz107_1
     try clear hcz107_2
     try clear hcz107_3
     try clear hcz107_4
     try clear hfz107_0
     try clear hfz107_1
     try clear hfz107_2
     try clear hfz107_3
     try clear hfz107_4
     try clear hx249_0
     try clear hx258_0
     try clear hx261_0
     try clear hx269_0
     try clear p249
     try clear p258
     try clear p261
     try clear p269
     try clear q249
     try clear q258
     try clear q261
     try clear q269
     obtain ⟨x16_2, x17_2, rfl, HA, HK2, HO_16, BK177, HB⟩ := hrel
     cases gk with
     | zero => exact absurd HA.out (by simp [tNN.l1])
     | succ k2 =>
      have H := HA.out
      clear HA
      simp only [tNN.l1] at H
      by_cases c110 : x17_2 < 19
      ·
       rw [if_pos c110] at H
       have c110b0 : decide (x17_2 < 19) = true := decide_eq_true c110
       clear c110
       by_cases c111 : x16_2.length < 3518437208883
       ·
        rw [if_pos c111] at H
        have LMc111 := zM c111
        clear c111
        obtain ⟨y274, hy274⟩ : ∃ y_ : List (S36), y_ = (x16_2 ++ [(⟨5, 0, x17_2, 0, 0⟩ : S36)]) := ⟨_, rfl⟩
        replace H : (tNN.l1 k2 y274 (wrap64 (x17_2 + 1)) 4 0 0 0 0) = some true := by first | (rw [hy274]; with_reducible exact H) | (have H2_ := (Option.bind_some _ _).symm.trans H; rw [hy274]; with_reducible exact H2_) | (have H2_ := (Option.bind_some _ _).symm.trans H; with_reducible exact H2_) | with_reducible exact H | (rw [hy274]; exact H) | exact H
        have Ny274 := zM hy274
        clear hy274
        have H' := zM H
        clear H
        go_wp2_with (first | ((with_reducible refine gate_builtin (b := .append) (xs := #[.tmp 180, .tmp 183]) rfl ?_); (try (refine gate_guard (by rfl) ?_; dsimp only)); at_builtin; refine Kd.R_append k36 (w0 := w) w.heap.size rfl (.tmp 180) (.tmp 183) 22 36 (.agg #[(.int .u8 0), (.int .i64 0), (.int .i64 0), (.int .i64 0), (.int .i64 0)]) 40 rfl Try.underlying22 info36 rfl (by decide) (by omega) u16 x16_2 (⟨5, 0, x17_2, 0, 0⟩ : S36) [.int .u8 5, .int .i64 0, .int .i64 x17_2, .int .i64 0, .int .i64 0] (fun k_ => k_ ≠ gb177) (fun _ => False) rfl rfl ?aP (fun _ hk => hk.elim) ?aF ?aO ?aB ?aS ?aL ?_; (case aP => exact k36_mkM _ _ _ (⟨5, 0, x17_2, 0, 0⟩ : S36)); (case aB => exact (by repeat (first | (with_reducible first | exact HB.out | apply zC | apply zP | apply zO | refine below_set ?_ GE177.out) | exact HB.out))); (case aF => exact (fun k_ hk => Kd.freshB (g := gb177) (o := .cells #[.int .u8 4, .int .i64 0, .int .i64 0, .int .i64 0, .int .i64 0] 36 (0, 0)) (by (with_reducible repeat (first | refine blk_drewN ?_ _ | refine blk_drew ?_ | refine blk_alloc ?_ _)); exact BK177.out) k_ hk)); (case aO => exact (by (with_reducible repeat (first | apply zA | apply zN | apply zD)); exact HO_16.out)); (case aS => exact (below_size (by repeat (first | (with_reducible first | exact HB.out | apply zC | apply zP | apply zO | refine below_set ?_ GE177.out) | exact HB.out)))); (case aL => have := LMc111.out; omega); intro v275 w112 ho hb hg hat; rw [← Ny274.out] at ho; have n0_ := zM (blk_grown (g := gb177) (o := .cells #[.int .u8 4, .int .i64 0, .int .i64 0, .int .i64 0, .int .i64 0] 36 (0, 0)) (by (with_reducible repeat (first | refine blk_drewN ?_ _ | refine blk_drew ?_ | refine blk_alloc ?_ _)); exact BK177.out) hg (Kd.R_away HO_16.out (fun _ hk => hk))); have n1_ := zM (hb); have n2_ := zM (ho); clear BK177; clear HB; clear HO_16; have BK177 := n0_; have HB := n1_; have HO276 := n2_; clear n0_ n1_ n2_; clear ho hb hg hat))
        go_roundg k2
        case measure => have := HK1.out; have := HK2.out; omega
        case rel => exact ⟨(y274), (wrap64 (x17_2 + 1)), (by first | rfl | (simp; done) | (simp [*]; done)), H', ⟨by have := HK1.out; have := HK2.out; omega⟩, ⟨by (with_reducible repeat (first | apply zA | apply zN | apply zD)); exact HO276.out⟩, ⟨by (with_reducible repeat (first | refine blk_drewN ?_ _ | refine blk_drew ?_ | refine blk_alloc ?_ _)); exact BK177.out⟩, ⟨by repeat (first | (with_reducible first | exact HB.out | apply zC | apply zP | apply zO | refine below_set ?_ GE177.out) | exact HB.out)⟩⟩
       ·
        rw [if_neg c111] at H
        exact absurd H (by simp)
      ·
       rw [if_neg c110] at H
       have c110b0 : decide (x17_2 < 19) = false := decide_eq_false c110
       clear c110
       replace H := Option.bind_eq_some_iff.mp H
       obtain ⟨⟨t277, t278⟩, A1130, H⟩ := H
       replace H : ((nodes_Node.f k2 5 0 0 (([x16_2] : List (List (S36))))).bind fun bt282 => (tNN.l2 k2 t277 t278 bt282.2 (([(⟨4, 0, 0, 0, 0⟩ : S36)] : List (S36))) 0 0 4 0 0 0 0)) = some true := H
       have A113 := zM A1130
       clear A1130
       obtain ⟨y279, hy279⟩ : ∃ y_ : List (List (S36)), y_ = (([x16_2] : List (List (S36)))) := ⟨_, rfl⟩
       replace H : ((nodes_Node.f k2 5 0 0 y279).bind fun bt282 => (tNN.l2 k2 t277 t278 bt282.2 (([(⟨4, 0, 0, 0, 0⟩ : S36)] : List (S36))) 0 0 4 0 0 0 0)) = some true := by first | (rw [hy279]; with_reducible exact H) | (have H2_ := (Option.bind_some _ _).symm.trans H; rw [hy279]; with_reducible exact H2_) | (have H2_ := (Option.bind_some _ _).symm.trans H; with_reducible exact H2_) | with_reducible exact H | (rw [hy279]; exact H) | exact H
       have Ny279 := zM hy279
       clear hy279
       replace H := Option.bind_eq_some_iff.mp H
       obtain ⟨⟨t282, t283⟩, A1140, H⟩ := H
       replace H : (tNN.l2 k2 t277 t278 t283 (([(⟨4, 0, 0, 0, 0⟩ : S36)] : List (S36))) 0 0 4 0 0 0 0) = some true := H
       have A114 := zM A1140
       clear A1140
       obtain ⟨y286, hy286⟩ : ∃ y_ : List (S36), y_ = (([(⟨4, 0, 0, 0, 0⟩ : S36)] : List (S36))) := ⟨_, rfl⟩
       replace H : (tNN.l2 k2 t277 t278 t283 y286 0 0 4 0 0 0 0) = some true := by first | (rw [hy286]; with_reducible exact H) | (have H2_ := (Option.bind_some _ _).symm.trans H; rw [hy286]; with_reducible exact H2_) | (have H2_ := (Option.bind_some _ _).symm.trans H; with_reducible exact H2_) | with_reducible exact H | (rw [hy286]; exact H) | exact H
       have Ny286 := zM hy286
       clear hy286
       have HC115 := zM H
       clear H
       obtain ⟨Ao116, co116, eo116⟩ := Kd.R_slice HO_16.out
       subst eo116
       go_upto_block 4 with (first | ((with_reducible refine gate_callee (f := 38) rfl ?_); refine goesL_ (some 187) rfl rfl Try.func38 (by kernel_rfl) rfl #[.slice Ao116 x16_2.length co116] rfl (by (try simp only [List.map_toArray, List.map_cons, List.map_nil]); first | done | rfl | (simp only [List.length_drop, List.length_take]; rfl)) ?_; (with_reducible refine (nodes_Depth.calls k2 _ _ x16_2 t277 t278 _ ?side1 ?side2 A113.out).mono ?_); (case side1 => repeat (first | exact (Kd.R_reads' HO_16.out).2.2 | (with_reducible refine zCA ?_ _) | (with_reducible refine zCN ?_ _) | (with_reducible refine zCD ?_))); (case side2 => exact (Kd.R_reads' HO_16.out).2.1); rintro e w117 ⟨rfl, hb⟩; refine ⟨_, rfl, ?_⟩; have n0_ := zM (Kd.R_below (by (with_reducible repeat (first | apply zA | apply zN | apply zD)); exact HO_16.out) hb); have n1_ := zM (blk_below (g := gb177) (o := .cells #[.int .u8 4, .int .i64 0, .int .i64 0, .int .i64 0, .int .i64 0] 36 (0, 0)) (by (with_reducible repeat (first | refine blk_drewN ?_ _ | refine blk_drew ?_ | refine blk_alloc ?_ _)); exact BK177.out) hb); have n2_ := zM (below_step (by repeat (first | (with_reducible first | exact HB.out | apply zC | apply zP | apply zO | refine below_set ?_ GE177.out) | exact HB.out)) hb); clear HO_16; clear BK177; clear HB; have HO_16 := n0_; have BK177 := n1_; have HB := n2_; clear n0_ n1_ n2_; (try clear hb); (try clear hb2); (try clear hk); (try clear hi)) | ((with_reducible refine gate_dst (N := 192) rfl ?_); (try (refine gate_guard (by rfl) ?_; dsimp only)); refine Kd.N_lit (Kd.slice 36 k36) _ 22 ?hg (N' := 192) ?hd (xs := ([x16_2] : List (List (S36)))) (inner := [.slice Ao116 x16_2.length co116]) (ok := (fun k_ => k_ ≠ gb177)) (okp := (fun k_ => k_ ≠ gb177)) ?hr ?hp (fun _ hk => hk) ((show ∀ k_, w117.heap.size ≤ k_ → (fun k_ => k_ ≠ gb177) k_ from fun k_ hk => Kd.freshB (g := gb177) (o := .cells #[.int .u8 4, .int .i64 0, .int .i64 0, .int .i64 0, .int .i64 0] 36 (0, 0)) (by (with_reducible repeat (first | refine blk_drewN ?_ _ | refine blk_drew ?_ | refine blk_alloc ?_ _)); exact BK177.out) k_ hk) _ (Nat.le_refl _)) (Below.refl _ _) (Nat.le_refl _) (by simp) ?_; (case hd => rfl); (case hg => rfl); (case hr => first | (go_simp; done) | (go_simp; rfl)); (case hp => exact (Reps.one (show Kd.FK (Kd.slice 36 k36) _ _ x16_2 [.slice Ao116 x16_2.length co116] from (Kd.FK_slice_mk (Kd.R_reads' (Kd.R_mono (ok' := (fun k_ => k_ ≠ gb177)) (HO_16.out) (fun k_ hk => hk))).2.1 (Kd.R_F (Kd.R_mono (ok' := (fun k_ => k_ ≠ gb177)) (HO_16.out) (fun k_ hk => hk))))) (Reps.none _ _))); intro v280 w118 ho119 hb hg_ hnew_; clear hg_ hnew_; (first | rw [← Ny279.out] at ho119 | (simp only [Int.reduceToNat] at ho119; rw [← Ny279.out] at ho119)); have n0_ := zM (Kd.N_lower ho119 (below_size (by repeat (first | (with_reducible first | exact HB.out | apply zC | apply zP | apply zO | refine below_set ?_ GE177.out) | exact HB.out)))); have n1_ := zM (blk_below (g := gb177) (o := .cells #[.int .u8 4, .int .i64 0, .int .i64 0, .int .i64 0, .int .i64 0] 36 (0, 0)) (by (with_reducible repeat (first | refine blk_drewN ?_ _ | refine blk_drew ?_ | refine blk_alloc ?_ _)); exact BK177.out) hb); have n2_ := zM (below_step (by repeat (first | (with_reducible first | exact HB.out | apply zC | apply zP | apply zO | refine below_set ?_ GE177.out) | exact HB.out)) hb); clear BK177; clear HB; clear HO_16; have HO281 := n0_; have BK177 := n1_; have HB := n2_; clear n0_ n1_ n2_; clear hb ho119; obtain ⟨Ao120, co120, eo120⟩ := Kd.N_slice HO281.out; subst eo120) | ((with_reducible refine gate_callee (f := 46) rfl ?_); refine goesL_ (some 193) rfl rfl Try.func46 (by kernel_rfl) rfl #[.int .u8 5, .int .i64 0, .int .i64 0, .slice Ao120 y279.length co120] rfl (by (try simp only [List.map_toArray, List.map_cons, List.map_nil]); first | done | rfl | (simp only [List.length_drop, List.length_take]; rfl)) ?_; (with_reducible refine (nodes_Node.calls k2 5 0 0 _ _ y279 t282 t283 _ ?side1 ?side2 A114.out).mono ?_); (case side1 => repeat (first | exact (Kd.N_reads' HO281.out).2.2 | (with_reducible refine zCA ?_ _) | (with_reducible refine zCN ?_ _) | (with_reducible refine zCD ?_))); (case side2 => exact (Kd.N_reads' HO281.out).2.1); rintro e w121 ⟨v284, rfl, ho0, hb⟩; refine ⟨_, rfl, ?_⟩; have n0_ := zM (Kd.N_elder' (by (with_reducible repeat (first | apply Kd.N_alloc | apply Kd.N_drewN | apply Kd.N_drew)); exact HO281.out) (zB ho0) hb); have n1_ := zM (Kd.R_lower (Kd.R_newB ho0 (g := gb177) (o := .cells #[.int .u8 4, .int .i64 0, .int .i64 0, .int .i64 0, .int .i64 0] 36 (0, 0)) (by (with_reducible repeat (first | refine blk_drewN ?_ _ | refine blk_drew ?_ | refine blk_alloc ?_ _)); exact BK177.out)) (below_size (by repeat (first | (with_reducible first | exact HB.out | apply zC | apply zP | apply zO | refine below_set ?_ GE177.out) | exact HB.out)))); have n2_ := zM (blk_below (g := gb177) (o := .cells #[.int .u8 4, .int .i64 0, .int .i64 0, .int .i64 0, .int .i64 0] 36 (0, 0)) (by (with_reducible repeat (first | refine blk_drewN ?_ _ | refine blk_drew ?_ | refine blk_alloc ?_ _)); exact BK177.out) hb); have n3_ := zM (below_step (by repeat (first | (with_reducible first | exact HB.out | apply zC | apply zP | apply zO | refine below_set ?_ GE177.out) | exact HB.out)) hb); clear HO281; clear BK177; clear HB; have HO281 := n0_; have HO285 := n1_; have BK177 := n2_; have HB := n3_; clear n0_ n1_ n2_ n3_; (try clear hb); (try clear hb2); (try clear hk); (try clear hi); (try clear ho0); have hcz122_0 : w121.cell? ⟨gb177, 0, none⟩ = some (.int .u8 4) := (blk_cell BK177.out 0).trans rfl; have hcz122_1 : w121.cell? ⟨gb177, 1, none⟩ = some (.int .i64 0) := (blk_cell BK177.out 1).trans rfl; have hcz122_2 : w121.cell? ⟨gb177, 2, none⟩ = some (.int .i64 0) := (blk_cell BK177.out 2).trans rfl; have hcz122_3 : w121.cell? ⟨gb177, 3, none⟩ = some (.int .i64 0) := (blk_cell BK177.out 3).trans rfl; have hcz122_4 : w121.cell? ⟨gb177, 4, none⟩ = some (.int .i64 0) := (blk_cell BK177.out 4).trans rfl; have hfz122_0 := blk_frozen BK177.out 0; have hfz122_1 := blk_frozen BK177.out 1; have hfz122_2 := blk_frozen BK177.out 2; have hfz122_3 := blk_frozen BK177.out 3; have hfz122_4 := blk_frozen BK177.out 4) | ((with_reducible refine gate_dst (N := 197) rfl ?_); (try (refine gate_guard (by rfl) ?_; dsimp only)); refine Kd.R_lit k36 _ 36 ?hg (N := 197) ?hd (xs := ([(⟨4, 0, 0, 0, 0⟩ : S36)] : List (S36))) (inner := [.int .u8 4, .int .i64 0, .int .i64 0, .int .i64 0, .int .i64 0]) (ok := fun _ => True) (okp := fun _ => True) ?hr ?hp (fun _ hk => hk) trivial (Below.refl _ _) (Nat.le_refl _) (by simp) ?_; (case hd => rfl); (case hg => rfl); (case hr => first | (go_simp; done) | (go_simp; rfl)); (case hp => exact (Reps.c5 (show Kd.M k36 _ _ _ (⟨4, 0, 0, 0, 0⟩ : S36) [.int .u8 4, .int .i64 0, .int .i64 0, .int .i64 0, .int .i64 0] from (k36_mkM _ _ _ (⟨4, 0, 0, 0, 0⟩ : S36) )) (Reps.none _ _))); intro v287 w123 ho124 hb hg_ hnew_; clear hg_ hnew_; (first | rw [← Ny286.out] at ho124 | (simp only [Int.reduceToNat] at ho124; rw [← Ny286.out] at ho124)); have n0_ := zM (Kd.N_elder' (by (with_reducible repeat (first | apply Kd.N_alloc | apply Kd.N_drewN | apply Kd.N_drew)); exact HO281.out) (zB ho124) hb); have n1_ := zM (zE (by (with_reducible repeat (first | apply zA | apply zN | apply zD)); exact HO285.out) (zB ho124) hb); have n2_ := zM (Kd.R_lower (Kd.R_newB (zW ho124 (zL (by (with_reducible repeat (first | apply zA | apply zN | apply zD)); exact HO285.out))) (g := gb177) (o := .cells #[.int .u8 4, .int .i64 0, .int .i64 0, .int .i64 0, .int .i64 0] 36 (0, 0)) (by (with_reducible repeat (first | refine blk_drewN ?_ _ | refine blk_drew ?_ | refine blk_alloc ?_ _)); exact BK177.out)) (below_size (by repeat (first | (with_reducible first | exact HB.out | apply zC | apply zP | apply zO | refine below_set ?_ GE177.out) | exact HB.out)))); have n3_ := zM (blk_below (g := gb177) (o := .cells #[.int .u8 4, .int .i64 0, .int .i64 0, .int .i64 0, .int .i64 0] 36 (0, 0)) (by (with_reducible repeat (first | refine blk_drewN ?_ _ | refine blk_drew ?_ | refine blk_alloc ?_ _)); exact BK177.out) hb); have n4_ := zM (below_step (by repeat (first | (with_reducible first | exact HB.out | apply zC | apply zP | apply zO | refine below_set ?_ GE177.out) | exact HB.out)) hb); clear HO281; clear HO285; clear BK177; clear HB; have HO281 := n0_; have HO285 := n1_; have HO288 := n2_; have BK177 := n3_; have HB := n4_; clear n0_ n1_ n2_ n3_ n4_; clear hb ho124))
       (try simp only [Act.put, List.setIfInBounds_toArray, List.set_cons_zero, List.set_cons_succ])
       go_cut [23] (fun v23 wc => ∃ (kq : Nat) (x23_114 : Int), v23 = .int .i64 x23_114 ∧ Aside0 (tNN.j3 kq t277 t278 t283 x23_114 = some true) ∧ Aside0 (kq ≤ k2) ∧ Aside0 (wc.heap[gb177]? = some (.cells #[.int .u8 4, .int .i64 0, .int .i64 0, .int .i64 0, .int .i64 0] 36 (0, 0))) ∧ Aside0 (Below w.heap.size w wc))
       case first =>
        have H := HC115.out
        clear HC115
        have H' := zM H
        clear H
        go_wp2
        go_loopg [22, 23, 24] k2 (fun kq v22 v23 v24 w' => ∃ (x22_3 : List (S36)) (x23_3 : Int) (x24_3 : Int), v23 = .int .i64 x23_3 ∧ v24 = .int .i64 x24_3 ∧ Aside0 (tNN.l2 kq t277 t278 t283 x22_3 x23_3 x24_3 4 0 0 0 0 = some true) ∧ Aside0 (kq ≤ k2) ∧ Aside0 (Kd.R k36 36 w' w.heap.size (fun k_ => k_ ≠ gb177) v22 x22_3) ∧ Aside0 (w'.heap[gb177]? = some (.cells #[.int .u8 4, .int .i64 0, .int .i64 0, .int .i64 0, .int .i64 0] 36 (0, 0))) ∧ Aside0 (Below w.heap.size w w'))
        case atStart => exact ⟨(y286), (0), (0), (by first | rfl | (simp; done) | (simp [*]; done)), (by first | rfl | (simp; done) | (simp [*]; done)), H', ⟨Nat.le_refl _⟩, ⟨by (with_reducible repeat (first | apply zA | apply zN | apply zD)); exact Kd.R_mono HO288.out (fun _ hk => hk.2)⟩, ⟨by (with_reducible repeat (first | refine blk_drewN ?_ _ | refine blk_drew ?_ | refine blk_alloc ?_ _)); exact BK177.out⟩, ⟨by repeat (first | (with_reducible first | exact HB.out | apply zC | apply zP | apply zO | refine below_set ?_ GE177.out) | exact HB.out)⟩⟩
        case round =>
         clear H'
         try clear c1
         try clear c2
         try clear p2
         try clear q2
         try clear hx2
         try clear c3
         try clear c4
         try clear c5
         try clear p6
         try clear c7
         try clear c8
         try clear c11
         try clear c24
         try clear p24
         try clear q24
         try clear hx24
         try clear c25
         try clear p25
         try clear q25
         try clear hx25
         try clear c26
         try clear p26
         try clear q26
         try clear hx26
         try clear c38
         try clear c45
         try clear c46
         try clear c47
         try clear c48
         try clear p64
         try clear c71
         try clear c71b0
         try clear c72
         try clear c82
         try clear c82b0
         try clear c82b1
         try clear c83
         try clear c83b0
         try clear c83b1
         try clear c84
         try clear c84b0
         try clear c84b1
         try clear c85
         try clear c85b0
         try clear c85b1
         try clear c86
         try clear c86b0
         try clear c86b1
         try clear c87
         try clear c87b0
         try clear c87b1
         try clear c88
         try clear c88b0
         try clear c88b1
         try clear c110
         try clear c110b0
         try clear c111
         try clear hcz107_0
         try clear hcz107_1
         try clear hcz107_2
         try clear hcz107_3
         try clear hcz107_4
         try clear hcz122_0
         try clear hcz122_1
         try clear hcz122_2
         try clear hcz122_3
         try clear hcz122_4
         try clear hfz107_0
         try clear hfz107_1
         try clear hfz107_2
         try clear hfz107_3
         try clear hfz107_4
         try clear hfz122_0
         try clear hfz122_1
         try clear hfz122_2
         try clear hfz122_3
         try clear hfz122_4
         try clear hx249_0
         try clear hx258_0
         try clear hx261_0
         try clear hx269_0
         try clear p2
         try clear p24
         try clear p249
         try clear p25
         try clear p258
         try clear p26
         try clear p261
         try clear p269
         try clear p6
         try clear p64
         try clear q2
         try clear q24
         try clear q249
         try clear q25
         try clear q258
         try clear q26
         try clear q261
         try clear q269
         obtain ⟨x22_3, x23_3, x24_3, rfl, rfl, HA, HK3, HO_22, BK177, HB⟩ := hrel
         cases gk with
         | zero => exact absurd HA.out (by simp [tNN.l2])
         | succ k3 =>
          have H := HA.out
          clear HA
          simp only [tNN.l2] at H
          by_cases c125 : x24_3 < 30
          ·
           rw [if_pos c125] at H
           have c125b0 : decide (x24_3 < 30) = true := decide_eq_true c125
           clear c125
           (first | rw [c125b0] | (simp only [i64_w, i32_w]; rw [c125b0]) | rw [c125b1] | skip)
           by_cases c126 : x23_3 = 0
           ·
            rw [if_pos c126] at H
            have c126b0 : (x23_3 == 0) = true := beq_iff_eq.mpr c126
            have c126b1 : (x23_3 != 0) = false := bne_eq_false_iff_eq.mpr c126
            clear c126
            obtain ⟨y289, hy289⟩ : ∃ y_ : List (S36), y_ = (([(⟨4, 0, 0, 0, 0⟩ : S36)] : List (S36))) := ⟨_, rfl⟩
            replace H : ((nodes_Node.f k3 8 0 0 (([x22_3, y289] : List (List (S36))))).bind fun bt295 => (tNN.l2 k3 t277 t278 t283 bt295.1 bt295.2 (wrap64 (x24_3 + 1)) 4 0 0 0 0)) = some true := by first | (rw [hy289]; with_reducible exact H) | (have H2_ := (Option.bind_some _ _).symm.trans H; rw [hy289]; with_reducible exact H2_) | (have H2_ := (Option.bind_some _ _).symm.trans H; with_reducible exact H2_) | with_reducible exact H | (rw [hy289]; exact H) | exact H
            have Ny289 := zM hy289
            clear hy289
            obtain ⟨y292, hy292⟩ : ∃ y_ : List (List (S36)), y_ = (([x22_3, y289] : List (List (S36)))) := ⟨_, rfl⟩
            replace H : ((nodes_Node.f k3 8 0 0 y292).bind fun bt295 => (tNN.l2 k3 t277 t278 t283 bt295.1 bt295.2 (wrap64 (x24_3 + 1)) 4 0 0 0 0)) = some true := by first | (rw [hy292]; with_reducible exact H) | (have H2_ := (Option.bind_some _ _).symm.trans H; rw [hy292]; with_reducible exact H2_) | (have H2_ := (Option.bind_some _ _).symm.trans H; with_reducible exact H2_) | with_reducible exact H | (rw [hy292]; exact H) | exact H
            have Ny292 := zM hy292
            clear hy292
            replace H := Option.bind_eq_some_iff.mp H
            obtain ⟨⟨t295, t296⟩, A1270, H⟩ := H
            replace H : (tNN.l2 k3 t277 t278 t283 t295 t296 (wrap64 (x24_3 + 1)) 4 0 0 0 0) = some true := H
            have A127 := zM A1270
            clear A1270
            have H' := zM H
            clear H
            have hcz128_0 : wr.cell? ⟨gb177, 0, none⟩ = some (.int .u8 4) := (blk_cell BK177.out 0).trans rfl
            have hcz128_1 : wr.cell? ⟨gb177, 1, none⟩ = some (.int .i64 0) := (blk_cell BK177.out 1).trans rfl
            have hcz128_2 : wr.cell? ⟨gb177, 2, none⟩ = some (.int .i64 0) := (blk_cell BK177.out 2).trans rfl
            have hcz128_3 : wr.cell? ⟨gb177, 3, none⟩ = some (.int .i64 0) := (blk_cell BK177.out 3).trans rfl
            have hcz128_4 : wr.cell? ⟨gb177, 4, none⟩ = some (.int .i64 0) := (blk_cell BK177.out 4).trans rfl
            have hfz128_0 := blk_frozen BK177.out 0
            have hfz128_1 := blk_frozen BK177.out 1
            have hfz128_2 := blk_frozen BK177.out 2
            have hfz128_3 := blk_frozen BK177.out 3
            have hfz128_4 := blk_frozen BK177.out 4
            go_wp2_with (first | ((with_reducible refine gate_dst (N := 209) rfl ?_); (try (refine gate_guard (by rfl) ?_; dsimp only)); refine Kd.R_lit k36 _ 36 ?hg (N := 209) ?hd (xs := ([(⟨4, 0, 0, 0, 0⟩ : S36)] : List (S36))) (inner := [.int .u8 4, .int .i64 0, .int .i64 0, .int .i64 0, .int .i64 0]) (ok := fun _ => True) (okp := fun _ => True) ?hr ?hp (fun _ hk => hk) trivial (Below.refl _ _) (Nat.le_refl _) (by simp) ?_; (case hd => rfl); (case hg => rfl); (case hr => first | (go_simp; done) | (go_simp; rfl)); (case hp => exact (Reps.c5 (show Kd.M k36 _ _ _ (⟨4, 0, 0, 0, 0⟩ : S36) [.int .u8 4, .int .i64 0, .int .i64 0, .int .i64 0, .int .i64 0] from (k36_mkM _ _ _ (⟨4, 0, 0, 0, 0⟩ : S36) )) (Reps.none _ _))); intro v290 w129 ho130 hb hg_ hnew_; clear hg_ hnew_; (first | rw [← Ny289.out] at ho130 | (simp only [Int.reduceToNat] at ho130; rw [← Ny289.out] at ho130)); have n0_ := zM (zE (by (with_reducible repeat (first | apply zA | apply zN | apply zD)); exact HO_22.out) (zB ho130) hb); have n1_ := zM (Kd.R_lower (Kd.R_newB (zW ho130 (zL (by (with_reducible repeat (first | apply zA | apply zN | apply zD)); exact HO_22.out))) (g := gb177) (o := .cells #[.int .u8 4, .int .i64 0, .int .i64 0, .int .i64 0, .int .i64 0] 36 (0, 0)) (by (with_reducible repeat (first | refine blk_drewN ?_ _ | refine blk_drew ?_ | refine blk_alloc ?_ _)); exact BK177.out)) (below_size (by repeat (first | (with_reducible first | exact HB.out | apply zC | apply zP | apply zO | refine below_set ?_ GE177.out) | exact HB.out)))); have n2_ := zM (blk_below (g := gb177) (o := .cells #[.int .u8 4, .int .i64 0, .int .i64 0, .int .i64 0, .int .i64 0] 36 (0, 0)) (by (with_reducible repeat (first | refine blk_drewN ?_ _ | refine blk_drew ?_ | refine blk_alloc ?_ _)); exact BK177.out) hb); have n3_ := zM (below_step (by repeat (first | (with_reducible first | exact HB.out | apply zC | apply zP | apply zO | refine below_set ?_ GE177.out) | exact HB.out)) hb); clear HO_22; clear BK177; clear HB; have HO_22 := n0_; have HO291 := n1_; have BK177 := n2_; have HB := n3_; clear n0_ n1_ n2_ n3_; clear hb ho130; obtain ⟨Ao131, co131, eo131⟩ := Kd.R_slice HO_22.out; subst eo131; obtain ⟨Ao132, co132, eo132⟩ := Kd.R_slice HO291.out; subst eo132) | ((with_reducible refine gate_dst (N := 210) rfl ?_); (try (refine gate_guard (by rfl) ?_; dsimp only)); refine Kd.N_lit (Kd.slice 36 k36) _ 22 ?hg (N' := 210) ?hd (xs := ([x22_3, y289] : List (List (S36)))) (inner := [.slice Ao131 x22_3.length co131, .slice Ao132 y289.length co132]) (ok := (fun k_ => k_ ≠ gb177)) (okp := (fun k_ => k_ ≠ gb177)) ?hr ?hp (fun _ hk => hk) ((show ∀ k_, w129.heap.size ≤ k_ → (fun k_ => k_ ≠ gb177) k_ from fun k_ hk => Kd.freshB (g := gb177) (o := .cells #[.int .u8 4, .int .i64 0, .int .i64 0, .int .i64 0, .int .i64 0] 36 (0, 0)) (by (with_reducible repeat (first | refine blk_drewN ?_ _ | refine blk_drew ?_ | refine blk_alloc ?_ _)); exact BK177.out) k_ hk) _ (Nat.le_refl _)) (Below.refl _ _) (Nat.le_refl _) (by simp) ?_; (case hd => rfl); (case hg => rfl); (case hr => first | (go_simp; done) | (go_simp; rfl)); (case hp => exact (Reps.one (show Kd.FK (Kd.slice 36 k36) _ _ x22_3 [.slice Ao131 x22_3.length co131] from (Kd.FK_slice_mk (Kd.R_reads' (Kd.R_mono (ok' := (fun k_ => k_ ≠ gb177)) (HO_22.out) (fun k_ hk => hk.1))).2.1 (Kd.R_F (Kd.R_mono (ok' := (fun k_ => k_ ≠ gb177)) (HO_22.out) (fun k_ hk => hk.1))))) (Reps.one (show Kd.FK (Kd.slice 36 k36) _ _ y289 [.slice Ao132 y289.length co132] from (Kd.FK_slice_mk (Kd.R_reads' (Kd.R_mono (ok' := (fun k_ => k_ ≠ gb177)) (HO291.out) (fun k_ hk => hk.2))).2.1 (Kd.R_F (Kd.R_mono (ok' := (fun k_ => k_ ≠ gb177)) (HO291.out) (fun k_ hk => hk.2))))) (Reps.none _ _)))); intro v293 w133 ho134 hb hg_ hnew_; clear hg_ hnew_; (first | rw [← Ny292.out] at ho134 | (simp only [Int.reduceToNat] at ho134; rw [← Ny292.out] at ho134)); have n0_ := zM (Kd.N_lower ho134 (below_size (by repeat (first | (with_reducible first | exact HB.out | apply zC | apply zP | apply zO | refine below_set ?_ GE177.out) | exact HB.out)))); have n1_ := zM (blk_below (g := gb177) (o := .cells #[.int .u8 4, .int .i64 0, .int .i64 0, .int .i64 0, .int .i64 0] 36 (0, 0)) (by (with_reducible repeat (first | refine blk_drewN ?_ _ | refine blk_drew ?_ | refine blk_alloc ?_ _)); exact BK177.out) hb); have n2_ := zM (below_step (by repeat (first | (with_reducible first | exact HB.out | apply zC | apply zP | apply zO | refine below_set ?_ GE177.out) | exact HB.out)) hb); clear BK177; clear HB; clear HO291; clear HO_22; have HO294 := n0_; have BK177 := n1_; have HB := n2_; clear n0_ n1_ n2_; clear hb ho134; obtain ⟨Ao135, co135, eo135⟩ := Kd.N_slice HO294.out; subst eo135) | ((with_reducible refine gate_callee (f := 46) rfl ?_); refine goesL_ (some 211) rfl rfl Try.func46 (by kernel_rfl) rfl #[.int .u8 8, .int .i64 0, .int .i64 0, .slice Ao135 y292.length co135] rfl (by (try simp only [List.map_toArray, List.map_cons, List.map_nil]); first | done | rfl | (simp only [List.length_drop, List.length_take]; rfl)) ?_; (with_reducible refine (nodes_Node.calls k3 8 0 0 _ _ y292 t295 t296 _ ?side1 ?side2 A127.out).mono ?_); (case side1 => repeat (first | exact (Kd.N_reads' HO294.out).2.2 | (with_reducible refine zCA ?_ _) | (with_reducible refine zCN ?_ _) | (with_reducible refine zCD ?_))); (case side2 => exact (Kd.N_reads' HO294.out).2.1); rintro e w136 ⟨v297, rfl, ho0, hb⟩; refine ⟨_, rfl, ?_⟩; have n0_ := zM (Kd.N_elder' (by (with_reducible repeat (first | apply Kd.N_alloc | apply Kd.N_drewN | apply Kd.N_drew)); exact HO294.out) (zB ho0) hb); have n1_ := zM (Kd.R_lower (Kd.R_newB ho0 (g := gb177) (o := .cells #[.int .u8 4, .int .i64 0, .int .i64 0, .int .i64 0, .int .i64 0] 36 (0, 0)) (by (with_reducible repeat (first | refine blk_drewN ?_ _ | refine blk_drew ?_ | refine blk_alloc ?_ _)); exact BK177.out)) (below_size (by repeat (first | (with_reducible first | exact HB.out | apply zC | apply zP | apply zO | refine below_set ?_ GE177.out) | exact HB.out)))); have n2_ := zM (blk_below (g := gb177) (o := .cells #[.int .u8 4, .int .i64 0, .int .i64 0, .int .i64 0, .int .i64 0] 36 (0, 0)) (by (with_reducible repeat (first | refine blk_drewN ?_ _ | refine blk_drew ?_ | refine blk_alloc ?_ _)); exact BK177.out) hb); have n3_ := zM (below_step (by repeat (first | (with_reducible first | exact HB.out | apply zC | apply zP | apply zO | refine below_set ?_ GE177.out) | exact HB.out)) hb); clear HO294; clear BK177; clear HB; have HO294 := n0_; have HO298 := n1_; have BK177 := n2_; have HB := n3_; clear n0_ n1_ n2_ n3_; (try clear hb); (try clear hb2); (try clear hk); (try clear hi); (try clear ho0)))
            go_roundg k3
            case measure => have := HK1.out; have := HK2.out; have := HK3.out; omega
            case rel => exact ⟨(t295), (t296), (wrap64 (x24_3 + 1)), (by first | rfl | (simp; done) | (simp [*]; done)), (by first | rfl | (simp; done) | (simp [*]; done)), H', ⟨by have := HK1.out; have := HK2.out; have := HK3.out; omega⟩, ⟨by (with_reducible repeat (first | apply zA | apply zN | apply zD)); exact Kd.R_mono HO298.out (fun _ hk => hk.2)⟩, ⟨by (with_reducible repeat (first | refine blk_drewN ?_ _ | refine blk_drew ?_ | refine blk_alloc ?_ _)); exact BK177.out⟩, ⟨by repeat (first | (with_reducible first | exact HB.out | apply zC | apply zP | apply zO | refine below_set ?_ GE177.out) | exact HB.out)⟩⟩
           ·
            rw [if_neg c126] at H
            have c126b0 : (x23_3 == 0) = false := beq_eq_false_iff_ne.mpr c126
            have c126b1 : (x23_3 != 0) = true := bne_iff_ne.mpr c126
            have H' := zM H
            clear H
            go_wp2
            go_meet
            case rel => exact ⟨_, (x23_3), (by first | rfl | (simp; done) | (simp [*]; done)), H', ⟨by have := HK1.out; have := HK2.out; have := HK3.out; first | omega | exact Nat.le_refl _⟩, ⟨by (with_reducible repeat (first | refine blk_drewN ?_ _ | refine blk_drew ?_ | refine blk_alloc ?_ _)); exact BK177.out⟩, ⟨by repeat (first | (with_reducible first | exact HB.out | apply zC | apply zP | apply zO | refine below_set ?_ GE177.out) | exact HB.out)⟩⟩
          ·
           rw [if_neg c125] at H
           have c125b0 : decide (x24_3 < 30) = false := decide_eq_false c125
           clear c125
           (first | rw [c125b0] | (simp only [i64_w, i32_w]; rw [c125b0]) | rw [c125b1] | skip)
           have H' := zM H
           clear H
           go_wp2
           go_meet
           case rel => exact ⟨_, (x23_3), (by first | rfl | (simp; done) | (simp [*]; done)), H', ⟨by have := HK1.out; have := HK2.out; have := HK3.out; first | omega | exact Nat.le_refl _⟩, ⟨by (with_reducible repeat (first | refine blk_drewN ?_ _ | refine blk_drew ?_ | refine blk_alloc ?_ _)); exact BK177.out⟩, ⟨by repeat (first | (with_reducible first | exact HB.out | apply zC | apply zP | apply zO | refine below_set ?_ GE177.out) | exact HB.out)⟩⟩
       case rest =>
        clear HC115
        try clear c1
        try clear c2
        try clear p2
        try clear q2
        try clear hx2
        try clear c3
        try clear c4
        try clear c5
        try clear p6
        try clear c7
        try clear c8
        try clear c11
        try clear c12
        try clear c24
        try clear p24
        try clear q24
        try clear hx24
        try clear c25
        try clear p25
        try clear q25
        try clear hx25
        try clear c26
        try clear p26
        try clear q26
        try clear hx26
        try clear c38
        try clear c45
        try clear c46
        try clear c47
        try clear c48
        try clear p64
        try clear c71
        try clear c71b0
        try clear c72
        try clear c82
        try clear c82b0
        try clear c82b1
        try clear c83
        try clear c83b0
        try clear c83b1
        try clear c84
        try clear c84b0
        try clear c84b1
        try clear c85
        try clear c85b0
        try clear c85b1
        try clear c86
        try clear c86b0
        try clear c86b1
        try clear c87
        try clear c87b0
        try clear c87b1
        try clear c88
        try clear c88b0
        try clear c88b1
        try clear c110
        try clear c110b0
        try clear c111
        try clear c125
        try clear c125b0
        try clear c126
        try clear c126b0
        try clear c126b1
        try clear hcz107_0
        try clear hcz107_1
        try clear hcz107_2
        try clear hcz107_3
        try clear hcz107_4
        try clear hcz122_0
        try clear hcz122_1
        try clear hcz122_2
        try clear hcz122_3
        try clear hcz122_4
        try clear hcz128_0
        try clear hcz128_1
        try clear hcz128_2
        try clear hcz128_3
        try clear hcz128_4
        try clear hfz107_0
        try clear hfz107_1
        try clear hfz107_2
        try clear hfz107_3
        try clear hfz107_4
        try clear hfz122_0
        try clear hfz122_1
        try clear hfz122_2
        try clear hfz122_3
        try clear hfz122_4
        try clear hfz128_0
        try clear hfz128_1
        try clear hfz128_2
        try clear hfz128_3
        try clear hfz128_4
        try clear hx249_0
        try clear hx258_0
        try clear hx261_0
        try clear hx269_0
        try clear p2
        try clear p24
        try clear p249
        try clear p25
        try clear p258
        try clear p26
        try clear p261
        try clear p269
        try clear p6
        try clear p64
        try clear q2
        try clear q24
        try clear q249
        try clear q25
        try clear q258
        try clear q26
        try clear q261
        try clear q269
        obtain ⟨kq, x23_114, rfl, HA, HJ114, BK177, HB⟩ := hcut
        cases kq with
        | zero => exact absurd HA.out (by simp [tNN.j3])
        | succ kj114 =>
         have H := HA.out
         clear HA
         simp only [tNN.j3] at H
         replace H := Option.bind_eq_some_iff.mp H
         obtain ⟨t299, A1370, H⟩ := H
         replace H : ((nodes_Size.f kj114 t299 5).bind fun bt302 => ((tailwaterlaw04_example.f).bind fun t304 => ((nodes_Part.f kj114 t304 (-1)).bind fun bt307 => ((nodes_Parts.f kj114 0).bind fun bt311 => ((nodes_Parts.f kj114 20).bind fun bt313 => (if t278 = 0 then (if t277 = 20 then (if t283 = 34 then (if x23_114 = 34 then (if 61 ≤ 7036874417766 then ((nodes_Check.f kj114 (List.replicate 61 z36)).bind fun t318 => (if t318 = 4 then (if bt302.2 = 2 then (if bt307.2 = 2 then (if bt311.2 = 2 then (if bt313.2 = 2 then ((tailwaterlaw04_alive.f kj114).bind fun t319 => (some t319)) else (some false)) else (some false)) else (some false)) else (some false)) else (some false))) else (none)) else (some false)) else (some false)) else (some false)) else (some false))))))) = some true := H
         have A137 := zM A1370
         clear A1370
         replace H := Option.bind_eq_some_iff.mp H
         obtain ⟨⟨t302, t303⟩, A1380, H⟩ := H
         replace H : ((tailwaterlaw04_example.f).bind fun t304 => ((nodes_Part.f kj114 t304 (-1)).bind fun bt307 => ((nodes_Parts.f kj114 0).bind fun bt311 => ((nodes_Parts.f kj114 20).bind fun bt313 => (if t278 = 0 then (if t277 = 20 then (if t283 = 34 then (if x23_114 = 34 then (if 61 ≤ 7036874417766 then ((nodes_Check.f kj114 (List.replicate 61 z36)).bind fun t318 => (if t318 = 4 then (if t303 = 2 then (if bt307.2 = 2 then (if bt311.2 = 2 then (if bt313.2 = 2 then ((tailwaterlaw04_alive.f kj114).bind fun t319 => (some t319)) else (some false)) else (some false)) else (some false)) else (some false)) else (some false))) else (none)) else (some false)) else (some false)) else (some false)) else (some false)))))) = some true := H
         have A138 := zM A1380
         clear A1380
         replace H := Option.bind_eq_some_iff.mp H
         obtain ⟨t304, A1390, H⟩ := H
         replace H : ((nodes_Part.f kj114 t304 (-1)).bind fun bt307 => ((nodes_Parts.f kj114 0).bind fun bt311 => ((nodes_Parts.f kj114 20).bind fun bt313 => (if t278 = 0 then (if t277 = 20 then (if t283 = 34 then (if x23_114 = 34 then (if 61 ≤ 7036874417766 then ((nodes_Check.f kj114 (List.replicate 61 z36)).bind fun t318 => (if t318 = 4 then (if t303 = 2 then (if bt307.2 = 2 then (if bt311.2 = 2 then (if bt313.2 = 2 then ((tailwaterlaw04_alive.f kj114).bind fun t319 => (some t319)) else (some false)) else (some false)) else (some false)) else (some false)) else (some false))) else (none)) else (some false)) else (some false)) else (some false)) else (some false))))) = some true := H
         have A139 := zM A1390
         clear A1390
         replace H := Option.bind_eq_some_iff.mp H
         obtain ⟨⟨t307, t308⟩, A1400, H⟩ := H
         replace H : ((nodes_Parts.f kj114 0).bind fun bt311 => ((nodes_Parts.f kj114 20).bind fun bt313 => (if t278 = 0 then (if t277 = 20 then (if t283 = 34 then (if x23_114 = 34 then (if 61 ≤ 7036874417766 then ((nodes_Check.f kj114 (List.replicate 61 z36)).bind fun t318 => (if t318 = 4 then (if t303 = 2 then (if t308 = 2 then (if bt311.2 = 2 then (if bt313.2 = 2 then ((tailwaterlaw04_alive.f kj114).bind fun t319 => (some t319)) else (some false)) else (some false)) else (some false)) else (some false)) else (some false))) else (none)) else (some false)) else (some false)) else (some false)) else (some false)))) = some true := H
         have A140 := zM A1400
         clear A1400
         replace H := Option.bind_eq_some_iff.mp H
         obtain ⟨⟨t311, t312⟩, A1410, H⟩ := H
         replace H : ((nodes_Parts.f kj114 20).bind fun bt313 => (if t278 = 0 then (if t277 = 20 then (if t283 = 34 then (if x23_114 = 34 then (if 61 ≤ 7036874417766 then ((nodes_Check.f kj114 (List.replicate 61 z36)).bind fun t318 => (if t318 = 4 then (if t303 = 2 then (if t308 = 2 then (if t312 = 2 then (if bt313.2 = 2 then ((tailwaterlaw04_alive.f kj114).bind fun t319 => (some t319)) else (some false)) else (some false)) else (some false)) else (some false)) else (some false))) else (none)) else (some false)) else (some false)) else (some false)) else (some false))) = some true := H
         have A141 := zM A1410
         clear A1410
         replace H := Option.bind_eq_some_iff.mp H
         obtain ⟨⟨t313, t314⟩, A1420, H⟩ := H
         replace H : (if t278 = 0 then (if t277 = 20 then (if t283 = 34 then (if x23_114 = 34 then (if 61 ≤ 7036874417766 then ((nodes_Check.f kj114 (List.replicate 61 z36)).bind fun t318 => (if t318 = 4 then (if t303 = 2 then (if t308 = 2 then (if t312 = 2 then (if t314 = 2 then ((tailwaterlaw04_alive.f kj114).bind fun t319 => (some t319)) else (some false)) else (some false)) else (some false)) else (some false)) else (some false))) else (none)) else (some false)) else (some false)) else (some false)) else (some false)) = some true := H
         have A142 := zM A1420
         clear A1420
         by_cases c143 : t278 = 0
         ·
          rw [if_pos c143] at H
          have c143b0 : (t278 == 0) = true := beq_iff_eq.mpr c143
          have c143b1 : (t278 != 0) = false := bne_eq_false_iff_eq.mpr c143
          clear c143
          by_cases c144 : t277 = 20
          ·
           rw [if_pos c144] at H
           have c144b0 : (t277 == 20) = true := beq_iff_eq.mpr c144
           have c144b1 : (t277 != 20) = false := bne_eq_false_iff_eq.mpr c144
           clear c144
           by_cases c145 : t283 = 34
           ·
            rw [if_pos c145] at H
            have c145b0 : (t283 == 34) = true := beq_iff_eq.mpr c145
            have c145b1 : (t283 != 34) = false := bne_eq_false_iff_eq.mpr c145
            clear c145
            by_cases c146 : x23_114 = 34
            ·
             rw [if_pos c146] at H
             have c146b0 : (x23_114 == 34) = true := beq_iff_eq.mpr c146
             have c146b1 : (x23_114 != 34) = false := bne_eq_false_iff_eq.mpr c146
             clear c146
             by_cases c147 : 61 ≤ 7036874417766
             ·
              rw [if_pos c147] at H
              have c147b0 := eq_true c147
              have c147b1 : decide (61 ≤ 7036874417766) = true := decide_eq_true c147
              clear c147
              obtain ⟨y315, hy315⟩ : ∃ y_ : List (S36), y_ = (List.replicate 61 z36) := ⟨_, rfl⟩
              replace H : ((nodes_Check.f kj114 y315).bind fun t318 => (if t318 = 4 then (if t303 = 2 then (if t308 = 2 then (if t312 = 2 then (if t314 = 2 then ((tailwaterlaw04_alive.f kj114).bind fun t319 => (some t319)) else (some false)) else (some false)) else (some false)) else (some false)) else (some false))) = some true := by first | (rw [hy315]; with_reducible exact H) | (have H2_ := (Option.bind_some _ _).symm.trans H; rw [hy315]; with_reducible exact H2_) | (have H2_ := (Option.bind_some _ _).symm.trans H; with_reducible exact H2_) | with_reducible exact H | (rw [hy315]; exact H) | exact H
              have Ny315 := zM hy315
              clear hy315
              replace H := Option.bind_eq_some_iff.mp H
              obtain ⟨t318, A1480, H⟩ := H
              replace H : (if t318 = 4 then (if t303 = 2 then (if t308 = 2 then (if t312 = 2 then (if t314 = 2 then ((tailwaterlaw04_alive.f kj114).bind fun t319 => (some t319)) else (some false)) else (some false)) else (some false)) else (some false)) else (some false)) = some true := H
              have A148 := zM A1480
              clear A1480
              by_cases c149 : t318 = 4
              ·
               rw [if_pos c149] at H
               have c149b0 : (t318 == 4) = true := beq_iff_eq.mpr c149
               have c149b1 : (t318 != 4) = false := bne_eq_false_iff_eq.mpr c149
               clear c149
               by_cases c150 : t303 = 2
               ·
                rw [if_pos c150] at H
                have c150b0 : (t303 == 2) = true := beq_iff_eq.mpr c150
                have c150b1 : (t303 != 2) = false := bne_eq_false_iff_eq.mpr c150
                clear c150
                by_cases c151 : t308 = 2
                ·
                 rw [if_pos c151] at H
                 have c151b0 : (t308 == 2) = true := beq_iff_eq.mpr c151
                 have c151b1 : (t308 != 2) = false := bne_eq_false_iff_eq.mpr c151
                 clear c151
                 by_cases c152 : t312 = 2
                 ·
                  rw [if_pos c152] at H
                  have c152b0 : (t312 == 2) = true := beq_iff_eq.mpr c152
                  have c152b1 : (t312 != 2) = false := bne_eq_false_iff_eq.mpr c152
                  clear c152
                  by_cases c153 : t314 = 2
                  ·
                   rw [if_pos c153] at H
                   have c153b0 : (t314 == 2) = true := beq_iff_eq.mpr c153
                   have c153b1 : (t314 != 2) = false := bne_eq_false_iff_eq.mpr c153
                   clear c153
                   replace H := Option.bind_eq_some_iff.mp H
                   obtain ⟨t319, A1540, H⟩ := H
                   replace H : (some t319) = some true := H
                   have A154 := zM A1540
                   clear A1540
                   have hv_ := Option.some.inj H
                   clear H
                   go_wp2_with (first | ((with_reducible refine gate_callee (f := 48) rfl ?_); refine goesL_ (some 215) rfl rfl Try.func48 (by kernel_rfl) rfl #[] rfl (by (try simp only [List.map_toArray, List.map_cons, List.map_nil]); first | done | rfl | (simp only [List.length_drop, List.length_take]; rfl)) ?_; (with_reducible refine (tailwaterlaw04_example.calls  t299 _ A137.out).mono ?_); rintro e w155 ⟨v300, rfl, ho0, hb⟩; refine ⟨_, rfl, ?_⟩; have n0_ := zM (Kd.R_lower (Kd.R_newB ho0 (g := gb177) (o := .cells #[.int .u8 4, .int .i64 0, .int .i64 0, .int .i64 0, .int .i64 0] 36 (0, 0)) (by (with_reducible repeat (first | refine blk_drewN ?_ _ | refine blk_drew ?_ | refine blk_alloc ?_ _)); exact BK177.out)) (below_size (by repeat (first | (with_reducible first | exact HB.out | apply zC | apply zP | apply zO | refine below_set ?_ GE177.out) | exact HB.out)))); have n1_ := zM (blk_below (g := gb177) (o := .cells #[.int .u8 4, .int .i64 0, .int .i64 0, .int .i64 0, .int .i64 0] 36 (0, 0)) (by (with_reducible repeat (first | refine blk_drewN ?_ _ | refine blk_drew ?_ | refine blk_alloc ?_ _)); exact BK177.out) hb); have n2_ := zM (below_step (by repeat (first | (with_reducible first | exact HB.out | apply zC | apply zP | apply zO | refine below_set ?_ GE177.out) | exact HB.out)) hb); clear BK177; clear HB; have HO301 := n0_; have BK177 := n1_; have HB := n2_; clear n0_ n1_ n2_; (try clear hb); (try clear hb2); (try clear hk); (try clear hi); (try clear ho0); obtain ⟨Ao156, co156, eo156⟩ := Kd.R_slice HO301.out; subst eo156) | ((with_reducible refine gate_callee (f := 36) rfl ?_); refine goesL_ (some 216) rfl rfl Try.func36 (by kernel_rfl) rfl #[.slice Ao156 t299.length co156, .int .i64 5] rfl (by (try simp only [List.map_toArray, List.map_cons, List.map_nil]); first | done | rfl | (simp only [List.length_drop, List.length_take]; rfl)) ?_; (with_reducible refine (nodes_Size.calls kj114 _ _ t299 5 t302 t303 _ ?side1 ?side2 A138.out).mono ?_); (case side1 => repeat (first | exact (Kd.R_reads' HO301.out).2.2 | (with_reducible refine zCA ?_ _) | (with_reducible refine zCN ?_ _) | (with_reducible refine zCD ?_))); (case side2 => exact (Kd.R_reads' HO301.out).2.1); rintro e w157 ⟨rfl, hb⟩; refine ⟨_, rfl, ?_⟩; have n0_ := zM (Kd.R_below (by (with_reducible repeat (first | apply zA | apply zN | apply zD)); exact HO301.out) hb); have n1_ := zM (blk_below (g := gb177) (o := .cells #[.int .u8 4, .int .i64 0, .int .i64 0, .int .i64 0, .int .i64 0] 36 (0, 0)) (by (with_reducible repeat (first | refine blk_drewN ?_ _ | refine blk_drew ?_ | refine blk_alloc ?_ _)); exact BK177.out) hb); have n2_ := zM (below_step (by repeat (first | (with_reducible first | exact HB.out | apply zC | apply zP | apply zO | refine below_set ?_ GE177.out) | exact HB.out)) hb); clear HO301; clear BK177; clear HB; have HO301 := n0_; have BK177 := n1_; have HB := n2_; clear n0_ n1_ n2_; (try clear hb); (try clear hb2); (try clear hk); (try clear hi)) | ((with_reducible refine gate_callee (f := 48) rfl ?_); refine goesL_ (some 220) rfl rfl Try.func48 (by kernel_rfl) rfl #[] rfl (by (try simp only [List.map_toArray, List.map_cons, List.map_nil]); first | done | rfl | (simp only [List.length_drop, List.length_take]; rfl)) ?_; (with_reducible refine (tailwaterlaw04_example.calls  t304 _ A139.out).mono ?_); rintro e w158 ⟨v305, rfl, ho0, hb⟩; refine ⟨_, rfl, ?_⟩; have n0_ := zM (zE (by (with_reducible repeat (first | apply zA | apply zN | apply zD)); exact HO301.out) (zB ho0) hb); have n1_ := zM (Kd.R_lower (Kd.R_newB (zW ho0 (zL (by (with_reducible repeat (first | apply zA | apply zN | apply zD)); exact HO301.out))) (g := gb177) (o := .cells #[.int .u8 4, .int .i64 0, .int .i64 0, .int .i64 0, .int .i64 0] 36 (0, 0)) (by (with_reducible repeat (first | refine blk_drewN ?_ _ | refine blk_drew ?_ | refine blk_alloc ?_ _)); exact BK177.out)) (below_size (by repeat (first | (with_reducible first | exact HB.out | apply zC | apply zP | apply zO | refine below_set ?_ GE177.out) | exact HB.out)))); have n2_ := zM (blk_below (g := gb177) (o := .cells #[.int .u8 4, .int .i64 0, .int .i64 0, .int .i64 0, .int .i64 0] 36 (0, 0)) (by (with_reducible repeat (first | refine blk_drewN ?_ _ | refine blk_drew ?_ | refine blk_alloc ?_ _)); exact BK177.out) hb); have n3_ := zM (below_step (by repeat (first | (with_reducible first | exact HB.out | apply zC | apply zP | apply zO | refine below_set ?_ GE177.out) | exact HB.out)) hb); clear HO301; clear BK177; clear HB; have HO301 := n0_; have HO306 := n1_; have BK177 := n2_; have HB := n3_; clear n0_ n1_ n2_ n3_; (try clear hb); (try clear hb2); (try clear hk); (try clear hi); (try clear ho0); obtain ⟨Ao159, co159, eo159⟩ := Kd.R_slice HO306.out; subst eo159) | ((with_reducible refine gate_callee (f := 39) rfl ?_); refine goesL_ (some 221) rfl rfl Try.func39 (by kernel_rfl) rfl #[.slice Ao159 t304.length co159, .int .i64 (-1)] rfl (by (try simp only [List.map_toArray, List.map_cons, List.map_nil]); first | done | rfl | (simp only [List.length_drop, List.length_take]; rfl)) ?_; (with_reducible refine (nodes_Part.calls kj114 _ _ t304 (-1) t307 t308 _ ?side1 ?side2 A140.out).mono ?_); (case side1 => repeat (first | exact (Kd.R_reads' HO306.out).2.2 | (with_reducible refine zCA ?_ _) | (with_reducible refine zCN ?_ _) | (with_reducible refine zCD ?_))); (case side2 => exact (Kd.R_reads' HO306.out).2.1); rintro e w160 ⟨v309, rfl, ho0, hb⟩; refine ⟨_, rfl, ?_⟩; have n0_ := zM (zE (by (with_reducible repeat (first | apply zA | apply zN | apply zD)); exact HO301.out) (zB ho0) hb); have n1_ := zM (zE (by (with_reducible repeat (first | apply zA | apply zN | apply zD)); exact HO306.out) (zB ho0) hb); have n2_ := zM (Kd.R_lower (Kd.R_newB (zW (zW ho0 (zL (by (with_reducible repeat (first | apply zA | apply zN | apply zD)); exact HO301.out))) (zL (by (with_reducible repeat (first | apply zA | apply zN | apply zD)); exact HO306.out))) (g := gb177) (o := .cells #[.int .u8 4, .int .i64 0, .int .i64 0, .int .i64 0, .int .i64 0] 36 (0, 0)) (by (with_reducible repeat (first | refine blk_drewN ?_ _ | refine blk_drew ?_ | refine blk_alloc ?_ _)); exact BK177.out)) (below_size (by repeat (first | (with_reducible first | exact HB.out | apply zC | apply zP | apply zO | refine below_set ?_ GE177.out) | exact HB.out)))); have n3_ := zM (blk_below (g := gb177) (o := .cells #[.int .u8 4, .int .i64 0, .int .i64 0, .int .i64 0, .int .i64 0] 36 (0, 0)) (by (with_reducible repeat (first | refine blk_drewN ?_ _ | refine blk_drew ?_ | refine blk_alloc ?_ _)); exact BK177.out) hb); have n4_ := zM (below_step (by repeat (first | (with_reducible first | exact HB.out | apply zC | apply zP | apply zO | refine below_set ?_ GE177.out) | exact HB.out)) hb); clear HO301; clear HO306; clear BK177; clear HB; have HO301 := n0_; have HO306 := n1_; have HO310 := n2_; have BK177 := n3_; have HB := n4_; clear n0_ n1_ n2_ n3_ n4_; (try clear hb); (try clear hb2); (try clear hk); (try clear hi); (try clear ho0)) | ((with_reducible refine gate_callee (f := 37) rfl ?_); refine goesL_ (some 225) rfl rfl Try.func37 (by kernel_rfl) rfl #[.int .u8 0] rfl (by (try simp only [List.map_toArray, List.map_cons, List.map_nil]); first | done | rfl | (simp only [List.length_drop, List.length_take]; rfl)) ?_; (with_reducible refine (nodes_Parts.calls kj114 0 t311 t312 _ A141.out).mono ?_); rintro e w' ⟨rfl, ⟨nd, rfl⟩⟩; refine ⟨_, rfl, ?_⟩) | ((with_reducible refine gate_callee (f := 37) rfl ?_); refine goesL_ (some 229) rfl rfl Try.func37 (by kernel_rfl) rfl #[.int .u8 20] rfl (by (try simp only [List.map_toArray, List.map_cons, List.map_nil]); first | done | rfl | (simp only [List.length_drop, List.length_take]; rfl)) ?_; (with_reducible refine (nodes_Parts.calls kj114 20 t313 t314 _ A142.out).mono ?_); rintro e w' ⟨rfl, ⟨nd, rfl⟩⟩; refine ⟨_, rfl, ?_⟩) | ((with_reducible refine gate_dst (N := 249) rfl ?_); (try (refine gate_guard (by rfl) ?_; dsimp only)); refine Kd.R_make k36 _ 36 rfl (N := 249) rfl 22 _ _ rfl 61 rfl rfl Try.underlying22 (.agg #[(.int .u8 0), (.int .i64 0), (.int .i64 0), (.int .i64 0), (.int .i64 0)]) 40 info36 rfl (by decide) (by omega) z36 (ok := fun _ => True) (okp := fun _ => True) (k36_mkM _ _ _ z36 ) (fun _ hk => hk) trivial (by omega) (by omega) (Below.refl _ _) (Nat.le_refl _) ?_; intro v316 w161 ho162 hb hg_ hnew_; clear hg_ hnew_; (first | rw [← Ny315.out] at ho162 | (simp only [Int.reduceToNat] at ho162; rw [← Ny315.out] at ho162)); have n0_ := zM (zE (by (with_reducible repeat (first | apply zA | apply zN | apply zD)); exact HO301.out) (zB ho162) hb); have n1_ := zM (zE (by (with_reducible repeat (first | apply zA | apply zN | apply zD)); exact HO306.out) (zB ho162) hb); have n2_ := zM (zE (by (with_reducible repeat (first | apply zA | apply zN | apply zD)); exact HO310.out) (zB ho162) hb); have n3_ := zM (Kd.R_lower (Kd.R_newB (zW (zW (zW ho162 (zL (by (with_reducible repeat (first | apply zA | apply zN | apply zD)); exact HO301.out))) (zL (by (with_reducible repeat (first | apply zA | apply zN | apply zD)); exact HO306.out))) (zL (by (with_reducible repeat (first | apply zA | apply zN | apply zD)); exact HO310.out))) (g := gb177) (o := .cells #[.int .u8 4, .int .i64 0, .int .i64 0, .int .i64 0, .int .i64 0] 36 (0, 0)) (by (with_reducible repeat (first | refine blk_drewN ?_ _ | refine blk_drew ?_ | refine blk_alloc ?_ _)); exact BK177.out)) (below_size (by repeat (first | (with_reducible first | exact HB.out | apply zC | apply zP | apply zO | refine below_set ?_ GE177.out) | exact HB.out)))); have n4_ := zM (blk_below (g := gb177) (o := .cells #[.int .u8 4, .int .i64 0, .int .i64 0, .int .i64 0, .int .i64 0] 36 (0, 0)) (by (with_reducible repeat (first | refine blk_drewN ?_ _ | refine blk_drew ?_ | refine blk_alloc ?_ _)); exact BK177.out) hb); have n5_ := zM (below_step (by repeat (first | (with_reducible first | exact HB.out | apply zC | apply zP | apply zO | refine below_set ?_ GE177.out) | exact HB.out)) hb); clear HO301; clear HO306; clear HO310; clear BK177; clear HB; have HO301 := n0_; have HO306 := n1_; have HO310 := n2_; have HO317 := n3_; have BK177 := n4_; have HB := n5_; clear n0_ n1_ n2_ n3_ n4_ n5_; clear hb ho162; obtain ⟨Ao163, co163, eo163⟩ := Kd.R_slice HO317.out; subst eo163) | (go_at_call 45; (with_reducible refine (nodes_Check.calls kj114 _ _ y315 t318 _ ?side1 ?side2 A148.out).mono ?_); (case side1 => repeat (first | exact (Kd.R_reads' HO317.out).2.2 | (with_reducible refine zCA ?_ _) | (with_reducible refine zCN ?_ _) | (with_reducible refine zCD ?_))); (case side2 => exact (Kd.R_reads' HO317.out).2.1); rintro e w164 ⟨rfl, hb⟩; have n0_ := zM (Kd.R_below (by (with_reducible repeat (first | apply zA | apply zN | apply zD)); exact HO301.out) hb); have n1_ := zM (Kd.R_below (by (with_reducible repeat (first | apply zA | apply zN | apply zD)); exact HO306.out) hb); have n2_ := zM (Kd.R_below (by (with_reducible repeat (first | apply zA | apply zN | apply zD)); exact HO310.out) hb); have n3_ := zM (Kd.R_below (by (with_reducible repeat (first | apply zA | apply zN | apply zD)); exact HO317.out) hb); have n4_ := zM (blk_below (g := gb177) (o := .cells #[.int .u8 4, .int .i64 0, .int .i64 0, .int .i64 0, .int .i64 0] 36 (0, 0)) (by (with_reducible repeat (first | refine blk_drewN ?_ _ | refine blk_drew ?_ | refine blk_alloc ?_ _)); exact BK177.out) hb); have n5_ := zM (below_step (by repeat (first | (with_reducible first | exact HB.out | apply zC | apply zP | apply zO | refine below_set ?_ GE177.out) | exact HB.out)) hb); clear HO301; clear HO306; clear HO310; clear HO317; clear BK177; clear HB; have HO301 := n0_; have HO306 := n1_; have HO310 := n2_; have HO317 := n3_; have BK177 := n4_; have HB := n5_; clear n0_ n1_ n2_ n3_ n4_ n5_; (try clear hb); (try clear hb2); (try clear hk); (try clear hi)) | (go_at_call 35; (with_reducible refine (tailwaterlaw04_alive.calls kj114  t319 _ A154.out).mono ?_); rintro e w165 ⟨rfl, hb⟩; have n0_ := zM (Kd.R_below (by (with_reducible repeat (first | apply zA | apply zN | apply zD)); exact HO301.out) hb); have n1_ := zM (Kd.R_below (by (with_reducible repeat (first | apply zA | apply zN | apply zD)); exact HO306.out) hb); have n2_ := zM (Kd.R_below (by (with_reducible repeat (first | apply zA | apply zN | apply zD)); exact HO310.out) hb); have n3_ := zM (Kd.R_below (by (with_reducible repeat (first | apply zA | apply zN | apply zD)); exact HO317.out) hb); have n4_ := zM (blk_below (g := gb177) (o := .cells #[.int .u8 4, .int .i64 0, .int .i64 0, .int .i64 0, .int .i64 0] 36 (0, 0)) (by (with_reducible repeat (first | refine blk_drewN ?_ _ | refine blk_drew ?_ | refine blk_alloc ?_ _)); exact BK177.out) hb); have n5_ := zM (below_step (by repeat (first | (with_reducible first | exact HB.out | apply zC | apply zP | apply zO | refine below_set ?_ GE177.out) | exact HB.out)) hb); clear HO301; clear HO306; clear HO310; clear HO317; clear BK177; clear HB; have HO301 := n0_; have HO306 := n1_; have HO310 := n2_; have HO317 := n3_; have BK177 := n4_; have HB := n5_; clear n0_ n1_ n2_ n3_ n4_ n5_; (try clear hb); (try clear hb2); (try clear hk); (try clear hi)))
                   go_ret
                   exact ⟨by first | rfl | (simp [errW_none, errW_some] <;> rfl) | (simp [*, errW_none, errW_some] <;> rfl), by repeat (first | (with_reducible first | exact HB.out | apply zC | apply zP | apply zO | refine below_set ?_ GE177.out) | exact HB.out)⟩
                  ·
                   rw [if_neg c153] at H
                   have c153b0 : (t314 == 2) = false := beq_eq_false_iff_ne.mpr c153
                   have c153b1 : (t314 != 2) = true := bne_iff_ne.mpr c153
                   exact absurd H (by simp)
                 ·
                  rw [if_neg c152] at H
                  have c152b0 : (t312 == 2) = false := beq_eq_false_iff_ne.mpr c152
                  have c152b1 : (t312 != 2) = true := bne_iff_ne.mpr c152
                  exact absurd H (by simp)
                ·
                 rw [if_neg c151] at H
                 have c151b0 : (t308 == 2) = false := beq_eq_false_iff_ne.mpr c151
                 have c151b1 : (t308 != 2) = true := bne_iff_ne.mpr c151
                 exact absurd H (by simp)
               ·
                rw [if_neg c150] at H
                have c150b0 : (t303 == 2) = false := beq_eq_false_iff_ne.mpr c150
                have c150b1 : (t303 != 2) = true := bne_iff_ne.mpr c150
                exact absurd H (by simp)
              ·
               rw [if_neg c149] at H
               have c149b0 : (t318 == 4) = false := beq_eq_false_iff_ne.mpr c149
               have c149b1 : (t318 != 4) = true := bne_iff_ne.mpr c149
               exact absurd H (by simp)
             ·
              rw [if_neg c147] at H
              exact absurd H (by simp)
            ·
             rw [if_neg c146] at H
             have c146b0 : (x23_114 == 34) = false := beq_eq_false_iff_ne.mpr c146
             have c146b1 : (x23_114 != 34) = true := bne_iff_ne.mpr c146
             exact absurd H (by simp)
           ·
            rw [if_neg c145] at H
            have c145b0 : (t283 == 34) = false := beq_eq_false_iff_ne.mpr c145
            have c145b1 : (t283 != 34) = true := bne_iff_ne.mpr c145
            exact absurd H (by simp)
          ·
           rw [if_neg c144] at H
           have c144b0 : (t277 == 20) = false := beq_eq_false_iff_ne.mpr c144
           have c144b1 : (t277 != 20) = true := bne_iff_ne.mpr c144
           exact absurd H (by simp)
         ·
          rw [if_neg c143] at H
          have c143b0 : (t278 == 0) = false := beq_eq_false_iff_ne.mpr c143
          have c143b1 : (t278 != 0) = true := bne_iff_ne.mpr c143
          exact absurd H (by simp)

/-- THE ONE PURE STATEMENT of tNN: yours. -/
def tNN.Pure : Prop := ∃ k, tNN.f k  = some true
theorem tNN.walk (P : tNN.Pure)  (w : World)  :
  Calls Try.prog 14 #[] w fun e w' => e = .returned (.bool true) ∧ Below w.heap.size w w' := by
 obtain ⟨k, h⟩ := P  
 refine (tNN.calls k  w h).mono ?_
 rintro e w' ⟨rfl, hd⟩
 exact ⟨rfl, hd⟩

end Go.Proofs.Ytpkamfjkmbakhaa.Q
