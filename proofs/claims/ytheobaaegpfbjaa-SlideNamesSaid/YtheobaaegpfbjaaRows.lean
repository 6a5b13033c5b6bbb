/-
  No cell of these rows narrows 'for every input' (looked for: loops, veiled, ifaces, maps, wideKeys, modest, calm, conditions, laid).
  DERIVED. THE GIVEN ROWS OF THIS SEAT. 12 by the template 'for every input the law returns true; each argument reads behind the call as it read before'; 0 by the template 'total and deterministic' (their statements: YtheobaaegpfbjaaTotals.lean).
  GIVEN WITH THE SEED: the statements are not yours to turn. If you find one false, say at which input.
  Laid BY PROGRAM, IN A SANDBOX (cutbox-rows.mjs): the forced cells as the released guide's own fill.sh prints them over the translation 0a3282d72f135f84… (all of the seat's roots in one cut). By AI agents, Wed Nov 11 2026. No macro, syntax, notation, axiom, sorry.
-/
import Derived.Test.YtheobaaegpfbjaaChecked
import GoSem.Claim
import GoSem.ClaimJoined
import GoSem.ClaimMapViews
import Derived.JoinedTies
import Derived.KernelRfl
namespace Go.Proofs.Ytheobaaegpfbjaa
/- THE CELL 'sum', in the pinned program and in every row, IS THE sha256 OF THE DUMP (.gsa) THAT YtheobaaegpfbjaaProg.lean LOADS. Nothing in Lean hashes anything: it is a label: what it is worth is what the hold of that sum in a sandbox is worth. -/
noncomputable def Try.pinned : Pinned := { name := "ytheobaaegpfbjaa", sum := "0a3282d72f135f8404b3c13e865e76acba9a827b8e3735731ea74398dc7b123f", checked := Try.checked }
namespace Rows
def none {H : Type} : Left H := { results := [], args := [] }

/-- 'tailwaterlaw13.TumbleTells': WHATEVER THE INPUT: true; the input reads as it did. -/
def tumbleTellsSpec : ChangeSpec := { name := "tumbleTells", fn := fun _ => fun
  | [d1, d2] => { results := [.lit (.bool true)], args := [d1, d2] }
  | _ => none }
def tumbleTellsRow : OpenClaim := { program := "ytheobaaegpfbjaa", sum := "0a3282d72f135f8404b3c13e865e76acba9a827b8e3735731ea74398dc7b123f", func := "tailwater/tailwaterlaw13.TumbleTells", spec := "tumbleTells", apart := false }
def TumbleTellsSaid : Prop := tumbleTellsRow.holds Try.pinned (OpenSpec.ofChange tumbleTellsSpec)

/-- ITS FALSE NEIGHBOUR: 'it returns false'. Refute it at one input. -/
def tumbleTellsWrong : ChangeSpec := { name := "tumbleTells", fn := fun _ => fun
  | [d1, d2] => { results := [.lit (.bool false)], args := [d1, d2] }
  | _ => none }
def TumbleTellsWrongFalsely : Prop := tumbleTellsRow.holds Try.pinned (OpenSpec.ofChange tumbleTellsWrong)

/-- 'tailwaterlaw13.TumbleNames': WHATEVER THE INPUT: true; the input reads as it did. -/
def tumbleNamesSpec : ChangeSpec := { name := "tumbleNames", fn := fun _ => fun
  | [] => { results := [.lit (.bool true)], args := [] }
  | _ => none }
def tumbleNamesRow : OpenClaim := { program := "ytheobaaegpfbjaa", sum := "0a3282d72f135f8404b3c13e865e76acba9a827b8e3735731ea74398dc7b123f", func := "tailwater/tailwaterlaw13.TumbleNames", spec := "tumbleNames", apart := false }
def TumbleNamesSaid : Prop := tumbleNamesRow.holds Try.pinned (OpenSpec.ofChange tumbleNamesSpec)

/-- ITS FALSE NEIGHBOUR: 'it returns false'. Refute it at one input. -/
def tumbleNamesWrong : ChangeSpec := { name := "tumbleNames", fn := fun _ => fun
  | [] => { results := [.lit (.bool false)], args := [] }
  | _ => none }
def TumbleNamesWrongFalsely : Prop := tumbleNamesRow.holds Try.pinned (OpenSpec.ofChange tumbleNamesWrong)

/-- 'tailwaterlaw13.TumbleOne': WHATEVER THE INPUT: true; the input reads as it did. -/
def tumbleOneSpec : ChangeSpec := { name := "tumbleOne", fn := fun _ => fun
  | [d1, d2] => { results := [.lit (.bool true)], args := [d1, d2] }
  | _ => none }
def tumbleOneRow : OpenClaim := { program := "ytheobaaegpfbjaa", sum := "0a3282d72f135f8404b3c13e865e76acba9a827b8e3735731ea74398dc7b123f", func := "tailwater/tailwaterlaw13.TumbleOne", spec := "tumbleOne", apart := false }
def TumbleOneSaid : Prop := tumbleOneRow.holds Try.pinned (OpenSpec.ofChange tumbleOneSpec)

/-- ITS FALSE NEIGHBOUR: 'it returns false'. Refute it at one input. -/
def tumbleOneWrong : ChangeSpec := { name := "tumbleOne", fn := fun _ => fun
  | [d1, d2] => { results := [.lit (.bool false)], args := [d1, d2] }
  | _ => none }
def TumbleOneWrongFalsely : Prop := tumbleOneRow.holds Try.pinned (OpenSpec.ofChange tumbleOneWrong)

/-- 'tailwaterlaw13.TumbleTwo': WHATEVER THE INPUT: true; the input reads as it did. -/
def tumbleTwoSpec : ChangeSpec := { name := "tumbleTwo", fn := fun _ => fun
  | [d1, d2, d3] => { results := [.lit (.bool true)], args := [d1, d2, d3] }
  | _ => none }
def tumbleTwoRow : OpenClaim := { program := "ytheobaaegpfbjaa", sum := "0a3282d72f135f8404b3c13e865e76acba9a827b8e3735731ea74398dc7b123f", func := "tailwater/tailwaterlaw13.TumbleTwo", spec := "tumbleTwo", apart := false }
def TumbleTwoSaid : Prop := tumbleTwoRow.holds Try.pinned (OpenSpec.ofChange tumbleTwoSpec)

/-- ITS FALSE NEIGHBOUR: 'it returns false'. Refute it at one input. -/
def tumbleTwoWrong : ChangeSpec := { name := "tumbleTwo", fn := fun _ => fun
  | [d1, d2, d3] => { results := [.lit (.bool false)], args := [d1, d2, d3] }
  | _ => none }
def TumbleTwoWrongFalsely : Prop := tumbleTwoRow.holds Try.pinned (OpenSpec.ofChange tumbleTwoWrong)

/-- 'tailwaterlaw13.TumbleEnds': WHATEVER THE INPUT: true; the input reads as it did. -/
def tumbleEndsSpec : ChangeSpec := { name := "tumbleEnds", fn := fun _ => fun
  | [d1, d2] => { results := [.lit (.bool true)], args := [d1, d2] }
  | _ => none }
def tumbleEndsRow : OpenClaim := { program := "ytheobaaegpfbjaa", sum := "0a3282d72f135f8404b3c13e865e76acba9a827b8e3735731ea74398dc7b123f", func := "tailwater/tailwaterlaw13.TumbleEnds", spec := "tumbleEnds", apart := false }
def TumbleEndsSaid : Prop := tumbleEndsRow.holds Try.pinned (OpenSpec.ofChange tumbleEndsSpec)

/-- ITS FALSE NEIGHBOUR: 'it returns false'. Refute it at one input. -/
def tumbleEndsWrong : ChangeSpec := { name := "tumbleEnds", fn := fun _ => fun
  | [d1, d2] => { results := [.lit (.bool false)], args := [d1, d2] }
  | _ => none }
def TumbleEndsWrongFalsely : Prop := tumbleEndsRow.holds Try.pinned (OpenSpec.ofChange tumbleEndsWrong)

/-- 'tailwaterlaw13.TumbleMoved': WHATEVER THE INPUT: true; the input reads as it did. -/
def tumbleMovedSpec : ChangeSpec := { name := "tumbleMoved", fn := fun _ => fun
  | [d1, d2, d3] => { results := [.lit (.bool true)], args := [d1, d2, d3] }
  | _ => none }
def tumbleMovedRow : OpenClaim := { program := "ytheobaaegpfbjaa", sum := "0a3282d72f135f8404b3c13e865e76acba9a827b8e3735731ea74398dc7b123f", func := "tailwater/tailwaterlaw13.TumbleMoved", spec := "tumbleMoved", apart := false }
def TumbleMovedSaid : Prop := tumbleMovedRow.holds Try.pinned (OpenSpec.ofChange tumbleMovedSpec)

/-- ITS FALSE NEIGHBOUR: 'it returns false'. Refute it at one input. -/
def tumbleMovedWrong : ChangeSpec := { name := "tumbleMoved", fn := fun _ => fun
  | [d1, d2, d3] => { results := [.lit (.bool false)], args := [d1, d2, d3] }
  | _ => none }
def TumbleMovedWrongFalsely : Prop := tumbleMovedRow.holds Try.pinned (OpenSpec.ofChange tumbleMovedWrong)

/-- 'tailwaterlaw14.SlideMany': WHATEVER THE INPUT: true; the input reads as it did. -/
def slideManySpec : ChangeSpec := { name := "slideMany", fn := fun _ => fun
  | [d1, d2, d3] => { results := [.lit (.bool true)], args := [d1, d2, d3] }
  | _ => none }
def slideManyRow : OpenClaim := { program := "ytheobaaegpfbjaa", sum := "0a3282d72f135f8404b3c13e865e76acba9a827b8e3735731ea74398dc7b123f", func := "tailwater/tailwaterlaw14.SlideMany", spec := "slideMany", unfollowed := true, recurses := true, apart := false }
def SlideManySaid : Prop := slideManyRow.holds Try.pinned (OpenSpec.ofChange slideManySpec)

/-- ITS FALSE NEIGHBOUR: 'it returns false'. Refute it at one input. -/
def slideManyWrong : ChangeSpec := { name := "slideMany", fn := fun _ => fun
  | [d1, d2, d3] => { results := [.lit (.bool false)], args := [d1, d2, d3] }
  | _ => none }
def SlideManyWrongFalsely : Prop := slideManyRow.holds Try.pinned (OpenSpec.ofChange slideManyWrong)

/-- 'tailwaterlaw14.SlideNone': WHATEVER THE INPUT: true; the input reads as it did. -/
def slideNoneSpec : ChangeSpec := { name := "slideNone", fn := fun _ => fun
  | [d1, d2, d3] => { results := [.lit (.bool true)], args := [d1, d2, d3] }
  | _ => none }
def slideNoneRow : OpenClaim := { program := "ytheobaaegpfbjaa", sum := "0a3282d72f135f8404b3c13e865e76acba9a827b8e3735731ea74398dc7b123f", func := "tailwater/tailwaterlaw14.SlideNone", spec := "slideNone", unfollowed := true, recurses := true, apart := false }
def SlideNoneSaid : Prop := slideNoneRow.holds Try.pinned (OpenSpec.ofChange slideNoneSpec)

/-- ITS FALSE NEIGHBOUR: 'it returns false'. Refute it at one input. -/
def slideNoneWrong : ChangeSpec := { name := "slideNone", fn := fun _ => fun
  | [d1, d2, d3] => { results := [.lit (.bool false)], args := [d1, d2, d3] }
  | _ => none }
def SlideNoneWrongFalsely : Prop := slideNoneRow.holds Try.pinned (OpenSpec.ofChange slideNoneWrong)

/-- 'tailwaterlaw14.SlidePair': WHATEVER THE INPUT: true; the input reads as it did. -/
def slidePairSpec : ChangeSpec := { name := "slidePair", fn := fun _ => fun
  | [d1, d2, d3, d4] => { results := [.lit (.bool true)], args := [d1, d2, d3, d4] }
  | _ => none }
def slidePairRow : OpenClaim := { program := "ytheobaaegpfbjaa", sum := "0a3282d72f135f8404b3c13e865e76acba9a827b8e3735731ea74398dc7b123f", func := "tailwater/tailwaterlaw14.SlidePair", spec := "slidePair", unfollowed := true, recurses := true, apart := false }
def SlidePairSaid : Prop := slidePairRow.holds Try.pinned (OpenSpec.ofChange slidePairSpec)

/-- ITS FALSE NEIGHBOUR: 'it returns false'. Refute it at one input. -/
def slidePairWrong : ChangeSpec := { name := "slidePair", fn := fun _ => fun
  | [d1, d2, d3, d4] => { results := [.lit (.bool false)], args := [d1, d2, d3, d4] }
  | _ => none }
def SlidePairWrongFalsely : Prop := slidePairRow.holds Try.pinned (OpenSpec.ofChange slidePairWrong)

/-- 'tailwaterlaw14.SlideTells': WHATEVER THE INPUT: true; the input reads as it did. -/
def slideTellsSpec : ChangeSpec := { name := "slideTells", fn := fun _ => fun
  | [d1, d2, d3, d4] => { results := [.lit (.bool true)], args := [d1, d2, d3, d4] }
  | _ => none }
def slideTellsRow : OpenClaim := { program := "ytheobaaegpfbjaa", sum := "0a3282d72f135f8404b3c13e865e76acba9a827b8e3735731ea74398dc7b123f", func := "tailwater/tailwaterlaw14.SlideTells", spec := "slideTells", unfollowed := true, recurses := true, apart := false }
def SlideTellsSaid : Prop := slideTellsRow.holds Try.pinned (OpenSpec.ofChange slideTellsSpec)

/-- ITS FALSE NEIGHBOUR: 'it returns false'. Refute it at one input. -/
def slideTellsWrong : ChangeSpec := { name := "slideTells", fn := fun _ => fun
  | [d1, d2, d3, d4] => { results := [.lit (.bool false)], args := [d1, d2, d3, d4] }
  | _ => none }
def SlideTellsWrongFalsely : Prop := slideTellsRow.holds Try.pinned (OpenSpec.ofChange slideTellsWrong)

/-- 'tailwaterlaw14.SlideNames': WHATEVER THE INPUT: true; the input reads as it did. -/
def slideNamesSpec : ChangeSpec := { name := "slideNames", fn := fun _ => fun
  | [] => { results := [.lit (.bool true)], args := [] }
  | _ => none }
def slideNamesRow : OpenClaim := { program := "ytheobaaegpfbjaa", sum := "0a3282d72f135f8404b3c13e865e76acba9a827b8e3735731ea74398dc7b123f", func := "tailwater/tailwaterlaw14.SlideNames", spec := "slideNames", unfollowed := true, recurses := true, apart := false }
def SlideNamesSaid : Prop := slideNamesRow.holds Try.pinned (OpenSpec.ofChange slideNamesSpec)

/-- ITS FALSE NEIGHBOUR: 'it returns false'. Refute it at one input. -/
def slideNamesWrong : ChangeSpec := { name := "slideNames", fn := fun _ => fun
  | [] => { results := [.lit (.bool false)], args := [] }
  | _ => none }
def SlideNamesWrongFalsely : Prop := slideNamesRow.holds Try.pinned (OpenSpec.ofChange slideNamesWrong)

/-- 'tailwaterlaw14.SlideTumble': WHATEVER THE INPUT: true; the input reads as it did. -/
def slideTumbleSpec : ChangeSpec := { name := "slideTumble", fn := fun _ => fun
  | [d1, d2, d3] => { results := [.lit (.bool true)], args := [d1, d2, d3] }
  | _ => none }
def slideTumbleRow : OpenClaim := { program := "ytheobaaegpfbjaa", sum := "0a3282d72f135f8404b3c13e865e76acba9a827b8e3735731ea74398dc7b123f", func := "tailwater/tailwaterlaw14.SlideTumble", spec := "slideTumble", unfollowed := true, recurses := true, apart := false }
def SlideTumbleSaid : Prop := slideTumbleRow.holds Try.pinned (OpenSpec.ofChange slideTumbleSpec)

/-- ITS FALSE NEIGHBOUR: 'it returns false'. Refute it at one input. -/
def slideTumbleWrong : ChangeSpec := { name := "slideTumble", fn := fun _ => fun
  | [d1, d2, d3] => { results := [.lit (.bool false)], args := [d1, d2, d3] }
  | _ => none }
def SlideTumbleWrongFalsely : Prop := slideTumbleRow.holds Try.pinned (OpenSpec.ofChange slideTumbleWrong)

/- THE SECOND FORM. 'bulk': how many values and letters a reading holds, each counted each time it is reached (what is shared counts as often as it is met; a slice's spare places count too). A statement '..UptoSaid' is the law's where the arguments, and the package variables that the reading takes, are together of bulk at most 1048576: NARROWER than '..Said'. Prove '..Said' where nothing that the law and all that it calls make is longer than what came in: it says more and counts as full. Else prove '..UptoSaid'. A law counts once. -/
mutual
def uptoBulk {H : Type} : DataW H → Nat
  | .lit (.string bytes) => bytes.length + 1
  | .lit _ => 1
  | .nil => 1
  | .ptr d => uptoBulk d + 1
  | .slice elems spare => uptoBulkAll elems + uptoBulkAll spare + 1
  | .agg parts => uptoBulkAll parts + 1
  | .iface _ d => uptoBulk d + 1
  | .map entries => uptoBulkEntries entries + 1
  | .held _ => 1
def uptoBulkAll {H : Type} : List (DataW H) → Nat
  | [] => 0
  | d :: r => uptoBulk d + uptoBulkAll r
def uptoBulkEntries {H : Type} : List (Lit × DataW H) → Nat
  | [] => 0
  | x :: r => uptoBulkEntry x + uptoBulkEntries r
def uptoBulkEntry {H : Type} : Lit × DataW H → Nat
  | (.string bytes, d) => bytes.length + uptoBulk d + 1
  | (_, d) => uptoBulk d + 1
 end
def uptoSmall : (H : Type) → List (DataW H) → Bool := fun _ ds => decide (uptoBulkAll ds ≤ 1048576)
def OpenSpec.upto (s : _root_.Go.ChangeSpec) : _root_.Go.OpenSpec := { _root_.Go.OpenSpec.ofChange s with cond := some uptoSmall }

/-- 'tailwaterlaw13.TumbleTells', WHERE WHAT IT READS IS OF BULK AT MOST 1048576: true; the input reads as it did. -/
def tumbleTellsUptoRow : OpenClaim := { program := "ytheobaaegpfbjaa", sum := "0a3282d72f135f8404b3c13e865e76acba9a827b8e3735731ea74398dc7b123f", func := "tailwater/tailwaterlaw13.TumbleTells", spec := "tumbleTells", apart := false, narrowed := true }
def TumbleTellsUptoSaid : Prop := tumbleTellsUptoRow.holds Try.pinned (OpenSpec.upto tumbleTellsSpec)

/-- 'tailwaterlaw13.TumbleNames', WHERE WHAT IT READS IS OF BULK AT MOST 1048576: true; the input reads as it did. -/
def tumbleNamesUptoRow : OpenClaim := { program := "ytheobaaegpfbjaa", sum := "0a3282d72f135f8404b3c13e865e76acba9a827b8e3735731ea74398dc7b123f", func := "tailwater/tailwaterlaw13.TumbleNames", spec := "tumbleNames", apart := false, narrowed := true }
def TumbleNamesUptoSaid : Prop := tumbleNamesUptoRow.holds Try.pinned (OpenSpec.upto tumbleNamesSpec)

/-- 'tailwaterlaw13.TumbleOne', WHERE WHAT IT READS IS OF BULK AT MOST 1048576: true; the input reads as it did. -/
def tumbleOneUptoRow : OpenClaim := { program := "ytheobaaegpfbjaa", sum := "0a3282d72f135f8404b3c13e865e76acba9a827b8e3735731ea74398dc7b123f", func := "tailwater/tailwaterlaw13.TumbleOne", spec := "tumbleOne", apart := false, narrowed := true }
def TumbleOneUptoSaid : Prop := tumbleOneUptoRow.holds Try.pinned (OpenSpec.upto tumbleOneSpec)

/-- 'tailwaterlaw13.TumbleTwo', WHERE WHAT IT READS IS OF BULK AT MOST 1048576: true; the input reads as it did. -/
def tumbleTwoUptoRow : OpenClaim := { program := "ytheobaaegpfbjaa", sum := "0a3282d72f135f8404b3c13e865e76acba9a827b8e3735731ea74398dc7b123f", func := "tailwater/tailwaterlaw13.TumbleTwo", spec := "tumbleTwo", apart := false, narrowed := true }
def TumbleTwoUptoSaid : Prop := tumbleTwoUptoRow.holds Try.pinned (OpenSpec.upto tumbleTwoSpec)

/-- 'tailwaterlaw13.TumbleEnds', WHERE WHAT IT READS IS OF BULK AT MOST 1048576: true; the input reads as it did. -/
def tumbleEndsUptoRow : OpenClaim := { program := "ytheobaaegpfbjaa", sum := "0a3282d72f135f8404b3c13e865e76acba9a827b8e3735731ea74398dc7b123f", func := "tailwater/tailwaterlaw13.TumbleEnds", spec := "tumbleEnds", apart := false, narrowed := true }
def TumbleEndsUptoSaid : Prop := tumbleEndsUptoRow.holds Try.pinned (OpenSpec.upto tumbleEndsSpec)

/-- 'tailwaterlaw13.TumbleMoved', WHERE WHAT IT READS IS OF BULK AT MOST 1048576: true; the input reads as it did. -/
def tumbleMovedUptoRow : OpenClaim := { program := "ytheobaaegpfbjaa", sum := "0a3282d72f135f8404b3c13e865e76acba9a827b8e3735731ea74398dc7b123f", func := "tailwater/tailwaterlaw13.TumbleMoved", spec := "tumbleMoved", apart := false, narrowed := true }
def TumbleMovedUptoSaid : Prop := tumbleMovedUptoRow.holds Try.pinned (OpenSpec.upto tumbleMovedSpec)

/-- 'tailwaterlaw14.SlideMany', WHERE WHAT IT READS IS OF BULK AT MOST 1048576: true; the input reads as it did. -/
def slideManyUptoRow : OpenClaim := { program := "ytheobaaegpfbjaa", sum := "0a3282d72f135f8404b3c13e865e76acba9a827b8e3735731ea74398dc7b123f", func := "tailwater/tailwaterlaw14.SlideMany", spec := "slideMany", unfollowed := true, recurses := true, apart := false, narrowed := true }
def SlideManyUptoSaid : Prop := slideManyUptoRow.holds Try.pinned (OpenSpec.upto slideManySpec)

/-- 'tailwaterlaw14.SlideNone', WHERE WHAT IT READS IS OF BULK AT MOST 1048576: true; the input reads as it did. -/
def slideNoneUptoRow : OpenClaim := { program := "ytheobaaegpfbjaa", sum := "0a3282d72f135f8404b3c13e865e76acba9a827b8e3735731ea74398dc7b123f", func := "tailwater/tailwaterlaw14.SlideNone", spec := "slideNone", unfollowed := true, recurses := true, apart := false, narrowed := true }
def SlideNoneUptoSaid : Prop := slideNoneUptoRow.holds Try.pinned (OpenSpec.upto slideNoneSpec)

/-- 'tailwaterlaw14.SlidePair', WHERE WHAT IT READS IS OF BULK AT MOST 1048576: true; the input reads as it did. -/
def slidePairUptoRow : OpenClaim := { program := "ytheobaaegpfbjaa", sum := "0a3282d72f135f8404b3c13e865e76acba9a827b8e3735731ea74398dc7b123f", func := "tailwater/tailwaterlaw14.SlidePair", spec := "slidePair", unfollowed := true, recurses := true, apart := false, narrowed := true }
def SlidePairUptoSaid : Prop := slidePairUptoRow.holds Try.pinned (OpenSpec.upto slidePairSpec)

/-- 'tailwaterlaw14.SlideTells', WHERE WHAT IT READS IS OF BULK AT MOST 1048576: true; the input reads as it did. -/
def slideTellsUptoRow : OpenClaim := { program := "ytheobaaegpfbjaa", sum := "0a3282d72f135f8404b3c13e865e76acba9a827b8e3735731ea74398dc7b123f", func := "tailwater/tailwaterlaw14.SlideTells", spec := "slideTells", unfollowed := true, recurses := true, apart := false, narrowed := true }
def SlideTellsUptoSaid : Prop := slideTellsUptoRow.holds Try.pinned (OpenSpec.upto slideTellsSpec)

/-- 'tailwaterlaw14.SlideNames', WHERE WHAT IT READS IS OF BULK AT MOST 1048576: true; the input reads as it did. -/
def slideNamesUptoRow : OpenClaim := { program := "ytheobaaegpfbjaa", sum := "0a3282d72f135f8404b3c13e865e76acba9a827b8e3735731ea74398dc7b123f", func := "tailwater/tailwaterlaw14.SlideNames", spec := "slideNames", unfollowed := true, recurses := true, apart := false, narrowed := true }
def SlideNamesUptoSaid : Prop := slideNamesUptoRow.holds Try.pinned (OpenSpec.upto slideNamesSpec)

/-- 'tailwaterlaw14.SlideTumble', WHERE WHAT IT READS IS OF BULK AT MOST 1048576: true; the input reads as it did. -/
def slideTumbleUptoRow : OpenClaim := { program := "ytheobaaegpfbjaa", sum := "0a3282d72f135f8404b3c13e865e76acba9a827b8e3735731ea74398dc7b123f", func := "tailwater/tailwaterlaw14.SlideTumble", spec := "slideTumble", unfollowed := true, recurses := true, apart := false, narrowed := true }
def SlideTumbleUptoSaid : Prop := slideTumbleUptoRow.holds Try.pinned (OpenSpec.upto slideTumbleSpec)

end Rows
end Go.Proofs.Ytheobaaegpfbjaa
