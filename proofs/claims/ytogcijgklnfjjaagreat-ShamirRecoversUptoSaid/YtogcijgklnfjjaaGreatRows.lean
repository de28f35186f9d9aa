/-
  No cell of these rows narrows 'for every input' (looked for: loops, veiled, ifaces, maps, wideKeys, modest, calm, conditions, laid).
  DERIVED. THE GIVEN ROWS OF THIS SEAT. 5 by the template 'for every input the law returns true; each argument reads behind the call as it read before'; 0 by the template 'total and deterministic' (their statements: YtogcijgklnfjjaaGreatTotals.lean).
  GIVEN WITH THE SEED: the statements are not yours to turn. If you find one false, say at which input.
  Laid BY PROGRAM, IN A SANDBOX (cutbox-rows.mjs): the forced cells as the released guide's own fill.sh prints them over the translation e597334579ad9c5d… (all of the seat's roots in one cut). By AI agents, Wed Nov 11 2026. No macro, syntax, notation, axiom, sorry.
-/
import Derived.Test.YtogcijgklnfjjaaGreatChecked
import GoSem.Claim
import GoSem.ClaimJoined
import GoSem.ClaimMapViews
import Derived.JoinedTies
import Derived.KernelRfl
namespace Go.Proofs.YtogcijgklnfjjaaGreat
/- THE CELL 'sum', in the pinned program and in every row, IS THE sha256 OF THE DUMP (.gsa) THAT YtogcijgklnfjjaaGreatProg.lean LOADS. Nothing in Lean hashes anything: it is a label: what it is worth is what the hold of that sum in a sandbox is worth. -/
noncomputable def Tryz.pinned : Pinned := { name := "ytogcijgklnfjjaagreat", sum := "e597334579ad9c5d5a08efa1e88efe75e2d5748893ec650ce8a4e3f8a8cd4bdf", checked := Tryz.checked }
namespace Rows
def none {H : Type} : Left H := { results := [], args := [] }

/-- 'rimelaw07.ShamirCorrects': WHATEVER THE INPUT: true; the input reads as it did. -/
def shamirCorrectsSpec : ChangeSpec := { name := "shamirCorrects", fn := fun _ => fun
  | [d1, d2] => { results := [.lit (.bool true)], args := [d1, d2] }
  | _ => none }
def shamirCorrectsRow : OpenClaim := { program := "ytogcijgklnfjjaagreat", sum := "e597334579ad9c5d5a08efa1e88efe75e2d5748893ec650ce8a4e3f8a8cd4bdf", func := "rime/rimelaw07.ShamirCorrects", spec := "shamirCorrects", inPlace := ["math/bits.Sub64", "math/bits.Add64"], recurses := true, plainKeys := false, apart := false }
def ShamirCorrectsSaid : Prop := shamirCorrectsRow.holds Tryz.pinned (OpenSpec.ofChange shamirCorrectsSpec)

/-- ITS FALSE NEIGHBOUR: 'it returns false'. Refute it at one input. -/
def shamirCorrectsWrong : ChangeSpec := { name := "shamirCorrects", fn := fun _ => fun
  | [d1, d2] => { results := [.lit (.bool false)], args := [d1, d2] }
  | _ => none }
def ShamirCorrectsWrongFalsely : Prop := shamirCorrectsRow.holds Tryz.pinned (OpenSpec.ofChange shamirCorrectsWrong)

/-- 'rimelaw07.ShamirEvals': WHATEVER THE INPUT: true; the input reads as it did. -/
def shamirEvalsSpec : ChangeSpec := { name := "shamirEvals", fn := fun _ => fun
  | [d1, d2, d3, d4] => { results := [.lit (.bool true)], args := [d1, d2, d3, d4] }
  | _ => none }
def shamirEvalsRow : OpenClaim := { program := "ytogcijgklnfjjaagreat", sum := "e597334579ad9c5d5a08efa1e88efe75e2d5748893ec650ce8a4e3f8a8cd4bdf", func := "rime/rimelaw07.ShamirEvals", spec := "shamirEvals", inPlace := ["math/bits.Sub64", "math/bits.Add64"], recurses := true, plainKeys := false, apart := false }
def ShamirEvalsSaid : Prop := shamirEvalsRow.holds Tryz.pinned (OpenSpec.ofChange shamirEvalsSpec)

/-- ITS FALSE NEIGHBOUR: 'it returns false'. Refute it at one input. -/
def shamirEvalsWrong : ChangeSpec := { name := "shamirEvals", fn := fun _ => fun
  | [d1, d2, d3, d4] => { results := [.lit (.bool false)], args := [d1, d2, d3, d4] }
  | _ => none }
def ShamirEvalsWrongFalsely : Prop := shamirEvalsRow.holds Tryz.pinned (OpenSpec.ofChange shamirEvalsWrong)

/-- 'rimelaw07.ShamirOwn': WHATEVER THE INPUT: true; the input reads as it did. -/
def shamirOwnSpec : ChangeSpec := { name := "shamirOwn", fn := fun _ => fun
  | [d1, d2, d3, d4, d5] => { results := [.lit (.bool true)], args := [d1, d2, d3, d4, d5] }
  | _ => none }
def shamirOwnRow : OpenClaim := { program := "ytogcijgklnfjjaagreat", sum := "e597334579ad9c5d5a08efa1e88efe75e2d5748893ec650ce8a4e3f8a8cd4bdf", func := "rime/rimelaw07.ShamirOwn", spec := "shamirOwn", inPlace := ["math/bits.Sub64", "math/bits.Add64"], recurses := true, plainKeys := false, apart := false }
def ShamirOwnSaid : Prop := shamirOwnRow.holds Tryz.pinned (OpenSpec.ofChange shamirOwnSpec)

/-- ITS FALSE NEIGHBOUR: 'it returns false'. Refute it at one input. -/
def shamirOwnWrong : ChangeSpec := { name := "shamirOwn", fn := fun _ => fun
  | [d1, d2, d3, d4, d5] => { results := [.lit (.bool false)], args := [d1, d2, d3, d4, d5] }
  | _ => none }
def ShamirOwnWrongFalsely : Prop := shamirOwnRow.holds Tryz.pinned (OpenSpec.ofChange shamirOwnWrong)

/-- 'rimelaw07.ShamirRecovers': WHATEVER THE INPUT: true; the input reads as it did. -/
def shamirRecoversSpec : ChangeSpec := { name := "shamirRecovers", fn := fun _ => fun
  | [d1, d2, d3] => { results := [.lit (.bool true)], args := [d1, d2, d3] }
  | _ => none }
def shamirRecoversRow : OpenClaim := { program := "ytogcijgklnfjjaagreat", sum := "e597334579ad9c5d5a08efa1e88efe75e2d5748893ec650ce8a4e3f8a8cd4bdf", func := "rime/rimelaw07.ShamirRecovers", spec := "shamirRecovers", inPlace := ["math/bits.Sub64", "math/bits.Add64"], recurses := true, plainKeys := false, apart := false }
def ShamirRecoversSaid : Prop := shamirRecoversRow.holds Tryz.pinned (OpenSpec.ofChange shamirRecoversSpec)

/-- ITS FALSE NEIGHBOUR: 'it returns false'. Refute it at one input. -/
def shamirRecoversWrong : ChangeSpec := { name := "shamirRecovers", fn := fun _ => fun
  | [d1, d2, d3] => { results := [.lit (.bool false)], args := [d1, d2, d3] }
  | _ => none }
def ShamirRecoversWrongFalsely : Prop := shamirRecoversRow.holds Tryz.pinned (OpenSpec.ofChange shamirRecoversWrong)

/-- 'rimelaw07.ShamirWeights': WHATEVER THE INPUT: true; the input reads as it did. -/
def shamirWeightsSpec : ChangeSpec := { name := "shamirWeights", fn := fun _ => fun
  | [d1, d2, d3] => { results := [.lit (.bool true)], args := [d1, d2, d3] }
  | _ => none }
def shamirWeightsRow : OpenClaim := { program := "ytogcijgklnfjjaagreat", sum := "e597334579ad9c5d5a08efa1e88efe75e2d5748893ec650ce8a4e3f8a8cd4bdf", func := "rime/rimelaw07.ShamirWeights", spec := "shamirWeights", inPlace := ["math/bits.Sub64", "math/bits.Add64"], recurses := true, plainKeys := false, apart := false }
def ShamirWeightsSaid : Prop := shamirWeightsRow.holds Tryz.pinned (OpenSpec.ofChange shamirWeightsSpec)

/-- ITS FALSE NEIGHBOUR: 'it returns false'. Refute it at one input. -/
def shamirWeightsWrong : ChangeSpec := { name := "shamirWeights", fn := fun _ => fun
  | [d1, d2, d3] => { results := [.lit (.bool false)], args := [d1, d2, d3] }
  | _ => none }
def ShamirWeightsWrongFalsely : Prop := shamirWeightsRow.holds Tryz.pinned (OpenSpec.ofChange shamirWeightsWrong)

/- THE SECOND FORM. 'bulk': how many values and letters a reading holds, each counted each time it is reached (what is shared counts as often as it is met; a slice's spare places count too). A statement '..UptoSaid' is the law's where the arguments, and the package variables that the reading takes, are together of bulk at most 1048576: NARROWER than '..Said'. Prove '..Said' where nothing that the law and all that it calls make is longer than what came in: it says more and counts as full. Else prove '..UptoSaid'. A law counts once. -/
mutual
def uptoBulk {H : Type} : DataW H → Nat
  | .lit (.string bytes) => bytes.length + 1
  | .lit _ => 1
  | .nil => 1
  | .ptr d => uptoBulk d + 1
  | .slice elems spare => uptoBulkAll elems + uptoBulkAll spare + 1
  | .agg parts => uptoBulkAll parts + 1
  | .iface _ d => uptoBulk d + 1
  | .map entries => uptoBulkEntries entries + 1
  | .held _ => 1
def uptoBulkAll {H : Type} : List (DataW H) → Nat
  | [] => 0
  | d :: r => uptoBulk d + uptoBulkAll r
def uptoBulkEntries {H : Type} : List (Lit × DataW H) → Nat
  | [] => 0
  | x :: r => uptoBulkEntry x + uptoBulkEntries r
def uptoBulkEntry {H : Type} : Lit × DataW H → Nat
  | (.string bytes, d) => bytes.length + uptoBulk d + 1
  | (_, d) => uptoBulk d + 1
 end
def uptoSmall : (H : Type) → List (DataW H) → Bool := fun _ ds => decide (uptoBulkAll ds ≤ 1048576)
def OpenSpec.upto (s : _root_.Go.ChangeSpec) : _root_.Go.OpenSpec := { _root_.Go.OpenSpec.ofChange s with cond := some uptoSmall }

/-- 'rimelaw07.ShamirCorrects', WHERE WHAT IT READS IS OF BULK AT MOST 1048576: true; the input reads as it did. -/
def shamirCorrectsUptoRow : OpenClaim := { program := "ytogcijgklnfjjaagreat", sum := "e597334579ad9c5d5a08efa1e88efe75e2d5748893ec650ce8a4e3f8a8cd4bdf", func := "rime/rimelaw07.ShamirCorrects", spec := "shamirCorrects", inPlace := ["math/bits.Sub64", "math/bits.Add64"], recurses := true, plainKeys := false, apart := false, narrowed := true }
def ShamirCorrectsUptoSaid : Prop := shamirCorrectsUptoRow.holds Tryz.pinned (OpenSpec.upto shamirCorrectsSpec)

/-- 'rimelaw07.ShamirEvals', WHERE WHAT IT READS IS OF BULK AT MOST 1048576: true; the input reads as it did. -/
def shamirEvalsUptoRow : OpenClaim := { program := "ytogcijgklnfjjaagreat", sum := "e597334579ad9c5d5a08efa1e88efe75e2d5748893ec650ce8a4e3f8a8cd4bdf", func := "rime/rimelaw07.ShamirEvals", spec := "shamirEvals", inPlace := ["math/bits.Sub64", "math/bits.Add64"], recurses := true, plainKeys := false, apart := false, narrowed := true }
def ShamirEvalsUptoSaid : Prop := shamirEvalsUptoRow.holds Tryz.pinned (OpenSpec.upto shamirEvalsSpec)

/-- 'rimelaw07.ShamirOwn', WHERE WHAT IT READS IS OF BULK AT MOST 1048576: true; the input reads as it did. -/
def shamirOwnUptoRow : OpenClaim := { program := "ytogcijgklnfjjaagreat", sum := "e597334579ad9c5d5a08efa1e88efe75e2d5748893ec650ce8a4e3f8a8cd4bdf", func := "rime/rimelaw07.ShamirOwn", spec := "shamirOwn", inPlace := ["math/bits.Sub64", "math/bits.Add64"], recurses := true, plainKeys := false, apart := false, narrowed := true }
def ShamirOwnUptoSaid : Prop := shamirOwnUptoRow.holds Tryz.pinned (OpenSpec.upto shamirOwnSpec)

/-- 'rimelaw07.ShamirRecovers', WHERE WHAT IT READS IS OF BULK AT MOST 1048576: true; the input reads as it did. -/
def shamirRecoversUptoRow : OpenClaim := { program := "ytogcijgklnfjjaagreat", sum := "e597334579ad9c5d5a08efa1e88efe75e2d5748893ec650ce8a4e3f8a8cd4bdf", func := "rime/rimelaw07.ShamirRecovers", spec := "shamirRecovers", inPlace := ["math/bits.Sub64", "math/bits.Add64"], recurses := true, plainKeys := false, apart := false, narrowed := true }
def ShamirRecoversUptoSaid : Prop := shamirRecoversUptoRow.holds Tryz.pinned (OpenSpec.upto shamirRecoversSpec)

/-- 'rimelaw07.ShamirWeights', WHERE WHAT IT READS IS OF BULK AT MOST 1048576: true; the input reads as it did. -/
def shamirWeightsUptoRow : OpenClaim := { program := "ytogcijgklnfjjaagreat", sum := "e597334579ad9c5d5a08efa1e88efe75e2d5748893ec650ce8a4e3f8a8cd4bdf", func := "rime/rimelaw07.ShamirWeights", spec := "shamirWeights", inPlace := ["math/bits.Sub64", "math/bits.Add64"], recurses := true, plainKeys := false, apart := false, narrowed := true }
def ShamirWeightsUptoSaid : Prop := shamirWeightsUptoRow.holds Tryz.pinned (OpenSpec.upto shamirWeightsSpec)

end Rows
end Go.Proofs.YtogcijgklnfjjaaGreat
