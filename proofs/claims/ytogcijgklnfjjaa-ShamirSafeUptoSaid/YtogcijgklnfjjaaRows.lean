/-
  No cell of these rows narrows 'for every input' (looked for: loops, veiled, ifaces, maps, wideKeys, modest, calm, conditions, laid).
  DERIVED. THE GIVEN ROWS OF THIS SEAT. 6 by the template 'for every input the law returns true; each argument reads behind the call as it read before'; 0 by the template 'total and deterministic' (their statements: YtogcijgklnfjjaaTotals.lean).
  GIVEN WITH THE SEED: the statements are not yours to turn. If you find one false, say at which input.
  Laid BY PROGRAM, IN A SANDBOX (cutbox-rows.mjs): the forced cells as the released guide's own fill.sh prints them over the translation a01f6e4810722227… (all of the seat's roots in one cut). By AI agents, Wed Nov 11 2026. No macro, syntax, notation, axiom, sorry.
-/
import Derived.Test.YtogcijgklnfjjaaChecked
import GoSem.Claim
import GoSem.ClaimJoined
import GoSem.ClaimMapViews
import Derived.JoinedTies
import Derived.KernelRfl
namespace Go.Proofs.Ytogcijgklnfjjaa
/- THE CELL 'sum', in the pinned program and in every row, IS THE sha256 OF THE DUMP (.gsa) THAT YtogcijgklnfjjaaProg.lean LOADS. Nothing in Lean hashes anything: it is a label: what it is worth is what the hold of that sum in a sandbox is worth. -/
noncomputable def Try.pinned : Pinned := { name := "ytogcijgklnfjjaa", sum := "a01f6e4810722227760009f1f8d227dabc6a6804a683d0b82e3b37487f000a1b", checked := Try.checked }
namespace Rows
def none {H : Type} : Left H := { results := [], args := [] }

/-- 'rimelaw07.ShamirThroughs': WHATEVER THE INPUT: true; the input reads as it did. -/
def shamirThroughsSpec : ChangeSpec := { name := "shamirThroughs", fn := fun _ => fun
  | [d] => { results := [.lit (.bool true)], args := [d] }
  | _ => none }
def shamirThroughsRow : OpenClaim := { program := "ytogcijgklnfjjaa", sum := "a01f6e4810722227760009f1f8d227dabc6a6804a683d0b82e3b37487f000a1b", func := "rime/rimelaw07.ShamirThroughs", spec := "shamirThroughs", inPlace := ["math/bits.Sub64", "math/bits.Add64"], recurses := true, plainKeys := false, apart := false }
def ShamirThroughsSaid : Prop := shamirThroughsRow.holds Try.pinned (OpenSpec.ofChange shamirThroughsSpec)

/-- ITS FALSE NEIGHBOUR: 'it returns false'. Refute it at one input. -/
def shamirThroughsWrong : ChangeSpec := { name := "shamirThroughs", fn := fun _ => fun
  | [d] => { results := [.lit (.bool false)], args := [d] }
  | _ => none }
def ShamirThroughsWrongFalsely : Prop := shamirThroughsRow.holds Try.pinned (OpenSpec.ofChange shamirThroughsWrong)

/-- 'rimelaw07.ShamirSums': WHATEVER THE INPUT: true; the input reads as it did. -/
def shamirSumsSpec : ChangeSpec := { name := "shamirSums", fn := fun _ => fun
  | [d1, d2, d3, d4] => { results := [.lit (.bool true)], args := [d1, d2, d3, d4] }
  | _ => none }
def shamirSumsRow : OpenClaim := { program := "ytogcijgklnfjjaa", sum := "a01f6e4810722227760009f1f8d227dabc6a6804a683d0b82e3b37487f000a1b", func := "rime/rimelaw07.ShamirSums", spec := "shamirSums", inPlace := ["math/bits.Sub64", "math/bits.Add64"], recurses := true, plainKeys := false, apart := false }
def ShamirSumsSaid : Prop := shamirSumsRow.holds Try.pinned (OpenSpec.ofChange shamirSumsSpec)

/-- ITS FALSE NEIGHBOUR: 'it returns false'. Refute it at one input. -/
def shamirSumsWrong : ChangeSpec := { name := "shamirSums", fn := fun _ => fun
  | [d1, d2, d3, d4] => { results := [.lit (.bool false)], args := [d1, d2, d3, d4] }
  | _ => none }
def ShamirSumsWrongFalsely : Prop := shamirSumsRow.holds Try.pinned (OpenSpec.ofChange shamirSumsWrong)

/-- 'rimelaw07.ShamirSafe': WHATEVER THE INPUT: true; the input reads as it did. -/
def shamirSafeSpec : ChangeSpec := { name := "shamirSafe", fn := fun _ => fun
  | [d1, d2, d3] => { results := [.lit (.bool true)], args := [d1, d2, d3] }
  | _ => none }
def shamirSafeRow : OpenClaim := { program := "ytogcijgklnfjjaa", sum := "a01f6e4810722227760009f1f8d227dabc6a6804a683d0b82e3b37487f000a1b", func := "rime/rimelaw07.ShamirSafe", spec := "shamirSafe", inPlace := ["math/bits.Sub64", "math/bits.Add64"], recurses := true, plainKeys := false, apart := false }
def ShamirSafeSaid : Prop := shamirSafeRow.holds Try.pinned (OpenSpec.ofChange shamirSafeSpec)

/-- ITS FALSE NEIGHBOUR: 'it returns false'. Refute it at one input. -/
def shamirSafeWrong : ChangeSpec := { name := "shamirSafe", fn := fun _ => fun
  | [d1, d2, d3] => { results := [.lit (.bool false)], args := [d1, d2, d3] }
  | _ => none }
def ShamirSafeWrongFalsely : Prop := shamirSafeRow.holds Try.pinned (OpenSpec.ofChange shamirSafeWrong)

/-- 'rimelaw07.ShamirRights': WHATEVER THE INPUT: true; the input reads as it did. -/
def shamirRightsSpec : ChangeSpec := { name := "shamirRights", fn := fun _ => fun
  | [d1, d2, d3, d4] => { results := [.lit (.bool true)], args := [d1, d2, d3, d4] }
  | _ => none }
def shamirRightsRow : OpenClaim := { program := "ytogcijgklnfjjaa", sum := "a01f6e4810722227760009f1f8d227dabc6a6804a683d0b82e3b37487f000a1b", func := "rime/rimelaw07.ShamirRights", spec := "shamirRights", inPlace := ["math/bits.Sub64", "math/bits.Add64"], recurses := true, plainKeys := false, apart := false }
def ShamirRightsSaid : Prop := shamirRightsRow.holds Try.pinned (OpenSpec.ofChange shamirRightsSpec)

/-- ITS FALSE NEIGHBOUR: 'it returns false'. Refute it at one input. -/
def shamirRightsWrong : ChangeSpec := { name := "shamirRights", fn := fun _ => fun
  | [d1, d2, d3, d4] => { results := [.lit (.bool false)], args := [d1, d2, d3, d4] }
  | _ => none }
def ShamirRightsWrongFalsely : Prop := shamirRightsRow.holds Try.pinned (OpenSpec.ofChange shamirRightsWrong)

/-- 'rimelaw07.ShamirBack': WHATEVER THE INPUT: true; the input reads as it did. -/
def shamirBackSpec : ChangeSpec := { name := "shamirBack", fn := fun _ => fun
  | [d1, d2, d3] => { results := [.lit (.bool true)], args := [d1, d2, d3] }
  | _ => none }
def shamirBackRow : OpenClaim := { program := "ytogcijgklnfjjaa", sum := "a01f6e4810722227760009f1f8d227dabc6a6804a683d0b82e3b37487f000a1b", func := "rime/rimelaw07.ShamirBack", spec := "shamirBack", inPlace := ["math/bits.Sub64", "math/bits.Add64"], recurses := true, plainKeys := false, apart := false }
def ShamirBackSaid : Prop := shamirBackRow.holds Try.pinned (OpenSpec.ofChange shamirBackSpec)

/-- ITS FALSE NEIGHBOUR: 'it returns false'. Refute it at one input. -/
def shamirBackWrong : ChangeSpec := { name := "shamirBack", fn := fun _ => fun
  | [d1, d2, d3] => { results := [.lit (.bool false)], args := [d1, d2, d3] }
  | _ => none }
def ShamirBackWrongFalsely : Prop := shamirBackRow.holds Try.pinned (OpenSpec.ofChange shamirBackWrong)

/-- 'rimelaw07.ShamirOnes': WHATEVER THE INPUT: true; the input reads as it did. -/
def shamirOnesSpec : ChangeSpec := { name := "shamirOnes", fn := fun _ => fun
  | [d1, d2] => { results := [.lit (.bool true)], args := [d1, d2] }
  | _ => none }
def shamirOnesRow : OpenClaim := { program := "ytogcijgklnfjjaa", sum := "a01f6e4810722227760009f1f8d227dabc6a6804a683d0b82e3b37487f000a1b", func := "rime/rimelaw07.ShamirOnes", spec := "shamirOnes", inPlace := ["math/bits.Sub64", "math/bits.Add64"], recurses := true, plainKeys := false, apart := false }
def ShamirOnesSaid : Prop := shamirOnesRow.holds Try.pinned (OpenSpec.ofChange shamirOnesSpec)

/-- ITS FALSE NEIGHBOUR: 'it returns false'. Refute it at one input. -/
def shamirOnesWrong : ChangeSpec := { name := "shamirOnes", fn := fun _ => fun
  | [d1, d2] => { results := [.lit (.bool false)], args := [d1, d2] }
  | _ => none }
def ShamirOnesWrongFalsely : Prop := shamirOnesRow.holds Try.pinned (OpenSpec.ofChange shamirOnesWrong)

/- THE SECOND FORM. 'bulk': how many values and letters a reading holds, each counted each time it is reached (what is shared counts as often as it is met; a slice's spare places count too). A statement '..UptoSaid' is the law's where the arguments, and the package variables that the reading takes, are together of bulk at most 1048576: NARROWER than '..Said'. Prove '..Said' where nothing that the law and all that it calls make is longer than what came in: it says more and counts as full. Else prove '..UptoSaid'. A law counts once. -/
mutual
def uptoBulk {H : Type} : DataW H → Nat
  | .lit (.string bytes) => bytes.length + 1
  | .lit _ => 1
  | .nil => 1
  | .ptr d => uptoBulk d + 1
  | .slice elems spare => uptoBulkAll elems + uptoBulkAll spare + 1
  | .agg parts => uptoBulkAll parts + 1
  | .iface _ d => uptoBulk d + 1
  | .map entries => uptoBulkEntries entries + 1
  | .held _ => 1
def uptoBulkAll {H : Type} : List (DataW H) → Nat
  | [] => 0
  | d :: r => uptoBulk d + uptoBulkAll r
def uptoBulkEntries {H : Type} : List (Lit × DataW H) → Nat
  | [] => 0
  | x :: r => uptoBulkEntry x + uptoBulkEntries r
def uptoBulkEntry {H : Type} : Lit × DataW H → Nat
  | (.string bytes, d) => bytes.length + uptoBulk d + 1
  | (_, d) => uptoBulk d + 1
 end
def uptoSmall : (H : Type) → List (DataW H) → Bool := fun _ ds => decide (uptoBulkAll ds ≤ 1048576)
def OpenSpec.upto (s : _root_.Go.ChangeSpec) : _root_.Go.OpenSpec := { _root_.Go.OpenSpec.ofChange s with cond := some uptoSmall }

/-- 'rimelaw07.ShamirThroughs', WHERE WHAT IT READS IS OF BULK AT MOST 1048576: true; the input reads as it did. -/
def shamirThroughsUptoRow : OpenClaim := { program := "ytogcijgklnfjjaa", sum := "a01f6e4810722227760009f1f8d227dabc6a6804a683d0b82e3b37487f000a1b", func := "rime/rimelaw07.ShamirThroughs", spec := "shamirThroughs", inPlace := ["math/bits.Sub64", "math/bits.Add64"], recurses := true, plainKeys := false, apart := false, narrowed := true }
def ShamirThroughsUptoSaid : Prop := shamirThroughsUptoRow.holds Try.pinned (OpenSpec.upto shamirThroughsSpec)

/-- 'rimelaw07.ShamirSums', WHERE WHAT IT READS IS OF BULK AT MOST 1048576: true; the input reads as it did. -/
def shamirSumsUptoRow : OpenClaim := { program := "ytogcijgklnfjjaa", sum := "a01f6e4810722227760009f1f8d227dabc6a6804a683d0b82e3b37487f000a1b", func := "rime/rimelaw07.ShamirSums", spec := "shamirSums", inPlace := ["math/bits.Sub64", "math/bits.Add64"], recurses := true, plainKeys := false, apart := false, narrowed := true }
def ShamirSumsUptoSaid : Prop := shamirSumsUptoRow.holds Try.pinned (OpenSpec.upto shamirSumsSpec)

/-- 'rimelaw07.ShamirSafe', WHERE WHAT IT READS IS OF BULK AT MOST 1048576: true; the input reads as it did. -/
def shamirSafeUptoRow : OpenClaim := { program := "ytogcijgklnfjjaa", sum := "a01f6e4810722227760009f1f8d227dabc6a6804a683d0b82e3b37487f000a1b", func := "rime/rimelaw07.ShamirSafe", spec := "shamirSafe", inPlace := ["math/bits.Sub64", "math/bits.Add64"], recurses := true, plainKeys := false, apart := false, narrowed := true }
def ShamirSafeUptoSaid : Prop := shamirSafeUptoRow.holds Try.pinned (OpenSpec.upto shamirSafeSpec)

/-- 'rimelaw07.ShamirRights', WHERE WHAT IT READS IS OF BULK AT MOST 1048576: true; the input reads as it did. -/
def shamirRightsUptoRow : OpenClaim := { program := "ytogcijgklnfjjaa", sum := "a01f6e4810722227760009f1f8d227dabc6a6804a683d0b82e3b37487f000a1b", func := "rime/rimelaw07.ShamirRights", spec := "shamirRights", inPlace := ["math/bits.Sub64", "math/bits.Add64"], recurses := true, plainKeys := false, apart := false, narrowed := true }
def ShamirRightsUptoSaid : Prop := shamirRightsUptoRow.holds Try.pinned (OpenSpec.upto shamirRightsSpec)

/-- 'rimelaw07.ShamirBack', WHERE WHAT IT READS IS OF BULK AT MOST 1048576: true; the input reads as it did. -/
def shamirBackUptoRow : OpenClaim := { program := "ytogcijgklnfjjaa", sum := "a01f6e4810722227760009f1f8d227dabc6a6804a683d0b82e3b37487f000a1b", func := "rime/rimelaw07.ShamirBack", spec := "shamirBack", inPlace := ["math/bits.Sub64", "math/bits.Add64"], recurses := true, plainKeys := false, apart := false, narrowed := true }
def ShamirBackUptoSaid : Prop := shamirBackUptoRow.holds Try.pinned (OpenSpec.upto shamirBackSpec)

/-- 'rimelaw07.ShamirOnes', WHERE WHAT IT READS IS OF BULK AT MOST 1048576: true; the input reads as it did. -/
def shamirOnesUptoRow : OpenClaim := { program := "ytogcijgklnfjjaa", sum := "a01f6e4810722227760009f1f8d227dabc6a6804a683d0b82e3b37487f000a1b", func := "rime/rimelaw07.ShamirOnes", spec := "shamirOnes", inPlace := ["math/bits.Sub64", "math/bits.Add64"], recurses := true, plainKeys := false, apart := false, narrowed := true }
def ShamirOnesUptoSaid : Prop := shamirOnesUptoRow.holds Try.pinned (OpenSpec.upto shamirOnesSpec)

end Rows
end Go.Proofs.Ytogcijgklnfjjaa
