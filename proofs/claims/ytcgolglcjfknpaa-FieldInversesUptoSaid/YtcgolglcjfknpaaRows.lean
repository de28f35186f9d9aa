/-
  No cell of these rows narrows 'for every input' (looked for: loops, veiled, ifaces, maps, wideKeys, modest, calm, conditions, laid).
  DERIVED. THE GIVEN ROWS OF THIS SEAT. 10 by the template 'for every input the law returns true; each argument reads behind the call as it read before'; 0 by the template 'total and deterministic' (their statements: YtcgolglcjfknpaaTotals.lean).
  GIVEN WITH THE SEED: the statements are not yours to turn. If you find one false, say at which input.
  Laid BY PROGRAM, IN A SANDBOX (cutbox-rows.mjs): the forced cells as the released guide's own fill.sh prints them over the translation bda7f4d6580a90e3… (all of the seat's roots in one cut). By AI agents, Wed Nov 11 2026. No macro, syntax, notation, axiom, sorry.
-/
import Derived.Test.YtcgolglcjfknpaaChecked
import GoSem.Claim
import GoSem.ClaimJoined
import GoSem.ClaimMapViews
import Derived.JoinedTies
import Derived.KernelRfl
namespace Go.Proofs.Ytcgolglcjfknpaa
/- THE CELL 'sum', in the pinned program and in every row, IS THE sha256 OF THE DUMP (.gsa) THAT YtcgolglcjfknpaaProg.lean LOADS. Nothing in Lean hashes anything: it is a label: what it is worth is what the hold of that sum in a sandbox is worth. -/
noncomputable def Try.pinned : Pinned := { name := "ytcgolglcjfknpaa", sum := "bda7f4d6580a90e32b5f62895c884a9cf91a903169360f4f8b6b7450500f7035", checked := Try.checked }
namespace Rows
def none {H : Type} : Left H := { results := [], args := [] }

/-- 'rimelaw01.FieldLimbs': WHATEVER THE INPUT: true; the input reads as it did. -/
def fieldLimbsSpec : ChangeSpec := { name := "fieldLimbs", fn := fun _ => fun
  | [d1, d2] => { results := [.lit (.bool true)], args := [d1, d2] }
  | _ => none }
def fieldLimbsRow : OpenClaim := { program := "ytcgolglcjfknpaa", sum := "bda7f4d6580a90e32b5f62895c884a9cf91a903169360f4f8b6b7450500f7035", func := "rime/rimelaw01.FieldLimbs", spec := "fieldLimbs", inPlace := ["math/bits.Add64"], recurses := true, apart := false }
def FieldLimbsSaid : Prop := fieldLimbsRow.holds Try.pinned (OpenSpec.ofChange fieldLimbsSpec)

/-- ITS FALSE NEIGHBOUR: 'it returns false'. Refute it at one input. -/
def fieldLimbsWrong : ChangeSpec := { name := "fieldLimbs", fn := fun _ => fun
  | [d1, d2] => { results := [.lit (.bool false)], args := [d1, d2] }
  | _ => none }
def FieldLimbsWrongFalsely : Prop := fieldLimbsRow.holds Try.pinned (OpenSpec.ofChange fieldLimbsWrong)

/-- 'rimelaw01.FieldFermat': WHATEVER THE INPUT: true; the input reads as it did. -/
def fieldFermatSpec : ChangeSpec := { name := "fieldFermat", fn := fun _ => fun
  | [d1, d2] => { results := [.lit (.bool true)], args := [d1, d2] }
  | _ => none }
def fieldFermatRow : OpenClaim := { program := "ytcgolglcjfknpaa", sum := "bda7f4d6580a90e32b5f62895c884a9cf91a903169360f4f8b6b7450500f7035", func := "rime/rimelaw01.FieldFermat", spec := "fieldFermat", inPlace := ["math/bits.Add64"], apart := false }
def FieldFermatSaid : Prop := fieldFermatRow.holds Try.pinned (OpenSpec.ofChange fieldFermatSpec)

/-- ITS FALSE NEIGHBOUR: 'it returns false'. Refute it at one input. -/
def fieldFermatWrong : ChangeSpec := { name := "fieldFermat", fn := fun _ => fun
  | [d1, d2] => { results := [.lit (.bool false)], args := [d1, d2] }
  | _ => none }
def FieldFermatWrongFalsely : Prop := fieldFermatRow.holds Try.pinned (OpenSpec.ofChange fieldFermatWrong)

/-- 'rimelaw01.FieldPowers': WHATEVER THE INPUT: true; the input reads as it did. -/
def fieldPowersSpec : ChangeSpec := { name := "fieldPowers", fn := fun _ => fun
  | [d1, d2] => { results := [.lit (.bool true)], args := [d1, d2] }
  | _ => none }
def fieldPowersRow : OpenClaim := { program := "ytcgolglcjfknpaa", sum := "bda7f4d6580a90e32b5f62895c884a9cf91a903169360f4f8b6b7450500f7035", func := "rime/rimelaw01.FieldPowers", spec := "fieldPowers", inPlace := ["math/bits.Add64"], recurses := true, apart := false }
def FieldPowersSaid : Prop := fieldPowersRow.holds Try.pinned (OpenSpec.ofChange fieldPowersSpec)

/-- ITS FALSE NEIGHBOUR: 'it returns false'. Refute it at one input. -/
def fieldPowersWrong : ChangeSpec := { name := "fieldPowers", fn := fun _ => fun
  | [d1, d2] => { results := [.lit (.bool false)], args := [d1, d2] }
  | _ => none }
def FieldPowersWrongFalsely : Prop := fieldPowersRow.holds Try.pinned (OpenSpec.ofChange fieldPowersWrong)

/-- 'rimelaw01.FieldRoots': WHATEVER THE INPUT: true; the input reads as it did. -/
def fieldRootsSpec : ChangeSpec := { name := "fieldRoots", fn := fun _ => fun
  | [d1, d2] => { results := [.lit (.bool true)], args := [d1, d2] }
  | _ => none }
def fieldRootsRow : OpenClaim := { program := "ytcgolglcjfknpaa", sum := "bda7f4d6580a90e32b5f62895c884a9cf91a903169360f4f8b6b7450500f7035", func := "rime/rimelaw01.FieldRoots", spec := "fieldRoots", inPlace := ["math/bits.Add64"], recurses := true, apart := false }
def FieldRootsSaid : Prop := fieldRootsRow.holds Try.pinned (OpenSpec.ofChange fieldRootsSpec)

/-- ITS FALSE NEIGHBOUR: 'it returns false'. Refute it at one input. -/
def fieldRootsWrong : ChangeSpec := { name := "fieldRoots", fn := fun _ => fun
  | [d1, d2] => { results := [.lit (.bool false)], args := [d1, d2] }
  | _ => none }
def FieldRootsWrongFalsely : Prop := fieldRootsRow.holds Try.pinned (OpenSpec.ofChange fieldRootsWrong)

/-- 'rimelaw01.FieldRooted': WHATEVER THE INPUT: true; the input reads as it did. -/
def fieldRootedSpec : ChangeSpec := { name := "fieldRooted", fn := fun _ => fun
  | [d1, d2] => { results := [.lit (.bool true)], args := [d1, d2] }
  | _ => none }
def fieldRootedRow : OpenClaim := { program := "ytcgolglcjfknpaa", sum := "bda7f4d6580a90e32b5f62895c884a9cf91a903169360f4f8b6b7450500f7035", func := "rime/rimelaw01.FieldRooted", spec := "fieldRooted", inPlace := ["math/bits.Add64"], apart := false }
def FieldRootedSaid : Prop := fieldRootedRow.holds Try.pinned (OpenSpec.ofChange fieldRootedSpec)

/-- ITS FALSE NEIGHBOUR: 'it returns false'. Refute it at one input. -/
def fieldRootedWrong : ChangeSpec := { name := "fieldRooted", fn := fun _ => fun
  | [d1, d2] => { results := [.lit (.bool false)], args := [d1, d2] }
  | _ => none }
def FieldRootedWrongFalsely : Prop := fieldRootedRow.holds Try.pinned (OpenSpec.ofChange fieldRootedWrong)

/-- 'rimelaw01.FieldSums': WHATEVER THE INPUT: true; the input reads as it did. -/
def fieldSumsSpec : ChangeSpec := { name := "fieldSums", fn := fun _ => fun
  | [d1, d2, d3] => { results := [.lit (.bool true)], args := [d1, d2, d3] }
  | _ => none }
def fieldSumsRow : OpenClaim := { program := "ytcgolglcjfknpaa", sum := "bda7f4d6580a90e32b5f62895c884a9cf91a903169360f4f8b6b7450500f7035", func := "rime/rimelaw01.FieldSums", spec := "fieldSums", inPlace := ["math/bits.Add64"], recurses := true, apart := false }
def FieldSumsSaid : Prop := fieldSumsRow.holds Try.pinned (OpenSpec.ofChange fieldSumsSpec)

/-- ITS FALSE NEIGHBOUR: 'it returns false'. Refute it at one input. -/
def fieldSumsWrong : ChangeSpec := { name := "fieldSums", fn := fun _ => fun
  | [d1, d2, d3] => { results := [.lit (.bool false)], args := [d1, d2, d3] }
  | _ => none }
def FieldSumsWrongFalsely : Prop := fieldSumsRow.holds Try.pinned (OpenSpec.ofChange fieldSumsWrong)

/-- 'rimelaw01.FieldRing': WHATEVER THE INPUT: true; the input reads as it did. -/
def fieldRingSpec : ChangeSpec := { name := "fieldRing", fn := fun _ => fun
  | [d1, d2, d3] => { results := [.lit (.bool true)], args := [d1, d2, d3] }
  | _ => none }
def fieldRingRow : OpenClaim := { program := "ytcgolglcjfknpaa", sum := "bda7f4d6580a90e32b5f62895c884a9cf91a903169360f4f8b6b7450500f7035", func := "rime/rimelaw01.FieldRing", spec := "fieldRing", inPlace := ["math/bits.Add64"], apart := false }
def FieldRingSaid : Prop := fieldRingRow.holds Try.pinned (OpenSpec.ofChange fieldRingSpec)

/-- ITS FALSE NEIGHBOUR: 'it returns false'. Refute it at one input. -/
def fieldRingWrong : ChangeSpec := { name := "fieldRing", fn := fun _ => fun
  | [d1, d2, d3] => { results := [.lit (.bool false)], args := [d1, d2, d3] }
  | _ => none }
def FieldRingWrongFalsely : Prop := fieldRingRow.holds Try.pinned (OpenSpec.ofChange fieldRingWrong)

/-- 'rimelaw01.FieldInverses': WHATEVER THE INPUT: true; the input reads as it did. -/
def fieldInversesSpec : ChangeSpec := { name := "fieldInverses", fn := fun _ => fun
  | [d] => { results := [.lit (.bool true)], args := [d] }
  | _ => none }
def fieldInversesRow : OpenClaim := { program := "ytcgolglcjfknpaa", sum := "bda7f4d6580a90e32b5f62895c884a9cf91a903169360f4f8b6b7450500f7035", func := "rime/rimelaw01.FieldInverses", spec := "fieldInverses", inPlace := ["math/bits.Add64"], recurses := true, apart := false }
def FieldInversesSaid : Prop := fieldInversesRow.holds Try.pinned (OpenSpec.ofChange fieldInversesSpec)

/-- ITS FALSE NEIGHBOUR: 'it returns false'. Refute it at one input. -/
def fieldInversesWrong : ChangeSpec := { name := "fieldInverses", fn := fun _ => fun
  | [d] => { results := [.lit (.bool false)], args := [d] }
  | _ => none }
def FieldInversesWrongFalsely : Prop := fieldInversesRow.holds Try.pinned (OpenSpec.ofChange fieldInversesWrong)

/-- 'rimelaw01.FieldOwn': WHATEVER THE INPUT: true; the input reads as it did. -/
def fieldOwnSpec : ChangeSpec := { name := "fieldOwn", fn := fun _ => fun
  | [d1, d2] => { results := [.lit (.bool true)], args := [d1, d2] }
  | _ => none }
def fieldOwnRow : OpenClaim := { program := "ytcgolglcjfknpaa", sum := "bda7f4d6580a90e32b5f62895c884a9cf91a903169360f4f8b6b7450500f7035", func := "rime/rimelaw01.FieldOwn", spec := "fieldOwn", inPlace := ["math/bits.Add64"], apart := false }
def FieldOwnSaid : Prop := fieldOwnRow.holds Try.pinned (OpenSpec.ofChange fieldOwnSpec)

/-- ITS FALSE NEIGHBOUR: 'it returns false'. Refute it at one input. -/
def fieldOwnWrong : ChangeSpec := { name := "fieldOwn", fn := fun _ => fun
  | [d1, d2] => { results := [.lit (.bool false)], args := [d1, d2] }
  | _ => none }
def FieldOwnWrongFalsely : Prop := fieldOwnRow.holds Try.pinned (OpenSpec.ofChange fieldOwnWrong)

/-- 'rimelaw01.FieldBack': WHATEVER THE INPUT: true; the input reads as it did. -/
def fieldBackSpec : ChangeSpec := { name := "fieldBack", fn := fun _ => fun
  | [d1, d2, d3] => { results := [.lit (.bool true)], args := [d1, d2, d3] }
  | _ => none }
def fieldBackRow : OpenClaim := { program := "ytcgolglcjfknpaa", sum := "bda7f4d6580a90e32b5f62895c884a9cf91a903169360f4f8b6b7450500f7035", func := "rime/rimelaw01.FieldBack", spec := "fieldBack", inPlace := ["math/bits.Add64"], apart := false }
def FieldBackSaid : Prop := fieldBackRow.holds Try.pinned (OpenSpec.ofChange fieldBackSpec)

/-- ITS FALSE NEIGHBOUR: 'it returns false'. Refute it at one input. -/
def fieldBackWrong : ChangeSpec := { name := "fieldBack", fn := fun _ => fun
  | [d1, d2, d3] => { results := [.lit (.bool false)], args := [d1, d2, d3] }
  | _ => none }
def FieldBackWrongFalsely : Prop := fieldBackRow.holds Try.pinned (OpenSpec.ofChange fieldBackWrong)

/- THE SECOND FORM. 'bulk': how many values and letters a reading holds, each counted each time it is reached (what is shared counts as often as it is met; a slice's spare places count too). A statement '..UptoSaid' is the law's where the arguments, and the package variables that the reading takes, are together of bulk at most 1048576: NARROWER than '..Said'. Prove '..Said' where nothing that the law and all that it calls make is longer than what came in: it says more and counts as full. Else prove '..UptoSaid'. A law counts once. -/
mutual
def uptoBulk {H : Type} : DataW H → Nat
  | .lit (.string bytes) => bytes.length + 1
  | .lit _ => 1
  | .nil => 1
  | .ptr d => uptoBulk d + 1
  | .slice elems spare => uptoBulkAll elems + uptoBulkAll spare + 1
  | .agg parts => uptoBulkAll parts + 1
  | .iface _ d => uptoBulk d + 1
  | .map entries => uptoBulkEntries entries + 1
  | .held _ => 1
def uptoBulkAll {H : Type} : List (DataW H) → Nat
  | [] => 0
  | d :: r => uptoBulk d + uptoBulkAll r
def uptoBulkEntries {H : Type} : List (Lit × DataW H) → Nat
  | [] => 0
  | x :: r => uptoBulkEntry x + uptoBulkEntries r
def uptoBulkEntry {H : Type} : Lit × DataW H → Nat
  | (.string bytes, d) => bytes.length + uptoBulk d + 1
  | (_, d) => uptoBulk d + 1
 end
def uptoSmall : (H : Type) → List (DataW H) → Bool := fun _ ds => decide (uptoBulkAll ds ≤ 1048576)
def OpenSpec.upto (s : _root_.Go.ChangeSpec) : _root_.Go.OpenSpec := { _root_.Go.OpenSpec.ofChange s with cond := some uptoSmall }

/-- 'rimelaw01.FieldLimbs', WHERE WHAT IT READS IS OF BULK AT MOST 1048576: true; the input reads as it did. -/
def fieldLimbsUptoRow : OpenClaim := { program := "ytcgolglcjfknpaa", sum := "bda7f4d6580a90e32b5f62895c884a9cf91a903169360f4f8b6b7450500f7035", func := "rime/rimelaw01.FieldLimbs", spec := "fieldLimbs", inPlace := ["math/bits.Add64"], recurses := true, apart := false, narrowed := true }
def FieldLimbsUptoSaid : Prop := fieldLimbsUptoRow.holds Try.pinned (OpenSpec.upto fieldLimbsSpec)

/-- 'rimelaw01.FieldFermat', WHERE WHAT IT READS IS OF BULK AT MOST 1048576: true; the input reads as it did. -/
def fieldFermatUptoRow : OpenClaim := { program := "ytcgolglcjfknpaa", sum := "bda7f4d6580a90e32b5f62895c884a9cf91a903169360f4f8b6b7450500f7035", func := "rime/rimelaw01.FieldFermat", spec := "fieldFermat", inPlace := ["math/bits.Add64"], apart := false, narrowed := true }
def FieldFermatUptoSaid : Prop := fieldFermatUptoRow.holds Try.pinned (OpenSpec.upto fieldFermatSpec)

/-- 'rimelaw01.FieldPowers', WHERE WHAT IT READS IS OF BULK AT MOST 1048576: true; the input reads as it did. -/
def fieldPowersUptoRow : OpenClaim := { program := "ytcgolglcjfknpaa", sum := "bda7f4d6580a90e32b5f62895c884a9cf91a903169360f4f8b6b7450500f7035", func := "rime/rimelaw01.FieldPowers", spec := "fieldPowers", inPlace := ["math/bits.Add64"], recurses := true, apart := false, narrowed := true }
def FieldPowersUptoSaid : Prop := fieldPowersUptoRow.holds Try.pinned (OpenSpec.upto fieldPowersSpec)

/-- 'rimelaw01.FieldRoots', WHERE WHAT IT READS IS OF BULK AT MOST 1048576: true; the input reads as it did. -/
def fieldRootsUptoRow : OpenClaim := { program := "ytcgolglcjfknpaa", sum := "bda7f4d6580a90e32b5f62895c884a9cf91a903169360f4f8b6b7450500f7035", func := "rime/rimelaw01.FieldRoots", spec := "fieldRoots", inPlace := ["math/bits.Add64"], recurses := true, apart := false, narrowed := true }
def FieldRootsUptoSaid : Prop := fieldRootsUptoRow.holds Try.pinned (OpenSpec.upto fieldRootsSpec)

/-- 'rimelaw01.FieldRooted', WHERE WHAT IT READS IS OF BULK AT MOST 1048576: true; the input reads as it did. -/
def fieldRootedUptoRow : OpenClaim := { program := "ytcgolglcjfknpaa", sum := "bda7f4d6580a90e32b5f62895c884a9cf91a903169360f4f8b6b7450500f7035", func := "rime/rimelaw01.FieldRooted", spec := "fieldRooted", inPlace := ["math/bits.Add64"], apart := false, narrowed := true }
def FieldRootedUptoSaid : Prop := fieldRootedUptoRow.holds Try.pinned (OpenSpec.upto fieldRootedSpec)

/-- 'rimelaw01.FieldSums', WHERE WHAT IT READS IS OF BULK AT MOST 1048576: true; the input reads as it did. -/
def fieldSumsUptoRow : OpenClaim := { program := "ytcgolglcjfknpaa", sum := "bda7f4d6580a90e32b5f62895c884a9cf91a903169360f4f8b6b7450500f7035", func := "rime/rimelaw01.FieldSums", spec := "fieldSums", inPlace := ["math/bits.Add64"], recurses := true, apart := false, narrowed := true }
def FieldSumsUptoSaid : Prop := fieldSumsUptoRow.holds Try.pinned (OpenSpec.upto fieldSumsSpec)

/-- 'rimelaw01.FieldRing', WHERE WHAT IT READS IS OF BULK AT MOST 1048576: true; the input reads as it did. -/
def fieldRingUptoRow : OpenClaim := { program := "ytcgolglcjfknpaa", sum := "bda7f4d6580a90e32b5f62895c884a9cf91a903169360f4f8b6b7450500f7035", func := "rime/rimelaw01.FieldRing", spec := "fieldRing", inPlace := ["math/bits.Add64"], apart := false, narrowed := true }
def FieldRingUptoSaid : Prop := fieldRingUptoRow.holds Try.pinned (OpenSpec.upto fieldRingSpec)

/-- 'rimelaw01.FieldInverses', WHERE WHAT IT READS IS OF BULK AT MOST 1048576: true; the input reads as it did. -/
def fieldInversesUptoRow : OpenClaim := { program := "ytcgolglcjfknpaa", sum := "bda7f4d6580a90e32b5f62895c884a9cf91a903169360f4f8b6b7450500f7035", func := "rime/rimelaw01.FieldInverses", spec := "fieldInverses", inPlace := ["math/bits.Add64"], recurses := true, apart := false, narrowed := true }
def FieldInversesUptoSaid : Prop := fieldInversesUptoRow.holds Try.pinned (OpenSpec.upto fieldInversesSpec)

/-- 'rimelaw01.FieldOwn', WHERE WHAT IT READS IS OF BULK AT MOST 1048576: true; the input reads as it did. -/
def fieldOwnUptoRow : OpenClaim := { program := "ytcgolglcjfknpaa", sum := "bda7f4d6580a90e32b5f62895c884a9cf91a903169360f4f8b6b7450500f7035", func := "rime/rimelaw01.FieldOwn", spec := "fieldOwn", inPlace := ["math/bits.Add64"], apart := false, narrowed := true }
def FieldOwnUptoSaid : Prop := fieldOwnUptoRow.holds Try.pinned (OpenSpec.upto fieldOwnSpec)

/-- 'rimelaw01.FieldBack', WHERE WHAT IT READS IS OF BULK AT MOST 1048576: true; the input reads as it did. -/
def fieldBackUptoRow : OpenClaim := { program := "ytcgolglcjfknpaa", sum := "bda7f4d6580a90e32b5f62895c884a9cf91a903169360f4f8b6b7450500f7035", func := "rime/rimelaw01.FieldBack", spec := "fieldBack", inPlace := ["math/bits.Add64"], apart := false, narrowed := true }
def FieldBackUptoSaid : Prop := fieldBackUptoRow.holds Try.pinned (OpenSpec.upto fieldBackSpec)

end Rows
end Go.Proofs.Ytcgolglcjfknpaa
