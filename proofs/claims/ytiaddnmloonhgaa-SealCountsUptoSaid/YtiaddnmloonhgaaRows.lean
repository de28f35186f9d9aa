/-
  No cell of these rows narrows 'for every input' (looked for: loops, veiled, ifaces, maps, wideKeys, modest, calm, conditions, laid).
  DERIVED. THE GIVEN ROWS OF THIS SEAT. 12 by the template 'for every input the law returns true; each argument reads behind the call as it read before'; 0 by the template 'total and deterministic' (their statements: YtiaddnmloonhgaaTotals.lean).
  GIVEN WITH THE SEED: the statements are not yours to turn. If you find one false, say at which input.
  Laid BY PROGRAM, IN A SANDBOX (cutbox-rows.mjs): the forced cells as the released guide's own fill.sh prints them over the translation 22b2bf78d17d8395… (all of the seat's roots in one cut). By AI agents, Wed Nov 11 2026. No macro, syntax, notation, axiom, sorry.
-/
import Derived.Test.YtiaddnmloonhgaaChecked
import GoSem.Claim
import GoSem.ClaimJoined
import GoSem.ClaimMapViews
import Derived.JoinedTies
import Derived.KernelRfl
namespace Go.Proofs.Ytiaddnmloonhgaa
/- THE CELL 'sum', in the pinned program and in every row, IS THE sha256 OF THE DUMP (.gsa) THAT YtiaddnmloonhgaaProg.lean LOADS. Nothing in Lean hashes anything: it is a label: what it is worth is what the hold of that sum in a sandbox is worth. -/
noncomputable def Try.pinned : Pinned := { name := "ytiaddnmloonhgaa", sum := "22b2bf78d17d8395b1b869cbb47f56ff5a53a858d16254a24a47dbf770f172f1", checked := Try.checked }
namespace Rows
def none {H : Type} : Left H := { results := [], args := [] }

/-- 'rimelaw12.SealBlocks': WHATEVER THE INPUT: true; the input reads as it did. -/
def sealBlocksSpec : ChangeSpec := { name := "sealBlocks", fn := fun _ => fun
  | [d1, d2, d3, d4] => { results := [.lit (.bool true)], args := [d1, d2, d3, d4] }
  | _ => none }
def sealBlocksRow : OpenClaim := { program := "ytiaddnmloonhgaa", sum := "22b2bf78d17d8395b1b869cbb47f56ff5a53a858d16254a24a47dbf770f172f1", func := "rime/rimelaw12.SealBlocks", spec := "sealBlocks", unfollowed := true, recurses := true, apart := false }
def SealBlocksSaid : Prop := sealBlocksRow.holds Try.pinned (OpenSpec.ofChange sealBlocksSpec)

/-- ITS FALSE NEIGHBOUR: 'it returns false'. Refute it at one input. -/
def sealBlocksWrong : ChangeSpec := { name := "sealBlocks", fn := fun _ => fun
  | [d1, d2, d3, d4] => { results := [.lit (.bool false)], args := [d1, d2, d3, d4] }
  | _ => none }
def SealBlocksWrongFalsely : Prop := sealBlocksRow.holds Try.pinned (OpenSpec.ofChange sealBlocksWrong)

/-- 'rimelaw12.SealMacs': WHATEVER THE INPUT: true; the input reads as it did. -/
def sealMacsSpec : ChangeSpec := { name := "sealMacs", fn := fun _ => fun
  | [d1, d2] => { results := [.lit (.bool true)], args := [d1, d2] }
  | _ => none }
def sealMacsRow : OpenClaim := { program := "ytiaddnmloonhgaa", sum := "22b2bf78d17d8395b1b869cbb47f56ff5a53a858d16254a24a47dbf770f172f1", func := "rime/rimelaw12.SealMacs", spec := "sealMacs", unfollowed := true, recurses := true, apart := false }
def SealMacsSaid : Prop := sealMacsRow.holds Try.pinned (OpenSpec.ofChange sealMacsSpec)

/-- ITS FALSE NEIGHBOUR: 'it returns false'. Refute it at one input. -/
def sealMacsWrong : ChangeSpec := { name := "sealMacs", fn := fun _ => fun
  | [d1, d2] => { results := [.lit (.bool false)], args := [d1, d2] }
  | _ => none }
def SealMacsWrongFalsely : Prop := sealMacsRow.holds Try.pinned (OpenSpec.ofChange sealMacsWrong)

/-- 'rimelaw12.SealSeals': WHATEVER THE INPUT: true; the input reads as it did. -/
def sealSealsSpec : ChangeSpec := { name := "sealSeals", fn := fun _ => fun
  | [d1, d2, d3, d4] => { results := [.lit (.bool true)], args := [d1, d2, d3, d4] }
  | _ => none }
def sealSealsRow : OpenClaim := { program := "ytiaddnmloonhgaa", sum := "22b2bf78d17d8395b1b869cbb47f56ff5a53a858d16254a24a47dbf770f172f1", func := "rime/rimelaw12.SealSeals", spec := "sealSeals", unfollowed := true, recurses := true, apart := false }
def SealSealsSaid : Prop := sealSealsRow.holds Try.pinned (OpenSpec.ofChange sealSealsSpec)

/-- ITS FALSE NEIGHBOUR: 'it returns false'. Refute it at one input. -/
def sealSealsWrong : ChangeSpec := { name := "sealSeals", fn := fun _ => fun
  | [d1, d2, d3, d4] => { results := [.lit (.bool false)], args := [d1, d2, d3, d4] }
  | _ => none }
def SealSealsWrongFalsely : Prop := sealSealsRow.holds Try.pinned (OpenSpec.ofChange sealSealsWrong)

/-- 'rimelaw12.SealBack': WHATEVER THE INPUT: true; the input reads as it did. -/
def sealBackSpec : ChangeSpec := { name := "sealBack", fn := fun _ => fun
  | [d] => { results := [.lit (.bool true)], args := [d] }
  | _ => none }
def sealBackRow : OpenClaim := { program := "ytiaddnmloonhgaa", sum := "22b2bf78d17d8395b1b869cbb47f56ff5a53a858d16254a24a47dbf770f172f1", func := "rime/rimelaw12.SealBack", spec := "sealBack", unfollowed := true, recurses := true, apart := false }
def SealBackSaid : Prop := sealBackRow.holds Try.pinned (OpenSpec.ofChange sealBackSpec)

/-- ITS FALSE NEIGHBOUR: 'it returns false'. Refute it at one input. -/
def sealBackWrong : ChangeSpec := { name := "sealBack", fn := fun _ => fun
  | [d] => { results := [.lit (.bool false)], args := [d] }
  | _ => none }
def SealBackWrongFalsely : Prop := sealBackRow.holds Try.pinned (OpenSpec.ofChange sealBackWrong)

/-- 'rimelaw12.SealGoes': WHATEVER THE INPUT: true; the input reads as it did. -/
def sealGoesSpec : ChangeSpec := { name := "sealGoes", fn := fun _ => fun
  | [d] => { results := [.lit (.bool true)], args := [d] }
  | _ => none }
def sealGoesRow : OpenClaim := { program := "ytiaddnmloonhgaa", sum := "22b2bf78d17d8395b1b869cbb47f56ff5a53a858d16254a24a47dbf770f172f1", func := "rime/rimelaw12.SealGoes", spec := "sealGoes", unfollowed := true, recurses := true, apart := false }
def SealGoesSaid : Prop := sealGoesRow.holds Try.pinned (OpenSpec.ofChange sealGoesSpec)

/-- ITS FALSE NEIGHBOUR: 'it returns false'. Refute it at one input. -/
def sealGoesWrong : ChangeSpec := { name := "sealGoes", fn := fun _ => fun
  | [d] => { results := [.lit (.bool false)], args := [d] }
  | _ => none }
def SealGoesWrongFalsely : Prop := sealGoesRow.holds Try.pinned (OpenSpec.ofChange sealGoesWrong)

/-- 'rimelaw12.SealTurned': WHATEVER THE INPUT: true; the input reads as it did. -/
def sealTurnedSpec : ChangeSpec := { name := "sealTurned", fn := fun _ => fun
  | [d] => { results := [.lit (.bool true)], args := [d] }
  | _ => none }
def sealTurnedRow : OpenClaim := { program := "ytiaddnmloonhgaa", sum := "22b2bf78d17d8395b1b869cbb47f56ff5a53a858d16254a24a47dbf770f172f1", func := "rime/rimelaw12.SealTurned", spec := "sealTurned", unfollowed := true, recurses := true, apart := false }
def SealTurnedSaid : Prop := sealTurnedRow.holds Try.pinned (OpenSpec.ofChange sealTurnedSpec)

/-- ITS FALSE NEIGHBOUR: 'it returns false'. Refute it at one input. -/
def sealTurnedWrong : ChangeSpec := { name := "sealTurned", fn := fun _ => fun
  | [d] => { results := [.lit (.bool false)], args := [d] }
  | _ => none }
def SealTurnedWrongFalsely : Prop := sealTurnedRow.holds Try.pinned (OpenSpec.ofChange sealTurnedWrong)

/-- 'rimelaw12.SealPoly': WHATEVER THE INPUT: true; the input reads as it did. -/
def sealPolySpec : ChangeSpec := { name := "sealPoly", fn := fun _ => fun
  | [d1, d2] => { results := [.lit (.bool true)], args := [d1, d2] }
  | _ => none }
def sealPolyRow : OpenClaim := { program := "ytiaddnmloonhgaa", sum := "22b2bf78d17d8395b1b869cbb47f56ff5a53a858d16254a24a47dbf770f172f1", func := "rime/rimelaw12.SealPoly", spec := "sealPoly", unfollowed := true, recurses := true, apart := false }
def SealPolySaid : Prop := sealPolyRow.holds Try.pinned (OpenSpec.ofChange sealPolySpec)

/-- ITS FALSE NEIGHBOUR: 'it returns false'. Refute it at one input. -/
def sealPolyWrong : ChangeSpec := { name := "sealPoly", fn := fun _ => fun
  | [d1, d2] => { results := [.lit (.bool false)], args := [d1, d2] }
  | _ => none }
def SealPolyWrongFalsely : Prop := sealPolyRow.holds Try.pinned (OpenSpec.ofChange sealPolyWrong)

/-- 'rimelaw12.SealOpens': WHATEVER THE INPUT: true; the input reads as it did. -/
def sealOpensSpec : ChangeSpec := { name := "sealOpens", fn := fun _ => fun
  | [d] => { results := [.lit (.bool true)], args := [d] }
  | _ => none }
def sealOpensRow : OpenClaim := { program := "ytiaddnmloonhgaa", sum := "22b2bf78d17d8395b1b869cbb47f56ff5a53a858d16254a24a47dbf770f172f1", func := "rime/rimelaw12.SealOpens", spec := "sealOpens", unfollowed := true, recurses := true, apart := false }
def SealOpensSaid : Prop := sealOpensRow.holds Try.pinned (OpenSpec.ofChange sealOpensSpec)

/-- ITS FALSE NEIGHBOUR: 'it returns false'. Refute it at one input. -/
def sealOpensWrong : ChangeSpec := { name := "sealOpens", fn := fun _ => fun
  | [d] => { results := [.lit (.bool false)], args := [d] }
  | _ => none }
def SealOpensWrongFalsely : Prop := sealOpensRow.holds Try.pinned (OpenSpec.ofChange sealOpensWrong)

/-- 'rimelaw12.SealUnboxes': WHATEVER THE INPUT: true; the input reads as it did. -/
def sealUnboxesSpec : ChangeSpec := { name := "sealUnboxes", fn := fun _ => fun
  | [d1, d2, d3] => { results := [.lit (.bool true)], args := [d1, d2, d3] }
  | _ => none }
def sealUnboxesRow : OpenClaim := { program := "ytiaddnmloonhgaa", sum := "22b2bf78d17d8395b1b869cbb47f56ff5a53a858d16254a24a47dbf770f172f1", func := "rime/rimelaw12.SealUnboxes", spec := "sealUnboxes", unfollowed := true, recurses := true, apart := false }
def SealUnboxesSaid : Prop := sealUnboxesRow.holds Try.pinned (OpenSpec.ofChange sealUnboxesSpec)

/-- ITS FALSE NEIGHBOUR: 'it returns false'. Refute it at one input. -/
def sealUnboxesWrong : ChangeSpec := { name := "sealUnboxes", fn := fun _ => fun
  | [d1, d2, d3] => { results := [.lit (.bool false)], args := [d1, d2, d3] }
  | _ => none }
def SealUnboxesWrongFalsely : Prop := sealUnboxesRow.holds Try.pinned (OpenSpec.ofChange sealUnboxesWrong)

/-- 'rimelaw12.SealBoxes': WHATEVER THE INPUT: true; the input reads as it did. -/
def sealBoxesSpec : ChangeSpec := { name := "sealBoxes", fn := fun _ => fun
  | [d1, d2, d3, d4] => { results := [.lit (.bool true)], args := [d1, d2, d3, d4] }
  | _ => none }
def sealBoxesRow : OpenClaim := { program := "ytiaddnmloonhgaa", sum := "22b2bf78d17d8395b1b869cbb47f56ff5a53a858d16254a24a47dbf770f172f1", func := "rime/rimelaw12.SealBoxes", spec := "sealBoxes", unfollowed := true, recurses := true, apart := false }
def SealBoxesSaid : Prop := sealBoxesRow.holds Try.pinned (OpenSpec.ofChange sealBoxesSpec)

/-- ITS FALSE NEIGHBOUR: 'it returns false'. Refute it at one input. -/
def sealBoxesWrong : ChangeSpec := { name := "sealBoxes", fn := fun _ => fun
  | [d1, d2, d3, d4] => { results := [.lit (.bool false)], args := [d1, d2, d3, d4] }
  | _ => none }
def SealBoxesWrongFalsely : Prop := sealBoxesRow.holds Try.pinned (OpenSpec.ofChange sealBoxesWrong)

/-- 'rimelaw12.SealCounts': WHATEVER THE INPUT: true; the input reads as it did. -/
def sealCountsSpec : ChangeSpec := { name := "sealCounts", fn := fun _ => fun
  | [d1, d2, d3, d4] => { results := [.lit (.bool true)], args := [d1, d2, d3, d4] }
  | _ => none }
def sealCountsRow : OpenClaim := { program := "ytiaddnmloonhgaa", sum := "22b2bf78d17d8395b1b869cbb47f56ff5a53a858d16254a24a47dbf770f172f1", func := "rime/rimelaw12.SealCounts", spec := "sealCounts", unfollowed := true, recurses := true, apart := false }
def SealCountsSaid : Prop := sealCountsRow.holds Try.pinned (OpenSpec.ofChange sealCountsSpec)

/-- ITS FALSE NEIGHBOUR: 'it returns false'. Refute it at one input. -/
def sealCountsWrong : ChangeSpec := { name := "sealCounts", fn := fun _ => fun
  | [d1, d2, d3, d4] => { results := [.lit (.bool false)], args := [d1, d2, d3, d4] }
  | _ => none }
def SealCountsWrongFalsely : Prop := sealCountsRow.holds Try.pinned (OpenSpec.ofChange sealCountsWrong)

/-- 'rimelaw12.SealOwn': WHATEVER THE INPUT: true; the input reads as it did. -/
def sealOwnSpec : ChangeSpec := { name := "sealOwn", fn := fun _ => fun
  | [d1, d2, d3, d4] => { results := [.lit (.bool true)], args := [d1, d2, d3, d4] }
  | _ => none }
def sealOwnRow : OpenClaim := { program := "ytiaddnmloonhgaa", sum := "22b2bf78d17d8395b1b869cbb47f56ff5a53a858d16254a24a47dbf770f172f1", func := "rime/rimelaw12.SealOwn", spec := "sealOwn", unfollowed := true, recurses := true, apart := false }
def SealOwnSaid : Prop := sealOwnRow.holds Try.pinned (OpenSpec.ofChange sealOwnSpec)

/-- ITS FALSE NEIGHBOUR: 'it returns false'. Refute it at one input. -/
def sealOwnWrong : ChangeSpec := { name := "sealOwn", fn := fun _ => fun
  | [d1, d2, d3, d4] => { results := [.lit (.bool false)], args := [d1, d2, d3, d4] }
  | _ => none }
def SealOwnWrongFalsely : Prop := sealOwnRow.holds Try.pinned (OpenSpec.ofChange sealOwnWrong)

/- THE SECOND FORM. 'bulk': how many values and letters a reading holds, each counted each time it is reached (what is shared counts as often as it is met; a slice's spare places count too). A statement '..UptoSaid' is the law's where the arguments, and the package variables that the reading takes, are together of bulk at most 1048576: NARROWER than '..Said'. Prove '..Said' where nothing that the law and all that it calls make is longer than what came in: it says more and counts as full. Else prove '..UptoSaid'. A law counts once. -/
mutual
def uptoBulk {H : Type} : DataW H → Nat
  | .lit (.string bytes) => bytes.length + 1
  | .lit _ => 1
  | .nil => 1
  | .ptr d => uptoBulk d + 1
  | .slice elems spare => uptoBulkAll elems + uptoBulkAll spare + 1
  | .agg parts => uptoBulkAll parts + 1
  | .iface _ d => uptoBulk d + 1
  | .map entries => uptoBulkEntries entries + 1
  | .held _ => 1
def uptoBulkAll {H : Type} : List (DataW H) → Nat
  | [] => 0
  | d :: r => uptoBulk d + uptoBulkAll r
def uptoBulkEntries {H : Type} : List (Lit × DataW H) → Nat
  | [] => 0
  | x :: r => uptoBulkEntry x + uptoBulkEntries r
def uptoBulkEntry {H : Type} : Lit × DataW H → Nat
  | (.string bytes, d) => bytes.length + uptoBulk d + 1
  | (_, d) => uptoBulk d + 1
 end
def uptoSmall : (H : Type) → List (DataW H) → Bool := fun _ ds => decide (uptoBulkAll ds ≤ 1048576)
def OpenSpec.upto (s : _root_.Go.ChangeSpec) : _root_.Go.OpenSpec := { _root_.Go.OpenSpec.ofChange s with cond := some uptoSmall }

/-- 'rimelaw12.SealBlocks', WHERE WHAT IT READS IS OF BULK AT MOST 1048576: true; the input reads as it did. -/
def sealBlocksUptoRow : OpenClaim := { program := "ytiaddnmloonhgaa", sum := "22b2bf78d17d8395b1b869cbb47f56ff5a53a858d16254a24a47dbf770f172f1", func := "rime/rimelaw12.SealBlocks", spec := "sealBlocks", unfollowed := true, recurses := true, apart := false, narrowed := true }
def SealBlocksUptoSaid : Prop := sealBlocksUptoRow.holds Try.pinned (OpenSpec.upto sealBlocksSpec)

/-- 'rimelaw12.SealMacs', WHERE WHAT IT READS IS OF BULK AT MOST 1048576: true; the input reads as it did. -/
def sealMacsUptoRow : OpenClaim := { program := "ytiaddnmloonhgaa", sum := "22b2bf78d17d8395b1b869cbb47f56ff5a53a858d16254a24a47dbf770f172f1", func := "rime/rimelaw12.SealMacs", spec := "sealMacs", unfollowed := true, recurses := true, apart := false, narrowed := true }
def SealMacsUptoSaid : Prop := sealMacsUptoRow.holds Try.pinned (OpenSpec.upto sealMacsSpec)

/-- 'rimelaw12.SealSeals', WHERE WHAT IT READS IS OF BULK AT MOST 1048576: true; the input reads as it did. -/
def sealSealsUptoRow : OpenClaim := { program := "ytiaddnmloonhgaa", sum := "22b2bf78d17d8395b1b869cbb47f56ff5a53a858d16254a24a47dbf770f172f1", func := "rime/rimelaw12.SealSeals", spec := "sealSeals", unfollowed := true, recurses := true, apart := false, narrowed := true }
def SealSealsUptoSaid : Prop := sealSealsUptoRow.holds Try.pinned (OpenSpec.upto sealSealsSpec)

/-- 'rimelaw12.SealBack', WHERE WHAT IT READS IS OF BULK AT MOST 1048576: true; the input reads as it did. -/
def sealBackUptoRow : OpenClaim := { program := "ytiaddnmloonhgaa", sum := "22b2bf78d17d8395b1b869cbb47f56ff5a53a858d16254a24a47dbf770f172f1", func := "rime/rimelaw12.SealBack", spec := "sealBack", unfollowed := true, recurses := true, apart := false, narrowed := true }
def SealBackUptoSaid : Prop := sealBackUptoRow.holds Try.pinned (OpenSpec.upto sealBackSpec)

/-- 'rimelaw12.SealGoes', WHERE WHAT IT READS IS OF BULK AT MOST 1048576: true; the input reads as it did. -/
def sealGoesUptoRow : OpenClaim := { program := "ytiaddnmloonhgaa", sum := "22b2bf78d17d8395b1b869cbb47f56ff5a53a858d16254a24a47dbf770f172f1", func := "rime/rimelaw12.SealGoes", spec := "sealGoes", unfollowed := true, recurses := true, apart := false, narrowed := true }
def SealGoesUptoSaid : Prop := sealGoesUptoRow.holds Try.pinned (OpenSpec.upto sealGoesSpec)

/-- 'rimelaw12.SealTurned', WHERE WHAT IT READS IS OF BULK AT MOST 1048576: true; the input reads as it did. -/
def sealTurnedUptoRow : OpenClaim := { program := "ytiaddnmloonhgaa", sum := "22b2bf78d17d8395b1b869cbb47f56ff5a53a858d16254a24a47dbf770f172f1", func := "rime/rimelaw12.SealTurned", spec := "sealTurned", unfollowed := true, recurses := true, apart := false, narrowed := true }
def SealTurnedUptoSaid : Prop := sealTurnedUptoRow.holds Try.pinned (OpenSpec.upto sealTurnedSpec)

/-- 'rimelaw12.SealPoly', WHERE WHAT IT READS IS OF BULK AT MOST 1048576: true; the input reads as it did. -/
def sealPolyUptoRow : OpenClaim := { program := "ytiaddnmloonhgaa", sum := "22b2bf78d17d8395b1b869cbb47f56ff5a53a858d16254a24a47dbf770f172f1", func := "rime/rimelaw12.SealPoly", spec := "sealPoly", unfollowed := true, recurses := true, apart := false, narrowed := true }
def SealPolyUptoSaid : Prop := sealPolyUptoRow.holds Try.pinned (OpenSpec.upto sealPolySpec)

/-- 'rimelaw12.SealOpens', WHERE WHAT IT READS IS OF BULK AT MOST 1048576: true; the input reads as it did. -/
def sealOpensUptoRow : OpenClaim := { program := "ytiaddnmloonhgaa", sum := "22b2bf78d17d8395b1b869cbb47f56ff5a53a858d16254a24a47dbf770f172f1", func := "rime/rimelaw12.SealOpens", spec := "sealOpens", unfollowed := true, recurses := true, apart := false, narrowed := true }
def SealOpensUptoSaid : Prop := sealOpensUptoRow.holds Try.pinned (OpenSpec.upto sealOpensSpec)

/-- 'rimelaw12.SealUnboxes', WHERE WHAT IT READS IS OF BULK AT MOST 1048576: true; the input reads as it did. -/
def sealUnboxesUptoRow : OpenClaim := { program := "ytiaddnmloonhgaa", sum := "22b2bf78d17d8395b1b869cbb47f56ff5a53a858d16254a24a47dbf770f172f1", func := "rime/rimelaw12.SealUnboxes", spec := "sealUnboxes", unfollowed := true, recurses := true, apart := false, narrowed := true }
def SealUnboxesUptoSaid : Prop := sealUnboxesUptoRow.holds Try.pinned (OpenSpec.upto sealUnboxesSpec)

/-- 'rimelaw12.SealBoxes', WHERE WHAT IT READS IS OF BULK AT MOST 1048576: true; the input reads as it did. -/
def sealBoxesUptoRow : OpenClaim := { program := "ytiaddnmloonhgaa", sum := "22b2bf78d17d8395b1b869cbb47f56ff5a53a858d16254a24a47dbf770f172f1", func := "rime/rimelaw12.SealBoxes", spec := "sealBoxes", unfollowed := true, recurses := true, apart := false, narrowed := true }
def SealBoxesUptoSaid : Prop := sealBoxesUptoRow.holds Try.pinned (OpenSpec.upto sealBoxesSpec)

/-- 'rimelaw12.SealCounts', WHERE WHAT IT READS IS OF BULK AT MOST 1048576: true; the input reads as it did. -/
def sealCountsUptoRow : OpenClaim := { program := "ytiaddnmloonhgaa", sum := "22b2bf78d17d8395b1b869cbb47f56ff5a53a858d16254a24a47dbf770f172f1", func := "rime/rimelaw12.SealCounts", spec := "sealCounts", unfollowed := true, recurses := true, apart := false, narrowed := true }
def SealCountsUptoSaid : Prop := sealCountsUptoRow.holds Try.pinned (OpenSpec.upto sealCountsSpec)

/-- 'rimelaw12.SealOwn', WHERE WHAT IT READS IS OF BULK AT MOST 1048576: true; the input reads as it did. -/
def sealOwnUptoRow : OpenClaim := { program := "ytiaddnmloonhgaa", sum := "22b2bf78d17d8395b1b869cbb47f56ff5a53a858d16254a24a47dbf770f172f1", func := "rime/rimelaw12.SealOwn", spec := "sealOwn", unfollowed := true, recurses := true, apart := false, narrowed := true }
def SealOwnUptoSaid : Prop := sealOwnUptoRow.holds Try.pinned (OpenSpec.upto sealOwnSpec)

end Rows
end Go.Proofs.Ytiaddnmloonhgaa
