/-
  No cell of these rows narrows 'for every input' (looked for: loops, veiled, ifaces, maps, wideKeys, modest, calm, conditions, laid).
  DERIVED. THE GIVEN ROWS OF THIS SEAT. 12 by the template 'for every input the law returns true; each argument reads behind the call as it read before'; 0 by the template 'total and deterministic' (their statements: YtgeplglggcoaiaaTotals.lean).
  GIVEN WITH THE SEED: the statements are not yours to turn. If you find one false, say at which input.
  Laid BY PROGRAM, IN A SANDBOX (cutbox-rows.mjs): the forced cells as the released guide's own fill.sh prints them over the translation 1c009237a54648df… (all of the seat's roots in one cut). By AI agents, Wed Nov 11 2026. No macro, syntax, notation, axiom, sorry.
-/
import Derived.Test.YtgeplglggcoaiaaChecked
import GoSem.Claim
import GoSem.ClaimJoined
import GoSem.ClaimMapViews
import Derived.JoinedTies
import Derived.KernelRfl
namespace Go.Proofs.Ytgeplglggcoaiaa
/- THE CELL 'sum', in the pinned program and in every row, IS THE sha256 OF THE DUMP (.gsa) THAT YtgeplglggcoaiaaProg.lean LOADS. Nothing in Lean hashes anything: it is a label: what it is worth is what the hold of that sum in a sandbox is worth. -/
noncomputable def Try.pinned : Pinned := { name := "ytgeplglggcoaiaa", sum := "1c009237a54648df5394e6392435798654d8384b95808fc0fd7c3522a9f0d24c", checked := Try.checked }
namespace Rows
def none {H : Type} : Left H := { results := [], args := [] }

/-- 'examboardlaw54.HoldPlaces': WHATEVER THE INPUT: true; the input reads as it did. -/
def holdPlacesSpec : ChangeSpec := { name := "holdPlaces", fn := fun _ => fun
  | [d1, d2, d3] => { results := [.lit (.bool true)], args := [d1, d2, d3] }
  | _ => none }
def holdPlacesRow : OpenClaim := { program := "ytgeplglggcoaiaa", sum := "1c009237a54648df5394e6392435798654d8384b95808fc0fd7c3522a9f0d24c", func := "examboard/examboardlaw54.HoldPlaces", spec := "holdPlaces", apart := false }
def HoldPlacesSaid : Prop := holdPlacesRow.holds Try.pinned (OpenSpec.ofChange holdPlacesSpec)

/-- ITS FALSE NEIGHBOUR: 'it returns false'. Refute it at one input. -/
def holdPlacesWrong : ChangeSpec := { name := "holdPlaces", fn := fun _ => fun
  | [d1, d2, d3] => { results := [.lit (.bool false)], args := [d1, d2, d3] }
  | _ => none }
def HoldPlacesWrongFalsely : Prop := holdPlacesRow.holds Try.pinned (OpenSpec.ofChange holdPlacesWrong)

/-- 'examboardlaw54.HoldChecks': WHATEVER THE INPUT: true; the input reads as it did. -/
def holdChecksSpec : ChangeSpec := { name := "holdChecks", fn := fun _ => fun
  | [d] => { results := [.lit (.bool true)], args := [d] }
  | _ => none }
def holdChecksRow : OpenClaim := { program := "ytgeplglggcoaiaa", sum := "1c009237a54648df5394e6392435798654d8384b95808fc0fd7c3522a9f0d24c", func := "examboard/examboardlaw54.HoldChecks", spec := "holdChecks", recurses := true, apart := false }
def HoldChecksSaid : Prop := holdChecksRow.holds Try.pinned (OpenSpec.ofChange holdChecksSpec)

/-- ITS FALSE NEIGHBOUR: 'it returns false'. Refute it at one input. -/
def holdChecksWrong : ChangeSpec := { name := "holdChecks", fn := fun _ => fun
  | [d] => { results := [.lit (.bool false)], args := [d] }
  | _ => none }
def HoldChecksWrongFalsely : Prop := holdChecksRow.holds Try.pinned (OpenSpec.ofChange holdChecksWrong)

/-- 'examboardlaw17.AssetRules': WHATEVER THE INPUT: true; the input reads as it did. -/
def assetRulesSpec : ChangeSpec := { name := "assetRules", fn := fun _ => fun
  | [d1, d2] => { results := [.lit (.bool true)], args := [d1, d2] }
  | _ => none }
def assetRulesRow : OpenClaim := { program := "ytgeplglggcoaiaa", sum := "1c009237a54648df5394e6392435798654d8384b95808fc0fd7c3522a9f0d24c", func := "examboard/examboardlaw17.AssetRules", spec := "assetRules", unfollowed := true, recurses := true, apart := false }
def AssetRulesSaid : Prop := assetRulesRow.holds Try.pinned (OpenSpec.ofChange assetRulesSpec)

/-- ITS FALSE NEIGHBOUR: 'it returns false'. Refute it at one input. -/
def assetRulesWrong : ChangeSpec := { name := "assetRules", fn := fun _ => fun
  | [d1, d2] => { results := [.lit (.bool false)], args := [d1, d2] }
  | _ => none }
def AssetRulesWrongFalsely : Prop := assetRulesRow.holds Try.pinned (OpenSpec.ofChange assetRulesWrong)

/-- 'examboardlaw17.AssetLists': WHATEVER THE INPUT: true; the input reads as it did. -/
def assetListsSpec : ChangeSpec := { name := "assetLists", fn := fun _ => fun
  | [d1, d2, d3] => { results := [.lit (.bool true)], args := [d1, d2, d3] }
  | _ => none }
def assetListsRow : OpenClaim := { program := "ytgeplglggcoaiaa", sum := "1c009237a54648df5394e6392435798654d8384b95808fc0fd7c3522a9f0d24c", func := "examboard/examboardlaw17.AssetLists", spec := "assetLists", unfollowed := true, recurses := true, apart := false }
def AssetListsSaid : Prop := assetListsRow.holds Try.pinned (OpenSpec.ofChange assetListsSpec)

/-- ITS FALSE NEIGHBOUR: 'it returns false'. Refute it at one input. -/
def assetListsWrong : ChangeSpec := { name := "assetLists", fn := fun _ => fun
  | [d1, d2, d3] => { results := [.lit (.bool false)], args := [d1, d2, d3] }
  | _ => none }
def AssetListsWrongFalsely : Prop := assetListsRow.holds Try.pinned (OpenSpec.ofChange assetListsWrong)

/-- 'examboardlaw24.MatrixDivides': WHATEVER THE INPUT: true; the input reads as it did. -/
def matrixDividesSpec : ChangeSpec := { name := "matrixDivides", fn := fun _ => fun
  | [d1, d2, d3] => { results := [.lit (.bool true)], args := [d1, d2, d3] }
  | _ => none }
def matrixDividesRow : OpenClaim := { program := "ytgeplglggcoaiaa", sum := "1c009237a54648df5394e6392435798654d8384b95808fc0fd7c3522a9f0d24c", func := "examboard/examboardlaw24.MatrixDivides", spec := "matrixDivides", recurses := true, apart := false }
def MatrixDividesSaid : Prop := matrixDividesRow.holds Try.pinned (OpenSpec.ofChange matrixDividesSpec)

/-- ITS FALSE NEIGHBOUR: 'it returns false'. Refute it at one input. -/
def matrixDividesWrong : ChangeSpec := { name := "matrixDivides", fn := fun _ => fun
  | [d1, d2, d3] => { results := [.lit (.bool false)], args := [d1, d2, d3] }
  | _ => none }
def MatrixDividesWrongFalsely : Prop := matrixDividesRow.holds Try.pinned (OpenSpec.ofChange matrixDividesWrong)

/-- 'examboardlaw17.AssetOnce': WHATEVER THE INPUT: true; the input reads as it did. -/
def assetOnceSpec : ChangeSpec := { name := "assetOnce", fn := fun _ => fun
  | [d1, d2, d3] => { results := [.lit (.bool true)], args := [d1, d2, d3] }
  | _ => none }
def assetOnceRow : OpenClaim := { program := "ytgeplglggcoaiaa", sum := "1c009237a54648df5394e6392435798654d8384b95808fc0fd7c3522a9f0d24c", func := "examboard/examboardlaw17.AssetOnce", spec := "assetOnce", unfollowed := true, recurses := true, apart := false }
def AssetOnceSaid : Prop := assetOnceRow.holds Try.pinned (OpenSpec.ofChange assetOnceSpec)

/-- ITS FALSE NEIGHBOUR: 'it returns false'. Refute it at one input. -/
def assetOnceWrong : ChangeSpec := { name := "assetOnce", fn := fun _ => fun
  | [d1, d2, d3] => { results := [.lit (.bool false)], args := [d1, d2, d3] }
  | _ => none }
def AssetOnceWrongFalsely : Prop := assetOnceRow.holds Try.pinned (OpenSpec.ofChange assetOnceWrong)

/-- 'examboardlaw24.MatrixCounts': WHATEVER THE INPUT: true; the input reads as it did. -/
def matrixCountsSpec : ChangeSpec := { name := "matrixCounts", fn := fun _ => fun
  | [d1, d2] => { results := [.lit (.bool true)], args := [d1, d2] }
  | _ => none }
def matrixCountsRow : OpenClaim := { program := "ytgeplglggcoaiaa", sum := "1c009237a54648df5394e6392435798654d8384b95808fc0fd7c3522a9f0d24c", func := "examboard/examboardlaw24.MatrixCounts", spec := "matrixCounts", recurses := true, apart := false }
def MatrixCountsSaid : Prop := matrixCountsRow.holds Try.pinned (OpenSpec.ofChange matrixCountsSpec)

/-- ITS FALSE NEIGHBOUR: 'it returns false'. Refute it at one input. -/
def matrixCountsWrong : ChangeSpec := { name := "matrixCounts", fn := fun _ => fun
  | [d1, d2] => { results := [.lit (.bool false)], args := [d1, d2] }
  | _ => none }
def MatrixCountsWrongFalsely : Prop := matrixCountsRow.holds Try.pinned (OpenSpec.ofChange matrixCountsWrong)

/-- 'examboardlaw17.AssetMissing': WHATEVER THE INPUT: true; the input reads as it did. -/
def assetMissingSpec : ChangeSpec := { name := "assetMissing", fn := fun _ => fun
  | [d1, d2, d3, d4] => { results := [.lit (.bool true)], args := [d1, d2, d3, d4] }
  | _ => none }
def assetMissingRow : OpenClaim := { program := "ytgeplglggcoaiaa", sum := "1c009237a54648df5394e6392435798654d8384b95808fc0fd7c3522a9f0d24c", func := "examboard/examboardlaw17.AssetMissing", spec := "assetMissing", unfollowed := true, recurses := true, apart := false }
def AssetMissingSaid : Prop := assetMissingRow.holds Try.pinned (OpenSpec.ofChange assetMissingSpec)

/-- ITS FALSE NEIGHBOUR: 'it returns false'. Refute it at one input. -/
def assetMissingWrong : ChangeSpec := { name := "assetMissing", fn := fun _ => fun
  | [d1, d2, d3, d4] => { results := [.lit (.bool false)], args := [d1, d2, d3, d4] }
  | _ => none }
def AssetMissingWrongFalsely : Prop := assetMissingRow.holds Try.pinned (OpenSpec.ofChange assetMissingWrong)

/-- 'examboardlaw17.AssetRights': WHATEVER THE INPUT: true; the input reads as it did. -/
def assetRightsSpec : ChangeSpec := { name := "assetRights", fn := fun _ => fun
  | [d1, d2, d3, d4] => { results := [.lit (.bool true)], args := [d1, d2, d3, d4] }
  | _ => none }
def assetRightsRow : OpenClaim := { program := "ytgeplglggcoaiaa", sum := "1c009237a54648df5394e6392435798654d8384b95808fc0fd7c3522a9f0d24c", func := "examboard/examboardlaw17.AssetRights", spec := "assetRights", unfollowed := true, recurses := true, apart := false }
def AssetRightsSaid : Prop := assetRightsRow.holds Try.pinned (OpenSpec.ofChange assetRightsSpec)

/-- ITS FALSE NEIGHBOUR: 'it returns false'. Refute it at one input. -/
def assetRightsWrong : ChangeSpec := { name := "assetRights", fn := fun _ => fun
  | [d1, d2, d3, d4] => { results := [.lit (.bool false)], args := [d1, d2, d3, d4] }
  | _ => none }
def AssetRightsWrongFalsely : Prop := assetRightsRow.holds Try.pinned (OpenSpec.ofChange assetRightsWrong)

/-- 'examboardlaw54.HoldLifts': WHATEVER THE INPUT: true; the input reads as it did. -/
def holdLiftsSpec : ChangeSpec := { name := "holdLifts", fn := fun _ => fun
  | [d1, d2, d3] => { results := [.lit (.bool true)], args := [d1, d2, d3] }
  | _ => none }
def holdLiftsRow : OpenClaim := { program := "ytgeplglggcoaiaa", sum := "1c009237a54648df5394e6392435798654d8384b95808fc0fd7c3522a9f0d24c", func := "examboard/examboardlaw54.HoldLifts", spec := "holdLifts", recurses := true, apart := false }
def HoldLiftsSaid : Prop := holdLiftsRow.holds Try.pinned (OpenSpec.ofChange holdLiftsSpec)

/-- ITS FALSE NEIGHBOUR: 'it returns false'. Refute it at one input. -/
def holdLiftsWrong : ChangeSpec := { name := "holdLifts", fn := fun _ => fun
  | [d1, d2, d3] => { results := [.lit (.bool false)], args := [d1, d2, d3] }
  | _ => none }
def HoldLiftsWrongFalsely : Prop := holdLiftsRow.holds Try.pinned (OpenSpec.ofChange holdLiftsWrong)

/-- 'examboardlaw54.HoldPublishes': WHATEVER THE INPUT: true; the input reads as it did. -/
def holdPublishesSpec : ChangeSpec := { name := "holdPublishes", fn := fun _ => fun
  | [d1, d2] => { results := [.lit (.bool true)], args := [d1, d2] }
  | _ => none }
def holdPublishesRow : OpenClaim := { program := "ytgeplglggcoaiaa", sum := "1c009237a54648df5394e6392435798654d8384b95808fc0fd7c3522a9f0d24c", func := "examboard/examboardlaw54.HoldPublishes", spec := "holdPublishes", recurses := true, apart := false }
def HoldPublishesSaid : Prop := holdPublishesRow.holds Try.pinned (OpenSpec.ofChange holdPublishesSpec)

/-- ITS FALSE NEIGHBOUR: 'it returns false'. Refute it at one input. -/
def holdPublishesWrong : ChangeSpec := { name := "holdPublishes", fn := fun _ => fun
  | [d1, d2] => { results := [.lit (.bool false)], args := [d1, d2] }
  | _ => none }
def HoldPublishesWrongFalsely : Prop := holdPublishesRow.holds Try.pinned (OpenSpec.ofChange holdPublishesWrong)

/-- 'examboardlaw54.HoldBlocks': WHATEVER THE INPUT: true; the input reads as it did. -/
def holdBlocksSpec : ChangeSpec := { name := "holdBlocks", fn := fun _ => fun
  | [d] => { results := [.lit (.bool true)], args := [d] }
  | _ => none }
def holdBlocksRow : OpenClaim := { program := "ytgeplglggcoaiaa", sum := "1c009237a54648df5394e6392435798654d8384b95808fc0fd7c3522a9f0d24c", func := "examboard/examboardlaw54.HoldBlocks", spec := "holdBlocks", recurses := true, apart := false }
def HoldBlocksSaid : Prop := holdBlocksRow.holds Try.pinned (OpenSpec.ofChange holdBlocksSpec)

/-- ITS FALSE NEIGHBOUR: 'it returns false'. Refute it at one input. -/
def holdBlocksWrong : ChangeSpec := { name := "holdBlocks", fn := fun _ => fun
  | [d] => { results := [.lit (.bool false)], args := [d] }
  | _ => none }
def HoldBlocksWrongFalsely : Prop := holdBlocksRow.holds Try.pinned (OpenSpec.ofChange holdBlocksWrong)

/- THE SECOND FORM. 'bulk': how many values and letters a reading holds, each counted each time it is reached (what is shared counts as often as it is met; a slice's spare places count too). A statement '..UptoSaid' is the law's where the arguments, and the package variables that the reading takes, are together of bulk at most 1048576: NARROWER than '..Said'. Prove '..Said' where nothing that the law and all that it calls make is longer than what came in: it says more and counts as full. Else prove '..UptoSaid'. A law counts once. -/
mutual
def uptoBulk {H : Type} : DataW H → Nat
  | .lit (.string bytes) => bytes.length + 1
  | .lit _ => 1
  | .nil => 1
  | .ptr d => uptoBulk d + 1
  | .slice elems spare => uptoBulkAll elems + uptoBulkAll spare + 1
  | .agg parts => uptoBulkAll parts + 1
  | .iface _ d => uptoBulk d + 1
  | .map entries => uptoBulkEntries entries + 1
  | .held _ => 1
def uptoBulkAll {H : Type} : List (DataW H) → Nat
  | [] => 0
  | d :: r => uptoBulk d + uptoBulkAll r
def uptoBulkEntries {H : Type} : List (Lit × DataW H) → Nat
  | [] => 0
  | x :: r => uptoBulkEntry x + uptoBulkEntries r
def uptoBulkEntry {H : Type} : Lit × DataW H → Nat
  | (.string bytes, d) => bytes.length + uptoBulk d + 1
  | (_, d) => uptoBulk d + 1
 end
def uptoSmall : (H : Type) → List (DataW H) → Bool := fun _ ds => decide (uptoBulkAll ds ≤ 1048576)
def OpenSpec.upto (s : _root_.Go.ChangeSpec) : _root_.Go.OpenSpec := { _root_.Go.OpenSpec.ofChange s with cond := some uptoSmall }

/-- 'examboardlaw54.HoldPlaces', WHERE WHAT IT READS IS OF BULK AT MOST 1048576: true; the input reads as it did. -/
def holdPlacesUptoRow : OpenClaim := { program := "ytgeplglggcoaiaa", sum := "1c009237a54648df5394e6392435798654d8384b95808fc0fd7c3522a9f0d24c", func := "examboard/examboardlaw54.HoldPlaces", spec := "holdPlaces", apart := false, narrowed := true }
def HoldPlacesUptoSaid : Prop := holdPlacesUptoRow.holds Try.pinned (OpenSpec.upto holdPlacesSpec)

/-- 'examboardlaw54.HoldChecks', WHERE WHAT IT READS IS OF BULK AT MOST 1048576: true; the input reads as it did. -/
def holdChecksUptoRow : OpenClaim := { program := "ytgeplglggcoaiaa", sum := "1c009237a54648df5394e6392435798654d8384b95808fc0fd7c3522a9f0d24c", func := "examboard/examboardlaw54.HoldChecks", spec := "holdChecks", recurses := true, apart := false, narrowed := true }
def HoldChecksUptoSaid : Prop := holdChecksUptoRow.holds Try.pinned (OpenSpec.upto holdChecksSpec)

/-- 'examboardlaw17.AssetRules', WHERE WHAT IT READS IS OF BULK AT MOST 1048576: true; the input reads as it did. -/
def assetRulesUptoRow : OpenClaim := { program := "ytgeplglggcoaiaa", sum := "1c009237a54648df5394e6392435798654d8384b95808fc0fd7c3522a9f0d24c", func := "examboard/examboardlaw17.AssetRules", spec := "assetRules", unfollowed := true, recurses := true, apart := false, narrowed := true }
def AssetRulesUptoSaid : Prop := assetRulesUptoRow.holds Try.pinned (OpenSpec.upto assetRulesSpec)

/-- 'examboardlaw17.AssetLists', WHERE WHAT IT READS IS OF BULK AT MOST 1048576: true; the input reads as it did. -/
def assetListsUptoRow : OpenClaim := { program := "ytgeplglggcoaiaa", sum := "1c009237a54648df5394e6392435798654d8384b95808fc0fd7c3522a9f0d24c", func := "examboard/examboardlaw17.AssetLists", spec := "assetLists", unfollowed := true, recurses := true, apart := false, narrowed := true }
def AssetListsUptoSaid : Prop := assetListsUptoRow.holds Try.pinned (OpenSpec.upto assetListsSpec)

/-- 'examboardlaw24.MatrixDivides', WHERE WHAT IT READS IS OF BULK AT MOST 1048576: true; the input reads as it did. -/
def matrixDividesUptoRow : OpenClaim := { program := "ytgeplglggcoaiaa", sum := "1c009237a54648df5394e6392435798654d8384b95808fc0fd7c3522a9f0d24c", func := "examboard/examboardlaw24.MatrixDivides", spec := "matrixDivides", recurses := true, apart := false, narrowed := true }
def MatrixDividesUptoSaid : Prop := matrixDividesUptoRow.holds Try.pinned (OpenSpec.upto matrixDividesSpec)

/-- 'examboardlaw17.AssetOnce', WHERE WHAT IT READS IS OF BULK AT MOST 1048576: true; the input reads as it did. -/
def assetOnceUptoRow : OpenClaim := { program := "ytgeplglggcoaiaa", sum := "1c009237a54648df5394e6392435798654d8384b95808fc0fd7c3522a9f0d24c", func := "examboard/examboardlaw17.AssetOnce", spec := "assetOnce", unfollowed := true, recurses := true, apart := false, narrowed := true }
def AssetOnceUptoSaid : Prop := assetOnceUptoRow.holds Try.pinned (OpenSpec.upto assetOnceSpec)

/-- 'examboardlaw24.MatrixCounts', WHERE WHAT IT READS IS OF BULK AT MOST 1048576: true; the input reads as it did. -/
def matrixCountsUptoRow : OpenClaim := { program := "ytgeplglggcoaiaa", sum := "1c009237a54648df5394e6392435798654d8384b95808fc0fd7c3522a9f0d24c", func := "examboard/examboardlaw24.MatrixCounts", spec := "matrixCounts", recurses := true, apart := false, narrowed := true }
def MatrixCountsUptoSaid : Prop := matrixCountsUptoRow.holds Try.pinned (OpenSpec.upto matrixCountsSpec)

/-- 'examboardlaw17.AssetMissing', WHERE WHAT IT READS IS OF BULK AT MOST 1048576: true; the input reads as it did. -/
def assetMissingUptoRow : OpenClaim := { program := "ytgeplglggcoaiaa", sum := "1c009237a54648df5394e6392435798654d8384b95808fc0fd7c3522a9f0d24c", func := "examboard/examboardlaw17.AssetMissing", spec := "assetMissing", unfollowed := true, recurses := true, apart := false, narrowed := true }
def AssetMissingUptoSaid : Prop := assetMissingUptoRow.holds Try.pinned (OpenSpec.upto assetMissingSpec)

/-- 'examboardlaw17.AssetRights', WHERE WHAT IT READS IS OF BULK AT MOST 1048576: true; the input reads as it did. -/
def assetRightsUptoRow : OpenClaim := { program := "ytgeplglggcoaiaa", sum := "1c009237a54648df5394e6392435798654d8384b95808fc0fd7c3522a9f0d24c", func := "examboard/examboardlaw17.AssetRights", spec := "assetRights", unfollowed := true, recurses := true, apart := false, narrowed := true }
def AssetRightsUptoSaid : Prop := assetRightsUptoRow.holds Try.pinned (OpenSpec.upto assetRightsSpec)

/-- 'examboardlaw54.HoldLifts', WHERE WHAT IT READS IS OF BULK AT MOST 1048576: true; the input reads as it did. -/
def holdLiftsUptoRow : OpenClaim := { program := "ytgeplglggcoaiaa", sum := "1c009237a54648df5394e6392435798654d8384b95808fc0fd7c3522a9f0d24c", func := "examboard/examboardlaw54.HoldLifts", spec := "holdLifts", recurses := true, apart := false, narrowed := true }
def HoldLiftsUptoSaid : Prop := holdLiftsUptoRow.holds Try.pinned (OpenSpec.upto holdLiftsSpec)

/-- 'examboardlaw54.HoldPublishes', WHERE WHAT IT READS IS OF BULK AT MOST 1048576: true; the input reads as it did. -/
def holdPublishesUptoRow : OpenClaim := { program := "ytgeplglggcoaiaa", sum := "1c009237a54648df5394e6392435798654d8384b95808fc0fd7c3522a9f0d24c", func := "examboard/examboardlaw54.HoldPublishes", spec := "holdPublishes", recurses := true, apart := false, narrowed := true }
def HoldPublishesUptoSaid : Prop := holdPublishesUptoRow.holds Try.pinned (OpenSpec.upto holdPublishesSpec)

/-- 'examboardlaw54.HoldBlocks', WHERE WHAT IT READS IS OF BULK AT MOST 1048576: true; the input reads as it did. -/
def holdBlocksUptoRow : OpenClaim := { program := "ytgeplglggcoaiaa", sum := "1c009237a54648df5394e6392435798654d8384b95808fc0fd7c3522a9f0d24c", func := "examboard/examboardlaw54.HoldBlocks", spec := "holdBlocks", recurses := true, apart := false, narrowed := true }
def HoldBlocksUptoSaid : Prop := holdBlocksUptoRow.holds Try.pinned (OpenSpec.upto holdBlocksSpec)

end Rows
end Go.Proofs.Ytgeplglggcoaiaa
