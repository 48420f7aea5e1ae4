/-
  No cell of these rows narrows 'for every input' (looked for: loops, veiled, ifaces, maps, wideKeys, modest, calm, conditions, laid).
  DERIVED. THE GIVEN ROWS OF THIS SEAT. 10 by the template 'for every input the law returns true; each argument reads behind the call as it read before'; 0 by the template 'total and deterministic' (their statements: YtonkbljpcgadlaaTotals.lean).
  GIVEN WITH THE SEED: the statements are not yours to turn. If you find one false, say at which input.
  Laid BY PROGRAM, IN A SANDBOX (cutbox-rows.mjs): the forced cells as the released guide's own fill.sh prints them over the translation 12a022ab166aa65e… (all of the seat's roots in one cut). By AI agents, Wed Nov 11 2026. No macro, syntax, notation, axiom, sorry.
-/
import Derived.Test.YtonkbljpcgadlaaChecked
import GoSem.Claim
import GoSem.ClaimJoined
import GoSem.ClaimMapViews
import Derived.JoinedTies
import Derived.KernelRfl
namespace Go.Proofs.Ytonkbljpcgadlaa
/- THE CELL 'sum', in the pinned program and in every row, IS THE sha256 OF THE DUMP (.gsa) THAT YtonkbljpcgadlaaProg.lean LOADS. Nothing in Lean hashes anything: it is a label: what it is worth is what the hold of that sum in a sandbox is worth. -/
noncomputable def Try.pinned : Pinned := { name := "ytonkbljpcgadlaa", sum := "12a022ab166aa65eb1b2c9004953e5a2f0ee0110c76ba90375fc784408f0fca4", checked := Try.checked }
namespace Rows
def none {H : Type} : Left H := { results := [], args := [] }

/-- 'cordonlaw.TokenScans': WHATEVER THE INPUT: true; the input reads as it did. -/
def tokenScansSpec : ChangeSpec := { name := "tokenScans", fn := fun _ => fun
  | [d] => { results := [.lit (.bool true)], args := [d] }
  | _ => none }
def tokenScansRow : OpenClaim := { program := "ytonkbljpcgadlaa", sum := "12a022ab166aa65eb1b2c9004953e5a2f0ee0110c76ba90375fc784408f0fca4", func := "cordon/cordonlaw.TokenScans", spec := "tokenScans", inPlace := ["internal/bytealg.IndexByteString", "internal/abi.NoEscape", "internal/bytealg.MakeNoZero"], unfollowed := true, recurses := true, apart := false }
def TokenScansSaid : Prop := tokenScansRow.holds Try.pinned (OpenSpec.ofChange tokenScansSpec)

/-- ITS FALSE NEIGHBOUR: 'it returns false'. Refute it at one input. -/
def tokenScansWrong : ChangeSpec := { name := "tokenScans", fn := fun _ => fun
  | [d] => { results := [.lit (.bool false)], args := [d] }
  | _ => none }
def TokenScansWrongFalsely : Prop := tokenScansRow.holds Try.pinned (OpenSpec.ofChange tokenScansWrong)

/-- 'cordonlaw.TokenJoins': WHATEVER THE INPUT: true; the input reads as it did. -/
def tokenJoinsSpec : ChangeSpec := { name := "tokenJoins", fn := fun _ => fun
  | [d] => { results := [.lit (.bool true)], args := [d] }
  | _ => none }
def tokenJoinsRow : OpenClaim := { program := "ytonkbljpcgadlaa", sum := "12a022ab166aa65eb1b2c9004953e5a2f0ee0110c76ba90375fc784408f0fca4", func := "cordon/cordonlaw.TokenJoins", spec := "tokenJoins", inPlace := ["internal/bytealg.IndexByteString", "internal/abi.NoEscape", "internal/bytealg.MakeNoZero"], unfollowed := true, recurses := true, apart := false }
def TokenJoinsSaid : Prop := tokenJoinsRow.holds Try.pinned (OpenSpec.ofChange tokenJoinsSpec)

/-- ITS FALSE NEIGHBOUR: 'it returns false'. Refute it at one input. -/
def tokenJoinsWrong : ChangeSpec := { name := "tokenJoins", fn := fun _ => fun
  | [d] => { results := [.lit (.bool false)], args := [d] }
  | _ => none }
def TokenJoinsWrongFalsely : Prop := tokenJoinsRow.holds Try.pinned (OpenSpec.ofChange tokenJoinsWrong)

/-- 'cordonlaw.TokenBack': WHATEVER THE INPUT: true; the input reads as it did. -/
def tokenBackSpec : ChangeSpec := { name := "tokenBack", fn := fun _ => fun
  | [d1, d2] => { results := [.lit (.bool true)], args := [d1, d2] }
  | _ => none }
def tokenBackRow : OpenClaim := { program := "ytonkbljpcgadlaa", sum := "12a022ab166aa65eb1b2c9004953e5a2f0ee0110c76ba90375fc784408f0fca4", func := "cordon/cordonlaw.TokenBack", spec := "tokenBack", inPlace := ["internal/bytealg.IndexByteString", "internal/abi.NoEscape", "internal/bytealg.MakeNoZero"], unfollowed := true, recurses := true, apart := false }
def TokenBackSaid : Prop := tokenBackRow.holds Try.pinned (OpenSpec.ofChange tokenBackSpec)

/-- ITS FALSE NEIGHBOUR: 'it returns false'. Refute it at one input. -/
def tokenBackWrong : ChangeSpec := { name := "tokenBack", fn := fun _ => fun
  | [d1, d2] => { results := [.lit (.bool false)], args := [d1, d2] }
  | _ => none }
def TokenBackWrongFalsely : Prop := tokenBackRow.holds Try.pinned (OpenSpec.ofChange tokenBackWrong)

/-- 'cordonlaw.TokenPlaces': WHATEVER THE INPUT: true; the input reads as it did. -/
def tokenPlacesSpec : ChangeSpec := { name := "tokenPlaces", fn := fun _ => fun
  | [d] => { results := [.lit (.bool true)], args := [d] }
  | _ => none }
def tokenPlacesRow : OpenClaim := { program := "ytonkbljpcgadlaa", sum := "12a022ab166aa65eb1b2c9004953e5a2f0ee0110c76ba90375fc784408f0fca4", func := "cordon/cordonlaw.TokenPlaces", spec := "tokenPlaces", inPlace := ["internal/bytealg.IndexByteString", "internal/abi.NoEscape", "internal/bytealg.MakeNoZero"], unfollowed := true, recurses := true, apart := false }
def TokenPlacesSaid : Prop := tokenPlacesRow.holds Try.pinned (OpenSpec.ofChange tokenPlacesSpec)

/-- ITS FALSE NEIGHBOUR: 'it returns false'. Refute it at one input. -/
def tokenPlacesWrong : ChangeSpec := { name := "tokenPlaces", fn := fun _ => fun
  | [d] => { results := [.lit (.bool false)], args := [d] }
  | _ => none }
def TokenPlacesWrongFalsely : Prop := tokenPlacesRow.holds Try.pinned (OpenSpec.ofChange tokenPlacesWrong)

/-- 'cordonlaw.StoreTells': WHATEVER THE INPUT: true; the input reads as it did. -/
def storeTellsSpec : ChangeSpec := { name := "storeTells", fn := fun _ => fun
  | [d1, d2, d3] => { results := [.lit (.bool true)], args := [d1, d2, d3] }
  | _ => none }
def storeTellsRow : OpenClaim := { program := "ytonkbljpcgadlaa", sum := "12a022ab166aa65eb1b2c9004953e5a2f0ee0110c76ba90375fc784408f0fca4", func := "cordon/cordonlaw.StoreTells", spec := "storeTells", inPlace := ["internal/bytealg.IndexByteString"], unfollowed := true, recurses := true, apart := false }
def StoreTellsSaid : Prop := storeTellsRow.holds Try.pinned (OpenSpec.ofChange storeTellsSpec)

/-- ITS FALSE NEIGHBOUR: 'it returns false'. Refute it at one input. -/
def storeTellsWrong : ChangeSpec := { name := "storeTells", fn := fun _ => fun
  | [d1, d2, d3] => { results := [.lit (.bool false)], args := [d1, d2, d3] }
  | _ => none }
def StoreTellsWrongFalsely : Prop := storeTellsRow.holds Try.pinned (OpenSpec.ofChange storeTellsWrong)

/-- 'cordonlaw.StoreMeets': WHATEVER THE INPUT: true; the input reads as it did. -/
def storeMeetsSpec : ChangeSpec := { name := "storeMeets", fn := fun _ => fun
  | [d1, d2, d3, d4] => { results := [.lit (.bool true)], args := [d1, d2, d3, d4] }
  | _ => none }
def storeMeetsRow : OpenClaim := { program := "ytonkbljpcgadlaa", sum := "12a022ab166aa65eb1b2c9004953e5a2f0ee0110c76ba90375fc784408f0fca4", func := "cordon/cordonlaw.StoreMeets", spec := "storeMeets", inPlace := ["internal/bytealg.IndexByteString"], unfollowed := true, recurses := true, apart := false }
def StoreMeetsSaid : Prop := storeMeetsRow.holds Try.pinned (OpenSpec.ofChange storeMeetsSpec)

/-- ITS FALSE NEIGHBOUR: 'it returns false'. Refute it at one input. -/
def storeMeetsWrong : ChangeSpec := { name := "storeMeets", fn := fun _ => fun
  | [d1, d2, d3, d4] => { results := [.lit (.bool false)], args := [d1, d2, d3, d4] }
  | _ => none }
def StoreMeetsWrongFalsely : Prop := storeMeetsRow.holds Try.pinned (OpenSpec.ofChange storeMeetsWrong)

/-- 'cordonlaw.LitTells': WHATEVER THE INPUT: true; the input reads as it did. -/
def litTellsSpec : ChangeSpec := { name := "litTells", fn := fun _ => fun
  | [d1, d2, d3, d4] => { results := [.lit (.bool true)], args := [d1, d2, d3, d4] }
  | _ => none }
def litTellsRow : OpenClaim := { program := "ytonkbljpcgadlaa", sum := "12a022ab166aa65eb1b2c9004953e5a2f0ee0110c76ba90375fc784408f0fca4", func := "cordon/cordonlaw.LitTells", spec := "litTells", inPlace := ["internal/bytealg.IndexByteString"], unfollowed := true, recurses := true, apart := false }
def LitTellsSaid : Prop := litTellsRow.holds Try.pinned (OpenSpec.ofChange litTellsSpec)

/-- ITS FALSE NEIGHBOUR: 'it returns false'. Refute it at one input. -/
def litTellsWrong : ChangeSpec := { name := "litTells", fn := fun _ => fun
  | [d1, d2, d3, d4] => { results := [.lit (.bool false)], args := [d1, d2, d3, d4] }
  | _ => none }
def LitTellsWrongFalsely : Prop := litTellsRow.holds Try.pinned (OpenSpec.ofChange litTellsWrong)

/-- 'cordonlaw.ClauseKeeps': WHATEVER THE INPUT: true; the input reads as it did. -/
def clauseKeepsSpec : ChangeSpec := { name := "clauseKeeps", fn := fun _ => fun
  | [d1, d2, d3, d4] => { results := [.lit (.bool true)], args := [d1, d2, d3, d4] }
  | _ => none }
def clauseKeepsRow : OpenClaim := { program := "ytonkbljpcgadlaa", sum := "12a022ab166aa65eb1b2c9004953e5a2f0ee0110c76ba90375fc784408f0fca4", func := "cordon/cordonlaw.ClauseKeeps", spec := "clauseKeeps", inPlace := ["internal/bytealg.IndexByteString"], unfollowed := true, recurses := true, apart := false }
def ClauseKeepsSaid : Prop := clauseKeepsRow.holds Try.pinned (OpenSpec.ofChange clauseKeepsSpec)

/-- ITS FALSE NEIGHBOUR: 'it returns false'. Refute it at one input. -/
def clauseKeepsWrong : ChangeSpec := { name := "clauseKeeps", fn := fun _ => fun
  | [d1, d2, d3, d4] => { results := [.lit (.bool false)], args := [d1, d2, d3, d4] }
  | _ => none }
def ClauseKeepsWrongFalsely : Prop := clauseKeepsRow.holds Try.pinned (OpenSpec.ofChange clauseKeepsWrong)

/-- 'cordonlaw.LitParts': WHATEVER THE INPUT: true; the input reads as it did. -/
def litPartsSpec : ChangeSpec := { name := "litParts", fn := fun _ => fun
  | [d1, d2, d3, d4] => { results := [.lit (.bool true)], args := [d1, d2, d3, d4] }
  | _ => none }
def litPartsRow : OpenClaim := { program := "ytonkbljpcgadlaa", sum := "12a022ab166aa65eb1b2c9004953e5a2f0ee0110c76ba90375fc784408f0fca4", func := "cordon/cordonlaw.LitParts", spec := "litParts", inPlace := ["internal/bytealg.IndexByteString"], unfollowed := true, recurses := true, apart := false }
def LitPartsSaid : Prop := litPartsRow.holds Try.pinned (OpenSpec.ofChange litPartsSpec)

/-- ITS FALSE NEIGHBOUR: 'it returns false'. Refute it at one input. -/
def litPartsWrong : ChangeSpec := { name := "litParts", fn := fun _ => fun
  | [d1, d2, d3, d4] => { results := [.lit (.bool false)], args := [d1, d2, d3, d4] }
  | _ => none }
def LitPartsWrongFalsely : Prop := litPartsRow.holds Try.pinned (OpenSpec.ofChange litPartsWrong)

/-- 'cordonlaw.ModelTells': WHATEVER THE INPUT: true; the input reads as it did. -/
def modelTellsSpec : ChangeSpec := { name := "modelTells", fn := fun _ => fun
  | [d1, d2] => { results := [.lit (.bool true)], args := [d1, d2] }
  | _ => none }
def modelTellsRow : OpenClaim := { program := "ytonkbljpcgadlaa", sum := "12a022ab166aa65eb1b2c9004953e5a2f0ee0110c76ba90375fc784408f0fca4", func := "cordon/cordonlaw.ModelTells", spec := "modelTells", inPlace := ["internal/bytealg.IndexByteString"], unfollowed := true, recurses := true, apart := false }
def ModelTellsSaid : Prop := modelTellsRow.holds Try.pinned (OpenSpec.ofChange modelTellsSpec)

/-- ITS FALSE NEIGHBOUR: 'it returns false'. Refute it at one input. -/
def modelTellsWrong : ChangeSpec := { name := "modelTells", fn := fun _ => fun
  | [d1, d2] => { results := [.lit (.bool false)], args := [d1, d2] }
  | _ => none }
def ModelTellsWrongFalsely : Prop := modelTellsRow.holds Try.pinned (OpenSpec.ofChange modelTellsWrong)

/- THE SECOND FORM. 'bulk': how many values and letters a reading holds, each counted each time it is reached (what is shared counts as often as it is met; a slice's spare places count too). A statement '..UptoSaid' is the law's where the arguments, and the package variables that the reading takes, are together of bulk at most 1048576: NARROWER than '..Said'. Prove '..Said' where nothing that the law and all that it calls make is longer than what came in: it says more and counts as full. Else prove '..UptoSaid'. A law counts once. -/
mutual
def uptoBulk {H : Type} : DataW H → Nat
  | .lit (.string bytes) => bytes.length + 1
  | .lit _ => 1
  | .nil => 1
  | .ptr d => uptoBulk d + 1
  | .slice elems spare => uptoBulkAll elems + uptoBulkAll spare + 1
  | .agg parts => uptoBulkAll parts + 1
  | .iface _ d => uptoBulk d + 1
  | .map entries => uptoBulkEntries entries + 1
  | .held _ => 1
def uptoBulkAll {H : Type} : List (DataW H) → Nat
  | [] => 0
  | d :: r => uptoBulk d + uptoBulkAll r
def uptoBulkEntries {H : Type} : List (Lit × DataW H) → Nat
  | [] => 0
  | x :: r => uptoBulkEntry x + uptoBulkEntries r
def uptoBulkEntry {H : Type} : Lit × DataW H → Nat
  | (.string bytes, d) => bytes.length + uptoBulk d + 1
  | (_, d) => uptoBulk d + 1
 end
def uptoSmall : (H : Type) → List (DataW H) → Bool := fun _ ds => decide (uptoBulkAll ds ≤ 1048576)
def OpenSpec.upto (s : _root_.Go.ChangeSpec) : _root_.Go.OpenSpec := { _root_.Go.OpenSpec.ofChange s with cond := some uptoSmall }

/-- 'cordonlaw.TokenScans', WHERE WHAT IT READS IS OF BULK AT MOST 1048576: true; the input reads as it did. -/
def tokenScansUptoRow : OpenClaim := { program := "ytonkbljpcgadlaa", sum := "12a022ab166aa65eb1b2c9004953e5a2f0ee0110c76ba90375fc784408f0fca4", func := "cordon/cordonlaw.TokenScans", spec := "tokenScans", inPlace := ["internal/bytealg.IndexByteString", "internal/abi.NoEscape", "internal/bytealg.MakeNoZero"], unfollowed := true, recurses := true, apart := false, narrowed := true }
def TokenScansUptoSaid : Prop := tokenScansUptoRow.holds Try.pinned (OpenSpec.upto tokenScansSpec)

/-- 'cordonlaw.TokenJoins', WHERE WHAT IT READS IS OF BULK AT MOST 1048576: true; the input reads as it did. -/
def tokenJoinsUptoRow : OpenClaim := { program := "ytonkbljpcgadlaa", sum := "12a022ab166aa65eb1b2c9004953e5a2f0ee0110c76ba90375fc784408f0fca4", func := "cordon/cordonlaw.TokenJoins", spec := "tokenJoins", inPlace := ["internal/bytealg.IndexByteString", "internal/abi.NoEscape", "internal/bytealg.MakeNoZero"], unfollowed := true, recurses := true, apart := false, narrowed := true }
def TokenJoinsUptoSaid : Prop := tokenJoinsUptoRow.holds Try.pinned (OpenSpec.upto tokenJoinsSpec)

/-- 'cordonlaw.TokenBack', WHERE WHAT IT READS IS OF BULK AT MOST 1048576: true; the input reads as it did. -/
def tokenBackUptoRow : OpenClaim := { program := "ytonkbljpcgadlaa", sum := "12a022ab166aa65eb1b2c9004953e5a2f0ee0110c76ba90375fc784408f0fca4", func := "cordon/cordonlaw.TokenBack", spec := "tokenBack", inPlace := ["internal/bytealg.IndexByteString", "internal/abi.NoEscape", "internal/bytealg.MakeNoZero"], unfollowed := true, recurses := true, apart := false, narrowed := true }
def TokenBackUptoSaid : Prop := tokenBackUptoRow.holds Try.pinned (OpenSpec.upto tokenBackSpec)

/-- 'cordonlaw.TokenPlaces', WHERE WHAT IT READS IS OF BULK AT MOST 1048576: true; the input reads as it did. -/
def tokenPlacesUptoRow : OpenClaim := { program := "ytonkbljpcgadlaa", sum := "12a022ab166aa65eb1b2c9004953e5a2f0ee0110c76ba90375fc784408f0fca4", func := "cordon/cordonlaw.TokenPlaces", spec := "tokenPlaces", inPlace := ["internal/bytealg.IndexByteString", "internal/abi.NoEscape", "internal/bytealg.MakeNoZero"], unfollowed := true, recurses := true, apart := false, narrowed := true }
def TokenPlacesUptoSaid : Prop := tokenPlacesUptoRow.holds Try.pinned (OpenSpec.upto tokenPlacesSpec)

/-- 'cordonlaw.StoreTells', WHERE WHAT IT READS IS OF BULK AT MOST 1048576: true; the input reads as it did. -/
def storeTellsUptoRow : OpenClaim := { program := "ytonkbljpcgadlaa", sum := "12a022ab166aa65eb1b2c9004953e5a2f0ee0110c76ba90375fc784408f0fca4", func := "cordon/cordonlaw.StoreTells", spec := "storeTells", inPlace := ["internal/bytealg.IndexByteString"], unfollowed := true, recurses := true, apart := false, narrowed := true }
def StoreTellsUptoSaid : Prop := storeTellsUptoRow.holds Try.pinned (OpenSpec.upto storeTellsSpec)

/-- 'cordonlaw.StoreMeets', WHERE WHAT IT READS IS OF BULK AT MOST 1048576: true; the input reads as it did. -/
def storeMeetsUptoRow : OpenClaim := { program := "ytonkbljpcgadlaa", sum := "12a022ab166aa65eb1b2c9004953e5a2f0ee0110c76ba90375fc784408f0fca4", func := "cordon/cordonlaw.StoreMeets", spec := "storeMeets", inPlace := ["internal/bytealg.IndexByteString"], unfollowed := true, recurses := true, apart := false, narrowed := true }
def StoreMeetsUptoSaid : Prop := storeMeetsUptoRow.holds Try.pinned (OpenSpec.upto storeMeetsSpec)

/-- 'cordonlaw.LitTells', WHERE WHAT IT READS IS OF BULK AT MOST 1048576: true; the input reads as it did. -/
def litTellsUptoRow : OpenClaim := { program := "ytonkbljpcgadlaa", sum := "12a022ab166aa65eb1b2c9004953e5a2f0ee0110c76ba90375fc784408f0fca4", func := "cordon/cordonlaw.LitTells", spec := "litTells", inPlace := ["internal/bytealg.IndexByteString"], unfollowed := true, recurses := true, apart := false, narrowed := true }
def LitTellsUptoSaid : Prop := litTellsUptoRow.holds Try.pinned (OpenSpec.upto litTellsSpec)

/-- 'cordonlaw.ClauseKeeps', WHERE WHAT IT READS IS OF BULK AT MOST 1048576: true; the input reads as it did. -/
def clauseKeepsUptoRow : OpenClaim := { program := "ytonkbljpcgadlaa", sum := "12a022ab166aa65eb1b2c9004953e5a2f0ee0110c76ba90375fc784408f0fca4", func := "cordon/cordonlaw.ClauseKeeps", spec := "clauseKeeps", inPlace := ["internal/bytealg.IndexByteString"], unfollowed := true, recurses := true, apart := false, narrowed := true }
def ClauseKeepsUptoSaid : Prop := clauseKeepsUptoRow.holds Try.pinned (OpenSpec.upto clauseKeepsSpec)

/-- 'cordonlaw.LitParts', WHERE WHAT IT READS IS OF BULK AT MOST 1048576: true; the input reads as it did. -/
def litPartsUptoRow : OpenClaim := { program := "ytonkbljpcgadlaa", sum := "12a022ab166aa65eb1b2c9004953e5a2f0ee0110c76ba90375fc784408f0fca4", func := "cordon/cordonlaw.LitParts", spec := "litParts", inPlace := ["internal/bytealg.IndexByteString"], unfollowed := true, recurses := true, apart := false, narrowed := true }
def LitPartsUptoSaid : Prop := litPartsUptoRow.holds Try.pinned (OpenSpec.upto litPartsSpec)

/-- 'cordonlaw.ModelTells', WHERE WHAT IT READS IS OF BULK AT MOST 1048576: true; the input reads as it did. -/
def modelTellsUptoRow : OpenClaim := { program := "ytonkbljpcgadlaa", sum := "12a022ab166aa65eb1b2c9004953e5a2f0ee0110c76ba90375fc784408f0fca4", func := "cordon/cordonlaw.ModelTells", spec := "modelTells", inPlace := ["internal/bytealg.IndexByteString"], unfollowed := true, recurses := true, apart := false, narrowed := true }
def ModelTellsUptoSaid : Prop := modelTellsUptoRow.holds Try.pinned (OpenSpec.upto modelTellsSpec)

end Rows
end Go.Proofs.Ytonkbljpcgadlaa
