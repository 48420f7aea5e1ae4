/-
  No cell of these rows narrows 'for every input' (looked for: loops, veiled, ifaces, maps, wideKeys, modest, calm, conditions, laid).
  DERIVED. THE GIVEN ROWS OF THIS SEAT. 12 by the template 'for every input the law returns true; each argument reads behind the call as it read before'; 0 by the template 'total and deterministic' (their statements: YtgnjdgafkjohaaaGreatTotals.lean).
  GIVEN WITH THE SEED: the statements are not yours to turn. If you find one false, say at which input.
  Laid BY PROGRAM, IN A SANDBOX (cutbox-rows.mjs): the forced cells as the released guide's own fill.sh prints them over the translation b3cf1f900cc843b3… (all of the seat's roots in one cut). By AI agents, Wed Nov 11 2026. No macro, syntax, notation, axiom, sorry.
-/
import Derived.Test.YtgnjdgafkjohaaaGreatChecked
import GoSem.Claim
import GoSem.ClaimJoined
import GoSem.ClaimMapViews
import Derived.JoinedTies
import Derived.KernelRfl
namespace Go.Proofs.YtgnjdgafkjohaaaGreat
/- THE CELL 'sum', in the pinned program and in every row, IS THE sha256 OF THE DUMP (.gsa) THAT YtgnjdgafkjohaaaGreatProg.lean LOADS. Nothing in Lean hashes anything: it is a label: what it is worth is what the hold of that sum in a sandbox is worth. -/
noncomputable def Tryz.pinned : Pinned := { name := "ytgnjdgafkjohaaagreat", sum := "b3cf1f900cc843b33f0f5c9e12d34b3a1656caa312b877ae4fc829d0720955cd", checked := Tryz.checked }
namespace Rows
def none {H : Type} : Left H := { results := [], args := [] }

/-- 'cordonlaw.FilterFilters': WHATEVER THE INPUT: true; the input reads as it did. -/
def filterFiltersSpec : ChangeSpec := { name := "filterFilters", fn := fun _ => fun
  | [d1, d2, d3] => { results := [.lit (.bool true)], args := [d1, d2, d3] }
  | _ => none }
def filterFiltersRow : OpenClaim := { program := "ytgnjdgafkjohaaagreat", sum := "b3cf1f900cc843b33f0f5c9e12d34b3a1656caa312b877ae4fc829d0720955cd", func := "cordon/cordonlaw.FilterFilters", spec := "filterFilters", inPlace := ["internal/bytealg.IndexByteString"], unfollowed := true, recurses := true, plainKeys := false, apart := false }
def FilterFiltersSaid : Prop := filterFiltersRow.holds Tryz.pinned (OpenSpec.ofChange filterFiltersSpec)

/-- ITS FALSE NEIGHBOUR: 'it returns false'. Refute it at one input. -/
def filterFiltersWrong : ChangeSpec := { name := "filterFilters", fn := fun _ => fun
  | [d1, d2, d3] => { results := [.lit (.bool false)], args := [d1, d2, d3] }
  | _ => none }
def FilterFiltersWrongFalsely : Prop := filterFiltersRow.holds Tryz.pinned (OpenSpec.ofChange filterFiltersWrong)

/-- 'cordonlaw.FilterAgain': WHATEVER THE INPUT: true; the input reads as it did. -/
def filterAgainSpec : ChangeSpec := { name := "filterAgain", fn := fun _ => fun
  | [d1, d2, d3, d4] => { results := [.lit (.bool true)], args := [d1, d2, d3, d4] }
  | _ => none }
def filterAgainRow : OpenClaim := { program := "ytgnjdgafkjohaaagreat", sum := "b3cf1f900cc843b33f0f5c9e12d34b3a1656caa312b877ae4fc829d0720955cd", func := "cordon/cordonlaw.FilterAgain", spec := "filterAgain", inPlace := ["internal/bytealg.IndexByteString"], unfollowed := true, recurses := true, plainKeys := false, apart := false }
def FilterAgainSaid : Prop := filterAgainRow.holds Tryz.pinned (OpenSpec.ofChange filterAgainSpec)

/-- ITS FALSE NEIGHBOUR: 'it returns false'. Refute it at one input. -/
def filterAgainWrong : ChangeSpec := { name := "filterAgain", fn := fun _ => fun
  | [d1, d2, d3, d4] => { results := [.lit (.bool false)], args := [d1, d2, d3, d4] }
  | _ => none }
def FilterAgainWrongFalsely : Prop := filterAgainRow.holds Tryz.pinned (OpenSpec.ofChange filterAgainWrong)

/-- 'cordonlaw.FilterKeeps': WHATEVER THE INPUT: true; the input reads as it did. -/
def filterKeepsSpec : ChangeSpec := { name := "filterKeeps", fn := fun _ => fun
  | [d1, d2, d3, d4] => { results := [.lit (.bool true)], args := [d1, d2, d3, d4] }
  | _ => none }
def filterKeepsRow : OpenClaim := { program := "ytgnjdgafkjohaaagreat", sum := "b3cf1f900cc843b33f0f5c9e12d34b3a1656caa312b877ae4fc829d0720955cd", func := "cordon/cordonlaw.FilterKeeps", spec := "filterKeeps", inPlace := ["internal/bytealg.IndexByteString"], unfollowed := true, recurses := true, plainKeys := false, apart := false }
def FilterKeepsSaid : Prop := filterKeepsRow.holds Tryz.pinned (OpenSpec.ofChange filterKeepsSpec)

/-- ITS FALSE NEIGHBOUR: 'it returns false'. Refute it at one input. -/
def filterKeepsWrong : ChangeSpec := { name := "filterKeeps", fn := fun _ => fun
  | [d1, d2, d3, d4] => { results := [.lit (.bool false)], args := [d1, d2, d3, d4] }
  | _ => none }
def FilterKeepsWrongFalsely : Prop := filterKeepsRow.holds Tryz.pinned (OpenSpec.ofChange filterKeepsWrong)

/-- 'cordonlaw.FixTells': WHATEVER THE INPUT: true; the input reads as it did. -/
def fixTellsSpec : ChangeSpec := { name := "fixTells", fn := fun _ => fun
  | [d1, d2, d3] => { results := [.lit (.bool true)], args := [d1, d2, d3] }
  | _ => none }
def fixTellsRow : OpenClaim := { program := "ytgnjdgafkjohaaagreat", sum := "b3cf1f900cc843b33f0f5c9e12d34b3a1656caa312b877ae4fc829d0720955cd", func := "cordon/cordonlaw.FixTells", spec := "fixTells", inPlace := ["internal/bytealg.IndexByteString"], unfollowed := true, recurses := true, plainKeys := false, apart := false }
def FixTellsSaid : Prop := fixTellsRow.holds Tryz.pinned (OpenSpec.ofChange fixTellsSpec)

/-- ITS FALSE NEIGHBOUR: 'it returns false'. Refute it at one input. -/
def fixTellsWrong : ChangeSpec := { name := "fixTells", fn := fun _ => fun
  | [d1, d2, d3] => { results := [.lit (.bool false)], args := [d1, d2, d3] }
  | _ => none }
def FixTellsWrongFalsely : Prop := fixTellsRow.holds Tryz.pinned (OpenSpec.ofChange fixTellsWrong)

/-- 'cordonlaw.FixAgain': WHATEVER THE INPUT: true; the input reads as it did. -/
def fixAgainSpec : ChangeSpec := { name := "fixAgain", fn := fun _ => fun
  | [d1, d2, d3, d4] => { results := [.lit (.bool true)], args := [d1, d2, d3, d4] }
  | _ => none }
def fixAgainRow : OpenClaim := { program := "ytgnjdgafkjohaaagreat", sum := "b3cf1f900cc843b33f0f5c9e12d34b3a1656caa312b877ae4fc829d0720955cd", func := "cordon/cordonlaw.FixAgain", spec := "fixAgain", inPlace := ["internal/bytealg.IndexByteString"], unfollowed := true, recurses := true, plainKeys := false, apart := false }
def FixAgainSaid : Prop := fixAgainRow.holds Tryz.pinned (OpenSpec.ofChange fixAgainSpec)

/-- ITS FALSE NEIGHBOUR: 'it returns false'. Refute it at one input. -/
def fixAgainWrong : ChangeSpec := { name := "fixAgain", fn := fun _ => fun
  | [d1, d2, d3, d4] => { results := [.lit (.bool false)], args := [d1, d2, d3, d4] }
  | _ => none }
def FixAgainWrongFalsely : Prop := fixAgainRow.holds Tryz.pinned (OpenSpec.ofChange fixAgainWrong)

/-- 'cordonlaw.ProofSays': WHATEVER THE INPUT: true; the input reads as it did. -/
def proofSaysSpec : ChangeSpec := { name := "proofSays", fn := fun _ => fun
  | [d1, d2, d3, d4] => { results := [.lit (.bool true)], args := [d1, d2, d3, d4] }
  | _ => none }
def proofSaysRow : OpenClaim := { program := "ytgnjdgafkjohaaagreat", sum := "b3cf1f900cc843b33f0f5c9e12d34b3a1656caa312b877ae4fc829d0720955cd", func := "cordon/cordonlaw.ProofSays", spec := "proofSays", inPlace := ["internal/bytealg.IndexByteString"], unfollowed := true, recurses := true, plainKeys := false, apart := false }
def ProofSaysSaid : Prop := proofSaysRow.holds Tryz.pinned (OpenSpec.ofChange proofSaysSpec)

/-- ITS FALSE NEIGHBOUR: 'it returns false'. Refute it at one input. -/
def proofSaysWrong : ChangeSpec := { name := "proofSays", fn := fun _ => fun
  | [d1, d2, d3, d4] => { results := [.lit (.bool false)], args := [d1, d2, d3, d4] }
  | _ => none }
def ProofSaysWrongFalsely : Prop := proofSaysRow.holds Tryz.pinned (OpenSpec.ofChange proofSaysWrong)

/-- 'cordonlaw.ProofChecks': WHATEVER THE INPUT: true; the input reads as it did. -/
def proofChecksSpec : ChangeSpec := { name := "proofChecks", fn := fun _ => fun
  | [d1, d2, d3] => { results := [.lit (.bool true)], args := [d1, d2, d3] }
  | _ => none }
def proofChecksRow : OpenClaim := { program := "ytgnjdgafkjohaaagreat", sum := "b3cf1f900cc843b33f0f5c9e12d34b3a1656caa312b877ae4fc829d0720955cd", func := "cordon/cordonlaw.ProofChecks", spec := "proofChecks", inPlace := ["internal/bytealg.IndexByteString"], unfollowed := true, recurses := true, plainKeys := false, apart := false }
def ProofChecksSaid : Prop := proofChecksRow.holds Tryz.pinned (OpenSpec.ofChange proofChecksSpec)

/-- ITS FALSE NEIGHBOUR: 'it returns false'. Refute it at one input. -/
def proofChecksWrong : ChangeSpec := { name := "proofChecks", fn := fun _ => fun
  | [d1, d2, d3] => { results := [.lit (.bool false)], args := [d1, d2, d3] }
  | _ => none }
def ProofChecksWrongFalsely : Prop := proofChecksRow.holds Tryz.pinned (OpenSpec.ofChange proofChecksWrong)

/-- 'cordonlaw.FixKeeps': WHATEVER THE INPUT: true; the input reads as it did. -/
def fixKeepsSpec : ChangeSpec := { name := "fixKeeps", fn := fun _ => fun
  | [d1, d2, d3, d4] => { results := [.lit (.bool true)], args := [d1, d2, d3, d4] }
  | _ => none }
def fixKeepsRow : OpenClaim := { program := "ytgnjdgafkjohaaagreat", sum := "b3cf1f900cc843b33f0f5c9e12d34b3a1656caa312b877ae4fc829d0720955cd", func := "cordon/cordonlaw.FixKeeps", spec := "fixKeeps", inPlace := ["internal/bytealg.IndexByteString"], unfollowed := true, recurses := true, plainKeys := false, apart := false }
def FixKeepsSaid : Prop := fixKeepsRow.holds Tryz.pinned (OpenSpec.ofChange fixKeepsSpec)

/-- ITS FALSE NEIGHBOUR: 'it returns false'. Refute it at one input. -/
def fixKeepsWrong : ChangeSpec := { name := "fixKeeps", fn := fun _ => fun
  | [d1, d2, d3, d4] => { results := [.lit (.bool false)], args := [d1, d2, d3, d4] }
  | _ => none }
def FixKeepsWrongFalsely : Prop := fixKeepsRow.holds Tryz.pinned (OpenSpec.ofChange fixKeepsWrong)

/-- 'cordonlaw.ExplainHolds': WHATEVER THE INPUT: true; the input reads as it did. -/
def explainHoldsSpec : ChangeSpec := { name := "explainHolds", fn := fun _ => fun
  | [d1, d2, d3, d4, d5, d6] => { results := [.lit (.bool true)], args := [d1, d2, d3, d4, d5, d6] }
  | _ => none }
def explainHoldsRow : OpenClaim := { program := "ytgnjdgafkjohaaagreat", sum := "b3cf1f900cc843b33f0f5c9e12d34b3a1656caa312b877ae4fc829d0720955cd", func := "cordon/cordonlaw.ExplainHolds", spec := "explainHolds", inPlace := ["internal/bytealg.IndexByteString"], unfollowed := true, recurses := true, plainKeys := false, apart := false }
def ExplainHoldsSaid : Prop := explainHoldsRow.holds Tryz.pinned (OpenSpec.ofChange explainHoldsSpec)

/-- ITS FALSE NEIGHBOUR: 'it returns false'. Refute it at one input. -/
def explainHoldsWrong : ChangeSpec := { name := "explainHolds", fn := fun _ => fun
  | [d1, d2, d3, d4, d5, d6] => { results := [.lit (.bool false)], args := [d1, d2, d3, d4, d5, d6] }
  | _ => none }
def ExplainHoldsWrongFalsely : Prop := explainHoldsRow.holds Tryz.pinned (OpenSpec.ofChange explainHoldsWrong)

/-- 'cordonlaw.ProofSound': WHATEVER THE INPUT: true; the input reads as it did. -/
def proofSoundSpec : ChangeSpec := { name := "proofSound", fn := fun _ => fun
  | [d1, d2, d3, d4] => { results := [.lit (.bool true)], args := [d1, d2, d3, d4] }
  | _ => none }
def proofSoundRow : OpenClaim := { program := "ytgnjdgafkjohaaagreat", sum := "b3cf1f900cc843b33f0f5c9e12d34b3a1656caa312b877ae4fc829d0720955cd", func := "cordon/cordonlaw.ProofSound", spec := "proofSound", inPlace := ["internal/bytealg.IndexByteString"], unfollowed := true, recurses := true, plainKeys := false, apart := false }
def ProofSoundSaid : Prop := proofSoundRow.holds Tryz.pinned (OpenSpec.ofChange proofSoundSpec)

/-- ITS FALSE NEIGHBOUR: 'it returns false'. Refute it at one input. -/
def proofSoundWrong : ChangeSpec := { name := "proofSound", fn := fun _ => fun
  | [d1, d2, d3, d4] => { results := [.lit (.bool false)], args := [d1, d2, d3, d4] }
  | _ => none }
def ProofSoundWrongFalsely : Prop := proofSoundRow.holds Tryz.pinned (OpenSpec.ofChange proofSoundWrong)

/-- 'cordonlaw.ExplainReasons': WHATEVER THE INPUT: true; the input reads as it did. -/
def explainReasonsSpec : ChangeSpec := { name := "explainReasons", fn := fun _ => fun
  | [d1, d2, d3, d4, d5] => { results := [.lit (.bool true)], args := [d1, d2, d3, d4, d5] }
  | _ => none }
def explainReasonsRow : OpenClaim := { program := "ytgnjdgafkjohaaagreat", sum := "b3cf1f900cc843b33f0f5c9e12d34b3a1656caa312b877ae4fc829d0720955cd", func := "cordon/cordonlaw.ExplainReasons", spec := "explainReasons", inPlace := ["internal/bytealg.IndexByteString"], unfollowed := true, recurses := true, plainKeys := false, apart := false }
def ExplainReasonsSaid : Prop := explainReasonsRow.holds Tryz.pinned (OpenSpec.ofChange explainReasonsSpec)

/-- ITS FALSE NEIGHBOUR: 'it returns false'. Refute it at one input. -/
def explainReasonsWrong : ChangeSpec := { name := "explainReasons", fn := fun _ => fun
  | [d1, d2, d3, d4, d5] => { results := [.lit (.bool false)], args := [d1, d2, d3, d4, d5] }
  | _ => none }
def ExplainReasonsWrongFalsely : Prop := explainReasonsRow.holds Tryz.pinned (OpenSpec.ofChange explainReasonsWrong)

/-- 'cordonlaw.ExplainFailures': WHATEVER THE INPUT: true; the input reads as it did. -/
def explainFailuresSpec : ChangeSpec := { name := "explainFailures", fn := fun _ => fun
  | [d1, d2, d3] => { results := [.lit (.bool true)], args := [d1, d2, d3] }
  | _ => none }
def explainFailuresRow : OpenClaim := { program := "ytgnjdgafkjohaaagreat", sum := "b3cf1f900cc843b33f0f5c9e12d34b3a1656caa312b877ae4fc829d0720955cd", func := "cordon/cordonlaw.ExplainFailures", spec := "explainFailures", inPlace := ["internal/bytealg.IndexByteString"], unfollowed := true, recurses := true, plainKeys := false, apart := false }
def ExplainFailuresSaid : Prop := explainFailuresRow.holds Tryz.pinned (OpenSpec.ofChange explainFailuresSpec)

/-- ITS FALSE NEIGHBOUR: 'it returns false'. Refute it at one input. -/
def explainFailuresWrong : ChangeSpec := { name := "explainFailures", fn := fun _ => fun
  | [d1, d2, d3] => { results := [.lit (.bool false)], args := [d1, d2, d3] }
  | _ => none }
def ExplainFailuresWrongFalsely : Prop := explainFailuresRow.holds Tryz.pinned (OpenSpec.ofChange explainFailuresWrong)

/- THE SECOND FORM. 'bulk': how many values and letters a reading holds, each counted each time it is reached (what is shared counts as often as it is met; a slice's spare places count too). A statement '..UptoSaid' is the law's where the arguments, and the package variables that the reading takes, are together of bulk at most 1048576: NARROWER than '..Said'. Prove '..Said' where nothing that the law and all that it calls make is longer than what came in: it says more and counts as full. Else prove '..UptoSaid'. A law counts once. -/
mutual
def uptoBulk {H : Type} : DataW H → Nat
  | .lit (.string bytes) => bytes.length + 1
  | .lit _ => 1
  | .nil => 1
  | .ptr d => uptoBulk d + 1
  | .slice elems spare => uptoBulkAll elems + uptoBulkAll spare + 1
  | .agg parts => uptoBulkAll parts + 1
  | .iface _ d => uptoBulk d + 1
  | .map entries => uptoBulkEntries entries + 1
  | .held _ => 1
def uptoBulkAll {H : Type} : List (DataW H) → Nat
  | [] => 0
  | d :: r => uptoBulk d + uptoBulkAll r
def uptoBulkEntries {H : Type} : List (Lit × DataW H) → Nat
  | [] => 0
  | x :: r => uptoBulkEntry x + uptoBulkEntries r
def uptoBulkEntry {H : Type} : Lit × DataW H → Nat
  | (.string bytes, d) => bytes.length + uptoBulk d + 1
  | (_, d) => uptoBulk d + 1
 end
def uptoSmall : (H : Type) → List (DataW H) → Bool := fun _ ds => decide (uptoBulkAll ds ≤ 1048576)
def OpenSpec.upto (s : _root_.Go.ChangeSpec) : _root_.Go.OpenSpec := { _root_.Go.OpenSpec.ofChange s with cond := some uptoSmall }

/-- 'cordonlaw.FilterFilters', WHERE WHAT IT READS IS OF BULK AT MOST 1048576: true; the input reads as it did. -/
def filterFiltersUptoRow : OpenClaim := { program := "ytgnjdgafkjohaaagreat", sum := "b3cf1f900cc843b33f0f5c9e12d34b3a1656caa312b877ae4fc829d0720955cd", func := "cordon/cordonlaw.FilterFilters", spec := "filterFilters", inPlace := ["internal/bytealg.IndexByteString"], unfollowed := true, recurses := true, plainKeys := false, apart := false, narrowed := true }
def FilterFiltersUptoSaid : Prop := filterFiltersUptoRow.holds Tryz.pinned (OpenSpec.upto filterFiltersSpec)

/-- 'cordonlaw.FilterAgain', WHERE WHAT IT READS IS OF BULK AT MOST 1048576: true; the input reads as it did. -/
def filterAgainUptoRow : OpenClaim := { program := "ytgnjdgafkjohaaagreat", sum := "b3cf1f900cc843b33f0f5c9e12d34b3a1656caa312b877ae4fc829d0720955cd", func := "cordon/cordonlaw.FilterAgain", spec := "filterAgain", inPlace := ["internal/bytealg.IndexByteString"], unfollowed := true, recurses := true, plainKeys := false, apart := false, narrowed := true }
def FilterAgainUptoSaid : Prop := filterAgainUptoRow.holds Tryz.pinned (OpenSpec.upto filterAgainSpec)

/-- 'cordonlaw.FilterKeeps', WHERE WHAT IT READS IS OF BULK AT MOST 1048576: true; the input reads as it did. -/
def filterKeepsUptoRow : OpenClaim := { program := "ytgnjdgafkjohaaagreat", sum := "b3cf1f900cc843b33f0f5c9e12d34b3a1656caa312b877ae4fc829d0720955cd", func := "cordon/cordonlaw.FilterKeeps", spec := "filterKeeps", inPlace := ["internal/bytealg.IndexByteString"], unfollowed := true, recurses := true, plainKeys := false, apart := false, narrowed := true }
def FilterKeepsUptoSaid : Prop := filterKeepsUptoRow.holds Tryz.pinned (OpenSpec.upto filterKeepsSpec)

/-- 'cordonlaw.FixTells', WHERE WHAT IT READS IS OF BULK AT MOST 1048576: true; the input reads as it did. -/
def fixTellsUptoRow : OpenClaim := { program := "ytgnjdgafkjohaaagreat", sum := "b3cf1f900cc843b33f0f5c9e12d34b3a1656caa312b877ae4fc829d0720955cd", func := "cordon/cordonlaw.FixTells", spec := "fixTells", inPlace := ["internal/bytealg.IndexByteString"], unfollowed := true, recurses := true, plainKeys := false, apart := false, narrowed := true }
def FixTellsUptoSaid : Prop := fixTellsUptoRow.holds Tryz.pinned (OpenSpec.upto fixTellsSpec)

/-- 'cordonlaw.FixAgain', WHERE WHAT IT READS IS OF BULK AT MOST 1048576: true; the input reads as it did. -/
def fixAgainUptoRow : OpenClaim := { program := "ytgnjdgafkjohaaagreat", sum := "b3cf1f900cc843b33f0f5c9e12d34b3a1656caa312b877ae4fc829d0720955cd", func := "cordon/cordonlaw.FixAgain", spec := "fixAgain", inPlace := ["internal/bytealg.IndexByteString"], unfollowed := true, recurses := true, plainKeys := false, apart := false, narrowed := true }
def FixAgainUptoSaid : Prop := fixAgainUptoRow.holds Tryz.pinned (OpenSpec.upto fixAgainSpec)

/-- 'cordonlaw.ProofSays', WHERE WHAT IT READS IS OF BULK AT MOST 1048576: true; the input reads as it did. -/
def proofSaysUptoRow : OpenClaim := { program := "ytgnjdgafkjohaaagreat", sum := "b3cf1f900cc843b33f0f5c9e12d34b3a1656caa312b877ae4fc829d0720955cd", func := "cordon/cordonlaw.ProofSays", spec := "proofSays", inPlace := ["internal/bytealg.IndexByteString"], unfollowed := true, recurses := true, plainKeys := false, apart := false, narrowed := true }
def ProofSaysUptoSaid : Prop := proofSaysUptoRow.holds Tryz.pinned (OpenSpec.upto proofSaysSpec)

/-- 'cordonlaw.ProofChecks', WHERE WHAT IT READS IS OF BULK AT MOST 1048576: true; the input reads as it did. -/
def proofChecksUptoRow : OpenClaim := { program := "ytgnjdgafkjohaaagreat", sum := "b3cf1f900cc843b33f0f5c9e12d34b3a1656caa312b877ae4fc829d0720955cd", func := "cordon/cordonlaw.ProofChecks", spec := "proofChecks", inPlace := ["internal/bytealg.IndexByteString"], unfollowed := true, recurses := true, plainKeys := false, apart := false, narrowed := true }
def ProofChecksUptoSaid : Prop := proofChecksUptoRow.holds Tryz.pinned (OpenSpec.upto proofChecksSpec)

/-- 'cordonlaw.FixKeeps', WHERE WHAT IT READS IS OF BULK AT MOST 1048576: true; the input reads as it did. -/
def fixKeepsUptoRow : OpenClaim := { program := "ytgnjdgafkjohaaagreat", sum := "b3cf1f900cc843b33f0f5c9e12d34b3a1656caa312b877ae4fc829d0720955cd", func := "cordon/cordonlaw.FixKeeps", spec := "fixKeeps", inPlace := ["internal/bytealg.IndexByteString"], unfollowed := true, recurses := true, plainKeys := false, apart := false, narrowed := true }
def FixKeepsUptoSaid : Prop := fixKeepsUptoRow.holds Tryz.pinned (OpenSpec.upto fixKeepsSpec)

/-- 'cordonlaw.ExplainHolds', WHERE WHAT IT READS IS OF BULK AT MOST 1048576: true; the input reads as it did. -/
def explainHoldsUptoRow : OpenClaim := { program := "ytgnjdgafkjohaaagreat", sum := "b3cf1f900cc843b33f0f5c9e12d34b3a1656caa312b877ae4fc829d0720955cd", func := "cordon/cordonlaw.ExplainHolds", spec := "explainHolds", inPlace := ["internal/bytealg.IndexByteString"], unfollowed := true, recurses := true, plainKeys := false, apart := false, narrowed := true }
def ExplainHoldsUptoSaid : Prop := explainHoldsUptoRow.holds Tryz.pinned (OpenSpec.upto explainHoldsSpec)

/-- 'cordonlaw.ProofSound', WHERE WHAT IT READS IS OF BULK AT MOST 1048576: true; the input reads as it did. -/
def proofSoundUptoRow : OpenClaim := { program := "ytgnjdgafkjohaaagreat", sum := "b3cf1f900cc843b33f0f5c9e12d34b3a1656caa312b877ae4fc829d0720955cd", func := "cordon/cordonlaw.ProofSound", spec := "proofSound", inPlace := ["internal/bytealg.IndexByteString"], unfollowed := true, recurses := true, plainKeys := false, apart := false, narrowed := true }
def ProofSoundUptoSaid : Prop := proofSoundUptoRow.holds Tryz.pinned (OpenSpec.upto proofSoundSpec)

/-- 'cordonlaw.ExplainReasons', WHERE WHAT IT READS IS OF BULK AT MOST 1048576: true; the input reads as it did. -/
def explainReasonsUptoRow : OpenClaim := { program := "ytgnjdgafkjohaaagreat", sum := "b3cf1f900cc843b33f0f5c9e12d34b3a1656caa312b877ae4fc829d0720955cd", func := "cordon/cordonlaw.ExplainReasons", spec := "explainReasons", inPlace := ["internal/bytealg.IndexByteString"], unfollowed := true, recurses := true, plainKeys := false, apart := false, narrowed := true }
def ExplainReasonsUptoSaid : Prop := explainReasonsUptoRow.holds Tryz.pinned (OpenSpec.upto explainReasonsSpec)

/-- 'cordonlaw.ExplainFailures', WHERE WHAT IT READS IS OF BULK AT MOST 1048576: true; the input reads as it did. -/
def explainFailuresUptoRow : OpenClaim := { program := "ytgnjdgafkjohaaagreat", sum := "b3cf1f900cc843b33f0f5c9e12d34b3a1656caa312b877ae4fc829d0720955cd", func := "cordon/cordonlaw.ExplainFailures", spec := "explainFailures", inPlace := ["internal/bytealg.IndexByteString"], unfollowed := true, recurses := true, plainKeys := false, apart := false, narrowed := true }
def ExplainFailuresUptoSaid : Prop := explainFailuresUptoRow.holds Tryz.pinned (OpenSpec.upto explainFailuresSpec)

end Rows
end Go.Proofs.YtgnjdgafkjohaaaGreat
