/- What the functions of a package do, as equations of plain propositions: printed by a program that carries the code out on symbols. -/
import Derived.Test.YtgnjdgafkjohaaaGreatWEv
namespace Go.Proofs.YtgnjdgafkjohaaaGreat
open Go.RowKit
set_option linter.unusedVariables false
set_option maxRecDepth 100000
/-! ### cordon/cordonlaw.ProofSays -/
def cordonlaw_ProofSays_A : Ann := { own := [], live := [], n := 95, nils := [], pubs := [] }
theorem cordonlaw_ProofSays_eq (a0 : MdlD) (a1 : Int) (a2 : List (List LitD)) (a3 : List LitD) (R : D → Prop) : fnD Tryz.prog Ev cordonlaw_ProofSays_A Tryz.f8.results.toList (bodyOf Tryz.f8) [dM a0, dI a1, .sl (.list .lit) a2, .sl .lit a3] R =
 (Call2 Tryz.prog f_proof_Con [dM a0, dI a1, .sl .lit a3] .bool .int fun p1 p2 =>
 Call2 Tryz.prog f_proof_Unit [dM a0, .sl (.list .lit) a2, .sl .lit a3] .bool .int fun p3 p4 =>
 Call1 Tryz.prog f_cordonref_CheckModel [dM a0] .int fun c5 =>
 sel (decide (c5 = 0))
 (sel (decide (a1 < 0))
 (sel (decide ((5 : Int) = 0))
 (Call1 Tryz.prog f_cordonref_CheckClause [dM a0, .sl .lit a3] .int fun c6 =>
 sel (decide (c5 = 0))
 (Call1 Tryz.prog f_cordonref_CheckClauses [dM a0, .sl (.list .lit) a2] .int fun c7 =>
 sel (decide (c7 = 0))
 (Call1 Tryz.prog f_cordonref_CheckClause [dM a0, .sl .lit a3] .int fun c8 =>
 Call1 Tryz.prog f_cordonlaw_proofBegun [] .bool fun c9 =>
 sel c9
 (sel (decide (p2 = c6))
 (sel (decide (c6 = 0))
 (Call1 Tryz.prog f_cordonref_ConSays [dM a0, dI a1, .sl .lit a3] .bool fun c10 =>
 sel (p1 == c10)
 (sel (decide (p4 = c8))
 (sel (decide (c8 = 0))
 (Call1 Tryz.prog f_cordonref_UnitSays [dM a0, .sl (.list .lit) a2, .sl .lit a3] .bool fun c11 =>
 R (dB (p3 == c11)))
 (R (dB (p3 == false))))
 (R (dB false)))
 (R (dB false)))
 (sel (p1 == false)
 (sel (decide (p4 = c8))
 (sel (decide (c8 = 0))
 (Call1 Tryz.prog f_cordonref_UnitSays [dM a0, .sl (.list .lit) a2, .sl .lit a3] .bool fun c12 =>
 R (dB (p3 == c12)))
 (R (dB (p3 == false))))
 (R (dB false)))
 (R (dB false))))
 (R (dB false)))
 (R (dB false)))
 (Call1 Tryz.prog f_cordonlaw_proofBegun [] .bool fun c13 =>
 sel c13
 (sel (decide (p2 = c6))
 (sel (decide (c6 = 0))
 (Call1 Tryz.prog f_cordonref_ConSays [dM a0, dI a1, .sl .lit a3] .bool fun c14 =>
 sel (p1 == c14)
 (sel (decide (p4 = c7))
 (sel (decide (c7 = 0))
 (Call1 Tryz.prog f_cordonref_UnitSays [dM a0, .sl (.list .lit) a2, .sl .lit a3] .bool fun c15 =>
 R (dB (p3 == c15)))
 (R (dB (p3 == false))))
 (R (dB false)))
 (R (dB false)))
 (sel (p1 == false)
 (sel (decide (p4 = c7))
 (sel (decide (c7 = 0))
 (Call1 Tryz.prog f_cordonref_UnitSays [dM a0, .sl (.list .lit) a2, .sl .lit a3] .bool fun c16 =>
 R (dB (p3 == c16)))
 (R (dB (p3 == false))))
 (R (dB false)))
 (R (dB false))))
 (R (dB false)))
 (R (dB false))))
 (sel (decide (c5 = 0))
 (Call1 Tryz.prog f_cordonref_CheckClause [dM a0, .sl .lit a3] .int fun c17 =>
 Call1 Tryz.prog f_cordonlaw_proofBegun [] .bool fun c18 =>
 sel c18
 (sel (decide (p2 = c6))
 (sel (decide (c6 = 0))
 (Call1 Tryz.prog f_cordonref_ConSays [dM a0, dI a1, .sl .lit a3] .bool fun c19 =>
 sel (p1 == c19)
 (sel (decide (p4 = c17))
 (sel (decide (c17 = 0))
 (Call1 Tryz.prog f_cordonref_UnitSays [dM a0, .sl (.list .lit) a2, .sl .lit a3] .bool fun c20 =>
 R (dB (p3 == c20)))
 (R (dB (p3 == false))))
 (R (dB false)))
 (R (dB false)))
 (sel (p1 == false)
 (sel (decide (p4 = c17))
 (sel (decide (c17 = 0))
 (Call1 Tryz.prog f_cordonref_UnitSays [dM a0, .sl (.list .lit) a2, .sl .lit a3] .bool fun c21 =>
 R (dB (p3 == c21)))
 (R (dB (p3 == false))))
 (R (dB false)))
 (R (dB false))))
 (R (dB false)))
 (R (dB false)))
 (Call1 Tryz.prog f_cordonlaw_proofBegun [] .bool fun c22 =>
 sel c22
 (sel (decide (p2 = c6))
 (sel (decide (c6 = 0))
 (Call1 Tryz.prog f_cordonref_ConSays [dM a0, dI a1, .sl .lit a3] .bool fun c23 =>
 sel (p1 == c23)
 (sel (decide (p4 = c5))
 (sel (decide (c5 = 0))
 (Call1 Tryz.prog f_cordonref_UnitSays [dM a0, .sl (.list .lit) a2, .sl .lit a3] .bool fun c24 =>
 R (dB (p3 == c24)))
 (R (dB (p3 == false))))
 (R (dB false)))
 (R (dB false)))
 (sel (p1 == false)
 (sel (decide (p4 = c5))
 (sel (decide (c5 = 0))
 (Call1 Tryz.prog f_cordonref_UnitSays [dM a0, .sl (.list .lit) a2, .sl .lit a3] .bool fun c25 =>
 R (dB (p3 == c25)))
 (R (dB (p3 == false))))
 (R (dB false)))
 (R (dB false))))
 (R (dB false)))
 (R (dB false)))))
 (sel (decide (c5 = 0))
 (Call1 Tryz.prog f_cordonref_CheckClauses [dM a0, .sl (.list .lit) a2] .int fun c26 =>
 sel (decide (c26 = 0))
 (Call1 Tryz.prog f_cordonref_CheckClause [dM a0, .sl .lit a3] .int fun c27 =>
 Call1 Tryz.prog f_cordonlaw_proofBegun [] .bool fun c28 =>
 sel c28
 (sel (decide (p2 = 5))
 (sel (decide ((5 : Int) = 0))
 (Call1 Tryz.prog f_cordonref_ConSays [dM a0, dI a1, .sl .lit a3] .bool fun c29 =>
 sel (p1 == c29)
 (sel (decide (p4 = c27))
 (sel (decide (c27 = 0))
 (Call1 Tryz.prog f_cordonref_UnitSays [dM a0, .sl (.list .lit) a2, .sl .lit a3] .bool fun c30 =>
 R (dB (p3 == c30)))
 (R (dB (p3 == false))))
 (R (dB false)))
 (R (dB false)))
 (sel (p1 == false)
 (sel (decide (p4 = c27))
 (sel (decide (c27 = 0))
 (Call1 Tryz.prog f_cordonref_UnitSays [dM a0, .sl (.list .lit) a2, .sl .lit a3] .bool fun c31 =>
 R (dB (p3 == c31)))
 (R (dB (p3 == false))))
 (R (dB false)))
 (R (dB false))))
 (R (dB false)))
 (R (dB false)))
 (Call1 Tryz.prog f_cordonlaw_proofBegun [] .bool fun c32 =>
 sel c32
 (sel (decide (p2 = 5))
 (sel (decide ((5 : Int) = 0))
 (Call1 Tryz.prog f_cordonref_ConSays [dM a0, dI a1, .sl .lit a3] .bool fun c33 =>
 sel (p1 == c33)
 (sel (decide (p4 = c26))
 (sel (decide (c26 = 0))
 (Call1 Tryz.prog f_cordonref_UnitSays [dM a0, .sl (.list .lit) a2, .sl .lit a3] .bool fun c34 =>
 R (dB (p3 == c34)))
 (R (dB (p3 == false))))
 (R (dB false)))
 (R (dB false)))
 (sel (p1 == false)
 (sel (decide (p4 = c26))
 (sel (decide (c26 = 0))
 (Call1 Tryz.prog f_cordonref_UnitSays [dM a0, .sl (.list .lit) a2, .sl .lit a3] .bool fun c35 =>
 R (dB (p3 == c35)))
 (R (dB (p3 == false))))
 (R (dB false)))
 (R (dB false))))
 (R (dB false)))
 (R (dB false))))
 (sel (decide (c5 = 0))
 (Call1 Tryz.prog f_cordonref_CheckClause [dM a0, .sl .lit a3] .int fun c36 =>
 Call1 Tryz.prog f_cordonlaw_proofBegun [] .bool fun c37 =>
 sel c37
 (sel (decide (p2 = 5))
 (sel (decide ((5 : Int) = 0))
 (Call1 Tryz.prog f_cordonref_ConSays [dM a0, dI a1, .sl .lit a3] .bool fun c38 =>
 sel (p1 == c38)
 (sel (decide (p4 = c36))
 (sel (decide (c36 = 0))
 (Call1 Tryz.prog f_cordonref_UnitSays [dM a0, .sl (.list .lit) a2, .sl .lit a3] .bool fun c39 =>
 R (dB (p3 == c39)))
 (R (dB (p3 == false))))
 (R (dB false)))
 (R (dB false)))
 (sel (p1 == false)
 (sel (decide (p4 = c36))
 (sel (decide (c36 = 0))
 (Call1 Tryz.prog f_cordonref_UnitSays [dM a0, .sl (.list .lit) a2, .sl .lit a3] .bool fun c40 =>
 R (dB (p3 == c40)))
 (R (dB (p3 == false))))
 (R (dB false)))
 (R (dB false))))
 (R (dB false)))
 (R (dB false)))
 (Call1 Tryz.prog f_cordonlaw_proofBegun [] .bool fun c41 =>
 sel c41
 (sel (decide (p2 = 5))
 (sel (decide ((5 : Int) = 0))
 (Call1 Tryz.prog f_cordonref_ConSays [dM a0, dI a1, .sl .lit a3] .bool fun c42 =>
 sel (p1 == c42)
 (sel (decide (p4 = c5))
 (sel (decide (c5 = 0))
 (Call1 Tryz.prog f_cordonref_UnitSays [dM a0, .sl (.list .lit) a2, .sl .lit a3] .bool fun c43 =>
 R (dB (p3 == c43)))
 (R (dB (p3 == false))))
 (R (dB false)))
 (R (dB false)))
 (sel (p1 == false)
 (sel (decide (p4 = c5))
 (sel (decide (c5 = 0))
 (Call1 Tryz.prog f_cordonref_UnitSays [dM a0, .sl (.list .lit) a2, .sl .lit a3] .bool fun c44 =>
 R (dB (p3 == c44)))
 (R (dB (p3 == false))))
 (R (dB false)))
 (R (dB false))))
 (R (dB false)))
 (R (dB false))))))
 (sel (decide ((a0.cons.length : Int) ≤ a1))
 (sel (decide ((5 : Int) = 0))
 (Call1 Tryz.prog f_cordonref_CheckClause [dM a0, .sl .lit a3] .int fun c45 =>
 sel (decide (c5 = 0))
 (Call1 Tryz.prog f_cordonref_CheckClauses [dM a0, .sl (.list .lit) a2] .int fun c46 =>
 sel (decide (c46 = 0))
 (Call1 Tryz.prog f_cordonref_CheckClause [dM a0, .sl .lit a3] .int fun c47 =>
 Call1 Tryz.prog f_cordonlaw_proofBegun [] .bool fun c48 =>
 sel c48
 (sel (decide (p2 = c45))
 (sel (decide (c45 = 0))
 (Call1 Tryz.prog f_cordonref_ConSays [dM a0, dI a1, .sl .lit a3] .bool fun c49 =>
 sel (p1 == c49)
 (sel (decide (p4 = c47))
 (sel (decide (c47 = 0))
 (Call1 Tryz.prog f_cordonref_UnitSays [dM a0, .sl (.list .lit) a2, .sl .lit a3] .bool fun c50 =>
 R (dB (p3 == c50)))
 (R (dB (p3 == false))))
 (R (dB false)))
 (R (dB false)))
 (sel (p1 == false)
 (sel (decide (p4 = c47))
 (sel (decide (c47 = 0))
 (Call1 Tryz.prog f_cordonref_UnitSays [dM a0, .sl (.list .lit) a2, .sl .lit a3] .bool fun c51 =>
 R (dB (p3 == c51)))
 (R (dB (p3 == false))))
 (R (dB false)))
 (R (dB false))))
 (R (dB false)))
 (R (dB false)))
 (Call1 Tryz.prog f_cordonlaw_proofBegun [] .bool fun c52 =>
 sel c52
 (sel (decide (p2 = c45))
 (sel (decide (c45 = 0))
 (Call1 Tryz.prog f_cordonref_ConSays [dM a0, dI a1, .sl .lit a3] .bool fun c53 =>
 sel (p1 == c53)
 (sel (decide (p4 = c46))
 (sel (decide (c46 = 0))
 (Call1 Tryz.prog f_cordonref_UnitSays [dM a0, .sl (.list .lit) a2, .sl .lit a3] .bool fun c54 =>
 R (dB (p3 == c54)))
 (R (dB (p3 == false))))
 (R (dB false)))
 (R (dB false)))
 (sel (p1 == false)
 (sel (decide (p4 = c46))
 (sel (decide (c46 = 0))
 (Call1 Tryz.prog f_cordonref_UnitSays [dM a0, .sl (.list .lit) a2, .sl .lit a3] .bool fun c55 =>
 R (dB (p3 == c55)))
 (R (dB (p3 == false))))
 (R (dB false)))
 (R (dB false))))
 (R (dB false)))
 (R (dB false))))
 (sel (decide (c5 = 0))
 (Call1 Tryz.prog f_cordonref_CheckClause [dM a0, .sl .lit a3] .int fun c56 =>
 Call1 Tryz.prog f_cordonlaw_proofBegun [] .bool fun c57 =>
 sel c57
 (sel (decide (p2 = c45))
 (sel (decide (c45 = 0))
 (Call1 Tryz.prog f_cordonref_ConSays [dM a0, dI a1, .sl .lit a3] .bool fun c58 =>
 sel (p1 == c58)
 (sel (decide (p4 = c56))
 (sel (decide (c56 = 0))
 (Call1 Tryz.prog f_cordonref_UnitSays [dM a0, .sl (.list .lit) a2, .sl .lit a3] .bool fun c59 =>
 R (dB (p3 == c59)))
 (R (dB (p3 == false))))
 (R (dB false)))
 (R (dB false)))
 (sel (p1 == false)
 (sel (decide (p4 = c56))
 (sel (decide (c56 = 0))
 (Call1 Tryz.prog f_cordonref_UnitSays [dM a0, .sl (.list .lit) a2, .sl .lit a3] .bool fun c60 =>
 R (dB (p3 == c60)))
 (R (dB (p3 == false))))
 (R (dB false)))
 (R (dB false))))
 (R (dB false)))
 (R (dB false)))
 (Call1 Tryz.prog f_cordonlaw_proofBegun [] .bool fun c61 =>
 sel c61
 (sel (decide (p2 = c45))
 (sel (decide (c45 = 0))
 (Call1 Tryz.prog f_cordonref_ConSays [dM a0, dI a1, .sl .lit a3] .bool fun c62 =>
 sel (p1 == c62)
 (sel (decide (p4 = c5))
 (sel (decide (c5 = 0))
 (Call1 Tryz.prog f_cordonref_UnitSays [dM a0, .sl (.list .lit) a2, .sl .lit a3] .bool fun c63 =>
 R (dB (p3 == c63)))
 (R (dB (p3 == false))))
 (R (dB false)))
 (R (dB false)))
 (sel (p1 == false)
 (sel (decide (p4 = c5))
 (sel (decide (c5 = 0))
 (Call1 Tryz.prog f_cordonref_UnitSays [dM a0, .sl (.list .lit) a2, .sl .lit a3] .bool fun c64 =>
 R (dB (p3 == c64)))
 (R (dB (p3 == false))))
 (R (dB false)))
 (R (dB false))))
 (R (dB false)))
 (R (dB false)))))
 (sel (decide (c5 = 0))
 (Call1 Tryz.prog f_cordonref_CheckClauses [dM a0, .sl (.list .lit) a2] .int fun c65 =>
 sel (decide (c65 = 0))
 (Call1 Tryz.prog f_cordonref_CheckClause [dM a0, .sl .lit a3] .int fun c66 =>
 Call1 Tryz.prog f_cordonlaw_proofBegun [] .bool fun c67 =>
 sel c67
 (sel (decide (p2 = 5))
 (sel (decide ((5 : Int) = 0))
 (Call1 Tryz.prog f_cordonref_ConSays [dM a0, dI a1, .sl .lit a3] .bool fun c68 =>
 sel (p1 == c68)
 (sel (decide (p4 = c66))
 (sel (decide (c66 = 0))
 (Call1 Tryz.prog f_cordonref_UnitSays [dM a0, .sl (.list .lit) a2, .sl .lit a3] .bool fun c69 =>
 R (dB (p3 == c69)))
 (R (dB (p3 == false))))
 (R (dB false)))
 (R (dB false)))
 (sel (p1 == false)
 (sel (decide (p4 = c66))
 (sel (decide (c66 = 0))
 (Call1 Tryz.prog f_cordonref_UnitSays [dM a0, .sl (.list .lit) a2, .sl .lit a3] .bool fun c70 =>
 R (dB (p3 == c70)))
 (R (dB (p3 == false))))
 (R (dB false)))
 (R (dB false))))
 (R (dB false)))
 (R (dB false)))
 (Call1 Tryz.prog f_cordonlaw_proofBegun [] .bool fun c71 =>
 sel c71
 (sel (decide (p2 = 5))
 (sel (decide ((5 : Int) = 0))
 (Call1 Tryz.prog f_cordonref_ConSays [dM a0, dI a1, .sl .lit a3] .bool fun c72 =>
 sel (p1 == c72)
 (sel (decide (p4 = c65))
 (sel (decide (c65 = 0))
 (Call1 Tryz.prog f_cordonref_UnitSays [dM a0, .sl (.list .lit) a2, .sl .lit a3] .bool fun c73 =>
 R (dB (p3 == c73)))
 (R (dB (p3 == false))))
 (R (dB false)))
 (R (dB false)))
 (sel (p1 == false)
 (sel (decide (p4 = c65))
 (sel (decide (c65 = 0))
 (Call1 Tryz.prog f_cordonref_UnitSays [dM a0, .sl (.list .lit) a2, .sl .lit a3] .bool fun c74 =>
 R (dB (p3 == c74)))
 (R (dB (p3 == false))))
 (R (dB false)))
 (R (dB false))))
 (R (dB false)))
 (R (dB false))))
 (sel (decide (c5 = 0))
 (Call1 Tryz.prog f_cordonref_CheckClause [dM a0, .sl .lit a3] .int fun c75 =>
 Call1 Tryz.prog f_cordonlaw_proofBegun [] .bool fun c76 =>
 sel c76
 (sel (decide (p2 = 5))
 (sel (decide ((5 : Int) = 0))
 (Call1 Tryz.prog f_cordonref_ConSays [dM a0, dI a1, .sl .lit a3] .bool fun c77 =>
 sel (p1 == c77)
 (sel (decide (p4 = c75))
 (sel (decide (c75 = 0))
 (Call1 Tryz.prog f_cordonref_UnitSays [dM a0, .sl (.list .lit) a2, .sl .lit a3] .bool fun c78 =>
 R (dB (p3 == c78)))
 (R (dB (p3 == false))))
 (R (dB false)))
 (R (dB false)))
 (sel (p1 == false)
 (sel (decide (p4 = c75))
 (sel (decide (c75 = 0))
 (Call1 Tryz.prog f_cordonref_UnitSays [dM a0, .sl (.list .lit) a2, .sl .lit a3] .bool fun c79 =>
 R (dB (p3 == c79)))
 (R (dB (p3 == false))))
 (R (dB false)))
 (R (dB false))))
 (R (dB false)))
 (R (dB false)))
 (Call1 Tryz.prog f_cordonlaw_proofBegun [] .bool fun c80 =>
 sel c80
 (sel (decide (p2 = 5))
 (sel (decide ((5 : Int) = 0))
 (Call1 Tryz.prog f_cordonref_ConSays [dM a0, dI a1, .sl .lit a3] .bool fun c81 =>
 sel (p1 == c81)
 (sel (decide (p4 = c5))
 (sel (decide (c5 = 0))
 (Call1 Tryz.prog f_cordonref_UnitSays [dM a0, .sl (.list .lit) a2, .sl .lit a3] .bool fun c82 =>
 R (dB (p3 == c82)))
 (R (dB (p3 == false))))
 (R (dB false)))
 (R (dB false)))
 (sel (p1 == false)
 (sel (decide (p4 = c5))
 (sel (decide (c5 = 0))
 (Call1 Tryz.prog f_cordonref_UnitSays [dM a0, .sl (.list .lit) a2, .sl .lit a3] .bool fun c83 =>
 R (dB (p3 == c83)))
 (R (dB (p3 == false))))
 (R (dB false)))
 (R (dB false))))
 (R (dB false)))
 (R (dB false))))))
 (sel (decide (c5 = 0))
 (Call1 Tryz.prog f_cordonref_CheckClause [dM a0, .sl .lit a3] .int fun c84 =>
 sel (decide (c5 = 0))
 (Call1 Tryz.prog f_cordonref_CheckClauses [dM a0, .sl (.list .lit) a2] .int fun c85 =>
 sel (decide (c85 = 0))
 (Call1 Tryz.prog f_cordonref_CheckClause [dM a0, .sl .lit a3] .int fun c86 =>
 Call1 Tryz.prog f_cordonlaw_proofBegun [] .bool fun c87 =>
 sel c87
 (sel (decide (p2 = c84))
 (sel (decide (c84 = 0))
 (Call1 Tryz.prog f_cordonref_ConSays [dM a0, dI a1, .sl .lit a3] .bool fun c88 =>
 sel (p1 == c88)
 (sel (decide (p4 = c86))
 (sel (decide (c86 = 0))
 (Call1 Tryz.prog f_cordonref_UnitSays [dM a0, .sl (.list .lit) a2, .sl .lit a3] .bool fun c89 =>
 R (dB (p3 == c89)))
 (R (dB (p3 == false))))
 (R (dB false)))
 (R (dB false)))
 (sel (p1 == false)
 (sel (decide (p4 = c86))
 (sel (decide (c86 = 0))
 (Call1 Tryz.prog f_cordonref_UnitSays [dM a0, .sl (.list .lit) a2, .sl .lit a3] .bool fun c90 =>
 R (dB (p3 == c90)))
 (R (dB (p3 == false))))
 (R (dB false)))
 (R (dB false))))
 (R (dB false)))
 (R (dB false)))
 (Call1 Tryz.prog f_cordonlaw_proofBegun [] .bool fun c91 =>
 sel c91
 (sel (decide (p2 = c84))
 (sel (decide (c84 = 0))
 (Call1 Tryz.prog f_cordonref_ConSays [dM a0, dI a1, .sl .lit a3] .bool fun c92 =>
 sel (p1 == c92)
 (sel (decide (p4 = c85))
 (sel (decide (c85 = 0))
 (Call1 Tryz.prog f_cordonref_UnitSays [dM a0, .sl (.list .lit) a2, .sl .lit a3] .bool fun c93 =>
 R (dB (p3 == c93)))
 (R (dB (p3 == false))))
 (R (dB false)))
 (R (dB false)))
 (sel (p1 == false)
 (sel (decide (p4 = c85))
 (sel (decide (c85 = 0))
 (Call1 Tryz.prog f_cordonref_UnitSays [dM a0, .sl (.list .lit) a2, .sl .lit a3] .bool fun c94 =>
 R (dB (p3 == c94)))
 (R (dB (p3 == false))))
 (R (dB false)))
 (R (dB false))))
 (R (dB false)))
 (R (dB false))))
 (sel (decide (c5 = 0))
 (Call1 Tryz.prog f_cordonref_CheckClause [dM a0, .sl .lit a3] .int fun c95 =>
 Call1 Tryz.prog f_cordonlaw_proofBegun [] .bool fun c96 =>
 sel c96
 (sel (decide (p2 = c84))
 (sel (decide (c84 = 0))
 (Call1 Tryz.prog f_cordonref_ConSays [dM a0, dI a1, .sl .lit a3] .bool fun c97 =>
 sel (p1 == c97)
 (sel (decide (p4 = c95))
 (sel (decide (c95 = 0))
 (Call1 Tryz.prog f_cordonref_UnitSays [dM a0, .sl (.list .lit) a2, .sl .lit a3] .bool fun c98 =>
 R (dB (p3 == c98)))
 (R (dB (p3 == false))))
 (R (dB false)))
 (R (dB false)))
 (sel (p1 == false)
 (sel (decide (p4 = c95))
 (sel (decide (c95 = 0))
 (Call1 Tryz.prog f_cordonref_UnitSays [dM a0, .sl (.list .lit) a2, .sl .lit a3] .bool fun c99 =>
 R (dB (p3 == c99)))
 (R (dB (p3 == false))))
 (R (dB false)))
 (R (dB false))))
 (R (dB false)))
 (R (dB false)))
 (Call1 Tryz.prog f_cordonlaw_proofBegun [] .bool fun c100 =>
 sel c100
 (sel (decide (p2 = c84))
 (sel (decide (c84 = 0))
 (Call1 Tryz.prog f_cordonref_ConSays [dM a0, dI a1, .sl .lit a3] .bool fun c101 =>
 sel (p1 == c101)
 (sel (decide (p4 = c5))
 (sel (decide (c5 = 0))
 (Call1 Tryz.prog f_cordonref_UnitSays [dM a0, .sl (.list .lit) a2, .sl .lit a3] .bool fun c102 =>
 R (dB (p3 == c102)))
 (R (dB (p3 == false))))
 (R (dB false)))
 (R (dB false)))
 (sel (p1 == false)
 (sel (decide (p4 = c5))
 (sel (decide (c5 = 0))
 (Call1 Tryz.prog f_cordonref_UnitSays [dM a0, .sl (.list .lit) a2, .sl .lit a3] .bool fun c103 =>
 R (dB (p3 == c103)))
 (R (dB (p3 == false))))
 (R (dB false)))
 (R (dB false))))
 (R (dB false)))
 (R (dB false)))))
 (sel (decide (c5 = 0))
 (Call1 Tryz.prog f_cordonref_CheckClauses [dM a0, .sl (.list .lit) a2] .int fun c104 =>
 sel (decide (c104 = 0))
 (Call1 Tryz.prog f_cordonref_CheckClause [dM a0, .sl .lit a3] .int fun c105 =>
 Call1 Tryz.prog f_cordonlaw_proofBegun [] .bool fun c106 =>
 sel c106
 (sel (decide (p2 = c5))
 (sel (decide (c5 = 0))
 (Call1 Tryz.prog f_cordonref_ConSays [dM a0, dI a1, .sl .lit a3] .bool fun c107 =>
 sel (p1 == c107)
 (sel (decide (p4 = c105))
 (sel (decide (c105 = 0))
 (Call1 Tryz.prog f_cordonref_UnitSays [dM a0, .sl (.list .lit) a2, .sl .lit a3] .bool fun c108 =>
 R (dB (p3 == c108)))
 (R (dB (p3 == false))))
 (R (dB false)))
 (R (dB false)))
 (sel (p1 == false)
 (sel (decide (p4 = c105))
 (sel (decide (c105 = 0))
 (Call1 Tryz.prog f_cordonref_UnitSays [dM a0, .sl (.list .lit) a2, .sl .lit a3] .bool fun c109 =>
 R (dB (p3 == c109)))
 (R (dB (p3 == false))))
 (R (dB false)))
 (R (dB false))))
 (R (dB false)))
 (R (dB false)))
 (Call1 Tryz.prog f_cordonlaw_proofBegun [] .bool fun c110 =>
 sel c110
 (sel (decide (p2 = c5))
 (sel (decide (c5 = 0))
 (Call1 Tryz.prog f_cordonref_ConSays [dM a0, dI a1, .sl .lit a3] .bool fun c111 =>
 sel (p1 == c111)
 (sel (decide (p4 = c104))
 (sel (decide (c104 = 0))
 (Call1 Tryz.prog f_cordonref_UnitSays [dM a0, .sl (.list .lit) a2, .sl .lit a3] .bool fun c112 =>
 R (dB (p3 == c112)))
 (R (dB (p3 == false))))
 (R (dB false)))
 (R (dB false)))
 (sel (p1 == false)
 (sel (decide (p4 = c104))
 (sel (decide (c104 = 0))
 (Call1 Tryz.prog f_cordonref_UnitSays [dM a0, .sl (.list .lit) a2, .sl .lit a3] .bool fun c113 =>
 R (dB (p3 == c113)))
 (R (dB (p3 == false))))
 (R (dB false)))
 (R (dB false))))
 (R (dB false)))
 (R (dB false))))
 (sel (decide (c5 = 0))
 (Call1 Tryz.prog f_cordonref_CheckClause [dM a0, .sl .lit a3] .int fun c114 =>
 Call1 Tryz.prog f_cordonlaw_proofBegun [] .bool fun c115 =>
 sel c115
 (sel (decide (p2 = c5))
 (sel (decide (c5 = 0))
 (Call1 Tryz.prog f_cordonref_ConSays [dM a0, dI a1, .sl .lit a3] .bool fun c116 =>
 sel (p1 == c116)
 (sel (decide (p4 = c114))
 (sel (decide (c114 = 0))
 (Call1 Tryz.prog f_cordonref_UnitSays [dM a0, .sl (.list .lit) a2, .sl .lit a3] .bool fun c117 =>
 R (dB (p3 == c117)))
 (R (dB (p3 == false))))
 (R (dB false)))
 (R (dB false)))
 (sel (p1 == false)
 (sel (decide (p4 = c114))
 (sel (decide (c114 = 0))
 (Call1 Tryz.prog f_cordonref_UnitSays [dM a0, .sl (.list .lit) a2, .sl .lit a3] .bool fun c118 =>
 R (dB (p3 == c118)))
 (R (dB (p3 == false))))
 (R (dB false)))
 (R (dB false))))
 (R (dB false)))
 (R (dB false)))
 (Call1 Tryz.prog f_cordonlaw_proofBegun [] .bool fun c119 =>
 sel c119
 (sel (decide (p2 = c5))
 (sel (decide (c5 = 0))
 (Call1 Tryz.prog f_cordonref_ConSays [dM a0, dI a1, .sl .lit a3] .bool fun c120 =>
 sel (p1 == c120)
 (sel (decide (p4 = c5))
 (sel (decide (c5 = 0))
 (Call1 Tryz.prog f_cordonref_UnitSays [dM a0, .sl (.list .lit) a2, .sl .lit a3] .bool fun c121 =>
 R (dB (p3 == c121)))
 (R (dB (p3 == false))))
 (R (dB false)))
 (R (dB false)))
 (sel (p1 == false)
 (sel (decide (p4 = c5))
 (sel (decide (c5 = 0))
 (Call1 Tryz.prog f_cordonref_UnitSays [dM a0, .sl (.list .lit) a2, .sl .lit a3] .bool fun c122 =>
 R (dB (p3 == c122)))
 (R (dB (p3 == false))))
 (R (dB false)))
 (R (dB false))))
 (R (dB false)))
 (R (dB false))))))))
 (sel (decide (c5 = 0))
 (Call1 Tryz.prog f_cordonref_CheckClause [dM a0, .sl .lit a3] .int fun c123 =>
 sel (decide (c5 = 0))
 (Call1 Tryz.prog f_cordonref_CheckClauses [dM a0, .sl (.list .lit) a2] .int fun c124 =>
 sel (decide (c124 = 0))
 (Call1 Tryz.prog f_cordonref_CheckClause [dM a0, .sl .lit a3] .int fun c125 =>
 Call1 Tryz.prog f_cordonlaw_proofBegun [] .bool fun c126 =>
 sel c126
 (sel (decide (p2 = c123))
 (sel (decide (c123 = 0))
 (Call1 Tryz.prog f_cordonref_ConSays [dM a0, dI a1, .sl .lit a3] .bool fun c127 =>
 sel (p1 == c127)
 (sel (decide (p4 = c125))
 (sel (decide (c125 = 0))
 (Call1 Tryz.prog f_cordonref_UnitSays [dM a0, .sl (.list .lit) a2, .sl .lit a3] .bool fun c128 =>
 R (dB (p3 == c128)))
 (R (dB (p3 == false))))
 (R (dB false)))
 (R (dB false)))
 (sel (p1 == false)
 (sel (decide (p4 = c125))
 (sel (decide (c125 = 0))
 (Call1 Tryz.prog f_cordonref_UnitSays [dM a0, .sl (.list .lit) a2, .sl .lit a3] .bool fun c129 =>
 R (dB (p3 == c129)))
 (R (dB (p3 == false))))
 (R (dB false)))
 (R (dB false))))
 (R (dB false)))
 (R (dB false)))
 (Call1 Tryz.prog f_cordonlaw_proofBegun [] .bool fun c130 =>
 sel c130
 (sel (decide (p2 = c123))
 (sel (decide (c123 = 0))
 (Call1 Tryz.prog f_cordonref_ConSays [dM a0, dI a1, .sl .lit a3] .bool fun c131 =>
 sel (p1 == c131)
 (sel (decide (p4 = c124))
 (sel (decide (c124 = 0))
 (Call1 Tryz.prog f_cordonref_UnitSays [dM a0, .sl (.list .lit) a2, .sl .lit a3] .bool fun c132 =>
 R (dB (p3 == c132)))
 (R (dB (p3 == false))))
 (R (dB false)))
 (R (dB false)))
 (sel (p1 == false)
 (sel (decide (p4 = c124))
 (sel (decide (c124 = 0))
 (Call1 Tryz.prog f_cordonref_UnitSays [dM a0, .sl (.list .lit) a2, .sl .lit a3] .bool fun c133 =>
 R (dB (p3 == c133)))
 (R (dB (p3 == false))))
 (R (dB false)))
 (R (dB false))))
 (R (dB false)))
 (R (dB false))))
 (sel (decide (c5 = 0))
 (Call1 Tryz.prog f_cordonref_CheckClause [dM a0, .sl .lit a3] .int fun c134 =>
 Call1 Tryz.prog f_cordonlaw_proofBegun [] .bool fun c135 =>
 sel c135
 (sel (decide (p2 = c123))
 (sel (decide (c123 = 0))
 (Call1 Tryz.prog f_cordonref_ConSays [dM a0, dI a1, .sl .lit a3] .bool fun c136 =>
 sel (p1 == c136)
 (sel (decide (p4 = c134))
 (sel (decide (c134 = 0))
 (Call1 Tryz.prog f_cordonref_UnitSays [dM a0, .sl (.list .lit) a2, .sl .lit a3] .bool fun c137 =>
 R (dB (p3 == c137)))
 (R (dB (p3 == false))))
 (R (dB false)))
 (R (dB false)))
 (sel (p1 == false)
 (sel (decide (p4 = c134))
 (sel (decide (c134 = 0))
 (Call1 Tryz.prog f_cordonref_UnitSays [dM a0, .sl (.list .lit) a2, .sl .lit a3] .bool fun c138 =>
 R (dB (p3 == c138)))
 (R (dB (p3 == false))))
 (R (dB false)))
 (R (dB false))))
 (R (dB false)))
 (R (dB false)))
 (Call1 Tryz.prog f_cordonlaw_proofBegun [] .bool fun c139 =>
 sel c139
 (sel (decide (p2 = c123))
 (sel (decide (c123 = 0))
 (Call1 Tryz.prog f_cordonref_ConSays [dM a0, dI a1, .sl .lit a3] .bool fun c140 =>
 sel (p1 == c140)
 (sel (decide (p4 = c5))
 (sel (decide (c5 = 0))
 (Call1 Tryz.prog f_cordonref_UnitSays [dM a0, .sl (.list .lit) a2, .sl .lit a3] .bool fun c141 =>
 R (dB (p3 == c141)))
 (R (dB (p3 == false))))
 (R (dB false)))
 (R (dB false)))
 (sel (p1 == false)
 (sel (decide (p4 = c5))
 (sel (decide (c5 = 0))
 (Call1 Tryz.prog f_cordonref_UnitSays [dM a0, .sl (.list .lit) a2, .sl .lit a3] .bool fun c142 =>
 R (dB (p3 == c142)))
 (R (dB (p3 == false))))
 (R (dB false)))
 (R (dB false))))
 (R (dB false)))
 (R (dB false)))))
 (sel (decide (c5 = 0))
 (Call1 Tryz.prog f_cordonref_CheckClauses [dM a0, .sl (.list .lit) a2] .int fun c143 =>
 sel (decide (c143 = 0))
 (Call1 Tryz.prog f_cordonref_CheckClause [dM a0, .sl .lit a3] .int fun c144 =>
 Call1 Tryz.prog f_cordonlaw_proofBegun [] .bool fun c145 =>
 sel c145
 (sel (decide (p2 = c5))
 (sel (decide (c5 = 0))
 (Call1 Tryz.prog f_cordonref_ConSays [dM a0, dI a1, .sl .lit a3] .bool fun c146 =>
 sel (p1 == c146)
 (sel (decide (p4 = c144))
 (sel (decide (c144 = 0))
 (Call1 Tryz.prog f_cordonref_UnitSays [dM a0, .sl (.list .lit) a2, .sl .lit a3] .bool fun c147 =>
 R (dB (p3 == c147)))
 (R (dB (p3 == false))))
 (R (dB false)))
 (R (dB false)))
 (sel (p1 == false)
 (sel (decide (p4 = c144))
 (sel (decide (c144 = 0))
 (Call1 Tryz.prog f_cordonref_UnitSays [dM a0, .sl (.list .lit) a2, .sl .lit a3] .bool fun c148 =>
 R (dB (p3 == c148)))
 (R (dB (p3 == false))))
 (R (dB false)))
 (R (dB false))))
 (R (dB false)))
 (R (dB false)))
 (Call1 Tryz.prog f_cordonlaw_proofBegun [] .bool fun c149 =>
 sel c149
 (sel (decide (p2 = c5))
 (sel (decide (c5 = 0))
 (Call1 Tryz.prog f_cordonref_ConSays [dM a0, dI a1, .sl .lit a3] .bool fun c150 =>
 sel (p1 == c150)
 (sel (decide (p4 = c143))
 (sel (decide (c143 = 0))
 (Call1 Tryz.prog f_cordonref_UnitSays [dM a0, .sl (.list .lit) a2, .sl .lit a3] .bool fun c151 =>
 R (dB (p3 == c151)))
 (R (dB (p3 == false))))
 (R (dB false)))
 (R (dB false)))
 (sel (p1 == false)
 (sel (decide (p4 = c143))
 (sel (decide (c143 = 0))
 (Call1 Tryz.prog f_cordonref_UnitSays [dM a0, .sl (.list .lit) a2, .sl .lit a3] .bool fun c152 =>
 R (dB (p3 == c152)))
 (R (dB (p3 == false))))
 (R (dB false)))
 (R (dB false))))
 (R (dB false)))
 (R (dB false))))
 (sel (decide (c5 = 0))
 (Call1 Tryz.prog f_cordonref_CheckClause [dM a0, .sl .lit a3] .int fun c153 =>
 Call1 Tryz.prog f_cordonlaw_proofBegun [] .bool fun c154 =>
 sel c154
 (sel (decide (p2 = c5))
 (sel (decide (c5 = 0))
 (Call1 Tryz.prog f_cordonref_ConSays [dM a0, dI a1, .sl .lit a3] .bool fun c155 =>
 sel (p1 == c155)
 (sel (decide (p4 = c153))
 (sel (decide (c153 = 0))
 (Call1 Tryz.prog f_cordonref_UnitSays [dM a0, .sl (.list .lit) a2, .sl .lit a3] .bool fun c156 =>
 R (dB (p3 == c156)))
 (R (dB (p3 == false))))
 (R (dB false)))
 (R (dB false)))
 (sel (p1 == false)
 (sel (decide (p4 = c153))
 (sel (decide (c153 = 0))
 (Call1 Tryz.prog f_cordonref_UnitSays [dM a0, .sl (.list .lit) a2, .sl .lit a3] .bool fun c157 =>
 R (dB (p3 == c157)))
 (R (dB (p3 == false))))
 (R (dB false)))
 (R (dB false))))
 (R (dB false)))
 (R (dB false)))
 (Call1 Tryz.prog f_cordonlaw_proofBegun [] .bool fun c158 =>
 sel c158
 (sel (decide (p2 = c5))
 (sel (decide (c5 = 0))
 (Call1 Tryz.prog f_cordonref_ConSays [dM a0, dI a1, .sl .lit a3] .bool fun c159 =>
 sel (p1 == c159)
 (sel (decide (p4 = c5))
 (sel (decide (c5 = 0))
 (Call1 Tryz.prog f_cordonref_UnitSays [dM a0, .sl (.list .lit) a2, .sl .lit a3] .bool fun c160 =>
 R (dB (p3 == c160)))
 (R (dB (p3 == false))))
 (R (dB false)))
 (R (dB false)))
 (sel (p1 == false)
 (sel (decide (p4 = c5))
 (sel (decide (c5 = 0))
 (Call1 Tryz.prog f_cordonref_UnitSays [dM a0, .sl (.list .lit) a2, .sl .lit a3] .bool fun c161 =>
 R (dB (p3 == c161)))
 (R (dB (p3 == false))))
 (R (dB false)))
 (R (dB false))))
 (R (dB false)))
 (R (dB false))))))) := by kernel_rfl
theorem cordonlaw_ProofSays_sat {r : D} (a0 : MdlD) (a1 : Int) (a2 : List (List LitD)) (a3 : List LitD) (h : (∀ d ∈ [dM a0, dI a1, .sl (.list .lit) a2, .sl .lit a3], okD d) → fnD Tryz.prog Ev cordonlaw_ProofSays_A Tryz.f8.results.toList (bodyOf Tryz.f8) [dM a0, dI a1, .sl (.list .lit) a2, .sl .lit a3] fun d => d = r) : Sat Tryz.prog f_cordonlaw_ProofSays [dM a0, dI a1, .sl (.list .lit) a2, .sl .lit a3] r := by
  have h2 := sat_of (r := r) (args := [dM a0, dI a1, .sl (.list .lit) a2, .sl .lit a3]) (A := cordonlaw_ProofSays_A) (fn := Tryz.f8) (body := bodyOf Tryz.f8) (f := f_cordonlaw_ProofSays) factsEv Tryz.func8 (by kernel_rfl) (by rw [Tryz.ntmps8]; rfl) (by rw [Tryz.ntmps8]; exact Nat.le_of_ble_eq_true rfl)
  with_reducible exact h2 h
/-! ### cordon/cordonlaw.proofBegun -/
def cordonlaw_proofBegun_A : Ann := { own := [], live := [], n := 74, nils := [], pubs := [] }
theorem cordonlaw_proofBegun_eq  (R : D → Prop) : fnD Tryz.prog Ev cordonlaw_proofBegun_A Tryz.f38.results.toList (bodyOf Tryz.f38) [] R =
 (Call1 Tryz.prog f_cordonlaw_two [] .mdl fun c1 =>
 Call2 Tryz.prog f_proof_Con [dM c1, dI 0, .sl .lit ([(⟨0, 1, 1⟩ : LitD)])] .bool .int fun p2 p3 =>
 Call1 Tryz.prog f_cordonlaw_two [] .mdl fun c4 =>
 Call2 Tryz.prog f_proof_Unit [dM c4, .sl (.list .lit) ([[(⟨0, 1, 1⟩ : LitD)]]), .sl .lit ([(⟨0, 4, 2⟩ : LitD)])] .bool .int fun p5 p6 =>
 Call1 Tryz.prog f_cordonlaw_two [] .mdl fun c7 =>
 Call2 Tryz.prog f_proof_Check [dM c7, .sl (.list .lit) ([] : List (List LitD)), .sl .step ([(⟨1, 0, [(⟨0, 1, 1⟩ : LitD)]⟩ : StepD)])] .bool .int fun p8 p9 =>
 Call1 Tryz.prog f_cordonlaw_two [] .mdl fun c10 =>
 Call2 Tryz.prog f_proof_Check [dM c10, .sl (.list .lit) ([[(⟨0, 2, 2⟩ : LitD)]]), .sl .step ([(⟨1, 0, [(⟨0, 1, 1⟩ : LitD)]⟩ : StepD), (⟨2, 0, ([] : List LitD)⟩ : StepD)])] .bool .int fun p11 p12 =>
 sel (decide (p3 = 0))
 (sel (decide (p6 = 0))
 (sel (decide (p9 = 0))
 (sel (decide (p12 = 0))
 (sel p2
 (sel p5
 (sel (!p8)
 (R (dB p11))
 (R (dB false)))
 (R (dB false)))
 (R (dB false)))
 (R (dB false)))
 (R (dB false)))
 (R (dB false)))
 (R (dB false))) := by kernel_rfl
theorem cordonlaw_proofBegun_sat {r : D}  (h : (∀ d ∈ [], okD d) → fnD Tryz.prog Ev cordonlaw_proofBegun_A Tryz.f38.results.toList (bodyOf Tryz.f38) [] fun d => d = r) : Sat Tryz.prog f_cordonlaw_proofBegun [] r := by
  have h2 := sat_of (r := r) (args := []) (A := cordonlaw_proofBegun_A) (fn := Tryz.f38) (body := bodyOf Tryz.f38) (f := f_cordonlaw_proofBegun) factsEv Tryz.func38 (by kernel_rfl) (by rw [Tryz.ntmps38]; rfl) (by rw [Tryz.ntmps38]; exact Nat.le_of_ble_eq_true rfl)
  with_reducible exact h2 h
/-! ### cordon/cordonlaw.two -/
def cordonlaw_two_A : Ann := { own := [0], live := [], n := 9, nils := [], pubs := [] }
theorem cordonlaw_two_eq  (R : D → Prop) : fnD Tryz.prog Ev cordonlaw_two_A Tryz.f63.results.toList (bodyOf Tryz.f63) [] R =
 (R (.agg [.sl .var ([(⟨(⟨#[120]⟩ : ByteArray), 0, 2⟩ : VarD), (⟨(⟨#[121]⟩ : ByteArray), 0, 2⟩ : VarD)]), .sl .con ([(⟨1, [0, 1], [1, -1], -1, ([] : List (List Int)), ([] : List LitD)⟩ : ConD)]), dI 1, dI 1])) := by kernel_rfl
theorem cordonlaw_two_sat {r : D}  (h : (∀ d ∈ [], okD d) → fnD Tryz.prog Ev cordonlaw_two_A Tryz.f63.results.toList (bodyOf Tryz.f63) [] fun d => d = r) : Sat Tryz.prog f_cordonlaw_two [] r := by
  have h2 := sat_of (r := r) (args := []) (A := cordonlaw_two_A) (fn := Tryz.f63) (body := bodyOf Tryz.f63) (f := f_cordonlaw_two) factsEv Tryz.func63 (by kernel_rfl) (by rw [Tryz.ntmps63]; rfl) (by rw [Tryz.ntmps63]; exact Nat.le_of_ble_eq_true rfl)
  with_reducible exact h2 h
end Go.Proofs.YtgnjdgafkjohaaaGreat
