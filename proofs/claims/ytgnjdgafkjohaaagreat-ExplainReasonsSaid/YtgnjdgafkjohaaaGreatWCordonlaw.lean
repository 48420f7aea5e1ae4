/- What the functions of a package do, as equations of plain propositions: printed by a program that carries the code out on symbols. -/
import Derived.Test.YtgnjdgafkjohaaaGreatWEv
namespace Go.Proofs.YtgnjdgafkjohaaaGreat
open Go.RowKit
set_option linter.unusedVariables false
set_option maxRecDepth 100000
/-! ### cordon/cordonlaw.ExplainReasons -/
def cordonlaw_ExplainReasons_A : Ann := { own := [], live := [], n := 143, nils := [], pubs := [] }
theorem cordonlaw_ExplainReasons_eq (a0 : MdlD) (a1 : Int) (a2 : List (List Int)) (a3 : Int) (a4 : Int) (R : D → Prop) : fnD Tryz.prog Ev cordonlaw_ExplainReasons_A Tryz.f13.results.toList (bodyOf Tryz.f13) [dM a0, dI a1, dS a2, dI a3, dI a4] R =
 (Call3 Tryz.prog f_explain_Removed [dM a0, dI a1, dS a2, dI a3, dI a4] (.list .lit) .bool .int fun e1 e2 e3 =>
 Call1 Tryz.prog f_cordonlaw_checkStore [dM a0, dS a2] .int fun c4 =>
 sel (decide (c4 = 0))
 (sel (decide (a1 < 0))
 (sel (decide ((5 : Int) = 0))
 (sel (decide (a3 < 0))
 (Call1 Tryz.prog f_cordonlaw_explainBegun [] .bool fun c5 =>
 sel (!c5)
 (R (dB false))
 (Call1 Tryz.prog f_cordonlaw_filterBegun [] .bool fun c6 =>
 sel (!c6)
 (R (dB false))
 (Call1 Tryz.prog f_cordonlaw_proofBegun [] .bool fun c7 =>
 sel (!c7)
 (R (dB false))
 (Call1 Tryz.prog f_cordonlaw_litBegun [] .bool fun c8 =>
 sel (!c8)
 (R (dB false))
 (sel (!decide (e3 = 5))
 (R (dB false))
 (sel (!decide ((5 : Int) = 0))
 (sel (!e2)
 (R (dB (decide ((e1.length : Int) = 0))))
 (R (dB false)))
 (Call2 Tryz.prog f_filter_Filter [dM a0, dI a1, dS a2] (.list (.list .int)) .int fun f9 f10 =>
 sel (!decide (f10 = 0))
 (R (dB false))
 (sel (!decide ((f9.length : Int) = (a2.length : Int)))
 (R (dB false))
 (Call1 Tryz.prog f_cordonref_HasFailed [dS a2] .bool fun c11 =>
 sel (!c11)
 (inb a3 a2.length = true ∧
 Call1 Tryz.prog f_cordonref_HasInt [.sl .int (at' (.list .int) a2 a3.toNat), dI a4] .bool fun c12 =>
 sel c12
 (inb a3 f9.length = true ∧
 Call1 Tryz.prog f_cordonref_HasInt [.sl .int (at' (.list .int) f9 a3.toNat), dI a4] .bool fun c13 =>
 sel (!(e2 == (!c13)))
 (R (dB false))
 (sel (!e2)
 (sel (decide ((e1.length : Int) = 0))
 (R (dB true))
 (sel e2
 (Call1 Tryz.prog f_cordonlaw_reason [dM a0, dI a1, dS a2, .sl .lit e1, dB true, .agg [dI a3, dI 4, dI a4]] .bool fun c14 =>
 R (dB c14))
 (R (dB false))))
 (sel e2
 (Call1 Tryz.prog f_cordonlaw_reason [dM a0, dI a1, dS a2, .sl .lit e1, dB true, .agg [dI a3, dI 4, dI a4]] .bool fun c15 =>
 R (dB c15))
 (R (dB false)))))
 (sel (!(e2 == false))
 (R (dB false))
 (sel (!e2)
 (sel (decide ((e1.length : Int) = 0))
 (R (dB true))
 (sel e2
 (Call1 Tryz.prog f_cordonlaw_reason [dM a0, dI a1, dS a2, .sl .lit e1, dB true, .agg [dI a3, dI 4, dI a4]] .bool fun c16 =>
 R (dB c16))
 (R (dB false))))
 (sel e2
 (Call1 Tryz.prog f_cordonlaw_reason [dM a0, dI a1, dS a2, .sl .lit e1, dB true, .agg [dI a3, dI 4, dI a4]] .bool fun c17 =>
 R (dB c17))
 (R (dB false))))))
 (sel (!(e2 == false))
 (R (dB false))
 (sel (!e2)
 (sel (decide ((e1.length : Int) = 0))
 (R (dB true))
 (sel e2
 (Call1 Tryz.prog f_cordonlaw_reason [dM a0, dI a1, dS a2, .sl .lit e1, dB true, .agg [dI a3, dI 4, dI a4]] .bool fun c18 =>
 R (dB c18))
 (R (dB false))))
 (sel e2
 (Call1 Tryz.prog f_cordonlaw_reason [dM a0, dI a1, dS a2, .sl .lit e1, dB true, .agg [dI a3, dI 4, dI a4]] .bool fun c19 =>
 R (dB c19))
 (R (dB false))))))))))))))
 (sel (decide ((a0.vars.length : Int) ≤ a3))
 (Call1 Tryz.prog f_cordonlaw_explainBegun [] .bool fun c20 =>
 sel (!c20)
 (R (dB false))
 (Call1 Tryz.prog f_cordonlaw_filterBegun [] .bool fun c21 =>
 sel (!c21)
 (R (dB false))
 (Call1 Tryz.prog f_cordonlaw_proofBegun [] .bool fun c22 =>
 sel (!c22)
 (R (dB false))
 (Call1 Tryz.prog f_cordonlaw_litBegun [] .bool fun c23 =>
 sel (!c23)
 (R (dB false))
 (sel (!decide (e3 = 5))
 (R (dB false))
 (sel (!decide ((5 : Int) = 0))
 (sel (!e2)
 (R (dB (decide ((e1.length : Int) = 0))))
 (R (dB false)))
 (Call2 Tryz.prog f_filter_Filter [dM a0, dI a1, dS a2] (.list (.list .int)) .int fun f24 f25 =>
 sel (!decide (f25 = 0))
 (R (dB false))
 (sel (!decide ((f24.length : Int) = (a2.length : Int)))
 (R (dB false))
 (Call1 Tryz.prog f_cordonref_HasFailed [dS a2] .bool fun c26 =>
 sel (!c26)
 (inb a3 a2.length = true ∧
 Call1 Tryz.prog f_cordonref_HasInt [.sl .int (at' (.list .int) a2 a3.toNat), dI a4] .bool fun c27 =>
 sel c27
 (inb a3 f24.length = true ∧
 Call1 Tryz.prog f_cordonref_HasInt [.sl .int (at' (.list .int) f24 a3.toNat), dI a4] .bool fun c28 =>
 sel (!(e2 == (!c28)))
 (R (dB false))
 (sel (!e2)
 (sel (decide ((e1.length : Int) = 0))
 (R (dB true))
 (sel e2
 (Call1 Tryz.prog f_cordonlaw_reason [dM a0, dI a1, dS a2, .sl .lit e1, dB true, .agg [dI a3, dI 4, dI a4]] .bool fun c29 =>
 R (dB c29))
 (R (dB false))))
 (sel e2
 (Call1 Tryz.prog f_cordonlaw_reason [dM a0, dI a1, dS a2, .sl .lit e1, dB true, .agg [dI a3, dI 4, dI a4]] .bool fun c30 =>
 R (dB c30))
 (R (dB false)))))
 (sel (!(e2 == false))
 (R (dB false))
 (sel (!e2)
 (sel (decide ((e1.length : Int) = 0))
 (R (dB true))
 (sel e2
 (Call1 Tryz.prog f_cordonlaw_reason [dM a0, dI a1, dS a2, .sl .lit e1, dB true, .agg [dI a3, dI 4, dI a4]] .bool fun c31 =>
 R (dB c31))
 (R (dB false))))
 (sel e2
 (Call1 Tryz.prog f_cordonlaw_reason [dM a0, dI a1, dS a2, .sl .lit e1, dB true, .agg [dI a3, dI 4, dI a4]] .bool fun c32 =>
 R (dB c32))
 (R (dB false))))))
 (sel (!(e2 == false))
 (R (dB false))
 (sel (!e2)
 (sel (decide ((e1.length : Int) = 0))
 (R (dB true))
 (sel e2
 (Call1 Tryz.prog f_cordonlaw_reason [dM a0, dI a1, dS a2, .sl .lit e1, dB true, .agg [dI a3, dI 4, dI a4]] .bool fun c33 =>
 R (dB c33))
 (R (dB false))))
 (sel e2
 (Call1 Tryz.prog f_cordonlaw_reason [dM a0, dI a1, dS a2, .sl .lit e1, dB true, .agg [dI a3, dI 4, dI a4]] .bool fun c34 =>
 R (dB c34))
 (R (dB false))))))))))))))
 (Call1 Tryz.prog f_cordonlaw_explainBegun [] .bool fun c35 =>
 sel (!c35)
 (R (dB false))
 (Call1 Tryz.prog f_cordonlaw_filterBegun [] .bool fun c36 =>
 sel (!c36)
 (R (dB false))
 (Call1 Tryz.prog f_cordonlaw_proofBegun [] .bool fun c37 =>
 sel (!c37)
 (R (dB false))
 (Call1 Tryz.prog f_cordonlaw_litBegun [] .bool fun c38 =>
 sel (!c38)
 (R (dB false))
 (sel (!decide (e3 = 5))
 (R (dB false))
 (sel (!decide ((5 : Int) = 0))
 (sel (!e2)
 (R (dB (decide ((e1.length : Int) = 0))))
 (R (dB false)))
 (Call2 Tryz.prog f_filter_Filter [dM a0, dI a1, dS a2] (.list (.list .int)) .int fun f39 f40 =>
 sel (!decide (f40 = 0))
 (R (dB false))
 (sel (!decide ((f39.length : Int) = (a2.length : Int)))
 (R (dB false))
 (Call1 Tryz.prog f_cordonref_HasFailed [dS a2] .bool fun c41 =>
 sel (!c41)
 (inb a3 a2.length = true ∧
 Call1 Tryz.prog f_cordonref_HasInt [.sl .int (at' (.list .int) a2 a3.toNat), dI a4] .bool fun c42 =>
 sel c42
 (inb a3 f39.length = true ∧
 Call1 Tryz.prog f_cordonref_HasInt [.sl .int (at' (.list .int) f39 a3.toNat), dI a4] .bool fun c43 =>
 sel (!(e2 == (!c43)))
 (R (dB false))
 (sel (!e2)
 (sel (decide ((e1.length : Int) = 0))
 (R (dB true))
 (sel e2
 (Call1 Tryz.prog f_cordonlaw_reason [dM a0, dI a1, dS a2, .sl .lit e1, dB true, .agg [dI a3, dI 4, dI a4]] .bool fun c44 =>
 R (dB c44))
 (R (dB false))))
 (sel e2
 (Call1 Tryz.prog f_cordonlaw_reason [dM a0, dI a1, dS a2, .sl .lit e1, dB true, .agg [dI a3, dI 4, dI a4]] .bool fun c45 =>
 R (dB c45))
 (R (dB false)))))
 (sel (!(e2 == false))
 (R (dB false))
 (sel (!e2)
 (sel (decide ((e1.length : Int) = 0))
 (R (dB true))
 (sel e2
 (Call1 Tryz.prog f_cordonlaw_reason [dM a0, dI a1, dS a2, .sl .lit e1, dB true, .agg [dI a3, dI 4, dI a4]] .bool fun c46 =>
 R (dB c46))
 (R (dB false))))
 (sel e2
 (Call1 Tryz.prog f_cordonlaw_reason [dM a0, dI a1, dS a2, .sl .lit e1, dB true, .agg [dI a3, dI 4, dI a4]] .bool fun c47 =>
 R (dB c47))
 (R (dB false))))))
 (sel (!(e2 == false))
 (R (dB false))
 (sel (!e2)
 (sel (decide ((e1.length : Int) = 0))
 (R (dB true))
 (sel e2
 (Call1 Tryz.prog f_cordonlaw_reason [dM a0, dI a1, dS a2, .sl .lit e1, dB true, .agg [dI a3, dI 4, dI a4]] .bool fun c48 =>
 R (dB c48))
 (R (dB false))))
 (sel e2
 (Call1 Tryz.prog f_cordonlaw_reason [dM a0, dI a1, dS a2, .sl .lit e1, dB true, .agg [dI a3, dI 4, dI a4]] .bool fun c49 =>
 R (dB c49))
 (R (dB false))))))))))))))))
 (Call1 Tryz.prog f_cordonlaw_explainBegun [] .bool fun c50 =>
 sel (!c50)
 (R (dB false))
 (Call1 Tryz.prog f_cordonlaw_filterBegun [] .bool fun c51 =>
 sel (!c51)
 (R (dB false))
 (Call1 Tryz.prog f_cordonlaw_proofBegun [] .bool fun c52 =>
 sel (!c52)
 (R (dB false))
 (Call1 Tryz.prog f_cordonlaw_litBegun [] .bool fun c53 =>
 sel (!c53)
 (R (dB false))
 (sel (!decide (e3 = 5))
 (R (dB false))
 (sel (!decide ((5 : Int) = 0))
 (sel (!e2)
 (R (dB (decide ((e1.length : Int) = 0))))
 (R (dB false)))
 (Call2 Tryz.prog f_filter_Filter [dM a0, dI a1, dS a2] (.list (.list .int)) .int fun f54 f55 =>
 sel (!decide (f55 = 0))
 (R (dB false))
 (sel (!decide ((f54.length : Int) = (a2.length : Int)))
 (R (dB false))
 (Call1 Tryz.prog f_cordonref_HasFailed [dS a2] .bool fun c56 =>
 sel (!c56)
 (inb a3 a2.length = true ∧
 Call1 Tryz.prog f_cordonref_HasInt [.sl .int (at' (.list .int) a2 a3.toNat), dI a4] .bool fun c57 =>
 sel c57
 (inb a3 f54.length = true ∧
 Call1 Tryz.prog f_cordonref_HasInt [.sl .int (at' (.list .int) f54 a3.toNat), dI a4] .bool fun c58 =>
 sel (!(e2 == (!c58)))
 (R (dB false))
 (sel (!e2)
 (sel (decide ((e1.length : Int) = 0))
 (R (dB true))
 (sel e2
 (Call1 Tryz.prog f_cordonlaw_reason [dM a0, dI a1, dS a2, .sl .lit e1, dB true, .agg [dI a3, dI 4, dI a4]] .bool fun c59 =>
 R (dB c59))
 (R (dB false))))
 (sel e2
 (Call1 Tryz.prog f_cordonlaw_reason [dM a0, dI a1, dS a2, .sl .lit e1, dB true, .agg [dI a3, dI 4, dI a4]] .bool fun c60 =>
 R (dB c60))
 (R (dB false)))))
 (sel (!(e2 == false))
 (R (dB false))
 (sel (!e2)
 (sel (decide ((e1.length : Int) = 0))
 (R (dB true))
 (sel e2
 (Call1 Tryz.prog f_cordonlaw_reason [dM a0, dI a1, dS a2, .sl .lit e1, dB true, .agg [dI a3, dI 4, dI a4]] .bool fun c61 =>
 R (dB c61))
 (R (dB false))))
 (sel e2
 (Call1 Tryz.prog f_cordonlaw_reason [dM a0, dI a1, dS a2, .sl .lit e1, dB true, .agg [dI a3, dI 4, dI a4]] .bool fun c62 =>
 R (dB c62))
 (R (dB false))))))
 (sel (!(e2 == false))
 (R (dB false))
 (sel (!e2)
 (sel (decide ((e1.length : Int) = 0))
 (R (dB true))
 (sel e2
 (Call1 Tryz.prog f_cordonlaw_reason [dM a0, dI a1, dS a2, .sl .lit e1, dB true, .agg [dI a3, dI 4, dI a4]] .bool fun c63 =>
 R (dB c63))
 (R (dB false))))
 (sel e2
 (Call1 Tryz.prog f_cordonlaw_reason [dM a0, dI a1, dS a2, .sl .lit e1, dB true, .agg [dI a3, dI 4, dI a4]] .bool fun c64 =>
 R (dB c64))
 (R (dB false)))))))))))))))
 (sel (decide ((a0.cons.length : Int) ≤ a1))
 (sel (decide ((5 : Int) = 0))
 (sel (decide (a3 < 0))
 (Call1 Tryz.prog f_cordonlaw_explainBegun [] .bool fun c65 =>
 sel (!c65)
 (R (dB false))
 (Call1 Tryz.prog f_cordonlaw_filterBegun [] .bool fun c66 =>
 sel (!c66)
 (R (dB false))
 (Call1 Tryz.prog f_cordonlaw_proofBegun [] .bool fun c67 =>
 sel (!c67)
 (R (dB false))
 (Call1 Tryz.prog f_cordonlaw_litBegun [] .bool fun c68 =>
 sel (!c68)
 (R (dB false))
 (sel (!decide (e3 = 5))
 (R (dB false))
 (sel (!decide ((5 : Int) = 0))
 (sel (!e2)
 (R (dB (decide ((e1.length : Int) = 0))))
 (R (dB false)))
 (Call2 Tryz.prog f_filter_Filter [dM a0, dI a1, dS a2] (.list (.list .int)) .int fun f69 f70 =>
 sel (!decide (f70 = 0))
 (R (dB false))
 (sel (!decide ((f69.length : Int) = (a2.length : Int)))
 (R (dB false))
 (Call1 Tryz.prog f_cordonref_HasFailed [dS a2] .bool fun c71 =>
 sel (!c71)
 (inb a3 a2.length = true ∧
 Call1 Tryz.prog f_cordonref_HasInt [.sl .int (at' (.list .int) a2 a3.toNat), dI a4] .bool fun c72 =>
 sel c72
 (inb a3 f69.length = true ∧
 Call1 Tryz.prog f_cordonref_HasInt [.sl .int (at' (.list .int) f69 a3.toNat), dI a4] .bool fun c73 =>
 sel (!(e2 == (!c73)))
 (R (dB false))
 (sel (!e2)
 (sel (decide ((e1.length : Int) = 0))
 (R (dB true))
 (sel e2
 (Call1 Tryz.prog f_cordonlaw_reason [dM a0, dI a1, dS a2, .sl .lit e1, dB true, .agg [dI a3, dI 4, dI a4]] .bool fun c74 =>
 R (dB c74))
 (R (dB false))))
 (sel e2
 (Call1 Tryz.prog f_cordonlaw_reason [dM a0, dI a1, dS a2, .sl .lit e1, dB true, .agg [dI a3, dI 4, dI a4]] .bool fun c75 =>
 R (dB c75))
 (R (dB false)))))
 (sel (!(e2 == false))
 (R (dB false))
 (sel (!e2)
 (sel (decide ((e1.length : Int) = 0))
 (R (dB true))
 (sel e2
 (Call1 Tryz.prog f_cordonlaw_reason [dM a0, dI a1, dS a2, .sl .lit e1, dB true, .agg [dI a3, dI 4, dI a4]] .bool fun c76 =>
 R (dB c76))
 (R (dB false))))
 (sel e2
 (Call1 Tryz.prog f_cordonlaw_reason [dM a0, dI a1, dS a2, .sl .lit e1, dB true, .agg [dI a3, dI 4, dI a4]] .bool fun c77 =>
 R (dB c77))
 (R (dB false))))))
 (sel (!(e2 == false))
 (R (dB false))
 (sel (!e2)
 (sel (decide ((e1.length : Int) = 0))
 (R (dB true))
 (sel e2
 (Call1 Tryz.prog f_cordonlaw_reason [dM a0, dI a1, dS a2, .sl .lit e1, dB true, .agg [dI a3, dI 4, dI a4]] .bool fun c78 =>
 R (dB c78))
 (R (dB false))))
 (sel e2
 (Call1 Tryz.prog f_cordonlaw_reason [dM a0, dI a1, dS a2, .sl .lit e1, dB true, .agg [dI a3, dI 4, dI a4]] .bool fun c79 =>
 R (dB c79))
 (R (dB false))))))))))))))
 (sel (decide ((a0.vars.length : Int) ≤ a3))
 (Call1 Tryz.prog f_cordonlaw_explainBegun [] .bool fun c80 =>
 sel (!c80)
 (R (dB false))
 (Call1 Tryz.prog f_cordonlaw_filterBegun [] .bool fun c81 =>
 sel (!c81)
 (R (dB false))
 (Call1 Tryz.prog f_cordonlaw_proofBegun [] .bool fun c82 =>
 sel (!c82)
 (R (dB false))
 (Call1 Tryz.prog f_cordonlaw_litBegun [] .bool fun c83 =>
 sel (!c83)
 (R (dB false))
 (sel (!decide (e3 = 5))
 (R (dB false))
 (sel (!decide ((5 : Int) = 0))
 (sel (!e2)
 (R (dB (decide ((e1.length : Int) = 0))))
 (R (dB false)))
 (Call2 Tryz.prog f_filter_Filter [dM a0, dI a1, dS a2] (.list (.list .int)) .int fun f84 f85 =>
 sel (!decide (f85 = 0))
 (R (dB false))
 (sel (!decide ((f84.length : Int) = (a2.length : Int)))
 (R (dB false))
 (Call1 Tryz.prog f_cordonref_HasFailed [dS a2] .bool fun c86 =>
 sel (!c86)
 (inb a3 a2.length = true ∧
 Call1 Tryz.prog f_cordonref_HasInt [.sl .int (at' (.list .int) a2 a3.toNat), dI a4] .bool fun c87 =>
 sel c87
 (inb a3 f84.length = true ∧
 Call1 Tryz.prog f_cordonref_HasInt [.sl .int (at' (.list .int) f84 a3.toNat), dI a4] .bool fun c88 =>
 sel (!(e2 == (!c88)))
 (R (dB false))
 (sel (!e2)
 (sel (decide ((e1.length : Int) = 0))
 (R (dB true))
 (sel e2
 (Call1 Tryz.prog f_cordonlaw_reason [dM a0, dI a1, dS a2, .sl .lit e1, dB true, .agg [dI a3, dI 4, dI a4]] .bool fun c89 =>
 R (dB c89))
 (R (dB false))))
 (sel e2
 (Call1 Tryz.prog f_cordonlaw_reason [dM a0, dI a1, dS a2, .sl .lit e1, dB true, .agg [dI a3, dI 4, dI a4]] .bool fun c90 =>
 R (dB c90))
 (R (dB false)))))
 (sel (!(e2 == false))
 (R (dB false))
 (sel (!e2)
 (sel (decide ((e1.length : Int) = 0))
 (R (dB true))
 (sel e2
 (Call1 Tryz.prog f_cordonlaw_reason [dM a0, dI a1, dS a2, .sl .lit e1, dB true, .agg [dI a3, dI 4, dI a4]] .bool fun c91 =>
 R (dB c91))
 (R (dB false))))
 (sel e2
 (Call1 Tryz.prog f_cordonlaw_reason [dM a0, dI a1, dS a2, .sl .lit e1, dB true, .agg [dI a3, dI 4, dI a4]] .bool fun c92 =>
 R (dB c92))
 (R (dB false))))))
 (sel (!(e2 == false))
 (R (dB false))
 (sel (!e2)
 (sel (decide ((e1.length : Int) = 0))
 (R (dB true))
 (sel e2
 (Call1 Tryz.prog f_cordonlaw_reason [dM a0, dI a1, dS a2, .sl .lit e1, dB true, .agg [dI a3, dI 4, dI a4]] .bool fun c93 =>
 R (dB c93))
 (R (dB false))))
 (sel e2
 (Call1 Tryz.prog f_cordonlaw_reason [dM a0, dI a1, dS a2, .sl .lit e1, dB true, .agg [dI a3, dI 4, dI a4]] .bool fun c94 =>
 R (dB c94))
 (R (dB false))))))))))))))
 (Call1 Tryz.prog f_cordonlaw_explainBegun [] .bool fun c95 =>
 sel (!c95)
 (R (dB false))
 (Call1 Tryz.prog f_cordonlaw_filterBegun [] .bool fun c96 =>
 sel (!c96)
 (R (dB false))
 (Call1 Tryz.prog f_cordonlaw_proofBegun [] .bool fun c97 =>
 sel (!c97)
 (R (dB false))
 (Call1 Tryz.prog f_cordonlaw_litBegun [] .bool fun c98 =>
 sel (!c98)
 (R (dB false))
 (sel (!decide (e3 = 5))
 (R (dB false))
 (sel (!decide ((5 : Int) = 0))
 (sel (!e2)
 (R (dB (decide ((e1.length : Int) = 0))))
 (R (dB false)))
 (Call2 Tryz.prog f_filter_Filter [dM a0, dI a1, dS a2] (.list (.list .int)) .int fun f99 f100 =>
 sel (!decide (f100 = 0))
 (R (dB false))
 (sel (!decide ((f99.length : Int) = (a2.length : Int)))
 (R (dB false))
 (Call1 Tryz.prog f_cordonref_HasFailed [dS a2] .bool fun c101 =>
 sel (!c101)
 (inb a3 a2.length = true ∧
 Call1 Tryz.prog f_cordonref_HasInt [.sl .int (at' (.list .int) a2 a3.toNat), dI a4] .bool fun c102 =>
 sel c102
 (inb a3 f99.length = true ∧
 Call1 Tryz.prog f_cordonref_HasInt [.sl .int (at' (.list .int) f99 a3.toNat), dI a4] .bool fun c103 =>
 sel (!(e2 == (!c103)))
 (R (dB false))
 (sel (!e2)
 (sel (decide ((e1.length : Int) = 0))
 (R (dB true))
 (sel e2
 (Call1 Tryz.prog f_cordonlaw_reason [dM a0, dI a1, dS a2, .sl .lit e1, dB true, .agg [dI a3, dI 4, dI a4]] .bool fun c104 =>
 R (dB c104))
 (R (dB false))))
 (sel e2
 (Call1 Tryz.prog f_cordonlaw_reason [dM a0, dI a1, dS a2, .sl .lit e1, dB true, .agg [dI a3, dI 4, dI a4]] .bool fun c105 =>
 R (dB c105))
 (R (dB false)))))
 (sel (!(e2 == false))
 (R (dB false))
 (sel (!e2)
 (sel (decide ((e1.length : Int) = 0))
 (R (dB true))
 (sel e2
 (Call1 Tryz.prog f_cordonlaw_reason [dM a0, dI a1, dS a2, .sl .lit e1, dB true, .agg [dI a3, dI 4, dI a4]] .bool fun c106 =>
 R (dB c106))
 (R (dB false))))
 (sel e2
 (Call1 Tryz.prog f_cordonlaw_reason [dM a0, dI a1, dS a2, .sl .lit e1, dB true, .agg [dI a3, dI 4, dI a4]] .bool fun c107 =>
 R (dB c107))
 (R (dB false))))))
 (sel (!(e2 == false))
 (R (dB false))
 (sel (!e2)
 (sel (decide ((e1.length : Int) = 0))
 (R (dB true))
 (sel e2
 (Call1 Tryz.prog f_cordonlaw_reason [dM a0, dI a1, dS a2, .sl .lit e1, dB true, .agg [dI a3, dI 4, dI a4]] .bool fun c108 =>
 R (dB c108))
 (R (dB false))))
 (sel e2
 (Call1 Tryz.prog f_cordonlaw_reason [dM a0, dI a1, dS a2, .sl .lit e1, dB true, .agg [dI a3, dI 4, dI a4]] .bool fun c109 =>
 R (dB c109))
 (R (dB false))))))))))))))))
 (Call1 Tryz.prog f_cordonlaw_explainBegun [] .bool fun c110 =>
 sel (!c110)
 (R (dB false))
 (Call1 Tryz.prog f_cordonlaw_filterBegun [] .bool fun c111 =>
 sel (!c111)
 (R (dB false))
 (Call1 Tryz.prog f_cordonlaw_proofBegun [] .bool fun c112 =>
 sel (!c112)
 (R (dB false))
 (Call1 Tryz.prog f_cordonlaw_litBegun [] .bool fun c113 =>
 sel (!c113)
 (R (dB false))
 (sel (!decide (e3 = 5))
 (R (dB false))
 (sel (!decide ((5 : Int) = 0))
 (sel (!e2)
 (R (dB (decide ((e1.length : Int) = 0))))
 (R (dB false)))
 (Call2 Tryz.prog f_filter_Filter [dM a0, dI a1, dS a2] (.list (.list .int)) .int fun f114 f115 =>
 sel (!decide (f115 = 0))
 (R (dB false))
 (sel (!decide ((f114.length : Int) = (a2.length : Int)))
 (R (dB false))
 (Call1 Tryz.prog f_cordonref_HasFailed [dS a2] .bool fun c116 =>
 sel (!c116)
 (inb a3 a2.length = true ∧
 Call1 Tryz.prog f_cordonref_HasInt [.sl .int (at' (.list .int) a2 a3.toNat), dI a4] .bool fun c117 =>
 sel c117
 (inb a3 f114.length = true ∧
 Call1 Tryz.prog f_cordonref_HasInt [.sl .int (at' (.list .int) f114 a3.toNat), dI a4] .bool fun c118 =>
 sel (!(e2 == (!c118)))
 (R (dB false))
 (sel (!e2)
 (sel (decide ((e1.length : Int) = 0))
 (R (dB true))
 (sel e2
 (Call1 Tryz.prog f_cordonlaw_reason [dM a0, dI a1, dS a2, .sl .lit e1, dB true, .agg [dI a3, dI 4, dI a4]] .bool fun c119 =>
 R (dB c119))
 (R (dB false))))
 (sel e2
 (Call1 Tryz.prog f_cordonlaw_reason [dM a0, dI a1, dS a2, .sl .lit e1, dB true, .agg [dI a3, dI 4, dI a4]] .bool fun c120 =>
 R (dB c120))
 (R (dB false)))))
 (sel (!(e2 == false))
 (R (dB false))
 (sel (!e2)
 (sel (decide ((e1.length : Int) = 0))
 (R (dB true))
 (sel e2
 (Call1 Tryz.prog f_cordonlaw_reason [dM a0, dI a1, dS a2, .sl .lit e1, dB true, .agg [dI a3, dI 4, dI a4]] .bool fun c121 =>
 R (dB c121))
 (R (dB false))))
 (sel e2
 (Call1 Tryz.prog f_cordonlaw_reason [dM a0, dI a1, dS a2, .sl .lit e1, dB true, .agg [dI a3, dI 4, dI a4]] .bool fun c122 =>
 R (dB c122))
 (R (dB false))))))
 (sel (!(e2 == false))
 (R (dB false))
 (sel (!e2)
 (sel (decide ((e1.length : Int) = 0))
 (R (dB true))
 (sel e2
 (Call1 Tryz.prog f_cordonlaw_reason [dM a0, dI a1, dS a2, .sl .lit e1, dB true, .agg [dI a3, dI 4, dI a4]] .bool fun c123 =>
 R (dB c123))
 (R (dB false))))
 (sel e2
 (Call1 Tryz.prog f_cordonlaw_reason [dM a0, dI a1, dS a2, .sl .lit e1, dB true, .agg [dI a3, dI 4, dI a4]] .bool fun c124 =>
 R (dB c124))
 (R (dB false)))))))))))))))
 (sel (decide (c4 = 0))
 (sel (decide (a3 < 0))
 (Call1 Tryz.prog f_cordonlaw_explainBegun [] .bool fun c125 =>
 sel (!c125)
 (R (dB false))
 (Call1 Tryz.prog f_cordonlaw_filterBegun [] .bool fun c126 =>
 sel (!c126)
 (R (dB false))
 (Call1 Tryz.prog f_cordonlaw_proofBegun [] .bool fun c127 =>
 sel (!c127)
 (R (dB false))
 (Call1 Tryz.prog f_cordonlaw_litBegun [] .bool fun c128 =>
 sel (!c128)
 (R (dB false))
 (sel (!decide (e3 = 5))
 (R (dB false))
 (sel (!decide ((5 : Int) = 0))
 (sel (!e2)
 (R (dB (decide ((e1.length : Int) = 0))))
 (R (dB false)))
 (Call2 Tryz.prog f_filter_Filter [dM a0, dI a1, dS a2] (.list (.list .int)) .int fun f129 f130 =>
 sel (!decide (f130 = 0))
 (R (dB false))
 (sel (!decide ((f129.length : Int) = (a2.length : Int)))
 (R (dB false))
 (Call1 Tryz.prog f_cordonref_HasFailed [dS a2] .bool fun c131 =>
 sel (!c131)
 (inb a3 a2.length = true ∧
 Call1 Tryz.prog f_cordonref_HasInt [.sl .int (at' (.list .int) a2 a3.toNat), dI a4] .bool fun c132 =>
 sel c132
 (inb a3 f129.length = true ∧
 Call1 Tryz.prog f_cordonref_HasInt [.sl .int (at' (.list .int) f129 a3.toNat), dI a4] .bool fun c133 =>
 sel (!(e2 == (!c133)))
 (R (dB false))
 (sel (!e2)
 (sel (decide ((e1.length : Int) = 0))
 (R (dB true))
 (sel e2
 (Call1 Tryz.prog f_cordonlaw_reason [dM a0, dI a1, dS a2, .sl .lit e1, dB true, .agg [dI a3, dI 4, dI a4]] .bool fun c134 =>
 R (dB c134))
 (R (dB false))))
 (sel e2
 (Call1 Tryz.prog f_cordonlaw_reason [dM a0, dI a1, dS a2, .sl .lit e1, dB true, .agg [dI a3, dI 4, dI a4]] .bool fun c135 =>
 R (dB c135))
 (R (dB false)))))
 (sel (!(e2 == false))
 (R (dB false))
 (sel (!e2)
 (sel (decide ((e1.length : Int) = 0))
 (R (dB true))
 (sel e2
 (Call1 Tryz.prog f_cordonlaw_reason [dM a0, dI a1, dS a2, .sl .lit e1, dB true, .agg [dI a3, dI 4, dI a4]] .bool fun c136 =>
 R (dB c136))
 (R (dB false))))
 (sel e2
 (Call1 Tryz.prog f_cordonlaw_reason [dM a0, dI a1, dS a2, .sl .lit e1, dB true, .agg [dI a3, dI 4, dI a4]] .bool fun c137 =>
 R (dB c137))
 (R (dB false))))))
 (sel (!(e2 == false))
 (R (dB false))
 (sel (!e2)
 (sel (decide ((e1.length : Int) = 0))
 (R (dB true))
 (sel e2
 (Call1 Tryz.prog f_cordonlaw_reason [dM a0, dI a1, dS a2, .sl .lit e1, dB true, .agg [dI a3, dI 4, dI a4]] .bool fun c138 =>
 R (dB c138))
 (R (dB false))))
 (sel e2
 (Call1 Tryz.prog f_cordonlaw_reason [dM a0, dI a1, dS a2, .sl .lit e1, dB true, .agg [dI a3, dI 4, dI a4]] .bool fun c139 =>
 R (dB c139))
 (R (dB false))))))))))))))
 (sel (decide ((a0.vars.length : Int) ≤ a3))
 (Call1 Tryz.prog f_cordonlaw_explainBegun [] .bool fun c140 =>
 sel (!c140)
 (R (dB false))
 (Call1 Tryz.prog f_cordonlaw_filterBegun [] .bool fun c141 =>
 sel (!c141)
 (R (dB false))
 (Call1 Tryz.prog f_cordonlaw_proofBegun [] .bool fun c142 =>
 sel (!c142)
 (R (dB false))
 (Call1 Tryz.prog f_cordonlaw_litBegun [] .bool fun c143 =>
 sel (!c143)
 (R (dB false))
 (sel (!decide (e3 = 5))
 (R (dB false))
 (sel (!decide ((5 : Int) = 0))
 (sel (!e2)
 (R (dB (decide ((e1.length : Int) = 0))))
 (R (dB false)))
 (Call2 Tryz.prog f_filter_Filter [dM a0, dI a1, dS a2] (.list (.list .int)) .int fun f144 f145 =>
 sel (!decide (f145 = 0))
 (R (dB false))
 (sel (!decide ((f144.length : Int) = (a2.length : Int)))
 (R (dB false))
 (Call1 Tryz.prog f_cordonref_HasFailed [dS a2] .bool fun c146 =>
 sel (!c146)
 (inb a3 a2.length = true ∧
 Call1 Tryz.prog f_cordonref_HasInt [.sl .int (at' (.list .int) a2 a3.toNat), dI a4] .bool fun c147 =>
 sel c147
 (inb a3 f144.length = true ∧
 Call1 Tryz.prog f_cordonref_HasInt [.sl .int (at' (.list .int) f144 a3.toNat), dI a4] .bool fun c148 =>
 sel (!(e2 == (!c148)))
 (R (dB false))
 (sel (!e2)
 (sel (decide ((e1.length : Int) = 0))
 (R (dB true))
 (sel e2
 (Call1 Tryz.prog f_cordonlaw_reason [dM a0, dI a1, dS a2, .sl .lit e1, dB true, .agg [dI a3, dI 4, dI a4]] .bool fun c149 =>
 R (dB c149))
 (R (dB false))))
 (sel e2
 (Call1 Tryz.prog f_cordonlaw_reason [dM a0, dI a1, dS a2, .sl .lit e1, dB true, .agg [dI a3, dI 4, dI a4]] .bool fun c150 =>
 R (dB c150))
 (R (dB false)))))
 (sel (!(e2 == false))
 (R (dB false))
 (sel (!e2)
 (sel (decide ((e1.length : Int) = 0))
 (R (dB true))
 (sel e2
 (Call1 Tryz.prog f_cordonlaw_reason [dM a0, dI a1, dS a2, .sl .lit e1, dB true, .agg [dI a3, dI 4, dI a4]] .bool fun c151 =>
 R (dB c151))
 (R (dB false))))
 (sel e2
 (Call1 Tryz.prog f_cordonlaw_reason [dM a0, dI a1, dS a2, .sl .lit e1, dB true, .agg [dI a3, dI 4, dI a4]] .bool fun c152 =>
 R (dB c152))
 (R (dB false))))))
 (sel (!(e2 == false))
 (R (dB false))
 (sel (!e2)
 (sel (decide ((e1.length : Int) = 0))
 (R (dB true))
 (sel e2
 (Call1 Tryz.prog f_cordonlaw_reason [dM a0, dI a1, dS a2, .sl .lit e1, dB true, .agg [dI a3, dI 4, dI a4]] .bool fun c153 =>
 R (dB c153))
 (R (dB false))))
 (sel e2
 (Call1 Tryz.prog f_cordonlaw_reason [dM a0, dI a1, dS a2, .sl .lit e1, dB true, .agg [dI a3, dI 4, dI a4]] .bool fun c154 =>
 R (dB c154))
 (R (dB false))))))))))))))
 (Call1 Tryz.prog f_cordonlaw_explainBegun [] .bool fun c155 =>
 sel (!c155)
 (R (dB false))
 (Call1 Tryz.prog f_cordonlaw_filterBegun [] .bool fun c156 =>
 sel (!c156)
 (R (dB false))
 (Call1 Tryz.prog f_cordonlaw_proofBegun [] .bool fun c157 =>
 sel (!c157)
 (R (dB false))
 (Call1 Tryz.prog f_cordonlaw_litBegun [] .bool fun c158 =>
 sel (!c158)
 (R (dB false))
 (sel (!decide (e3 = c4))
 (R (dB false))
 (sel (!decide (c4 = 0))
 (sel (!e2)
 (R (dB (decide ((e1.length : Int) = 0))))
 (R (dB false)))
 (Call2 Tryz.prog f_filter_Filter [dM a0, dI a1, dS a2] (.list (.list .int)) .int fun f159 f160 =>
 sel (!decide (f160 = 0))
 (R (dB false))
 (sel (!decide ((f159.length : Int) = (a2.length : Int)))
 (R (dB false))
 (Call1 Tryz.prog f_cordonref_HasFailed [dS a2] .bool fun c161 =>
 sel (!c161)
 (inb a3 a2.length = true ∧
 Call1 Tryz.prog f_cordonref_HasInt [.sl .int (at' (.list .int) a2 a3.toNat), dI a4] .bool fun c162 =>
 sel c162
 (inb a3 f159.length = true ∧
 Call1 Tryz.prog f_cordonref_HasInt [.sl .int (at' (.list .int) f159 a3.toNat), dI a4] .bool fun c163 =>
 sel (!(e2 == (!c163)))
 (R (dB false))
 (sel (!e2)
 (sel (decide ((e1.length : Int) = 0))
 (R (dB true))
 (sel e2
 (Call1 Tryz.prog f_cordonlaw_reason [dM a0, dI a1, dS a2, .sl .lit e1, dB true, .agg [dI a3, dI 4, dI a4]] .bool fun c164 =>
 R (dB c164))
 (R (dB false))))
 (sel e2
 (Call1 Tryz.prog f_cordonlaw_reason [dM a0, dI a1, dS a2, .sl .lit e1, dB true, .agg [dI a3, dI 4, dI a4]] .bool fun c165 =>
 R (dB c165))
 (R (dB false)))))
 (sel (!(e2 == false))
 (R (dB false))
 (sel (!e2)
 (sel (decide ((e1.length : Int) = 0))
 (R (dB true))
 (sel e2
 (Call1 Tryz.prog f_cordonlaw_reason [dM a0, dI a1, dS a2, .sl .lit e1, dB true, .agg [dI a3, dI 4, dI a4]] .bool fun c166 =>
 R (dB c166))
 (R (dB false))))
 (sel e2
 (Call1 Tryz.prog f_cordonlaw_reason [dM a0, dI a1, dS a2, .sl .lit e1, dB true, .agg [dI a3, dI 4, dI a4]] .bool fun c167 =>
 R (dB c167))
 (R (dB false))))))
 (sel (!(e2 == false))
 (R (dB false))
 (sel (!e2)
 (sel (decide ((e1.length : Int) = 0))
 (R (dB true))
 (sel e2
 (Call1 Tryz.prog f_cordonlaw_reason [dM a0, dI a1, dS a2, .sl .lit e1, dB true, .agg [dI a3, dI 4, dI a4]] .bool fun c168 =>
 R (dB c168))
 (R (dB false))))
 (sel e2
 (Call1 Tryz.prog f_cordonlaw_reason [dM a0, dI a1, dS a2, .sl .lit e1, dB true, .agg [dI a3, dI 4, dI a4]] .bool fun c169 =>
 R (dB c169))
 (R (dB false))))))))))))))))
 (Call1 Tryz.prog f_cordonlaw_explainBegun [] .bool fun c170 =>
 sel (!c170)
 (R (dB false))
 (Call1 Tryz.prog f_cordonlaw_filterBegun [] .bool fun c171 =>
 sel (!c171)
 (R (dB false))
 (Call1 Tryz.prog f_cordonlaw_proofBegun [] .bool fun c172 =>
 sel (!c172)
 (R (dB false))
 (Call1 Tryz.prog f_cordonlaw_litBegun [] .bool fun c173 =>
 sel (!c173)
 (R (dB false))
 (sel (!decide (e3 = c4))
 (R (dB false))
 (sel (!decide (c4 = 0))
 (sel (!e2)
 (R (dB (decide ((e1.length : Int) = 0))))
 (R (dB false)))
 (Call2 Tryz.prog f_filter_Filter [dM a0, dI a1, dS a2] (.list (.list .int)) .int fun f174 f175 =>
 sel (!decide (f175 = 0))
 (R (dB false))
 (sel (!decide ((f174.length : Int) = (a2.length : Int)))
 (R (dB false))
 (Call1 Tryz.prog f_cordonref_HasFailed [dS a2] .bool fun c176 =>
 sel (!c176)
 (inb a3 a2.length = true ∧
 Call1 Tryz.prog f_cordonref_HasInt [.sl .int (at' (.list .int) a2 a3.toNat), dI a4] .bool fun c177 =>
 sel c177
 (inb a3 f174.length = true ∧
 Call1 Tryz.prog f_cordonref_HasInt [.sl .int (at' (.list .int) f174 a3.toNat), dI a4] .bool fun c178 =>
 sel (!(e2 == (!c178)))
 (R (dB false))
 (sel (!e2)
 (sel (decide ((e1.length : Int) = 0))
 (R (dB true))
 (sel e2
 (Call1 Tryz.prog f_cordonlaw_reason [dM a0, dI a1, dS a2, .sl .lit e1, dB true, .agg [dI a3, dI 4, dI a4]] .bool fun c179 =>
 R (dB c179))
 (R (dB false))))
 (sel e2
 (Call1 Tryz.prog f_cordonlaw_reason [dM a0, dI a1, dS a2, .sl .lit e1, dB true, .agg [dI a3, dI 4, dI a4]] .bool fun c180 =>
 R (dB c180))
 (R (dB false)))))
 (sel (!(e2 == false))
 (R (dB false))
 (sel (!e2)
 (sel (decide ((e1.length : Int) = 0))
 (R (dB true))
 (sel e2
 (Call1 Tryz.prog f_cordonlaw_reason [dM a0, dI a1, dS a2, .sl .lit e1, dB true, .agg [dI a3, dI 4, dI a4]] .bool fun c181 =>
 R (dB c181))
 (R (dB false))))
 (sel e2
 (Call1 Tryz.prog f_cordonlaw_reason [dM a0, dI a1, dS a2, .sl .lit e1, dB true, .agg [dI a3, dI 4, dI a4]] .bool fun c182 =>
 R (dB c182))
 (R (dB false))))))
 (sel (!(e2 == false))
 (R (dB false))
 (sel (!e2)
 (sel (decide ((e1.length : Int) = 0))
 (R (dB true))
 (sel e2
 (Call1 Tryz.prog f_cordonlaw_reason [dM a0, dI a1, dS a2, .sl .lit e1, dB true, .agg [dI a3, dI 4, dI a4]] .bool fun c183 =>
 R (dB c183))
 (R (dB false))))
 (sel e2
 (Call1 Tryz.prog f_cordonlaw_reason [dM a0, dI a1, dS a2, .sl .lit e1, dB true, .agg [dI a3, dI 4, dI a4]] .bool fun c184 =>
 R (dB c184))
 (R (dB false)))))))))))))))))
 (sel (decide (c4 = 0))
 (sel (decide (a3 < 0))
 (Call1 Tryz.prog f_cordonlaw_explainBegun [] .bool fun c185 =>
 sel (!c185)
 (R (dB false))
 (Call1 Tryz.prog f_cordonlaw_filterBegun [] .bool fun c186 =>
 sel (!c186)
 (R (dB false))
 (Call1 Tryz.prog f_cordonlaw_proofBegun [] .bool fun c187 =>
 sel (!c187)
 (R (dB false))
 (Call1 Tryz.prog f_cordonlaw_litBegun [] .bool fun c188 =>
 sel (!c188)
 (R (dB false))
 (sel (!decide (e3 = 5))
 (R (dB false))
 (sel (!decide ((5 : Int) = 0))
 (sel (!e2)
 (R (dB (decide ((e1.length : Int) = 0))))
 (R (dB false)))
 (Call2 Tryz.prog f_filter_Filter [dM a0, dI a1, dS a2] (.list (.list .int)) .int fun f189 f190 =>
 sel (!decide (f190 = 0))
 (R (dB false))
 (sel (!decide ((f189.length : Int) = (a2.length : Int)))
 (R (dB false))
 (Call1 Tryz.prog f_cordonref_HasFailed [dS a2] .bool fun c191 =>
 sel (!c191)
 (inb a3 a2.length = true ∧
 Call1 Tryz.prog f_cordonref_HasInt [.sl .int (at' (.list .int) a2 a3.toNat), dI a4] .bool fun c192 =>
 sel c192
 (inb a3 f189.length = true ∧
 Call1 Tryz.prog f_cordonref_HasInt [.sl .int (at' (.list .int) f189 a3.toNat), dI a4] .bool fun c193 =>
 sel (!(e2 == (!c193)))
 (R (dB false))
 (sel (!e2)
 (sel (decide ((e1.length : Int) = 0))
 (R (dB true))
 (sel e2
 (Call1 Tryz.prog f_cordonlaw_reason [dM a0, dI a1, dS a2, .sl .lit e1, dB true, .agg [dI a3, dI 4, dI a4]] .bool fun c194 =>
 R (dB c194))
 (R (dB false))))
 (sel e2
 (Call1 Tryz.prog f_cordonlaw_reason [dM a0, dI a1, dS a2, .sl .lit e1, dB true, .agg [dI a3, dI 4, dI a4]] .bool fun c195 =>
 R (dB c195))
 (R (dB false)))))
 (sel (!(e2 == false))
 (R (dB false))
 (sel (!e2)
 (sel (decide ((e1.length : Int) = 0))
 (R (dB true))
 (sel e2
 (Call1 Tryz.prog f_cordonlaw_reason [dM a0, dI a1, dS a2, .sl .lit e1, dB true, .agg [dI a3, dI 4, dI a4]] .bool fun c196 =>
 R (dB c196))
 (R (dB false))))
 (sel e2
 (Call1 Tryz.prog f_cordonlaw_reason [dM a0, dI a1, dS a2, .sl .lit e1, dB true, .agg [dI a3, dI 4, dI a4]] .bool fun c197 =>
 R (dB c197))
 (R (dB false))))))
 (sel (!(e2 == false))
 (R (dB false))
 (sel (!e2)
 (sel (decide ((e1.length : Int) = 0))
 (R (dB true))
 (sel e2
 (Call1 Tryz.prog f_cordonlaw_reason [dM a0, dI a1, dS a2, .sl .lit e1, dB true, .agg [dI a3, dI 4, dI a4]] .bool fun c198 =>
 R (dB c198))
 (R (dB false))))
 (sel e2
 (Call1 Tryz.prog f_cordonlaw_reason [dM a0, dI a1, dS a2, .sl .lit e1, dB true, .agg [dI a3, dI 4, dI a4]] .bool fun c199 =>
 R (dB c199))
 (R (dB false))))))))))))))
 (sel (decide ((a0.vars.length : Int) ≤ a3))
 (Call1 Tryz.prog f_cordonlaw_explainBegun [] .bool fun c200 =>
 sel (!c200)
 (R (dB false))
 (Call1 Tryz.prog f_cordonlaw_filterBegun [] .bool fun c201 =>
 sel (!c201)
 (R (dB false))
 (Call1 Tryz.prog f_cordonlaw_proofBegun [] .bool fun c202 =>
 sel (!c202)
 (R (dB false))
 (Call1 Tryz.prog f_cordonlaw_litBegun [] .bool fun c203 =>
 sel (!c203)
 (R (dB false))
 (sel (!decide (e3 = 5))
 (R (dB false))
 (sel (!decide ((5 : Int) = 0))
 (sel (!e2)
 (R (dB (decide ((e1.length : Int) = 0))))
 (R (dB false)))
 (Call2 Tryz.prog f_filter_Filter [dM a0, dI a1, dS a2] (.list (.list .int)) .int fun f204 f205 =>
 sel (!decide (f205 = 0))
 (R (dB false))
 (sel (!decide ((f204.length : Int) = (a2.length : Int)))
 (R (dB false))
 (Call1 Tryz.prog f_cordonref_HasFailed [dS a2] .bool fun c206 =>
 sel (!c206)
 (inb a3 a2.length = true ∧
 Call1 Tryz.prog f_cordonref_HasInt [.sl .int (at' (.list .int) a2 a3.toNat), dI a4] .bool fun c207 =>
 sel c207
 (inb a3 f204.length = true ∧
 Call1 Tryz.prog f_cordonref_HasInt [.sl .int (at' (.list .int) f204 a3.toNat), dI a4] .bool fun c208 =>
 sel (!(e2 == (!c208)))
 (R (dB false))
 (sel (!e2)
 (sel (decide ((e1.length : Int) = 0))
 (R (dB true))
 (sel e2
 (Call1 Tryz.prog f_cordonlaw_reason [dM a0, dI a1, dS a2, .sl .lit e1, dB true, .agg [dI a3, dI 4, dI a4]] .bool fun c209 =>
 R (dB c209))
 (R (dB false))))
 (sel e2
 (Call1 Tryz.prog f_cordonlaw_reason [dM a0, dI a1, dS a2, .sl .lit e1, dB true, .agg [dI a3, dI 4, dI a4]] .bool fun c210 =>
 R (dB c210))
 (R (dB false)))))
 (sel (!(e2 == false))
 (R (dB false))
 (sel (!e2)
 (sel (decide ((e1.length : Int) = 0))
 (R (dB true))
 (sel e2
 (Call1 Tryz.prog f_cordonlaw_reason [dM a0, dI a1, dS a2, .sl .lit e1, dB true, .agg [dI a3, dI 4, dI a4]] .bool fun c211 =>
 R (dB c211))
 (R (dB false))))
 (sel e2
 (Call1 Tryz.prog f_cordonlaw_reason [dM a0, dI a1, dS a2, .sl .lit e1, dB true, .agg [dI a3, dI 4, dI a4]] .bool fun c212 =>
 R (dB c212))
 (R (dB false))))))
 (sel (!(e2 == false))
 (R (dB false))
 (sel (!e2)
 (sel (decide ((e1.length : Int) = 0))
 (R (dB true))
 (sel e2
 (Call1 Tryz.prog f_cordonlaw_reason [dM a0, dI a1, dS a2, .sl .lit e1, dB true, .agg [dI a3, dI 4, dI a4]] .bool fun c213 =>
 R (dB c213))
 (R (dB false))))
 (sel e2
 (Call1 Tryz.prog f_cordonlaw_reason [dM a0, dI a1, dS a2, .sl .lit e1, dB true, .agg [dI a3, dI 4, dI a4]] .bool fun c214 =>
 R (dB c214))
 (R (dB false))))))))))))))
 (Call1 Tryz.prog f_cordonlaw_explainBegun [] .bool fun c215 =>
 sel (!c215)
 (R (dB false))
 (Call1 Tryz.prog f_cordonlaw_filterBegun [] .bool fun c216 =>
 sel (!c216)
 (R (dB false))
 (Call1 Tryz.prog f_cordonlaw_proofBegun [] .bool fun c217 =>
 sel (!c217)
 (R (dB false))
 (Call1 Tryz.prog f_cordonlaw_litBegun [] .bool fun c218 =>
 sel (!c218)
 (R (dB false))
 (sel (!decide (e3 = c4))
 (R (dB false))
 (sel (!decide (c4 = 0))
 (sel (!e2)
 (R (dB (decide ((e1.length : Int) = 0))))
 (R (dB false)))
 (Call2 Tryz.prog f_filter_Filter [dM a0, dI a1, dS a2] (.list (.list .int)) .int fun f219 f220 =>
 sel (!decide (f220 = 0))
 (R (dB false))
 (sel (!decide ((f219.length : Int) = (a2.length : Int)))
 (R (dB false))
 (Call1 Tryz.prog f_cordonref_HasFailed [dS a2] .bool fun c221 =>
 sel (!c221)
 (inb a3 a2.length = true ∧
 Call1 Tryz.prog f_cordonref_HasInt [.sl .int (at' (.list .int) a2 a3.toNat), dI a4] .bool fun c222 =>
 sel c222
 (inb a3 f219.length = true ∧
 Call1 Tryz.prog f_cordonref_HasInt [.sl .int (at' (.list .int) f219 a3.toNat), dI a4] .bool fun c223 =>
 sel (!(e2 == (!c223)))
 (R (dB false))
 (sel (!e2)
 (sel (decide ((e1.length : Int) = 0))
 (R (dB true))
 (sel e2
 (Call1 Tryz.prog f_cordonlaw_reason [dM a0, dI a1, dS a2, .sl .lit e1, dB true, .agg [dI a3, dI 4, dI a4]] .bool fun c224 =>
 R (dB c224))
 (R (dB false))))
 (sel e2
 (Call1 Tryz.prog f_cordonlaw_reason [dM a0, dI a1, dS a2, .sl .lit e1, dB true, .agg [dI a3, dI 4, dI a4]] .bool fun c225 =>
 R (dB c225))
 (R (dB false)))))
 (sel (!(e2 == false))
 (R (dB false))
 (sel (!e2)
 (sel (decide ((e1.length : Int) = 0))
 (R (dB true))
 (sel e2
 (Call1 Tryz.prog f_cordonlaw_reason [dM a0, dI a1, dS a2, .sl .lit e1, dB true, .agg [dI a3, dI 4, dI a4]] .bool fun c226 =>
 R (dB c226))
 (R (dB false))))
 (sel e2
 (Call1 Tryz.prog f_cordonlaw_reason [dM a0, dI a1, dS a2, .sl .lit e1, dB true, .agg [dI a3, dI 4, dI a4]] .bool fun c227 =>
 R (dB c227))
 (R (dB false))))))
 (sel (!(e2 == false))
 (R (dB false))
 (sel (!e2)
 (sel (decide ((e1.length : Int) = 0))
 (R (dB true))
 (sel e2
 (Call1 Tryz.prog f_cordonlaw_reason [dM a0, dI a1, dS a2, .sl .lit e1, dB true, .agg [dI a3, dI 4, dI a4]] .bool fun c228 =>
 R (dB c228))
 (R (dB false))))
 (sel e2
 (Call1 Tryz.prog f_cordonlaw_reason [dM a0, dI a1, dS a2, .sl .lit e1, dB true, .agg [dI a3, dI 4, dI a4]] .bool fun c229 =>
 R (dB c229))
 (R (dB false))))))))))))))))
 (Call1 Tryz.prog f_cordonlaw_explainBegun [] .bool fun c230 =>
 sel (!c230)
 (R (dB false))
 (Call1 Tryz.prog f_cordonlaw_filterBegun [] .bool fun c231 =>
 sel (!c231)
 (R (dB false))
 (Call1 Tryz.prog f_cordonlaw_proofBegun [] .bool fun c232 =>
 sel (!c232)
 (R (dB false))
 (Call1 Tryz.prog f_cordonlaw_litBegun [] .bool fun c233 =>
 sel (!c233)
 (R (dB false))
 (sel (!decide (e3 = c4))
 (R (dB false))
 (sel (!decide (c4 = 0))
 (sel (!e2)
 (R (dB (decide ((e1.length : Int) = 0))))
 (R (dB false)))
 (Call2 Tryz.prog f_filter_Filter [dM a0, dI a1, dS a2] (.list (.list .int)) .int fun f234 f235 =>
 sel (!decide (f235 = 0))
 (R (dB false))
 (sel (!decide ((f234.length : Int) = (a2.length : Int)))
 (R (dB false))
 (Call1 Tryz.prog f_cordonref_HasFailed [dS a2] .bool fun c236 =>
 sel (!c236)
 (inb a3 a2.length = true ∧
 Call1 Tryz.prog f_cordonref_HasInt [.sl .int (at' (.list .int) a2 a3.toNat), dI a4] .bool fun c237 =>
 sel c237
 (inb a3 f234.length = true ∧
 Call1 Tryz.prog f_cordonref_HasInt [.sl .int (at' (.list .int) f234 a3.toNat), dI a4] .bool fun c238 =>
 sel (!(e2 == (!c238)))
 (R (dB false))
 (sel (!e2)
 (sel (decide ((e1.length : Int) = 0))
 (R (dB true))
 (sel e2
 (Call1 Tryz.prog f_cordonlaw_reason [dM a0, dI a1, dS a2, .sl .lit e1, dB true, .agg [dI a3, dI 4, dI a4]] .bool fun c239 =>
 R (dB c239))
 (R (dB false))))
 (sel e2
 (Call1 Tryz.prog f_cordonlaw_reason [dM a0, dI a1, dS a2, .sl .lit e1, dB true, .agg [dI a3, dI 4, dI a4]] .bool fun c240 =>
 R (dB c240))
 (R (dB false)))))
 (sel (!(e2 == false))
 (R (dB false))
 (sel (!e2)
 (sel (decide ((e1.length : Int) = 0))
 (R (dB true))
 (sel e2
 (Call1 Tryz.prog f_cordonlaw_reason [dM a0, dI a1, dS a2, .sl .lit e1, dB true, .agg [dI a3, dI 4, dI a4]] .bool fun c241 =>
 R (dB c241))
 (R (dB false))))
 (sel e2
 (Call1 Tryz.prog f_cordonlaw_reason [dM a0, dI a1, dS a2, .sl .lit e1, dB true, .agg [dI a3, dI 4, dI a4]] .bool fun c242 =>
 R (dB c242))
 (R (dB false))))))
 (sel (!(e2 == false))
 (R (dB false))
 (sel (!e2)
 (sel (decide ((e1.length : Int) = 0))
 (R (dB true))
 (sel e2
 (Call1 Tryz.prog f_cordonlaw_reason [dM a0, dI a1, dS a2, .sl .lit e1, dB true, .agg [dI a3, dI 4, dI a4]] .bool fun c243 =>
 R (dB c243))
 (R (dB false))))
 (sel e2
 (Call1 Tryz.prog f_cordonlaw_reason [dM a0, dI a1, dS a2, .sl .lit e1, dB true, .agg [dI a3, dI 4, dI a4]] .bool fun c244 =>
 R (dB c244))
 (R (dB false)))))))))))))))) := by kernel_rfl
theorem cordonlaw_ExplainReasons_sat {r : D} (a0 : MdlD) (a1 : Int) (a2 : List (List Int)) (a3 : Int) (a4 : Int) (h : (∀ d ∈ [dM a0, dI a1, dS a2, dI a3, dI a4], okD d) → fnD Tryz.prog Ev cordonlaw_ExplainReasons_A Tryz.f13.results.toList (bodyOf Tryz.f13) [dM a0, dI a1, dS a2, dI a3, dI a4] fun d => d = r) : Sat Tryz.prog f_cordonlaw_ExplainReasons [dM a0, dI a1, dS a2, dI a3, dI a4] r := by
  have h2 := sat_of (r := r) (args := [dM a0, dI a1, dS a2, dI a3, dI a4]) (A := cordonlaw_ExplainReasons_A) (fn := Tryz.f13) (body := bodyOf Tryz.f13) (f := f_cordonlaw_ExplainReasons) factsEv Tryz.func13 (by kernel_rfl) (by rw [Tryz.ntmps13]; rfl) (by rw [Tryz.ntmps13]; exact Nat.le_of_ble_eq_true rfl)
  with_reducible exact h2 h
/-! ### cordon/cordonlaw.checkStore -/
def cordonlaw_checkStore_A : Ann := { own := [], live := [], n := 14, nils := [], pubs := [] }
theorem cordonlaw_checkStore_eq (a0 : MdlD) (a1 : List (List Int)) (R : D → Prop) : fnD Tryz.prog Ev cordonlaw_checkStore_A Tryz.f16.results.toList (bodyOf Tryz.f16) [dM a0, dS a1] R =
 (Call1 Tryz.prog f_cordonref_CheckModel [dM a0] .int fun c1 =>
 sel (decide (c1 = 0))
 (Call1 Tryz.prog f_cordonref_CheckStore [dM a0, dS a1] .int fun c2 =>
 R (dI c2))
 (R (dI c1))) := by kernel_rfl
theorem cordonlaw_checkStore_sat {r : D} (a0 : MdlD) (a1 : List (List Int)) (h : (∀ d ∈ [dM a0, dS a1], okD d) → fnD Tryz.prog Ev cordonlaw_checkStore_A Tryz.f16.results.toList (bodyOf Tryz.f16) [dM a0, dS a1] fun d => d = r) : Sat Tryz.prog f_cordonlaw_checkStore [dM a0, dS a1] r := by
  have h2 := sat_of (r := r) (args := [dM a0, dS a1]) (A := cordonlaw_checkStore_A) (fn := Tryz.f16) (body := bodyOf Tryz.f16) (f := f_cordonlaw_checkStore) factsEv Tryz.func16 (by kernel_rfl) (by rw [Tryz.ntmps16]; rfl) (by rw [Tryz.ntmps16]; exact Nat.le_of_ble_eq_true rfl)
  with_reducible exact h2 h
/-! ### cordon/cordonlaw.filterBegun -/
def cordonlaw_filterBegun_A : Ann := { own := [], live := [], n := 20, nils := [], pubs := [] }
theorem cordonlaw_filterBegun_eq  (R : D → Prop) : fnD Tryz.prog Ev cordonlaw_filterBegun_A Tryz.f18.results.toList (bodyOf Tryz.f18) [] R =
 (Call1 Tryz.prog f_cordonlaw_two [] .mdl fun c1 =>
 Call2 Tryz.prog f_filter_Filter [dM c1, dI 0, dS ([[0, 1, 2], [0, 1, 2]])] (.list (.list .int)) .int fun f2 f3 =>
 sel (decide (f3 = 0))
 (Call1 Tryz.prog f_cordonref_SameStore [dS f2, dS ([[0, 1], [1, 2]])] .bool fun c4 =>
 R (dB c4))
 (R (dB false))) := by kernel_rfl
theorem cordonlaw_filterBegun_sat {r : D}  (h : (∀ d ∈ [], okD d) → fnD Tryz.prog Ev cordonlaw_filterBegun_A Tryz.f18.results.toList (bodyOf Tryz.f18) [] fun d => d = r) : Sat Tryz.prog f_cordonlaw_filterBegun [] r := by
  have h2 := sat_of (r := r) (args := []) (A := cordonlaw_filterBegun_A) (fn := Tryz.f18) (body := bodyOf Tryz.f18) (f := f_cordonlaw_filterBegun) factsEv Tryz.func18 (by kernel_rfl) (by rw [Tryz.ntmps18]; rfl) (by rw [Tryz.ntmps18]; exact Nat.le_of_ble_eq_true rfl)
  with_reducible exact h2 h
/-! ### cordon/cordonlaw.proofBegun -/
def cordonlaw_proofBegun_A : Ann := { own := [], live := [], n := 74, nils := [], pubs := [] }
theorem cordonlaw_proofBegun_eq  (R : D → Prop) : fnD Tryz.prog Ev cordonlaw_proofBegun_A Tryz.f38.results.toList (bodyOf Tryz.f38) [] R =
 (Call1 Tryz.prog f_cordonlaw_two [] .mdl fun c1 =>
 Call2 Tryz.prog f_proof_Con [dM c1, dI 0, .sl .lit ([(⟨0, 1, 1⟩ : LitD)])] .bool .int fun p2 p3 =>
 Call1 Tryz.prog f_cordonlaw_two [] .mdl fun c4 =>
 Call2 Tryz.prog f_proof_Unit [dM c4, .sl (.list .lit) ([[(⟨0, 1, 1⟩ : LitD)]]), .sl .lit ([(⟨0, 4, 2⟩ : LitD)])] .bool .int fun p5 p6 =>
 Call1 Tryz.prog f_cordonlaw_two [] .mdl fun c7 =>
 Call2 Tryz.prog f_proof_Check [dM c7, .sl (.list .lit) ([] : List (List LitD)), .sl .step ([(⟨1, 0, [(⟨0, 1, 1⟩ : LitD)]⟩ : StepD)])] .bool .int fun p8 p9 =>
 Call1 Tryz.prog f_cordonlaw_two [] .mdl fun c10 =>
 Call2 Tryz.prog f_proof_Check [dM c10, .sl (.list .lit) ([[(⟨0, 2, 2⟩ : LitD)]]), .sl .step ([(⟨1, 0, [(⟨0, 1, 1⟩ : LitD)]⟩ : StepD), (⟨2, 0, ([] : List LitD)⟩ : StepD)])] .bool .int fun p11 p12 =>
 sel (decide (p3 = 0))
 (sel (decide (p6 = 0))
 (sel (decide (p9 = 0))
 (sel (decide (p12 = 0))
 (sel p2
 (sel p5
 (sel (!p8)
 (R (dB p11))
 (R (dB false)))
 (R (dB false)))
 (R (dB false)))
 (R (dB false)))
 (R (dB false)))
 (R (dB false)))
 (R (dB false))) := by kernel_rfl
theorem cordonlaw_proofBegun_sat {r : D}  (h : (∀ d ∈ [], okD d) → fnD Tryz.prog Ev cordonlaw_proofBegun_A Tryz.f38.results.toList (bodyOf Tryz.f38) [] fun d => d = r) : Sat Tryz.prog f_cordonlaw_proofBegun [] r := by
  have h2 := sat_of (r := r) (args := []) (A := cordonlaw_proofBegun_A) (fn := Tryz.f38) (body := bodyOf Tryz.f38) (f := f_cordonlaw_proofBegun) factsEv Tryz.func38 (by kernel_rfl) (by rw [Tryz.ntmps38]; rfl) (by rw [Tryz.ntmps38]; exact Nat.le_of_ble_eq_true rfl)
  with_reducible exact h2 h
/-! ### cordon/cordonlaw.explainBegun -/
def cordonlaw_explainBegun_A : Ann := { own := [], live := [], n := 67, nils := [], pubs := [] }
theorem cordonlaw_explainBegun_eq  (R : D → Prop) : fnD Tryz.prog Ev cordonlaw_explainBegun_A Tryz.f47.results.toList (bodyOf Tryz.f47) [] R =
 (Call1 Tryz.prog f_cordonlaw_two [] .mdl fun c1 =>
 Call3 Tryz.prog f_explain_Removed [dM c1, dI 0, dS ([[0, 1, 2], [0, 1]]), dI 0, dI 1] (.list .lit) .bool .int fun e2 e3 e4 =>
 Call1 Tryz.prog f_cordonlaw_two [] .mdl fun c5 =>
 Call3 Tryz.prog f_explain_Removed [dM c5, dI 0, dS ([[0, 1, 2], [0, 1]]), dI 0, dI 0] (.list .lit) .bool .int fun e6 e7 e8 =>
 Call1 Tryz.prog f_cordonlaw_two [] .mdl fun c9 =>
 Call3 Tryz.prog f_explain_Failed [dM c9, dI 0, dS ([[2], [0]])] (.list .lit) .bool .int fun e10 e11 e12 =>
 sel (decide (e4 = 0))
 (sel (decide (e8 = 0))
 (sel (decide (e12 = 0))
 (sel e3
 (sel (!e7)
 (sel e11
 (sel (decide ((e2.length : Int) = 2))
 (R (dB (decide (0 < (e10.length : Int)))))
 (R (dB false)))
 (R (dB false)))
 (R (dB false)))
 (R (dB false)))
 (R (dB false)))
 (R (dB false)))
 (R (dB false))) := by kernel_rfl
theorem cordonlaw_explainBegun_sat {r : D}  (h : (∀ d ∈ [], okD d) → fnD Tryz.prog Ev cordonlaw_explainBegun_A Tryz.f47.results.toList (bodyOf Tryz.f47) [] fun d => d = r) : Sat Tryz.prog f_cordonlaw_explainBegun [] r := by
  have h2 := sat_of (r := r) (args := []) (A := cordonlaw_explainBegun_A) (fn := Tryz.f47) (body := bodyOf Tryz.f47) (f := f_cordonlaw_explainBegun) factsEv Tryz.func47 (by kernel_rfl) (by rw [Tryz.ntmps47]; rfl) (by rw [Tryz.ntmps47]; exact Nat.le_of_ble_eq_true rfl)
  with_reducible exact h2 h
/-! ### cordon/cordonlaw.litBegun -/
def cordonlaw_litBegun_A : Ann := { own := [1, 4], live := [], n := 80, nils := [], pubs := [] }
theorem cordonlaw_litBegun_eq  (R : D → Prop) : fnD Tryz.prog Ev cordonlaw_litBegun_A Tryz.f52.results.toList (bodyOf Tryz.f52) [] R =
 (Call1 Tryz.prog f_cordonlaw_two [] .mdl fun c1 =>
 Call2 Tryz.prog f_lit_Holds [dM c1, .agg [dI 1, dI 1, dI 1], dI 1] .bool .int fun l2 l3 =>
 Call1 Tryz.prog f_cordonlaw_two [] .mdl fun c4 =>
 (Call2 Tryz.prog f_lit_Not [dM c4, .agg [dI 1, dI 1, dI 1]] .lit .int fun l5 l6 =>
 Call1 Tryz.prog f_cordonlaw_two [] .mdl fun c7 =>
 Call2 Tryz.prog f_lit_Told [dM c7, dS ([[0, 1, 2], [0, 1, 2]]), .agg [dI 1, dI 1, dI 1]] .int .int fun l8 l9 =>
 Call1 Tryz.prog f_cordonlaw_two [] .mdl fun c10 =>
 Call2 Tryz.prog f_lit_Put [dM c10, dS ([[0, 1, 2], [0, 1, 2]]), .agg [dI 1, dI 1, dI 1]] (.list (.list .int)) .int fun l11 l12 =>
 Call1 Tryz.prog f_cordonlaw_two [] .mdl fun c13 =>
 Call1 Tryz.prog f_lit_Check [dM c13, .agg [dI 1, dI 1, dI 1]] .int fun l14 =>
 sel (decide (l14 = 0))
 (sel (decide (l3 = 0))
 (sel (decide (l6 = 0))
 (sel (decide (l9 = 0))
 (sel (decide (l12 = 0))
 (sel l2
 (sel (decide (l5 = (⟨1, 2, 2⟩ : LitD)))
 (sel (decide (l8 = 0))
 (Call1 Tryz.prog f_cordonref_SameStore [dS l11, dS ([[0, 1, 2], [0, 1]])] .bool fun c15 =>
 R (dB c15))
 (R (dB false)))
 (R (dB false)))
 (R (dB false)))
 (R (dB false)))
 (R (dB false)))
 (R (dB false)))
 (R (dB false)))
 (R (dB false))) ∧
 Call2 Tryz.prog f_lit_Not [dM c4, .agg [dI 1, dI 1, dI 1]] .lit .int fun l16 l17 =>
 Call1 Tryz.prog f_cordonlaw_two [] .mdl fun c18 =>
 Call2 Tryz.prog f_lit_Told [dM c18, dS ([[0, 1, 2], [0, 1, 2]]), .agg [dI 1, dI 1, dI 1]] .int .int fun l19 l20 =>
 Call1 Tryz.prog f_cordonlaw_two [] .mdl fun c21 =>
 Call2 Tryz.prog f_lit_Put [dM c21, dS ([[0, 1, 2], [0, 1, 2]]), .agg [dI 1, dI 1, dI 1]] (.list (.list .int)) .int fun l22 l23 =>
 Call1 Tryz.prog f_cordonlaw_two [] .mdl fun c24 =>
 Call1 Tryz.prog f_lit_Check [dM c24, .agg [dI 1, dI 1, dI 1]] .int fun l25 =>
 sel (decide (l25 = 0))
 (sel (decide (l3 = 0))
 (sel (decide (l17 = 0))
 (sel (decide (l20 = 0))
 (sel (decide (l23 = 0))
 (sel l2
 (sel (decide (l16 = (⟨1, 2, 2⟩ : LitD)))
 (sel (decide (l19 = 0))
 (Call1 Tryz.prog f_cordonref_SameStore [dS l22, dS ([[0, 1, 2], [0, 1]])] .bool fun c26 =>
 R (dB c26))
 (R (dB false)))
 (R (dB false)))
 (R (dB false)))
 (R (dB false)))
 (R (dB false)))
 (R (dB false)))
 (R (dB false)))
 (R (dB false))) := by kernel_rfl
theorem cordonlaw_litBegun_sat {r : D}  (h : (∀ d ∈ [], okD d) → fnD Tryz.prog Ev cordonlaw_litBegun_A Tryz.f52.results.toList (bodyOf Tryz.f52) [] fun d => d = r) : Sat Tryz.prog f_cordonlaw_litBegun [] r := by
  have h2 := sat_of (r := r) (args := []) (A := cordonlaw_litBegun_A) (fn := Tryz.f52) (body := bodyOf Tryz.f52) (f := f_cordonlaw_litBegun) factsEv Tryz.func52 (by kernel_rfl) (by rw [Tryz.ntmps52]; rfl) (by rw [Tryz.ntmps52]; exact Nat.le_of_ble_eq_true rfl)
  with_reducible exact h2 h
/-! ### cordon/cordonlaw.reason -/
def cordonlaw_reason_A : Ann := { own := [67, 71, 76], live := [(0, ([1, 2, 3, 4, 6, 11, 15, 16], []))], n := 95, nils := [], pubs := [] }
def cordonlaw_reason_I0 (a0 : MdlD) (a1 : Int) (a2 : List (List Int)) (a3 : List LitD) (a4 : Bool) (a5 : LitD) (R : D → Prop) (n0 : Nat) (v3 : Int) (v4 : Int) : Prop := iter (den Tryz.prog Ev cordonlaw_reason_A (sub [1, 1, 1, 1, 0, 1, 0, 0] (bodyOf Tryz.f54)) 0) cordonlaw_reason_A (liveOf cordonlaw_reason_A 0) n0 ⟨[(1, dI a1), (2, dS a2), (3, .sl .lit a3), (4, dB a4), (6, .iptr [.sl .var a0.vars, .sl .con a0.cons, dI a0.goal, dI a0.var] 0), (11, .iptr [dI a5.var, dI a5.op, dI a5.n] 0), (15, dI v3), (16, dI v4)], []⟩ (blockK 0 (seqK Tryz.prog Ev cordonlaw_reason_A (sub [1, 1, 1, 1, 1] (bodyOf Tryz.f54)) 0 (endK Ev Tryz.f54.results.toList R)))
theorem cordonlaw_reason_I0_eq (a0 : MdlD) (a1 : Int) (a2 : List (List Int)) (a3 : List LitD) (a4 : Bool) (a5 : LitD) (R : D → Prop) (n0 : Nat) (v3 : Int) (v4 : Int) : cordonlaw_reason_I0 a0 a1 a2 a3 a4 a5 R (n0 + 1) v3 v4 =
 (sel (decide (v4 < (a3.length : Int)))
 (sel a4
 (inb v4 a3.length = true ∧
 sel (decide ((at' .lit a3 v4.toNat) = a5))
 (cordonlaw_reason_I0 a0 a1 a2 a3 a4 a5 R n0 (w64 (v3 + 1)) (w64 (v4 + 1)))
 (inb v4 a3.length = true ∧
 Call2 Tryz.prog f_lit_Told [dM a0, dS a2, dL (at' .lit a3 v4.toNat)] .int .int fun l5 l6 =>
 sel (!decide (l6 = 0))
 (R (dB false))
 (sel (!decide (l5 = (-1)))
 (R (dB false))
 (inSl 0 v4 a3.length = true ∧
 inSl (w64 (v4 + 1)) (a3.length : Int) a3.length = true ∧
 room .lit (([] : List LitD).length + ((a3.take v4.toNat).drop 0).length) = true ∧
 room .lit ((([] : List LitD) ++ ((a3.take v4.toNat).drop 0)).length + ((a3.take (a3.length : Int).toNat).drop (w64 (v4 + 1)).toNat).length) = true ∧
 Call2 Tryz.prog f_proof_Con [dM a0, dI a1, .sl .lit ((([] : List LitD) ++ ((a3.take v4.toNat).drop 0)) ++ ((a3.take (a3.length : Int).toNat).drop (w64 (v4 + 1)).toNat))] .bool .int fun p7 p8 =>
 sel (!decide (p8 = 0))
 (R (dB false))
 (sel p7
 (R (dB false))
 (cordonlaw_reason_I0 a0 a1 a2 a3 a4 a5 R n0 v3 (w64 (v4 + 1))))))))
 (inb v4 a3.length = true ∧
 Call2 Tryz.prog f_lit_Told [dM a0, dS a2, dL (at' .lit a3 v4.toNat)] .int .int fun l9 l10 =>
 sel (!decide (l10 = 0))
 (R (dB false))
 (sel (!decide (l9 = (-1)))
 (R (dB false))
 (inSl 0 v4 a3.length = true ∧
 inSl (w64 (v4 + 1)) (a3.length : Int) a3.length = true ∧
 room .lit (([] : List LitD).length + ((a3.take v4.toNat).drop 0).length) = true ∧
 room .lit ((([] : List LitD) ++ ((a3.take v4.toNat).drop 0)).length + ((a3.take (a3.length : Int).toNat).drop (w64 (v4 + 1)).toNat).length) = true ∧
 Call2 Tryz.prog f_proof_Con [dM a0, dI a1, .sl .lit ((([] : List LitD) ++ ((a3.take v4.toNat).drop 0)) ++ ((a3.take (a3.length : Int).toNat).drop (w64 (v4 + 1)).toNat))] .bool .int fun p11 p12 =>
 sel (!decide (p12 = 0))
 (R (dB false))
 (sel p11
 (R (dB false))
 (cordonlaw_reason_I0 a0 a1 a2 a3 a4 a5 R n0 v3 (w64 (v4 + 1))))))))
 (sel (!a4)
 (R (dB true))
 (R (dB (decide (v3 = 1)))))) := by kernel_rfl
theorem cordonlaw_reason_eq (a0 : MdlD) (a1 : Int) (a2 : List (List Int)) (a3 : List LitD) (a4 : Bool) (a5 : LitD) (R : D → Prop) : fnD Tryz.prog Ev cordonlaw_reason_A Tryz.f54.results.toList (bodyOf Tryz.f54) [dM a0, dI a1, dS a2, .sl .lit a3, dB a4, dL a5] R =
 (Call2 Tryz.prog f_proof_Con [dM a0, dI a1, .sl .lit a3] .bool .int fun p1 p2 =>
 sel (!decide (p2 = 0))
 (R (dB false))
 (sel (!p1)
 (R (dB false))
 (∃ n0, cordonlaw_reason_I0 a0 a1 a2 a3 a4 a5 R n0 0 0))) := by kernel_rfl
theorem cordonlaw_reason_sat {r : D} (a0 : MdlD) (a1 : Int) (a2 : List (List Int)) (a3 : List LitD) (a4 : Bool) (a5 : LitD) (h : (∀ d ∈ [dM a0, dI a1, dS a2, .sl .lit a3, dB a4, dL a5], okD d) → fnD Tryz.prog Ev cordonlaw_reason_A Tryz.f54.results.toList (bodyOf Tryz.f54) [dM a0, dI a1, dS a2, .sl .lit a3, dB a4, dL a5] fun d => d = r) : Sat Tryz.prog f_cordonlaw_reason [dM a0, dI a1, dS a2, .sl .lit a3, dB a4, dL a5] r := by
  have h2 := sat_of (r := r) (args := [dM a0, dI a1, dS a2, .sl .lit a3, dB a4, dL a5]) (A := cordonlaw_reason_A) (fn := Tryz.f54) (body := bodyOf Tryz.f54) (f := f_cordonlaw_reason) factsEv Tryz.func54 (by kernel_rfl) (by rw [Tryz.ntmps54]; rfl) (by rw [Tryz.ntmps54]; exact Nat.le_of_ble_eq_true rfl)
  with_reducible exact h2 h
/-! ### cordon/cordonlaw.two -/
def cordonlaw_two_A : Ann := { own := [0], live := [], n := 9, nils := [], pubs := [] }
theorem cordonlaw_two_eq  (R : D → Prop) : fnD Tryz.prog Ev cordonlaw_two_A Tryz.f63.results.toList (bodyOf Tryz.f63) [] R =
 (R (.agg [.sl .var ([(⟨(⟨#[120]⟩ : ByteArray), 0, 2⟩ : VarD), (⟨(⟨#[121]⟩ : ByteArray), 0, 2⟩ : VarD)]), .sl .con ([(⟨1, [0, 1], [1, -1], -1, ([] : List (List Int)), ([] : List LitD)⟩ : ConD)]), dI 1, dI 1])) := by kernel_rfl
theorem cordonlaw_two_sat {r : D}  (h : (∀ d ∈ [], okD d) → fnD Tryz.prog Ev cordonlaw_two_A Tryz.f63.results.toList (bodyOf Tryz.f63) [] fun d => d = r) : Sat Tryz.prog f_cordonlaw_two [] r := by
  have h2 := sat_of (r := r) (args := []) (A := cordonlaw_two_A) (fn := Tryz.f63) (body := bodyOf Tryz.f63) (f := f_cordonlaw_two) factsEv Tryz.func63 (by kernel_rfl) (by rw [Tryz.ntmps63]; rfl) (by rw [Tryz.ntmps63]; exact Nat.le_of_ble_eq_true rfl)
  with_reducible exact h2 h
end Go.Proofs.YtgnjdgafkjohaaaGreat
