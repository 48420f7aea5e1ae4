/- What the functions of a package do, as equations of plain propositions: printed by a program that carries the code out on symbols. -/
import Derived.Test.YtajnbkhgnppckaaGreatDoorWEv
namespace Go.Proofs.YtajnbkhgnppckaaGreatDoor
open Go.RowKit
set_option linter.unusedVariables false
set_option maxRecDepth 100000
def zYm : Ann := { own := [5], live := [], n := 118, nils := [], pubs := [] }
theorem zfw (a0 : MdlD) (a1 : Int) (R : D → Prop) : FD zYm Tryz.f7 [dM a0, dI a1] R =
 (Call2 Tryz.prog zEd [dM a0, dI a1] .ans .int fun b1 b2 =>
 Call1 Tryz.prog z7e [dM a0] .int fun c3 =>
 sel (decide (c3 = 0))
 (sel (decide (a1 < 0))
 (Call1 Tryz.prog zUb [] .bool fun c4 =>
 sel (!c4)
 (R (dB false))
 (sel (!decide (b2 = 3))
 (R (dB false))
 (sel (!decide ((3 : Int) = 0))
 (sel (decide (b1.verdict = 0))
 (Call1 Tryz.prog zS [.agg [dI b1.verdict, .sl .int b1.values, .sl .step b1.proof]] .bool fun c5 =>
 R (dB c5))
 (R (dB false)))
 (sel (decide (b1.verdict = 1))
 (sel (!decide ((b1.values.length : Int) = (a0.vars.length : Int)))
 (R (dB false))
 (Call1 Tryz.prog zVb [dM a0, .sl .int b1.values] .bool fun c6 =>
 sel (!c6)
 (R (dB false))
 (sel (decide (a0.goal = 0))
 (R (dB (decide ((b1.proof.length : Int) = 0))))
 (Call1 Tryz.prog zTb [dM a0, .sl .int b1.values] (.list .lit) fun c7 =>
 Call1 Tryz.prog zT [dM a0, .sl (.list .lit) ([c7]), .sl .step b1.proof] .int fun c8 =>
 sel (decide (c8 = 0))
 (Call1 Tryz.prog zU [dM a0, .sl (.list .lit) ([c7]), .sl .step b1.proof] .bool fun c9 =>
 R (dB c9))
 (R (dB false))))))
 (sel (decide (b1.verdict = 2))
 (sel (decide ((b1.values.length : Int) = 0))
 (Call1 Tryz.prog zT [dM a0, .sl (.list .lit) ([] : List (List LitD)), .sl .step b1.proof] .int fun c10 =>
 sel (decide (c10 = 0))
 (Call1 Tryz.prog zU [dM a0, .sl (.list .lit) ([] : List (List LitD)), .sl .step b1.proof] .bool fun c11 =>
 R (dB c11))
 (R (dB false)))
 (R (dB false)))
 (sel (decide (b1.verdict = 3))
 (Call1 Tryz.prog zS [.agg [dI b1.verdict, .sl .int b1.values, .sl .step b1.proof]] .bool fun c12 =>
 sel c12
 (sel (decide (a1 < 300))
 (R (dB true))
 (Call1 Tryz.prog zWb [dM a0] .int fun c13 =>
 R (dB (decide (100 < c13)))))
 (R (dB false)))
 (R (dB false))))))))
 (sel (decide (300 < a1))
 (Call1 Tryz.prog zUb [] .bool fun c14 =>
 sel (!c14)
 (R (dB false))
 (sel (!decide (b2 = 3))
 (R (dB false))
 (sel (!decide ((3 : Int) = 0))
 (sel (decide (b1.verdict = 0))
 (Call1 Tryz.prog zS [.agg [dI b1.verdict, .sl .int b1.values, .sl .step b1.proof]] .bool fun c15 =>
 R (dB c15))
 (R (dB false)))
 (sel (decide (b1.verdict = 1))
 (sel (!decide ((b1.values.length : Int) = (a0.vars.length : Int)))
 (R (dB false))
 (Call1 Tryz.prog zVb [dM a0, .sl .int b1.values] .bool fun c16 =>
 sel (!c16)
 (R (dB false))
 (sel (decide (a0.goal = 0))
 (R (dB (decide ((b1.proof.length : Int) = 0))))
 (Call1 Tryz.prog zTb [dM a0, .sl .int b1.values] (.list .lit) fun c17 =>
 Call1 Tryz.prog zT [dM a0, .sl (.list .lit) ([c17]), .sl .step b1.proof] .int fun c18 =>
 sel (decide (c18 = 0))
 (Call1 Tryz.prog zU [dM a0, .sl (.list .lit) ([c17]), .sl .step b1.proof] .bool fun c19 =>
 R (dB c19))
 (R (dB false))))))
 (sel (decide (b1.verdict = 2))
 (sel (decide ((b1.values.length : Int) = 0))
 (Call1 Tryz.prog zT [dM a0, .sl (.list .lit) ([] : List (List LitD)), .sl .step b1.proof] .int fun c20 =>
 sel (decide (c20 = 0))
 (Call1 Tryz.prog zU [dM a0, .sl (.list .lit) ([] : List (List LitD)), .sl .step b1.proof] .bool fun c21 =>
 R (dB c21))
 (R (dB false)))
 (R (dB false)))
 (sel (decide (b1.verdict = 3))
 (Call1 Tryz.prog zS [.agg [dI b1.verdict, .sl .int b1.values, .sl .step b1.proof]] .bool fun c22 =>
 sel c22
 (sel (decide (a1 < 300))
 (R (dB true))
 (Call1 Tryz.prog zWb [dM a0] .int fun c23 =>
 R (dB (decide (100 < c23)))))
 (R (dB false)))
 (R (dB false))))))))
 (Call1 Tryz.prog zUb [] .bool fun c24 =>
 sel (!c24)
 (R (dB false))
 (sel (!decide (b2 = c3))
 (R (dB false))
 (sel (!decide (c3 = 0))
 (sel (decide (b1.verdict = 0))
 (Call1 Tryz.prog zS [.agg [dI b1.verdict, .sl .int b1.values, .sl .step b1.proof]] .bool fun c25 =>
 R (dB c25))
 (R (dB false)))
 (sel (decide (b1.verdict = 1))
 (sel (!decide ((b1.values.length : Int) = (a0.vars.length : Int)))
 (R (dB false))
 (Call1 Tryz.prog zVb [dM a0, .sl .int b1.values] .bool fun c26 =>
 sel (!c26)
 (R (dB false))
 (sel (decide (a0.goal = 0))
 (R (dB (decide ((b1.proof.length : Int) = 0))))
 (Call1 Tryz.prog zTb [dM a0, .sl .int b1.values] (.list .lit) fun c27 =>
 Call1 Tryz.prog zT [dM a0, .sl (.list .lit) ([c27]), .sl .step b1.proof] .int fun c28 =>
 sel (decide (c28 = 0))
 (Call1 Tryz.prog zU [dM a0, .sl (.list .lit) ([c27]), .sl .step b1.proof] .bool fun c29 =>
 R (dB c29))
 (R (dB false))))))
 (sel (decide (b1.verdict = 2))
 (sel (decide ((b1.values.length : Int) = 0))
 (Call1 Tryz.prog zT [dM a0, .sl (.list .lit) ([] : List (List LitD)), .sl .step b1.proof] .int fun c30 =>
 sel (decide (c30 = 0))
 (Call1 Tryz.prog zU [dM a0, .sl (.list .lit) ([] : List (List LitD)), .sl .step b1.proof] .bool fun c31 =>
 R (dB c31))
 (R (dB false)))
 (R (dB false)))
 (sel (decide (b1.verdict = 3))
 (Call1 Tryz.prog zS [.agg [dI b1.verdict, .sl .int b1.values, .sl .step b1.proof]] .bool fun c32 =>
 sel c32
 (sel (decide (a1 < 300))
 (R (dB true))
 (Call1 Tryz.prog zWb [dM a0] .int fun c33 =>
 R (dB (decide (100 < c33)))))
 (R (dB false)))
 (R (dB false))))))))))
 (Call1 Tryz.prog zUb [] .bool fun c34 =>
 sel (!c34)
 (R (dB false))
 (sel (!decide (b2 = c3))
 (R (dB false))
 (sel (!decide (c3 = 0))
 (sel (decide (b1.verdict = 0))
 (Call1 Tryz.prog zS [.agg [dI b1.verdict, .sl .int b1.values, .sl .step b1.proof]] .bool fun c35 =>
 R (dB c35))
 (R (dB false)))
 (sel (decide (b1.verdict = 1))
 (sel (!decide ((b1.values.length : Int) = (a0.vars.length : Int)))
 (R (dB false))
 (Call1 Tryz.prog zVb [dM a0, .sl .int b1.values] .bool fun c36 =>
 sel (!c36)
 (R (dB false))
 (sel (decide (a0.goal = 0))
 (R (dB (decide ((b1.proof.length : Int) = 0))))
 (Call1 Tryz.prog zTb [dM a0, .sl .int b1.values] (.list .lit) fun c37 =>
 Call1 Tryz.prog zT [dM a0, .sl (.list .lit) ([c37]), .sl .step b1.proof] .int fun c38 =>
 sel (decide (c38 = 0))
 (Call1 Tryz.prog zU [dM a0, .sl (.list .lit) ([c37]), .sl .step b1.proof] .bool fun c39 =>
 R (dB c39))
 (R (dB false))))))
 (sel (decide (b1.verdict = 2))
 (sel (decide ((b1.values.length : Int) = 0))
 (Call1 Tryz.prog zT [dM a0, .sl (.list .lit) ([] : List (List LitD)), .sl .step b1.proof] .int fun c40 =>
 sel (decide (c40 = 0))
 (Call1 Tryz.prog zU [dM a0, .sl (.list .lit) ([] : List (List LitD)), .sl .step b1.proof] .bool fun c41 =>
 R (dB c41))
 (R (dB false)))
 (R (dB false)))
 (sel (decide (b1.verdict = 3))
 (Call1 Tryz.prog zS [.agg [dI b1.verdict, .sl .int b1.values, .sl .step b1.proof]] .bool fun c42 =>
 sel c42
 (sel (decide (a1 < 300))
 (R (dB true))
 (Call1 Tryz.prog zWb [dM a0] .int fun c43 =>
 R (dB (decide (100 < c43)))))
 (R (dB false)))
 (R (dB false))))))))) := by kernel_rfl
theorem zgw (a0 : MdlD) (a1 : Int) : SatI zYm Tryz.f7 zql [dM a0, dI a1] := satD Tryz.func7 (by kernel_rfl) Tryz.ntmps7 rfl
def zZm : Ann := { own := [3], live := [], n := 45, nils := [], pubs := [] }
theorem zhw  (R : D → Prop) : FD zZm Tryz.f21 [] R =
 (Call1 Tryz.prog zFd [] .mdl fun c1 =>
 Call2 Tryz.prog zDd [dM c1, .sl .int ([0, 2])] (.list .lit) .int fun b2 b3 =>
 Call1 Tryz.prog zFd [] .mdl fun c4 =>
 Call2 Tryz.prog zEd [dM c4, dI 20] .ans .int fun b5 b6 =>
 sel (decide (b3 = 0))
 (sel (decide (b6 = 0))
 (Call1 Tryz.prog z8e [.sl .lit b2, .sl .lit ([(⟨1, 1, 1⟩ : LitD)])] .bool fun c7 =>
 sel c7
 (sel (decide (b5.verdict = 1))
 (Call1 Tryz.prog zQc [.sl .int b5.values, .sl .int ([0, 1])] .bool fun c8 =>
 sel c8
 (R (dB (decide (0 < (b5.proof.length : Int)))))
 (R (dB false)))
 (R (dB false)))
 (R (dB false)))
 (R (dB false)))
 (R (dB false))) := by kernel_rfl
theorem ziw  : SatI zZm Tryz.f21 zUb [] := satD Tryz.func21 (by kernel_rfl) Tryz.ntmps21 rfl
def z0m : Ann := { own := [], live := [], n := 13, nils := [], pubs := [] }
theorem zjw (a0 : AnsD) (R : D → Prop) : FD z0m Tryz.f24 [.agg [dI a0.verdict, .sl .int a0.values, .sl .step a0.proof]] R =
 (sel (decide ((a0.values.length : Int) = 0))
 (R (dB (decide ((a0.proof.length : Int) = 0))))
 (R (dB false))) := by kernel_rfl
theorem zkw (a0 : AnsD) : SatI z0m Tryz.f24 zS [.agg [dI a0.verdict, .sl .int a0.values, .sl .step a0.proof]] := satD Tryz.func24 (by kernel_rfl) Tryz.ntmps24 rfl
def z1m : Ann := { own := [0], live := [], n := 9, nils := [], pubs := [] }
theorem zlw  (R : D → Prop) : FD z1m Tryz.f35 [] R =
 (R (.agg [.sl .var ([(⟨(⟨#[120]⟩ : ByteArray), 0, 2⟩ : VarD), (⟨(⟨#[121]⟩ : ByteArray), 0, 2⟩ : VarD)]), .sl .con ([(⟨1, [0, 1], [1, -1], -1, ([] : List (List Int)), ([] : List LitD)⟩ : ConD)]), dI 1, dI 1])) := by kernel_rfl
theorem zmw  : SatI z1m Tryz.f35 zFd [] := satD Tryz.func35 (by kernel_rfl) Tryz.ntmps35 rfl
end Go.Proofs.YtajnbkhgnppckaaGreatDoor
