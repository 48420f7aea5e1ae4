/- What the functions of a package do, as equations of plain propositions: printed by a program that carries the code out on symbols. -/
import Derived.Test.YtajnbkhgnppckaaGreatDoorWEv
namespace Go.Proofs.YtajnbkhgnppckaaGreatDoor
open Go.RowKit
set_option linter.unusedVariables false
set_option maxRecDepth 100000
def zfn : Ann := { own := [5], live := [], n := 101, nils := [], pubs := [] }
theorem zQw (a0 : MdlD) (a1 : Int) (R : D → Prop) : FD zfn Tryz.f8 [dM a0, dI a1] R =
 (Call2 Tryz.prog zWc [dM a0, dI a1] .ans .int fun s1 s2 =>
 Call1 Tryz.prog zjf [dM a0] .int fun c3 =>
 sel (decide (c3 = 0))
 (sel (decide (a1 < 0))
 (Call1 Tryz.prog zTb [] .bool fun c4 =>
 sel (!c4)
 (R (dB false))
 (Call1 Tryz.prog zYb [] .bool fun c5 =>
 sel (!c5)
 (R (dB false))
 (sel (!decide (s2 = 3))
 (R (dB false))
 (sel (!decide ((3 : Int) = 0))
 (sel (decide (s1.verdict = 0))
 (Call1 Tryz.prog zU [.agg [dI s1.verdict, .sl .int s1.values, .sl .step s1.proof]] .bool fun c6 =>
 R (dB c6))
 (R (dB false)))
 (sel (decide (s1.verdict = 1))
 (sel (decide ((s1.values.length : Int) = (a0.vars.length : Int)))
 (Call1 Tryz.prog zUb [dM a0, .sl .int s1.values] .bool fun c7 =>
 sel c7
 (R (dB (decide ((s1.proof.length : Int) = 0))))
 (R (dB false)))
 (R (dB false)))
 (sel (decide (s1.verdict = 2))
 (sel (decide ((s1.values.length : Int) = 0))
 (Call1 Tryz.prog zVb [dM a0, .sl (.list .lit) ([] : List (List LitD)), .sl .step s1.proof] .int fun c8 =>
 sel (decide (c8 = 0))
 (Call1 Tryz.prog zWb [dM a0, .sl (.list .lit) ([] : List (List LitD)), .sl .step s1.proof] .bool fun c9 =>
 R (dB c9))
 (R (dB false)))
 (R (dB false)))
 (sel (decide (s1.verdict = 3))
 (Call1 Tryz.prog zU [.agg [dI s1.verdict, .sl .int s1.values, .sl .step s1.proof]] .bool fun c10 =>
 sel c10
 (sel (decide (a1 < 300))
 (R (dB true))
 (Call1 Tryz.prog zXb [dM a0] .int fun c11 =>
 R (dB (decide (100 < c11)))))
 (R (dB false)))
 (R (dB false)))))))))
 (sel (decide (300 < a1))
 (Call1 Tryz.prog zTb [] .bool fun c12 =>
 sel (!c12)
 (R (dB false))
 (Call1 Tryz.prog zYb [] .bool fun c13 =>
 sel (!c13)
 (R (dB false))
 (sel (!decide (s2 = 3))
 (R (dB false))
 (sel (!decide ((3 : Int) = 0))
 (sel (decide (s1.verdict = 0))
 (Call1 Tryz.prog zU [.agg [dI s1.verdict, .sl .int s1.values, .sl .step s1.proof]] .bool fun c14 =>
 R (dB c14))
 (R (dB false)))
 (sel (decide (s1.verdict = 1))
 (sel (decide ((s1.values.length : Int) = (a0.vars.length : Int)))
 (Call1 Tryz.prog zUb [dM a0, .sl .int s1.values] .bool fun c15 =>
 sel c15
 (R (dB (decide ((s1.proof.length : Int) = 0))))
 (R (dB false)))
 (R (dB false)))
 (sel (decide (s1.verdict = 2))
 (sel (decide ((s1.values.length : Int) = 0))
 (Call1 Tryz.prog zVb [dM a0, .sl (.list .lit) ([] : List (List LitD)), .sl .step s1.proof] .int fun c16 =>
 sel (decide (c16 = 0))
 (Call1 Tryz.prog zWb [dM a0, .sl (.list .lit) ([] : List (List LitD)), .sl .step s1.proof] .bool fun c17 =>
 R (dB c17))
 (R (dB false)))
 (R (dB false)))
 (sel (decide (s1.verdict = 3))
 (Call1 Tryz.prog zU [.agg [dI s1.verdict, .sl .int s1.values, .sl .step s1.proof]] .bool fun c18 =>
 sel c18
 (sel (decide (a1 < 300))
 (R (dB true))
 (Call1 Tryz.prog zXb [dM a0] .int fun c19 =>
 R (dB (decide (100 < c19)))))
 (R (dB false)))
 (R (dB false)))))))))
 (Call1 Tryz.prog zTb [] .bool fun c20 =>
 sel (!c20)
 (R (dB false))
 (Call1 Tryz.prog zYb [] .bool fun c21 =>
 sel (!c21)
 (R (dB false))
 (sel (!decide (s2 = c3))
 (R (dB false))
 (sel (!decide (c3 = 0))
 (sel (decide (s1.verdict = 0))
 (Call1 Tryz.prog zU [.agg [dI s1.verdict, .sl .int s1.values, .sl .step s1.proof]] .bool fun c22 =>
 R (dB c22))
 (R (dB false)))
 (sel (decide (s1.verdict = 1))
 (sel (decide ((s1.values.length : Int) = (a0.vars.length : Int)))
 (Call1 Tryz.prog zUb [dM a0, .sl .int s1.values] .bool fun c23 =>
 sel c23
 (R (dB (decide ((s1.proof.length : Int) = 0))))
 (R (dB false)))
 (R (dB false)))
 (sel (decide (s1.verdict = 2))
 (sel (decide ((s1.values.length : Int) = 0))
 (Call1 Tryz.prog zVb [dM a0, .sl (.list .lit) ([] : List (List LitD)), .sl .step s1.proof] .int fun c24 =>
 sel (decide (c24 = 0))
 (Call1 Tryz.prog zWb [dM a0, .sl (.list .lit) ([] : List (List LitD)), .sl .step s1.proof] .bool fun c25 =>
 R (dB c25))
 (R (dB false)))
 (R (dB false)))
 (sel (decide (s1.verdict = 3))
 (Call1 Tryz.prog zU [.agg [dI s1.verdict, .sl .int s1.values, .sl .step s1.proof]] .bool fun c26 =>
 sel c26
 (sel (decide (a1 < 300))
 (R (dB true))
 (Call1 Tryz.prog zXb [dM a0] .int fun c27 =>
 R (dB (decide (100 < c27)))))
 (R (dB false)))
 (R (dB false)))))))))))
 (Call1 Tryz.prog zTb [] .bool fun c28 =>
 sel (!c28)
 (R (dB false))
 (Call1 Tryz.prog zYb [] .bool fun c29 =>
 sel (!c29)
 (R (dB false))
 (sel (!decide (s2 = c3))
 (R (dB false))
 (sel (!decide (c3 = 0))
 (sel (decide (s1.verdict = 0))
 (Call1 Tryz.prog zU [.agg [dI s1.verdict, .sl .int s1.values, .sl .step s1.proof]] .bool fun c30 =>
 R (dB c30))
 (R (dB false)))
 (sel (decide (s1.verdict = 1))
 (sel (decide ((s1.values.length : Int) = (a0.vars.length : Int)))
 (Call1 Tryz.prog zUb [dM a0, .sl .int s1.values] .bool fun c31 =>
 sel c31
 (R (dB (decide ((s1.proof.length : Int) = 0))))
 (R (dB false)))
 (R (dB false)))
 (sel (decide (s1.verdict = 2))
 (sel (decide ((s1.values.length : Int) = 0))
 (Call1 Tryz.prog zVb [dM a0, .sl (.list .lit) ([] : List (List LitD)), .sl .step s1.proof] .int fun c32 =>
 sel (decide (c32 = 0))
 (Call1 Tryz.prog zWb [dM a0, .sl (.list .lit) ([] : List (List LitD)), .sl .step s1.proof] .bool fun c33 =>
 R (dB c33))
 (R (dB false)))
 (R (dB false)))
 (sel (decide (s1.verdict = 3))
 (Call1 Tryz.prog zU [.agg [dI s1.verdict, .sl .int s1.values, .sl .step s1.proof]] .bool fun c34 =>
 sel c34
 (sel (decide (a1 < 300))
 (R (dB true))
 (Call1 Tryz.prog zXb [dM a0] .int fun c35 =>
 R (dB (decide (100 < c35)))))
 (R (dB false)))
 (R (dB false)))))))))) := by kernel_rfl
theorem zRw (a0 : MdlD) (a1 : Int) : SatI zfn Tryz.f8 zAl [dM a0, dI a1] := satD Tryz.func8 (by kernel_rfl) Tryz.ntmps8 rfl
def zgn : Ann := { own := [1], live := [], n := 45, nils := [], pubs := [] }
theorem zSw  (R : D → Prop) : FD zgn Tryz.f11 [] R =
 (Call1 Tryz.prog zzb [] .mdl fun c1 =>
 Call2 Tryz.prog zWc [dM c1, dI 9] .ans .int fun s2 s3 =>
 Call1 Tryz.prog zzb [] .mdl fun c4 =>
 Call3 Tryz.prog zMd [dM c4] (.list (.list .int)) .bool .int fun s5 s6 s7 =>
 sel (decide (s3 = 0))
 (sel (decide (s7 = 0))
 (sel (decide (s2.verdict = 1))
 (sel (decide ((s2.values.length : Int) = 2))
 (sel s6
 (Call1 Tryz.prog zNd [dS s5, dS ([[0, 1], [0, 2], [1, 2]])] .bool fun c8 =>
 R (dB c8))
 (R (dB false)))
 (R (dB false)))
 (R (dB false)))
 (R (dB false)))
 (R (dB false))) := by kernel_rfl
theorem zTw  : SatI zgn Tryz.f11 zTb [] := satD Tryz.func11 (by kernel_rfl) Tryz.ntmps11 rfl
def zhn : Ann := { own := [], live := [], n := 13, nils := [], pubs := [] }
theorem zUw (a0 : AnsD) (R : D → Prop) : FD zhn Tryz.f24 [.agg [dI a0.verdict, .sl .int a0.values, .sl .step a0.proof]] R =
 (sel (decide ((a0.values.length : Int) = 0))
 (R (dB (decide ((a0.proof.length : Int) = 0))))
 (R (dB false))) := by kernel_rfl
theorem zVw (a0 : AnsD) : SatI zhn Tryz.f24 zU [.agg [dI a0.verdict, .sl .int a0.values, .sl .step a0.proof]] := satD Tryz.func24 (by kernel_rfl) Tryz.ntmps24 rfl
def zin : Ann := { own := [], live := [], n := 51, nils := [], pubs := [] }
theorem zWw  (R : D → Prop) : FD zin Tryz.f29 [] R =
 (Call1 Tryz.prog zzb [] .mdl fun c1 =>
 Call2 Tryz.prog zRd [dM c1, dI 0, .sl .int ([0, 1])] .bool .int fun m2 m3 =>
 Call1 Tryz.prog zzb [] .mdl fun c4 =>
 Call2 Tryz.prog zOd [dM c4, .sl .int ([2, 1])] .bool .int fun m5 m6 =>
 Call1 Tryz.prog zzb [] .mdl fun c7 =>
 Call2 Tryz.prog zSd [dM c7, dI 0] (.list .int) .int fun m8 m9 =>
 Call1 Tryz.prog zzb [] .mdl fun c10 =>
 Call1 Tryz.prog zAb [dM c10] .int fun m11 =>
 sel (decide (m11 = 0))
 (sel (decide (m3 = 0))
 (sel (decide (m6 = 0))
 (sel (decide (m9 = 0))
 (sel m2
 (sel (!m5)
 (Call1 Tryz.prog ztc [.sl .int m8, .sl .int ([0, 1])] .bool fun c12 =>
 R (dB c12))
 (R (dB false)))
 (R (dB false)))
 (R (dB false)))
 (R (dB false)))
 (R (dB false)))
 (R (dB false))) := by kernel_rfl
theorem zXw  : SatI zin Tryz.f29 zYb [] := satD Tryz.func29 (by kernel_rfl) Tryz.ntmps29 rfl
def zjn : Ann := { own := [0], live := [], n := 9, nils := [], pubs := [] }
theorem zYw  (R : D → Prop) : FD zjn Tryz.f35 [] R =
 (R (.agg [.sl .var ([(⟨(⟨#[120]⟩ : ByteArray), 0, 2⟩ : VarD), (⟨(⟨#[121]⟩ : ByteArray), 0, 2⟩ : VarD)]), .sl .con ([(⟨1, [0, 1], [1, -1], -1, ([] : List (List Int)), ([] : List LitD)⟩ : ConD)]), dI 1, dI 1])) := by kernel_rfl
theorem zZw  : SatI zjn Tryz.f35 zzb [] := satD Tryz.func35 (by kernel_rfl) Tryz.ntmps35 rfl
end Go.Proofs.YtajnbkhgnppckaaGreatDoor
