/- What the functions of a package do, as equations of plain propositions: printed by a program that carries the code out on symbols. -/
import Derived.Test.YtajnbkhgnppckaaGreatDoorWEv
namespace Go.Proofs.YtajnbkhgnppckaaGreatDoor
open Go.RowKit
set_option linter.unusedVariables false
set_option maxRecDepth 100000
def zlg : Ann := { own := [], live := [(0, ([1, 3, 8, 9], []))], n := 39, nils := [], pubs := [(31088, 999999)] }
def zEd (a0 : MdlD) (a1 : List (List LitD)) (R : D → Prop) (n0 : Nat) (d3 : List LitD) (i4 : Int) : Prop := LP zlg Tryz.f52 [1, 1, 1, 0, 1, 0, 0] 0 n0 ⟨[(1, .sl (.list .lit) a1), (3, .iptr [.sl .var a0.vars, .sl .con a0.cons, dI a0.goal, dI a0.var] 0), (8, .sl .lit d3), (9, dI i4)], []⟩ (blockK 0 (sK zlg Tryz.f52 [1, 1, 1, 1] 0 (eK Tryz.f52 R)))
theorem zlm (a0 : MdlD) (a1 : List (List LitD)) (R : D → Prop) (n0 : Nat) (d3 : List LitD) (i4 : Int) : zEd a0 a1 R (n0 + 1) d3 i4 =
 (sel (decide (i4 < (d3.length : Int)))
 (inSl 0 i4 d3.length = true ∧
 inSl (w64 (i4 + 1)) (d3.length : Int) d3.length = true ∧
 Call1 Tryz.prog zre [.sl (.list .lit) ([(d3.take i4.toNat).drop 0, (d3.take (d3.length : Int).toNat).drop (w64 (i4 + 1)).toNat])] (.list .lit) fun s5 =>
 Call1 Tryz.prog zXc [dM a0, .sl (.list .lit) a1, .sl .lit s5] .bool fun l6 =>
 sel l6
 (zEd a0 a1 R n0 s5 i4)
 (zEd a0 a1 R n0 d3 (w64 (i4 + 1))))
 (R (.tup [.sl .lit d3, dB true]))) := by kernel_rfl
theorem z1v (a0 : MdlD) (a1 : List (List LitD)) (a2 : List LitD) (R : D → Prop) : FD zlg Tryz.f52 [dM a0, .sl (.list .lit) a1, .sl .lit a2] R =
 (Call1 Tryz.prog zXc [dM a0, .sl (.list .lit) a1, .sl .lit a2] .bool fun l1 =>
 sel (!l1)
 (R (.tup [.sl .lit ([] : List LitD), dB false]))
 (∃ l2 : List LitD, SatH Tryz.prog zqe [.sl .lit a2] [] (.own 3000) [(3000, .row 86 .lit l2)] ∧
 ∃ n0, zEd a0 a1 R n0 l2 0)) := by kernel_rfl
theorem z2v (a0 : MdlD) (a1 : List (List LitD)) (a2 : List LitD) : SatI zlg Tryz.f52 zge [dM a0, .sl (.list .lit) a1, .sl .lit a2] := satD Tryz.func52 (by kernel_rfl) Tryz.ntmps52 rfl
def zmm : Ann := { own := [14, 25], live := [], n := 26, nils := [(14, (6, (71, .step)))], pubs := [] }
theorem z3v (a0 : MdlD) (a1 : List (List LitD)) (a2 : List LitD) (R : D → Prop) : FD zmm Tryz.f55 [dM a0, .sl (.list .lit) a1, .sl .lit a2] R =
 (Call1 Tryz.prog zYc [dM a0, .sl .lit a2] (.list (.list .int)) fun l1 =>
 ∃ r2 : List (List Int), ∃ r3 : List StepD, SatH Tryz.prog zte [.ptr 1000 0] [(1000, .cells [.sl .var a0.vars, .sl .con a0.cons, dI a0.goal, dI a0.var, .sl (.list .lit) a1, dS l1, .own 2000]), (2000, .row 71 .step ([] : List StepD))] (.tup []) [(1000, .cells [.sl .var a0.vars, .sl .con a0.cons, dI a0.goal, dI a0.var, .sl (.list .lit) a1, dS r2, .own 2000]), (2000, .row 71 .step r3)] ∧
 Call1 Tryz.prog zVc [.sl .lit a2] (.list .lit) fun l4 =>
 room .step (r3.length + ([(⟨2, 0, l4⟩ : StepD)]).length) = true ∧
 R (.sl .step (r3 ++ ([(⟨2, 0, l4⟩ : StepD)])))) := by kernel_rfl
theorem z4v (a0 : MdlD) (a1 : List (List LitD)) (a2 : List LitD) : SatI zmm Tryz.f55 zie [dM a0, .sl (.list .lit) a1, .sl .lit a2] := satD Tryz.func55 (by kernel_rfl) Tryz.ntmps55 rfl
def zmg : Ann := { own := [3, 5, 16], live := [(0, ([3, 6, 7, 8], [3]))], n := 19, nils := [], pubs := [] }
def zng (a0 : List LitD) (R : D → Prop) (n0 : Nat) (v1 : Int) (out2 : List LitD) : Prop := LP zmg Tryz.f56 [1, 1, 0, 1, 0, 0] 0 n0 ⟨[(3, .own 3), (6, .sl .lit a0), (7, dI (a0.length : Int)), (8, dI v1)], [(3, .row 86 .lit out2)]⟩ (blockK 0 (sK zmg Tryz.f56 [1, 1, 1] 0 (eK Tryz.f56 R)))
theorem z5v (a0 : List LitD) (R : D → Prop) (n0 : Nat) (v1 : Int) (out2 : List LitD) : zng a0 R (n0 + 1) v1 out2 =
 (sel (decide (v1 < (a0.length : Int)))
 (inb v1 a0.length = true ∧
 Call1 Tryz.prog zue [dL (at' .lit a0 v1.toNat)] .lit fun l3 =>
 room .lit (out2.length + ([l3]).length) = true ∧
 zng a0 R n0 (w64 (v1 + 1)) (out2 ++ ([l3])))
 (R (.sl .lit out2))) := by kernel_rfl
theorem z6v (a0 : List LitD) (R : D → Prop) : FD zmg Tryz.f56 [.sl .lit a0] R =
 (∃ n0, zng a0 R n0 0 ([] : List LitD)) := by kernel_rfl
theorem z7v (a0 : List LitD) : SatI zmg Tryz.f56 zVc [.sl .lit a0] := satD Tryz.func56 (by kernel_rfl) Tryz.ntmps56 rfl
def znm : Ann := { own := [], live := [], n := 14, nils := [], pubs := [] }
theorem z8v (a0 : MdlD) (a1 : List (List LitD)) (a2 : List LitD) (R : D → Prop) : FD znm Tryz.f81 [dM a0, .sl (.list .lit) a1, .sl .lit a2] R =
 (Call1 Tryz.prog zYc [dM a0, .sl .lit a2] (.list (.list .int)) fun l1 =>
 Call1 Tryz.prog zeb [dM a0, dS l1, dB true, .sl (.list .lit) a1] (.list (.list .int)) fun f2 =>
 Call1 Tryz.prog zf [dS f2] .bool fun s3 =>
 R (dB s3)) := by kernel_rfl
theorem z9v (a0 : MdlD) (a1 : List (List LitD)) (a2 : List LitD) : SatI znm Tryz.f81 zXc [dM a0, .sl (.list .lit) a1, .sl .lit a2] := satD Tryz.func81 (by kernel_rfl) Tryz.ntmps81 rfl
def zog : Ann := { own := [7], live := [(0, ([5, 10, 11, 12], []))], n := 21, nils := [], pubs := [] }
def zpg (a1 : List LitD) (R : D → Prop) (n0 : Nat) (s2 : List (List Int)) (v3 : Int) : Prop := LP zog Tryz.f85 [1, 1, 0, 1, 0, 0] 0 n0 ⟨[(5, dS s2), (10, .sl .lit a1), (11, dI (a1.length : Int)), (12, dI v3)], []⟩ (blockK 0 (sK zog Tryz.f85 [1, 1, 1] 0 (eK Tryz.f85 R)))
theorem zaw (a1 : List LitD) (R : D → Prop) (n0 : Nat) (s2 : List (List Int)) (v3 : Int) : zpg a1 R (n0 + 1) s2 v3 =
 (sel (decide (v3 < (a1.length : Int)))
 (inb v3 a1.length = true ∧
 Call1 Tryz.prog zFe [dS s2, dL (at' .lit a1 v3.toNat)] (.list (.list .int)) fun l4 =>
 zpg a1 R n0 l4 (w64 (v3 + 1)))
 (R (dS s2))) := by kernel_rfl
theorem zbw (a0 : MdlD) (a1 : List LitD) (R : D → Prop) : FD zog Tryz.f85 [dM a0, .sl .lit a1] R =
 (Call1 Tryz.prog zRb [dM a0] (.list (.list .int)) fun s1 =>
 ∃ n0, zpg a1 R n0 s1 0) := by kernel_rfl
theorem zcw (a0 : MdlD) (a1 : List LitD) : SatI zog Tryz.f85 zYc [dM a0, .sl .lit a1] := satD Tryz.func85 (by kernel_rfl) Tryz.ntmps85 rfl
def zCc : Ann := { own := [], live := [(0, ([0, 2], [1000, 2000])), (2, ([0, 2, 3], [1000, 2000]))], n := 59, nils := [], pubs := [] }
def zFd (R : D → List (Nat × HObj) → Prop) (n0 : Nat) (n2 : Nat) (changed10 : Bool) (i11 : Int) (c12 : List VarD) (c13 : List ConD) (c14 : Int) (c15 : Int) (c16 : List (List LitD)) (c17 : List (List Int)) (l18 : List StepD) : Prop := LP zCc Tryz.f86 [1, 0, 0, 1, 0, 1, 0, 1, 0, 0] 2 n2 ⟨[(0, .ptr 1000 0), (2, dB changed10), (3, dI i11)], [(1000, .cells [.sl .var c12, .sl .con c13, dI c14, dI c15, .sl (.list .lit) c16, dS c17, .own 2000]), (2000, .row 71 .step l18)]⟩ (blockK 2 (sK zCc Tryz.f86 [1, 0, 0, 1, 0, 1, 1] 1 (blockK 1 (iK zCc Tryz.f86 [1, 0, 0] 0 n0 (blockK 0 (eH Tryz.f86 [.ptr 1000 0] false R))))))
def zT (R : D → List (Nat × HObj) → Prop) (n0 : Nat) (changed1 : Bool) (c2 : List VarD) (c3 : List ConD) (c4 : Int) (c5 : Int) (c6 : List (List LitD)) (c7 : List (List Int)) (l8 : List StepD) : Prop := LP zCc Tryz.f86 [1, 0, 0] 0 n0 ⟨[(0, .ptr 1000 0), (2, dB changed1)], [(1000, .cells [.sl .var c2, .sl .con c3, dI c4, dI c5, .sl (.list .lit) c6, dS c7, .own 2000]), (2000, .row 71 .step l8)]⟩ (blockK 0 (eH Tryz.f86 [.ptr 1000 0] false R))
theorem zom (R : D → List (Nat × HObj) → Prop) (n0 : Nat) (n2 : Nat) (changed10 : Bool) (i11 : Int) (c12 : List VarD) (c13 : List ConD) (c14 : Int) (c15 : Int) (c16 : List (List LitD)) (c17 : List (List Int)) (l18 : List StepD) : zFd R n0 (n2 + 1) changed10 i11 c12 c13 c14 c15 c16 c17 l18 =
 (sel (decide (i11 < (c13.length : Int)))
 (Call1 Tryz.prog zf [dS c17] .bool fun s19 =>
 sel (!s19)
 (∃ c20 : Bool, ∃ c21 : List (List Int), ∃ c22 : List StepD, SatH Tryz.prog zGe [.ptr 1000 0, dI i11] [(1000, .cells [.sl .var c12, .sl .con c13, dI c14, dI c15, .sl (.list .lit) c16, dS c17, .own 2000]), (2000, .row 71 .step l18)] (dB c20) [(1000, .cells [.sl .var c12, .sl .con c13, dI c14, dI c15, .sl (.list .lit) c16, dS c21, .own 2000]), (2000, .row 71 .step c22)] ∧
 sel c20
 (zFd R n0 n2 true (w64 (i11 + 1)) c12 c13 c14 c15 c16 c21 c22)
 (zFd R n0 n2 changed10 (w64 (i11 + 1)) c12 c13 c14 c15 c16 c21 c22))
 (Call1 Tryz.prog zeb [.agg [.sl .var c12, .sl .con c13, dI c14, dI c15], dS c17, dB false, .sl (.list .lit) c16] (.list (.list .int)) fun f23 =>
 Call1 Tryz.prog zUb [dS f23, dS c17, .clo zS none []] .bool fun s24 =>
 sel (!s24)
 (zT R n0 true c12 c13 c14 c15 c16 f23 l18)
 (zT R n0 changed10 c12 c13 c14 c15 c16 f23 l18)))
 (Call1 Tryz.prog zeb [.agg [.sl .var c12, .sl .con c13, dI c14, dI c15], dS c17, dB false, .sl (.list .lit) c16] (.list (.list .int)) fun f25 =>
 Call1 Tryz.prog zUb [dS f25, dS c17, .clo zS none []] .bool fun s26 =>
 sel (!s26)
 (zT R n0 true c12 c13 c14 c15 c16 f25 l18)
 (zT R n0 changed10 c12 c13 c14 c15 c16 f25 l18))) := by kernel_rfl
theorem zpm (R : D → List (Nat × HObj) → Prop) (n0 : Nat) (changed1 : Bool) (c2 : List VarD) (c3 : List ConD) (c4 : Int) (c5 : Int) (c6 : List (List LitD)) (c7 : List (List Int)) (l8 : List StepD) : zT R (n0 + 1) changed1 c2 c3 c4 c5 c6 c7 l8 =
 (sel changed1
 (Call1 Tryz.prog zf [dS c7] .bool fun s9 =>
 sel (!s9)
 (∃ n2, zFd R n0 n2 false 0 c2 c3 c4 c5 c6 c7 l8)
 (R (.tup []) [(1000, .cells [.sl .var c2, .sl .con c3, dI c4, dI c5, .sl (.list .lit) c6, dS c7, .own 2000]), (2000, .row 71 .step l8)]))
 (R (.tup []) [(1000, .cells [.sl .var c2, .sl .con c3, dI c4, dI c5, .sl (.list .lit) c6, dS c7, .own 2000]), (2000, .row 71 .step l8)])) := by kernel_rfl
theorem zdw (mvs0 : List VarD) (mcs0 : List ConD) (goal0 : Int) (mvar0 : Int) (l0 : List (List LitD)) (s0 : List (List Int)) (steps0 : List StepD) (R : D → List (Nat × HObj) → Prop) : FH zCc Tryz.f86 [.ptr 1000 0] [(1000, .cells [.sl .var mvs0, .sl .con mcs0, dI goal0, dI mvar0, .sl (.list .lit) l0, dS s0, .own 2000]), (2000, .row 71 .step steps0)] [.ptr 1000 0] false R =
 (∃ n0, zT R n0 true mvs0 mcs0 goal0 mvar0 l0 s0 steps0) := by kernel_rfl
theorem zew (mvs0 : List VarD) (mcs0 : List ConD) (goal0 : Int) (mvar0 : Int) (l0 : List (List LitD)) (s0 : List (List Int)) (steps0 : List StepD) : SatHI zCc Tryz.f86 zte [.ptr 1000 0] [(1000, .cells [.sl .var mvs0, .sl .con mcs0, dI goal0, dI mvar0, .sl (.list .lit) l0, dS s0, .own 2000]), (2000, .row 71 .step steps0)] [.ptr 1000 0] false := satHD Tryz.func86 (by kernel_rfl) Tryz.ntmps86 rfl
def zIb : Ann := { own := [52, 109], live := [(0, ([0, 1, 5, 8, 66, 67, 68], [1000, 2000])), (2, ([0, 1, 5, 8, 9, 66, 67, 68, 73, 74, 75], [1000, 2000]))], n := 119, nils := [], pubs := [] }
def zDc (s0 : List (List Int)) (i0 : Int) (R : D → List (Nat × HObj) → Prop) (f1 : List (List Int)) (n0 : Nat) (v7 : Int) (n2 : Nat) (v15 : Bool) (v16 : Int) (c17 : List VarD) (c18 : List ConD) (c19 : Int) (c20 : Int) (c21 : List (List LitD)) (c22 : List (List Int)) (l23 : List StepD) : Prop := LP zIb Tryz.f125 [1, 1, 1, 1, 0, 1, 0, 0, 1, 1, 0, 0, 1, 1, 0, 0] 2 n2 ⟨[(0, .ptr 1000 0), (1, dI i0), (5, dS f1), (8, dB v15), (9, dI v7), (66, dS s0), (67, dI (s0.length : Int)), (68, dI v7), (73, .sl .int (at' (.list .int) s0 v7.toNat)), (74, dI ((at' (.list .int) s0 v7.toNat).length : Int)), (75, dI v16)], [(1000, .cells [.sl .var c17, .sl .con c18, dI c19, dI c20, .sl (.list .lit) c21, dS c22, .own 2000]), (2000, .row 71 .step l23)]⟩ (blockK 2 (blockK 1 (sK zIb Tryz.f125 [1, 1, 1, 1, 0, 1, 0, 0, 1, 1, 1] 0 (iK zIb Tryz.f125 [1, 1, 1, 1, 0, 1, 0, 0] 0 n0 (blockK 0 (sK zIb Tryz.f125 [1, 1, 1, 1, 1] 0 (eH Tryz.f125 [.ptr 1000 0] false R)))))))
def zGd (s0 : List (List Int)) (i0 : Int) (R : D → List (Nat × HObj) → Prop) (f1 : List (List Int)) (n0 : Nat) (v6 : Bool) (v7 : Int) (c8 : List VarD) (c9 : List ConD) (c10 : Int) (c11 : Int) (c12 : List (List LitD)) (c13 : List (List Int)) (l14 : List StepD) : Prop := LP zIb Tryz.f125 [1, 1, 1, 1, 0, 1, 0, 0] 0 n0 ⟨[(0, .ptr 1000 0), (1, dI i0), (5, dS f1), (8, dB v6), (66, dS s0), (67, dI (s0.length : Int)), (68, dI v7)], [(1000, .cells [.sl .var c8, .sl .con c9, dI c10, dI c11, .sl (.list .lit) c12, dS c13, .own 2000]), (2000, .row 71 .step l14)]⟩ (blockK 0 (sK zIb Tryz.f125 [1, 1, 1, 1, 1] 0 (eH Tryz.f125 [.ptr 1000 0] false R)))
theorem zfw (s0 : List (List Int)) (i0 : Int) (R : D → List (Nat × HObj) → Prop) (f1 : List (List Int)) (n0 : Nat) (v7 : Int) (n2 : Nat) (v15 : Bool) (v16 : Int) (c17 : List VarD) (c18 : List ConD) (c19 : Int) (c20 : Int) (c21 : List (List LitD)) (c22 : List (List Int)) (l23 : List StepD) : zDc s0 i0 R f1 n0 v7 (n2 + 1) v15 v16 c17 c18 c19 c20 c21 c22 l23 =
 (sel (decide (v16 < ((at' (.list .int) s0 v7.toNat).length : Int)))
 (inb v16 (at' (.list .int) s0 v7.toNat).length = true ∧
 inb v7 f1.length = true ∧
 Call1 Tryz.prog zAb [.sl .int (at' (.list .int) f1 v7.toNat), dI (at' .int (at' (.list .int) s0 v7.toNat) v16.toNat)] .bool fun s24 =>
 sel s24
 (zDc s0 i0 R f1 n0 v7 n2 v15 (w64 (v16 + 1)) c17 c18 c19 c20 c21 c22 l23)
 (Call2 Tryz.prog zUe [.agg [.sl .var c17, .sl .con c18, dI c19, dI c20], dI i0, dS c22, dI v7, dI (at' .int (at' (.list .int) s0 v7.toNat) v16.toNat)] (.list .lit) .bool fun e25 e26 =>
 room .step (l23.length + ([(⟨1, i0, e25⟩ : StepD)]).length) = true ∧
 zDc s0 i0 R f1 n0 v7 n2 true (w64 (v16 + 1)) c17 c18 c19 c20 c21 c22 (l23 ++ ([(⟨1, i0, e25⟩ : StepD)]))))
 (zGd s0 i0 R f1 n0 v15 (w64 (v7 + 1)) c17 c18 c19 c20 c21 c22 l23)) := by kernel_rfl
theorem zgw (s0 : List (List Int)) (i0 : Int) (R : D → List (Nat × HObj) → Prop) (f1 : List (List Int)) (n0 : Nat) (v6 : Bool) (v7 : Int) (c8 : List VarD) (c9 : List ConD) (c10 : Int) (c11 : Int) (c12 : List (List LitD)) (c13 : List (List Int)) (l14 : List StepD) : zGd s0 i0 R f1 (n0 + 1) v6 v7 c8 c9 c10 c11 c12 c13 l14 =
 (sel (decide (v7 < (s0.length : Int)))
 (inb v7 s0.length = true ∧
 ∃ n2, zDc s0 i0 R f1 n0 v7 n2 v6 0 c8 c9 c10 c11 c12 c13 l14)
 (R (dB v6) [(1000, .cells [.sl .var c8, .sl .con c9, dI c10, dI c11, .sl (.list .lit) c12, dS f1, .own 2000]), (2000, .row 71 .step l14)])) := by kernel_rfl
theorem zhw (mvs0 : List VarD) (mcs0 : List ConD) (goal0 : Int) (mvar0 : Int) (l0 : List (List LitD)) (s0 : List (List Int)) (steps0 : List StepD) (i0 : Int) (R : D → List (Nat × HObj) → Prop) : FH zIb Tryz.f125 [.ptr 1000 0, dI i0] [(1000, .cells [.sl .var mvs0, .sl .con mcs0, dI goal0, dI mvar0, .sl (.list .lit) l0, dS s0, .own 2000]), (2000, .row 71 .step steps0)] [.ptr 1000 0] false R =
 (inb i0 mcs0.length = true ∧
 Call1 Tryz.prog zwb [dC (at' .con mcs0 i0.toNat), dS s0] (.list (.list .int)) fun f1 =>
 Call1 Tryz.prog zf [dS f1] .bool fun s2 =>
 sel s2
 (Call2 Tryz.prog zTe [.agg [.sl .var mvs0, .sl .con mcs0, dI goal0, dI mvar0], dI i0, dS s0] (.list .lit) .bool fun e3 e4 =>
 room .step (steps0.length + ([(⟨1, i0, e3⟩ : StepD)]).length) = true ∧
 Call1 Tryz.prog zG [dS s0] (.list (.list .int)) fun s5 =>
 R (dB true) [(1000, .cells [.sl .var mvs0, .sl .con mcs0, dI goal0, dI mvar0, .sl (.list .lit) l0, dS s5, .own 2000]), (2000, .row 71 .step (steps0 ++ ([(⟨1, i0, e3⟩ : StepD)])))])
 (∃ n0, zGd s0 i0 R f1 n0 false 0 mvs0 mcs0 goal0 mvar0 l0 s0 steps0)) := by kernel_rfl
theorem ziw (mvs0 : List VarD) (mcs0 : List ConD) (goal0 : Int) (mvar0 : Int) (l0 : List (List LitD)) (s0 : List (List Int)) (steps0 : List StepD) (i0 : Int) : SatHI zIb Tryz.f125 zGe [.ptr 1000 0, dI i0] [(1000, .cells [.sl .var mvs0, .sl .con mcs0, dI goal0, dI mvar0, .sl (.list .lit) l0, dS s0, .own 2000]), (2000, .row 71 .step steps0)] [.ptr 1000 0] false := satHD Tryz.func125 (by kernel_rfl) Tryz.ntmps125 rfl
end Go.Proofs.YtajnbkhgnppckaaGreatDoor
