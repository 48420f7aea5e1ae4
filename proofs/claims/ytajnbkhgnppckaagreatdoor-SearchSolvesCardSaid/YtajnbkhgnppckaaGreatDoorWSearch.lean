/- What the functions of a package do, as equations of plain propositions: printed by a program that carries the code out on symbols. -/
import Derived.Test.YtajnbkhgnppckaaGreatDoorWEv
namespace Go.Proofs.YtajnbkhgnppckaaGreatDoor
open Go.RowKit
set_option linter.unusedVariables false
set_option maxRecDepth 100000
def z3p : Ann := { own := [4], live := [], n := 43, nils := [], pubs := [], first := true }
theorem zpB (a0 : MdlD) (a1 : Int) (R : D → Prop) : FD z3p Tryz.f10 [dM a0, dI a1] R =
 (Call1 Tryz.prog zkf [dM a0, dI a1] .int fun s1 =>
 sel (!decide (s1 = 0))
 (R (.tup [.agg [dI 0, .sl .int ([] : List Int), .sl .step ([] : List StepD)], dI s1]))
 (∃ n2 : MdlD, ∃ n3 : Int, SatH Tryz.prog zlf [dM a0, dI a1] [] (.ptr 3000 0) [(3000, .cells [.sl .var n2.vars, .sl .con n2.cons, dI n2.goal, dI n2.var, .sl (.list .lit) ([] : List (List LitD)), dI n3, .nil, .nil, .own 3001]), (3001, .mp .str .int ([] : List (ByteArray × Int)))] ∧
 ∃ g4 : Int, ∃ g5 : List (List LitD), ∃ g6 : List StepD, ∃ g7 : List (ByteArray × Int), ∃ g8 : List Int, ∃ g9 : Int, SatH Tryz.prog zmf [.ptr 1000 0] [(1000, .cells [.sl .var n2.vars, .sl .con n2.cons, dI n2.goal, dI n2.var, .sl (.list .lit) ([] : List (List LitD)), dI n3, .own 2000, .own 2001, .own 1001]), (2000, .row 47 (.list .lit) ([] : List (List LitD))), (2001, .row 71 .step ([] : List StepD)), (1001, .mp .str .int ([] : List (ByteArray × Int)))] (.tup [.sl .int g8, dI g9]) [(1000, .cells [.sl .var n2.vars, .sl .con n2.cons, dI n2.goal, dI n2.var, .sl (.list .lit) ([] : List (List LitD)), dI g4, .own 2000, .own 2001, .own 1001]), (2000, .row 47 (.list .lit) g5), (2001, .row 71 .step g6), (1001, .mp .str .int g7)] ∧
 sel (decide (g9 = 2))
 (∃ p10 : List StepD, ∃ p11 : Bool, SatH Tryz.prog znf [.ptr 1000 0] [(1000, .cells [.sl .var n2.vars, .sl .con n2.cons, dI n2.goal, dI n2.var, .sl (.list .lit) ([] : List (List LitD)), dI g4, .own 2000, .own 2001, .own 1001]), (2000, .row 47 (.list .lit) g5), (2001, .row 71 .step g6), (1001, .mp .str .int g7)] (.tup [.sl .step p10, dB p11]) [(1000, .cells [.sl .var n2.vars, .sl .con n2.cons, dI n2.goal, dI n2.var, .sl (.list .lit) ([] : List (List LitD)), dI g4, .own 2000, .sl .step p10, .own 1001]), (2000, .row 47 (.list .lit) g5), (1001, .mp .str .int g7)] ∧
 sel (!p11)
 (R (.tup [.agg [dI 3, .sl .int ([] : List Int), .sl .step ([] : List StepD)], dI 0]))
 (R (.tup [.agg [dI g9, .sl .int ([] : List Int), .sl .step p10], dI 0])))
 (R (.tup [.agg [dI g9, .sl .int g8, .sl .step ([] : List StepD)], dI 0])))) := by kernel_rfl
theorem zqB (a0 : MdlD) (a1 : Int) : SatI z3p Tryz.f10 zWc [dM a0, dI a1] := satD Tryz.func10 (by kernel_rfl) Tryz.ntmps10 rfl
def z4p : Ann := { own := [15], live := [], n := 25, nils := [(15, (4, (26, .list .int)))], pubs := [], first := true }
theorem zrB (a0 : MdlD) (R : D → Prop) : FD z4p Tryz.f14 [dM a0] R =
 (Call1 Tryz.prog zAb [dM a0] .int fun m1 =>
 sel (!decide (m1 = 0))
 (R (.tup [dS ([] : List (List Int)), dB false, dI m1]))
 (Call1 Tryz.prog zZb [dM a0] (.list (.list .int)) fun s2 =>
 ∃ l3 : Bool, ∃ l4 : List (List Int), SatH Tryz.prog zPd [.ptr 1000 0, dS s2] [(1000, .cells [.sl .var a0.vars, .sl .con a0.cons, dI a0.goal, dI a0.var, .own 2000]), (2000, .row 26 (.list .int) ([] : List (List Int)))] (dB l3) [(1000, .cells [.sl .var a0.vars, .sl .con a0.cons, dI a0.goal, dI a0.var, .own 2000]), (2000, .row 26 (.list .int) l4)] ∧
 R (.tup [dS l4, dB l3, dI 0]))) := by kernel_rfl
theorem zsB (a0 : MdlD) : SatI z4p Tryz.f14 zMd [dM a0] := satD Tryz.func14 (by kernel_rfl) Tryz.ntmps14 rfl
def z5p : Ann := { own := [], live := [], n := 17, nils := [], pubs := [], first := true }
theorem ztB (a0 : MdlD) (a1 : Int) (R : D → Prop) : FD z5p Tryz.f31 [dM a0, dI a1] R =
 (Call1 Tryz.prog zAb [dM a0] .int fun m1 =>
 sel (!decide (m1 = 0))
 (R (dI m1))
 (sel (decide (a1 < 0))
 (R (dI 3))
 (sel (decide (300 < a1))
 (R (dI 3))
 (R (dI 0))))) := by kernel_rfl
theorem zuB (a0 : MdlD) (a1 : Int) : SatI z5p Tryz.f31 zkf [dM a0, dI a1] := satD Tryz.func31 (by kernel_rfl) Tryz.ntmps31 rfl
def z6p : Ann := { own := [4, 7, 9], live := [], n := 10, nils := [], pubs := [], first := true }
theorem zvB (m0 : MdlD) (fu0 : Int) (R : D → List (Nat × HObj) → Prop) : FH z6p Tryz.f32 [dM m0, dI fu0] [] [] true R =
 (R (.ptr 3000 0) [(3000, .cells [.sl .var m0.vars, .sl .con m0.cons, dI m0.goal, dI m0.var, .sl (.list .lit) ([] : List (List LitD)), dI fu0, .nil, .nil, .own 3001]), (3001, .mp .str .int ([] : List (ByteArray × Int)))]) := by kernel_rfl
theorem zwB (m0 : MdlD) (fu0 : Int) : SatHI z6p Tryz.f32 zlf [dM m0, dI fu0] [] [] true := satHD Tryz.func32 (by kernel_rfl) Tryz.ntmps32 rfl
def zAk : Ann := { own := [60], live := [(0, ([0], [1000, 1001, 2000, 2001]))], n := 77, nils := [], pubs := [], first := true }
def zxi (R : D → List (Nat × HObj) → Prop) (n0 : Nat) (c1 : List VarD) (c2 : List ConD) (c3 : Int) (c4 : Int) (c5 : List (List LitD)) (c6 : Int) (m7 : List (ByteArray × Int)) (l8 : List (List LitD)) (l9 : List StepD) : Prop := LP zAk Tryz.f33 [1, 0, 0] 0 n0 ⟨[(0, .ptr 1000 0)], [(1000, .cells [.sl .var c1, .sl .con c2, dI c3, dI c4, .sl (.list .lit) c5, dI c6, .own 2000, .own 2001, .own 1001]), (1001, .mp .str .int m7), (2000, .row 47 (.list .lit) l8), (2001, .row 71 .step l9)]⟩ (blockK 0 (eH Tryz.f33 [.ptr 1000 0] false R))
theorem z7p (R : D → List (Nat × HObj) → Prop) (n0 : Nat) (c1 : List VarD) (c2 : List ConD) (c3 : Int) (c4 : Int) (c5 : List (List LitD)) (c6 : Int) (m7 : List (ByteArray × Int)) (l8 : List (List LitD)) (l9 : List StepD) : zxi R (n0 + 1) c1 c2 c3 c4 c5 c6 m7 l8 l9 =
 (sel (decide (c6 = 0))
 (R (.tup [.sl .int ([] : List Int), dI 3]) [(1000, .cells [.sl .var c1, .sl .con c2, dI c3, dI c4, .sl (.list .lit) c5, dI c6, .own 2000, .own 2001, .own 1001]), (2000, .row 47 (.list .lit) l8), (2001, .row 71 .step l9), (1001, .mp .str .int m7)])
 (∃ d10 : List LitD, ∃ d11 : Bool, ∃ d12 : List Int, SatH Tryz.prog zsf [.ptr 1000 0] [(1000, .cells [.sl .var c1, .sl .con c2, dI c3, dI c4, .sl (.list .lit) c5, dI (w64 (c6 - 1)), .own 2000, .own 2001, .own 1001]), (2000, .row 47 (.list .lit) l8), (2001, .row 71 .step l9), (1001, .mp .str .int m7)] (.tup [.slN .lit d10 d11, .sl .int d12]) [(1000, .cells [.sl .var c1, .sl .con c2, dI c3, dI c4, .sl (.list .lit) c5, dI (w64 (c6 - 1)), .own 2000, .own 2001, .own 1001]), (2000, .row 47 (.list .lit) l8), (2001, .row 71 .step l9), (1001, .mp .str .int m7)] ∧
 sel d11
 (R (.tup [.sl .int d12, dI 1]) [(1000, .cells [.sl .var c1, .sl .con c2, dI c3, dI c4, .sl (.list .lit) c5, dI (w64 (c6 - 1)), .own 2000, .own 2001, .own 1001]), (2000, .row 47 (.list .lit) l8), (2001, .row 71 .step l9), (1001, .mp .str .int m7)])
 ((fun p : Prop => ((p) ∧ p))
 (∃ a13 : List (List LitD), SatH Tryz.prog zYc [.ptr 1000 0] [(1000, .cells [.sl .var c1, .sl .con c2, dI c3, dI c4, .sl (.list .lit) c5, dI (w64 (c6 - 1)), .own 2000, .own 2001, .own 1001]), (2000, .row 47 (.list .lit) l8), (2001, .row 71 .step l9), (1001, .mp .str .int m7)] (.sl (.list .lit) a13) [(1000, .cells [.sl .var c1, .sl .con c2, dI c3, dI c4, .sl (.list .lit) c5, dI (w64 (c6 - 1)), .own 2000, .own 2001, .own 1001]), (2000, .row 47 (.list .lit) l8), (2001, .row 71 .step l9), (1001, .mp .str .int m7)] ∧
 Call2 Tryz.prog ztf [.agg [.sl .var c1, .sl .con c2, dI c3, dI c4], .sl (.list .lit) a13, .sl .lit d10] (.list .lit) .bool fun l14 l15 =>
 (fun p : Prop => ((p) ∧ p))
 (∃ a16 : List (List LitD), SatH Tryz.prog zYc [.ptr 1000 0] [(1000, .cells [.sl .var c1, .sl .con c2, dI c3, dI c4, .sl (.list .lit) c5, dI (w64 (c6 - 1)), .own 2000, .own 2001, .own 1001]), (2000, .row 47 (.list .lit) l8), (2001, .row 71 .step l9), (1001, .mp .str .int m7)] (.sl (.list .lit) a16) [(1000, .cells [.sl .var c1, .sl .con c2, dI c3, dI c4, .sl (.list .lit) c5, dI (w64 (c6 - 1)), .own 2000, .own 2001, .own 1001]), (2000, .row 47 (.list .lit) l8), (2001, .row 71 .step l9), (1001, .mp .str .int m7)] ∧
 Call1 Tryz.prog zvf [.agg [.sl .var c1, .sl .con c2, dI c3, dI c4], .sl (.list .lit) a16, .sl .lit l14] (.list .step) fun l17 =>
 ∃ n18 : List StepD, ∃ n19 : List (ByteArray × Int), SatH Tryz.prog zuf [.ptr 1000 0, .sl .step l17] [(1000, .cells [.sl .var c1, .sl .con c2, dI c3, dI c4, .sl (.list .lit) c5, dI (w64 (c6 - 1)), .own 2000, .own 2001, .own 1001]), (2000, .row 47 (.list .lit) l8), (2001, .row 71 .step l9), (1001, .mp .str .int m7)] (.tup []) [(1000, .cells [.sl .var c1, .sl .con c2, dI c3, dI c4, .sl (.list .lit) c5, dI (w64 (c6 - 1)), .own 2000, .own 2001, .own 1001]), (2000, .row 47 (.list .lit) l8), (2001, .row 71 .step n18), (1001, .mp .str .int n19)] ∧
 sel (decide ((l14.length : Int) = 0))
 (R (.tup [.sl .int ([] : List Int), dI 2]) [(1000, .cells [.sl .var c1, .sl .con c2, dI c3, dI c4, .sl (.list .lit) c5, dI (w64 (c6 - 1)), .own 2000, .own 2001, .own 1001]), (2000, .row 47 (.list .lit) l8), (2001, .row 71 .step n18), (1001, .mp .str .int n19)])
 (Call1 Tryz.prog zTd [.sl .lit l14] (.list .lit) fun l20 =>
 room (.list .lit) (l8.length + ([l20]).length) = true ∧ sel (decide (600 < ((l8 ++ ([l20])).length : Int)))
 (R (.tup [.sl .int ([] : List Int), dI 3]) [(1000, .cells [.sl .var c1, .sl .con c2, dI c3, dI c4, .sl (.list .lit) c5, dI (w64 (c6 - 1)), .own 2000, .own 2001, .own 1001]), (2000, .row 47 (.list .lit) (l8 ++ ([l20]))), (2001, .row 71 .step n18), (1001, .mp .str .int n19)])
 (sel (decide (6000 < (n18.length : Int)))
 (R (.tup [.sl .int ([] : List Int), dI 3]) [(1000, .cells [.sl .var c1, .sl .con c2, dI c3, dI c4, .sl (.list .lit) c5, dI (w64 (c6 - 1)), .own 2000, .own 2001, .own 1001]), (2000, .row 47 (.list .lit) (l8 ++ ([l20]))), (2001, .row 71 .step n18), (1001, .mp .str .int n19)])
 (zxi R n0 c1 c2 c3 c4 c5 (w64 (c6 - 1)) n19 (l8 ++ ([l20])) n18)))))))) := by kernel_rfl
theorem zxB (mvs0 : List VarD) (mcs0 : List ConD) (goal0 : Int) (mvar0 : Int) (given0 : List (List LitD)) (fuel0 : Int) (learned0 : List (List LitD)) (steps0 : List StepD) (met0 : List (ByteArray × Int)) (R : D → List (Nat × HObj) → Prop) : FH zAk Tryz.f33 [.ptr 1000 0] [(1000, .cells [.sl .var mvs0, .sl .con mcs0, dI goal0, dI mvar0, .sl (.list .lit) given0, dI fuel0, .own 2000, .own 2001, .own 1001]), (2000, .row 47 (.list .lit) learned0), (2001, .row 71 .step steps0), (1001, .mp .str .int met0)] [.ptr 1000 0] false R =
 (∃ n0, zxi R n0 mvs0 mcs0 goal0 mvar0 given0 fuel0 met0 learned0 steps0) := by kernel_rfl
theorem zyB (mvs0 : List VarD) (mcs0 : List ConD) (goal0 : Int) (mvar0 : Int) (given0 : List (List LitD)) (fuel0 : Int) (learned0 : List (List LitD)) (steps0 : List StepD) (met0 : List (ByteArray × Int)) : SatHI zAk Tryz.f33 zmf [.ptr 1000 0] [(1000, .cells [.sl .var mvs0, .sl .con mcs0, dI goal0, dI mvar0, .sl (.list .lit) given0, dI fuel0, .own 2000, .own 2001, .own 1001]), (2000, .row 47 (.list .lit) learned0), (2001, .row 71 .step steps0), (1001, .mp .str .int met0)] [.ptr 1000 0] false := satHD Tryz.func33 (by kernel_rfl) Tryz.ntmps33 rfl
def z8p : Ann := { own := [], live := [], n := 14, nils := [], pubs := [], first := true }
theorem zzB (mvs0 : List VarD) (mcs0 : List ConD) (goal0 : Int) (mvar0 : Int) (given0 : List (List LitD)) (fuel0 : Int) (learned0 : List (List LitD)) (steps0 : List StepD) (met0 : List (ByteArray × Int)) (R : D → List (Nat × HObj) → Prop) : FH z8p Tryz.f34 [.ptr 1000 0] [(1000, .cells [.sl .var mvs0, .sl .con mcs0, dI goal0, dI mvar0, .sl (.list .lit) given0, dI fuel0, .own 2000, .own 2001, .own 1001]), (2000, .row 47 (.list .lit) learned0), (2001, .row 71 .step steps0), (1001, .mp .str .int met0)] [.ptr 1000 0] false R =
 (R (.tup [.sl .step steps0, dB (decide ((steps0.length : Int) ≤ 6000))]) [(1000, .cells [.sl .var mvs0, .sl .con mcs0, dI goal0, dI mvar0, .sl (.list .lit) given0, dI fuel0, .own 2000, .sl .step steps0, .own 1001]), (2000, .row 47 (.list .lit) learned0), (1001, .mp .str .int met0)]) := by kernel_rfl
theorem zAB (mvs0 : List VarD) (mcs0 : List ConD) (goal0 : Int) (mvar0 : Int) (given0 : List (List LitD)) (fuel0 : Int) (learned0 : List (List LitD)) (steps0 : List StepD) (met0 : List (ByteArray × Int)) : SatHI z8p Tryz.f34 znf [.ptr 1000 0] [(1000, .cells [.sl .var mvs0, .sl .con mcs0, dI goal0, dI mvar0, .sl (.list .lit) given0, dI fuel0, .own 2000, .own 2001, .own 1001]), (2000, .row 47 (.list .lit) learned0), (2001, .row 71 .step steps0), (1001, .mp .str .int met0)] [.ptr 1000 0] false := satHD Tryz.func34 (by kernel_rfl) Tryz.ntmps34 rfl
def zLc : Ann := { own := [5, 6, 10, 40, 49], live := [(0, ([0, 6, 29, 30, 31], [6, 1000, 2000])), (2, ([0, 1, 5, 55, 56, 57], [1000, 2000]))], n := 68, nils := [], pubs := [(5, 999999)], first := true }
def zyi (mvs0 : List VarD) (mcs0 : List ConD) (goal0 : Int) (mvar0 : Int) (R : D → List (Nat × HObj) → Prop) (f1 : List (List Int)) (n0 : Nat) (v4 : Int) (l5 : List Int) (l6 : List (List Int)) : Prop := LP zLc Tryz.f37 [1, 1, 1, 1, 0, 1, 0, 1, 1, 0, 1, 0, 0] 0 n0 ⟨[(0, .ptr 1000 0), (6, .own 6), (29, dS f1), (30, dI (f1.length : Int)), (31, dI v4)], [(6, .row 3 .int l5), (1000, .cells [.sl .var mvs0, .sl .con mcs0, dI goal0, dI mvar0, .own 2000]), (2000, .row 26 (.list .int) l6)]⟩ (blockK 0 (sK zLc Tryz.f37 [1, 1, 1, 1, 0, 1, 0, 1, 1, 1] 0 (sK zLc Tryz.f37 [1, 1, 1, 1, 1] 0 (eH Tryz.f37 [.ptr 1000 0] false R))))
def zWe (R : D → List (Nat × HObj) → Prop) (f1 : List (List Int)) (s3 : Int) (n2 : Nat) (v7 : Int) (c8 : List VarD) (c9 : List ConD) (c10 : Int) (c11 : Int) (l12 : List (List Int)) : Prop := LP zLc Tryz.f37 [1, 1, 1, 1, 1, 0, 1, 0, 0] 2 n2 ⟨[(0, .ptr 1000 0), (1, dS f1), (5, .iptr [dI s3] 0), (55, .sl .int (at' (.list .int) f1 s3.toNat)), (56, dI ((at' (.list .int) f1 s3.toNat).length : Int)), (57, dI v7)], [(1000, .cells [.sl .var c8, .sl .con c9, dI c10, dI c11, .own 2000]), (2000, .row 26 (.list .int) l12)]⟩ (blockK 2 (sK zLc Tryz.f37 [1, 1, 1, 1, 1, 1] 0 (eH Tryz.f37 [.ptr 1000 0] false R)))
theorem zBB (mvs0 : List VarD) (mcs0 : List ConD) (goal0 : Int) (mvar0 : Int) (R : D → List (Nat × HObj) → Prop) (f1 : List (List Int)) (n0 : Nat) (v4 : Int) (l5 : List Int) (l6 : List (List Int)) : zyi mvs0 mcs0 goal0 mvar0 R f1 (n0 + 1) v4 l5 l6 =
 (sel (decide (v4 < (f1.length : Int)))
 (inb v4 f1.length = true ∧ inb 0 (at' (.list .int) f1 v4.toNat).length = true ∧ room .int (l5.length + ([at' .int (at' (.list .int) f1 v4.toNat) 0]).length) = true ∧ zyi mvs0 mcs0 goal0 mvar0 R f1 n0 (w64 (v4 + 1)) (l5 ++ ([at' .int (at' (.list .int) f1 v4.toNat) 0])) l6)
 (room (.list .int) (l6.length + ([l5]).length) = true ∧ R (dB true) [(1000, .cells [.sl .var mvs0, .sl .con mcs0, dI goal0, dI mvar0, .own 2000]), (2000, .row 26 (.list .int) (l6 ++ ([l5])))])) := by kernel_rfl
theorem zCB (R : D → List (Nat × HObj) → Prop) (f1 : List (List Int)) (s3 : Int) (n2 : Nat) (v7 : Int) (c8 : List VarD) (c9 : List ConD) (c10 : Int) (c11 : Int) (l12 : List (List Int)) : zWe R f1 s3 (n2 + 1) v7 c8 c9 c10 c11 l12 =
 (sel (decide (v7 < ((at' (.list .int) f1 s3.toNat).length : Int)))
 (inb v7 (at' (.list .int) f1 s3.toNat).length = true ∧ Call1 Tryz.prog zG [dS f1, .clo zyf none [.iptr [dI s3] 0, .iptr [dI (at' .int (at' (.list .int) f1 s3.toNat) v7.toNat)] 0]] (.list (.list .int)) fun s13 =>
 ∃ l14 : Bool, ∃ l15 : List (List Int), SatH Tryz.prog zPd [.ptr 1000 0, dS s13] [(1000, .cells [.sl .var c8, .sl .con c9, dI c10, dI c11, .own 2000]), (2000, .row 26 (.list .int) l12)] (dB l14) [(1000, .cells [.sl .var c8, .sl .con c9, dI c10, dI c11, .own 2000]), (2000, .row 26 (.list .int) l15)] ∧
 sel (!l14)
 (R (dB false) [(1000, .cells [.sl .var c8, .sl .con c9, dI c10, dI c11, .own 2000]), (2000, .row 26 (.list .int) l15)])
 (zWe R f1 s3 n2 (w64 (v7 + 1)) c8 c9 c10 c11 l15))
 (R (dB true) [(1000, .cells [.sl .var c8, .sl .con c9, dI c10, dI c11, .own 2000]), (2000, .row 26 (.list .int) l12)])) := by kernel_rfl
theorem zDB (mvs0 : List VarD) (mcs0 : List ConD) (goal0 : Int) (mvar0 : Int) (out0 : List (List Int)) (s0 : List (List Int)) (R : D → List (Nat × HObj) → Prop) : FH zLc Tryz.f37 [.ptr 1000 0, dS s0] [(1000, .cells [.sl .var mvs0, .sl .con mcs0, dI goal0, dI mvar0, .own 2000]), (2000, .row 26 (.list .int) out0)] [.ptr 1000 0] false R =
 (Call1 Tryz.prog zmb [.agg [.sl .var mvs0, .sl .con mcs0, dI goal0, dI mvar0], dS s0, dB true, .sl (.list .lit) ([] : List (List LitD))] (.list (.list .int)) fun f1 =>
 Call1 Tryz.prog zf [dS f1] .bool fun s2 =>
 sel s2
 (R (dB true) [(1000, .cells [.sl .var mvs0, .sl .con mcs0, dI goal0, dI mvar0, .own 2000]), (2000, .row 26 (.list .int) out0)])
 (Call1 Tryz.prog zUd [dS f1] .int fun s3 =>
 sel (decide (s3 < 0))
 (sel (decide ((out0.length : Int) = 200))
 (R (dB false) [(1000, .cells [.sl .var mvs0, .sl .con mcs0, dI goal0, dI mvar0, .own 2000]), (2000, .row 26 (.list .int) out0)])
 (∃ n0, zyi mvs0 mcs0 goal0 mvar0 R f1 n0 0 ([] : List Int) out0))
 (inb s3 f1.length = true ∧ ∃ n2, zWe R f1 s3 n2 0 mvs0 mcs0 goal0 mvar0 out0))) := by kernel_rfl
theorem zEB (mvs0 : List VarD) (mcs0 : List ConD) (goal0 : Int) (mvar0 : Int) (out0 : List (List Int)) (s0 : List (List Int)) : SatHI zLc Tryz.f37 zPd [.ptr 1000 0, dS s0] [(1000, .cells [.sl .var mvs0, .sl .con mcs0, dI goal0, dI mvar0, .own 2000]), (2000, .row 26 (.list .int) out0)] [.ptr 1000 0] false := satHD Tryz.func37 (by kernel_rfl) Tryz.ntmps37 rfl
def zNb : Ann := { own := [7, 8, 11, 15, 45, 59], live := [(0, ([0, 4, 5, 6], [15, 1000, 1001, 2000, 2001])), (2, ([0, 8, 34, 35, 36], [8, 1000, 1001, 2000, 2001]))], n := 71, nils := [], pubs := [], nn := [2, 15], first := true }
def zzi (met0 : List (ByteArray × Int)) (R : D → List (Nat × HObj) → Prop) (n0 : Nat) (v4 : List (List Int)) (c6 : List VarD) (c7 : List ConD) (c8 : Int) (c9 : Int) (c10 : List (List LitD)) (c11 : Int) (n2 : Nat) (v16 : Int) (l17 : List Int) (l18 : List (List LitD)) (l19 : List StepD) : Prop := LP zNb Tryz.f51 [1, 1, 1, 1, 0, 0, 0, 1, 0, 1, 0, 1, 0, 1, 0, 1, 0, 0] 2 n2 ⟨[(0, .ptr 1000 0), (8, .own 8), (34, dS v4), (35, dI (v4.length : Int)), (36, dI v16)], [(8, .row 3 .int l17), (1000, .cells [.sl .var c6, .sl .con c7, dI c8, dI c9, .sl (.list .lit) c10, dI c11, .own 2000, .own 2001, .own 1001]), (1001, .mp .str .int met0), (2000, .row 47 (.list .lit) l18), (2001, .row 71 .step l19)]⟩ (blockK 2 (sK zNb Tryz.f51 [1, 1, 1, 1, 0, 0, 0, 1, 0, 1, 0, 1, 0, 1, 1] 1 (sK zNb Tryz.f51 [1, 1, 1, 1, 0, 0, 0, 1, 0, 1, 1] 1 (blockK 1 (iK zNb Tryz.f51 [1, 1, 1, 1, 0, 0, 0] 0 n0 (blockK 0 (sK zNb Tryz.f51 [1, 1, 1, 1, 1] 0 (eH Tryz.f51 [.ptr 1000 0] false R))))))))
def zAi (met0 : List (ByteArray × Int)) (R : D → List (Nat × HObj) → Prop) (a1 : List (List LitD)) (n0 : Nat) (v4 : List (List Int)) (l5 : List LitD) (c6 : List VarD) (c7 : List ConD) (c8 : Int) (c9 : Int) (c10 : List (List LitD)) (c11 : Int) (l12 : List (List LitD)) (l13 : List StepD) : Prop := LP zNb Tryz.f51 [1, 1, 1, 1, 0, 0, 0] 0 n0 ⟨[(0, .ptr 1000 0), (4, .sl (.list .lit) a1), (5, .ownN 15), (6, dS v4)], [(15, .row 86 .lit l5), (1000, .cells [.sl .var c6, .sl .con c7, dI c8, dI c9, .sl (.list .lit) c10, dI c11, .own 2000, .own 2001, .own 1001]), (1001, .mp .str .int met0), (2000, .row 47 (.list .lit) l12), (2001, .row 71 .step l13)]⟩ (blockK 0 (sK zNb Tryz.f51 [1, 1, 1, 1, 1] 0 (eH Tryz.f51 [.ptr 1000 0] false R)))
theorem zFB (met0 : List (ByteArray × Int)) (R : D → List (Nat × HObj) → Prop) (n0 : Nat) (v4 : List (List Int)) (c6 : List VarD) (c7 : List ConD) (c8 : Int) (c9 : Int) (c10 : List (List LitD)) (c11 : Int) (n2 : Nat) (v16 : Int) (l17 : List Int) (l18 : List (List LitD)) (l19 : List StepD) : zzi met0 R n0 v4 c6 c7 c8 c9 c10 c11 (n2 + 1) v16 l17 l18 l19 =
 (sel (decide (v16 < (v4.length : Int)))
 (inb v16 v4.length = true ∧ inb 0 (at' (.list .int) v4 v16.toNat).length = true ∧ room .int (l17.length + ([at' .int (at' (.list .int) v4 v16.toNat) 0]).length) = true ∧ zzi met0 R n0 v4 c6 c7 c8 c9 c10 c11 n2 (w64 (v16 + 1)) (l17 ++ ([at' .int (at' (.list .int) v4 v16.toNat) 0])) l18 l19)
 (R (.tup [.slN .lit ([] : List LitD) true, .sl .int l17]) [(1000, .cells [.sl .var c6, .sl .con c7, dI c8, dI c9, .sl (.list .lit) c10, dI c11, .own 2000, .own 2001, .own 1001]), (2000, .row 47 (.list .lit) l18), (2001, .row 71 .step l19), (1001, .mp .str .int met0)])) := by kernel_rfl
theorem zGB (met0 : List (ByteArray × Int)) (R : D → List (Nat × HObj) → Prop) (a1 : List (List LitD)) (n0 : Nat) (v4 : List (List Int)) (l5 : List LitD) (c6 : List VarD) (c7 : List ConD) (c8 : Int) (c9 : Int) (c10 : List (List LitD)) (c11 : Int) (l12 : List (List LitD)) (l13 : List StepD) : zAi met0 R a1 (n0 + 1) v4 l5 c6 c7 c8 c9 c10 c11 l12 l13 =
 (Call1 Tryz.prog zf [dS v4] .bool fun s14 =>
 sel (!s14)
 (Call1 Tryz.prog zUd [dS v4] .int fun s15 =>
 sel (decide (s15 < 0))
 (∃ n2, zzi met0 R n0 v4 c6 c7 c8 c9 c10 c11 n2 0 ([] : List Int) l12 l13)
 ((fun p : Prop => ((((inb s15 v4.length = true ∧ inb 0 (at' (.list .int) v4 s15.toNat).length = true ∧ room .lit (l5.length + ([(⟨s15, 3, at' .int (at' (.list .int) v4 s15.toNat) 0⟩ : LitD)]).length) = true ∧ p) ∧ inb s15 v4.length = true ∧ inb 0 (at' (.list .int) v4 s15.toNat).length = true ∧ room .lit (l5.length + ([(⟨s15, 3, at' .int (at' (.list .int) v4 s15.toNat) 0⟩ : LitD)]).length) = true ∧ p)) ∧ (inb s15 v4.length = true ∧ inb 0 (at' (.list .int) v4 s15.toNat).length = true ∧ ((room .lit (l5.length + ([(⟨s15, 3, at' .int (at' (.list .int) v4 s15.toNat) 0⟩ : LitD)]).length) = true ∧ p) ∧ room .lit (l5.length + ([(⟨s15, 3, at' .int (at' (.list .int) v4 s15.toNat) 0⟩ : LitD)]).length) = true ∧ p)) ∧ inb s15 v4.length = true ∧ inb 0 (at' (.list .int) v4 s15.toNat).length = true ∧ room .lit (l5.length + ([(⟨s15, 3, at' .int (at' (.list .int) v4 s15.toNat) 0⟩ : LitD)]).length) = true ∧ p))
 (Call1 Tryz.prog zG [dS v4, .clo zEf none [.iptr [dI s15] 0, .iptr [dI s15, dI 3, dI (at' .int (at' (.list .int) v4 s15.toNat) 0)] 0]] (.list (.list .int)) fun s20 =>
 Call1 Tryz.prog zmb [.agg [.sl .var c6, .sl .con c7, dI c8, dI c9], dS s20, dB true, .sl (.list .lit) a1] (.list (.list .int)) fun f21 =>
 zAi met0 R a1 n0 f21 (l5 ++ ([(⟨s15, 3, at' .int (at' (.list .int) v4 s15.toNat) 0⟩ : LitD)])) c6 c7 c8 c9 c10 c11 l12 l13)))
 (R (.tup [.slN .lit l5 false, .sl .int ([] : List Int)]) [(1000, .cells [.sl .var c6, .sl .con c7, dI c8, dI c9, .sl (.list .lit) c10, dI c11, .own 2000, .own 2001, .own 1001]), (2000, .row 47 (.list .lit) l12), (2001, .row 71 .step l13), (1001, .mp .str .int met0)])) := by kernel_rfl
theorem zHB (mvs0 : List VarD) (mcs0 : List ConD) (goal0 : Int) (mvar0 : Int) (given0 : List (List LitD)) (fuel0 : Int) (learned0 : List (List LitD)) (steps0 : List StepD) (met0 : List (ByteArray × Int)) (R : D → List (Nat × HObj) → Prop) : FH zNb Tryz.f51 [.ptr 1000 0] [(1000, .cells [.sl .var mvs0, .sl .con mcs0, dI goal0, dI mvar0, .sl (.list .lit) given0, dI fuel0, .own 2000, .own 2001, .own 1001]), (2000, .row 47 (.list .lit) learned0), (2001, .row 71 .step steps0), (1001, .mp .str .int met0)] [.ptr 1000 0] false R =
 (∃ a1 : List (List LitD), SatH Tryz.prog zYc [.ptr 1000 0] [(1000, .cells [.sl .var mvs0, .sl .con mcs0, dI goal0, dI mvar0, .sl (.list .lit) given0, dI fuel0, .own 2000, .own 2001, .own 1001]), (2000, .row 47 (.list .lit) learned0), (2001, .row 71 .step steps0), (1001, .mp .str .int met0)] (.sl (.list .lit) a1) [(1000, .cells [.sl .var mvs0, .sl .con mcs0, dI goal0, dI mvar0, .sl (.list .lit) given0, dI fuel0, .own 2000, .own 2001, .own 1001]), (2000, .row 47 (.list .lit) learned0), (2001, .row 71 .step steps0), (1001, .mp .str .int met0)] ∧
 Call1 Tryz.prog zZb [.agg [.sl .var mvs0, .sl .con mcs0, dI goal0, dI mvar0]] (.list (.list .int)) fun s2 =>
 Call1 Tryz.prog zmb [.agg [.sl .var mvs0, .sl .con mcs0, dI goal0, dI mvar0], dS s2, dB true, .sl (.list .lit) a1] (.list (.list .int)) fun f3 =>
 ∃ n0, zAi met0 R a1 n0 f3 ([] : List LitD) mvs0 mcs0 goal0 mvar0 given0 fuel0 learned0 steps0) := by kernel_rfl
theorem zIB (mvs0 : List VarD) (mcs0 : List ConD) (goal0 : Int) (mvar0 : Int) (given0 : List (List LitD)) (fuel0 : Int) (learned0 : List (List LitD)) (steps0 : List StepD) (met0 : List (ByteArray × Int)) : SatHI zNb Tryz.f51 zsf [.ptr 1000 0] [(1000, .cells [.sl .var mvs0, .sl .con mcs0, dI goal0, dI mvar0, .sl (.list .lit) given0, dI fuel0, .own 2000, .own 2001, .own 1001]), (2000, .row 47 (.list .lit) learned0), (2001, .row 71 .step steps0), (1001, .mp .str .int met0)] [.ptr 1000 0] false := satHD Tryz.func51 (by kernel_rfl) Tryz.ntmps51 rfl
def z9p : Ann := { own := [3, 8, 13], live := [], n := 14, nils := [], pubs := [], first := true }
theorem zJB (mvs0 : List VarD) (mcs0 : List ConD) (goal0 : Int) (mvar0 : Int) (given0 : List (List LitD)) (fuel0 : Int) (learned0 : List (List LitD)) (steps0 : List StepD) (met0 : List (ByteArray × Int)) (R : D → List (Nat × HObj) → Prop) : FH z9p Tryz.f53 [.ptr 1000 0] [(1000, .cells [.sl .var mvs0, .sl .con mcs0, dI goal0, dI mvar0, .sl (.list .lit) given0, dI fuel0, .own 2000, .own 2001, .own 1001]), (2000, .row 47 (.list .lit) learned0), (2001, .row 71 .step steps0), (1001, .mp .str .int met0)] [.ptr 1000 0] false R =
 ((fun p : Prop => ((((((room (.list .lit) (([] : List (List LitD)).length + given0.length) = true ∧ room (.list .lit) ((([] : List (List LitD)) ++ given0).length + learned0.length) = true ∧ p) ∧ room (.list .lit) (([] : List (List LitD)).length + given0.length) = true ∧ room (.list .lit) ((([] : List (List LitD)) ++ given0).length + learned0.length) = true ∧ p)) ∧ room (.list .lit) (([] : List (List LitD)).length + given0.length) = true ∧ room (.list .lit) ((([] : List (List LitD)) ++ given0).length + learned0.length) = true ∧ p)) ∧ (((((room (.list .lit) (([] : List (List LitD)).length + given0.length) = true ∧ room (.list .lit) ((([] : List (List LitD)) ++ given0).length + learned0.length) = true ∧ p) ∧ room (.list .lit) (([] : List (List LitD)).length + given0.length) = true ∧ room (.list .lit) ((([] : List (List LitD)) ++ given0).length + learned0.length) = true ∧ p)) ∧ room (.list .lit) (([] : List (List LitD)).length + given0.length) = true ∧ room (.list .lit) ((([] : List (List LitD)) ++ given0).length + learned0.length) = true ∧ p)) ∧ ((room (.list .lit) (([] : List (List LitD)).length + given0.length) = true ∧ room (.list .lit) ((([] : List (List LitD)) ++ given0).length + learned0.length) = true ∧ p) ∧ room (.list .lit) (([] : List (List LitD)).length + given0.length) = true ∧ room (.list .lit) ((([] : List (List LitD)) ++ given0).length + learned0.length) = true ∧ p)))
 (R (.sl (.list .lit) ((([] : List (List LitD)) ++ given0) ++ learned0)) [(1000, .cells [.sl .var mvs0, .sl .con mcs0, dI goal0, dI mvar0, .sl (.list .lit) given0, dI fuel0, .own 2000, .own 2001, .own 1001]), (2000, .row 47 (.list .lit) learned0), (2001, .row 71 .step steps0), (1001, .mp .str .int met0)])) := by kernel_rfl
theorem zKB (mvs0 : List VarD) (mcs0 : List ConD) (goal0 : Int) (mvar0 : Int) (given0 : List (List LitD)) (fuel0 : Int) (learned0 : List (List LitD)) (steps0 : List StepD) (met0 : List (ByteArray × Int)) : SatHI z9p Tryz.f53 zYc [.ptr 1000 0] [(1000, .cells [.sl .var mvs0, .sl .con mcs0, dI goal0, dI mvar0, .sl (.list .lit) given0, dI fuel0, .own 2000, .own 2001, .own 1001]), (2000, .row 47 (.list .lit) learned0), (2001, .row 71 .step steps0), (1001, .mp .str .int met0)] [.ptr 1000 0] false := satHD Tryz.func53 (by kernel_rfl) Tryz.ntmps53 rfl
def zBk : Ann := { own := [5, 35], live := [(0, ([0, 7, 8, 9], [1000, 1001, 2000, 2001]))], n := 39, nils := [], pubs := [], first := true }
def zEd (l0 : List StepD) (R : D → List (Nat × HObj) → Prop) (n0 : Nat) (v1 : Int) (c2 : List VarD) (c3 : List ConD) (c4 : Int) (c5 : Int) (c6 : List (List LitD)) (c7 : Int) (m8 : List (ByteArray × Int)) (l9 : List (List LitD)) (l10 : List StepD) : Prop := LP zBk Tryz.f54 [1, 0, 0] 0 n0 ⟨[(0, .ptr 1000 0), (7, .sl .step l0), (8, dI (l0.length : Int)), (9, dI v1)], [(1000, .cells [.sl .var c2, .sl .con c3, dI c4, dI c5, .sl (.list .lit) c6, dI c7, .own 2000, .own 2001, .own 1001]), (1001, .mp .str .int m8), (2000, .row 47 (.list .lit) l9), (2001, .row 71 .step l10)]⟩ (blockK 0 (eH Tryz.f54 [.ptr 1000 0] false R))
theorem zLB (l0 : List StepD) (R : D → List (Nat × HObj) → Prop) (n0 : Nat) (v1 : Int) (c2 : List VarD) (c3 : List ConD) (c4 : Int) (c5 : Int) (c6 : List (List LitD)) (c7 : Int) (m8 : List (ByteArray × Int)) (l9 : List (List LitD)) (l10 : List StepD) : zEd l0 R (n0 + 1) v1 c2 c3 c4 c5 c6 c7 m8 l9 l10 =
 (sel (decide (v1 < (l0.length : Int)))
 (inb v1 l0.length = true ∧ Call1 Tryz.prog zHf [.sl .lit ((at' .step l0 v1.toNat).clause)] .str fun s11 =>
 sel (decide ((mgetD .str .int s11 m8) = 0))
 (roomM (m8.length + 1) = true ∧ room .step (l10.length + ([(at' .step l0 v1.toNat)]).length) = true ∧ zEd l0 R n0 (w64 (v1 + 1)) c2 c3 c4 c5 c6 c7 (mput .str .int s11 1 m8) l9 (l10 ++ ([(at' .step l0 v1.toNat)])))
 (zEd l0 R n0 (w64 (v1 + 1)) c2 c3 c4 c5 c6 c7 m8 l9 l10))
 (R (.tup []) [(1000, .cells [.sl .var c2, .sl .con c3, dI c4, dI c5, .sl (.list .lit) c6, dI c7, .own 2000, .own 2001, .own 1001]), (2000, .row 47 (.list .lit) l9), (2001, .row 71 .step l10), (1001, .mp .str .int m8)])) := by kernel_rfl
theorem zMB (mvs0 : List VarD) (mcs0 : List ConD) (goal0 : Int) (mvar0 : Int) (given0 : List (List LitD)) (fuel0 : Int) (learned0 : List (List LitD)) (steps0 : List StepD) (met0 : List (ByteArray × Int)) (l0 : List StepD) (R : D → List (Nat × HObj) → Prop) : FH zBk Tryz.f54 [.ptr 1000 0, .sl .step l0] [(1000, .cells [.sl .var mvs0, .sl .con mcs0, dI goal0, dI mvar0, .sl (.list .lit) given0, dI fuel0, .own 2000, .own 2001, .own 1001]), (2000, .row 47 (.list .lit) learned0), (2001, .row 71 .step steps0), (1001, .mp .str .int met0)] [.ptr 1000 0] false R =
 (∃ n0, zEd l0 R n0 0 mvs0 mcs0 goal0 mvar0 given0 fuel0 met0 learned0 steps0) := by kernel_rfl
theorem zNB (mvs0 : List VarD) (mcs0 : List ConD) (goal0 : Int) (mvar0 : Int) (given0 : List (List LitD)) (fuel0 : Int) (learned0 : List (List LitD)) (steps0 : List StepD) (met0 : List (ByteArray × Int)) (l0 : List StepD) : SatHI zBk Tryz.f54 zuf [.ptr 1000 0, .sl .step l0] [(1000, .cells [.sl .var mvs0, .sl .con mcs0, dI goal0, dI mvar0, .sl (.list .lit) given0, dI fuel0, .own 2000, .own 2001, .own 1001]), (2000, .row 47 (.list .lit) learned0), (2001, .row 71 .step steps0), (1001, .mp .str .int met0)] [.ptr 1000 0] false := satHD Tryz.func54 (by kernel_rfl) Tryz.ntmps54 rfl
def zBi : Ann := { own := [], live := [(0, ([5, 6, 7], []))], n := 17, nils := [], pubs := [], first := true }
def zCk (a0 : List (List Int)) (R : D → Prop) (n0 : Nat) (v1 : Int) : Prop := LP zBi Tryz.f62 [1, 0, 1, 0, 0] 0 n0 ⟨[(5, dS a0), (6, dI (a0.length : Int)), (7, dI v1)], []⟩ (blockK 0 (sK zBi Tryz.f62 [1, 1] 0 (eK Tryz.f62 R)))
theorem zaq (a0 : List (List Int)) (R : D → Prop) (n0 : Nat) (v1 : Int) : zCk a0 R (n0 + 1) v1 =
 (sel (decide (v1 < (a0.length : Int)))
 (inb v1 a0.length = true ∧ sel (decide (1 < ((at' (.list .int) a0 v1.toNat).length : Int)))
 (R (dI v1))
 (zCk a0 R n0 (w64 (v1 + 1))))
 (R (dI (-1)))) := by kernel_rfl
theorem zOB (a0 : List (List Int)) (R : D → Prop) : FD zBi Tryz.f62 [dS a0] R =
 (∃ n0, zCk a0 R n0 0) := by kernel_rfl
theorem zPB (a0 : List (List Int)) : SatI zBi Tryz.f62 zUd [dS a0] := satD Tryz.func62 (by kernel_rfl) Tryz.ntmps62 rfl
def zbq : Ann := { own := [], live := [], n := 15, nils := [], pubs := [], first := true }
theorem zQB (a0 : Int) (a1 : Int) (c0 : Int) (c1 : Int) (R : D → Prop) : FD zbq Tryz.f64 [dI a0, dI a1, .iptr [dI c0] 0, .iptr [dI c1] 0] R =
 (sel (!decide (a0 = c0))
 (R (dB true))
 (R (dB (decide (a1 = c1))))) := by kernel_rfl
theorem zRB (a0 : Int) (a1 : Int) (c0 : Int) (c1 : Int) : SatI zbq Tryz.f64 zyf [dI a0, dI a1, .iptr [dI c0] 0, .iptr [dI c1] 0] := satD Tryz.func64 (by kernel_rfl) Tryz.ntmps64 rfl
def zcq : Ann := { own := [], live := [], n := 16, nils := [], pubs := [], first := true }
theorem zSB (a0 : Int) (a1 : Int) (c0 : Int) (c1 : LitD) (R : D → Prop) : FD zcq Tryz.f80 [dI a0, dI a1, .iptr [dI c0] 0, .iptr [dI c1.var, dI c1.op, dI c1.n] 0] R =
 (sel (!decide (a0 = c0))
 (R (dB true))
 (R (dB (decide (a1 = c1.n))))) := by kernel_rfl
theorem zTB (a0 : Int) (a1 : Int) (c0 : Int) (c1 : LitD) : SatI zcq Tryz.f80 zEf [dI a0, dI a1, .iptr [dI c0] 0, .iptr [dI c1.var, dI c1.op, dI c1.n] 0] := satD Tryz.func80 (by kernel_rfl) Tryz.ntmps80 rfl
def zCi : Ann := { own := [5], live := [(0, ([3, 6, 7, 8], []))], n := 30, nils := [], pubs := [], first := true }
def zDi (a0 : List LitD) (R : D → Prop) (n0 : Nat) (out1 : ByteArray) (v2 : Int) : Prop := LP zCi Tryz.f84 [1, 1, 0, 1, 0, 0] 0 n0 ⟨[(3, .str out1), (6, .sl .lit a0), (7, dI (a0.length : Int)), (8, dI v2)], []⟩ (blockK 0 (sK zCi Tryz.f84 [1, 1, 1] 0 (eK Tryz.f84 R)))
theorem zUB (a0 : List LitD) (R : D → Prop) (n0 : Nat) (out1 : ByteArray) (v2 : Int) : zDi a0 R (n0 + 1) out1 v2 =
 (sel (decide (v2 < (a0.length : Int)))
 (inb v2 a0.length = true ∧ Call1 Tryz.prog z4d [dI ((at' .lit a0 v2.toNat).var)] .str fun s3 =>
 s3.size + (⟨#[58]⟩ : ByteArray).size ≤ 140737488355328 ∧ Call1 Tryz.prog z4d [dI ((at' .lit a0 v2.toNat).op)] .str fun s4 =>
 (s3 ++ (⟨#[58]⟩ : ByteArray)).size + s4.size ≤ 140737488355328 ∧ ((s3 ++ (⟨#[58]⟩ : ByteArray)) ++ s4).size + (⟨#[58]⟩ : ByteArray).size ≤ 140737488355328 ∧ Call1 Tryz.prog z4d [dI ((at' .lit a0 v2.toNat).n)] .str fun s5 =>
 (((s3 ++ (⟨#[58]⟩ : ByteArray)) ++ s4) ++ (⟨#[58]⟩ : ByteArray)).size + s5.size ≤ 140737488355328 ∧ ((((s3 ++ (⟨#[58]⟩ : ByteArray)) ++ s4) ++ (⟨#[58]⟩ : ByteArray)) ++ s5).size + (⟨#[32]⟩ : ByteArray).size ≤ 140737488355328 ∧ out1.size + (((((s3 ++ (⟨#[58]⟩ : ByteArray)) ++ s4) ++ (⟨#[58]⟩ : ByteArray)) ++ s5) ++ (⟨#[32]⟩ : ByteArray)).size ≤ 140737488355328 ∧ zDi a0 R n0 (out1 ++ (((((s3 ++ (⟨#[58]⟩ : ByteArray)) ++ s4) ++ (⟨#[58]⟩ : ByteArray)) ++ s5) ++ (⟨#[32]⟩ : ByteArray))) (w64 (v2 + 1)))
 (R (.str out1))) := by kernel_rfl
theorem zVB (a0 : List LitD) (R : D → Prop) : FD zCi Tryz.f84 [.sl .lit a0] R =
 (∃ n0, zDi a0 R n0 (⟨#[]⟩ : ByteArray) 0) := by kernel_rfl
theorem zWB (a0 : List LitD) : SatI zCi Tryz.f84 zHf [.sl .lit a0] := satD Tryz.func84 (by kernel_rfl) Tryz.ntmps84 rfl
end Go.Proofs.YtajnbkhgnppckaaGreatDoor
