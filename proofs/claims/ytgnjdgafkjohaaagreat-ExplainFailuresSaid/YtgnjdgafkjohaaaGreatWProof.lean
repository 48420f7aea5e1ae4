/- What the functions of a package do, as equations of plain propositions: printed by a program that carries the code out on symbols. -/
import Derived.Test.YtgnjdgafkjohaaaGreatWEv
namespace Go.Proofs.YtgnjdgafkjohaaaGreat
open Go.RowKit
set_option linter.unusedVariables false
set_option maxRecDepth 100000
/-! ### cordon/proof.Con -/
def proof_Con_A : Ann := { own := [], live := [], n := 34, nils := [], pubs := [] }
theorem proof_Con_eq (a0 : MdlD) (a1 : Int) (a2 : List LitD) (R : D → Prop) : fnD Tryz.prog Ev proof_Con_A Tryz.f34.results.toList (bodyOf Tryz.f34) [dM a0, dI a1, .sl .lit a2] R =
 (Call1 Tryz.prog f_model_Check [dM a0] .int fun m1 =>
 sel (!decide (m1 = 0))
 (R (.tup [dB false, dI m1]))
 (sel (decide (a1 < 0))
 (R (.tup [dB false, dI 5]))
 (sel (decide ((a0.cons.length : Int) ≤ a1))
 (R (.tup [dB false, dI 5]))
 (Call1 Tryz.prog f_clause_Right [dM a0, .sl .lit a2] .int fun c2 =>
 sel (!decide (c2 = 0))
 (R (.tup [dB false, dI c2]))
 (Call1 Tryz.prog f_proof_ByCon [dM a0, dI a1, .sl .lit a2] .bool fun p3 =>
 R (.tup [dB p3, dI 0])))))) := by kernel_rfl
theorem proof_Con_sat {r : D} (a0 : MdlD) (a1 : Int) (a2 : List LitD) (h : (∀ d ∈ [dM a0, dI a1, .sl .lit a2], okD d) → fnD Tryz.prog Ev proof_Con_A Tryz.f34.results.toList (bodyOf Tryz.f34) [dM a0, dI a1, .sl .lit a2] fun d => d = r) : Sat Tryz.prog f_proof_Con [dM a0, dI a1, .sl .lit a2] r := by
  have h2 := sat_of (r := r) (args := [dM a0, dI a1, .sl .lit a2]) (A := proof_Con_A) (fn := Tryz.f34) (body := bodyOf Tryz.f34) (f := f_proof_Con) factsEv Tryz.func34 (by kernel_rfl) (by rw [Tryz.ntmps34]; rfl) (by rw [Tryz.ntmps34]; exact Nat.le_of_ble_eq_true rfl)
  with_reducible exact h2 h
/-! ### cordon/proof.Unit -/
def proof_Unit_A : Ann := { own := [], live := [], n := 28, nils := [], pubs := [] }
theorem proof_Unit_eq (a0 : MdlD) (a1 : List (List LitD)) (a2 : List LitD) (R : D → Prop) : fnD Tryz.prog Ev proof_Unit_A Tryz.f35.results.toList (bodyOf Tryz.f35) [dM a0, .sl (.list .lit) a1, .sl .lit a2] R =
 (Call1 Tryz.prog f_model_Check [dM a0] .int fun m1 =>
 sel (decide (m1 = 0))
 (Call1 Tryz.prog f_fix_Rights [dM a0, .sl (.list .lit) a1] .int fun f2 =>
 sel (decide (f2 = 0))
 (Call1 Tryz.prog f_clause_Right [dM a0, .sl .lit a2] .int fun c3 =>
 sel (!decide (c3 = 0))
 (R (.tup [dB false, dI c3]))
 (Call1 Tryz.prog f_proof_ByUnit [dM a0, .sl (.list .lit) a1, .sl .lit a2] .bool fun p4 =>
 R (.tup [dB p4, dI 0])))
 (sel (!decide (f2 = 0))
 (R (.tup [dB false, dI f2]))
 (Call1 Tryz.prog f_proof_ByUnit [dM a0, .sl (.list .lit) a1, .sl .lit a2] .bool fun p5 =>
 R (.tup [dB p5, dI 0]))))
 (sel (decide (m1 = 0))
 (Call1 Tryz.prog f_clause_Right [dM a0, .sl .lit a2] .int fun c6 =>
 sel (!decide (c6 = 0))
 (R (.tup [dB false, dI c6]))
 (Call1 Tryz.prog f_proof_ByUnit [dM a0, .sl (.list .lit) a1, .sl .lit a2] .bool fun p7 =>
 R (.tup [dB p7, dI 0])))
 (sel (!decide (m1 = 0))
 (R (.tup [dB false, dI m1]))
 (Call1 Tryz.prog f_proof_ByUnit [dM a0, .sl (.list .lit) a1, .sl .lit a2] .bool fun p8 =>
 R (.tup [dB p8, dI 0]))))) := by kernel_rfl
theorem proof_Unit_sat {r : D} (a0 : MdlD) (a1 : List (List LitD)) (a2 : List LitD) (h : (∀ d ∈ [dM a0, .sl (.list .lit) a1, .sl .lit a2], okD d) → fnD Tryz.prog Ev proof_Unit_A Tryz.f35.results.toList (bodyOf Tryz.f35) [dM a0, .sl (.list .lit) a1, .sl .lit a2] fun d => d = r) : Sat Tryz.prog f_proof_Unit [dM a0, .sl (.list .lit) a1, .sl .lit a2] r := by
  have h2 := sat_of (r := r) (args := [dM a0, .sl (.list .lit) a1, .sl .lit a2]) (A := proof_Unit_A) (fn := Tryz.f35) (body := bodyOf Tryz.f35) (f := f_proof_Unit) factsEv Tryz.func35 (by kernel_rfl) (by rw [Tryz.ntmps35]; rfl) (by rw [Tryz.ntmps35]; exact Nat.le_of_ble_eq_true rfl)
  with_reducible exact h2 h
/-! ### cordon/proof.Check -/
def proof_Check_A : Ann := { own := [11, 21, 28], live := [(0, ([2, 9, 31, 32, 33], [21, 28]))], n := 56, nils := [(21, (4, (54, .list .lit)))], pubs := [] }
def proof_Check_I0 (a2 : List StepD) (R : D → Prop) (n0 : Nat) (v2 : Int) (c3 : List VarD) (c4 : List ConD) (c5 : Int) (c6 : Int) (l7 : List (List LitD)) : Prop := iter (den Tryz.prog Ev proof_Check_A (sub [1, 1, 1, 1, 0, 1, 0, 0] (bodyOf Tryz.f41)) 0) proof_Check_A (liveOf proof_Check_A 0) n0 ⟨[(2, .sl .step a2), (9, .ptr 21 0), (31, .sl .step a2), (32, dI (a2.length : Int)), (33, dI v2)], [(21, .cells [.sl .var c3, .sl .con c4, dI c5, dI c6, .own 28]), (28, .row 54 (.list .lit) l7)]⟩ (blockK 0 (seqK Tryz.prog Ev proof_Check_A (sub [1, 1, 1, 1, 1] (bodyOf Tryz.f41)) 0 (endK Ev Tryz.f41.results.toList R)))
theorem proof_Check_I0_eq (a2 : List StepD) (R : D → Prop) (n0 : Nat) (v2 : Int) (c3 : List VarD) (c4 : List ConD) (c5 : Int) (c6 : Int) (l7 : List (List LitD)) : proof_Check_I0 a2 R (n0 + 1) v2 c3 c4 c5 c6 l7 =
 (sel (decide (v2 < (a2.length : Int)))
 (inb v2 a2.length = true ∧
 ∃ s8 : Bool, ∃ s9 : List (List LitD), SatH Tryz.prog f_proof_checker_step [.ptr 1000 0, dSt (at' .step a2 v2.toNat)] [(1000, .cells [.sl .var c3, .sl .con c4, dI c5, dI c6, .own 2000]), (2000, .row 54 (.list .lit) l7)] (dB s8) [(1000, .cells [.sl .var c3, .sl .con c4, dI c5, dI c6, .own 2000]), (2000, .row 54 (.list .lit) s9)] ∧
 sel (!s8)
 (R (.tup [dB false, dI 0]))
 (proof_Check_I0 a2 R n0 (w64 (v2 + 1)) c3 c4 c5 c6 s9))
 (sel (decide (0 < (a2.length : Int)))
 (inb (w64 ((a2.length : Int) - 1)) a2.length = true ∧
 R (.tup [dB (decide ((((at' .step a2 ((w64 ((a2.length : Int) - 1)).toNat)).clause).length : Int) = 0)), dI 0]))
 (R (.tup [dB false, dI 0])))) := by kernel_rfl
theorem proof_Check_eq (a0 : MdlD) (a1 : List (List LitD)) (a2 : List StepD) (R : D → Prop) : fnD Tryz.prog Ev proof_Check_A Tryz.f41.results.toList (bodyOf Tryz.f41) [dM a0, .sl (.list .lit) a1, .sl .step a2] R =
 (Call1 Tryz.prog f_proof_ready [dM a0, .sl (.list .lit) a1, .sl .step a2] .int fun p1 =>
 sel (!decide (p1 = 0))
 (R (.tup [dB false, dI p1]))
 (room (.list .lit) a1.length = true ∧
 ∃ n0, proof_Check_I0 a2 R n0 0 a0.vars a0.cons a0.goal a0.var a1)) := by kernel_rfl
theorem proof_Check_sat {r : D} (a0 : MdlD) (a1 : List (List LitD)) (a2 : List StepD) (h : (∀ d ∈ [dM a0, .sl (.list .lit) a1, .sl .step a2], okD d) → fnD Tryz.prog Ev proof_Check_A Tryz.f41.results.toList (bodyOf Tryz.f41) [dM a0, .sl (.list .lit) a1, .sl .step a2] fun d => d = r) : Sat Tryz.prog f_proof_Check [dM a0, .sl (.list .lit) a1, .sl .step a2] r := by
  have h2 := sat_of (r := r) (args := [dM a0, .sl (.list .lit) a1, .sl .step a2]) (A := proof_Check_A) (fn := Tryz.f41) (body := bodyOf Tryz.f41) (f := f_proof_Check) factsEv Tryz.func41 (by kernel_rfl) (by rw [Tryz.ntmps41]; rfl) (by rw [Tryz.ntmps41]; exact Nat.le_of_ble_eq_true rfl)
  with_reducible exact h2 h
/-! ### cordon/proof.ByCon -/
def proof_ByCon_A : Ann := { own := [], live := [], n := 20, nils := [], pubs := [] }
theorem proof_ByCon_eq (a0 : MdlD) (a1 : Int) (a2 : List LitD) (R : D → Prop) : fnD Tryz.prog Ev proof_ByCon_A Tryz.f83.results.toList (bodyOf Tryz.f83) [dM a0, dI a1, .sl .lit a2] R =
 (Call1 Tryz.prog f_store_Full [dM a0] (.list (.list .int)) fun s1 =>
 Call1 Tryz.prog f_clause_Without [dS s1, .sl .lit a2] (.list (.list .int)) fun c2 =>
 inb a1 a0.cons.length = true ∧
 Call1 Tryz.prog f_filter_Raw [dC (at' .con a0.cons a1.toNat), dS c2] (.list (.list .int)) fun f3 =>
 Call1 Tryz.prog f_store_Empty [dS f3] .bool fun s4 =>
 R (dB s4)) := by kernel_rfl
theorem proof_ByCon_sat {r : D} (a0 : MdlD) (a1 : Int) (a2 : List LitD) (h : (∀ d ∈ [dM a0, dI a1, .sl .lit a2], okD d) → fnD Tryz.prog Ev proof_ByCon_A Tryz.f83.results.toList (bodyOf Tryz.f83) [dM a0, dI a1, .sl .lit a2] fun d => d = r) : Sat Tryz.prog f_proof_ByCon [dM a0, dI a1, .sl .lit a2] r := by
  have h2 := sat_of (r := r) (args := [dM a0, dI a1, .sl .lit a2]) (A := proof_ByCon_A) (fn := Tryz.f83) (body := bodyOf Tryz.f83) (f := f_proof_ByCon) factsEv Tryz.func83 (by kernel_rfl) (by rw [Tryz.ntmps83]; rfl) (by rw [Tryz.ntmps83]; exact Nat.le_of_ble_eq_true rfl)
  with_reducible exact h2 h
/-! ### cordon/proof.ByUnit -/
def proof_ByUnit_A : Ann := { own := [], live := [], n := 17, nils := [], pubs := [] }
theorem proof_ByUnit_eq (a0 : MdlD) (a1 : List (List LitD)) (a2 : List LitD) (R : D → Prop) : fnD Tryz.prog Ev proof_ByUnit_A Tryz.f85.results.toList (bodyOf Tryz.f85) [dM a0, .sl (.list .lit) a1, .sl .lit a2] R =
 (Call1 Tryz.prog f_store_Full [dM a0] (.list (.list .int)) fun s1 =>
 Call1 Tryz.prog f_clause_Without [dS s1, .sl .lit a2] (.list (.list .int)) fun c2 =>
 Call1 Tryz.prog f_fix_Run [dM a0, dS c2, dB false, .sl (.list .lit) a1] (.list (.list .int)) fun f3 =>
 Call1 Tryz.prog f_store_Empty [dS f3] .bool fun s4 =>
 R (dB s4)) := by kernel_rfl
theorem proof_ByUnit_sat {r : D} (a0 : MdlD) (a1 : List (List LitD)) (a2 : List LitD) (h : (∀ d ∈ [dM a0, .sl (.list .lit) a1, .sl .lit a2], okD d) → fnD Tryz.prog Ev proof_ByUnit_A Tryz.f85.results.toList (bodyOf Tryz.f85) [dM a0, .sl (.list .lit) a1, .sl .lit a2] fun d => d = r) : Sat Tryz.prog f_proof_ByUnit [dM a0, .sl (.list .lit) a1, .sl .lit a2] r := by
  have h2 := sat_of (r := r) (args := [dM a0, .sl (.list .lit) a1, .sl .lit a2]) (A := proof_ByUnit_A) (fn := Tryz.f85) (body := bodyOf Tryz.f85) (f := f_proof_ByUnit) factsEv Tryz.func85 (by kernel_rfl) (by rw [Tryz.ntmps85]; rfl) (by rw [Tryz.ntmps85]; exact Nat.le_of_ble_eq_true rfl)
  with_reducible exact h2 h
/-! ### cordon/proof.ready -/
def proof_ready_A : Ann := { own := [10, 13], live := [(0, ([2, 3, 33, 34, 35], [])), (2, ([3, 47, 48, 49], []))], n := 70, nils := [], pubs := [] }
def proof_ready_I2 (a0 : MdlD) (a2 : List StepD) (R : D → Prop) (n2 : Nat) (v5 : Int) : Prop := iter (den Tryz.prog Ev proof_ready_A (sub [1, 1, 1, 1, 1, 0, 1, 0, 0] (bodyOf Tryz.f91)) 2) proof_ready_A (liveOf proof_ready_A 2) n2 ⟨[(3, .iptr [.sl .var a0.vars, .sl .con a0.cons, dI a0.goal, dI a0.var] 0), (47, .sl .step a2), (48, dI (a2.length : Int)), (49, dI v5)], []⟩ (blockK 2 (seqK Tryz.prog Ev proof_ready_A (sub [1, 1, 1, 1, 1, 1] (bodyOf Tryz.f91)) 0 (endK Ev Tryz.f91.results.toList R)))
def proof_ready_I0 (a0 : MdlD) (a2 : List StepD) (R : D → Prop) (n0 : Nat) (v3 : Int) : Prop := iter (den Tryz.prog Ev proof_ready_A (sub [1, 1, 1, 1, 0, 1, 0, 0] (bodyOf Tryz.f91)) 0) proof_ready_A (liveOf proof_ready_A 0) n0 ⟨[(2, .sl .step a2), (3, .iptr [.sl .var a0.vars, .sl .con a0.cons, dI a0.goal, dI a0.var] 0), (33, .sl .step a2), (34, dI (a2.length : Int)), (35, dI v3)], []⟩ (blockK 0 (seqK Tryz.prog Ev proof_ready_A (sub [1, 1, 1, 1, 1] (bodyOf Tryz.f91)) 0 (endK Ev Tryz.f91.results.toList R)))
theorem proof_ready_I2_eq (a0 : MdlD) (a2 : List StepD) (R : D → Prop) (n2 : Nat) (v5 : Int) : proof_ready_I2 a0 a2 R (n2 + 1) v5 =
 (sel (decide (v5 < (a2.length : Int)))
 (inb v5 a2.length = true ∧
 sel (decide (((at' .step a2 v5.toNat).kind) = 1))
 (sel (decide (((at' .step a2 v5.toNat).con) < 0))
 (R (dI 5))
 (sel (decide ((a0.cons.length : Int) ≤ ((at' .step a2 v5.toNat).con)))
 (R (dI 5))
 (proof_ready_I2 a0 a2 R n2 (w64 (v5 + 1)))))
 (proof_ready_I2 a0 a2 R n2 (w64 (v5 + 1))))
 (R (dI 0))) := by kernel_rfl
theorem proof_ready_I0_eq (a0 : MdlD) (a2 : List StepD) (R : D → Prop) (n0 : Nat) (v3 : Int) : proof_ready_I0 a0 a2 R (n0 + 1) v3 =
 (sel (decide (v3 < (a2.length : Int)))
 (inb v3 a2.length = true ∧
 Call1 Tryz.prog f_clause_Right [dM a0, .sl .lit ((at' .step a2 v3.toNat).clause)] .int fun c4 =>
 sel (!decide (c4 = 0))
 (R (dI c4))
 (proof_ready_I0 a0 a2 R n0 (w64 (v3 + 1))))
 (∃ n2, proof_ready_I2 a0 a2 R n2 0)) := by kernel_rfl
theorem proof_ready_eq (a0 : MdlD) (a1 : List (List LitD)) (a2 : List StepD) (R : D → Prop) : fnD Tryz.prog Ev proof_ready_A Tryz.f91.results.toList (bodyOf Tryz.f91) [dM a0, .sl (.list .lit) a1, .sl .step a2] R =
 (Call1 Tryz.prog f_model_Check [dM a0] .int fun m1 =>
 sel (!decide (m1 = 0))
 (R (dI m1))
 (sel (decide (600 < (a1.length : Int)))
 (R (dI 2))
 (sel (decide (6000 < (a2.length : Int)))
 (R (dI 2))
 (Call1 Tryz.prog f_fix_Rights [dM a0, .sl (.list .lit) a1] .int fun f2 =>
 sel (!decide (f2 = 0))
 (R (dI f2))
 (∃ n0, proof_ready_I0 a0 a2 R n0 0))))) := by kernel_rfl
theorem proof_ready_sat {r : D} (a0 : MdlD) (a1 : List (List LitD)) (a2 : List StepD) (h : (∀ d ∈ [dM a0, .sl (.list .lit) a1, .sl .step a2], okD d) → fnD Tryz.prog Ev proof_ready_A Tryz.f91.results.toList (bodyOf Tryz.f91) [dM a0, .sl (.list .lit) a1, .sl .step a2] fun d => d = r) : Sat Tryz.prog f_proof_ready [dM a0, .sl (.list .lit) a1, .sl .step a2] r := by
  have h2 := sat_of (r := r) (args := [dM a0, .sl (.list .lit) a1, .sl .step a2]) (A := proof_ready_A) (fn := Tryz.f91) (body := bodyOf Tryz.f91) (f := f_proof_ready) factsEv Tryz.func91 (by kernel_rfl) (by rw [Tryz.ntmps91]; rfl) (by rw [Tryz.ntmps91]; exact Nat.le_of_ble_eq_true rfl)
  with_reducible exact h2 h
/-! ### (*cordon/proof.checker).step -/
def proof_checker_step_A : Ann := { own := [45], live := [], n := 49, nils := [], pubs := [] }
theorem proof_checker_step_eq (mvs0 : List VarD) (mcs0 : List ConD) (goal0 : Int) (mvar0 : Int) (all0 : List (List LitD)) (st0 : StepD) (R : D → List (Nat × HObj) → Prop) : fnH Tryz.prog Ev proof_checker_step_A Tryz.f92.results.toList (bodyOf Tryz.f92) [.ptr 1000 0, dSt st0] [(1000, .cells [.sl .var mvs0, .sl .con mcs0, dI goal0, dI mvar0, .own 2000]), (2000, .row 54 (.list .lit) all0)] [.ptr 1000 0] false R =
 (sel (decide (st0.kind = 1))
 (Call1 Tryz.prog f_proof_ByCon [.agg [.sl .var mvs0, .sl .con mcs0, dI goal0, dI mvar0], dI st0.con, .sl .lit st0.clause] .bool fun p1 =>
 (room (.list .lit) (all0.length + ([st0.clause]).length) = true ∧
 R (dB p1) [(1000, .cells [.sl .var mvs0, .sl .con mcs0, dI goal0, dI mvar0, .own 2000]), (2000, .row 54 (.list .lit) (all0 ++ ([st0.clause])))]) ∧
 (room (.list .lit) (all0.length + ([st0.clause]).length) = true ∧
 R (dB p1) [(1000, .cells [.sl .var mvs0, .sl .con mcs0, dI goal0, dI mvar0, .own 2000]), (2000, .row 54 (.list .lit) (all0 ++ ([st0.clause])))]) ∧
 (room (.list .lit) (all0.length + ([st0.clause]).length) = true ∧
 R (dB p1) [(1000, .cells [.sl .var mvs0, .sl .con mcs0, dI goal0, dI mvar0, .own 2000]), (2000, .row 54 (.list .lit) (all0 ++ ([st0.clause])))]) ∧
 (room (.list .lit) (all0.length + ([st0.clause]).length) = true ∧
 R (dB p1) [(1000, .cells [.sl .var mvs0, .sl .con mcs0, dI goal0, dI mvar0, .own 2000]), (2000, .row 54 (.list .lit) (all0 ++ ([st0.clause])))]) ∧
 room (.list .lit) (all0.length + ([st0.clause]).length) = true ∧
 R (dB p1) [(1000, .cells [.sl .var mvs0, .sl .con mcs0, dI goal0, dI mvar0, .own 2000]), (2000, .row 54 (.list .lit) (all0 ++ ([st0.clause])))])
 (sel (decide (st0.kind = 2))
 (sel (decide (st0.con = 0))
 (Call1 Tryz.prog f_proof_ByUnit [.agg [.sl .var mvs0, .sl .con mcs0, dI goal0, dI mvar0], .sl (.list .lit) all0, .sl .lit st0.clause] .bool fun p2 =>
 (room (.list .lit) (all0.length + ([st0.clause]).length) = true ∧
 R (dB p2) [(1000, .cells [.sl .var mvs0, .sl .con mcs0, dI goal0, dI mvar0, .own 2000]), (2000, .row 54 (.list .lit) (all0 ++ ([st0.clause])))]) ∧
 (room (.list .lit) (all0.length + ([st0.clause]).length) = true ∧
 R (dB p2) [(1000, .cells [.sl .var mvs0, .sl .con mcs0, dI goal0, dI mvar0, .own 2000]), (2000, .row 54 (.list .lit) (all0 ++ ([st0.clause])))]) ∧
 (room (.list .lit) (all0.length + ([st0.clause]).length) = true ∧
 R (dB p2) [(1000, .cells [.sl .var mvs0, .sl .con mcs0, dI goal0, dI mvar0, .own 2000]), (2000, .row 54 (.list .lit) (all0 ++ ([st0.clause])))]) ∧
 (room (.list .lit) (all0.length + ([st0.clause]).length) = true ∧
 R (dB p2) [(1000, .cells [.sl .var mvs0, .sl .con mcs0, dI goal0, dI mvar0, .own 2000]), (2000, .row 54 (.list .lit) (all0 ++ ([st0.clause])))]) ∧
 room (.list .lit) (all0.length + ([st0.clause]).length) = true ∧
 R (dB p2) [(1000, .cells [.sl .var mvs0, .sl .con mcs0, dI goal0, dI mvar0, .own 2000]), (2000, .row 54 (.list .lit) (all0 ++ ([st0.clause])))])
 ((room (.list .lit) (all0.length + ([st0.clause]).length) = true ∧
 R (dB false) [(1000, .cells [.sl .var mvs0, .sl .con mcs0, dI goal0, dI mvar0, .own 2000]), (2000, .row 54 (.list .lit) (all0 ++ ([st0.clause])))]) ∧
 (room (.list .lit) (all0.length + ([st0.clause]).length) = true ∧
 R (dB false) [(1000, .cells [.sl .var mvs0, .sl .con mcs0, dI goal0, dI mvar0, .own 2000]), (2000, .row 54 (.list .lit) (all0 ++ ([st0.clause])))]) ∧
 (room (.list .lit) (all0.length + ([st0.clause]).length) = true ∧
 R (dB false) [(1000, .cells [.sl .var mvs0, .sl .con mcs0, dI goal0, dI mvar0, .own 2000]), (2000, .row 54 (.list .lit) (all0 ++ ([st0.clause])))]) ∧
 (room (.list .lit) (all0.length + ([st0.clause]).length) = true ∧
 R (dB false) [(1000, .cells [.sl .var mvs0, .sl .con mcs0, dI goal0, dI mvar0, .own 2000]), (2000, .row 54 (.list .lit) (all0 ++ ([st0.clause])))]) ∧
 room (.list .lit) (all0.length + ([st0.clause]).length) = true ∧
 R (dB false) [(1000, .cells [.sl .var mvs0, .sl .con mcs0, dI goal0, dI mvar0, .own 2000]), (2000, .row 54 (.list .lit) (all0 ++ ([st0.clause])))]))
 ((room (.list .lit) (all0.length + ([st0.clause]).length) = true ∧
 R (dB false) [(1000, .cells [.sl .var mvs0, .sl .con mcs0, dI goal0, dI mvar0, .own 2000]), (2000, .row 54 (.list .lit) (all0 ++ ([st0.clause])))]) ∧
 (room (.list .lit) (all0.length + ([st0.clause]).length) = true ∧
 R (dB false) [(1000, .cells [.sl .var mvs0, .sl .con mcs0, dI goal0, dI mvar0, .own 2000]), (2000, .row 54 (.list .lit) (all0 ++ ([st0.clause])))]) ∧
 (room (.list .lit) (all0.length + ([st0.clause]).length) = true ∧
 R (dB false) [(1000, .cells [.sl .var mvs0, .sl .con mcs0, dI goal0, dI mvar0, .own 2000]), (2000, .row 54 (.list .lit) (all0 ++ ([st0.clause])))]) ∧
 (room (.list .lit) (all0.length + ([st0.clause]).length) = true ∧
 R (dB false) [(1000, .cells [.sl .var mvs0, .sl .con mcs0, dI goal0, dI mvar0, .own 2000]), (2000, .row 54 (.list .lit) (all0 ++ ([st0.clause])))]) ∧
 room (.list .lit) (all0.length + ([st0.clause]).length) = true ∧
 R (dB false) [(1000, .cells [.sl .var mvs0, .sl .con mcs0, dI goal0, dI mvar0, .own 2000]), (2000, .row 54 (.list .lit) (all0 ++ ([st0.clause])))]))) := by kernel_rfl
theorem proof_checker_step_sat {r : D} {h0 : List (Nat × HObj)} (mvs0 : List VarD) (mcs0 : List ConD) (goal0 : Int) (mvar0 : Int) (all0 : List (List LitD)) (st0 : StepD) (h : (∀ d ∈ [.ptr 1000 0, dSt st0], okD d) → (∀ k o, look k [(1000, .cells [.sl .var mvs0, .sl .con mcs0, dI goal0, dI mvar0, .own 2000]), (2000, .row 54 (.list .lit) all0)] = some o → okO o) → fnH Tryz.prog Ev proof_checker_step_A Tryz.f92.results.toList (bodyOf Tryz.f92) [.ptr 1000 0, dSt st0] [(1000, .cells [.sl .var mvs0, .sl .con mcs0, dI goal0, dI mvar0, .own 2000]), (2000, .row 54 (.list .lit) all0)] [.ptr 1000 0] false fun d h1 => d = r ∧ h1 = h0) : SatH Tryz.prog f_proof_checker_step [.ptr 1000 0, dSt st0] [(1000, .cells [.sl .var mvs0, .sl .con mcs0, dI goal0, dI mvar0, .own 2000]), (2000, .row 54 (.list .lit) all0)] r h0 := by
  have h2 := satH_of (r := r) (hp := [(1000, .cells [.sl .var mvs0, .sl .con mcs0, dI goal0, dI mvar0, .own 2000]), (2000, .row 54 (.list .lit) all0)]) (hp' := h0) (roots := [.ptr 1000 0]) (args := [.ptr 1000 0, dSt st0]) (A := proof_checker_step_A) (fn := Tryz.f92) (body := bodyOf Tryz.f92) (f := f_proof_checker_step) (own := false) factsEv Tryz.func92 (by kernel_rfl) (by rw [Tryz.ntmps92]; rfl) (by rw [Tryz.ntmps92]; exact Nat.le_of_ble_eq_true rfl)
  with_reducible exact h2 h
end Go.Proofs.YtgnjdgafkjohaaaGreat
