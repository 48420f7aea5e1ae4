/- What the functions of a package do, as equations of plain propositions: printed by a program that carries the code out on symbols. -/
import Derived.Test.YtajnbkhgnppckaaGreatWEv
namespace Go.Proofs.YtajnbkhgnppckaaGreat
open Go.RowKit
set_option linter.unusedVariables false
set_option maxRecDepth 100000
/-! ### cordon/learn.Learn -/
def learn_Learn_A : Ann := { own := [], live := [], n := 30, nils := [], pubs := [] }
theorem learn_Learn_eq (a0 : MdlD) (a1 : List (List LitD)) (a2 : List LitD) (R : D → Prop) : fnD Tryz.prog Ev learn_Learn_A Tryz.f7.results.toList (bodyOf Tryz.f7) [dM a0, .sl (.list .lit) a1, .sl .lit a2] R =
 (Call1 Tryz.prog f_learn_ready [dM a0, .sl (.list .lit) a1, .sl .lit a2] .int fun l1 =>
 sel (!decide (l1 = 0))
 (R (.tup [.sl .lit ([] : List LitD), dB false, dI l1]))
 (Call2 Tryz.prog f_learn_Fewest [dM a0, .sl (.list .lit) a1, .sl .lit a2] (.list .lit) .bool fun l2 l3 =>
 sel (!l3)
 (R (.tup [.sl .lit ([] : List LitD), dB false, dI 0]))
 (Call1 Tryz.prog f_learn_Nogood [.sl .lit l2] (.list .lit) fun l4 =>
 R (.tup [.sl .lit l4, dB true, dI 0])))) := by kernel_rfl
theorem learn_Learn_sat {r : D} (a0 : MdlD) (a1 : List (List LitD)) (a2 : List LitD) (h : (∀ d ∈ [dM a0, .sl (.list .lit) a1, .sl .lit a2], okD d) → fnD Tryz.prog Ev learn_Learn_A Tryz.f7.results.toList (bodyOf Tryz.f7) [dM a0, .sl (.list .lit) a1, .sl .lit a2] fun d => d = r) : Sat Tryz.prog f_learn_Learn [dM a0, .sl (.list .lit) a1, .sl .lit a2] r := by
  have h2 := sat_of (r := r) (args := [dM a0, .sl (.list .lit) a1, .sl .lit a2]) (A := learn_Learn_A) (fn := Tryz.f7) (body := bodyOf Tryz.f7) (f := f_learn_Learn) factsEv Tryz.func7 (by kernel_rfl) (by rw [Tryz.ntmps7]; rfl) (by rw [Tryz.ntmps7]; exact Nat.le_of_ble_eq_true rfl)
  with_reducible exact h2 h
/-! ### cordon/learn.Steps -/
def learn_Steps_A : Ann := { own := [], live := [], n := 32, nils := [], pubs := [] }
theorem learn_Steps_eq (a0 : MdlD) (a1 : List (List LitD)) (a2 : List LitD) (R : D → Prop) : fnD Tryz.prog Ev learn_Steps_A Tryz.f14.results.toList (bodyOf Tryz.f14) [dM a0, .sl (.list .lit) a1, .sl .lit a2] R =
 (Call1 Tryz.prog f_learn_ready [dM a0, .sl (.list .lit) a1, .sl .lit a2] .int fun l1 =>
 sel (!decide (l1 = 0))
 (R (.tup [.sl .step ([] : List StepD), dB false, dI l1]))
 (Call2 Tryz.prog f_learn_Fewest [dM a0, .sl (.list .lit) a1, .sl .lit a2] (.list .lit) .bool fun l2 l3 =>
 sel (!l3)
 (R (.tup [.sl .step ([] : List StepD), dB false, dI 0]))
 (Call1 Tryz.prog f_learn_Trace [dM a0, .sl (.list .lit) a1, .sl .lit l2] (.list .step) fun l4 =>
 R (.tup [.sl .step l4, dB true, dI 0])))) := by kernel_rfl
theorem learn_Steps_sat {r : D} (a0 : MdlD) (a1 : List (List LitD)) (a2 : List LitD) (h : (∀ d ∈ [dM a0, .sl (.list .lit) a1, .sl .lit a2], okD d) → fnD Tryz.prog Ev learn_Steps_A Tryz.f14.results.toList (bodyOf Tryz.f14) [dM a0, .sl (.list .lit) a1, .sl .lit a2] fun d => d = r) : Sat Tryz.prog f_learn_Steps [dM a0, .sl (.list .lit) a1, .sl .lit a2] r := by
  have h2 := sat_of (r := r) (args := [dM a0, .sl (.list .lit) a1, .sl .lit a2]) (A := learn_Steps_A) (fn := Tryz.f14) (body := bodyOf Tryz.f14) (f := f_learn_Steps) factsEv Tryz.func14 (by kernel_rfl) (by rw [Tryz.ntmps14]; rfl) (by rw [Tryz.ntmps14]; exact Nat.le_of_ble_eq_true rfl)
  with_reducible exact h2 h
/-! ### cordon/learn.ready -/
def learn_ready_A : Ann := { own := [11], live := [(0, ([3, 30, 31, 32], []))], n := 43, nils := [], pubs := [] }
def learn_ready_I0 (a0 : MdlD) (a2 : List LitD) (R : D → Prop) (n0 : Nat) (v4 : Int) : Prop := iter (den Tryz.prog Ev learn_ready_A (sub [1, 1, 1, 1, 0, 1, 0, 0] (bodyOf Tryz.f47)) 0) learn_ready_A (liveOf learn_ready_A 0) n0 ⟨[(3, .iptr [.sl .var a0.vars, .sl .con a0.cons, dI a0.goal, dI a0.var] 0), (30, .sl .lit a2), (31, dI (a2.length : Int)), (32, dI v4)], []⟩ (blockK 0 (seqK Tryz.prog Ev learn_ready_A (sub [1, 1, 1, 1, 1] (bodyOf Tryz.f47)) 0 (endK Ev Tryz.f47.results.toList R)))
theorem learn_ready_I0_eq (a0 : MdlD) (a2 : List LitD) (R : D → Prop) (n0 : Nat) (v4 : Int) : learn_ready_I0 a0 a2 R (n0 + 1) v4 =
 (sel (decide (v4 < (a2.length : Int)))
 (inb v4 a2.length = true ∧
 Call1 Tryz.prog f_lit_Turns [dM a0, dL (at' .lit a2 v4.toNat)] .int fun l5 =>
 sel (!decide (l5 = 0))
 (R (dI l5))
 (learn_ready_I0 a0 a2 R n0 (w64 (v4 + 1))))
 (R (dI 0))) := by kernel_rfl
theorem learn_ready_eq (a0 : MdlD) (a1 : List (List LitD)) (a2 : List LitD) (R : D → Prop) : fnD Tryz.prog Ev learn_ready_A Tryz.f47.results.toList (bodyOf Tryz.f47) [dM a0, .sl (.list .lit) a1, .sl .lit a2] R =
 (Call1 Tryz.prog f_model_Check [dM a0] .int fun m1 =>
 sel (!decide (m1 = 0))
 (R (dI m1))
 (Call1 Tryz.prog f_fix_Rights [dM a0, .sl (.list .lit) a1] .int fun f2 =>
 sel (!decide (f2 = 0))
 (R (dI f2))
 (Call1 Tryz.prog f_clause_Right [dM a0, .sl .lit a2] .int fun c3 =>
 sel (!decide (c3 = 0))
 (R (dI c3))
 (∃ n0, learn_ready_I0 a0 a2 R n0 0)))) := by kernel_rfl
theorem learn_ready_sat {r : D} (a0 : MdlD) (a1 : List (List LitD)) (a2 : List LitD) (h : (∀ d ∈ [dM a0, .sl (.list .lit) a1, .sl .lit a2], okD d) → fnD Tryz.prog Ev learn_ready_A Tryz.f47.results.toList (bodyOf Tryz.f47) [dM a0, .sl (.list .lit) a1, .sl .lit a2] fun d => d = r) : Sat Tryz.prog f_learn_ready [dM a0, .sl (.list .lit) a1, .sl .lit a2] r := by
  have h2 := sat_of (r := r) (args := [dM a0, .sl (.list .lit) a1, .sl .lit a2]) (A := learn_ready_A) (fn := Tryz.f47) (body := bodyOf Tryz.f47) (f := f_learn_ready) factsEv Tryz.func47 (by kernel_rfl) (by rw [Tryz.ntmps47]; rfl) (by rw [Tryz.ntmps47]; exact Nat.le_of_ble_eq_true rfl)
  with_reducible exact h2 h
/-! ### cordon/learn.Fewest -/
def learn_Fewest_A : Ann := { own := [], live := [(0, ([1, 3, 8, 9], []))], n := 39, nils := [], pubs := [(31088, 999999)] }
def learn_Fewest_I0 (a0 : MdlD) (a1 : List (List LitD)) (R : D → Prop) (n0 : Nat) (d3 : List LitD) (i4 : Int) : Prop := iter (den Tryz.prog Ev learn_Fewest_A (sub [1, 1, 1, 0, 1, 0, 0] (bodyOf Tryz.f48)) 0) learn_Fewest_A (liveOf learn_Fewest_A 0) n0 ⟨[(1, .sl (.list .lit) a1), (3, .iptr [.sl .var a0.vars, .sl .con a0.cons, dI a0.goal, dI a0.var] 0), (8, .sl .lit d3), (9, dI i4)], []⟩ (blockK 0 (seqK Tryz.prog Ev learn_Fewest_A (sub [1, 1, 1, 1] (bodyOf Tryz.f48)) 0 (endK Ev Tryz.f48.results.toList R)))
theorem learn_Fewest_I0_eq (a0 : MdlD) (a1 : List (List LitD)) (R : D → Prop) (n0 : Nat) (d3 : List LitD) (i4 : Int) : learn_Fewest_I0 a0 a1 R (n0 + 1) d3 i4 =
 (sel (decide (i4 < (d3.length : Int)))
 (inSl 0 i4 d3.length = true ∧
 inSl (w64 (i4 + 1)) (d3.length : Int) d3.length = true ∧
 Call1 Tryz.prog f_slices_Concat_l_api_Lit_api_Lit [.sl (.list .lit) ([(d3.take i4.toNat).drop 0, (d3.take (d3.length : Int).toNat).drop (w64 (i4 + 1)).toNat])] (.list .lit) fun s5 =>
 Call1 Tryz.prog f_learn_fails [dM a0, .sl (.list .lit) a1, .sl .lit s5] .bool fun l6 =>
 sel l6
 (learn_Fewest_I0 a0 a1 R n0 s5 i4)
 (learn_Fewest_I0 a0 a1 R n0 d3 (w64 (i4 + 1))))
 (R (.tup [.sl .lit d3, dB true]))) := by kernel_rfl
theorem learn_Fewest_eq (a0 : MdlD) (a1 : List (List LitD)) (a2 : List LitD) (R : D → Prop) : fnD Tryz.prog Ev learn_Fewest_A Tryz.f48.results.toList (bodyOf Tryz.f48) [dM a0, .sl (.list .lit) a1, .sl .lit a2] R =
 (Call1 Tryz.prog f_learn_fails [dM a0, .sl (.list .lit) a1, .sl .lit a2] .bool fun l1 =>
 sel (!l1)
 (R (.tup [.sl .lit ([] : List LitD), dB false]))
 (∃ l2 : List LitD, SatH Tryz.prog f_slices_Clone_l_api_Lit_api_Lit [.sl .lit a2] [] (.own 3000) [(3000, .row 82 .lit l2)] ∧
 ∃ n0, learn_Fewest_I0 a0 a1 R n0 l2 0)) := by kernel_rfl
theorem learn_Fewest_sat {r : D} (a0 : MdlD) (a1 : List (List LitD)) (a2 : List LitD) (h : (∀ d ∈ [dM a0, .sl (.list .lit) a1, .sl .lit a2], okD d) → fnD Tryz.prog Ev learn_Fewest_A Tryz.f48.results.toList (bodyOf Tryz.f48) [dM a0, .sl (.list .lit) a1, .sl .lit a2] fun d => d = r) : Sat Tryz.prog f_learn_Fewest [dM a0, .sl (.list .lit) a1, .sl .lit a2] r := by
  have h2 := sat_of (r := r) (args := [dM a0, .sl (.list .lit) a1, .sl .lit a2]) (A := learn_Fewest_A) (fn := Tryz.f48) (body := bodyOf Tryz.f48) (f := f_learn_Fewest) factsEv Tryz.func48 (by kernel_rfl) (by rw [Tryz.ntmps48]; rfl) (by rw [Tryz.ntmps48]; exact Nat.le_of_ble_eq_true rfl)
  with_reducible exact h2 h
/-! ### cordon/learn.Nogood -/
def learn_Nogood_A : Ann := { own := [3, 5, 16], live := [(0, ([3, 6, 7, 8], [3]))], n := 19, nils := [], pubs := [] }
def learn_Nogood_I0 (a0 : List LitD) (R : D → Prop) (n0 : Nat) (v1 : Int) (out2 : List LitD) : Prop := iter (den Tryz.prog Ev learn_Nogood_A (sub [1, 1, 0, 1, 0, 0] (bodyOf Tryz.f49)) 0) learn_Nogood_A (liveOf learn_Nogood_A 0) n0 ⟨[(3, .own 3), (6, .sl .lit a0), (7, dI (a0.length : Int)), (8, dI v1)], [(3, .row 82 .lit out2)]⟩ (blockK 0 (seqK Tryz.prog Ev learn_Nogood_A (sub [1, 1, 1] (bodyOf Tryz.f49)) 0 (endK Ev Tryz.f49.results.toList R)))
theorem learn_Nogood_I0_eq (a0 : List LitD) (R : D → Prop) (n0 : Nat) (v1 : Int) (out2 : List LitD) : learn_Nogood_I0 a0 R (n0 + 1) v1 out2 =
 (sel (decide (v1 < (a0.length : Int)))
 (inb v1 a0.length = true ∧
 Call1 Tryz.prog f_lit_Opposite [dL (at' .lit a0 v1.toNat)] .lit fun l3 =>
 room .lit (out2.length + ([l3]).length) = true ∧
 learn_Nogood_I0 a0 R n0 (w64 (v1 + 1)) (out2 ++ ([l3])))
 (R (.sl .lit out2))) := by kernel_rfl
theorem learn_Nogood_eq (a0 : List LitD) (R : D → Prop) : fnD Tryz.prog Ev learn_Nogood_A Tryz.f49.results.toList (bodyOf Tryz.f49) [.sl .lit a0] R =
 (∃ n0, learn_Nogood_I0 a0 R n0 0 ([] : List LitD)) := by kernel_rfl
theorem learn_Nogood_sat {r : D} (a0 : List LitD) (h : (∀ d ∈ [.sl .lit a0], okD d) → fnD Tryz.prog Ev learn_Nogood_A Tryz.f49.results.toList (bodyOf Tryz.f49) [.sl .lit a0] fun d => d = r) : Sat Tryz.prog f_learn_Nogood [.sl .lit a0] r := by
  have h2 := sat_of (r := r) (args := [.sl .lit a0]) (A := learn_Nogood_A) (fn := Tryz.f49) (body := bodyOf Tryz.f49) (f := f_learn_Nogood) factsEv Tryz.func49 (by kernel_rfl) (by rw [Tryz.ntmps49]; rfl) (by rw [Tryz.ntmps49]; exact Nat.le_of_ble_eq_true rfl)
  with_reducible exact h2 h
/-! ### cordon/learn.Trace -/
def learn_Trace_A : Ann := { own := [14, 25], live := [], n := 26, nils := [(14, (6, (44, .step)))], pubs := [] }
theorem learn_Trace_eq (a0 : MdlD) (a1 : List (List LitD)) (a2 : List LitD) (R : D → Prop) : fnD Tryz.prog Ev learn_Trace_A Tryz.f56.results.toList (bodyOf Tryz.f56) [dM a0, .sl (.list .lit) a1, .sl .lit a2] R =
 (Call1 Tryz.prog f_learn_put [dM a0, .sl .lit a2] (.list (.list .int)) fun l1 =>
 ∃ r2 : List (List Int), ∃ r3 : List StepD, SatH Tryz.prog f_learn_tracer_run [.ptr 1000 0] [(1000, .cells [.sl .var a0.vars, .sl .con a0.cons, dI a0.goal, dI a0.var, .sl (.list .lit) a1, dS l1, .own 2000]), (2000, .row 44 .step ([] : List StepD))] (.tup []) [(1000, .cells [.sl .var a0.vars, .sl .con a0.cons, dI a0.goal, dI a0.var, .sl (.list .lit) a1, dS r2, .own 2000]), (2000, .row 44 .step r3)] ∧
 Call1 Tryz.prog f_learn_Nogood [.sl .lit a2] (.list .lit) fun l4 =>
 room .step (r3.length + ([(⟨2, 0, l4⟩ : StepD)]).length) = true ∧
 R (.sl .step (r3 ++ ([(⟨2, 0, l4⟩ : StepD)])))) := by kernel_rfl
theorem learn_Trace_sat {r : D} (a0 : MdlD) (a1 : List (List LitD)) (a2 : List LitD) (h : (∀ d ∈ [dM a0, .sl (.list .lit) a1, .sl .lit a2], okD d) → fnD Tryz.prog Ev learn_Trace_A Tryz.f56.results.toList (bodyOf Tryz.f56) [dM a0, .sl (.list .lit) a1, .sl .lit a2] fun d => d = r) : Sat Tryz.prog f_learn_Trace [dM a0, .sl (.list .lit) a1, .sl .lit a2] r := by
  have h2 := sat_of (r := r) (args := [dM a0, .sl (.list .lit) a1, .sl .lit a2]) (A := learn_Trace_A) (fn := Tryz.f56) (body := bodyOf Tryz.f56) (f := f_learn_Trace) factsEv Tryz.func56 (by kernel_rfl) (by rw [Tryz.ntmps56]; rfl) (by rw [Tryz.ntmps56]; exact Nat.le_of_ble_eq_true rfl)
  with_reducible exact h2 h
/-! ### cordon/learn.fails -/
def learn_fails_A : Ann := { own := [], live := [], n := 14, nils := [], pubs := [] }
theorem learn_fails_eq (a0 : MdlD) (a1 : List (List LitD)) (a2 : List LitD) (R : D → Prop) : fnD Tryz.prog Ev learn_fails_A Tryz.f96.results.toList (bodyOf Tryz.f96) [dM a0, .sl (.list .lit) a1, .sl .lit a2] R =
 (Call1 Tryz.prog f_learn_put [dM a0, .sl .lit a2] (.list (.list .int)) fun l1 =>
 Call1 Tryz.prog f_fix_Run [dM a0, dS l1, dB true, .sl (.list .lit) a1] (.list (.list .int)) fun f2 =>
 Call1 Tryz.prog f_store_Empty [dS f2] .bool fun s3 =>
 R (dB s3)) := by kernel_rfl
theorem learn_fails_sat {r : D} (a0 : MdlD) (a1 : List (List LitD)) (a2 : List LitD) (h : (∀ d ∈ [dM a0, .sl (.list .lit) a1, .sl .lit a2], okD d) → fnD Tryz.prog Ev learn_fails_A Tryz.f96.results.toList (bodyOf Tryz.f96) [dM a0, .sl (.list .lit) a1, .sl .lit a2] fun d => d = r) : Sat Tryz.prog f_learn_fails [dM a0, .sl (.list .lit) a1, .sl .lit a2] r := by
  have h2 := sat_of (r := r) (args := [dM a0, .sl (.list .lit) a1, .sl .lit a2]) (A := learn_fails_A) (fn := Tryz.f96) (body := bodyOf Tryz.f96) (f := f_learn_fails) factsEv Tryz.func96 (by kernel_rfl) (by rw [Tryz.ntmps96]; rfl) (by rw [Tryz.ntmps96]; exact Nat.le_of_ble_eq_true rfl)
  with_reducible exact h2 h
/-! ### cordon/learn.put -/
def learn_put_A : Ann := { own := [7], live := [(0, ([5, 10, 11, 12], []))], n := 21, nils := [], pubs := [] }
def learn_put_I0 (a1 : List LitD) (R : D → Prop) (n0 : Nat) (s2 : List (List Int)) (v3 : Int) : Prop := iter (den Tryz.prog Ev learn_put_A (sub [1, 1, 0, 1, 0, 0] (bodyOf Tryz.f105)) 0) learn_put_A (liveOf learn_put_A 0) n0 ⟨[(5, dS s2), (10, .sl .lit a1), (11, dI (a1.length : Int)), (12, dI v3)], []⟩ (blockK 0 (seqK Tryz.prog Ev learn_put_A (sub [1, 1, 1] (bodyOf Tryz.f105)) 0 (endK Ev Tryz.f105.results.toList R)))
theorem learn_put_I0_eq (a1 : List LitD) (R : D → Prop) (n0 : Nat) (s2 : List (List Int)) (v3 : Int) : learn_put_I0 a1 R (n0 + 1) s2 v3 =
 (sel (decide (v3 < (a1.length : Int)))
 (inb v3 a1.length = true ∧
 Call1 Tryz.prog f_lit_Set [dS s2, dL (at' .lit a1 v3.toNat)] (.list (.list .int)) fun l4 =>
 learn_put_I0 a1 R n0 l4 (w64 (v3 + 1)))
 (R (dS s2))) := by kernel_rfl
theorem learn_put_eq (a0 : MdlD) (a1 : List LitD) (R : D → Prop) : fnD Tryz.prog Ev learn_put_A Tryz.f105.results.toList (bodyOf Tryz.f105) [dM a0, .sl .lit a1] R =
 (Call1 Tryz.prog f_store_Full [dM a0] (.list (.list .int)) fun s1 =>
 ∃ n0, learn_put_I0 a1 R n0 s1 0) := by kernel_rfl
theorem learn_put_sat {r : D} (a0 : MdlD) (a1 : List LitD) (h : (∀ d ∈ [dM a0, .sl .lit a1], okD d) → fnD Tryz.prog Ev learn_put_A Tryz.f105.results.toList (bodyOf Tryz.f105) [dM a0, .sl .lit a1] fun d => d = r) : Sat Tryz.prog f_learn_put [dM a0, .sl .lit a1] r := by
  have h2 := sat_of (r := r) (args := [dM a0, .sl .lit a1]) (A := learn_put_A) (fn := Tryz.f105) (body := bodyOf Tryz.f105) (f := f_learn_put) factsEv Tryz.func105 (by kernel_rfl) (by rw [Tryz.ntmps105]; rfl) (by rw [Tryz.ntmps105]; exact Nat.le_of_ble_eq_true rfl)
  with_reducible exact h2 h
/-! ### (*cordon/learn.tracer).run -/
def learn_tracer_run_A : Ann := { own := [], live := [(0, ([0, 2], [1000, 2000])), (2, ([0, 2, 3], [1000, 2000]))], n := 59, nils := [], pubs := [] }
def learn_tracer_run_I2 (R : D → List (Nat × HObj) → Prop) (n0 : Nat) (n2 : Nat) (changed10 : Bool) (i11 : Int) (c12 : List VarD) (c13 : List ConD) (c14 : Int) (c15 : Int) (c16 : List (List LitD)) (c17 : List (List Int)) (l18 : List StepD) : Prop := iter (den Tryz.prog Ev learn_tracer_run_A (sub [1, 0, 0, 1, 0, 1, 0, 1, 0, 0] (bodyOf Tryz.f106)) 2) learn_tracer_run_A (liveOf learn_tracer_run_A 2) n2 ⟨[(0, .ptr 1000 0), (2, dB changed10), (3, dI i11)], [(1000, .cells [.sl .var c12, .sl .con c13, dI c14, dI c15, .sl (.list .lit) c16, dS c17, .own 2000]), (2000, .row 44 .step l18)]⟩ (blockK 2 (seqK Tryz.prog Ev learn_tracer_run_A (sub [1, 0, 0, 1, 0, 1, 1] (bodyOf Tryz.f106)) 1 (blockK 1 (iterK (den Tryz.prog Ev learn_tracer_run_A (sub [1, 0, 0] (bodyOf Tryz.f106)) 0) learn_tracer_run_A (liveOf learn_tracer_run_A 0) n0 (blockK 0 (endH Ev Tryz.f106.results.toList [.ptr 1000 0] false R))))))
def learn_tracer_run_I0 (R : D → List (Nat × HObj) → Prop) (n0 : Nat) (changed1 : Bool) (c2 : List VarD) (c3 : List ConD) (c4 : Int) (c5 : Int) (c6 : List (List LitD)) (c7 : List (List Int)) (l8 : List StepD) : Prop := iter (den Tryz.prog Ev learn_tracer_run_A (sub [1, 0, 0] (bodyOf Tryz.f106)) 0) learn_tracer_run_A (liveOf learn_tracer_run_A 0) n0 ⟨[(0, .ptr 1000 0), (2, dB changed1)], [(1000, .cells [.sl .var c2, .sl .con c3, dI c4, dI c5, .sl (.list .lit) c6, dS c7, .own 2000]), (2000, .row 44 .step l8)]⟩ (blockK 0 (endH Ev Tryz.f106.results.toList [.ptr 1000 0] false R))
theorem learn_tracer_run_I2_eq (R : D → List (Nat × HObj) → Prop) (n0 : Nat) (n2 : Nat) (changed10 : Bool) (i11 : Int) (c12 : List VarD) (c13 : List ConD) (c14 : Int) (c15 : Int) (c16 : List (List LitD)) (c17 : List (List Int)) (l18 : List StepD) : learn_tracer_run_I2 R n0 (n2 + 1) changed10 i11 c12 c13 c14 c15 c16 c17 l18 =
 (sel (decide (i11 < (c13.length : Int)))
 (Call1 Tryz.prog f_store_Empty [dS c17] .bool fun s19 =>
 sel (!s19)
 (∃ c20 : Bool, ∃ c21 : List (List Int), ∃ c22 : List StepD, SatH Tryz.prog f_learn_tracer_con [.ptr 1000 0, dI i11] [(1000, .cells [.sl .var c12, .sl .con c13, dI c14, dI c15, .sl (.list .lit) c16, dS c17, .own 2000]), (2000, .row 44 .step l18)] (dB c20) [(1000, .cells [.sl .var c12, .sl .con c13, dI c14, dI c15, .sl (.list .lit) c16, dS c21, .own 2000]), (2000, .row 44 .step c22)] ∧
 sel c20
 (learn_tracer_run_I2 R n0 n2 true (w64 (i11 + 1)) c12 c13 c14 c15 c16 c21 c22)
 (learn_tracer_run_I2 R n0 n2 changed10 (w64 (i11 + 1)) c12 c13 c14 c15 c16 c21 c22))
 (Call1 Tryz.prog f_fix_Run [.agg [.sl .var c12, .sl .con c13, dI c14, dI c15], dS c17, dB false, .sl (.list .lit) c16] (.list (.list .int)) fun f23 =>
 Call1 Tryz.prog f_slices_EqualFunc_api_Store_api_Store_int_int [dS f23, dS c17, .clo f_slices_Equal_l_int_int none []] .bool fun s24 =>
 sel (!s24)
 (learn_tracer_run_I0 R n0 true c12 c13 c14 c15 c16 f23 l18)
 (learn_tracer_run_I0 R n0 changed10 c12 c13 c14 c15 c16 f23 l18)))
 (Call1 Tryz.prog f_fix_Run [.agg [.sl .var c12, .sl .con c13, dI c14, dI c15], dS c17, dB false, .sl (.list .lit) c16] (.list (.list .int)) fun f25 =>
 Call1 Tryz.prog f_slices_EqualFunc_api_Store_api_Store_int_int [dS f25, dS c17, .clo f_slices_Equal_l_int_int none []] .bool fun s26 =>
 sel (!s26)
 (learn_tracer_run_I0 R n0 true c12 c13 c14 c15 c16 f25 l18)
 (learn_tracer_run_I0 R n0 changed10 c12 c13 c14 c15 c16 f25 l18))) := by kernel_rfl
theorem learn_tracer_run_I0_eq (R : D → List (Nat × HObj) → Prop) (n0 : Nat) (changed1 : Bool) (c2 : List VarD) (c3 : List ConD) (c4 : Int) (c5 : Int) (c6 : List (List LitD)) (c7 : List (List Int)) (l8 : List StepD) : learn_tracer_run_I0 R (n0 + 1) changed1 c2 c3 c4 c5 c6 c7 l8 =
 (sel changed1
 (Call1 Tryz.prog f_store_Empty [dS c7] .bool fun s9 =>
 sel (!s9)
 (∃ n2, learn_tracer_run_I2 R n0 n2 false 0 c2 c3 c4 c5 c6 c7 l8)
 (R (.tup []) [(1000, .cells [.sl .var c2, .sl .con c3, dI c4, dI c5, .sl (.list .lit) c6, dS c7, .own 2000]), (2000, .row 44 .step l8)]))
 (R (.tup []) [(1000, .cells [.sl .var c2, .sl .con c3, dI c4, dI c5, .sl (.list .lit) c6, dS c7, .own 2000]), (2000, .row 44 .step l8)])) := by kernel_rfl
theorem learn_tracer_run_eq (mvs0 : List VarD) (mcs0 : List ConD) (goal0 : Int) (mvar0 : Int) (l0 : List (List LitD)) (s0 : List (List Int)) (steps0 : List StepD) (R : D → List (Nat × HObj) → Prop) : fnH Tryz.prog Ev learn_tracer_run_A Tryz.f106.results.toList (bodyOf Tryz.f106) [.ptr 1000 0] [(1000, .cells [.sl .var mvs0, .sl .con mcs0, dI goal0, dI mvar0, .sl (.list .lit) l0, dS s0, .own 2000]), (2000, .row 44 .step steps0)] [.ptr 1000 0] false R =
 (∃ n0, learn_tracer_run_I0 R n0 true mvs0 mcs0 goal0 mvar0 l0 s0 steps0) := by kernel_rfl
theorem learn_tracer_run_sat {r : D} {h0 : List (Nat × HObj)} (mvs0 : List VarD) (mcs0 : List ConD) (goal0 : Int) (mvar0 : Int) (l0 : List (List LitD)) (s0 : List (List Int)) (steps0 : List StepD) (h : (∀ d ∈ [.ptr 1000 0], okD d) → (∀ k o, look k [(1000, .cells [.sl .var mvs0, .sl .con mcs0, dI goal0, dI mvar0, .sl (.list .lit) l0, dS s0, .own 2000]), (2000, .row 44 .step steps0)] = some o → okO o) → fnH Tryz.prog Ev learn_tracer_run_A Tryz.f106.results.toList (bodyOf Tryz.f106) [.ptr 1000 0] [(1000, .cells [.sl .var mvs0, .sl .con mcs0, dI goal0, dI mvar0, .sl (.list .lit) l0, dS s0, .own 2000]), (2000, .row 44 .step steps0)] [.ptr 1000 0] false fun d h1 => d = r ∧ h1 = h0) : SatH Tryz.prog f_learn_tracer_run [.ptr 1000 0] [(1000, .cells [.sl .var mvs0, .sl .con mcs0, dI goal0, dI mvar0, .sl (.list .lit) l0, dS s0, .own 2000]), (2000, .row 44 .step steps0)] r h0 := by
  have h2 := satH_of (r := r) (hp := [(1000, .cells [.sl .var mvs0, .sl .con mcs0, dI goal0, dI mvar0, .sl (.list .lit) l0, dS s0, .own 2000]), (2000, .row 44 .step steps0)]) (hp' := h0) (roots := [.ptr 1000 0]) (args := [.ptr 1000 0]) (A := learn_tracer_run_A) (fn := Tryz.f106) (body := bodyOf Tryz.f106) (f := f_learn_tracer_run) (own := false) factsEv Tryz.func106 (by kernel_rfl) (by rw [Tryz.ntmps106]; rfl) (by rw [Tryz.ntmps106]; exact Nat.le_of_ble_eq_true rfl)
  with_reducible exact h2 h
/-! ### (*cordon/learn.tracer).con -/
def learn_tracer_con_A : Ann := { own := [52, 109], live := [(0, ([0, 1, 5, 8, 66, 67, 68], [1000, 2000])), (2, ([0, 1, 5, 8, 9, 66, 67, 68, 73, 74, 75], [1000, 2000]))], n := 119, nils := [], pubs := [] }
def learn_tracer_con_I2 (s0 : List (List Int)) (i0 : Int) (R : D → List (Nat × HObj) → Prop) (f1 : List (List Int)) (n0 : Nat) (v7 : Int) (n2 : Nat) (v15 : Bool) (v16 : Int) (c17 : List VarD) (c18 : List ConD) (c19 : Int) (c20 : Int) (c21 : List (List LitD)) (c22 : List (List Int)) (l23 : List StepD) : Prop := iter (den Tryz.prog Ev learn_tracer_con_A (sub [1, 1, 1, 1, 0, 1, 0, 0, 1, 1, 0, 0, 1, 1, 0, 0] (bodyOf Tryz.f154)) 2) learn_tracer_con_A (liveOf learn_tracer_con_A 2) n2 ⟨[(0, .ptr 1000 0), (1, dI i0), (5, dS f1), (8, dB v15), (9, dI v7), (66, dS s0), (67, dI (s0.length : Int)), (68, dI v7), (73, .sl .int (at' (.list .int) s0 v7.toNat)), (74, dI ((at' (.list .int) s0 v7.toNat).length : Int)), (75, dI v16)], [(1000, .cells [.sl .var c17, .sl .con c18, dI c19, dI c20, .sl (.list .lit) c21, dS c22, .own 2000]), (2000, .row 44 .step l23)]⟩ (blockK 2 (blockK 1 (seqK Tryz.prog Ev learn_tracer_con_A (sub [1, 1, 1, 1, 0, 1, 0, 0, 1, 1, 1] (bodyOf Tryz.f154)) 0 (iterK (den Tryz.prog Ev learn_tracer_con_A (sub [1, 1, 1, 1, 0, 1, 0, 0] (bodyOf Tryz.f154)) 0) learn_tracer_con_A (liveOf learn_tracer_con_A 0) n0 (blockK 0 (seqK Tryz.prog Ev learn_tracer_con_A (sub [1, 1, 1, 1, 1] (bodyOf Tryz.f154)) 0 (endH Ev Tryz.f154.results.toList [.ptr 1000 0] false R)))))))
def learn_tracer_con_I0 (s0 : List (List Int)) (i0 : Int) (R : D → List (Nat × HObj) → Prop) (f1 : List (List Int)) (n0 : Nat) (v6 : Bool) (v7 : Int) (c8 : List VarD) (c9 : List ConD) (c10 : Int) (c11 : Int) (c12 : List (List LitD)) (c13 : List (List Int)) (l14 : List StepD) : Prop := iter (den Tryz.prog Ev learn_tracer_con_A (sub [1, 1, 1, 1, 0, 1, 0, 0] (bodyOf Tryz.f154)) 0) learn_tracer_con_A (liveOf learn_tracer_con_A 0) n0 ⟨[(0, .ptr 1000 0), (1, dI i0), (5, dS f1), (8, dB v6), (66, dS s0), (67, dI (s0.length : Int)), (68, dI v7)], [(1000, .cells [.sl .var c8, .sl .con c9, dI c10, dI c11, .sl (.list .lit) c12, dS c13, .own 2000]), (2000, .row 44 .step l14)]⟩ (blockK 0 (seqK Tryz.prog Ev learn_tracer_con_A (sub [1, 1, 1, 1, 1] (bodyOf Tryz.f154)) 0 (endH Ev Tryz.f154.results.toList [.ptr 1000 0] false R)))
theorem learn_tracer_con_I2_eq (s0 : List (List Int)) (i0 : Int) (R : D → List (Nat × HObj) → Prop) (f1 : List (List Int)) (n0 : Nat) (v7 : Int) (n2 : Nat) (v15 : Bool) (v16 : Int) (c17 : List VarD) (c18 : List ConD) (c19 : Int) (c20 : Int) (c21 : List (List LitD)) (c22 : List (List Int)) (l23 : List StepD) : learn_tracer_con_I2 s0 i0 R f1 n0 v7 (n2 + 1) v15 v16 c17 c18 c19 c20 c21 c22 l23 =
 (sel (decide (v16 < ((at' (.list .int) s0 v7.toNat).length : Int)))
 (inb v16 (at' (.list .int) s0 v7.toNat).length = true ∧
 inb v7 f1.length = true ∧
 Call1 Tryz.prog f_slices_Contains_l_int_int [.sl .int (at' (.list .int) f1 v7.toNat), dI (at' .int (at' (.list .int) s0 v7.toNat) v16.toNat)] .bool fun s24 =>
 sel s24
 (learn_tracer_con_I2 s0 i0 R f1 n0 v7 n2 v15 (w64 (v16 + 1)) c17 c18 c19 c20 c21 c22 l23)
 (Call2 Tryz.prog f_explain_Gone [.agg [.sl .var c17, .sl .con c18, dI c19, dI c20], dI i0, dS c22, dI v7, dI (at' .int (at' (.list .int) s0 v7.toNat) v16.toNat)] (.list .lit) .bool fun e25 e26 =>
 room .step (l23.length + ([(⟨1, i0, e25⟩ : StepD)]).length) = true ∧
 learn_tracer_con_I2 s0 i0 R f1 n0 v7 n2 true (w64 (v16 + 1)) c17 c18 c19 c20 c21 c22 (l23 ++ ([(⟨1, i0, e25⟩ : StepD)]))))
 (learn_tracer_con_I0 s0 i0 R f1 n0 v15 (w64 (v7 + 1)) c17 c18 c19 c20 c21 c22 l23)) := by kernel_rfl
theorem learn_tracer_con_I0_eq (s0 : List (List Int)) (i0 : Int) (R : D → List (Nat × HObj) → Prop) (f1 : List (List Int)) (n0 : Nat) (v6 : Bool) (v7 : Int) (c8 : List VarD) (c9 : List ConD) (c10 : Int) (c11 : Int) (c12 : List (List LitD)) (c13 : List (List Int)) (l14 : List StepD) : learn_tracer_con_I0 s0 i0 R f1 (n0 + 1) v6 v7 c8 c9 c10 c11 c12 c13 l14 =
 (sel (decide (v7 < (s0.length : Int)))
 (inb v7 s0.length = true ∧
 ∃ n2, learn_tracer_con_I2 s0 i0 R f1 n0 v7 n2 v6 0 c8 c9 c10 c11 c12 c13 l14)
 (R (dB v6) [(1000, .cells [.sl .var c8, .sl .con c9, dI c10, dI c11, .sl (.list .lit) c12, dS f1, .own 2000]), (2000, .row 44 .step l14)])) := by kernel_rfl
theorem learn_tracer_con_eq (mvs0 : List VarD) (mcs0 : List ConD) (goal0 : Int) (mvar0 : Int) (l0 : List (List LitD)) (s0 : List (List Int)) (steps0 : List StepD) (i0 : Int) (R : D → List (Nat × HObj) → Prop) : fnH Tryz.prog Ev learn_tracer_con_A Tryz.f154.results.toList (bodyOf Tryz.f154) [.ptr 1000 0, dI i0] [(1000, .cells [.sl .var mvs0, .sl .con mcs0, dI goal0, dI mvar0, .sl (.list .lit) l0, dS s0, .own 2000]), (2000, .row 44 .step steps0)] [.ptr 1000 0] false R =
 (inb i0 mcs0.length = true ∧
 Call1 Tryz.prog f_filter_Raw [dC (at' .con mcs0 i0.toNat), dS s0] (.list (.list .int)) fun f1 =>
 Call1 Tryz.prog f_store_Empty [dS f1] .bool fun s2 =>
 sel s2
 (Call2 Tryz.prog f_explain_Empty [.agg [.sl .var mvs0, .sl .con mcs0, dI goal0, dI mvar0], dI i0, dS s0] (.list .lit) .bool fun e3 e4 =>
 room .step (steps0.length + ([(⟨1, i0, e3⟩ : StepD)]).length) = true ∧
 Call1 Tryz.prog f_store_Nothing [dS s0] (.list (.list .int)) fun s5 =>
 R (dB true) [(1000, .cells [.sl .var mvs0, .sl .con mcs0, dI goal0, dI mvar0, .sl (.list .lit) l0, dS s5, .own 2000]), (2000, .row 44 .step (steps0 ++ ([(⟨1, i0, e3⟩ : StepD)])))])
 (∃ n0, learn_tracer_con_I0 s0 i0 R f1 n0 false 0 mvs0 mcs0 goal0 mvar0 l0 s0 steps0)) := by kernel_rfl
theorem learn_tracer_con_sat {r : D} {h0 : List (Nat × HObj)} (mvs0 : List VarD) (mcs0 : List ConD) (goal0 : Int) (mvar0 : Int) (l0 : List (List LitD)) (s0 : List (List Int)) (steps0 : List StepD) (i0 : Int) (h : (∀ d ∈ [.ptr 1000 0, dI i0], okD d) → (∀ k o, look k [(1000, .cells [.sl .var mvs0, .sl .con mcs0, dI goal0, dI mvar0, .sl (.list .lit) l0, dS s0, .own 2000]), (2000, .row 44 .step steps0)] = some o → okO o) → fnH Tryz.prog Ev learn_tracer_con_A Tryz.f154.results.toList (bodyOf Tryz.f154) [.ptr 1000 0, dI i0] [(1000, .cells [.sl .var mvs0, .sl .con mcs0, dI goal0, dI mvar0, .sl (.list .lit) l0, dS s0, .own 2000]), (2000, .row 44 .step steps0)] [.ptr 1000 0] false fun d h1 => d = r ∧ h1 = h0) : SatH Tryz.prog f_learn_tracer_con [.ptr 1000 0, dI i0] [(1000, .cells [.sl .var mvs0, .sl .con mcs0, dI goal0, dI mvar0, .sl (.list .lit) l0, dS s0, .own 2000]), (2000, .row 44 .step steps0)] r h0 := by
  have h2 := satH_of (r := r) (hp := [(1000, .cells [.sl .var mvs0, .sl .con mcs0, dI goal0, dI mvar0, .sl (.list .lit) l0, dS s0, .own 2000]), (2000, .row 44 .step steps0)]) (hp' := h0) (roots := [.ptr 1000 0]) (args := [.ptr 1000 0, dI i0]) (A := learn_tracer_con_A) (fn := Tryz.f154) (body := bodyOf Tryz.f154) (f := f_learn_tracer_con) (own := false) factsEv Tryz.func154 (by kernel_rfl) (by rw [Tryz.ntmps154]; rfl) (by rw [Tryz.ntmps154]; exact Nat.le_of_ble_eq_true rfl)
  with_reducible exact h2 h
end Go.Proofs.YtajnbkhgnppckaaGreat
