/- What the functions of a package do, as equations of plain propositions: printed by a program that carries the code out on symbols. -/
import Derived.Test.YtgnjdgafkjohaaaGreatWEv
namespace Go.Proofs.YtgnjdgafkjohaaaGreat
open Go.RowKit
set_option linter.unusedVariables false
set_option maxRecDepth 100000
/-! ### cordon/model.Holds -/
def model_Holds_A : Ann := { own := [], live := [], n := 26, nils := [], pubs := [] }
theorem model_Holds_eq (a0 : MdlD) (a1 : Int) (a2 : List Int) (R : D → Prop) : fnD Tryz.prog Ev model_Holds_A Tryz.f26.results.toList (bodyOf Tryz.f26) [dM a0, dI a1, .sl .int a2] R =
 (Call1 Tryz.prog f_model_ready [dM a0, dI a1, dI (a2.length : Int)] .int fun m1 =>
 sel (!decide (m1 = 0))
 (R (.tup [dB false, dI m1]))
 (Call1 Tryz.prog f_slices_ContainsFunc_l_int_int [.sl .int a2, .clo f_model_Holds_1 none []] .bool fun s2 =>
 sel s2
 (R (.tup [dB false, dI 3]))
 (inb a1 a0.cons.length = true ∧
 Call1 Tryz.prog f_model_True [dC (at' .con a0.cons a1.toNat), .sl .int a2] .bool fun m3 =>
 R (.tup [dB m3, dI 0])))) := by kernel_rfl
theorem model_Holds_sat {r : D} (a0 : MdlD) (a1 : Int) (a2 : List Int) (h : (∀ d ∈ [dM a0, dI a1, .sl .int a2], okD d) → fnD Tryz.prog Ev model_Holds_A Tryz.f26.results.toList (bodyOf Tryz.f26) [dM a0, dI a1, .sl .int a2] fun d => d = r) : Sat Tryz.prog f_model_Holds [dM a0, dI a1, .sl .int a2] r := by
  have h2 := sat_of (r := r) (args := [dM a0, dI a1, .sl .int a2]) (A := model_Holds_A) (fn := Tryz.f26) (body := bodyOf Tryz.f26) (f := f_model_Holds) factsEv Tryz.func26 (by kernel_rfl) (by rw [Tryz.ntmps26]; rfl) (by rw [Tryz.ntmps26]; exact Nat.le_of_ble_eq_true rfl)
  with_reducible exact h2 h
/-! ### cordon/model.All -/
def model_All_A : Ann := { own := [], live := [], n := 21, nils := [], pubs := [] }
theorem model_All_eq (a0 : MdlD) (a1 : List Int) (R : D → Prop) : fnD Tryz.prog Ev model_All_A Tryz.f45.results.toList (bodyOf Tryz.f45) [dM a0, .sl .int a1] R =
 (Call1 Tryz.prog f_model_Check [dM a0] .int fun m1 =>
 sel (!decide (m1 = 0))
 (R (.tup [dB false, dI m1]))
 (sel (!decide ((a1.length : Int) = (a0.vars.length : Int)))
 (R (.tup [dB false, dI 1]))
 (Call1 Tryz.prog f_model_Whole [dM a0, .sl .int a1] .bool fun m2 =>
 R (.tup [dB m2, dI 0])))) := by kernel_rfl
theorem model_All_sat {r : D} (a0 : MdlD) (a1 : List Int) (h : (∀ d ∈ [dM a0, .sl .int a1], okD d) → fnD Tryz.prog Ev model_All_A Tryz.f45.results.toList (bodyOf Tryz.f45) [dM a0, .sl .int a1] fun d => d = r) : Sat Tryz.prog f_model_All [dM a0, .sl .int a1] r := by
  have h2 := sat_of (r := r) (args := [dM a0, .sl .int a1]) (A := model_All_A) (fn := Tryz.f45) (body := bodyOf Tryz.f45) (f := f_model_All) factsEv Tryz.func45 (by kernel_rfl) (by rw [Tryz.ntmps45]; rfl) (by rw [Tryz.ntmps45]; exact Nat.le_of_ble_eq_true rfl)
  with_reducible exact h2 h
/-! ### cordon/model.Scope -/
def model_Scope_A : Ann := { own := [], live := [], n := 22, nils := [], pubs := [] }
theorem model_Scope_eq (a0 : MdlD) (a1 : Int) (R : D → Prop) : fnD Tryz.prog Ev model_Scope_A Tryz.f73.results.toList (bodyOf Tryz.f73) [dM a0, dI a1] R =
 (Call1 Tryz.prog f_model_ready [dM a0, dI a1, dI (a0.vars.length : Int)] .int fun m1 =>
 sel (!decide (m1 = 0))
 (R (.tup [.sl .int ([] : List Int), dI m1]))
 (inb a1 a0.cons.length = true ∧
 Call1 Tryz.prog f_model_Vars [dC (at' .con a0.cons a1.toNat)] (.list .int) fun m2 =>
 R (.tup [.sl .int m2, dI 0]))) := by kernel_rfl
theorem model_Scope_sat {r : D} (a0 : MdlD) (a1 : Int) (h : (∀ d ∈ [dM a0, dI a1], okD d) → fnD Tryz.prog Ev model_Scope_A Tryz.f73.results.toList (bodyOf Tryz.f73) [dM a0, dI a1] fun d => d = r) : Sat Tryz.prog f_model_Scope [dM a0, dI a1] r := by
  have h2 := sat_of (r := r) (args := [dM a0, dI a1]) (A := model_Scope_A) (fn := Tryz.f73) (body := bodyOf Tryz.f73) (f := f_model_Scope) factsEv Tryz.func73 (by kernel_rfl) (by rw [Tryz.ntmps73]; rfl) (by rw [Tryz.ntmps73]; exact Nat.le_of_ble_eq_true rfl)
  with_reducible exact h2 h
/-! ### cordon/model.Check -/
def model_Check_A : Ann := { own := [5], live := [(1, ([1, 30, 31, 32], []))], n := 75, nils := [], pubs := [] }
def model_Check_I1 (a0 : MdlD) (R : D → Prop) (n1 : Nat) (v2 : Int) : Prop := iter (den Tryz.prog Ev model_Check_A (sub [1, 1, 1, 0, 1, 0, 0] (bodyOf Tryz.f74)) 1) model_Check_A (liveOf model_Check_A 1) n1 ⟨[(1, .iptr [.sl .var a0.vars, .sl .con a0.cons, dI a0.goal, dI a0.var] 0), (30, .sl .con a0.cons), (31, dI (a0.cons.length : Int)), (32, dI v2)], []⟩ (blockK 1 (seqK Tryz.prog Ev model_Check_A (sub [1, 1, 1, 1] (bodyOf Tryz.f74)) 0 (endK Ev Tryz.f74.results.toList R)))
theorem model_Check_I1_eq (a0 : MdlD) (R : D → Prop) (n1 : Nat) (v2 : Int) : model_Check_I1 a0 R (n1 + 1) v2 =
 (sel (decide (v2 < (a0.cons.length : Int)))
 (inb v2 a0.cons.length = true ∧
 Call1 Tryz.prog f_model_con [dM a0, dC (at' .con a0.cons v2.toNat)] .int fun m3 =>
 sel (!decide (m3 = 0))
 (R (dI m3))
 (model_Check_I1 a0 R n1 (w64 (v2 + 1))))
 (sel (decide (a0.goal < 0))
 (R (dI 7))
 (sel (decide (2 < a0.goal))
 (R (dI 7))
 (sel (decide (a0.goal = 0))
 (sel (!decide (a0.var = 0))
 (R (dI 1))
 (sel (!decide (a0.goal = 0))
 (Call1 Tryz.prog f_model_within [dI a0.var, dI 0, dI (w64 ((a0.vars.length : Int) - 1))] .bool fun m4 =>
 sel (!m4)
 (R (dI 5))
 (R (dI 0)))
 (R (dI 0))))
 (sel (!decide (a0.goal = 0))
 (Call1 Tryz.prog f_model_within [dI a0.var, dI 0, dI (w64 ((a0.vars.length : Int) - 1))] .bool fun m5 =>
 sel (!m5)
 (R (dI 5))
 (R (dI 0)))
 (R (dI 0))))))) := by kernel_rfl
theorem model_Check_eq (a0 : MdlD) (R : D → Prop) : fnD Tryz.prog Ev model_Check_A Tryz.f74.results.toList (bodyOf Tryz.f74) [dM a0] R =
 (sel (decide ((a0.vars.length : Int) = 0))
 (R (dI 1))
 (sel (decide (6 < (a0.vars.length : Int)))
 (R (dI 2))
 (sel (decide (8 < (a0.cons.length : Int)))
 (R (dI 2))
 (Call1 Tryz.prog f_model_vars [.sl .var a0.vars] .int fun m1 =>
 sel (!decide (m1 = 0))
 (R (dI m1))
 (∃ n1, model_Check_I1 a0 R n1 0))))) := by kernel_rfl
theorem model_Check_sat {r : D} (a0 : MdlD) (h : (∀ d ∈ [dM a0], okD d) → fnD Tryz.prog Ev model_Check_A Tryz.f74.results.toList (bodyOf Tryz.f74) [dM a0] fun d => d = r) : Sat Tryz.prog f_model_Check [dM a0] r := by
  have h2 := sat_of (r := r) (args := [dM a0]) (A := model_Check_A) (fn := Tryz.f74) (body := bodyOf Tryz.f74) (f := f_model_Check) factsEv Tryz.func74 (by kernel_rfl) (by rw [Tryz.ntmps74]; rfl) (by rw [Tryz.ntmps74]; exact Nat.le_of_ble_eq_true rfl)
  with_reducible exact h2 h
/-! ### cordon/model.ready -/
def model_ready_A : Ann := { own := [], live := [], n := 27, nils := [], pubs := [] }
theorem model_ready_eq (a0 : MdlD) (a1 : Int) (a2 : Int) (R : D → Prop) : fnD Tryz.prog Ev model_ready_A Tryz.f75.results.toList (bodyOf Tryz.f75) [dM a0, dI a1, dI a2] R =
 (Call1 Tryz.prog f_model_Check [dM a0] .int fun m1 =>
 sel (!decide (m1 = 0))
 (R (dI m1))
 (sel (decide (a1 < 0))
 (R (dI 5))
 (sel (decide ((a0.cons.length : Int) ≤ a1))
 (R (dI 5))
 (sel (!decide (a2 = (a0.vars.length : Int)))
 (R (dI 1))
 (R (dI 0)))))) := by kernel_rfl
theorem model_ready_sat {r : D} (a0 : MdlD) (a1 : Int) (a2 : Int) (h : (∀ d ∈ [dM a0, dI a1, dI a2], okD d) → fnD Tryz.prog Ev model_ready_A Tryz.f75.results.toList (bodyOf Tryz.f75) [dM a0, dI a1, dI a2] fun d => d = r) : Sat Tryz.prog f_model_ready [dM a0, dI a1, dI a2] r := by
  have h2 := sat_of (r := r) (args := [dM a0, dI a1, dI a2]) (A := model_ready_A) (fn := Tryz.f75) (body := bodyOf Tryz.f75) (f := f_model_ready) factsEv Tryz.func75 (by kernel_rfl) (by rw [Tryz.ntmps75]; rfl) (by rw [Tryz.ntmps75]; exact Nat.le_of_ble_eq_true rfl)
  with_reducible exact h2 h
/-! ### cordon/model.Holds$1 -/
def model_Holds_1_A : Ann := { own := [], live := [], n := 6, nils := [], pubs := [] }
theorem model_Holds_1_eq (a0 : Int) (R : D → Prop) : fnD Tryz.prog Ev model_Holds_1_A Tryz.f76.results.toList (bodyOf Tryz.f76) [dI a0] R =
 (Call1 Tryz.prog f_model_within [dI a0, dI (-50), dI 50] .bool fun m1 =>
 R (dB (!m1))) := by kernel_rfl
theorem model_Holds_1_sat {r : D} (a0 : Int) (h : (∀ d ∈ [dI a0], okD d) → fnD Tryz.prog Ev model_Holds_1_A Tryz.f76.results.toList (bodyOf Tryz.f76) [dI a0] fun d => d = r) : Sat Tryz.prog f_model_Holds_1 [dI a0] r := by
  have h2 := sat_of (r := r) (args := [dI a0]) (A := model_Holds_1_A) (fn := Tryz.f76) (body := bodyOf Tryz.f76) (f := f_model_Holds_1) factsEv Tryz.func76 (by kernel_rfl) (by rw [Tryz.ntmps76]; rfl) (by rw [Tryz.ntmps76]; exact Nat.le_of_ble_eq_true rfl)
  with_reducible exact h2 h
/-! ### cordon/model.within -/
def model_within_A : Ann := { own := [], live := [], n := 15, nils := [], pubs := [] }
theorem model_within_eq (a0 : Int) (a1 : Int) (a2 : Int) (R : D → Prop) : fnD Tryz.prog Ev model_within_A Tryz.f77.results.toList (bodyOf Tryz.f77) [dI a0, dI a1, dI a2] R =
 (sel (decide (a1 ≤ a0))
 (R (dB (decide (a0 ≤ a2))))
 (R (dB false))) := by kernel_rfl
theorem model_within_sat {r : D} (a0 : Int) (a1 : Int) (a2 : Int) (h : (∀ d ∈ [dI a0, dI a1, dI a2], okD d) → fnD Tryz.prog Ev model_within_A Tryz.f77.results.toList (bodyOf Tryz.f77) [dI a0, dI a1, dI a2] fun d => d = r) : Sat Tryz.prog f_model_within [dI a0, dI a1, dI a2] r := by
  have h2 := sat_of (r := r) (args := [dI a0, dI a1, dI a2]) (A := model_within_A) (fn := Tryz.f77) (body := bodyOf Tryz.f77) (f := f_model_within) factsEv Tryz.func77 (by kernel_rfl) (by rw [Tryz.ntmps77]; rfl) (by rw [Tryz.ntmps77]; exact Nat.le_of_ble_eq_true rfl)
  with_reducible exact h2 h
/-! ### cordon/model.True -/
def model_True_A : Ann := { own := [12, 45, 97], live := [(1, ([2, 5, 7, 25, 26, 27], [])), (3, ([2, 5, 10, 48, 49], [45])), (5, ([2, 5, 12, 88, 89], [12, 1012000])), (7, ([5, 14, 120, 121], []))], n := 166, nils := [(12, (0, (3, .int)))], pubs := [] }
def model_True_I1 (a0 : ConD) (a1 : List Int) (R : D → Prop) (n1 : Nat) (v1 : Int) (v2 : Int) : Prop := iter (den Tryz.prog Ev model_True_A (sub [1, 1, 1, 0, 1, 0, 1, 0, 1, 0, 1, 0, 0] (bodyOf Tryz.f78)) 1) model_True_A (liveOf model_True_A 1) n1 ⟨[(2, .iptr [dI a0.kind, .sl .int a0.vars, .sl .int a0.consts, dI a0.n, dS a0.rows, .sl .lit a0.lits] 0), (5, .clo f_model_True_1 none [.iptr [.sl .int a1] 0, .iptr [dI a0.kind, .sl .int a0.vars, .sl .int a0.consts, dI a0.n, dS a0.rows, .sl .lit a0.lits] 0]), (7, dI v1), (25, .sl .int a0.consts), (26, dI (a0.consts.length : Int)), (27, dI v2)], []⟩ (blockK 1 (seqK Tryz.prog Ev model_True_A (sub [1, 1, 1, 0, 1, 0, 1, 0, 1, 1] (bodyOf Tryz.f78)) 0 (blockK 0 (seqK Tryz.prog Ev model_True_A (sub [1, 1, 1, 1] (bodyOf Tryz.f78)) 0 (endK Ev Tryz.f78.results.toList R)))))
def model_True_I1_2 (a0 : ConD) (a1 : List Int) (R : D → Prop) (n1_2 : Nat) (v5 : Int) (v6 : Int) : Prop := iter (den Tryz.prog Ev model_True_A (sub [1, 1, 1, 0, 1, 0, 1, 0, 1, 0, 1, 0, 0] (bodyOf Tryz.f78)) 1) model_True_A (liveOf model_True_A 1) n1_2 ⟨[(2, .iptr [dI a0.kind, .sl .int a0.vars, .sl .int a0.consts, dI a0.n, dS a0.rows, .sl .lit a0.lits] 0), (5, .clo f_model_True_1 none [.iptr [.sl .int a1] 0, .iptr [dI a0.kind, .sl .int a0.vars, .sl .int a0.consts, dI a0.n, dS a0.rows, .sl .lit a0.lits] 0]), (7, dI v5), (25, .sl .int a0.consts), (26, dI (a0.consts.length : Int)), (27, dI v6)], []⟩ (blockK 1 (seqK Tryz.prog Ev model_True_A (sub [1, 1, 1, 0, 1, 0, 1, 0, 1, 1] (bodyOf Tryz.f78)) 0 (blockK 0 (seqK Tryz.prog Ev model_True_A (sub [1, 1, 1, 1] (bodyOf Tryz.f78)) 0 (endK Ev Tryz.f78.results.toList R)))))
def model_True_I1_3 (a0 : ConD) (a1 : List Int) (R : D → Prop) (n1_3 : Nat) (v9 : Int) (v10 : Int) : Prop := iter (den Tryz.prog Ev model_True_A (sub [1, 1, 1, 0, 1, 0, 1, 0, 1, 0, 1, 0, 0] (bodyOf Tryz.f78)) 1) model_True_A (liveOf model_True_A 1) n1_3 ⟨[(2, .iptr [dI a0.kind, .sl .int a0.vars, .sl .int a0.consts, dI a0.n, dS a0.rows, .sl .lit a0.lits] 0), (5, .clo f_model_True_1 none [.iptr [.sl .int a1] 0, .iptr [dI a0.kind, .sl .int a0.vars, .sl .int a0.consts, dI a0.n, dS a0.rows, .sl .lit a0.lits] 0]), (7, dI v9), (25, .sl .int a0.consts), (26, dI (a0.consts.length : Int)), (27, dI v10)], []⟩ (blockK 1 (seqK Tryz.prog Ev model_True_A (sub [1, 1, 1, 0, 1, 0, 1, 0, 1, 1] (bodyOf Tryz.f78)) 0 (blockK 0 (seqK Tryz.prog Ev model_True_A (sub [1, 1, 1, 1] (bodyOf Tryz.f78)) 0 (endK Ev Tryz.f78.results.toList R)))))
def model_True_I3 (a0 : ConD) (a1 : List Int) (R : D → Prop) (n3 : Nat) (v13 : Int) (m14 : List (Int × Int)) : Prop := iter (den Tryz.prog Ev model_True_A (sub [1, 1, 1, 0, 1, 0, 1, 1, 1, 0, 1, 0, 1, 0, 0] (bodyOf Tryz.f78)) 3) model_True_A (liveOf model_True_A 3) n3 ⟨[(2, .iptr [dI a0.kind, .sl .int a0.vars, .sl .int a0.consts, dI a0.n, dS a0.rows, .sl .lit a0.lits] 0), (5, .clo f_model_True_1 none [.iptr [.sl .int a1] 0, .iptr [dI a0.kind, .sl .int a0.vars, .sl .int a0.consts, dI a0.n, dS a0.rows, .sl .lit a0.lits] 0]), (10, .own 45), (48, dI (a0.vars.length : Int)), (49, dI v13)], [(45, .mp .int .int m14)]⟩ (blockK 3 (seqK Tryz.prog Ev model_True_A (sub [1, 1, 1, 0, 1, 0, 1, 1, 1, 0, 1, 1] (bodyOf Tryz.f78)) 0 (blockK 0 (seqK Tryz.prog Ev model_True_A (sub [1, 1, 1, 1] (bodyOf Tryz.f78)) 0 (endK Ev Tryz.f78.results.toList R)))))
def model_True_I5 (a0 : ConD) (a1 : List Int) (R : D → Prop) (n5 : Nat) (v20 : Int) (l21 : List Int) : Prop := iter (den Tryz.prog Ev model_True_A (sub [1, 1, 1, 0, 1, 0, 1, 1, 1, 1, 1, 1, 1, 0, 1, 0, 1, 0, 0] (bodyOf Tryz.f78)) 5) model_True_A (liveOf model_True_A 5) n5 ⟨[(2, .iptr [dI a0.kind, .sl .int a0.vars, .sl .int a0.consts, dI a0.n, dS a0.rows, .sl .lit a0.lits] 0), (5, .clo f_model_True_1 none [.iptr [.sl .int a1] 0, .iptr [dI a0.kind, .sl .int a0.vars, .sl .int a0.consts, dI a0.n, dS a0.rows, .sl .lit a0.lits] 0]), (12, .ptr 12 0), (88, dI (a0.vars.length : Int)), (89, dI v20)], [(12, .cells [.own 1012000]), (1012000, .row 3 .int l21)]⟩ (blockK 5 (seqK Tryz.prog Ev model_True_A (sub [1, 1, 1, 0, 1, 0, 1, 1, 1, 1, 1, 1, 1, 0, 1, 1] (bodyOf Tryz.f78)) 0 (blockK 0 (seqK Tryz.prog Ev model_True_A (sub [1, 1, 1, 1] (bodyOf Tryz.f78)) 0 (endK Ev Tryz.f78.results.toList R)))))
def model_True_I7 (a0 : ConD) (a1 : List Int) (R : D → Prop) (n7 : Nat) (v28 : Int) (v29 : Int) : Prop := iter (den Tryz.prog Ev model_True_A (sub [1, 1, 1, 0, 1, 0, 1, 1, 1, 1, 1, 1, 1, 1, 1, 1, 1, 0, 1, 0, 1, 0, 0] (bodyOf Tryz.f78)) 7) model_True_A (liveOf model_True_A 7) n7 ⟨[(5, .clo f_model_True_1 none [.iptr [.sl .int a1] 0, .iptr [dI a0.kind, .sl .int a0.vars, .sl .int a0.consts, dI a0.n, dS a0.rows, .sl .lit a0.lits] 0]), (14, dI v28), (120, dI (((a0.vars.take (a0.vars.length : Int).toNat).drop 1).length : Int)), (121, dI v29)], []⟩ (blockK 7 (seqK Tryz.prog Ev model_True_A (sub [1, 1, 1, 0, 1, 0, 1, 1, 1, 1, 1, 1, 1, 1, 1, 1, 1, 0, 1, 1] (bodyOf Tryz.f78)) 0 (blockK 0 (seqK Tryz.prog Ev model_True_A (sub [1, 1, 1, 1] (bodyOf Tryz.f78)) 0 (endK Ev Tryz.f78.results.toList R)))))
theorem model_True_I1_eq (a0 : ConD) (a1 : List Int) (R : D → Prop) (n1 : Nat) (v1 : Int) (v2 : Int) : model_True_I1 a0 a1 R (n1 + 1) v1 v2 =
 (sel (decide (v2 < (a0.consts.length : Int)))
 (inb v2 a0.consts.length = true ∧
 Call1 Tryz.prog f_model_True_1 [dI v2, .iptr [.sl .int a1] 0, .iptr [dI a0.kind, .sl .int a0.vars, .sl .int a0.consts, dI a0.n, dS a0.rows, .sl .lit a0.lits] 0] .int fun m3 =>
 model_True_I1 a0 a1 R n1 (w64 (v1 + (w64 ((at' .int a0.consts v2.toNat) * m3)))) (w64 (v2 + 1)))
 (Call1 Tryz.prog f_model_Sum [dC a0, dI v1] .bool fun m4 =>
 R (dB m4))) := by kernel_rfl
theorem model_True_I1_2_eq (a0 : ConD) (a1 : List Int) (R : D → Prop) (n1_2 : Nat) (v5 : Int) (v6 : Int) : model_True_I1_2 a0 a1 R (n1_2 + 1) v5 v6 =
 (sel (decide (v6 < (a0.consts.length : Int)))
 (inb v6 a0.consts.length = true ∧
 Call1 Tryz.prog f_model_True_1 [dI v6, .iptr [.sl .int a1] 0, .iptr [dI a0.kind, .sl .int a0.vars, .sl .int a0.consts, dI a0.n, dS a0.rows, .sl .lit a0.lits] 0] .int fun m7 =>
 model_True_I1_2 a0 a1 R n1_2 (w64 (v5 + (w64 ((at' .int a0.consts v6.toNat) * m7)))) (w64 (v6 + 1)))
 (Call1 Tryz.prog f_model_Sum [dC a0, dI v5] .bool fun m8 =>
 R (dB m8))) := by kernel_rfl
theorem model_True_I1_3_eq (a0 : ConD) (a1 : List Int) (R : D → Prop) (n1_3 : Nat) (v9 : Int) (v10 : Int) : model_True_I1_3 a0 a1 R (n1_3 + 1) v9 v10 =
 (sel (decide (v10 < (a0.consts.length : Int)))
 (inb v10 a0.consts.length = true ∧
 Call1 Tryz.prog f_model_True_1 [dI v10, .iptr [.sl .int a1] 0, .iptr [dI a0.kind, .sl .int a0.vars, .sl .int a0.consts, dI a0.n, dS a0.rows, .sl .lit a0.lits] 0] .int fun m11 =>
 model_True_I1_3 a0 a1 R n1_3 (w64 (v9 + (w64 ((at' .int a0.consts v10.toNat) * m11)))) (w64 (v10 + 1)))
 (Call1 Tryz.prog f_model_Sum [dC a0, dI v9] .bool fun m12 =>
 R (dB m12))) := by kernel_rfl
theorem model_True_I3_eq (a0 : ConD) (a1 : List Int) (R : D → Prop) (n3 : Nat) (v13 : Int) (m14 : List (Int × Int)) : model_True_I3 a0 a1 R (n3 + 1) v13 m14 =
 (sel (decide (v13 < (a0.vars.length : Int)))
 (Call1 Tryz.prog f_model_True_1 [dI v13, .iptr [.sl .int a1] 0, .iptr [dI a0.kind, .sl .int a0.vars, .sl .int a0.consts, dI a0.n, dS a0.rows, .sl .lit a0.lits] 0] .int fun m15 =>
 roomM (m14.length + 1) = true ∧
 model_True_I3 a0 a1 R n3 (w64 (v13 + 1)) (mput .int .int m15 v13 m14))
 (R (dB (decide ((m14.length : Int) = (a0.vars.length : Int)))))) := by kernel_rfl
theorem model_True_I5_eq (a0 : ConD) (a1 : List Int) (R : D → Prop) (n5 : Nat) (v20 : Int) (l21 : List Int) : model_True_I5 a0 a1 R (n5 + 1) v20 l21 =
 (sel (decide (v20 < (a0.vars.length : Int)))
 (Call1 Tryz.prog f_model_True_1 [dI v20, .iptr [.sl .int a1] 0, .iptr [dI a0.kind, .sl .int a0.vars, .sl .int a0.consts, dI a0.n, dS a0.rows, .sl .lit a0.lits] 0] .int fun m22 =>
 room .int (l21.length + ([m22]).length) = true ∧
 model_True_I5 a0 a1 R n5 (w64 (v20 + 1)) (l21 ++ ([m22])))
 (Call1 Tryz.prog f_slices_ContainsFunc_rows_int_int [dS a0.rows, .clo f_model_True_3 none [.iptr [.sl .int l21] 0]] .bool fun s23 =>
 R (dB s23))) := by kernel_rfl
theorem model_True_I7_eq (a0 : ConD) (a1 : List Int) (R : D → Prop) (n7 : Nat) (v28 : Int) (v29 : Int) : model_True_I7 a0 a1 R (n7 + 1) v28 v29 =
 (sel (decide (v29 < (((a0.vars.take (a0.vars.length : Int).toNat).drop 1).length : Int)))
 (Call1 Tryz.prog f_model_True_1 [dI (w64 (1 + v29)), .iptr [.sl .int a1] 0, .iptr [dI a0.kind, .sl .int a0.vars, .sl .int a0.consts, dI a0.n, dS a0.rows, .sl .lit a0.lits] 0] .int fun m30 =>
 model_True_I7 a0 a1 R n7 (if m30 > v28 then m30 else v28) (w64 (v29 + 1)))
 (Call1 Tryz.prog f_model_True_1 [dI 0, .iptr [.sl .int a1] 0, .iptr [dI a0.kind, .sl .int a0.vars, .sl .int a0.consts, dI a0.n, dS a0.rows, .sl .lit a0.lits] 0] .int fun m31 =>
 R (dB (decide (m31 = v28))))) := by kernel_rfl
theorem model_True_eq (a0 : ConD) (a1 : List Int) (R : D → Prop) : fnD Tryz.prog Ev model_True_A Tryz.f78.results.toList (bodyOf Tryz.f78) [dC a0, .sl .int a1] R =
 (sel (decide (a0.kind = 1))
 (∃ n1, model_True_I1 a0 a1 R n1 0 0)
 (sel (decide (a0.kind = 2))
 (∃ n1_2, model_True_I1_2 a0 a1 R n1_2 0 0)
 (sel (decide (a0.kind = 3))
 (∃ n1_3, model_True_I1_3 a0 a1 R n1_3 0 0)
 (sel (decide (a0.kind = 4))
 (∃ n3, model_True_I3 a0 a1 R n3 0 ([] : List (Int × Int)))
 (sel (decide (a0.kind = 5))
 (Call1 Tryz.prog f_model_True_1 [dI 0, .iptr [.sl .int a1] 0, .iptr [dI a0.kind, .sl .int a0.vars, .sl .int a0.consts, dI a0.n, dS a0.rows, .sl .lit a0.lits] 0] .int fun m16 =>
 Call1 Tryz.prog f_model_within [dI m16, dI 0, dI (w64 ((a0.consts.length : Int) - 1))] .bool fun m17 =>
 sel m17
 (Call1 Tryz.prog f_model_True_1 [dI 0, .iptr [.sl .int a1] 0, .iptr [dI a0.kind, .sl .int a0.vars, .sl .int a0.consts, dI a0.n, dS a0.rows, .sl .lit a0.lits] 0] .int fun m18 =>
 inb m18 a0.consts.length = true ∧
 Call1 Tryz.prog f_model_True_1 [dI 1, .iptr [.sl .int a1] 0, .iptr [dI a0.kind, .sl .int a0.vars, .sl .int a0.consts, dI a0.n, dS a0.rows, .sl .lit a0.lits] 0] .int fun m19 =>
 R (dB (decide ((at' .int a0.consts m18.toNat) = m19))))
 (R (dB false)))
 (sel (decide (a0.kind = 6))
 (∃ n5, model_True_I5 a0 a1 R n5 0 ([] : List Int))
 (sel (decide (a0.kind = 7))
 (Call1 Tryz.prog f_model_True_1 [dI 0, .iptr [.sl .int a1] 0, .iptr [dI a0.kind, .sl .int a0.vars, .sl .int a0.consts, dI a0.n, dS a0.rows, .sl .lit a0.lits] 0] .int fun m24 =>
 Call1 Tryz.prog f_model_True_1 [dI 1, .iptr [.sl .int a1] 0, .iptr [dI a0.kind, .sl .int a0.vars, .sl .int a0.consts, dI a0.n, dS a0.rows, .sl .lit a0.lits] 0] .int fun m25 =>
 Call1 Tryz.prog f_model_True_1 [dI 2, .iptr [.sl .int a1] 0, .iptr [dI a0.kind, .sl .int a0.vars, .sl .int a0.consts, dI a0.n, dS a0.rows, .sl .lit a0.lits] 0] .int fun m26 =>
 R (dB (decide ((w64 (m24 * m25)) = m26))))
 (sel (decide (a0.kind = 8))
 (Call1 Tryz.prog f_model_True_1 [dI 1, .iptr [.sl .int a1] 0, .iptr [dI a0.kind, .sl .int a0.vars, .sl .int a0.consts, dI a0.n, dS a0.rows, .sl .lit a0.lits] 0] .int fun m27 =>
 inSl 1 (a0.vars.length : Int) a0.vars.length = true ∧
 ∃ n7, model_True_I7 a0 a1 R n7 m27 0)
 (sel (decide (a0.kind = 9))
 (Call1 Tryz.prog f_slices_ContainsFunc_l_api_Lit_api_Lit [.sl .lit a0.lits, .clo f_model_True_2 none [.iptr [.sl .int a1] 0]] .bool fun s32 =>
 R (dB s32))
 (inb 0 a0.lits.length = true ∧
 Call1 Tryz.prog f_model_True_2 [dL (at' .lit a0.lits 0), .iptr [.sl .int a1] 0] .bool fun m33 =>
 sel m33
 (Call1 Tryz.prog f_model_True_1 [dI 0, .iptr [.sl .int a1] 0, .iptr [dI a0.kind, .sl .int a0.vars, .sl .int a0.consts, dI a0.n, dS a0.rows, .sl .lit a0.lits] 0] .int fun m34 =>
 sel (decide (m34 = 1))
 (R (dB true))
 (inb 0 a0.lits.length = true ∧
 Call1 Tryz.prog f_model_True_2 [dL (at' .lit a0.lits 0), .iptr [.sl .int a1] 0] .bool fun m35 =>
 sel (!m35)
 (Call1 Tryz.prog f_model_True_1 [dI 0, .iptr [.sl .int a1] 0, .iptr [dI a0.kind, .sl .int a0.vars, .sl .int a0.consts, dI a0.n, dS a0.rows, .sl .lit a0.lits] 0] .int fun m36 =>
 R (dB (decide (m36 = 0))))
 (R (dB false))))
 (inb 0 a0.lits.length = true ∧
 Call1 Tryz.prog f_model_True_2 [dL (at' .lit a0.lits 0), .iptr [.sl .int a1] 0] .bool fun m37 =>
 sel (!m37)
 (Call1 Tryz.prog f_model_True_1 [dI 0, .iptr [.sl .int a1] 0, .iptr [dI a0.kind, .sl .int a0.vars, .sl .int a0.consts, dI a0.n, dS a0.rows, .sl .lit a0.lits] 0] .int fun m38 =>
 R (dB (decide (m38 = 0))))
 (R (dB false))))))))))))) := by kernel_rfl
theorem model_True_sat {r : D} (a0 : ConD) (a1 : List Int) (h : (∀ d ∈ [dC a0, .sl .int a1], okD d) → fnD Tryz.prog Ev model_True_A Tryz.f78.results.toList (bodyOf Tryz.f78) [dC a0, .sl .int a1] fun d => d = r) : Sat Tryz.prog f_model_True [dC a0, .sl .int a1] r := by
  have h2 := sat_of (r := r) (args := [dC a0, .sl .int a1]) (A := model_True_A) (fn := Tryz.f78) (body := bodyOf Tryz.f78) (f := f_model_True) factsEv Tryz.func78 (by kernel_rfl) (by rw [Tryz.ntmps78]; rfl) (by rw [Tryz.ntmps78]; exact Nat.le_of_ble_eq_true rfl)
  with_reducible exact h2 h
/-! ### cordon/model.Whole -/
def model_Whole_A : Ann := { own := [6], live := [(0, ([2, 3, 8, 9, 10], []))], n := 31, nils := [], pubs := [] }
def model_Whole_I0 (a0 : MdlD) (a1 : List Int) (R : D → Prop) (n0 : Nat) (v1 : Int) : Prop := iter (den Tryz.prog Ev model_Whole_A (sub [1, 0, 1, 0, 0] (bodyOf Tryz.f97)) 0) model_Whole_A (liveOf model_Whole_A 0) n0 ⟨[(2, .iptr [.sl .var a0.vars, .sl .con a0.cons, dI a0.goal, dI a0.var] 0), (3, .iptr [.sl .int a1] 0), (8, .sl .var a0.vars), (9, dI (a0.vars.length : Int)), (10, dI v1)], []⟩ (blockK 0 (seqK Tryz.prog Ev model_Whole_A (sub [1, 1] (bodyOf Tryz.f97)) 0 (endK Ev Tryz.f97.results.toList R)))
theorem model_Whole_I0_eq (a0 : MdlD) (a1 : List Int) (R : D → Prop) (n0 : Nat) (v1 : Int) : model_Whole_I0 a0 a1 R (n0 + 1) v1 =
 (sel (decide (v1 < (a0.vars.length : Int)))
 (inb v1 a0.vars.length = true ∧
 inb v1 a1.length = true ∧
 Call1 Tryz.prog f_model_within [dI (at' .int a1 v1.toNat), dI ((at' .var a0.vars v1.toNat).lo), dI ((at' .var a0.vars v1.toNat).hi)] .bool fun m2 =>
 sel (!m2)
 (R (dB false))
 (model_Whole_I0 a0 a1 R n0 (w64 (v1 + 1))))
 (Call1 Tryz.prog f_slices_ContainsFunc_l_api_Con_api_Con [.sl .con a0.cons, .clo f_model_Whole_1 none [.iptr [.sl .int a1] 0]] .bool fun s3 =>
 R (dB (!s3)))) := by kernel_rfl
theorem model_Whole_eq (a0 : MdlD) (a1 : List Int) (R : D → Prop) : fnD Tryz.prog Ev model_Whole_A Tryz.f97.results.toList (bodyOf Tryz.f97) [dM a0, .sl .int a1] R =
 (∃ n0, model_Whole_I0 a0 a1 R n0 0) := by kernel_rfl
theorem model_Whole_sat {r : D} (a0 : MdlD) (a1 : List Int) (h : (∀ d ∈ [dM a0, .sl .int a1], okD d) → fnD Tryz.prog Ev model_Whole_A Tryz.f97.results.toList (bodyOf Tryz.f97) [dM a0, .sl .int a1] fun d => d = r) : Sat Tryz.prog f_model_Whole [dM a0, .sl .int a1] r := by
  have h2 := sat_of (r := r) (args := [dM a0, .sl .int a1]) (A := model_Whole_A) (fn := Tryz.f97) (body := bodyOf Tryz.f97) (f := f_model_Whole) factsEv Tryz.func97 (by kernel_rfl) (by rw [Tryz.ntmps97]; rfl) (by rw [Tryz.ntmps97]; exact Nat.le_of_ble_eq_true rfl)
  with_reducible exact h2 h
/-! ### cordon/model.Lit -/
def model_Lit_A : Ann := { own := [], live := [], n := 29, nils := [], pubs := [] }
theorem model_Lit_eq (a0 : LitD) (a1 : Int) (R : D → Prop) : fnD Tryz.prog Ev model_Lit_A Tryz.f104.results.toList (bodyOf Tryz.f104) [dL a0, dI a1] R =
 (sel (decide (a0.op = 1))
 (R (dB (decide (a1 ≤ a0.n))))
 (sel (decide (a0.op = 2))
 (R (dB (decide (a0.n ≤ a1))))
 (sel (decide (a0.op = 3))
 (R (dB (decide (a1 = a0.n))))
 (R (dB (!decide (a1 = a0.n))))))) := by kernel_rfl
theorem model_Lit_sat {r : D} (a0 : LitD) (a1 : Int) (h : (∀ d ∈ [dL a0, dI a1], okD d) → fnD Tryz.prog Ev model_Lit_A Tryz.f104.results.toList (bodyOf Tryz.f104) [dL a0, dI a1] fun d => d = r) : Sat Tryz.prog f_model_Lit [dL a0, dI a1] r := by
  have h2 := sat_of (r := r) (args := [dL a0, dI a1]) (A := model_Lit_A) (fn := Tryz.f104) (body := bodyOf Tryz.f104) (f := f_model_Lit) factsEv Tryz.func104 (by kernel_rfl) (by rw [Tryz.ntmps104]; rfl) (by rw [Tryz.ntmps104]; exact Nat.le_of_ble_eq_true rfl)
  with_reducible exact h2 h
/-! ### cordon/model.Vars -/
def model_Vars_A : Ann := { own := [5, 20], live := [(0, ([3, 10, 11, 12], [30512]))], n := 26, nils := [], pubs := [] }
def model_Vars_I0 (a0 : ConD) (R : D → Prop) (n0 : Nat) (v2 : Int) (l3 : List Int) : Prop := iter (den Tryz.prog Ev model_Vars_A (sub [1, 1, 0, 1, 0, 0] (bodyOf Tryz.f112)) 0) model_Vars_A (liveOf model_Vars_A 0) n0 ⟨[(3, .own 30512), (10, .sl .lit a0.lits), (11, dI (a0.lits.length : Int)), (12, dI v2)], [(30512, .row 3 .int l3)]⟩ (blockK 0 (seqK Tryz.prog Ev model_Vars_A (sub [1, 1, 1] (bodyOf Tryz.f112)) 0 (endK Ev Tryz.f112.results.toList R)))
theorem model_Vars_I0_eq (a0 : ConD) (R : D → Prop) (n0 : Nat) (v2 : Int) (l3 : List Int) : model_Vars_I0 a0 R (n0 + 1) v2 l3 =
 (sel (decide (v2 < (a0.lits.length : Int)))
 (inb v2 a0.lits.length = true ∧
 room .int (l3.length + ([(at' .lit a0.lits v2.toNat).var]).length) = true ∧
 model_Vars_I0 a0 R n0 (w64 (v2 + 1)) (l3 ++ ([(at' .lit a0.lits v2.toNat).var])))
 (∃ i4 : List Int, SatH Tryz.prog f_slices_Sort_l_int_int [.own 1000] [(1000, .row 3 .int l3)] (.tup []) [(1000, .row 3 .int i4)] ∧
 ∃ i5 : List Int, SatH Tryz.prog f_slices_Compact_l_int_int [.own 1000] [(1000, .row 3 .int i4)] (.sl .int i5) [] ∧
 R (.sl .int i5))) := by kernel_rfl
theorem model_Vars_eq (a0 : ConD) (R : D → Prop) : fnD Tryz.prog Ev model_Vars_A Tryz.f112.results.toList (bodyOf Tryz.f112) [dC a0] R =
 (∃ i1 : List Int, SatH Tryz.prog f_slices_Clone_l_int_int [.sl .int a0.vars] [] (.own 3000) [(3000, .row 3 .int i1)] ∧
 ∃ n0, model_Vars_I0 a0 R n0 0 i1) := by kernel_rfl
theorem model_Vars_sat {r : D} (a0 : ConD) (h : (∀ d ∈ [dC a0], okD d) → fnD Tryz.prog Ev model_Vars_A Tryz.f112.results.toList (bodyOf Tryz.f112) [dC a0] fun d => d = r) : Sat Tryz.prog f_model_Vars [dC a0] r := by
  have h2 := sat_of (r := r) (args := [dC a0]) (A := model_Vars_A) (fn := Tryz.f112) (body := bodyOf Tryz.f112) (f := f_model_Vars) factsEv Tryz.func112 (by kernel_rfl) (by rw [Tryz.ntmps112]; rfl) (by rw [Tryz.ntmps112]; exact Nat.le_of_ble_eq_true rfl)
  with_reducible exact h2 h
/-! ### cordon/model.vars -/
def model_vars_A : Ann := { own := [4], live := [(0, ([0, 5, 6, 7], []))], n := 49, nils := [], pubs := [] }
def model_vars_I0 (a0 : List VarD) (R : D → Prop) (n0 : Nat) (v1 : Int) : Prop := iter (den Tryz.prog Ev model_vars_A (sub [1, 0, 1, 0, 0] (bodyOf Tryz.f124)) 0) model_vars_A (liveOf model_vars_A 0) n0 ⟨[(0, .sl .var a0), (5, .sl .var a0), (6, dI (a0.length : Int)), (7, dI v1)], []⟩ (blockK 0 (seqK Tryz.prog Ev model_vars_A (sub [1, 1] (bodyOf Tryz.f124)) 0 (endK Ev Tryz.f124.results.toList R)))
theorem model_vars_I0_eq (a0 : List VarD) (R : D → Prop) (n0 : Nat) (v1 : Int) : model_vars_I0 a0 R (n0 + 1) v1 =
 (sel (decide (v1 < (a0.length : Int)))
 (inb v1 a0.length = true ∧
 Call1 Tryz.prog f_model_Name [.str ((at' .var a0 v1.toNat).name)] .bool fun m2 =>
 sel (!m2)
 (R (dI 1))
 (inSl 0 v1 a0.length = true ∧
 Call1 Tryz.prog f_slices_ContainsFunc_l_api_Var_api_Var [.sl .var ((a0.take v1.toNat).drop 0), .clo f_model_vars_1 none [.iptr [.str ((at' .var a0 v1.toNat).name), dI ((at' .var a0 v1.toNat).lo), dI ((at' .var a0 v1.toNat).hi)] 0]] .bool fun s3 =>
 sel s3
 (R (dI 6))
 (Call1 Tryz.prog f_model_within [dI ((at' .var a0 v1.toNat).lo), dI (-50), dI 50] .bool fun m4 =>
 sel (!m4)
 (R (dI 3))
 (Call1 Tryz.prog f_model_within [dI ((at' .var a0 v1.toNat).hi), dI (-50), dI 50] .bool fun m5 =>
 sel (!m5)
 (R (dI 3))
 (sel (decide (((at' .var a0 v1.toNat).hi) < ((at' .var a0 v1.toNat).lo)))
 (R (dI 3))
 (sel (decide (6 ≤ (w64 (((at' .var a0 v1.toNat).hi) - ((at' .var a0 v1.toNat).lo)))))
 (R (dI 2))
 (model_vars_I0 a0 R n0 (w64 (v1 + 1)))))))))
 (R (dI 0))) := by kernel_rfl
theorem model_vars_eq (a0 : List VarD) (R : D → Prop) : fnD Tryz.prog Ev model_vars_A Tryz.f124.results.toList (bodyOf Tryz.f124) [.sl .var a0] R =
 (∃ n0, model_vars_I0 a0 R n0 0) := by kernel_rfl
theorem model_vars_sat {r : D} (a0 : List VarD) (h : (∀ d ∈ [.sl .var a0], okD d) → fnD Tryz.prog Ev model_vars_A Tryz.f124.results.toList (bodyOf Tryz.f124) [.sl .var a0] fun d => d = r) : Sat Tryz.prog f_model_vars [.sl .var a0] r := by
  have h2 := sat_of (r := r) (args := [.sl .var a0]) (A := model_vars_A) (fn := Tryz.f124) (body := bodyOf Tryz.f124) (f := f_model_vars) factsEv Tryz.func124 (by kernel_rfl) (by rw [Tryz.ntmps124]; rfl) (by rw [Tryz.ntmps124]; exact Nat.le_of_ble_eq_true rfl)
  with_reducible exact h2 h
/-! ### cordon/model.con -/
def model_con_A : Ann := { own := [5, 6, 8], live := [(1, ([6, 75, 76, 77], []))], n := 94, nils := [], pubs := [] }
def model_con_I1 (a1 : ConD) (R : D → Prop) (n1 : Nat) (v7 : Int) : Prop := iter (den Tryz.prog Ev model_con_A (sub [1, 1, 1, 1, 0, 1, 0, 0] (bodyOf Tryz.f125)) 1) model_con_A (liveOf model_con_A 1) n1 ⟨[(6, .iptr [.clo f_model_con_2 none []] 0), (75, .sl .lit a1.lits), (76, dI (a1.lits.length : Int)), (77, dI v7)], []⟩ (blockK 1 (seqK Tryz.prog Ev model_con_A (sub [1, 1, 1, 1, 1] (bodyOf Tryz.f125)) 0 (endK Ev Tryz.f125.results.toList R)))
theorem model_con_I1_eq (a1 : ConD) (R : D → Prop) (n1 : Nat) (v7 : Int) : model_con_I1 a1 R (n1 + 1) v7 =
 (sel (decide (v7 < (a1.lits.length : Int)))
 (inb v7 a1.lits.length = true ∧
 sel (decide (((at' .lit a1.lits v7.toNat).op) < 1))
 (R (dI 7))
 (sel (decide (4 < ((at' .lit a1.lits v7.toNat).op)))
 (R (dI 7))
 (Call1 Tryz.prog f_model_con_2 [dI ((at' .lit a1.lits v7.toNat).n)] .bool fun m8 =>
 sel m8
 (R (dI 3))
 (model_con_I1 a1 R n1 (w64 (v7 + 1))))))
 (R (dI 0))) := by kernel_rfl
theorem model_con_eq (a0 : MdlD) (a1 : ConD) (R : D → Prop) : fnD Tryz.prog Ev model_con_A Tryz.f125.results.toList (bodyOf Tryz.f125) [dM a0, dC a1] R =
 (sel (decide (a1.kind < 1))
 (R (dI 7))
 (sel (decide (10 < a1.kind))
 (R (dI 7))
 (sel (decide (4 < (a1.vars.length : Int)))
 (R (dI 2))
 (sel (decide (4 < (a1.lits.length : Int)))
 (R (dI 2))
 (sel (decide (8 < (a1.consts.length : Int)))
 (R (dI 2))
 (sel (decide (20 < (a1.rows.length : Int)))
 (R (dI 2))
 (Call1 Tryz.prog f_model_form [dC a1] .bool fun m1 =>
 sel (!m1)
 (R (dI 1))
 (Call1 Tryz.prog f_slices_ContainsFunc_l_int_int [.sl .int a1.vars, .clo f_model_con_1 none [.iptr [.sl .var a0.vars, .sl .con a0.cons, dI a0.goal, dI a0.var] 0]] .bool fun s2 =>
 sel s2
 (R (dI 5))
 (Call1 Tryz.prog f_slices_ContainsFunc_l_api_Lit_api_Lit [.sl .lit a1.lits, .clo f_model_con_3 none [.iptr [.clo f_model_con_1 none [.iptr [.sl .var a0.vars, .sl .con a0.cons, dI a0.goal, dI a0.var] 0]] 0]] .bool fun s3 =>
 sel s3
 (R (dI 5))
 (Call1 Tryz.prog f_slices_ContainsFunc_l_int_int [.sl .int a1.consts, .clo f_model_con_2 none []] .bool fun s4 =>
 sel s4
 (R (dI 3))
 (Call1 Tryz.prog f_model_con_2 [dI a1.n] .bool fun m5 =>
 sel m5
 (R (dI 3))
 (Call1 Tryz.prog f_slices_ContainsFunc_rows_int_int [dS a1.rows, .clo f_model_con_4 none [.iptr [.clo f_model_con_2 none []] 0]] .bool fun s6 =>
 sel s6
 (R (dI 3))
 (∃ n1, model_con_I1 a1 R n1 0))))))))))))) := by kernel_rfl
theorem model_con_sat {r : D} (a0 : MdlD) (a1 : ConD) (h : (∀ d ∈ [dM a0, dC a1], okD d) → fnD Tryz.prog Ev model_con_A Tryz.f125.results.toList (bodyOf Tryz.f125) [dM a0, dC a1] fun d => d = r) : Sat Tryz.prog f_model_con [dM a0, dC a1] r := by
  have h2 := sat_of (r := r) (args := [dM a0, dC a1]) (A := model_con_A) (fn := Tryz.f125) (body := bodyOf Tryz.f125) (f := f_model_con) factsEv Tryz.func125 (by kernel_rfl) (by rw [Tryz.ntmps125]; rfl) (by rw [Tryz.ntmps125]; exact Nat.le_of_ble_eq_true rfl)
  with_reducible exact h2 h
/-! ### cordon/model.True$1 -/
def model_True_1_A : Ann := { own := [], live := [], n := 13, nils := [], pubs := [] }
theorem model_True_1_eq (a0 : Int) (c0 : List Int) (c1 : ConD) (R : D → Prop) : fnD Tryz.prog Ev model_True_1_A Tryz.f126.results.toList (bodyOf Tryz.f126) [dI a0, .iptr [.sl .int c0] 0, .iptr [dI c1.kind, .sl .int c1.vars, .sl .int c1.consts, dI c1.n, dS c1.rows, .sl .lit c1.lits] 0] R =
 (inb a0 c1.vars.length = true ∧
 inb (at' .int c1.vars a0.toNat) c0.length = true ∧
 R (dI (at' .int c0 ((at' .int c1.vars a0.toNat).toNat)))) := by kernel_rfl
theorem model_True_1_sat {r : D} (a0 : Int) (c0 : List Int) (c1 : ConD) (h : (∀ d ∈ [dI a0, .iptr [.sl .int c0] 0, .iptr [dI c1.kind, .sl .int c1.vars, .sl .int c1.consts, dI c1.n, dS c1.rows, .sl .lit c1.lits] 0], okD d) → fnD Tryz.prog Ev model_True_1_A Tryz.f126.results.toList (bodyOf Tryz.f126) [dI a0, .iptr [.sl .int c0] 0, .iptr [dI c1.kind, .sl .int c1.vars, .sl .int c1.consts, dI c1.n, dS c1.rows, .sl .lit c1.lits] 0] fun d => d = r) : Sat Tryz.prog f_model_True_1 [dI a0, .iptr [.sl .int c0] 0, .iptr [dI c1.kind, .sl .int c1.vars, .sl .int c1.consts, dI c1.n, dS c1.rows, .sl .lit c1.lits] 0] r := by
  have h2 := sat_of (r := r) (args := [dI a0, .iptr [.sl .int c0] 0, .iptr [dI c1.kind, .sl .int c1.vars, .sl .int c1.consts, dI c1.n, dS c1.rows, .sl .lit c1.lits] 0]) (A := model_True_1_A) (fn := Tryz.f126) (body := bodyOf Tryz.f126) (f := f_model_True_1) factsEv Tryz.func126 (by kernel_rfl) (by rw [Tryz.ntmps126]; rfl) (by rw [Tryz.ntmps126]; exact Nat.le_of_ble_eq_true rfl)
  with_reducible exact h2 h
/-! ### cordon/model.True$2 -/
def model_True_2_A : Ann := { own := [], live := [], n := 11, nils := [], pubs := [] }
theorem model_True_2_eq (a0 : LitD) (c0 : List Int) (R : D → Prop) : fnD Tryz.prog Ev model_True_2_A Tryz.f127.results.toList (bodyOf Tryz.f127) [dL a0, .iptr [.sl .int c0] 0] R =
 (inb a0.var c0.length = true ∧
 Call1 Tryz.prog f_model_Lit [dL a0, dI (at' .int c0 a0.var.toNat)] .bool fun m1 =>
 R (dB m1)) := by kernel_rfl
theorem model_True_2_sat {r : D} (a0 : LitD) (c0 : List Int) (h : (∀ d ∈ [dL a0, .iptr [.sl .int c0] 0], okD d) → fnD Tryz.prog Ev model_True_2_A Tryz.f127.results.toList (bodyOf Tryz.f127) [dL a0, .iptr [.sl .int c0] 0] fun d => d = r) : Sat Tryz.prog f_model_True_2 [dL a0, .iptr [.sl .int c0] 0] r := by
  have h2 := sat_of (r := r) (args := [dL a0, .iptr [.sl .int c0] 0]) (A := model_True_2_A) (fn := Tryz.f127) (body := bodyOf Tryz.f127) (f := f_model_True_2) factsEv Tryz.func127 (by kernel_rfl) (by rw [Tryz.ntmps127]; rfl) (by rw [Tryz.ntmps127]; exact Nat.le_of_ble_eq_true rfl)
  with_reducible exact h2 h
/-! ### cordon/model.Sum -/
def model_Sum_A : Ann := { own := [], live := [], n := 23, nils := [], pubs := [] }
theorem model_Sum_eq (a0 : ConD) (a1 : Int) (R : D → Prop) : fnD Tryz.prog Ev model_Sum_A Tryz.f128.results.toList (bodyOf Tryz.f128) [dC a0, dI a1] R =
 (sel (decide (a0.kind = 1))
 (R (dB (decide (a1 ≤ a0.n))))
 (sel (decide (a0.kind = 2))
 (R (dB (decide (a1 = a0.n))))
 (R (dB (!decide (a1 = a0.n)))))) := by kernel_rfl
theorem model_Sum_sat {r : D} (a0 : ConD) (a1 : Int) (h : (∀ d ∈ [dC a0, dI a1], okD d) → fnD Tryz.prog Ev model_Sum_A Tryz.f128.results.toList (bodyOf Tryz.f128) [dC a0, dI a1] fun d => d = r) : Sat Tryz.prog f_model_Sum [dC a0, dI a1] r := by
  have h2 := sat_of (r := r) (args := [dC a0, dI a1]) (A := model_Sum_A) (fn := Tryz.f128) (body := bodyOf Tryz.f128) (f := f_model_Sum) factsEv Tryz.func128 (by kernel_rfl) (by rw [Tryz.ntmps128]; rfl) (by rw [Tryz.ntmps128]; exact Nat.le_of_ble_eq_true rfl)
  with_reducible exact h2 h
/-! ### cordon/model.True$3 -/
def model_True_3_A : Ann := { own := [], live := [], n := 7, nils := [], pubs := [] }
theorem model_True_3_eq (a0 : List Int) (c0 : List Int) (R : D → Prop) : fnD Tryz.prog Ev model_True_3_A Tryz.f130.results.toList (bodyOf Tryz.f130) [.sl .int a0, .iptr [.sl .int c0] 0] R =
 (Call1 Tryz.prog f_slices_Equal_l_int_int [.sl .int a0, .sl .int c0] .bool fun s1 =>
 R (dB s1)) := by kernel_rfl
theorem model_True_3_sat {r : D} (a0 : List Int) (c0 : List Int) (h : (∀ d ∈ [.sl .int a0, .iptr [.sl .int c0] 0], okD d) → fnD Tryz.prog Ev model_True_3_A Tryz.f130.results.toList (bodyOf Tryz.f130) [.sl .int a0, .iptr [.sl .int c0] 0] fun d => d = r) : Sat Tryz.prog f_model_True_3 [.sl .int a0, .iptr [.sl .int c0] 0] r := by
  have h2 := sat_of (r := r) (args := [.sl .int a0, .iptr [.sl .int c0] 0]) (A := model_True_3_A) (fn := Tryz.f130) (body := bodyOf Tryz.f130) (f := f_model_True_3) factsEv Tryz.func130 (by kernel_rfl) (by rw [Tryz.ntmps130]; rfl) (by rw [Tryz.ntmps130]; exact Nat.le_of_ble_eq_true rfl)
  with_reducible exact h2 h
/-! ### cordon/model.Whole$1 -/
def model_Whole_1_A : Ann := { own := [], live := [], n := 8, nils := [], pubs := [] }
theorem model_Whole_1_eq (a0 : ConD) (c0 : List Int) (R : D → Prop) : fnD Tryz.prog Ev model_Whole_1_A Tryz.f143.results.toList (bodyOf Tryz.f143) [dC a0, .iptr [.sl .int c0] 0] R =
 (Call1 Tryz.prog f_model_True [dC a0, .sl .int c0] .bool fun m1 =>
 R (dB (!m1))) := by kernel_rfl
theorem model_Whole_1_sat {r : D} (a0 : ConD) (c0 : List Int) (h : (∀ d ∈ [dC a0, .iptr [.sl .int c0] 0], okD d) → fnD Tryz.prog Ev model_Whole_1_A Tryz.f143.results.toList (bodyOf Tryz.f143) [dC a0, .iptr [.sl .int c0] 0] fun d => d = r) : Sat Tryz.prog f_model_Whole_1 [dC a0, .iptr [.sl .int c0] 0] r := by
  have h2 := sat_of (r := r) (args := [dC a0, .iptr [.sl .int c0] 0]) (A := model_Whole_1_A) (fn := Tryz.f143) (body := bodyOf Tryz.f143) (f := f_model_Whole_1) factsEv Tryz.func143 (by kernel_rfl) (by rw [Tryz.ntmps143]; rfl) (by rw [Tryz.ntmps143]; exact Nat.le_of_ble_eq_true rfl)
  with_reducible exact h2 h
/-! ### cordon/model.vars$1 -/
def model_vars_1_A : Ann := { own := [], live := [], n := 9, nils := [], pubs := [] }
theorem model_vars_1_eq (a0 : VarD) (c0 : VarD) (R : D → Prop) : fnD Tryz.prog Ev model_vars_1_A Tryz.f171.results.toList (bodyOf Tryz.f171) [dV a0, .iptr [.str c0.name, dI c0.lo, dI c0.hi] 0] R =
 (R (dB (decide (a0.name = c0.name)))) := by kernel_rfl
theorem model_vars_1_sat {r : D} (a0 : VarD) (c0 : VarD) (h : (∀ d ∈ [dV a0, .iptr [.str c0.name, dI c0.lo, dI c0.hi] 0], okD d) → fnD Tryz.prog Ev model_vars_1_A Tryz.f171.results.toList (bodyOf Tryz.f171) [dV a0, .iptr [.str c0.name, dI c0.lo, dI c0.hi] 0] fun d => d = r) : Sat Tryz.prog f_model_vars_1 [dV a0, .iptr [.str c0.name, dI c0.lo, dI c0.hi] 0] r := by
  have h2 := sat_of (r := r) (args := [dV a0, .iptr [.str c0.name, dI c0.lo, dI c0.hi] 0]) (A := model_vars_1_A) (fn := Tryz.f171) (body := bodyOf Tryz.f171) (f := f_model_vars_1) factsEv Tryz.func171 (by kernel_rfl) (by rw [Tryz.ntmps171]; rfl) (by rw [Tryz.ntmps171]; exact Nat.le_of_ble_eq_true rfl)
  with_reducible exact h2 h
/-! ### cordon/model.con$1 -/
def model_con_1_A : Ann := { own := [], live := [], n := 11, nils := [], pubs := [] }
theorem model_con_1_eq (a0 : Int) (c0 : MdlD) (R : D → Prop) : fnD Tryz.prog Ev model_con_1_A Tryz.f172.results.toList (bodyOf Tryz.f172) [dI a0, .iptr [.sl .var c0.vars, .sl .con c0.cons, dI c0.goal, dI c0.var] 0] R =
 (Call1 Tryz.prog f_model_within [dI a0, dI 0, dI (w64 ((c0.vars.length : Int) - 1))] .bool fun m1 =>
 R (dB (!m1))) := by kernel_rfl
theorem model_con_1_sat {r : D} (a0 : Int) (c0 : MdlD) (h : (∀ d ∈ [dI a0, .iptr [.sl .var c0.vars, .sl .con c0.cons, dI c0.goal, dI c0.var] 0], okD d) → fnD Tryz.prog Ev model_con_1_A Tryz.f172.results.toList (bodyOf Tryz.f172) [dI a0, .iptr [.sl .var c0.vars, .sl .con c0.cons, dI c0.goal, dI c0.var] 0] fun d => d = r) : Sat Tryz.prog f_model_con_1 [dI a0, .iptr [.sl .var c0.vars, .sl .con c0.cons, dI c0.goal, dI c0.var] 0] r := by
  have h2 := sat_of (r := r) (args := [dI a0, .iptr [.sl .var c0.vars, .sl .con c0.cons, dI c0.goal, dI c0.var] 0]) (A := model_con_1_A) (fn := Tryz.f172) (body := bodyOf Tryz.f172) (f := f_model_con_1) factsEv Tryz.func172 (by kernel_rfl) (by rw [Tryz.ntmps172]; rfl) (by rw [Tryz.ntmps172]; exact Nat.le_of_ble_eq_true rfl)
  with_reducible exact h2 h
/-! ### cordon/model.con$2 -/
def model_con_2_A : Ann := { own := [], live := [], n := 6, nils := [], pubs := [] }
theorem model_con_2_eq (a0 : Int) (R : D → Prop) : fnD Tryz.prog Ev model_con_2_A Tryz.f173.results.toList (bodyOf Tryz.f173) [dI a0] R =
 (Call1 Tryz.prog f_model_within [dI a0, dI (-1000), dI 1000] .bool fun m1 =>
 R (dB (!m1))) := by kernel_rfl
theorem model_con_2_sat {r : D} (a0 : Int) (h : (∀ d ∈ [dI a0], okD d) → fnD Tryz.prog Ev model_con_2_A Tryz.f173.results.toList (bodyOf Tryz.f173) [dI a0] fun d => d = r) : Sat Tryz.prog f_model_con_2 [dI a0] r := by
  have h2 := sat_of (r := r) (args := [dI a0]) (A := model_con_2_A) (fn := Tryz.f173) (body := bodyOf Tryz.f173) (f := f_model_con_2) factsEv Tryz.func173 (by kernel_rfl) (by rw [Tryz.ntmps173]; rfl) (by rw [Tryz.ntmps173]; exact Nat.le_of_ble_eq_true rfl)
  with_reducible exact h2 h
/-! ### cordon/model.form -/
def model_form_A : Ann := { own := [3], live := [], n := 66, nils := [], pubs := [] }
theorem model_form_eq (a0 : ConD) (R : D → Prop) : fnD Tryz.prog Ev model_form_A Tryz.f174.results.toList (bodyOf Tryz.f174) [dC a0] R =
 (Call1 Tryz.prog f_model_of [dC a0] (.pr .int (.pr .int (.pr .int (.pr .int .int)))) fun m1 =>
 Call1 Tryz.prog f_model_within [dI (a0.vars.length : Int), dI m1.1, dI m1.2.1] .bool fun m2 =>
 sel (!m2)
 (R (dB false))
 (Call1 Tryz.prog f_model_is [dI (a0.consts.length : Int), dI m1.2.2.1] .bool fun m3 =>
 sel (!m3)
 (R (dB false))
 (Call1 Tryz.prog f_model_is [dI (a0.rows.length : Int), dI m1.2.2.2.1] .bool fun m4 =>
 sel (!m4)
 (R (dB false))
 (Call1 Tryz.prog f_model_is [dI (a0.lits.length : Int), dI m1.2.2.2.2] .bool fun m5 =>
 sel (!m5)
 (R (dB false))
 (sel (decide (a0.kind = 5))
 (sel (decide ((a0.consts.length : Int) = 0))
 (R (dB false))
 (sel (decide (3 < a0.kind))
 (sel (!decide (a0.n = 0))
 (R (dB false))
 (Call1 Tryz.prog f_slices_ContainsFunc_rows_int_int [dS a0.rows, .clo f_model_form_1 none [.iptr [dI a0.kind, .sl .int a0.vars, .sl .int a0.consts, dI a0.n, dS a0.rows, .sl .lit a0.lits] 0]] .bool fun s6 =>
 R (dB (!s6))))
 (Call1 Tryz.prog f_slices_ContainsFunc_rows_int_int [dS a0.rows, .clo f_model_form_1 none [.iptr [dI a0.kind, .sl .int a0.vars, .sl .int a0.consts, dI a0.n, dS a0.rows, .sl .lit a0.lits] 0]] .bool fun s7 =>
 R (dB (!s7)))))
 (sel (decide (3 < a0.kind))
 (sel (!decide (a0.n = 0))
 (R (dB false))
 (Call1 Tryz.prog f_slices_ContainsFunc_rows_int_int [dS a0.rows, .clo f_model_form_1 none [.iptr [dI a0.kind, .sl .int a0.vars, .sl .int a0.consts, dI a0.n, dS a0.rows, .sl .lit a0.lits] 0]] .bool fun s8 =>
 R (dB (!s8))))
 (Call1 Tryz.prog f_slices_ContainsFunc_rows_int_int [dS a0.rows, .clo f_model_form_1 none [.iptr [dI a0.kind, .sl .int a0.vars, .sl .int a0.consts, dI a0.n, dS a0.rows, .sl .lit a0.lits] 0]] .bool fun s9 =>
 R (dB (!s9))))))))) := by kernel_rfl
theorem model_form_sat {r : D} (a0 : ConD) (h : (∀ d ∈ [dC a0], okD d) → fnD Tryz.prog Ev model_form_A Tryz.f174.results.toList (bodyOf Tryz.f174) [dC a0] fun d => d = r) : Sat Tryz.prog f_model_form [dC a0] r := by
  have h2 := sat_of (r := r) (args := [dC a0]) (A := model_form_A) (fn := Tryz.f174) (body := bodyOf Tryz.f174) (f := f_model_form) factsEv Tryz.func174 (by kernel_rfl) (by rw [Tryz.ntmps174]; rfl) (by rw [Tryz.ntmps174]; exact Nat.le_of_ble_eq_true rfl)
  with_reducible exact h2 h
/-! ### cordon/model.con$3 -/
def model_con_3_A : Ann := { own := [], live := [], n := 8, nils := [], pubs := [] }
theorem model_con_3_eq (a0 : LitD) (h0 : FuncId) (hap0 : List D) (R : D → Prop) : fnD Tryz.prog Ev model_con_3_A Tryz.f175.results.toList (bodyOf Tryz.f175) [dL a0, .iptr [.clo h0 (some [.bool]) hap0] 0] R =
 (Ent Tryz.prog h0 ∧
 Call1 Tryz.prog h0 ([dI a0.var] ++ hap0) .bool fun r1 =>
 R (dB r1)) := by kernel_rfl
theorem model_con_3_sat {r : D} (a0 : LitD) (h0 : FuncId) (hap0 : List D) (h : (∀ d ∈ [dL a0, .iptr [.clo h0 (some [.bool]) hap0] 0], okD d) → fnD Tryz.prog Ev model_con_3_A Tryz.f175.results.toList (bodyOf Tryz.f175) [dL a0, .iptr [.clo h0 (some [.bool]) hap0] 0] fun d => d = r) : Sat Tryz.prog f_model_con_3 [dL a0, .iptr [.clo h0 (some [.bool]) hap0] 0] r := by
  have h2 := sat_of (r := r) (args := [dL a0, .iptr [.clo h0 (some [.bool]) hap0] 0]) (A := model_con_3_A) (fn := Tryz.f175) (body := bodyOf Tryz.f175) (f := f_model_con_3) factsEv Tryz.func175 (by kernel_rfl) (by rw [Tryz.ntmps175]; rfl) (by rw [Tryz.ntmps175]; exact Nat.le_of_ble_eq_true rfl)
  with_reducible exact h2 h
/-! ### cordon/model.con$4 -/
def model_con_4_A : Ann := { own := [], live := [], n := 7, nils := [], pubs := [] }
theorem model_con_4_eq (a0 : List Int) (h0 : FuncId) (hap0 : List D) (R : D → Prop) : fnD Tryz.prog Ev model_con_4_A Tryz.f176.results.toList (bodyOf Tryz.f176) [.sl .int a0, .iptr [.clo h0 (some [.bool]) hap0] 0] R =
 (Call1 Tryz.prog f_slices_ContainsFunc_l_int_int [.sl .int a0, .clo h0 (some [.bool]) hap0] .bool fun s1 =>
 R (dB s1)) := by kernel_rfl
theorem model_con_4_sat {r : D} (a0 : List Int) (h0 : FuncId) (hap0 : List D) (h : (∀ d ∈ [.sl .int a0, .iptr [.clo h0 (some [.bool]) hap0] 0], okD d) → fnD Tryz.prog Ev model_con_4_A Tryz.f176.results.toList (bodyOf Tryz.f176) [.sl .int a0, .iptr [.clo h0 (some [.bool]) hap0] 0] fun d => d = r) : Sat Tryz.prog f_model_con_4 [.sl .int a0, .iptr [.clo h0 (some [.bool]) hap0] 0] r := by
  have h2 := sat_of (r := r) (args := [.sl .int a0, .iptr [.clo h0 (some [.bool]) hap0] 0]) (A := model_con_4_A) (fn := Tryz.f176) (body := bodyOf Tryz.f176) (f := f_model_con_4) factsEv Tryz.func176 (by kernel_rfl) (by rw [Tryz.ntmps176]; rfl) (by rw [Tryz.ntmps176]; exact Nat.le_of_ble_eq_true rfl)
  with_reducible exact h2 h
/-! ### cordon/model.of -/
def model_of_A : Ann := { own := [2], live := [], n := 32, nils := [], pubs := [] }
theorem model_of_eq (a0 : ConD) (R : D → Prop) : fnD Tryz.prog Ev model_of_A Tryz.f198.results.toList (bodyOf Tryz.f198) [dC a0] R =
 (sel (decide (a0.kind = 1))
 (R (.agg [dI 1, dI 4, dI (a0.vars.length : Int), dI 0, dI 0]))
 (sel (decide (a0.kind = 2))
 (R (.agg [dI 1, dI 4, dI (a0.vars.length : Int), dI 0, dI 0]))
 (sel (decide (a0.kind = 3))
 (R (.agg [dI 1, dI 4, dI (a0.vars.length : Int), dI 0, dI 0]))
 (sel (decide (a0.kind = 4))
 (R (.agg [dI 1, dI 4, dI 0, dI 0, dI 0]))
 (sel (decide (a0.kind = 5))
 (R (.agg [dI 2, dI 2, dI (-1), dI 0, dI 0]))
 (sel (decide (a0.kind = 6))
 (R (.agg [dI 1, dI 4, dI 0, dI (-1), dI 0]))
 (sel (decide (a0.kind = 7))
 (R (.agg [dI 3, dI 3, dI 0, dI 0, dI 0]))
 (sel (decide (a0.kind = 8))
 (R (.agg [dI 2, dI 4, dI 0, dI 0, dI 0]))
 (sel (decide (a0.kind = 9))
 (R (.agg [dI 0, dI 0, dI 0, dI 0, dI (-1)]))
 (R (.agg [dI 1, dI 1, dI 0, dI 0, dI 1]))))))))))) := by kernel_rfl
theorem model_of_sat {r : D} (a0 : ConD) (h : (∀ d ∈ [dC a0], okD d) → fnD Tryz.prog Ev model_of_A Tryz.f198.results.toList (bodyOf Tryz.f198) [dC a0] fun d => d = r) : Sat Tryz.prog f_model_of [dC a0] r := by
  have h2 := sat_of (r := r) (args := [dC a0]) (A := model_of_A) (fn := Tryz.f198) (body := bodyOf Tryz.f198) (f := f_model_of) factsEv Tryz.func198 (by kernel_rfl) (by rw [Tryz.ntmps198]; rfl) (by rw [Tryz.ntmps198]; exact Nat.le_of_ble_eq_true rfl)
  with_reducible exact h2 h
/-! ### cordon/model.is -/
def model_is_A : Ann := { own := [], live := [], n := 12, nils := [], pubs := [] }
theorem model_is_eq (a0 : Int) (a1 : Int) (R : D → Prop) : fnD Tryz.prog Ev model_is_A Tryz.f199.results.toList (bodyOf Tryz.f199) [dI a0, dI a1] R =
 (sel (decide (a1 = (-1)))
 (R (dB true))
 (R (dB (decide (a0 = a1))))) := by kernel_rfl
theorem model_is_sat {r : D} (a0 : Int) (a1 : Int) (h : (∀ d ∈ [dI a0, dI a1], okD d) → fnD Tryz.prog Ev model_is_A Tryz.f199.results.toList (bodyOf Tryz.f199) [dI a0, dI a1] fun d => d = r) : Sat Tryz.prog f_model_is [dI a0, dI a1] r := by
  have h2 := sat_of (r := r) (args := [dI a0, dI a1]) (A := model_is_A) (fn := Tryz.f199) (body := bodyOf Tryz.f199) (f := f_model_is) factsEv Tryz.func199 (by kernel_rfl) (by rw [Tryz.ntmps199]; rfl) (by rw [Tryz.ntmps199]; exact Nat.le_of_ble_eq_true rfl)
  with_reducible exact h2 h
/-! ### cordon/model.form$1 -/
def model_form_1_A : Ann := { own := [], live := [], n := 10, nils := [], pubs := [] }
theorem model_form_1_eq (a0 : List Int) (c0 : ConD) (R : D → Prop) : fnD Tryz.prog Ev model_form_1_A Tryz.f200.results.toList (bodyOf Tryz.f200) [.sl .int a0, .iptr [dI c0.kind, .sl .int c0.vars, .sl .int c0.consts, dI c0.n, dS c0.rows, .sl .lit c0.lits] 0] R =
 (R (dB (!decide ((a0.length : Int) = (c0.vars.length : Int))))) := by kernel_rfl
theorem model_form_1_sat {r : D} (a0 : List Int) (c0 : ConD) (h : (∀ d ∈ [.sl .int a0, .iptr [dI c0.kind, .sl .int c0.vars, .sl .int c0.consts, dI c0.n, dS c0.rows, .sl .lit c0.lits] 0], okD d) → fnD Tryz.prog Ev model_form_1_A Tryz.f200.results.toList (bodyOf Tryz.f200) [.sl .int a0, .iptr [dI c0.kind, .sl .int c0.vars, .sl .int c0.consts, dI c0.n, dS c0.rows, .sl .lit c0.lits] 0] fun d => d = r) : Sat Tryz.prog f_model_form_1 [.sl .int a0, .iptr [dI c0.kind, .sl .int c0.vars, .sl .int c0.consts, dI c0.n, dS c0.rows, .sl .lit c0.lits] 0] r := by
  have h2 := sat_of (r := r) (args := [.sl .int a0, .iptr [dI c0.kind, .sl .int c0.vars, .sl .int c0.consts, dI c0.n, dS c0.rows, .sl .lit c0.lits] 0]) (A := model_form_1_A) (fn := Tryz.f200) (body := bodyOf Tryz.f200) (f := f_model_form_1) factsEv Tryz.func200 (by kernel_rfl) (by rw [Tryz.ntmps200]; rfl) (by rw [Tryz.ntmps200]; exact Nat.le_of_ble_eq_true rfl)
  with_reducible exact h2 h
end Go.Proofs.YtgnjdgafkjohaaaGreat
