/- What the functions of a package do, as equations of plain propositions: printed by a program that carries the code out on symbols. -/
import Derived.Test.YtonkbljpcgadlaaWEv
namespace Go.Proofs.Ytonkbljpcgadlaa
open Go.RowKit
set_option linter.unusedVariables false
set_option maxRecDepth 100000
/-! ### cordon/store.Begin -/
def store_Begin_A : Ann := { own := [], live := [], n := 12, nils := [], pubs := [] }
theorem store_Begin_eq (a0 : MdlD) (R : D → Prop) : fnD Try.prog Ev store_Begin_A Try.f19.results.toList (bodyOf Try.f19) [.agg [.sl .var a0.vars, .sl .con a0.cons, .int .i64 a0.goal, .int .i64 a0.var]] R =
 (Call1 Try.prog f_model_Check [.agg [.sl .var a0.vars, .sl .con a0.cons, .int .i64 a0.goal, .int .i64 a0.var]] .int fun m1 =>
 sel (!decide (m1 = 0))
 (R (.tup [.sl (.list .int) ([] : List (List Int)), .int .i64 m1]))
 (Call1 Try.prog f_store_Full [.agg [.sl .var a0.vars, .sl .con a0.cons, .int .i64 a0.goal, .int .i64 a0.var]] (.list (.list .int)) fun s2 =>
 R (.tup [.sl (.list .int) s2, .int .i64 0]))) := by kernel_rfl
theorem store_Begin_sat {r : D} (a0 : MdlD) (h : (∀ d ∈ [.agg [.sl .var a0.vars, .sl .con a0.cons, .int .i64 a0.goal, .int .i64 a0.var]], okD d) → fnD Try.prog Ev store_Begin_A Try.f19.results.toList (bodyOf Try.f19) [.agg [.sl .var a0.vars, .sl .con a0.cons, .int .i64 a0.goal, .int .i64 a0.var]] fun d => d = r) : Sat Try.prog f_store_Begin [.agg [.sl .var a0.vars, .sl .con a0.cons, .int .i64 a0.goal, .int .i64 a0.var]] r := by
  have h2 := sat_of (r := r) (args := [.agg [.sl .var a0.vars, .sl .con a0.cons, .int .i64 a0.goal, .int .i64 a0.var]]) (A := store_Begin_A) (fn := Try.f19) (body := bodyOf Try.f19) (f := f_store_Begin) factsEv Try.func19 (by kernel_rfl) (by rw [Try.ntmps19]; rfl) (by rw [Try.ntmps19]; exact Nat.le_of_ble_eq_true rfl)
  with_reducible exact h2 h
/-! ### cordon/store.Meet -/
def store_Meet_A : Ann := { own := [], live := [], n := 20, nils := [], pubs := [] }
theorem store_Meet_eq (a0 : MdlD) (a1 : List (List Int)) (a2 : List (List Int)) (R : D → Prop) : fnD Try.prog Ev store_Meet_A Try.f20.results.toList (bodyOf Try.f20) [.agg [.sl .var a0.vars, .sl .con a0.cons, .int .i64 a0.goal, .int .i64 a0.var], .sl (.list .int) a1, .sl (.list .int) a2] R =
 (Call1 Try.prog f_store_ready [.agg [.sl .var a0.vars, .sl .con a0.cons, .int .i64 a0.goal, .int .i64 a0.var], .sl (.list (.list .int)) ([a1, a2])] .int fun s1 =>
 sel (!decide (s1 = 0))
 (R (.tup [.sl (.list .int) ([] : List (List Int)), .int .i64 s1]))
 (Call1 Try.prog f_store_Keep [.sl (.list .int) a1, .clo f_store_Meet_1 none [.iptr [.sl (.list .int) a2] 0]] (.list (.list .int)) fun s2 =>
 R (.tup [.sl (.list .int) s2, .int .i64 0]))) := by kernel_rfl
theorem store_Meet_sat {r : D} (a0 : MdlD) (a1 : List (List Int)) (a2 : List (List Int)) (h : (∀ d ∈ [.agg [.sl .var a0.vars, .sl .con a0.cons, .int .i64 a0.goal, .int .i64 a0.var], .sl (.list .int) a1, .sl (.list .int) a2], okD d) → fnD Try.prog Ev store_Meet_A Try.f20.results.toList (bodyOf Try.f20) [.agg [.sl .var a0.vars, .sl .con a0.cons, .int .i64 a0.goal, .int .i64 a0.var], .sl (.list .int) a1, .sl (.list .int) a2] fun d => d = r) : Sat Try.prog f_store_Meet [.agg [.sl .var a0.vars, .sl .con a0.cons, .int .i64 a0.goal, .int .i64 a0.var], .sl (.list .int) a1, .sl (.list .int) a2] r := by
  have h2 := sat_of (r := r) (args := [.agg [.sl .var a0.vars, .sl .con a0.cons, .int .i64 a0.goal, .int .i64 a0.var], .sl (.list .int) a1, .sl (.list .int) a2]) (A := store_Meet_A) (fn := Try.f20) (body := bodyOf Try.f20) (f := f_store_Meet) factsEv Try.func20 (by kernel_rfl) (by rw [Try.ntmps20]; rfl) (by rw [Try.ntmps20]; exact Nat.le_of_ble_eq_true rfl)
  with_reducible exact h2 h
/-! ### cordon/store.Within -/
def store_Within_A : Ann := { own := [9], live := [(0, ([5, 19, 20, 21], []))], n := 30, nils := [], pubs := [] }
def store_Within_I0 (a1 : List (List Int)) (a2 : List (List Int)) (R : D → Prop) (n0 : Nat) (v2 : Int) : Prop := iter (den Try.prog Ev store_Within_A (sub [1, 1, 0, 1, 0, 0] (bodyOf Try.f21)) 0) store_Within_A (liveOf store_Within_A 0) n0 ⟨[(5, .iptr [.sl (.list .int) a2] 0), (19, .sl (.list .int) a1), (20, .int .i64 (a1.length : Int)), (21, .int .i64 v2)], []⟩ (blockK 0 (seqK Try.prog Ev store_Within_A (sub [1, 1, 1] (bodyOf Try.f21)) 0 (endK Ev Try.f21.results.toList R)))
theorem store_Within_I0_eq (a1 : List (List Int)) (a2 : List (List Int)) (R : D → Prop) (n0 : Nat) (v2 : Int) : store_Within_I0 a1 a2 R (n0 + 1) v2 =
 (sel (decide (v2 < (a1.length : Int)))
 (inb v2 a1.length = true ∧
 Call1 Try.prog f_slices_ContainsFunc_l_int_int [.sl .int (at' (.list .int) a1 v2.toNat), .clo f_store_Within_1 none [.iptr [.sl (.list .int) a2] 0, .iptr [.int .i64 v2] 0]] .bool fun s3 =>
 sel s3
 (R (.tup [.bool false, .int .i64 0]))
 (store_Within_I0 a1 a2 R n0 (w64 (v2 + 1))))
 (R (.tup [.bool true, .int .i64 0]))) := by kernel_rfl
theorem store_Within_eq (a0 : MdlD) (a1 : List (List Int)) (a2 : List (List Int)) (R : D → Prop) : fnD Try.prog Ev store_Within_A Try.f21.results.toList (bodyOf Try.f21) [.agg [.sl .var a0.vars, .sl .con a0.cons, .int .i64 a0.goal, .int .i64 a0.var], .sl (.list .int) a1, .sl (.list .int) a2] R =
 (Call1 Try.prog f_store_ready [.agg [.sl .var a0.vars, .sl .con a0.cons, .int .i64 a0.goal, .int .i64 a0.var], .sl (.list (.list .int)) ([a1, a2])] .int fun s1 =>
 sel (!decide (s1 = 0))
 (R (.tup [.bool false, .int .i64 s1]))
 (∃ n0, store_Within_I0 a1 a2 R n0 0)) := by kernel_rfl
theorem store_Within_sat {r : D} (a0 : MdlD) (a1 : List (List Int)) (a2 : List (List Int)) (h : (∀ d ∈ [.agg [.sl .var a0.vars, .sl .con a0.cons, .int .i64 a0.goal, .int .i64 a0.var], .sl (.list .int) a1, .sl (.list .int) a2], okD d) → fnD Try.prog Ev store_Within_A Try.f21.results.toList (bodyOf Try.f21) [.agg [.sl .var a0.vars, .sl .con a0.cons, .int .i64 a0.goal, .int .i64 a0.var], .sl (.list .int) a1, .sl (.list .int) a2] fun d => d = r) : Sat Try.prog f_store_Within [.agg [.sl .var a0.vars, .sl .con a0.cons, .int .i64 a0.goal, .int .i64 a0.var], .sl (.list .int) a1, .sl (.list .int) a2] r := by
  have h2 := sat_of (r := r) (args := [.agg [.sl .var a0.vars, .sl .con a0.cons, .int .i64 a0.goal, .int .i64 a0.var], .sl (.list .int) a1, .sl (.list .int) a2]) (A := store_Within_A) (fn := Try.f21) (body := bodyOf Try.f21) (f := f_store_Within) factsEv Try.func21 (by kernel_rfl) (by rw [Try.ntmps21]; rfl) (by rw [Try.ntmps21]; exact Nat.le_of_ble_eq_true rfl)
  with_reducible exact h2 h
/-! ### cordon/store.Failed -/
def store_Failed_A : Ann := { own := [], live := [], n := 16, nils := [], pubs := [] }
theorem store_Failed_eq (a0 : MdlD) (a1 : List (List Int)) (R : D → Prop) : fnD Try.prog Ev store_Failed_A Try.f22.results.toList (bodyOf Try.f22) [.agg [.sl .var a0.vars, .sl .con a0.cons, .int .i64 a0.goal, .int .i64 a0.var], .sl (.list .int) a1] R =
 (Call1 Try.prog f_store_ready [.agg [.sl .var a0.vars, .sl .con a0.cons, .int .i64 a0.goal, .int .i64 a0.var], .sl (.list (.list .int)) ([a1])] .int fun s1 =>
 sel (!decide (s1 = 0))
 (R (.tup [.bool false, .int .i64 s1]))
 (Call1 Try.prog f_store_Empty [.sl (.list .int) a1] .bool fun s2 =>
 R (.tup [.bool s2, .int .i64 0]))) := by kernel_rfl
theorem store_Failed_sat {r : D} (a0 : MdlD) (a1 : List (List Int)) (h : (∀ d ∈ [.agg [.sl .var a0.vars, .sl .con a0.cons, .int .i64 a0.goal, .int .i64 a0.var], .sl (.list .int) a1], okD d) → fnD Try.prog Ev store_Failed_A Try.f22.results.toList (bodyOf Try.f22) [.agg [.sl .var a0.vars, .sl .con a0.cons, .int .i64 a0.goal, .int .i64 a0.var], .sl (.list .int) a1] fun d => d = r) : Sat Try.prog f_store_Failed [.agg [.sl .var a0.vars, .sl .con a0.cons, .int .i64 a0.goal, .int .i64 a0.var], .sl (.list .int) a1] r := by
  have h2 := sat_of (r := r) (args := [.agg [.sl .var a0.vars, .sl .con a0.cons, .int .i64 a0.goal, .int .i64 a0.var], .sl (.list .int) a1]) (A := store_Failed_A) (fn := Try.f22) (body := bodyOf Try.f22) (f := f_store_Failed) factsEv Try.func22 (by kernel_rfl) (by rw [Try.ntmps22]; rfl) (by rw [Try.ntmps22]; exact Nat.le_of_ble_eq_true rfl)
  with_reducible exact h2 h
/-! ### cordon/store.Check -/
def store_Check_A : Ann := { own := [], live := [], n := 9, nils := [], pubs := [] }
theorem store_Check_eq (a0 : MdlD) (a1 : List (List Int)) (R : D → Prop) : fnD Try.prog Ev store_Check_A Try.f32.results.toList (bodyOf Try.f32) [.agg [.sl .var a0.vars, .sl .con a0.cons, .int .i64 a0.goal, .int .i64 a0.var], .sl (.list .int) a1] R =
 (Call1 Try.prog f_store_ready [.agg [.sl .var a0.vars, .sl .con a0.cons, .int .i64 a0.goal, .int .i64 a0.var], .sl (.list (.list .int)) ([a1])] .int fun s1 =>
 R (.int .i64 s1)) := by kernel_rfl
theorem store_Check_sat {r : D} (a0 : MdlD) (a1 : List (List Int)) (h : (∀ d ∈ [.agg [.sl .var a0.vars, .sl .con a0.cons, .int .i64 a0.goal, .int .i64 a0.var], .sl (.list .int) a1], okD d) → fnD Try.prog Ev store_Check_A Try.f32.results.toList (bodyOf Try.f32) [.agg [.sl .var a0.vars, .sl .con a0.cons, .int .i64 a0.goal, .int .i64 a0.var], .sl (.list .int) a1] fun d => d = r) : Sat Try.prog f_store_Check [.agg [.sl .var a0.vars, .sl .con a0.cons, .int .i64 a0.goal, .int .i64 a0.var], .sl (.list .int) a1] r := by
  have h2 := sat_of (r := r) (args := [.agg [.sl .var a0.vars, .sl .con a0.cons, .int .i64 a0.goal, .int .i64 a0.var], .sl (.list .int) a1]) (A := store_Check_A) (fn := Try.f32) (body := bodyOf Try.f32) (f := f_store_Check) factsEv Try.func32 (by kernel_rfl) (by rw [Try.ntmps32]; rfl) (by rw [Try.ntmps32]; exact Nat.le_of_ble_eq_true rfl)
  with_reducible exact h2 h
/-! ### cordon/store.Full -/
def store_Full_A : Ann := { own := [3, 5, 6, 26, 30], live := [(0, ([3, 9, 10, 11], [3])), (2, ([3, 5, 6, 7, 9, 10, 11], [3, 5, 6]))], n := 33, nils := [], pubs := [] }
def store_Full_I2 (a0 : MdlD) (R : D → Prop) (n0 : Nat) (v1 : Int) (n2 : Nat) (n3 : Int) (out4 : List (List Int)) (l5 : List Int) : Prop := iter (den Try.prog Ev store_Full_A (sub [1, 1, 0, 1, 0, 0, 1, 1, 0, 0, 1, 1, 0, 1, 0, 0] (bodyOf Try.f60)) 2) store_Full_A (liveOf store_Full_A 2) n2 ⟨[(3, .own 3), (5, .ptr 5 0), (6, .own 6), (7, .int .i64 n3), (9, .sl .var a0.vars), (10, .int .i64 (a0.vars.length : Int)), (11, .int .i64 v1)], [(3, .row 72 (.list .int) out4), (5, .cells [.str ((at' .var a0.vars v1.toNat).name), .int .i64 ((at' .var a0.vars v1.toNat).lo), .int .i64 ((at' .var a0.vars v1.toNat).hi)]), (6, .row 3 .int l5)]⟩ (blockK 2 (seqK Try.prog Ev store_Full_A (sub [1, 1, 0, 1, 0, 0, 1, 1, 0, 0, 1, 1, 1] (bodyOf Try.f60)) 1 (blockK 1 (seqK Try.prog Ev store_Full_A (sub [1, 1, 0, 1, 0, 0, 1, 1, 1] (bodyOf Try.f60)) 0 (iterK (den Try.prog Ev store_Full_A (sub [1, 1, 0, 1, 0, 0] (bodyOf Try.f60)) 0) store_Full_A (liveOf store_Full_A 0) n0 (blockK 0 (seqK Try.prog Ev store_Full_A (sub [1, 1, 1] (bodyOf Try.f60)) 0 (endK Ev Try.f60.results.toList R))))))))
def store_Full_I0 (a0 : MdlD) (R : D → Prop) (n0 : Nat) (v1 : Int) (out2 : List (List Int)) : Prop := iter (den Try.prog Ev store_Full_A (sub [1, 1, 0, 1, 0, 0] (bodyOf Try.f60)) 0) store_Full_A (liveOf store_Full_A 0) n0 ⟨[(3, .own 3), (9, .sl .var a0.vars), (10, .int .i64 (a0.vars.length : Int)), (11, .int .i64 v1)], [(3, .row 72 (.list .int) out2)]⟩ (blockK 0 (seqK Try.prog Ev store_Full_A (sub [1, 1, 1] (bodyOf Try.f60)) 0 (endK Ev Try.f60.results.toList R)))
theorem store_Full_I2_eq (a0 : MdlD) (R : D → Prop) (n0 : Nat) (v1 : Int) (n2 : Nat) (n3 : Int) (out4 : List (List Int)) (l5 : List Int) : store_Full_I2 a0 R n0 v1 (n2 + 1) n3 out4 l5 =
 (sel (decide (n3 ≤ ((at' .var a0.vars v1.toNat).hi)))
 (room .int (l5.length + ([n3]).length) = true ∧
 store_Full_I2 a0 R n0 v1 n2 (w64 (n3 + 1)) out4 (l5 ++ ([n3])))
 (room (.list .int) (out4.length + ([l5]).length) = true ∧
 store_Full_I0 a0 R n0 (w64 (v1 + 1)) (out4 ++ ([l5])))) := by kernel_rfl
theorem store_Full_I0_eq (a0 : MdlD) (R : D → Prop) (n0 : Nat) (v1 : Int) (out2 : List (List Int)) : store_Full_I0 a0 R (n0 + 1) v1 out2 =
 (sel (decide (v1 < (a0.vars.length : Int)))
 (inb v1 a0.vars.length = true ∧
 ∃ n2, store_Full_I2 a0 R n0 v1 n2 ((at' .var a0.vars v1.toNat).lo) out2 ([] : List Int))
 (R (.sl (.list .int) out2))) := by kernel_rfl
theorem store_Full_eq (a0 : MdlD) (R : D → Prop) : fnD Try.prog Ev store_Full_A Try.f60.results.toList (bodyOf Try.f60) [.agg [.sl .var a0.vars, .sl .con a0.cons, .int .i64 a0.goal, .int .i64 a0.var]] R =
 (∃ n0, store_Full_I0 a0 R n0 0 ([] : List (List Int))) := by kernel_rfl
theorem store_Full_sat {r : D} (a0 : MdlD) (h : (∀ d ∈ [.agg [.sl .var a0.vars, .sl .con a0.cons, .int .i64 a0.goal, .int .i64 a0.var]], okD d) → fnD Try.prog Ev store_Full_A Try.f60.results.toList (bodyOf Try.f60) [.agg [.sl .var a0.vars, .sl .con a0.cons, .int .i64 a0.goal, .int .i64 a0.var]] fun d => d = r) : Sat Try.prog f_store_Full [.agg [.sl .var a0.vars, .sl .con a0.cons, .int .i64 a0.goal, .int .i64 a0.var]] r := by
  have h2 := sat_of (r := r) (args := [.agg [.sl .var a0.vars, .sl .con a0.cons, .int .i64 a0.goal, .int .i64 a0.var]]) (A := store_Full_A) (fn := Try.f60) (body := bodyOf Try.f60) (f := f_store_Full) factsEv Try.func60 (by kernel_rfl) (by rw [Try.ntmps60]; rfl) (by rw [Try.ntmps60]; exact Nat.le_of_ble_eq_true rfl)
  with_reducible exact h2 h
/-! ### cordon/store.ready -/
def store_ready_A : Ann := { own := [], live := [(0, ([2, 14, 15, 16], []))], n := 27, nils := [], pubs := [] }
def store_ready_I0 (a0 : MdlD) (a1 : List (List (List Int))) (R : D → Prop) (n0 : Nat) (v2 : Int) : Prop := iter (den Try.prog Ev store_ready_A (sub [1, 1, 0, 1, 0, 0] (bodyOf Try.f61)) 0) store_ready_A (liveOf store_ready_A 0) n0 ⟨[(2, .iptr [.sl .var a0.vars, .sl .con a0.cons, .int .i64 a0.goal, .int .i64 a0.var] 0), (14, .sl (.list (.list .int)) a1), (15, .int .i64 (a1.length : Int)), (16, .int .i64 v2)], []⟩ (blockK 0 (seqK Try.prog Ev store_ready_A (sub [1, 1, 1] (bodyOf Try.f61)) 0 (endK Ev Try.f61.results.toList R)))
theorem store_ready_I0_eq (a0 : MdlD) (a1 : List (List (List Int))) (R : D → Prop) (n0 : Nat) (v2 : Int) : store_ready_I0 a0 a1 R (n0 + 1) v2 =
 (sel (decide (v2 < (a1.length : Int)))
 (inb v2 a1.length = true ∧
 Call1 Try.prog f_store_right [.agg [.sl .var a0.vars, .sl .con a0.cons, .int .i64 a0.goal, .int .i64 a0.var], .sl (.list .int) (at' (.list (.list .int)) a1 v2.toNat)] .int fun s3 =>
 sel (!decide (s3 = 0))
 (R (.int .i64 s3))
 (store_ready_I0 a0 a1 R n0 (w64 (v2 + 1))))
 (R (.int .i64 0))) := by kernel_rfl
theorem store_ready_eq (a0 : MdlD) (a1 : List (List (List Int))) (R : D → Prop) : fnD Try.prog Ev store_ready_A Try.f61.results.toList (bodyOf Try.f61) [.agg [.sl .var a0.vars, .sl .con a0.cons, .int .i64 a0.goal, .int .i64 a0.var], .sl (.list (.list .int)) a1] R =
 (Call1 Try.prog f_model_Check [.agg [.sl .var a0.vars, .sl .con a0.cons, .int .i64 a0.goal, .int .i64 a0.var]] .int fun m1 =>
 sel (!decide (m1 = 0))
 (R (.int .i64 m1))
 (∃ n0, store_ready_I0 a0 a1 R n0 0)) := by kernel_rfl
theorem store_ready_sat {r : D} (a0 : MdlD) (a1 : List (List (List Int))) (h : (∀ d ∈ [.agg [.sl .var a0.vars, .sl .con a0.cons, .int .i64 a0.goal, .int .i64 a0.var], .sl (.list (.list .int)) a1], okD d) → fnD Try.prog Ev store_ready_A Try.f61.results.toList (bodyOf Try.f61) [.agg [.sl .var a0.vars, .sl .con a0.cons, .int .i64 a0.goal, .int .i64 a0.var], .sl (.list (.list .int)) a1] fun d => d = r) : Sat Try.prog f_store_ready [.agg [.sl .var a0.vars, .sl .con a0.cons, .int .i64 a0.goal, .int .i64 a0.var], .sl (.list (.list .int)) a1] r := by
  have h2 := sat_of (r := r) (args := [.agg [.sl .var a0.vars, .sl .con a0.cons, .int .i64 a0.goal, .int .i64 a0.var], .sl (.list (.list .int)) a1]) (A := store_ready_A) (fn := Try.f61) (body := bodyOf Try.f61) (f := f_store_ready) factsEv Try.func61 (by kernel_rfl) (by rw [Try.ntmps61]; rfl) (by rw [Try.ntmps61]; exact Nat.le_of_ble_eq_true rfl)
  with_reducible exact h2 h
/-! ### cordon/store.Keep -/
def store_Keep_A : Ann := { own := [5, 8, 31, 36], live := [(0, ([1, 5, 11, 12, 13], [5])), (2, ([1, 5, 6, 8, 11, 12, 13, 18, 19, 20], [5, 8]))], n := 39, nils := [], pubs := [] }
def store_Keep_I2 (a0 : List (List Int)) (g1 : FuncId) (cap1 : List D) (R : D → Prop) (n0 : Nat) (v1 : Int) (n2 : Nat) (v3 : Int) (out4 : List (List Int)) (k5 : List Int) : Prop := iter (den Try.prog Ev store_Keep_A (sub [1, 1, 0, 1, 0, 0, 1, 1, 0, 0, 1, 1, 0, 1, 0, 0] (bodyOf Try.f62)) 2) store_Keep_A (liveOf store_Keep_A 2) n2 ⟨[(1, .clo g1 (some [.bool]) cap1), (5, .own 5), (6, .int .i64 v1), (8, .own 8), (11, .sl (.list .int) a0), (12, .int .i64 (a0.length : Int)), (13, .int .i64 v1), (18, .sl .int (at' (.list .int) a0 v1.toNat)), (19, .int .i64 ((at' (.list .int) a0 v1.toNat).length : Int)), (20, .int .i64 v3)], [(5, .row 72 (.list .int) out4), (8, .row 3 .int k5)]⟩ (blockK 2 (seqK Try.prog Ev store_Keep_A (sub [1, 1, 0, 1, 0, 0, 1, 1, 0, 0, 1, 1, 1] (bodyOf Try.f62)) 1 (blockK 1 (seqK Try.prog Ev store_Keep_A (sub [1, 1, 0, 1, 0, 0, 1, 1, 1] (bodyOf Try.f62)) 0 (iterK (den Try.prog Ev store_Keep_A (sub [1, 1, 0, 1, 0, 0] (bodyOf Try.f62)) 0) store_Keep_A (liveOf store_Keep_A 0) n0 (blockK 0 (seqK Try.prog Ev store_Keep_A (sub [1, 1, 1] (bodyOf Try.f62)) 0 (endK Ev Try.f62.results.toList R))))))))
def store_Keep_I0 (a0 : List (List Int)) (g1 : FuncId) (cap1 : List D) (R : D → Prop) (n0 : Nat) (v1 : Int) (out2 : List (List Int)) : Prop := iter (den Try.prog Ev store_Keep_A (sub [1, 1, 0, 1, 0, 0] (bodyOf Try.f62)) 0) store_Keep_A (liveOf store_Keep_A 0) n0 ⟨[(1, .clo g1 (some [.bool]) cap1), (5, .own 5), (11, .sl (.list .int) a0), (12, .int .i64 (a0.length : Int)), (13, .int .i64 v1)], [(5, .row 72 (.list .int) out2)]⟩ (blockK 0 (seqK Try.prog Ev store_Keep_A (sub [1, 1, 1] (bodyOf Try.f62)) 0 (endK Ev Try.f62.results.toList R)))
theorem store_Keep_I2_eq (a0 : List (List Int)) (g1 : FuncId) (cap1 : List D) (R : D → Prop) (n0 : Nat) (v1 : Int) (n2 : Nat) (v3 : Int) (out4 : List (List Int)) (k5 : List Int) : store_Keep_I2 a0 g1 cap1 R n0 v1 (n2 + 1) v3 out4 k5 =
 (sel (decide (v3 < ((at' (.list .int) a0 v1.toNat).length : Int)))
 (inb v3 (at' (.list .int) a0 v1.toNat).length = true ∧
 Ent Try.prog g1 ∧
 Call1 Try.prog g1 ([.int .i64 v1, .int .i64 (at' .int (at' (.list .int) a0 v1.toNat) v3.toNat)] ++ cap1) .bool fun r6 =>
 sel r6
 (room .int (k5.length + ([at' .int (at' (.list .int) a0 v1.toNat) v3.toNat]).length) = true ∧
 store_Keep_I2 a0 g1 cap1 R n0 v1 n2 (w64 (v3 + 1)) out4 (k5 ++ ([at' .int (at' (.list .int) a0 v1.toNat) v3.toNat])))
 (store_Keep_I2 a0 g1 cap1 R n0 v1 n2 (w64 (v3 + 1)) out4 k5))
 (room (.list .int) (out4.length + ([k5]).length) = true ∧
 store_Keep_I0 a0 g1 cap1 R n0 (w64 (v1 + 1)) (out4 ++ ([k5])))) := by kernel_rfl
theorem store_Keep_I0_eq (a0 : List (List Int)) (g1 : FuncId) (cap1 : List D) (R : D → Prop) (n0 : Nat) (v1 : Int) (out2 : List (List Int)) : store_Keep_I0 a0 g1 cap1 R (n0 + 1) v1 out2 =
 (sel (decide (v1 < (a0.length : Int)))
 (inb v1 a0.length = true ∧
 ∃ n2, store_Keep_I2 a0 g1 cap1 R n0 v1 n2 0 out2 ([] : List Int))
 (R (.sl (.list .int) out2))) := by kernel_rfl
theorem store_Keep_eq (a0 : List (List Int)) (g1 : FuncId) (cap1 : List D) (R : D → Prop) : fnD Try.prog Ev store_Keep_A Try.f62.results.toList (bodyOf Try.f62) [.sl (.list .int) a0, .clo g1 (some [.bool]) cap1] R =
 (∃ n0, store_Keep_I0 a0 g1 cap1 R n0 0 ([] : List (List Int))) := by kernel_rfl
theorem store_Keep_sat {r : D} (a0 : List (List Int)) (g1 : FuncId) (cap1 : List D) (h : (∀ d ∈ [.sl (.list .int) a0, .clo g1 (some [.bool]) cap1], okD d) → fnD Try.prog Ev store_Keep_A Try.f62.results.toList (bodyOf Try.f62) [.sl (.list .int) a0, .clo g1 (some [.bool]) cap1] fun d => d = r) : Sat Try.prog f_store_Keep [.sl (.list .int) a0, .clo g1 (some [.bool]) cap1] r := by
  have h2 := sat_of (r := r) (args := [.sl (.list .int) a0, .clo g1 (some [.bool]) cap1]) (A := store_Keep_A) (fn := Try.f62) (body := bodyOf Try.f62) (f := f_store_Keep) factsEv Try.func62 (by kernel_rfl) (by rw [Try.ntmps62]; rfl) (by rw [Try.ntmps62]; exact Nat.le_of_ble_eq_true rfl)
  with_reducible exact h2 h
/-! ### cordon/store.Meet$1 -/
def store_Meet_1_A : Ann := { own := [], live := [], n := 12, nils := [], pubs := [] }
theorem store_Meet_1_eq (a0 : Int) (a1 : Int) (c0 : List (List Int)) (R : D → Prop) : fnD Try.prog Ev store_Meet_1_A Try.f63.results.toList (bodyOf Try.f63) [.int .i64 a0, .int .i64 a1, .iptr [.sl (.list .int) c0] 0] R =
 (inb a0 c0.length = true ∧
 Call1 Try.prog f_slices_Contains_l_int_int [.sl .int (at' (.list .int) c0 a0.toNat), .int .i64 a1] .bool fun s1 =>
 R (.bool s1)) := by kernel_rfl
theorem store_Meet_1_sat {r : D} (a0 : Int) (a1 : Int) (c0 : List (List Int)) (h : (∀ d ∈ [.int .i64 a0, .int .i64 a1, .iptr [.sl (.list .int) c0] 0], okD d) → fnD Try.prog Ev store_Meet_1_A Try.f63.results.toList (bodyOf Try.f63) [.int .i64 a0, .int .i64 a1, .iptr [.sl (.list .int) c0] 0] fun d => d = r) : Sat Try.prog f_store_Meet_1 [.int .i64 a0, .int .i64 a1, .iptr [.sl (.list .int) c0] 0] r := by
  have h2 := sat_of (r := r) (args := [.int .i64 a0, .int .i64 a1, .iptr [.sl (.list .int) c0] 0]) (A := store_Meet_1_A) (fn := Try.f63) (body := bodyOf Try.f63) (f := f_store_Meet_1) factsEv Try.func63 (by kernel_rfl) (by rw [Try.ntmps63]; rfl) (by rw [Try.ntmps63]; exact Nat.le_of_ble_eq_true rfl)
  with_reducible exact h2 h
/-! ### cordon/store.Within$1 -/
def store_Within_1_A : Ann := { own := [], live := [], n := 12, nils := [], pubs := [] }
theorem store_Within_1_eq (a0 : Int) (c0 : List (List Int)) (c1 : Int) (R : D → Prop) : fnD Try.prog Ev store_Within_1_A Try.f66.results.toList (bodyOf Try.f66) [.int .i64 a0, .iptr [.sl (.list .int) c0] 0, .iptr [.int .i64 c1] 0] R =
 (inb c1 c0.length = true ∧
 Call1 Try.prog f_slices_Contains_l_int_int [.sl .int (at' (.list .int) c0 c1.toNat), .int .i64 a0] .bool fun s1 =>
 R (.bool (!s1))) := by kernel_rfl
theorem store_Within_1_sat {r : D} (a0 : Int) (c0 : List (List Int)) (c1 : Int) (h : (∀ d ∈ [.int .i64 a0, .iptr [.sl (.list .int) c0] 0, .iptr [.int .i64 c1] 0], okD d) → fnD Try.prog Ev store_Within_1_A Try.f66.results.toList (bodyOf Try.f66) [.int .i64 a0, .iptr [.sl (.list .int) c0] 0, .iptr [.int .i64 c1] 0] fun d => d = r) : Sat Try.prog f_store_Within_1 [.int .i64 a0, .iptr [.sl (.list .int) c0] 0, .iptr [.int .i64 c1] 0] r := by
  have h2 := sat_of (r := r) (args := [.int .i64 a0, .iptr [.sl (.list .int) c0] 0, .iptr [.int .i64 c1] 0]) (A := store_Within_1_A) (fn := Try.f66) (body := bodyOf Try.f66) (f := f_store_Within_1) factsEv Try.func66 (by kernel_rfl) (by rw [Try.ntmps66]; rfl) (by rw [Try.ntmps66]; exact Nat.le_of_ble_eq_true rfl)
  with_reducible exact h2 h
/-! ### cordon/store.Empty -/
def store_Empty_A : Ann := { own := [], live := [], n := 5, nils := [], pubs := [] }
theorem store_Empty_eq (a0 : List (List Int)) (R : D → Prop) : fnD Try.prog Ev store_Empty_A Try.f67.results.toList (bodyOf Try.f67) [.sl (.list .int) a0] R =
 (Call1 Try.prog f_slices_ContainsFunc_api_Store_int [.sl (.list .int) a0, .clo f_store_Empty_1 none []] .bool fun s1 =>
 R (.bool s1)) := by kernel_rfl
theorem store_Empty_sat {r : D} (a0 : List (List Int)) (h : (∀ d ∈ [.sl (.list .int) a0], okD d) → fnD Try.prog Ev store_Empty_A Try.f67.results.toList (bodyOf Try.f67) [.sl (.list .int) a0] fun d => d = r) : Sat Try.prog f_store_Empty [.sl (.list .int) a0] r := by
  have h2 := sat_of (r := r) (args := [.sl (.list .int) a0]) (A := store_Empty_A) (fn := Try.f67) (body := bodyOf Try.f67) (f := f_store_Empty) factsEv Try.func67 (by kernel_rfl) (by rw [Try.ntmps67]; rfl) (by rw [Try.ntmps67]; exact Nat.le_of_ble_eq_true rfl)
  with_reducible exact h2 h
/-! ### cordon/store.right -/
def store_right_A : Ann := { own := [7], live := [(0, ([1, 2, 17, 18, 19], [])), (2, ([33, 34, 35], [])), (4, ([9, 10, 33, 34, 35], []))], n := 56, nils := [], pubs := [] }
def store_right_I4 (a1 : List (List Int)) (R : D → Prop) (n2 : Nat) (v3 : Int) (n4 : Nat) (k4 : Int) : Prop := iter (den Try.prog Ev store_right_A (sub [1, 1, 1, 0, 1, 0, 0, 1, 1, 0, 0, 1, 1, 0, 0] (bodyOf Try.f110)) 4) store_right_A (liveOf store_right_A 4) n4 ⟨[(9, .sl .int (at' (.list .int) a1 v3.toNat)), (10, .int .i64 k4), (33, .sl (.list .int) a1), (34, .int .i64 (a1.length : Int)), (35, .int .i64 v3)], []⟩ (blockK 4 (blockK 3 (seqK Try.prog Ev store_right_A (sub [1, 1, 1, 0, 1, 0, 0, 1, 1, 1] (bodyOf Try.f110)) 2 (iterK (den Try.prog Ev store_right_A (sub [1, 1, 1, 0, 1, 0, 0] (bodyOf Try.f110)) 2) store_right_A (liveOf store_right_A 2) n2 (blockK 2 (seqK Try.prog Ev store_right_A (sub [1, 1, 1, 1] (bodyOf Try.f110)) 0 (endK Ev Try.f110.results.toList R)))))))
def store_right_I2 (a1 : List (List Int)) (R : D → Prop) (n2 : Nat) (v3 : Int) : Prop := iter (den Try.prog Ev store_right_A (sub [1, 1, 1, 0, 1, 0, 0] (bodyOf Try.f110)) 2) store_right_A (liveOf store_right_A 2) n2 ⟨[(33, .sl (.list .int) a1), (34, .int .i64 (a1.length : Int)), (35, .int .i64 v3)], []⟩ (blockK 2 (seqK Try.prog Ev store_right_A (sub [1, 1, 1, 1] (bodyOf Try.f110)) 0 (endK Ev Try.f110.results.toList R)))
def store_right_I0 (a0 : MdlD) (a1 : List (List Int)) (R : D → Prop) (n0 : Nat) (v1 : Int) : Prop := iter (den Try.prog Ev store_right_A (sub [1, 1, 0, 1, 0, 0] (bodyOf Try.f110)) 0) store_right_A (liveOf store_right_A 0) n0 ⟨[(1, .sl (.list .int) a1), (2, .iptr [.sl .var a0.vars, .sl .con a0.cons, .int .i64 a0.goal, .int .i64 a0.var] 0), (17, .sl (.list .int) a1), (18, .int .i64 (a1.length : Int)), (19, .int .i64 v1)], []⟩ (blockK 0 (seqK Try.prog Ev store_right_A (sub [1, 1, 1] (bodyOf Try.f110)) 0 (endK Ev Try.f110.results.toList R)))
theorem store_right_I4_eq (a1 : List (List Int)) (R : D → Prop) (n2 : Nat) (v3 : Int) (n4 : Nat) (k4 : Int) : store_right_I4 a1 R n2 v3 (n4 + 1) k4 =
 (sel (decide (k4 < ((at' (.list .int) a1 v3.toNat).length : Int)))
 (inb k4 (at' (.list .int) a1 v3.toNat).length = true ∧
 inb (w64 (k4 - 1)) (at' (.list .int) a1 v3.toNat).length = true ∧
 sel (decide ((at' .int (at' (.list .int) a1 v3.toNat) k4.toNat) ≤ (at' .int (at' (.list .int) a1 v3.toNat) ((w64 (k4 - 1)).toNat))))
 (R (.int .i64 4))
 (store_right_I4 a1 R n2 v3 n4 (w64 (k4 + 1))))
 (store_right_I2 a1 R n2 (w64 (v3 + 1)))) := by kernel_rfl
theorem store_right_I2_eq (a1 : List (List Int)) (R : D → Prop) (n2 : Nat) (v3 : Int) : store_right_I2 a1 R (n2 + 1) v3 =
 (sel (decide (v3 < (a1.length : Int)))
 (inb v3 a1.length = true ∧
 ∃ n4, store_right_I4 a1 R n2 v3 n4 1)
 (R (.int .i64 0))) := by kernel_rfl
theorem store_right_I0_eq (a0 : MdlD) (a1 : List (List Int)) (R : D → Prop) (n0 : Nat) (v1 : Int) : store_right_I0 a0 a1 R (n0 + 1) v1 =
 (sel (decide (v1 < (a1.length : Int)))
 (inb v1 a1.length = true ∧
 inb v1 a0.vars.length = true ∧
 Call1 Try.prog f_slices_ContainsFunc_l_int_int [.sl .int (at' (.list .int) a1 v1.toNat), .clo f_store_right_1 none [.iptr [.str ((at' .var a0.vars v1.toNat).name), .int .i64 ((at' .var a0.vars v1.toNat).lo), .int .i64 ((at' .var a0.vars v1.toNat).hi)] 0]] .bool fun s2 =>
 sel s2
 (R (.int .i64 3))
 (store_right_I0 a0 a1 R n0 (w64 (v1 + 1))))
 (∃ n2, store_right_I2 a1 R n2 0)) := by kernel_rfl
theorem store_right_eq (a0 : MdlD) (a1 : List (List Int)) (R : D → Prop) : fnD Try.prog Ev store_right_A Try.f110.results.toList (bodyOf Try.f110) [.agg [.sl .var a0.vars, .sl .con a0.cons, .int .i64 a0.goal, .int .i64 a0.var], .sl (.list .int) a1] R =
 (sel (!decide ((a1.length : Int) = (a0.vars.length : Int)))
 (R (.int .i64 1))
 (∃ n0, store_right_I0 a0 a1 R n0 0)) := by kernel_rfl
theorem store_right_sat {r : D} (a0 : MdlD) (a1 : List (List Int)) (h : (∀ d ∈ [.agg [.sl .var a0.vars, .sl .con a0.cons, .int .i64 a0.goal, .int .i64 a0.var], .sl (.list .int) a1], okD d) → fnD Try.prog Ev store_right_A Try.f110.results.toList (bodyOf Try.f110) [.agg [.sl .var a0.vars, .sl .con a0.cons, .int .i64 a0.goal, .int .i64 a0.var], .sl (.list .int) a1] fun d => d = r) : Sat Try.prog f_store_right [.agg [.sl .var a0.vars, .sl .con a0.cons, .int .i64 a0.goal, .int .i64 a0.var], .sl (.list .int) a1] r := by
  have h2 := sat_of (r := r) (args := [.agg [.sl .var a0.vars, .sl .con a0.cons, .int .i64 a0.goal, .int .i64 a0.var], .sl (.list .int) a1]) (A := store_right_A) (fn := Try.f110) (body := bodyOf Try.f110) (f := f_store_right) factsEv Try.func110 (by kernel_rfl) (by rw [Try.ntmps110]; rfl) (by rw [Try.ntmps110]; exact Nat.le_of_ble_eq_true rfl)
  with_reducible exact h2 h
/-! ### cordon/store.Empty$1 -/
def store_Empty_1_A : Ann := { own := [], live := [], n := 6, nils := [], pubs := [] }
theorem store_Empty_1_eq (a0 : List Int) (R : D → Prop) : fnD Try.prog Ev store_Empty_1_A Try.f114.results.toList (bodyOf Try.f114) [.sl .int a0] R =
 (R (.bool (decide ((a0.length : Int) = 0)))) := by kernel_rfl
theorem store_Empty_1_sat {r : D} (a0 : List Int) (h : (∀ d ∈ [.sl .int a0], okD d) → fnD Try.prog Ev store_Empty_1_A Try.f114.results.toList (bodyOf Try.f114) [.sl .int a0] fun d => d = r) : Sat Try.prog f_store_Empty_1 [.sl .int a0] r := by
  have h2 := sat_of (r := r) (args := [.sl .int a0]) (A := store_Empty_1_A) (fn := Try.f114) (body := bodyOf Try.f114) (f := f_store_Empty_1) factsEv Try.func114 (by kernel_rfl) (by rw [Try.ntmps114]; rfl) (by rw [Try.ntmps114]; exact Nat.le_of_ble_eq_true rfl)
  with_reducible exact h2 h
/-! ### cordon/store.Own -/
def store_Own_A : Ann := { own := [3, 16], live := [(0, ([3, 6, 7, 8], [3]))], n := 19, nils := [], pubs := [] }
def store_Own_I0 (a0 : List (List Int)) (R : D → Prop) (n0 : Nat) (v1 : Int) (out2 : List (List Int)) : Prop := iter (den Try.prog Ev store_Own_A (sub [1, 1, 0, 1, 0, 0] (bodyOf Try.f119)) 0) store_Own_A (liveOf store_Own_A 0) n0 ⟨[(3, .own 3), (6, .sl (.list .int) a0), (7, .int .i64 (a0.length : Int)), (8, .int .i64 v1)], [(3, .row 72 (.list .int) out2)]⟩ (blockK 0 (seqK Try.prog Ev store_Own_A (sub [1, 1, 1] (bodyOf Try.f119)) 0 (endK Ev Try.f119.results.toList R)))
theorem store_Own_I0_eq (a0 : List (List Int)) (R : D → Prop) (n0 : Nat) (v1 : Int) (out2 : List (List Int)) : store_Own_I0 a0 R (n0 + 1) v1 out2 =
 (sel (decide (v1 < (a0.length : Int)))
 (inb v1 a0.length = true ∧
 ∃ i3 : List Int, SatH Try.prog f_slices_Clone_l_int_int [.sl .int (at' (.list .int) a0 v1.toNat)] [] (.own 3000) [(3000, .row 3 .int i3)] ∧
 room (.list .int) (out2.length + ([i3]).length) = true ∧
 store_Own_I0 a0 R n0 (w64 (v1 + 1)) (out2 ++ ([i3])))
 (R (.sl (.list .int) out2))) := by kernel_rfl
theorem store_Own_eq (a0 : List (List Int)) (R : D → Prop) : fnD Try.prog Ev store_Own_A Try.f119.results.toList (bodyOf Try.f119) [.sl (.list .int) a0] R =
 (∃ n0, store_Own_I0 a0 R n0 0 ([] : List (List Int))) := by kernel_rfl
theorem store_Own_sat {r : D} (a0 : List (List Int)) (h : (∀ d ∈ [.sl (.list .int) a0], okD d) → fnD Try.prog Ev store_Own_A Try.f119.results.toList (bodyOf Try.f119) [.sl (.list .int) a0] fun d => d = r) : Sat Try.prog f_store_Own [.sl (.list .int) a0] r := by
  have h2 := sat_of (r := r) (args := [.sl (.list .int) a0]) (A := store_Own_A) (fn := Try.f119) (body := bodyOf Try.f119) (f := f_store_Own) factsEv Try.func119 (by kernel_rfl) (by rw [Try.ntmps119]; rfl) (by rw [Try.ntmps119]; exact Nat.le_of_ble_eq_true rfl)
  with_reducible exact h2 h
/-! ### cordon/store.Nothing -/
def store_Nothing_A : Ann := { own := [], live := [], n := 6, nils := [], pubs := [] }
theorem store_Nothing_eq (a0 : List (List Int)) (R : D → Prop) : fnD Try.prog Ev store_Nothing_A Try.f120.results.toList (bodyOf Try.f120) [.sl (.list .int) a0] R =
 ((a0.length : Int) = (a0.length : Int) ∧
 0 ≤ (a0.length : Int) ∧
 room (.list .int) ((a0.length : Int).toNat) = true ∧
 R (.sl (.list .int) (List.replicate ((a0.length : Int).toNat) (Ty.dflt (.list .int))))) := by kernel_rfl
theorem store_Nothing_sat {r : D} (a0 : List (List Int)) (h : (∀ d ∈ [.sl (.list .int) a0], okD d) → fnD Try.prog Ev store_Nothing_A Try.f120.results.toList (bodyOf Try.f120) [.sl (.list .int) a0] fun d => d = r) : Sat Try.prog f_store_Nothing [.sl (.list .int) a0] r := by
  have h2 := sat_of (r := r) (args := [.sl (.list .int) a0]) (A := store_Nothing_A) (fn := Try.f120) (body := bodyOf Try.f120) (f := f_store_Nothing) factsEv Try.func120 (by kernel_rfl) (by rw [Try.ntmps120]; rfl) (by rw [Try.ntmps120]; exact Nat.le_of_ble_eq_true rfl)
  with_reducible exact h2 h
/-! ### cordon/store.right$1 -/
def store_right_1_A : Ann := { own := [], live := [], n := 14, nils := [], pubs := [] }
theorem store_right_1_eq (a0 : Int) (c0 : VarD) (R : D → Prop) : fnD Try.prog Ev store_right_1_A Try.f148.results.toList (bodyOf Try.f148) [.int .i64 a0, .iptr [.str c0.name, .int .i64 c0.lo, .int .i64 c0.hi] 0] R =
 (sel (decide (a0 < c0.lo))
 (R (.bool true))
 (R (.bool (decide (c0.hi < a0))))) := by kernel_rfl
theorem store_right_1_sat {r : D} (a0 : Int) (c0 : VarD) (h : (∀ d ∈ [.int .i64 a0, .iptr [.str c0.name, .int .i64 c0.lo, .int .i64 c0.hi] 0], okD d) → fnD Try.prog Ev store_right_1_A Try.f148.results.toList (bodyOf Try.f148) [.int .i64 a0, .iptr [.str c0.name, .int .i64 c0.lo, .int .i64 c0.hi] 0] fun d => d = r) : Sat Try.prog f_store_right_1 [.int .i64 a0, .iptr [.str c0.name, .int .i64 c0.lo, .int .i64 c0.hi] 0] r := by
  have h2 := sat_of (r := r) (args := [.int .i64 a0, .iptr [.str c0.name, .int .i64 c0.lo, .int .i64 c0.hi] 0]) (A := store_right_1_A) (fn := Try.f148) (body := bodyOf Try.f148) (f := f_store_right_1) factsEv Try.func148 (by kernel_rfl) (by rw [Try.ntmps148]; rfl) (by rw [Try.ntmps148]; exact Nat.le_of_ble_eq_true rfl)
  with_reducible exact h2 h
end Go.Proofs.Ytonkbljpcgadlaa
