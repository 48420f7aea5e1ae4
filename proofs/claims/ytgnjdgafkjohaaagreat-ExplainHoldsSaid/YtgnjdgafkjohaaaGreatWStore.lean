/- What the functions of a package do, as equations of plain propositions: printed by a program that carries the code out on symbols. -/
import Derived.Test.YtgnjdgafkjohaaaGreatWEv
namespace Go.Proofs.YtgnjdgafkjohaaaGreat
open Go.RowKit
set_option linter.unusedVariables false
set_option maxRecDepth 100000
/-! ### cordon/store.Check -/
def store_Check_A : Ann := { own := [], live := [], n := 9, nils := [], pubs := [] }
theorem store_Check_eq (a0 : MdlD) (a1 : List (List Int)) (R : D → Prop) : fnD Tryz.prog Ev store_Check_A Tryz.f55.results.toList (bodyOf Tryz.f55) [dM a0, dS a1] R =
 (Call1 Tryz.prog f_store_ready [dM a0, .sl (.list (.list .int)) ([a1])] .int fun s1 =>
 R (dI s1)) := by kernel_rfl
theorem store_Check_sat {r : D} (a0 : MdlD) (a1 : List (List Int)) (h : (∀ d ∈ [dM a0, dS a1], okD d) → fnD Tryz.prog Ev store_Check_A Tryz.f55.results.toList (bodyOf Tryz.f55) [dM a0, dS a1] fun d => d = r) : Sat Tryz.prog f_store_Check [dM a0, dS a1] r := by
  have h2 := sat_of (r := r) (args := [dM a0, dS a1]) (A := store_Check_A) (fn := Tryz.f55) (body := bodyOf Tryz.f55) (f := f_store_Check) factsEv Tryz.func55 (by kernel_rfl) (by rw [Tryz.ntmps55]; rfl) (by rw [Tryz.ntmps55]; exact Nat.le_of_ble_eq_true rfl)
  with_reducible exact h2 h
/-! ### cordon/store.ready -/
def store_ready_A : Ann := { own := [], live := [(0, ([2, 14, 15, 16], []))], n := 27, nils := [], pubs := [] }
def store_ready_I0 (a0 : MdlD) (a1 : List (List (List Int))) (R : D → Prop) (n0 : Nat) (v2 : Int) : Prop := iter (den Tryz.prog Ev store_ready_A (sub [1, 1, 0, 1, 0, 0] (bodyOf Tryz.f67)) 0) store_ready_A (liveOf store_ready_A 0) n0 ⟨[(2, .iptr [.sl .var a0.vars, .sl .con a0.cons, dI a0.goal, dI a0.var] 0), (14, .sl (.list (.list .int)) a1), (15, dI (a1.length : Int)), (16, dI v2)], []⟩ (blockK 0 (seqK Tryz.prog Ev store_ready_A (sub [1, 1, 1] (bodyOf Tryz.f67)) 0 (endK Ev Tryz.f67.results.toList R)))
theorem store_ready_I0_eq (a0 : MdlD) (a1 : List (List (List Int))) (R : D → Prop) (n0 : Nat) (v2 : Int) : store_ready_I0 a0 a1 R (n0 + 1) v2 =
 (sel (decide (v2 < (a1.length : Int)))
 (inb v2 a1.length = true ∧
 Call1 Tryz.prog f_store_right [dM a0, dS (at' (.list (.list .int)) a1 v2.toNat)] .int fun s3 =>
 sel (!decide (s3 = 0))
 (R (dI s3))
 (store_ready_I0 a0 a1 R n0 (w64 (v2 + 1))))
 (R (dI 0))) := by kernel_rfl
theorem store_ready_eq (a0 : MdlD) (a1 : List (List (List Int))) (R : D → Prop) : fnD Tryz.prog Ev store_ready_A Tryz.f67.results.toList (bodyOf Tryz.f67) [dM a0, .sl (.list (.list .int)) a1] R =
 (Call1 Tryz.prog f_model_Check [dM a0] .int fun m1 =>
 sel (!decide (m1 = 0))
 (R (dI m1))
 (∃ n0, store_ready_I0 a0 a1 R n0 0)) := by kernel_rfl
theorem store_ready_sat {r : D} (a0 : MdlD) (a1 : List (List (List Int))) (h : (∀ d ∈ [dM a0, .sl (.list (.list .int)) a1], okD d) → fnD Tryz.prog Ev store_ready_A Tryz.f67.results.toList (bodyOf Tryz.f67) [dM a0, .sl (.list (.list .int)) a1] fun d => d = r) : Sat Tryz.prog f_store_ready [dM a0, .sl (.list (.list .int)) a1] r := by
  have h2 := sat_of (r := r) (args := [dM a0, .sl (.list (.list .int)) a1]) (A := store_ready_A) (fn := Tryz.f67) (body := bodyOf Tryz.f67) (f := f_store_ready) factsEv Tryz.func67 (by kernel_rfl) (by rw [Tryz.ntmps67]; rfl) (by rw [Tryz.ntmps67]; exact Nat.le_of_ble_eq_true rfl)
  with_reducible exact h2 h
/-! ### cordon/store.Keep -/
def store_Keep_A : Ann := { own := [5, 8, 31, 36], live := [(0, ([1, 5, 11, 12, 13], [5])), (2, ([1, 5, 6, 8, 11, 12, 13, 18, 19, 20], [5, 8]))], n := 39, nils := [], pubs := [] }
def store_Keep_I2 (a0 : List (List Int)) (g1 : FuncId) (cap1 : List D) (R : D → Prop) (n0 : Nat) (v1 : Int) (n2 : Nat) (v3 : Int) (out4 : List (List Int)) (k5 : List Int) : Prop := iter (den Tryz.prog Ev store_Keep_A (sub [1, 1, 0, 1, 0, 0, 1, 1, 0, 0, 1, 1, 0, 1, 0, 0] (bodyOf Tryz.f68)) 2) store_Keep_A (liveOf store_Keep_A 2) n2 ⟨[(1, .clo g1 (some [.bool]) cap1), (5, .own 5), (6, dI v1), (8, .own 8), (11, dS a0), (12, dI (a0.length : Int)), (13, dI v1), (18, .sl .int (at' (.list .int) a0 v1.toNat)), (19, dI ((at' (.list .int) a0 v1.toNat).length : Int)), (20, dI v3)], [(5, .row 42 (.list .int) out4), (8, .row 3 .int k5)]⟩ (blockK 2 (seqK Tryz.prog Ev store_Keep_A (sub [1, 1, 0, 1, 0, 0, 1, 1, 0, 0, 1, 1, 1] (bodyOf Tryz.f68)) 1 (blockK 1 (seqK Tryz.prog Ev store_Keep_A (sub [1, 1, 0, 1, 0, 0, 1, 1, 1] (bodyOf Tryz.f68)) 0 (iterK (den Tryz.prog Ev store_Keep_A (sub [1, 1, 0, 1, 0, 0] (bodyOf Tryz.f68)) 0) store_Keep_A (liveOf store_Keep_A 0) n0 (blockK 0 (seqK Tryz.prog Ev store_Keep_A (sub [1, 1, 1] (bodyOf Tryz.f68)) 0 (endK Ev Tryz.f68.results.toList R))))))))
def store_Keep_I0 (a0 : List (List Int)) (g1 : FuncId) (cap1 : List D) (R : D → Prop) (n0 : Nat) (v1 : Int) (out2 : List (List Int)) : Prop := iter (den Tryz.prog Ev store_Keep_A (sub [1, 1, 0, 1, 0, 0] (bodyOf Tryz.f68)) 0) store_Keep_A (liveOf store_Keep_A 0) n0 ⟨[(1, .clo g1 (some [.bool]) cap1), (5, .own 5), (11, dS a0), (12, dI (a0.length : Int)), (13, dI v1)], [(5, .row 42 (.list .int) out2)]⟩ (blockK 0 (seqK Tryz.prog Ev store_Keep_A (sub [1, 1, 1] (bodyOf Tryz.f68)) 0 (endK Ev Tryz.f68.results.toList R)))
theorem store_Keep_I2_eq (a0 : List (List Int)) (g1 : FuncId) (cap1 : List D) (R : D → Prop) (n0 : Nat) (v1 : Int) (n2 : Nat) (v3 : Int) (out4 : List (List Int)) (k5 : List Int) : store_Keep_I2 a0 g1 cap1 R n0 v1 (n2 + 1) v3 out4 k5 =
 (sel (decide (v3 < ((at' (.list .int) a0 v1.toNat).length : Int)))
 (inb v3 (at' (.list .int) a0 v1.toNat).length = true ∧
 Ent Tryz.prog g1 ∧
 Call1 Tryz.prog g1 ([dI v1, dI (at' .int (at' (.list .int) a0 v1.toNat) v3.toNat)] ++ cap1) .bool fun r6 =>
 sel r6
 (room .int (k5.length + ([at' .int (at' (.list .int) a0 v1.toNat) v3.toNat]).length) = true ∧
 store_Keep_I2 a0 g1 cap1 R n0 v1 n2 (w64 (v3 + 1)) out4 (k5 ++ ([at' .int (at' (.list .int) a0 v1.toNat) v3.toNat])))
 (store_Keep_I2 a0 g1 cap1 R n0 v1 n2 (w64 (v3 + 1)) out4 k5))
 (room (.list .int) (out4.length + ([k5]).length) = true ∧
 store_Keep_I0 a0 g1 cap1 R n0 (w64 (v1 + 1)) (out4 ++ ([k5])))) := by kernel_rfl
theorem store_Keep_I0_eq (a0 : List (List Int)) (g1 : FuncId) (cap1 : List D) (R : D → Prop) (n0 : Nat) (v1 : Int) (out2 : List (List Int)) : store_Keep_I0 a0 g1 cap1 R (n0 + 1) v1 out2 =
 (sel (decide (v1 < (a0.length : Int)))
 (inb v1 a0.length = true ∧
 ∃ n2, store_Keep_I2 a0 g1 cap1 R n0 v1 n2 0 out2 ([] : List Int))
 (R (dS out2))) := by kernel_rfl
theorem store_Keep_eq (a0 : List (List Int)) (g1 : FuncId) (cap1 : List D) (R : D → Prop) : fnD Tryz.prog Ev store_Keep_A Tryz.f68.results.toList (bodyOf Tryz.f68) [dS a0, .clo g1 (some [.bool]) cap1] R =
 (∃ n0, store_Keep_I0 a0 g1 cap1 R n0 0 ([] : List (List Int))) := by kernel_rfl
theorem store_Keep_sat {r : D} (a0 : List (List Int)) (g1 : FuncId) (cap1 : List D) (h : (∀ d ∈ [dS a0, .clo g1 (some [.bool]) cap1], okD d) → fnD Tryz.prog Ev store_Keep_A Tryz.f68.results.toList (bodyOf Tryz.f68) [dS a0, .clo g1 (some [.bool]) cap1] fun d => d = r) : Sat Tryz.prog f_store_Keep [dS a0, .clo g1 (some [.bool]) cap1] r := by
  have h2 := sat_of (r := r) (args := [dS a0, .clo g1 (some [.bool]) cap1]) (A := store_Keep_A) (fn := Tryz.f68) (body := bodyOf Tryz.f68) (f := f_store_Keep) factsEv Tryz.func68 (by kernel_rfl) (by rw [Tryz.ntmps68]; rfl) (by rw [Tryz.ntmps68]; exact Nat.le_of_ble_eq_true rfl)
  with_reducible exact h2 h
/-! ### cordon/store.Empty -/
def store_Empty_A : Ann := { own := [], live := [], n := 5, nils := [], pubs := [] }
theorem store_Empty_eq (a0 : List (List Int)) (R : D → Prop) : fnD Tryz.prog Ev store_Empty_A Tryz.f110.results.toList (bodyOf Tryz.f110) [dS a0] R =
 (Call1 Tryz.prog f_slices_ContainsFunc_api_Store_int [dS a0, .clo f_store_Empty_1 none []] .bool fun s1 =>
 R (dB s1)) := by kernel_rfl
theorem store_Empty_sat {r : D} (a0 : List (List Int)) (h : (∀ d ∈ [dS a0], okD d) → fnD Tryz.prog Ev store_Empty_A Tryz.f110.results.toList (bodyOf Tryz.f110) [dS a0] fun d => d = r) : Sat Tryz.prog f_store_Empty [dS a0] r := by
  have h2 := sat_of (r := r) (args := [dS a0]) (A := store_Empty_A) (fn := Tryz.f110) (body := bodyOf Tryz.f110) (f := f_store_Empty) factsEv Tryz.func110 (by kernel_rfl) (by rw [Tryz.ntmps110]; rfl) (by rw [Tryz.ntmps110]; exact Nat.le_of_ble_eq_true rfl)
  with_reducible exact h2 h
/-! ### cordon/store.Own -/
def store_Own_A : Ann := { own := [3, 16], live := [(0, ([3, 6, 7, 8], [3]))], n := 19, nils := [], pubs := [] }
def store_Own_I0 (a0 : List (List Int)) (R : D → Prop) (n0 : Nat) (v1 : Int) (out2 : List (List Int)) : Prop := iter (den Tryz.prog Ev store_Own_A (sub [1, 1, 0, 1, 0, 0] (bodyOf Tryz.f111)) 0) store_Own_A (liveOf store_Own_A 0) n0 ⟨[(3, .own 3), (6, dS a0), (7, dI (a0.length : Int)), (8, dI v1)], [(3, .row 42 (.list .int) out2)]⟩ (blockK 0 (seqK Tryz.prog Ev store_Own_A (sub [1, 1, 1] (bodyOf Tryz.f111)) 0 (endK Ev Tryz.f111.results.toList R)))
theorem store_Own_I0_eq (a0 : List (List Int)) (R : D → Prop) (n0 : Nat) (v1 : Int) (out2 : List (List Int)) : store_Own_I0 a0 R (n0 + 1) v1 out2 =
 (sel (decide (v1 < (a0.length : Int)))
 (inb v1 a0.length = true ∧
 ∃ i3 : List Int, SatH Tryz.prog f_slices_Clone_l_int_int [.sl .int (at' (.list .int) a0 v1.toNat)] [] (.own 3000) [(3000, .row 3 .int i3)] ∧
 room (.list .int) (out2.length + ([i3]).length) = true ∧
 store_Own_I0 a0 R n0 (w64 (v1 + 1)) (out2 ++ ([i3])))
 (R (dS out2))) := by kernel_rfl
theorem store_Own_eq (a0 : List (List Int)) (R : D → Prop) : fnD Tryz.prog Ev store_Own_A Tryz.f111.results.toList (bodyOf Tryz.f111) [dS a0] R =
 (∃ n0, store_Own_I0 a0 R n0 0 ([] : List (List Int))) := by kernel_rfl
theorem store_Own_sat {r : D} (a0 : List (List Int)) (h : (∀ d ∈ [dS a0], okD d) → fnD Tryz.prog Ev store_Own_A Tryz.f111.results.toList (bodyOf Tryz.f111) [dS a0] fun d => d = r) : Sat Tryz.prog f_store_Own [dS a0] r := by
  have h2 := sat_of (r := r) (args := [dS a0]) (A := store_Own_A) (fn := Tryz.f111) (body := bodyOf Tryz.f111) (f := f_store_Own) factsEv Tryz.func111 (by kernel_rfl) (by rw [Tryz.ntmps111]; rfl) (by rw [Tryz.ntmps111]; exact Nat.le_of_ble_eq_true rfl)
  with_reducible exact h2 h
/-! ### cordon/store.Nothing -/
def store_Nothing_A : Ann := { own := [], live := [], n := 6, nils := [], pubs := [] }
theorem store_Nothing_eq (a0 : List (List Int)) (R : D → Prop) : fnD Tryz.prog Ev store_Nothing_A Tryz.f113.results.toList (bodyOf Tryz.f113) [dS a0] R =
 ((a0.length : Int) = (a0.length : Int) ∧
 0 ≤ (a0.length : Int) ∧
 room (.list .int) ((a0.length : Int).toNat) = true ∧
 R (dS (List.replicate ((a0.length : Int).toNat) (Ty.dflt (.list .int))))) := by kernel_rfl
theorem store_Nothing_sat {r : D} (a0 : List (List Int)) (h : (∀ d ∈ [dS a0], okD d) → fnD Tryz.prog Ev store_Nothing_A Tryz.f113.results.toList (bodyOf Tryz.f113) [dS a0] fun d => d = r) : Sat Tryz.prog f_store_Nothing [dS a0] r := by
  have h2 := sat_of (r := r) (args := [dS a0]) (A := store_Nothing_A) (fn := Tryz.f113) (body := bodyOf Tryz.f113) (f := f_store_Nothing) factsEv Tryz.func113 (by kernel_rfl) (by rw [Tryz.ntmps113]; rfl) (by rw [Tryz.ntmps113]; exact Nat.le_of_ble_eq_true rfl)
  with_reducible exact h2 h
/-! ### cordon/store.Full -/
def store_Full_A : Ann := { own := [3, 5, 6, 26, 30], live := [(0, ([3, 9, 10, 11], [3])), (2, ([3, 5, 6, 7, 9, 10, 11], [3, 5, 6]))], n := 33, nils := [], pubs := [] }
def store_Full_I2 (a0 : MdlD) (R : D → Prop) (n0 : Nat) (v1 : Int) (n2 : Nat) (n3 : Int) (out4 : List (List Int)) (l5 : List Int) : Prop := iter (den Tryz.prog Ev store_Full_A (sub [1, 1, 0, 1, 0, 0, 1, 1, 0, 0, 1, 1, 0, 1, 0, 0] (bodyOf Tryz.f120)) 2) store_Full_A (liveOf store_Full_A 2) n2 ⟨[(3, .own 3), (5, .ptr 5 0), (6, .own 6), (7, dI n3), (9, .sl .var a0.vars), (10, dI (a0.vars.length : Int)), (11, dI v1)], [(3, .row 42 (.list .int) out4), (5, .cells [.str ((at' .var a0.vars v1.toNat).name), dI ((at' .var a0.vars v1.toNat).lo), dI ((at' .var a0.vars v1.toNat).hi)]), (6, .row 3 .int l5)]⟩ (blockK 2 (seqK Tryz.prog Ev store_Full_A (sub [1, 1, 0, 1, 0, 0, 1, 1, 0, 0, 1, 1, 1] (bodyOf Tryz.f120)) 1 (blockK 1 (seqK Tryz.prog Ev store_Full_A (sub [1, 1, 0, 1, 0, 0, 1, 1, 1] (bodyOf Tryz.f120)) 0 (iterK (den Tryz.prog Ev store_Full_A (sub [1, 1, 0, 1, 0, 0] (bodyOf Tryz.f120)) 0) store_Full_A (liveOf store_Full_A 0) n0 (blockK 0 (seqK Tryz.prog Ev store_Full_A (sub [1, 1, 1] (bodyOf Tryz.f120)) 0 (endK Ev Tryz.f120.results.toList R))))))))
def store_Full_I0 (a0 : MdlD) (R : D → Prop) (n0 : Nat) (v1 : Int) (out2 : List (List Int)) : Prop := iter (den Tryz.prog Ev store_Full_A (sub [1, 1, 0, 1, 0, 0] (bodyOf Tryz.f120)) 0) store_Full_A (liveOf store_Full_A 0) n0 ⟨[(3, .own 3), (9, .sl .var a0.vars), (10, dI (a0.vars.length : Int)), (11, dI v1)], [(3, .row 42 (.list .int) out2)]⟩ (blockK 0 (seqK Tryz.prog Ev store_Full_A (sub [1, 1, 1] (bodyOf Tryz.f120)) 0 (endK Ev Tryz.f120.results.toList R)))
theorem store_Full_I2_eq (a0 : MdlD) (R : D → Prop) (n0 : Nat) (v1 : Int) (n2 : Nat) (n3 : Int) (out4 : List (List Int)) (l5 : List Int) : store_Full_I2 a0 R n0 v1 (n2 + 1) n3 out4 l5 =
 (sel (decide (n3 ≤ ((at' .var a0.vars v1.toNat).hi)))
 (room .int (l5.length + ([n3]).length) = true ∧
 store_Full_I2 a0 R n0 v1 n2 (w64 (n3 + 1)) out4 (l5 ++ ([n3])))
 (room (.list .int) (out4.length + ([l5]).length) = true ∧
 store_Full_I0 a0 R n0 (w64 (v1 + 1)) (out4 ++ ([l5])))) := by kernel_rfl
theorem store_Full_I0_eq (a0 : MdlD) (R : D → Prop) (n0 : Nat) (v1 : Int) (out2 : List (List Int)) : store_Full_I0 a0 R (n0 + 1) v1 out2 =
 (sel (decide (v1 < (a0.vars.length : Int)))
 (inb v1 a0.vars.length = true ∧
 ∃ n2, store_Full_I2 a0 R n0 v1 n2 ((at' .var a0.vars v1.toNat).lo) out2 ([] : List Int))
 (R (dS out2))) := by kernel_rfl
theorem store_Full_eq (a0 : MdlD) (R : D → Prop) : fnD Tryz.prog Ev store_Full_A Tryz.f120.results.toList (bodyOf Tryz.f120) [dM a0] R =
 (∃ n0, store_Full_I0 a0 R n0 0 ([] : List (List Int))) := by kernel_rfl
theorem store_Full_sat {r : D} (a0 : MdlD) (h : (∀ d ∈ [dM a0], okD d) → fnD Tryz.prog Ev store_Full_A Tryz.f120.results.toList (bodyOf Tryz.f120) [dM a0] fun d => d = r) : Sat Tryz.prog f_store_Full [dM a0] r := by
  have h2 := sat_of (r := r) (args := [dM a0]) (A := store_Full_A) (fn := Tryz.f120) (body := bodyOf Tryz.f120) (f := f_store_Full) factsEv Tryz.func120 (by kernel_rfl) (by rw [Tryz.ntmps120]; rfl) (by rw [Tryz.ntmps120]; exact Nat.le_of_ble_eq_true rfl)
  with_reducible exact h2 h
/-! ### cordon/store.right -/
def store_right_A : Ann := { own := [7], live := [(0, ([1, 2, 17, 18, 19], [])), (2, ([33, 34, 35], [])), (4, ([9, 10, 33, 34, 35], []))], n := 56, nils := [], pubs := [] }
def store_right_I4 (a1 : List (List Int)) (R : D → Prop) (n2 : Nat) (v3 : Int) (n4 : Nat) (k4 : Int) : Prop := iter (den Tryz.prog Ev store_right_A (sub [1, 1, 1, 0, 1, 0, 0, 1, 1, 0, 0, 1, 1, 0, 0] (bodyOf Tryz.f121)) 4) store_right_A (liveOf store_right_A 4) n4 ⟨[(9, .sl .int (at' (.list .int) a1 v3.toNat)), (10, dI k4), (33, dS a1), (34, dI (a1.length : Int)), (35, dI v3)], []⟩ (blockK 4 (blockK 3 (seqK Tryz.prog Ev store_right_A (sub [1, 1, 1, 0, 1, 0, 0, 1, 1, 1] (bodyOf Tryz.f121)) 2 (iterK (den Tryz.prog Ev store_right_A (sub [1, 1, 1, 0, 1, 0, 0] (bodyOf Tryz.f121)) 2) store_right_A (liveOf store_right_A 2) n2 (blockK 2 (seqK Tryz.prog Ev store_right_A (sub [1, 1, 1, 1] (bodyOf Tryz.f121)) 0 (endK Ev Tryz.f121.results.toList R)))))))
def store_right_I2 (a1 : List (List Int)) (R : D → Prop) (n2 : Nat) (v3 : Int) : Prop := iter (den Tryz.prog Ev store_right_A (sub [1, 1, 1, 0, 1, 0, 0] (bodyOf Tryz.f121)) 2) store_right_A (liveOf store_right_A 2) n2 ⟨[(33, dS a1), (34, dI (a1.length : Int)), (35, dI v3)], []⟩ (blockK 2 (seqK Tryz.prog Ev store_right_A (sub [1, 1, 1, 1] (bodyOf Tryz.f121)) 0 (endK Ev Tryz.f121.results.toList R)))
def store_right_I0 (a0 : MdlD) (a1 : List (List Int)) (R : D → Prop) (n0 : Nat) (v1 : Int) : Prop := iter (den Tryz.prog Ev store_right_A (sub [1, 1, 0, 1, 0, 0] (bodyOf Tryz.f121)) 0) store_right_A (liveOf store_right_A 0) n0 ⟨[(1, dS a1), (2, .iptr [.sl .var a0.vars, .sl .con a0.cons, dI a0.goal, dI a0.var] 0), (17, dS a1), (18, dI (a1.length : Int)), (19, dI v1)], []⟩ (blockK 0 (seqK Tryz.prog Ev store_right_A (sub [1, 1, 1] (bodyOf Tryz.f121)) 0 (endK Ev Tryz.f121.results.toList R)))
theorem store_right_I4_eq (a1 : List (List Int)) (R : D → Prop) (n2 : Nat) (v3 : Int) (n4 : Nat) (k4 : Int) : store_right_I4 a1 R n2 v3 (n4 + 1) k4 =
 (sel (decide (k4 < ((at' (.list .int) a1 v3.toNat).length : Int)))
 (inb k4 (at' (.list .int) a1 v3.toNat).length = true ∧
 inb (w64 (k4 - 1)) (at' (.list .int) a1 v3.toNat).length = true ∧
 sel (decide ((at' .int (at' (.list .int) a1 v3.toNat) k4.toNat) ≤ (at' .int (at' (.list .int) a1 v3.toNat) ((w64 (k4 - 1)).toNat))))
 (R (dI 4))
 (store_right_I4 a1 R n2 v3 n4 (w64 (k4 + 1))))
 (store_right_I2 a1 R n2 (w64 (v3 + 1)))) := by kernel_rfl
theorem store_right_I2_eq (a1 : List (List Int)) (R : D → Prop) (n2 : Nat) (v3 : Int) : store_right_I2 a1 R (n2 + 1) v3 =
 (sel (decide (v3 < (a1.length : Int)))
 (inb v3 a1.length = true ∧
 ∃ n4, store_right_I4 a1 R n2 v3 n4 1)
 (R (dI 0))) := by kernel_rfl
theorem store_right_I0_eq (a0 : MdlD) (a1 : List (List Int)) (R : D → Prop) (n0 : Nat) (v1 : Int) : store_right_I0 a0 a1 R (n0 + 1) v1 =
 (sel (decide (v1 < (a1.length : Int)))
 (inb v1 a1.length = true ∧
 inb v1 a0.vars.length = true ∧
 Call1 Tryz.prog f_slices_ContainsFunc_l_int_int [.sl .int (at' (.list .int) a1 v1.toNat), .clo f_store_right_1 none [.iptr [.str ((at' .var a0.vars v1.toNat).name), dI ((at' .var a0.vars v1.toNat).lo), dI ((at' .var a0.vars v1.toNat).hi)] 0]] .bool fun s2 =>
 sel s2
 (R (dI 3))
 (store_right_I0 a0 a1 R n0 (w64 (v1 + 1))))
 (∃ n2, store_right_I2 a1 R n2 0)) := by kernel_rfl
theorem store_right_eq (a0 : MdlD) (a1 : List (List Int)) (R : D → Prop) : fnD Tryz.prog Ev store_right_A Tryz.f121.results.toList (bodyOf Tryz.f121) [dM a0, dS a1] R =
 (sel (!decide ((a1.length : Int) = (a0.vars.length : Int)))
 (R (dI 1))
 (∃ n0, store_right_I0 a0 a1 R n0 0)) := by kernel_rfl
theorem store_right_sat {r : D} (a0 : MdlD) (a1 : List (List Int)) (h : (∀ d ∈ [dM a0, dS a1], okD d) → fnD Tryz.prog Ev store_right_A Tryz.f121.results.toList (bodyOf Tryz.f121) [dM a0, dS a1] fun d => d = r) : Sat Tryz.prog f_store_right [dM a0, dS a1] r := by
  have h2 := sat_of (r := r) (args := [dM a0, dS a1]) (A := store_right_A) (fn := Tryz.f121) (body := bodyOf Tryz.f121) (f := f_store_right) factsEv Tryz.func121 (by kernel_rfl) (by rw [Tryz.ntmps121]; rfl) (by rw [Tryz.ntmps121]; exact Nat.le_of_ble_eq_true rfl)
  with_reducible exact h2 h
/-! ### cordon/store.Empty$1 -/
def store_Empty_1_A : Ann := { own := [], live := [], n := 6, nils := [], pubs := [] }
theorem store_Empty_1_eq (a0 : List Int) (R : D → Prop) : fnD Tryz.prog Ev store_Empty_1_A Tryz.f153.results.toList (bodyOf Tryz.f153) [.sl .int a0] R =
 (R (dB (decide ((a0.length : Int) = 0)))) := by kernel_rfl
theorem store_Empty_1_sat {r : D} (a0 : List Int) (h : (∀ d ∈ [.sl .int a0], okD d) → fnD Tryz.prog Ev store_Empty_1_A Tryz.f153.results.toList (bodyOf Tryz.f153) [.sl .int a0] fun d => d = r) : Sat Tryz.prog f_store_Empty_1 [.sl .int a0] r := by
  have h2 := sat_of (r := r) (args := [.sl .int a0]) (A := store_Empty_1_A) (fn := Tryz.f153) (body := bodyOf Tryz.f153) (f := f_store_Empty_1) factsEv Tryz.func153 (by kernel_rfl) (by rw [Tryz.ntmps153]; rfl) (by rw [Tryz.ntmps153]; exact Nat.le_of_ble_eq_true rfl)
  with_reducible exact h2 h
/-! ### cordon/store.right$1 -/
def store_right_1_A : Ann := { own := [], live := [], n := 14, nils := [], pubs := [] }
theorem store_right_1_eq (a0 : Int) (c0 : VarD) (R : D → Prop) : fnD Tryz.prog Ev store_right_1_A Tryz.f168.results.toList (bodyOf Tryz.f168) [dI a0, .iptr [.str c0.name, dI c0.lo, dI c0.hi] 0] R =
 (sel (decide (a0 < c0.lo))
 (R (dB true))
 (R (dB (decide (c0.hi < a0))))) := by kernel_rfl
theorem store_right_1_sat {r : D} (a0 : Int) (c0 : VarD) (h : (∀ d ∈ [dI a0, .iptr [.str c0.name, dI c0.lo, dI c0.hi] 0], okD d) → fnD Tryz.prog Ev store_right_1_A Tryz.f168.results.toList (bodyOf Tryz.f168) [dI a0, .iptr [.str c0.name, dI c0.lo, dI c0.hi] 0] fun d => d = r) : Sat Tryz.prog f_store_right_1 [dI a0, .iptr [.str c0.name, dI c0.lo, dI c0.hi] 0] r := by
  have h2 := sat_of (r := r) (args := [dI a0, .iptr [.str c0.name, dI c0.lo, dI c0.hi] 0]) (A := store_right_1_A) (fn := Tryz.f168) (body := bodyOf Tryz.f168) (f := f_store_right_1) factsEv Tryz.func168 (by kernel_rfl) (by rw [Tryz.ntmps168]; rfl) (by rw [Tryz.ntmps168]; exact Nat.le_of_ble_eq_true rfl)
  with_reducible exact h2 h
end Go.Proofs.YtgnjdgafkjohaaaGreat
