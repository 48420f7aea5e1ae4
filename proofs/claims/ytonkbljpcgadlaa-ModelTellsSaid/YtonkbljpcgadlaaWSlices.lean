/- What the functions of a package do, as equations of plain propositions: printed by a program that carries the code out on symbols. -/
import Derived.Test.YtonkbljpcgadlaaWEv
namespace Go.Proofs.Ytonkbljpcgadlaa
open Go.RowKit
set_option linter.unusedVariables false
set_option maxRecDepth 100000
/-! ### slices.Contains[[]int,int] -/
def slices_Contains_l_int_int_A : Ann := { own := [], live := [], n := 9, nils := [], pubs := [] }
theorem slices_Contains_l_int_int_eq (a0 : List Int) (a1 : Int) (R : D → Prop) : fnD Try.prog Ev slices_Contains_l_int_int_A Try.f64.results.toList (bodyOf Try.f64) [.sl .int a0, .int .i64 a1] R =
 (Call1 Try.prog f_slices_Index_l_int_int [.sl .int a0, .int .i64 a1] .int fun s1 =>
 R (.bool (decide (0 ≤ s1)))) := by kernel_rfl
theorem slices_Contains_l_int_int_sat {r : D} (a0 : List Int) (a1 : Int) (h : (∀ d ∈ [.sl .int a0, .int .i64 a1], okD d) → fnD Try.prog Ev slices_Contains_l_int_int_A Try.f64.results.toList (bodyOf Try.f64) [.sl .int a0, .int .i64 a1] fun d => d = r) : Sat Try.prog f_slices_Contains_l_int_int [.sl .int a0, .int .i64 a1] r := by
  have h2 := sat_of (r := r) (args := [.sl .int a0, .int .i64 a1]) (A := slices_Contains_l_int_int_A) (fn := Try.f64) (body := bodyOf Try.f64) (f := f_slices_Contains_l_int_int) factsEv Try.func64 (by kernel_rfl) (by rw [Try.ntmps64]; rfl) (by rw [Try.ntmps64]; exact Nat.le_of_ble_eq_true rfl)
  with_reducible exact h2 h
/-! ### slices.ContainsFunc[[]int,int] -/
def slices_ContainsFunc_l_int_int_A : Ann := { own := [], live := [], n := 9, nils := [], pubs := [] }
theorem slices_ContainsFunc_l_int_int_eq (a0 : List Int) (g1 : FuncId) (cap1 : List D) (R : D → Prop) : fnD Try.prog Ev slices_ContainsFunc_l_int_int_A Try.f65.results.toList (bodyOf Try.f65) [.sl .int a0, .clo g1 (some [.bool]) cap1] R =
 (Call1 Try.prog f_slices_IndexFunc_l_int_int [.sl .int a0, .clo g1 (some [.bool]) cap1] .int fun s1 =>
 R (.bool (decide (0 ≤ s1)))) := by kernel_rfl
theorem slices_ContainsFunc_l_int_int_sat {r : D} (a0 : List Int) (g1 : FuncId) (cap1 : List D) (h : (∀ d ∈ [.sl .int a0, .clo g1 (some [.bool]) cap1], okD d) → fnD Try.prog Ev slices_ContainsFunc_l_int_int_A Try.f65.results.toList (bodyOf Try.f65) [.sl .int a0, .clo g1 (some [.bool]) cap1] fun d => d = r) : Sat Try.prog f_slices_ContainsFunc_l_int_int [.sl .int a0, .clo g1 (some [.bool]) cap1] r := by
  have h2 := sat_of (r := r) (args := [.sl .int a0, .clo g1 (some [.bool]) cap1]) (A := slices_ContainsFunc_l_int_int_A) (fn := Try.f65) (body := bodyOf Try.f65) (f := f_slices_ContainsFunc_l_int_int) factsEv Try.func65 (by kernel_rfl) (by rw [Try.ntmps65]; rfl) (by rw [Try.ntmps65]; exact Nat.le_of_ble_eq_true rfl)
  with_reducible exact h2 h
/-! ### slices.ContainsFunc[cordon/api.Clause,cordon/api.Lit] -/
def slices_ContainsFunc_api_Clause_api_Lit_A : Ann := { own := [], live := [], n := 9, nils := [], pubs := [] }
theorem slices_ContainsFunc_api_Clause_api_Lit_eq (a0 : List LitD) (g1 : FuncId) (cap1 : List D) (R : D → Prop) : fnD Try.prog Ev slices_ContainsFunc_api_Clause_api_Lit_A Try.f86.results.toList (bodyOf Try.f86) [.sl .lit a0, .clo g1 (some [.bool]) cap1] R =
 (Call1 Try.prog f_slices_IndexFunc_api_Clause_api_Lit [.sl .lit a0, .clo g1 (some [.bool]) cap1] .int fun s1 =>
 R (.bool (decide (0 ≤ s1)))) := by kernel_rfl
theorem slices_ContainsFunc_api_Clause_api_Lit_sat {r : D} (a0 : List LitD) (g1 : FuncId) (cap1 : List D) (h : (∀ d ∈ [.sl .lit a0, .clo g1 (some [.bool]) cap1], okD d) → fnD Try.prog Ev slices_ContainsFunc_api_Clause_api_Lit_A Try.f86.results.toList (bodyOf Try.f86) [.sl .lit a0, .clo g1 (some [.bool]) cap1] fun d => d = r) : Sat Try.prog f_slices_ContainsFunc_api_Clause_api_Lit [.sl .lit a0, .clo g1 (some [.bool]) cap1] r := by
  have h2 := sat_of (r := r) (args := [.sl .lit a0, .clo g1 (some [.bool]) cap1]) (A := slices_ContainsFunc_api_Clause_api_Lit_A) (fn := Try.f86) (body := bodyOf Try.f86) (f := f_slices_ContainsFunc_api_Clause_api_Lit) factsEv Try.func86 (by kernel_rfl) (by rw [Try.ntmps86]; rfl) (by rw [Try.ntmps86]; exact Nat.le_of_ble_eq_true rfl)
  with_reducible exact h2 h
/-! ### slices.Index[[]int,int] -/
def slices_Index_l_int_int_A : Ann := { own := [], live := [(0, ([0, 1, 7, 8], []))], n := 19, nils := [], pubs := [] }
def slices_Index_l_int_int_I0 (a0 : List Int) (a1 : Int) (R : D → Prop) (n0 : Nat) (v1 : Int) : Prop := iter (den Try.prog Ev slices_Index_l_int_int_A (sub [1, 0, 1, 0, 0] (bodyOf Try.f111)) 0) slices_Index_l_int_int_A (liveOf slices_Index_l_int_int_A 0) n0 ⟨[(0, .sl .int a0), (1, .int .i64 a1), (7, .int .i64 (a0.length : Int)), (8, .int .i64 v1)], []⟩ (blockK 0 (seqK Try.prog Ev slices_Index_l_int_int_A (sub [1, 1] (bodyOf Try.f111)) 0 (endK Ev Try.f111.results.toList R)))
theorem slices_Index_l_int_int_I0_eq (a0 : List Int) (a1 : Int) (R : D → Prop) (n0 : Nat) (v1 : Int) : slices_Index_l_int_int_I0 a0 a1 R (n0 + 1) v1 =
 (sel (decide (v1 < (a0.length : Int)))
 (inb v1 a0.length = true ∧
 sel (decide (a1 = (at' .int a0 v1.toNat)))
 (R (.int .i64 v1))
 (slices_Index_l_int_int_I0 a0 a1 R n0 (w64 (v1 + 1))))
 (R (.int .i64 (-1)))) := by kernel_rfl
theorem slices_Index_l_int_int_eq (a0 : List Int) (a1 : Int) (R : D → Prop) : fnD Try.prog Ev slices_Index_l_int_int_A Try.f111.results.toList (bodyOf Try.f111) [.sl .int a0, .int .i64 a1] R =
 (∃ n0, slices_Index_l_int_int_I0 a0 a1 R n0 0) := by kernel_rfl
theorem slices_Index_l_int_int_sat {r : D} (a0 : List Int) (a1 : Int) (h : (∀ d ∈ [.sl .int a0, .int .i64 a1], okD d) → fnD Try.prog Ev slices_Index_l_int_int_A Try.f111.results.toList (bodyOf Try.f111) [.sl .int a0, .int .i64 a1] fun d => d = r) : Sat Try.prog f_slices_Index_l_int_int [.sl .int a0, .int .i64 a1] r := by
  have h2 := sat_of (r := r) (args := [.sl .int a0, .int .i64 a1]) (A := slices_Index_l_int_int_A) (fn := Try.f111) (body := bodyOf Try.f111) (f := f_slices_Index_l_int_int) factsEv Try.func111 (by kernel_rfl) (by rw [Try.ntmps111]; rfl) (by rw [Try.ntmps111]; exact Nat.le_of_ble_eq_true rfl)
  with_reducible exact h2 h
/-! ### slices.IndexFunc[[]int,int] -/
def slices_IndexFunc_l_int_int_A : Ann := { own := [], live := [(0, ([0, 1, 7, 8], []))], n := 19, nils := [], pubs := [] }
def slices_IndexFunc_l_int_int_I0 (a0 : List Int) (g1 : FuncId) (cap1 : List D) (R : D → Prop) (n0 : Nat) (v1 : Int) : Prop := iter (den Try.prog Ev slices_IndexFunc_l_int_int_A (sub [1, 0, 1, 0, 0] (bodyOf Try.f112)) 0) slices_IndexFunc_l_int_int_A (liveOf slices_IndexFunc_l_int_int_A 0) n0 ⟨[(0, .sl .int a0), (1, .clo g1 (some [.bool]) cap1), (7, .int .i64 (a0.length : Int)), (8, .int .i64 v1)], []⟩ (blockK 0 (seqK Try.prog Ev slices_IndexFunc_l_int_int_A (sub [1, 1] (bodyOf Try.f112)) 0 (endK Ev Try.f112.results.toList R)))
theorem slices_IndexFunc_l_int_int_I0_eq (a0 : List Int) (g1 : FuncId) (cap1 : List D) (R : D → Prop) (n0 : Nat) (v1 : Int) : slices_IndexFunc_l_int_int_I0 a0 g1 cap1 R (n0 + 1) v1 =
 (sel (decide (v1 < (a0.length : Int)))
 (inb v1 a0.length = true ∧
 Ent Try.prog g1 ∧
 Call1 Try.prog g1 ([.int .i64 (at' .int a0 v1.toNat)] ++ cap1) .bool fun r2 =>
 sel r2
 (R (.int .i64 v1))
 (slices_IndexFunc_l_int_int_I0 a0 g1 cap1 R n0 (w64 (v1 + 1))))
 (R (.int .i64 (-1)))) := by kernel_rfl
theorem slices_IndexFunc_l_int_int_eq (a0 : List Int) (g1 : FuncId) (cap1 : List D) (R : D → Prop) : fnD Try.prog Ev slices_IndexFunc_l_int_int_A Try.f112.results.toList (bodyOf Try.f112) [.sl .int a0, .clo g1 (some [.bool]) cap1] R =
 (∃ n0, slices_IndexFunc_l_int_int_I0 a0 g1 cap1 R n0 0) := by kernel_rfl
theorem slices_IndexFunc_l_int_int_sat {r : D} (a0 : List Int) (g1 : FuncId) (cap1 : List D) (h : (∀ d ∈ [.sl .int a0, .clo g1 (some [.bool]) cap1], okD d) → fnD Try.prog Ev slices_IndexFunc_l_int_int_A Try.f112.results.toList (bodyOf Try.f112) [.sl .int a0, .clo g1 (some [.bool]) cap1] fun d => d = r) : Sat Try.prog f_slices_IndexFunc_l_int_int [.sl .int a0, .clo g1 (some [.bool]) cap1] r := by
  have h2 := sat_of (r := r) (args := [.sl .int a0, .clo g1 (some [.bool]) cap1]) (A := slices_IndexFunc_l_int_int_A) (fn := Try.f112) (body := bodyOf Try.f112) (f := f_slices_IndexFunc_l_int_int) factsEv Try.func112 (by kernel_rfl) (by rw [Try.ntmps112]; rfl) (by rw [Try.ntmps112]; exact Nat.le_of_ble_eq_true rfl)
  with_reducible exact h2 h
/-! ### slices.ContainsFunc[cordon/api.Store,[]int] -/
def slices_ContainsFunc_api_Store_int_A : Ann := { own := [], live := [], n := 9, nils := [], pubs := [] }
theorem slices_ContainsFunc_api_Store_int_eq (a0 : List (List Int)) (g1 : FuncId) (cap1 : List D) (R : D → Prop) : fnD Try.prog Ev slices_ContainsFunc_api_Store_int_A Try.f113.results.toList (bodyOf Try.f113) [.sl (.list .int) a0, .clo g1 (some [.bool]) cap1] R =
 (Call1 Try.prog f_slices_IndexFunc_api_Store_int [.sl (.list .int) a0, .clo g1 (some [.bool]) cap1] .int fun s1 =>
 R (.bool (decide (0 ≤ s1)))) := by kernel_rfl
theorem slices_ContainsFunc_api_Store_int_sat {r : D} (a0 : List (List Int)) (g1 : FuncId) (cap1 : List D) (h : (∀ d ∈ [.sl (.list .int) a0, .clo g1 (some [.bool]) cap1], okD d) → fnD Try.prog Ev slices_ContainsFunc_api_Store_int_A Try.f113.results.toList (bodyOf Try.f113) [.sl (.list .int) a0, .clo g1 (some [.bool]) cap1] fun d => d = r) : Sat Try.prog f_slices_ContainsFunc_api_Store_int [.sl (.list .int) a0, .clo g1 (some [.bool]) cap1] r := by
  have h2 := sat_of (r := r) (args := [.sl (.list .int) a0, .clo g1 (some [.bool]) cap1]) (A := slices_ContainsFunc_api_Store_int_A) (fn := Try.f113) (body := bodyOf Try.f113) (f := f_slices_ContainsFunc_api_Store_int) factsEv Try.func113 (by kernel_rfl) (by rw [Try.ntmps113]; rfl) (by rw [Try.ntmps113]; exact Nat.le_of_ble_eq_true rfl)
  with_reducible exact h2 h
/-! ### slices.IndexFunc[cordon/api.Clause,cordon/api.Lit] -/
def slices_IndexFunc_api_Clause_api_Lit_A : Ann := { own := [], live := [(0, ([0, 1, 7, 8], []))], n := 19, nils := [], pubs := [] }
def slices_IndexFunc_api_Clause_api_Lit_I0 (a0 : List LitD) (g1 : FuncId) (cap1 : List D) (R : D → Prop) (n0 : Nat) (v1 : Int) : Prop := iter (den Try.prog Ev slices_IndexFunc_api_Clause_api_Lit_A (sub [1, 0, 1, 0, 0] (bodyOf Try.f126)) 0) slices_IndexFunc_api_Clause_api_Lit_A (liveOf slices_IndexFunc_api_Clause_api_Lit_A 0) n0 ⟨[(0, .sl .lit a0), (1, .clo g1 (some [.bool]) cap1), (7, .int .i64 (a0.length : Int)), (8, .int .i64 v1)], []⟩ (blockK 0 (seqK Try.prog Ev slices_IndexFunc_api_Clause_api_Lit_A (sub [1, 1] (bodyOf Try.f126)) 0 (endK Ev Try.f126.results.toList R)))
theorem slices_IndexFunc_api_Clause_api_Lit_I0_eq (a0 : List LitD) (g1 : FuncId) (cap1 : List D) (R : D → Prop) (n0 : Nat) (v1 : Int) : slices_IndexFunc_api_Clause_api_Lit_I0 a0 g1 cap1 R (n0 + 1) v1 =
 (sel (decide (v1 < (a0.length : Int)))
 (inb v1 a0.length = true ∧
 Ent Try.prog g1 ∧
 Call1 Try.prog g1 ([.agg [.int .i64 ((at' .lit a0 v1.toNat).var), .int .i64 ((at' .lit a0 v1.toNat).op), .int .i64 ((at' .lit a0 v1.toNat).n)]] ++ cap1) .bool fun r2 =>
 sel r2
 (R (.int .i64 v1))
 (slices_IndexFunc_api_Clause_api_Lit_I0 a0 g1 cap1 R n0 (w64 (v1 + 1))))
 (R (.int .i64 (-1)))) := by kernel_rfl
theorem slices_IndexFunc_api_Clause_api_Lit_eq (a0 : List LitD) (g1 : FuncId) (cap1 : List D) (R : D → Prop) : fnD Try.prog Ev slices_IndexFunc_api_Clause_api_Lit_A Try.f126.results.toList (bodyOf Try.f126) [.sl .lit a0, .clo g1 (some [.bool]) cap1] R =
 (∃ n0, slices_IndexFunc_api_Clause_api_Lit_I0 a0 g1 cap1 R n0 0) := by kernel_rfl
theorem slices_IndexFunc_api_Clause_api_Lit_sat {r : D} (a0 : List LitD) (g1 : FuncId) (cap1 : List D) (h : (∀ d ∈ [.sl .lit a0, .clo g1 (some [.bool]) cap1], okD d) → fnD Try.prog Ev slices_IndexFunc_api_Clause_api_Lit_A Try.f126.results.toList (bodyOf Try.f126) [.sl .lit a0, .clo g1 (some [.bool]) cap1] fun d => d = r) : Sat Try.prog f_slices_IndexFunc_api_Clause_api_Lit [.sl .lit a0, .clo g1 (some [.bool]) cap1] r := by
  have h2 := sat_of (r := r) (args := [.sl .lit a0, .clo g1 (some [.bool]) cap1]) (A := slices_IndexFunc_api_Clause_api_Lit_A) (fn := Try.f126) (body := bodyOf Try.f126) (f := f_slices_IndexFunc_api_Clause_api_Lit) factsEv Try.func126 (by kernel_rfl) (by rw [Try.ntmps126]; rfl) (by rw [Try.ntmps126]; exact Nat.le_of_ble_eq_true rfl)
  with_reducible exact h2 h
/-! ### slices.Clone[[]int,int] -/
def slices_Clone_l_int_int_A : Ann := { own := [2, 5, 7], live := [], n := 8, nils := [], pubs := [] }
theorem slices_Clone_l_int_int_eq (s0 : List Int) (R : D → List (Nat × HObj) → Prop) : fnH Try.prog Ev slices_Clone_l_int_int_A Try.f127.results.toList (bodyOf Try.f127) [.sl .int s0] [] [] true R =
 (∀ b1 : Bool, (b1 = true → s0 = []) →
 sel b1
 (R (.own 3000) [(3000, .row 3 .int ([] : List Int))])
 (room .int (([] : List Int).length + s0.length) = true ∧
 R (.own 3000) [(3000, .row 3 .int (([] : List Int) ++ s0))])) := by kernel_rfl
theorem slices_Clone_l_int_int_sat {r : D} {h0 : List (Nat × HObj)} (s0 : List Int) (h : (∀ d ∈ [.sl .int s0], okD d) → (∀ k o, look k [] = some o → okO o) → fnH Try.prog Ev slices_Clone_l_int_int_A Try.f127.results.toList (bodyOf Try.f127) [.sl .int s0] [] [] true fun d h1 => d = r ∧ h1 = h0) : SatH Try.prog f_slices_Clone_l_int_int [.sl .int s0] [] r h0 := by
  have h2 := satH_of (r := r) (hp := []) (hp' := h0) (roots := []) (args := [.sl .int s0]) (A := slices_Clone_l_int_int_A) (fn := Try.f127) (body := bodyOf Try.f127) (f := f_slices_Clone_l_int_int) (own := true) factsEv Try.func127 (by kernel_rfl) (by rw [Try.ntmps127]; rfl) (by rw [Try.ntmps127]; exact Nat.le_of_ble_eq_true rfl)
  with_reducible exact h2 h
/-! ### slices.ContainsFunc[[]cordon/api.Var,cordon/api.Var] -/
def slices_ContainsFunc_l_api_Var_api_Var_A : Ann := { own := [], live := [], n := 9, nils := [], pubs := [] }
theorem slices_ContainsFunc_l_api_Var_api_Var_eq (a0 : List VarD) (g1 : FuncId) (cap1 : List D) (R : D → Prop) : fnD Try.prog Ev slices_ContainsFunc_l_api_Var_api_Var_A Try.f134.results.toList (bodyOf Try.f134) [.sl .var a0, .clo g1 (some [.bool]) cap1] R =
 (Call1 Try.prog f_slices_IndexFunc_l_api_Var_api_Var [.sl .var a0, .clo g1 (some [.bool]) cap1] .int fun s1 =>
 R (.bool (decide (0 ≤ s1)))) := by kernel_rfl
theorem slices_ContainsFunc_l_api_Var_api_Var_sat {r : D} (a0 : List VarD) (g1 : FuncId) (cap1 : List D) (h : (∀ d ∈ [.sl .var a0, .clo g1 (some [.bool]) cap1], okD d) → fnD Try.prog Ev slices_ContainsFunc_l_api_Var_api_Var_A Try.f134.results.toList (bodyOf Try.f134) [.sl .var a0, .clo g1 (some [.bool]) cap1] fun d => d = r) : Sat Try.prog f_slices_ContainsFunc_l_api_Var_api_Var [.sl .var a0, .clo g1 (some [.bool]) cap1] r := by
  have h2 := sat_of (r := r) (args := [.sl .var a0, .clo g1 (some [.bool]) cap1]) (A := slices_ContainsFunc_l_api_Var_api_Var_A) (fn := Try.f134) (body := bodyOf Try.f134) (f := f_slices_ContainsFunc_l_api_Var_api_Var) factsEv Try.func134 (by kernel_rfl) (by rw [Try.ntmps134]; rfl) (by rw [Try.ntmps134]; exact Nat.le_of_ble_eq_true rfl)
  with_reducible exact h2 h
/-! ### slices.ContainsFunc[[]cordon/api.Lit,cordon/api.Lit] -/
def slices_ContainsFunc_l_api_Lit_api_Lit_A : Ann := { own := [], live := [], n := 9, nils := [], pubs := [] }
theorem slices_ContainsFunc_l_api_Lit_api_Lit_eq (a0 : List LitD) (g1 : FuncId) (cap1 : List D) (R : D → Prop) : fnD Try.prog Ev slices_ContainsFunc_l_api_Lit_api_Lit_A Try.f139.results.toList (bodyOf Try.f139) [.sl .lit a0, .clo g1 (some [.bool]) cap1] R =
 (Call1 Try.prog f_slices_IndexFunc_l_api_Lit_api_Lit [.sl .lit a0, .clo g1 (some [.bool]) cap1] .int fun s1 =>
 R (.bool (decide (0 ≤ s1)))) := by kernel_rfl
theorem slices_ContainsFunc_l_api_Lit_api_Lit_sat {r : D} (a0 : List LitD) (g1 : FuncId) (cap1 : List D) (h : (∀ d ∈ [.sl .lit a0, .clo g1 (some [.bool]) cap1], okD d) → fnD Try.prog Ev slices_ContainsFunc_l_api_Lit_api_Lit_A Try.f139.results.toList (bodyOf Try.f139) [.sl .lit a0, .clo g1 (some [.bool]) cap1] fun d => d = r) : Sat Try.prog f_slices_ContainsFunc_l_api_Lit_api_Lit [.sl .lit a0, .clo g1 (some [.bool]) cap1] r := by
  have h2 := sat_of (r := r) (args := [.sl .lit a0, .clo g1 (some [.bool]) cap1]) (A := slices_ContainsFunc_l_api_Lit_api_Lit_A) (fn := Try.f139) (body := bodyOf Try.f139) (f := f_slices_ContainsFunc_l_api_Lit_api_Lit) factsEv Try.func139 (by kernel_rfl) (by rw [Try.ntmps139]; rfl) (by rw [Try.ntmps139]; exact Nat.le_of_ble_eq_true rfl)
  with_reducible exact h2 h
/-! ### slices.ContainsFunc[[][]int,[]int] -/
def slices_ContainsFunc_rows_int_int_A : Ann := { own := [], live := [], n := 9, nils := [], pubs := [] }
theorem slices_ContainsFunc_rows_int_int_eq (a0 : List (List Int)) (g1 : FuncId) (cap1 : List D) (R : D → Prop) : fnD Try.prog Ev slices_ContainsFunc_rows_int_int_A Try.f141.results.toList (bodyOf Try.f141) [.sl (.list .int) a0, .clo g1 (some [.bool]) cap1] R =
 (Call1 Try.prog f_slices_IndexFunc_rows_int_int [.sl (.list .int) a0, .clo g1 (some [.bool]) cap1] .int fun s1 =>
 R (.bool (decide (0 ≤ s1)))) := by kernel_rfl
theorem slices_ContainsFunc_rows_int_int_sat {r : D} (a0 : List (List Int)) (g1 : FuncId) (cap1 : List D) (h : (∀ d ∈ [.sl (.list .int) a0, .clo g1 (some [.bool]) cap1], okD d) → fnD Try.prog Ev slices_ContainsFunc_rows_int_int_A Try.f141.results.toList (bodyOf Try.f141) [.sl (.list .int) a0, .clo g1 (some [.bool]) cap1] fun d => d = r) : Sat Try.prog f_slices_ContainsFunc_rows_int_int [.sl (.list .int) a0, .clo g1 (some [.bool]) cap1] r := by
  have h2 := sat_of (r := r) (args := [.sl (.list .int) a0, .clo g1 (some [.bool]) cap1]) (A := slices_ContainsFunc_rows_int_int_A) (fn := Try.f141) (body := bodyOf Try.f141) (f := f_slices_ContainsFunc_rows_int_int) factsEv Try.func141 (by kernel_rfl) (by rw [Try.ntmps141]; rfl) (by rw [Try.ntmps141]; exact Nat.le_of_ble_eq_true rfl)
  with_reducible exact h2 h
/-! ### slices.IndexFunc[cordon/api.Store,[]int] -/
def slices_IndexFunc_api_Store_int_A : Ann := { own := [], live := [(0, ([0, 1, 7, 8], []))], n := 19, nils := [], pubs := [] }
def slices_IndexFunc_api_Store_int_I0 (a0 : List (List Int)) (g1 : FuncId) (cap1 : List D) (R : D → Prop) (n0 : Nat) (v1 : Int) : Prop := iter (den Try.prog Ev slices_IndexFunc_api_Store_int_A (sub [1, 0, 1, 0, 0] (bodyOf Try.f149)) 0) slices_IndexFunc_api_Store_int_A (liveOf slices_IndexFunc_api_Store_int_A 0) n0 ⟨[(0, .sl (.list .int) a0), (1, .clo g1 (some [.bool]) cap1), (7, .int .i64 (a0.length : Int)), (8, .int .i64 v1)], []⟩ (blockK 0 (seqK Try.prog Ev slices_IndexFunc_api_Store_int_A (sub [1, 1] (bodyOf Try.f149)) 0 (endK Ev Try.f149.results.toList R)))
theorem slices_IndexFunc_api_Store_int_I0_eq (a0 : List (List Int)) (g1 : FuncId) (cap1 : List D) (R : D → Prop) (n0 : Nat) (v1 : Int) : slices_IndexFunc_api_Store_int_I0 a0 g1 cap1 R (n0 + 1) v1 =
 (sel (decide (v1 < (a0.length : Int)))
 (inb v1 a0.length = true ∧
 Ent Try.prog g1 ∧
 Call1 Try.prog g1 ([.sl .int (at' (.list .int) a0 v1.toNat)] ++ cap1) .bool fun r2 =>
 sel r2
 (R (.int .i64 v1))
 (slices_IndexFunc_api_Store_int_I0 a0 g1 cap1 R n0 (w64 (v1 + 1))))
 (R (.int .i64 (-1)))) := by kernel_rfl
theorem slices_IndexFunc_api_Store_int_eq (a0 : List (List Int)) (g1 : FuncId) (cap1 : List D) (R : D → Prop) : fnD Try.prog Ev slices_IndexFunc_api_Store_int_A Try.f149.results.toList (bodyOf Try.f149) [.sl (.list .int) a0, .clo g1 (some [.bool]) cap1] R =
 (∃ n0, slices_IndexFunc_api_Store_int_I0 a0 g1 cap1 R n0 0) := by kernel_rfl
theorem slices_IndexFunc_api_Store_int_sat {r : D} (a0 : List (List Int)) (g1 : FuncId) (cap1 : List D) (h : (∀ d ∈ [.sl (.list .int) a0, .clo g1 (some [.bool]) cap1], okD d) → fnD Try.prog Ev slices_IndexFunc_api_Store_int_A Try.f149.results.toList (bodyOf Try.f149) [.sl (.list .int) a0, .clo g1 (some [.bool]) cap1] fun d => d = r) : Sat Try.prog f_slices_IndexFunc_api_Store_int [.sl (.list .int) a0, .clo g1 (some [.bool]) cap1] r := by
  have h2 := sat_of (r := r) (args := [.sl (.list .int) a0, .clo g1 (some [.bool]) cap1]) (A := slices_IndexFunc_api_Store_int_A) (fn := Try.f149) (body := bodyOf Try.f149) (f := f_slices_IndexFunc_api_Store_int) factsEv Try.func149 (by kernel_rfl) (by rw [Try.ntmps149]; rfl) (by rw [Try.ntmps149]; exact Nat.le_of_ble_eq_true rfl)
  with_reducible exact h2 h
/-! ### slices.Equal[[]int,int] -/
def slices_Equal_l_int_int_A : Ann := { own := [], live := [(0, ([0, 1, 12, 13], []))], n := 26, nils := [], pubs := [] }
def slices_Equal_l_int_int_I0 (a0 : List Int) (a1 : List Int) (R : D → Prop) (n0 : Nat) (v1 : Int) : Prop := iter (den Try.prog Ev slices_Equal_l_int_int_A (sub [1, 1, 0, 1, 0, 0] (bodyOf Try.f156)) 0) slices_Equal_l_int_int_A (liveOf slices_Equal_l_int_int_A 0) n0 ⟨[(0, .sl .int a0), (1, .sl .int a1), (12, .int .i64 (a0.length : Int)), (13, .int .i64 v1)], []⟩ (blockK 0 (seqK Try.prog Ev slices_Equal_l_int_int_A (sub [1, 1, 1] (bodyOf Try.f156)) 0 (endK Ev Try.f156.results.toList R)))
theorem slices_Equal_l_int_int_I0_eq (a0 : List Int) (a1 : List Int) (R : D → Prop) (n0 : Nat) (v1 : Int) : slices_Equal_l_int_int_I0 a0 a1 R (n0 + 1) v1 =
 (sel (decide (v1 < (a0.length : Int)))
 (inb v1 a0.length = true ∧
 inb v1 a1.length = true ∧
 sel (!decide ((at' .int a0 v1.toNat) = (at' .int a1 v1.toNat)))
 (R (.bool false))
 (slices_Equal_l_int_int_I0 a0 a1 R n0 (w64 (v1 + 1))))
 (R (.bool true))) := by kernel_rfl
theorem slices_Equal_l_int_int_eq (a0 : List Int) (a1 : List Int) (R : D → Prop) : fnD Try.prog Ev slices_Equal_l_int_int_A Try.f156.results.toList (bodyOf Try.f156) [.sl .int a0, .sl .int a1] R =
 (sel (!decide ((a0.length : Int) = (a1.length : Int)))
 (R (.bool false))
 (∃ n0, slices_Equal_l_int_int_I0 a0 a1 R n0 0)) := by kernel_rfl
theorem slices_Equal_l_int_int_sat {r : D} (a0 : List Int) (a1 : List Int) (h : (∀ d ∈ [.sl .int a0, .sl .int a1], okD d) → fnD Try.prog Ev slices_Equal_l_int_int_A Try.f156.results.toList (bodyOf Try.f156) [.sl .int a0, .sl .int a1] fun d => d = r) : Sat Try.prog f_slices_Equal_l_int_int [.sl .int a0, .sl .int a1] r := by
  have h2 := sat_of (r := r) (args := [.sl .int a0, .sl .int a1]) (A := slices_Equal_l_int_int_A) (fn := Try.f156) (body := bodyOf Try.f156) (f := f_slices_Equal_l_int_int) factsEv Try.func156 (by kernel_rfl) (by rw [Try.ntmps156]; rfl) (by rw [Try.ntmps156]; exact Nat.le_of_ble_eq_true rfl)
  with_reducible exact h2 h
/-! ### slices.ContainsFunc[[]cordon/api.Con,cordon/api.Con] -/
def slices_ContainsFunc_l_api_Con_api_Con_A : Ann := { own := [], live := [], n := 9, nils := [], pubs := [] }
theorem slices_ContainsFunc_l_api_Con_api_Con_eq (a0 : List ConD) (g1 : FuncId) (cap1 : List D) (R : D → Prop) : fnD Try.prog Ev slices_ContainsFunc_l_api_Con_api_Con_A Try.f157.results.toList (bodyOf Try.f157) [.sl .con a0, .clo g1 (some [.bool]) cap1] R =
 (Call1 Try.prog f_slices_IndexFunc_l_api_Con_api_Con [.sl .con a0, .clo g1 (some [.bool]) cap1] .int fun s1 =>
 R (.bool (decide (0 ≤ s1)))) := by kernel_rfl
theorem slices_ContainsFunc_l_api_Con_api_Con_sat {r : D} (a0 : List ConD) (g1 : FuncId) (cap1 : List D) (h : (∀ d ∈ [.sl .con a0, .clo g1 (some [.bool]) cap1], okD d) → fnD Try.prog Ev slices_ContainsFunc_l_api_Con_api_Con_A Try.f157.results.toList (bodyOf Try.f157) [.sl .con a0, .clo g1 (some [.bool]) cap1] fun d => d = r) : Sat Try.prog f_slices_ContainsFunc_l_api_Con_api_Con [.sl .con a0, .clo g1 (some [.bool]) cap1] r := by
  have h2 := sat_of (r := r) (args := [.sl .con a0, .clo g1 (some [.bool]) cap1]) (A := slices_ContainsFunc_l_api_Con_api_Con_A) (fn := Try.f157) (body := bodyOf Try.f157) (f := f_slices_ContainsFunc_l_api_Con_api_Con) factsEv Try.func157 (by kernel_rfl) (by rw [Try.ntmps157]; rfl) (by rw [Try.ntmps157]; exact Nat.le_of_ble_eq_true rfl)
  with_reducible exact h2 h
/-! ### slices.IndexFunc[[]cordon/api.Var,cordon/api.Var] -/
def slices_IndexFunc_l_api_Var_api_Var_A : Ann := { own := [], live := [(0, ([0, 1, 7, 8], []))], n := 19, nils := [], pubs := [] }
def slices_IndexFunc_l_api_Var_api_Var_I0 (a0 : List VarD) (g1 : FuncId) (cap1 : List D) (R : D → Prop) (n0 : Nat) (v1 : Int) : Prop := iter (den Try.prog Ev slices_IndexFunc_l_api_Var_api_Var_A (sub [1, 0, 1, 0, 0] (bodyOf Try.f162)) 0) slices_IndexFunc_l_api_Var_api_Var_A (liveOf slices_IndexFunc_l_api_Var_api_Var_A 0) n0 ⟨[(0, .sl .var a0), (1, .clo g1 (some [.bool]) cap1), (7, .int .i64 (a0.length : Int)), (8, .int .i64 v1)], []⟩ (blockK 0 (seqK Try.prog Ev slices_IndexFunc_l_api_Var_api_Var_A (sub [1, 1] (bodyOf Try.f162)) 0 (endK Ev Try.f162.results.toList R)))
theorem slices_IndexFunc_l_api_Var_api_Var_I0_eq (a0 : List VarD) (g1 : FuncId) (cap1 : List D) (R : D → Prop) (n0 : Nat) (v1 : Int) : slices_IndexFunc_l_api_Var_api_Var_I0 a0 g1 cap1 R (n0 + 1) v1 =
 (sel (decide (v1 < (a0.length : Int)))
 (inb v1 a0.length = true ∧
 Ent Try.prog g1 ∧
 Call1 Try.prog g1 ([.agg [.str ((at' .var a0 v1.toNat).name), .int .i64 ((at' .var a0 v1.toNat).lo), .int .i64 ((at' .var a0 v1.toNat).hi)]] ++ cap1) .bool fun r2 =>
 sel r2
 (R (.int .i64 v1))
 (slices_IndexFunc_l_api_Var_api_Var_I0 a0 g1 cap1 R n0 (w64 (v1 + 1))))
 (R (.int .i64 (-1)))) := by kernel_rfl
theorem slices_IndexFunc_l_api_Var_api_Var_eq (a0 : List VarD) (g1 : FuncId) (cap1 : List D) (R : D → Prop) : fnD Try.prog Ev slices_IndexFunc_l_api_Var_api_Var_A Try.f162.results.toList (bodyOf Try.f162) [.sl .var a0, .clo g1 (some [.bool]) cap1] R =
 (∃ n0, slices_IndexFunc_l_api_Var_api_Var_I0 a0 g1 cap1 R n0 0) := by kernel_rfl
theorem slices_IndexFunc_l_api_Var_api_Var_sat {r : D} (a0 : List VarD) (g1 : FuncId) (cap1 : List D) (h : (∀ d ∈ [.sl .var a0, .clo g1 (some [.bool]) cap1], okD d) → fnD Try.prog Ev slices_IndexFunc_l_api_Var_api_Var_A Try.f162.results.toList (bodyOf Try.f162) [.sl .var a0, .clo g1 (some [.bool]) cap1] fun d => d = r) : Sat Try.prog f_slices_IndexFunc_l_api_Var_api_Var [.sl .var a0, .clo g1 (some [.bool]) cap1] r := by
  have h2 := sat_of (r := r) (args := [.sl .var a0, .clo g1 (some [.bool]) cap1]) (A := slices_IndexFunc_l_api_Var_api_Var_A) (fn := Try.f162) (body := bodyOf Try.f162) (f := f_slices_IndexFunc_l_api_Var_api_Var) factsEv Try.func162 (by kernel_rfl) (by rw [Try.ntmps162]; rfl) (by rw [Try.ntmps162]; exact Nat.le_of_ble_eq_true rfl)
  with_reducible exact h2 h
/-! ### slices.IndexFunc[[]cordon/api.Lit,cordon/api.Lit] -/
def slices_IndexFunc_l_api_Lit_api_Lit_A : Ann := { own := [], live := [(0, ([0, 1, 7, 8], []))], n := 19, nils := [], pubs := [] }
def slices_IndexFunc_l_api_Lit_api_Lit_I0 (a0 : List LitD) (g1 : FuncId) (cap1 : List D) (R : D → Prop) (n0 : Nat) (v1 : Int) : Prop := iter (den Try.prog Ev slices_IndexFunc_l_api_Lit_api_Lit_A (sub [1, 0, 1, 0, 0] (bodyOf Try.f166)) 0) slices_IndexFunc_l_api_Lit_api_Lit_A (liveOf slices_IndexFunc_l_api_Lit_api_Lit_A 0) n0 ⟨[(0, .sl .lit a0), (1, .clo g1 (some [.bool]) cap1), (7, .int .i64 (a0.length : Int)), (8, .int .i64 v1)], []⟩ (blockK 0 (seqK Try.prog Ev slices_IndexFunc_l_api_Lit_api_Lit_A (sub [1, 1] (bodyOf Try.f166)) 0 (endK Ev Try.f166.results.toList R)))
theorem slices_IndexFunc_l_api_Lit_api_Lit_I0_eq (a0 : List LitD) (g1 : FuncId) (cap1 : List D) (R : D → Prop) (n0 : Nat) (v1 : Int) : slices_IndexFunc_l_api_Lit_api_Lit_I0 a0 g1 cap1 R (n0 + 1) v1 =
 (sel (decide (v1 < (a0.length : Int)))
 (inb v1 a0.length = true ∧
 Ent Try.prog g1 ∧
 Call1 Try.prog g1 ([.agg [.int .i64 ((at' .lit a0 v1.toNat).var), .int .i64 ((at' .lit a0 v1.toNat).op), .int .i64 ((at' .lit a0 v1.toNat).n)]] ++ cap1) .bool fun r2 =>
 sel r2
 (R (.int .i64 v1))
 (slices_IndexFunc_l_api_Lit_api_Lit_I0 a0 g1 cap1 R n0 (w64 (v1 + 1))))
 (R (.int .i64 (-1)))) := by kernel_rfl
theorem slices_IndexFunc_l_api_Lit_api_Lit_eq (a0 : List LitD) (g1 : FuncId) (cap1 : List D) (R : D → Prop) : fnD Try.prog Ev slices_IndexFunc_l_api_Lit_api_Lit_A Try.f166.results.toList (bodyOf Try.f166) [.sl .lit a0, .clo g1 (some [.bool]) cap1] R =
 (∃ n0, slices_IndexFunc_l_api_Lit_api_Lit_I0 a0 g1 cap1 R n0 0) := by kernel_rfl
theorem slices_IndexFunc_l_api_Lit_api_Lit_sat {r : D} (a0 : List LitD) (g1 : FuncId) (cap1 : List D) (h : (∀ d ∈ [.sl .lit a0, .clo g1 (some [.bool]) cap1], okD d) → fnD Try.prog Ev slices_IndexFunc_l_api_Lit_api_Lit_A Try.f166.results.toList (bodyOf Try.f166) [.sl .lit a0, .clo g1 (some [.bool]) cap1] fun d => d = r) : Sat Try.prog f_slices_IndexFunc_l_api_Lit_api_Lit [.sl .lit a0, .clo g1 (some [.bool]) cap1] r := by
  have h2 := sat_of (r := r) (args := [.sl .lit a0, .clo g1 (some [.bool]) cap1]) (A := slices_IndexFunc_l_api_Lit_api_Lit_A) (fn := Try.f166) (body := bodyOf Try.f166) (f := f_slices_IndexFunc_l_api_Lit_api_Lit) factsEv Try.func166 (by kernel_rfl) (by rw [Try.ntmps166]; rfl) (by rw [Try.ntmps166]; exact Nat.le_of_ble_eq_true rfl)
  with_reducible exact h2 h
/-! ### slices.IndexFunc[[][]int,[]int] -/
def slices_IndexFunc_rows_int_int_A : Ann := { own := [], live := [(0, ([0, 1, 7, 8], []))], n := 19, nils := [], pubs := [] }
def slices_IndexFunc_rows_int_int_I0 (a0 : List (List Int)) (g1 : FuncId) (cap1 : List D) (R : D → Prop) (n0 : Nat) (v1 : Int) : Prop := iter (den Try.prog Ev slices_IndexFunc_rows_int_int_A (sub [1, 0, 1, 0, 0] (bodyOf Try.f167)) 0) slices_IndexFunc_rows_int_int_A (liveOf slices_IndexFunc_rows_int_int_A 0) n0 ⟨[(0, .sl (.list .int) a0), (1, .clo g1 (some [.bool]) cap1), (7, .int .i64 (a0.length : Int)), (8, .int .i64 v1)], []⟩ (blockK 0 (seqK Try.prog Ev slices_IndexFunc_rows_int_int_A (sub [1, 1] (bodyOf Try.f167)) 0 (endK Ev Try.f167.results.toList R)))
theorem slices_IndexFunc_rows_int_int_I0_eq (a0 : List (List Int)) (g1 : FuncId) (cap1 : List D) (R : D → Prop) (n0 : Nat) (v1 : Int) : slices_IndexFunc_rows_int_int_I0 a0 g1 cap1 R (n0 + 1) v1 =
 (sel (decide (v1 < (a0.length : Int)))
 (inb v1 a0.length = true ∧
 Ent Try.prog g1 ∧
 Call1 Try.prog g1 ([.sl .int (at' (.list .int) a0 v1.toNat)] ++ cap1) .bool fun r2 =>
 sel r2
 (R (.int .i64 v1))
 (slices_IndexFunc_rows_int_int_I0 a0 g1 cap1 R n0 (w64 (v1 + 1))))
 (R (.int .i64 (-1)))) := by kernel_rfl
theorem slices_IndexFunc_rows_int_int_eq (a0 : List (List Int)) (g1 : FuncId) (cap1 : List D) (R : D → Prop) : fnD Try.prog Ev slices_IndexFunc_rows_int_int_A Try.f167.results.toList (bodyOf Try.f167) [.sl (.list .int) a0, .clo g1 (some [.bool]) cap1] R =
 (∃ n0, slices_IndexFunc_rows_int_int_I0 a0 g1 cap1 R n0 0) := by kernel_rfl
theorem slices_IndexFunc_rows_int_int_sat {r : D} (a0 : List (List Int)) (g1 : FuncId) (cap1 : List D) (h : (∀ d ∈ [.sl (.list .int) a0, .clo g1 (some [.bool]) cap1], okD d) → fnD Try.prog Ev slices_IndexFunc_rows_int_int_A Try.f167.results.toList (bodyOf Try.f167) [.sl (.list .int) a0, .clo g1 (some [.bool]) cap1] fun d => d = r) : Sat Try.prog f_slices_IndexFunc_rows_int_int [.sl (.list .int) a0, .clo g1 (some [.bool]) cap1] r := by
  have h2 := sat_of (r := r) (args := [.sl (.list .int) a0, .clo g1 (some [.bool]) cap1]) (A := slices_IndexFunc_rows_int_int_A) (fn := Try.f167) (body := bodyOf Try.f167) (f := f_slices_IndexFunc_rows_int_int) factsEv Try.func167 (by kernel_rfl) (by rw [Try.ntmps167]; rfl) (by rw [Try.ntmps167]; exact Nat.le_of_ble_eq_true rfl)
  with_reducible exact h2 h
/-! ### slices.IndexFunc[[]cordon/api.Con,cordon/api.Con] -/
def slices_IndexFunc_l_api_Con_api_Con_A : Ann := { own := [], live := [(0, ([0, 1, 7, 8], []))], n := 19, nils := [], pubs := [] }
def slices_IndexFunc_l_api_Con_api_Con_I0 (a0 : List ConD) (g1 : FuncId) (cap1 : List D) (R : D → Prop) (n0 : Nat) (v1 : Int) : Prop := iter (den Try.prog Ev slices_IndexFunc_l_api_Con_api_Con_A (sub [1, 0, 1, 0, 0] (bodyOf Try.f182)) 0) slices_IndexFunc_l_api_Con_api_Con_A (liveOf slices_IndexFunc_l_api_Con_api_Con_A 0) n0 ⟨[(0, .sl .con a0), (1, .clo g1 (some [.bool]) cap1), (7, .int .i64 (a0.length : Int)), (8, .int .i64 v1)], []⟩ (blockK 0 (seqK Try.prog Ev slices_IndexFunc_l_api_Con_api_Con_A (sub [1, 1] (bodyOf Try.f182)) 0 (endK Ev Try.f182.results.toList R)))
theorem slices_IndexFunc_l_api_Con_api_Con_I0_eq (a0 : List ConD) (g1 : FuncId) (cap1 : List D) (R : D → Prop) (n0 : Nat) (v1 : Int) : slices_IndexFunc_l_api_Con_api_Con_I0 a0 g1 cap1 R (n0 + 1) v1 =
 (sel (decide (v1 < (a0.length : Int)))
 (inb v1 a0.length = true ∧
 Ent Try.prog g1 ∧
 Call1 Try.prog g1 ([.agg [.int .i64 ((at' .con a0 v1.toNat).kind), .sl .int ((at' .con a0 v1.toNat).vars), .sl .int ((at' .con a0 v1.toNat).consts), .int .i64 ((at' .con a0 v1.toNat).n), .sl (.list .int) ((at' .con a0 v1.toNat).rows), .sl .lit ((at' .con a0 v1.toNat).lits)]] ++ cap1) .bool fun r2 =>
 sel r2
 (R (.int .i64 v1))
 (slices_IndexFunc_l_api_Con_api_Con_I0 a0 g1 cap1 R n0 (w64 (v1 + 1))))
 (R (.int .i64 (-1)))) := by kernel_rfl
theorem slices_IndexFunc_l_api_Con_api_Con_eq (a0 : List ConD) (g1 : FuncId) (cap1 : List D) (R : D → Prop) : fnD Try.prog Ev slices_IndexFunc_l_api_Con_api_Con_A Try.f182.results.toList (bodyOf Try.f182) [.sl .con a0, .clo g1 (some [.bool]) cap1] R =
 (∃ n0, slices_IndexFunc_l_api_Con_api_Con_I0 a0 g1 cap1 R n0 0) := by kernel_rfl
theorem slices_IndexFunc_l_api_Con_api_Con_sat {r : D} (a0 : List ConD) (g1 : FuncId) (cap1 : List D) (h : (∀ d ∈ [.sl .con a0, .clo g1 (some [.bool]) cap1], okD d) → fnD Try.prog Ev slices_IndexFunc_l_api_Con_api_Con_A Try.f182.results.toList (bodyOf Try.f182) [.sl .con a0, .clo g1 (some [.bool]) cap1] fun d => d = r) : Sat Try.prog f_slices_IndexFunc_l_api_Con_api_Con [.sl .con a0, .clo g1 (some [.bool]) cap1] r := by
  have h2 := sat_of (r := r) (args := [.sl .con a0, .clo g1 (some [.bool]) cap1]) (A := slices_IndexFunc_l_api_Con_api_Con_A) (fn := Try.f182) (body := bodyOf Try.f182) (f := f_slices_IndexFunc_l_api_Con_api_Con) factsEv Try.func182 (by kernel_rfl) (by rw [Try.ntmps182]; rfl) (by rw [Try.ntmps182]; exact Nat.le_of_ble_eq_true rfl)
  with_reducible exact h2 h
end Go.Proofs.Ytonkbljpcgadlaa
