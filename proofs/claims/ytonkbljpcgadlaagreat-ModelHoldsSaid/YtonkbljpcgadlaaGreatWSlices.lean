/- What the functions of a package do, as equations of plain propositions: printed by a program that carries the code out on symbols. -/
import Derived.Test.YtonkbljpcgadlaaGreatWEv
namespace Go.Proofs.YtonkbljpcgadlaaGreat
open Go.RowKit
set_option linter.unusedVariables false
set_option maxRecDepth 100000
/-! ### slices.ContainsFunc[[]int,int] -/
def slices_ContainsFunc_l_int_int_A : Ann := { own := [], live := [], n := 9, nils := [], pubs := [] }
theorem slices_ContainsFunc_l_int_int_eq (a0 : List Int) (g1 : FuncId) (cap1 : List D) (R : D → Prop) : fnD Tryz.prog Ev slices_ContainsFunc_l_int_int_A Tryz.f44.results.toList (bodyOf Tryz.f44) [.sl .int a0, .clo g1 (some [.bool]) cap1] R =
 (Call1 Tryz.prog f_slices_IndexFunc_l_int_int [.sl .int a0, .clo g1 (some [.bool]) cap1] .int fun s1 =>
 R (.bool (decide (0 ≤ s1)))) := by kernel_rfl
theorem slices_ContainsFunc_l_int_int_sat {r : D} (a0 : List Int) (g1 : FuncId) (cap1 : List D) (h : (∀ d ∈ [.sl .int a0, .clo g1 (some [.bool]) cap1], okD d) → fnD Tryz.prog Ev slices_ContainsFunc_l_int_int_A Tryz.f44.results.toList (bodyOf Tryz.f44) [.sl .int a0, .clo g1 (some [.bool]) cap1] fun d => d = r) : Sat Tryz.prog f_slices_ContainsFunc_l_int_int [.sl .int a0, .clo g1 (some [.bool]) cap1] r := by
  have h2 := sat_of (r := r) (args := [.sl .int a0, .clo g1 (some [.bool]) cap1]) (A := slices_ContainsFunc_l_int_int_A) (fn := Tryz.f44) (body := bodyOf Tryz.f44) (f := f_slices_ContainsFunc_l_int_int) factsEv Tryz.func44 (by kernel_rfl) (by rw [Tryz.ntmps44]; rfl) (by rw [Tryz.ntmps44]; exact Nat.le_of_ble_eq_true rfl)
  with_reducible exact h2 h
/-! ### slices.IndexFunc[[]int,int] -/
def slices_IndexFunc_l_int_int_A : Ann := { own := [], live := [(0, ([0, 1, 7, 8], []))], n := 19, nils := [], pubs := [] }
def slices_IndexFunc_l_int_int_I0 (a0 : List Int) (g1 : FuncId) (cap1 : List D) (R : D → Prop) (n0 : Nat) (v1 : Int) : Prop := iter (den Tryz.prog Ev slices_IndexFunc_l_int_int_A (sub [1, 0, 1, 0, 0] (bodyOf Tryz.f70)) 0) slices_IndexFunc_l_int_int_A (liveOf slices_IndexFunc_l_int_int_A 0) n0 ⟨[(0, .sl .int a0), (1, .clo g1 (some [.bool]) cap1), (7, .int .i64 (a0.length : Int)), (8, .int .i64 v1)], []⟩ (blockK 0 (seqK Tryz.prog Ev slices_IndexFunc_l_int_int_A (sub [1, 1] (bodyOf Tryz.f70)) 0 (endK Ev Tryz.f70.results.toList R)))
theorem slices_IndexFunc_l_int_int_I0_eq (a0 : List Int) (g1 : FuncId) (cap1 : List D) (R : D → Prop) (n0 : Nat) (v1 : Int) : slices_IndexFunc_l_int_int_I0 a0 g1 cap1 R (n0 + 1) v1 =
 (sel (decide (v1 < (a0.length : Int)))
 (inb v1 a0.length = true ∧
 Ent Tryz.prog g1 ∧
 Call1 Tryz.prog g1 ([.int .i64 (at' .int a0 v1.toNat)] ++ cap1) .bool fun r2 =>
 sel r2
 (R (.int .i64 v1))
 (slices_IndexFunc_l_int_int_I0 a0 g1 cap1 R n0 (w64 (v1 + 1))))
 (R (.int .i64 (-1)))) := by kernel_rfl
theorem slices_IndexFunc_l_int_int_eq (a0 : List Int) (g1 : FuncId) (cap1 : List D) (R : D → Prop) : fnD Tryz.prog Ev slices_IndexFunc_l_int_int_A Tryz.f70.results.toList (bodyOf Tryz.f70) [.sl .int a0, .clo g1 (some [.bool]) cap1] R =
 (∃ n0, slices_IndexFunc_l_int_int_I0 a0 g1 cap1 R n0 0) := by kernel_rfl
theorem slices_IndexFunc_l_int_int_sat {r : D} (a0 : List Int) (g1 : FuncId) (cap1 : List D) (h : (∀ d ∈ [.sl .int a0, .clo g1 (some [.bool]) cap1], okD d) → fnD Tryz.prog Ev slices_IndexFunc_l_int_int_A Tryz.f70.results.toList (bodyOf Tryz.f70) [.sl .int a0, .clo g1 (some [.bool]) cap1] fun d => d = r) : Sat Tryz.prog f_slices_IndexFunc_l_int_int [.sl .int a0, .clo g1 (some [.bool]) cap1] r := by
  have h2 := sat_of (r := r) (args := [.sl .int a0, .clo g1 (some [.bool]) cap1]) (A := slices_IndexFunc_l_int_int_A) (fn := Tryz.f70) (body := bodyOf Tryz.f70) (f := f_slices_IndexFunc_l_int_int) factsEv Tryz.func70 (by kernel_rfl) (by rw [Tryz.ntmps70]; rfl) (by rw [Tryz.ntmps70]; exact Nat.le_of_ble_eq_true rfl)
  with_reducible exact h2 h
/-! ### slices.ContainsFunc[[][]int,[]int] -/
def slices_ContainsFunc_rows_int_int_A : Ann := { own := [], live := [], n := 9, nils := [], pubs := [] }
theorem slices_ContainsFunc_rows_int_int_eq (a0 : List (List Int)) (g1 : FuncId) (cap1 : List D) (R : D → Prop) : fnD Tryz.prog Ev slices_ContainsFunc_rows_int_int_A Tryz.f74.results.toList (bodyOf Tryz.f74) [.sl (.list .int) a0, .clo g1 (some [.bool]) cap1] R =
 (Call1 Tryz.prog f_slices_IndexFunc_rows_int_int [.sl (.list .int) a0, .clo g1 (some [.bool]) cap1] .int fun s1 =>
 R (.bool (decide (0 ≤ s1)))) := by kernel_rfl
theorem slices_ContainsFunc_rows_int_int_sat {r : D} (a0 : List (List Int)) (g1 : FuncId) (cap1 : List D) (h : (∀ d ∈ [.sl (.list .int) a0, .clo g1 (some [.bool]) cap1], okD d) → fnD Tryz.prog Ev slices_ContainsFunc_rows_int_int_A Tryz.f74.results.toList (bodyOf Tryz.f74) [.sl (.list .int) a0, .clo g1 (some [.bool]) cap1] fun d => d = r) : Sat Tryz.prog f_slices_ContainsFunc_rows_int_int [.sl (.list .int) a0, .clo g1 (some [.bool]) cap1] r := by
  have h2 := sat_of (r := r) (args := [.sl (.list .int) a0, .clo g1 (some [.bool]) cap1]) (A := slices_ContainsFunc_rows_int_int_A) (fn := Tryz.f74) (body := bodyOf Tryz.f74) (f := f_slices_ContainsFunc_rows_int_int) factsEv Tryz.func74 (by kernel_rfl) (by rw [Tryz.ntmps74]; rfl) (by rw [Tryz.ntmps74]; exact Nat.le_of_ble_eq_true rfl)
  with_reducible exact h2 h
/-! ### slices.Equal[[]int,int] -/
def slices_Equal_l_int_int_A : Ann := { own := [], live := [(0, ([0, 1, 12, 13], []))], n := 26, nils := [], pubs := [] }
def slices_Equal_l_int_int_I0 (a0 : List Int) (a1 : List Int) (R : D → Prop) (n0 : Nat) (v1 : Int) : Prop := iter (den Tryz.prog Ev slices_Equal_l_int_int_A (sub [1, 1, 0, 1, 0, 0] (bodyOf Tryz.f76)) 0) slices_Equal_l_int_int_A (liveOf slices_Equal_l_int_int_A 0) n0 ⟨[(0, .sl .int a0), (1, .sl .int a1), (12, .int .i64 (a0.length : Int)), (13, .int .i64 v1)], []⟩ (blockK 0 (seqK Tryz.prog Ev slices_Equal_l_int_int_A (sub [1, 1, 1] (bodyOf Tryz.f76)) 0 (endK Ev Tryz.f76.results.toList R)))
theorem slices_Equal_l_int_int_I0_eq (a0 : List Int) (a1 : List Int) (R : D → Prop) (n0 : Nat) (v1 : Int) : slices_Equal_l_int_int_I0 a0 a1 R (n0 + 1) v1 =
 (sel (decide (v1 < (a0.length : Int)))
 (inb v1 a0.length = true ∧
 inb v1 a1.length = true ∧
 sel (!decide ((at' .int a0 v1.toNat) = (at' .int a1 v1.toNat)))
 (R (.bool false))
 (slices_Equal_l_int_int_I0 a0 a1 R n0 (w64 (v1 + 1))))
 (R (.bool true))) := by kernel_rfl
theorem slices_Equal_l_int_int_eq (a0 : List Int) (a1 : List Int) (R : D → Prop) : fnD Tryz.prog Ev slices_Equal_l_int_int_A Tryz.f76.results.toList (bodyOf Tryz.f76) [.sl .int a0, .sl .int a1] R =
 (sel (!decide ((a0.length : Int) = (a1.length : Int)))
 (R (.bool false))
 (∃ n0, slices_Equal_l_int_int_I0 a0 a1 R n0 0)) := by kernel_rfl
theorem slices_Equal_l_int_int_sat {r : D} (a0 : List Int) (a1 : List Int) (h : (∀ d ∈ [.sl .int a0, .sl .int a1], okD d) → fnD Tryz.prog Ev slices_Equal_l_int_int_A Tryz.f76.results.toList (bodyOf Tryz.f76) [.sl .int a0, .sl .int a1] fun d => d = r) : Sat Tryz.prog f_slices_Equal_l_int_int [.sl .int a0, .sl .int a1] r := by
  have h2 := sat_of (r := r) (args := [.sl .int a0, .sl .int a1]) (A := slices_Equal_l_int_int_A) (fn := Tryz.f76) (body := bodyOf Tryz.f76) (f := f_slices_Equal_l_int_int) factsEv Tryz.func76 (by kernel_rfl) (by rw [Tryz.ntmps76]; rfl) (by rw [Tryz.ntmps76]; exact Nat.le_of_ble_eq_true rfl)
  with_reducible exact h2 h
/-! ### slices.ContainsFunc[[]cordon/api.Lit,cordon/api.Lit] -/
def slices_ContainsFunc_l_api_Lit_api_Lit_A : Ann := { own := [], live := [], n := 9, nils := [], pubs := [] }
theorem slices_ContainsFunc_l_api_Lit_api_Lit_eq (a0 : List LitD) (g1 : FuncId) (cap1 : List D) (R : D → Prop) : fnD Tryz.prog Ev slices_ContainsFunc_l_api_Lit_api_Lit_A Tryz.f77.results.toList (bodyOf Tryz.f77) [.sl .lit a0, .clo g1 (some [.bool]) cap1] R =
 (Call1 Tryz.prog f_slices_IndexFunc_l_api_Lit_api_Lit [.sl .lit a0, .clo g1 (some [.bool]) cap1] .int fun s1 =>
 R (.bool (decide (0 ≤ s1)))) := by kernel_rfl
theorem slices_ContainsFunc_l_api_Lit_api_Lit_sat {r : D} (a0 : List LitD) (g1 : FuncId) (cap1 : List D) (h : (∀ d ∈ [.sl .lit a0, .clo g1 (some [.bool]) cap1], okD d) → fnD Tryz.prog Ev slices_ContainsFunc_l_api_Lit_api_Lit_A Tryz.f77.results.toList (bodyOf Tryz.f77) [.sl .lit a0, .clo g1 (some [.bool]) cap1] fun d => d = r) : Sat Tryz.prog f_slices_ContainsFunc_l_api_Lit_api_Lit [.sl .lit a0, .clo g1 (some [.bool]) cap1] r := by
  have h2 := sat_of (r := r) (args := [.sl .lit a0, .clo g1 (some [.bool]) cap1]) (A := slices_ContainsFunc_l_api_Lit_api_Lit_A) (fn := Tryz.f77) (body := bodyOf Tryz.f77) (f := f_slices_ContainsFunc_l_api_Lit_api_Lit) factsEv Tryz.func77 (by kernel_rfl) (by rw [Tryz.ntmps77]; rfl) (by rw [Tryz.ntmps77]; exact Nat.le_of_ble_eq_true rfl)
  with_reducible exact h2 h
/-! ### slices.ContainsFunc[[]cordon/api.Con,cordon/api.Con] -/
def slices_ContainsFunc_l_api_Con_api_Con_A : Ann := { own := [], live := [], n := 9, nils := [], pubs := [] }
theorem slices_ContainsFunc_l_api_Con_api_Con_eq (a0 : List ConD) (g1 : FuncId) (cap1 : List D) (R : D → Prop) : fnD Tryz.prog Ev slices_ContainsFunc_l_api_Con_api_Con_A Tryz.f78.results.toList (bodyOf Tryz.f78) [.sl .con a0, .clo g1 (some [.bool]) cap1] R =
 (Call1 Tryz.prog f_slices_IndexFunc_l_api_Con_api_Con [.sl .con a0, .clo g1 (some [.bool]) cap1] .int fun s1 =>
 R (.bool (decide (0 ≤ s1)))) := by kernel_rfl
theorem slices_ContainsFunc_l_api_Con_api_Con_sat {r : D} (a0 : List ConD) (g1 : FuncId) (cap1 : List D) (h : (∀ d ∈ [.sl .con a0, .clo g1 (some [.bool]) cap1], okD d) → fnD Tryz.prog Ev slices_ContainsFunc_l_api_Con_api_Con_A Tryz.f78.results.toList (bodyOf Tryz.f78) [.sl .con a0, .clo g1 (some [.bool]) cap1] fun d => d = r) : Sat Tryz.prog f_slices_ContainsFunc_l_api_Con_api_Con [.sl .con a0, .clo g1 (some [.bool]) cap1] r := by
  have h2 := sat_of (r := r) (args := [.sl .con a0, .clo g1 (some [.bool]) cap1]) (A := slices_ContainsFunc_l_api_Con_api_Con_A) (fn := Tryz.f78) (body := bodyOf Tryz.f78) (f := f_slices_ContainsFunc_l_api_Con_api_Con) factsEv Tryz.func78 (by kernel_rfl) (by rw [Tryz.ntmps78]; rfl) (by rw [Tryz.ntmps78]; exact Nat.le_of_ble_eq_true rfl)
  with_reducible exact h2 h
/-! ### slices.Clone[[]int,int] -/
def slices_Clone_l_int_int_A : Ann := { own := [2, 5, 7], live := [], n := 8, nils := [], pubs := [] }
theorem slices_Clone_l_int_int_eq (s0 : List Int) (R : D → List (Nat × HObj) → Prop) : fnH Tryz.prog Ev slices_Clone_l_int_int_A Tryz.f84.results.toList (bodyOf Tryz.f84) [.sl .int s0] [] [] true R =
 (∀ b1 : Bool, (b1 = true → s0 = []) →
 sel b1
 (R (.own 3000) [(3000, .row 3 .int ([] : List Int))])
 (room .int (([] : List Int).length + s0.length) = true ∧
 R (.own 3000) [(3000, .row 3 .int (([] : List Int) ++ s0))])) := by kernel_rfl
theorem slices_Clone_l_int_int_sat {r : D} {h0 : List (Nat × HObj)} (s0 : List Int) (h : (∀ d ∈ [.sl .int s0], okD d) → (∀ k o, look k [] = some o → okO o) → fnH Tryz.prog Ev slices_Clone_l_int_int_A Tryz.f84.results.toList (bodyOf Tryz.f84) [.sl .int s0] [] [] true fun d h1 => d = r ∧ h1 = h0) : SatH Tryz.prog f_slices_Clone_l_int_int [.sl .int s0] [] r h0 := by
  have h2 := satH_of (r := r) (hp := []) (hp' := h0) (roots := []) (args := [.sl .int s0]) (A := slices_Clone_l_int_int_A) (fn := Tryz.f84) (body := bodyOf Tryz.f84) (f := f_slices_Clone_l_int_int) (own := true) factsEv Tryz.func84 (by kernel_rfl) (by rw [Tryz.ntmps84]; rfl) (by rw [Tryz.ntmps84]; exact Nat.le_of_ble_eq_true rfl)
  with_reducible exact h2 h
/-! ### slices.ContainsFunc[[]cordon/api.Var,cordon/api.Var] -/
def slices_ContainsFunc_l_api_Var_api_Var_A : Ann := { own := [], live := [], n := 9, nils := [], pubs := [] }
theorem slices_ContainsFunc_l_api_Var_api_Var_eq (a0 : List VarD) (g1 : FuncId) (cap1 : List D) (R : D → Prop) : fnD Tryz.prog Ev slices_ContainsFunc_l_api_Var_api_Var_A Tryz.f87.results.toList (bodyOf Tryz.f87) [.sl .var a0, .clo g1 (some [.bool]) cap1] R =
 (Call1 Tryz.prog f_slices_IndexFunc_l_api_Var_api_Var [.sl .var a0, .clo g1 (some [.bool]) cap1] .int fun s1 =>
 R (.bool (decide (0 ≤ s1)))) := by kernel_rfl
theorem slices_ContainsFunc_l_api_Var_api_Var_sat {r : D} (a0 : List VarD) (g1 : FuncId) (cap1 : List D) (h : (∀ d ∈ [.sl .var a0, .clo g1 (some [.bool]) cap1], okD d) → fnD Tryz.prog Ev slices_ContainsFunc_l_api_Var_api_Var_A Tryz.f87.results.toList (bodyOf Tryz.f87) [.sl .var a0, .clo g1 (some [.bool]) cap1] fun d => d = r) : Sat Tryz.prog f_slices_ContainsFunc_l_api_Var_api_Var [.sl .var a0, .clo g1 (some [.bool]) cap1] r := by
  have h2 := sat_of (r := r) (args := [.sl .var a0, .clo g1 (some [.bool]) cap1]) (A := slices_ContainsFunc_l_api_Var_api_Var_A) (fn := Tryz.f87) (body := bodyOf Tryz.f87) (f := f_slices_ContainsFunc_l_api_Var_api_Var) factsEv Tryz.func87 (by kernel_rfl) (by rw [Tryz.ntmps87]; rfl) (by rw [Tryz.ntmps87]; exact Nat.le_of_ble_eq_true rfl)
  with_reducible exact h2 h
/-! ### slices.IndexFunc[[][]int,[]int] -/
def slices_IndexFunc_rows_int_int_A : Ann := { own := [], live := [(0, ([0, 1, 7, 8], []))], n := 19, nils := [], pubs := [] }
def slices_IndexFunc_rows_int_int_I0 (a0 : List (List Int)) (g1 : FuncId) (cap1 : List D) (R : D → Prop) (n0 : Nat) (v1 : Int) : Prop := iter (den Tryz.prog Ev slices_IndexFunc_rows_int_int_A (sub [1, 0, 1, 0, 0] (bodyOf Tryz.f94)) 0) slices_IndexFunc_rows_int_int_A (liveOf slices_IndexFunc_rows_int_int_A 0) n0 ⟨[(0, .sl (.list .int) a0), (1, .clo g1 (some [.bool]) cap1), (7, .int .i64 (a0.length : Int)), (8, .int .i64 v1)], []⟩ (blockK 0 (seqK Tryz.prog Ev slices_IndexFunc_rows_int_int_A (sub [1, 1] (bodyOf Tryz.f94)) 0 (endK Ev Tryz.f94.results.toList R)))
theorem slices_IndexFunc_rows_int_int_I0_eq (a0 : List (List Int)) (g1 : FuncId) (cap1 : List D) (R : D → Prop) (n0 : Nat) (v1 : Int) : slices_IndexFunc_rows_int_int_I0 a0 g1 cap1 R (n0 + 1) v1 =
 (sel (decide (v1 < (a0.length : Int)))
 (inb v1 a0.length = true ∧
 Ent Tryz.prog g1 ∧
 Call1 Tryz.prog g1 ([.sl .int (at' (.list .int) a0 v1.toNat)] ++ cap1) .bool fun r2 =>
 sel r2
 (R (.int .i64 v1))
 (slices_IndexFunc_rows_int_int_I0 a0 g1 cap1 R n0 (w64 (v1 + 1))))
 (R (.int .i64 (-1)))) := by kernel_rfl
theorem slices_IndexFunc_rows_int_int_eq (a0 : List (List Int)) (g1 : FuncId) (cap1 : List D) (R : D → Prop) : fnD Tryz.prog Ev slices_IndexFunc_rows_int_int_A Tryz.f94.results.toList (bodyOf Tryz.f94) [.sl (.list .int) a0, .clo g1 (some [.bool]) cap1] R =
 (∃ n0, slices_IndexFunc_rows_int_int_I0 a0 g1 cap1 R n0 0) := by kernel_rfl
theorem slices_IndexFunc_rows_int_int_sat {r : D} (a0 : List (List Int)) (g1 : FuncId) (cap1 : List D) (h : (∀ d ∈ [.sl (.list .int) a0, .clo g1 (some [.bool]) cap1], okD d) → fnD Tryz.prog Ev slices_IndexFunc_rows_int_int_A Tryz.f94.results.toList (bodyOf Tryz.f94) [.sl (.list .int) a0, .clo g1 (some [.bool]) cap1] fun d => d = r) : Sat Tryz.prog f_slices_IndexFunc_rows_int_int [.sl (.list .int) a0, .clo g1 (some [.bool]) cap1] r := by
  have h2 := sat_of (r := r) (args := [.sl (.list .int) a0, .clo g1 (some [.bool]) cap1]) (A := slices_IndexFunc_rows_int_int_A) (fn := Tryz.f94) (body := bodyOf Tryz.f94) (f := f_slices_IndexFunc_rows_int_int) factsEv Tryz.func94 (by kernel_rfl) (by rw [Tryz.ntmps94]; rfl) (by rw [Tryz.ntmps94]; exact Nat.le_of_ble_eq_true rfl)
  with_reducible exact h2 h
/-! ### slices.IndexFunc[[]cordon/api.Lit,cordon/api.Lit] -/
def slices_IndexFunc_l_api_Lit_api_Lit_A : Ann := { own := [], live := [(0, ([0, 1, 7, 8], []))], n := 19, nils := [], pubs := [] }
def slices_IndexFunc_l_api_Lit_api_Lit_I0 (a0 : List LitD) (g1 : FuncId) (cap1 : List D) (R : D → Prop) (n0 : Nat) (v1 : Int) : Prop := iter (den Tryz.prog Ev slices_IndexFunc_l_api_Lit_api_Lit_A (sub [1, 0, 1, 0, 0] (bodyOf Tryz.f95)) 0) slices_IndexFunc_l_api_Lit_api_Lit_A (liveOf slices_IndexFunc_l_api_Lit_api_Lit_A 0) n0 ⟨[(0, .sl .lit a0), (1, .clo g1 (some [.bool]) cap1), (7, .int .i64 (a0.length : Int)), (8, .int .i64 v1)], []⟩ (blockK 0 (seqK Tryz.prog Ev slices_IndexFunc_l_api_Lit_api_Lit_A (sub [1, 1] (bodyOf Tryz.f95)) 0 (endK Ev Tryz.f95.results.toList R)))
theorem slices_IndexFunc_l_api_Lit_api_Lit_I0_eq (a0 : List LitD) (g1 : FuncId) (cap1 : List D) (R : D → Prop) (n0 : Nat) (v1 : Int) : slices_IndexFunc_l_api_Lit_api_Lit_I0 a0 g1 cap1 R (n0 + 1) v1 =
 (sel (decide (v1 < (a0.length : Int)))
 (inb v1 a0.length = true ∧
 Ent Tryz.prog g1 ∧
 Call1 Tryz.prog g1 ([.agg [.int .i64 ((at' .lit a0 v1.toNat).var), .int .i64 ((at' .lit a0 v1.toNat).op), .int .i64 ((at' .lit a0 v1.toNat).n)]] ++ cap1) .bool fun r2 =>
 sel r2
 (R (.int .i64 v1))
 (slices_IndexFunc_l_api_Lit_api_Lit_I0 a0 g1 cap1 R n0 (w64 (v1 + 1))))
 (R (.int .i64 (-1)))) := by kernel_rfl
theorem slices_IndexFunc_l_api_Lit_api_Lit_eq (a0 : List LitD) (g1 : FuncId) (cap1 : List D) (R : D → Prop) : fnD Tryz.prog Ev slices_IndexFunc_l_api_Lit_api_Lit_A Tryz.f95.results.toList (bodyOf Tryz.f95) [.sl .lit a0, .clo g1 (some [.bool]) cap1] R =
 (∃ n0, slices_IndexFunc_l_api_Lit_api_Lit_I0 a0 g1 cap1 R n0 0) := by kernel_rfl
theorem slices_IndexFunc_l_api_Lit_api_Lit_sat {r : D} (a0 : List LitD) (g1 : FuncId) (cap1 : List D) (h : (∀ d ∈ [.sl .lit a0, .clo g1 (some [.bool]) cap1], okD d) → fnD Tryz.prog Ev slices_IndexFunc_l_api_Lit_api_Lit_A Tryz.f95.results.toList (bodyOf Tryz.f95) [.sl .lit a0, .clo g1 (some [.bool]) cap1] fun d => d = r) : Sat Tryz.prog f_slices_IndexFunc_l_api_Lit_api_Lit [.sl .lit a0, .clo g1 (some [.bool]) cap1] r := by
  have h2 := sat_of (r := r) (args := [.sl .lit a0, .clo g1 (some [.bool]) cap1]) (A := slices_IndexFunc_l_api_Lit_api_Lit_A) (fn := Tryz.f95) (body := bodyOf Tryz.f95) (f := f_slices_IndexFunc_l_api_Lit_api_Lit) factsEv Tryz.func95 (by kernel_rfl) (by rw [Tryz.ntmps95]; rfl) (by rw [Tryz.ntmps95]; exact Nat.le_of_ble_eq_true rfl)
  with_reducible exact h2 h
/-! ### slices.IndexFunc[[]cordon/api.Con,cordon/api.Con] -/
def slices_IndexFunc_l_api_Con_api_Con_A : Ann := { own := [], live := [(0, ([0, 1, 7, 8], []))], n := 19, nils := [], pubs := [] }
def slices_IndexFunc_l_api_Con_api_Con_I0 (a0 : List ConD) (g1 : FuncId) (cap1 : List D) (R : D → Prop) (n0 : Nat) (v1 : Int) : Prop := iter (den Tryz.prog Ev slices_IndexFunc_l_api_Con_api_Con_A (sub [1, 0, 1, 0, 0] (bodyOf Tryz.f96)) 0) slices_IndexFunc_l_api_Con_api_Con_A (liveOf slices_IndexFunc_l_api_Con_api_Con_A 0) n0 ⟨[(0, .sl .con a0), (1, .clo g1 (some [.bool]) cap1), (7, .int .i64 (a0.length : Int)), (8, .int .i64 v1)], []⟩ (blockK 0 (seqK Tryz.prog Ev slices_IndexFunc_l_api_Con_api_Con_A (sub [1, 1] (bodyOf Tryz.f96)) 0 (endK Ev Tryz.f96.results.toList R)))
theorem slices_IndexFunc_l_api_Con_api_Con_I0_eq (a0 : List ConD) (g1 : FuncId) (cap1 : List D) (R : D → Prop) (n0 : Nat) (v1 : Int) : slices_IndexFunc_l_api_Con_api_Con_I0 a0 g1 cap1 R (n0 + 1) v1 =
 (sel (decide (v1 < (a0.length : Int)))
 (inb v1 a0.length = true ∧
 Ent Tryz.prog g1 ∧
 Call1 Tryz.prog g1 ([.agg [.int .i64 ((at' .con a0 v1.toNat).kind), .sl .int ((at' .con a0 v1.toNat).vars), .sl .int ((at' .con a0 v1.toNat).consts), .int .i64 ((at' .con a0 v1.toNat).n), .sl (.list .int) ((at' .con a0 v1.toNat).rows), .sl .lit ((at' .con a0 v1.toNat).lits)]] ++ cap1) .bool fun r2 =>
 sel r2
 (R (.int .i64 v1))
 (slices_IndexFunc_l_api_Con_api_Con_I0 a0 g1 cap1 R n0 (w64 (v1 + 1))))
 (R (.int .i64 (-1)))) := by kernel_rfl
theorem slices_IndexFunc_l_api_Con_api_Con_eq (a0 : List ConD) (g1 : FuncId) (cap1 : List D) (R : D → Prop) : fnD Tryz.prog Ev slices_IndexFunc_l_api_Con_api_Con_A Tryz.f96.results.toList (bodyOf Tryz.f96) [.sl .con a0, .clo g1 (some [.bool]) cap1] R =
 (∃ n0, slices_IndexFunc_l_api_Con_api_Con_I0 a0 g1 cap1 R n0 0) := by kernel_rfl
theorem slices_IndexFunc_l_api_Con_api_Con_sat {r : D} (a0 : List ConD) (g1 : FuncId) (cap1 : List D) (h : (∀ d ∈ [.sl .con a0, .clo g1 (some [.bool]) cap1], okD d) → fnD Tryz.prog Ev slices_IndexFunc_l_api_Con_api_Con_A Tryz.f96.results.toList (bodyOf Tryz.f96) [.sl .con a0, .clo g1 (some [.bool]) cap1] fun d => d = r) : Sat Tryz.prog f_slices_IndexFunc_l_api_Con_api_Con [.sl .con a0, .clo g1 (some [.bool]) cap1] r := by
  have h2 := sat_of (r := r) (args := [.sl .con a0, .clo g1 (some [.bool]) cap1]) (A := slices_IndexFunc_l_api_Con_api_Con_A) (fn := Tryz.f96) (body := bodyOf Tryz.f96) (f := f_slices_IndexFunc_l_api_Con_api_Con) factsEv Tryz.func96 (by kernel_rfl) (by rw [Tryz.ntmps96]; rfl) (by rw [Tryz.ntmps96]; exact Nat.le_of_ble_eq_true rfl)
  with_reducible exact h2 h
/-! ### slices.IndexFunc[[]cordon/api.Var,cordon/api.Var] -/
def slices_IndexFunc_l_api_Var_api_Var_A : Ann := { own := [], live := [(0, ([0, 1, 7, 8], []))], n := 19, nils := [], pubs := [] }
def slices_IndexFunc_l_api_Var_api_Var_I0 (a0 : List VarD) (g1 : FuncId) (cap1 : List D) (R : D → Prop) (n0 : Nat) (v1 : Int) : Prop := iter (den Tryz.prog Ev slices_IndexFunc_l_api_Var_api_Var_A (sub [1, 0, 1, 0, 0] (bodyOf Tryz.f106)) 0) slices_IndexFunc_l_api_Var_api_Var_A (liveOf slices_IndexFunc_l_api_Var_api_Var_A 0) n0 ⟨[(0, .sl .var a0), (1, .clo g1 (some [.bool]) cap1), (7, .int .i64 (a0.length : Int)), (8, .int .i64 v1)], []⟩ (blockK 0 (seqK Tryz.prog Ev slices_IndexFunc_l_api_Var_api_Var_A (sub [1, 1] (bodyOf Tryz.f106)) 0 (endK Ev Tryz.f106.results.toList R)))
theorem slices_IndexFunc_l_api_Var_api_Var_I0_eq (a0 : List VarD) (g1 : FuncId) (cap1 : List D) (R : D → Prop) (n0 : Nat) (v1 : Int) : slices_IndexFunc_l_api_Var_api_Var_I0 a0 g1 cap1 R (n0 + 1) v1 =
 (sel (decide (v1 < (a0.length : Int)))
 (inb v1 a0.length = true ∧
 Ent Tryz.prog g1 ∧
 Call1 Tryz.prog g1 ([.agg [.str ((at' .var a0 v1.toNat).name), .int .i64 ((at' .var a0 v1.toNat).lo), .int .i64 ((at' .var a0 v1.toNat).hi)]] ++ cap1) .bool fun r2 =>
 sel r2
 (R (.int .i64 v1))
 (slices_IndexFunc_l_api_Var_api_Var_I0 a0 g1 cap1 R n0 (w64 (v1 + 1))))
 (R (.int .i64 (-1)))) := by kernel_rfl
theorem slices_IndexFunc_l_api_Var_api_Var_eq (a0 : List VarD) (g1 : FuncId) (cap1 : List D) (R : D → Prop) : fnD Tryz.prog Ev slices_IndexFunc_l_api_Var_api_Var_A Tryz.f106.results.toList (bodyOf Tryz.f106) [.sl .var a0, .clo g1 (some [.bool]) cap1] R =
 (∃ n0, slices_IndexFunc_l_api_Var_api_Var_I0 a0 g1 cap1 R n0 0) := by kernel_rfl
theorem slices_IndexFunc_l_api_Var_api_Var_sat {r : D} (a0 : List VarD) (g1 : FuncId) (cap1 : List D) (h : (∀ d ∈ [.sl .var a0, .clo g1 (some [.bool]) cap1], okD d) → fnD Tryz.prog Ev slices_IndexFunc_l_api_Var_api_Var_A Tryz.f106.results.toList (bodyOf Tryz.f106) [.sl .var a0, .clo g1 (some [.bool]) cap1] fun d => d = r) : Sat Tryz.prog f_slices_IndexFunc_l_api_Var_api_Var [.sl .var a0, .clo g1 (some [.bool]) cap1] r := by
  have h2 := sat_of (r := r) (args := [.sl .var a0, .clo g1 (some [.bool]) cap1]) (A := slices_IndexFunc_l_api_Var_api_Var_A) (fn := Tryz.f106) (body := bodyOf Tryz.f106) (f := f_slices_IndexFunc_l_api_Var_api_Var) factsEv Tryz.func106 (by kernel_rfl) (by rw [Tryz.ntmps106]; rfl) (by rw [Tryz.ntmps106]; exact Nat.le_of_ble_eq_true rfl)
  with_reducible exact h2 h
end Go.Proofs.YtonkbljpcgadlaaGreat
