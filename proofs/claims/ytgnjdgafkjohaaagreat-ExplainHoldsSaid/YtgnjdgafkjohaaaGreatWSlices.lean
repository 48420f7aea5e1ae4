/- What the functions of a package do, as equations of plain propositions: printed by a program that carries the code out on symbols. -/
import Derived.Test.YtgnjdgafkjohaaaGreatWEv
namespace Go.Proofs.YtgnjdgafkjohaaaGreat
open Go.RowKit
set_option linter.unusedVariables false
set_option maxRecDepth 100000
/-! ### slices.Contains[[]int,int] -/
def slices_Contains_l_int_int_A : Ann := { own := [], live := [], n := 9, nils := [], pubs := [] }
theorem slices_Contains_l_int_int_eq (a0 : List Int) (a1 : Int) (R : D → Prop) : fnD Tryz.prog Ev slices_Contains_l_int_int_A Tryz.f70.results.toList (bodyOf Tryz.f70) [.sl .int a0, dI a1] R =
 (Call1 Tryz.prog f_slices_Index_l_int_int [.sl .int a0, dI a1] .int fun s1 =>
 R (dB (decide (0 ≤ s1)))) := by kernel_rfl
theorem slices_Contains_l_int_int_sat {r : D} (a0 : List Int) (a1 : Int) (h : (∀ d ∈ [.sl .int a0, dI a1], okD d) → fnD Tryz.prog Ev slices_Contains_l_int_int_A Tryz.f70.results.toList (bodyOf Tryz.f70) [.sl .int a0, dI a1] fun d => d = r) : Sat Tryz.prog f_slices_Contains_l_int_int [.sl .int a0, dI a1] r := by
  have h2 := sat_of (r := r) (args := [.sl .int a0, dI a1]) (A := slices_Contains_l_int_int_A) (fn := Tryz.f70) (body := bodyOf Tryz.f70) (f := f_slices_Contains_l_int_int) factsEv Tryz.func70 (by kernel_rfl) (by rw [Tryz.ntmps70]; rfl) (by rw [Tryz.ntmps70]; exact Nat.le_of_ble_eq_true rfl)
  with_reducible exact h2 h
/-! ### slices.ContainsFunc[[]int,int] -/
def slices_ContainsFunc_l_int_int_A : Ann := { own := [], live := [], n := 9, nils := [], pubs := [] }
theorem slices_ContainsFunc_l_int_int_eq (a0 : List Int) (g1 : FuncId) (cap1 : List D) (R : D → Prop) : fnD Tryz.prog Ev slices_ContainsFunc_l_int_int_A Tryz.f71.results.toList (bodyOf Tryz.f71) [.sl .int a0, .clo g1 (some [.bool]) cap1] R =
 (Call1 Tryz.prog f_slices_IndexFunc_l_int_int [.sl .int a0, .clo g1 (some [.bool]) cap1] .int fun s1 =>
 R (dB (decide (0 ≤ s1)))) := by kernel_rfl
theorem slices_ContainsFunc_l_int_int_sat {r : D} (a0 : List Int) (g1 : FuncId) (cap1 : List D) (h : (∀ d ∈ [.sl .int a0, .clo g1 (some [.bool]) cap1], okD d) → fnD Tryz.prog Ev slices_ContainsFunc_l_int_int_A Tryz.f71.results.toList (bodyOf Tryz.f71) [.sl .int a0, .clo g1 (some [.bool]) cap1] fun d => d = r) : Sat Tryz.prog f_slices_ContainsFunc_l_int_int [.sl .int a0, .clo g1 (some [.bool]) cap1] r := by
  have h2 := sat_of (r := r) (args := [.sl .int a0, .clo g1 (some [.bool]) cap1]) (A := slices_ContainsFunc_l_int_int_A) (fn := Tryz.f71) (body := bodyOf Tryz.f71) (f := f_slices_ContainsFunc_l_int_int) factsEv Tryz.func71 (by kernel_rfl) (by rw [Tryz.ntmps71]; rfl) (by rw [Tryz.ntmps71]; exact Nat.le_of_ble_eq_true rfl)
  with_reducible exact h2 h
/-! ### slices.ContainsFunc[cordon/api.Clause,cordon/api.Lit] -/
def slices_ContainsFunc_api_Clause_api_Lit_A : Ann := { own := [], live := [], n := 9, nils := [], pubs := [] }
theorem slices_ContainsFunc_api_Clause_api_Lit_eq (a0 : List LitD) (g1 : FuncId) (cap1 : List D) (R : D → Prop) : fnD Tryz.prog Ev slices_ContainsFunc_api_Clause_api_Lit_A Tryz.f102.results.toList (bodyOf Tryz.f102) [.sl .lit a0, .clo g1 (some [.bool]) cap1] R =
 (Call1 Tryz.prog f_slices_IndexFunc_api_Clause_api_Lit [.sl .lit a0, .clo g1 (some [.bool]) cap1] .int fun s1 =>
 R (dB (decide (0 ≤ s1)))) := by kernel_rfl
theorem slices_ContainsFunc_api_Clause_api_Lit_sat {r : D} (a0 : List LitD) (g1 : FuncId) (cap1 : List D) (h : (∀ d ∈ [.sl .lit a0, .clo g1 (some [.bool]) cap1], okD d) → fnD Tryz.prog Ev slices_ContainsFunc_api_Clause_api_Lit_A Tryz.f102.results.toList (bodyOf Tryz.f102) [.sl .lit a0, .clo g1 (some [.bool]) cap1] fun d => d = r) : Sat Tryz.prog f_slices_ContainsFunc_api_Clause_api_Lit [.sl .lit a0, .clo g1 (some [.bool]) cap1] r := by
  have h2 := sat_of (r := r) (args := [.sl .lit a0, .clo g1 (some [.bool]) cap1]) (A := slices_ContainsFunc_api_Clause_api_Lit_A) (fn := Tryz.f102) (body := bodyOf Tryz.f102) (f := f_slices_ContainsFunc_api_Clause_api_Lit) factsEv Tryz.func102 (by kernel_rfl) (by rw [Tryz.ntmps102]; rfl) (by rw [Tryz.ntmps102]; exact Nat.le_of_ble_eq_true rfl)
  with_reducible exact h2 h
/-! ### slices.Index[[]int,int] -/
def slices_Index_l_int_int_A : Ann := { own := [], live := [(0, ([0, 1, 7, 8], []))], n := 19, nils := [], pubs := [] }
def slices_Index_l_int_int_I0 (a0 : List Int) (a1 : Int) (R : D → Prop) (n0 : Nat) (v1 : Int) : Prop := iter (den Tryz.prog Ev slices_Index_l_int_int_A (sub [1, 0, 1, 0, 0] (bodyOf Tryz.f122)) 0) slices_Index_l_int_int_A (liveOf slices_Index_l_int_int_A 0) n0 ⟨[(0, .sl .int a0), (1, dI a1), (7, dI (a0.length : Int)), (8, dI v1)], []⟩ (blockK 0 (seqK Tryz.prog Ev slices_Index_l_int_int_A (sub [1, 1] (bodyOf Tryz.f122)) 0 (endK Ev Tryz.f122.results.toList R)))
theorem slices_Index_l_int_int_I0_eq (a0 : List Int) (a1 : Int) (R : D → Prop) (n0 : Nat) (v1 : Int) : slices_Index_l_int_int_I0 a0 a1 R (n0 + 1) v1 =
 (sel (decide (v1 < (a0.length : Int)))
 (inb v1 a0.length = true ∧
 sel (decide (a1 = (at' .int a0 v1.toNat)))
 (R (dI v1))
 (slices_Index_l_int_int_I0 a0 a1 R n0 (w64 (v1 + 1))))
 (R (dI (-1)))) := by kernel_rfl
theorem slices_Index_l_int_int_eq (a0 : List Int) (a1 : Int) (R : D → Prop) : fnD Tryz.prog Ev slices_Index_l_int_int_A Tryz.f122.results.toList (bodyOf Tryz.f122) [.sl .int a0, dI a1] R =
 (∃ n0, slices_Index_l_int_int_I0 a0 a1 R n0 0) := by kernel_rfl
theorem slices_Index_l_int_int_sat {r : D} (a0 : List Int) (a1 : Int) (h : (∀ d ∈ [.sl .int a0, dI a1], okD d) → fnD Tryz.prog Ev slices_Index_l_int_int_A Tryz.f122.results.toList (bodyOf Tryz.f122) [.sl .int a0, dI a1] fun d => d = r) : Sat Tryz.prog f_slices_Index_l_int_int [.sl .int a0, dI a1] r := by
  have h2 := sat_of (r := r) (args := [.sl .int a0, dI a1]) (A := slices_Index_l_int_int_A) (fn := Tryz.f122) (body := bodyOf Tryz.f122) (f := f_slices_Index_l_int_int) factsEv Tryz.func122 (by kernel_rfl) (by rw [Tryz.ntmps122]; rfl) (by rw [Tryz.ntmps122]; exact Nat.le_of_ble_eq_true rfl)
  with_reducible exact h2 h
/-! ### slices.IndexFunc[[]int,int] -/
def slices_IndexFunc_l_int_int_A : Ann := { own := [], live := [(0, ([0, 1, 7, 8], []))], n := 19, nils := [], pubs := [] }
def slices_IndexFunc_l_int_int_I0 (a0 : List Int) (g1 : FuncId) (cap1 : List D) (R : D → Prop) (n0 : Nat) (v1 : Int) : Prop := iter (den Tryz.prog Ev slices_IndexFunc_l_int_int_A (sub [1, 0, 1, 0, 0] (bodyOf Tryz.f123)) 0) slices_IndexFunc_l_int_int_A (liveOf slices_IndexFunc_l_int_int_A 0) n0 ⟨[(0, .sl .int a0), (1, .clo g1 (some [.bool]) cap1), (7, dI (a0.length : Int)), (8, dI v1)], []⟩ (blockK 0 (seqK Tryz.prog Ev slices_IndexFunc_l_int_int_A (sub [1, 1] (bodyOf Tryz.f123)) 0 (endK Ev Tryz.f123.results.toList R)))
theorem slices_IndexFunc_l_int_int_I0_eq (a0 : List Int) (g1 : FuncId) (cap1 : List D) (R : D → Prop) (n0 : Nat) (v1 : Int) : slices_IndexFunc_l_int_int_I0 a0 g1 cap1 R (n0 + 1) v1 =
 (sel (decide (v1 < (a0.length : Int)))
 (inb v1 a0.length = true ∧
 Ent Tryz.prog g1 ∧
 Call1 Tryz.prog g1 ([dI (at' .int a0 v1.toNat)] ++ cap1) .bool fun r2 =>
 sel r2
 (R (dI v1))
 (slices_IndexFunc_l_int_int_I0 a0 g1 cap1 R n0 (w64 (v1 + 1))))
 (R (dI (-1)))) := by kernel_rfl
theorem slices_IndexFunc_l_int_int_eq (a0 : List Int) (g1 : FuncId) (cap1 : List D) (R : D → Prop) : fnD Tryz.prog Ev slices_IndexFunc_l_int_int_A Tryz.f123.results.toList (bodyOf Tryz.f123) [.sl .int a0, .clo g1 (some [.bool]) cap1] R =
 (∃ n0, slices_IndexFunc_l_int_int_I0 a0 g1 cap1 R n0 0) := by kernel_rfl
theorem slices_IndexFunc_l_int_int_sat {r : D} (a0 : List Int) (g1 : FuncId) (cap1 : List D) (h : (∀ d ∈ [.sl .int a0, .clo g1 (some [.bool]) cap1], okD d) → fnD Tryz.prog Ev slices_IndexFunc_l_int_int_A Tryz.f123.results.toList (bodyOf Tryz.f123) [.sl .int a0, .clo g1 (some [.bool]) cap1] fun d => d = r) : Sat Tryz.prog f_slices_IndexFunc_l_int_int [.sl .int a0, .clo g1 (some [.bool]) cap1] r := by
  have h2 := sat_of (r := r) (args := [.sl .int a0, .clo g1 (some [.bool]) cap1]) (A := slices_IndexFunc_l_int_int_A) (fn := Tryz.f123) (body := bodyOf Tryz.f123) (f := f_slices_IndexFunc_l_int_int) factsEv Tryz.func123 (by kernel_rfl) (by rw [Tryz.ntmps123]; rfl) (by rw [Tryz.ntmps123]; exact Nat.le_of_ble_eq_true rfl)
  with_reducible exact h2 h
/-! ### slices.ContainsFunc[[][]int,[]int] -/
def slices_ContainsFunc_rows_int_int_A : Ann := { own := [], live := [], n := 9, nils := [], pubs := [] }
theorem slices_ContainsFunc_rows_int_int_eq (a0 : List (List Int)) (g1 : FuncId) (cap1 : List D) (R : D → Prop) : fnD Tryz.prog Ev slices_ContainsFunc_rows_int_int_A Tryz.f129.results.toList (bodyOf Tryz.f129) [dS a0, .clo g1 (some [.bool]) cap1] R =
 (Call1 Tryz.prog f_slices_IndexFunc_rows_int_int [dS a0, .clo g1 (some [.bool]) cap1] .int fun s1 =>
 R (dB (decide (0 ≤ s1)))) := by kernel_rfl
theorem slices_ContainsFunc_rows_int_int_sat {r : D} (a0 : List (List Int)) (g1 : FuncId) (cap1 : List D) (h : (∀ d ∈ [dS a0, .clo g1 (some [.bool]) cap1], okD d) → fnD Tryz.prog Ev slices_ContainsFunc_rows_int_int_A Tryz.f129.results.toList (bodyOf Tryz.f129) [dS a0, .clo g1 (some [.bool]) cap1] fun d => d = r) : Sat Tryz.prog f_slices_ContainsFunc_rows_int_int [dS a0, .clo g1 (some [.bool]) cap1] r := by
  have h2 := sat_of (r := r) (args := [dS a0, .clo g1 (some [.bool]) cap1]) (A := slices_ContainsFunc_rows_int_int_A) (fn := Tryz.f129) (body := bodyOf Tryz.f129) (f := f_slices_ContainsFunc_rows_int_int) factsEv Tryz.func129 (by kernel_rfl) (by rw [Tryz.ntmps129]; rfl) (by rw [Tryz.ntmps129]; exact Nat.le_of_ble_eq_true rfl)
  with_reducible exact h2 h
/-! ### slices.Equal[[]int,int] -/
def slices_Equal_l_int_int_A : Ann := { own := [], live := [(0, ([0, 1, 12, 13], []))], n := 26, nils := [], pubs := [] }
def slices_Equal_l_int_int_I0 (a0 : List Int) (a1 : List Int) (R : D → Prop) (n0 : Nat) (v1 : Int) : Prop := iter (den Tryz.prog Ev slices_Equal_l_int_int_A (sub [1, 1, 0, 1, 0, 0] (bodyOf Tryz.f131)) 0) slices_Equal_l_int_int_A (liveOf slices_Equal_l_int_int_A 0) n0 ⟨[(0, .sl .int a0), (1, .sl .int a1), (12, dI (a0.length : Int)), (13, dI v1)], []⟩ (blockK 0 (seqK Tryz.prog Ev slices_Equal_l_int_int_A (sub [1, 1, 1] (bodyOf Tryz.f131)) 0 (endK Ev Tryz.f131.results.toList R)))
theorem slices_Equal_l_int_int_I0_eq (a0 : List Int) (a1 : List Int) (R : D → Prop) (n0 : Nat) (v1 : Int) : slices_Equal_l_int_int_I0 a0 a1 R (n0 + 1) v1 =
 (sel (decide (v1 < (a0.length : Int)))
 (inb v1 a0.length = true ∧
 inb v1 a1.length = true ∧
 sel (!decide ((at' .int a0 v1.toNat) = (at' .int a1 v1.toNat)))
 (R (dB false))
 (slices_Equal_l_int_int_I0 a0 a1 R n0 (w64 (v1 + 1))))
 (R (dB true))) := by kernel_rfl
theorem slices_Equal_l_int_int_eq (a0 : List Int) (a1 : List Int) (R : D → Prop) : fnD Tryz.prog Ev slices_Equal_l_int_int_A Tryz.f131.results.toList (bodyOf Tryz.f131) [.sl .int a0, .sl .int a1] R =
 (sel (!decide ((a0.length : Int) = (a1.length : Int)))
 (R (dB false))
 (∃ n0, slices_Equal_l_int_int_I0 a0 a1 R n0 0)) := by kernel_rfl
theorem slices_Equal_l_int_int_sat {r : D} (a0 : List Int) (a1 : List Int) (h : (∀ d ∈ [.sl .int a0, .sl .int a1], okD d) → fnD Tryz.prog Ev slices_Equal_l_int_int_A Tryz.f131.results.toList (bodyOf Tryz.f131) [.sl .int a0, .sl .int a1] fun d => d = r) : Sat Tryz.prog f_slices_Equal_l_int_int [.sl .int a0, .sl .int a1] r := by
  have h2 := sat_of (r := r) (args := [.sl .int a0, .sl .int a1]) (A := slices_Equal_l_int_int_A) (fn := Tryz.f131) (body := bodyOf Tryz.f131) (f := f_slices_Equal_l_int_int) factsEv Tryz.func131 (by kernel_rfl) (by rw [Tryz.ntmps131]; rfl) (by rw [Tryz.ntmps131]; exact Nat.le_of_ble_eq_true rfl)
  with_reducible exact h2 h
/-! ### slices.ContainsFunc[[]cordon/api.Lit,cordon/api.Lit] -/
def slices_ContainsFunc_l_api_Lit_api_Lit_A : Ann := { own := [], live := [], n := 9, nils := [], pubs := [] }
theorem slices_ContainsFunc_l_api_Lit_api_Lit_eq (a0 : List LitD) (g1 : FuncId) (cap1 : List D) (R : D → Prop) : fnD Tryz.prog Ev slices_ContainsFunc_l_api_Lit_api_Lit_A Tryz.f132.results.toList (bodyOf Tryz.f132) [.sl .lit a0, .clo g1 (some [.bool]) cap1] R =
 (Call1 Tryz.prog f_slices_IndexFunc_l_api_Lit_api_Lit [.sl .lit a0, .clo g1 (some [.bool]) cap1] .int fun s1 =>
 R (dB (decide (0 ≤ s1)))) := by kernel_rfl
theorem slices_ContainsFunc_l_api_Lit_api_Lit_sat {r : D} (a0 : List LitD) (g1 : FuncId) (cap1 : List D) (h : (∀ d ∈ [.sl .lit a0, .clo g1 (some [.bool]) cap1], okD d) → fnD Tryz.prog Ev slices_ContainsFunc_l_api_Lit_api_Lit_A Tryz.f132.results.toList (bodyOf Tryz.f132) [.sl .lit a0, .clo g1 (some [.bool]) cap1] fun d => d = r) : Sat Tryz.prog f_slices_ContainsFunc_l_api_Lit_api_Lit [.sl .lit a0, .clo g1 (some [.bool]) cap1] r := by
  have h2 := sat_of (r := r) (args := [.sl .lit a0, .clo g1 (some [.bool]) cap1]) (A := slices_ContainsFunc_l_api_Lit_api_Lit_A) (fn := Tryz.f132) (body := bodyOf Tryz.f132) (f := f_slices_ContainsFunc_l_api_Lit_api_Lit) factsEv Tryz.func132 (by kernel_rfl) (by rw [Tryz.ntmps132]; rfl) (by rw [Tryz.ntmps132]; exact Nat.le_of_ble_eq_true rfl)
  with_reducible exact h2 h
/-! ### slices.ContainsFunc[[]cordon/api.Con,cordon/api.Con] -/
def slices_ContainsFunc_l_api_Con_api_Con_A : Ann := { own := [], live := [], n := 9, nils := [], pubs := [] }
theorem slices_ContainsFunc_l_api_Con_api_Con_eq (a0 : List ConD) (g1 : FuncId) (cap1 : List D) (R : D → Prop) : fnD Tryz.prog Ev slices_ContainsFunc_l_api_Con_api_Con_A Tryz.f142.results.toList (bodyOf Tryz.f142) [.sl .con a0, .clo g1 (some [.bool]) cap1] R =
 (Call1 Tryz.prog f_slices_IndexFunc_l_api_Con_api_Con [.sl .con a0, .clo g1 (some [.bool]) cap1] .int fun s1 =>
 R (dB (decide (0 ≤ s1)))) := by kernel_rfl
theorem slices_ContainsFunc_l_api_Con_api_Con_sat {r : D} (a0 : List ConD) (g1 : FuncId) (cap1 : List D) (h : (∀ d ∈ [.sl .con a0, .clo g1 (some [.bool]) cap1], okD d) → fnD Tryz.prog Ev slices_ContainsFunc_l_api_Con_api_Con_A Tryz.f142.results.toList (bodyOf Tryz.f142) [.sl .con a0, .clo g1 (some [.bool]) cap1] fun d => d = r) : Sat Tryz.prog f_slices_ContainsFunc_l_api_Con_api_Con [.sl .con a0, .clo g1 (some [.bool]) cap1] r := by
  have h2 := sat_of (r := r) (args := [.sl .con a0, .clo g1 (some [.bool]) cap1]) (A := slices_ContainsFunc_l_api_Con_api_Con_A) (fn := Tryz.f142) (body := bodyOf Tryz.f142) (f := f_slices_ContainsFunc_l_api_Con_api_Con) factsEv Tryz.func142 (by kernel_rfl) (by rw [Tryz.ntmps142]; rfl) (by rw [Tryz.ntmps142]; exact Nat.le_of_ble_eq_true rfl)
  with_reducible exact h2 h
/-! ### slices.IndexFunc[cordon/api.Clause,cordon/api.Lit] -/
def slices_IndexFunc_api_Clause_api_Lit_A : Ann := { own := [], live := [(0, ([0, 1, 7, 8], []))], n := 19, nils := [], pubs := [] }
def slices_IndexFunc_api_Clause_api_Lit_I0 (a0 : List LitD) (g1 : FuncId) (cap1 : List D) (R : D → Prop) (n0 : Nat) (v1 : Int) : Prop := iter (den Tryz.prog Ev slices_IndexFunc_api_Clause_api_Lit_A (sub [1, 0, 1, 0, 0] (bodyOf Tryz.f146)) 0) slices_IndexFunc_api_Clause_api_Lit_A (liveOf slices_IndexFunc_api_Clause_api_Lit_A 0) n0 ⟨[(0, .sl .lit a0), (1, .clo g1 (some [.bool]) cap1), (7, dI (a0.length : Int)), (8, dI v1)], []⟩ (blockK 0 (seqK Tryz.prog Ev slices_IndexFunc_api_Clause_api_Lit_A (sub [1, 1] (bodyOf Tryz.f146)) 0 (endK Ev Tryz.f146.results.toList R)))
theorem slices_IndexFunc_api_Clause_api_Lit_I0_eq (a0 : List LitD) (g1 : FuncId) (cap1 : List D) (R : D → Prop) (n0 : Nat) (v1 : Int) : slices_IndexFunc_api_Clause_api_Lit_I0 a0 g1 cap1 R (n0 + 1) v1 =
 (sel (decide (v1 < (a0.length : Int)))
 (inb v1 a0.length = true ∧
 Ent Tryz.prog g1 ∧
 Call1 Tryz.prog g1 ([dL (at' .lit a0 v1.toNat)] ++ cap1) .bool fun r2 =>
 sel r2
 (R (dI v1))
 (slices_IndexFunc_api_Clause_api_Lit_I0 a0 g1 cap1 R n0 (w64 (v1 + 1))))
 (R (dI (-1)))) := by kernel_rfl
theorem slices_IndexFunc_api_Clause_api_Lit_eq (a0 : List LitD) (g1 : FuncId) (cap1 : List D) (R : D → Prop) : fnD Tryz.prog Ev slices_IndexFunc_api_Clause_api_Lit_A Tryz.f146.results.toList (bodyOf Tryz.f146) [.sl .lit a0, .clo g1 (some [.bool]) cap1] R =
 (∃ n0, slices_IndexFunc_api_Clause_api_Lit_I0 a0 g1 cap1 R n0 0) := by kernel_rfl
theorem slices_IndexFunc_api_Clause_api_Lit_sat {r : D} (a0 : List LitD) (g1 : FuncId) (cap1 : List D) (h : (∀ d ∈ [.sl .lit a0, .clo g1 (some [.bool]) cap1], okD d) → fnD Tryz.prog Ev slices_IndexFunc_api_Clause_api_Lit_A Tryz.f146.results.toList (bodyOf Tryz.f146) [.sl .lit a0, .clo g1 (some [.bool]) cap1] fun d => d = r) : Sat Tryz.prog f_slices_IndexFunc_api_Clause_api_Lit [.sl .lit a0, .clo g1 (some [.bool]) cap1] r := by
  have h2 := sat_of (r := r) (args := [.sl .lit a0, .clo g1 (some [.bool]) cap1]) (A := slices_IndexFunc_api_Clause_api_Lit_A) (fn := Tryz.f146) (body := bodyOf Tryz.f146) (f := f_slices_IndexFunc_api_Clause_api_Lit) factsEv Tryz.func146 (by kernel_rfl) (by rw [Tryz.ntmps146]; rfl) (by rw [Tryz.ntmps146]; exact Nat.le_of_ble_eq_true rfl)
  with_reducible exact h2 h
/-! ### slices.ContainsFunc[cordon/api.Store,[]int] -/
def slices_ContainsFunc_api_Store_int_A : Ann := { own := [], live := [], n := 9, nils := [], pubs := [] }
theorem slices_ContainsFunc_api_Store_int_eq (a0 : List (List Int)) (g1 : FuncId) (cap1 : List D) (R : D → Prop) : fnD Tryz.prog Ev slices_ContainsFunc_api_Store_int_A Tryz.f152.results.toList (bodyOf Tryz.f152) [dS a0, .clo g1 (some [.bool]) cap1] R =
 (Call1 Tryz.prog f_slices_IndexFunc_api_Store_int [dS a0, .clo g1 (some [.bool]) cap1] .int fun s1 =>
 R (dB (decide (0 ≤ s1)))) := by kernel_rfl
theorem slices_ContainsFunc_api_Store_int_sat {r : D} (a0 : List (List Int)) (g1 : FuncId) (cap1 : List D) (h : (∀ d ∈ [dS a0, .clo g1 (some [.bool]) cap1], okD d) → fnD Tryz.prog Ev slices_ContainsFunc_api_Store_int_A Tryz.f152.results.toList (bodyOf Tryz.f152) [dS a0, .clo g1 (some [.bool]) cap1] fun d => d = r) : Sat Tryz.prog f_slices_ContainsFunc_api_Store_int [dS a0, .clo g1 (some [.bool]) cap1] r := by
  have h2 := sat_of (r := r) (args := [dS a0, .clo g1 (some [.bool]) cap1]) (A := slices_ContainsFunc_api_Store_int_A) (fn := Tryz.f152) (body := bodyOf Tryz.f152) (f := f_slices_ContainsFunc_api_Store_int) factsEv Tryz.func152 (by kernel_rfl) (by rw [Tryz.ntmps152]; rfl) (by rw [Tryz.ntmps152]; exact Nat.le_of_ble_eq_true rfl)
  with_reducible exact h2 h
/-! ### slices.Clone[[]int,int] -/
def slices_Clone_l_int_int_A : Ann := { own := [2, 5, 7], live := [], n := 8, nils := [], pubs := [] }
theorem slices_Clone_l_int_int_eq (s0 : List Int) (R : D → List (Nat × HObj) → Prop) : fnH Tryz.prog Ev slices_Clone_l_int_int_A Tryz.f154.results.toList (bodyOf Tryz.f154) [.sl .int s0] [] [] true R =
 (∀ b1 : Bool, (b1 = true → s0 = []) →
 sel b1
 (R (.own 3000) [(3000, .row 3 .int ([] : List Int))])
 (room .int (([] : List Int).length + s0.length) = true ∧
 R (.own 3000) [(3000, .row 3 .int (([] : List Int) ++ s0))])) := by kernel_rfl
theorem slices_Clone_l_int_int_sat {r : D} {h0 : List (Nat × HObj)} (s0 : List Int) (h : (∀ d ∈ [.sl .int s0], okD d) → (∀ k o, look k [] = some o → okO o) → fnH Tryz.prog Ev slices_Clone_l_int_int_A Tryz.f154.results.toList (bodyOf Tryz.f154) [.sl .int s0] [] [] true fun d h1 => d = r ∧ h1 = h0) : SatH Tryz.prog f_slices_Clone_l_int_int [.sl .int s0] [] r h0 := by
  have h2 := satH_of (r := r) (hp := []) (hp' := h0) (roots := []) (args := [.sl .int s0]) (A := slices_Clone_l_int_int_A) (fn := Tryz.f154) (body := bodyOf Tryz.f154) (f := f_slices_Clone_l_int_int) (own := true) factsEv Tryz.func154 (by kernel_rfl) (by rw [Tryz.ntmps154]; rfl) (by rw [Tryz.ntmps154]; exact Nat.le_of_ble_eq_true rfl)
  with_reducible exact h2 h
/-! ### slices.IndexFunc[[]cordon/filter.term,cordon/filter.term] -/
def slices_IndexFunc_l_filter_term_filter_term_A : Ann := { own := [], live := [(0, ([0, 1, 7, 8], []))], n := 19, nils := [], pubs := [] }
def slices_IndexFunc_l_filter_term_filter_term_I0 (a0 : List TermD) (g1 : FuncId) (cap1 : List D) (R : D → Prop) (n0 : Nat) (v1 : Int) : Prop := iter (den Tryz.prog Ev slices_IndexFunc_l_filter_term_filter_term_A (sub [1, 0, 1, 0, 0] (bodyOf Tryz.f162)) 0) slices_IndexFunc_l_filter_term_filter_term_A (liveOf slices_IndexFunc_l_filter_term_filter_term_A 0) n0 ⟨[(0, .sl .term a0), (1, .clo g1 (some [.bool]) cap1), (7, dI (a0.length : Int)), (8, dI v1)], []⟩ (blockK 0 (seqK Tryz.prog Ev slices_IndexFunc_l_filter_term_filter_term_A (sub [1, 1] (bodyOf Tryz.f162)) 0 (endK Ev Tryz.f162.results.toList R)))
theorem slices_IndexFunc_l_filter_term_filter_term_I0_eq (a0 : List TermD) (g1 : FuncId) (cap1 : List D) (R : D → Prop) (n0 : Nat) (v1 : Int) : slices_IndexFunc_l_filter_term_filter_term_I0 a0 g1 cap1 R (n0 + 1) v1 =
 (sel (decide (v1 < (a0.length : Int)))
 (inb v1 a0.length = true ∧
 Ent Tryz.prog g1 ∧
 Call1 Tryz.prog g1 ([.agg [dI ((at' .term a0 v1.toNat).v), dI ((at' .term a0 v1.toNat).times)]] ++ cap1) .bool fun r2 =>
 sel r2
 (R (dI v1))
 (slices_IndexFunc_l_filter_term_filter_term_I0 a0 g1 cap1 R n0 (w64 (v1 + 1))))
 (R (dI (-1)))) := by kernel_rfl
theorem slices_IndexFunc_l_filter_term_filter_term_eq (a0 : List TermD) (g1 : FuncId) (cap1 : List D) (R : D → Prop) : fnD Tryz.prog Ev slices_IndexFunc_l_filter_term_filter_term_A Tryz.f162.results.toList (bodyOf Tryz.f162) [.sl .term a0, .clo g1 (some [.bool]) cap1] R =
 (∃ n0, slices_IndexFunc_l_filter_term_filter_term_I0 a0 g1 cap1 R n0 0) := by kernel_rfl
theorem slices_IndexFunc_l_filter_term_filter_term_sat {r : D} (a0 : List TermD) (g1 : FuncId) (cap1 : List D) (h : (∀ d ∈ [.sl .term a0, .clo g1 (some [.bool]) cap1], okD d) → fnD Tryz.prog Ev slices_IndexFunc_l_filter_term_filter_term_A Tryz.f162.results.toList (bodyOf Tryz.f162) [.sl .term a0, .clo g1 (some [.bool]) cap1] fun d => d = r) : Sat Tryz.prog f_slices_IndexFunc_l_filter_term_filter_term [.sl .term a0, .clo g1 (some [.bool]) cap1] r := by
  have h2 := sat_of (r := r) (args := [.sl .term a0, .clo g1 (some [.bool]) cap1]) (A := slices_IndexFunc_l_filter_term_filter_term_A) (fn := Tryz.f162) (body := bodyOf Tryz.f162) (f := f_slices_IndexFunc_l_filter_term_filter_term) factsEv Tryz.func162 (by kernel_rfl) (by rw [Tryz.ntmps162]; rfl) (by rw [Tryz.ntmps162]; exact Nat.le_of_ble_eq_true rfl)
  with_reducible exact h2 h
/-! ### slices.Clone[cordon/api.Store,[]int] -/
def slices_Clone_api_Store_int_A : Ann := { own := [2, 5, 7], live := [], n := 8, nils := [], pubs := [] }
theorem slices_Clone_api_Store_int_eq (s0 : List (List Int)) (R : D → List (Nat × HObj) → Prop) : fnH Tryz.prog Ev slices_Clone_api_Store_int_A Tryz.f166.results.toList (bodyOf Tryz.f166) [dS s0] [] [] true R =
 (∀ b1 : Bool, (b1 = true → s0 = []) →
 sel b1
 (R (.own 3000) [(3000, .row 42 (.list .int) ([] : List (List Int)))])
 (room (.list .int) (([] : List (List Int)).length + s0.length) = true ∧
 R (.own 3000) [(3000, .row 42 (.list .int) (([] : List (List Int)) ++ s0))])) := by kernel_rfl
theorem slices_Clone_api_Store_int_sat {r : D} {h0 : List (Nat × HObj)} (s0 : List (List Int)) (h : (∀ d ∈ [dS s0], okD d) → (∀ k o, look k [] = some o → okO o) → fnH Tryz.prog Ev slices_Clone_api_Store_int_A Tryz.f166.results.toList (bodyOf Tryz.f166) [dS s0] [] [] true fun d h1 => d = r ∧ h1 = h0) : SatH Tryz.prog f_slices_Clone_api_Store_int [dS s0] [] r h0 := by
  have h2 := satH_of (r := r) (hp := []) (hp' := h0) (roots := []) (args := [dS s0]) (A := slices_Clone_api_Store_int_A) (fn := Tryz.f166) (body := bodyOf Tryz.f166) (f := f_slices_Clone_api_Store_int) (own := true) factsEv Tryz.func166 (by kernel_rfl) (by rw [Tryz.ntmps166]; rfl) (by rw [Tryz.ntmps166]; exact Nat.le_of_ble_eq_true rfl)
  with_reducible exact h2 h
/-! ### slices.ContainsFunc[[]cordon/api.Var,cordon/api.Var] -/
def slices_ContainsFunc_l_api_Var_api_Var_A : Ann := { own := [], live := [], n := 9, nils := [], pubs := [] }
theorem slices_ContainsFunc_l_api_Var_api_Var_eq (a0 : List VarD) (g1 : FuncId) (cap1 : List D) (R : D → Prop) : fnD Tryz.prog Ev slices_ContainsFunc_l_api_Var_api_Var_A Tryz.f170.results.toList (bodyOf Tryz.f170) [.sl .var a0, .clo g1 (some [.bool]) cap1] R =
 (Call1 Tryz.prog f_slices_IndexFunc_l_api_Var_api_Var [.sl .var a0, .clo g1 (some [.bool]) cap1] .int fun s1 =>
 R (dB (decide (0 ≤ s1)))) := by kernel_rfl
theorem slices_ContainsFunc_l_api_Var_api_Var_sat {r : D} (a0 : List VarD) (g1 : FuncId) (cap1 : List D) (h : (∀ d ∈ [.sl .var a0, .clo g1 (some [.bool]) cap1], okD d) → fnD Tryz.prog Ev slices_ContainsFunc_l_api_Var_api_Var_A Tryz.f170.results.toList (bodyOf Tryz.f170) [.sl .var a0, .clo g1 (some [.bool]) cap1] fun d => d = r) : Sat Tryz.prog f_slices_ContainsFunc_l_api_Var_api_Var [.sl .var a0, .clo g1 (some [.bool]) cap1] r := by
  have h2 := sat_of (r := r) (args := [.sl .var a0, .clo g1 (some [.bool]) cap1]) (A := slices_ContainsFunc_l_api_Var_api_Var_A) (fn := Tryz.f170) (body := bodyOf Tryz.f170) (f := f_slices_ContainsFunc_l_api_Var_api_Var) factsEv Tryz.func170 (by kernel_rfl) (by rw [Tryz.ntmps170]; rfl) (by rw [Tryz.ntmps170]; exact Nat.le_of_ble_eq_true rfl)
  with_reducible exact h2 h
/-! ### slices.IndexFunc[[][]int,[]int] -/
def slices_IndexFunc_rows_int_int_A : Ann := { own := [], live := [(0, ([0, 1, 7, 8], []))], n := 19, nils := [], pubs := [] }
def slices_IndexFunc_rows_int_int_I0 (a0 : List (List Int)) (g1 : FuncId) (cap1 : List D) (R : D → Prop) (n0 : Nat) (v1 : Int) : Prop := iter (den Tryz.prog Ev slices_IndexFunc_rows_int_int_A (sub [1, 0, 1, 0, 0] (bodyOf Tryz.f177)) 0) slices_IndexFunc_rows_int_int_A (liveOf slices_IndexFunc_rows_int_int_A 0) n0 ⟨[(0, dS a0), (1, .clo g1 (some [.bool]) cap1), (7, dI (a0.length : Int)), (8, dI v1)], []⟩ (blockK 0 (seqK Tryz.prog Ev slices_IndexFunc_rows_int_int_A (sub [1, 1] (bodyOf Tryz.f177)) 0 (endK Ev Tryz.f177.results.toList R)))
theorem slices_IndexFunc_rows_int_int_I0_eq (a0 : List (List Int)) (g1 : FuncId) (cap1 : List D) (R : D → Prop) (n0 : Nat) (v1 : Int) : slices_IndexFunc_rows_int_int_I0 a0 g1 cap1 R (n0 + 1) v1 =
 (sel (decide (v1 < (a0.length : Int)))
 (inb v1 a0.length = true ∧
 Ent Tryz.prog g1 ∧
 Call1 Tryz.prog g1 ([.sl .int (at' (.list .int) a0 v1.toNat)] ++ cap1) .bool fun r2 =>
 sel r2
 (R (dI v1))
 (slices_IndexFunc_rows_int_int_I0 a0 g1 cap1 R n0 (w64 (v1 + 1))))
 (R (dI (-1)))) := by kernel_rfl
theorem slices_IndexFunc_rows_int_int_eq (a0 : List (List Int)) (g1 : FuncId) (cap1 : List D) (R : D → Prop) : fnD Tryz.prog Ev slices_IndexFunc_rows_int_int_A Tryz.f177.results.toList (bodyOf Tryz.f177) [dS a0, .clo g1 (some [.bool]) cap1] R =
 (∃ n0, slices_IndexFunc_rows_int_int_I0 a0 g1 cap1 R n0 0) := by kernel_rfl
theorem slices_IndexFunc_rows_int_int_sat {r : D} (a0 : List (List Int)) (g1 : FuncId) (cap1 : List D) (h : (∀ d ∈ [dS a0, .clo g1 (some [.bool]) cap1], okD d) → fnD Tryz.prog Ev slices_IndexFunc_rows_int_int_A Tryz.f177.results.toList (bodyOf Tryz.f177) [dS a0, .clo g1 (some [.bool]) cap1] fun d => d = r) : Sat Tryz.prog f_slices_IndexFunc_rows_int_int [dS a0, .clo g1 (some [.bool]) cap1] r := by
  have h2 := sat_of (r := r) (args := [dS a0, .clo g1 (some [.bool]) cap1]) (A := slices_IndexFunc_rows_int_int_A) (fn := Tryz.f177) (body := bodyOf Tryz.f177) (f := f_slices_IndexFunc_rows_int_int) factsEv Tryz.func177 (by kernel_rfl) (by rw [Tryz.ntmps177]; rfl) (by rw [Tryz.ntmps177]; exact Nat.le_of_ble_eq_true rfl)
  with_reducible exact h2 h
/-! ### slices.IndexFunc[[]cordon/api.Lit,cordon/api.Lit] -/
def slices_IndexFunc_l_api_Lit_api_Lit_A : Ann := { own := [], live := [(0, ([0, 1, 7, 8], []))], n := 19, nils := [], pubs := [] }
def slices_IndexFunc_l_api_Lit_api_Lit_I0 (a0 : List LitD) (g1 : FuncId) (cap1 : List D) (R : D → Prop) (n0 : Nat) (v1 : Int) : Prop := iter (den Tryz.prog Ev slices_IndexFunc_l_api_Lit_api_Lit_A (sub [1, 0, 1, 0, 0] (bodyOf Tryz.f178)) 0) slices_IndexFunc_l_api_Lit_api_Lit_A (liveOf slices_IndexFunc_l_api_Lit_api_Lit_A 0) n0 ⟨[(0, .sl .lit a0), (1, .clo g1 (some [.bool]) cap1), (7, dI (a0.length : Int)), (8, dI v1)], []⟩ (blockK 0 (seqK Tryz.prog Ev slices_IndexFunc_l_api_Lit_api_Lit_A (sub [1, 1] (bodyOf Tryz.f178)) 0 (endK Ev Tryz.f178.results.toList R)))
theorem slices_IndexFunc_l_api_Lit_api_Lit_I0_eq (a0 : List LitD) (g1 : FuncId) (cap1 : List D) (R : D → Prop) (n0 : Nat) (v1 : Int) : slices_IndexFunc_l_api_Lit_api_Lit_I0 a0 g1 cap1 R (n0 + 1) v1 =
 (sel (decide (v1 < (a0.length : Int)))
 (inb v1 a0.length = true ∧
 Ent Tryz.prog g1 ∧
 Call1 Tryz.prog g1 ([dL (at' .lit a0 v1.toNat)] ++ cap1) .bool fun r2 =>
 sel r2
 (R (dI v1))
 (slices_IndexFunc_l_api_Lit_api_Lit_I0 a0 g1 cap1 R n0 (w64 (v1 + 1))))
 (R (dI (-1)))) := by kernel_rfl
theorem slices_IndexFunc_l_api_Lit_api_Lit_eq (a0 : List LitD) (g1 : FuncId) (cap1 : List D) (R : D → Prop) : fnD Tryz.prog Ev slices_IndexFunc_l_api_Lit_api_Lit_A Tryz.f178.results.toList (bodyOf Tryz.f178) [.sl .lit a0, .clo g1 (some [.bool]) cap1] R =
 (∃ n0, slices_IndexFunc_l_api_Lit_api_Lit_I0 a0 g1 cap1 R n0 0) := by kernel_rfl
theorem slices_IndexFunc_l_api_Lit_api_Lit_sat {r : D} (a0 : List LitD) (g1 : FuncId) (cap1 : List D) (h : (∀ d ∈ [.sl .lit a0, .clo g1 (some [.bool]) cap1], okD d) → fnD Tryz.prog Ev slices_IndexFunc_l_api_Lit_api_Lit_A Tryz.f178.results.toList (bodyOf Tryz.f178) [.sl .lit a0, .clo g1 (some [.bool]) cap1] fun d => d = r) : Sat Tryz.prog f_slices_IndexFunc_l_api_Lit_api_Lit [.sl .lit a0, .clo g1 (some [.bool]) cap1] r := by
  have h2 := sat_of (r := r) (args := [.sl .lit a0, .clo g1 (some [.bool]) cap1]) (A := slices_IndexFunc_l_api_Lit_api_Lit_A) (fn := Tryz.f178) (body := bodyOf Tryz.f178) (f := f_slices_IndexFunc_l_api_Lit_api_Lit) factsEv Tryz.func178 (by kernel_rfl) (by rw [Tryz.ntmps178]; rfl) (by rw [Tryz.ntmps178]; exact Nat.le_of_ble_eq_true rfl)
  with_reducible exact h2 h
/-! ### slices.IndexFunc[[]cordon/api.Con,cordon/api.Con] -/
def slices_IndexFunc_l_api_Con_api_Con_A : Ann := { own := [], live := [(0, ([0, 1, 7, 8], []))], n := 19, nils := [], pubs := [] }
def slices_IndexFunc_l_api_Con_api_Con_I0 (a0 : List ConD) (g1 : FuncId) (cap1 : List D) (R : D → Prop) (n0 : Nat) (v1 : Int) : Prop := iter (den Tryz.prog Ev slices_IndexFunc_l_api_Con_api_Con_A (sub [1, 0, 1, 0, 0] (bodyOf Tryz.f187)) 0) slices_IndexFunc_l_api_Con_api_Con_A (liveOf slices_IndexFunc_l_api_Con_api_Con_A 0) n0 ⟨[(0, .sl .con a0), (1, .clo g1 (some [.bool]) cap1), (7, dI (a0.length : Int)), (8, dI v1)], []⟩ (blockK 0 (seqK Tryz.prog Ev slices_IndexFunc_l_api_Con_api_Con_A (sub [1, 1] (bodyOf Tryz.f187)) 0 (endK Ev Tryz.f187.results.toList R)))
theorem slices_IndexFunc_l_api_Con_api_Con_I0_eq (a0 : List ConD) (g1 : FuncId) (cap1 : List D) (R : D → Prop) (n0 : Nat) (v1 : Int) : slices_IndexFunc_l_api_Con_api_Con_I0 a0 g1 cap1 R (n0 + 1) v1 =
 (sel (decide (v1 < (a0.length : Int)))
 (inb v1 a0.length = true ∧
 Ent Tryz.prog g1 ∧
 Call1 Tryz.prog g1 ([dC (at' .con a0 v1.toNat)] ++ cap1) .bool fun r2 =>
 sel r2
 (R (dI v1))
 (slices_IndexFunc_l_api_Con_api_Con_I0 a0 g1 cap1 R n0 (w64 (v1 + 1))))
 (R (dI (-1)))) := by kernel_rfl
theorem slices_IndexFunc_l_api_Con_api_Con_eq (a0 : List ConD) (g1 : FuncId) (cap1 : List D) (R : D → Prop) : fnD Tryz.prog Ev slices_IndexFunc_l_api_Con_api_Con_A Tryz.f187.results.toList (bodyOf Tryz.f187) [.sl .con a0, .clo g1 (some [.bool]) cap1] R =
 (∃ n0, slices_IndexFunc_l_api_Con_api_Con_I0 a0 g1 cap1 R n0 0) := by kernel_rfl
theorem slices_IndexFunc_l_api_Con_api_Con_sat {r : D} (a0 : List ConD) (g1 : FuncId) (cap1 : List D) (h : (∀ d ∈ [.sl .con a0, .clo g1 (some [.bool]) cap1], okD d) → fnD Tryz.prog Ev slices_IndexFunc_l_api_Con_api_Con_A Tryz.f187.results.toList (bodyOf Tryz.f187) [.sl .con a0, .clo g1 (some [.bool]) cap1] fun d => d = r) : Sat Tryz.prog f_slices_IndexFunc_l_api_Con_api_Con [.sl .con a0, .clo g1 (some [.bool]) cap1] r := by
  have h2 := sat_of (r := r) (args := [.sl .con a0, .clo g1 (some [.bool]) cap1]) (A := slices_IndexFunc_l_api_Con_api_Con_A) (fn := Tryz.f187) (body := bodyOf Tryz.f187) (f := f_slices_IndexFunc_l_api_Con_api_Con) factsEv Tryz.func187 (by kernel_rfl) (by rw [Tryz.ntmps187]; rfl) (by rw [Tryz.ntmps187]; exact Nat.le_of_ble_eq_true rfl)
  with_reducible exact h2 h
/-! ### slices.Concat[cordon/api.Clause,cordon/api.Lit] -/
def slices_Concat_api_Clause_api_Lit_A : Ann := { own := [33], live := [(0, ([0, 3, 9, 10, 11], [])), (2, ([6, 25, 26, 27], [31536]))], n := 36, nils := [], pubs := [] }
def slices_Concat_api_Clause_api_Lit_I2 (a0 : List (List LitD)) (R : D → Prop) (n2 : Nat) (v4 : Int) (l5 : List LitD) : Prop := iter (den Tryz.prog Ev slices_Concat_api_Clause_api_Lit_A (sub [1, 1, 1, 1, 0, 1, 0, 0] (bodyOf Tryz.f188)) 2) slices_Concat_api_Clause_api_Lit_A (liveOf slices_Concat_api_Clause_api_Lit_A 2) n2 ⟨[(6, .own 31536), (25, .sl (.list .lit) a0), (26, dI (a0.length : Int)), (27, dI v4)], [(31536, .row 81 .lit l5)]⟩ (blockK 2 (seqK Tryz.prog Ev slices_Concat_api_Clause_api_Lit_A (sub [1, 1, 1, 1, 1] (bodyOf Tryz.f188)) 0 (endK Ev Tryz.f188.results.toList R)))
def slices_Concat_api_Clause_api_Lit_I0 (a0 : List (List LitD)) (R : D → Prop) (n0 : Nat) (size1 : Int) (v2 : Int) : Prop := iter (den Tryz.prog Ev slices_Concat_api_Clause_api_Lit_A (sub [1, 1, 0, 1, 0, 0] (bodyOf Tryz.f188)) 0) slices_Concat_api_Clause_api_Lit_A (liveOf slices_Concat_api_Clause_api_Lit_A 0) n0 ⟨[(0, .sl (.list .lit) a0), (3, dI size1), (9, .sl (.list .lit) a0), (10, dI (a0.length : Int)), (11, dI v2)], []⟩ (blockK 0 (seqK Tryz.prog Ev slices_Concat_api_Clause_api_Lit_A (sub [1, 1, 1] (bodyOf Tryz.f188)) 0 (endK Ev Tryz.f188.results.toList R)))
theorem slices_Concat_api_Clause_api_Lit_I2_eq (a0 : List (List LitD)) (R : D → Prop) (n2 : Nat) (v4 : Int) (l5 : List LitD) : slices_Concat_api_Clause_api_Lit_I2 a0 R (n2 + 1) v4 l5 =
 (sel (decide (v4 < (a0.length : Int)))
 (inb v4 a0.length = true ∧
 room .lit (l5.length + (at' (.list .lit) a0 v4.toNat).length) = true ∧
 slices_Concat_api_Clause_api_Lit_I2 a0 R n2 (w64 (v4 + 1)) (l5 ++ (at' (.list .lit) a0 v4.toNat)))
 (R (.sl .lit l5))) := by kernel_rfl
theorem slices_Concat_api_Clause_api_Lit_I0_eq (a0 : List (List LitD)) (R : D → Prop) (n0 : Nat) (size1 : Int) (v2 : Int) : slices_Concat_api_Clause_api_Lit_I0 a0 R (n0 + 1) size1 v2 =
 (sel (decide (v2 < (a0.length : Int)))
 (inb v2 a0.length = true ∧
 sel (decide ((w64 (size1 + ((at' (.list .lit) a0 v2.toNat).length : Int))) < 0))
 (False)
 (slices_Concat_api_Clause_api_Lit_I0 a0 R n0 (w64 (size1 + ((at' (.list .lit) a0 v2.toNat).length : Int))) (w64 (v2 + 1))))
 (∃ l3 : List LitD, SatH Tryz.prog f_slices_Grow_api_Clause_api_Lit [.nil, dI size1] [] (.own 3000) [(3000, .row 81 .lit l3)] ∧
 ∃ n2, slices_Concat_api_Clause_api_Lit_I2 a0 R n2 0 l3)) := by kernel_rfl
theorem slices_Concat_api_Clause_api_Lit_eq (a0 : List (List LitD)) (R : D → Prop) : fnD Tryz.prog Ev slices_Concat_api_Clause_api_Lit_A Tryz.f188.results.toList (bodyOf Tryz.f188) [.sl (.list .lit) a0] R =
 (∃ n0, slices_Concat_api_Clause_api_Lit_I0 a0 R n0 0 0) := by kernel_rfl
theorem slices_Concat_api_Clause_api_Lit_sat {r : D} (a0 : List (List LitD)) (h : (∀ d ∈ [.sl (.list .lit) a0], okD d) → fnD Tryz.prog Ev slices_Concat_api_Clause_api_Lit_A Tryz.f188.results.toList (bodyOf Tryz.f188) [.sl (.list .lit) a0] fun d => d = r) : Sat Tryz.prog f_slices_Concat_api_Clause_api_Lit [.sl (.list .lit) a0] r := by
  have h2 := sat_of (r := r) (args := [.sl (.list .lit) a0]) (A := slices_Concat_api_Clause_api_Lit_A) (fn := Tryz.f188) (body := bodyOf Tryz.f188) (f := f_slices_Concat_api_Clause_api_Lit) factsEv Tryz.func188 (by kernel_rfl) (by rw [Tryz.ntmps188]; rfl) (by rw [Tryz.ntmps188]; exact Nat.le_of_ble_eq_true rfl)
  with_reducible exact h2 h
/-! ### slices.IndexFunc[cordon/api.Store,[]int] -/
def slices_IndexFunc_api_Store_int_A : Ann := { own := [], live := [(0, ([0, 1, 7, 8], []))], n := 19, nils := [], pubs := [] }
def slices_IndexFunc_api_Store_int_I0 (a0 : List (List Int)) (g1 : FuncId) (cap1 : List D) (R : D → Prop) (n0 : Nat) (v1 : Int) : Prop := iter (den Tryz.prog Ev slices_IndexFunc_api_Store_int_A (sub [1, 0, 1, 0, 0] (bodyOf Tryz.f190)) 0) slices_IndexFunc_api_Store_int_A (liveOf slices_IndexFunc_api_Store_int_A 0) n0 ⟨[(0, dS a0), (1, .clo g1 (some [.bool]) cap1), (7, dI (a0.length : Int)), (8, dI v1)], []⟩ (blockK 0 (seqK Tryz.prog Ev slices_IndexFunc_api_Store_int_A (sub [1, 1] (bodyOf Tryz.f190)) 0 (endK Ev Tryz.f190.results.toList R)))
theorem slices_IndexFunc_api_Store_int_I0_eq (a0 : List (List Int)) (g1 : FuncId) (cap1 : List D) (R : D → Prop) (n0 : Nat) (v1 : Int) : slices_IndexFunc_api_Store_int_I0 a0 g1 cap1 R (n0 + 1) v1 =
 (sel (decide (v1 < (a0.length : Int)))
 (inb v1 a0.length = true ∧
 Ent Tryz.prog g1 ∧
 Call1 Tryz.prog g1 ([.sl .int (at' (.list .int) a0 v1.toNat)] ++ cap1) .bool fun r2 =>
 sel r2
 (R (dI v1))
 (slices_IndexFunc_api_Store_int_I0 a0 g1 cap1 R n0 (w64 (v1 + 1))))
 (R (dI (-1)))) := by kernel_rfl
theorem slices_IndexFunc_api_Store_int_eq (a0 : List (List Int)) (g1 : FuncId) (cap1 : List D) (R : D → Prop) : fnD Tryz.prog Ev slices_IndexFunc_api_Store_int_A Tryz.f190.results.toList (bodyOf Tryz.f190) [dS a0, .clo g1 (some [.bool]) cap1] R =
 (∃ n0, slices_IndexFunc_api_Store_int_I0 a0 g1 cap1 R n0 0) := by kernel_rfl
theorem slices_IndexFunc_api_Store_int_sat {r : D} (a0 : List (List Int)) (g1 : FuncId) (cap1 : List D) (h : (∀ d ∈ [dS a0, .clo g1 (some [.bool]) cap1], okD d) → fnD Tryz.prog Ev slices_IndexFunc_api_Store_int_A Tryz.f190.results.toList (bodyOf Tryz.f190) [dS a0, .clo g1 (some [.bool]) cap1] fun d => d = r) : Sat Tryz.prog f_slices_IndexFunc_api_Store_int [dS a0, .clo g1 (some [.bool]) cap1] r := by
  have h2 := sat_of (r := r) (args := [dS a0, .clo g1 (some [.bool]) cap1]) (A := slices_IndexFunc_api_Store_int_A) (fn := Tryz.f190) (body := bodyOf Tryz.f190) (f := f_slices_IndexFunc_api_Store_int) factsEv Tryz.func190 (by kernel_rfl) (by rw [Tryz.ntmps190]; rfl) (by rw [Tryz.ntmps190]; exact Nat.le_of_ble_eq_true rfl)
  with_reducible exact h2 h
/-! ### slices.IndexFunc[[]cordon/api.Var,cordon/api.Var] -/
def slices_IndexFunc_l_api_Var_api_Var_A : Ann := { own := [], live := [(0, ([0, 1, 7, 8], []))], n := 19, nils := [], pubs := [] }
def slices_IndexFunc_l_api_Var_api_Var_I0 (a0 : List VarD) (g1 : FuncId) (cap1 : List D) (R : D → Prop) (n0 : Nat) (v1 : Int) : Prop := iter (den Tryz.prog Ev slices_IndexFunc_l_api_Var_api_Var_A (sub [1, 0, 1, 0, 0] (bodyOf Tryz.f197)) 0) slices_IndexFunc_l_api_Var_api_Var_A (liveOf slices_IndexFunc_l_api_Var_api_Var_A 0) n0 ⟨[(0, .sl .var a0), (1, .clo g1 (some [.bool]) cap1), (7, dI (a0.length : Int)), (8, dI v1)], []⟩ (blockK 0 (seqK Tryz.prog Ev slices_IndexFunc_l_api_Var_api_Var_A (sub [1, 1] (bodyOf Tryz.f197)) 0 (endK Ev Tryz.f197.results.toList R)))
theorem slices_IndexFunc_l_api_Var_api_Var_I0_eq (a0 : List VarD) (g1 : FuncId) (cap1 : List D) (R : D → Prop) (n0 : Nat) (v1 : Int) : slices_IndexFunc_l_api_Var_api_Var_I0 a0 g1 cap1 R (n0 + 1) v1 =
 (sel (decide (v1 < (a0.length : Int)))
 (inb v1 a0.length = true ∧
 Ent Tryz.prog g1 ∧
 Call1 Tryz.prog g1 ([dV (at' .var a0 v1.toNat)] ++ cap1) .bool fun r2 =>
 sel r2
 (R (dI v1))
 (slices_IndexFunc_l_api_Var_api_Var_I0 a0 g1 cap1 R n0 (w64 (v1 + 1))))
 (R (dI (-1)))) := by kernel_rfl
theorem slices_IndexFunc_l_api_Var_api_Var_eq (a0 : List VarD) (g1 : FuncId) (cap1 : List D) (R : D → Prop) : fnD Tryz.prog Ev slices_IndexFunc_l_api_Var_api_Var_A Tryz.f197.results.toList (bodyOf Tryz.f197) [.sl .var a0, .clo g1 (some [.bool]) cap1] R =
 (∃ n0, slices_IndexFunc_l_api_Var_api_Var_I0 a0 g1 cap1 R n0 0) := by kernel_rfl
theorem slices_IndexFunc_l_api_Var_api_Var_sat {r : D} (a0 : List VarD) (g1 : FuncId) (cap1 : List D) (h : (∀ d ∈ [.sl .var a0, .clo g1 (some [.bool]) cap1], okD d) → fnD Tryz.prog Ev slices_IndexFunc_l_api_Var_api_Var_A Tryz.f197.results.toList (bodyOf Tryz.f197) [.sl .var a0, .clo g1 (some [.bool]) cap1] fun d => d = r) : Sat Tryz.prog f_slices_IndexFunc_l_api_Var_api_Var [.sl .var a0, .clo g1 (some [.bool]) cap1] r := by
  have h2 := sat_of (r := r) (args := [.sl .var a0, .clo g1 (some [.bool]) cap1]) (A := slices_IndexFunc_l_api_Var_api_Var_A) (fn := Tryz.f197) (body := bodyOf Tryz.f197) (f := f_slices_IndexFunc_l_api_Var_api_Var) factsEv Tryz.func197 (by kernel_rfl) (by rw [Tryz.ntmps197]; rfl) (by rw [Tryz.ntmps197]; exact Nat.le_of_ble_eq_true rfl)
  with_reducible exact h2 h
end Go.Proofs.YtgnjdgafkjohaaaGreat
