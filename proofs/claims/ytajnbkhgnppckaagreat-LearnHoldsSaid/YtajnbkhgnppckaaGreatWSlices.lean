/- What the functions of a package do, as equations of plain propositions: printed by a program that carries the code out on symbols. -/
import Derived.Test.YtajnbkhgnppckaaGreatWEv
namespace Go.Proofs.YtajnbkhgnppckaaGreat
open Go.RowKit
set_option linter.unusedVariables false
set_option maxRecDepth 100000
/-! ### slices.ContainsFunc[cordon/api.Clause,cordon/api.Lit] -/
def slices_ContainsFunc_api_Clause_api_Lit_A : Ann := { own := [], live := [], n := 9, nils := [], pubs := [] }
theorem slices_ContainsFunc_api_Clause_api_Lit_eq (a0 : List LitD) (g1 : FuncId) (cap1 : List D) (R : D → Prop) : fnD Tryz.prog Ev slices_ContainsFunc_api_Clause_api_Lit_A Tryz.f66.results.toList (bodyOf Tryz.f66) [.sl .lit a0, .clo g1 (some [.bool]) cap1] R =
 (Call1 Tryz.prog f_slices_IndexFunc_api_Clause_api_Lit [.sl .lit a0, .clo g1 (some [.bool]) cap1] .int fun s1 =>
 R (dB (decide (0 ≤ s1)))) := by kernel_rfl
theorem slices_ContainsFunc_api_Clause_api_Lit_sat {r : D} (a0 : List LitD) (g1 : FuncId) (cap1 : List D) (h : (∀ d ∈ [.sl .lit a0, .clo g1 (some [.bool]) cap1], okD d) → fnD Tryz.prog Ev slices_ContainsFunc_api_Clause_api_Lit_A Tryz.f66.results.toList (bodyOf Tryz.f66) [.sl .lit a0, .clo g1 (some [.bool]) cap1] fun d => d = r) : Sat Tryz.prog f_slices_ContainsFunc_api_Clause_api_Lit [.sl .lit a0, .clo g1 (some [.bool]) cap1] r := by
  have h2 := sat_of (r := r) (args := [.sl .lit a0, .clo g1 (some [.bool]) cap1]) (A := slices_ContainsFunc_api_Clause_api_Lit_A) (fn := Tryz.f66) (body := bodyOf Tryz.f66) (f := f_slices_ContainsFunc_api_Clause_api_Lit) factsEv Tryz.func66 (by kernel_rfl) (by rw [Tryz.ntmps66]; rfl) (by rw [Tryz.ntmps66]; exact Nat.le_of_ble_eq_true rfl)
  with_reducible exact h2 h
/-! ### slices.Contains[[]int,int] -/
def slices_Contains_l_int_int_A : Ann := { own := [], live := [], n := 9, nils := [], pubs := [] }
theorem slices_Contains_l_int_int_eq (a0 : List Int) (a1 : Int) (R : D → Prop) : fnD Tryz.prog Ev slices_Contains_l_int_int_A Tryz.f82.results.toList (bodyOf Tryz.f82) [.sl .int a0, dI a1] R =
 (Call1 Tryz.prog f_slices_Index_l_int_int [.sl .int a0, dI a1] .int fun s1 =>
 R (dB (decide (0 ≤ s1)))) := by kernel_rfl
theorem slices_Contains_l_int_int_sat {r : D} (a0 : List Int) (a1 : Int) (h : (∀ d ∈ [.sl .int a0, dI a1], okD d) → fnD Tryz.prog Ev slices_Contains_l_int_int_A Tryz.f82.results.toList (bodyOf Tryz.f82) [.sl .int a0, dI a1] fun d => d = r) : Sat Tryz.prog f_slices_Contains_l_int_int [.sl .int a0, dI a1] r := by
  have h2 := sat_of (r := r) (args := [.sl .int a0, dI a1]) (A := slices_Contains_l_int_int_A) (fn := Tryz.f82) (body := bodyOf Tryz.f82) (f := f_slices_Contains_l_int_int) factsEv Tryz.func82 (by kernel_rfl) (by rw [Tryz.ntmps82]; rfl) (by rw [Tryz.ntmps82]; exact Nat.le_of_ble_eq_true rfl)
  with_reducible exact h2 h
/-! ### slices.Clone[[]cordon/api.Lit,cordon/api.Lit] -/
def slices_Clone_l_api_Lit_api_Lit_A : Ann := { own := [2, 5, 7], live := [], n := 8, nils := [], pubs := [] }
theorem slices_Clone_l_api_Lit_api_Lit_eq (s0 : List LitD) (R : D → List (Nat × HObj) → Prop) : fnH Tryz.prog Ev slices_Clone_l_api_Lit_api_Lit_A Tryz.f97.results.toList (bodyOf Tryz.f97) [.sl .lit s0] [] [] true R =
 (∀ b1 : Bool, (b1 = true → s0 = []) →
 sel b1
 (R (.own 3000) [(3000, .row 82 .lit ([] : List LitD))])
 (room .lit (([] : List LitD).length + s0.length) = true ∧
 R (.own 3000) [(3000, .row 82 .lit (([] : List LitD) ++ s0))])) := by kernel_rfl
theorem slices_Clone_l_api_Lit_api_Lit_sat {r : D} {h0 : List (Nat × HObj)} (s0 : List LitD) (h : (∀ d ∈ [.sl .lit s0], okD d) → (∀ k o, look k [] = some o → okO o) → fnH Tryz.prog Ev slices_Clone_l_api_Lit_api_Lit_A Tryz.f97.results.toList (bodyOf Tryz.f97) [.sl .lit s0] [] [] true fun d h1 => d = r ∧ h1 = h0) : SatH Tryz.prog f_slices_Clone_l_api_Lit_api_Lit [.sl .lit s0] [] r h0 := by
  have h2 := satH_of (r := r) (hp := []) (hp' := h0) (roots := []) (args := [.sl .lit s0]) (A := slices_Clone_l_api_Lit_api_Lit_A) (fn := Tryz.f97) (body := bodyOf Tryz.f97) (f := f_slices_Clone_l_api_Lit_api_Lit) (own := true) factsEv Tryz.func97 (by kernel_rfl) (by rw [Tryz.ntmps97]; rfl) (by rw [Tryz.ntmps97]; exact Nat.le_of_ble_eq_true rfl)
  with_reducible exact h2 h
/-! ### slices.Concat[[]cordon/api.Lit,cordon/api.Lit] -/
def slices_Concat_l_api_Lit_api_Lit_A : Ann := { own := [33], live := [(0, ([0, 3, 9, 10, 11], [])), (2, ([6, 25, 26, 27], [31536]))], n := 36, nils := [], pubs := [] }
def slices_Concat_l_api_Lit_api_Lit_I2 (a0 : List (List LitD)) (R : D → Prop) (n2 : Nat) (v4 : Int) (l5 : List LitD) : Prop := iter (den Tryz.prog Ev slices_Concat_l_api_Lit_api_Lit_A (sub [1, 1, 1, 1, 0, 1, 0, 0] (bodyOf Tryz.f98)) 2) slices_Concat_l_api_Lit_api_Lit_A (liveOf slices_Concat_l_api_Lit_api_Lit_A 2) n2 ⟨[(6, .own 31536), (25, .sl (.list .lit) a0), (26, dI (a0.length : Int)), (27, dI v4)], [(31536, .row 82 .lit l5)]⟩ (blockK 2 (seqK Tryz.prog Ev slices_Concat_l_api_Lit_api_Lit_A (sub [1, 1, 1, 1, 1] (bodyOf Tryz.f98)) 0 (endK Ev Tryz.f98.results.toList R)))
def slices_Concat_l_api_Lit_api_Lit_I0 (a0 : List (List LitD)) (R : D → Prop) (n0 : Nat) (size1 : Int) (v2 : Int) : Prop := iter (den Tryz.prog Ev slices_Concat_l_api_Lit_api_Lit_A (sub [1, 1, 0, 1, 0, 0] (bodyOf Tryz.f98)) 0) slices_Concat_l_api_Lit_api_Lit_A (liveOf slices_Concat_l_api_Lit_api_Lit_A 0) n0 ⟨[(0, .sl (.list .lit) a0), (3, dI size1), (9, .sl (.list .lit) a0), (10, dI (a0.length : Int)), (11, dI v2)], []⟩ (blockK 0 (seqK Tryz.prog Ev slices_Concat_l_api_Lit_api_Lit_A (sub [1, 1, 1] (bodyOf Tryz.f98)) 0 (endK Ev Tryz.f98.results.toList R)))
theorem slices_Concat_l_api_Lit_api_Lit_I2_eq (a0 : List (List LitD)) (R : D → Prop) (n2 : Nat) (v4 : Int) (l5 : List LitD) : slices_Concat_l_api_Lit_api_Lit_I2 a0 R (n2 + 1) v4 l5 =
 (sel (decide (v4 < (a0.length : Int)))
 (inb v4 a0.length = true ∧
 room .lit (l5.length + (at' (.list .lit) a0 v4.toNat).length) = true ∧
 slices_Concat_l_api_Lit_api_Lit_I2 a0 R n2 (w64 (v4 + 1)) (l5 ++ (at' (.list .lit) a0 v4.toNat)))
 (R (.sl .lit l5))) := by kernel_rfl
theorem slices_Concat_l_api_Lit_api_Lit_I0_eq (a0 : List (List LitD)) (R : D → Prop) (n0 : Nat) (size1 : Int) (v2 : Int) : slices_Concat_l_api_Lit_api_Lit_I0 a0 R (n0 + 1) size1 v2 =
 (sel (decide (v2 < (a0.length : Int)))
 (inb v2 a0.length = true ∧
 sel (decide ((w64 (size1 + ((at' (.list .lit) a0 v2.toNat).length : Int))) < 0))
 (False)
 (slices_Concat_l_api_Lit_api_Lit_I0 a0 R n0 (w64 (size1 + ((at' (.list .lit) a0 v2.toNat).length : Int))) (w64 (v2 + 1))))
 (∃ l3 : List LitD, SatH Tryz.prog f_slices_Grow_l_api_Lit_api_Lit [.nil, dI size1] [] (.own 3000) [(3000, .row 82 .lit l3)] ∧
 ∃ n2, slices_Concat_l_api_Lit_api_Lit_I2 a0 R n2 0 l3)) := by kernel_rfl
theorem slices_Concat_l_api_Lit_api_Lit_eq (a0 : List (List LitD)) (R : D → Prop) : fnD Tryz.prog Ev slices_Concat_l_api_Lit_api_Lit_A Tryz.f98.results.toList (bodyOf Tryz.f98) [.sl (.list .lit) a0] R =
 (∃ n0, slices_Concat_l_api_Lit_api_Lit_I0 a0 R n0 0 0) := by kernel_rfl
theorem slices_Concat_l_api_Lit_api_Lit_sat {r : D} (a0 : List (List LitD)) (h : (∀ d ∈ [.sl (.list .lit) a0], okD d) → fnD Tryz.prog Ev slices_Concat_l_api_Lit_api_Lit_A Tryz.f98.results.toList (bodyOf Tryz.f98) [.sl (.list .lit) a0] fun d => d = r) : Sat Tryz.prog f_slices_Concat_l_api_Lit_api_Lit [.sl (.list .lit) a0] r := by
  have h2 := sat_of (r := r) (args := [.sl (.list .lit) a0]) (A := slices_Concat_l_api_Lit_api_Lit_A) (fn := Tryz.f98) (body := bodyOf Tryz.f98) (f := f_slices_Concat_l_api_Lit_api_Lit) factsEv Tryz.func98 (by kernel_rfl) (by rw [Tryz.ntmps98]; rfl) (by rw [Tryz.ntmps98]; exact Nat.le_of_ble_eq_true rfl)
  with_reducible exact h2 h
/-! ### slices.ContainsFunc[[]int,int] -/
def slices_ContainsFunc_l_int_int_A : Ann := { own := [], live := [], n := 9, nils := [], pubs := [] }
theorem slices_ContainsFunc_l_int_int_eq (a0 : List Int) (g1 : FuncId) (cap1 : List D) (R : D → Prop) : fnD Tryz.prog Ev slices_ContainsFunc_l_int_int_A Tryz.f109.results.toList (bodyOf Tryz.f109) [.sl .int a0, .clo g1 (some [.bool]) cap1] R =
 (Call1 Tryz.prog f_slices_IndexFunc_l_int_int [.sl .int a0, .clo g1 (some [.bool]) cap1] .int fun s1 =>
 R (dB (decide (0 ≤ s1)))) := by kernel_rfl
theorem slices_ContainsFunc_l_int_int_sat {r : D} (a0 : List Int) (g1 : FuncId) (cap1 : List D) (h : (∀ d ∈ [.sl .int a0, .clo g1 (some [.bool]) cap1], okD d) → fnD Tryz.prog Ev slices_ContainsFunc_l_int_int_A Tryz.f109.results.toList (bodyOf Tryz.f109) [.sl .int a0, .clo g1 (some [.bool]) cap1] fun d => d = r) : Sat Tryz.prog f_slices_ContainsFunc_l_int_int [.sl .int a0, .clo g1 (some [.bool]) cap1] r := by
  have h2 := sat_of (r := r) (args := [.sl .int a0, .clo g1 (some [.bool]) cap1]) (A := slices_ContainsFunc_l_int_int_A) (fn := Tryz.f109) (body := bodyOf Tryz.f109) (f := f_slices_ContainsFunc_l_int_int) factsEv Tryz.func109 (by kernel_rfl) (by rw [Tryz.ntmps109]; rfl) (by rw [Tryz.ntmps109]; exact Nat.le_of_ble_eq_true rfl)
  with_reducible exact h2 h
/-! ### slices.ContainsFunc[[]cordon/api.Con,cordon/api.Con] -/
def slices_ContainsFunc_l_api_Con_api_Con_A : Ann := { own := [], live := [], n := 9, nils := [], pubs := [] }
theorem slices_ContainsFunc_l_api_Con_api_Con_eq (a0 : List ConD) (g1 : FuncId) (cap1 : List D) (R : D → Prop) : fnD Tryz.prog Ev slices_ContainsFunc_l_api_Con_api_Con_A Tryz.f116.results.toList (bodyOf Tryz.f116) [.sl .con a0, .clo g1 (some [.bool]) cap1] R =
 (Call1 Tryz.prog f_slices_IndexFunc_l_api_Con_api_Con [.sl .con a0, .clo g1 (some [.bool]) cap1] .int fun s1 =>
 R (dB (decide (0 ≤ s1)))) := by kernel_rfl
theorem slices_ContainsFunc_l_api_Con_api_Con_sat {r : D} (a0 : List ConD) (g1 : FuncId) (cap1 : List D) (h : (∀ d ∈ [.sl .con a0, .clo g1 (some [.bool]) cap1], okD d) → fnD Tryz.prog Ev slices_ContainsFunc_l_api_Con_api_Con_A Tryz.f116.results.toList (bodyOf Tryz.f116) [.sl .con a0, .clo g1 (some [.bool]) cap1] fun d => d = r) : Sat Tryz.prog f_slices_ContainsFunc_l_api_Con_api_Con [.sl .con a0, .clo g1 (some [.bool]) cap1] r := by
  have h2 := sat_of (r := r) (args := [.sl .con a0, .clo g1 (some [.bool]) cap1]) (A := slices_ContainsFunc_l_api_Con_api_Con_A) (fn := Tryz.f116) (body := bodyOf Tryz.f116) (f := f_slices_ContainsFunc_l_api_Con_api_Con) factsEv Tryz.func116 (by kernel_rfl) (by rw [Tryz.ntmps116]; rfl) (by rw [Tryz.ntmps116]; exact Nat.le_of_ble_eq_true rfl)
  with_reducible exact h2 h
/-! ### slices.IndexFunc[cordon/api.Clause,cordon/api.Lit] -/
def slices_IndexFunc_api_Clause_api_Lit_A : Ann := { own := [], live := [(0, ([0, 1, 7, 8], []))], n := 19, nils := [], pubs := [] }
def slices_IndexFunc_api_Clause_api_Lit_I0 (a0 : List LitD) (g1 : FuncId) (cap1 : List D) (R : D → Prop) (n0 : Nat) (v1 : Int) : Prop := iter (den Tryz.prog Ev slices_IndexFunc_api_Clause_api_Lit_A (sub [1, 0, 1, 0, 0] (bodyOf Tryz.f118)) 0) slices_IndexFunc_api_Clause_api_Lit_A (liveOf slices_IndexFunc_api_Clause_api_Lit_A 0) n0 ⟨[(0, .sl .lit a0), (1, .clo g1 (some [.bool]) cap1), (7, dI (a0.length : Int)), (8, dI v1)], []⟩ (blockK 0 (seqK Tryz.prog Ev slices_IndexFunc_api_Clause_api_Lit_A (sub [1, 1] (bodyOf Tryz.f118)) 0 (endK Ev Tryz.f118.results.toList R)))
theorem slices_IndexFunc_api_Clause_api_Lit_I0_eq (a0 : List LitD) (g1 : FuncId) (cap1 : List D) (R : D → Prop) (n0 : Nat) (v1 : Int) : slices_IndexFunc_api_Clause_api_Lit_I0 a0 g1 cap1 R (n0 + 1) v1 =
 (sel (decide (v1 < (a0.length : Int)))
 (inb v1 a0.length = true ∧
 Ent Tryz.prog g1 ∧
 Call1 Tryz.prog g1 ([dL (at' .lit a0 v1.toNat)] ++ cap1) .bool fun r2 =>
 sel r2
 (R (dI v1))
 (slices_IndexFunc_api_Clause_api_Lit_I0 a0 g1 cap1 R n0 (w64 (v1 + 1))))
 (R (dI (-1)))) := by kernel_rfl
theorem slices_IndexFunc_api_Clause_api_Lit_eq (a0 : List LitD) (g1 : FuncId) (cap1 : List D) (R : D → Prop) : fnD Tryz.prog Ev slices_IndexFunc_api_Clause_api_Lit_A Tryz.f118.results.toList (bodyOf Tryz.f118) [.sl .lit a0, .clo g1 (some [.bool]) cap1] R =
 (∃ n0, slices_IndexFunc_api_Clause_api_Lit_I0 a0 g1 cap1 R n0 0) := by kernel_rfl
theorem slices_IndexFunc_api_Clause_api_Lit_sat {r : D} (a0 : List LitD) (g1 : FuncId) (cap1 : List D) (h : (∀ d ∈ [.sl .lit a0, .clo g1 (some [.bool]) cap1], okD d) → fnD Tryz.prog Ev slices_IndexFunc_api_Clause_api_Lit_A Tryz.f118.results.toList (bodyOf Tryz.f118) [.sl .lit a0, .clo g1 (some [.bool]) cap1] fun d => d = r) : Sat Tryz.prog f_slices_IndexFunc_api_Clause_api_Lit [.sl .lit a0, .clo g1 (some [.bool]) cap1] r := by
  have h2 := sat_of (r := r) (args := [.sl .lit a0, .clo g1 (some [.bool]) cap1]) (A := slices_IndexFunc_api_Clause_api_Lit_A) (fn := Tryz.f118) (body := bodyOf Tryz.f118) (f := f_slices_IndexFunc_api_Clause_api_Lit) factsEv Tryz.func118 (by kernel_rfl) (by rw [Tryz.ntmps118]; rfl) (by rw [Tryz.ntmps118]; exact Nat.le_of_ble_eq_true rfl)
  with_reducible exact h2 h
/-! ### slices.Index[[]int,int] -/
def slices_Index_l_int_int_A : Ann := { own := [], live := [(0, ([0, 1, 7, 8], []))], n := 19, nils := [], pubs := [] }
def slices_Index_l_int_int_I0 (a0 : List Int) (a1 : Int) (R : D → Prop) (n0 : Nat) (v1 : Int) : Prop := iter (den Tryz.prog Ev slices_Index_l_int_int_A (sub [1, 0, 1, 0, 0] (bodyOf Tryz.f131)) 0) slices_Index_l_int_int_A (liveOf slices_Index_l_int_int_A 0) n0 ⟨[(0, .sl .int a0), (1, dI a1), (7, dI (a0.length : Int)), (8, dI v1)], []⟩ (blockK 0 (seqK Tryz.prog Ev slices_Index_l_int_int_A (sub [1, 1] (bodyOf Tryz.f131)) 0 (endK Ev Tryz.f131.results.toList R)))
theorem slices_Index_l_int_int_I0_eq (a0 : List Int) (a1 : Int) (R : D → Prop) (n0 : Nat) (v1 : Int) : slices_Index_l_int_int_I0 a0 a1 R (n0 + 1) v1 =
 (sel (decide (v1 < (a0.length : Int)))
 (inb v1 a0.length = true ∧
 sel (decide (a1 = (at' .int a0 v1.toNat)))
 (R (dI v1))
 (slices_Index_l_int_int_I0 a0 a1 R n0 (w64 (v1 + 1))))
 (R (dI (-1)))) := by kernel_rfl
theorem slices_Index_l_int_int_eq (a0 : List Int) (a1 : Int) (R : D → Prop) : fnD Tryz.prog Ev slices_Index_l_int_int_A Tryz.f131.results.toList (bodyOf Tryz.f131) [.sl .int a0, dI a1] R =
 (∃ n0, slices_Index_l_int_int_I0 a0 a1 R n0 0) := by kernel_rfl
theorem slices_Index_l_int_int_sat {r : D} (a0 : List Int) (a1 : Int) (h : (∀ d ∈ [.sl .int a0, dI a1], okD d) → fnD Tryz.prog Ev slices_Index_l_int_int_A Tryz.f131.results.toList (bodyOf Tryz.f131) [.sl .int a0, dI a1] fun d => d = r) : Sat Tryz.prog f_slices_Index_l_int_int [.sl .int a0, dI a1] r := by
  have h2 := sat_of (r := r) (args := [.sl .int a0, dI a1]) (A := slices_Index_l_int_int_A) (fn := Tryz.f131) (body := bodyOf Tryz.f131) (f := f_slices_Index_l_int_int) factsEv Tryz.func131 (by kernel_rfl) (by rw [Tryz.ntmps131]; rfl) (by rw [Tryz.ntmps131]; exact Nat.le_of_ble_eq_true rfl)
  with_reducible exact h2 h
/-! ### slices.EqualFunc[cordon/api.Store,cordon/api.Store,[]int,[]int] -/
def slices_EqualFunc_api_Store_api_Store_int_int_A : Ann := { own := [], live := [(0, ([1, 2, 15, 16, 17], []))], n := 32, nils := [], pubs := [] }
def slices_EqualFunc_api_Store_api_Store_int_int_I0 (a0 : List (List Int)) (a1 : List (List Int)) (g2 : FuncId) (cap2 : List D) (R : D → Prop) (n0 : Nat) (v1 : Int) : Prop := iter (den Tryz.prog Ev slices_EqualFunc_api_Store_api_Store_int_int_A (sub [1, 1, 0, 1, 0, 0] (bodyOf Tryz.f155)) 0) slices_EqualFunc_api_Store_api_Store_int_int_A (liveOf slices_EqualFunc_api_Store_api_Store_int_int_A 0) n0 ⟨[(1, dS a1), (2, .clo g2 (some [.bool]) cap2), (15, dS a0), (16, dI (a0.length : Int)), (17, dI v1)], []⟩ (blockK 0 (seqK Tryz.prog Ev slices_EqualFunc_api_Store_api_Store_int_int_A (sub [1, 1, 1] (bodyOf Tryz.f155)) 0 (endK Ev Tryz.f155.results.toList R)))
theorem slices_EqualFunc_api_Store_api_Store_int_int_I0_eq (a0 : List (List Int)) (a1 : List (List Int)) (g2 : FuncId) (cap2 : List D) (R : D → Prop) (n0 : Nat) (v1 : Int) : slices_EqualFunc_api_Store_api_Store_int_int_I0 a0 a1 g2 cap2 R (n0 + 1) v1 =
 (sel (decide (v1 < (a0.length : Int)))
 (inb v1 a0.length = true ∧
 inb v1 a1.length = true ∧
 Ent Tryz.prog g2 ∧
 Call1 Tryz.prog g2 ([.sl .int (at' (.list .int) a0 v1.toNat), .sl .int (at' (.list .int) a1 v1.toNat)] ++ cap2) .bool fun r2 =>
 sel (!r2)
 (R (dB false))
 (slices_EqualFunc_api_Store_api_Store_int_int_I0 a0 a1 g2 cap2 R n0 (w64 (v1 + 1))))
 (R (dB true))) := by kernel_rfl
theorem slices_EqualFunc_api_Store_api_Store_int_int_eq (a0 : List (List Int)) (a1 : List (List Int)) (g2 : FuncId) (cap2 : List D) (R : D → Prop) : fnD Tryz.prog Ev slices_EqualFunc_api_Store_api_Store_int_int_A Tryz.f155.results.toList (bodyOf Tryz.f155) [dS a0, dS a1, .clo g2 (some [.bool]) cap2] R =
 (sel (!decide ((a0.length : Int) = (a1.length : Int)))
 (R (dB false))
 (∃ n0, slices_EqualFunc_api_Store_api_Store_int_int_I0 a0 a1 g2 cap2 R n0 0)) := by kernel_rfl
theorem slices_EqualFunc_api_Store_api_Store_int_int_sat {r : D} (a0 : List (List Int)) (a1 : List (List Int)) (g2 : FuncId) (cap2 : List D) (h : (∀ d ∈ [dS a0, dS a1, .clo g2 (some [.bool]) cap2], okD d) → fnD Tryz.prog Ev slices_EqualFunc_api_Store_api_Store_int_int_A Tryz.f155.results.toList (bodyOf Tryz.f155) [dS a0, dS a1, .clo g2 (some [.bool]) cap2] fun d => d = r) : Sat Tryz.prog f_slices_EqualFunc_api_Store_api_Store_int_int [dS a0, dS a1, .clo g2 (some [.bool]) cap2] r := by
  have h2 := sat_of (r := r) (args := [dS a0, dS a1, .clo g2 (some [.bool]) cap2]) (A := slices_EqualFunc_api_Store_api_Store_int_int_A) (fn := Tryz.f155) (body := bodyOf Tryz.f155) (f := f_slices_EqualFunc_api_Store_api_Store_int_int) factsEv Tryz.func155 (by kernel_rfl) (by rw [Tryz.ntmps155]; rfl) (by rw [Tryz.ntmps155]; exact Nat.le_of_ble_eq_true rfl)
  with_reducible exact h2 h
/-! ### slices.Equal[[]int,int] -/
def slices_Equal_l_int_int_A : Ann := { own := [], live := [(0, ([0, 1, 12, 13], []))], n := 26, nils := [], pubs := [] }
def slices_Equal_l_int_int_I0 (a0 : List Int) (a1 : List Int) (R : D → Prop) (n0 : Nat) (v1 : Int) : Prop := iter (den Tryz.prog Ev slices_Equal_l_int_int_A (sub [1, 1, 0, 1, 0, 0] (bodyOf Tryz.f156)) 0) slices_Equal_l_int_int_A (liveOf slices_Equal_l_int_int_A 0) n0 ⟨[(0, .sl .int a0), (1, .sl .int a1), (12, dI (a0.length : Int)), (13, dI v1)], []⟩ (blockK 0 (seqK Tryz.prog Ev slices_Equal_l_int_int_A (sub [1, 1, 1] (bodyOf Tryz.f156)) 0 (endK Ev Tryz.f156.results.toList R)))
theorem slices_Equal_l_int_int_I0_eq (a0 : List Int) (a1 : List Int) (R : D → Prop) (n0 : Nat) (v1 : Int) : slices_Equal_l_int_int_I0 a0 a1 R (n0 + 1) v1 =
 (sel (decide (v1 < (a0.length : Int)))
 (inb v1 a0.length = true ∧
 inb v1 a1.length = true ∧
 sel (!decide ((at' .int a0 v1.toNat) = (at' .int a1 v1.toNat)))
 (R (dB false))
 (slices_Equal_l_int_int_I0 a0 a1 R n0 (w64 (v1 + 1))))
 (R (dB true))) := by kernel_rfl
theorem slices_Equal_l_int_int_eq (a0 : List Int) (a1 : List Int) (R : D → Prop) : fnD Tryz.prog Ev slices_Equal_l_int_int_A Tryz.f156.results.toList (bodyOf Tryz.f156) [.sl .int a0, .sl .int a1] R =
 (sel (!decide ((a0.length : Int) = (a1.length : Int)))
 (R (dB false))
 (∃ n0, slices_Equal_l_int_int_I0 a0 a1 R n0 0)) := by kernel_rfl
theorem slices_Equal_l_int_int_sat {r : D} (a0 : List Int) (a1 : List Int) (h : (∀ d ∈ [.sl .int a0, .sl .int a1], okD d) → fnD Tryz.prog Ev slices_Equal_l_int_int_A Tryz.f156.results.toList (bodyOf Tryz.f156) [.sl .int a0, .sl .int a1] fun d => d = r) : Sat Tryz.prog f_slices_Equal_l_int_int [.sl .int a0, .sl .int a1] r := by
  have h2 := sat_of (r := r) (args := [.sl .int a0, .sl .int a1]) (A := slices_Equal_l_int_int_A) (fn := Tryz.f156) (body := bodyOf Tryz.f156) (f := f_slices_Equal_l_int_int) factsEv Tryz.func156 (by kernel_rfl) (by rw [Tryz.ntmps156]; rfl) (by rw [Tryz.ntmps156]; exact Nat.le_of_ble_eq_true rfl)
  with_reducible exact h2 h
/-! ### slices.IndexFunc[[]int,int] -/
def slices_IndexFunc_l_int_int_A : Ann := { own := [], live := [(0, ([0, 1, 7, 8], []))], n := 19, nils := [], pubs := [] }
def slices_IndexFunc_l_int_int_I0 (a0 : List Int) (g1 : FuncId) (cap1 : List D) (R : D → Prop) (n0 : Nat) (v1 : Int) : Prop := iter (den Tryz.prog Ev slices_IndexFunc_l_int_int_A (sub [1, 0, 1, 0, 0] (bodyOf Tryz.f157)) 0) slices_IndexFunc_l_int_int_A (liveOf slices_IndexFunc_l_int_int_A 0) n0 ⟨[(0, .sl .int a0), (1, .clo g1 (some [.bool]) cap1), (7, dI (a0.length : Int)), (8, dI v1)], []⟩ (blockK 0 (seqK Tryz.prog Ev slices_IndexFunc_l_int_int_A (sub [1, 1] (bodyOf Tryz.f157)) 0 (endK Ev Tryz.f157.results.toList R)))
theorem slices_IndexFunc_l_int_int_I0_eq (a0 : List Int) (g1 : FuncId) (cap1 : List D) (R : D → Prop) (n0 : Nat) (v1 : Int) : slices_IndexFunc_l_int_int_I0 a0 g1 cap1 R (n0 + 1) v1 =
 (sel (decide (v1 < (a0.length : Int)))
 (inb v1 a0.length = true ∧
 Ent Tryz.prog g1 ∧
 Call1 Tryz.prog g1 ([dI (at' .int a0 v1.toNat)] ++ cap1) .bool fun r2 =>
 sel r2
 (R (dI v1))
 (slices_IndexFunc_l_int_int_I0 a0 g1 cap1 R n0 (w64 (v1 + 1))))
 (R (dI (-1)))) := by kernel_rfl
theorem slices_IndexFunc_l_int_int_eq (a0 : List Int) (g1 : FuncId) (cap1 : List D) (R : D → Prop) : fnD Tryz.prog Ev slices_IndexFunc_l_int_int_A Tryz.f157.results.toList (bodyOf Tryz.f157) [.sl .int a0, .clo g1 (some [.bool]) cap1] R =
 (∃ n0, slices_IndexFunc_l_int_int_I0 a0 g1 cap1 R n0 0) := by kernel_rfl
theorem slices_IndexFunc_l_int_int_sat {r : D} (a0 : List Int) (g1 : FuncId) (cap1 : List D) (h : (∀ d ∈ [.sl .int a0, .clo g1 (some [.bool]) cap1], okD d) → fnD Tryz.prog Ev slices_IndexFunc_l_int_int_A Tryz.f157.results.toList (bodyOf Tryz.f157) [.sl .int a0, .clo g1 (some [.bool]) cap1] fun d => d = r) : Sat Tryz.prog f_slices_IndexFunc_l_int_int [.sl .int a0, .clo g1 (some [.bool]) cap1] r := by
  have h2 := sat_of (r := r) (args := [.sl .int a0, .clo g1 (some [.bool]) cap1]) (A := slices_IndexFunc_l_int_int_A) (fn := Tryz.f157) (body := bodyOf Tryz.f157) (f := f_slices_IndexFunc_l_int_int) factsEv Tryz.func157 (by kernel_rfl) (by rw [Tryz.ntmps157]; rfl) (by rw [Tryz.ntmps157]; exact Nat.le_of_ble_eq_true rfl)
  with_reducible exact h2 h
/-! ### slices.ContainsFunc[[][]int,[]int] -/
def slices_ContainsFunc_rows_int_int_A : Ann := { own := [], live := [], n := 9, nils := [], pubs := [] }
theorem slices_ContainsFunc_rows_int_int_eq (a0 : List (List Int)) (g1 : FuncId) (cap1 : List D) (R : D → Prop) : fnD Tryz.prog Ev slices_ContainsFunc_rows_int_int_A Tryz.f161.results.toList (bodyOf Tryz.f161) [dS a0, .clo g1 (some [.bool]) cap1] R =
 (Call1 Tryz.prog f_slices_IndexFunc_rows_int_int [dS a0, .clo g1 (some [.bool]) cap1] .int fun s1 =>
 R (dB (decide (0 ≤ s1)))) := by kernel_rfl
theorem slices_ContainsFunc_rows_int_int_sat {r : D} (a0 : List (List Int)) (g1 : FuncId) (cap1 : List D) (h : (∀ d ∈ [dS a0, .clo g1 (some [.bool]) cap1], okD d) → fnD Tryz.prog Ev slices_ContainsFunc_rows_int_int_A Tryz.f161.results.toList (bodyOf Tryz.f161) [dS a0, .clo g1 (some [.bool]) cap1] fun d => d = r) : Sat Tryz.prog f_slices_ContainsFunc_rows_int_int [dS a0, .clo g1 (some [.bool]) cap1] r := by
  have h2 := sat_of (r := r) (args := [dS a0, .clo g1 (some [.bool]) cap1]) (A := slices_ContainsFunc_rows_int_int_A) (fn := Tryz.f161) (body := bodyOf Tryz.f161) (f := f_slices_ContainsFunc_rows_int_int) factsEv Tryz.func161 (by kernel_rfl) (by rw [Tryz.ntmps161]; rfl) (by rw [Tryz.ntmps161]; exact Nat.le_of_ble_eq_true rfl)
  with_reducible exact h2 h
/-! ### slices.ContainsFunc[[]cordon/api.Lit,cordon/api.Lit] -/
def slices_ContainsFunc_l_api_Lit_api_Lit_A : Ann := { own := [], live := [], n := 9, nils := [], pubs := [] }
theorem slices_ContainsFunc_l_api_Lit_api_Lit_eq (a0 : List LitD) (g1 : FuncId) (cap1 : List D) (R : D → Prop) : fnD Tryz.prog Ev slices_ContainsFunc_l_api_Lit_api_Lit_A Tryz.f163.results.toList (bodyOf Tryz.f163) [.sl .lit a0, .clo g1 (some [.bool]) cap1] R =
 (Call1 Tryz.prog f_slices_IndexFunc_l_api_Lit_api_Lit [.sl .lit a0, .clo g1 (some [.bool]) cap1] .int fun s1 =>
 R (dB (decide (0 ≤ s1)))) := by kernel_rfl
theorem slices_ContainsFunc_l_api_Lit_api_Lit_sat {r : D} (a0 : List LitD) (g1 : FuncId) (cap1 : List D) (h : (∀ d ∈ [.sl .lit a0, .clo g1 (some [.bool]) cap1], okD d) → fnD Tryz.prog Ev slices_ContainsFunc_l_api_Lit_api_Lit_A Tryz.f163.results.toList (bodyOf Tryz.f163) [.sl .lit a0, .clo g1 (some [.bool]) cap1] fun d => d = r) : Sat Tryz.prog f_slices_ContainsFunc_l_api_Lit_api_Lit [.sl .lit a0, .clo g1 (some [.bool]) cap1] r := by
  have h2 := sat_of (r := r) (args := [.sl .lit a0, .clo g1 (some [.bool]) cap1]) (A := slices_ContainsFunc_l_api_Lit_api_Lit_A) (fn := Tryz.f163) (body := bodyOf Tryz.f163) (f := f_slices_ContainsFunc_l_api_Lit_api_Lit) factsEv Tryz.func163 (by kernel_rfl) (by rw [Tryz.ntmps163]; rfl) (by rw [Tryz.ntmps163]; exact Nat.le_of_ble_eq_true rfl)
  with_reducible exact h2 h
/-! ### slices.Clone[[]int,int] -/
def slices_Clone_l_int_int_A : Ann := { own := [2, 5, 7], live := [], n := 8, nils := [], pubs := [] }
theorem slices_Clone_l_int_int_eq (s0 : List Int) (R : D → List (Nat × HObj) → Prop) : fnH Tryz.prog Ev slices_Clone_l_int_int_A Tryz.f164.results.toList (bodyOf Tryz.f164) [.sl .int s0] [] [] true R =
 (∀ b1 : Bool, (b1 = true → s0 = []) →
 sel b1
 (R (.own 3000) [(3000, .row 3 .int ([] : List Int))])
 (room .int (([] : List Int).length + s0.length) = true ∧
 R (.own 3000) [(3000, .row 3 .int (([] : List Int) ++ s0))])) := by kernel_rfl
theorem slices_Clone_l_int_int_sat {r : D} {h0 : List (Nat × HObj)} (s0 : List Int) (h : (∀ d ∈ [.sl .int s0], okD d) → (∀ k o, look k [] = some o → okO o) → fnH Tryz.prog Ev slices_Clone_l_int_int_A Tryz.f164.results.toList (bodyOf Tryz.f164) [.sl .int s0] [] [] true fun d h1 => d = r ∧ h1 = h0) : SatH Tryz.prog f_slices_Clone_l_int_int [.sl .int s0] [] r h0 := by
  have h2 := satH_of (r := r) (hp := []) (hp' := h0) (roots := []) (args := [.sl .int s0]) (A := slices_Clone_l_int_int_A) (fn := Tryz.f164) (body := bodyOf Tryz.f164) (f := f_slices_Clone_l_int_int) (own := true) factsEv Tryz.func164 (by kernel_rfl) (by rw [Tryz.ntmps164]; rfl) (by rw [Tryz.ntmps164]; exact Nat.le_of_ble_eq_true rfl)
  with_reducible exact h2 h
/-! ### slices.ContainsFunc[[]cordon/api.Var,cordon/api.Var] -/
def slices_ContainsFunc_l_api_Var_api_Var_A : Ann := { own := [], live := [], n := 9, nils := [], pubs := [] }
theorem slices_ContainsFunc_l_api_Var_api_Var_eq (a0 : List VarD) (g1 : FuncId) (cap1 : List D) (R : D → Prop) : fnD Tryz.prog Ev slices_ContainsFunc_l_api_Var_api_Var_A Tryz.f168.results.toList (bodyOf Tryz.f168) [.sl .var a0, .clo g1 (some [.bool]) cap1] R =
 (Call1 Tryz.prog f_slices_IndexFunc_l_api_Var_api_Var [.sl .var a0, .clo g1 (some [.bool]) cap1] .int fun s1 =>
 R (dB (decide (0 ≤ s1)))) := by kernel_rfl
theorem slices_ContainsFunc_l_api_Var_api_Var_sat {r : D} (a0 : List VarD) (g1 : FuncId) (cap1 : List D) (h : (∀ d ∈ [.sl .var a0, .clo g1 (some [.bool]) cap1], okD d) → fnD Tryz.prog Ev slices_ContainsFunc_l_api_Var_api_Var_A Tryz.f168.results.toList (bodyOf Tryz.f168) [.sl .var a0, .clo g1 (some [.bool]) cap1] fun d => d = r) : Sat Tryz.prog f_slices_ContainsFunc_l_api_Var_api_Var [.sl .var a0, .clo g1 (some [.bool]) cap1] r := by
  have h2 := sat_of (r := r) (args := [.sl .var a0, .clo g1 (some [.bool]) cap1]) (A := slices_ContainsFunc_l_api_Var_api_Var_A) (fn := Tryz.f168) (body := bodyOf Tryz.f168) (f := f_slices_ContainsFunc_l_api_Var_api_Var) factsEv Tryz.func168 (by kernel_rfl) (by rw [Tryz.ntmps168]; rfl) (by rw [Tryz.ntmps168]; exact Nat.le_of_ble_eq_true rfl)
  with_reducible exact h2 h
/-! ### slices.IndexFunc[[]cordon/api.Con,cordon/api.Con] -/
def slices_IndexFunc_l_api_Con_api_Con_A : Ann := { own := [], live := [(0, ([0, 1, 7, 8], []))], n := 19, nils := [], pubs := [] }
def slices_IndexFunc_l_api_Con_api_Con_I0 (a0 : List ConD) (g1 : FuncId) (cap1 : List D) (R : D → Prop) (n0 : Nat) (v1 : Int) : Prop := iter (den Tryz.prog Ev slices_IndexFunc_l_api_Con_api_Con_A (sub [1, 0, 1, 0, 0] (bodyOf Tryz.f175)) 0) slices_IndexFunc_l_api_Con_api_Con_A (liveOf slices_IndexFunc_l_api_Con_api_Con_A 0) n0 ⟨[(0, .sl .con a0), (1, .clo g1 (some [.bool]) cap1), (7, dI (a0.length : Int)), (8, dI v1)], []⟩ (blockK 0 (seqK Tryz.prog Ev slices_IndexFunc_l_api_Con_api_Con_A (sub [1, 1] (bodyOf Tryz.f175)) 0 (endK Ev Tryz.f175.results.toList R)))
theorem slices_IndexFunc_l_api_Con_api_Con_I0_eq (a0 : List ConD) (g1 : FuncId) (cap1 : List D) (R : D → Prop) (n0 : Nat) (v1 : Int) : slices_IndexFunc_l_api_Con_api_Con_I0 a0 g1 cap1 R (n0 + 1) v1 =
 (sel (decide (v1 < (a0.length : Int)))
 (inb v1 a0.length = true ∧
 Ent Tryz.prog g1 ∧
 Call1 Tryz.prog g1 ([dC (at' .con a0 v1.toNat)] ++ cap1) .bool fun r2 =>
 sel r2
 (R (dI v1))
 (slices_IndexFunc_l_api_Con_api_Con_I0 a0 g1 cap1 R n0 (w64 (v1 + 1))))
 (R (dI (-1)))) := by kernel_rfl
theorem slices_IndexFunc_l_api_Con_api_Con_eq (a0 : List ConD) (g1 : FuncId) (cap1 : List D) (R : D → Prop) : fnD Tryz.prog Ev slices_IndexFunc_l_api_Con_api_Con_A Tryz.f175.results.toList (bodyOf Tryz.f175) [.sl .con a0, .clo g1 (some [.bool]) cap1] R =
 (∃ n0, slices_IndexFunc_l_api_Con_api_Con_I0 a0 g1 cap1 R n0 0) := by kernel_rfl
theorem slices_IndexFunc_l_api_Con_api_Con_sat {r : D} (a0 : List ConD) (g1 : FuncId) (cap1 : List D) (h : (∀ d ∈ [.sl .con a0, .clo g1 (some [.bool]) cap1], okD d) → fnD Tryz.prog Ev slices_IndexFunc_l_api_Con_api_Con_A Tryz.f175.results.toList (bodyOf Tryz.f175) [.sl .con a0, .clo g1 (some [.bool]) cap1] fun d => d = r) : Sat Tryz.prog f_slices_IndexFunc_l_api_Con_api_Con [.sl .con a0, .clo g1 (some [.bool]) cap1] r := by
  have h2 := sat_of (r := r) (args := [.sl .con a0, .clo g1 (some [.bool]) cap1]) (A := slices_IndexFunc_l_api_Con_api_Con_A) (fn := Tryz.f175) (body := bodyOf Tryz.f175) (f := f_slices_IndexFunc_l_api_Con_api_Con) factsEv Tryz.func175 (by kernel_rfl) (by rw [Tryz.ntmps175]; rfl) (by rw [Tryz.ntmps175]; exact Nat.le_of_ble_eq_true rfl)
  with_reducible exact h2 h
/-! ### slices.ContainsFunc[cordon/api.Store,[]int] -/
def slices_ContainsFunc_api_Store_int_A : Ann := { own := [], live := [], n := 9, nils := [], pubs := [] }
theorem slices_ContainsFunc_api_Store_int_eq (a0 : List (List Int)) (g1 : FuncId) (cap1 : List D) (R : D → Prop) : fnD Tryz.prog Ev slices_ContainsFunc_api_Store_int_A Tryz.f176.results.toList (bodyOf Tryz.f176) [dS a0, .clo g1 (some [.bool]) cap1] R =
 (Call1 Tryz.prog f_slices_IndexFunc_api_Store_int [dS a0, .clo g1 (some [.bool]) cap1] .int fun s1 =>
 R (dB (decide (0 ≤ s1)))) := by kernel_rfl
theorem slices_ContainsFunc_api_Store_int_sat {r : D} (a0 : List (List Int)) (g1 : FuncId) (cap1 : List D) (h : (∀ d ∈ [dS a0, .clo g1 (some [.bool]) cap1], okD d) → fnD Tryz.prog Ev slices_ContainsFunc_api_Store_int_A Tryz.f176.results.toList (bodyOf Tryz.f176) [dS a0, .clo g1 (some [.bool]) cap1] fun d => d = r) : Sat Tryz.prog f_slices_ContainsFunc_api_Store_int [dS a0, .clo g1 (some [.bool]) cap1] r := by
  have h2 := sat_of (r := r) (args := [dS a0, .clo g1 (some [.bool]) cap1]) (A := slices_ContainsFunc_api_Store_int_A) (fn := Tryz.f176) (body := bodyOf Tryz.f176) (f := f_slices_ContainsFunc_api_Store_int) factsEv Tryz.func176 (by kernel_rfl) (by rw [Tryz.ntmps176]; rfl) (by rw [Tryz.ntmps176]; exact Nat.le_of_ble_eq_true rfl)
  with_reducible exact h2 h
/-! ### slices.IndexFunc[[]cordon/filter.term,cordon/filter.term] -/
def slices_IndexFunc_l_filter_term_filter_term_A : Ann := { own := [], live := [(0, ([0, 1, 7, 8], []))], n := 19, nils := [], pubs := [] }
def slices_IndexFunc_l_filter_term_filter_term_I0 (a0 : List TermD) (g1 : FuncId) (cap1 : List D) (R : D → Prop) (n0 : Nat) (v1 : Int) : Prop := iter (den Tryz.prog Ev slices_IndexFunc_l_filter_term_filter_term_A (sub [1, 0, 1, 0, 0] (bodyOf Tryz.f184)) 0) slices_IndexFunc_l_filter_term_filter_term_A (liveOf slices_IndexFunc_l_filter_term_filter_term_A 0) n0 ⟨[(0, .sl .term a0), (1, .clo g1 (some [.bool]) cap1), (7, dI (a0.length : Int)), (8, dI v1)], []⟩ (blockK 0 (seqK Tryz.prog Ev slices_IndexFunc_l_filter_term_filter_term_A (sub [1, 1] (bodyOf Tryz.f184)) 0 (endK Ev Tryz.f184.results.toList R)))
theorem slices_IndexFunc_l_filter_term_filter_term_I0_eq (a0 : List TermD) (g1 : FuncId) (cap1 : List D) (R : D → Prop) (n0 : Nat) (v1 : Int) : slices_IndexFunc_l_filter_term_filter_term_I0 a0 g1 cap1 R (n0 + 1) v1 =
 (sel (decide (v1 < (a0.length : Int)))
 (inb v1 a0.length = true ∧
 Ent Tryz.prog g1 ∧
 Call1 Tryz.prog g1 ([.agg [dI ((at' .term a0 v1.toNat).v), dI ((at' .term a0 v1.toNat).times)]] ++ cap1) .bool fun r2 =>
 sel r2
 (R (dI v1))
 (slices_IndexFunc_l_filter_term_filter_term_I0 a0 g1 cap1 R n0 (w64 (v1 + 1))))
 (R (dI (-1)))) := by kernel_rfl
theorem slices_IndexFunc_l_filter_term_filter_term_eq (a0 : List TermD) (g1 : FuncId) (cap1 : List D) (R : D → Prop) : fnD Tryz.prog Ev slices_IndexFunc_l_filter_term_filter_term_A Tryz.f184.results.toList (bodyOf Tryz.f184) [.sl .term a0, .clo g1 (some [.bool]) cap1] R =
 (∃ n0, slices_IndexFunc_l_filter_term_filter_term_I0 a0 g1 cap1 R n0 0) := by kernel_rfl
theorem slices_IndexFunc_l_filter_term_filter_term_sat {r : D} (a0 : List TermD) (g1 : FuncId) (cap1 : List D) (h : (∀ d ∈ [.sl .term a0, .clo g1 (some [.bool]) cap1], okD d) → fnD Tryz.prog Ev slices_IndexFunc_l_filter_term_filter_term_A Tryz.f184.results.toList (bodyOf Tryz.f184) [.sl .term a0, .clo g1 (some [.bool]) cap1] fun d => d = r) : Sat Tryz.prog f_slices_IndexFunc_l_filter_term_filter_term [.sl .term a0, .clo g1 (some [.bool]) cap1] r := by
  have h2 := sat_of (r := r) (args := [.sl .term a0, .clo g1 (some [.bool]) cap1]) (A := slices_IndexFunc_l_filter_term_filter_term_A) (fn := Tryz.f184) (body := bodyOf Tryz.f184) (f := f_slices_IndexFunc_l_filter_term_filter_term) factsEv Tryz.func184 (by kernel_rfl) (by rw [Tryz.ntmps184]; rfl) (by rw [Tryz.ntmps184]; exact Nat.le_of_ble_eq_true rfl)
  with_reducible exact h2 h
/-! ### slices.Clone[cordon/api.Store,[]int] -/
def slices_Clone_api_Store_int_A : Ann := { own := [2, 5, 7], live := [], n := 8, nils := [], pubs := [] }
theorem slices_Clone_api_Store_int_eq (s0 : List (List Int)) (R : D → List (Nat × HObj) → Prop) : fnH Tryz.prog Ev slices_Clone_api_Store_int_A Tryz.f188.results.toList (bodyOf Tryz.f188) [dS s0] [] [] true R =
 (∀ b1 : Bool, (b1 = true → s0 = []) →
 sel b1
 (R (.own 3000) [(3000, .row 46 (.list .int) ([] : List (List Int)))])
 (room (.list .int) (([] : List (List Int)).length + s0.length) = true ∧
 R (.own 3000) [(3000, .row 46 (.list .int) (([] : List (List Int)) ++ s0))])) := by kernel_rfl
theorem slices_Clone_api_Store_int_sat {r : D} {h0 : List (Nat × HObj)} (s0 : List (List Int)) (h : (∀ d ∈ [dS s0], okD d) → (∀ k o, look k [] = some o → okO o) → fnH Tryz.prog Ev slices_Clone_api_Store_int_A Tryz.f188.results.toList (bodyOf Tryz.f188) [dS s0] [] [] true fun d h1 => d = r ∧ h1 = h0) : SatH Tryz.prog f_slices_Clone_api_Store_int [dS s0] [] r h0 := by
  have h2 := satH_of (r := r) (hp := []) (hp' := h0) (roots := []) (args := [dS s0]) (A := slices_Clone_api_Store_int_A) (fn := Tryz.f188) (body := bodyOf Tryz.f188) (f := f_slices_Clone_api_Store_int) (own := true) factsEv Tryz.func188 (by kernel_rfl) (by rw [Tryz.ntmps188]; rfl) (by rw [Tryz.ntmps188]; exact Nat.le_of_ble_eq_true rfl)
  with_reducible exact h2 h
/-! ### slices.Concat[cordon/api.Clause,cordon/api.Lit] -/
def slices_Concat_api_Clause_api_Lit_A : Ann := { own := [33], live := [(0, ([0, 3, 9, 10, 11], [])), (2, ([6, 25, 26, 27], [31536]))], n := 36, nils := [], pubs := [] }
def slices_Concat_api_Clause_api_Lit_I2 (a0 : List (List LitD)) (R : D → Prop) (n2 : Nat) (v4 : Int) (l5 : List LitD) : Prop := iter (den Tryz.prog Ev slices_Concat_api_Clause_api_Lit_A (sub [1, 1, 1, 1, 0, 1, 0, 0] (bodyOf Tryz.f191)) 2) slices_Concat_api_Clause_api_Lit_A (liveOf slices_Concat_api_Clause_api_Lit_A 2) n2 ⟨[(6, .own 31536), (25, .sl (.list .lit) a0), (26, dI (a0.length : Int)), (27, dI v4)], [(31536, .row 82 .lit l5)]⟩ (blockK 2 (seqK Tryz.prog Ev slices_Concat_api_Clause_api_Lit_A (sub [1, 1, 1, 1, 1] (bodyOf Tryz.f191)) 0 (endK Ev Tryz.f191.results.toList R)))
def slices_Concat_api_Clause_api_Lit_I0 (a0 : List (List LitD)) (R : D → Prop) (n0 : Nat) (size1 : Int) (v2 : Int) : Prop := iter (den Tryz.prog Ev slices_Concat_api_Clause_api_Lit_A (sub [1, 1, 0, 1, 0, 0] (bodyOf Tryz.f191)) 0) slices_Concat_api_Clause_api_Lit_A (liveOf slices_Concat_api_Clause_api_Lit_A 0) n0 ⟨[(0, .sl (.list .lit) a0), (3, dI size1), (9, .sl (.list .lit) a0), (10, dI (a0.length : Int)), (11, dI v2)], []⟩ (blockK 0 (seqK Tryz.prog Ev slices_Concat_api_Clause_api_Lit_A (sub [1, 1, 1] (bodyOf Tryz.f191)) 0 (endK Ev Tryz.f191.results.toList R)))
theorem slices_Concat_api_Clause_api_Lit_I2_eq (a0 : List (List LitD)) (R : D → Prop) (n2 : Nat) (v4 : Int) (l5 : List LitD) : slices_Concat_api_Clause_api_Lit_I2 a0 R (n2 + 1) v4 l5 =
 (sel (decide (v4 < (a0.length : Int)))
 (inb v4 a0.length = true ∧
 room .lit (l5.length + (at' (.list .lit) a0 v4.toNat).length) = true ∧
 slices_Concat_api_Clause_api_Lit_I2 a0 R n2 (w64 (v4 + 1)) (l5 ++ (at' (.list .lit) a0 v4.toNat)))
 (R (.sl .lit l5))) := by kernel_rfl
theorem slices_Concat_api_Clause_api_Lit_I0_eq (a0 : List (List LitD)) (R : D → Prop) (n0 : Nat) (size1 : Int) (v2 : Int) : slices_Concat_api_Clause_api_Lit_I0 a0 R (n0 + 1) size1 v2 =
 (sel (decide (v2 < (a0.length : Int)))
 (inb v2 a0.length = true ∧
 sel (decide ((w64 (size1 + ((at' (.list .lit) a0 v2.toNat).length : Int))) < 0))
 (False)
 (slices_Concat_api_Clause_api_Lit_I0 a0 R n0 (w64 (size1 + ((at' (.list .lit) a0 v2.toNat).length : Int))) (w64 (v2 + 1))))
 (∃ l3 : List LitD, SatH Tryz.prog f_slices_Grow_api_Clause_api_Lit [.nil, dI size1] [] (.own 3000) [(3000, .row 82 .lit l3)] ∧
 ∃ n2, slices_Concat_api_Clause_api_Lit_I2 a0 R n2 0 l3)) := by kernel_rfl
theorem slices_Concat_api_Clause_api_Lit_eq (a0 : List (List LitD)) (R : D → Prop) : fnD Tryz.prog Ev slices_Concat_api_Clause_api_Lit_A Tryz.f191.results.toList (bodyOf Tryz.f191) [.sl (.list .lit) a0] R =
 (∃ n0, slices_Concat_api_Clause_api_Lit_I0 a0 R n0 0 0) := by kernel_rfl
theorem slices_Concat_api_Clause_api_Lit_sat {r : D} (a0 : List (List LitD)) (h : (∀ d ∈ [.sl (.list .lit) a0], okD d) → fnD Tryz.prog Ev slices_Concat_api_Clause_api_Lit_A Tryz.f191.results.toList (bodyOf Tryz.f191) [.sl (.list .lit) a0] fun d => d = r) : Sat Tryz.prog f_slices_Concat_api_Clause_api_Lit [.sl (.list .lit) a0] r := by
  have h2 := sat_of (r := r) (args := [.sl (.list .lit) a0]) (A := slices_Concat_api_Clause_api_Lit_A) (fn := Tryz.f191) (body := bodyOf Tryz.f191) (f := f_slices_Concat_api_Clause_api_Lit) factsEv Tryz.func191 (by kernel_rfl) (by rw [Tryz.ntmps191]; rfl) (by rw [Tryz.ntmps191]; exact Nat.le_of_ble_eq_true rfl)
  with_reducible exact h2 h
/-! ### slices.IndexFunc[[][]int,[]int] -/
def slices_IndexFunc_rows_int_int_A : Ann := { own := [], live := [(0, ([0, 1, 7, 8], []))], n := 19, nils := [], pubs := [] }
def slices_IndexFunc_rows_int_int_I0 (a0 : List (List Int)) (g1 : FuncId) (cap1 : List D) (R : D → Prop) (n0 : Nat) (v1 : Int) : Prop := iter (den Tryz.prog Ev slices_IndexFunc_rows_int_int_A (sub [1, 0, 1, 0, 0] (bodyOf Tryz.f195)) 0) slices_IndexFunc_rows_int_int_A (liveOf slices_IndexFunc_rows_int_int_A 0) n0 ⟨[(0, dS a0), (1, .clo g1 (some [.bool]) cap1), (7, dI (a0.length : Int)), (8, dI v1)], []⟩ (blockK 0 (seqK Tryz.prog Ev slices_IndexFunc_rows_int_int_A (sub [1, 1] (bodyOf Tryz.f195)) 0 (endK Ev Tryz.f195.results.toList R)))
theorem slices_IndexFunc_rows_int_int_I0_eq (a0 : List (List Int)) (g1 : FuncId) (cap1 : List D) (R : D → Prop) (n0 : Nat) (v1 : Int) : slices_IndexFunc_rows_int_int_I0 a0 g1 cap1 R (n0 + 1) v1 =
 (sel (decide (v1 < (a0.length : Int)))
 (inb v1 a0.length = true ∧
 Ent Tryz.prog g1 ∧
 Call1 Tryz.prog g1 ([.sl .int (at' (.list .int) a0 v1.toNat)] ++ cap1) .bool fun r2 =>
 sel r2
 (R (dI v1))
 (slices_IndexFunc_rows_int_int_I0 a0 g1 cap1 R n0 (w64 (v1 + 1))))
 (R (dI (-1)))) := by kernel_rfl
theorem slices_IndexFunc_rows_int_int_eq (a0 : List (List Int)) (g1 : FuncId) (cap1 : List D) (R : D → Prop) : fnD Tryz.prog Ev slices_IndexFunc_rows_int_int_A Tryz.f195.results.toList (bodyOf Tryz.f195) [dS a0, .clo g1 (some [.bool]) cap1] R =
 (∃ n0, slices_IndexFunc_rows_int_int_I0 a0 g1 cap1 R n0 0) := by kernel_rfl
theorem slices_IndexFunc_rows_int_int_sat {r : D} (a0 : List (List Int)) (g1 : FuncId) (cap1 : List D) (h : (∀ d ∈ [dS a0, .clo g1 (some [.bool]) cap1], okD d) → fnD Tryz.prog Ev slices_IndexFunc_rows_int_int_A Tryz.f195.results.toList (bodyOf Tryz.f195) [dS a0, .clo g1 (some [.bool]) cap1] fun d => d = r) : Sat Tryz.prog f_slices_IndexFunc_rows_int_int [dS a0, .clo g1 (some [.bool]) cap1] r := by
  have h2 := sat_of (r := r) (args := [dS a0, .clo g1 (some [.bool]) cap1]) (A := slices_IndexFunc_rows_int_int_A) (fn := Tryz.f195) (body := bodyOf Tryz.f195) (f := f_slices_IndexFunc_rows_int_int) factsEv Tryz.func195 (by kernel_rfl) (by rw [Tryz.ntmps195]; rfl) (by rw [Tryz.ntmps195]; exact Nat.le_of_ble_eq_true rfl)
  with_reducible exact h2 h
/-! ### slices.IndexFunc[[]cordon/api.Lit,cordon/api.Lit] -/
def slices_IndexFunc_l_api_Lit_api_Lit_A : Ann := { own := [], live := [(0, ([0, 1, 7, 8], []))], n := 19, nils := [], pubs := [] }
def slices_IndexFunc_l_api_Lit_api_Lit_I0 (a0 : List LitD) (g1 : FuncId) (cap1 : List D) (R : D → Prop) (n0 : Nat) (v1 : Int) : Prop := iter (den Tryz.prog Ev slices_IndexFunc_l_api_Lit_api_Lit_A (sub [1, 0, 1, 0, 0] (bodyOf Tryz.f196)) 0) slices_IndexFunc_l_api_Lit_api_Lit_A (liveOf slices_IndexFunc_l_api_Lit_api_Lit_A 0) n0 ⟨[(0, .sl .lit a0), (1, .clo g1 (some [.bool]) cap1), (7, dI (a0.length : Int)), (8, dI v1)], []⟩ (blockK 0 (seqK Tryz.prog Ev slices_IndexFunc_l_api_Lit_api_Lit_A (sub [1, 1] (bodyOf Tryz.f196)) 0 (endK Ev Tryz.f196.results.toList R)))
theorem slices_IndexFunc_l_api_Lit_api_Lit_I0_eq (a0 : List LitD) (g1 : FuncId) (cap1 : List D) (R : D → Prop) (n0 : Nat) (v1 : Int) : slices_IndexFunc_l_api_Lit_api_Lit_I0 a0 g1 cap1 R (n0 + 1) v1 =
 (sel (decide (v1 < (a0.length : Int)))
 (inb v1 a0.length = true ∧
 Ent Tryz.prog g1 ∧
 Call1 Tryz.prog g1 ([dL (at' .lit a0 v1.toNat)] ++ cap1) .bool fun r2 =>
 sel r2
 (R (dI v1))
 (slices_IndexFunc_l_api_Lit_api_Lit_I0 a0 g1 cap1 R n0 (w64 (v1 + 1))))
 (R (dI (-1)))) := by kernel_rfl
theorem slices_IndexFunc_l_api_Lit_api_Lit_eq (a0 : List LitD) (g1 : FuncId) (cap1 : List D) (R : D → Prop) : fnD Tryz.prog Ev slices_IndexFunc_l_api_Lit_api_Lit_A Tryz.f196.results.toList (bodyOf Tryz.f196) [.sl .lit a0, .clo g1 (some [.bool]) cap1] R =
 (∃ n0, slices_IndexFunc_l_api_Lit_api_Lit_I0 a0 g1 cap1 R n0 0) := by kernel_rfl
theorem slices_IndexFunc_l_api_Lit_api_Lit_sat {r : D} (a0 : List LitD) (g1 : FuncId) (cap1 : List D) (h : (∀ d ∈ [.sl .lit a0, .clo g1 (some [.bool]) cap1], okD d) → fnD Tryz.prog Ev slices_IndexFunc_l_api_Lit_api_Lit_A Tryz.f196.results.toList (bodyOf Tryz.f196) [.sl .lit a0, .clo g1 (some [.bool]) cap1] fun d => d = r) : Sat Tryz.prog f_slices_IndexFunc_l_api_Lit_api_Lit [.sl .lit a0, .clo g1 (some [.bool]) cap1] r := by
  have h2 := sat_of (r := r) (args := [.sl .lit a0, .clo g1 (some [.bool]) cap1]) (A := slices_IndexFunc_l_api_Lit_api_Lit_A) (fn := Tryz.f196) (body := bodyOf Tryz.f196) (f := f_slices_IndexFunc_l_api_Lit_api_Lit) factsEv Tryz.func196 (by kernel_rfl) (by rw [Tryz.ntmps196]; rfl) (by rw [Tryz.ntmps196]; exact Nat.le_of_ble_eq_true rfl)
  with_reducible exact h2 h
/-! ### slices.IndexFunc[[]cordon/api.Var,cordon/api.Var] -/
def slices_IndexFunc_l_api_Var_api_Var_A : Ann := { own := [], live := [(0, ([0, 1, 7, 8], []))], n := 19, nils := [], pubs := [] }
def slices_IndexFunc_l_api_Var_api_Var_I0 (a0 : List VarD) (g1 : FuncId) (cap1 : List D) (R : D → Prop) (n0 : Nat) (v1 : Int) : Prop := iter (den Tryz.prog Ev slices_IndexFunc_l_api_Var_api_Var_A (sub [1, 0, 1, 0, 0] (bodyOf Tryz.f202)) 0) slices_IndexFunc_l_api_Var_api_Var_A (liveOf slices_IndexFunc_l_api_Var_api_Var_A 0) n0 ⟨[(0, .sl .var a0), (1, .clo g1 (some [.bool]) cap1), (7, dI (a0.length : Int)), (8, dI v1)], []⟩ (blockK 0 (seqK Tryz.prog Ev slices_IndexFunc_l_api_Var_api_Var_A (sub [1, 1] (bodyOf Tryz.f202)) 0 (endK Ev Tryz.f202.results.toList R)))
theorem slices_IndexFunc_l_api_Var_api_Var_I0_eq (a0 : List VarD) (g1 : FuncId) (cap1 : List D) (R : D → Prop) (n0 : Nat) (v1 : Int) : slices_IndexFunc_l_api_Var_api_Var_I0 a0 g1 cap1 R (n0 + 1) v1 =
 (sel (decide (v1 < (a0.length : Int)))
 (inb v1 a0.length = true ∧
 Ent Tryz.prog g1 ∧
 Call1 Tryz.prog g1 ([dV (at' .var a0 v1.toNat)] ++ cap1) .bool fun r2 =>
 sel r2
 (R (dI v1))
 (slices_IndexFunc_l_api_Var_api_Var_I0 a0 g1 cap1 R n0 (w64 (v1 + 1))))
 (R (dI (-1)))) := by kernel_rfl
theorem slices_IndexFunc_l_api_Var_api_Var_eq (a0 : List VarD) (g1 : FuncId) (cap1 : List D) (R : D → Prop) : fnD Tryz.prog Ev slices_IndexFunc_l_api_Var_api_Var_A Tryz.f202.results.toList (bodyOf Tryz.f202) [.sl .var a0, .clo g1 (some [.bool]) cap1] R =
 (∃ n0, slices_IndexFunc_l_api_Var_api_Var_I0 a0 g1 cap1 R n0 0) := by kernel_rfl
theorem slices_IndexFunc_l_api_Var_api_Var_sat {r : D} (a0 : List VarD) (g1 : FuncId) (cap1 : List D) (h : (∀ d ∈ [.sl .var a0, .clo g1 (some [.bool]) cap1], okD d) → fnD Tryz.prog Ev slices_IndexFunc_l_api_Var_api_Var_A Tryz.f202.results.toList (bodyOf Tryz.f202) [.sl .var a0, .clo g1 (some [.bool]) cap1] fun d => d = r) : Sat Tryz.prog f_slices_IndexFunc_l_api_Var_api_Var [.sl .var a0, .clo g1 (some [.bool]) cap1] r := by
  have h2 := sat_of (r := r) (args := [.sl .var a0, .clo g1 (some [.bool]) cap1]) (A := slices_IndexFunc_l_api_Var_api_Var_A) (fn := Tryz.f202) (body := bodyOf Tryz.f202) (f := f_slices_IndexFunc_l_api_Var_api_Var) factsEv Tryz.func202 (by kernel_rfl) (by rw [Tryz.ntmps202]; rfl) (by rw [Tryz.ntmps202]; exact Nat.le_of_ble_eq_true rfl)
  with_reducible exact h2 h
/-! ### slices.IndexFunc[cordon/api.Store,[]int] -/
def slices_IndexFunc_api_Store_int_A : Ann := { own := [], live := [(0, ([0, 1, 7, 8], []))], n := 19, nils := [], pubs := [] }
def slices_IndexFunc_api_Store_int_I0 (a0 : List (List Int)) (g1 : FuncId) (cap1 : List D) (R : D → Prop) (n0 : Nat) (v1 : Int) : Prop := iter (den Tryz.prog Ev slices_IndexFunc_api_Store_int_A (sub [1, 0, 1, 0, 0] (bodyOf Tryz.f206)) 0) slices_IndexFunc_api_Store_int_A (liveOf slices_IndexFunc_api_Store_int_A 0) n0 ⟨[(0, dS a0), (1, .clo g1 (some [.bool]) cap1), (7, dI (a0.length : Int)), (8, dI v1)], []⟩ (blockK 0 (seqK Tryz.prog Ev slices_IndexFunc_api_Store_int_A (sub [1, 1] (bodyOf Tryz.f206)) 0 (endK Ev Tryz.f206.results.toList R)))
theorem slices_IndexFunc_api_Store_int_I0_eq (a0 : List (List Int)) (g1 : FuncId) (cap1 : List D) (R : D → Prop) (n0 : Nat) (v1 : Int) : slices_IndexFunc_api_Store_int_I0 a0 g1 cap1 R (n0 + 1) v1 =
 (sel (decide (v1 < (a0.length : Int)))
 (inb v1 a0.length = true ∧
 Ent Tryz.prog g1 ∧
 Call1 Tryz.prog g1 ([.sl .int (at' (.list .int) a0 v1.toNat)] ++ cap1) .bool fun r2 =>
 sel r2
 (R (dI v1))
 (slices_IndexFunc_api_Store_int_I0 a0 g1 cap1 R n0 (w64 (v1 + 1))))
 (R (dI (-1)))) := by kernel_rfl
theorem slices_IndexFunc_api_Store_int_eq (a0 : List (List Int)) (g1 : FuncId) (cap1 : List D) (R : D → Prop) : fnD Tryz.prog Ev slices_IndexFunc_api_Store_int_A Tryz.f206.results.toList (bodyOf Tryz.f206) [dS a0, .clo g1 (some [.bool]) cap1] R =
 (∃ n0, slices_IndexFunc_api_Store_int_I0 a0 g1 cap1 R n0 0) := by kernel_rfl
theorem slices_IndexFunc_api_Store_int_sat {r : D} (a0 : List (List Int)) (g1 : FuncId) (cap1 : List D) (h : (∀ d ∈ [dS a0, .clo g1 (some [.bool]) cap1], okD d) → fnD Tryz.prog Ev slices_IndexFunc_api_Store_int_A Tryz.f206.results.toList (bodyOf Tryz.f206) [dS a0, .clo g1 (some [.bool]) cap1] fun d => d = r) : Sat Tryz.prog f_slices_IndexFunc_api_Store_int [dS a0, .clo g1 (some [.bool]) cap1] r := by
  have h2 := sat_of (r := r) (args := [dS a0, .clo g1 (some [.bool]) cap1]) (A := slices_IndexFunc_api_Store_int_A) (fn := Tryz.f206) (body := bodyOf Tryz.f206) (f := f_slices_IndexFunc_api_Store_int) factsEv Tryz.func206 (by kernel_rfl) (by rw [Tryz.ntmps206]; rfl) (by rw [Tryz.ntmps206]; exact Nat.le_of_ble_eq_true rfl)
  with_reducible exact h2 h
end Go.Proofs.YtajnbkhgnppckaaGreat
