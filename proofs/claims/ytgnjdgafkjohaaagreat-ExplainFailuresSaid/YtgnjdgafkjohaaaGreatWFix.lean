/- What the functions of a package do, as equations of plain propositions: printed by a program that carries the code out on symbols. -/
import Derived.Test.YtgnjdgafkjohaaaGreatWEv
namespace Go.Proofs.YtgnjdgafkjohaaaGreat
open Go.RowKit
set_option linter.unusedVariables false
set_option maxRecDepth 100000
/-! ### cordon/fix.Run -/
def fix_Run_A : Ann := { own := [], live := [(0, ([1, 2, 3, 4], [])), (2, ([1, 2, 3, 4, 9, 10], [])), (4, ([1, 2, 3, 4, 9, 11], []))], n := 62, nils := [], pubs := [] }
def fix_Run_I4 (a0 : MdlD) (a2 : Bool) (a3 : List (List LitD)) (R : D → Prop) (n0 : Nat) (s2 : List (List Int)) (n4 : Nat) (s7 : List (List Int)) (i8 : Int) : Prop := iter (den Tryz.prog Ev fix_Run_A (sub [1, 1, 0, 0, 0, 1, 1, 0, 1, 0, 0] (bodyOf Tryz.f80)) 4) fix_Run_A (liveOf fix_Run_A 4) n4 ⟨[(1, dS s7), (2, dB a2), (3, .sl (.list .lit) a3), (4, .iptr [.sl .var a0.vars, .sl .con a0.cons, dI a0.goal, dI a0.var] 0), (9, dS s2), (11, dI i8)], []⟩ (blockK 4 (seqK Tryz.prog Ev fix_Run_A (sub [1, 1, 0, 0, 0, 1, 1, 1] (bodyOf Tryz.f80)) 1 (blockK 1 (iterK (den Tryz.prog Ev fix_Run_A (sub [1, 1, 0, 0] (bodyOf Tryz.f80)) 0) fix_Run_A (liveOf fix_Run_A 0) n0 (blockK 0 (endK Ev Tryz.f80.results.toList R))))))
def fix_Run_I4_2 (a0 : MdlD) (a2 : Bool) (a3 : List (List LitD)) (R : D → Prop) (n0 : Nat) (s2 : List (List Int)) (n4_2 : Nat) (s17 : List (List Int)) (i18 : Int) : Prop := iter (den Tryz.prog Ev fix_Run_A (sub [1, 1, 0, 0, 0, 1, 1, 0, 1, 0, 0] (bodyOf Tryz.f80)) 4) fix_Run_A (liveOf fix_Run_A 4) n4_2 ⟨[(1, dS s17), (2, dB a2), (3, .sl (.list .lit) a3), (4, .iptr [.sl .var a0.vars, .sl .con a0.cons, dI a0.goal, dI a0.var] 0), (9, dS s2), (11, dI i18)], []⟩ (blockK 4 (seqK Tryz.prog Ev fix_Run_A (sub [1, 1, 0, 0, 0, 1, 1, 1] (bodyOf Tryz.f80)) 1 (blockK 1 (iterK (den Tryz.prog Ev fix_Run_A (sub [1, 1, 0, 0] (bodyOf Tryz.f80)) 0) fix_Run_A (liveOf fix_Run_A 0) n0 (blockK 0 (endK Ev Tryz.f80.results.toList R))))))
def fix_Run_I4_3 (a0 : MdlD) (a2 : Bool) (a3 : List (List LitD)) (R : D → Prop) (n0 : Nat) (s2 : List (List Int)) (n4_3 : Nat) (s27 : List (List Int)) (i28 : Int) : Prop := iter (den Tryz.prog Ev fix_Run_A (sub [1, 1, 0, 0, 0, 1, 1, 0, 1, 0, 0] (bodyOf Tryz.f80)) 4) fix_Run_A (liveOf fix_Run_A 4) n4_3 ⟨[(1, dS s27), (2, dB a2), (3, .sl (.list .lit) a3), (4, .iptr [.sl .var a0.vars, .sl .con a0.cons, dI a0.goal, dI a0.var] 0), (9, dS s2), (11, dI i28)], []⟩ (blockK 4 (seqK Tryz.prog Ev fix_Run_A (sub [1, 1, 0, 0, 0, 1, 1, 1] (bodyOf Tryz.f80)) 1 (blockK 1 (iterK (den Tryz.prog Ev fix_Run_A (sub [1, 1, 0, 0] (bodyOf Tryz.f80)) 0) fix_Run_A (liveOf fix_Run_A 0) n0 (blockK 0 (endK Ev Tryz.f80.results.toList R))))))
def fix_Run_I2 (a0 : MdlD) (a2 : Bool) (a3 : List (List LitD)) (R : D → Prop) (n0 : Nat) (s2 : List (List Int)) (n2 : Nat) (s3 : List (List Int)) (i4 : Int) : Prop := iter (den Tryz.prog Ev fix_Run_A (sub [1, 1, 0, 0, 0, 1, 0, 1, 0, 0] (bodyOf Tryz.f80)) 2) fix_Run_A (liveOf fix_Run_A 2) n2 ⟨[(1, dS s3), (2, dB a2), (3, .sl (.list .lit) a3), (4, .iptr [.sl .var a0.vars, .sl .con a0.cons, dI a0.goal, dI a0.var] 0), (9, dS s2), (10, dI i4)], []⟩ (blockK 2 (seqK Tryz.prog Ev fix_Run_A (sub [1, 1, 0, 0, 0, 1, 1] (bodyOf Tryz.f80)) 1 (blockK 1 (iterK (den Tryz.prog Ev fix_Run_A (sub [1, 1, 0, 0] (bodyOf Tryz.f80)) 0) fix_Run_A (liveOf fix_Run_A 0) n0 (blockK 0 (endK Ev Tryz.f80.results.toList R))))))
def fix_Run_I0 (a0 : MdlD) (a2 : Bool) (a3 : List (List LitD)) (R : D → Prop) (n0 : Nat) (s2 : List (List Int)) : Prop := iter (den Tryz.prog Ev fix_Run_A (sub [1, 1, 0, 0] (bodyOf Tryz.f80)) 0) fix_Run_A (liveOf fix_Run_A 0) n0 ⟨[(1, dS s2), (2, dB a2), (3, .sl (.list .lit) a3), (4, .iptr [.sl .var a0.vars, .sl .con a0.cons, dI a0.goal, dI a0.var] 0)], []⟩ (blockK 0 (endK Ev Tryz.f80.results.toList R))
theorem fix_Run_I4_eq (a0 : MdlD) (a2 : Bool) (a3 : List (List LitD)) (R : D → Prop) (n0 : Nat) (s2 : List (List Int)) (n4 : Nat) (s7 : List (List Int)) (i8 : Int) : fix_Run_I4 a0 a2 a3 R n0 s2 (n4 + 1) s7 i8 =
 (sel (decide (i8 < (a3.length : Int)))
 (Call1 Tryz.prog f_store_Empty [dS s7] .bool fun s9 =>
 sel (!s9)
 (inb i8 a3.length = true ∧
 Call1 Tryz.prog f_clause_Put [dS s7, .sl .lit (at' (.list .lit) a3 i8.toNat)] (.list (.list .int)) fun c10 =>
 fix_Run_I4 a0 a2 a3 R n0 s2 n4 c10 (w64 (i8 + 1)))
 (Call1 Tryz.prog f_store_Empty [dS s7] .bool fun s11 =>
 sel s11
 (Call1 Tryz.prog f_store_Nothing [dS s7] (.list (.list .int)) fun s12 =>
 R (dS s12))
 (Call1 Tryz.prog f_fix_same [dS s7, dS s2] .bool fun f13 =>
 sel f13
 (R (dS s7))
 (fix_Run_I0 a0 a2 a3 R n0 s7))))
 (Call1 Tryz.prog f_store_Empty [dS s7] .bool fun s14 =>
 sel s14
 (Call1 Tryz.prog f_store_Nothing [dS s7] (.list (.list .int)) fun s15 =>
 R (dS s15))
 (Call1 Tryz.prog f_fix_same [dS s7, dS s2] .bool fun f16 =>
 sel f16
 (R (dS s7))
 (fix_Run_I0 a0 a2 a3 R n0 s7)))) := by kernel_rfl
theorem fix_Run_I4_2_eq (a0 : MdlD) (a2 : Bool) (a3 : List (List LitD)) (R : D → Prop) (n0 : Nat) (s2 : List (List Int)) (n4_2 : Nat) (s17 : List (List Int)) (i18 : Int) : fix_Run_I4_2 a0 a2 a3 R n0 s2 (n4_2 + 1) s17 i18 =
 (sel (decide (i18 < (a3.length : Int)))
 (Call1 Tryz.prog f_store_Empty [dS s17] .bool fun s19 =>
 sel (!s19)
 (inb i18 a3.length = true ∧
 Call1 Tryz.prog f_clause_Put [dS s17, .sl .lit (at' (.list .lit) a3 i18.toNat)] (.list (.list .int)) fun c20 =>
 fix_Run_I4_2 a0 a2 a3 R n0 s2 n4_2 c20 (w64 (i18 + 1)))
 (Call1 Tryz.prog f_store_Empty [dS s17] .bool fun s21 =>
 sel s21
 (Call1 Tryz.prog f_store_Nothing [dS s17] (.list (.list .int)) fun s22 =>
 R (dS s22))
 (Call1 Tryz.prog f_fix_same [dS s17, dS s2] .bool fun f23 =>
 sel f23
 (R (dS s17))
 (fix_Run_I0 a0 a2 a3 R n0 s17))))
 (Call1 Tryz.prog f_store_Empty [dS s17] .bool fun s24 =>
 sel s24
 (Call1 Tryz.prog f_store_Nothing [dS s17] (.list (.list .int)) fun s25 =>
 R (dS s25))
 (Call1 Tryz.prog f_fix_same [dS s17, dS s2] .bool fun f26 =>
 sel f26
 (R (dS s17))
 (fix_Run_I0 a0 a2 a3 R n0 s17)))) := by kernel_rfl
theorem fix_Run_I4_3_eq (a0 : MdlD) (a2 : Bool) (a3 : List (List LitD)) (R : D → Prop) (n0 : Nat) (s2 : List (List Int)) (n4_3 : Nat) (s27 : List (List Int)) (i28 : Int) : fix_Run_I4_3 a0 a2 a3 R n0 s2 (n4_3 + 1) s27 i28 =
 (sel (decide (i28 < (a3.length : Int)))
 (Call1 Tryz.prog f_store_Empty [dS s27] .bool fun s29 =>
 sel (!s29)
 (inb i28 a3.length = true ∧
 Call1 Tryz.prog f_clause_Put [dS s27, .sl .lit (at' (.list .lit) a3 i28.toNat)] (.list (.list .int)) fun c30 =>
 fix_Run_I4_3 a0 a2 a3 R n0 s2 n4_3 c30 (w64 (i28 + 1)))
 (Call1 Tryz.prog f_store_Empty [dS s27] .bool fun s31 =>
 sel s31
 (Call1 Tryz.prog f_store_Nothing [dS s27] (.list (.list .int)) fun s32 =>
 R (dS s32))
 (Call1 Tryz.prog f_fix_same [dS s27, dS s2] .bool fun f33 =>
 sel f33
 (R (dS s27))
 (fix_Run_I0 a0 a2 a3 R n0 s27))))
 (Call1 Tryz.prog f_store_Empty [dS s27] .bool fun s34 =>
 sel s34
 (Call1 Tryz.prog f_store_Nothing [dS s27] (.list (.list .int)) fun s35 =>
 R (dS s35))
 (Call1 Tryz.prog f_fix_same [dS s27, dS s2] .bool fun f36 =>
 sel f36
 (R (dS s27))
 (fix_Run_I0 a0 a2 a3 R n0 s27)))) := by kernel_rfl
theorem fix_Run_I2_eq (a0 : MdlD) (a2 : Bool) (a3 : List (List LitD)) (R : D → Prop) (n0 : Nat) (s2 : List (List Int)) (n2 : Nat) (s3 : List (List Int)) (i4 : Int) : fix_Run_I2 a0 a2 a3 R n0 s2 (n2 + 1) s3 i4 =
 (sel a2
 (sel (decide (i4 < (a0.cons.length : Int)))
 (Call1 Tryz.prog f_store_Empty [dS s3] .bool fun s5 =>
 sel (!s5)
 (inb i4 a0.cons.length = true ∧
 Call1 Tryz.prog f_filter_Raw [dC (at' .con a0.cons i4.toNat), dS s3] (.list (.list .int)) fun f6 =>
 fix_Run_I2 a0 a2 a3 R n0 s2 n2 f6 (w64 (i4 + 1)))
 (∃ n4, fix_Run_I4 a0 a2 a3 R n0 s2 n4 s3 0))
 (∃ n4_2, fix_Run_I4_2 a0 a2 a3 R n0 s2 n4_2 s3 0))
 (∃ n4_3, fix_Run_I4_3 a0 a2 a3 R n0 s2 n4_3 s3 0)) := by kernel_rfl
theorem fix_Run_I0_eq (a0 : MdlD) (a2 : Bool) (a3 : List (List LitD)) (R : D → Prop) (n0 : Nat) (s2 : List (List Int)) : fix_Run_I0 a0 a2 a3 R (n0 + 1) s2 =
 (∃ n2, fix_Run_I2 a0 a2 a3 R n0 s2 n2 s2 0) := by kernel_rfl
theorem fix_Run_eq (a0 : MdlD) (a1 : List (List Int)) (a2 : Bool) (a3 : List (List LitD)) (R : D → Prop) : fnD Tryz.prog Ev fix_Run_A Tryz.f80.results.toList (bodyOf Tryz.f80) [dM a0, dS a1, dB a2, .sl (.list .lit) a3] R =
 (Call1 Tryz.prog f_store_Own [dS a1] (.list (.list .int)) fun s1 =>
 ∃ n0, fix_Run_I0 a0 a2 a3 R n0 s1) := by kernel_rfl
theorem fix_Run_sat {r : D} (a0 : MdlD) (a1 : List (List Int)) (a2 : Bool) (a3 : List (List LitD)) (h : (∀ d ∈ [dM a0, dS a1, dB a2, .sl (.list .lit) a3], okD d) → fnD Tryz.prog Ev fix_Run_A Tryz.f80.results.toList (bodyOf Tryz.f80) [dM a0, dS a1, dB a2, .sl (.list .lit) a3] fun d => d = r) : Sat Tryz.prog f_fix_Run [dM a0, dS a1, dB a2, .sl (.list .lit) a3] r := by
  have h2 := sat_of (r := r) (args := [dM a0, dS a1, dB a2, .sl (.list .lit) a3]) (A := fix_Run_A) (fn := Tryz.f80) (body := bodyOf Tryz.f80) (f := f_fix_Run) factsEv Tryz.func80 (by kernel_rfl) (by rw [Tryz.ntmps80]; rfl) (by rw [Tryz.ntmps80]; exact Nat.le_of_ble_eq_true rfl)
  with_reducible exact h2 h
/-! ### cordon/fix.Rights -/
def fix_Rights_A : Ann := { own := [], live := [(0, ([2, 11, 12, 13], []))], n := 24, nils := [], pubs := [] }
def fix_Rights_I0 (a0 : MdlD) (a1 : List (List LitD)) (R : D → Prop) (n0 : Nat) (v1 : Int) : Prop := iter (den Tryz.prog Ev fix_Rights_A (sub [1, 1, 0, 1, 0, 0] (bodyOf Tryz.f84)) 0) fix_Rights_A (liveOf fix_Rights_A 0) n0 ⟨[(2, .iptr [.sl .var a0.vars, .sl .con a0.cons, dI a0.goal, dI a0.var] 0), (11, .sl (.list .lit) a1), (12, dI (a1.length : Int)), (13, dI v1)], []⟩ (blockK 0 (seqK Tryz.prog Ev fix_Rights_A (sub [1, 1, 1] (bodyOf Tryz.f84)) 0 (endK Ev Tryz.f84.results.toList R)))
theorem fix_Rights_I0_eq (a0 : MdlD) (a1 : List (List LitD)) (R : D → Prop) (n0 : Nat) (v1 : Int) : fix_Rights_I0 a0 a1 R (n0 + 1) v1 =
 (sel (decide (v1 < (a1.length : Int)))
 (inb v1 a1.length = true ∧
 Call1 Tryz.prog f_clause_Right [dM a0, .sl .lit (at' (.list .lit) a1 v1.toNat)] .int fun c2 =>
 sel (!decide (c2 = 0))
 (R (dI c2))
 (fix_Rights_I0 a0 a1 R n0 (w64 (v1 + 1))))
 (R (dI 0))) := by kernel_rfl
theorem fix_Rights_eq (a0 : MdlD) (a1 : List (List LitD)) (R : D → Prop) : fnD Tryz.prog Ev fix_Rights_A Tryz.f84.results.toList (bodyOf Tryz.f84) [dM a0, .sl (.list .lit) a1] R =
 (sel (decide (600 < (a1.length : Int)))
 (R (dI 2))
 (∃ n0, fix_Rights_I0 a0 a1 R n0 0)) := by kernel_rfl
theorem fix_Rights_sat {r : D} (a0 : MdlD) (a1 : List (List LitD)) (h : (∀ d ∈ [dM a0, .sl (.list .lit) a1], okD d) → fnD Tryz.prog Ev fix_Rights_A Tryz.f84.results.toList (bodyOf Tryz.f84) [dM a0, .sl (.list .lit) a1] fun d => d = r) : Sat Tryz.prog f_fix_Rights [dM a0, .sl (.list .lit) a1] r := by
  have h2 := sat_of (r := r) (args := [dM a0, .sl (.list .lit) a1]) (A := fix_Rights_A) (fn := Tryz.f84) (body := bodyOf Tryz.f84) (f := f_fix_Rights) factsEv Tryz.func84 (by kernel_rfl) (by rw [Tryz.ntmps84]; rfl) (by rw [Tryz.ntmps84]; exact Nat.le_of_ble_eq_true rfl)
  with_reducible exact h2 h
/-! ### cordon/fix.same -/
def fix_same_A : Ann := { own := [], live := [], n := 8, nils := [], pubs := [] }
theorem fix_same_eq (a0 : List (List Int)) (a1 : List (List Int)) (R : D → Prop) : fnD Tryz.prog Ev fix_same_A Tryz.f134.results.toList (bodyOf Tryz.f134) [dS a0, dS a1] R =
 (Call1 Tryz.prog f_slices_EqualFunc_api_Store_api_Store_int_int [dS a0, dS a1, .clo f_fix_same_1 none []] .bool fun s1 =>
 R (dB s1)) := by kernel_rfl
theorem fix_same_sat {r : D} (a0 : List (List Int)) (a1 : List (List Int)) (h : (∀ d ∈ [dS a0, dS a1], okD d) → fnD Tryz.prog Ev fix_same_A Tryz.f134.results.toList (bodyOf Tryz.f134) [dS a0, dS a1] fun d => d = r) : Sat Tryz.prog f_fix_same [dS a0, dS a1] r := by
  have h2 := sat_of (r := r) (args := [dS a0, dS a1]) (A := fix_same_A) (fn := Tryz.f134) (body := bodyOf Tryz.f134) (f := f_fix_same) factsEv Tryz.func134 (by kernel_rfl) (by rw [Tryz.ntmps134]; rfl) (by rw [Tryz.ntmps134]; exact Nat.le_of_ble_eq_true rfl)
  with_reducible exact h2 h
/-! ### cordon/fix.same$1 -/
def fix_same_1_A : Ann := { own := [], live := [], n := 10, nils := [], pubs := [] }
theorem fix_same_1_eq (a0 : List Int) (a1 : List Int) (R : D → Prop) : fnD Tryz.prog Ev fix_same_1_A Tryz.f183.results.toList (bodyOf Tryz.f183) [.sl .int a0, .sl .int a1] R =
 (R (dB (decide ((a0.length : Int) = (a1.length : Int))))) := by kernel_rfl
theorem fix_same_1_sat {r : D} (a0 : List Int) (a1 : List Int) (h : (∀ d ∈ [.sl .int a0, .sl .int a1], okD d) → fnD Tryz.prog Ev fix_same_1_A Tryz.f183.results.toList (bodyOf Tryz.f183) [.sl .int a0, .sl .int a1] fun d => d = r) : Sat Tryz.prog f_fix_same_1 [.sl .int a0, .sl .int a1] r := by
  have h2 := sat_of (r := r) (args := [.sl .int a0, .sl .int a1]) (A := fix_same_1_A) (fn := Tryz.f183) (body := bodyOf Tryz.f183) (f := f_fix_same_1) factsEv Tryz.func183 (by kernel_rfl) (by rw [Tryz.ntmps183]; rfl) (by rw [Tryz.ntmps183]; exact Nat.le_of_ble_eq_true rfl)
  with_reducible exact h2 h
end Go.Proofs.YtgnjdgafkjohaaaGreat
