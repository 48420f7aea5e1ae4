/- What the functions of a package do, as equations of plain propositions: printed by a program that carries the code out on symbols. -/
import Derived.Test.YtgnjdgafkjohaaaGreatWEv
namespace Go.Proofs.YtgnjdgafkjohaaaGreat
open Go.RowKit
set_option linter.unusedVariables false
set_option maxRecDepth 100000
/-! ### cordon/cordonref.FilterOf -/
def cordonref_FilterOf_A : Ann := { own := [7, 10, 13, 14, 16, 31, 78, 95, 125, 129], live := [(0, ([2, 7, 8, 9, 10, 11], [7, 10, 31])), (2, ([2, 7, 8, 9, 10, 11, 12], [7, 10, 31])), (4, ([2, 8, 10, 14, 15], [10, 14])), (6, ([2, 8, 10, 14, 15, 16, 17], [10, 14, 16]))], n := 131, nils := [], pubs := [] }
def cordonref_FilterOf_I2 (a2 : List (List Int)) (R : D → Prop) (c2 : List Int) (n0 : Nat) (v5 : Int) (n2 : Nat) (v17 : Int) (c18 : Int) (c19 : List Int) (c20 : List Int) (c21 : Int) (c22 : List (List Int)) (c23 : List LitD) (l24 : List LitD) (l25 : List Int) : Prop := iter (den Tryz.prog Ev cordonref_FilterOf_A (sub [1, 1, 1, 1, 1, 1, 1, 0, 1, 0, 0, 1, 0, 0, 1, 1, 0, 0] (bodyOf Tryz.f17)) 2) cordonref_FilterOf_A (liveOf cordonref_FilterOf_A 2) n2 ⟨[(2, dS a2), (7, .ptr 7 0), (8, .sl .int c2), (9, .own 31), (10, .own 10), (11, dI v5), (12, dI v17)], [(7, .cells [dI c18, .sl .int c19, .sl .int c20, dI c21, dS c22, .sl .lit c23]), (10, .row 81 .lit l24), (31, .row 3 .int l25)]⟩ (blockK 2 (blockK 1 (seqK Tryz.prog Ev cordonref_FilterOf_A (sub [1, 1, 1, 1, 1, 1, 1, 0, 1, 0, 0, 1, 1] (bodyOf Tryz.f17)) 0 (iterK (den Tryz.prog Ev cordonref_FilterOf_A (sub [1, 1, 1, 1, 1, 1, 1, 0, 1, 0, 0] (bodyOf Tryz.f17)) 0) cordonref_FilterOf_A (liveOf cordonref_FilterOf_A 0) n0 (blockK 0 (seqK Tryz.prog Ev cordonref_FilterOf_A (sub [1, 1, 1, 1, 1, 1, 1, 1] (bodyOf Tryz.f17)) 0 (endK Ev Tryz.f17.results.toList R)))))))
def cordonref_FilterOf_I6 (a2 : List (List Int)) (R : D → Prop) (c2 : List Int) (n4 : Nat) (v30 : Int) (n6 : Nat) (v34 : Int) (l35 : List LitD) (l36 : List (List Int)) (l37 : List Int) : Prop := iter (den Tryz.prog Ev cordonref_FilterOf_A (sub [1, 1, 1, 1, 1, 1, 1, 1, 1, 0, 1, 0, 0, 1, 0, 0, 1, 1, 0, 1, 0, 0] (bodyOf Tryz.f17)) 6) cordonref_FilterOf_A (liveOf cordonref_FilterOf_A 6) n6 ⟨[(2, dS a2), (8, .sl .int c2), (10, .own 10), (14, .own 14), (15, dI v30), (16, .own 16), (17, dI v34)], [(10, .row 81 .lit l35), (14, .row 42 (.list .int) l36), (16, .row 3 .int l37)]⟩ (blockK 6 (seqK Tryz.prog Ev cordonref_FilterOf_A (sub [1, 1, 1, 1, 1, 1, 1, 1, 1, 0, 1, 0, 0, 1, 0, 0, 1, 1, 1] (bodyOf Tryz.f17)) 5 (blockK 5 (seqK Tryz.prog Ev cordonref_FilterOf_A (sub [1, 1, 1, 1, 1, 1, 1, 1, 1, 0, 1, 0, 0, 1, 1] (bodyOf Tryz.f17)) 4 (iterK (den Tryz.prog Ev cordonref_FilterOf_A (sub [1, 1, 1, 1, 1, 1, 1, 1, 1, 0, 1, 0, 0] (bodyOf Tryz.f17)) 4) cordonref_FilterOf_A (liveOf cordonref_FilterOf_A 4) n4 (blockK 4 (seqK Tryz.prog Ev cordonref_FilterOf_A (sub [1, 1, 1, 1, 1, 1, 1, 1, 1, 1] (bodyOf Tryz.f17)) 0 (endK Ev Tryz.f17.results.toList R))))))))
def cordonref_FilterOf_I4 (a2 : List (List Int)) (R : D → Prop) (c2 : List Int) (n4 : Nat) (v30 : Int) (l31 : List LitD) (l32 : List (List Int)) : Prop := iter (den Tryz.prog Ev cordonref_FilterOf_A (sub [1, 1, 1, 1, 1, 1, 1, 1, 1, 0, 1, 0, 0] (bodyOf Tryz.f17)) 4) cordonref_FilterOf_A (liveOf cordonref_FilterOf_A 4) n4 ⟨[(2, dS a2), (8, .sl .int c2), (10, .own 10), (14, .own 14), (15, dI v30)], [(10, .row 81 .lit l31), (14, .row 42 (.list .int) l32)]⟩ (blockK 4 (seqK Tryz.prog Ev cordonref_FilterOf_A (sub [1, 1, 1, 1, 1, 1, 1, 1, 1, 1] (bodyOf Tryz.f17)) 0 (endK Ev Tryz.f17.results.toList R)))
def cordonref_FilterOf_I0 (a2 : List (List Int)) (R : D → Prop) (c2 : List Int) (n0 : Nat) (v5 : Int) (c6 : Int) (c7 : List Int) (c8 : List Int) (c9 : Int) (c10 : List (List Int)) (c11 : List LitD) (l12 : List LitD) (l13 : List Int) : Prop := iter (den Tryz.prog Ev cordonref_FilterOf_A (sub [1, 1, 1, 1, 1, 1, 1, 0, 1, 0, 0] (bodyOf Tryz.f17)) 0) cordonref_FilterOf_A (liveOf cordonref_FilterOf_A 0) n0 ⟨[(2, dS a2), (7, .ptr 7 0), (8, .sl .int c2), (9, .own 31), (10, .own 10), (11, dI v5)], [(7, .cells [dI c6, .sl .int c7, .sl .int c8, dI c9, dS c10, .sl .lit c11]), (10, .row 81 .lit l12), (31, .row 3 .int l13)]⟩ (blockK 0 (seqK Tryz.prog Ev cordonref_FilterOf_A (sub [1, 1, 1, 1, 1, 1, 1, 1] (bodyOf Tryz.f17)) 0 (endK Ev Tryz.f17.results.toList R)))
theorem cordonref_FilterOf_I2_eq (a2 : List (List Int)) (R : D → Prop) (c2 : List Int) (n0 : Nat) (v5 : Int) (n2 : Nat) (v17 : Int) (c18 : Int) (c19 : List Int) (c20 : List Int) (c21 : Int) (c22 : List (List Int)) (c23 : List LitD) (l24 : List LitD) (l25 : List Int) : cordonref_FilterOf_I2 a2 R c2 n0 v5 (n2 + 1) v17 c18 c19 c20 c21 c22 c23 l24 l25 =
 (sel (decide (v17 < (c2.length : Int)))
 (inb v17 c2.length = true ∧
 inb v17 c2.length = true ∧
 ((inb (at' .int c2 v17.toNat) l25.length = true ∧
 (Call1 Tryz.prog f_cordonref_hasLit [.sl .lit l24, .agg [dI (at' .int c2 v17.toNat), dI 0, dI (at' .int l25 ((at' .int c2 v17.toNat).toNat))]] .bool fun c26 =>
 sel (!c26)
 (room .lit (l24.length + ([(⟨at' .int c2 v17.toNat, 0, at' .int l25 ((at' .int c2 v17.toNat).toNat)⟩ : LitD)]).length) = true ∧
 cordonref_FilterOf_I2 a2 R c2 n0 v5 n2 (w64 (v17 + 1)) c18 c19 c20 c21 c22 c23 (l24 ++ ([(⟨at' .int c2 v17.toNat, 0, at' .int l25 ((at' .int c2 v17.toNat).toNat)⟩ : LitD)])) l25)
 (cordonref_FilterOf_I2 a2 R c2 n0 v5 n2 (w64 (v17 + 1)) c18 c19 c20 c21 c22 c23 l24 l25)) ∧
 Call1 Tryz.prog f_cordonref_hasLit [.sl .lit l24, .agg [dI (at' .int c2 v17.toNat), dI 0, dI (at' .int l25 ((at' .int c2 v17.toNat).toNat))]] .bool fun c27 =>
 sel (!c27)
 (room .lit (l24.length + ([(⟨at' .int c2 v17.toNat, 0, at' .int l25 ((at' .int c2 v17.toNat).toNat)⟩ : LitD)]).length) = true ∧
 cordonref_FilterOf_I2 a2 R c2 n0 v5 n2 (w64 (v17 + 1)) c18 c19 c20 c21 c22 c23 (l24 ++ ([(⟨at' .int c2 v17.toNat, 0, at' .int l25 ((at' .int c2 v17.toNat).toNat)⟩ : LitD)])) l25)
 (cordonref_FilterOf_I2 a2 R c2 n0 v5 n2 (w64 (v17 + 1)) c18 c19 c20 c21 c22 c23 l24 l25)) ∧
 inb (at' .int c2 v17.toNat) l25.length = true ∧
 Call1 Tryz.prog f_cordonref_hasLit [.sl .lit l24, .agg [dI (at' .int c2 v17.toNat), dI 0, dI (at' .int l25 ((at' .int c2 v17.toNat).toNat))]] .bool fun c28 =>
 sel (!c28)
 (room .lit (l24.length + ([(⟨at' .int c2 v17.toNat, 0, at' .int l25 ((at' .int c2 v17.toNat).toNat)⟩ : LitD)]).length) = true ∧
 cordonref_FilterOf_I2 a2 R c2 n0 v5 n2 (w64 (v17 + 1)) c18 c19 c20 c21 c22 c23 (l24 ++ ([(⟨at' .int c2 v17.toNat, 0, at' .int l25 ((at' .int c2 v17.toNat).toNat)⟩ : LitD)])) l25)
 (cordonref_FilterOf_I2 a2 R c2 n0 v5 n2 (w64 (v17 + 1)) c18 c19 c20 c21 c22 c23 l24 l25)) ∧
 inb (at' .int c2 v17.toNat) l25.length = true ∧
 Call1 Tryz.prog f_cordonref_hasLit [.sl .lit l24, .agg [dI (at' .int c2 v17.toNat), dI 0, dI (at' .int l25 ((at' .int c2 v17.toNat).toNat))]] .bool fun c29 =>
 sel (!c29)
 (room .lit (l24.length + ([(⟨at' .int c2 v17.toNat, 0, at' .int l25 ((at' .int c2 v17.toNat).toNat)⟩ : LitD)]).length) = true ∧
 cordonref_FilterOf_I2 a2 R c2 n0 v5 n2 (w64 (v17 + 1)) c18 c19 c20 c21 c22 c23 (l24 ++ ([(⟨at' .int c2 v17.toNat, 0, at' .int l25 ((at' .int c2 v17.toNat).toNat)⟩ : LitD)])) l25)
 (cordonref_FilterOf_I2 a2 R c2 n0 v5 n2 (w64 (v17 + 1)) c18 c19 c20 c21 c22 c23 l24 l25))
 (cordonref_FilterOf_I0 a2 R c2 n0 (w64 (v5 + 1)) c18 c19 c20 c21 c22 c23 l24 l25)) := by kernel_rfl
theorem cordonref_FilterOf_I6_eq (a2 : List (List Int)) (R : D → Prop) (c2 : List Int) (n4 : Nat) (v30 : Int) (n6 : Nat) (v34 : Int) (l35 : List LitD) (l36 : List (List Int)) (l37 : List Int) : cordonref_FilterOf_I6 a2 R c2 n4 v30 (n6 + 1) v34 l35 l36 l37 =
 (inb v30 a2.length = true ∧
 sel (decide (v34 < ((at' (.list .int) a2 v30.toNat).length : Int)))
 (inb v30 a2.length = true ∧
 inb v34 (at' (.list .int) a2 v30.toNat).length = true ∧
 Call1 Tryz.prog f_cordonref_hasLit [.sl .lit l35, .agg [dI v30, dI 0, dI (at' .int (at' (.list .int) a2 v30.toNat) v34.toNat)]] .bool fun c38 =>
 sel c38
 (inb v30 a2.length = true ∧
 inb v34 (at' (.list .int) a2 v30.toNat).length = true ∧
 room .int (l37.length + ([at' .int (at' (.list .int) a2 v30.toNat) v34.toNat]).length) = true ∧
 cordonref_FilterOf_I6 a2 R c2 n4 v30 n6 (w64 (v34 + 1)) l35 l36 (l37 ++ ([at' .int (at' (.list .int) a2 v30.toNat) v34.toNat])))
 (cordonref_FilterOf_I6 a2 R c2 n4 v30 n6 (w64 (v34 + 1)) l35 l36 l37))
 (room (.list .int) (l36.length + ([l37]).length) = true ∧
 cordonref_FilterOf_I4 a2 R c2 n4 (w64 (v30 + 1)) l35 (l36 ++ ([l37])))) := by kernel_rfl
theorem cordonref_FilterOf_I4_eq (a2 : List (List Int)) (R : D → Prop) (c2 : List Int) (n4 : Nat) (v30 : Int) (l31 : List LitD) (l32 : List (List Int)) : cordonref_FilterOf_I4 a2 R c2 (n4 + 1) v30 l31 l32 =
 (sel (decide (v30 < (a2.length : Int)))
 (Call1 Tryz.prog f_cordonref_HasInt [.sl .int c2, dI v30] .bool fun c33 =>
 sel (!c33)
 (inb v30 a2.length = true ∧
 room (.list .int) (l32.length + ([at' (.list .int) a2 v30.toNat]).length) = true ∧
 cordonref_FilterOf_I4 a2 R c2 n4 (w64 (v30 + 1)) l31 (l32 ++ ([at' (.list .int) a2 v30.toNat])))
 (∃ n6, cordonref_FilterOf_I6 a2 R c2 n4 v30 n6 0 l31 l32 ([] : List Int)))
 (R (dS l32))) := by kernel_rfl
theorem cordonref_FilterOf_I0_eq (a2 : List (List Int)) (R : D → Prop) (c2 : List Int) (n0 : Nat) (v5 : Int) (c6 : Int) (c7 : List Int) (c8 : List Int) (c9 : Int) (c10 : List (List Int)) (c11 : List LitD) (l12 : List LitD) (l13 : List Int) : cordonref_FilterOf_I0 a2 R c2 (n0 + 1) v5 c6 c7 c8 c9 c10 c11 l12 l13 =
 (∃ c14 : Bool, ∃ c15 : List Int, SatH Tryz.prog f_cordonref_Chosen [dS a2, .sl .int c2, .own 1000, dI v5] [(1000, .row 3 .int l13)] (dB c14) [(1000, .row 3 .int c15)] ∧
 sel c14
 (Call1 Tryz.prog f_cordonref_ConHolds [.agg [dI c6, .sl .int c7, .sl .int c8, dI c9, dS c10, .sl .lit c11], .sl .int c15] .bool fun c16 =>
 sel (!c16)
 (cordonref_FilterOf_I0 a2 R c2 n0 (w64 (v5 + 1)) c6 c7 c8 c9 c10 c11 l12 c15)
 (∃ n2, cordonref_FilterOf_I2 a2 R c2 n0 v5 n2 0 c6 c7 c8 c9 c10 c11 l12 c15))
 (∃ n4, cordonref_FilterOf_I4 a2 R c2 n4 0 l12 ([] : List (List Int)))) := by kernel_rfl
theorem cordonref_FilterOf_eq (a0 : MdlD) (a1 : Int) (a2 : List (List Int)) (R : D → Prop) : fnD Tryz.prog Ev cordonref_FilterOf_A Tryz.f17.results.toList (bodyOf Tryz.f17) [dM a0, dI a1, dS a2] R =
 (Call1 Tryz.prog f_cordonref_HasFailed [dS a2] .bool fun c1 =>
 sel c1
 (R (dS a2))
 (inb a1 a0.cons.length = true ∧
 Call1 Tryz.prog f_cordonref_ScopeOf [dM a0, dC (at' .con a0.cons a1.toNat)] (.list .int) fun c2 =>
 (a2.length : Int) = (a2.length : Int) ∧
 0 ≤ (a2.length : Int) ∧
 room .int ((a2.length : Int).toNat) = true ∧
 sel (decide ((c2.length : Int) = 0))
 (Call1 Tryz.prog f_cordonref_ConHolds [dC (at' .con a0.cons a1.toNat), .sl .int (List.replicate ((a2.length : Int).toNat) (Ty.dflt .int))] .bool fun c3 =>
 sel c3
 (R (dS a2))
 (Call1 Tryz.prog f_cordonref_NoValues [dI (a2.length : Int)] (.list (.list .int)) fun c4 =>
 R (dS c4)))
 (∃ n0, cordonref_FilterOf_I0 a2 R c2 n0 0 ((at' .con a0.cons a1.toNat).kind) ((at' .con a0.cons a1.toNat).vars) ((at' .con a0.cons a1.toNat).consts) ((at' .con a0.cons a1.toNat).n) ((at' .con a0.cons a1.toNat).rows) ((at' .con a0.cons a1.toNat).lits) ([] : List LitD) (List.replicate ((a2.length : Int).toNat) (Ty.dflt .int))))) := by kernel_rfl
theorem cordonref_FilterOf_sat {r : D} (a0 : MdlD) (a1 : Int) (a2 : List (List Int)) (h : (∀ d ∈ [dM a0, dI a1, dS a2], okD d) → fnD Tryz.prog Ev cordonref_FilterOf_A Tryz.f17.results.toList (bodyOf Tryz.f17) [dM a0, dI a1, dS a2] fun d => d = r) : Sat Tryz.prog f_cordonref_FilterOf [dM a0, dI a1, dS a2] r := by
  have h2 := sat_of (r := r) (args := [dM a0, dI a1, dS a2]) (A := cordonref_FilterOf_A) (fn := Tryz.f17) (body := bodyOf Tryz.f17) (f := f_cordonref_FilterOf) factsEv Tryz.func17 (by kernel_rfl) (by rw [Tryz.ntmps17]; rfl) (by rw [Tryz.ntmps17]; exact Nat.le_of_ble_eq_true rfl)
  with_reducible exact h2 h
/-! ### cordon/cordonref.SameStore -/
def cordonref_SameStore_A : Ann := { own := [], live := [(0, ([0, 1, 5], []))], n := 27, nils := [], pubs := [] }
def cordonref_SameStore_I0 (a0 : List (List Int)) (a1 : List (List Int)) (R : D → Prop) (n0 : Nat) (i1 : Int) : Prop := iter (den Tryz.prog Ev cordonref_SameStore_A (sub [1, 1, 0, 1, 0, 0] (bodyOf Tryz.f21)) 0) cordonref_SameStore_A (liveOf cordonref_SameStore_A 0) n0 ⟨[(0, dS a0), (1, dS a1), (5, dI i1)], []⟩ (blockK 0 (seqK Tryz.prog Ev cordonref_SameStore_A (sub [1, 1, 1] (bodyOf Tryz.f21)) 0 (endK Ev Tryz.f21.results.toList R)))
theorem cordonref_SameStore_I0_eq (a0 : List (List Int)) (a1 : List (List Int)) (R : D → Prop) (n0 : Nat) (i1 : Int) : cordonref_SameStore_I0 a0 a1 R (n0 + 1) i1 =
 (sel (decide (i1 < (a0.length : Int)))
 (inb i1 a0.length = true ∧
 inb i1 a1.length = true ∧
 Call1 Tryz.prog f_cordonref_SameInts [.sl .int (at' (.list .int) a0 i1.toNat), .sl .int (at' (.list .int) a1 i1.toNat)] .bool fun c2 =>
 sel (!c2)
 (R (dB false))
 (cordonref_SameStore_I0 a0 a1 R n0 (w64 (i1 + 1))))
 (R (dB true))) := by kernel_rfl
theorem cordonref_SameStore_eq (a0 : List (List Int)) (a1 : List (List Int)) (R : D → Prop) : fnD Tryz.prog Ev cordonref_SameStore_A Tryz.f21.results.toList (bodyOf Tryz.f21) [dS a0, dS a1] R =
 (sel (!decide ((a0.length : Int) = (a1.length : Int)))
 (R (dB false))
 (∃ n0, cordonref_SameStore_I0 a0 a1 R n0 0)) := by kernel_rfl
theorem cordonref_SameStore_sat {r : D} (a0 : List (List Int)) (a1 : List (List Int)) (h : (∀ d ∈ [dS a0, dS a1], okD d) → fnD Tryz.prog Ev cordonref_SameStore_A Tryz.f21.results.toList (bodyOf Tryz.f21) [dS a0, dS a1] fun d => d = r) : Sat Tryz.prog f_cordonref_SameStore [dS a0, dS a1] r := by
  have h2 := sat_of (r := r) (args := [dS a0, dS a1]) (A := cordonref_SameStore_A) (fn := Tryz.f21) (body := bodyOf Tryz.f21) (f := f_cordonref_SameStore) factsEv Tryz.func21 (by kernel_rfl) (by rw [Tryz.ntmps21]; rfl) (by rw [Tryz.ntmps21]; exact Nat.le_of_ble_eq_true rfl)
  with_reducible exact h2 h
/-! ### cordon/cordonref.HasFailed -/
def cordonref_HasFailed_A : Ann := { own := [], live := [(0, ([0, 3], []))], n := 16, nils := [], pubs := [] }
def cordonref_HasFailed_I0 (a0 : List (List Int)) (R : D → Prop) (n0 : Nat) (i1 : Int) : Prop := iter (den Tryz.prog Ev cordonref_HasFailed_A (sub [1, 0, 1, 0, 0] (bodyOf Tryz.f23)) 0) cordonref_HasFailed_A (liveOf cordonref_HasFailed_A 0) n0 ⟨[(0, dS a0), (3, dI i1)], []⟩ (blockK 0 (seqK Tryz.prog Ev cordonref_HasFailed_A (sub [1, 1] (bodyOf Tryz.f23)) 0 (endK Ev Tryz.f23.results.toList R)))
theorem cordonref_HasFailed_I0_eq (a0 : List (List Int)) (R : D → Prop) (n0 : Nat) (i1 : Int) : cordonref_HasFailed_I0 a0 R (n0 + 1) i1 =
 (sel (decide (i1 < (a0.length : Int)))
 (inb i1 a0.length = true ∧
 sel (decide (((at' (.list .int) a0 i1.toNat).length : Int) = 0))
 (R (dB true))
 (cordonref_HasFailed_I0 a0 R n0 (w64 (i1 + 1))))
 (R (dB false))) := by kernel_rfl
theorem cordonref_HasFailed_eq (a0 : List (List Int)) (R : D → Prop) : fnD Tryz.prog Ev cordonref_HasFailed_A Tryz.f23.results.toList (bodyOf Tryz.f23) [dS a0] R =
 (∃ n0, cordonref_HasFailed_I0 a0 R n0 0) := by kernel_rfl
theorem cordonref_HasFailed_sat {r : D} (a0 : List (List Int)) (h : (∀ d ∈ [dS a0], okD d) → fnD Tryz.prog Ev cordonref_HasFailed_A Tryz.f23.results.toList (bodyOf Tryz.f23) [dS a0] fun d => d = r) : Sat Tryz.prog f_cordonref_HasFailed [dS a0] r := by
  have h2 := sat_of (r := r) (args := [dS a0]) (A := cordonref_HasFailed_A) (fn := Tryz.f23) (body := bodyOf Tryz.f23) (f := f_cordonref_HasFailed) factsEv Tryz.func23 (by kernel_rfl) (by rw [Tryz.ntmps23]; rfl) (by rw [Tryz.ntmps23]; exact Nat.le_of_ble_eq_true rfl)
  with_reducible exact h2 h
/-! ### cordon/cordonref.CheckClauses -/
def cordonref_CheckClauses_A : Ann := { own := [], live := [(0, ([1, 2, 5], []))], n := 25, nils := [], pubs := [] }
def cordonref_CheckClauses_I0 (a0 : MdlD) (a1 : List (List LitD)) (R : D → Prop) (n0 : Nat) (i1 : Int) : Prop := iter (den Tryz.prog Ev cordonref_CheckClauses_A (sub [1, 1, 0, 1, 0, 0] (bodyOf Tryz.f31)) 0) cordonref_CheckClauses_A (liveOf cordonref_CheckClauses_A 0) n0 ⟨[(1, .sl (.list .lit) a1), (2, .iptr [.sl .var a0.vars, .sl .con a0.cons, dI a0.goal, dI a0.var] 0), (5, dI i1)], []⟩ (blockK 0 (seqK Tryz.prog Ev cordonref_CheckClauses_A (sub [1, 1, 1] (bodyOf Tryz.f31)) 0 (endK Ev Tryz.f31.results.toList R)))
theorem cordonref_CheckClauses_I0_eq (a0 : MdlD) (a1 : List (List LitD)) (R : D → Prop) (n0 : Nat) (i1 : Int) : cordonref_CheckClauses_I0 a0 a1 R (n0 + 1) i1 =
 (sel (decide (i1 < (a1.length : Int)))
 (inb i1 a1.length = true ∧
 Call1 Tryz.prog f_cordonref_CheckClause [dM a0, .sl .lit (at' (.list .lit) a1 i1.toNat)] .int fun c2 =>
 sel (!decide (c2 = 0))
 (R (dI c2))
 (cordonref_CheckClauses_I0 a0 a1 R n0 (w64 (i1 + 1))))
 (R (dI 0))) := by kernel_rfl
theorem cordonref_CheckClauses_eq (a0 : MdlD) (a1 : List (List LitD)) (R : D → Prop) : fnD Tryz.prog Ev cordonref_CheckClauses_A Tryz.f31.results.toList (bodyOf Tryz.f31) [dM a0, .sl (.list .lit) a1] R =
 (sel (decide (600 < (a1.length : Int)))
 (R (dI 2))
 (∃ n0, cordonref_CheckClauses_I0 a0 a1 R n0 0)) := by kernel_rfl
theorem cordonref_CheckClauses_sat {r : D} (a0 : MdlD) (a1 : List (List LitD)) (h : (∀ d ∈ [dM a0, .sl (.list .lit) a1], okD d) → fnD Tryz.prog Ev cordonref_CheckClauses_A Tryz.f31.results.toList (bodyOf Tryz.f31) [dM a0, .sl (.list .lit) a1] fun d => d = r) : Sat Tryz.prog f_cordonref_CheckClauses [dM a0, .sl (.list .lit) a1] r := by
  have h2 := sat_of (r := r) (args := [dM a0, .sl (.list .lit) a1]) (A := cordonref_CheckClauses_A) (fn := Tryz.f31) (body := bodyOf Tryz.f31) (f := f_cordonref_CheckClauses) factsEv Tryz.func31 (by kernel_rfl) (by rw [Tryz.ntmps31]; rfl) (by rw [Tryz.ntmps31]; exact Nat.le_of_ble_eq_true rfl)
  with_reducible exact h2 h
/-! ### cordon/cordonref.FixOf -/
def cordonref_FixOf_A : Ann := { own := [], live := [(0, ([1, 2, 3, 4, 9], [])), (2, ([1, 2, 3, 4, 9, 10], [])), (4, ([1, 2, 3, 4, 9, 12], []))], n := 74, nils := [], pubs := [] }
def cordonref_FixOf_I4 (a0 : MdlD) (a2 : Bool) (a3 : List (List LitD)) (R : D → Prop) (n0 : Nat) (n4 : Nat) (v10 : List (List Int)) (v11 : Bool) (v12 : Int) : Prop := iter (den Tryz.prog Ev cordonref_FixOf_A (sub [1, 0, 1, 0, 0, 1, 0, 1, 1, 1, 0, 0] (bodyOf Tryz.f32)) 4) cordonref_FixOf_A (liveOf cordonref_FixOf_A 4) n4 ⟨[(1, dS v10), (2, dB a2), (3, .sl (.list .lit) a3), (4, .iptr [.sl .var a0.vars, .sl .con a0.cons, dI a0.goal, dI a0.var] 0), (9, dB v11), (12, dI v12)], []⟩ (blockK 4 (blockK 1 (iterK (den Tryz.prog Ev cordonref_FixOf_A (sub [1, 0, 1, 0, 0] (bodyOf Tryz.f32)) 0) cordonref_FixOf_A (liveOf cordonref_FixOf_A 0) n0 (blockK 0 (seqK Tryz.prog Ev cordonref_FixOf_A (sub [1, 1] (bodyOf Tryz.f32)) 0 (endK Ev Tryz.f32.results.toList R))))))
def cordonref_FixOf_I4_2 (a0 : MdlD) (a2 : Bool) (a3 : List (List LitD)) (R : D → Prop) (n0 : Nat) (n4_2 : Nat) (v16 : List (List Int)) (v17 : Bool) (v18 : Int) : Prop := iter (den Tryz.prog Ev cordonref_FixOf_A (sub [1, 0, 1, 0, 0, 1, 0, 1, 1, 1, 0, 0] (bodyOf Tryz.f32)) 4) cordonref_FixOf_A (liveOf cordonref_FixOf_A 4) n4_2 ⟨[(1, dS v16), (2, dB a2), (3, .sl (.list .lit) a3), (4, .iptr [.sl .var a0.vars, .sl .con a0.cons, dI a0.goal, dI a0.var] 0), (9, dB v17), (12, dI v18)], []⟩ (blockK 4 (blockK 1 (iterK (den Tryz.prog Ev cordonref_FixOf_A (sub [1, 0, 1, 0, 0] (bodyOf Tryz.f32)) 0) cordonref_FixOf_A (liveOf cordonref_FixOf_A 0) n0 (blockK 0 (seqK Tryz.prog Ev cordonref_FixOf_A (sub [1, 1] (bodyOf Tryz.f32)) 0 (endK Ev Tryz.f32.results.toList R))))))
def cordonref_FixOf_I2 (a0 : MdlD) (a2 : Bool) (a3 : List (List LitD)) (R : D → Prop) (n0 : Nat) (n2 : Nat) (v4 : List (List Int)) (v5 : Bool) (v6 : Int) : Prop := iter (den Tryz.prog Ev cordonref_FixOf_A (sub [1, 0, 1, 0, 0, 1, 0, 1, 0, 1, 0, 0] (bodyOf Tryz.f32)) 2) cordonref_FixOf_A (liveOf cordonref_FixOf_A 2) n2 ⟨[(1, dS v4), (2, dB a2), (3, .sl (.list .lit) a3), (4, .iptr [.sl .var a0.vars, .sl .con a0.cons, dI a0.goal, dI a0.var] 0), (9, dB v5), (10, dI v6)], []⟩ (blockK 2 (seqK Tryz.prog Ev cordonref_FixOf_A (sub [1, 0, 1, 0, 0, 1, 0, 1, 1] (bodyOf Tryz.f32)) 1 (blockK 1 (iterK (den Tryz.prog Ev cordonref_FixOf_A (sub [1, 0, 1, 0, 0] (bodyOf Tryz.f32)) 0) cordonref_FixOf_A (liveOf cordonref_FixOf_A 0) n0 (blockK 0 (seqK Tryz.prog Ev cordonref_FixOf_A (sub [1, 1] (bodyOf Tryz.f32)) 0 (endK Ev Tryz.f32.results.toList R)))))))
def cordonref_FixOf_I0 (a0 : MdlD) (a2 : Bool) (a3 : List (List LitD)) (R : D → Prop) (n0 : Nat) (v1 : List (List Int)) (v2 : Bool) : Prop := iter (den Tryz.prog Ev cordonref_FixOf_A (sub [1, 0, 1, 0, 0] (bodyOf Tryz.f32)) 0) cordonref_FixOf_A (liveOf cordonref_FixOf_A 0) n0 ⟨[(1, dS v1), (2, dB a2), (3, .sl (.list .lit) a3), (4, .iptr [.sl .var a0.vars, .sl .con a0.cons, dI a0.goal, dI a0.var] 0), (9, dB v2)], []⟩ (blockK 0 (seqK Tryz.prog Ev cordonref_FixOf_A (sub [1, 1] (bodyOf Tryz.f32)) 0 (endK Ev Tryz.f32.results.toList R)))
theorem cordonref_FixOf_I4_eq (a0 : MdlD) (a2 : Bool) (a3 : List (List LitD)) (R : D → Prop) (n0 : Nat) (n4 : Nat) (v10 : List (List Int)) (v11 : Bool) (v12 : Int) : cordonref_FixOf_I4 a0 a2 a3 R n0 (n4 + 1) v10 v11 v12 =
 (sel (decide (0 ≤ v12))
 (sel a2
 (Call1 Tryz.prog f_cordonref_HasFailed [dS v10] .bool fun c13 =>
 sel (!c13)
 (Call1 Tryz.prog f_cordonref_FilterOf [dM a0, dI v12, dS v10] (.list (.list .int)) fun c14 =>
 Call1 Tryz.prog f_cordonref_SameStore [dS v10, dS c14] .bool fun c15 =>
 sel (!c15)
 (cordonref_FixOf_I4 a0 a2 a3 R n0 n4 c14 true (w64 (v12 - 1)))
 (cordonref_FixOf_I4 a0 a2 a3 R n0 n4 v10 v11 (w64 (v12 - 1))))
 (cordonref_FixOf_I0 a0 a2 a3 R n0 v10 v11))
 (cordonref_FixOf_I0 a0 a2 a3 R n0 v10 v11))
 (cordonref_FixOf_I0 a0 a2 a3 R n0 v10 v11)) := by kernel_rfl
theorem cordonref_FixOf_I4_2_eq (a0 : MdlD) (a2 : Bool) (a3 : List (List LitD)) (R : D → Prop) (n0 : Nat) (n4_2 : Nat) (v16 : List (List Int)) (v17 : Bool) (v18 : Int) : cordonref_FixOf_I4_2 a0 a2 a3 R n0 (n4_2 + 1) v16 v17 v18 =
 (sel (decide (0 ≤ v18))
 (sel a2
 (Call1 Tryz.prog f_cordonref_HasFailed [dS v16] .bool fun c19 =>
 sel (!c19)
 (Call1 Tryz.prog f_cordonref_FilterOf [dM a0, dI v18, dS v16] (.list (.list .int)) fun c20 =>
 Call1 Tryz.prog f_cordonref_SameStore [dS v16, dS c20] .bool fun c21 =>
 sel (!c21)
 (cordonref_FixOf_I4_2 a0 a2 a3 R n0 n4_2 c20 true (w64 (v18 - 1)))
 (cordonref_FixOf_I4_2 a0 a2 a3 R n0 n4_2 v16 v17 (w64 (v18 - 1))))
 (cordonref_FixOf_I0 a0 a2 a3 R n0 v16 v17))
 (cordonref_FixOf_I0 a0 a2 a3 R n0 v16 v17))
 (cordonref_FixOf_I0 a0 a2 a3 R n0 v16 v17)) := by kernel_rfl
theorem cordonref_FixOf_I2_eq (a0 : MdlD) (a2 : Bool) (a3 : List (List LitD)) (R : D → Prop) (n0 : Nat) (n2 : Nat) (v4 : List (List Int)) (v5 : Bool) (v6 : Int) : cordonref_FixOf_I2 a0 a2 a3 R n0 (n2 + 1) v4 v5 v6 =
 (sel (decide (0 ≤ v6))
 (Call1 Tryz.prog f_cordonref_HasFailed [dS v4] .bool fun c7 =>
 sel (!c7)
 (inb v6 a3.length = true ∧
 Call1 Tryz.prog f_cordonref_UnitOf [dS v4, .sl .lit (at' (.list .lit) a3 v6.toNat)] (.list (.list .int)) fun c8 =>
 Call1 Tryz.prog f_cordonref_SameStore [dS v4, dS c8] .bool fun c9 =>
 sel (!c9)
 (cordonref_FixOf_I2 a0 a2 a3 R n0 n2 c8 true (w64 (v6 - 1)))
 (cordonref_FixOf_I2 a0 a2 a3 R n0 n2 v4 v5 (w64 (v6 - 1))))
 (∃ n4, cordonref_FixOf_I4 a0 a2 a3 R n0 n4 v4 v5 (w64 ((a0.cons.length : Int) - 1))))
 (∃ n4_2, cordonref_FixOf_I4_2 a0 a2 a3 R n0 n4_2 v4 v5 (w64 ((a0.cons.length : Int) - 1)))) := by kernel_rfl
theorem cordonref_FixOf_I0_eq (a0 : MdlD) (a2 : Bool) (a3 : List (List LitD)) (R : D → Prop) (n0 : Nat) (v1 : List (List Int)) (v2 : Bool) : cordonref_FixOf_I0 a0 a2 a3 R (n0 + 1) v1 v2 =
 (sel v2
 (Call1 Tryz.prog f_cordonref_HasFailed [dS v1] .bool fun c3 =>
 sel (!c3)
 (∃ n2, cordonref_FixOf_I2 a0 a2 a3 R n0 n2 v1 false (w64 ((a3.length : Int) - 1)))
 (Call1 Tryz.prog f_cordonref_HasFailed [dS v1] .bool fun c22 =>
 sel c22
 (Call1 Tryz.prog f_cordonref_NoValues [dI (v1.length : Int)] (.list (.list .int)) fun c23 =>
 R (dS c23))
 (R (dS v1))))
 (Call1 Tryz.prog f_cordonref_HasFailed [dS v1] .bool fun c24 =>
 sel c24
 (Call1 Tryz.prog f_cordonref_NoValues [dI (v1.length : Int)] (.list (.list .int)) fun c25 =>
 R (dS c25))
 (R (dS v1)))) := by kernel_rfl
theorem cordonref_FixOf_eq (a0 : MdlD) (a1 : List (List Int)) (a2 : Bool) (a3 : List (List LitD)) (R : D → Prop) : fnD Tryz.prog Ev cordonref_FixOf_A Tryz.f32.results.toList (bodyOf Tryz.f32) [dM a0, dS a1, dB a2, .sl (.list .lit) a3] R =
 (∃ n0, cordonref_FixOf_I0 a0 a2 a3 R n0 a1 true) := by kernel_rfl
theorem cordonref_FixOf_sat {r : D} (a0 : MdlD) (a1 : List (List Int)) (a2 : Bool) (a3 : List (List LitD)) (h : (∀ d ∈ [dM a0, dS a1, dB a2, .sl (.list .lit) a3], okD d) → fnD Tryz.prog Ev cordonref_FixOf_A Tryz.f32.results.toList (bodyOf Tryz.f32) [dM a0, dS a1, dB a2, .sl (.list .lit) a3] fun d => d = r) : Sat Tryz.prog f_cordonref_FixOf [dM a0, dS a1, dB a2, .sl (.list .lit) a3] r := by
  have h2 := sat_of (r := r) (args := [dM a0, dS a1, dB a2, .sl (.list .lit) a3]) (A := cordonref_FixOf_A) (fn := Tryz.f32) (body := bodyOf Tryz.f32) (f := f_cordonref_FixOf) factsEv Tryz.func32 (by kernel_rfl) (by rw [Tryz.ntmps32]; rfl) (by rw [Tryz.ntmps32]; exact Nat.le_of_ble_eq_true rfl)
  with_reducible exact h2 h
/-! ### cordon/cordonref.CheckModel -/
def cordonref_CheckModel_A : Ann := { own := [5], live := [(0, ([1, 3, 4], [])), (2, ([1, 3, 4, 5, 6], [5])), (4, ([1, 3, 7], []))], n := 114, nils := [], pubs := [] }
def cordonref_CheckModel_I2 (a0 : MdlD) (R : D → Prop) (n0 : Nat) (v1 : Int) (n2 : Nat) (v3 : Int) : Prop := iter (den Tryz.prog Ev cordonref_CheckModel_A (sub [1, 1, 1, 1, 0, 1, 0, 0, 1, 0, 0, 1, 1, 0, 1, 0, 0] (bodyOf Tryz.f36)) 2) cordonref_CheckModel_A (liveOf cordonref_CheckModel_A 2) n2 ⟨[(1, .iptr [.sl .var a0.vars, .sl .con a0.cons, dI a0.goal, dI a0.var] 0), (3, dI (a0.vars.length : Int)), (4, dI v1), (5, .ptr 5 0), (6, dI v3)], [(5, .cells [.str ((at' .var a0.vars v1.toNat).name), dI ((at' .var a0.vars v1.toNat).lo), dI ((at' .var a0.vars v1.toNat).hi)])]⟩ (blockK 2 (seqK Tryz.prog Ev cordonref_CheckModel_A (sub [1, 1, 1, 1, 0, 1, 0, 0, 1, 0, 0, 1, 1, 1] (bodyOf Tryz.f36)) 1 (blockK 1 (seqK Tryz.prog Ev cordonref_CheckModel_A (sub [1, 1, 1, 1, 0, 1, 0, 0, 1, 1] (bodyOf Tryz.f36)) 0 (iterK (den Tryz.prog Ev cordonref_CheckModel_A (sub [1, 1, 1, 1, 0, 1, 0, 0] (bodyOf Tryz.f36)) 0) cordonref_CheckModel_A (liveOf cordonref_CheckModel_A 0) n0 (blockK 0 (seqK Tryz.prog Ev cordonref_CheckModel_A (sub [1, 1, 1, 1, 1] (bodyOf Tryz.f36)) 0 (endK Ev Tryz.f36.results.toList R))))))))
def cordonref_CheckModel_I4 (a0 : MdlD) (R : D → Prop) (n4 : Nat) (v6 : Int) : Prop := iter (den Tryz.prog Ev cordonref_CheckModel_A (sub [1, 1, 1, 1, 1, 0, 1, 0, 0] (bodyOf Tryz.f36)) 4) cordonref_CheckModel_A (liveOf cordonref_CheckModel_A 4) n4 ⟨[(1, .iptr [.sl .var a0.vars, .sl .con a0.cons, dI a0.goal, dI a0.var] 0), (3, dI (a0.vars.length : Int)), (7, dI v6)], []⟩ (blockK 4 (seqK Tryz.prog Ev cordonref_CheckModel_A (sub [1, 1, 1, 1, 1, 1] (bodyOf Tryz.f36)) 0 (endK Ev Tryz.f36.results.toList R)))
def cordonref_CheckModel_I0 (a0 : MdlD) (R : D → Prop) (n0 : Nat) (v1 : Int) : Prop := iter (den Tryz.prog Ev cordonref_CheckModel_A (sub [1, 1, 1, 1, 0, 1, 0, 0] (bodyOf Tryz.f36)) 0) cordonref_CheckModel_A (liveOf cordonref_CheckModel_A 0) n0 ⟨[(1, .iptr [.sl .var a0.vars, .sl .con a0.cons, dI a0.goal, dI a0.var] 0), (3, dI (a0.vars.length : Int)), (4, dI v1)], []⟩ (blockK 0 (seqK Tryz.prog Ev cordonref_CheckModel_A (sub [1, 1, 1, 1, 1] (bodyOf Tryz.f36)) 0 (endK Ev Tryz.f36.results.toList R)))
theorem cordonref_CheckModel_I2_eq (a0 : MdlD) (R : D → Prop) (n0 : Nat) (v1 : Int) (n2 : Nat) (v3 : Int) : cordonref_CheckModel_I2 a0 R n0 v1 (n2 + 1) v3 =
 (sel (decide (v3 < v1))
 (inb v3 a0.vars.length = true ∧
 sel (decide (((at' .var a0.vars v3.toNat).name) = ((at' .var a0.vars v1.toNat).name)))
 (R (dI 6))
 (cordonref_CheckModel_I2 a0 R n0 v1 n2 (w64 (v3 + 1))))
 (Call1 Tryz.prog f_cordonref_between [dI ((at' .var a0.vars v1.toNat).lo), dI (-50), dI 50] .bool fun c4 =>
 sel (!c4)
 (R (dI 3))
 (Call1 Tryz.prog f_cordonref_between [dI ((at' .var a0.vars v1.toNat).hi), dI (-50), dI 50] .bool fun c5 =>
 sel (!c5)
 (R (dI 3))
 (sel (decide (((at' .var a0.vars v1.toNat).hi) < ((at' .var a0.vars v1.toNat).lo)))
 (R (dI 3))
 (sel (decide (6 < (w64 ((w64 (((at' .var a0.vars v1.toNat).hi) - ((at' .var a0.vars v1.toNat).lo))) + 1))))
 (R (dI 2))
 (cordonref_CheckModel_I0 a0 R n0 (w64 (v1 + 1)))))))) := by kernel_rfl
theorem cordonref_CheckModel_I4_eq (a0 : MdlD) (R : D → Prop) (n4 : Nat) (v6 : Int) : cordonref_CheckModel_I4 a0 R (n4 + 1) v6 =
 (sel (decide (v6 < (a0.cons.length : Int)))
 (inb v6 a0.cons.length = true ∧
 Call1 Tryz.prog f_cordonref_checkCon [dM a0, dC (at' .con a0.cons v6.toNat)] .int fun c7 =>
 sel (!decide (c7 = 0))
 (R (dI c7))
 (cordonref_CheckModel_I4 a0 R n4 (w64 (v6 + 1))))
 (Call1 Tryz.prog f_cordonref_between [dI a0.goal, dI 0, dI 2] .bool fun c8 =>
 sel (!c8)
 (R (dI 7))
 (sel (decide (a0.goal = 0))
 (sel (!decide (a0.var = 0))
 (R (dI 1))
 (sel (!decide (a0.goal = 0))
 (Call1 Tryz.prog f_cordonref_between [dI a0.var, dI 0, dI (w64 ((a0.vars.length : Int) - 1))] .bool fun c9 =>
 sel (!c9)
 (R (dI 5))
 (R (dI 0)))
 (R (dI 0))))
 (sel (!decide (a0.goal = 0))
 (Call1 Tryz.prog f_cordonref_between [dI a0.var, dI 0, dI (w64 ((a0.vars.length : Int) - 1))] .bool fun c10 =>
 sel (!c10)
 (R (dI 5))
 (R (dI 0)))
 (R (dI 0)))))) := by kernel_rfl
theorem cordonref_CheckModel_I0_eq (a0 : MdlD) (R : D → Prop) (n0 : Nat) (v1 : Int) : cordonref_CheckModel_I0 a0 R (n0 + 1) v1 =
 (sel (decide (v1 < (a0.vars.length : Int)))
 (inb v1 a0.vars.length = true ∧
 Call1 Tryz.prog f_cordonref_IsName [.str ((at' .var a0.vars v1.toNat).name)] .bool fun c2 =>
 sel (!c2)
 (R (dI 1))
 (∃ n2, cordonref_CheckModel_I2 a0 R n0 v1 n2 0))
 (∃ n4, cordonref_CheckModel_I4 a0 R n4 0)) := by kernel_rfl
theorem cordonref_CheckModel_eq (a0 : MdlD) (R : D → Prop) : fnD Tryz.prog Ev cordonref_CheckModel_A Tryz.f36.results.toList (bodyOf Tryz.f36) [dM a0] R =
 (sel (decide ((a0.vars.length : Int) = 0))
 (R (dI 1))
 (sel (decide (6 < (a0.vars.length : Int)))
 (R (dI 2))
 (sel (decide (8 < (a0.cons.length : Int)))
 (R (dI 2))
 (∃ n0, cordonref_CheckModel_I0 a0 R n0 0)))) := by kernel_rfl
theorem cordonref_CheckModel_sat {r : D} (a0 : MdlD) (h : (∀ d ∈ [dM a0], okD d) → fnD Tryz.prog Ev cordonref_CheckModel_A Tryz.f36.results.toList (bodyOf Tryz.f36) [dM a0] fun d => d = r) : Sat Tryz.prog f_cordonref_CheckModel [dM a0] r := by
  have h2 := sat_of (r := r) (args := [dM a0]) (A := cordonref_CheckModel_A) (fn := Tryz.f36) (body := bodyOf Tryz.f36) (f := f_cordonref_CheckModel) factsEv Tryz.func36 (by kernel_rfl) (by rw [Tryz.ntmps36]; rfl) (by rw [Tryz.ntmps36]; exact Nat.le_of_ble_eq_true rfl)
  with_reducible exact h2 h
/-! ### cordon/cordonref.CheckClause -/
def cordonref_CheckClause_A : Ann := { own := [], live := [(0, ([1, 2, 5], []))], n := 25, nils := [], pubs := [] }
def cordonref_CheckClause_I0 (a0 : MdlD) (a1 : List LitD) (R : D → Prop) (n0 : Nat) (i1 : Int) : Prop := iter (den Tryz.prog Ev cordonref_CheckClause_A (sub [1, 1, 0, 1, 0, 0] (bodyOf Tryz.f37)) 0) cordonref_CheckClause_A (liveOf cordonref_CheckClause_A 0) n0 ⟨[(1, .sl .lit a1), (2, .iptr [.sl .var a0.vars, .sl .con a0.cons, dI a0.goal, dI a0.var] 0), (5, dI i1)], []⟩ (blockK 0 (seqK Tryz.prog Ev cordonref_CheckClause_A (sub [1, 1, 1] (bodyOf Tryz.f37)) 0 (endK Ev Tryz.f37.results.toList R)))
theorem cordonref_CheckClause_I0_eq (a0 : MdlD) (a1 : List LitD) (R : D → Prop) (n0 : Nat) (i1 : Int) : cordonref_CheckClause_I0 a0 a1 R (n0 + 1) i1 =
 (sel (decide (i1 < (a1.length : Int)))
 (inb i1 a1.length = true ∧
 Call1 Tryz.prog f_cordonref_CheckLit [dM a0, dL (at' .lit a1 i1.toNat)] .int fun c2 =>
 sel (!decide (c2 = 0))
 (R (dI c2))
 (cordonref_CheckClause_I0 a0 a1 R n0 (w64 (i1 + 1))))
 (R (dI 0))) := by kernel_rfl
theorem cordonref_CheckClause_eq (a0 : MdlD) (a1 : List LitD) (R : D → Prop) : fnD Tryz.prog Ev cordonref_CheckClause_A Tryz.f37.results.toList (bodyOf Tryz.f37) [dM a0, .sl .lit a1] R =
 (sel (decide (40 < (a1.length : Int)))
 (R (dI 2))
 (∃ n0, cordonref_CheckClause_I0 a0 a1 R n0 0)) := by kernel_rfl
theorem cordonref_CheckClause_sat {r : D} (a0 : MdlD) (a1 : List LitD) (h : (∀ d ∈ [dM a0, .sl .lit a1], okD d) → fnD Tryz.prog Ev cordonref_CheckClause_A Tryz.f37.results.toList (bodyOf Tryz.f37) [dM a0, .sl .lit a1] fun d => d = r) : Sat Tryz.prog f_cordonref_CheckClause [dM a0, .sl .lit a1] r := by
  have h2 := sat_of (r := r) (args := [dM a0, .sl .lit a1]) (A := cordonref_CheckClause_A) (fn := Tryz.f37) (body := bodyOf Tryz.f37) (f := f_cordonref_CheckClause) factsEv Tryz.func37 (by kernel_rfl) (by rw [Tryz.ntmps37]; rfl) (by rw [Tryz.ntmps37]; exact Nat.le_of_ble_eq_true rfl)
  with_reducible exact h2 h
/-! ### cordon/cordonref.ConSays -/
def cordonref_ConSays_A : Ann := { own := [], live := [], n := 15, nils := [], pubs := [] }
theorem cordonref_ConSays_eq (a0 : MdlD) (a1 : Int) (a2 : List LitD) (R : D → Prop) : fnD Tryz.prog Ev cordonref_ConSays_A Tryz.f39.results.toList (bodyOf Tryz.f39) [dM a0, dI a1, .sl .lit a2] R =
 (Call1 Tryz.prog f_cordonref_BeginOf [dM a0] (.list (.list .int)) fun c1 =>
 Call1 Tryz.prog f_cordonref_DenyOf [dS c1, .sl .lit a2] (.list (.list .int)) fun c2 =>
 Call1 Tryz.prog f_cordonref_FilterOf [dM a0, dI a1, dS c2] (.list (.list .int)) fun c3 =>
 Call1 Tryz.prog f_cordonref_HasFailed [dS c3] .bool fun c4 =>
 R (dB c4)) := by kernel_rfl
theorem cordonref_ConSays_sat {r : D} (a0 : MdlD) (a1 : Int) (a2 : List LitD) (h : (∀ d ∈ [dM a0, dI a1, .sl .lit a2], okD d) → fnD Tryz.prog Ev cordonref_ConSays_A Tryz.f39.results.toList (bodyOf Tryz.f39) [dM a0, dI a1, .sl .lit a2] fun d => d = r) : Sat Tryz.prog f_cordonref_ConSays [dM a0, dI a1, .sl .lit a2] r := by
  have h2 := sat_of (r := r) (args := [dM a0, dI a1, .sl .lit a2]) (A := cordonref_ConSays_A) (fn := Tryz.f39) (body := bodyOf Tryz.f39) (f := f_cordonref_ConSays) factsEv Tryz.func39 (by kernel_rfl) (by rw [Tryz.ntmps39]; rfl) (by rw [Tryz.ntmps39]; exact Nat.le_of_ble_eq_true rfl)
  with_reducible exact h2 h
/-! ### cordon/cordonref.UnitSays -/
def cordonref_UnitSays_A : Ann := { own := [], live := [], n := 15, nils := [], pubs := [] }
theorem cordonref_UnitSays_eq (a0 : MdlD) (a1 : List (List LitD)) (a2 : List LitD) (R : D → Prop) : fnD Tryz.prog Ev cordonref_UnitSays_A Tryz.f40.results.toList (bodyOf Tryz.f40) [dM a0, .sl (.list .lit) a1, .sl .lit a2] R =
 (Call1 Tryz.prog f_cordonref_BeginOf [dM a0] (.list (.list .int)) fun c1 =>
 Call1 Tryz.prog f_cordonref_DenyOf [dS c1, .sl .lit a2] (.list (.list .int)) fun c2 =>
 Call1 Tryz.prog f_cordonref_FixOf [dM a0, dS c2, dB false, .sl (.list .lit) a1] (.list (.list .int)) fun c3 =>
 Call1 Tryz.prog f_cordonref_HasFailed [dS c3] .bool fun c4 =>
 R (dB c4)) := by kernel_rfl
theorem cordonref_UnitSays_sat {r : D} (a0 : MdlD) (a1 : List (List LitD)) (a2 : List LitD) (h : (∀ d ∈ [dM a0, .sl (.list .lit) a1, .sl .lit a2], okD d) → fnD Tryz.prog Ev cordonref_UnitSays_A Tryz.f40.results.toList (bodyOf Tryz.f40) [dM a0, .sl (.list .lit) a1, .sl .lit a2] fun d => d = r) : Sat Tryz.prog f_cordonref_UnitSays [dM a0, .sl (.list .lit) a1, .sl .lit a2] r := by
  have h2 := sat_of (r := r) (args := [dM a0, .sl (.list .lit) a1, .sl .lit a2]) (A := cordonref_UnitSays_A) (fn := Tryz.f40) (body := bodyOf Tryz.f40) (f := f_cordonref_UnitSays) factsEv Tryz.func40 (by kernel_rfl) (by rw [Tryz.ntmps40]; rfl) (by rw [Tryz.ntmps40]; exact Nat.le_of_ble_eq_true rfl)
  with_reducible exact h2 h
/-! ### cordon/cordonref.BeginOf -/
def cordonref_BeginOf_A : Ann := { own := [3, 5, 33, 37], live := [(0, ([1, 3, 4], [3])), (2, ([1, 3, 4, 5, 6], [3, 5]))], n := 39, nils := [], pubs := [] }
def cordonref_BeginOf_I2 (a0 : MdlD) (R : D → Prop) (n0 : Nat) (i1 : Int) (n2 : Nat) (n3 : Int) (out4 : List (List Int)) (l5 : List Int) : Prop := iter (den Tryz.prog Ev cordonref_BeginOf_A (sub [1, 1, 0, 1, 0, 0, 1, 0, 0, 1, 0, 1, 0, 0] (bodyOf Tryz.f50)) 2) cordonref_BeginOf_A (liveOf cordonref_BeginOf_A 2) n2 ⟨[(1, .iptr [.sl .var a0.vars, .sl .con a0.cons, dI a0.goal, dI a0.var] 0), (3, .own 3), (4, dI i1), (5, .own 5), (6, dI n3)], [(3, .row 42 (.list .int) out4), (5, .row 3 .int l5)]⟩ (blockK 2 (seqK Tryz.prog Ev cordonref_BeginOf_A (sub [1, 1, 0, 1, 0, 0, 1, 0, 0, 1, 1] (bodyOf Tryz.f50)) 1 (blockK 1 (seqK Tryz.prog Ev cordonref_BeginOf_A (sub [1, 1, 0, 1, 0, 0, 1, 1] (bodyOf Tryz.f50)) 0 (iterK (den Tryz.prog Ev cordonref_BeginOf_A (sub [1, 1, 0, 1, 0, 0] (bodyOf Tryz.f50)) 0) cordonref_BeginOf_A (liveOf cordonref_BeginOf_A 0) n0 (blockK 0 (seqK Tryz.prog Ev cordonref_BeginOf_A (sub [1, 1, 1] (bodyOf Tryz.f50)) 0 (endK Ev Tryz.f50.results.toList R))))))))
def cordonref_BeginOf_I0 (a0 : MdlD) (R : D → Prop) (n0 : Nat) (i1 : Int) (out2 : List (List Int)) : Prop := iter (den Tryz.prog Ev cordonref_BeginOf_A (sub [1, 1, 0, 1, 0, 0] (bodyOf Tryz.f50)) 0) cordonref_BeginOf_A (liveOf cordonref_BeginOf_A 0) n0 ⟨[(1, .iptr [.sl .var a0.vars, .sl .con a0.cons, dI a0.goal, dI a0.var] 0), (3, .own 3), (4, dI i1)], [(3, .row 42 (.list .int) out2)]⟩ (blockK 0 (seqK Tryz.prog Ev cordonref_BeginOf_A (sub [1, 1, 1] (bodyOf Tryz.f50)) 0 (endK Ev Tryz.f50.results.toList R)))
theorem cordonref_BeginOf_I2_eq (a0 : MdlD) (R : D → Prop) (n0 : Nat) (i1 : Int) (n2 : Nat) (n3 : Int) (out4 : List (List Int)) (l5 : List Int) : cordonref_BeginOf_I2 a0 R n0 i1 (n2 + 1) n3 out4 l5 =
 (inb i1 a0.vars.length = true ∧
 sel (decide (n3 ≤ ((at' .var a0.vars i1.toNat).hi)))
 (room .int (l5.length + ([n3]).length) = true ∧
 cordonref_BeginOf_I2 a0 R n0 i1 n2 (w64 (n3 + 1)) out4 (l5 ++ ([n3])))
 (room (.list .int) (out4.length + ([l5]).length) = true ∧
 cordonref_BeginOf_I0 a0 R n0 (w64 (i1 + 1)) (out4 ++ ([l5])))) := by kernel_rfl
theorem cordonref_BeginOf_I0_eq (a0 : MdlD) (R : D → Prop) (n0 : Nat) (i1 : Int) (out2 : List (List Int)) : cordonref_BeginOf_I0 a0 R (n0 + 1) i1 out2 =
 (sel (decide (i1 < (a0.vars.length : Int)))
 (inb i1 a0.vars.length = true ∧
 ∃ n2, cordonref_BeginOf_I2 a0 R n0 i1 n2 ((at' .var a0.vars i1.toNat).lo) out2 ([] : List Int))
 (R (dS out2))) := by kernel_rfl
theorem cordonref_BeginOf_eq (a0 : MdlD) (R : D → Prop) : fnD Tryz.prog Ev cordonref_BeginOf_A Tryz.f50.results.toList (bodyOf Tryz.f50) [dM a0] R =
 (∃ n0, cordonref_BeginOf_I0 a0 R n0 0 ([] : List (List Int))) := by kernel_rfl
theorem cordonref_BeginOf_sat {r : D} (a0 : MdlD) (h : (∀ d ∈ [dM a0], okD d) → fnD Tryz.prog Ev cordonref_BeginOf_A Tryz.f50.results.toList (bodyOf Tryz.f50) [dM a0] fun d => d = r) : Sat Tryz.prog f_cordonref_BeginOf [dM a0] r := by
  have h2 := sat_of (r := r) (args := [dM a0]) (A := cordonref_BeginOf_A) (fn := Tryz.f50) (body := bodyOf Tryz.f50) (f := f_cordonref_BeginOf) factsEv Tryz.func50 (by kernel_rfl) (by rw [Tryz.ntmps50]; rfl) (by rw [Tryz.ntmps50]; exact Nat.le_of_ble_eq_true rfl)
  with_reducible exact h2 h
/-! ### cordon/cordonref.HasInt -/
def cordonref_HasInt_A : Ann := { own := [], live := [(0, ([0, 1, 5], []))], n := 18, nils := [], pubs := [] }
def cordonref_HasInt_I0 (a0 : List Int) (a1 : Int) (R : D → Prop) (n0 : Nat) (i1 : Int) : Prop := iter (den Tryz.prog Ev cordonref_HasInt_A (sub [1, 0, 1, 0, 0] (bodyOf Tryz.f53)) 0) cordonref_HasInt_A (liveOf cordonref_HasInt_A 0) n0 ⟨[(0, .sl .int a0), (1, dI a1), (5, dI i1)], []⟩ (blockK 0 (seqK Tryz.prog Ev cordonref_HasInt_A (sub [1, 1] (bodyOf Tryz.f53)) 0 (endK Ev Tryz.f53.results.toList R)))
theorem cordonref_HasInt_I0_eq (a0 : List Int) (a1 : Int) (R : D → Prop) (n0 : Nat) (i1 : Int) : cordonref_HasInt_I0 a0 a1 R (n0 + 1) i1 =
 (sel (decide (i1 < (a0.length : Int)))
 (inb i1 a0.length = true ∧
 sel (decide ((at' .int a0 i1.toNat) = a1))
 (R (dB true))
 (cordonref_HasInt_I0 a0 a1 R n0 (w64 (i1 + 1))))
 (R (dB false))) := by kernel_rfl
theorem cordonref_HasInt_eq (a0 : List Int) (a1 : Int) (R : D → Prop) : fnD Tryz.prog Ev cordonref_HasInt_A Tryz.f53.results.toList (bodyOf Tryz.f53) [.sl .int a0, dI a1] R =
 (∃ n0, cordonref_HasInt_I0 a0 a1 R n0 0) := by kernel_rfl
theorem cordonref_HasInt_sat {r : D} (a0 : List Int) (a1 : Int) (h : (∀ d ∈ [.sl .int a0, dI a1], okD d) → fnD Tryz.prog Ev cordonref_HasInt_A Tryz.f53.results.toList (bodyOf Tryz.f53) [.sl .int a0, dI a1] fun d => d = r) : Sat Tryz.prog f_cordonref_HasInt [.sl .int a0, dI a1] r := by
  have h2 := sat_of (r := r) (args := [.sl .int a0, dI a1]) (A := cordonref_HasInt_A) (fn := Tryz.f53) (body := bodyOf Tryz.f53) (f := f_cordonref_HasInt) factsEv Tryz.func53 (by kernel_rfl) (by rw [Tryz.ntmps53]; rfl) (by rw [Tryz.ntmps53]; exact Nat.le_of_ble_eq_true rfl)
  with_reducible exact h2 h
/-! ### cordon/cordonref.ScopeOf -/
def cordonref_ScopeOf_A : Ann := { own := [5, 56], live := [(0, ([2, 3, 5, 6], [5])), (2, ([2, 3, 5, 6, 7, 8], [5])), (4, ([2, 3, 5, 6, 7, 9], [5]))], n := 58, nils := [], pubs := [] }
def cordonref_ScopeOf_I4 (a0 : MdlD) (a1 : ConD) (R : D → Prop) (n0 : Nat) (v1 : Int) (out2 : List Int) (n4 : Nat) (is5 : Bool) (i6 : Int) : Prop := iter (den Tryz.prog Ev cordonref_ScopeOf_A (sub [1, 1, 0, 1, 0, 0, 1, 0, 0, 1, 1, 0, 1, 0, 0] (bodyOf Tryz.f58)) 4) cordonref_ScopeOf_A (liveOf cordonref_ScopeOf_A 4) n4 ⟨[(2, .iptr [.sl .var a0.vars, .sl .con a0.cons, dI a0.goal, dI a0.var] 0), (3, .iptr [dI a1.kind, .sl .int a1.vars, .sl .int a1.consts, dI a1.n, dS a1.rows, .sl .lit a1.lits] 0), (5, .own 5), (6, dI v1), (7, dB is5), (9, dI i6)], [(5, .row 3 .int out2)]⟩ (blockK 4 (seqK Tryz.prog Ev cordonref_ScopeOf_A (sub [1, 1, 0, 1, 0, 0, 1, 0, 0, 1, 1, 1] (bodyOf Tryz.f58)) 1 (blockK 1 (seqK Tryz.prog Ev cordonref_ScopeOf_A (sub [1, 1, 0, 1, 0, 0, 1, 1] (bodyOf Tryz.f58)) 0 (iterK (den Tryz.prog Ev cordonref_ScopeOf_A (sub [1, 1, 0, 1, 0, 0] (bodyOf Tryz.f58)) 0) cordonref_ScopeOf_A (liveOf cordonref_ScopeOf_A 0) n0 (blockK 0 (seqK Tryz.prog Ev cordonref_ScopeOf_A (sub [1, 1, 1] (bodyOf Tryz.f58)) 0 (endK Ev Tryz.f58.results.toList R))))))))
def cordonref_ScopeOf_I2 (a0 : MdlD) (a1 : ConD) (R : D → Prop) (n0 : Nat) (v1 : Int) (out2 : List Int) (n2 : Nat) (is3 : Bool) (i4 : Int) : Prop := iter (den Tryz.prog Ev cordonref_ScopeOf_A (sub [1, 1, 0, 1, 0, 0, 1, 0, 0, 1, 0, 1, 0, 0] (bodyOf Tryz.f58)) 2) cordonref_ScopeOf_A (liveOf cordonref_ScopeOf_A 2) n2 ⟨[(2, .iptr [.sl .var a0.vars, .sl .con a0.cons, dI a0.goal, dI a0.var] 0), (3, .iptr [dI a1.kind, .sl .int a1.vars, .sl .int a1.consts, dI a1.n, dS a1.rows, .sl .lit a1.lits] 0), (5, .own 5), (6, dI v1), (7, dB is3), (8, dI i4)], [(5, .row 3 .int out2)]⟩ (blockK 2 (seqK Tryz.prog Ev cordonref_ScopeOf_A (sub [1, 1, 0, 1, 0, 0, 1, 0, 0, 1, 1] (bodyOf Tryz.f58)) 1 (blockK 1 (seqK Tryz.prog Ev cordonref_ScopeOf_A (sub [1, 1, 0, 1, 0, 0, 1, 1] (bodyOf Tryz.f58)) 0 (iterK (den Tryz.prog Ev cordonref_ScopeOf_A (sub [1, 1, 0, 1, 0, 0] (bodyOf Tryz.f58)) 0) cordonref_ScopeOf_A (liveOf cordonref_ScopeOf_A 0) n0 (blockK 0 (seqK Tryz.prog Ev cordonref_ScopeOf_A (sub [1, 1, 1] (bodyOf Tryz.f58)) 0 (endK Ev Tryz.f58.results.toList R))))))))
def cordonref_ScopeOf_I0 (a0 : MdlD) (a1 : ConD) (R : D → Prop) (n0 : Nat) (v1 : Int) (out2 : List Int) : Prop := iter (den Tryz.prog Ev cordonref_ScopeOf_A (sub [1, 1, 0, 1, 0, 0] (bodyOf Tryz.f58)) 0) cordonref_ScopeOf_A (liveOf cordonref_ScopeOf_A 0) n0 ⟨[(2, .iptr [.sl .var a0.vars, .sl .con a0.cons, dI a0.goal, dI a0.var] 0), (3, .iptr [dI a1.kind, .sl .int a1.vars, .sl .int a1.consts, dI a1.n, dS a1.rows, .sl .lit a1.lits] 0), (5, .own 5), (6, dI v1)], [(5, .row 3 .int out2)]⟩ (blockK 0 (seqK Tryz.prog Ev cordonref_ScopeOf_A (sub [1, 1, 1] (bodyOf Tryz.f58)) 0 (endK Ev Tryz.f58.results.toList R)))
theorem cordonref_ScopeOf_I4_eq (a0 : MdlD) (a1 : ConD) (R : D → Prop) (n0 : Nat) (v1 : Int) (out2 : List Int) (n4 : Nat) (is5 : Bool) (i6 : Int) : cordonref_ScopeOf_I4 a0 a1 R n0 v1 out2 (n4 + 1) is5 i6 =
 (sel (decide (i6 < (a1.lits.length : Int)))
 (sel is5
 (cordonref_ScopeOf_I4 a0 a1 R n0 v1 out2 n4 true (w64 (i6 + 1)))
 (inb i6 a1.lits.length = true ∧
 cordonref_ScopeOf_I4 a0 a1 R n0 v1 out2 n4 (decide (((at' .lit a1.lits i6.toNat).var) = v1)) (w64 (i6 + 1))))
 (sel is5
 (room .int (out2.length + ([v1]).length) = true ∧
 cordonref_ScopeOf_I0 a0 a1 R n0 (w64 (v1 + 1)) (out2 ++ ([v1])))
 (cordonref_ScopeOf_I0 a0 a1 R n0 (w64 (v1 + 1)) out2))) := by kernel_rfl
theorem cordonref_ScopeOf_I2_eq (a0 : MdlD) (a1 : ConD) (R : D → Prop) (n0 : Nat) (v1 : Int) (out2 : List Int) (n2 : Nat) (is3 : Bool) (i4 : Int) : cordonref_ScopeOf_I2 a0 a1 R n0 v1 out2 (n2 + 1) is3 i4 =
 (sel (decide (i4 < (a1.vars.length : Int)))
 (sel is3
 (cordonref_ScopeOf_I2 a0 a1 R n0 v1 out2 n2 true (w64 (i4 + 1)))
 (inb i4 a1.vars.length = true ∧
 cordonref_ScopeOf_I2 a0 a1 R n0 v1 out2 n2 (decide ((at' .int a1.vars i4.toNat) = v1)) (w64 (i4 + 1))))
 (∃ n4, cordonref_ScopeOf_I4 a0 a1 R n0 v1 out2 n4 is3 0)) := by kernel_rfl
theorem cordonref_ScopeOf_I0_eq (a0 : MdlD) (a1 : ConD) (R : D → Prop) (n0 : Nat) (v1 : Int) (out2 : List Int) : cordonref_ScopeOf_I0 a0 a1 R (n0 + 1) v1 out2 =
 (sel (decide (v1 < (a0.vars.length : Int)))
 (∃ n2, cordonref_ScopeOf_I2 a0 a1 R n0 v1 out2 n2 false 0)
 (R (.sl .int out2))) := by kernel_rfl
theorem cordonref_ScopeOf_eq (a0 : MdlD) (a1 : ConD) (R : D → Prop) : fnD Tryz.prog Ev cordonref_ScopeOf_A Tryz.f58.results.toList (bodyOf Tryz.f58) [dM a0, dC a1] R =
 (∃ n0, cordonref_ScopeOf_I0 a0 a1 R n0 0 ([] : List Int)) := by kernel_rfl
theorem cordonref_ScopeOf_sat {r : D} (a0 : MdlD) (a1 : ConD) (h : (∀ d ∈ [dM a0, dC a1], okD d) → fnD Tryz.prog Ev cordonref_ScopeOf_A Tryz.f58.results.toList (bodyOf Tryz.f58) [dM a0, dC a1] fun d => d = r) : Sat Tryz.prog f_cordonref_ScopeOf [dM a0, dC a1] r := by
  have h2 := sat_of (r := r) (args := [dM a0, dC a1]) (A := cordonref_ScopeOf_A) (fn := Tryz.f58) (body := bodyOf Tryz.f58) (f := f_cordonref_ScopeOf) factsEv Tryz.func58 (by kernel_rfl) (by rw [Tryz.ntmps58]; rfl) (by rw [Tryz.ntmps58]; exact Nat.le_of_ble_eq_true rfl)
  with_reducible exact h2 h
/-! ### cordon/cordonref.ConHolds -/
def cordonref_ConHolds_A : Ann := { own := [5, 33], live := [(0, ([1, 2, 5, 6], [5])), (2, ([1, 2, 5, 7, 8], [5])), (5, ([5, 9], [5])), (7, ([5, 9, 10], [5])), (9, ([2, 5, 11], [5])), (11, ([2, 5, 12], [5])), (13, ([5, 13, 14], [5])), (15, ([1, 2, 15], []))], n := 222, nils := [], pubs := [] }
def cordonref_ConHolds_I5 (R : D → Prop) (l2 : List Int) (n5 : Nat) (v5 : Int) : Prop := iter (den Tryz.prog Ev cordonref_ConHolds_A (sub [1, 1, 1, 1, 1, 0, 1, 0, 1, 1, 1, 1, 1, 1, 1, 0, 0, 1, 0, 0] (bodyOf Tryz.f59)) 5) cordonref_ConHolds_A (liveOf cordonref_ConHolds_A 5) n5 ⟨[(5, .own 5), (9, dI v5)], [(5, .row 3 .int l2)]⟩ (blockK 5 (seqK Tryz.prog Ev cordonref_ConHolds_A (sub [1, 1, 1, 1, 1, 0, 1, 0, 1, 1, 1, 1, 1, 1, 1, 0, 1] (bodyOf Tryz.f59)) 4 (blockK 4 (seqK Tryz.prog Ev cordonref_ConHolds_A (sub [1, 1, 1, 1, 1, 1] (bodyOf Tryz.f59)) 0 (endK Ev Tryz.f59.results.toList R)))))
def cordonref_ConHolds_I9 (a0 : ConD) (R : D → Prop) (l2 : List Int) (n9 : Nat) (v7 : Int) : Prop := iter (den Tryz.prog Ev cordonref_ConHolds_A (sub [1, 1, 1, 1, 1, 0, 1, 0, 1, 1, 1, 1, 1, 1, 1, 1, 1, 0, 0, 1, 0, 0] (bodyOf Tryz.f59)) 9) cordonref_ConHolds_A (liveOf cordonref_ConHolds_A 9) n9 ⟨[(2, .iptr [dI a0.kind, .sl .int a0.vars, .sl .int a0.consts, dI a0.n, dS a0.rows, .sl .lit a0.lits] 0), (5, .own 5), (11, dI v7)], [(5, .row 3 .int l2)]⟩ (blockK 9 (seqK Tryz.prog Ev cordonref_ConHolds_A (sub [1, 1, 1, 1, 1, 0, 1, 0, 1, 1, 1, 1, 1, 1, 1, 1, 1, 0, 1] (bodyOf Tryz.f59)) 4 (blockK 4 (seqK Tryz.prog Ev cordonref_ConHolds_A (sub [1, 1, 1, 1, 1, 1] (bodyOf Tryz.f59)) 0 (endK Ev Tryz.f59.results.toList R)))))
def cordonref_ConHolds_I11 (a0 : ConD) (R : D → Prop) (l2 : List Int) (n11 : Nat) (v8 : Int) : Prop := iter (den Tryz.prog Ev cordonref_ConHolds_A (sub [1, 1, 1, 1, 1, 0, 1, 0, 1, 1, 1, 1, 1, 1, 1, 1, 1, 1, 1, 0, 0, 1, 0, 0] (bodyOf Tryz.f59)) 11) cordonref_ConHolds_A (liveOf cordonref_ConHolds_A 11) n11 ⟨[(2, .iptr [dI a0.kind, .sl .int a0.vars, .sl .int a0.consts, dI a0.n, dS a0.rows, .sl .lit a0.lits] 0), (5, .own 5), (12, dI v8)], [(5, .row 3 .int l2)]⟩ (blockK 11 (seqK Tryz.prog Ev cordonref_ConHolds_A (sub [1, 1, 1, 1, 1, 0, 1, 0, 1, 1, 1, 1, 1, 1, 1, 1, 1, 1, 1, 0, 1] (bodyOf Tryz.f59)) 4 (blockK 4 (seqK Tryz.prog Ev cordonref_ConHolds_A (sub [1, 1, 1, 1, 1, 1] (bodyOf Tryz.f59)) 0 (endK Ev Tryz.f59.results.toList R)))))
def cordonref_ConHolds_I13 (R : D → Prop) (l2 : List Int) (n13 : Nat) (v10 : Bool) (v11 : Int) : Prop := iter (den Tryz.prog Ev cordonref_ConHolds_A (sub [1, 1, 1, 1, 1, 0, 1, 0, 1, 1, 1, 1, 1, 1, 1, 1, 1, 1, 1, 1, 1, 1, 1, 0, 1, 0, 1, 0, 0] (bodyOf Tryz.f59)) 13) cordonref_ConHolds_A (liveOf cordonref_ConHolds_A 13) n13 ⟨[(5, .own 5), (13, dB v10), (14, dI v11)], [(5, .row 3 .int l2)]⟩ (blockK 13 (seqK Tryz.prog Ev cordonref_ConHolds_A (sub [1, 1, 1, 1, 1, 0, 1, 0, 1, 1, 1, 1, 1, 1, 1, 1, 1, 1, 1, 1, 1, 1, 1, 0, 1, 1] (bodyOf Tryz.f59)) 4 (blockK 4 (seqK Tryz.prog Ev cordonref_ConHolds_A (sub [1, 1, 1, 1, 1, 1] (bodyOf Tryz.f59)) 0 (endK Ev Tryz.f59.results.toList R)))))
def cordonref_ConHolds_I15 (a0 : ConD) (a1 : List Int) (R : D → Prop) (n15 : Nat) (v12 : Int) : Prop := iter (den Tryz.prog Ev cordonref_ConHolds_A (sub [1, 1, 1, 1, 1, 0, 1, 0, 1, 1, 1, 1, 1, 1, 1, 1, 1, 1, 1, 1, 1, 1, 1, 1, 1, 0, 0, 1, 0, 0] (bodyOf Tryz.f59)) 15) cordonref_ConHolds_A (liveOf cordonref_ConHolds_A 15) n15 ⟨[(1, .sl .int a1), (2, .iptr [dI a0.kind, .sl .int a0.vars, .sl .int a0.consts, dI a0.n, dS a0.rows, .sl .lit a0.lits] 0), (15, dI v12)], []⟩ (blockK 15 (seqK Tryz.prog Ev cordonref_ConHolds_A (sub [1, 1, 1, 1, 1, 0, 1, 0, 1, 1, 1, 1, 1, 1, 1, 1, 1, 1, 1, 1, 1, 1, 1, 1, 1, 0, 1] (bodyOf Tryz.f59)) 4 (blockK 4 (seqK Tryz.prog Ev cordonref_ConHolds_A (sub [1, 1, 1, 1, 1, 1] (bodyOf Tryz.f59)) 0 (endK Ev Tryz.f59.results.toList R)))))
def cordonref_ConHolds_I2 (a0 : ConD) (a1 : List Int) (R : D → Prop) (l2 : List Int) (n2 : Nat) (v3 : Int) (v4 : Int) : Prop := iter (den Tryz.prog Ev cordonref_ConHolds_A (sub [1, 1, 1, 1, 0, 1, 0, 1, 0, 0] (bodyOf Tryz.f59)) 2) cordonref_ConHolds_A (liveOf cordonref_ConHolds_A 2) n2 ⟨[(1, .sl .int a1), (2, .iptr [dI a0.kind, .sl .int a0.vars, .sl .int a0.consts, dI a0.n, dS a0.rows, .sl .lit a0.lits] 0), (5, .own 5), (7, dI v3), (8, dI v4)], [(5, .row 3 .int l2)]⟩ (blockK 2 (seqK Tryz.prog Ev cordonref_ConHolds_A (sub [1, 1, 1, 1, 1] (bodyOf Tryz.f59)) 0 (endK Ev Tryz.f59.results.toList R)))
def cordonref_ConHolds_I7_2 (R : D → Prop) (l2 : List Int) (n5_2 : Nat) (v15 : Int) (n7_2 : Nat) (v16 : Int) : Prop := iter (den Tryz.prog Ev cordonref_ConHolds_A (sub [1, 1, 1, 1, 1, 0, 1, 0, 1, 1, 1, 1, 1, 1, 1, 0, 0, 1, 0, 0, 1, 0, 0, 1, 0, 0] (bodyOf Tryz.f59)) 7) cordonref_ConHolds_A (liveOf cordonref_ConHolds_A 7) n7_2 ⟨[(5, .own 5), (9, dI v15), (10, dI v16)], [(5, .row 3 .int l2)]⟩ (blockK 7 (blockK 6 (seqK Tryz.prog Ev cordonref_ConHolds_A (sub [1, 1, 1, 1, 1, 0, 1, 0, 1, 1, 1, 1, 1, 1, 1, 0, 0, 1, 0, 0, 1, 1] (bodyOf Tryz.f59)) 5 (iterK (den Tryz.prog Ev cordonref_ConHolds_A (sub [1, 1, 1, 1, 1, 0, 1, 0, 1, 1, 1, 1, 1, 1, 1, 0, 0, 1, 0, 0] (bodyOf Tryz.f59)) 5) cordonref_ConHolds_A (liveOf cordonref_ConHolds_A 5) n5_2 (blockK 5 (seqK Tryz.prog Ev cordonref_ConHolds_A (sub [1, 1, 1, 1, 1, 0, 1, 0, 1, 1, 1, 1, 1, 1, 1, 0, 1] (bodyOf Tryz.f59)) 4 (blockK 4 (seqK Tryz.prog Ev cordonref_ConHolds_A (sub [1, 1, 1, 1, 1, 1] (bodyOf Tryz.f59)) 0 (endK Ev Tryz.f59.results.toList R)))))))))
def cordonref_ConHolds_I5_2 (R : D → Prop) (l2 : List Int) (n5_2 : Nat) (v15 : Int) : Prop := iter (den Tryz.prog Ev cordonref_ConHolds_A (sub [1, 1, 1, 1, 1, 0, 1, 0, 1, 1, 1, 1, 1, 1, 1, 0, 0, 1, 0, 0] (bodyOf Tryz.f59)) 5) cordonref_ConHolds_A (liveOf cordonref_ConHolds_A 5) n5_2 ⟨[(5, .own 5), (9, dI v15)], [(5, .row 3 .int l2)]⟩ (blockK 5 (seqK Tryz.prog Ev cordonref_ConHolds_A (sub [1, 1, 1, 1, 1, 0, 1, 0, 1, 1, 1, 1, 1, 1, 1, 0, 1] (bodyOf Tryz.f59)) 4 (blockK 4 (seqK Tryz.prog Ev cordonref_ConHolds_A (sub [1, 1, 1, 1, 1, 1] (bodyOf Tryz.f59)) 0 (endK Ev Tryz.f59.results.toList R)))))
def cordonref_ConHolds_I9_2 (a0 : ConD) (R : D → Prop) (l2 : List Int) (n9_2 : Nat) (v17 : Int) : Prop := iter (den Tryz.prog Ev cordonref_ConHolds_A (sub [1, 1, 1, 1, 1, 0, 1, 0, 1, 1, 1, 1, 1, 1, 1, 1, 1, 0, 0, 1, 0, 0] (bodyOf Tryz.f59)) 9) cordonref_ConHolds_A (liveOf cordonref_ConHolds_A 9) n9_2 ⟨[(2, .iptr [dI a0.kind, .sl .int a0.vars, .sl .int a0.consts, dI a0.n, dS a0.rows, .sl .lit a0.lits] 0), (5, .own 5), (11, dI v17)], [(5, .row 3 .int l2)]⟩ (blockK 9 (seqK Tryz.prog Ev cordonref_ConHolds_A (sub [1, 1, 1, 1, 1, 0, 1, 0, 1, 1, 1, 1, 1, 1, 1, 1, 1, 0, 1] (bodyOf Tryz.f59)) 4 (blockK 4 (seqK Tryz.prog Ev cordonref_ConHolds_A (sub [1, 1, 1, 1, 1, 1] (bodyOf Tryz.f59)) 0 (endK Ev Tryz.f59.results.toList R)))))
def cordonref_ConHolds_I11_2 (a0 : ConD) (R : D → Prop) (l2 : List Int) (n11_2 : Nat) (v18 : Int) : Prop := iter (den Tryz.prog Ev cordonref_ConHolds_A (sub [1, 1, 1, 1, 1, 0, 1, 0, 1, 1, 1, 1, 1, 1, 1, 1, 1, 1, 1, 0, 0, 1, 0, 0] (bodyOf Tryz.f59)) 11) cordonref_ConHolds_A (liveOf cordonref_ConHolds_A 11) n11_2 ⟨[(2, .iptr [dI a0.kind, .sl .int a0.vars, .sl .int a0.consts, dI a0.n, dS a0.rows, .sl .lit a0.lits] 0), (5, .own 5), (12, dI v18)], [(5, .row 3 .int l2)]⟩ (blockK 11 (seqK Tryz.prog Ev cordonref_ConHolds_A (sub [1, 1, 1, 1, 1, 0, 1, 0, 1, 1, 1, 1, 1, 1, 1, 1, 1, 1, 1, 0, 1] (bodyOf Tryz.f59)) 4 (blockK 4 (seqK Tryz.prog Ev cordonref_ConHolds_A (sub [1, 1, 1, 1, 1, 1] (bodyOf Tryz.f59)) 0 (endK Ev Tryz.f59.results.toList R)))))
def cordonref_ConHolds_I13_2 (R : D → Prop) (l2 : List Int) (n13_2 : Nat) (v20 : Bool) (v21 : Int) : Prop := iter (den Tryz.prog Ev cordonref_ConHolds_A (sub [1, 1, 1, 1, 1, 0, 1, 0, 1, 1, 1, 1, 1, 1, 1, 1, 1, 1, 1, 1, 1, 1, 1, 0, 1, 0, 1, 0, 0] (bodyOf Tryz.f59)) 13) cordonref_ConHolds_A (liveOf cordonref_ConHolds_A 13) n13_2 ⟨[(5, .own 5), (13, dB v20), (14, dI v21)], [(5, .row 3 .int l2)]⟩ (blockK 13 (seqK Tryz.prog Ev cordonref_ConHolds_A (sub [1, 1, 1, 1, 1, 0, 1, 0, 1, 1, 1, 1, 1, 1, 1, 1, 1, 1, 1, 1, 1, 1, 1, 0, 1, 1] (bodyOf Tryz.f59)) 4 (blockK 4 (seqK Tryz.prog Ev cordonref_ConHolds_A (sub [1, 1, 1, 1, 1, 1] (bodyOf Tryz.f59)) 0 (endK Ev Tryz.f59.results.toList R)))))
def cordonref_ConHolds_I15_2 (a0 : ConD) (a1 : List Int) (R : D → Prop) (n15_2 : Nat) (v22 : Int) : Prop := iter (den Tryz.prog Ev cordonref_ConHolds_A (sub [1, 1, 1, 1, 1, 0, 1, 0, 1, 1, 1, 1, 1, 1, 1, 1, 1, 1, 1, 1, 1, 1, 1, 1, 1, 0, 0, 1, 0, 0] (bodyOf Tryz.f59)) 15) cordonref_ConHolds_A (liveOf cordonref_ConHolds_A 15) n15_2 ⟨[(1, .sl .int a1), (2, .iptr [dI a0.kind, .sl .int a0.vars, .sl .int a0.consts, dI a0.n, dS a0.rows, .sl .lit a0.lits] 0), (15, dI v22)], []⟩ (blockK 15 (seqK Tryz.prog Ev cordonref_ConHolds_A (sub [1, 1, 1, 1, 1, 0, 1, 0, 1, 1, 1, 1, 1, 1, 1, 1, 1, 1, 1, 1, 1, 1, 1, 1, 1, 0, 1] (bodyOf Tryz.f59)) 4 (blockK 4 (seqK Tryz.prog Ev cordonref_ConHolds_A (sub [1, 1, 1, 1, 1, 1] (bodyOf Tryz.f59)) 0 (endK Ev Tryz.f59.results.toList R)))))
def cordonref_ConHolds_I0 (a0 : ConD) (a1 : List Int) (R : D → Prop) (n0 : Nat) (v1 : Int) (l2 : List Int) : Prop := iter (den Tryz.prog Ev cordonref_ConHolds_A (sub [1, 1, 0, 1, 0, 0] (bodyOf Tryz.f59)) 0) cordonref_ConHolds_A (liveOf cordonref_ConHolds_A 0) n0 ⟨[(1, .sl .int a1), (2, .iptr [dI a0.kind, .sl .int a0.vars, .sl .int a0.consts, dI a0.n, dS a0.rows, .sl .lit a0.lits] 0), (5, .own 5), (6, dI v1)], [(5, .row 3 .int l2)]⟩ (blockK 0 (seqK Tryz.prog Ev cordonref_ConHolds_A (sub [1, 1, 1] (bodyOf Tryz.f59)) 0 (endK Ev Tryz.f59.results.toList R)))
theorem cordonref_ConHolds_I2_eq (a0 : ConD) (a1 : List Int) (R : D → Prop) (l2 : List Int) (n2 : Nat) (v3 : Int) (v4 : Int) : cordonref_ConHolds_I2 a0 a1 R l2 (n2 + 1) v3 v4 =
 (sel (decide (v4 < (l2.length : Int)))
 (inb v4 l2.length = true ∧
 inb v4 a0.consts.length = true ∧
 cordonref_ConHolds_I2 a0 a1 R l2 n2 (w64 (v3 + (w64 ((at' .int l2 v4.toNat) * (at' .int a0.consts v4.toNat))))) (w64 (v4 + 1)))
 (sel (decide (a0.kind = 1))
 (R (dB (decide (v3 ≤ a0.n))))
 (sel (decide (a0.kind = 2))
 (R (dB (decide (v3 = a0.n))))
 (sel (decide (a0.kind = 3))
 (R (dB (!decide (v3 = a0.n))))
 (sel (decide (a0.kind = 4))
 (∃ n5, cordonref_ConHolds_I5 R l2 n5 0)
 (sel (decide (a0.kind = 5))
 (∃ n9, cordonref_ConHolds_I9 a0 R l2 n9 0)
 (sel (decide (a0.kind = 6))
 (∃ n11, cordonref_ConHolds_I11 a0 R l2 n11 0)
 (sel (decide (a0.kind = 7))
 (inb 0 l2.length = true ∧
 inb 1 l2.length = true ∧
 inb 2 l2.length = true ∧
 R (dB (decide ((w64 ((at' .int l2 0) * (at' .int l2 1))) = (at' .int l2 2)))))
 (sel (decide (a0.kind = 8))
 (∃ n13, cordonref_ConHolds_I13 R l2 n13 false 1)
 (sel (decide (a0.kind = 9))
 (∃ n15, cordonref_ConHolds_I15 a0 a1 R n15 0)
 (inb 0 a0.lits.length = true ∧
 inb 0 a0.lits.length = true ∧
 inb ((at' .lit a0.lits 0).var) a1.length = true ∧
 Call1 Tryz.prog f_cordonref_LitHolds [dL (at' .lit a0.lits 0), dI (at' .int a1 (((at' .lit a0.lits 0).var).toNat))] .bool fun c14 =>
 sel c14
 (inb 0 l2.length = true ∧
 R (dB (decide ((at' .int l2 0) = 1))))
 (inb 0 l2.length = true ∧
 R (dB (decide ((at' .int l2 0) = 0))))))))))))))) := by kernel_rfl
theorem cordonref_ConHolds_I7_2_eq (R : D → Prop) (l2 : List Int) (n5_2 : Nat) (v15 : Int) (n7_2 : Nat) (v16 : Int) : cordonref_ConHolds_I7_2 R l2 n5_2 v15 (n7_2 + 1) v16 =
 (sel (decide (v16 < v15))
 (inb v15 l2.length = true ∧
 inb v16 l2.length = true ∧
 sel (decide ((at' .int l2 v15.toNat) = (at' .int l2 v16.toNat)))
 (R (dB false))
 (cordonref_ConHolds_I7_2 R l2 n5_2 v15 n7_2 (w64 (v16 + 1))))
 (cordonref_ConHolds_I5_2 R l2 n5_2 (w64 (v15 + 1)))) := by kernel_rfl
theorem cordonref_ConHolds_I5_2_eq (R : D → Prop) (l2 : List Int) (n5_2 : Nat) (v15 : Int) : cordonref_ConHolds_I5_2 R l2 (n5_2 + 1) v15 =
 (sel (decide (v15 < (l2.length : Int)))
 (∃ n7_2, cordonref_ConHolds_I7_2 R l2 n5_2 v15 n7_2 0)
 (R (dB true))) := by kernel_rfl
theorem cordonref_ConHolds_I9_2_eq (a0 : ConD) (R : D → Prop) (l2 : List Int) (n9_2 : Nat) (v17 : Int) : cordonref_ConHolds_I9_2 a0 R l2 (n9_2 + 1) v17 =
 (sel (decide (v17 < (a0.consts.length : Int)))
 (inb 0 l2.length = true ∧
 sel (decide ((at' .int l2 0) = v17))
 (inb v17 a0.consts.length = true ∧
 inb 1 l2.length = true ∧
 R (dB (decide ((at' .int a0.consts v17.toNat) = (at' .int l2 1)))))
 (cordonref_ConHolds_I9_2 a0 R l2 n9_2 (w64 (v17 + 1))))
 (R (dB false))) := by kernel_rfl
theorem cordonref_ConHolds_I11_2_eq (a0 : ConD) (R : D → Prop) (l2 : List Int) (n11_2 : Nat) (v18 : Int) : cordonref_ConHolds_I11_2 a0 R l2 (n11_2 + 1) v18 =
 (sel (decide (v18 < (a0.rows.length : Int)))
 (inb v18 a0.rows.length = true ∧
 Call1 Tryz.prog f_cordonref_SameInts [.sl .int (at' (.list .int) a0.rows v18.toNat), .sl .int l2] .bool fun c19 =>
 sel c19
 (R (dB true))
 (cordonref_ConHolds_I11_2 a0 R l2 n11_2 (w64 (v18 + 1))))
 (R (dB false))) := by kernel_rfl
theorem cordonref_ConHolds_I13_2_eq (R : D → Prop) (l2 : List Int) (n13_2 : Nat) (v20 : Bool) (v21 : Int) : cordonref_ConHolds_I13_2 R l2 (n13_2 + 1) v20 v21 =
 (sel (decide (v21 < (l2.length : Int)))
 (inb v21 l2.length = true ∧
 inb 0 l2.length = true ∧
 sel (decide ((at' .int l2 0) < (at' .int l2 v21.toNat)))
 (R (dB false))
 (sel v20
 (cordonref_ConHolds_I13_2 R l2 n13_2 true (w64 (v21 + 1)))
 (inb v21 l2.length = true ∧
 inb 0 l2.length = true ∧
 cordonref_ConHolds_I13_2 R l2 n13_2 (decide ((at' .int l2 v21.toNat) = (at' .int l2 0))) (w64 (v21 + 1)))))
 (R (dB v20))) := by kernel_rfl
theorem cordonref_ConHolds_I15_2_eq (a0 : ConD) (a1 : List Int) (R : D → Prop) (n15_2 : Nat) (v22 : Int) : cordonref_ConHolds_I15_2 a0 a1 R (n15_2 + 1) v22 =
 (sel (decide (v22 < (a0.lits.length : Int)))
 (inb v22 a0.lits.length = true ∧
 inb v22 a0.lits.length = true ∧
 inb ((at' .lit a0.lits v22.toNat).var) a1.length = true ∧
 Call1 Tryz.prog f_cordonref_LitHolds [dL (at' .lit a0.lits v22.toNat), dI (at' .int a1 (((at' .lit a0.lits v22.toNat).var).toNat))] .bool fun c23 =>
 sel c23
 (R (dB true))
 (cordonref_ConHolds_I15_2 a0 a1 R n15_2 (w64 (v22 + 1))))
 (R (dB false))) := by kernel_rfl
theorem cordonref_ConHolds_I0_eq (a0 : ConD) (a1 : List Int) (R : D → Prop) (n0 : Nat) (v1 : Int) (l2 : List Int) : cordonref_ConHolds_I0 a0 a1 R (n0 + 1) v1 l2 =
 (sel (decide (v1 < (a0.vars.length : Int)))
 (inb v1 a0.vars.length = true ∧
 inb (at' .int a0.vars v1.toNat) a1.length = true ∧
 room .int (l2.length + ([at' .int a1 ((at' .int a0.vars v1.toNat).toNat)]).length) = true ∧
 cordonref_ConHolds_I0 a0 a1 R n0 (w64 (v1 + 1)) (l2 ++ ([at' .int a1 ((at' .int a0.vars v1.toNat).toNat)])))
 (sel (decide (a0.kind ≤ 3))
 (∃ n2, cordonref_ConHolds_I2 a0 a1 R l2 n2 0 0)
 (sel (decide (a0.kind = 1))
 (R (dB (decide (0 ≤ a0.n))))
 (sel (decide (a0.kind = 2))
 (R (dB (decide (0 = a0.n))))
 (sel (decide (a0.kind = 3))
 (R (dB (!decide (0 = a0.n))))
 (sel (decide (a0.kind = 4))
 (∃ n5_2, cordonref_ConHolds_I5_2 R l2 n5_2 0)
 (sel (decide (a0.kind = 5))
 (∃ n9_2, cordonref_ConHolds_I9_2 a0 R l2 n9_2 0)
 (sel (decide (a0.kind = 6))
 (∃ n11_2, cordonref_ConHolds_I11_2 a0 R l2 n11_2 0)
 (sel (decide (a0.kind = 7))
 (inb 0 l2.length = true ∧
 inb 1 l2.length = true ∧
 inb 2 l2.length = true ∧
 R (dB (decide ((w64 ((at' .int l2 0) * (at' .int l2 1))) = (at' .int l2 2)))))
 (sel (decide (a0.kind = 8))
 (∃ n13_2, cordonref_ConHolds_I13_2 R l2 n13_2 false 1)
 (sel (decide (a0.kind = 9))
 (∃ n15_2, cordonref_ConHolds_I15_2 a0 a1 R n15_2 0)
 (inb 0 a0.lits.length = true ∧
 inb 0 a0.lits.length = true ∧
 inb ((at' .lit a0.lits 0).var) a1.length = true ∧
 Call1 Tryz.prog f_cordonref_LitHolds [dL (at' .lit a0.lits 0), dI (at' .int a1 (((at' .lit a0.lits 0).var).toNat))] .bool fun c24 =>
 sel c24
 (inb 0 l2.length = true ∧
 R (dB (decide ((at' .int l2 0) = 1))))
 (inb 0 l2.length = true ∧
 R (dB (decide ((at' .int l2 0) = 0)))))))))))))))) := by kernel_rfl
theorem cordonref_ConHolds_eq (a0 : ConD) (a1 : List Int) (R : D → Prop) : fnD Tryz.prog Ev cordonref_ConHolds_A Tryz.f59.results.toList (bodyOf Tryz.f59) [dC a0, .sl .int a1] R =
 (∃ n0, cordonref_ConHolds_I0 a0 a1 R n0 0 ([] : List Int)) := by kernel_rfl
theorem cordonref_ConHolds_sat {r : D} (a0 : ConD) (a1 : List Int) (h : (∀ d ∈ [dC a0, .sl .int a1], okD d) → fnD Tryz.prog Ev cordonref_ConHolds_A Tryz.f59.results.toList (bodyOf Tryz.f59) [dC a0, .sl .int a1] fun d => d = r) : Sat Tryz.prog f_cordonref_ConHolds [dC a0, .sl .int a1] r := by
  have h2 := sat_of (r := r) (args := [dC a0, .sl .int a1]) (A := cordonref_ConHolds_A) (fn := Tryz.f59) (body := bodyOf Tryz.f59) (f := f_cordonref_ConHolds) factsEv Tryz.func59 (by kernel_rfl) (by rw [Tryz.ntmps59]; rfl) (by rw [Tryz.ntmps59]; exact Nat.le_of_ble_eq_true rfl)
  with_reducible exact h2 h
/-! ### cordon/cordonref.NoValues -/
def cordonref_NoValues_A : Ann := { own := [3, 12], live := [(0, ([0, 3, 4], [3]))], n := 14, nils := [], pubs := [] }
def cordonref_NoValues_I0 (a0 : Int) (R : D → Prop) (n0 : Nat) (i1 : Int) (out2 : List (List Int)) : Prop := iter (den Tryz.prog Ev cordonref_NoValues_A (sub [1, 1, 0, 1, 0, 0] (bodyOf Tryz.f60)) 0) cordonref_NoValues_A (liveOf cordonref_NoValues_A 0) n0 ⟨[(0, dI a0), (3, .own 3), (4, dI i1)], [(3, .row 42 (.list .int) out2)]⟩ (blockK 0 (seqK Tryz.prog Ev cordonref_NoValues_A (sub [1, 1, 1] (bodyOf Tryz.f60)) 0 (endK Ev Tryz.f60.results.toList R)))
theorem cordonref_NoValues_I0_eq (a0 : Int) (R : D → Prop) (n0 : Nat) (i1 : Int) (out2 : List (List Int)) : cordonref_NoValues_I0 a0 R (n0 + 1) i1 out2 =
 (sel (decide (i1 < a0))
 (room (.list .int) (out2.length + ([([] : List Int)]).length) = true ∧
 cordonref_NoValues_I0 a0 R n0 (w64 (i1 + 1)) (out2 ++ ([([] : List Int)])))
 (R (dS out2))) := by kernel_rfl
theorem cordonref_NoValues_eq (a0 : Int) (R : D → Prop) : fnD Tryz.prog Ev cordonref_NoValues_A Tryz.f60.results.toList (bodyOf Tryz.f60) [dI a0] R =
 (∃ n0, cordonref_NoValues_I0 a0 R n0 0 ([] : List (List Int))) := by kernel_rfl
theorem cordonref_NoValues_sat {r : D} (a0 : Int) (h : (∀ d ∈ [dI a0], okD d) → fnD Tryz.prog Ev cordonref_NoValues_A Tryz.f60.results.toList (bodyOf Tryz.f60) [dI a0] fun d => d = r) : Sat Tryz.prog f_cordonref_NoValues [dI a0] r := by
  have h2 := sat_of (r := r) (args := [dI a0]) (A := cordonref_NoValues_A) (fn := Tryz.f60) (body := bodyOf Tryz.f60) (f := f_cordonref_NoValues) factsEv Tryz.func60 (by kernel_rfl) (by rw [Tryz.ntmps60]; rfl) (by rw [Tryz.ntmps60]; exact Nat.le_of_ble_eq_true rfl)
  with_reducible exact h2 h
/-! ### cordon/cordonref.Chosen -/
def cordonref_Chosen_A : Ann := { own := [], live := [(0, ([0, 1, 2, 3, 9], [1000]))], n := 46, nils := [], pubs := [] }
def cordonref_Chosen_I0 (s0 : List (List Int)) (vars0 : List Int) (R : D → List (Nat × HObj) → Prop) (n0 : Nat) (n1 : Int) (i2 : Int) (l3 : List Int) : Prop := iter (den Tryz.prog Ev cordonref_Chosen_A (sub [1, 0, 1, 0, 0] (bodyOf Tryz.f61)) 0) cordonref_Chosen_A (liveOf cordonref_Chosen_A 0) n0 ⟨[(0, dS s0), (1, .sl .int vars0), (2, .own 1000), (3, dI n1), (9, dI i2)], [(1000, .row 3 .int l3)]⟩ (blockK 0 (seqK Tryz.prog Ev cordonref_Chosen_A (sub [1, 1] (bodyOf Tryz.f61)) 0 (endH Ev Tryz.f61.results.toList [.own 1000] false R)))
theorem cordonref_Chosen_I0_eq (s0 : List (List Int)) (vars0 : List Int) (R : D → List (Nat × HObj) → Prop) (n0 : Nat) (n1 : Int) (i2 : Int) (l3 : List Int) : cordonref_Chosen_I0 s0 vars0 R (n0 + 1) n1 i2 l3 =
 (sel (decide (i2 < (vars0.length : Int)))
 (inb i2 vars0.length = true ∧
 inb (at' .int vars0 i2.toNat) s0.length = true ∧
 sel (decide (((at' (.list .int) s0 ((at' .int vars0 i2.toNat).toNat)).length : Int) = 0))
 (R (dB false) [(1000, .row 3 .int l3)])
 (inb i2 vars0.length = true ∧
 ((at' (.list .int) s0 ((at' .int vars0 i2.toNat).toNat)).length : Int) ≠ 0 ∧
 inb (n1.tmod ((at' (.list .int) s0 ((at' .int vars0 i2.toNat).toNat)).length : Int)) (at' (.list .int) s0 ((at' .int vars0 i2.toNat).toNat)).length = true ∧
 inb (at' .int vars0 i2.toNat) l3.length = true ∧
 ((at' (.list .int) s0 ((at' .int vars0 i2.toNat).toNat)).length : Int) ≠ 0 ∧
 cordonref_Chosen_I0 s0 vars0 R n0 (w64 (n1.tdiv ((at' (.list .int) s0 ((at' .int vars0 i2.toNat).toNat)).length : Int))) (w64 (i2 + 1)) (l3.set ((at' .int vars0 i2.toNat).toNat) (at' .int (at' (.list .int) s0 ((at' .int vars0 i2.toNat).toNat)) ((n1.tmod ((at' (.list .int) s0 ((at' .int vars0 i2.toNat).toNat)).length : Int)).toNat)))))
 (R (dB (decide (n1 = 0))) [(1000, .row 3 .int l3)])) := by kernel_rfl
theorem cordonref_Chosen_eq (s0 : List (List Int)) (vars0 : List Int) (values0 : List Int) (pn0 : Int) (R : D → List (Nat × HObj) → Prop) : fnH Tryz.prog Ev cordonref_Chosen_A Tryz.f61.results.toList (bodyOf Tryz.f61) [dS s0, .sl .int vars0, .own 1000, dI pn0] [(1000, .row 3 .int values0)] [.own 1000] false R =
 (∃ n0, cordonref_Chosen_I0 s0 vars0 R n0 pn0 0 values0) := by kernel_rfl
theorem cordonref_Chosen_sat {r : D} {h0 : List (Nat × HObj)} (s0 : List (List Int)) (vars0 : List Int) (values0 : List Int) (pn0 : Int) (h : (∀ d ∈ [dS s0, .sl .int vars0, .own 1000, dI pn0], okD d) → (∀ k o, look k [(1000, .row 3 .int values0)] = some o → okO o) → fnH Tryz.prog Ev cordonref_Chosen_A Tryz.f61.results.toList (bodyOf Tryz.f61) [dS s0, .sl .int vars0, .own 1000, dI pn0] [(1000, .row 3 .int values0)] [.own 1000] false fun d h1 => d = r ∧ h1 = h0) : SatH Tryz.prog f_cordonref_Chosen [dS s0, .sl .int vars0, .own 1000, dI pn0] [(1000, .row 3 .int values0)] r h0 := by
  have h2 := satH_of (r := r) (hp := [(1000, .row 3 .int values0)]) (hp' := h0) (roots := [.own 1000]) (args := [dS s0, .sl .int vars0, .own 1000, dI pn0]) (A := cordonref_Chosen_A) (fn := Tryz.f61) (body := bodyOf Tryz.f61) (f := f_cordonref_Chosen) (own := false) factsEv Tryz.func61 (by kernel_rfl) (by rw [Tryz.ntmps61]; rfl) (by rw [Tryz.ntmps61]; exact Nat.le_of_ble_eq_true rfl)
  with_reducible exact h2 h
/-! ### cordon/cordonref.hasLit -/
def cordonref_hasLit_A : Ann := { own := [], live := [(0, ([0, 3, 5], []))], n := 18, nils := [], pubs := [] }
def cordonref_hasLit_I0 (a0 : List LitD) (a1 : LitD) (R : D → Prop) (n0 : Nat) (i1 : Int) : Prop := iter (den Tryz.prog Ev cordonref_hasLit_A (sub [1, 0, 1, 0, 0] (bodyOf Tryz.f62)) 0) cordonref_hasLit_A (liveOf cordonref_hasLit_A 0) n0 ⟨[(0, .sl .lit a0), (3, .iptr [dI a1.var, dI a1.op, dI a1.n] 0), (5, dI i1)], []⟩ (blockK 0 (seqK Tryz.prog Ev cordonref_hasLit_A (sub [1, 1] (bodyOf Tryz.f62)) 0 (endK Ev Tryz.f62.results.toList R)))
theorem cordonref_hasLit_I0_eq (a0 : List LitD) (a1 : LitD) (R : D → Prop) (n0 : Nat) (i1 : Int) : cordonref_hasLit_I0 a0 a1 R (n0 + 1) i1 =
 (sel (decide (i1 < (a0.length : Int)))
 (inb i1 a0.length = true ∧
 sel (decide ((at' .lit a0 i1.toNat) = a1))
 (R (dB true))
 (cordonref_hasLit_I0 a0 a1 R n0 (w64 (i1 + 1))))
 (R (dB false))) := by kernel_rfl
theorem cordonref_hasLit_eq (a0 : List LitD) (a1 : LitD) (R : D → Prop) : fnD Tryz.prog Ev cordonref_hasLit_A Tryz.f62.results.toList (bodyOf Tryz.f62) [.sl .lit a0, dL a1] R =
 (∃ n0, cordonref_hasLit_I0 a0 a1 R n0 0) := by kernel_rfl
theorem cordonref_hasLit_sat {r : D} (a0 : List LitD) (a1 : LitD) (h : (∀ d ∈ [.sl .lit a0, dL a1], okD d) → fnD Tryz.prog Ev cordonref_hasLit_A Tryz.f62.results.toList (bodyOf Tryz.f62) [.sl .lit a0, dL a1] fun d => d = r) : Sat Tryz.prog f_cordonref_hasLit [.sl .lit a0, dL a1] r := by
  have h2 := sat_of (r := r) (args := [.sl .lit a0, dL a1]) (A := cordonref_hasLit_A) (fn := Tryz.f62) (body := bodyOf Tryz.f62) (f := f_cordonref_hasLit) factsEv Tryz.func62 (by kernel_rfl) (by rw [Tryz.ntmps62]; rfl) (by rw [Tryz.ntmps62]; exact Nat.le_of_ble_eq_true rfl)
  with_reducible exact h2 h
/-! ### cordon/cordonref.SameInts -/
def cordonref_SameInts_A : Ann := { own := [], live := [(0, ([0, 1, 5], []))], n := 26, nils := [], pubs := [] }
def cordonref_SameInts_I0 (a0 : List Int) (a1 : List Int) (R : D → Prop) (n0 : Nat) (i1 : Int) : Prop := iter (den Tryz.prog Ev cordonref_SameInts_A (sub [1, 1, 0, 1, 0, 0] (bodyOf Tryz.f66)) 0) cordonref_SameInts_A (liveOf cordonref_SameInts_A 0) n0 ⟨[(0, .sl .int a0), (1, .sl .int a1), (5, dI i1)], []⟩ (blockK 0 (seqK Tryz.prog Ev cordonref_SameInts_A (sub [1, 1, 1] (bodyOf Tryz.f66)) 0 (endK Ev Tryz.f66.results.toList R)))
theorem cordonref_SameInts_I0_eq (a0 : List Int) (a1 : List Int) (R : D → Prop) (n0 : Nat) (i1 : Int) : cordonref_SameInts_I0 a0 a1 R (n0 + 1) i1 =
 (sel (decide (i1 < (a0.length : Int)))
 (inb i1 a0.length = true ∧
 inb i1 a1.length = true ∧
 sel (!decide ((at' .int a0 i1.toNat) = (at' .int a1 i1.toNat)))
 (R (dB false))
 (cordonref_SameInts_I0 a0 a1 R n0 (w64 (i1 + 1))))
 (R (dB true))) := by kernel_rfl
theorem cordonref_SameInts_eq (a0 : List Int) (a1 : List Int) (R : D → Prop) : fnD Tryz.prog Ev cordonref_SameInts_A Tryz.f66.results.toList (bodyOf Tryz.f66) [.sl .int a0, .sl .int a1] R =
 (sel (!decide ((a0.length : Int) = (a1.length : Int)))
 (R (dB false))
 (∃ n0, cordonref_SameInts_I0 a0 a1 R n0 0)) := by kernel_rfl
theorem cordonref_SameInts_sat {r : D} (a0 : List Int) (a1 : List Int) (h : (∀ d ∈ [.sl .int a0, .sl .int a1], okD d) → fnD Tryz.prog Ev cordonref_SameInts_A Tryz.f66.results.toList (bodyOf Tryz.f66) [.sl .int a0, .sl .int a1] fun d => d = r) : Sat Tryz.prog f_cordonref_SameInts [.sl .int a0, .sl .int a1] r := by
  have h2 := sat_of (r := r) (args := [.sl .int a0, .sl .int a1]) (A := cordonref_SameInts_A) (fn := Tryz.f66) (body := bodyOf Tryz.f66) (f := f_cordonref_SameInts) factsEv Tryz.func66 (by kernel_rfl) (by rw [Tryz.ntmps66]; rfl) (by rw [Tryz.ntmps66]; exact Nat.le_of_ble_eq_true rfl)
  with_reducible exact h2 h
/-! ### cordon/cordonref.UnitOf -/
def cordonref_UnitOf_A : Ann := { own := [5, 7, 9, 46, 117, 121], live := [(0, ([0, 1, 5, 6], [5])), (2, ([0, 1, 5, 7, 8], [5, 7])), (4, ([0, 1, 5, 7, 8, 9, 10], [5, 7, 9])), (6, ([0, 1, 5, 7, 8, 9, 10, 11, 12], [5, 7, 9]))], n := 123, nils := [], pubs := [] }
def cordonref_UnitOf_I6 (a0 : List (List Int)) (a1 : List LitD) (R : D → Prop) (n2 : Nat) (v7 : Int) (n4 : Nat) (v10 : Int) (l11 : List Int) (l12 : List (List Int)) (l13 : List Int) (n6 : Nat) (v14 : Bool) (v15 : Int) : Prop := iter (den Tryz.prog Ev cordonref_UnitOf_A (sub [1, 1, 1, 1, 1, 1, 1, 0, 1, 0, 0, 1, 0, 0, 1, 0, 1, 0, 0, 1, 0, 0, 1, 0, 1, 0, 0] (bodyOf Tryz.f81)) 6) cordonref_UnitOf_A (liveOf cordonref_UnitOf_A 6) n6 ⟨[(0, dS a0), (1, .sl .lit a1), (5, .own 5), (7, .own 7), (8, dI v7), (9, .own 9), (10, dI v10), (11, dB v14), (12, dI v15)], [(5, .row 3 .int l11), (7, .row 42 (.list .int) l12), (9, .row 3 .int l13)]⟩ (blockK 6 (seqK Tryz.prog Ev cordonref_UnitOf_A (sub [1, 1, 1, 1, 1, 1, 1, 0, 1, 0, 0, 1, 0, 0, 1, 0, 1, 0, 0, 1, 0, 0, 1, 1] (bodyOf Tryz.f81)) 5 (blockK 5 (seqK Tryz.prog Ev cordonref_UnitOf_A (sub [1, 1, 1, 1, 1, 1, 1, 0, 1, 0, 0, 1, 0, 0, 1, 0, 1, 0, 0, 1, 1] (bodyOf Tryz.f81)) 4 (iterK (den Tryz.prog Ev cordonref_UnitOf_A (sub [1, 1, 1, 1, 1, 1, 1, 0, 1, 0, 0, 1, 0, 0, 1, 0, 1, 0, 0] (bodyOf Tryz.f81)) 4) cordonref_UnitOf_A (liveOf cordonref_UnitOf_A 4) n4 (blockK 4 (seqK Tryz.prog Ev cordonref_UnitOf_A (sub [1, 1, 1, 1, 1, 1, 1, 0, 1, 0, 0, 1, 0, 0, 1, 1] (bodyOf Tryz.f81)) 3 (blockK 3 (seqK Tryz.prog Ev cordonref_UnitOf_A (sub [1, 1, 1, 1, 1, 1, 1, 0, 1, 0, 0, 1, 1] (bodyOf Tryz.f81)) 2 (iterK (den Tryz.prog Ev cordonref_UnitOf_A (sub [1, 1, 1, 1, 1, 1, 1, 0, 1, 0, 0] (bodyOf Tryz.f81)) 2) cordonref_UnitOf_A (liveOf cordonref_UnitOf_A 2) n2 (blockK 2 (seqK Tryz.prog Ev cordonref_UnitOf_A (sub [1, 1, 1, 1, 1, 1, 1, 1] (bodyOf Tryz.f81)) 0 (endK Ev Tryz.f81.results.toList R)))))))))))))
def cordonref_UnitOf_I4 (a0 : List (List Int)) (a1 : List LitD) (R : D → Prop) (n2 : Nat) (v7 : Int) (n4 : Nat) (v10 : Int) (l11 : List Int) (l12 : List (List Int)) (l13 : List Int) : Prop := iter (den Tryz.prog Ev cordonref_UnitOf_A (sub [1, 1, 1, 1, 1, 1, 1, 0, 1, 0, 0, 1, 0, 0, 1, 0, 1, 0, 0] (bodyOf Tryz.f81)) 4) cordonref_UnitOf_A (liveOf cordonref_UnitOf_A 4) n4 ⟨[(0, dS a0), (1, .sl .lit a1), (5, .own 5), (7, .own 7), (8, dI v7), (9, .own 9), (10, dI v10)], [(5, .row 3 .int l11), (7, .row 42 (.list .int) l12), (9, .row 3 .int l13)]⟩ (blockK 4 (seqK Tryz.prog Ev cordonref_UnitOf_A (sub [1, 1, 1, 1, 1, 1, 1, 0, 1, 0, 0, 1, 0, 0, 1, 1] (bodyOf Tryz.f81)) 3 (blockK 3 (seqK Tryz.prog Ev cordonref_UnitOf_A (sub [1, 1, 1, 1, 1, 1, 1, 0, 1, 0, 0, 1, 1] (bodyOf Tryz.f81)) 2 (iterK (den Tryz.prog Ev cordonref_UnitOf_A (sub [1, 1, 1, 1, 1, 1, 1, 0, 1, 0, 0] (bodyOf Tryz.f81)) 2) cordonref_UnitOf_A (liveOf cordonref_UnitOf_A 2) n2 (blockK 2 (seqK Tryz.prog Ev cordonref_UnitOf_A (sub [1, 1, 1, 1, 1, 1, 1, 1] (bodyOf Tryz.f81)) 0 (endK Ev Tryz.f81.results.toList R))))))))
def cordonref_UnitOf_I2 (a0 : List (List Int)) (a1 : List LitD) (R : D → Prop) (n2 : Nat) (v7 : Int) (l8 : List Int) (l9 : List (List Int)) : Prop := iter (den Tryz.prog Ev cordonref_UnitOf_A (sub [1, 1, 1, 1, 1, 1, 1, 0, 1, 0, 0] (bodyOf Tryz.f81)) 2) cordonref_UnitOf_A (liveOf cordonref_UnitOf_A 2) n2 ⟨[(0, dS a0), (1, .sl .lit a1), (5, .own 5), (7, .own 7), (8, dI v7)], [(5, .row 3 .int l8), (7, .row 42 (.list .int) l9)]⟩ (blockK 2 (seqK Tryz.prog Ev cordonref_UnitOf_A (sub [1, 1, 1, 1, 1, 1, 1, 1] (bodyOf Tryz.f81)) 0 (endK Ev Tryz.f81.results.toList R)))
def cordonref_UnitOf_I0 (a0 : List (List Int)) (a1 : List LitD) (R : D → Prop) (n0 : Nat) (v2 : Int) (l3 : List Int) : Prop := iter (den Tryz.prog Ev cordonref_UnitOf_A (sub [1, 1, 1, 0, 1, 0, 0] (bodyOf Tryz.f81)) 0) cordonref_UnitOf_A (liveOf cordonref_UnitOf_A 0) n0 ⟨[(0, dS a0), (1, .sl .lit a1), (5, .own 5), (6, dI v2)], [(5, .row 3 .int l3)]⟩ (blockK 0 (seqK Tryz.prog Ev cordonref_UnitOf_A (sub [1, 1, 1, 1] (bodyOf Tryz.f81)) 0 (endK Ev Tryz.f81.results.toList R)))
theorem cordonref_UnitOf_I6_eq (a0 : List (List Int)) (a1 : List LitD) (R : D → Prop) (n2 : Nat) (v7 : Int) (n4 : Nat) (v10 : Int) (l11 : List Int) (l12 : List (List Int)) (l13 : List Int) (n6 : Nat) (v14 : Bool) (v15 : Int) : cordonref_UnitOf_I6 a0 a1 R n2 v7 n4 v10 l11 l12 l13 (n6 + 1) v14 v15 =
 (sel (decide (v15 < (a1.length : Int)))
 (sel v14
 (cordonref_UnitOf_I6 a0 a1 R n2 v7 n4 v10 l11 l12 l13 n6 true (w64 (v15 + 1)))
 (inb v15 a1.length = true ∧
 sel (decide (((at' .lit a1 v15.toNat).var) = v7))
 (inb v15 a1.length = true ∧
 inb v7 a0.length = true ∧
 inb v10 (at' (.list .int) a0 v7.toNat).length = true ∧
 Call1 Tryz.prog f_cordonref_LitHolds [dL (at' .lit a1 v15.toNat), dI (at' .int (at' (.list .int) a0 v7.toNat) v10.toNat)] .bool fun c16 =>
 cordonref_UnitOf_I6 a0 a1 R n2 v7 n4 v10 l11 l12 l13 n6 c16 (w64 (v15 + 1)))
 (cordonref_UnitOf_I6 a0 a1 R n2 v7 n4 v10 l11 l12 l13 n6 false (w64 (v15 + 1)))))
 (sel v14
 (inb v7 a0.length = true ∧
 inb v10 (at' (.list .int) a0 v7.toNat).length = true ∧
 room .int (l13.length + ([at' .int (at' (.list .int) a0 v7.toNat) v10.toNat]).length) = true ∧
 cordonref_UnitOf_I4 a0 a1 R n2 v7 n4 (w64 (v10 + 1)) l11 l12 (l13 ++ ([at' .int (at' (.list .int) a0 v7.toNat) v10.toNat])))
 (cordonref_UnitOf_I4 a0 a1 R n2 v7 n4 (w64 (v10 + 1)) l11 l12 l13))) := by kernel_rfl
theorem cordonref_UnitOf_I4_eq (a0 : List (List Int)) (a1 : List LitD) (R : D → Prop) (n2 : Nat) (v7 : Int) (n4 : Nat) (v10 : Int) (l11 : List Int) (l12 : List (List Int)) (l13 : List Int) : cordonref_UnitOf_I4 a0 a1 R n2 v7 (n4 + 1) v10 l11 l12 l13 =
 (inb v7 a0.length = true ∧
 sel (decide (v10 < ((at' (.list .int) a0 v7.toNat).length : Int)))
 (inb 0 l11.length = true ∧
 ∃ n6, cordonref_UnitOf_I6 a0 a1 R n2 v7 n4 v10 l11 l12 l13 n6 (!decide (v7 = (at' .int l11 0))) 0)
 (room (.list .int) (l12.length + ([l13]).length) = true ∧
 cordonref_UnitOf_I2 a0 a1 R n2 (w64 (v7 + 1)) l11 (l12 ++ ([l13])))) := by kernel_rfl
theorem cordonref_UnitOf_I2_eq (a0 : List (List Int)) (a1 : List LitD) (R : D → Prop) (n2 : Nat) (v7 : Int) (l8 : List Int) (l9 : List (List Int)) : cordonref_UnitOf_I2 a0 a1 R (n2 + 1) v7 l8 l9 =
 (sel (decide (v7 < (a0.length : Int)))
 (∃ n4, cordonref_UnitOf_I4 a0 a1 R n2 v7 n4 0 l8 l9 ([] : List Int))
 (R (dS l9))) := by kernel_rfl
theorem cordonref_UnitOf_I0_eq (a0 : List (List Int)) (a1 : List LitD) (R : D → Prop) (n0 : Nat) (v2 : Int) (l3 : List Int) : cordonref_UnitOf_I0 a0 a1 R (n0 + 1) v2 l3 =
 (sel (decide (v2 < (a1.length : Int)))
 (inb v2 a1.length = true ∧
 Call1 Tryz.prog f_cordonref_ToldOf [dS a0, dL (at' .lit a1 v2.toNat)] .int fun c4 =>
 sel (decide (0 ≤ c4))
 (inb v2 a1.length = true ∧
 Call1 Tryz.prog f_cordonref_HasInt [.sl .int l3, dI ((at' .lit a1 v2.toNat).var)] .bool fun c5 =>
 sel (!c5)
 (inb v2 a1.length = true ∧
 room .int (l3.length + ([(at' .lit a1 v2.toNat).var]).length) = true ∧
 cordonref_UnitOf_I0 a0 a1 R n0 (w64 (v2 + 1)) (l3 ++ ([(at' .lit a1 v2.toNat).var])))
 (cordonref_UnitOf_I0 a0 a1 R n0 (w64 (v2 + 1)) l3))
 (cordonref_UnitOf_I0 a0 a1 R n0 (w64 (v2 + 1)) l3))
 (sel (decide ((l3.length : Int) = 0))
 (Call1 Tryz.prog f_cordonref_NoValues [dI (a0.length : Int)] (.list (.list .int)) fun c6 =>
 R (dS c6))
 (sel (decide (1 < (l3.length : Int)))
 (R (dS a0))
 (∃ n2, cordonref_UnitOf_I2 a0 a1 R n2 0 l3 ([] : List (List Int)))))) := by kernel_rfl
theorem cordonref_UnitOf_eq (a0 : List (List Int)) (a1 : List LitD) (R : D → Prop) : fnD Tryz.prog Ev cordonref_UnitOf_A Tryz.f81.results.toList (bodyOf Tryz.f81) [dS a0, .sl .lit a1] R =
 (Call1 Tryz.prog f_cordonref_HasFailed [dS a0] .bool fun c1 =>
 sel c1
 (R (dS a0))
 (∃ n0, cordonref_UnitOf_I0 a0 a1 R n0 0 ([] : List Int))) := by kernel_rfl
theorem cordonref_UnitOf_sat {r : D} (a0 : List (List Int)) (a1 : List LitD) (h : (∀ d ∈ [dS a0, .sl .lit a1], okD d) → fnD Tryz.prog Ev cordonref_UnitOf_A Tryz.f81.results.toList (bodyOf Tryz.f81) [dS a0, .sl .lit a1] fun d => d = r) : Sat Tryz.prog f_cordonref_UnitOf [dS a0, .sl .lit a1] r := by
  have h2 := sat_of (r := r) (args := [dS a0, .sl .lit a1]) (A := cordonref_UnitOf_A) (fn := Tryz.f81) (body := bodyOf Tryz.f81) (f := f_cordonref_UnitOf) factsEv Tryz.func81 (by kernel_rfl) (by rw [Tryz.ntmps81]; rfl) (by rw [Tryz.ntmps81]; exact Nat.le_of_ble_eq_true rfl)
  with_reducible exact h2 h
/-! ### cordon/cordonref.between -/
def cordonref_between_A : Ann := { own := [], live := [], n := 15, nils := [], pubs := [] }
theorem cordonref_between_eq (a0 : Int) (a1 : Int) (a2 : Int) (R : D → Prop) : fnD Tryz.prog Ev cordonref_between_A Tryz.f87.results.toList (bodyOf Tryz.f87) [dI a0, dI a1, dI a2] R =
 (sel (decide (a1 ≤ a0))
 (R (dB (decide (a0 ≤ a2))))
 (R (dB false))) := by kernel_rfl
theorem cordonref_between_sat {r : D} (a0 : Int) (a1 : Int) (a2 : Int) (h : (∀ d ∈ [dI a0, dI a1, dI a2], okD d) → fnD Tryz.prog Ev cordonref_between_A Tryz.f87.results.toList (bodyOf Tryz.f87) [dI a0, dI a1, dI a2] fun d => d = r) : Sat Tryz.prog f_cordonref_between [dI a0, dI a1, dI a2] r := by
  have h2 := sat_of (r := r) (args := [dI a0, dI a1, dI a2]) (A := cordonref_between_A) (fn := Tryz.f87) (body := bodyOf Tryz.f87) (f := f_cordonref_between) factsEv Tryz.func87 (by kernel_rfl) (by rw [Tryz.ntmps87]; rfl) (by rw [Tryz.ntmps87]; exact Nat.le_of_ble_eq_true rfl)
  with_reducible exact h2 h
/-! ### cordon/cordonref.checkCon -/
def cordonref_checkCon_A : Ann := { own := [], live := [(0, ([2, 3, 5], [])), (2, ([2, 3, 6], [])), (4, ([2, 3, 7], [])), (6, ([2, 3, 8], [])), (8, ([2, 3, 8, 9], [])), (10, ([2, 3, 10], []))], n := 140, nils := [], pubs := [] }
def cordonref_checkCon_I8 (a0 : MdlD) (a1 : ConD) (R : D → Prop) (n6 : Nat) (v10 : Int) (n8 : Nat) (v11 : Int) : Prop := iter (den Tryz.prog Ev cordonref_checkCon_A (sub [1, 1, 1, 1, 1, 1, 1, 1, 0, 1, 0, 0, 1, 0, 0, 1, 0, 0] (bodyOf Tryz.f88)) 8) cordonref_checkCon_A (liveOf cordonref_checkCon_A 8) n8 ⟨[(2, .iptr [.sl .var a0.vars, .sl .con a0.cons, dI a0.goal, dI a0.var] 0), (3, .iptr [dI a1.kind, .sl .int a1.vars, .sl .int a1.consts, dI a1.n, dS a1.rows, .sl .lit a1.lits] 0), (8, dI v10), (9, dI v11)], []⟩ (blockK 8 (blockK 7 (seqK Tryz.prog Ev cordonref_checkCon_A (sub [1, 1, 1, 1, 1, 1, 1, 1, 0, 1, 0, 0, 1, 1] (bodyOf Tryz.f88)) 6 (iterK (den Tryz.prog Ev cordonref_checkCon_A (sub [1, 1, 1, 1, 1, 1, 1, 1, 0, 1, 0, 0] (bodyOf Tryz.f88)) 6) cordonref_checkCon_A (liveOf cordonref_checkCon_A 6) n6 (blockK 6 (seqK Tryz.prog Ev cordonref_checkCon_A (sub [1, 1, 1, 1, 1, 1, 1, 1, 1] (bodyOf Tryz.f88)) 0 (endK Ev Tryz.f88.results.toList R)))))))
def cordonref_checkCon_I10 (a0 : MdlD) (a1 : ConD) (R : D → Prop) (n10 : Nat) (v13 : Int) : Prop := iter (den Tryz.prog Ev cordonref_checkCon_A (sub [1, 1, 1, 1, 1, 1, 1, 1, 1, 0, 1, 0, 0] (bodyOf Tryz.f88)) 10) cordonref_checkCon_A (liveOf cordonref_checkCon_A 10) n10 ⟨[(2, .iptr [.sl .var a0.vars, .sl .con a0.cons, dI a0.goal, dI a0.var] 0), (3, .iptr [dI a1.kind, .sl .int a1.vars, .sl .int a1.consts, dI a1.n, dS a1.rows, .sl .lit a1.lits] 0), (10, dI v13)], []⟩ (blockK 10 (seqK Tryz.prog Ev cordonref_checkCon_A (sub [1, 1, 1, 1, 1, 1, 1, 1, 1, 1] (bodyOf Tryz.f88)) 0 (endK Ev Tryz.f88.results.toList R)))
def cordonref_checkCon_I6 (a0 : MdlD) (a1 : ConD) (R : D → Prop) (n6 : Nat) (v10 : Int) : Prop := iter (den Tryz.prog Ev cordonref_checkCon_A (sub [1, 1, 1, 1, 1, 1, 1, 1, 0, 1, 0, 0] (bodyOf Tryz.f88)) 6) cordonref_checkCon_A (liveOf cordonref_checkCon_A 6) n6 ⟨[(2, .iptr [.sl .var a0.vars, .sl .con a0.cons, dI a0.goal, dI a0.var] 0), (3, .iptr [dI a1.kind, .sl .int a1.vars, .sl .int a1.consts, dI a1.n, dS a1.rows, .sl .lit a1.lits] 0), (8, dI v10)], []⟩ (blockK 6 (seqK Tryz.prog Ev cordonref_checkCon_A (sub [1, 1, 1, 1, 1, 1, 1, 1, 1] (bodyOf Tryz.f88)) 0 (endK Ev Tryz.f88.results.toList R)))
def cordonref_checkCon_I4 (a0 : MdlD) (a1 : ConD) (R : D → Prop) (n4 : Nat) (v7 : Int) : Prop := iter (den Tryz.prog Ev cordonref_checkCon_A (sub [1, 1, 1, 1, 1, 1, 0, 1, 0, 0] (bodyOf Tryz.f88)) 4) cordonref_checkCon_A (liveOf cordonref_checkCon_A 4) n4 ⟨[(2, .iptr [.sl .var a0.vars, .sl .con a0.cons, dI a0.goal, dI a0.var] 0), (3, .iptr [dI a1.kind, .sl .int a1.vars, .sl .int a1.consts, dI a1.n, dS a1.rows, .sl .lit a1.lits] 0), (7, dI v7)], []⟩ (blockK 4 (seqK Tryz.prog Ev cordonref_checkCon_A (sub [1, 1, 1, 1, 1, 1, 1] (bodyOf Tryz.f88)) 0 (endK Ev Tryz.f88.results.toList R)))
def cordonref_checkCon_I2 (a0 : MdlD) (a1 : ConD) (R : D → Prop) (n2 : Nat) (v5 : Int) : Prop := iter (den Tryz.prog Ev cordonref_checkCon_A (sub [1, 1, 1, 1, 1, 0, 1, 0, 0] (bodyOf Tryz.f88)) 2) cordonref_checkCon_A (liveOf cordonref_checkCon_A 2) n2 ⟨[(2, .iptr [.sl .var a0.vars, .sl .con a0.cons, dI a0.goal, dI a0.var] 0), (3, .iptr [dI a1.kind, .sl .int a1.vars, .sl .int a1.consts, dI a1.n, dS a1.rows, .sl .lit a1.lits] 0), (6, dI v5)], []⟩ (blockK 2 (seqK Tryz.prog Ev cordonref_checkCon_A (sub [1, 1, 1, 1, 1, 1] (bodyOf Tryz.f88)) 0 (endK Ev Tryz.f88.results.toList R)))
def cordonref_checkCon_I0 (a0 : MdlD) (a1 : ConD) (R : D → Prop) (n0 : Nat) (v3 : Int) : Prop := iter (den Tryz.prog Ev cordonref_checkCon_A (sub [1, 1, 1, 1, 0, 1, 0, 0] (bodyOf Tryz.f88)) 0) cordonref_checkCon_A (liveOf cordonref_checkCon_A 0) n0 ⟨[(2, .iptr [.sl .var a0.vars, .sl .con a0.cons, dI a0.goal, dI a0.var] 0), (3, .iptr [dI a1.kind, .sl .int a1.vars, .sl .int a1.consts, dI a1.n, dS a1.rows, .sl .lit a1.lits] 0), (5, dI v3)], []⟩ (blockK 0 (seqK Tryz.prog Ev cordonref_checkCon_A (sub [1, 1, 1, 1, 1] (bodyOf Tryz.f88)) 0 (endK Ev Tryz.f88.results.toList R)))
theorem cordonref_checkCon_I8_eq (a0 : MdlD) (a1 : ConD) (R : D → Prop) (n6 : Nat) (v10 : Int) (n8 : Nat) (v11 : Int) : cordonref_checkCon_I8 a0 a1 R n6 v10 (n8 + 1) v11 =
 (inb v10 a1.rows.length = true ∧
 sel (decide (v11 < ((at' (.list .int) a1.rows v10.toNat).length : Int)))
 (inb v10 a1.rows.length = true ∧
 inb v11 (at' (.list .int) a1.rows v10.toNat).length = true ∧
 Call1 Tryz.prog f_cordonref_inConst [dI (at' .int (at' (.list .int) a1.rows v10.toNat) v11.toNat)] .bool fun c12 =>
 sel (!c12)
 (R (dI 3))
 (cordonref_checkCon_I8 a0 a1 R n6 v10 n8 (w64 (v11 + 1))))
 (cordonref_checkCon_I6 a0 a1 R n6 (w64 (v10 + 1)))) := by kernel_rfl
theorem cordonref_checkCon_I10_eq (a0 : MdlD) (a1 : ConD) (R : D → Prop) (n10 : Nat) (v13 : Int) : cordonref_checkCon_I10 a0 a1 R (n10 + 1) v13 =
 (sel (decide (v13 < (a1.lits.length : Int)))
 (inb v13 a1.lits.length = true ∧
 Call1 Tryz.prog f_cordonref_CheckLit [dM a0, dL (at' .lit a1.lits v13.toNat)] .int fun c14 =>
 sel (!decide (c14 = 0))
 (R (dI c14))
 (cordonref_checkCon_I10 a0 a1 R n10 (w64 (v13 + 1))))
 (R (dI 0))) := by kernel_rfl
theorem cordonref_checkCon_I6_eq (a0 : MdlD) (a1 : ConD) (R : D → Prop) (n6 : Nat) (v10 : Int) : cordonref_checkCon_I6 a0 a1 R (n6 + 1) v10 =
 (sel (decide (v10 < (a1.rows.length : Int)))
 (∃ n8, cordonref_checkCon_I8 a0 a1 R n6 v10 n8 0)
 (∃ n10, cordonref_checkCon_I10 a0 a1 R n10 0)) := by kernel_rfl
theorem cordonref_checkCon_I4_eq (a0 : MdlD) (a1 : ConD) (R : D → Prop) (n4 : Nat) (v7 : Int) : cordonref_checkCon_I4 a0 a1 R (n4 + 1) v7 =
 (sel (decide (v7 < (a1.consts.length : Int)))
 (inb v7 a1.consts.length = true ∧
 Call1 Tryz.prog f_cordonref_inConst [dI (at' .int a1.consts v7.toNat)] .bool fun c8 =>
 sel (!c8)
 (R (dI 3))
 (cordonref_checkCon_I4 a0 a1 R n4 (w64 (v7 + 1))))
 (Call1 Tryz.prog f_cordonref_inConst [dI a1.n] .bool fun c9 =>
 sel (!c9)
 (R (dI 3))
 (∃ n6, cordonref_checkCon_I6 a0 a1 R n6 0))) := by kernel_rfl
theorem cordonref_checkCon_I2_eq (a0 : MdlD) (a1 : ConD) (R : D → Prop) (n2 : Nat) (v5 : Int) : cordonref_checkCon_I2 a0 a1 R (n2 + 1) v5 =
 (sel (decide (v5 < (a1.lits.length : Int)))
 (inb v5 a1.lits.length = true ∧
 Call1 Tryz.prog f_cordonref_between [dI ((at' .lit a1.lits v5.toNat).var), dI 0, dI (w64 ((a0.vars.length : Int) - 1))] .bool fun c6 =>
 sel (!c6)
 (R (dI 5))
 (cordonref_checkCon_I2 a0 a1 R n2 (w64 (v5 + 1))))
 (∃ n4, cordonref_checkCon_I4 a0 a1 R n4 0)) := by kernel_rfl
theorem cordonref_checkCon_I0_eq (a0 : MdlD) (a1 : ConD) (R : D → Prop) (n0 : Nat) (v3 : Int) : cordonref_checkCon_I0 a0 a1 R (n0 + 1) v3 =
 (sel (decide (v3 < (a1.vars.length : Int)))
 (inb v3 a1.vars.length = true ∧
 Call1 Tryz.prog f_cordonref_between [dI (at' .int a1.vars v3.toNat), dI 0, dI (w64 ((a0.vars.length : Int) - 1))] .bool fun c4 =>
 sel (!c4)
 (R (dI 5))
 (cordonref_checkCon_I0 a0 a1 R n0 (w64 (v3 + 1))))
 (∃ n2, cordonref_checkCon_I2 a0 a1 R n2 0)) := by kernel_rfl
theorem cordonref_checkCon_eq (a0 : MdlD) (a1 : ConD) (R : D → Prop) : fnD Tryz.prog Ev cordonref_checkCon_A Tryz.f88.results.toList (bodyOf Tryz.f88) [dM a0, dC a1] R =
 (Call1 Tryz.prog f_cordonref_between [dI a1.kind, dI 1, dI 10] .bool fun c1 =>
 sel (!c1)
 (R (dI 7))
 (sel (decide (4 < (a1.vars.length : Int)))
 (R (dI 2))
 (sel (decide (4 < (a1.lits.length : Int)))
 (R (dI 2))
 (sel (decide (8 < (a1.consts.length : Int)))
 (R (dI 2))
 (sel (decide (20 < (a1.rows.length : Int)))
 (R (dI 2))
 (Call1 Tryz.prog f_cordonref_rightForm [dC a1] .bool fun c2 =>
 sel (!c2)
 (R (dI 1))
 (∃ n0, cordonref_checkCon_I0 a0 a1 R n0 0))))))) := by kernel_rfl
theorem cordonref_checkCon_sat {r : D} (a0 : MdlD) (a1 : ConD) (h : (∀ d ∈ [dM a0, dC a1], okD d) → fnD Tryz.prog Ev cordonref_checkCon_A Tryz.f88.results.toList (bodyOf Tryz.f88) [dM a0, dC a1] fun d => d = r) : Sat Tryz.prog f_cordonref_checkCon [dM a0, dC a1] r := by
  have h2 := sat_of (r := r) (args := [dM a0, dC a1]) (A := cordonref_checkCon_A) (fn := Tryz.f88) (body := bodyOf Tryz.f88) (f := f_cordonref_checkCon) factsEv Tryz.func88 (by kernel_rfl) (by rw [Tryz.ntmps88]; rfl) (by rw [Tryz.ntmps88]; exact Nat.le_of_ble_eq_true rfl)
  with_reducible exact h2 h
/-! ### cordon/cordonref.CheckLit -/
def cordonref_CheckLit_A : Ann := { own := [], live := [], n := 21, nils := [], pubs := [] }
theorem cordonref_CheckLit_eq (a0 : MdlD) (a1 : LitD) (R : D → Prop) : fnD Tryz.prog Ev cordonref_CheckLit_A Tryz.f89.results.toList (bodyOf Tryz.f89) [dM a0, dL a1] R =
 (Call1 Tryz.prog f_cordonref_between [dI a1.var, dI 0, dI (w64 ((a0.vars.length : Int) - 1))] .bool fun c1 =>
 sel (!c1)
 (R (dI 5))
 (Call1 Tryz.prog f_cordonref_between [dI a1.op, dI 1, dI 4] .bool fun c2 =>
 sel (!c2)
 (R (dI 7))
 (Call1 Tryz.prog f_cordonref_inConst [dI a1.n] .bool fun c3 =>
 sel (!c3)
 (R (dI 3))
 (R (dI 0))))) := by kernel_rfl
theorem cordonref_CheckLit_sat {r : D} (a0 : MdlD) (a1 : LitD) (h : (∀ d ∈ [dM a0, dL a1], okD d) → fnD Tryz.prog Ev cordonref_CheckLit_A Tryz.f89.results.toList (bodyOf Tryz.f89) [dM a0, dL a1] fun d => d = r) : Sat Tryz.prog f_cordonref_CheckLit [dM a0, dL a1] r := by
  have h2 := sat_of (r := r) (args := [dM a0, dL a1]) (A := cordonref_CheckLit_A) (fn := Tryz.f89) (body := bodyOf Tryz.f89) (f := f_cordonref_CheckLit) factsEv Tryz.func89 (by kernel_rfl) (by rw [Tryz.ntmps89]; rfl) (by rw [Tryz.ntmps89]; exact Nat.le_of_ble_eq_true rfl)
  with_reducible exact h2 h
/-! ### cordon/cordonref.DenyOf -/
def cordonref_DenyOf_A : Ann := { own := [7, 9, 64, 68], live := [(0, ([1, 5, 6], [])), (2, ([1, 5, 6, 7, 8], [7])), (4, ([1, 5, 6, 7, 8, 9, 10], [7, 9]))], n := 71, nils := [], pubs := [] }
def cordonref_DenyOf_I4 (a1 : List LitD) (R : D → Prop) (n0 : Nat) (v1 : List (List Int)) (v2 : Int) (n2 : Nat) (v3 : Int) (n4 : Nat) (v5 : Int) (l6 : List (List Int)) (l7 : List Int) : Prop := iter (den Tryz.prog Ev cordonref_DenyOf_A (sub [1, 1, 0, 1, 0, 0, 1, 0, 0, 1, 0, 1, 0, 0, 1, 0, 0, 1, 0, 1, 0, 0] (bodyOf Tryz.f90)) 4) cordonref_DenyOf_A (liveOf cordonref_DenyOf_A 4) n4 ⟨[(1, .sl .lit a1), (5, dS v1), (6, dI v2), (7, .own 7), (8, dI v3), (9, .own 9), (10, dI v5)], [(7, .row 42 (.list .int) l6), (9, .row 3 .int l7)]⟩ (blockK 4 (seqK Tryz.prog Ev cordonref_DenyOf_A (sub [1, 1, 0, 1, 0, 0, 1, 0, 0, 1, 0, 1, 0, 0, 1, 0, 0, 1, 1] (bodyOf Tryz.f90)) 3 (blockK 3 (seqK Tryz.prog Ev cordonref_DenyOf_A (sub [1, 1, 0, 1, 0, 0, 1, 0, 0, 1, 0, 1, 0, 0, 1, 1] (bodyOf Tryz.f90)) 2 (iterK (den Tryz.prog Ev cordonref_DenyOf_A (sub [1, 1, 0, 1, 0, 0, 1, 0, 0, 1, 0, 1, 0, 0] (bodyOf Tryz.f90)) 2) cordonref_DenyOf_A (liveOf cordonref_DenyOf_A 2) n2 (blockK 2 (seqK Tryz.prog Ev cordonref_DenyOf_A (sub [1, 1, 0, 1, 0, 0, 1, 0, 0, 1, 1] (bodyOf Tryz.f90)) 1 (blockK 1 (seqK Tryz.prog Ev cordonref_DenyOf_A (sub [1, 1, 0, 1, 0, 0, 1, 1] (bodyOf Tryz.f90)) 0 (iterK (den Tryz.prog Ev cordonref_DenyOf_A (sub [1, 1, 0, 1, 0, 0] (bodyOf Tryz.f90)) 0) cordonref_DenyOf_A (liveOf cordonref_DenyOf_A 0) n0 (blockK 0 (seqK Tryz.prog Ev cordonref_DenyOf_A (sub [1, 1, 1] (bodyOf Tryz.f90)) 0 (endK Ev Tryz.f90.results.toList R)))))))))))))
def cordonref_DenyOf_I2 (a1 : List LitD) (R : D → Prop) (n0 : Nat) (v1 : List (List Int)) (v2 : Int) (n2 : Nat) (v3 : Int) (l4 : List (List Int)) : Prop := iter (den Tryz.prog Ev cordonref_DenyOf_A (sub [1, 1, 0, 1, 0, 0, 1, 0, 0, 1, 0, 1, 0, 0] (bodyOf Tryz.f90)) 2) cordonref_DenyOf_A (liveOf cordonref_DenyOf_A 2) n2 ⟨[(1, .sl .lit a1), (5, dS v1), (6, dI v2), (7, .own 7), (8, dI v3)], [(7, .row 42 (.list .int) l4)]⟩ (blockK 2 (seqK Tryz.prog Ev cordonref_DenyOf_A (sub [1, 1, 0, 1, 0, 0, 1, 0, 0, 1, 1] (bodyOf Tryz.f90)) 1 (blockK 1 (seqK Tryz.prog Ev cordonref_DenyOf_A (sub [1, 1, 0, 1, 0, 0, 1, 1] (bodyOf Tryz.f90)) 0 (iterK (den Tryz.prog Ev cordonref_DenyOf_A (sub [1, 1, 0, 1, 0, 0] (bodyOf Tryz.f90)) 0) cordonref_DenyOf_A (liveOf cordonref_DenyOf_A 0) n0 (blockK 0 (seqK Tryz.prog Ev cordonref_DenyOf_A (sub [1, 1, 1] (bodyOf Tryz.f90)) 0 (endK Ev Tryz.f90.results.toList R))))))))
def cordonref_DenyOf_I0 (a1 : List LitD) (R : D → Prop) (n0 : Nat) (v1 : List (List Int)) (v2 : Int) : Prop := iter (den Tryz.prog Ev cordonref_DenyOf_A (sub [1, 1, 0, 1, 0, 0] (bodyOf Tryz.f90)) 0) cordonref_DenyOf_A (liveOf cordonref_DenyOf_A 0) n0 ⟨[(1, .sl .lit a1), (5, dS v1), (6, dI v2)], []⟩ (blockK 0 (seqK Tryz.prog Ev cordonref_DenyOf_A (sub [1, 1, 1] (bodyOf Tryz.f90)) 0 (endK Ev Tryz.f90.results.toList R)))
theorem cordonref_DenyOf_I4_eq (a1 : List LitD) (R : D → Prop) (n0 : Nat) (v1 : List (List Int)) (v2 : Int) (n2 : Nat) (v3 : Int) (n4 : Nat) (v5 : Int) (l6 : List (List Int)) (l7 : List Int) : cordonref_DenyOf_I4 a1 R n0 v1 v2 n2 v3 (n4 + 1) v5 l6 l7 =
 (inb v3 v1.length = true ∧
 sel (decide (v5 < ((at' (.list .int) v1 v3.toNat).length : Int)))
 (inb v2 a1.length = true ∧
 sel (!decide (v3 = ((at' .lit a1 v2.toNat).var)))
 (inb v3 v1.length = true ∧
 inb v5 (at' (.list .int) v1 v3.toNat).length = true ∧
 room .int (l7.length + ([at' .int (at' (.list .int) v1 v3.toNat) v5.toNat]).length) = true ∧
 cordonref_DenyOf_I4 a1 R n0 v1 v2 n2 v3 n4 (w64 (v5 + 1)) l6 (l7 ++ ([at' .int (at' (.list .int) v1 v3.toNat) v5.toNat])))
 (inb v2 a1.length = true ∧
 inb v3 v1.length = true ∧
 inb v5 (at' (.list .int) v1 v3.toNat).length = true ∧
 Call1 Tryz.prog f_cordonref_LitHolds [dL (at' .lit a1 v2.toNat), dI (at' .int (at' (.list .int) v1 v3.toNat) v5.toNat)] .bool fun c8 =>
 sel (!c8)
 (inb v3 v1.length = true ∧
 inb v5 (at' (.list .int) v1 v3.toNat).length = true ∧
 room .int (l7.length + ([at' .int (at' (.list .int) v1 v3.toNat) v5.toNat]).length) = true ∧
 cordonref_DenyOf_I4 a1 R n0 v1 v2 n2 v3 n4 (w64 (v5 + 1)) l6 (l7 ++ ([at' .int (at' (.list .int) v1 v3.toNat) v5.toNat])))
 (cordonref_DenyOf_I4 a1 R n0 v1 v2 n2 v3 n4 (w64 (v5 + 1)) l6 l7)))
 (room (.list .int) (l6.length + ([l7]).length) = true ∧
 cordonref_DenyOf_I2 a1 R n0 v1 v2 n2 (w64 (v3 + 1)) (l6 ++ ([l7])))) := by kernel_rfl
theorem cordonref_DenyOf_I2_eq (a1 : List LitD) (R : D → Prop) (n0 : Nat) (v1 : List (List Int)) (v2 : Int) (n2 : Nat) (v3 : Int) (l4 : List (List Int)) : cordonref_DenyOf_I2 a1 R n0 v1 v2 (n2 + 1) v3 l4 =
 (sel (decide (v3 < (v1.length : Int)))
 (∃ n4, cordonref_DenyOf_I4 a1 R n0 v1 v2 n2 v3 n4 0 l4 ([] : List Int))
 (cordonref_DenyOf_I0 a1 R n0 l4 (w64 (v2 + 1)))) := by kernel_rfl
theorem cordonref_DenyOf_I0_eq (a1 : List LitD) (R : D → Prop) (n0 : Nat) (v1 : List (List Int)) (v2 : Int) : cordonref_DenyOf_I0 a1 R (n0 + 1) v1 v2 =
 (sel (decide (v2 < (a1.length : Int)))
 (∃ n2, cordonref_DenyOf_I2 a1 R n0 v1 v2 n2 0 ([] : List (List Int)))
 (R (dS v1))) := by kernel_rfl
theorem cordonref_DenyOf_eq (a0 : List (List Int)) (a1 : List LitD) (R : D → Prop) : fnD Tryz.prog Ev cordonref_DenyOf_A Tryz.f90.results.toList (bodyOf Tryz.f90) [dS a0, .sl .lit a1] R =
 (∃ n0, cordonref_DenyOf_I0 a1 R n0 a0 0) := by kernel_rfl
theorem cordonref_DenyOf_sat {r : D} (a0 : List (List Int)) (a1 : List LitD) (h : (∀ d ∈ [dS a0, .sl .lit a1], okD d) → fnD Tryz.prog Ev cordonref_DenyOf_A Tryz.f90.results.toList (bodyOf Tryz.f90) [dS a0, .sl .lit a1] fun d => d = r) : Sat Tryz.prog f_cordonref_DenyOf [dS a0, .sl .lit a1] r := by
  have h2 := sat_of (r := r) (args := [dS a0, .sl .lit a1]) (A := cordonref_DenyOf_A) (fn := Tryz.f90) (body := bodyOf Tryz.f90) (f := f_cordonref_DenyOf) factsEv Tryz.func90 (by kernel_rfl) (by rw [Tryz.ntmps90]; rfl) (by rw [Tryz.ntmps90]; exact Nat.le_of_ble_eq_true rfl)
  with_reducible exact h2 h
/-! ### cordon/cordonref.LitHolds -/
def cordonref_LitHolds_A : Ann := { own := [], live := [], n := 47, nils := [], pubs := [] }
theorem cordonref_LitHolds_eq (a0 : LitD) (a1 : Int) (R : D → Prop) : fnD Tryz.prog Ev cordonref_LitHolds_A Tryz.f119.results.toList (bodyOf Tryz.f119) [dL a0, dI a1] R =
 (sel (decide (a0.op = 1))
 (sel (decide (a1 ≤ a0.n))
 (R (dB true))
 (sel (decide (a0.op = 2))
 (sel (decide (a0.n ≤ a1))
 (R (dB true))
 (sel (decide (a0.op = 3))
 (sel (decide (a1 = a0.n))
 (R (dB true))
 (sel (decide (a0.op = 4))
 (R (dB (!decide (a1 = a0.n))))
 (R (dB false))))
 (sel (decide (a0.op = 4))
 (R (dB (!decide (a1 = a0.n))))
 (R (dB false)))))
 (sel (decide (a0.op = 3))
 (sel (decide (a1 = a0.n))
 (R (dB true))
 (sel (decide (a0.op = 4))
 (R (dB (!decide (a1 = a0.n))))
 (R (dB false))))
 (sel (decide (a0.op = 4))
 (R (dB (!decide (a1 = a0.n))))
 (R (dB false))))))
 (sel (decide (a0.op = 2))
 (sel (decide (a0.n ≤ a1))
 (R (dB true))
 (sel (decide (a0.op = 3))
 (sel (decide (a1 = a0.n))
 (R (dB true))
 (sel (decide (a0.op = 4))
 (R (dB (!decide (a1 = a0.n))))
 (R (dB false))))
 (sel (decide (a0.op = 4))
 (R (dB (!decide (a1 = a0.n))))
 (R (dB false)))))
 (sel (decide (a0.op = 3))
 (sel (decide (a1 = a0.n))
 (R (dB true))
 (sel (decide (a0.op = 4))
 (R (dB (!decide (a1 = a0.n))))
 (R (dB false))))
 (sel (decide (a0.op = 4))
 (R (dB (!decide (a1 = a0.n))))
 (R (dB false)))))) := by kernel_rfl
theorem cordonref_LitHolds_sat {r : D} (a0 : LitD) (a1 : Int) (h : (∀ d ∈ [dL a0, dI a1], okD d) → fnD Tryz.prog Ev cordonref_LitHolds_A Tryz.f119.results.toList (bodyOf Tryz.f119) [dL a0, dI a1] fun d => d = r) : Sat Tryz.prog f_cordonref_LitHolds [dL a0, dI a1] r := by
  have h2 := sat_of (r := r) (args := [dL a0, dI a1]) (A := cordonref_LitHolds_A) (fn := Tryz.f119) (body := bodyOf Tryz.f119) (f := f_cordonref_LitHolds) factsEv Tryz.func119 (by kernel_rfl) (by rw [Tryz.ntmps119]; rfl) (by rw [Tryz.ntmps119]; exact Nat.le_of_ble_eq_true rfl)
  with_reducible exact h2 h
/-! ### cordon/cordonref.ToldOf -/
def cordonref_ToldOf_A : Ann := { own := [], live := [(0, ([0, 3, 5, 6, 7], []))], n := 35, nils := [], pubs := [] }
def cordonref_ToldOf_I0 (a0 : List (List Int)) (a1 : LitD) (R : D → Prop) (n0 : Nat) (yes1 : Bool) (no2 : Bool) (k3 : Int) : Prop := iter (den Tryz.prog Ev cordonref_ToldOf_A (sub [1, 1, 0, 1, 0, 0] (bodyOf Tryz.f135)) 0) cordonref_ToldOf_A (liveOf cordonref_ToldOf_A 0) n0 ⟨[(0, dS a0), (3, .iptr [dI a1.var, dI a1.op, dI a1.n] 0), (5, dB yes1), (6, dB no2), (7, dI k3)], []⟩ (blockK 0 (seqK Tryz.prog Ev cordonref_ToldOf_A (sub [1, 1, 1] (bodyOf Tryz.f135)) 0 (endK Ev Tryz.f135.results.toList R)))
theorem cordonref_ToldOf_I0_eq (a0 : List (List Int)) (a1 : LitD) (R : D → Prop) (n0 : Nat) (yes1 : Bool) (no2 : Bool) (k3 : Int) : cordonref_ToldOf_I0 a0 a1 R (n0 + 1) yes1 no2 k3 =
 (inb a1.var a0.length = true ∧
 sel (decide (k3 < ((at' (.list .int) a0 a1.var.toNat).length : Int)))
 (inb a1.var a0.length = true ∧
 inb k3 (at' (.list .int) a0 a1.var.toNat).length = true ∧
 Call1 Tryz.prog f_cordonref_LitHolds [dL a1, dI (at' .int (at' (.list .int) a0 a1.var.toNat) k3.toNat)] .bool fun c4 =>
 sel c4
 (cordonref_ToldOf_I0 a0 a1 R n0 true no2 (w64 (k3 + 1)))
 (cordonref_ToldOf_I0 a0 a1 R n0 yes1 true (w64 (k3 + 1))))
 (sel yes1
 (sel (!no2)
 (R (dI 1))
 (sel (!yes1)
 (R (dI (-1)))
 (R (dI 0))))
 (sel (!yes1)
 (R (dI (-1)))
 (R (dI 0))))) := by kernel_rfl
theorem cordonref_ToldOf_eq (a0 : List (List Int)) (a1 : LitD) (R : D → Prop) : fnD Tryz.prog Ev cordonref_ToldOf_A Tryz.f135.results.toList (bodyOf Tryz.f135) [dS a0, dL a1] R =
 (∃ n0, cordonref_ToldOf_I0 a0 a1 R n0 false false 0) := by kernel_rfl
theorem cordonref_ToldOf_sat {r : D} (a0 : List (List Int)) (a1 : LitD) (h : (∀ d ∈ [dS a0, dL a1], okD d) → fnD Tryz.prog Ev cordonref_ToldOf_A Tryz.f135.results.toList (bodyOf Tryz.f135) [dS a0, dL a1] fun d => d = r) : Sat Tryz.prog f_cordonref_ToldOf [dS a0, dL a1] r := by
  have h2 := sat_of (r := r) (args := [dS a0, dL a1]) (A := cordonref_ToldOf_A) (fn := Tryz.f135) (body := bodyOf Tryz.f135) (f := f_cordonref_ToldOf) factsEv Tryz.func135 (by kernel_rfl) (by rw [Tryz.ntmps135]; rfl) (by rw [Tryz.ntmps135]; exact Nat.le_of_ble_eq_true rfl)
  with_reducible exact h2 h
/-! ### cordon/cordonref.rightForm -/
def cordonref_rightForm_A : Ann := { own := [], live := [(1, ([1, 3, 4, 5, 6, 7], []))], n := 164, nils := [], pubs := [] }
def cordonref_rightForm_I1 (a0 : ConD) (R : D → Prop) (n1 : Nat) (v1 : Int) : Prop := iter (den Tryz.prog Ev cordonref_rightForm_A (sub [1, 1, 1, 0, 1, 0, 1, 1, 1, 1, 1, 1, 1, 0, 0, 1, 0, 0] (bodyOf Tryz.f139)) 1) cordonref_rightForm_A (liveOf cordonref_rightForm_A 1) n1 ⟨[(1, .iptr [dI a0.kind, .sl .int a0.vars, .sl .int a0.consts, dI a0.n, dS a0.rows, .sl .lit a0.lits] 0), (3, dI (a0.vars.length : Int)), (4, dI (a0.consts.length : Int)), (5, dI (a0.rows.length : Int)), (6, dI (a0.lits.length : Int)), (7, dI v1)], []⟩ (blockK 1 (seqK Tryz.prog Ev cordonref_rightForm_A (sub [1, 1, 1, 0, 1, 0, 1, 1, 1, 1, 1, 1, 1, 0, 1] (bodyOf Tryz.f139)) 0 (blockK 0 (seqK Tryz.prog Ev cordonref_rightForm_A (sub [1, 1, 1, 1] (bodyOf Tryz.f139)) 0 (endK Ev Tryz.f139.results.toList R)))))
def cordonref_rightForm_I1_2 (a0 : ConD) (R : D → Prop) (n1_2 : Nat) (v2 : Int) : Prop := iter (den Tryz.prog Ev cordonref_rightForm_A (sub [1, 1, 1, 0, 1, 0, 1, 1, 1, 1, 1, 1, 1, 0, 0, 1, 0, 0] (bodyOf Tryz.f139)) 1) cordonref_rightForm_A (liveOf cordonref_rightForm_A 1) n1_2 ⟨[(1, .iptr [dI a0.kind, .sl .int a0.vars, .sl .int a0.consts, dI a0.n, dS a0.rows, .sl .lit a0.lits] 0), (3, dI (a0.vars.length : Int)), (4, dI (a0.consts.length : Int)), (5, dI (a0.rows.length : Int)), (6, dI (a0.lits.length : Int)), (7, dI v2)], []⟩ (blockK 1 (seqK Tryz.prog Ev cordonref_rightForm_A (sub [1, 1, 1, 0, 1, 0, 1, 1, 1, 1, 1, 1, 1, 0, 1] (bodyOf Tryz.f139)) 0 (blockK 0 (seqK Tryz.prog Ev cordonref_rightForm_A (sub [1, 1, 1, 1] (bodyOf Tryz.f139)) 0 (endK Ev Tryz.f139.results.toList R)))))
theorem cordonref_rightForm_I1_eq (a0 : ConD) (R : D → Prop) (n1 : Nat) (v1 : Int) : cordonref_rightForm_I1 a0 R (n1 + 1) v1 =
 (sel (decide (v1 < (a0.rows.length : Int)))
 (inb v1 a0.rows.length = true ∧
 sel (!decide (((at' (.list .int) a0.rows v1.toNat).length : Int) = (a0.vars.length : Int)))
 (R (dB false))
 (cordonref_rightForm_I1 a0 R n1 (w64 (v1 + 1))))
 (sel (decide (1 ≤ (a0.vars.length : Int)))
 (sel (decide ((a0.consts.length : Int) = 0))
 (R (dB (decide ((a0.lits.length : Int) = 0))))
 (R (dB false)))
 (R (dB false)))) := by kernel_rfl
theorem cordonref_rightForm_eq (a0 : ConD) (R : D → Prop) : fnD Tryz.prog Ev cordonref_rightForm_A Tryz.f139.results.toList (bodyOf Tryz.f139) [dC a0] R =
 (sel (decide (3 < a0.kind))
 (sel (!decide (a0.n = 0))
 (R (dB false))
 (sel (decide (a0.kind = 1))
 (sel (decide (1 ≤ (a0.vars.length : Int)))
 (sel (decide ((a0.consts.length : Int) = (a0.vars.length : Int)))
 (sel (decide ((a0.rows.length : Int) = 0))
 (R (dB (decide ((a0.lits.length : Int) = 0))))
 (R (dB false)))
 (R (dB false)))
 (R (dB false)))
 (sel (decide (a0.kind = 2))
 (sel (decide (1 ≤ (a0.vars.length : Int)))
 (sel (decide ((a0.consts.length : Int) = (a0.vars.length : Int)))
 (sel (decide ((a0.rows.length : Int) = 0))
 (R (dB (decide ((a0.lits.length : Int) = 0))))
 (R (dB false)))
 (R (dB false)))
 (R (dB false)))
 (sel (decide (a0.kind = 3))
 (sel (decide (1 ≤ (a0.vars.length : Int)))
 (sel (decide ((a0.consts.length : Int) = (a0.vars.length : Int)))
 (sel (decide ((a0.rows.length : Int) = 0))
 (R (dB (decide ((a0.lits.length : Int) = 0))))
 (R (dB false)))
 (R (dB false)))
 (R (dB false)))
 (sel (decide (a0.kind = 4))
 (sel (decide (1 ≤ (a0.vars.length : Int)))
 (sel (decide ((a0.consts.length : Int) = 0))
 (sel (decide ((a0.rows.length : Int) = 0))
 (R (dB (decide ((a0.lits.length : Int) = 0))))
 (R (dB false)))
 (R (dB false)))
 (R (dB false)))
 (sel (decide (a0.kind = 5))
 (sel (decide ((a0.vars.length : Int) = 2))
 (sel (decide (1 ≤ (a0.consts.length : Int)))
 (sel (decide ((a0.rows.length : Int) = 0))
 (R (dB (decide ((a0.lits.length : Int) = 0))))
 (R (dB false)))
 (R (dB false)))
 (R (dB false)))
 (sel (decide (a0.kind = 6))
 (∃ n1, cordonref_rightForm_I1 a0 R n1 0)
 (sel (decide (a0.kind = 7))
 (sel (decide ((a0.vars.length : Int) = 3))
 (sel (decide ((a0.consts.length : Int) = 0))
 (sel (decide ((a0.rows.length : Int) = 0))
 (R (dB (decide ((a0.lits.length : Int) = 0))))
 (R (dB false)))
 (R (dB false)))
 (R (dB false)))
 (sel (decide (a0.kind = 8))
 (sel (decide (2 ≤ (a0.vars.length : Int)))
 (sel (decide ((a0.consts.length : Int) = 0))
 (sel (decide ((a0.rows.length : Int) = 0))
 (R (dB (decide ((a0.lits.length : Int) = 0))))
 (R (dB false)))
 (R (dB false)))
 (R (dB false)))
 (sel (decide (a0.kind = 9))
 (sel (decide ((a0.vars.length : Int) = 0))
 (sel (decide ((a0.consts.length : Int) = 0))
 (R (dB (decide ((a0.rows.length : Int) = 0))))
 (R (dB false)))
 (R (dB false)))
 (sel (decide ((a0.vars.length : Int) = 1))
 (sel (decide ((a0.consts.length : Int) = 0))
 (sel (decide ((a0.rows.length : Int) = 0))
 (R (dB (decide ((a0.lits.length : Int) = 1))))
 (R (dB false)))
 (R (dB false)))
 (R (dB false)))))))))))))
 (sel (decide (a0.kind = 1))
 (sel (decide (1 ≤ (a0.vars.length : Int)))
 (sel (decide ((a0.consts.length : Int) = (a0.vars.length : Int)))
 (sel (decide ((a0.rows.length : Int) = 0))
 (R (dB (decide ((a0.lits.length : Int) = 0))))
 (R (dB false)))
 (R (dB false)))
 (R (dB false)))
 (sel (decide (a0.kind = 2))
 (sel (decide (1 ≤ (a0.vars.length : Int)))
 (sel (decide ((a0.consts.length : Int) = (a0.vars.length : Int)))
 (sel (decide ((a0.rows.length : Int) = 0))
 (R (dB (decide ((a0.lits.length : Int) = 0))))
 (R (dB false)))
 (R (dB false)))
 (R (dB false)))
 (sel (decide (a0.kind = 3))
 (sel (decide (1 ≤ (a0.vars.length : Int)))
 (sel (decide ((a0.consts.length : Int) = (a0.vars.length : Int)))
 (sel (decide ((a0.rows.length : Int) = 0))
 (R (dB (decide ((a0.lits.length : Int) = 0))))
 (R (dB false)))
 (R (dB false)))
 (R (dB false)))
 (sel (decide (a0.kind = 4))
 (sel (decide (1 ≤ (a0.vars.length : Int)))
 (sel (decide ((a0.consts.length : Int) = 0))
 (sel (decide ((a0.rows.length : Int) = 0))
 (R (dB (decide ((a0.lits.length : Int) = 0))))
 (R (dB false)))
 (R (dB false)))
 (R (dB false)))
 (sel (decide (a0.kind = 5))
 (sel (decide ((a0.vars.length : Int) = 2))
 (sel (decide (1 ≤ (a0.consts.length : Int)))
 (sel (decide ((a0.rows.length : Int) = 0))
 (R (dB (decide ((a0.lits.length : Int) = 0))))
 (R (dB false)))
 (R (dB false)))
 (R (dB false)))
 (sel (decide (a0.kind = 6))
 (∃ n1_2, cordonref_rightForm_I1_2 a0 R n1_2 0)
 (sel (decide (a0.kind = 7))
 (sel (decide ((a0.vars.length : Int) = 3))
 (sel (decide ((a0.consts.length : Int) = 0))
 (sel (decide ((a0.rows.length : Int) = 0))
 (R (dB (decide ((a0.lits.length : Int) = 0))))
 (R (dB false)))
 (R (dB false)))
 (R (dB false)))
 (sel (decide (a0.kind = 8))
 (sel (decide (2 ≤ (a0.vars.length : Int)))
 (sel (decide ((a0.consts.length : Int) = 0))
 (sel (decide ((a0.rows.length : Int) = 0))
 (R (dB (decide ((a0.lits.length : Int) = 0))))
 (R (dB false)))
 (R (dB false)))
 (R (dB false)))
 (sel (decide (a0.kind = 9))
 (sel (decide ((a0.vars.length : Int) = 0))
 (sel (decide ((a0.consts.length : Int) = 0))
 (R (dB (decide ((a0.rows.length : Int) = 0))))
 (R (dB false)))
 (R (dB false)))
 (sel (decide ((a0.vars.length : Int) = 1))
 (sel (decide ((a0.consts.length : Int) = 0))
 (sel (decide ((a0.rows.length : Int) = 0))
 (R (dB (decide ((a0.lits.length : Int) = 1))))
 (R (dB false)))
 (R (dB false)))
 (R (dB false))))))))))))) := by kernel_rfl
theorem cordonref_rightForm_sat {r : D} (a0 : ConD) (h : (∀ d ∈ [dC a0], okD d) → fnD Tryz.prog Ev cordonref_rightForm_A Tryz.f139.results.toList (bodyOf Tryz.f139) [dC a0] fun d => d = r) : Sat Tryz.prog f_cordonref_rightForm [dC a0] r := by
  have h2 := sat_of (r := r) (args := [dC a0]) (A := cordonref_rightForm_A) (fn := Tryz.f139) (body := bodyOf Tryz.f139) (f := f_cordonref_rightForm) factsEv Tryz.func139 (by kernel_rfl) (by rw [Tryz.ntmps139]; rfl) (by rw [Tryz.ntmps139]; exact Nat.le_of_ble_eq_true rfl)
  with_reducible exact h2 h
/-! ### cordon/cordonref.inConst -/
def cordonref_inConst_A : Ann := { own := [], live := [], n := 5, nils := [], pubs := [] }
theorem cordonref_inConst_eq (a0 : Int) (R : D → Prop) : fnD Tryz.prog Ev cordonref_inConst_A Tryz.f140.results.toList (bodyOf Tryz.f140) [dI a0] R =
 (Call1 Tryz.prog f_cordonref_between [dI a0, dI (-1000), dI 1000] .bool fun c1 =>
 R (dB c1)) := by kernel_rfl
theorem cordonref_inConst_sat {r : D} (a0 : Int) (h : (∀ d ∈ [dI a0], okD d) → fnD Tryz.prog Ev cordonref_inConst_A Tryz.f140.results.toList (bodyOf Tryz.f140) [dI a0] fun d => d = r) : Sat Tryz.prog f_cordonref_inConst [dI a0] r := by
  have h2 := sat_of (r := r) (args := [dI a0]) (A := cordonref_inConst_A) (fn := Tryz.f140) (body := bodyOf Tryz.f140) (f := f_cordonref_inConst) factsEv Tryz.func140 (by kernel_rfl) (by rw [Tryz.ntmps140]; rfl) (by rw [Tryz.ntmps140]; exact Nat.le_of_ble_eq_true rfl)
  with_reducible exact h2 h
end Go.Proofs.YtgnjdgafkjohaaaGreat
