/- What the functions of a package do, as equations of plain propositions: printed by a program that carries the code out on symbols. -/
import Derived.Test.YtgnjdgafkjohaaaGreatWEv
namespace Go.Proofs.YtgnjdgafkjohaaaGreat
open Go.RowKit
set_option linter.unusedVariables false
set_option maxRecDepth 100000
/-! ### cordon/cordonref.SameStore -/
def cordonref_SameStore_A : Ann := { own := [], live := [(0, ([0, 1, 5], []))], n := 27, nils := [], pubs := [] }
def cordonref_SameStore_I0 (a0 : List (List Int)) (a1 : List (List Int)) (R : D → Prop) (n0 : Nat) (i1 : Int) : Prop := iter (den Tryz.prog Ev cordonref_SameStore_A (sub [1, 1, 0, 1, 0, 0] (bodyOf Tryz.f21)) 0) cordonref_SameStore_A (liveOf cordonref_SameStore_A 0) n0 ⟨[(0, dS a0), (1, dS a1), (5, dI i1)], []⟩ (blockK 0 (seqK Tryz.prog Ev cordonref_SameStore_A (sub [1, 1, 1] (bodyOf Tryz.f21)) 0 (endK Ev Tryz.f21.results.toList R)))
theorem cordonref_SameStore_I0_eq (a0 : List (List Int)) (a1 : List (List Int)) (R : D → Prop) (n0 : Nat) (i1 : Int) : cordonref_SameStore_I0 a0 a1 R (n0 + 1) i1 =
 (sel (decide (i1 < (a0.length : Int)))
 (inb i1 a0.length = true ∧
 inb i1 a1.length = true ∧
 Call1 Tryz.prog f_cordonref_SameInts [.sl .int (at' (.list .int) a0 i1.toNat), .sl .int (at' (.list .int) a1 i1.toNat)] .bool fun c2 =>
 sel (!c2)
 (R (dB false))
 (cordonref_SameStore_I0 a0 a1 R n0 (w64 (i1 + 1))))
 (R (dB true))) := by kernel_rfl
theorem cordonref_SameStore_eq (a0 : List (List Int)) (a1 : List (List Int)) (R : D → Prop) : fnD Tryz.prog Ev cordonref_SameStore_A Tryz.f21.results.toList (bodyOf Tryz.f21) [dS a0, dS a1] R =
 (sel (!decide ((a0.length : Int) = (a1.length : Int)))
 (R (dB false))
 (∃ n0, cordonref_SameStore_I0 a0 a1 R n0 0)) := by kernel_rfl
theorem cordonref_SameStore_sat {r : D} (a0 : List (List Int)) (a1 : List (List Int)) (h : (∀ d ∈ [dS a0, dS a1], okD d) → fnD Tryz.prog Ev cordonref_SameStore_A Tryz.f21.results.toList (bodyOf Tryz.f21) [dS a0, dS a1] fun d => d = r) : Sat Tryz.prog f_cordonref_SameStore [dS a0, dS a1] r := by
  have h2 := sat_of (r := r) (args := [dS a0, dS a1]) (A := cordonref_SameStore_A) (fn := Tryz.f21) (body := bodyOf Tryz.f21) (f := f_cordonref_SameStore) factsEv Tryz.func21 (by kernel_rfl) (by rw [Tryz.ntmps21]; rfl) (by rw [Tryz.ntmps21]; exact Nat.le_of_ble_eq_true rfl)
  with_reducible exact h2 h
/-! ### cordon/cordonref.HasFailed -/
def cordonref_HasFailed_A : Ann := { own := [], live := [(0, ([0, 3], []))], n := 16, nils := [], pubs := [] }
def cordonref_HasFailed_I0 (a0 : List (List Int)) (R : D → Prop) (n0 : Nat) (i1 : Int) : Prop := iter (den Tryz.prog Ev cordonref_HasFailed_A (sub [1, 0, 1, 0, 0] (bodyOf Tryz.f23)) 0) cordonref_HasFailed_A (liveOf cordonref_HasFailed_A 0) n0 ⟨[(0, dS a0), (3, dI i1)], []⟩ (blockK 0 (seqK Tryz.prog Ev cordonref_HasFailed_A (sub [1, 1] (bodyOf Tryz.f23)) 0 (endK Ev Tryz.f23.results.toList R)))
theorem cordonref_HasFailed_I0_eq (a0 : List (List Int)) (R : D → Prop) (n0 : Nat) (i1 : Int) : cordonref_HasFailed_I0 a0 R (n0 + 1) i1 =
 (sel (decide (i1 < (a0.length : Int)))
 (inb i1 a0.length = true ∧
 sel (decide (((at' (.list .int) a0 i1.toNat).length : Int) = 0))
 (R (dB true))
 (cordonref_HasFailed_I0 a0 R n0 (w64 (i1 + 1))))
 (R (dB false))) := by kernel_rfl
theorem cordonref_HasFailed_eq (a0 : List (List Int)) (R : D → Prop) : fnD Tryz.prog Ev cordonref_HasFailed_A Tryz.f23.results.toList (bodyOf Tryz.f23) [dS a0] R =
 (∃ n0, cordonref_HasFailed_I0 a0 R n0 0) := by kernel_rfl
theorem cordonref_HasFailed_sat {r : D} (a0 : List (List Int)) (h : (∀ d ∈ [dS a0], okD d) → fnD Tryz.prog Ev cordonref_HasFailed_A Tryz.f23.results.toList (bodyOf Tryz.f23) [dS a0] fun d => d = r) : Sat Tryz.prog f_cordonref_HasFailed [dS a0] r := by
  have h2 := sat_of (r := r) (args := [dS a0]) (A := cordonref_HasFailed_A) (fn := Tryz.f23) (body := bodyOf Tryz.f23) (f := f_cordonref_HasFailed) factsEv Tryz.func23 (by kernel_rfl) (by rw [Tryz.ntmps23]; rfl) (by rw [Tryz.ntmps23]; exact Nat.le_of_ble_eq_true rfl)
  with_reducible exact h2 h
/-! ### cordon/cordonref.CheckModel -/
def cordonref_CheckModel_A : Ann := { own := [5], live := [(0, ([1, 3, 4], [])), (2, ([1, 3, 4, 5, 6], [5])), (4, ([1, 3, 7], []))], n := 114, nils := [], pubs := [] }
def cordonref_CheckModel_I2 (a0 : MdlD) (R : D → Prop) (n0 : Nat) (v1 : Int) (n2 : Nat) (v3 : Int) : Prop := iter (den Tryz.prog Ev cordonref_CheckModel_A (sub [1, 1, 1, 1, 0, 1, 0, 0, 1, 0, 0, 1, 1, 0, 1, 0, 0] (bodyOf Tryz.f36)) 2) cordonref_CheckModel_A (liveOf cordonref_CheckModel_A 2) n2 ⟨[(1, .iptr [.sl .var a0.vars, .sl .con a0.cons, dI a0.goal, dI a0.var] 0), (3, dI (a0.vars.length : Int)), (4, dI v1), (5, .ptr 5 0), (6, dI v3)], [(5, .cells [.str ((at' .var a0.vars v1.toNat).name), dI ((at' .var a0.vars v1.toNat).lo), dI ((at' .var a0.vars v1.toNat).hi)])]⟩ (blockK 2 (seqK Tryz.prog Ev cordonref_CheckModel_A (sub [1, 1, 1, 1, 0, 1, 0, 0, 1, 0, 0, 1, 1, 1] (bodyOf Tryz.f36)) 1 (blockK 1 (seqK Tryz.prog Ev cordonref_CheckModel_A (sub [1, 1, 1, 1, 0, 1, 0, 0, 1, 1] (bodyOf Tryz.f36)) 0 (iterK (den Tryz.prog Ev cordonref_CheckModel_A (sub [1, 1, 1, 1, 0, 1, 0, 0] (bodyOf Tryz.f36)) 0) cordonref_CheckModel_A (liveOf cordonref_CheckModel_A 0) n0 (blockK 0 (seqK Tryz.prog Ev cordonref_CheckModel_A (sub [1, 1, 1, 1, 1] (bodyOf Tryz.f36)) 0 (endK Ev Tryz.f36.results.toList R))))))))
def cordonref_CheckModel_I4 (a0 : MdlD) (R : D → Prop) (n4 : Nat) (v6 : Int) : Prop := iter (den Tryz.prog Ev cordonref_CheckModel_A (sub [1, 1, 1, 1, 1, 0, 1, 0, 0] (bodyOf Tryz.f36)) 4) cordonref_CheckModel_A (liveOf cordonref_CheckModel_A 4) n4 ⟨[(1, .iptr [.sl .var a0.vars, .sl .con a0.cons, dI a0.goal, dI a0.var] 0), (3, dI (a0.vars.length : Int)), (7, dI v6)], []⟩ (blockK 4 (seqK Tryz.prog Ev cordonref_CheckModel_A (sub [1, 1, 1, 1, 1, 1] (bodyOf Tryz.f36)) 0 (endK Ev Tryz.f36.results.toList R)))
def cordonref_CheckModel_I0 (a0 : MdlD) (R : D → Prop) (n0 : Nat) (v1 : Int) : Prop := iter (den Tryz.prog Ev cordonref_CheckModel_A (sub [1, 1, 1, 1, 0, 1, 0, 0] (bodyOf Tryz.f36)) 0) cordonref_CheckModel_A (liveOf cordonref_CheckModel_A 0) n0 ⟨[(1, .iptr [.sl .var a0.vars, .sl .con a0.cons, dI a0.goal, dI a0.var] 0), (3, dI (a0.vars.length : Int)), (4, dI v1)], []⟩ (blockK 0 (seqK Tryz.prog Ev cordonref_CheckModel_A (sub [1, 1, 1, 1, 1] (bodyOf Tryz.f36)) 0 (endK Ev Tryz.f36.results.toList R)))
theorem cordonref_CheckModel_I2_eq (a0 : MdlD) (R : D → Prop) (n0 : Nat) (v1 : Int) (n2 : Nat) (v3 : Int) : cordonref_CheckModel_I2 a0 R n0 v1 (n2 + 1) v3 =
 (sel (decide (v3 < v1))
 (inb v3 a0.vars.length = true ∧
 sel (decide (((at' .var a0.vars v3.toNat).name) = ((at' .var a0.vars v1.toNat).name)))
 (R (dI 6))
 (cordonref_CheckModel_I2 a0 R n0 v1 n2 (w64 (v3 + 1))))
 (Call1 Tryz.prog f_cordonref_between [dI ((at' .var a0.vars v1.toNat).lo), dI (-50), dI 50] .bool fun c4 =>
 sel (!c4)
 (R (dI 3))
 (Call1 Tryz.prog f_cordonref_between [dI ((at' .var a0.vars v1.toNat).hi), dI (-50), dI 50] .bool fun c5 =>
 sel (!c5)
 (R (dI 3))
 (sel (decide (((at' .var a0.vars v1.toNat).hi) < ((at' .var a0.vars v1.toNat).lo)))
 (R (dI 3))
 (sel (decide (6 < (w64 ((w64 (((at' .var a0.vars v1.toNat).hi) - ((at' .var a0.vars v1.toNat).lo))) + 1))))
 (R (dI 2))
 (cordonref_CheckModel_I0 a0 R n0 (w64 (v1 + 1)))))))) := by kernel_rfl
theorem cordonref_CheckModel_I4_eq (a0 : MdlD) (R : D → Prop) (n4 : Nat) (v6 : Int) : cordonref_CheckModel_I4 a0 R (n4 + 1) v6 =
 (sel (decide (v6 < (a0.cons.length : Int)))
 (inb v6 a0.cons.length = true ∧
 Call1 Tryz.prog f_cordonref_checkCon [dM a0, dC (at' .con a0.cons v6.toNat)] .int fun c7 =>
 sel (!decide (c7 = 0))
 (R (dI c7))
 (cordonref_CheckModel_I4 a0 R n4 (w64 (v6 + 1))))
 (Call1 Tryz.prog f_cordonref_between [dI a0.goal, dI 0, dI 2] .bool fun c8 =>
 sel (!c8)
 (R (dI 7))
 (sel (decide (a0.goal = 0))
 (sel (!decide (a0.var = 0))
 (R (dI 1))
 (sel (!decide (a0.goal = 0))
 (Call1 Tryz.prog f_cordonref_between [dI a0.var, dI 0, dI (w64 ((a0.vars.length : Int) - 1))] .bool fun c9 =>
 sel (!c9)
 (R (dI 5))
 (R (dI 0)))
 (R (dI 0))))
 (sel (!decide (a0.goal = 0))
 (Call1 Tryz.prog f_cordonref_between [dI a0.var, dI 0, dI (w64 ((a0.vars.length : Int) - 1))] .bool fun c10 =>
 sel (!c10)
 (R (dI 5))
 (R (dI 0)))
 (R (dI 0)))))) := by kernel_rfl
theorem cordonref_CheckModel_I0_eq (a0 : MdlD) (R : D → Prop) (n0 : Nat) (v1 : Int) : cordonref_CheckModel_I0 a0 R (n0 + 1) v1 =
 (sel (decide (v1 < (a0.vars.length : Int)))
 (inb v1 a0.vars.length = true ∧
 Call1 Tryz.prog f_cordonref_IsName [.str ((at' .var a0.vars v1.toNat).name)] .bool fun c2 =>
 sel (!c2)
 (R (dI 1))
 (∃ n2, cordonref_CheckModel_I2 a0 R n0 v1 n2 0))
 (∃ n4, cordonref_CheckModel_I4 a0 R n4 0)) := by kernel_rfl
theorem cordonref_CheckModel_eq (a0 : MdlD) (R : D → Prop) : fnD Tryz.prog Ev cordonref_CheckModel_A Tryz.f36.results.toList (bodyOf Tryz.f36) [dM a0] R =
 (sel (decide ((a0.vars.length : Int) = 0))
 (R (dI 1))
 (sel (decide (6 < (a0.vars.length : Int)))
 (R (dI 2))
 (sel (decide (8 < (a0.cons.length : Int)))
 (R (dI 2))
 (∃ n0, cordonref_CheckModel_I0 a0 R n0 0)))) := by kernel_rfl
theorem cordonref_CheckModel_sat {r : D} (a0 : MdlD) (h : (∀ d ∈ [dM a0], okD d) → fnD Tryz.prog Ev cordonref_CheckModel_A Tryz.f36.results.toList (bodyOf Tryz.f36) [dM a0] fun d => d = r) : Sat Tryz.prog f_cordonref_CheckModel [dM a0] r := by
  have h2 := sat_of (r := r) (args := [dM a0]) (A := cordonref_CheckModel_A) (fn := Tryz.f36) (body := bodyOf Tryz.f36) (f := f_cordonref_CheckModel) factsEv Tryz.func36 (by kernel_rfl) (by rw [Tryz.ntmps36]; rfl) (by rw [Tryz.ntmps36]; exact Nat.le_of_ble_eq_true rfl)
  with_reducible exact h2 h
/-! ### cordon/cordonref.CheckStore -/
def cordonref_CheckStore_A : Ann := { own := [], live := [(0, ([1, 2, 5], [])), (2, ([1, 2, 5, 6], [])), (4, ([1, 7], [])), (6, ([1, 7, 8], []))], n := 82, nils := [], pubs := [] }
def cordonref_CheckStore_I2 (a0 : MdlD) (a1 : List (List Int)) (R : D → Prop) (n0 : Nat) (v1 : Int) (n2 : Nat) (v2 : Int) : Prop := iter (den Tryz.prog Ev cordonref_CheckStore_A (sub [1, 1, 0, 1, 0, 0, 1, 0, 0, 1, 0, 0] (bodyOf Tryz.f57)) 2) cordonref_CheckStore_A (liveOf cordonref_CheckStore_A 2) n2 ⟨[(1, dS a1), (2, .iptr [.sl .var a0.vars, .sl .con a0.cons, dI a0.goal, dI a0.var] 0), (5, dI v1), (6, dI v2)], []⟩ (blockK 2 (blockK 1 (seqK Tryz.prog Ev cordonref_CheckStore_A (sub [1, 1, 0, 1, 0, 0, 1, 1] (bodyOf Tryz.f57)) 0 (iterK (den Tryz.prog Ev cordonref_CheckStore_A (sub [1, 1, 0, 1, 0, 0] (bodyOf Tryz.f57)) 0) cordonref_CheckStore_A (liveOf cordonref_CheckStore_A 0) n0 (blockK 0 (seqK Tryz.prog Ev cordonref_CheckStore_A (sub [1, 1, 1] (bodyOf Tryz.f57)) 0 (endK Ev Tryz.f57.results.toList R)))))))
def cordonref_CheckStore_I6 (a1 : List (List Int)) (R : D → Prop) (n4 : Nat) (v4 : Int) (n6 : Nat) (v5 : Int) : Prop := iter (den Tryz.prog Ev cordonref_CheckStore_A (sub [1, 1, 1, 0, 1, 0, 0, 1, 0, 0, 1, 0, 0] (bodyOf Tryz.f57)) 6) cordonref_CheckStore_A (liveOf cordonref_CheckStore_A 6) n6 ⟨[(1, dS a1), (7, dI v4), (8, dI v5)], []⟩ (blockK 6 (blockK 5 (seqK Tryz.prog Ev cordonref_CheckStore_A (sub [1, 1, 1, 0, 1, 0, 0, 1, 1] (bodyOf Tryz.f57)) 4 (iterK (den Tryz.prog Ev cordonref_CheckStore_A (sub [1, 1, 1, 0, 1, 0, 0] (bodyOf Tryz.f57)) 4) cordonref_CheckStore_A (liveOf cordonref_CheckStore_A 4) n4 (blockK 4 (seqK Tryz.prog Ev cordonref_CheckStore_A (sub [1, 1, 1, 1] (bodyOf Tryz.f57)) 0 (endK Ev Tryz.f57.results.toList R)))))))
def cordonref_CheckStore_I4 (a1 : List (List Int)) (R : D → Prop) (n4 : Nat) (v4 : Int) : Prop := iter (den Tryz.prog Ev cordonref_CheckStore_A (sub [1, 1, 1, 0, 1, 0, 0] (bodyOf Tryz.f57)) 4) cordonref_CheckStore_A (liveOf cordonref_CheckStore_A 4) n4 ⟨[(1, dS a1), (7, dI v4)], []⟩ (blockK 4 (seqK Tryz.prog Ev cordonref_CheckStore_A (sub [1, 1, 1, 1] (bodyOf Tryz.f57)) 0 (endK Ev Tryz.f57.results.toList R)))
def cordonref_CheckStore_I0 (a0 : MdlD) (a1 : List (List Int)) (R : D → Prop) (n0 : Nat) (v1 : Int) : Prop := iter (den Tryz.prog Ev cordonref_CheckStore_A (sub [1, 1, 0, 1, 0, 0] (bodyOf Tryz.f57)) 0) cordonref_CheckStore_A (liveOf cordonref_CheckStore_A 0) n0 ⟨[(1, dS a1), (2, .iptr [.sl .var a0.vars, .sl .con a0.cons, dI a0.goal, dI a0.var] 0), (5, dI v1)], []⟩ (blockK 0 (seqK Tryz.prog Ev cordonref_CheckStore_A (sub [1, 1, 1] (bodyOf Tryz.f57)) 0 (endK Ev Tryz.f57.results.toList R)))
theorem cordonref_CheckStore_I2_eq (a0 : MdlD) (a1 : List (List Int)) (R : D → Prop) (n0 : Nat) (v1 : Int) (n2 : Nat) (v2 : Int) : cordonref_CheckStore_I2 a0 a1 R n0 v1 (n2 + 1) v2 =
 (inb v1 a1.length = true ∧
 sel (decide (v2 < ((at' (.list .int) a1 v1.toNat).length : Int)))
 (inb v1 a1.length = true ∧
 inb v2 (at' (.list .int) a1 v1.toNat).length = true ∧
 inb v1 a0.vars.length = true ∧
 inb v1 a0.vars.length = true ∧
 Call1 Tryz.prog f_cordonref_between [dI (at' .int (at' (.list .int) a1 v1.toNat) v2.toNat), dI ((at' .var a0.vars v1.toNat).lo), dI ((at' .var a0.vars v1.toNat).hi)] .bool fun c3 =>
 sel (!c3)
 (R (dI 3))
 (cordonref_CheckStore_I2 a0 a1 R n0 v1 n2 (w64 (v2 + 1))))
 (cordonref_CheckStore_I0 a0 a1 R n0 (w64 (v1 + 1)))) := by kernel_rfl
theorem cordonref_CheckStore_I6_eq (a1 : List (List Int)) (R : D → Prop) (n4 : Nat) (v4 : Int) (n6 : Nat) (v5 : Int) : cordonref_CheckStore_I6 a1 R n4 v4 (n6 + 1) v5 =
 (inb v4 a1.length = true ∧
 sel (decide (v5 < ((at' (.list .int) a1 v4.toNat).length : Int)))
 (inb v4 a1.length = true ∧
 inb v5 (at' (.list .int) a1 v4.toNat).length = true ∧
 inb v4 a1.length = true ∧
 inb (w64 (v5 - 1)) (at' (.list .int) a1 v4.toNat).length = true ∧
 sel (decide ((at' .int (at' (.list .int) a1 v4.toNat) v5.toNat) ≤ (at' .int (at' (.list .int) a1 v4.toNat) ((w64 (v5 - 1)).toNat))))
 (R (dI 4))
 (cordonref_CheckStore_I6 a1 R n4 v4 n6 (w64 (v5 + 1))))
 (cordonref_CheckStore_I4 a1 R n4 (w64 (v4 + 1)))) := by kernel_rfl
theorem cordonref_CheckStore_I4_eq (a1 : List (List Int)) (R : D → Prop) (n4 : Nat) (v4 : Int) : cordonref_CheckStore_I4 a1 R (n4 + 1) v4 =
 (sel (decide (v4 < (a1.length : Int)))
 (∃ n6, cordonref_CheckStore_I6 a1 R n4 v4 n6 1)
 (R (dI 0))) := by kernel_rfl
theorem cordonref_CheckStore_I0_eq (a0 : MdlD) (a1 : List (List Int)) (R : D → Prop) (n0 : Nat) (v1 : Int) : cordonref_CheckStore_I0 a0 a1 R (n0 + 1) v1 =
 (sel (decide (v1 < (a1.length : Int)))
 (∃ n2, cordonref_CheckStore_I2 a0 a1 R n0 v1 n2 0)
 (∃ n4, cordonref_CheckStore_I4 a1 R n4 0)) := by kernel_rfl
theorem cordonref_CheckStore_eq (a0 : MdlD) (a1 : List (List Int)) (R : D → Prop) : fnD Tryz.prog Ev cordonref_CheckStore_A Tryz.f57.results.toList (bodyOf Tryz.f57) [dM a0, dS a1] R =
 (sel (!decide ((a1.length : Int) = (a0.vars.length : Int)))
 (R (dI 1))
 (∃ n0, cordonref_CheckStore_I0 a0 a1 R n0 0)) := by kernel_rfl
theorem cordonref_CheckStore_sat {r : D} (a0 : MdlD) (a1 : List (List Int)) (h : (∀ d ∈ [dM a0, dS a1], okD d) → fnD Tryz.prog Ev cordonref_CheckStore_A Tryz.f57.results.toList (bodyOf Tryz.f57) [dM a0, dS a1] fun d => d = r) : Sat Tryz.prog f_cordonref_CheckStore [dM a0, dS a1] r := by
  have h2 := sat_of (r := r) (args := [dM a0, dS a1]) (A := cordonref_CheckStore_A) (fn := Tryz.f57) (body := bodyOf Tryz.f57) (f := f_cordonref_CheckStore) factsEv Tryz.func57 (by kernel_rfl) (by rw [Tryz.ntmps57]; rfl) (by rw [Tryz.ntmps57]; exact Nat.le_of_ble_eq_true rfl)
  with_reducible exact h2 h
/-! ### cordon/cordonref.SameInts -/
def cordonref_SameInts_A : Ann := { own := [], live := [(0, ([0, 1, 5], []))], n := 26, nils := [], pubs := [] }
def cordonref_SameInts_I0 (a0 : List Int) (a1 : List Int) (R : D → Prop) (n0 : Nat) (i1 : Int) : Prop := iter (den Tryz.prog Ev cordonref_SameInts_A (sub [1, 1, 0, 1, 0, 0] (bodyOf Tryz.f66)) 0) cordonref_SameInts_A (liveOf cordonref_SameInts_A 0) n0 ⟨[(0, .sl .int a0), (1, .sl .int a1), (5, dI i1)], []⟩ (blockK 0 (seqK Tryz.prog Ev cordonref_SameInts_A (sub [1, 1, 1] (bodyOf Tryz.f66)) 0 (endK Ev Tryz.f66.results.toList R)))
theorem cordonref_SameInts_I0_eq (a0 : List Int) (a1 : List Int) (R : D → Prop) (n0 : Nat) (i1 : Int) : cordonref_SameInts_I0 a0 a1 R (n0 + 1) i1 =
 (sel (decide (i1 < (a0.length : Int)))
 (inb i1 a0.length = true ∧
 inb i1 a1.length = true ∧
 sel (!decide ((at' .int a0 i1.toNat) = (at' .int a1 i1.toNat)))
 (R (dB false))
 (cordonref_SameInts_I0 a0 a1 R n0 (w64 (i1 + 1))))
 (R (dB true))) := by kernel_rfl
theorem cordonref_SameInts_eq (a0 : List Int) (a1 : List Int) (R : D → Prop) : fnD Tryz.prog Ev cordonref_SameInts_A Tryz.f66.results.toList (bodyOf Tryz.f66) [.sl .int a0, .sl .int a1] R =
 (sel (!decide ((a0.length : Int) = (a1.length : Int)))
 (R (dB false))
 (∃ n0, cordonref_SameInts_I0 a0 a1 R n0 0)) := by kernel_rfl
theorem cordonref_SameInts_sat {r : D} (a0 : List Int) (a1 : List Int) (h : (∀ d ∈ [.sl .int a0, .sl .int a1], okD d) → fnD Tryz.prog Ev cordonref_SameInts_A Tryz.f66.results.toList (bodyOf Tryz.f66) [.sl .int a0, .sl .int a1] fun d => d = r) : Sat Tryz.prog f_cordonref_SameInts [.sl .int a0, .sl .int a1] r := by
  have h2 := sat_of (r := r) (args := [.sl .int a0, .sl .int a1]) (A := cordonref_SameInts_A) (fn := Tryz.f66) (body := bodyOf Tryz.f66) (f := f_cordonref_SameInts) factsEv Tryz.func66 (by kernel_rfl) (by rw [Tryz.ntmps66]; rfl) (by rw [Tryz.ntmps66]; exact Nat.le_of_ble_eq_true rfl)
  with_reducible exact h2 h
/-! ### cordon/cordonref.between -/
def cordonref_between_A : Ann := { own := [], live := [], n := 15, nils := [], pubs := [] }
theorem cordonref_between_eq (a0 : Int) (a1 : Int) (a2 : Int) (R : D → Prop) : fnD Tryz.prog Ev cordonref_between_A Tryz.f87.results.toList (bodyOf Tryz.f87) [dI a0, dI a1, dI a2] R =
 (sel (decide (a1 ≤ a0))
 (R (dB (decide (a0 ≤ a2))))
 (R (dB false))) := by kernel_rfl
theorem cordonref_between_sat {r : D} (a0 : Int) (a1 : Int) (a2 : Int) (h : (∀ d ∈ [dI a0, dI a1, dI a2], okD d) → fnD Tryz.prog Ev cordonref_between_A Tryz.f87.results.toList (bodyOf Tryz.f87) [dI a0, dI a1, dI a2] fun d => d = r) : Sat Tryz.prog f_cordonref_between [dI a0, dI a1, dI a2] r := by
  have h2 := sat_of (r := r) (args := [dI a0, dI a1, dI a2]) (A := cordonref_between_A) (fn := Tryz.f87) (body := bodyOf Tryz.f87) (f := f_cordonref_between) factsEv Tryz.func87 (by kernel_rfl) (by rw [Tryz.ntmps87]; rfl) (by rw [Tryz.ntmps87]; exact Nat.le_of_ble_eq_true rfl)
  with_reducible exact h2 h
/-! ### cordon/cordonref.checkCon -/
def cordonref_checkCon_A : Ann := { own := [], live := [(0, ([2, 3, 5], [])), (2, ([2, 3, 6], [])), (4, ([2, 3, 7], [])), (6, ([2, 3, 8], [])), (8, ([2, 3, 8, 9], [])), (10, ([2, 3, 10], []))], n := 140, nils := [], pubs := [] }
def cordonref_checkCon_I8 (a0 : MdlD) (a1 : ConD) (R : D → Prop) (n6 : Nat) (v10 : Int) (n8 : Nat) (v11 : Int) : Prop := iter (den Tryz.prog Ev cordonref_checkCon_A (sub [1, 1, 1, 1, 1, 1, 1, 1, 0, 1, 0, 0, 1, 0, 0, 1, 0, 0] (bodyOf Tryz.f88)) 8) cordonref_checkCon_A (liveOf cordonref_checkCon_A 8) n8 ⟨[(2, .iptr [.sl .var a0.vars, .sl .con a0.cons, dI a0.goal, dI a0.var] 0), (3, .iptr [dI a1.kind, .sl .int a1.vars, .sl .int a1.consts, dI a1.n, dS a1.rows, .sl .lit a1.lits] 0), (8, dI v10), (9, dI v11)], []⟩ (blockK 8 (blockK 7 (seqK Tryz.prog Ev cordonref_checkCon_A (sub [1, 1, 1, 1, 1, 1, 1, 1, 0, 1, 0, 0, 1, 1] (bodyOf Tryz.f88)) 6 (iterK (den Tryz.prog Ev cordonref_checkCon_A (sub [1, 1, 1, 1, 1, 1, 1, 1, 0, 1, 0, 0] (bodyOf Tryz.f88)) 6) cordonref_checkCon_A (liveOf cordonref_checkCon_A 6) n6 (blockK 6 (seqK Tryz.prog Ev cordonref_checkCon_A (sub [1, 1, 1, 1, 1, 1, 1, 1, 1] (bodyOf Tryz.f88)) 0 (endK Ev Tryz.f88.results.toList R)))))))
def cordonref_checkCon_I10 (a0 : MdlD) (a1 : ConD) (R : D → Prop) (n10 : Nat) (v13 : Int) : Prop := iter (den Tryz.prog Ev cordonref_checkCon_A (sub [1, 1, 1, 1, 1, 1, 1, 1, 1, 0, 1, 0, 0] (bodyOf Tryz.f88)) 10) cordonref_checkCon_A (liveOf cordonref_checkCon_A 10) n10 ⟨[(2, .iptr [.sl .var a0.vars, .sl .con a0.cons, dI a0.goal, dI a0.var] 0), (3, .iptr [dI a1.kind, .sl .int a1.vars, .sl .int a1.consts, dI a1.n, dS a1.rows, .sl .lit a1.lits] 0), (10, dI v13)], []⟩ (blockK 10 (seqK Tryz.prog Ev cordonref_checkCon_A (sub [1, 1, 1, 1, 1, 1, 1, 1, 1, 1] (bodyOf Tryz.f88)) 0 (endK Ev Tryz.f88.results.toList R)))
def cordonref_checkCon_I6 (a0 : MdlD) (a1 : ConD) (R : D → Prop) (n6 : Nat) (v10 : Int) : Prop := iter (den Tryz.prog Ev cordonref_checkCon_A (sub [1, 1, 1, 1, 1, 1, 1, 1, 0, 1, 0, 0] (bodyOf Tryz.f88)) 6) cordonref_checkCon_A (liveOf cordonref_checkCon_A 6) n6 ⟨[(2, .iptr [.sl .var a0.vars, .sl .con a0.cons, dI a0.goal, dI a0.var] 0), (3, .iptr [dI a1.kind, .sl .int a1.vars, .sl .int a1.consts, dI a1.n, dS a1.rows, .sl .lit a1.lits] 0), (8, dI v10)], []⟩ (blockK 6 (seqK Tryz.prog Ev cordonref_checkCon_A (sub [1, 1, 1, 1, 1, 1, 1, 1, 1] (bodyOf Tryz.f88)) 0 (endK Ev Tryz.f88.results.toList R)))
def cordonref_checkCon_I4 (a0 : MdlD) (a1 : ConD) (R : D → Prop) (n4 : Nat) (v7 : Int) : Prop := iter (den Tryz.prog Ev cordonref_checkCon_A (sub [1, 1, 1, 1, 1, 1, 0, 1, 0, 0] (bodyOf Tryz.f88)) 4) cordonref_checkCon_A (liveOf cordonref_checkCon_A 4) n4 ⟨[(2, .iptr [.sl .var a0.vars, .sl .con a0.cons, dI a0.goal, dI a0.var] 0), (3, .iptr [dI a1.kind, .sl .int a1.vars, .sl .int a1.consts, dI a1.n, dS a1.rows, .sl .lit a1.lits] 0), (7, dI v7)], []⟩ (blockK 4 (seqK Tryz.prog Ev cordonref_checkCon_A (sub [1, 1, 1, 1, 1, 1, 1] (bodyOf Tryz.f88)) 0 (endK Ev Tryz.f88.results.toList R)))
def cordonref_checkCon_I2 (a0 : MdlD) (a1 : ConD) (R : D → Prop) (n2 : Nat) (v5 : Int) : Prop := iter (den Tryz.prog Ev cordonref_checkCon_A (sub [1, 1, 1, 1, 1, 0, 1, 0, 0] (bodyOf Tryz.f88)) 2) cordonref_checkCon_A (liveOf cordonref_checkCon_A 2) n2 ⟨[(2, .iptr [.sl .var a0.vars, .sl .con a0.cons, dI a0.goal, dI a0.var] 0), (3, .iptr [dI a1.kind, .sl .int a1.vars, .sl .int a1.consts, dI a1.n, dS a1.rows, .sl .lit a1.lits] 0), (6, dI v5)], []⟩ (blockK 2 (seqK Tryz.prog Ev cordonref_checkCon_A (sub [1, 1, 1, 1, 1, 1] (bodyOf Tryz.f88)) 0 (endK Ev Tryz.f88.results.toList R)))
def cordonref_checkCon_I0 (a0 : MdlD) (a1 : ConD) (R : D → Prop) (n0 : Nat) (v3 : Int) : Prop := iter (den Tryz.prog Ev cordonref_checkCon_A (sub [1, 1, 1, 1, 0, 1, 0, 0] (bodyOf Tryz.f88)) 0) cordonref_checkCon_A (liveOf cordonref_checkCon_A 0) n0 ⟨[(2, .iptr [.sl .var a0.vars, .sl .con a0.cons, dI a0.goal, dI a0.var] 0), (3, .iptr [dI a1.kind, .sl .int a1.vars, .sl .int a1.consts, dI a1.n, dS a1.rows, .sl .lit a1.lits] 0), (5, dI v3)], []⟩ (blockK 0 (seqK Tryz.prog Ev cordonref_checkCon_A (sub [1, 1, 1, 1, 1] (bodyOf Tryz.f88)) 0 (endK Ev Tryz.f88.results.toList R)))
theorem cordonref_checkCon_I8_eq (a0 : MdlD) (a1 : ConD) (R : D → Prop) (n6 : Nat) (v10 : Int) (n8 : Nat) (v11 : Int) : cordonref_checkCon_I8 a0 a1 R n6 v10 (n8 + 1) v11 =
 (inb v10 a1.rows.length = true ∧
 sel (decide (v11 < ((at' (.list .int) a1.rows v10.toNat).length : Int)))
 (inb v10 a1.rows.length = true ∧
 inb v11 (at' (.list .int) a1.rows v10.toNat).length = true ∧
 Call1 Tryz.prog f_cordonref_inConst [dI (at' .int (at' (.list .int) a1.rows v10.toNat) v11.toNat)] .bool fun c12 =>
 sel (!c12)
 (R (dI 3))
 (cordonref_checkCon_I8 a0 a1 R n6 v10 n8 (w64 (v11 + 1))))
 (cordonref_checkCon_I6 a0 a1 R n6 (w64 (v10 + 1)))) := by kernel_rfl
theorem cordonref_checkCon_I10_eq (a0 : MdlD) (a1 : ConD) (R : D → Prop) (n10 : Nat) (v13 : Int) : cordonref_checkCon_I10 a0 a1 R (n10 + 1) v13 =
 (sel (decide (v13 < (a1.lits.length : Int)))
 (inb v13 a1.lits.length = true ∧
 Call1 Tryz.prog f_cordonref_CheckLit [dM a0, dL (at' .lit a1.lits v13.toNat)] .int fun c14 =>
 sel (!decide (c14 = 0))
 (R (dI c14))
 (cordonref_checkCon_I10 a0 a1 R n10 (w64 (v13 + 1))))
 (R (dI 0))) := by kernel_rfl
theorem cordonref_checkCon_I6_eq (a0 : MdlD) (a1 : ConD) (R : D → Prop) (n6 : Nat) (v10 : Int) : cordonref_checkCon_I6 a0 a1 R (n6 + 1) v10 =
 (sel (decide (v10 < (a1.rows.length : Int)))
 (∃ n8, cordonref_checkCon_I8 a0 a1 R n6 v10 n8 0)
 (∃ n10, cordonref_checkCon_I10 a0 a1 R n10 0)) := by kernel_rfl
theorem cordonref_checkCon_I4_eq (a0 : MdlD) (a1 : ConD) (R : D → Prop) (n4 : Nat) (v7 : Int) : cordonref_checkCon_I4 a0 a1 R (n4 + 1) v7 =
 (sel (decide (v7 < (a1.consts.length : Int)))
 (inb v7 a1.consts.length = true ∧
 Call1 Tryz.prog f_cordonref_inConst [dI (at' .int a1.consts v7.toNat)] .bool fun c8 =>
 sel (!c8)
 (R (dI 3))
 (cordonref_checkCon_I4 a0 a1 R n4 (w64 (v7 + 1))))
 (Call1 Tryz.prog f_cordonref_inConst [dI a1.n] .bool fun c9 =>
 sel (!c9)
 (R (dI 3))
 (∃ n6, cordonref_checkCon_I6 a0 a1 R n6 0))) := by kernel_rfl
theorem cordonref_checkCon_I2_eq (a0 : MdlD) (a1 : ConD) (R : D → Prop) (n2 : Nat) (v5 : Int) : cordonref_checkCon_I2 a0 a1 R (n2 + 1) v5 =
 (sel (decide (v5 < (a1.lits.length : Int)))
 (inb v5 a1.lits.length = true ∧
 Call1 Tryz.prog f_cordonref_between [dI ((at' .lit a1.lits v5.toNat).var), dI 0, dI (w64 ((a0.vars.length : Int) - 1))] .bool fun c6 =>
 sel (!c6)
 (R (dI 5))
 (cordonref_checkCon_I2 a0 a1 R n2 (w64 (v5 + 1))))
 (∃ n4, cordonref_checkCon_I4 a0 a1 R n4 0)) := by kernel_rfl
theorem cordonref_checkCon_I0_eq (a0 : MdlD) (a1 : ConD) (R : D → Prop) (n0 : Nat) (v3 : Int) : cordonref_checkCon_I0 a0 a1 R (n0 + 1) v3 =
 (sel (decide (v3 < (a1.vars.length : Int)))
 (inb v3 a1.vars.length = true ∧
 Call1 Tryz.prog f_cordonref_between [dI (at' .int a1.vars v3.toNat), dI 0, dI (w64 ((a0.vars.length : Int) - 1))] .bool fun c4 =>
 sel (!c4)
 (R (dI 5))
 (cordonref_checkCon_I0 a0 a1 R n0 (w64 (v3 + 1))))
 (∃ n2, cordonref_checkCon_I2 a0 a1 R n2 0)) := by kernel_rfl
theorem cordonref_checkCon_eq (a0 : MdlD) (a1 : ConD) (R : D → Prop) : fnD Tryz.prog Ev cordonref_checkCon_A Tryz.f88.results.toList (bodyOf Tryz.f88) [dM a0, dC a1] R =
 (Call1 Tryz.prog f_cordonref_between [dI a1.kind, dI 1, dI 10] .bool fun c1 =>
 sel (!c1)
 (R (dI 7))
 (sel (decide (4 < (a1.vars.length : Int)))
 (R (dI 2))
 (sel (decide (4 < (a1.lits.length : Int)))
 (R (dI 2))
 (sel (decide (8 < (a1.consts.length : Int)))
 (R (dI 2))
 (sel (decide (20 < (a1.rows.length : Int)))
 (R (dI 2))
 (Call1 Tryz.prog f_cordonref_rightForm [dC a1] .bool fun c2 =>
 sel (!c2)
 (R (dI 1))
 (∃ n0, cordonref_checkCon_I0 a0 a1 R n0 0))))))) := by kernel_rfl
theorem cordonref_checkCon_sat {r : D} (a0 : MdlD) (a1 : ConD) (h : (∀ d ∈ [dM a0, dC a1], okD d) → fnD Tryz.prog Ev cordonref_checkCon_A Tryz.f88.results.toList (bodyOf Tryz.f88) [dM a0, dC a1] fun d => d = r) : Sat Tryz.prog f_cordonref_checkCon [dM a0, dC a1] r := by
  have h2 := sat_of (r := r) (args := [dM a0, dC a1]) (A := cordonref_checkCon_A) (fn := Tryz.f88) (body := bodyOf Tryz.f88) (f := f_cordonref_checkCon) factsEv Tryz.func88 (by kernel_rfl) (by rw [Tryz.ntmps88]; rfl) (by rw [Tryz.ntmps88]; exact Nat.le_of_ble_eq_true rfl)
  with_reducible exact h2 h
/-! ### cordon/cordonref.CheckLit -/
def cordonref_CheckLit_A : Ann := { own := [], live := [], n := 21, nils := [], pubs := [] }
theorem cordonref_CheckLit_eq (a0 : MdlD) (a1 : LitD) (R : D → Prop) : fnD Tryz.prog Ev cordonref_CheckLit_A Tryz.f89.results.toList (bodyOf Tryz.f89) [dM a0, dL a1] R =
 (Call1 Tryz.prog f_cordonref_between [dI a1.var, dI 0, dI (w64 ((a0.vars.length : Int) - 1))] .bool fun c1 =>
 sel (!c1)
 (R (dI 5))
 (Call1 Tryz.prog f_cordonref_between [dI a1.op, dI 1, dI 4] .bool fun c2 =>
 sel (!c2)
 (R (dI 7))
 (Call1 Tryz.prog f_cordonref_inConst [dI a1.n] .bool fun c3 =>
 sel (!c3)
 (R (dI 3))
 (R (dI 0))))) := by kernel_rfl
theorem cordonref_CheckLit_sat {r : D} (a0 : MdlD) (a1 : LitD) (h : (∀ d ∈ [dM a0, dL a1], okD d) → fnD Tryz.prog Ev cordonref_CheckLit_A Tryz.f89.results.toList (bodyOf Tryz.f89) [dM a0, dL a1] fun d => d = r) : Sat Tryz.prog f_cordonref_CheckLit [dM a0, dL a1] r := by
  have h2 := sat_of (r := r) (args := [dM a0, dL a1]) (A := cordonref_CheckLit_A) (fn := Tryz.f89) (body := bodyOf Tryz.f89) (f := f_cordonref_CheckLit) factsEv Tryz.func89 (by kernel_rfl) (by rw [Tryz.ntmps89]; rfl) (by rw [Tryz.ntmps89]; exact Nat.le_of_ble_eq_true rfl)
  with_reducible exact h2 h
/-! ### cordon/cordonref.rightForm -/
def cordonref_rightForm_A : Ann := { own := [], live := [(1, ([1, 3, 4, 5, 6, 7], []))], n := 164, nils := [], pubs := [] }
def cordonref_rightForm_I1 (a0 : ConD) (R : D → Prop) (n1 : Nat) (v1 : Int) : Prop := iter (den Tryz.prog Ev cordonref_rightForm_A (sub [1, 1, 1, 0, 1, 0, 1, 1, 1, 1, 1, 1, 1, 0, 0, 1, 0, 0] (bodyOf Tryz.f139)) 1) cordonref_rightForm_A (liveOf cordonref_rightForm_A 1) n1 ⟨[(1, .iptr [dI a0.kind, .sl .int a0.vars, .sl .int a0.consts, dI a0.n, dS a0.rows, .sl .lit a0.lits] 0), (3, dI (a0.vars.length : Int)), (4, dI (a0.consts.length : Int)), (5, dI (a0.rows.length : Int)), (6, dI (a0.lits.length : Int)), (7, dI v1)], []⟩ (blockK 1 (seqK Tryz.prog Ev cordonref_rightForm_A (sub [1, 1, 1, 0, 1, 0, 1, 1, 1, 1, 1, 1, 1, 0, 1] (bodyOf Tryz.f139)) 0 (blockK 0 (seqK Tryz.prog Ev cordonref_rightForm_A (sub [1, 1, 1, 1] (bodyOf Tryz.f139)) 0 (endK Ev Tryz.f139.results.toList R)))))
def cordonref_rightForm_I1_2 (a0 : ConD) (R : D → Prop) (n1_2 : Nat) (v2 : Int) : Prop := iter (den Tryz.prog Ev cordonref_rightForm_A (sub [1, 1, 1, 0, 1, 0, 1, 1, 1, 1, 1, 1, 1, 0, 0, 1, 0, 0] (bodyOf Tryz.f139)) 1) cordonref_rightForm_A (liveOf cordonref_rightForm_A 1) n1_2 ⟨[(1, .iptr [dI a0.kind, .sl .int a0.vars, .sl .int a0.consts, dI a0.n, dS a0.rows, .sl .lit a0.lits] 0), (3, dI (a0.vars.length : Int)), (4, dI (a0.consts.length : Int)), (5, dI (a0.rows.length : Int)), (6, dI (a0.lits.length : Int)), (7, dI v2)], []⟩ (blockK 1 (seqK Tryz.prog Ev cordonref_rightForm_A (sub [1, 1, 1, 0, 1, 0, 1, 1, 1, 1, 1, 1, 1, 0, 1] (bodyOf Tryz.f139)) 0 (blockK 0 (seqK Tryz.prog Ev cordonref_rightForm_A (sub [1, 1, 1, 1] (bodyOf Tryz.f139)) 0 (endK Ev Tryz.f139.results.toList R)))))
theorem cordonref_rightForm_I1_eq (a0 : ConD) (R : D → Prop) (n1 : Nat) (v1 : Int) : cordonref_rightForm_I1 a0 R (n1 + 1) v1 =
 (sel (decide (v1 < (a0.rows.length : Int)))
 (inb v1 a0.rows.length = true ∧
 sel (!decide (((at' (.list .int) a0.rows v1.toNat).length : Int) = (a0.vars.length : Int)))
 (R (dB false))
 (cordonref_rightForm_I1 a0 R n1 (w64 (v1 + 1))))
 (sel (decide (1 ≤ (a0.vars.length : Int)))
 (sel (decide ((a0.consts.length : Int) = 0))
 (R (dB (decide ((a0.lits.length : Int) = 0))))
 (R (dB false)))
 (R (dB false)))) := by kernel_rfl
theorem cordonref_rightForm_eq (a0 : ConD) (R : D → Prop) : fnD Tryz.prog Ev cordonref_rightForm_A Tryz.f139.results.toList (bodyOf Tryz.f139) [dC a0] R =
 (sel (decide (3 < a0.kind))
 (sel (!decide (a0.n = 0))
 (R (dB false))
 (sel (decide (a0.kind = 1))
 (sel (decide (1 ≤ (a0.vars.length : Int)))
 (sel (decide ((a0.consts.length : Int) = (a0.vars.length : Int)))
 (sel (decide ((a0.rows.length : Int) = 0))
 (R (dB (decide ((a0.lits.length : Int) = 0))))
 (R (dB false)))
 (R (dB false)))
 (R (dB false)))
 (sel (decide (a0.kind = 2))
 (sel (decide (1 ≤ (a0.vars.length : Int)))
 (sel (decide ((a0.consts.length : Int) = (a0.vars.length : Int)))
 (sel (decide ((a0.rows.length : Int) = 0))
 (R (dB (decide ((a0.lits.length : Int) = 0))))
 (R (dB false)))
 (R (dB false)))
 (R (dB false)))
 (sel (decide (a0.kind = 3))
 (sel (decide (1 ≤ (a0.vars.length : Int)))
 (sel (decide ((a0.consts.length : Int) = (a0.vars.length : Int)))
 (sel (decide ((a0.rows.length : Int) = 0))
 (R (dB (decide ((a0.lits.length : Int) = 0))))
 (R (dB false)))
 (R (dB false)))
 (R (dB false)))
 (sel (decide (a0.kind = 4))
 (sel (decide (1 ≤ (a0.vars.length : Int)))
 (sel (decide ((a0.consts.length : Int) = 0))
 (sel (decide ((a0.rows.length : Int) = 0))
 (R (dB (decide ((a0.lits.length : Int) = 0))))
 (R (dB false)))
 (R (dB false)))
 (R (dB false)))
 (sel (decide (a0.kind = 5))
 (sel (decide ((a0.vars.length : Int) = 2))
 (sel (decide (1 ≤ (a0.consts.length : Int)))
 (sel (decide ((a0.rows.length : Int) = 0))
 (R (dB (decide ((a0.lits.length : Int) = 0))))
 (R (dB false)))
 (R (dB false)))
 (R (dB false)))
 (sel (decide (a0.kind = 6))
 (∃ n1, cordonref_rightForm_I1 a0 R n1 0)
 (sel (decide (a0.kind = 7))
 (sel (decide ((a0.vars.length : Int) = 3))
 (sel (decide ((a0.consts.length : Int) = 0))
 (sel (decide ((a0.rows.length : Int) = 0))
 (R (dB (decide ((a0.lits.length : Int) = 0))))
 (R (dB false)))
 (R (dB false)))
 (R (dB false)))
 (sel (decide (a0.kind = 8))
 (sel (decide (2 ≤ (a0.vars.length : Int)))
 (sel (decide ((a0.consts.length : Int) = 0))
 (sel (decide ((a0.rows.length : Int) = 0))
 (R (dB (decide ((a0.lits.length : Int) = 0))))
 (R (dB false)))
 (R (dB false)))
 (R (dB false)))
 (sel (decide (a0.kind = 9))
 (sel (decide ((a0.vars.length : Int) = 0))
 (sel (decide ((a0.consts.length : Int) = 0))
 (R (dB (decide ((a0.rows.length : Int) = 0))))
 (R (dB false)))
 (R (dB false)))
 (sel (decide ((a0.vars.length : Int) = 1))
 (sel (decide ((a0.consts.length : Int) = 0))
 (sel (decide ((a0.rows.length : Int) = 0))
 (R (dB (decide ((a0.lits.length : Int) = 1))))
 (R (dB false)))
 (R (dB false)))
 (R (dB false)))))))))))))
 (sel (decide (a0.kind = 1))
 (sel (decide (1 ≤ (a0.vars.length : Int)))
 (sel (decide ((a0.consts.length : Int) = (a0.vars.length : Int)))
 (sel (decide ((a0.rows.length : Int) = 0))
 (R (dB (decide ((a0.lits.length : Int) = 0))))
 (R (dB false)))
 (R (dB false)))
 (R (dB false)))
 (sel (decide (a0.kind = 2))
 (sel (decide (1 ≤ (a0.vars.length : Int)))
 (sel (decide ((a0.consts.length : Int) = (a0.vars.length : Int)))
 (sel (decide ((a0.rows.length : Int) = 0))
 (R (dB (decide ((a0.lits.length : Int) = 0))))
 (R (dB false)))
 (R (dB false)))
 (R (dB false)))
 (sel (decide (a0.kind = 3))
 (sel (decide (1 ≤ (a0.vars.length : Int)))
 (sel (decide ((a0.consts.length : Int) = (a0.vars.length : Int)))
 (sel (decide ((a0.rows.length : Int) = 0))
 (R (dB (decide ((a0.lits.length : Int) = 0))))
 (R (dB false)))
 (R (dB false)))
 (R (dB false)))
 (sel (decide (a0.kind = 4))
 (sel (decide (1 ≤ (a0.vars.length : Int)))
 (sel (decide ((a0.consts.length : Int) = 0))
 (sel (decide ((a0.rows.length : Int) = 0))
 (R (dB (decide ((a0.lits.length : Int) = 0))))
 (R (dB false)))
 (R (dB false)))
 (R (dB false)))
 (sel (decide (a0.kind = 5))
 (sel (decide ((a0.vars.length : Int) = 2))
 (sel (decide (1 ≤ (a0.consts.length : Int)))
 (sel (decide ((a0.rows.length : Int) = 0))
 (R (dB (decide ((a0.lits.length : Int) = 0))))
 (R (dB false)))
 (R (dB false)))
 (R (dB false)))
 (sel (decide (a0.kind = 6))
 (∃ n1_2, cordonref_rightForm_I1_2 a0 R n1_2 0)
 (sel (decide (a0.kind = 7))
 (sel (decide ((a0.vars.length : Int) = 3))
 (sel (decide ((a0.consts.length : Int) = 0))
 (sel (decide ((a0.rows.length : Int) = 0))
 (R (dB (decide ((a0.lits.length : Int) = 0))))
 (R (dB false)))
 (R (dB false)))
 (R (dB false)))
 (sel (decide (a0.kind = 8))
 (sel (decide (2 ≤ (a0.vars.length : Int)))
 (sel (decide ((a0.consts.length : Int) = 0))
 (sel (decide ((a0.rows.length : Int) = 0))
 (R (dB (decide ((a0.lits.length : Int) = 0))))
 (R (dB false)))
 (R (dB false)))
 (R (dB false)))
 (sel (decide (a0.kind = 9))
 (sel (decide ((a0.vars.length : Int) = 0))
 (sel (decide ((a0.consts.length : Int) = 0))
 (R (dB (decide ((a0.rows.length : Int) = 0))))
 (R (dB false)))
 (R (dB false)))
 (sel (decide ((a0.vars.length : Int) = 1))
 (sel (decide ((a0.consts.length : Int) = 0))
 (sel (decide ((a0.rows.length : Int) = 0))
 (R (dB (decide ((a0.lits.length : Int) = 1))))
 (R (dB false)))
 (R (dB false)))
 (R (dB false))))))))))))) := by kernel_rfl
theorem cordonref_rightForm_sat {r : D} (a0 : ConD) (h : (∀ d ∈ [dC a0], okD d) → fnD Tryz.prog Ev cordonref_rightForm_A Tryz.f139.results.toList (bodyOf Tryz.f139) [dC a0] fun d => d = r) : Sat Tryz.prog f_cordonref_rightForm [dC a0] r := by
  have h2 := sat_of (r := r) (args := [dC a0]) (A := cordonref_rightForm_A) (fn := Tryz.f139) (body := bodyOf Tryz.f139) (f := f_cordonref_rightForm) factsEv Tryz.func139 (by kernel_rfl) (by rw [Tryz.ntmps139]; rfl) (by rw [Tryz.ntmps139]; exact Nat.le_of_ble_eq_true rfl)
  with_reducible exact h2 h
/-! ### cordon/cordonref.inConst -/
def cordonref_inConst_A : Ann := { own := [], live := [], n := 5, nils := [], pubs := [] }
theorem cordonref_inConst_eq (a0 : Int) (R : D → Prop) : fnD Tryz.prog Ev cordonref_inConst_A Tryz.f140.results.toList (bodyOf Tryz.f140) [dI a0] R =
 (Call1 Tryz.prog f_cordonref_between [dI a0, dI (-1000), dI 1000] .bool fun c1 =>
 R (dB c1)) := by kernel_rfl
theorem cordonref_inConst_sat {r : D} (a0 : Int) (h : (∀ d ∈ [dI a0], okD d) → fnD Tryz.prog Ev cordonref_inConst_A Tryz.f140.results.toList (bodyOf Tryz.f140) [dI a0] fun d => d = r) : Sat Tryz.prog f_cordonref_inConst [dI a0] r := by
  have h2 := sat_of (r := r) (args := [dI a0]) (A := cordonref_inConst_A) (fn := Tryz.f140) (body := bodyOf Tryz.f140) (f := f_cordonref_inConst) factsEv Tryz.func140 (by kernel_rfl) (by rw [Tryz.ntmps140]; rfl) (by rw [Tryz.ntmps140]; exact Nat.le_of_ble_eq_true rfl)
  with_reducible exact h2 h
end Go.Proofs.YtgnjdgafkjohaaaGreat
