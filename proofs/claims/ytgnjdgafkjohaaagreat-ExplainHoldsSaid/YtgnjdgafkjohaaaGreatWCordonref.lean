/- What the functions of a package do, as equations of plain propositions: printed by a program that carries the code out on symbols. -/
import Derived.Test.YtgnjdgafkjohaaaGreatWEv
namespace Go.Proofs.YtgnjdgafkjohaaaGreat
open Go.RowKit
set_option linter.unusedVariables false
set_option maxRecDepth 100000
/-! ### cordon/cordonref.SameStore -/
def cordonref_SameStore_A : Ann := { own := [], live := [(0, ([0, 1, 5], []))], n := 27, nils := [], pubs := [] }
def cordonref_SameStore_I0 (a0 : List (List Int)) (a1 : List (List Int)) (R : D → Prop) (n0 : Nat) (i1 : Int) : Prop := iter (den Tryz.prog Ev cordonref_SameStore_A (sub [1, 1, 0, 1, 0, 0] (bodyOf Tryz.f21)) 0) cordonref_SameStore_A (liveOf cordonref_SameStore_A 0) n0 ⟨[(0, dS a0), (1, dS a1), (5, dI i1)], []⟩ (blockK 0 (seqK Tryz.prog Ev cordonref_SameStore_A (sub [1, 1, 1] (bodyOf Tryz.f21)) 0 (endK Ev Tryz.f21.results.toList R)))
theorem cordonref_SameStore_I0_eq (a0 : List (List Int)) (a1 : List (List Int)) (R : D → Prop) (n0 : Nat) (i1 : Int) : cordonref_SameStore_I0 a0 a1 R (n0 + 1) i1 =
 (sel (decide (i1 < (a0.length : Int)))
 (inb i1 a0.length = true ∧
 inb i1 a1.length = true ∧
 Call1 Tryz.prog f_cordonref_SameInts [.sl .int (at' (.list .int) a0 i1.toNat), .sl .int (at' (.list .int) a1 i1.toNat)] .bool fun c2 =>
 sel (!c2)
 (R (dB false))
 (cordonref_SameStore_I0 a0 a1 R n0 (w64 (i1 + 1))))
 (R (dB true))) := by kernel_rfl
theorem cordonref_SameStore_eq (a0 : List (List Int)) (a1 : List (List Int)) (R : D → Prop) : fnD Tryz.prog Ev cordonref_SameStore_A Tryz.f21.results.toList (bodyOf Tryz.f21) [dS a0, dS a1] R =
 (sel (!decide ((a0.length : Int) = (a1.length : Int)))
 (R (dB false))
 (∃ n0, cordonref_SameStore_I0 a0 a1 R n0 0)) := by kernel_rfl
theorem cordonref_SameStore_sat {r : D} (a0 : List (List Int)) (a1 : List (List Int)) (h : (∀ d ∈ [dS a0, dS a1], okD d) → fnD Tryz.prog Ev cordonref_SameStore_A Tryz.f21.results.toList (bodyOf Tryz.f21) [dS a0, dS a1] fun d => d = r) : Sat Tryz.prog f_cordonref_SameStore [dS a0, dS a1] r := by
  have h2 := sat_of (r := r) (args := [dS a0, dS a1]) (A := cordonref_SameStore_A) (fn := Tryz.f21) (body := bodyOf Tryz.f21) (f := f_cordonref_SameStore) factsEv Tryz.func21 (by kernel_rfl) (by rw [Tryz.ntmps21]; rfl) (by rw [Tryz.ntmps21]; exact Nat.le_of_ble_eq_true rfl)
  with_reducible exact h2 h
/-! ### cordon/cordonref.BeginOf -/
def cordonref_BeginOf_A : Ann := { own := [3, 5, 33, 37], live := [(0, ([1, 3, 4], [3])), (2, ([1, 3, 4, 5, 6], [3, 5]))], n := 39, nils := [], pubs := [] }
def cordonref_BeginOf_I2 (a0 : MdlD) (R : D → Prop) (n0 : Nat) (i1 : Int) (n2 : Nat) (n3 : Int) (out4 : List (List Int)) (l5 : List Int) : Prop := iter (den Tryz.prog Ev cordonref_BeginOf_A (sub [1, 1, 0, 1, 0, 0, 1, 0, 0, 1, 0, 1, 0, 0] (bodyOf Tryz.f50)) 2) cordonref_BeginOf_A (liveOf cordonref_BeginOf_A 2) n2 ⟨[(1, .iptr [.sl .var a0.vars, .sl .con a0.cons, dI a0.goal, dI a0.var] 0), (3, .own 3), (4, dI i1), (5, .own 5), (6, dI n3)], [(3, .row 42 (.list .int) out4), (5, .row 3 .int l5)]⟩ (blockK 2 (seqK Tryz.prog Ev cordonref_BeginOf_A (sub [1, 1, 0, 1, 0, 0, 1, 0, 0, 1, 1] (bodyOf Tryz.f50)) 1 (blockK 1 (seqK Tryz.prog Ev cordonref_BeginOf_A (sub [1, 1, 0, 1, 0, 0, 1, 1] (bodyOf Tryz.f50)) 0 (iterK (den Tryz.prog Ev cordonref_BeginOf_A (sub [1, 1, 0, 1, 0, 0] (bodyOf Tryz.f50)) 0) cordonref_BeginOf_A (liveOf cordonref_BeginOf_A 0) n0 (blockK 0 (seqK Tryz.prog Ev cordonref_BeginOf_A (sub [1, 1, 1] (bodyOf Tryz.f50)) 0 (endK Ev Tryz.f50.results.toList R))))))))
def cordonref_BeginOf_I0 (a0 : MdlD) (R : D → Prop) (n0 : Nat) (i1 : Int) (out2 : List (List Int)) : Prop := iter (den Tryz.prog Ev cordonref_BeginOf_A (sub [1, 1, 0, 1, 0, 0] (bodyOf Tryz.f50)) 0) cordonref_BeginOf_A (liveOf cordonref_BeginOf_A 0) n0 ⟨[(1, .iptr [.sl .var a0.vars, .sl .con a0.cons, dI a0.goal, dI a0.var] 0), (3, .own 3), (4, dI i1)], [(3, .row 42 (.list .int) out2)]⟩ (blockK 0 (seqK Tryz.prog Ev cordonref_BeginOf_A (sub [1, 1, 1] (bodyOf Tryz.f50)) 0 (endK Ev Tryz.f50.results.toList R)))
theorem cordonref_BeginOf_I2_eq (a0 : MdlD) (R : D → Prop) (n0 : Nat) (i1 : Int) (n2 : Nat) (n3 : Int) (out4 : List (List Int)) (l5 : List Int) : cordonref_BeginOf_I2 a0 R n0 i1 (n2 + 1) n3 out4 l5 =
 (inb i1 a0.vars.length = true ∧
 sel (decide (n3 ≤ ((at' .var a0.vars i1.toNat).hi)))
 (room .int (l5.length + ([n3]).length) = true ∧
 cordonref_BeginOf_I2 a0 R n0 i1 n2 (w64 (n3 + 1)) out4 (l5 ++ ([n3])))
 (room (.list .int) (out4.length + ([l5]).length) = true ∧
 cordonref_BeginOf_I0 a0 R n0 (w64 (i1 + 1)) (out4 ++ ([l5])))) := by kernel_rfl
theorem cordonref_BeginOf_I0_eq (a0 : MdlD) (R : D → Prop) (n0 : Nat) (i1 : Int) (out2 : List (List Int)) : cordonref_BeginOf_I0 a0 R (n0 + 1) i1 out2 =
 (sel (decide (i1 < (a0.vars.length : Int)))
 (inb i1 a0.vars.length = true ∧
 ∃ n2, cordonref_BeginOf_I2 a0 R n0 i1 n2 ((at' .var a0.vars i1.toNat).lo) out2 ([] : List Int))
 (R (dS out2))) := by kernel_rfl
theorem cordonref_BeginOf_eq (a0 : MdlD) (R : D → Prop) : fnD Tryz.prog Ev cordonref_BeginOf_A Tryz.f50.results.toList (bodyOf Tryz.f50) [dM a0] R =
 (∃ n0, cordonref_BeginOf_I0 a0 R n0 0 ([] : List (List Int))) := by kernel_rfl
theorem cordonref_BeginOf_sat {r : D} (a0 : MdlD) (h : (∀ d ∈ [dM a0], okD d) → fnD Tryz.prog Ev cordonref_BeginOf_A Tryz.f50.results.toList (bodyOf Tryz.f50) [dM a0] fun d => d = r) : Sat Tryz.prog f_cordonref_BeginOf [dM a0] r := by
  have h2 := sat_of (r := r) (args := [dM a0]) (A := cordonref_BeginOf_A) (fn := Tryz.f50) (body := bodyOf Tryz.f50) (f := f_cordonref_BeginOf) factsEv Tryz.func50 (by kernel_rfl) (by rw [Tryz.ntmps50]; rfl) (by rw [Tryz.ntmps50]; exact Nat.le_of_ble_eq_true rfl)
  with_reducible exact h2 h
/-! ### cordon/cordonref.HasInt -/
def cordonref_HasInt_A : Ann := { own := [], live := [(0, ([0, 1, 5], []))], n := 18, nils := [], pubs := [] }
def cordonref_HasInt_I0 (a0 : List Int) (a1 : Int) (R : D → Prop) (n0 : Nat) (i1 : Int) : Prop := iter (den Tryz.prog Ev cordonref_HasInt_A (sub [1, 0, 1, 0, 0] (bodyOf Tryz.f53)) 0) cordonref_HasInt_A (liveOf cordonref_HasInt_A 0) n0 ⟨[(0, .sl .int a0), (1, dI a1), (5, dI i1)], []⟩ (blockK 0 (seqK Tryz.prog Ev cordonref_HasInt_A (sub [1, 1] (bodyOf Tryz.f53)) 0 (endK Ev Tryz.f53.results.toList R)))
theorem cordonref_HasInt_I0_eq (a0 : List Int) (a1 : Int) (R : D → Prop) (n0 : Nat) (i1 : Int) : cordonref_HasInt_I0 a0 a1 R (n0 + 1) i1 =
 (sel (decide (i1 < (a0.length : Int)))
 (inb i1 a0.length = true ∧
 sel (decide ((at' .int a0 i1.toNat) = a1))
 (R (dB true))
 (cordonref_HasInt_I0 a0 a1 R n0 (w64 (i1 + 1))))
 (R (dB false))) := by kernel_rfl
theorem cordonref_HasInt_eq (a0 : List Int) (a1 : Int) (R : D → Prop) : fnD Tryz.prog Ev cordonref_HasInt_A Tryz.f53.results.toList (bodyOf Tryz.f53) [.sl .int a0, dI a1] R =
 (∃ n0, cordonref_HasInt_I0 a0 a1 R n0 0) := by kernel_rfl
theorem cordonref_HasInt_sat {r : D} (a0 : List Int) (a1 : Int) (h : (∀ d ∈ [.sl .int a0, dI a1], okD d) → fnD Tryz.prog Ev cordonref_HasInt_A Tryz.f53.results.toList (bodyOf Tryz.f53) [.sl .int a0, dI a1] fun d => d = r) : Sat Tryz.prog f_cordonref_HasInt [.sl .int a0, dI a1] r := by
  have h2 := sat_of (r := r) (args := [.sl .int a0, dI a1]) (A := cordonref_HasInt_A) (fn := Tryz.f53) (body := bodyOf Tryz.f53) (f := f_cordonref_HasInt) factsEv Tryz.func53 (by kernel_rfl) (by rw [Tryz.ntmps53]; rfl) (by rw [Tryz.ntmps53]; exact Nat.le_of_ble_eq_true rfl)
  with_reducible exact h2 h
/-! ### cordon/cordonref.SameInts -/
def cordonref_SameInts_A : Ann := { own := [], live := [(0, ([0, 1, 5], []))], n := 26, nils := [], pubs := [] }
def cordonref_SameInts_I0 (a0 : List Int) (a1 : List Int) (R : D → Prop) (n0 : Nat) (i1 : Int) : Prop := iter (den Tryz.prog Ev cordonref_SameInts_A (sub [1, 1, 0, 1, 0, 0] (bodyOf Tryz.f66)) 0) cordonref_SameInts_A (liveOf cordonref_SameInts_A 0) n0 ⟨[(0, .sl .int a0), (1, .sl .int a1), (5, dI i1)], []⟩ (blockK 0 (seqK Tryz.prog Ev cordonref_SameInts_A (sub [1, 1, 1] (bodyOf Tryz.f66)) 0 (endK Ev Tryz.f66.results.toList R)))
theorem cordonref_SameInts_I0_eq (a0 : List Int) (a1 : List Int) (R : D → Prop) (n0 : Nat) (i1 : Int) : cordonref_SameInts_I0 a0 a1 R (n0 + 1) i1 =
 (sel (decide (i1 < (a0.length : Int)))
 (inb i1 a0.length = true ∧
 inb i1 a1.length = true ∧
 sel (!decide ((at' .int a0 i1.toNat) = (at' .int a1 i1.toNat)))
 (R (dB false))
 (cordonref_SameInts_I0 a0 a1 R n0 (w64 (i1 + 1))))
 (R (dB true))) := by kernel_rfl
theorem cordonref_SameInts_eq (a0 : List Int) (a1 : List Int) (R : D → Prop) : fnD Tryz.prog Ev cordonref_SameInts_A Tryz.f66.results.toList (bodyOf Tryz.f66) [.sl .int a0, .sl .int a1] R =
 (sel (!decide ((a0.length : Int) = (a1.length : Int)))
 (R (dB false))
 (∃ n0, cordonref_SameInts_I0 a0 a1 R n0 0)) := by kernel_rfl
theorem cordonref_SameInts_sat {r : D} (a0 : List Int) (a1 : List Int) (h : (∀ d ∈ [.sl .int a0, .sl .int a1], okD d) → fnD Tryz.prog Ev cordonref_SameInts_A Tryz.f66.results.toList (bodyOf Tryz.f66) [.sl .int a0, .sl .int a1] fun d => d = r) : Sat Tryz.prog f_cordonref_SameInts [.sl .int a0, .sl .int a1] r := by
  have h2 := sat_of (r := r) (args := [.sl .int a0, .sl .int a1]) (A := cordonref_SameInts_A) (fn := Tryz.f66) (body := bodyOf Tryz.f66) (f := f_cordonref_SameInts) factsEv Tryz.func66 (by kernel_rfl) (by rw [Tryz.ntmps66]; rfl) (by rw [Tryz.ntmps66]; exact Nat.le_of_ble_eq_true rfl)
  with_reducible exact h2 h
end Go.Proofs.YtgnjdgafkjohaaaGreat
