/- What the functions of a package do, as equations of plain propositions: printed by a program that carries the code out on symbols. -/
import Derived.Test.YtgnjdgafkjohaaaGreatWEv
namespace Go.Proofs.YtgnjdgafkjohaaaGreat
open Go.RowKit
set_option linter.unusedVariables false
set_option maxRecDepth 100000
/-! ### cordon/cordonref.SameStore -/
def cordonref_SameStore_A : Ann := { own := [], live := [(0, ([0, 1, 5], []))], n := 27, nils := [], pubs := [] }
def cordonref_SameStore_I0 (a0 : List (List Int)) (a1 : List (List Int)) (R : D → Prop) (n0 : Nat) (i1 : Int) : Prop := iter (den Tryz.prog Ev cordonref_SameStore_A (sub [1, 1, 0, 1, 0, 0] (bodyOf Tryz.f21)) 0) cordonref_SameStore_A (liveOf cordonref_SameStore_A 0) n0 ⟨[(0, dS a0), (1, dS a1), (5, dI i1)], []⟩ (blockK 0 (seqK Tryz.prog Ev cordonref_SameStore_A (sub [1, 1, 1] (bodyOf Tryz.f21)) 0 (endK Ev Tryz.f21.results.toList R)))
theorem cordonref_SameStore_I0_eq (a0 : List (List Int)) (a1 : List (List Int)) (R : D → Prop) (n0 : Nat) (i1 : Int) : cordonref_SameStore_I0 a0 a1 R (n0 + 1) i1 =
 (sel (decide (i1 < (a0.length : Int)))
 (inb i1 a0.length = true ∧
 inb i1 a1.length = true ∧
 Call1 Tryz.prog f_cordonref_SameInts [.sl .int (at' (.list .int) a0 i1.toNat), .sl .int (at' (.list .int) a1 i1.toNat)] .bool fun c2 =>
 sel (!c2)
 (R (dB false))
 (cordonref_SameStore_I0 a0 a1 R n0 (w64 (i1 + 1))))
 (R (dB true))) := by kernel_rfl
theorem cordonref_SameStore_eq (a0 : List (List Int)) (a1 : List (List Int)) (R : D → Prop) : fnD Tryz.prog Ev cordonref_SameStore_A Tryz.f21.results.toList (bodyOf Tryz.f21) [dS a0, dS a1] R =
 (sel (!decide ((a0.length : Int) = (a1.length : Int)))
 (R (dB false))
 (∃ n0, cordonref_SameStore_I0 a0 a1 R n0 0)) := by kernel_rfl
theorem cordonref_SameStore_sat {r : D} (a0 : List (List Int)) (a1 : List (List Int)) (h : (∀ d ∈ [dS a0, dS a1], okD d) → fnD Tryz.prog Ev cordonref_SameStore_A Tryz.f21.results.toList (bodyOf Tryz.f21) [dS a0, dS a1] fun d => d = r) : Sat Tryz.prog f_cordonref_SameStore [dS a0, dS a1] r := by
  have h2 := sat_of (r := r) (args := [dS a0, dS a1]) (A := cordonref_SameStore_A) (fn := Tryz.f21) (body := bodyOf Tryz.f21) (f := f_cordonref_SameStore) factsEv Tryz.func21 (by kernel_rfl) (by rw [Tryz.ntmps21]; rfl) (by rw [Tryz.ntmps21]; exact Nat.le_of_ble_eq_true rfl)
  with_reducible exact h2 h
/-! ### cordon/cordonref.SameInts -/
def cordonref_SameInts_A : Ann := { own := [], live := [(0, ([0, 1, 5], []))], n := 26, nils := [], pubs := [] }
def cordonref_SameInts_I0 (a0 : List Int) (a1 : List Int) (R : D → Prop) (n0 : Nat) (i1 : Int) : Prop := iter (den Tryz.prog Ev cordonref_SameInts_A (sub [1, 1, 0, 1, 0, 0] (bodyOf Tryz.f66)) 0) cordonref_SameInts_A (liveOf cordonref_SameInts_A 0) n0 ⟨[(0, .sl .int a0), (1, .sl .int a1), (5, dI i1)], []⟩ (blockK 0 (seqK Tryz.prog Ev cordonref_SameInts_A (sub [1, 1, 1] (bodyOf Tryz.f66)) 0 (endK Ev Tryz.f66.results.toList R)))
theorem cordonref_SameInts_I0_eq (a0 : List Int) (a1 : List Int) (R : D → Prop) (n0 : Nat) (i1 : Int) : cordonref_SameInts_I0 a0 a1 R (n0 + 1) i1 =
 (sel (decide (i1 < (a0.length : Int)))
 (inb i1 a0.length = true ∧
 inb i1 a1.length = true ∧
 sel (!decide ((at' .int a0 i1.toNat) = (at' .int a1 i1.toNat)))
 (R (dB false))
 (cordonref_SameInts_I0 a0 a1 R n0 (w64 (i1 + 1))))
 (R (dB true))) := by kernel_rfl
theorem cordonref_SameInts_eq (a0 : List Int) (a1 : List Int) (R : D → Prop) : fnD Tryz.prog Ev cordonref_SameInts_A Tryz.f66.results.toList (bodyOf Tryz.f66) [.sl .int a0, .sl .int a1] R =
 (sel (!decide ((a0.length : Int) = (a1.length : Int)))
 (R (dB false))
 (∃ n0, cordonref_SameInts_I0 a0 a1 R n0 0)) := by kernel_rfl
theorem cordonref_SameInts_sat {r : D} (a0 : List Int) (a1 : List Int) (h : (∀ d ∈ [.sl .int a0, .sl .int a1], okD d) → fnD Tryz.prog Ev cordonref_SameInts_A Tryz.f66.results.toList (bodyOf Tryz.f66) [.sl .int a0, .sl .int a1] fun d => d = r) : Sat Tryz.prog f_cordonref_SameInts [.sl .int a0, .sl .int a1] r := by
  have h2 := sat_of (r := r) (args := [.sl .int a0, .sl .int a1]) (A := cordonref_SameInts_A) (fn := Tryz.f66) (body := bodyOf Tryz.f66) (f := f_cordonref_SameInts) factsEv Tryz.func66 (by kernel_rfl) (by rw [Tryz.ntmps66]; rfl) (by rw [Tryz.ntmps66]; exact Nat.le_of_ble_eq_true rfl)
  with_reducible exact h2 h
end Go.Proofs.YtgnjdgafkjohaaaGreat
