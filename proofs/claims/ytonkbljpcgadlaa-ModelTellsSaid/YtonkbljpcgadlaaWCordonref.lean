/- What the functions of a package do, as equations of plain propositions: printed by a program that carries the code out on symbols. -/
import Derived.Test.YtonkbljpcgadlaaWEv
namespace Go.Proofs.Ytonkbljpcgadlaa
open Go.RowKit
set_option linter.unusedVariables false
set_option maxRecDepth 100000
/-! ### cordon/cordonref.CheckModel -/
def cordonref_CheckModel_A : Ann := { own := [5], live := [(0, ([1, 3, 4], [])), (2, ([1, 3, 4, 5, 6], [5])), (4, ([1, 3, 7], []))], n := 114, nils := [], pubs := [] }
def cordonref_CheckModel_I2 (a0 : MdlD) (R : D → Prop) (n0 : Nat) (v1 : Int) (n2 : Nat) (v3 : Int) : Prop := iter (den Try.prog Ev cordonref_CheckModel_A (sub [1, 1, 1, 1, 0, 1, 0, 0, 1, 0, 0, 1, 1, 0, 1, 0, 0] (bodyOf Try.f23)) 2) cordonref_CheckModel_A (liveOf cordonref_CheckModel_A 2) n2 ⟨[(1, .iptr [.sl .var a0.vars, .sl .con a0.cons, .int .i64 a0.goal, .int .i64 a0.var] 0), (3, .int .i64 (a0.vars.length : Int)), (4, .int .i64 v1), (5, .ptr 5 0), (6, .int .i64 v3)], [(5, .cells [.str ((at' .var a0.vars v1.toNat).name), .int .i64 ((at' .var a0.vars v1.toNat).lo), .int .i64 ((at' .var a0.vars v1.toNat).hi)])]⟩ (blockK 2 (seqK Try.prog Ev cordonref_CheckModel_A (sub [1, 1, 1, 1, 0, 1, 0, 0, 1, 0, 0, 1, 1, 1] (bodyOf Try.f23)) 1 (blockK 1 (seqK Try.prog Ev cordonref_CheckModel_A (sub [1, 1, 1, 1, 0, 1, 0, 0, 1, 1] (bodyOf Try.f23)) 0 (iterK (den Try.prog Ev cordonref_CheckModel_A (sub [1, 1, 1, 1, 0, 1, 0, 0] (bodyOf Try.f23)) 0) cordonref_CheckModel_A (liveOf cordonref_CheckModel_A 0) n0 (blockK 0 (seqK Try.prog Ev cordonref_CheckModel_A (sub [1, 1, 1, 1, 1] (bodyOf Try.f23)) 0 (endK Ev Try.f23.results.toList R))))))))
def cordonref_CheckModel_I4 (a0 : MdlD) (R : D → Prop) (n4 : Nat) (v6 : Int) : Prop := iter (den Try.prog Ev cordonref_CheckModel_A (sub [1, 1, 1, 1, 1, 0, 1, 0, 0] (bodyOf Try.f23)) 4) cordonref_CheckModel_A (liveOf cordonref_CheckModel_A 4) n4 ⟨[(1, .iptr [.sl .var a0.vars, .sl .con a0.cons, .int .i64 a0.goal, .int .i64 a0.var] 0), (3, .int .i64 (a0.vars.length : Int)), (7, .int .i64 v6)], []⟩ (blockK 4 (seqK Try.prog Ev cordonref_CheckModel_A (sub [1, 1, 1, 1, 1, 1] (bodyOf Try.f23)) 0 (endK Ev Try.f23.results.toList R)))
def cordonref_CheckModel_I0 (a0 : MdlD) (R : D → Prop) (n0 : Nat) (v1 : Int) : Prop := iter (den Try.prog Ev cordonref_CheckModel_A (sub [1, 1, 1, 1, 0, 1, 0, 0] (bodyOf Try.f23)) 0) cordonref_CheckModel_A (liveOf cordonref_CheckModel_A 0) n0 ⟨[(1, .iptr [.sl .var a0.vars, .sl .con a0.cons, .int .i64 a0.goal, .int .i64 a0.var] 0), (3, .int .i64 (a0.vars.length : Int)), (4, .int .i64 v1)], []⟩ (blockK 0 (seqK Try.prog Ev cordonref_CheckModel_A (sub [1, 1, 1, 1, 1] (bodyOf Try.f23)) 0 (endK Ev Try.f23.results.toList R)))
theorem cordonref_CheckModel_I2_eq (a0 : MdlD) (R : D → Prop) (n0 : Nat) (v1 : Int) (n2 : Nat) (v3 : Int) : cordonref_CheckModel_I2 a0 R n0 v1 (n2 + 1) v3 =
 (sel (decide (v3 < v1))
 (inb v3 a0.vars.length = true ∧
 sel (decide (((at' .var a0.vars v3.toNat).name) = ((at' .var a0.vars v1.toNat).name)))
 (R (.int .i64 6))
 (cordonref_CheckModel_I2 a0 R n0 v1 n2 (w64 (v3 + 1))))
 (Call1 Try.prog f_cordonref_between [.int .i64 ((at' .var a0.vars v1.toNat).lo), .int .i64 (-50), .int .i64 50] .bool fun c4 =>
 sel (!c4)
 (R (.int .i64 3))
 (Call1 Try.prog f_cordonref_between [.int .i64 ((at' .var a0.vars v1.toNat).hi), .int .i64 (-50), .int .i64 50] .bool fun c5 =>
 sel (!c5)
 (R (.int .i64 3))
 (sel (decide (((at' .var a0.vars v1.toNat).hi) < ((at' .var a0.vars v1.toNat).lo)))
 (R (.int .i64 3))
 (sel (decide (6 < (w64 ((w64 (((at' .var a0.vars v1.toNat).hi) - ((at' .var a0.vars v1.toNat).lo))) + 1))))
 (R (.int .i64 2))
 (cordonref_CheckModel_I0 a0 R n0 (w64 (v1 + 1)))))))) := by kernel_rfl
theorem cordonref_CheckModel_I4_eq (a0 : MdlD) (R : D → Prop) (n4 : Nat) (v6 : Int) : cordonref_CheckModel_I4 a0 R (n4 + 1) v6 =
 (sel (decide (v6 < (a0.cons.length : Int)))
 (inb v6 a0.cons.length = true ∧
 Call1 Try.prog f_cordonref_checkCon [.agg [.sl .var a0.vars, .sl .con a0.cons, .int .i64 a0.goal, .int .i64 a0.var], .agg [.int .i64 ((at' .con a0.cons v6.toNat).kind), .sl .int ((at' .con a0.cons v6.toNat).vars), .sl .int ((at' .con a0.cons v6.toNat).consts), .int .i64 ((at' .con a0.cons v6.toNat).n), .sl (.list .int) ((at' .con a0.cons v6.toNat).rows), .sl .lit ((at' .con a0.cons v6.toNat).lits)]] .int fun c7 =>
 sel (!decide (c7 = 0))
 (R (.int .i64 c7))
 (cordonref_CheckModel_I4 a0 R n4 (w64 (v6 + 1))))
 (Call1 Try.prog f_cordonref_between [.int .i64 a0.goal, .int .i64 0, .int .i64 2] .bool fun c8 =>
 sel (!c8)
 (R (.int .i64 7))
 (sel (decide (a0.goal = 0))
 (sel (!decide (a0.var = 0))
 (R (.int .i64 1))
 (sel (!decide (a0.goal = 0))
 (Call1 Try.prog f_cordonref_between [.int .i64 a0.var, .int .i64 0, .int .i64 (w64 ((a0.vars.length : Int) - 1))] .bool fun c9 =>
 sel (!c9)
 (R (.int .i64 5))
 (R (.int .i64 0)))
 (R (.int .i64 0))))
 (sel (!decide (a0.goal = 0))
 (Call1 Try.prog f_cordonref_between [.int .i64 a0.var, .int .i64 0, .int .i64 (w64 ((a0.vars.length : Int) - 1))] .bool fun c10 =>
 sel (!c10)
 (R (.int .i64 5))
 (R (.int .i64 0)))
 (R (.int .i64 0)))))) := by kernel_rfl
theorem cordonref_CheckModel_I0_eq (a0 : MdlD) (R : D → Prop) (n0 : Nat) (v1 : Int) : cordonref_CheckModel_I0 a0 R (n0 + 1) v1 =
 (sel (decide (v1 < (a0.vars.length : Int)))
 (inb v1 a0.vars.length = true ∧
 Call1 Try.prog f_cordonref_IsName [.str ((at' .var a0.vars v1.toNat).name)] .bool fun c2 =>
 sel (!c2)
 (R (.int .i64 1))
 (∃ n2, cordonref_CheckModel_I2 a0 R n0 v1 n2 0))
 (∃ n4, cordonref_CheckModel_I4 a0 R n4 0)) := by kernel_rfl
theorem cordonref_CheckModel_eq (a0 : MdlD) (R : D → Prop) : fnD Try.prog Ev cordonref_CheckModel_A Try.f23.results.toList (bodyOf Try.f23) [.agg [.sl .var a0.vars, .sl .con a0.cons, .int .i64 a0.goal, .int .i64 a0.var]] R =
 (sel (decide ((a0.vars.length : Int) = 0))
 (R (.int .i64 1))
 (sel (decide (6 < (a0.vars.length : Int)))
 (R (.int .i64 2))
 (sel (decide (8 < (a0.cons.length : Int)))
 (R (.int .i64 2))
 (∃ n0, cordonref_CheckModel_I0 a0 R n0 0)))) := by kernel_rfl
theorem cordonref_CheckModel_sat {r : D} (a0 : MdlD) (h : (∀ d ∈ [.agg [.sl .var a0.vars, .sl .con a0.cons, .int .i64 a0.goal, .int .i64 a0.var]], okD d) → fnD Try.prog Ev cordonref_CheckModel_A Try.f23.results.toList (bodyOf Try.f23) [.agg [.sl .var a0.vars, .sl .con a0.cons, .int .i64 a0.goal, .int .i64 a0.var]] fun d => d = r) : Sat Try.prog f_cordonref_CheckModel [.agg [.sl .var a0.vars, .sl .con a0.cons, .int .i64 a0.goal, .int .i64 a0.var]] r := by
  have h2 := sat_of (r := r) (args := [.agg [.sl .var a0.vars, .sl .con a0.cons, .int .i64 a0.goal, .int .i64 a0.var]]) (A := cordonref_CheckModel_A) (fn := Try.f23) (body := bodyOf Try.f23) (f := f_cordonref_CheckModel) factsEv Try.func23 (by kernel_rfl) (by rw [Try.ntmps23]; rfl) (by rw [Try.ntmps23]; exact Nat.le_of_ble_eq_true rfl)
  with_reducible exact h2 h
/-! ### cordon/cordonref.CheckStore -/
def cordonref_CheckStore_A : Ann := { own := [], live := [(0, ([1, 2, 5], [])), (2, ([1, 2, 5, 6], [])), (4, ([1, 7], [])), (6, ([1, 7, 8], []))], n := 82, nils := [], pubs := [] }
def cordonref_CheckStore_I2 (a0 : MdlD) (a1 : List (List Int)) (R : D → Prop) (n0 : Nat) (v1 : Int) (n2 : Nat) (v2 : Int) : Prop := iter (den Try.prog Ev cordonref_CheckStore_A (sub [1, 1, 0, 1, 0, 0, 1, 0, 0, 1, 0, 0] (bodyOf Try.f25)) 2) cordonref_CheckStore_A (liveOf cordonref_CheckStore_A 2) n2 ⟨[(1, .sl (.list .int) a1), (2, .iptr [.sl .var a0.vars, .sl .con a0.cons, .int .i64 a0.goal, .int .i64 a0.var] 0), (5, .int .i64 v1), (6, .int .i64 v2)], []⟩ (blockK 2 (blockK 1 (seqK Try.prog Ev cordonref_CheckStore_A (sub [1, 1, 0, 1, 0, 0, 1, 1] (bodyOf Try.f25)) 0 (iterK (den Try.prog Ev cordonref_CheckStore_A (sub [1, 1, 0, 1, 0, 0] (bodyOf Try.f25)) 0) cordonref_CheckStore_A (liveOf cordonref_CheckStore_A 0) n0 (blockK 0 (seqK Try.prog Ev cordonref_CheckStore_A (sub [1, 1, 1] (bodyOf Try.f25)) 0 (endK Ev Try.f25.results.toList R)))))))
def cordonref_CheckStore_I6 (a1 : List (List Int)) (R : D → Prop) (n4 : Nat) (v4 : Int) (n6 : Nat) (v5 : Int) : Prop := iter (den Try.prog Ev cordonref_CheckStore_A (sub [1, 1, 1, 0, 1, 0, 0, 1, 0, 0, 1, 0, 0] (bodyOf Try.f25)) 6) cordonref_CheckStore_A (liveOf cordonref_CheckStore_A 6) n6 ⟨[(1, .sl (.list .int) a1), (7, .int .i64 v4), (8, .int .i64 v5)], []⟩ (blockK 6 (blockK 5 (seqK Try.prog Ev cordonref_CheckStore_A (sub [1, 1, 1, 0, 1, 0, 0, 1, 1] (bodyOf Try.f25)) 4 (iterK (den Try.prog Ev cordonref_CheckStore_A (sub [1, 1, 1, 0, 1, 0, 0] (bodyOf Try.f25)) 4) cordonref_CheckStore_A (liveOf cordonref_CheckStore_A 4) n4 (blockK 4 (seqK Try.prog Ev cordonref_CheckStore_A (sub [1, 1, 1, 1] (bodyOf Try.f25)) 0 (endK Ev Try.f25.results.toList R)))))))
def cordonref_CheckStore_I4 (a1 : List (List Int)) (R : D → Prop) (n4 : Nat) (v4 : Int) : Prop := iter (den Try.prog Ev cordonref_CheckStore_A (sub [1, 1, 1, 0, 1, 0, 0] (bodyOf Try.f25)) 4) cordonref_CheckStore_A (liveOf cordonref_CheckStore_A 4) n4 ⟨[(1, .sl (.list .int) a1), (7, .int .i64 v4)], []⟩ (blockK 4 (seqK Try.prog Ev cordonref_CheckStore_A (sub [1, 1, 1, 1] (bodyOf Try.f25)) 0 (endK Ev Try.f25.results.toList R)))
def cordonref_CheckStore_I0 (a0 : MdlD) (a1 : List (List Int)) (R : D → Prop) (n0 : Nat) (v1 : Int) : Prop := iter (den Try.prog Ev cordonref_CheckStore_A (sub [1, 1, 0, 1, 0, 0] (bodyOf Try.f25)) 0) cordonref_CheckStore_A (liveOf cordonref_CheckStore_A 0) n0 ⟨[(1, .sl (.list .int) a1), (2, .iptr [.sl .var a0.vars, .sl .con a0.cons, .int .i64 a0.goal, .int .i64 a0.var] 0), (5, .int .i64 v1)], []⟩ (blockK 0 (seqK Try.prog Ev cordonref_CheckStore_A (sub [1, 1, 1] (bodyOf Try.f25)) 0 (endK Ev Try.f25.results.toList R)))
theorem cordonref_CheckStore_I2_eq (a0 : MdlD) (a1 : List (List Int)) (R : D → Prop) (n0 : Nat) (v1 : Int) (n2 : Nat) (v2 : Int) : cordonref_CheckStore_I2 a0 a1 R n0 v1 (n2 + 1) v2 =
 (inb v1 a1.length = true ∧
 sel (decide (v2 < ((at' (.list .int) a1 v1.toNat).length : Int)))
 (inb v1 a1.length = true ∧
 inb v2 (at' (.list .int) a1 v1.toNat).length = true ∧
 inb v1 a0.vars.length = true ∧
 inb v1 a0.vars.length = true ∧
 Call1 Try.prog f_cordonref_between [.int .i64 (at' .int (at' (.list .int) a1 v1.toNat) v2.toNat), .int .i64 ((at' .var a0.vars v1.toNat).lo), .int .i64 ((at' .var a0.vars v1.toNat).hi)] .bool fun c3 =>
 sel (!c3)
 (R (.int .i64 3))
 (cordonref_CheckStore_I2 a0 a1 R n0 v1 n2 (w64 (v2 + 1))))
 (cordonref_CheckStore_I0 a0 a1 R n0 (w64 (v1 + 1)))) := by kernel_rfl
theorem cordonref_CheckStore_I6_eq (a1 : List (List Int)) (R : D → Prop) (n4 : Nat) (v4 : Int) (n6 : Nat) (v5 : Int) : cordonref_CheckStore_I6 a1 R n4 v4 (n6 + 1) v5 =
 (inb v4 a1.length = true ∧
 sel (decide (v5 < ((at' (.list .int) a1 v4.toNat).length : Int)))
 (inb v4 a1.length = true ∧
 inb v5 (at' (.list .int) a1 v4.toNat).length = true ∧
 inb v4 a1.length = true ∧
 inb (w64 (v5 - 1)) (at' (.list .int) a1 v4.toNat).length = true ∧
 sel (decide ((at' .int (at' (.list .int) a1 v4.toNat) v5.toNat) ≤ (at' .int (at' (.list .int) a1 v4.toNat) ((w64 (v5 - 1)).toNat))))
 (R (.int .i64 4))
 (cordonref_CheckStore_I6 a1 R n4 v4 n6 (w64 (v5 + 1))))
 (cordonref_CheckStore_I4 a1 R n4 (w64 (v4 + 1)))) := by kernel_rfl
theorem cordonref_CheckStore_I4_eq (a1 : List (List Int)) (R : D → Prop) (n4 : Nat) (v4 : Int) : cordonref_CheckStore_I4 a1 R (n4 + 1) v4 =
 (sel (decide (v4 < (a1.length : Int)))
 (∃ n6, cordonref_CheckStore_I6 a1 R n4 v4 n6 1)
 (R (.int .i64 0))) := by kernel_rfl
theorem cordonref_CheckStore_I0_eq (a0 : MdlD) (a1 : List (List Int)) (R : D → Prop) (n0 : Nat) (v1 : Int) : cordonref_CheckStore_I0 a0 a1 R (n0 + 1) v1 =
 (sel (decide (v1 < (a1.length : Int)))
 (∃ n2, cordonref_CheckStore_I2 a0 a1 R n0 v1 n2 0)
 (∃ n4, cordonref_CheckStore_I4 a1 R n4 0)) := by kernel_rfl
theorem cordonref_CheckStore_eq (a0 : MdlD) (a1 : List (List Int)) (R : D → Prop) : fnD Try.prog Ev cordonref_CheckStore_A Try.f25.results.toList (bodyOf Try.f25) [.agg [.sl .var a0.vars, .sl .con a0.cons, .int .i64 a0.goal, .int .i64 a0.var], .sl (.list .int) a1] R =
 (sel (!decide ((a1.length : Int) = (a0.vars.length : Int)))
 (R (.int .i64 1))
 (∃ n0, cordonref_CheckStore_I0 a0 a1 R n0 0)) := by kernel_rfl
theorem cordonref_CheckStore_sat {r : D} (a0 : MdlD) (a1 : List (List Int)) (h : (∀ d ∈ [.agg [.sl .var a0.vars, .sl .con a0.cons, .int .i64 a0.goal, .int .i64 a0.var], .sl (.list .int) a1], okD d) → fnD Try.prog Ev cordonref_CheckStore_A Try.f25.results.toList (bodyOf Try.f25) [.agg [.sl .var a0.vars, .sl .con a0.cons, .int .i64 a0.goal, .int .i64 a0.var], .sl (.list .int) a1] fun d => d = r) : Sat Try.prog f_cordonref_CheckStore [.agg [.sl .var a0.vars, .sl .con a0.cons, .int .i64 a0.goal, .int .i64 a0.var], .sl (.list .int) a1] r := by
  have h2 := sat_of (r := r) (args := [.agg [.sl .var a0.vars, .sl .con a0.cons, .int .i64 a0.goal, .int .i64 a0.var], .sl (.list .int) a1]) (A := cordonref_CheckStore_A) (fn := Try.f25) (body := bodyOf Try.f25) (f := f_cordonref_CheckStore) factsEv Try.func25 (by kernel_rfl) (by rw [Try.ntmps25]; rfl) (by rw [Try.ntmps25]; exact Nat.le_of_ble_eq_true rfl)
  with_reducible exact h2 h
/-! ### cordon/cordonref.BeginOf -/
def cordonref_BeginOf_A : Ann := { own := [3, 5, 33, 37], live := [(0, ([1, 3, 4], [3])), (2, ([1, 3, 4, 5, 6], [3, 5]))], n := 39, nils := [], pubs := [] }
def cordonref_BeginOf_I2 (a0 : MdlD) (R : D → Prop) (n0 : Nat) (i1 : Int) (n2 : Nat) (n3 : Int) (out4 : List (List Int)) (l5 : List Int) : Prop := iter (den Try.prog Ev cordonref_BeginOf_A (sub [1, 1, 0, 1, 0, 0, 1, 0, 0, 1, 0, 1, 0, 0] (bodyOf Try.f26)) 2) cordonref_BeginOf_A (liveOf cordonref_BeginOf_A 2) n2 ⟨[(1, .iptr [.sl .var a0.vars, .sl .con a0.cons, .int .i64 a0.goal, .int .i64 a0.var] 0), (3, .own 3), (4, .int .i64 i1), (5, .own 5), (6, .int .i64 n3)], [(3, .row 72 (.list .int) out4), (5, .row 3 .int l5)]⟩ (blockK 2 (seqK Try.prog Ev cordonref_BeginOf_A (sub [1, 1, 0, 1, 0, 0, 1, 0, 0, 1, 1] (bodyOf Try.f26)) 1 (blockK 1 (seqK Try.prog Ev cordonref_BeginOf_A (sub [1, 1, 0, 1, 0, 0, 1, 1] (bodyOf Try.f26)) 0 (iterK (den Try.prog Ev cordonref_BeginOf_A (sub [1, 1, 0, 1, 0, 0] (bodyOf Try.f26)) 0) cordonref_BeginOf_A (liveOf cordonref_BeginOf_A 0) n0 (blockK 0 (seqK Try.prog Ev cordonref_BeginOf_A (sub [1, 1, 1] (bodyOf Try.f26)) 0 (endK Ev Try.f26.results.toList R))))))))
def cordonref_BeginOf_I0 (a0 : MdlD) (R : D → Prop) (n0 : Nat) (i1 : Int) (out2 : List (List Int)) : Prop := iter (den Try.prog Ev cordonref_BeginOf_A (sub [1, 1, 0, 1, 0, 0] (bodyOf Try.f26)) 0) cordonref_BeginOf_A (liveOf cordonref_BeginOf_A 0) n0 ⟨[(1, .iptr [.sl .var a0.vars, .sl .con a0.cons, .int .i64 a0.goal, .int .i64 a0.var] 0), (3, .own 3), (4, .int .i64 i1)], [(3, .row 72 (.list .int) out2)]⟩ (blockK 0 (seqK Try.prog Ev cordonref_BeginOf_A (sub [1, 1, 1] (bodyOf Try.f26)) 0 (endK Ev Try.f26.results.toList R)))
theorem cordonref_BeginOf_I2_eq (a0 : MdlD) (R : D → Prop) (n0 : Nat) (i1 : Int) (n2 : Nat) (n3 : Int) (out4 : List (List Int)) (l5 : List Int) : cordonref_BeginOf_I2 a0 R n0 i1 (n2 + 1) n3 out4 l5 =
 (inb i1 a0.vars.length = true ∧
 sel (decide (n3 ≤ ((at' .var a0.vars i1.toNat).hi)))
 (room .int (l5.length + ([n3]).length) = true ∧
 cordonref_BeginOf_I2 a0 R n0 i1 n2 (w64 (n3 + 1)) out4 (l5 ++ ([n3])))
 (room (.list .int) (out4.length + ([l5]).length) = true ∧
 cordonref_BeginOf_I0 a0 R n0 (w64 (i1 + 1)) (out4 ++ ([l5])))) := by kernel_rfl
theorem cordonref_BeginOf_I0_eq (a0 : MdlD) (R : D → Prop) (n0 : Nat) (i1 : Int) (out2 : List (List Int)) : cordonref_BeginOf_I0 a0 R (n0 + 1) i1 out2 =
 (sel (decide (i1 < (a0.vars.length : Int)))
 (inb i1 a0.vars.length = true ∧
 ∃ n2, cordonref_BeginOf_I2 a0 R n0 i1 n2 ((at' .var a0.vars i1.toNat).lo) out2 ([] : List Int))
 (R (.sl (.list .int) out2))) := by kernel_rfl
theorem cordonref_BeginOf_eq (a0 : MdlD) (R : D → Prop) : fnD Try.prog Ev cordonref_BeginOf_A Try.f26.results.toList (bodyOf Try.f26) [.agg [.sl .var a0.vars, .sl .con a0.cons, .int .i64 a0.goal, .int .i64 a0.var]] R =
 (∃ n0, cordonref_BeginOf_I0 a0 R n0 0 ([] : List (List Int))) := by kernel_rfl
theorem cordonref_BeginOf_sat {r : D} (a0 : MdlD) (h : (∀ d ∈ [.agg [.sl .var a0.vars, .sl .con a0.cons, .int .i64 a0.goal, .int .i64 a0.var]], okD d) → fnD Try.prog Ev cordonref_BeginOf_A Try.f26.results.toList (bodyOf Try.f26) [.agg [.sl .var a0.vars, .sl .con a0.cons, .int .i64 a0.goal, .int .i64 a0.var]] fun d => d = r) : Sat Try.prog f_cordonref_BeginOf [.agg [.sl .var a0.vars, .sl .con a0.cons, .int .i64 a0.goal, .int .i64 a0.var]] r := by
  have h2 := sat_of (r := r) (args := [.agg [.sl .var a0.vars, .sl .con a0.cons, .int .i64 a0.goal, .int .i64 a0.var]]) (A := cordonref_BeginOf_A) (fn := Try.f26) (body := bodyOf Try.f26) (f := f_cordonref_BeginOf) factsEv Try.func26 (by kernel_rfl) (by rw [Try.ntmps26]; rfl) (by rw [Try.ntmps26]; exact Nat.le_of_ble_eq_true rfl)
  with_reducible exact h2 h
/-! ### cordon/cordonref.HasFailed -/
def cordonref_HasFailed_A : Ann := { own := [], live := [(0, ([0, 3], []))], n := 16, nils := [], pubs := [] }
def cordonref_HasFailed_I0 (a0 : List (List Int)) (R : D → Prop) (n0 : Nat) (i1 : Int) : Prop := iter (den Try.prog Ev cordonref_HasFailed_A (sub [1, 0, 1, 0, 0] (bodyOf Try.f27)) 0) cordonref_HasFailed_A (liveOf cordonref_HasFailed_A 0) n0 ⟨[(0, .sl (.list .int) a0), (3, .int .i64 i1)], []⟩ (blockK 0 (seqK Try.prog Ev cordonref_HasFailed_A (sub [1, 1] (bodyOf Try.f27)) 0 (endK Ev Try.f27.results.toList R)))
theorem cordonref_HasFailed_I0_eq (a0 : List (List Int)) (R : D → Prop) (n0 : Nat) (i1 : Int) : cordonref_HasFailed_I0 a0 R (n0 + 1) i1 =
 (sel (decide (i1 < (a0.length : Int)))
 (inb i1 a0.length = true ∧
 sel (decide (((at' (.list .int) a0 i1.toNat).length : Int) = 0))
 (R (.bool true))
 (cordonref_HasFailed_I0 a0 R n0 (w64 (i1 + 1))))
 (R (.bool false))) := by kernel_rfl
theorem cordonref_HasFailed_eq (a0 : List (List Int)) (R : D → Prop) : fnD Try.prog Ev cordonref_HasFailed_A Try.f27.results.toList (bodyOf Try.f27) [.sl (.list .int) a0] R =
 (∃ n0, cordonref_HasFailed_I0 a0 R n0 0) := by kernel_rfl
theorem cordonref_HasFailed_sat {r : D} (a0 : List (List Int)) (h : (∀ d ∈ [.sl (.list .int) a0], okD d) → fnD Try.prog Ev cordonref_HasFailed_A Try.f27.results.toList (bodyOf Try.f27) [.sl (.list .int) a0] fun d => d = r) : Sat Try.prog f_cordonref_HasFailed [.sl (.list .int) a0] r := by
  have h2 := sat_of (r := r) (args := [.sl (.list .int) a0]) (A := cordonref_HasFailed_A) (fn := Try.f27) (body := bodyOf Try.f27) (f := f_cordonref_HasFailed) factsEv Try.func27 (by kernel_rfl) (by rw [Try.ntmps27]; rfl) (by rw [Try.ntmps27]; exact Nat.le_of_ble_eq_true rfl)
  with_reducible exact h2 h
/-! ### cordon/cordonref.MeetOf -/
def cordonref_MeetOf_A : Ann := { own := [5, 7, 45, 49], live := [(0, ([0, 1, 5, 6], [5])), (2, ([0, 1, 5, 6, 7, 8], [5, 7]))], n := 51, nils := [], pubs := [] }
def cordonref_MeetOf_I2 (a0 : List (List Int)) (a1 : List (List Int)) (R : D → Prop) (n0 : Nat) (i1 : Int) (n2 : Nat) (k3 : Int) (out4 : List (List Int)) (l5 : List Int) : Prop := iter (den Try.prog Ev cordonref_MeetOf_A (sub [1, 1, 0, 1, 0, 0, 1, 0, 0, 1, 0, 1, 0, 0] (bodyOf Try.f28)) 2) cordonref_MeetOf_A (liveOf cordonref_MeetOf_A 2) n2 ⟨[(0, .sl (.list .int) a0), (1, .sl (.list .int) a1), (5, .own 5), (6, .int .i64 i1), (7, .own 7), (8, .int .i64 k3)], [(5, .row 72 (.list .int) out4), (7, .row 3 .int l5)]⟩ (blockK 2 (seqK Try.prog Ev cordonref_MeetOf_A (sub [1, 1, 0, 1, 0, 0, 1, 0, 0, 1, 1] (bodyOf Try.f28)) 1 (blockK 1 (seqK Try.prog Ev cordonref_MeetOf_A (sub [1, 1, 0, 1, 0, 0, 1, 1] (bodyOf Try.f28)) 0 (iterK (den Try.prog Ev cordonref_MeetOf_A (sub [1, 1, 0, 1, 0, 0] (bodyOf Try.f28)) 0) cordonref_MeetOf_A (liveOf cordonref_MeetOf_A 0) n0 (blockK 0 (seqK Try.prog Ev cordonref_MeetOf_A (sub [1, 1, 1] (bodyOf Try.f28)) 0 (endK Ev Try.f28.results.toList R))))))))
def cordonref_MeetOf_I0 (a0 : List (List Int)) (a1 : List (List Int)) (R : D → Prop) (n0 : Nat) (i1 : Int) (out2 : List (List Int)) : Prop := iter (den Try.prog Ev cordonref_MeetOf_A (sub [1, 1, 0, 1, 0, 0] (bodyOf Try.f28)) 0) cordonref_MeetOf_A (liveOf cordonref_MeetOf_A 0) n0 ⟨[(0, .sl (.list .int) a0), (1, .sl (.list .int) a1), (5, .own 5), (6, .int .i64 i1)], [(5, .row 72 (.list .int) out2)]⟩ (blockK 0 (seqK Try.prog Ev cordonref_MeetOf_A (sub [1, 1, 1] (bodyOf Try.f28)) 0 (endK Ev Try.f28.results.toList R)))
theorem cordonref_MeetOf_I2_eq (a0 : List (List Int)) (a1 : List (List Int)) (R : D → Prop) (n0 : Nat) (i1 : Int) (n2 : Nat) (k3 : Int) (out4 : List (List Int)) (l5 : List Int) : cordonref_MeetOf_I2 a0 a1 R n0 i1 (n2 + 1) k3 out4 l5 =
 (inb i1 a0.length = true ∧
 sel (decide (k3 < ((at' (.list .int) a0 i1.toNat).length : Int)))
 (inb i1 a1.length = true ∧
 inb i1 a0.length = true ∧
 inb k3 (at' (.list .int) a0 i1.toNat).length = true ∧
 Call1 Try.prog f_cordonref_HasInt [.sl .int (at' (.list .int) a1 i1.toNat), .int .i64 (at' .int (at' (.list .int) a0 i1.toNat) k3.toNat)] .bool fun c6 =>
 sel c6
 (inb i1 a0.length = true ∧
 inb k3 (at' (.list .int) a0 i1.toNat).length = true ∧
 room .int (l5.length + ([at' .int (at' (.list .int) a0 i1.toNat) k3.toNat]).length) = true ∧
 cordonref_MeetOf_I2 a0 a1 R n0 i1 n2 (w64 (k3 + 1)) out4 (l5 ++ ([at' .int (at' (.list .int) a0 i1.toNat) k3.toNat])))
 (cordonref_MeetOf_I2 a0 a1 R n0 i1 n2 (w64 (k3 + 1)) out4 l5))
 (room (.list .int) (out4.length + ([l5]).length) = true ∧
 cordonref_MeetOf_I0 a0 a1 R n0 (w64 (i1 + 1)) (out4 ++ ([l5])))) := by kernel_rfl
theorem cordonref_MeetOf_I0_eq (a0 : List (List Int)) (a1 : List (List Int)) (R : D → Prop) (n0 : Nat) (i1 : Int) (out2 : List (List Int)) : cordonref_MeetOf_I0 a0 a1 R (n0 + 1) i1 out2 =
 (sel (decide (i1 < (a0.length : Int)))
 (∃ n2, cordonref_MeetOf_I2 a0 a1 R n0 i1 n2 0 out2 ([] : List Int))
 (R (.sl (.list .int) out2))) := by kernel_rfl
theorem cordonref_MeetOf_eq (a0 : List (List Int)) (a1 : List (List Int)) (R : D → Prop) : fnD Try.prog Ev cordonref_MeetOf_A Try.f28.results.toList (bodyOf Try.f28) [.sl (.list .int) a0, .sl (.list .int) a1] R =
 (∃ n0, cordonref_MeetOf_I0 a0 a1 R n0 0 ([] : List (List Int))) := by kernel_rfl
theorem cordonref_MeetOf_sat {r : D} (a0 : List (List Int)) (a1 : List (List Int)) (h : (∀ d ∈ [.sl (.list .int) a0, .sl (.list .int) a1], okD d) → fnD Try.prog Ev cordonref_MeetOf_A Try.f28.results.toList (bodyOf Try.f28) [.sl (.list .int) a0, .sl (.list .int) a1] fun d => d = r) : Sat Try.prog f_cordonref_MeetOf [.sl (.list .int) a0, .sl (.list .int) a1] r := by
  have h2 := sat_of (r := r) (args := [.sl (.list .int) a0, .sl (.list .int) a1]) (A := cordonref_MeetOf_A) (fn := Try.f28) (body := bodyOf Try.f28) (f := f_cordonref_MeetOf) factsEv Try.func28 (by kernel_rfl) (by rw [Try.ntmps28]; rfl) (by rw [Try.ntmps28]; exact Nat.le_of_ble_eq_true rfl)
  with_reducible exact h2 h
/-! ### cordon/cordonref.IsWithin -/
def cordonref_IsWithin_A : Ann := { own := [], live := [], n := 10, nils := [], pubs := [] }
theorem cordonref_IsWithin_eq (a0 : List (List Int)) (a1 : List (List Int)) (R : D → Prop) : fnD Try.prog Ev cordonref_IsWithin_A Try.f29.results.toList (bodyOf Try.f29) [.sl (.list .int) a0, .sl (.list .int) a1] R =
 (Call1 Try.prog f_cordonref_MeetOf [.sl (.list .int) a0, .sl (.list .int) a1] (.list (.list .int)) fun c1 =>
 Call1 Try.prog f_cordonref_SameStore [.sl (.list .int) c1, .sl (.list .int) a0] .bool fun c2 =>
 R (.bool c2)) := by kernel_rfl
theorem cordonref_IsWithin_sat {r : D} (a0 : List (List Int)) (a1 : List (List Int)) (h : (∀ d ∈ [.sl (.list .int) a0, .sl (.list .int) a1], okD d) → fnD Try.prog Ev cordonref_IsWithin_A Try.f29.results.toList (bodyOf Try.f29) [.sl (.list .int) a0, .sl (.list .int) a1] fun d => d = r) : Sat Try.prog f_cordonref_IsWithin [.sl (.list .int) a0, .sl (.list .int) a1] r := by
  have h2 := sat_of (r := r) (args := [.sl (.list .int) a0, .sl (.list .int) a1]) (A := cordonref_IsWithin_A) (fn := Try.f29) (body := bodyOf Try.f29) (f := f_cordonref_IsWithin) factsEv Try.func29 (by kernel_rfl) (by rw [Try.ntmps29]; rfl) (by rw [Try.ntmps29]; exact Nat.le_of_ble_eq_true rfl)
  with_reducible exact h2 h
/-! ### cordon/cordonref.CheckLit -/
def cordonref_CheckLit_A : Ann := { own := [], live := [], n := 21, nils := [], pubs := [] }
theorem cordonref_CheckLit_eq (a0 : MdlD) (a1 : LitD) (R : D → Prop) : fnD Try.prog Ev cordonref_CheckLit_A Try.f37.results.toList (bodyOf Try.f37) [.agg [.sl .var a0.vars, .sl .con a0.cons, .int .i64 a0.goal, .int .i64 a0.var], .agg [.int .i64 a1.var, .int .i64 a1.op, .int .i64 a1.n]] R =
 (Call1 Try.prog f_cordonref_between [.int .i64 a1.var, .int .i64 0, .int .i64 (w64 ((a0.vars.length : Int) - 1))] .bool fun c1 =>
 sel (!c1)
 (R (.int .i64 5))
 (Call1 Try.prog f_cordonref_between [.int .i64 a1.op, .int .i64 1, .int .i64 4] .bool fun c2 =>
 sel (!c2)
 (R (.int .i64 7))
 (Call1 Try.prog f_cordonref_inConst [.int .i64 a1.n] .bool fun c3 =>
 sel (!c3)
 (R (.int .i64 3))
 (R (.int .i64 0))))) := by kernel_rfl
theorem cordonref_CheckLit_sat {r : D} (a0 : MdlD) (a1 : LitD) (h : (∀ d ∈ [.agg [.sl .var a0.vars, .sl .con a0.cons, .int .i64 a0.goal, .int .i64 a0.var], .agg [.int .i64 a1.var, .int .i64 a1.op, .int .i64 a1.n]], okD d) → fnD Try.prog Ev cordonref_CheckLit_A Try.f37.results.toList (bodyOf Try.f37) [.agg [.sl .var a0.vars, .sl .con a0.cons, .int .i64 a0.goal, .int .i64 a0.var], .agg [.int .i64 a1.var, .int .i64 a1.op, .int .i64 a1.n]] fun d => d = r) : Sat Try.prog f_cordonref_CheckLit [.agg [.sl .var a0.vars, .sl .con a0.cons, .int .i64 a0.goal, .int .i64 a0.var], .agg [.int .i64 a1.var, .int .i64 a1.op, .int .i64 a1.n]] r := by
  have h2 := sat_of (r := r) (args := [.agg [.sl .var a0.vars, .sl .con a0.cons, .int .i64 a0.goal, .int .i64 a0.var], .agg [.int .i64 a1.var, .int .i64 a1.op, .int .i64 a1.n]]) (A := cordonref_CheckLit_A) (fn := Try.f37) (body := bodyOf Try.f37) (f := f_cordonref_CheckLit) factsEv Try.func37 (by kernel_rfl) (by rw [Try.ntmps37]; rfl) (by rw [Try.ntmps37]; exact Nat.le_of_ble_eq_true rfl)
  with_reducible exact h2 h
/-! ### cordon/cordonref.OppositeOf -/
def cordonref_OppositeOf_A : Ann := { own := [1, 2], live := [], n := 24, nils := [], pubs := [] }
theorem cordonref_OppositeOf_eq (a0 : LitD) (R : D → Prop) : fnD Try.prog Ev cordonref_OppositeOf_A Try.f38.results.toList (bodyOf Try.f38) [.agg [.int .i64 a0.var, .int .i64 a0.op, .int .i64 a0.n]] R =
 (inb a0.op ([0, 2, 1, 4, 3]).length = true ∧
 sel (decide ((at' .int ([0, 2, 1, 4, 3]) a0.op.toNat) = 2))
 (R (.agg [.int .i64 a0.var, .int .i64 (at' .int ([0, 2, 1, 4, 3]) a0.op.toNat), .int .i64 (w64 (a0.n + 1))]))
 (sel (decide ((at' .int ([0, 2, 1, 4, 3]) a0.op.toNat) = 1))
 (R (.agg [.int .i64 a0.var, .int .i64 (at' .int ([0, 2, 1, 4, 3]) a0.op.toNat), .int .i64 (w64 (a0.n - 1))]))
 (R (.agg [.int .i64 a0.var, .int .i64 (at' .int ([0, 2, 1, 4, 3]) a0.op.toNat), .int .i64 a0.n])))) := by kernel_rfl
theorem cordonref_OppositeOf_sat {r : D} (a0 : LitD) (h : (∀ d ∈ [.agg [.int .i64 a0.var, .int .i64 a0.op, .int .i64 a0.n]], okD d) → fnD Try.prog Ev cordonref_OppositeOf_A Try.f38.results.toList (bodyOf Try.f38) [.agg [.int .i64 a0.var, .int .i64 a0.op, .int .i64 a0.n]] fun d => d = r) : Sat Try.prog f_cordonref_OppositeOf [.agg [.int .i64 a0.var, .int .i64 a0.op, .int .i64 a0.n]] r := by
  have h2 := sat_of (r := r) (args := [.agg [.int .i64 a0.var, .int .i64 a0.op, .int .i64 a0.n]]) (A := cordonref_OppositeOf_A) (fn := Try.f38) (body := bodyOf Try.f38) (f := f_cordonref_OppositeOf) factsEv Try.func38 (by kernel_rfl) (by rw [Try.ntmps38]; rfl) (by rw [Try.ntmps38]; exact Nat.le_of_ble_eq_true rfl)
  with_reducible exact h2 h
/-! ### cordon/cordonref.ToldOf -/
def cordonref_ToldOf_A : Ann := { own := [], live := [(0, ([0, 3, 5, 6, 7], []))], n := 35, nils := [], pubs := [] }
def cordonref_ToldOf_I0 (a0 : List (List Int)) (a1 : LitD) (R : D → Prop) (n0 : Nat) (yes1 : Bool) (no2 : Bool) (k3 : Int) : Prop := iter (den Try.prog Ev cordonref_ToldOf_A (sub [1, 1, 0, 1, 0, 0] (bodyOf Try.f39)) 0) cordonref_ToldOf_A (liveOf cordonref_ToldOf_A 0) n0 ⟨[(0, .sl (.list .int) a0), (3, .iptr [.int .i64 a1.var, .int .i64 a1.op, .int .i64 a1.n] 0), (5, .bool yes1), (6, .bool no2), (7, .int .i64 k3)], []⟩ (blockK 0 (seqK Try.prog Ev cordonref_ToldOf_A (sub [1, 1, 1] (bodyOf Try.f39)) 0 (endK Ev Try.f39.results.toList R)))
theorem cordonref_ToldOf_I0_eq (a0 : List (List Int)) (a1 : LitD) (R : D → Prop) (n0 : Nat) (yes1 : Bool) (no2 : Bool) (k3 : Int) : cordonref_ToldOf_I0 a0 a1 R (n0 + 1) yes1 no2 k3 =
 (inb a1.var a0.length = true ∧
 sel (decide (k3 < ((at' (.list .int) a0 a1.var.toNat).length : Int)))
 (inb a1.var a0.length = true ∧
 inb k3 (at' (.list .int) a0 a1.var.toNat).length = true ∧
 Call1 Try.prog f_cordonref_LitHolds [.agg [.int .i64 a1.var, .int .i64 a1.op, .int .i64 a1.n], .int .i64 (at' .int (at' (.list .int) a0 a1.var.toNat) k3.toNat)] .bool fun c4 =>
 sel c4
 (cordonref_ToldOf_I0 a0 a1 R n0 true no2 (w64 (k3 + 1)))
 (cordonref_ToldOf_I0 a0 a1 R n0 yes1 true (w64 (k3 + 1))))
 (sel yes1
 (sel (!no2)
 (R (.int .i64 1))
 (sel (!yes1)
 (R (.int .i64 (-1)))
 (R (.int .i64 0))))
 (sel (!yes1)
 (R (.int .i64 (-1)))
 (R (.int .i64 0))))) := by kernel_rfl
theorem cordonref_ToldOf_eq (a0 : List (List Int)) (a1 : LitD) (R : D → Prop) : fnD Try.prog Ev cordonref_ToldOf_A Try.f39.results.toList (bodyOf Try.f39) [.sl (.list .int) a0, .agg [.int .i64 a1.var, .int .i64 a1.op, .int .i64 a1.n]] R =
 (∃ n0, cordonref_ToldOf_I0 a0 a1 R n0 false false 0) := by kernel_rfl
theorem cordonref_ToldOf_sat {r : D} (a0 : List (List Int)) (a1 : LitD) (h : (∀ d ∈ [.sl (.list .int) a0, .agg [.int .i64 a1.var, .int .i64 a1.op, .int .i64 a1.n]], okD d) → fnD Try.prog Ev cordonref_ToldOf_A Try.f39.results.toList (bodyOf Try.f39) [.sl (.list .int) a0, .agg [.int .i64 a1.var, .int .i64 a1.op, .int .i64 a1.n]] fun d => d = r) : Sat Try.prog f_cordonref_ToldOf [.sl (.list .int) a0, .agg [.int .i64 a1.var, .int .i64 a1.op, .int .i64 a1.n]] r := by
  have h2 := sat_of (r := r) (args := [.sl (.list .int) a0, .agg [.int .i64 a1.var, .int .i64 a1.op, .int .i64 a1.n]]) (A := cordonref_ToldOf_A) (fn := Try.f39) (body := bodyOf Try.f39) (f := f_cordonref_ToldOf) factsEv Try.func39 (by kernel_rfl) (by rw [Try.ntmps39]; rfl) (by rw [Try.ntmps39]; exact Nat.le_of_ble_eq_true rfl)
  with_reducible exact h2 h
/-! ### cordon/cordonref.PutOf -/
def cordonref_PutOf_A : Ann := { own := [5, 7, 48, 52], live := [(0, ([0, 3, 5, 6], [5])), (2, ([0, 3, 5, 6, 7, 8], [5, 7]))], n := 54, nils := [], pubs := [] }
def cordonref_PutOf_I2 (a0 : List (List Int)) (a1 : LitD) (R : D → Prop) (n0 : Nat) (i1 : Int) (n2 : Nat) (j3 : Int) (out4 : List (List Int)) (k5 : List Int) : Prop := iter (den Try.prog Ev cordonref_PutOf_A (sub [1, 1, 0, 1, 0, 0, 1, 0, 0, 1, 0, 1, 0, 0] (bodyOf Try.f40)) 2) cordonref_PutOf_A (liveOf cordonref_PutOf_A 2) n2 ⟨[(0, .sl (.list .int) a0), (3, .iptr [.int .i64 a1.var, .int .i64 a1.op, .int .i64 a1.n] 0), (5, .own 5), (6, .int .i64 i1), (7, .own 7), (8, .int .i64 j3)], [(5, .row 72 (.list .int) out4), (7, .row 3 .int k5)]⟩ (blockK 2 (seqK Try.prog Ev cordonref_PutOf_A (sub [1, 1, 0, 1, 0, 0, 1, 0, 0, 1, 1] (bodyOf Try.f40)) 1 (blockK 1 (seqK Try.prog Ev cordonref_PutOf_A (sub [1, 1, 0, 1, 0, 0, 1, 1] (bodyOf Try.f40)) 0 (iterK (den Try.prog Ev cordonref_PutOf_A (sub [1, 1, 0, 1, 0, 0] (bodyOf Try.f40)) 0) cordonref_PutOf_A (liveOf cordonref_PutOf_A 0) n0 (blockK 0 (seqK Try.prog Ev cordonref_PutOf_A (sub [1, 1, 1] (bodyOf Try.f40)) 0 (endK Ev Try.f40.results.toList R))))))))
def cordonref_PutOf_I0 (a0 : List (List Int)) (a1 : LitD) (R : D → Prop) (n0 : Nat) (i1 : Int) (out2 : List (List Int)) : Prop := iter (den Try.prog Ev cordonref_PutOf_A (sub [1, 1, 0, 1, 0, 0] (bodyOf Try.f40)) 0) cordonref_PutOf_A (liveOf cordonref_PutOf_A 0) n0 ⟨[(0, .sl (.list .int) a0), (3, .iptr [.int .i64 a1.var, .int .i64 a1.op, .int .i64 a1.n] 0), (5, .own 5), (6, .int .i64 i1)], [(5, .row 72 (.list .int) out2)]⟩ (blockK 0 (seqK Try.prog Ev cordonref_PutOf_A (sub [1, 1, 1] (bodyOf Try.f40)) 0 (endK Ev Try.f40.results.toList R)))
theorem cordonref_PutOf_I2_eq (a0 : List (List Int)) (a1 : LitD) (R : D → Prop) (n0 : Nat) (i1 : Int) (n2 : Nat) (j3 : Int) (out4 : List (List Int)) (k5 : List Int) : cordonref_PutOf_I2 a0 a1 R n0 i1 (n2 + 1) j3 out4 k5 =
 (inb i1 a0.length = true ∧
 sel (decide (j3 < ((at' (.list .int) a0 i1.toNat).length : Int)))
 (sel (!decide (i1 = a1.var))
 (inb i1 a0.length = true ∧
 inb j3 (at' (.list .int) a0 i1.toNat).length = true ∧
 room .int (k5.length + ([at' .int (at' (.list .int) a0 i1.toNat) j3.toNat]).length) = true ∧
 cordonref_PutOf_I2 a0 a1 R n0 i1 n2 (w64 (j3 + 1)) out4 (k5 ++ ([at' .int (at' (.list .int) a0 i1.toNat) j3.toNat])))
 (inb i1 a0.length = true ∧
 inb j3 (at' (.list .int) a0 i1.toNat).length = true ∧
 Call1 Try.prog f_cordonref_LitHolds [.agg [.int .i64 a1.var, .int .i64 a1.op, .int .i64 a1.n], .int .i64 (at' .int (at' (.list .int) a0 i1.toNat) j3.toNat)] .bool fun c6 =>
 sel c6
 (inb i1 a0.length = true ∧
 inb j3 (at' (.list .int) a0 i1.toNat).length = true ∧
 room .int (k5.length + ([at' .int (at' (.list .int) a0 i1.toNat) j3.toNat]).length) = true ∧
 cordonref_PutOf_I2 a0 a1 R n0 i1 n2 (w64 (j3 + 1)) out4 (k5 ++ ([at' .int (at' (.list .int) a0 i1.toNat) j3.toNat])))
 (cordonref_PutOf_I2 a0 a1 R n0 i1 n2 (w64 (j3 + 1)) out4 k5)))
 (room (.list .int) (out4.length + ([k5]).length) = true ∧
 cordonref_PutOf_I0 a0 a1 R n0 (w64 (i1 + 1)) (out4 ++ ([k5])))) := by kernel_rfl
theorem cordonref_PutOf_I0_eq (a0 : List (List Int)) (a1 : LitD) (R : D → Prop) (n0 : Nat) (i1 : Int) (out2 : List (List Int)) : cordonref_PutOf_I0 a0 a1 R (n0 + 1) i1 out2 =
 (sel (decide (i1 < (a0.length : Int)))
 (∃ n2, cordonref_PutOf_I2 a0 a1 R n0 i1 n2 0 out2 ([] : List Int))
 (R (.sl (.list .int) out2))) := by kernel_rfl
theorem cordonref_PutOf_eq (a0 : List (List Int)) (a1 : LitD) (R : D → Prop) : fnD Try.prog Ev cordonref_PutOf_A Try.f40.results.toList (bodyOf Try.f40) [.sl (.list .int) a0, .agg [.int .i64 a1.var, .int .i64 a1.op, .int .i64 a1.n]] R =
 (∃ n0, cordonref_PutOf_I0 a0 a1 R n0 0 ([] : List (List Int))) := by kernel_rfl
theorem cordonref_PutOf_sat {r : D} (a0 : List (List Int)) (a1 : LitD) (h : (∀ d ∈ [.sl (.list .int) a0, .agg [.int .i64 a1.var, .int .i64 a1.op, .int .i64 a1.n]], okD d) → fnD Try.prog Ev cordonref_PutOf_A Try.f40.results.toList (bodyOf Try.f40) [.sl (.list .int) a0, .agg [.int .i64 a1.var, .int .i64 a1.op, .int .i64 a1.n]] fun d => d = r) : Sat Try.prog f_cordonref_PutOf [.sl (.list .int) a0, .agg [.int .i64 a1.var, .int .i64 a1.op, .int .i64 a1.n]] r := by
  have h2 := sat_of (r := r) (args := [.sl (.list .int) a0, .agg [.int .i64 a1.var, .int .i64 a1.op, .int .i64 a1.n]]) (A := cordonref_PutOf_A) (fn := Try.f40) (body := bodyOf Try.f40) (f := f_cordonref_PutOf) factsEv Try.func40 (by kernel_rfl) (by rw [Try.ntmps40]; rfl) (by rw [Try.ntmps40]; exact Nat.le_of_ble_eq_true rfl)
  with_reducible exact h2 h
/-! ### cordon/cordonref.LitHolds -/
def cordonref_LitHolds_A : Ann := { own := [], live := [], n := 47, nils := [], pubs := [] }
theorem cordonref_LitHolds_eq (a0 : LitD) (a1 : Int) (R : D → Prop) : fnD Try.prog Ev cordonref_LitHolds_A Try.f43.results.toList (bodyOf Try.f43) [.agg [.int .i64 a0.var, .int .i64 a0.op, .int .i64 a0.n], .int .i64 a1] R =
 (sel (decide (a0.op = 1))
 (sel (decide (a1 ≤ a0.n))
 (R (.bool true))
 (sel (decide (a0.op = 2))
 (sel (decide (a0.n ≤ a1))
 (R (.bool true))
 (sel (decide (a0.op = 3))
 (sel (decide (a1 = a0.n))
 (R (.bool true))
 (sel (decide (a0.op = 4))
 (R (.bool (!decide (a1 = a0.n))))
 (R (.bool false))))
 (sel (decide (a0.op = 4))
 (R (.bool (!decide (a1 = a0.n))))
 (R (.bool false)))))
 (sel (decide (a0.op = 3))
 (sel (decide (a1 = a0.n))
 (R (.bool true))
 (sel (decide (a0.op = 4))
 (R (.bool (!decide (a1 = a0.n))))
 (R (.bool false))))
 (sel (decide (a0.op = 4))
 (R (.bool (!decide (a1 = a0.n))))
 (R (.bool false))))))
 (sel (decide (a0.op = 2))
 (sel (decide (a0.n ≤ a1))
 (R (.bool true))
 (sel (decide (a0.op = 3))
 (sel (decide (a1 = a0.n))
 (R (.bool true))
 (sel (decide (a0.op = 4))
 (R (.bool (!decide (a1 = a0.n))))
 (R (.bool false))))
 (sel (decide (a0.op = 4))
 (R (.bool (!decide (a1 = a0.n))))
 (R (.bool false)))))
 (sel (decide (a0.op = 3))
 (sel (decide (a1 = a0.n))
 (R (.bool true))
 (sel (decide (a0.op = 4))
 (R (.bool (!decide (a1 = a0.n))))
 (R (.bool false))))
 (sel (decide (a0.op = 4))
 (R (.bool (!decide (a1 = a0.n))))
 (R (.bool false)))))) := by kernel_rfl
theorem cordonref_LitHolds_sat {r : D} (a0 : LitD) (a1 : Int) (h : (∀ d ∈ [.agg [.int .i64 a0.var, .int .i64 a0.op, .int .i64 a0.n], .int .i64 a1], okD d) → fnD Try.prog Ev cordonref_LitHolds_A Try.f43.results.toList (bodyOf Try.f43) [.agg [.int .i64 a0.var, .int .i64 a0.op, .int .i64 a0.n], .int .i64 a1] fun d => d = r) : Sat Try.prog f_cordonref_LitHolds [.agg [.int .i64 a0.var, .int .i64 a0.op, .int .i64 a0.n], .int .i64 a1] r := by
  have h2 := sat_of (r := r) (args := [.agg [.int .i64 a0.var, .int .i64 a0.op, .int .i64 a0.n], .int .i64 a1]) (A := cordonref_LitHolds_A) (fn := Try.f43) (body := bodyOf Try.f43) (f := f_cordonref_LitHolds) factsEv Try.func43 (by kernel_rfl) (by rw [Try.ntmps43]; rfl) (by rw [Try.ntmps43]; exact Nat.le_of_ble_eq_true rfl)
  with_reducible exact h2 h
/-! ### cordon/cordonref.ScopeOf -/
def cordonref_ScopeOf_A : Ann := { own := [5, 56], live := [(0, ([2, 3, 5, 6], [5])), (2, ([2, 3, 5, 6, 7, 8], [5])), (4, ([2, 3, 5, 6, 7, 9], [5]))], n := 58, nils := [], pubs := [] }
def cordonref_ScopeOf_I4 (a0 : MdlD) (a1 : ConD) (R : D → Prop) (n0 : Nat) (v1 : Int) (out2 : List Int) (n4 : Nat) (is5 : Bool) (i6 : Int) : Prop := iter (den Try.prog Ev cordonref_ScopeOf_A (sub [1, 1, 0, 1, 0, 0, 1, 0, 0, 1, 1, 0, 1, 0, 0] (bodyOf Try.f50)) 4) cordonref_ScopeOf_A (liveOf cordonref_ScopeOf_A 4) n4 ⟨[(2, .iptr [.sl .var a0.vars, .sl .con a0.cons, .int .i64 a0.goal, .int .i64 a0.var] 0), (3, .iptr [.int .i64 a1.kind, .sl .int a1.vars, .sl .int a1.consts, .int .i64 a1.n, .sl (.list .int) a1.rows, .sl .lit a1.lits] 0), (5, .own 5), (6, .int .i64 v1), (7, .bool is5), (9, .int .i64 i6)], [(5, .row 3 .int out2)]⟩ (blockK 4 (seqK Try.prog Ev cordonref_ScopeOf_A (sub [1, 1, 0, 1, 0, 0, 1, 0, 0, 1, 1, 1] (bodyOf Try.f50)) 1 (blockK 1 (seqK Try.prog Ev cordonref_ScopeOf_A (sub [1, 1, 0, 1, 0, 0, 1, 1] (bodyOf Try.f50)) 0 (iterK (den Try.prog Ev cordonref_ScopeOf_A (sub [1, 1, 0, 1, 0, 0] (bodyOf Try.f50)) 0) cordonref_ScopeOf_A (liveOf cordonref_ScopeOf_A 0) n0 (blockK 0 (seqK Try.prog Ev cordonref_ScopeOf_A (sub [1, 1, 1] (bodyOf Try.f50)) 0 (endK Ev Try.f50.results.toList R))))))))
def cordonref_ScopeOf_I2 (a0 : MdlD) (a1 : ConD) (R : D → Prop) (n0 : Nat) (v1 : Int) (out2 : List Int) (n2 : Nat) (is3 : Bool) (i4 : Int) : Prop := iter (den Try.prog Ev cordonref_ScopeOf_A (sub [1, 1, 0, 1, 0, 0, 1, 0, 0, 1, 0, 1, 0, 0] (bodyOf Try.f50)) 2) cordonref_ScopeOf_A (liveOf cordonref_ScopeOf_A 2) n2 ⟨[(2, .iptr [.sl .var a0.vars, .sl .con a0.cons, .int .i64 a0.goal, .int .i64 a0.var] 0), (3, .iptr [.int .i64 a1.kind, .sl .int a1.vars, .sl .int a1.consts, .int .i64 a1.n, .sl (.list .int) a1.rows, .sl .lit a1.lits] 0), (5, .own 5), (6, .int .i64 v1), (7, .bool is3), (8, .int .i64 i4)], [(5, .row 3 .int out2)]⟩ (blockK 2 (seqK Try.prog Ev cordonref_ScopeOf_A (sub [1, 1, 0, 1, 0, 0, 1, 0, 0, 1, 1] (bodyOf Try.f50)) 1 (blockK 1 (seqK Try.prog Ev cordonref_ScopeOf_A (sub [1, 1, 0, 1, 0, 0, 1, 1] (bodyOf Try.f50)) 0 (iterK (den Try.prog Ev cordonref_ScopeOf_A (sub [1, 1, 0, 1, 0, 0] (bodyOf Try.f50)) 0) cordonref_ScopeOf_A (liveOf cordonref_ScopeOf_A 0) n0 (blockK 0 (seqK Try.prog Ev cordonref_ScopeOf_A (sub [1, 1, 1] (bodyOf Try.f50)) 0 (endK Ev Try.f50.results.toList R))))))))
def cordonref_ScopeOf_I0 (a0 : MdlD) (a1 : ConD) (R : D → Prop) (n0 : Nat) (v1 : Int) (out2 : List Int) : Prop := iter (den Try.prog Ev cordonref_ScopeOf_A (sub [1, 1, 0, 1, 0, 0] (bodyOf Try.f50)) 0) cordonref_ScopeOf_A (liveOf cordonref_ScopeOf_A 0) n0 ⟨[(2, .iptr [.sl .var a0.vars, .sl .con a0.cons, .int .i64 a0.goal, .int .i64 a0.var] 0), (3, .iptr [.int .i64 a1.kind, .sl .int a1.vars, .sl .int a1.consts, .int .i64 a1.n, .sl (.list .int) a1.rows, .sl .lit a1.lits] 0), (5, .own 5), (6, .int .i64 v1)], [(5, .row 3 .int out2)]⟩ (blockK 0 (seqK Try.prog Ev cordonref_ScopeOf_A (sub [1, 1, 1] (bodyOf Try.f50)) 0 (endK Ev Try.f50.results.toList R)))
theorem cordonref_ScopeOf_I4_eq (a0 : MdlD) (a1 : ConD) (R : D → Prop) (n0 : Nat) (v1 : Int) (out2 : List Int) (n4 : Nat) (is5 : Bool) (i6 : Int) : cordonref_ScopeOf_I4 a0 a1 R n0 v1 out2 (n4 + 1) is5 i6 =
 (sel (decide (i6 < (a1.lits.length : Int)))
 (sel is5
 (cordonref_ScopeOf_I4 a0 a1 R n0 v1 out2 n4 true (w64 (i6 + 1)))
 (inb i6 a1.lits.length = true ∧
 cordonref_ScopeOf_I4 a0 a1 R n0 v1 out2 n4 (decide (((at' .lit a1.lits i6.toNat).var) = v1)) (w64 (i6 + 1))))
 (sel is5
 (room .int (out2.length + ([v1]).length) = true ∧
 cordonref_ScopeOf_I0 a0 a1 R n0 (w64 (v1 + 1)) (out2 ++ ([v1])))
 (cordonref_ScopeOf_I0 a0 a1 R n0 (w64 (v1 + 1)) out2))) := by kernel_rfl
theorem cordonref_ScopeOf_I2_eq (a0 : MdlD) (a1 : ConD) (R : D → Prop) (n0 : Nat) (v1 : Int) (out2 : List Int) (n2 : Nat) (is3 : Bool) (i4 : Int) : cordonref_ScopeOf_I2 a0 a1 R n0 v1 out2 (n2 + 1) is3 i4 =
 (sel (decide (i4 < (a1.vars.length : Int)))
 (sel is3
 (cordonref_ScopeOf_I2 a0 a1 R n0 v1 out2 n2 true (w64 (i4 + 1)))
 (inb i4 a1.vars.length = true ∧
 cordonref_ScopeOf_I2 a0 a1 R n0 v1 out2 n2 (decide ((at' .int a1.vars i4.toNat) = v1)) (w64 (i4 + 1))))
 (∃ n4, cordonref_ScopeOf_I4 a0 a1 R n0 v1 out2 n4 is3 0)) := by kernel_rfl
theorem cordonref_ScopeOf_I0_eq (a0 : MdlD) (a1 : ConD) (R : D → Prop) (n0 : Nat) (v1 : Int) (out2 : List Int) : cordonref_ScopeOf_I0 a0 a1 R (n0 + 1) v1 out2 =
 (sel (decide (v1 < (a0.vars.length : Int)))
 (∃ n2, cordonref_ScopeOf_I2 a0 a1 R n0 v1 out2 n2 false 0)
 (R (.sl .int out2))) := by kernel_rfl
theorem cordonref_ScopeOf_eq (a0 : MdlD) (a1 : ConD) (R : D → Prop) : fnD Try.prog Ev cordonref_ScopeOf_A Try.f50.results.toList (bodyOf Try.f50) [.agg [.sl .var a0.vars, .sl .con a0.cons, .int .i64 a0.goal, .int .i64 a0.var], .agg [.int .i64 a1.kind, .sl .int a1.vars, .sl .int a1.consts, .int .i64 a1.n, .sl (.list .int) a1.rows, .sl .lit a1.lits]] R =
 (∃ n0, cordonref_ScopeOf_I0 a0 a1 R n0 0 ([] : List Int)) := by kernel_rfl
theorem cordonref_ScopeOf_sat {r : D} (a0 : MdlD) (a1 : ConD) (h : (∀ d ∈ [.agg [.sl .var a0.vars, .sl .con a0.cons, .int .i64 a0.goal, .int .i64 a0.var], .agg [.int .i64 a1.kind, .sl .int a1.vars, .sl .int a1.consts, .int .i64 a1.n, .sl (.list .int) a1.rows, .sl .lit a1.lits]], okD d) → fnD Try.prog Ev cordonref_ScopeOf_A Try.f50.results.toList (bodyOf Try.f50) [.agg [.sl .var a0.vars, .sl .con a0.cons, .int .i64 a0.goal, .int .i64 a0.var], .agg [.int .i64 a1.kind, .sl .int a1.vars, .sl .int a1.consts, .int .i64 a1.n, .sl (.list .int) a1.rows, .sl .lit a1.lits]] fun d => d = r) : Sat Try.prog f_cordonref_ScopeOf [.agg [.sl .var a0.vars, .sl .con a0.cons, .int .i64 a0.goal, .int .i64 a0.var], .agg [.int .i64 a1.kind, .sl .int a1.vars, .sl .int a1.consts, .int .i64 a1.n, .sl (.list .int) a1.rows, .sl .lit a1.lits]] r := by
  have h2 := sat_of (r := r) (args := [.agg [.sl .var a0.vars, .sl .con a0.cons, .int .i64 a0.goal, .int .i64 a0.var], .agg [.int .i64 a1.kind, .sl .int a1.vars, .sl .int a1.consts, .int .i64 a1.n, .sl (.list .int) a1.rows, .sl .lit a1.lits]]) (A := cordonref_ScopeOf_A) (fn := Try.f50) (body := bodyOf Try.f50) (f := f_cordonref_ScopeOf) factsEv Try.func50 (by kernel_rfl) (by rw [Try.ntmps50]; rfl) (by rw [Try.ntmps50]; exact Nat.le_of_ble_eq_true rfl)
  with_reducible exact h2 h
/-! ### cordon/cordonref.SameInts -/
def cordonref_SameInts_A : Ann := { own := [], live := [(0, ([0, 1, 5], []))], n := 26, nils := [], pubs := [] }
def cordonref_SameInts_I0 (a0 : List Int) (a1 : List Int) (R : D → Prop) (n0 : Nat) (i1 : Int) : Prop := iter (den Try.prog Ev cordonref_SameInts_A (sub [1, 1, 0, 1, 0, 0] (bodyOf Try.f53)) 0) cordonref_SameInts_A (liveOf cordonref_SameInts_A 0) n0 ⟨[(0, .sl .int a0), (1, .sl .int a1), (5, .int .i64 i1)], []⟩ (blockK 0 (seqK Try.prog Ev cordonref_SameInts_A (sub [1, 1, 1] (bodyOf Try.f53)) 0 (endK Ev Try.f53.results.toList R)))
theorem cordonref_SameInts_I0_eq (a0 : List Int) (a1 : List Int) (R : D → Prop) (n0 : Nat) (i1 : Int) : cordonref_SameInts_I0 a0 a1 R (n0 + 1) i1 =
 (sel (decide (i1 < (a0.length : Int)))
 (inb i1 a0.length = true ∧
 inb i1 a1.length = true ∧
 sel (!decide ((at' .int a0 i1.toNat) = (at' .int a1 i1.toNat)))
 (R (.bool false))
 (cordonref_SameInts_I0 a0 a1 R n0 (w64 (i1 + 1))))
 (R (.bool true))) := by kernel_rfl
theorem cordonref_SameInts_eq (a0 : List Int) (a1 : List Int) (R : D → Prop) : fnD Try.prog Ev cordonref_SameInts_A Try.f53.results.toList (bodyOf Try.f53) [.sl .int a0, .sl .int a1] R =
 (sel (!decide ((a0.length : Int) = (a1.length : Int)))
 (R (.bool false))
 (∃ n0, cordonref_SameInts_I0 a0 a1 R n0 0)) := by kernel_rfl
theorem cordonref_SameInts_sat {r : D} (a0 : List Int) (a1 : List Int) (h : (∀ d ∈ [.sl .int a0, .sl .int a1], okD d) → fnD Try.prog Ev cordonref_SameInts_A Try.f53.results.toList (bodyOf Try.f53) [.sl .int a0, .sl .int a1] fun d => d = r) : Sat Try.prog f_cordonref_SameInts [.sl .int a0, .sl .int a1] r := by
  have h2 := sat_of (r := r) (args := [.sl .int a0, .sl .int a1]) (A := cordonref_SameInts_A) (fn := Try.f53) (body := bodyOf Try.f53) (f := f_cordonref_SameInts) factsEv Try.func53 (by kernel_rfl) (by rw [Try.ntmps53]; rfl) (by rw [Try.ntmps53]; exact Nat.le_of_ble_eq_true rfl)
  with_reducible exact h2 h
/-! ### cordon/cordonref.between -/
def cordonref_between_A : Ann := { own := [], live := [], n := 15, nils := [], pubs := [] }
theorem cordonref_between_eq (a0 : Int) (a1 : Int) (a2 : Int) (R : D → Prop) : fnD Try.prog Ev cordonref_between_A Try.f69.results.toList (bodyOf Try.f69) [.int .i64 a0, .int .i64 a1, .int .i64 a2] R =
 (sel (decide (a1 ≤ a0))
 (R (.bool (decide (a0 ≤ a2))))
 (R (.bool false))) := by kernel_rfl
theorem cordonref_between_sat {r : D} (a0 : Int) (a1 : Int) (a2 : Int) (h : (∀ d ∈ [.int .i64 a0, .int .i64 a1, .int .i64 a2], okD d) → fnD Try.prog Ev cordonref_between_A Try.f69.results.toList (bodyOf Try.f69) [.int .i64 a0, .int .i64 a1, .int .i64 a2] fun d => d = r) : Sat Try.prog f_cordonref_between [.int .i64 a0, .int .i64 a1, .int .i64 a2] r := by
  have h2 := sat_of (r := r) (args := [.int .i64 a0, .int .i64 a1, .int .i64 a2]) (A := cordonref_between_A) (fn := Try.f69) (body := bodyOf Try.f69) (f := f_cordonref_between) factsEv Try.func69 (by kernel_rfl) (by rw [Try.ntmps69]; rfl) (by rw [Try.ntmps69]; exact Nat.le_of_ble_eq_true rfl)
  with_reducible exact h2 h
/-! ### cordon/cordonref.checkCon -/
def cordonref_checkCon_A : Ann := { own := [], live := [(0, ([2, 3, 5], [])), (2, ([2, 3, 6], [])), (4, ([2, 3, 7], [])), (6, ([2, 3, 8], [])), (8, ([2, 3, 8, 9], [])), (10, ([2, 3, 10], []))], n := 140, nils := [], pubs := [] }
def cordonref_checkCon_I8 (a0 : MdlD) (a1 : ConD) (R : D → Prop) (n6 : Nat) (v10 : Int) (n8 : Nat) (v11 : Int) : Prop := iter (den Try.prog Ev cordonref_checkCon_A (sub [1, 1, 1, 1, 1, 1, 1, 1, 0, 1, 0, 0, 1, 0, 0, 1, 0, 0] (bodyOf Try.f70)) 8) cordonref_checkCon_A (liveOf cordonref_checkCon_A 8) n8 ⟨[(2, .iptr [.sl .var a0.vars, .sl .con a0.cons, .int .i64 a0.goal, .int .i64 a0.var] 0), (3, .iptr [.int .i64 a1.kind, .sl .int a1.vars, .sl .int a1.consts, .int .i64 a1.n, .sl (.list .int) a1.rows, .sl .lit a1.lits] 0), (8, .int .i64 v10), (9, .int .i64 v11)], []⟩ (blockK 8 (blockK 7 (seqK Try.prog Ev cordonref_checkCon_A (sub [1, 1, 1, 1, 1, 1, 1, 1, 0, 1, 0, 0, 1, 1] (bodyOf Try.f70)) 6 (iterK (den Try.prog Ev cordonref_checkCon_A (sub [1, 1, 1, 1, 1, 1, 1, 1, 0, 1, 0, 0] (bodyOf Try.f70)) 6) cordonref_checkCon_A (liveOf cordonref_checkCon_A 6) n6 (blockK 6 (seqK Try.prog Ev cordonref_checkCon_A (sub [1, 1, 1, 1, 1, 1, 1, 1, 1] (bodyOf Try.f70)) 0 (endK Ev Try.f70.results.toList R)))))))
def cordonref_checkCon_I10 (a0 : MdlD) (a1 : ConD) (R : D → Prop) (n10 : Nat) (v13 : Int) : Prop := iter (den Try.prog Ev cordonref_checkCon_A (sub [1, 1, 1, 1, 1, 1, 1, 1, 1, 0, 1, 0, 0] (bodyOf Try.f70)) 10) cordonref_checkCon_A (liveOf cordonref_checkCon_A 10) n10 ⟨[(2, .iptr [.sl .var a0.vars, .sl .con a0.cons, .int .i64 a0.goal, .int .i64 a0.var] 0), (3, .iptr [.int .i64 a1.kind, .sl .int a1.vars, .sl .int a1.consts, .int .i64 a1.n, .sl (.list .int) a1.rows, .sl .lit a1.lits] 0), (10, .int .i64 v13)], []⟩ (blockK 10 (seqK Try.prog Ev cordonref_checkCon_A (sub [1, 1, 1, 1, 1, 1, 1, 1, 1, 1] (bodyOf Try.f70)) 0 (endK Ev Try.f70.results.toList R)))
def cordonref_checkCon_I6 (a0 : MdlD) (a1 : ConD) (R : D → Prop) (n6 : Nat) (v10 : Int) : Prop := iter (den Try.prog Ev cordonref_checkCon_A (sub [1, 1, 1, 1, 1, 1, 1, 1, 0, 1, 0, 0] (bodyOf Try.f70)) 6) cordonref_checkCon_A (liveOf cordonref_checkCon_A 6) n6 ⟨[(2, .iptr [.sl .var a0.vars, .sl .con a0.cons, .int .i64 a0.goal, .int .i64 a0.var] 0), (3, .iptr [.int .i64 a1.kind, .sl .int a1.vars, .sl .int a1.consts, .int .i64 a1.n, .sl (.list .int) a1.rows, .sl .lit a1.lits] 0), (8, .int .i64 v10)], []⟩ (blockK 6 (seqK Try.prog Ev cordonref_checkCon_A (sub [1, 1, 1, 1, 1, 1, 1, 1, 1] (bodyOf Try.f70)) 0 (endK Ev Try.f70.results.toList R)))
def cordonref_checkCon_I4 (a0 : MdlD) (a1 : ConD) (R : D → Prop) (n4 : Nat) (v7 : Int) : Prop := iter (den Try.prog Ev cordonref_checkCon_A (sub [1, 1, 1, 1, 1, 1, 0, 1, 0, 0] (bodyOf Try.f70)) 4) cordonref_checkCon_A (liveOf cordonref_checkCon_A 4) n4 ⟨[(2, .iptr [.sl .var a0.vars, .sl .con a0.cons, .int .i64 a0.goal, .int .i64 a0.var] 0), (3, .iptr [.int .i64 a1.kind, .sl .int a1.vars, .sl .int a1.consts, .int .i64 a1.n, .sl (.list .int) a1.rows, .sl .lit a1.lits] 0), (7, .int .i64 v7)], []⟩ (blockK 4 (seqK Try.prog Ev cordonref_checkCon_A (sub [1, 1, 1, 1, 1, 1, 1] (bodyOf Try.f70)) 0 (endK Ev Try.f70.results.toList R)))
def cordonref_checkCon_I2 (a0 : MdlD) (a1 : ConD) (R : D → Prop) (n2 : Nat) (v5 : Int) : Prop := iter (den Try.prog Ev cordonref_checkCon_A (sub [1, 1, 1, 1, 1, 0, 1, 0, 0] (bodyOf Try.f70)) 2) cordonref_checkCon_A (liveOf cordonref_checkCon_A 2) n2 ⟨[(2, .iptr [.sl .var a0.vars, .sl .con a0.cons, .int .i64 a0.goal, .int .i64 a0.var] 0), (3, .iptr [.int .i64 a1.kind, .sl .int a1.vars, .sl .int a1.consts, .int .i64 a1.n, .sl (.list .int) a1.rows, .sl .lit a1.lits] 0), (6, .int .i64 v5)], []⟩ (blockK 2 (seqK Try.prog Ev cordonref_checkCon_A (sub [1, 1, 1, 1, 1, 1] (bodyOf Try.f70)) 0 (endK Ev Try.f70.results.toList R)))
def cordonref_checkCon_I0 (a0 : MdlD) (a1 : ConD) (R : D → Prop) (n0 : Nat) (v3 : Int) : Prop := iter (den Try.prog Ev cordonref_checkCon_A (sub [1, 1, 1, 1, 0, 1, 0, 0] (bodyOf Try.f70)) 0) cordonref_checkCon_A (liveOf cordonref_checkCon_A 0) n0 ⟨[(2, .iptr [.sl .var a0.vars, .sl .con a0.cons, .int .i64 a0.goal, .int .i64 a0.var] 0), (3, .iptr [.int .i64 a1.kind, .sl .int a1.vars, .sl .int a1.consts, .int .i64 a1.n, .sl (.list .int) a1.rows, .sl .lit a1.lits] 0), (5, .int .i64 v3)], []⟩ (blockK 0 (seqK Try.prog Ev cordonref_checkCon_A (sub [1, 1, 1, 1, 1] (bodyOf Try.f70)) 0 (endK Ev Try.f70.results.toList R)))
theorem cordonref_checkCon_I8_eq (a0 : MdlD) (a1 : ConD) (R : D → Prop) (n6 : Nat) (v10 : Int) (n8 : Nat) (v11 : Int) : cordonref_checkCon_I8 a0 a1 R n6 v10 (n8 + 1) v11 =
 (inb v10 a1.rows.length = true ∧
 sel (decide (v11 < ((at' (.list .int) a1.rows v10.toNat).length : Int)))
 (inb v10 a1.rows.length = true ∧
 inb v11 (at' (.list .int) a1.rows v10.toNat).length = true ∧
 Call1 Try.prog f_cordonref_inConst [.int .i64 (at' .int (at' (.list .int) a1.rows v10.toNat) v11.toNat)] .bool fun c12 =>
 sel (!c12)
 (R (.int .i64 3))
 (cordonref_checkCon_I8 a0 a1 R n6 v10 n8 (w64 (v11 + 1))))
 (cordonref_checkCon_I6 a0 a1 R n6 (w64 (v10 + 1)))) := by kernel_rfl
theorem cordonref_checkCon_I10_eq (a0 : MdlD) (a1 : ConD) (R : D → Prop) (n10 : Nat) (v13 : Int) : cordonref_checkCon_I10 a0 a1 R (n10 + 1) v13 =
 (sel (decide (v13 < (a1.lits.length : Int)))
 (inb v13 a1.lits.length = true ∧
 Call1 Try.prog f_cordonref_CheckLit [.agg [.sl .var a0.vars, .sl .con a0.cons, .int .i64 a0.goal, .int .i64 a0.var], .agg [.int .i64 ((at' .lit a1.lits v13.toNat).var), .int .i64 ((at' .lit a1.lits v13.toNat).op), .int .i64 ((at' .lit a1.lits v13.toNat).n)]] .int fun c14 =>
 sel (!decide (c14 = 0))
 (R (.int .i64 c14))
 (cordonref_checkCon_I10 a0 a1 R n10 (w64 (v13 + 1))))
 (R (.int .i64 0))) := by kernel_rfl
theorem cordonref_checkCon_I6_eq (a0 : MdlD) (a1 : ConD) (R : D → Prop) (n6 : Nat) (v10 : Int) : cordonref_checkCon_I6 a0 a1 R (n6 + 1) v10 =
 (sel (decide (v10 < (a1.rows.length : Int)))
 (∃ n8, cordonref_checkCon_I8 a0 a1 R n6 v10 n8 0)
 (∃ n10, cordonref_checkCon_I10 a0 a1 R n10 0)) := by kernel_rfl
theorem cordonref_checkCon_I4_eq (a0 : MdlD) (a1 : ConD) (R : D → Prop) (n4 : Nat) (v7 : Int) : cordonref_checkCon_I4 a0 a1 R (n4 + 1) v7 =
 (sel (decide (v7 < (a1.consts.length : Int)))
 (inb v7 a1.consts.length = true ∧
 Call1 Try.prog f_cordonref_inConst [.int .i64 (at' .int a1.consts v7.toNat)] .bool fun c8 =>
 sel (!c8)
 (R (.int .i64 3))
 (cordonref_checkCon_I4 a0 a1 R n4 (w64 (v7 + 1))))
 (Call1 Try.prog f_cordonref_inConst [.int .i64 a1.n] .bool fun c9 =>
 sel (!c9)
 (R (.int .i64 3))
 (∃ n6, cordonref_checkCon_I6 a0 a1 R n6 0))) := by kernel_rfl
theorem cordonref_checkCon_I2_eq (a0 : MdlD) (a1 : ConD) (R : D → Prop) (n2 : Nat) (v5 : Int) : cordonref_checkCon_I2 a0 a1 R (n2 + 1) v5 =
 (sel (decide (v5 < (a1.lits.length : Int)))
 (inb v5 a1.lits.length = true ∧
 Call1 Try.prog f_cordonref_between [.int .i64 ((at' .lit a1.lits v5.toNat).var), .int .i64 0, .int .i64 (w64 ((a0.vars.length : Int) - 1))] .bool fun c6 =>
 sel (!c6)
 (R (.int .i64 5))
 (cordonref_checkCon_I2 a0 a1 R n2 (w64 (v5 + 1))))
 (∃ n4, cordonref_checkCon_I4 a0 a1 R n4 0)) := by kernel_rfl
theorem cordonref_checkCon_I0_eq (a0 : MdlD) (a1 : ConD) (R : D → Prop) (n0 : Nat) (v3 : Int) : cordonref_checkCon_I0 a0 a1 R (n0 + 1) v3 =
 (sel (decide (v3 < (a1.vars.length : Int)))
 (inb v3 a1.vars.length = true ∧
 Call1 Try.prog f_cordonref_between [.int .i64 (at' .int a1.vars v3.toNat), .int .i64 0, .int .i64 (w64 ((a0.vars.length : Int) - 1))] .bool fun c4 =>
 sel (!c4)
 (R (.int .i64 5))
 (cordonref_checkCon_I0 a0 a1 R n0 (w64 (v3 + 1))))
 (∃ n2, cordonref_checkCon_I2 a0 a1 R n2 0)) := by kernel_rfl
theorem cordonref_checkCon_eq (a0 : MdlD) (a1 : ConD) (R : D → Prop) : fnD Try.prog Ev cordonref_checkCon_A Try.f70.results.toList (bodyOf Try.f70) [.agg [.sl .var a0.vars, .sl .con a0.cons, .int .i64 a0.goal, .int .i64 a0.var], .agg [.int .i64 a1.kind, .sl .int a1.vars, .sl .int a1.consts, .int .i64 a1.n, .sl (.list .int) a1.rows, .sl .lit a1.lits]] R =
 (Call1 Try.prog f_cordonref_between [.int .i64 a1.kind, .int .i64 1, .int .i64 10] .bool fun c1 =>
 sel (!c1)
 (R (.int .i64 7))
 (sel (decide (4 < (a1.vars.length : Int)))
 (R (.int .i64 2))
 (sel (decide (4 < (a1.lits.length : Int)))
 (R (.int .i64 2))
 (sel (decide (8 < (a1.consts.length : Int)))
 (R (.int .i64 2))
 (sel (decide (20 < (a1.rows.length : Int)))
 (R (.int .i64 2))
 (Call1 Try.prog f_cordonref_rightForm [.agg [.int .i64 a1.kind, .sl .int a1.vars, .sl .int a1.consts, .int .i64 a1.n, .sl (.list .int) a1.rows, .sl .lit a1.lits]] .bool fun c2 =>
 sel (!c2)
 (R (.int .i64 1))
 (∃ n0, cordonref_checkCon_I0 a0 a1 R n0 0))))))) := by kernel_rfl
theorem cordonref_checkCon_sat {r : D} (a0 : MdlD) (a1 : ConD) (h : (∀ d ∈ [.agg [.sl .var a0.vars, .sl .con a0.cons, .int .i64 a0.goal, .int .i64 a0.var], .agg [.int .i64 a1.kind, .sl .int a1.vars, .sl .int a1.consts, .int .i64 a1.n, .sl (.list .int) a1.rows, .sl .lit a1.lits]], okD d) → fnD Try.prog Ev cordonref_checkCon_A Try.f70.results.toList (bodyOf Try.f70) [.agg [.sl .var a0.vars, .sl .con a0.cons, .int .i64 a0.goal, .int .i64 a0.var], .agg [.int .i64 a1.kind, .sl .int a1.vars, .sl .int a1.consts, .int .i64 a1.n, .sl (.list .int) a1.rows, .sl .lit a1.lits]] fun d => d = r) : Sat Try.prog f_cordonref_checkCon [.agg [.sl .var a0.vars, .sl .con a0.cons, .int .i64 a0.goal, .int .i64 a0.var], .agg [.int .i64 a1.kind, .sl .int a1.vars, .sl .int a1.consts, .int .i64 a1.n, .sl (.list .int) a1.rows, .sl .lit a1.lits]] r := by
  have h2 := sat_of (r := r) (args := [.agg [.sl .var a0.vars, .sl .con a0.cons, .int .i64 a0.goal, .int .i64 a0.var], .agg [.int .i64 a1.kind, .sl .int a1.vars, .sl .int a1.consts, .int .i64 a1.n, .sl (.list .int) a1.rows, .sl .lit a1.lits]]) (A := cordonref_checkCon_A) (fn := Try.f70) (body := bodyOf Try.f70) (f := f_cordonref_checkCon) factsEv Try.func70 (by kernel_rfl) (by rw [Try.ntmps70]; rfl) (by rw [Try.ntmps70]; exact Nat.le_of_ble_eq_true rfl)
  with_reducible exact h2 h
/-! ### cordon/cordonref.HasInt -/
def cordonref_HasInt_A : Ann := { own := [], live := [(0, ([0, 1, 5], []))], n := 18, nils := [], pubs := [] }
def cordonref_HasInt_I0 (a0 : List Int) (a1 : Int) (R : D → Prop) (n0 : Nat) (i1 : Int) : Prop := iter (den Try.prog Ev cordonref_HasInt_A (sub [1, 0, 1, 0, 0] (bodyOf Try.f71)) 0) cordonref_HasInt_A (liveOf cordonref_HasInt_A 0) n0 ⟨[(0, .sl .int a0), (1, .int .i64 a1), (5, .int .i64 i1)], []⟩ (blockK 0 (seqK Try.prog Ev cordonref_HasInt_A (sub [1, 1] (bodyOf Try.f71)) 0 (endK Ev Try.f71.results.toList R)))
theorem cordonref_HasInt_I0_eq (a0 : List Int) (a1 : Int) (R : D → Prop) (n0 : Nat) (i1 : Int) : cordonref_HasInt_I0 a0 a1 R (n0 + 1) i1 =
 (sel (decide (i1 < (a0.length : Int)))
 (inb i1 a0.length = true ∧
 sel (decide ((at' .int a0 i1.toNat) = a1))
 (R (.bool true))
 (cordonref_HasInt_I0 a0 a1 R n0 (w64 (i1 + 1))))
 (R (.bool false))) := by kernel_rfl
theorem cordonref_HasInt_eq (a0 : List Int) (a1 : Int) (R : D → Prop) : fnD Try.prog Ev cordonref_HasInt_A Try.f71.results.toList (bodyOf Try.f71) [.sl .int a0, .int .i64 a1] R =
 (∃ n0, cordonref_HasInt_I0 a0 a1 R n0 0) := by kernel_rfl
theorem cordonref_HasInt_sat {r : D} (a0 : List Int) (a1 : Int) (h : (∀ d ∈ [.sl .int a0, .int .i64 a1], okD d) → fnD Try.prog Ev cordonref_HasInt_A Try.f71.results.toList (bodyOf Try.f71) [.sl .int a0, .int .i64 a1] fun d => d = r) : Sat Try.prog f_cordonref_HasInt [.sl .int a0, .int .i64 a1] r := by
  have h2 := sat_of (r := r) (args := [.sl .int a0, .int .i64 a1]) (A := cordonref_HasInt_A) (fn := Try.f71) (body := bodyOf Try.f71) (f := f_cordonref_HasInt) factsEv Try.func71 (by kernel_rfl) (by rw [Try.ntmps71]; rfl) (by rw [Try.ntmps71]; exact Nat.le_of_ble_eq_true rfl)
  with_reducible exact h2 h
/-! ### cordon/cordonref.SameStore -/
def cordonref_SameStore_A : Ann := { own := [], live := [(0, ([0, 1, 5], []))], n := 27, nils := [], pubs := [] }
def cordonref_SameStore_I0 (a0 : List (List Int)) (a1 : List (List Int)) (R : D → Prop) (n0 : Nat) (i1 : Int) : Prop := iter (den Try.prog Ev cordonref_SameStore_A (sub [1, 1, 0, 1, 0, 0] (bodyOf Try.f72)) 0) cordonref_SameStore_A (liveOf cordonref_SameStore_A 0) n0 ⟨[(0, .sl (.list .int) a0), (1, .sl (.list .int) a1), (5, .int .i64 i1)], []⟩ (blockK 0 (seqK Try.prog Ev cordonref_SameStore_A (sub [1, 1, 1] (bodyOf Try.f72)) 0 (endK Ev Try.f72.results.toList R)))
theorem cordonref_SameStore_I0_eq (a0 : List (List Int)) (a1 : List (List Int)) (R : D → Prop) (n0 : Nat) (i1 : Int) : cordonref_SameStore_I0 a0 a1 R (n0 + 1) i1 =
 (sel (decide (i1 < (a0.length : Int)))
 (inb i1 a0.length = true ∧
 inb i1 a1.length = true ∧
 Call1 Try.prog f_cordonref_SameInts [.sl .int (at' (.list .int) a0 i1.toNat), .sl .int (at' (.list .int) a1 i1.toNat)] .bool fun c2 =>
 sel (!c2)
 (R (.bool false))
 (cordonref_SameStore_I0 a0 a1 R n0 (w64 (i1 + 1))))
 (R (.bool true))) := by kernel_rfl
theorem cordonref_SameStore_eq (a0 : List (List Int)) (a1 : List (List Int)) (R : D → Prop) : fnD Try.prog Ev cordonref_SameStore_A Try.f72.results.toList (bodyOf Try.f72) [.sl (.list .int) a0, .sl (.list .int) a1] R =
 (sel (!decide ((a0.length : Int) = (a1.length : Int)))
 (R (.bool false))
 (∃ n0, cordonref_SameStore_I0 a0 a1 R n0 0)) := by kernel_rfl
theorem cordonref_SameStore_sat {r : D} (a0 : List (List Int)) (a1 : List (List Int)) (h : (∀ d ∈ [.sl (.list .int) a0, .sl (.list .int) a1], okD d) → fnD Try.prog Ev cordonref_SameStore_A Try.f72.results.toList (bodyOf Try.f72) [.sl (.list .int) a0, .sl (.list .int) a1] fun d => d = r) : Sat Try.prog f_cordonref_SameStore [.sl (.list .int) a0, .sl (.list .int) a1] r := by
  have h2 := sat_of (r := r) (args := [.sl (.list .int) a0, .sl (.list .int) a1]) (A := cordonref_SameStore_A) (fn := Try.f72) (body := bodyOf Try.f72) (f := f_cordonref_SameStore) factsEv Try.func72 (by kernel_rfl) (by rw [Try.ntmps72]; rfl) (by rw [Try.ntmps72]; exact Nat.le_of_ble_eq_true rfl)
  with_reducible exact h2 h
/-! ### cordon/cordonref.inConst -/
def cordonref_inConst_A : Ann := { own := [], live := [], n := 5, nils := [], pubs := [] }
theorem cordonref_inConst_eq (a0 : Int) (R : D → Prop) : fnD Try.prog Ev cordonref_inConst_A Try.f80.results.toList (bodyOf Try.f80) [.int .i64 a0] R =
 (Call1 Try.prog f_cordonref_between [.int .i64 a0, .int .i64 (-1000), .int .i64 1000] .bool fun c1 =>
 R (.bool c1)) := by kernel_rfl
theorem cordonref_inConst_sat {r : D} (a0 : Int) (h : (∀ d ∈ [.int .i64 a0], okD d) → fnD Try.prog Ev cordonref_inConst_A Try.f80.results.toList (bodyOf Try.f80) [.int .i64 a0] fun d => d = r) : Sat Try.prog f_cordonref_inConst [.int .i64 a0] r := by
  have h2 := sat_of (r := r) (args := [.int .i64 a0]) (A := cordonref_inConst_A) (fn := Try.f80) (body := bodyOf Try.f80) (f := f_cordonref_inConst) factsEv Try.func80 (by kernel_rfl) (by rw [Try.ntmps80]; rfl) (by rw [Try.ntmps80]; exact Nat.le_of_ble_eq_true rfl)
  with_reducible exact h2 h
/-! ### cordon/cordonref.rightForm -/
def cordonref_rightForm_A : Ann := { own := [], live := [(1, ([1, 3, 4, 5, 6, 7], []))], n := 164, nils := [], pubs := [] }
def cordonref_rightForm_I1 (a0 : ConD) (R : D → Prop) (n1 : Nat) (v1 : Int) : Prop := iter (den Try.prog Ev cordonref_rightForm_A (sub [1, 1, 1, 0, 1, 0, 1, 1, 1, 1, 1, 1, 1, 0, 0, 1, 0, 0] (bodyOf Try.f116)) 1) cordonref_rightForm_A (liveOf cordonref_rightForm_A 1) n1 ⟨[(1, .iptr [.int .i64 a0.kind, .sl .int a0.vars, .sl .int a0.consts, .int .i64 a0.n, .sl (.list .int) a0.rows, .sl .lit a0.lits] 0), (3, .int .i64 (a0.vars.length : Int)), (4, .int .i64 (a0.consts.length : Int)), (5, .int .i64 (a0.rows.length : Int)), (6, .int .i64 (a0.lits.length : Int)), (7, .int .i64 v1)], []⟩ (blockK 1 (seqK Try.prog Ev cordonref_rightForm_A (sub [1, 1, 1, 0, 1, 0, 1, 1, 1, 1, 1, 1, 1, 0, 1] (bodyOf Try.f116)) 0 (blockK 0 (seqK Try.prog Ev cordonref_rightForm_A (sub [1, 1, 1, 1] (bodyOf Try.f116)) 0 (endK Ev Try.f116.results.toList R)))))
def cordonref_rightForm_I1_2 (a0 : ConD) (R : D → Prop) (n1_2 : Nat) (v2 : Int) : Prop := iter (den Try.prog Ev cordonref_rightForm_A (sub [1, 1, 1, 0, 1, 0, 1, 1, 1, 1, 1, 1, 1, 0, 0, 1, 0, 0] (bodyOf Try.f116)) 1) cordonref_rightForm_A (liveOf cordonref_rightForm_A 1) n1_2 ⟨[(1, .iptr [.int .i64 a0.kind, .sl .int a0.vars, .sl .int a0.consts, .int .i64 a0.n, .sl (.list .int) a0.rows, .sl .lit a0.lits] 0), (3, .int .i64 (a0.vars.length : Int)), (4, .int .i64 (a0.consts.length : Int)), (5, .int .i64 (a0.rows.length : Int)), (6, .int .i64 (a0.lits.length : Int)), (7, .int .i64 v2)], []⟩ (blockK 1 (seqK Try.prog Ev cordonref_rightForm_A (sub [1, 1, 1, 0, 1, 0, 1, 1, 1, 1, 1, 1, 1, 0, 1] (bodyOf Try.f116)) 0 (blockK 0 (seqK Try.prog Ev cordonref_rightForm_A (sub [1, 1, 1, 1] (bodyOf Try.f116)) 0 (endK Ev Try.f116.results.toList R)))))
theorem cordonref_rightForm_I1_eq (a0 : ConD) (R : D → Prop) (n1 : Nat) (v1 : Int) : cordonref_rightForm_I1 a0 R (n1 + 1) v1 =
 (sel (decide (v1 < (a0.rows.length : Int)))
 (inb v1 a0.rows.length = true ∧
 sel (!decide (((at' (.list .int) a0.rows v1.toNat).length : Int) = (a0.vars.length : Int)))
 (R (.bool false))
 (cordonref_rightForm_I1 a0 R n1 (w64 (v1 + 1))))
 (sel (decide (1 ≤ (a0.vars.length : Int)))
 (sel (decide ((a0.consts.length : Int) = 0))
 (R (.bool (decide ((a0.lits.length : Int) = 0))))
 (R (.bool false)))
 (R (.bool false)))) := by kernel_rfl
theorem cordonref_rightForm_I1_2_eq (a0 : ConD) (R : D → Prop) (n1_2 : Nat) (v2 : Int) : cordonref_rightForm_I1_2 a0 R (n1_2 + 1) v2 =
 (sel (decide (v2 < (a0.rows.length : Int)))
 (inb v2 a0.rows.length = true ∧
 sel (!decide (((at' (.list .int) a0.rows v2.toNat).length : Int) = (a0.vars.length : Int)))
 (R (.bool false))
 (cordonref_rightForm_I1_2 a0 R n1_2 (w64 (v2 + 1))))
 (sel (decide (1 ≤ (a0.vars.length : Int)))
 (sel (decide ((a0.consts.length : Int) = 0))
 (R (.bool (decide ((a0.lits.length : Int) = 0))))
 (R (.bool false)))
 (R (.bool false)))) := by kernel_rfl
theorem cordonref_rightForm_eq (a0 : ConD) (R : D → Prop) : fnD Try.prog Ev cordonref_rightForm_A Try.f116.results.toList (bodyOf Try.f116) [.agg [.int .i64 a0.kind, .sl .int a0.vars, .sl .int a0.consts, .int .i64 a0.n, .sl (.list .int) a0.rows, .sl .lit a0.lits]] R =
 (sel (decide (3 < a0.kind))
 (sel (!decide (a0.n = 0))
 (R (.bool false))
 (sel (decide (a0.kind = 1))
 (sel (decide (1 ≤ (a0.vars.length : Int)))
 (sel (decide ((a0.consts.length : Int) = (a0.vars.length : Int)))
 (sel (decide ((a0.rows.length : Int) = 0))
 (R (.bool (decide ((a0.lits.length : Int) = 0))))
 (R (.bool false)))
 (R (.bool false)))
 (R (.bool false)))
 (sel (decide (a0.kind = 2))
 (sel (decide (1 ≤ (a0.vars.length : Int)))
 (sel (decide ((a0.consts.length : Int) = (a0.vars.length : Int)))
 (sel (decide ((a0.rows.length : Int) = 0))
 (R (.bool (decide ((a0.lits.length : Int) = 0))))
 (R (.bool false)))
 (R (.bool false)))
 (R (.bool false)))
 (sel (decide (a0.kind = 3))
 (sel (decide (1 ≤ (a0.vars.length : Int)))
 (sel (decide ((a0.consts.length : Int) = (a0.vars.length : Int)))
 (sel (decide ((a0.rows.length : Int) = 0))
 (R (.bool (decide ((a0.lits.length : Int) = 0))))
 (R (.bool false)))
 (R (.bool false)))
 (R (.bool false)))
 (sel (decide (a0.kind = 4))
 (sel (decide (1 ≤ (a0.vars.length : Int)))
 (sel (decide ((a0.consts.length : Int) = 0))
 (sel (decide ((a0.rows.length : Int) = 0))
 (R (.bool (decide ((a0.lits.length : Int) = 0))))
 (R (.bool false)))
 (R (.bool false)))
 (R (.bool false)))
 (sel (decide (a0.kind = 5))
 (sel (decide ((a0.vars.length : Int) = 2))
 (sel (decide (1 ≤ (a0.consts.length : Int)))
 (sel (decide ((a0.rows.length : Int) = 0))
 (R (.bool (decide ((a0.lits.length : Int) = 0))))
 (R (.bool false)))
 (R (.bool false)))
 (R (.bool false)))
 (sel (decide (a0.kind = 6))
 (∃ n1, cordonref_rightForm_I1 a0 R n1 0)
 (sel (decide (a0.kind = 7))
 (sel (decide ((a0.vars.length : Int) = 3))
 (sel (decide ((a0.consts.length : Int) = 0))
 (sel (decide ((a0.rows.length : Int) = 0))
 (R (.bool (decide ((a0.lits.length : Int) = 0))))
 (R (.bool false)))
 (R (.bool false)))
 (R (.bool false)))
 (sel (decide (a0.kind = 8))
 (sel (decide (2 ≤ (a0.vars.length : Int)))
 (sel (decide ((a0.consts.length : Int) = 0))
 (sel (decide ((a0.rows.length : Int) = 0))
 (R (.bool (decide ((a0.lits.length : Int) = 0))))
 (R (.bool false)))
 (R (.bool false)))
 (R (.bool false)))
 (sel (decide (a0.kind = 9))
 (sel (decide ((a0.vars.length : Int) = 0))
 (sel (decide ((a0.consts.length : Int) = 0))
 (R (.bool (decide ((a0.rows.length : Int) = 0))))
 (R (.bool false)))
 (R (.bool false)))
 (sel (decide ((a0.vars.length : Int) = 1))
 (sel (decide ((a0.consts.length : Int) = 0))
 (sel (decide ((a0.rows.length : Int) = 0))
 (R (.bool (decide ((a0.lits.length : Int) = 1))))
 (R (.bool false)))
 (R (.bool false)))
 (R (.bool false)))))))))))))
 (sel (decide (a0.kind = 1))
 (sel (decide (1 ≤ (a0.vars.length : Int)))
 (sel (decide ((a0.consts.length : Int) = (a0.vars.length : Int)))
 (sel (decide ((a0.rows.length : Int) = 0))
 (R (.bool (decide ((a0.lits.length : Int) = 0))))
 (R (.bool false)))
 (R (.bool false)))
 (R (.bool false)))
 (sel (decide (a0.kind = 2))
 (sel (decide (1 ≤ (a0.vars.length : Int)))
 (sel (decide ((a0.consts.length : Int) = (a0.vars.length : Int)))
 (sel (decide ((a0.rows.length : Int) = 0))
 (R (.bool (decide ((a0.lits.length : Int) = 0))))
 (R (.bool false)))
 (R (.bool false)))
 (R (.bool false)))
 (sel (decide (a0.kind = 3))
 (sel (decide (1 ≤ (a0.vars.length : Int)))
 (sel (decide ((a0.consts.length : Int) = (a0.vars.length : Int)))
 (sel (decide ((a0.rows.length : Int) = 0))
 (R (.bool (decide ((a0.lits.length : Int) = 0))))
 (R (.bool false)))
 (R (.bool false)))
 (R (.bool false)))
 (sel (decide (a0.kind = 4))
 (sel (decide (1 ≤ (a0.vars.length : Int)))
 (sel (decide ((a0.consts.length : Int) = 0))
 (sel (decide ((a0.rows.length : Int) = 0))
 (R (.bool (decide ((a0.lits.length : Int) = 0))))
 (R (.bool false)))
 (R (.bool false)))
 (R (.bool false)))
 (sel (decide (a0.kind = 5))
 (sel (decide ((a0.vars.length : Int) = 2))
 (sel (decide (1 ≤ (a0.consts.length : Int)))
 (sel (decide ((a0.rows.length : Int) = 0))
 (R (.bool (decide ((a0.lits.length : Int) = 0))))
 (R (.bool false)))
 (R (.bool false)))
 (R (.bool false)))
 (sel (decide (a0.kind = 6))
 (∃ n1_2, cordonref_rightForm_I1_2 a0 R n1_2 0)
 (sel (decide (a0.kind = 7))
 (sel (decide ((a0.vars.length : Int) = 3))
 (sel (decide ((a0.consts.length : Int) = 0))
 (sel (decide ((a0.rows.length : Int) = 0))
 (R (.bool (decide ((a0.lits.length : Int) = 0))))
 (R (.bool false)))
 (R (.bool false)))
 (R (.bool false)))
 (sel (decide (a0.kind = 8))
 (sel (decide (2 ≤ (a0.vars.length : Int)))
 (sel (decide ((a0.consts.length : Int) = 0))
 (sel (decide ((a0.rows.length : Int) = 0))
 (R (.bool (decide ((a0.lits.length : Int) = 0))))
 (R (.bool false)))
 (R (.bool false)))
 (R (.bool false)))
 (sel (decide (a0.kind = 9))
 (sel (decide ((a0.vars.length : Int) = 0))
 (sel (decide ((a0.consts.length : Int) = 0))
 (R (.bool (decide ((a0.rows.length : Int) = 0))))
 (R (.bool false)))
 (R (.bool false)))
 (sel (decide ((a0.vars.length : Int) = 1))
 (sel (decide ((a0.consts.length : Int) = 0))
 (sel (decide ((a0.rows.length : Int) = 0))
 (R (.bool (decide ((a0.lits.length : Int) = 1))))
 (R (.bool false)))
 (R (.bool false)))
 (R (.bool false))))))))))))) := by kernel_rfl
theorem cordonref_rightForm_sat {r : D} (a0 : ConD) (h : (∀ d ∈ [.agg [.int .i64 a0.kind, .sl .int a0.vars, .sl .int a0.consts, .int .i64 a0.n, .sl (.list .int) a0.rows, .sl .lit a0.lits]], okD d) → fnD Try.prog Ev cordonref_rightForm_A Try.f116.results.toList (bodyOf Try.f116) [.agg [.int .i64 a0.kind, .sl .int a0.vars, .sl .int a0.consts, .int .i64 a0.n, .sl (.list .int) a0.rows, .sl .lit a0.lits]] fun d => d = r) : Sat Try.prog f_cordonref_rightForm [.agg [.int .i64 a0.kind, .sl .int a0.vars, .sl .int a0.consts, .int .i64 a0.n, .sl (.list .int) a0.rows, .sl .lit a0.lits]] r := by
  have h2 := sat_of (r := r) (args := [.agg [.int .i64 a0.kind, .sl .int a0.vars, .sl .int a0.consts, .int .i64 a0.n, .sl (.list .int) a0.rows, .sl .lit a0.lits]]) (A := cordonref_rightForm_A) (fn := Try.f116) (body := bodyOf Try.f116) (f := f_cordonref_rightForm) factsEv Try.func116 (by kernel_rfl) (by rw [Try.ntmps116]; rfl) (by rw [Try.ntmps116]; exact Nat.le_of_ble_eq_true rfl)
  with_reducible exact h2 h
end Go.Proofs.Ytonkbljpcgadlaa
