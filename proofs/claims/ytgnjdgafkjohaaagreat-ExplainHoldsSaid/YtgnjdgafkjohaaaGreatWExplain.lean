/- What the functions of a package do, as equations of plain propositions: printed by a program that carries the code out on symbols. -/
import Derived.Test.YtgnjdgafkjohaaaGreatWEv
namespace Go.Proofs.YtgnjdgafkjohaaaGreat
open Go.RowKit
set_option linter.unusedVariables false
set_option maxRecDepth 100000
/-! ### cordon/explain.Removed -/
def explain_Removed_A : Ann := { own := [], live := [], n := 39, nils := [], pubs := [] }
theorem explain_Removed_eq (a0 : MdlD) (a1 : Int) (a2 : List (List Int)) (a3 : Int) (a4 : Int) (R : D → Prop) : fnD Tryz.prog Ev explain_Removed_A Tryz.f48.results.toList (bodyOf Tryz.f48) [dM a0, dI a1, dS a2, dI a3, dI a4] R =
 (Call1 Tryz.prog f_explain_ready [dM a0, dI a1, dS a2] .int fun e1 =>
 sel (!decide (e1 = 0))
 (R (.tup [.sl .lit ([] : List LitD), dB false, dI e1]))
 (Call1 Tryz.prog f_lit_Right [dM a0, .agg [dI a3, dI 3, dI 0]] .int fun l2 =>
 sel (!decide (l2 = 0))
 (R (.tup [.sl .lit ([] : List LitD), dB false, dI 5]))
 (Call2 Tryz.prog f_explain_Gone [dM a0, dI a1, dS a2, dI a3, dI a4] (.list .lit) .bool fun e3 e4 =>
 R (.tup [.sl .lit e3, dB e4, dI 0])))) := by kernel_rfl
theorem explain_Removed_sat {r : D} (a0 : MdlD) (a1 : Int) (a2 : List (List Int)) (a3 : Int) (a4 : Int) (h : (∀ d ∈ [dM a0, dI a1, dS a2, dI a3, dI a4], okD d) → fnD Tryz.prog Ev explain_Removed_A Tryz.f48.results.toList (bodyOf Tryz.f48) [dM a0, dI a1, dS a2, dI a3, dI a4] fun d => d = r) : Sat Tryz.prog f_explain_Removed [dM a0, dI a1, dS a2, dI a3, dI a4] r := by
  have h2 := sat_of (r := r) (args := [dM a0, dI a1, dS a2, dI a3, dI a4]) (A := explain_Removed_A) (fn := Tryz.f48) (body := bodyOf Tryz.f48) (f := f_explain_Removed) factsEv Tryz.func48 (by kernel_rfl) (by rw [Tryz.ntmps48]; rfl) (by rw [Tryz.ntmps48]; exact Nat.le_of_ble_eq_true rfl)
  with_reducible exact h2 h
/-! ### cordon/explain.Failed -/
def explain_Failed_A : Ann := { own := [], live := [], n := 28, nils := [], pubs := [] }
theorem explain_Failed_eq (a0 : MdlD) (a1 : Int) (a2 : List (List Int)) (R : D → Prop) : fnD Tryz.prog Ev explain_Failed_A Tryz.f49.results.toList (bodyOf Tryz.f49) [dM a0, dI a1, dS a2] R =
 (Call1 Tryz.prog f_explain_ready [dM a0, dI a1, dS a2] .int fun e1 =>
 sel (!decide (e1 = 0))
 (R (.tup [.sl .lit ([] : List LitD), dB false, dI e1]))
 (Call2 Tryz.prog f_explain_Empty [dM a0, dI a1, dS a2] (.list .lit) .bool fun e2 e3 =>
 R (.tup [.sl .lit e2, dB e3, dI 0]))) := by kernel_rfl
theorem explain_Failed_sat {r : D} (a0 : MdlD) (a1 : Int) (a2 : List (List Int)) (h : (∀ d ∈ [dM a0, dI a1, dS a2], okD d) → fnD Tryz.prog Ev explain_Failed_A Tryz.f49.results.toList (bodyOf Tryz.f49) [dM a0, dI a1, dS a2] fun d => d = r) : Sat Tryz.prog f_explain_Failed [dM a0, dI a1, dS a2] r := by
  have h2 := sat_of (r := r) (args := [dM a0, dI a1, dS a2]) (A := explain_Failed_A) (fn := Tryz.f49) (body := bodyOf Tryz.f49) (f := f_explain_Failed) factsEv Tryz.func49 (by kernel_rfl) (by rw [Tryz.ntmps49]; rfl) (by rw [Tryz.ntmps49]; exact Nat.le_of_ble_eq_true rfl)
  with_reducible exact h2 h
/-! ### cordon/explain.ready -/
def explain_ready_A : Ann := { own := [], live := [], n := 23, nils := [], pubs := [] }
theorem explain_ready_eq (a0 : MdlD) (a1 : Int) (a2 : List (List Int)) (R : D → Prop) : fnD Tryz.prog Ev explain_ready_A Tryz.f98.results.toList (bodyOf Tryz.f98) [dM a0, dI a1, dS a2] R =
 (Call1 Tryz.prog f_store_Check [dM a0, dS a2] .int fun s1 =>
 sel (!decide (s1 = 0))
 (R (dI s1))
 (sel (decide (a1 < 0))
 (R (dI 5))
 (sel (decide ((a0.cons.length : Int) ≤ a1))
 (R (dI 5))
 (R (dI 0))))) := by kernel_rfl
theorem explain_ready_sat {r : D} (a0 : MdlD) (a1 : Int) (a2 : List (List Int)) (h : (∀ d ∈ [dM a0, dI a1, dS a2], okD d) → fnD Tryz.prog Ev explain_ready_A Tryz.f98.results.toList (bodyOf Tryz.f98) [dM a0, dI a1, dS a2] fun d => d = r) : Sat Tryz.prog f_explain_ready [dM a0, dI a1, dS a2] r := by
  have h2 := sat_of (r := r) (args := [dM a0, dI a1, dS a2]) (A := explain_ready_A) (fn := Tryz.f98) (body := bodyOf Tryz.f98) (f := f_explain_ready) factsEv Tryz.func98 (by kernel_rfl) (by rw [Tryz.ntmps98]; rfl) (by rw [Tryz.ntmps98]; exact Nat.le_of_ble_eq_true rfl)
  with_reducible exact h2 h
/-! ### cordon/explain.Gone -/
def explain_Gone_A : Ann := { own := [], live := [], n := 48, nils := [], pubs := [] }
theorem explain_Gone_eq (a0 : MdlD) (a1 : Int) (a2 : List (List Int)) (a3 : Int) (a4 : Int) (R : D → Prop) : fnD Tryz.prog Ev explain_Gone_A Tryz.f100.results.toList (bodyOf Tryz.f100) [dM a0, dI a1, dS a2, dI a3, dI a4] R =
 (Call1 Tryz.prog f_store_Empty [dS a2] .bool fun s1 =>
 sel s1
 (R (.tup [.sl .lit ([] : List LitD), dB false]))
 (inb a3 a2.length = true ∧
 Call1 Tryz.prog f_slices_Contains_l_int_int [.sl .int (at' (.list .int) a2 a3.toNat), dI a4] .bool fun s2 =>
 sel (!s2)
 (R (.tup [.sl .lit ([] : List LitD), dB false]))
 (inb a1 a0.cons.length = true ∧
 Call1 Tryz.prog f_filter_Raw [dC (at' .con a0.cons a1.toNat), dS a2] (.list (.list .int)) fun f3 =>
 inb a3 f3.length = true ∧
 Call1 Tryz.prog f_slices_Contains_l_int_int [.sl .int (at' (.list .int) f3 a3.toNat), dI a4] .bool fun s4 =>
 sel s4
 (R (.tup [.sl .lit ([] : List LitD), dB false]))
 (Call1 Tryz.prog f_explain_gone [dM a0, dI a1, dS a2] (.list .lit) fun e5 =>
 Call1 Tryz.prog f_explain_fewest [dM a0, dI a1, .sl .lit ([(⟨a3, 4, a4⟩ : LitD)]), .sl .lit e5] (.list .lit) fun e6 =>
 R (.tup [.sl .lit e6, dB true]))))) := by kernel_rfl
theorem explain_Gone_sat {r : D} (a0 : MdlD) (a1 : Int) (a2 : List (List Int)) (a3 : Int) (a4 : Int) (h : (∀ d ∈ [dM a0, dI a1, dS a2, dI a3, dI a4], okD d) → fnD Tryz.prog Ev explain_Gone_A Tryz.f100.results.toList (bodyOf Tryz.f100) [dM a0, dI a1, dS a2, dI a3, dI a4] fun d => d = r) : Sat Tryz.prog f_explain_Gone [dM a0, dI a1, dS a2, dI a3, dI a4] r := by
  have h2 := sat_of (r := r) (args := [dM a0, dI a1, dS a2, dI a3, dI a4]) (A := explain_Gone_A) (fn := Tryz.f100) (body := bodyOf Tryz.f100) (f := f_explain_Gone) factsEv Tryz.func100 (by kernel_rfl) (by rw [Tryz.ntmps100]; rfl) (by rw [Tryz.ntmps100]; exact Nat.le_of_ble_eq_true rfl)
  with_reducible exact h2 h
/-! ### cordon/explain.Empty -/
def explain_Empty_A : Ann := { own := [], live := [], n := 28, nils := [], pubs := [] }
theorem explain_Empty_eq (a0 : MdlD) (a1 : Int) (a2 : List (List Int)) (R : D → Prop) : fnD Tryz.prog Ev explain_Empty_A Tryz.f101.results.toList (bodyOf Tryz.f101) [dM a0, dI a1, dS a2] R =
 (Call1 Tryz.prog f_store_Empty [dS a2] .bool fun s1 =>
 sel s1
 (R (.tup [.sl .lit ([] : List LitD), dB false]))
 (inb a1 a0.cons.length = true ∧
 Call1 Tryz.prog f_filter_Raw [dC (at' .con a0.cons a1.toNat), dS a2] (.list (.list .int)) fun f2 =>
 Call1 Tryz.prog f_store_Empty [dS f2] .bool fun s3 =>
 sel (!s3)
 (R (.tup [.sl .lit ([] : List LitD), dB false]))
 (Call1 Tryz.prog f_explain_gone [dM a0, dI a1, dS a2] (.list .lit) fun e4 =>
 Call1 Tryz.prog f_explain_fewest [dM a0, dI a1, .sl .lit ([] : List LitD), .sl .lit e4] (.list .lit) fun e5 =>
 R (.tup [.sl .lit e5, dB true])))) := by kernel_rfl
theorem explain_Empty_sat {r : D} (a0 : MdlD) (a1 : Int) (a2 : List (List Int)) (h : (∀ d ∈ [dM a0, dI a1, dS a2], okD d) → fnD Tryz.prog Ev explain_Empty_A Tryz.f101.results.toList (bodyOf Tryz.f101) [dM a0, dI a1, dS a2] fun d => d = r) : Sat Tryz.prog f_explain_Empty [dM a0, dI a1, dS a2] r := by
  have h2 := sat_of (r := r) (args := [dM a0, dI a1, dS a2]) (A := explain_Empty_A) (fn := Tryz.f101) (body := bodyOf Tryz.f101) (f := f_explain_Empty) factsEv Tryz.func101 (by kernel_rfl) (by rw [Tryz.ntmps101]; rfl) (by rw [Tryz.ntmps101]; exact Nat.le_of_ble_eq_true rfl)
  with_reducible exact h2 h
/-! ### cordon/explain.fewest -/
def explain_fewest_A : Ann := { own := [], live := [(0, ([1, 2, 3, 4, 9], []))], n := 38, nils := [], pubs := [] }
def explain_fewest_I0 (a0 : MdlD) (a1 : Int) (a2 : List LitD) (R : D → Prop) (n0 : Nat) (l1 : List LitD) (i2 : Int) : Prop := iter (den Tryz.prog Ev explain_fewest_A (sub [1, 0, 1, 0, 0] (bodyOf Tryz.f144)) 0) explain_fewest_A (liveOf explain_fewest_A 0) n0 ⟨[(1, dI a1), (2, .sl .lit a2), (3, .sl .lit l1), (4, .iptr [.sl .var a0.vars, .sl .con a0.cons, dI a0.goal, dI a0.var] 0), (9, dI i2)], []⟩ (blockK 0 (seqK Tryz.prog Ev explain_fewest_A (sub [1, 1] (bodyOf Tryz.f144)) 0 (endK Ev Tryz.f144.results.toList R)))
theorem explain_fewest_I0_eq (a0 : MdlD) (a1 : Int) (a2 : List LitD) (R : D → Prop) (n0 : Nat) (l1 : List LitD) (i2 : Int) : explain_fewest_I0 a0 a1 a2 R (n0 + 1) l1 i2 =
 (sel (decide (i2 < (l1.length : Int)))
 (inSl 0 i2 l1.length = true ∧
 inSl (w64 (i2 + 1)) (l1.length : Int) l1.length = true ∧
 Call1 Tryz.prog f_slices_Concat_api_Clause_api_Lit [.sl (.list .lit) ([(l1.take i2.toNat).drop 0, (l1.take (l1.length : Int).toNat).drop (w64 (i2 + 1)).toNat])] (.list .lit) fun s3 =>
 Call1 Tryz.prog f_slices_Concat_api_Clause_api_Lit [.sl (.list .lit) ([a2, s3])] (.list .lit) fun s4 =>
 Call1 Tryz.prog f_proof_ByCon [dM a0, dI a1, .sl .lit s4] .bool fun p5 =>
 sel p5
 (explain_fewest_I0 a0 a1 a2 R n0 s3 i2)
 (explain_fewest_I0 a0 a1 a2 R n0 l1 (w64 (i2 + 1))))
 (Call1 Tryz.prog f_slices_Concat_api_Clause_api_Lit [.sl (.list .lit) ([a2, l1])] (.list .lit) fun s6 =>
 R (.sl .lit s6))) := by kernel_rfl
theorem explain_fewest_eq (a0 : MdlD) (a1 : Int) (a2 : List LitD) (a3 : List LitD) (R : D → Prop) : fnD Tryz.prog Ev explain_fewest_A Tryz.f144.results.toList (bodyOf Tryz.f144) [dM a0, dI a1, .sl .lit a2, .sl .lit a3] R =
 (∃ n0, explain_fewest_I0 a0 a1 a2 R n0 a3 0) := by kernel_rfl
theorem explain_fewest_sat {r : D} (a0 : MdlD) (a1 : Int) (a2 : List LitD) (a3 : List LitD) (h : (∀ d ∈ [dM a0, dI a1, .sl .lit a2, .sl .lit a3], okD d) → fnD Tryz.prog Ev explain_fewest_A Tryz.f144.results.toList (bodyOf Tryz.f144) [dM a0, dI a1, .sl .lit a2, .sl .lit a3] fun d => d = r) : Sat Tryz.prog f_explain_fewest [dM a0, dI a1, .sl .lit a2, .sl .lit a3] r := by
  have h2 := sat_of (r := r) (args := [dM a0, dI a1, .sl .lit a2, .sl .lit a3]) (A := explain_fewest_A) (fn := Tryz.f144) (body := bodyOf Tryz.f144) (f := f_explain_fewest) factsEv Tryz.func144 (by kernel_rfl) (by rw [Tryz.ntmps144]; rfl) (by rw [Tryz.ntmps144]; exact Nat.le_of_ble_eq_true rfl)
  with_reducible exact h2 h
/-! ### cordon/explain.gone -/
def explain_gone_A : Ann := { own := [7, 50], live := [(0, ([2, 3, 7, 16, 17, 18], [7])), (2, ([2, 3, 7, 9, 10, 16, 17, 18], [7]))], n := 53, nils := [], pubs := [] }
def explain_gone_I2 (a0 : MdlD) (a2 : List (List Int)) (R : D → Prop) (m1 : List Int) (n0 : Nat) (v2 : Int) (n2 : Nat) (n4 : Int) (out5 : List LitD) : Prop := iter (den Tryz.prog Ev explain_gone_A (sub [1, 1, 0, 1, 0, 0, 1, 1, 0, 0, 1, 1, 0, 0] (bodyOf Tryz.f145)) 2) explain_gone_A (liveOf explain_gone_A 2) n2 ⟨[(2, dS a2), (3, .iptr [.sl .var a0.vars, .sl .con a0.cons, dI a0.goal, dI a0.var] 0), (7, .own 7), (9, dI (at' .int m1 v2.toNat)), (10, dI n4), (16, .sl .int m1), (17, dI (m1.length : Int)), (18, dI v2)], [(7, .row 81 .lit out5)]⟩ (blockK 2 (blockK 1 (seqK Tryz.prog Ev explain_gone_A (sub [1, 1, 0, 1, 0, 0, 1, 1, 1] (bodyOf Tryz.f145)) 0 (iterK (den Tryz.prog Ev explain_gone_A (sub [1, 1, 0, 1, 0, 0] (bodyOf Tryz.f145)) 0) explain_gone_A (liveOf explain_gone_A 0) n0 (blockK 0 (seqK Tryz.prog Ev explain_gone_A (sub [1, 1, 1] (bodyOf Tryz.f145)) 0 (endK Ev Tryz.f145.results.toList R)))))))
def explain_gone_I0 (a0 : MdlD) (a2 : List (List Int)) (R : D → Prop) (m1 : List Int) (n0 : Nat) (v2 : Int) (out3 : List LitD) : Prop := iter (den Tryz.prog Ev explain_gone_A (sub [1, 1, 0, 1, 0, 0] (bodyOf Tryz.f145)) 0) explain_gone_A (liveOf explain_gone_A 0) n0 ⟨[(2, dS a2), (3, .iptr [.sl .var a0.vars, .sl .con a0.cons, dI a0.goal, dI a0.var] 0), (7, .own 7), (16, .sl .int m1), (17, dI (m1.length : Int)), (18, dI v2)], [(7, .row 81 .lit out3)]⟩ (blockK 0 (seqK Tryz.prog Ev explain_gone_A (sub [1, 1, 1] (bodyOf Tryz.f145)) 0 (endK Ev Tryz.f145.results.toList R)))
theorem explain_gone_I2_eq (a0 : MdlD) (a2 : List (List Int)) (R : D → Prop) (m1 : List Int) (n0 : Nat) (v2 : Int) (n2 : Nat) (n4 : Int) (out5 : List LitD) : explain_gone_I2 a0 a2 R m1 n0 v2 (n2 + 1) n4 out5 =
 (inb (at' .int m1 v2.toNat) a0.vars.length = true ∧
 sel (decide (n4 ≤ ((at' .var a0.vars ((at' .int m1 v2.toNat).toNat)).hi)))
 (inb (at' .int m1 v2.toNat) a2.length = true ∧
 Call1 Tryz.prog f_slices_Contains_l_int_int [.sl .int (at' (.list .int) a2 ((at' .int m1 v2.toNat).toNat)), dI n4] .bool fun s6 =>
 sel (!s6)
 (room .lit (out5.length + ([(⟨at' .int m1 v2.toNat, 3, n4⟩ : LitD)]).length) = true ∧
 explain_gone_I2 a0 a2 R m1 n0 v2 n2 (w64 (n4 + 1)) (out5 ++ ([(⟨at' .int m1 v2.toNat, 3, n4⟩ : LitD)])))
 (explain_gone_I2 a0 a2 R m1 n0 v2 n2 (w64 (n4 + 1)) out5))
 (explain_gone_I0 a0 a2 R m1 n0 (w64 (v2 + 1)) out5)) := by kernel_rfl
theorem explain_gone_I0_eq (a0 : MdlD) (a2 : List (List Int)) (R : D → Prop) (m1 : List Int) (n0 : Nat) (v2 : Int) (out3 : List LitD) : explain_gone_I0 a0 a2 R m1 (n0 + 1) v2 out3 =
 (sel (decide (v2 < (m1.length : Int)))
 (inb v2 m1.length = true ∧
 inb (at' .int m1 v2.toNat) a0.vars.length = true ∧
 ∃ n2, explain_gone_I2 a0 a2 R m1 n0 v2 n2 ((at' .var a0.vars ((at' .int m1 v2.toNat).toNat)).lo) out3)
 (R (.sl .lit out3))) := by kernel_rfl
theorem explain_gone_eq (a0 : MdlD) (a1 : Int) (a2 : List (List Int)) (R : D → Prop) : fnD Tryz.prog Ev explain_gone_A Tryz.f145.results.toList (bodyOf Tryz.f145) [dM a0, dI a1, dS a2] R =
 (inb a1 a0.cons.length = true ∧
 Call1 Tryz.prog f_model_Vars [dC (at' .con a0.cons a1.toNat)] (.list .int) fun m1 =>
 ∃ n0, explain_gone_I0 a0 a2 R m1 n0 0 ([] : List LitD)) := by kernel_rfl
theorem explain_gone_sat {r : D} (a0 : MdlD) (a1 : Int) (a2 : List (List Int)) (h : (∀ d ∈ [dM a0, dI a1, dS a2], okD d) → fnD Tryz.prog Ev explain_gone_A Tryz.f145.results.toList (bodyOf Tryz.f145) [dM a0, dI a1, dS a2] fun d => d = r) : Sat Tryz.prog f_explain_gone [dM a0, dI a1, dS a2] r := by
  have h2 := sat_of (r := r) (args := [dM a0, dI a1, dS a2]) (A := explain_gone_A) (fn := Tryz.f145) (body := bodyOf Tryz.f145) (f := f_explain_gone) factsEv Tryz.func145 (by kernel_rfl) (by rw [Tryz.ntmps145]; rfl) (by rw [Tryz.ntmps145]; exact Nat.le_of_ble_eq_true rfl)
  with_reducible exact h2 h
end Go.Proofs.YtgnjdgafkjohaaaGreat
