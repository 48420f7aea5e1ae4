/- What the functions of a package do, as equations of plain propositions: printed by a program that carries the code out on symbols. -/
import Derived.Test.YtajnbkhgnppckaaGreatWEv
namespace Go.Proofs.YtajnbkhgnppckaaGreat
open Go.RowKit
set_option linter.unusedVariables false
set_option maxRecDepth 100000
/-! ### cordon/cordonlaw.LearnLearns -/
def cordonlaw_LearnLearns_A : Ann := { own := [77, 81, 86], live := [(0, ([1, 3, 11, 12], []))], n := 88, nils := [], pubs := [] }
def cordonlaw_LearnLearns_I0 (a0 : MdlD) (a1 : List (List LitD)) (R : D → Prop) (c8 : List LitD) (n0 : Nat) (v11 : Int) : Prop := iter (den Tryz.prog Ev cordonlaw_LearnLearns_A (sub [1, 1, 1, 1, 1, 1, 1, 1, 1, 1, 0, 1, 0, 0] (bodyOf Tryz.f3)) 0) cordonlaw_LearnLearns_A (liveOf cordonlaw_LearnLearns_A 0) n0 ⟨[(1, .sl (.list .lit) a1), (3, .iptr [.sl .var a0.vars, .sl .con a0.cons, dI a0.goal, dI a0.var] 0), (11, .sl .lit c8), (12, dI v11)], []⟩ (blockK 0 (seqK Tryz.prog Ev cordonlaw_LearnLearns_A (sub [1, 1, 1, 1, 1, 1, 1, 1, 1, 1, 1] (bodyOf Tryz.f3)) 0 (endK Ev Tryz.f3.results.toList R)))
theorem cordonlaw_LearnLearns_I0_eq (a0 : MdlD) (a1 : List (List LitD)) (R : D → Prop) (c8 : List LitD) (n0 : Nat) (v11 : Int) : cordonlaw_LearnLearns_I0 a0 a1 R c8 (n0 + 1) v11 =
 (sel (decide (v11 < (c8.length : Int)))
 (inSl 0 v11 c8.length = true ∧
 inSl (w64 (v11 + 1)) (c8.length : Int) c8.length = true ∧
 room .lit (([] : List LitD).length + ((c8.take v11.toNat).drop 0).length) = true ∧
 room .lit ((([] : List LitD) ++ ((c8.take v11.toNat).drop 0)).length + ((c8.take (c8.length : Int).toNat).drop (w64 (v11 + 1)).toNat).length) = true ∧
 Call1 Tryz.prog f_cordonref_Fails [dM a0, .sl (.list .lit) a1, .sl .lit ((([] : List LitD) ++ ((c8.take v11.toNat).drop 0)) ++ ((c8.take (c8.length : Int).toNat).drop (w64 (v11 + 1)).toNat))] .bool fun c12 =>
 sel c12
 (R (dB false))
 (cordonlaw_LearnLearns_I0 a0 a1 R c8 n0 (w64 (v11 + 1))))
 (R (dB true))) := by kernel_rfl
theorem cordonlaw_LearnLearns_eq (a0 : MdlD) (a1 : List (List LitD)) (a2 : List LitD) (R : D → Prop) : fnD Tryz.prog Ev cordonlaw_LearnLearns_A Tryz.f3.results.toList (bodyOf Tryz.f3) [dM a0, .sl (.list .lit) a1, .sl .lit a2] R =
 (Call3 Tryz.prog f_learn_Learn [dM a0, .sl (.list .lit) a1, .sl .lit a2] (.list .lit) .bool .int fun l1 l2 l3 =>
 Call1 Tryz.prog f_cordonlaw_checkLearn [dM a0, .sl (.list .lit) a1, .sl .lit a2] .int fun c4 =>
 Call1 Tryz.prog f_cordonlaw_learnBegun [] .bool fun c5 =>
 sel (!c5)
 (R (dB false))
 (sel (!decide (l3 = c4))
 (R (dB false))
 (sel (!decide (c4 = 0))
 (sel (!l2)
 (R (dB (decide ((l1.length : Int) = 0))))
 (R (dB false)))
 (Call1 Tryz.prog f_cordonref_Fails [dM a0, .sl (.list .lit) a1, .sl .lit a2] .bool fun c6 =>
 sel (!(l2 == c6))
 (R (dB false))
 (sel (!l2)
 (R (dB (decide ((l1.length : Int) = 0))))
 (Call1 Tryz.prog f_cordonref_CheckClause [dM a0, .sl .lit l1] .int fun c7 =>
 sel (!decide (c7 = 0))
 (R (dB false))
 (Call1 Tryz.prog f_cordonlaw_opposites [.sl .lit l1] (.list .lit) fun c8 =>
 Call1 Tryz.prog f_cordonlaw_among [.sl .lit c8, .sl .lit a2] .bool fun c9 =>
 sel (!c9)
 (R (dB false))
 (Call1 Tryz.prog f_cordonref_Fails [dM a0, .sl (.list .lit) a1, .sl .lit c8] .bool fun c10 =>
 sel (!c10)
 (R (dB false))
 (∃ n0, cordonlaw_LearnLearns_I0 a0 a1 R c8 n0 0))))))))) := by kernel_rfl
theorem cordonlaw_LearnLearns_sat {r : D} (a0 : MdlD) (a1 : List (List LitD)) (a2 : List LitD) (h : (∀ d ∈ [dM a0, .sl (.list .lit) a1, .sl .lit a2], okD d) → fnD Tryz.prog Ev cordonlaw_LearnLearns_A Tryz.f3.results.toList (bodyOf Tryz.f3) [dM a0, .sl (.list .lit) a1, .sl .lit a2] fun d => d = r) : Sat Tryz.prog f_cordonlaw_LearnLearns [dM a0, .sl (.list .lit) a1, .sl .lit a2] r := by
  have h2 := sat_of (r := r) (args := [dM a0, .sl (.list .lit) a1, .sl .lit a2]) (A := cordonlaw_LearnLearns_A) (fn := Tryz.f3) (body := bodyOf Tryz.f3) (f := f_cordonlaw_LearnLearns) factsEv Tryz.func3 (by kernel_rfl) (by rw [Tryz.ntmps3]; rfl) (by rw [Tryz.ntmps3]; exact Nat.le_of_ble_eq_true rfl)
  with_reducible exact h2 h
/-! ### cordon/cordonlaw.checkLearn -/
def cordonlaw_checkLearn_A : Ann := { own := [], live := [(0, ([2, 3, 7, 8], []))], n := 39, nils := [], pubs := [] }
def cordonlaw_checkLearn_I0 (a0 : MdlD) (a2 : List LitD) (R : D → Prop) (n0 : Nat) (e4 : Int) (i5 : Int) : Prop := iter (den Tryz.prog Ev cordonlaw_checkLearn_A (sub [1, 1, 1, 1, 0, 1, 0, 0] (bodyOf Tryz.f8)) 0) cordonlaw_checkLearn_A (liveOf cordonlaw_checkLearn_A 0) n0 ⟨[(2, .sl .lit a2), (3, .iptr [.sl .var a0.vars, .sl .con a0.cons, dI a0.goal, dI a0.var] 0), (7, dI e4), (8, dI i5)], []⟩ (blockK 0 (seqK Tryz.prog Ev cordonlaw_checkLearn_A (sub [1, 1, 1, 1, 1] (bodyOf Tryz.f8)) 0 (endK Ev Tryz.f8.results.toList R)))
def cordonlaw_checkLearn_I0_2 (a0 : MdlD) (a2 : List LitD) (R : D → Prop) (n0_2 : Nat) (e8 : Int) (i9 : Int) : Prop := iter (den Tryz.prog Ev cordonlaw_checkLearn_A (sub [1, 1, 1, 1, 0, 1, 0, 0] (bodyOf Tryz.f8)) 0) cordonlaw_checkLearn_A (liveOf cordonlaw_checkLearn_A 0) n0_2 ⟨[(2, .sl .lit a2), (3, .iptr [.sl .var a0.vars, .sl .con a0.cons, dI a0.goal, dI a0.var] 0), (7, dI e8), (8, dI i9)], []⟩ (blockK 0 (seqK Tryz.prog Ev cordonlaw_checkLearn_A (sub [1, 1, 1, 1, 1] (bodyOf Tryz.f8)) 0 (endK Ev Tryz.f8.results.toList R)))
def cordonlaw_checkLearn_I0_3 (a0 : MdlD) (a2 : List LitD) (R : D → Prop) (n0_3 : Nat) (e13 : Int) (i14 : Int) : Prop := iter (den Tryz.prog Ev cordonlaw_checkLearn_A (sub [1, 1, 1, 1, 0, 1, 0, 0] (bodyOf Tryz.f8)) 0) cordonlaw_checkLearn_A (liveOf cordonlaw_checkLearn_A 0) n0_3 ⟨[(2, .sl .lit a2), (3, .iptr [.sl .var a0.vars, .sl .con a0.cons, dI a0.goal, dI a0.var] 0), (7, dI e13), (8, dI i14)], []⟩ (blockK 0 (seqK Tryz.prog Ev cordonlaw_checkLearn_A (sub [1, 1, 1, 1, 1] (bodyOf Tryz.f8)) 0 (endK Ev Tryz.f8.results.toList R)))
def cordonlaw_checkLearn_I0_4 (a0 : MdlD) (a2 : List LitD) (R : D → Prop) (n0_4 : Nat) (e17 : Int) (i18 : Int) : Prop := iter (den Tryz.prog Ev cordonlaw_checkLearn_A (sub [1, 1, 1, 1, 0, 1, 0, 0] (bodyOf Tryz.f8)) 0) cordonlaw_checkLearn_A (liveOf cordonlaw_checkLearn_A 0) n0_4 ⟨[(2, .sl .lit a2), (3, .iptr [.sl .var a0.vars, .sl .con a0.cons, dI a0.goal, dI a0.var] 0), (7, dI e17), (8, dI i18)], []⟩ (blockK 0 (seqK Tryz.prog Ev cordonlaw_checkLearn_A (sub [1, 1, 1, 1, 1] (bodyOf Tryz.f8)) 0 (endK Ev Tryz.f8.results.toList R)))
theorem cordonlaw_checkLearn_I0_eq (a0 : MdlD) (a2 : List LitD) (R : D → Prop) (n0 : Nat) (e4 : Int) (i5 : Int) : cordonlaw_checkLearn_I0 a0 a2 R (n0 + 1) e4 i5 =
 (sel (decide (i5 < (a2.length : Int)))
 (sel (decide (e4 = 0))
 (inb i5 a2.length = true ∧
 Call1 Tryz.prog f_cordonref_OppositeOf [dL (at' .lit a2 i5.toNat)] .lit fun c6 =>
 Call1 Tryz.prog f_cordonref_CheckLit [dM a0, dL c6] .int fun c7 =>
 cordonlaw_checkLearn_I0 a0 a2 R n0 c7 (w64 (i5 + 1)))
 (R (dI e4)))
 (R (dI e4))) := by kernel_rfl
theorem cordonlaw_checkLearn_I0_2_eq (a0 : MdlD) (a2 : List LitD) (R : D → Prop) (n0_2 : Nat) (e8 : Int) (i9 : Int) : cordonlaw_checkLearn_I0_2 a0 a2 R (n0_2 + 1) e8 i9 =
 (sel (decide (i9 < (a2.length : Int)))
 (sel (decide (e8 = 0))
 (inb i9 a2.length = true ∧
 Call1 Tryz.prog f_cordonref_OppositeOf [dL (at' .lit a2 i9.toNat)] .lit fun c10 =>
 Call1 Tryz.prog f_cordonref_CheckLit [dM a0, dL c10] .int fun c11 =>
 cordonlaw_checkLearn_I0_2 a0 a2 R n0_2 c11 (w64 (i9 + 1)))
 (R (dI e8)))
 (R (dI e8))) := by kernel_rfl
theorem cordonlaw_checkLearn_I0_4_eq (a0 : MdlD) (a2 : List LitD) (R : D → Prop) (n0_4 : Nat) (e17 : Int) (i18 : Int) : cordonlaw_checkLearn_I0_4 a0 a2 R (n0_4 + 1) e17 i18 =
 (sel (decide (i18 < (a2.length : Int)))
 (sel (decide (e17 = 0))
 (inb i18 a2.length = true ∧
 Call1 Tryz.prog f_cordonref_OppositeOf [dL (at' .lit a2 i18.toNat)] .lit fun c19 =>
 Call1 Tryz.prog f_cordonref_CheckLit [dM a0, dL c19] .int fun c20 =>
 cordonlaw_checkLearn_I0_4 a0 a2 R n0_4 c20 (w64 (i18 + 1)))
 (R (dI e17)))
 (R (dI e17))) := by kernel_rfl
theorem cordonlaw_checkLearn_eq (a0 : MdlD) (a1 : List (List LitD)) (a2 : List LitD) (R : D → Prop) : fnD Tryz.prog Ev cordonlaw_checkLearn_A Tryz.f8.results.toList (bodyOf Tryz.f8) [dM a0, .sl (.list .lit) a1, .sl .lit a2] R =
 (Call1 Tryz.prog f_cordonref_CheckModel [dM a0] .int fun c1 =>
 sel (decide (c1 = 0))
 (Call1 Tryz.prog f_cordonref_CheckClauses [dM a0, .sl (.list .lit) a1] .int fun c2 =>
 sel (decide (c2 = 0))
 (Call1 Tryz.prog f_cordonref_CheckClause [dM a0, .sl .lit a2] .int fun c3 =>
 ∃ n0, cordonlaw_checkLearn_I0 a0 a2 R n0 c3 0)
 (∃ n0_2, cordonlaw_checkLearn_I0_2 a0 a2 R n0_2 c2 0))
 (sel (decide (c1 = 0))
 (Call1 Tryz.prog f_cordonref_CheckClause [dM a0, .sl .lit a2] .int fun c12 =>
 ∃ n0_3, cordonlaw_checkLearn_I0_3 a0 a2 R n0_3 c12 0)
 (∃ n0_4, cordonlaw_checkLearn_I0_4 a0 a2 R n0_4 c1 0))) := by kernel_rfl
theorem cordonlaw_checkLearn_sat {r : D} (a0 : MdlD) (a1 : List (List LitD)) (a2 : List LitD) (h : (∀ d ∈ [dM a0, .sl (.list .lit) a1, .sl .lit a2], okD d) → fnD Tryz.prog Ev cordonlaw_checkLearn_A Tryz.f8.results.toList (bodyOf Tryz.f8) [dM a0, .sl (.list .lit) a1, .sl .lit a2] fun d => d = r) : Sat Tryz.prog f_cordonlaw_checkLearn [dM a0, .sl (.list .lit) a1, .sl .lit a2] r := by
  have h2 := sat_of (r := r) (args := [dM a0, .sl (.list .lit) a1, .sl .lit a2]) (A := cordonlaw_checkLearn_A) (fn := Tryz.f8) (body := bodyOf Tryz.f8) (f := f_cordonlaw_checkLearn) factsEv Tryz.func8 (by kernel_rfl) (by rw [Tryz.ntmps8]; rfl) (by rw [Tryz.ntmps8]; exact Nat.le_of_ble_eq_true rfl)
  with_reducible exact h2 h
/-! ### cordon/cordonlaw.learnBegun -/
def cordonlaw_learnBegun_A : Ann := { own := [], live := [], n := 75, nils := [], pubs := [] }
theorem cordonlaw_learnBegun_eq  (R : D → Prop) : fnD Tryz.prog Ev cordonlaw_learnBegun_A Tryz.f9.results.toList (bodyOf Tryz.f9) [] R =
 (Call1 Tryz.prog f_cordonlaw_two [] .mdl fun c1 =>
 Call3 Tryz.prog f_learn_Learn [dM c1, .sl (.list .lit) ([] : List (List LitD)), .sl .lit ([(⟨1, 1, 0⟩ : LitD)])] (.list .lit) .bool .int fun l2 l3 l4 =>
 Call1 Tryz.prog f_cordonlaw_two [] .mdl fun c5 =>
 Call3 Tryz.prog f_learn_Learn [dM c5, .sl (.list .lit) ([] : List (List LitD)), .sl .lit ([] : List LitD)] (.list .lit) .bool .int fun l6 l7 l8 =>
 Call1 Tryz.prog f_cordonlaw_two [] .mdl fun c9 =>
 Call3 Tryz.prog f_learn_Steps [dM c9, .sl (.list .lit) ([] : List (List LitD)), .sl .lit ([(⟨1, 1, 0⟩ : LitD)])] (.list .step) .bool .int fun l10 l11 l12 =>
 sel (decide (l4 = 0))
 (sel (decide (l8 = 0))
 (sel (decide (l12 = 0))
 (sel l3
 (sel (!l7)
 (sel l11
 (Call1 Tryz.prog f_cordonref_SameClause [.sl .lit l2, .sl .lit ([(⟨1, 2, 1⟩ : LitD)])] .bool fun c13 =>
 sel c13
 (sel (decide (0 < (l10.length : Int)))
 (inb (w64 ((l10.length : Int) - 1)) l10.length = true ∧
 Call1 Tryz.prog f_cordonref_SameClause [.sl .lit ((at' .step l10 ((w64 ((l10.length : Int) - 1)).toNat)).clause), .sl .lit l2] .bool fun c14 =>
 R (dB c14))
 (R (dB false)))
 (R (dB false)))
 (R (dB false)))
 (R (dB false)))
 (R (dB false)))
 (R (dB false)))
 (R (dB false)))
 (R (dB false))) := by kernel_rfl
theorem cordonlaw_learnBegun_sat {r : D}  (h : (∀ d ∈ [], okD d) → fnD Tryz.prog Ev cordonlaw_learnBegun_A Tryz.f9.results.toList (bodyOf Tryz.f9) [] fun d => d = r) : Sat Tryz.prog f_cordonlaw_learnBegun [] r := by
  have h2 := sat_of (r := r) (args := []) (A := cordonlaw_learnBegun_A) (fn := Tryz.f9) (body := bodyOf Tryz.f9) (f := f_cordonlaw_learnBegun) factsEv Tryz.func9 (by kernel_rfl) (by rw [Tryz.ntmps9]; rfl) (by rw [Tryz.ntmps9]; exact Nat.le_of_ble_eq_true rfl)
  with_reducible exact h2 h
/-! ### cordon/cordonlaw.opposites -/
def cordonlaw_opposites_A : Ann := { own := [3, 18], live := [(0, ([0, 3, 4], [3]))], n := 20, nils := [], pubs := [] }
def cordonlaw_opposites_I0 (a0 : List LitD) (R : D → Prop) (n0 : Nat) (i1 : Int) (out2 : List LitD) : Prop := iter (den Tryz.prog Ev cordonlaw_opposites_A (sub [1, 1, 0, 1, 0, 0] (bodyOf Tryz.f12)) 0) cordonlaw_opposites_A (liveOf cordonlaw_opposites_A 0) n0 ⟨[(0, .sl .lit a0), (3, .own 3), (4, dI i1)], [(3, .row 82 .lit out2)]⟩ (blockK 0 (seqK Tryz.prog Ev cordonlaw_opposites_A (sub [1, 1, 1] (bodyOf Tryz.f12)) 0 (endK Ev Tryz.f12.results.toList R)))
theorem cordonlaw_opposites_I0_eq (a0 : List LitD) (R : D → Prop) (n0 : Nat) (i1 : Int) (out2 : List LitD) : cordonlaw_opposites_I0 a0 R (n0 + 1) i1 out2 =
 (sel (decide (i1 < (a0.length : Int)))
 (inb i1 a0.length = true ∧
 Call1 Tryz.prog f_cordonref_OppositeOf [dL (at' .lit a0 i1.toNat)] .lit fun c3 =>
 room .lit (out2.length + ([c3]).length) = true ∧
 cordonlaw_opposites_I0 a0 R n0 (w64 (i1 + 1)) (out2 ++ ([c3])))
 (R (.sl .lit out2))) := by kernel_rfl
theorem cordonlaw_opposites_eq (a0 : List LitD) (R : D → Prop) : fnD Tryz.prog Ev cordonlaw_opposites_A Tryz.f12.results.toList (bodyOf Tryz.f12) [.sl .lit a0] R =
 (∃ n0, cordonlaw_opposites_I0 a0 R n0 0 ([] : List LitD)) := by kernel_rfl
theorem cordonlaw_opposites_sat {r : D} (a0 : List LitD) (h : (∀ d ∈ [.sl .lit a0], okD d) → fnD Tryz.prog Ev cordonlaw_opposites_A Tryz.f12.results.toList (bodyOf Tryz.f12) [.sl .lit a0] fun d => d = r) : Sat Tryz.prog f_cordonlaw_opposites [.sl .lit a0] r := by
  have h2 := sat_of (r := r) (args := [.sl .lit a0]) (A := cordonlaw_opposites_A) (fn := Tryz.f12) (body := bodyOf Tryz.f12) (f := f_cordonlaw_opposites) factsEv Tryz.func12 (by kernel_rfl) (by rw [Tryz.ntmps12]; rfl) (by rw [Tryz.ntmps12]; exact Nat.le_of_ble_eq_true rfl)
  with_reducible exact h2 h
/-! ### cordon/cordonlaw.among -/
def cordonlaw_among_A : Ann := { own := [], live := [(0, ([0, 1, 5], [])), (2, ([0, 1, 5, 6, 7], []))], n := 34, nils := [], pubs := [] }
def cordonlaw_among_I2 (a0 : List LitD) (a1 : List LitD) (R : D → Prop) (n0 : Nat) (i1 : Int) (n2 : Nat) (is2 : Bool) (k3 : Int) : Prop := iter (den Tryz.prog Ev cordonlaw_among_A (sub [1, 0, 1, 0, 0, 1, 0, 0, 1, 0, 1, 0, 0] (bodyOf Tryz.f13)) 2) cordonlaw_among_A (liveOf cordonlaw_among_A 2) n2 ⟨[(0, .sl .lit a0), (1, .sl .lit a1), (5, dI i1), (6, dB is2), (7, dI k3)], []⟩ (blockK 2 (seqK Tryz.prog Ev cordonlaw_among_A (sub [1, 0, 1, 0, 0, 1, 0, 0, 1, 1] (bodyOf Tryz.f13)) 1 (blockK 1 (seqK Tryz.prog Ev cordonlaw_among_A (sub [1, 0, 1, 0, 0, 1, 1] (bodyOf Tryz.f13)) 0 (iterK (den Tryz.prog Ev cordonlaw_among_A (sub [1, 0, 1, 0, 0] (bodyOf Tryz.f13)) 0) cordonlaw_among_A (liveOf cordonlaw_among_A 0) n0 (blockK 0 (seqK Tryz.prog Ev cordonlaw_among_A (sub [1, 1] (bodyOf Tryz.f13)) 0 (endK Ev Tryz.f13.results.toList R))))))))
def cordonlaw_among_I0 (a0 : List LitD) (a1 : List LitD) (R : D → Prop) (n0 : Nat) (i1 : Int) : Prop := iter (den Tryz.prog Ev cordonlaw_among_A (sub [1, 0, 1, 0, 0] (bodyOf Tryz.f13)) 0) cordonlaw_among_A (liveOf cordonlaw_among_A 0) n0 ⟨[(0, .sl .lit a0), (1, .sl .lit a1), (5, dI i1)], []⟩ (blockK 0 (seqK Tryz.prog Ev cordonlaw_among_A (sub [1, 1] (bodyOf Tryz.f13)) 0 (endK Ev Tryz.f13.results.toList R)))
theorem cordonlaw_among_I2_eq (a0 : List LitD) (a1 : List LitD) (R : D → Prop) (n0 : Nat) (i1 : Int) (n2 : Nat) (is2 : Bool) (k3 : Int) : cordonlaw_among_I2 a0 a1 R n0 i1 (n2 + 1) is2 k3 =
 (sel (decide (k3 < (a1.length : Int)))
 (sel is2
 (cordonlaw_among_I2 a0 a1 R n0 i1 n2 true (w64 (k3 + 1)))
 (inb i1 a0.length = true ∧
 inb k3 a1.length = true ∧
 cordonlaw_among_I2 a0 a1 R n0 i1 n2 (decide ((at' .lit a0 i1.toNat) = (at' .lit a1 k3.toNat))) (w64 (k3 + 1))))
 (sel (!is2)
 (R (dB false))
 (cordonlaw_among_I0 a0 a1 R n0 (w64 (i1 + 1))))) := by kernel_rfl
theorem cordonlaw_among_I0_eq (a0 : List LitD) (a1 : List LitD) (R : D → Prop) (n0 : Nat) (i1 : Int) : cordonlaw_among_I0 a0 a1 R (n0 + 1) i1 =
 (sel (decide (i1 < (a0.length : Int)))
 (∃ n2, cordonlaw_among_I2 a0 a1 R n0 i1 n2 false 0)
 (R (dB true))) := by kernel_rfl
theorem cordonlaw_among_eq (a0 : List LitD) (a1 : List LitD) (R : D → Prop) : fnD Tryz.prog Ev cordonlaw_among_A Tryz.f13.results.toList (bodyOf Tryz.f13) [.sl .lit a0, .sl .lit a1] R =
 (∃ n0, cordonlaw_among_I0 a0 a1 R n0 0) := by kernel_rfl
theorem cordonlaw_among_sat {r : D} (a0 : List LitD) (a1 : List LitD) (h : (∀ d ∈ [.sl .lit a0, .sl .lit a1], okD d) → fnD Tryz.prog Ev cordonlaw_among_A Tryz.f13.results.toList (bodyOf Tryz.f13) [.sl .lit a0, .sl .lit a1] fun d => d = r) : Sat Tryz.prog f_cordonlaw_among [.sl .lit a0, .sl .lit a1] r := by
  have h2 := sat_of (r := r) (args := [.sl .lit a0, .sl .lit a1]) (A := cordonlaw_among_A) (fn := Tryz.f13) (body := bodyOf Tryz.f13) (f := f_cordonlaw_among) factsEv Tryz.func13 (by kernel_rfl) (by rw [Tryz.ntmps13]; rfl) (by rw [Tryz.ntmps13]; exact Nat.le_of_ble_eq_true rfl)
  with_reducible exact h2 h
/-! ### cordon/cordonlaw.two -/
def cordonlaw_two_A : Ann := { own := [0], live := [], n := 9, nils := [], pubs := [] }
theorem cordonlaw_two_eq  (R : D → Prop) : fnD Tryz.prog Ev cordonlaw_two_A Tryz.f53.results.toList (bodyOf Tryz.f53) [] R =
 (R (.agg [.sl .var ([(⟨(⟨#[120]⟩ : ByteArray), 0, 2⟩ : VarD), (⟨(⟨#[121]⟩ : ByteArray), 0, 2⟩ : VarD)]), .sl .con ([(⟨1, [0, 1], [1, -1], -1, ([] : List (List Int)), ([] : List LitD)⟩ : ConD)]), dI 1, dI 1])) := by kernel_rfl
theorem cordonlaw_two_sat {r : D}  (h : (∀ d ∈ [], okD d) → fnD Tryz.prog Ev cordonlaw_two_A Tryz.f53.results.toList (bodyOf Tryz.f53) [] fun d => d = r) : Sat Tryz.prog f_cordonlaw_two [] r := by
  have h2 := sat_of (r := r) (args := []) (A := cordonlaw_two_A) (fn := Tryz.f53) (body := bodyOf Tryz.f53) (f := f_cordonlaw_two) factsEv Tryz.func53 (by kernel_rfl) (by rw [Tryz.ntmps53]; rfl) (by rw [Tryz.ntmps53]; exact Nat.le_of_ble_eq_true rfl)
  with_reducible exact h2 h
end Go.Proofs.YtajnbkhgnppckaaGreat
