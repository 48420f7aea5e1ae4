/- What the functions of a package do, as equations of plain propositions: printed by a program that carries the code out on symbols. -/
import Derived.Test.YtajnbkhgnppckaaGreatDoorWEv
namespace Go.Proofs.YtajnbkhgnppckaaGreatDoor
open Go.RowKit
set_option linter.unusedVariables false
set_option maxRecDepth 100000
def zxl : Ann := { own := [5, 7], live := [], n := 44, nils := [], pubs := [] }
theorem z6t (a0 : ConD) (a1 : List (List Int)) (R : D → Prop) : FD zxl Tryz.f99 [dC a0, dS a1] R =
 (Call1 Tryz.prog zf [dS a1] .bool fun s1 =>
 sel s1
 (Call1 Tryz.prog zvb [dS a1] (.list (.list .int)) fun s2 =>
 R (dS s2))
 (Call1 Tryz.prog zub [dC a0] (.list .int) fun m3 =>
 sel (decide ((m3.length : Int) = 0))
 (Call1 Tryz.prog zSb [dC a0, .sl .int ([] : List Int)] .bool fun m4 =>
 sel m4
 (Call1 Tryz.prog zvb [dS a1] (.list (.list .int)) fun s5 =>
 R (dS s5))
 (Call1 Tryz.prog zG [dS a1] (.list (.list .int)) fun s6 =>
 R (dS s6)))
 (sel (decide (a0.kind ≤ 3))
 (∃ l7 : List TermD, ∃ l8 : List (Int × (List Int)), ∃ l9 : ConD, SatH Tryz.prog zLe [dC a0, dS a1] [] (.clo zVb none [.iptr [.sl .term l7] 0, .iptr [.mp .int (.list .int) l8] 0, .iptr [dI l9.kind, .sl .int l9.vars, .sl .int l9.consts, dI l9.n, dS l9.rows, .sl .lit l9.lits] 0]) [] ∧
 Call1 Tryz.prog zC [dS a1, .clo zhb none [.iptr [.sl .int m3] 0, .iptr [.clo zVb none [.iptr [.sl .term l7] 0, .iptr [.mp .int (.list .int) l8] 0, .iptr [dI l9.kind, .sl .int l9.vars, .sl .int l9.consts, dI l9.n, dS l9.rows, .sl .lit l9.lits] 0]] 0]] (.list (.list .int)) fun s10 =>
 R (dS s10))
 (sel (decide (a0.kind = 4))
 (Call1 Tryz.prog zMe [.sl .int a0.vars] .bool fun f11 =>
 sel (!f11)
 (∃ d12 : List (List Int), ∃ d13 : ConD, SatH Tryz.prog zNe [dC a0, dS a1] [] (.clo zWb none [.iptr [dS d12] 0, .iptr [dI d13.kind, .sl .int d13.vars, .sl .int d13.consts, dI d13.n, dS d13.rows, .sl .lit d13.lits] 0]) [] ∧
 Call1 Tryz.prog zC [dS a1, .clo zhb none [.iptr [.sl .int m3] 0, .iptr [.clo zWb none [.iptr [dS d12] 0, .iptr [dI d13.kind, .sl .int d13.vars, .sl .int d13.consts, dI d13.n, dS d13.rows, .sl .lit d13.lits] 0]] 0]] (.list (.list .int)) fun s14 =>
 R (dS s14))
 (∃ e15 : ConD, ∃ e16 : List (List Int), ∃ e17 : List Int, ∃ e18 : List Int, ∃ e19 : List ((Int × Int) × Int), SatH Tryz.prog zlc [dC a0, dS a1] [] (.clo zh none [.iptr [.iptr [dI e15.kind, .sl .int e15.vars, .sl .int e15.consts, dI e15.n, dS e15.rows, .sl .lit e15.lits, dS e16, .sl .int e17, .sl .int e18, .mp (.pr .int .int) .int e19] 0] 0]) [] ∧
 Call1 Tryz.prog zC [dS a1, .clo zhb none [.iptr [.sl .int m3] 0, .iptr [.clo zh none [.iptr [.iptr [dI e15.kind, .sl .int e15.vars, .sl .int e15.consts, dI e15.n, dS e15.rows, .sl .lit e15.lits, dS e16, .sl .int e17, .sl .int e18, .mp (.pr .int .int) .int e19] 0] 0]] 0]] (.list (.list .int)) fun s20 =>
 R (dS s20)))
 (∃ e21 : ConD, ∃ e22 : List (List Int), ∃ e23 : List Int, ∃ e24 : List Int, ∃ e25 : List ((Int × Int) × Int), SatH Tryz.prog zlc [dC a0, dS a1] [] (.clo zh none [.iptr [.iptr [dI e21.kind, .sl .int e21.vars, .sl .int e21.consts, dI e21.n, dS e21.rows, .sl .lit e21.lits, dS e22, .sl .int e23, .sl .int e24, .mp (.pr .int .int) .int e25] 0] 0]) [] ∧
 Call1 Tryz.prog zC [dS a1, .clo zhb none [.iptr [.sl .int m3] 0, .iptr [.clo zh none [.iptr [.iptr [dI e21.kind, .sl .int e21.vars, .sl .int e21.consts, dI e21.n, dS e21.rows, .sl .lit e21.lits, dS e22, .sl .int e23, .sl .int e24, .mp (.pr .int .int) .int e25] 0] 0]] 0]] (.list (.list .int)) fun s26 =>
 R (dS s26)))))) := by kernel_rfl
theorem z7t (a0 : ConD) (a1 : List (List Int)) : SatI zxl Tryz.f99 zwb [dC a0, dS a1] := satD Tryz.func99 (by kernel_rfl) Tryz.ntmps99 rfl
def zyl : Ann := { own := [5, 12, 13, 15], live := [], n := 19, nils := [], pubs := [] }
theorem z8t (c0 : ConD) (s0 : List (List Int)) (R : D → List (Nat × HObj) → Prop) : FH zyl Tryz.f136 [dC c0, dS s0] [] [] false R =
 (Call1 Tryz.prog zub [dC c0] (.list .int) fun m1 =>
 ((s0.length : Int) = (s0.length : Int) ∧
 0 ≤ (s0.length : Int) ∧
 room .int ((s0.length : Int).toNat) = true ∧
 (((∃ w2 : List Int, ∃ w3 : List ((Int × Int) × Int), SatH Tryz.prog zq [.ptr 1000 0, dI 0] [(1000, .cells [dI c0.kind, .sl .int c0.vars, .sl .int c0.consts, dI c0.n, dS c0.rows, .sl .lit c0.lits, dS s0, .sl .int m1, .own 2000, .own 1001]), (2000, .row 3 .int (List.replicate ((s0.length : Int).toNat) (Ty.dflt .int))), (1001, .mp (.pr .int .int) .int ([] : List ((Int × Int) × Int)))] (.tup []) [(1000, .cells [dI c0.kind, .sl .int c0.vars, .sl .int c0.consts, dI c0.n, dS c0.rows, .sl .lit c0.lits, dS s0, .sl .int m1, .own 2000, .own 1001]), (2000, .row 3 .int w2), (1001, .mp (.pr .int .int) .int w3)] ∧
 R (.clo zh none [.iptr [.iptr [dI c0.kind, .sl .int c0.vars, .sl .int c0.consts, dI c0.n, dS c0.rows, .sl .lit c0.lits, dS s0, .sl .int m1, .sl .int w2, .mp (.pr .int .int) .int w3] 0] 0]) []) ∧
 ∃ w4 : List Int, ∃ w5 : List ((Int × Int) × Int), SatH Tryz.prog zq [.ptr 1000 0, dI 0] [(1000, .cells [dI c0.kind, .sl .int c0.vars, .sl .int c0.consts, dI c0.n, dS c0.rows, .sl .lit c0.lits, dS s0, .sl .int m1, .own 2000, .own 1001]), (2000, .row 3 .int (List.replicate ((s0.length : Int).toNat) (Ty.dflt .int))), (1001, .mp (.pr .int .int) .int ([] : List ((Int × Int) × Int)))] (.tup []) [(1000, .cells [dI c0.kind, .sl .int c0.vars, .sl .int c0.consts, dI c0.n, dS c0.rows, .sl .lit c0.lits, dS s0, .sl .int m1, .own 2000, .own 1001]), (2000, .row 3 .int w4), (1001, .mp (.pr .int .int) .int w5)] ∧
 R (.clo zh none [.iptr [.iptr [dI c0.kind, .sl .int c0.vars, .sl .int c0.consts, dI c0.n, dS c0.rows, .sl .lit c0.lits, dS s0, .sl .int m1, .sl .int w4, .mp (.pr .int .int) .int w5] 0] 0]) []) ∧
 ∃ w6 : List Int, ∃ w7 : List ((Int × Int) × Int), SatH Tryz.prog zq [.ptr 1000 0, dI 0] [(1000, .cells [dI c0.kind, .sl .int c0.vars, .sl .int c0.consts, dI c0.n, dS c0.rows, .sl .lit c0.lits, dS s0, .sl .int m1, .own 2000, .own 1001]), (2000, .row 3 .int (List.replicate ((s0.length : Int).toNat) (Ty.dflt .int))), (1001, .mp (.pr .int .int) .int ([] : List ((Int × Int) × Int)))] (.tup []) [(1000, .cells [dI c0.kind, .sl .int c0.vars, .sl .int c0.consts, dI c0.n, dS c0.rows, .sl .lit c0.lits, dS s0, .sl .int m1, .own 2000, .own 1001]), (2000, .row 3 .int w6), (1001, .mp (.pr .int .int) .int w7)] ∧
 R (.clo zh none [.iptr [.iptr [dI c0.kind, .sl .int c0.vars, .sl .int c0.consts, dI c0.n, dS c0.rows, .sl .lit c0.lits, dS s0, .sl .int m1, .sl .int w6, .mp (.pr .int .int) .int w7] 0] 0]) []) ∧
 ∃ w8 : List Int, ∃ w9 : List ((Int × Int) × Int), SatH Tryz.prog zq [.ptr 1000 0, dI 0] [(1000, .cells [dI c0.kind, .sl .int c0.vars, .sl .int c0.consts, dI c0.n, dS c0.rows, .sl .lit c0.lits, dS s0, .sl .int m1, .own 2000, .own 1001]), (2000, .row 3 .int (List.replicate ((s0.length : Int).toNat) (Ty.dflt .int))), (1001, .mp (.pr .int .int) .int ([] : List ((Int × Int) × Int)))] (.tup []) [(1000, .cells [dI c0.kind, .sl .int c0.vars, .sl .int c0.consts, dI c0.n, dS c0.rows, .sl .lit c0.lits, dS s0, .sl .int m1, .own 2000, .own 1001]), (2000, .row 3 .int w8), (1001, .mp (.pr .int .int) .int w9)] ∧
 R (.clo zh none [.iptr [.iptr [dI c0.kind, .sl .int c0.vars, .sl .int c0.consts, dI c0.n, dS c0.rows, .sl .lit c0.lits, dS s0, .sl .int m1, .sl .int w8, .mp (.pr .int .int) .int w9] 0] 0]) []) ∧
 (((s0.length : Int) = (s0.length : Int) ∧
 0 ≤ (s0.length : Int) ∧
 room .int ((s0.length : Int).toNat) = true ∧
 ((∃ w10 : List Int, ∃ w11 : List ((Int × Int) × Int), SatH Tryz.prog zq [.ptr 1000 0, dI 0] [(1000, .cells [dI c0.kind, .sl .int c0.vars, .sl .int c0.consts, dI c0.n, dS c0.rows, .sl .lit c0.lits, dS s0, .sl .int m1, .own 2000, .own 1001]), (2000, .row 3 .int (List.replicate ((s0.length : Int).toNat) (Ty.dflt .int))), (1001, .mp (.pr .int .int) .int ([] : List ((Int × Int) × Int)))] (.tup []) [(1000, .cells [dI c0.kind, .sl .int c0.vars, .sl .int c0.consts, dI c0.n, dS c0.rows, .sl .lit c0.lits, dS s0, .sl .int m1, .own 2000, .own 1001]), (2000, .row 3 .int w10), (1001, .mp (.pr .int .int) .int w11)] ∧
 R (.clo zh none [.iptr [.iptr [dI c0.kind, .sl .int c0.vars, .sl .int c0.consts, dI c0.n, dS c0.rows, .sl .lit c0.lits, dS s0, .sl .int m1, .sl .int w10, .mp (.pr .int .int) .int w11] 0] 0]) []) ∧
 ∃ w12 : List Int, ∃ w13 : List ((Int × Int) × Int), SatH Tryz.prog zq [.ptr 1000 0, dI 0] [(1000, .cells [dI c0.kind, .sl .int c0.vars, .sl .int c0.consts, dI c0.n, dS c0.rows, .sl .lit c0.lits, dS s0, .sl .int m1, .own 2000, .own 1001]), (2000, .row 3 .int (List.replicate ((s0.length : Int).toNat) (Ty.dflt .int))), (1001, .mp (.pr .int .int) .int ([] : List ((Int × Int) × Int)))] (.tup []) [(1000, .cells [dI c0.kind, .sl .int c0.vars, .sl .int c0.consts, dI c0.n, dS c0.rows, .sl .lit c0.lits, dS s0, .sl .int m1, .own 2000, .own 1001]), (2000, .row 3 .int w12), (1001, .mp (.pr .int .int) .int w13)] ∧
 R (.clo zh none [.iptr [.iptr [dI c0.kind, .sl .int c0.vars, .sl .int c0.consts, dI c0.n, dS c0.rows, .sl .lit c0.lits, dS s0, .sl .int m1, .sl .int w12, .mp (.pr .int .int) .int w13] 0] 0]) []) ∧
 ∃ w14 : List Int, ∃ w15 : List ((Int × Int) × Int), SatH Tryz.prog zq [.ptr 1000 0, dI 0] [(1000, .cells [dI c0.kind, .sl .int c0.vars, .sl .int c0.consts, dI c0.n, dS c0.rows, .sl .lit c0.lits, dS s0, .sl .int m1, .own 2000, .own 1001]), (2000, .row 3 .int (List.replicate ((s0.length : Int).toNat) (Ty.dflt .int))), (1001, .mp (.pr .int .int) .int ([] : List ((Int × Int) × Int)))] (.tup []) [(1000, .cells [dI c0.kind, .sl .int c0.vars, .sl .int c0.consts, dI c0.n, dS c0.rows, .sl .lit c0.lits, dS s0, .sl .int m1, .own 2000, .own 1001]), (2000, .row 3 .int w14), (1001, .mp (.pr .int .int) .int w15)] ∧
 R (.clo zh none [.iptr [.iptr [dI c0.kind, .sl .int c0.vars, .sl .int c0.consts, dI c0.n, dS c0.rows, .sl .lit c0.lits, dS s0, .sl .int m1, .sl .int w14, .mp (.pr .int .int) .int w15] 0] 0]) []) ∧
 (s0.length : Int) = (s0.length : Int) ∧
 0 ≤ (s0.length : Int) ∧
 room .int ((s0.length : Int).toNat) = true ∧
 ∃ w16 : List Int, ∃ w17 : List ((Int × Int) × Int), SatH Tryz.prog zq [.ptr 1000 0, dI 0] [(1000, .cells [dI c0.kind, .sl .int c0.vars, .sl .int c0.consts, dI c0.n, dS c0.rows, .sl .lit c0.lits, dS s0, .sl .int m1, .own 2000, .own 1001]), (2000, .row 3 .int (List.replicate ((s0.length : Int).toNat) (Ty.dflt .int))), (1001, .mp (.pr .int .int) .int ([] : List ((Int × Int) × Int)))] (.tup []) [(1000, .cells [dI c0.kind, .sl .int c0.vars, .sl .int c0.consts, dI c0.n, dS c0.rows, .sl .lit c0.lits, dS s0, .sl .int m1, .own 2000, .own 1001]), (2000, .row 3 .int w16), (1001, .mp (.pr .int .int) .int w17)] ∧
 R (.clo zh none [.iptr [.iptr [dI c0.kind, .sl .int c0.vars, .sl .int c0.consts, dI c0.n, dS c0.rows, .sl .lit c0.lits, dS s0, .sl .int m1, .sl .int w16, .mp (.pr .int .int) .int w17] 0] 0]) []) ∧
 ((s0.length : Int) = (s0.length : Int) ∧
 0 ≤ (s0.length : Int) ∧
 room .int ((s0.length : Int).toNat) = true ∧
 ∃ w18 : List Int, ∃ w19 : List ((Int × Int) × Int), SatH Tryz.prog zq [.ptr 1000 0, dI 0] [(1000, .cells [dI c0.kind, .sl .int c0.vars, .sl .int c0.consts, dI c0.n, dS c0.rows, .sl .lit c0.lits, dS s0, .sl .int m1, .own 2000, .own 1001]), (2000, .row 3 .int (List.replicate ((s0.length : Int).toNat) (Ty.dflt .int))), (1001, .mp (.pr .int .int) .int ([] : List ((Int × Int) × Int)))] (.tup []) [(1000, .cells [dI c0.kind, .sl .int c0.vars, .sl .int c0.consts, dI c0.n, dS c0.rows, .sl .lit c0.lits, dS s0, .sl .int m1, .own 2000, .own 1001]), (2000, .row 3 .int w18), (1001, .mp (.pr .int .int) .int w19)] ∧
 R (.clo zh none [.iptr [.iptr [dI c0.kind, .sl .int c0.vars, .sl .int c0.consts, dI c0.n, dS c0.rows, .sl .lit c0.lits, dS s0, .sl .int m1, .sl .int w18, .mp (.pr .int .int) .int w19] 0] 0]) []) ∧
 (s0.length : Int) = (s0.length : Int) ∧
 0 ≤ (s0.length : Int) ∧
 room .int ((s0.length : Int).toNat) = true ∧
 ∃ w20 : List Int, ∃ w21 : List ((Int × Int) × Int), SatH Tryz.prog zq [.ptr 1000 0, dI 0] [(1000, .cells [dI c0.kind, .sl .int c0.vars, .sl .int c0.consts, dI c0.n, dS c0.rows, .sl .lit c0.lits, dS s0, .sl .int m1, .own 2000, .own 1001]), (2000, .row 3 .int (List.replicate ((s0.length : Int).toNat) (Ty.dflt .int))), (1001, .mp (.pr .int .int) .int ([] : List ((Int × Int) × Int)))] (.tup []) [(1000, .cells [dI c0.kind, .sl .int c0.vars, .sl .int c0.consts, dI c0.n, dS c0.rows, .sl .lit c0.lits, dS s0, .sl .int m1, .own 2000, .own 1001]), (2000, .row 3 .int w20), (1001, .mp (.pr .int .int) .int w21)] ∧
 R (.clo zh none [.iptr [.iptr [dI c0.kind, .sl .int c0.vars, .sl .int c0.consts, dI c0.n, dS c0.rows, .sl .lit c0.lits, dS s0, .sl .int m1, .sl .int w20, .mp (.pr .int .int) .int w21] 0] 0]) []) := by kernel_rfl
theorem z9t (c0 : ConD) (s0 : List (List Int)) : SatHI zyl Tryz.f136 zlc [dC c0, dS s0] [] [] false := satHD Tryz.func136 (by kernel_rfl) Tryz.ntmps136 rfl
def znb : Ann := { own := [5, 6, 8, 11, 14], live := [(0, ([1, 2, 5, 6, 15, 16, 17], [5, 6, 14])), (2, ([1, 2, 5, 6, 7, 8, 9, 15, 16, 17, 23, 24, 25], [5, 6, 8, 14]))], n := 44, nils := [], pubs := [] }
def zsd (c0 : ConD) (s0 : List (List Int)) (R : D → List (Nat × HObj) → Prop) (f1 : List TermD) (n0 : Nat) (v2 : Int) (l3 : List TermD) (m4 : List (Int × (List Int))) (n2 : Nat) (all5 : List Int) (v6 : Int) (l7 : List TermD) (t8 : Int) (t9 : Int) : Prop := LP znb Tryz.f137 [1, 1, 1, 0, 1, 0, 0, 1, 1, 0, 0, 1, 1, 0, 1, 0, 0] 2 n2 ⟨[(1, dS s0), (2, .iptr [dI c0.kind, .sl .int c0.vars, .sl .int c0.consts, dI c0.n, dS c0.rows, .sl .lit c0.lits] 0), (5, .ptr 5 0), (6, .ptr 6 0), (7, dI v2), (8, .ptr 8 0), (9, .sl .int all5), (15, .sl .term f1), (16, dI (f1.length : Int)), (17, dI v2), (23, .sl .term l3), (24, dI (l3.length : Int)), (25, dI v6)], [(5, .cells [.sl .term l7]), (6, .cells [.own 14]), (8, .cells [dI t8, dI t9]), (14, .mp .int (.list .int) m4)]⟩ (blockK 2 (sK znb Tryz.f137 [1, 1, 1, 0, 1, 0, 0, 1, 1, 0, 0, 1, 1, 1] 1 (blockK 1 (sK znb Tryz.f137 [1, 1, 1, 0, 1, 0, 0, 1, 1, 1] 0 (iK znb Tryz.f137 [1, 1, 1, 0, 1, 0, 0] 0 n0 (blockK 0 (sK znb Tryz.f137 [1, 1, 1, 1] 0 (eH Tryz.f137 [] false R))))))))
def z1f (c0 : ConD) (s0 : List (List Int)) (R : D → List (Nat × HObj) → Prop) (f1 : List TermD) (n0 : Nat) (v2 : Int) (l3 : List TermD) (m4 : List (Int × (List Int))) : Prop := LP znb Tryz.f137 [1, 1, 1, 0, 1, 0, 0] 0 n0 ⟨[(1, dS s0), (2, .iptr [dI c0.kind, .sl .int c0.vars, .sl .int c0.consts, dI c0.n, dS c0.rows, .sl .lit c0.lits] 0), (5, .ptr 5 0), (6, .ptr 6 0), (15, .sl .term f1), (16, dI (f1.length : Int)), (17, dI v2)], [(5, .cells [.sl .term l3]), (6, .cells [.own 14]), (14, .mp .int (.list .int) m4)]⟩ (blockK 0 (sK znb Tryz.f137 [1, 1, 1, 1] 0 (eH Tryz.f137 [] false R)))
theorem zau (c0 : ConD) (s0 : List (List Int)) (R : D → List (Nat × HObj) → Prop) (f1 : List TermD) (n0 : Nat) (v2 : Int) (l3 : List TermD) (m4 : List (Int × (List Int))) (n2 : Nat) (all5 : List Int) (v6 : Int) (l7 : List TermD) (t8 : Int) (t9 : Int) : zsd c0 s0 R f1 n0 v2 l3 m4 (n2 + 1) all5 v6 l7 t8 t9 =
 (sel (decide (v6 < (l3.length : Int)))
 (inb v6 l3.length = true ∧
 sel (!decide (v6 = v2))
 (Call1 Tryz.prog zWe [.sl .int all5, dS s0, .agg [dI ((at' .term l3 v6.toNat).v), dI ((at' .term l3 v6.toNat).times)]] (.list .int) fun f10 =>
 zsd c0 s0 R f1 n0 v2 l3 m4 n2 f10 (w64 (v6 + 1)) l7 t8 t9)
 (zsd c0 s0 R f1 n0 v2 l3 m4 n2 all5 (w64 (v6 + 1)) l7 t8 t9))
 (roomM (m4.length + 1) = true ∧
 z1f c0 s0 R f1 n0 (w64 (v2 + 1)) l7 (mput .int (.list .int) t8 all5 m4))) := by kernel_rfl
theorem zbu (c0 : ConD) (s0 : List (List Int)) (R : D → List (Nat × HObj) → Prop) (f1 : List TermD) (n0 : Nat) (v2 : Int) (l3 : List TermD) (m4 : List (Int × (List Int))) : z1f c0 s0 R f1 (n0 + 1) v2 l3 m4 =
 (sel (decide (v2 < (f1.length : Int)))
 (inb v2 f1.length = true ∧
 ∃ n2, zsd c0 s0 R f1 n0 v2 l3 m4 n2 ([0]) 0 l3 ((at' .term f1 v2.toNat).v) ((at' .term f1 v2.toNat).times))
 (R (.clo zVb none [.iptr [.sl .term l3] 0, .iptr [.mp .int (.list .int) m4] 0, .iptr [dI c0.kind, .sl .int c0.vars, .sl .int c0.consts, dI c0.n, dS c0.rows, .sl .lit c0.lits] 0]) [])) := by kernel_rfl
theorem zcu (c0 : ConD) (s0 : List (List Int)) (R : D → List (Nat × HObj) → Prop) : FH znb Tryz.f137 [dC c0, dS s0] [] [] false R =
 (Call1 Tryz.prog zVe [dC c0] (.list .term) fun f1 =>
 ∃ n0, z1f c0 s0 R f1 n0 0 f1 ([] : List (Int × (List Int)))) := by kernel_rfl
theorem zdu (c0 : ConD) (s0 : List (List Int)) : SatHI znb Tryz.f137 zLe [dC c0, dS s0] [] [] false := satHD Tryz.func137 (by kernel_rfl) Tryz.ntmps137 rfl
def zzl : Ann := { own := [], live := [], n := 14, nils := [], pubs := [] }
theorem zeu (a0 : List Int) (R : D → Prop) : FD zzl Tryz.f138 [.sl .int a0] R =
 (∃ i1 : List Int, SatH Tryz.prog zjc [.sl .int a0] [] (.own 3000) [(3000, .row 3 .int i1)] ∧
 ∃ i2 : List Int, SatH Tryz.prog z0c [.own 1000] [(1000, .row 3 .int i1)] (.tup []) [(1000, .row 3 .int i2)] ∧
 ∃ i3 : List Int, SatH Tryz.prog z1c [.own 1000] [(1000, .row 3 .int i2)] (.sl .int i3) [] ∧
 R (dB (decide ((i3.length : Int) < (a0.length : Int))))) := by kernel_rfl
theorem zfu (a0 : List Int) : SatI zzl Tryz.f138 zMe [.sl .int a0] := satD Tryz.func138 (by kernel_rfl) Tryz.ntmps138 rfl
def zAl : Ann := { own := [], live := [], n := 6, nils := [], pubs := [] }
theorem zgu (c0 : ConD) (s0 : List (List Int)) (R : D → List (Nat × HObj) → Prop) : FH zAl Tryz.f139 [dC c0, dS s0] [] [] false R =
 (R (.clo zWb none [.iptr [dS s0] 0, .iptr [dI c0.kind, .sl .int c0.vars, .sl .int c0.consts, dI c0.n, dS c0.rows, .sl .lit c0.lits] 0]) []) := by kernel_rfl
theorem zhu (c0 : ConD) (s0 : List (List Int)) : SatHI zAl Tryz.f139 zNe [dC c0, dS s0] [] [] false := satHD Tryz.func139 (by kernel_rfl) Tryz.ntmps139 rfl
def zBl : Ann := { own := [], live := [], n := 17, nils := [], pubs := [] }
theorem ziu (a0 : Int) (a1 : Int) (c0 : List Int) (h1 : FuncId) (hap1 : List D) (R : D → Prop) : FD zBl Tryz.f140 [dI a0, dI a1, .iptr [.sl .int c0] 0, .iptr [.clo h1 (some [.bool]) hap1] 0] R =
 (Call1 Tryz.prog zAb [.sl .int c0, dI a0] .bool fun s1 =>
 sel (!s1)
 (R (dB true))
 (Ent Tryz.prog h1 ∧
 Call1 Tryz.prog h1 ([dI a0, dI a1] ++ hap1) .bool fun r2 =>
 R (dB r2))) := by kernel_rfl
theorem zju (a0 : Int) (a1 : Int) (c0 : List Int) (h1 : FuncId) (hap1 : List D) : SatI zBl Tryz.f140 zhb [dI a0, dI a1, .iptr [.sl .int c0] 0, .iptr [.clo h1 (some [.bool]) hap1] 0] := satD Tryz.func140 (by kernel_rfl) Tryz.ntmps140 rfl
def zyc : Ann := { own := [], live := [(0, ([0, 27, 28, 29], [1000, 1001, 2000])), (2, ([0, 1, 59, 60, 61], [1000, 1001, 2000]))], n := 83, nils := [], pubs := [] }
def z2f (k0 : Int) (vs0 : List Int) (cs0 : List Int) (cn0 : Int) (rs0 : List (List Int)) (ls0 : List LitD) (s0 : List (List Int)) (vars0 : List Int) (values0 : List Int) (R : D → List (Nat × HObj) → Prop) (n0 : Nat) (v2 : Int) (m3 : List ((Int × Int) × Int)) : Prop := LP zyc Tryz.f166 [0, 1, 0, 0, 1, 0, 1, 0, 0] 0 n0 ⟨[(0, .ptr 1000 0), (27, .sl .int vars0), (28, dI (vars0.length : Int)), (29, dI v2)], [(1000, .cells [dI k0, .sl .int vs0, .sl .int cs0, dI cn0, dS rs0, .sl .lit ls0, dS s0, .sl .int vars0, .own 2000, .own 1001]), (1001, .mp (.pr .int .int) .int m3), (2000, .row 3 .int values0)]⟩ (blockK 0 (sK zyc Tryz.f166 [0, 1, 0, 1] 0 (sK zyc Tryz.f166 [1] 0 (eH Tryz.f166 [.ptr 1000 0] false R))))
def z3f (s0 : List (List Int)) (vars0 : List Int) (i0 : Int) (R : D → List (Nat × HObj) → Prop) (n2 : Nat) (v4 : Int) (c5 : Int) (c6 : List Int) (c7 : List Int) (c8 : Int) (c9 : List (List Int)) (c10 : List LitD) (c11 : List (List Int)) (c12 : List Int) (m13 : List ((Int × Int) × Int)) (l14 : List Int) : Prop := LP zyc Tryz.f166 [1, 1, 0, 0] 2 n2 ⟨[(0, .ptr 1000 0), (1, dI i0), (59, .sl .int (at' (.list .int) s0 ((at' .int vars0 i0.toNat).toNat))), (60, dI ((at' (.list .int) s0 ((at' .int vars0 i0.toNat).toNat)).length : Int)), (61, dI v4)], [(1000, .cells [dI c5, .sl .int c6, .sl .int c7, dI c8, dS c9, .sl .lit c10, dS c11, .sl .int c12, .own 2000, .own 1001]), (1001, .mp (.pr .int .int) .int m13), (2000, .row 3 .int l14)]⟩ (blockK 2 (eH Tryz.f166 [.ptr 1000 0] false R))
theorem zku (k0 : Int) (vs0 : List Int) (cs0 : List Int) (cn0 : Int) (rs0 : List (List Int)) (ls0 : List LitD) (s0 : List (List Int)) (vars0 : List Int) (values0 : List Int) (R : D → List (Nat × HObj) → Prop) (n0 : Nat) (v2 : Int) (m3 : List ((Int × Int) × Int)) : z2f k0 vs0 cs0 cn0 rs0 ls0 s0 vars0 values0 R (n0 + 1) v2 m3 =
 (sel (decide (v2 < (vars0.length : Int)))
 (inb v2 vars0.length = true ∧
 inb (at' .int vars0 v2.toNat) values0.length = true ∧
 roomM (m3.length + 1) = true ∧
 z2f k0 vs0 cs0 cn0 rs0 ls0 s0 vars0 values0 R n0 (w64 (v2 + 1)) (mput (.pr .int .int) .int (at' .int vars0 v2.toNat, at' .int values0 ((at' .int vars0 v2.toNat).toNat)) 1 m3))
 (R (.tup []) [(1000, .cells [dI k0, .sl .int vs0, .sl .int cs0, dI cn0, dS rs0, .sl .lit ls0, dS s0, .sl .int vars0, .own 2000, .own 1001]), (2000, .row 3 .int values0), (1001, .mp (.pr .int .int) .int m3)])) := by kernel_rfl
theorem zCl (s0 : List (List Int)) (vars0 : List Int) (i0 : Int) (R : D → List (Nat × HObj) → Prop) (n2 : Nat) (v4 : Int) (c5 : Int) (c6 : List Int) (c7 : List Int) (c8 : Int) (c9 : List (List Int)) (c10 : List LitD) (c11 : List (List Int)) (c12 : List Int) (m13 : List ((Int × Int) × Int)) (l14 : List Int) : z3f s0 vars0 i0 R (n2 + 1) v4 c5 c6 c7 c8 c9 c10 c11 c12 m13 l14 =
 (sel (decide (v4 < ((at' (.list .int) s0 ((at' .int vars0 i0.toNat).toNat)).length : Int)))
 (inb v4 (at' (.list .int) s0 ((at' .int vars0 i0.toNat).toNat)).length = true ∧
 inb i0 c12.length = true ∧
 inb (at' .int c12 i0.toNat) l14.length = true ∧
 ∃ w15 : List Int, ∃ w16 : List ((Int × Int) × Int), SatH Tryz.prog zq [.ptr 1000 0, dI (w64 (i0 + 1))] [(1000, .cells [dI c5, .sl .int c6, .sl .int c7, dI c8, dS c9, .sl .lit c10, dS c11, .sl .int c12, .own 2000, .own 1001]), (2000, .row 3 .int (l14.set ((at' .int c12 i0.toNat).toNat) (at' .int (at' (.list .int) s0 ((at' .int vars0 i0.toNat).toNat)) v4.toNat))), (1001, .mp (.pr .int .int) .int m13)] (.tup []) [(1000, .cells [dI c5, .sl .int c6, .sl .int c7, dI c8, dS c9, .sl .lit c10, dS c11, .sl .int c12, .own 2000, .own 1001]), (2000, .row 3 .int w15), (1001, .mp (.pr .int .int) .int w16)] ∧
 z3f s0 vars0 i0 R n2 (w64 (v4 + 1)) c5 c6 c7 c8 c9 c10 c11 c12 w16 w15)
 (R (.tup []) [(1000, .cells [dI c5, .sl .int c6, .sl .int c7, dI c8, dS c9, .sl .lit c10, dS c11, .sl .int c12, .own 2000, .own 1001]), (2000, .row 3 .int l14), (1001, .mp (.pr .int .int) .int m13)])) := by kernel_rfl
theorem zVh (k0 : Int) (vs0 : List Int) (cs0 : List Int) (cn0 : Int) (rs0 : List (List Int)) (ls0 : List LitD) (s0 : List (List Int)) (vars0 : List Int) (values0 : List Int) (met0 : List ((Int × Int) × Int)) (i0 : Int) (R : D → List (Nat × HObj) → Prop) : FH zyc Tryz.f166 [.ptr 1000 0, dI i0] [(1000, .cells [dI k0, .sl .int vs0, .sl .int cs0, dI cn0, dS rs0, .sl .lit ls0, dS s0, .sl .int vars0, .own 2000, .own 1001]), (2000, .row 3 .int values0), (1001, .mp (.pr .int .int) .int met0)] [.ptr 1000 0] false R =
 (sel (decide (i0 = (vars0.length : Int)))
 (Call1 Tryz.prog zSb [.agg [dI k0, .sl .int vs0, .sl .int cs0, dI cn0, dS rs0, .sl .lit ls0], .sl .int values0] .bool fun m1 =>
 sel m1
 (∃ n0, z2f k0 vs0 cs0 cn0 rs0 ls0 s0 vars0 values0 R n0 0 met0)
 (R (.tup []) [(1000, .cells [dI k0, .sl .int vs0, .sl .int cs0, dI cn0, dS rs0, .sl .lit ls0, dS s0, .sl .int vars0, .own 2000, .own 1001]), (2000, .row 3 .int values0), (1001, .mp (.pr .int .int) .int met0)]))
 (inb i0 vars0.length = true ∧
 inb (at' .int vars0 i0.toNat) s0.length = true ∧
 ∃ n2, z3f s0 vars0 i0 R n2 0 k0 vs0 cs0 cn0 rs0 ls0 s0 vars0 met0 values0)) := by kernel_rfl
theorem zWh (k0 : Int) (vs0 : List Int) (cs0 : List Int) (cn0 : Int) (rs0 : List (List Int)) (ls0 : List LitD) (s0 : List (List Int)) (vars0 : List Int) (values0 : List Int) (met0 : List ((Int × Int) × Int)) (i0 : Int) : SatHI zyc Tryz.f166 zq [.ptr 1000 0, dI i0] [(1000, .cells [dI k0, .sl .int vs0, .sl .int cs0, dI cn0, dS rs0, .sl .lit ls0, dS s0, .sl .int vars0, .own 2000, .own 1001]), (2000, .row 3 .int values0), (1001, .mp (.pr .int .int) .int met0)] [.ptr 1000 0] false := satHD Tryz.func166 (by kernel_rfl) Tryz.ntmps166 rfl
def zDl : Ann := { own := [], live := [], n := 15, nils := [], pubs := [] }
theorem zlu (a0 : Int) (a1 : Int) (c0_c : ConD) (c0_s : List (List Int)) (c0_vars : List Int) (c0_values : List Int) (c0_met : List ((Int × Int) × Int)) (R : D → Prop) : FD zDl Tryz.f167 [dI a0, dI a1, .iptr [.iptr [dI c0_c.kind, .sl .int c0_c.vars, .sl .int c0_c.consts, dI c0_c.n, dS c0_c.rows, .sl .lit c0_c.lits, dS c0_s, .sl .int c0_vars, .sl .int c0_values, .mp (.pr .int .int) .int c0_met] 0] 0] R =
 (R (dB (decide ((mgetD (.pr .int .int) .int (a0, a1) c0_met) = 1)))) := by kernel_rfl
theorem zmu (a0 : Int) (a1 : Int) (c0_c : ConD) (c0_s : List (List Int)) (c0_vars : List Int) (c0_values : List Int) (c0_met : List ((Int × Int) × Int)) : SatI zDl Tryz.f167 zh [dI a0, dI a1, .iptr [.iptr [dI c0_c.kind, .sl .int c0_c.vars, .sl .int c0_c.consts, dI c0_c.n, dS c0_c.rows, .sl .lit c0_c.lits, dS c0_s, .sl .int c0_vars, .sl .int c0_values, .mp (.pr .int .int) .int c0_met] 0] 0] := satD Tryz.func167 (by kernel_rfl) Tryz.ntmps167 rfl
def z4f : Ann := { own := [3, 5, 29], live := [(0, ([1, 3, 8, 9, 10], [3]))], n := 45, nils := [], pubs := [] }
def ztd (a0 : ConD) (R : D → Prop) (n0 : Nat) (v1 : Int) (out2 : List TermD) : Prop := LP z4f Tryz.f168 [1, 1, 0, 1, 0, 0] 0 n0 ⟨[(1, .iptr [dI a0.kind, .sl .int a0.vars, .sl .int a0.consts, dI a0.n, dS a0.rows, .sl .lit a0.lits] 0), (3, .own 3), (8, .sl .int a0.vars), (9, dI (a0.vars.length : Int)), (10, dI v1)], [(3, .row 195 .term out2)]⟩ (blockK 0 (sK z4f Tryz.f168 [1, 1, 1] 0 (eK Tryz.f168 R)))
theorem znu (a0 : ConD) (R : D → Prop) (n0 : Nat) (v1 : Int) (out2 : List TermD) : ztd a0 R (n0 + 1) v1 out2 =
 (sel (decide (v1 < (a0.vars.length : Int)))
 (inb v1 a0.vars.length = true ∧
 Call1 Tryz.prog z4c [.sl .term out2, .clo z2e none [.iptr [dI (at' .int a0.vars v1.toNat)] 0]] .int fun s3 =>
 sel (decide (s3 < 0))
 (inb v1 a0.consts.length = true ∧
 room .term (out2.length + ([(⟨at' .int a0.vars v1.toNat, at' .int a0.consts v1.toNat⟩ : TermD)]).length) = true ∧
 ztd a0 R n0 (w64 (v1 + 1)) (out2 ++ ([(⟨at' .int a0.vars v1.toNat, at' .int a0.consts v1.toNat⟩ : TermD)])))
 (inb s3 out2.length = true ∧
 inb v1 a0.consts.length = true ∧
 inb s3 out2.length = true ∧
 ztd a0 R n0 (w64 (v1 + 1)) (out2.set s3.toNat (⟨(at' .term out2 s3.toNat).v, w64 (((at' .term out2 s3.toNat).times) + (at' .int a0.consts v1.toNat))⟩ : TermD))))
 (R (.sl .term out2))) := by kernel_rfl
theorem zou (a0 : ConD) (R : D → Prop) : FD z4f Tryz.f168 [dC a0] R =
 (∃ n0, ztd a0 R n0 0 ([] : List TermD)) := by kernel_rfl
theorem zpu (a0 : ConD) : SatI z4f Tryz.f168 zVe [dC a0] := satD Tryz.func168 (by kernel_rfl) Tryz.ntmps168 rfl
def zFb : Ann := { own := [7, 36], live := [(0, ([1, 5, 7, 12, 13, 14], [7])), (2, ([1, 5, 7, 9, 12, 13, 14, 22, 23, 24], [7]))], n := 43, nils := [], pubs := [] }
def z5f (a0 : List Int) (a1 : List (List Int)) (a2 : TermD) (R : D → Prop) (n0 : Nat) (v1 : Int) (n2 : Nat) (v3 : Int) (out4 : List Int) : Prop := LP zFb Tryz.f169 [1, 1, 0, 1, 0, 0, 1, 1, 0, 0, 1, 1, 0, 0] 2 n2 ⟨[(1, dS a1), (5, .iptr [dI a2.v, dI a2.times] 0), (7, .own 7), (9, dI (at' .int a0 v1.toNat)), (12, .sl .int a0), (13, dI (a0.length : Int)), (14, dI v1), (22, .sl .int (at' (.list .int) a1 a2.v.toNat)), (23, dI ((at' (.list .int) a1 a2.v.toNat).length : Int)), (24, dI v3)], [(7, .row 3 .int out4)]⟩ (blockK 2 (blockK 1 (sK zFb Tryz.f169 [1, 1, 0, 1, 0, 0, 1, 1, 1] 0 (iK zFb Tryz.f169 [1, 1, 0, 1, 0, 0] 0 n0 (blockK 0 (sK zFb Tryz.f169 [1, 1, 1] 0 (eK Tryz.f169 R)))))))
def z6f (a0 : List Int) (a1 : List (List Int)) (a2 : TermD) (R : D → Prop) (n0 : Nat) (v1 : Int) (out2 : List Int) : Prop := LP zFb Tryz.f169 [1, 1, 0, 1, 0, 0] 0 n0 ⟨[(1, dS a1), (5, .iptr [dI a2.v, dI a2.times] 0), (7, .own 7), (12, .sl .int a0), (13, dI (a0.length : Int)), (14, dI v1)], [(7, .row 3 .int out2)]⟩ (blockK 0 (sK zFb Tryz.f169 [1, 1, 1] 0 (eK Tryz.f169 R)))
theorem zqu (a0 : List Int) (a1 : List (List Int)) (a2 : TermD) (R : D → Prop) (n0 : Nat) (v1 : Int) (n2 : Nat) (v3 : Int) (out4 : List Int) : z5f a0 a1 a2 R n0 v1 (n2 + 1) v3 out4 =
 (sel (decide (v3 < ((at' (.list .int) a1 a2.v.toNat).length : Int)))
 (inb v3 (at' (.list .int) a1 a2.v.toNat).length = true ∧
 room .int (out4.length + ([w64 ((at' .int a0 v1.toNat) + (w64 (a2.times * (at' .int (at' (.list .int) a1 a2.v.toNat) v3.toNat))))]).length) = true ∧
 z5f a0 a1 a2 R n0 v1 n2 (w64 (v3 + 1)) (out4 ++ ([w64 ((at' .int a0 v1.toNat) + (w64 (a2.times * (at' .int (at' (.list .int) a1 a2.v.toNat) v3.toNat))))])))
 (z6f a0 a1 a2 R n0 (w64 (v1 + 1)) out4)) := by kernel_rfl
theorem zru (a0 : List Int) (a1 : List (List Int)) (a2 : TermD) (R : D → Prop) (n0 : Nat) (v1 : Int) (out2 : List Int) : z6f a0 a1 a2 R (n0 + 1) v1 out2 =
 (sel (decide (v1 < (a0.length : Int)))
 (inb v1 a0.length = true ∧
 inb a2.v a1.length = true ∧
 ∃ n2, z5f a0 a1 a2 R n0 v1 n2 0 out2)
 (∃ i5 : List Int, SatH Tryz.prog z0c [.own 1000] [(1000, .row 3 .int out2)] (.tup []) [(1000, .row 3 .int i5)] ∧
 ∃ i6 : List Int, SatH Tryz.prog z1c [.own 1000] [(1000, .row 3 .int i5)] (.sl .int i6) [] ∧
 R (.sl .int i6))) := by kernel_rfl
theorem zsu (a0 : List Int) (a1 : List (List Int)) (a2 : TermD) (R : D → Prop) : FD zFb Tryz.f169 [.sl .int a0, dS a1, .agg [dI a2.v, dI a2.times]] R =
 (∃ n0, z6f a0 a1 a2 R n0 0 ([] : List Int)) := by kernel_rfl
theorem ztu (a0 : List Int) (a1 : List (List Int)) (a2 : TermD) : SatI zFb Tryz.f169 zWe [.sl .int a0, dS a1, .agg [dI a2.v, dI a2.times]] := satD Tryz.func169 (by kernel_rfl) Tryz.ntmps169 rfl
def zEl : Ann := { own := [8], live := [], n := 20, nils := [], pubs := [] }
theorem zuu (a0 : Int) (a1 : Int) (c0 : List TermD) (c1 : List (Int × (List Int))) (c2 : ConD) (R : D → Prop) : FD zEl Tryz.f170 [dI a0, dI a1, .iptr [.sl .term c0] 0, .iptr [.mp .int (.list .int) c1] 0, .iptr [dI c2.kind, .sl .int c2.vars, .sl .int c2.consts, dI c2.n, dS c2.rows, .sl .lit c2.lits] 0] R =
 (Call1 Tryz.prog z4c [.sl .term c0, .clo zXe none [.iptr [dI a0] 0]] .int fun s1 =>
 inb s1 c0.length = true ∧
 Call1 Tryz.prog ztb [.sl .int (mgetD .int (.list .int) a0 c1), .clo zYe none [.iptr [dI c2.kind, .sl .int c2.vars, .sl .int c2.consts, dI c2.n, dS c2.rows, .sl .lit c2.lits] 0, .iptr [dI ((at' .term c0 s1.toNat).v), dI ((at' .term c0 s1.toNat).times)] 0, .iptr [dI a1] 0]] .bool fun s2 =>
 R (dB s2)) := by kernel_rfl
theorem zvu (a0 : Int) (a1 : Int) (c0 : List TermD) (c1 : List (Int × (List Int))) (c2 : ConD) : SatI zEl Tryz.f170 zVb [dI a0, dI a1, .iptr [.sl .term c0] 0, .iptr [.mp .int (.list .int) c1] 0, .iptr [dI c2.kind, .sl .int c2.vars, .sl .int c2.consts, dI c2.n, dS c2.rows, .sl .lit c2.lits] 0] := satD Tryz.func170 (by kernel_rfl) Tryz.ntmps170 rfl
def zFl : Ann := { own := [], live := [], n := 8, nils := [], pubs := [] }
theorem zwu (a0 : TermD) (c0 : Int) (R : D → Prop) : FD zFl Tryz.f172 [.agg [dI a0.v, dI a0.times], .iptr [dI c0] 0] R =
 (R (dB (decide (a0.v = c0)))) := by kernel_rfl
theorem zxu (a0 : TermD) (c0 : Int) : SatI zFl Tryz.f172 zXe [.agg [dI a0.v, dI a0.times], .iptr [dI c0] 0] := satD Tryz.func172 (by kernel_rfl) Tryz.ntmps172 rfl
def zGl : Ann := { own := [], live := [], n := 14, nils := [], pubs := [] }
theorem zyu (a0 : Int) (c0 : ConD) (c1 : TermD) (c2 : Int) (R : D → Prop) : FD zGl Tryz.f173 [dI a0, .iptr [dI c0.kind, .sl .int c0.vars, .sl .int c0.consts, dI c0.n, dS c0.rows, .sl .lit c0.lits] 0, .iptr [dI c1.v, dI c1.times] 0, .iptr [dI c2] 0] R =
 (Call1 Tryz.prog zyb [dC c0, dI (w64 (a0 + (w64 (c1.times * c2))))] .bool fun m1 =>
 R (dB m1)) := by kernel_rfl
theorem zzu (a0 : Int) (c0 : ConD) (c1 : TermD) (c2 : Int) : SatI zGl Tryz.f173 zYe [dI a0, .iptr [dI c0.kind, .sl .int c0.vars, .sl .int c0.consts, dI c0.n, dS c0.rows, .sl .lit c0.lits] 0, .iptr [dI c1.v, dI c1.times] 0, .iptr [dI c2] 0] := satD Tryz.func173 (by kernel_rfl) Tryz.ntmps173 rfl
def z7f : Ann := { own := [20, 21, 23], live := [(0, ([8, 26, 27], [20, 21, 23]))], n := 40, nils := [], pubs := [(23, 0)] }
def zzc (c1 : ConD) (R : D → Prop) (n0 : Nat) (v2 : Int) (m3 : List (Int × Int)) (m4 : List (Int × Int)) (c5 : List (List Int)) (c6 : List Int) (c7 : Int) : Prop := LP z7f Tryz.f174 [1, 1, 1, 1, 0, 1, 0, 0] 0 n0 ⟨[(8, .ptr 23 0), (26, dI (c1.vars.length : Int)), (27, dI v2)], [(20, .mp .int .int m3), (21, .mp .int .int m4), (23, .cells [dS c5, .sl .int c6, .own 20, .own 21, dI c7])]⟩ (blockK 0 (sK z7f Tryz.f174 [1, 1, 1, 1, 1] 0 (eK Tryz.f174 R)))
theorem zAu (c1 : ConD) (R : D → Prop) (n0 : Nat) (v2 : Int) (m3 : List (Int × Int)) (m4 : List (Int × Int)) (c5 : List (List Int)) (c6 : List Int) (c7 : Int) : zzc c1 R (n0 + 1) v2 m3 m4 c5 c6 c7 =
 (sel (decide (v2 < (c1.vars.length : Int)))
 (∃ f8 : Bool, ∃ f9 : List (Int × Int), ∃ f10 : List (Int × Int), SatH Tryz.prog zoc [.ptr 1000 0, dI v2] [(1000, .cells [dS c5, .sl .int c6, .own 1001, .own 1002, dI (w64 (v2 + 1))]), (1001, .mp .int .int m3), (1002, .mp .int .int m4)] (dB f8) [(1000, .cells [dS c5, .sl .int c6, .own 1001, .own 1002, dI (w64 (v2 + 1))]), (1001, .mp .int .int f9), (1002, .mp .int .int f10)] ∧
 sel (!f8)
 (R (dB false))
 (zzc c1 R n0 (w64 (v2 + 1)) f9 f10 c5 c6 (w64 (v2 + 1))))
 (R (dB true))) := by kernel_rfl
theorem zBu (a0 : Int) (a1 : Int) (c0 : List (List Int)) (c1 : ConD) (R : D → Prop) : FD z7f Tryz.f174 [dI a0, dI a1, .iptr [dS c0] 0, .iptr [dI c1.kind, .sl .int c1.vars, .sl .int c1.consts, dI c1.n, dS c1.rows, .sl .lit c1.lits] 0] R =
 (∃ i1 : List (List Int), SatH Tryz.prog zZe [dS c0] [] (.own 3000) [(3000, .row 26 (.list .int) i1)] ∧
 inb a0 i1.length = true ∧
 ∃ n0, zzc c1 R n0 0 ([] : List (Int × Int)) ([] : List (Int × Int)) (i1.set a0.toNat ([a1])) c1.vars 0) := by kernel_rfl
theorem zCu (a0 : Int) (a1 : Int) (c0 : List (List Int)) (c1 : ConD) : SatI z7f Tryz.f174 zWb [dI a0, dI a1, .iptr [dS c0] 0, .iptr [dI c1.kind, .sl .int c1.vars, .sl .int c1.consts, dI c1.n, dS c1.rows, .sl .lit c1.lits] 0] := satD Tryz.func174 (by kernel_rfl) Tryz.ntmps174 rfl
def z8f : Ann := { own := [], live := [(0, ([0, 1, 21, 22, 23], [1000, 1001, 1002]))], n := 70, nils := [], pubs := [] }
def zud (s0 : List (List Int)) (vars0 : List Int) (i0 : Int) (R : D → List (Nat × HObj) → Prop) (n0 : Nat) (v1 : Int) (c2 : List (List Int)) (c3 : List Int) (c4 : Int) (m5 : List (Int × Int)) (m6 : List (Int × Int)) : Prop := LP z8f Tryz.f176 [1, 0, 1, 0, 0] 0 n0 ⟨[(0, .ptr 1000 0), (1, dI i0), (21, .sl .int (at' (.list .int) s0 ((at' .int vars0 i0.toNat).toNat))), (22, dI ((at' (.list .int) s0 ((at' .int vars0 i0.toNat).toNat)).length : Int)), (23, dI v1)], [(1000, .cells [dS c2, .sl .int c3, .own 1001, .own 1002, dI c4]), (1001, .mp .int .int m5), (1002, .mp .int .int m6)]⟩ (blockK 0 (sK z8f Tryz.f176 [1, 1] 0 (eH Tryz.f176 [.ptr 1000 0] false R)))
theorem zvd (s0 : List (List Int)) (vars0 : List Int) (i0 : Int) (R : D → List (Nat × HObj) → Prop) (n0 : Nat) (v1 : Int) (c2 : List (List Int)) (c3 : List Int) (c4 : Int) (m5 : List (Int × Int)) (m6 : List (Int × Int)) : zud s0 vars0 i0 R (n0 + 1) v1 c2 c3 c4 m5 m6 =
 (sel (decide (v1 < ((at' (.list .int) s0 ((at' .int vars0 i0.toNat).toNat)).length : Int)))
 (inb v1 (at' (.list .int) s0 ((at' .int vars0 i0.toNat).toNat)).length = true ∧
 sel (decide ((mgetD .int .int (at' .int (at' (.list .int) s0 ((at' .int vars0 i0.toNat).toNat)) v1.toNat) m6) = c4))
 (zud s0 vars0 i0 R n0 (w64 (v1 + 1)) c2 c3 c4 m5 m6)
 (roomM (m6.length + 1) = true ∧
 sel (!(mhas .int .int (at' .int (at' (.list .int) s0 ((at' .int vars0 i0.toNat).toNat)) v1.toNat) m5))
 (roomM (m5.length + 1) = true ∧
 R (dB true) [(1000, .cells [dS c2, .sl .int c3, .own 1001, .own 1002, dI c4]), (1001, .mp .int .int (mput .int .int (at' .int (at' (.list .int) s0 ((at' .int vars0 i0.toNat).toNat)) v1.toNat) i0 m5)), (1002, .mp .int .int (mput .int .int (at' .int (at' (.list .int) s0 ((at' .int vars0 i0.toNat).toNat)) v1.toNat) c4 m6))])
 (∃ f7 : Bool, ∃ f8 : List (Int × Int), ∃ f9 : List (Int × Int), SatH Tryz.prog zoc [.ptr 1000 0, dI (mgetD .int .int (at' .int (at' (.list .int) s0 ((at' .int vars0 i0.toNat).toNat)) v1.toNat) m5)] [(1000, .cells [dS c2, .sl .int c3, .own 1001, .own 1002, dI c4]), (1001, .mp .int .int m5), (1002, .mp .int .int (mput .int .int (at' .int (at' (.list .int) s0 ((at' .int vars0 i0.toNat).toNat)) v1.toNat) c4 m6))] (dB f7) [(1000, .cells [dS c2, .sl .int c3, .own 1001, .own 1002, dI c4]), (1001, .mp .int .int f8), (1002, .mp .int .int f9)] ∧
 sel f7
 (roomM (f8.length + 1) = true ∧
 R (dB true) [(1000, .cells [dS c2, .sl .int c3, .own 1001, .own 1002, dI c4]), (1001, .mp .int .int (mput .int .int (at' .int (at' (.list .int) s0 ((at' .int vars0 i0.toNat).toNat)) v1.toNat) i0 f8)), (1002, .mp .int .int f9)])
 (zud s0 vars0 i0 R n0 (w64 (v1 + 1)) c2 c3 c4 f8 f9))))
 (R (dB false) [(1000, .cells [dS c2, .sl .int c3, .own 1001, .own 1002, dI c4]), (1001, .mp .int .int m5), (1002, .mp .int .int m6)])) := by kernel_rfl
theorem zHl (s0 : List (List Int)) (vars0 : List Int) (turn0 : Int) (by0 : List (Int × Int)) (asked0 : List (Int × Int)) (i0 : Int) (R : D → List (Nat × HObj) → Prop) : FH z8f Tryz.f176 [.ptr 1000 0, dI i0] [(1000, .cells [dS s0, .sl .int vars0, .own 1001, .own 1002, dI turn0]), (1001, .mp .int .int by0), (1002, .mp .int .int asked0)] [.ptr 1000 0] false R =
 (inb i0 vars0.length = true ∧
 inb (at' .int vars0 i0.toNat) s0.length = true ∧
 ∃ n0, zud s0 vars0 i0 R n0 0 s0 vars0 turn0 by0 asked0) := by kernel_rfl
theorem zIl (s0 : List (List Int)) (vars0 : List Int) (turn0 : Int) (by0 : List (Int × Int)) (asked0 : List (Int × Int)) (i0 : Int) : SatHI z8f Tryz.f176 zoc [.ptr 1000 0, dI i0] [(1000, .cells [dS s0, .sl .int vars0, .own 1001, .own 1002, dI turn0]), (1001, .mp .int .int by0), (1002, .mp .int .int asked0)] [.ptr 1000 0] false := satHD Tryz.func176 (by kernel_rfl) Tryz.ntmps176 rfl
def zJl : Ann := { own := [], live := [], n := 8, nils := [], pubs := [] }
theorem zDu (a0 : TermD) (c0 : Int) (R : D → Prop) : FD zJl Tryz.f195 [.agg [dI a0.v, dI a0.times], .iptr [dI c0] 0] R =
 (R (dB (decide (a0.v = c0)))) := by kernel_rfl
theorem zEu (a0 : TermD) (c0 : Int) : SatI zJl Tryz.f195 z2e [.agg [dI a0.v, dI a0.times], .iptr [dI c0] 0] := satD Tryz.func195 (by kernel_rfl) Tryz.ntmps195 rfl
end Go.Proofs.YtajnbkhgnppckaaGreatDoor
