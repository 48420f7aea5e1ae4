/- What the functions of a package do, as equations of plain propositions: printed by a program that carries the code out on symbols. -/
import Derived.Test.YtogdmcebojiojaaGreatDoorWEv
import Derived.Test.YtogdmcebojiojaaGreatDoorWCordonref2
namespace Go.Proofs.YtogdmcebojiojaaGreatDoor
open Go.RowKit
set_option linter.unusedVariables false
set_option maxRecDepth 100000
/-! ### cordon/cordonref.ParseOf -/
def cordonref_ParseOf_A : Ann := { own := [2, 8, 9, 10, 11, 50, 64], live := [(0, ([2, 5, 8, 9], [2, 8, 9, 1008004, 1008005])), (2, ([2, 5, 8], [2, 8, 9, 1008005]))], n := 108, nils := [(8, (4, (72, .var))), (8, (5, (74, .con)))], pubs := [], first := true }
def cordonref_ParseOf_I2 (R : D → Prop) (c1 : List Tok) (n2 : Nat) (c47 : List VarD) (c48 : List ConD) (c49 : Int) (c50 : Int) (c51 : List Tok) (c52 : Int) (c53 : Int) (c54 : Int) (c55 : Int) (c56 : Int) (l57 : List VarD) (l58 : List ConD) : Prop := LP cordonref_ParseOf_A Tryz.f11 [1, 1, 1, 1, 1, 1, 1, 0, 0, 0] 2 n2 ⟨[(2, .ptr 2 0), (5, .sl .tok c1), (8, .ptr 8 0)], [(2, .cells [.sl .var c47, .sl .con c48, dI c49, dI c50]), (8, .cells [.sl .tok c51, dI c52, dI c53, dI c54, .own 9, .own 1008005, dI c55, dI c56]), (9, .row 72 .var l57), (1008005, .row 74 .con l58)]⟩ (blockK 2 (sK cordonref_ParseOf_A Tryz.f11 [1, 1, 1, 1, 1, 1, 1, 1] 0 (eK Tryz.f11 R)))
def cordonref_ParseOf_I0 (R : D → Prop) (c1 : List Tok) (n0 : Nat) (c4 : List VarD) (c5 : List ConD) (c6 : Int) (c7 : Int) (c8 : List Tok) (c9 : Int) (c10 : Int) (c11 : Int) (c12 : Int) (c13 : Int) (l14 : List VarD) (l15 : List VarD) (l16 : List ConD) : Prop := LP cordonref_ParseOf_A Tryz.f11 [1, 1, 1, 1, 1, 0, 0, 0] 0 n0 ⟨[(2, .ptr 2 0), (5, .sl .tok c1), (8, .ptr 8 0), (9, .own 9)], [(2, .cells [.sl .var c4, .sl .con c5, dI c6, dI c7]), (8, .cells [.sl .tok c8, dI c9, dI c10, dI c11, .own 1008004, .own 1008005, dI c12, dI c13]), (9, .row 72 .var l14), (1008004, .row 72 .var l15), (1008005, .row 74 .con l16)]⟩ (blockK 0 (sK cordonref_ParseOf_A Tryz.f11 [1, 1, 1, 1, 1, 1] 0 (eK Tryz.f11 R)))
theorem cordonref_ParseOf_I2_eq (R : D → Prop) (c1 : List Tok) (n2 : Nat) (c47 : List VarD) (c48 : List ConD) (c49 : Int) (c50 : Int) (c51 : List Tok) (c52 : Int) (c53 : Int) (c54 : Int) (c55 : Int) (c56 : Int) (l57 : List VarD) (l58 : List ConD) : cordonref_ParseOf_I2 R c1 (n2 + 1) c47 c48 c49 c50 c51 c52 c53 c54 c55 c56 l57 l58 =
 (∃ t59 : ByteArray, SatH Tryz.prog f_cordonref_Reader_Text [.ptr 1000 0] [(1000, .cells [.sl .tok c51, dI c52, dI c53, dI c54, .own 2000, .own 2001, dI c55, dI c56]), (2000, .row 72 .var l57), (2001, .row 74 .con l58)] (.str t59) [(1000, .cells [.sl .tok c51, dI c52, dI c53, dI c54, .own 2000, .own 2001, dI c55, dI c56]), (2000, .row 72 .var l57), (2001, .row 74 .con l58)] ∧
 sel (decide (t59 = (⟨#[99, 111, 110]⟩ : ByteArray)))
 (∃ n60 : Int, ∃ n61 : Int, SatH Tryz.prog f_cordonref_Reader_Need [.ptr 1000 0, .str (⟨#[99, 111, 110]⟩ : ByteArray)] [(1000, .cells [.sl .tok c51, dI c52, dI c53, dI c54, .own 2000, .own 2001, dI c55, dI c56]), (2000, .row 72 .var l57), (2001, .row 74 .con l58)] (.tup []) [(1000, .cells [.sl .tok c51, dI n60, dI c53, dI n61, .own 2000, .own 2001, dI c55, dI c56]), (2000, .row 72 .var l57), (2001, .row 74 .con l58)] ∧
 ∃ c62 : Int, ∃ c63 : Int, ∃ c64 : ConD, SatH Tryz.prog f_cordonref_Reader_Con [.ptr 1000 0] [(1000, .cells [.sl .tok c51, dI n60, dI c53, dI n61, .own 2000, .own 2001, dI c55, dI c56]), (2000, .row 72 .var l57), (2001, .row 74 .con l58)] (dC c64) [(1000, .cells [.sl .tok c51, dI c62, dI c53, dI c63, .own 2000, .own 2001, dI c55, dI c56]), (2000, .row 72 .var l57), (2001, .row 74 .con l58)] ∧
 ∃ n65 : Int, ∃ n66 : Int, SatH Tryz.prog f_cordonref_Reader_Need [.ptr 1000 0, .str (⟨#[59]⟩ : ByteArray)] [(1000, .cells [.sl .tok c51, dI c62, dI c53, dI c63, .own 2000, .own 2001, dI c55, dI c56]), (2000, .row 72 .var l57), (2001, .row 74 .con l58)] (.tup []) [(1000, .cells [.sl .tok c51, dI n65, dI c53, dI n66, .own 2000, .own 2001, dI c55, dI c56]), (2000, .row 72 .var l57), (2001, .row 74 .con l58)] ∧
 room .con (l58.length + ([c64]).length) = true ∧ cordonref_ParseOf_I2 R c1 n2 c47 c48 c49 c50 c51 n65 c53 n66 c55 c56 l57 (l58 ++ ([c64])))
 (∃ n67 : Int, ∃ n68 : Int, SatH Tryz.prog f_cordonref_Reader_Need [.ptr 1000 0, .str (⟨#[115, 111, 108, 118, 101]⟩ : ByteArray)] [(1000, .cells [.sl .tok c51, dI c52, dI c53, dI c54, .own 2000, .own 2001, dI c55, dI c56]), (2000, .row 72 .var l57), (2001, .row 74 .con l58)] (.tup []) [(1000, .cells [.sl .tok c51, dI n67, dI c53, dI n68, .own 2000, .own 2001, dI c55, dI c56]), (2000, .row 72 .var l57), (2001, .row 74 .con l58)] ∧
 ∃ w69 : Int, ∃ w70 : Int, ∃ w71 : Int, SatH Tryz.prog f_cordonref_Reader_Word [.ptr 1000 0, .sl .str ([(⟨#[97, 110, 121]⟩ : ByteArray), (⟨#[108, 101, 97, 115, 116]⟩ : ByteArray), (⟨#[109, 111, 115, 116]⟩ : ByteArray)])] [(1000, .cells [.sl .tok c51, dI n67, dI c53, dI n68, .own 2000, .own 2001, dI c55, dI c56]), (2000, .row 72 .var l57), (2001, .row 74 .con l58)] (dI w71) [(1000, .cells [.sl .tok c51, dI w69, dI c53, dI w70, .own 2000, .own 2001, dI c55, dI c56]), (2000, .row 72 .var l57), (2001, .row 74 .con l58)] ∧
 sel (decide (w70 = 0))
 (sel (!decide (w71 = 0))
 (∃ v72 : Int, ∃ v73 : Int, ∃ v74 : Int, SatH Tryz.prog f_cordonref_Reader_V [.ptr 1000 0] [(1000, .cells [.sl .tok c51, dI w69, dI c53, dI w70, .own 2000, .own 2001, dI w71, dI c56]), (2000, .row 72 .var l57), (2001, .row 74 .con l58)] (dI v74) [(1000, .cells [.sl .tok c51, dI v72, dI c53, dI v73, .own 2000, .own 2001, dI w71, dI c56]), (2000, .row 72 .var l57), (2001, .row 74 .con l58)] ∧
 ∃ n75 : Int, ∃ n76 : Int, SatH Tryz.prog f_cordonref_Reader_Need [.ptr 1000 0, .str (⟨#[59]⟩ : ByteArray)] [(1000, .cells [.sl .tok c51, dI v72, dI c53, dI v73, .own 2000, .own 2001, dI w71, dI v74]), (2000, .row 72 .var l57), (2001, .row 74 .con l58)] (.tup []) [(1000, .cells [.sl .tok c51, dI n75, dI c53, dI n76, .own 2000, .own 2001, dI w71, dI v74]), (2000, .row 72 .var l57), (2001, .row 74 .con l58)] ∧
 sel (decide (n75 < (c1.length : Int)))
 (∃ w77 : Int, SatH Tryz.prog f_cordonref_Reader_Wrong [.ptr 1000 0, dI 1] [(1000, .cells [.sl .tok c51, dI n75, dI c53, dI n76, .own 2000, .own 2001, dI w71, dI v74]), (2000, .row 72 .var l57), (2001, .row 74 .con l58)] (.tup []) [(1000, .cells [.sl .tok c51, dI n75, dI c53, dI w77, .own 2000, .own 2001, dI w71, dI v74]), (2000, .row 72 .var l57), (2001, .row 74 .con l58)] ∧
 sel (!decide (w77 = 0))
 ((∃ h78 : Int, SatH Tryz.prog f_cordonref_Reader_Here [.ptr 1000 0] [(1000, .cells [.sl .tok c51, dI n75, dI c53, dI w77, .own 2000, .own 2001, dI w71, dI v74]), (2000, .row 72 .var l57), (2001, .row 74 .con l58)] (dI h78) [(1000, .cells [.sl .tok c51, dI n75, dI c53, dI w77, .own 2000, .own 2001, dI w71, dI v74]), (2000, .row 72 .var l57), (2001, .row 74 .con l58)] ∧
 (fun p : Prop => ((p) ∧ p))
 (R (.tup [.agg [.sl .var ([] : List VarD), .sl .con ([] : List ConD), dI 0, dI 0], dI h78, dI w77]))) ∧
 ∃ h78 : Int, SatH Tryz.prog f_cordonref_Reader_Here [.ptr 1000 0] [(1000, .cells [.sl .tok c51, dI n75, dI c53, dI w77, .own 2000, .own 2001, dI w71, dI v74]), (2000, .row 72 .var l57), (2001, .row 74 .con l58)] (dI h78) [(1000, .cells [.sl .tok c51, dI n75, dI c53, dI w77, .own 2000, .own 2001, dI w71, dI v74]), (2000, .row 72 .var l57), (2001, .row 74 .con l58)] ∧
 R (.tup [.agg [.sl .var ([] : List VarD), .sl .con ([] : List ConD), dI 0, dI 0], dI h78, dI w77]))
 (Call1 Tryz.prog f_cordonref_CheckModel [.agg [.sl .var l57, .sl .con l58, dI w71, dI v74]] .int fun c79 =>
 sel (!decide (c79 = 0))
 (R (.tup [.agg [.sl .var ([] : List VarD), .sl .con ([] : List ConD), dI 0, dI 0], dI 0, dI c79]))
 (R (.tup [.agg [.sl .var l57, .sl .con l58, dI w71, dI v74], dI 0, dI c79]))))
 (sel (!decide (n76 = 0))
 ((∃ h80 : Int, SatH Tryz.prog f_cordonref_Reader_Here [.ptr 1000 0] [(1000, .cells [.sl .tok c51, dI n75, dI c53, dI n76, .own 2000, .own 2001, dI w71, dI v74]), (2000, .row 72 .var l57), (2001, .row 74 .con l58)] (dI h80) [(1000, .cells [.sl .tok c51, dI n75, dI c53, dI n76, .own 2000, .own 2001, dI w71, dI v74]), (2000, .row 72 .var l57), (2001, .row 74 .con l58)] ∧
 (fun p : Prop => ((p) ∧ p))
 (R (.tup [.agg [.sl .var ([] : List VarD), .sl .con ([] : List ConD), dI 0, dI 0], dI h80, dI n76]))) ∧
 ∃ h80 : Int, SatH Tryz.prog f_cordonref_Reader_Here [.ptr 1000 0] [(1000, .cells [.sl .tok c51, dI n75, dI c53, dI n76, .own 2000, .own 2001, dI w71, dI v74]), (2000, .row 72 .var l57), (2001, .row 74 .con l58)] (dI h80) [(1000, .cells [.sl .tok c51, dI n75, dI c53, dI n76, .own 2000, .own 2001, dI w71, dI v74]), (2000, .row 72 .var l57), (2001, .row 74 .con l58)] ∧
 R (.tup [.agg [.sl .var ([] : List VarD), .sl .con ([] : List ConD), dI 0, dI 0], dI h80, dI n76]))
 (Call1 Tryz.prog f_cordonref_CheckModel [.agg [.sl .var l57, .sl .con l58, dI w71, dI v74]] .int fun c81 =>
 sel (!decide (c81 = 0))
 (R (.tup [.agg [.sl .var ([] : List VarD), .sl .con ([] : List ConD), dI 0, dI 0], dI 0, dI c81]))
 (R (.tup [.agg [.sl .var l57, .sl .con l58, dI w71, dI v74], dI 0, dI c81])))))
 (∃ n82 : Int, ∃ n83 : Int, SatH Tryz.prog f_cordonref_Reader_Need [.ptr 1000 0, .str (⟨#[59]⟩ : ByteArray)] [(1000, .cells [.sl .tok c51, dI w69, dI c53, dI w70, .own 2000, .own 2001, dI w71, dI c56]), (2000, .row 72 .var l57), (2001, .row 74 .con l58)] (.tup []) [(1000, .cells [.sl .tok c51, dI n82, dI c53, dI n83, .own 2000, .own 2001, dI w71, dI c56]), (2000, .row 72 .var l57), (2001, .row 74 .con l58)] ∧
 sel (decide (n82 < (c1.length : Int)))
 (∃ w84 : Int, SatH Tryz.prog f_cordonref_Reader_Wrong [.ptr 1000 0, dI 1] [(1000, .cells [.sl .tok c51, dI n82, dI c53, dI n83, .own 2000, .own 2001, dI w71, dI c56]), (2000, .row 72 .var l57), (2001, .row 74 .con l58)] (.tup []) [(1000, .cells [.sl .tok c51, dI n82, dI c53, dI w84, .own 2000, .own 2001, dI w71, dI c56]), (2000, .row 72 .var l57), (2001, .row 74 .con l58)] ∧
 sel (!decide (w84 = 0))
 ((∃ h85 : Int, SatH Tryz.prog f_cordonref_Reader_Here [.ptr 1000 0] [(1000, .cells [.sl .tok c51, dI n82, dI c53, dI w84, .own 2000, .own 2001, dI w71, dI c56]), (2000, .row 72 .var l57), (2001, .row 74 .con l58)] (dI h85) [(1000, .cells [.sl .tok c51, dI n82, dI c53, dI w84, .own 2000, .own 2001, dI w71, dI c56]), (2000, .row 72 .var l57), (2001, .row 74 .con l58)] ∧
 (fun p : Prop => ((p) ∧ p))
 (R (.tup [.agg [.sl .var ([] : List VarD), .sl .con ([] : List ConD), dI 0, dI 0], dI h85, dI w84]))) ∧
 ∃ h85 : Int, SatH Tryz.prog f_cordonref_Reader_Here [.ptr 1000 0] [(1000, .cells [.sl .tok c51, dI n82, dI c53, dI w84, .own 2000, .own 2001, dI w71, dI c56]), (2000, .row 72 .var l57), (2001, .row 74 .con l58)] (dI h85) [(1000, .cells [.sl .tok c51, dI n82, dI c53, dI w84, .own 2000, .own 2001, dI w71, dI c56]), (2000, .row 72 .var l57), (2001, .row 74 .con l58)] ∧
 R (.tup [.agg [.sl .var ([] : List VarD), .sl .con ([] : List ConD), dI 0, dI 0], dI h85, dI w84]))
 (Call1 Tryz.prog f_cordonref_CheckModel [.agg [.sl .var l57, .sl .con l58, dI w71, dI c56]] .int fun c86 =>
 sel (!decide (c86 = 0))
 (R (.tup [.agg [.sl .var ([] : List VarD), .sl .con ([] : List ConD), dI 0, dI 0], dI 0, dI c86]))
 (R (.tup [.agg [.sl .var l57, .sl .con l58, dI w71, dI c56], dI 0, dI c86]))))
 (sel (!decide (n83 = 0))
 ((∃ h87 : Int, SatH Tryz.prog f_cordonref_Reader_Here [.ptr 1000 0] [(1000, .cells [.sl .tok c51, dI n82, dI c53, dI n83, .own 2000, .own 2001, dI w71, dI c56]), (2000, .row 72 .var l57), (2001, .row 74 .con l58)] (dI h87) [(1000, .cells [.sl .tok c51, dI n82, dI c53, dI n83, .own 2000, .own 2001, dI w71, dI c56]), (2000, .row 72 .var l57), (2001, .row 74 .con l58)] ∧
 (fun p : Prop => ((p) ∧ p))
 (R (.tup [.agg [.sl .var ([] : List VarD), .sl .con ([] : List ConD), dI 0, dI 0], dI h87, dI n83]))) ∧
 ∃ h87 : Int, SatH Tryz.prog f_cordonref_Reader_Here [.ptr 1000 0] [(1000, .cells [.sl .tok c51, dI n82, dI c53, dI n83, .own 2000, .own 2001, dI w71, dI c56]), (2000, .row 72 .var l57), (2001, .row 74 .con l58)] (dI h87) [(1000, .cells [.sl .tok c51, dI n82, dI c53, dI n83, .own 2000, .own 2001, dI w71, dI c56]), (2000, .row 72 .var l57), (2001, .row 74 .con l58)] ∧
 R (.tup [.agg [.sl .var ([] : List VarD), .sl .con ([] : List ConD), dI 0, dI 0], dI h87, dI n83]))
 (Call1 Tryz.prog f_cordonref_CheckModel [.agg [.sl .var l57, .sl .con l58, dI w71, dI c56]] .int fun c88 =>
 sel (!decide (c88 = 0))
 (R (.tup [.agg [.sl .var ([] : List VarD), .sl .con ([] : List ConD), dI 0, dI 0], dI 0, dI c88]))
 (R (.tup [.agg [.sl .var l57, .sl .con l58, dI w71, dI c56], dI 0, dI c88]))))))
 (∃ n89 : Int, ∃ n90 : Int, SatH Tryz.prog f_cordonref_Reader_Need [.ptr 1000 0, .str (⟨#[59]⟩ : ByteArray)] [(1000, .cells [.sl .tok c51, dI w69, dI c53, dI w70, .own 2000, .own 2001, dI w71, dI c56]), (2000, .row 72 .var l57), (2001, .row 74 .con l58)] (.tup []) [(1000, .cells [.sl .tok c51, dI n89, dI c53, dI n90, .own 2000, .own 2001, dI w71, dI c56]), (2000, .row 72 .var l57), (2001, .row 74 .con l58)] ∧
 sel (decide (n89 < (c1.length : Int)))
 (∃ w91 : Int, SatH Tryz.prog f_cordonref_Reader_Wrong [.ptr 1000 0, dI 1] [(1000, .cells [.sl .tok c51, dI n89, dI c53, dI n90, .own 2000, .own 2001, dI w71, dI c56]), (2000, .row 72 .var l57), (2001, .row 74 .con l58)] (.tup []) [(1000, .cells [.sl .tok c51, dI n89, dI c53, dI w91, .own 2000, .own 2001, dI w71, dI c56]), (2000, .row 72 .var l57), (2001, .row 74 .con l58)] ∧
 sel (!decide (w91 = 0))
 ((∃ h92 : Int, SatH Tryz.prog f_cordonref_Reader_Here [.ptr 1000 0] [(1000, .cells [.sl .tok c51, dI n89, dI c53, dI w91, .own 2000, .own 2001, dI w71, dI c56]), (2000, .row 72 .var l57), (2001, .row 74 .con l58)] (dI h92) [(1000, .cells [.sl .tok c51, dI n89, dI c53, dI w91, .own 2000, .own 2001, dI w71, dI c56]), (2000, .row 72 .var l57), (2001, .row 74 .con l58)] ∧
 (fun p : Prop => ((p) ∧ p))
 (R (.tup [.agg [.sl .var ([] : List VarD), .sl .con ([] : List ConD), dI 0, dI 0], dI h92, dI w91]))) ∧
 ∃ h92 : Int, SatH Tryz.prog f_cordonref_Reader_Here [.ptr 1000 0] [(1000, .cells [.sl .tok c51, dI n89, dI c53, dI w91, .own 2000, .own 2001, dI w71, dI c56]), (2000, .row 72 .var l57), (2001, .row 74 .con l58)] (dI h92) [(1000, .cells [.sl .tok c51, dI n89, dI c53, dI w91, .own 2000, .own 2001, dI w71, dI c56]), (2000, .row 72 .var l57), (2001, .row 74 .con l58)] ∧
 R (.tup [.agg [.sl .var ([] : List VarD), .sl .con ([] : List ConD), dI 0, dI 0], dI h92, dI w91]))
 (Call1 Tryz.prog f_cordonref_CheckModel [.agg [.sl .var l57, .sl .con l58, dI w71, dI c56]] .int fun c93 =>
 sel (!decide (c93 = 0))
 (R (.tup [.agg [.sl .var ([] : List VarD), .sl .con ([] : List ConD), dI 0, dI 0], dI 0, dI c93]))
 (R (.tup [.agg [.sl .var l57, .sl .con l58, dI w71, dI c56], dI 0, dI c93]))))
 (sel (!decide (n90 = 0))
 ((∃ h94 : Int, SatH Tryz.prog f_cordonref_Reader_Here [.ptr 1000 0] [(1000, .cells [.sl .tok c51, dI n89, dI c53, dI n90, .own 2000, .own 2001, dI w71, dI c56]), (2000, .row 72 .var l57), (2001, .row 74 .con l58)] (dI h94) [(1000, .cells [.sl .tok c51, dI n89, dI c53, dI n90, .own 2000, .own 2001, dI w71, dI c56]), (2000, .row 72 .var l57), (2001, .row 74 .con l58)] ∧
 (fun p : Prop => ((p) ∧ p))
 (R (.tup [.agg [.sl .var ([] : List VarD), .sl .con ([] : List ConD), dI 0, dI 0], dI h94, dI n90]))) ∧
 ∃ h94 : Int, SatH Tryz.prog f_cordonref_Reader_Here [.ptr 1000 0] [(1000, .cells [.sl .tok c51, dI n89, dI c53, dI n90, .own 2000, .own 2001, dI w71, dI c56]), (2000, .row 72 .var l57), (2001, .row 74 .con l58)] (dI h94) [(1000, .cells [.sl .tok c51, dI n89, dI c53, dI n90, .own 2000, .own 2001, dI w71, dI c56]), (2000, .row 72 .var l57), (2001, .row 74 .con l58)] ∧
 R (.tup [.agg [.sl .var ([] : List VarD), .sl .con ([] : List ConD), dI 0, dI 0], dI h94, dI n90]))
 (Call1 Tryz.prog f_cordonref_CheckModel [.agg [.sl .var l57, .sl .con l58, dI w71, dI c56]] .int fun c95 =>
 sel (!decide (c95 = 0))
 (R (.tup [.agg [.sl .var ([] : List VarD), .sl .con ([] : List ConD), dI 0, dI 0], dI 0, dI c95]))
 (R (.tup [.agg [.sl .var l57, .sl .con l58, dI w71, dI c56], dI 0, dI c95]))))))) := by kernel_rfl
theorem cordonref_ParseOf_I0_eq (R : D → Prop) (c1 : List Tok) (n0 : Nat) (c4 : List VarD) (c5 : List ConD) (c6 : Int) (c7 : Int) (c8 : List Tok) (c9 : Int) (c10 : Int) (c11 : Int) (c12 : Int) (c13 : Int) (l14 : List VarD) (l15 : List VarD) (l16 : List ConD) : cordonref_ParseOf_I0 R c1 (n0 + 1) c4 c5 c6 c7 c8 c9 c10 c11 c12 c13 l14 l15 l16 =
 (∃ t17 : ByteArray, SatH Tryz.prog f_cordonref_Reader_Text [.ptr 1000 0] [(1000, .cells [.sl .tok c8, dI c9, dI c10, dI c11, .own 2000, .own 2001, dI c12, dI c13]), (2000, .row 72 .var l15), (2001, .row 74 .con l16)] (.str t17) [(1000, .cells [.sl .tok c8, dI c9, dI c10, dI c11, .own 2000, .own 2001, dI c12, dI c13]), (2000, .row 72 .var l15), (2001, .row 74 .con l16)] ∧
 sel (decide (t17 = (⟨#[118, 97, 114]⟩ : ByteArray)))
 (∃ n18 : Int, ∃ n19 : Int, SatH Tryz.prog f_cordonref_Reader_Need [.ptr 1000 0, .str (⟨#[118, 97, 114]⟩ : ByteArray)] [(1000, .cells [.sl .tok c8, dI c9, dI c10, dI c11, .own 2000, .own 2001, dI c12, dI c13]), (2000, .row 72 .var l15), (2001, .row 74 .con l16)] (.tup []) [(1000, .cells [.sl .tok c8, dI n18, dI c10, dI n19, .own 2000, .own 2001, dI c12, dI c13]), (2000, .row 72 .var l15), (2001, .row 74 .con l16)] ∧
 ∃ t20 : ByteArray, SatH Tryz.prog f_cordonref_Reader_Text [.ptr 1000 0] [(1000, .cells [.sl .tok c8, dI n18, dI c10, dI n19, .own 2000, .own 2001, dI c12, dI c13]), (2000, .row 72 .var l15), (2001, .row 74 .con l16)] (.str t20) [(1000, .cells [.sl .tok c8, dI n18, dI c10, dI n19, .own 2000, .own 2001, dI c12, dI c13]), (2000, .row 72 .var l15), (2001, .row 74 .con l16)] ∧
 Call1 Tryz.prog f_cordonref_IsName [.str t20] .bool fun c21 =>
 sel c21
 (∃ n22 : Int, ∃ n23 : Int, SatH Tryz.prog f_cordonref_Reader_Need [.ptr 1000 0, .str (⟨#[58]⟩ : ByteArray)] [(1000, .cells [.sl .tok c8, dI (w64 (n18 + 1)), dI c10, dI n19, .own 2000, .own 2001, dI c12, dI c13]), (2000, .row 72 .var l15), (2001, .row 74 .con l16)] (.tup []) [(1000, .cells [.sl .tok c8, dI n22, dI c10, dI n23, .own 2000, .own 2001, dI c12, dI c13]), (2000, .row 72 .var l15), (2001, .row 74 .con l16)] ∧
 ∃ k24 : Int, ∃ k25 : Int, ∃ k26 : Int, SatH Tryz.prog f_cordonref_Reader_K [.ptr 1000 0] [(1000, .cells [.sl .tok c8, dI n22, dI c10, dI n23, .own 2000, .own 2001, dI c12, dI c13]), (2000, .row 72 .var l15), (2001, .row 74 .con l16)] (dI k26) [(1000, .cells [.sl .tok c8, dI k24, dI c10, dI k25, .own 2000, .own 2001, dI c12, dI c13]), (2000, .row 72 .var l15), (2001, .row 74 .con l16)] ∧
 ∃ n27 : Int, ∃ n28 : Int, SatH Tryz.prog f_cordonref_Reader_Need [.ptr 1000 0, .str (⟨#[46, 46]⟩ : ByteArray)] [(1000, .cells [.sl .tok c8, dI k24, dI c10, dI k25, .own 2000, .own 2001, dI c12, dI c13]), (2000, .row 72 .var l15), (2001, .row 74 .con l16)] (.tup []) [(1000, .cells [.sl .tok c8, dI n27, dI c10, dI n28, .own 2000, .own 2001, dI c12, dI c13]), (2000, .row 72 .var l15), (2001, .row 74 .con l16)] ∧
 ∃ k29 : Int, ∃ k30 : Int, ∃ k31 : Int, SatH Tryz.prog f_cordonref_Reader_K [.ptr 1000 0] [(1000, .cells [.sl .tok c8, dI n27, dI c10, dI n28, .own 2000, .own 2001, dI c12, dI c13]), (2000, .row 72 .var l15), (2001, .row 74 .con l16)] (dI k31) [(1000, .cells [.sl .tok c8, dI k29, dI c10, dI k30, .own 2000, .own 2001, dI c12, dI c13]), (2000, .row 72 .var l15), (2001, .row 74 .con l16)] ∧
 ∃ n32 : Int, ∃ n33 : Int, SatH Tryz.prog f_cordonref_Reader_Need [.ptr 1000 0, .str (⟨#[59]⟩ : ByteArray)] [(1000, .cells [.sl .tok c8, dI k29, dI c10, dI k30, .own 2000, .own 2001, dI c12, dI c13]), (2000, .row 72 .var l15), (2001, .row 74 .con l16)] (.tup []) [(1000, .cells [.sl .tok c8, dI n32, dI c10, dI n33, .own 2000, .own 2001, dI c12, dI c13]), (2000, .row 72 .var l15), (2001, .row 74 .con l16)] ∧
 room .var (l14.length + ([(⟨t20, k26, k31⟩ : VarD)]).length) = true ∧ cordonref_ParseOf_I0 R c1 n0 c4 c5 c6 c7 c8 n32 c10 n33 c12 c13 (l14 ++ ([(⟨t20, k26, k31⟩ : VarD)])) l15 l16)
 (∃ w34 : Int, SatH Tryz.prog f_cordonref_Reader_Wrong [.ptr 1000 0, dI 1] [(1000, .cells [.sl .tok c8, dI n18, dI c10, dI n19, .own 2000, .own 2001, dI c12, dI c13]), (2000, .row 72 .var l15), (2001, .row 74 .con l16)] (.tup []) [(1000, .cells [.sl .tok c8, dI n18, dI c10, dI w34, .own 2000, .own 2001, dI c12, dI c13]), (2000, .row 72 .var l15), (2001, .row 74 .con l16)] ∧
 ∃ n35 : Int, ∃ n36 : Int, SatH Tryz.prog f_cordonref_Reader_Need [.ptr 1000 0, .str (⟨#[58]⟩ : ByteArray)] [(1000, .cells [.sl .tok c8, dI n18, dI c10, dI w34, .own 2000, .own 2001, dI c12, dI c13]), (2000, .row 72 .var l15), (2001, .row 74 .con l16)] (.tup []) [(1000, .cells [.sl .tok c8, dI n35, dI c10, dI n36, .own 2000, .own 2001, dI c12, dI c13]), (2000, .row 72 .var l15), (2001, .row 74 .con l16)] ∧
 ∃ k37 : Int, ∃ k38 : Int, ∃ k39 : Int, SatH Tryz.prog f_cordonref_Reader_K [.ptr 1000 0] [(1000, .cells [.sl .tok c8, dI n35, dI c10, dI n36, .own 2000, .own 2001, dI c12, dI c13]), (2000, .row 72 .var l15), (2001, .row 74 .con l16)] (dI k39) [(1000, .cells [.sl .tok c8, dI k37, dI c10, dI k38, .own 2000, .own 2001, dI c12, dI c13]), (2000, .row 72 .var l15), (2001, .row 74 .con l16)] ∧
 ∃ n40 : Int, ∃ n41 : Int, SatH Tryz.prog f_cordonref_Reader_Need [.ptr 1000 0, .str (⟨#[46, 46]⟩ : ByteArray)] [(1000, .cells [.sl .tok c8, dI k37, dI c10, dI k38, .own 2000, .own 2001, dI c12, dI c13]), (2000, .row 72 .var l15), (2001, .row 74 .con l16)] (.tup []) [(1000, .cells [.sl .tok c8, dI n40, dI c10, dI n41, .own 2000, .own 2001, dI c12, dI c13]), (2000, .row 72 .var l15), (2001, .row 74 .con l16)] ∧
 ∃ k42 : Int, ∃ k43 : Int, ∃ k44 : Int, SatH Tryz.prog f_cordonref_Reader_K [.ptr 1000 0] [(1000, .cells [.sl .tok c8, dI n40, dI c10, dI n41, .own 2000, .own 2001, dI c12, dI c13]), (2000, .row 72 .var l15), (2001, .row 74 .con l16)] (dI k44) [(1000, .cells [.sl .tok c8, dI k42, dI c10, dI k43, .own 2000, .own 2001, dI c12, dI c13]), (2000, .row 72 .var l15), (2001, .row 74 .con l16)] ∧
 ∃ n45 : Int, ∃ n46 : Int, SatH Tryz.prog f_cordonref_Reader_Need [.ptr 1000 0, .str (⟨#[59]⟩ : ByteArray)] [(1000, .cells [.sl .tok c8, dI k42, dI c10, dI k43, .own 2000, .own 2001, dI c12, dI c13]), (2000, .row 72 .var l15), (2001, .row 74 .con l16)] (.tup []) [(1000, .cells [.sl .tok c8, dI n45, dI c10, dI n46, .own 2000, .own 2001, dI c12, dI c13]), (2000, .row 72 .var l15), (2001, .row 74 .con l16)] ∧
 room .var (l14.length + ([(⟨t20, k39, k44⟩ : VarD)]).length) = true ∧ cordonref_ParseOf_I0 R c1 n0 c4 c5 c6 c7 c8 n45 c10 n46 c12 c13 (l14 ++ ([(⟨t20, k39, k44⟩ : VarD)])) l15 l16))
 (∃ n2, cordonref_ParseOf_I2 R c1 n2 c4 c5 c6 c7 c8 c9 c10 c11 c12 c13 l14 l16)) := by kernel_rfl
theorem cordonref_ParseOf_eq (a0 : ByteArray) (R : D → Prop) : FD cordonref_ParseOf_A Tryz.f11 [.str a0] R =
 (Call3 Tryz.prog f_cordonref_ScanOf [.str a0] (.list .tok) .int .int fun c1 c2 c3 =>
 sel (!decide (c3 = 0))
 (R (.tup [.agg [.sl .var ([] : List VarD), .sl .con ([] : List ConD), dI 0, dI 0], dI c2, dI c3]))
 (∃ n0, cordonref_ParseOf_I0 R c1 n0 ([] : List VarD) ([] : List ConD) 0 0 c1 0 (a0.size : Int) 0 0 0 ([] : List VarD) ([] : List VarD) ([] : List ConD))) := by kernel_rfl
theorem cordonref_ParseOf_sat (a0 : ByteArray) : SatI cordonref_ParseOf_A Tryz.f11 f_cordonref_ParseOf [.str a0] := satD Tryz.func11 (by kernel_rfl) Tryz.ntmps11 rfl
/-! ### cordon/cordonref.SameModel -/
def cordonref_SameModel_A : Ann := { own := [], live := [(0, ([2, 3, 5], [])), (2, ([2, 3, 6], []))], n := 74, nils := [], pubs := [] }
def cordonref_SameModel_I2 (a0 : MdlD) (a1 : MdlD) (R : D → Prop) (n2 : Nat) (v2 : Int) : Prop := LP cordonref_SameModel_A Tryz.f13 [1, 1, 1, 0, 1, 0, 0] 2 n2 ⟨[(2, .iptr [.sl .var a0.vars, .sl .con a0.cons, dI a0.goal, dI a0.var] 0), (3, .iptr [.sl .var a1.vars, .sl .con a1.cons, dI a1.goal, dI a1.var] 0), (6, dI v2)], []⟩ (blockK 2 (sK cordonref_SameModel_A Tryz.f13 [1, 1, 1, 1] 0 (eK Tryz.f13 R)))
def cordonref_SameModel_I0 (a0 : MdlD) (a1 : MdlD) (R : D → Prop) (n0 : Nat) (v1 : Int) : Prop := LP cordonref_SameModel_A Tryz.f13 [1, 1, 0, 1, 0, 0] 0 n0 ⟨[(2, .iptr [.sl .var a0.vars, .sl .con a0.cons, dI a0.goal, dI a0.var] 0), (3, .iptr [.sl .var a1.vars, .sl .con a1.cons, dI a1.goal, dI a1.var] 0), (5, dI v1)], []⟩ (blockK 0 (sK cordonref_SameModel_A Tryz.f13 [1, 1, 1] 0 (eK Tryz.f13 R)))
theorem cordonref_SameModel_I2_eq (a0 : MdlD) (a1 : MdlD) (R : D → Prop) (n2 : Nat) (v2 : Int) : cordonref_SameModel_I2 a0 a1 R (n2 + 1) v2 =
 (sel (decide (v2 < (a0.cons.length : Int)))
 (inb v2 a0.cons.length = true ∧
 inb v2 a1.cons.length = true ∧
 Call1 Tryz.prog f_cordonref_sameCon [dC (at' .con a0.cons v2.toNat), dC (at' .con a1.cons v2.toNat)] .bool fun c3 =>
 sel (!c3)
 (R (dB false))
 (cordonref_SameModel_I2 a0 a1 R n2 (w64 (v2 + 1))))
 (R (dB true))) := by kernel_rfl
theorem cordonref_SameModel_I0_eq (a0 : MdlD) (a1 : MdlD) (R : D → Prop) (n0 : Nat) (v1 : Int) : cordonref_SameModel_I0 a0 a1 R (n0 + 1) v1 =
 (sel (decide (v1 < (a0.vars.length : Int)))
 (inb v1 a0.vars.length = true ∧
 inb v1 a1.vars.length = true ∧
 sel (!decide ((at' .var a0.vars v1.toNat) = (at' .var a1.vars v1.toNat)))
 (R (dB false))
 (cordonref_SameModel_I0 a0 a1 R n0 (w64 (v1 + 1))))
 (∃ n2, cordonref_SameModel_I2 a0 a1 R n2 0)) := by kernel_rfl
theorem cordonref_SameModel_eq (a0 : MdlD) (a1 : MdlD) (R : D → Prop) : FD cordonref_SameModel_A Tryz.f13 [dM a0, dM a1] R =
 (sel (!decide ((a0.vars.length : Int) = (a1.vars.length : Int)))
 (R (dB false))
 (sel (!decide ((a0.cons.length : Int) = (a1.cons.length : Int)))
 (R (dB false))
 (sel (!decide (a0.goal = a1.goal))
 (R (dB false))
 (sel (!decide (a0.var = a1.var))
 (R (dB false))
 (∃ n0, cordonref_SameModel_I0 a0 a1 R n0 0))))) := by kernel_rfl
theorem cordonref_SameModel_sat (a0 : MdlD) (a1 : MdlD) : SatI cordonref_SameModel_A Tryz.f13 f_cordonref_SameModel [dM a0, dM a1] := satD Tryz.func13 (by kernel_rfl) Tryz.ntmps13 rfl
/-! ### cordon/cordonref.CheckModel -/
def cordonref_CheckModel_A : Ann := { own := [5], live := [(0, ([1, 3, 4], [])), (2, ([1, 3, 4, 5, 6], [5])), (4, ([1, 3, 7], []))], n := 114, nils := [], pubs := [] }
def cordonref_CheckModel_I2 (a0 : MdlD) (R : D → Prop) (n0 : Nat) (v1 : Int) (n2 : Nat) (v3 : Int) : Prop := LP cordonref_CheckModel_A Tryz.f15 [1, 1, 1, 1, 0, 1, 0, 0, 1, 0, 0, 1, 1, 0, 1, 0, 0] 2 n2 ⟨[(1, .iptr [.sl .var a0.vars, .sl .con a0.cons, dI a0.goal, dI a0.var] 0), (3, dI (a0.vars.length : Int)), (4, dI v1), (5, .ptr 5 0), (6, dI v3)], [(5, .cells [.str ((at' .var a0.vars v1.toNat).name), dI ((at' .var a0.vars v1.toNat).lo), dI ((at' .var a0.vars v1.toNat).hi)])]⟩ (blockK 2 (sK cordonref_CheckModel_A Tryz.f15 [1, 1, 1, 1, 0, 1, 0, 0, 1, 0, 0, 1, 1, 1] 1 (blockK 1 (sK cordonref_CheckModel_A Tryz.f15 [1, 1, 1, 1, 0, 1, 0, 0, 1, 1] 0 (iK cordonref_CheckModel_A Tryz.f15 [1, 1, 1, 1, 0, 1, 0, 0] 0 n0 (blockK 0 (sK cordonref_CheckModel_A Tryz.f15 [1, 1, 1, 1, 1] 0 (eK Tryz.f15 R))))))))
def cordonref_CheckModel_I4 (a0 : MdlD) (R : D → Prop) (n4 : Nat) (v6 : Int) : Prop := LP cordonref_CheckModel_A Tryz.f15 [1, 1, 1, 1, 1, 0, 1, 0, 0] 4 n4 ⟨[(1, .iptr [.sl .var a0.vars, .sl .con a0.cons, dI a0.goal, dI a0.var] 0), (3, dI (a0.vars.length : Int)), (7, dI v6)], []⟩ (blockK 4 (sK cordonref_CheckModel_A Tryz.f15 [1, 1, 1, 1, 1, 1] 0 (eK Tryz.f15 R)))
def cordonref_CheckModel_I0 (a0 : MdlD) (R : D → Prop) (n0 : Nat) (v1 : Int) : Prop := LP cordonref_CheckModel_A Tryz.f15 [1, 1, 1, 1, 0, 1, 0, 0] 0 n0 ⟨[(1, .iptr [.sl .var a0.vars, .sl .con a0.cons, dI a0.goal, dI a0.var] 0), (3, dI (a0.vars.length : Int)), (4, dI v1)], []⟩ (blockK 0 (sK cordonref_CheckModel_A Tryz.f15 [1, 1, 1, 1, 1] 0 (eK Tryz.f15 R)))
theorem cordonref_CheckModel_I2_eq (a0 : MdlD) (R : D → Prop) (n0 : Nat) (v1 : Int) (n2 : Nat) (v3 : Int) : cordonref_CheckModel_I2 a0 R n0 v1 (n2 + 1) v3 =
 (sel (decide (v3 < v1))
 (inb v3 a0.vars.length = true ∧
 sel (decide (((at' .var a0.vars v3.toNat).name) = ((at' .var a0.vars v1.toNat).name)))
 (R (dI 6))
 (cordonref_CheckModel_I2 a0 R n0 v1 n2 (w64 (v3 + 1))))
 (Call1 Tryz.prog f_cordonref_between [dI ((at' .var a0.vars v1.toNat).lo), dI (-50), dI 50] .bool fun c4 =>
 sel (!c4)
 (R (dI 3))
 (Call1 Tryz.prog f_cordonref_between [dI ((at' .var a0.vars v1.toNat).hi), dI (-50), dI 50] .bool fun c5 =>
 sel (!c5)
 (R (dI 3))
 (sel (decide (((at' .var a0.vars v1.toNat).hi) < ((at' .var a0.vars v1.toNat).lo)))
 (R (dI 3))
 (sel (decide (6 < (w64 ((w64 (((at' .var a0.vars v1.toNat).hi) - ((at' .var a0.vars v1.toNat).lo))) + 1))))
 (R (dI 2))
 (cordonref_CheckModel_I0 a0 R n0 (w64 (v1 + 1)))))))) := by kernel_rfl
theorem cordonref_CheckModel_I4_eq (a0 : MdlD) (R : D → Prop) (n4 : Nat) (v6 : Int) : cordonref_CheckModel_I4 a0 R (n4 + 1) v6 =
 (sel (decide (v6 < (a0.cons.length : Int)))
 (inb v6 a0.cons.length = true ∧
 Call1 Tryz.prog f_cordonref_checkCon [dM a0, dC (at' .con a0.cons v6.toNat)] .int fun c7 =>
 sel (!decide (c7 = 0))
 (R (dI c7))
 (cordonref_CheckModel_I4 a0 R n4 (w64 (v6 + 1))))
 (Call1 Tryz.prog f_cordonref_between [dI a0.goal, dI 0, dI 2] .bool fun c8 =>
 sel (!c8)
 (R (dI 7))
 (sel (decide (a0.goal = 0))
 (sel (!decide (a0.var = 0))
 (R (dI 1))
 (sel (!decide (a0.goal = 0))
 (Call1 Tryz.prog f_cordonref_between [dI a0.var, dI 0, dI (w64 ((a0.vars.length : Int) - 1))] .bool fun c9 =>
 sel (!c9)
 (R (dI 5))
 (R (dI 0)))
 (R (dI 0))))
 (sel (!decide (a0.goal = 0))
 (Call1 Tryz.prog f_cordonref_between [dI a0.var, dI 0, dI (w64 ((a0.vars.length : Int) - 1))] .bool fun c10 =>
 sel (!c10)
 (R (dI 5))
 (R (dI 0)))
 (R (dI 0)))))) := by kernel_rfl
theorem cordonref_CheckModel_I0_eq (a0 : MdlD) (R : D → Prop) (n0 : Nat) (v1 : Int) : cordonref_CheckModel_I0 a0 R (n0 + 1) v1 =
 (sel (decide (v1 < (a0.vars.length : Int)))
 (inb v1 a0.vars.length = true ∧
 Call1 Tryz.prog f_cordonref_IsName [.str ((at' .var a0.vars v1.toNat).name)] .bool fun c2 =>
 sel (!c2)
 (R (dI 1))
 (∃ n2, cordonref_CheckModel_I2 a0 R n0 v1 n2 0))
 (∃ n4, cordonref_CheckModel_I4 a0 R n4 0)) := by kernel_rfl
theorem cordonref_CheckModel_eq (a0 : MdlD) (R : D → Prop) : FD cordonref_CheckModel_A Tryz.f15 [dM a0] R =
 (sel (decide ((a0.vars.length : Int) = 0))
 (R (dI 1))
 (sel (decide (6 < (a0.vars.length : Int)))
 (R (dI 2))
 (sel (decide (8 < (a0.cons.length : Int)))
 (R (dI 2))
 (∃ n0, cordonref_CheckModel_I0 a0 R n0 0)))) := by kernel_rfl
theorem cordonref_CheckModel_sat (a0 : MdlD) : SatI cordonref_CheckModel_A Tryz.f15 f_cordonref_CheckModel [dM a0] := satD Tryz.func15 (by kernel_rfl) Tryz.ntmps15 rfl
/-! ### cordon/cordonref.SameInts -/
def cordonref_SameInts_A : Ann := { own := [], live := [(0, ([0, 1, 5], []))], n := 26, nils := [], pubs := [] }
def cordonref_SameInts_I0 (a0 : List Int) (a1 : List Int) (R : D → Prop) (n0 : Nat) (i1 : Int) : Prop := LP cordonref_SameInts_A Tryz.f38 [1, 1, 0, 1, 0, 0] 0 n0 ⟨[(0, .sl .int a0), (1, .sl .int a1), (5, dI i1)], []⟩ (blockK 0 (sK cordonref_SameInts_A Tryz.f38 [1, 1, 1] 0 (eK Tryz.f38 R)))
theorem cordonref_SameInts_I0_eq (a0 : List Int) (a1 : List Int) (R : D → Prop) (n0 : Nat) (i1 : Int) : cordonref_SameInts_I0 a0 a1 R (n0 + 1) i1 =
 (sel (decide (i1 < (a0.length : Int)))
 (inb i1 a0.length = true ∧
 inb i1 a1.length = true ∧
 sel (!decide ((at' .int a0 i1.toNat) = (at' .int a1 i1.toNat)))
 (R (dB false))
 (cordonref_SameInts_I0 a0 a1 R n0 (w64 (i1 + 1))))
 (R (dB true))) := by kernel_rfl
theorem cordonref_SameInts_eq (a0 : List Int) (a1 : List Int) (R : D → Prop) : FD cordonref_SameInts_A Tryz.f38 [.sl .int a0, .sl .int a1] R =
 (sel (!decide ((a0.length : Int) = (a1.length : Int)))
 (R (dB false))
 (∃ n0, cordonref_SameInts_I0 a0 a1 R n0 0)) := by kernel_rfl
theorem cordonref_SameInts_sat (a0 : List Int) (a1 : List Int) : SatI cordonref_SameInts_A Tryz.f38 f_cordonref_SameInts [.sl .int a0, .sl .int a1] := satD Tryz.func38 (by kernel_rfl) Tryz.ntmps38 rfl
/-! ### (*cordon/cordonref.Reader).Text -/
def cordonref_Reader_Text_A : Ann := { own := [], live := [], n := 31, nils := [], pubs := [], first := true }
theorem cordonref_Reader_Text_eq (l0 : List Tok) (at0 : Int) (en0 : Int) (er0 : Int) (goal0 : Int) (mvar0 : Int) (pv0 : List VarD) (pc0 : List ConD) (R : D → List (Nat × HObj) → Prop) : FH cordonref_Reader_Text_A Tryz.f45 [.ptr 1000 0] [(1000, .cells [.sl .tok l0, dI at0, dI en0, dI er0, .own 2000, .own 2001, dI goal0, dI mvar0]), (2000, .row 72 .var pv0), (2001, .row 74 .con pc0)] [.ptr 1000 0] false R =
 (sel (!decide (er0 = 0))
 (R (.str (⟨#[]⟩ : ByteArray)) [(1000, .cells [.sl .tok l0, dI at0, dI en0, dI er0, .own 2000, .own 2001, dI goal0, dI mvar0]), (2000, .row 72 .var pv0), (2001, .row 74 .con pc0)])
 (sel (decide ((l0.length : Int) ≤ at0))
 (R (.str (⟨#[]⟩ : ByteArray)) [(1000, .cells [.sl .tok l0, dI at0, dI en0, dI er0, .own 2000, .own 2001, dI goal0, dI mvar0]), (2000, .row 72 .var pv0), (2001, .row 74 .con pc0)])
 (inb at0 l0.length = true ∧ R (.str ((at' .tok l0 at0.toNat).text)) [(1000, .cells [.sl .tok l0, dI at0, dI en0, dI er0, .own 2000, .own 2001, dI goal0, dI mvar0]), (2000, .row 72 .var pv0), (2001, .row 74 .con pc0)]))) := by kernel_rfl
theorem cordonref_Reader_Text_sat (l0 : List Tok) (at0 : Int) (en0 : Int) (er0 : Int) (goal0 : Int) (mvar0 : Int) (pv0 : List VarD) (pc0 : List ConD) : SatHI cordonref_Reader_Text_A Tryz.f45 f_cordonref_Reader_Text [.ptr 1000 0] [(1000, .cells [.sl .tok l0, dI at0, dI en0, dI er0, .own 2000, .own 2001, dI goal0, dI mvar0]), (2000, .row 72 .var pv0), (2001, .row 74 .con pc0)] [.ptr 1000 0] false := satHD Tryz.func45 (by kernel_rfl) Tryz.ntmps45 rfl
/-! ### (*cordon/cordonref.Reader).Need -/
def cordonref_Reader_Need_A : Ann := { own := [], live := [], n := 24, nils := [], pubs := [], first := true }
theorem cordonref_Reader_Need_eq (l0 : List Tok) (at0 : Int) (en0 : Int) (er0 : Int) (goal0 : Int) (mvar0 : Int) (pv0 : List VarD) (pc0 : List ConD) (s0 : ByteArray) (R : D → List (Nat × HObj) → Prop) : FH cordonref_Reader_Need_A Tryz.f46 [.ptr 1000 0, .str s0] [(1000, .cells [.sl .tok l0, dI at0, dI en0, dI er0, .own 2000, .own 2001, dI goal0, dI mvar0]), (2000, .row 72 .var pv0), (2001, .row 74 .con pc0)] [.ptr 1000 0] false R =
 (sel (decide (er0 = 0))
 (∃ t1 : ByteArray, SatH Tryz.prog f_cordonref_Reader_Text [.ptr 1000 0] [(1000, .cells [.sl .tok l0, dI at0, dI en0, dI er0, .own 2000, .own 2001, dI goal0, dI mvar0]), (2000, .row 72 .var pv0), (2001, .row 74 .con pc0)] (.str t1) [(1000, .cells [.sl .tok l0, dI at0, dI en0, dI er0, .own 2000, .own 2001, dI goal0, dI mvar0]), (2000, .row 72 .var pv0), (2001, .row 74 .con pc0)] ∧
 sel (decide (t1 = s0))
 (R (.tup []) [(1000, .cells [.sl .tok l0, dI (w64 (at0 + 1)), dI en0, dI er0, .own 2000, .own 2001, dI goal0, dI mvar0]), (2000, .row 72 .var pv0), (2001, .row 74 .con pc0)])
 (∃ w2 : Int, SatH Tryz.prog f_cordonref_Reader_Wrong [.ptr 1000 0, dI 1] [(1000, .cells [.sl .tok l0, dI at0, dI en0, dI er0, .own 2000, .own 2001, dI goal0, dI mvar0]), (2000, .row 72 .var pv0), (2001, .row 74 .con pc0)] (.tup []) [(1000, .cells [.sl .tok l0, dI at0, dI en0, dI w2, .own 2000, .own 2001, dI goal0, dI mvar0]), (2000, .row 72 .var pv0), (2001, .row 74 .con pc0)] ∧
 R (.tup []) [(1000, .cells [.sl .tok l0, dI at0, dI en0, dI w2, .own 2000, .own 2001, dI goal0, dI mvar0]), (2000, .row 72 .var pv0), (2001, .row 74 .con pc0)]))
 (∃ w3 : Int, SatH Tryz.prog f_cordonref_Reader_Wrong [.ptr 1000 0, dI 1] [(1000, .cells [.sl .tok l0, dI at0, dI en0, dI er0, .own 2000, .own 2001, dI goal0, dI mvar0]), (2000, .row 72 .var pv0), (2001, .row 74 .con pc0)] (.tup []) [(1000, .cells [.sl .tok l0, dI at0, dI en0, dI w3, .own 2000, .own 2001, dI goal0, dI mvar0]), (2000, .row 72 .var pv0), (2001, .row 74 .con pc0)] ∧
 R (.tup []) [(1000, .cells [.sl .tok l0, dI at0, dI en0, dI w3, .own 2000, .own 2001, dI goal0, dI mvar0]), (2000, .row 72 .var pv0), (2001, .row 74 .con pc0)])) := by kernel_rfl
theorem cordonref_Reader_Need_sat (l0 : List Tok) (at0 : Int) (en0 : Int) (er0 : Int) (goal0 : Int) (mvar0 : Int) (pv0 : List VarD) (pc0 : List ConD) (s0 : ByteArray) : SatHI cordonref_Reader_Need_A Tryz.f46 f_cordonref_Reader_Need [.ptr 1000 0, .str s0] [(1000, .cells [.sl .tok l0, dI at0, dI en0, dI er0, .own 2000, .own 2001, dI goal0, dI mvar0]), (2000, .row 72 .var pv0), (2001, .row 74 .con pc0)] [.ptr 1000 0] false := satHD Tryz.func46 (by kernel_rfl) Tryz.ntmps46 rfl
/-! ### (*cordon/cordonref.Reader).Wrong -/
def cordonref_Reader_Wrong_A : Ann := { own := [], live := [], n := 13, nils := [], pubs := [], first := true }
theorem cordonref_Reader_Wrong_eq (l0 : List Tok) (at0 : Int) (en0 : Int) (er0 : Int) (goal0 : Int) (mvar0 : Int) (pv0 : List VarD) (pc0 : List ConD) (e0 : Int) (R : D → List (Nat × HObj) → Prop) : FH cordonref_Reader_Wrong_A Tryz.f48 [.ptr 1000 0, dI e0] [(1000, .cells [.sl .tok l0, dI at0, dI en0, dI er0, .own 2000, .own 2001, dI goal0, dI mvar0]), (2000, .row 72 .var pv0), (2001, .row 74 .con pc0)] [.ptr 1000 0] false R =
 (sel (decide (er0 = 0))
 (R (.tup []) [(1000, .cells [.sl .tok l0, dI at0, dI en0, dI e0, .own 2000, .own 2001, dI goal0, dI mvar0]), (2000, .row 72 .var pv0), (2001, .row 74 .con pc0)])
 (R (.tup []) [(1000, .cells [.sl .tok l0, dI at0, dI en0, dI er0, .own 2000, .own 2001, dI goal0, dI mvar0]), (2000, .row 72 .var pv0), (2001, .row 74 .con pc0)])) := by kernel_rfl
theorem cordonref_Reader_Wrong_sat (l0 : List Tok) (at0 : Int) (en0 : Int) (er0 : Int) (goal0 : Int) (mvar0 : Int) (pv0 : List VarD) (pc0 : List ConD) (e0 : Int) : SatHI cordonref_Reader_Wrong_A Tryz.f48 f_cordonref_Reader_Wrong [.ptr 1000 0, dI e0] [(1000, .cells [.sl .tok l0, dI at0, dI en0, dI er0, .own 2000, .own 2001, dI goal0, dI mvar0]), (2000, .row 72 .var pv0), (2001, .row 74 .con pc0)] [.ptr 1000 0] false := satHD Tryz.func48 (by kernel_rfl) Tryz.ntmps48 rfl
/-! ### (*cordon/cordonref.Reader).K -/
def cordonref_Reader_K_A : Ann := { own := [], live := [(0, ([0, 3, 4, 5, 6], [1000, 2000, 2001]))], n := 56, nils := [], pubs := [], first := true }
def cordonref_Reader_K_I0 (l0 : List Tok) (en0 : Int) (goal0 : Int) (mvar0 : Int) (pv0 : List VarD) (pc0 : List ConD) (R : D → List (Nat × HObj) → Prop) (n2 : Int) (n3 : Int) (t4 : ByteArray) (n0 : Nat) (n9 : Int) (i10 : Int) : Prop := LP cordonref_Reader_K_A Tryz.f49 [1, 1, 1, 1, 1, 1, 0, 1, 0, 0] 0 n0 ⟨[(0, .ptr 1000 0), (3, dI (-1)), (4, .str t4), (5, dI n9), (6, dI i10)], [(1000, .cells [.sl .tok l0, dI n2, dI en0, dI n3, .own 2000, .own 2001, dI goal0, dI mvar0]), (2000, .row 72 .var pv0), (2001, .row 74 .con pc0)]⟩ (blockK 0 (sK cordonref_Reader_K_A Tryz.f49 [1, 1, 1, 1, 1, 1, 1] 0 (eH Tryz.f49 [.ptr 1000 0] false R)))
def cordonref_Reader_K_I0_2 (l0 : List Tok) (en0 : Int) (goal0 : Int) (mvar0 : Int) (pv0 : List VarD) (pc0 : List ConD) (R : D → List (Nat × HObj) → Prop) (n2 : Int) (n3 : Int) (t4 : ByteArray) (n0_2 : Nat) (n11 : Int) (i12 : Int) : Prop := LP cordonref_Reader_K_A Tryz.f49 [1, 1, 1, 1, 1, 1, 0, 1, 0, 0] 0 n0_2 ⟨[(0, .ptr 1000 0), (3, dI (-1)), (4, .str t4), (5, dI n11), (6, dI i12)], [(1000, .cells [.sl .tok l0, dI n2, dI en0, dI n3, .own 2000, .own 2001, dI goal0, dI mvar0]), (2000, .row 72 .var pv0), (2001, .row 74 .con pc0)]⟩ (blockK 0 (sK cordonref_Reader_K_A Tryz.f49 [1, 1, 1, 1, 1, 1, 1] 0 (eH Tryz.f49 [.ptr 1000 0] false R)))
def cordonref_Reader_K_I0_3 (l0 : List Tok) (at0 : Int) (en0 : Int) (er0 : Int) (goal0 : Int) (mvar0 : Int) (pv0 : List VarD) (pc0 : List ConD) (R : D → List (Nat × HObj) → Prop) (t13 : ByteArray) (n0_3 : Nat) (n18 : Int) (i19 : Int) : Prop := LP cordonref_Reader_K_A Tryz.f49 [1, 1, 1, 1, 1, 1, 0, 1, 0, 0] 0 n0_3 ⟨[(0, .ptr 1000 0), (3, dI 1), (4, .str t13), (5, dI n18), (6, dI i19)], [(1000, .cells [.sl .tok l0, dI at0, dI en0, dI er0, .own 2000, .own 2001, dI goal0, dI mvar0]), (2000, .row 72 .var pv0), (2001, .row 74 .con pc0)]⟩ (blockK 0 (sK cordonref_Reader_K_A Tryz.f49 [1, 1, 1, 1, 1, 1, 1] 0 (eH Tryz.f49 [.ptr 1000 0] false R)))
def cordonref_Reader_K_I0_4 (l0 : List Tok) (at0 : Int) (en0 : Int) (er0 : Int) (goal0 : Int) (mvar0 : Int) (pv0 : List VarD) (pc0 : List ConD) (R : D → List (Nat × HObj) → Prop) (t13 : ByteArray) (n0_4 : Nat) (n20 : Int) (i21 : Int) : Prop := LP cordonref_Reader_K_A Tryz.f49 [1, 1, 1, 1, 1, 1, 0, 1, 0, 0] 0 n0_4 ⟨[(0, .ptr 1000 0), (3, dI 1), (4, .str t13), (5, dI n20), (6, dI i21)], [(1000, .cells [.sl .tok l0, dI at0, dI en0, dI er0, .own 2000, .own 2001, dI goal0, dI mvar0]), (2000, .row 72 .var pv0), (2001, .row 74 .con pc0)]⟩ (blockK 0 (sK cordonref_Reader_K_A Tryz.f49 [1, 1, 1, 1, 1, 1, 1] 0 (eH Tryz.f49 [.ptr 1000 0] false R)))
theorem cordonref_Reader_K_I0_eq (l0 : List Tok) (en0 : Int) (goal0 : Int) (mvar0 : Int) (pv0 : List VarD) (pc0 : List ConD) (R : D → List (Nat × HObj) → Prop) (n2 : Int) (n3 : Int) (t4 : ByteArray) (n0 : Nat) (n9 : Int) (i10 : Int) : cordonref_Reader_K_I0 l0 en0 goal0 mvar0 pv0 pc0 R n2 n3 t4 (n0 + 1) n9 i10 =
 (sel (decide (i10 < (t4.size : Int)))
 (inb i10 t4.size = true ∧ cordonref_Reader_K_I0 l0 en0 goal0 mvar0 pv0 pc0 R n2 n3 t4 n0 (w64 ((w64 ((w64 (10 * n9)) + (w64 (byteAt t4 i10.toNat)))) - 48)) (w64 (i10 + 1)))
 (R (dI (w64 ((-1) * n9))) [(1000, .cells [.sl .tok l0, dI (w64 (n2 + 1)), dI en0, dI n3, .own 2000, .own 2001, dI goal0, dI mvar0]), (2000, .row 72 .var pv0), (2001, .row 74 .con pc0)])) := by kernel_rfl
theorem cordonref_Reader_K_I0_4_eq (l0 : List Tok) (at0 : Int) (en0 : Int) (er0 : Int) (goal0 : Int) (mvar0 : Int) (pv0 : List VarD) (pc0 : List ConD) (R : D → List (Nat × HObj) → Prop) (t13 : ByteArray) (n0_4 : Nat) (n20 : Int) (i21 : Int) : cordonref_Reader_K_I0_4 l0 at0 en0 er0 goal0 mvar0 pv0 pc0 R t13 (n0_4 + 1) n20 i21 =
 (sel (decide (i21 < (t13.size : Int)))
 (inb i21 t13.size = true ∧ cordonref_Reader_K_I0_4 l0 at0 en0 er0 goal0 mvar0 pv0 pc0 R t13 n0_4 (w64 ((w64 ((w64 (10 * n20)) + (w64 (byteAt t13 i21.toNat)))) - 48)) (w64 (i21 + 1)))
 (R (dI (w64 (1 * n20))) [(1000, .cells [.sl .tok l0, dI (w64 (at0 + 1)), dI en0, dI er0, .own 2000, .own 2001, dI goal0, dI mvar0]), (2000, .row 72 .var pv0), (2001, .row 74 .con pc0)])) := by kernel_rfl
theorem cordonref_Reader_K_eq (l0 : List Tok) (at0 : Int) (en0 : Int) (er0 : Int) (goal0 : Int) (mvar0 : Int) (pv0 : List VarD) (pc0 : List ConD) (R : D → List (Nat × HObj) → Prop) : FH cordonref_Reader_K_A Tryz.f49 [.ptr 1000 0] [(1000, .cells [.sl .tok l0, dI at0, dI en0, dI er0, .own 2000, .own 2001, dI goal0, dI mvar0]), (2000, .row 72 .var pv0), (2001, .row 74 .con pc0)] [.ptr 1000 0] false R =
 (∃ t1 : ByteArray, SatH Tryz.prog f_cordonref_Reader_Text [.ptr 1000 0] [(1000, .cells [.sl .tok l0, dI at0, dI en0, dI er0, .own 2000, .own 2001, dI goal0, dI mvar0]), (2000, .row 72 .var pv0), (2001, .row 74 .con pc0)] (.str t1) [(1000, .cells [.sl .tok l0, dI at0, dI en0, dI er0, .own 2000, .own 2001, dI goal0, dI mvar0]), (2000, .row 72 .var pv0), (2001, .row 74 .con pc0)] ∧
 sel (decide (t1 = (⟨#[45]⟩ : ByteArray)))
 (∃ n2 : Int, ∃ n3 : Int, SatH Tryz.prog f_cordonref_Reader_Need [.ptr 1000 0, .str (⟨#[45]⟩ : ByteArray)] [(1000, .cells [.sl .tok l0, dI at0, dI en0, dI er0, .own 2000, .own 2001, dI goal0, dI mvar0]), (2000, .row 72 .var pv0), (2001, .row 74 .con pc0)] (.tup []) [(1000, .cells [.sl .tok l0, dI n2, dI en0, dI n3, .own 2000, .own 2001, dI goal0, dI mvar0]), (2000, .row 72 .var pv0), (2001, .row 74 .con pc0)] ∧
 ∃ t4 : ByteArray, SatH Tryz.prog f_cordonref_Reader_Text [.ptr 1000 0] [(1000, .cells [.sl .tok l0, dI n2, dI en0, dI n3, .own 2000, .own 2001, dI goal0, dI mvar0]), (2000, .row 72 .var pv0), (2001, .row 74 .con pc0)] (.str t4) [(1000, .cells [.sl .tok l0, dI n2, dI en0, dI n3, .own 2000, .own 2001, dI goal0, dI mvar0]), (2000, .row 72 .var pv0), (2001, .row 74 .con pc0)] ∧
 sel (decide (t4 = (⟨#[]⟩ : ByteArray)))
 (∃ w5 : Int, SatH Tryz.prog f_cordonref_Reader_Wrong [.ptr 1000 0, dI 1] [(1000, .cells [.sl .tok l0, dI n2, dI en0, dI n3, .own 2000, .own 2001, dI goal0, dI mvar0]), (2000, .row 72 .var pv0), (2001, .row 74 .con pc0)] (.tup []) [(1000, .cells [.sl .tok l0, dI n2, dI en0, dI w5, .own 2000, .own 2001, dI goal0, dI mvar0]), (2000, .row 72 .var pv0), (2001, .row 74 .con pc0)] ∧
 R (dI 0) [(1000, .cells [.sl .tok l0, dI n2, dI en0, dI w5, .own 2000, .own 2001, dI goal0, dI mvar0]), (2000, .row 72 .var pv0), (2001, .row 74 .con pc0)])
 (inb 0 t4.size = true ∧ Call1 Tryz.prog f_cordonref_isDigit [.int .u8 (byteAt t4 0)] .bool fun c6 =>
 sel (!c6)
 (∃ w7 : Int, SatH Tryz.prog f_cordonref_Reader_Wrong [.ptr 1000 0, dI 1] [(1000, .cells [.sl .tok l0, dI n2, dI en0, dI n3, .own 2000, .own 2001, dI goal0, dI mvar0]), (2000, .row 72 .var pv0), (2001, .row 74 .con pc0)] (.tup []) [(1000, .cells [.sl .tok l0, dI n2, dI en0, dI w7, .own 2000, .own 2001, dI goal0, dI mvar0]), (2000, .row 72 .var pv0), (2001, .row 74 .con pc0)] ∧
 R (dI 0) [(1000, .cells [.sl .tok l0, dI n2, dI en0, dI w7, .own 2000, .own 2001, dI goal0, dI mvar0]), (2000, .row 72 .var pv0), (2001, .row 74 .con pc0)])
 (sel (decide ((-1 : Int) < 0))
 (sel (decide (t4 = (⟨#[48]⟩ : ByteArray)))
 (∃ w8 : Int, SatH Tryz.prog f_cordonref_Reader_Wrong [.ptr 1000 0, dI 1] [(1000, .cells [.sl .tok l0, dI n2, dI en0, dI n3, .own 2000, .own 2001, dI goal0, dI mvar0]), (2000, .row 72 .var pv0), (2001, .row 74 .con pc0)] (.tup []) [(1000, .cells [.sl .tok l0, dI n2, dI en0, dI w8, .own 2000, .own 2001, dI goal0, dI mvar0]), (2000, .row 72 .var pv0), (2001, .row 74 .con pc0)] ∧
 R (dI 0) [(1000, .cells [.sl .tok l0, dI n2, dI en0, dI w8, .own 2000, .own 2001, dI goal0, dI mvar0]), (2000, .row 72 .var pv0), (2001, .row 74 .con pc0)])
 (∃ n0, cordonref_Reader_K_I0 l0 en0 goal0 mvar0 pv0 pc0 R n2 n3 t4 n0 0 0))
 (∃ n0_2, cordonref_Reader_K_I0_2 l0 en0 goal0 mvar0 pv0 pc0 R n2 n3 t4 n0_2 0 0))))
 (∃ t13 : ByteArray, SatH Tryz.prog f_cordonref_Reader_Text [.ptr 1000 0] [(1000, .cells [.sl .tok l0, dI at0, dI en0, dI er0, .own 2000, .own 2001, dI goal0, dI mvar0]), (2000, .row 72 .var pv0), (2001, .row 74 .con pc0)] (.str t13) [(1000, .cells [.sl .tok l0, dI at0, dI en0, dI er0, .own 2000, .own 2001, dI goal0, dI mvar0]), (2000, .row 72 .var pv0), (2001, .row 74 .con pc0)] ∧
 sel (decide (t13 = (⟨#[]⟩ : ByteArray)))
 (∃ w14 : Int, SatH Tryz.prog f_cordonref_Reader_Wrong [.ptr 1000 0, dI 1] [(1000, .cells [.sl .tok l0, dI at0, dI en0, dI er0, .own 2000, .own 2001, dI goal0, dI mvar0]), (2000, .row 72 .var pv0), (2001, .row 74 .con pc0)] (.tup []) [(1000, .cells [.sl .tok l0, dI at0, dI en0, dI w14, .own 2000, .own 2001, dI goal0, dI mvar0]), (2000, .row 72 .var pv0), (2001, .row 74 .con pc0)] ∧
 R (dI 0) [(1000, .cells [.sl .tok l0, dI at0, dI en0, dI w14, .own 2000, .own 2001, dI goal0, dI mvar0]), (2000, .row 72 .var pv0), (2001, .row 74 .con pc0)])
 (inb 0 t13.size = true ∧ Call1 Tryz.prog f_cordonref_isDigit [.int .u8 (byteAt t13 0)] .bool fun c15 =>
 sel (!c15)
 (∃ w16 : Int, SatH Tryz.prog f_cordonref_Reader_Wrong [.ptr 1000 0, dI 1] [(1000, .cells [.sl .tok l0, dI at0, dI en0, dI er0, .own 2000, .own 2001, dI goal0, dI mvar0]), (2000, .row 72 .var pv0), (2001, .row 74 .con pc0)] (.tup []) [(1000, .cells [.sl .tok l0, dI at0, dI en0, dI w16, .own 2000, .own 2001, dI goal0, dI mvar0]), (2000, .row 72 .var pv0), (2001, .row 74 .con pc0)] ∧
 R (dI 0) [(1000, .cells [.sl .tok l0, dI at0, dI en0, dI w16, .own 2000, .own 2001, dI goal0, dI mvar0]), (2000, .row 72 .var pv0), (2001, .row 74 .con pc0)])
 (sel (decide ((1 : Int) < 0))
 (sel (decide (t13 = (⟨#[48]⟩ : ByteArray)))
 (∃ w17 : Int, SatH Tryz.prog f_cordonref_Reader_Wrong [.ptr 1000 0, dI 1] [(1000, .cells [.sl .tok l0, dI at0, dI en0, dI er0, .own 2000, .own 2001, dI goal0, dI mvar0]), (2000, .row 72 .var pv0), (2001, .row 74 .con pc0)] (.tup []) [(1000, .cells [.sl .tok l0, dI at0, dI en0, dI w17, .own 2000, .own 2001, dI goal0, dI mvar0]), (2000, .row 72 .var pv0), (2001, .row 74 .con pc0)] ∧
 R (dI 0) [(1000, .cells [.sl .tok l0, dI at0, dI en0, dI w17, .own 2000, .own 2001, dI goal0, dI mvar0]), (2000, .row 72 .var pv0), (2001, .row 74 .con pc0)])
 (∃ n0_3, cordonref_Reader_K_I0_3 l0 at0 en0 er0 goal0 mvar0 pv0 pc0 R t13 n0_3 0 0))
 (∃ n0_4, cordonref_Reader_K_I0_4 l0 at0 en0 er0 goal0 mvar0 pv0 pc0 R t13 n0_4 0 0))))) := by kernel_rfl
theorem cordonref_Reader_K_sat (l0 : List Tok) (at0 : Int) (en0 : Int) (er0 : Int) (goal0 : Int) (mvar0 : Int) (pv0 : List VarD) (pc0 : List ConD) : SatHI cordonref_Reader_K_A Tryz.f49 f_cordonref_Reader_K [.ptr 1000 0] [(1000, .cells [.sl .tok l0, dI at0, dI en0, dI er0, .own 2000, .own 2001, dI goal0, dI mvar0]), (2000, .row 72 .var pv0), (2001, .row 74 .con pc0)] [.ptr 1000 0] false := satHD Tryz.func49 (by kernel_rfl) Tryz.ntmps49 rfl
/-! ### (*cordon/cordonref.Reader).Con -/
def cordonref_Reader_Con_A : Ann := { own := [2, 3, 66, 86, 89, 103, 117], live := [(1, ([0, 2, 3, 6], [2, 3, 1000, 2000, 2001, 1003004, 1003005])), (3, ([0, 2, 3, 11], [2, 3, 1000, 2000, 2001, 1003004, 1003005]))], n := 120, nils := [], pubs := [], first := true, nz := [(3, (4, (40, .list .int))), (3, (5, (114, .lit)))] }
def cordonref_Reader_Con_I1 (R : D → List (Nat × HObj) → Prop) (n1 : Nat) (v49 : Bool) (c50 : Int) (c51 : List Int) (c52 : List Int) (c53 : Int) (c54 : List (List Int)) (c55 : List LitD) (c56 : Int) (c57 : List Int) (c58 : List Int) (c59 : Int) (c60 : List Tok) (c61 : Int) (c62 : Int) (c63 : Int) (c64 : Int) (c65 : Int) (l66 : List VarD) (l67 : List ConD) (l68 : List (List Int)) (l69 : List LitD) : Prop := LP cordonref_Reader_Con_A Tryz.f50 [1, 1, 1, 0, 1, 0, 1, 1, 1, 1, 1, 1, 1, 0, 1, 1, 0, 0] 1 n1 ⟨[(0, .ptr 1000 0), (2, .ptr 2 0), (3, .ptr 3 0), (6, dB v49)], [(2, .cells [dI c50, .sl .int c51, .sl .int c52, dI c53, dS c54, .sl .lit c55]), (3, .cells [dI c56, .sl .int c57, .sl .int c58, dI c59, .own 1003004, .own 1003005]), (1000, .cells [.sl .tok c60, dI c61, dI c62, dI c63, .own 2000, .own 2001, dI c64, dI c65]), (2000, .row 72 .var l66), (2001, .row 74 .con l67), (1003004, .row 40 (.list .int) l68), (1003005, .row 114 .lit l69)]⟩ (blockK 1 (blockK 0 (sK cordonref_Reader_Con_A Tryz.f50 [1, 1, 1, 1] 0 (eH Tryz.f50 [.ptr 1000 0] false R))))
def cordonref_Reader_Con_I3 (R : D → List (Nat × HObj) → Prop) (n3 : Nat) (v94 : Bool) (c95 : Int) (c96 : List Int) (c97 : List Int) (c98 : Int) (c99 : List (List Int)) (c100 : List LitD) (c101 : Int) (c102 : List Int) (c103 : List Int) (c104 : Int) (c105 : List Tok) (c106 : Int) (c107 : Int) (c108 : Int) (c109 : Int) (c110 : Int) (l111 : List VarD) (l112 : List ConD) (l113 : List (List Int)) (l114 : List LitD) : Prop := LP cordonref_Reader_Con_A Tryz.f50 [1, 1, 1, 0, 1, 0, 1, 1, 1, 1, 1, 1, 1, 1, 1, 1, 1, 1, 1, 0, 1, 0, 0] 3 n3 ⟨[(0, .ptr 1000 0), (2, .ptr 2 0), (3, .ptr 3 0), (11, dB v94)], [(2, .cells [dI c95, .sl .int c96, .sl .int c97, dI c98, dS c99, .sl .lit c100]), (3, .cells [dI c101, .sl .int c102, .sl .int c103, dI c104, .own 1003004, .own 1003005]), (1000, .cells [.sl .tok c105, dI c106, dI c107, dI c108, .own 2000, .own 2001, dI c109, dI c110]), (2000, .row 72 .var l111), (2001, .row 74 .con l112), (1003004, .row 40 (.list .int) l113), (1003005, .row 114 .lit l114)]⟩ (blockK 3 (blockK 0 (sK cordonref_Reader_Con_A Tryz.f50 [1, 1, 1, 1] 0 (eH Tryz.f50 [.ptr 1000 0] false R))))
theorem cordonref_Reader_Con_I1_eq (R : D → List (Nat × HObj) → Prop) (n1 : Nat) (v49 : Bool) (c50 : Int) (c51 : List Int) (c52 : List Int) (c53 : Int) (c54 : List (List Int)) (c55 : List LitD) (c56 : Int) (c57 : List Int) (c58 : List Int) (c59 : Int) (c60 : List Tok) (c61 : Int) (c62 : Int) (c63 : Int) (c64 : Int) (c65 : Int) (l66 : List VarD) (l67 : List ConD) (l68 : List (List Int)) (l69 : List LitD) : cordonref_Reader_Con_I1 R (n1 + 1) v49 c50 c51 c52 c53 c54 c55 c56 c57 c58 c59 c60 c61 c62 c63 c64 c65 l66 l67 l68 l69 =
 (sel v49
 ((fun p : Prop => ((p) ∧ p))
 (∃ k70 : Int, ∃ k71 : Int, ∃ k72 : List Int, SatH Tryz.prog f_cordonref_Reader_Ks [.ptr 1000 0] [(1000, .cells [.sl .tok c60, dI c61, dI c62, dI c63, .own 2000, .own 2001, dI c64, dI c65]), (2000, .row 72 .var l66), (2001, .row 74 .con l67)] (.sl .int k72) [(1000, .cells [.sl .tok c60, dI k70, dI c62, dI k71, .own 2000, .own 2001, dI c64, dI c65]), (2000, .row 72 .var l66), (2001, .row 74 .con l67)] ∧
 room (.list .int) (l68.length + ([k72]).length) = true ∧ ∃ m73 : Int, ∃ m74 : Int, ∃ m75 : Bool, SatH Tryz.prog f_cordonref_Reader_More [.ptr 1000 0, dB false] [(1000, .cells [.sl .tok c60, dI k70, dI c62, dI k71, .own 2000, .own 2001, dI c64, dI c65]), (2000, .row 72 .var l66), (2001, .row 74 .con l67)] (dB m75) [(1000, .cells [.sl .tok c60, dI m73, dI c62, dI m74, .own 2000, .own 2001, dI c64, dI c65]), (2000, .row 72 .var l66), (2001, .row 74 .con l67)] ∧
 cordonref_Reader_Con_I1 R n1 m75 c50 c51 c52 c53 c54 c55 c56 c57 c58 c59 c60 m73 c62 m74 c64 c65 l66 l67 (l68 ++ ([k72])) l69))
 (R (.agg [dI c56, .sl .int c57, .sl .int c58, dI c59, dS l68, .sl .lit l69]) [(1000, .cells [.sl .tok c60, dI c61, dI c62, dI c63, .own 2000, .own 2001, dI c64, dI c65]), (2000, .row 72 .var l66), (2001, .row 74 .con l67)])) := by kernel_rfl
theorem cordonref_Reader_Con_I3_eq (R : D → List (Nat × HObj) → Prop) (n3 : Nat) (v94 : Bool) (c95 : Int) (c96 : List Int) (c97 : List Int) (c98 : Int) (c99 : List (List Int)) (c100 : List LitD) (c101 : Int) (c102 : List Int) (c103 : List Int) (c104 : Int) (c105 : List Tok) (c106 : Int) (c107 : Int) (c108 : Int) (c109 : Int) (c110 : Int) (l111 : List VarD) (l112 : List ConD) (l113 : List (List Int)) (l114 : List LitD) : cordonref_Reader_Con_I3 R (n3 + 1) v94 c95 c96 c97 c98 c99 c100 c101 c102 c103 c104 c105 c106 c107 c108 c109 c110 l111 l112 l113 l114 =
 (sel v94
 ((fun p : Prop => ((p) ∧ p))
 (∃ l115 : Int, ∃ l116 : Int, ∃ l117 : LitD, SatH Tryz.prog f_cordonref_Reader_Lit [.ptr 1000 0] [(1000, .cells [.sl .tok c105, dI c106, dI c107, dI c108, .own 2000, .own 2001, dI c109, dI c110]), (2000, .row 72 .var l111), (2001, .row 74 .con l112)] (dL l117) [(1000, .cells [.sl .tok c105, dI l115, dI c107, dI l116, .own 2000, .own 2001, dI c109, dI c110]), (2000, .row 72 .var l111), (2001, .row 74 .con l112)] ∧
 room .lit (l114.length + ([l117]).length) = true ∧ ∃ m118 : Int, ∃ m119 : Int, ∃ m120 : Bool, SatH Tryz.prog f_cordonref_Reader_More [.ptr 1000 0, dB false] [(1000, .cells [.sl .tok c105, dI l115, dI c107, dI l116, .own 2000, .own 2001, dI c109, dI c110]), (2000, .row 72 .var l111), (2001, .row 74 .con l112)] (dB m120) [(1000, .cells [.sl .tok c105, dI m118, dI c107, dI m119, .own 2000, .own 2001, dI c109, dI c110]), (2000, .row 72 .var l111), (2001, .row 74 .con l112)] ∧
 cordonref_Reader_Con_I3 R n3 m120 c95 c96 c97 c98 c99 c100 c101 c102 c103 c104 c105 m118 c107 m119 c109 c110 l111 l112 l113 (l114 ++ ([l117]))))
 (R (.agg [dI c101, .sl .int c102, .sl .int c103, dI c104, dS l113, .sl .lit l114]) [(1000, .cells [.sl .tok c105, dI c106, dI c107, dI c108, .own 2000, .own 2001, dI c109, dI c110]), (2000, .row 72 .var l111), (2001, .row 74 .con l112)])) := by kernel_rfl
theorem cordonref_Reader_Con_eq (l0 : List Tok) (at0 : Int) (en0 : Int) (er0 : Int) (goal0 : Int) (mvar0 : Int) (pv0 : List VarD) (pc0 : List ConD) (R : D → List (Nat × HObj) → Prop) : FH cordonref_Reader_Con_A Tryz.f50 [.ptr 1000 0] [(1000, .cells [.sl .tok l0, dI at0, dI en0, dI er0, .own 2000, .own 2001, dI goal0, dI mvar0]), (2000, .row 72 .var pv0), (2001, .row 74 .con pc0)] [.ptr 1000 0] false R =
 (∃ w1 : Int, ∃ w2 : Int, ∃ w3 : Int, SatH Tryz.prog f_cordonref_Reader_Word [.ptr 1000 0, .sl .str ([(⟨#[108, 101]⟩ : ByteArray), (⟨#[101, 113]⟩ : ByteArray), (⟨#[110, 101]⟩ : ByteArray), (⟨#[100, 105, 102, 102, 101, 114]⟩ : ByteArray), (⟨#[101, 108, 101, 109, 101, 110, 116]⟩ : ByteArray), (⟨#[116, 97, 98, 108, 101]⟩ : ByteArray), (⟨#[116, 105, 109, 101, 115]⟩ : ByteArray), (⟨#[109, 97, 120]⟩ : ByteArray), (⟨#[99, 108, 97, 117, 115, 101]⟩ : ByteArray), (⟨#[105, 102, 102]⟩ : ByteArray)])] [(1000, .cells [.sl .tok l0, dI at0, dI en0, dI er0, .own 2000, .own 2001, dI goal0, dI mvar0]), (2000, .row 72 .var pv0), (2001, .row 74 .con pc0)] (dI w3) [(1000, .cells [.sl .tok l0, dI w1, dI en0, dI w2, .own 2000, .own 2001, dI goal0, dI mvar0]), (2000, .row 72 .var pv0), (2001, .row 74 .con pc0)] ∧
 sel (decide ((w64 (1 + w3)) = 1))
 (∃ k4 : Int, ∃ k5 : Int, ∃ k6 : List Int, SatH Tryz.prog f_cordonref_Reader_Ks [.ptr 1000 0] [(1000, .cells [.sl .tok l0, dI w1, dI en0, dI w2, .own 2000, .own 2001, dI goal0, dI mvar0]), (2000, .row 72 .var pv0), (2001, .row 74 .con pc0)] (.sl .int k6) [(1000, .cells [.sl .tok l0, dI k4, dI en0, dI k5, .own 2000, .own 2001, dI goal0, dI mvar0]), (2000, .row 72 .var pv0), (2001, .row 74 .con pc0)] ∧
 ∃ v7 : Int, ∃ v8 : Int, ∃ v9 : List Int, SatH Tryz.prog f_cordonref_Reader_Vs [.ptr 1000 0] [(1000, .cells [.sl .tok l0, dI k4, dI en0, dI k5, .own 2000, .own 2001, dI goal0, dI mvar0]), (2000, .row 72 .var pv0), (2001, .row 74 .con pc0)] (.sl .int v9) [(1000, .cells [.sl .tok l0, dI v7, dI en0, dI v8, .own 2000, .own 2001, dI goal0, dI mvar0]), (2000, .row 72 .var pv0), (2001, .row 74 .con pc0)] ∧
 ∃ k10 : Int, ∃ k11 : Int, ∃ k12 : Int, SatH Tryz.prog f_cordonref_Reader_K [.ptr 1000 0] [(1000, .cells [.sl .tok l0, dI v7, dI en0, dI v8, .own 2000, .own 2001, dI goal0, dI mvar0]), (2000, .row 72 .var pv0), (2001, .row 74 .con pc0)] (dI k12) [(1000, .cells [.sl .tok l0, dI k10, dI en0, dI k11, .own 2000, .own 2001, dI goal0, dI mvar0]), (2000, .row 72 .var pv0), (2001, .row 74 .con pc0)] ∧
 R (.agg [dI (w64 (1 + w3)), .sl .int v9, .sl .int k6, dI k12, dS ([] : List (List Int)), .sl .lit ([] : List LitD)]) [(1000, .cells [.sl .tok l0, dI k10, dI en0, dI k11, .own 2000, .own 2001, dI goal0, dI mvar0]), (2000, .row 72 .var pv0), (2001, .row 74 .con pc0)])
 (sel (decide ((w64 (1 + w3)) = 2))
 (∃ k13 : Int, ∃ k14 : Int, ∃ k15 : List Int, SatH Tryz.prog f_cordonref_Reader_Ks [.ptr 1000 0] [(1000, .cells [.sl .tok l0, dI w1, dI en0, dI w2, .own 2000, .own 2001, dI goal0, dI mvar0]), (2000, .row 72 .var pv0), (2001, .row 74 .con pc0)] (.sl .int k15) [(1000, .cells [.sl .tok l0, dI k13, dI en0, dI k14, .own 2000, .own 2001, dI goal0, dI mvar0]), (2000, .row 72 .var pv0), (2001, .row 74 .con pc0)] ∧
 ∃ v16 : Int, ∃ v17 : Int, ∃ v18 : List Int, SatH Tryz.prog f_cordonref_Reader_Vs [.ptr 1000 0] [(1000, .cells [.sl .tok l0, dI k13, dI en0, dI k14, .own 2000, .own 2001, dI goal0, dI mvar0]), (2000, .row 72 .var pv0), (2001, .row 74 .con pc0)] (.sl .int v18) [(1000, .cells [.sl .tok l0, dI v16, dI en0, dI v17, .own 2000, .own 2001, dI goal0, dI mvar0]), (2000, .row 72 .var pv0), (2001, .row 74 .con pc0)] ∧
 ∃ k19 : Int, ∃ k20 : Int, ∃ k21 : Int, SatH Tryz.prog f_cordonref_Reader_K [.ptr 1000 0] [(1000, .cells [.sl .tok l0, dI v16, dI en0, dI v17, .own 2000, .own 2001, dI goal0, dI mvar0]), (2000, .row 72 .var pv0), (2001, .row 74 .con pc0)] (dI k21) [(1000, .cells [.sl .tok l0, dI k19, dI en0, dI k20, .own 2000, .own 2001, dI goal0, dI mvar0]), (2000, .row 72 .var pv0), (2001, .row 74 .con pc0)] ∧
 R (.agg [dI (w64 (1 + w3)), .sl .int v18, .sl .int k15, dI k21, dS ([] : List (List Int)), .sl .lit ([] : List LitD)]) [(1000, .cells [.sl .tok l0, dI k19, dI en0, dI k20, .own 2000, .own 2001, dI goal0, dI mvar0]), (2000, .row 72 .var pv0), (2001, .row 74 .con pc0)])
 (sel (decide ((w64 (1 + w3)) = 3))
 (∃ k22 : Int, ∃ k23 : Int, ∃ k24 : List Int, SatH Tryz.prog f_cordonref_Reader_Ks [.ptr 1000 0] [(1000, .cells [.sl .tok l0, dI w1, dI en0, dI w2, .own 2000, .own 2001, dI goal0, dI mvar0]), (2000, .row 72 .var pv0), (2001, .row 74 .con pc0)] (.sl .int k24) [(1000, .cells [.sl .tok l0, dI k22, dI en0, dI k23, .own 2000, .own 2001, dI goal0, dI mvar0]), (2000, .row 72 .var pv0), (2001, .row 74 .con pc0)] ∧
 ∃ v25 : Int, ∃ v26 : Int, ∃ v27 : List Int, SatH Tryz.prog f_cordonref_Reader_Vs [.ptr 1000 0] [(1000, .cells [.sl .tok l0, dI k22, dI en0, dI k23, .own 2000, .own 2001, dI goal0, dI mvar0]), (2000, .row 72 .var pv0), (2001, .row 74 .con pc0)] (.sl .int v27) [(1000, .cells [.sl .tok l0, dI v25, dI en0, dI v26, .own 2000, .own 2001, dI goal0, dI mvar0]), (2000, .row 72 .var pv0), (2001, .row 74 .con pc0)] ∧
 ∃ k28 : Int, ∃ k29 : Int, ∃ k30 : Int, SatH Tryz.prog f_cordonref_Reader_K [.ptr 1000 0] [(1000, .cells [.sl .tok l0, dI v25, dI en0, dI v26, .own 2000, .own 2001, dI goal0, dI mvar0]), (2000, .row 72 .var pv0), (2001, .row 74 .con pc0)] (dI k30) [(1000, .cells [.sl .tok l0, dI k28, dI en0, dI k29, .own 2000, .own 2001, dI goal0, dI mvar0]), (2000, .row 72 .var pv0), (2001, .row 74 .con pc0)] ∧
 R (.agg [dI (w64 (1 + w3)), .sl .int v27, .sl .int k24, dI k30, dS ([] : List (List Int)), .sl .lit ([] : List LitD)]) [(1000, .cells [.sl .tok l0, dI k28, dI en0, dI k29, .own 2000, .own 2001, dI goal0, dI mvar0]), (2000, .row 72 .var pv0), (2001, .row 74 .con pc0)])
 (sel (decide ((w64 (1 + w3)) = 4))
 (∃ v31 : Int, ∃ v32 : Int, ∃ v33 : List Int, SatH Tryz.prog f_cordonref_Reader_Vs [.ptr 1000 0] [(1000, .cells [.sl .tok l0, dI w1, dI en0, dI w2, .own 2000, .own 2001, dI goal0, dI mvar0]), (2000, .row 72 .var pv0), (2001, .row 74 .con pc0)] (.sl .int v33) [(1000, .cells [.sl .tok l0, dI v31, dI en0, dI v32, .own 2000, .own 2001, dI goal0, dI mvar0]), (2000, .row 72 .var pv0), (2001, .row 74 .con pc0)] ∧
 R (.agg [dI (w64 (1 + w3)), .sl .int v33, .sl .int ([] : List Int), dI 0, dS ([] : List (List Int)), .sl .lit ([] : List LitD)]) [(1000, .cells [.sl .tok l0, dI v31, dI en0, dI v32, .own 2000, .own 2001, dI goal0, dI mvar0]), (2000, .row 72 .var pv0), (2001, .row 74 .con pc0)])
 (sel (decide ((w64 (1 + w3)) = 5))
 (∃ k34 : Int, ∃ k35 : Int, ∃ k36 : List Int, SatH Tryz.prog f_cordonref_Reader_Ks [.ptr 1000 0] [(1000, .cells [.sl .tok l0, dI w1, dI en0, dI w2, .own 2000, .own 2001, dI goal0, dI mvar0]), (2000, .row 72 .var pv0), (2001, .row 74 .con pc0)] (.sl .int k36) [(1000, .cells [.sl .tok l0, dI k34, dI en0, dI k35, .own 2000, .own 2001, dI goal0, dI mvar0]), (2000, .row 72 .var pv0), (2001, .row 74 .con pc0)] ∧
 ∃ v37 : Int, ∃ v38 : Int, ∃ v39 : Int, SatH Tryz.prog f_cordonref_Reader_V [.ptr 1000 0] [(1000, .cells [.sl .tok l0, dI k34, dI en0, dI k35, .own 2000, .own 2001, dI goal0, dI mvar0]), (2000, .row 72 .var pv0), (2001, .row 74 .con pc0)] (dI v39) [(1000, .cells [.sl .tok l0, dI v37, dI en0, dI v38, .own 2000, .own 2001, dI goal0, dI mvar0]), (2000, .row 72 .var pv0), (2001, .row 74 .con pc0)] ∧
 ∃ v40 : Int, ∃ v41 : Int, ∃ v42 : Int, SatH Tryz.prog f_cordonref_Reader_V [.ptr 1000 0] [(1000, .cells [.sl .tok l0, dI v37, dI en0, dI v38, .own 2000, .own 2001, dI goal0, dI mvar0]), (2000, .row 72 .var pv0), (2001, .row 74 .con pc0)] (dI v42) [(1000, .cells [.sl .tok l0, dI v40, dI en0, dI v41, .own 2000, .own 2001, dI goal0, dI mvar0]), (2000, .row 72 .var pv0), (2001, .row 74 .con pc0)] ∧
 R (.agg [dI (w64 (1 + w3)), .sl .int ([v39, v42]), .sl .int k36, dI 0, dS ([] : List (List Int)), .sl .lit ([] : List LitD)]) [(1000, .cells [.sl .tok l0, dI v40, dI en0, dI v41, .own 2000, .own 2001, dI goal0, dI mvar0]), (2000, .row 72 .var pv0), (2001, .row 74 .con pc0)])
 (sel (decide ((w64 (1 + w3)) = 6))
 (∃ v43 : Int, ∃ v44 : Int, ∃ v45 : List Int, SatH Tryz.prog f_cordonref_Reader_Vs [.ptr 1000 0] [(1000, .cells [.sl .tok l0, dI w1, dI en0, dI w2, .own 2000, .own 2001, dI goal0, dI mvar0]), (2000, .row 72 .var pv0), (2001, .row 74 .con pc0)] (.sl .int v45) [(1000, .cells [.sl .tok l0, dI v43, dI en0, dI v44, .own 2000, .own 2001, dI goal0, dI mvar0]), (2000, .row 72 .var pv0), (2001, .row 74 .con pc0)] ∧
 ∃ m46 : Int, ∃ m47 : Int, ∃ m48 : Bool, SatH Tryz.prog f_cordonref_Reader_More [.ptr 1000 0, dB true] [(1000, .cells [.sl .tok l0, dI v43, dI en0, dI v44, .own 2000, .own 2001, dI goal0, dI mvar0]), (2000, .row 72 .var pv0), (2001, .row 74 .con pc0)] (dB m48) [(1000, .cells [.sl .tok l0, dI m46, dI en0, dI m47, .own 2000, .own 2001, dI goal0, dI mvar0]), (2000, .row 72 .var pv0), (2001, .row 74 .con pc0)] ∧
 ∃ n1, cordonref_Reader_Con_I1 R n1 m48 0 ([] : List Int) ([] : List Int) 0 ([] : List (List Int)) ([] : List LitD) (w64 (1 + w3)) v45 ([] : List Int) 0 l0 m46 en0 m47 goal0 mvar0 pv0 pc0 ([] : List (List Int)) ([] : List LitD))
 (sel (decide ((w64 (1 + w3)) = 7))
 (∃ v76 : Int, ∃ v77 : Int, ∃ v78 : Int, SatH Tryz.prog f_cordonref_Reader_V [.ptr 1000 0] [(1000, .cells [.sl .tok l0, dI w1, dI en0, dI w2, .own 2000, .own 2001, dI goal0, dI mvar0]), (2000, .row 72 .var pv0), (2001, .row 74 .con pc0)] (dI v78) [(1000, .cells [.sl .tok l0, dI v76, dI en0, dI v77, .own 2000, .own 2001, dI goal0, dI mvar0]), (2000, .row 72 .var pv0), (2001, .row 74 .con pc0)] ∧
 ∃ v79 : Int, ∃ v80 : Int, ∃ v81 : Int, SatH Tryz.prog f_cordonref_Reader_V [.ptr 1000 0] [(1000, .cells [.sl .tok l0, dI v76, dI en0, dI v77, .own 2000, .own 2001, dI goal0, dI mvar0]), (2000, .row 72 .var pv0), (2001, .row 74 .con pc0)] (dI v81) [(1000, .cells [.sl .tok l0, dI v79, dI en0, dI v80, .own 2000, .own 2001, dI goal0, dI mvar0]), (2000, .row 72 .var pv0), (2001, .row 74 .con pc0)] ∧
 ∃ v82 : Int, ∃ v83 : Int, ∃ v84 : Int, SatH Tryz.prog f_cordonref_Reader_V [.ptr 1000 0] [(1000, .cells [.sl .tok l0, dI v79, dI en0, dI v80, .own 2000, .own 2001, dI goal0, dI mvar0]), (2000, .row 72 .var pv0), (2001, .row 74 .con pc0)] (dI v84) [(1000, .cells [.sl .tok l0, dI v82, dI en0, dI v83, .own 2000, .own 2001, dI goal0, dI mvar0]), (2000, .row 72 .var pv0), (2001, .row 74 .con pc0)] ∧
 R (.agg [dI (w64 (1 + w3)), .sl .int ([v78, v81, v84]), .sl .int ([] : List Int), dI 0, dS ([] : List (List Int)), .sl .lit ([] : List LitD)]) [(1000, .cells [.sl .tok l0, dI v82, dI en0, dI v83, .own 2000, .own 2001, dI goal0, dI mvar0]), (2000, .row 72 .var pv0), (2001, .row 74 .con pc0)])
 (sel (decide ((w64 (1 + w3)) = 8))
 (∃ v85 : Int, ∃ v86 : Int, ∃ v87 : Int, SatH Tryz.prog f_cordonref_Reader_V [.ptr 1000 0] [(1000, .cells [.sl .tok l0, dI w1, dI en0, dI w2, .own 2000, .own 2001, dI goal0, dI mvar0]), (2000, .row 72 .var pv0), (2001, .row 74 .con pc0)] (dI v87) [(1000, .cells [.sl .tok l0, dI v85, dI en0, dI v86, .own 2000, .own 2001, dI goal0, dI mvar0]), (2000, .row 72 .var pv0), (2001, .row 74 .con pc0)] ∧
 ∃ v88 : Int, ∃ v89 : Int, ∃ v90 : List Int, SatH Tryz.prog f_cordonref_Reader_Vs [.ptr 1000 0] [(1000, .cells [.sl .tok l0, dI v85, dI en0, dI v86, .own 2000, .own 2001, dI goal0, dI mvar0]), (2000, .row 72 .var pv0), (2001, .row 74 .con pc0)] (.sl .int v90) [(1000, .cells [.sl .tok l0, dI v88, dI en0, dI v89, .own 2000, .own 2001, dI goal0, dI mvar0]), (2000, .row 72 .var pv0), (2001, .row 74 .con pc0)] ∧
 room .int (([v87]).length + v90.length) = true ∧ R (.agg [dI (w64 (1 + w3)), .sl .int (([v87]) ++ v90), .sl .int ([] : List Int), dI 0, dS ([] : List (List Int)), .sl .lit ([] : List LitD)]) [(1000, .cells [.sl .tok l0, dI v88, dI en0, dI v89, .own 2000, .own 2001, dI goal0, dI mvar0]), (2000, .row 72 .var pv0), (2001, .row 74 .con pc0)])
 (sel (decide ((w64 (1 + w3)) = 9))
 (∃ m91 : Int, ∃ m92 : Int, ∃ m93 : Bool, SatH Tryz.prog f_cordonref_Reader_More [.ptr 1000 0, dB true] [(1000, .cells [.sl .tok l0, dI w1, dI en0, dI w2, .own 2000, .own 2001, dI goal0, dI mvar0]), (2000, .row 72 .var pv0), (2001, .row 74 .con pc0)] (dB m93) [(1000, .cells [.sl .tok l0, dI m91, dI en0, dI m92, .own 2000, .own 2001, dI goal0, dI mvar0]), (2000, .row 72 .var pv0), (2001, .row 74 .con pc0)] ∧
 ∃ n3, cordonref_Reader_Con_I3 R n3 m93 0 ([] : List Int) ([] : List Int) 0 ([] : List (List Int)) ([] : List LitD) (w64 (1 + w3)) ([] : List Int) ([] : List Int) 0 l0 m91 en0 m92 goal0 mvar0 pv0 pc0 ([] : List (List Int)) ([] : List LitD))
 (sel (decide ((w64 (1 + w3)) = 10))
 (∃ v121 : Int, ∃ v122 : Int, ∃ v123 : Int, SatH Tryz.prog f_cordonref_Reader_V [.ptr 1000 0] [(1000, .cells [.sl .tok l0, dI w1, dI en0, dI w2, .own 2000, .own 2001, dI goal0, dI mvar0]), (2000, .row 72 .var pv0), (2001, .row 74 .con pc0)] (dI v123) [(1000, .cells [.sl .tok l0, dI v121, dI en0, dI v122, .own 2000, .own 2001, dI goal0, dI mvar0]), (2000, .row 72 .var pv0), (2001, .row 74 .con pc0)] ∧
 (fun p : Prop => ((p) ∧ p))
 (∃ l124 : Int, ∃ l125 : Int, ∃ l126 : LitD, SatH Tryz.prog f_cordonref_Reader_Lit [.ptr 1000 0] [(1000, .cells [.sl .tok l0, dI v121, dI en0, dI v122, .own 2000, .own 2001, dI goal0, dI mvar0]), (2000, .row 72 .var pv0), (2001, .row 74 .con pc0)] (dL l126) [(1000, .cells [.sl .tok l0, dI l124, dI en0, dI l125, .own 2000, .own 2001, dI goal0, dI mvar0]), (2000, .row 72 .var pv0), (2001, .row 74 .con pc0)] ∧
 room .lit (([] : List LitD).length + ([l126]).length) = true ∧ R (.agg [dI (w64 (1 + w3)), .sl .int ([v123]), .sl .int ([] : List Int), dI 0, dS ([] : List (List Int)), .sl .lit (([] : List LitD) ++ ([l126]))]) [(1000, .cells [.sl .tok l0, dI l124, dI en0, dI l125, .own 2000, .own 2001, dI goal0, dI mvar0]), (2000, .row 72 .var pv0), (2001, .row 74 .con pc0)]))
 (R (.agg [dI (w64 (1 + w3)), .sl .int ([] : List Int), .sl .int ([] : List Int), dI 0, dS ([] : List (List Int)), .sl .lit ([] : List LitD)]) [(1000, .cells [.sl .tok l0, dI w1, dI en0, dI w2, .own 2000, .own 2001, dI goal0, dI mvar0]), (2000, .row 72 .var pv0), (2001, .row 74 .con pc0)]))))))))))) := by kernel_rfl
theorem cordonref_Reader_Con_sat (l0 : List Tok) (at0 : Int) (en0 : Int) (er0 : Int) (goal0 : Int) (mvar0 : Int) (pv0 : List VarD) (pc0 : List ConD) : SatHI cordonref_Reader_Con_A Tryz.f50 f_cordonref_Reader_Con [.ptr 1000 0] [(1000, .cells [.sl .tok l0, dI at0, dI en0, dI er0, .own 2000, .own 2001, dI goal0, dI mvar0]), (2000, .row 72 .var pv0), (2001, .row 74 .con pc0)] [.ptr 1000 0] false := satHD Tryz.func50 (by kernel_rfl) Tryz.ntmps50 rfl
/-! ### (*cordon/cordonref.Reader).Word -/
def cordonref_Reader_Word_A : Ann := { own := [], live := [(0, ([0, 1, 5], [1000, 2000, 2001]))], n := 36, nils := [], pubs := [], first := true }
def cordonref_Reader_Word_I0 (ss0 : List ByteArray) (R : D → List (Nat × HObj) → Prop) (n0 : Nat) (i1 : Int) (c2 : List Tok) (c3 : Int) (c4 : Int) (c5 : Int) (c6 : Int) (c7 : Int) (l8 : List VarD) (l9 : List ConD) : Prop := LP cordonref_Reader_Word_A Tryz.f51 [1, 0, 1, 0, 0] 0 n0 ⟨[(0, .ptr 1000 0), (1, .sl .str ss0), (5, dI i1)], [(1000, .cells [.sl .tok c2, dI c3, dI c4, dI c5, .own 2000, .own 2001, dI c6, dI c7]), (2000, .row 72 .var l8), (2001, .row 74 .con l9)]⟩ (blockK 0 (sK cordonref_Reader_Word_A Tryz.f51 [1, 1] 0 (eH Tryz.f51 [.ptr 1000 0] false R)))
theorem cordonref_Reader_Word_I0_eq (ss0 : List ByteArray) (R : D → List (Nat × HObj) → Prop) (n0 : Nat) (i1 : Int) (c2 : List Tok) (c3 : Int) (c4 : Int) (c5 : Int) (c6 : Int) (c7 : Int) (l8 : List VarD) (l9 : List ConD) : cordonref_Reader_Word_I0 ss0 R (n0 + 1) i1 c2 c3 c4 c5 c6 c7 l8 l9 =
 (sel (decide (i1 < (ss0.length : Int)))
 (sel (decide (c5 = 0))
 (inb i1 ss0.length = true ∧ ∃ t10 : ByteArray, SatH Tryz.prog f_cordonref_Reader_Text [.ptr 1000 0] [(1000, .cells [.sl .tok c2, dI c3, dI c4, dI c5, .own 2000, .own 2001, dI c6, dI c7]), (2000, .row 72 .var l8), (2001, .row 74 .con l9)] (.str t10) [(1000, .cells [.sl .tok c2, dI c3, dI c4, dI c5, .own 2000, .own 2001, dI c6, dI c7]), (2000, .row 72 .var l8), (2001, .row 74 .con l9)] ∧
 sel (decide (t10 = (at' .str ss0 i1.toNat)))
 (R (dI i1) [(1000, .cells [.sl .tok c2, dI (w64 (c3 + 1)), dI c4, dI c5, .own 2000, .own 2001, dI c6, dI c7]), (2000, .row 72 .var l8), (2001, .row 74 .con l9)])
 (cordonref_Reader_Word_I0 ss0 R n0 (w64 (i1 + 1)) c2 c3 c4 c5 c6 c7 l8 l9))
 (cordonref_Reader_Word_I0 ss0 R n0 (w64 (i1 + 1)) c2 c3 c4 c5 c6 c7 l8 l9))
 (∃ w11 : Int, SatH Tryz.prog f_cordonref_Reader_Wrong [.ptr 1000 0, dI 1] [(1000, .cells [.sl .tok c2, dI c3, dI c4, dI c5, .own 2000, .own 2001, dI c6, dI c7]), (2000, .row 72 .var l8), (2001, .row 74 .con l9)] (.tup []) [(1000, .cells [.sl .tok c2, dI c3, dI c4, dI w11, .own 2000, .own 2001, dI c6, dI c7]), (2000, .row 72 .var l8), (2001, .row 74 .con l9)] ∧
 R (dI 0) [(1000, .cells [.sl .tok c2, dI c3, dI c4, dI w11, .own 2000, .own 2001, dI c6, dI c7]), (2000, .row 72 .var l8), (2001, .row 74 .con l9)])) := by kernel_rfl
theorem cordonref_Reader_Word_eq (l0 : List Tok) (at0 : Int) (en0 : Int) (er0 : Int) (goal0 : Int) (mvar0 : Int) (pv0 : List VarD) (pc0 : List ConD) (ss0 : List ByteArray) (R : D → List (Nat × HObj) → Prop) : FH cordonref_Reader_Word_A Tryz.f51 [.ptr 1000 0, .sl .str ss0] [(1000, .cells [.sl .tok l0, dI at0, dI en0, dI er0, .own 2000, .own 2001, dI goal0, dI mvar0]), (2000, .row 72 .var pv0), (2001, .row 74 .con pc0)] [.ptr 1000 0] false R =
 (∃ n0, cordonref_Reader_Word_I0 ss0 R n0 0 l0 at0 en0 er0 goal0 mvar0 pv0 pc0) := by kernel_rfl
theorem cordonref_Reader_Word_sat (l0 : List Tok) (at0 : Int) (en0 : Int) (er0 : Int) (goal0 : Int) (mvar0 : Int) (pv0 : List VarD) (pc0 : List ConD) (ss0 : List ByteArray) : SatHI cordonref_Reader_Word_A Tryz.f51 f_cordonref_Reader_Word [.ptr 1000 0, .sl .str ss0] [(1000, .cells [.sl .tok l0, dI at0, dI en0, dI er0, .own 2000, .own 2001, dI goal0, dI mvar0]), (2000, .row 72 .var pv0), (2001, .row 74 .con pc0)] [.ptr 1000 0] false := satHD Tryz.func51 (by kernel_rfl) Tryz.ntmps51 rfl
/-! ### (*cordon/cordonref.Reader).V -/
def cordonref_Reader_V_A : Ann := { own := [], live := [(0, ([0, 3, 4], [1000, 2000, 2001]))], n := 43, nils := [], pubs := [], first := true }
def cordonref_Reader_V_I0 (R : D → List (Nat × HObj) → Prop) (t1 : ByteArray) (n0 : Nat) (i4 : Int) (c5 : List Tok) (c6 : Int) (c7 : Int) (c8 : Int) (c9 : Int) (c10 : Int) (l11 : List VarD) (l12 : List ConD) : Prop := LP cordonref_Reader_V_A Tryz.f52 [1, 1, 1, 0, 1, 0, 0] 0 n0 ⟨[(0, .ptr 1000 0), (3, .str t1), (4, dI i4)], [(1000, .cells [.sl .tok c5, dI c6, dI c7, dI c8, .own 2000, .own 2001, dI c9, dI c10]), (2000, .row 72 .var l11), (2001, .row 74 .con l12)]⟩ (blockK 0 (sK cordonref_Reader_V_A Tryz.f52 [1, 1, 1, 1] 0 (eH Tryz.f52 [.ptr 1000 0] false R)))
theorem cordonref_Reader_V_I0_eq (R : D → List (Nat × HObj) → Prop) (t1 : ByteArray) (n0 : Nat) (i4 : Int) (c5 : List Tok) (c6 : Int) (c7 : Int) (c8 : Int) (c9 : Int) (c10 : Int) (l11 : List VarD) (l12 : List ConD) : cordonref_Reader_V_I0 R t1 (n0 + 1) i4 c5 c6 c7 c8 c9 c10 l11 l12 =
 (sel (decide (i4 < (l11.length : Int)))
 (inb i4 l11.length = true ∧ sel (decide (((at' .var l11 i4.toNat).name) = t1))
 (R (dI i4) [(1000, .cells [.sl .tok c5, dI (w64 (c6 + 1)), dI c7, dI c8, .own 2000, .own 2001, dI c9, dI c10]), (2000, .row 72 .var l11), (2001, .row 74 .con l12)])
 (cordonref_Reader_V_I0 R t1 n0 (w64 (i4 + 1)) c5 c6 c7 c8 c9 c10 l11 l12))
 (∃ w13 : Int, SatH Tryz.prog f_cordonref_Reader_Wrong [.ptr 1000 0, dI 5] [(1000, .cells [.sl .tok c5, dI c6, dI c7, dI c8, .own 2000, .own 2001, dI c9, dI c10]), (2000, .row 72 .var l11), (2001, .row 74 .con l12)] (.tup []) [(1000, .cells [.sl .tok c5, dI c6, dI c7, dI w13, .own 2000, .own 2001, dI c9, dI c10]), (2000, .row 72 .var l11), (2001, .row 74 .con l12)] ∧
 R (dI 0) [(1000, .cells [.sl .tok c5, dI c6, dI c7, dI w13, .own 2000, .own 2001, dI c9, dI c10]), (2000, .row 72 .var l11), (2001, .row 74 .con l12)])) := by kernel_rfl
theorem cordonref_Reader_V_eq (l0 : List Tok) (at0 : Int) (en0 : Int) (er0 : Int) (goal0 : Int) (mvar0 : Int) (pv0 : List VarD) (pc0 : List ConD) (R : D → List (Nat × HObj) → Prop) : FH cordonref_Reader_V_A Tryz.f52 [.ptr 1000 0] [(1000, .cells [.sl .tok l0, dI at0, dI en0, dI er0, .own 2000, .own 2001, dI goal0, dI mvar0]), (2000, .row 72 .var pv0), (2001, .row 74 .con pc0)] [.ptr 1000 0] false R =
 (∃ t1 : ByteArray, SatH Tryz.prog f_cordonref_Reader_Text [.ptr 1000 0] [(1000, .cells [.sl .tok l0, dI at0, dI en0, dI er0, .own 2000, .own 2001, dI goal0, dI mvar0]), (2000, .row 72 .var pv0), (2001, .row 74 .con pc0)] (.str t1) [(1000, .cells [.sl .tok l0, dI at0, dI en0, dI er0, .own 2000, .own 2001, dI goal0, dI mvar0]), (2000, .row 72 .var pv0), (2001, .row 74 .con pc0)] ∧
 Call1 Tryz.prog f_cordonref_IsName [.str t1] .bool fun c2 =>
 sel (!c2)
 (∃ w3 : Int, SatH Tryz.prog f_cordonref_Reader_Wrong [.ptr 1000 0, dI 1] [(1000, .cells [.sl .tok l0, dI at0, dI en0, dI er0, .own 2000, .own 2001, dI goal0, dI mvar0]), (2000, .row 72 .var pv0), (2001, .row 74 .con pc0)] (.tup []) [(1000, .cells [.sl .tok l0, dI at0, dI en0, dI w3, .own 2000, .own 2001, dI goal0, dI mvar0]), (2000, .row 72 .var pv0), (2001, .row 74 .con pc0)] ∧
 R (dI 0) [(1000, .cells [.sl .tok l0, dI at0, dI en0, dI w3, .own 2000, .own 2001, dI goal0, dI mvar0]), (2000, .row 72 .var pv0), (2001, .row 74 .con pc0)])
 (∃ n0, cordonref_Reader_V_I0 R t1 n0 0 l0 at0 en0 er0 goal0 mvar0 pv0 pc0)) := by kernel_rfl
theorem cordonref_Reader_V_sat (l0 : List Tok) (at0 : Int) (en0 : Int) (er0 : Int) (goal0 : Int) (mvar0 : Int) (pv0 : List VarD) (pc0 : List ConD) : SatHI cordonref_Reader_V_A Tryz.f52 f_cordonref_Reader_V [.ptr 1000 0] [(1000, .cells [.sl .tok l0, dI at0, dI en0, dI er0, .own 2000, .own 2001, dI goal0, dI mvar0]), (2000, .row 72 .var pv0), (2001, .row 74 .con pc0)] [.ptr 1000 0] false := satHD Tryz.func52 (by kernel_rfl) Tryz.ntmps52 rfl
/-! ### (*cordon/cordonref.Reader).Here -/
def cordonref_Reader_Here_A : Ann := { own := [], live := [], n := 28, nils := [], pubs := [], first := true }
theorem cordonref_Reader_Here_eq (l0 : List Tok) (at0 : Int) (en0 : Int) (er0 : Int) (goal0 : Int) (mvar0 : Int) (pv0 : List VarD) (pc0 : List ConD) (R : D → List (Nat × HObj) → Prop) : FH cordonref_Reader_Here_A Tryz.f53 [.ptr 1000 0] [(1000, .cells [.sl .tok l0, dI at0, dI en0, dI er0, .own 2000, .own 2001, dI goal0, dI mvar0]), (2000, .row 72 .var pv0), (2001, .row 74 .con pc0)] [.ptr 1000 0] false R =
 (sel (decide (at0 < (l0.length : Int)))
 (inb at0 l0.length = true ∧ R (dI ((at' .tok l0 at0.toNat).at_)) [(1000, .cells [.sl .tok l0, dI at0, dI en0, dI er0, .own 2000, .own 2001, dI goal0, dI mvar0]), (2000, .row 72 .var pv0), (2001, .row 74 .con pc0)])
 (R (dI en0) [(1000, .cells [.sl .tok l0, dI at0, dI en0, dI er0, .own 2000, .own 2001, dI goal0, dI mvar0]), (2000, .row 72 .var pv0), (2001, .row 74 .con pc0)])) := by kernel_rfl
theorem cordonref_Reader_Here_sat (l0 : List Tok) (at0 : Int) (en0 : Int) (er0 : Int) (goal0 : Int) (mvar0 : Int) (pv0 : List VarD) (pc0 : List ConD) : SatHI cordonref_Reader_Here_A Tryz.f53 f_cordonref_Reader_Here [.ptr 1000 0] [(1000, .cells [.sl .tok l0, dI at0, dI en0, dI er0, .own 2000, .own 2001, dI goal0, dI mvar0]), (2000, .row 72 .var pv0), (2001, .row 74 .con pc0)] [.ptr 1000 0] false := satHD Tryz.func53 (by kernel_rfl) Tryz.ntmps53 rfl
/-! ### cordon/cordonref.sameCon -/
def cordonref_sameCon_A : Ann := { own := [], live := [], n := 45, nils := [], pubs := [] }
theorem cordonref_sameCon_eq (a0 : ConD) (a1 : ConD) (R : D → Prop) : FD cordonref_sameCon_A Tryz.f55 [dC a0, dC a1] R =
 (sel (decide (a0.kind = a1.kind))
 (Call1 Tryz.prog f_cordonref_SameInts [.sl .int a0.vars, .sl .int a1.vars] .bool fun c1 =>
 sel c1
 (Call1 Tryz.prog f_cordonref_SameInts [.sl .int a0.consts, .sl .int a1.consts] .bool fun c2 =>
 sel c2
 (sel (decide (a0.n = a1.n))
 (Call1 Tryz.prog f_cordonref_SameLists [dS a0.rows, dS a1.rows] .bool fun c3 =>
 sel c3
 (Call1 Tryz.prog f_cordonref_SameClause [.sl .lit a0.lits, .sl .lit a1.lits] .bool fun c4 =>
 R (dB c4))
 (R (dB false)))
 (R (dB false)))
 (R (dB false)))
 (R (dB false)))
 (R (dB false))) := by kernel_rfl
theorem cordonref_sameCon_sat (a0 : ConD) (a1 : ConD) : SatI cordonref_sameCon_A Tryz.f55 f_cordonref_sameCon [dC a0, dC a1] := satD Tryz.func55 (by kernel_rfl) Tryz.ntmps55 rfl
/-! ### cordon/cordonref.between -/
def cordonref_between_A : Ann := { own := [], live := [], n := 15, nils := [], pubs := [] }
theorem cordonref_between_eq (a0 : Int) (a1 : Int) (a2 : Int) (R : D → Prop) : FD cordonref_between_A Tryz.f61 [dI a0, dI a1, dI a2] R =
 (sel (decide (a1 ≤ a0))
 (R (dB (decide (a0 ≤ a2))))
 (R (dB false))) := by kernel_rfl
theorem cordonref_between_sat (a0 : Int) (a1 : Int) (a2 : Int) : SatI cordonref_between_A Tryz.f61 f_cordonref_between [dI a0, dI a1, dI a2] := satD Tryz.func61 (by kernel_rfl) Tryz.ntmps61 rfl
/-! ### cordon/cordonref.checkCon -/
def cordonref_checkCon_A : Ann := { own := [], live := [(0, ([2, 3, 5], [])), (2, ([2, 3, 6], [])), (4, ([2, 3, 7], [])), (6, ([2, 3, 8], [])), (8, ([2, 3, 8, 9], [])), (10, ([2, 3, 10], []))], n := 140, nils := [], pubs := [] }
def cordonref_checkCon_I8 (a0 : MdlD) (a1 : ConD) (R : D → Prop) (n6 : Nat) (v10 : Int) (n8 : Nat) (v11 : Int) : Prop := LP cordonref_checkCon_A Tryz.f62 [1, 1, 1, 1, 1, 1, 1, 1, 0, 1, 0, 0, 1, 0, 0, 1, 0, 0] 8 n8 ⟨[(2, .iptr [.sl .var a0.vars, .sl .con a0.cons, dI a0.goal, dI a0.var] 0), (3, .iptr [dI a1.kind, .sl .int a1.vars, .sl .int a1.consts, dI a1.n, dS a1.rows, .sl .lit a1.lits] 0), (8, dI v10), (9, dI v11)], []⟩ (blockK 8 (blockK 7 (sK cordonref_checkCon_A Tryz.f62 [1, 1, 1, 1, 1, 1, 1, 1, 0, 1, 0, 0, 1, 1] 6 (iK cordonref_checkCon_A Tryz.f62 [1, 1, 1, 1, 1, 1, 1, 1, 0, 1, 0, 0] 6 n6 (blockK 6 (sK cordonref_checkCon_A Tryz.f62 [1, 1, 1, 1, 1, 1, 1, 1, 1] 0 (eK Tryz.f62 R)))))))
def cordonref_checkCon_I10 (a0 : MdlD) (a1 : ConD) (R : D → Prop) (n10 : Nat) (v13 : Int) : Prop := LP cordonref_checkCon_A Tryz.f62 [1, 1, 1, 1, 1, 1, 1, 1, 1, 0, 1, 0, 0] 10 n10 ⟨[(2, .iptr [.sl .var a0.vars, .sl .con a0.cons, dI a0.goal, dI a0.var] 0), (3, .iptr [dI a1.kind, .sl .int a1.vars, .sl .int a1.consts, dI a1.n, dS a1.rows, .sl .lit a1.lits] 0), (10, dI v13)], []⟩ (blockK 10 (sK cordonref_checkCon_A Tryz.f62 [1, 1, 1, 1, 1, 1, 1, 1, 1, 1] 0 (eK Tryz.f62 R)))
def cordonref_checkCon_I6 (a0 : MdlD) (a1 : ConD) (R : D → Prop) (n6 : Nat) (v10 : Int) : Prop := LP cordonref_checkCon_A Tryz.f62 [1, 1, 1, 1, 1, 1, 1, 1, 0, 1, 0, 0] 6 n6 ⟨[(2, .iptr [.sl .var a0.vars, .sl .con a0.cons, dI a0.goal, dI a0.var] 0), (3, .iptr [dI a1.kind, .sl .int a1.vars, .sl .int a1.consts, dI a1.n, dS a1.rows, .sl .lit a1.lits] 0), (8, dI v10)], []⟩ (blockK 6 (sK cordonref_checkCon_A Tryz.f62 [1, 1, 1, 1, 1, 1, 1, 1, 1] 0 (eK Tryz.f62 R)))
def cordonref_checkCon_I4 (a0 : MdlD) (a1 : ConD) (R : D → Prop) (n4 : Nat) (v7 : Int) : Prop := LP cordonref_checkCon_A Tryz.f62 [1, 1, 1, 1, 1, 1, 0, 1, 0, 0] 4 n4 ⟨[(2, .iptr [.sl .var a0.vars, .sl .con a0.cons, dI a0.goal, dI a0.var] 0), (3, .iptr [dI a1.kind, .sl .int a1.vars, .sl .int a1.consts, dI a1.n, dS a1.rows, .sl .lit a1.lits] 0), (7, dI v7)], []⟩ (blockK 4 (sK cordonref_checkCon_A Tryz.f62 [1, 1, 1, 1, 1, 1, 1] 0 (eK Tryz.f62 R)))
def cordonref_checkCon_I2 (a0 : MdlD) (a1 : ConD) (R : D → Prop) (n2 : Nat) (v5 : Int) : Prop := LP cordonref_checkCon_A Tryz.f62 [1, 1, 1, 1, 1, 0, 1, 0, 0] 2 n2 ⟨[(2, .iptr [.sl .var a0.vars, .sl .con a0.cons, dI a0.goal, dI a0.var] 0), (3, .iptr [dI a1.kind, .sl .int a1.vars, .sl .int a1.consts, dI a1.n, dS a1.rows, .sl .lit a1.lits] 0), (6, dI v5)], []⟩ (blockK 2 (sK cordonref_checkCon_A Tryz.f62 [1, 1, 1, 1, 1, 1] 0 (eK Tryz.f62 R)))
def cordonref_checkCon_I0 (a0 : MdlD) (a1 : ConD) (R : D → Prop) (n0 : Nat) (v3 : Int) : Prop := LP cordonref_checkCon_A Tryz.f62 [1, 1, 1, 1, 0, 1, 0, 0] 0 n0 ⟨[(2, .iptr [.sl .var a0.vars, .sl .con a0.cons, dI a0.goal, dI a0.var] 0), (3, .iptr [dI a1.kind, .sl .int a1.vars, .sl .int a1.consts, dI a1.n, dS a1.rows, .sl .lit a1.lits] 0), (5, dI v3)], []⟩ (blockK 0 (sK cordonref_checkCon_A Tryz.f62 [1, 1, 1, 1, 1] 0 (eK Tryz.f62 R)))
theorem cordonref_checkCon_I8_eq (a0 : MdlD) (a1 : ConD) (R : D → Prop) (n6 : Nat) (v10 : Int) (n8 : Nat) (v11 : Int) : cordonref_checkCon_I8 a0 a1 R n6 v10 (n8 + 1) v11 =
 (inb v10 a1.rows.length = true ∧
 sel (decide (v11 < ((at' (.list .int) a1.rows v10.toNat).length : Int)))
 (inb v10 a1.rows.length = true ∧
 inb v11 (at' (.list .int) a1.rows v10.toNat).length = true ∧
 Call1 Tryz.prog f_cordonref_inConst [dI (at' .int (at' (.list .int) a1.rows v10.toNat) v11.toNat)] .bool fun c12 =>
 sel (!c12)
 (R (dI 3))
 (cordonref_checkCon_I8 a0 a1 R n6 v10 n8 (w64 (v11 + 1))))
 (cordonref_checkCon_I6 a0 a1 R n6 (w64 (v10 + 1)))) := by kernel_rfl
theorem cordonref_checkCon_I10_eq (a0 : MdlD) (a1 : ConD) (R : D → Prop) (n10 : Nat) (v13 : Int) : cordonref_checkCon_I10 a0 a1 R (n10 + 1) v13 =
 (sel (decide (v13 < (a1.lits.length : Int)))
 (inb v13 a1.lits.length = true ∧
 Call1 Tryz.prog f_cordonref_CheckLit [dM a0, dL (at' .lit a1.lits v13.toNat)] .int fun c14 =>
 sel (!decide (c14 = 0))
 (R (dI c14))
 (cordonref_checkCon_I10 a0 a1 R n10 (w64 (v13 + 1))))
 (R (dI 0))) := by kernel_rfl
theorem cordonref_checkCon_I6_eq (a0 : MdlD) (a1 : ConD) (R : D → Prop) (n6 : Nat) (v10 : Int) : cordonref_checkCon_I6 a0 a1 R (n6 + 1) v10 =
 (sel (decide (v10 < (a1.rows.length : Int)))
 (∃ n8, cordonref_checkCon_I8 a0 a1 R n6 v10 n8 0)
 (∃ n10, cordonref_checkCon_I10 a0 a1 R n10 0)) := by kernel_rfl
theorem cordonref_checkCon_I4_eq (a0 : MdlD) (a1 : ConD) (R : D → Prop) (n4 : Nat) (v7 : Int) : cordonref_checkCon_I4 a0 a1 R (n4 + 1) v7 =
 (sel (decide (v7 < (a1.consts.length : Int)))
 (inb v7 a1.consts.length = true ∧
 Call1 Tryz.prog f_cordonref_inConst [dI (at' .int a1.consts v7.toNat)] .bool fun c8 =>
 sel (!c8)
 (R (dI 3))
 (cordonref_checkCon_I4 a0 a1 R n4 (w64 (v7 + 1))))
 (Call1 Tryz.prog f_cordonref_inConst [dI a1.n] .bool fun c9 =>
 sel (!c9)
 (R (dI 3))
 (∃ n6, cordonref_checkCon_I6 a0 a1 R n6 0))) := by kernel_rfl
theorem cordonref_checkCon_I2_eq (a0 : MdlD) (a1 : ConD) (R : D → Prop) (n2 : Nat) (v5 : Int) : cordonref_checkCon_I2 a0 a1 R (n2 + 1) v5 =
 (sel (decide (v5 < (a1.lits.length : Int)))
 (inb v5 a1.lits.length = true ∧
 Call1 Tryz.prog f_cordonref_between [dI ((at' .lit a1.lits v5.toNat).var), dI 0, dI (w64 ((a0.vars.length : Int) - 1))] .bool fun c6 =>
 sel (!c6)
 (R (dI 5))
 (cordonref_checkCon_I2 a0 a1 R n2 (w64 (v5 + 1))))
 (∃ n4, cordonref_checkCon_I4 a0 a1 R n4 0)) := by kernel_rfl
theorem cordonref_checkCon_I0_eq (a0 : MdlD) (a1 : ConD) (R : D → Prop) (n0 : Nat) (v3 : Int) : cordonref_checkCon_I0 a0 a1 R (n0 + 1) v3 =
 (sel (decide (v3 < (a1.vars.length : Int)))
 (inb v3 a1.vars.length = true ∧
 Call1 Tryz.prog f_cordonref_between [dI (at' .int a1.vars v3.toNat), dI 0, dI (w64 ((a0.vars.length : Int) - 1))] .bool fun c4 =>
 sel (!c4)
 (R (dI 5))
 (cordonref_checkCon_I0 a0 a1 R n0 (w64 (v3 + 1))))
 (∃ n2, cordonref_checkCon_I2 a0 a1 R n2 0)) := by kernel_rfl
theorem cordonref_checkCon_eq (a0 : MdlD) (a1 : ConD) (R : D → Prop) : FD cordonref_checkCon_A Tryz.f62 [dM a0, dC a1] R =
 (Call1 Tryz.prog f_cordonref_between [dI a1.kind, dI 1, dI 10] .bool fun c1 =>
 sel (!c1)
 (R (dI 7))
 (sel (decide (4 < (a1.vars.length : Int)))
 (R (dI 2))
 (sel (decide (4 < (a1.lits.length : Int)))
 (R (dI 2))
 (sel (decide (8 < (a1.consts.length : Int)))
 (R (dI 2))
 (sel (decide (20 < (a1.rows.length : Int)))
 (R (dI 2))
 (Call1 Tryz.prog f_cordonref_rightForm [dC a1] .bool fun c2 =>
 sel (!c2)
 (R (dI 1))
 (∃ n0, cordonref_checkCon_I0 a0 a1 R n0 0))))))) := by kernel_rfl
theorem cordonref_checkCon_sat (a0 : MdlD) (a1 : ConD) : SatI cordonref_checkCon_A Tryz.f62 f_cordonref_checkCon [dM a0, dC a1] := satD Tryz.func62 (by kernel_rfl) Tryz.ntmps62 rfl
/-! ### cordon/cordonref.SameClause -/
def cordonref_SameClause_A : Ann := { own := [], live := [(0, ([0, 1, 5], []))], n := 26, nils := [], pubs := [] }
def cordonref_SameClause_I0 (a0 : List LitD) (a1 : List LitD) (R : D → Prop) (n0 : Nat) (i1 : Int) : Prop := LP cordonref_SameClause_A Tryz.f69 [1, 1, 0, 1, 0, 0] 0 n0 ⟨[(0, .sl .lit a0), (1, .sl .lit a1), (5, dI i1)], []⟩ (blockK 0 (sK cordonref_SameClause_A Tryz.f69 [1, 1, 1] 0 (eK Tryz.f69 R)))
theorem cordonref_SameClause_I0_eq (a0 : List LitD) (a1 : List LitD) (R : D → Prop) (n0 : Nat) (i1 : Int) : cordonref_SameClause_I0 a0 a1 R (n0 + 1) i1 =
 (sel (decide (i1 < (a0.length : Int)))
 (inb i1 a0.length = true ∧
 inb i1 a1.length = true ∧
 sel (!decide ((at' .lit a0 i1.toNat) = (at' .lit a1 i1.toNat)))
 (R (dB false))
 (cordonref_SameClause_I0 a0 a1 R n0 (w64 (i1 + 1))))
 (R (dB true))) := by kernel_rfl
theorem cordonref_SameClause_eq (a0 : List LitD) (a1 : List LitD) (R : D → Prop) : FD cordonref_SameClause_A Tryz.f69 [.sl .lit a0, .sl .lit a1] R =
 (sel (!decide ((a0.length : Int) = (a1.length : Int)))
 (R (dB false))
 (∃ n0, cordonref_SameClause_I0 a0 a1 R n0 0)) := by kernel_rfl
theorem cordonref_SameClause_sat (a0 : List LitD) (a1 : List LitD) : SatI cordonref_SameClause_A Tryz.f69 f_cordonref_SameClause [.sl .lit a0, .sl .lit a1] := satD Tryz.func69 (by kernel_rfl) Tryz.ntmps69 rfl
/-! ### cordon/cordonref.SameLists -/
def cordonref_SameLists_A : Ann := { own := [], live := [(0, ([0, 1, 5], []))], n := 27, nils := [], pubs := [] }
def cordonref_SameLists_I0 (a0 : List (List Int)) (a1 : List (List Int)) (R : D → Prop) (n0 : Nat) (i1 : Int) : Prop := LP cordonref_SameLists_A Tryz.f80 [1, 1, 0, 1, 0, 0] 0 n0 ⟨[(0, dS a0), (1, dS a1), (5, dI i1)], []⟩ (blockK 0 (sK cordonref_SameLists_A Tryz.f80 [1, 1, 1] 0 (eK Tryz.f80 R)))
theorem cordonref_SameLists_I0_eq (a0 : List (List Int)) (a1 : List (List Int)) (R : D → Prop) (n0 : Nat) (i1 : Int) : cordonref_SameLists_I0 a0 a1 R (n0 + 1) i1 =
 (sel (decide (i1 < (a0.length : Int)))
 (inb i1 a0.length = true ∧
 inb i1 a1.length = true ∧
 Call1 Tryz.prog f_cordonref_SameInts [.sl .int (at' (.list .int) a0 i1.toNat), .sl .int (at' (.list .int) a1 i1.toNat)] .bool fun c2 =>
 sel (!c2)
 (R (dB false))
 (cordonref_SameLists_I0 a0 a1 R n0 (w64 (i1 + 1))))
 (R (dB true))) := by kernel_rfl
theorem cordonref_SameLists_eq (a0 : List (List Int)) (a1 : List (List Int)) (R : D → Prop) : FD cordonref_SameLists_A Tryz.f80 [dS a0, dS a1] R =
 (sel (!decide ((a0.length : Int) = (a1.length : Int)))
 (R (dB false))
 (∃ n0, cordonref_SameLists_I0 a0 a1 R n0 0)) := by kernel_rfl
theorem cordonref_SameLists_sat (a0 : List (List Int)) (a1 : List (List Int)) : SatI cordonref_SameLists_A Tryz.f80 f_cordonref_SameLists [dS a0, dS a1] := satD Tryz.func80 (by kernel_rfl) Tryz.ntmps80 rfl
/-! ### cordon/cordonref.isDigit -/
def cordonref_isDigit_A : Ann := { own := [], live := [], n := 6, nils := [], pubs := [] }
theorem cordonref_isDigit_eq (a0 : UInt8) (R : D → Prop) : FD cordonref_isDigit_A Tryz.f101 [.int .u8 (a0.toNat : Int)] R =
 (Call1 Tryz.prog f_cordonref_between [dI (w64 (a0.toNat : Int)), dI 48, dI 57] .bool fun c1 =>
 R (dB c1)) := by kernel_rfl
theorem cordonref_isDigit_sat (a0 : UInt8) : SatI cordonref_isDigit_A Tryz.f101 f_cordonref_isDigit [.int .u8 (a0.toNat : Int)] := satD Tryz.func101 (by kernel_rfl) Tryz.ntmps101 rfl
/-! ### (*cordon/cordonref.Reader).Ks -/
def cordonref_Reader_Ks_A : Ann := { own := [3, 14], live := [(0, ([0, 3, 4], [3, 1000, 2000, 2001]))], n := 16, nils := [], pubs := [], first := true }
def cordonref_Reader_Ks_I0 (R : D → List (Nat × HObj) → Prop) (n0 : Nat) (more4 : Bool) (out5 : List Int) (c6 : List Tok) (c7 : Int) (c8 : Int) (c9 : Int) (c10 : Int) (c11 : Int) (l12 : List VarD) (l13 : List ConD) : Prop := LP cordonref_Reader_Ks_A Tryz.f102 [1, 1, 0, 1, 0, 0] 0 n0 ⟨[(0, .ptr 1000 0), (3, .own 3), (4, dB more4)], [(3, .row 3 .int out5), (1000, .cells [.sl .tok c6, dI c7, dI c8, dI c9, .own 2000, .own 2001, dI c10, dI c11]), (2000, .row 72 .var l12), (2001, .row 74 .con l13)]⟩ (blockK 0 (sK cordonref_Reader_Ks_A Tryz.f102 [1, 1, 1] 0 (eH Tryz.f102 [.ptr 1000 0] false R)))
theorem cordonref_Reader_Ks_I0_eq (R : D → List (Nat × HObj) → Prop) (n0 : Nat) (more4 : Bool) (out5 : List Int) (c6 : List Tok) (c7 : Int) (c8 : Int) (c9 : Int) (c10 : Int) (c11 : Int) (l12 : List VarD) (l13 : List ConD) : cordonref_Reader_Ks_I0 R (n0 + 1) more4 out5 c6 c7 c8 c9 c10 c11 l12 l13 =
 (sel more4
 (∃ k14 : Int, ∃ k15 : Int, ∃ k16 : Int, SatH Tryz.prog f_cordonref_Reader_K [.ptr 1000 0] [(1000, .cells [.sl .tok c6, dI c7, dI c8, dI c9, .own 2000, .own 2001, dI c10, dI c11]), (2000, .row 72 .var l12), (2001, .row 74 .con l13)] (dI k16) [(1000, .cells [.sl .tok c6, dI k14, dI c8, dI k15, .own 2000, .own 2001, dI c10, dI c11]), (2000, .row 72 .var l12), (2001, .row 74 .con l13)] ∧
 room .int (out5.length + ([k16]).length) = true ∧ ∃ m17 : Int, ∃ m18 : Int, ∃ m19 : Bool, SatH Tryz.prog f_cordonref_Reader_More [.ptr 1000 0, dB false] [(1000, .cells [.sl .tok c6, dI k14, dI c8, dI k15, .own 2000, .own 2001, dI c10, dI c11]), (2000, .row 72 .var l12), (2001, .row 74 .con l13)] (dB m19) [(1000, .cells [.sl .tok c6, dI m17, dI c8, dI m18, .own 2000, .own 2001, dI c10, dI c11]), (2000, .row 72 .var l12), (2001, .row 74 .con l13)] ∧
 cordonref_Reader_Ks_I0 R n0 m19 (out5 ++ ([k16])) c6 m17 c8 m18 c10 c11 l12 l13)
 (R (.sl .int out5) [(1000, .cells [.sl .tok c6, dI c7, dI c8, dI c9, .own 2000, .own 2001, dI c10, dI c11]), (2000, .row 72 .var l12), (2001, .row 74 .con l13)])) := by kernel_rfl
theorem cordonref_Reader_Ks_eq (l0 : List Tok) (at0 : Int) (en0 : Int) (er0 : Int) (goal0 : Int) (mvar0 : Int) (pv0 : List VarD) (pc0 : List ConD) (R : D → List (Nat × HObj) → Prop) : FH cordonref_Reader_Ks_A Tryz.f102 [.ptr 1000 0] [(1000, .cells [.sl .tok l0, dI at0, dI en0, dI er0, .own 2000, .own 2001, dI goal0, dI mvar0]), (2000, .row 72 .var pv0), (2001, .row 74 .con pc0)] [.ptr 1000 0] false R =
 (∃ m1 : Int, ∃ m2 : Int, ∃ m3 : Bool, SatH Tryz.prog f_cordonref_Reader_More [.ptr 1000 0, dB true] [(1000, .cells [.sl .tok l0, dI at0, dI en0, dI er0, .own 2000, .own 2001, dI goal0, dI mvar0]), (2000, .row 72 .var pv0), (2001, .row 74 .con pc0)] (dB m3) [(1000, .cells [.sl .tok l0, dI m1, dI en0, dI m2, .own 2000, .own 2001, dI goal0, dI mvar0]), (2000, .row 72 .var pv0), (2001, .row 74 .con pc0)] ∧
 ∃ n0, cordonref_Reader_Ks_I0 R n0 m3 ([] : List Int) l0 m1 en0 m2 goal0 mvar0 pv0 pc0) := by kernel_rfl
theorem cordonref_Reader_Ks_sat (l0 : List Tok) (at0 : Int) (en0 : Int) (er0 : Int) (goal0 : Int) (mvar0 : Int) (pv0 : List VarD) (pc0 : List ConD) : SatHI cordonref_Reader_Ks_A Tryz.f102 f_cordonref_Reader_Ks [.ptr 1000 0] [(1000, .cells [.sl .tok l0, dI at0, dI en0, dI er0, .own 2000, .own 2001, dI goal0, dI mvar0]), (2000, .row 72 .var pv0), (2001, .row 74 .con pc0)] [.ptr 1000 0] false := satHD Tryz.func102 (by kernel_rfl) Tryz.ntmps102 rfl
/-! ### (*cordon/cordonref.Reader).Vs -/
def cordonref_Reader_Vs_A : Ann := { own := [3, 14], live := [(0, ([0, 3, 4], [3, 1000, 2000, 2001]))], n := 16, nils := [], pubs := [], first := true }
def cordonref_Reader_Vs_I0 (R : D → List (Nat × HObj) → Prop) (n0 : Nat) (more4 : Bool) (out5 : List Int) (c6 : List Tok) (c7 : Int) (c8 : Int) (c9 : Int) (c10 : Int) (c11 : Int) (l12 : List VarD) (l13 : List ConD) : Prop := LP cordonref_Reader_Vs_A Tryz.f103 [1, 1, 0, 1, 0, 0] 0 n0 ⟨[(0, .ptr 1000 0), (3, .own 3), (4, dB more4)], [(3, .row 3 .int out5), (1000, .cells [.sl .tok c6, dI c7, dI c8, dI c9, .own 2000, .own 2001, dI c10, dI c11]), (2000, .row 72 .var l12), (2001, .row 74 .con l13)]⟩ (blockK 0 (sK cordonref_Reader_Vs_A Tryz.f103 [1, 1, 1] 0 (eH Tryz.f103 [.ptr 1000 0] false R)))
theorem cordonref_Reader_Vs_I0_eq (R : D → List (Nat × HObj) → Prop) (n0 : Nat) (more4 : Bool) (out5 : List Int) (c6 : List Tok) (c7 : Int) (c8 : Int) (c9 : Int) (c10 : Int) (c11 : Int) (l12 : List VarD) (l13 : List ConD) : cordonref_Reader_Vs_I0 R (n0 + 1) more4 out5 c6 c7 c8 c9 c10 c11 l12 l13 =
 (sel more4
 (∃ v14 : Int, ∃ v15 : Int, ∃ v16 : Int, SatH Tryz.prog f_cordonref_Reader_V [.ptr 1000 0] [(1000, .cells [.sl .tok c6, dI c7, dI c8, dI c9, .own 2000, .own 2001, dI c10, dI c11]), (2000, .row 72 .var l12), (2001, .row 74 .con l13)] (dI v16) [(1000, .cells [.sl .tok c6, dI v14, dI c8, dI v15, .own 2000, .own 2001, dI c10, dI c11]), (2000, .row 72 .var l12), (2001, .row 74 .con l13)] ∧
 room .int (out5.length + ([v16]).length) = true ∧ ∃ m17 : Int, ∃ m18 : Int, ∃ m19 : Bool, SatH Tryz.prog f_cordonref_Reader_More [.ptr 1000 0, dB false] [(1000, .cells [.sl .tok c6, dI v14, dI c8, dI v15, .own 2000, .own 2001, dI c10, dI c11]), (2000, .row 72 .var l12), (2001, .row 74 .con l13)] (dB m19) [(1000, .cells [.sl .tok c6, dI m17, dI c8, dI m18, .own 2000, .own 2001, dI c10, dI c11]), (2000, .row 72 .var l12), (2001, .row 74 .con l13)] ∧
 cordonref_Reader_Vs_I0 R n0 m19 (out5 ++ ([v16])) c6 m17 c8 m18 c10 c11 l12 l13)
 (R (.sl .int out5) [(1000, .cells [.sl .tok c6, dI c7, dI c8, dI c9, .own 2000, .own 2001, dI c10, dI c11]), (2000, .row 72 .var l12), (2001, .row 74 .con l13)])) := by kernel_rfl
theorem cordonref_Reader_Vs_eq (l0 : List Tok) (at0 : Int) (en0 : Int) (er0 : Int) (goal0 : Int) (mvar0 : Int) (pv0 : List VarD) (pc0 : List ConD) (R : D → List (Nat × HObj) → Prop) : FH cordonref_Reader_Vs_A Tryz.f103 [.ptr 1000 0] [(1000, .cells [.sl .tok l0, dI at0, dI en0, dI er0, .own 2000, .own 2001, dI goal0, dI mvar0]), (2000, .row 72 .var pv0), (2001, .row 74 .con pc0)] [.ptr 1000 0] false R =
 (∃ m1 : Int, ∃ m2 : Int, ∃ m3 : Bool, SatH Tryz.prog f_cordonref_Reader_More [.ptr 1000 0, dB true] [(1000, .cells [.sl .tok l0, dI at0, dI en0, dI er0, .own 2000, .own 2001, dI goal0, dI mvar0]), (2000, .row 72 .var pv0), (2001, .row 74 .con pc0)] (dB m3) [(1000, .cells [.sl .tok l0, dI m1, dI en0, dI m2, .own 2000, .own 2001, dI goal0, dI mvar0]), (2000, .row 72 .var pv0), (2001, .row 74 .con pc0)] ∧
 ∃ n0, cordonref_Reader_Vs_I0 R n0 m3 ([] : List Int) l0 m1 en0 m2 goal0 mvar0 pv0 pc0) := by kernel_rfl
theorem cordonref_Reader_Vs_sat (l0 : List Tok) (at0 : Int) (en0 : Int) (er0 : Int) (goal0 : Int) (mvar0 : Int) (pv0 : List VarD) (pc0 : List ConD) : SatHI cordonref_Reader_Vs_A Tryz.f103 f_cordonref_Reader_Vs [.ptr 1000 0] [(1000, .cells [.sl .tok l0, dI at0, dI en0, dI er0, .own 2000, .own 2001, dI goal0, dI mvar0]), (2000, .row 72 .var pv0), (2001, .row 74 .con pc0)] [.ptr 1000 0] false := satHD Tryz.func103 (by kernel_rfl) Tryz.ntmps103 rfl
/-! ### (*cordon/cordonref.Reader).More -/
def cordonref_Reader_More_A : Ann := { own := [], live := [], n := 25, nils := [], pubs := [], first := true }
theorem cordonref_Reader_More_eq (l0 : List Tok) (at0 : Int) (en0 : Int) (er0 : Int) (goal0 : Int) (mvar0 : Int) (pv0 : List VarD) (pc0 : List ConD) (fi0 : Bool) (R : D → List (Nat × HObj) → Prop) : FH cordonref_Reader_More_A Tryz.f104 [.ptr 1000 0, dB fi0] [(1000, .cells [.sl .tok l0, dI at0, dI en0, dI er0, .own 2000, .own 2001, dI goal0, dI mvar0]), (2000, .row 72 .var pv0), (2001, .row 74 .con pc0)] [.ptr 1000 0] false R =
 (sel fi0
 (∃ n1 : Int, ∃ n2 : Int, SatH Tryz.prog f_cordonref_Reader_Need [.ptr 1000 0, .str (⟨#[91]⟩ : ByteArray)] [(1000, .cells [.sl .tok l0, dI at0, dI en0, dI er0, .own 2000, .own 2001, dI goal0, dI mvar0]), (2000, .row 72 .var pv0), (2001, .row 74 .con pc0)] (.tup []) [(1000, .cells [.sl .tok l0, dI n1, dI en0, dI n2, .own 2000, .own 2001, dI goal0, dI mvar0]), (2000, .row 72 .var pv0), (2001, .row 74 .con pc0)] ∧
 ∃ t3 : ByteArray, SatH Tryz.prog f_cordonref_Reader_Text [.ptr 1000 0] [(1000, .cells [.sl .tok l0, dI n1, dI en0, dI n2, .own 2000, .own 2001, dI goal0, dI mvar0]), (2000, .row 72 .var pv0), (2001, .row 74 .con pc0)] (.str t3) [(1000, .cells [.sl .tok l0, dI n1, dI en0, dI n2, .own 2000, .own 2001, dI goal0, dI mvar0]), (2000, .row 72 .var pv0), (2001, .row 74 .con pc0)] ∧
 sel (decide (t3 = (⟨#[93]⟩ : ByteArray)))
 (∃ n4 : Int, ∃ n5 : Int, SatH Tryz.prog f_cordonref_Reader_Need [.ptr 1000 0, .str (⟨#[93]⟩ : ByteArray)] [(1000, .cells [.sl .tok l0, dI n1, dI en0, dI n2, .own 2000, .own 2001, dI goal0, dI mvar0]), (2000, .row 72 .var pv0), (2001, .row 74 .con pc0)] (.tup []) [(1000, .cells [.sl .tok l0, dI n4, dI en0, dI n5, .own 2000, .own 2001, dI goal0, dI mvar0]), (2000, .row 72 .var pv0), (2001, .row 74 .con pc0)] ∧
 R (dB false) [(1000, .cells [.sl .tok l0, dI n4, dI en0, dI n5, .own 2000, .own 2001, dI goal0, dI mvar0]), (2000, .row 72 .var pv0), (2001, .row 74 .con pc0)])
 (R (dB (decide (n2 = 0))) [(1000, .cells [.sl .tok l0, dI n1, dI en0, dI n2, .own 2000, .own 2001, dI goal0, dI mvar0]), (2000, .row 72 .var pv0), (2001, .row 74 .con pc0)]))
 (∃ t6 : ByteArray, SatH Tryz.prog f_cordonref_Reader_Text [.ptr 1000 0] [(1000, .cells [.sl .tok l0, dI at0, dI en0, dI er0, .own 2000, .own 2001, dI goal0, dI mvar0]), (2000, .row 72 .var pv0), (2001, .row 74 .con pc0)] (.str t6) [(1000, .cells [.sl .tok l0, dI at0, dI en0, dI er0, .own 2000, .own 2001, dI goal0, dI mvar0]), (2000, .row 72 .var pv0), (2001, .row 74 .con pc0)] ∧
 sel (decide (t6 = (⟨#[44]⟩ : ByteArray)))
 (∃ n7 : Int, ∃ n8 : Int, SatH Tryz.prog f_cordonref_Reader_Need [.ptr 1000 0, .str (⟨#[44]⟩ : ByteArray)] [(1000, .cells [.sl .tok l0, dI at0, dI en0, dI er0, .own 2000, .own 2001, dI goal0, dI mvar0]), (2000, .row 72 .var pv0), (2001, .row 74 .con pc0)] (.tup []) [(1000, .cells [.sl .tok l0, dI n7, dI en0, dI n8, .own 2000, .own 2001, dI goal0, dI mvar0]), (2000, .row 72 .var pv0), (2001, .row 74 .con pc0)] ∧
 R (dB true) [(1000, .cells [.sl .tok l0, dI n7, dI en0, dI n8, .own 2000, .own 2001, dI goal0, dI mvar0]), (2000, .row 72 .var pv0), (2001, .row 74 .con pc0)])
 (∃ n9 : Int, ∃ n10 : Int, SatH Tryz.prog f_cordonref_Reader_Need [.ptr 1000 0, .str (⟨#[93]⟩ : ByteArray)] [(1000, .cells [.sl .tok l0, dI at0, dI en0, dI er0, .own 2000, .own 2001, dI goal0, dI mvar0]), (2000, .row 72 .var pv0), (2001, .row 74 .con pc0)] (.tup []) [(1000, .cells [.sl .tok l0, dI n9, dI en0, dI n10, .own 2000, .own 2001, dI goal0, dI mvar0]), (2000, .row 72 .var pv0), (2001, .row 74 .con pc0)] ∧
 R (dB false) [(1000, .cells [.sl .tok l0, dI n9, dI en0, dI n10, .own 2000, .own 2001, dI goal0, dI mvar0]), (2000, .row 72 .var pv0), (2001, .row 74 .con pc0)]))) := by kernel_rfl
theorem cordonref_Reader_More_sat (l0 : List Tok) (at0 : Int) (en0 : Int) (er0 : Int) (goal0 : Int) (mvar0 : Int) (pv0 : List VarD) (pc0 : List ConD) (fi0 : Bool) : SatHI cordonref_Reader_More_A Tryz.f104 f_cordonref_Reader_More [.ptr 1000 0, dB fi0] [(1000, .cells [.sl .tok l0, dI at0, dI en0, dI er0, .own 2000, .own 2001, dI goal0, dI mvar0]), (2000, .row 72 .var pv0), (2001, .row 74 .con pc0)] [.ptr 1000 0] false := satHD Tryz.func104 (by kernel_rfl) Tryz.ntmps104 rfl
/-! ### (*cordon/cordonref.Reader).Lit -/
def cordonref_Reader_Lit_A : Ann := { own := [2, 3], live := [], n := 17, nils := [], pubs := [], first := true }
theorem cordonref_Reader_Lit_eq (l0 : List Tok) (at0 : Int) (en0 : Int) (er0 : Int) (goal0 : Int) (mvar0 : Int) (pv0 : List VarD) (pc0 : List ConD) (R : D → List (Nat × HObj) → Prop) : FH cordonref_Reader_Lit_A Tryz.f105 [.ptr 1000 0] [(1000, .cells [.sl .tok l0, dI at0, dI en0, dI er0, .own 2000, .own 2001, dI goal0, dI mvar0]), (2000, .row 72 .var pv0), (2001, .row 74 .con pc0)] [.ptr 1000 0] false R =
 (∃ v1 : Int, ∃ v2 : Int, ∃ v3 : Int, SatH Tryz.prog f_cordonref_Reader_V [.ptr 1000 0] [(1000, .cells [.sl .tok l0, dI at0, dI en0, dI er0, .own 2000, .own 2001, dI goal0, dI mvar0]), (2000, .row 72 .var pv0), (2001, .row 74 .con pc0)] (dI v3) [(1000, .cells [.sl .tok l0, dI v1, dI en0, dI v2, .own 2000, .own 2001, dI goal0, dI mvar0]), (2000, .row 72 .var pv0), (2001, .row 74 .con pc0)] ∧
 ∃ w4 : Int, ∃ w5 : Int, ∃ w6 : Int, SatH Tryz.prog f_cordonref_Reader_Word [.ptr 1000 0, .sl .str ([(⟨#[60, 61]⟩ : ByteArray), (⟨#[62, 61]⟩ : ByteArray), (⟨#[61, 61]⟩ : ByteArray), (⟨#[33, 61]⟩ : ByteArray)])] [(1000, .cells [.sl .tok l0, dI v1, dI en0, dI v2, .own 2000, .own 2001, dI goal0, dI mvar0]), (2000, .row 72 .var pv0), (2001, .row 74 .con pc0)] (dI w6) [(1000, .cells [.sl .tok l0, dI w4, dI en0, dI w5, .own 2000, .own 2001, dI goal0, dI mvar0]), (2000, .row 72 .var pv0), (2001, .row 74 .con pc0)] ∧
 ∃ k7 : Int, ∃ k8 : Int, ∃ k9 : Int, SatH Tryz.prog f_cordonref_Reader_K [.ptr 1000 0] [(1000, .cells [.sl .tok l0, dI w4, dI en0, dI w5, .own 2000, .own 2001, dI goal0, dI mvar0]), (2000, .row 72 .var pv0), (2001, .row 74 .con pc0)] (dI k9) [(1000, .cells [.sl .tok l0, dI k7, dI en0, dI k8, .own 2000, .own 2001, dI goal0, dI mvar0]), (2000, .row 72 .var pv0), (2001, .row 74 .con pc0)] ∧
 R (.agg [dI v3, dI (w64 (1 + w6)), dI k9]) [(1000, .cells [.sl .tok l0, dI k7, dI en0, dI k8, .own 2000, .own 2001, dI goal0, dI mvar0]), (2000, .row 72 .var pv0), (2001, .row 74 .con pc0)]) := by kernel_rfl
theorem cordonref_Reader_Lit_sat (l0 : List Tok) (at0 : Int) (en0 : Int) (er0 : Int) (goal0 : Int) (mvar0 : Int) (pv0 : List VarD) (pc0 : List ConD) : SatHI cordonref_Reader_Lit_A Tryz.f105 f_cordonref_Reader_Lit [.ptr 1000 0] [(1000, .cells [.sl .tok l0, dI at0, dI en0, dI er0, .own 2000, .own 2001, dI goal0, dI mvar0]), (2000, .row 72 .var pv0), (2001, .row 74 .con pc0)] [.ptr 1000 0] false := satHD Tryz.func105 (by kernel_rfl) Tryz.ntmps105 rfl
/-! ### cordon/cordonref.rightForm -/
def cordonref_rightForm_A : Ann := { own := [], live := [(1, ([1, 3, 4, 5, 6, 7], []))], n := 164, nils := [], pubs := [] }
def cordonref_rightForm_I1 (a0 : ConD) (R : D → Prop) (n1 : Nat) (v1 : Int) : Prop := LP cordonref_rightForm_A Tryz.f114 [1, 1, 1, 0, 1, 0, 1, 1, 1, 1, 1, 1, 1, 0, 0, 1, 0, 0] 1 n1 ⟨[(1, .iptr [dI a0.kind, .sl .int a0.vars, .sl .int a0.consts, dI a0.n, dS a0.rows, .sl .lit a0.lits] 0), (3, dI (a0.vars.length : Int)), (4, dI (a0.consts.length : Int)), (5, dI (a0.rows.length : Int)), (6, dI (a0.lits.length : Int)), (7, dI v1)], []⟩ (blockK 1 (sK cordonref_rightForm_A Tryz.f114 [1, 1, 1, 0, 1, 0, 1, 1, 1, 1, 1, 1, 1, 0, 1] 0 (blockK 0 (sK cordonref_rightForm_A Tryz.f114 [1, 1, 1, 1] 0 (eK Tryz.f114 R)))))
def cordonref_rightForm_I1_2 (a0 : ConD) (R : D → Prop) (n1_2 : Nat) (v2 : Int) : Prop := LP cordonref_rightForm_A Tryz.f114 [1, 1, 1, 0, 1, 0, 1, 1, 1, 1, 1, 1, 1, 0, 0, 1, 0, 0] 1 n1_2 ⟨[(1, .iptr [dI a0.kind, .sl .int a0.vars, .sl .int a0.consts, dI a0.n, dS a0.rows, .sl .lit a0.lits] 0), (3, dI (a0.vars.length : Int)), (4, dI (a0.consts.length : Int)), (5, dI (a0.rows.length : Int)), (6, dI (a0.lits.length : Int)), (7, dI v2)], []⟩ (blockK 1 (sK cordonref_rightForm_A Tryz.f114 [1, 1, 1, 0, 1, 0, 1, 1, 1, 1, 1, 1, 1, 0, 1] 0 (blockK 0 (sK cordonref_rightForm_A Tryz.f114 [1, 1, 1, 1] 0 (eK Tryz.f114 R)))))
theorem cordonref_rightForm_I1_eq (a0 : ConD) (R : D → Prop) (n1 : Nat) (v1 : Int) : cordonref_rightForm_I1 a0 R (n1 + 1) v1 =
 (sel (decide (v1 < (a0.rows.length : Int)))
 (inb v1 a0.rows.length = true ∧
 sel (!decide (((at' (.list .int) a0.rows v1.toNat).length : Int) = (a0.vars.length : Int)))
 (R (dB false))
 (cordonref_rightForm_I1 a0 R n1 (w64 (v1 + 1))))
 (sel (decide (1 ≤ (a0.vars.length : Int)))
 (sel (decide ((a0.consts.length : Int) = 0))
 (R (dB (decide ((a0.lits.length : Int) = 0))))
 (R (dB false)))
 (R (dB false)))) := by kernel_rfl
theorem cordonref_rightForm_eq (a0 : ConD) (R : D → Prop) : FD cordonref_rightForm_A Tryz.f114 [dC a0] R =
 (sel (decide (3 < a0.kind))
 (sel (!decide (a0.n = 0))
 (R (dB false))
 (sel (decide (a0.kind = 1))
 (sel (decide (1 ≤ (a0.vars.length : Int)))
 (sel (decide ((a0.consts.length : Int) = (a0.vars.length : Int)))
 (sel (decide ((a0.rows.length : Int) = 0))
 (R (dB (decide ((a0.lits.length : Int) = 0))))
 (R (dB false)))
 (R (dB false)))
 (R (dB false)))
 (sel (decide (a0.kind = 2))
 (sel (decide (1 ≤ (a0.vars.length : Int)))
 (sel (decide ((a0.consts.length : Int) = (a0.vars.length : Int)))
 (sel (decide ((a0.rows.length : Int) = 0))
 (R (dB (decide ((a0.lits.length : Int) = 0))))
 (R (dB false)))
 (R (dB false)))
 (R (dB false)))
 (sel (decide (a0.kind = 3))
 (sel (decide (1 ≤ (a0.vars.length : Int)))
 (sel (decide ((a0.consts.length : Int) = (a0.vars.length : Int)))
 (sel (decide ((a0.rows.length : Int) = 0))
 (R (dB (decide ((a0.lits.length : Int) = 0))))
 (R (dB false)))
 (R (dB false)))
 (R (dB false)))
 (sel (decide (a0.kind = 4))
 (sel (decide (1 ≤ (a0.vars.length : Int)))
 (sel (decide ((a0.consts.length : Int) = 0))
 (sel (decide ((a0.rows.length : Int) = 0))
 (R (dB (decide ((a0.lits.length : Int) = 0))))
 (R (dB false)))
 (R (dB false)))
 (R (dB false)))
 (sel (decide (a0.kind = 5))
 (sel (decide ((a0.vars.length : Int) = 2))
 (sel (decide (1 ≤ (a0.consts.length : Int)))
 (sel (decide ((a0.rows.length : Int) = 0))
 (R (dB (decide ((a0.lits.length : Int) = 0))))
 (R (dB false)))
 (R (dB false)))
 (R (dB false)))
 (sel (decide (a0.kind = 6))
 (∃ n1, cordonref_rightForm_I1 a0 R n1 0)
 (sel (decide (a0.kind = 7))
 (sel (decide ((a0.vars.length : Int) = 3))
 (sel (decide ((a0.consts.length : Int) = 0))
 (sel (decide ((a0.rows.length : Int) = 0))
 (R (dB (decide ((a0.lits.length : Int) = 0))))
 (R (dB false)))
 (R (dB false)))
 (R (dB false)))
 (sel (decide (a0.kind = 8))
 (sel (decide (2 ≤ (a0.vars.length : Int)))
 (sel (decide ((a0.consts.length : Int) = 0))
 (sel (decide ((a0.rows.length : Int) = 0))
 (R (dB (decide ((a0.lits.length : Int) = 0))))
 (R (dB false)))
 (R (dB false)))
 (R (dB false)))
 (sel (decide (a0.kind = 9))
 (sel (decide ((a0.vars.length : Int) = 0))
 (sel (decide ((a0.consts.length : Int) = 0))
 (R (dB (decide ((a0.rows.length : Int) = 0))))
 (R (dB false)))
 (R (dB false)))
 (sel (decide ((a0.vars.length : Int) = 1))
 (sel (decide ((a0.consts.length : Int) = 0))
 (sel (decide ((a0.rows.length : Int) = 0))
 (R (dB (decide ((a0.lits.length : Int) = 1))))
 (R (dB false)))
 (R (dB false)))
 (R (dB false)))))))))))))
 (sel (decide (a0.kind = 1))
 (sel (decide (1 ≤ (a0.vars.length : Int)))
 (sel (decide ((a0.consts.length : Int) = (a0.vars.length : Int)))
 (sel (decide ((a0.rows.length : Int) = 0))
 (R (dB (decide ((a0.lits.length : Int) = 0))))
 (R (dB false)))
 (R (dB false)))
 (R (dB false)))
 (sel (decide (a0.kind = 2))
 (sel (decide (1 ≤ (a0.vars.length : Int)))
 (sel (decide ((a0.consts.length : Int) = (a0.vars.length : Int)))
 (sel (decide ((a0.rows.length : Int) = 0))
 (R (dB (decide ((a0.lits.length : Int) = 0))))
 (R (dB false)))
 (R (dB false)))
 (R (dB false)))
 (sel (decide (a0.kind = 3))
 (sel (decide (1 ≤ (a0.vars.length : Int)))
 (sel (decide ((a0.consts.length : Int) = (a0.vars.length : Int)))
 (sel (decide ((a0.rows.length : Int) = 0))
 (R (dB (decide ((a0.lits.length : Int) = 0))))
 (R (dB false)))
 (R (dB false)))
 (R (dB false)))
 (sel (decide (a0.kind = 4))
 (sel (decide (1 ≤ (a0.vars.length : Int)))
 (sel (decide ((a0.consts.length : Int) = 0))
 (sel (decide ((a0.rows.length : Int) = 0))
 (R (dB (decide ((a0.lits.length : Int) = 0))))
 (R (dB false)))
 (R (dB false)))
 (R (dB false)))
 (sel (decide (a0.kind = 5))
 (sel (decide ((a0.vars.length : Int) = 2))
 (sel (decide (1 ≤ (a0.consts.length : Int)))
 (sel (decide ((a0.rows.length : Int) = 0))
 (R (dB (decide ((a0.lits.length : Int) = 0))))
 (R (dB false)))
 (R (dB false)))
 (R (dB false)))
 (sel (decide (a0.kind = 6))
 (∃ n1_2, cordonref_rightForm_I1_2 a0 R n1_2 0)
 (sel (decide (a0.kind = 7))
 (sel (decide ((a0.vars.length : Int) = 3))
 (sel (decide ((a0.consts.length : Int) = 0))
 (sel (decide ((a0.rows.length : Int) = 0))
 (R (dB (decide ((a0.lits.length : Int) = 0))))
 (R (dB false)))
 (R (dB false)))
 (R (dB false)))
 (sel (decide (a0.kind = 8))
 (sel (decide (2 ≤ (a0.vars.length : Int)))
 (sel (decide ((a0.consts.length : Int) = 0))
 (sel (decide ((a0.rows.length : Int) = 0))
 (R (dB (decide ((a0.lits.length : Int) = 0))))
 (R (dB false)))
 (R (dB false)))
 (R (dB false)))
 (sel (decide (a0.kind = 9))
 (sel (decide ((a0.vars.length : Int) = 0))
 (sel (decide ((a0.consts.length : Int) = 0))
 (R (dB (decide ((a0.rows.length : Int) = 0))))
 (R (dB false)))
 (R (dB false)))
 (sel (decide ((a0.vars.length : Int) = 1))
 (sel (decide ((a0.consts.length : Int) = 0))
 (sel (decide ((a0.rows.length : Int) = 0))
 (R (dB (decide ((a0.lits.length : Int) = 1))))
 (R (dB false)))
 (R (dB false)))
 (R (dB false))))))))))))) := by kernel_rfl
theorem cordonref_rightForm_sat (a0 : ConD) : SatI cordonref_rightForm_A Tryz.f114 f_cordonref_rightForm [dC a0] := satD Tryz.func114 (by kernel_rfl) Tryz.ntmps114 rfl
/-! ### cordon/cordonref.inConst -/
def cordonref_inConst_A : Ann := { own := [], live := [], n := 5, nils := [], pubs := [] }
theorem cordonref_inConst_eq (a0 : Int) (R : D → Prop) : FD cordonref_inConst_A Tryz.f115 [dI a0] R =
 (Call1 Tryz.prog f_cordonref_between [dI a0, dI (-1000), dI 1000] .bool fun c1 =>
 R (dB c1)) := by kernel_rfl
theorem cordonref_inConst_sat (a0 : Int) : SatI cordonref_inConst_A Tryz.f115 f_cordonref_inConst [dI a0] := satD Tryz.func115 (by kernel_rfl) Tryz.ntmps115 rfl
/-! ### cordon/cordonref.CheckLit -/
def cordonref_CheckLit_A : Ann := { own := [], live := [], n := 21, nils := [], pubs := [] }
theorem cordonref_CheckLit_eq (a0 : MdlD) (a1 : LitD) (R : D → Prop) : FD cordonref_CheckLit_A Tryz.f116 [dM a0, dL a1] R =
 (Call1 Tryz.prog f_cordonref_between [dI a1.var, dI 0, dI (w64 ((a0.vars.length : Int) - 1))] .bool fun c1 =>
 sel (!c1)
 (R (dI 5))
 (Call1 Tryz.prog f_cordonref_between [dI a1.op, dI 1, dI 4] .bool fun c2 =>
 sel (!c2)
 (R (dI 7))
 (Call1 Tryz.prog f_cordonref_inConst [dI a1.n] .bool fun c3 =>
 sel (!c3)
 (R (dI 3))
 (R (dI 0))))) := by kernel_rfl
theorem cordonref_CheckLit_sat (a0 : MdlD) (a1 : LitD) : SatI cordonref_CheckLit_A Tryz.f116 f_cordonref_CheckLit [dM a0, dL a1] := satD Tryz.func116 (by kernel_rfl) Tryz.ntmps116 rfl
end Go.Proofs.YtogdmcebojiojaaGreatDoor
