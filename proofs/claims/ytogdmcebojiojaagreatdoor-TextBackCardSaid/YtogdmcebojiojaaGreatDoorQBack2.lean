/- What is printed, as tokens: plain laws. -/
import Derived.Test.YtogdmcebojiojaaGreatDoorQBack1
import Derived.Test.YtogdmcebojiojaaGreatDoorMR
namespace Go.Proofs.YtogdmcebojiojaaGreatDoor
open Go.RowKit
set_option linter.unusedVariables false
set_option linter.unusedSimpArgs false

/-! ### The pieces -/
def nmP (s : ByteArray) (sep : List UInt8) : Pc := ⟨1, s.data.toList, sep⟩
def intP (n : Int) (sep : List UInt8) : List Pc := if n < 0 then [⟨3, [45], []⟩, ⟨2, digs (-n).toNat, sep⟩] else [⟨2, digs n.toNat, sep⟩]
def tailP (xs : List (List Pc)) (sep : List UInt8) : List Pc := xs.flatMap (fun x => ⟨3, [44], [32]⟩ :: x) ++ [⟨3, [93], sep⟩]
def brP' (xs : List (List Pc)) (sep : List UInt8) : List Pc := match xs with
  | [] => [⟨3, [91], []⟩, ⟨3, [93], sep⟩]
  | x :: r => ⟨3, [91], []⟩ :: (x ++ tailP r sep)
def litPc (vs : List VarD) (x : LitD) (sep : List UInt8) : List Pc := nmP (nmS vs x.var) [32] :: ⟨3, (opS x.op).data.toList, [32]⟩ :: intP x.n sep
def numsP (l : List Int) (sep : List UInt8) : List Pc := brP' (l.map fun n => intP n []) sep
def namesP (vs : List VarD) (l : List Int) (sep : List UInt8) : List Pc := brP' (l.map fun i => [nmP (nmS vs i) []]) sep
def conPc (vs : List VarD) (c : ConD) : List Pc := nmP (wdS c.kind) [32] ::
  (if c.kind ≤ 3 then numsP c.consts [32] ++ (namesP vs c.vars [32] ++ intP c.n [])
  else if c.kind = 4 then namesP vs c.vars []
  else if c.kind = 5 then numsP c.consts [32] ++ [nmP (nmS vs (at' .int c.vars 0)) [32], nmP (nmS vs (at' .int c.vars 1)) []]
  else if c.kind = 6 then namesP vs c.vars [32] ++ brP' (c.rows.map fun r => numsP r []) []
  else if c.kind = 7 then [nmP (nmS vs (at' .int c.vars 0)) [32], nmP (nmS vs (at' .int c.vars 1)) [32], nmP (nmS vs (at' .int c.vars 2)) []]
  else if c.kind = 8 then nmP (nmS vs (at' .int c.vars 0)) [32] :: namesP vs (c.vars.drop 1) []
  else if c.kind = 9 then brP' (c.lits.map fun x => litPc vs x []) []
  else nmP (nmS vs (at' .int c.vars 0)) [32] :: litPc vs (at' .lit c.lits 0) [])
def varPc (v : VarD) : List Pc := ⟨1, [118, 97, 114], [32]⟩ :: nmP v.name [] :: ⟨3, [58], [32]⟩ :: (intP v.lo [] ++ (⟨3, [46, 46], []⟩ :: (intP v.hi [] ++ [⟨3, [59], [10]⟩])))
def conTc (vs : List VarD) (c : ConD) : List Pc := ⟨1, [99, 111, 110], [32]⟩ :: (conPc vs c ++ [⟨3, [59], [10]⟩])
def goalPc (m : MdlD) : List Pc := ⟨1, [115, 111, 108, 118, 101], [32]⟩ ::
  (if m.goal = 0 then [⟨1, [97, 110, 121], []⟩, ⟨3, [59], [10]⟩]
  else if m.goal = 1 then [⟨1, [108, 101, 97, 115, 116], [32]⟩, nmP (nmS m.vars m.var) [], ⟨3, [59], [10]⟩]
  else [⟨1, [109, 111, 115, 116], [32]⟩, nmP (nmS m.vars m.var) [], ⟨3, [59], [10]⟩])
def mdlPc (m : MdlD) : List Pc := m.vars.flatMap varPc ++ (m.cons.flatMap (conTc m.vars) ++ goalPc m)
/-! ### Their bytes -/
theorem itoa_l {n : Int} (h : -1000 ≤ n ∧ n ≤ 1000) : (itoaS n).data.toList = if n < 0 then 45 :: digs (-n).toNat else digs n.toNat := by
  unfold itoaS Lib.itoa
  by_cases h0 : n < 0
  · rw [if_pos h0, if_pos h0, show n.natAbs = (-n).toNat by omega, digs_eq (by omega)]
  · rw [if_neg h0, if_neg h0, digs_eq (by omega)]
theorem byt_int {n : Int} (h : -1000 ≤ n ∧ n ≤ 1000) (sep : List UInt8) : byt (intP n sep) = (itoaS n).data.toList ++ sep := by
  rw [itoa_l h]
  unfold intP
  by_cases h0 : n < 0
  · rw [if_pos h0, if_pos h0]; simp [byt]
  · rw [if_neg h0, if_neg h0]; simp [byt]
theorem byt_tail (xs : List (List Pc)) (sep : List UInt8) : byt (tailP xs sep) = (xs.flatMap fun x => [44, 32] ++ byt x) ++ (93 :: sep) := by
  unfold tailP
  rw [byt_app]
  congr 1
  · induction xs with
    | nil => rfl
    | cons x r ih => rw [List.flatMap_cons, List.flatMap_cons, byt_app, ih, byt_cons]; simp
  · simp [byt]
theorem join_flat (x : List UInt8) (sep : List UInt8) : ∀ r : List (List UInt8), Lib.join (x :: r) sep = x ++ r.flatMap fun y => sep ++ y := by
  intro r
  induction r generalizing x with
  | nil => simp [Lib.join]
  | cons y r ih =>
    have e : Lib.join (x :: y :: r) sep = x ++ sep ++ Lib.join (y :: r) sep := by simp [Lib.join, List.intercalate]
    rw [e, ih, List.flatMap_cons]; simp [List.append_assoc]
theorem byt_br {α : Type} {f : α → List Pc} {g : α → ByteArray} {sep : List UInt8} : ∀ {xs : List α}, (∀ x ∈ xs, byt (f x) = (g x).data.toList) → byt (brP' (xs.map f) sep) = (brS (xs.map g)).data.toList ++ sep
  | [], _ => by simp [brP', byt, brS, Lib.join]; 
  | x :: r, h => by
    rw [List.map_cons, List.map_cons]
    show byt (⟨3, [91], []⟩ :: (f x ++ tailP (r.map f) sep)) = _
    rw [byt_cons, byt_app, byt_tail, h x List.mem_cons_self]
    unfold brS
    rw [List.map_cons, join_flat]
    have e : (r.map f).flatMap (fun x => [44, 32] ++ byt x) = ((r.map g).map fun x => x.data.toList).flatMap fun y => [44, 32] ++ y := by
      have h' : ∀ y ∈ r, byt (f y) = (g y).data.toList := fun y hy => h y (List.mem_cons_of_mem _ hy)
      clear h
      induction r with
      | nil => rfl
      | cons y r ih => simp only [List.map_cons, List.flatMap_cons]; rw [h' y List.mem_cons_self, ih fun z hz => h' z (List.mem_cons_of_mem _ hz)]
    rw [e]
    simp [List.append_assoc]
theorem byt_nm (s : ByteArray) (sep : List UInt8) (r : List Pc) : byt (nmP s sep :: r) = s.data.toList ++ (sep ++ byt r) := byt_cons _ _
theorem byt_lit {vs : List VarD} {x : LitD} (h : -1000 ≤ x.n ∧ x.n ≤ 1000) (sep : List UInt8) : byt (litPc vs x sep) = (litS vs x).data.toList ++ sep := by
  unfold litPc litS
  rw [byt_nm, byt_cons, byt_int h]
  simp [List.append_assoc]
theorem byt_nums {l : List Int} (h : ∀ n ∈ l, -1000 ≤ n ∧ n ≤ 1000) (sep : List UInt8) : byt (numsP l sep) = (numsS l).data.toList ++ sep :=
  byt_br fun n hn => by rw [byt_int (h n hn), List.append_nil]
theorem byt_names (vs : List VarD) (l : List Int) (sep : List UInt8) : byt (namesP vs l sep) = (namesS vs l).data.toList ++ sep :=
  byt_br fun n hn => by rw [byt_nm]; simp [byt]
theorem byt_con {vs : List VarD} {c : ConD} (h : RightC c vs.length) : byt (conPc vs c) = (conS vs c).data.toList := by
  unfold conPc conS
  rw [byt_nm]
  have hf := form_len h
  have hz : byt [] = [] := rfl
  rcases kind_cases h with hk | hk | hk | hk | hk | hk | hk | hk | hk | hk
  · simp only [hk]; simp [byt_app, byt_nums h.consts, byt_names, byt_int h.n]
  · simp only [hk]; simp [byt_app, byt_nums h.consts, byt_names, byt_int h.n]
  · simp only [hk]; simp [byt_app, byt_nums h.consts, byt_names, byt_int h.n]
  · simp only [hk]; simp [byt_names]
  · simp only [hk]; simp [byt_app, byt_nums h.consts, byt_nm, hz]
  · have e : byt (brP' (c.rows.map fun r => numsP r []) []) = (brS (c.rows.map numsS)).data.toList := by
      rw [byt_br (g := numsS) fun r hr => by rw [byt_nums (h.rows r hr), List.append_nil], List.append_nil]
    simp only [hk]; simp [byt_app, byt_names, e]
  · simp only [hk]; simp [byt_nm, hz]
  · simp only [hk]; simp [byt_nm, byt_names]
  · have e : byt (brP' (c.lits.map fun x => litPc vs x []) []) = (brS (c.lits.map (litS vs))).data.toList := by
      rw [byt_br (g := litS vs) fun r hr => by rw [byt_lit (litE_n (h.lits r hr)).2.2, List.append_nil], List.append_nil]
    simp only [hk]; simp [e]
  · have hl := hf.2.2.2.1 hk
    have e := byt_lit (vs := vs) (litE_n (h.lits _ (getL_mem (i := 0) (by omega)))).2.2 []
    rw [List.append_nil] at e
    generalize at' .lit c.lits 0 = x at e ⊢
    simp only [hk]; simp [byt_nm, e]
theorem byt_flat {α : Type} {f : α → List Pc} {g : α → List UInt8} : ∀ {xs : List α}, (∀ x ∈ xs, byt (f x) = g x) → byt (xs.flatMap f) = xs.flatMap g
  | [], _ => rfl
  | x :: r, h => by rw [List.flatMap_cons, List.flatMap_cons, byt_app, h x List.mem_cons_self, byt_flat fun y hy => h y (List.mem_cons_of_mem _ hy)]
theorem byt_mdl {m : MdlD} (h : PrOk m) : byt (mdlPc m) = printL m := by
  unfold mdlPc printL
  rw [byt_app, byt_app, List.append_assoc]
  congr 1
  · exact byt_flat fun v hv => by
      have hr := h.right.var v hv
      unfold varPc varS
      rw [byt_cons, byt_nm, byt_cons, byt_app, byt_int (by omega), byt_cons, byt_app, byt_int (by omega)]
      simp [byt]
  · congr 1
    · exact byt_flat fun c hc => by
        unfold conTc conTx
        rw [byt_cons, byt_app, byt_con (h.cons c hc)]
        simp [byt]
    · unfold goalPc goalT
      split
      · rfl
      · split
        · simp [byt, nmP]
        · simp [byt, nmP]
end Go.Proofs.YtogdmcebojiojaaGreatDoor
