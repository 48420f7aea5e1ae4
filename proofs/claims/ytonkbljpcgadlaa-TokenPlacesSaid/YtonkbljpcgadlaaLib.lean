/- Reading Go values out of a world as Lean data: ints, strings, slices of any such, structs of one-cell fields; what a call built by append; small laws on worlds. -/
import Derived.WalkKit
import Derived.Lib.Hide
import Derived.WalkLawsBesides
import Derived.WalkSpells
import Derived.Deep.QuietTactic
import Derived.BigQuiet
import Derived.Deep.RegionWith
import Derived.Deep.RegionLaw
import Derived.StillTailTactics
import Derived.Handy
import Derived.Deep.LoopGhost
import Derived.Deep.DeepFit
import Derived.Deep.DeepMust
import Derived.Shelf.Abstract
namespace Go.Proofs.Ytonkbljpcgadlaa
open Go.RowKit
set_option linter.unusedVariables false

/-! ### Reading -/

/-- A Lean type that a row of cells can be read as. 'S': the blocks that the reading may go through. -/
class Rep (α : Type) where
  size : Nat
  bytes : Nat
  rd : World → (Nat → Prop) → List Value → α → Prop
  len : ∀ {w : World} {S : Nat → Prop} {cs : List Value} {x : α}, rd w S cs x → cs.length = size
  one : ∀ {w : World} {S : Nat → Prop} {cs : List Value} {x : α}, rd w S cs x → ∀ u ∈ cs, u.oneCell' = true
  mono : ∀ {w w' : World} {S S' : Nat → Prop} {cs : List Value} {x : α}, rd w S cs x → (∀ b, S b → w'.heap[b]? = w.heap[b]?) → (∀ b, S b → S' b) → rd w' S' cs x
  pos : 0 < size

/-- The value that cells make: one cell stands for itself, more are an aggregate. -/
def vOf : List Value → Value
  | [v] => v
  | cs => .agg cs.toArray

def RdC {α : Type} [Rep α] (w : World) (S : Nat → Prop) (cs : List Value) (x : α) : Prop := Rep.rd w S cs x
def RdV {α : Type} [Rep α] (w : World) (S : Nat → Prop) (v : Value) (x : α) : Prop := ∃ cs, v = vOf cs ∧ Rep.rd w S cs x
/-- Reads as x, somewhere in w. -/
def Rds {α : Type} [Rep α] (w : World) (v : Value) (x : α) : Prop := RdV w (fun b => b < w.heap.size) v x

def inI64 (n : Int) : Prop := -9223372036854775808 ≤ n ∧ n ≤ 9223372036854775807

instance Rep.int : Rep Int where
  size := 1
  bytes := 8
  rd _ _ cs x := cs = [.int .i64 x] ∧ inI64 x
  len := fun h => by rw [h.1]; rfl
  one := fun h u hu => by rw [h.1] at hu; simp at hu; subst hu; rfl
  mono := fun h _ _ => h
  pos := by decide

instance Rep.str : Rep ByteArray where
  size := 1
  bytes := 16
  rd _ _ cs x := cs = [.string x] ∧ x.size ≤ 140737488355328
  len := fun h => by rw [h.1]; rfl
  one := fun h u hu => by rw [h.1] at hu; simp at hu; subst hu; rfl
  mono := fun h _ _ => h
  pos := by decide

instance Rep.list {α : Type} [Rep α] : Rep (List α) where
  size := 1
  bytes := 24
  rd w S cs xs := ∃ A c, cs = [.slice A xs.length c] ∧ xs.length * Rep.bytes α ≤ 140737488355328 ∧ xs.length ≤ c ∧ c ≤ 9223372036854775807 ∧
    (A = none → c = 0) ∧ (0 < xs.length → ∃ b o, A = some ⟨b, o, none⟩ ∧ S b ∧ ∀ i x, xs[i]? = some x → ∃ cs, Rep.rd w S cs x ∧ ∀ j u, cs[j]? = some u → w.cell? ⟨b, o + i * Rep.size α + j, none⟩ = some u)
  len := fun ⟨_, _, h, _⟩ => by rw [h]; rfl
  one := fun ⟨_, _, h, _⟩ u hu => by rw [h] at hu; simp at hu; subst hu; rfl
  mono := fun {w w' S S' cs xs} ⟨A, c, h, h0, h1, h2, h3, h4⟩ hk hS => ⟨A, c, h, h0, h1, h2, h3, fun hn => by
    obtain ⟨b, o, e, hb, hc⟩ := h4 hn
    refine ⟨b, o, e, hS b hb, fun i x hx => ?_⟩
    obtain ⟨cs, hr, hcell⟩ := hc i x hx
    exact ⟨cs, Rep.mono hr hk hS, fun j u hu => (World.cell?_of_block (hk b hb)).trans (hcell j u hu)⟩⟩
  pos := by decide

section
variable {α : Type} [Rep α] {w w' : World} {S S' : Nat → Prop} {v : Value} {x : α}
theorem RdC.mono {cs : List Value} (h : RdC w S cs x) (hk : ∀ b, S b → w'.heap[b]? = w.heap[b]?) (hS : ∀ b, S b → S' b) : RdC w' S' cs x := Rep.mono (α := α) h hk hS
theorem RdV.mono (h : RdV w S v x) (hk : ∀ b, S b → w'.heap[b]? = w.heap[b]?) (hS : ∀ b, S b → S' b) : RdV w' S' v x :=
  let ⟨cs, e, hr⟩ := h
  ⟨cs, e, Rep.mono hr hk hS⟩
theorem Rds.below (h : Rds w v x) (hb : Below w.heap.size w w') : Rds w' v x := RdV.mono h (fun b hb' => hb.block b hb') (fun b hb' => Nat.lt_of_lt_of_le hb' hb.size)
theorem RdV.rds (h : RdV w S v x) (hS : ∀ b, S b → b < w.heap.size) : Rds w v x := RdV.mono h (fun _ _ => rfl) hS
theorem RdC.val {cs : List Value} (h : RdC w S cs x) : RdV w S (vOf cs) x := ⟨cs, rfl, h⟩
end

/-- A fresh result: through blocks from B on alone. -/
def Fresh {α : Type} [Rep α] (w : World) (B : Nat) (v : Value) (x : α) : Prop := RdV w (fun b => B ≤ b ∧ b < w.heap.size) v x
section
variable {α : Type} [Rep α] {w w' : World} {B B' : Nat} {v : Value} {x : α}
theorem Fresh.rds (h : Fresh w B v x) : Rds w v x := RdV.rds h fun _ hb => hb.2
theorem Fresh.below (h : Fresh w B v x) (hb : Below w.heap.size w w') : Fresh w' B v x :=
  RdV.mono h (fun b hb' => hb.block b hb'.2) (fun b hb' => ⟨hb'.1, Nat.lt_of_lt_of_le hb'.2 hb.size⟩)
theorem Fresh.more (h : Fresh w B v x) (hB : B' ≤ B) : Fresh w B' v x :=
  RdV.mono h (fun _ _ => rfl) (fun b hb' => ⟨Nat.le_trans hB hb'.1, hb'.2⟩)
end

/-! ### Shapes of values -/
section
variable {w : World} {S : Nat → Prop} {v : Value}
theorem rdV_int {x : Int} (h : RdV w S v x) : v = .int .i64 x ∧ inI64 x := by
  obtain ⟨cs, rfl, rfl, h2⟩ := h
  exact ⟨rfl, h2⟩
theorem rdV_int_mk {x : Int} (h : inI64 x) : RdV w S (.int .i64 x) x := ⟨[_], rfl, rfl, h⟩
theorem rdV_str {x : ByteArray} (h : RdV w S v x) : v = .string x ∧ x.size ≤ 140737488355328 := by
  obtain ⟨cs, rfl, rfl, h2⟩ := h
  exact ⟨rfl, h2⟩
theorem rdV_str_mk {x : ByteArray} (h : x.size ≤ 140737488355328) : RdV w S (.string x) x := ⟨[_], rfl, rfl, h⟩

/-- A slice's facts, all but the cells. -/
structure SlOk {α : Type} [Rep α] (A : Option Addr) (c : Nat) (xs : List α) : Prop where
  bytes : xs.length * Rep.bytes α ≤ 140737488355328
  cap : xs.length ≤ c
  max : c ≤ 9223372036854775807
  none_ : A = none → c = 0

theorem rdV_list {α : Type} [Rep α] {xs : List α} (h : RdV w S v xs) : ∃ A c, v = .slice A xs.length c ∧ SlOk A c xs := by
  obtain ⟨cs, rfl, A, c, rfl, h0, h1, h2, h3, _⟩ := h
  exact ⟨A, c, rfl, h0, h1, h2, h3⟩
/-- The element at i: where it lies, and what its cells read as. -/
theorem rdV_at {α : Type} [Rep α] {xs : List α} {A : Option Addr} {n c : Nat} (h : RdV w S (.slice A n c) xs) {i : Nat} (hi : i < xs.length) :
    ∃ b o cs, A = some ⟨b, o, none⟩ ∧ S b ∧ RdC w S cs xs[i] ∧ ∀ j u, cs[j]? = some u → w.cell? ⟨b, o + i * Rep.size α + j, none⟩ = some u := by
  obtain ⟨cs, e, A', c', rfl, h0, h1, h2, h3, h4⟩ := h
  simp only [vOf, Value.slice.injEq] at e
  obtain ⟨rfl, rfl, rfl⟩ := e
  obtain ⟨b, o, rfl, hb, hc⟩ := h4 (by omega)
  obtain ⟨cs, hr, hcell⟩ := hc i xs[i] (List.getElem?_eq_getElem hi)
  exact ⟨b, o, cs, rfl, hb, hr, hcell⟩
/-- An element as a value. -/
theorem rdV_elem {α : Type} [Rep α] {xs : List α} {A : Option Addr} {n c : Nat} (h : RdV w S (.slice A n c) xs) {i : Nat} (hi : i < xs.length) : ∃ v, RdV w S v xs[i] := by
  obtain ⟨b, o, cs, _, _, hr, _⟩ := rdV_at h hi
  exact ⟨_, hr.val⟩
theorem rdV_at_int {xs : List Int} {A : Option Addr} {n c : Nat} (h : RdV w S (.slice A n c) xs) {i : Nat} (hi : i < xs.length) :
    ∃ b o, A = some ⟨b, o, none⟩ ∧ S b ∧ w.cell? ⟨b, o + i, none⟩ = some (.int .i64 xs[i]) ∧ inI64 xs[i] := by
  obtain ⟨b, o, cs, rfl, hb, ⟨rfl, hr⟩, hc⟩ := rdV_at h hi
  exact ⟨b, o, rfl, hb, by simpa [Rep.size] using hc 0 _ rfl, hr⟩
theorem rdV_at_str {xs : List ByteArray} {A : Option Addr} {n c : Nat} (h : RdV w S (.slice A n c) xs) {i : Nat} (hi : i < xs.length) :
    ∃ b o, A = some ⟨b, o, none⟩ ∧ S b ∧ w.cell? ⟨b, o + i, none⟩ = some (.string xs[i]) ∧ xs[i].size ≤ 140737488355328 := by
  obtain ⟨b, o, cs, rfl, hb, ⟨rfl, hr⟩, hc⟩ := rdV_at h hi
  exact ⟨b, o, rfl, hb, by simpa [Rep.size] using hc 0 _ rfl, hr⟩
/-- An element that is itself a slice. -/
theorem rdV_at_list {α : Type} [Rep α] {xs : List (List α)} {A : Option Addr} {n c : Nat} (h : RdV w S (.slice A n c) xs) {i : Nat} (hi : i < xs.length) :
    ∃ b o A' c', A = some ⟨b, o, none⟩ ∧ S b ∧ w.cell? ⟨b, o + i, none⟩ = some (.slice A' xs[i].length c') ∧ RdV w S (.slice A' xs[i].length c') xs[i] ∧ SlOk A' c' xs[i] := by
  obtain ⟨b, o, cs, rfl, hb, hr, hc⟩ := rdV_at h hi
  have hr' := hr
  obtain ⟨A', c', rfl, h0, h1, h2, h3, _⟩ := hr
  exact ⟨b, o, A', c', rfl, hb, by simpa [Rep.size] using hc 0 _ rfl, ⟨_, rfl, hr'⟩, h0, h1, h2, h3⟩
end

/-! ### Structs of one-cell fields -/
/-- A token, as data. -/
structure Tok where
  kind : Int
  at_ : Int
  text : ByteArray
  deriving DecidableEq
instance Rep.tok : Rep Tok where
  size := 3
  bytes := 32
  rd _ _ cs x := cs = [.int .i64 x.kind, .int .i64 x.at_, .string x.text] ∧ inI64 x.kind ∧ inI64 x.at_ ∧ x.text.size ≤ 140737488355328
  len := fun h => by rw [h.1]; rfl
  one := fun h u hu => by rw [h.1] at hu; simp at hu; rcases hu with rfl | rfl | rfl <;> rfl
  mono := fun h _ _ => h
  pos := by decide
/-- A literal, as data. -/
structure LitD where
  var : Int
  op : Int
  n : Int
  deriving DecidableEq
instance Rep.lit : Rep LitD where
  size := 3
  bytes := 24
  rd _ _ cs x := cs = [.int .i64 x.var, .int .i64 x.op, .int .i64 x.n] ∧ inI64 x.var ∧ inI64 x.op ∧ inI64 x.n
  len := fun h => by rw [h.1]; rfl
  one := fun h u hu => by rw [h.1] at hu; simp at hu; rcases hu with rfl | rfl | rfl <;> rfl
  mono := fun h _ _ => h
  pos := by decide
/-- A variable. -/
structure VarD where
  name : ByteArray
  lo : Int
  hi : Int
  deriving DecidableEq
instance Rep.var : Rep VarD where
  size := 3
  bytes := 32
  rd _ _ cs x := cs = [.string x.name, .int .i64 x.lo, .int .i64 x.hi] ∧ x.name.size ≤ 140737488355328 ∧ inI64 x.lo ∧ inI64 x.hi
  len := fun h => by rw [h.1]; rfl
  one := fun h u hu => by rw [h.1] at hu; simp at hu; rcases hu with rfl | rfl | rfl <;> rfl
  mono := fun h _ _ => h
  pos := by decide
/-- A constraint. -/
structure ConD where
  kind : Int
  vars : List Int
  consts : List Int
  n : Int
  rows : List (List Int)
  lits : List LitD
  deriving DecidableEq
instance Rep.con : Rep ConD where
  size := 6
  bytes := 112
  rd w S cs x := ∃ v1 v2 v3 v4, cs = [.int .i64 x.kind, v1, v2, .int .i64 x.n, v3, v4] ∧ inI64 x.kind ∧ inI64 x.n ∧
    RdC w S [v1] x.vars ∧ RdC w S [v2] x.consts ∧ RdC w S [v3] x.rows ∧ RdC w S [v4] x.lits
  len := fun ⟨_, _, _, _, h, _⟩ => by rw [h]; rfl
  one := fun ⟨_, _, _, _, h, _, _, h1, h2, h3, h4⟩ u hu => by
    rw [h] at hu; simp at hu
    rcases hu with rfl | rfl | rfl | rfl | rfl | rfl
    · rfl
    · exact Rep.one h1 _ (by simp)
    · exact Rep.one h2 _ (by simp)
    · rfl
    · exact Rep.one h3 _ (by simp)
    · exact Rep.one h4 _ (by simp)
  mono := fun ⟨v1, v2, v3, v4, h, a, b, h1, h2, h3, h4⟩ hk hS => ⟨v1, v2, v3, v4, h, a, b, h1.mono hk hS, h2.mono hk hS, h3.mono hk hS, h4.mono hk hS⟩
  pos := by decide
/-- A model. -/
structure MdlD where
  vars : List VarD
  cons : List ConD
  goal : Int
  var : Int
  deriving DecidableEq
instance Rep.mdl : Rep MdlD where
  size := 4
  bytes := 64
  rd w S cs x := ∃ v1 v2, cs = [v1, v2, .int .i64 x.goal, .int .i64 x.var] ∧ inI64 x.goal ∧ inI64 x.var ∧ RdC w S [v1] x.vars ∧ RdC w S [v2] x.cons
  len := fun ⟨_, _, h, _⟩ => by rw [h]; rfl
  one := fun ⟨_, _, h, _, _, h1, h2⟩ u hu => by
    rw [h] at hu; simp at hu
    rcases hu with rfl | rfl | rfl | rfl
    · exact Rep.one h1 _ (by simp)
    · exact Rep.one h2 _ (by simp)
    · rfl
    · rfl
  mono := fun ⟨v1, v2, h, a, b, h1, h2⟩ hk hS => ⟨v1, v2, h, a, b, h1.mono hk hS, h2.mono hk hS⟩
  pos := by decide

section
variable {w : World} {S : Nat → Prop} {v : Value}
theorem rdV_tok {x : Tok} (h : RdV w S v x) : v = .agg #[.int .i64 x.kind, .int .i64 x.at_, .string x.text] ∧ inI64 x.kind ∧ inI64 x.at_ ∧ x.text.size ≤ 140737488355328 := by
  obtain ⟨cs, rfl, rfl, h2⟩ := h
  exact ⟨rfl, h2⟩
theorem rdV_lit {x : LitD} (h : RdV w S v x) : v = .agg #[.int .i64 x.var, .int .i64 x.op, .int .i64 x.n] ∧ inI64 x.var ∧ inI64 x.op ∧ inI64 x.n := by
  obtain ⟨cs, rfl, rfl, h2⟩ := h
  exact ⟨rfl, h2⟩
theorem rdV_var {x : VarD} (h : RdV w S v x) : v = .agg #[.string x.name, .int .i64 x.lo, .int .i64 x.hi] ∧ x.name.size ≤ 140737488355328 ∧ inI64 x.lo ∧ inI64 x.hi := by
  obtain ⟨cs, rfl, rfl, h2⟩ := h
  exact ⟨rfl, h2⟩
theorem rdC_list {α : Type} [Rep α] {xs : List α} (h : RdC w S [v] xs) : ∃ A c, v = .slice A xs.length c ∧ SlOk A c xs ∧ RdV w S (.slice A xs.length c) xs := by
  obtain ⟨A, c, e, h0, h1, h2, h3, h4⟩ := h
  simp only [List.cons.injEq, and_true] at e
  subst e
  exact ⟨A, c, rfl, ⟨h0, h1, h2, h3⟩, [_], rfl, A, c, rfl, h0, h1, h2, h3, h4⟩
theorem rdC_list_mk {α : Type} [Rep α] {xs : List α} (h : RdV w S v xs) : RdC w S [v] xs := by
  obtain ⟨cs, rfl, A, c, rfl, h'⟩ := h
  exact ⟨A, c, rfl, h'⟩
theorem rdV_con {x : ConD} (h : RdV w S v x) : ∃ A1 c1 A2 c2 A3 c3 A4 c4,
    v = .agg #[.int .i64 x.kind, .slice A1 x.vars.length c1, .slice A2 x.consts.length c2, .int .i64 x.n, .slice A3 x.rows.length c3, .slice A4 x.lits.length c4] ∧
      inI64 x.kind ∧ inI64 x.n ∧ RdV w S (.slice A1 x.vars.length c1) x.vars ∧ RdV w S (.slice A2 x.consts.length c2) x.consts ∧ RdV w S (.slice A3 x.rows.length c3) x.rows ∧ RdV w S (.slice A4 x.lits.length c4) x.lits ∧
      SlOk A1 c1 x.vars ∧ SlOk A2 c2 x.consts ∧ SlOk A3 c3 x.rows ∧ SlOk A4 c4 x.lits := by
  obtain ⟨cs, rfl, v1, v2, v3, v4, rfl, a, b, h1, h2, h3, h4⟩ := h
  obtain ⟨A1, c1, rfl, s1, r1⟩ := rdC_list h1
  obtain ⟨A2, c2, rfl, s2, r2⟩ := rdC_list h2
  obtain ⟨A3, c3, rfl, s3, r3⟩ := rdC_list h3
  obtain ⟨A4, c4, rfl, s4, r4⟩ := rdC_list h4
  exact ⟨A1, c1, A2, c2, A3, c3, A4, c4, rfl, a, b, r1, r2, r3, r4, s1, s2, s3, s4⟩
theorem rdV_mdl {x : MdlD} (h : RdV w S v x) : ∃ A1 c1 A2 c2, v = .agg #[.slice A1 x.vars.length c1, .slice A2 x.cons.length c2, .int .i64 x.goal, .int .i64 x.var] ∧
      inI64 x.goal ∧ inI64 x.var ∧ RdV w S (.slice A1 x.vars.length c1) x.vars ∧ RdV w S (.slice A2 x.cons.length c2) x.cons ∧ SlOk A1 c1 x.vars ∧ SlOk A2 c2 x.cons := by
  obtain ⟨cs, rfl, v1, v2, rfl, a, b, h1, h2⟩ := h
  obtain ⟨A1, c1, rfl, s1, r1⟩ := rdC_list h1
  obtain ⟨A2, c2, rfl, s2, r2⟩ := rdC_list h2
  exact ⟨A1, c1, A2, c2, rfl, a, b, r1, r2, s1, s2⟩
/-- A token in a slice: its three cells. -/
theorem rdV_at_tok {xs : List Tok} {A : Option Addr} {n c : Nat} (h : RdV w S (.slice A n c) xs) {i : Nat} (hi : i < xs.length) :
    ∃ b o, A = some ⟨b, o, none⟩ ∧ S b ∧ w.cell? ⟨b, o + i * 3, none⟩ = some (.int .i64 xs[i].kind) ∧ w.cell? ⟨b, o + i * 3 + 1, none⟩ = some (.int .i64 xs[i].at_) ∧ w.cell? ⟨b, o + i * 3 + 2, none⟩ = some (.string xs[i].text) ∧
      inI64 xs[i].kind ∧ inI64 xs[i].at_ ∧ xs[i].text.size ≤ 140737488355328 := by
  obtain ⟨b, o, cs, rfl, hb, ⟨rfl, hr⟩, hc⟩ := rdV_at h hi
  exact ⟨b, o, rfl, hb, by simpa [Rep.size] using hc 0 _ rfl, by simpa [Rep.size] using hc 1 _ rfl, by simpa [Rep.size] using hc 2 _ rfl, hr⟩
theorem rdV_at_lit {xs : List LitD} {A : Option Addr} {n c : Nat} (h : RdV w S (.slice A n c) xs) {i : Nat} (hi : i < xs.length) :
    ∃ b o, A = some ⟨b, o, none⟩ ∧ S b ∧ w.cell? ⟨b, o + i * 3, none⟩ = some (.int .i64 xs[i].var) ∧ w.cell? ⟨b, o + i * 3 + 1, none⟩ = some (.int .i64 xs[i].op) ∧ w.cell? ⟨b, o + i * 3 + 2, none⟩ = some (.int .i64 xs[i].n) ∧
      inI64 xs[i].var ∧ inI64 xs[i].op ∧ inI64 xs[i].n := by
  obtain ⟨b, o, cs, rfl, hb, ⟨rfl, hr⟩, hc⟩ := rdV_at h hi
  exact ⟨b, o, rfl, hb, by simpa [Rep.size] using hc 0 _ rfl, by simpa [Rep.size] using hc 1 _ rfl, by simpa [Rep.size] using hc 2 _ rfl, hr⟩
theorem rdV_at_var {xs : List VarD} {A : Option Addr} {n c : Nat} (h : RdV w S (.slice A n c) xs) {i : Nat} (hi : i < xs.length) :
    ∃ b o, A = some ⟨b, o, none⟩ ∧ S b ∧ w.cell? ⟨b, o + i * 3, none⟩ = some (.string xs[i].name) ∧ w.cell? ⟨b, o + i * 3 + 1, none⟩ = some (.int .i64 xs[i].lo) ∧ w.cell? ⟨b, o + i * 3 + 2, none⟩ = some (.int .i64 xs[i].hi) ∧
      xs[i].name.size ≤ 140737488355328 ∧ inI64 xs[i].lo ∧ inI64 xs[i].hi := by
  obtain ⟨b, o, cs, rfl, hb, ⟨rfl, hr⟩, hc⟩ := rdV_at h hi
  exact ⟨b, o, rfl, hb, by simpa [Rep.size] using hc 0 _ rfl, by simpa [Rep.size] using hc 1 _ rfl, by simpa [Rep.size] using hc 2 _ rfl, hr⟩
end

/-! ### Blocks and frames -/
/-- Block g holds the cells cs of type t, none frozen. -/
def Blk (w : World) (g : Nat) (t : TypeId) (cs : Array Value) : Prop := w.heap[g]? = some (.cells cs t (0, 0))
section
variable {w w' : World} {g : Nat} {t : TypeId} {cs : Array Value}
theorem Blk.lt (h : Blk w g t cs) : g < w.heap.size := by
  rcases Nat.lt_or_ge g w.heap.size with hlt | hge
  · exact hlt
  · unfold Blk at h; rw [Array.getElem?_eq_none hge] at h; cases h
theorem Blk.cell (h : Blk w g t cs) (i : Nat) : w.cell? ⟨g, i, none⟩ = cs[i]? := cell_of_row w g i cs t (0, 0) h
theorem Blk.frozen (h : Blk w g t cs) (i : Nat) : w.frozen? ⟨g, i, none⟩ = false := by
  unfold Blk at h
  simp [World.frozen?, h]
theorem Blk.new (w : World) (t : TypeId) (cs : Array Value) : Blk (w.alloc (.cells cs t)) w.heap.size t cs := heap_alloc_new w _
theorem Blk.drew (h : Blk w g t cs) : Blk w.drew g t cs := h
theorem Blk.drewN (h : Blk w g t cs) (n : Nat) : Blk (w.drewN n) g t cs := h
theorem Blk.alloc (h : Blk w g t cs) (o : Obj) : Blk (w.alloc o) g t cs := (Below.heap_alloc w o g h.lt).trans h
theorem Blk.set_ (h : Blk w g t cs) (i : Nat) (u : Value) : Blk (w.setCell ⟨g, i, none⟩ u) g t (cs.setIfInBounds i u) := by
  unfold Blk at h ⊢
  simp [World.setCell, Array.getElem?_modify, h]
theorem Blk.far (h : Blk w g t cs) {p : Addr} (hp : g ≠ p.block) (u : Value) : Blk (w.setCell p u) g t cs := (Below.heap_setCell w p u g hp).trans h
theorem Blk.below {B : Nat} (h : Blk w g t cs) (hb : Below B w w') (hg : g < B) : Blk w' g t cs := (hb.block g hg).trans h
theorem Blk.grown {row : Option Nat} (h : Blk w g t cs) (hb : w.grownBy w' row) (hg : some g ≠ row) : Blk w' g t cs := (hb.block g h.lt hg).trans h
end

section
variable {a b w w' : World} {row : Option Nat} {B : Nat}
theorem below_drewN (h : Below B a w) (n : Nat) : Below B a (w.drewN n) := ⟨h.os, h.tape, h.output, h.size, h.block⟩
theorem bstep (h : Below a.heap.size a w) (k : Below w.heap.size w w') : Below a.heap.size a w' := h.trans (k.mono h.size)
theorem only_trans (h : a.grownBy b row) (k : b.grownBy w row) : a.grownBy w row :=
  ⟨k.os.trans h.os, k.tape.trans h.tape, k.output.trans h.output, Nat.le_trans h.size k.size, fun i hi hne => (k.block i (Nat.lt_of_lt_of_le hi h.size) hne).trans (h.block i hi hne)⟩
theorem only_drewN (h : a.grownBy w row) (n : Nat) : a.grownBy (w.drewN n) row := ⟨h.os, h.tape, h.output, h.size, h.block⟩
theorem only_drew (h : a.grownBy w row) : a.grownBy w.drew row := ⟨h.os, h.tape, h.output, h.size, h.block⟩
theorem only_alloc (h : a.grownBy w row) (o : Obj) : a.grownBy (w.alloc o) row :=
  ⟨h.os, h.tape, h.output, Nat.le_trans h.size (by simp), fun i hi hne => (Below.heap_alloc w o i (Nat.lt_of_lt_of_le hi h.size)).trans (h.block i hi hne)⟩
theorem only_setCell {g : Nat} (h : a.grownBy w (some g)) {p : Addr} (hp : p.block = g ∨ a.heap.size ≤ p.block) (u : Value) : a.grownBy (w.setCell p u) (some g) :=
  ⟨h.os, h.tape, h.output, by simpa [World.setCell] using h.size, fun i hi hne => (Below.heap_setCell w p u i (by
    rintro rfl
    rcases hp with hp | hp
    · exact hne (by rw [hp])
    · omega)).trans (h.block i hi hne)⟩
theorem only_of_below (h : Below a.heap.size a w) (row : Option Nat) : a.grownBy w row := ⟨h.os, h.tape, h.output, h.size, fun i hi _ => h.block i hi⟩
/-- Only block g has turned, and g is new: nothing old has. -/
theorem below_of_only {g : Nat} (h : a.grownBy w (some g)) (hB : B ≤ g) (hs : B ≤ a.heap.size) : Below B a w := ⟨h.os, h.tape, h.output, h.size, fun i hi => h.block i (by omega) (fun e => by injection e with e; omega)⟩
end

theorem ret_bool {a b : Bool} (h : a = b) : Ending.returned (.bool a) = .returned (.bool b) := by rw [h]
theorem ret_int {k : IntKind} {a b : Int} (h : a = b) : Ending.returned (.int k a) = .returned (.int k b) := by rw [h]

/-- The cells of a list of bytes, one by one. -/
theorem data_drop (s : ByteArray) (i : Nat) (h : i < s.size) : s.data.toList.drop i = s[i] :: s.data.toList.drop (i + 1) := by
  rw [List.drop_eq_getElem_cons (by simpa using h)]; rfl
theorem data_len (s : ByteArray) : s.data.toList.length = s.size := by simp

/-! ### Quiet calls -/
theorem quiet_left {P : Program} {f : FuncId} {args : Array Value} {w : World} {n : Nat} {v : Value}
    (h : Calls P f args (w.drewN n) fun e w' => e = .returned v ∧ w.drewN n = w') : Calls P f args (w.drewN n) fun e w' => e = .returned v ∧ ∃ m, w' = w.drewN m :=
  h.mono fun _ _ ⟨he, hm⟩ => ⟨he, n, hm.symm⟩
theorem quiet_add_left {P : Program} {f : FuncId} {args : Array Value} {w : World} {a n : Nat} {v : Value}
    (h : Calls P f args (w.drewN (a + n)) fun e w' => e = .returned v ∧ w.drewN (a + n) = w') :
    Calls P f args (w.drewN (a + n)) fun e w'' => e = .returned v ∧ ∃ m, w'' = w.drewN (a + m) :=
  h.mono fun _ _ ⟨he, hm⟩ => ⟨he, n, hm.symm⟩
end Go.Proofs.Ytonkbljpcgadlaa
