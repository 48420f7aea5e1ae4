/- Texts of this proof, one behind the other: nothing is handed in but what is proved here; no condition. -/
import Derived.Test.YtajnbkhgnppckaaGreatDoorWSlices
import Derived.Test.YtajnbkhgnppckaaGreatDoorMD
import Derived.Test.YtajnbkhgnppckaaGreatDoorWModel
import Derived.Test.YtajnbkhgnppckaaGreatDoorMC
import Derived.Test.YtajnbkhgnppckaaGreatDoorWCordonref
/- What is sought in a slice: contracts printed by a program. -/
namespace Go.Proofs.YtajnbkhgnppckaaGreatDoor
open Go.RowKit
set_option linter.unusedVariables false
set_option maxRecDepth 100000
theorem z3s {xs : List Int} {g : FuncId} {rs : Option (List Ty)} {cap : List D} {p : Int → Bool} (he : Ent Tryz.prog g) (hp : ∀ x ∈ xs, Sat Tryz.prog g (dI x :: cap) (.bool (p x))) : Sat Tryz.prog zNe [.sl .int xs, .clo g rs cap] (.int .i64 (ixI p xs 0)) :=
 Sat.clo (pre := [_]) (zbr _ _ _ fun ok => by
  rw [zar]
  refine seek (t := .int) (p := p) (R := fun d => d = .int .i64 (ixI p xs 0)) (okLen (t := .int) (ok1 ok)) rfl (fun n k h h1 h2 => ?_) fun n hR => ?_
  ·rw [zck, sel_lt h, at_nat h]
   exact ⟨inb_nat h, he, call1 (hp _ (List.getElem_mem h)) (za h1 h2)⟩
  ·rw [zck, sel_end]; exact hR)
theorem z4s {xs : List VarD} {g : FuncId} {rs : Option (List Ty)} {cap : List D} {p : VarD → Bool} (he : Ent Tryz.prog g) (hp : ∀ x ∈ xs, Sat Tryz.prog g (dV x :: cap) (.bool (p x))) : Sat Tryz.prog zRe [.sl .var xs, .clo g rs cap] (.int .i64 (ixI p xs 0)) :=
 Sat.clo (pre := [_]) (zhr _ _ _ fun ok => by
  rw [zgr]
  refine seek (t := .var) (p := p) (R := fun d => d = .int .i64 (ixI p xs 0)) (okLen (t := .var) (ok1 ok)) rfl (fun n k h h1 h2 => ?_) fun n hR => ?_
  ·rw [zhk, sel_lt h, at_nat h]
   exact ⟨inb_nat h, he, call1 (hp _ (List.getElem_mem h)) (za h1 h2)⟩
  ·rw [zhk, sel_end]; exact hR)
theorem z5s {xs : List LitD} {g : FuncId} {rs : Option (List Ty)} {cap : List D} {p : LitD → Bool} (he : Ent Tryz.prog g) (hp : ∀ x ∈ xs, Sat Tryz.prog g (dL x :: cap) (.bool (p x))) : Sat Tryz.prog zTe [.sl .lit xs, .clo g rs cap] (.int .i64 (ixI p xs 0)) :=
 Sat.clo (pre := [_]) (zjr _ _ _ fun ok => by
  rw [zir]
  refine seek (t := .lit) (p := p) (R := fun d => d = .int .i64 (ixI p xs 0)) (okLen (t := .lit) (ok1 ok)) rfl (fun n k h h1 h2 => ?_) fun n hR => ?_
  ·rw [zik, sel_lt h, at_nat h]
   exact ⟨inb_nat h, he, call1 (hp _ (List.getElem_mem h)) (za h1 h2)⟩
  ·rw [zik, sel_end]; exact hR)
theorem z6s {xs : List (List Int)} {g : FuncId} {rs : Option (List Ty)} {cap : List D} {p : (List Int) → Bool} (he : Ent Tryz.prog g) (hp : ∀ x ∈ xs, Sat Tryz.prog g (.sl .int x :: cap) (.bool (p x))) : Sat Tryz.prog zUe [.sl (.list .int) xs, .clo g rs cap] (.int .i64 (ixI p xs 0)) :=
 Sat.clo (pre := [_]) (zlr _ _ _ fun ok => by
  rw [zkr]
  refine seek (t := (.list .int)) (p := p) (R := fun d => d = .int .i64 (ixI p xs 0)) (okLen (t := (.list .int)) (ok1 ok)) rfl (fun n k h h1 h2 => ?_) fun n hR => ?_
  ·rw [zjk, sel_lt h, at_nat h]
   exact ⟨inb_nat h, he, call1 (hp _ (List.getElem_mem h)) (za h1 h2)⟩
  ·rw [zjk, sel_end]; exact hR)
theorem z7s {xs : List (List Int)} {g : FuncId} {rs : Option (List Ty)} {cap : List D} {p : (List Int) → Bool} (he : Ent Tryz.prog g) (hp : ∀ x ∈ xs, Sat Tryz.prog g (.sl .int x :: cap) (.bool (p x))) : Sat Tryz.prog z1e [.sl (.list .int) xs, .clo g rs cap] (.int .i64 (ixI p xs 0)) :=
 Sat.clo (pre := [_]) (zrr _ _ _ fun ok => by
  rw [zqr]
  refine seek (t := (.list .int)) (p := p) (R := fun d => d = .int .i64 (ixI p xs 0)) (okLen (t := (.list .int)) (ok1 ok)) rfl (fun n k h h1 h2 => ?_) fun n hR => ?_
  ·rw [zmk, sel_lt h, at_nat h]
   exact ⟨inb_nat h, he, call1 (hp _ (List.getElem_mem h)) (za h1 h2)⟩
  ·rw [zmk, sel_end]; exact hR)
theorem z3k {xs : List TermD} {g : FuncId} {rs : Option (List Ty)} {cap : List D} {p : TermD → Bool} (he : Ent Tryz.prog g) (hp : ∀ x ∈ xs, Sat Tryz.prog g (.agg [dI x.v, dI x.times] :: cap) (.bool (p x))) : Sat Tryz.prog zid [.sl .term xs, .clo g rs cap] (.int .i64 (ixI p xs 0)) :=
 Sat.clo (pre := [_]) (ztr _ _ _ fun ok => by
  rw [zsr]
  refine seek (t := .term) (p := p) (R := fun d => d = .int .i64 (ixI p xs 0)) (okLen (t := .term) (ok1 ok)) rfl (fun n k h h1 h2 => ?_) fun n hR => ?_
  ·rw [znk, sel_lt h, at_nat h]
   exact ⟨inb_nat h, he, call1 (hp _ (List.getElem_mem h)) (za h1 h2)⟩
  ·rw [znk, sel_end]; exact hR)
theorem z8s {xs : List Int} {a : Int} : Sat Tryz.prog zaf [.sl .int xs, dI a] (.int .i64 (ixI (fun x => decide (a = x)) xs 0)) :=
 zxr _ _ fun ok => by
  rw [zwr]
  refine seek (t := .int) (p := fun x => decide (a = x)) (R := fun d => d = .int .i64 (ixI (fun x => decide (a = x)) xs 0)) (okLen (t := .int) (ok1 ok)) rfl (fun n k h h1 h2 => ?_) fun n hR => ?_
  ·rw [zpk, sel_lt h, at_nat h]
   exact ⟨inb_nat h, za h1 h2⟩
  ·rw [zpk, sel_end]; exact hR
theorem z9s {xs : List LitD} {g : FuncId} {rs : Option (List Ty)} {cap : List D} {p : LitD → Bool} (he : Ent Tryz.prog g) (hp : ∀ x ∈ xs, Sat Tryz.prog g (dL x :: cap) (.bool (p x))) : Sat Tryz.prog zbf [.sl .lit xs, .clo g rs cap] (.int .i64 (ixI p xs 0)) :=
 Sat.clo (pre := [_]) (zzr _ _ _ fun ok => by
  rw [zyr]
  refine seek (t := .lit) (p := p) (R := fun d => d = .int .i64 (ixI p xs 0)) (okLen (t := .lit) (ok1 ok)) rfl (fun n k h h1 h2 => ?_) fun n hR => ?_
  ·rw [zqk, sel_lt h, at_nat h]
   exact ⟨inb_nat h, he, call1 (hp _ (List.getElem_mem h)) (za h1 h2)⟩
  ·rw [zqk, sel_end]; exact hR)
theorem zgg {xs : List Int} {g : FuncId} {rs : Option (List Ty)} {cap : List D} {p : Int → Bool} (he : Ent Tryz.prog g) (hp : ∀ x ∈ xs, Sat Tryz.prog g (dI x :: cap) (.bool (p x))) : Sat Tryz.prog z3b [.sl .int xs, .clo g rs cap] (.bool (xs.any p)) :=
 Sat.clo (pre := [_]) (zVq _ _ _ fun ok => by
  rw [zUq]
  refine call1 (z3s he hp) ?_
  rw [zwb _ _ (Int.le_refl 0)])
theorem zat {xs : List VarD} {g : FuncId} {rs : Option (List Ty)} {cap : List D} {p : VarD → Bool} (he : Ent Tryz.prog g) (hp : ∀ x ∈ xs, Sat Tryz.prog g (dV x :: cap) (.bool (p x))) : Sat Tryz.prog zGe [.sl .var xs, .clo g rs cap] (.bool (xs.any p)) :=
 Sat.clo (pre := [_]) (z3q _ _ _ fun ok => by
  rw [z2q]
  refine call1 (z4s he hp) ?_
  rw [zwb _ _ (Int.le_refl 0)])
theorem z4k {xs : List LitD} {g : FuncId} {rs : Option (List Ty)} {cap : List D} {p : LitD → Bool} (he : Ent Tryz.prog g) (hp : ∀ x ∈ xs, Sat Tryz.prog g (dL x :: cap) (.bool (p x))) : Sat Tryz.prog ztc [.sl .lit xs, .clo g rs cap] (.bool (xs.any p)) :=
 Sat.clo (pre := [_]) (z5q _ _ _ fun ok => by
  rw [z4q]
  refine call1 (z5s he hp) ?_
  rw [zwb _ _ (Int.le_refl 0)])
theorem z0h {xs : List (List Int)} {g : FuncId} {rs : Option (List Ty)} {cap : List D} {p : (List Int) → Bool} (he : Ent Tryz.prog g) (hp : ∀ x ∈ xs, Sat Tryz.prog g (.sl .int x :: cap) (.bool (p x))) : Sat Tryz.prog z7 [.sl (.list .int) xs, .clo g rs cap] (.bool (xs.any p)) :=
 Sat.clo (pre := [_]) (z7q _ _ _ fun ok => by
  rw [z6q]
  refine call1 (z6s he hp) ?_
  rw [zwb _ _ (Int.le_refl 0)])
theorem zbt {xs : List (List Int)} {g : FuncId} {rs : Option (List Ty)} {cap : List D} {p : (List Int) → Bool} (he : Ent Tryz.prog g) (hp : ∀ x ∈ xs, Sat Tryz.prog g (.sl .int x :: cap) (.bool (p x))) : Sat Tryz.prog zLe [.sl (.list .int) xs, .clo g rs cap] (.bool (xs.any p)) :=
 Sat.clo (pre := [_]) (z9q _ _ _ fun ok => by
  rw [z8q]
  refine call1 (z7s he hp) ?_
  rw [zwb _ _ (Int.le_refl 0)])
theorem zod {xs : List Int} {a : Int} : Sat Tryz.prog zEb [.sl .int xs, dI a] (.bool (xs.any fun x => decide (a = x))) :=
 znr _ _ fun ok => by
  rw [zmr]
  refine call1 (z8s (a := a)) ?_
  rw [zwb _ _ (Int.le_refl 0)]
theorem z5k {xs : List LitD} {g : FuncId} {rs : Option (List Ty)} {cap : List D} {p : LitD → Bool} (he : Ent Tryz.prog g) (hp : ∀ x ∈ xs, Sat Tryz.prog g (dL x :: cap) (.bool (p x))) : Sat Tryz.prog zhd [.sl .lit xs, .clo g rs cap] (.bool (xs.any p)) :=
 Sat.clo (pre := [_]) (zpr _ _ _ fun ok => by
  rw [zor]
  refine call1 (z9s he hp) ?_
  rw [zwb _ _ (Int.le_refl 0)])
theorem zct : Ent Tryz.prog zxe := fun args w => Tryz.call64 args w
theorem zdt : Ent Tryz.prog zAe := fun args w => Tryz.call80 args w
theorem zet : Ent Tryz.prog zHe := fun args w => Tryz.call90 args w
theorem z6k : Ent Tryz.prog zdd := fun args w => Tryz.call91 args w
theorem z7k : Ent Tryz.prog zgb := fun args w => Tryz.call92 args w
theorem zft : Ent Tryz.prog zJe := fun args w => Tryz.call95 args w
theorem zgt : Ent Tryz.prog zKe := fun args w => Tryz.call97 args w
theorem zht : Ent Tryz.prog zMe := fun args w => Tryz.call104 args w
theorem zit : Ent Tryz.prog zhb := fun args w => Tryz.call113 args w
theorem zjt : Ent Tryz.prog zOe := fun args w => Tryz.call116 args w
theorem zkt : Ent Tryz.prog zDb := fun args w => Tryz.call133 args w
theorem zlt : Ent Tryz.prog zib := fun args w => Tryz.call140 args w
theorem zmt : Ent Tryz.prog zxc := fun args w => Tryz.call143 args w
theorem znt : Ent Tryz.prog zZe := fun args w => Tryz.call145 args w
theorem zot : Ent Tryz.prog z0e := fun args w => Tryz.call146 args w
theorem zpt : Ent Tryz.prog zyc := fun args w => Tryz.call147 args w
theorem zqt : Ent Tryz.prog z2e := fun args w => Tryz.call161 args w
theorem zrt : Ent Tryz.prog zi := fun args w => Tryz.call167 args w
theorem zst : Ent Tryz.prog z7b := fun args w => Tryz.call170 args w
theorem ztt : Ent Tryz.prog z7e := fun args w => Tryz.call172 args w
theorem zut : Ent Tryz.prog z8e := fun args w => Tryz.call173 args w
theorem zvt : Ent Tryz.prog z8b := fun args w => Tryz.call174 args w
theorem zwt : Ent Tryz.prog zcf := fun args w => Tryz.call195 args w
theorem zxt : Ent Tryz.prog zff := fun args w => Tryz.call229 args w
theorem zyt : Ent Tryz.prog zgf := fun args w => Tryz.call230 args w
end Go.Proofs.YtajnbkhgnppckaaGreatDoor
/- Short names for data, and what functions that are handed on may be. -/
namespace Go.Proofs.YtajnbkhgnppckaaGreatDoor
open Go.RowKit
set_option linter.unusedVariables false
end Go.Proofs.YtajnbkhgnppckaaGreatDoor
/- What names of variables are, out of the walks of tokens: told to the denotation. -/
namespace Go.Proofs.YtajnbkhgnppckaaGreatDoor
open Go.RowKit
set_option linter.unusedVariables false
theorem z8k {P : Program} {f : FuncId} {s : ByteArray} {b : Bool} (h : s.size ≤ 140737488355328 → ∀ w, Calls P f #[.string s] w fun e w' => e = .returned (.bool b) ∧ Below w.heap.size w w') : Sat P f [.str s] (.bool b) := by
 intro w S vs hS hl hv _
 obtain ⟨e0, hz⟩ := (hv 0 _ rfl).str_inv
 have e : vs = #[.string s] := by
  have hl : vs.size = 1 := hl
  apply Array.ext
  ·simpa using hl
  ·intro i h1 h2
   have : i = 0 := by omega
   subst this
   simpa [Array.getD_eq_getD_getElem?, h1] using e0
 subst e
 exact (h hz w).mono fun e w' ⟨he, hb⟩ => ⟨_, he, .bool b, hb⟩
theorem zzt (s : ByteArray) : Sat Tryz.prog zOh [.str s] (.bool (isNameS s)) := z8k fun _ w => zHp s w
theorem zAt (s : ByteArray) : Sat Tryz.prog zNh [.str s] (.bool (isNameS s)) := z8k fun hz w => zJp s w hz
end Go.Proofs.YtajnbkhgnppckaaGreatDoor
/- What the program's and the document's test of a model answer. -/
namespace Go.Proofs.YtajnbkhgnppckaaGreatDoor
open Go.RowKit
set_option linter.unusedVariables false
set_option linter.unusedSimpArgs false
theorem z9b (n a b : Int) : Sat Tryz.prog zU [dI n, dI a, dI b] (dB (inR n a b)) :=
 zLr n a b fun ok => by rw [zKr]; (repeat' (refine za (fun _ => ?_) (fun _ => ?_))) <;> simp_all [inR] <;> omega
theorem zY (n a b : Int) : Sat Tryz.prog zA [dI n, dI a, dI b] (dB (inR n a b)) :=
 zEs n a b fun ok => by rw [zDs]; (repeat' (refine za (fun _ => ?_) (fun _ => ?_))) <;> simp_all [inR] <;> omega
theorem zhg (n : Int) : Sat Tryz.prog z2b [dI n] (dB (inR n (-1000) 1000)) :=
 zYs n fun ok => by rw [zXs]; exact call1 (zY _ _ _) rfl
theorem zig (n : Int) : Sat Tryz.prog zgb [dI n] (dB (farB n)) :=
 z2r n fun ok => by rw [z1r]; exact call1 (z9b _ _ _) rfl
theorem z9k (n : Int) (m : MdlD) (h : m.vars.length ≤ 9223372036854775807) : Sat Tryz.prog zdd [dI n, .iptr [.sl .var m.vars, .sl .con m.cons, .int .i64 m.goal, .int .i64 m.var] 0] (dB (noneB m.vars.length n)) :=
 z0r n m fun ok => by
  rw [zZr, w64_eq (by omega) (by omega)]; exact call1 (z9b _ _ _) rfl
theorem zBt (l : LitD) {g : FuncId} {cap : List D} {b : Bool} (he : Ent Tryz.prog g) (h : Sat Tryz.prog g (dI l.var :: cap) (dB b)) : Sat Tryz.prog zJe [dL l, .iptr [.clo g none cap] 0] (dB b) :=
 Sat.iclo (pre := [_]) (z6r l g cap fun ok => by rw [z5r]; exact ⟨he, call1 h rfl⟩)
theorem zCt (l : List Int) {g : FuncId} {cap : List D} {p : Int → Bool} (he : Ent Tryz.prog g) (h : ∀ x ∈ l, Sat Tryz.prog g (dI x :: cap) (dB (p x))) : Sat Tryz.prog zKe [.sl .int l, .iptr [.clo g none cap] 0] (dB (l.any p)) :=
 Sat.iclo (pre := [_]) (z8r l g cap fun ok => by rw [z7r]; exact call1 (zgg he h) rfl)
theorem zDt (l : List Int) (c : ConD) : Sat Tryz.prog zDb [.sl .int l, .iptr [.int .i64 c.kind, .sl .int c.vars, .sl .int c.consts, .int .i64 c.n, .sl (.list .int) c.rows, .sl .lit c.lits] 0] (dB (!decide (l.length = c.vars.length))) :=
 zos l c fun ok => by rw [zns]; congr 2; exact decide_eq_decide.2 (by omega)
theorem z1h (a b : Int) : Sat Tryz.prog zvc [dI a, dI b] (dB (decide (b = -1) || decide (a = b))) :=
 zms a b fun ok => by rw [zls]; (repeat' (refine za (fun _ => ?_) (fun _ => ?_))) <;> simp_all
def shapeOf (c : ConD) : Int × Int × Int × Int × Int :=
 if c.kind = 1 ∨ c.kind = 2 ∨ c.kind = 3 then (1, 4, c.vars.length, 0, 0) else if c.kind = 4 then (1, 4, 0, 0, 0) else if c.kind = 5 then (2, 2, -1, 0, 0)
 else if c.kind = 6 then (1, 4, 0, -1, 0) else if c.kind = 7 then (3, 3, 0, 0, 0) else if c.kind = 8 then (2, 4, 0, 0, 0) else if c.kind = 9 then (0, 0, 0, 0, -1) else (1, 1, 0, 0, 1)
theorem zEt (c : ConD) : Sat Tryz.prog zSe [dC c] (toD (.pr .int (.pr .int (.pr .int (.pr .int .int)))) (shapeOf c)) :=
 zks c fun ok => by
  rw [zjs]
  unfold shapeOf
  (repeat' (refine za (fun _ => ?_) (fun _ => ?_))) <;> simp_all <;> rfl
def isB (a b : Int) : Bool := decide (b = -1) || decide (a = b)
def formP (c : ConD) : Bool :=
 inR c.vars.length (shapeOf c).1 (shapeOf c).2.1 && isB c.consts.length (shapeOf c).2.2.1 && isB c.rows.length (shapeOf c).2.2.2.1 && isB c.lits.length (shapeOf c).2.2.2.2 &&
 !(decide (c.kind = 5) && decide ((c.consts.length : Int) = 0)) && !(decide (3 < c.kind) && !decide (c.n = 0)) && !(c.rows.any fun r => !decide (r.length = c.vars.length))
theorem zFt (c : ConD) : Sat Tryz.prog zIe [dC c] (dB (formP c)) :=
 z4r c fun ok => by
  rw [z3r]
  refine call1 (zEt c) (call1 (z9b _ _ _) (za (fun e1 => ?_) fun e1 => call1 (z1h _ _) (za (fun e2 => ?_) fun e2 => call1 (z1h _ _) (za (fun e3 => ?_) fun e3 => call1 (z1h _ _) (za (fun e4 => ?_) fun e4 => ?_)))))
  all_goals try simp only [Bool.not_eq_eq_eq_not, Bool.not_true, Bool.not_false] at *
  ·simp only [formP, isB, e1, Bool.false_and]
  ·simp only [formP, isB, e2, Bool.false_and, Bool.and_false]
  ·simp only [formP, isB, e3, Bool.false_and, Bool.and_false]
  ·simp only [formP, isB, e4, Bool.false_and, Bool.and_false]
  have hr : Sat Tryz.prog z7 [.sl (.list .int) c.rows, .clo zDb none [.iptr [.int .i64 c.kind, .sl .int c.vars, .sl .int c.consts, .int .i64 c.n, .sl (.list .int) c.rows, .sl .lit c.lits] 0]] (dB (c.rows.any fun r => !decide (r.length = c.vars.length))) := z0h zkt fun x _ => zDt x c
  (repeat' (refine za (fun _ => ?_) (fun _ => ?_)))
  all_goals first | (refine call1 hr ?_; simp only [formP, isB, *, Bool.true_and, Bool.and_true, Bool.not_true, Bool.not_false, Bool.and_false, Bool.false_and]; done) | (simp only [formP, isB, *, Bool.true_and, Bool.and_true, Bool.not_true, Bool.not_false, Bool.and_false, Bool.false_and]; done)
theorem zGt (c : ConD) (h1 : 1 ≤ c.kind) (h2 : c.kind ≤ 10) (h3 : c.vars.length ≤ 4) : formP c = formB c := by
 have hk : c.kind = 1 ∨ c.kind = 2 ∨ c.kind = 3 ∨ c.kind = 4 ∨ c.kind = 5 ∨ c.kind = 6 ∨ c.kind = 7 ∨ c.kind = 8 ∨ c.kind = 9 ∨ c.kind = 10 := by omega
 have ha : (c.rows.any fun r => !decide (r.length = c.vars.length)) = !(c.rows.all fun r => decide (r.length = c.vars.length)) := by
  rw [List.all_eq_not_any_not, Bool.not_not]
 have hq : c.rows.length = 0 → (c.rows.all fun r => decide (r.length = c.vars.length)) = true := fun h => by rw [List.length_eq_zero_iff.1 h]; rfl
 unfold formP formB shapeOf
 rw [ha]
 dsimp only
 revert hq
 generalize (c.rows.all fun r => decide (r.length = c.vars.length)) = q
 generalize c.vars.length = v at *
 generalize c.consts.length = k
 generalize c.rows.length = rr
 generalize c.lits.length = l
 rcases hk with h | h | h | h | h | h | h | h | h | h <;> simp only [h, isB, inR] <;> rw [Bool.eq_iff_iff] <;> intro hq <;> cases q <;> simp_all <;> first | omega | (rw [Bool.eq_iff_iff]; simp; omega)
theorem conE_1 {nv : Nat} {c : ConD} (h : inR c.kind 1 10 = false) : conE nv c = 7 := by rw [conE, if_pos h]
theorem conE_2 {nv : Nat} {c : ConD} (h1 : ¬inR c.kind 1 10 = false) (h : manyB c = true) : conE nv c = 2 := by rw [conE, if_neg h1, if_pos h]
theorem conE_3 {nv : Nat} {c : ConD} (h1 : ¬inR c.kind 1 10 = false) (h2 : ¬manyB c = true) (h : formB c = false) : conE nv c = 1 := by rw [conE, if_neg h1, if_neg h2, if_pos h]
theorem conE_4 {nv : Nat} {c : ConD} (h1 : ¬inR c.kind 1 10 = false) (h2 : ¬manyB c = true) (h3 : ¬formB c = false) (h : (c.vars.any (noneB nv) || c.lits.any fun l => noneB nv l.var) = true) : conE nv c = 5 := by rw [conE, if_neg h1, if_neg h2, if_neg h3, if_pos h]
theorem conE_5 {nv : Nat} {c : ConD} (h1 : ¬inR c.kind 1 10 = false) (h2 : ¬manyB c = true) (h3 : ¬formB c = false) (h4 : ¬(c.vars.any (noneB nv) || c.lits.any fun l => noneB nv l.var) = true) (h : (c.consts.any farB || farB c.n || c.rows.any fun r => r.any farB) = true) : conE nv c = 3 := by rw [conE, if_neg h1, if_neg h2, if_neg h3, if_neg h4, if_pos h]
theorem conE_6 {nv : Nat} {c : ConD} (h1 : ¬inR c.kind 1 10 = false) (h2 : ¬manyB c = true) (h3 : ¬formB c = false) (h4 : ¬(c.vars.any (noneB nv) || c.lits.any fun l => noneB nv l.var) = true) (h5 : ¬(c.consts.any farB || farB c.n || c.rows.any fun r => r.any farB) = true) : conE nv c = firstE (fun _ l => opE l) 0 c.lits := by rw [conE, if_neg h1, if_neg h2, if_neg h3, if_neg h4, if_neg h5]
theorem dI_of {a b : Int} (h : b = a) : D.int .i64 a = dI b := by rw [h]
theorem zHt (m : MdlD) (c : ConD) (hm : m.vars.length ≤ 6) : Sat Tryz.prog zwe [dM m, dC c] (dI (conE m.vars.length c)) :=
 zJr m c fun ok => by
  have hm' : m.vars.length ≤ 9223372036854775807 := by omega
  rw [zIr]
  refine za (fun e => ?_) fun e1 => za (fun e => ?_) fun e2 => ?_
  ·exact dI_of (conE_1 (zH.2 (.inl (of_decide_eq_true e))))
  ·exact dI_of (conE_1 (zH.2 (.inr (of_decide_eq_true e))))
  simp at e1 e2
  have k1 : ¬inR c.kind 1 10 = false := by rw [zH]; omega
  refine za (fun e => ?_) fun e3 => za (fun e => ?_) fun e4 => za (fun e => ?_) fun e5 => za (fun e => ?_) fun e6 => ?_
  iterate 4 (exact dI_of (conE_2 k1 (by simp at e; simp [manyB]; omega)))
  simp at e3 e4 e5 e6
  have k2 : ¬manyB c = true := by simp [manyB]; omega
  refine call1 (zFt c) ?_
  rw [zGt c e1 e2 (by omega)]
  refine za (fun e => ?_) fun e => ?_
  ·exact dI_of (conE_3 k1 k2 (by simpa using e))
  have k3 : ¬formB c = false := by simpa using e
  refine call1 (zgg (p := noneB m.vars.length) z6k fun x _ => z9k x m hm') (za (fun e => ?_) fun e7 => ?_)
  ·exact dI_of (conE_4 k1 k2 k3 (by rw [e]; rfl))
  refine call1 (z4k (p := fun l => noneB m.vars.length l.var) zft fun x _ => zBt x z6k (z9k x.var m hm')) (za (fun e => ?_) fun e8 => ?_)
  ·exact dI_of (conE_4 k1 k2 k3 (by rw [e, Bool.or_true]))
  have k4 : ¬(c.vars.any (noneB m.vars.length) || c.lits.any fun l => noneB m.vars.length l.var) = true := by rw [e7, e8]; decide
  refine call1 (zgg (p := farB) z7k fun x _ => zig x) (za (fun e => ?_) fun e9 => ?_)
  ·exact dI_of (conE_5 k1 k2 k3 k4 (by rw [e]; rfl))
  refine call1 (zig _) (za (fun e => ?_) fun e10 => ?_)
  ·exact dI_of (conE_5 k1 k2 k3 k4 (by rw [e, Bool.or_true]; rfl))
  refine call1 (z0h (p := fun r => r.any farB) zgt fun x _ => zCt x z7k fun n _ => zig n) (za (fun e => ?_) fun e11 => ?_)
  ·exact dI_of (conE_5 k1 k2 k3 k4 (by rw [e, Bool.or_true]))
  have k5 : ¬(c.consts.any farB || farB c.n || c.rows.any fun r => r.any farB) = true := by rw [e9, e10, e11]; decide
  rw [conE_6 k1 k2 k3 k4 k5]
  refine err0 (I := fun n v => zHf c _ n v) c.lits (fun _ l => opE l) (by omega) (X := fun x => D.int .i64 x = dI (firstE (fun _ l => opE l) 0 c.lits)) (Y := D.int .i64 0 = dI (firstE (fun _ l => opE l) 0 c.lits)) (fun _ => rfl) (fun e => dI_of e) (fun n k h _ hX hn => ?_) fun n hY => ?_
  ·rw [ztk, sel_lt h, at_nat (t := .lit) h]
   unfold opE at hX hn
   refine ⟨inb_nat h, za (fun e => ?_) fun e1 => za (fun e => ?_) fun e2 => call1 (zig _) (za (fun e => ?_) fun e => ?_)⟩
   ·have i : inR c.lits[k].op 1 4 = false := zH.2 (.inl (of_decide_eq_true e))
    rw [if_pos i] at hX; exact hX (by decide)
   ·have i : inR c.lits[k].op 1 4 = false := zH.2 (.inr (of_decide_eq_true e))
    rw [if_pos i] at hX; exact hX (by decide)
   ·have i : ¬inR c.lits[k].op 1 4 = false := by rw [zH]; simp at e1 e2; omega
    rw [if_neg i, if_pos e] at hX; exact hX (by decide)
   ·have i : ¬inR c.lits[k].op 1 4 = false := by rw [zH]; simp at e1 e2; omega
    rw [if_neg i, if_neg (by rw [e]; decide)] at hn; exact hn rfl
  ·rw [ztk, sel_end]; exact hY
end Go.Proofs.YtajnbkhgnppckaaGreatDoor
/- What the program's test of a model answers: variables, and all. -/
namespace Go.Proofs.YtajnbkhgnppckaaGreatDoor
open Go.RowKit
set_option linter.unusedVariables false
set_option linter.unusedSimpArgs false
theorem zIt (u v : VarD) : Sat Tryz.prog zHe [dV u, .iptr [.str v.name, .int .i64 v.lo, .int .i64 v.hi] 0] (dB (u.name.toList == v.name.toList)) :=
 zYr u v fun ok => by rw [zXr, str_beq]
def lohiE (v : VarD) : Int := if (!inR v.lo (-50) 50 || !inR v.hi (-50) 50 || decide (v.hi < v.lo)) = true then 3 else if 6 ≤ v.hi - v.lo then 2 else 0
theorem varE_1 {a : List VarD} {v : VarD} (h : isNameS v.name = false) : varE a v = 1 := by rw [varE, if_pos h]
theorem varE_2 {a : List VarD} {v : VarD} (h1 : ¬isNameS v.name = false) (h : (a.any fun u => u.name.toList == v.name.toList) = true) : varE a v = 6 := by rw [varE, if_neg h1, if_pos h]
theorem varE_3 {a : List VarD} {v : VarD} (h1 : ¬isNameS v.name = false) (h2 : ¬(a.any fun u => u.name.toList == v.name.toList) = true) : varE a v = lohiE v := by rw [varE, if_neg h1, if_neg h2]; rfl
theorem lohi_1 {v : VarD} (h : (!inR v.lo (-50) 50) = true) : lohiE v = 3 := by rw [lohiE, h]; rfl
theorem lohi_2 {v : VarD} (h : (!inR v.hi (-50) 50) = true) : lohiE v = 3 := by rw [lohiE, h, Bool.or_true]; rfl
theorem lohi_3 {v : VarD} (h : decide (v.hi < v.lo) = true) : lohiE v = 3 := by rw [lohiE, h, Bool.or_true]; rfl
theorem lohi_4 {v : VarD} (h1 : (!inR v.lo (-50) 50) = false) (h2 : (!inR v.hi (-50) 50) = false) (h3 : decide (v.hi < v.lo) = false) : lohiE v = if 6 ≤ v.hi - v.lo then 2 else 0 := by rw [lohiE, h1, h2, h3]; rfl
theorem zJt (l : List VarD) : Sat Tryz.prog zve [.sl .var l] (dI (varsE l)) :=
 zHr l fun ok => by
  rw [zGr]
  refine err0 (I := fun n v => zFf l _ n v) l (fun i v => varE (l.take i) v) (okLen (t := .var) (ok1 ok)) (X := fun x => D.int .i64 x = dI (varsE l)) (Y := D.int .i64 0 = dI (varsE l)) (fun _ => rfl) (fun e => dI_of e) (fun n k h _ hX hn => ?_) fun n hY => ?_
  ·rw [zsk, sel_lt h, at_nat (t := .var) h]
   refine ⟨inb_nat h, call1 (zzt _) (za (fun e => ?_) fun e => ?_)⟩
   ·rw [varE_1 (by simpa using e)] at hX; exact hX (by decide)
   have k1 : ¬isNameS l[k].name = false := by simpa using e
   refine ⟨by unfold inSl; simp; omega, ?_⟩
   rw [show ((l.take (k : Int).toNat).drop 0) = l.take k by rw [Int.toNat_natCast, List.drop_zero]]
   refine call1 (zat (p := fun u => u.name.toList == l[k].name.toList) zet fun x _ => zIt x _) (za (fun e => ?_) fun e => ?_)
   ·rw [varE_2 k1 e] at hX; exact hX (by decide)
   rw [varE_3 k1 (by rw [e]; decide)] at hX hn
   refine call1 (z9b _ _ _) (za (fun e => ?_) fun e1 => call1 (z9b _ _ _) (za (fun e => ?_) fun e2 => (za (fun e => ?_) fun e3 => ?_)))
   ·rw [lohi_1 e] at hX; exact hX (by decide)
   ·rw [lohi_2 e] at hX; exact hX (by decide)
   ·rw [lohi_3 e] at hX; exact hX (by decide)
   rw [lohi_4 e1 e2 e3] at hX hn
   simp [inR] at e1 e2
   rw [w64_eq (by omega) (by omega)]
   refine za (fun e => ?_) fun e => ?_
   ·rw [if_pos (of_decide_eq_true e)] at hX; exact hX (by decide)
   ·exact hn (if_neg (of_decide_eq_false e))
  ·rw [zsk, sel_end]; exact hY
theorem zal {m : MdlD} (h : m.vars.length = 0) : checkM m = 1 := by rw [checkM, if_pos h]
theorem zjg {m : MdlD} (h1 : ¬m.vars.length = 0) (h : 6 < m.vars.length ∨ 8 < m.cons.length) : checkM m = 2 := by rw [checkM, if_neg h1, if_pos h]
theorem zbl {m : MdlD} (h1 : ¬m.vars.length = 0) (h2 : ¬(6 < m.vars.length ∨ 8 < m.cons.length)) (h : varsE m.vars ≠ 0) : checkM m = varsE m.vars := by rw [checkM, if_neg h1, if_neg h2, if_pos h]
theorem zcl {m : MdlD} (h1 : ¬m.vars.length = 0) (h2 : ¬(6 < m.vars.length ∨ 8 < m.cons.length)) (h3 : ¬varsE m.vars ≠ 0) (h : firstE (fun _ c => conE m.vars.length c) 0 m.cons ≠ 0) : checkM m = firstE (fun _ c => conE m.vars.length c) 0 m.cons := by rw [checkM, if_neg h1, if_neg h2, if_neg h3, if_pos h]
theorem zdl {m : MdlD} (h1 : ¬m.vars.length = 0) (h2 : ¬(6 < m.vars.length ∨ 8 < m.cons.length)) (h3 : ¬varsE m.vars ≠ 0) (h : ¬firstE (fun _ c => conE m.vars.length c) 0 m.cons ≠ 0) : checkM m = goalE m := by rw [checkM, if_neg h1, if_neg h2, if_neg h3, if_neg h]
theorem goalE_1 {m : MdlD} (h : inR m.goal 0 2 = false) : goalE m = 7 := by rw [goalE, if_pos h]
theorem goalE_2 {m : MdlD} (h1 : ¬inR m.goal 0 2 = false) (h : m.goal = 0) (h2 : m.var ≠ 0) : goalE m = 1 := by rw [goalE, if_neg h1, if_pos ⟨h, h2⟩]
theorem goalE_3 {m : MdlD} (h1 : ¬inR m.goal 0 2 = false) (h : m.goal = 0) (h2 : ¬m.var ≠ 0) : goalE m = 0 := by rw [goalE, if_neg h1, if_neg (fun x => h2 x.2), if_neg (fun x => x.1 h)]
theorem goalE_4 {m : MdlD} (h1 : ¬inR m.goal 0 2 = false) (h : ¬m.goal = 0) (h2 : noneB m.vars.length m.var = true) : goalE m = 5 := by rw [goalE, if_neg h1, if_neg (fun x => h x.1), if_pos ⟨h, h2⟩]
theorem goalE_5 {m : MdlD} (h1 : ¬inR m.goal 0 2 = false) (h : ¬m.goal = 0) (h2 : ¬noneB m.vars.length m.var = true) : goalE m = 0 := by rw [goalE, if_neg h1, if_neg (fun x => h x.1), if_neg (fun x => h2 x.2)]
theorem zel (m : MdlD) : Sat Tryz.prog z6c [dM m] (dI (checkM m)) :=
 zFr m fun ok => by
  rw [zEr]
  refine za (fun e => ?_) fun e1 => za (fun e => ?_) fun e2 => za (fun e => ?_) fun e3 => ?_
  ·exact dI_of (zal (by simp at e; simp [e]))
  ·simp at e1 e; exact dI_of (zjg (by simp [e1]) (.inl (by omega)))
  ·simp at e1 e; exact dI_of (zjg (by simp [e1]) (.inr (by omega)))
  simp at e1 e2 e3
  have k1 : ¬m.vars.length = 0 := by simp [e1]
  have k2 : ¬(6 < m.vars.length ∨ 8 < m.cons.length) := by omega
  refine call1 (zJt _) (za (fun e => ?_) fun e => ?_)
  ·exact dI_of (zbl k1 k2 (zxb e))
  have k3 : ¬varsE m.vars ≠ 0 := not_not_intro (z0b e)
  refine err0 (I := fun n v => zDf m _ n v) m.cons (fun _ c => conE m.vars.length c) (by omega) (X := fun x => D.int .i64 x = dI (checkM m)) (Y := D.int .i64 (goalE m) = dI (checkM m)) (fun h => dI_of (zcl k1 k2 k3 h)) (fun e => dI_of (zdl k1 k2 k3 (not_not_intro e))) (fun n k h _ hX hn => ?_) fun n hY => ?_
  ·rw [zrk, sel_lt h, at_nat (t := .con) h]
   exact ⟨inb_nat h, call1 (zHt m _ (by omega)) (za (fun e => hX (zxb e)) fun e => hn (z0b e))⟩
  ·rw [zrk, sel_end, ← hY]
   rw [w64_eq (by omega) (by omega)]
   refine za (fun e => ?_) fun e1 => za (fun e => ?_) fun e2 => ?_
   ·rw [goalE_1 (zH.2 (.inl (of_decide_eq_true e)))]
   ·rw [goalE_1 (zH.2 (.inr (of_decide_eq_true e)))]
   have k4 : ¬inR m.goal 0 2 = false := by rw [zH]; simp at e1 e2; omega
   refine za (fun e => za (fun f => ?_) fun f => ?_) fun e => ?_
   ·rw [goalE_2 k4 (by simpa using e) (by simpa using f)]
   ·have e' : m.goal = 0 := by simpa using e
    rw [e']
    rw [goalE_3 k4 e' (by simpa using f)]; exact rfl
   ·have e' : ¬m.goal = 0 := by simpa using e
    rw [e]
    refine call1 (z9b _ _ _) (za (fun f => ?_) fun f => ?_)
    ·rw [goalE_4 k4 e' f]
    ·rw [goalE_5 k4 e' (by show ¬ (!inR _ _ _) = true; rw [f]; decide)]
end Go.Proofs.YtajnbkhgnppckaaGreatDoor
/- What the document's test of a model answers: the same. -/
namespace Go.Proofs.YtajnbkhgnppckaaGreatDoor
open Go.RowKit
set_option linter.unusedVariables false
set_option linter.unusedSimpArgs false
theorem zKt (m : MdlD) (l : LitD) (hm : m.vars.length ≤ 1000) : Sat Tryz.prog zze [dM m, dL l] (dI (litE m.vars.length l)) :=
 z0s m l fun ok => by
  rw [zZs, w64_eq (by omega) (by omega)]
  refine call1 (zY _ _ _) (za (fun e => ?_) fun e1 => call1 (zY _ _ _) (za (fun e => ?_) fun e2 => call1 (zhg _) (za (fun e => ?_) fun e3 => ?_)))
  ·exact dI_of (by rw [litE, if_pos (show noneB m.vars.length l.var = true from e)])
  ·have h1 : ¬noneB m.vars.length l.var = true := by show ¬(!inR _ _ _) = true; rw [e1]; decide
   exact dI_of (by rw [litE, if_neg h1, if_pos (by simpa using e)])
  all_goals
   have h1 : ¬noneB m.vars.length l.var = true := by show ¬(!inR _ _ _) = true; rw [e1]; decide
   have h2 : ¬inR l.op 1 4 = false := by simpa using e2
  ·exact dI_of (by rw [litE, if_neg h1, if_neg h2, if_pos (show farB l.n = true from e)])
  ·exact dI_of (by rw [litE, if_neg h1, if_neg h2, if_neg (by show ¬(!inR _ _ _) = true; rw [e3]; decide)])
theorem zLt (c : ConD) (h : c.kind = 6) (hn : c.n = 0) (b : Bool) (hb : (c.rows.all fun r => decide (r.length = c.vars.length)) = b) : formB c = (b && decide (1 ≤ c.vars.length) && decide (c.consts.length = 0) && decide (c.lits.length = 0)) := by
 simp [formB, h, hn, hb]
theorem zMt (c : ConD) (h1 : 1 ≤ c.kind) (h2 : c.kind ≤ 10) : Sat Tryz.prog zye [dC c] (dB (formB c)) :=
 zWs c fun ok => by
  have okr : c.rows.length ≤ 9223372036854775807 := okCLen (t := .list .int) (okA (i := 4) (ok1 ok) rfl)
  rw [zVs]
  have hk : c.kind = 1 ∨ c.kind = 2 ∨ c.kind = 3 ∨ c.kind = 4 ∨ c.kind = 5 ∨ c.kind = 6 ∨ c.kind = 7 ∨ c.kind = 8 ∨ c.kind = 9 ∨ c.kind = 10 := by omega
  rcases hk with h | h | h | h | h | h | h | h | h | h
  case inr.inr.inr.inr.inr.inl =>
   simp only [h, Int.reduceLT, Int.reduceEq, decide_true, decide_false, zIh, zJh]
   refine za (fun e => ?_) fun e => ?_
   ·simp at e; simp [formB, h, e]
   have e : c.n = 0 := by simpa using e
   refine any0 (I := fun n v => zfg c _ n v) c.rows (fun r => !decide ((r.length : Int) = (c.vars.length : Int))) okr (X := D.bool false = dB (formB c)) (Y := sel (decide (1 ≤ (c.vars.length : Int))) (sel (decide ((c.consts.length : Int) = 0)) (D.bool (decide ((c.lits.length : Int) = 0)) = dB (formB c)) (D.bool false = dB (formB c))) (D.bool false = dB (formB c))) ?_ (fun n k hk hX hn => ?_) fun n hY => ?_
   ·have ha : (c.rows.all fun r => decide (r.length = c.vars.length)) = !(c.rows.any fun r => !decide ((r.length : Int) = (c.vars.length : Int))) := by
     rw [List.all_eq_not_any_not]; congr 2; funext r; congr 1; exact decide_eq_decide.2 (by omega)
    rw [zLt c h e _ ha]
    refine za (fun e => ?_) fun e => ?_
    ·rw [e]; rfl
    ·rw [e]; (repeat' (refine za (fun _ => ?_) (fun _ => ?_))) <;> simp_all <;> omega
   ·rw [zZk, sel_lt hk, at_nat (t := .list .int) hk]
    exact ⟨inb_nat hk, za hX hn⟩
   ·rw [zZk, sel_end]; exact hY
  all_goals
   simp only [h, Int.reduceLT, Int.reduceEq, decide_true, decide_false, zIh, zJh]
   (repeat' (refine za (fun _ => ?_) (fun _ => ?_))) <;> simp_all [formB] <;> first | omega | (rw [Bool.eq_iff_iff]; simp; omega)
theorem litE_op {nv : Nat} {l : LitD} (h : noneB nv l.var = false) : litE nv l = opE l := by rw [litE, if_neg (by rw [h]; decide)]; rfl
theorem zfl {α : Type} {p : α → Bool} {l : List α} (h : l.any p = false) {k : Nat} (hk : k < l.length) : p l[k] = false := by
 rw [List.any_eq_false] at h
 simpa using h _ (List.getElem_mem hk)
theorem zNt (m : MdlD) (c : ConD) (hm : m.vars.length ≤ 6) : Sat Tryz.prog zpe [dM m, dC c] (dI (conE m.vars.length c)) :=
 zGs m c fun ok => by
  have hm' : m.vars.length ≤ 9223372036854775807 := by omega
  have okr : c.rows.length ≤ 9223372036854775807 := okCLen (t := .list .int) (okA (i := 4) (ok1 (okR ok)) rfl)
  have okr2 : ∀ k (h : k < c.rows.length), c.rows[k].length ≤ 9223372036854775807 := fun k h => okLen (t := .int) ((ok_list (t := .list .int) (okA (i := 4) (ok1 (okR ok)) rfl)).2 _ (List.getElem_mem h))
  rw [zFs]
  refine call1 (zY _ _ _) (za (fun e => ?_) fun e1 => ?_)
  ·exact dI_of (conE_1 (by simpa using e))
  have k1 : ¬inR c.kind 1 10 = false := by simpa using e1
  obtain ⟨h1, h2⟩ : 1 ≤ c.kind ∧ c.kind ≤ 10 := by simpa [inR] using e1
  refine za (fun e => ?_) fun e3 => za (fun e => ?_) fun e4 => za (fun e => ?_) fun e5 => za (fun e => ?_) fun e6 => ?_
  iterate 4 (exact dI_of (conE_2 k1 (by simp at e; simp [manyB]; omega)))
  simp at e3 e4 e5 e6
  have k2 : ¬manyB c = true := by simp [manyB]; omega
  refine call1 (zMt c h1 h2) (za (fun e => ?_) fun e => ?_)
  ·exact dI_of (conE_3 k1 k2 (by simpa using e))
  have k3 : ¬formB c = false := by simpa using e
  refine any1 (I := fun n v => z7f m c _ n v) c.vars (noneB m.vars.length) (by omega) (X := D.int .i64 5 = dI (conE m.vars.length c)) (fun e => dI_of (conE_4 k1 k2 k3 (by rw [e]; rfl))) (fun n k h hX hn => ?_) fun e7 n => ?_
  ·rw [zWk, sel_lt h, at_nat (t := .int) h, w64_eq (by omega) (by omega)]
   exact ⟨inb_nat h, call1 (zY _ _ _) (za hX hn)⟩
  rw [zWk, sel_end]
  refine any1 (I := fun n v => z6f m c _ n v) c.lits (fun l => noneB m.vars.length l.var) (by omega) (X := D.int .i64 5 = dI (conE m.vars.length c)) (fun e => dI_of (conE_4 k1 k2 k3 (by rw [e, Bool.or_true]))) (fun n k h hX hn => ?_) fun e8 n => ?_
  ·rw [zVk, sel_lt h, at_nat (t := .lit) h, w64_eq (by omega) (by omega)]
   exact ⟨inb_nat h, call1 (zY _ _ _) (za hX hn)⟩
  rw [zVk, sel_end]
  have k4 : ¬(c.vars.any (noneB m.vars.length) || c.lits.any fun l => noneB m.vars.length l.var) = true := by rw [e7, e8]; decide
  refine any1 (I := fun n v => z5f m c _ n v) c.consts farB (by omega) (X := D.int .i64 3 = dI (conE m.vars.length c)) (fun e => dI_of (conE_5 k1 k2 k3 k4 (by rw [e]; rfl))) (fun n k h hX hn => ?_) fun e9 n => ?_
  ·rw [zUk, sel_lt h, at_nat (t := .int) h]
   exact ⟨inb_nat h, call1 (zhg _) (za hX hn)⟩
  rw [zUk, sel_end]
  refine call1 (zhg _) (za (fun e => ?_) fun e10 => ?_)
  ·exact dI_of (conE_5 k1 k2 k3 k4 (by rw [show farB c.n = true from e, Bool.or_true]; rfl))
  refine any1 (I := fun n v => z4f m c _ n v) c.rows (fun r => r.any farB) okr (X := D.int .i64 3 = dI (conE m.vars.length c)) (fun e => dI_of (conE_5 k1 k2 k3 k4 (by rw [e, Bool.or_true]))) (fun n k h hX hn => ?_) fun e11 n => ?_
  ·rw [zTk, sel_lt h]
   refine any1 (I := fun n2 v => z2f m c _ n k n2 v) c.rows[k] farB (okr2 k h) hX (fun n2 j hj hX2 hn2 => ?_) fun e n2 => ?_
   ·rw [zRk, at_nat (t := .list .int) h, sel_lt hj, at_nat (t := .int) hj]
    exact ⟨inb_nat h, inb_nat h, inb_nat hj, call1 (zhg _) (za hX2 hn2)⟩
   ·rw [zRk, at_nat (t := .list .int) h, sel_end]
    exact ⟨inb_nat h, hn e⟩
  rw [zTk, sel_end]
  have k5 : ¬(c.consts.any farB || farB c.n || c.rows.any fun r => r.any farB) = true := by rw [e9, e11, show farB c.n = false from e10]; decide
  rw [conE_6 k1 k2 k3 k4 k5]
  refine err0 (I := fun n v => z3f m c _ n v) c.lits (fun _ l => opE l) (by omega) (X := fun x => D.int .i64 x = dI (firstE (fun _ l => opE l) 0 c.lits)) (Y := D.int .i64 0 = dI (firstE (fun _ l => opE l) 0 c.lits)) (fun _ => rfl) (fun e => dI_of e) (fun n k h _ hX hn => ?_) fun n hY => ?_
  ·rw [zSk, sel_lt h, at_nat (t := .lit) h]
   have := zKt m c.lits[k] (by omega)
   rw [litE_op (zfl e8 h)] at this
   exact ⟨inb_nat h, call1 this (za (fun e => hX (zxb e)) fun e => hn (z0b e))⟩
  ·rw [zSk, sel_end]; exact hY
theorem zOt (m : MdlD) : Sat Tryz.prog zie [dM m] (dI (checkM m)) :=
 zss m fun ok => by
  rw [zrs]
  refine za (fun e => ?_) fun e1 => za (fun e => ?_) fun e2 => za (fun e => ?_) fun e3 => ?_
  ·exact dI_of (zal (by simp at e; simp [e]))
  ·simp at e1 e; exact dI_of (zjg (by simp [e1]) (.inl (by omega)))
  ·simp at e1 e; exact dI_of (zjg (by simp [e1]) (.inr (by omega)))
  simp at e1 e2 e3
  have k1 : ¬m.vars.length = 0 := by simp [e1]
  have k2 : ¬(6 < m.vars.length ∨ 8 < m.cons.length) := by omega
  refine err1 (I := fun n v => zUf m _ n v) m.vars (fun i v => varE (m.vars.take i) v) (by omega) (X := fun x => D.int .i64 x = dI (checkM m)) (fun h => dI_of (zbl k1 k2 h)) (fun n k h _ hX hn => ?_) fun e n => ?_
  ·rw [zMk, sel_lt h, at_nat (t := .var) h]
   refine ⟨inb_nat h, call1 (zAt _) (za (fun e => ?_) fun e => ?_)⟩
   ·rw [varE_1 (by simpa using e)] at hX; exact hX (by decide)
   have k3 : ¬isNameS m.vars[k].name = false := by simpa using e
   have hl : (m.vars.take k).length = k := by rw [List.length_take]; omega
   refine any1 (I := fun n2 v => zSf m _ n k n2 v) (m.vars.take k) (fun u => u.name.toList == m.vars[k].name.toList) (by omega) (X := D.int .i64 6 = dI (checkM m)) (fun e => ?_) (fun n2 j hj hX2 hn2 => ?_) fun e n2 => ?_
   ·rw [varE_2 k3 e] at hX; exact hX (by decide)
   ·rw [hl] at hj
    rw [zKk, sel_lt hj, at_nat (t := .var) h, at_nat (t := .var) (show j < m.vars.length by omega), ← str_beq]
    rw [List.getElem_take] at hX2 hn2
    exact ⟨inb_nat (by omega), za hX2 hn2⟩
   rw [hl, zKk, sel_end, at_nat (t := .var) h]
   rw [varE_3 k3 (by rw [e]; decide)] at hX hn
   refine call1 (zY _ _ _) (za (fun e => ?_) fun e1 => call1 (zY _ _ _) (za (fun e => ?_) fun e2 => (za (fun e => ?_) fun e3 => ?_)))
   ·rw [lohi_1 e] at hX; exact hX (by decide)
   ·rw [lohi_2 e] at hX; exact hX (by decide)
   ·rw [lohi_3 e] at hX; exact hX (by decide)
   rw [lohi_4 e1 e2 e3] at hX hn
   simp [inR] at e1 e2
   rw [w64_eq (n := m.vars[k].hi - m.vars[k].lo) (by omega) (by omega), w64_eq (n := _ + 1) (by omega) (by omega)]
   refine za (fun e => ?_) fun e => ?_
   ·rw [if_pos (by have := of_decide_eq_true e; omega)] at hX; exact hX (by decide)
   ·exact hn (if_neg (by have := of_decide_eq_false e; omega))
  rw [zMk, sel_end]
  have k3 : ¬varsE m.vars ≠ 0 := not_not_intro e
  refine err1 (I := fun n v => zTf m _ n v) m.cons (fun _ c => conE m.vars.length c) (by omega) (X := fun x => D.int .i64 x = dI (checkM m)) (fun h => dI_of (zcl k1 k2 k3 h)) (fun n k h _ hX hn => ?_) fun e n => ?_
  ·rw [zLk, sel_lt h, at_nat (t := .con) h]
   exact ⟨inb_nat h, call1 (zNt m _ (by omega)) (za (fun e => hX (zxb e)) fun e => hn (z0b e))⟩
  rw [zLk, sel_end, zdl k1 k2 k3 (not_not_intro e), w64_eq (by omega) (by omega)]
  refine call1 (zY _ _ _) (za (fun e => ?_) fun e => ?_)
  ·rw [goalE_1 (by simpa using e)]
  have k4 : ¬inR m.goal 0 2 = false := by simpa using e
  refine za (fun e => za (fun f => ?_) fun f => ?_) fun e => ?_
  ·rw [goalE_2 k4 (by simpa using e) (by simpa using f)]
  ·have e' : m.goal = 0 := by simpa using e
   rw [e']
   rw [goalE_3 k4 e' (by simpa using f)]; exact rfl
  ·have e' : ¬m.goal = 0 := by simpa using e
   rw [e]
   refine call1 (zY _ _ _) (za (fun f => ?_) fun f => ?_)
   ·rw [goalE_4 k4 e' f]
   ·rw [goalE_5 k4 e' (by show ¬ (!inR _ _ _) = true; rw [f]; decide)]
end Go.Proofs.YtajnbkhgnppckaaGreatDoor
/- From a law's walk, told by the denotation, to what a claim's frame asks. -/
namespace Go.Proofs.YtajnbkhgnppckaaGreatDoor
open Go.RowKit
set_option linter.unusedVariables false
variable {w : World} {S : Nat → Prop} {v : Value}
theorem rdV_agg {t : Ty} {x : t.den} (hn : (cells t x).length ≠ 1) (h : RdV w S v x) : Rp w S v (.agg (cells t x)) := by
 obtain ⟨cs, rfl, h⟩ := h
 have a1 := (zr t h).len
 have a2 := fun i d hd => (zr t h).at (i := i) (b := d) hd
 have e : vOf cs = .agg cs.toArray := by
  match cs, a1 with
  | [], _ => rfl
  | [u], a1 => exact absurd a1.symm hn
  | a :: b :: l, _ => rfl
 rw [e]
 refine .agg _ _ (by simpa using a1) fun i d hd => ?_
 obtain ⟨u, hu, hr⟩ := a2 i d hd
 have : cs.toArray.getD i Go.undef = u := by simp [Array.getD_eq_getD_getElem?, hu]
 rw [this]; exact hr
theorem rds_mdl {m : MdlD} (h : Rds w v m) : Rp w (fun b => b < w.heap.size) v (dM m) := rdV_agg (t := .mdl) (x := m) (by show 4 ≠ 1; decide) h
theorem gok_tab {P : Program} {w : World} (h : Lib.TabIs P w "internal/strconv.uint64pow10" .u64 Lib.pow10Tab) : GOk P w fun _ => False := fun g hg => ⟨h, id⟩
theorem Sat.calls {P : Program} {f : FuncId} {args : List D} {b : Bool} (h : Sat P f args (.bool b)) (W : World) {vl : List Value} (hv : All2 (Rp W fun b => b < W.heap.size) vl args) (hg : GOk P W fun _ => False) :
  Calls P f vl.toArray W fun e W' => e = .returned (.bool b) ∧ Below W.heap.size W W' := by
 have h1 := hv.len
 have h2 := fun i d hd => hv.at (i := i) (b := d) hd
 refine (h W _ vl.toArray (fun _ h => h) (by simpa using h1) (fun i d hd => ?_) hg).mono fun e w' ⟨v, he, hr, hb⟩ => ?_
 ·obtain ⟨u, hu, hr⟩ := h2 i d hd
  have : vl.toArray.getD i Go.undef = u := by simp [Array.getD_eq_getD_getElem?, hu]
  rw [this]; exact hr
 ·cases hr
  exact ⟨he, hb⟩
end Go.Proofs.YtajnbkhgnppckaaGreatDoor
