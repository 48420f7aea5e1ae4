/- Texts of this proof, one behind the other: nothing is handed in but what is proved here; no condition. -/
import Derived.Test.YtajnbkhgnppckaaGreatDoorWSlices
import Derived.Test.YtajnbkhgnppckaaGreatDoorMD
import Derived.Test.YtajnbkhgnppckaaGreatDoorWModel
import Derived.Test.YtajnbkhgnppckaaGreatDoorMC
import Derived.Test.YtajnbkhgnppckaaGreatDoorWCordonref
/- What is sought in a slice: contracts printed by a program. -/
namespace Go.Proofs.YtajnbkhgnppckaaGreatDoor
open Go.RowKit
set_option linter.unusedVariables false
set_option maxRecDepth 100000
theorem zXv {xs : List Int} {g : FuncId} {rs : Option (List Ty)} {cap : List D} {p : Int → Bool} (he : Ent Tryz.prog g) (hp : ∀ x ∈ xs, Sat Tryz.prog g (dI x :: cap) (.bool (p x))) : Sat Tryz.prog zSf [.sl .int xs, .clo g rs cap] (.int .i64 (ixI p xs 0)) :=
 Sat.clo (pre := [_]) (zSs _ _ _ fun ok => by
  rw [zRs]
  refine seek (t := .int) (p := p) (R := fun d => d = .int .i64 (ixI p xs 0)) (okLen (t := .int) (ok1 ok)) rfl (fun n k h h1 h2 => ?_) fun n hR => ?_
  ·rw [zLl, sel_lt h, at_nat h]
   exact ⟨inb_nat h, he, call1 (hp _ (List.getElem_mem h)) (za h1 h2)⟩
  ·rw [zLl, sel_end]; exact hR)
theorem zYv {xs : List ConD} {g : FuncId} {rs : Option (List Ty)} {cap : List D} {p : ConD → Bool} (he : Ent Tryz.prog g) (hp : ∀ x ∈ xs, Sat Tryz.prog g (dC x :: cap) (.bool (p x))) : Sat Tryz.prog zUf [.sl .con xs, .clo g rs cap] (.int .i64 (ixI p xs 0)) :=
 Sat.clo (pre := [_]) (zYs _ _ _ fun ok => by
  rw [zXs]
  refine seek (t := .con) (p := p) (R := fun d => d = .int .i64 (ixI p xs 0)) (okLen (t := .con) (ok1 ok)) rfl (fun n k h h1 h2 => ?_) fun n hR => ?_
  ·rw [zOl, sel_lt h, at_nat h]
   exact ⟨inb_nat h, he, call1 (hp _ (List.getElem_mem h)) (za h1 h2)⟩
  ·rw [zOl, sel_end]; exact hR)
theorem zZv {xs : List VarD} {g : FuncId} {rs : Option (List Ty)} {cap : List D} {p : VarD → Bool} (he : Ent Tryz.prog g) (hp : ∀ x ∈ xs, Sat Tryz.prog g (dV x :: cap) (.bool (p x))) : Sat Tryz.prog zXf [.sl .var xs, .clo g rs cap] (.int .i64 (ixI p xs 0)) :=
 Sat.clo (pre := [_]) (z0s _ _ _ fun ok => by
  rw [zZs]
  refine seek (t := .var) (p := p) (R := fun d => d = .int .i64 (ixI p xs 0)) (okLen (t := .var) (ok1 ok)) rfl (fun n k h h1 h2 => ?_) fun n hR => ?_
  ·rw [zRl, sel_lt h, at_nat h]
   exact ⟨inb_nat h, he, call1 (hp _ (List.getElem_mem h)) (za h1 h2)⟩
  ·rw [zRl, sel_end]; exact hR)
theorem z0v {xs : List LitD} {g : FuncId} {rs : Option (List Ty)} {cap : List D} {p : LitD → Bool} (he : Ent Tryz.prog g) (hp : ∀ x ∈ xs, Sat Tryz.prog g (dL x :: cap) (.bool (p x))) : Sat Tryz.prog zZf [.sl .lit xs, .clo g rs cap] (.int .i64 (ixI p xs 0)) :=
 Sat.clo (pre := [_]) (z2s _ _ _ fun ok => by
  rw [z1s]
  refine seek (t := .lit) (p := p) (R := fun d => d = .int .i64 (ixI p xs 0)) (okLen (t := .lit) (ok1 ok)) rfl (fun n k h h1 h2 => ?_) fun n hR => ?_
  ·rw [zSl, sel_lt h, at_nat h]
   exact ⟨inb_nat h, he, call1 (hp _ (List.getElem_mem h)) (za h1 h2)⟩
  ·rw [zSl, sel_end]; exact hR)
theorem z1v {xs : List (List Int)} {g : FuncId} {rs : Option (List Ty)} {cap : List D} {p : (List Int) → Bool} (he : Ent Tryz.prog g) (hp : ∀ x ∈ xs, Sat Tryz.prog g (.sl .int x :: cap) (.bool (p x))) : Sat Tryz.prog z0f [.sl (.list .int) xs, .clo g rs cap] (.int .i64 (ixI p xs 0)) :=
 Sat.clo (pre := [_]) (z4s _ _ _ fun ok => by
  rw [z3s]
  refine seek (t := (.list .int)) (p := p) (R := fun d => d = .int .i64 (ixI p xs 0)) (okLen (t := (.list .int)) (ok1 ok)) rfl (fun n k h h1 h2 => ?_) fun n hR => ?_
  ·rw [zTl, sel_lt h, at_nat h]
   exact ⟨inb_nat h, he, call1 (hp _ (List.getElem_mem h)) (za h1 h2)⟩
  ·rw [zTl, sel_end]; exact hR)
theorem z2v {xs : List (List Int)} {g : FuncId} {rs : Option (List Ty)} {cap : List D} {p : (List Int) → Bool} (he : Ent Tryz.prog g) (hp : ∀ x ∈ xs, Sat Tryz.prog g (.sl .int x :: cap) (.bool (p x))) : Sat Tryz.prog z7f [.sl (.list .int) xs, .clo g rs cap] (.int .i64 (ixI p xs 0)) :=
 Sat.clo (pre := [_]) (zat _ _ _ fun ok => by
  rw [z9s]
  refine seek (t := (.list .int)) (p := p) (R := fun d => d = .int .i64 (ixI p xs 0)) (okLen (t := (.list .int)) (ok1 ok)) rfl (fun n k h h1 h2 => ?_) fun n hR => ?_
  ·rw [zWl, sel_lt h, at_nat h]
   exact ⟨inb_nat h, he, call1 (hp _ (List.getElem_mem h)) (za h1 h2)⟩
  ·rw [zWl, sel_end]; exact hR)
theorem zWm {xs : List TermD} {g : FuncId} {rs : Option (List Ty)} {cap : List D} {p : TermD → Bool} (he : Ent Tryz.prog g) (hp : ∀ x ∈ xs, Sat Tryz.prog g (.agg [dI x.v, dI x.times] :: cap) (.bool (p x))) : Sat Tryz.prog z8d [.sl .term xs, .clo g rs cap] (.int .i64 (ixI p xs 0)) :=
 Sat.clo (pre := [_]) (zct _ _ _ fun ok => by
  rw [zbt]
  refine seek (t := .term) (p := p) (R := fun d => d = .int .i64 (ixI p xs 0)) (okLen (t := .term) (ok1 ok)) rfl (fun n k h h1 h2 => ?_) fun n hR => ?_
  ·rw [zXl, sel_lt h, at_nat h]
   exact ⟨inb_nat h, he, call1 (hp _ (List.getElem_mem h)) (za h1 h2)⟩
  ·rw [zXl, sel_end]; exact hR)
theorem z3v {xs : List Int} {a : Int} : Sat Tryz.prog zig [.sl .int xs, dI a] (.int .i64 (ixI (fun x => decide (a = x)) xs 0)) :=
 zgt _ _ fun ok => by
  rw [zft]
  refine seek (t := .int) (p := fun x => decide (a = x)) (R := fun d => d = .int .i64 (ixI (fun x => decide (a = x)) xs 0)) (okLen (t := .int) (ok1 ok)) rfl (fun n k h h1 h2 => ?_) fun n hR => ?_
  ·rw [zZl, sel_lt h, at_nat h]
   exact ⟨inb_nat h, za h1 h2⟩
  ·rw [zZl, sel_end]; exact hR
theorem z4v {xs : List LitD} {g : FuncId} {rs : Option (List Ty)} {cap : List D} {p : LitD → Bool} (he : Ent Tryz.prog g) (hp : ∀ x ∈ xs, Sat Tryz.prog g (dL x :: cap) (.bool (p x))) : Sat Tryz.prog zjg [.sl .lit xs, .clo g rs cap] (.int .i64 (ixI p xs 0)) :=
 Sat.clo (pre := [_]) (zit _ _ _ fun ok => by
  rw [zht]
  refine seek (t := .lit) (p := p) (R := fun d => d = .int .i64 (ixI p xs 0)) (okLen (t := .lit) (ok1 ok)) rfl (fun n k h h1 h2 => ?_) fun n hR => ?_
  ·rw [z0l, sel_lt h, at_nat h]
   exact ⟨inb_nat h, he, call1 (hp _ (List.getElem_mem h)) (za h1 h2)⟩
  ·rw [z0l, sel_end]; exact hR)
theorem zne {xs : List Int} {g : FuncId} {rs : Option (List Ty)} {cap : List D} {p : Int → Bool} (he : Ent Tryz.prog g) (hp : ∀ x ∈ xs, Sat Tryz.prog g (dI x :: cap) (.bool (p x))) : Sat Tryz.prog z0b [.sl .int xs, .clo g rs cap] (.bool (xs.any p)) :=
 Sat.clo (pre := [_]) (zzs _ _ _ fun ok => by
  rw [zys]
  refine call1 (zXv he hp) ?_
  rw [zyb _ _ (Int.le_refl 0)])
theorem z5v {xs : List ConD} {g : FuncId} {rs : Option (List Ty)} {cap : List D} {p : ConD → Bool} (he : Ent Tryz.prog g) (hp : ∀ x ∈ xs, Sat Tryz.prog g (dC x :: cap) (.bool (p x))) : Sat Tryz.prog zCf [.sl .con xs, .clo g rs cap] (.bool (xs.any p)) :=
 Sat.clo (pre := [_]) (zCs _ _ _ fun ok => by
  rw [zAs]
  refine call1 (zYv he hp) ?_
  rw [zyb _ _ (Int.le_refl 0)])
theorem z6v {xs : List VarD} {g : FuncId} {rs : Option (List Ty)} {cap : List D} {p : VarD → Bool} (he : Ent Tryz.prog g) (hp : ∀ x ∈ xs, Sat Tryz.prog g (dV x :: cap) (.bool (p x))) : Sat Tryz.prog zKf [.sl .var xs, .clo g rs cap] (.bool (xs.any p)) :=
 Sat.clo (pre := [_]) (zKs _ _ _ fun ok => by
  rw [zJs]
  refine call1 (zZv he hp) ?_
  rw [zyb _ _ (Int.le_refl 0)])
theorem zXm {xs : List LitD} {g : FuncId} {rs : Option (List Ty)} {cap : List D} {p : LitD → Bool} (he : Ent Tryz.prog g) (hp : ∀ x ∈ xs, Sat Tryz.prog g (dL x :: cap) (.bool (p x))) : Sat Tryz.prog z0c [.sl .lit xs, .clo g rs cap] (.bool (xs.any p)) :=
 Sat.clo (pre := [_]) (zMs _ _ _ fun ok => by
  rw [zLs]
  refine call1 (z0v he hp) ?_
  rw [zyb _ _ (Int.le_refl 0)])
theorem zuj {xs : List (List Int)} {g : FuncId} {rs : Option (List Ty)} {cap : List D} {p : (List Int) → Bool} (he : Ent Tryz.prog g) (hp : ∀ x ∈ xs, Sat Tryz.prog g (.sl .int x :: cap) (.bool (p x))) : Sat Tryz.prog znb [.sl (.list .int) xs, .clo g rs cap] (.bool (xs.any p)) :=
 Sat.clo (pre := [_]) (zOs _ _ _ fun ok => by
  rw [zNs]
  refine call1 (z1v he hp) ?_
  rw [zyb _ _ (Int.le_refl 0)])
theorem z7v {xs : List (List Int)} {g : FuncId} {rs : Option (List Ty)} {cap : List D} {p : (List Int) → Bool} (he : Ent Tryz.prog g) (hp : ∀ x ∈ xs, Sat Tryz.prog g (.sl .int x :: cap) (.bool (p x))) : Sat Tryz.prog zPf [.sl (.list .int) xs, .clo g rs cap] (.bool (xs.any p)) :=
 Sat.clo (pre := [_]) (zQs _ _ _ fun ok => by
  rw [zPs]
  refine call1 (z2v he hp) ?_
  rw [zyb _ _ (Int.le_refl 0)])
theorem zoe {xs : List Int} {a : Int} : Sat Tryz.prog z7b [.sl .int xs, dI a] (.bool (xs.any fun x => decide (a = x))) :=
 z6s _ _ fun ok => by
  rw [z5s]
  refine call1 (z3v (a := a)) ?_
  rw [zyb _ _ (Int.le_refl 0)]
theorem zYm {xs : List LitD} {g : FuncId} {rs : Option (List Ty)} {cap : List D} {p : LitD → Bool} (he : Ent Tryz.prog g) (hp : ∀ x ∈ xs, Sat Tryz.prog g (dL x :: cap) (.bool (p x))) : Sat Tryz.prog z5d [.sl .lit xs, .clo g rs cap] (.bool (xs.any p)) :=
 Sat.clo (pre := [_]) (z8s _ _ _ fun ok => by
  rw [z7s]
  refine call1 (z4v he hp) ?_
  rw [zyb _ _ (Int.le_refl 0)])
theorem z8v : Ent Tryz.prog zyf := fun args w => Tryz.call64 args w
theorem z9v : Ent Tryz.prog zBf := fun args w => Tryz.call75 args w
theorem zaw : Ent Tryz.prog zDf := fun args w => Tryz.call79 args w
theorem zbw : Ent Tryz.prog zEf := fun args w => Tryz.call80 args w
theorem zcw : Ent Tryz.prog zLf := fun args w => Tryz.call90 args w
theorem zZm : Ent Tryz.prog zZd := fun args w => Tryz.call91 args w
theorem z0m : Ent Tryz.prog zCb := fun args w => Tryz.call92 args w
theorem zdw : Ent Tryz.prog zNf := fun args w => Tryz.call95 args w
theorem zew : Ent Tryz.prog zOf := fun args w => Tryz.call97 args w
theorem zfw : Ent Tryz.prog zQf := fun args w => Tryz.call104 args w
theorem zgw : Ent Tryz.prog zDb := fun args w => Tryz.call113 args w
theorem zhw : Ent Tryz.prog zTf := fun args w => Tryz.call116 args w
theorem ziw : Ent Tryz.prog z6b := fun args w => Tryz.call133 args w
theorem zjw : Ent Tryz.prog zEb := fun args w => Tryz.call140 args w
theorem zkw : Ent Tryz.prog z4c := fun args w => Tryz.call143 args w
theorem zlw : Ent Tryz.prog z5f := fun args w => Tryz.call145 args w
theorem zmw : Ent Tryz.prog z6f := fun args w => Tryz.call146 args w
theorem znw : Ent Tryz.prog z5c := fun args w => Tryz.call147 args w
theorem zow : Ent Tryz.prog zag := fun args w => Tryz.call161 args w
theorem zpw : Ent Tryz.prog zi := fun args w => Tryz.call167 args w
theorem zqw : Ent Tryz.prog zAc := fun args w => Tryz.call170 args w
theorem zrw : Ent Tryz.prog zfg := fun args w => Tryz.call172 args w
theorem zsw : Ent Tryz.prog zgg := fun args w => Tryz.call173 args w
theorem ztw : Ent Tryz.prog zBc := fun args w => Tryz.call174 args w
theorem zuw : Ent Tryz.prog zlg := fun args w => Tryz.call195 args w
theorem zvw : Ent Tryz.prog zog := fun args w => Tryz.call229 args w
theorem zww : Ent Tryz.prog zpg := fun args w => Tryz.call230 args w
end Go.Proofs.YtajnbkhgnppckaaGreatDoor
/- Short names for data, and what functions that are handed on may be. -/
namespace Go.Proofs.YtajnbkhgnppckaaGreatDoor
open Go.RowKit
set_option linter.unusedVariables false
end Go.Proofs.YtajnbkhgnppckaaGreatDoor
/- What names of variables are, out of the walks of tokens: told to the denotation. -/
namespace Go.Proofs.YtajnbkhgnppckaaGreatDoor
open Go.RowKit
set_option linter.unusedVariables false
theorem z1m {P : Program} {f : FuncId} {s : ByteArray} {b : Bool} (h : s.size ≤ 140737488355328 → ∀ w, Calls P f #[.string s] w fun e w' => e = .returned (.bool b) ∧ Below w.heap.size w w') : Sat P f [.str s] (.bool b) := by
 intro w S vs hS hl hv _
 obtain ⟨e0, hz⟩ := (hv 0 _ rfl).str_inv
 have e : vs = #[.string s] := by
  have hl : vs.size = 1 := hl
  apply Array.ext
  ·simpa using hl
  ·intro i h1 h2
   have : i = 0 := by omega
   subst this
   simpa [Array.getD_eq_getD_getElem?, h1] using e0
 subst e
 exact (h hz w).mono fun e w' ⟨he, hb⟩ => ⟨_, he, .bool b, hb⟩
theorem zxw (s : ByteArray) : Sat Tryz.prog zhj [.str s] (.bool (isNameS s)) := z1m fun _ w => zOr s w
theorem zyw (s : ByteArray) : Sat Tryz.prog zgj [.str s] (.bool (isNameS s)) := z1m fun hz w => zQr s w hz
end Go.Proofs.YtajnbkhgnppckaaGreatDoor
/- What the program's and the document's test of a model answer. -/
namespace Go.Proofs.YtajnbkhgnppckaaGreatDoor
open Go.RowKit
set_option linter.unusedVariables false
set_option linter.unusedSimpArgs false
theorem zJb (n a b : Int) : Sat Tryz.prog zV [dI n, dI a, dI b] (dB (inR n a b)) :=
 zCt n a b fun ok => by rw [zBt]; (repeat' (refine za (fun _ => ?_) (fun _ => ?_))) <;> simp_all [inR] <;> omega
theorem zab (n a b : Int) : Sat Tryz.prog zF [dI n, dI a, dI b] (dB (inR n a b)) :=
 zCu n a b fun ok => by rw [zBu]; (repeat' (refine za (fun _ => ?_) (fun _ => ?_))) <;> simp_all [inR] <;> omega
theorem zOh (n : Int) : Sat Tryz.prog zuc [dI n] (dB (inR n (-1000) 1000)) :=
 z3u n fun ok => by rw [z2u]; exact call1 (zab _ _ _) rfl
theorem zPh (n : Int) : Sat Tryz.prog zCb [dI n] (dB (farB n)) :=
 zZt n fun ok => by rw [zYt]; exact call1 (zJb _ _ _) rfl
theorem z2m (n : Int) (m : MdlD) (h : m.vars.length ≤ 9223372036854775807) : Sat Tryz.prog zZd [dI n, .iptr [.sl .var m.vars, .sl .con m.cons, .int .i64 m.goal, .int .i64 m.var] 0] (dB (noneB m.vars.length n)) :=
 zXt n m fun ok => by
  rw [zWt, w64_eq (by omega) (by omega)]; exact call1 (zJb _ _ _) rfl
theorem zzw (l : LitD) {g : FuncId} {cap : List D} {b : Bool} (he : Ent Tryz.prog g) (h : Sat Tryz.prog g (dI l.var :: cap) (dB b)) : Sat Tryz.prog zNf [dL l, .iptr [.clo g none cap] 0] (dB b) :=
 Sat.iclo (pre := [_]) (z3t l g cap fun ok => by rw [z2t]; exact ⟨he, call1 h rfl⟩)
theorem zAw (l : List Int) {g : FuncId} {cap : List D} {p : Int → Bool} (he : Ent Tryz.prog g) (h : ∀ x ∈ l, Sat Tryz.prog g (dI x :: cap) (dB (p x))) : Sat Tryz.prog zOf [.sl .int l, .iptr [.clo g none cap] 0] (dB (l.any p)) :=
 Sat.iclo (pre := [_]) (z5t l g cap fun ok => by rw [z4t]; exact call1 (zne he h) rfl)
theorem zBw (l : List Int) (c : ConD) : Sat Tryz.prog z6b [.sl .int l, .iptr [.int .i64 c.kind, .sl .int c.vars, .sl .int c.consts, .int .i64 c.n, .sl (.list .int) c.rows, .sl .lit c.lits] 0] (dB (!decide (l.length = c.vars.length))) :=
 zlu l c fun ok => by rw [zku]; congr 2; exact decide_eq_decide.2 (by omega)
theorem zvj (a b : Int) : Sat Tryz.prog z2c [dI a, dI b] (dB (decide (b = -1) || decide (a = b))) :=
 zju a b fun ok => by rw [ziu]; (repeat' (refine za (fun _ => ?_) (fun _ => ?_))) <;> simp_all
def shapeOf (c : ConD) : Int × Int × Int × Int × Int :=
 if c.kind = 1 ∨ c.kind = 2 ∨ c.kind = 3 then (1, 4, c.vars.length, 0, 0) else if c.kind = 4 then (1, 4, 0, 0, 0) else if c.kind = 5 then (2, 2, -1, 0, 0)
 else if c.kind = 6 then (1, 4, 0, -1, 0) else if c.kind = 7 then (3, 3, 0, 0, 0) else if c.kind = 8 then (2, 4, 0, 0, 0) else if c.kind = 9 then (0, 0, 0, 0, -1) else (1, 1, 0, 0, 1)
theorem zCw (c : ConD) : Sat Tryz.prog zYf [dC c] (toD (.pr .int (.pr .int (.pr .int (.pr .int .int)))) (shapeOf c)) :=
 zhu c fun ok => by
  rw [zgu]
  unfold shapeOf
  (repeat' (refine za (fun _ => ?_) (fun _ => ?_))) <;> simp_all <;> rfl
def isB (a b : Int) : Bool := decide (b = -1) || decide (a = b)
def formP (c : ConD) : Bool :=
 inR c.vars.length (shapeOf c).1 (shapeOf c).2.1 && isB c.consts.length (shapeOf c).2.2.1 && isB c.rows.length (shapeOf c).2.2.2.1 && isB c.lits.length (shapeOf c).2.2.2.2 &&
 !(decide (c.kind = 5) && decide ((c.consts.length : Int) = 0)) && !(decide (3 < c.kind) && !decide (c.n = 0)) && !(c.rows.any fun r => !decide (r.length = c.vars.length))
theorem zDw (c : ConD) : Sat Tryz.prog zMf [dC c] (dB (formP c)) :=
 z1t c fun ok => by
  rw [z0t]
  refine call1 (zCw c) (call1 (zJb _ _ _) (za (fun e1 => ?_) fun e1 => call1 (zvj _ _) (za (fun e2 => ?_) fun e2 => call1 (zvj _ _) (za (fun e3 => ?_) fun e3 => call1 (zvj _ _) (za (fun e4 => ?_) fun e4 => ?_)))))
  all_goals try simp only [Bool.not_eq_eq_eq_not, Bool.not_true, Bool.not_false] at *
  ·simp only [formP, isB, e1, Bool.false_and]
  ·simp only [formP, isB, e2, Bool.false_and, Bool.and_false]
  ·simp only [formP, isB, e3, Bool.false_and, Bool.and_false]
  ·simp only [formP, isB, e4, Bool.false_and, Bool.and_false]
  have hr : Sat Tryz.prog znb [.sl (.list .int) c.rows, .clo z6b none [.iptr [.int .i64 c.kind, .sl .int c.vars, .sl .int c.consts, .int .i64 c.n, .sl (.list .int) c.rows, .sl .lit c.lits] 0]] (dB (c.rows.any fun r => !decide (r.length = c.vars.length))) := zuj ziw fun x _ => zBw x c
  (repeat' (refine za (fun _ => ?_) (fun _ => ?_)))
  all_goals first | (refine call1 hr ?_; simp only [formP, isB, *, Bool.true_and, Bool.and_true, Bool.not_true, Bool.not_false, Bool.and_false, Bool.false_and]; done) | (simp only [formP, isB, *, Bool.true_and, Bool.and_true, Bool.not_true, Bool.not_false, Bool.and_false, Bool.false_and]; done)
theorem zEw (c : ConD) (h1 : 1 ≤ c.kind) (h2 : c.kind ≤ 10) (h3 : c.vars.length ≤ 4) : formP c = formB c := by
 have hk : c.kind = 1 ∨ c.kind = 2 ∨ c.kind = 3 ∨ c.kind = 4 ∨ c.kind = 5 ∨ c.kind = 6 ∨ c.kind = 7 ∨ c.kind = 8 ∨ c.kind = 9 ∨ c.kind = 10 := by omega
 have ha : (c.rows.any fun r => !decide (r.length = c.vars.length)) = !(c.rows.all fun r => decide (r.length = c.vars.length)) := by
  rw [List.all_eq_not_any_not, Bool.not_not]
 have hq : c.rows.length = 0 → (c.rows.all fun r => decide (r.length = c.vars.length)) = true := fun h => by rw [List.length_eq_zero_iff.1 h]; rfl
 unfold formP formB shapeOf
 rw [ha]
 dsimp only
 revert hq
 generalize (c.rows.all fun r => decide (r.length = c.vars.length)) = q
 generalize c.vars.length = v at *
 generalize c.consts.length = k
 generalize c.rows.length = rr
 generalize c.lits.length = l
 rcases hk with h | h | h | h | h | h | h | h | h | h <;> simp only [h, isB, inR] <;> rw [Bool.eq_iff_iff] <;> intro hq <;> cases q <;> simp_all <;> first | omega | (rw [Bool.eq_iff_iff]; simp; omega)
theorem conE_1 {nv : Nat} {c : ConD} (h : inR c.kind 1 10 = false) : conE nv c = 7 := by rw [conE, if_pos h]
theorem conE_2 {nv : Nat} {c : ConD} (h1 : ¬inR c.kind 1 10 = false) (h : manyB c = true) : conE nv c = 2 := by rw [conE, if_neg h1, if_pos h]
theorem conE_3 {nv : Nat} {c : ConD} (h1 : ¬inR c.kind 1 10 = false) (h2 : ¬manyB c = true) (h : formB c = false) : conE nv c = 1 := by rw [conE, if_neg h1, if_neg h2, if_pos h]
theorem conE_4 {nv : Nat} {c : ConD} (h1 : ¬inR c.kind 1 10 = false) (h2 : ¬manyB c = true) (h3 : ¬formB c = false) (h : (c.vars.any (noneB nv) || c.lits.any fun l => noneB nv l.var) = true) : conE nv c = 5 := by rw [conE, if_neg h1, if_neg h2, if_neg h3, if_pos h]
theorem conE_5 {nv : Nat} {c : ConD} (h1 : ¬inR c.kind 1 10 = false) (h2 : ¬manyB c = true) (h3 : ¬formB c = false) (h4 : ¬(c.vars.any (noneB nv) || c.lits.any fun l => noneB nv l.var) = true) (h : (c.consts.any farB || farB c.n || c.rows.any fun r => r.any farB) = true) : conE nv c = 3 := by rw [conE, if_neg h1, if_neg h2, if_neg h3, if_neg h4, if_pos h]
theorem conE_6 {nv : Nat} {c : ConD} (h1 : ¬inR c.kind 1 10 = false) (h2 : ¬manyB c = true) (h3 : ¬formB c = false) (h4 : ¬(c.vars.any (noneB nv) || c.lits.any fun l => noneB nv l.var) = true) (h5 : ¬(c.consts.any farB || farB c.n || c.rows.any fun r => r.any farB) = true) : conE nv c = firstE (fun _ l => opE l) 0 c.lits := by rw [conE, if_neg h1, if_neg h2, if_neg h3, if_neg h4, if_neg h5]
theorem dI_of {a b : Int} (h : b = a) : D.int .i64 a = dI b := by rw [h]
theorem zFw (m : MdlD) (c : ConD) (hm : m.vars.length ≤ 6) : Sat Tryz.prog zxf [dM m, dC c] (dI (conE m.vars.length c)) :=
 zAt m c fun ok => by
  have hm' : m.vars.length ≤ 9223372036854775807 := by omega
  rw [zzt]
  refine za (fun e => ?_) fun e1 => za (fun e => ?_) fun e2 => ?_
  ·exact dI_of (conE_1 (zQ.2 (.inl (of_decide_eq_true e))))
  ·exact dI_of (conE_1 (zQ.2 (.inr (of_decide_eq_true e))))
  simp at e1 e2
  have k1 : ¬inR c.kind 1 10 = false := by rw [zQ]; omega
  refine za (fun e => ?_) fun e3 => za (fun e => ?_) fun e4 => za (fun e => ?_) fun e5 => za (fun e => ?_) fun e6 => ?_
  iterate 4 (exact dI_of (conE_2 k1 (by simp at e; simp [manyB]; omega)))
  simp at e3 e4 e5 e6
  have k2 : ¬manyB c = true := by simp [manyB]; omega
  refine call1 (zDw c) ?_
  rw [zEw c e1 e2 (by omega)]
  refine za (fun e => ?_) fun e => ?_
  ·exact dI_of (conE_3 k1 k2 (by simpa using e))
  have k3 : ¬formB c = false := by simpa using e
  refine call1 (zne (p := noneB m.vars.length) zZm fun x _ => z2m x m hm') (za (fun e => ?_) fun e7 => ?_)
  ·exact dI_of (conE_4 k1 k2 k3 (by rw [e]; rfl))
  refine call1 (zXm (p := fun l => noneB m.vars.length l.var) zdw fun x _ => zzw x zZm (z2m x.var m hm')) (za (fun e => ?_) fun e8 => ?_)
  ·exact dI_of (conE_4 k1 k2 k3 (by rw [e, Bool.or_true]))
  have k4 : ¬(c.vars.any (noneB m.vars.length) || c.lits.any fun l => noneB m.vars.length l.var) = true := by rw [e7, e8]; decide
  refine call1 (zne (p := farB) z0m fun x _ => zPh x) (za (fun e => ?_) fun e9 => ?_)
  ·exact dI_of (conE_5 k1 k2 k3 k4 (by rw [e]; rfl))
  refine call1 (zPh _) (za (fun e => ?_) fun e10 => ?_)
  ·exact dI_of (conE_5 k1 k2 k3 k4 (by rw [e, Bool.or_true]; rfl))
  refine call1 (zuj (p := fun r => r.any farB) zew fun x _ => zAw x z0m fun n _ => zPh n) (za (fun e => ?_) fun e11 => ?_)
  ·exact dI_of (conE_5 k1 k2 k3 k4 (by rw [e, Bool.or_true]))
  have k5 : ¬(c.consts.any farB || farB c.n || c.rows.any fun r => r.any farB) = true := by rw [e9, e10, e11]; decide
  rw [conE_6 k1 k2 k3 k4 k5]
  refine err0 (I := fun n v => zTg c _ n v) c.lits (fun _ l => opE l) (by omega) (X := fun x => D.int .i64 x = dI (firstE (fun _ l => opE l) 0 c.lits)) (Y := D.int .i64 0 = dI (firstE (fun _ l => opE l) 0 c.lits)) (fun _ => rfl) (fun e => dI_of e) (fun n k h _ hX hn => ?_) fun n hY => ?_
  ·rw [z7l, sel_lt h, at_nat (t := .lit) h]
   unfold opE at hX hn
   refine ⟨inb_nat h, za (fun e => ?_) fun e1 => za (fun e => ?_) fun e2 => call1 (zPh _) (za (fun e => ?_) fun e => ?_)⟩
   ·have i : inR c.lits[k].op 1 4 = false := zQ.2 (.inl (of_decide_eq_true e))
    rw [if_pos i] at hX; exact hX (by decide)
   ·have i : inR c.lits[k].op 1 4 = false := zQ.2 (.inr (of_decide_eq_true e))
    rw [if_pos i] at hX; exact hX (by decide)
   ·have i : ¬inR c.lits[k].op 1 4 = false := by rw [zQ]; simp at e1 e2; omega
    rw [if_neg i, if_pos e] at hX; exact hX (by decide)
   ·have i : ¬inR c.lits[k].op 1 4 = false := by rw [zQ]; simp at e1 e2; omega
    rw [if_neg i, if_neg (by rw [e]; decide)] at hn; exact hn rfl
  ·rw [z7l, sel_end]; exact hY
end Go.Proofs.YtajnbkhgnppckaaGreatDoor
/- What the program's test of a model answers: variables, and all. -/
namespace Go.Proofs.YtajnbkhgnppckaaGreatDoor
open Go.RowKit
set_option linter.unusedVariables false
set_option linter.unusedSimpArgs false
theorem zGw (u v : VarD) : Sat Tryz.prog zLf [dV u, .iptr [.str v.name, .int .i64 v.lo, .int .i64 v.hi] 0] (dB (u.name.toList == v.name.toList)) :=
 zVt u v fun ok => by rw [zUt, str_beq]
def lohiE (v : VarD) : Int := if (!inR v.lo (-50) 50 || !inR v.hi (-50) 50 || decide (v.hi < v.lo)) = true then 3 else if 6 ≤ v.hi - v.lo then 2 else 0
theorem varE_1 {a : List VarD} {v : VarD} (h : isNameS v.name = false) : varE a v = 1 := by rw [varE, if_pos h]
theorem varE_2 {a : List VarD} {v : VarD} (h1 : ¬isNameS v.name = false) (h : (a.any fun u => u.name.toList == v.name.toList) = true) : varE a v = 6 := by rw [varE, if_neg h1, if_pos h]
theorem varE_3 {a : List VarD} {v : VarD} (h1 : ¬isNameS v.name = false) (h2 : ¬(a.any fun u => u.name.toList == v.name.toList) = true) : varE a v = lohiE v := by rw [varE, if_neg h1, if_neg h2]; rfl
theorem lohi_1 {v : VarD} (h : (!inR v.lo (-50) 50) = true) : lohiE v = 3 := by rw [lohiE, h]; rfl
theorem lohi_2 {v : VarD} (h : (!inR v.hi (-50) 50) = true) : lohiE v = 3 := by rw [lohiE, h, Bool.or_true]; rfl
theorem lohi_3 {v : VarD} (h : decide (v.hi < v.lo) = true) : lohiE v = 3 := by rw [lohiE, h, Bool.or_true]; rfl
theorem lohi_4 {v : VarD} (h1 : (!inR v.lo (-50) 50) = false) (h2 : (!inR v.hi (-50) 50) = false) (h3 : decide (v.hi < v.lo) = false) : lohiE v = if 6 ≤ v.hi - v.lo then 2 else 0 := by rw [lohiE, h1, h2, h3]; rfl
theorem zHw (l : List VarD) : Sat Tryz.prog zwf [.sl .var l] (dI (varsE l)) :=
 zyt l fun ok => by
  rw [zxt]
  refine err0 (I := fun n v => zRg l _ n v) l (fun i v => varE (l.take i) v) (okLen (t := .var) (ok1 ok)) (X := fun x => D.int .i64 x = dI (varsE l)) (Y := D.int .i64 0 = dI (varsE l)) (fun _ => rfl) (fun e => dI_of e) (fun n k h _ hX hn => ?_) fun n hY => ?_
  ·rw [z6l, sel_lt h, at_nat (t := .var) h]
   refine ⟨inb_nat h, call1 (zxw _) (za (fun e => ?_) fun e => ?_)⟩
   ·rw [varE_1 (by simpa using e)] at hX; exact hX (by decide)
   have k1 : ¬isNameS l[k].name = false := by simpa using e
   refine ⟨by unfold inSl; simp; omega, ?_⟩
   rw [show ((l.take (k : Int).toNat).drop 0) = l.take k by rw [Int.toNat_natCast, List.drop_zero]]
   refine call1 (z6v (p := fun u => u.name.toList == l[k].name.toList) zcw fun x _ => zGw x _) (za (fun e => ?_) fun e => ?_)
   ·rw [varE_2 k1 e] at hX; exact hX (by decide)
   rw [varE_3 k1 (by rw [e]; decide)] at hX hn
   refine call1 (zJb _ _ _) (za (fun e => ?_) fun e1 => call1 (zJb _ _ _) (za (fun e => ?_) fun e2 => (za (fun e => ?_) fun e3 => ?_)))
   ·rw [lohi_1 e] at hX; exact hX (by decide)
   ·rw [lohi_2 e] at hX; exact hX (by decide)
   ·rw [lohi_3 e] at hX; exact hX (by decide)
   rw [lohi_4 e1 e2 e3] at hX hn
   simp [inR] at e1 e2
   rw [w64_eq (by omega) (by omega)]
   refine za (fun e => ?_) fun e => ?_
   ·rw [if_pos (of_decide_eq_true e)] at hX; exact hX (by decide)
   ·exact hn (if_neg (of_decide_eq_false e))
  ·rw [z6l, sel_end]; exact hY
theorem z3m {m : MdlD} (h : m.vars.length = 0) : checkM m = 1 := by rw [checkM, if_pos h]
theorem zQh {m : MdlD} (h1 : ¬m.vars.length = 0) (h : 6 < m.vars.length ∨ 8 < m.cons.length) : checkM m = 2 := by rw [checkM, if_neg h1, if_pos h]
theorem z4m {m : MdlD} (h1 : ¬m.vars.length = 0) (h2 : ¬(6 < m.vars.length ∨ 8 < m.cons.length)) (h : varsE m.vars ≠ 0) : checkM m = varsE m.vars := by rw [checkM, if_neg h1, if_neg h2, if_pos h]
theorem z5m {m : MdlD} (h1 : ¬m.vars.length = 0) (h2 : ¬(6 < m.vars.length ∨ 8 < m.cons.length)) (h3 : ¬varsE m.vars ≠ 0) (h : firstE (fun _ c => conE m.vars.length c) 0 m.cons ≠ 0) : checkM m = firstE (fun _ c => conE m.vars.length c) 0 m.cons := by rw [checkM, if_neg h1, if_neg h2, if_neg h3, if_pos h]
theorem z6m {m : MdlD} (h1 : ¬m.vars.length = 0) (h2 : ¬(6 < m.vars.length ∨ 8 < m.cons.length)) (h3 : ¬varsE m.vars ≠ 0) (h : ¬firstE (fun _ c => conE m.vars.length c) 0 m.cons ≠ 0) : checkM m = goalE m := by rw [checkM, if_neg h1, if_neg h2, if_neg h3, if_neg h]
theorem goalE_1 {m : MdlD} (h : inR m.goal 0 2 = false) : goalE m = 7 := by rw [goalE, if_pos h]
theorem goalE_2 {m : MdlD} (h1 : ¬inR m.goal 0 2 = false) (h : m.goal = 0) (h2 : m.var ≠ 0) : goalE m = 1 := by rw [goalE, if_neg h1, if_pos ⟨h, h2⟩]
theorem goalE_3 {m : MdlD} (h1 : ¬inR m.goal 0 2 = false) (h : m.goal = 0) (h2 : ¬m.var ≠ 0) : goalE m = 0 := by rw [goalE, if_neg h1, if_neg (fun x => h2 x.2), if_neg (fun x => x.1 h)]
theorem goalE_4 {m : MdlD} (h1 : ¬inR m.goal 0 2 = false) (h : ¬m.goal = 0) (h2 : noneB m.vars.length m.var = true) : goalE m = 5 := by rw [goalE, if_neg h1, if_neg (fun x => h x.1), if_pos ⟨h, h2⟩]
theorem goalE_5 {m : MdlD} (h1 : ¬inR m.goal 0 2 = false) (h : ¬m.goal = 0) (h2 : ¬noneB m.vars.length m.var = true) : goalE m = 0 := by rw [goalE, if_neg h1, if_neg (fun x => h x.1), if_neg (fun x => h2 x.2)]
theorem zpe (m : MdlD) : Sat Tryz.prog zAb [dM m] (dI (checkM m)) :=
 zqt m fun ok => by
  rw [zpt]
  refine za (fun e => ?_) fun e1 => za (fun e => ?_) fun e2 => za (fun e => ?_) fun e3 => ?_
  ·exact dI_of (z3m (by simp at e; simp [e]))
  ·simp at e1 e; exact dI_of (zQh (by simp [e1]) (.inl (by omega)))
  ·simp at e1 e; exact dI_of (zQh (by simp [e1]) (.inr (by omega)))
  simp at e1 e2 e3
  have k1 : ¬m.vars.length = 0 := by simp [e1]
  have k2 : ¬(6 < m.vars.length ∨ 8 < m.cons.length) := by omega
  refine call1 (zHw _) (za (fun e => ?_) fun e => ?_)
  ·exact dI_of (z4m k1 k2 (zE e))
  have k3 : ¬varsE m.vars ≠ 0 := not_not_intro (zr e)
  refine err0 (I := fun n v => zNg m _ n v) m.cons (fun _ c => conE m.vars.length c) (by omega) (X := fun x => D.int .i64 x = dI (checkM m)) (Y := D.int .i64 (goalE m) = dI (checkM m)) (fun h => dI_of (z5m k1 k2 k3 h)) (fun e => dI_of (z6m k1 k2 k3 (not_not_intro e))) (fun n k h _ hX hn => ?_) fun n hY => ?_
  ·rw [z2l, sel_lt h, at_nat (t := .con) h]
   exact ⟨inb_nat h, call1 (zFw m _ (by omega)) (za (fun e => hX (zE e)) fun e => hn (zr e))⟩
  ·rw [z2l, sel_end, ← hY]
   rw [w64_eq (by omega) (by omega)]
   refine za (fun e => ?_) fun e1 => za (fun e => ?_) fun e2 => ?_
   ·rw [goalE_1 (zQ.2 (.inl (of_decide_eq_true e)))]
   ·rw [goalE_1 (zQ.2 (.inr (of_decide_eq_true e)))]
   have k4 : ¬inR m.goal 0 2 = false := by rw [zQ]; simp at e1 e2; omega
   refine za (fun e => za (fun f => ?_) fun f => ?_) fun e => ?_
   ·rw [goalE_2 k4 (by simpa using e) (by simpa using f)]
   ·have e' : m.goal = 0 := by simpa using e
    rw [e']
    rw [goalE_3 k4 e' (by simpa using f)]; exact rfl
   ·have e' : ¬m.goal = 0 := by simpa using e
    rw [e]
    refine call1 (zJb _ _ _) (za (fun f => ?_) fun f => ?_)
    ·rw [goalE_4 k4 e' f]
    ·rw [goalE_5 k4 e' (by show ¬ (!inR _ _ _) = true; rw [f]; decide)]
end Go.Proofs.YtajnbkhgnppckaaGreatDoor
/- What the document's test of a model answers: the same. -/
namespace Go.Proofs.YtajnbkhgnppckaaGreatDoor
open Go.RowKit
set_option linter.unusedVariables false
set_option linter.unusedSimpArgs false
theorem z7m (m : MdlD) (l : LitD) (hm : m.vars.length ≤ 1000) : Sat Tryz.prog zZc [dM m, dL l] (dI (litE m.vars.length l)) :=
 z5u m l fun ok => by
  rw [z4u, w64_eq (by omega) (by omega)]
  refine call1 (zab _ _ _) (za (fun e => ?_) fun e1 => call1 (zab _ _ _) (za (fun e => ?_) fun e2 => call1 (zOh _) (za (fun e => ?_) fun e3 => ?_)))
  ·exact dI_of (by rw [litE, if_pos (show noneB m.vars.length l.var = true from e)])
  ·have h1 : ¬noneB m.vars.length l.var = true := by show ¬(!inR _ _ _) = true; rw [e1]; decide
   exact dI_of (by rw [litE, if_neg h1, if_pos (by simpa using e)])
  all_goals
   have h1 : ¬noneB m.vars.length l.var = true := by show ¬(!inR _ _ _) = true; rw [e1]; decide
   have h2 : ¬inR l.op 1 4 = false := by simpa using e2
  ·exact dI_of (by rw [litE, if_neg h1, if_neg h2, if_pos (show farB l.n = true from e)])
  ·exact dI_of (by rw [litE, if_neg h1, if_neg h2, if_neg (by show ¬(!inR _ _ _) = true; rw [e3]; decide)])
theorem zIw (c : ConD) (h : c.kind = 6) (hn : c.n = 0) (b : Bool) (hb : (c.rows.all fun r => decide (r.length = c.vars.length)) = b) : formB c = (b && decide (1 ≤ c.vars.length) && decide (c.consts.length = 0) && decide (c.lits.length = 0)) := by
 simp [formB, h, hn, hb]
theorem zJw (c : ConD) (h1 : 1 ≤ c.kind) (h2 : c.kind ≤ 10) : Sat Tryz.prog zzf [dC c] (dB (formB c)) :=
 z1u c fun ok => by
  have okr : c.rows.length ≤ 9223372036854775807 := okCLen (t := .list .int) (okA (i := 4) (ok1 ok) rfl)
  rw [z0u]
  have hk : c.kind = 1 ∨ c.kind = 2 ∨ c.kind = 3 ∨ c.kind = 4 ∨ c.kind = 5 ∨ c.kind = 6 ∨ c.kind = 7 ∨ c.kind = 8 ∨ c.kind = 9 ∨ c.kind = 10 := by omega
  rcases hk with h | h | h | h | h | h | h | h | h | h
  case inr.inr.inr.inr.inr.inl =>
   simp only [h, Int.reduceLT, Int.reduceEq, decide_true, decide_false, zbj, zcj]
   refine za (fun e => ?_) fun e => ?_
   ·simp at e; simp [formB, h, e]
   have e : c.n = 0 := by simpa using e
   refine any0 (I := fun n v => zwh c _ n v) c.rows (fun r => !decide ((r.length : Int) = (c.vars.length : Int))) okr (X := D.bool false = dB (formB c)) (Y := sel (decide (1 ≤ (c.vars.length : Int))) (sel (decide ((c.consts.length : Int) = 0)) (D.bool (decide ((c.lits.length : Int) = 0)) = dB (formB c)) (D.bool false = dB (formB c))) (D.bool false = dB (formB c))) ?_ (fun n k hk hX hn => ?_) fun n hY => ?_
   ·have ha : (c.rows.all fun r => decide (r.length = c.vars.length)) = !(c.rows.any fun r => !decide ((r.length : Int) = (c.vars.length : Int))) := by
     rw [List.all_eq_not_any_not]; congr 2; funext r; congr 1; exact decide_eq_decide.2 (by omega)
    rw [zIw c h e _ ha]
    refine za (fun e => ?_) fun e => ?_
    ·rw [e]; rfl
    ·rw [e]; (repeat' (refine za (fun _ => ?_) (fun _ => ?_))) <;> simp_all <;> omega
   ·rw [zLm, sel_lt hk, at_nat (t := .list .int) hk]
    exact ⟨inb_nat hk, za hX hn⟩
   ·rw [zLm, sel_end]; exact hY
  all_goals
   simp only [h, Int.reduceLT, Int.reduceEq, decide_true, decide_false, zbj, zcj]
   (repeat' (refine za (fun _ => ?_) (fun _ => ?_))) <;> simp_all [formB] <;> first | omega | (rw [Bool.eq_iff_iff]; simp; omega)
theorem litE_op {nv : Nat} {l : LitD} (h : noneB nv l.var = false) : litE nv l = opE l := by rw [litE, if_neg (by rw [h]; decide)]; rfl
theorem z8m {α : Type} {p : α → Bool} {l : List α} (h : l.any p = false) {k : Nat} (hk : k < l.length) : p l[k] = false := by
 rw [List.any_eq_false] at h
 simpa using h _ (List.getElem_mem hk)
theorem zKw (m : MdlD) (c : ConD) (hm : m.vars.length ≤ 6) : Sat Tryz.prog zof [dM m, dC c] (dI (conE m.vars.length c)) :=
 zEu m c fun ok => by
  have hm' : m.vars.length ≤ 9223372036854775807 := by omega
  have okr : c.rows.length ≤ 9223372036854775807 := okCLen (t := .list .int) (okA (i := 4) (ok1 (okR ok)) rfl)
  have okr2 : ∀ k (h : k < c.rows.length), c.rows[k].length ≤ 9223372036854775807 := fun k h => okLen (t := .int) ((ok_list (t := .list .int) (okA (i := 4) (ok1 (okR ok)) rfl)).2 _ (List.getElem_mem h))
  rw [zDu]
  refine call1 (zab _ _ _) (za (fun e => ?_) fun e1 => ?_)
  ·exact dI_of (conE_1 (by simpa using e))
  have k1 : ¬inR c.kind 1 10 = false := by simpa using e1
  obtain ⟨h1, h2⟩ : 1 ≤ c.kind ∧ c.kind ≤ 10 := by simpa [inR] using e1
  refine za (fun e => ?_) fun e3 => za (fun e => ?_) fun e4 => za (fun e => ?_) fun e5 => za (fun e => ?_) fun e6 => ?_
  iterate 4 (exact dI_of (conE_2 k1 (by simp at e; simp [manyB]; omega)))
  simp at e3 e4 e5 e6
  have k2 : ¬manyB c = true := by simp [manyB]; omega
  refine call1 (zJw c h1 h2) (za (fun e => ?_) fun e => ?_)
  ·exact dI_of (conE_3 k1 k2 (by simpa using e))
  have k3 : ¬formB c = false := by simpa using e
  refine any1 (I := fun n v => zjh m c _ n v) c.vars (noneB m.vars.length) (by omega) (X := D.int .i64 5 = dI (conE m.vars.length c)) (fun e => dI_of (conE_4 k1 k2 k3 (by rw [e]; rfl))) (fun n k h hX hn => ?_) fun e7 n => ?_
  ·rw [zGm, sel_lt h, at_nat (t := .int) h, w64_eq (by omega) (by omega)]
   exact ⟨inb_nat h, call1 (zab _ _ _) (za hX hn)⟩
  rw [zGm, sel_end]
  refine any1 (I := fun n v => zih m c _ n v) c.lits (fun l => noneB m.vars.length l.var) (by omega) (X := D.int .i64 5 = dI (conE m.vars.length c)) (fun e => dI_of (conE_4 k1 k2 k3 (by rw [e, Bool.or_true]))) (fun n k h hX hn => ?_) fun e8 n => ?_
  ·rw [zFm, sel_lt h, at_nat (t := .lit) h, w64_eq (by omega) (by omega)]
   exact ⟨inb_nat h, call1 (zab _ _ _) (za hX hn)⟩
  rw [zFm, sel_end]
  have k4 : ¬(c.vars.any (noneB m.vars.length) || c.lits.any fun l => noneB m.vars.length l.var) = true := by rw [e7, e8]; decide
  refine any1 (I := fun n v => zhh m c _ n v) c.consts farB (by omega) (X := D.int .i64 3 = dI (conE m.vars.length c)) (fun e => dI_of (conE_5 k1 k2 k3 k4 (by rw [e]; rfl))) (fun n k h hX hn => ?_) fun e9 n => ?_
  ·rw [zEm, sel_lt h, at_nat (t := .int) h]
   exact ⟨inb_nat h, call1 (zOh _) (za hX hn)⟩
  rw [zEm, sel_end]
  refine call1 (zOh _) (za (fun e => ?_) fun e10 => ?_)
  ·exact dI_of (conE_5 k1 k2 k3 k4 (by rw [show farB c.n = true from e, Bool.or_true]; rfl))
  refine any1 (I := fun n v => zgh m c _ n v) c.rows (fun r => r.any farB) okr (X := D.int .i64 3 = dI (conE m.vars.length c)) (fun e => dI_of (conE_5 k1 k2 k3 k4 (by rw [e, Bool.or_true]))) (fun n k h hX hn => ?_) fun e11 n => ?_
  ·rw [zDm, sel_lt h]
   refine any1 (I := fun n2 v => zeh m c _ n k n2 v) c.rows[k] farB (okr2 k h) hX (fun n2 j hj hX2 hn2 => ?_) fun e n2 => ?_
   ·rw [zBm, at_nat (t := .list .int) h, sel_lt hj, at_nat (t := .int) hj]
    exact ⟨inb_nat h, inb_nat h, inb_nat hj, call1 (zOh _) (za hX2 hn2)⟩
   ·rw [zBm, at_nat (t := .list .int) h, sel_end]
    exact ⟨inb_nat h, hn e⟩
  rw [zDm, sel_end]
  have k5 : ¬(c.consts.any farB || farB c.n || c.rows.any fun r => r.any farB) = true := by rw [e9, e11, show farB c.n = false from e10]; decide
  rw [conE_6 k1 k2 k3 k4 k5]
  refine err0 (I := fun n v => zfh m c _ n v) c.lits (fun _ l => opE l) (by omega) (X := fun x => D.int .i64 x = dI (firstE (fun _ l => opE l) 0 c.lits)) (Y := D.int .i64 0 = dI (firstE (fun _ l => opE l) 0 c.lits)) (fun _ => rfl) (fun e => dI_of e) (fun n k h _ hX hn => ?_) fun n hY => ?_
  ·rw [zCm, sel_lt h, at_nat (t := .lit) h]
   have := z7m m c.lits[k] (by omega)
   rw [litE_op (z8m e8 h)] at this
   exact ⟨inb_nat h, call1 this (za (fun e => hX (zE e)) fun e => hn (zr e))⟩
  ·rw [zCm, sel_end]; exact hY
theorem zLw (m : MdlD) : Sat Tryz.prog zjf [dM m] (dI (checkM m)) :=
 zpu m fun ok => by
  rw [zou]
  refine za (fun e => ?_) fun e1 => za (fun e => ?_) fun e2 => za (fun e => ?_) fun e3 => ?_
  ·exact dI_of (z3m (by simp at e; simp [e]))
  ·simp at e1 e; exact dI_of (zQh (by simp [e1]) (.inl (by omega)))
  ·simp at e1 e; exact dI_of (zQh (by simp [e1]) (.inr (by omega)))
  simp at e1 e2 e3
  have k1 : ¬m.vars.length = 0 := by simp [e1]
  have k2 : ¬(6 < m.vars.length ∨ 8 < m.cons.length) := by omega
  refine err1 (I := fun n v => z6g m _ n v) m.vars (fun i v => varE (m.vars.take i) v) (by omega) (X := fun x => D.int .i64 x = dI (checkM m)) (fun h => dI_of (z4m k1 k2 h)) (fun n k h _ hX hn => ?_) fun e n => ?_
  ·rw [ztm, sel_lt h, at_nat (t := .var) h]
   refine ⟨inb_nat h, call1 (zyw _) (za (fun e => ?_) fun e => ?_)⟩
   ·rw [varE_1 (by simpa using e)] at hX; exact hX (by decide)
   have k3 : ¬isNameS m.vars[k].name = false := by simpa using e
   have hl : (m.vars.take k).length = k := by rw [List.length_take]; omega
   refine any1 (I := fun n2 v => z4g m _ n k n2 v) (m.vars.take k) (fun u => u.name.toList == m.vars[k].name.toList) (by omega) (X := D.int .i64 6 = dI (checkM m)) (fun e => ?_) (fun n2 j hj hX2 hn2 => ?_) fun e n2 => ?_
   ·rw [varE_2 k3 e] at hX; exact hX (by decide)
   ·rw [hl] at hj
    rw [zrm, sel_lt hj, at_nat (t := .var) h, at_nat (t := .var) (show j < m.vars.length by omega), ← str_beq]
    rw [List.getElem_take] at hX2 hn2
    exact ⟨inb_nat (by omega), za hX2 hn2⟩
   rw [hl, zrm, sel_end, at_nat (t := .var) h]
   rw [varE_3 k3 (by rw [e]; decide)] at hX hn
   refine call1 (zab _ _ _) (za (fun e => ?_) fun e1 => call1 (zab _ _ _) (za (fun e => ?_) fun e2 => (za (fun e => ?_) fun e3 => ?_)))
   ·rw [lohi_1 e] at hX; exact hX (by decide)
   ·rw [lohi_2 e] at hX; exact hX (by decide)
   ·rw [lohi_3 e] at hX; exact hX (by decide)
   rw [lohi_4 e1 e2 e3] at hX hn
   simp [inR] at e1 e2
   rw [w64_eq (n := m.vars[k].hi - m.vars[k].lo) (by omega) (by omega), w64_eq (n := _ + 1) (by omega) (by omega)]
   refine za (fun e => ?_) fun e => ?_
   ·rw [if_pos (by have := of_decide_eq_true e; omega)] at hX; exact hX (by decide)
   ·exact hn (if_neg (by have := of_decide_eq_false e; omega))
  rw [ztm, sel_end]
  have k3 : ¬varsE m.vars ≠ 0 := not_not_intro e
  refine err1 (I := fun n v => z5g m _ n v) m.cons (fun _ c => conE m.vars.length c) (by omega) (X := fun x => D.int .i64 x = dI (checkM m)) (fun h => dI_of (z5m k1 k2 k3 h)) (fun n k h _ hX hn => ?_) fun e n => ?_
  ·rw [zsm, sel_lt h, at_nat (t := .con) h]
   exact ⟨inb_nat h, call1 (zKw m _ (by omega)) (za (fun e => hX (zE e)) fun e => hn (zr e))⟩
  rw [zsm, sel_end, z6m k1 k2 k3 (not_not_intro e), w64_eq (by omega) (by omega)]
  refine call1 (zab _ _ _) (za (fun e => ?_) fun e => ?_)
  ·rw [goalE_1 (by simpa using e)]
  have k4 : ¬inR m.goal 0 2 = false := by simpa using e
  refine za (fun e => za (fun f => ?_) fun f => ?_) fun e => ?_
  ·rw [goalE_2 k4 (by simpa using e) (by simpa using f)]
  ·have e' : m.goal = 0 := by simpa using e
   rw [e']
   rw [goalE_3 k4 e' (by simpa using f)]; exact rfl
  ·have e' : ¬m.goal = 0 := by simpa using e
   rw [e]
   refine call1 (zab _ _ _) (za (fun f => ?_) fun f => ?_)
   ·rw [goalE_4 k4 e' f]
   ·rw [goalE_5 k4 e' (by show ¬ (!inR _ _ _) = true; rw [f]; decide)]
end Go.Proofs.YtajnbkhgnppckaaGreatDoor
/- From a law's walk, told by the denotation, to what a claim's frame asks. -/
namespace Go.Proofs.YtajnbkhgnppckaaGreatDoor
open Go.RowKit
set_option linter.unusedVariables false
variable {w : World} {S : Nat → Prop} {v : Value}
theorem rdV_agg {t : Ty} {x : t.den} (hn : (cells t x).length ≠ 1) (h : RdV w S v x) : Rp w S v (.agg (cells t x)) := by
 obtain ⟨cs, rfl, h⟩ := h
 have a1 := (zC t h).len
 have a2 := fun i d hd => (zC t h).at (i := i) (b := d) hd
 have e : vOf cs = .agg cs.toArray := by
  match cs, a1 with
  | [], _ => rfl
  | [u], a1 => exact absurd a1.symm hn
  | a :: b :: l, _ => rfl
 rw [e]
 refine .agg _ _ (by simpa using a1) fun i d hd => ?_
 obtain ⟨u, hu, hr⟩ := a2 i d hd
 have : cs.toArray.getD i Go.undef = u := by simp [Array.getD_eq_getD_getElem?, hu]
 rw [this]; exact hr
theorem rds_mdl {m : MdlD} (h : Rds w v m) : Rp w (fun b => b < w.heap.size) v (dM m) := rdV_agg (t := .mdl) (x := m) (by show 4 ≠ 1; decide) h
theorem rds_int {n : Int} (h : inI64 n) : Rp w S (.int .i64 n) (.int .i64 n) := .int .i64 n h
theorem gok_tab {P : Program} {w : World} (h : Lib.TabIs P w "internal/strconv.uint64pow10" .u64 Lib.pow10Tab) : GOk P w fun _ => False := fun g hg => ⟨h, id⟩
theorem Sat.calls {P : Program} {f : FuncId} {args : List D} {b : Bool} (h : Sat P f args (.bool b)) (W : World) {vl : List Value} (hv : All2 (Rp W fun b => b < W.heap.size) vl args) (hg : GOk P W fun _ => False) :
  Calls P f vl.toArray W fun e W' => e = .returned (.bool b) ∧ Below W.heap.size W W' := by
 have h1 := hv.len
 have h2 := fun i d hd => hv.at (i := i) (b := d) hd
 refine (h W _ vl.toArray (fun _ h => h) (by simpa using h1) (fun i d hd => ?_) hg).mono fun e w' ⟨v, he, hr, hb⟩ => ?_
 ·obtain ⟨u, hu, hr⟩ := h2 i d hd
  have : vl.toArray.getD i Go.undef = u := by simp [Array.getD_eq_getD_getElem?, hu]
  rw [this]; exact hr
 ·cases hr
  exact ⟨he, hb⟩
end Go.Proofs.YtajnbkhgnppckaaGreatDoor
