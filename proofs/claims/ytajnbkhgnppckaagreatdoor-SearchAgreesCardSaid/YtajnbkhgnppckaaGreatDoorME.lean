/- Texts of this proof, one behind the other: nothing is handed in but what is proved here; no condition. -/
import Derived.Test.YtajnbkhgnppckaaGreatDoorWSlices
import Derived.Test.YtajnbkhgnppckaaGreatDoorMD
import Derived.Test.YtajnbkhgnppckaaGreatDoorWModel
import Derived.Test.YtajnbkhgnppckaaGreatDoorMC
import Derived.Test.YtajnbkhgnppckaaGreatDoorWCordonref
/- What is sought in a slice: contracts printed by a program. -/
namespace Go.Proofs.YtajnbkhgnppckaaGreatDoor
open Go.RowKit
set_option linter.unusedVariables false
set_option maxRecDepth 100000
theorem zir {xs : List Int} {g : FuncId} {rs : Option (List Ty)} {cap : List D} {p : Int → Bool} (he : Ent Tryz.prog g) (hp : ∀ x ∈ xs, Sat Tryz.prog g (dI x :: cap) (.bool (p x))) : Sat Tryz.prog zte [.sl .int xs, .clo g rs cap] (.int .i64 (ixI p xs 0)) :=
 Sat.clo (pre := [_]) (z0p _ _ _ fun ok => by
  rw [zZp]
  refine seek (t := .int) (p := p) (R := fun d => d = .int .i64 (ixI p xs 0)) (okLen (t := .int) (ok1 ok)) rfl (fun n k h h1 h2 => ?_) fun n hR => ?_
  ·rw [zgj, sel_lt h, at_nat h]
   exact ⟨inb_nat h, he, call1 (hp _ (List.getElem_mem h)) (za h1 h2)⟩
  ·rw [zgj, sel_end]; exact hR)
theorem zjr {xs : List VarD} {g : FuncId} {rs : Option (List Ty)} {cap : List D} {p : VarD → Bool} (he : Ent Tryz.prog g) (hp : ∀ x ∈ xs, Sat Tryz.prog g (dV x :: cap) (.bool (p x))) : Sat Tryz.prog zxe [.sl .var xs, .clo g rs cap] (.int .i64 (ixI p xs 0)) :=
 Sat.clo (pre := [_]) (z6p _ _ _ fun ok => by
  rw [z5p]
  refine seek (t := .var) (p := p) (R := fun d => d = .int .i64 (ixI p xs 0)) (okLen (t := .var) (ok1 ok)) rfl (fun n k h h1 h2 => ?_) fun n hR => ?_
  ·rw [zlj, sel_lt h, at_nat h]
   exact ⟨inb_nat h, he, call1 (hp _ (List.getElem_mem h)) (za h1 h2)⟩
  ·rw [zlj, sel_end]; exact hR)
theorem zkr {xs : List LitD} {g : FuncId} {rs : Option (List Ty)} {cap : List D} {p : LitD → Bool} (he : Ent Tryz.prog g) (hp : ∀ x ∈ xs, Sat Tryz.prog g (dL x :: cap) (.bool (p x))) : Sat Tryz.prog zze [.sl .lit xs, .clo g rs cap] (.int .i64 (ixI p xs 0)) :=
 Sat.clo (pre := [_]) (z8p _ _ _ fun ok => by
  rw [z7p]
  refine seek (t := .lit) (p := p) (R := fun d => d = .int .i64 (ixI p xs 0)) (okLen (t := .lit) (ok1 ok)) rfl (fun n k h h1 h2 => ?_) fun n hR => ?_
  ·rw [zmj, sel_lt h, at_nat h]
   exact ⟨inb_nat h, he, call1 (hp _ (List.getElem_mem h)) (za h1 h2)⟩
  ·rw [zmj, sel_end]; exact hR)
theorem zlr {xs : List (List Int)} {g : FuncId} {rs : Option (List Ty)} {cap : List D} {p : (List Int) → Bool} (he : Ent Tryz.prog g) (hp : ∀ x ∈ xs, Sat Tryz.prog g (.sl .int x :: cap) (.bool (p x))) : Sat Tryz.prog zAe [.sl (.list .int) xs, .clo g rs cap] (.int .i64 (ixI p xs 0)) :=
 Sat.clo (pre := [_]) (zaq _ _ _ fun ok => by
  rw [z9p]
  refine seek (t := (.list .int)) (p := p) (R := fun d => d = .int .i64 (ixI p xs 0)) (okLen (t := (.list .int)) (ok1 ok)) rfl (fun n k h h1 h2 => ?_) fun n hR => ?_
  ·rw [znj, sel_lt h, at_nat h]
   exact ⟨inb_nat h, he, call1 (hp _ (List.getElem_mem h)) (za h1 h2)⟩
  ·rw [znj, sel_end]; exact hR)
theorem zmr {xs : List (List Int)} {g : FuncId} {rs : Option (List Ty)} {cap : List D} {p : (List Int) → Bool} (he : Ent Tryz.prog g) (hp : ∀ x ∈ xs, Sat Tryz.prog g (.sl .int x :: cap) (.bool (p x))) : Sat Tryz.prog zHe [.sl (.list .int) xs, .clo g rs cap] (.int .i64 (ixI p xs 0)) :=
 Sat.clo (pre := [_]) (zgq _ _ _ fun ok => by
  rw [zfq]
  refine seek (t := (.list .int)) (p := p) (R := fun d => d = .int .i64 (ixI p xs 0)) (okLen (t := (.list .int)) (ok1 ok)) rfl (fun n k h h1 h2 => ?_) fun n hR => ?_
  ·rw [zqj, sel_lt h, at_nat h]
   exact ⟨inb_nat h, he, call1 (hp _ (List.getElem_mem h)) (za h1 h2)⟩
  ·rw [zqj, sel_end]; exact hR)
theorem zPj {xs : List TermD} {g : FuncId} {rs : Option (List Ty)} {cap : List D} {p : TermD → Bool} (he : Ent Tryz.prog g) (hp : ∀ x ∈ xs, Sat Tryz.prog g (.agg [dI x.v, dI x.times] :: cap) (.bool (p x))) : Sat Tryz.prog z4c [.sl .term xs, .clo g rs cap] (.int .i64 (ixI p xs 0)) :=
 Sat.clo (pre := [_]) (ziq _ _ _ fun ok => by
  rw [zhq]
  refine seek (t := .term) (p := p) (R := fun d => d = .int .i64 (ixI p xs 0)) (okLen (t := .term) (ok1 ok)) rfl (fun n k h h1 h2 => ?_) fun n hR => ?_
  ·rw [zrj, sel_lt h, at_nat h]
   exact ⟨inb_nat h, he, call1 (hp _ (List.getElem_mem h)) (za h1 h2)⟩
  ·rw [zrj, sel_end]; exact hR)
theorem znr {xs : List Int} {a : Int} : Sat Tryz.prog zQe [.sl .int xs, dI a] (.int .i64 (ixI (fun x => decide (a = x)) xs 0)) :=
 zmq _ _ fun ok => by
  rw [zlq]
  refine seek (t := .int) (p := fun x => decide (a = x)) (R := fun d => d = .int .i64 (ixI (fun x => decide (a = x)) xs 0)) (okLen (t := .int) (ok1 ok)) rfl (fun n k h h1 h2 => ?_) fun n hR => ?_
  ·rw [ztj, sel_lt h, at_nat h]
   exact ⟨inb_nat h, za h1 h2⟩
  ·rw [ztj, sel_end]; exact hR
theorem zor {xs : List LitD} {g : FuncId} {rs : Option (List Ty)} {cap : List D} {p : LitD → Bool} (he : Ent Tryz.prog g) (hp : ∀ x ∈ xs, Sat Tryz.prog g (dL x :: cap) (.bool (p x))) : Sat Tryz.prog zRe [.sl .lit xs, .clo g rs cap] (.int .i64 (ixI p xs 0)) :=
 Sat.clo (pre := [_]) (zoq _ _ _ fun ok => by
  rw [znq]
  refine seek (t := .lit) (p := p) (R := fun d => d = .int .i64 (ixI p xs 0)) (okLen (t := .lit) (ok1 ok)) rfl (fun n k h h1 h2 => ?_) fun n hR => ?_
  ·rw [zuj, sel_lt h, at_nat h]
   exact ⟨inb_nat h, he, call1 (hp _ (List.getElem_mem h)) (za h1 h2)⟩
  ·rw [zuj, sel_end]; exact hR)
theorem zAf {xs : List Int} {g : FuncId} {rs : Option (List Ty)} {cap : List D} {p : Int → Bool} (he : Ent Tryz.prog g) (hp : ∀ x ∈ xs, Sat Tryz.prog g (dI x :: cap) (.bool (p x))) : Sat Tryz.prog zKb [.sl .int xs, .clo g rs cap] (.bool (xs.any p)) :=
 Sat.clo (pre := [_]) (zKp _ _ _ fun ok => by
  rw [zJp]
  refine call1 (zir he hp) ?_
  rw [zlb _ _ (Int.le_refl 0)])
theorem zpr {xs : List VarD} {g : FuncId} {rs : Option (List Ty)} {cap : List D} {p : VarD → Bool} (he : Ent Tryz.prog g) (hp : ∀ x ∈ xs, Sat Tryz.prog g (dV x :: cap) (.bool (p x))) : Sat Tryz.prog zme [.sl .var xs, .clo g rs cap] (.bool (xs.any p)) :=
 Sat.clo (pre := [_]) (zSp _ _ _ fun ok => by
  rw [zRp]
  refine call1 (zjr he hp) ?_
  rw [zlb _ _ (Int.le_refl 0)])
theorem zQj {xs : List LitD} {g : FuncId} {rs : Option (List Ty)} {cap : List D} {p : LitD → Bool} (he : Ent Tryz.prog g) (hp : ∀ x ∈ xs, Sat Tryz.prog g (dL x :: cap) (.bool (p x))) : Sat Tryz.prog zfc [.sl .lit xs, .clo g rs cap] (.bool (xs.any p)) :=
 Sat.clo (pre := [_]) (zUp _ _ _ fun ok => by
  rw [zTp]
  refine call1 (zkr he hp) ?_
  rw [zlb _ _ (Int.le_refl 0)])
theorem zah {xs : List (List Int)} {g : FuncId} {rs : Option (List Ty)} {cap : List D} {p : (List Int) → Bool} (he : Ent Tryz.prog g) (hp : ∀ x ∈ xs, Sat Tryz.prog g (.sl .int x :: cap) (.bool (p x))) : Sat Tryz.prog zU [.sl (.list .int) xs, .clo g rs cap] (.bool (xs.any p)) :=
 Sat.clo (pre := [_]) (zWp _ _ _ fun ok => by
  rw [zVp]
  refine call1 (zlr he hp) ?_
  rw [zlb _ _ (Int.le_refl 0)])
theorem zqr {xs : List (List Int)} {g : FuncId} {rs : Option (List Ty)} {cap : List D} {p : (List Int) → Bool} (he : Ent Tryz.prog g) (hp : ∀ x ∈ xs, Sat Tryz.prog g (.sl .int x :: cap) (.bool (p x))) : Sat Tryz.prog zre [.sl (.list .int) xs, .clo g rs cap] (.bool (xs.any p)) :=
 Sat.clo (pre := [_]) (zYp _ _ _ fun ok => by
  rw [zXp]
  refine call1 (zmr he hp) ?_
  rw [zlb _ _ (Int.le_refl 0)])
theorem z9c {xs : List Int} {a : Int} : Sat Tryz.prog zsb [.sl .int xs, dI a] (.bool (xs.any fun x => decide (a = x))) :=
 zcq _ _ fun ok => by
  rw [zbq]
  refine call1 (znr (a := a)) ?_
  rw [zlb _ _ (Int.le_refl 0)]
theorem zRj {xs : List LitD} {g : FuncId} {rs : Option (List Ty)} {cap : List D} {p : LitD → Bool} (he : Ent Tryz.prog g) (hp : ∀ x ∈ xs, Sat Tryz.prog g (dL x :: cap) (.bool (p x))) : Sat Tryz.prog z3c [.sl .lit xs, .clo g rs cap] (.bool (xs.any p)) :=
 Sat.clo (pre := [_]) (zeq _ _ _ fun ok => by
  rw [zdq]
  refine call1 (zor he hp) ?_
  rw [zlb _ _ (Int.le_refl 0)])
theorem zrr : Ent Tryz.prog zfe := fun args w => Tryz.call64 args w
theorem zsr : Ent Tryz.prog zge := fun args w => Tryz.call80 args w
theorem ztr : Ent Tryz.prog zne := fun args w => Tryz.call90 args w
theorem zSj : Ent Tryz.prog zZc := fun args w => Tryz.call91 args w
theorem zTj : Ent Tryz.prog zab := fun args w => Tryz.call92 args w
theorem zur : Ent Tryz.prog zpe := fun args w => Tryz.call95 args w
theorem zvr : Ent Tryz.prog zqe := fun args w => Tryz.call97 args w
theorem zwr : Ent Tryz.prog zse := fun args w => Tryz.call104 args w
theorem zxr : Ent Tryz.prog zbb := fun args w => Tryz.call113 args w
theorem zyr : Ent Tryz.prog zue := fun args w => Tryz.call116 args w
theorem zzr : Ent Tryz.prog zrb := fun args w => Tryz.call133 args w
theorem zAr : Ent Tryz.prog zcb := fun args w => Tryz.call140 args w
theorem zBr : Ent Tryz.prog zjc := fun args w => Tryz.call143 args w
theorem zCr : Ent Tryz.prog zFe := fun args w => Tryz.call145 args w
theorem zDr : Ent Tryz.prog zGe := fun args w => Tryz.call146 args w
theorem zEr : Ent Tryz.prog zkc := fun args w => Tryz.call147 args w
theorem zFr : Ent Tryz.prog zIe := fun args w => Tryz.call161 args w
theorem zGr : Ent Tryz.prog zh := fun args w => Tryz.call167 args w
theorem zHr : Ent Tryz.prog zOb := fun args w => Tryz.call170 args w
theorem zIr : Ent Tryz.prog zNe := fun args w => Tryz.call172 args w
theorem zJr : Ent Tryz.prog zOe := fun args w => Tryz.call173 args w
theorem zKr : Ent Tryz.prog zPb := fun args w => Tryz.call174 args w
theorem zLr : Ent Tryz.prog zSe := fun args w => Tryz.call195 args w
theorem zMr : Ent Tryz.prog zVe := fun args w => Tryz.call229 args w
theorem zNr : Ent Tryz.prog zWe := fun args w => Tryz.call230 args w
end Go.Proofs.YtajnbkhgnppckaaGreatDoor
/- Short names for data, and what functions that are handed on may be. -/
namespace Go.Proofs.YtajnbkhgnppckaaGreatDoor
open Go.RowKit
set_option linter.unusedVariables false
end Go.Proofs.YtajnbkhgnppckaaGreatDoor
/- What names of variables are, out of the walks of tokens: told to the denotation. -/
namespace Go.Proofs.YtajnbkhgnppckaaGreatDoor
open Go.RowKit
set_option linter.unusedVariables false
theorem zOr {P : Program} {f : FuncId} {s : ByteArray} {b : Bool} (h : s.size ≤ 140737488355328 → ∀ w, Calls P f #[.string s] w fun e w' => e = .returned (.bool b) ∧ Below w.heap.size w w') : Sat P f [.str s] (.bool b) := by
 intro w S vs hS hl hv _
 obtain ⟨e0, hz⟩ := (hv 0 _ rfl).str_inv
 have e : vs = #[.string s] := by
  have hl : vs.size = 1 := hl
  apply Array.ext
  ·simpa using hl
  ·intro i h1 h2
   have : i = 0 := by omega
   subst this
   simpa [Array.getD_eq_getD_getElem?, h1] using e0
 subst e
 exact (h hz w).mono fun e w' ⟨he, hb⟩ => ⟨_, he, .bool b, hb⟩
theorem zPr (s : ByteArray) : Sat Tryz.prog zZg [.str s] (.bool (isNameS s)) := zOr fun _ w => zno s w
end Go.Proofs.YtajnbkhgnppckaaGreatDoor
/- What the program's and the document's test of a model answer. -/
namespace Go.Proofs.YtajnbkhgnppckaaGreatDoor
open Go.RowKit
set_option linter.unusedVariables false
set_option linter.unusedSimpArgs false
theorem zQb (n a b : Int) : Sat Tryz.prog zP [dI n, dI a, dI b] (dB (inR n a b)) :=
 zAq n a b fun ok => by rw [zzq]; (repeat' (refine za (fun _ => ?_) (fun _ => ?_))) <;> simp_all [inR] <;> omega
theorem zBf (n : Int) : Sat Tryz.prog zab [dI n] (dB (farB n)) :=
 zRq n fun ok => by rw [zQq]; exact call1 (zQb _ _ _) rfl
theorem zUj (n : Int) (m : MdlD) (h : m.vars.length ≤ 9223372036854775807) : Sat Tryz.prog zZc [dI n, .iptr [.sl .var m.vars, .sl .con m.cons, .int .i64 m.goal, .int .i64 m.var] 0] (dB (noneB m.vars.length n)) :=
 zPq n m fun ok => by
  rw [zOq, w64_eq (by omega) (by omega)]; exact call1 (zQb _ _ _) rfl
theorem zQr (l : LitD) {g : FuncId} {cap : List D} {b : Bool} (he : Ent Tryz.prog g) (h : Sat Tryz.prog g (dI l.var :: cap) (dB b)) : Sat Tryz.prog zpe [dL l, .iptr [.clo g none cap] 0] (dB b) :=
 Sat.iclo (pre := [_]) (zVq l g cap fun ok => by rw [zUq]; exact ⟨he, call1 h rfl⟩)
theorem zRr (l : List Int) {g : FuncId} {cap : List D} {p : Int → Bool} (he : Ent Tryz.prog g) (h : ∀ x ∈ l, Sat Tryz.prog g (dI x :: cap) (dB (p x))) : Sat Tryz.prog zqe [.sl .int l, .iptr [.clo g none cap] 0] (dB (l.any p)) :=
 Sat.iclo (pre := [_]) (zXq l g cap fun ok => by rw [zWq]; exact call1 (zAf he h) rfl)
theorem zSr (l : List Int) (c : ConD) : Sat Tryz.prog zrb [.sl .int l, .iptr [.int .i64 c.kind, .sl .int c.vars, .sl .int c.consts, .int .i64 c.n, .sl (.list .int) c.rows, .sl .lit c.lits] 0] (dB (!decide (l.length = c.vars.length))) :=
 zdr l c fun ok => by rw [zcr]; congr 2; exact decide_eq_decide.2 (by omega)
theorem zbh (a b : Int) : Sat Tryz.prog zhc [dI a, dI b] (dB (decide (b = -1) || decide (a = b))) :=
 zbr a b fun ok => by rw [zar]; (repeat' (refine za (fun _ => ?_) (fun _ => ?_))) <;> simp_all
def shapeOf (c : ConD) : Int × Int × Int × Int × Int :=
 if c.kind = 1 ∨ c.kind = 2 ∨ c.kind = 3 then (1, 4, c.vars.length, 0, 0) else if c.kind = 4 then (1, 4, 0, 0, 0) else if c.kind = 5 then (2, 2, -1, 0, 0)
 else if c.kind = 6 then (1, 4, 0, -1, 0) else if c.kind = 7 then (3, 3, 0, 0, 0) else if c.kind = 8 then (2, 4, 0, 0, 0) else if c.kind = 9 then (0, 0, 0, 0, -1) else (1, 1, 0, 0, 1)
theorem zTr (c : ConD) : Sat Tryz.prog zye [dC c] (toD (.pr .int (.pr .int (.pr .int (.pr .int .int)))) (shapeOf c)) :=
 z9q c fun ok => by
  rw [z8q]
  unfold shapeOf
  (repeat' (refine za (fun _ => ?_) (fun _ => ?_))) <;> simp_all <;> rfl
def isB (a b : Int) : Bool := decide (b = -1) || decide (a = b)
def formP (c : ConD) : Bool :=
 inR c.vars.length (shapeOf c).1 (shapeOf c).2.1 && isB c.consts.length (shapeOf c).2.2.1 && isB c.rows.length (shapeOf c).2.2.2.1 && isB c.lits.length (shapeOf c).2.2.2.2 &&
 !(decide (c.kind = 5) && decide ((c.consts.length : Int) = 0)) && !(decide (3 < c.kind) && !decide (c.n = 0)) && !(c.rows.any fun r => !decide (r.length = c.vars.length))
theorem zUr (c : ConD) : Sat Tryz.prog zoe [dC c] (dB (formP c)) :=
 zTq c fun ok => by
  rw [zSq]
  refine call1 (zTr c) (call1 (zQb _ _ _) (za (fun e1 => ?_) fun e1 => call1 (zbh _ _) (za (fun e2 => ?_) fun e2 => call1 (zbh _ _) (za (fun e3 => ?_) fun e3 => call1 (zbh _ _) (za (fun e4 => ?_) fun e4 => ?_)))))
  all_goals try simp only [Bool.not_eq_eq_eq_not, Bool.not_true, Bool.not_false] at *
  ·simp only [formP, isB, e1, Bool.false_and]
  ·simp only [formP, isB, e2, Bool.false_and, Bool.and_false]
  ·simp only [formP, isB, e3, Bool.false_and, Bool.and_false]
  ·simp only [formP, isB, e4, Bool.false_and, Bool.and_false]
  have hr : Sat Tryz.prog zU [.sl (.list .int) c.rows, .clo zrb none [.iptr [.int .i64 c.kind, .sl .int c.vars, .sl .int c.consts, .int .i64 c.n, .sl (.list .int) c.rows, .sl .lit c.lits] 0]] (dB (c.rows.any fun r => !decide (r.length = c.vars.length))) := zah zzr fun x _ => zSr x c
  (repeat' (refine za (fun _ => ?_) (fun _ => ?_)))
  all_goals first | (refine call1 hr ?_; simp only [formP, isB, *, Bool.true_and, Bool.and_true, Bool.not_true, Bool.not_false, Bool.and_false, Bool.false_and]; done) | (simp only [formP, isB, *, Bool.true_and, Bool.and_true, Bool.not_true, Bool.not_false, Bool.and_false, Bool.false_and]; done)
theorem zVr (c : ConD) (h1 : 1 ≤ c.kind) (h2 : c.kind ≤ 10) (h3 : c.vars.length ≤ 4) : formP c = formB c := by
 have hk : c.kind = 1 ∨ c.kind = 2 ∨ c.kind = 3 ∨ c.kind = 4 ∨ c.kind = 5 ∨ c.kind = 6 ∨ c.kind = 7 ∨ c.kind = 8 ∨ c.kind = 9 ∨ c.kind = 10 := by omega
 have ha : (c.rows.any fun r => !decide (r.length = c.vars.length)) = !(c.rows.all fun r => decide (r.length = c.vars.length)) := by
  rw [List.all_eq_not_any_not, Bool.not_not]
 have hq : c.rows.length = 0 → (c.rows.all fun r => decide (r.length = c.vars.length)) = true := fun h => by rw [List.length_eq_zero_iff.1 h]; rfl
 unfold formP formB shapeOf
 rw [ha]
 dsimp only
 revert hq
 generalize (c.rows.all fun r => decide (r.length = c.vars.length)) = q
 generalize c.vars.length = v at *
 generalize c.consts.length = k
 generalize c.rows.length = rr
 generalize c.lits.length = l
 rcases hk with h | h | h | h | h | h | h | h | h | h <;> simp only [h, isB, inR] <;> rw [Bool.eq_iff_iff] <;> intro hq <;> cases q <;> simp_all <;> first | omega | (rw [Bool.eq_iff_iff]; simp; omega)
theorem conE_1 {nv : Nat} {c : ConD} (h : inR c.kind 1 10 = false) : conE nv c = 7 := by rw [conE, if_pos h]
theorem conE_2 {nv : Nat} {c : ConD} (h1 : ¬inR c.kind 1 10 = false) (h : manyB c = true) : conE nv c = 2 := by rw [conE, if_neg h1, if_pos h]
theorem conE_3 {nv : Nat} {c : ConD} (h1 : ¬inR c.kind 1 10 = false) (h2 : ¬manyB c = true) (h : formB c = false) : conE nv c = 1 := by rw [conE, if_neg h1, if_neg h2, if_pos h]
theorem conE_4 {nv : Nat} {c : ConD} (h1 : ¬inR c.kind 1 10 = false) (h2 : ¬manyB c = true) (h3 : ¬formB c = false) (h : (c.vars.any (noneB nv) || c.lits.any fun l => noneB nv l.var) = true) : conE nv c = 5 := by rw [conE, if_neg h1, if_neg h2, if_neg h3, if_pos h]
theorem conE_5 {nv : Nat} {c : ConD} (h1 : ¬inR c.kind 1 10 = false) (h2 : ¬manyB c = true) (h3 : ¬formB c = false) (h4 : ¬(c.vars.any (noneB nv) || c.lits.any fun l => noneB nv l.var) = true) (h : (c.consts.any farB || farB c.n || c.rows.any fun r => r.any farB) = true) : conE nv c = 3 := by rw [conE, if_neg h1, if_neg h2, if_neg h3, if_neg h4, if_pos h]
theorem conE_6 {nv : Nat} {c : ConD} (h1 : ¬inR c.kind 1 10 = false) (h2 : ¬manyB c = true) (h3 : ¬formB c = false) (h4 : ¬(c.vars.any (noneB nv) || c.lits.any fun l => noneB nv l.var) = true) (h5 : ¬(c.consts.any farB || farB c.n || c.rows.any fun r => r.any farB) = true) : conE nv c = firstE (fun _ l => opE l) 0 c.lits := by rw [conE, if_neg h1, if_neg h2, if_neg h3, if_neg h4, if_neg h5]
theorem dI_of {a b : Int} (h : b = a) : D.int .i64 a = dI b := by rw [h]
theorem zWr (m : MdlD) (c : ConD) (hm : m.vars.length ≤ 6) : Sat Tryz.prog zee [dM m, dC c] (dI (conE m.vars.length c)) :=
 zyq m c fun ok => by
  have hm' : m.vars.length ≤ 9223372036854775807 := by omega
  rw [zxq]
  refine za (fun e => ?_) fun e1 => za (fun e => ?_) fun e2 => ?_
  ·exact dI_of (conE_1 (zF.2 (.inl (of_decide_eq_true e))))
  ·exact dI_of (conE_1 (zF.2 (.inr (of_decide_eq_true e))))
  simp at e1 e2
  have k1 : ¬inR c.kind 1 10 = false := by rw [zF]; omega
  refine za (fun e => ?_) fun e3 => za (fun e => ?_) fun e4 => za (fun e => ?_) fun e5 => za (fun e => ?_) fun e6 => ?_
  iterate 4 (exact dI_of (conE_2 k1 (by simp at e; simp [manyB]; omega)))
  simp at e3 e4 e5 e6
  have k2 : ¬manyB c = true := by simp [manyB]; omega
  refine call1 (zUr c) ?_
  rw [zVr c e1 e2 (by omega)]
  refine za (fun e => ?_) fun e => ?_
  ·exact dI_of (conE_3 k1 k2 (by simpa using e))
  have k3 : ¬formB c = false := by simpa using e
  refine call1 (zAf (p := noneB m.vars.length) zSj fun x _ => zUj x m hm') (za (fun e => ?_) fun e7 => ?_)
  ·exact dI_of (conE_4 k1 k2 k3 (by rw [e]; rfl))
  refine call1 (zQj (p := fun l => noneB m.vars.length l.var) zur fun x _ => zQr x zSj (zUj x.var m hm')) (za (fun e => ?_) fun e8 => ?_)
  ·exact dI_of (conE_4 k1 k2 k3 (by rw [e, Bool.or_true]))
  have k4 : ¬(c.vars.any (noneB m.vars.length) || c.lits.any fun l => noneB m.vars.length l.var) = true := by rw [e7, e8]; decide
  refine call1 (zAf (p := farB) zTj fun x _ => zBf x) (za (fun e => ?_) fun e9 => ?_)
  ·exact dI_of (conE_5 k1 k2 k3 k4 (by rw [e]; rfl))
  refine call1 (zBf _) (za (fun e => ?_) fun e10 => ?_)
  ·exact dI_of (conE_5 k1 k2 k3 k4 (by rw [e, Bool.or_true]; rfl))
  refine call1 (zah (p := fun r => r.any farB) zvr fun x _ => zRr x zTj fun n _ => zBf n) (za (fun e => ?_) fun e11 => ?_)
  ·exact dI_of (conE_5 k1 k2 k3 k4 (by rw [e, Bool.or_true]))
  have k5 : ¬(c.consts.any farB || farB c.n || c.rows.any fun r => r.any farB) = true := by rw [e9, e10, e11]; decide
  rw [conE_6 k1 k2 k3 k4 k5]
  refine err0 (I := fun n v => znf c _ n v) c.lits (fun _ l => opE l) (by omega) (X := fun x => D.int .i64 x = dI (firstE (fun _ l => opE l) 0 c.lits)) (Y := D.int .i64 0 = dI (firstE (fun _ l => opE l) 0 c.lits)) (fun _ => rfl) (fun e => dI_of e) (fun n k h _ hX hn => ?_) fun n hY => ?_
  ·rw [zxj, sel_lt h, at_nat (t := .lit) h]
   unfold opE at hX hn
   refine ⟨inb_nat h, za (fun e => ?_) fun e1 => za (fun e => ?_) fun e2 => call1 (zBf _) (za (fun e => ?_) fun e => ?_)⟩
   ·have i : inR c.lits[k].op 1 4 = false := zF.2 (.inl (of_decide_eq_true e))
    rw [if_pos i] at hX; exact hX (by decide)
   ·have i : inR c.lits[k].op 1 4 = false := zF.2 (.inr (of_decide_eq_true e))
    rw [if_pos i] at hX; exact hX (by decide)
   ·have i : ¬inR c.lits[k].op 1 4 = false := by rw [zF]; simp at e1 e2; omega
    rw [if_neg i, if_pos e] at hX; exact hX (by decide)
   ·have i : ¬inR c.lits[k].op 1 4 = false := by rw [zF]; simp at e1 e2; omega
    rw [if_neg i, if_neg (by rw [e]; decide)] at hn; exact hn rfl
  ·rw [zxj, sel_end]; exact hY
end Go.Proofs.YtajnbkhgnppckaaGreatDoor
/- What the program's test of a model answers: variables, and all. -/
namespace Go.Proofs.YtajnbkhgnppckaaGreatDoor
open Go.RowKit
set_option linter.unusedVariables false
set_option linter.unusedSimpArgs false
theorem zXr (u v : VarD) : Sat Tryz.prog zne [dV u, .iptr [.str v.name, .int .i64 v.lo, .int .i64 v.hi] 0] (dB (u.name.toList == v.name.toList)) :=
 zNq u v fun ok => by rw [zMq, str_beq]
def lohiE (v : VarD) : Int := if (!inR v.lo (-50) 50 || !inR v.hi (-50) 50 || decide (v.hi < v.lo)) = true then 3 else if 6 ≤ v.hi - v.lo then 2 else 0
theorem varE_1 {a : List VarD} {v : VarD} (h : isNameS v.name = false) : varE a v = 1 := by rw [varE, if_pos h]
theorem varE_2 {a : List VarD} {v : VarD} (h1 : ¬isNameS v.name = false) (h : (a.any fun u => u.name.toList == v.name.toList) = true) : varE a v = 6 := by rw [varE, if_neg h1, if_pos h]
theorem varE_3 {a : List VarD} {v : VarD} (h1 : ¬isNameS v.name = false) (h2 : ¬(a.any fun u => u.name.toList == v.name.toList) = true) : varE a v = lohiE v := by rw [varE, if_neg h1, if_neg h2]; rfl
theorem lohi_1 {v : VarD} (h : (!inR v.lo (-50) 50) = true) : lohiE v = 3 := by rw [lohiE, h]; rfl
theorem lohi_2 {v : VarD} (h : (!inR v.hi (-50) 50) = true) : lohiE v = 3 := by rw [lohiE, h, Bool.or_true]; rfl
theorem lohi_3 {v : VarD} (h : decide (v.hi < v.lo) = true) : lohiE v = 3 := by rw [lohiE, h, Bool.or_true]; rfl
theorem lohi_4 {v : VarD} (h1 : (!inR v.lo (-50) 50) = false) (h2 : (!inR v.hi (-50) 50) = false) (h3 : decide (v.hi < v.lo) = false) : lohiE v = if 6 ≤ v.hi - v.lo then 2 else 0 := by rw [lohiE, h1, h2, h3]; rfl
theorem zYr (l : List VarD) : Sat Tryz.prog zde [.sl .var l] (dI (varsE l)) :=
 zwq l fun ok => by
  rw [zvq]
  refine err0 (I := fun n v => zlf l _ n v) l (fun i v => varE (l.take i) v) (okLen (t := .var) (ok1 ok)) (X := fun x => D.int .i64 x = dI (varsE l)) (Y := D.int .i64 0 = dI (varsE l)) (fun _ => rfl) (fun e => dI_of e) (fun n k h _ hX hn => ?_) fun n hY => ?_
  ·rw [zwj, sel_lt h, at_nat (t := .var) h]
   refine ⟨inb_nat h, call1 (zPr _) (za (fun e => ?_) fun e => ?_)⟩
   ·rw [varE_1 (by simpa using e)] at hX; exact hX (by decide)
   have k1 : ¬isNameS l[k].name = false := by simpa using e
   refine ⟨by unfold inSl; simp; omega, ?_⟩
   rw [show ((l.take (k : Int).toNat).drop 0) = l.take k by rw [Int.toNat_natCast, List.drop_zero]]
   refine call1 (zpr (p := fun u => u.name.toList == l[k].name.toList) ztr fun x _ => zXr x _) (za (fun e => ?_) fun e => ?_)
   ·rw [varE_2 k1 e] at hX; exact hX (by decide)
   rw [varE_3 k1 (by rw [e]; decide)] at hX hn
   refine call1 (zQb _ _ _) (za (fun e => ?_) fun e1 => call1 (zQb _ _ _) (za (fun e => ?_) fun e2 => (za (fun e => ?_) fun e3 => ?_)))
   ·rw [lohi_1 e] at hX; exact hX (by decide)
   ·rw [lohi_2 e] at hX; exact hX (by decide)
   ·rw [lohi_3 e] at hX; exact hX (by decide)
   rw [lohi_4 e1 e2 e3] at hX hn
   simp [inR] at e1 e2
   rw [w64_eq (by omega) (by omega)]
   refine za (fun e => ?_) fun e => ?_
   ·rw [if_pos (of_decide_eq_true e)] at hX; exact hX (by decide)
   ·exact hn (if_neg (of_decide_eq_false e))
  ·rw [zwj, sel_end]; exact hY
theorem zZr {m : MdlD} (h : m.vars.length = 0) : checkM m = 1 := by rw [checkM, if_pos h]
theorem zVj {m : MdlD} (h1 : ¬m.vars.length = 0) (h : 6 < m.vars.length ∨ 8 < m.cons.length) : checkM m = 2 := by rw [checkM, if_neg h1, if_pos h]
theorem z0r {m : MdlD} (h1 : ¬m.vars.length = 0) (h2 : ¬(6 < m.vars.length ∨ 8 < m.cons.length)) (h : varsE m.vars ≠ 0) : checkM m = varsE m.vars := by rw [checkM, if_neg h1, if_neg h2, if_pos h]
theorem z1r {m : MdlD} (h1 : ¬m.vars.length = 0) (h2 : ¬(6 < m.vars.length ∨ 8 < m.cons.length)) (h3 : ¬varsE m.vars ≠ 0) (h : firstE (fun _ c => conE m.vars.length c) 0 m.cons ≠ 0) : checkM m = firstE (fun _ c => conE m.vars.length c) 0 m.cons := by rw [checkM, if_neg h1, if_neg h2, if_neg h3, if_pos h]
theorem z2r {m : MdlD} (h1 : ¬m.vars.length = 0) (h2 : ¬(6 < m.vars.length ∨ 8 < m.cons.length)) (h3 : ¬varsE m.vars ≠ 0) (h : ¬firstE (fun _ c => conE m.vars.length c) 0 m.cons ≠ 0) : checkM m = goalE m := by rw [checkM, if_neg h1, if_neg h2, if_neg h3, if_neg h]
theorem goalE_1 {m : MdlD} (h : inR m.goal 0 2 = false) : goalE m = 7 := by rw [goalE, if_pos h]
theorem goalE_2 {m : MdlD} (h1 : ¬inR m.goal 0 2 = false) (h : m.goal = 0) (h2 : m.var ≠ 0) : goalE m = 1 := by rw [goalE, if_neg h1, if_pos ⟨h, h2⟩]
theorem goalE_3 {m : MdlD} (h1 : ¬inR m.goal 0 2 = false) (h : m.goal = 0) (h2 : ¬m.var ≠ 0) : goalE m = 0 := by rw [goalE, if_neg h1, if_neg (fun x => h2 x.2), if_neg (fun x => x.1 h)]
theorem goalE_4 {m : MdlD} (h1 : ¬inR m.goal 0 2 = false) (h : ¬m.goal = 0) (h2 : noneB m.vars.length m.var = true) : goalE m = 5 := by rw [goalE, if_neg h1, if_neg (fun x => h x.1), if_pos ⟨h, h2⟩]
theorem goalE_5 {m : MdlD} (h1 : ¬inR m.goal 0 2 = false) (h : ¬m.goal = 0) (h2 : ¬noneB m.vars.length m.var = true) : goalE m = 0 := by rw [goalE, if_neg h1, if_neg (fun x => h x.1), if_neg (fun x => h2 x.2)]
theorem zWj (m : MdlD) : Sat Tryz.prog zSc [dM m] (dI (checkM m)) :=
 zuq m fun ok => by
  rw [ztq]
  refine za (fun e => ?_) fun e1 => za (fun e => ?_) fun e2 => za (fun e => ?_) fun e3 => ?_
  ·exact dI_of (zZr (by simp at e; simp [e]))
  ·simp at e1 e; exact dI_of (zVj (by simp [e1]) (.inl (by omega)))
  ·simp at e1 e; exact dI_of (zVj (by simp [e1]) (.inr (by omega)))
  simp at e1 e2 e3
  have k1 : ¬m.vars.length = 0 := by simp [e1]
  have k2 : ¬(6 < m.vars.length ∨ 8 < m.cons.length) := by omega
  refine call1 (zYr _) (za (fun e => ?_) fun e => ?_)
  ·exact dI_of (z0r k1 k2 (zbc e))
  have k3 : ¬varsE m.vars ≠ 0 := not_not_intro (zOc e)
  refine err0 (I := fun n v => zjf m _ n v) m.cons (fun _ c => conE m.vars.length c) (by omega) (X := fun x => D.int .i64 x = dI (checkM m)) (Y := D.int .i64 (goalE m) = dI (checkM m)) (fun h => dI_of (z1r k1 k2 k3 h)) (fun e => dI_of (z2r k1 k2 k3 (not_not_intro e))) (fun n k h _ hX hn => ?_) fun n hY => ?_
  ·rw [zvj, sel_lt h, at_nat (t := .con) h]
   exact ⟨inb_nat h, call1 (zWr m _ (by omega)) (za (fun e => hX (zbc e)) fun e => hn (zOc e))⟩
  ·rw [zvj, sel_end, ← hY]
   rw [w64_eq (by omega) (by omega)]
   refine za (fun e => ?_) fun e1 => za (fun e => ?_) fun e2 => ?_
   ·rw [goalE_1 (zF.2 (.inl (of_decide_eq_true e)))]
   ·rw [goalE_1 (zF.2 (.inr (of_decide_eq_true e)))]
   have k4 : ¬inR m.goal 0 2 = false := by rw [zF]; simp at e1 e2; omega
   refine za (fun e => za (fun f => ?_) fun f => ?_) fun e => ?_
   ·rw [goalE_2 k4 (by simpa using e) (by simpa using f)]
   ·have e' : m.goal = 0 := by simpa using e
    rw [e']
    rw [goalE_3 k4 e' (by simpa using f)]; exact rfl
   ·have e' : ¬m.goal = 0 := by simpa using e
    rw [e]
    refine call1 (zQb _ _ _) (za (fun f => ?_) fun f => ?_)
    ·rw [goalE_4 k4 e' f]
    ·rw [goalE_5 k4 e' (by show ¬ (!inR _ _ _) = true; rw [f]; decide)]
end Go.Proofs.YtajnbkhgnppckaaGreatDoor
/- What the document's test of a model answers: the same. -/
namespace Go.Proofs.YtajnbkhgnppckaaGreatDoor
open Go.RowKit
set_option linter.unusedVariables false
set_option linter.unusedSimpArgs false
theorem litE_op {nv : Nat} {l : LitD} (h : noneB nv l.var = false) : litE nv l = opE l := by rw [litE, if_neg (by rw [h]; decide)]; rfl
end Go.Proofs.YtajnbkhgnppckaaGreatDoor
/- From a law's walk, told by the denotation, to what a claim's frame asks. -/
namespace Go.Proofs.YtajnbkhgnppckaaGreatDoor
open Go.RowKit
set_option linter.unusedVariables false
variable {w : World} {S : Nat → Prop} {v : Value}
theorem rdV_agg {t : Ty} {x : t.den} (hn : (cells t x).length ≠ 1) (h : RdV w S v x) : Rp w S v (.agg (cells t x)) := by
 obtain ⟨cs, rfl, h⟩ := h
 have a1 := (zq t h).len
 have a2 := fun i d hd => (zq t h).at (i := i) (b := d) hd
 have e : vOf cs = .agg cs.toArray := by
  match cs, a1 with
  | [], _ => rfl
  | [u], a1 => exact absurd a1.symm hn
  | a :: b :: l, _ => rfl
 rw [e]
 refine .agg _ _ (by simpa using a1) fun i d hd => ?_
 obtain ⟨u, hu, hr⟩ := a2 i d hd
 have : cs.toArray.getD i Go.undef = u := by simp [Array.getD_eq_getD_getElem?, hu]
 rw [this]; exact hr
theorem rds_mdl {m : MdlD} (h : Rds w v m) : Rp w (fun b => b < w.heap.size) v (dM m) := rdV_agg (t := .mdl) (x := m) (by show 4 ≠ 1; decide) h
theorem rds_int {n : Int} (h : inI64 n) : Rp w S (.int .i64 n) (.int .i64 n) := .int .i64 n h
theorem gok_tab {P : Program} {w : World} (h : Lib.TabIs P w "internal/strconv.uint64pow10" .u64 Lib.pow10Tab) : GOk P w fun _ => False := fun g hg => ⟨h, id⟩
theorem Sat.calls {P : Program} {f : FuncId} {args : List D} {b : Bool} (h : Sat P f args (.bool b)) (W : World) {vl : List Value} (hv : All2 (Rp W fun b => b < W.heap.size) vl args) (hg : GOk P W fun _ => False) :
  Calls P f vl.toArray W fun e W' => e = .returned (.bool b) ∧ Below W.heap.size W W' := by
 have h1 := hv.len
 have h2 := fun i d hd => hv.at (i := i) (b := d) hd
 refine (h W _ vl.toArray (fun _ h => h) (by simpa using h1) (fun i d hd => ?_) hg).mono fun e w' ⟨v, he, hr, hb⟩ => ?_
 ·obtain ⟨u, hu, hr⟩ := h2 i d hd
  have : vl.toArray.getD i Go.undef = u := by simp [Array.getD_eq_getD_getElem?, hu]
  rw [this]; exact hr
 ·cases hr
  exact ⟨he, hb⟩
end Go.Proofs.YtajnbkhgnppckaaGreatDoor
