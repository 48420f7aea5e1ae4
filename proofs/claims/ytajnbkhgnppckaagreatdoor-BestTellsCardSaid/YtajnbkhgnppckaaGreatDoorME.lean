/- Texts of this proof, one behind the other: nothing is handed in but what is proved here; no condition. -/
import Derived.Test.YtajnbkhgnppckaaGreatDoorWSlices
import Derived.Test.YtajnbkhgnppckaaGreatDoorMD
import Derived.Test.YtajnbkhgnppckaaGreatDoorWModel
import Derived.Test.YtajnbkhgnppckaaGreatDoorMC
import Derived.Test.YtajnbkhgnppckaaGreatDoorWCordonref
/- What is sought in a slice: contracts printed by a program. -/
namespace Go.Proofs.YtajnbkhgnppckaaGreatDoor
open Go.RowKit
set_option linter.unusedVariables false
set_option maxRecDepth 100000
theorem zrv {xs : List Int} {g : FuncId} {rs : Option (List Ty)} {cap : List D} {p : Int → Bool} (he : Ent Tryz.prog g) (hp : ∀ x ∈ xs, Sat Tryz.prog g (dI x :: cap) (.bool (p x))) : Sat Tryz.prog zDf [.sl .int xs, .clo g rs cap] (.int .i64 (ixI p xs 0)) :=
 Sat.clo (pre := [_]) (zzs _ _ _ fun ok => by
  rw [zys]
  refine seek (t := .int) (p := p) (R := fun d => d = .int .i64 (ixI p xs 0)) (okLen (t := .int) (ok1 ok)) rfl (fun n k h h1 h2 => ?_) fun n hR => ?_
  ·rw [zAl, sel_lt h, at_nat h]
   exact ⟨inb_nat h, he, call1 (hp _ (List.getElem_mem h)) (za h1 h2)⟩
  ·rw [zAl, sel_end]; exact hR)
theorem zsv {xs : List VarD} {g : FuncId} {rs : Option (List Ty)} {cap : List D} {p : VarD → Bool} (he : Ent Tryz.prog g) (hp : ∀ x ∈ xs, Sat Tryz.prog g (dV x :: cap) (.bool (p x))) : Sat Tryz.prog zHf [.sl .var xs, .clo g rs cap] (.int .i64 (ixI p xs 0)) :=
 Sat.clo (pre := [_]) (zGs _ _ _ fun ok => by
  rw [zFs]
  refine seek (t := .var) (p := p) (R := fun d => d = .int .i64 (ixI p xs 0)) (okLen (t := .var) (ok1 ok)) rfl (fun n k h h1 h2 => ?_) fun n hR => ?_
  ·rw [zFl, sel_lt h, at_nat h]
   exact ⟨inb_nat h, he, call1 (hp _ (List.getElem_mem h)) (za h1 h2)⟩
  ·rw [zFl, sel_end]; exact hR)
theorem ztv {xs : List LitD} {g : FuncId} {rs : Option (List Ty)} {cap : List D} {p : LitD → Bool} (he : Ent Tryz.prog g) (hp : ∀ x ∈ xs, Sat Tryz.prog g (dL x :: cap) (.bool (p x))) : Sat Tryz.prog zJf [.sl .lit xs, .clo g rs cap] (.int .i64 (ixI p xs 0)) :=
 Sat.clo (pre := [_]) (zIs _ _ _ fun ok => by
  rw [zHs]
  refine seek (t := .lit) (p := p) (R := fun d => d = .int .i64 (ixI p xs 0)) (okLen (t := .lit) (ok1 ok)) rfl (fun n k h h1 h2 => ?_) fun n hR => ?_
  ·rw [zGl, sel_lt h, at_nat h]
   exact ⟨inb_nat h, he, call1 (hp _ (List.getElem_mem h)) (za h1 h2)⟩
  ·rw [zGl, sel_end]; exact hR)
theorem zuv {xs : List (List Int)} {g : FuncId} {rs : Option (List Ty)} {cap : List D} {p : (List Int) → Bool} (he : Ent Tryz.prog g) (hp : ∀ x ∈ xs, Sat Tryz.prog g (.sl .int x :: cap) (.bool (p x))) : Sat Tryz.prog zKf [.sl (.list .int) xs, .clo g rs cap] (.int .i64 (ixI p xs 0)) :=
 Sat.clo (pre := [_]) (zKs _ _ _ fun ok => by
  rw [zJs]
  refine seek (t := (.list .int)) (p := p) (R := fun d => d = .int .i64 (ixI p xs 0)) (okLen (t := (.list .int)) (ok1 ok)) rfl (fun n k h h1 h2 => ?_) fun n hR => ?_
  ·rw [zHl, sel_lt h, at_nat h]
   exact ⟨inb_nat h, he, call1 (hp _ (List.getElem_mem h)) (za h1 h2)⟩
  ·rw [zHl, sel_end]; exact hR)
theorem zvv {xs : List (List Int)} {g : FuncId} {rs : Option (List Ty)} {cap : List D} {p : (List Int) → Bool} (he : Ent Tryz.prog g) (hp : ∀ x ∈ xs, Sat Tryz.prog g (.sl .int x :: cap) (.bool (p x))) : Sat Tryz.prog zRf [.sl (.list .int) xs, .clo g rs cap] (.int .i64 (ixI p xs 0)) :=
 Sat.clo (pre := [_]) (zQs _ _ _ fun ok => by
  rw [zPs]
  refine seek (t := (.list .int)) (p := p) (R := fun d => d = .int .i64 (ixI p xs 0)) (okLen (t := (.list .int)) (ok1 ok)) rfl (fun n k h h1 h2 => ?_) fun n hR => ?_
  ·rw [zKl, sel_lt h, at_nat h]
   exact ⟨inb_nat h, he, call1 (hp _ (List.getElem_mem h)) (za h1 h2)⟩
  ·rw [zKl, sel_end]; exact hR)
theorem zEm {xs : List TermD} {g : FuncId} {rs : Option (List Ty)} {cap : List D} {p : TermD → Bool} (he : Ent Tryz.prog g) (hp : ∀ x ∈ xs, Sat Tryz.prog g (.agg [dI x.v, dI x.times] :: cap) (.bool (p x))) : Sat Tryz.prog zWd [.sl .term xs, .clo g rs cap] (.int .i64 (ixI p xs 0)) :=
 Sat.clo (pre := [_]) (zSs _ _ _ fun ok => by
  rw [zRs]
  refine seek (t := .term) (p := p) (R := fun d => d = .int .i64 (ixI p xs 0)) (okLen (t := .term) (ok1 ok)) rfl (fun n k h h1 h2 => ?_) fun n hR => ?_
  ·rw [zLl, sel_lt h, at_nat h]
   exact ⟨inb_nat h, he, call1 (hp _ (List.getElem_mem h)) (za h1 h2)⟩
  ·rw [zLl, sel_end]; exact hR)
theorem zwv {xs : List Int} {a : Int} : Sat Tryz.prog z2f [.sl .int xs, dI a] (.int .i64 (ixI (fun x => decide (a = x)) xs 0)) :=
 zWs _ _ fun ok => by
  rw [zVs]
  refine seek (t := .int) (p := fun x => decide (a = x)) (R := fun d => d = .int .i64 (ixI (fun x => decide (a = x)) xs 0)) (okLen (t := .int) (ok1 ok)) rfl (fun n k h h1 h2 => ?_) fun n hR => ?_
  ·rw [zNl, sel_lt h, at_nat h]
   exact ⟨inb_nat h, za h1 h2⟩
  ·rw [zNl, sel_end]; exact hR
theorem zxv {xs : List LitD} {g : FuncId} {rs : Option (List Ty)} {cap : List D} {p : LitD → Bool} (he : Ent Tryz.prog g) (hp : ∀ x ∈ xs, Sat Tryz.prog g (dL x :: cap) (.bool (p x))) : Sat Tryz.prog z3f [.sl .lit xs, .clo g rs cap] (.int .i64 (ixI p xs 0)) :=
 Sat.clo (pre := [_]) (zYs _ _ _ fun ok => by
  rw [zXs]
  refine seek (t := .lit) (p := p) (R := fun d => d = .int .i64 (ixI p xs 0)) (okLen (t := .lit) (ok1 ok)) rfl (fun n k h h1 h2 => ?_) fun n hR => ?_
  ·rw [zOl, sel_lt h, at_nat h]
   exact ⟨inb_nat h, he, call1 (hp _ (List.getElem_mem h)) (za h1 h2)⟩
  ·rw [zOl, sel_end]; exact hR)
theorem zvh {xs : List Int} {g : FuncId} {rs : Option (List Ty)} {cap : List D} {p : Int → Bool} (he : Ent Tryz.prog g) (hp : ∀ x ∈ xs, Sat Tryz.prog g (dI x :: cap) (.bool (p x))) : Sat Tryz.prog zqc [.sl .int xs, .clo g rs cap] (.bool (xs.any p)) :=
 Sat.clo (pre := [_]) (zjs _ _ _ fun ok => by
  rw [zis]
  refine call1 (zrv he hp) ?_
  rw [zSb _ _ (Int.le_refl 0)])
theorem zyv {xs : List VarD} {g : FuncId} {rs : Option (List Ty)} {cap : List D} {p : VarD → Bool} (he : Ent Tryz.prog g) (hp : ∀ x ∈ xs, Sat Tryz.prog g (dV x :: cap) (.bool (p x))) : Sat Tryz.prog zvf [.sl .var xs, .clo g rs cap] (.bool (xs.any p)) :=
 Sat.clo (pre := [_]) (zrs _ _ _ fun ok => by
  rw [zqs]
  refine call1 (zsv he hp) ?_
  rw [zSb _ _ (Int.le_refl 0)])
theorem zFm {xs : List LitD} {g : FuncId} {rs : Option (List Ty)} {cap : List D} {p : LitD → Bool} (he : Ent Tryz.prog g) (hp : ∀ x ∈ xs, Sat Tryz.prog g (dL x :: cap) (.bool (p x))) : Sat Tryz.prog zWc [.sl .lit xs, .clo g rs cap] (.bool (xs.any p)) :=
 Sat.clo (pre := [_]) (zts _ _ _ fun ok => by
  rw [zss]
  refine call1 (ztv he hp) ?_
  rw [zSb _ _ (Int.le_refl 0)])
theorem zfj {xs : List (List Int)} {g : FuncId} {rs : Option (List Ty)} {cap : List D} {p : (List Int) → Bool} (he : Ent Tryz.prog g) (hp : ∀ x ∈ xs, Sat Tryz.prog g (.sl .int x :: cap) (.bool (p x))) : Sat Tryz.prog znb [.sl (.list .int) xs, .clo g rs cap] (.bool (xs.any p)) :=
 Sat.clo (pre := [_]) (zvs _ _ _ fun ok => by
  rw [zus]
  refine call1 (zuv he hp) ?_
  rw [zSb _ _ (Int.le_refl 0)])
theorem zzv {xs : List (List Int)} {g : FuncId} {rs : Option (List Ty)} {cap : List D} {p : (List Int) → Bool} (he : Ent Tryz.prog g) (hp : ∀ x ∈ xs, Sat Tryz.prog g (.sl .int x :: cap) (.bool (p x))) : Sat Tryz.prog zAf [.sl (.list .int) xs, .clo g rs cap] (.bool (xs.any p)) :=
 Sat.clo (pre := [_]) (zxs _ _ _ fun ok => by
  rw [zws]
  refine call1 (zvv he hp) ?_
  rw [zSb _ _ (Int.le_refl 0)])
theorem zbe {xs : List Int} {a : Int} : Sat Tryz.prog z2b [.sl .int xs, dI a] (.bool (xs.any fun x => decide (a = x))) :=
 zMs _ _ fun ok => by
  rw [zLs]
  refine call1 (zwv (a := a)) ?_
  rw [zSb _ _ (Int.le_refl 0)]
theorem zGm {xs : List LitD} {g : FuncId} {rs : Option (List Ty)} {cap : List D} {p : LitD → Bool} (he : Ent Tryz.prog g) (hp : ∀ x ∈ xs, Sat Tryz.prog g (dL x :: cap) (.bool (p x))) : Sat Tryz.prog zTd [.sl .lit xs, .clo g rs cap] (.bool (xs.any p)) :=
 Sat.clo (pre := [_]) (zOs _ _ _ fun ok => by
  rw [zNs]
  refine call1 (zxv he hp) ?_
  rw [zSb _ _ (Int.le_refl 0)])
theorem zAv : Ent Tryz.prog zpf := fun args w => Tryz.call80 args w
theorem zBv : Ent Tryz.prog zwf := fun args w => Tryz.call90 args w
theorem zHm : Ent Tryz.prog zNd := fun args w => Tryz.call91 args w
theorem zIm : Ent Tryz.prog zzb := fun args w => Tryz.call92 args w
theorem zCv : Ent Tryz.prog zyf := fun args w => Tryz.call95 args w
theorem zDv : Ent Tryz.prog zzf := fun args w => Tryz.call97 args w
theorem zEv : Ent Tryz.prog zBf := fun args w => Tryz.call104 args w
theorem zFv : Ent Tryz.prog zAb := fun args w => Tryz.call113 args w
theorem zGv : Ent Tryz.prog zEf := fun args w => Tryz.call116 args w
theorem zHv : Ent Tryz.prog z1b := fun args w => Tryz.call133 args w
theorem zIv : Ent Tryz.prog zBb := fun args w => Tryz.call140 args w
theorem zJv : Ent Tryz.prog z0c := fun args w => Tryz.call143 args w
theorem zKv : Ent Tryz.prog zPf := fun args w => Tryz.call145 args w
theorem zLv : Ent Tryz.prog zQf := fun args w => Tryz.call146 args w
theorem zMv : Ent Tryz.prog z1c := fun args w => Tryz.call147 args w
theorem zNv : Ent Tryz.prog zUf := fun args w => Tryz.call161 args w
theorem zOv : Ent Tryz.prog zi := fun args w => Tryz.call167 args w
theorem zPv : Ent Tryz.prog zwc := fun args w => Tryz.call170 args w
theorem zQv : Ent Tryz.prog zZf := fun args w => Tryz.call172 args w
theorem zRv : Ent Tryz.prog z0f := fun args w => Tryz.call173 args w
theorem zSv : Ent Tryz.prog zxc := fun args w => Tryz.call174 args w
theorem zTv : Ent Tryz.prog z5f := fun args w => Tryz.call195 args w
theorem zUv : Ent Tryz.prog z8f := fun args w => Tryz.call229 args w
theorem zVv : Ent Tryz.prog z9f := fun args w => Tryz.call230 args w
end Go.Proofs.YtajnbkhgnppckaaGreatDoor
/- Short names for data, and what functions that are handed on may be. -/
namespace Go.Proofs.YtajnbkhgnppckaaGreatDoor
open Go.RowKit
set_option linter.unusedVariables false
end Go.Proofs.YtajnbkhgnppckaaGreatDoor
/- What names of variables are, out of the walks of tokens: told to the denotation. -/
namespace Go.Proofs.YtajnbkhgnppckaaGreatDoor
open Go.RowKit
set_option linter.unusedVariables false
theorem zJm {P : Program} {f : FuncId} {s : ByteArray} {b : Bool} (h : s.size ≤ 140737488355328 → ∀ w, Calls P f #[.string s] w fun e w' => e = .returned (.bool b) ∧ Below w.heap.size w w') : Sat P f [.str s] (.bool b) := by
 intro w S vs hS hl hv _
 obtain ⟨e0, hz⟩ := (hv 0 _ rfl).str_inv
 have e : vs = #[.string s] := by
  have hl : vs.size = 1 := hl
  apply Array.ext
  ·simpa using hl
  ·intro i h1 h2
   have : i = 0 := by omega
   subst this
   simpa [Array.getD_eq_getD_getElem?, h1] using e0
 subst e
 exact (h hz w).mono fun e w' ⟨he, hb⟩ => ⟨_, he, .bool b, hb⟩
theorem zWv (s : ByteArray) : Sat Tryz.prog z3i [.str s] (.bool (isNameS s)) := zJm fun _ w => zsr s w
theorem zXv (s : ByteArray) : Sat Tryz.prog z2i [.str s] (.bool (isNameS s)) := zJm fun hz w => zur s w hz
end Go.Proofs.YtajnbkhgnppckaaGreatDoor
/- What the program's and the document's test of a model answer. -/
namespace Go.Proofs.YtajnbkhgnppckaaGreatDoor
open Go.RowKit
set_option linter.unusedVariables false
set_option linter.unusedSimpArgs false
theorem zAc (n a b : Int) : Sat Tryz.prog zhb [dI n, dI a, dI b] (dB (inR n a b)) :=
 zat n a b fun ok => by rw [z9s]; (repeat' (refine za (fun _ => ?_) (fun _ => ?_))) <;> simp_all [inR] <;> omega
theorem zab (n a b : Int) : Sat Tryz.prog zy [dI n, dI a, dI b] (dB (inR n a b)) :=
 z6t n a b fun ok => by rw [z5t]; (repeat' (refine za (fun _ => ?_) (fun _ => ?_))) <;> simp_all [inR] <;> omega
theorem zwh (n : Int) : Sat Tryz.prog zpc [dI n] (dB (inR n (-1000) 1000)) :=
 zxu n fun ok => by rw [zwu]; exact call1 (zab _ _ _) rfl
theorem zxh (n : Int) : Sat Tryz.prog zzb [dI n] (dB (farB n)) :=
 zrt n fun ok => by rw [zqt]; exact call1 (zAc _ _ _) rfl
theorem zKm (n : Int) (m : MdlD) (h : m.vars.length ≤ 9223372036854775807) : Sat Tryz.prog zNd [dI n, .iptr [.sl .var m.vars, .sl .con m.cons, .int .i64 m.goal, .int .i64 m.var] 0] (dB (noneB m.vars.length n)) :=
 zpt n m fun ok => by
  rw [zot, w64_eq (by omega) (by omega)]; exact call1 (zAc _ _ _) rfl
theorem zYv (l : LitD) {g : FuncId} {cap : List D} {b : Bool} (he : Ent Tryz.prog g) (h : Sat Tryz.prog g (dI l.var :: cap) (dB b)) : Sat Tryz.prog zyf [dL l, .iptr [.clo g none cap] 0] (dB b) :=
 Sat.iclo (pre := [_]) (zvt l g cap fun ok => by rw [zut]; exact ⟨he, call1 h rfl⟩)
theorem zZv (l : List Int) {g : FuncId} {cap : List D} {p : Int → Bool} (he : Ent Tryz.prog g) (h : ∀ x ∈ l, Sat Tryz.prog g (dI x :: cap) (dB (p x))) : Sat Tryz.prog zzf [.sl .int l, .iptr [.clo g none cap] 0] (dB (l.any p)) :=
 Sat.iclo (pre := [_]) (zxt l g cap fun ok => by rw [zwt]; exact call1 (zvh he h) rfl)
theorem z0v (l : List Int) (c : ConD) : Sat Tryz.prog z1b [.sl .int l, .iptr [.int .i64 c.kind, .sl .int c.vars, .sl .int c.consts, .int .i64 c.n, .sl (.list .int) c.rows, .sl .lit c.lits] 0] (dB (!decide (l.length = c.vars.length))) :=
 zNt l c fun ok => by rw [zMt]; congr 2; exact decide_eq_decide.2 (by omega)
theorem zgj (a b : Int) : Sat Tryz.prog zYc [dI a, dI b] (dB (decide (b = -1) || decide (a = b))) :=
 zLt a b fun ok => by rw [zKt]; (repeat' (refine za (fun _ => ?_) (fun _ => ?_))) <;> simp_all
def shapeOf (c : ConD) : Int × Int × Int × Int × Int :=
 if c.kind = 1 ∨ c.kind = 2 ∨ c.kind = 3 then (1, 4, c.vars.length, 0, 0) else if c.kind = 4 then (1, 4, 0, 0, 0) else if c.kind = 5 then (2, 2, -1, 0, 0)
 else if c.kind = 6 then (1, 4, 0, -1, 0) else if c.kind = 7 then (3, 3, 0, 0, 0) else if c.kind = 8 then (2, 4, 0, 0, 0) else if c.kind = 9 then (0, 0, 0, 0, -1) else (1, 1, 0, 0, 1)
theorem z1v (c : ConD) : Sat Tryz.prog zIf [dC c] (toD (.pr .int (.pr .int (.pr .int (.pr .int .int)))) (shapeOf c)) :=
 zJt c fun ok => by
  rw [zIt]
  unfold shapeOf
  (repeat' (refine za (fun _ => ?_) (fun _ => ?_))) <;> simp_all <;> rfl
def isB (a b : Int) : Bool := decide (b = -1) || decide (a = b)
def formP (c : ConD) : Bool :=
 inR c.vars.length (shapeOf c).1 (shapeOf c).2.1 && isB c.consts.length (shapeOf c).2.2.1 && isB c.rows.length (shapeOf c).2.2.2.1 && isB c.lits.length (shapeOf c).2.2.2.2 &&
 !(decide (c.kind = 5) && decide ((c.consts.length : Int) = 0)) && !(decide (3 < c.kind) && !decide (c.n = 0)) && !(c.rows.any fun r => !decide (r.length = c.vars.length))
theorem z2v (c : ConD) : Sat Tryz.prog zxf [dC c] (dB (formP c)) :=
 ztt c fun ok => by
  rw [zst]
  refine call1 (z1v c) (call1 (zAc _ _ _) (za (fun e1 => ?_) fun e1 => call1 (zgj _ _) (za (fun e2 => ?_) fun e2 => call1 (zgj _ _) (za (fun e3 => ?_) fun e3 => call1 (zgj _ _) (za (fun e4 => ?_) fun e4 => ?_)))))
  all_goals try simp only [Bool.not_eq_eq_eq_not, Bool.not_true, Bool.not_false] at *
  ·simp only [formP, isB, e1, Bool.false_and]
  ·simp only [formP, isB, e2, Bool.false_and, Bool.and_false]
  ·simp only [formP, isB, e3, Bool.false_and, Bool.and_false]
  ·simp only [formP, isB, e4, Bool.false_and, Bool.and_false]
  have hr : Sat Tryz.prog znb [.sl (.list .int) c.rows, .clo z1b none [.iptr [.int .i64 c.kind, .sl .int c.vars, .sl .int c.consts, .int .i64 c.n, .sl (.list .int) c.rows, .sl .lit c.lits] 0]] (dB (c.rows.any fun r => !decide (r.length = c.vars.length))) := zfj zHv fun x _ => z0v x c
  (repeat' (refine za (fun _ => ?_) (fun _ => ?_)))
  all_goals first | (refine call1 hr ?_; simp only [formP, isB, *, Bool.true_and, Bool.and_true, Bool.not_true, Bool.not_false, Bool.and_false, Bool.false_and]; done) | (simp only [formP, isB, *, Bool.true_and, Bool.and_true, Bool.not_true, Bool.not_false, Bool.and_false, Bool.false_and]; done)
theorem z3v (c : ConD) (h1 : 1 ≤ c.kind) (h2 : c.kind ≤ 10) (h3 : c.vars.length ≤ 4) : formP c = formB c := by
 have hk : c.kind = 1 ∨ c.kind = 2 ∨ c.kind = 3 ∨ c.kind = 4 ∨ c.kind = 5 ∨ c.kind = 6 ∨ c.kind = 7 ∨ c.kind = 8 ∨ c.kind = 9 ∨ c.kind = 10 := by omega
 have ha : (c.rows.any fun r => !decide (r.length = c.vars.length)) = !(c.rows.all fun r => decide (r.length = c.vars.length)) := by
  rw [List.all_eq_not_any_not, Bool.not_not]
 have hq : c.rows.length = 0 → (c.rows.all fun r => decide (r.length = c.vars.length)) = true := fun h => by rw [List.length_eq_zero_iff.1 h]; rfl
 unfold formP formB shapeOf
 rw [ha]
 dsimp only
 revert hq
 generalize (c.rows.all fun r => decide (r.length = c.vars.length)) = q
 generalize c.vars.length = v at *
 generalize c.consts.length = k
 generalize c.rows.length = rr
 generalize c.lits.length = l
 rcases hk with h | h | h | h | h | h | h | h | h | h <;> simp only [h, isB, inR] <;> rw [Bool.eq_iff_iff] <;> intro hq <;> cases q <;> simp_all <;> first | omega | (rw [Bool.eq_iff_iff]; simp; omega)
theorem conE_1 {nv : Nat} {c : ConD} (h : inR c.kind 1 10 = false) : conE nv c = 7 := by rw [conE, if_pos h]
theorem conE_2 {nv : Nat} {c : ConD} (h1 : ¬inR c.kind 1 10 = false) (h : manyB c = true) : conE nv c = 2 := by rw [conE, if_neg h1, if_pos h]
theorem conE_3 {nv : Nat} {c : ConD} (h1 : ¬inR c.kind 1 10 = false) (h2 : ¬manyB c = true) (h : formB c = false) : conE nv c = 1 := by rw [conE, if_neg h1, if_neg h2, if_pos h]
theorem conE_4 {nv : Nat} {c : ConD} (h1 : ¬inR c.kind 1 10 = false) (h2 : ¬manyB c = true) (h3 : ¬formB c = false) (h : (c.vars.any (noneB nv) || c.lits.any fun l => noneB nv l.var) = true) : conE nv c = 5 := by rw [conE, if_neg h1, if_neg h2, if_neg h3, if_pos h]
theorem conE_5 {nv : Nat} {c : ConD} (h1 : ¬inR c.kind 1 10 = false) (h2 : ¬manyB c = true) (h3 : ¬formB c = false) (h4 : ¬(c.vars.any (noneB nv) || c.lits.any fun l => noneB nv l.var) = true) (h : (c.consts.any farB || farB c.n || c.rows.any fun r => r.any farB) = true) : conE nv c = 3 := by rw [conE, if_neg h1, if_neg h2, if_neg h3, if_neg h4, if_pos h]
theorem conE_6 {nv : Nat} {c : ConD} (h1 : ¬inR c.kind 1 10 = false) (h2 : ¬manyB c = true) (h3 : ¬formB c = false) (h4 : ¬(c.vars.any (noneB nv) || c.lits.any fun l => noneB nv l.var) = true) (h5 : ¬(c.consts.any farB || farB c.n || c.rows.any fun r => r.any farB) = true) : conE nv c = firstE (fun _ l => opE l) 0 c.lits := by rw [conE, if_neg h1, if_neg h2, if_neg h3, if_neg h4, if_neg h5]
theorem dI_of {a b : Int} (h : b = a) : D.int .i64 a = dI b := by rw [h]
theorem z4v (m : MdlD) (c : ConD) (hm : m.vars.length ≤ 6) : Sat Tryz.prog zlf [dM m, dC c] (dI (conE m.vars.length c)) :=
 z8s m c fun ok => by
  have hm' : m.vars.length ≤ 9223372036854775807 := by omega
  rw [z7s]
  refine za (fun e => ?_) fun e1 => za (fun e => ?_) fun e2 => ?_
  ·exact dI_of (conE_1 (zN.2 (.inl (of_decide_eq_true e))))
  ·exact dI_of (conE_1 (zN.2 (.inr (of_decide_eq_true e))))
  simp at e1 e2
  have k1 : ¬inR c.kind 1 10 = false := by rw [zN]; omega
  refine za (fun e => ?_) fun e3 => za (fun e => ?_) fun e4 => za (fun e => ?_) fun e5 => za (fun e => ?_) fun e6 => ?_
  iterate 4 (exact dI_of (conE_2 k1 (by simp at e; simp [manyB]; omega)))
  simp at e3 e4 e5 e6
  have k2 : ¬manyB c = true := by simp [manyB]; omega
  refine call1 (z2v c) ?_
  rw [z3v c e1 e2 (by omega)]
  refine za (fun e => ?_) fun e => ?_
  ·exact dI_of (conE_3 k1 k2 (by simpa using e))
  have k3 : ¬formB c = false := by simpa using e
  refine call1 (zvh (p := noneB m.vars.length) zHm fun x _ => zKm x m hm') (za (fun e => ?_) fun e7 => ?_)
  ·exact dI_of (conE_4 k1 k2 k3 (by rw [e]; rfl))
  refine call1 (zFm (p := fun l => noneB m.vars.length l.var) zCv fun x _ => zYv x zHm (zKm x.var m hm')) (za (fun e => ?_) fun e8 => ?_)
  ·exact dI_of (conE_4 k1 k2 k3 (by rw [e, Bool.or_true]))
  have k4 : ¬(c.vars.any (noneB m.vars.length) || c.lits.any fun l => noneB m.vars.length l.var) = true := by rw [e7, e8]; decide
  refine call1 (zvh (p := farB) zIm fun x _ => zxh x) (za (fun e => ?_) fun e9 => ?_)
  ·exact dI_of (conE_5 k1 k2 k3 k4 (by rw [e]; rfl))
  refine call1 (zxh _) (za (fun e => ?_) fun e10 => ?_)
  ·exact dI_of (conE_5 k1 k2 k3 k4 (by rw [e, Bool.or_true]; rfl))
  refine call1 (zfj (p := fun r => r.any farB) zDv fun x _ => zZv x zIm fun n _ => zxh n) (za (fun e => ?_) fun e11 => ?_)
  ·exact dI_of (conE_5 k1 k2 k3 k4 (by rw [e, Bool.or_true]))
  have k5 : ¬(c.consts.any farB || farB c.n || c.rows.any fun r => r.any farB) = true := by rw [e9, e10, e11]; decide
  rw [conE_6 k1 k2 k3 k4 k5]
  refine err0 (I := fun n v => zAg c _ n v) c.lits (fun _ l => opE l) (by omega) (X := fun x => D.int .i64 x = dI (firstE (fun _ l => opE l) 0 c.lits)) (Y := D.int .i64 0 = dI (firstE (fun _ l => opE l) 0 c.lits)) (fun _ => rfl) (fun e => dI_of e) (fun n k h _ hX hn => ?_) fun n hY => ?_
  ·rw [zRl, sel_lt h, at_nat (t := .lit) h]
   unfold opE at hX hn
   refine ⟨inb_nat h, za (fun e => ?_) fun e1 => za (fun e => ?_) fun e2 => call1 (zxh _) (za (fun e => ?_) fun e => ?_)⟩
   ·have i : inR c.lits[k].op 1 4 = false := zN.2 (.inl (of_decide_eq_true e))
    rw [if_pos i] at hX; exact hX (by decide)
   ·have i : inR c.lits[k].op 1 4 = false := zN.2 (.inr (of_decide_eq_true e))
    rw [if_pos i] at hX; exact hX (by decide)
   ·have i : ¬inR c.lits[k].op 1 4 = false := by rw [zN]; simp at e1 e2; omega
    rw [if_neg i, if_pos e] at hX; exact hX (by decide)
   ·have i : ¬inR c.lits[k].op 1 4 = false := by rw [zN]; simp at e1 e2; omega
    rw [if_neg i, if_neg (by rw [e]; decide)] at hn; exact hn rfl
  ·rw [zRl, sel_end]; exact hY
end Go.Proofs.YtajnbkhgnppckaaGreatDoor
/- What the program's test of a model answers: variables, and all. -/
namespace Go.Proofs.YtajnbkhgnppckaaGreatDoor
open Go.RowKit
set_option linter.unusedVariables false
set_option linter.unusedSimpArgs false
theorem z5v (u v : VarD) : Sat Tryz.prog zwf [dV u, .iptr [.str v.name, .int .i64 v.lo, .int .i64 v.hi] 0] (dB (u.name.toList == v.name.toList)) :=
 znt u v fun ok => by rw [zmt, str_beq]
def lohiE (v : VarD) : Int := if (!inR v.lo (-50) 50 || !inR v.hi (-50) 50 || decide (v.hi < v.lo)) = true then 3 else if 6 ≤ v.hi - v.lo then 2 else 0
theorem varE_1 {a : List VarD} {v : VarD} (h : isNameS v.name = false) : varE a v = 1 := by rw [varE, if_pos h]
theorem varE_2 {a : List VarD} {v : VarD} (h1 : ¬isNameS v.name = false) (h : (a.any fun u => u.name.toList == v.name.toList) = true) : varE a v = 6 := by rw [varE, if_neg h1, if_pos h]
theorem varE_3 {a : List VarD} {v : VarD} (h1 : ¬isNameS v.name = false) (h2 : ¬(a.any fun u => u.name.toList == v.name.toList) = true) : varE a v = lohiE v := by rw [varE, if_neg h1, if_neg h2]; rfl
theorem lohi_1 {v : VarD} (h : (!inR v.lo (-50) 50) = true) : lohiE v = 3 := by rw [lohiE, h]; rfl
theorem lohi_2 {v : VarD} (h : (!inR v.hi (-50) 50) = true) : lohiE v = 3 := by rw [lohiE, h, Bool.or_true]; rfl
theorem lohi_3 {v : VarD} (h : decide (v.hi < v.lo) = true) : lohiE v = 3 := by rw [lohiE, h, Bool.or_true]; rfl
theorem lohi_4 {v : VarD} (h1 : (!inR v.lo (-50) 50) = false) (h2 : (!inR v.hi (-50) 50) = false) (h3 : decide (v.hi < v.lo) = false) : lohiE v = if 6 ≤ v.hi - v.lo then 2 else 0 := by rw [lohiE, h1, h2, h3]; rfl
theorem z6v (l : List VarD) : Sat Tryz.prog zkf [.sl .var l] (dI (varsE l)) :=
 z6s l fun ok => by
  rw [z5s]
  refine err0 (I := fun n v => zyg l _ n v) l (fun i v => varE (l.take i) v) (okLen (t := .var) (ok1 ok)) (X := fun x => D.int .i64 x = dI (varsE l)) (Y := D.int .i64 0 = dI (varsE l)) (fun _ => rfl) (fun e => dI_of e) (fun n k h _ hX hn => ?_) fun n hY => ?_
  ·rw [zQl, sel_lt h, at_nat (t := .var) h]
   refine ⟨inb_nat h, call1 (zWv _) (za (fun e => ?_) fun e => ?_)⟩
   ·rw [varE_1 (by simpa using e)] at hX; exact hX (by decide)
   have k1 : ¬isNameS l[k].name = false := by simpa using e
   refine ⟨by unfold inSl; simp; omega, ?_⟩
   rw [show ((l.take (k : Int).toNat).drop 0) = l.take k by rw [Int.toNat_natCast, List.drop_zero]]
   refine call1 (zyv (p := fun u => u.name.toList == l[k].name.toList) zBv fun x _ => z5v x _) (za (fun e => ?_) fun e => ?_)
   ·rw [varE_2 k1 e] at hX; exact hX (by decide)
   rw [varE_3 k1 (by rw [e]; decide)] at hX hn
   refine call1 (zAc _ _ _) (za (fun e => ?_) fun e1 => call1 (zAc _ _ _) (za (fun e => ?_) fun e2 => (za (fun e => ?_) fun e3 => ?_)))
   ·rw [lohi_1 e] at hX; exact hX (by decide)
   ·rw [lohi_2 e] at hX; exact hX (by decide)
   ·rw [lohi_3 e] at hX; exact hX (by decide)
   rw [lohi_4 e1 e2 e3] at hX hn
   simp [inR] at e1 e2
   rw [w64_eq (by omega) (by omega)]
   refine za (fun e => ?_) fun e => ?_
   ·rw [if_pos (of_decide_eq_true e)] at hX; exact hX (by decide)
   ·exact hn (if_neg (of_decide_eq_false e))
  ·rw [zQl, sel_end]; exact hY
theorem zLm {m : MdlD} (h : m.vars.length = 0) : checkM m = 1 := by rw [checkM, if_pos h]
theorem zyh {m : MdlD} (h1 : ¬m.vars.length = 0) (h : 6 < m.vars.length ∨ 8 < m.cons.length) : checkM m = 2 := by rw [checkM, if_neg h1, if_pos h]
theorem zMm {m : MdlD} (h1 : ¬m.vars.length = 0) (h2 : ¬(6 < m.vars.length ∨ 8 < m.cons.length)) (h : varsE m.vars ≠ 0) : checkM m = varsE m.vars := by rw [checkM, if_neg h1, if_neg h2, if_pos h]
theorem zNm {m : MdlD} (h1 : ¬m.vars.length = 0) (h2 : ¬(6 < m.vars.length ∨ 8 < m.cons.length)) (h3 : ¬varsE m.vars ≠ 0) (h : firstE (fun _ c => conE m.vars.length c) 0 m.cons ≠ 0) : checkM m = firstE (fun _ c => conE m.vars.length c) 0 m.cons := by rw [checkM, if_neg h1, if_neg h2, if_neg h3, if_pos h]
theorem zOm {m : MdlD} (h1 : ¬m.vars.length = 0) (h2 : ¬(6 < m.vars.length ∨ 8 < m.cons.length)) (h3 : ¬varsE m.vars ≠ 0) (h : ¬firstE (fun _ c => conE m.vars.length c) 0 m.cons ≠ 0) : checkM m = goalE m := by rw [checkM, if_neg h1, if_neg h2, if_neg h3, if_neg h]
theorem goalE_1 {m : MdlD} (h : inR m.goal 0 2 = false) : goalE m = 7 := by rw [goalE, if_pos h]
theorem goalE_2 {m : MdlD} (h1 : ¬inR m.goal 0 2 = false) (h : m.goal = 0) (h2 : m.var ≠ 0) : goalE m = 1 := by rw [goalE, if_neg h1, if_pos ⟨h, h2⟩]
theorem goalE_3 {m : MdlD} (h1 : ¬inR m.goal 0 2 = false) (h : m.goal = 0) (h2 : ¬m.var ≠ 0) : goalE m = 0 := by rw [goalE, if_neg h1, if_neg (fun x => h2 x.2), if_neg (fun x => x.1 h)]
theorem goalE_4 {m : MdlD} (h1 : ¬inR m.goal 0 2 = false) (h : ¬m.goal = 0) (h2 : noneB m.vars.length m.var = true) : goalE m = 5 := by rw [goalE, if_neg h1, if_neg (fun x => h x.1), if_pos ⟨h, h2⟩]
theorem goalE_5 {m : MdlD} (h1 : ¬inR m.goal 0 2 = false) (h : ¬m.goal = 0) (h2 : ¬noneB m.vars.length m.var = true) : goalE m = 0 := by rw [goalE, if_neg h1, if_neg (fun x => h x.1), if_neg (fun x => h2 x.2)]
theorem zPm (m : MdlD) : Sat Tryz.prog zGd [dM m] (dI (checkM m)) :=
 z4s m fun ok => by
  rw [z3s]
  refine za (fun e => ?_) fun e1 => za (fun e => ?_) fun e2 => za (fun e => ?_) fun e3 => ?_
  ·exact dI_of (zLm (by simp at e; simp [e]))
  ·simp at e1 e; exact dI_of (zyh (by simp [e1]) (.inl (by omega)))
  ·simp at e1 e; exact dI_of (zyh (by simp [e1]) (.inr (by omega)))
  simp at e1 e2 e3
  have k1 : ¬m.vars.length = 0 := by simp [e1]
  have k2 : ¬(6 < m.vars.length ∨ 8 < m.cons.length) := by omega
  refine call1 (z6v _) (za (fun e => ?_) fun e => ?_)
  ·exact dI_of (zMm k1 k2 (z7 e))
  have k3 : ¬varsE m.vars ≠ 0 := not_not_intro (z8 e)
  refine err0 (I := fun n v => zwg m _ n v) m.cons (fun _ c => conE m.vars.length c) (by omega) (X := fun x => D.int .i64 x = dI (checkM m)) (Y := D.int .i64 (goalE m) = dI (checkM m)) (fun h => dI_of (zNm k1 k2 k3 h)) (fun e => dI_of (zOm k1 k2 k3 (not_not_intro e))) (fun n k h _ hX hn => ?_) fun n hY => ?_
  ·rw [zPl, sel_lt h, at_nat (t := .con) h]
   exact ⟨inb_nat h, call1 (z4v m _ (by omega)) (za (fun e => hX (z7 e)) fun e => hn (z8 e))⟩
  ·rw [zPl, sel_end, ← hY]
   rw [w64_eq (by omega) (by omega)]
   refine za (fun e => ?_) fun e1 => za (fun e => ?_) fun e2 => ?_
   ·rw [goalE_1 (zN.2 (.inl (of_decide_eq_true e)))]
   ·rw [goalE_1 (zN.2 (.inr (of_decide_eq_true e)))]
   have k4 : ¬inR m.goal 0 2 = false := by rw [zN]; simp at e1 e2; omega
   refine za (fun e => za (fun f => ?_) fun f => ?_) fun e => ?_
   ·rw [goalE_2 k4 (by simpa using e) (by simpa using f)]
   ·have e' : m.goal = 0 := by simpa using e
    rw [e']
    rw [goalE_3 k4 e' (by simpa using f)]; exact rfl
   ·have e' : ¬m.goal = 0 := by simpa using e
    rw [e]
    refine call1 (zAc _ _ _) (za (fun f => ?_) fun f => ?_)
    ·rw [goalE_4 k4 e' f]
    ·rw [goalE_5 k4 e' (by show ¬ (!inR _ _ _) = true; rw [f]; decide)]
end Go.Proofs.YtajnbkhgnppckaaGreatDoor
/- What the document's test of a model answers: the same. -/
namespace Go.Proofs.YtajnbkhgnppckaaGreatDoor
open Go.RowKit
set_option linter.unusedVariables false
set_option linter.unusedSimpArgs false
theorem zQm (m : MdlD) (l : LitD) (hm : m.vars.length ≤ 1000) : Sat Tryz.prog zVc [dM m, dL l] (dI (litE m.vars.length l)) :=
 zzu m l fun ok => by
  rw [zyu, w64_eq (by omega) (by omega)]
  refine call1 (zab _ _ _) (za (fun e => ?_) fun e1 => call1 (zab _ _ _) (za (fun e => ?_) fun e2 => call1 (zwh _) (za (fun e => ?_) fun e3 => ?_)))
  ·exact dI_of (by rw [litE, if_pos (show noneB m.vars.length l.var = true from e)])
  ·have h1 : ¬noneB m.vars.length l.var = true := by show ¬(!inR _ _ _) = true; rw [e1]; decide
   exact dI_of (by rw [litE, if_neg h1, if_pos (by simpa using e)])
  all_goals
   have h1 : ¬noneB m.vars.length l.var = true := by show ¬(!inR _ _ _) = true; rw [e1]; decide
   have h2 : ¬inR l.op 1 4 = false := by simpa using e2
  ·exact dI_of (by rw [litE, if_neg h1, if_neg h2, if_pos (show farB l.n = true from e)])
  ·exact dI_of (by rw [litE, if_neg h1, if_neg h2, if_neg (by show ¬(!inR _ _ _) = true; rw [e3]; decide)])
theorem z7v (c : ConD) (h : c.kind = 6) (hn : c.n = 0) (b : Bool) (hb : (c.rows.all fun r => decide (r.length = c.vars.length)) = b) : formB c = (b && decide (1 ≤ c.vars.length) && decide (c.consts.length = 0) && decide (c.lits.length = 0)) := by
 simp [formB, h, hn, hb]
theorem z8v (c : ConD) (h1 : 1 ≤ c.kind) (h2 : c.kind ≤ 10) : Sat Tryz.prog znf [dC c] (dB (formB c)) :=
 zvu c fun ok => by
  have okr : c.rows.length ≤ 9223372036854775807 := okCLen (t := .list .int) (okA (i := 4) (ok1 ok) rfl)
  rw [zuu]
  have hk : c.kind = 1 ∨ c.kind = 2 ∨ c.kind = 3 ∨ c.kind = 4 ∨ c.kind = 5 ∨ c.kind = 6 ∨ c.kind = 7 ∨ c.kind = 8 ∨ c.kind = 9 ∨ c.kind = 10 := by omega
  rcases hk with h | h | h | h | h | h | h | h | h | h
  case inr.inr.inr.inr.inr.inl =>
   simp only [h, Int.reduceLT, Int.reduceEq, decide_true, decide_false, zXi, zYi]
   refine za (fun e => ?_) fun e => ?_
   ·simp at e; simp [formB, h, e]
   have e : c.n = 0 := by simpa using e
   refine any0 (I := fun n v => zdh c _ n v) c.rows (fun r => !decide ((r.length : Int) = (c.vars.length : Int))) okr (X := D.bool false = dB (formB c)) (Y := sel (decide (1 ≤ (c.vars.length : Int))) (sel (decide ((c.consts.length : Int) = 0)) (D.bool (decide ((c.lits.length : Int) = 0)) = dB (formB c)) (D.bool false = dB (formB c))) (D.bool false = dB (formB c))) ?_ (fun n k hk hX hn => ?_) fun n hY => ?_
   ·have ha : (c.rows.all fun r => decide (r.length = c.vars.length)) = !(c.rows.any fun r => !decide ((r.length : Int) = (c.vars.length : Int))) := by
     rw [List.all_eq_not_any_not]; congr 2; funext r; congr 1; exact decide_eq_decide.2 (by omega)
    rw [z7v c h e _ ha]
    refine za (fun e => ?_) fun e => ?_
    ·rw [e]; rfl
    ·rw [e]; (repeat' (refine za (fun _ => ?_) (fun _ => ?_))) <;> simp_all <;> omega
   ·rw [ztm, sel_lt hk, at_nat (t := .list .int) hk]
    exact ⟨inb_nat hk, za hX hn⟩
   ·rw [ztm, sel_end]; exact hY
  all_goals
   simp only [h, Int.reduceLT, Int.reduceEq, decide_true, decide_false, zXi, zYi]
   (repeat' (refine za (fun _ => ?_) (fun _ => ?_))) <;> simp_all [formB] <;> first | omega | (rw [Bool.eq_iff_iff]; simp; omega)
theorem litE_op {nv : Nat} {l : LitD} (h : noneB nv l.var = false) : litE nv l = opE l := by rw [litE, if_neg (by rw [h]; decide)]; rfl
theorem zRm {α : Type} {p : α → Bool} {l : List α} (h : l.any p = false) {k : Nat} (hk : k < l.length) : p l[k] = false := by
 rw [List.any_eq_false] at h
 simpa using h _ (List.getElem_mem hk)
theorem z9v (m : MdlD) (c : ConD) (hm : m.vars.length ≤ 6) : Sat Tryz.prog zcf [dM m, dC c] (dI (conE m.vars.length c)) :=
 z8t m c fun ok => by
  have hm' : m.vars.length ≤ 9223372036854775807 := by omega
  have okr : c.rows.length ≤ 9223372036854775807 := okCLen (t := .list .int) (okA (i := 4) (ok1 (okR ok)) rfl)
  have okr2 : ∀ k (h : k < c.rows.length), c.rows[k].length ≤ 9223372036854775807 := fun k h => okLen (t := .int) ((ok_list (t := .list .int) (okA (i := 4) (ok1 (okR ok)) rfl)).2 _ (List.getElem_mem h))
  rw [z7t]
  refine call1 (zab _ _ _) (za (fun e => ?_) fun e1 => ?_)
  ·exact dI_of (conE_1 (by simpa using e))
  have k1 : ¬inR c.kind 1 10 = false := by simpa using e1
  obtain ⟨h1, h2⟩ : 1 ≤ c.kind ∧ c.kind ≤ 10 := by simpa [inR] using e1
  refine za (fun e => ?_) fun e3 => za (fun e => ?_) fun e4 => za (fun e => ?_) fun e5 => za (fun e => ?_) fun e6 => ?_
  iterate 4 (exact dI_of (conE_2 k1 (by simp at e; simp [manyB]; omega)))
  simp at e3 e4 e5 e6
  have k2 : ¬manyB c = true := by simp [manyB]; omega
  refine call1 (z8v c h1 h2) (za (fun e => ?_) fun e => ?_)
  ·exact dI_of (conE_3 k1 k2 (by simpa using e))
  have k3 : ¬formB c = false := by simpa using e
  refine any1 (I := fun n v => z0g m c _ n v) c.vars (noneB m.vars.length) (by omega) (X := D.int .i64 5 = dI (conE m.vars.length c)) (fun e => dI_of (conE_4 k1 k2 k3 (by rw [e]; rfl))) (fun n k h hX hn => ?_) fun e7 n => ?_
  ·rw [zom, sel_lt h, at_nat (t := .int) h, w64_eq (by omega) (by omega)]
   exact ⟨inb_nat h, call1 (zab _ _ _) (za hX hn)⟩
  rw [zom, sel_end]
  refine any1 (I := fun n v => zZg m c _ n v) c.lits (fun l => noneB m.vars.length l.var) (by omega) (X := D.int .i64 5 = dI (conE m.vars.length c)) (fun e => dI_of (conE_4 k1 k2 k3 (by rw [e, Bool.or_true]))) (fun n k h hX hn => ?_) fun e8 n => ?_
  ·rw [znm, sel_lt h, at_nat (t := .lit) h, w64_eq (by omega) (by omega)]
   exact ⟨inb_nat h, call1 (zab _ _ _) (za hX hn)⟩
  rw [znm, sel_end]
  have k4 : ¬(c.vars.any (noneB m.vars.length) || c.lits.any fun l => noneB m.vars.length l.var) = true := by rw [e7, e8]; decide
  refine any1 (I := fun n v => zYg m c _ n v) c.consts farB (by omega) (X := D.int .i64 3 = dI (conE m.vars.length c)) (fun e => dI_of (conE_5 k1 k2 k3 k4 (by rw [e]; rfl))) (fun n k h hX hn => ?_) fun e9 n => ?_
  ·rw [zmm, sel_lt h, at_nat (t := .int) h]
   exact ⟨inb_nat h, call1 (zwh _) (za hX hn)⟩
  rw [zmm, sel_end]
  refine call1 (zwh _) (za (fun e => ?_) fun e10 => ?_)
  ·exact dI_of (conE_5 k1 k2 k3 k4 (by rw [show farB c.n = true from e, Bool.or_true]; rfl))
  refine any1 (I := fun n v => zXg m c _ n v) c.rows (fun r => r.any farB) okr (X := D.int .i64 3 = dI (conE m.vars.length c)) (fun e => dI_of (conE_5 k1 k2 k3 k4 (by rw [e, Bool.or_true]))) (fun n k h hX hn => ?_) fun e11 n => ?_
  ·rw [zlm, sel_lt h]
   refine any1 (I := fun n2 v => zVg m c _ n k n2 v) c.rows[k] farB (okr2 k h) hX (fun n2 j hj hX2 hn2 => ?_) fun e n2 => ?_
   ·rw [zjm, at_nat (t := .list .int) h, sel_lt hj, at_nat (t := .int) hj]
    exact ⟨inb_nat h, inb_nat h, inb_nat hj, call1 (zwh _) (za hX2 hn2)⟩
   ·rw [zjm, at_nat (t := .list .int) h, sel_end]
    exact ⟨inb_nat h, hn e⟩
  rw [zlm, sel_end]
  have k5 : ¬(c.consts.any farB || farB c.n || c.rows.any fun r => r.any farB) = true := by rw [e9, e11, show farB c.n = false from e10]; decide
  rw [conE_6 k1 k2 k3 k4 k5]
  refine err0 (I := fun n v => zWg m c _ n v) c.lits (fun _ l => opE l) (by omega) (X := fun x => D.int .i64 x = dI (firstE (fun _ l => opE l) 0 c.lits)) (Y := D.int .i64 0 = dI (firstE (fun _ l => opE l) 0 c.lits)) (fun _ => rfl) (fun e => dI_of e) (fun n k h _ hX hn => ?_) fun n hY => ?_
  ·rw [zkm, sel_lt h, at_nat (t := .lit) h]
   have := zQm m c.lits[k] (by omega)
   rw [litE_op (zRm e8 h)] at this
   exact ⟨inb_nat h, call1 this (za (fun e => hX (z7 e)) fun e => hn (z8 e))⟩
  ·rw [zkm, sel_end]; exact hY
theorem zaw (m : MdlD) : Sat Tryz.prog z7e [dM m] (dI (checkM m)) :=
 zRt m fun ok => by
  rw [zQt]
  refine za (fun e => ?_) fun e1 => za (fun e => ?_) fun e2 => za (fun e => ?_) fun e3 => ?_
  ·exact dI_of (zLm (by simp at e; simp [e]))
  ·simp at e1 e; exact dI_of (zyh (by simp [e1]) (.inl (by omega)))
  ·simp at e1 e; exact dI_of (zyh (by simp [e1]) (.inr (by omega)))
  simp at e1 e2 e3
  have k1 : ¬m.vars.length = 0 := by simp [e1]
  have k2 : ¬(6 < m.vars.length ∨ 8 < m.cons.length) := by omega
  refine err1 (I := fun n v => zNg m _ n v) m.vars (fun i v => varE (m.vars.take i) v) (by omega) (X := fun x => D.int .i64 x = dI (checkM m)) (fun h => dI_of (zMm k1 k2 h)) (fun n k h _ hX hn => ?_) fun e n => ?_
  ·rw [zam, sel_lt h, at_nat (t := .var) h]
   refine ⟨inb_nat h, call1 (zXv _) (za (fun e => ?_) fun e => ?_)⟩
   ·rw [varE_1 (by simpa using e)] at hX; exact hX (by decide)
   have k3 : ¬isNameS m.vars[k].name = false := by simpa using e
   have hl : (m.vars.take k).length = k := by rw [List.length_take]; omega
   refine any1 (I := fun n2 v => zLg m _ n k n2 v) (m.vars.take k) (fun u => u.name.toList == m.vars[k].name.toList) (by omega) (X := D.int .i64 6 = dI (checkM m)) (fun e => ?_) (fun n2 j hj hX2 hn2 => ?_) fun e n2 => ?_
   ·rw [varE_2 k3 e] at hX; exact hX (by decide)
   ·rw [hl] at hj
    rw [z8l, sel_lt hj, at_nat (t := .var) h, at_nat (t := .var) (show j < m.vars.length by omega), ← str_beq]
    rw [List.getElem_take] at hX2 hn2
    exact ⟨inb_nat (by omega), za hX2 hn2⟩
   rw [hl, z8l, sel_end, at_nat (t := .var) h]
   rw [varE_3 k3 (by rw [e]; decide)] at hX hn
   refine call1 (zab _ _ _) (za (fun e => ?_) fun e1 => call1 (zab _ _ _) (za (fun e => ?_) fun e2 => (za (fun e => ?_) fun e3 => ?_)))
   ·rw [lohi_1 e] at hX; exact hX (by decide)
   ·rw [lohi_2 e] at hX; exact hX (by decide)
   ·rw [lohi_3 e] at hX; exact hX (by decide)
   rw [lohi_4 e1 e2 e3] at hX hn
   simp [inR] at e1 e2
   rw [w64_eq (n := m.vars[k].hi - m.vars[k].lo) (by omega) (by omega), w64_eq (n := _ + 1) (by omega) (by omega)]
   refine za (fun e => ?_) fun e => ?_
   ·rw [if_pos (by have := of_decide_eq_true e; omega)] at hX; exact hX (by decide)
   ·exact hn (if_neg (by have := of_decide_eq_false e; omega))
  rw [zam, sel_end]
  have k3 : ¬varsE m.vars ≠ 0 := not_not_intro e
  refine err1 (I := fun n v => zMg m _ n v) m.cons (fun _ c => conE m.vars.length c) (by omega) (X := fun x => D.int .i64 x = dI (checkM m)) (fun h => dI_of (zNm k1 k2 k3 h)) (fun n k h _ hX hn => ?_) fun e n => ?_
  ·rw [z9l, sel_lt h, at_nat (t := .con) h]
   exact ⟨inb_nat h, call1 (z9v m _ (by omega)) (za (fun e => hX (z7 e)) fun e => hn (z8 e))⟩
  rw [z9l, sel_end, zOm k1 k2 k3 (not_not_intro e), w64_eq (by omega) (by omega)]
  refine call1 (zab _ _ _) (za (fun e => ?_) fun e => ?_)
  ·rw [goalE_1 (by simpa using e)]
  have k4 : ¬inR m.goal 0 2 = false := by simpa using e
  refine za (fun e => za (fun f => ?_) fun f => ?_) fun e => ?_
  ·rw [goalE_2 k4 (by simpa using e) (by simpa using f)]
  ·have e' : m.goal = 0 := by simpa using e
   rw [e']
   rw [goalE_3 k4 e' (by simpa using f)]; exact rfl
  ·have e' : ¬m.goal = 0 := by simpa using e
   rw [e]
   refine call1 (zab _ _ _) (za (fun f => ?_) fun f => ?_)
   ·rw [goalE_4 k4 e' f]
   ·rw [goalE_5 k4 e' (by show ¬ (!inR _ _ _) = true; rw [f]; decide)]
end Go.Proofs.YtajnbkhgnppckaaGreatDoor
/- From a law's walk, told by the denotation, to what a claim's frame asks. -/
namespace Go.Proofs.YtajnbkhgnppckaaGreatDoor
open Go.RowKit
set_option linter.unusedVariables false
variable {w : World} {S : Nat → Prop} {v : Value}
theorem rdV_agg {t : Ty} {x : t.den} (hn : (cells t x).length ≠ 1) (h : RdV w S v x) : Rp w S v (.agg (cells t x)) := by
 obtain ⟨cs, rfl, h⟩ := h
 have a1 := (zw t h).len
 have a2 := fun i d hd => (zw t h).at (i := i) (b := d) hd
 have e : vOf cs = .agg cs.toArray := by
  match cs, a1 with
  | [], _ => rfl
  | [u], a1 => exact absurd a1.symm hn
  | a :: b :: l, _ => rfl
 rw [e]
 refine .agg _ _ (by simpa using a1) fun i d hd => ?_
 obtain ⟨u, hu, hr⟩ := a2 i d hd
 have : cs.toArray.getD i Go.undef = u := by simp [Array.getD_eq_getD_getElem?, hu]
 rw [this]; exact hr
theorem rds_mdl {m : MdlD} (h : Rds w v m) : Rp w (fun b => b < w.heap.size) v (dM m) := rdV_agg (t := .mdl) (x := m) (by show 4 ≠ 1; decide) h
theorem rds_int {n : Int} (h : inI64 n) : Rp w S (.int .i64 n) (.int .i64 n) := .int .i64 n h
theorem gok_tab {P : Program} {w : World} (h : Lib.TabIs P w "internal/strconv.uint64pow10" .u64 Lib.pow10Tab) : GOk P w fun _ => False := fun g hg => ⟨h, id⟩
theorem Sat.calls {P : Program} {f : FuncId} {args : List D} {b : Bool} (h : Sat P f args (.bool b)) (W : World) {vl : List Value} (hv : All2 (Rp W fun b => b < W.heap.size) vl args) (hg : GOk P W fun _ => False) :
  Calls P f vl.toArray W fun e W' => e = .returned (.bool b) ∧ Below W.heap.size W W' := by
 have h1 := hv.len
 have h2 := fun i d hd => hv.at (i := i) (b := d) hd
 refine (h W _ vl.toArray (fun _ h => h) (by simpa using h1) (fun i d hd => ?_) hg).mono fun e w' ⟨v, he, hr, hb⟩ => ?_
 ·obtain ⟨u, hu, hr⟩ := h2 i d hd
  have : vl.toArray.getD i Go.undef = u := by simp [Array.getD_eq_getD_getElem?, hu]
  rw [this]; exact hr
 ·cases hr
  exact ⟨he, hb⟩
end Go.Proofs.YtajnbkhgnppckaaGreatDoor
