/- Texts of this proof, one behind the other: nothing is handed in but what is proved here; no condition. -/
import Derived.Test.YtogdmcebojiojaaGreatDoorMD
import Derived.Test.YtogdmcebojiojaaGreatDoorME
import Derived.Test.YtogdmcebojiojaaGreatDoorMQ
import Derived.Test.YtogdmcebojiojaaGreatDoorWText
import Derived.Test.YtogdmcebojiojaaGreatDoorMC
import Derived.Lib.AtoiErrMem
/- A text's grammar in plain words: what a parser of tokens answers, or where it gives up. -/
namespace Go.Proofs.YtogdmcebojiojaaGreatDoor
open Go.RowKit
set_option linter.unusedVariables false
set_option linter.unusedSimpArgs false

/-- What is read, and where one is then; or where one gives up, and of what. -/
inductive Pr (α : Type) | ok (x : α) (j : Nat) | err (j : Nat) (e : Int)
def Pr.on {α : Type} (r : Pr α) (K : α → Nat → Prop) (T : Nat → Int → Prop) : Prop := match r with
  | .ok x j => K x j
  | .err j e => T j e
def Pr.bind {α β : Type} (r : Pr α) (f : α → Nat → Pr β) : Pr β := match r with
  | .ok x j => f x j
  | .err j e => .err j e
theorem Pr.on_bind {α β : Type} {r : Pr α} {f : α → Nat → Pr β} {K : β → Nat → Prop} {T : Nat → Int → Prop} : (r.bind f).on K T ↔ r.on (fun x j => (f x j).on K T) T := by cases r <;> rfl
theorem Pr.on_mono {α : Type} {r : Pr α} {K K' : α → Nat → Prop} {T T' : Nat → Int → Prop} (h : r.on K T) (hK : ∀ x j, K x j → K' x j) (hT : ∀ j e, T j e → T' j e) : r.on K' T' := by
  cases r
  · exact hK _ _ h
  · exact hT _ _ h
section
variable (isName : ByteArray → Bool) (numV : ByteArray → Int) (names : List (ByteArray × Int)) (l : List Tok)
def tokA (j : Nat) : Tok := l.getD j Ty.tok.dflt
def hereP (en : Int) (j : Nat) : Int := if j < l.length then (tokA l j).at_ else en
def takeB (s : ByteArray) (j : Nat) : Bool := decide (j < l.length) && decide ((tokA l j).text = s)
def takeJ (s : ByteArray) (j : Nat) : Nat := if takeB l s j = true then j + 1 else j
def needP : List ByteArray → Nat → Pr Unit
  | [], j => .ok () j
  | s :: r, j => if takeB l s j = true then needP r (j + 1) else .err j 1
def nameP (j : Nat) : Pr ByteArray := if j < l.length ∧ isName (tokA l j).text = true then .ok (tokA l j).text j else .err j 1
def vP (j : Nat) : Pr Int := (nameP isName l j).bind fun s _ => match mget .str .int s names with
  | some n => .ok n (j + 1)
  | none => .err j 5
/-- A number, behind its sign. -/
def digP (sg : Int) (j : Nat) : Pr Int := if j < l.length ∧ (tokA l j).kind = 2 ∧ ¬(sg < 0 ∧ (tokA l j).text = ⟨#[48]⟩) then .ok (sg * numV (tokA l j).text) (j + 1) else .err j 1
def kP (j : Nat) : Pr Int := if takeB l ⟨#[45]⟩ j = true then digP numV l (-1) (j + 1) else digP numV l 1 j
def listR {α : Type} (f : Nat → Pr α) : Nat → List α → Nat → Pr (List α)
  | 0, acc, j => .err j 1
  | n + 1, acc, j => if takeB l ⟨#[44]⟩ j = true then (f (j + 1)).bind fun x j => listR f n (acc ++ [x]) j else (needP l [⟨#[93]⟩] j).bind fun _ j => .ok acc j
def listP {α : Type} (f : Nat → Pr α) (j : Nat) : Pr (List α) := (needP l [⟨#[91]⟩] j).bind fun _ j =>
  if takeB l ⟨#[93]⟩ j = true then .ok [] (j + 1) else (f j).bind fun x j => listR l f (l.length + 1) [x] j
def someP : Nat → List Int → Nat → Pr (List Int)
  | 0, acc, j => .ok acc j
  | n + 1, acc, j => (vP isName names l j).bind fun x j => someP n (acc ++ [x]) j
def opW : List ByteArray := [⟨#[60, 61]⟩, ⟨#[62, 61]⟩, ⟨#[61, 61]⟩, ⟨#[33, 61]⟩]
/-- Which of some words stands there. -/
def wordP : List ByteArray → Int → Nat → Option Int
  | [], _, _ => none
  | s :: r, i, j => if takeB l s j = true then some i else wordP r (i + 1) j
def litP (j : Nat) : Pr LitD := (vP isName names l j).bind fun v j => match wordP l opW 1 j with
  | some o => (kP numV l (j + 1)).bind fun n j => .ok ⟨v, o, n⟩ j
  | none => .err j 1
def conW : List ByteArray := [⟨#[108, 101]⟩, ⟨#[101, 113]⟩, ⟨#[110, 101]⟩, ⟨#[100, 105, 102, 102, 101, 114]⟩, ⟨#[101, 108, 101, 109, 101, 110, 116]⟩, ⟨#[116, 97, 98, 108, 101]⟩, ⟨#[116, 105, 109, 101, 115]⟩, ⟨#[109, 97, 120]⟩, ⟨#[99, 108, 97, 117, 115, 101]⟩, ⟨#[105, 102, 102]⟩]
def conB (o : Int) (j : Nat) : Pr ConD :=
  if o ≤ 3 then (listP l (kP numV l) j).bind fun cs j => (listP l (vP isName names l) j).bind fun vs j => (kP numV l j).bind fun n j => .ok ⟨o, vs, cs, n, [], []⟩ j
  else if o = 4 then (listP l (vP isName names l) j).bind fun vs j => .ok ⟨o, vs, [], 0, [], []⟩ j
  else if o = 5 then (listP l (kP numV l) j).bind fun cs j => (someP isName names l 2 [] j).bind fun vs j => .ok ⟨o, vs, cs, 0, [], []⟩ j
  else if o = 6 then (listP l (vP isName names l) j).bind fun vs j => (listP l (listP l (kP numV l)) j).bind fun rs j => .ok ⟨o, vs, [], 0, rs, []⟩ j
  else if o = 7 then (someP isName names l 3 [] j).bind fun vs j => .ok ⟨o, vs, [], 0, [], []⟩ j
  else if o = 8 then (vP isName names l j).bind fun v j => (listP l (vP isName names l) j).bind fun vs j => .ok ⟨o, v :: vs, [], 0, [], []⟩ j
  else if o = 9 then (listP l (litP isName numV names l) j).bind fun ls j => .ok ⟨o, [], [], 0, [], ls⟩ j
  else (someP isName names l 1 [] j).bind fun vs j => (litP isName numV names l j).bind fun x j => .ok ⟨o, vs, [], 0, [], [x]⟩ j
def conP (j : Nat) : Pr ConD := match wordP l conW 1 j with
  | some o => conB isName numV names l o (j + 1)
  | none => .err j 1
end
theorem takeB_lt {l : List Tok} {s : ByteArray} {j : Nat} (h : takeB l s j = true) : j < l.length := by
  simp only [takeB, Bool.and_eq_true, decide_eq_true_eq] at h; exact h.1
end Go.Proofs.YtogdmcebojiojaaGreatDoor

/- The parser's small calls: what each answers, or where it gives up. -/
namespace Go.Proofs.YtogdmcebojiojaaGreatDoor
open Go.RowKit
set_option linter.unusedVariables false
set_option linter.unusedSimpArgs false

abbrev hpP (l : List Tok) (en goal mvar : Int) (pv : List VarD) (pc : List ConD) (names : List (ByteArray × Int)) (j : Nat) : List (Nat × HObj) :=
  [(1000, .cells [.sl .tok l, dI j, dI en, .own 2000, .own 2001, dI goal, dI mvar, .own 1001]), (2000, .row 72 .var pv), (2001, .row 74 .con pc), (1001, .mp .str .int names)]
abbrev hpWt (l : List Tok) (en goal mvar : Int) (pv : List VarD) (pc : List ConD) (names : List (ByteArray × Int)) (j : Int) : List (Nat × HObj) :=
  [(1000, .cells [.sl .tok l, dI j, dI en, .own 2000, .own 2001, dI goal, dI mvar, .own 1001]), (2000, .row 72 .var pv), (2001, .row 74 .con pc), (1001, .mp .str .int names)]
/-- The fault that is given up by. -/
abbrev flt (a e : Int) : Value := .iface 158 (.agg [.int .i64 a, .int .i64 e].toArray)
def SatP {α : Type} (f : FuncId) (args : List D) (h : Nat → List (Nat × HObj)) (hr : Nat → Int) (j : Nat) (d : α → D) (r : Pr α) : Prop := match r with
  | .ok x j' => SatH Tryz.prog f args (h j) (d x) (h j')
  | .err j' e => SatT Tryz.prog f args (h j) (flt (hr j') e)
theorem SatP.call {α : Type} {f : FuncId} {args : List D} {h : Nat → List (Nat × HObj)} {hr : Nat → Int} {j : Nat} {d : α → D} {r : Pr α} {X : α → Nat → Prop} {Y : Nat → Int → Prop} {G : Prop} (hs : SatP f args h hr j d r)
    (hok : ∀ x j', SatH Tryz.prog f args (h j) (d x) (h j') → X x j' → G) (herr : ∀ j' e, SatT Tryz.prog f args (h j) (flt (hr j') e) → Y j' e → G) (hk : r.on X Y) : G := by
  cases r with
  | ok x j' => exact hok x j' hs hk
  | err j' e => exact herr j' e hs hk
theorem satP_of {α : Type} {A : Ann} {fn : Func} {f : FuncId} {args roots : List D} {own : Bool} {h : Nat → List (Nat × HObj)} {hr : Nat → Int} {j : Nat} {d : α → D} {r : Pr α} (hs : SatXI A fn f args (h j) roots own) (ht : SatTI A fn f args (h j) roots own)
    (hx : (∀ x ∈ args, okD x) → (∀ k o, look k (h j) = some o → okO o) → ∀ (R : D → List (Nat × HObj) → Prop) (T : Value → Prop), r.on (fun x j' => R (d x) (h j')) (fun j' e => T (flt (hr j') e)) → FX A fn args (h j) roots own R T) : SatP f args h hr j d r := by
  cases r with
  | ok x j' => exact hs fun h1 h2 => hx h1 h2 _ _ ⟨rfl, rfl⟩
  | err j' e => exact ht fun h1 h2 => hx h1 h2 _ _ rfl
section
variable {l : List Tok} {en goal mvar : Int} {pv : List VarD} {pc : List ConD} {names : List (ByteArray × Int)}
theorem toks_le {j : Nat} (h : ∀ k o, look k (hpP l en goal mvar pv pc names j) = some o → okO o) : l.length * 32 ≤ 140737488355328 := by
  have := h 1000 _ rfl (.sl .tok l) (by simp)
  exact this.1
theorem tok_at (j : Nat) : at' .tok l (j : Int).toNat = tokA l j := by rw [Int.toNat_natCast]; rfl
theorem text_here_ok (j : Nat) : SatH Tryz.prog f_text_parser_here [.ptr 1000 0] (hpP l en goal mvar pv pc names j) (dI (hereP l en j)) (hpP l en goal mvar pv pc names j) :=
  text_parser_here_sat _ _ _ _ _ _ _ _ fun ok ok2 => by
    rw [text_parser_here_eq, hereP, tok_at]
    by_cases h : j < l.length
    · rw [if_pos h]
      exact dt (by omega) ⟨inb_nat h, rfl, rfl⟩
    · rw [if_neg h]
      exact df (by omega) ⟨rfl, rfl⟩
theorem text_fail_ok (j : Nat) (e : Int) : SatT Tryz.prog f_text_parser_fail [.ptr 1000 0, dI e] (hpP l en goal mvar pv pc names j) (flt (hereP l en j) e) :=
  text_parser_fail_thr _ _ _ _ _ _ _ _ _ fun ok ok2 => by
    rw [text_parser_fail_eq]
    exact ⟨_, text_here_ok j, rfl⟩
theorem text_take_ok (j : Nat) (s : ByteArray) : SatH Tryz.prog f_text_parser_take [.ptr 1000 0, .str s] (hpP l en goal mvar pv pc names j) (dB (takeB l s j)) (hpP l en goal mvar pv pc names (takeJ l s j)) :=
  text_parser_take_sat _ _ _ _ _ _ _ _ _ fun ok ok2 => by
    have hl := toks_le ok2
    rw [text_parser_take_eq, tok_at, takeJ, takeB]
    by_cases h : j < l.length
    · refine df (by omega) ⟨inb_nat h, ?_⟩
      rw [decide_eq_true h, Bool.true_and]
      by_cases e : (tokA l j).text = s
      · rw [decide_eq_true e, if_pos rfl]
        refine (show sel (!true) _ _ from ⟨rfl, ?_⟩)
        rw [w64_up (by omega)]
      · rw [decide_eq_false e, if_neg (by decide)]
        exact ⟨rfl, rfl⟩
    · rw [decide_eq_false h, Bool.false_and, if_neg (by decide)]
      exact dt (by omega) ⟨rfl, rfl⟩
theorem text_need_ok (j : Nat) (ss : List ByteArray) : SatP f_text_parser_need [.ptr 1000 0, .sl .str ss] (hpP l en goal mvar pv pc names) (hereP l en) j (fun _ => .tup []) (needP l ss j) :=
  satP_of (text_parser_need_sat _ _ _ _ _ _ _ _ _) (text_parser_need_thr _ _ _ _ _ _ _ _ _) fun ok ok2 R T hx => by
    have hl : ss.length ≤ 9223372036854775807 := okLen (t := .str) (ok _ (by simp))
    rw [text_parser_need_eq]
    refine up (I := fun n v (a : Nat) => text_parser_need_I0 ss R T n v l (a : Int) en goal mvar names pv pc) (a := j) 0 ss.length rfl (Nat.zero_le _) hl
      (fun k a => (needP l (ss.drop k) a).on (fun _ j' => R (.tup []) (hpP l en goal mvar pv pc names j')) (fun j' e => T (flt (hereP l en j') e))) (by simpa using hx) fun n k a _ hk ha hn => ?_
    rw [text_parser_need_I0_eq]
    by_cases h : k < ss.length
    · rw [sel_lt h, at_nat (t := .str) h]
      rw [List.drop_eq_getElem_cons h, needP] at ha
      refine ⟨inb_nat h, _, _, text_take_ok a _, ?_⟩
      unfold takeJ
      cases hb : takeB l ss[k] a with
      | true =>
        rw [hb, if_pos rfl] at ha
        rw [if_pos rfl]
        exact bnf rfl (hn h (a + 1) ha)
      | false =>
        rw [hb, if_neg (by decide)] at ha
        rw [if_neg (by decide)]
        exact bnt rfl (.inr ⟨_, text_fail_ok a 1, ha⟩)
    · have hk' : k = ss.length := by omega
      subst hk'
      rw [sel_end]
      rw [List.drop_of_length_le (Nat.le_refl _), needP] at ha
      exact ha
theorem text_name_ok (j : Nat) : SatP f_text_parser_name [.ptr 1000 0] (hpP l en goal mvar pv pc names) (hereP l en) j .str (nameP isNameS l j) :=
  satP_of (text_parser_name_sat _ _ _ _ _ _ _ _) (text_parser_name_thr _ _ _ _ _ _ _ _) fun ok ok2 R T hx => by
    rw [text_parser_name_eq, tok_at]
    rw [nameP] at hx
    by_cases h : j < l.length
    · refine df (by omega) ⟨inb_nat h, call1 (t := .bool) (model_Name_ok _) ?_⟩
      cases hb : isNameS (tokA l j).text with
      | true =>
        rw [if_pos ⟨h, hb⟩] at hx
        exact bnf rfl ⟨inb_nat h, hx⟩
      | false =>
        rw [if_neg (by rw [hb]; rintro ⟨_, h⟩; cases h)] at hx
        exact bnt rfl (.inr ⟨_, text_fail_ok j 1, hx⟩)
    · rw [if_neg fun x => h x.1] at hx
      exact dt (by omega) (.inr ⟨_, text_fail_ok j 1, hx⟩)
end
end Go.Proofs.YtogdmcebojiojaaGreatDoor

/- The parser's numbers, variables and lists. -/
namespace Go.Proofs.YtogdmcebojiojaaGreatDoor
open Go.RowKit
set_option linter.unusedVariables false
set_option linter.unusedSimpArgs false

def numV (s : ByteArray) : Int := (Lib.atoi s.data.toList).getD 0
/-- Numbers are short numerals. -/
def NumOk (l : List Tok) : Prop := ∀ t ∈ l, t.kind = 2 → t.text.size ≤ 18 ∧ ∃ n, Lib.atoi t.text.data.toList = some n ∧ 0 ≤ n ∧ n ≤ 1000000
theorem atoi_ok {s : ByteArray} {n : Int} (hl : s.size ≤ 18) (h : Lib.atoi s.data.toList = some n) (hn : inI64 n) : SatH Tryz.prog f_strconv_Atoi [.str s] [] (.tup [dI n, .undef]) [] := by
  intro w S vs pl hS hsz hv hh hg
  have e0 := ((hv 0 _ rfl).flat (d := .str s) rfl).str_inv.1
  have e : vs = #[.string s] := by
    have hl : vs.size = 1 := hsz
    apply Array.ext
    · simpa using hl
    · intro i h1 h2
      have : i = 0 := by omega
      subst this
      simpa [Array.getD_eq_getD_getElem?, h1] using e0
  subst e
  refine (Tryz.strconv_Atoi s n hl h w).mono fun e w' ⟨he, t, hw⟩ => ?_
  subst hw
  refine ⟨_, fun _ => False, pl, he, Rp.rd (.tup _ _ rfl fun i d hd => ?_), ⟨fun k o h => (by cases h), fun k o b h => (by cases h), fun k k' o o' b h => (by cases h)⟩, fun b h => h.elim, fun b h => h.elim, fun b ⟨k, o, h, _⟩ => (by cases h), fun _ _ => rfl, .of (Lib.bytesWorld_below _ _ _)⟩
  match i, hd with
  | 0, hd => injection hd with hd; subst hd; exact .int_mk hn
  | 1, hd => injection hd with hd; subst hd; exact .undef _
theorem num_ok {l : List Tok} (hd : NumOk l) {j : Nat} (hj : j < l.length) (hk : (tokA l j).kind = 2) : SatH Tryz.prog f_strconv_Atoi [.str (tokA l j).text] [] (.tup [dI (numV (tokA l j).text), .undef]) [] ∧ 0 ≤ numV (tokA l j).text ∧ numV (tokA l j).text ≤ 1000000 := by
  have hm : tokA l j ∈ l := by
    unfold tokA
    rw [List.getD_eq_getElem?_getD, List.getElem?_eq_getElem hj]; exact List.getElem_mem hj
  obtain ⟨h1, n, h2, h3, h4⟩ := hd _ hm hk
  have e : numV (tokA l j).text = n := by rw [numV, h2]; rfl
  rw [e]
  exact ⟨atoi_ok h1 h2 (by unfold inI64; omega), h3, h4⟩
section
variable {l : List Tok} {en goal mvar : Int} {pv : List VarD} {pc : List ConD} {names : List (ByteArray × Int)}
theorem text_k_ok (hd : NumOk l) (j : Nat) : SatP f_text_parser_k [.ptr 1000 0] (hpP l en goal mvar pv pc names) (hereP l en) j (fun n : Int => dI n) (kP numV l j) :=
  satP_of (text_parser_k_sat _ _ _ _ _ _ _ _) (text_parser_k_thr _ _ _ _ _ _ _ _) fun ok ok2 R T hx => by
    have hl := toks_le ok2
    rw [text_parser_k_eq]
    refine ⟨_, _, text_take_ok j _, ?_⟩
    rw [kP] at hx
    unfold takeJ
    cases hb : takeB l ⟨#[45]⟩ j with
    | true =>
      rw [hb, if_pos rfl] at hx
      rw [if_pos rfl]
      refine bt rfl ?_
      generalize j + 1 = i at hx ⊢
      rw [digP] at hx
      by_cases h : i < l.length
      · refine df (by omega) ⟨inb_nat h, ?_⟩
        rw [tok_at]
        by_cases hk : (tokA l i).kind = 2
        · refine dnf hk (dt (by decide) ⟨inb_nat h, ?_⟩)
          by_cases h0 : (tokA l i).text = ⟨#[48]⟩
          · rw [if_neg fun x => x.2.2 ⟨by decide, h0⟩] at hx
            exact dt h0 (.inr ⟨_, text_fail_ok i 1, hx⟩)
          · rw [if_pos ⟨h, hk, fun x => h0 x.2⟩] at hx
            obtain ⟨q1, q2, q3⟩ := num_ok hd h hk
            have hX := (⟨_, q1, by rw [w64_eq (by omega) (by omega), w64_up (by omega)]; exact hx⟩ : ∃ a : Int, SatH Tryz.prog f_strconv_Atoi [.str (tokA l i).text] [] (.tup [dI a, .undef]) [] ∧ R (dI (w64 ((-1) * a))) (hpWt l en goal mvar pv pc names (w64 ((i : Int) + 1))))
            exact df h0 ⟨⟨inb_nat h, hX⟩, inb_nat h, hX⟩
        · rw [if_neg fun x => hk x.2.1] at hx
          exact dnt hk (.inr ⟨_, text_fail_ok i 1, hx⟩)
      · rw [if_neg fun x => h x.1] at hx
        exact dt (by omega) (.inr ⟨_, text_fail_ok i 1, hx⟩)
    | false =>
      rw [hb, if_neg (by decide)] at hx
      rw [if_neg (by decide)]
      refine bf rfl ?_
      rw [digP] at hx
      by_cases h : j < l.length
      · refine df (by omega) ⟨inb_nat h, ?_⟩
        rw [tok_at]
        by_cases hk : (tokA l j).kind = 2
        · refine dnf hk (df (by decide) ?_)
          rw [if_pos ⟨h, hk, fun x => absurd x.1 (by decide)⟩] at hx
          obtain ⟨q1, q2, q3⟩ := num_ok hd h hk
          have hX := (⟨_, q1, by rw [w64_eq (by omega) (by omega), w64_up (by omega)]; exact hx⟩ : ∃ a : Int, SatH Tryz.prog f_strconv_Atoi [.str (tokA l j).text] [] (.tup [dI a, .undef]) [] ∧ R (dI (w64 (1 * a))) (hpWt l en goal mvar pv pc names (w64 ((j : Int) + 1))))
          exact ⟨⟨inb_nat h, hX⟩, inb_nat h, hX⟩
        · rw [if_neg fun x => hk x.2.1] at hx
          exact dnt hk (.inr ⟨_, text_fail_ok j 1, hx⟩)
      · rw [if_neg fun x => h x.1] at hx
        exact dt (by omega) (.inr ⟨_, text_fail_ok j 1, hx⟩)
theorem mhas_some {s : ByteArray} {es : List (ByteArray × Int)} {n : Int} (h : mget .str .int s es = some n) : mhas .str .int s es = true ∧ mgetD .str .int s es = n := by
  unfold mhas mgetD
  rw [h]; exact ⟨rfl, rfl⟩
theorem mhas_none {s : ByteArray} {es : List (ByteArray × Int)} (h : mget .str .int s es = none) : mhas .str .int s es = false := by
  unfold mhas
  rw [h]; rfl
theorem text_v_ok (j : Nat) : SatP f_text_parser_v [.ptr 1000 0] (hpP l en goal mvar pv pc names) (hereP l en) j (fun n : Int => dI n) (vP isNameS names l j) :=
  satP_of (text_parser_v_sat _ _ _ _ _ _ _ _) (text_parser_v_thr _ _ _ _ _ _ _ _) fun ok ok2 R T hx => by
    have hl := toks_le ok2
    rw [text_parser_v_eq]
    have hs := text_name_ok (l := l) (en := en) (goal := goal) (mvar := mvar) (pv := pv) (pc := pc) (names := names) j
    rw [vP, nameP] at hx
    rw [nameP] at hs
    by_cases h : j < l.length ∧ isNameS (tokA l j).text = true
    · rw [if_pos h] at hs hx
      have hs : SatH Tryz.prog f_text_parser_name [.ptr 1000 0] (hpP l en goal mvar pv pc names j) (.str (tokA l j).text) (hpP l en goal mvar pv pc names j) := hs
      refine (fun h => ⟨h, h⟩) (.inl ⟨_, hs, ?_⟩)
      refine (fun h => ⟨⟨h, h⟩, h⟩) ?_
      have hx : Pr.on (match mget .str .int (tokA l j).text names with | some n => Pr.ok n (j + 1) | none => .err j 5) _ _ := hx
      cases hm : mget .str .int (tokA l j).text names with
      | some n =>
        rw [hm] at hx
        obtain ⟨h1, h2⟩ := mhas_some hm
        rw [h1, h2]
        refine bnf rfl ?_
        rw [w64_up (by omega)]; exact hx
      | none =>
        rw [hm] at hx
        rw [mhas_none hm]
        exact bnt rfl (.inr ⟨_, text_fail_ok j 5, hx⟩)
    · rw [if_neg h] at hs hx
      exact (fun h => ⟨h, h⟩) (.inr ⟨_, hs, hx⟩)
end
end Go.Proofs.YtogdmcebojiojaaGreatDoor

/- A whole text's grammar in plain words. -/
namespace Go.Proofs.YtogdmcebojiojaaGreatDoor
open Go.RowKit
set_option linter.unusedVariables false
set_option linter.unusedSimpArgs false

section
variable (isName : ByteArray → Bool) (numV : ByteArray → Int) (l : List Tok)
def varP (j : Nat) : Pr VarD := (nameP isName l j).bind fun s j => (needP l [⟨#[58]⟩] (j + 1)).bind fun _ j => (kP numV l j).bind fun a j => (needP l [⟨#[46, 46]⟩] j).bind fun _ j => (kP numV l j).bind fun b j => (needP l [⟨#[59]⟩] j).bind fun _ j => .ok ⟨s, a, b⟩ j
def addName (names : List (ByteArray × Int)) (s : ByteArray) (i : Int) : List (ByteArray × Int) := if mhas .str .int s names = true then names else mput .str .int s i names
def varsR : Nat → List VarD → List (ByteArray × Int) → Nat → Pr (List VarD × List (ByteArray × Int))
  | 0, vs, ns, j => .err j 1
  | n + 1, vs, ns, j => if takeB l ⟨#[118, 97, 114]⟩ j = true then (varP isName numV l (j + 1)).bind fun v j => varsR n (vs ++ [v]) (addName ns v.name vs.length) j else .ok (vs, ns) j
def consR (ns : List (ByteArray × Int)) : Nat → List ConD → Nat → Pr (List ConD)
  | 0, cs, j => .err j 1
  | n + 1, cs, j => if takeB l ⟨#[99, 111, 110]⟩ j = true then (conP isName numV ns l (j + 1)).bind fun c j => (needP l [⟨#[59]⟩] j).bind fun _ j => consR ns n (cs ++ [c]) j else .ok cs j
def lastP {α : Type} (x : α) (j : Nat) : Pr α := (needP l [⟨#[59]⟩] j).bind fun _ j => if j < l.length then .err j 1 else .ok x j
def goalP (ns : List (ByteArray × Int)) (j : Nat) : Pr (Int × Int) := (needP l [⟨#[115, 111, 108, 118, 101]⟩] j).bind fun _ j =>
  if takeB l ⟨#[97, 110, 121]⟩ j = true then lastP l (0, 0) (j + 1)
  else if takeB l ⟨#[108, 101, 97, 115, 116]⟩ j = true then (vP isName ns l (j + 1)).bind fun v j => lastP l (1, v) j
  else (needP l [⟨#[109, 111, 115, 116]⟩] j).bind fun _ j => (vP isName ns l j).bind fun v j => lastP l (2, v) j
def modelP : Pr (MdlD × List (ByteArray × Int)) := (varsR isName numV l (l.length + 1) [] [] 0).bind fun x j => (consR isName numV l x.2 (l.length + 1) [] j).bind fun cs j => (goalP isName l x.2 j).bind fun g j => .ok (⟨x.1, cs, g.1, g.2⟩, x.2) j
end
end Go.Proofs.YtogdmcebojiojaaGreatDoor

/- The parser's lists of numbers and of variables: printed by gen_ptext3.py. -/
namespace Go.Proofs.YtogdmcebojiojaaGreatDoor
open Go.RowKit
set_option linter.unusedVariables false
set_option linter.unusedSimpArgs false

def Adv {α : Type} (l : List Tok) (f : Nat → Pr α) : Prop := ∀ i x j, f i = .ok x j → i < j ∧ j ≤ l.length
theorem adv_v {isN : ByteArray → Bool} {names : List (ByteArray × Int)} {l : List Tok} : Adv l (vP isN names l) := fun i x j h => by
  unfold vP nameP at h
  split at h
  · rename_i hc
    simp only [Pr.bind] at h
    split at h
    · injection h with h1 h2; omega
    · cases h
  · cases h
theorem dig_adv {nv : ByteArray → Int} {l : List Tok} {sg : Int} {i : Nat} {x : Int} {j : Nat} (h : digP nv l sg i = .ok x j) : i < j ∧ j ≤ l.length := by
  unfold digP at h
  split at h
  · rename_i hc; injection h with h1 h2; omega
  · cases h
theorem adv_k {nv : ByteArray → Int} {l : List Tok} : Adv l (kP nv l) := fun i x j h => by
  unfold kP at h
  split at h
  · have := dig_adv h; omega
  · exact dig_adv h
section
variable {l : List Tok} {en goal mvar : Int} {pv : List VarD} {pc : List ConD} {names : List (ByteArray × Int)}
theorem text_list_k_run (hd : NumOk l) {R : D → List (Nat × HObj) → Prop} {T : Value → Prop} (hl : l.length * 32 ≤ 140737488355328) : ∀ (fuel : Nat) (acc : List Int) (j : Nat), j ≤ l.length → l.length < j + fuel → acc.length ≤ j →
    (listR l (kP numV l) fuel acc j).on (fun xs j' => R (.sl .int xs) (hpP l en goal mvar pv pc names j')) (fun j' e => T (flt (hereP l en j') e)) → ∃ n, text_list_int_k_I0 R T n acc l (j : Int) en goal mvar names pv pc
  | 0, acc, j, h1, h2, _, _ => by omega
  | fuel + 1, acc, j, h1, h2, h3, hx => by
    rw [listR] at hx
    cases hb : takeB l ⟨#[44]⟩ j with
    | true =>
      rw [hb, if_pos rfl] at hx
      have hlt := takeB_lt hb
      have hs := text_k_ok (l := l) (en := en) (goal := goal) (mvar := mvar) (pv := pv) (pc := pc) (names := names) hd (j + 1)
      cases hf : kP numV l (j + 1) with
      | ok x j' =>
        rw [hf] at hs hx
        have ha := adv_k _ _ _ hf
        obtain ⟨n, hn⟩ := text_list_k_run hd hl fuel (acc ++ [x]) j' ha.2 (by omega) (by rw [List.length_append]; show _ + 1 ≤ _; omega) hx
        refine ⟨n + 1, ?_⟩
        rw [text_list_int_k_I0_eq]
        refine ⟨_, _, text_take_ok j _, ?_⟩
        rw [takeJ, hb, if_pos rfl]
        exact bt rfl (.inl ⟨_, _, hs, room_of (t := .int) (by show (acc.length + 1) * 8 ≤ _; omega), hn⟩)
      | err j' e =>
        rw [hf] at hs hx
        refine ⟨1, ?_⟩
        rw [text_list_int_k_I0_eq]
        refine ⟨_, _, text_take_ok j _, ?_⟩
        rw [takeJ, hb, if_pos rfl]
        exact bt rfl (.inr ⟨_, hs, hx⟩)
    | false =>
      rw [hb, if_neg (by decide)] at hx
      refine ⟨1, ?_⟩
      rw [text_list_int_k_I0_eq]
      refine ⟨_, _, text_take_ok j _, ?_⟩
      rw [takeJ, hb, if_neg (by decide)]
      rw [Pr.on_bind] at hx
      exact bf rfl ((text_need_ok j _).call (fun _ j' hs hk => .inl ⟨_, hs, hk⟩) (fun j' e hs hy => .inr ⟨_, hs, hy⟩) hx)
theorem text_list_k_ok (hd : NumOk l) (j : Nat) : SatP f_text_list_int [.ptr 1000 0, .clp f_text_parser_k true 1000 0] (hpP l en goal mvar pv pc names) (hereP l en) j (fun xs => .sl .int xs) (listP l (kP numV l) j) :=
  satP_of (text_list_int_k_sat _ _ _ _ _ _ _ _) (text_list_int_k_thr _ _ _ _ _ _ _ _) fun ok ok2 R T hx => by
    have hl := toks_le ok2
    rw [text_list_int_k_eq]
    rw [listP, Pr.on_bind] at hx
    have hs := text_need_ok (l := l) (en := en) (goal := goal) (mvar := mvar) (pv := pv) (pc := pc) (names := names) j [⟨#[91]⟩]
    rw [needP, needP] at hs hx
    cases hb : takeB l ⟨#[91]⟩ j with
    | false =>
      rw [hb, if_neg (by decide)] at hs hx
      exact .inr ⟨_, hs, hx⟩
    | true =>
      rw [hb, if_pos rfl] at hs hx
      have h0 := takeB_lt hb
      refine .inl ⟨_, hs, _, _, text_take_ok (j + 1) _, ?_⟩
      have hx : Pr.on (if takeB l ⟨#[93]⟩ (j + 1) = true then _ else _) _ _ := hx
      cases hc : takeB l ⟨#[93]⟩ (j + 1) with
      | true =>
        rw [hc, if_pos rfl] at hx
        rw [takeJ, hc, if_pos rfl]
        exact bt rfl hx
      | false =>
        rw [hc, if_neg (by decide)] at hx
        rw [takeJ, hc, if_neg (by decide)]
        have hq := text_k_ok (l := l) (en := en) (goal := goal) (mvar := mvar) (pv := pv) (pc := pc) (names := names) hd (j + 1)
        refine bf rfl ?_
        cases hf : kP numV l (j + 1) with
        | ok x j' =>
          rw [hf] at hq hx
          have ha := adv_k _ _ _ hf
          exact .inl ⟨_, _, hq, text_list_k_run hd hl (l.length + 1) [x] j' ha.2 (by omega) (by show 1 ≤ _; omega) hx⟩
        | err j' e =>
          rw [hf] at hq hx
          exact .inr ⟨_, hq, hx⟩
theorem text_list_v_run {R : D → List (Nat × HObj) → Prop} {T : Value → Prop} (hl : l.length * 32 ≤ 140737488355328) : ∀ (fuel : Nat) (acc : List Int) (j : Nat), j ≤ l.length → l.length < j + fuel → acc.length ≤ j →
    (listR l (vP isNameS names l) fuel acc j).on (fun xs j' => R (.sl .int xs) (hpP l en goal mvar pv pc names j')) (fun j' e => T (flt (hereP l en j') e)) → ∃ n, text_list_int_v_I0 R T n acc l (j : Int) en goal mvar names pv pc
  | 0, acc, j, h1, h2, _, _ => by omega
  | fuel + 1, acc, j, h1, h2, h3, hx => by
    rw [listR] at hx
    cases hb : takeB l ⟨#[44]⟩ j with
    | true =>
      rw [hb, if_pos rfl] at hx
      have hlt := takeB_lt hb
      have hs := text_v_ok (l := l) (en := en) (goal := goal) (mvar := mvar) (pv := pv) (pc := pc) (names := names) (j + 1)
      cases hf : vP isNameS names l (j + 1) with
      | ok x j' =>
        rw [hf] at hs hx
        have ha := adv_v _ _ _ hf
        obtain ⟨n, hn⟩ := text_list_v_run hl fuel (acc ++ [x]) j' ha.2 (by omega) (by rw [List.length_append]; show _ + 1 ≤ _; omega) hx
        refine ⟨n + 1, ?_⟩
        rw [text_list_int_v_I0_eq]
        refine ⟨_, _, text_take_ok j _, ?_⟩
        rw [takeJ, hb, if_pos rfl]
        exact bt rfl (.inl ⟨_, _, hs, room_of (t := .int) (by show (acc.length + 1) * 8 ≤ _; omega), hn⟩)
      | err j' e =>
        rw [hf] at hs hx
        refine ⟨1, ?_⟩
        rw [text_list_int_v_I0_eq]
        refine ⟨_, _, text_take_ok j _, ?_⟩
        rw [takeJ, hb, if_pos rfl]
        exact bt rfl (.inr ⟨_, hs, hx⟩)
    | false =>
      rw [hb, if_neg (by decide)] at hx
      refine ⟨1, ?_⟩
      rw [text_list_int_v_I0_eq]
      refine ⟨_, _, text_take_ok j _, ?_⟩
      rw [takeJ, hb, if_neg (by decide)]
      rw [Pr.on_bind] at hx
      exact bf rfl ((text_need_ok j _).call (fun _ j' hs hk => .inl ⟨_, hs, hk⟩) (fun j' e hs hy => .inr ⟨_, hs, hy⟩) hx)
theorem text_list_v_ok (j : Nat) : SatP f_text_list_int [.ptr 1000 0, .clp f_text_parser_v true 1000 0] (hpP l en goal mvar pv pc names) (hereP l en) j (fun xs => .sl .int xs) (listP l (vP isNameS names l) j) :=
  satP_of (text_list_int_v_sat _ _ _ _ _ _ _ _) (text_list_int_v_thr _ _ _ _ _ _ _ _) fun ok ok2 R T hx => by
    have hl := toks_le ok2
    rw [text_list_int_v_eq]
    rw [listP, Pr.on_bind] at hx
    have hs := text_need_ok (l := l) (en := en) (goal := goal) (mvar := mvar) (pv := pv) (pc := pc) (names := names) j [⟨#[91]⟩]
    rw [needP, needP] at hs hx
    cases hb : takeB l ⟨#[91]⟩ j with
    | false =>
      rw [hb, if_neg (by decide)] at hs hx
      exact .inr ⟨_, hs, hx⟩
    | true =>
      rw [hb, if_pos rfl] at hs hx
      have h0 := takeB_lt hb
      refine .inl ⟨_, hs, _, _, text_take_ok (j + 1) _, ?_⟩
      have hx : Pr.on (if takeB l ⟨#[93]⟩ (j + 1) = true then _ else _) _ _ := hx
      cases hc : takeB l ⟨#[93]⟩ (j + 1) with
      | true =>
        rw [hc, if_pos rfl] at hx
        rw [takeJ, hc, if_pos rfl]
        exact bt rfl hx
      | false =>
        rw [hc, if_neg (by decide)] at hx
        rw [takeJ, hc, if_neg (by decide)]
        have hq := text_v_ok (l := l) (en := en) (goal := goal) (mvar := mvar) (pv := pv) (pc := pc) (names := names) (j + 1)
        refine bf rfl ?_
        cases hf : vP isNameS names l (j + 1) with
        | ok x j' =>
          rw [hf] at hq hx
          have ha := adv_v _ _ _ hf
          exact .inl ⟨_, _, hq, text_list_v_run hl (l.length + 1) [x] j' ha.2 (by omega) (by show 1 ≤ _; omega) hx⟩
        | err j' e =>
          rw [hf] at hq hx
          exact .inr ⟨_, hq, hx⟩
end
end Go.Proofs.YtogdmcebojiojaaGreatDoor

/- The parser's lists of literals, of rows, of so many: printed by gen_ptext3.py. -/
namespace Go.Proofs.YtogdmcebojiojaaGreatDoor
open Go.RowKit
set_option linter.unusedVariables false
set_option linter.unusedSimpArgs false

section
variable {l : List Tok} {en goal mvar : Int} {pv : List VarD} {pc : List ConD} {names : List (ByteArray × Int)}
theorem some_adv {isN : ByteArray → Bool} : ∀ (n : Nat) (acc : List Int) (j : Nat) (xs : List Int) (j' : Nat), someP isN names l n acc j = .ok xs j' → j ≤ j' ∧ (1 ≤ n → j' ≤ l.length)
  | 0, acc, j, xs, j', h => by injection h with h1 h2; omega
  | n + 1, acc, j, xs, j', h => by
    unfold someP at h
    cases hv : vP isN names l j with
    | ok x i =>
      rw [hv] at h
      have := adv_v _ _ _ hv
      have := some_adv n _ i xs j' h
      cases n with
      | zero => injection h with h1 h2; omega
      | succ n => omega
    | err i e => rw [hv] at h; cases h
theorem text_some_ok (many : Nat) (hm : many ≤ 6) (j : Nat) : SatP f_text_parser_some [.ptr 1000 0, dI many] (hpP l en goal mvar pv pc names) (hereP l en) j (fun xs => .sl .int xs) (someP isNameS names l many [] j) :=
  satP_of (text_parser_some_sat _ _ _ _ _ _ _ _ _) (text_parser_some_thr _ _ _ _ _ _ _ _ _) fun ok ok2 R T hx => by
    rw [text_parser_some_eq]
    suffices H : ∀ (d k : Nat) (acc : List Int) (j : Nat), k + d = many → acc.length = k → (someP isNameS names l d acc j).on (fun xs j' => R (.sl .int xs) (hpP l en goal mvar pv pc names j')) (fun j' e => T (flt (hereP l en j') e)) →
        ∃ n, text_parser_some_I0 (many : Int) R T n (k : Int) acc l (j : Int) en goal mvar names pv pc from H many 0 [] j (by omega) rfl hx
    intro d
    induction d with
    | zero =>
      intro k acc j hk ha hx
      refine ⟨1, ?_⟩
      rw [text_parser_some_I0_eq]
      exact df (by omega) hx
    | succ d ih =>
      intro k acc j hk ha hx
      rw [someP] at hx
      have hq := text_v_ok (l := l) (en := en) (goal := goal) (mvar := mvar) (pv := pv) (pc := pc) (names := names) j
      cases hv : vP isNameS names l j with
      | ok x i =>
        rw [hv] at hq hx
        obtain ⟨n, hn⟩ := ih (k + 1) (acc ++ [x]) i (by omega) (by rw [List.length_append, ha]; rfl) hx
        refine ⟨n + 1, ?_⟩
        rw [text_parser_some_I0_eq]
        refine dt (by omega) (.inl ⟨_, _, hq, room_of (t := .int) (by show (acc.length + 1) * 8 ≤ _; omega), ?_⟩)
        rw [w64_up (by omega)]; exact hn
      | err i e =>
        rw [hv] at hq hx
        refine ⟨1, ?_⟩
        rw [text_parser_some_I0_eq]
        exact dt (by omega) (.inr ⟨_, hq, hx⟩)
theorem adv_lit {isN : ByteArray → Bool} {nv : ByteArray → Int} : Adv l (litP isN nv names l) := fun i x j h => by
  unfold litP at h
  cases hv : vP isN names l i with
  | ok v i1 =>
    rw [hv] at h
    have h1 := adv_v _ _ _ hv
    simp only [Pr.bind] at h
    split at h
    · cases hk : kP nv l (i1 + 1) with
      | ok n i2 =>
        rw [hk] at h
        have h2 := adv_k _ _ _ hk
        injection h with h3 h4; omega
      | err i2 e => rw [hk] at h; cases h
    · cases h
  | err i1 e => rw [hv] at h; cases h
theorem text_lit_run (hd : NumOk l) {R : D → List (Nat × HObj) → Prop} {T : Value → Prop} (v : Int) : ∀ (r pre : List ByteArray) (j : Nat), opW = pre ++ r →
    ((match wordP l r ((pre.length : Int) + 1) j with | some o => (kP numV l (j + 1)).bind fun n j => .ok (⟨v, o, n⟩ : LitD) j | none => .err j 1).on (fun x j' => R (dL x) (hpP l en goal mvar pv pc names j')) fun j' e => T (flt (hereP l en j') e)) →
    ∃ n, text_parser_lit_I0 R T n (pre.length : Int) 0 0 0 v 0 0 l (j : Int) en goal mvar names pv pc
  | [], pre, j, hw, hx => by
    refine ⟨1, ?_⟩
    rw [text_parser_lit_I0_eq]
    have hl : pre.length = 4 := by have := congrArg List.length hw; simpa [opW] using this.symm
    refine df (by rw [hl]; decide) (.inr ⟨_, text_fail_ok j 1, hx⟩)
  | s :: r, pre, j, hw, hx => by
    have hl : pre.length < opW.length := by rw [hw, List.length_append, List.length_cons]; omega
    have hl4 : pre.length < 4 := hl
    have hat : at' .str opW (pre.length : Int).toNat = s := by
      rw [Int.toNat_natCast]
      show opW.getD _ _ = _
      rw [hw, List.getD_eq_getElem?_getD, List.getElem?_append_right (Nat.le_refl _), Nat.sub_self]; rfl
    have hs := text_take_ok (l := l) (en := en) (goal := goal) (mvar := mvar) (pv := pv) (pc := pc) (names := names) j s
    rw [← hat] at hs
    rw [wordP] at hx
    cases hb : takeB l s j with
    | true =>
      rw [hb, if_pos rfl] at hx
      refine ⟨1, ?_⟩
      rw [text_parser_lit_I0_eq]
      refine dt (by show (pre.length : Int) < (4 : Nat); omega) ⟨inb_nat hl4, _, _, hs, ?_⟩
      rw [hat, takeJ, hb, if_pos rfl]
      rw [w64_eq (by omega) (by omega), show (1 : Int) + pre.length = (pre.length : Int) + 1 by omega]
      have hx : Pr.on ((kP numV l (j + 1)).bind _) _ _ := hx
      rw [Pr.on_bind] at hx
      exact bt rfl ((text_k_ok hd (j + 1)).call (fun _ j' hs hk => .inl ⟨_, _, hs, hk⟩) (fun j' e hs hy => .inr ⟨_, hs, hy⟩) hx)
    | false =>
      rw [hb, if_neg (by decide)] at hx
      obtain ⟨n, hn⟩ := text_lit_run hd v r (pre ++ [s]) j (by rw [hw, List.append_assoc]; rfl) (by rw [List.length_append]; show Pr.on (match wordP l r (((pre.length + 1 : Nat) : Int) + 1) j with | some o => _ | none => _) _ _; rw [show ((pre.length + 1 : Nat) : Int) = (pre.length : Int) + 1 by omega]; exact hx)
      refine ⟨n + 1, ?_⟩
      rw [text_parser_lit_I0_eq]
      refine dt (by show (pre.length : Int) < (4 : Nat); omega) ⟨inb_nat hl4, _, _, hs, ?_⟩
      rw [hat, takeJ, hb, if_neg (by decide), w64_up (by omega)]
      rw [List.length_append] at hn
      exact bf rfl hn
theorem text_lit_ok (hd : NumOk l) (j : Nat) : SatP f_text_parser_lit [.ptr 1000 0] (hpP l en goal mvar pv pc names) (hereP l en) j (fun x => dL x) (litP isNameS numV names l j) :=
  satP_of (text_parser_lit_sat _ _ _ _ _ _ _ _) (text_parser_lit_thr _ _ _ _ _ _ _ _) fun ok ok2 R T hx => by
    rw [text_parser_lit_eq]
    rw [litP, Pr.on_bind] at hx
    exact (text_v_ok j).call (fun v j' hs hk => .inl ⟨_, _, hs, text_lit_run hd v opW [] j' rfl hk⟩) (fun j' e hs hy => .inr ⟨_, hs, hy⟩) hx
theorem text_list_lit_run (hd : NumOk l) {R : D → List (Nat × HObj) → Prop} {T : Value → Prop} (hl : l.length * 32 ≤ 140737488355328) : ∀ (fuel : Nat) (acc : List LitD) (j : Nat), j ≤ l.length → l.length < j + fuel → acc.length ≤ j →
    (listR l (litP isNameS numV names l) fuel acc j).on (fun xs j' => R (.sl .lit xs) (hpP l en goal mvar pv pc names j')) (fun j' e => T (flt (hereP l en j') e)) → ∃ n, text_list_api_Lit_I0 R T n acc l (j : Int) en goal mvar names pv pc
  | 0, acc, j, h1, h2, _, _ => by omega
  | fuel + 1, acc, j, h1, h2, h3, hx => by
    rw [listR] at hx
    cases hb : takeB l ⟨#[44]⟩ j with
    | true =>
      rw [hb, if_pos rfl] at hx
      have hlt := takeB_lt hb
      have hs := text_lit_ok (l := l) (en := en) (goal := goal) (mvar := mvar) (pv := pv) (pc := pc) (names := names) hd (j + 1)
      cases hf : litP isNameS numV names l (j + 1) with
      | ok x j' =>
        rw [hf] at hs hx
        have ha := adv_lit _ _ _ hf
        obtain ⟨n, hn⟩ := text_list_lit_run hd hl fuel (acc ++ [x]) j' ha.2 (by omega) (by rw [List.length_append]; show _ + 1 ≤ _; omega) hx
        refine ⟨n + 1, ?_⟩
        rw [text_list_api_Lit_I0_eq]
        refine ⟨_, _, text_take_ok j _, ?_⟩
        rw [takeJ, hb, if_pos rfl]
        exact bt rfl (.inl ⟨_, _, hs, room_of (t := .lit) (by show (acc.length + 1) * 24 ≤ _; omega), hn⟩)
      | err j' e =>
        rw [hf] at hs hx
        refine ⟨1, ?_⟩
        rw [text_list_api_Lit_I0_eq]
        refine ⟨_, _, text_take_ok j _, ?_⟩
        rw [takeJ, hb, if_pos rfl]
        exact bt rfl (.inr ⟨_, hs, hx⟩)
    | false =>
      rw [hb, if_neg (by decide)] at hx
      refine ⟨1, ?_⟩
      rw [text_list_api_Lit_I0_eq]
      refine ⟨_, _, text_take_ok j _, ?_⟩
      rw [takeJ, hb, if_neg (by decide)]
      rw [Pr.on_bind] at hx
      exact bf rfl ((text_need_ok j _).call (fun _ j' hs hk => .inl ⟨_, hs, hk⟩) (fun j' e hs hy => .inr ⟨_, hs, hy⟩) hx)
theorem text_list_lit_ok (hd : NumOk l) (j : Nat) : SatP f_text_list_api_Lit [.ptr 1000 0, .clp f_text_parser_lit true 1000 0] (hpP l en goal mvar pv pc names) (hereP l en) j (fun xs => .sl .lit xs) (listP l (litP isNameS numV names l) j) :=
  satP_of (text_list_api_Lit_sat _ _ _ _ _ _ _ _) (text_list_api_Lit_thr _ _ _ _ _ _ _ _) fun ok ok2 R T hx => by
    have hl := toks_le ok2
    rw [text_list_api_Lit_eq]
    rw [listP, Pr.on_bind] at hx
    have hs := text_need_ok (l := l) (en := en) (goal := goal) (mvar := mvar) (pv := pv) (pc := pc) (names := names) j [⟨#[91]⟩]
    rw [needP, needP] at hs hx
    cases hb : takeB l ⟨#[91]⟩ j with
    | false =>
      rw [hb, if_neg (by decide)] at hs hx
      exact .inr ⟨_, hs, hx⟩
    | true =>
      rw [hb, if_pos rfl] at hs hx
      have h0 := takeB_lt hb
      refine .inl ⟨_, hs, _, _, text_take_ok (j + 1) _, ?_⟩
      have hx : Pr.on (if takeB l ⟨#[93]⟩ (j + 1) = true then _ else _) _ _ := hx
      cases hc : takeB l ⟨#[93]⟩ (j + 1) with
      | true =>
        rw [hc, if_pos rfl] at hx
        rw [takeJ, hc, if_pos rfl]
        exact bt rfl hx
      | false =>
        rw [hc, if_neg (by decide)] at hx
        rw [takeJ, hc, if_neg (by decide)]
        have hq := text_lit_ok (l := l) (en := en) (goal := goal) (mvar := mvar) (pv := pv) (pc := pc) (names := names) hd (j + 1)
        refine bf rfl ?_
        cases hf : litP isNameS numV names l (j + 1) with
        | ok x j' =>
          rw [hf] at hq hx
          have ha := adv_lit _ _ _ hf
          exact .inl ⟨_, _, hq, text_list_lit_run hd hl (l.length + 1) [x] j' ha.2 (by omega) (by show 1 ≤ _; omega) hx⟩
        | err j' e =>
          rw [hf] at hq hx
          exact .inr ⟨_, hq, hx⟩
end
end Go.Proofs.YtogdmcebojiojaaGreatDoor

/- The parser's lists of rows, and constraints: printed by gen_ptext3.py. -/
namespace Go.Proofs.YtogdmcebojiojaaGreatDoor
open Go.RowKit
set_option linter.unusedVariables false
set_option linter.unusedSimpArgs false

section
variable {l : List Tok} {en goal mvar : Int} {pv : List VarD} {pc : List ConD} {names : List (ByteArray × Int)}
theorem listR_adv {α : Type} {f : Nat → Pr α} (hf : Adv l f) : ∀ (fuel : Nat) (acc : List α) (j : Nat) (xs : List α) (j' : Nat), listR l f fuel acc j = .ok xs j' → j < j' ∧ j' ≤ l.length
  | 0, acc, j, xs, j', h => by cases h
  | fuel + 1, acc, j, xs, j', h => by
    unfold listR at h
    split at h
    · rename_i hb
      have hlt := takeB_lt hb
      cases hv : f (j + 1) with
      | ok x i =>
        rw [hv] at h
        have h1 := hf _ _ _ hv
        have h2 := listR_adv hf fuel _ i xs j' h
        omega
      | err i e => rw [hv] at h; cases h
    · rw [needP, needP] at h
      split at h
      · rename_i hb
        have hlt := takeB_lt hb
        injection h with h1 h2; omega
      · cases h
theorem adv_list {α : Type} {f : Nat → Pr α} (hf : Adv l f) : Adv l (listP l f) := fun i x j h => by
  unfold listP at h
  rw [needP, needP] at h
  split at h
  · rename_i hb
    have h0 := takeB_lt hb
    simp only [Pr.bind] at h
    split at h
    · rename_i hc
      have := takeB_lt hc
      injection h with h1 h2; omega
    · cases hv : f (i + 1) with
      | ok y k =>
        rw [hv] at h
        have h1 := hf _ _ _ hv
        have h2 := listR_adv hf _ _ _ _ _ h
        omega
      | err k e => rw [hv] at h; cases h
  · cases h
abbrev hpCt (l : List Tok) (en goal mvar : Int) (pv : List VarD) (pc : List ConD) (names : List (ByteArray × Int)) (j : Nat) : List (Nat × HObj) :=
  [(1000, .cells [.ptr 1001 0]), (1001, .cells [.sl .tok l, dI j, dI en, .own 2000, .own 2001, dI goal, dI mvar, .own 1002]), (2000, .row 72 .var pv), (2001, .row 74 .con pc), (1002, .mp .str .int names)]
abbrev hpQ (l : List Tok) (en goal mvar : Int) (pv : List VarD) (pc : List ConD) (names : List (ByteArray × Int)) (j : Nat) : List (Nat × HObj) :=
  [(1000, .cells [.sl .tok l, dI j, dI en, .own 2000, .own 2001, dI goal, dI mvar, .own 1001]), (2000, .row 72 .var pv), (2001, .row 74 .con pc), (1001, .mp .str .int names), (1002, .cells [.ptr 1000 0])]
theorem text_con1_ok (hd : NumOk l) (j : Nat) : SatP f_text_parser_con_1 [.ptr 1000 0] (hpCt l en goal mvar pv pc names) (hereP l en) j (fun xs => .sl .int xs) (listP l (kP numV l) j) :=
  satP_of (text_parser_con_1_sat _ _ _ _ _ _ _ _) (text_parser_con_1_thr _ _ _ _ _ _ _ _) fun ok ok2 R T hx => by
    rw [text_parser_con_1_eq]
    exact (text_list_k_ok hd j).call (fun _ j' hs hk => .inl ⟨_, _, hs, hk⟩) (fun j' e hs hy => .inr ⟨_, hs, hy⟩) hx
theorem text_list_rows_run (hd : NumOk l) {R : D → List (Nat × HObj) → Prop} {T : Value → Prop} (hl : l.length * 32 ≤ 140737488355328) : ∀ (fuel : Nat) (acc : List (List Int)) (j : Nat), j ≤ l.length → l.length < j + fuel → acc.length ≤ j →
    (listR l (listP l (kP numV l)) fuel acc j).on (fun xs j' => R (dS xs) (hpQ l en goal mvar pv pc names j')) (fun j' e => T (flt (hereP l en j') e)) → ∃ n, text_list_l_int_I0 R T n acc l (j : Int) en goal mvar names pv pc
  | 0, acc, j, h1, h2, _, _ => by omega
  | fuel + 1, acc, j, h1, h2, h3, hx => by
    rw [listR] at hx
    cases hb : takeB l ⟨#[44]⟩ j with
    | true =>
      rw [hb, if_pos rfl] at hx
      have hlt := takeB_lt hb
      have hs := text_con1_ok (l := l) (en := en) (goal := goal) (mvar := mvar) (pv := pv) (pc := pc) (names := names) hd (j + 1)
      cases hf : listP l (kP numV l) (j + 1) with
      | ok x j' =>
        rw [hf] at hs hx
        have ha := (adv_list adv_k) _ _ _ hf
        obtain ⟨n, hn⟩ := text_list_rows_run hd hl fuel (acc ++ [x]) j' ha.2 (by omega) (by rw [List.length_append]; show _ + 1 ≤ _; omega) hx
        refine ⟨n + 1, ?_⟩
        rw [text_list_l_int_I0_eq]
        refine ⟨_, _, text_take_ok j _, ?_⟩
        rw [takeJ, hb, if_pos rfl]
        exact bt rfl (.inl ⟨_, _, hs, room_of (t := .list .int) (by show (acc.length + 1) * 24 ≤ _; omega), hn⟩)
      | err j' e =>
        rw [hf] at hs hx
        refine ⟨1, ?_⟩
        rw [text_list_l_int_I0_eq]
        refine ⟨_, _, text_take_ok j _, ?_⟩
        rw [takeJ, hb, if_pos rfl]
        exact bt rfl (.inr ⟨_, hs, hx⟩)
    | false =>
      rw [hb, if_neg (by decide)] at hx
      refine ⟨1, ?_⟩
      rw [text_list_l_int_I0_eq]
      refine ⟨_, _, text_take_ok j _, ?_⟩
      rw [takeJ, hb, if_neg (by decide)]
      rw [Pr.on_bind] at hx
      exact bf rfl ((text_need_ok j _).call (fun _ j' hs hk => .inl ⟨_, hs, hk⟩) (fun j' e hs hy => .inr ⟨_, hs, hy⟩) hx)
theorem text_list_rows_ok (hd : NumOk l) (j : Nat) : SatP f_text_list_l_int [.ptr 1000 0, .clp f_text_parser_con_1 false 1002 0] (hpQ l en goal mvar pv pc names) (hereP l en) j (fun xs => dS xs) (listP l (listP l (kP numV l)) j) :=
  satP_of (text_list_l_int_sat _ _ _ _ _ _ _ _) (text_list_l_int_thr _ _ _ _ _ _ _ _) fun ok ok2 R T hx => by
    have hl : l.length * 32 ≤ 140737488355328 := (ok2 1000 _ rfl (.sl .tok l) (by simp)).1
    rw [text_list_l_int_eq]
    rw [listP, Pr.on_bind] at hx
    have hs := text_need_ok (l := l) (en := en) (goal := goal) (mvar := mvar) (pv := pv) (pc := pc) (names := names) j [⟨#[91]⟩]
    rw [needP, needP] at hs hx
    cases hb : takeB l ⟨#[91]⟩ j with
    | false =>
      rw [hb, if_neg (by decide)] at hs hx
      exact .inr ⟨_, hs, hx⟩
    | true =>
      rw [hb, if_pos rfl] at hs hx
      have h0 := takeB_lt hb
      refine .inl ⟨_, hs, _, _, text_take_ok (j + 1) _, ?_⟩
      have hx : Pr.on (if takeB l ⟨#[93]⟩ (j + 1) = true then _ else _) _ _ := hx
      cases hc : takeB l ⟨#[93]⟩ (j + 1) with
      | true =>
        rw [hc, if_pos rfl] at hx
        rw [takeJ, hc, if_pos rfl]
        exact bt rfl hx
      | false =>
        rw [hc, if_neg (by decide)] at hx
        rw [takeJ, hc, if_neg (by decide)]
        have hq := text_con1_ok (l := l) (en := en) (goal := goal) (mvar := mvar) (pv := pv) (pc := pc) (names := names) hd (j + 1)
        refine bf rfl ?_
        cases hf : listP l (kP numV l) (j + 1) with
        | ok x j' =>
          rw [hf] at hq hx
          have ha := (adv_list adv_k) _ _ _ hf
          exact .inl ⟨_, _, hq, text_list_rows_run hd hl (l.length + 1) [x] j' ha.2 (by omega) (by show 1 ≤ _; omega) hx⟩
        | err j' e =>
          rw [hf] at hq hx
          exact .inr ⟨_, hq, hx⟩
end
end Go.Proofs.YtogdmcebojiojaaGreatDoor

/- The parser's constraints. -/
namespace Go.Proofs.YtogdmcebojiojaaGreatDoor
open Go.RowKit
set_option linter.unusedVariables false
set_option linter.unusedSimpArgs false

section
variable {l : List Tok} {en goal mvar : Int} {pv : List VarD} {pc : List ConD} {names : List (ByteArray × Int)}
theorem listR_len {α : Type} {f : Nat → Pr α} (hf : Adv l f) : ∀ (fuel : Nat) (acc : List α) (j : Nat) (xs : List α) (j' : Nat), acc.length ≤ j → listR l f fuel acc j = .ok xs j' → xs.length ≤ j'
  | 0, acc, j, xs, j', _, h => by cases h
  | fuel + 1, acc, j, xs, j', ha, h => by
    unfold listR at h
    split at h
    · cases hv : f (j + 1) with
      | ok x i =>
        rw [hv] at h
        have h1 := hf _ _ _ hv
        exact listR_len hf fuel (acc ++ [x]) i xs j' (by rw [List.length_append]; show _ + 1 ≤ _; omega) h
      | err i e => rw [hv] at h; cases h
    · rw [needP, needP] at h
      split at h
      · injection h with h1 h2; subst h1; omega
      · cases h
theorem listP_len {α : Type} {f : Nat → Pr α} (hf : Adv l f) {i j : Nat} {xs : List α} (h : listP l f i = .ok xs j) : xs.length ≤ j := by
  unfold listP at h
  rw [needP, needP] at h
  split at h
  · simp only [Pr.bind] at h
    split at h
    · injection h with h1 h2; subst h1; exact Nat.zero_le _
    · cases hv : f (i + 1) with
      | ok y k =>
        rw [hv] at h
        have h1 := hf _ _ _ hv
        exact listR_len hf _ [y] k _ _ (by show 1 ≤ k; omega) h
      | err k e => rw [hv] at h; cases h
  · cases h
theorem text_words_ok : Sat Tryz.prog f_text_words [] (.sl .str conW) :=
  text_words_sat fun ok => by
    rw [text_words_eq]
    rfl
theorem text_con_run (hd : NumOk l) (hl : l.length * 32 ≤ 140737488355328) {R : D → List (Nat × HObj) → Prop} {T : Value → Prop} : ∀ (r pre : List ByteArray) (j : Nat), conW = pre ++ r →
    ((match wordP l r ((pre.length : Int) + 1) j with | some o => conB isNameS numV names l o (j + 1) | none => .err j 1).on (fun x j' => R (dC x) (hpP l en goal mvar pv pc names j')) fun j' e => T (flt (hereP l en j') e)) →
    ∃ n, text_parser_con_I0 R T conW n (pre.length : Int) 0 [] [] 0 [] [] 0 [] [] 0 [] [] l (j : Int) en goal mvar names pv pc
  | [], pre, j, hw, hx => by
    refine ⟨1, ?_⟩
    rw [text_parser_con_I0_eq]
    have hl : pre.length = 10 := by have := congrArg List.length hw; simpa [conW] using this.symm
    refine df (by rw [hl]; decide) (dt rfl (.inr ⟨_, text_fail_ok j 1, hx⟩))
  | s :: r, pre, j, hw, hx => by
    have hl4 : pre.length < conW.length := by rw [hw, List.length_append, List.length_cons]; omega
    have hl10 : pre.length < 10 := hl4
    have hat : at' .str conW (pre.length : Int).toNat = s := by
      rw [Int.toNat_natCast]
      show conW.getD _ _ = _
      rw [hw, List.getD_eq_getElem?_getD, List.getElem?_append_right (Nat.le_refl _), Nat.sub_self]; rfl
    have hs := text_take_ok (l := l) (en := en) (goal := goal) (mvar := mvar) (pv := pv) (pc := pc) (names := names) j s
    rw [← hat] at hs
    rw [wordP] at hx
    cases hb : takeB l s j with
    | true =>
      rw [hb, if_pos rfl] at hx
      refine ⟨1, ?_⟩
      rw [text_parser_con_I0_eq]
      refine sel_lt hl4 ▸ ⟨inb_nat hl4, _, _, hs, ?_⟩
      rw [hat, takeJ, hb, if_pos rfl]
      refine bt rfl ?_
      rw [w64_eq (by omega) (by omega)]
      have hx : Pr.on (conB isNameS numV names l ((pre.length : Int) + 1) (j + 1)) _ _ := hx
      rw [show (pre.length : Int) + 1 = 1 + pre.length by omega] at hx
      refine df (by omega) ?_
      by_cases e1 : (1 : Int) + pre.length = 1
      · refine dt e1 ?_
        rw [conB, if_pos (by omega)] at hx
        exact (text_list_k_ok hd _).call (fun _ _ hs hk => .inl ⟨_, _, hs, (text_list_v_ok _).call (fun _ _ hs hk => .inl ⟨_, _, hs, (text_k_ok hd _).call (fun _ _ hs hk => .inl ⟨_, _, hs, hk⟩) (fun _ _ hs hy => .inr ⟨_, hs, hy⟩) (Pr.on_bind.1 hk)⟩) (fun _ _ hs hy => .inr ⟨_, hs, hy⟩) (Pr.on_bind.1 hk)⟩) (fun _ _ hs hy => .inr ⟨_, hs, hy⟩) (Pr.on_bind.1 hx)
      refine df e1 ?_
      by_cases e2 : (1 : Int) + pre.length = 2
      · refine dt e2 ?_
        rw [conB, if_pos (by omega)] at hx
        exact (text_list_k_ok hd _).call (fun _ _ hs hk => .inl ⟨_, _, hs, (text_list_v_ok _).call (fun _ _ hs hk => .inl ⟨_, _, hs, (text_k_ok hd _).call (fun _ _ hs hk => .inl ⟨_, _, hs, hk⟩) (fun _ _ hs hy => .inr ⟨_, hs, hy⟩) (Pr.on_bind.1 hk)⟩) (fun _ _ hs hy => .inr ⟨_, hs, hy⟩) (Pr.on_bind.1 hk)⟩) (fun _ _ hs hy => .inr ⟨_, hs, hy⟩) (Pr.on_bind.1 hx)
      refine df e2 ?_
      by_cases e3 : (1 : Int) + pre.length = 3
      · refine dt e3 ?_
        rw [conB, if_pos (by omega)] at hx
        exact (text_list_k_ok hd _).call (fun _ _ hs hk => .inl ⟨_, _, hs, (text_list_v_ok _).call (fun _ _ hs hk => .inl ⟨_, _, hs, (text_k_ok hd _).call (fun _ _ hs hk => .inl ⟨_, _, hs, hk⟩) (fun _ _ hs hy => .inr ⟨_, hs, hy⟩) (Pr.on_bind.1 hk)⟩) (fun _ _ hs hy => .inr ⟨_, hs, hy⟩) (Pr.on_bind.1 hk)⟩) (fun _ _ hs hy => .inr ⟨_, hs, hy⟩) (Pr.on_bind.1 hx)
      refine df e3 ?_
      by_cases e4 : (1 : Int) + pre.length = 4
      · refine dt e4 ?_
        rw [conB, if_neg (by omega), if_pos (by omega)] at hx
        exact (text_list_v_ok _).call (fun _ _ hs hk => .inl ⟨_, _, hs, hk⟩) (fun _ _ hs hy => .inr ⟨_, hs, hy⟩) (Pr.on_bind.1 hx)
      refine df e4 ?_
      by_cases e5 : (1 : Int) + pre.length = 5
      · refine dt e5 ?_
        rw [conB, if_neg (by omega), if_neg (by omega), if_pos (by omega)] at hx
        exact (text_list_k_ok hd _).call (fun _ _ hs hk => .inl ⟨_, _, hs, (text_some_ok 2 (by decide) _).call (fun _ _ hs hk => .inl ⟨_, _, hs, hk⟩) (fun _ _ hs hy => .inr ⟨_, hs, hy⟩) (Pr.on_bind.1 hk)⟩) (fun _ _ hs hy => .inr ⟨_, hs, hy⟩) (Pr.on_bind.1 hx)
      refine df e5 ?_
      by_cases e6 : (1 : Int) + pre.length = 6
      · refine dt e6 ?_
        rw [conB, if_neg (by omega), if_neg (by omega), if_neg (by omega), if_pos (by omega)] at hx
        exact (text_list_v_ok _).call (fun _ _ hs hk => .inl ⟨_, _, hs, (text_list_rows_ok hd _).call (fun _ _ hs hk => .inl ⟨_, _, hs, hk⟩) (fun _ _ hs hy => .inr ⟨_, hs, hy⟩) (Pr.on_bind.1 hk)⟩) (fun _ _ hs hy => .inr ⟨_, hs, hy⟩) (Pr.on_bind.1 hx)
      refine df e6 ?_
      by_cases e7 : (1 : Int) + pre.length = 7
      · refine dt e7 ?_
        rw [conB, if_neg (by omega), if_neg (by omega), if_neg (by omega), if_neg (by omega), if_pos (by omega)] at hx
        exact (text_some_ok 3 (by decide) _).call (fun _ _ hs hk => .inl ⟨_, _, hs, hk⟩) (fun _ _ hs hy => .inr ⟨_, hs, hy⟩) (Pr.on_bind.1 hx)
      refine df e7 ?_
      by_cases e8 : (1 : Int) + pre.length = 8
      · refine dt e8 ?_
        rw [conB, if_neg (by omega), if_neg (by omega), if_neg (by omega), if_neg (by omega), if_neg (by omega), if_pos (by omega)] at hx
        refine (text_v_ok _).call (fun v j1 hs hk => .inl ⟨_, _, hs, ?_⟩) (fun _ _ hs hy => .inr ⟨_, hs, hy⟩) (Pr.on_bind.1 hx)
        have hk : Pr.on ((listP l (vP isNameS names l) j1).bind fun vs j => Pr.ok (⟨_, v :: vs, [], 0, [], []⟩ : ConD) j) _ _ := hk
        have hq := text_list_v_ok (l := l) (en := en) (goal := goal) (mvar := mvar) (pv := pv) (pc := pc) (names := names) j1
        cases hv : listP l (vP isNameS names l) j1 with
        | ok vs j2 =>
          rw [hv] at hq hk
          have h1 := listP_len adv_v hv
          have h2 := adv_list adv_v _ _ _ hv
          exact .inl ⟨_, _, hq, room_of (t := .int) (by show (1 + vs.length) * 8 ≤ _; omega), hk⟩
        | err j2 e =>
          rw [hv] at hq hk
          exact .inr ⟨_, hq, hk⟩
      refine df e8 ?_
      by_cases e9 : (1 : Int) + pre.length = 9
      · refine dt e9 ?_
        rw [conB, if_neg (by omega), if_neg (by omega), if_neg (by omega), if_neg (by omega), if_neg (by omega), if_neg (by omega), if_pos (by omega)] at hx
        exact (text_list_lit_ok hd _).call (fun _ _ hs hk => .inl ⟨_, _, hs, hk⟩) (fun _ _ hs hy => .inr ⟨_, hs, hy⟩) (Pr.on_bind.1 hx)
      refine df e9 ?_
      by_cases e10 : (1 : Int) + pre.length = 10
      · refine dt e10 ?_
        rw [conB, if_neg (by omega), if_neg (by omega), if_neg (by omega), if_neg (by omega), if_neg (by omega), if_neg (by omega), if_neg (by omega)] at hx
        exact (text_some_ok 1 (by decide) _).call (fun _ _ hs hk => .inl ⟨_, _, hs, (text_lit_ok hd _).call (fun _ _ hs hk => .inl ⟨_, _, hs, hk⟩) (fun _ _ hs hy => .inr ⟨_, hs, hy⟩) (Pr.on_bind.1 hk)⟩) (fun _ _ hs hy => .inr ⟨_, hs, hy⟩) (Pr.on_bind.1 hx)
      refine df e10 ?_
      omega
    | false =>
      rw [hb, if_neg (by decide)] at hx
      obtain ⟨n, hn⟩ := text_con_run hd hl r (pre ++ [s]) j (by rw [hw, List.append_assoc]; rfl) (by rw [List.length_append]; show Pr.on (match wordP l r (((pre.length + 1 : Nat) : Int) + 1) j with | some o => _ | none => _) _ _; rw [show ((pre.length + 1 : Nat) : Int) = (pre.length : Int) + 1 by omega]; exact hx)
      refine ⟨n + 1, ?_⟩
      rw [text_parser_con_I0_eq]
      refine sel_lt hl4 ▸ ⟨inb_nat hl4, _, _, hs, ?_⟩
      rw [hat, takeJ, hb, if_neg (by decide), w64_up (by omega)]
      rw [List.length_append] at hn
      exact bf rfl hn
theorem text_con_ok (hd : NumOk l) (j : Nat) : SatP f_text_parser_con [.ptr 1000 0] (hpP l en goal mvar pv pc names) (hereP l en) j (fun x => dC x) (conP isNameS numV names l j) :=
  satP_of (text_parser_con_sat _ _ _ _ _ _ _ _) (text_parser_con_thr _ _ _ _ _ _ _ _) fun ok ok2 R T hx => by
    rw [text_parser_con_eq]
    exact call1 (t := .list .str) text_words_ok (text_con_run hd (toks_le ok2) conW [] j rfl hx)
end
end Go.Proofs.YtogdmcebojiojaaGreatDoor

/- The parser's model: what a whole text is read as. -/
namespace Go.Proofs.YtogdmcebojiojaaGreatDoor
open Go.RowKit
set_option linter.unusedVariables false
set_option linter.unusedSimpArgs false

section
variable {l : List Tok} {en : Int}
theorem text_last_ok {pv : List VarD} {pc : List ConD} {names : List (ByteArray × Int)} {R : D → List (Nat × HObj) → Prop} {T : Value → Prop} {x : Int × Int} {j : Nat}
    (hx : (lastP l x j).on (fun g j' => R (.tup []) (hpP l en g.1 g.2 pv pc names j')) fun j' e => T (flt (hereP l en j') e)) :
    (∃ n35 : Int, SatH Tryz.prog f_text_parser_need [.ptr 1000 0, .sl .str ([(⟨#[59]⟩ : ByteArray)])] (hpP l en x.1 x.2 pv pc names j) (.tup []) (hpWt l en x.1 x.2 pv pc names n35) ∧ sel (decide (n35 < (l.length : Int)))
      ((SatH Tryz.prog f_text_parser_fail [.ptr 1000 0, dI 1] (hpWt l en x.1 x.2 pv pc names n35) (.tup []) (hpWt l en x.1 x.2 pv pc names n35) ∧ R (.tup []) (hpWt l en x.1 x.2 pv pc names n35)) ∨
        ∃ u, SatT Tryz.prog f_text_parser_fail [.ptr 1000 0, dI 1] (hpWt l en x.1 x.2 pv pc names n35) u ∧ T u) (R (.tup []) (hpWt l en x.1 x.2 pv pc names n35))) ∨
    ∃ u, SatT Tryz.prog f_text_parser_need [.ptr 1000 0, .sl .str ([(⟨#[59]⟩ : ByteArray)])] (hpP l en x.1 x.2 pv pc names j) u ∧ T u := by
  rw [lastP, Pr.on_bind] at hx
  refine (text_need_ok j _).call (fun _ j' hs hk => .inl ⟨_, hs, ?_⟩) (fun _ _ hs hy => .inr ⟨_, hs, hy⟩) hx
  by_cases h : j' < l.length
  · rw [if_pos h] at hk
    exact dt (by omega) (.inr ⟨_, text_fail_ok j' 1, hk⟩)
  · rw [if_neg h] at hk
    exact df (by omega) hk
theorem text_goal_ok (hd : NumOk l) {pv : List VarD} {pc : List ConD} {names : List (ByteArray × Int)} {R : D → List (Nat × HObj) → Prop} {T : Value → Prop} (j : Nat) (hb : takeB l ⟨#[99, 111, 110]⟩ j = false)
    (hx : (goalP isNameS l names j).on (fun g j' => R (.tup []) (hpP l en g.1 g.2 pv pc names j')) fun j' e => T (flt (hereP l en j') e)) : text_parser_model_I2 R T 1 l (j : Int) en 0 0 names pv pc := by
  rw [text_parser_model_I2_eq]
  refine ⟨_, _, text_take_ok j _, ?_⟩
  rw [takeJ, hb, if_neg (by decide)]
  refine bf rfl ?_
  rw [goalP, Pr.on_bind] at hx
  refine (text_need_ok j _).call (fun _ j1 hs hk => .inl ⟨_, hs, _, _, text_take_ok j1 _, ?_⟩) (fun _ _ hs hy => .inr ⟨_, hs, hy⟩) hx
  rw [takeJ]
  cases h1 : takeB l ⟨#[97, 110, 121]⟩ j1 with
  | true =>
    rw [h1, if_pos rfl] at hk
    rw [if_pos rfl]
    exact bt rfl (text_last_ok (x := (0, 0)) hk)
  | false =>
    rw [h1, if_neg (by decide)] at hk
    rw [if_neg (by decide)]
    refine bf rfl ⟨_, _, text_take_ok j1 _, ?_⟩
    rw [takeJ]
    cases h2 : takeB l ⟨#[108, 101, 97, 115, 116]⟩ j1 with
    | true =>
      rw [h2, if_pos rfl] at hk
      rw [if_pos rfl]
      exact bt rfl ((text_v_ok (j1 + 1)).call (fun v _ hs hk => .inl ⟨_, _, hs, text_last_ok (x := (1, v)) hk⟩) (fun _ _ hs hy => .inr ⟨_, hs, hy⟩) (Pr.on_bind.1 hk))
    | false =>
      rw [h2, if_neg (by decide)] at hk
      rw [if_neg (by decide)]
      exact bf rfl ((text_need_ok j1 _).call (fun _ j2 hs hk => .inl ⟨_, hs, (text_v_ok j2).call (fun v _ hs hk => .inl ⟨_, _, hs, text_last_ok (x := (2, v)) hk⟩) (fun _ _ hs hy => .inr ⟨_, hs, hy⟩) (Pr.on_bind.1 hk)⟩) (fun _ _ hs hy => .inr ⟨_, hs, hy⟩) (Pr.on_bind.1 hk))
theorem bind_ok {α β : Type} {r : Pr α} {f : α → Nat → Pr β} {x : β} {j : Nat} (h : r.bind f = .ok x j) : ∃ y k, r = .ok y k ∧ f y k = .ok x j := by
  cases r
  · exact ⟨_, _, rfl, h⟩
  · cases h
theorem wordP_lt : ∀ {r : List ByteArray} {i : Int} {j : Nat} {o : Int}, wordP l r i j = some o → j < l.length
  | [], i, j, o, h => by cases h
  | s :: r, i, j, o, h => by
    unfold wordP at h
    split at h
    · rename_i hb; exact takeB_lt hb
    · exact wordP_lt h
theorem some_adv1 {isN : ByteArray → Bool} {names : List (ByteArray × Int)} {n : Nat} {acc : List Int} {j : Nat} {xs : List Int} {j' : Nat} (h : someP isN names l (n + 1) acc j = .ok xs j') : j < j' ∧ j' ≤ l.length := by
  have h1 := some_adv _ _ _ _ _ h
  unfold someP at h
  obtain ⟨x, k, h2, h3⟩ := bind_ok h
  have := adv_v _ _ _ h2
  have := some_adv _ _ _ _ _ h3
  omega
theorem conB_adv {isN : ByteArray → Bool} {nv : ByteArray → Int} {names : List (ByteArray × Int)} {o : Int} {i j : Nat} {x : ConD} (h : conB isN nv names l o i = .ok x j) : i < j ∧ j ≤ l.length := by
  unfold conB at h
  split at h
  · obtain ⟨_, _, h1, h⟩ := bind_ok h; obtain ⟨_, _, h2, h⟩ := bind_ok h; obtain ⟨_, _, h3, h⟩ := bind_ok h
    injection h with _ h
    have := adv_list adv_k _ _ _ h1; have := adv_list adv_v _ _ _ h2; have := adv_k _ _ _ h3
    omega
  split at h
  · obtain ⟨_, _, h1, h⟩ := bind_ok h
    injection h with _ h
    have := adv_list adv_v _ _ _ h1
    omega
  split at h
  · obtain ⟨_, _, h1, h⟩ := bind_ok h; obtain ⟨_, _, h2, h⟩ := bind_ok h
    injection h with _ h
    have := adv_list adv_k _ _ _ h1; have := some_adv1 h2
    omega
  split at h
  · obtain ⟨_, _, h1, h⟩ := bind_ok h; obtain ⟨_, _, h2, h⟩ := bind_ok h
    injection h with _ h
    have := adv_list adv_v _ _ _ h1; have := adv_list (adv_list adv_k) _ _ _ h2
    omega
  split at h
  · obtain ⟨_, _, h1, h⟩ := bind_ok h
    injection h with _ h
    have := some_adv1 h1
    omega
  split at h
  · obtain ⟨_, _, h1, h⟩ := bind_ok h; obtain ⟨_, _, h2, h⟩ := bind_ok h
    injection h with _ h
    have := adv_v _ _ _ h1; have := adv_list adv_v _ _ _ h2
    omega
  split at h
  · obtain ⟨_, _, h1, h⟩ := bind_ok h
    injection h with _ h
    have := adv_list adv_lit _ _ _ h1
    omega
  · obtain ⟨_, _, h1, h⟩ := bind_ok h; obtain ⟨_, _, h2, h⟩ := bind_ok h
    injection h with _ h
    have := some_adv1 h1; have := adv_lit _ _ _ h2
    omega
theorem con_adv {isN : ByteArray → Bool} {nv : ByteArray → Int} {names : List (ByteArray × Int)} {i j : Nat} {x : ConD} (h : conP isN nv names l i = .ok x j) : i + 2 ≤ j ∧ j ≤ l.length := by
  unfold conP at h
  split at h
  · rename_i o ho
    have := wordP_lt ho
    have := conB_adv h
    omega
  · cases h
theorem text_cons_run (hd : NumOk l) (hl : l.length * 32 ≤ 140737488355328) {pv : List VarD} {names : List (ByteArray × Int)} {R : D → List (Nat × HObj) → Prop} {T : Value → Prop} : ∀ (fuel : Nat) (cs : List ConD) (j : Nat), j ≤ l.length → l.length < j + fuel → cs.length * 4 ≤ j →
    (((consR isNameS numV l names fuel cs j).bind fun cs j => (goalP isNameS l names j).bind fun g j => .ok (cs, g) j).on (fun x j' => R (.tup []) (hpP l en x.2.1 x.2.2 pv x.1 names j')) fun j' e => T (flt (hereP l en j') e)) →
    ∃ n, text_parser_model_I2 R T n l (j : Int) en 0 0 names pv cs
  | 0, cs, j, h1, h2, _, _ => by omega
  | fuel + 1, cs, j, h1, h2, h3, hx => by
    rw [consR] at hx
    cases hb : takeB l ⟨#[99, 111, 110]⟩ j with
    | false =>
      rw [hb, if_neg (by decide)] at hx
      have hx : ((goalP isNameS l names j).bind fun g j => Pr.ok (cs, g) j).on _ _ := hx
      rw [Pr.on_bind] at hx
      exact ⟨1, text_goal_ok hd j hb hx⟩
    | true =>
      rw [hb, if_pos rfl] at hx
      have hlt := takeB_lt hb
      have hq := text_con_ok (l := l) (en := en) (goal := 0) (mvar := 0) (pv := pv) (pc := cs) (names := names) hd (j + 1)
      cases hc : conP isNameS numV names l (j + 1) with
      | err i e =>
        rw [hc] at hq hx
        refine ⟨1, ?_⟩
        rw [text_parser_model_I2_eq]
        refine ⟨_, _, text_take_ok j _, ?_⟩
        rw [takeJ, hb, if_pos rfl]
        exact bt rfl (.inr ⟨_, hq, hx⟩)
      | ok c i =>
        rw [hc] at hq hx
        have ha := con_adv hc
        have hn := text_need_ok (l := l) (en := en) (goal := 0) (mvar := 0) (pv := pv) (pc := cs) (names := names) i [⟨#[59]⟩]
        have hx : (((needP l [⟨#[59]⟩] i).bind fun _ j => consR isNameS numV l names fuel (cs ++ [c]) j).bind fun cs j => (goalP isNameS l names j).bind fun g j => Pr.ok (cs, g) j).on _ _ := hx
        rw [needP, needP] at hn hx
        cases hs : takeB l ⟨#[59]⟩ i with
        | false =>
          rw [hs, if_neg (by decide)] at hn hx
          refine ⟨1, ?_⟩
          rw [text_parser_model_I2_eq]
          refine ⟨_, _, text_take_ok j _, ?_⟩
          rw [takeJ, hb, if_pos rfl]
          exact bt rfl (.inl ⟨_, _, hq, .inr ⟨_, hn, hx⟩⟩)
        | true =>
          rw [hs, if_pos rfl] at hn hx
          have hi := takeB_lt hs
          obtain ⟨n, hr⟩ := text_cons_run hd hl fuel (cs ++ [c]) (i + 1) (by omega) (by omega) (by rw [List.length_append]; show (_ + 1) * 4 ≤ _; omega) hx
          refine ⟨n + 1, ?_⟩
          rw [text_parser_model_I2_eq]
          refine ⟨_, _, text_take_ok j _, ?_⟩
          rw [takeJ, hb, if_pos rfl]
          exact bt rfl (.inl ⟨_, _, hq, .inl ⟨_, hn, room_of (t := .con) (by show (cs.length + 1) * 112 ≤ _; omega), hr⟩⟩)
end
end Go.Proofs.YtogdmcebojiojaaGreatDoor

/- The parser's whole model. -/
namespace Go.Proofs.YtogdmcebojiojaaGreatDoor
open Go.RowKit
set_option linter.unusedVariables false
set_option linter.unusedSimpArgs false

section
variable {l : List Tok} {en : Int}
theorem need1_ok {s : ByteArray} {j k : Nat} {u : Unit} (h : needP l [s] j = .ok u k) : k = j + 1 ∧ j < l.length := by
  rw [needP, needP] at h
  split at h
  · rename_i hb
    have := takeB_lt hb
    injection h with _ h
    omega
  · cases h
theorem name_ok {isN : ByteArray → Bool} {j k : Nat} {s : ByteArray} (h : nameP isN l j = .ok s k) : k = j ∧ j < l.length := by
  unfold nameP at h
  split at h
  · rename_i hc; injection h with _ h; exact ⟨h.symm, hc.1⟩
  · cases h
theorem var_adv {isN : ByteArray → Bool} {nv : ByteArray → Int} {i j : Nat} {x : VarD} (h : varP isN nv l i = .ok x j) : i < j ∧ j ≤ l.length := by
  unfold varP at h
  obtain ⟨_, _, h1, h⟩ := bind_ok h; obtain ⟨_, _, h2, h⟩ := bind_ok h; obtain ⟨_, _, h3, h⟩ := bind_ok h
  obtain ⟨_, _, h4, h⟩ := bind_ok h; obtain ⟨_, _, h5, h⟩ := bind_ok h; obtain ⟨_, _, h6, h⟩ := bind_ok h
  injection h with _ h
  have := name_ok h1; have := need1_ok h2; have := adv_k _ _ _ h3; have := need1_ok h4; have := adv_k _ _ _ h5; have := need1_ok h6
  omega
theorem mput_len {s : ByteArray} {i : Int} : ∀ es : List (ByteArray × Int), (mput .str .int s i es).length ≤ es.length + 1
  | [] => Nat.le_refl _
  | (a, b) :: r => by
    have ih := mput_len (s := s) (i := i) r
    unfold mput
    cases keq .str s a with
    | true => rw [cond_true]; simp
    | false => rw [cond_false]; simp only [List.length_cons]; omega
theorem addName_len {s : ByteArray} {i : Int} {es : List (ByteArray × Int)} : (addName es s i).length ≤ es.length + 1 := by
  unfold addName
  split
  · omega
  · exact mput_len es
theorem text_vars_run (hd : NumOk l) (hl : l.length * 32 ≤ 140737488355328) {R : D → List (Nat × HObj) → Prop} {T : Value → Prop} : ∀ (fuel : Nat) (vs : List VarD) (ns : List (ByteArray × Int)) (j : Nat), j ≤ l.length → l.length < j + fuel → vs.length ≤ j → ns.length ≤ vs.length →
    (((varsR isNameS numV l fuel vs ns j).bind fun x j => (consR isNameS numV l x.2 (l.length + 1) [] j).bind fun cs j => (goalP isNameS l x.2 j).bind fun g j => .ok (x, cs, g) j).on (fun y j' => R (.tup []) (hpP l en y.2.2.1 y.2.2.2 y.1.1 y.2.1 y.1.2 j')) fun j' e => T (flt (hereP l en j') e)) →
    ∃ n, text_parser_model_I0 R T n l (j : Int) en 0 0 ns vs []
  | 0, vs, ns, j, h1, h2, _, _, _ => by omega
  | fuel + 1, vs, ns, j, h1, h2, h3, h4, hx => by
    rw [varsR] at hx
    cases hb : takeB l ⟨#[118, 97, 114]⟩ j with
    | false =>
      rw [hb, if_neg (by decide)] at hx
      have hx : ((consR isNameS numV l ns (l.length + 1) [] j).bind fun cs j => (goalP isNameS l ns j).bind fun g j => Pr.ok ((vs, ns), cs, g) j).on _ _ := hx
      refine ⟨1, ?_⟩
      rw [text_parser_model_I0_eq]
      refine ⟨_, _, text_take_ok j _, ?_⟩
      rw [takeJ, hb, if_neg (by decide)]
      refine bf rfl (text_cons_run hd hl (l.length + 1) [] j h1 (by omega) (Nat.zero_le _) ?_)
      rw [Pr.on_bind] at hx ⊢
      refine Pr.on_mono hx (fun cs j' h => ?_) fun _ _ h => h
      rw [Pr.on_bind] at h ⊢
      exact h
    | true =>
      rw [hb, if_pos rfl] at hx
      have hlt := takeB_lt hb
      obtain ⟨n, hn⟩ : ∃ n, ∀ v i, varP isNameS numV l (j + 1) = .ok v i → text_parser_model_I0 R T n l (i : Int) en 0 0 (addName ns v.name vs.length) (vs ++ [v]) [] := by
        cases hv : varP isNameS numV l (j + 1) with
        | ok v i =>
          rw [hv] at hx
          have ha := var_adv hv
          have := addName_len (s := v.name) (i := vs.length) (es := ns)
          obtain ⟨n, hr⟩ := text_vars_run hd hl fuel (vs ++ [v]) (addName ns v.name vs.length) i ha.2 (by omega) (by rw [List.length_append]; show _ + 1 ≤ _; omega) (by rw [List.length_append]; show _ ≤ _ + 1; omega) hx
          exact ⟨n, fun v' i' e => by injection e with e1 e2; subst e1 e2; exact hr⟩
        | err i e => exact ⟨0, fun _ _ e => by cases e⟩
      have hy : (varP isNameS numV l (j + 1)).on (fun v i => text_parser_model_I0 R T n l (i : Int) en 0 0 (addName ns v.name vs.length) (vs ++ [v]) []) fun j' e => T (flt (hereP l en j') e) := by
        cases hv : varP isNameS numV l (j + 1) with
        | ok v i => exact hn _ _ hv
        | err i e => rw [hv] at hx; exact hx
      refine ⟨n + 1, ?_⟩
      rw [text_parser_model_I0_eq]
      refine ⟨_, _, text_take_ok j _, ?_⟩
      rw [takeJ, hb, if_pos rfl]
      rw [varP, Pr.on_bind, nameP] at hy
      have hq := text_name_ok (l := l) (en := en) (goal := 0) (mvar := 0) (pv := vs) (pc := []) (names := ns) (j + 1)
      rw [nameP] at hq
      refine bt rfl ?_
      by_cases hc : j + 1 < l.length ∧ isNameS (tokA l (j + 1)).text = true
      · rw [if_pos hc] at hq hy
        refine .inl ⟨_, hq, ?_⟩
        rw [w64_up (by omega)]
        have hy : Pr.on (Pr.bind (needP l [⟨#[58]⟩] (j + 1 + 1)) _) _ _ := hy
        refine (text_need_ok _ _).call (fun _ _ hs hk => .inl ⟨_, hs, (text_k_ok hd _).call (fun a _ hs hk => .inl ⟨_, _, hs, (text_need_ok _ _).call (fun _ _ hs hk => .inl ⟨_, hs, (text_k_ok hd _).call (fun b _ hs hk => .inl ⟨_, _, hs, (text_need_ok _ _).call (fun _ k hs hk => .inl ⟨_, hs, ?_⟩) (fun _ _ hs hy => .inr ⟨_, hs, hy⟩) (Pr.on_bind.1 hk)⟩) (fun _ _ hs hy => .inr ⟨_, hs, hy⟩) (Pr.on_bind.1 hk)⟩) (fun _ _ hs hy => .inr ⟨_, hs, hy⟩) (Pr.on_bind.1 hk)⟩) (fun _ _ hs hy => .inr ⟨_, hs, hy⟩) (Pr.on_bind.1 hk)⟩) (fun _ _ hs hy => .inr ⟨_, hs, hy⟩) (Pr.on_bind.1 hy)
        have hk : text_parser_model_I0 R T n l (k : Int) en 0 0 (addName ns (tokA l (j + 1)).text vs.length) (vs ++ [⟨(tokA l (j + 1)).text, a, b⟩]) [] := hk
        have hr : room .var (vs.length + [(⟨(tokA l (j + 1)).text, a, b⟩ : VarD)].length) = true := room_of (t := .var) (by show (vs.length + 1) * 32 ≤ _; omega)
        unfold addName at hk
        cases hm : mhas .str .int (tokA l (j + 1)).text ns with
        | true =>
          rw [hm, if_pos rfl] at hk
          exact bnf rfl ⟨hr, hk⟩
        | false =>
          rw [hm, if_neg (by decide)] at hk
          exact bnt rfl ⟨decide_eq_true (by omega), hr, hk⟩
      · rw [if_neg hc] at hq hy
        exact .inr ⟨_, hq, hy⟩
/-- The whole: what the parser's model call leaves, or by what it gives up. -/
theorem text_model_ok (hd : NumOk l) : match modelP isNameS numV l with
    | .ok (m, ns) j => SatH Tryz.prog f_text_parser_model [.ptr 1000 0] (hpP l en 0 0 [] [] [] 0) (.tup []) (hpP l en m.goal m.var m.vars m.cons ns j)
    | .err j e => SatT Tryz.prog f_text_parser_model [.ptr 1000 0] (hpP l en 0 0 [] [] [] 0) (flt (hereP l en j) e) := by
  have hx : ∀ (R : D → List (Nat × HObj) → Prop) (T : Value → Prop), (modelP isNameS numV l).on (fun x j' => R (.tup []) (hpP l en x.1.goal x.1.var x.1.vars x.1.cons x.2 j')) (fun j' e => T (flt (hereP l en j') e)) →
      (∀ k o, look k (hpP l en 0 0 [] [] [] 0) = some o → okO o) → FX text_parser_model_A Tryz.f94 [.ptr 1000 0] (hpP l en 0 0 [] [] [] 0) [.ptr 1000 0] false R T := fun R T h ok2 => by
    refine (text_parser_model_eq l 0 en 0 0 [] [] [] R T) ▸ ?_
    refine text_vars_run hd (toks_le ok2) (l.length + 1) [] [] 0 (Nat.zero_le _) (by omega) (Nat.le_refl _) (Nat.le_refl _) ?_
    rw [modelP, Pr.on_bind] at h
    rw [Pr.on_bind]
    refine Pr.on_mono h (fun x j h => ?_) fun _ _ h => h
    rw [Pr.on_bind] at h ⊢
    refine Pr.on_mono h (fun cs j h => ?_) fun _ _ h => h
    rw [Pr.on_bind] at h ⊢
    exact h
  cases hm : modelP isNameS numV l with
  | ok x j =>
    obtain ⟨m, ns⟩ := x
    exact text_parser_model_sat _ _ _ _ _ _ _ _ fun ok ok2 => hx _ _ (by rw [hm]; exact ⟨rfl, rfl⟩) ok2
  | err j e => exact text_parser_model_thr _ _ _ _ _ _ _ _ fun ok ok2 => hx _ _ (by rw [hm]; exact rfl) ok2
end
end Go.Proofs.YtogdmcebojiojaaGreatDoor
