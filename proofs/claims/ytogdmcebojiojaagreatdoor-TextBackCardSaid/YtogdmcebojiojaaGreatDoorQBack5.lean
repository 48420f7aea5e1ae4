/- What is printed is read back: constraints, whole models: plain laws. -/
import Derived.Test.YtogdmcebojiojaaGreatDoorQBack4
import Derived.Test.YtogdmcebojiojaaGreatDoorMS
namespace Go.Proofs.YtogdmcebojiojaaGreatDoor
open Go.RowKit
set_option linter.unusedVariables false
set_option linter.unusedSimpArgs false

theorem form_all {c : ConD} {nv : Nat} (h : RightC c nv) : (c.kind ≤ 3 → c.rows = [] ∧ c.lits = []) ∧ (c.kind = 4 → c.consts = [] ∧ c.n = 0 ∧ c.rows = [] ∧ c.lits = []) ∧ (c.kind = 5 → c.n = 0 ∧ c.rows = [] ∧ c.lits = []) ∧ (c.kind = 6 → c.consts = [] ∧ c.n = 0 ∧ c.lits = []) ∧ (c.kind = 7 → c.consts = [] ∧ c.n = 0 ∧ c.rows = [] ∧ c.lits = []) ∧ (c.kind = 8 → c.consts = [] ∧ c.n = 0 ∧ c.rows = [] ∧ c.lits = []) ∧ (c.kind = 9 → c.vars = [] ∧ c.consts = [] ∧ c.n = 0 ∧ c.rows = []) ∧ (c.kind = 10 → c.consts = [] ∧ c.n = 0 ∧ c.rows = []) := by
  have hf := h.form
  have hkk := h.kind
  refine ⟨fun hk => ?_, fun hk => ?_, fun hk => ?_, fun hk => ?_, fun hk => ?_, fun hk => ?_, fun hk => ?_, fun hk => ?_⟩ <;> unfold formB at hf
  · have hk : c.kind = 1 ∨ c.kind = 2 ∨ c.kind = 3 := by omega
    rw [if_neg (by omega), if_pos hk] at hf
    simp at hf; exact ⟨hf.1.2, hf.2⟩
  all_goals (simp [hk] at hf; simp_all)
section
variable {l : List Tok} {vs : List VarD} {ns : List (ByteArray × Int)}
section
variable (hn : ∀ v ∈ vs, isNameS v.name = true) (hN : ∀ i : Int, 0 ≤ i ∧ i < vs.length → mget .str .int (nmS vs i) ns = some i)
include hn hN
theorem some_at : ∀ (xs : List (Int × List UInt8)) (acc : List Int) (j : Nat), (∀ x ∈ xs, 0 ≤ x.1 ∧ x.1 < vs.length) → At l j (xs.map fun x => nmP (nmS vs x.1) x.2) → someP isNameS ns l xs.length acc j = .ok (acc ++ xs.map Prod.fst) (j + xs.length)
  | [], acc, j, _, _ => by
    show Pr.ok acc j = Pr.ok (acc ++ []) j
    rw [List.append_nil]
  | x :: xs, acc, j, hx, h => by
    have h : At l j (nmP (nmS vs x.1) x.2 :: xs.map fun x => nmP (nmS vs x.1) x.2) := h
    show ((vP isNameS ns l j).bind fun x j => someP isNameS ns l xs.length (acc ++ [x]) j) = _
    rw [v_at hn hN (hx x List.mem_cons_self) h]
    show someP isNameS ns l xs.length (acc ++ [x.1]) (j + 1) = _
    rw [some_at xs _ _ (fun y hy => hx y (List.mem_cons_of_mem _ hy)) h.2.2.2, List.append_assoc, List.length_cons]
    congr 1; omega
theorem con_at {c : ConD} (h : RightC c vs.length) {j : Nat} (ha : At l j (conPc vs c)) : conP isNameS numV ns l j = .ok c (j + (conPc vs c).length) := by
  have hf := form_len h
  have hg := form_all h
  have hv := h.vars; have hc := h.consts; have hnn := h.n; have hro := h.rows; have hli := h.lits
  have hv' : ∀ i, i < c.vars.length → 0 ≤ at' .int c.vars i ∧ at' .int c.vars i < vs.length := fun i hi => h.vars _ (getI_mem hi)
  have hl' : 0 < c.lits.length → litE vs.length (at' .lit c.lits 0) = 0 := fun h0 => h.lits _ (getL_mem (i := 0) h0)
  unfold conP
  rw [conw_at h.kind ha]
  show conB isNameS numV ns l c.kind (j + 1) = _
  have hk10 := kind_cases h
  clear h
  obtain ⟨kind, vars, consts, n, rows, lits⟩ := c
  simp only at hf hg hv hc hnn hro hli hk10 hv' hl'
  rcases hk10 with hk | hk | hk | hk | hk | hk | hk | hk | hk | hk
  iterate 3
    · obtain ⟨e1, e2⟩ := hg.1 (by omega)
      subst e1 e2
      have e : conPc vs ⟨kind, vars, consts, n, [], []⟩ = nmP (wdS kind) [32] :: (numsP consts [32] ++ (namesP vs vars [32] ++ intP n [])) := by unfold conPc; rw [if_pos (by show kind ≤ 3; omega)]
      rw [e] at ha ⊢
      have ha := ha.2.2.2
      rw [at_app, at_app] at ha
      show conB isNameS numV ns l kind (j + 1) = _
      unfold conB
      rw [if_pos (by show kind ≤ 3; omega), nums_at hc ha.1]
      show ((listP l (vP isNameS ns l) _).bind fun vs j => (kP numV l j).bind fun n j => Pr.ok (⟨kind, vs, consts, n, [], []⟩ : ConD) j) = _
      rw [names_at hn hN hv ha.2.1]
      show ((kP numV l _).bind fun n j => Pr.ok (⟨kind, vars, consts, n, [], []⟩ : ConD) j) = _
      rw [k_at hnn ha.2.2]
      show Pr.ok _ _ = Pr.ok _ _
      congr 1
      simp only [List.length_cons, List.length_append]; omega
  · obtain ⟨e1, e2, e3, e4⟩ := hg.2.1 hk
    subst e1 e2 e3 e4
    have e : conPc vs ⟨kind, vars, [], 0, [], []⟩ = nmP (wdS kind) [32] :: namesP vs vars [] := by unfold conPc; rw [if_neg (by show ¬ kind ≤ 3; omega), if_pos hk]
    rw [e] at ha ⊢
    have ha := ha.2.2.2
    show conB isNameS numV ns l kind (j + 1) = _
    unfold conB
    rw [if_neg (by omega), if_pos hk, names_at hn hN hv ha]
    show Pr.ok _ _ = Pr.ok _ _
    congr 1
    simp only [List.length_cons, List.length_append]; omega
  · obtain ⟨e1, e2, e3⟩ := hg.2.2.1 hk
    subst e1 e2 e3
    have e : conPc vs ⟨kind, vars, consts, 0, [], []⟩ = nmP (wdS kind) [32] :: (numsP consts [32] ++ [nmP (nmS vs (at' .int vars 0)) [32], nmP (nmS vs (at' .int vars 1)) []]) := by unfold conPc; rw [if_neg (by show ¬ kind ≤ 3; omega), if_neg (by show ¬ kind = 4; omega), if_pos hk]
    rw [e] at ha ⊢
    have ha := ha.2.2.2
    rw [at_app] at ha
    have hlen := hf.1 hk
    show conB isNameS numV ns l kind (j + 1) = _
    unfold conB
    rw [if_neg (by omega), if_neg (by omega), if_pos hk, nums_at hc ha.1]
    show ((someP isNameS ns l 2 [] _).bind fun vs j => Pr.ok (⟨kind, vs, consts, 0, [], []⟩ : ConD) j) = _
    have hs := some_at (l := l) hn hN [(at' .int vars 0, [32]), (at' .int vars 1, [])] [] _ (fun x hx => by
      simp at hx; rcases hx with rfl | rfl
      · exact hv' 0 (by omega)
      · exact hv' 1 (by omega)) ha.2
    rw [show someP isNameS ns l 2 [] (j + 1 + (numsP consts [32]).length) = _ from hs]
    obtain ⟨a, b, rfl⟩ : ∃ a b, vars = [a, b] := by
      match vars, hlen with
      | [a, b], _ => exact ⟨a, b, rfl⟩
    show Pr.ok _ _ = Pr.ok _ _
    congr 1
    simp only [List.length_cons, List.length_append, List.length_nil]; omega
  · obtain ⟨e1, e2, e3⟩ := hg.2.2.2.1 hk
    subst e1 e2 e3
    have e : conPc vs ⟨kind, vars, [], 0, rows, []⟩ = nmP (wdS kind) [32] :: (namesP vs vars [32] ++ brP' (rows.map fun r => numsP r []) []) := by unfold conPc; rw [if_neg (by show ¬ kind ≤ 3; omega), if_neg (by show ¬ kind = 4; omega), if_neg (by show ¬ kind = 5; omega), if_pos hk]
    rw [e] at ha ⊢
    have ha := ha.2.2.2
    rw [at_app] at ha
    show conB isNameS numV ns l kind (j + 1) = _
    unfold conB
    rw [if_neg (by omega), if_neg (by omega), if_neg (by omega), if_pos hk, names_at hn hN hv ha.1]
    show ((listP l (listP l (kP numV l)) _).bind fun rs j => Pr.ok (⟨kind, vars, [], 0, rs, []⟩ : ConD) j) = _
    rw [list_at (pc := fun r => numsP r []) (fun x hm j h => nums_at (hro x hm) h) (fun x hm => by
      cases x with
      | nil => exact ⟨_, _, rfl, by simp⟩
      | cons y r => exact ⟨_, _, rfl, by simp⟩) ha.2]
    show Pr.ok _ _ = Pr.ok _ _
    congr 1
    simp only [List.length_cons, List.length_append]; omega
  · obtain ⟨e1, e2, e3, e4⟩ := hg.2.2.2.2.1 hk
    subst e1 e2 e3 e4
    have e : conPc vs ⟨kind, vars, [], 0, [], []⟩ = nmP (wdS kind) [32] :: [nmP (nmS vs (at' .int vars 0)) [32], nmP (nmS vs (at' .int vars 1)) [32], nmP (nmS vs (at' .int vars 2)) []] := by unfold conPc; rw [if_neg (by show ¬ kind ≤ 3; omega), if_neg (by show ¬ kind = 4; omega), if_neg (by show ¬ kind = 5; omega), if_neg (by show ¬ kind = 6; omega), if_pos hk]
    rw [e] at ha ⊢
    have ha := ha.2.2.2
    have hlen := hf.2.1 hk
    show conB isNameS numV ns l kind (j + 1) = _
    unfold conB
    rw [if_neg (by omega), if_neg (by omega), if_neg (by omega), if_neg (by omega), if_pos hk]
    have hs := some_at (l := l) hn hN [(at' .int vars 0, [32]), (at' .int vars 1, [32]), (at' .int vars 2, [])] [] _ (fun x hx => by
      simp at hx; rcases hx with rfl | rfl | rfl
      · exact hv' 0 (by omega)
      · exact hv' 1 (by omega)
      · exact hv' 2 (by omega)) ha
    rw [show someP isNameS ns l 3 [] (j + 1) = _ from hs]
    obtain ⟨a, b, d, rfl⟩ : ∃ a b d, vars = [a, b, d] := by
      match vars, hlen with
      | [a, b, d], _ => exact ⟨a, b, d, rfl⟩
    show Pr.ok _ _ = Pr.ok _ _
    congr 1
  · obtain ⟨e1, e2, e3, e4⟩ := hg.2.2.2.2.2.1 hk
    subst e1 e2 e3 e4
    have hlen := hf.2.2.1 hk
    have e : conPc vs ⟨kind, vars, [], 0, [], []⟩ = nmP (wdS kind) [32] :: nmP (nmS vs (at' .int vars 0)) [32] :: namesP vs (vars.drop 1) [] := by unfold conPc; rw [if_neg (by show ¬ kind ≤ 3; omega), if_neg (by show ¬ kind = 4; omega), if_neg (by show ¬ kind = 5; omega), if_neg (by show ¬ kind = 6; omega), if_neg (by show ¬ kind = 7; omega), if_pos hk]
    rw [e] at ha ⊢
    have ha := ha.2.2.2
    show conB isNameS numV ns l kind (j + 1) = _
    unfold conB
    rw [if_neg (by omega), if_neg (by omega), if_neg (by omega), if_neg (by omega), if_neg (by omega), if_pos hk, v_at hn hN (hv' 0 (by omega)) ha]
    show ((listP l (vP isNameS ns l) (j + 1 + 1)).bind fun ws j => Pr.ok (⟨kind, at' .int vars 0 :: ws, [], 0, [], []⟩ : ConD) j) = _
    rw [names_at hn hN (fun i hi => hv i (List.mem_of_mem_drop hi)) ha.2.2.2]
    obtain ⟨a, r, rfl⟩ : ∃ a r, vars = a :: r := by
      match vars, hlen with
      | a :: r, _ => exact ⟨a, r, rfl⟩
    show Pr.ok _ _ = Pr.ok _ _
    congr 1
    simp only [List.length_cons, List.length_append]; omega
  · obtain ⟨e1, e2, e3, e4⟩ := hg.2.2.2.2.2.2.1 hk
    subst e1 e2 e3 e4
    have e : conPc vs ⟨kind, [], [], 0, [], lits⟩ = nmP (wdS kind) [32] :: brP' (lits.map fun x => litPc vs x []) [] := by unfold conPc; rw [if_neg (by show ¬ kind ≤ 3; omega), if_neg (by show ¬ kind = 4; omega), if_neg (by show ¬ kind = 5; omega), if_neg (by show ¬ kind = 6; omega), if_neg (by show ¬ kind = 7; omega), if_neg (by show ¬ kind = 8; omega), if_pos hk]
    rw [e] at ha ⊢
    have ha := ha.2.2.2
    show conB isNameS numV ns l kind (j + 1) = _
    unfold conB
    rw [if_neg (by omega), if_neg (by omega), if_neg (by omega), if_neg (by omega), if_neg (by omega), if_neg (by omega), if_pos hk]
    rw [list_at (pc := fun x => litPc vs x []) (fun x hm j h => lit_at hn hN (hli x hm) h) (fun x hm => ⟨_, _, rfl, fun e => by
      have h2 := nms_name hn (litE_n (hli x hm)).1
      have e : (nmS vs x.var).data.toList = [93] := e
      unfold isNameS at h2
      rw [e] at h2
      exact absurd h2 (by simp [isTok, tokenAt, isL, isLN, isD, isDN, isTwo, isSign])⟩) ha]
    show Pr.ok _ _ = Pr.ok _ _
    congr 1
    simp only [List.length_cons, List.length_append]; omega
  · obtain ⟨e1, e2, e3⟩ := hg.2.2.2.2.2.2.2 hk
    subst e1 e2 e3
    have hlen := hf.2.2.2.1 hk
    have e : conPc vs ⟨kind, vars, [], 0, [], lits⟩ = nmP (wdS kind) [32] :: nmP (nmS vs (at' .int vars 0)) [32] :: litPc vs (at' .lit lits 0) [] := by unfold conPc; rw [if_neg (by show ¬ kind ≤ 3; omega), if_neg (by show ¬ kind = 4; omega), if_neg (by show ¬ kind = 5; omega), if_neg (by show ¬ kind = 6; omega), if_neg (by show ¬ kind = 7; omega), if_neg (by show ¬ kind = 8; omega), if_neg (by show ¬ kind = 9; omega)]
    rw [e] at ha ⊢
    have ha := ha.2.2.2
    show conB isNameS numV ns l kind (j + 1) = _
    unfold conB
    rw [if_neg (by omega), if_neg (by omega), if_neg (by omega), if_neg (by omega), if_neg (by omega), if_neg (by omega), if_neg (by omega)]
    have hs := some_at (l := l) hn hN [(at' .int vars 0, [32])] [] (j + 1) (fun x hx => by
      simp at hx; rcases hx with rfl
      exact hv' 0 (by omega)) ⟨ha.1, ha.2.1, ha.2.2.1, trivial⟩
    rw [show someP isNameS ns l 1 [] (j + 1) = _ from hs]
    show ((litP isNameS numV ns l (j + 1 + 1)).bind fun x j => Pr.ok (⟨kind, [at' .int vars 0], [], 0, [], [x]⟩ : ConD) j) = _
    rw [lit_at hn hN (hl' (by omega)) ha.2.2.2]
    obtain ⟨a, rfl⟩ : ∃ a, vars = [a] := by
      match vars, hlen.1 with
      | [a], _ => exact ⟨a, rfl⟩
    obtain ⟨b, rfl⟩ : ∃ b, lits = [b] := by
      match lits, hlen.2 with
      | [b], _ => exact ⟨b, rfl⟩
    show Pr.ok _ _ = Pr.ok _ _
    congr 1
    simp only [List.length_cons, List.length_append]; omega
theorem cons_at : ∀ (cs : List ConD) (n : Nat) (acc : List ConD) (j : Nat), cs.length < n → (∀ c ∈ cs, RightC c vs.length) → At l j (cs.flatMap (conTc vs)) → takeB l ⟨#[99, 111, 110]⟩ (j + (cs.flatMap (conTc vs)).length) = false → consR isNameS numV l ns n acc j = .ok (acc ++ cs) (j + (cs.flatMap (conTc vs)).length)
  | [], n + 1, acc, j, _, _, _, he => by
    have he : takeB l ⟨#[99, 111, 110]⟩ j = false := he
    unfold consR
    rw [if_neg (by rw [he]; decide), List.append_nil]; rfl
  | c :: cs, n + 1, acc, j, hl, hc, h, he => by
    rw [List.flatMap_cons] at h he ⊢
    have h : At l j (⟨1, [99, 111, 110], [32]⟩ :: (conPc vs c ++ [⟨3, [59], [10]⟩]) ++ cs.flatMap (conTc vs)) := h
    rw [at_app] at h
    obtain ⟨h1, h2⟩ := h
    unfold consR
    rw [if_pos (by rw [take_atB h1]; rfl)]
    have h3 := h1.2.2.2
    rw [at_app] at h3
    rw [con_at hn hN (hc c List.mem_cons_self) h3.1]
    show ((needP l [⟨#[59]⟩] _).bind fun _ j => consR isNameS numV l ns n (acc ++ [c]) j) = _
    rw [need_at (s := ⟨#[59]⟩) h3.2 rfl]
    show consR isNameS numV l ns n (acc ++ [c]) (j + 1 + (conPc vs c).length + 1) = _
    have el : (conTc vs c).length = (conPc vs c).length + 2 := by unfold conTc; simp
    have h2 : At l (j + (conTc vs c).length) (cs.flatMap (conTc vs)) := h2
    rw [el] at h2
    rw [List.length_append, el] at he ⊢
    rw [show j + 1 + (conPc vs c).length + 1 = j + ((conPc vs c).length + 2) by omega, cons_at cs n (acc ++ [c]) _ (by rw [List.length_cons] at hl; omega) (fun x hx => hc x (List.mem_cons_of_mem _ hx)) h2 (by rw [← he]; congr 1; omega), List.append_assoc]
    show Pr.ok (acc ++ (c :: cs)) _ = Pr.ok (acc ++ (c :: cs)) _
    congr 1; omega
end
theorem var_at {v : VarD} (hv : isNameS v.name = true) (h1 : -1000 ≤ v.lo ∧ v.lo ≤ 1000) (h2 : -1000 ≤ v.hi ∧ v.hi ≤ 1000) {j : Nat} (h : At l j (varPc v)) : varP isNameS numV l (j + 1) = .ok v (j + (varPc v).length) := by
  have e : (varPc v).length = 5 + (intP v.lo []).length + (intP v.hi []).length := by unfold varPc; simp only [List.length_cons, List.length_append, List.length_nil]; omega
  rw [e]
  unfold varPc at h
  obtain ⟨_, _, _, ha, _, hb, hc⟩ := h
  rw [show bs (nmP v.name []).w = v.name from bs_eq _] at hb
  unfold varP nameP
  rw [hb, if_pos ⟨ha, hv⟩]
  show ((needP l [⟨#[58]⟩] (j + 1 + 1)).bind _) = _
  rw [need_at (s := ⟨#[58]⟩) hc rfl]
  have hc := hc.2.2.2
  rw [at_app] at hc
  obtain ⟨hc, hd⟩ := hc
  show ((kP numV l (j + 1 + 1 + 1)).bind _) = _
  rw [k_at h1 hc]
  show ((needP l [⟨#[46, 46]⟩] _).bind _) = _
  rw [need_at (s := ⟨#[46, 46]⟩) hd rfl]
  have hd := hd.2.2.2
  rw [at_app] at hd
  show ((kP numV l _).bind _) = _
  rw [k_at h2 hd.1]
  show ((needP l [⟨#[59]⟩] _).bind _) = _
  rw [need_at (s := ⟨#[59]⟩) hd.2 rfl]
  show Pr.ok v _ = Pr.ok v _
  congr 1; omega
theorem vars_at : ∀ (rest : List VarD) (n : Nat) (done : List VarD) (ns : List (ByteArray × Int)) (j : Nat), rest.length < n → (∀ s, mget .str .int s ns = ixName s done 0) → (∀ v ∈ rest, isNameS v.name = true ∧ (-1000 ≤ v.lo ∧ v.lo ≤ 1000) ∧ -1000 ≤ v.hi ∧ v.hi ≤ 1000) → At l j (rest.flatMap varPc) → takeB l ⟨#[118, 97, 114]⟩ (j + (rest.flatMap varPc).length) = false →
    ∃ ns', varsR isNameS numV l n done ns j = .ok (done ++ rest, ns') (j + (rest.flatMap varPc).length) ∧ ∀ s, mget .str .int s ns' = ixName s (done ++ rest) 0
  | [], n + 1, done, ns, j, _, hN, _, _, he => by
    have he : takeB l ⟨#[118, 97, 114]⟩ j = false := he
    refine ⟨ns, ?_, by rw [List.append_nil]; exact hN⟩
    unfold varsR
    rw [if_neg (by rw [he]; decide), List.append_nil]; rfl
  | v :: rest, n + 1, done, ns, j, hl, hN, hv, h, he => by
    rw [List.flatMap_cons] at h he ⊢
    rw [at_app] at h
    obtain ⟨h1, h2⟩ := h
    have hh := hv v List.mem_cons_self
    have hva := var_at hh.1 hh.2.1 hh.2.2 h1
    rw [List.length_append] at he ⊢
    obtain ⟨ns', e1, e2⟩ := vars_at rest n (done ++ [v]) (addName ns v.name done.length) (j + (varPc v).length) (by rw [List.length_cons] at hl; omega) (names_step hN) (fun x hx => hv x (List.mem_cons_of_mem _ hx)) h2 (by rw [← he]; congr 1; omega)
    refine ⟨ns', ?_, by rw [List.append_assoc] at e2; exact e2⟩
    unfold varsR
    rw [if_pos (by unfold varPc at h1; rw [take_atB h1]; rfl), hva]
    show varsR isNameS numV l n (done ++ [v]) (addName ns v.name done.length) (j + (varPc v).length) = _
    rw [e1, List.append_assoc]
    show Pr.ok (done ++ (v :: rest), ns') _ = Pr.ok (done ++ (v :: rest), ns') _
    congr 1; omega
end
theorem ix_at {vs : List VarD} (h : varsE vs = 0) {i : Int} (hi : 0 ≤ i ∧ i < vs.length) : ixName (nmS vs i) vs 0 = some i := by
  obtain ⟨k, rfl⟩ : ∃ k : Nat, i = (k : Int) := ⟨i.toNat, by omega⟩
  have hk : k < vs.length := by omega
  have hnm : nmS vs (k : Int) = vs[k].name := by unfold nmS; rw [Int.toNat_natCast, atN (t := .var) hk]
  rw [hnm]
  have hv := firstE_zero vs 0 h k hk
  rw [Nat.zero_add] at hv
  unfold varE at hv
  have hany : ((vs.take k).any fun u => u.name.toList == vs[k].name.toList) = false := by
    cases hb : (vs.take k).any fun u => u.name.toList == vs[k].name.toList with
    | false => rfl
    | true =>
      rw [if_pos hb] at hv
      split at hv <;> exact absurd hv (by decide)
  suffices H : ∀ d j, j + d = k → ixName vs[k].name (vs.drop j) (j : Int) = some (k : Int) by simpa using H k 0 (by omega)
  intro d
  induction d with
  | zero =>
    intro j e
    obtain rfl : j = k := by omega
    rw [List.drop_eq_getElem_cons hk, ixName, if_pos rfl]
  | succ d ih =>
    intro j e
    have hj : j < vs.length := by omega
    rw [List.drop_eq_getElem_cons hj, ixName, if_neg]
    · exact ih (j + 1) (by omega)
    · intro e2
      have : ((vs.take k).any fun u => u.name.toList == vs[k].name.toList) = true := by
        rw [List.any_eq_true]
        exact ⟨vs[j], List.mem_take_iff_getElem.2 ⟨j, by omega, rfl⟩, by rw [e2]; simp⟩
      rw [hany] at this; cases this
theorem last_atB {α : Type} {l : List Tok} {x : α} {j : Nat} {sep : List UInt8} (h : At l j [⟨3, [59], sep⟩]) (he : j + 1 = l.length) : lastP l x j = .ok x (j + 1) := by
  unfold lastP
  rw [need_at (s := ⟨#[59]⟩) h rfl]
  show (if j + 1 < l.length then Pr.err (j + 1) 1 else Pr.ok x (j + 1)) = _
  rw [if_neg (by omega)]
theorem goal_at' {l : List Tok} {m : MdlD} {ns : List (ByteArray × Int)} (hm : checkM m = 0) (hn : ∀ v ∈ m.vars, isNameS v.name = true) (hN : ∀ i : Int, 0 ≤ i ∧ i < m.vars.length → mget .str .int (nmS m.vars i) ns = some i) {j : Nat} (h : At l j (goalPc m)) (he : j + (goalPc m).length = l.length) : ∃ k, goalP isNameS l ns j = .ok (m.goal, m.var) k := by
  have hr := prOk hm
  have h0 : m.goal = 0 → m.var = 0 := fun h0 => by
    have hg := hr.right.goal
    unfold goalE at hg
    split at hg
    · exact absurd hg (by decide)
    · split at hg
      · exact absurd hg (by decide)
      · rename_i h1; exact Decidable.of_not_not fun h2 => h1 ⟨h0, h2⟩
  unfold goalPc at h he
  unfold goalP
  rw [need_at (s := ⟨#[115, 111, 108, 118, 101]⟩) h rfl]
  have h := h.2.2.2
  show ∃ k, (if takeB l ⟨#[97, 110, 121]⟩ (j + 1) = true then lastP l (0, 0) (j + 1 + 1)
    else if takeB l ⟨#[108, 101, 97, 115, 116]⟩ (j + 1) = true then (vP isNameS ns l (j + 1 + 1)).bind fun v j => lastP l (1, v) j
    else (needP l [⟨#[109, 111, 115, 116]⟩] (j + 1)).bind fun _ j => (vP isNameS ns l j).bind fun v j => lastP l (2, v) j) = .ok (m.goal, m.var) k
  rcases goal_cases hr with hg | ⟨hg | hg, hv⟩
  · rw [if_pos hg] at h he
    rw [if_pos (by rw [take_atB h]; rfl), last_atB h.2.2.2 (by simp only [List.length_cons, List.length_nil] at he; omega), hg, h0 hg]
    exact ⟨_, rfl⟩
  · rw [if_neg (by omega), if_pos hg] at h he
    rw [if_neg (by rw [take_atB h]; simp [bs]), if_pos (by rw [take_atB h]; rfl), v_at hn hN hv h.2.2.2]
    show ∃ k, lastP l (1, m.var) (j + 1 + 1 + 1) = _
    rw [last_atB h.2.2.2.2.2.2 (by simp only [List.length_cons, List.length_nil] at he; omega), hg]
    exact ⟨_, rfl⟩
  · rw [if_neg (by omega), if_neg (by omega)] at h he
    rw [if_neg (by rw [take_atB h]; simp [bs]), if_neg (by rw [take_atB h]; simp [bs]), need_at (s := ⟨#[109, 111, 115, 116]⟩) h rfl]
    show ∃ k, ((vP isNameS ns l (j + 1 + 1)).bind fun v j => lastP l (2, v) j) = _
    rw [v_at hn hN hv h.2.2.2]
    show ∃ k, lastP l (2, m.var) (j + 1 + 1 + 1) = _
    rw [last_atB h.2.2.2.2.2.2 (by simp only [List.length_cons, List.length_nil] at he; omega), hg]
    exact ⟨_, rfl⟩
theorem flat_le {α : Type} {f : α → List Pc} (h : ∀ x, f x ≠ []) : ∀ (xs : List α), xs.length ≤ (xs.flatMap f).length
  | [] => Nat.zero_le _
  | x :: xs => by
    have := flat_le h xs
    have h0 := List.length_pos_iff.2 (h x)
    rw [List.flatMap_cons, List.length_append, List.length_cons]; omega
theorem model_back {m : MdlD} (hm : checkM m = 0) : ∃ ns k, modelP isNameS numV (toksP 0 (mdlPc m)) = .ok (m, ns) k := by
  have hr := prOk hm
  have hn := varsE_names (checkM_vars hm)
  have h : At (toksP 0 (mdlPc m)) 0 (mdlPc m) := at_toks (mdlPc m) [] 0
  have hlen : (toksP 0 (mdlPc m)).length = (mdlPc m).length := toks_len _ _
  generalize toksP 0 (mdlPc m) = l at h hlen ⊢
  unfold mdlPc at h hlen
  rw [at_app, at_app] at h
  rw [List.length_append, List.length_append] at hlen
  obtain ⟨h1, h2, h3⟩ := h
  have l1 := flat_le (f := varPc) (fun v => by unfold varPc; simp) m.vars
  have l2 := flat_le (f := conTc m.vars) (fun v => by unfold conTc; simp) m.cons
  have t3 : takeB l ⟨#[99, 111, 110]⟩ (0 + (m.vars.flatMap varPc).length + (m.cons.flatMap (conTc m.vars)).length) = false := by
    unfold goalPc at h3; rw [take_atB h3]; simp [bs]
  have t2 : takeB l ⟨#[118, 97, 114]⟩ (0 + (m.vars.flatMap varPc).length) = false := by
    cases hcs : m.cons with
    | nil =>
      rw [hcs] at h3
      have h3 : At l (0 + (m.vars.flatMap varPc).length) (goalPc m) := h3
      unfold goalPc at h3; rw [take_atB h3]; simp [bs]
    | cons c cs =>
      rw [hcs, List.flatMap_cons] at h2
      unfold conTc at h2
      rw [List.cons_append] at h2
      rw [take_atB h2]; simp [bs]
  obtain ⟨ns, e1, e2⟩ := vars_at m.vars (l.length + 1) [] [] 0 (by omega) (fun s => rfl) (fun v hv => by have := hr.right.var v hv; exact ⟨hn v hv, by omega, by omega⟩) h1 t2
  rw [List.nil_append] at e1 e2
  have hN : ∀ i : Int, 0 ≤ i ∧ i < m.vars.length → mget .str .int (nmS m.vars i) ns = some i := fun i hi => by rw [e2]; exact ix_at (checkM_vars hm) hi
  have e3 := cons_at (ns := ns) hn hN m.cons (l.length + 1) [] _ (by omega) hr.cons h2 t3
  rw [List.nil_append] at e3
  obtain ⟨k, e4⟩ := goal_at' hm hn hN h3 (by omega)
  refine ⟨ns, k, ?_⟩
  unfold modelP
  rw [e1]
  show ((consR isNameS numV l ns (l.length + 1) [] _).bind fun cs j => (goalP isNameS l ns j).bind fun g j => Pr.ok ((⟨m.vars, cs, g.1, g.2⟩ : MdlD), ns) j) = _
  rw [e3]
  show ((goalP isNameS l ns _).bind fun g j => Pr.ok ((⟨m.vars, m.cons, g.1, g.2⟩ : MdlD), ns) j) = _
  rw [e4]; rfl
theorem parse_print {m : MdlD} (hm : checkM m = 0) (hl : (printS m).size ≤ 4000) : parseS (printS m) = (m, 0, 0) := by
  have e : (printS m).data.toList = printL m := rfl
  have hl : (printL m).length ≤ 4000 := hl
  unfold parseS
  rw [e, scan_mdl hm hl, if_neg (fun h => h rfl)]
  obtain ⟨ns, k, hk⟩ := model_back hm
  unfold parseT
  rw [hk]
  show finM m = _
  unfold finM
  rw [if_pos hm]
/-- What is read without an error is right; else nothing is. -/
theorem parse_right (s : ByteArray) : (parseS s).2.2 = 0 ∧ checkM (parseS s).1 = 0 ∨ (parseS s).2.2 ≠ 0 ∧ (parseS s).1 = mEmpty := by
  unfold parseS
  split
  · rename_i h; exact .inr ⟨h, rfl⟩
  · unfold parseT
    cases hm : modelP isNameS numV (scanS s.data.toList).1 with
    | ok x j =>
      obtain ⟨m, ns⟩ := x
      show (finM m).2.2 = 0 ∧ checkM (finM m).1 = 0 ∨ (finM m).2.2 ≠ 0 ∧ (finM m).1 = mEmpty
      unfold finM
      by_cases hc : checkM m = 0
      · rw [if_pos hc]; exact .inl ⟨rfl, hc⟩
      · rw [if_neg hc]; exact .inr ⟨hc, rfl⟩
    | err j e =>
      refine .inr ⟨?_, rfl⟩
      show e ≠ 0
      rcases errB_model hm with rfl | rfl <;> decide
end Go.Proofs.YtogdmcebojiojaaGreatDoor
