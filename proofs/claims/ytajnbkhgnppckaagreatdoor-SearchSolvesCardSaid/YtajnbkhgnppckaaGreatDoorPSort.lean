/- What the library's Sort and Compact do to a slice of ints that the caller owns. -/
import Derived.Test.YtajnbkhgnppckaaGreatDoorWSlices
import Derived.Test.YtajnbkhgnppckaaGreatDoorMC
import Derived.Test.YtajnbkhgnppckaaGreatDoorMD
namespace Go.Proofs.YtajnbkhgnppckaaGreatDoor
open Go.RowKit
set_option linter.unusedVariables false
set_option linter.unusedSimpArgs false
theorem zBj (l : List Int) : (l.map fun x => [Value.int .i64 x]).flatten = l.map (Value.int .i64) := by
 induction l with
 | nil => rfl
 | cons a l ih => rw [List.map_cons, List.flatten_cons, ih]; rfl
theorem int_row {w : World} {S : Nat → Prop} {l : List Int} {css : List (List Value)} (hl : css.length = l.length) (h : ∀ (i : Nat) (x : Int) (cs : List Value), l[i]? = some x → css[i]? = some cs → Rep.rd w S cs x) :
  css.flatten = l.map (Value.int .i64) ∧ ∀ x ∈ l, inI64 x := by
 have e : css = l.map fun x => [Value.int .i64 x] := by
  apply List.ext_getElem (by rw [hl, List.length_map])
  intro i h1 h2
  have hi : i < l.length := by omega
  have := h i l[i] css[i] (List.getElem?_eq_getElem hi) (List.getElem?_eq_getElem h1)
  rw [List.getElem_map]; exact this.1
 refine ⟨by rw [e, zBj], fun x hx => ?_⟩
 obtain ⟨i, hi, rfl⟩ := List.getElem_of_mem hx
 exact (h i l[i] css[i] (List.getElem?_eq_getElem hi) (List.getElem?_eq_getElem (by omega))).2
theorem row_of {w : World} {S : Nat → Prop} {pl : Nat → Value} {l : List Int} {g cap : Nat} {cur : Array Value} {e : TypeId} (hb : l.length * 8 ≤ 140737488355328) (hh : w.heap[g]? = some (.cells cur e (0, 0))) (h1 : l.length ≤ cap) (h2 : cap ≤ maxLen) (h3 : cur.size = cap) (h4 : cur.toList.take l.length = l.map (Value.int .i64)) (hi : ∀ x ∈ l, inI64 x) :
  ObOk w S pl (.slice (some ⟨g, 0, none⟩) l.length cap) (.row e .int l) := by
 refine ⟨hb, l.map fun x => [Value.int .i64 x], by rw [List.length_map], ⟨?_, .inr ⟨g, cap, cur, rfl, Nat.zero_le _, hh, h1, h2, ?_, ?_⟩⟩, ?_, ?_⟩
 ·rw [zBj, List.length_map]; exact (Nat.mul_one _).symm
 ·rw [h3]; exact (Nat.mul_one _).symm
 ·rw [zBj, ← h4]; congr 1; exact Nat.mul_one _
 ·intro cs hcs
  obtain ⟨x, _, rfl⟩ := List.mem_map.1 hcs
  rfl
 ·intro i x cs hx hcs
  rw [List.getElem?_map, hx] at hcs
  cases hcs
  exact ⟨rfl, hi _ (List.mem_of_getElem? hx)⟩
theorem zDn {d : Array Int} {cur : Array Value} (h : d.size ≤ cur.size) : (Sort.putCells (Value.int .i64) 0 d cur).toList.take d.size = d.toList.map (Value.int .i64) := by
 apply List.ext_getElem
 ·simp [Sort.putCells]; omega
 ·intro i h1 h2
  have hi : i < d.size := by simpa using h2
  simp [Sort.putCells, hi]
theorem zEn {w : World} {l : List Int} {g cap : Nat} {cur : Array Value} {e : TypeId} (hh : w.heap[g]? = some (.cells cur e (0, 0))) (h4 : cur.toList.take l.length = l.map (Value.int .i64)) : Sort.Holds (Value.int .i64) w g 0 l.toArray := by
 intro j hj
 have hj : j < l.length := by simpa using hj
 rw [Nat.zero_add]
 refine ⟨?_, frozen_of_row w g j cur e hh⟩
 rw [cell_of_row w g j cur e (0, 0) hh]
 have e2 : (cur.toList.take l.length)[j]? = some (.int .i64 l[j]) := by rw [h4, List.getElem?_map, List.getElem?_eq_getElem hj]; rfl
 rw [List.getElem?_take, if_pos hj] at e2
 rw [← Array.getElem?_toList, e2]
 simp [hj]
theorem zFn {w : World} {g : Nat} {cur : Array Value} {e : TypeId} (d : Array Int) (n : Nat) (hh : w.heap[g]? = some (.cells cur e (0, 0))) : (Sort.putRow (Value.int .i64) (Sort.ahead w n) g 0 d).heap[g]? = some (.cells (Sort.putCells (Value.int .i64) 0 d cur) e (0, 0)) := by
 simp [Sort.putRow, Sort.mapBlock, Array.getElem?_modify, hh, Sort.onCells]
theorem zGn {w : World} {g k : Nat} (d : Array Int) (n : Nat) (hk : k ≠ g) : (Sort.putRow (Value.int .i64) (Sort.ahead w n) g 0 d).heap[k]? = w.heap[k]? := by
 simp [Sort.putRow, Sort.mapBlock, Array.getElem?_modify, Ne.symm hk]
theorem zHn {k n : Nat} {o o' : HObj} (h : look k [(n, o)] = some o') : k = n ∧ o' = o := by
 rw [ze] at h
 split at h
 ·rename_i e; exact ⟨e.symm, (Option.some.inj h).symm⟩
 ·cases h
theorem hok_nil {w : World} {S : Nat → Prop} {pl : Nat → Value} : HOk w S pl [] :=
 ⟨fun k o h => (Option.some_ne_none _ h.symm).elim, fun k o b h => (Option.some_ne_none _ h.symm).elim, fun k k' o o' b h => (Option.some_ne_none _ h.symm).elim⟩
theorem zIn {vs : Array Value} {v : Value} (h : vs.size = 1) (e : vs.getD 0 Go.undef = v) : vs = #[v] := by
 apply Array.ext
 ·simpa using h
 ·intro i h1 h2
  have : i = 0 := by omega
  subst this
  simpa [Array.getD_eq_getD_getElem?, h1] using e
theorem zJn (l : List Int) : (Lib.compact l).length ≤ l.length := by
 unfold Lib.compact Lib.compactUpTo
 rw [List.length_map]
 have := List.length_filter_le (Lib.keeps l.toArray) (List.range l.length)
 rwa [List.length_range] at this
theorem zKn {l : List Int} {x : Int} (h : x ∈ Lib.compact l) : x ∈ l := by
 unfold Lib.compact Lib.compactUpTo at h
 obtain ⟨i, hi, rfl⟩ := List.mem_map.1 h
 have hi := List.mem_range.1 (List.mem_filter.1 hi).1
 rw [getElem!_pos l.toArray i (by simpa using hi)]
 simp
abbrev sortI (l : List Int) : List Int := l.mergeSort fun x y => decide (x ≤ y)
theorem zCj (l : List Int) : SatH Tryz.prog z2d [.own 1000] [(1000, .row 3 .int l)] (.tup []) [(1000, .row 3 .int (sortI l))] := by
 intro w S vs pl hS hl hv hH _
 have e0 : vs = #[pl 1000] := zIn hl (hv 0 _ rfl)
 subst e0
 obtain ⟨hb, css, hcl, hown, hcs, hrd⟩ := hH.ok 1000 _ rfl
 obtain ⟨hf, hin⟩ := int_row hcl hrd
 have hb8 : l.length * 8 ≤ 140737488355328 := hb
 have hsl : (sortI l).length = l.length := List.length_mergeSort l
 have hsin : ∀ x ∈ sortI l, inI64 x := fun x hx => hin x ((List.mergeSort_perm l _).mem_iff.1 hx)
 rcases hown.2 with ⟨hp, hn⟩ | ⟨g, cap, cur, hp, _, hh, hc1, hc2, hc3, hc4⟩
 ·obtain rfl : l = [] := List.length_eq_zero_iff.1 hn
  rw [hp]
  refine (Tryz.slices_Sort_int_none none 0 w).mono fun e w' ⟨he, hw⟩ => ?_
  subst hw
  rw [show sortI [] = [] from List.length_eq_zero_iff.1 hsl]
  refine ⟨_, S, pl, he, ?_, hH, hS, fun b h => .inl h, fun b h => .inl h, fun _ _ => rfl, .of (Below.refl _ _)⟩
  exact Rp.tup #[] [] rfl fun i d h => by simp at h
 ·have hc3' : cur.size = cap := hc3.trans (Nat.mul_one _)
  have hc4' : cur.toList.take l.length = l.map (Value.int .i64) := by rw [← hf, ← hc4]; congr 1; exact (Nat.mul_one _).symm
  have hg : g < w.heap.size := (Array.getElem?_eq_some_iff.1 hh).1
  rw [hp]
  refine (Tryz.slices_Sort_int g 0 cap l w (zEn (cap := cap) hh hc4') hg (by omega)).mono fun e w' ⟨he, n, os, hw⟩ => ?_
  subst hw
  have hsz : (Sort.putRow (Value.int .i64) (Sort.ahead w n) g 0 (sortI l).toArray).heap.size = w.heap.size := by simp
  have hG : ∀ k, k < w.heap.size → (Sort.grow (Sort.putRow (Value.int .i64) (Sort.ahead w n) g 0 (sortI l).toArray) os).heap[k]? = (Sort.putRow (Value.int .i64) (Sort.ahead w n) g 0 (sortI l).toArray).heap[k]? := fun k hk => by
   show (_ ++ os)[k]? = _
   rw [Array.getElem?_append_left (by omega)]
  have hgs : (Sort.grow (Sort.putRow (Value.int .i64) (Sort.ahead w n) g 0 (sortI l).toArray) os).heap.size = w.heap.size + os.size := by simp
  have hpb : oblk (pl 1000) = some g := by rw [hp]; rfl
  refine ⟨_, S, pl, he, ?_, ?_, fun b h => by rw [hgs]; have := hS b h; omega, fun b h => .inl h, fun b ⟨k, o, h1, h2⟩ => ?_, fun _ _ => rfl, ?_⟩
  ·exact Rp.tup #[] [] rfl fun i d h => by simp at h
  ·have look1 : ∀ k o, look k [(1000, HObj.row 3 .int (sortI l))] = some o → k = 1000 ∧ o = .row 3 .int (sortI l) := fun k o h => zHn h
   refine ⟨fun k o h => ?_, fun k o b h1 h2 => ?_, fun k k' o o' b h1 h2 _ _ => by rw [(look1 _ _ h1).1, (look1 _ _ h2).1]⟩
   ·obtain ⟨rfl, rfl⟩ := look1 _ _ h
    rw [hp, show l.length = (sortI l).length from hsl.symm]
    refine row_of (by omega) ((hG g hg).trans (zFn _ n hh)) (by omega) hc2 (by simp [Sort.putCells, hc3']) ?_ hsin
    have := zDn (d := (sortI l).toArray) (cur := cur) (by simp only [List.size_toArray]; omega)
    simpa using this
   ·obtain ⟨rfl, rfl⟩ := look1 _ _ h1
    have := hH.priv 1000 _ b rfl h2
    exact ⟨by rw [hgs]; omega, this.2⟩
  ·have : k = 1000 := (zHn h1).1
   subst this
   exact .inl ⟨1000, _, rfl, h2⟩
  ·refine ⟨rfl, rfl, rfl, by rw [hgs]; omega, fun k hk hO => ?_⟩
   rw [hG k hk]
   refine zGn _ _ fun e => hO ?_
   subst e
   exact ⟨1000, _, rfl, hpb⟩
theorem zDj (l : List Int) : SatH Tryz.prog z3d [.own 1000] [(1000, .row 3 .int l)] (.sl .int (Lib.compact l)) [] := by
 intro w S vs pl hS hl hv hH _
 have e0 : vs = #[pl 1000] := zIn hl (hv 0 _ rfl)
 subst e0
 obtain ⟨hb, css, hcl, hown, hcs, hrd⟩ := hH.ok 1000 _ rfl
 obtain ⟨hf, hin⟩ := int_row hcl hrd
 have hb8 : l.length * 8 ≤ 140737488355328 := hb
 have hcle := zJn l
 have hcin : ∀ x ∈ Lib.compact l, inI64 x := fun x hx => hin x (zKn hx)
 rcases hown.2 with ⟨hp, hn⟩ | ⟨g, cap, cur, hp, _, hh, hc1, hc2, hc3, hc4⟩
 ·obtain rfl : l = [] := List.length_eq_zero_iff.1 hn
  rw [hp]
  refine (Tryz.slices_Compact_int_empty none 0 w).mono fun e w' ⟨he, hw⟩ => ?_
  subst hw
  refine ⟨_, S, pl, he, ?_, hok_nil, hS, fun b h => .inl h, fun b ⟨k, o, h, _⟩ => (Option.some_ne_none _ h.symm).elim, fun _ _ => rfl, .of (Below.refl _ _)⟩
  have : Lib.compact ([] : List Int) = [] := List.length_eq_zero_iff.1 (by have := hcle; simpa using this)
  rw [this]
  exact Rp.sl .int [] _ ⟨_, rfl, none, 0, rfl, by simp, by simp, by simp, fun _ => rfl, fun h => by simp at h⟩
 ·have hc3' : cur.size = cap := hc3.trans (Nat.mul_one _)
  have hc4' : cur.toList.take l.length = l.map (Value.int .i64) := by rw [← hf, ← hc4]; congr 1; exact (Nat.mul_one _).symm
  have hg : g < w.heap.size := (Array.getElem?_eq_some_iff.1 hh).1
  rw [hp]
  refine (Tryz.slices_Compact_int g 0 cap l w (zEn (cap := cap) hh hc4') (by omega) hc1).mono fun e w' ⟨he, n, hw⟩ => ?_
  subst hw
  have hsz : (Sort.putRow (Value.int .i64) (Sort.ahead w n) g 0 (Lib.compact l ++ List.replicate (l.length - (Lib.compact l).length) 0).toArray).heap.size = w.heap.size := by simp
  have hpb : oblk (pl 1000) = some g := by rw [hp]; rfl
  refine ⟨_, fun b => S b ∨ b = g, pl, he, ?_, hok_nil, fun b h => ?_, fun b h => ?_, fun b ⟨k, o, h, _⟩ => (Option.some_ne_none _ h.symm).elim, fun _ _ => rfl, ?_⟩
  ·refine Rp.sl .int _ _ ⟨_, rfl, some ⟨g, 0, none⟩, cap, rfl, by show _ * 8 ≤ _; omega, by omega, hc2, (fun h => by cases h), fun _ => ⟨g, 0, rfl, .inr rfl, fun i x hx => ⟨[.int .i64 x], ⟨rfl, hcin _ (List.mem_of_getElem? hx)⟩, fun j u hu => ?_⟩⟩⟩
   have hj : j = 0 := by
    cases j with
    | zero => rfl
    | succ j => simp at hu
   subst hj
   cases hu
   rw [cell_of_row _ g _ _ _ (0, 0) (zFn _ n hh)]
   have hi : i < (Lib.compact l).length := (List.getElem?_eq_some_iff.1 hx).1
   have := zDn (d := (Lib.compact l ++ List.replicate (l.length - (Lib.compact l).length) 0).toArray) (cur := cur) (by simp; omega)
   rw [show 0 + i * Rep.size Int + 0 = i from by show 0 + i * 1 + 0 = i; omega]
   rw [← Array.getElem?_toList]
   have h5 := congrArg (fun z : List Value => z[i]?) this
   simp only [List.getElem?_take, List.getElem?_map, List.toList_toArray] at h5
   rw [if_pos (by simp; omega), List.getElem?_append_left hi, hx] at h5
   exact h5
  ·rw [hsz]
   rcases h with h | rfl
   ·exact hS b h
   ·exact hg
  ·rcases h with h | rfl
   ·exact .inl h
   ·exact .inr (.inl ⟨1000, _, rfl, hpb⟩)
  ·refine ⟨rfl, rfl, rfl, by rw [hsz]; exact Nat.le_refl _, fun k hk hO => zGn _ _ fun e => hO ?_⟩
   subst e
   exact ⟨1000, _, rfl, hpb⟩
end Go.Proofs.YtajnbkhgnppckaaGreatDoor
