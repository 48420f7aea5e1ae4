/- That the program's test whether a constraint holds is what it means. -/
import Derived.Test.YtajnbkhgnppckaaGreatDoorPModel1
namespace Go.Proofs.YtajnbkhgnppckaaGreatDoor
open Go.RowKit
set_option linter.unusedVariables false
set_option linter.unusedSimpArgs false
theorem zAj {c : ConD} {vs : List Int} {nv : Nat} (hc : RightC c nv) (hv : GoodV vs nv) (hk : c.kind ≤ 3) {I : Nat → Int → Int → Prop} {b : Bool} (hb : trueC c vs = b)
  (hI : ∀ n a (k : Nat), I (n + 1) a k = sel (decide ((k : Int) < (c.consts.length : Int)))
   (inb (k : Int) c.consts.length = true ∧ Call1 Tryz.prog zg [dI k, .iptr [.sl .int vs] 0, .iptr [.int .i64 c.kind, .sl .int c.vars, .sl .int c.consts, .int .i64 c.n, .sl (.list .int) c.rows, .sl .lit c.lits] 0] .int fun m3 =>
    I n (w64 (a + (w64 ((at' .int c.consts (k : Int).toNat) * m3)))) (w64 ((k : Int) + 1)))
   (Call1 Tryz.prog z5b [dC c, dI a] .bool fun m4 => D.bool m4 = dB b)) : ∃ n, I n 0 0 := by
 subst hb
 have hm := hc.many
 have hfc := (hc.formC).sums hk
 have hxl : (valsC c vs).length = c.vars.length := zcc
 have hz : (c.consts.zip (valsC c vs)).length = c.consts.length := by rw [List.length_zip]; omega
 have hnear : ∀ x ∈ c.consts.zip (valsC c vs), (-1000 ≤ x.1 ∧ x.1 ≤ 1000) ∧ -50 ≤ x.2 ∧ x.2 ≤ 50 := fun x hx => ⟨hc.consts _ (List.of_mem_zip hx).1, zXh hv _ (List.of_mem_zip hx).2⟩
 refine up (I := fun n v a => I n a v) 0 c.consts.length rfl (Nat.zero_le _) (by omega) (fun k a => a = sumZ ((c.consts.zip (valsC c vs)).take k)) (by rw [List.take_zero]; rfl) fun n k a _ hk2 ha hn => ?_
 subst ha
 rw [hI]
 by_cases h : k < c.consts.length
 ·have hkv : k < c.vars.length := by omega
  have hkz : k < (c.consts.zip (valsC c vs)).length := by omega
  have h1 := hc.consts _ (List.getElem_mem h)
  have h2 := zXh (c := c) hv _ (List.getElem_mem (show k < (valsC c vs).length by omega))
  have h3 := zve h1 h2
  have h4 := zwn fun x hx => hnear x (List.mem_of_mem_take (i := k) hx)
  rw [List.length_take] at h4
  rw [sel_lt h, at_nat (t := .int) h]
  refine ⟨inb_nat h, call1 (zbb hc hv hkv) (hn h _ ?_)⟩
  rw [zxn hkz, List.getElem_zip, w64_eq (n := _ * _) (by omega) (by omega), w64_eq (by omega) (by omega)]
 ·have hk' : k = c.consts.length := by omega
  subst hk'
  rw [sel_end]
  refine call1 (zzn c _) ?_
  rw [List.take_of_length_le (by omega)]
  have hkk := hc.kind
  have : c.kind = 1 ∨ c.kind = 2 ∨ c.kind = 3 := by omega
  rcases this with e | e | e <;> simp [trueC, e]
theorem zFx {c : ConD} {vs : List Int} {nv : Nat} (hc : RightC c nv) (hv : GoodV vs nv) : Sat Tryz.prog z0c [.sl .lit c.lits, .clo zDb none [.iptr [.sl .int vs] 0]] (dB (c.lits.any fun l => holdsL l (vs.getD l.var.toNat 0))) :=
 zXm (p := fun l => holdsL l (vs.getD l.var.toNat 0)) zgw fun l hl => zyn (hc.lits l hl) hv
theorem zwe {c : ConD} {vs : List Int} {nv : Nat} (hc : RightC c nv) (hv : GoodV vs nv) : Sat Tryz.prog zvc [dC c, .sl .int vs] (dB (trueC c vs)) :=
 zOt c vs fun ok => by
  obtain ⟨hk1, hk2⟩ := hc.kind
  have hm := hc.many
  have hf := hc.formC
  have hxl : (valsC c vs).length = c.vars.length := zcc
  have hnear := zXh (c := c) hv
  have hx : ∀ {k : Nat} (h : k < c.vars.length), (valsC c vs).getD k 0 = (valsC c vs)[k] := fun h => getD_at _ (by omega)
  rw [zNt]
  refine za (fun e => ?_) fun e1 => za (fun e => ?_) fun e2 => za (fun e => ?_) fun e3 => za (fun e => ?_) fun e4 => za (fun e => ?_) fun e5 => za (fun e => ?_) fun e6 => za (fun e => ?_) fun e7 => za (fun e => ?_) fun e8 => za (fun e => ?_) fun e9 => ?_
  ·have e := of_decide_eq_true e
   exact zAj hc hv (by omega) (I := fun n a v => zUg c vs _ n a v) rfl fun n a k => by rw [zHt]
  ·have e := of_decide_eq_true e
   exact zAj hc hv (by omega) (I := fun n a v => zVg c vs _ n a v) rfl fun n a k => by rw [zIt]
  ·have e := of_decide_eq_true e
   exact zAj hc hv (by omega) (I := fun n a v => zWg c vs _ n a v) rfl fun n a k => by rw [zJt]
  ·have e := of_decide_eq_true e
   have ht : trueC c vs = decide (valsC c vs).Nodup := by simp [trueC, e]
   refine up (I := fun n v a => zXg c vs _ n v a) 0 c.vars.length rfl (Nat.zero_le _) (by omega) (fun k a => a.map (fun e => e.1) = keysOf [] ((valsC c vs).take k)) (by rw [List.take_zero]; rfl) fun n k a _ hkl ha hn => ?_
   have hal : a.length = (keysOf [] ((valsC c vs).take k)).length := by rw [← ha, List.length_map]
   have hle := zYh ((valsC c vs).take k) []
   rw [List.length_take, List.length_nil] at hle
   rw [zKt]
   by_cases h : k < c.vars.length
   ·rw [sel_lt h]
    refine call1 (zbb hc hv h) ⟨decide_eq_true (by omega), hn h _ ?_⟩
    rw [zBn, ha, zEx (show k < (valsC c vs).length by omega)]
   ·have hk' : k = c.vars.length := by omega
    subst hk'
    rw [sel_end, ht]
    congr 1
    rw [List.take_of_length_le (by omega)] at hal
    have hn := zCn (valsC c vs) []
    rw [List.length_nil, Nat.zero_add] at hn
    refine decide_eq_decide.2 ⟨fun h => (hn.1 (by omega)).1, fun h => ?_⟩
    have := hn.2 ⟨h, fun x _ hx => by cases hx⟩
    omega
  ·have e := of_decide_eq_true e
   obtain ⟨h2, h1⟩ := hf.element e
   have t0 := zbb hc hv (k := 0) (by omega)
   have t1 := zbb hc hv (k := 1) (by omega)
   have ht : trueC c vs = (decide ((0 : Int) ≤ (valsC c vs)[0]) && decide ((valsC c vs)[0] < c.consts.length) && decide (c.consts.getD (valsC c vs)[0].toNat 0 = (valsC c vs)[1])) := by
    rw [← hx (k := 0) (by omega), ← hx (k := 1) (by omega)]; simp [trueC, e]
   refine call1 t0 ?_
   rw [w64_eq (by omega) (by omega)]
   refine call1 (zJb _ _ _) (za (fun f => ?_) fun f => ?_)
   ·obtain ⟨f1, f2⟩ := zQb.1 f
    have hin : (valsC c vs)[0].toNat < c.consts.length := by omega
    refine call1 t0 ⟨inb_iff.2 ⟨f1, by omega⟩, call1 t1 ?_⟩
    rw [ht, decide_eq_true f1, decide_eq_true (p := _ < _) (by omega), getD_at _ hin, atN (t := .int) hin]; rfl
   ·rw [ht]
    rcases zQ.1 f with f | f
    ·rw [decide_eq_false (p := 0 ≤ _) (by omega)]; rfl
    ·rw [decide_eq_false (p := _ < (c.consts.length : Int)) (by omega), Bool.and_false]; rfl
  ·have e := of_decide_eq_true e
   have ht : trueC c vs = c.rows.any fun r => decide (r = valsC c vs) := by simp [trueC, e]
   refine up (I := fun n v a => zYg c vs _ n v a) 0 c.vars.length rfl (Nat.zero_le _) (by omega) (fun k a => a = (valsC c vs).take k) (by rw [List.take_zero]) fun n k a _ hkl ha hn => ?_
   subst ha
   rw [zLt]
   by_cases h : k < c.vars.length
   ·rw [sel_lt h]
    refine call1 (zbb hc hv h) ⟨room_of (t := .int) ?_, hn h _ (List.take_append_getElem _)⟩
    rw [List.length_take]
    show (_ + 1) * 8 ≤ _
    omega
   ·have hk' : k = c.vars.length := by omega
    subst hk'
    rw [sel_end, List.take_of_length_le (by omega), ht]
    exact call1 (zuj zhw fun r _ => zDx r _) rfl
  ·have e := of_decide_eq_true e
   have h3 := hf.times e
   refine call1 (zbb hc hv (k := 0) (by omega)) (call1 (zbb hc hv (k := 1) (by omega)) (call1 (zbb hc hv (k := 2) (by omega)) ?_))
   have n0 := hnear _ (List.getElem_mem (show 0 < (valsC c vs).length by omega))
   have n1 := hnear _ (List.getElem_mem (show 1 < (valsC c vs).length by omega))
   have := zve (a := (valsC c vs)[0]) (b := (valsC c vs)[1]) (by omega) n1
   rw [w64_eq (by omega) (by omega), show trueC c vs = decide ((valsC c vs).getD 0 0 * (valsC c vs).getD 1 0 = (valsC c vs).getD 2 0) by simp [trueC, e], hx (k := 0) (by omega), hx (k := 1) (by omega), hx (k := 2) (by omega)]
  ·have e := of_decide_eq_true e
   have h2 := hf.max e
   have hd : ((c.vars.take (c.vars.length : Int).toNat).drop 1).length = c.vars.length - 1 := by rw [Int.toNat_natCast, List.take_length, List.length_drop]
   refine call1 (zbb hc hv (k := 1) (by omega)) ⟨by unfold inSl; simp; omega, ?_⟩
   refine up (I := fun n v a => zZg c vs _ n a v) 0 (c.vars.length - 1) rfl (Nat.zero_le _) (by omega) (fun k a => a = maxL (valsC c vs)[1] (((valsC c vs).drop 1).take k)) (by rw [List.take_zero]; rfl) fun n k a _ hkl ha hn => ?_
   subst ha
   rw [zMt, hd]
   by_cases h : k < c.vars.length - 1
   ·rw [sel_lt h, w64_eq (n := 1 + _) (by omega) (by omega), show (1 : Int) + (k : Int) = ((k + 1 : Nat) : Int) by omega]
    have hk3 : k < ((valsC c vs).drop 1).length := by rw [List.length_drop]; omega
    refine call1 (zbb hc hv (k := k + 1) (by omega)) (hn h _ ?_)
    rw [← List.take_append_getElem hk3, maxL, maxL, List.foldl_append, List.foldl_cons, List.foldl_nil, List.getElem_drop]
    simp only [show 1 + k = k + 1 by omega]
   ·have hk' : k = c.vars.length - 1 := by omega
    subst hk'
    rw [sel_end]
    refine call1 (zbb hc hv (k := 0) (by omega)) ?_
    rw [List.take_of_length_le (by rw [List.length_drop]; omega), show trueC c vs = decide ((valsC c vs).getD 0 0 = maxL ((valsC c vs).getD 1 0) ((valsC c vs).drop 1)) by simp [trueC, e], hx (k := 0) (by omega), hx (k := 1) (by omega)]
  ·have e := of_decide_eq_true e
   rw [show trueC c vs = c.lits.any fun l => holdsL l (vs.getD l.var.toNat 0) by simp [trueC, e]]
   exact call1 (zFx hc hv) rfl
  ·have e : c.kind = 10 := by simp at e1 e2 e3 e4 e5 e6 e7 e8 e9; omega
   obtain ⟨h1, h2⟩ := hf.iff e
   have hl0 : 0 < c.lits.length := by omega
   have t0 := zbb hc hv (k := 0) (by omega)
   have l0 := zyn (hc.lits _ (List.getElem_mem hl0)) hv
   have ha : (c.lits.take 1).any (fun l => holdsL l (vs.getD l.var.toNat 0)) = holdsL c.lits[0] (vs.getD c.lits[0].var.toNat 0) := by
    rw [show c.lits.take 1 = [c.lits[0]] by rw [List.take_one, List.head?_eq_getElem?, List.getElem?_eq_getElem hl0]; rfl]; simp
   have ht : trueC c vs = (holdsL c.lits[0] (vs.getD c.lits[0].var.toNat 0) && decide ((valsC c vs)[0] = 1) || !holdsL c.lits[0] (vs.getD c.lits[0].var.toNat 0) && decide ((valsC c vs)[0] = 0)) := by
    rw [← hx (k := 0) (by omega), ← ha]; simp [trueC, e]
   have a0 : at' .lit c.lits 0 = c.lits[0] := atN (t := .lit) hl0
   have i0 : inb 0 c.lits.length = true := inb_nat hl0
   rw [a0, ht]
   refine ⟨i0, call1 l0 (za (fun f => call1 t0 (za (fun g => ?_) fun g => ⟨i0, call1 l0 (za (fun f2 => ?_) fun f2 => ?_)⟩)) fun f => ⟨i0, call1 l0 (za (fun f2 => call1 t0 ?_) fun f2 => ?_)⟩)⟩
   ·rw [f, g]; rfl
   ·rw [f] at f2; exact absurd f2 (by decide)
   ·rw [f, g]; rfl
   ·rw [f]; rfl
   ·rw [f] at f2; exact absurd f2 (by decide)
end Go.Proofs.YtajnbkhgnppckaaGreatDoor
