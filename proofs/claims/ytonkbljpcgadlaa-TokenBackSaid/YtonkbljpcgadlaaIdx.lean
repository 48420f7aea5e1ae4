/- slices.IndexFunc and slices.ContainsFunc at the program's instances: the first place at which a predicate holds, whatever function tells it. Printed by gen_idx.py. -/
import Derived.Test.YtonkbljpcgadlaaProg
import Derived.Test.YtonkbljpcgadlaaOwn
namespace Go.Proofs.Ytonkbljpcgadlaa
open Go.RowKit
set_option linter.unusedVariables false

/-- The first place at which p holds, or -1. -/
def idxI {α : Type} (p : α → Bool) (xs : List α) : Int := match xs.findIdx? p with | some i => i | none => -1
theorem idxI_hit {α : Type} {p : α → Bool} {xs : List α} {k : Nat} (hk : k < xs.length) (h : ∀ j (hj : j < k), p (xs[j]'(by omega)) = false) (hp : p xs[k] = true) : idxI p xs = k := by
  unfold idxI
  have : xs.findIdx? p = some k := by
    rw [List.findIdx?_eq_some_iff_getElem]
    exact ⟨hk, hp, fun j hj => by simp [h j hj]⟩
  rw [this]
theorem idxI_miss {α : Type} {p : α → Bool} {xs : List α} (h : ∀ j (hj : j < xs.length), p xs[j] = false) : idxI p xs = -1 := by
  unfold idxI
  have : xs.findIdx? p = none := by
    rw [List.findIdx?_eq_none_iff]
    intro x hx
    obtain ⟨j, hj, rfl⟩ := List.getElem_of_mem hx
    exact h j hj
  rw [this]
theorem idxI_any {α : Type} (p : α → Bool) (xs : List α) : decide (0 ≤ idxI p xs) = xs.any p := by
  unfold idxI
  rw [Bool.eq_iff_iff]
  cases h : xs.findIdx? p with
  | none =>
    rw [List.findIdx?_eq_none_iff] at h
    simp only [decide_eq_true_eq, List.any_eq_true]
    constructor
    · intro h'; omega
    · rintro ⟨x, hx, hp⟩; simp [h x hx] at hp
  | some i =>
    rw [List.findIdx?_eq_some_iff_getElem] at h
    obtain ⟨hi, hp, _⟩ := h
    simp only [decide_eq_true_eq, List.any_eq_true]
    exact ⟨fun _ => ⟨_, List.getElem_mem hi, hp⟩, fun _ => by omega⟩

/-- What is asked of a function value: at each x of xs, in every world in which what lay in w lies, it answers p x, and turns nothing that lies. -/
def FnOk {α : Type} [Rep α] (P : Program) (F : FuncId) (lb : Array Value) (w : World) (xs : List α) (p : α → Bool) : Prop :=
  ∀ (W : World) (v : Value) (x : α), x ∈ xs → Below w.heap.size w W → Rds W v x → Calls P F (#[v] ++ lb) W fun e W' => e = .returned (.bool (p x)) ∧ Below W.heap.size W W'

section
variable {w : World} {S : Nat → Prop}
theorem rdV_at_con {xs : List ConD} {A : Option Addr} {n c : Nat} (h : RdV w S (.slice A n c) xs) {i : Nat} (hi : i < xs.length) :
    ∃ b o A1 c1 A2 c2 A3 c3 A4 c4, A = some ⟨b, o, none⟩ ∧ S b ∧ w.cell? ⟨b, o + i * 6, none⟩ = some (.int .i64 xs[i].kind) ∧ w.cell? ⟨b, o + i * 6 + 1, none⟩ = some (.slice A1 xs[i].vars.length c1) ∧
      w.cell? ⟨b, o + i * 6 + 2, none⟩ = some (.slice A2 xs[i].consts.length c2) ∧ w.cell? ⟨b, o + i * 6 + 3, none⟩ = some (.int .i64 xs[i].n) ∧
      w.cell? ⟨b, o + i * 6 + 4, none⟩ = some (.slice A3 xs[i].rows.length c3) ∧ w.cell? ⟨b, o + i * 6 + 5, none⟩ = some (.slice A4 xs[i].lits.length c4) ∧
      RdV w S (.agg #[.int .i64 xs[i].kind, .slice A1 xs[i].vars.length c1, .slice A2 xs[i].consts.length c2, .int .i64 xs[i].n, .slice A3 xs[i].rows.length c3, .slice A4 xs[i].lits.length c4]) xs[i] := by
  obtain ⟨b, o, cs, rfl, hb, hr, hc⟩ := rdV_at h hi
  have hr' := hr
  obtain ⟨v1, v2, v3, v4, rfl, a, b', h1, h2, h3, h4⟩ := hr
  obtain ⟨A1, c1, rfl, _, _⟩ := rdC_list h1
  obtain ⟨A2, c2, rfl, _, _⟩ := rdC_list h2
  obtain ⟨A3, c3, rfl, _, _⟩ := rdC_list h3
  obtain ⟨A4, c4, rfl, _, _⟩ := rdC_list h4
  exact ⟨b, o, A1, c1, A2, c2, A3, c3, A4, c4, rfl, hb, by simpa [Rep.size] using hc 0 _ rfl, by simpa [Rep.size] using hc 1 _ rfl, by simpa [Rep.size] using hc 2 _ rfl, by simpa [Rep.size] using hc 3 _ rfl,
    by simpa [Rep.size] using hc 4 _ rfl, by simpa [Rep.size] using hc 5 _ rfl, ⟨_, rfl, hr'⟩⟩
end


theorem indexFunc_str (F : FuncId) (lb : Array Value) (eg : ∀ args w, (callFunc F args).run Try.prog w = .ok (.enter F args) w) (v : Value) (xs : List (ByteArray)) (p : ByteArray → Bool) (w : World) (hr : Rds w v xs) (hf : FnOk Try.prog F lb w xs p) :
    Calls Try.prog 143 #[v, .func (.func F) #[] lb] w fun e w' => e = .returned (.int .i64 (idxI p xs)) ∧ Below w.heap.size w w' := by
  obtain ⟨A, c, rfl, hsl⟩ := rdV_list hr
  have hlen : xs.length ≤ 9223372036854775807 := Nat.le_trans hsl.cap hsl.max
  clear hsl
  go_enter Try.func143, Try.ntmps143
  go_wp2_with fail
  go_loopg [5, 8] xs.length (fun gg s5 s8 wr => ∃ k : Nat, k ≤ xs.length ∧ xs.length - k ≤ gg ∧ s8 = .int .i64 k ∧ Below w.heap.size w wr ∧ Aside (∀ j (hj : j < k) (hl : j < xs.length), p xs[j] = false))
  case atStart => exact ⟨0, Nat.zero_le _, by omega, rfl, Below.refl _ _, fun j hj => absurd hj (Nat.not_lt_zero _)⟩
  case round =>
    obtain ⟨k, hk, hg, rfl, hB, hN⟩ := hrel
    by_cases hlt : k < xs.length
    · have hlt' : (k : Int) < (xs.length : Int) := by omega
      obtain ⟨b, o, rfl, hb, c0, q0⟩ := rdV_at_str (hr.below hB) hlt
      have hcall := hf wr (.string xs[k]) xs[k] (List.getElem_mem hlt) hB (rdV_str_mk q0)
      cases hq : p xs[k] with
      | true =>
        rw [hq] at hcall
        have HC := Lib.hid hcall
        have HQ := Lib.hid hq
        have HF := Lib.hid hf
        clear hcall hq hf
        go_wp2_with (go_at_fn F; refine HC.out.mono ?_; rintro e w1 ⟨rfl, hb1⟩)
        go_ret
        exact ⟨by rw [idxI_hit hlt (fun j hj => hN.out j hj (by omega)) HQ.out]; rfl, bstep hB hb1⟩
      | false =>
        rw [hq] at hcall
        have HC := Lib.hid hcall
        have HQ := Lib.hid hq
        have HF := Lib.hid hf
        clear hcall hq hf
        go_wp2_with (go_at_fn F; refine HC.out.mono ?_; rintro e w1 ⟨rfl, hb1⟩)
        go_roundg (xs.length - (k + 1))
        case measure => omega
        case rel =>
          refine ⟨k + 1, by omega, by omega, by go_num, bstep hB hb1, (show Aside _ from fun j hj hl => ?_)⟩
          by_cases e : j = k
          · subst e; exact HQ.out
          · exact hN.out j (by omega) hl
    · have hlt' : ¬ (k : Int) < (xs.length : Int) := by omega
      obtain rfl : k = xs.length := by omega
      have HF := Lib.hid hf
      clear hf
      go_wp2_with fail
      go_ret
      exact ⟨by rw [idxI_miss (fun j hj => hN.out j hj hj)]; rfl, hB⟩
theorem containsFunc_str (F : FuncId) (lb : Array Value) (eg : ∀ args w, (callFunc F args).run Try.prog w = .ok (.enter F args) w) (v : Value) (xs : List (ByteArray)) (p : ByteArray → Bool) (w : World) (hr : Rds w v xs) (hf : FnOk Try.prog F lb w xs p) :
    Calls Try.prog 100 #[v, .func (.func F) #[] lb] w fun e w' => e = .returned (.bool (xs.any p)) ∧ Below w.heap.size w w' := by
  rw [← idxI_any]
  have HC := Lib.hid (indexFunc_str F lb eg v xs p w hr hf)
  clear hf hr
  go_enter Try.func100, Try.ntmps100
  go_wp2_with (go_at_call 143; refine HC.out.mono ?_; rintro e w1 ⟨rfl, hb1⟩)
  go_ret
  exact ⟨rfl, hb1⟩

theorem indexFunc_cl (F : FuncId) (lb : Array Value) (eg : ∀ args w, (callFunc F args).run Try.prog w = .ok (.enter F args) w) (v : Value) (xs : List (LitD)) (p : LitD → Bool) (w : World) (hr : Rds w v xs) (hf : FnOk Try.prog F lb w xs p) :
    Calls Try.prog 126 #[v, .func (.func F) #[] lb] w fun e w' => e = .returned (.int .i64 (idxI p xs)) ∧ Below w.heap.size w w' := by
  obtain ⟨A, c, rfl, hsl⟩ := rdV_list hr
  have hlen : xs.length ≤ 9223372036854775807 := Nat.le_trans hsl.cap hsl.max
  clear hsl
  go_enter Try.func126, Try.ntmps126
  go_wp2_with fail
  go_loopg [5, 8] xs.length (fun gg s5 s8 wr => ∃ k : Nat, k ≤ xs.length ∧ xs.length - k ≤ gg ∧ s8 = .int .i64 k ∧ Below w.heap.size w wr ∧ Aside (∀ j (hj : j < k) (hl : j < xs.length), p xs[j] = false))
  case atStart => exact ⟨0, Nat.zero_le _, by omega, rfl, Below.refl _ _, fun j hj => absurd hj (Nat.not_lt_zero _)⟩
  case round =>
    obtain ⟨k, hk, hg, rfl, hB, hN⟩ := hrel
    by_cases hlt : k < xs.length
    · have hlt' : (k : Int) < (xs.length : Int) := by omega
      obtain ⟨b, o, rfl, hb, c0, c1, c2, q0, q1, q2⟩ := rdV_at_lit (hr.below hB) hlt
      have hcall := hf wr (.agg #[.int .i64 xs[k].var, .int .i64 xs[k].op, .int .i64 xs[k].n]) xs[k] (List.getElem_mem hlt) hB (⟨_, rfl, rfl, q0, q1, q2⟩)
      cases hq : p xs[k] with
      | true =>
        rw [hq] at hcall
        have HC := Lib.hid hcall
        have HQ := Lib.hid hq
        have HF := Lib.hid hf
        clear hcall hq hf
        go_wp2_with (go_at_fn F; refine HC.out.mono ?_; rintro e w1 ⟨rfl, hb1⟩)
        go_ret
        exact ⟨by rw [idxI_hit hlt (fun j hj => hN.out j hj (by omega)) HQ.out]; rfl, bstep hB hb1⟩
      | false =>
        rw [hq] at hcall
        have HC := Lib.hid hcall
        have HQ := Lib.hid hq
        have HF := Lib.hid hf
        clear hcall hq hf
        go_wp2_with (go_at_fn F; refine HC.out.mono ?_; rintro e w1 ⟨rfl, hb1⟩)
        go_roundg (xs.length - (k + 1))
        case measure => omega
        case rel =>
          refine ⟨k + 1, by omega, by omega, by go_num, bstep hB hb1, (show Aside _ from fun j hj hl => ?_)⟩
          by_cases e : j = k
          · subst e; exact HQ.out
          · exact hN.out j (by omega) hl
    · have hlt' : ¬ (k : Int) < (xs.length : Int) := by omega
      obtain rfl : k = xs.length := by omega
      have HF := Lib.hid hf
      clear hf
      go_wp2_with fail
      go_ret
      exact ⟨by rw [idxI_miss (fun j hj => hN.out j hj hj)]; rfl, hB⟩
theorem containsFunc_cl (F : FuncId) (lb : Array Value) (eg : ∀ args w, (callFunc F args).run Try.prog w = .ok (.enter F args) w) (v : Value) (xs : List (LitD)) (p : LitD → Bool) (w : World) (hr : Rds w v xs) (hf : FnOk Try.prog F lb w xs p) :
    Calls Try.prog 86 #[v, .func (.func F) #[] lb] w fun e w' => e = .returned (.bool (xs.any p)) ∧ Below w.heap.size w w' := by
  rw [← idxI_any]
  have HC := Lib.hid (indexFunc_cl F lb eg v xs p w hr hf)
  clear hf hr
  go_enter Try.func86, Try.ntmps86
  go_wp2_with (go_at_call 126; refine HC.out.mono ?_; rintro e w1 ⟨rfl, hb1⟩)
  go_ret
  exact ⟨rfl, hb1⟩

theorem indexFunc_lits (F : FuncId) (lb : Array Value) (eg : ∀ args w, (callFunc F args).run Try.prog w = .ok (.enter F args) w) (v : Value) (xs : List (LitD)) (p : LitD → Bool) (w : World) (hr : Rds w v xs) (hf : FnOk Try.prog F lb w xs p) :
    Calls Try.prog 166 #[v, .func (.func F) #[] lb] w fun e w' => e = .returned (.int .i64 (idxI p xs)) ∧ Below w.heap.size w w' := by
  obtain ⟨A, c, rfl, hsl⟩ := rdV_list hr
  have hlen : xs.length ≤ 9223372036854775807 := Nat.le_trans hsl.cap hsl.max
  clear hsl
  go_enter Try.func166, Try.ntmps166
  go_wp2_with fail
  go_loopg [5, 8] xs.length (fun gg s5 s8 wr => ∃ k : Nat, k ≤ xs.length ∧ xs.length - k ≤ gg ∧ s8 = .int .i64 k ∧ Below w.heap.size w wr ∧ Aside (∀ j (hj : j < k) (hl : j < xs.length), p xs[j] = false))
  case atStart => exact ⟨0, Nat.zero_le _, by omega, rfl, Below.refl _ _, fun j hj => absurd hj (Nat.not_lt_zero _)⟩
  case round =>
    obtain ⟨k, hk, hg, rfl, hB, hN⟩ := hrel
    by_cases hlt : k < xs.length
    · have hlt' : (k : Int) < (xs.length : Int) := by omega
      obtain ⟨b, o, rfl, hb, c0, c1, c2, q0, q1, q2⟩ := rdV_at_lit (hr.below hB) hlt
      have hcall := hf wr (.agg #[.int .i64 xs[k].var, .int .i64 xs[k].op, .int .i64 xs[k].n]) xs[k] (List.getElem_mem hlt) hB (⟨_, rfl, rfl, q0, q1, q2⟩)
      cases hq : p xs[k] with
      | true =>
        rw [hq] at hcall
        have HC := Lib.hid hcall
        have HQ := Lib.hid hq
        have HF := Lib.hid hf
        clear hcall hq hf
        go_wp2_with (go_at_fn F; refine HC.out.mono ?_; rintro e w1 ⟨rfl, hb1⟩)
        go_ret
        exact ⟨by rw [idxI_hit hlt (fun j hj => hN.out j hj (by omega)) HQ.out]; rfl, bstep hB hb1⟩
      | false =>
        rw [hq] at hcall
        have HC := Lib.hid hcall
        have HQ := Lib.hid hq
        have HF := Lib.hid hf
        clear hcall hq hf
        go_wp2_with (go_at_fn F; refine HC.out.mono ?_; rintro e w1 ⟨rfl, hb1⟩)
        go_roundg (xs.length - (k + 1))
        case measure => omega
        case rel =>
          refine ⟨k + 1, by omega, by omega, by go_num, bstep hB hb1, (show Aside _ from fun j hj hl => ?_)⟩
          by_cases e : j = k
          · subst e; exact HQ.out
          · exact hN.out j (by omega) hl
    · have hlt' : ¬ (k : Int) < (xs.length : Int) := by omega
      obtain rfl : k = xs.length := by omega
      have HF := Lib.hid hf
      clear hf
      go_wp2_with fail
      go_ret
      exact ⟨by rw [idxI_miss (fun j hj => hN.out j hj hj)]; rfl, hB⟩
theorem containsFunc_lits (F : FuncId) (lb : Array Value) (eg : ∀ args w, (callFunc F args).run Try.prog w = .ok (.enter F args) w) (v : Value) (xs : List (LitD)) (p : LitD → Bool) (w : World) (hr : Rds w v xs) (hf : FnOk Try.prog F lb w xs p) :
    Calls Try.prog 139 #[v, .func (.func F) #[] lb] w fun e w' => e = .returned (.bool (xs.any p)) ∧ Below w.heap.size w w' := by
  rw [← idxI_any]
  have HC := Lib.hid (indexFunc_lits F lb eg v xs p w hr hf)
  clear hf hr
  go_enter Try.func139, Try.ntmps139
  go_wp2_with (go_at_call 166; refine HC.out.mono ?_; rintro e w1 ⟨rfl, hb1⟩)
  go_ret
  exact ⟨rfl, hb1⟩

theorem indexFunc_store (F : FuncId) (lb : Array Value) (eg : ∀ args w, (callFunc F args).run Try.prog w = .ok (.enter F args) w) (v : Value) (xs : List (List Int)) (p : List Int → Bool) (w : World) (hr : Rds w v xs) (hf : FnOk Try.prog F lb w xs p) :
    Calls Try.prog 149 #[v, .func (.func F) #[] lb] w fun e w' => e = .returned (.int .i64 (idxI p xs)) ∧ Below w.heap.size w w' := by
  obtain ⟨A, c, rfl, hsl⟩ := rdV_list hr
  have hlen : xs.length ≤ 9223372036854775807 := Nat.le_trans hsl.cap hsl.max
  clear hsl
  go_enter Try.func149, Try.ntmps149
  go_wp2_with fail
  go_loopg [5, 8] xs.length (fun gg s5 s8 wr => ∃ k : Nat, k ≤ xs.length ∧ xs.length - k ≤ gg ∧ s8 = .int .i64 k ∧ Below w.heap.size w wr ∧ Aside (∀ j (hj : j < k) (hl : j < xs.length), p xs[j] = false))
  case atStart => exact ⟨0, Nat.zero_le _, by omega, rfl, Below.refl _ _, fun j hj => absurd hj (Nat.not_lt_zero _)⟩
  case round =>
    obtain ⟨k, hk, hg, rfl, hB, hN⟩ := hrel
    by_cases hlt : k < xs.length
    · have hlt' : (k : Int) < (xs.length : Int) := by omega
      obtain ⟨b, o, A', c', rfl, hb, c0, q0, q1⟩ := rdV_at_list (hr.below hB) hlt
      have hcall := hf wr (.slice A' xs[k].length c') xs[k] (List.getElem_mem hlt) hB (q0)
      cases hq : p xs[k] with
      | true =>
        rw [hq] at hcall
        have HC := Lib.hid hcall
        have HQ := Lib.hid hq
        have HF := Lib.hid hf
        clear hcall hq hf
        go_wp2_with (go_at_fn F; refine HC.out.mono ?_; rintro e w1 ⟨rfl, hb1⟩)
        go_ret
        exact ⟨by rw [idxI_hit hlt (fun j hj => hN.out j hj (by omega)) HQ.out]; rfl, bstep hB hb1⟩
      | false =>
        rw [hq] at hcall
        have HC := Lib.hid hcall
        have HQ := Lib.hid hq
        have HF := Lib.hid hf
        clear hcall hq hf
        go_wp2_with (go_at_fn F; refine HC.out.mono ?_; rintro e w1 ⟨rfl, hb1⟩)
        go_roundg (xs.length - (k + 1))
        case measure => omega
        case rel =>
          refine ⟨k + 1, by omega, by omega, by go_num, bstep hB hb1, (show Aside _ from fun j hj hl => ?_)⟩
          by_cases e : j = k
          · subst e; exact HQ.out
          · exact hN.out j (by omega) hl
    · have hlt' : ¬ (k : Int) < (xs.length : Int) := by omega
      obtain rfl : k = xs.length := by omega
      have HF := Lib.hid hf
      clear hf
      go_wp2_with fail
      go_ret
      exact ⟨by rw [idxI_miss (fun j hj => hN.out j hj hj)]; rfl, hB⟩
theorem containsFunc_store (F : FuncId) (lb : Array Value) (eg : ∀ args w, (callFunc F args).run Try.prog w = .ok (.enter F args) w) (v : Value) (xs : List (List Int)) (p : List Int → Bool) (w : World) (hr : Rds w v xs) (hf : FnOk Try.prog F lb w xs p) :
    Calls Try.prog 113 #[v, .func (.func F) #[] lb] w fun e w' => e = .returned (.bool (xs.any p)) ∧ Below w.heap.size w w' := by
  rw [← idxI_any]
  have HC := Lib.hid (indexFunc_store F lb eg v xs p w hr hf)
  clear hf hr
  go_enter Try.func113, Try.ntmps113
  go_wp2_with (go_at_call 149; refine HC.out.mono ?_; rintro e w1 ⟨rfl, hb1⟩)
  go_ret
  exact ⟨rfl, hb1⟩

theorem indexFunc_ints (F : FuncId) (lb : Array Value) (eg : ∀ args w, (callFunc F args).run Try.prog w = .ok (.enter F args) w) (v : Value) (xs : List (Int)) (p : Int → Bool) (w : World) (hr : Rds w v xs) (hf : FnOk Try.prog F lb w xs p) :
    Calls Try.prog 112 #[v, .func (.func F) #[] lb] w fun e w' => e = .returned (.int .i64 (idxI p xs)) ∧ Below w.heap.size w w' := by
  obtain ⟨A, c, rfl, hsl⟩ := rdV_list hr
  have hlen : xs.length ≤ 9223372036854775807 := Nat.le_trans hsl.cap hsl.max
  clear hsl
  go_enter Try.func112, Try.ntmps112
  go_wp2_with fail
  go_loopg [5, 8] xs.length (fun gg s5 s8 wr => ∃ k : Nat, k ≤ xs.length ∧ xs.length - k ≤ gg ∧ s8 = .int .i64 k ∧ Below w.heap.size w wr ∧ Aside (∀ j (hj : j < k) (hl : j < xs.length), p xs[j] = false))
  case atStart => exact ⟨0, Nat.zero_le _, by omega, rfl, Below.refl _ _, fun j hj => absurd hj (Nat.not_lt_zero _)⟩
  case round =>
    obtain ⟨k, hk, hg, rfl, hB, hN⟩ := hrel
    by_cases hlt : k < xs.length
    · have hlt' : (k : Int) < (xs.length : Int) := by omega
      obtain ⟨b, o, rfl, hb, c0, q0⟩ := rdV_at_int (hr.below hB) hlt
      have hcall := hf wr (.int .i64 xs[k]) xs[k] (List.getElem_mem hlt) hB (rdV_int_mk q0)
      cases hq : p xs[k] with
      | true =>
        rw [hq] at hcall
        have HC := Lib.hid hcall
        have HQ := Lib.hid hq
        have HF := Lib.hid hf
        clear hcall hq hf
        go_wp2_with (go_at_fn F; refine HC.out.mono ?_; rintro e w1 ⟨rfl, hb1⟩)
        go_ret
        exact ⟨by rw [idxI_hit hlt (fun j hj => hN.out j hj (by omega)) HQ.out]; rfl, bstep hB hb1⟩
      | false =>
        rw [hq] at hcall
        have HC := Lib.hid hcall
        have HQ := Lib.hid hq
        have HF := Lib.hid hf
        clear hcall hq hf
        go_wp2_with (go_at_fn F; refine HC.out.mono ?_; rintro e w1 ⟨rfl, hb1⟩)
        go_roundg (xs.length - (k + 1))
        case measure => omega
        case rel =>
          refine ⟨k + 1, by omega, by omega, by go_num, bstep hB hb1, (show Aside _ from fun j hj hl => ?_)⟩
          by_cases e : j = k
          · subst e; exact HQ.out
          · exact hN.out j (by omega) hl
    · have hlt' : ¬ (k : Int) < (xs.length : Int) := by omega
      obtain rfl : k = xs.length := by omega
      have HF := Lib.hid hf
      clear hf
      go_wp2_with fail
      go_ret
      exact ⟨by rw [idxI_miss (fun j hj => hN.out j hj hj)]; rfl, hB⟩
theorem containsFunc_ints (F : FuncId) (lb : Array Value) (eg : ∀ args w, (callFunc F args).run Try.prog w = .ok (.enter F args) w) (v : Value) (xs : List (Int)) (p : Int → Bool) (w : World) (hr : Rds w v xs) (hf : FnOk Try.prog F lb w xs p) :
    Calls Try.prog 65 #[v, .func (.func F) #[] lb] w fun e w' => e = .returned (.bool (xs.any p)) ∧ Below w.heap.size w w' := by
  rw [← idxI_any]
  have HC := Lib.hid (indexFunc_ints F lb eg v xs p w hr hf)
  clear hf hr
  go_enter Try.func65, Try.ntmps65
  go_wp2_with (go_at_call 112; refine HC.out.mono ?_; rintro e w1 ⟨rfl, hb1⟩)
  go_ret
  exact ⟨rfl, hb1⟩

theorem indexFunc_vars (F : FuncId) (lb : Array Value) (eg : ∀ args w, (callFunc F args).run Try.prog w = .ok (.enter F args) w) (v : Value) (xs : List (VarD)) (p : VarD → Bool) (w : World) (hr : Rds w v xs) (hf : FnOk Try.prog F lb w xs p) :
    Calls Try.prog 162 #[v, .func (.func F) #[] lb] w fun e w' => e = .returned (.int .i64 (idxI p xs)) ∧ Below w.heap.size w w' := by
  obtain ⟨A, c, rfl, hsl⟩ := rdV_list hr
  have hlen : xs.length ≤ 9223372036854775807 := Nat.le_trans hsl.cap hsl.max
  clear hsl
  go_enter Try.func162, Try.ntmps162
  go_wp2_with fail
  go_loopg [5, 8] xs.length (fun gg s5 s8 wr => ∃ k : Nat, k ≤ xs.length ∧ xs.length - k ≤ gg ∧ s8 = .int .i64 k ∧ Below w.heap.size w wr ∧ Aside (∀ j (hj : j < k) (hl : j < xs.length), p xs[j] = false))
  case atStart => exact ⟨0, Nat.zero_le _, by omega, rfl, Below.refl _ _, fun j hj => absurd hj (Nat.not_lt_zero _)⟩
  case round =>
    obtain ⟨k, hk, hg, rfl, hB, hN⟩ := hrel
    by_cases hlt : k < xs.length
    · have hlt' : (k : Int) < (xs.length : Int) := by omega
      obtain ⟨b, o, rfl, hb, c0, c1, c2, q0, q1, q2⟩ := rdV_at_var (hr.below hB) hlt
      have hcall := hf wr (.agg #[.string xs[k].name, .int .i64 xs[k].lo, .int .i64 xs[k].hi]) xs[k] (List.getElem_mem hlt) hB (⟨_, rfl, rfl, q0, q1, q2⟩)
      cases hq : p xs[k] with
      | true =>
        rw [hq] at hcall
        have HC := Lib.hid hcall
        have HQ := Lib.hid hq
        have HF := Lib.hid hf
        clear hcall hq hf
        go_wp2_with (go_at_fn F; refine HC.out.mono ?_; rintro e w1 ⟨rfl, hb1⟩)
        go_ret
        exact ⟨by rw [idxI_hit hlt (fun j hj => hN.out j hj (by omega)) HQ.out]; rfl, bstep hB hb1⟩
      | false =>
        rw [hq] at hcall
        have HC := Lib.hid hcall
        have HQ := Lib.hid hq
        have HF := Lib.hid hf
        clear hcall hq hf
        go_wp2_with (go_at_fn F; refine HC.out.mono ?_; rintro e w1 ⟨rfl, hb1⟩)
        go_roundg (xs.length - (k + 1))
        case measure => omega
        case rel =>
          refine ⟨k + 1, by omega, by omega, by go_num, bstep hB hb1, (show Aside _ from fun j hj hl => ?_)⟩
          by_cases e : j = k
          · subst e; exact HQ.out
          · exact hN.out j (by omega) hl
    · have hlt' : ¬ (k : Int) < (xs.length : Int) := by omega
      obtain rfl : k = xs.length := by omega
      have HF := Lib.hid hf
      clear hf
      go_wp2_with fail
      go_ret
      exact ⟨by rw [idxI_miss (fun j hj => hN.out j hj hj)]; rfl, hB⟩
theorem containsFunc_vars (F : FuncId) (lb : Array Value) (eg : ∀ args w, (callFunc F args).run Try.prog w = .ok (.enter F args) w) (v : Value) (xs : List (VarD)) (p : VarD → Bool) (w : World) (hr : Rds w v xs) (hf : FnOk Try.prog F lb w xs p) :
    Calls Try.prog 134 #[v, .func (.func F) #[] lb] w fun e w' => e = .returned (.bool (xs.any p)) ∧ Below w.heap.size w w' := by
  rw [← idxI_any]
  have HC := Lib.hid (indexFunc_vars F lb eg v xs p w hr hf)
  clear hf hr
  go_enter Try.func134, Try.ntmps134
  go_wp2_with (go_at_call 162; refine HC.out.mono ?_; rintro e w1 ⟨rfl, hb1⟩)
  go_ret
  exact ⟨rfl, hb1⟩

theorem indexFunc_rows (F : FuncId) (lb : Array Value) (eg : ∀ args w, (callFunc F args).run Try.prog w = .ok (.enter F args) w) (v : Value) (xs : List (List Int)) (p : List Int → Bool) (w : World) (hr : Rds w v xs) (hf : FnOk Try.prog F lb w xs p) :
    Calls Try.prog 167 #[v, .func (.func F) #[] lb] w fun e w' => e = .returned (.int .i64 (idxI p xs)) ∧ Below w.heap.size w w' := by
  obtain ⟨A, c, rfl, hsl⟩ := rdV_list hr
  have hlen : xs.length ≤ 9223372036854775807 := Nat.le_trans hsl.cap hsl.max
  clear hsl
  go_enter Try.func167, Try.ntmps167
  go_wp2_with fail
  go_loopg [5, 8] xs.length (fun gg s5 s8 wr => ∃ k : Nat, k ≤ xs.length ∧ xs.length - k ≤ gg ∧ s8 = .int .i64 k ∧ Below w.heap.size w wr ∧ Aside (∀ j (hj : j < k) (hl : j < xs.length), p xs[j] = false))
  case atStart => exact ⟨0, Nat.zero_le _, by omega, rfl, Below.refl _ _, fun j hj => absurd hj (Nat.not_lt_zero _)⟩
  case round =>
    obtain ⟨k, hk, hg, rfl, hB, hN⟩ := hrel
    by_cases hlt : k < xs.length
    · have hlt' : (k : Int) < (xs.length : Int) := by omega
      obtain ⟨b, o, A', c', rfl, hb, c0, q0, q1⟩ := rdV_at_list (hr.below hB) hlt
      have hcall := hf wr (.slice A' xs[k].length c') xs[k] (List.getElem_mem hlt) hB (q0)
      cases hq : p xs[k] with
      | true =>
        rw [hq] at hcall
        have HC := Lib.hid hcall
        have HQ := Lib.hid hq
        have HF := Lib.hid hf
        clear hcall hq hf
        go_wp2_with (go_at_fn F; refine HC.out.mono ?_; rintro e w1 ⟨rfl, hb1⟩)
        go_ret
        exact ⟨by rw [idxI_hit hlt (fun j hj => hN.out j hj (by omega)) HQ.out]; rfl, bstep hB hb1⟩
      | false =>
        rw [hq] at hcall
        have HC := Lib.hid hcall
        have HQ := Lib.hid hq
        have HF := Lib.hid hf
        clear hcall hq hf
        go_wp2_with (go_at_fn F; refine HC.out.mono ?_; rintro e w1 ⟨rfl, hb1⟩)
        go_roundg (xs.length - (k + 1))
        case measure => omega
        case rel =>
          refine ⟨k + 1, by omega, by omega, by go_num, bstep hB hb1, (show Aside _ from fun j hj hl => ?_)⟩
          by_cases e : j = k
          · subst e; exact HQ.out
          · exact hN.out j (by omega) hl
    · have hlt' : ¬ (k : Int) < (xs.length : Int) := by omega
      obtain rfl : k = xs.length := by omega
      have HF := Lib.hid hf
      clear hf
      go_wp2_with fail
      go_ret
      exact ⟨by rw [idxI_miss (fun j hj => hN.out j hj hj)]; rfl, hB⟩
theorem containsFunc_rows (F : FuncId) (lb : Array Value) (eg : ∀ args w, (callFunc F args).run Try.prog w = .ok (.enter F args) w) (v : Value) (xs : List (List Int)) (p : List Int → Bool) (w : World) (hr : Rds w v xs) (hf : FnOk Try.prog F lb w xs p) :
    Calls Try.prog 141 #[v, .func (.func F) #[] lb] w fun e w' => e = .returned (.bool (xs.any p)) ∧ Below w.heap.size w w' := by
  rw [← idxI_any]
  have HC := Lib.hid (indexFunc_rows F lb eg v xs p w hr hf)
  clear hf hr
  go_enter Try.func141, Try.ntmps141
  go_wp2_with (go_at_call 167; refine HC.out.mono ?_; rintro e w1 ⟨rfl, hb1⟩)
  go_ret
  exact ⟨rfl, hb1⟩

theorem indexFunc_cons (F : FuncId) (lb : Array Value) (eg : ∀ args w, (callFunc F args).run Try.prog w = .ok (.enter F args) w) (v : Value) (xs : List (ConD)) (p : ConD → Bool) (w : World) (hr : Rds w v xs) (hf : FnOk Try.prog F lb w xs p) :
    Calls Try.prog 182 #[v, .func (.func F) #[] lb] w fun e w' => e = .returned (.int .i64 (idxI p xs)) ∧ Below w.heap.size w w' := by
  obtain ⟨A, c, rfl, hsl⟩ := rdV_list hr
  have hlen : xs.length ≤ 9223372036854775807 := Nat.le_trans hsl.cap hsl.max
  clear hsl
  go_enter Try.func182, Try.ntmps182
  go_wp2_with fail
  go_loopg [5, 8] xs.length (fun gg s5 s8 wr => ∃ k : Nat, k ≤ xs.length ∧ xs.length - k ≤ gg ∧ s8 = .int .i64 k ∧ Below w.heap.size w wr ∧ Aside (∀ j (hj : j < k) (hl : j < xs.length), p xs[j] = false))
  case atStart => exact ⟨0, Nat.zero_le _, by omega, rfl, Below.refl _ _, fun j hj => absurd hj (Nat.not_lt_zero _)⟩
  case round =>
    obtain ⟨k, hk, hg, rfl, hB, hN⟩ := hrel
    by_cases hlt : k < xs.length
    · have hlt' : (k : Int) < (xs.length : Int) := by omega
      obtain ⟨b, o, A1, d1, A2, d2, A3, d3, A4, d4, rfl, hb, c0, c1, c2, c3, c4, c5, q0⟩ := rdV_at_con (hr.below hB) hlt
      have hcall := hf wr (.agg #[.int .i64 xs[k].kind, .slice A1 xs[k].vars.length d1, .slice A2 xs[k].consts.length d2, .int .i64 xs[k].n, .slice A3 xs[k].rows.length d3, .slice A4 xs[k].lits.length d4]) xs[k] (List.getElem_mem hlt) hB (q0)
      cases hq : p xs[k] with
      | true =>
        rw [hq] at hcall
        have HC := Lib.hid hcall
        have HQ := Lib.hid hq
        have HF := Lib.hid hf
        clear hcall hq hf
        go_wp2_with (go_at_fn F; refine HC.out.mono ?_; rintro e w1 ⟨rfl, hb1⟩)
        go_ret
        exact ⟨by rw [idxI_hit hlt (fun j hj => hN.out j hj (by omega)) HQ.out]; rfl, bstep hB hb1⟩
      | false =>
        rw [hq] at hcall
        have HC := Lib.hid hcall
        have HQ := Lib.hid hq
        have HF := Lib.hid hf
        clear hcall hq hf
        go_wp2_with (go_at_fn F; refine HC.out.mono ?_; rintro e w1 ⟨rfl, hb1⟩)
        go_roundg (xs.length - (k + 1))
        case measure => omega
        case rel =>
          refine ⟨k + 1, by omega, by omega, by go_num, bstep hB hb1, (show Aside _ from fun j hj hl => ?_)⟩
          by_cases e : j = k
          · subst e; exact HQ.out
          · exact hN.out j (by omega) hl
    · have hlt' : ¬ (k : Int) < (xs.length : Int) := by omega
      obtain rfl : k = xs.length := by omega
      have HF := Lib.hid hf
      clear hf
      go_wp2_with fail
      go_ret
      exact ⟨by rw [idxI_miss (fun j hj => hN.out j hj hj)]; rfl, hB⟩
theorem containsFunc_cons (F : FuncId) (lb : Array Value) (eg : ∀ args w, (callFunc F args).run Try.prog w = .ok (.enter F args) w) (v : Value) (xs : List (ConD)) (p : ConD → Bool) (w : World) (hr : Rds w v xs) (hf : FnOk Try.prog F lb w xs p) :
    Calls Try.prog 157 #[v, .func (.func F) #[] lb] w fun e w' => e = .returned (.bool (xs.any p)) ∧ Below w.heap.size w w' := by
  rw [← idxI_any]
  have HC := Lib.hid (indexFunc_cons F lb eg v xs p w hr hf)
  clear hf hr
  go_enter Try.func157, Try.ntmps157
  go_wp2_with (go_at_call 182; refine HC.out.mono ?_; rintro e w1 ⟨rfl, hb1⟩)
  go_ret
  exact ⟨rfl, hb1⟩
end Go.Proofs.Ytonkbljpcgadlaa
