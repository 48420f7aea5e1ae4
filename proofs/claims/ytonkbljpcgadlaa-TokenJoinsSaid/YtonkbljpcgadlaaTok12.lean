/- The walk of Join. -/
import Derived.Test.YtonkbljpcgadlaaTok11
namespace Go.Proofs.Ytonkbljpcgadlaa
open Go.RowKit
set_option linter.unusedVariables false

theorem row_str : RowInfo Try.prog 91 9 1 16 := RowInfo.mk' Try.underlying91 (z := .string ⟨#[]⟩) (by kernel_rfl) rfl

theorem tokOk_size {t : Tok} (h : tokOk t = true) : 1 ≤ t.text.size ∧ t.text.size ≤ 4000 := by
  unfold tokOk at h
  have hl := data_len t.text
  cases hd : t.text.data.toList with
  | nil => rw [hd] at h; cases h
  | cons c r =>
    rw [hd] at h hl
    simp only [isTok, Bool.and_eq_true, decide_eq_true_eq] at h
    simp at hl
    have := h.1.1.1
    simp at this
    omega
theorem joinLen_snoc (l : List Tok) (t : Tok) : joinLen (l ++ [t]) = joinLen l + (1 + t.text.size) := by simp [joinLen]
theorem joinLen_take (l : List Tok) (k : Nat) (h : k < l.length) : joinLen (l.take (k + 1)) = joinLen (l.take k) + (1 + l[k].text.size) := by
  rw [List.take_succ_eq_append_getElem h, joinLen_snoc]
theorem joinLen_le : ∀ (l : List Tok), (∀ t ∈ l, tokOk t = true) → l.length ≤ joinLen l ∧ joinLen l ≤ 4001 * l.length
  | [], _ => by simp [joinLen]
  | t :: l, h => by
    have ih := joinLen_le l (fun x hx => h x (by simp [hx]))
    have := tokOk_size (h t (by simp))
    simp only [joinLen, List.map_cons, List.sum_cons, List.length_cons] at ih ⊢
    omega
theorem joinL_len : ∀ (l : List Tok), l ≠ [] → (joinL l).length + 1 = joinLen l
  | [], h => absurd rfl h
  | [t], _ => by simp [joinL, joinLen, List.intercalate]; omega
  | t :: u :: l, _ => by
    have ih := joinL_len (u :: l) (by simp)
    have e : joinL (t :: u :: l) = t.text.data.toList ++ [32] ++ joinL (u :: l) := by simp [joinL, List.intercalate]
    rw [e]
    simp only [joinLen, List.map_cons, List.sum_cons] at ih ⊢
    simp at ih ⊢; omega

theorem rdV_cells_str {w : World} {S : Nat → Prop} {A : Option Addr} {n c : Nat} {xs : List ByteArray} (h : RdV w S (.slice A n c) xs) (hn : 0 < xs.length) :
    ∃ b o, A = some ⟨b, o, none⟩ ∧ S b ∧ ∀ j x, xs[j]? = some x → w.cell? ⟨b, o + j, none⟩ = some (.string x) := by
  obtain ⟨b, o, rfl, hb, _⟩ := rdV_at_str h hn
  refine ⟨b, o, rfl, hb, fun j x hx => ?_⟩
  obtain ⟨hj, rfl⟩ := List.getElem?_eq_some_iff.1 hx
  obtain ⟨b', o', e, _, hc, _⟩ := rdV_at_str h hj
  injection e with e; injection e with e1 e2
  subst e1 e2; exact hc
theorem lt_of_cell {w : World} {g i : Nat} {u : Value} (h : w.cell? ⟨g, i, none⟩ = some u) : g < w.heap.size := World.block_lt_of_cell? (a := ⟨g, i, none⟩) _ h
theorem own_ne {α : Type} [Rep α] {w : World} {lo base : Nat} {E : TypeId} {v : Value} {xs : List α} (h : Own w lo base E v xs) : some w.heap.size ≠ v.ownBlock := by
  intro e
  have := (h.lt e.symm).2
  omega

set_option maxHeartbeats 1000000 in
theorem join_any (v : Value) (l : List Tok) (w : World) (hr : Rds w v l) : Calls Try.prog 17 #[v] w fun e w' => e = .returned (.tuple #[.string (joinS l).1, .int .i64 (joinS l).2]) ∧ Below w.heap.size w w' := by
  obtain ⟨A, c, rfl, hsl⟩ := rdV_list hr
  have hlen : l.length ≤ 4398046511104 := by have := hsl.bytes; simp only [Rep.bytes] at this; omega
  clear hsl
  go_enter Try.func17, Try.ntmps17
  go_wp2_with fail
  go_loopg [4, 5, 10] l.length (fun gg vo vn vk wr => ∃ k : Nat, k ≤ l.length ∧ l.length - k ≤ gg ∧ vk = .int .i64 k ∧ vn = .int .i64 (joinLen (l.take k)) ∧ Hid (Own wr w.heap.size w.heap.size 9 vo ((l.take k).map (·.text))) ∧ Hid (∀ t ∈ l.take k, tokOk t = true) ∧ Below w.heap.size w wr)
  case atStart => exact ⟨0, Nat.zero_le _, by omega, rfl, by simp [joinLen], (show Own _ _ _ _ _ (List.map _ (List.take 0 l)) from Own.nil _ _ (Nat.le_refl _)), (fun t ht => by simp at ht), Below.refl _ _⟩
  case round =>
    obtain ⟨k, hk, hg, rfl, rfl, HO, HT, hB⟩ := hrel
    have hjl := (joinLen_le _ HT.out).2
    have hsz := hB.size
    rw [List.length_take] at hjl
    by_cases hlt : k < l.length
    · have hlt' : (k : Int) < (l.length : Int) := by omega
      obtain ⟨b, o, rfl, _, c0, c1, c2, q⟩ := rdV_at_tok (hr.below hB) hlt
      have hjs := joinLen_take l k hlt
      have hts := List.take_succ_eq_append_getElem hlt
      have HR := Lib.hid hr
      clear hr
      have nok : Hid (tokOk l[k] = false → joinS l = (bs [], 1)) := fun h => by
        unfold joinS; rw [if_neg]; intro h'; rw [List.all_eq_true] at h'; rw [h' _ (List.getElem_mem hlt)] at h; cases h
      have yok : Hid (tokOk l[k] = true → ∀ t ∈ l.take (k + 1), tokOk t = true) := fun h t ht => by
        rw [hts] at ht
        rcases List.mem_append.1 ht with h' | h'
        · exact HT.out t h'
        · simp at h'; rw [h']; exact h
      have hmap : Hid ((l.take (k + 1)).map (·.text) = (l.take k).map (·.text) ++ [l[k].text]) := by show _ = _; rw [hts, List.map_append]; rfl
      generalize hx : l[k] = x at *
      have hsx : tokOk x = true → x.text.size ≤ 4000 := fun h => (tokOk_size h).2
      have hlk : ((l.take k).map (·.text)).length = k := by simp; omega
      have HJS := Lib.hid hjs
      have HLK := Lib.hid hlk
      clear hts hjs hx hlk
      have hcall := fun W => one_any x.kind x.text W
      rw [show isTok x.kind x.text.data.toList = tokOk x from rfl] at hcall
      cases ht : tokOk x with
      | false =>
        rw [ht] at hcall
        have HC := Lib.hid hcall
        have HTT := Lib.hid ht
        clear hcall ht hsx
        go_wp2_with (go_at_call 57; refine (HC.out _).mono ?_; rintro e w1 ⟨rfl, hb1⟩)
        go_ret2
        exact ⟨by rw [nok.out HTT.out]; rfl, bstep (hB.alloc (by omega) _) hb1⟩
      | true =>
        rw [ht] at hcall
        have hs4 := hsx ht
        have HC := Lib.hid hcall
        have HTT := Lib.hid ht
        clear hcall ht hsx
        go_wp2_with (first
          | (go_at_call 57
             refine (HC.out _).mono ?_
             rintro e w1 ⟨rfl, hb1⟩
             have bt : Blk w1 wr.heap.size 34 _ := Blk.below (Blk.new' _ _ rfl) hb1 (by simp)
             have t2 : w1.cell? ⟨wr.heap.size, 2, none⟩ = some (.string x.text) := bt.cell 2
             have HO1 := Lib.hid ((HO.out.alloc _).below hb1)
             have HB1 := Lib.hid (bstep (hB.alloc (by omega) _) hb1)
             have hsz1 := HB1.out.size
             clear bt hb1)
          | (at_builtin
             refine wpList_append_one (α := ByteArray) rfl _ _ rfl row_str rfl HO1.out rfl (by first | rfl | simp) (y := x.text) ⟨rfl, by omega⟩ (by rw [HLK.out]; simp only [Rep.bytes]; omega) (by rw [HLK.out]; omega) (by omega) ?_
             rintro v' w3 hown3 hg3 hb3
             have HO3 := Lib.hid hown3
             have HB3 := Lib.hid (HB1.out.trans hb3)
             have t3 : w3.cell? ⟨wr.heap.size, 2, none⟩ = some (.string x.text) := (World.cell?_of_block (hg3.block wr.heap.size (lt_of_cell t2) (own_ne HO.out))).trans t2
             clear hown3 hg3 hb3))
        rw [← hmap.out] at HO3
        go_roundg (l.length - (k + 1))
        case measure => omega
        case rel => exact ⟨k + 1, hlt, Nat.le_refl _, (by go_num), (by rw [HJS.out]; go_num), HO3, yok.out HTT.out, HB3.out⟩
    · have hlt' : ¬ (k : Int) < (l.length : Int) := by omega
      obtain rfl : k = l.length := by omega
      rw [List.take_length] at HO HT
      have hjn : joinLen (l.take l.length) = joinLen l := by rw [List.take_length]
      have hjl' := (joinLen_le _ HT.out)
      have hall : l.all tokOk = true := List.all_eq_true.2 HT.out
      have HJ := Lib.hid hjn
      have HR := Lib.hid hr
      clear hr hjn hjl
      rw [HJ.out]
      obtain ⟨jn, hjn⟩ : ∃ jn, jn = joinLen l := ⟨_, rfl⟩
      rw [← hjn] at hjl' ⊢
      have HJN := Lib.hid hjn
      clear hjn
      by_cases hbig : 4001 < jn
      · have hbig' : (4001 : Int) < (jn : Int) := by omega
        have hres : joinS l = (bs [], 2) := by unfold joinS; rw [if_pos hall, if_pos (by rw [← HJN.out]; exact hbig)]
        have HRES := Lib.hid hres
        clear hall hres
        go_wp2_with fail
        go_ret2
        exact ⟨by rw [HRES.out]; rfl, hB⟩
      · have hbig' : ¬ (4001 : Int) < (jn : Int) := by omega
        have hres : joinS l = (bs (joinL l), 0) := by unfold joinS; rw [if_pos hall, if_neg (by rw [← HJN.out]; omega)]
        have HRES := Lib.hid hres
        have hcall : ∀ vo, Own wr w.heap.size w.heap.size 9 vo (l.map (·.text)) → Calls Try.prog 58 #[vo, .string ⟨#[32]⟩] wr fun e w' => e = .returned (.string (bs (joinL l))) ∧ Below wr.heap.size wr w' := by
          intro vo hO
          obtain ⟨A', c', rfl⟩ := hO.shape
          by_cases hl0 : l = []
          · subst hl0
            refine (Try.strings_Join_none A' c' _ wr).mono ?_
            rintro e w' ⟨rfl, rfl⟩
            exact ⟨rfl, Below.refl _ _⟩
          · have hpos : 0 < (l.map (·.text)).length := by simpa using List.length_pos_iff.2 hl0
            obtain ⟨b, o, rfl, hb, hc⟩ := rdV_cells_str hO.rdV hpos
            obtain ⟨_, _, hv, hsl⟩ := rdV_list hO.rdV
            have e : Lib.join ((l.map (·.text)).map fun x => x.data.toList) (⟨#[32]⟩ : ByteArray).data.toList = joinL l := by simp [Lib.join, joinL, List.map_map, Function.comp_def]
            have h1 : (l.map (·.text)).length ≤ 140737488355328 := by rw [List.length_map]; omega
            have h2 : (l.map (·.text)).length ≤ c' := by injection hv with _ _ hv; rw [hv]; exact hsl.cap
            have h3 : (Lib.join ((l.map (·.text)).map fun x => x.data.toList) (⟨#[32]⟩ : ByteArray).data.toList).length ≤ 140737488355328 := by
              have := joinL_len l hl0
              rw [← HJN.out] at this
              rw [e]; omega
            have h4 := Try.strings_Join b o c' (l.map (·.text)) ⟨#[32]⟩ wr hc hb.2 h1 h2 h3
            rw [e] at h4
            exact h4
        have HC := Lib.hid hcall
        clear hall hres hcall
        go_wp2_with (go_at_call 58; refine (HC.out _ HO.out).mono ?_; rintro e w1 ⟨rfl, hb1⟩)
        go_ret2
        exact ⟨by rw [HRES.out]; rfl, bstep hB hb1⟩
end Go.Proofs.Ytonkbljpcgadlaa
