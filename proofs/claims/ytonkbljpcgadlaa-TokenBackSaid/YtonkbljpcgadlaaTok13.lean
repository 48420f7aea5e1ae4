/- The walk of the document's JoinOf. -/
import Derived.Test.YtonkbljpcgadlaaTok12
namespace Go.Proofs.Ytonkbljpcgadlaa
open Go.RowKit
set_option linter.unusedVariables false

theorem joinL_snoc (l : List Tok) (t : Tok) : joinL (l ++ [t]) = if l = [] then t.text.data.toList else joinL l ++ ([32] ++ t.text.data.toList) := by
  induction l with
  | nil => simp [joinL, List.intercalate]
  | cons a l ih =>
    rw [if_neg (by simp)]
    cases l with
    | nil => simp [joinL, List.intercalate]
    | cons b l =>
      rw [if_neg (by simp)] at ih
      have e : ∀ (x : Tok) (y : Tok) (r : List Tok), joinL (x :: y :: r) = x.text.data.toList ++ [32] ++ joinL (y :: r) := fun x y r => by simp [joinL, List.intercalate]
      simp only [List.cons_append] at ih ⊢
      rw [e, ih, e]; simp

theorem take_nil {α : Type} {l : List α} {k : Nat} (h : k < l.length) : l.take k = [] ↔ k = 0 := by
  rw [List.take_eq_nil_iff]
  constructor
  · rintro (h' | h')
    · exact h'
    · subst h'; simp at h
  · intro h'; exact .inl h'
theorem bs_append (a b : List UInt8) : bs a ++ bs b = bs (a ++ b) := by
  apply ByteArray.ext
  rw [ByteArray.data_append]
  simp [bs]
theorem bs_text (s : ByteArray) : bs s.data.toList = s := by cases s; rfl
theorem bs_nil (s : ByteArray) : bs [] ++ s = s := by
  apply ByteArray.ext
  rw [ByteArray.data_append]
  simp [bs]

set_option maxHeartbeats 1000000 in
theorem ref_join_any (v : Value) (l : List Tok) (w : World) (hr : Rds w v l) : Calls Try.prog 18 #[v] w fun e w' => e = .returned (.tuple #[.string (joinS l).1, .int .i64 (joinS l).2]) ∧ ∃ q, w' = w.drewN q := by
  obtain ⟨A, c, rfl, hsl⟩ := rdV_list hr
  have hlen : l.length ≤ 4398046511104 := by have := hsl.bytes; simp only [Rep.bytes] at this; omega
  clear hsl
  go_enter Try.func18, Try.ntmps18
  go_wp2_with fail
  go_loopg [4, 5, 6] l.length (fun gg vs vn vk wr => ∃ (k : Nat) (s : ByteArray), k ≤ l.length ∧ l.length - k ≤ gg ∧ vk = .int .i64 k ∧ vn = .int .i64 ((joinLen (l.take k) : Int) - 1) ∧ vs = .string s ∧ s.size ≤ 4000 ∧ Hid (joinLen (l.take k) ≤ 4001 → s = bs (joinL (l.take k))) ∧ Hid (∀ t ∈ l.take k, tokOk t = true) ∧ ∃ q, wr = w.drewN q)
  case atStart => exact ⟨0, ⟨#[]⟩, Nat.zero_le _, by omega, rfl, by simp [joinLen], rfl, by decide, fun _ => rfl, (fun t ht => by simp at ht), 0, rfl⟩
  case round =>
    obtain ⟨k, s, hk, hg, rfl, rfl, rfl, hs, HS, HT, q, rfl⟩ := hrel
    have hjl := (joinLen_le _ HT.out)
    rw [List.length_take] at hjl
    by_cases hlt : k < l.length
    · have hlt' : (k : Int) < (l.length : Int) := by omega
      obtain ⟨b, o, rfl, _, c0, c1, c2, qq⟩ := rdV_at_tok hr hlt
      have hjs := joinLen_take l k hlt
      have hts := List.take_succ_eq_append_getElem hlt
      have HR := Lib.hid hr
      clear hr
      have nok : Hid (tokOk l[k] = false → joinS l = (bs [], 1)) := fun h => by
        unfold joinS; rw [if_neg]; intro h'; rw [List.all_eq_true] at h'; rw [h' _ (List.getElem_mem hlt)] at h; cases h
      have yok : Hid (tokOk l[k] = true → ∀ t ∈ l.take (k + 1), tokOk t = true) := fun h t ht => by
        rw [hts] at ht
        rcases List.mem_append.1 ht with h' | h'
        · exact HT.out t h'
        · simp at h'; rw [h']; exact h
      have hsn : Hid (joinL (l.take (k + 1)) = if k = 0 then l[k].text.data.toList else joinL (l.take k) ++ ([32] ++ l[k].text.data.toList)) := by
        show _ = _
        rw [hts, joinL_snoc]
        have : l.take k = [] ↔ k = 0 := take_nil hlt
        simp only [this]
      generalize hx : l[k] = x at *
      have hsx : tokOk x = true → x.text.size ≤ 4000 := fun h => (tokOk_size h).2
      obtain ⟨jn, hjn⟩ : ∃ jn, jn = joinLen (l.take k) := ⟨_, rfl⟩
      have HJE := Lib.hid hjn
      rw [← hjn] at hjs hjl HS ⊢
      have HJS := Lib.hid hjs
      have hxz : x.text.size ≤ 140737488355328 := qq.2.2
      clear hts hjs hx hjn qq
      have hcall := fun W => isToken_any x.kind x.text W hxz
      rw [show isTok x.kind x.text.data.toList = tokOk x from rfl] at hcall
      cases ht : tokOk x with
      | false =>
        rw [ht] at hcall
        have HC := Lib.hid hcall
        have HTT := Lib.hid ht
        clear hcall ht hsx
        go_wp2_with fail
        go_quiet ((go_at_call 59; first | exact quiet_left (HC.out _) | exact quiet_add_left (HC.out _)))
        go_wp2_with fail
        go_ret2
        exact ⟨by rw [nok.out HTT.out]; rfl, _, World.drewN_drewN _ _ _⟩
      | true =>
        rw [ht] at hcall
        have hs4 := hsx ht
        have HC := Lib.hid hcall
        have HTT := Lib.hid ht
        clear hcall ht hsx
        by_cases hbig : jn + (1 + x.text.size) ≤ 4001
        · have hbig' : (jn : Int) - 1 + (1 + (x.text.size : Int)) ≤ 4000 := by omega
          by_cases hk0 : k = 0
          · have hk0' : decide (0 < k) = false := by simp; omega
            have hj0 : jn = 0 := by omega
            have hs0 : s = bs [] := by have := HS.out (by omega); rw [this, hk0]; rfl
            have hz0 : s.size = 0 := by rw [hs0]; rfl
            have HF : Hid (joinLen (l.take (k + 1)) ≤ 4001 → s ++ x.text = bs (joinL (l.take (k + 1)))) := fun _ => by
              rw [hsn.out, if_pos hk0, hs0, bs_text, bs_nil]
            have hz : (s ++ x.text).size ≤ 4000 := by rw [ByteArray.size_append]; omega
            have HZ := Lib.hid hz
            clear hk0 hj0 hs0 hz
            go_wp2_with fail
            go_quiet ((go_at_call 59; first | exact quiet_left (HC.out _) | exact quiet_add_left (HC.out _)))
            go_wp2_with fail
            go_roundg (l.length - (k + 1))
            case measure => omega
            case rel => exact ⟨k + 1, _, hlt, Nat.le_refl _, (by go_num), (by rw [HJS.out]; go_num), rfl, HZ.out, HF.out, yok.out HTT.out, _, rfl⟩
          · have hk0' : (0 : Int) < (k : Int) := by omega
            have hs0 := HS.out (by omega)
            have hll : (joinL (l.take k)).length + 1 = jn := by
              rw [joinL_len (l.take k) (fun h => hk0 ((take_nil hlt).1 h))]
              exact HJE.out.symm
            have hz0 : s.size + 1 = jn := by rw [hs0]; exact hll
            have HF : Hid (joinLen (l.take (k + 1)) ≤ 4001 → s ++ ⟨#[32]⟩ ++ x.text = bs (joinL (l.take (k + 1)))) := fun _ => by
              rw [hsn.out, if_neg hk0, ← List.append_assoc, ← bs_append, ← bs_append, ← hs0, bs_text]; rfl
            have hz : (s ++ ⟨#[32]⟩ ++ x.text).size ≤ 4000 := by rw [ByteArray.size_append, ByteArray.size_append]; show s.size + 1 + _ ≤ _; omega
            have HZ := Lib.hid hz
            clear hk0 hs0 hll hz0 hz
            go_wp2_with fail
            go_quiet ((go_at_call 59; first | exact quiet_left (HC.out _) | exact quiet_add_left (HC.out _)))
            go_wp2_with fail
            go_roundg (l.length - (k + 1))
            case measure => omega
            case rel => exact ⟨k + 1, _, hlt, Nat.le_refl _, (by go_num), (by rw [HJS.out]; go_num), rfl, HZ.out, HF.out, yok.out HTT.out, _, rfl⟩
        · have hbig' : ¬ (jn : Int) - 1 + (1 + (x.text.size : Int)) ≤ 4000 := by omega
          go_wp2_with fail
          go_quiet ((go_at_call 59; first | exact quiet_left (HC.out _) | exact quiet_add_left (HC.out _)))
          go_wp2_with fail
          go_roundg (l.length - (k + 1))
          case measure => omega
          case rel => exact ⟨k + 1, s, hlt, Nat.le_refl _, (by go_num), (by rw [HJS.out]; go_num), rfl, hs, (fun h => absurd h (by rw [HJS.out]; exact hbig)), yok.out HTT.out, _, rfl⟩
    · have hlt' : ¬ (k : Int) < (l.length : Int) := by omega
      obtain rfl : k = l.length := by omega
      rw [List.take_length] at HS HT
      have hjn : joinLen (l.take l.length) = joinLen l := by rw [List.take_length]
      have hjl' := (joinLen_le _ HT.out)
      have hall : l.all tokOk = true := List.all_eq_true.2 HT.out
      have HJ := Lib.hid hjn
      have HR := Lib.hid hr
      clear hr hjn hjl
      rw [HJ.out]
      obtain ⟨jn, hjn⟩ : ∃ jn, jn = joinLen l := ⟨_, rfl⟩
      rw [← hjn] at hjl' HS ⊢
      have HJN := Lib.hid hjn
      clear hjn
      by_cases hbig : 4001 < jn
      · have hbig' : (4000 : Int) < (jn : Int) - 1 := by omega
        have hres : joinS l = (bs [], 2) := by unfold joinS; rw [if_pos hall, if_pos (by rw [← HJN.out]; exact hbig)]
        have HRES := Lib.hid hres
        clear hall hres
        go_wp2_with fail
        go_ret2
        exact ⟨by rw [HRES.out]; rfl, _, rfl⟩
      · have hbig' : ¬ (4000 : Int) < (jn : Int) - 1 := by omega
        have hres : joinS l = (s, 0) := by unfold joinS; rw [if_pos hall, if_neg (by rw [← HJN.out]; omega), HS.out (by omega)]
        have HRES := Lib.hid hres
        clear hall hres
        go_wp2_with fail
        go_ret2
        exact ⟨by rw [HRES.out]; rfl, _, rfl⟩
end Go.Proofs.Ytonkbljpcgadlaa
