/- The walks of SameTokens, one, IsToken. -/
import Derived.Test.YtonkbljpcgadlaaTok8
namespace Go.Proofs.Ytonkbljpcgadlaa
open Go.RowKit
set_option linter.unusedVariables false

def SameP (a b : List Tok) (at_ : Bool) : Prop := a.length = b.length ∧ ∀ j (h : j < a.length) (h' : j < b.length), a[j].kind = b[j].kind ∧ a[j].text = b[j].text ∧ (at_ = true → a[j].at_ = b[j].at_)
noncomputable def sameT (a b : List Tok) (at_ : Bool) : Bool := @decide (SameP a b at_) (Classical.propDecidable _)
theorem sameT_true {a b : List Tok} {at_ : Bool} (h : SameP a b at_) : sameT a b at_ = true := by simp [sameT, h]
theorem sameT_false {a b : List Tok} {at_ : Bool} (h : ¬ SameP a b at_) : sameT a b at_ = false := by simp [sameT, h]
theorem sameT_refl (a : List Tok) (at_ : Bool) : sameT a a at_ = true := sameT_true ⟨rfl, fun _ _ _ => ⟨rfl, rfl, fun _ => rfl⟩⟩
theorem sameT_iff {a b : List Tok} {at_ : Bool} : sameT a b at_ = true ↔ SameP a b at_ := by simp [sameT]

theorem text_ne {a b : ByteArray} (h : a ≠ b) : (a.toList == b.toList) = false := by
  rw [beq_eq_false_iff_ne, ByteArray.toList_eq, ByteArray.toList_eq]
  exact fun e => h (by cases a; cases b; simp at e; rw [e])
theorem text_eq {a b : ByteArray} (h : a = b) : (a.toList == b.toList) = true := by subst h; simp

set_option maxHeartbeats 2000000 in
theorem same_any (va vb : Value) (a b : List Tok) (at_ : Bool) (w : World) (ha : Rds w va a) (hb : Rds w vb b) :
    Calls Try.prog 16 #[va, vb, .bool at_] w fun e w' => e = .returned (.bool (sameT a b at_)) ∧ ∃ q, w' = w.drewN q := by
  obtain ⟨A, c, rfl, hsa⟩ := rdV_list ha
  obtain ⟨A', c', rfl, hsb⟩ := rdV_list hb
  have hla := Nat.le_trans hsa.cap hsa.max
  have hlb := Nat.le_trans hsb.cap hsb.max
  clear hsa hsb
  by_cases hl : a.length = b.length
  · have hlb' : ((a.length : Int) != (b.length : Int)) = false := by simp [hl]
    have HL := Lib.hid hl
    clear hl
    go_enter Try.func16, Try.ntmps16
    go_wp2_with fail
    go_loopg [7] a.length (fun gg v wr => ∃ k : Nat, k ≤ a.length ∧ a.length - k ≤ gg ∧ v = .int .i64 k ∧ (∃ q, wr = w.drewN q) ∧ Aside (∀ j (h : j < a.length) (h' : j < b.length), j < k → a[j].kind = b[j].kind ∧ a[j].text = b[j].text ∧ (at_ = true → a[j].at_ = b[j].at_)))
    case atStart => exact ⟨0, Nat.zero_le _, by omega, rfl, ⟨0, rfl⟩, fun j _ _ hj => absurd hj (Nat.not_lt_zero _)⟩
    case round =>
      obtain ⟨k, hk, hg, rfl, ⟨q, rfl⟩, hP⟩ := hrel
      by_cases hlt : k < a.length
      · have hlt' : (k : Int) < (a.length : Int) := by omega
        have hkb : k < b.length := by have := HL.out; omega
        have hkb' : (k : Int) < (b.length : Int) := by omega
        obtain ⟨p, o, rfl, _, c0, c1, c2, _⟩ := rdV_at_tok ha hlt
        obtain ⟨p', o', rfl, _, d0, d1, d2, _⟩ := rdV_at_tok hb hkb
        have HA := Lib.hid ha
        have HB := Lib.hid hb
        clear ha hb
        have no : Aside (¬ (a[k].kind = b[k].kind ∧ a[k].text = b[k].text ∧ (at_ = true → a[k].at_ = b[k].at_)) → sameT a b at_ = false) := fun h => sameT_false fun hh => h (hh.2 k hlt hkb)
        have yes : Aside ((a[k].kind = b[k].kind ∧ a[k].text = b[k].text ∧ (at_ = true → a[k].at_ = b[k].at_)) → ∀ j (h : j < a.length) (h' : j < b.length), j < k + 1 → a[j].kind = b[j].kind ∧ a[j].text = b[j].text ∧ (at_ = true → a[j].at_ = b[j].at_)) := fun h j h1 h2 h3 => by
          by_cases e : j = k
          · subst e; exact h
          · exact hP.out j h1 h2 (by omega)
        clear hP
        generalize a[k] = x at *
        generalize b[k] = y at *
        by_cases e1 : x.kind = y.kind
        · have q1 : (x.kind != y.kind) = false := by simp [e1]
          by_cases e2 : x.text = y.text
          · have q2 := text_eq e2
            cases at_ with
            | false =>
              have Y := Lib.hid (yes.out ⟨e1, e2, fun h => by cases h⟩)
              clear e1 e2 no yes
              go_wp2_with fail
              go_quiet (fail)
              go_wp2_with fail
              go_roundg (a.length - (k + 1))
              case measure => omega
              case rel => exact ⟨k + 1, hlt, Nat.le_refl _, (by go_num), ⟨_, rfl⟩, Y.out⟩
            | true =>
              by_cases e3 : x.at_ = y.at_
              · have q3 : (x.at_ != y.at_) = false := by simp [e3]
                have Y := Lib.hid (yes.out ⟨e1, e2, fun _ => e3⟩)
                clear e1 e2 e3 no yes
                go_wp2_with fail
                go_quiet (fail)
                go_wp2_with fail
                go_roundg (a.length - (k + 1))
                case measure => omega
                case rel => exact ⟨k + 1, hlt, Nat.le_refl _, (by go_num), ⟨_, rfl⟩, Y.out⟩
              · have q3 : (x.at_ != y.at_) = true := by simp [e3]
                have N := Lib.hid (no.out fun h => e3 (h.2.2 rfl))
                clear e1 e2 e3 no yes
                go_wp2_with fail
                go_quiet (fail)
                go_wp2_with fail
                go_ret
                exact ⟨by rw [N.out]; rfl, _, World.drewN_drewN _ _ _⟩
          · have q2 := text_ne e2
            have N := Lib.hid (no.out fun h => e2 h.2.1)
            clear e1 e2 no yes
            go_wp2_with fail
            go_quiet (fail)
            go_wp2_with fail
            go_ret
            exact ⟨by rw [N.out]; rfl, _, World.drewN_drewN _ _ _⟩
        · have q1 : (x.kind != y.kind) = true := by simp [e1]
          have N := Lib.hid (no.out fun h => e1 h.1)
          clear e1 no yes
          go_wp2_with fail
          go_quiet (fail)
          go_wp2_with fail
          go_ret
          exact ⟨by rw [N.out]; rfl, _, World.drewN_drewN _ _ _⟩
      · have hlt' : ¬ (k : Int) < (a.length : Int) := by omega
        go_wp2_with fail
        go_ret
        have : sameT a b at_ = true := sameT_true ⟨HL.out, fun j h h' => hP.out j h h' (by omega)⟩
        exact ⟨by rw [this]; rfl, _, rfl⟩
  · have hlb' : ((a.length : Int) != (b.length : Int)) = true := by rw [bne_iff_ne]; omega
    have hres : sameT a b at_ = false := sameT_false fun h => hl h.1
    rw [hres]
    go_enter Try.func16, Try.ntmps16
    go_wp2_with fail
    go_ret
    exact ⟨rfl, 0, rfl⟩
end Go.Proofs.Ytonkbljpcgadlaa
