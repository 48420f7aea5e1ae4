/- The walk of the scanner's token: signs of one; nothing. -/
import Derived.Test.YtonkbljpcgadlaaTok4
namespace Go.Proofs.Ytonkbljpcgadlaa
open Go.RowKit
set_option linter.unusedVariables false

theorem sign_index (c : UInt8) : isSign c = true ↔ 0 ≤ Lib.indexByte [91, 93, 59, 58, 44, 45] c := by
  constructor
  · intro h
    simp only [isSign, Bool.or_eq_true, beq_iff_eq] at h
    rcases h with ((((h | h) | h) | h) | h) | h <;> subst h <;> decide
  · intro h
    revert h
    simp only [Lib.indexByte, isSign]
    repeat' split
    all_goals simp_all
    all_goals omega
theorem encode_at (s : ByteArray) (i : Nat) (h : i < s.size) (hs : isSign s[i] = true) : Utf8.encode (s[i].toNat : Int) = s.extract i (i + 1) := by
  have h1 : (s.extract i (i + 1)) = ⟨#[s[i]]⟩ := by
    apply ByteArray.ext
    rw [ByteArray.data_extract]
    apply Array.ext'
    have := data_drop s i h
    simp only [Array.toList_extract, List.extract_eq_take_drop]
    rw [this]
    simp
  rw [h1]
  simp only [isSign, Bool.or_eq_true, beq_iff_eq] at hs
  rcases hs with ((((h | h) | h) | h) | h) | h <;> rw [h] <;> decide

set_option maxHeartbeats 1000000 in
theorem token_sign (g : Nat) (s : ByteArray) (i : Nat) (w : World) (hs : s.size ≤ 4000) (h0 : i < s.size) (hb : Blk w g 86 #[.string s, .int .i64 i]) (hl : isLN s[i].toNat = false) (hd : isDN s[i].toNat = false) (ht : isTwo (s.data.toList.drop i) = false) (hsg : isSign s[i] = true) :
    Calls Try.prog 55 #[.pointer (some ⟨g, 0, none⟩)] w fun e w' => e = .returned (.tuple #[.agg #[.int .i64 3, .int .i64 i, .string (s.extract i (i + 1))], .int .i64 0]) ∧
      Blk w' g 86 #[.string s, .int .i64 ↑(i + 1)] ∧ w.grownBy w' (some g) := by
  have HB := Lib.hid hb
  have c0 : w.cell? ⟨g, 0, none⟩ = some (.string s) := hb.cell 0
  have c1 : w.cell? ⟨g, 1, none⟩ = some (.int .i64 i) := hb.cell 1
  have hgl := hb.lt
  have hss := UInt8.toNat_lt s[i]
  clear hb
  go_enter Try.func55, Try.ntmps55
  go_wp2_with (first
    | (go_at_call 95; refine (sign_any g s i _ hs h0 (by have := HB.out; (repeat' (first | (with_reducible assumption) | (with_reducible refine Blk.drewN ?_ _) | (with_reducible refine Blk.alloc ?_ _) | (with_reducible refine Blk.drew ?_) | (with_reducible refine Blk.far' ?_ ?_; (first | (simp; done) | (simp; omega) | omega)) | (with_reducible apply Blk.set'; rotate_left) | rfl)))).mono ?_; rintro e w' ⟨rfl, q, rfl⟩)
    | (go_at_call 96; refine (letter_any _ (by assumption) _).mono ?_; rintro e w' ⟨rfl, rfl⟩)
    | (go_at_call 99; refine (digit_any _ (by assumption) _).mono ?_; rintro e w' ⟨rfl, rfl⟩)
    | (go_at_call 101; refine (pairs_any _).mono ?_; rintro e w1 ⟨v, rfl, hv, hb1⟩))
  have g1 : Blk w1 g 86 #[.string s, .int .i64 i] := Blk.below (by have := HB.out; (repeat' (first | (with_reducible assumption) | (with_reducible refine Blk.drewN ?_ _) | (with_reducible refine Blk.alloc ?_ _) | (with_reducible refine Blk.drew ?_) | (with_reducible refine Blk.far' ?_ ?_; (first | (simp; done) | (simp; omega) | omega)) | (with_reducible apply Blk.set'; rotate_left) | rfl))) hb1 (by simp; omega)
  have bc : Blk w1 w.heap.size _ _ := Blk.below ((((Blk.new' _ _ rfl).alloc _).alloc _).drewN _) hb1 (by simp; omega)
  have br : Blk w1 (w.heap.size + 1) _ _ := Blk.below (((Blk.new' _ _ (by simp)).alloc _).drewN _) hb1 (by simp)
  have bt : Blk w1 (w.heap.size + 1 + 1) _ _ := Blk.below ((Blk.new' _ _ (by simp)).drewN _) hb1 (by simp)
  have hb0 : Below w.heap.size w w1 := bstep (by (repeat' (first | (with_reducible exact Below.refl _ _) | (with_reducible assumption) | (with_reducible refine below_drewN ?_ _) | (with_reducible refine Below.alloc ?_ ?_ _) | (with_reducible refine Below.setCell ?_ ?_ _) | (with_reducible refine Below.drew ?_) | go_size))) hb1
  clear hb1
  have HV := Lib.hid hv
  have hn0 := bc.lt
  clear hv
  refine (two_any g w.heap.size s i w1 hs (by omega) hn0 (bc.cell 0) g1 v HV.out).mono ?_
  rintro e w2 ⟨rfl, hb2⟩
  rw [ht]
  have g2 := Lib.hid (g1.below hb2 g1.lt)
  have bc2 := bc.below hb2 bc.lt
  have br2 := br.below hb2 br.lt
  have bt2 := bt.below hb2 bt.lt
  have hs1 : w2.heap.size > w.heap.size + 1 + 1 := bt2.lt
  have hb3 : Below w.heap.size w w2 := bstep hb0 hb2
  clear g1 bc br bt hb2 hb0 hn0 c0 c1 HV
  have c0 : w2.cell? ⟨g, 0, none⟩ = some (.string s) := g2.out.cell 0
  have c1 : w2.cell? ⟨g, 1, none⟩ = some (.int .i64 i) := g2.out.cell 1
  have f1 : w2.frozen? ⟨g, 1, none⟩ = false := g2.out.frozen 1
  have k0 : w2.cell? ⟨w.heap.size, 0, none⟩ = some (.pointer (some ⟨g, 0, none⟩)) := bc2.cell 0
  have t0 : w2.cell? ⟨w.heap.size + 1 + 1, 0, none⟩ = some (.int .i64 3) := bt2.cell 0
  have t1 : w2.cell? ⟨w.heap.size + 1 + 1, 1, none⟩ = some (.int .i64 i) := bt2.cell 1
  have t2 : w2.cell? ⟨w.heap.size + 1 + 1, 2, none⟩ = some (.string ⟨#[]⟩) := bt2.cell 2
  have r0 : w2.cell? ⟨w.heap.size + 1, 0, none⟩ = some (.int .i64 0) := br2.cell 0
  have r1 : w2.cell? ⟨w.heap.size + 1, 1, none⟩ = some (.int .i64 0) := br2.cell 1
  have r2 : w2.cell? ⟨w.heap.size + 1, 2, none⟩ = some (.string ⟨#[]⟩) := br2.cell 2
  have ft : ∀ k, w2.frozen? ⟨w.heap.size + 1 + 1, k, none⟩ = false := bt2.frozen
  have fr : ∀ k, w2.frozen? ⟨w.heap.size + 1, k, none⟩ = false := br2.frozen
  clear bc2 br2 bt2
  have HT := Lib.hid ht
  clear ht
  obtain ⟨k, hk⟩ : ∃ k, k = Lib.indexByte [91, 93, 59, 58, 44, 45] s[i] := ⟨_, rfl⟩
  have hk0 : 0 ≤ k := by rw [hk]; exact (sign_index _).1 hsg
  have HI : Hid (∀ W, Calls Try.prog 104 #[.string ⟨#[91, 93, 59, 58, 44, 45]⟩, .int .u8 s[i].toNat] W fun e w' => e = .returned (.int .i64 k) ∧ W = w') := fun W => by
    refine (Try.strings_IndexByte _ _ W).mono fun e w' ⟨h1, h2⟩ => ⟨?_, h2.symm⟩
    rw [h1, hk]; simp
  clear hk
  go_wp2_with (go_at_call 104; refine (HI.out _).mono ?_; rintro e w' ⟨rfl, rfl⟩)
  refine bodyPost_ret (v := .tuple #[.agg #[.int .i64 3, .int .i64 i, .string (Utf8.encode s[i].toNat)], .int .i64 0]) (by simp [results, Try.results55, go_sem, r0, r1, r2]) rfl ⟨by rw [encode_at s i h0 hsg], ?_, ?_⟩
  · refine Blk.far' ?_ (Blk.far' ?_ (Blk.far' ?_ (Blk.set' (by rfl) (Blk.far' ?_ g2.out)))) <;> first | (simp; done) | (simp; omega)
  · have := only_of_below hb3 (some g); (repeat' (first | (with_reducible assumption) | (with_reducible exact World.grownBy.refl _ _) | (with_reducible refine only_drewN ?_ _) | (with_reducible refine only_alloc ?_ _) | (with_reducible refine only_setCell ?_ ?_ _) | (with_reducible refine only_drew ?_) | (exact .inl rfl) | (refine .inr ?_; simp; done) | (refine .inr ?_; simp; omega) | (refine .inr ?_; omega)))
set_option maxHeartbeats 1000000 in
theorem token_none (g : Nat) (s : ByteArray) (i : Nat) (w : World) (hs : s.size ≤ 4000) (h0 : i < s.size) (hb : Blk w g 86 #[.string s, .int .i64 i]) (hl : isLN s[i].toNat = false) (hd : isDN s[i].toNat = false) (ht : isTwo (s.data.toList.drop i) = false) (hsg : isSign s[i] = false) :
    Calls Try.prog 55 #[.pointer (some ⟨g, 0, none⟩)] w fun e w' => e = .returned (.tuple #[.agg #[.int .i64 3, .int .i64 i, .string ⟨#[]⟩], .int .i64 1]) ∧ w.grownBy w' (some g) := by
  have HB := Lib.hid hb
  have c0 : w.cell? ⟨g, 0, none⟩ = some (.string s) := hb.cell 0
  have c1 : w.cell? ⟨g, 1, none⟩ = some (.int .i64 i) := hb.cell 1
  have hgl := hb.lt
  have hss := UInt8.toNat_lt s[i]
  clear hb
  go_enter Try.func55, Try.ntmps55
  go_wp2_with (first
    | (go_at_call 95; refine (sign_any g s i _ hs h0 (by have := HB.out; (repeat' (first | (with_reducible assumption) | (with_reducible refine Blk.drewN ?_ _) | (with_reducible refine Blk.alloc ?_ _) | (with_reducible refine Blk.drew ?_) | (with_reducible refine Blk.far' ?_ ?_; (first | (simp; done) | (simp; omega) | omega)) | (with_reducible apply Blk.set'; rotate_left) | rfl)))).mono ?_; rintro e w' ⟨rfl, q, rfl⟩)
    | (go_at_call 96; refine (letter_any _ (by assumption) _).mono ?_; rintro e w' ⟨rfl, rfl⟩)
    | (go_at_call 99; refine (digit_any _ (by assumption) _).mono ?_; rintro e w' ⟨rfl, rfl⟩)
    | (go_at_call 101; refine (pairs_any _).mono ?_; rintro e w1 ⟨v, rfl, hv, hb1⟩))
  have g1 : Blk w1 g 86 #[.string s, .int .i64 i] := Blk.below (by have := HB.out; (repeat' (first | (with_reducible assumption) | (with_reducible refine Blk.drewN ?_ _) | (with_reducible refine Blk.alloc ?_ _) | (with_reducible refine Blk.drew ?_) | (with_reducible refine Blk.far' ?_ ?_; (first | (simp; done) | (simp; omega) | omega)) | (with_reducible apply Blk.set'; rotate_left) | rfl))) hb1 (by simp; omega)
  have bc : Blk w1 w.heap.size _ _ := Blk.below ((((Blk.new' _ _ rfl).alloc _).alloc _).drewN _) hb1 (by simp; omega)
  have br : Blk w1 (w.heap.size + 1) _ _ := Blk.below (((Blk.new' _ _ (by simp)).alloc _).drewN _) hb1 (by simp)
  have bt : Blk w1 (w.heap.size + 1 + 1) _ _ := Blk.below ((Blk.new' _ _ (by simp)).drewN _) hb1 (by simp)
  have hb0 : Below w.heap.size w w1 := bstep (by (repeat' (first | (with_reducible exact Below.refl _ _) | (with_reducible assumption) | (with_reducible refine below_drewN ?_ _) | (with_reducible refine Below.alloc ?_ ?_ _) | (with_reducible refine Below.setCell ?_ ?_ _) | (with_reducible refine Below.drew ?_) | go_size))) hb1
  clear hb1
  have HV := Lib.hid hv
  have hn0 := bc.lt
  clear hv
  refine (two_any g w.heap.size s i w1 hs (by omega) hn0 (bc.cell 0) g1 v HV.out).mono ?_
  rintro e w2 ⟨rfl, hb2⟩
  rw [ht]
  have g2 := Lib.hid (g1.below hb2 g1.lt)
  have bc2 := bc.below hb2 bc.lt
  have br2 := br.below hb2 br.lt
  have bt2 := bt.below hb2 bt.lt
  have hs1 : w2.heap.size > w.heap.size + 1 + 1 := bt2.lt
  have hb3 : Below w.heap.size w w2 := bstep hb0 hb2
  clear g1 bc br bt hb2 hb0 hn0 c0 c1 HV
  have c0 : w2.cell? ⟨g, 0, none⟩ = some (.string s) := g2.out.cell 0
  have c1 : w2.cell? ⟨g, 1, none⟩ = some (.int .i64 i) := g2.out.cell 1
  have f1 : w2.frozen? ⟨g, 1, none⟩ = false := g2.out.frozen 1
  have k0 : w2.cell? ⟨w.heap.size, 0, none⟩ = some (.pointer (some ⟨g, 0, none⟩)) := bc2.cell 0
  have t0 : w2.cell? ⟨w.heap.size + 1 + 1, 0, none⟩ = some (.int .i64 3) := bt2.cell 0
  have t1 : w2.cell? ⟨w.heap.size + 1 + 1, 1, none⟩ = some (.int .i64 i) := bt2.cell 1
  have t2 : w2.cell? ⟨w.heap.size + 1 + 1, 2, none⟩ = some (.string ⟨#[]⟩) := bt2.cell 2
  have r0 : w2.cell? ⟨w.heap.size + 1, 0, none⟩ = some (.int .i64 0) := br2.cell 0
  have r1 : w2.cell? ⟨w.heap.size + 1, 1, none⟩ = some (.int .i64 0) := br2.cell 1
  have r2 : w2.cell? ⟨w.heap.size + 1, 2, none⟩ = some (.string ⟨#[]⟩) := br2.cell 2
  have ft : ∀ k, w2.frozen? ⟨w.heap.size + 1 + 1, k, none⟩ = false := bt2.frozen
  have fr : ∀ k, w2.frozen? ⟨w.heap.size + 1, k, none⟩ = false := br2.frozen
  clear bc2 br2 bt2
  have HT := Lib.hid ht
  clear ht
  obtain ⟨k, hk⟩ : ∃ k, k = Lib.indexByte [91, 93, 59, 58, 44, 45] s[i] := ⟨_, rfl⟩
  have hk0 : ¬ 0 ≤ k := by rw [hk]; intro h; rw [(sign_index _).2 h] at hsg; cases hsg
  have HI : Hid (∀ W, Calls Try.prog 104 #[.string ⟨#[91, 93, 59, 58, 44, 45]⟩, .int .u8 s[i].toNat] W fun e w' => e = .returned (.int .i64 k) ∧ W = w') := fun W => by
    refine (Try.strings_IndexByte _ _ W).mono fun e w' ⟨h1, h2⟩ => ⟨?_, h2.symm⟩
    rw [h1, hk]; simp
  clear hk
  go_wp2_with (go_at_call 104; refine (HI.out _).mono ?_; rintro e w' ⟨rfl, rfl⟩)
  refine bodyPost_ret (v := .tuple #[.agg #[.int .i64 3, .int .i64 i, .string ⟨#[]⟩], .int .i64 1]) (by simp [results, Try.results55, go_sem, r0, r1, r2]) rfl ⟨rfl, ?_⟩
  have := only_of_below hb3 (some g); (repeat' (first | (with_reducible assumption) | (with_reducible exact World.grownBy.refl _ _) | (with_reducible refine only_drewN ?_ _) | (with_reducible refine only_alloc ?_ _) | (with_reducible refine only_setCell ?_ ?_ _) | (with_reducible refine only_drew ?_) | (exact .inl rfl) | (refine .inr ?_; simp; done) | (refine .inr ?_; simp; omega) | (refine .inr ?_; omega)))

/-- The token that begins here, or what is wrong: as the document says. -/
theorem token_any (g : Nat) (s : ByteArray) (i : Nat) (w : World) (hs : s.size ≤ 4000) (h0 : i < s.size) (hb : Blk w g 86 #[.string s, .int .i64 i]) :
    Calls Try.prog 55 #[.pointer (some ⟨g, 0, none⟩)] w fun e w' => ∃ k x, e = .returned (.tuple #[.agg #[.int .i64 k, .int .i64 i, .string x], .int .i64 (tokBad (tokenAt (s.data.toList.drop i)).1 (tokenAt (s.data.toList.drop i)).2 s[i])]) ∧ w.grownBy w' (some g) ∧
      (tokBad (tokenAt (s.data.toList.drop i)).1 (tokenAt (s.data.toList.drop i)).2 s[i] = 0 → k = (tokenAt (s.data.toList.drop i)).1 ∧ x = s.extract i (i + (tokenAt (s.data.toList.drop i)).2) ∧ Blk w' g 86 #[.string s, .int .i64 ↑(i + (tokenAt (s.data.toList.drop i)).2)]) := by
  have hd := data_drop s i h0
  cases hl : isLN s[i].toNat with
  | true =>
    refine (token_letter g s i w hs h0 hb hl).mono ?_
    rintro e w' ⟨n, er, rfl, hn, he, hbl, hg⟩
    have ht : tokenAt (s.data.toList.drop i) = (1, n) := by
      rw [hn, hd, tokenAt, if_pos (show isL s[i] = true from hl), List.takeWhile_cons, if_pos (by simp [hl])]
      simp [Nat.add_comm]; rfl
    rw [ht]
    have hb' : tokBad 1 n s[i] = er := by rw [he]; simp [tokBad]
    rw [hb']
    exact ⟨1, _, rfl, hg, fun _ => ⟨rfl, rfl, hbl⟩⟩
  | false =>
    cases hdg : isDN s[i].toNat with
    | true =>
      refine (token_digit g s i w hs h0 hb hl hdg).mono ?_
      rintro e w' ⟨n, er, rfl, hn, he, hbl, hg⟩
      have ht : tokenAt (s.data.toList.drop i) = (2, n) := by
        rw [hn, hd, tokenAt, if_neg (show ¬ isL s[i] = true by unfold isL; simp [hl]), if_pos (show isD s[i] = true from hdg), List.takeWhile_cons, if_pos (by simp [hdg])]
        simp [Nat.add_comm]; rfl
      rw [ht]
      have hb' : tokBad 2 n s[i] = er := by rw [he]; simp [tokBad]
      rw [hb']
      exact ⟨2, _, rfl, hg, fun _ => ⟨rfl, rfl, hbl⟩⟩
    | false =>
      have nl : ¬ isL s[i] = true := by unfold isL; simp [hl]
      have nd : ¬ isD s[i] = true := by unfold isD; simp [hdg]
      cases ht2 : isTwo (s.data.toList.drop i) with
      | true =>
        have h2 : i + 2 ≤ s.size := by
          rw [hd] at ht2
          cases hr : s.data.toList.drop (i + 1) with
          | nil => rw [hr] at ht2; simp [isTwo] at ht2
          | cons a r =>
            have := congrArg List.length hr
            simp at this; omega
        refine (token_two g s i w hs h0 hb hl hdg ht2 h2).mono ?_
        rintro e w' ⟨rfl, hbl, hg⟩
        have ht : tokenAt (s.data.toList.drop i) = (3, 2) := by
          rw [hd] at ht2 ⊢
          rw [tokenAt, if_neg nl, if_neg nd, if_pos ht2]
        rw [ht]
        exact ⟨3, _, rfl, hg, fun _ => ⟨rfl, rfl, hbl⟩⟩
      | false =>
        cases hsg : isSign s[i] with
        | true =>
          refine (token_sign g s i w hs h0 hb hl hdg ht2 hsg).mono ?_
          rintro e w' ⟨rfl, hbl, hg⟩
          have ht : tokenAt (s.data.toList.drop i) = (3, 1) := by
            rw [hd] at ht2 ⊢
            rw [tokenAt, if_neg nl, if_neg nd, if_neg (by simp [ht2]), if_pos hsg]
          rw [ht]
          exact ⟨3, _, rfl, hg, fun _ => ⟨rfl, rfl, hbl⟩⟩
        | false =>
          refine (token_none g s i w hs h0 hb hl hdg ht2 hsg).mono ?_
          rintro e w' ⟨rfl, hg⟩
          have ht : tokenAt (s.data.toList.drop i) = (0, 0) := by
            rw [hd] at ht2 ⊢
            rw [tokenAt, if_neg nl, if_neg nd, if_neg (by simp [ht2]), if_neg (by simp [hsg])]
          rw [ht]
          exact ⟨3, _, rfl, hg, fun h => by simp [tokBad] at h⟩
end Go.Proofs.Ytonkbljpcgadlaa
