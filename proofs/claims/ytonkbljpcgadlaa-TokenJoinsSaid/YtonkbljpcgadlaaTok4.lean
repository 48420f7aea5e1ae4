/- The walk of the scanner's token: signs. -/
import Derived.Test.YtonkbljpcgadlaaTok3
namespace Go.Proofs.Ytonkbljpcgadlaa
open Go.RowKit
set_option linter.unusedVariables false

def pairsL : List ByteArray := [bs [46, 46], bs [60, 61], bs [62, 61], bs [61, 61], bs [33, 61]]
theorem pairs_any (w : World) : Calls Try.prog 101 #[] w fun e w' => ∃ v, e = .returned v ∧ Rds w' v pairsL ∧ Below w.heap.size w w' := by
  go_enter Try.func101, Try.ntmps101
  go_wp2_with fail
  go_ret
  refine ⟨_, rfl, ⟨[_], rfl, some ⟨w.heap.size, 0, none⟩, 5, rfl, by decide, by decide, by decide, (fun e => by cases e), fun _ => ⟨_, 0, rfl, by simp, fun i x hx => ?_⟩⟩, by (repeat' (first | (with_reducible exact Below.refl _ _) | (with_reducible assumption) | (with_reducible refine below_drewN ?_ _) | (with_reducible refine Below.alloc ?_ ?_ _) | (with_reducible refine Below.setCell ?_ ?_ _) | (with_reducible refine Below.drew ?_) | go_size))⟩
  match i, hx with
  | 0, hx => simp [pairsL] at hx; subst hx; exact ⟨[_], ⟨rfl, by decide⟩, fun j u hu => by cases j <;> simp at hu; subst hu; simp [Rep.size]; rfl⟩
  | 1, hx => simp [pairsL] at hx; subst hx; exact ⟨[_], ⟨rfl, by decide⟩, fun j u hu => by cases j <;> simp at hu; subst hu; simp [Rep.size]; rfl⟩
  | 2, hx => simp [pairsL] at hx; subst hx; exact ⟨[_], ⟨rfl, by decide⟩, fun j u hu => by cases j <;> simp at hu; subst hu; simp [Rep.size]; rfl⟩
  | 3, hx => simp [pairsL] at hx; subst hx; exact ⟨[_], ⟨rfl, by decide⟩, fun j u hu => by cases j <;> simp at hu; subst hu; simp [Rep.size]; rfl⟩
  | 4, hx => simp [pairsL] at hx; subst hx; exact ⟨[_], ⟨rfl, by decide⟩, fun j u hu => by cases j <;> simp at hu; subst hu; simp [Rep.size]; rfl⟩
  | i + 5, hx => simp [pairsL] at hx

theorem pairs_two (l : List UInt8) : (pairsL.any fun p => Lib.hasPrefix l p.data.toList) = isTwo l := by
  match l with
  | [] => rfl
  | [a] => simp [pairsL, isTwo, Lib.hasPrefix, bs, List.isPrefixOf]
  | a :: b :: l =>
    simp only [pairsL, isTwo, Lib.hasPrefix, bs, List.isPrefixOf, List.any_cons, List.any_nil, Bool.and_true, Bool.or_false]
    rw [Bool.eq_iff_iff]
    simp only [Bool.or_eq_true, Bool.and_eq_true, beq_iff_eq]
    constructor
    · rintro (⟨h1, h2⟩ | ⟨h1, h2⟩ | ⟨h1, h2⟩ | ⟨h1, h2⟩ | ⟨h1, h2⟩) <;> subst h1 h2 <;> simp
    · rintro ((((⟨h1, h2⟩ | ⟨h1, h2⟩) | ⟨h1, h2⟩) | ⟨h1, h2⟩) | ⟨h1, h2⟩) <;> subst h1 h2 <;> simp

set_option maxHeartbeats 400000 in
theorem prefix_any (g n0 : Nat) (s p : ByteArray) (i : Nat) (w : World) (hs : s.size ≤ 4000) (h0 : i ≤ s.size) (hc : w.cell? ⟨n0, 0, none⟩ = some (.pointer (some ⟨g, 0, none⟩))) (hb : Blk w g 86 #[.string s, .int .i64 i]) :
    Calls Try.prog 102 (#[.string p] ++ #[.pointer (some ⟨n0, 0, none⟩)]) w fun e w' => e = .returned (.bool (Lib.hasPrefix (s.data.toList.drop i) p.data.toList)) ∧ Below w.heap.size w w' := by
  have c0 : w.cell? ⟨g, 0, none⟩ = some (.string s) := hb.cell 0
  have c1 : w.cell? ⟨g, 1, none⟩ = some (.int .i64 i) := hb.cell 1
  have hlt' : (i : Int) ≤ (s.size : Int) := by omega
  clear hb
  have he : (s.extract i s.size).data.toList = s.data.toList.drop i := by
    rw [ByteArray.data_extract]; simp
    rw [List.take_of_length_le (by simp)]
  rw [← he]
  clear he
  show Calls Try.prog 102 #[.string p, .pointer (some ⟨n0, 0, none⟩)] w _
  go_enter Try.func102, Try.ntmps102
  go_wp2_with fail
  go_quiet ((go_at_call 103; exact Calls.quiet_of_same (Try.strings_HasPrefix _ _ _)))
  go_wp2_with fail
  go_ret
  exact ⟨rfl, by (repeat' (first | (with_reducible exact Below.refl _ _) | (with_reducible assumption) | (with_reducible refine below_drewN ?_ _) | (with_reducible refine Below.alloc ?_ ?_ _) | (with_reducible refine Below.setCell ?_ ?_ _) | (with_reducible refine Below.drew ?_) | go_size))⟩

theorem enters_prefix : ∀ args w, (callFunc 102 args).run Try.prog w = .ok (.enter 102 args) w := fun _ _ => by kernel_rfl
/-- The test for a sign of two. -/
theorem two_any (g n0 : Nat) (s : ByteArray) (i : Nat) (w : World) (hs : s.size ≤ 4000) (h0 : i ≤ s.size) (hn : n0 < w.heap.size) (hc : w.cell? ⟨n0, 0, none⟩ = some (.pointer (some ⟨g, 0, none⟩))) (hb : Blk w g 86 #[.string s, .int .i64 i])
    (v : Value) (hv : Rds w v pairsL) :
    Calls Try.prog 100 #[v, .func (.func 102) #[] #[.pointer (some ⟨n0, 0, none⟩)]] w fun e w' => e = .returned (.bool (isTwo (s.data.toList.drop i))) ∧ Below w.heap.size w w' := by
  rw [← pairs_two]
  refine containsFunc_str _ _ enters_prefix v pairsL (fun p => Lib.hasPrefix (s.data.toList.drop i) p.data.toList) w hv fun W u x _ hb' hx => ?_
  obtain ⟨rfl, _⟩ := rdV_str hx
  exact prefix_any g n0 s x i W hs h0 ((hb'.cell (p := ⟨n0, 0, none⟩) hn).trans hc) (hb.below hb' hb.lt)

set_option maxHeartbeats 1000000 in
theorem token_two (g : Nat) (s : ByteArray) (i : Nat) (w : World) (hs : s.size ≤ 4000) (h0 : i < s.size) (hb : Blk w g 86 #[.string s, .int .i64 i]) (hl : isLN s[i].toNat = false) (hd : isDN s[i].toNat = false) (ht : isTwo (s.data.toList.drop i) = true) (h2 : i + 2 ≤ s.size) :
    Calls Try.prog 55 #[.pointer (some ⟨g, 0, none⟩)] w fun e w' => e = .returned (.tuple #[.agg #[.int .i64 3, .int .i64 i, .string (s.extract i (i + 2))], .int .i64 0]) ∧
      Blk w' g 86 #[.string s, .int .i64 ↑(i + 2)] ∧ w.grownBy w' (some g) := by
  have HB := Lib.hid hb
  have c0 : w.cell? ⟨g, 0, none⟩ = some (.string s) := hb.cell 0
  have c1 : w.cell? ⟨g, 1, none⟩ = some (.int .i64 i) := hb.cell 1
  have hgl := hb.lt
  have hss := UInt8.toNat_lt s[i]
  clear hb
  go_enter Try.func55, Try.ntmps55
  go_wp2_with (first
    | (go_at_call 95; refine (sign_any g s i _ hs h0 (by have := HB.out; (repeat' (first | (with_reducible assumption) | (with_reducible refine Blk.drewN ?_ _) | (with_reducible refine Blk.alloc ?_ _) | (with_reducible refine Blk.drew ?_) | (with_reducible refine Blk.far' ?_ ?_; (first | (simp; done) | (simp; omega) | omega)) | (with_reducible apply Blk.set'; rotate_left) | rfl)))).mono ?_; rintro e w' ⟨rfl, q, rfl⟩)
    | (go_at_call 96; refine (letter_any _ (by assumption) _).mono ?_; rintro e w' ⟨rfl, rfl⟩)
    | (go_at_call 99; refine (digit_any _ (by assumption) _).mono ?_; rintro e w' ⟨rfl, rfl⟩)
    | (go_at_call 101; refine (pairs_any _).mono ?_; rintro e w1 ⟨v, rfl, hv, hb1⟩))
  have g1 : Blk w1 g 86 #[.string s, .int .i64 i] := Blk.below (by have := HB.out; (repeat' (first | (with_reducible assumption) | (with_reducible refine Blk.drewN ?_ _) | (with_reducible refine Blk.alloc ?_ _) | (with_reducible refine Blk.drew ?_) | (with_reducible refine Blk.far' ?_ ?_; (first | (simp; done) | (simp; omega) | omega)) | (with_reducible apply Blk.set'; rotate_left) | rfl))) hb1 (by simp; omega)
  have bc : Blk w1 w.heap.size _ _ := Blk.below ((((Blk.new' _ _ rfl).alloc _).alloc _).drewN _) hb1 (by simp; omega)
  have br : Blk w1 (w.heap.size + 1) _ _ := Blk.below (((Blk.new' _ _ (by simp)).alloc _).drewN _) hb1 (by simp)
  have bt : Blk w1 (w.heap.size + 1 + 1) _ _ := Blk.below ((Blk.new' _ _ (by simp)).drewN _) hb1 (by simp)
  have hb0 : Below w.heap.size w w1 := bstep (by (repeat' (first | (with_reducible exact Below.refl _ _) | (with_reducible assumption) | (with_reducible refine below_drewN ?_ _) | (with_reducible refine Below.alloc ?_ ?_ _) | (with_reducible refine Below.setCell ?_ ?_ _) | (with_reducible refine Below.drew ?_) | go_size))) hb1
  clear hb1
  have HV := Lib.hid hv
  have hn0 := bc.lt
  clear hv
  refine (two_any g w.heap.size s i w1 hs (by omega) hn0 (bc.cell 0) g1 v HV.out).mono ?_
  rintro e w2 ⟨rfl, hb2⟩
  rw [ht]
  have g2 := Lib.hid (g1.below hb2 g1.lt)
  have bc2 := bc.below hb2 bc.lt
  have br2 := br.below hb2 br.lt
  have bt2 := bt.below hb2 bt.lt
  have hs1 : w2.heap.size > w.heap.size + 1 + 1 := bt2.lt
  have hb3 : Below w.heap.size w w2 := bstep hb0 hb2
  clear g1 bc br bt hb2 hb0 hn0 c0 c1 HV
  have c0 : w2.cell? ⟨g, 0, none⟩ = some (.string s) := g2.out.cell 0
  have c1 : w2.cell? ⟨g, 1, none⟩ = some (.int .i64 i) := g2.out.cell 1
  have f1 : w2.frozen? ⟨g, 1, none⟩ = false := g2.out.frozen 1
  have k0 : w2.cell? ⟨w.heap.size, 0, none⟩ = some (.pointer (some ⟨g, 0, none⟩)) := bc2.cell 0
  have t0 : w2.cell? ⟨w.heap.size + 1 + 1, 0, none⟩ = some (.int .i64 3) := bt2.cell 0
  have t1 : w2.cell? ⟨w.heap.size + 1 + 1, 1, none⟩ = some (.int .i64 i) := bt2.cell 1
  have t2 : w2.cell? ⟨w.heap.size + 1 + 1, 2, none⟩ = some (.string ⟨#[]⟩) := bt2.cell 2
  have r0 : w2.cell? ⟨w.heap.size + 1, 0, none⟩ = some (.int .i64 0) := br2.cell 0
  have r1 : w2.cell? ⟨w.heap.size + 1, 1, none⟩ = some (.int .i64 0) := br2.cell 1
  have r2 : w2.cell? ⟨w.heap.size + 1, 2, none⟩ = some (.string ⟨#[]⟩) := br2.cell 2
  have ft : ∀ k, w2.frozen? ⟨w.heap.size + 1 + 1, k, none⟩ = false := bt2.frozen
  have fr : ∀ k, w2.frozen? ⟨w.heap.size + 1, k, none⟩ = false := br2.frozen
  clear bc2 br2 bt2
  have HT := Lib.hid ht
  clear ht
  have q1 : (i : Int) + 2 ≤ (s.size : Int) := by omega
  have q2 : IntKind.i64.wrap ((i : Int) + 2) = (i : Int) + 2 := IntWalk.i64_in _ (by omega)
  have q3 : ((i : Int) + 2).toNat = i + 2 := by omega
  go_wp2_with fail
  go_region
  all_goals
    go_wp2_with fail
    refine bodyPost_ret (v := .tuple #[.agg #[.int .i64 3, .int .i64 i, .string (s.extract i (i + 2))], .int .i64 0]) (by simp [results, Try.results55, go_sem, r0, r1, r2]) rfl ⟨rfl, ?_, ?_⟩
    · refine Blk.drew (Blk.far' ?_ (Blk.far' ?_ (Blk.far' ?_ (Blk.set' (by rfl) (Blk.far' ?_ g2.out))))) <;> first | (simp; done) | (simp; omega)
    · have := only_of_below hb3 (some g); (repeat' (first | (with_reducible assumption) | (with_reducible exact World.grownBy.refl _ _) | (with_reducible refine only_drewN ?_ _) | (with_reducible refine only_alloc ?_ _) | (with_reducible refine only_setCell ?_ ?_ _) | (with_reducible refine only_drew ?_) | (exact .inl rfl) | (refine .inr ?_; simp; done) | (refine .inr ?_; simp; omega) | (refine .inr ?_; omega)))
end Go.Proofs.Ytonkbljpcgadlaa
