/- Texts of this proof, one behind the other: nothing is handed in but what is proved here; no condition. -/
import Derived.Test.YtogdmcebojiojaaGreatDoorMD
import Derived.Lib.ItoaNum
import Derived.Test.YtogdmcebojiojaaGreatDoorMO
import Derived.Lib.Join
import Derived.Test.YtogdmcebojiojaaGreatDoorWStrings
import Derived.Test.YtogdmcebojiojaaGreatDoorWText
import Derived.Test.YtogdmcebojiojaaGreatDoorWReport
import Derived.Shelf.Strings.Builder1
import Derived.Test.YtogdmcebojiojaaGreatDoorWSlices
import Derived.Test.YtogdmcebojiojaaGreatDoorMC
import Derived.Lib.AppendIntMem
import Derived.Lib.ItoaLen
import Derived.Test.YtogdmcebojiojaaGreatDoorMQ
import Derived.Test.YtogdmcebojiojaaGreatDoorME
import Derived.Test.YtogdmcebojiojaaGreatDoorWCordonref
/- Numerals as texts. -/
namespace Go.Proofs.YtogdmcebojiojaaGreatDoor
def itoaS (n : Int) : ByteArray := ⟨(Lib.itoa n).toArray⟩
end Go.Proofs.YtogdmcebojiojaaGreatDoor

/- What is printed, in plain words. -/
namespace Go.Proofs.YtogdmcebojiojaaGreatDoor
open Go.RowKit
set_option linter.unusedVariables false
set_option linter.unusedSimpArgs false

def brS (l : List ByteArray) : ByteArray := (⟨#[91]⟩ ++ ⟨(Lib.join (l.map fun x => x.data.toList) [44, 32]).toArray⟩) ++ ⟨#[93]⟩
def nmS (vs : List VarD) (i : Int) : ByteArray := (at' .var vs i.toNat).name
def opS (o : Int) : ByteArray := at' .str opW (o - 1).toNat
def wdS (k : Int) : ByteArray := at' .str conW (k - 1).toNat
def litS (vs : List VarD) (x : LitD) : ByteArray := (((nmS vs x.var ++ ⟨#[32]⟩) ++ opS x.op) ++ ⟨#[32]⟩) ++ itoaS x.n
def numsS (l : List Int) : ByteArray := brS (l.map itoaS)
def namesS (vs : List VarD) (l : List Int) : ByteArray := brS (l.map (nmS vs))
def conS (vs : List VarD) (c : ConD) : ByteArray :=
  if c.kind ≤ 3 then (((((wdS c.kind ++ ⟨#[32]⟩) ++ numsS c.consts) ++ ⟨#[32]⟩) ++ namesS vs c.vars) ++ ⟨#[32]⟩) ++ itoaS c.n
  else if c.kind = 4 then (wdS c.kind ++ ⟨#[32]⟩) ++ namesS vs c.vars
  else if c.kind = 5 then (((((wdS c.kind ++ ⟨#[32]⟩) ++ numsS c.consts) ++ ⟨#[32]⟩) ++ nmS vs (at' .int c.vars 0)) ++ ⟨#[32]⟩) ++ nmS vs (at' .int c.vars 1)
  else if c.kind = 6 then (((wdS c.kind ++ ⟨#[32]⟩) ++ namesS vs c.vars) ++ ⟨#[32]⟩) ++ brS (c.rows.map numsS)
  else if c.kind = 7 then (((((wdS c.kind ++ ⟨#[32]⟩) ++ nmS vs (at' .int c.vars 0)) ++ ⟨#[32]⟩) ++ nmS vs (at' .int c.vars 1)) ++ ⟨#[32]⟩) ++ nmS vs (at' .int c.vars 2)
  else if c.kind = 8 then (((wdS c.kind ++ ⟨#[32]⟩) ++ nmS vs (at' .int c.vars 0)) ++ ⟨#[32]⟩) ++ namesS vs (c.vars.drop 1)
  else if c.kind = 9 then (wdS c.kind ++ ⟨#[32]⟩) ++ brS (c.lits.map (litS vs))
  else (((wdS c.kind ++ ⟨#[32]⟩) ++ nmS vs (at' .int c.vars 0)) ++ ⟨#[32]⟩) ++ litS vs (at' .lit c.lits 0)
def varS (v : VarD) : ByteArray := (((((⟨#[118, 97, 114, 32]⟩ ++ v.name) ++ ⟨#[58, 32]⟩) ++ itoaS v.lo) ++ ⟨#[46, 46]⟩) ++ itoaS v.hi) ++ ⟨#[59, 10]⟩
def conTx (vs : List VarD) (c : ConD) : ByteArray := (⟨#[99, 111, 110, 32]⟩ ++ conS vs c) ++ ⟨#[59, 10]⟩
def goalT (m : MdlD) : ByteArray :=
  if m.goal = 0 then ⟨#[115, 111, 108, 118, 101, 32, 97, 110, 121, 59, 10]⟩
  else if m.goal = 1 then (⟨#[115, 111, 108, 118, 101, 32, 108, 101, 97, 115, 116, 32]⟩ ++ nmS m.vars m.var) ++ ⟨#[59, 10]⟩
  else (⟨#[115, 111, 108, 118, 101, 32, 109, 111, 115, 116, 32]⟩ ++ nmS m.vars m.var) ++ ⟨#[59, 10]⟩
def varsL (vs : List VarD) : List UInt8 := vs.flatMap fun v => (varS v).data.toList
def consL (vs : List VarD) (cs : List ConD) : List UInt8 := cs.flatMap fun c => (conTx vs c).data.toList
def printL (m : MdlD) : List UInt8 := (varsL m.vars ++ consL m.vars m.cons) ++ (goalT m).data.toList
def printS (m : MdlD) : ByteArray := ⟨(printL m).toArray⟩
/-! ### How long it is -/
theorem szA (a : Array UInt8) : (⟨a⟩ : ByteArray).size = a.size := rfl
theorem join_len {sep : List UInt8} {B : Nat} : ∀ (l : List (List UInt8)), (∀ x ∈ l, x.length ≤ B) → (Lib.join l sep).length ≤ l.length * (B + sep.length)
  | [], _ => by simp [Lib.join]
  | [x], h => by
    have := h x (by simp)
    simp [Lib.join]
    omega
  | x :: y :: r, h => by
    have ih := join_len (sep := sep) (B := B) (y :: r) fun z hz => h z (List.mem_cons_of_mem _ hz)
    have h1 := h x (by simp)
    have e : Lib.join (x :: y :: r) sep = x ++ sep ++ Lib.join (y :: r) sep := by simp [Lib.join, List.intercalate]
    rw [e, List.length_append, List.length_append, List.length_cons (a := x), Nat.add_mul]
    omega
theorem brS_size {l : List ByteArray} {B : Nat} (h : ∀ x ∈ l, x.size ≤ B) : (brS l).size ≤ l.length * (B + 2) + 2 := by
  have := join_len (sep := [44, 32]) (B := B) (l.map fun x => x.data.toList) fun x hx => by
    obtain ⟨y, hy, rfl⟩ := List.mem_map.1 hx
    exact h y hy
  rw [List.length_map, show ([44, 32] : List UInt8).length = 2 from rfl] at this
  unfold brS
  simp only [ByteArray.size_append, szA, List.size_toArray, List.length_cons, List.length_nil]
  omega
end Go.Proofs.YtogdmcebojiojaaGreatDoor

/- Builders of texts: their own address is kept; the text that they hold. -/
namespace Go.Proofs.YtogdmcebojiojaaGreatDoor
open Go.RowKit
set_option linter.unusedVariables false
set_option linter.unusedSimpArgs false

set_option maxRecDepth 100000 in
theorem cc_used (b : Nat) (w : World) (h0 : w.cell? ⟨b, 0, none⟩ = some (.pointer (some ⟨b, 0, none⟩))) :
    Calls Tryz.prog 106 #[.pointer (some ⟨b, 0, none⟩)] w fun e w' => e = .returned (.tuple #[]) ∧ w' = w := by
  have u : Tryz.prog.underlying 96 = some (.pointer 99) := by kernel_rfl
  obtain ⟨j, hj⟩ : ∃ j, Tryz.prog.info? 99 = some j := Option.isSome_iff_exists.1 (by kernel_rfl)
  go_enter Tryz.func106, Tryz.ntmps106
  go_wp2
  rw [Lib.run_neq_ptr_same w _ u hj]
  go_wp2
  go_end0
  exact ⟨rfl, rfl⟩
set_option maxRecDepth 100000 in
theorem cc_fresh (b n : Nat) (T : TypeId) (w : World) (h0 : w.cell? ⟨b, 0, none⟩ = some (.pointer none)) (hsh : w.shape? b = some (T, n)) (hn : 0 < n) (hfz : w.frozen? ⟨b, 0, none⟩ = false)
    (hl : liesAt Tryz.prog Tryz.prog.depth T (n / Tryz.prog.cellsOf T) 0 99 1 = true) :
    Calls Tryz.prog 106 #[.pointer (some ⟨b, 0, none⟩)] w fun e w' => e = .returned (.tuple #[]) ∧ w' = w.setCell ⟨b, 0, none⟩ (.pointer (some ⟨b, 0, none⟩)) := by
  have u : Tryz.prog.underlying 96 = some (.pointer 99) := by kernel_rfl
  have u2 : Tryz.prog.underlying 210 = some .unsafePointer := by kernel_rfl
  obtain ⟨j, hj⟩ : ∃ j, Tryz.prog.info? 99 = some j := Option.isSome_iff_exists.1 (by kernel_rfl)
  have hjs : j.size = 2 := by
    have : (Tryz.prog.info? 99).map (·.size) = some 2 := by kernel_rfl
    rw [hj] at this; simpa using this
  go_enter Tryz.func106, Tryz.ntmps106
  go_wp2
  rw [Lib.run_to_unsafe w ⟨b, 0, none⟩ u u2 hj (by rw [hjs]; decide) hsh hn]
  simp only [Result.andThen]
  rw [Oper.upon_value]
  go_wp2
  rw [run_callFunc_extern Tryz.func172 (by kernel_rfl) (by kernel_rfl) (by kernel_rfl) (e := Extern.AbiNoEscape.same) (by kernel_rfl)]
  rw [Lib.run_noEscape]
  simp only [Result.andThen]
  rw [Oper.upon_value]
  go_wp2
  rw [Lib.run_from_unsafe w ⟨b, 0, none⟩ u2 u hj hsh hl]
  simp only [Result.andThen]
  rw [Oper.upon_value]
  go_wp2
  go_end0
  exact ⟨rfl, rfl⟩
theorem ptr_arg1 {w : World} {S : Nat → Prop} {pl : Nat → Value} {vs : Array Value} (hsz : vs.size = 1) (hv : Rd w S pl (vs.getD 0 undef) (.ptr 1000 0)) : ∃ b, pl 1000 = .pointer (some ⟨b, 0, none⟩) ∧ vs = #[.pointer (some ⟨b, 0, none⟩)] := by
  obtain ⟨b, e1, e2⟩ := hv
  refine ⟨b, e1, ?_⟩
  apply Array.ext
  · simpa using hsz
  · intro i h1 h2
    have : i = 0 := by omega
    subst this
    rw [Array.getD_eq_getD_getElem?, Array.getElem?_eq_getElem h1] at e2
    simpa using e2
theorem copyCheck_ok (ds : List D) (buf : List UInt8) (hlies : ∀ T, memT bTys T (ds.length + 1) = true → liesAt Tryz.prog Tryz.prog.depth T ((ds.length + 1) / Tryz.prog.cellsOf T) 0 99 1 = true) :
    SatH Tryz.prog f_strings_Builder_copyCheck [.ptr 1000 0] [(1000, .cells (.slf 1000 :: ds)), (2000, .row 5 .byte buf)] (.tup []) [(1000, .cells (.slf 1000 :: ds)), (2000, .row 5 .byte buf)] := by
  intro w S vs pl hS hsz hv hh hg
  obtain ⟨b, e1, rfl⟩ := ptr_arg1 hsz (hv 0 _ rfl)
  obtain ⟨b', cs, T, eb, mb, zb, rb, tb⟩ := hh.ok 1000 _ rfl
  rw [e1] at eb; injection eb with eb; injection eb with eb; injection eb with eb; subst eb
  have hT : memT bTys T (ds.length + 1) = true := tb rfl
  have zb : cs.size = ds.length + 1 := zb
  have h0 := rb 0 _ rfl
  have hc : w.cell? ⟨b, 0, none⟩ = some (cs.getD 0 undef) := by
    rw [cell_of_row w b 0 cs T (0, 0) mb]
    simp [Array.getD_eq_getD_getElem?, zb]
  have hpr := hh.priv 1000 _ b rfl (by rw [e1]; rfl)
  rcases h0 with h0 | ⟨b2, h2, h0⟩
  · rw [h0] at hc
    have hsh : w.shape? b = some (T, cs.size) := by simp [World.shape?, mb]
    refine (cc_fresh b cs.size T w hc hsh (by omega) (frozen_of_row w b 0 cs T mb) (by rw [zb]; exact hlies T hT)).mono fun e w' ⟨he, hw⟩ => ?_
    subst hw
    have hfar : ∀ c, c ≠ b → (w.setCell ⟨b, 0, none⟩ (.pointer (some ⟨b, 0, none⟩))).heap[c]? = w.heap[c]? := fun c hc => Below.heap_setCell w ⟨b, 0, none⟩ _ c hc
    have hat : Blk (w.setCell ⟨b, 0, none⟩ (.pointer (some ⟨b, 0, none⟩))) b T (cs.setIfInBounds 0 (.pointer (some ⟨b, 0, none⟩))) := Blk.set_ mb 0 _
    refine ⟨_, S, pl, he, Rp.rd (.tup _ _ rfl fun i d hd => by simp at hd), ⟨fun k o ho => ?_, fun k o c ho hc => ?_, hh.inj⟩, fun c hc => by simpa [World.setCell] using hS c hc, fun c hc => .inl hc, fun c h => .inl h, fun _ _ => rfl, ⟨rfl, rfl, rfl, by simp [World.setCell], fun c _ hn => hfar c fun e => hn ⟨1000, _, rfl, by rw [e1, e]; rfl⟩⟩⟩
    · by_cases hk : k = 1000
      · subst hk
        have ho : HObj.cells (.slf 1000 :: ds) = o := by injection ho
        subst ho
        refine ⟨b, _, T, e1, hat, by simpa using zb, fun i d hd => ?_, fun _ => hT⟩
        cases i with
        | zero =>
          injection hd with hd; subst hd
          refine .inr ⟨b, e1, ?_⟩
          simp [Array.getD_eq_getD_getElem?, zb]
        | succ i =>
          have h := rb (i + 1) d hd
          have e : (cs.setIfInBounds 0 (.pointer (some ⟨b, 0, none⟩))).getD (i + 1) undef = cs.getD (i + 1) undef := by
            rw [Array.getD_eq_getD_getElem?, Array.getD_eq_getD_getElem?, Array.getElem?_setIfInBounds_ne (by omega)]
          rw [e]
          exact h.mono (fun c hc => hfar c fun e => hpr.2 (e ▸ hc)) (fun _ h => h) fun _ _ => rfl
      · refine (hh.ok k o ho).mono (fun c hc => hfar c fun e => hpr.2 (e ▸ hc)) (fun c hcc => hfar c fun e => hk (hh.inj k 1000 o _ c ho rfl hcc (by rw [e1, e]; rfl))) (fun _ h => h) fun _ _ _ _ => rfl
    · have := hh.priv k o c ho hc
      exact ⟨by simpa [World.setCell] using this.1, this.2⟩
  · rw [e1] at h2; injection h2 with h2; injection h2 with h2; injection h2 with h2; subst h2
    rw [h0] at hc
    refine (cc_used b w hc).mono fun e w' ⟨he, hw⟩ => ?_
    subst hw
    exact ⟨_, S, pl, he, Rp.rd (.tup _ _ rfl fun i d hd => by simp at hd), hh, hS, fun c hc => .inl hc, fun c h => .inl h, fun _ _ => rfl, ⟨rfl, rfl, rfl, Nat.le_refl _, fun _ _ _ => rfl⟩⟩
/-! ### The text -/
theorem freeze_far {w : World} {g n : Nat} {k : Nat} (hk : k ≠ g) : (w.freeze ⟨g, 0, none⟩ n).heap[k]? = w.heap[k]? := by
  unfold World.freeze
  split
  · rfl
  · simp only [Array.getElem?_modify]
    rw [if_neg (by omega)]
theorem freeze_same {w : World} {g n : Nat} : (w.freeze ⟨g, 0, none⟩ n).os = w.os ∧ (w.freeze ⟨g, 0, none⟩ n).tape = w.tape ∧ (w.freeze ⟨g, 0, none⟩ n).output = w.output ∧ (w.freeze ⟨g, 0, none⟩ n).heap.size = w.heap.size := by
  unfold World.freeze
  split
  · exact ⟨rfl, rfl, rfl, rfl⟩
  · exact ⟨rfl, rfl, rfl, by simp⟩
set_option maxHeartbeats 1000000 in
set_option maxRecDepth 100000 in
theorem string_walk (b g cap : Nat) (l : List UInt8) (cur : Array Value) (w : World) (h0 : l ≠ []) (hc1 : w.cell? ⟨b, 1, none⟩ = some (.slice (some ⟨g, 0, none⟩) l.length cap)) (hg : w.heap[g]? = some (.cells cur 5 (0, 0))) (hcap : cap ≠ 0) (hlen : l.length ≤ cur.size) (hl : l.length ≤ 9223372036854775807)
    (hcell : ∀ j x, l[j]? = some x → w.cell? ((⟨g, 0, none⟩ : Addr).add j) = some (.int .u8 x.toNat)) :
    Calls Tryz.prog 60 #[.pointer (some ⟨b, 0, none⟩)] w fun e w' => e = .returned (.string ⟨l.toArray⟩) ∧ w' = w.drew.freeze ⟨g, 0, none⟩ l.length := by
  have c1 : w.drew.cell? ⟨b, 1, none⟩ = some (.slice (some ⟨g, 0, none⟩) l.length cap) := hc1
  have mixed : Tryz.prog.follows .mixedOrders = true := by kernel_rfl
  have t174 : Tryz.prog.underlying 174 = some (.pointer 5) := by kernel_rfl
  have cb : Tryz.prog.cellsOf 5 = 1 := by kernel_rfl
  have hSD : (Builtin.unsafeSliceData_ #[97] 174 #[.slice (some ⟨g, 0, none⟩) l.length cap]).run Tryz.prog w.drew = .ok (.pointer (some ⟨g, 0, none⟩)) w.drew :=
    Lib.run_unsafeSliceData_row _ _ _ _ _ _ hcap
  have hUS : (Builtin.unsafeString_ #[174, 3] 9 #[.pointer (some ⟨g, 0, none⟩), .int .i64 l.length]).run Tryz.prog w.drew = .ok (.string ⟨l.toArray⟩) (w.drew.freeze ⟨g, 0, none⟩ l.length) := by
    refine Lib.run_unsafeString_row w.drew 174 3 9 5 t174 cb g cur.size (by have hg' : w.drew.heap[g]? = some (.cells cur 5 (0, 0)) := hg; simp [World.shape?, hg']) l h0 hlen hl ?_
    exact hcell
  clear hcell hcap
  go_enter Tryz.func60, Tryz.ntmps60
  go_wp2
  go_region_o
  all_goals (go_wp2; go_ret; exact ⟨rfl, rfl⟩)
theorem flat_oneB {α β : Type} (f : α → β) : ∀ l : List α, (l.map fun x => [f x]).flatten = l.map f
  | [] => rfl
  | x :: r => by rw [List.map_cons, List.flatten_cons, flat_oneB f r]; rfl
theorem String_ok (d0 : D) (ds : List D) (buf : List UInt8) (h0 : buf ≠ []) (hw : inI64 (buf.length : Int)) : SatH Tryz.prog f_strings_Builder_String [.ptr 1000 0] [(1000, .cells (d0 :: .own 2000 :: ds)), (2000, .row 5 .byte buf)] (.str ⟨buf.toArray⟩) [] := by
  intro w S vs pl hS hsz hv hh hg
  obtain ⟨b, e1, rfl⟩ := ptr_arg1 hsz (hv 0 _ rfl)
  obtain ⟨b', cs, T, eb, mb, zb, rb, tb⟩ := hh.ok 1000 _ rfl
  rw [e1] at eb; injection eb with eb; injection eb with eb; injection eb with eb; subst eb
  have zb : cs.size = ds.length + 1 + 1 := zb
  have h1 : cs.getD 1 undef = pl 2000 := rb 1 _ rfl
  have hc : w.cell? ⟨b, 1, none⟩ = some (cs.getD 1 undef) := by
    rw [cell_of_row w b 1 cs T (0, 0) mb]
    simp [Array.getD_eq_getD_getElem?, zb]
  obtain ⟨hlim, css, l3, h4, h5, h6⟩ := hh.ok 2000 _ rfl
  have hlim : buf.length * 1 ≤ 140737488355328 := hlim
  have hcss : css = buf.map fun x => [Value.int .u8 (x.toNat : Int)] := by
    apply List.ext_getElem?
    intro i
    rw [List.getElem?_map]
    cases hx : buf[i]? with
    | none =>
      have : buf.length ≤ i := List.getElem?_eq_none_iff.1 hx
      rw [List.getElem?_eq_none (by omega)]; rfl
    | some x =>
      have hi : i < buf.length := (List.getElem?_eq_some_iff.1 hx).1
      have hci : css[i]? = some (css[i]'(by omega)) := List.getElem?_eq_getElem (by omega)
      have : css[i]'(by omega) = [Value.int .u8 (x.toNat : Int)] := h6 i x _ hx hci
      rw [hci, this]; rfl
  have hflat : css.flatten = buf.map fun x => Value.int .u8 (x.toNat : Int) := by
    rw [hcss]; exact flat_oneB _ buf
  have hpos : 0 < buf.length := List.length_pos_iff.2 h0
  have hcells := h4
  rcases h4.2 with ⟨_, hz⟩ | ⟨g, cap, cur, e2, _, hgg, hnc, hcm, hcs, _⟩
  · omega
  rw [h1, e2] at hc
  have hcs : cur.size = cap := by rw [hcs]; exact Nat.mul_one _
  refine (string_walk b g cap buf cur w h0 hc hgg (by omega) (by omega) (by unfold inI64 at hw; omega) fun j x hx => ?_).mono fun e w' ⟨he, hw'⟩ => ?_
  · exact hcells.cells (g := g) (by rw [e2]; rfl) j _ (by rw [hflat, List.getElem?_map, hx]; rfl)
  · subst hw'
    obtain ⟨f1, f2, f3, f4⟩ := freeze_same (w := w.drew) (g := g) (n := buf.length)
    have hz : (⟨buf.toArray⟩ : ByteArray).size ≤ 140737488355328 := by show buf.toArray.size ≤ _; rw [List.size_toArray]; omega
    refine ⟨_, fun _ => False, pl, he, Rp.rd (.str _ hz), ⟨fun k o h => (by cases h), fun k o b h => (by cases h), fun k k' o o' b h => (by cases h)⟩, fun c h => h.elim, fun c h => h.elim, fun c ⟨k, o, h, _⟩ => (by cases h), fun _ _ => rfl, ⟨f1, f2, f3, by rw [f4]; exact Nat.le_refl _, fun c _ hn => freeze_far fun e => hn ⟨2000, _, rfl, by rw [e2, e]; rfl⟩⟩⟩
/-! ### What is written -/
theorem lies_ty (T : TypeId) (n : Nat) (h : memT bTys T n = true) : n = 2 ∧ T = 99 ∨ n = 6 ∧ T = 101 := by
  unfold bTys memT at h
  cases h1 : Nat.beq 99 T && Nat.beq 2 n with
  | true =>
    rw [Bool.and_eq_true] at h1
    exact .inl ⟨(Nat.eq_of_beq_eq_true h1.2).symm, (Nat.eq_of_beq_eq_true h1.1).symm⟩
  | false =>
    simp only [h1, cond_false] at h
    unfold memT at h
    cases h2 : Nat.beq 101 T && Nat.beq 6 n with
    | true =>
      rw [Bool.and_eq_true] at h2
      exact .inr ⟨(Nat.eq_of_beq_eq_true h2.2).symm, (Nat.eq_of_beq_eq_true h2.1).symm⟩
    | false => simp only [h2, cond_false] at h; cases h
theorem lies1 (T : TypeId) (n : Nat) (h : memT bTys T n = true) : liesAt Tryz.prog Tryz.prog.depth T (n / Tryz.prog.cellsOf T) 0 99 1 = true := by
  rcases lies_ty T n h with ⟨rfl, rfl⟩ | ⟨rfl, rfl⟩ <;> kernel_rfl
end Go.Proofs.YtogdmcebojiojaaGreatDoor

/- Numerals: the library's call, off the shelf, where the library's table lies as it was laid. -/
namespace Go.Proofs.YtogdmcebojiojaaGreatDoor
open Go.RowKit
set_option linter.unusedVariables false
set_option linter.unusedSimpArgs false

theorem itoaS_size {n : Int} (h : inI64 n) : (itoaS n).size ≤ 21 := by
  have := Lib.itoa_length_le n h.1 h.2
  simpa [itoaS, ByteArray.size] using this
theorem table_named : ∃ g, Tryz.prog.globalNamed "internal/strconv.uint64pow10" = some g := Option.isSome_iff_exists.1 (by kernel_rfl)
theorem itoa_ok {n : Int} (h : inI64 n) : Sat Tryz.prog f_strconv_Itoa [dI n] (.str (itoaS n)) := by
  intro w S vs hS hl hv hg
  obtain ⟨g, hgn⟩ := table_named
  have htab := (hg g hgn).1
  obtain ⟨e0, hz⟩ := (hv 0 _ rfl).int_inv
  have e : vs = #[.int .i64 n] := by
    have hl : vs.size = 1 := hl
    apply Array.ext
    · simpa using hl
    · intro i h1 h2
      have : i = 0 := by omega
      subst this
      simpa [Array.getD_eq_getD_getElem?, h1] using e0
  subst e
  refine (Tryz.strconv_Itoa n h.1 h.2 w htab).mono fun e w' ⟨he, k, os, hw⟩ => ?_
  subst hw
  exact ⟨_, he, .str (itoaS n) (Nat.le_trans (itoaS_size h) (by decide)), Lib.below_grow _ w (Nat.le_refl _) k os⟩
end Go.Proofs.YtogdmcebojiojaaGreatDoor

/- The program's printer: printed by gen_pprint1.py. -/
namespace Go.Proofs.YtogdmcebojiojaaGreatDoor
open Go.RowKit
set_option linter.unusedVariables false
set_option linter.unusedSimpArgs false

abbrev hpPr (mvs : List VarD) (mcs : List ConD) (goal mvar : Int) (buf : List UInt8) : List (Nat × HObj) :=
  [(1000, .cells [.slf 1000, .own 2000, .sl .var mvs, .sl .con mcs, dI goal, dI mvar]), (2000, .row 5 .byte buf)]
theorem isTok_size {s : ByteArray} (h : isTok 1 s.data.toList = true) : s.size ≤ 12 := by
  have hz : s.size = s.data.toList.length := rfl
  rw [hz]
  cases hd : s.data.toList with
  | nil => simp
  | cons c r =>
    rw [hd] at h
    simp only [isTok, Bool.and_eq_true, decide_eq_true_eq] at h
    obtain ⟨⟨⟨_, h1⟩, h2⟩, h3⟩ := h
    have h1 : (tokenAt (c :: r)).1 = 1 := by omega
    rw [h1, h2] at h3
    unfold tokBad at h3
    rw [if_neg (by decide)] at h3
    by_cases h4 : (c :: r).length > 12
    · rw [if_pos (.inl ⟨rfl, h4⟩)] at h3; cases h3
    · omega
theorem name_size {s : ByteArray} (h : isNameS s = true) : s.size ≤ 12 := by
  unfold isNameS at h
  rw [Bool.and_eq_true] at h
  exact isTok_size h.1
/-- Models that are printed: what is known of them. -/
structure PrOk (m : MdlD) : Prop where
  right : Right m
  names : ∀ v ∈ m.vars, v.name.size ≤ 12
  cons : ∀ c ∈ m.cons, RightC c m.vars.length
theorem varsE_names {vs : List VarD} (h : varsE vs = 0) : ∀ v ∈ vs, isNameS v.name = true := fun v hv => by
  obtain ⟨i, hi, rfl⟩ := List.getElem_of_mem hv
  have := firstE_zero vs 0 h i hi
  unfold varE at this
  split at this
  · exact absurd this (by decide)
  · rename_i h; cases hb : isNameS vs[i].name with
    | true => rfl
    | false => exact absurd hb h
theorem checkM_vars {m : MdlD} (h : checkM m = 0) : varsE m.vars = 0 := by
  unfold checkM at h
  split at h
  · exact absurd h (by decide)
  split at h
  · exact absurd h (by decide)
  split at h
  · rename_i h1; exact absurd h h1
  · rename_i h1; exact Decidable.of_not_not h1
theorem prOk {m : MdlD} (h : checkM m = 0) : PrOk m :=
  ⟨right_of h, fun v hv => name_size (varsE_names (checkM_vars h) v hv), fun c hc => rightC_of (right_of h).vars ((right_of h).con c hc)⟩
theorem small_i64 {n : Int} (h : -1000 ≤ n ∧ n ≤ 1000) : inI64 n := by unfold inI64; omega
theorem itoa_sz {n : Int} (h : -1000 ≤ n ∧ n ≤ 1000) : (itoaS n).size ≤ 21 := itoaS_size (small_i64 h)
theorem nmS_size {vs : List VarD} (h : ∀ v ∈ vs, v.name.size ≤ 12) (i : Int) : (nmS vs i).size ≤ 12 := by
  unfold nmS
  rcases Nat.lt_or_ge i.toNat vs.length with hi | hi
  · rw [atN (t := .var) hi]; exact h _ (List.getElem_mem hi)
  · show (vs.getD i.toNat Ty.var.dflt).name.size ≤ 12
    rw [List.getD_eq_getElem?_getD, List.getElem?_eq_none hi]; decide
theorem numsS_size {l : List Int} (h : ∀ n ∈ l, -1000 ≤ n ∧ n ≤ 1000) : (numsS l).size ≤ l.length * 23 + 2 := by
  have := brS_size (l := l.map itoaS) (B := 21) fun x hx => by
    obtain ⟨y, hy, rfl⟩ := List.mem_map.1 hx
    exact itoa_sz (h y hy)
  rw [List.length_map] at this
  exact this
theorem namesS_size {vs : List VarD} (h : ∀ v ∈ vs, v.name.size ≤ 12) (l : List Int) : (namesS vs l).size ≤ l.length * 14 + 2 := by
  have := brS_size (l := l.map (nmS vs)) (B := 12) fun x hx => by
    obtain ⟨y, hy, rfl⟩ := List.mem_map.1 hx
    exact nmS_size h y
  rw [List.length_map] at this
  exact this
theorem opS_size (o : Int) : (opS o).size ≤ 2 := by
  unfold opS
  rcases Nat.lt_or_ge (o - 1).toNat 4 with h | h
  · have h : (o - 1).toNat = 0 ∨ (o - 1).toNat = 1 ∨ (o - 1).toNat = 2 ∨ (o - 1).toNat = 3 := by omega
    rcases h with h | h | h | h <;> rw [h] <;> decide
  · show (opW.getD (o - 1).toNat Ty.str.dflt).size ≤ 2
    rw [List.getD_eq_getElem?_getD, List.getElem?_eq_none (by exact h)]; decide
theorem wdS_size (k : Int) : (wdS k).size ≤ 7 := by
  unfold wdS
  rcases Nat.lt_or_ge (k - 1).toNat 10 with h | h
  · have h : (k - 1).toNat = 0 ∨ (k - 1).toNat = 1 ∨ (k - 1).toNat = 2 ∨ (k - 1).toNat = 3 ∨ (k - 1).toNat = 4 ∨ (k - 1).toNat = 5 ∨ (k - 1).toNat = 6 ∨ (k - 1).toNat = 7 ∨ (k - 1).toNat = 8 ∨ (k - 1).toNat = 9 := by omega
    rcases h with h | h | h | h | h | h | h | h | h | h <;> rw [h] <;> decide
  · show (conW.getD (k - 1).toNat Ty.str.dflt).size ≤ 7
    rw [List.getD_eq_getElem?_getD, List.getElem?_eq_none (by exact h)]; decide
theorem litS_size {vs : List VarD} (h : ∀ v ∈ vs, v.name.size ≤ 12) {x : LitD} (hn : -1000 ≤ x.n ∧ x.n ≤ 1000) : (litS vs x).size ≤ 37 := by
  have h1 := nmS_size h x.var; have h2 := opS_size x.op; have h3 := itoa_sz hn
  unfold litS
  simp only [ByteArray.size_append, szA, List.size_toArray, List.length_cons, List.length_nil]
  omega
theorem litE_n {nv : Nat} {x : LitD} (h : litE nv x = 0) : (0 ≤ x.var ∧ x.var < nv) ∧ (1 ≤ x.op ∧ x.op ≤ 4) ∧ -1000 ≤ x.n ∧ x.n ≤ 1000 := by
  unfold litE at h
  split at h
  · exact absurd h (by decide)
  split at h
  · exact absurd h (by decide)
  split at h
  · exact absurd h (by decide)
  rename_i h1 h2 h3
  simp [noneB, farB, inR] at h1 h2 h3
  omega
/-! ### The library's calls -/
theorem rd_cells_str {w : World} {S : Nat → Prop} {A : Option Addr} {n c : Nat} {xs : List ByteArray} (h : RdV w S (.slice A n c) xs) (hn : 0 < xs.length) :
    ∃ b o, A = some ⟨b, o, none⟩ ∧ S b ∧ ∀ j x, xs[j]? = some x → w.cell? ⟨b, o + j, none⟩ = some (.string x) := by
  obtain ⟨b, o, rfl, hb, _⟩ := rdV_at_str h hn
  refine ⟨b, o, rfl, hb, fun j x hx => ?_⟩
  obtain ⟨hj, rfl⟩ := List.getElem?_eq_some_iff.1 hx
  obtain ⟨b', o', e, _, hc, _⟩ := rdV_at_str h hj
  injection e with e; injection e with e1 e2
  subst e1 e2; exact hc
theorem join_ok (xs : List ByteArray) (sep : ByteArray) (hlen : (Lib.join (xs.map fun x => x.data.toList) sep.data.toList).length ≤ 140737488355328) :
    Sat Tryz.prog f_strings_Join [.sl .str xs, .str sep] (.str ⟨(Lib.join (xs.map fun x => x.data.toList) sep.data.toList).toArray⟩) := by
  intro w S vs hS hl hv _
  have h0 := (hv 0 _ rfl).sl_inv
  obtain ⟨e1, _⟩ := (hv 1 _ rfl).str_inv
  have hl : vs.size = 2 := hl
  obtain ⟨A', c', e2, hsl⟩ := rdV_list h0
  rw [e2] at h0
  have e : vs = #[.slice A' xs.length c', .string sep] := by
    apply Array.ext
    · simpa using hl
    · intro i h1 h2
      have : i = 0 ∨ i = 1 := by omega
      rcases this with rfl | rfl
      · simpa [Array.getD_eq_getD_getElem?, h1] using e2
      · simpa [Array.getD_eq_getD_getElem?, h1] using e1
  subst e
  have hz : (⟨(Lib.join (xs.map fun x => x.data.toList) sep.data.toList).toArray⟩ : ByteArray).size ≤ 140737488355328 := by
    show (Lib.join (xs.map fun x => x.data.toList) sep.data.toList).toArray.size ≤ _
    rw [List.size_toArray]; exact hlen
  by_cases hx : xs = []
  · subst hx
    refine (Tryz.strings_Join_none A' c' sep w).mono fun e w' ⟨he, hw⟩ => ?_
    subst hw
    exact ⟨_, he, .str _ hz, Below.refl _ _⟩
  · have hpos : 0 < xs.length := List.length_pos_iff.2 hx
    obtain ⟨b, o, rfl, hb, hc⟩ := rd_cells_str h0 hpos
    have hlim : xs.length ≤ 140737488355328 := by
      have h1 := (rp_okC (Rp.sl .str xs _ h0)).1
      have h1 : xs.length * 16 ≤ 140737488355328 := h1
      omega
    exact (Tryz.strings_Join b o c' xs sep w hc (hS b hb) hlim hsl.cap hlen).mono fun e w' ⟨he, hw⟩ => ⟨_, he, .str _ hz, hw⟩
theorem text_words_pr : Sat Tryz.prog f_text_words [] (.sl .str conW) := text_words_sat fun ok => by rw [text_words_eq]; rfl
theorem brS_join {l : List ByteArray} {B : Nat} (h : ∀ x ∈ l, x.size ≤ B) (hB : B ≤ 1000000) (hl : l.length ≤ 1000000) : Sat Tryz.prog f_strings_Join [.sl .str l, .str ⟨#[44, 32]⟩] (toD .str ⟨(Lib.join (l.map fun x => x.data.toList) [44, 32]).toArray⟩) ∧ (⟨(Lib.join (l.map fun x => x.data.toList) [44, 32]).toArray⟩ : ByteArray).size ≤ 1000000 * 1000002 := by
  have h1 := join_len (sep := [44, 32]) (B := B) (l.map fun x => x.data.toList) fun x hx => by
    obtain ⟨y, hy, rfl⟩ := List.mem_map.1 hx
    exact h y hy
  rw [List.length_map, show ([44, 32] : List UInt8).length = 2 from rfl] at h1
  have h2 := Nat.mul_le_mul hl (show B + 2 ≤ 1000002 by omega)
  refine ⟨join_ok l _ (by show (Lib.join (l.map fun x => x.data.toList) [44, 32]).length ≤ _; omega), ?_⟩
  rw [szA, List.size_toArray]; omega
theorem print_v_ok {mvs : List VarD} {mcs : List ConD} {goal mvar : Int} {buf : List UInt8} {n : Int} (h : 0 ≤ n ∧ n < mvs.length) : SatH Tryz.prog f_text_printer_v [.ptr 1000 0, dI n] (hpPr mvs mcs goal mvar buf) (.str (nmS mvs n)) (hpPr mvs mcs goal mvar buf) :=
  text_printer_v_sat _ _ _ _ _ _ fun ok ok2 => by
    rw [text_printer_v_eq]
    exact ⟨inb_iff.2 ⟨h.1, by omega⟩, rfl, rfl⟩
theorem text_each_int_k_ok (xs : List Int) (hx : xs.length ≤ 1000000) (hy : ∀ n ∈ xs, -1000 ≤ n ∧ n ≤ 1000) : SatH Tryz.prog f_text_each_int [.sl .int xs, .clo f_strconv_Itoa none []] [] (.str (numsS xs)) [] :=
  text_each_int_k_sat _ fun ok ok2 => by
    have hl : xs.length ≤ 9223372036854775807 := by omega
    rw [text_each_int_k_eq]
    have hb : ∀ x ∈ xs.map (itoaS), x.size ≤ 21 := fun x hx => by
      obtain ⟨y, hy, rfl⟩ := List.mem_map.1 hx
      exact itoa_sz (‹∀ n ∈ xs, -1000 ≤ n ∧ n ≤ 1000› y hy)
    refine up (I := fun n v (a : List ByteArray) => text_each_int_k_I0 xs _ n v a) (a := []) 0 xs.length rfl (Nat.zero_le _) hl (fun k a => a = (xs.take k).map (itoaS)) rfl fun n k a _ hk ha hn => ?_
    subst ha
    rw [text_each_int_k_I0_eq]
    by_cases hlt : k < xs.length
    · rw [sel_lt hlt, at_nat (t := .int) hlt]
      have hnx := hn hlt _ (map_take (itoaS) hlt).symm
      have hroom : room .str (((xs.take k).map (itoaS)).length + [(itoaS) xs[k]].length) = true := room_of (t := .str) (by rw [List.length_map, List.length_take]; show (_ + 1) * 16 ≤ _; omega)
      exact ⟨inb_nat hlt, call1 (t := .str) (itoa_ok (small_i64 (hy _ (List.getElem_mem hlt)))) ⟨hroom, hnx⟩⟩
    · have e : k = xs.length := by omega
      subst e
      rw [sel_end, List.take_length]
      obtain ⟨h1, h2⟩ := brS_join hb (by decide) (by rw [List.length_map]; exact hx)
      refine call1 (t := .str) h1 ⟨?_, ?_, rfl, rfl⟩
      · simp only [ByteArray.size_append, szA, List.size_toArray, List.length_cons, List.length_nil] at h2 ⊢; omega
      · simp only [ByteArray.size_append, szA, List.size_toArray, List.length_cons, List.length_nil] at h2 ⊢; omega
theorem text_each_int_v_ok {mvs : List VarD} {mcs : List ConD} {goal mvar : Int} {buf : List UInt8} (hnm : ∀ v ∈ mvs, v.name.size ≤ 12) (xs : List Int) (hx : xs.length ≤ 1000000) (hy : ∀ n ∈ xs, 0 ≤ n ∧ n < mvs.length) : SatH Tryz.prog f_text_each_int [.sl .int xs, .clp f_text_printer_v true 1000 0] (hpPr mvs mcs goal mvar buf) (.str (namesS mvs xs)) (hpPr mvs mcs goal mvar buf) :=
  text_each_int_v_sat _ _ _ _ _ _ fun ok ok2 => by
    have hl : xs.length ≤ 9223372036854775807 := by omega
    rw [text_each_int_v_eq]
    have hb : ∀ x ∈ xs.map (nmS mvs), x.size ≤ 12 := fun x hx => by
      obtain ⟨y, hy, rfl⟩ := List.mem_map.1 hx
      exact nmS_size hnm y
    refine up (I := fun n v (a : List ByteArray) => text_each_int_v_I0 xs mvs mcs goal mvar _ n v a buf) (a := []) 0 xs.length rfl (Nat.zero_le _) hl (fun k a => a = (xs.take k).map (nmS mvs)) rfl fun n k a _ hk ha hn => ?_
    subst ha
    rw [text_each_int_v_I0_eq]
    by_cases hlt : k < xs.length
    · rw [sel_lt hlt, at_nat (t := .int) hlt]
      have hnx := hn hlt _ (map_take (nmS mvs) hlt).symm
      have hroom : room .str (((xs.take k).map (nmS mvs)).length + [(nmS mvs) xs[k]].length) = true := room_of (t := .str) (by rw [List.length_map, List.length_take]; show (_ + 1) * 16 ≤ _; omega)
      exact ⟨inb_nat hlt, _, print_v_ok (hy _ (List.getElem_mem hlt)), hroom, hnx⟩
    · have e : k = xs.length := by omega
      subst e
      rw [sel_end, List.take_length]
      obtain ⟨h1, h2⟩ := brS_join hb (by decide) (by rw [List.length_map]; exact hx)
      refine call1 (t := .str) h1 ⟨?_, ?_, rfl, rfl⟩
      · simp only [ByteArray.size_append, szA, List.size_toArray, List.length_cons, List.length_nil] at h2 ⊢; omega
      · simp only [ByteArray.size_append, szA, List.size_toArray, List.length_cons, List.length_nil] at h2 ⊢; omega
theorem print_con1_ok (xs : List Int) (hx : xs.length ≤ 1000000) (hy : ∀ n ∈ xs, -1000 ≤ n ∧ n ≤ 1000) : Sat Tryz.prog f_text_printer_con_1 [.sl .int xs] (.str (numsS xs)) :=
  text_printer_con_1_sat xs fun ok => by
    rw [text_printer_con_1_eq]
    exact ⟨_, text_each_int_k_ok xs hx hy, rfl⟩
theorem ent_con1 : Ent Tryz.prog f_text_printer_con_1 := fun args w => Tryz.call108 args w
theorem text_each_l_int_ok (xs : List (List Int)) (hx : xs.length ≤ 1000) (hz : ∀ r ∈ xs, r.length ≤ 1000) (hy : ∀ r ∈ xs, ∀ n ∈ r, -1000 ≤ n ∧ n ≤ 1000) : Sat Tryz.prog f_text_each_l_int [dS xs, .clo f_text_printer_con_1 none []] (.str (brS (xs.map numsS))) :=
  Sat.clo (pre := [_]) (text_each_l_int_sat xs f_text_printer_con_1 [] fun ok => by
    have hl : xs.length ≤ 9223372036854775807 := by omega
    rw [text_each_l_int_eq]
    have hb : ∀ x ∈ xs.map numsS, x.size ≤ 23002 := fun x hx => by
      obtain ⟨y, hy', rfl⟩ := List.mem_map.1 hx
      have := numsS_size (hy y hy'); have := hz y hy'
      omega
    refine up (I := fun n v (a : List ByteArray) => text_each_l_int_I0 xs f_text_printer_con_1 [] _ n v a) (a := []) 0 xs.length rfl (Nat.zero_le _) hl (fun k a => a = (xs.take k).map numsS) rfl fun n k a _ hk ha hn => ?_
    subst ha
    rw [text_each_l_int_I0_eq]
    by_cases hlt : k < xs.length
    · rw [sel_lt hlt, at_nat (t := .list .int) hlt]
      have hnx := hn hlt _ (map_take numsS hlt).symm
      have hroom : room .str (((xs.take k).map numsS).length + [numsS xs[k]].length) = true := room_of (t := .str) (by rw [List.length_map, List.length_take]; show (_ + 1) * 16 ≤ _; omega)
      exact ⟨inb_nat hlt, ent_con1, call1 (t := .str) (print_con1_ok _ (by have := hz _ (List.getElem_mem hlt); omega) (hy _ (List.getElem_mem hlt))) ⟨hroom, hnx⟩⟩
    · have e : k = xs.length := by omega
      subst e
      rw [sel_end, List.take_length]
      obtain ⟨h1, h2⟩ := brS_join hb (by decide) (by rw [List.length_map]; omega)
      refine call1 (t := .str) h1 ⟨?_, ?_, rfl⟩
      · simp only [ByteArray.size_append, szA, List.size_toArray, List.length_cons, List.length_nil] at h2 ⊢; omega
      · simp only [ByteArray.size_append, szA, List.size_toArray, List.length_cons, List.length_nil] at h2 ⊢; omega)
theorem w64_less {n : Int} (h : 1 ≤ n ∧ n ≤ 1000) : w64 (n - 1) = n - 1 := w64_eq (by omega) (by omega)
theorem print_lit_ok {mvs : List VarD} {mcs : List ConD} {goal mvar : Int} {buf : List UInt8} (hnm : ∀ v ∈ mvs, v.name.size ≤ 12) {x : LitD} (hx : litE mvs.length x = 0) : SatH Tryz.prog f_text_printer_lit [.ptr 1000 0, dL x] (hpPr mvs mcs goal mvar buf) (.str (litS mvs x)) (hpPr mvs mcs goal mvar buf) :=
  text_printer_lit_sat _ _ _ _ _ _ fun ok ok2 => by
    obtain ⟨h1, h2, h3⟩ := litE_n hx
    rw [text_printer_lit_eq, w64_less (by omega)]
    have z1 := nmS_size hnm x.var; have z2 := opS_size x.op; have z3 := itoa_sz h3
    have z2 : (at' .str ([(⟨#[60, 61]⟩ : ByteArray), (⟨#[62, 61]⟩ : ByteArray), (⟨#[61, 61]⟩ : ByteArray), (⟨#[33, 61]⟩ : ByteArray)]) ((x.op - 1).toNat)).size ≤ 2 := z2
    refine ⟨inb_iff.2 ⟨by omega, by show x.op - 1 < ((4 : Nat) : Int); omega⟩, _, print_v_ok h1, ?_, ?_, ?_, call1 (t := .str) (itoa_ok (small_i64 h3)) ⟨?_, rfl, rfl⟩⟩
    all_goals (simp only [ByteArray.size_append, szA, List.size_toArray, List.length_cons, List.length_nil]; omega)
theorem text_each_api_Lit_l_ok {mvs : List VarD} {mcs : List ConD} {goal mvar : Int} {buf : List UInt8} (hnm : ∀ v ∈ mvs, v.name.size ≤ 12) (xs : List LitD) (hx : xs.length ≤ 1000000) (hy : ∀ x ∈ xs, litE mvs.length x = 0) : SatH Tryz.prog f_text_each_api_Lit [.sl .lit xs, .clp f_text_printer_lit true 1000 0] (hpPr mvs mcs goal mvar buf) (.str (brS (xs.map (litS mvs)))) (hpPr mvs mcs goal mvar buf) :=
  text_each_api_Lit_l_sat _ _ _ _ _ _ fun ok ok2 => by
    have hl : xs.length ≤ 9223372036854775807 := by omega
    rw [text_each_api_Lit_l_eq]
    have hb : ∀ x ∈ xs.map (litS mvs), x.size ≤ 37 := fun x hx => by
      obtain ⟨y, hy, rfl⟩ := List.mem_map.1 hx
      exact litS_size hnm (litE_n (‹∀ x ∈ xs, litE mvs.length x = 0› y hy)).2.2
    refine up (I := fun n v (a : List ByteArray) => text_each_api_Lit_l_I0 xs _ n v a mvs mcs goal mvar buf) (a := []) 0 xs.length rfl (Nat.zero_le _) hl (fun k a => a = (xs.take k).map (litS mvs)) rfl fun n k a _ hk ha hn => ?_
    subst ha
    rw [text_each_api_Lit_l_I0_eq]
    by_cases hlt : k < xs.length
    · rw [sel_lt hlt, at_nat (t := .lit) hlt]
      have hnx := hn hlt _ (map_take (litS mvs) hlt).symm
      have hroom : room .str (((xs.take k).map (litS mvs)).length + [(litS mvs) xs[k]].length) = true := room_of (t := .str) (by rw [List.length_map, List.length_take]; show (_ + 1) * 16 ≤ _; omega)
      exact ⟨inb_nat hlt, _, print_lit_ok hnm (hy _ (List.getElem_mem hlt)), hroom, hnx⟩
    · have e : k = xs.length := by omega
      subst e
      rw [sel_end, List.take_length]
      obtain ⟨h1, h2⟩ := brS_join hb (by decide) (by rw [List.length_map]; exact hx)
      refine call1 (t := .str) h1 ⟨?_, ?_, rfl, rfl⟩
      · simp only [ByteArray.size_append, szA, List.size_toArray, List.length_cons, List.length_nil] at h2 ⊢; omega
      · simp only [ByteArray.size_append, szA, List.size_toArray, List.length_cons, List.length_nil] at h2 ⊢; omega
end Go.Proofs.YtogdmcebojiojaaGreatDoor

/- The program's printer: constraints, whole models: printed by gen_pprint2.py. -/
namespace Go.Proofs.YtogdmcebojiojaaGreatDoor
open Go.RowKit
set_option linter.unusedVariables false
set_option linter.unusedSimpArgs false

theorem kind_cases {c : ConD} {nv : Nat} (h : RightC c nv) : c.kind = 1 ∨ c.kind = 2 ∨ c.kind = 3 ∨ c.kind = 4 ∨ c.kind = 5 ∨ c.kind = 6 ∨ c.kind = 7 ∨ c.kind = 8 ∨ c.kind = 9 ∨ c.kind = 10 := by
  have := h.kind; omega
theorem form_len {c : ConD} {nv : Nat} (h : RightC c nv) : (c.kind = 5 → c.vars.length = 2) ∧ (c.kind = 7 → c.vars.length = 3) ∧ (c.kind = 8 → 2 ≤ c.vars.length) ∧ (c.kind = 10 → c.vars.length = 1 ∧ c.lits.length = 1) ∧ (c.kind = 6 → ∀ r ∈ c.rows, r.length = c.vars.length) := by
  have hf := h.form
  refine ⟨fun hk => ?_, fun hk => ?_, fun hk => ?_, fun hk => ?_, fun hk => ?_⟩ <;> unfold formB at hf <;> simp [hk] at hf
  · exact hf.2.1.1.1
  · exact hf.2.1.1.1
  · exact hf.2.1.1.1
  · exact ⟨hf.2.1.1.1, hf.2.2⟩
  · exact hf.2.1.1.1
theorem conS_1 {vs : List VarD} {c : ConD} (hk : c.kind = 1) : conS vs c = (((((wdS c.kind ++ ⟨#[32]⟩) ++ numsS c.consts) ++ ⟨#[32]⟩) ++ namesS vs c.vars) ++ ⟨#[32]⟩) ++ itoaS c.n := by
  unfold conS
  rw [if_pos (by omega)]
theorem conS_2 {vs : List VarD} {c : ConD} (hk : c.kind = 2) : conS vs c = (((((wdS c.kind ++ ⟨#[32]⟩) ++ numsS c.consts) ++ ⟨#[32]⟩) ++ namesS vs c.vars) ++ ⟨#[32]⟩) ++ itoaS c.n := by
  unfold conS
  rw [if_pos (by omega)]
theorem conS_3 {vs : List VarD} {c : ConD} (hk : c.kind = 3) : conS vs c = (((((wdS c.kind ++ ⟨#[32]⟩) ++ numsS c.consts) ++ ⟨#[32]⟩) ++ namesS vs c.vars) ++ ⟨#[32]⟩) ++ itoaS c.n := by
  unfold conS
  rw [if_pos (by omega)]
theorem conS_4 {vs : List VarD} {c : ConD} (hk : c.kind = 4) : conS vs c = (wdS c.kind ++ ⟨#[32]⟩) ++ namesS vs c.vars := by
  unfold conS
  rw [if_neg (by omega), if_pos hk]
theorem conS_5 {vs : List VarD} {c : ConD} (hk : c.kind = 5) : conS vs c = (((((wdS c.kind ++ ⟨#[32]⟩) ++ numsS c.consts) ++ ⟨#[32]⟩) ++ nmS vs (at' .int c.vars 0)) ++ ⟨#[32]⟩) ++ nmS vs (at' .int c.vars 1) := by
  unfold conS
  rw [if_neg (by omega), if_neg (by omega), if_pos hk]
theorem conS_6 {vs : List VarD} {c : ConD} (hk : c.kind = 6) : conS vs c = (((wdS c.kind ++ ⟨#[32]⟩) ++ namesS vs c.vars) ++ ⟨#[32]⟩) ++ brS (c.rows.map numsS) := by
  unfold conS
  rw [if_neg (by omega), if_neg (by omega), if_neg (by omega), if_pos hk]
theorem conS_7 {vs : List VarD} {c : ConD} (hk : c.kind = 7) : conS vs c = (((((wdS c.kind ++ ⟨#[32]⟩) ++ nmS vs (at' .int c.vars 0)) ++ ⟨#[32]⟩) ++ nmS vs (at' .int c.vars 1)) ++ ⟨#[32]⟩) ++ nmS vs (at' .int c.vars 2) := by
  unfold conS
  rw [if_neg (by omega), if_neg (by omega), if_neg (by omega), if_neg (by omega), if_pos hk]
theorem conS_8 {vs : List VarD} {c : ConD} (hk : c.kind = 8) : conS vs c = (((wdS c.kind ++ ⟨#[32]⟩) ++ nmS vs (at' .int c.vars 0)) ++ ⟨#[32]⟩) ++ namesS vs (c.vars.drop 1) := by
  unfold conS
  rw [if_neg (by omega), if_neg (by omega), if_neg (by omega), if_neg (by omega), if_neg (by omega), if_pos hk]
theorem conS_9 {vs : List VarD} {c : ConD} (hk : c.kind = 9) : conS vs c = (wdS c.kind ++ ⟨#[32]⟩) ++ brS (c.lits.map (litS vs)) := by
  unfold conS
  rw [if_neg (by omega), if_neg (by omega), if_neg (by omega), if_neg (by omega), if_neg (by omega), if_neg (by omega), if_pos hk]
theorem conS_10 {vs : List VarD} {c : ConD} (hk : c.kind = 10) : conS vs c = (((wdS c.kind ++ ⟨#[32]⟩) ++ nmS vs (at' .int c.vars 0)) ++ ⟨#[32]⟩) ++ litS vs (at' .lit c.lits 0) := by
  unfold conS
  rw [if_neg (by omega), if_neg (by omega), if_neg (by omega), if_neg (by omega), if_neg (by omega), if_neg (by omega), if_neg (by omega)]
theorem getI_mem {l : List Int} {i : Nat} (h : i < l.length) : at' .int l i ∈ l := by rw [atN (t := .int) h]; exact List.getElem_mem h
theorem getL_mem {l : List LitD} {i : Nat} (h : i < l.length) : at' .lit l i ∈ l := by rw [atN (t := .lit) h]; exact List.getElem_mem h
theorem rows_size {c : ConD} {nv : Nat} (h : RightC c nv) (hk : c.kind = 6) : (brS (c.rows.map numsS)).size ≤ 1922 := by
  have hl := (form_len h).2.2.2.2 hk
  have hm := h.many
  have := brS_size (l := c.rows.map numsS) (B := 94) fun x hx => by
    obtain ⟨r, hr, rfl⟩ := List.mem_map.1 hx
    have := numsS_size (h.rows r hr); have := hl r hr
    omega
  rw [List.length_map] at this
  omega
theorem lits_size {vs : List VarD} (hnm : ∀ v ∈ vs, v.name.size ≤ 12) {c : ConD} (h : RightC c vs.length) : (brS (c.lits.map (litS vs))).size ≤ 158 := by
  have hm := h.many
  have := brS_size (l := c.lits.map (litS vs)) (B := 37) fun x hx => by
    obtain ⟨r, hr, rfl⟩ := List.mem_map.1 hx
    exact litS_size hnm (litE_n (h.lits r hr)).2.2
  rw [List.length_map] at this
  omega
theorem conS_size {vs : List VarD} (hnm : ∀ v ∈ vs, v.name.size ≤ 12) {c : ConD} (h : RightC c vs.length) : (conS vs c).size ≤ 2000 := by
  have z0 : (wdS c.kind).size ≤ 7 := wdS_size c.kind
  have z1 := numsS_size h.consts
  have z2 := namesS_size hnm c.vars
  have z3 := itoa_sz h.n
  have z4 := nmS_size hnm (at' .int c.vars 0)
  have z5 := nmS_size hnm (at' .int c.vars 1)
  have z6 := nmS_size hnm (at' .int c.vars 2)
  have z7 := namesS_size hnm (c.vars.drop 1)
  have z8 := lits_size hnm h
  have hd : (c.vars.drop 1).length = c.vars.length - 1 := List.length_drop
  have hm := h.many
  have hf := form_len h
  rcases kind_cases h with hk | hk | hk | hk | hk | hk | hk | hk | hk | hk
  · rw [conS_1 hk]
    simp only [ByteArray.size_append, szA, List.size_toArray, List.length_cons, List.length_nil]; omega
  · rw [conS_2 hk]
    simp only [ByteArray.size_append, szA, List.size_toArray, List.length_cons, List.length_nil]; omega
  · rw [conS_3 hk]
    simp only [ByteArray.size_append, szA, List.size_toArray, List.length_cons, List.length_nil]; omega
  · rw [conS_4 hk]
    simp only [ByteArray.size_append, szA, List.size_toArray, List.length_cons, List.length_nil]; omega
  · rw [conS_5 hk]
    simp only [ByteArray.size_append, szA, List.size_toArray, List.length_cons, List.length_nil]; omega
  · rw [conS_6 hk]
    have z9 := rows_size h hk
    simp only [ByteArray.size_append, szA, List.size_toArray, List.length_cons, List.length_nil]; omega
  · rw [conS_7 hk]
    simp only [ByteArray.size_append, szA, List.size_toArray, List.length_cons, List.length_nil]; omega
  · rw [conS_8 hk]
    simp only [ByteArray.size_append, szA, List.size_toArray, List.length_cons, List.length_nil]; omega
  · rw [conS_9 hk]
    simp only [ByteArray.size_append, szA, List.size_toArray, List.length_cons, List.length_nil]; omega
  · rw [conS_10 hk]
    have z9 := litS_size hnm (litE_n (h.lits _ (getL_mem (i := 0) (by have := hf.2.2.2.1 hk; omega)))).2.2
    simp only [ByteArray.size_append, szA, List.size_toArray, List.length_cons, List.length_nil]; omega
theorem print_con_ok {mvs : List VarD} {mcs : List ConD} {goal mvar : Int} {buf : List UInt8} (hnm : ∀ v ∈ mvs, v.name.size ≤ 12) {c : ConD} (h : RightC c mvs.length) : SatH Tryz.prog f_text_printer_con [.ptr 1000 0, dC c] (hpPr mvs mcs goal mvar buf) (.str (conS mvs c)) (hpPr mvs mcs goal mvar buf) :=
  text_printer_con_sat _ _ _ _ _ _ fun ok ok2 => by
    have hkk := h.kind
    have z0 : (at' .str conW (c.kind - 1).toNat).size ≤ 7 := wdS_size c.kind
    have z1 := numsS_size h.consts
    have z2 := namesS_size hnm c.vars
    have z3 := itoa_sz h.n
    have z4 := nmS_size hnm (at' .int c.vars 0)
    have z5 := nmS_size hnm (at' .int c.vars 1)
    have z6 := nmS_size hnm (at' .int c.vars 2)
    have z7 := namesS_size hnm (c.vars.drop 1)
    have z8 := lits_size hnm h
    have hd : (c.vars.drop 1).length = c.vars.length - 1 := List.length_drop
    have hm := h.many
    have hf := form_len h
    rw [text_printer_con_eq]
    refine call1 (t := .list .str) text_words_pr ?_
    rw [w64_less (by omega)]
    refine ⟨inb_iff.2 ⟨by omega, by show c.kind - 1 < ((10 : Nat) : Int); omega⟩, (by simp only [ByteArray.size_append, szA, List.size_toArray, List.length_cons, List.length_nil]; omega), ?_⟩
    have hv := h.vars
    have vo : ∀ i, i < c.vars.length → SatH Tryz.prog f_text_printer_v [.ptr 1000 0, dI (at' .int c.vars i)] (hpPr mvs mcs goal mvar buf) (.str (nmS mvs (at' .int c.vars i))) (hpPr mvs mcs goal mvar buf) := fun i hi => print_v_ok (hv _ (getI_mem hi))
    rcases kind_cases h with hk | hk | hk | hk | hk | hk | hk | hk | hk | hk
    · exact dt hk (call1 (t := .str) (print_con1_ok c.consts (by omega) h.consts) ⟨(by simp only [ByteArray.size_append, szA, List.size_toArray, List.length_cons, List.length_nil]; omega), (by simp only [ByteArray.size_append, szA, List.size_toArray, List.length_cons, List.length_nil]; omega), _, text_each_int_v_ok hnm c.vars (by omega) h.vars, (by simp only [ByteArray.size_append, szA, List.size_toArray, List.length_cons, List.length_nil]; omega), (by simp only [ByteArray.size_append, szA, List.size_toArray, List.length_cons, List.length_nil]; omega), call1 (t := .str) (itoa_ok (small_i64 h.n)) ⟨(by simp only [ByteArray.size_append, szA, List.size_toArray, List.length_cons, List.length_nil]; omega), congrArg D.str (conS_1 hk).symm, rfl⟩⟩)
    · exact df (by omega) (dt hk (call1 (t := .str) (print_con1_ok c.consts (by omega) h.consts) ⟨(by simp only [ByteArray.size_append, szA, List.size_toArray, List.length_cons, List.length_nil]; omega), (by simp only [ByteArray.size_append, szA, List.size_toArray, List.length_cons, List.length_nil]; omega), _, text_each_int_v_ok hnm c.vars (by omega) h.vars, (by simp only [ByteArray.size_append, szA, List.size_toArray, List.length_cons, List.length_nil]; omega), (by simp only [ByteArray.size_append, szA, List.size_toArray, List.length_cons, List.length_nil]; omega), call1 (t := .str) (itoa_ok (small_i64 h.n)) ⟨(by simp only [ByteArray.size_append, szA, List.size_toArray, List.length_cons, List.length_nil]; omega), congrArg D.str (conS_2 hk).symm, rfl⟩⟩))
    · exact df (by omega) (df (by omega) (dt hk (call1 (t := .str) (print_con1_ok c.consts (by omega) h.consts) ⟨(by simp only [ByteArray.size_append, szA, List.size_toArray, List.length_cons, List.length_nil]; omega), (by simp only [ByteArray.size_append, szA, List.size_toArray, List.length_cons, List.length_nil]; omega), _, text_each_int_v_ok hnm c.vars (by omega) h.vars, (by simp only [ByteArray.size_append, szA, List.size_toArray, List.length_cons, List.length_nil]; omega), (by simp only [ByteArray.size_append, szA, List.size_toArray, List.length_cons, List.length_nil]; omega), call1 (t := .str) (itoa_ok (small_i64 h.n)) ⟨(by simp only [ByteArray.size_append, szA, List.size_toArray, List.length_cons, List.length_nil]; omega), congrArg D.str (conS_3 hk).symm, rfl⟩⟩)))
    · exact df (by omega) (df (by omega) (df (by omega) (dt hk (⟨_, text_each_int_v_ok hnm c.vars (by omega) h.vars, (by simp only [ByteArray.size_append, szA, List.size_toArray, List.length_cons, List.length_nil]; omega), congrArg D.str (conS_4 hk).symm, rfl⟩))))
    · have hlen := hf.1 hk
      exact df (by omega) (df (by omega) (df (by omega) (df (by omega) (dt hk (call1 (t := .str) (print_con1_ok c.consts (by omega) h.consts) ⟨(by simp only [ByteArray.size_append, szA, List.size_toArray, List.length_cons, List.length_nil]; omega), (by simp only [ByteArray.size_append, szA, List.size_toArray, List.length_cons, List.length_nil]; omega), inb_nat (k := 0) (by omega), inb_nat (k := 1) (by omega), _, vo 0 (by omega), (by simp only [ByteArray.size_append, szA, List.size_toArray, List.length_cons, List.length_nil]; omega), (by simp only [ByteArray.size_append, szA, List.size_toArray, List.length_cons, List.length_nil]; omega), _, vo 1 (by omega), (by simp only [ByteArray.size_append, szA, List.size_toArray, List.length_cons, List.length_nil]; omega), congrArg D.str (conS_5 hk).symm, rfl⟩)))))
    · have z9 := rows_size h hk
      exact df (by omega) (df (by omega) (df (by omega) (df (by omega) (df (by omega) (dt hk (⟨_, text_each_int_v_ok hnm c.vars (by omega) h.vars, (by simp only [ByteArray.size_append, szA, List.size_toArray, List.length_cons, List.length_nil]; omega), (by simp only [ByteArray.size_append, szA, List.size_toArray, List.length_cons, List.length_nil]; omega), call1 (t := .str) (text_each_l_int_ok c.rows (by omega) (fun r hr => by have := hf.2.2.2.2 hk r hr; omega) h.rows) ⟨(by simp only [ByteArray.size_append, szA, List.size_toArray, List.length_cons, List.length_nil]; omega), congrArg D.str (conS_6 hk).symm, rfl⟩⟩))))))
    · have hlen := hf.2.1 hk
      exact df (by omega) (df (by omega) (df (by omega) (df (by omega) (df (by omega) (df (by omega) (dt hk (⟨inb_nat (k := 0) (by omega), inb_nat (k := 1) (by omega), inb_nat (k := 2) (by omega), _, vo 0 (by omega), (by simp only [ByteArray.size_append, szA, List.size_toArray, List.length_cons, List.length_nil]; omega), (by simp only [ByteArray.size_append, szA, List.size_toArray, List.length_cons, List.length_nil]; omega), _, vo 1 (by omega), (by simp only [ByteArray.size_append, szA, List.size_toArray, List.length_cons, List.length_nil]; omega), (by simp only [ByteArray.size_append, szA, List.size_toArray, List.length_cons, List.length_nil]; omega), _, vo 2 (by omega), (by simp only [ByteArray.size_append, szA, List.size_toArray, List.length_cons, List.length_nil]; omega), congrArg D.str (conS_7 hk).symm, rfl⟩)))))))
    · have hlen := hf.2.2.1 hk
      rw [show (c.vars.take (c.vars.length : Int).toNat) = c.vars from by rw [Int.toNat_natCast, List.take_length]]
      exact df (by omega) (df (by omega) (df (by omega) (df (by omega) (df (by omega) (df (by omega) (df (by omega) (dt hk ((fun h => ⟨inb_nat (k := 0) (by omega), by unfold inSl; simp; omega, h, h⟩) ⟨_, vo 0 (by omega), (by simp only [ByteArray.size_append, szA, List.size_toArray, List.length_cons, List.length_nil]; omega), (by simp only [ByteArray.size_append, szA, List.size_toArray, List.length_cons, List.length_nil]; omega), _, text_each_int_v_ok hnm (c.vars.drop 1) (by omega) (fun x hx => hv x (List.mem_of_mem_drop hx)), (by simp only [ByteArray.size_append, szA, List.size_toArray, List.length_cons, List.length_nil]; omega), congrArg D.str (conS_8 hk).symm, rfl⟩))))))))
    · exact df (by omega) (df (by omega) (df (by omega) (df (by omega) (df (by omega) (df (by omega) (df (by omega) (df (by omega) (dt hk (⟨_, text_each_api_Lit_l_ok hnm c.lits (by omega) h.lits, (by simp only [ByteArray.size_append, szA, List.size_toArray, List.length_cons, List.length_nil]; omega), congrArg D.str (conS_9 hk).symm, rfl⟩)))))))))
    · have hlen := hf.2.2.2.1 hk
      have z9 := litS_size hnm (litE_n (h.lits _ (getL_mem (i := 0) (by omega)))).2.2
      exact df (by omega) (df (by omega) (df (by omega) (df (by omega) (df (by omega) (df (by omega) (df (by omega) (df (by omega) (df (by omega) (⟨inb_nat (k := 0) (by omega), inb_nat (k := 0) (by omega), _, vo 0 (by omega), (by simp only [ByteArray.size_append, szA, List.size_toArray, List.length_cons, List.length_nil]; omega), (by simp only [ByteArray.size_append, szA, List.size_toArray, List.length_cons, List.length_nil]; omega), _, print_lit_ok hnm (h.lits _ (getL_mem (i := 0) (by omega))), (by simp only [ByteArray.size_append, szA, List.size_toArray, List.length_cons, List.length_nil]; omega), congrArg D.str (conS_10 hk).symm, rfl⟩)))))))))
/-! ### Writing -/
theorem write_ok {mvs : List VarD} {mcs : List ConD} {goal mvar : Int} {buf : List UInt8} (s : ByteArray) (h : buf.length + s.size ≤ 140737488355328) : SatH Tryz.prog f_strings_Builder_WriteString [.ptr 1000 0, .str s] (hpPr mvs mcs goal mvar buf) (.tup [dI (s.size : Int), .undef]) (hpPr mvs mcs goal mvar (buf ++ s.data.toList)) :=
  strings_Builder_WriteString_p_sat _ _ _ _ _ _ fun ok ok2 => by
    rw [strings_Builder_WriteString_p_eq]
    exact ⟨copyCheck_ok _ _ (fun T h => lies1 T _ h), room_of (t := .byte) (by show (_ + _) * 1 ≤ _; omega), rfl, rfl⟩
theorem varS_size {v : VarD} (h : v.name.size ≤ 12) (h1 : -50 ≤ v.lo ∧ v.hi ≤ 50 ∧ v.lo ≤ v.hi ∧ v.hi - v.lo < 6) : (varS v).size ≤ 64 := by
  have z1 := itoa_sz (n := v.lo) (by omega); have z2 := itoa_sz (n := v.hi) (by omega)
  unfold varS
  simp only [ByteArray.size_append, szA, List.size_toArray, List.length_cons, List.length_nil]; omega
theorem flatB_len {α : Type} {f : α → List UInt8} {B : Nat} : ∀ (l : List α), (∀ x ∈ l, (f x).length ≤ B) → (l.flatMap f).length ≤ l.length * B
  | [], _ => by simp
  | x :: r, h => by
    have ih := flatB_len r fun y hy => h y (List.mem_cons_of_mem _ hy)
    have := h x List.mem_cons_self
    rw [List.flatMap_cons, List.length_append, List.length_cons, Nat.succ_mul]; omega
theorem varsL_len {m : MdlD} (h : PrOk m) (k : Nat) : (varsL (m.vars.take k)).length ≤ 384 := by
  have := flatB_len (f := fun v => (varS v).data.toList) (B := 64) (m.vars.take k) fun v hv => varS_size (h.names v (List.mem_of_mem_take hv)) (h.right.var v (List.mem_of_mem_take hv))
  have := h.right.vars
  have h3 : (m.vars.take k).length ≤ 6 := by rw [List.length_take]; omega
  have := Nat.mul_le_mul_right 64 h3
  unfold varsL; omega
theorem conT_size {m : MdlD} (h : PrOk m) {c : ConD} (hc : c ∈ m.cons) : (conTx m.vars c).size ≤ 2006 := by
  have := conS_size h.names (h.cons c hc)
  unfold conTx
  simp only [ByteArray.size_append, szA, List.size_toArray, List.length_cons, List.length_nil]; omega
theorem consL_len {m : MdlD} (h : PrOk m) (k : Nat) : (consL m.vars (m.cons.take k)).length ≤ 16048 := by
  have := flatB_len (f := fun c => (conTx m.vars c).data.toList) (B := 2006) (m.cons.take k) fun c hc => conT_size h (List.mem_of_mem_take hc)
  have := h.right.cons
  have h3 : (m.cons.take k).length ≤ 8 := by rw [List.length_take]; omega
  have := Nat.mul_le_mul_right 2006 h3
  unfold consL; omega
theorem flat_take {α : Type} (f : α → List UInt8) {l : List α} {k : Nat} (h : k < l.length) : (l.take (k + 1)).flatMap f = (l.take k).flatMap f ++ f l[k] := by
  rw [← List.take_append_getElem h, List.flatMap_append]
  simp
theorem goal_cases {m : MdlD} (h : PrOk m) : m.goal = 0 ∨ (m.goal = 1 ∨ m.goal = 2) ∧ 0 ≤ m.var ∧ m.var < m.vars.length := by
  have hg := h.right.goal
  unfold goalE at hg
  split at hg
  · exact absurd hg (by decide)
  rename_i h1
  split at hg
  · exact absurd hg (by decide)
  rename_i h2
  split at hg
  · exact absurd hg (by decide)
  rename_i h3
  simp [inR] at h1
  by_cases h0 : m.goal = 0
  · exact .inl h0
  · refine .inr ⟨by omega, ?_⟩
    have h3 : noneB m.vars.length m.var = false := by
      cases hb : noneB m.vars.length m.var with
      | false => rfl
      | true => exact absurd ⟨h0, hb⟩ h3
    simp [noneB, inR] at h3
    omega
theorem print_cons_run {m : MdlD} (h : PrOk m) {R : D → Prop} (hR : R (.tup [.str (printS m), dI 0])) : ∃ n, text_Print_I2 m R n 0 m.vars m.cons m.goal m.var (varsL m.vars) := by
  have hc8 := h.right.cons
  have hv6 := h.right.vars
  refine up (I := fun n v (buf : List UInt8) => text_Print_I2 m R n v m.vars m.cons m.goal m.var buf) (a := varsL m.vars) 0 m.cons.length rfl (Nat.zero_le _) (by omega) (fun k buf => buf = varsL m.vars ++ consL m.vars (m.cons.take k)) (by simp [consL]) fun n k buf _ hk ha hn => ?_
  subst ha
  have hl1 := varsL_len h m.vars.length
  rw [List.take_length] at hl1
  have hl2 := consL_len h k
  rw [text_Print_I2_eq]
  by_cases hlt : k < m.cons.length
  · rw [sel_lt hlt, at_nat (t := .con) hlt]
    have hmem := List.getElem_mem hlt
    have hz := conS_size h.names (h.cons _ hmem)
    have hz2 := conT_size h hmem
    have hw := write_ok (mvs := m.vars) (mcs := m.cons) (goal := m.goal) (mvar := m.var) (buf := varsL m.vars ++ consL m.vars (m.cons.take k)) (conTx m.vars m.cons[k]) (by rw [List.length_append]; omega)
    refine ⟨inb_nat hlt, _, print_con_ok h.names (h.cons _ hmem), ?_, ?_, _, _, hw, hn hlt _ ?_⟩
    · simp only [ByteArray.size_append, szA, List.size_toArray, List.length_cons, List.length_nil]; omega
    · simp only [ByteArray.size_append, szA, List.size_toArray, List.length_cons, List.length_nil]; omega
    · unfold consL; rw [flat_take _ hlt, List.append_assoc]
  · have e : k = m.cons.length := by omega
    subst e
    rw [sel_end, List.take_length]
    rw [List.take_length] at hl2
    have hnm := nmS_size h.names m.var
    have hpl : printL m = varsL m.vars ++ consL m.vars m.cons ++ (goalT m).data.toList := rfl
    have hlen : (varsL m.vars ++ consL m.vars m.cons).length ≤ 16432 := by rw [List.length_append]; omega
    have fin : ∀ s : ByteArray, goalT m = s → s.size ≤ 100 → s ≠ ⟨#[]⟩ → ∃ (w1 : Int) (w2 : List UInt8), SatH Tryz.prog f_strings_Builder_WriteString [.ptr 1000 0, .str s] (hpPr m.vars m.cons m.goal m.var (varsL m.vars ++ consL m.vars m.cons)) (.tup [dI w1, .undef]) (hpPr m.vars m.cons m.goal m.var w2) ∧
        ∃ t : ByteArray, SatH Tryz.prog f_strings_Builder_String [.ptr 1000 0] (hpPr m.vars m.cons m.goal m.var w2) (.str t) [] ∧ R (.tup [.str t, dI 0]) := fun s hs h1 h2 => by
      have hne : varsL m.vars ++ consL m.vars m.cons ++ s.data.toList ≠ [] := fun e => h2 (by
        have : s.data.toList = [] := (List.append_eq_nil_iff.1 e).2
        have h3 : s.size = 0 := by have : s.size = s.data.toList.length := rfl; simp_all
        exact ByteArray.size_eq_zero_iff.1 h3)
      have hll : (varsL m.vars ++ consL m.vars m.cons ++ s.data.toList).length ≤ 20000 := by
        rw [List.length_append]
        have : s.data.toList.length = s.size := rfl
        omega
      refine ⟨_, _, write_ok s (by omega), _, String_ok _ _ _ hne (by unfold inI64; omega), ?_⟩
      rw [← hs]; exact hR
    rcases goal_cases h with hg | ⟨hg | hg, hv⟩
    · exact dt hg (fin _ (by unfold goalT; rw [if_pos hg]) (by decide) (by decide))
    · refine df (by omega) (dt hg ⟨_, print_v_ok hv, ?_, ?_, fin _ (by unfold goalT; rw [if_neg (by omega), if_pos hg]) ?_ ?_⟩)
      · simp only [ByteArray.size_append, szA, List.size_toArray, List.length_cons, List.length_nil]; omega
      · simp only [ByteArray.size_append, szA, List.size_toArray, List.length_cons, List.length_nil]; omega
      · simp only [ByteArray.size_append, szA, List.size_toArray, List.length_cons, List.length_nil]; omega
      · intro e; have := congrArg ByteArray.size e; simp only [ByteArray.size_append, szA, List.size_toArray, List.length_cons, List.length_nil] at this; omega
    · refine df (by omega) (df (by omega) (dt hg ⟨_, print_v_ok hv, ?_, ?_, fin _ (by unfold goalT; rw [if_neg (by omega), if_neg (by omega)]) ?_ ?_⟩))
      · simp only [ByteArray.size_append, szA, List.size_toArray, List.length_cons, List.length_nil]; omega
      · simp only [ByteArray.size_append, szA, List.size_toArray, List.length_cons, List.length_nil]; omega
      · simp only [ByteArray.size_append, szA, List.size_toArray, List.length_cons, List.length_nil]; omega
      · intro e; have := congrArg ByteArray.size e; simp only [ByteArray.size_append, szA, List.size_toArray, List.length_cons, List.length_nil] at this; omega
def printE (m : MdlD) : ByteArray := if checkM m = 0 then printS m else ⟨#[]⟩
theorem text_Print_ok (m : MdlD) : Sat Tryz.prog f_text_Print [dM m] (.tup [toD .str (printE m), toD .int (checkM m)]) :=
  text_Print_sat m fun ok => by
    rw [text_Print_eq]
    refine call1 (t := .int) (model_Check_ok m) ?_
    unfold printE
    by_cases hc : checkM m = 0
    · rw [if_pos hc]
      refine dnf hc ?_
      have h := prOk hc
      have hv6 := h.right.vars
      refine up (I := fun n v (buf : List UInt8) => text_Print_I0 m _ n v m.vars m.cons m.goal m.var buf) (a := []) 0 m.vars.length rfl (Nat.zero_le _) (by omega) (fun k buf => buf = varsL (m.vars.take k)) (by simp [varsL]) fun n k buf _ hk ha hn => ?_
      subst ha
      have hl1 := varsL_len h k
      rw [text_Print_I0_eq]
      by_cases hlt : k < m.vars.length
      · rw [sel_lt hlt, at_nat (t := .var) hlt]
        have hmem := List.getElem_mem hlt
        have hr := h.right.var _ hmem
        have hs := h.names _ hmem
        have z1 := itoa_sz (n := m.vars[k].lo) (by omega); have z2 := itoa_sz (n := m.vars[k].hi) (by omega)
        have hlo := itoa_ok (n := m.vars[k].lo) (small_i64 (by omega))
        have hhi := itoa_ok (n := m.vars[k].hi) (small_i64 (by omega))
        have hz := varS_size hs hr
        have hw := write_ok (mvs := m.vars) (mcs := m.cons) (goal := m.goal) (mvar := m.var) (buf := varsL (m.vars.take k)) (varS m.vars[k]) (by omega)
        have hnx := hn hlt _ (show varsL (m.vars.take k) ++ (varS m.vars[k]).data.toList = varsL (m.vars.take (k + 1)) by unfold varsL; rw [flat_take _ hlt])
        refine ⟨inb_nat hlt, ?_⟩
        have fin : ∃ (w1 : Int) (w2 : List UInt8), SatH Tryz.prog f_strings_Builder_WriteString [.ptr 1000 0, .str (varS m.vars[k])] (hpPr m.vars m.cons m.goal m.var (varsL (m.vars.take k))) (.tup [dI w1, .undef]) (hpPr m.vars m.cons m.goal m.var w2) ∧ text_Print_I0 m _ n (w64 ((k : Int) + 1)) m.vars m.cons m.goal m.var w2 := ⟨_, _, hw, hnx⟩
        repeat' (first | exact fin | (simp only [ByteArray.size_append, szA, List.size_toArray, List.length_cons, List.length_nil]; omega) | (refine call1 (t := .str) hlo ?_) | (refine call1 (t := .str) hhi ?_) | (refine And.intro ?_ ?_))
      · have e : k = m.vars.length := by omega
        subst e
        rw [sel_end, List.take_length]
        exact print_cons_run h (by rw [hc]; rfl)
    · rw [if_neg hc]
      exact dnt hc rfl
end Go.Proofs.YtogdmcebojiojaaGreatDoor

/- The document's printer: numerals, brackets, literals. -/
namespace Go.Proofs.YtogdmcebojiojaaGreatDoor
open Go.RowKit
set_option linter.unusedVariables false
set_option linter.unusedSimpArgs false

end Go.Proofs.YtogdmcebojiojaaGreatDoor

/- The document's printer whole: printed by gen_pprint4.py. -/
namespace Go.Proofs.YtogdmcebojiojaaGreatDoor
open Go.RowKit
set_option linter.unusedVariables false
set_option linter.unusedSimpArgs false

end Go.Proofs.YtogdmcebojiojaaGreatDoor
