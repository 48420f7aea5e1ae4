/- Texts of this proof, one behind the other: nothing is handed in but what is proved here; no condition. -/
import Derived.Test.YtogdmcebojiojaaGreatDoorMD
import Derived.Lib.ItoaNum
import Derived.Test.YtogdmcebojiojaaGreatDoorMO
import Derived.Lib.Join
import Derived.Test.YtogdmcebojiojaaGreatDoorWStrings
import Derived.Test.YtogdmcebojiojaaGreatDoorWText
import Derived.Test.YtogdmcebojiojaaGreatDoorWReport
import Derived.Shelf.Strings.Builder1
import Derived.Test.YtogdmcebojiojaaGreatDoorWSlices
import Derived.Test.YtogdmcebojiojaaGreatDoorMC
import Derived.Lib.AppendIntMem
import Derived.Lib.ItoaLen
import Derived.Test.YtogdmcebojiojaaGreatDoorMQ
import Derived.Test.YtogdmcebojiojaaGreatDoorME
import Derived.Test.YtogdmcebojiojaaGreatDoorWCordonref
/- Numerals as texts. -/
namespace Go.Proofs.YtogdmcebojiojaaGreatDoor
def itoaS (n : Int) : ByteArray := ⟨(Lib.itoa n).toArray⟩
end Go.Proofs.YtogdmcebojiojaaGreatDoor

/- What is printed, in plain words. -/
namespace Go.Proofs.YtogdmcebojiojaaGreatDoor
open Go.RowKit
set_option linter.unusedVariables false
set_option linter.unusedSimpArgs false

def brS (l : List ByteArray) : ByteArray := (⟨#[91]⟩ ++ ⟨(Lib.join (l.map fun x => x.data.toList) [44, 32]).toArray⟩) ++ ⟨#[93]⟩
def nmS (vs : List VarD) (i : Int) : ByteArray := (at' .var vs i.toNat).name
def opS (o : Int) : ByteArray := at' .str opW (o - 1).toNat
def wdS (k : Int) : ByteArray := at' .str conW (k - 1).toNat
def litS (vs : List VarD) (x : LitD) : ByteArray := (((nmS vs x.var ++ ⟨#[32]⟩) ++ opS x.op) ++ ⟨#[32]⟩) ++ itoaS x.n
def numsS (l : List Int) : ByteArray := brS (l.map itoaS)
def namesS (vs : List VarD) (l : List Int) : ByteArray := brS (l.map (nmS vs))
def conS (vs : List VarD) (c : ConD) : ByteArray :=
  if c.kind ≤ 3 then (((((wdS c.kind ++ ⟨#[32]⟩) ++ numsS c.consts) ++ ⟨#[32]⟩) ++ namesS vs c.vars) ++ ⟨#[32]⟩) ++ itoaS c.n
  else if c.kind = 4 then (wdS c.kind ++ ⟨#[32]⟩) ++ namesS vs c.vars
  else if c.kind = 5 then (((((wdS c.kind ++ ⟨#[32]⟩) ++ numsS c.consts) ++ ⟨#[32]⟩) ++ nmS vs (at' .int c.vars 0)) ++ ⟨#[32]⟩) ++ nmS vs (at' .int c.vars 1)
  else if c.kind = 6 then (((wdS c.kind ++ ⟨#[32]⟩) ++ namesS vs c.vars) ++ ⟨#[32]⟩) ++ brS (c.rows.map numsS)
  else if c.kind = 7 then (((((wdS c.kind ++ ⟨#[32]⟩) ++ nmS vs (at' .int c.vars 0)) ++ ⟨#[32]⟩) ++ nmS vs (at' .int c.vars 1)) ++ ⟨#[32]⟩) ++ nmS vs (at' .int c.vars 2)
  else if c.kind = 8 then (((wdS c.kind ++ ⟨#[32]⟩) ++ nmS vs (at' .int c.vars 0)) ++ ⟨#[32]⟩) ++ namesS vs (c.vars.drop 1)
  else if c.kind = 9 then (wdS c.kind ++ ⟨#[32]⟩) ++ brS (c.lits.map (litS vs))
  else (((wdS c.kind ++ ⟨#[32]⟩) ++ nmS vs (at' .int c.vars 0)) ++ ⟨#[32]⟩) ++ litS vs (at' .lit c.lits 0)
def varS (v : VarD) : ByteArray := (((((⟨#[118, 97, 114, 32]⟩ ++ v.name) ++ ⟨#[58, 32]⟩) ++ itoaS v.lo) ++ ⟨#[46, 46]⟩) ++ itoaS v.hi) ++ ⟨#[59, 10]⟩
def conT (vs : List VarD) (c : ConD) : ByteArray := (⟨#[99, 111, 110, 32]⟩ ++ conS vs c) ++ ⟨#[59, 10]⟩
def goalT (m : MdlD) : ByteArray :=
  if m.goal = 0 then ⟨#[115, 111, 108, 118, 101, 32, 97, 110, 121, 59, 10]⟩
  else if m.goal = 1 then (⟨#[115, 111, 108, 118, 101, 32, 108, 101, 97, 115, 116, 32]⟩ ++ nmS m.vars m.var) ++ ⟨#[59, 10]⟩
  else (⟨#[115, 111, 108, 118, 101, 32, 109, 111, 115, 116, 32]⟩ ++ nmS m.vars m.var) ++ ⟨#[59, 10]⟩
def varsL (vs : List VarD) : List UInt8 := vs.flatMap fun v => (varS v).data.toList
def consL (vs : List VarD) (cs : List ConD) : List UInt8 := cs.flatMap fun c => (conT vs c).data.toList
def printL (m : MdlD) : List UInt8 := (varsL m.vars ++ consL m.vars m.cons) ++ (goalT m).data.toList
def printS (m : MdlD) : ByteArray := ⟨(printL m).toArray⟩
/-! ### How long it is -/
theorem szA (a : Array UInt8) : (⟨a⟩ : ByteArray).size = a.size := rfl
theorem join_len {sep : List UInt8} {B : Nat} : ∀ (l : List (List UInt8)), (∀ x ∈ l, x.length ≤ B) → (Lib.join l sep).length ≤ l.length * (B + sep.length)
  | [], _ => by simp [Lib.join]
  | [x], h => by
    have := h x (by simp)
    simp [Lib.join]
    omega
  | x :: y :: r, h => by
    have ih := join_len (sep := sep) (B := B) (y :: r) fun z hz => h z (List.mem_cons_of_mem _ hz)
    have h1 := h x (by simp)
    have e : Lib.join (x :: y :: r) sep = x ++ sep ++ Lib.join (y :: r) sep := by simp [Lib.join, List.intercalate]
    rw [e, List.length_append, List.length_append, List.length_cons (a := x), Nat.add_mul]
    omega
theorem brS_size {l : List ByteArray} {B : Nat} (h : ∀ x ∈ l, x.size ≤ B) : (brS l).size ≤ l.length * (B + 2) + 2 := by
  have := join_len (sep := [44, 32]) (B := B) (l.map fun x => x.data.toList) fun x hx => by
    obtain ⟨y, hy, rfl⟩ := List.mem_map.1 hx
    exact h y hy
  rw [List.length_map, show ([44, 32] : List UInt8).length = 2 from rfl] at this
  unfold brS
  simp only [ByteArray.size_append, szA, List.size_toArray, List.length_cons, List.length_nil]
  omega
end Go.Proofs.YtogdmcebojiojaaGreatDoor

/- Builders of texts: their own address is kept; the text that they hold. -/
namespace Go.Proofs.YtogdmcebojiojaaGreatDoor
open Go.RowKit
set_option linter.unusedVariables false
set_option linter.unusedSimpArgs false

set_option maxRecDepth 100000 in
theorem cc_used (b : Nat) (w : World) (h0 : w.cell? ⟨b, 0, none⟩ = some (.pointer (some ⟨b, 0, none⟩))) :
    Calls Tryz.prog 106 #[.pointer (some ⟨b, 0, none⟩)] w fun e w' => e = .returned (.tuple #[]) ∧ w' = w := by
  have u : Tryz.prog.underlying 96 = some (.pointer 99) := by kernel_rfl
  obtain ⟨j, hj⟩ : ∃ j, Tryz.prog.info? 99 = some j := Option.isSome_iff_exists.1 (by kernel_rfl)
  go_enter Tryz.func106, Tryz.ntmps106
  go_wp2
  rw [Lib.run_neq_ptr_same w _ u hj]
  go_wp2
  go_end0
  exact ⟨rfl, rfl⟩
set_option maxRecDepth 100000 in
theorem cc_fresh (b n : Nat) (T : TypeId) (w : World) (h0 : w.cell? ⟨b, 0, none⟩ = some (.pointer none)) (hsh : w.shape? b = some (T, n)) (hn : 0 < n) (hfz : w.frozen? ⟨b, 0, none⟩ = false)
    (hl : liesAt Tryz.prog Tryz.prog.depth T (n / Tryz.prog.cellsOf T) 0 99 1 = true) :
    Calls Tryz.prog 106 #[.pointer (some ⟨b, 0, none⟩)] w fun e w' => e = .returned (.tuple #[]) ∧ w' = w.setCell ⟨b, 0, none⟩ (.pointer (some ⟨b, 0, none⟩)) := by
  have u : Tryz.prog.underlying 96 = some (.pointer 99) := by kernel_rfl
  have u2 : Tryz.prog.underlying 210 = some .unsafePointer := by kernel_rfl
  obtain ⟨j, hj⟩ : ∃ j, Tryz.prog.info? 99 = some j := Option.isSome_iff_exists.1 (by kernel_rfl)
  have hjs : j.size = 2 := by
    have : (Tryz.prog.info? 99).map (·.size) = some 2 := by kernel_rfl
    rw [hj] at this; simpa using this
  go_enter Tryz.func106, Tryz.ntmps106
  go_wp2
  rw [Lib.run_to_unsafe w ⟨b, 0, none⟩ u u2 hj (by rw [hjs]; decide) hsh hn]
  simp only [Result.andThen]
  rw [Oper.upon_value]
  go_wp2
  rw [run_callFunc_extern Tryz.func172 (by kernel_rfl) (by kernel_rfl) (by kernel_rfl) (e := Extern.AbiNoEscape.same) (by kernel_rfl)]
  rw [Lib.run_noEscape]
  simp only [Result.andThen]
  rw [Oper.upon_value]
  go_wp2
  rw [Lib.run_from_unsafe w ⟨b, 0, none⟩ u2 u hj hsh hl]
  simp only [Result.andThen]
  rw [Oper.upon_value]
  go_wp2
  go_end0
  exact ⟨rfl, rfl⟩
theorem ptr_arg1 {w : World} {S : Nat → Prop} {pl : Nat → Value} {vs : Array Value} (hsz : vs.size = 1) (hv : Rd w S pl (vs.getD 0 undef) (.ptr 1000 0)) : ∃ b, pl 1000 = .pointer (some ⟨b, 0, none⟩) ∧ vs = #[.pointer (some ⟨b, 0, none⟩)] := by
  obtain ⟨b, e1, e2⟩ := hv
  refine ⟨b, e1, ?_⟩
  apply Array.ext
  · simpa using hsz
  · intro i h1 h2
    have : i = 0 := by omega
    subst this
    rw [Array.getD_eq_getD_getElem?, Array.getElem?_eq_getElem h1] at e2
    simpa using e2
theorem copyCheck_ok (ds : List D) (buf : List UInt8) (hlies : ∀ T, memT bTys T = true → liesAt Tryz.prog Tryz.prog.depth T ((ds.length + 1) / Tryz.prog.cellsOf T) 0 99 1 = true) :
    SatH Tryz.prog f_strings_Builder_copyCheck [.ptr 1000 0] [(1000, .cells (.slf 1000 :: ds)), (2000, .row 5 .byte buf)] (.tup []) [(1000, .cells (.slf 1000 :: ds)), (2000, .row 5 .byte buf)] := by
  intro w S vs pl hS hsz hv hh hg
  obtain ⟨b, e1, rfl⟩ := ptr_arg1 hsz (hv 0 _ rfl)
  obtain ⟨b', cs, T, eb, mb, zb, rb, tb⟩ := hh.ok 1000 _ rfl
  rw [e1] at eb; injection eb with eb; injection eb with eb; injection eb with eb; subst eb
  have hT : memT bTys T = true := tb rfl
  have zb : cs.size = ds.length + 1 := zb
  have h0 := rb 0 _ rfl
  have hc : w.cell? ⟨b, 0, none⟩ = some (cs.getD 0 undef) := by
    rw [cell_of_row w b 0 cs T (0, 0) mb]
    simp [Array.getD_eq_getD_getElem?, zb]
  have hpr := hh.priv 1000 _ b rfl (by rw [e1]; rfl)
  rcases h0 with h0 | ⟨b2, h2, h0⟩
  · rw [h0] at hc
    have hsh : w.shape? b = some (T, cs.size) := by simp [World.shape?, mb]
    refine (cc_fresh b cs.size T w hc hsh (by omega) (frozen_of_row w b 0 cs T mb) (by rw [zb]; exact hlies T hT)).mono fun e w' ⟨he, hw⟩ => ?_
    subst hw
    have hfar : ∀ c, c ≠ b → (w.setCell ⟨b, 0, none⟩ (.pointer (some ⟨b, 0, none⟩))).heap[c]? = w.heap[c]? := fun c hc => Below.heap_setCell w ⟨b, 0, none⟩ _ c hc
    have hat : Blk (w.setCell ⟨b, 0, none⟩ (.pointer (some ⟨b, 0, none⟩))) b T (cs.setIfInBounds 0 (.pointer (some ⟨b, 0, none⟩))) := Blk.set_ mb 0 _
    refine ⟨_, S, pl, he, Rp.rd (.tup _ _ rfl fun i d hd => by simp at hd), ⟨fun k o ho => ?_, fun k o c ho hc => ?_, hh.inj⟩, fun c hc => by simpa [World.setCell] using hS c hc, fun c hc => .inl hc, fun c h => .inl h, fun _ _ => rfl, ⟨rfl, rfl, rfl, by simp [World.setCell], fun c _ hn => hfar c fun e => hn ⟨1000, _, rfl, by rw [e1, e]; rfl⟩⟩⟩
    · by_cases hk : k = 1000
      · subst hk
        have ho : HObj.cells (.slf 1000 :: ds) = o := by injection ho
        subst ho
        refine ⟨b, _, T, e1, hat, by simpa using zb, fun i d hd => ?_, fun _ => hT⟩
        cases i with
        | zero =>
          injection hd with hd; subst hd
          refine .inr ⟨b, e1, ?_⟩
          simp [Array.getD_eq_getD_getElem?, zb]
        | succ i =>
          have h := rb (i + 1) d hd
          have e : (cs.setIfInBounds 0 (.pointer (some ⟨b, 0, none⟩))).getD (i + 1) undef = cs.getD (i + 1) undef := by
            rw [Array.getD_eq_getD_getElem?, Array.getD_eq_getD_getElem?, Array.getElem?_setIfInBounds_ne (by omega)]
          rw [e]
          exact h.mono (fun c hc => hfar c fun e => hpr.2 (e ▸ hc)) (fun _ h => h) fun _ _ => rfl
      · refine (hh.ok k o ho).mono (fun c hc => hfar c fun e => hpr.2 (e ▸ hc)) (fun c hcc => hfar c fun e => hk (hh.inj k 1000 o _ c ho rfl hcc (by rw [e1, e]; rfl))) (fun _ h => h) fun _ _ _ _ => rfl
    · have := hh.priv k o c ho hc
      exact ⟨by simpa [World.setCell] using this.1, this.2⟩
  · rw [e1] at h2; injection h2 with h2; injection h2 with h2; injection h2 with h2; subst h2
    rw [h0] at hc
    refine (cc_used b w hc).mono fun e w' ⟨he, hw⟩ => ?_
    subst hw
    exact ⟨_, S, pl, he, Rp.rd (.tup _ _ rfl fun i d hd => by simp at hd), hh, hS, fun c hc => .inl hc, fun c h => .inl h, fun _ _ => rfl, ⟨rfl, rfl, rfl, Nat.le_refl _, fun _ _ _ => rfl⟩⟩
/-! ### The text -/
theorem freeze_far {w : World} {g n : Nat} {k : Nat} (hk : k ≠ g) : (w.freeze ⟨g, 0, none⟩ n).heap[k]? = w.heap[k]? := by
  unfold World.freeze
  split
  · rfl
  · simp only [Array.getElem?_modify]
    rw [if_neg (by omega)]
theorem freeze_same {w : World} {g n : Nat} : (w.freeze ⟨g, 0, none⟩ n).os = w.os ∧ (w.freeze ⟨g, 0, none⟩ n).tape = w.tape ∧ (w.freeze ⟨g, 0, none⟩ n).output = w.output ∧ (w.freeze ⟨g, 0, none⟩ n).heap.size = w.heap.size := by
  unfold World.freeze
  split
  · exact ⟨rfl, rfl, rfl, rfl⟩
  · exact ⟨rfl, rfl, rfl, by simp⟩
set_option maxHeartbeats 1000000 in
set_option maxRecDepth 100000 in
theorem string_walk (b g cap : Nat) (l : List UInt8) (cur : Array Value) (w : World) (h0 : l ≠ []) (hc1 : w.cell? ⟨b, 1, none⟩ = some (.slice (some ⟨g, 0, none⟩) l.length cap)) (hg : w.heap[g]? = some (.cells cur 5 (0, 0))) (hcap : cap ≠ 0) (hlen : l.length ≤ cur.size) (hl : l.length ≤ 9223372036854775807)
    (hcell : ∀ j x, l[j]? = some x → w.cell? ((⟨g, 0, none⟩ : Addr).add j) = some (.int .u8 x.toNat)) :
    Calls Tryz.prog 60 #[.pointer (some ⟨b, 0, none⟩)] w fun e w' => e = .returned (.string ⟨l.toArray⟩) ∧ w' = w.drew.freeze ⟨g, 0, none⟩ l.length := by
  have c1 : w.drew.cell? ⟨b, 1, none⟩ = some (.slice (some ⟨g, 0, none⟩) l.length cap) := hc1
  have mixed : Tryz.prog.follows .mixedOrders = true := by kernel_rfl
  have t174 : Tryz.prog.underlying 174 = some (.pointer 5) := by kernel_rfl
  have cb : Tryz.prog.cellsOf 5 = 1 := by kernel_rfl
  have hSD : (Builtin.unsafeSliceData_ #[97] 174 #[.slice (some ⟨g, 0, none⟩) l.length cap]).run Tryz.prog w.drew = .ok (.pointer (some ⟨g, 0, none⟩)) w.drew :=
    Lib.run_unsafeSliceData_row _ _ _ _ _ _ hcap
  have hUS : (Builtin.unsafeString_ #[174, 3] 9 #[.pointer (some ⟨g, 0, none⟩), .int .i64 l.length]).run Tryz.prog w.drew = .ok (.string ⟨l.toArray⟩) (w.drew.freeze ⟨g, 0, none⟩ l.length) := by
    refine Lib.run_unsafeString_row w.drew 174 3 9 5 t174 cb g cur.size (by have hg' : w.drew.heap[g]? = some (.cells cur 5 (0, 0)) := hg; simp [World.shape?, hg']) l h0 hlen hl ?_
    exact hcell
  clear hcell hcap
  go_enter Tryz.func60, Tryz.ntmps60
  go_wp2
  go_region_o
  all_goals (go_wp2; go_ret; exact ⟨rfl, rfl⟩)
theorem flat_one {α β : Type} (f : α → β) : ∀ l : List α, (l.map fun x => [f x]).flatten = l.map f
  | [] => rfl
  | x :: r => by rw [List.map_cons, List.flatten_cons, flat_one f r]; rfl
theorem String_ok (d0 : D) (ds : List D) (buf : List UInt8) (h0 : buf ≠ []) (hw : inI64 (buf.length : Int)) : SatH Tryz.prog f_strings_Builder_String [.ptr 1000 0] [(1000, .cells (d0 :: .own 2000 :: ds)), (2000, .row 5 .byte buf)] (.str ⟨buf.toArray⟩) [] := by
  intro w S vs pl hS hsz hv hh hg
  obtain ⟨b, e1, rfl⟩ := ptr_arg1 hsz (hv 0 _ rfl)
  obtain ⟨b', cs, T, eb, mb, zb, rb, tb⟩ := hh.ok 1000 _ rfl
  rw [e1] at eb; injection eb with eb; injection eb with eb; injection eb with eb; subst eb
  have zb : cs.size = ds.length + 1 + 1 := zb
  have h1 : cs.getD 1 undef = pl 2000 := rb 1 _ rfl
  have hc : w.cell? ⟨b, 1, none⟩ = some (cs.getD 1 undef) := by
    rw [cell_of_row w b 1 cs T (0, 0) mb]
    simp [Array.getD_eq_getD_getElem?, zb]
  obtain ⟨hlim, css, l3, h4, h5, h6⟩ := hh.ok 2000 _ rfl
  have hlim : buf.length * 1 ≤ 140737488355328 := hlim
  have hcss : css = buf.map fun x => [Value.int .u8 (x.toNat : Int)] := by
    apply List.ext_getElem?
    intro i
    rw [List.getElem?_map]
    cases hx : buf[i]? with
    | none =>
      have : buf.length ≤ i := List.getElem?_eq_none_iff.1 hx
      rw [List.getElem?_eq_none (by omega)]; rfl
    | some x =>
      have hi : i < buf.length := (List.getElem?_eq_some_iff.1 hx).1
      have hci : css[i]? = some (css[i]'(by omega)) := List.getElem?_eq_getElem (by omega)
      have : css[i]'(by omega) = [Value.int .u8 (x.toNat : Int)] := h6 i x _ hx hci
      rw [hci, this]; rfl
  have hflat : css.flatten = buf.map fun x => Value.int .u8 (x.toNat : Int) := by
    rw [hcss]; exact flat_one _ buf
  have hpos : 0 < buf.length := List.length_pos_iff.2 h0
  have hcells := h4
  rcases h4.2 with ⟨_, hz⟩ | ⟨g, cap, cur, e2, _, hgg, hnc, hcm, hcs, _⟩
  · omega
  rw [h1, e2] at hc
  have hcs : cur.size = cap := by rw [hcs]; exact Nat.mul_one _
  refine (string_walk b g cap buf cur w h0 hc hgg (by omega) (by omega) (by unfold inI64 at hw; omega) fun j x hx => ?_).mono fun e w' ⟨he, hw'⟩ => ?_
  · exact hcells.cells (g := g) (by rw [e2]; rfl) j _ (by rw [hflat, List.getElem?_map, hx]; rfl)
  · subst hw'
    obtain ⟨f1, f2, f3, f4⟩ := freeze_same (w := w.drew) (g := g) (n := buf.length)
    have hz : (⟨buf.toArray⟩ : ByteArray).size ≤ 140737488355328 := by show buf.toArray.size ≤ _; rw [List.size_toArray]; omega
    refine ⟨_, fun _ => False, pl, he, Rp.rd (.str _ hz), ⟨fun k o h => (by cases h), fun k o b h => (by cases h), fun k k' o o' b h => (by cases h)⟩, fun c h => h.elim, fun c h => h.elim, fun c ⟨k, o, h, _⟩ => (by cases h), fun _ _ => rfl, ⟨f1, f2, f3, by rw [f4]; exact Nat.le_refl _, fun c _ hn => freeze_far fun e => hn ⟨2000, _, rfl, by rw [e2, e]; rfl⟩⟩⟩
end Go.Proofs.YtogdmcebojiojaaGreatDoor

/- Numerals: the library's call, off the shelf, where the library's table lies as it was laid. -/
namespace Go.Proofs.YtogdmcebojiojaaGreatDoor
open Go.RowKit
set_option linter.unusedVariables false
set_option linter.unusedSimpArgs false

theorem itoaS_size {n : Int} (h : inI64 n) : (itoaS n).size ≤ 21 := by
  have := Lib.itoa_length_le n h.1 h.2
  simpa [itoaS, ByteArray.size] using this
theorem table_named : ∃ g, Tryz.prog.globalNamed "internal/strconv.uint64pow10" = some g := Option.isSome_iff_exists.1 (by kernel_rfl)
theorem itoa_ok {n : Int} (h : inI64 n) : Sat Tryz.prog f_strconv_Itoa [dI n] (.str (itoaS n)) := by
  intro w S vs hS hl hv hg
  obtain ⟨g, hgn⟩ := table_named
  have htab := (hg g hgn).1
  obtain ⟨e0, hz⟩ := (hv 0 _ rfl).int_inv
  have e : vs = #[.int .i64 n] := by
    have hl : vs.size = 1 := hl
    apply Array.ext
    · simpa using hl
    · intro i h1 h2
      have : i = 0 := by omega
      subst this
      simpa [Array.getD_eq_getD_getElem?, h1] using e0
  subst e
  refine (Tryz.strconv_Itoa n h.1 h.2 w htab).mono fun e w' ⟨he, k, os, hw⟩ => ?_
  subst hw
  exact ⟨_, he, .str (itoaS n) (Nat.le_trans (itoaS_size h) (by decide)), Lib.below_grow _ w (Nat.le_refl _) k os⟩
end Go.Proofs.YtogdmcebojiojaaGreatDoor

/- The program's printer: printed by gen_pprint1.py. -/
namespace Go.Proofs.YtogdmcebojiojaaGreatDoor
open Go.RowKit
set_option linter.unusedVariables false
set_option linter.unusedSimpArgs false

abbrev hpB (mvs : List VarD) (mcs : List ConD) (goal mvar : Int) (buf : List UInt8) : List (Nat × HObj) :=
  [(1000, .cells [.slf 1000, .own 2000, .sl .var mvs, .sl .con mcs, dI goal, dI mvar]), (2000, .row 5 .byte buf)]
theorem isTok_size {s : ByteArray} (h : isTok 1 s.data.toList = true) : s.size ≤ 12 := by
  have hz : s.size = s.data.toList.length := rfl
  rw [hz]
  cases hd : s.data.toList with
  | nil => simp
  | cons c r =>
    rw [hd] at h
    simp only [isTok, Bool.and_eq_true, decide_eq_true_eq] at h
    obtain ⟨⟨⟨_, h1⟩, h2⟩, h3⟩ := h
    have h1 : (tokenAt (c :: r)).1 = 1 := by omega
    rw [h1, h2] at h3
    unfold tokBad at h3
    rw [if_neg (by decide)] at h3
    by_cases h4 : (c :: r).length > 12
    · rw [if_pos (.inl ⟨rfl, h4⟩)] at h3; cases h3
    · omega
theorem name_size {s : ByteArray} (h : isNameS s = true) : s.size ≤ 12 := by
  unfold isNameS at h
  rw [Bool.and_eq_true] at h
  exact isTok_size h.1
/-- Models that are printed: what is known of them. -/
structure PrOk (m : MdlD) : Prop where
  right : Right m
  names : ∀ v ∈ m.vars, v.name.size ≤ 12
  cons : ∀ c ∈ m.cons, RightC c m.vars.length
theorem varsE_names {vs : List VarD} (h : varsE vs = 0) : ∀ v ∈ vs, isNameS v.name = true := fun v hv => by
  obtain ⟨i, hi, rfl⟩ := List.getElem_of_mem hv
  have := firstE_zero vs 0 h i hi
  unfold varE at this
  split at this
  · exact absurd this (by decide)
  · rename_i h; cases hb : isNameS vs[i].name with
    | true => rfl
    | false => exact absurd hb h
theorem checkM_vars {m : MdlD} (h : checkM m = 0) : varsE m.vars = 0 := by
  unfold checkM at h
  split at h
  · exact absurd h (by decide)
  split at h
  · exact absurd h (by decide)
  split at h
  · rename_i h1; exact absurd h h1
  · rename_i h1; exact Decidable.of_not_not h1
theorem prOk {m : MdlD} (h : checkM m = 0) : PrOk m :=
  ⟨right_of h, fun v hv => name_size (varsE_names (checkM_vars h) v hv), fun c hc => rightC_of (right_of h).vars ((right_of h).con c hc)⟩
theorem small_i64 {n : Int} (h : -1000 ≤ n ∧ n ≤ 1000) : inI64 n := by unfold inI64; omega
theorem itoa_sz {n : Int} (h : -1000 ≤ n ∧ n ≤ 1000) : (itoaS n).size ≤ 21 := itoaS_size (small_i64 h)
theorem nmS_size {vs : List VarD} (h : ∀ v ∈ vs, v.name.size ≤ 12) (i : Int) : (nmS vs i).size ≤ 12 := by
  unfold nmS
  rcases Nat.lt_or_ge i.toNat vs.length with hi | hi
  · rw [atN (t := .var) hi]; exact h _ (List.getElem_mem hi)
  · show (vs.getD i.toNat Ty.var.dflt).name.size ≤ 12
    rw [List.getD_eq_getElem?_getD, List.getElem?_eq_none hi]; decide
theorem numsS_size {l : List Int} (h : ∀ n ∈ l, -1000 ≤ n ∧ n ≤ 1000) : (numsS l).size ≤ l.length * 23 + 2 := by
  have := brS_size (l := l.map itoaS) (B := 21) fun x hx => by
    obtain ⟨y, hy, rfl⟩ := List.mem_map.1 hx
    exact itoa_sz (h y hy)
  rw [List.length_map] at this
  exact this
theorem namesS_size {vs : List VarD} (h : ∀ v ∈ vs, v.name.size ≤ 12) (l : List Int) : (namesS vs l).size ≤ l.length * 14 + 2 := by
  have := brS_size (l := l.map (nmS vs)) (B := 12) fun x hx => by
    obtain ⟨y, hy, rfl⟩ := List.mem_map.1 hx
    exact nmS_size h y
  rw [List.length_map] at this
  exact this
theorem opS_size (o : Int) : (opS o).size ≤ 2 := by
  unfold opS
  rcases Nat.lt_or_ge (o - 1).toNat 4 with h | h
  · have h : (o - 1).toNat = 0 ∨ (o - 1).toNat = 1 ∨ (o - 1).toNat = 2 ∨ (o - 1).toNat = 3 := by omega
    rcases h with h | h | h | h <;> rw [h] <;> decide
  · show (opW.getD (o - 1).toNat Ty.str.dflt).size ≤ 2
    rw [List.getD_eq_getElem?_getD, List.getElem?_eq_none (by exact h)]; decide
theorem wdS_size (k : Int) : (wdS k).size ≤ 7 := by
  unfold wdS
  rcases Nat.lt_or_ge (k - 1).toNat 10 with h | h
  · have h : (k - 1).toNat = 0 ∨ (k - 1).toNat = 1 ∨ (k - 1).toNat = 2 ∨ (k - 1).toNat = 3 ∨ (k - 1).toNat = 4 ∨ (k - 1).toNat = 5 ∨ (k - 1).toNat = 6 ∨ (k - 1).toNat = 7 ∨ (k - 1).toNat = 8 ∨ (k - 1).toNat = 9 := by omega
    rcases h with h | h | h | h | h | h | h | h | h | h <;> rw [h] <;> decide
  · show (conW.getD (k - 1).toNat Ty.str.dflt).size ≤ 7
    rw [List.getD_eq_getElem?_getD, List.getElem?_eq_none (by exact h)]; decide
theorem litS_size {vs : List VarD} (h : ∀ v ∈ vs, v.name.size ≤ 12) {x : LitD} (hn : -1000 ≤ x.n ∧ x.n ≤ 1000) : (litS vs x).size ≤ 37 := by
  have h1 := nmS_size h x.var; have h2 := opS_size x.op; have h3 := itoa_sz hn
  unfold litS
  simp only [ByteArray.size_append, szA, List.size_toArray, List.length_cons, List.length_nil]
  omega
theorem litE_n {nv : Nat} {x : LitD} (h : litE nv x = 0) : (0 ≤ x.var ∧ x.var < nv) ∧ (1 ≤ x.op ∧ x.op ≤ 4) ∧ -1000 ≤ x.n ∧ x.n ≤ 1000 := by
  unfold litE at h
  split at h
  · exact absurd h (by decide)
  split at h
  · exact absurd h (by decide)
  split at h
  · exact absurd h (by decide)
  rename_i h1 h2 h3
  simp [noneB, farB, inR] at h1 h2 h3
  omega
/-! ### The library's calls -/
theorem rd_cells_str {w : World} {S : Nat → Prop} {A : Option Addr} {n c : Nat} {xs : List ByteArray} (h : RdV w S (.slice A n c) xs) (hn : 0 < xs.length) :
    ∃ b o, A = some ⟨b, o, none⟩ ∧ S b ∧ ∀ j x, xs[j]? = some x → w.cell? ⟨b, o + j, none⟩ = some (.string x) := by
  obtain ⟨b, o, rfl, hb, _⟩ := rdV_at_str h hn
  refine ⟨b, o, rfl, hb, fun j x hx => ?_⟩
  obtain ⟨hj, rfl⟩ := List.getElem?_eq_some_iff.1 hx
  obtain ⟨b', o', e, _, hc, _⟩ := rdV_at_str h hj
  injection e with e; injection e with e1 e2
  subst e1 e2; exact hc
theorem join_ok (xs : List ByteArray) (sep : ByteArray) (hlen : (Lib.join (xs.map fun x => x.data.toList) sep.data.toList).length ≤ 140737488355328) :
    Sat Tryz.prog f_strings_Join [.sl .str xs, .str sep] (.str ⟨(Lib.join (xs.map fun x => x.data.toList) sep.data.toList).toArray⟩) := by
  intro w S vs hS hl hv _
  have h0 := (hv 0 _ rfl).sl_inv
  obtain ⟨e1, _⟩ := (hv 1 _ rfl).str_inv
  have hl : vs.size = 2 := hl
  obtain ⟨A', c', e2, hsl⟩ := rdV_list h0
  rw [e2] at h0
  have e : vs = #[.slice A' xs.length c', .string sep] := by
    apply Array.ext
    · simpa using hl
    · intro i h1 h2
      have : i = 0 ∨ i = 1 := by omega
      rcases this with rfl | rfl
      · simpa [Array.getD_eq_getD_getElem?, h1] using e2
      · simpa [Array.getD_eq_getD_getElem?, h1] using e1
  subst e
  have hz : (⟨(Lib.join (xs.map fun x => x.data.toList) sep.data.toList).toArray⟩ : ByteArray).size ≤ 140737488355328 := by
    show (Lib.join (xs.map fun x => x.data.toList) sep.data.toList).toArray.size ≤ _
    rw [List.size_toArray]; exact hlen
  by_cases hx : xs = []
  · subst hx
    refine (Tryz.strings_Join_none A' c' sep w).mono fun e w' ⟨he, hw⟩ => ?_
    subst hw
    exact ⟨_, he, .str _ hz, Below.refl _ _⟩
  · have hpos : 0 < xs.length := List.length_pos_iff.2 hx
    obtain ⟨b, o, rfl, hb, hc⟩ := rd_cells_str h0 hpos
    have hlim : xs.length ≤ 140737488355328 := by
      have h1 := (rp_okC (Rp.sl .str xs _ h0)).1
      have h1 : xs.length * 16 ≤ 140737488355328 := h1
      omega
    exact (Tryz.strings_Join b o c' xs sep w hc (hS b hb) hlim hsl.cap hlen).mono fun e w' ⟨he, hw⟩ => ⟨_, he, .str _ hz, hw⟩
theorem text_words_pr : Sat Tryz.prog f_text_words [] (.sl .str conW) := text_words_sat fun ok => by rw [text_words_eq]; rfl
theorem brS_join {l : List ByteArray} {B : Nat} (h : ∀ x ∈ l, x.size ≤ B) (hB : B ≤ 1000000) (hl : l.length ≤ 1000000) : Sat Tryz.prog f_strings_Join [.sl .str l, .str ⟨#[44, 32]⟩] (toD .str ⟨(Lib.join (l.map fun x => x.data.toList) [44, 32]).toArray⟩) ∧ (⟨(Lib.join (l.map fun x => x.data.toList) [44, 32]).toArray⟩ : ByteArray).size ≤ 1000000 * 1000002 := by
  have h1 := join_len (sep := [44, 32]) (B := B) (l.map fun x => x.data.toList) fun x hx => by
    obtain ⟨y, hy, rfl⟩ := List.mem_map.1 hx
    exact h y hy
  rw [List.length_map, show ([44, 32] : List UInt8).length = 2 from rfl] at h1
  have h2 := Nat.mul_le_mul hl (show B + 2 ≤ 1000002 by omega)
  refine ⟨join_ok l _ (by show (Lib.join (l.map fun x => x.data.toList) [44, 32]).length ≤ _; omega), ?_⟩
  rw [szA, List.size_toArray]; omega
theorem print_v_ok {mvs : List VarD} {mcs : List ConD} {goal mvar : Int} {buf : List UInt8} {n : Int} (h : 0 ≤ n ∧ n < mvs.length) : SatH Tryz.prog f_text_printer_v [.ptr 1000 0, dI n] (hpB mvs mcs goal mvar buf) (.str (nmS mvs n)) (hpB mvs mcs goal mvar buf) :=
  text_printer_v_sat _ _ _ _ _ _ fun ok ok2 => by
    rw [text_printer_v_eq]
    exact ⟨inb_iff.2 ⟨h.1, by omega⟩, rfl, rfl⟩
theorem text_each_int_k_ok (xs : List Int) (hx : xs.length ≤ 1000000) (hy : ∀ n ∈ xs, -1000 ≤ n ∧ n ≤ 1000) : SatH Tryz.prog f_text_each_int [.sl .int xs, .clo f_strconv_Itoa none []] [] (.str (numsS xs)) [] :=
  text_each_int_k_sat _ fun ok ok2 => by
    have hl : xs.length ≤ 9223372036854775807 := by omega
    rw [text_each_int_k_eq]
    have hb : ∀ x ∈ xs.map (itoaS), x.size ≤ 21 := fun x hx => by
      obtain ⟨y, hy, rfl⟩ := List.mem_map.1 hx
      exact itoa_sz (‹∀ n ∈ xs, -1000 ≤ n ∧ n ≤ 1000› y hy)
    refine up (I := fun n v (a : List ByteArray) => text_each_int_k_I0 xs _ n v a) (a := []) 0 xs.length rfl (Nat.zero_le _) hl (fun k a => a = (xs.take k).map (itoaS)) rfl fun n k a _ hk ha hn => ?_
    subst ha
    rw [text_each_int_k_I0_eq]
    by_cases hlt : k < xs.length
    · rw [sel_lt hlt, at_nat (t := .int) hlt]
      have hnx := hn hlt _ (map_take (itoaS) hlt).symm
      have hroom : room .str (((xs.take k).map (itoaS)).length + [(itoaS) xs[k]].length) = true := room_of (t := .str) (by rw [List.length_map, List.length_take]; show (_ + 1) * 16 ≤ _; omega)
      exact ⟨inb_nat hlt, call1 (t := .str) (itoa_ok (small_i64 (hy _ (List.getElem_mem hlt)))) ⟨hroom, hnx⟩⟩
    · have e : k = xs.length := by omega
      subst e
      rw [sel_end, List.take_length]
      obtain ⟨h1, h2⟩ := brS_join hb (by decide) (by rw [List.length_map]; exact hx)
      refine call1 (t := .str) h1 ⟨?_, ?_, rfl, rfl⟩
      · simp only [ByteArray.size_append, szA, List.size_toArray, List.length_cons, List.length_nil] at h2 ⊢; omega
      · simp only [ByteArray.size_append, szA, List.size_toArray, List.length_cons, List.length_nil] at h2 ⊢; omega
theorem text_each_int_v_ok {mvs : List VarD} {mcs : List ConD} {goal mvar : Int} {buf : List UInt8} (hnm : ∀ v ∈ mvs, v.name.size ≤ 12) (xs : List Int) (hx : xs.length ≤ 1000000) (hy : ∀ n ∈ xs, 0 ≤ n ∧ n < mvs.length) : SatH Tryz.prog f_text_each_int [.sl .int xs, .clp f_text_printer_v true 1000 0] (hpB mvs mcs goal mvar buf) (.str (namesS mvs xs)) (hpB mvs mcs goal mvar buf) :=
  text_each_int_v_sat _ _ _ _ _ _ fun ok ok2 => by
    have hl : xs.length ≤ 9223372036854775807 := by omega
    rw [text_each_int_v_eq]
    have hb : ∀ x ∈ xs.map (nmS mvs), x.size ≤ 12 := fun x hx => by
      obtain ⟨y, hy, rfl⟩ := List.mem_map.1 hx
      exact nmS_size hnm y
    refine up (I := fun n v (a : List ByteArray) => text_each_int_v_I0 xs mvs mcs goal mvar _ n v a buf) (a := []) 0 xs.length rfl (Nat.zero_le _) hl (fun k a => a = (xs.take k).map (nmS mvs)) rfl fun n k a _ hk ha hn => ?_
    subst ha
    rw [text_each_int_v_I0_eq]
    by_cases hlt : k < xs.length
    · rw [sel_lt hlt, at_nat (t := .int) hlt]
      have hnx := hn hlt _ (map_take (nmS mvs) hlt).symm
      have hroom : room .str (((xs.take k).map (nmS mvs)).length + [(nmS mvs) xs[k]].length) = true := room_of (t := .str) (by rw [List.length_map, List.length_take]; show (_ + 1) * 16 ≤ _; omega)
      exact ⟨inb_nat hlt, _, print_v_ok (hy _ (List.getElem_mem hlt)), hroom, hnx⟩
    · have e : k = xs.length := by omega
      subst e
      rw [sel_end, List.take_length]
      obtain ⟨h1, h2⟩ := brS_join hb (by decide) (by rw [List.length_map]; exact hx)
      refine call1 (t := .str) h1 ⟨?_, ?_, rfl, rfl⟩
      · simp only [ByteArray.size_append, szA, List.size_toArray, List.length_cons, List.length_nil] at h2 ⊢; omega
      · simp only [ByteArray.size_append, szA, List.size_toArray, List.length_cons, List.length_nil] at h2 ⊢; omega
theorem print_con1_ok (xs : List Int) (hx : xs.length ≤ 1000000) (hy : ∀ n ∈ xs, -1000 ≤ n ∧ n ≤ 1000) : Sat Tryz.prog f_text_printer_con_1 [.sl .int xs] (.str (numsS xs)) :=
  text_printer_con_1_sat xs fun ok => by
    rw [text_printer_con_1_eq]
    exact ⟨_, text_each_int_k_ok xs hx hy, rfl⟩
theorem ent_con1 : Ent Tryz.prog f_text_printer_con_1 := fun args w => Tryz.call108 args w
theorem text_each_l_int_ok (xs : List (List Int)) (hx : xs.length ≤ 1000) (hz : ∀ r ∈ xs, r.length ≤ 1000) (hy : ∀ r ∈ xs, ∀ n ∈ r, -1000 ≤ n ∧ n ≤ 1000) : Sat Tryz.prog f_text_each_l_int [dS xs, .clo f_text_printer_con_1 none []] (.str (brS (xs.map numsS))) :=
  Sat.clo (pre := [_]) (text_each_l_int_sat xs f_text_printer_con_1 [] fun ok => by
    have hl : xs.length ≤ 9223372036854775807 := by omega
    rw [text_each_l_int_eq]
    have hb : ∀ x ∈ xs.map numsS, x.size ≤ 23002 := fun x hx => by
      obtain ⟨y, hy', rfl⟩ := List.mem_map.1 hx
      have := numsS_size (hy y hy'); have := hz y hy'
      omega
    refine up (I := fun n v (a : List ByteArray) => text_each_l_int_I0 xs f_text_printer_con_1 [] _ n v a) (a := []) 0 xs.length rfl (Nat.zero_le _) hl (fun k a => a = (xs.take k).map numsS) rfl fun n k a _ hk ha hn => ?_
    subst ha
    rw [text_each_l_int_I0_eq]
    by_cases hlt : k < xs.length
    · rw [sel_lt hlt, at_nat (t := .list .int) hlt]
      have hnx := hn hlt _ (map_take numsS hlt).symm
      have hroom : room .str (((xs.take k).map numsS).length + [numsS xs[k]].length) = true := room_of (t := .str) (by rw [List.length_map, List.length_take]; show (_ + 1) * 16 ≤ _; omega)
      exact ⟨inb_nat hlt, ent_con1, call1 (t := .str) (print_con1_ok _ (by have := hz _ (List.getElem_mem hlt); omega) (hy _ (List.getElem_mem hlt))) ⟨hroom, hnx⟩⟩
    · have e : k = xs.length := by omega
      subst e
      rw [sel_end, List.take_length]
      obtain ⟨h1, h2⟩ := brS_join hb (by decide) (by rw [List.length_map]; omega)
      refine call1 (t := .str) h1 ⟨?_, ?_, rfl⟩
      · simp only [ByteArray.size_append, szA, List.size_toArray, List.length_cons, List.length_nil] at h2 ⊢; omega
      · simp only [ByteArray.size_append, szA, List.size_toArray, List.length_cons, List.length_nil] at h2 ⊢; omega)
theorem w64_less {n : Int} (h : 1 ≤ n ∧ n ≤ 1000) : w64 (n - 1) = n - 1 := w64_eq (by omega) (by omega)
theorem print_lit_ok {mvs : List VarD} {mcs : List ConD} {goal mvar : Int} {buf : List UInt8} (hnm : ∀ v ∈ mvs, v.name.size ≤ 12) {x : LitD} (hx : litE mvs.length x = 0) : SatH Tryz.prog f_text_printer_lit [.ptr 1000 0, dL x] (hpB mvs mcs goal mvar buf) (.str (litS mvs x)) (hpB mvs mcs goal mvar buf) :=
  text_printer_lit_sat _ _ _ _ _ _ fun ok ok2 => by
    obtain ⟨h1, h2, h3⟩ := litE_n hx
    rw [text_printer_lit_eq, w64_less (by omega)]
    have z1 := nmS_size hnm x.var; have z2 := opS_size x.op; have z3 := itoa_sz h3
    have z2 : (at' .str ([(⟨#[60, 61]⟩ : ByteArray), (⟨#[62, 61]⟩ : ByteArray), (⟨#[61, 61]⟩ : ByteArray), (⟨#[33, 61]⟩ : ByteArray)]) ((x.op - 1).toNat)).size ≤ 2 := z2
    refine ⟨inb_iff.2 ⟨by omega, by show x.op - 1 < ((4 : Nat) : Int); omega⟩, _, print_v_ok h1, ?_, ?_, ?_, call1 (t := .str) (itoa_ok (small_i64 h3)) ⟨?_, rfl, rfl⟩⟩
    all_goals (simp only [ByteArray.size_append, szA, List.size_toArray, List.length_cons, List.length_nil]; omega)
theorem text_each_api_Lit_l_ok {mvs : List VarD} {mcs : List ConD} {goal mvar : Int} {buf : List UInt8} (hnm : ∀ v ∈ mvs, v.name.size ≤ 12) (xs : List LitD) (hx : xs.length ≤ 1000000) (hy : ∀ x ∈ xs, litE mvs.length x = 0) : SatH Tryz.prog f_text_each_api_Lit [.sl .lit xs, .clp f_text_printer_lit true 1000 0] (hpB mvs mcs goal mvar buf) (.str (brS (xs.map (litS mvs)))) (hpB mvs mcs goal mvar buf) :=
  text_each_api_Lit_l_sat _ _ _ _ _ _ fun ok ok2 => by
    have hl : xs.length ≤ 9223372036854775807 := by omega
    rw [text_each_api_Lit_l_eq]
    have hb : ∀ x ∈ xs.map (litS mvs), x.size ≤ 37 := fun x hx => by
      obtain ⟨y, hy, rfl⟩ := List.mem_map.1 hx
      exact litS_size hnm (litE_n (‹∀ x ∈ xs, litE mvs.length x = 0› y hy)).2.2
    refine up (I := fun n v (a : List ByteArray) => text_each_api_Lit_l_I0 xs _ n v a mvs mcs goal mvar buf) (a := []) 0 xs.length rfl (Nat.zero_le _) hl (fun k a => a = (xs.take k).map (litS mvs)) rfl fun n k a _ hk ha hn => ?_
    subst ha
    rw [text_each_api_Lit_l_I0_eq]
    by_cases hlt : k < xs.length
    · rw [sel_lt hlt, at_nat (t := .lit) hlt]
      have hnx := hn hlt _ (map_take (litS mvs) hlt).symm
      have hroom : room .str (((xs.take k).map (litS mvs)).length + [(litS mvs) xs[k]].length) = true := room_of (t := .str) (by rw [List.length_map, List.length_take]; show (_ + 1) * 16 ≤ _; omega)
      exact ⟨inb_nat hlt, _, print_lit_ok hnm (hy _ (List.getElem_mem hlt)), hroom, hnx⟩
    · have e : k = xs.length := by omega
      subst e
      rw [sel_end, List.take_length]
      obtain ⟨h1, h2⟩ := brS_join hb (by decide) (by rw [List.length_map]; exact hx)
      refine call1 (t := .str) h1 ⟨?_, ?_, rfl, rfl⟩
      · simp only [ByteArray.size_append, szA, List.size_toArray, List.length_cons, List.length_nil] at h2 ⊢; omega
      · simp only [ByteArray.size_append, szA, List.size_toArray, List.length_cons, List.length_nil] at h2 ⊢; omega
end Go.Proofs.YtogdmcebojiojaaGreatDoor

/- The program's printer: constraints, whole models: printed by gen_pprint2.py. -/
namespace Go.Proofs.YtogdmcebojiojaaGreatDoor
open Go.RowKit
set_option linter.unusedVariables false
set_option linter.unusedSimpArgs false

theorem kind_cases {c : ConD} {nv : Nat} (h : RightC c nv) : c.kind = 1 ∨ c.kind = 2 ∨ c.kind = 3 ∨ c.kind = 4 ∨ c.kind = 5 ∨ c.kind = 6 ∨ c.kind = 7 ∨ c.kind = 8 ∨ c.kind = 9 ∨ c.kind = 10 := by
  have := h.kind; omega
theorem form_len {c : ConD} {nv : Nat} (h : RightC c nv) : (c.kind = 5 → c.vars.length = 2) ∧ (c.kind = 7 → c.vars.length = 3) ∧ (c.kind = 8 → 2 ≤ c.vars.length) ∧ (c.kind = 10 → c.vars.length = 1 ∧ c.lits.length = 1) ∧ (c.kind = 6 → ∀ r ∈ c.rows, r.length = c.vars.length) := by
  have hf := h.form
  refine ⟨fun hk => ?_, fun hk => ?_, fun hk => ?_, fun hk => ?_, fun hk => ?_⟩ <;> unfold formB at hf <;> simp [hk] at hf
  · exact hf.2.1.1.1
  · exact hf.2.1.1.1
  · exact hf.2.1.1.1
  · exact ⟨hf.2.1.1.1, hf.2.2⟩
  · exact hf.2.1.1.1
theorem conS_1 {vs : List VarD} {c : ConD} (hk : c.kind = 1) : conS vs c = (((((wdS c.kind ++ ⟨#[32]⟩) ++ numsS c.consts) ++ ⟨#[32]⟩) ++ namesS vs c.vars) ++ ⟨#[32]⟩) ++ itoaS c.n := by
  unfold conS
  rw [if_pos (by omega)]
theorem conS_2 {vs : List VarD} {c : ConD} (hk : c.kind = 2) : conS vs c = (((((wdS c.kind ++ ⟨#[32]⟩) ++ numsS c.consts) ++ ⟨#[32]⟩) ++ namesS vs c.vars) ++ ⟨#[32]⟩) ++ itoaS c.n := by
  unfold conS
  rw [if_pos (by omega)]
theorem conS_3 {vs : List VarD} {c : ConD} (hk : c.kind = 3) : conS vs c = (((((wdS c.kind ++ ⟨#[32]⟩) ++ numsS c.consts) ++ ⟨#[32]⟩) ++ namesS vs c.vars) ++ ⟨#[32]⟩) ++ itoaS c.n := by
  unfold conS
  rw [if_pos (by omega)]
theorem conS_4 {vs : List VarD} {c : ConD} (hk : c.kind = 4) : conS vs c = (wdS c.kind ++ ⟨#[32]⟩) ++ namesS vs c.vars := by
  unfold conS
  rw [if_neg (by omega), if_pos hk]
theorem conS_5 {vs : List VarD} {c : ConD} (hk : c.kind = 5) : conS vs c = (((((wdS c.kind ++ ⟨#[32]⟩) ++ numsS c.consts) ++ ⟨#[32]⟩) ++ nmS vs (at' .int c.vars 0)) ++ ⟨#[32]⟩) ++ nmS vs (at' .int c.vars 1) := by
  unfold conS
  rw [if_neg (by omega), if_neg (by omega), if_pos hk]
theorem conS_6 {vs : List VarD} {c : ConD} (hk : c.kind = 6) : conS vs c = (((wdS c.kind ++ ⟨#[32]⟩) ++ namesS vs c.vars) ++ ⟨#[32]⟩) ++ brS (c.rows.map numsS) := by
  unfold conS
  rw [if_neg (by omega), if_neg (by omega), if_neg (by omega), if_pos hk]
theorem conS_7 {vs : List VarD} {c : ConD} (hk : c.kind = 7) : conS vs c = (((((wdS c.kind ++ ⟨#[32]⟩) ++ nmS vs (at' .int c.vars 0)) ++ ⟨#[32]⟩) ++ nmS vs (at' .int c.vars 1)) ++ ⟨#[32]⟩) ++ nmS vs (at' .int c.vars 2) := by
  unfold conS
  rw [if_neg (by omega), if_neg (by omega), if_neg (by omega), if_neg (by omega), if_pos hk]
theorem conS_8 {vs : List VarD} {c : ConD} (hk : c.kind = 8) : conS vs c = (((wdS c.kind ++ ⟨#[32]⟩) ++ nmS vs (at' .int c.vars 0)) ++ ⟨#[32]⟩) ++ namesS vs (c.vars.drop 1) := by
  unfold conS
  rw [if_neg (by omega), if_neg (by omega), if_neg (by omega), if_neg (by omega), if_neg (by omega), if_pos hk]
theorem conS_9 {vs : List VarD} {c : ConD} (hk : c.kind = 9) : conS vs c = (wdS c.kind ++ ⟨#[32]⟩) ++ brS (c.lits.map (litS vs)) := by
  unfold conS
  rw [if_neg (by omega), if_neg (by omega), if_neg (by omega), if_neg (by omega), if_neg (by omega), if_neg (by omega), if_pos hk]
theorem conS_10 {vs : List VarD} {c : ConD} (hk : c.kind = 10) : conS vs c = (((wdS c.kind ++ ⟨#[32]⟩) ++ nmS vs (at' .int c.vars 0)) ++ ⟨#[32]⟩) ++ litS vs (at' .lit c.lits 0) := by
  unfold conS
  rw [if_neg (by omega), if_neg (by omega), if_neg (by omega), if_neg (by omega), if_neg (by omega), if_neg (by omega), if_neg (by omega)]
theorem getI_mem {l : List Int} {i : Nat} (h : i < l.length) : at' .int l i ∈ l := by rw [atN (t := .int) h]; exact List.getElem_mem h
theorem getL_mem {l : List LitD} {i : Nat} (h : i < l.length) : at' .lit l i ∈ l := by rw [atN (t := .lit) h]; exact List.getElem_mem h
theorem rows_size {c : ConD} {nv : Nat} (h : RightC c nv) (hk : c.kind = 6) : (brS (c.rows.map numsS)).size ≤ 1922 := by
  have hl := (form_len h).2.2.2.2 hk
  have hm := h.many
  have := brS_size (l := c.rows.map numsS) (B := 94) fun x hx => by
    obtain ⟨r, hr, rfl⟩ := List.mem_map.1 hx
    have := numsS_size (h.rows r hr); have := hl r hr
    omega
  rw [List.length_map] at this
  omega
theorem lits_size {vs : List VarD} (hnm : ∀ v ∈ vs, v.name.size ≤ 12) {c : ConD} (h : RightC c vs.length) : (brS (c.lits.map (litS vs))).size ≤ 158 := by
  have hm := h.many
  have := brS_size (l := c.lits.map (litS vs)) (B := 37) fun x hx => by
    obtain ⟨r, hr, rfl⟩ := List.mem_map.1 hx
    exact litS_size hnm (litE_n (h.lits r hr)).2.2
  rw [List.length_map] at this
  omega
theorem conS_size {vs : List VarD} (hnm : ∀ v ∈ vs, v.name.size ≤ 12) {c : ConD} (h : RightC c vs.length) : (conS vs c).size ≤ 2000 := by
  have z0 : (wdS c.kind).size ≤ 7 := wdS_size c.kind
  have z1 := numsS_size h.consts
  have z2 := namesS_size hnm c.vars
  have z3 := itoa_sz h.n
  have z4 := nmS_size hnm (at' .int c.vars 0)
  have z5 := nmS_size hnm (at' .int c.vars 1)
  have z6 := nmS_size hnm (at' .int c.vars 2)
  have z7 := namesS_size hnm (c.vars.drop 1)
  have z8 := lits_size hnm h
  have hd : (c.vars.drop 1).length = c.vars.length - 1 := List.length_drop
  have hm := h.many
  have hf := form_len h
  rcases kind_cases h with hk | hk | hk | hk | hk | hk | hk | hk | hk | hk
  · rw [conS_1 hk]
    simp only [ByteArray.size_append, szA, List.size_toArray, List.length_cons, List.length_nil]; omega
  · rw [conS_2 hk]
    simp only [ByteArray.size_append, szA, List.size_toArray, List.length_cons, List.length_nil]; omega
  · rw [conS_3 hk]
    simp only [ByteArray.size_append, szA, List.size_toArray, List.length_cons, List.length_nil]; omega
  · rw [conS_4 hk]
    simp only [ByteArray.size_append, szA, List.size_toArray, List.length_cons, List.length_nil]; omega
  · rw [conS_5 hk]
    simp only [ByteArray.size_append, szA, List.size_toArray, List.length_cons, List.length_nil]; omega
  · rw [conS_6 hk]
    have z9 := rows_size h hk
    simp only [ByteArray.size_append, szA, List.size_toArray, List.length_cons, List.length_nil]; omega
  · rw [conS_7 hk]
    simp only [ByteArray.size_append, szA, List.size_toArray, List.length_cons, List.length_nil]; omega
  · rw [conS_8 hk]
    simp only [ByteArray.size_append, szA, List.size_toArray, List.length_cons, List.length_nil]; omega
  · rw [conS_9 hk]
    simp only [ByteArray.size_append, szA, List.size_toArray, List.length_cons, List.length_nil]; omega
  · rw [conS_10 hk]
    have z9 := litS_size hnm (litE_n (h.lits _ (getL_mem (i := 0) (by have := hf.2.2.2.1 hk; omega)))).2.2
    simp only [ByteArray.size_append, szA, List.size_toArray, List.length_cons, List.length_nil]; omega
theorem print_con_ok {mvs : List VarD} {mcs : List ConD} {goal mvar : Int} {buf : List UInt8} (hnm : ∀ v ∈ mvs, v.name.size ≤ 12) {c : ConD} (h : RightC c mvs.length) : SatH Tryz.prog f_text_printer_con [.ptr 1000 0, dC c] (hpB mvs mcs goal mvar buf) (.str (conS mvs c)) (hpB mvs mcs goal mvar buf) :=
  text_printer_con_sat _ _ _ _ _ _ fun ok ok2 => by
    have hkk := h.kind
    have z0 : (at' .str conW (c.kind - 1).toNat).size ≤ 7 := wdS_size c.kind
    have z1 := numsS_size h.consts
    have z2 := namesS_size hnm c.vars
    have z3 := itoa_sz h.n
    have z4 := nmS_size hnm (at' .int c.vars 0)
    have z5 := nmS_size hnm (at' .int c.vars 1)
    have z6 := nmS_size hnm (at' .int c.vars 2)
    have z7 := namesS_size hnm (c.vars.drop 1)
    have z8 := lits_size hnm h
    have hd : (c.vars.drop 1).length = c.vars.length - 1 := List.length_drop
    have hm := h.many
    have hf := form_len h
    rw [text_printer_con_eq]
    refine call1 (t := .list .str) text_words_pr ?_
    rw [w64_less (by omega)]
    refine ⟨inb_iff.2 ⟨by omega, by show c.kind - 1 < ((10 : Nat) : Int); omega⟩, (by simp only [ByteArray.size_append, szA, List.size_toArray, List.length_cons, List.length_nil]; omega), ?_⟩
    have hv := h.vars
    have vo : ∀ i, i < c.vars.length → SatH Tryz.prog f_text_printer_v [.ptr 1000 0, dI (at' .int c.vars i)] (hpB mvs mcs goal mvar buf) (.str (nmS mvs (at' .int c.vars i))) (hpB mvs mcs goal mvar buf) := fun i hi => print_v_ok (hv _ (getI_mem hi))
    rcases kind_cases h with hk | hk | hk | hk | hk | hk | hk | hk | hk | hk
    · exact dt hk (call1 (t := .str) (print_con1_ok c.consts (by omega) h.consts) ⟨(by simp only [ByteArray.size_append, szA, List.size_toArray, List.length_cons, List.length_nil]; omega), (by simp only [ByteArray.size_append, szA, List.size_toArray, List.length_cons, List.length_nil]; omega), _, text_each_int_v_ok hnm c.vars (by omega) h.vars, (by simp only [ByteArray.size_append, szA, List.size_toArray, List.length_cons, List.length_nil]; omega), (by simp only [ByteArray.size_append, szA, List.size_toArray, List.length_cons, List.length_nil]; omega), call1 (t := .str) (itoa_ok (small_i64 h.n)) ⟨(by simp only [ByteArray.size_append, szA, List.size_toArray, List.length_cons, List.length_nil]; omega), congrArg D.str (conS_1 hk).symm, rfl⟩⟩)
    · exact df (by omega) (dt hk (call1 (t := .str) (print_con1_ok c.consts (by omega) h.consts) ⟨(by simp only [ByteArray.size_append, szA, List.size_toArray, List.length_cons, List.length_nil]; omega), (by simp only [ByteArray.size_append, szA, List.size_toArray, List.length_cons, List.length_nil]; omega), _, text_each_int_v_ok hnm c.vars (by omega) h.vars, (by simp only [ByteArray.size_append, szA, List.size_toArray, List.length_cons, List.length_nil]; omega), (by simp only [ByteArray.size_append, szA, List.size_toArray, List.length_cons, List.length_nil]; omega), call1 (t := .str) (itoa_ok (small_i64 h.n)) ⟨(by simp only [ByteArray.size_append, szA, List.size_toArray, List.length_cons, List.length_nil]; omega), congrArg D.str (conS_2 hk).symm, rfl⟩⟩))
    · exact df (by omega) (df (by omega) (dt hk (call1 (t := .str) (print_con1_ok c.consts (by omega) h.consts) ⟨(by simp only [ByteArray.size_append, szA, List.size_toArray, List.length_cons, List.length_nil]; omega), (by simp only [ByteArray.size_append, szA, List.size_toArray, List.length_cons, List.length_nil]; omega), _, text_each_int_v_ok hnm c.vars (by omega) h.vars, (by simp only [ByteArray.size_append, szA, List.size_toArray, List.length_cons, List.length_nil]; omega), (by simp only [ByteArray.size_append, szA, List.size_toArray, List.length_cons, List.length_nil]; omega), call1 (t := .str) (itoa_ok (small_i64 h.n)) ⟨(by simp only [ByteArray.size_append, szA, List.size_toArray, List.length_cons, List.length_nil]; omega), congrArg D.str (conS_3 hk).symm, rfl⟩⟩)))
    · exact df (by omega) (df (by omega) (df (by omega) (dt hk (⟨_, text_each_int_v_ok hnm c.vars (by omega) h.vars, (by simp only [ByteArray.size_append, szA, List.size_toArray, List.length_cons, List.length_nil]; omega), congrArg D.str (conS_4 hk).symm, rfl⟩))))
    · have hlen := hf.1 hk
      exact df (by omega) (df (by omega) (df (by omega) (df (by omega) (dt hk (call1 (t := .str) (print_con1_ok c.consts (by omega) h.consts) ⟨(by simp only [ByteArray.size_append, szA, List.size_toArray, List.length_cons, List.length_nil]; omega), (by simp only [ByteArray.size_append, szA, List.size_toArray, List.length_cons, List.length_nil]; omega), inb_nat (k := 0) (by omega), inb_nat (k := 1) (by omega), _, vo 0 (by omega), (by simp only [ByteArray.size_append, szA, List.size_toArray, List.length_cons, List.length_nil]; omega), (by simp only [ByteArray.size_append, szA, List.size_toArray, List.length_cons, List.length_nil]; omega), _, vo 1 (by omega), (by simp only [ByteArray.size_append, szA, List.size_toArray, List.length_cons, List.length_nil]; omega), congrArg D.str (conS_5 hk).symm, rfl⟩)))))
    · have z9 := rows_size h hk
      exact df (by omega) (df (by omega) (df (by omega) (df (by omega) (df (by omega) (dt hk (⟨_, text_each_int_v_ok hnm c.vars (by omega) h.vars, (by simp only [ByteArray.size_append, szA, List.size_toArray, List.length_cons, List.length_nil]; omega), (by simp only [ByteArray.size_append, szA, List.size_toArray, List.length_cons, List.length_nil]; omega), call1 (t := .str) (text_each_l_int_ok c.rows (by omega) (fun r hr => by have := hf.2.2.2.2 hk r hr; omega) h.rows) ⟨(by simp only [ByteArray.size_append, szA, List.size_toArray, List.length_cons, List.length_nil]; omega), congrArg D.str (conS_6 hk).symm, rfl⟩⟩))))))
    · have hlen := hf.2.1 hk
      exact df (by omega) (df (by omega) (df (by omega) (df (by omega) (df (by omega) (df (by omega) (dt hk (⟨inb_nat (k := 0) (by omega), inb_nat (k := 1) (by omega), inb_nat (k := 2) (by omega), _, vo 0 (by omega), (by simp only [ByteArray.size_append, szA, List.size_toArray, List.length_cons, List.length_nil]; omega), (by simp only [ByteArray.size_append, szA, List.size_toArray, List.length_cons, List.length_nil]; omega), _, vo 1 (by omega), (by simp only [ByteArray.size_append, szA, List.size_toArray, List.length_cons, List.length_nil]; omega), (by simp only [ByteArray.size_append, szA, List.size_toArray, List.length_cons, List.length_nil]; omega), _, vo 2 (by omega), (by simp only [ByteArray.size_append, szA, List.size_toArray, List.length_cons, List.length_nil]; omega), congrArg D.str (conS_7 hk).symm, rfl⟩)))))))
    · have hlen := hf.2.2.1 hk
      rw [show (c.vars.take (c.vars.length : Int).toNat) = c.vars from by rw [Int.toNat_natCast, List.take_length]]
      exact df (by omega) (df (by omega) (df (by omega) (df (by omega) (df (by omega) (df (by omega) (df (by omega) (dt hk ((fun h => ⟨inb_nat (k := 0) (by omega), by unfold inSl; simp; omega, h, h⟩) ⟨_, vo 0 (by omega), (by simp only [ByteArray.size_append, szA, List.size_toArray, List.length_cons, List.length_nil]; omega), (by simp only [ByteArray.size_append, szA, List.size_toArray, List.length_cons, List.length_nil]; omega), _, text_each_int_v_ok hnm (c.vars.drop 1) (by omega) (fun x hx => hv x (List.mem_of_mem_drop hx)), (by simp only [ByteArray.size_append, szA, List.size_toArray, List.length_cons, List.length_nil]; omega), congrArg D.str (conS_8 hk).symm, rfl⟩))))))))
    · exact df (by omega) (df (by omega) (df (by omega) (df (by omega) (df (by omega) (df (by omega) (df (by omega) (df (by omega) (dt hk (⟨_, text_each_api_Lit_l_ok hnm c.lits (by omega) h.lits, (by simp only [ByteArray.size_append, szA, List.size_toArray, List.length_cons, List.length_nil]; omega), congrArg D.str (conS_9 hk).symm, rfl⟩)))))))))
    · have hlen := hf.2.2.2.1 hk
      have z9 := litS_size hnm (litE_n (h.lits _ (getL_mem (i := 0) (by omega)))).2.2
      exact df (by omega) (df (by omega) (df (by omega) (df (by omega) (df (by omega) (df (by omega) (df (by omega) (df (by omega) (df (by omega) (⟨inb_nat (k := 0) (by omega), inb_nat (k := 0) (by omega), _, vo 0 (by omega), (by simp only [ByteArray.size_append, szA, List.size_toArray, List.length_cons, List.length_nil]; omega), (by simp only [ByteArray.size_append, szA, List.size_toArray, List.length_cons, List.length_nil]; omega), _, print_lit_ok hnm (h.lits _ (getL_mem (i := 0) (by omega))), (by simp only [ByteArray.size_append, szA, List.size_toArray, List.length_cons, List.length_nil]; omega), congrArg D.str (conS_10 hk).symm, rfl⟩)))))))))
/-! ### Writing -/
theorem lies6 (T : TypeId) (h : memT bTys T = true) : liesAt Tryz.prog Tryz.prog.depth T (6 / Tryz.prog.cellsOf T) 0 99 1 = true := by
  have hT : T = 99 ∨ T = 101 := by
    unfold bTys memT at h
    cases h1 : Nat.beq 99 T with
    | true => exact .inl (Nat.eq_of_beq_eq_true h1).symm
    | false =>
      rw [h1, cond_false] at h
      unfold memT at h
      cases h2 : Nat.beq 101 T with
      | true => exact .inr (Nat.eq_of_beq_eq_true h2).symm
      | false => rw [h2] at h; cases h
  rcases hT with rfl | rfl
  · show liesAt Tryz.prog Tryz.prog.depth 99 (6 / Tryz.prog.cellsOf 99) 0 99 1 = true
    kernel_rfl
  · show liesAt Tryz.prog Tryz.prog.depth 101 (6 / Tryz.prog.cellsOf 101) 0 99 1 = true
    kernel_rfl
theorem write_ok {mvs : List VarD} {mcs : List ConD} {goal mvar : Int} {buf : List UInt8} (s : ByteArray) (h : buf.length + s.size ≤ 140737488355328) : SatH Tryz.prog f_strings_Builder_WriteString [.ptr 1000 0, .str s] (hpB mvs mcs goal mvar buf) (.tup [dI (s.size : Int), .undef]) (hpB mvs mcs goal mvar (buf ++ s.data.toList)) :=
  strings_Builder_WriteString_p_sat _ _ _ _ _ _ fun ok ok2 => by
    rw [strings_Builder_WriteString_p_eq]
    exact ⟨copyCheck_ok _ _ lies6, room_of (t := .byte) (by show (_ + _) * 1 ≤ _; omega), rfl, rfl⟩
theorem varS_size {v : VarD} (h : v.name.size ≤ 12) (h1 : -50 ≤ v.lo ∧ v.hi ≤ 50 ∧ v.lo ≤ v.hi ∧ v.hi - v.lo < 6) : (varS v).size ≤ 64 := by
  have z1 := itoa_sz (n := v.lo) (by omega); have z2 := itoa_sz (n := v.hi) (by omega)
  unfold varS
  simp only [ByteArray.size_append, szA, List.size_toArray, List.length_cons, List.length_nil]; omega
theorem flatB_len {α : Type} {f : α → List UInt8} {B : Nat} : ∀ (l : List α), (∀ x ∈ l, (f x).length ≤ B) → (l.flatMap f).length ≤ l.length * B
  | [], _ => by simp
  | x :: r, h => by
    have ih := flatB_len r fun y hy => h y (List.mem_cons_of_mem _ hy)
    have := h x List.mem_cons_self
    rw [List.flatMap_cons, List.length_append, List.length_cons, Nat.succ_mul]; omega
theorem varsL_len {m : MdlD} (h : PrOk m) (k : Nat) : (varsL (m.vars.take k)).length ≤ 384 := by
  have := flatB_len (f := fun v => (varS v).data.toList) (B := 64) (m.vars.take k) fun v hv => varS_size (h.names v (List.mem_of_mem_take hv)) (h.right.var v (List.mem_of_mem_take hv))
  have := h.right.vars
  have h3 : (m.vars.take k).length ≤ 6 := by rw [List.length_take]; omega
  have := Nat.mul_le_mul_right 64 h3
  unfold varsL; omega
theorem conT_size {m : MdlD} (h : PrOk m) {c : ConD} (hc : c ∈ m.cons) : (conT m.vars c).size ≤ 2006 := by
  have := conS_size h.names (h.cons c hc)
  unfold conT
  simp only [ByteArray.size_append, szA, List.size_toArray, List.length_cons, List.length_nil]; omega
theorem consL_len {m : MdlD} (h : PrOk m) (k : Nat) : (consL m.vars (m.cons.take k)).length ≤ 16048 := by
  have := flatB_len (f := fun c => (conT m.vars c).data.toList) (B := 2006) (m.cons.take k) fun c hc => conT_size h (List.mem_of_mem_take hc)
  have := h.right.cons
  have h3 : (m.cons.take k).length ≤ 8 := by rw [List.length_take]; omega
  have := Nat.mul_le_mul_right 2006 h3
  unfold consL; omega
theorem flat_take {α : Type} (f : α → List UInt8) {l : List α} {k : Nat} (h : k < l.length) : (l.take (k + 1)).flatMap f = (l.take k).flatMap f ++ f l[k] := by
  rw [← List.take_append_getElem h, List.flatMap_append]
  simp
theorem goal_cases {m : MdlD} (h : PrOk m) : m.goal = 0 ∨ (m.goal = 1 ∨ m.goal = 2) ∧ 0 ≤ m.var ∧ m.var < m.vars.length := by
  have hg := h.right.goal
  unfold goalE at hg
  split at hg
  · exact absurd hg (by decide)
  rename_i h1
  split at hg
  · exact absurd hg (by decide)
  rename_i h2
  split at hg
  · exact absurd hg (by decide)
  rename_i h3
  simp [inR] at h1
  by_cases h0 : m.goal = 0
  · exact .inl h0
  · refine .inr ⟨by omega, ?_⟩
    have h3 : noneB m.vars.length m.var = false := by
      cases hb : noneB m.vars.length m.var with
      | false => rfl
      | true => exact absurd ⟨h0, hb⟩ h3
    simp [noneB, inR] at h3
    omega
theorem print_cons_run {m : MdlD} (h : PrOk m) {R : D → Prop} (hR : R (.tup [.str (printS m), dI 0])) : ∃ n, text_Print_I2 m R n 0 m.vars m.cons m.goal m.var (varsL m.vars) := by
  have hc8 := h.right.cons
  have hv6 := h.right.vars
  refine up (I := fun n v (buf : List UInt8) => text_Print_I2 m R n v m.vars m.cons m.goal m.var buf) (a := varsL m.vars) 0 m.cons.length rfl (Nat.zero_le _) (by omega) (fun k buf => buf = varsL m.vars ++ consL m.vars (m.cons.take k)) (by simp [consL]) fun n k buf _ hk ha hn => ?_
  subst ha
  have hl1 := varsL_len h m.vars.length
  rw [List.take_length] at hl1
  have hl2 := consL_len h k
  rw [text_Print_I2_eq]
  by_cases hlt : k < m.cons.length
  · rw [sel_lt hlt, at_nat (t := .con) hlt]
    have hmem := List.getElem_mem hlt
    have hz := conS_size h.names (h.cons _ hmem)
    have hz2 := conT_size h hmem
    have hw := write_ok (mvs := m.vars) (mcs := m.cons) (goal := m.goal) (mvar := m.var) (buf := varsL m.vars ++ consL m.vars (m.cons.take k)) (conT m.vars m.cons[k]) (by rw [List.length_append]; omega)
    refine ⟨inb_nat hlt, _, print_con_ok h.names (h.cons _ hmem), ?_, ?_, _, _, hw, hn hlt _ ?_⟩
    · simp only [ByteArray.size_append, szA, List.size_toArray, List.length_cons, List.length_nil]; omega
    · simp only [ByteArray.size_append, szA, List.size_toArray, List.length_cons, List.length_nil]; omega
    · unfold consL; rw [flat_take _ hlt, List.append_assoc]
  · have e : k = m.cons.length := by omega
    subst e
    rw [sel_end, List.take_length]
    rw [List.take_length] at hl2
    have hnm := nmS_size h.names m.var
    have hpl : printL m = varsL m.vars ++ consL m.vars m.cons ++ (goalT m).data.toList := rfl
    have hlen : (varsL m.vars ++ consL m.vars m.cons).length ≤ 16432 := by rw [List.length_append]; omega
    have fin : ∀ s : ByteArray, goalT m = s → s.size ≤ 100 → s ≠ ⟨#[]⟩ → ∃ (w1 : Int) (w2 : List UInt8), SatH Tryz.prog f_strings_Builder_WriteString [.ptr 1000 0, .str s] (hpB m.vars m.cons m.goal m.var (varsL m.vars ++ consL m.vars m.cons)) (.tup [dI w1, .undef]) (hpB m.vars m.cons m.goal m.var w2) ∧
        ∃ t : ByteArray, SatH Tryz.prog f_strings_Builder_String [.ptr 1000 0] (hpB m.vars m.cons m.goal m.var w2) (.str t) [] ∧ R (.tup [.str t, dI 0]) := fun s hs h1 h2 => by
      have hne : varsL m.vars ++ consL m.vars m.cons ++ s.data.toList ≠ [] := fun e => h2 (by
        have : s.data.toList = [] := (List.append_eq_nil_iff.1 e).2
        have h3 : s.size = 0 := by have : s.size = s.data.toList.length := rfl; simp_all
        exact ByteArray.size_eq_zero_iff.1 h3)
      have hll : (varsL m.vars ++ consL m.vars m.cons ++ s.data.toList).length ≤ 20000 := by
        rw [List.length_append]
        have : s.data.toList.length = s.size := rfl
        omega
      refine ⟨_, _, write_ok s (by omega), _, String_ok _ _ _ hne (by unfold inI64; omega), ?_⟩
      rw [← hs]; exact hR
    rcases goal_cases h with hg | ⟨hg | hg, hv⟩
    · exact dt hg (fin _ (by unfold goalT; rw [if_pos hg]) (by decide) (by decide))
    · refine df (by omega) (dt hg ⟨_, print_v_ok hv, ?_, ?_, fin _ (by unfold goalT; rw [if_neg (by omega), if_pos hg]) ?_ ?_⟩)
      · simp only [ByteArray.size_append, szA, List.size_toArray, List.length_cons, List.length_nil]; omega
      · simp only [ByteArray.size_append, szA, List.size_toArray, List.length_cons, List.length_nil]; omega
      · simp only [ByteArray.size_append, szA, List.size_toArray, List.length_cons, List.length_nil]; omega
      · intro e; have := congrArg ByteArray.size e; simp only [ByteArray.size_append, szA, List.size_toArray, List.length_cons, List.length_nil] at this; omega
    · refine df (by omega) (df (by omega) (dt hg ⟨_, print_v_ok hv, ?_, ?_, fin _ (by unfold goalT; rw [if_neg (by omega), if_neg (by omega)]) ?_ ?_⟩))
      · simp only [ByteArray.size_append, szA, List.size_toArray, List.length_cons, List.length_nil]; omega
      · simp only [ByteArray.size_append, szA, List.size_toArray, List.length_cons, List.length_nil]; omega
      · simp only [ByteArray.size_append, szA, List.size_toArray, List.length_cons, List.length_nil]; omega
      · intro e; have := congrArg ByteArray.size e; simp only [ByteArray.size_append, szA, List.size_toArray, List.length_cons, List.length_nil] at this; omega
def printE (m : MdlD) : ByteArray := if checkM m = 0 then printS m else ⟨#[]⟩
theorem text_Print_ok (m : MdlD) : Sat Tryz.prog f_text_Print [dM m] (.tup [toD .str (printE m), toD .int (checkM m)]) :=
  text_Print_sat m fun ok => by
    rw [text_Print_eq]
    refine call1 (t := .int) (model_Check_ok m) ?_
    unfold printE
    by_cases hc : checkM m = 0
    · rw [if_pos hc]
      refine dnf hc ?_
      have h := prOk hc
      have hv6 := h.right.vars
      refine up (I := fun n v (buf : List UInt8) => text_Print_I0 m _ n v m.vars m.cons m.goal m.var buf) (a := []) 0 m.vars.length rfl (Nat.zero_le _) (by omega) (fun k buf => buf = varsL (m.vars.take k)) (by simp [varsL]) fun n k buf _ hk ha hn => ?_
      subst ha
      have hl1 := varsL_len h k
      rw [text_Print_I0_eq]
      by_cases hlt : k < m.vars.length
      · rw [sel_lt hlt, at_nat (t := .var) hlt]
        have hmem := List.getElem_mem hlt
        have hr := h.right.var _ hmem
        have hs := h.names _ hmem
        have z1 := itoa_sz (n := m.vars[k].lo) (by omega); have z2 := itoa_sz (n := m.vars[k].hi) (by omega)
        have hlo := itoa_ok (n := m.vars[k].lo) (small_i64 (by omega))
        have hhi := itoa_ok (n := m.vars[k].hi) (small_i64 (by omega))
        have hz := varS_size hs hr
        have hw := write_ok (mvs := m.vars) (mcs := m.cons) (goal := m.goal) (mvar := m.var) (buf := varsL (m.vars.take k)) (varS m.vars[k]) (by omega)
        have hnx := hn hlt _ (show varsL (m.vars.take k) ++ (varS m.vars[k]).data.toList = varsL (m.vars.take (k + 1)) by unfold varsL; rw [flat_take _ hlt])
        refine ⟨inb_nat hlt, ?_⟩
        have fin : ∃ (w1 : Int) (w2 : List UInt8), SatH Tryz.prog f_strings_Builder_WriteString [.ptr 1000 0, .str (varS m.vars[k])] (hpB m.vars m.cons m.goal m.var (varsL (m.vars.take k))) (.tup [dI w1, .undef]) (hpB m.vars m.cons m.goal m.var w2) ∧ text_Print_I0 m _ n (w64 ((k : Int) + 1)) m.vars m.cons m.goal m.var w2 := ⟨_, _, hw, hnx⟩
        repeat' (first | exact fin | (simp only [ByteArray.size_append, szA, List.size_toArray, List.length_cons, List.length_nil]; omega) | (refine call1 (t := .str) hlo ?_) | (refine call1 (t := .str) hhi ?_) | (refine And.intro ?_ ?_))
      · have e : k = m.vars.length := by omega
        subst e
        rw [sel_end, List.take_length]
        exact print_cons_run h (by rw [hc]; rfl)
    · rw [if_neg hc]
      exact dnt hc rfl
end Go.Proofs.YtogdmcebojiojaaGreatDoor

/- The document's printer: numerals, brackets, literals. -/
namespace Go.Proofs.YtogdmcebojiojaaGreatDoor
open Go.RowKit
set_option linter.unusedVariables false
set_option linter.unusedSimpArgs false

theorem ba_app (a b : List UInt8) : (⟨(a ++ b).toArray⟩ : ByteArray) = ⟨a.toArray⟩ ++ ⟨b.toArray⟩ := by
  apply ByteArray.ext
  rw [ByteArray.data_append]
  simp
theorem ba_list (x : ByteArray) : (⟨x.data.toList.toArray⟩ : ByteArray) = x := by cases x; rfl
theorem itoa_one {n : Int} (h : 0 ≤ n ∧ n < 10) : itoaS n = ⟨#[UInt8.ofNat (48 + n.toNat)]⟩ := by
  unfold itoaS Lib.itoa
  rw [if_neg (by omega), Lib.decDigits_one (by omega)]
theorem itoa_neg {n : Int} (h : n < 0) : itoaS n = ⟨#[45]⟩ ++ itoaS (-n) := by
  unfold itoaS Lib.itoa
  rw [if_pos h, if_neg (by omega), show n.natAbs = (-n).toNat by omega]
  exact ba_app [45] _
theorem itoa_big {n : Int} (h : 10 ≤ n) : itoaS n = itoaS (n / 10) ++ itoaS (n % 10) := by
  rw [itoa_one (n := n % 10) (by omega)]
  unfold itoaS Lib.itoa
  rw [if_neg (by omega), if_neg (by omega), Lib.decDigits, dif_neg (by omega), show n.toNat / 10 = (n / 10).toNat by omega, show n.toNat % 10 = (n % 10).toNat by omega]
  exact ba_app _ _
theorem digits_ok : ∀ (k : Nat) (n : Int), n.natAbs ≤ k → -1000000 ≤ n ∧ n ≤ 1000000 → Sat Tryz.prog f_cordonref_Digits [dI n] (toD .str (itoaS n))
  | k, n, hk, hb => cordonref_Digits_sat n fun ok => by
    have hsz : ∀ m : Int, -1000000 ≤ m ∧ m ≤ 1000000 → (itoaS m).size ≤ 21 := fun m hm => itoaS_size (by unfold inI64; omega)
    rw [cordonref_Digits_eq]
    by_cases h0 : n < 0
    · refine dt h0 ?_
      by_cases h1 : -10 < n
      · refine dt h1 ?_
        rw [w64_eq (by omega) (by omega), Int.zero_sub]
        cases k with
        | zero => omega
        | succ k =>
          have z := hsz (-n) (by omega)
          refine call1 (t := .str) (digits_small (-n) (by omega)) ⟨?_, ?_⟩
          · simp only [szA, List.size_toArray, List.length_cons, List.length_nil]; omega
          · rw [← itoa_neg h0]; rfl
      · refine df h1 ⟨by decide, ?_⟩
        have e1 : n.tdiv 10 = -((-n) / 10) := by
          rw [show n = -(-n) by omega, Int.neg_tdiv, Int.tdiv_eq_ediv_of_nonneg (by omega)]; simp
        have e2 : n.tmod 10 = -((-n) % 10) := by
          rw [show n = -(-n) by omega, Int.neg_tmod, Int.tmod_eq_emod_of_nonneg (by omega)]; simp
        rw [e1, e2, w64_eq (n := -((-n) / 10)) (by omega) (by omega), w64_eq (n := 0 - -((-n) / 10)) (by omega) (by omega), w64_eq (n := 0 - -((-n) % 10)) (by omega) (by omega), Int.zero_sub, Int.zero_sub, Int.neg_neg, Int.neg_neg]
        cases k with
        | zero => omega
        | succ k =>
          have z1 := hsz ((-n) / 10) (by omega); have z2 := hsz ((-n) % 10) (by omega)
          refine call1 (t := .str) (digits_ok k ((-n) / 10) (by omega) (by omega)) ⟨?_, by decide, call1 (t := .str) (digits_small ((-n) % 10) (by omega)) ⟨?_, ?_⟩⟩
          · simp only [szA, List.size_toArray, List.length_cons, List.length_nil]; omega
          · simp only [ByteArray.size_append, szA, List.size_toArray, List.length_cons, List.length_nil]; omega
          · rw [itoa_neg h0, itoa_big (n := -n) (by omega), ByteArray.append_assoc]; rfl
    · refine df h0 ?_
      by_cases h1 : n < 10
      · refine dt h1 ?_
        rw [itoa_one (by omega)]
        exact digit_val (by omega)
      · refine df h1 ⟨by decide, ?_⟩
        have e1 : n.tdiv 10 = n / 10 := Int.tdiv_eq_ediv_of_nonneg (by omega)
        have e2 : n.tmod 10 = n % 10 := Int.tmod_eq_emod_of_nonneg (by omega)
        rw [e1, e2, w64_eq (by omega) (by omega)]
        cases k with
        | zero => omega
        | succ k =>
          have z1 := hsz (n / 10) (by omega); have z2 := hsz (n % 10) (by omega)
          refine call1 (t := .str) (digits_ok k (n / 10) (by omega) (by omega)) ⟨by decide, call1 (t := .str) (digits_small (n % 10) (by omega)) ⟨?_, ?_⟩⟩
          · omega
          · rw [itoa_big (n := n) (by omega)]; rfl
 where
  digit_val {n : Int} (h : 0 ≤ n ∧ n < 10) : D.str ⟨([UInt8.ofNat ((IntKind.u8.wrap (w64 (48 + n))).toNat)]).toArray⟩ = toD .str ⟨#[UInt8.ofNat (48 + n.toNat)]⟩ := by
    rw [w64_eq (by omega) (by omega)]
    have e : (IntKind.u8.wrap (48 + n)).toNat = 48 + n.toNat := by rw [IntKind.wrap_u8]; omega
    rw [e]; rfl
  digits_small (n : Int) (h : 0 ≤ n ∧ n < 10) : Sat Tryz.prog f_cordonref_Digits [dI n] (toD .str (itoaS n)) := cordonref_Digits_sat n fun ok => by
    rw [cordonref_Digits_eq]
    refine df (by omega) (dt (by omega) ?_)
    rw [itoa_one h]
    exact digit_val h
theorem cordonref_Digits_ok {n : Int} (h : -1000000 ≤ n ∧ n ≤ 1000000) : Sat Tryz.prog f_cordonref_Digits [dI n] (toD .str (itoaS n)) := digits_ok _ n (Nat.le_refl _) h
/-! ### Brackets -/
theorem join_snoc (sep : List UInt8) : ∀ (l : List (List UInt8)) (x : List UInt8), Lib.join (l ++ [x]) sep = if l = [] then x else Lib.join l sep ++ sep ++ x
  | [], x => by simp [Lib.join]
  | [a], x => by simp [Lib.join, List.intercalate]
  | a :: b :: r, x => by
    have ih := join_snoc sep (b :: r) x
    rw [if_neg (by simp)] at ih ⊢
    have e1 : Lib.join (a :: b :: r ++ [x]) sep = a ++ sep ++ Lib.join (b :: r ++ [x]) sep := by simp [Lib.join, List.intercalate]
    have e2 : Lib.join (a :: b :: r) sep = a ++ sep ++ Lib.join (b :: r) sep := by simp [Lib.join, List.intercalate]
    rw [e1, e2, ih]; simp [List.append_assoc]
/-- Brackets, begun. -/
def brP (l : List ByteArray) : ByteArray := ⟨#[91]⟩ ++ ⟨(Lib.join (l.map fun x => x.data.toList) [44, 32]).toArray⟩
theorem brP_snoc {l : List ByteArray} {x : ByteArray} : brP (l ++ [x]) = if l = [] then brP l ++ x else (brP l ++ ⟨#[44, 32]⟩) ++ x := by
  unfold brP
  rw [List.map_append]
  have h := join_snoc [44, 32] (l.map fun x => x.data.toList) x.data.toList
  rw [show (List.map (fun x => x.data.toList) [x]) = [x.data.toList] from rfl, h]
  by_cases hl : l = []
  · subst hl
    rw [List.map_nil, if_pos rfl, if_pos rfl, ba_list]
    apply ByteArray.ext; simp [Lib.join]
  · rw [if_neg (by simpa using hl), if_neg hl, ba_app, ba_app, ba_list, ByteArray.append_assoc, ByteArray.append_assoc, ByteArray.append_assoc]
theorem brP_size {l : List ByteArray} {B : Nat} (h : ∀ x ∈ l, x.size ≤ B) : (brP l).size ≤ l.length * (B + 2) + 1 := by
  have := brS_size h
  have e : brS l = brP l ++ ⟨#[93]⟩ := rfl
  rw [e] at this
  simp only [ByteArray.size_append, szA, List.size_toArray, List.length_cons, List.length_nil] at this
  omega
theorem cordonref_Brackets_ok {l : List ByteArray} (h : ∀ x ∈ l, x.size ≤ 100000) (hl : l.length ≤ 100000) : Sat Tryz.prog f_cordonref_Brackets [.sl .str l] (toD .str (brS l)) :=
  cordonref_Brackets_sat l fun ok => by
    rw [cordonref_Brackets_eq]
    refine up (I := fun n v (s : ByteArray) => cordonref_Brackets_I0 l _ n s v) (a := ⟨#[91]⟩) 0 l.length rfl (Nat.zero_le _) (by omega) (fun k s => s = brP (l.take k)) (by simp [brP, Lib.join]; apply ByteArray.ext; simp) fun n k s _ hk hs hn => ?_
    subst hs
    have hz := brP_size (l := l.take k) (B := 100000) fun x hx => h x (List.mem_of_mem_take hx)
    have hlen : (l.take k).length ≤ 100000 := by rw [List.length_take]; omega
    have hz2 := Nat.mul_le_mul_right (100000 + 2) hlen
    rw [cordonref_Brackets_I0_eq]
    by_cases hlt : k < l.length
    · rw [sel_lt hlt, at_nat (t := .str) hlt]
      have hx := h _ (List.getElem_mem hlt)
      have hx' : (l[k] : ByteArray).size ≤ 100000 := hx
      have hstep : brP (l.take (k + 1)) = if l.take k = [] then brP (l.take k) ++ l[k] else (brP (l.take k) ++ ⟨#[44, 32]⟩) ++ l[k] := by
        rw [← List.take_append_getElem hlt]; exact brP_snoc
      by_cases h0 : k = 0
      · subst h0
        rw [List.take_zero, if_pos rfl] at hstep
        refine df (by decide) ⟨inb_nat hlt, ?_, hn hlt _ ?_⟩
        · omega
        · rw [hstep, List.take_zero]
      · rw [if_neg (by intro e; have := congrArg List.length e; rw [List.length_take, List.length_nil] at this; omega)] at hstep
        refine dt (by omega) ⟨?_, inb_nat hlt, ?_, hn hlt _ hstep.symm⟩
        · simp only [szA, List.size_toArray, List.length_cons, List.length_nil]; omega
        · simp only [ByteArray.size_append, szA, List.size_toArray, List.length_cons, List.length_nil]; omega
    · have e : k = l.length := by omega
      subst e
      rw [List.take_length] at hz ⊢
      rw [sel_end]
      refine ⟨?_, rfl⟩
      simp only [szA, List.size_toArray, List.length_cons, List.length_nil]; omega
theorem cordonref_numbersText_ok {l : List Int} (h : ∀ n ∈ l, -1000 ≤ n ∧ n ≤ 1000) (hl : l.length ≤ 100000) : Sat Tryz.prog f_cordonref_numbersText [.sl .int l] (toD .str (numsS l)) :=
  cordonref_numbersText_sat l fun ok => by
    rw [cordonref_numbersText_eq]
    refine up (I := fun n v (a : List ByteArray) => cordonref_numbersText_I0 l _ n v a) (a := []) 0 l.length rfl (Nat.zero_le _) (by omega) (fun k a => a = (l.take k).map itoaS) rfl fun n k a _ hk ha hn => ?_
    subst ha
    rw [cordonref_numbersText_I0_eq]
    by_cases hlt : k < l.length
    · rw [sel_lt hlt, at_nat (t := .int) hlt]
      have hx := h _ (List.getElem_mem hlt)
      exact ⟨inb_nat hlt, call1 (t := .str) (cordonref_Digits_ok (by omega)) ⟨room_of (t := .str) (by rw [List.length_map, List.length_take]; show (_ + 1) * 16 ≤ _; omega), hn hlt _ (map_take itoaS hlt).symm⟩⟩
    · have e : k = l.length := by omega
      subst e
      rw [sel_end, List.take_length]
      exact call1 (t := .str) (cordonref_Brackets_ok (fun x hx => by obtain ⟨y, hy, rfl⟩ := List.mem_map.1 hx; have := itoa_sz (h y hy); omega) (by rw [List.length_map]; exact hl)) rfl
theorem cordonref_namesText_ok {m : MdlD} {l : List Int} (hnm : ∀ v ∈ m.vars, v.name.size ≤ 12) (h : ∀ n ∈ l, 0 ≤ n ∧ n < m.vars.length) (hl : l.length ≤ 100000) : Sat Tryz.prog f_cordonref_namesText [dM m, .sl .int l] (toD .str (namesS m.vars l)) :=
  cordonref_namesText_sat m l fun ok => by
    rw [cordonref_namesText_eq]
    refine up (I := fun n v (a : List ByteArray) => cordonref_namesText_I0 m l _ n v a) (a := []) 0 l.length rfl (Nat.zero_le _) (by omega) (fun k a => a = (l.take k).map (nmS m.vars)) rfl fun n k a _ hk ha hn => ?_
    subst ha
    rw [cordonref_namesText_I0_eq]
    by_cases hlt : k < l.length
    · rw [sel_lt hlt, at_nat (t := .int) hlt]
      have hx := h _ (List.getElem_mem hlt)
      exact ⟨inb_nat hlt, inb_iff.2 ⟨hx.1, by omega⟩, room_of (t := .str) (by rw [List.length_map, List.length_take]; show (_ + 1) * 16 ≤ _; omega), hn hlt _ (map_take (nmS m.vars) hlt).symm⟩
    · have e : k = l.length := by omega
      subst e
      rw [sel_end, List.take_length]
      exact call1 (t := .str) (cordonref_Brackets_ok (fun x hx => by obtain ⟨y, hy, rfl⟩ := List.mem_map.1 hx; have := nmS_size hnm y; omega) (by rw [List.length_map]; exact hl)) rfl
theorem op_at {o : Int} (h : 1 ≤ o ∧ o ≤ 4) : at' .str ([(⟨#[]⟩ : ByteArray), (⟨#[60, 61]⟩ : ByteArray), (⟨#[62, 61]⟩ : ByteArray), (⟨#[61, 61]⟩ : ByteArray), (⟨#[33, 61]⟩ : ByteArray)]) o.toNat = opS o := by
  have h : o = 1 ∨ o = 2 ∨ o = 3 ∨ o = 4 := by omega
  rcases h with rfl | rfl | rfl | rfl <;> rfl
theorem cordonref_litText_ok {m : MdlD} {x : LitD} (hnm : ∀ v ∈ m.vars, v.name.size ≤ 12) (h : litE m.vars.length x = 0) : Sat Tryz.prog f_cordonref_litText [dM m, dL x] (toD .str (litS m.vars x)) :=
  cordonref_litText_sat m x fun ok => by
    obtain ⟨h1, h2, h3⟩ := litE_n h
    rw [cordonref_litText_eq, op_at h2]
    have z1 : ((at' .var m.vars x.var.toNat).name).size ≤ 12 := nmS_size hnm x.var
    have z2 := opS_size x.op; have z3 := itoa_sz h3
    refine ⟨inb_iff.2 ⟨h1.1, by omega⟩, ?_, inb_iff.2 ⟨by omega, by show x.op < ((5 : Nat) : Int); omega⟩, ?_, ?_, call1 (t := .str) (cordonref_Digits_ok (by omega)) ⟨?_, rfl⟩⟩
    all_goals (simp only [ByteArray.size_append, szA, List.size_toArray, List.length_cons, List.length_nil]; omega)
end Go.Proofs.YtogdmcebojiojaaGreatDoor

/- The document's printer whole: printed by gen_pprint4.py. -/
namespace Go.Proofs.YtogdmcebojiojaaGreatDoor
open Go.RowKit
set_option linter.unusedVariables false
set_option linter.unusedSimpArgs false

/-- Text, then names, each after a blank. -/
def spN (vs : List VarD) (s : ByteArray) (l : List Int) : ByteArray := l.foldl (fun s i => s ++ ((⟨#[32]⟩ : ByteArray) ++ nmS vs i)) s
theorem spN_take {vs : List VarD} {s : ByteArray} {l : List Int} {k : Nat} (h : k < l.length) : spN vs s (l.take (k + 1)) = spN vs s (l.take k) ++ ((⟨#[32]⟩ : ByteArray) ++ nmS vs l[k]) := by
  rw [← List.take_append_getElem h]; unfold spN; rw [List.foldl_append]; rfl
theorem spN_size {vs : List VarD} (hnm : ∀ v ∈ vs, v.name.size ≤ 12) : ∀ (l : List Int) (s : ByteArray), (spN vs s l).size ≤ s.size + l.length * 13
  | [], s => by simp [spN]
  | i :: r, s => by
    have ih := spN_size hnm r (s ++ ((⟨#[32]⟩ : ByteArray) ++ nmS vs i))
    have z := nmS_size hnm i
    have e : spN vs s (i :: r) = spN vs (s ++ ((⟨#[32]⟩ : ByteArray) ++ nmS vs i)) r := rfl
    rw [e]
    simp only [ByteArray.size_append, szA, List.size_toArray, List.length_cons, List.length_nil] at ih ⊢
    omega
theorem wd_at {o : Int} (h : 1 ≤ o ∧ o ≤ 10) : at' .str ([(⟨#[]⟩ : ByteArray), (⟨#[108, 101]⟩ : ByteArray), (⟨#[101, 113]⟩ : ByteArray), (⟨#[110, 101]⟩ : ByteArray), (⟨#[100, 105, 102, 102, 101, 114]⟩ : ByteArray), (⟨#[101, 108, 101, 109, 101, 110, 116]⟩ : ByteArray), (⟨#[116, 97, 98, 108, 101]⟩ : ByteArray), (⟨#[116, 105, 109, 101, 115]⟩ : ByteArray), (⟨#[109, 97, 120]⟩ : ByteArray), (⟨#[99, 108, 97, 117, 115, 101]⟩ : ByteArray), (⟨#[105, 102, 102]⟩ : ByteArray)]) o.toNat = wdS o := by
  have h : o = 1 ∨ o = 2 ∨ o = 3 ∨ o = 4 ∨ o = 5 ∨ o = 6 ∨ o = 7 ∨ o = 8 ∨ o = 9 ∨ o = 10 := by omega
  rcases h with rfl | rfl | rfl | rfl | rfl | rfl | rfl | rfl | rfl | rfl <;> rfl
theorem pex {a0 : MdlD} {R : D → Prop} {n2 n k : Nat} {c : ConD} {s : ByteArray} {v : Int} (hc : at' .con a0.cons (k : Int).toNat = c) (h8 : c.kind ≠ 8) (h10 : c.kind ≠ 10) (h5 : c.kind = 5 ∨ c.kind = 7 → ¬ v < (c.vars.length : Int)) (hz : s.size ≤ 1000000)
    (hn : cordonref_PrintOf_I2 a0 R n2 (s ++ (⟨#[59, 10]⟩ : ByteArray)) (w64 ((k : Int) + 1))) : cordonref_PrintOf_I9 a0 R n2 (k : Int) (n + 1) s v := by
  rw [cordonref_PrintOf_I9_eq, hc]
  by_cases hv : v < (c.vars.length : Int)
  · exact dt hv (df (fun h => h5 (.inl h) hv) (df (fun h => h5 (.inr h) hv) (df h10 (df h8 (df h10 ⟨(by simp only [ByteArray.size_append, szA, List.size_toArray, List.length_cons, List.length_nil]; omega), hn⟩)))))
  · exact df hv (df h8 (df h10 ⟨(by simp only [ByteArray.size_append, szA, List.size_toArray, List.length_cons, List.length_nil]; omega), hn⟩))
theorem pex_2 {a0 : MdlD} {R : D → Prop} {n2 n k : Nat} {c : ConD} {s : ByteArray} {v : Int} (hc : at' .con a0.cons (k : Int).toNat = c) (h8 : c.kind ≠ 8) (h10 : c.kind ≠ 10) (h5 : c.kind = 5 ∨ c.kind = 7 → ¬ v < (c.vars.length : Int)) (hz : s.size ≤ 1000000)
    (hn : cordonref_PrintOf_I2 a0 R n2 (s ++ (⟨#[59, 10]⟩ : ByteArray)) (w64 ((k : Int) + 1))) : cordonref_PrintOf_I9_2 a0 R n2 (k : Int) (n + 1) s v := by
  rw [cordonref_PrintOf_I9_2_eq, hc]
  by_cases hv : v < (c.vars.length : Int)
  · exact dt hv (df (fun h => h5 (.inl h) hv) (df (fun h => h5 (.inr h) hv) (df h10 (df h8 (df h10 ⟨(by simp only [ByteArray.size_append, szA, List.size_toArray, List.length_cons, List.length_nil]; omega), hn⟩)))))
  · exact df hv (df h8 (df h10 ⟨(by simp only [ByteArray.size_append, szA, List.size_toArray, List.length_cons, List.length_nil]; omega), hn⟩))
theorem pex_3 {a0 : MdlD} {R : D → Prop} {n2 n k : Nat} {c : ConD} {s : ByteArray} {v : Int} (hc : at' .con a0.cons (k : Int).toNat = c) (h8 : c.kind ≠ 8) (h10 : c.kind ≠ 10) (h5 : c.kind = 5 ∨ c.kind = 7 → ¬ v < (c.vars.length : Int)) (hz : s.size ≤ 1000000)
    (hn : cordonref_PrintOf_I2 a0 R n2 (s ++ (⟨#[59, 10]⟩ : ByteArray)) (w64 ((k : Int) + 1))) : cordonref_PrintOf_I9_3 a0 R n2 (k : Int) (n + 1) s v := by
  rw [cordonref_PrintOf_I9_3_eq, hc]
  by_cases hv : v < (c.vars.length : Int)
  · exact dt hv (df (fun h => h5 (.inl h) hv) (df (fun h => h5 (.inr h) hv) (df h10 (df h8 (df h10 ⟨(by simp only [ByteArray.size_append, szA, List.size_toArray, List.length_cons, List.length_nil]; omega), hn⟩)))))
  · exact df hv (df h8 (df h10 ⟨(by simp only [ByteArray.size_append, szA, List.size_toArray, List.length_cons, List.length_nil]; omega), hn⟩))
theorem pex_4 {a0 : MdlD} {R : D → Prop} {n2 n k : Nat} {c : ConD} {s : ByteArray} {v : Int} (hc : at' .con a0.cons (k : Int).toNat = c) (h8 : c.kind ≠ 8) (h10 : c.kind ≠ 10) (h5 : c.kind = 5 ∨ c.kind = 7 → ¬ v < (c.vars.length : Int)) (hz : s.size ≤ 1000000)
    (hn : cordonref_PrintOf_I2 a0 R n2 (s ++ (⟨#[59, 10]⟩ : ByteArray)) (w64 ((k : Int) + 1))) : cordonref_PrintOf_I9_4 a0 R n2 (k : Int) (n + 1) s v := by
  rw [cordonref_PrintOf_I9_4_eq, hc]
  by_cases hv : v < (c.vars.length : Int)
  · exact dt hv (df (fun h => h5 (.inl h) hv) (df (fun h => h5 (.inr h) hv) (df h10 (df h8 (df h10 ⟨(by simp only [ByteArray.size_append, szA, List.size_toArray, List.length_cons, List.length_nil]; omega), hn⟩)))))
  · exact df hv (df h8 (df h10 ⟨(by simp only [ByteArray.size_append, szA, List.size_toArray, List.length_cons, List.length_nil]; omega), hn⟩))
theorem pex_5 {a0 : MdlD} {R : D → Prop} {n2 n k : Nat} {c : ConD} {s : ByteArray} {v : Int} (hc : at' .con a0.cons (k : Int).toNat = c) (h8 : c.kind ≠ 8) (h10 : c.kind ≠ 10) (h5 : c.kind = 5 ∨ c.kind = 7 → ¬ v < (c.vars.length : Int)) (hz : s.size ≤ 1000000)
    (hn : cordonref_PrintOf_I2 a0 R n2 (s ++ (⟨#[59, 10]⟩ : ByteArray)) (w64 ((k : Int) + 1))) : cordonref_PrintOf_I9_5 a0 R n2 (k : Int) (n + 1) s v := by
  rw [cordonref_PrintOf_I9_5_eq, hc]
  by_cases hv : v < (c.vars.length : Int)
  · exact dt hv (df (fun h => h5 (.inl h) hv) (df (fun h => h5 (.inr h) hv) (df h10 (df h8 (df h10 ⟨(by simp only [ByteArray.size_append, szA, List.size_toArray, List.length_cons, List.length_nil]; omega), hn⟩)))))
  · exact df hv (df h8 (df h10 ⟨(by simp only [ByteArray.size_append, szA, List.size_toArray, List.length_cons, List.length_nil]; omega), hn⟩))
theorem pex_6 {a0 : MdlD} {R : D → Prop} {n2 n k : Nat} {c : ConD} {s : ByteArray} {v : Int} (hc : at' .con a0.cons (k : Int).toNat = c) (h8 : c.kind ≠ 8) (h10 : c.kind ≠ 10) (h5 : c.kind = 5 ∨ c.kind = 7 → ¬ v < (c.vars.length : Int)) (hz : s.size ≤ 1000000)
    (hn : cordonref_PrintOf_I2 a0 R n2 (s ++ (⟨#[59, 10]⟩ : ByteArray)) (w64 ((k : Int) + 1))) : cordonref_PrintOf_I9_6 a0 R n2 (k : Int) (n + 1) s v := by
  rw [cordonref_PrintOf_I9_6_eq, hc]
  by_cases hv : v < (c.vars.length : Int)
  · exact dt hv (df (fun h => h5 (.inl h) hv) (df (fun h => h5 (.inr h) hv) (df h10 (df h8 (df h10 ⟨(by simp only [ByteArray.size_append, szA, List.size_toArray, List.length_cons, List.length_nil]; omega), hn⟩)))))
  · exact df hv (df h8 (df h10 ⟨(by simp only [ByteArray.size_append, szA, List.size_toArray, List.length_cons, List.length_nil]; omega), hn⟩))
theorem pex_7 {a0 : MdlD} {R : D → Prop} {n2 n k : Nat} {c : ConD} {s : ByteArray} {v : Int} (hc : at' .con a0.cons (k : Int).toNat = c) (h8 : c.kind ≠ 8) (h10 : c.kind ≠ 10) (h5 : c.kind = 5 ∨ c.kind = 7 → ¬ v < (c.vars.length : Int)) (hz : s.size ≤ 1000000)
    (hn : cordonref_PrintOf_I2 a0 R n2 (s ++ (⟨#[59, 10]⟩ : ByteArray)) (w64 ((k : Int) + 1))) : cordonref_PrintOf_I9_7 a0 R n2 (k : Int) (n + 1) s v := by
  rw [cordonref_PrintOf_I9_7_eq, hc]
  by_cases hv : v < (c.vars.length : Int)
  · exact dt hv (df (fun h => h5 (.inl h) hv) (df (fun h => h5 (.inr h) hv) (df h10 (df h8 (df h10 ⟨(by simp only [ByteArray.size_append, szA, List.size_toArray, List.length_cons, List.length_nil]; omega), hn⟩)))))
  · exact df hv (df h8 (df h10 ⟨(by simp only [ByteArray.size_append, szA, List.size_toArray, List.length_cons, List.length_nil]; omega), hn⟩))
theorem pex_8 {a0 : MdlD} {R : D → Prop} {n2 n k : Nat} {c : ConD} {s : ByteArray} {v : Int} (hc : at' .con a0.cons (k : Int).toNat = c) (h8 : c.kind ≠ 8) (h10 : c.kind ≠ 10) (h5 : c.kind = 5 ∨ c.kind = 7 → ¬ v < (c.vars.length : Int)) (hz : s.size ≤ 1000000)
    (hn : cordonref_PrintOf_I2 a0 R n2 (s ++ (⟨#[59, 10]⟩ : ByteArray)) (w64 ((k : Int) + 1))) : cordonref_PrintOf_I9_8 a0 R n2 (k : Int) (n + 1) s v := by
  rw [cordonref_PrintOf_I9_8_eq, hc]
  by_cases hv : v < (c.vars.length : Int)
  · exact dt hv (df (fun h => h5 (.inl h) hv) (df (fun h => h5 (.inr h) hv) (df h10 (df h8 (df h10 ⟨(by simp only [ByteArray.size_append, szA, List.size_toArray, List.length_cons, List.length_nil]; omega), hn⟩)))))
  · exact df hv (df h8 (df h10 ⟨(by simp only [ByteArray.size_append, szA, List.size_toArray, List.length_cons, List.length_nil]; omega), hn⟩))
theorem plp_5 {a0 : MdlD} {R : D → Prop} {n2 k : Nat} {c : ConD} {s : ByteArray} (hnm : ∀ v ∈ a0.vars, v.name.size ≤ 12) (hc : at' .con a0.cons (k : Int).toNat = c) (hk : c.kind = 5 ∨ c.kind = 7 ∨ c.kind = 10) (hl : c.vars.length ≤ 4) (hv : ∀ x ∈ c.vars, 0 ≤ x ∧ x < (a0.vars.length : Int)) (hz : s.size ≤ 1000000)
    (hx : ∀ n, cordonref_PrintOf_I9_5 a0 R n2 (k : Int) (n + 1) (spN a0.vars s c.vars) (c.vars.length : Int)) : ∃ n, cordonref_PrintOf_I9_5 a0 R n2 (k : Int) n s 0 := by
  refine up (I := fun n v (t : ByteArray) => cordonref_PrintOf_I9_5 a0 R n2 (k : Int) n t v) (a := s) 0 c.vars.length rfl (Nat.zero_le _) (by omega) (fun j t => t = spN a0.vars s (c.vars.take j)) rfl fun n j t _ hj ht hn => ?_
  subst ht
  by_cases hlt : j < c.vars.length
  · have z1 := spN_size hnm (c.vars.take j) s
    have z2 : ((at' .var a0.vars c.vars[j].toNat).name).size ≤ 12 := nmS_size hnm c.vars[j]
    have hxj := hv _ (List.getElem_mem hlt)
    have hlen : (c.vars.take j).length ≤ 4 := by rw [List.length_take]; omega
    have hb : inb (c.vars[j] : Int) a0.vars.length = true := inb_iff.2 ⟨hxj.1, by omega⟩
    have hnx := hn hlt _ (spN_take hlt).symm
    rw [cordonref_PrintOf_I9_5_eq, hc, sel_lt hlt, at_nat (t := .int) hlt]
    have hs : (⟨#[32]⟩ : ByteArray).size + ((at' .var a0.vars c.vars[j].toNat).name).size ≤ 140737488355328 := (by simp only [ByteArray.size_append, szA, List.size_toArray, List.length_cons, List.length_nil]; omega)
    have hs2 : (spN a0.vars s (c.vars.take j)).size + ((⟨#[32]⟩ : ByteArray) ++ ((at' .var a0.vars c.vars[j].toNat).name)).size ≤ 140737488355328 := (by simp only [ByteArray.size_append, szA, List.size_toArray, List.length_cons, List.length_nil]; omega)
    rcases hk with h | h | h
    · exact dt h ⟨inb_nat hlt, hb, hs, hs2, hnx⟩
    · exact df (by omega) (dt h ⟨inb_nat hlt, hb, hs, hs2, hnx⟩)
    · exact df (by omega) (df (by omega) (dt h ⟨inb_nat hlt, hb, hs, hs2, hnx⟩))
  · have e : j = c.vars.length := by omega
    subst e
    rw [List.take_length]; exact hx n
theorem plp_8 {a0 : MdlD} {R : D → Prop} {n2 k : Nat} {c : ConD} {s : ByteArray} (hnm : ∀ v ∈ a0.vars, v.name.size ≤ 12) (hc : at' .con a0.cons (k : Int).toNat = c) (hk : c.kind = 5 ∨ c.kind = 7 ∨ c.kind = 10) (hl : c.vars.length ≤ 4) (hv : ∀ x ∈ c.vars, 0 ≤ x ∧ x < (a0.vars.length : Int)) (hz : s.size ≤ 1000000)
    (hx : ∀ n, cordonref_PrintOf_I9_8 a0 R n2 (k : Int) (n + 1) (spN a0.vars s c.vars) (c.vars.length : Int)) : ∃ n, cordonref_PrintOf_I9_8 a0 R n2 (k : Int) n s 0 := by
  refine up (I := fun n v (t : ByteArray) => cordonref_PrintOf_I9_8 a0 R n2 (k : Int) n t v) (a := s) 0 c.vars.length rfl (Nat.zero_le _) (by omega) (fun j t => t = spN a0.vars s (c.vars.take j)) rfl fun n j t _ hj ht hn => ?_
  subst ht
  by_cases hlt : j < c.vars.length
  · have z1 := spN_size hnm (c.vars.take j) s
    have z2 : ((at' .var a0.vars c.vars[j].toNat).name).size ≤ 12 := nmS_size hnm c.vars[j]
    have hxj := hv _ (List.getElem_mem hlt)
    have hlen : (c.vars.take j).length ≤ 4 := by rw [List.length_take]; omega
    have hb : inb (c.vars[j] : Int) a0.vars.length = true := inb_iff.2 ⟨hxj.1, by omega⟩
    have hnx := hn hlt _ (spN_take hlt).symm
    rw [cordonref_PrintOf_I9_8_eq, hc, sel_lt hlt, at_nat (t := .int) hlt]
    have hs : (⟨#[32]⟩ : ByteArray).size + ((at' .var a0.vars c.vars[j].toNat).name).size ≤ 140737488355328 := (by simp only [ByteArray.size_append, szA, List.size_toArray, List.length_cons, List.length_nil]; omega)
    have hs2 : (spN a0.vars s (c.vars.take j)).size + ((⟨#[32]⟩ : ByteArray) ++ ((at' .var a0.vars c.vars[j].toNat).name)).size ≤ 140737488355328 := (by simp only [ByteArray.size_append, szA, List.size_toArray, List.length_cons, List.length_nil]; omega)
    rcases hk with h | h | h
    · exact dt h ⟨inb_nat hlt, hb, hs, hs2, hnx⟩
    · exact df (by omega) (dt h ⟨inb_nat hlt, hb, hs, hs2, hnx⟩)
    · exact df (by omega) (df (by omega) (dt h ⟨inb_nat hlt, hb, hs, hs2, hnx⟩))
  · have e : j = c.vars.length := by omega
    subst e
    rw [List.take_length]; exact hx n
theorem pex10 {a0 : MdlD} {R : D → Prop} {n2 n k : Nat} {c : ConD} {s : ByteArray} (hnm : ∀ v ∈ a0.vars, v.name.size ≤ 12) (hc : at' .con a0.cons (k : Int).toNat = c) (h10 : c.kind = 10) (hl : c.lits.length = 1) (hv : ∀ x ∈ c.lits, litE a0.vars.length x = 0) (hz : s.size ≤ 1000000)
    (hn : cordonref_PrintOf_I2 a0 R n2 ((s ++ ((⟨#[32]⟩ : ByteArray) ++ litS a0.vars (at' .lit c.lits 0))) ++ (⟨#[59, 10]⟩ : ByteArray)) (w64 ((k : Int) + 1))) : cordonref_PrintOf_I9_8 a0 R n2 (k : Int) (n + 1) s (c.vars.length : Int) := by
  have hm := hv _ (getL_mem (i := 0) (by omega))
  have z := litS_size hnm (litE_n hm).2.2
  rw [cordonref_PrintOf_I9_8_eq, hc, sel_end]
  exact df (by omega) (dt h10 ⟨inb_nat (k := 0) (by omega), call1 (t := .str) (cordonref_litText_ok hnm hm) ⟨(by simp only [ByteArray.size_append, szA, List.size_toArray, List.length_cons, List.length_nil]; omega), (by simp only [ByteArray.size_append, szA, List.size_toArray, List.length_cons, List.length_nil]; omega), (by simp only [ByteArray.size_append, szA, List.size_toArray, List.length_cons, List.length_nil]; omega), hn⟩⟩)
theorem pex8 {a0 : MdlD} {R : D → Prop} {n2 n k : Nat} {c : ConD} {s : ByteArray} (hnm : ∀ v ∈ a0.vars, v.name.size ≤ 12) (hc : at' .con a0.cons (k : Int).toNat = c) (h8 : c.kind = 8) (hl : 2 ≤ c.vars.length ∧ c.vars.length ≤ 4) (hv : ∀ x ∈ c.vars, 0 ≤ x ∧ x < (a0.vars.length : Int)) (hz : s.size ≤ 1000000)
    (hn : cordonref_PrintOf_I2 a0 R n2 ((s ++ ((((⟨#[32]⟩ : ByteArray) ++ nmS a0.vars (at' .int c.vars 0)) ++ (⟨#[32]⟩ : ByteArray)) ++ namesS a0.vars (c.vars.drop 1))) ++ (⟨#[59, 10]⟩ : ByteArray)) (w64 ((k : Int) + 1))) : cordonref_PrintOf_I9_8 a0 R n2 (k : Int) (n + 1) s 0 := by
  have hm := hv _ (getI_mem (i := 0) (by omega))
  have z : ((at' .var a0.vars (at' .int c.vars 0).toNat).name).size ≤ 12 := nmS_size hnm (at' .int c.vars 0)
  have z2 := namesS_size hnm (c.vars.drop 1)
  have hd : (c.vars.drop 1).length = c.vars.length - 1 := List.length_drop
  rw [cordonref_PrintOf_I9_8_eq, hc, show (c.vars.take (c.vars.length : Int).toNat) = c.vars from by rw [Int.toNat_natCast, List.take_length]]
  exact dt (by omega) (df (by omega) (df (by omega) (df (by omega) (dt h8 ⟨inb_nat (k := 0) (by omega), inb_iff.2 ⟨hm.1, by omega⟩, (by simp only [ByteArray.size_append, szA, List.size_toArray, List.length_cons, List.length_nil]; omega), (by simp only [ByteArray.size_append, szA, List.size_toArray, List.length_cons, List.length_nil]; omega), by unfold inSl; simp; omega, call1 (t := .str) (cordonref_namesText_ok hnm (fun x hx => hv x (List.mem_of_mem_drop hx)) (by omega)) ⟨(by simp only [ByteArray.size_append, szA, List.size_toArray, List.length_cons, List.length_nil]; omega), (by simp only [ByteArray.size_append, szA, List.size_toArray, List.length_cons, List.length_nil]; omega), df (by omega) ⟨(by simp only [ByteArray.size_append, szA, List.size_toArray, List.length_cons, List.length_nil]; omega), hn⟩⟩⟩))))
theorem prows {a0 : MdlD} {R : D → Prop} {n2 k : Nat} {c : ConD} {s : ByteArray} (hnm : ∀ v ∈ a0.vars, v.name.size ≤ 12) (hc : at' .con a0.cons (k : Int).toNat = c) (hr : RightC c a0.vars.length) (hk : c.kind = 6) (hz : s.size ≤ 100000)
    (hn : cordonref_PrintOf_I2 a0 R n2 (((s ++ ((⟨#[99, 111, 110, 32]⟩ : ByteArray) ++ wdS c.kind)) ++ ((((⟨#[32]⟩ : ByteArray) ++ namesS a0.vars c.vars) ++ (⟨#[32]⟩ : ByteArray)) ++ brS (c.rows.map numsS))) ++ (⟨#[59, 10]⟩ : ByteArray)) (w64 ((k : Int) + 1))) : ∃ n, cordonref_PrintOf_I5 a0 R n2 s (k : Int) n 0 ([] : List ByteArray) := by
  have hm := hr.many
  have z1 := namesS_size hnm c.vars
  have z2 := rows_size hr hk
  have z3 := wdS_size c.kind
  have hlr := (form_len hr).2.2.2.2 hk
  refine up (I := fun n v (t : List ByteArray) => cordonref_PrintOf_I5 a0 R n2 s (k : Int) n v t) (a := []) 0 c.rows.length rfl (Nat.zero_le _) (by omega) (fun j t => t = (c.rows.take j).map numsS) rfl fun n j t _ hj ht hx => ?_
  subst ht
  rw [cordonref_PrintOf_I5_eq, hc, wd_at hr.kind]
  by_cases hlt : j < c.rows.length
  · rw [sel_lt hlt, at_nat (t := .list .int) hlt]
    have hmem := List.getElem_mem hlt
    exact ⟨inb_nat hlt, call1 (t := .str) (cordonref_numbersText_ok (hr.rows _ hmem) (by have := hlr _ hmem; omega)) ⟨room_of (t := .str) (by rw [List.length_map, List.length_take]; show (_ + 1) * 16 ≤ _; omega), hx hlt _ (map_take numsS hlt).symm⟩⟩
  · have e : j = c.rows.length := by omega
    subst e
    rw [sel_end, List.take_length]
    exact call1 (t := .str) (cordonref_namesText_ok hnm hr.vars (by omega)) ⟨(by simp only [ByteArray.size_append, szA, List.size_toArray, List.length_cons, List.length_nil]; omega), (by simp only [ByteArray.size_append, szA, List.size_toArray, List.length_cons, List.length_nil]; omega), call1 (t := .str) (cordonref_Brackets_ok (fun x hx => by obtain ⟨y, hy, rfl⟩ := List.mem_map.1 hx; have := numsS_size (hr.rows y hy); have := hlr y hy; omega) (by rw [List.length_map]; omega)) ⟨(by simp only [ByteArray.size_append, szA, List.size_toArray, List.length_cons, List.length_nil]; omega), (by simp only [ByteArray.size_append, szA, List.size_toArray, List.length_cons, List.length_nil]; omega), 1, pex_6 hc (by omega) (by omega) (by omega) (by simp only [ByteArray.size_append, szA, List.size_toArray, List.length_cons, List.length_nil]; omega) hn⟩⟩
theorem plits {a0 : MdlD} {R : D → Prop} {n2 k : Nat} {c : ConD} {s : ByteArray} (hnm : ∀ v ∈ a0.vars, v.name.size ≤ 12) (hc : at' .con a0.cons (k : Int).toNat = c) (hr : RightC c a0.vars.length) (hk : c.kind = 9) (hz : s.size ≤ 100000)
    (hn : cordonref_PrintOf_I2 a0 R n2 (((s ++ ((⟨#[99, 111, 110, 32]⟩ : ByteArray) ++ wdS c.kind)) ++ ((⟨#[32]⟩ : ByteArray) ++ brS (c.lits.map (litS a0.vars)))) ++ (⟨#[59, 10]⟩ : ByteArray)) (w64 ((k : Int) + 1))) : ∃ n, cordonref_PrintOf_I7 a0 R n2 s (k : Int) n 0 ([] : List ByteArray) := by
  have hm := hr.many
  have z2 := lits_size hnm hr
  have z3 := wdS_size c.kind
  refine up (I := fun n v (t : List ByteArray) => cordonref_PrintOf_I7 a0 R n2 s (k : Int) n v t) (a := []) 0 c.lits.length rfl (Nat.zero_le _) (by omega) (fun j t => t = (c.lits.take j).map (litS a0.vars)) rfl fun n j t _ hj ht hx => ?_
  subst ht
  rw [cordonref_PrintOf_I7_eq, hc, wd_at hr.kind]
  by_cases hlt : j < c.lits.length
  · rw [sel_lt hlt, at_nat (t := .lit) hlt]
    have hmem := List.getElem_mem hlt
    exact ⟨inb_nat hlt, call1 (t := .str) (cordonref_litText_ok hnm (hr.lits _ hmem)) ⟨room_of (t := .str) (by rw [List.length_map, List.length_take]; show (_ + 1) * 16 ≤ _; omega), hx hlt _ (map_take (litS a0.vars) hlt).symm⟩⟩
  · have e : j = c.lits.length := by omega
    subst e
    rw [sel_end, List.take_length]
    exact call1 (t := .str) (cordonref_Brackets_ok (fun x hx => by obtain ⟨y, hy, rfl⟩ := List.mem_map.1 hx; have := litS_size hnm (litE_n (hr.lits y hy)).2.2; omega) (by rw [List.length_map]; omega)) ⟨(by simp only [ByteArray.size_append, szA, List.size_toArray, List.length_cons, List.length_nil]; omega), (by simp only [ByteArray.size_append, szA, List.size_toArray, List.length_cons, List.length_nil]; omega), 1, pex_7 hc (by omega) (by omega) (by omega) (by simp only [ByteArray.size_append, szA, List.size_toArray, List.length_cons, List.length_nil]; omega) hn⟩
theorem pstep {a0 : MdlD} {R : D → Prop} {n2 k : Nat} {s : ByteArray} {c : ConD} (hnm : ∀ v ∈ a0.vars, v.name.size ≤ 12) (hlt : k < a0.cons.length) (hc : at' .con a0.cons (k : Int).toNat = c) (h : RightC c a0.vars.length) (hz : s.size ≤ 100000)
    (hn : cordonref_PrintOf_I2 a0 R n2 (s ++ conT a0.vars c) (w64 ((k : Int) + 1))) : cordonref_PrintOf_I2 a0 R (n2 + 1) s (k : Int) := by
  have fin : ∀ t : ByteArray, t ++ (⟨#[59, 10]⟩ : ByteArray) = s ++ (((⟨#[99, 111, 110, 32]⟩ : ByteArray) ++ conS a0.vars c) ++ (⟨#[59, 10]⟩ : ByteArray)) → cordonref_PrintOf_I2 a0 R n2 (t ++ (⟨#[59, 10]⟩ : ByteArray)) (w64 ((k : Int) + 1)) := fun t e => by rw [e]; exact hn
  have hkk := h.kind
  have z0 := wdS_size c.kind
  have z1 := numsS_size h.consts
  have z2 := namesS_size hnm c.vars
  have hn' := h.n
  have z3 := itoa_sz h.n
  have hm := h.many
  have hf := form_len h
  rw [cordonref_PrintOf_I2_eq, sel_lt hlt, hc, wd_at h.kind]
  refine ⟨inb_nat hlt, inb_iff.2 ⟨by omega, by show c.kind < ((11 : Nat) : Int); omega⟩, (by simp only [ByteArray.size_append, szA, List.size_toArray, List.length_cons, List.length_nil]; omega), (by simp only [ByteArray.size_append, szA, List.size_toArray, List.length_cons, List.length_nil]; omega), ?_⟩
  rcases kind_cases h with hk | hk | hk | hk | hk | hk | hk | hk | hk | hk
  · exact dt hk (call1 (t := .str) (cordonref_numbersText_ok h.consts (by omega)) ⟨(by simp only [ByteArray.size_append, szA, List.size_toArray, List.length_cons, List.length_nil]; omega), (by simp only [ByteArray.size_append, szA, List.size_toArray, List.length_cons, List.length_nil]; omega), call1 (t := .str) (cordonref_namesText_ok hnm h.vars (by omega)) ⟨(by simp only [ByteArray.size_append, szA, List.size_toArray, List.length_cons, List.length_nil]; omega), (by simp only [ByteArray.size_append, szA, List.size_toArray, List.length_cons, List.length_nil]; omega), call1 (t := .str) (cordonref_Digits_ok (by omega)) ⟨(by simp only [ByteArray.size_append, szA, List.size_toArray, List.length_cons, List.length_nil]; omega), (by simp only [ByteArray.size_append, szA, List.size_toArray, List.length_cons, List.length_nil]; omega), 1, pex hc (by omega) (by omega) (by omega) (by simp only [ByteArray.size_append, szA, List.size_toArray, List.length_cons, List.length_nil]; omega) (fin _ (by rw [conS_1 hk]; simp only [ByteArray.append_assoc]))⟩⟩⟩)
  · exact df (by omega) (dt hk (call1 (t := .str) (cordonref_numbersText_ok h.consts (by omega)) ⟨(by simp only [ByteArray.size_append, szA, List.size_toArray, List.length_cons, List.length_nil]; omega), (by simp only [ByteArray.size_append, szA, List.size_toArray, List.length_cons, List.length_nil]; omega), call1 (t := .str) (cordonref_namesText_ok hnm h.vars (by omega)) ⟨(by simp only [ByteArray.size_append, szA, List.size_toArray, List.length_cons, List.length_nil]; omega), (by simp only [ByteArray.size_append, szA, List.size_toArray, List.length_cons, List.length_nil]; omega), call1 (t := .str) (cordonref_Digits_ok (by omega)) ⟨(by simp only [ByteArray.size_append, szA, List.size_toArray, List.length_cons, List.length_nil]; omega), (by simp only [ByteArray.size_append, szA, List.size_toArray, List.length_cons, List.length_nil]; omega), 1, pex_2 hc (by omega) (by omega) (by omega) (by simp only [ByteArray.size_append, szA, List.size_toArray, List.length_cons, List.length_nil]; omega) (fin _ (by rw [conS_2 hk]; simp only [ByteArray.append_assoc]))⟩⟩⟩))
  · exact df (by omega) (df (by omega) (dt hk (call1 (t := .str) (cordonref_numbersText_ok h.consts (by omega)) ⟨(by simp only [ByteArray.size_append, szA, List.size_toArray, List.length_cons, List.length_nil]; omega), (by simp only [ByteArray.size_append, szA, List.size_toArray, List.length_cons, List.length_nil]; omega), call1 (t := .str) (cordonref_namesText_ok hnm h.vars (by omega)) ⟨(by simp only [ByteArray.size_append, szA, List.size_toArray, List.length_cons, List.length_nil]; omega), (by simp only [ByteArray.size_append, szA, List.size_toArray, List.length_cons, List.length_nil]; omega), call1 (t := .str) (cordonref_Digits_ok (by omega)) ⟨(by simp only [ByteArray.size_append, szA, List.size_toArray, List.length_cons, List.length_nil]; omega), (by simp only [ByteArray.size_append, szA, List.size_toArray, List.length_cons, List.length_nil]; omega), 1, pex_3 hc (by omega) (by omega) (by omega) (by simp only [ByteArray.size_append, szA, List.size_toArray, List.length_cons, List.length_nil]; omega) (fin _ (by rw [conS_3 hk]; simp only [ByteArray.append_assoc]))⟩⟩⟩)))
  · exact df (by omega) (df (by omega) (df (by omega) (dt hk (call1 (t := .str) (cordonref_namesText_ok hnm h.vars (by omega)) ⟨(by simp only [ByteArray.size_append, szA, List.size_toArray, List.length_cons, List.length_nil]; omega), (by simp only [ByteArray.size_append, szA, List.size_toArray, List.length_cons, List.length_nil]; omega), 1, pex_4 hc (by omega) (by omega) (by omega) (by simp only [ByteArray.size_append, szA, List.size_toArray, List.length_cons, List.length_nil]; omega) (fin _ (by rw [conS_4 hk]; simp only [ByteArray.append_assoc]))⟩))))
  · have hlen := hf.1 hk
    refine df (by omega) (df (by omega) (df (by omega) (df (by omega) (dt hk (call1 (t := .str) (cordonref_numbersText_ok h.consts (by omega)) ⟨(by simp only [ByteArray.size_append, szA, List.size_toArray, List.length_cons, List.length_nil]; omega), (by simp only [ByteArray.size_append, szA, List.size_toArray, List.length_cons, List.length_nil]; omega), ?_⟩)))))
    refine plp_5 hnm hc (.inl hk) (by omega) h.vars (by simp only [ByteArray.size_append, szA, List.size_toArray, List.length_cons, List.length_nil]; omega) fun n => pex_5 hc (by omega) (by omega) (by omega) ?_ (fin _ ?_)
    · have := spN_size hnm c.vars ((s ++ ((⟨#[99, 111, 110, 32]⟩ : ByteArray) ++ wdS c.kind)) ++ ((⟨#[32]⟩ : ByteArray) ++ numsS c.consts))
      simp only [ByteArray.size_append, szA, List.size_toArray, List.length_cons, List.length_nil] at this; omega
    · rw [conS_5 hk]
      obtain ⟨a, b, e⟩ : ∃ a b, c.vars = [a, b] := by
        match c.vars, hlen with
        | [a, b], _ => exact ⟨a, b, rfl⟩
      rw [e]
      show (((_ ++ (_ ++ nmS a0.vars a)) ++ (_ ++ nmS a0.vars b)) ++ _) = s ++ ((_ ++ (((((_ ++ _) ++ _) ++ _) ++ nmS a0.vars a) ++ _ ++ nmS a0.vars b)) ++ _)
      simp only [ByteArray.append_assoc]
  · exact df (by omega) (df (by omega) (df (by omega) (df (by omega) (df (by omega) (dt hk (prows hnm hc h hk hz (fin _ (by rw [conS_6 hk]; simp only [ByteArray.append_assoc]))))))))
  · have hlen := hf.2.1 hk
    refine df (by omega) (df (by omega) (df (by omega) (df (by omega) (df (by omega) (df (by omega) (df (by omega) ?_))))))
    refine plp_8 hnm hc (.inr (.inl hk)) (by omega) h.vars (by simp only [ByteArray.size_append, szA, List.size_toArray, List.length_cons, List.length_nil]; omega) fun n => pex_8 hc (by omega) (by omega) (by omega) ?_ (fin _ ?_)
    · have := spN_size hnm c.vars (s ++ ((⟨#[99, 111, 110, 32]⟩ : ByteArray) ++ wdS c.kind))
      simp only [ByteArray.size_append, szA, List.size_toArray, List.length_cons, List.length_nil] at this; omega
    · rw [conS_7 hk]
      obtain ⟨a, b, d, e⟩ : ∃ a b d, c.vars = [a, b, d] := by
        match c.vars, hlen with
        | [a, b, d], _ => exact ⟨a, b, d, rfl⟩
      rw [e]
      show ((((_ ++ (_ ++ nmS a0.vars a)) ++ (_ ++ nmS a0.vars b)) ++ (_ ++ nmS a0.vars d)) ++ _) = s ++ ((_ ++ ((((((_ ++ _) ++ nmS a0.vars a) ++ _) ++ nmS a0.vars b) ++ _) ++ nmS a0.vars d)) ++ _)
      simp only [ByteArray.append_assoc]
  · have hlen := hf.2.2.1 hk
    exact df (by omega) (df (by omega) (df (by omega) (df (by omega) (df (by omega) (df (by omega) (df (by omega) ⟨1, pex8 hnm hc hk ⟨hlen, by omega⟩ h.vars (by simp only [ByteArray.size_append, szA, List.size_toArray, List.length_cons, List.length_nil]; omega) (fin _ (by rw [conS_8 hk]; simp only [ByteArray.append_assoc]))⟩))))))
  · exact df (by omega) (df (by omega) (df (by omega) (df (by omega) (df (by omega) (df (by omega) (dt hk (plits hnm hc h hk hz (fin _ (by rw [conS_9 hk]; simp only [ByteArray.append_assoc])))))))))
  · have hlen := hf.2.2.2.1 hk
    refine df (by omega) (df (by omega) (df (by omega) (df (by omega) (df (by omega) (df (by omega) (df (by omega) ?_))))))
    refine plp_8 hnm hc (.inr (.inr hk)) (by omega) h.vars (by simp only [ByteArray.size_append, szA, List.size_toArray, List.length_cons, List.length_nil]; omega) fun n => pex10 hnm hc hk hlen.2 h.lits ?_ (fin _ ?_)
    · have := spN_size hnm c.vars (s ++ ((⟨#[99, 111, 110, 32]⟩ : ByteArray) ++ wdS c.kind))
      simp only [ByteArray.size_append, szA, List.size_toArray, List.length_cons, List.length_nil] at this; omega
    · rw [conS_10 hk]
      obtain ⟨a, e⟩ : ∃ a, c.vars = [a] := by
        match c.vars, hlen.1 with
        | [a], _ => exact ⟨a, rfl⟩
      rw [e]
      show (((_ ++ (_ ++ nmS a0.vars a)) ++ (_ ++ litS _ _)) ++ _) = s ++ ((_ ++ ((((_ ++ _) ++ nmS a0.vars a) ++ _) ++ litS _ _)) ++ _)
      simp only [ByteArray.append_assoc]
theorem goal_at {o : Int} (h : o = 0 ∨ o = 1 ∨ o = 2) : (at' .str ([(⟨#[97, 110, 121]⟩ : ByteArray), (⟨#[108, 101, 97, 115, 116]⟩ : ByteArray), (⟨#[109, 111, 115, 116]⟩ : ByteArray)]) o.toNat).size ≤ 5 := by
  rcases h with rfl | rfl | rfl <;> decide
theorem ba_size (l : List UInt8) : (⟨l.toArray⟩ : ByteArray).size = l.length := by rw [szA, List.size_toArray]
theorem cordonref_PrintOf_ok {m : MdlD} (hm : checkM m = 0) : Sat Tryz.prog f_cordonref_PrintOf [dM m] (toD .str (printS m)) :=
  cordonref_PrintOf_sat m fun ok => by
    have h := prOk hm
    have hv6 := h.right.vars
    have hc8 := h.right.cons
    have hl1 := varsL_len h m.vars.length
    rw [List.take_length] at hl1
    rw [cordonref_PrintOf_eq]
    refine up (I := fun n v (s : ByteArray) => cordonref_PrintOf_I0 m _ n s v) (a := ⟨#[]⟩) 0 m.vars.length rfl (Nat.zero_le _) (by omega) (fun k s => s = ⟨(varsL (m.vars.take k)).toArray⟩) (by simp [varsL]) fun n k s _ hk hs hn => ?_
    subst hs
    have hl0 := varsL_len h k
    have hb0 := ba_size (varsL (m.vars.take k))
    rw [cordonref_PrintOf_I0_eq]
    by_cases hlt : k < m.vars.length
    · rw [sel_lt hlt, at_nat (t := .var) hlt]
      have hmem := List.getElem_mem hlt
      have hr := h.right.var _ hmem
      have hs := h.names _ hmem
      have z1 := itoa_sz (n := m.vars[k].lo) (by omega); have z2 := itoa_sz (n := m.vars[k].hi) (by omega)
      have hnx := hn hlt (⟨(varsL (m.vars.take k)).toArray⟩ ++ varS m.vars[k]) (by rw [show varsL (m.vars.take (k + 1)) = varsL (m.vars.take k) ++ (varS m.vars[k]).data.toList by unfold varsL; rw [flat_take _ hlt], ba_app, ba_list])
      exact ⟨inb_nat hlt, (by simp only [ByteArray.size_append, szA, List.size_toArray, List.length_cons, List.length_nil]; omega), (by simp only [ByteArray.size_append, szA, List.size_toArray, List.length_cons, List.length_nil]; omega), inb_nat hlt, call1 (t := .str) (cordonref_Digits_ok (by omega)) ⟨(by simp only [ByteArray.size_append, szA, List.size_toArray, List.length_cons, List.length_nil]; omega), (by simp only [ByteArray.size_append, szA, List.size_toArray, List.length_cons, List.length_nil]; omega), inb_nat hlt, call1 (t := .str) (cordonref_Digits_ok (by omega)) ⟨(by simp only [ByteArray.size_append, szA, List.size_toArray, List.length_cons, List.length_nil]; omega), (by simp only [ByteArray.size_append, szA, List.size_toArray, List.length_cons, List.length_nil]; omega), by rw [ByteArray.size_append, hb0]; simp only [ByteArray.size_append, szA, List.size_toArray, List.length_cons, List.length_nil]; omega, hnx⟩⟩⟩
    · have e : k = m.vars.length := by omega
      subst e
      rw [sel_end, List.take_length]
      refine up (I := fun n v (s : ByteArray) => cordonref_PrintOf_I2 m _ n s v) (a := ⟨(varsL m.vars).toArray⟩) 0 m.cons.length rfl (Nat.zero_le _) (by omega) (fun k s => s = ⟨(varsL m.vars ++ consL m.vars (m.cons.take k)).toArray⟩) (by simp [consL]) fun n k s _ hk hs hn => ?_
      subst hs
      have hl2 := consL_len h k
      have hb := ba_size (varsL m.vars ++ consL m.vars (m.cons.take k))
      rw [List.length_append] at hb
      by_cases hlt : k < m.cons.length
      · exact pstep h.names hlt (at_nat (t := .con) hlt) (h.cons _ (List.getElem_mem hlt)) (by omega) (hn hlt _ (by rw [show consL m.vars (m.cons.take (k + 1)) = consL m.vars (m.cons.take k) ++ (conT m.vars m.cons[k]).data.toList by unfold consL; rw [flat_take _ hlt], ← List.append_assoc, ba_app (varsL m.vars ++ consL m.vars (m.cons.take k)), ba_list]))
      · have e : k = m.cons.length := by omega
        subst e
        rw [cordonref_PrintOf_I2_eq, sel_end]
        rw [List.take_length] at hb hl2 ⊢
        have hfin : ∀ t : ByteArray, t = goalT m → D.str (⟨(varsL m.vars ++ consL m.vars m.cons).toArray⟩ ++ t) = toD .str (printS m) := fun t e => by
          rw [e]
          refine congrArg D.str (a₂ := printS m) ?_
          show _ = (⟨((varsL m.vars ++ consL m.vars m.cons) ++ (goalT m).data.toList).toArray⟩ : ByteArray)
          rw [ba_app (varsL m.vars ++ consL m.vars m.cons), ba_list]
        have hnm := nmS_size h.names m.var
        rcases goal_cases h with hg | ⟨hg | hg, hv⟩
        · have hz := goal_at (o := m.goal) (.inl hg)
          refine ⟨inb_iff.2 ⟨by omega, by show m.goal < ((3 : Nat) : Int); omega⟩, by simp only [ByteArray.size_append, szA, List.size_toArray, List.length_cons, List.length_nil]; omega, by rw [ByteArray.size_append, hb]; simp only [ByteArray.size_append, szA, List.size_toArray, List.length_cons, List.length_nil]; omega, dnf hg ⟨by rw [ByteArray.size_append, ByteArray.size_append, hb]; simp only [ByteArray.size_append, szA, List.size_toArray, List.length_cons, List.length_nil]; omega, ?_⟩⟩
          rw [ByteArray.append_assoc]
          exact hfin _ (by unfold goalT; rw [if_pos hg, hg]; rfl)
        · have hz := goal_at (o := m.goal) (.inr (.inl hg))
          have hnm' : ((at' .var m.vars m.var.toNat).name).size ≤ 12 := hnm
          refine ⟨inb_iff.2 ⟨by omega, by show m.goal < ((3 : Nat) : Int); omega⟩, by simp only [ByteArray.size_append, szA, List.size_toArray, List.length_cons, List.length_nil]; omega, by rw [ByteArray.size_append, hb]; simp only [ByteArray.size_append, szA, List.size_toArray, List.length_cons, List.length_nil]; omega, dnt (by omega) ⟨inb_iff.2 ⟨hv.1, by omega⟩, by simp only [ByteArray.size_append, szA, List.size_toArray, List.length_cons, List.length_nil]; omega, by rw [ByteArray.size_append, ByteArray.size_append, hb]; simp only [ByteArray.size_append, szA, List.size_toArray, List.length_cons, List.length_nil]; omega, by rw [ByteArray.size_append, ByteArray.size_append, ByteArray.size_append, hb]; simp only [ByteArray.size_append, szA, List.size_toArray, List.length_cons, List.length_nil]; omega, ?_⟩⟩
          rw [ByteArray.append_assoc, ByteArray.append_assoc]
          exact hfin _ (by unfold goalT; rw [if_neg (by omega), if_pos hg, hg, ← ByteArray.append_assoc, ← ByteArray.append_assoc]; rfl)
        · have hz := goal_at (o := m.goal) (.inr (.inr hg))
          have hnm' : ((at' .var m.vars m.var.toNat).name).size ≤ 12 := hnm
          refine ⟨inb_iff.2 ⟨by omega, by show m.goal < ((3 : Nat) : Int); omega⟩, by simp only [ByteArray.size_append, szA, List.size_toArray, List.length_cons, List.length_nil]; omega, by rw [ByteArray.size_append, hb]; simp only [ByteArray.size_append, szA, List.size_toArray, List.length_cons, List.length_nil]; omega, dnt (by omega) ⟨inb_iff.2 ⟨hv.1, by omega⟩, by simp only [ByteArray.size_append, szA, List.size_toArray, List.length_cons, List.length_nil]; omega, by rw [ByteArray.size_append, ByteArray.size_append, hb]; simp only [ByteArray.size_append, szA, List.size_toArray, List.length_cons, List.length_nil]; omega, by rw [ByteArray.size_append, ByteArray.size_append, ByteArray.size_append, hb]; simp only [ByteArray.size_append, szA, List.size_toArray, List.length_cons, List.length_nil]; omega, ?_⟩⟩
          rw [ByteArray.append_assoc, ByteArray.append_assoc]
          exact hfin _ (by unfold goalT; rw [if_neg (by omega), if_neg (by omega), hg, ← ByteArray.append_assoc, ← ByteArray.append_assoc]; rfl)
end Go.Proofs.YtogdmcebojiojaaGreatDoor
