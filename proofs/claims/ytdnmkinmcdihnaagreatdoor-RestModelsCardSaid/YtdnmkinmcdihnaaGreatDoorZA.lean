/- Texts of this proof, one behind the other: nothing is handed in but what is proved here; no condition. -/
import Derived.WalkKit
import Derived.Lib.Hide
import Derived.WalkLawsBesides
import Derived.WalkSpells
import Derived.Deep.QuietTactic
import Derived.BigQuiet
import Derived.Deep.RegionWith
import Derived.Deep.RegionLaw
import Derived.StillTailTactics
import Derived.Handy
import Derived.Deep.LoopGhost
import Derived.Deep.DeepFit
import Derived.Deep.DeepMust
import Derived.Shelf.Abstract
import Derived.Maps.AppendAt
import Derived.Deep.AppendLies
import Derived.OwnWalk
import Derived.IntWalk
import Derived.Lib.LaidTab
import Derived.Lib.ItoaNum
import Derived.Laws.StructEq
set_option linter.unusedSectionVars false
set_option linter.unusedVariables false
set_option linter.unusedSimpArgs false
namespace Go.Proofs.YtdnmkinmcdihnaaGreatDoor
open Go.RowKit
abbrev An:=@if_neg
abbrev As:=@if_pos
abbrev At:=@absurd
abbrev AI:=@cond_true
abbrev AS:=@congrArg
abbrev AT:=@List.getElem_mem
abbrev By:=@List.length_cons
abbrev BY:=@of_decide_eq_true
abbrev If:=@Bool.and_eq_true
abbrev Is:=@Nat.zero_le
abbrev It:=@List.length_append
abbrev IN:=@Nat.le_refl
abbrev IS:=@List.length_nil
abbrev IT:=@Sem.run_bind
abbrev No:=@Result.andThen_ok
abbrev Of:=@ByteArray.size_append
abbrev On:=@List.size_toArray
abbrev OF:=@List.mem_map
abbrev TO:=@Sem.run_pure
abbrev Aaa:=@List.mem_cons_self
abbrev Aab:=@List.mem_singleton
abbrev Aac:=@List.mem_cons_of_mem
abbrev Aad:=@List.mem_cons
abbrev Aae:=@List.length_map
abbrev Aaf:=@decide_eq_true
abbrev Aag:=@cond_false
abbrev Aah:=@of_decide_eq_false
abbrev Aai:=@List.mem_append
abbrev Aaj:=@Array.getD_eq_getD_getElem?
abbrev Aak:=@List.length_take
abbrev Aal:=@List.getElem?_eq_getElem
abbrev Aam:=@List.take_length
abbrev Aan:=@Nat.le_trans
abbrev Aao:=@decide_eq_false
abbrev Aap:=@Int.toNat_natCast
abbrev Aaq:=@List.map_cons
abbrev Aar:=@List.getD_eq_getElem?_getD
abbrev Aas:=@List.getElem_of_mem
abbrev Aat:=@Nat.zero_add
abbrev Aau:=@Nat.le_of_ble_eq_true
abbrev Aav:=@List.all_eq_true
abbrev Aaw:=@List.getElem?_map
abbrev Aax:=@List.mem_filter
abbrev Aay:=@List.take_append_getElem
abbrev Aaz:=@Nat.lt_of_lt_of_le
abbrev AaA:=@List.length_zip
abbrev AaB:=@List.getElem?_eq_some_iff
abbrev AaC:=@decide_eq_true_iff
abbrev AaD:=@Option.map_eq_some_iff
abbrev AaE:=@Array.getElem?_toList
abbrev AaF:=@List.any_eq_false
abbrev AaG:=@List.append_assoc
abbrev AaH:=@List.mem_append_left
abbrev AaI:=@List.any_eq_true
abbrev AaJ:=@List.take_of_length_le
abbrev AaK:=@Int.le_refl
abbrev AaL:=@List.getElem_zip
abbrev AaM:=@List.nodup_cons
abbrev AaN:=@List.getElem?_append_right
abbrev AaO:=@Bool.eq_iff_iff
abbrev AaP:=@Nat.lt_or_ge
abbrev AaQ:=@List.getElem?_append_left
abbrev AaR:=@Bool.false_eq_true
abbrev AaS:=@List.mem_of_getElem?
abbrev AaT:=@List.length_set
abbrev AaU:=@List.mem_append_right
abbrev AaV:=@List.map_append
abbrev AaW:=@Array.getElem?_eq_getElem
abbrev AaX:=@List.length_eq_zero_iff
abbrev AaY:=@Bool.or_eq_true
abbrev AaZ:=@List.flatMap_cons
abbrev Aa0:=@List.length_singleton
abbrev Aa1:=@Bool.not_eq_true'
abbrev Aa2:=@List.append_nil
abbrev Aa3:=@List.mem_range
abbrev Aa4:=@List.drop_eq_getElem_cons
abbrev Aa5:=@List.flatten_cons
abbrev Aa6:=@List.not_mem_nil
abbrev Aa7:=@List.nil_append
abbrev Aa8:=@Nat.mul_le_mul_right
abbrev Aa9:=@Nat.mul_one
abbrev Aba:=@Nat.not_lt_zero
abbrev Abb:=@List.any_cons
abbrev Abc:=@List.filter_cons
abbrev Abd:=@Array.getElem?_eq_some_iff
abbrev Abe:=@Bool.false_and
abbrev Abf:=@Bool.true_and
abbrev Abg:=@List.foldl_append
abbrev Abh:=@List.length_pos_iff
abbrev Abi:=@Nat.succ_mul
abbrev Abj:=@Int.toNat_of_nonneg
abbrev Abk:=@Option.bind_some
abbrev Abl:=@Option.map_some
abbrev Abm:=@List.length_drop
abbrev Abn:=@Nat.add_comm
abbrev Abo:=@Bool.not_eq_true
abbrev Abp:=@List.mem_of_mem_take
abbrev Abq:=@List.eq_nil_of_length_eq_zero
abbrev Abr:=@List.all_cons
abbrev Abs:=@List.getElem?_take
abbrev Abt:=@and_self
abbrev Abu:=@List.drop_succ_cons
abbrev Abv:=@List.drop_zero
abbrev Abw:=@List.length_filter_le
abbrev Abx:=@List.nodup_nil
abbrev Aby:=@List.getElem?_drop
abbrev Abz:=@List.getElem?_eq_none
abbrev AbA:=@Bool.not_true
abbrev AbB:=@Bool.false_or
abbrev AbC:=@List.length_mapIdx
abbrev AbD:=@Array.getElem?_eq_none
abbrev AbE:=@List.map_toArray
abbrev AbF:=@List.map_nil
abbrev AbG:=@Bool.or_eq_false_iff
abbrev AbH:=@Option.map_none
abbrev AbI:=@Bool.and_true
abbrev AbJ:=@Bool.and_false
abbrev AbK:=@Nat.mul_le_mul
abbrev AbL:=@Option.some_ne_none
abbrev AbM:=@List.getElem_mapIdx
abbrev AbN:=@Bool.or_true
abbrev AbO:=@Bool.or_false
abbrev AbP:=@ByteArray.toList_eq
abbrev AbQ:=@List.take_zero
abbrev AbR:=@List.foldl_cons
abbrev AbS:=@List.getElem?_set
abbrev AbT:=@List.cons_append
abbrev AbU:=@Nat.sub_self
abbrev AbV:=@List.ext_getElem
abbrev AbW:=@List.length_replicate
abbrev AbX:=@List.eraseIdx_cons_succ
abbrev AbY:=@Array.getElem?_modify
abbrev AbZ:=@List.take_append_drop
abbrev Ab0:=@Option.getD_some
abbrev Ab1:=@List.getElem?_ofFn
abbrev Ab2:=@Array.empty_append
abbrev Ab3:=@List.map_congr_left
abbrev Ab4:=@List.getElem?_toArray
abbrev Ab5:=@Array.getElem?_append_left
abbrev Ab6:=@List.drop_of_length_le
abbrev Ab7:=@List.takeWhile_cons
abbrev Ab8:=@List.drop_drop
abbrev Ab9:=@Bool.not_false
abbrev Aca:=@List.zip_cons_cons
abbrev Acb:=@List.sum_cons
abbrev Acc:=@List.of_mem_zip
abbrev Acd:=@List.getElem_map
abbrev Ace:=@List.pairwise_iff_getElem
abbrev Acf:=@List.filter_eq_self
abbrev Acg:=@List.filter_congr
abbrev Ach:=@Classical.choose_spec
abbrev Aci:=@List.exists_mem_of_ne_nil
abbrev Acj:=@List.flatMap_append
abbrev Ack:=@Array.length_toList
abbrev Acl:=@List.ext_getElem?
abbrev Acm:=@List.getElem?_cons_succ
abbrev Acn:=@Bool.and_eq_true_iff
abbrev Aco:=@ByteArray.size_extract
abbrev Acp:=@List.mem_toArray
abbrev Acq:=@Bool.true_eq_false
abbrev Acr:=@List.mem_filterMap
abbrev Acs:=@Array.mapM_eq_mapM_toList
abbrev Acu:=@Option.isSome_iff_exists
abbrev Acv:=@List.drop_eq_nil_of_le
abbrev Acw:=@Nat.mul_le_mul_left
abbrev Acx:=@List.pairwise_cons
abbrev Acy:=@List.take_succ_cons
abbrev Acz:=@List.mergeSort_perm
abbrev AcA:=@List.nodup_append
abbrev AcB:=@List.eraseIdx_cons_zero
abbrev AcC:=@List.mem_flatMap
abbrev AcD:=@List.flatMap_nil
abbrev AcE:=@List.eraseIdx_sublist
abbrev AcF:=@Nat.eq_of_beq_eq_true
abbrev AcG:=@Array.getElem?_setIfInBounds_ne
abbrev AcH:=@Array.eq_empty_of_size_eq_zero
abbrev AcI:=@List.eraseIdx_of_length_le
abbrev AcJ:=@List.eq_nil_iff_forall_not_mem
abbrev AcK:=@List.length_eraseIdx_of_lt
abbrev AcZ:=List Nat
abbrev AcY:=List UInt8
abbrev AcP:=List Int
abbrev AcQ:=List AcP
abbrev AcO:=Program
abbrev AcN:=TypeId
abbrev AcM:=FuncId
abbrev AcL:=ByteArray
abbrev Ac1:=List AcL
class xU (α:Type) where
 size:Nat
 bytes:Nat
 rd:World->(Nat->Prop)->List Value->α->Prop
 len:∀ {w:World} {S:Nat->Prop} {cs:List Value} {x:α},rd w S cs x->cs.length=size
 one:∀ {w:World} {S:Nat->Prop} {cs:List Value} {x:α},rd w S cs x->∀u∈cs,u.oneCell'=true
 mono:∀ {w w':World} {S S':Nat->Prop} {cs:List Value} {x:α},rd w S cs x->(∀b,S b->w'.heap[b]? =w.heap[b]?)->(∀b,S b->S' b)->rd w' S' cs x
 pos:0<size
def vOf:List Value->Value
 |[v]=>v
 |cs=> .agg cs.toArray
def Oc{α:Type}[xU α](w:World)(S:Nat->Prop)(cs:List Value)(x:α):Prop:=xU.rd w S cs x
def fE{α:Type}[xU α](w:World)(S:Nat->Prop)(v:Value)(x:α):Prop:=∃cs,v=vOf cs/\xU.rd w S cs x
def Rds{α:Type}[xU α](w:World)(v:Value)(x:α):Prop:=fE w (λb=>b<w.heap.size) v x
def xE(n:Int):Prop:= -9223372036854775808<=n/\n<=9223372036854775807
instance xU.int:xU Int where
 size:=1
 bytes:=8
 rd _ _ cs x:=cs=[.int .i64 x]/\xE x
 len:=λh=>by rw[h.1];rfl
 one:=λh u hu=>by rw[h.1]at hu;simp at hu;subst hu;rfl
 mono:=λh _ _=>h
 pos:=by decide
instance xU.str:xU AcL where
 size:=1
 bytes:=16
 rd _ _ cs x:=cs=[.string x]/\x.size<=140737488355328
 len:=λh=>by rw[h.1];rfl
 one:=λh u hu=>by rw[h.1]at hu;simp at hu;subst hu;rfl
 mono:=λh _ _=>h
 pos:=by decide
instance xU.list {α:Type}[xU α]:xU (List α) where
 size:=1
 bytes:=24
 rd w S cs xs:=∃A c,cs=[.slice A xs.length c]/\xs.length*xU.bytes α<=140737488355328/\xs.length<=c/\c<=9223372036854775807/\
  (A=none->c=0)/\(0<xs.length->∃b o,A=some ⟨b,o,none⟩/\S b/\∀i x,xs[i]? =some x->∃cs,xU.rd w S cs x/\∀j u,cs[j]? =some u->w.cell? ⟨b,o+i*xU.size α+j,none⟩=some u)
 len:=λ⟨_,_,h,_⟩=>by rw[h];rfl
 one:=λ⟨_,_,h,_⟩ u hu=>by rw[h]at hu;simp at hu;subst hu;rfl
 mono:=fun {w w' S S' cs xs} ⟨A,c,h,h0,h1,h2,h3,h4⟩ hk hS=>⟨A,c,h,h0,h1,h2,h3,λhn=>by
  obtain⟨b,o,e,hb,hc⟩:=h4 hn;refine⟨b,o,e,hS b hb,λi x hx=> ?_⟩
  obtain⟨cs,hr,hcell⟩:=hc i x hx;exact⟨cs,xU.mono hr hk hS,λj u hu=>(World.cell?_of_block (hk b hb)).trans (hcell j u hu)⟩⟩
 pos:=by decide
section
variable {α:Type}[xU α]{w w':World}{S S':Nat->Prop}{v:Value}{x:α}
theorem Oc.mono{cs:List Value}(h:Oc w S cs x)(hk:∀b,S b->w'.heap[b]? =w.heap[b]?)(hS:∀b,S b->S' b):Oc w' S' cs x:=xU.mono (α:=α) h hk hS
theorem fE.mono(h:fE w S v x)(hk:∀b,S b->w'.heap[b]? =w.heap[b]?)(hS:∀b,S b->S' b):fE w' S' v x:=
 let⟨cs,e,hr⟩:=h
 ⟨cs,e,xU.mono hr hk hS⟩
theorem Rds.below(h:Rds w v x)(hb:Below w.heap.size w w'):Rds w' v x:=fE.mono h (λb hb'=>hb.block b hb') (λb hb'=>Aaz hb' hb.size)
theorem fE.rds(h:fE w S v x)(hS:∀b,S b->b<w.heap.size):Rds w v x:=fE.mono h (λ_ _=>rfl) hS
theorem Oc.val{cs:List Value}(h:Oc w S cs x):fE w S (vOf cs) x:=⟨cs,rfl,h⟩
end
def UZ{α:Type}[xU α](w:World)(B:Nat)(v:Value)(x:α):Prop:=fE w (λb=>B<=b/\b<w.heap.size) v x
section
variable {α:Type}[xU α]{w w':World}{B B':Nat}{v:Value}{x:α}
theorem UZ.rds(h:UZ w B v x):Rds w v x:=fE.rds h λ_ hb=>hb.2
theorem UZ.below(h:UZ w B v x)(hb:Below w.heap.size w w'):UZ w' B v x:=
 fE.mono h (λb hb'=>hb.block b hb'.2) (λb hb'=>⟨hb'.1,Aaz hb'.2 hb.size⟩)
theorem UZ.more(h:UZ w B v x)(hB:B'<=B):UZ w B' v x:=
 fE.mono h (λ_ _=>rfl) (λb hb'=>⟨Aan hB hb'.1,hb'.2⟩)
end
section
variable {w:World}{S:Nat->Prop}{v:Value}
theorem zqa{x:AcL}(h:fE w S v x):v=.string x/\x.size<=140737488355328:=by
 obtain⟨cs,rfl,rfl,h2⟩:=h;exact⟨rfl,h2⟩
theorem zgI{x:AcL}(h:x.size<=140737488355328):fE w S (.string x) x:=⟨[_],rfl,rfl,h⟩
structure ztH {α:Type}[xU α](A:Option Addr)(c:Nat)(xs:List α):Prop where
 bytes:xs.length*xU.bytes α<=140737488355328
 cap:xs.length<=c
 max:c<=9223372036854775807
 none_:A=none->c=0
theorem sM{α:Type}[xU α]{xs:List α}(h:fE w S v xs):∃A c,v=.slice A xs.length c/\ztH A c xs:=by
 obtain⟨cs,rfl,A,c,rfl,h0,h1,h2,h3,_⟩:=h;exact⟨A,c,rfl,h0,h1,h2,h3⟩
theorem Qo{α:Type}[xU α]{xs:List α}{A:Option Addr}{n c:Nat}(h:fE w S (.slice A n c) xs){i:Nat}(hi:i<xs.length):
  ∃b o cs,A=some ⟨b,o,none⟩/\S b/\Oc w S cs xs[i]/\∀j u,cs[j]? =some u->w.cell? ⟨b,o+i*xU.size α+j,none⟩=some u:=by
 obtain⟨cs,e,A',c',rfl,h0,h1,h2,h3,h4⟩:=h;simp only[vOf,Value.slice.injEq]at e
 obtain⟨rfl,rfl,rfl⟩:=e;obtain⟨b,o,rfl,hb,hc⟩:=h4 (by omega)
 obtain⟨cs,hr,hcell⟩:=hc i xs[i] (Aal hi);exact⟨b,o,cs,rfl,hb,hr,hcell⟩
theorem Mv{xs:Ac1}{A:Option Addr}{n c:Nat}(h:fE w S (.slice A n c) xs){i:Nat}(hi:i<xs.length):
  ∃b o,A=some ⟨b,o,none⟩/\S b/\w.cell? ⟨b,o+i,none⟩=some (.string xs[i])/\xs[i].size<=140737488355328:=by
 obtain⟨b,o,cs,rfl,hb,⟨rfl,hr⟩,hc⟩:=Qo h hi;exact⟨b,o,rfl,hb,by simpa[xU.size]using hc 0 _ rfl,hr⟩
end
structure rV where
 kind:Int
 at_:Int
 text:AcL
 deriving DecidableEq
abbrev AcX:=List rV
instance xU.tok:xU rV where
 size:=3
 bytes:=32
 rd _ _ cs x:=cs=[.int .i64 x.kind,.int .i64 x.at_,.string x.text]/\xE x.kind/\xE x.at_/\x.text.size<=140737488355328
 len:=λh=>by rw[h.1];rfl
 one:=λh u hu=>by rw[h.1]at hu;simp at hu;rcases hu with rfl|rfl|rfl<;>rfl
 mono:=λh _ _=>h
 pos:=by decide
structure zA where
 var:Int
 op:Int
 n:Int
 deriving DecidableEq
abbrev AcR:=List zA
abbrev AcS:=List AcR
instance xU.lit:xU zA where
 size:=3
 bytes:=24
 rd _ _ cs x:=cs=[.int .i64 x.var,.int .i64 x.op,.int .i64 x.n]/\xE x.var/\xE x.op/\xE x.n
 len:=λh=>by rw[h.1];rfl
 one:=λh u hu=>by rw[h.1]at hu;simp at hu;rcases hu with rfl|rfl|rfl<;>rfl
 mono:=λh _ _=>h
 pos:=by decide
structure zO where
 name:AcL
 lo:Int
 hi:Int
 deriving DecidableEq
abbrev AcU:=List zO
instance xU.var:xU zO where
 size:=3
 bytes:=32
 rd _ _ cs x:=cs=[.string x.name,.int .i64 x.lo,.int .i64 x.hi]/\x.name.size<=140737488355328/\xE x.lo/\xE x.hi
 len:=λh=>by rw[h.1];rfl
 one:=λh u hu=>by rw[h.1]at hu;simp at hu;rcases hu with rfl|rfl|rfl<;>rfl
 mono:=λh _ _=>h
 pos:=by decide
structure zF where
 kind:Int
 vars:AcP
 consts:AcP
 n:Int
 rows:AcQ
 lits:AcR
 deriving DecidableEq
abbrev AcV:=List zF
instance xU.con:xU zF where
 size:=6
 bytes:=112
 rd w S cs x:=∃v1 v2 v3 v4,cs=[.int .i64 x.kind,v1,v2,.int .i64 x.n,v3,v4]/\xE x.kind/\xE x.n/\
  Oc w S [v1] x.vars/\Oc w S [v2] x.consts/\Oc w S [v3] x.rows/\Oc w S [v4] x.lits
 len:=λ⟨_,_,_,_,h,_⟩=>by rw[h];rfl
 one:=λ⟨_,_,_,_,h,_,_,h1,h2,h3,h4⟩ u hu=>by
  rw[h]at hu;simp at hu
  rcases hu with rfl|rfl|rfl|rfl|rfl|rfl
  ·rfl
  ·exact xU.one h1 _ (by simp)
  ·exact xU.one h2 _ (by simp)
  ·rfl
  ·exact xU.one h3 _ (by simp)
  ·exact xU.one h4 _ (by simp)
 mono:=λ⟨v1,v2,v3,v4,h,a,b,h1,h2,h3,h4⟩ hk hS=>⟨v1,v2,v3,v4,h,a,b,h1.mono hk hS,h2.mono hk hS,h3.mono hk hS,h4.mono hk hS⟩
 pos:=by decide
structure zE where
 vars:AcU
 cons:AcV
 goal:Int
 var:Int
 deriving DecidableEq
instance xU.mdl:xU zE where
 size:=4
 bytes:=64
 rd w S cs x:=∃v1 v2,cs=[v1,v2,.int .i64 x.goal,.int .i64 x.var]/\xE x.goal/\xE x.var/\Oc w S [v1] x.vars/\Oc w S [v2] x.cons
 len:=λ⟨_,_,h,_⟩=>by rw[h];rfl
 one:=λ⟨_,_,h,_,_,h1,h2⟩ u hu=>by
  rw[h]at hu;simp at hu
  rcases hu with rfl|rfl|rfl|rfl
  ·exact xU.one h1 _ (by simp)
  ·exact xU.one h2 _ (by simp)
  ·rfl
  ·rfl
 mono:=λ⟨v1,v2,h,a,b,h1,h2⟩ hk hS=>⟨v1,v2,h,a,b,h1.mono hk hS,h2.mono hk hS⟩
 pos:=by decide
section
variable {w:World}{S:Nat->Prop}{v:Value}
theorem zey{α:Type}[xU α]{xs:List α}(h:Oc w S [v] xs):∃A c,v=.slice A xs.length c/\ztH A c xs/\fE w S (.slice A xs.length c) xs:=by
 obtain⟨A,c,e,h0,h1,h2,h3,h4⟩:=h;simp only[List.cons.injEq,and_true]at e
 subst e;exact⟨A,c,rfl,⟨h0,h1,h2,h3⟩,[_],rfl,A,c,rfl,h0,h1,h2,h3,h4⟩
theorem H3{α:Type}[xU α]{xs:List α}(h:fE w S v xs):Oc w S [v] xs:=by
 obtain⟨cs,rfl,A,c,rfl,h'⟩:=h;exact⟨A,c,rfl,h'⟩
theorem Mw{xs:AcX}{A:Option Addr}{n c:Nat}(h:fE w S (.slice A n c) xs){i:Nat}(hi:i<xs.length):
  ∃b o,A=some ⟨b,o,none⟩/\S b/\w.cell? ⟨b,o+i*3,none⟩=some (.int .i64 xs[i].kind)/\w.cell? ⟨b,o+i*3+1,none⟩=some (.int .i64 xs[i].at_)/\w.cell? ⟨b,o+i*3+2,none⟩=some (.string xs[i].text)/\
   xE xs[i].kind/\xE xs[i].at_/\xs[i].text.size<=140737488355328:=by
 obtain⟨b,o,cs,rfl,hb,⟨rfl,hr⟩,hc⟩:=Qo h hi;exact⟨b,o,rfl,hb,by simpa[xU.size]using hc 0 _ rfl,by simpa[xU.size]using hc 1 _ rfl,by simpa[xU.size]using hc 2 _ rfl,hr⟩
end
def wR(w:World)(g:Nat)(t:AcN)(cs:Array Value):Prop:=w.heap[g]? =some (.cells cs t (0,0))
section
variable {w w':World}{g:Nat}{t:AcN}{cs:Array Value}
theorem wR.lt(h:wR w g t cs):g<w.heap.size:=by
 rcases AaP g w.heap.size with hlt|hge
 ·exact hlt
 ·unfold wR at h;rw[AbD hge]at h;cases h
theorem wR.cell(h:wR w g t cs)(i:Nat):w.cell? ⟨g,i,none⟩=cs[i]? :=cell_of_row w g i cs t (0,0) h
theorem wR.frozen(h:wR w g t cs)(i:Nat):w.frozen? ⟨g,i,none⟩=false:=by
 unfold wR at h
 simp[World.frozen?,h]
theorem wR.new(w:World)(t:AcN)(cs:Array Value):wR (w.alloc (.cells cs t)) w.heap.size t cs:=heap_alloc_new w _
theorem wR.drew(h:wR w g t cs):wR w.drew g t cs:=h
theorem wR.drewN(h:wR w g t cs)(n:Nat):wR (w.drewN n) g t cs:=h
theorem wR.alloc(h:wR w g t cs)(o:Obj):wR (w.alloc o) g t cs:=(Below.heap_alloc w o g h.lt).trans h
theorem wR.set_(h:wR w g t cs)(i:Nat)(u:Value):wR (w.setCell ⟨g,i,none⟩ u) g t (cs.setIfInBounds i u):=by
 unfold wR at h⊢
 simp[World.setCell,AbY,h]
theorem wR.far(h:wR w g t cs){p:Addr}(hp:g≠p.block)(u:Value):wR (w.setCell p u) g t cs:=(Below.heap_setCell w p u g hp).trans h
theorem wR.below{B:Nat}(h:wR w g t cs)(hb:Below B w w')(hg:g<B):wR w' g t cs:=(hb.block g hg).trans h
theorem wR.grown{row:Option Nat}(h:wR w g t cs)(hb:w.grownBy w' row)(hg:some g≠row):wR w' g t cs:=(hb.block g h.lt hg).trans h
end
section
variable {a b w w':World}{row:Option Nat}{B:Nat}
theorem vD(h:Below B a w)(n:Nat):Below B a (w.drewN n):=⟨h.os,h.tape,h.output,h.size,h.block⟩
theorem LG(h:Below a.heap.size a w)(k:Below w.heap.size w w'):Below a.heap.size a w':=h.trans (k.mono h.size)
theorem Mx(h:a.grownBy b row)(k:b.grownBy w row):a.grownBy w row:=
 ⟨k.os.trans h.os,k.tape.trans h.tape,k.output.trans h.output,Aan h.size k.size,λi hi hne=>(k.block i (Aaz hi h.size) hne).trans (h.block i hi hne)⟩
theorem vI(h:a.grownBy w row)(n:Nat):a.grownBy (w.drewN n) row:=⟨h.os,h.tape,h.output,h.size,h.block⟩
theorem eP(h:a.grownBy w row):a.grownBy w.drew row:=⟨h.os,h.tape,h.output,h.size,h.block⟩
theorem jM(h:a.grownBy w row)(o:Obj):a.grownBy (w.alloc o) row:=
 ⟨h.os,h.tape,h.output,Aan h.size (by simp),λi hi hne=>(Below.heap_alloc w o i (Aaz hi h.size)).trans (h.block i hi hne)⟩
theorem tR{g:Nat}(h:a.grownBy w (some g)){p:Addr}(hp:p.block=g\/a.heap.size<=p.block)(u:Value):a.grownBy (w.setCell p u) (some g):=
 ⟨h.os,h.tape,h.output,by simpa[World.setCell]using h.size,λi hi hne=>(Below.heap_setCell w p u i (by
  rintro rfl;rcases hp with hp|hp
  ·exact hne (by rw[hp])
  ·omega)).trans (h.block i hi hne)⟩
theorem gH(h:Below a.heap.size a w)(row:Option Nat):a.grownBy w row:=⟨h.os,h.tape,h.output,h.size,λi hi _=>h.block i hi⟩
theorem YN{g:Nat}(h:a.grownBy w (some g))(hB:B<=g)(hs:B<=a.heap.size):Below B a w:=⟨h.os,h.tape,h.output,h.size,λi hi=>h.block i (by omega) (λe=>by injection e with e;omega)⟩
end
theorem zez{a b:Bool}(h:a=b):Ending.returned (.bool a)=.returned (.bool b):=by rw[h]
theorem WC(s:AcL)(i:Nat)(h:i<s.size):s.data.toList.drop i=s[i]::s.data.toList.drop (i+1):=by
 rw[Aa4 (by simpa using h)];rfl
theorem Df(s:AcL):s.data.toList.length=s.size:=by simp
theorem Dg{P:AcO}{f:AcM}{args:Array Value}{w:World}{n:Nat}{v:Value}
  (h:Calls P f args (w.drewN n) λe w'=>e=.returned v/\w.drewN n=w'):Calls P f args (w.drewN n) λe w'=>e=.returned v/\∃m,w'=w.drewN m:=
 h.mono λ_ _ ⟨he,hm⟩=>⟨he,n,hm.symm⟩
end Go.Proofs.YtdnmkinmcdihnaaGreatDoor
namespace Go.Proofs.YtdnmkinmcdihnaaGreatDoor
open Go.RowKit
theorem Ea{s:Nat}:∀(css:List (List Value)) (_:∀cs∈css,cs.length=s) (i j:Nat) (cs:List Value) (u:Value),css[i]? =some cs->cs[j]? =some u->css.flatten[i*s+j]? =some u
 |[],_,i,j,cs,u,h,_=>by simp at h
 |c::css,hl,0,j,cs,u,h,hu=>by
  simp at h;subst h
  have hj:j<c.length:=(AaB.1 hu).1;simp only[Aa5,Nat.zero_mul,Aat];rw[AaQ hj];exact hu
 |c::css,hl,i+1,j,cs,u,h,hu=>by
  have hc:c.length=s:=hl c (by simp)
  have ih:=Ea css (λcs hcs=>hl cs (by simp[hcs])) i j cs u (by simpa using h) hu
  simp only[Aa5];rw[AaN (by rw[hc,Abi];omega)]
  rw[<-ih];congr 1;rw[hc,Abi];omega
theorem WI{s:Nat}:∀(css:List (List Value)) (_:∀cs∈css,cs.length=s),css.flatten.length=css.length*s
 |[],_=>by simp
 |c::css,hl=>by
  have ih:=WI css (λcs hcs=>hl cs (by simp[hcs]))
  simp only[Aa5,It,By,ih,hl c (by simp),Abi];omega
structure LH (P:AcO)(t e:AcN)(size bytes:Nat):Prop where
 und:P.underlying t=some (.slice e)
 info:∃i z,P.info? e=some i/\i.zero=some z/\i.size=size/\i.bytes=bytes/\z.cells.size=size
theorem LH.mk'{P:AcO}{t e:AcN}{size bytes:Nat}{z:Value}(h:P.underlying t=some (.slice e))(hi:(P.info? e).map (λi=>(i.zero,i.size,i.bytes))=some (some z,size,bytes))(hz:z.cells.size=size):LH P t e size bytes:=by
 obtain⟨i,h1,h2,h3,h4⟩:=info_parts hi;exact⟨h,i,z,h1,h2,h3,h4,hz⟩
def zgJ(w:World)(lo:Nat)(v:Value)(b:Nat):Prop:=lo<=b/\b<w.heap.size/\v.ownBlock≠some b
def Own{α:Type}[xU α](w:World)(lo base:Nat)(E:AcN)(v:Value)(xs:List α):Prop:=
 lo<=base/\xs.length*xU.bytes α<=140737488355328/\∃css:List (List Value),css.length=xs.length/\w.ownsRow base E (xU.size α) v xs.length css.flatten/\
  (∀cs∈css,cs.length=xU.size α)/\∀(i:Nat) (x:α) (cs:List Value),xs[i]? =some x->css[i]? =some cs->xU.rd w (zgJ w lo v) cs x
section
variable {α:Type}[xU α]{w w':World}{lo base:Nat}{E:AcN}{v:Value}{xs:List α}
theorem Own.nil(w:World){lo base:Nat}(E:AcN)(hlo:lo<=base):Own w lo base E (.slice none 0 0) ([]:List α):=
 ⟨hlo,by simp,[],rfl,by simpa using World.ownsRow_nil w base E (xU.size α),by simp,by simp⟩
theorem Own.lt(h:Own w lo base E v xs){k:Nat}(hk:v.ownBlock=some k):base<=k/\k<w.heap.size:=by
 obtain⟨_,_,css,_,h3,_⟩:=h;exact h3.lt k hk
theorem Own.shape(h:Own w lo base E v xs):∃A c,v=.slice A xs.length c:=by
 obtain⟨_,_,css,_,h3,_⟩:=h;rcases h3.2 with⟨rfl,h0⟩|⟨g,cap,cur,rfl,_⟩
 ·rw[h0];exact⟨_,_,rfl⟩
 ·exact⟨_,_,rfl⟩
theorem Own.kept(h:Own w lo base E v xs)(hs:w.heap.size<=w'.heap.size)(hk:∀b,lo<=b->b<w.heap.size->w'.heap[b]? =w.heap[b]?):Own w' lo base E v xs:=by
 obtain⟨h1,h2,css,h3,h4,h5,h6⟩:=h;refine⟨h1,h2,css,h3,⟨h4.1,?_⟩,h5,λi x cs hx hc=>xU.mono (h6 i x cs hx hc) (λb hb=>hk b hb.1 hb.2.1) (λb hb=>⟨hb.1,by have:=hb.2.1;omega,hb.2.2⟩)⟩
 rcases h4.2 with hn|⟨g,cap,cur,rfl,hb,hg,rest⟩
 ·exact .inl hn
 ·exact .inr ⟨g,cap,cur,rfl,hb,by rw[hk g (by omega) (Abd.1 hg).1];exact hg,rest⟩
theorem Own.below(h:Own w lo base E v xs)(hb:Below w.heap.size w w'):Own w' lo base E v xs:=h.kept hb.size λb _ hb'=>hb.block b hb'
theorem Own.alloc(h:Own w lo base E v xs)(o:Obj):Own (w.alloc o) lo base E v xs:=h.kept (by simp) λb _ hb=>Below.heap_alloc w o b hb
theorem Own.drew(h:Own w lo base E v xs):Own w.drew lo base E v xs:=h.kept (IN _) λ_ _ _=>rfl
theorem Own.drewN(h:Own w lo base E v xs)(n:Nat):Own (w.drewN n) lo base E v xs:=h.kept (IN _) λ_ _ _=>rfl
theorem Own.rdV(h:Own w lo base E v xs):fE w (λb=>lo<=b/\b<w.heap.size) v xs:=by
 obtain⟨h1,h2,css,h3,h4,h5,h6⟩:=h;rcases h4.2 with⟨rfl,h0⟩|⟨g,cap,cur,rfl,hb,hg,hcap,hmax,hcur,htake⟩
 ·obtain rfl:=Abq h0
  exact⟨[.slice none 0 0],rfl,none,0,rfl,by simp,by simp,by simp,λ_=>rfl,λhn=>At hn (by simp)⟩
 ·refine⟨[_],rfl,some ⟨g,0,none⟩,cap,rfl,h2,hcap,hmax,(λe=>by cases e),λhn=> ?_⟩
  refine⟨g,0,rfl,⟨by omega,(Abd.1 hg).1⟩,λi x hx=> ?_⟩
  have hi:i<xs.length:=(AaB.1 hx).1;have hc:css[i]? =some (css[i]'(by omega)):=Aal (by omega)
  refine⟨_,xU.mono (h6 i x _ hx hc) (λ_ _=>rfl) (λb hb=>⟨hb.1,hb.2.1⟩),λj u hu=> ?_⟩
  have hf:=Ea css h5 i j _ u hc hu;have:=h4.cells (g:=g) rfl _ _ hf;rw[<-this];unfold Addr.add;split
  ·rename_i e;simp[e]
  ·simp
theorem Own.rds(h:Own w lo base E v xs):Rds w v xs:=fE.mono h.rdV (λ_ _=>rfl) λ_ hb=>hb.2
theorem Own.fresh(h:Own w lo base E v xs):UZ w lo v xs:=h.rdV
theorem Own.bytes(h:Own w lo base E v xs):xs.length*xU.bytes α<=140737488355328:=h.2.1
theorem Own.more(h:Own w lo base E v xs){lo':Nat}(hlo:lo'<=lo):Own w lo' base E v xs:=by
 obtain⟨h1,h2,css,h3,h4,h5,h6⟩:=h;exact⟨by omega,h2,css,h3,h4,h5,λi x cs hx hc=>xU.mono (h6 i x cs hx hc) (λ_ _=>rfl) (λb hb=>⟨by have:=hb.1;omega,hb.2.1,hb.2.2⟩)⟩
theorem Own.appended{P:AcO}{t:AcN}(hown:Own w lo base E v xs)(hbase:base<=w.heap.size){v':Value}{ys:List α}{ccs:List (List Value)}(hl:ccs.length=ys.length)
  (hcl:∀cs∈ccs,cs.length=xU.size α) (hcs:∀(i:Nat) (x:α) (cs:List Value),ys[i]? =some x->ccs[i]? =some cs->xU.rd w (zgJ w lo v) cs x) (hb:(xs.length+ys.length)*xU.bytes α<=140737488355328)
  (css:List (List Value)) (h3:css.length=xs.length) (h5:∀cs∈css,cs.length=xU.size α) (h6:∀(i:Nat) (x:α) (cs:List Value),xs[i]? =some x->css[i]? =some cs->xU.rd w (zgJ w lo v) cs x)
  (ho:w'.ownsRow base E (xU.size α) v' (xs.length+ys.length) (css.flatten++ccs.flatten)) (hg:w.grownBy w' v.ownBlock) (hat:v'.ownBlock=v.ownBlock\/v'.ownBlock=some w.heap.size):
  Own w' lo base E v' (xs++ys):=by
 refine⟨hown.1,by simpa using hb,css++ccs,by simp[h3,hl],by simpa using ho,λcs hc=> ?_,λi x cs hx hc=> ?_⟩
 ·rcases Aai.1 hc with h|h
  ·exact h5 cs h
  ·exact hcl cs h
 ·have key:xU.rd w (zgJ w lo v) cs x:=by
   by_cases hi:i<xs.length
   ·rw[AaQ hi]at hx
    rw[AaQ (by omega)]at hc
    exact h6 i x cs hx hc
   ·rw[AaN (by omega)]at hx
    rw[AaN (by omega),h3]at hc
    exact hcs _ x cs hx hc
  refine xU.mono key (λb hb=>hg.block b hb.2.1 (λe=>hb.2.2 e.symm)) (λb hb=>⟨hb.1,by have:=hg.size;have:=hb.2.1;omega,?_⟩)
  rcases hat with e|e<;>rw[e]
  ·exact hb.2.2
  ·intro e';injection e' with e';have:=hb.2.1;omega
end
section
variable {P:AcO}{α:Type}[xU α]
theorem zlB(w:World)(cs:List Value)(E:AcN):∀j u,cs[j]? =some u->(w.alloc (.cells cs.toArray E)).cell? ((⟨w.heap.size,0,none⟩:Addr).add j)=some u:=by
 intro j u hu;have e:(⟨w.heap.size,0,none⟩:Addr).add j=⟨w.heap.size,j,none⟩:=by unfold Addr.add;split<;>simp_all
 rw[e,World.cell?_alloc_new];simpa using hu
theorem LI{ops:Array Oper}{rest:List Oper}{o:Oper}{a:Act}{Q:Exit->Act->World->Prop}{w:World}{lo base:Nat}{E t:AcN}{v:Value}{xs:List α}{cs:List Value}{y:α}
  (hgd:o.guard=none) (s x:Operand) (ho:o.op=.call {callee:=.builtin .append,args:= #[s,x],argTypes:= #[t,t]})
  (hr:LH P t E (xU.size α) (xU.bytes α)) (hs:a.eval s=v) (hown:Own w lo base E v xs) {g:Nat} (hx:a.eval x=.slice (some ⟨g,0,none⟩) 1 1) (hgs:g=w.heap.size)
  (hy:Oc w (zgJ w lo v) cs y) (hb:(xs.length+1)*xU.bytes α<=140737488355328) (hm:xs.length+1<=9223372036854775807) (hbase:base<=w.heap.size)
  (h:∀v' w',Own w' lo base E v' (xs++[y])->w.grownBy w' v.ownBlock->Below base w w'->wpList P ops Q rest (a.put o.dst v') w'):
  wpList P ops Q (o::rest) a (w.alloc (.cells cs.toArray E)):=by
 subst hgs;obtain⟨hu,i,z,hi,hz,hsz,hby,hzs⟩:=hr;obtain⟨h1,h2,css,h3,h4,h5,h6⟩:=hown;have hlen:cs.length=xU.size α:=xU.len hy
 obtain⟨v',w',hrun,k1,k2,_,k3⟩:=run_append_own_at (P:=P) (w.alloc (.cells cs.toArray E)) base t o.type E i z (xU.size α) (xU.bytes α) hu hi hz hsz hby hzs xU.pos v xs.length css.flatten (h4.alloc _)
  ⟨w.heap.size,0,none⟩ 1 1 cs (by simpa using hlen) (zlB w cs E) (xU.one hy) (by unfold maxLen;omega) hb (by simp;omega)
 have hown':Own (w.alloc (.cells cs.toArray E)) lo base E v xs:=Own.alloc ⟨h1,h2,css,h3,h4,h5,h6⟩ _
 have mono:∀ {cs':List Value} {x':α},xU.rd w (zgJ w lo v) cs' x'->xU.rd (w.alloc (.cells cs.toArray E)) (zgJ (w.alloc (.cells cs.toArray E)) lo v) cs' x':=λhh=>
  xU.mono hh (λb hb=>Below.heap_alloc w _ b hb.2.1) (λb hb=>⟨hb.1,by simp;have:=hb.2.1;omega,hb.2.2⟩)
 have hfin:Own w' lo base E v' (xs++[y]):=Own.appended (P:=P) (t:=t) hown' (by simp;omega) (ccs:=[cs]) (ys:=[y]) rfl (by simpa using hlen)
  (λj x' cs' hx' hc'=>by
   rcases j with _|j
   ·simp at hx' hc';subst hx' hc';exact mono hy
   ·simp at hx') (by simpa using hb) css h3 h5 (λj x' cs' hx' hc'=>mono (h6 j x' cs' hx' hc')) (by simpa using k1) k2 k3
 have hgw:w.grownBy w' v.ownBlock:=⟨k2.os,k2.tape,k2.output,by have:=k2.size;simp at this;omega,λb hb hne=>(k2.block b (by simp;omega) hne).trans (Below.heap_alloc w _ b hb)⟩
 have hbl:Below base w w':=(Below.refl _ _).grown hgw hbase (λk hk=>(h4.lt k hk).1)
 refine wpList_plain hgd λK hK=> ?_
 unfold Oper.wp execOp;simp only[ho,resolve,invoke,builtin,IT,TO,No,AbE,Aaq,AbF,hs,hx,hrun];exact hK _ _ (h v' w' hfin hgw hbl)
end
end Go.Proofs.YtdnmkinmcdihnaaGreatDoor
namespace Go.Proofs.YtdnmkinmcdihnaaGreatDoor
open Go.RowKit
class Lo where
 new:Nat->Prop
variable[Lo]
def VQ(w:World)(b:Nat):Prop:=∃c t,w.heap[b]? =some (.cells c t (0,0))
def RO(k:Bool)(w:World)(S:Nat->Prop)(b:Nat):Prop:=S b/\match k with
 |true=>Lo.new b/\VQ w b
 |false=>¬Lo.new b
theorem zqb{k:Bool}{w:World}{S:Nat->Prop}{b:Nat}(h:RO k w S b):S b:=h.1
theorem zeA{k:Bool}{w w':World}{S S':Nat->Prop}(h:∀b,S b->S' b)(hk:∀b,S b->w'.heap[b]? =w.heap[b]?){b:Nat}(hb:RO k w S b):RO k w' S' b:=by
 refine⟨h b hb.1,?_⟩;have h2:=hb.2;cases k with
 |false=>exact h2
 |true=>exact⟨h2.1,by obtain⟨c,t,e⟩:=h2.2;exact⟨c,t,(hk b hb.1).trans e⟩⟩
theorem zj8{k:Bool}{w:World}{S:Nat->Prop}{b:Nat}(h:RO k w S b):RO k w (RO k w S) b:=⟨h,h.2⟩
theorem Dh{k:Bool}{w w':World}{S:Nat->Prop}(hf:∀b,VQ w b->VQ w' b){b:Nat}(hb:RO k w S b):RO k w' S b:=by
 refine⟨hb.1,?_⟩;have h2:=hb.2;cases k with
 |false=>exact h2
 |true=>exact⟨h2.1,hf b h2.2⟩
@[reducible] def xU.mkd {α:Type} (k:Bool) (R:xU α):xU α where
 size:=R.size
 bytes:=R.bytes
 rd w S cs x:=R.rd w (RO k w S) cs x
 len:=R.len
 one:=R.one
 mono:=λh hk hS=>R.mono h (λb hb=>hk b hb.1) (λ_ hb=>zeA hS hk hb)
 pos:=R.pos
structure zR where
 kind:Int
 con:Int
 clause:AcR
 deriving DecidableEq
abbrev AcW:=List zR
structure xL where
 v:Int
 times:Int
 deriving DecidableEq
abbrev Ac0:=List xL
structure T5 where
 verdict:Int
 values:AcP
 proof:AcW
 deriving DecidableEq
instance xU.bool:xU Bool where
 size:=1
 bytes:=1
 rd _ _ cs x:=cs=[.bool x]
 len:=λh=>by rw[h];rfl
 one:=λh u hu=>by rw[h]at hu;simp at hu;subst hu;rfl
 mono:=λh _ _=>h
 pos:=by decide
instance xU.byte:xU UInt8 where
 size:=1
 bytes:=1
 rd _ _ cs x:=cs=[.int .u8 (x.toNat:Int)]
 len:=λh=>by rw[h];rfl
 one:=λh u hu=>by rw[h]at hu;simp at hu;subst hu;rfl
 mono:=λh _ _=>h
 pos:=by decide
instance xU.term:xU xL where
 size:=2
 bytes:=16
 rd _ _ cs x:=cs=[.int .i64 x.v,.int .i64 x.times]/\xE x.v/\xE x.times
 len:=λh=>by rw[h.1];rfl
 one:=λh u hu=>by rw[h.1]at hu;simp at hu;rcases hu with rfl|rfl<;>rfl
 mono:=λh _ _=>h
 pos:=by decide
instance xU.step:xU zR where
 size:=3
 bytes:=40
 rd w S cs x:=∃v,cs=[.int .i64 x.kind,.int .i64 x.con,v]/\xE x.kind/\xE x.con/\Oc w S [v] x.clause
 len:=λ⟨_,h,_⟩=>by rw[h];rfl
 one:=λ⟨_,h,_,_,h1⟩ u hu=>by
  rw[h]at hu;simp at hu
  rcases hu with rfl|rfl|rfl
  ·rfl
  ·rfl
  ·exact xU.one h1 _ (by simp)
 mono:=λ⟨v,h,a,b,h1⟩ hk hS=>⟨v,h,a,b,h1.mono hk hS⟩
 pos:=by decide
instance xU.ans:xU T5 where
 size:=3
 bytes:=56
 rd w S cs x:=∃v1 v2,cs=[.int .i64 x.verdict,v1,v2]/\xE x.verdict/\Oc w S [v1] x.values/\Oc w S [v2] x.proof
 len:=λ⟨_,_,h,_⟩=>by rw[h];rfl
 one:=λ⟨_,_,h,_,h1,h2⟩ u hu=>by
  rw[h]at hu;simp at hu
  rcases hu with rfl|rfl|rfl
  ·rfl
  ·exact xU.one h1 _ (by simp)
  ·exact xU.one h2 _ (by simp)
 mono:=λ⟨v1,v2,h,a,h1,h2⟩ hk hS=>⟨v1,v2,h,a,h1.mono hk hS,h2.mono hk hS⟩
 pos:=by decide
instance xU.pair {α β:Type}[xU α][xU β]:xU (α×β) where
 size:=xU.size α+xU.size β
 bytes:=xU.bytes α+xU.bytes β
 rd w S cs x:=∃c1 c2,cs=c1++c2/\xU.rd w S c1 x.1/\xU.rd w S c2 x.2
 len:=λ⟨c1,c2,h,h1,h2⟩=>by rw[h,It,xU.len h1,xU.len h2]
 one:=λ⟨c1,c2,h,h1,h2⟩ u hu=>by
  rw[h]at hu
  rcases Aai.1 hu with hu|hu
  ·exact xU.one h1 u hu
  ·exact xU.one h2 u hu
 mono:=λ⟨c1,c2,h,h1,h2⟩ hk hS=>⟨c1,c2,h,xU.mono h1 hk hS,xU.mono h2 hk hS⟩
 pos:=Nat.add_pos_left xU.pos _
inductive Ty|int|bool|str|tok|lit|var|con|mdl|step|term|ans|list (t:Ty)|pr (a b:Ty)|byte|mk (k:Bool)(t:Ty)
 deriving DecidableEq
abbrev Ac2:=List Ty
@[reducible] def Ty.den:Ty->Type
 | .int=>Int| .bool=>Bool| .str=>AcL| .tok=>rV| .lit=>zA| .var=>zO| .con=>zF| .mdl=>zE| .step=>zR| .term=>xL| .ans=>T5
 | .list t=>List t.den
 | .pr a b=>a.den×b.den
 | .byte=>UInt8
 | .mk _ t=>t.den
abbrev Ty.fr(t:Ty):Ty:=.mk true t
abbrev Ty.od(t:Ty):Ty:=.mk false t
def Ty.bare:Ty->Bool
 | .mk _ _=>false
 |_=>true
def Ty.isOd:Ty->Bool
 | .mk false _=>true
 |_=>false
def Eb:Ty->World->(Nat->Prop)->Nat->Prop
 | .mk k _,w,S=>RO k w S
 |_,_,S=>S
theorem Zp: {t:Ty}->t.bare=true-> {w:World}-> {S:Nat->Prop}->Eb t w S=S
 | .int,_,_,_| .bool,_,_,_| .str,_,_,_| .tok,_,_,_| .lit,_,_,_| .var,_,_,_| .con,_,_,_| .mdl,_,_,_| .step,_,_,_| .term,_,_,_| .ans,_,_,_| .list _,_,_,_| .pr _ _,_,_,_| .byte,_,_,_=>rfl
theorem VR{t:Ty}{w:World}{S:Nat->Prop}{b:Nat}(h:Eb t w S b):S b:=by
 cases t<;>first|exact h.1|exact h
theorem WJ{t:Ty}{w w':World}{S S':Nat->Prop}(hS:∀b,S b->S' b)(hk:∀b,S b->w'.heap[b]? =w.heap[b]?){b:Nat}(h:Eb t w S b):Eb t w' S' b:=by
 cases t<;>first|exact zeA hS hk h|exact hS _ h
theorem znm{t:Ty}{w w':World}{S:Nat->Prop}(hf:∀b,VQ w b->VQ w' b){b:Nat}(h:Eb t w S b):Eb t w' S b:=by
 cases t<;>first|exact Dh hf h|exact h
@[reducible] def xU.listT (t:Ty) (R:xU t.den):xU (List t.den) where
 size:=1
 bytes:=24
 rd w S cs xs:=(@xU.list _ R).rd w (Eb t w S) cs xs
 len:=(@xU.list _ R).len
 one:=(@xU.list _ R).one
 mono:=λh hk hS=>(@xU.list _ R).mono h (λb hb=>hk b (VR hb)) (λ_ hb=>WJ hS hk hb)
 pos:=(@xU.list _ R).pos
@[reducible] def Ty.rep:(t:Ty)->xU t.den
 | .int=>xU.int| .bool=>xU.bool| .str=>xU.str| .tok=>xU.tok| .lit=>xU.lit| .var=>xU.var| .con=>xU.con| .mdl=>xU.mdl| .step=>xU.step| .term=>xU.term| .ans=>xU.ans
 | .list t=>xU.listT t (Ty.rep t)
 | .pr a b=> @xU.pair _ _ (Ty.rep a) (Ty.rep b)
 | .byte=>xU.byte
 | .mk k t=>xU.mkd k (Ty.rep t)
@[reducible] instance xU.ty (t:Ty):xU t.den:=Ty.rep t
def Ty.dflt:(t:Ty)->t.den
 | .int=>0| .bool=>false| .str=>⟨#[]⟩| .tok=>⟨0,0,⟨#[]⟩⟩| .lit=>⟨0,0,0⟩| .var=>⟨⟨#[]⟩,0,0⟩| .con=>⟨0,[],[],0,[],[]⟩| .mdl=>⟨[],[],0,0⟩| .step=>⟨0,0,[]⟩| .term=>⟨0,0⟩| .ans=>⟨0,[],[]⟩
 | .list _=>[]
 | .pr a b=>(a.dflt,b.dflt)
 | .byte=>0
 | .mk _ t=>t.dflt
def Ty.agg:Ty->Bool
 | .tok| .lit| .var| .con| .mdl| .step| .term| .ans| .pr _ _=>true
 | .mk _ t=>t.agg
 |_=>false
def Ty.size:Ty->Nat
 | .tok| .lit| .var| .step| .ans=>3| .con=>6| .mdl=>4| .term=>2
 | .pr a b=>a.size+b.size
 | .mk _ t=>t.size
 |_=>1
def Ty.bytes:Ty->Nat
 | .int=>8| .bool=>1| .str=>16| .tok=>32| .lit=>24| .var=>32| .con=>112| .mdl=>64| .step=>40| .term=>16| .ans=>56| .list _=>24| .pr a b=>a.bytes+b.bytes| .byte=>1| .mk _ t=>t.bytes
theorem Ty.size_eq:(t:Ty)->t.size= @xU.size t.den (Ty.rep t)
 | .pr a b=>by show a.size+b.size=_;rw[Ty.size_eq a,Ty.size_eq b];rfl
 | .mk _ t=>Ty.size_eq t
 | .int| .bool| .str| .tok| .lit| .var| .con| .mdl| .step| .term| .ans| .list _| .byte=>rfl
theorem Ty.bytes_eq:(t:Ty)->t.bytes= @xU.bytes t.den (Ty.rep t)
 | .pr a b=>by show a.bytes+b.bytes=_;rw[Ty.bytes_eq a,Ty.bytes_eq b];rfl
 | .mk _ t=>Ty.bytes_eq t
 | .int| .bool| .str| .tok| .lit| .var| .con| .mdl| .step| .term| .ans| .list _| .byte=>rfl
inductive D
 |undef
 |nil
 |int (k:IntKind) (n:Int)
 |bool (b:Bool)
 |str (s:AcL)
 |sl (t:Ty) (xs:List t.den)
 |mp (k v:Ty) (es:List (k.den×v.den))
 |agg (cs:List D)
 |tup (cs:List D)
 |iptr (cs:List D) (off:Nat)
 |elt (t:Ty) (xs:List t.den) (i off:Nat)
 |clo (f:AcM) (rs:Option Ac2) (caps:List D)
 |own (k:Nat)
 |ptr (k off:Nat)
 |oelt (k sz i off:Nat)
 |slN (t:Ty) (xs:List t.den) (nl:Bool)
 |ownN (k:Nat)
 |ifc (u:Value)
 |clp (f:AcM) (bd:Bool) (k off:Nat)
 |slf (k:Nat)
 deriving Inhabited
abbrev AcT:=List D
def inK:IntKind->Int->Prop
 | .i64,n=>xE n
 | .u8,n=>0<=n/\n<=255
 |_,_=>False
theorem zce(n:Int):inK .i64 (IntKind.i64.wrap n):=by
 unfold inK xE;rw[IntKind.wrap_i64];omega
theorem zss(n:Int):inK .u8 (IntKind.u8.wrap n):=by
 unfold inK;rw[IntKind.wrap_u8];omega
def Ao(k:Bool):D->D
 | .sl t xs=> .sl (.mk k t) xs
 |d=>d
def zaI:D->D
 | .sl (.mk _ t) xs=> .sl t xs
 |d=>d
def zcf(k:Bool):D->Bool
 | .sl (.mk k' t) xs=>((k==k')&&t.bare)||xs.isEmpty
 | .sl _ []=>true
 | .nil=>true
 | .int _ _=>true
 | .bool _=>true
 | .str _=>true
 |_=>false
def cells:(t:Ty)->t.den->AcT
 | .int,n=>[.int .i64 n]
 | .bool,b=>[.bool b]
 | .str,s=>[.str s]
 | .tok,x=>[.int .i64 x.kind,.int .i64 x.at_,.str x.text]
 | .lit,x=>[.int .i64 x.var,.int .i64 x.op,.int .i64 x.n]
 | .var,x=>[.str x.name,.int .i64 x.lo,.int .i64 x.hi]
 | .con,x=>[.int .i64 x.kind,.sl .int x.vars,.sl .int x.consts,.int .i64 x.n,.sl (.list .int) x.rows,.sl .lit x.lits]
 | .mdl,x=>[.sl .var x.vars,.sl .con x.cons,.int .i64 x.goal,.int .i64 x.var]
 | .step,x=>[.int .i64 x.kind,.int .i64 x.con,.sl .lit x.clause]
 | .term,x=>[.int .i64 x.v,.int .i64 x.times]
 | .ans,x=>[.int .i64 x.verdict,.sl .int x.values,.sl .step x.proof]
 | .list t,xs=>[.sl t xs]
 | .pr a b,x=>cells a x.1++cells b x.2
 | .byte,b=>[.int .u8 (b.toNat:Int)]
 | .mk k t,x=>(cells t x).map (Ao k)
def Yn(t:Ty)(x:t.den):D:=
 match t,x with
 | .int,n=> .int .i64 n
 | .bool,b=> .bool b
 | .str,s=> .str s
 | .list t,xs=> .sl t xs
 | .byte,b=> .int .u8 (b.toNat:Int)
 | .mk k t,x=>match t.agg with
  |true=> .agg ((cells t x).map (Ao k))
  |false=>match(cells t x).map (Ao k)with
   |[d]=>d
   |_=> .undef
 |t,x=> .agg (cells t x)
theorem Ty.bytes_pos:(t:Ty)->0<t.bytes
 | .pr a b=>Nat.add_pos_left (Ty.bytes_pos a) _
 | .mk _ t=>Ty.bytes_pos t
 | .int| .bool| .str| .tok| .lit| .var| .con| .mdl| .step| .term| .ans| .list _| .byte=>Aau rfl
theorem gI:(t:Ty)->(x:t.den)->(cells t x).length=t.size
 | .pr a b,x=>by show(cells a x.1++cells b x.2).length=_;rw[It,gI a,gI b];rfl
 | .mk k t,x=>by show((cells t x).map (Ao k)).length=_;rw[Aae];exact gI t x
 | .int,_| .bool,_| .str,_| .tok,_| .lit,_| .var,_| .con,_| .mdl,_| .step,_| .term,_| .ans,_| .list _,_| .byte,_=>rfl
def zr9(t:Ty):(t':Ty)->List t'.den->Option (List t.den)
 | .mk _ t'',xs=>bif t''.bare then if h:t''=t then some (h▸(show List t''.den from xs))else none else none
 |_,_=>none
def J1(t:Ty):D->Option (List t.den)
 | .sl t' xs=>if h:t'=t then some (h▸xs)else zr9 t t' xs
 | .nil=>some []
 |_=>none
def ofD:(t:Ty)->AcT->Option t.den
 | .int,[.int .i64 n]=>some n
 | .bool,[.bool b]=>some b
 | .str,[.str s]=>some s
 | .tok,[.int .i64 a,.int .i64 b,.str c]=>some ⟨a,b,c⟩
 | .lit,[.int .i64 a,.int .i64 b,.int .i64 c]=>some ⟨a,b,c⟩
 | .var,[.str a,.int .i64 b,.int .i64 c]=>some ⟨a,b,c⟩
 | .con,[.int .i64 a,b,c,.int .i64 d,e,f]=>match J1 .int b,J1 .int c,J1 (.list .int) e,J1 .lit f with
  |some b,some c,some e,some f=>some ⟨a,b,c,d,e,f⟩
  |_,_,_,_=>none
 | .mdl,[a,b,.int .i64 c,.int .i64 d]=>match J1 .var a,J1 .con b with
  |some a,some b=>some ⟨a,b,c,d⟩
  |_,_=>none
 | .step,[.int .i64 a,.int .i64 b,c]=>match J1 .lit c with
  |some c=>some ⟨a,b,c⟩
  |_=>none
 | .term,[.int .i64 a,.int .i64 b]=>some ⟨a,b⟩
 | .ans,[.int .i64 a,b,c]=>match J1 .int b,J1 .step c with
  |some b,some c=>some ⟨a,b,c⟩
  |_,_=>none
 | .list t,[d]=>J1 t d
 | .pr a b,ds=>match ofD a (ds.take a.size),ofD b (ds.drop a.size)with
  |some x,some y=>some (x,y)
  |_,_=>none
 | .byte,[.int .u8 n]=>some (UInt8.ofNat n.toNat)
 | .mk k t,ds=>match ds.all (zcf k)with
  |true=>ofD t (ds.map zaI)
  |false=>none
 |_,_=>none
def zno:D->Bool
 | .sl _ []=>true
 | .int _ _=>true
 | .bool _=>true
 | .str _=>true
 |_=>false
theorem J2{k:Bool}{d:D}(h:zno d=true):zno (Ao k d)=true/\zcf k (Ao k d)=true/\zaI (Ao k d)=d:=by
 cases d<;>try first|exact⟨rfl,rfl,rfl⟩|cases h
 case sl t xs=>cases xs with
  |nil=>exact⟨rfl,by show(_||true)=true;rw[AbN],rfl⟩
  |cons=>cases h
theorem U0:(t:Ty)->∀d∈cells t t.dflt,zno d=true
 | .pr a b,d,hd=>by
  rcases Aai.1 (show d∈cells a a.dflt++cells b b.dflt from hd)with h|h
  ·exact U0 a d h
  ·exact U0 b d h
 | .mk k t,d,hd=>by
  obtain⟨d0,h0,rfl⟩:=OF.1 (show d∈(cells t t.dflt).map (Ao k)from hd)
  exact(J2 (U0 t d0 h0)).1
 | .int,d,hd| .bool,d,hd| .str,d,hd| .tok,d,hd| .lit,d,hd| .var,d,hd| .con,d,hd| .mdl,d,hd| .step,d,hd| .term,d,hd| .ans,d,hd| .list _,d,hd| .byte,d,hd=>by
  revert hd;unfold cells Ty.dflt;simp only[Aad,Aa6,or_false];intro hd
  first
   |(subst hd;rfl)
   |(rcases hd with rfl|rfl<;>rfl)
   |(rcases hd with rfl|rfl|rfl<;>rfl)
   |(rcases hd with rfl|rfl|rfl|rfl<;>rfl)
   |(rcases hd with rfl|rfl|rfl|rfl|rfl|rfl<;>rfl)
theorem zaJ(k:Bool)(t:Ty):((cells t t.dflt).map (Ao k)).all (zcf k)=true/\((cells t t.dflt).map (Ao k)).map zaI=cells t t.dflt:=by
 refine⟨Aav.2 λd hd=> ?_,?_⟩
 ·obtain⟨d0,h0,rfl⟩:=OF.1 hd
  exact(J2 (U0 t d0 h0)).2.1
 ·rw[List.map_map]
  have h:=U0 t;generalize cells t t.dflt=l at h
  induction l with
  |nil=>rfl
  |cons d l ih=>
   rw[Aaq,ih λe he=>h e (Aac _ he)]
   exact AS (·::l) (J2 (h d Aaa)).2.2
theorem Qp:(t:Ty)->ofD t (cells t t.dflt)=some t.dflt
 | .pr a b=>by
  show(match ofD a ((cells a a.dflt++cells b b.dflt).take a.size),ofD b ((cells a a.dflt++cells b b.dflt).drop a.size)with
   |some x,some y=>some (x,y)
   |_,_=>none)=_
  have h:a.size=(cells a a.dflt).length:=(gI a _).symm;rw[List.take_append_of_le_length (by omega),AaJ (by omega),h,List.drop_left,Qp a,Qp b]
  rfl
 | .mk k t=>by
  show(match((cells t t.dflt).map (Ao k)).all (zcf k)with
   |true=>ofD t (((cells t t.dflt).map (Ao k)).map zaI)
   |false=>none)=_
  rw[(zaJ k t).1,(zaJ k t).2];exact Qp t
 | .int| .bool| .str| .tok| .lit| .var| .con| .mdl| .step| .term| .ans| .list _=>by simp[cells,Ty.dflt,ofD,J1]
 | .byte=>rfl
inductive xK {α β:Type}(R:α->β->Prop):List α->List β->Prop
 |nil:xK R [] []
 |cons {a b xs ys}:R a b->xK R xs ys->xK R (a::xs) (b::ys)
section
variable {α β:Type}{R R':α->β->Prop}
theorem xK.len:∀ {xs:List α} {ys:List β},xK R xs ys->xs.length=ys.length
 |_,_,.nil=>rfl
 |_,_,.cons _ h=>by simp[h.len]
theorem xK.at:∀ {xs:List α} {ys:List β},xK R xs ys->∀ {i:Nat} {b:β},ys[i]? =some b->∃a,xs[i]? =some a/\R a b
 |_,_,.nil,i,b,h=>by simp at h
 |_,_,.cons h _,0,b,hb=>⟨_,rfl,by simp at hb;subst hb;exact h⟩
 |_,_,.cons _ h,i+1,b,hb=>by simpa using h.at (i:=i) (by simpa using hb)
theorem xK.of:∀ {xs:List α} {ys:List β},xs.length=ys.length->(∀(i:Nat) (a:α) (b:β),xs[i]? =some a->ys[i]? =some b->R a b)->xK R xs ys
 |[],[],_,_=> .nil
 |a::xs,b::ys,hl,h=> .cons (h 0 a b rfl rfl) (xK.of (by simpa using hl) λi a b ha hb=>h (i+1) a b (by simpa using ha) (by simpa using hb))
 |[],_::_,hl,_=>by simp at hl
 |_::_,[],hl,_=>by simp at hl
theorem xK.append:∀ {xs:List α} {ys:List β} {xs':List α} {ys':List β},xK R xs ys->xK R xs' ys'->xK R (xs++xs') (ys++ys')
 |_,_,_,_,.nil,h=>h
 |_,_,_,_,.cons h hs,h'=> .cons h (hs.append h')
theorem xK.split:∀ {xs:List α} {ys:List β},xK R xs ys->∀n,xK R (xs.take n) (ys.take n)/\xK R (xs.drop n) (ys.drop n)
 |_,_,.nil,n=>by simp;exact .nil
 |_,_,.cons h hs,0=>⟨.nil,.cons h hs⟩
 |_,_,.cons h hs,n+1=>⟨.cons h (hs.split n).1,(hs.split n).2⟩
theorem xK.imp(hr:∀a b,R a b->R' a b):∀ {xs:List α} {ys:List β},xK R xs ys->xK R' xs ys
 |_,_,.nil=> .nil
 |_,_,.cons h hs=> .cons (hr _ _ h) (hs.imp hr)
end
def zeB(w:World)(S:Nat->Prop)(b:Nat)(k v:Ty)(es:List (k.den×v.den)):Prop:=
 es.length<=140737488355328/\∃ents clock,w.heap[b]? =some (.map ents clock)/\xK (λ(e:MapEntry) (x:k.den×v.den)=>fE w S e.key x.1/\fE w S e.val x.2) ents.toList es
theorem zeB.mono{w w':World}{S S':Nat->Prop}{b:Nat}{k v:Ty}{es:List (k.den×v.den)}(h:zeB w S b k v es)(hk:∀b,S b->w'.heap[b]? =w.heap[b]?)(hb:w'.heap[b]? =w.heap[b]?)(hS:∀b,S b->S' b):zeB w' S' b k v es:=by
 obtain⟨h0,ents,clock,h1,h2⟩:=h;exact⟨h0,ents,clock,hb.trans h1,h2.imp λ_ _ h=>⟨h.1.mono hk hS,h.2.mono hk hS⟩⟩
inductive Rp (w:World)(S:Nat->Prop):Value->D->Prop
 |undef (v:Value):Rp w S v .undef
 |nil:Rp w S (.slice none 0 0) .nil
 |int (k:IntKind) (n:Int) (h:inK k n):Rp w S (.int k n) (.int k n)
 |bool (b:Bool):Rp w S (.bool b) (.bool b)
 |str (s:AcL) (h:s.size<=140737488355328):Rp w S (.string s) (.str s)
 |sl (t:Ty) (xs:List t.den) (v:Value) (h:fE w (Eb t w S) v xs):Rp w S v (.sl t xs)
 |slN (t:Ty) (xs:List t.den) (nl:Bool) (v:Value) (h:fE w (Eb t w S) v xs) (hn:nl=false->v≠ .slice none 0 0) (hy:nl=true->v=.slice none 0 0):Rp w S v (.slN t xs nl)
 |mp (k v:Ty) (es:List (k.den×v.den)) (b:Nat) (hb:S b) (h:zeB w S b k v es):Rp w S (.map (some b)) (.mp k v es)
 |agg (vs:Array Value) (cs:AcT) (hl:vs.size=cs.length) (h:∀i d,cs[i]? =some d->Rp w S (vs.getD i Go.undef) d):Rp w S (.agg vs) (.agg cs)
 |tup (vs:Array Value) (cs:AcT) (hl:vs.size=cs.length) (h:∀i d,cs[i]? =some d->Rp w S (vs.getD i Go.undef) d):Rp w S (.tuple vs) (.tup cs)
 |iptr (b off:Nat) (cs:AcT) (vs:Nat->Value) (hb:S b) (hc:∀i d,cs[i]? =some d->w.cell? ⟨b,i,none⟩=some (vs i)) (h:∀i d,cs[i]? =some d->Rp w S (vs i) d):
   Rp w S (.pointer (some ⟨b,off,none⟩)) (.iptr cs off)
 |elt (t:Ty) (xs:List t.den) (i off b o c:Nat) (hi:i<xs.length) (h:fE w (Eb t w S) (.slice (some ⟨b,o,none⟩) xs.length c) xs):
   Rp w S (.pointer (some ⟨b,o+i*t.size+off,none⟩)) (.elt t xs i off)
 |clo (f:AcM) (rs:Option Ac2) (caps:AcT) (vs:Array Value) (hl:vs.size=caps.length) (h:∀i d,caps[i]? =some d->Rp w S (vs.getD i Go.undef) d):Rp w S (.func (.func f) #[] vs) (.clo f rs caps)
 |ifc (u:Value):Rp w S u (.ifc u)
theorem Rp.mono{w w':World}{S S':Nat->Prop}{v:Value}{d:D}(h:Rp w S v d)(hk:∀b,S b->w'.heap[b]? =w.heap[b]?)(hS:∀b,S b->S' b):Rp w' S' v d:=by
 induction h with
 |undef v=>exact .undef v
 |nil=>exact .nil
 |int k n h=>exact .int k n h
 |bool b=>exact .bool b
 |str s h=>exact .str s h
 |sl t xs v h=>exact .sl t xs v (fE.mono h (λb hb=>hk b (VR hb)) λ_ hb=>WJ hS hk hb)
 |slN t xs nl v h hn hy=>exact .slN t xs nl v (fE.mono h (λb hb=>hk b (VR hb)) λ_ hb=>WJ hS hk hb) hn hy
 |mp k v es b hb h=>exact .mp k v es b (hS b hb) (h.mono hk (hk b hb) hS)
 |agg vs cs hl h ih=>exact .agg vs cs hl ih
 |tup vs cs hl h ih=>exact .tup vs cs hl ih
 |iptr b off cs vs hb hc h ih=>exact .iptr b off cs vs (hS b hb) (λi d hd=>(World.cell?_of_block (hk b hb)).trans (hc i d hd)) ih
 |elt t xs i off b o c hi h=>exact .elt t xs i off b o c hi (fE.mono h (λb hb=>hk b (VR hb)) λ_ hb=>WJ hS hk hb)
 |clo f rs caps vs hl h ih=>exact .clo f rs caps vs hl ih
 |ifc u=>exact .ifc u
section
variable {w:World}{S:Nat->Prop}{v:Value}
theorem Rp.int_inv{k:IntKind}{n:Int}(h:Rp w S v (.int k n)):v=.int k n/\inK k n:=by cases h with|int _ _ h=>exact⟨rfl,h⟩
theorem Rp.bool_inv{b:Bool}(h:Rp w S v (.bool b)):v=.bool b:=by cases h;rfl
theorem Rp.str_inv{s:AcL}(h:Rp w S v (.str s)):v=.string s/\s.size<=140737488355328:=by cases h with|str _ h=>exact⟨rfl,h⟩
theorem Rp.slN_inv'{t:Ty}{xs:List t.den}{nl:Bool}(h:Rp w S v (.slN t xs nl)):fE w (Eb t w S) v xs/\(nl=false->v≠ .slice none 0 0)/\(nl=true->v=.slice none 0 0):=by cases h;exact⟨by assumption,by assumption,by assumption⟩
theorem Ec{t:Ty}{xs:List t.den}(h:fE w (Eb t w S) v xs):fE w S v xs:=h.mono (λ_ _=>rfl) λ_ hb=>VR hb
theorem Rp.slN_inv{t:Ty}{xs:List t.den}{nl:Bool}(h:Rp w S v (.slN t xs nl)):fE w S v xs/\(nl=false->v≠ .slice none 0 0)/\(nl=true->v=.slice none 0 0):=⟨Ec h.slN_inv'.1,h.slN_inv'.2⟩
theorem Rp.nil_inv(h:Rp w S v .nil):v=.slice none 0 0:=by cases h;rfl
theorem Rp.sl_inv'{t:Ty}{xs:List t.den}(h:Rp w S v (.sl t xs)):fE w (Eb t w S) v xs:=by cases h with|sl _ _ _ h=>exact h
theorem Rp.sl_inv{t:Ty}{xs:List t.den}(h:Rp w S v (.sl t xs)):fE w S v xs:=Ec h.sl_inv'
theorem Rp.mp_inv{k u:Ty}{es:List (k.den×u.den)}(h:Rp w S v (.mp k u es)):∃b,v=.map (some b)/\S b/\zeB w S b k u es:=by cases h with|mp _ _ _ b hb h=>exact⟨b,rfl,hb,h⟩
theorem Rp.agg_inv{cs:AcT}(h:Rp w S v (.agg cs)):∃vs,v=.agg vs/\vs.size=cs.length/\∀i d,cs[i]? =some d->Rp w S (vs.getD i Go.undef) d:=by cases h with|agg vs _ hl h=>exact⟨vs,rfl,hl,h⟩
theorem Rp.tup_inv{cs:AcT}(h:Rp w S v (.tup cs)):∃vs,v=.tuple vs/\vs.size=cs.length/\∀i d,cs[i]? =some d->Rp w S (vs.getD i Go.undef) d:=by cases h with|tup vs _ hl h=>exact⟨vs,rfl,hl,h⟩
theorem Rp.iptr_inv{cs:AcT}{off:Nat}(h:Rp w S v (.iptr cs off)):∃b,v=.pointer (some ⟨b,off,none⟩)/\S b/\∀i d,cs[i]? =some d->∃u,w.cell? ⟨b,i,none⟩=some u/\Rp w S u d:=by
 cases h with|iptr b _ _ vs hb hc h=>exact⟨b,rfl,hb,λi d hd=>⟨vs i,hc i d hd,h i d hd⟩⟩
theorem Rp.elt_inv'{t:Ty}{xs:List t.den}{i off:Nat}(h:Rp w S v (.elt t xs i off)):∃b o c,v=.pointer (some ⟨b,o+i*t.size+off,none⟩)/\i<xs.length/\fE w (Eb t w S) (.slice (some ⟨b,o,none⟩) xs.length c) xs:=by
 cases h with|elt _ _ _ _ b o c hi h=>exact⟨b,o,c,rfl,hi,h⟩
theorem Rp.elt_inv{t:Ty}{xs:List t.den}{i off:Nat}(h:Rp w S v (.elt t xs i off)):∃b o c,v=.pointer (some ⟨b,o+i*t.size+off,none⟩)/\i<xs.length/\fE w S (.slice (some ⟨b,o,none⟩) xs.length c) xs:=by
 obtain⟨b,o,c,e,hi,h⟩:=h.elt_inv';exact⟨b,o,c,e,hi,Ec h⟩
theorem Rp.clo_inv{f:AcM}{rs:Option Ac2}{caps:AcT}(h:Rp w S v (.clo f rs caps)):∃vs,v=.func (.func f) #[] vs/\vs.size=caps.length/\∀i d,caps[i]? =some d->Rp w S (vs.getD i Go.undef) d:=by
 cases h with|clo _ _ _ vs hl h=>exact⟨vs,rfl,hl,h⟩
theorem Rp.ifc_inv{u:Value}(h:Rp w S v (.ifc u)):v=u:=by cases h;rfl
theorem Rp.int_mk{n:Int}(h:xE n):Rp w S (.int .i64 n) (.int .i64 n):=.int _ _ h
theorem Rp.iptr_mk{b off:Nat}{cs:AcT}(hb:S b)(h:∀i d,cs[i]? =some d->∃u,w.cell? ⟨b,i,none⟩=some u/\Rp w S u d):Rp w S (.pointer (some ⟨b,off,none⟩)) (.iptr cs off):=
 .iptr b off cs (λi=>(w.cell? ⟨b,i,none⟩).getD default) hb (λi d hd=>by obtain⟨u,hu,_⟩:=h i d hd;rw[hu];rfl) (λi d hd=>by obtain⟨u,hu,hr⟩:=h i d hd;rw[hu];exact hr)
theorem Ed{α:Type}(R1 R2:xU α){S1 S2:Nat->Prop}{xs:List α}(hs:R1.size=R2.size)(hb:R1.bytes=R2.bytes)(hS:∀b,S1 b->S2 b)(hr:∀cs x,R1.rd w S1 cs x->R2.rd w S2 cs x)
  (h: @fE _ (@xU.list _ R1) w S1 v xs): @fE _ (@xU.list _ R2) w S2 v xs:=by
 obtain⟨cs,e,A,c,e2,h0,h1,h2,h3,h4⟩:=h;refine⟨cs,e,A,c,e2,by rw[<-hb];exact h0,h1,h2,h3,λhn=> ?_⟩
 obtain⟨b,o,e3,hb',hc⟩:=h4 hn;refine⟨b,o,e3,hS b hb',λi x hx=> ?_⟩
 obtain⟨cs,r,hcell⟩:=hc i x hx;exact⟨cs,hr cs x r,by rw[<-hs];exact hcell⟩
theorem zst{k:Bool}{d:D}(h:Rp w (RO k w S) v d):Rp w S v (Ao k d):=by
 cases d<;>try exact h.mono (λ_ _=>rfl) λ_ hb=>hb.1
 case sl t xs=>
  exact .sl (.mk k t) xs v (Ed (Ty.rep t) (xU.mkd k (Ty.rep t)) rfl rfl (λ_ hb=>VR hb) (λcs x r=>(Ty.rep t).mono r (λ_ _=>rfl) λb hb=>zj8 (VR hb)) h.sl_inv')
theorem znp{k:Bool}{d:D}(ho:zcf k d=true)(h:Rp w S v d):Rp w (RO k w S) v (zaI d):=by
 have key:∀ {t u:Ty} {xs:List t.den} {ys:List u.den},xs=[]->ys=[]->fE w (Eb t w S) v xs->Rp w (RO k w S) v (.sl u ys):=by
  intro t u xs ys he he' h;subst he he';obtain⟨cs,e,A,c,e2,h0,h1,h2,h3,h4⟩:=h;exact .sl u [] v ⟨cs,e,A,c,e2,by simp,h1,h2,h3,λhn=>At hn (by simp)⟩
 cases d<;>simp only[zcf,AaR]at ho
 case nil=>rw[h.nil_inv];exact .nil
 case int k n=>obtain⟨rfl,h'⟩:=h.int_inv;exact .int _ _ h'
 case bool b=>rw[h.bool_inv];exact .bool b
 case str s=>obtain⟨rfl,h'⟩:=h.str_inv;exact .str _ h'
 case sl t xs=>
  have h1:=h.sl_inv';cases xs with
  |nil=>cases t<;>exact key rfl rfl h1
  |cons x xs=>
   cases t<;>simp only[zcf,List.isEmpty_cons,AbO,AaR,If,beq_iff_eq]at ho
   case mk k' t=>
    obtain⟨rfl,hb⟩:=ho;refine .sl t _ v ?_;rw[Zp hb];exact Ed (xU.mkd k (Ty.rep t)) (Ty.rep t) rfl rfl (λ_ hb=>hb) (λcs x r=>(Ty.rep t).mono r (λ_ _=>rfl) λb hb=>hb.1) h1
theorem zj9{k:Bool}:∀ {cs:List Value} {ds:AcT},xK (Rp w (RO k w S)) cs ds->xK (Rp w S) cs (ds.map (Ao k))
 |_,_,.nil=> .nil
 |_,_,.cons h hs=> .cons (zst h) (zj9 hs)
theorem zaK{k:Bool}:∀ {cs:List Value} {ds:AcT},ds.all (zcf k)=true->xK (Rp w S) cs ds->xK (Rp w (RO k w S)) cs (ds.map zaI)
 |_,_,_,.nil=> .nil
 |_,_,ho,.cons h hs=>by
  simp only[Abr,If]at ho
  exact .cons (znp ho.1 h) (zaK ho.2 hs)
theorem Oc.sl{t:Ty}{v:Value}{xs:List t.den}(h:Oc w (Eb t w S) [v] xs):Rp w S v (.sl t xs):=.sl t xs v (by
 obtain⟨A,c,rfl,_,h'⟩:=zey h;exact h')
theorem cO:(t:Ty)-> {S:Nat->Prop}-> {x:t.den}-> {cs:List Value}->xU.rd w S cs x->xK (Rp w S) cs (cells t x)
 | .int,S,x,cs,h=>by obtain⟨rfl,h⟩:=h;exact .cons (.int_mk h) .nil
 | .bool,S,x,cs,(h:cs=[.bool x])=>by subst h;exact .cons (.bool x) .nil
 | .str,S,x,cs,h=>by obtain⟨rfl,h⟩:=h;exact .cons (.str x h) .nil
 | .tok,S,x,cs,h=>by obtain⟨rfl,h1,h2,h3⟩:=h;exact .cons (.int_mk h1) (.cons (.int_mk h2) (.cons (.str _ h3) .nil))
 | .lit,S,x,cs,h=>by obtain⟨rfl,h1,h2,h3⟩:=h;exact .cons (.int_mk h1) (.cons (.int_mk h2) (.cons (.int_mk h3) .nil))
 | .var,S,x,cs,h=>by obtain⟨rfl,h1,h2,h3⟩:=h;exact .cons (.str _ h1) (.cons (.int_mk h2) (.cons (.int_mk h3) .nil))
 | .con,S,x,cs,h=>by obtain⟨v1,v2,v3,v4,rfl,a,b,h1,h2,h3,h4⟩:=h;exact .cons (.int_mk a) (.cons (Oc.sl (t:=.int) h1) (.cons (Oc.sl (t:=.int) h2) (.cons (.int_mk b) (.cons (Oc.sl (t:=.list .int) h3) (.cons (Oc.sl (t:=.lit) h4) .nil)))))
 | .mdl,S,x,cs,h=>by obtain⟨v1,v2,rfl,a,b,h1,h2⟩:=h;exact .cons (Oc.sl (t:=.var) h1) (.cons (Oc.sl (t:=.con) h2) (.cons (.int_mk a) (.cons (.int_mk b) .nil)))
 | .step,S,x,cs,h=>by obtain⟨v,rfl,a,b,h1⟩:=h;exact .cons (.int_mk a) (.cons (.int_mk b) (.cons (Oc.sl (t:=.lit) h1) .nil))
 | .term,S,x,cs,h=>by obtain⟨rfl,h1,h2⟩:=h;exact .cons (.int_mk h1) (.cons (.int_mk h2) .nil)
 | .ans,S,x,cs,h=>by obtain⟨v1,v2,rfl,a,h1,h2⟩:=h;exact .cons (.int_mk a) (.cons (Oc.sl (t:=.int) h1) (.cons (Oc.sl (t:=.step) h2) .nil))
 | .list t,S,xs,cs,h=>by obtain⟨A,c,rfl,h⟩:=h;exact .cons (.sl t xs _ ⟨_,rfl,A,c,rfl,h⟩) .nil
 | .pr a b,S,x,cs,h=>by obtain⟨c1,c2,rfl,h1,h2⟩:=h;exact(cO a h1).append (cO b h2)
 | .byte,S,x,cs,(h:cs=[.int .u8 (x.toNat:Int)])=>by subst h;exact .cons (.int _ _ ⟨by omega,by have:=x.toNat_lt;omega⟩) .nil
 | .mk k t,S,x,cs,h=>zj9 (cO (S:=RO k w S) t h)
theorem YO{t:Ty}{d:D}{xs:List t.den}(h:J1 t d=some xs)(hr:Rp w S v d):Oc w (Eb t w S) [v] xs:=by
 cases d<;>simp only[J1]at h
 case sl t' ys=>
  by_cases e:t'=t
  ·subst e;rw[dif_pos rfl]at h;injection h with h;subst h;exact H3 hr.sl_inv'
  ·rw[dif_neg e]at h
   cases t'<;>simp only[zr9,reduceCtorEq]at h
   case mk k t''=>
    cases hb:t''.bare with
    |false=>rw[hb]at h;cases h
    |true=>
     rw[hb,AI]at h
     by_cases e2:t''=t
     ·subst e2;rw[dif_pos rfl]at h;injection h with h;subst h
      rw[Zp hb];exact H3 (Ed (xU.mkd k (Ty.rep t'')) (Ty.rep t'') rfl rfl (λ_ hb=>hb.1) (λcs x r=>(Ty.rep t'').mono r (λ_ _=>rfl) λb hb=>hb.1.1) hr.sl_inv')
     ·rw[dif_neg e2]at h;cases h
 case nil=>
  injection h with h;subst h
  rw[hr.nil_inv];exact⟨none,0,rfl,by simp,by simp,by simp,λ_=>rfl,λhn=>At hn (by simp)⟩
 all_goals cases h
theorem T6{w:World}{S:Nat->Prop}(t:Ty){ds:AcT}{x:t.den}{cs:List Value}(h:ofD t ds=some x)(hr:xK (Rp w S) cs ds):xU.rd w S cs x:=by
 unfold ofD at h
 split at h
 case h_1=>injection h with h;subst h;obtain _|⟨h1,_|_⟩:=hr;obtain⟨rfl,g1⟩:=h1.int_inv;exact⟨rfl,g1⟩
 case h_2=>injection h with h;subst h;obtain _|⟨h1,_|_⟩:=hr;rw[h1.bool_inv];rfl
 case h_3=>injection h with h;subst h;obtain _|⟨h1,_|_⟩:=hr;obtain⟨rfl,g1⟩:=h1.str_inv;exact⟨rfl,g1⟩
 case h_4=>injection h with h;subst h;obtain _|⟨h1,_|⟨h2,_|⟨h3,_|_⟩⟩⟩:=hr;obtain⟨rfl,g1⟩:=h1.int_inv;obtain⟨rfl,g2⟩:=h2.int_inv;obtain⟨rfl,g3⟩:=h3.str_inv;exact⟨rfl,g1,g2,g3⟩
 case h_5=>injection h with h;subst h;obtain _|⟨h1,_|⟨h2,_|⟨h3,_|_⟩⟩⟩:=hr;obtain⟨rfl,g1⟩:=h1.int_inv;obtain⟨rfl,g2⟩:=h2.int_inv;obtain⟨rfl,g3⟩:=h3.int_inv;exact⟨rfl,g1,g2,g3⟩
 case h_6=>injection h with h;subst h;obtain _|⟨h1,_|⟨h2,_|⟨h3,_|_⟩⟩⟩:=hr;obtain⟨rfl,g1⟩:=h1.str_inv;obtain⟨rfl,g2⟩:=h2.int_inv;obtain⟨rfl,g3⟩:=h3.int_inv;exact⟨rfl,g1,g2,g3⟩
 case h_7=>
  obtain _|⟨h1,_|⟨h2,_|⟨h3,_|⟨h4,_|⟨h5,_|⟨h6,_|_⟩⟩⟩⟩⟩⟩:=hr
  obtain⟨rfl,g1⟩:=h1.int_inv;obtain⟨rfl,g4⟩:=h4.int_inv;split at h
  ·rename_i q2 q3 q5 q6;injection h with h;subst h
   exact⟨_,_,_,_,rfl,g1,g4,YO q2 h2,YO q3 h3,YO q5 h5,YO q6 h6⟩
  ·cases h
 case h_8=>
  obtain _|⟨h1,_|⟨h2,_|⟨h3,_|⟨h4,_|_⟩⟩⟩⟩:=hr
  obtain⟨rfl,g3⟩:=h3.int_inv;obtain⟨rfl,g4⟩:=h4.int_inv;split at h
  ·rename_i q1 q2;injection h with h;subst h
   exact⟨_,_,rfl,g3,g4,YO q1 h1,YO q2 h2⟩
  ·cases h
 case h_9=>
  obtain _|⟨h1,_|⟨h2,_|⟨h3,_|_⟩⟩⟩:=hr
  obtain⟨rfl,g1⟩:=h1.int_inv;obtain⟨rfl,g2⟩:=h2.int_inv;split at h
  ·rename_i q1;injection h with h;subst h
   exact⟨_,rfl,g1,g2,YO q1 h3⟩
  ·cases h
 case h_10=>injection h with h;subst h;obtain _|⟨h1,_|⟨h2,_|_⟩⟩:=hr;obtain⟨rfl,g1⟩:=h1.int_inv;obtain⟨rfl,g2⟩:=h2.int_inv;exact⟨rfl,g1,g2⟩
 case h_11=>
  obtain _|⟨h1,_|⟨h2,_|⟨h3,_|_⟩⟩⟩:=hr
  obtain⟨rfl,g1⟩:=h1.int_inv;split at h
  ·rename_i q1 q2;injection h with h;subst h
   exact⟨_,_,rfl,g1,YO q1 h2,YO q2 h3⟩
  ·cases h
 case h_12=>
  obtain _|⟨h1,_|_⟩:=hr
  exact YO h h1
 case h_13 a b=>
  split at h
  ·rename_i x y q1 q2
   injection h with h;subst h
   obtain⟨e1,e2⟩:=hr.split a.size;exact⟨_,_,(AbZ a.size cs).symm,T6 a q1 e1,T6 b q2 e2⟩
  ·cases h
 case h_14 n=>
  injection h with h;subst h
  obtain _|⟨h1,_|_⟩:=hr
  obtain⟨rfl,g1,g2⟩:=h1.int_inv;show _=[_]
  rw[UInt8.toNat_ofNat',Nat.mod_eq_of_lt (by omega),Abj g1]
 case h_15 k t=>
  cases ho:ds.all (zcf k)with
  |false=>rw[ho]at h;cases h
  |true=>
   rw[ho]at h
   exact T6 (S:=RO k w S) t h (zaK ho hr)
 case h_16=>cases h
end
end Go.Proofs.YtdnmkinmcdihnaaGreatDoor
namespace Go.Proofs.YtdnmkinmcdihnaaGreatDoor
open Go.RowKit
variable[Lo]
inductive yE
 |cells (ds:AcT)
 |row (e:AcN) (t:Ty) (xs:List t.den)
 |mp (k v:Ty) (es:List (k.den×v.den))
 |val (ds:AcT)
structure St where
 fr:List (Nat×D)
 hp:List (Nat×yE)
def zW{α:Type}(k:Nat):List (Nat×α)->Option α
 |[]=>none
 |(i,a)::r=>bif Nat.beq i k then some a else zW k r
def D.or:Option D->D
 |some d=>d
 |none=> .undef
def St.get(σ:St)(i:Nat):D:=D.or (zW i σ.fr)
def St.ob(σ:St)(k:Nat):Option yE:=zW k σ.hp
def St.put(σ:St)(i:Nat)(d:D):St:=⟨(i,d)::σ.fr,σ.hp⟩
def St.putO(σ:St):Option Nat->D->St
 |some i,d=>σ.put i d
 |none,_=>σ
def D.ref:D->Option Nat
 | .own k=>some k
 | .ownN k=>some k
 | .ptr k _=>some k
 | .oelt k _ _ _=>some k
 | .clp _ _ k _=>some k
 | .slf k=>some k
 |_=>none
def D.kill(k:Nat)(d:D):D:=match d.ref with
 |some j=>bif Nat.beq j k then .undef else d
 |none=>d
def yE.map(f:D->D):yE->yE
 | .cells ds=> .cells (ds.map f)
 | .val ds=> .val (ds.map f)
 |o=>o
def kM:D->Bool
 | .agg _| .tup _| .undef| .ifc _| .slf _=>false
 |_=>true
def o8:D->Bool
 | .slf _=>true
 | .ifc (.pointer none)=>true
 |_=>false
def cE:AcT->Bool
 |d::_=>o8 d
 |[]=>false
def zeC:List (Nat×Nat):=[(117,2),(119,6)]
def memT:List (Nat×Nat)->Nat->Nat->Bool
 |[],_,_=>false
 |i::r,k,n=>bif Nat.beq i.1 k&&Nat.beq i.2 n then true else memT r k n
def tyC(T:AcN)(ds:AcT):Prop:=cE ds=true->memT zeC T ds.length=true
theorem zgK{f:D->D}(hf:∀d,o8 (f d)=true->o8 d=true):∀ {ds:AcT},cE (ds.map f)=true->cE ds=true
 |[],h=>h
 |d::r,h=>hf d h
theorem Od{f:D->D}(hf:∀d,o8 (f d)=true->o8 d=true){T:AcN}{ds:AcT}(h:tyC T ds):tyC T (ds.map f):=λh'=>by rw[Aae];exact h (zgK hf h')
theorem My{ds:AcT}{i:Nat}{d:D}(h:cE (ds.set i d)=true):cE ds=true\/(i=0/\o8 d=true):=by
 cases ds with
 |nil=>exact .inl h
 |cons a r=>
  cases i with
  |zero=>exact .inr ⟨rfl,h⟩
  |succ i=>exact .inl h
def yE.parts:yE->AcT
 | .cells ds=>ds
 | .val ds=>ds
 |_=>[]
def St.map(f:D->D)(σ:St):St:=⟨σ.fr.map λx=>(x.1,f x.2),σ.hp.map λx=>(x.1,x.2.map f)⟩
def drop{α:Type}(k:Nat):List (Nat×α)->List (Nat×α)
 |[]=>[]
 |(i,a)::r=>bif Nat.beq i k then drop k r else(i,a)::drop k r
def St.mk'(σ:St)(k:Nat)(o:yE):St:=⟨(σ.map (D.kill k)).fr,(k,o)::drop k (σ.map (D.kill k)).hp⟩
def St.setOb(σ:St)(k:Nat)(o:yE):St:=⟨σ.fr,(k,o)::drop k σ.hp⟩
def qD(k:Nat):yE->D->D
 | .cells ds,.ptr j off=>bif Nat.beq j k then .iptr ds off else .ptr j off
 | .row _ t xs,.own j=>bif Nat.beq j k then(bif t.isOd then .undef else .sl t xs)else .own j
 | .row _ t xs,.ownN j=>bif Nat.beq j k then(bif t.isOd then .undef else .slN t xs false)else .ownN j
 | .row _ t xs,.oelt j sz i off=>bif Nat.beq j k then bif Nat.beq sz t.size&& !t.isOd then .elt t xs i off else .undef else .oelt j sz i off
 | .val ds,.own j=>bif Nat.beq j k then .agg ds else .own j
 | .mp kt vt es,.own j=>bif Nat.beq j k then .mp kt vt es else .own j
 |_,d=>d.kill k
def St.pub(σ:St)(k:Nat)(o:yE):St:=⟨(σ.map (qD k o)).fr,drop k (σ.map (qD k o)).hp⟩
section
variable {α:Type}
theorem xA{i k:Nat}:Nat.beq i k=true↔i=k:=Iff.of_eq Nat.beq_eq
theorem xM(k i:Nat)(a:α)(r:List (Nat×α)):zW k ((i,a)::r)=if i=k then some a else zW k r:=by
 show(bif Nat.beq i k then some a else zW k r)=_
 by_cases h:i=k
 ·rw[xA.2 h,AI,As h]
 ·have:Nat.beq i k=false:=by
   cases hb:Nat.beq i k with
   |true=>exact At (xA.1 hb) h
   |false=>rfl
  rw[this,Aag,An h]
theorem lG(f:α->α)(k:Nat):∀l:List (Nat×α),zW k (l.map λx=>(x.1,f x.2))=(zW k l).map f
 |[]=>rfl
 |(i,a)::r=>by
  rw[Aaq,xM,xM,lG f k r];split<;>rfl
theorem pH(k j:Nat):∀l:List (Nat×α),zW j (drop k l)=if k=j then none else zW j l
 |[]=>by simp[drop,zW]
 |(i,a)::r=>by
  show zW j (bif Nat.beq i k then drop k r else(i,a)::drop k r)=_
  cases hb:Nat.beq i k with
  |true=>
   have:=xA.1 hb;subst this;rw[AI,pH i j r,xM];split<;>simp_all
  |false=>
   rw[Aag,xM,xM,pH k j r];have hik:i≠k:=λh=>by rw[xA.2 h]at hb;cases hb
   by_cases h1:i=j
   ·rw[As h1,As h1,An (by omega)]
   ·rw[An h1,An h1]
end
def Rd(w:World)(S:Nat->Prop)(pl:Nat->Value)(v:Value)(d:D):Prop:=
 match d with
 | .own k=>v=pl k
 | .ownN k=>v=pl k/\v≠ .slice none 0 0
 | .ptr k off=>∃b,pl k=.pointer (some ⟨b,0,none⟩)/\v=.pointer (some ⟨b,off,none⟩)
 | .oelt k sz i off=>∃b n c,pl k=.slice (some ⟨b,0,none⟩) n c/\i<n/\v=.pointer (some ⟨b,i*sz+off,none⟩)
 | .slf k=>v=.pointer none\/∃b,pl k=.pointer (some ⟨b,0,none⟩)/\v=.pointer (some ⟨b,0,none⟩)
 | .clp f bd k off=>∃b,pl k=.pointer (some ⟨b,0,none⟩)/\v=.func (.func f) (bif bd then #[.pointer (some ⟨b,off,none⟩)]else #[]) (bif bd then #[]else #[.pointer (some ⟨b,off,none⟩)])
 |d=>Rp w S v d
def sR:Value->Option Nat
 | .pointer (some a)=>some a.block
 | .slice (some a) _ _=>some a.block
 | .map (some b)=>some b
 |_=>none
def lim:Nat:=140737488355328
def jF(w:World)(S:Nat->Prop)(pl:Nat->Value)(p:Value):yE->Prop
 | .cells ds=>∃b vs T,p=.pointer (some ⟨b,0,none⟩)/\w.heap[b]? =some (.cells vs T (0,0))/\vs.size=ds.length/\
   (∀i d,ds[i]? =some d->Rd w S pl (vs.getD i undef) d)/\tyC T ds
 | .row e t xs=>xs.length*t.bytes<=lim/\∃css:List (List Value),css.length=xs.length/\w.ownsRow 0 e t.size p xs.length css.flatten/\(∀cs∈css,cs.length=t.size)/\
   ∀(i:Nat) (x:t.den) (cs:List Value),xs[i]? =some x->css[i]? =some cs->xU.rd w S cs x
 | .mp kt vt es=>∃b,p=.map (some b)/\zeB w S b kt vt es
 | .val ds=>∃vs,p=.agg vs/\vs.size=ds.length/\∀i d,ds[i]? =some d->Rd w S pl (vs.getD i undef) d/\(kM d=true->(vs.getD i undef).oneCell'=true)
def stabK(k:Nat):Bool:=Nat.ble 1000 k&&Nat.blt k 2000
structure Yo where
 w:World
 S:Nat->Prop
 O:Nat->Prop
 pl:Nat->Value
structure rE (B:Nat)(O:Nat->Prop)(w w':World):Prop where
 os:w'.os=w.os
 tape:w'.tape=w.tape
 output:w'.output=w.output
 size:w.heap.size<=w'.heap.size
 block:∀k,k<B->¬O k->w'.heap[k]? =w.heap[k]?
theorem rE.of{B:Nat}{O:Nat->Prop}{w w':World}(h:Below B w w'):rE B O w w':=⟨h.os,h.tape,h.output,h.size,λk hk _=>h.block k hk⟩
theorem rE.trans{B:Nat}{O:Nat->Prop}{a b c:World}(h:rE B O a b)(k:rE B O b c):rE B O a c:=
 ⟨k.os.trans h.os,k.tape.trans h.tape,k.output.trans h.output,Aan h.size k.size,λi hi ho=>(k.block i hi ho).trans (h.block i hi ho)⟩
theorem rE.below{B:Nat}{O:Nat->Prop}{w w':World}(h:rE B O w w')(hO:∀b,¬O b):Below B w w':=⟨h.os,h.tape,h.output,h.size,λk hk=>h.block k hk (hO k)⟩
def Ee(P:AcO)(w:World)(O:Nat->Prop):Prop:=(∀g,P.globalNamed "internal/strconv.uint64pow10" =some g->Lib.TabIs P w "internal/strconv.uint64pow10" .u64 Lib.pow10Tab/\¬O g)/\(∀b,w.heap.size<=b->Lo.new b)/\∀b,O b->Lo.new b
theorem Ee.step{P:AcO}{w w':World}{O O':Nat->Prop}(h:Ee P w O)(hb:rE w.heap.size O w w')(hO:∀b,O' b->O b\/w.heap.size<=b):Ee P w' O':=⟨λg hg=>by
 obtain⟨h1,h2⟩:=h.1 g hg
 have hlt:g<w.heap.size:=by
  rcases AaP g w.heap.size with hl|hl
  ·exact hl
  ·unfold Lib.TabIs World.var? at h1
   rw[hg]at h1
   simp only[Abk,AbD hl]at h1
   cases h1
 refine⟨?_,λho=>(hO g ho).elim h2 λhge=>by omega⟩
 unfold Lib.TabIs World.var? at h1⊢
 rw[hg]at h1⊢
 simp only[Abk]at h1⊢
 rw[hb.block g hlt h2];exact h1,λb hge=>h.2.1 b (Aan hb.size hge),λb hb'=>(hO b hb').elim (h.2.2 b) λhge=>h.2.1 b hge⟩
theorem Ee.sub{P:AcO}{w:World}{O O':Nat->Prop}(h:Ee P w O)(hO:∀b,O' b->O b):Ee P w O':=⟨λg hg=>⟨(h.1 g hg).1,λho=>(h.1 g hg).2 (hO g ho)⟩,h.2.1,λb hb=>h.2.2 b (hO b hb)⟩
structure tF (P:AcO)(b0:Yo)(N:Nat)(σ:St)(a:Act)(w:World)(S:Nat->Prop)(pl:Nat->Value):Prop where
 dz:a.defers=[]
 sz:a.tmps.size=N
 fr:∀i,Rd w S pl (a.tmps.getD i undef) (σ.get i)
 hp:∀k o,zW k σ.hp=some o->jF w S pl (pl k) o
 lt:∀b,S b->b<w.heap.size
 src:∀b,S b->b0.S b\/b0.O b\/b0.w.heap.size<=b
 priv:∀k o b,zW k σ.hp=some o->sR (pl k)=some b->(b0.O b\/b0.w.heap.size<=b)/\b<w.heap.size/\¬S b
 inj:∀k k' o o' b,zW k σ.hp=some o->zW k' σ.hp=some o'->sR (pl k)=some b->sR (pl k')=some b->k=k'
 below:rE b0.w.heap.size b0.O b0.w w
 stay:∀k,stabK k=true->pl k=b0.pl k
 gok:Ee P b0.w b0.O
theorem tF.gnow{P:AcO}{b0:Yo}{N:Nat}{σ:St}{a:Act}{w:World}{S:Nat->Prop}{pl:Nat->Value}(m:tF P b0 N σ a w S pl){O:Nat->Prop}(hO:∀b,O b->b0.O b\/b0.w.heap.size<=b):Ee P w O:=m.gok.step m.below hO
theorem Oe{k:Nat}{d:D}(h:kM (d.kill k)=true):kM d=true:=by
 cases d<;>first|rfl|exact h|(simp only[D.kill,D.ref]at h;revert h;cases Nat.beq _ k<;>exact id)
theorem J3{k:Nat}{d:D}(h:o8 (d.kill k)=true):o8 d=true:=by
 cases d<;>first|rfl|exact h|(simp only[D.kill,D.ref]at h;revert h;cases Nat.beq _ k<;>exact id)
theorem D.kill_ne{k:Nat}{d:D}(h:d.ref≠some k):d.kill k=d:=by
 unfold D.kill;cases hr:d.ref with
 |none=>rfl
 |some j=>
  simp only;cases hb:Nat.beq j k with
  |true=>rw[hr,xA.1 hb]at h;exact At rfl h
  |false=>rfl
theorem D.kill_eq{k:Nat}{d:D}(h:d.ref=some k):d.kill k=.undef:=by
 unfold D.kill;rw[h];simp only[xA.2 (rfl:k=k),AI]
section
variable {P:AcO}{b0:Yo}{w w':World}{S S':Nat->Prop}{pl pl':Nat->Value}{N:Nat}{σ:St}{a:Act}{v:Value}{d:D}
theorem Rd.flat(h:Rd w S pl v d)(hd:d.ref=none):Rp w S v d:=by
 cases d<;>first|exact h|(simp[D.ref]at hd)
theorem Rp.rd(h:Rp w S v d):Rd w S pl v d:=by
 cases d<;>first|exact h|cases h
theorem Rd.mono(h:Rd w S pl v d)(hk:∀b,S b->w'.heap[b]? =w.heap[b]?)(hS:∀b,S b->S' b)(hp:∀k,d.ref=some k->pl' k=pl k):Rd w' S' pl' v d:=by
 cases hr:d.ref with
 |none=>exact((h.flat hr).mono hk hS).rd
 |some k=>
  have hp:=hp k hr;cases d<;>simp only[D.ref,Option.some.injEq,reduceCtorEq]at hr
  all_goals subst hr;simp only[Rd]at h⊢;rw[hp];exact h
theorem Rd.kill(h:Rd w S pl v d)(k:Nat):Rd w S pl v (d.kill k):=by
 by_cases hr:d.ref=some k
 ·rw[D.kill_eq hr];exact Rp.rd (.undef v)
 ·rw[D.kill_ne hr];exact h
theorem WK(d:D)(k:Nat):(d.kill k).ref≠some k:=by
 by_cases hr:d.ref=some k
 ·rw[D.kill_eq hr];simp[D.ref]
 ·rw[D.kill_ne hr];exact hr
theorem tD:Rd w S pl v .undef:=Rp.rd (.undef v)
theorem jF.mono{p:Value}{o:yE}(h:jF w S pl p o)(hk:∀b,S b->w'.heap[b]? =w.heap[b]?)(hb:∀b,sR p=some b->w'.heap[b]? =w.heap[b]?)(hS:∀b,S b->S' b)
  (hp:∀d k,d∈o.parts->d.ref=some k->pl' k=pl k):jF w' S' pl' p o:=by
 cases o with
 |cells ds=>
  obtain⟨b,vs,T,rfl,h1,h2,h3,h4⟩:=h;exact⟨b,vs,T,rfl,by rw[hb b rfl];exact h1,h2,λi d hd=>(h3 i d hd).mono hk hS λk hr=>hp d k (AaS hd) hr,h4⟩
 |val ds=>
  obtain⟨vs,rfl,h2,h3⟩:=h;exact⟨vs,rfl,h2,λi d hd=>⟨(h3 i d hd).1.mono hk hS λk hr=>hp d k (AaS hd) hr,(h3 i d hd).2⟩⟩
 |row e t xs=>
  obtain⟨h0,css,h1,h2,h3,h4⟩:=h;refine⟨h0,css,h1,⟨h2.1,?_⟩,h3,λi x cs hx hc=>xU.mono (h4 i x cs hx hc) hk hS⟩
  rcases h2.2 with hn|⟨g,cap,cur,rfl,hb',hg,rest⟩
  ·exact .inl hn
  ·exact .inr ⟨g,cap,cur,rfl,hb',by rw[hb g rfl];exact hg,rest⟩
 |mp kt vt es=>
  obtain⟨b,rfl,h⟩:=h;exact⟨b,rfl,h.mono hk (hb b rfl) hS⟩
theorem St.get_put(σ:St)(i j:Nat)(d:D):(σ.put i d).get j=if i=j then d else σ.get j:=by
 unfold St.get St.put;rw[xM];split<;>rfl
theorem St.get_map(f:D->D)(hf:f .undef=.undef)(σ:St)(i:Nat):(σ.map f).get i=f (σ.get i):=by
 unfold St.get St.map;rw[lG];cases zW i σ.fr<;>simp[D.or,hf]
theorem tF.put(m:tF P b0 N σ a w S pl){i:Nat}(hi:i<N)(h:Rd w S pl v d):tF P b0 N (σ.put i d) {a with tmps:=a.tmps.setIfInBounds i v} w S pl where
 dz:=m.dz
 sz:=by simpa using m.sz
 fr:=λj=>by
  rw[St.get_put]
  by_cases hj:i=j
  ·subst hj;rw[As rfl];rw[Aaj];simpa[m.sz,hi]using h
  ·rw[An hj,Aaj,AcG hj,<-Aaj];exact m.fr j
 hp:=m.hp
 lt:=m.lt
 src:=m.src
 priv:=m.priv
 inj:=m.inj
 below:=m.below
 stay:=m.stay
 gok:=m.gok
theorem tF.putO(m:tF P b0 N σ a w S pl){dst:Option Nat}(hi:∀i,dst=some i->i<N)(h:Rd w S pl v d):tF P b0 N (σ.putO dst d) (a.put dst v) w S pl:=by
 cases dst with
 |none=>exact m
 |some i=>exact m.put (hi i rfl) h
theorem tF.world(m:tF P b0 N σ a w S pl)(hS:∀b,S b->w'.heap[b]? =w.heap[b]?)(hP:∀k o b,zW k σ.hp=some o->sR (pl k)=some b->w'.heap[b]? =w.heap[b]?)
  (hs:w.heap.size<=w'.heap.size) (hb:rE b0.w.heap.size b0.O b0.w w'):tF P b0 N σ a w' S pl where
 dz:=m.dz
 sz:=m.sz
 fr:=λi=>(m.fr i).mono hS (λ_ h=>h) λ_ _=>rfl
 hp:=λk o h=>(m.hp k o h).mono hS (λb hb=>hP k o b h hb) (λ_ h=>h) λ_ _ _ _=>rfl
 lt:=λb h=>Aaz (m.lt b h) hs
 src:=m.src
 priv:=λk o b h h'=>⟨(m.priv k o b h h').1,Aaz (m.priv k o b h h').2.1 hs,(m.priv k o b h h').2.2⟩
 inj:=m.inj
 below:=hb
 stay:=m.stay
 gok:=m.gok
theorem tF.later(m:tF P b0 N σ a w S pl)(hb:Below w.heap.size w w'):tF P b0 N σ a w' S pl:=
 m.world (λb h=>hb.block b (m.lt b h)) (λk o b h h'=>hb.block b (m.priv k o b h h').2.1) hb.size (m.below.trans (.of (hb.mono m.below.size)))
theorem tF.more(m:tF P b0 N σ a w S pl)(hS:∀b,S b->S' b)(h1:∀b,S' b->b<w.heap.size)(h2:∀b,S' b->b0.S b\/b0.O b\/b0.w.heap.size<=b)(h3:∀k o b,zW k σ.hp=some o->sR (pl k)=some b->¬S' b):tF P b0 N σ a w S' pl where
 dz:=m.dz
 sz:=m.sz
 fr:=λi=>(m.fr i).mono (λ_ _=>rfl) hS λ_ _=>rfl
 hp:=λk o h=>(m.hp k o h).mono (λ_ _=>rfl) (λ_ _=>rfl) hS λ_ _ _ _=>rfl
 lt:=h1
 src:=h2
 priv:=λk o b h h'=>⟨(m.priv k o b h h').1,(m.priv k o b h h').2.1,h3 k o b h h'⟩
 inj:=m.inj
 below:=m.below
 stay:=m.stay
 gok:=m.gok
theorem fM{α:Type}{k:Nat}{o:α}:∀ {l:List (Nat×α)},zW k l=some o->(k,o)∈l
 |[],h=>by cases h
 |(i,x)::r,h=>by
  rw[xM]at h
  split at h
  ·rename_i e;injection h with h;subst h e;exact Aaa
  ·exact Aac _ (fM h)
theorem tF.mk'(m:tF P b0 N σ a w S pl)(k:Nat)(hst:stabK k=false)(o:yE)(p:Value)(hlater:Below w.heap.size w w')(hp:∀b,sR p=some b->w.heap.size<=b/\b<w'.heap.size)
  (ho:∀pl':Nat->Value,(∀j,j≠k->pl' j=pl j)->jF w' S pl' p o):tF P b0 N (σ.mk' k o) a w' S (λj=>if j=k then p else pl j):=by
 have m':=m.later hlater;have hne:∀j,j≠k->(λj=>if j=k then p else pl j) j=pl j:=λj hj=>An hj
 have hold:∀j o',zW j (σ.mk' k o).hp=some o'->j≠k->∃o₀,zW j σ.hp=some o₀/\o'=o₀.map (D.kill k):=by
  intro j o' h hj;simp only[St.mk',xM,pH,An (Ne.symm hj)]at h
  simp only[St.map,lG]at h
  cases ho:zW j σ.hp with
  |none=>rw[ho]at h;cases h
  |some o₀=>rw[ho]at h;injection h with h;exact⟨o₀,rfl,h.symm⟩
 refine⟨m.dz,m.sz,λi=> ?_,λj o' h=> ?_,m'.lt,m'.src,λj o' b h hb=> ?_,λj j' o1 o2 b h1 h2 hb1 hb2=> ?_,m'.below,λj hj=>(hne j λe=>by rw[e,hst]at hj;cases hj).trans (m.stay j hj),m.gok⟩
 ·have e:(σ.mk' k o).get i=(σ.get i).kill k:=by
   show D.or (zW i (σ.map (D.kill k)).fr)=_
   exact St.get_map _ rfl σ i
  rw[e];exact((m'.fr i).kill k).mono (λ_ _=>rfl) (λ_ h=>h) λj hj=>hne j λe=>WK _ _ (e▸hj)
 ·by_cases hj:j=k
  ·subst hj
   simp only[St.mk',xM,As]at h
   injection h with h;subst h
   rw[As rfl];exact ho _ hne
  ·obtain⟨o₀,h0,rfl⟩:=hold j o' h hj
   rw[An hj];have h1:=m'.hp j o₀ h0;cases o₀ with
   |row e t xs=>exact jF.mono (pl:=pl) h1 (λ_ _=>rfl) (λ_ _=>rfl) (λ_ h=>h) λ_ _ e=>by cases e
   |mp kt vt es=>exact jF.mono (pl:=pl) h1 (λ_ _=>rfl) (λ_ _=>rfl) (λ_ h=>h) λ_ _ e=>by cases e
   |val ds=>
    obtain⟨vs,e1,e3,e4⟩:=h1;refine⟨vs,e1,by simpa using e3,λi d hd=> ?_⟩
    simp only[Aaw,AaD]at hd
    obtain⟨d0,hd0,rfl⟩:=hd;exact⟨((e4 i d0 hd0).1.kill k).mono (λ_ _=>rfl) (λ_ h=>h) λj hj=>hne j λe=>WK _ _ (e▸hj),λhc=>(e4 i d0 hd0).2 (Oe hc)⟩
   |cells ds=>
    obtain⟨b,vs,T,e1,e2,e3,e4,e5⟩:=h1;refine⟨b,vs,T,e1,e2,by simpa using e3,λi d hd=> ?_,Od (λ_=>J3) e5⟩
    simp only[Aaw,AaD]at hd
    obtain⟨d0,hd0,rfl⟩:=hd;exact((e4 i d0 hd0).kill k).mono (λ_ _=>rfl) (λ_ h=>h) λj hj=>hne j λe=>WK _ _ (e▸hj)
 ·by_cases hj:j=k
  ·rw[As hj]at hb
   obtain⟨hb1,hb2⟩:=hp b hb;exact⟨.inr (Aan m.below.size hb1),hb2,λhs=>by have:=m.lt b hs;omega⟩
  ·rw[An hj]at hb
   obtain⟨o₀,h0,_⟩:=hold j o' h hj;exact m'.priv j o₀ b h0 hb
 ·by_cases hj:j=k<;>by_cases hj':j'=k
  ·rw[hj,hj']
  ·rw[As hj]at hb1;rw[An hj']at hb2
   obtain⟨o₀,h0,_⟩:=hold j' o2 h2 hj';have:=(m.priv j' o₀ b h0 hb2).2.1;have:=(hp b hb1).1;omega
  ·rw[An hj]at hb1;rw[As hj']at hb2
   obtain⟨o₀,h0,_⟩:=hold j o1 h1 hj;have:=(m.priv j o₀ b h0 hb1).2.1;have:=(hp b hb2).1;omega
  ·rw[An hj]at hb1;rw[An hj']at hb2
   obtain⟨p1,h1',_⟩:=hold j o1 h1 hj;obtain⟨p2,h2',_⟩:=hold j' o2 h2 hj';exact m.inj j j' p1 p2 b h1' h2' hb1 hb2
end
end Go.Proofs.YtdnmkinmcdihnaaGreatDoor
namespace Go.Proofs.YtdnmkinmcdihnaaGreatDoor
open Go.RowKit
variable[Lo]
def yE.flat:yE->Prop
 | .cells ds=>∀d∈ds,d.ref=none
 | .row _ _ _=>True
 | .mp _ _ _=>True
 | .val ds=>∀d∈ds,d.ref=none
def St.forget(σ:St)(k:Nat):St:=⟨(σ.map (D.kill k)).fr,drop k (σ.map (D.kill k)).hp⟩
def Ng(pl:Nat->Value)(k:Nat)(p:Value):Nat->Value:=λj=>if j=k then p else pl j
section
variable {P:AcO}{b0:Yo}{w w':World}{S S':Nat->Prop}{pl pl':Nat->Value}{N:Nat}{σ:St}{a:Act}{v:Value}{d:D}
theorem Og{p:Value}{e:AcN}{t:Ty}{xs:List t.den}(h:jF w S pl p (.row e t xs)):fE w (λb=>S b\/sR p=some b) p xs:=by
 obtain⟨h0,css,h3,h4,h5,h6⟩:=h;rcases h4.2 with⟨rfl,hn⟩|⟨g,cap,cur,rfl,_,hg,hcap,hmax,hcur,htake⟩
 ·obtain rfl:=Abq hn
  exact⟨[.slice none 0 0],rfl,none,0,rfl,by simp,by simp,by simp,λ_=>rfl,λhn=>At hn (by simp)⟩
 ·refine⟨[_],rfl,some ⟨g,0,none⟩,cap,rfl,by rw[<-Ty.bytes_eq];exact h0,hcap,hmax,(λe=>by cases e),λhn=> ?_⟩
  refine⟨g,0,rfl,.inr rfl,λi x hx=> ?_⟩
  have hi:i<xs.length:=(AaB.1 hx).1;have hc:css[i]? =some (css[i]'(by omega)):=Aal (by omega)
  refine⟨_,xU.mono (h6 i x _ hx hc) (λ_ _=>rfl) (λb hb=> .inl hb),λj u hu=> ?_⟩
  have hf:=Ea css h5 i j _ u hc hu;have:=h4.cells (g:=g) rfl _ _ hf;rw[<-this,Ty.size_eq];unfold Addr.add;split
  ·rename_i e;simp[e]
  ·simp
theorem fN{j k:Nat}(h:j≠k):Nat.beq j k=false:=by
 cases hb:Nat.beq j k with
 |true=>exact At (xA.1 hb) h
 |false=>rfl
theorem LJ{k:Nat}{o:yE}{d:D}(h:d.ref≠some k):qD k o d=d:=by
 cases d
 case own j=>have hb:=fN (λe:j=k=>h (by rw[e];rfl));cases o<;>simp[qD,D.kill,D.ref,hb]
 case ptr j off=>have hb:=fN (λe:j=k=>h (by rw[e];rfl));cases o<;>simp[qD,D.kill,D.ref,hb]
 case oelt j sz i off=>have hb:=fN (λe:j=k=>h (by rw[e];rfl));cases o<;>simp[qD,D.kill,D.ref,hb]
 case ownN j=>have hb:=fN (λe:j=k=>h (by rw[e];rfl));cases o<;>simp[qD,D.kill,D.ref,hb]
 case slf j=>have hb:=fN (λe:j=k=>h (by rw[e];rfl));cases o<;>simp[qD,D.kill,D.ref,hb]
 case clp f bd j off=>have hb:=fN (λe:j=k=>h (by rw[e];rfl));cases o<;>simp[qD,D.kill,D.ref,hb]
 all_goals cases o<;>rfl
theorem zeD{k:Nat}{o:yE}{d:D}(h:kM (qD k o d)=true):kM d=true:=by
 cases d<;>first|rfl|(cases o<;>first|exact h|exact Oe h)
theorem zeE{k:Nat}{o:yE}{d:D}(h:o8 (qD k o d)=true):o8 d=true:=by
 cases d<;>first|rfl|(cases o<;>first|exact h|exact J3 h|(simp only[qD]at h;revert h;cases Nat.beq _ k<;>first|exact id|exact λh=>(by cases h)|(rw[AI];cases Ty.isOd _<;>exact λh=>(by cases h))|(rw[AI];cases(Nat.beq _ _&& !Ty.isOd _)<;>exact λh=>(by cases h))))
theorem znq{p:Value}{e:AcN}{t:Ty}{xs:List t.den}(h:jF w S pl p (.row e t xs)){b:Nat}(hb:sR p=some b):VQ w b:=by
 obtain⟨_,css,_,h2,_⟩:=h;rcases h2.2 with hn|⟨g,cap,cur,rfl,_,hg,_⟩
 ·rw[hn.1]at hb;cases hb
 ·injection hb with hb;subst hb;exact⟨cur,e,hg⟩
theorem Qq{p:Value}{e:AcN}{t:Ty}{xs:List t.den}(h:jF w S pl p (.row e t xs))(hlo:∀b,sR p=some b->Lo.new b)(hod:t.isOd=false):fE w (Eb t w (λb=>S b\/sR p=some b)) p xs:=by
 cases t
 case mk k t0=>
  cases k
  case false=>cases hod
  have h':jF w (RO true w S) pl p (.row e (.fr t0) xs):=by
   obtain⟨h0,css,h1,h2,h3,h4⟩:=h;exact⟨h0,css,h1,h2,h3,λi x cs hx hc=>(Ty.rep t0).mono (h4 i x cs hx hc) (λ_ _=>rfl) λ_ hb=>zj8 hb⟩
  exact(Og h').mono (λ_ _=>rfl) λb hb=>hb.elim (λhb=>⟨.inl hb.1,hb.2⟩) λhb=>⟨.inr hb,hlo b hb,znq h hb⟩
 all_goals exact Og h
theorem Oh{k:Nat}{o:yE}(hlo:∀b,sR (pl k)=some b->Lo.new b)(ho:jF w S pl (pl k) o)(hf:o.flat)(h:Rd w S pl v d):Rd w (λb=>S b\/sR (pl k)=some b) pl v (qD k o d):=by
 by_cases hr:d.ref=some k
 ·cases o with
  |cells ds=>
   obtain⟨b,vs,T,e1,e2,e3,e4,_⟩:=ho;cases d<;>simp only[D.ref,Option.some.injEq,reduceCtorEq]at hr
   case ptr j off=>
    subst hr;simp only[qD,xA.2 (rfl:j=j),AI];obtain⟨b',e1',rfl⟩:=h;rw[e1]at e1'
    injection e1' with e1';injection e1' with e1';injection e1' with e1';subst e1'
    refine Rp.rd (Rp.iptr_mk (.inr (by rw[e1];rfl)) λi d hd=> ?_)
    have hi:i<vs.size:=by rw[e3];exact(AaB.1 hd).1
    refine⟨vs.getD i undef,?_,((e4 i d hd).flat (hf d (AaS hd))).mono (λ_ _=>rfl) λ_ h=> .inl h⟩
    rw[cell_of_row w b i vs T (0,0) e2];simp[Aaj,hi]
   all_goals
    subst hr;simp only[qD];rw[D.kill_eq rfl];exact tD
  |row e t xs=>
   have hv:=Og ho;have hv':=λhod=>Qq ho hlo hod
   cases d<;>simp only[D.ref,Option.some.injEq,reduceCtorEq]at hr
   case own j=>
    subst hr;simp only[qD,xA.2 (rfl:j=j),AI];have h:v=pl j:=h;rw[h];cases hod:t.isOd with
    |true=>exact tD
    |false=>exact Rp.rd (.sl t xs _ (hv' hod))
   case ownN j=>
    subst hr;simp only[qD,xA.2 (rfl:j=j),AI];have h:v=pl j/\v≠ .slice none 0 0:=h;cases hod:t.isOd with
    |true=>exact tD
    |false=>
     rw[h.1];exact Rp.rd (.slN t xs _ _ (hv' hod) (λ_=>by rw[<-h.1];exact h.2) λe=>by cases e)
   case oelt j sz i off=>
    subst hr;simp only[qD,xA.2 (rfl:j=j),AI];obtain⟨b,n,c,e1,hi,rfl⟩:=h;cases hz:(Nat.beq sz t.size&& !t.isOd)with
    |false=>exact tD
    |true=>
     rw[If]at hz
     have hv:=hv' (by simpa using hz.2)
     rw[AI,xA.1 hz.1];obtain⟨A,c',e2,_⟩:=sM hv;rw[e1]at e2
     injection e2 with e2 e3 e4
     subst e3;rw[e1]at hv
     have:=Rp.elt (w:=w) (S:=λb=>S b\/sR (pl j)=some b) t xs i off b 0 c hi (by rw[e1];exact hv)
     rw[Aat]at this
     exact Rp.rd this
   all_goals
    subst hr;simp only[qD];rw[D.kill_eq rfl];exact tD
  |val ds=>
   obtain⟨vs,e1,e3,e4⟩:=ho;cases d<;>simp only[D.ref,Option.some.injEq,reduceCtorEq]at hr
   case own j=>
    subst hr;simp only[qD,xA.2 (rfl:j=j),AI];have h:v=pl j:=h;rw[h,e1];exact Rp.rd (.agg vs ds e3 λi d hd=>((e4 i d hd).1.flat (hf d (AaS hd))).mono (λ_ _=>rfl) λ_ h=> .inl h)
   all_goals
    subst hr;simp only[qD];rw[D.kill_eq rfl];exact tD
  |mp kt vt es=>
   obtain⟨b,e1,hm⟩:=ho;cases d<;>simp only[D.ref,Option.some.injEq,reduceCtorEq]at hr
   case own j=>
    subst hr;simp only[qD,xA.2 (rfl:j=j),AI];have h:v=pl j:=h;rw[h,e1];exact Rp.rd (.mp kt vt es b (.inr rfl) (hm.mono (λ_ _=>rfl) rfl λ_ h=> .inl h))
   all_goals
    subst hr;simp only[qD];rw[D.kill_eq rfl];exact tD
 ·rw[LJ hr]
  exact h.mono (λ_ _=>rfl) (λ_ h=> .inl h) λ_ _=>rfl
theorem tF.lo(m:tF P b0 N σ a w S pl){k:Nat}{o:yE}(h:zW k σ.hp=some o):∀b,sR (pl k)=some b->Lo.new b:=λb hb=>
 (m.priv k o b h hb).1.elim (m.gok.2.2 b) λh=>m.gok.2.1 b h
theorem tF.pub(m:tF P b0 N σ a w S pl){k:Nat}{o:yE}(h:zW k σ.hp=some o)(hf:o.flat):tF P b0 N (σ.pub k o) a w (λb=>S b\/sR (pl k)=some b) pl:=by
 have ho:=m.hp k o h;have hlo:=m.lo h
 have hold:∀j o',zW j (σ.pub k o).hp=some o'->j≠k/\∃o₀,zW j σ.hp=some o₀/\o'=o₀.map (qD k o):=by
  intro j o' h'
  by_cases hj:j=k
  ·subst hj;simp[St.pub,pH]at h'
  ·refine⟨hj,?_⟩
   simp only[St.pub,pH,An (Ne.symm hj),St.map,lG]at h'
   cases ho:zW j σ.hp with
   |none=>rw[ho]at h';cases h'
   |some o₀=>rw[ho]at h';injection h' with h';exact⟨o₀,rfl,h'.symm⟩
 have hu:qD k o .undef=.undef:=by cases o<;>rfl
 refine⟨m.dz,m.sz,λi=> ?_,λj o' h'=> ?_,λb hb=> ?_,λb hb=> ?_,λj o' b h' hb=> ?_,λj j' o1 o2 b h1 h2 hb1 hb2=> ?_,m.below,m.stay,m.gok⟩
 ·have e:(σ.pub k o).get i=qD k o (σ.get i):=St.get_map _ hu σ i
  rw[e];exact Oh hlo ho hf (m.fr i)
 ·obtain⟨hj,o₀,h0,rfl⟩:=hold j o' h'
  have h1:=m.hp j o₀ h0;cases o₀ with
  |row e t xs=>exact h1.mono (λ_ _=>rfl) (λ_ _=>rfl) (λ_ h=> .inl h) λ_ _ e=>by cases e
  |mp kt vt es=>exact h1.mono (λ_ _=>rfl) (λ_ _=>rfl) (λ_ h=> .inl h) λ_ _ e=>by cases e
  |val ds=>
   obtain⟨vs,e1,e3,e4⟩:=h1;refine⟨vs,e1,by simpa using e3,λi d hd=> ?_⟩
   simp only[Aaw,AaD]at hd
   obtain⟨d0,hd0,rfl⟩:=hd;exact⟨Oh hlo ho hf (e4 i d0 hd0).1,λhc=>(e4 i d0 hd0).2 (zeD hc)⟩
  |cells ds=>
   obtain⟨b,vs,T,e1,e2,e3,e4,e5⟩:=h1;refine⟨b,vs,T,e1,e2,by simpa using e3,λi d hd=> ?_,Od (λ_=>zeE) e5⟩
   simp only[Aaw,AaD]at hd
   obtain⟨d0,hd0,rfl⟩:=hd;exact Oh hlo ho hf (e4 i d0 hd0)
 ·rcases hb with hb|hb
  ·exact m.lt b hb
  ·exact(m.priv k o b h hb).2.1
 ·rcases hb with hb|hb
  ·exact m.src b hb
  ·exact .inr (m.priv k o b h hb).1
 ·obtain⟨hj,o₀,h0,_⟩:=hold j o' h'
  have:=m.priv j o₀ b h0 hb;refine⟨this.1,this.2.1,λhs=> ?_⟩
  rcases hs with hs|hs
  ·exact this.2.2 hs
  ·exact hj (m.inj j k o₀ o b h0 h hb hs)
 ·obtain⟨_,p1,h1',_⟩:=hold j o1 h1
  obtain⟨_,p2,h2',_⟩:=hold j' o2 h2;exact m.inj j j' p1 p2 b h1' h2' hb1 hb2
theorem tF.setOb(m:tF P b0 N σ a w S pl){k b:Nat}{o o':yE}(h:zW k σ.hp=some o)(hb:sR (pl k)=some b)(hh:∀c,c≠b->w'.heap[c]? =w.heap[c]?)(hs:w'.heap.size=w.heap.size)
  (hw:w'.os=w.os/\w'.tape=w.tape/\w'.output=w.output) (ho:jF w' S pl (pl k) o'):tF P b0 N (σ.setOb k o') a w' S pl:=by
 have hp:=m.priv k o b h hb;have hS:∀c,S c->w'.heap[c]? =w.heap[c]? :=λc hc=>hh c λe=>hp.2.2 (e▸hc)
 have hold:∀j o1,zW j (σ.setOb k o').hp=some o1->j≠k->zW j σ.hp=some o1:=by
  intro j o1 h1 hj;simpa only[St.setOb,xM,pH,An (Ne.symm hj)]using h1
 have hsome:∀j o1,zW j (σ.setOb k o').hp=some o1->∃o2,zW j σ.hp=some o2:=by
  intro j o1 h1
  by_cases hj:j=k
  ·subst hj;exact⟨o,h⟩
  ·exact⟨o1,hold j o1 h1 hj⟩
 refine⟨m.dz,m.sz,λi=>(m.fr i).mono hS (λ_ h=>h) λ_ _=>rfl,λj o1 h1=> ?_,λc hc=>by rw[hs];exact m.lt c hc,m.src,λj o1 c h1 hc=> ?_,λj j' o1 o2 c h1 h2 hc1 hc2=> ?_,?_,m.stay,m.gok⟩
 ·by_cases hj:j=k
  ·subst hj
   simp only[St.setOb,xM,As]at h1
   injection h1 with h1;subst h1;exact ho
  ·have h0:=hold j o1 h1 hj
   exact(m.hp j o1 h0).mono hS (λc hc=>hh c λe=>hj (m.inj j k o1 o c h0 h hc (e▸hb))) (λ_ h=>h) λ_ _ _ _=>rfl
 ·obtain⟨o2,h2⟩:=hsome j o1 h1
  have:=m.priv j o2 c h2 hc;exact⟨this.1,by rw[hs];exact this.2.1,this.2.2⟩
 ·obtain⟨p1,h1'⟩:=hsome j o1 h1
  obtain⟨p2,h2'⟩:=hsome j' o2 h2;exact m.inj j j' p1 p2 c h1' h2' hc1 hc2
 ·exact⟨hw.1.trans m.below.os,hw.2.1.trans m.below.tape,hw.2.2.trans m.below.output,by rw[hs];exact m.below.size,λc hc ho=>(hh c (by rintro rfl;rcases hp.1 with h1|h1;exact ho h1;omega)).trans (m.below.block c hc ho)⟩
theorem tF.forget(m:tF P b0 N σ a w S pl)(k:Nat):tF P b0 N (σ.forget k) a w S pl:=by
 have hold:∀j o',zW j (σ.forget k).hp=some o'->j≠k/\∃o₀,zW j σ.hp=some o₀/\o'=o₀.map (D.kill k):=by
  intro j o' h'
  by_cases hj:j=k
  ·subst hj;simp[St.forget,pH]at h'
  ·refine⟨hj,?_⟩
   simp only[St.forget,pH,An (Ne.symm hj),St.map,lG]at h'
   cases ho:zW j σ.hp with
   |none=>rw[ho]at h';cases h'
   |some o₀=>rw[ho]at h';injection h' with h';exact⟨o₀,rfl,h'.symm⟩
 refine⟨m.dz,m.sz,λi=> ?_,λj o' h'=> ?_,m.lt,m.src,λj o' b h' hb=> ?_,λj j' o1 o2 b h1 h2 hb1 hb2=> ?_,m.below,m.stay,m.gok⟩
 ·have e:(σ.forget k).get i=(σ.get i).kill k:=St.get_map _ rfl σ i
  rw[e];exact(m.fr i).kill k
 ·obtain⟨hj,o₀,h0,rfl⟩:=hold j o' h'
  have h1:=m.hp j o₀ h0;cases o₀ with
  |row e t xs=>exact h1
  |mp kt vt es=>exact h1
  |val ds=>
   obtain⟨vs,e1,e3,e4⟩:=h1;refine⟨vs,e1,by simpa using e3,λi d hd=> ?_⟩
   simp only[Aaw,AaD]at hd
   obtain⟨d0,hd0,rfl⟩:=hd;exact⟨(e4 i d0 hd0).1.kill k,λhc=>(e4 i d0 hd0).2 (Oe hc)⟩
  |cells ds=>
   obtain⟨b,vs,T,e1,e2,e3,e4,e5⟩:=h1;refine⟨b,vs,T,e1,e2,by simpa using e3,λi d hd=> ?_,Od (λ_=>J3) e5⟩
   simp only[Aaw,AaD]at hd
   obtain⟨d0,hd0,rfl⟩:=hd;exact(e4 i d0 hd0).kill k
 ·obtain⟨_,o₀,h0,_⟩:=hold j o' h'
  exact m.priv j o₀ b h0 hb
 ·obtain⟨_,p1,h1',_⟩:=hold j o1 h1
  obtain⟨_,p2,h2',_⟩:=hold j' o2 h2;exact m.inj j j' p1 p2 b h1' h2' hb1 hb2
theorem zgL(σ:St)(k:Nat):(∀i,((σ.forget k).get i).ref≠some k)/\zW k (σ.forget k).hp=none/\∀j o d,zW j (σ.forget k).hp=some o->d∈o.parts->d.ref≠some k:=by
 refine⟨λi=> ?_,by simp[St.forget,pH],λj o d h hd=> ?_⟩
 ·have e:(σ.forget k).get i=(σ.get i).kill k:=St.get_map _ rfl σ i
  rw[e];exact WK _ _
 ·by_cases hj:j=k
  ·subst hj;simp[St.forget,pH]at h
  ·simp only[St.forget,pH,An (Ne.symm hj),St.map,lG]at h
   cases ho:zW j σ.hp with
   |none=>rw[ho]at h;cases h
   |some o₀=>
    rw[ho]at h;injection h with h
    subst h;cases o₀ with
    |row e t xs=>cases hd
    |mp kt vt es=>cases hd
    |cells ds0=>
     obtain⟨d0,_,rfl⟩:=OF.1 hd;exact WK _ _
    |val ds0=>
     obtain⟨d0,_,rfl⟩:=OF.1 hd;exact WK _ _
theorem tF.grow(m:tF P b0 N σ a w S pl){k:Nat}(hst:stabK k=false){o o':yE}(h:zW k σ.hp=some o)(p:Value)(hg:w.grownBy w' (sR (pl k)))(hat:∀b,sR p=some b->sR (pl k)=some b\/(w.heap.size<=b/\b<w'.heap.size))
  (ho:jF w' S (Ng pl k p) p o'):tF P b0 N (σ.mk' k o') a w' S (Ng pl k p):=by
 have mf:=m.forget k;obtain⟨r1,r2,r3⟩:=zgL σ k;have hkeep:∀c,c<w.heap.size->sR (pl k)≠some c->w'.heap[c]? =w.heap[c]? :=λc hc hne=>hg.block c hc λe=>hne e.symm
 have hS:∀c,S c->w'.heap[c]? =w.heap[c]? :=λc hc=>hkeep c (m.lt c hc) λe=>(m.priv k o c h e).2.2 hc
 have holdk:∀j o1,zW j (σ.forget k).hp=some o1->j≠k/\∃o2,zW j σ.hp=some o2:=by
  intro j o1 h1
  by_cases hj:j=k
  ·subst hj;rw[r2]at h1;cases h1
  ·refine⟨hj,?_⟩
   simp only[St.forget,pH,An (Ne.symm hj),St.map,lG]at h1
   cases ho:zW j σ.hp with
   |none=>rw[ho]at h1;cases h1
   |some o₀=>exact⟨o₀,rfl⟩
 have hbelow:rE b0.w.heap.size b0.O b0.w w':=⟨hg.os.trans m.below.os,hg.tape.trans m.below.tape,hg.output.trans m.below.output,Aan m.below.size hg.size,λc hc hO=>by
  refine(hkeep c (Aaz hc m.below.size) λe=> ?_).trans (m.below.block c hc hO)
  rcases(m.priv k o c h e).1 with h1|h1
  ·exact hO h1
  ·omega⟩
 have mw:tF P b0 N (σ.forget k) a w' S pl:=mf.world hS (λj o1 b h1 hb=>by
  obtain⟨hj,o2,h2⟩:=holdk j o1 h1;exact hkeep b (m.priv j o2 b h2 hb).2.1 λe=>hj (m.inj j k o2 o b h2 h hb e)) hg.size hbelow
 have e1:∀i,(σ.mk' k o').get i=(σ.forget k).get i:=λi=>rfl
 have e2:∀j,zW j (σ.mk' k o').hp=if k=j then some o' else zW j (σ.forget k).hp:=λj=>xM j k o' _
 refine⟨m.dz,m.sz,λi=> ?_,λj o1 h1=> ?_,mw.lt,mw.src,λj o1 b h1 hb=> ?_,λj j' o1 o2 b h1 h2 hb1 hb2=> ?_,hbelow,λj hj=>(show Ng pl k p j=pl j from An λe=>by rw[e,hst]at hj;cases hj).trans (m.stay j hj),m.gok⟩
 ·rw[e1]
  exact(mw.fr i).mono (λ_ _=>rfl) (λ_ h=>h) λj hj=>An (λe:j=k=>r1 i (hj.trans (by rw[e])))
 ·rw[e2]at h1
  by_cases hj:k=j
  ·subst hj;rw[As rfl]at h1;injection h1 with h1;subst h1
   rw[show Ng pl k p k=p from As rfl];exact ho
  ·rw[An hj]at h1
   rw[show Ng pl k p j=pl j from An (Ne.symm hj)]
   exact(mw.hp j o1 h1).mono (λ_ _=>rfl) (λ_ _=>rfl) (λ_ h=>h) λd i hd hr=>An (λei:i=k=>r3 j o1 d h1 hd (hr.trans (by rw[ei])))
 ·rw[e2]at h1
  by_cases hj:k=j
  ·subst hj
   rw[show Ng pl k p k=p from As rfl]at hb
   rcases hat b hb with hb|hb
   ·have:=m.priv k o b h hb
    exact⟨this.1,Aaz this.2.1 hg.size,this.2.2⟩
   ·exact⟨.inr (Aan m.below.size hb.1),hb.2,λhs=>by have:=m.lt b hs;omega⟩
  ·rw[An hj]at h1
   rw[show Ng pl k p j=pl j from An (Ne.symm hj)]at hb
   exact mw.priv j o1 b h1 hb
 ·rw[e2]at h1 h2
  have key:∀j o1,k≠j->zW j (σ.forget k).hp=some o1->sR (pl j)=some b->sR p=some b->False:=by
   intro j o1 hj h1 hb1 hb2;obtain⟨hjk,o2,h2⟩:=holdk j o1 h1;rcases hat b hb2 with hb|hb
   ·exact hjk (m.inj j k o2 o b h2 h hb1 hb)
   ·have:=(m.priv j o2 b h2 hb1).2.1;omega
  by_cases hj:k=j<;>by_cases hj':k=j'
  ·rw[<-hj,<-hj']
  ·rw[An hj']at h2
   rw[show Ng pl k p j'=pl j' from An (Ne.symm hj')]at hb2
   subst hj;rw[show Ng pl k p k=p from As rfl]at hb1
   exact(key j' o2 hj' h2 hb2 hb1).elim
  ·rw[An hj]at h1
   rw[show Ng pl k p j=pl j from An (Ne.symm hj)]at hb1
   subst hj';rw[show Ng pl k p k=p from As rfl]at hb2
   exact(key j o1 hj h1 hb1 hb2).elim
  ·rw[An hj]at h1;rw[An hj']at h2
   rw[show Ng pl k p j=pl j from An (Ne.symm hj)]at hb1
   rw[show Ng pl k p j'=pl j' from An (Ne.symm hj')]at hb2
   exact mw.inj j j' o1 o2 b h1 h2 hb1 hb2
theorem tF.newS(m:tF P b0 N σ a w S pl)(o:Obj):tF P b0 N σ a (w.alloc o) (λb=>S b\/b=w.heap.size) pl:=
 (m.later (w':=w.alloc o) ((Below.refl _ _).alloc (IN _) o)).more (λ_ h=> .inl h)
  (λb h=>by
   have hs:(w.alloc o).heap.size=w.heap.size+1:=by simp
   rcases h with h|rfl
   ·have:=m.lt b h;omega
   ·omega)
  (λb h=>by
   rcases h with h|rfl
   ·exact m.src b h
   ·exact .inr (.inr m.below.size))
  (λk o' b h hb hs=>by
   have:=m.priv k o' b h hb;rcases hs with hs|rfl
   ·exact this.2.2 hs
   ·omega)
end
end Go.Proofs.YtdnmkinmcdihnaaGreatDoor
namespace Go.Proofs.YtdnmkinmcdihnaaGreatDoor
open Go.RowKit
variable[Lo]
structure zcg where
 tys:Ac2
 nils:List (Nat×(Nat×(AcN×Ty))):=[]
 datas:List (Nat×Nat):=[]
 res:AcT->(Nat->Option yE)->Option (D×List (Nat×yE))
 raw:Bool:=false
structure TE where
 zs:List (AcN×(Bool×AcT))
 sl:List (AcN×(AcN×Ty))
 fld:List (AcN×List (Nat×Nat))
 strs:List AcN
 ints:List (AcN×IntKind)
 bools:List AcN
 sig:List (AcM×Ac2)
 mps:List (AcN×(Ty×Ty)):=[]
 sts:List (AcN×Ty):=[]
 hsig:List (AcM×zcg):=[]
 vals:List AcN:=[]
 arr:List AcN:=[]
 nilq:Bool:=true
 thr:List AcM:=[]
 sp:List (AcM×Ty):=[]
structure xF where
 own:AcZ
 live:List (Nat×(AcZ×AcZ))
 n:Nat
 q:Nat:=12
 nils:List (Nat×(Nat×(AcN×Ty))):=[]
 pubs:List (Nat×Nat):=[]
 nn:AcZ:=[]
 first:Bool:=false
 clp:Bool:=false
 tdraw:Bool:=false
 nz:List (Nat×(Nat×(AcN×Ty))):=[]
 keep:AcZ×AcZ:=([],[])
 ae:Option (AcZ×AcZ):=none
def sH(k:Nat):AcZ->Bool
 |[]=>false
 |i::r=>bif Nat.beq i k then true else sH k r
def zT(b:Bool)(A B:Prop):Prop:=match b with
 |true=>A
 |false=>B
def yU(n:Int):Int:=IntKind.i64.wrap n
def ofV:Value->D
 | .int .i64 n=>bif decide (-9223372036854775808<=n)&&decide (n<=9223372036854775807)then .int .i64 n else .undef
 | .int .u8 n=>bif decide (0<=n)&&decide (n<=255)then .int .u8 n else .undef
 | .bool b=> .bool b
 | .string s=>bif Nat.ble s.size 140737488355328 then .str s else .undef
 | .slice none 0 0=> .nil
 |_=> .undef
def St.ev(σ:St):Operand->D
 | .tmp t=>σ.get t
 | .const v=>ofV v
 | .func f=> .clo f none []
 | .global _=> .undef
def zch:AcT->Option (List Value)
 |[]=>some []
 | .int k n::r=>match zch r with
  |some l=>some (.int k n::l)
  |none=>none
 |_=>none
def zaL:D->Option Value
 | .agg ds=>match zch ds with
  |some l=>some (.agg l.toArray)
  |none=>none
 |_=>none
def Mz(E:TE)(T:AcN):D->D
 | .nil=>match zW T E.sl with
  |some (_,t)=> .sl t []
  |none=> .nil
 | .slN t xs _=> .sl t xs
 |d=>d
def gS(A:xF):Option Nat->Option Nat
 |some k=>bif sH k A.own&& !stabK k then some k else none
 |none=>none
theorem eQ{A:xF}{d:Option Nat}{k:Nat}(h:gS A d=some k):stabK k=false:=by
 unfold gS at h
 split at h
 ·rename_i j
  cases hb:sH j A.own&& !stabK j with
  |false=>rw[hb]at h;cases h
  |true=>
   rw[hb]at h;injection h with h;subst h
   simp only[If,Aa1]at hb
   exact hb.2
 ·cases h
def Zq(σ:St):D->Option AcT
 | .agg cs=>some cs
 | .tup _=>none
 | .undef=>none
 | .ifc _=>none
 | .own k=>match σ.ob k with
  |some (.val ds)=>some ds
  |some _=>some [.own k]
  |none=>none
 | .ownN k=>match σ.ob k with
  |some (.row _ _ _)=>some [.ownN k]
  |_=>none
 |d=>some [d]
def dU(d:D):Bool:=match d.ref with
 |none=>true
 |some _=>false
def Qr(ds:AcT)(off:Nat)(new:AcT):AcT:=ds.take off++new++ds.drop (off+new.length)
def cP:AcT->Option Nat
 |[]=>none
 |d::r=>match d.ref with
  |some k=>some k
  |none=>cP r
def VS(σ:St):Nat->Nat->Nat
 |0,k=>k
 |n+1,k=>match σ.ob k with
  |some (.cells ds)=>match cP ds with
   |some j=>VS σ n j
   |none=>k
  |some (.val ds)=>match cP ds with
   |some j=>VS σ n j
   |none=>k
  |_=>k
def yE.flatB:yE->Bool
 | .cells ds=>ds.all dU
 | .row _ _ _=>true
 | .mp _ _ _=>true
 | .val ds=>ds.all dU
def pubs:Nat->St->AcT->Option (St×AcT)
 |0,_,_=>none
 |n+1,σ,ds=>match cP ds with
  |none=>some (σ,ds)
  |some k0=>
   let k:=VS σ 4 k0
   match σ.ob k with
   |some o=>bif o.flatB then pubs n (σ.pub k o) (ds.map (qD k o))else none
   |none=>none
def rA(q:Nat)(σ:St)(ds:AcT)(K:AcT->St->Prop):Prop:=match pubs q σ ds with
 |some (σ',ds')=>K ds' σ'
 |none=>False
def aM(σ:St):D->Option AcT
 | .ptr k off=>match σ.ob k with
  |some (.cells ds)=>some (ds.drop off)
  |_=>none
 | .iptr cs off=>some (cs.drop off)
 | .elt t xs i off=>some ((cells t (xs.getD i t.dflt)).drop off)
 | .oelt k sz i off=>match σ.ob k with
  |some (.row _ t xs)=>bif Nat.beq sz t.size then some ((cells t (xs.getD i t.dflt)).drop off)else none
  |_=>none
 |_=>none
def wW(n:Int)(len:Nat):Bool:=decide (0<=n)&&decide (n<(len:Int))
def Nh(l h:Int)(len:Nat):Bool:=decide (0<=l)&&decide (l<=h)&&decide (h<=(len:Int))
def yX(t:Ty)(n:Nat):Bool:=decide (n*t.bytes<=140737488355328)
def lU(s:AcL)(i:Nat):Int:=((s.data.getD i 0).toNat:Int)
def zsb(A:xF):Option Nat->Bool
 |some k=>sH k A.nn
 |none=>false
def Ef(σ:St):D->Bool
 | .ptr k off=>match σ.ob k with
  |some (.cells ds)=>(match ds[off]? with
   |some (.slN _ _ _)=>true
   |_=>false)
  |_=>false
 |_=>false
def zlC(b:Bool)(new:AcT)(K:AcT->Prop):Prop:=match b with
 |true=>(match new with
  |[.sl t xs]=>xs≠[]/\K [.slN t xs false]
  |new=>K new)
 |false=>K new
def zeF(E:TE)(A:xF)(o:Oper)(d:D)(σ:St)(K:D->St->Prop):Prop:=match d with
 | .nil=>match zW o.type E.sl with
  |some (e,t)=>match gS A o.dst with
   |some k=>K (.own k) (σ.mk' k (.row e t []))
   |none=>K (bif zsb A o.dst then .slN t [] true else .sl t []) σ
  |none=>K .nil σ
 |d=>K d σ
def Di(E:TE)(A:xF)(o:Oper)(T:AcN)(σ:St)(K:D->St->Prop):Prop:=match zW T E.zs with
 |some (_,cs)=>match gS A o.dst with
  |some k=>K (.ptr k 0) (σ.mk' k (.cells cs))
  |none=>K (.iptr cs 0) σ
 |none=>False
def znr(k:Nat)(d:D):Bool:=match d.ref with
 |some j=>Nat.beq j k
 |none=>false
def zci(k:Nat)(T:AcN)(cs:AcT):Bool:=cs.any (znr k)||(cE cs&& !memT zeC T cs.length)
def zns(E:TE)(A:xF)(o:Oper)(T:AcN)(x:D)(σ:St)(K:D->St->Prop):Prop:=
 match Zq σ (Mz E T x)with
 |some cs=>match gS A o.dst with
  |some k=>bif zci k T cs then False else K (.ptr k 0) (σ.mk' k (.cells cs))
  |none=>rA A.q σ cs λcs σ=>K (.iptr cs 0) σ
 |none=>False
def zka(E:TE)(A:xF)(T:AcN)(x:D)(σ:St)(K:D->St->Prop):Prop:=match zW T E.zs with
 |some (ag,zs)=>match aM σ x with
  |some cs=>bif Nat.ble zs.length cs.length then
    match ag with
    |true=>rA A.q σ (cs.take zs.length) λcs σ=>K (.agg cs) σ
    |false=>match cs with
     |d::_=>K d σ
     |[]=>False
   else False
  |none=>False
 |none=>False
def zcj(E:TE)(A:xF)(T:AcN)(x y:D)(σ:St)(K:D->St->Prop):Prop:=match zW T E.zs with
 |some (_,zs)=>match Zq σ (Mz E T y)with
  |none=>False
  |some new=>zlC (Ef σ x) new λnew=>bif Nat.beq new.length zs.length&&new.all kM then
   match x with
   | .ptr k off=>match σ.ob k with
    |some (.cells ds)=>bif Nat.ble (off+new.length) ds.length then K .undef (σ.setOb k (.cells (Qr ds off new)))else False
    |_=>False
   | .oelt k sz i off=>rA A.q σ new λnew σ=>match σ.ob k with
    |some (.row e t xs)=>bif Nat.beq sz t.size then
      match ofD t (Qr (cells t (xs.getD i t.dflt)) off new)with
      |some z=>bif Nat.ble (off+new.length) t.size then K .undef (σ.setOb k (.row e t (xs.set i z)))else False
      |none=>False
     else False
    |_=>False
   |_=>False
  else False
 |none=>False
def znt(E:TE)(op:BinOp)(T:AcN)(x y:D)(K:D->Prop):Prop:=match x,y with
 | .int .i64 a,.int .i64 b=>match op with
  | .add=>K (.int .i64 (yU (a+b)))
  | .sub=>K (.int .i64 (yU (a-b)))
  | .mul=>K (.int .i64 (yU (a*b)))
  | .quo=>b≠0/\K (.int .i64 (yU (a.tdiv b)))
  | .rem=>b≠0/\K (.int .i64 (a.tmod b))
  | .eql=>K (.bool (decide (a=b)))
  | .neq=>K (.bool (!decide (a=b)))
  | .lss=>K (.bool (decide (a<b)))
  | .leq=>K (.bool (decide (a<=b)))
  | .gtr=>K (.bool (decide (b<a)))
  | .geq=>K (.bool (decide (b<=a)))
  |_=>False
 | .int .u8 a,.int .u8 b=>match op with
  | .eql=>K (.bool (decide (a=b)))
  | .neq=>K (.bool (!decide (a=b)))
  | .lss=>K (.bool (decide (a<b)))
  | .leq=>K (.bool (decide (a<=b)))
  | .gtr=>K (.bool (decide (b<a)))
  | .geq=>K (.bool (decide (b<=a)))
  |_=>False
 | .str a,.str b=>match op with
  | .eql=>K (.bool (decide (a=b)))
  | .neq=>K (.bool (!decide (a=b)))
  | .add=>a.size+b.size<=140737488355328/\K (.str (a++b))
  |_=>False
 | .bool a,.bool b=>bif sH T E.bools then(match op with
   | .eql=>K (.bool (a==b))
   | .neq=>K (.bool (!(a==b)))
   |_=>False)
  else False
 |_,_=>False
def teq:(t:Ty)->t.den->t.den->Bool
 | .lit,a,b=>decide (a=b)
 | .var,a,b=>decide (a=b)
 | .tok,a,b=>decide (a=b)
 |_,_,_=>false
def eqK(op:BinOp)(b:Bool)(K:D->Prop):Prop:=match op with
 | .eql=>K (.bool b)
 | .neq=>K (.bool (!b))
 |_=>False
def ztJ(op:BinOp)(e:Prop)(K:D->Prop):Prop:=∀b:Bool,(b=true->e)->eqK op b K
def VT(E:TE)(T:AcN):Bool:=match zW T E.sl with
 |some _=>true
 |none=>false
def zeG(E:TE)(op:BinOp)(T:AcN)(x y:D)(σ:St)(K:D->Prop):Prop:=match x,y with
 | .agg xs,.agg ys=>match zW T E.sts with
  |some t=>match ofD t xs,ofD t ys with
   |some a,some b=>eqK op (teq t a b) K
   |_,_=>False
  |none=>False
 | .slN _ _ nl,.nil=>bif E.nilq&&VT E T then eqK op nl K else False
 | .sl _ xs,.nil=>bif E.nilq&&VT E T then ztJ op (xs=[]) K else False
 | .nil,.nil=>bif E.nilq&&VT E T then eqK op true K else False
 | .own k,.nil=>match σ.ob k with
  |some (.row _ _ xs)=>bif E.nilq&&VT E T then ztJ op (xs=[]) K else False
  |_=>False
 |x,y=>znt E op T x y K
def MA:(t:Ty)->t.den->t.den->Bool
 | .int,a,b=>decide (a=b)
 | .str,a,b=>decide (a=b)
 | .pr .int .int,a,b=>decide (a.1=b.1)&&decide (a.2=b.2)
 |_,_,_=>false
def rB(kt vt:Ty)(x:kt.den)(y:vt.den):List (kt.den×vt.den)->List (kt.den×vt.den)
 |[]=>[(x,y)]
 |(a,b)::r=>bif MA kt x a then(a,y)::r else(a,b)::rB kt vt x y r
def sU(kt vt:Ty)(x:kt.den):List (kt.den×vt.den)->Option vt.den
 |[]=>none
 |(a,b)::r=>bif MA kt x a then some b else sU kt vt x r
def kC(kt vt:Ty)(x:kt.den)(es:List (kt.den×vt.den)):vt.den:=(sU kt vt x es).getD vt.dflt
def MB(kt vt:Ty)(x:kt.den)(es:List (kt.den×vt.den)):Bool:=(sU kt vt x es).isSome
def LK(n:Nat):Bool:=decide (n<=140737488355328)
def Qs(E:TE)(A:xF)(o:Oper)(T:AcN)(σ:St)(K:D->St->Prop):Prop:=match zW T E.mps with
 |some (k,v)=>match gS A o.dst with
  |some j=>K (.own j) (σ.mk' j (.mp k v []))
  |none=>K (.mp k v []) σ
 |none=>False
def zqc:(t:Ty)->D->Option t.den
 | .int,.int .i64 n=>some n
 | .str,.str s=>some s
 | .pr .int .int,.agg [.int .i64 a,.int .i64 b]=>some (a,b)
 |_,_=>none
def T7(E:TE)(A:xF)(T:AcN)(m x y:D)(σ:St)(K:D->St->Prop):Prop:=match zW T E.mps,m with
 |some (kt0,vt0),.own j=>rA A.q σ [y] λds σ=>match σ.ob j with
   |some (.mp kt vt es)=>bif decide (kt=kt0)&&decide (vt=vt0)then
     match zqc kt x,ofD vt ds with
     |some a,some b=>LK (es.length+1)=true/\K .undef (σ.setOb j (.mp kt vt (rB kt vt a b es)))
     |_,_=>False
    else False
   |_=>False
 |_,_=>False
def zaM(σ:St):D->Option (Σ (p:Ty×Ty),List (p.1.den×p.2.den))
 | .mp kt vt es=>some ⟨(kt,vt),es⟩
 | .own j=>match σ.ob j with
  |some (.mp kt vt es)=>some ⟨(kt,vt),es⟩
  |_=>none
 |_=>none
def Eg(E:TE)(T:AcN)(m x:D)(ok:Bool)(σ:St)(K:D->Prop):Prop:=match zW T E.mps,zaM σ m with
 |some (kt0,vt0),some ⟨(kt,vt),es⟩=>bif decide (kt=kt0)&&decide (vt=vt0)then
   match zqc kt x with
   |some a=>match ok with
    |true=>K (.tup [Yn vt (kC kt vt a es),.bool (MB kt vt a es)])
    |false=>K (Yn vt (kC kt vt a es))
   |none=>False
  else False
 |_,_=>False
def unD(op:UnOp)(x:D)(K:D->Prop):Prop:=match op,x with
 | .not,.bool b=>K (.bool (!b))
 | .neg,.int .i64 n=>K (.int .i64 (yU (0-n)))
 |_,_=>False
def zkc(E:TE)(src dst:AcN)(x:D)(K:D->Prop):Prop:=match zW src E.ints with
 |some _=>(match zW dst E.ints,x with
  |some .i64,.int _ n=>K (.int .i64 (yU n))
  |some .u8,.int _ n=>K (.int .u8 (IntKind.u8.wrap n))
  |_,_=>False)
 |none=>(match zW src E.sl,x with
  |some (e,.byte),.sl .byte xs=>(match zW e E.ints,sH dst E.strs with
   |some .u8,true=>K (.str ⟨xs.toArray⟩)
   |_,_=>False)
  |_,_=>False)
def Yp(σ:St)(dflt:Int):Option Operand->Option Int
 |none=>some dflt
 |some x=>match σ.ev x with
  | .int .i64 n=>some n
  |_=>none
def zck(E:TE)(A:xF)(T:AcN)(x:D)(σ:St)(lo hi:Option Operand)(K:D->St->Prop):Prop:=
 match x with
 | .str s=>bif sH T E.strs then(match Yp σ 0 lo,Yp σ s.size hi with
  |some l,some h=>Nh l h s.size=true/\K (.str (s.extract l.toNat h.toNat)) σ
  |_,_=>False)else False
 |x=>rA A.q σ [x] λds σ=>match ds with
  |[.sl t xs]=>match zW T E.sl,Yp σ 0 lo,Yp σ xs.length hi with
   |some (_,t'),some l,some h=>bif Nat.beq t'.size t.size then(Nh l h xs.length=true/\K (.sl t ((xs.take h.toNat).drop l.toNat)) σ)else False
   |_,_,_=>False
  |_=>False
def zcl(E:TE)(T:AcN)(f:Nat):Option Nat:=match zW T E.fld with
 |some offs=>match offs[f]? with
  |some (off,_)=>some off
  |none=>none
 |none=>none
def Dj(E:TE)(T:AcN)(x:D)(f:Nat)(K:D->Prop):Prop:=match zcl E T f with
 |some d=>match x with
  | .ptr k off=>K (.ptr k (off+d))
  | .iptr cs off=>K (.iptr cs (off+d))
  | .elt t xs i off=>K (.elt t xs i (off+d))
  | .oelt k sz i off=>K (.oelt k sz i (off+d))
  |_=>False
 |none=>False
def T9(E:TE)(T:AcN)(x ix:D)(σ:St)(K:D->Prop):Prop:=match zW T E.sl with
 |some (_,t')=>match ix with
  | .int _ n=>match x with
   | .sl t xs=>bif Nat.beq t'.size t.size then(wW n xs.length=true/\K (.elt t xs n.toNat 0))else False
   | .own k=>match σ.ob k with
    |some (.row _ t xs)=>bif Nat.beq t'.size t.size then(wW n xs.length=true/\K (.oelt k t.size n.toNat 0))else False
    |_=>False
   |_=>False
  |_=>False
 |none=>False
def zcm(E:TE)(T:AcN)(x ix:D)(K:D->Prop):Prop:=match x,ix with
 | .str s,.int _ n=>bif sH T E.strs then(wW n s.size=true/\K (.int .u8 (lU s n.toNat)))else False
 |_,_=>False
def LL(x:D)(i:Nat)(K:D->Prop):Prop:=match x with
 | .tup ds=>match ds[i]? with
  |some d=>K d
  |none=>False
 |_=>False
def Oi(σ:St)(d:D)(z:Option D):Option AcT:=match d,z with
 | .nil,some (.sl t _)=>some [.sl t []]
 | .slN t xs _,_=>some [.sl t xs]
 |d,_=>Zq σ d
def NZ(σ:St)(place:Nat->Option (Nat×Nat)):AcT->List (Nat×Operand)->Option AcT
 |ds,[]=>some ds
 |ds,(f,x)::r=>match place f with
  |some (off,sz)=>
   match Oi σ (σ.ev x) ds[off]? with
   |some new=>bif Nat.beq new.length sz&&Nat.ble (off+sz) ds.length then NZ σ place (Qr ds off new) r else none
   |none=>none
  |none=>none
def zlD:Option Nat->Nat
 |some k=>k
 |none=>0
def zcn:Option Nat->Bool
 |some k=> !stabK k
 |none=>false
def zco(E:TE)(T:AcN):Option (Nat->Option (Nat×Nat)):=bif sH T E.arr then some (λi=>some (i,1))else match zW T E.fld with
 |some offs=>some λi=>offs[i]?
 |none=>none
def Dk(E:TE)(A:xF)(o:Oper)(T:AcN)(parts:List (Nat×Operand))(σ:St)(K:D->St->Prop):Prop:=match zW T E.zs,zco E T with
 |some (true,zs),some pf=>match NZ σ pf zs parts with
  |some ds=>bif sH T E.vals&&zcn o.dst then K (.own (zlD o.dst)) (σ.mk' (zlD o.dst) (.val (ds.map (D.kill (zlD o.dst)))))else rA A.q σ ds λds σ=>K (.agg ds) σ
  |none=>False
 |_,_=>False
def elems(t:Ty):Nat->AcT->Option (List t.den)
 |0,_=>some []
 |n+1,ds=>match ofD t (ds.take t.size),elems t n (ds.drop t.size)with
  |some x,some xs=>some (x::xs)
  |_,_=>none
def Xn(E:TE)(A:xF)(o:Oper)(T:AcN)(len:Nat)(parts:List (Nat×Operand))(σ:St)(K:D->St->Prop):Prop:=match zW T E.sl with
 |some (e,t)=>
  bif yX t len&&Nat.ble (len*t.size) 16777216 then match NZ σ (λi=>some (i*t.size,t.size)) (List.replicate len (cells t t.dflt)).flatten parts with
  |some ds=>rA A.q σ ds λds σ=>match elems t len ds with
    |some xs=>match gS A o.dst with
     |some k=>K (bif sH k A.nn then .ownN k else .own k) (σ.mk' k (.row e t xs))
     |none=>K (bif t.isOd then .undef else .sl t xs) σ
    |none=>False
  |none=>False
  else False
 |none=>False
def zqd(E:TE)(T:AcN)(x:D)(σ:St)(K:D->Prop):Prop:=match x with
 | .str s=>bif sH T E.strs then K (.int .i64 (s.size:Int))else False
 | .nil=>match zW T E.sl with
  |some _=>K (.int .i64 0)
  |none=>False
 | .mp _ _ es=>match zW T E.mps with
  |some _=>K (.int .i64 (es.length:Int))
  |none=>False
 | .sl t xs=>match zW T E.sl with
  |some _=>K (.int .i64 (xs.length:Int))
  |none=>False
 | .own k=>match σ.ob k with
  |some (.row _ t xs)=>(match zW T E.sl with
   |some _=>K (.int .i64 (xs.length:Int))
   |none=>False)
  |some (.mp _ _ es)=>(match zW T E.mps with
   |some _=>K (.int .i64 (es.length:Int))
   |none=>False)
  |_=>False
 |_=>False
def Ty.plain:Ty->Bool
 | .int| .bool| .str| .tok| .lit| .var| .term| .byte=>true
 |_=>false
def ztK:(t t':Ty)->List t'.den->Option (List t.den)
 | .mk _ t0,t',ys=>if h:t'=t0 then bif t0.plain then some (h▸(show List t'.den from ys))else none else none
 |t,.mk _ t1,ys=>if h:t1=t then some (h▸(show List t1.den from ys))else none
 |_,_,_=>none
def zqe(t t':Ty)(ys:List t'.den):Option (List t.den):=if h:t'=t then some (h▸ys)else ztK t t' ys
def H4(σ:St)(k:Nat)(t:Ty):D->Option (List t.den)
 | .nil=>some []
 | .sl t' ys=>zqe t t' ys
 | .own j=>bif Nat.beq j k then none else match σ.ob j with
  |some (.row _ t' ys)=>zqe t t' ys
  |_=>none
 |_=>none
def zsv(E:TE)(T' e:AcN)(t':Ty)(x y:D)(σ:St)(K:D->St->Prop):Prop:=match sH T' E.strs with
 |true=>(match t',x,y with
  | .byte,.own k,.str s=>(match σ.ob k with
   |some (.row e' .byte xs)=>bif Nat.beq e e'&& !stabK k then yX .byte (xs.length+s.size)=true/\K (.own k) (σ.mk' k (.row e .byte (xs++s.data.toList)))else False
   |_=>False)
  |_,_,_=>False)
 |false=>False
def Eh(E:TE)(A:xF)(o:Oper)(T T':AcN)(x:D)(y:Operand)(σ:St)(K:D->St->Prop):Prop:=match zW T E.sl with
 |some (e,t')=>bif Nat.beq T T' then(match x with
  | .own k=>match σ.ob k with
   |some (.row e' t xs)=>bif Nat.beq e e'&&Nat.beq t'.size t.size&&Nat.beq t'.bytes t.bytes&& !stabK k then(match H4 σ k t (σ.ev y)with
    |some ys=>yX t (xs.length+ys.length)=true/\K (.own k) (σ.mk' k (.row e t (xs++ys)))
    |none=>False)else False
   |_=>False
  | .ownN k=>match σ.ob k with
   |some (.row e' t xs)=>bif Nat.beq e e'&&Nat.beq t'.size t.size&&Nat.beq t'.bytes t.bytes&& !stabK k then(match H4 σ k t (σ.ev y)with
    |some ys=>bif Nat.blt 0 ys.length then yX t (xs.length+ys.length)=true/\K (.ownN k) (σ.mk' k (.row e t (xs++ys)))else False
    |none=>False)else False
   |_=>False
  | .nil=>match gS A o.dst with
   |some k=>match H4 (σ.mk' k (.row e t' [])) k t' ((σ.mk' k (.row e t' [])).ev y)with
    |some ys=>yX t' ys.length=true/\K (.own k) ((σ.mk' k (.row e t' [])).mk' k (.row e t' ys))
    |none=>False
   |none=>False
  |_=>False)else zsv E T' e t' x (σ.ev y) σ K
 |none=>False
def zqf(x y:D)(K:D->Prop):Prop:=match x,y with
 | .int .i64 a,.int .i64 b=>K (.int .i64 (if b>a then b else a))
 |_,_=>False
def WL(E:TE)(A:xF)(o:Oper)(T:AcN)(l c:D)(σ:St)(K:D->St->Prop):Prop:=match zW T E.sl with
 |some (e,t)=>match l,c with
  | .int .i64 n,.int .i64 m=>n=m/\0<=n/\yX t n.toNat=true/\(match gS A o.dst with
   |some k=>K (.own k) (σ.mk' k (.row e t (List.replicate n.toNat t.dflt)))
   |none=>K (bif t.isOd then .undef else .sl t (List.replicate n.toNat t.dflt)) σ)
  |_,_=>False
 |none=>False
def oT(P:AcO)(f:AcM)(args:AcT)(r:D):Prop:=
 ∀(w:World) (S:Nat->Prop) (vs:Array Value),(∀b,S b->b<w.heap.size)->vs.size=args.length->(∀i d,args[i]? =some d->Rp w S (vs.getD i undef) d)->Ee P w (λ_=>False)->
  Calls P f vs w λe w'=>∃v,e=.returned v/\Rp w' (λb=>S b\/(w.heap.size<=b/\b<w'.heap.size)) v r/\Below w.heap.size w w'
def znu(P:AcO)(f:AcM)(args:AcT)(t:Ty)(K:t.den->Prop):Prop:=∃x,oT P f args (Yn t x)/\K x
def znv(P:AcO)(f:AcM)(args:AcT)(t u:Ty)(K:t.den->u.den->Prop):Prop:=∃x y,oT P f args (.tup [Yn t x,Yn u y])/\K x y
def znw(P:AcO)(f:AcM)(args:AcT)(t u v:Ty)(K:t.den->u.den->v.den->Prop):Prop:=∃x y z,oT P f args (.tup [Yn t x,Yn u y,Yn v z])/\K x y z
def zgM(P:AcO)(f:AcM)(args:AcT):Ac2->(D->Prop)->Prop
 |[],K=>oT P f args (.tup [])/\K (.tup [])
 |[t],K=>znu P f args t λx=>K (Yn t x)
 |[t,u],K=>znv P f args t u λx y=>K (.tup [Yn t x,Yn u y])
 |[t,u,v],K=>znw P f args t u v λx y z=>K (.tup [Yn t x,Yn u y,Yn v z])
 |_,_=>False
def Ty.scalar:Ty->Bool
 | .int| .bool| .str=>true
 |_=>false
def Qt(σ:St):D->D
 | .own k=>match σ.ob k with
  |some (.row _ t xs)=>bif t.isOd then .undef else .sl t xs
  |_=> .own k
 |d=>d
def gT(E:TE)(σ:St):List Operand->List AcN->AcT
 |x::xs,T::ts=>Mz E T (σ.ev x)::gT E σ xs ts
 |x::xs,[]=>σ.ev x::gT E σ xs []
 |[],_=>[]
def zgN(raw:Bool)(E:TE)(σ:St)(xs:List Operand)(ts:List AcN):AcT:=bif raw then xs.map σ.ev else gT E σ xs ts
def Ent(P:AcO)(f:AcM):Prop:=∀args w,(callFunc f args).run P w=.ok (.enter f args) w
def ztL(E:TE)(f:AcM):Option Ac2->Option Ac2
 |some rs=>some rs
 |none=>zW f E.sig
def zsw(P:AcO)(f:AcM):Option Ac2->Prop->Prop
 |some _,X=>Ent P f/\X
 |none,X=>X
def D.ren(ρ:List (Nat×Nat)):D->D
 | .own k=>match zW k ρ with
  |some j=> .own j
  |none=> .undef
 | .ownN k=>match zW k ρ with
  |some j=> .ownN j
  |none=> .undef
 | .ptr k off=>match zW k ρ with
  |some j=> .ptr j off
  |none=> .undef
 | .oelt k sz i off=>match zW k ρ with
  |some j=> .oelt j sz i off
  |none=> .undef
 | .clp f bd k off=>match zW k ρ with
  |some j=> .clp f bd j off
  |none=> .undef
 | .slf k=>match zW k ρ with
  |some j=> .slf j
  |none=> .undef
 |d=>d
def yE.ren(ρ:List (Nat×Nat)):yE->yE
 | .cells ds=> .cells (ds.map (D.ren ρ))
 | .val ds=> .val (ds.map (D.ren ρ))
 |o=>o
def JZ(ρ:List (Nat×Nat)):List (Nat×Nat):=ρ.map λx=>(x.2,x.1)
def kN:AcZ->Bool
 |[]=>true
 |k::r=> !sH k r&&kN r
def reach(ob:Nat->Option yE):Nat->AcZ->AcT->AcZ
 |0,acc,_=>acc
 |_+1,acc,[]=>acc
 |n+1,acc,d::r=>match d.ref with
  |none=>reach ob n acc r
  |some k=>bif sH k acc then reach ob n acc r else match ob k with
   |some (.cells ds)=>reach ob n (acc++[k]) (ds++r)
   |some (.val ds)=>reach ob n (acc++[k]) (ds++r)
   |some _=>reach ob n (acc++[k]) r
   |none=>reach ob n acc r
def Qu:AcT->AcZ
 |[]=>[]
 | .own k::r=>k::Qu r
 |_::r=>Qu r
def zcp(ob:Nat->Option yE)(dr:AcZ):AcZ->Nat->Nat->List (Nat×Nat)
 |[],_,_=>[]
 |k::r,a,b=>match ob k with
  |some (.row _ _ _)=>bif sH k dr then(k,1000+a)::zcp ob dr r (a+1) b else(k,2000+b)::zcp ob dr r a (b+1)
  |_=>(k,1000+a)::zcp ob dr r (a+1) b
def gU(ob:Nat->Option yE)(ρ:List (Nat×Nat)):List (Nat×Nat)->List (Nat×yE)
 |[]=>[]
 |(k,c)::r=>match ob k with
  |some o=>(c,o.ren ρ)::gU ob ρ r
  |none=>gU ob ρ r
structure Av (w:World)(S:Nat->Prop)(pl:Nat->Value)(h:List (Nat×yE)):Prop where
 ok:∀k o,zW k h=some o->jF w S pl (pl k) o
 priv:∀k o b,zW k h=some o->sR (pl k)=some b->b<w.heap.size/\¬S b
 inj:∀k k' o o' b,zW k h=some o->zW k' h=some o'->sR (pl k)=some b->sR (pl k')=some b->k=k'
def o9(pl:Nat->Value)(h:List (Nat×yE))(b:Nat):Prop:=∃k o,zW k h=some o/\sR (pl k)=some b
def zlE(P:AcO)(f:AcM)(args:AcT)(h:List (Nat×yE))(r:D)(h':List (Nat×yE)):Prop:=
 ∀(w:World) (S:Nat->Prop) (vs:Array Value) (pl:Nat->Value),(∀b,S b->b<w.heap.size)->vs.size=args.length->(∀i d,args[i]? =some d->Rd w S pl (vs.getD i undef) d)->Av w S pl h->Ee P w (o9 pl h)->
  Calls P f vs w λe w'=>∃v S' pl',e=.returned v/\Rd w' S' pl' v r/\Av w' S' pl' h'/\(∀b,S' b->b<w'.heap.size)/\(∀b,S' b->S b\/o9 pl h b\/w.heap.size<=b)/\
   (∀b,o9 pl' h' b->o9 pl h b\/w.heap.size<=b)/\(∀k,stabK k=true->pl' k=pl k)/\rE w.heap.size (o9 pl h) w w'
def zqg(P:AcO)(f:AcM)(args:AcT)(h:List (Nat×yE))(u:Value):Prop:=
 ∀(w:World) (S:Nat->Prop) (vs:Array Value) (pl:Nat->Value),(∀b,S b->b<w.heap.size)->vs.size=args.length->(∀i d,args[i]? =some d->Rd w S pl (vs.getD i undef) d)->Av w S pl h->Ee P w (o9 pl h)->
  Calls P f vs w λe w'=>e=.panicked [{v:=u,recovered:=false}]/\rE w.heap.size (o9 pl h) w w'
def exH:Ac2->(AcT->Prop)->Prop
 |[],K=>K []
 |t::ts,K=>∃x:t.den,exH ts λds=>K (Yn t x::ds)
def cF(k off:Nat):Nat:=1000000+1000*k+off
def Qv(σ:St)(k off:Nat)(e:AcN)(t:Ty):St:=match σ.ob k with
 |some (.cells ds)=>match ds[off]? with
  |some .nil=>bif Nat.beq k (cF k off)then σ else(σ.mk' (cF k off) (.row e t [])).setOb k (.cells ((ds.map (D.kill (cF k off))).set off (.own (cF k off))))
  |some (.ifc (.pointer none))=>σ.setOb k (.cells (ds.set off (.slf k)))
  |_=>σ
 |_=>σ
def jN(ds:AcT):List (Nat×(Nat×(AcN×Ty)))->St->St
 |[],σ=>σ
 |(i,off,e,t)::r,σ=>match ds[i]? with
  |some (.ptr k 0)=>jN ds r (Qv σ k off e t)
  |_=>jN ds r σ
def zcq(k:Nat):List (Nat×(Nat×(AcN×Ty)))->List (Nat×(Nat×(AcN×Ty)))
 |[]=>[]
 |(j,x)::r=>bif Nat.beq j k then(0,x)::zcq k r else zcq k r
def YP:List (Nat×(Nat×(AcN×Ty)))->AcT->AcT
 |[],cs=>cs
 |(_,off,_,_)::r,cs=>YP r (match cs[off]? with
  |some (.sl _ [])=>cs.set off .nil
  |_=>cs)
def zgP(E:TE)(A:xF)(o:Oper)(T:AcN)(σ:St)(K:D->St->Prop):Prop:=match zW T E.zs with
 |some (_,cs)=>match gS A o.dst with
  |some k=>bif Nat.blt k 1000000 then K (.ptr k 0) (jN [.ptr k 0] (zcq k A.nz) (σ.mk' k (.cells (YP (zcq k A.nz) cs))))else False
  |none=>K (.iptr cs 0) σ
 |none=>False
def Dl(E:TE)(A:xF)(o:Oper)(T:AcN)(σ:St)(K:D->St->Prop):Prop:=match A.nz with
 |[]=>Di E A o T σ K
 |_=>zgP E A o T σ K
def Xo(σ:St)(k off:Nat):St:=match σ.ob k with
 |some (.cells ds)=>match ds[off]? with
  |some (.own j)=>match σ.ob j with
   |some o=>bif o.flatB then σ.pub j o else σ
   |none=>σ
  |_=>σ
 |_=>σ
def uP(ds:AcT):List (Nat×Nat)->St->St
 |[],σ=>σ
 |(i,off)::r,σ=>match ds[i]? with
  |some (.ptr k 0)=>uP ds r (Xo σ k off)
  |_=>uP ds r σ
def jO(ρi:List (Nat×Nat))(dst c:Nat):Nat:=match zW c ρi with
 |some k=>k
 |none=>30000+64*dst+(c-3000)
def jP(ks:AcZ)(d:D):D:=match d.ref with
 |some j=>bif sH j ks then .undef else d
 |none=>d
def VU{α:Type}(ks:AcZ):List (Nat×α)->List (Nat×α)
 |[]=>[]
 |(i,a)::r=>bif sH i ks then VU ks r else(i,a)::VU ks r
def St.after(σ:St)(ρ:List (Nat×Nat))(dst:Nat)(h':List (Nat×yE)):St:=
 let β:List (Nat×Nat):=h'.map λx=>(x.1,jO (JZ ρ) dst x.1)
 let dead:=((ρ.filter λx=> !stabK x.2|| !(sH x.2 (h'.map (·.1)))).map (·.1))++(β.filter λx=> !(sH x.1 (ρ.map (·.2)))).map (·.2)
 ⟨σ.fr.map λx=>(x.1,jP dead x.2),(h'.map λx=>(jO (JZ ρ) dst x.1,x.2.ren β))++VU ((ρ.map (·.1))++β.map (·.2)) (σ.hp.map λx=>(x.1,x.2.map (jP dead)))⟩
def zeH(σ:St)(ρ:List (Nat×Nat))(dst:Nat)(h':List (Nat×yE)):Bool:=
 kN (ρ.map (·.1))&&kN (ρ.map (·.2))&&kN (h'.map (·.1))&&kN (h'.map λx=>jO (JZ ρ) dst x.1)&&
  ρ.all (λx=>(!stabK x.1||stabK x.2)&&Nat.blt x.2 3000)&&
  h'.all (λx=>sH x.1 (ρ.map (·.2))||Nat.ble 3000 x.1)
def MC(d:D):Bool:=match d.ref with
 |some k=>Nat.blt k 1000000
 |none=>true
def fj(σ:St):AcT->AcT
 |[]=>[]
 | .ptr k 0::r=>(match σ.ob k with
  |some (.cells cs)=>cs.filter λd=>match d with
   | .ptr _ 0=>true
   |_=>false
  |_=>[])++fj σ r
 |_::r=>fj σ r
def H5(P:AcO)(A:xF)(f:AcM)(hs:zcg)(dst:Nat)(ds0 caps:AcT)(σ:St)(K:D->St->Prop):Prop:=
 bif caps.all dU&&ds0.all MC then
  let σ:=jN (ds0++fj (uP ds0 hs.datas σ) ds0) hs.nils (uP ds0 hs.datas σ)
  let ρ:=zcp σ.ob (Qu ds0) (reach σ.ob 400 [] ds0) 0 0
  exH hs.tys λxs=>match hs.res xs (λc=>zW c (gU σ.ob ρ ρ))with
   |some (r,h')=>bif zeH σ ρ dst h' then zlE P f (ds0.map (D.ren ρ)++caps) (gU σ.ob ρ ρ) r h'/\K (r.ren (h'.map λx=>(x.1,jO (JZ ρ) dst x.1))) (σ.after ρ dst h')else False
   |none=>False
 else False
def znx(P:AcO)(f:AcM)(hs:zcg)(ds0 caps:AcT)(σ:St)(T:Value->Prop):Prop:=
 bif caps.all dU&&ds0.all MC then
  let σ:=jN (ds0++fj (uP ds0 hs.datas σ) ds0) hs.nils (uP ds0 hs.datas σ)
  let ρ:=zcp σ.ob (Qu ds0) (reach σ.ob 400 [] ds0) 0 0
  bif kN (ρ.map (·.1))&&kN (ρ.map (·.2))then∃u,zqg P f (ds0.map (D.ren ρ)++caps) (gU σ.ob ρ ρ) u/\T u else False
 else False
def zlF:Option Nat->Nat
 |some d=>d
 |none=>0
def zgQ(E:TE)(f:AcM):Option Ac2->Option zcg
 |some _=>none
 |none=>zW f E.hsig
def zqh(P:AcO)(E:TE)(A:xF)(g:AcM)(hs:zcg)(dst:Nat)(ds caps:AcT)(σ:St)(K:D->St->Prop)(T:Value->Prop):Prop:=match sH g E.thr with
 |true=>H5 P A g hs dst ds caps σ K\/znx P g hs ds caps σ T
 |false=>H5 P A g hs dst ds caps σ K
def zeI(P:AcO)(E:TE)(A:xF)(o:Oper)(fv:D)(args:List Operand)(tys:List AcN)(σ:St)(K:D->St->Prop):Prop:=match fv with
 | .clo f rs0 caps=>match zgQ E f rs0 with
  |some hs=>H5 P A f hs (zlF o.dst) (zgN hs.raw E σ args tys) caps σ K
  |none=>match ztL E f rs0 with
   |some rs=>zsw P f rs0<|
    let ds:=gT E σ args tys
    bif rs.all Ty.scalar then
     let ds:=ds.map (Qt σ)
     bif ds.all dU then zgM P f (ds++caps) rs λr=>K r σ else False
    else rA A.q σ ds λds σ=>zgM P f (ds++caps) rs λr=>K r σ
   |none=>False
 |_=>False
def Ei(P:AcO)(E:TE)(A:xF)(o:Oper)(σ:St)(K:D->St->Prop):Prop:=match o.op with
 | .move x=>zeF E A o (σ.ev x) σ K
 | .assign x=>zeF E A o (σ.ev x) σ K
 | .pick c a b=>match σ.ev c with
  | .bool t=>zT t (K (σ.ev a) σ) (K (σ.ev b) σ)
  |_=>False
 | .alloc T=>Dl E A o T σ K
 | .box T x=>zns E A o T (σ.ev x) σ K
 | .build T parts=>Dk E A o T parts.toList σ K
 | .buildSlice T len parts=>Xn E A o T len parts.toList σ K
 | .load T x=>zka E A T (σ.ev x) σ K
 | .store T x y=>zcj E A T (σ.ev x) (σ.ev y) σ K
 | .nilCheck x=>match σ.ev x with
  | .ptr k off=>K (.ptr k off) σ
  | .iptr cs off=>K (.iptr cs off) σ
  | .elt t xs i off=>K (.elt t xs i off) σ
  | .oelt k sz i off=>K (.oelt k sz i off) σ
  |_=>False
 | .binOp op T x y _=>zeG E op T (σ.ev x) (σ.ev y) σ λd=>K d σ
 | .makeMap T none=>Qs E A o T σ K
 | .mapUpdate T m x y=>T7 E A T (σ.ev m) (σ.ev x) (σ.ev y) σ K
 | .lookup T m x ok=>Eg E T (σ.ev m) (σ.ev x) ok σ λd=>K d σ
 | .unOp op _ x=>unD op (σ.ev x) λd=>K d σ
 | .convert src dst x=>zkc E src dst (σ.ev x) λd=>K d σ
 | .makeFunc (.func f) first captured=>match A.clp with
  |false=>(match first.toList with
   |[]=>rA A.q σ (captured.toList.map σ.ev) λcs σ=>K (.clo f none cs) σ
   |_=>False)
  |true=>(match first.toList.map σ.ev,captured.toList.map σ.ev with
   |[.ptr k off],[]=>K (.clp f true k off) σ
   |[],[.ptr k off]=>K (.clp f false k off) σ
   |_,_=>False)
 | .makeInterface T x=>match zW T E.zs,zaL (σ.ev x)with
  |some (true,_),some u=>K (.ifc (.iface T u)) σ
  |_,_=>False
 | .slice T x lo hi none=>zck E A T (σ.ev x) σ lo hi K
 | .fieldAddr T x f=>Dj E T (σ.ev x) f λd=>K d σ
 | .indexAddr T x ix=>T9 E T (σ.ev x) (σ.ev ix) σ λd=>K d σ
 | .index T x ix=>zcm E T (σ.ev x) (σ.ev ix) λd=>K d σ
 | .extract x i=>LL (σ.ev x) i λd=>K d σ
 | .makeSlice T l c=>WL E A o T (σ.ev l) (σ.ev c) σ K
 | .call c=>match c.callee with
  | .builtin .len=>match c.args.toList,c.argTypes.toList with
   |[x],[T]=>zqd E T (σ.ev x) σ λd=>K d σ
   |_,_=>False
  | .builtin .append=>match c.args.toList,c.argTypes.toList with
   |[x,y],[T,T']=>Eh E A o T T' (σ.ev x) y σ K
   |_,_=>False
  | .builtin .max=>match c.args.toList with
   |[x,y]=>zqf (σ.ev x) (σ.ev y) λd=>K d σ
   |_=>False
  | .value f=>zeI P E A o (σ.ev f) c.args.toList c.argTypes.toList σ K
  |_=>False
 |_=>False
def zsc(P:AcO)(E:TE)(A:xF)(o:Oper)(σ:St)(K:D->St->Prop)(T:Value->Prop):Option Prop:=match o.op with
 | .panic x=>some (match σ.ev x with
  | .ifc (.iface t u)=>T (.iface t u)
  |_=>False)
 | .call c=>match c.callee with
  | .value f=>match σ.ev f with
   | .clo g none caps=>(match sH g E.thr with
    |true=>some (match zW g E.hsig with
     |some hs=>zqh P E A g hs (zlF o.dst) (zgN hs.raw E σ c.args.toList c.argTypes.toList) caps σ K T
     |none=>False)
    |false=>none)
   | .clp g bd k off=>some (match zW g E.hsig with
     |some hs=>zqh P E A g hs (zlF o.dst) (bif bd then .ptr k off::zgN hs.raw E σ c.args.toList c.argTypes.toList else zgN hs.raw E σ c.args.toList c.argTypes.toList++[.ptr k off]) [] σ K T
     |none=>False)
   |_=>none
  |_=>none
 |_=>none
def opX(P:AcO)(E:TE)(A:xF)(o:Oper)(σ:St)(K:D->St->Prop)(T:Value->Prop):Prop:=match zsc P E A o σ K T with
 |some X=>X
 |none=>Ei P E A o σ K
end Go.Proofs.YtdnmkinmcdihnaaGreatDoor
namespace Go.Proofs.YtdnmkinmcdihnaaGreatDoor
open Go.RowKit
variable[Lo]
def zny:TypeDesc->Bool
 | .struct _| .array _ _=>true
 |_=>false
def zB:Value->D->Bool
 | .int .i64 n,.int .i64 m=>decide (n=0)&&decide (m=0)
 | .int .u8 n,.int .u8 m=>decide (n=0)&&decide (m=0)
 | .bool false,.bool false=>true
 | .string s,.str s'=>decide (s.size=0)&&decide (s'.size=0)
 | .slice none 0 0,.nil=>true
 | .slice none 0 0,.sl _ []=>true
 | .slice none 0 0,.slN _ [] true=>true
 | .pointer none,.ifc (.pointer none)=>true
 |_,.undef=>true
 |_,_=>false
def GX:List Value->AcT->Bool
 |[],[]=>true
 |v::vs,d::ds=>zB v d&&GX vs ds
 |_,_=>false
structure ZOk (P:AcO)(T:AcN)(ag:Bool)(cs:AcT):Prop where
 ty:tyC T cs
 ex:∃i z u,P.info? T=some i/\i.zero=some z/\i.size=cs.length/\P.underlying T=some u/\zny u=ag/\GX z.cells.toList cs=true
 one:ag=false->cs.length=1
structure SlE (P:AcO)(T e:AcN)(t:Ty):Prop where
 und:P.underlying T=some (.slice e)
 ex:∃i z,P.info? e=some i/\i.zero=some z/\i.size=t.size/\i.bytes=t.bytes/\GX z.cells.toList (cells t t.dflt)=true
def ztN(P:AcO)(T:AcN)(offs:List (Nat×Nat)):Prop:=
 ∃fs:Array Field,P.underlying T=some (.struct fs)/\fs.toList.mapM (λf=>(P.info? f.type).map λi=>(f.offset,i.size))=some offs/\offs.all (λx=> !Nat.beq x.2 0)=true
def zqi(P:AcO)(f:Field):Option (Bool×Nat):=if f.name≠ "_" then(match P.underlying f.type with
 |some (.int .i64)=>some (false,f.offset)
 |some .string=>some (true,f.offset)
 |_=>none)else none
def fkT:Ty->Option (List (Bool×Nat))
 | .tok=>some [(false,0),(false,1),(true,2)]
 | .lit=>some [(false,0),(false,1),(false,2)]
 | .var=>some [(true,0),(false,1),(false,2)]
 |_=>none
def ztO(P:AcO)(T:AcN)(t:Ty):Prop:=
 P.underlying T=some (.struct (P.fieldsOf T))/\P.stoodInHeld T=false/\P.eqGuardType P.depth T=false/\∃l,fkT t=some l/\(P.fieldsOf T).toList.mapM (zqi P)=some l
def J4(P:AcO)(kT:AcN):Ty->Prop
 | .int=>P.underlying kT=some (.int .i64)
 | .str=>P.underlying kT=some .string
 | .pr .int .int=>∃e i,P.underlying kT=some (.array 2 e)/\P.underlying e=some (.int .i64)/\P.info? e=some i/\P.cellsOf e=1
 |_=>False
def MpE(P:AcO)(T:AcN)(k v:Ty):Prop:=
 ∃kT eT i z d,P.underlying T=some (.map kT eT)/\J4 P kT k/\P.info? eT=some i/\i.zero=some z/\cells v v.dflt=[d]/\zB z d=true/\z.oneCell'=true
structure vE (P:AcO)(E:TE):Prop where
 zs:∀T ag cs,zW T E.zs=some (ag,cs)->ZOk P T ag cs
 sl:∀T e t,zW T E.sl=some (e,t)->SlE P T e t
 fld:∀T offs,zW T E.fld=some offs->ztN P T offs
 strs:∀T,sH T E.strs=true->P.underlying T=some .string
 ints:∀T k,zW T E.ints=some k->P.underlying T=some (.int k)
 bools:∀T,sH T E.bools=true->P.underlying T=some .bool
 sig:∀f rs,zW f E.sig=some rs->∀args w,(callFunc f args).run P w=.ok (.enter f args) w
 hsig:∀f hs,zW f E.hsig=some hs->Ent P f
 arr:∀T,sH T E.arr=true->∃e i,P.underlying T=some (.array 2 e)/\P.info? e=some i/\i.size=1
 mps:∀T k v,zW T E.mps=some (k,v)->MpE P T k v
 sts:∀T t,zW T E.sts=some t->ztO P T t
 mixed:P.follows .mixedOrders=true
 byt:∀T e,zW T E.sl=some (e,.byte)->∃i,P.info? e=some i/\i.zero=some (.int .u8 0)
section
variable {P:AcO}{E:TE}{A:xF}{b0:Yo}{w w':World}{S S':Nat->Prop}{pl pl':Nat->Value}{N:Nat}{σ:St}{a:Act}{v:Value}{d:D}{o:Oper}{K:D->St->Prop}{next:Act->World->Prop}{Q:Exit->Act->World->Prop}
theorem zlG{s s':AcL}(h:s.size=0)(h':s'.size=0):s=s':=by
 have e:∀t:AcL,t.size=0->t=⟨#[]⟩:=λt ht=>by
  apply ByteArray.ext;exact AcH ht
 rw[e s h,e s' h']
theorem zsd(h:zB v d=true):Rp w S v d:=by
 unfold zB at h
 split at h
 case h_1=>simp only[If,decide_eq_true_eq]at h;obtain⟨rfl,rfl⟩:=h;exact .int _ _ (by unfold inK xE;omega)
 case h_2=>simp only[If,decide_eq_true_eq]at h;obtain⟨rfl,rfl⟩:=h;exact .int _ _ (by unfold inK;omega)
 case h_3=>exact .bool _
 case h_4=>simp only[If,decide_eq_true_eq]at h;rw[zlG h.1 h.2];exact .str _ (by omega)
 case h_5=>exact .nil
 case h_6=>exact .sl _ _ _ ⟨[.slice none 0 0],rfl,none,0,rfl,by simp,by simp,by simp,λ_=>rfl,λhn=>At hn (by simp)⟩
 case h_7=>exact .slN _ _ _ _ ⟨[.slice none 0 0],rfl,none,0,rfl,by simp,by simp,by simp,λ_=>rfl,λhn=>At hn (by simp)⟩ (λe=>by cases e) λ_=>rfl
 case h_8=>exact .ifc _
 case h_9=>exact .undef _
 case h_10=>cases h
theorem MD:∀ {vs:List Value} {ds:AcT},GX vs ds=true->xK (Rp w S) vs ds
 |[],[],_=> .nil
 |v::vs,d::ds,h=>by
  simp only[GX,If]at h
  exact .cons (zsd h.1) (MD h.2)
 |[],_::_,h=>by simp[GX]at h
 |_::_,[],h=>by simp[GX]at h
theorem zsx(v:Value):Rp w S v (ofV v):=by
 unfold ofV;split
 case h_1 n=>
  cases h:decide (-9223372036854775808<=n)&&decide (n<=9223372036854775807)with
  |true=>simp only[If,decide_eq_true_eq]at h;exact .int _ _ h
  |false=>exact .undef _
 case h_2 n=>
  cases h:decide (0<=n)&&decide (n<=255)with
  |true=>simp only[If,decide_eq_true_eq]at h;exact .int _ _ h
  |false=>exact .undef _
 case h_3=>exact .bool _
 case h_4 s=>
  cases h:Nat.ble s.size 140737488355328 with
  |true=>exact .str _ (Aau h)
  |false=>exact .undef _
 case h_5=>exact .nil
 case h_6=>exact .undef _
theorem tB(m:tF P b0 N σ a w S pl)(x:Operand):Rd w S pl (a.eval x) (σ.ev x):=by
 cases x with
 |tmp t=>exact m.fr t
 |const v=>exact(zsx v).rd
 |func f=>exact Rp.rd (.clo f none [] #[] rfl (λi d h=>by simp at h))
 |global g=>exact tD
theorem J5(T:AcN)(h:Rd w S pl v d):Rd w S pl v (Mz E T d):=by
 unfold Mz;split
 ·split
  ·have:=h.flat (d:=.nil) rfl
   rw[this.nil_inv];exact Rp.rd (.sl _ _ _ ⟨[.slice none 0 0],rfl,none,0,rfl,by simp,by simp,by simp,λ_=>rfl,λhn=>At hn (by simp)⟩)
  ·exact h
 ·exact Rp.rd (.sl _ _ _ (h.flat (d:=.slN _ _ _) rfl).slN_inv'.1)
 ·exact h
def sV(P:AcO)(b0:Yo)(N:Nat)(o:Oper)(a:Act)(K:D->St->Prop)(next:Act->World->Prop):Prop:=
 ∀d σ' v w' S' pl',K d σ'->tF P b0 N σ' a w' S' pl'->Rd w' S' pl' v d->next (a.put o.dst v) w'
theorem yT{v:Value}{w':World}(h:(execOp a.eval o).run P w=.ok (.value v) w')(hn:next (a.put o.dst v) w'):o.wp P a w next Q:=by
 unfold Oper.wp;rw[h];exact hn
theorem zcr{w':World}(h:(execOp a.eval o).run P w=.ok .skip w')(hn:next (a.put o.dst undef) w'):o.wp P a w next Q:=by
 unfold Oper.wp;rw[h];exact hn
theorem zgR(h:Rp w S v d)(hd:kM d=true):v.oneCell'=true:=by
 cases h
 case sl t xs h=>obtain⟨A,c,rfl,_⟩:=sM h;rfl
 case slN t xs nl h _ _=>obtain⟨A,c,rfl,_⟩:=sM h;rfl
 all_goals first|rfl|(simp[kM]at hd)
def Rc(w:World)(S:Nat->Prop)(pl:Nat->Value)(v:Value)(d:D):Prop:=Rd w S pl v d/\(kM d=true->v.oneCell'=true)
theorem Oj(m:tF P b0 N σ a w S pl)(h:Rd w S pl v d){cs:AcT}(hc:Zq σ d=some cs):xK (Rc w S pl) v.cells.toList cs:=by
 have one:v.cells.toList=[v]->Zq σ d=some [d]->v.oneCell'=true->xK (Rc w S pl) v.cells.toList cs:=λe e' e1=>by
  rw[e']at hc;injection hc with hc;subst hc;rw[e];exact .cons ⟨h,λ_=>e1⟩ .nil
 cases d
 case agg ds=>
  obtain⟨vs,rfl,hl,h⟩:=(h.flat rfl).agg_inv;injection hc with hc;subst hc
  refine xK.of (by simpa[Value.cells]using hl) λi x d hx hd=> ?_
  have:=h i d hd;simp only[Value.cells,AaE]at hx
  rw[Aaj,hx]at this
  exact⟨this.rd,zgR this⟩
 case tup ds=>cases hc
 case undef=>cases hc
 case ifc u=>cases hc
 case slf k=>
  rcases h with e|⟨b,_,e⟩
  ·exact one (by rw[e];rfl) rfl (by rw[e];rfl)
  ·exact one (by rw[e];rfl) rfl (by rw[e];rfl)
 case clp f bd k off=>obtain⟨b,_,e⟩:=h;exact one (by rw[e];rfl) rfl (by rw[e];rfl)
 case own k=>
  have h':v=pl k:=h;simp only[Zq,St.ob]at hc
  cases ho:zW k σ.hp with
  |none=>rw[ho]at hc;cases hc
  |some o=>
   rw[ho]at hc
   cases o with
   |val ds=>
    injection hc with hc;subst hc
    obtain⟨vs,e1,e3,e4⟩:=m.hp k _ ho;rw[h',e1];refine xK.of (by simpa[Value.cells]using e3) λi x d hx hd=> ?_
    have:=e4 i d hd;simp only[Value.cells,AaE]at hx
    rw[Aaj,hx]at this
    exact this
   |cells ds=>
    injection hc with hc;subst hc
    obtain⟨b,vs,T,e,_⟩:=m.hp k _ ho;have e':=h'.trans e;rw[e'];exact .cons ⟨by rw[<-e'];exact h,λ_=>rfl⟩ .nil
   |row e t xs=>
    injection hc with hc;subst hc
    obtain⟨_,css,_,h4,_⟩:=m.hp k _ ho;rcases h4.2 with⟨e,_⟩|⟨g,cap,cur,e,_⟩<;>
    ·have e':=h'.trans e
     rw[e'];exact .cons ⟨by rw[<-e'];exact h,λ_=>rfl⟩ .nil
   |mp kt vt es=>
    injection hc with hc;subst hc
    obtain⟨b,e,_⟩:=m.hp k _ ho;have e':=h'.trans e;rw[e'];exact .cons ⟨by rw[<-e'];exact h,λ_=>rfl⟩ .nil
 case ownN k=>
  have h':v=pl k:=(show v=pl k/\v≠ .slice none 0 0 from h).1
  simp only[Zq,St.ob]at hc
  cases ho:zW k σ.hp with
  |none=>rw[ho]at hc;cases hc
  |some o=>
   rw[ho]at hc
   cases o with
   |row e t xs=>
    injection hc with hc;subst hc
    obtain⟨_,css,_,h4,_⟩:=m.hp k _ ho;rcases h4.2 with⟨e,_⟩|⟨g,cap,cur,e,_⟩<;>
    ·have e':=h'.trans e
     rw[e'];exact .cons ⟨by rw[<-e'];exact h,λ_=>rfl⟩ .nil
   |val ds=>cases hc
   |cells ds=>cases hc
   |mp kt vt es=>cases hc
 case slN t xs nl=>obtain⟨A,c,e,_⟩:=sM ((h.flat (d:=.slN t xs nl) rfl).slN_inv).1;exact one (by rw[e];rfl) rfl (by rw[e];rfl)
 case mp kt vt es=>obtain⟨b,e,_⟩:=(h.flat (d:=.mp kt vt es) rfl).mp_inv;exact one (by rw[e];rfl) rfl (by rw[e];rfl)
 case sl t xs=>obtain⟨A,c,e,_⟩:=sM (h.flat (d:=.sl t xs) rfl).sl_inv;exact one (by rw[e];rfl) rfl (by rw[e];rfl)
 case nil=>have e:=(h.flat (d:=.nil) rfl).nil_inv;exact one (by rw[e];rfl) rfl (by rw[e];rfl)
 case int k n=>have e:=(h.flat (d:=.int k n) rfl).int_inv.1;exact one (by rw[e];rfl) rfl (by rw[e];rfl)
 case bool b=>have e:=(h.flat (d:=.bool b) rfl).bool_inv;exact one (by rw[e];rfl) rfl (by rw[e];rfl)
 case str s=>have e:=(h.flat (d:=.str s) rfl).str_inv.1;exact one (by rw[e];rfl) rfl (by rw[e];rfl)
 case iptr cs off=>obtain⟨b,e,_⟩:=(h.flat (d:=.iptr cs off) rfl).iptr_inv;exact one (by rw[e];rfl) rfl (by rw[e];rfl)
 case elt t xs i off=>obtain⟨b,o,c,e,_⟩:=(h.flat (d:=.elt t xs i off) rfl).elt_inv;exact one (by rw[e];rfl) rfl (by rw[e];rfl)
 case clo f rs caps=>obtain⟨vs,e,_⟩:=(h.flat (d:=.clo f rs caps) rfl).clo_inv;exact one (by rw[e];rfl) rfl (by rw[e];rfl)
 case ptr k off=>obtain⟨b,_,e⟩:=h;exact one (by rw[e];rfl) rfl (by rw[e];rfl)
 case oelt k sz i off=>obtain⟨b,n,c,_,_,e⟩:=h;exact one (by rw[e];rfl) rfl (by rw[e];rfl)
theorem zlH(m:tF P b0 N σ a w S pl)(h:Rd w S pl v d){cs:AcT}(hc:Zq σ d=some cs):xK (Rd w S pl) v.cells.toList cs:=(Oj m h hc).imp λ_ _ h=>h.1
theorem oU{d:D}:dU d=true↔d.ref=none:=by
 unfold dU;cases d.ref<;>simp
theorem N0:∀ {ds:AcT},cP ds=none->∀d∈ds,d.ref=none
 |[],_,d,hd=>by cases hd
 |e::r,h,d,hd=>by
  unfold cP at h
  cases he:e.ref with
  |some k=>rw[he]at h;cases h
  |none=>
   rw[he]at h
   rcases Aad.1 hd with rfl|hd
   ·exact he
   ·exact N0 h d hd
theorem xK.map_right{α β γ:Type}{R:α->γ->Prop}{f:β->γ}:∀ {xs:List α} {ys:List β},xK (λx y=>R x (f y)) xs ys->xK R xs (ys.map f)
 |_,_,.nil=> .nil
 |_,_,.cons h hs=> .cons h hs.map_right
theorem xK.flat:∀ {vs:List Value} {ds:AcT},xK (Rd w S pl) vs ds->(∀d∈ds,d.ref=none)->xK (Rp w S) vs ds
 |_,_,.nil,_=> .nil
 |_,_,.cons h hs,hf=> .cons (h.flat (hf _ Aaa)) (hs.flat λd hd=>hf d (Aac _ hd))
theorem xK.rd{vs:List Value}{ds:AcT}(h:xK (Rp w S) vs ds):xK (Rd w S pl) vs ds:=h.imp λ_ _ h=>h.rd
theorem xK.rmono{vs:List Value}{ds:AcT}(h:xK (Rp w S) vs ds)(hk:∀b,S b->w'.heap[b]? =w.heap[b]?)(hS:∀b,S b->S' b):xK (Rp w' S') vs ds:=h.imp λ_ _ h=>h.mono hk hS
theorem zkd:∀(n:Nat) (σ:St) (ds:AcT) (σ':St) (ds':AcT) (S:Nat->Prop),pubs n σ ds=some (σ',ds')->tF P b0 N σ a w S pl->
  ∃S',(∀b,S b->S' b)/\tF P b0 N σ' a w S' pl/\∀vs,xK (Rd w S pl) vs ds->xK (Rp w S') vs ds'
 |0,_,_,_,_,_,h,_=>by cases h
 |n+1,σ,ds,σ',ds',S,h,m=>by
  unfold pubs at h
  cases hf:cP ds with
  |none=>
   rw[hf]at h;injection h with h;injection h with h1 h2;subst h1 h2
   exact⟨S,λ_ h=>h,m,λvs hv=>hv.flat (N0 hf)⟩
  |some k0=>
   rw[hf]at h
   simp only at h
   generalize VS σ 4 k0=k at h
   cases ho:σ.ob k with
   |none=>rw[ho]at h;cases h
   |some o=>
    rw[ho]at h
    simp only at h
    cases hfl:o.flatB with
    |false=>rw[hfl]at h;cases h
    |true=>
     rw[hfl,AI]at h
     have hfl':o.flat:=by
      cases o with
      |cells cs=>exact λd hd=>oU.1 (Aav.1 hfl d hd)
      |row _ _ _=>trivial
      |mp _ _ _=>trivial
      |val cs=>exact λd hd=>oU.1 (Aav.1 hfl d hd)
     have m1:=m.pub (k:=k) ho hfl';obtain⟨S',hS,m2,hv⟩:=zkd n _ _ _ _ _ h m1;exact⟨S',λb hb=>hS b (.inl hb),m2,λvs h=>hv vs (xK.map_right (h.imp λ_ _ h=>Oh (m.lo ho) (m.hp k o ho) hfl' h))⟩
theorem pL{ds:AcT}{K:AcT->St->Prop}{q:Nat}(h:rA q σ ds K)(m:tF P b0 N σ a w S pl):
  ∃σ' ds' S',K ds' σ'/\(∀b,S b->S' b)/\tF P b0 N σ' a w S' pl/\∀vs,xK (Rd w S pl) vs ds->xK (Rp w S') vs ds':=by
 unfold rA at h
 cases hp:pubs q σ ds with
 |none=>rw[hp]at h;exact h.elim
 |some x=>
  obtain⟨σ',ds'⟩:=x;rw[hp]at h
  obtain⟨S',h1,h2,h3⟩:=zkd _ _ _ _ _ _ hp m;exact⟨σ',ds',S',h,h1,h2,h3⟩
theorem ME(w:World)(o:Obj):(w.alloc o).heap.size=w.heap.size+1:=by simp
theorem Qw(w:World)(o:Obj):Below w.heap.size w (w.alloc o):=(Below.refl _ _).alloc (IN _) o
theorem MF(m:tF P b0 N σ a w S pl)(o:Obj):∀b,S b->(w.alloc o).heap[b]? =w.heap[b]? :=λb hb=>Below.heap_alloc w o b (m.lt b hb)
theorem zcs(m:tF P b0 N σ a w S pl)(k:Nat)(hst:stabK k=false){vs:Array Value}{cs:AcT}(T:AcN)(h:xK (Rd w S pl) vs.toList cs)(hty:tyC T cs)(hr:∀d∈cs,d.ref≠some k):
  tF P b0 N (σ.mk' k (.cells cs)) a (w.alloc (.cells vs T)) S (Ng pl k (.pointer (some ⟨w.heap.size,0,none⟩))):=by
 refine m.mk' (w':=w.alloc (.cells vs T)) k hst (.cells cs) (.pointer (some ⟨w.heap.size,0,none⟩)) (Qw w _) (λb hb=>by injection hb with hb;subst hb;exact⟨IN _,by show w.heap.size<_;rw[ME];omega⟩) λpl' hpl=> ?_
 refine⟨w.heap.size,vs,T,rfl,heap_alloc_new w _,by simpa using h.len,λi d hd=> ?_,hty⟩
 obtain⟨u,hu,hr'⟩:=h.at hd;have e:vs.getD i undef=u:=by rw[Aaj];rw[AaE]at hu;rw[hu];rfl
 rw[e];exact hr'.mono (MF m _) (λ_ h=>h) λj hj=>hpl j λej=>hr d (AaS hd) (by rw[hj,ej])
theorem Ok(m:tF P b0 N σ a w S pl){vs:Array Value}{cs:AcT}(T:AcN)(h:xK (Rp w S) vs.toList cs):
  tF P b0 N σ a (w.alloc (.cells vs T)) (λb=>S b\/b=w.heap.size) pl/\Rp (w.alloc (.cells vs T)) (λb=>S b\/b=w.heap.size) (.pointer (some ⟨w.heap.size,0,none⟩)) (.iptr cs 0):=by
 refine⟨m.newS _,Rp.iptr_mk (.inr rfl) λi d hd=> ?_⟩
 obtain⟨u,hu,hr'⟩:=h.at hd;refine⟨u,?_,hr'.mono (MF m _) λ_ h=> .inl h⟩
 rw[World.cell?_alloc_new];simpa using hu
theorem zgS(k b:Nat):Rd w S (Ng pl k (.pointer (some ⟨b,0,none⟩))) (.pointer (some ⟨b,0,none⟩)) (.ptr k 0):=⟨b,As rfl,rfl⟩
theorem znz(F:vE P E)(m:tF P b0 N σ a w S pl){x:Operand}(ho:o.op=.move x\/o.op=.assign x)(h:zeF E A o (σ.ev x) σ K)(hn:sV P b0 N o a K next):o.wp P a w next Q:=by
 have hrun:(execOp a.eval o).run P w=.ok (.value (a.eval x)) w:=by
  rcases ho with ho|ho<;>·unfold execOp;rw[ho];rfl
 have hx:=tB m x;have plain:∀d,σ.ev x=d->K d σ->o.wp P a w next Q:=λd e h=>yT hrun (hn _ _ _ _ _ _ h m (e▸hx))
 unfold zeF at h
 split at h
 ·rename_i e
  rw[e]at hx
  have hv:=(hx.flat (d:=.nil) rfl).nil_inv;split at h
  ·rename_i te t hl
   split at h
   ·rename_i k hk
    refine yT hrun (hn _ _ _ _ _ _ h (m.mk' (w':=w) k (eQ hk) (.row te t []) (.slice none 0 0) (Below.refl _ _) (λb hb=>by cases hb) λpl' _=> ?_) ?_)
    ·exact⟨by simp[lim],[],rfl,by simpa using World.ownsRow_nil w 0 te t.size,by simp,by simp⟩
    ·show a.eval x=_;rw[hv];exact(As rfl).symm
   ·cases hb:zsb A o.dst with
    |true=>rw[hb,AI]at h;exact yT hrun (hn _ _ _ _ _ _ h m (by rw[hv];exact Rp.rd (.slN _ _ _ _ ⟨[.slice none 0 0],rfl,none,0,rfl,by simp,by simp,by simp,λ_=>rfl,λhn=>At hn (by simp)⟩ (λe=>by cases e) λ_=>rfl)))
    |false=>
    rw[hb,Aag]at h
    exact yT hrun (hn _ _ _ _ _ _ h m (by rw[hv];exact Rp.rd (.sl _ _ _ ⟨[.slice none 0 0],rfl,none,0,rfl,by simp,by simp,by simp,λ_=>rfl,λhn=>At hn (by simp)⟩)))
  ·exact plain _ e h
 ·rename_i d hne
  exact plain _ rfl h
theorem zqj(m:tF P b0 N σ a w S pl){c x y:Operand}(ho:o.op=.pick c x y){t:Bool}(hc:σ.ev c=.bool t)(h:zT t (K (σ.ev x) σ) (K (σ.ev y) σ))(hn:sV P b0 N o a K next):o.wp P a w next Q:=by
 have hcv:a.eval c=.bool t:=by have:=tB m c;rw[hc]at this;exact(this.flat (d:=.bool t) rfl).bool_inv
 have hrun:(execOp a.eval o).run P w=.ok (.value (if t then a.eval x else a.eval y)) w:=by
  unfold execOp;rw[ho];simp only[hcv];rfl
 cases t
 ·exact yT hrun (hn _ _ _ _ _ _ h m (tB m y))
 ·exact yT hrun (hn _ _ _ _ _ _ h m (tB m x))
theorem zct:∀ {vs:List Value} {ds:AcT},GX vs ds=true->∀d∈ds,d.ref=none
 |[],[],_,d,hd=>by cases hd
 |v::vs,e::ds,h,d,hd=>by
  simp only[GX,If]at h
  rcases Aad.1 hd with rfl|hd
  ·have h1:=h.1
   cases d
   case own k=>cases v<;>simp[zB]at h1
   case ptr k off=>cases v<;>simp[zB]at h1
   case oelt k sz i off=>cases v<;>simp[zB]at h1
   case ownN k=>cases v<;>simp[zB]at h1
   case clp f bd k off=>cases v<;>simp[zB]at h1
   case slf k=>cases v<;>simp[zB]at h1
   all_goals rfl
  ·exact zct h.2 d hd
 |[],_::_,h,_,_=>by simp[GX]at h
 |_::_,[],h,_,_=>by simp[GX]at h
theorem znA(F:vE P E)(m:tF P b0 N σ a w S pl){T:AcN}(ho:o.op=.alloc T)(h:Di E A o T σ K)(hn:sV P b0 N o a K next):o.wp P a w next Q:=by
 unfold Di at h
 split at h
 ·rename_i ag cs hl
  obtain⟨i,z,u,hi,hz,hsz,hu,hag,hzb⟩:=(F.zs T ag cs hl).ex
  have hrun:(execOp a.eval o).run P w=.ok (.value (.pointer (some ⟨w.heap.size,0,none⟩))) (w.alloc (.cells z.cells T)):=by
   unfold execOp;rw[ho];simp[Instr.alloc,zeroValue,typeInfo,hi,hz,newVar,newRow,newObj];rfl
  have hrd:xK (Rp w S) z.cells.toList cs:=MD hzb;split at h
  ·rename_i k hk
   exact yT hrun (hn _ _ _ _ _ _ h (zcs m k (eQ hk) T hrd.rd (F.zs T ag cs hl).ty λd hd e=>by rw[zct hzb d hd]at e;cases e) (zgS k _))
  ·exact yT hrun (hn _ _ _ _ _ _ h (Ok m T hrd).1 (Ok m T hrd).2.rd)
 ·exact h.elim
theorem zsy(F:vE P E)(m:tF P b0 N σ a w S pl){T:AcN}{x:Operand}(ho:o.op=.box T x)(h:zns E A o T (σ.ev x) σ K)(hn:sV P b0 N o a K next):o.wp P a w next Q:=by
 have hrun:(execOp a.eval o).run P w=.ok (.value (.pointer (some ⟨w.heap.size,0,none⟩))) (w.alloc (.cells (a.eval x).cells T)):=by
  unfold execOp;rw[ho];simp[Instr.box,newVar,newRow,newObj];rfl
 have hx:=J5 (E:=E) T (tB m x);unfold zns at h
 split at h
 ·rename_i cs hc
  have hcs:=zlH m hx hc;split at h
  ·rename_i k hk
   cases hr:zci k T cs with
   |true=>rw[hr]at h;exact h.elim
   |false=>
    rw[hr,Aag]at h
    simp only[zci,AbG]at hr
    refine yT hrun (hn _ _ _ _ _ _ h (zcs m k (eQ hk) T hcs (λe=>by have:=hr.2;rw[e]at this;simpa using this) λd hd e=> ?_) (zgS k _))
    have:=AaF.1 hr.1 d hd;simp only[znr,e,xA.2 (rfl:k=k),not_true_eq_false]at this
  ·obtain⟨σ',ds',S',hK,hS,m',hv⟩:=pL h m
   exact yT hrun (hn _ _ _ _ _ _ hK (Ok m' T (hv _ hcs)).1 (Ok m' T (hv _ hcs)).2.rd)
 ·exact h.elim
theorem MG(m:tF P b0 N σ a w S pl)(h:Rd w S pl v d){cs:AcT}(hc:aM σ d=some cs):
  ∃b off,v=.pointer (some ⟨b,off,none⟩)/\∀j d,cs[j]? =some d->∃u,w.cell? ⟨b,off+j,none⟩=some u/\Rd w S pl u d:=by
 cases d<;>simp only[aM]at hc
 case ptr k off=>
  obtain⟨b,hp,rfl⟩:=h;cases ho:σ.ob k with
  |none=>rw[ho]at hc;cases hc
  |some o=>
   cases o with
   |row e t xs=>rw[ho]at hc;cases hc
   |mp kt vt es=>rw[ho]at hc;cases hc
   |val ds=>rw[ho]at hc;cases hc
   |cells ds=>
    rw[ho]at hc;injection hc with hc;subst hc
    obtain⟨b',vs,T,e1,e2,e3,e4,_⟩:=m.hp k _ ho;rw[hp]at e1;injection e1 with e1;injection e1 with e1;injection e1 with e1;subst e1
    refine⟨b,off,rfl,λj d hd=> ?_⟩
    rw[Aby]at hd
    refine⟨vs.getD (off+j) undef,?_,e4 _ d hd⟩;have hi:off+j<vs.size:=by rw[e3];exact(AaB.1 hd).1
    rw[cell_of_row w b _ vs T (0,0) e2];simp[Aaj,hi]
 case iptr ds off=>
  injection hc with hc;subst hc
  obtain⟨b,rfl,hb,hcell⟩:=(h.flat (d:=.iptr ds off) rfl).iptr_inv;refine⟨b,off,rfl,λj d hd=> ?_⟩
  rw[Aby]at hd
  obtain⟨u,hu,hr⟩:=hcell _ d hd;exact⟨u,hu,hr.rd⟩
 case elt t xs i off=>
  injection hc with hc;subst hc
  obtain⟨b,o',c,rfl,hi,hr⟩:=(h.flat (d:=.elt t xs i off) rfl).elt_inv;obtain⟨b',o'',cs',e,hb,hrd,hcell⟩:=Qo hr hi;injection e with e;injection e with e1 e2;subst e1 e2
  have ha:=cO t hrd;refine⟨b,o'+i*t.size+off,rfl,λj d hd=> ?_⟩
  rw[Aby]at hd
  rw[Aar,Aal hi,Ab0]at hd
  obtain⟨u,hu,hr'⟩:=ha.at hd;refine⟨u,?_,hr'.rd⟩;have:=hcell _ u hu;rw[<-Ty.size_eq]at this
  rw[show o'+i*t.size+off+j=o'+i*t.size+(off+j) by omega]
  exact this
 case oelt k sz i off=>
  obtain⟨b,n,c,hp,hi,rfl⟩:=h;cases ho:σ.ob k with
  |none=>rw[ho]at hc;cases hc
  |some o=>
   cases o with
   |cells ds=>rw[ho]at hc;cases hc
   |mp kt vt es=>rw[ho]at hc;cases hc
   |val ds=>rw[ho]at hc;cases hc
   |row e t xs=>
    rw[ho]at hc
    simp only at hc
    cases hz:Nat.beq sz t.size with
    |false=>rw[hz]at hc;cases hc
    |true=>
     rw[hz,AI]at hc;injection hc with hc;subst hc
     obtain⟨_,css,h1,h2,h3,h4⟩:=m.hp k _ ho;rw[xA.1 hz];rcases h2.2 with⟨e,_⟩|⟨g,cap,cur,e,_,hg,hcap,hmax,hcur,htake⟩
     ·rw[hp]at e;cases e
     ·have e':=e
      rw[hp]at e;injection e with e e5 e6;injection e with e;injection e with e;subst e e5
      refine⟨b,i*t.size+off,rfl,λj d hd=> ?_⟩
      rw[Aby,Aar,Aal hi,Ab0]at hd
      have hci:css[i]? =some (css[i]'(by omega)):=Aal (by omega)
      have hrd:=h4 i xs[i] _ (Aal hi) hci;obtain⟨u,hu,hr'⟩:=(cO t hrd).at hd;refine⟨u,?_,hr'.rd⟩;have hf:=Ea css h3 i (off+j) _ u hci hu;have:=h2.cells (g:=b) (by rw[e'];rfl) _ _ hf
      rw[<-this,show i*t.size+off+j=i*t.size+(off+j) by omega]
      unfold Addr.add;split
      ·rename_i e0;rw[e0]
      ·simp
 all_goals cases hc
theorem zcu(R:Value->D->Prop)(b:Nat):∀(cs:AcT) (off:Nat),(∀j d,cs[j]? =some d->∃u,w.cell? ⟨b,off+j,none⟩=some u/\R u d)->
  ∃vs:List Value,xK R vs cs/\∀(j:Nat) (u:Value),vs[j]? =some u->w.cell? ⟨b,off+j,none⟩=some u
 |[],_,_=>⟨[],.nil,λj u h=>by simp at h⟩
 |d::cs,off,h=>by
  obtain⟨u,hu,hr⟩:=h 0 d rfl
  obtain⟨vs,h1,h2⟩:=zcu R b cs (off+1) λj d hd=>by
   obtain⟨u,hu,hr⟩:=h (j+1) d (by simpa using hd)
   exact⟨u,by rw[show off+1+j=off+(j+1) by omega];exact hu,hr⟩
  refine⟨u::vs,.cons hr h1,λj v hv=> ?_⟩
  cases j with
  |zero=>simp at hv;subst hv;exact hu
  |succ j=>rw[show off+(j+1)=off+1+j by omega];exact h2 j v (by simpa using hv)
theorem U1{T:AcN}{u:TypeDesc}(hu:P.underlying T=some u):(isAgg T).run P w=.ok (zny u) w:=by
 unfold isAgg;simp only[IT,run_underlying hu,No];cases u<;>rfl
theorem zqk(F:vE P E)(m:tF P b0 N σ a w S pl){T:AcN}{x:Operand}(ho:o.op=.load T x)(h:zka E A T (σ.ev x) σ K)(hn:sV P b0 N o a K next):o.wp P a w next Q:=by
 have hx:=tB m x;unfold zka at h
 split at h
 ·rename_i ag zs hl
  obtain⟨i,z,u,hi,hz,hsz,hu,hag,hzb⟩:=(F.zs T ag zs hl).ex;split at h
  ·rename_i cs hc
   obtain⟨b,off,hv,hcell⟩:=MG m hx hc;cases hle:Nat.ble zs.length cs.length with
   |false=>rw[hle]at h;exact h.elim
   |true=>
    rw[hle,AI]at h
    have hle:=Aau hle;split at h
    ·rename_i hl'
     obtain⟨vs,h1,h2⟩:=zcu (Rd w S pl) b (cs.take zs.length) off λj d hd=>hcell j d (by
      rw[Abs]at hd;split at hd
      ·exact hd
      ·cases hd)
     have hlen:vs.length=zs.length:=by rw[h1.len,Aak];omega
     have hload:(loadCells ⟨b,off,none⟩ zs.length).run P w=.ok vs.toArray w:=by
      rw[<-hlen];refine run_loadCells_list (P:=P) w ⟨b,off,none⟩ vs λj u hu=> ?_
      have:=h2 j u hu;unfold Addr.add;split
      ·rename_i e;subst e;simpa using this
      ·exact this
     have hrun:(execOp a.eval o).run P w=.ok (.value (.agg vs.toArray)) w:=by
      unfold execOp;rw[ho];have hs:(sizeOf T).run P w=.ok zs.length w:=by simp[sizeOf,typeInfo,hi,hsz]
      simp only[Instr.loadAt,hv,Instr.sureAddr,loadVar,IT,TO,No,U1 hu,hag,if_true,hs,hload]
     obtain⟨σ',ds',S',hK,hS,m',hv'⟩:=pL h m;have hr:=hv' vs h1;refine yT hrun (hn _ _ _ _ _ _ hK m' (Rp.rd (.agg _ _ (by simpa using hr.len) λj d hd=> ?_)))
     obtain⟨u,hu,hr'⟩:=hr.at hd;rw[Aaj];simpa[hu]using hr'
    ·have hone:=(F.zs T _ zs hl).one rfl
     cases cs with
     |cons d r=>
      obtain⟨u',hu',hr⟩:=hcell 0 d rfl
      have hld:(load ⟨b,off,none⟩).run P w=.ok u' w:=by
       have:w.cell? ⟨b,off,none⟩=some u':=hu';simp only[load,Sem.run,this]
      have hrun:(execOp a.eval o).run P w=.ok (.value u') w:=by
       unfold execOp;rw[ho];simp only[Instr.loadAt,hv,Instr.sureAddr,loadVar,IT,TO,No,U1 hu,hag,AaR,if_false,hld]
      exact yT hrun (hn _ _ _ _ _ _ h m hr)
     |nil=>exact h.elim
  ·exact h.elim
 ·exact h.elim
end
end Go.Proofs.YtdnmkinmcdihnaaGreatDoor
namespace Go.Proofs.YtdnmkinmcdihnaaGreatDoor
open Go.RowKit
variable[Lo]
section
variable {P:AcO}{E:TE}{A:xF}{b0:Yo}{w w':World}{S S':Nat->Prop}{pl pl':Nat->Value}{N:Nat}{σ:St}{a:Act}{v:Value}{d:D}{o:Oper}{K:D->St->Prop}{next:Act->World->Prop}{Q:Exit->Act->World->Prop}
theorem H6(F:vE P E){T:AcN}{f off:Nat}(h:zcl E T f=some off)(b q:Nat):(Instr.fieldAt T (.pointer (some ⟨b,q,none⟩)) f).run P w=.ok (.pointer (some ⟨b,q+off,none⟩)) w:=by
 unfold zcl at h
 split at h
 ·rename_i offs hl
  split at h
  ·rename_i off' sz hf
   injection h with h;subst h
   obtain⟨fs,hu,hm,hz⟩:=F.fld T offs hl
   obtain⟨fd,hfd,hfm⟩:∃fd,fs[f]? =some fd/\(P.info? fd.type).map (λi=>(fd.offset,i.size))=some (off',sz):=by
    have key:∀(l:List Field) (offs:List (Nat×Nat)) (f:Nat),l.mapM (λf=>(P.info? f.type).map λi=>(f.offset,i.size))=some offs->offs[f]? =some (off',sz)->
      ∃fd,l[f]? =some fd/\(P.info? fd.type).map (λi=>(fd.offset,i.size))=some (off',sz):=by
     intro l
     induction l with
     |nil=>intro offs f h1 h2;simp at h1;subst h1;simp at h2
     |cons x l ih=>
      intro offs f h1 h2;rw[List.mapM_cons]at h1
      cases hx:(P.info? x.type).map λi=>(x.offset,i.size)with
      |none=>simp[hx]at h1
      |some y=>
       rw[hx]at h1
       cases hr:l.mapM (λf=>(P.info? f.type).map λi=>(f.offset,i.size))with
       |none=>simp[hr]at h1
       |some ys=>
        rw[hr]at h1
        simp at h1
        subst h1;cases f with
        |zero=>simp at h2;subst h2;exact⟨x,rfl,hx⟩
        |succ f=>simpa using ih ys f hr (by simpa using h2)
    obtain⟨fd,h1,h2⟩:=key fs.toList offs f hm hf;exact⟨fd,by simpa using h1,h2⟩
   cases hi:P.info? fd.type with
   |none=>rw[hi]at hfm;cases hfm
   |some i=>
    rw[hi]at hfm
    simp only[Abl,Option.some.injEq,Prod.mk.injEq]at hfm
    have hne:i.size≠0:=by
     have:=Aav.1 hz _ (AaS hf);intro e;rw[<-hfm.2,e]at this
     simp at this
    have hs:(sizeOf fd.type).run P w=.ok i.size w:=by simp[sizeOf,typeInfo,hi]
    have hplace:(fieldPlace ⟨b,q,none⟩ fd).run P w=.ok ⟨b,q+off',none⟩ w:=by
     simp only[fieldPlace,IT,hs,No,An hne,TO,hfm.1];unfold Addr.add;split
     ·rename_i e;simp[e]
     ·rfl
    simp[Instr.fieldAt,IT,run_underlying hu,No,hfd,Instr.sureAddr,hplace]
  ·cases h
 ·cases h
theorem znB(F:vE P E)(m:tF P b0 N σ a w S pl){T:AcN}{x:Operand}{f:Nat}(ho:o.op=.fieldAddr T x f)(h:Dj E T (σ.ev x) f λd=>K d σ)(hn:sV P b0 N o a K next):o.wp P a w next Q:=by
 have hx:=tB m x
 have run:∀b q off,a.eval x=.pointer (some ⟨b,q,none⟩)->zcl E T f=some off->(execOp a.eval o).run P w=.ok (.value (.pointer (some ⟨b,q+off,none⟩))) w:=λb q off e hf=>by
  unfold execOp;rw[ho];simp only[e,IT,H6 F hf,No,TO]
 unfold Dj at h
 split at h
 ·rename_i off hf
  split at h
  ·rename_i k q e
   rw[e]at hx
   obtain⟨b,hp,hv⟩:=hx;exact yT (run b q off hv hf) (hn _ _ _ _ _ _ h m ⟨b,hp,rfl⟩)
  ·rename_i cs q e
   rw[e]at hx
   obtain⟨b,hv,hb,hc⟩:=(hx.flat (d:=.iptr cs q) rfl).iptr_inv;exact yT (run b q off hv hf) (hn _ _ _ _ _ _ h m (Rp.rd (Rp.iptr_mk hb hc)))
  ·rename_i t xs i q e
   rw[e]at hx
   obtain⟨b,o',c,hv,hi,hr⟩:=(hx.flat (d:=.elt t xs i q) rfl).elt_inv';refine yT (run b _ off hv hf) (hn _ _ _ _ _ _ h m ?_);rw[show o'+i*t.size+q+off=o'+i*t.size+(q+off) by omega]
   exact Rp.rd (.elt t xs i (q+off) b o' c hi hr)
  ·rename_i k sz i q e
   rw[e]at hx
   obtain⟨b,n,c,hp,hi,hv⟩:=hx;refine yT (run b _ off hv hf) (hn _ _ _ _ _ _ h m ⟨b,n,c,hp,hi,?_⟩);rw[show i*sz+q+off=i*sz+(q+off) by omega]
  ·exact h.elim
 ·exact h.elim
theorem Dm{n:Int}{len:Nat}(h:wW n len=true):0<=n/\n<(len:Int):=by simpa[wW]using h
theorem MH(F:vE P E){T e:AcN}{t:Ty}(h:zW T E.sl=some (e,t)):(sizeOf e).run P w=.ok t.size w:=by
 obtain⟨_,i,z,hi,hz,hs,hb,_⟩:=F.sl T e t h;simp[sizeOf,typeInfo,hi,hs]
theorem H7(F:vE P E){T e:AcN}{t:Ty}(h:zW T E.sl=some (e,t))(b q len c:Nat)(k:IntKind)(n:Int)(h0:0<=n)(h1:n<(len:Int)):
  (Instr.indexAt T (.slice (some ⟨b,q,none⟩) len c) (.int k n)).run P w=.ok (.pointer (some ⟨b,q+n.toNat*t.size,none⟩)) w:=by
 have hu:=(F.sl T e t h).und;simp only[Instr.indexAt,asIntOf,IT,TO,No,run_underlying hu];simp only[h0,h1,Abt,if_true,IT,MH F h,No,TO];unfold Addr.add;split
 ·rename_i e;simp[e]
 ·rfl
theorem zcv(F:vE P E)(m:tF P b0 N σ a w S pl){T:AcN}{x ix:Operand}(ho:o.op=.indexAddr T x ix)(h:T9 E T (σ.ev x) (σ.ev ix) σ λd=>K d σ)(hn:sV P b0 N o a K next):o.wp P a w next Q:=by
 have hx:=tB m x;have hi:=tB m ix;unfold T9 at h
 split at h
 ·rename_i e t' hl
  split at h
  ·rename_i k n ei
   rw[ei]at hi
   have hi:=(hi.flat (d:=.int k n) rfl).int_inv.1;split at h
   ·rename_i t xs ex
    rw[ex]at hx
    cases hz:Nat.beq t'.size t.size with
    |false=>rw[hz]at h;exact h.elim
    |true=>
     rw[hz,AI]at h
     obtain⟨hin,h⟩:=h;obtain⟨h0,h1⟩:=Dm hin;have hr:=(hx.flat (d:=.sl t xs) rfl).sl_inv';obtain⟨A',c,hv,_⟩:=sM hr;have hlt:n.toNat<xs.length:=by omega
     have hr':=hr;rw[hv]at hr'
     obtain⟨b,q,_,hA,_⟩:=Qo hr' hlt;subst hA
     have hrun:(execOp a.eval o).run P w=.ok (.value (.pointer (some ⟨b,q+n.toNat*t'.size,none⟩))) w:=by
      unfold execOp;rw[ho];simp only[hv,hi,IT,H7 F hl b q xs.length c k n h0 h1,No,TO]
     rw[xA.1 hz]at hrun
     exact yT hrun (hn _ _ _ _ _ _ h m (Rp.rd (.elt t xs n.toNat 0 b q c hlt hr')))
   ·rename_i k' ex
    rw[ex]at hx
    have hx:a.eval x=pl k':=hx;split at h
    ·rename_i e' t xs hob
     cases hz:Nat.beq t'.size t.size with
     |false=>rw[hz]at h;exact h.elim
     |true=>
      rw[hz,AI]at h
      obtain⟨hin,h⟩:=h;obtain⟨h0,h1⟩:=Dm hin;obtain⟨_,css,q1,q2,_,_⟩:=m.hp k' _ hob;rcases q2.2 with⟨_,e0⟩|⟨g,cap,cur,ep,_⟩
      ·omega
      ·have hrun:(execOp a.eval o).run P w=.ok (.value (.pointer (some ⟨g,0+n.toNat*t'.size,none⟩))) w:=by
        unfold execOp;rw[ho];simp only[hx,ep,hi,IT,H7 F hl g 0 xs.length cap k n h0 h1,No,TO]
       rw[xA.1 hz]at hrun
       exact yT hrun (hn _ _ _ _ _ _ h m ⟨g,xs.length,cap,ep,by omega,by simp⟩)
    ·exact h.elim
   ·exact h.elim
  ·exact h.elim
 ·exact h.elim
theorem znC(F:vE P E)(m:tF P b0 N σ a w S pl){T:AcN}{x ix:Operand}(ho:o.op=.index T x ix)(h:zcm E T (σ.ev x) (σ.ev ix) λd=>K d σ)(hn:sV P b0 N o a K next):o.wp P a w next Q:=by
 have hx:=tB m x;have hi:=tB m ix;unfold zcm at h
 split at h
 ·rename_i s k n ex ei
  rw[ex]at hx;rw[ei]at hi
  have hi:=(hi.flat (d:=.int k n) rfl).int_inv.1;have hx:=(hx.flat (d:=.str s) rfl).str_inv.1;cases hm:sH T E.strs with
  |false=>rw[hm]at h;exact h.elim
  |true=>
   rw[hm,AI]at h
   obtain⟨hin,h⟩:=h;obtain⟨h0,h1⟩:=Dm hin;have hlt:n.toNat<s.size:=by omega
   have hs:s[n.toNat]? =some s[n.toNat]:=by simp[hlt]
   have hrun:(execOp a.eval o).run P w=.ok (.value (.int .u8 (lU s n.toNat))) w:=by
    unfold execOp;rw[ho];simp only[hx,hi,Instr.index,asIntOf,IT,TO,No,run_underlying (F.strs T hm),h0,if_true,hs]
    have:s[n.toNat].toNat=(s.data.getD n.toNat 0).toNat:=by
     rw[Aaj];have:n.toNat<s.data.size:=hlt;rw[AaW this];rfl
    rw[lU,this]
   exact yT hrun (hn _ _ _ _ _ _ h m (Rp.rd (.int _ _ (by unfold inK lU;have:=(s.data.getD n.toNat 0).toNat_lt;omega))))
 ·exact h.elim
theorem zgT(m:tF P b0 N σ a w S pl){x:Operand}{i:Nat}(ho:o.op=.extract x i)(h:LL (σ.ev x) i λd=>K d σ)(hn:sV P b0 N o a K next):o.wp P a w next Q:=by
 have hx:=tB m x;unfold LL at h
 split at h
 ·rename_i ds e
  rw[e]at hx
  obtain⟨vs,hv,hl,hr⟩:=(hx.flat (d:=.tup ds) rfl).tup_inv;split at h
  ·rename_i d hd
   have hi:i<vs.size:=by rw[hl];exact(AaB.1 hd).1
   have hrun:(execOp a.eval o).run P w=.ok (.value (vs.getD i undef)) w:=by
    unfold execOp;rw[ho];simp only[hv,Instr.extract,AaW hi,IT,TO,No];rw[Aaj,AaW hi];rfl
   exact yT hrun (hn _ _ _ _ _ _ h m (hr i d hd).rd)
  ·exact h.elim
 ·exact h.elim
theorem zeJ(m:tF P b0 N σ a w S pl){x:Operand}(ho:o.op=.nilCheck x)(h:Ei P E A o σ K)(hn:sV P b0 N o a K next):o.wp P a w next Q:=by
 have hx:=tB m x
 have run:∀p,a.eval x=.pointer (some p)->(execOp a.eval o).run P w=.ok (.value (a.eval x)) w:=λp e=>by
  unfold execOp;rw[ho];simp only[e];rfl
 unfold Ei at h
 rw[ho]at h
 simp only at h
 split at h
 ·rename_i k off e
  rw[e]at hx
  obtain⟨b,hp,hv⟩:=hx;exact yT (run _ hv) (hn _ _ _ _ _ _ h m ⟨b,hp,hv⟩)
 ·rename_i cs off e
  rw[e]at hx
  obtain⟨b,hv,_⟩:=(hx.flat (d:=.iptr cs off) rfl).iptr_inv;exact yT (run _ hv) (hn _ _ _ _ _ _ h m hx)
 ·rename_i t xs i off e
  rw[e]at hx
  obtain⟨b,o',c,hv,_⟩:=(hx.flat (d:=.elt t xs i off) rfl).elt_inv;exact yT (run _ hv) (hn _ _ _ _ _ _ h m hx)
 ·rename_i k sz i off e
  rw[e]at hx
  obtain⟨b,n,c,hp,hi,hv⟩:=hx;exact yT (run _ hv) (hn _ _ _ _ _ _ h m ⟨b,n,c,hp,hi,hv⟩)
 ·exact h.elim
theorem zaN(op:BinOp)(T:AcN)(x y:Operand)(u v:Value)(h:∀cs,u≠ .agg cs)(h':u≠ .nilIface):(eqGuard op T x y u v).run P w=.ok () w:=by
 cases u<;>first|exact At rfl h'|exact At rfl (h _)|(unfold eqGuard;cases op<;>rfl)
theorem zql{a b:Int}(ha:xE a):xE (a.tmod b):=by
 unfold xE at*
 have h1:(a.tmod b).natAbs<=a.natAbs:=by rw[Int.natAbs_tmod];exact Nat.mod_le _ _
 have h2:0<=a->0<=a.tmod b:=λh=>Int.tmod_nonneg _ h
 have h3:a<=0->a.tmod b<=0:=λh=>by
  have:=Int.tmod_nonneg b (a:= -a) (by omega)
  rw[Int.neg_tmod]at this;omega
 by_cases h:0<=a
 ·have:=h2 h;omega
 ·have:=h3 (by omega);omega
theorem zsz(F:vE P E)(m:tF P b0 N σ a w S pl){op:BinOp}{T T':AcN}{x y:Operand}(ho:o.op=.binOp op T x y T')(h:znt E op T (σ.ev x) (σ.ev y) λd=>K d σ)(hn:sV P b0 N o a K next):o.wp P a w next Q:=by
 have hx:=tB m x;have hy:=tB m y
 have run:∀u,(∀cs,a.eval x≠ .agg cs)->a.eval x≠ .nilIface->(binOp op T (a.eval x) (a.eval y)).run P w=.ok u w->(execOp a.eval o).run P w=.ok (.value u) w:=λu h1 h2 h3=>by
  unfold execOp;rw[ho];simp only[IT,zaN op T x y _ _ h1 h2,No,h3,TO]
 unfold znt at h
 split at h
 ·rename_i p q ex ey
  rw[ex]at hx;rw[ey]at hy
  obtain⟨hx,kx⟩:=(hx.flat (d:=.int .i64 p) rfl).int_inv;obtain⟨hy,ky⟩:=(hy.flat (d:=.int .i64 q) rfl).int_inv;have n1:∀cs,a.eval x≠ .agg cs:=λcs e=>by rw[hx]at e;cases e
  have n2:a.eval x≠ .nilIface:=λe=>by rw[hx]at e;cases e
  have ib:∀n:Int,Rd w S pl (.int .i64 (yU n)) (.int .i64 (yU n)):=λn=>Rp.rd (.int _ _ (zce n))
  have bb:∀b:Bool,Rd w S pl (.bool b) (.bool b):=λb=>Rp.rd (.bool b)
  split at h
  case h_1=>exact yT (run _ n1 n2 (by rw[hx,hy];rfl)) (hn _ _ _ _ _ _ h m (ib _))
  case h_2=>exact yT (run _ n1 n2 (by rw[hx,hy];rfl)) (hn _ _ _ _ _ _ h m (ib _))
  case h_3=>exact yT (run _ n1 n2 (by rw[hx,hy];rfl)) (hn _ _ _ _ _ _ h m (ib _))
  case h_4=>exact yT (run (.int .i64 (yU (p.tdiv q))) n1 n2 (by rw[hx,hy];simp[binOp,Op.intDiv,h.1];rfl)) (hn _ _ _ _ _ _ h.2 m (ib _))
  case h_5=>exact yT (run (.int .i64 (p.tmod q)) n1 n2 (by rw[hx,hy];simp[binOp,Op.intDiv,h.1])) (hn _ _ _ _ _ _ h.2 m (Rp.rd (.int _ _ (zql kx))))
  case h_6=>exact yT (run (.bool (decide (p=q))) n1 n2 (by rw[hx,hy];rfl)) (hn _ _ _ _ _ _ h m (bb _))
  case h_7=>exact yT (run (.bool (!decide (p=q))) n1 n2 (by rw[hx,hy];rfl)) (hn _ _ _ _ _ _ h m (bb _))
  case h_8=>exact yT (run _ n1 n2 (by rw[hx,hy];rfl)) (hn _ _ _ _ _ _ h m (bb _))
  case h_9=>exact yT (run _ n1 n2 (by rw[hx,hy];rfl)) (hn _ _ _ _ _ _ h m (bb _))
  case h_10=>exact yT (run (.bool (decide (q<p))) n1 n2 (by rw[hx,hy];rfl)) (hn _ _ _ _ _ _ h m (bb _))
  case h_11=>exact yT (run (.bool (decide (q<=p))) n1 n2 (by rw[hx,hy];rfl)) (hn _ _ _ _ _ _ h m (bb _))
  case h_12=>exact h.elim
 ·rename_i p q ex ey
  rw[ex]at hx;rw[ey]at hy
  obtain⟨hx,kx⟩:=(hx.flat (d:=.int .u8 p) rfl).int_inv;obtain⟨hy,ky⟩:=(hy.flat (d:=.int .u8 q) rfl).int_inv;have n1:∀cs,a.eval x≠ .agg cs:=λcs e=>by rw[hx]at e;cases e
  have n2:a.eval x≠ .nilIface:=λe=>by rw[hx]at e;cases e
  have bb:∀b:Bool,Rd w S pl (.bool b) (.bool b):=λb=>Rp.rd (.bool b)
  split at h
  case h_1=>exact yT (run (.bool (decide (p=q))) n1 n2 (by rw[hx,hy];rfl)) (hn _ _ _ _ _ _ h m (bb _))
  case h_2=>exact yT (run (.bool (!decide (p=q))) n1 n2 (by rw[hx,hy];rfl)) (hn _ _ _ _ _ _ h m (bb _))
  case h_3=>exact yT (run _ n1 n2 (by rw[hx,hy];rfl)) (hn _ _ _ _ _ _ h m (bb _))
  case h_4=>exact yT (run _ n1 n2 (by rw[hx,hy];rfl)) (hn _ _ _ _ _ _ h m (bb _))
  case h_5=>exact yT (run (.bool (decide (q<p))) n1 n2 (by rw[hx,hy];rfl)) (hn _ _ _ _ _ _ h m (bb _))
  case h_6=>exact yT (run (.bool (decide (q<=p))) n1 n2 (by rw[hx,hy];rfl)) (hn _ _ _ _ _ _ h m (bb _))
  case h_7=>exact h.elim
 ·rename_i p q ex ey
  rw[ex]at hx;rw[ey]at hy
  obtain⟨hx,kx⟩:=(hx.flat (d:=.str p) rfl).str_inv;obtain⟨hy,ky⟩:=(hy.flat (d:=.str q) rfl).str_inv;have n1:∀cs,a.eval x≠ .agg cs:=λcs e=>by rw[hx]at e;cases e
  have n2:a.eval x≠ .nilIface:=λe=>by rw[hx]at e;cases e
  have bb:∀b:Bool,Rd w S pl (.bool b) (.bool b):=λb=>Rp.rd (.bool b)
  have eqs:(p.toList==q.toList)=decide (p=q):=by
   rw[AaO];simp only[beq_iff_eq,decide_eq_true_eq];refine⟨λe=> ?_,λe=>by rw[e]⟩
   apply ByteArray.ext;apply Array.ext';rw[AbP,AbP]at e;exact e
  split at h
  case h_1=>exact yT (run (.bool (decide (p=q))) n1 n2 (by rw[hx,hy,<-eqs];rfl)) (hn _ _ _ _ _ _ h m (bb _))
  case h_2=>exact yT (run (.bool (!decide (p=q))) n1 n2 (by rw[hx,hy,<-eqs];rfl)) (hn _ _ _ _ _ _ h m (bb _))
  case h_3=>
   refine yT (run (.string (p++q)) n1 n2 ?_) (hn _ _ _ _ _ _ h.2 m (Rp.rd (.str _ (by rw[Of];exact h.1))))
   rw[hx,hy]
   have:¬(((p.size+q.size:Nat):Int)>IntKind.i64.max):=by
    have:IntKind.i64.max=9223372036854775807:=by decide
    rw[this];have:=h.1;omega
   simp only[binOp,Op.stringOp,An this,TO]
  case h_4=>exact h.elim
 ·rename_i p q ex ey
  rw[ex]at hx;rw[ey]at hy
  have hx:=(hx.flat (d:=.bool p) rfl).bool_inv;have hy:=(hy.flat (d:=.bool q) rfl).bool_inv;have n1:∀cs,a.eval x≠ .agg cs:=λcs e=>by rw[hx]at e;cases e
  have n2:a.eval x≠ .nilIface:=λe=>by rw[hx]at e;cases e
  have bb:∀b:Bool,Rd w S pl (.bool b) (.bool b):=λb=>Rp.rd (.bool b)
  cases hm:sH T E.bools with
  |false=>rw[hm]at h;exact h.elim
  |true=>
   rw[hm,AI]at h
   have heq:(Op.equal T (.bool p) (.bool q)).run P w=.ok (p==q) w:=by
    exact run_equal_bool w T p q (F.bools T hm)
   split at h
   case h_1=>exact yT (run (.bool (p==q)) n1 n2 (by rw[hx,hy];simp only[binOp,IT,heq,No,TO])) (hn _ _ _ _ _ _ h m (bb _))
   case h_2=>exact yT (run (.bool (!(p==q))) n1 n2 (by rw[hx,hy];simp only[binOp,IT,heq,No,TO])) (hn _ _ _ _ _ _ h m (bb _))
   case h_3=>exact h.elim
 ·exact h.elim
theorem ztP(m:tF P b0 N σ a w S pl){op:UnOp}{T:AcN}{x:Operand}(ho:o.op=.unOp op T x)(h:unD op (σ.ev x) λd=>K d σ)(hn:sV P b0 N o a K next):o.wp P a w next Q:=by
 have hx:=tB m x;unfold unD at h
 split at h
 ·rename_i b e
  rw[e]at hx
  have hx:=(hx.flat (d:=.bool b) rfl).bool_inv;have hrun:(execOp a.eval o).run P w=.ok (.value (.bool !b)) w:=by unfold execOp;rw[ho];simp only[hx];rfl
  exact yT hrun (hn _ _ _ _ _ _ h m (Rp.rd (.bool _)))
 ·rename_i n e
  rw[e]at hx
  have hx:=(hx.flat (d:=.int .i64 n) rfl).int_inv.1;have hrun:(execOp a.eval o).run P w=.ok (.value (.int .i64 (yU (0-n)))) w:=by unfold execOp;rw[ho];simp only[hx];rfl
  exact yT hrun (hn _ _ _ _ _ _ h m (Rp.rd (.int _ _ (zce _))))
 ·exact h.elim
theorem zqm(m:tF P b0 N σ a w S pl){c:Call}(ho:o.op=.call c)(hc:c.callee=.builtin .max){x y:Operand}(ha:c.args.toList=[x,y])(h:zqf (σ.ev x) (σ.ev y) λd=>K d σ)(hn:sV P b0 N o a K next):o.wp P a w next Q:=by
 have hx:=tB m x;have hy:=tB m y;unfold zqf at h
 split at h
 ·rename_i p q ex ey
  rw[ex]at hx;rw[ey]at hy
  obtain⟨hx,kx⟩:=(hx.flat (d:=.int .i64 p) rfl).int_inv;obtain⟨hy,ky⟩:=(hy.flat (d:=.int .i64 q) rfl).int_inv;have ha':c.args= #[x,y]:=by apply Array.ext';simpa using ha
  have hrun:(execOp a.eval o).run P w=.ok (.value (.int .i64 (if q>p then q else p))) w:=by
   unfold execOp;rw[ho];simp only[resolve,hc,ha',invoke,builtin,Builtin.max_,AbE,Aaq,AbF,hx,hy,IT,TO,No];rfl
  exact yT hrun (hn _ _ _ _ _ _ h m (Rp.rd (.int _ _ (by split<;>assumption))))
 ·exact h.elim
theorem zqn(F:vE P E)(m:tF P b0 N σ a w S pl){src dst:AcN}{x:Operand}(ho:o.op=.convert src dst x)(h:zkc E src dst (σ.ev x) λd=>K d σ)(hn:sV P b0 N o a K next):o.wp P a w next Q:=by
 have hx:=tB m x;unfold zkc at h
 cases hs:zW src E.ints with
 |none=>
  rw[hs]at h
  simp only at h
  split at h
  ·rename_i e xs hl ex
   split at h
   ·rename_i hi hd
    rw[ex]at hx
    have hv:=(hx.flat (d:=.sl .byte xs) rfl).sl_inv;obtain⟨A0,c,e1,hok⟩:=sM hv;rw[e1]at hv
    have hus:=(F.sl src e .byte hl).und;have hue:=F.ints e .u8 hi;have hud:=F.strs dst hd
    have hc:(convert src dst (a.eval x)).run P w=.ok (.string ⟨xs.toArray⟩) w:=by
     rw[e1];cases A0 with
     |none=>
      have hx0:xs=[]:=by
       cases xs with
       |nil=>rfl
       |cons y r=>obtain⟨b,o',cs,h0,_⟩:=Qo hv (i:=0) (by simp);cases h0
      subst hx0;exact run_convert_bytes_nil w src e hus hue _ _ dst hud
     |some ad=>
      refine run_convert_bytes_back w src dst e ad c xs hus hue hud λj hj=> ?_
      obtain⟨b,o',cs,h0,_,hr,hcell⟩:=Qo hv hj;injection h0 with h0;subst h0
      have hr:cs=[.int .u8 (xs[j].toNat:Int)]:=hr;subst hr;have:=hcell 0 _ rfl;rw[Addr.add_lit];simpa[xU.size]using this
    have hrun:(execOp a.eval o).run P w=.ok (.value (.string ⟨xs.toArray⟩)) w:=by
     unfold execOp;rw[ho];simp only[IT,hc,No,TO]
    refine yT hrun (hn _ _ _ _ _ _ h m (Rp.rd (.str _ ?_)));have:=hok.bytes;show xs.toArray.size<=_
    simpa[xU.bytes]using this
   ·exact h.elim
  ·exact h.elim
 |some ks=>
 rw[hs]at h
 have hus:=F.ints src ks hs;simp only at h
 split at h
 ·rename_i k n hl e
  rw[e]at hx
  have hx:=(hx.flat (d:=.int k n) rfl).int_inv.1
  have hrun:(execOp a.eval o).run P w=.ok (.value (.int .i64 (yU n))) w:=by
   unfold execOp;rw[ho];simp only[hx,convert,IT,run_underlying hus,run_underlying (F.ints dst _ hl),No,Conv.intToInt,TO]
   try rfl
  exact yT hrun (hn _ _ _ _ _ _ h m (Rp.rd (.int _ _ (zce _))))
 ·rename_i k n hl e
  rw[e]at hx
  have hx:=(hx.flat (d:=.int k n) rfl).int_inv.1
  have hrun:(execOp a.eval o).run P w=.ok (.value (.int .u8 (IntKind.u8.wrap n))) w:=by
   unfold execOp;rw[ho];simp only[hx,convert,IT,run_underlying hus,run_underlying (F.ints dst _ hl),No,Conv.intToInt,TO]
   try rfl
  exact yT hrun (hn _ _ _ _ _ _ h m (Rp.rd (.int _ _ (zss _))))
 ·exact h.elim
end
end Go.Proofs.YtdnmkinmcdihnaaGreatDoor
namespace Go.Proofs.YtdnmkinmcdihnaaGreatDoor
open Go.RowKit
variable[Lo]
section lists
variable {α β:Type}{R:α->β->Prop}
def spl(l:List α)(off:Nat)(new:List α):List α:=l.take off++new++l.drop (off+new.length)
theorem Ej{l:List α}{off:Nat}{new:List α}(h:off+new.length<=l.length):(spl l off new).length=l.length:=by
 unfold spl;simp only[It,Aak,Abm];omega
theorem Ol{l:List α}{off:Nat}{new:List α}(h:off+new.length<=l.length)(j:Nat):(spl l off new)[j]? =if off<=j/\j<off+new.length then new[j-off]? else l[j]? :=by
 unfold spl
 by_cases h1:j<off
 ·rw[An (by omega),AaG,AaQ (by simp;omega),Abs,As h1]
 ·by_cases h2:j<off+new.length
  ·rw[As ⟨by omega,h2⟩,AaG,AaN (by simp;omega),Aak,AaQ (by omega)]
   congr 1;omega
  ·rw[An (by omega),AaN (by simp;omega),Aby]
   congr 1;simp;omega
theorem xK.get_{xs:List α}{ys:List β}(h:xK R xs ys)(i:Nat)(a:α)(b:β)(ha:xs[i]? =some a)(hb:ys[i]? =some b):R a b:=by
 obtain⟨a',ha',hr⟩:=h.at hb;rw[ha]at ha';injection ha' with e;rw[e];exact hr
theorem xK.spl{l:List α}{l':List β}{off:Nat}{new:List α}{new':List β}(h:xK R l l')(hn:xK R new new')(hle:off+new'.length<=l'.length):xK R (spl l off new) (Go.Proofs.YtdnmkinmcdihnaaGreatDoor.spl l' off new'):=by
 have e1:=h.len;have e2:=hn.len;refine xK.of (by rw[Ej (by omega),Ej hle,e1]) λi a b ha hb=> ?_
 rw[Ol (by omega)]at ha
 rw[Ol hle]at hb
 rw[e2]at ha
 split at ha
 ·rename_i hc;rw[As hc]at hb;exact hn.get_ _ a b ha hb
 ·rename_i hc;rw[An hc]at hb;exact h.get_ _ a b ha hb
theorem xK.take:∀ {xs:List α} {ys:List β} (n:Nat),xK R xs ys->xK R (xs.take n) (ys.take n)
 |_,_,0,_=>by simp;exact .nil
 |_,_,n+1,.nil=> .nil
 |_,_,n+1,.cons h hs=> .cons h (hs.take n)
theorem xK.drop:∀ {xs:List α} {ys:List β} (n:Nat),xK R xs ys->xK R (xs.drop n) (ys.drop n)
 |_,_,0,h=>by simpa using h
 |_,_,n+1,.nil=> .nil
 |_,_,n+1,.cons h hs=>by simpa using hs.drop n
theorem Qx{s:Nat}(hs:0<s):∀(css:List (List α)) (_:∀cs∈css,cs.length=s) (j:Nat),css.flatten[j]? =(css[j/s]?).bind λc=>c[j%s]?
 |[],_,j=>by simp
 |c::css,hl,j=>by
  have hc:c.length=s:=hl c (by simp)
  rw[Aa5]
  by_cases h:j<s
  ·rw[AaQ (by omega),Nat.div_eq_of_lt h,Nat.mod_eq_of_lt h];rfl
  ·rw[AaN (by omega),Qx hs css (λcs hcs=>hl cs (by simp[hcs])) (j-c.length),hc]
   have e1:j/s=(j-s)/s+1:=by rw[Nat.div_eq_sub_div hs (by omega)]
   have e2:(j-s)%s=j%s:=(Nat.mod_eq_sub_mod (by omega)).symm
   rw[e1,e2];rfl
end lists
section
variable {P:AcO}{E:TE}{A:xF}{b0:Yo}{w w':World}{S S':Nat->Prop}{pl pl':Nat->Value}{N:Nat}{σ:St}{a:Act}{v:Value}{d:D}{o:Oper}{K:D->St->Prop}{next:Act->World->Prop}{Q:Exit->Act->World->Prop}
theorem H8{vs:Array Value}{cs:AcT}{R:Value->D->Prop}(h:xK R vs.toList cs)(i:Nat)(d:D)(hd:cs[i]? =some d):R (vs.getD i undef) d:=by
 obtain⟨u,hu,hr⟩:=h.at hd;rw[Aaj];rw[AaE]at hu;rw[hu];exact hr
theorem Om{vs:Array Value}{cs:AcT}{R:Value->D->Prop}(hl:vs.size=cs.length)(h:∀i d,cs[i]? =some d->R (vs.getD i undef) d):xK R vs.toList cs:=
 xK.of (by simpa using hl) λi u d hu hd=>by
  have:=h i d hd;rw[AaE]at hu
  rw[Aaj,hu]at this;exact this
theorem Sa(F:vE P E){T:AcN}{ag:Bool}{zs:AcT}(hl:zW T E.zs=some (ag,zs)){u:Value}{new:AcT}(hu:xK (Rc w S pl) u.cells.toList new)(hn:new.length=zs.length)(hc:new.all kM=true)
  {b off:Nat} {cur:Array Value} {E':AcN} (hg:w.heap[b]? =some (.cells cur E' (0,0))) (hle:off+new.length<=cur.size):
  (storeVar T ⟨b,off,none⟩ u).run P w=.ok () (w.setRow b (spl cur.toList off u.cells.toList).toArray):=by
 obtain⟨i,z,ud,hi,hz,hsz,_⟩:=(F.zs T ag zs hl).ex;have hlen:=hu.len;have hs:(sizeOf T).run P w=.ok zs.length w:=by simp[sizeOf,typeInfo,hi,hsz]
 have h1:∀v∈u.cells.toList,v.oneCell'=true:=λv hv=>by
  obtain⟨j,hj,rfl⟩:=Aas hv;have hj':j<new.length:=by omega
  exact(hu.get_ j _ new[j] (Aal hj) (Aal hj')).2 (Aav.1 hc _ (AT hj'))
 have:=run_storeCells_at (P:=P) b off E' u.cells.toList 0 cur w hg (by omega) h1
 simp only[Nat.add_zero]at this
 simp only[storeVar,IT,hs,No];rw[An (by simp only[Ack]at hlen;omega)]
 exact this
theorem Rc.mono{u:Value}(h:Rc w S pl u d)(hk:∀b,S b->w'.heap[b]? =w.heap[b]?)(hS:∀b,S b->S' b):Rc w' S' pl u d:=⟨h.1.mono hk hS λ_ _=>rfl,h.2⟩
theorem zqo{b:Bool}{vs:List Value}{new:AcT}{K:AcT->Prop}(hc:xK (Rc w S pl) vs new)(h:zlC b new K):∃new,xK (Rc w S pl) vs new/\K new:=by
 unfold zlC at h
 split at h
 ·split at h
  ·rename_i t xs
   cases hc with|cons h1 h2=>
   cases h2;obtain⟨A',c,e,hok⟩:=sM ((h1.1.flat (d:=.sl t xs) rfl).sl_inv');refine⟨_,.cons ⟨Rp.rd (.slN t xs false _ ((h1.1.flat (d:=.sl t xs) rfl).sl_inv') (λ_ hv=> ?_) λe=>by cases e),λ_=>by rw[e];rfl⟩ .nil,h.2⟩
   rw[e]at hv
   injection hv with _ hv
   have h3:=h.1;have:xs.length≠0:=λe=>h3 (AaX.1 e)
   omega
  ·exact⟨_,hc,h⟩
 ·exact⟨_,hc,h⟩
theorem Aw{ds:AcT}{off:Nat}{new:AcT}(hn:new.all kM=true)(h:cE (Qr ds off new)=true):cE ds=true:=by
 unfold Qr at h
 cases ds with
 |nil=>
  simp only[List.take_nil,Aa7,List.drop_nil,Aa2]at h
  cases new with
  |nil=>exact h
  |cons d r=>
   have h1:o8 d=true:=h;have h2:kM d=true:=Aav.1 hn d Aaa;cases d<;>first|(cases h1;done)|(cases h2;done)
 |cons a r=>
  cases off with
  |zero=>
   simp only[AbQ,Aa7,Aat]at h
   cases new with
   |nil=>exact h
   |cons d r=>
    have h1:o8 d=true:=h;have h2:kM d=true:=Aav.1 hn d Aaa;cases d<;>first|(cases h1;done)|(cases h2;done)
  |succ off=>exact h
theorem znD(F:vE P E)(m:tF P b0 N σ a w S pl){T:AcN}{x y:Operand}(ho:o.op=.store T x y)(h:zcj E A T (σ.ev x) (σ.ev y) σ K)(hn:sV P b0 N o a K next):o.wp P a w next Q:=by
 have hx:=tB m x;have hy:=J5 (E:=E) T (tB m y)
 have run:∀b off w',a.eval x=.pointer (some ⟨b,off,none⟩)->(storeVar T ⟨b,off,none⟩ (a.eval y)).run P w=.ok () w'->(execOp a.eval o).run P w=.ok .skip w':=λb off w' e h=>by
  unfold execOp;rw[ho];simp only[Instr.storeAt,e,Instr.sureAddr,IT,TO,No,h]
 unfold zcj at h
 split at h
 ·rename_i ag zs hl
  split at h
  ·exact h.elim
  ·rename_i new hnew
   have hc:=Oj m hy hnew;obtain⟨new,hc,h⟩:=zqo hc h;cases hb:Nat.beq new.length zs.length&&new.all kM with
   |false=>rw[hb]at h;exact h.elim
   |true=>
    rw[hb,AI]at h
    simp only[If]at hb
    have hlen:=xA.1 hb.1;split at h
    ·rename_i k off ex
     rw[ex]at hx
     obtain⟨b,hp,hv⟩:=hx;split at h
     ·rename_i ds hob
      cases hle:Nat.ble (off+new.length) ds.length with
      |false=>rw[hle]at h;exact h.elim
      |true=>
       rw[hle,AI]at h
       have hle:=Aau hle;obtain⟨b',vs,E',e1,e2,e3,e4,e5⟩:=m.hp k _ hob;rw[hp]at e1;injection e1 with e1;injection e1 with e1;injection e1 with e1;subst e1
       have hrun:=Sa F hl hc hlen hb.2 e2 (off:=off) (by omega)
       have hds:=Om e3 e4;have hS:∀c,S c->(w.setRow b (spl vs.toList off (a.eval y).cells.toList).toArray).heap[c]? =w.heap[c]? :=λc hc=>setRow_other _ _ _ _ λe=>(m.priv k _ b hob (by rw[hp];rfl)).2.2 (e▸hc)
       refine zcr (run b off _ hv hrun) (hn _ _ _ _ _ _ h (m.setOb (b:=b) hob (by rw[hp];rfl) (λc hc=>setRow_other _ _ _ _ hc) (setRow_size _ _ _) ⟨rfl,rfl,rfl⟩ ?_) tD)
       have hspl:xK (Rd w S pl) (spl vs.toList off (a.eval y).cells.toList) (Qr ds off new):=xK.spl hds (hc.imp λ_ _ h=>h.1) hle
       refine⟨b,_,E',hp,setRow_heap w b vs _ E' (0,0) e2,by simpa using hspl.len,λi d hd=> ?_,λhh=>by
        rw[show(Qr ds off new).length=ds.length from by unfold Qr;simp;omega]
        exact e5 (Aw hb.2 hh)⟩
       exact(H8 (R:=Rd w S pl) (by simpa using hspl) i d hd).mono hS (λ_ h=>h) λ_ _=>rfl
     ·exact h.elim
    ·rename_i k sz i off ex
     rw[ex]at hx
     obtain⟨b,n,c,hp,hi,hv⟩:=hx;obtain⟨σ',new',S',hK,hS,m',hv'⟩:=pL h m;have hnew':=hv' _ (hc.imp λ_ _ h=>h.1)
     split at hK
     ·rename_i e t xs hob
      cases hz:Nat.beq sz t.size with
      |false=>rw[hz]at hK;exact hK.elim
      |true=>
       rw[hz,AI]at hK
       have hsz:=xA.1 hz;split at hK
       ·rename_i z hof
        cases hle:Nat.ble (off+new'.length) t.size with
        |false=>rw[hle]at hK;exact hK.elim
        |true=>
         rw[hle,AI]at hK
         have hle:=Aau hle;obtain⟨q0,css,q1,q2,q3,q4⟩:=m'.hp k _ hob;rcases q2.2 with⟨e0,_⟩|⟨g,cap,cur,ep,_,hg,hcap,hmax,hcur,htake⟩
         ·rw[hp]at e0;cases e0
         ·have ep':=ep
          rw[hp]at ep';injection ep' with ep1 ep2 ep3;injection ep1 with ep1;injection ep1 with ep1;subst ep1 ep2
          have hspos:0<t.size:=by rw[Ty.size_eq];exact xU.pos
          have hnl:new'.length=new.length:=by rw[<-hnew'.len,hc.len]
          have hmul:i*t.size+t.size<=xs.length*t.size:=by
           have:=Aa8 t.size (Nat.succ_le_of_lt hi);rw[Abi]at this;exact this
          have hmul2:xs.length*t.size<=cap*t.size:=Aa8 _ hcap;have hrun:=Sa F hl hc hlen hb.2 hg (off:=i*sz+off) (by rw[hsz];omega)
          generalize hvl:(a.eval y).cells.toList=vl at hrun hnew' hc
          have hvlen:vl.length=new'.length:=hnew'.len;have hci:css[i]? =some (css[i]'(by omega)):=Aal (by omega)
          have hclen:(css[i]'(by omega)).length=t.size:=q3 _ (AT _)
          have hS':∀c,S' c->(w.setRow b (spl cur.toList (i*sz+off) vl).toArray).heap[c]? =w.heap[c]? :=λc hc=>setRow_other _ _ _ _ λe=>(m'.priv k _ b hob (by rw[hp];rfl)).2.2 (e▸hc)
          refine zcr (run b _ _ hv hrun) (hn _ _ _ _ _ _ hK (m'.setOb (b:=b) hob (by rw[hp];rfl) (λc hc=>setRow_other _ _ _ _ hc) (setRow_size _ _ _) ⟨rfl,rfl,rfl⟩ ?_) tD)
          have hold:xK (Rp w S') (css[i]'(by omega)) (cells t (xs.getD i t.dflt)):=by
           rw[Aar,Aal hi,Ab0];exact cO t (q4 i xs[i] _ (Aal hi) hci)
          have hz':xU.rd w S' (spl (css[i]'(by omega)) off vl) z:=T6 t hof (xK.spl hold hnew' (by rw[<-hold.len,hclen];exact hle))
          have hclen1:(spl (css[i]'(by omega)) off vl).length=t.size:=by rw[Ej (by omega),hclen]
          have hlcss:∀cs∈css.set i (spl (css[i]'(by omega)) off vl),cs.length=t.size:=λcs hcs=>by
           rcases List.mem_or_eq_of_mem_set hcs with h|rfl
           ·exact q3 _ h
           ·exact hclen1
          refine⟨by simpa using q0,css.set i (spl (css[i]'(by omega)) off vl),by simpa using q1,⟨?_,.inr ⟨b,cap,(spl cur.toList (i*sz+off) vl).toArray,by rw[AaT];exact ep,Is _,setRow_heap w b cur _ e (0,0) hg,by simpa using hcap,hmax,?_,?_⟩⟩,hlcss,λj x cs hx hcs=> ?_⟩
          ·rw[WI _ hlcss];simp[q1]
          ·rw[On,Ej (by simp;rw[hsz];omega)];simpa using hcur
          ·apply Acl
           intro j;rw[AaT,Abs]
           by_cases hj:j<xs.length*t.size
           ·rw[As hj]
            simp only[List.toList_toArray];rw[Ol (by simp;rw[hsz];omega),Qx hspos _ hlcss]
            have hcurj:cur.toList[j]? =(css[j/t.size]?).bind λc=>c[j%t.size]? :=by
             rw[<-Qx hspos css q3 j,<-htake,Abs,As hj]
            have hdm:j/t.size*t.size+j%t.size=j:=by rw[Nat.mul_comm];exact Nat.div_add_mod _ _
            have hmod:j%t.size<t.size:=Nat.mod_lt _ hspos;generalize hq:j/t.size=q at*
            generalize hr:j%t.size=r at*
            by_cases hqi:q=i
            ·subst hqi
             rw[List.getElem?_set_self (by omega)]
             simp only[Abk];rw[Ol (by omega),hsz]
             by_cases hin:off<=r/\r<off+vl.length
             ·rw[As (by omega),As hin];congr 1;omega
             ·rw[An (by omega),An hin,hcurj,hci];rfl
            ·rw[List.getElem?_set_ne (Ne.symm hqi),hsz]
             rw[An,hcurj];intro hin;rcases AaP q i with h1|h1
             ·have:=Aa8 t.size (Nat.succ_le_of_lt h1)
              rw[Abi]at this;omega
             ·have:=Aa8 t.size (Nat.succ_le_of_lt (Nat.lt_of_le_of_ne h1 (Ne.symm hqi)))
              rw[Abi]at this;omega
           ·rw[An hj,Abz]
            rw[WI _ hlcss];simp[q1];omega
          ·by_cases hji:j=i
           ·subst hji
            rw[List.getElem?_set_self hi]at hx
            rw[List.getElem?_set_self (by omega)]at hcs
            injection hx with hx;injection hcs with hcs;subst hx hcs
            exact xU.mono hz' hS' λ_ h=>h
           ·rw[List.getElem?_set_ne (Ne.symm hji)]at hx hcs
            exact xU.mono (q4 j x cs hx hcs) hS' λ_ h=>h
       ·exact hK.elim
     ·exact hK.elim
    ·exact h.elim
 ·exact h.elim
end
end Go.Proofs.YtdnmkinmcdihnaaGreatDoor
