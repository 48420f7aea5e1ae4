/- Texts of this proof, one behind the other: nothing is handed in but what is proved here; no condition. -/
import Derived.WalkKit
import Derived.Lib.Hide
import Derived.WalkLawsBesides
import Derived.WalkSpells
import Derived.Deep.QuietTactic
import Derived.BigQuiet
import Derived.Deep.RegionWith
import Derived.Deep.RegionLaw
import Derived.StillTailTactics
import Derived.Handy
import Derived.Deep.LoopGhost
import Derived.Deep.DeepFit
import Derived.Deep.DeepMust
import Derived.Shelf.Abstract
import Derived.Maps.AppendAt
import Derived.Deep.AppendLies
import Derived.OwnWalk
import Derived.IntWalk
import Derived.Lib.LaidTab
import Derived.Lib.ItoaNum
import Derived.Laws.StructEq
set_option linter.unusedVariables false
set_option linter.unusedSimpArgs false
namespace Go.Proofs.YtogdmcebojiojaaGreatDoor
open Go.RowKit
set_option maxRecDepth 100000
abbrev An:=@if_neg
abbrev As:=@if_pos
abbrev At:=@absurd
abbrev AI:=@cond_true
abbrev AS:=@List.getElem_mem
abbrev AT:=@Nat.zero_le
abbrev By:=@of_decide_eq_true
abbrev BY:=@Nat.le_refl
abbrev If:=@Bool.and_eq_true
abbrev Is:=@congrArg
abbrev It:=@List.length_append
abbrev IN:=@List.mem_singleton
abbrev IS:=@Sem.run_bind
abbrev IT:=@Result.andThen_ok
abbrev Ks:=@List.mem_cons_self
abbrev No:=@Sem.run_pure
abbrev Of:=@List.mem_map
abbrev On:=@List.mem_cons_of_mem
abbrev Or:=@decide_eq_true
abbrev OF:=@List.mem_cons
abbrev TO:=@List.mem_append
abbrev Vs:=@cond_false
abbrev Aaa:=@of_decide_eq_false
abbrev Aab:=@Int.toNat_natCast
abbrev Aac:=@List.getElem?_eq_getElem
abbrev Aad:=@List.length_cons
abbrev Aae:=@Array.getD_eq_getD_getElem?
abbrev Aaf:=@List.length_take
abbrev Aag:=@List.length_map
abbrev Aah:=@decide_eq_false
abbrev Aai:=@Nat.le_trans
abbrev Aaj:=@List.take_length
abbrev Aak:=@List.map_cons
abbrev Aal:=@List.getElem_of_mem
abbrev Aam:=@List.getD_eq_getElem?_getD
abbrev Aan:=@List.mem_filter
abbrev Aao:=@List.all_eq_true
abbrev Aap:=@Bool.eq_iff_iff
abbrev Aaq:=@decide_eq_true_iff
abbrev Aar:=@List.take_append_getElem
abbrev Aas:=@Nat.zero_add
abbrev Aat:=@Nat.le_of_ble_eq_true
abbrev Aau:=@List.getElem?_map
abbrev Aav:=@Int.le_refl
abbrev Aaw:=@List.length_set
abbrev Aax:=@Nat.lt_of_lt_of_le
abbrev Aay:=@List.any_eq_true
abbrev Aaz:=@List.length_nil
abbrev AaA:=@List.any_eq_false
abbrev AaB:=@List.mem_append_left
abbrev AaC:=@List.length_zip
abbrev AaD:=@List.getElem?_eq_some_iff
abbrev AaE:=@Array.getElem?_toList
abbrev AaF:=@List.drop_eq_getElem_cons
abbrev AaG:=@List.getElem?_append_right
abbrev AaH:=@List.append_assoc
abbrev AaI:=@Bool.not_eq_true'
abbrev AaJ:=@Bool.or_eq_true
abbrev AaK:=@List.mem_append_right
abbrev AaL:=@List.map_append
abbrev AaM:=@List.getElem_zip
abbrev AaN:=@List.nodup_cons
abbrev AaO:=@List.getElem?_append_left
abbrev AaP:=@List.take_of_length_le
abbrev AaQ:=@List.mem_of_getElem?
abbrev AaR:=@Array.getElem?_eq_getElem
abbrev AaS:=@List.length_eq_zero_iff
abbrev AaT:=@List.size_toArray
abbrev AaU:=@Nat.not_lt_zero
abbrev AaV:=@Bool.true_and
abbrev AaW:=@List.length_singleton
abbrev AaX:=@ByteArray.size_append
abbrev AaY:=@Bool.false_and
abbrev AaZ:=@List.length_filter_le
abbrev Aa0:=@Bool.false_eq_true
abbrev Aa1:=@List.length_drop
abbrev Aa2:=@List.append_nil
abbrev Aa3:=@List.any_cons
abbrev Aa4:=@List.drop_zero
abbrev Aa5:=@List.mem_range
abbrev Aa6:=@List.flatten_cons
abbrev Aa7:=@List.filter_cons
abbrev Aa8:=@Nat.lt_or_ge
abbrev Aa9:=@List.eq_nil_of_length_eq_zero
abbrev Aba:=@Option.map_eq_some_iff
abbrev Abb:=@Bool.not_eq_true
abbrev Abc:=@Int.toNat_of_nonneg
abbrev Abd:=@Bool.or_eq_false_iff
abbrev Abe:=@Option.map_some
abbrev Abf:=@Nat.mul_le_mul_right
abbrev Abg:=@Nat.mul_one
abbrev Abh:=@Nat.add_comm
abbrev Abi:=@Bool.and_false
abbrev Abj:=@List.foldl_append
abbrev Abk:=@List.length_replicate
abbrev Abl:=@List.nodup_nil
abbrev Abm:=@Nat.succ_mul
abbrev Abn:=@and_self
abbrev Abo:=@ByteArray.toList_eq
abbrev Abp:=@List.take_zero
abbrev Abq:=@Bool.not_true
abbrev Abr:=@ByteArray.size_extract
abbrev Abs:=@List.drop_succ_cons
abbrev Abt:=@List.drop_of_length_le
abbrev Abu:=@List.drop_drop
abbrev Abv:=@Bool.false_or
abbrev Abw:=@List.getElem?_drop
abbrev Abx:=@List.getElem?_take
abbrev Aby:=@List.nil_append
abbrev Abz:=@List.cons_append
abbrev AbA:=@Bool.or_true
abbrev AbB:=@List.length_mapIdx
abbrev AbC:=@List.length_pos_iff
abbrev AbD:=@List.mem_of_mem_take
abbrev AbE:=@Array.getElem?_eq_some_iff
abbrev AbF:=@List.map_toArray
abbrev AbG:=@List.map_nil
abbrev AbH:=@Option.bind_some
abbrev AbI:=@List.all_cons
abbrev AbJ:=@Option.map_none
abbrev AbK:=@Bool.and_true
abbrev AbL:=@Nat.mul_le_mul
abbrev AbM:=@List.of_mem_zip
abbrev AbN:=@List.flatMap_cons
abbrev AbO:=@List.foldl_cons
abbrev AbP:=@List.getElem?_set
abbrev AbQ:=@Bool.or_false
abbrev AbR:=@List.eraseIdx_cons_succ
abbrev AbS:=@Array.getElem?_modify
abbrev AbT:=@Option.getD_some
abbrev AbU:=@List.getElem?_eq_none
abbrev AbV:=@List.map_congr_left
abbrev AbW:=@List.drop_eq_nil_of_le
abbrev AbX:=@List.takeWhile_cons
abbrev AbY:=@Bool.not_false
abbrev AbZ:=@List.zip_cons_cons
abbrev Ab0:=@List.sum_cons
abbrev Ab1:=@List.drop_length
abbrev Ab2:=@List.getElem_drop
abbrev Ab3:=@List.ext_getElem
abbrev Ab4:=@List.getElem_map
abbrev Ab5:=@Option.some_ne_none
abbrev Ab6:=@List.pairwise_iff_getElem
abbrev Ab7:=@Bool.or_assoc
abbrev Ab8:=@List.getElem_mapIdx
abbrev Ab9:=@Classical.choose_spec
abbrev Aca:=@List.nodup_append
abbrev Acb:=@Array.getElem?_eq_none
abbrev Acc:=@Array.length_toList
abbrev Acd:=@List.ext_getElem?
abbrev Ace:=@List.getElem?_cons_succ
abbrev Acf:=@Bool.and_eq_true_iff
abbrev Acg:=@Array.empty_append
abbrev Ach:=@List.mem_toArray
abbrev Aci:=@Bool.true_eq_false
abbrev Acj:=@List.getElem?_toArray
abbrev Ack:=@List.mem_filterMap
abbrev Acl:=@Option.isSome_iff_exists
abbrev Acm:=@ByteArray.data_extract
abbrev Acn:=@List.filter_append
abbrev Aco:=@List.pairwise_cons
abbrev Acp:=@List.take_succ_cons
abbrev Acq:=@Nat.eq_of_beq_eq_true
abbrev Acr:=@List.mergeSort_perm
abbrev Acs:=@List.filter_eq_self
abbrev Acu:=@List.exists_mem_of_ne_nil
abbrev Acv:=@List.eraseIdx_cons_zero
abbrev Acw:=@List.mem_flatMap
abbrev Acx:=@List.eraseIdx_sublist
abbrev Acy:=@List.append_eq_nil_iff
abbrev Acz:=@Array.getElem?_setIfInBounds_ne
abbrev AcA:=@Array.eq_empty_of_size_eq_zero
abbrev AcB:=@Array.getElem?_append_left
abbrev AcC:=@List.extract_eq_take_drop
abbrev AcD:=@List.all_eq_not_any_not
abbrev AcE:=@List.eraseIdx_of_length_le
abbrev AcF:=@List.length_eraseIdx_of_lt
abbrev AcU:=List Nat
abbrev AcT:=List UInt8
abbrev AcK:=List Int
abbrev AcL:=List AcK
abbrev AcJ:=Program
abbrev AcI:=TypeId
abbrev AcH:=FuncId
abbrev AcG:=ByteArray
abbrev AcX:=List AcG
class vV (α:Type) where
 size:Nat
 bytes:Nat
 rd:World->(Nat->Prop)->List Value->α->Prop
 len:∀ {w:World} {S:Nat->Prop} {cs:List Value} {x:α},rd w S cs x->cs.length=size
 one:∀ {w:World} {S:Nat->Prop} {cs:List Value} {x:α},rd w S cs x->∀u∈cs,u.oneCell'=true
 mono:∀ {w w':World} {S S':Nat->Prop} {cs:List Value} {x:α},rd w S cs x->(∀b,S b->w'.heap[b]? =w.heap[b]?)->(∀b,S b->S' b)->rd w' S' cs x
 pos:0<size
def vOf:List Value->Value
 |[v]=>v
 |cs=> .agg cs.toArray
def LJ{α:Type}[vV α](w:World)(S:Nat->Prop)(cs:List Value)(x:α):Prop:=vV.rd w S cs x
def XX{α:Type}[vV α](w:World)(S:Nat->Prop)(v:Value)(x:α):Prop:=∃cs,v=vOf cs/\vV.rd w S cs x
def Rds{α:Type}[vV α](w:World)(v:Value)(x:α):Prop:=XX w (λb=>b<w.heap.size) v x
def yY(n:Int):Prop:= -9223372036854775808<=n/\n<=9223372036854775807
instance vV.int:vV Int where
 size:=1
 bytes:=8
 rd _ _ cs x:=cs=[.int .i64 x]/\yY x
 len:=λh=>by rw[h.1];rfl
 one:=λh u hu=>by rw[h.1]at hu;simp at hu;subst hu;rfl
 mono:=λh _ _=>h
 pos:=by decide
instance vV.str:vV AcG where
 size:=1
 bytes:=16
 rd _ _ cs x:=cs=[.string x]/\x.size<=140737488355328
 len:=λh=>by rw[h.1];rfl
 one:=λh u hu=>by rw[h.1]at hu;simp at hu;subst hu;rfl
 mono:=λh _ _=>h
 pos:=by decide
instance vV.list {α:Type}[vV α]:vV (List α) where
 size:=1
 bytes:=24
 rd w S cs xs:=∃A c,cs=[.slice A xs.length c]/\xs.length*vV.bytes α<=140737488355328/\xs.length<=c/\c<=9223372036854775807/\
  (A=none->c=0)/\(0<xs.length->∃b o,A=some ⟨b,o,none⟩/\S b/\∀i x,xs[i]? =some x->∃cs,vV.rd w S cs x/\∀j u,cs[j]? =some u->w.cell? ⟨b,o+i*vV.size α+j,none⟩=some u)
 len:=λ⟨_,_,h,_⟩=>by rw[h];rfl
 one:=λ⟨_,_,h,_⟩ u hu=>by rw[h]at hu;simp at hu;subst hu;rfl
 mono:=fun {w w' S S' cs xs} ⟨A,c,h,h0,h1,h2,h3,h4⟩ hk hS=>⟨A,c,h,h0,h1,h2,h3,λhn=>by
  obtain⟨b,o,e,hb,hc⟩:=h4 hn;refine⟨b,o,e,hS b hb,λi x hx=> ?_⟩
  obtain⟨cs,hr,hcell⟩:=hc i x hx;exact⟨cs,vV.mono hr hk hS,λj u hu=>(World.cell?_of_block (hk b hb)).trans (hcell j u hu)⟩⟩
 pos:=by decide
section
variable {α:Type}[vV α]{w w':World}{S S':Nat->Prop}{v:Value}{x:α}
theorem LJ.mono{cs:List Value}(h:LJ w S cs x)(hk:∀b,S b->w'.heap[b]? =w.heap[b]?)(hS:∀b,S b->S' b):LJ w' S' cs x:=vV.mono (α:=α) h hk hS
theorem XX.mono(h:XX w S v x)(hk:∀b,S b->w'.heap[b]? =w.heap[b]?)(hS:∀b,S b->S' b):XX w' S' v x:=
 let⟨cs,e,hr⟩:=h
 ⟨cs,e,vV.mono hr hk hS⟩
theorem Rds.below(h:Rds w v x)(hb:Below w.heap.size w w'):Rds w' v x:=XX.mono h (λb hb'=>hb.block b hb') (λb hb'=>Aax hb' hb.size)
theorem XX.rds(h:XX w S v x)(hS:∀b,S b->b<w.heap.size):Rds w v x:=XX.mono h (λ_ _=>rfl) hS
theorem LJ.val{cs:List Value}(h:LJ w S cs x):XX w S (vOf cs) x:=⟨cs,rfl,h⟩
end
def UA{α:Type}[vV α](w:World)(B:Nat)(v:Value)(x:α):Prop:=XX w (λb=>B<=b/\b<w.heap.size) v x
section
variable {α:Type}[vV α]{w w':World}{B B':Nat}{v:Value}{x:α}
theorem UA.rds(h:UA w B v x):Rds w v x:=XX.rds h λ_ hb=>hb.2
theorem UA.below(h:UA w B v x)(hb:Below w.heap.size w w'):UA w' B v x:=
 XX.mono h (λb hb'=>hb.block b hb'.2) (λb hb'=>⟨hb'.1,Aax hb'.2 hb.size⟩)
theorem UA.more(h:UA w B v x)(hB:B'<=B):UA w B' v x:=
 XX.mono h (λ_ _=>rfl) (λb hb'=>⟨Aai hB hb'.1,hb'.2⟩)
end
section
variable {w:World}{S:Nat->Prop}{v:Value}
theorem zlN{x:Int}(h:XX w S v x):v=.int .i64 x/\yY x:=by
 obtain⟨cs,rfl,rfl,h2⟩:=h;exact⟨rfl,h2⟩
theorem zg6{x:AcG}(h:XX w S v x):v=.string x/\x.size<=140737488355328:=by
 obtain⟨cs,rfl,rfl,h2⟩:=h;exact⟨rfl,h2⟩
theorem zfg{x:AcG}(h:x.size<=140737488355328):XX w S (.string x) x:=⟨[_],rfl,rfl,h⟩
structure znM {α:Type}[vV α](A:Option Addr)(c:Nat)(xs:List α):Prop where
 bytes:xs.length*vV.bytes α<=140737488355328
 cap:xs.length<=c
 max:c<=9223372036854775807
 none_:A=none->c=0
theorem rN{α:Type}[vV α]{xs:List α}(h:XX w S v xs):∃A c,v=.slice A xs.length c/\znM A c xs:=by
 obtain⟨cs,rfl,A,c,rfl,h0,h1,h2,h3,_⟩:=h;exact⟨A,c,rfl,h0,h1,h2,h3⟩
theorem Kb{α:Type}[vV α]{xs:List α}{A:Option Addr}{n c:Nat}(h:XX w S (.slice A n c) xs){i:Nat}(hi:i<xs.length):
  ∃b o cs,A=some ⟨b,o,none⟩/\S b/\LJ w S cs xs[i]/\∀j u,cs[j]? =some u->w.cell? ⟨b,o+i*vV.size α+j,none⟩=some u:=by
 obtain⟨cs,e,A',c',rfl,h0,h1,h2,h3,h4⟩:=h;simp only[vOf,Value.slice.injEq]at e
 obtain⟨rfl,rfl,rfl⟩:=e;obtain⟨b,o,rfl,hb,hc⟩:=h4 (by omega)
 obtain⟨cs,hr,hcell⟩:=hc i xs[i] (Aac hi);exact⟨b,o,cs,rfl,hb,hr,hcell⟩
theorem zfh{xs:AcX}{A:Option Addr}{n c:Nat}(h:XX w S (.slice A n c) xs){i:Nat}(hi:i<xs.length):
  ∃b o,A=some ⟨b,o,none⟩/\S b/\w.cell? ⟨b,o+i,none⟩=some (.string xs[i])/\xs[i].size<=140737488355328:=by
 obtain⟨b,o,cs,rfl,hb,⟨rfl,hr⟩,hc⟩:=Kb h hi;exact⟨b,o,rfl,hb,by simpa[vV.size]using hc 0 _ rfl,hr⟩
end
structure uB where
 kind:Int
 at_:Int
 text:AcG
 deriving DecidableEq
abbrev AcR:=List uB
instance vV.tok:vV uB where
 size:=3
 bytes:=32
 rd _ _ cs x:=cs=[.int .i64 x.kind,.int .i64 x.at_,.string x.text]/\yY x.kind/\yY x.at_/\x.text.size<=140737488355328
 len:=λh=>by rw[h.1];rfl
 one:=λh u hu=>by rw[h.1]at hu;simp at hu;rcases hu with rfl|rfl|rfl<;>rfl
 mono:=λh _ _=>h
 pos:=by decide
structure zC where
 var:Int
 op:Int
 n:Int
 deriving DecidableEq
abbrev AcM:=List zC
abbrev AcN:=List AcM
instance vV.lit:vV zC where
 size:=3
 bytes:=24
 rd _ _ cs x:=cs=[.int .i64 x.var,.int .i64 x.op,.int .i64 x.n]/\yY x.var/\yY x.op/\yY x.n
 len:=λh=>by rw[h.1];rfl
 one:=λh u hu=>by rw[h.1]at hu;simp at hu;rcases hu with rfl|rfl|rfl<;>rfl
 mono:=λh _ _=>h
 pos:=by decide
structure zQ where
 name:AcG
 lo:Int
 hi:Int
 deriving DecidableEq
abbrev AcP:=List zQ
instance vV.var:vV zQ where
 size:=3
 bytes:=32
 rd _ _ cs x:=cs=[.string x.name,.int .i64 x.lo,.int .i64 x.hi]/\x.name.size<=140737488355328/\yY x.lo/\yY x.hi
 len:=λh=>by rw[h.1];rfl
 one:=λh u hu=>by rw[h.1]at hu;simp at hu;rcases hu with rfl|rfl|rfl<;>rfl
 mono:=λh _ _=>h
 pos:=by decide
structure zF where
 kind:Int
 vars:AcK
 consts:AcK
 n:Int
 rows:AcL
 lits:AcM
 deriving DecidableEq
abbrev AcQ:=List zF
instance vV.con:vV zF where
 size:=6
 bytes:=112
 rd w S cs x:=∃v1 v2 v3 v4,cs=[.int .i64 x.kind,v1,v2,.int .i64 x.n,v3,v4]/\yY x.kind/\yY x.n/\
  LJ w S [v1] x.vars/\LJ w S [v2] x.consts/\LJ w S [v3] x.rows/\LJ w S [v4] x.lits
 len:=λ⟨_,_,_,_,h,_⟩=>by rw[h];rfl
 one:=λ⟨_,_,_,_,h,_,_,h1,h2,h3,h4⟩ u hu=>by
  rw[h]at hu;simp at hu
  rcases hu with rfl|rfl|rfl|rfl|rfl|rfl
  ·rfl
  ·exact vV.one h1 _ (by simp)
  ·exact vV.one h2 _ (by simp)
  ·rfl
  ·exact vV.one h3 _ (by simp)
  ·exact vV.one h4 _ (by simp)
 mono:=λ⟨v1,v2,v3,v4,h,a,b,h1,h2,h3,h4⟩ hk hS=>⟨v1,v2,v3,v4,h,a,b,h1.mono hk hS,h2.mono hk hS,h3.mono hk hS,h4.mono hk hS⟩
 pos:=by decide
structure zG where
 vars:AcP
 cons:AcQ
 goal:Int
 var:Int
 deriving DecidableEq
instance vV.mdl:vV zG where
 size:=4
 bytes:=64
 rd w S cs x:=∃v1 v2,cs=[v1,v2,.int .i64 x.goal,.int .i64 x.var]/\yY x.goal/\yY x.var/\LJ w S [v1] x.vars/\LJ w S [v2] x.cons
 len:=λ⟨_,_,h,_⟩=>by rw[h];rfl
 one:=λ⟨_,_,h,_,_,h1,h2⟩ u hu=>by
  rw[h]at hu;simp at hu
  rcases hu with rfl|rfl|rfl|rfl
  ·exact vV.one h1 _ (by simp)
  ·exact vV.one h2 _ (by simp)
  ·rfl
  ·rfl
 mono:=λ⟨v1,v2,h,a,b,h1,h2⟩ hk hS=>⟨v1,v2,h,a,b,h1.mono hk hS,h2.mono hk hS⟩
 pos:=by decide
section
variable {w:World}{S:Nat->Prop}{v:Value}
theorem zc3{α:Type}[vV α]{xs:List α}(h:LJ w S [v] xs):∃A c,v=.slice A xs.length c/\znM A c xs/\XX w S (.slice A xs.length c) xs:=by
 obtain⟨A,c,e,h0,h1,h2,h3,h4⟩:=h;simp only[List.cons.injEq,and_true]at e
 subst e;exact⟨A,c,rfl,⟨h0,h1,h2,h3⟩,[_],rfl,A,c,rfl,h0,h1,h2,h3,h4⟩
theorem zc4{α:Type}[vV α]{xs:List α}(h:XX w S v xs):LJ w S [v] xs:=by
 obtain⟨cs,rfl,A,c,rfl,h'⟩:=h;exact⟨A,c,rfl,h'⟩
theorem Kc{xs:AcR}{A:Option Addr}{n c:Nat}(h:XX w S (.slice A n c) xs){i:Nat}(hi:i<xs.length):
  ∃b o,A=some ⟨b,o,none⟩/\S b/\w.cell? ⟨b,o+i*3,none⟩=some (.int .i64 xs[i].kind)/\w.cell? ⟨b,o+i*3+1,none⟩=some (.int .i64 xs[i].at_)/\w.cell? ⟨b,o+i*3+2,none⟩=some (.string xs[i].text)/\
   yY xs[i].kind/\yY xs[i].at_/\xs[i].text.size<=140737488355328:=by
 obtain⟨b,o,cs,rfl,hb,⟨rfl,hr⟩,hc⟩:=Kb h hi;exact⟨b,o,rfl,hb,by simpa[vV.size]using hc 0 _ rfl,by simpa[vV.size]using hc 1 _ rfl,by simpa[vV.size]using hc 2 _ rfl,hr⟩
end
def vR(w:World)(g:Nat)(t:AcI)(cs:Array Value):Prop:=w.heap[g]? =some (.cells cs t (0,0))
section
variable {w w':World}{g:Nat}{t:AcI}{cs:Array Value}
theorem vR.lt(h:vR w g t cs):g<w.heap.size:=by
 rcases Aa8 g w.heap.size with hlt|hge
 ·exact hlt
 ·unfold vR at h;rw[Acb hge]at h;cases h
theorem vR.cell(h:vR w g t cs)(i:Nat):w.cell? ⟨g,i,none⟩=cs[i]? :=cell_of_row w g i cs t (0,0) h
theorem vR.frozen(h:vR w g t cs)(i:Nat):w.frozen? ⟨g,i,none⟩=false:=by
 unfold vR at h
 simp[World.frozen?,h]
theorem vR.new(w:World)(t:AcI)(cs:Array Value):vR (w.alloc (.cells cs t)) w.heap.size t cs:=heap_alloc_new w _
theorem vR.drew(h:vR w g t cs):vR w.drew g t cs:=h
theorem vR.drewN(h:vR w g t cs)(n:Nat):vR (w.drewN n) g t cs:=h
theorem vR.alloc(h:vR w g t cs)(o:Obj):vR (w.alloc o) g t cs:=(Below.heap_alloc w o g h.lt).trans h
theorem vR.set_(h:vR w g t cs)(i:Nat)(u:Value):vR (w.setCell ⟨g,i,none⟩ u) g t (cs.setIfInBounds i u):=by
 unfold vR at h⊢
 simp[World.setCell,AbS,h]
theorem vR.far(h:vR w g t cs){p:Addr}(hp:g≠p.block)(u:Value):vR (w.setCell p u) g t cs:=(Below.heap_setCell w p u g hp).trans h
theorem vR.below{B:Nat}(h:vR w g t cs)(hb:Below B w w')(hg:g<B):vR w' g t cs:=(hb.block g hg).trans h
theorem vR.grown{row:Option Nat}(h:vR w g t cs)(hb:w.grownBy w' row)(hg:some g≠row):vR w' g t cs:=(hb.block g h.lt hg).trans h
end
section
variable {a b w w':World}{row:Option Nat}{B:Nat}
theorem uA(h:Below B a w)(n:Nat):Below B a (w.drewN n):=⟨h.os,h.tape,h.output,h.size,h.block⟩
theorem Jn(h:Below a.heap.size a w)(k:Below w.heap.size w w'):Below a.heap.size a w':=h.trans (k.mono h.size)
theorem Kd(h:a.grownBy b row)(k:b.grownBy w row):a.grownBy w row:=
 ⟨k.os.trans h.os,k.tape.trans h.tape,k.output.trans h.output,Aai h.size k.size,λi hi hne=>(k.block i (Aax hi h.size) hne).trans (h.block i hi hne)⟩
theorem uJ(h:a.grownBy w row)(n:Nat):a.grownBy (w.drewN n) row:=⟨h.os,h.tape,h.output,h.size,h.block⟩
theorem aQ(h:a.grownBy w row):a.grownBy w.drew row:=⟨h.os,h.tape,h.output,h.size,h.block⟩
theorem fB(h:a.grownBy w row)(o:Obj):a.grownBy (w.alloc o) row:=
 ⟨h.os,h.tape,h.output,Aai h.size (by simp),λi hi hne=>(Below.heap_alloc w o i (Aax hi h.size)).trans (h.block i hi hne)⟩
theorem sX{g:Nat}(h:a.grownBy w (some g)){p:Addr}(hp:p.block=g\/a.heap.size<=p.block)(u:Value):a.grownBy (w.setCell p u) (some g):=
 ⟨h.os,h.tape,h.output,by simpa[World.setCell]using h.size,λi hi hne=>(Below.heap_setCell w p u i (by
  rintro rfl;rcases hp with hp|hp
  ·exact hne (by rw[hp])
  ·omega)).trans (h.block i hi hne)⟩
theorem dO(h:Below a.heap.size a w)(row:Option Nat):a.grownBy w row:=⟨h.os,h.tape,h.output,h.size,λi hi _=>h.block i hi⟩
theorem Ww{g:Nat}(h:a.grownBy w (some g))(hB:B<=g)(hs:B<=a.heap.size):Below B a w:=⟨h.os,h.tape,h.output,h.size,λi hi=>h.block i (by omega) (λe=>by injection e with e;omega)⟩
end
theorem bK{a b:Bool}(h:a=b):Ending.returned (.bool a)=.returned (.bool b):=by rw[h]
theorem jS(s:AcG)(i:Nat)(h:i<s.size):s.data.toList.drop i=s[i]::s.data.toList.drop (i+1):=by
 rw[AaF (by simpa using h)];rfl
theorem W1(s:AcG):s.data.toList.length=s.size:=by simp
theorem Dq{P:AcJ}{f:AcH}{args:Array Value}{w:World}{n:Nat}{v:Value}
  (h:Calls P f args (w.drewN n) λe w'=>e=.returned v/\w.drewN n=w'):Calls P f args (w.drewN n) λe w'=>e=.returned v/\∃m,w'=w.drewN m:=
 h.mono λ_ _ ⟨he,hm⟩=>⟨he,n,hm.symm⟩
theorem E7{s:Nat}:∀(css:List (List Value)) (_:∀cs∈css,cs.length=s) (i j:Nat) (cs:List Value) (u:Value),css[i]? =some cs->cs[j]? =some u->css.flatten[i*s+j]? =some u
 |[],_,i,j,cs,u,h,_=>by simp at h
 |c::css,hl,0,j,cs,u,h,hu=>by
  simp at h;subst h
  have hj:j<c.length:=(AaD.1 hu).1;simp only[Aa6,Nat.zero_mul,Aas];rw[AaO hj];exact hu
 |c::css,hl,i+1,j,cs,u,h,hu=>by
  have hc:c.length=s:=hl c (by simp)
  have ih:=E7 css (λcs hcs=>hl cs (by simp[hcs])) i j cs u (by simpa using h) hu
  simp only[Aa6];rw[AaG (by rw[hc,Abm];omega)]
  rw[<-ih];congr 1;rw[hc,Abm];omega
theorem UB{s:Nat}:∀(css:List (List Value)) (_:∀cs∈css,cs.length=s),css.flatten.length=css.length*s
 |[],_=>by simp
 |c::css,hl=>by
  have ih:=UB css (λcs hcs=>hl cs (by simp[hcs]))
  simp only[Aa6,It,Aad,ih,hl c (by simp),Abm];omega
structure Jo (P:AcJ)(t e:AcI)(size bytes:Nat):Prop where
 und:P.underlying t=some (.slice e)
 info:∃i z,P.info? e=some i/\i.zero=some z/\i.size=size/\i.bytes=bytes/\z.cells.size=size
theorem Jo.mk'{P:AcJ}{t e:AcI}{size bytes:Nat}{z:Value}(h:P.underlying t=some (.slice e))(hi:(P.info? e).map (λi=>(i.zero,i.size,i.bytes))=some (some z,size,bytes))(hz:z.cells.size=size):Jo P t e size bytes:=by
 obtain⟨i,h1,h2,h3,h4⟩:=info_parts hi;exact⟨h,i,z,h1,h2,h3,h4,hz⟩
def zfi(w:World)(lo:Nat)(v:Value)(b:Nat):Prop:=lo<=b/\b<w.heap.size/\v.ownBlock≠some b
def Own{α:Type}[vV α](w:World)(lo base:Nat)(E:AcI)(v:Value)(xs:List α):Prop:=
 lo<=base/\xs.length*vV.bytes α<=140737488355328/\∃css:List (List Value),css.length=xs.length/\w.ownsRow base E (vV.size α) v xs.length css.flatten/\
  (∀cs∈css,cs.length=vV.size α)/\∀(i:Nat) (x:α) (cs:List Value),xs[i]? =some x->css[i]? =some cs->vV.rd w (zfi w lo v) cs x
section
variable {α:Type}[vV α]{w w':World}{lo base:Nat}{E:AcI}{v:Value}{xs:List α}
theorem Own.nil(w:World){lo base:Nat}(E:AcI)(hlo:lo<=base):Own w lo base E (.slice none 0 0) ([]:List α):=
 ⟨hlo,by simp,[],rfl,by simpa using World.ownsRow_nil w base E (vV.size α),by simp,by simp⟩
theorem Own.lt(h:Own w lo base E v xs){k:Nat}(hk:v.ownBlock=some k):base<=k/\k<w.heap.size:=by
 obtain⟨_,_,css,_,h3,_⟩:=h;exact h3.lt k hk
theorem Own.shape(h:Own w lo base E v xs):∃A c,v=.slice A xs.length c:=by
 obtain⟨_,_,css,_,h3,_⟩:=h;rcases h3.2 with⟨rfl,h0⟩|⟨g,cap,cur,rfl,_⟩
 ·rw[h0];exact⟨_,_,rfl⟩
 ·exact⟨_,_,rfl⟩
theorem Own.kept(h:Own w lo base E v xs)(hs:w.heap.size<=w'.heap.size)(hk:∀b,lo<=b->b<w.heap.size->w'.heap[b]? =w.heap[b]?):Own w' lo base E v xs:=by
 obtain⟨h1,h2,css,h3,h4,h5,h6⟩:=h;refine⟨h1,h2,css,h3,⟨h4.1,?_⟩,h5,λi x cs hx hc=>vV.mono (h6 i x cs hx hc) (λb hb=>hk b hb.1 hb.2.1) (λb hb=>⟨hb.1,by have:=hb.2.1;omega,hb.2.2⟩)⟩
 rcases h4.2 with hn|⟨g,cap,cur,rfl,hb,hg,rest⟩
 ·exact .inl hn
 ·exact .inr ⟨g,cap,cur,rfl,hb,by rw[hk g (by omega) (AbE.1 hg).1];exact hg,rest⟩
theorem Own.below(h:Own w lo base E v xs)(hb:Below w.heap.size w w'):Own w' lo base E v xs:=h.kept hb.size λb _ hb'=>hb.block b hb'
theorem Own.alloc(h:Own w lo base E v xs)(o:Obj):Own (w.alloc o) lo base E v xs:=h.kept (by simp) λb _ hb=>Below.heap_alloc w o b hb
theorem Own.drew(h:Own w lo base E v xs):Own w.drew lo base E v xs:=h.kept (BY _) λ_ _ _=>rfl
theorem Own.drewN(h:Own w lo base E v xs)(n:Nat):Own (w.drewN n) lo base E v xs:=h.kept (BY _) λ_ _ _=>rfl
theorem Own.rdV(h:Own w lo base E v xs):XX w (λb=>lo<=b/\b<w.heap.size) v xs:=by
 obtain⟨h1,h2,css,h3,h4,h5,h6⟩:=h;rcases h4.2 with⟨rfl,h0⟩|⟨g,cap,cur,rfl,hb,hg,hcap,hmax,hcur,htake⟩
 ·obtain rfl:=Aa9 h0
  exact⟨[.slice none 0 0],rfl,none,0,rfl,by simp,by simp,by simp,λ_=>rfl,λhn=>At hn (by simp)⟩
 ·refine⟨[_],rfl,some ⟨g,0,none⟩,cap,rfl,h2,hcap,hmax,(λe=>by cases e),λhn=> ?_⟩
  refine⟨g,0,rfl,⟨by omega,(AbE.1 hg).1⟩,λi x hx=> ?_⟩
  have hi:i<xs.length:=(AaD.1 hx).1;have hc:css[i]? =some (css[i]'(by omega)):=Aac (by omega)
  refine⟨_,vV.mono (h6 i x _ hx hc) (λ_ _=>rfl) (λb hb=>⟨hb.1,hb.2.1⟩),λj u hu=> ?_⟩
  have hf:=E7 css h5 i j _ u hc hu;have:=h4.cells (g:=g) rfl _ _ hf;rw[<-this];unfold Addr.add;split
  ·rename_i e;simp[e]
  ·simp
theorem Own.rds(h:Own w lo base E v xs):Rds w v xs:=XX.mono h.rdV (λ_ _=>rfl) λ_ hb=>hb.2
theorem Own.fresh(h:Own w lo base E v xs):UA w lo v xs:=h.rdV
theorem Own.bytes(h:Own w lo base E v xs):xs.length*vV.bytes α<=140737488355328:=h.2.1
theorem Own.more(h:Own w lo base E v xs){lo':Nat}(hlo:lo'<=lo):Own w lo' base E v xs:=by
 obtain⟨h1,h2,css,h3,h4,h5,h6⟩:=h;exact⟨by omega,h2,css,h3,h4,h5,λi x cs hx hc=>vV.mono (h6 i x cs hx hc) (λ_ _=>rfl) (λb hb=>⟨by have:=hb.1;omega,hb.2.1,hb.2.2⟩)⟩
theorem Own.appended{P:AcJ}{t:AcI}(hown:Own w lo base E v xs)(hbase:base<=w.heap.size){v':Value}{ys:List α}{ccs:List (List Value)}(hl:ccs.length=ys.length)
  (hcl:∀cs∈ccs,cs.length=vV.size α) (hcs:∀(i:Nat) (x:α) (cs:List Value),ys[i]? =some x->ccs[i]? =some cs->vV.rd w (zfi w lo v) cs x) (hb:(xs.length+ys.length)*vV.bytes α<=140737488355328)
  (css:List (List Value)) (h3:css.length=xs.length) (h5:∀cs∈css,cs.length=vV.size α) (h6:∀(i:Nat) (x:α) (cs:List Value),xs[i]? =some x->css[i]? =some cs->vV.rd w (zfi w lo v) cs x)
  (ho:w'.ownsRow base E (vV.size α) v' (xs.length+ys.length) (css.flatten++ccs.flatten)) (hg:w.grownBy w' v.ownBlock) (hat:v'.ownBlock=v.ownBlock\/v'.ownBlock=some w.heap.size):
  Own w' lo base E v' (xs++ys):=by
 refine⟨hown.1,by simpa using hb,css++ccs,by simp[h3,hl],by simpa using ho,λcs hc=> ?_,λi x cs hx hc=> ?_⟩
 ·rcases TO.1 hc with h|h
  ·exact h5 cs h
  ·exact hcl cs h
 ·have key:vV.rd w (zfi w lo v) cs x:=by
   by_cases hi:i<xs.length
   ·rw[AaO hi]at hx
    rw[AaO (by omega)]at hc
    exact h6 i x cs hx hc
   ·rw[AaG (by omega)]at hx
    rw[AaG (by omega),h3]at hc
    exact hcs _ x cs hx hc
  refine vV.mono key (λb hb=>hg.block b hb.2.1 (λe=>hb.2.2 e.symm)) (λb hb=>⟨hb.1,by have:=hg.size;have:=hb.2.1;omega,?_⟩)
  rcases hat with e|e<;>rw[e]
  ·exact hb.2.2
  ·intro e';injection e' with e';have:=hb.2.1;omega
end
section
variable {P:AcJ}{α:Type}[vV α]
theorem zh9(w:World)(cs:List Value)(E:AcI):∀j u,cs[j]? =some u->(w.alloc (.cells cs.toArray E)).cell? ((⟨w.heap.size,0,none⟩:Addr).add j)=some u:=by
 intro j u hu;have e:(⟨w.heap.size,0,none⟩:Addr).add j=⟨w.heap.size,j,none⟩:=by unfold Addr.add;split<;>simp_all
 rw[e,World.cell?_alloc_new];simpa using hu
theorem jW{ops:Array Oper}{rest:List Oper}{o:Oper}{a:Act}{Q:Exit->Act->World->Prop}{w:World}{lo base:Nat}{E t:AcI}{v:Value}{xs:List α}{cs:List Value}{y:α}
  (hgd:o.guard=none) (s x:Operand) (ho:o.op=.call {callee:=.builtin .append,args:= #[s,x],argTypes:= #[t,t]})
  (hr:Jo P t E (vV.size α) (vV.bytes α)) (hs:a.eval s=v) (hown:Own w lo base E v xs) {g:Nat} (hx:a.eval x=.slice (some ⟨g,0,none⟩) 1 1) (hgs:g=w.heap.size)
  (hy:LJ w (zfi w lo v) cs y) (hb:(xs.length+1)*vV.bytes α<=140737488355328) (hm:xs.length+1<=9223372036854775807) (hbase:base<=w.heap.size)
  (h:∀v' w',Own w' lo base E v' (xs++[y])->w.grownBy w' v.ownBlock->Below base w w'->wpList P ops Q rest (a.put o.dst v') w'):
  wpList P ops Q (o::rest) a (w.alloc (.cells cs.toArray E)):=by
 subst hgs;obtain⟨hu,i,z,hi,hz,hsz,hby,hzs⟩:=hr;obtain⟨h1,h2,css,h3,h4,h5,h6⟩:=hown;have hlen:cs.length=vV.size α:=vV.len hy
 obtain⟨v',w',hrun,k1,k2,_,k3⟩:=run_append_own_at (P:=P) (w.alloc (.cells cs.toArray E)) base t o.type E i z (vV.size α) (vV.bytes α) hu hi hz hsz hby hzs vV.pos v xs.length css.flatten (h4.alloc _)
  ⟨w.heap.size,0,none⟩ 1 1 cs (by simpa using hlen) (zh9 w cs E) (vV.one hy) (by unfold maxLen;omega) hb (by simp;omega)
 have hown':Own (w.alloc (.cells cs.toArray E)) lo base E v xs:=Own.alloc ⟨h1,h2,css,h3,h4,h5,h6⟩ _
 have mono:∀ {cs':List Value} {x':α},vV.rd w (zfi w lo v) cs' x'->vV.rd (w.alloc (.cells cs.toArray E)) (zfi (w.alloc (.cells cs.toArray E)) lo v) cs' x':=λhh=>
  vV.mono hh (λb hb=>Below.heap_alloc w _ b hb.2.1) (λb hb=>⟨hb.1,by simp;have:=hb.2.1;omega,hb.2.2⟩)
 have hfin:Own w' lo base E v' (xs++[y]):=Own.appended (P:=P) (t:=t) hown' (by simp;omega) (ccs:=[cs]) (ys:=[y]) rfl (by simpa using hlen)
  (λj x' cs' hx' hc'=>by
   rcases j with _|j
   ·simp at hx' hc';subst hx' hc';exact mono hy
   ·simp at hx') (by simpa using hb) css h3 h5 (λj x' cs' hx' hc'=>mono (h6 j x' cs' hx' hc')) (by simpa using k1) k2 k3
 have hgw:w.grownBy w' v.ownBlock:=⟨k2.os,k2.tape,k2.output,by have:=k2.size;simp at this;omega,λb hb hne=>(k2.block b (by simp;omega) hne).trans (Below.heap_alloc w _ b hb)⟩
 have hbl:Below base w w':=(Below.refl _ _).grown hgw hbase (λk hk=>(h4.lt k hk).1)
 refine wpList_plain hgd λK hK=> ?_
 unfold Oper.wp execOp;simp only[ho,resolve,invoke,builtin,IS,No,IT,AbF,Aak,AbG,hs,hx,hrun];exact hK _ _ (h v' w' hfin hgw hbl)
end
structure zX where
 kind:Int
 con:Int
 clause:AcM
 deriving DecidableEq
abbrev AcS:=List zX
structure xP where
 v:Int
 times:Int
 deriving DecidableEq
abbrev AcV:=List xP
structure zc5 where
 verdict:Int
 values:AcK
 proof:AcS
 deriving DecidableEq
instance vV.bool:vV Bool where
 size:=1
 bytes:=1
 rd _ _ cs x:=cs=[.bool x]
 len:=λh=>by rw[h];rfl
 one:=λh u hu=>by rw[h]at hu;simp at hu;subst hu;rfl
 mono:=λh _ _=>h
 pos:=by decide
instance vV.byte:vV UInt8 where
 size:=1
 bytes:=1
 rd _ _ cs x:=cs=[.int .u8 (x.toNat:Int)]
 len:=λh=>by rw[h];rfl
 one:=λh u hu=>by rw[h]at hu;simp at hu;subst hu;rfl
 mono:=λh _ _=>h
 pos:=by decide
instance vV.term:vV xP where
 size:=2
 bytes:=16
 rd _ _ cs x:=cs=[.int .i64 x.v,.int .i64 x.times]/\yY x.v/\yY x.times
 len:=λh=>by rw[h.1];rfl
 one:=λh u hu=>by rw[h.1]at hu;simp at hu;rcases hu with rfl|rfl<;>rfl
 mono:=λh _ _=>h
 pos:=by decide
instance vV.step:vV zX where
 size:=3
 bytes:=40
 rd w S cs x:=∃v,cs=[.int .i64 x.kind,.int .i64 x.con,v]/\yY x.kind/\yY x.con/\LJ w S [v] x.clause
 len:=λ⟨_,h,_⟩=>by rw[h];rfl
 one:=λ⟨_,h,_,_,h1⟩ u hu=>by
  rw[h]at hu;simp at hu
  rcases hu with rfl|rfl|rfl
  ·rfl
  ·rfl
  ·exact vV.one h1 _ (by simp)
 mono:=λ⟨v,h,a,b,h1⟩ hk hS=>⟨v,h,a,b,h1.mono hk hS⟩
 pos:=by decide
instance vV.ans:vV zc5 where
 size:=3
 bytes:=56
 rd w S cs x:=∃v1 v2,cs=[.int .i64 x.verdict,v1,v2]/\yY x.verdict/\LJ w S [v1] x.values/\LJ w S [v2] x.proof
 len:=λ⟨_,_,h,_⟩=>by rw[h];rfl
 one:=λ⟨_,_,h,_,h1,h2⟩ u hu=>by
  rw[h]at hu;simp at hu
  rcases hu with rfl|rfl|rfl
  ·rfl
  ·exact vV.one h1 _ (by simp)
  ·exact vV.one h2 _ (by simp)
 mono:=λ⟨v1,v2,h,a,h1,h2⟩ hk hS=>⟨v1,v2,h,a,h1.mono hk hS,h2.mono hk hS⟩
 pos:=by decide
instance vV.pair {α β:Type}[vV α][vV β]:vV (α×β) where
 size:=vV.size α+vV.size β
 bytes:=vV.bytes α+vV.bytes β
 rd w S cs x:=∃c1 c2,cs=c1++c2/\vV.rd w S c1 x.1/\vV.rd w S c2 x.2
 len:=λ⟨c1,c2,h,h1,h2⟩=>by rw[h,It,vV.len h1,vV.len h2]
 one:=λ⟨c1,c2,h,h1,h2⟩ u hu=>by
  rw[h]at hu
  rcases TO.1 hu with hu|hu
  ·exact vV.one h1 u hu
  ·exact vV.one h2 u hu
 mono:=λ⟨c1,c2,h,h1,h2⟩ hk hS=>⟨c1,c2,h,vV.mono h1 hk hS,vV.mono h2 hk hS⟩
 pos:=Nat.add_pos_left vV.pos _
inductive Ty|int|bool|str|tok|lit|var|con|mdl|step|term|ans|list (t:Ty)|pr (a b:Ty)|byte
 deriving DecidableEq
abbrev AcW:=List Ty
@[reducible] def Ty.den:Ty->Type
 | .int=>Int| .bool=>Bool| .str=>AcG| .tok=>uB| .lit=>zC| .var=>zQ| .con=>zF| .mdl=>zG| .step=>zX| .term=>xP| .ans=>zc5
 | .list t=>List t.den
 | .pr a b=>a.den×b.den
 | .byte=>UInt8
@[reducible] def Ty.rep:(t:Ty)->vV t.den
 | .int=>vV.int| .bool=>vV.bool| .str=>vV.str| .tok=>vV.tok| .lit=>vV.lit| .var=>vV.var| .con=>vV.con| .mdl=>vV.mdl| .step=>vV.step| .term=>vV.term| .ans=>vV.ans
 | .list t=> @vV.list _ (Ty.rep t)
 | .pr a b=> @vV.pair _ _ (Ty.rep a) (Ty.rep b)
 | .byte=>vV.byte
@[reducible] instance vV.ty (t:Ty):vV t.den:=Ty.rep t
def Ty.dflt:(t:Ty)->t.den
 | .int=>0| .bool=>false| .str=>⟨#[]⟩| .tok=>⟨0,0,⟨#[]⟩⟩| .lit=>⟨0,0,0⟩| .var=>⟨⟨#[]⟩,0,0⟩| .con=>⟨0,[],[],0,[],[]⟩| .mdl=>⟨[],[],0,0⟩| .step=>⟨0,0,[]⟩| .term=>⟨0,0⟩| .ans=>⟨0,[],[]⟩
 | .list _=>[]
 | .pr a b=>(a.dflt,b.dflt)
 | .byte=>0
def Ty.agg:Ty->Bool
 | .tok| .lit| .var| .con| .mdl| .step| .term| .ans| .pr _ _=>true
 |_=>false
def Ty.size:Ty->Nat
 | .tok| .lit| .var| .step| .ans=>3| .con=>6| .mdl=>4| .term=>2
 | .pr a b=>a.size+b.size
 |_=>1
def Ty.bytes:Ty->Nat
 | .int=>8| .bool=>1| .str=>16| .tok=>32| .lit=>24| .var=>32| .con=>112| .mdl=>64| .step=>40| .term=>16| .ans=>56| .list _=>24| .pr a b=>a.bytes+b.bytes| .byte=>1
theorem Ty.size_eq:(t:Ty)->t.size= @vV.size t.den (Ty.rep t)
 | .pr a b=>by show a.size+b.size=_;rw[Ty.size_eq a,Ty.size_eq b];rfl
 | .int| .bool| .str| .tok| .lit| .var| .con| .mdl| .step| .term| .ans| .list _| .byte=>rfl
theorem Ty.bytes_eq:(t:Ty)->t.bytes= @vV.bytes t.den (Ty.rep t)
 | .pr a b=>by show a.bytes+b.bytes=_;rw[Ty.bytes_eq a,Ty.bytes_eq b];rfl
 | .int| .bool| .str| .tok| .lit| .var| .con| .mdl| .step| .term| .ans| .list _| .byte=>rfl
inductive D
 |undef
 |nil
 |int (k:IntKind) (n:Int)
 |bool (b:Bool)
 |str (s:AcG)
 |sl (t:Ty) (xs:List t.den)
 |mp (k v:Ty) (es:List (k.den×v.den))
 |agg (cs:List D)
 |tup (cs:List D)
 |iptr (cs:List D) (off:Nat)
 |elt (t:Ty) (xs:List t.den) (i off:Nat)
 |clo (f:AcH) (rs:Option AcW) (caps:List D)
 |own (k:Nat)
 |ptr (k off:Nat)
 |oelt (k sz i off:Nat)
 |slN (t:Ty) (xs:List t.den) (nl:Bool)
 |ownN (k:Nat)
 |ifc (u:Value)
 |clp (f:AcH) (bd:Bool) (k off:Nat)
 |slf (k:Nat)
 deriving Inhabited
abbrev AcO:=List D
def inK:IntKind->Int->Prop
 | .i64,n=>yY n
 | .u8,n=>0<=n/\n<=255
 |_,_=>False
theorem zbu(n:Int):inK .i64 (IntKind.i64.wrap n):=by
 unfold inK yY;rw[IntKind.wrap_i64];omega
theorem znc(n:Int):inK .u8 (IntKind.u8.wrap n):=by
 unfold inK;rw[IntKind.wrap_u8];omega
def cells:(t:Ty)->t.den->AcO
 | .int,n=>[.int .i64 n]
 | .bool,b=>[.bool b]
 | .str,s=>[.str s]
 | .tok,x=>[.int .i64 x.kind,.int .i64 x.at_,.str x.text]
 | .lit,x=>[.int .i64 x.var,.int .i64 x.op,.int .i64 x.n]
 | .var,x=>[.str x.name,.int .i64 x.lo,.int .i64 x.hi]
 | .con,x=>[.int .i64 x.kind,.sl .int x.vars,.sl .int x.consts,.int .i64 x.n,.sl (.list .int) x.rows,.sl .lit x.lits]
 | .mdl,x=>[.sl .var x.vars,.sl .con x.cons,.int .i64 x.goal,.int .i64 x.var]
 | .step,x=>[.int .i64 x.kind,.int .i64 x.con,.sl .lit x.clause]
 | .term,x=>[.int .i64 x.v,.int .i64 x.times]
 | .ans,x=>[.int .i64 x.verdict,.sl .int x.values,.sl .step x.proof]
 | .list t,xs=>[.sl t xs]
 | .pr a b,x=>cells a x.1++cells b x.2
 | .byte,b=>[.int .u8 (b.toNat:Int)]
def TS(t:Ty)(x:t.den):D:=
 match t,x with
 | .int,n=> .int .i64 n
 | .bool,b=> .bool b
 | .str,s=> .str s
 | .list t,xs=> .sl t xs
 | .byte,b=> .int .u8 (b.toNat:Int)
 |t,x=> .agg (cells t x)
theorem Ty.bytes_pos:(t:Ty)->0<t.bytes
 | .pr a b=>Nat.add_pos_left (Ty.bytes_pos a) _
 | .int| .bool| .str| .tok| .lit| .var| .con| .mdl| .step| .term| .ans| .list _| .byte=>Aat rfl
theorem aR:(t:Ty)->(x:t.den)->(cells t x).length=t.size
 | .pr a b,x=>by show(cells a x.1++cells b x.2).length=_;rw[It,aR a,aR b];rfl
 | .int,_| .bool,_| .str,_| .tok,_| .lit,_| .var,_| .con,_| .mdl,_| .step,_| .term,_| .ans,_| .list _,_| .byte,_=>rfl
def Hg(t:Ty):D->Option (List t.den)
 | .sl t' xs=>if h:t'=t then some (h▸xs)else none
 | .nil=>some []
 |_=>none
def ofD:(t:Ty)->AcO->Option t.den
 | .int,[.int .i64 n]=>some n
 | .bool,[.bool b]=>some b
 | .str,[.str s]=>some s
 | .tok,[.int .i64 a,.int .i64 b,.str c]=>some ⟨a,b,c⟩
 | .lit,[.int .i64 a,.int .i64 b,.int .i64 c]=>some ⟨a,b,c⟩
 | .var,[.str a,.int .i64 b,.int .i64 c]=>some ⟨a,b,c⟩
 | .con,[.int .i64 a,b,c,.int .i64 d,e,f]=>match Hg .int b,Hg .int c,Hg (.list .int) e,Hg .lit f with
  |some b,some c,some e,some f=>some ⟨a,b,c,d,e,f⟩
  |_,_,_,_=>none
 | .mdl,[a,b,.int .i64 c,.int .i64 d]=>match Hg .var a,Hg .con b with
  |some a,some b=>some ⟨a,b,c,d⟩
  |_,_=>none
 | .step,[.int .i64 a,.int .i64 b,c]=>match Hg .lit c with
  |some c=>some ⟨a,b,c⟩
  |_=>none
 | .term,[.int .i64 a,.int .i64 b]=>some ⟨a,b⟩
 | .ans,[.int .i64 a,b,c]=>match Hg .int b,Hg .step c with
  |some b,some c=>some ⟨a,b,c⟩
  |_,_=>none
 | .list t,[d]=>Hg t d
 | .pr a b,ds=>match ofD a (ds.take a.size),ofD b (ds.drop a.size)with
  |some x,some y=>some (x,y)
  |_,_=>none
 | .byte,[.int .u8 n]=>some (UInt8.ofNat n.toNat)
 |_,_=>none
theorem Jp:(t:Ty)->ofD t (cells t t.dflt)=some t.dflt
 | .pr a b=>by
  show(match ofD a ((cells a a.dflt++cells b b.dflt).take a.size),ofD b ((cells a a.dflt++cells b b.dflt).drop a.size)with
   |some x,some y=>some (x,y)
   |_,_=>none)=_
  have h:a.size=(cells a a.dflt).length:=(aR a _).symm;rw[List.take_append_of_le_length (by omega),AaP (by omega),h,List.drop_left,Jp a,Jp b]
  rfl
 | .int| .bool| .str| .tok| .lit| .var| .con| .mdl| .step| .term| .ans| .list _=>by simp[cells,Ty.dflt,ofD,Hg]
 | .byte=>rfl
inductive wF {α β:Type}(R:α->β->Prop):List α->List β->Prop
 |nil:wF R [] []
 |cons {a b xs ys}:R a b->wF R xs ys->wF R (a::xs) (b::ys)
section
variable {α β:Type}{R R':α->β->Prop}
theorem wF.len:∀ {xs:List α} {ys:List β},wF R xs ys->xs.length=ys.length
 |_,_,.nil=>rfl
 |_,_,.cons _ h=>by simp[h.len]
theorem wF.at:∀ {xs:List α} {ys:List β},wF R xs ys->∀ {i:Nat} {b:β},ys[i]? =some b->∃a,xs[i]? =some a/\R a b
 |_,_,.nil,i,b,h=>by simp at h
 |_,_,.cons h _,0,b,hb=>⟨_,rfl,by simp at hb;subst hb;exact h⟩
 |_,_,.cons _ h,i+1,b,hb=>by simpa using h.at (i:=i) (by simpa using hb)
theorem wF.of:∀ {xs:List α} {ys:List β},xs.length=ys.length->(∀(i:Nat) (a:α) (b:β),xs[i]? =some a->ys[i]? =some b->R a b)->wF R xs ys
 |[],[],_,_=> .nil
 |a::xs,b::ys,hl,h=> .cons (h 0 a b rfl rfl) (wF.of (by simpa using hl) λi a b ha hb=>h (i+1) a b (by simpa using ha) (by simpa using hb))
 |[],_::_,hl,_=>by simp at hl
 |_::_,[],hl,_=>by simp at hl
theorem wF.append:∀ {xs:List α} {ys:List β} {xs':List α} {ys':List β},wF R xs ys->wF R xs' ys'->wF R (xs++xs') (ys++ys')
 |_,_,_,_,.nil,h=>h
 |_,_,_,_,.cons h hs,h'=> .cons h (hs.append h')
theorem wF.split:∀ {xs:List α} {ys:List β},wF R xs ys->∀n,wF R (xs.take n) (ys.take n)/\wF R (xs.drop n) (ys.drop n)
 |_,_,.nil,n=>by simp;exact .nil
 |_,_,.cons h hs,0=>⟨.nil,.cons h hs⟩
 |_,_,.cons h hs,n+1=>⟨.cons h (hs.split n).1,(hs.split n).2⟩
theorem wF.imp(hr:∀a b,R a b->R' a b):∀ {xs:List α} {ys:List β},wF R xs ys->wF R' xs ys
 |_,_,.nil=> .nil
 |_,_,.cons h hs=> .cons (hr _ _ h) (hs.imp hr)
end
def zc6(w:World)(S:Nat->Prop)(b:Nat)(k v:Ty)(es:List (k.den×v.den)):Prop:=
 es.length<=140737488355328/\∃ents clock,w.heap[b]? =some (.map ents clock)/\wF (λ(e:MapEntry) (x:k.den×v.den)=>XX w S e.key x.1/\XX w S e.val x.2) ents.toList es
theorem zc6.mono{w w':World}{S S':Nat->Prop}{b:Nat}{k v:Ty}{es:List (k.den×v.den)}(h:zc6 w S b k v es)(hk:∀b,S b->w'.heap[b]? =w.heap[b]?)(hb:w'.heap[b]? =w.heap[b]?)(hS:∀b,S b->S' b):zc6 w' S' b k v es:=by
 obtain⟨h0,ents,clock,h1,h2⟩:=h;exact⟨h0,ents,clock,hb.trans h1,h2.imp λ_ _ h=>⟨h.1.mono hk hS,h.2.mono hk hS⟩⟩
inductive Rp (w:World)(S:Nat->Prop):Value->D->Prop
 |undef (v:Value):Rp w S v .undef
 |nil:Rp w S (.slice none 0 0) .nil
 |int (k:IntKind) (n:Int) (h:inK k n):Rp w S (.int k n) (.int k n)
 |bool (b:Bool):Rp w S (.bool b) (.bool b)
 |str (s:AcG) (h:s.size<=140737488355328):Rp w S (.string s) (.str s)
 |sl (t:Ty) (xs:List t.den) (v:Value) (h:XX w S v xs):Rp w S v (.sl t xs)
 |slN (t:Ty) (xs:List t.den) (nl:Bool) (v:Value) (h:XX w S v xs) (hn:nl=false->v≠ .slice none 0 0) (hy:nl=true->v=.slice none 0 0):Rp w S v (.slN t xs nl)
 |mp (k v:Ty) (es:List (k.den×v.den)) (b:Nat) (hb:S b) (h:zc6 w S b k v es):Rp w S (.map (some b)) (.mp k v es)
 |agg (vs:Array Value) (cs:AcO) (hl:vs.size=cs.length) (h:∀i d,cs[i]? =some d->Rp w S (vs.getD i Go.undef) d):Rp w S (.agg vs) (.agg cs)
 |tup (vs:Array Value) (cs:AcO) (hl:vs.size=cs.length) (h:∀i d,cs[i]? =some d->Rp w S (vs.getD i Go.undef) d):Rp w S (.tuple vs) (.tup cs)
 |iptr (b off:Nat) (cs:AcO) (vs:Nat->Value) (hb:S b) (hc:∀i d,cs[i]? =some d->w.cell? ⟨b,i,none⟩=some (vs i)) (h:∀i d,cs[i]? =some d->Rp w S (vs i) d):
   Rp w S (.pointer (some ⟨b,off,none⟩)) (.iptr cs off)
 |elt (t:Ty) (xs:List t.den) (i off b o c:Nat) (hi:i<xs.length) (h:XX w S (.slice (some ⟨b,o,none⟩) xs.length c) xs):
   Rp w S (.pointer (some ⟨b,o+i*t.size+off,none⟩)) (.elt t xs i off)
 |clo (f:AcH) (rs:Option AcW) (caps:AcO) (vs:Array Value) (hl:vs.size=caps.length) (h:∀i d,caps[i]? =some d->Rp w S (vs.getD i Go.undef) d):Rp w S (.func (.func f) #[] vs) (.clo f rs caps)
 |ifc (u:Value):Rp w S u (.ifc u)
theorem Rp.mono{w w':World}{S S':Nat->Prop}{v:Value}{d:D}(h:Rp w S v d)(hk:∀b,S b->w'.heap[b]? =w.heap[b]?)(hS:∀b,S b->S' b):Rp w' S' v d:=by
 induction h with
 |undef v=>exact .undef v
 |nil=>exact .nil
 |int k n h=>exact .int k n h
 |bool b=>exact .bool b
 |str s h=>exact .str s h
 |sl t xs v h=>exact .sl t xs v (XX.mono h hk hS)
 |slN t xs nl v h hn hy=>exact .slN t xs nl v (XX.mono h hk hS) hn hy
 |mp k v es b hb h=>exact .mp k v es b (hS b hb) (h.mono hk (hk b hb) hS)
 |agg vs cs hl h ih=>exact .agg vs cs hl ih
 |tup vs cs hl h ih=>exact .tup vs cs hl ih
 |iptr b off cs vs hb hc h ih=>exact .iptr b off cs vs (hS b hb) (λi d hd=>(World.cell?_of_block (hk b hb)).trans (hc i d hd)) ih
 |elt t xs i off b o c hi h=>exact .elt t xs i off b o c hi (XX.mono h hk hS)
 |clo f rs caps vs hl h ih=>exact .clo f rs caps vs hl ih
 |ifc u=>exact .ifc u
section
variable {w:World}{S:Nat->Prop}{v:Value}
theorem Rp.int_inv{k:IntKind}{n:Int}(h:Rp w S v (.int k n)):v=.int k n/\inK k n:=by cases h with|int _ _ h=>exact⟨rfl,h⟩
theorem Rp.bool_inv{b:Bool}(h:Rp w S v (.bool b)):v=.bool b:=by cases h;rfl
theorem Rp.str_inv{s:AcG}(h:Rp w S v (.str s)):v=.string s/\s.size<=140737488355328:=by cases h with|str _ h=>exact⟨rfl,h⟩
theorem Rp.slN_inv{t:Ty}{xs:List t.den}{nl:Bool}(h:Rp w S v (.slN t xs nl)):XX w S v xs/\(nl=false->v≠ .slice none 0 0)/\(nl=true->v=.slice none 0 0):=by cases h;exact⟨by assumption,by assumption,by assumption⟩
theorem Rp.nil_inv(h:Rp w S v .nil):v=.slice none 0 0:=by cases h;rfl
theorem Rp.sl_inv{t:Ty}{xs:List t.den}(h:Rp w S v (.sl t xs)):XX w S v xs:=by cases h with|sl _ _ _ h=>exact h
theorem Rp.mp_inv{k u:Ty}{es:List (k.den×u.den)}(h:Rp w S v (.mp k u es)):∃b,v=.map (some b)/\S b/\zc6 w S b k u es:=by cases h with|mp _ _ _ b hb h=>exact⟨b,rfl,hb,h⟩
theorem Rp.agg_inv{cs:AcO}(h:Rp w S v (.agg cs)):∃vs,v=.agg vs/\vs.size=cs.length/\∀i d,cs[i]? =some d->Rp w S (vs.getD i Go.undef) d:=by cases h with|agg vs _ hl h=>exact⟨vs,rfl,hl,h⟩
theorem Rp.tup_inv{cs:AcO}(h:Rp w S v (.tup cs)):∃vs,v=.tuple vs/\vs.size=cs.length/\∀i d,cs[i]? =some d->Rp w S (vs.getD i Go.undef) d:=by cases h with|tup vs _ hl h=>exact⟨vs,rfl,hl,h⟩
theorem Rp.iptr_inv{cs:AcO}{off:Nat}(h:Rp w S v (.iptr cs off)):∃b,v=.pointer (some ⟨b,off,none⟩)/\S b/\∀i d,cs[i]? =some d->∃u,w.cell? ⟨b,i,none⟩=some u/\Rp w S u d:=by
 cases h with|iptr b _ _ vs hb hc h=>exact⟨b,rfl,hb,λi d hd=>⟨vs i,hc i d hd,h i d hd⟩⟩
theorem Rp.elt_inv{t:Ty}{xs:List t.den}{i off:Nat}(h:Rp w S v (.elt t xs i off)):∃b o c,v=.pointer (some ⟨b,o+i*t.size+off,none⟩)/\i<xs.length/\XX w S (.slice (some ⟨b,o,none⟩) xs.length c) xs:=by
 cases h with|elt _ _ _ _ b o c hi h=>exact⟨b,o,c,rfl,hi,h⟩
theorem Rp.clo_inv{f:AcH}{rs:Option AcW}{caps:AcO}(h:Rp w S v (.clo f rs caps)):∃vs,v=.func (.func f) #[] vs/\vs.size=caps.length/\∀i d,caps[i]? =some d->Rp w S (vs.getD i Go.undef) d:=by
 cases h with|clo _ _ _ vs hl h=>exact⟨vs,rfl,hl,h⟩
theorem Rp.ifc_inv{u:Value}(h:Rp w S v (.ifc u)):v=u:=by cases h;rfl
theorem Rp.int_mk{n:Int}(h:yY n):Rp w S (.int .i64 n) (.int .i64 n):=.int _ _ h
theorem Rp.iptr_mk{b off:Nat}{cs:AcO}(hb:S b)(h:∀i d,cs[i]? =some d->∃u,w.cell? ⟨b,i,none⟩=some u/\Rp w S u d):Rp w S (.pointer (some ⟨b,off,none⟩)) (.iptr cs off):=
 .iptr b off cs (λi=>(w.cell? ⟨b,i,none⟩).getD default) hb (λi d hd=>by obtain⟨u,hu,_⟩:=h i d hd;rw[hu];rfl) (λi d hd=>by obtain⟨u,hu,hr⟩:=h i d hd;rw[hu];exact hr)
theorem LJ.sl{t:Ty}{v:Value}{xs:List t.den}(h:LJ w S [v] xs):Rp w S v (.sl t xs):=.sl t xs v (by
 obtain⟨A,c,rfl,_,h'⟩:=zc3 h;exact h')
theorem jX:(t:Ty)-> {x:t.den}-> {cs:List Value}->vV.rd w S cs x->wF (Rp w S) cs (cells t x)
 | .int,x,cs,h=>by obtain⟨rfl,h⟩:=h;exact .cons (.int_mk h) .nil
 | .bool,x,cs,(h:cs=[.bool x])=>by subst h;exact .cons (.bool x) .nil
 | .str,x,cs,h=>by obtain⟨rfl,h⟩:=h;exact .cons (.str x h) .nil
 | .tok,x,cs,h=>by obtain⟨rfl,h1,h2,h3⟩:=h;exact .cons (.int_mk h1) (.cons (.int_mk h2) (.cons (.str _ h3) .nil))
 | .lit,x,cs,h=>by obtain⟨rfl,h1,h2,h3⟩:=h;exact .cons (.int_mk h1) (.cons (.int_mk h2) (.cons (.int_mk h3) .nil))
 | .var,x,cs,h=>by obtain⟨rfl,h1,h2,h3⟩:=h;exact .cons (.str _ h1) (.cons (.int_mk h2) (.cons (.int_mk h3) .nil))
 | .con,x,cs,h=>by obtain⟨v1,v2,v3,v4,rfl,a,b,h1,h2,h3,h4⟩:=h;exact .cons (.int_mk a) (.cons (LJ.sl (t:=.int) h1) (.cons (LJ.sl (t:=.int) h2) (.cons (.int_mk b) (.cons (LJ.sl (t:=.list .int) h3) (.cons (LJ.sl (t:=.lit) h4) .nil)))))
 | .mdl,x,cs,h=>by obtain⟨v1,v2,rfl,a,b,h1,h2⟩:=h;exact .cons (LJ.sl (t:=.var) h1) (.cons (LJ.sl (t:=.con) h2) (.cons (.int_mk a) (.cons (.int_mk b) .nil)))
 | .step,x,cs,h=>by obtain⟨v,rfl,a,b,h1⟩:=h;exact .cons (.int_mk a) (.cons (.int_mk b) (.cons (LJ.sl (t:=.lit) h1) .nil))
 | .term,x,cs,h=>by obtain⟨rfl,h1,h2⟩:=h;exact .cons (.int_mk h1) (.cons (.int_mk h2) .nil)
 | .ans,x,cs,h=>by obtain⟨v1,v2,rfl,a,h1,h2⟩:=h;exact .cons (.int_mk a) (.cons (LJ.sl (t:=.int) h1) (.cons (LJ.sl (t:=.step) h2) .nil))
 | .list t,xs,cs,h=>by obtain⟨A,c,rfl,h⟩:=h;exact .cons (.sl t xs _ ⟨_,rfl,A,c,rfl,h⟩) .nil
 | .pr a b,x,cs,h=>by obtain⟨c1,c2,rfl,h1,h2⟩:=h;exact(jX a h1).append (jX b h2)
 | .byte,x,cs,(h:cs=[.int .u8 (x.toNat:Int)])=>by subst h;exact .cons (.int _ _ ⟨by omega,by have:=x.toNat_lt;omega⟩) .nil
theorem Wx{t:Ty}{d:D}{xs:List t.den}(h:Hg t d=some xs)(hr:Rp w S v d):LJ w S [v] xs:=by
 cases d<;>simp only[Hg]at h
 case sl t' ys=>
  split at h
  ·rename_i e;subst e;injection h with h;subst h;exact zc4 hr.sl_inv
  ·cases h
 case nil=>
  injection h with h;subst h
  rw[hr.nil_inv];exact⟨none,0,rfl,by simp,by simp,by simp,λ_=>rfl,λhn=>At hn (by simp)⟩
 all_goals cases h
theorem OD(t:Ty){ds:AcO}{x:t.den}{cs:List Value}(h:ofD t ds=some x)(hr:wF (Rp w S) cs ds):vV.rd w S cs x:=by
 unfold ofD at h
 split at h
 case h_1=>injection h with h;subst h;obtain _|⟨h1,_|_⟩:=hr;obtain⟨rfl,g1⟩:=h1.int_inv;exact⟨rfl,g1⟩
 case h_2=>injection h with h;subst h;obtain _|⟨h1,_|_⟩:=hr;rw[h1.bool_inv];rfl
 case h_3=>injection h with h;subst h;obtain _|⟨h1,_|_⟩:=hr;obtain⟨rfl,g1⟩:=h1.str_inv;exact⟨rfl,g1⟩
 case h_4=>injection h with h;subst h;obtain _|⟨h1,_|⟨h2,_|⟨h3,_|_⟩⟩⟩:=hr;obtain⟨rfl,g1⟩:=h1.int_inv;obtain⟨rfl,g2⟩:=h2.int_inv;obtain⟨rfl,g3⟩:=h3.str_inv;exact⟨rfl,g1,g2,g3⟩
 case h_5=>injection h with h;subst h;obtain _|⟨h1,_|⟨h2,_|⟨h3,_|_⟩⟩⟩:=hr;obtain⟨rfl,g1⟩:=h1.int_inv;obtain⟨rfl,g2⟩:=h2.int_inv;obtain⟨rfl,g3⟩:=h3.int_inv;exact⟨rfl,g1,g2,g3⟩
 case h_6=>injection h with h;subst h;obtain _|⟨h1,_|⟨h2,_|⟨h3,_|_⟩⟩⟩:=hr;obtain⟨rfl,g1⟩:=h1.str_inv;obtain⟨rfl,g2⟩:=h2.int_inv;obtain⟨rfl,g3⟩:=h3.int_inv;exact⟨rfl,g1,g2,g3⟩
 case h_7=>
  obtain _|⟨h1,_|⟨h2,_|⟨h3,_|⟨h4,_|⟨h5,_|⟨h6,_|_⟩⟩⟩⟩⟩⟩:=hr
  obtain⟨rfl,g1⟩:=h1.int_inv;obtain⟨rfl,g4⟩:=h4.int_inv;split at h
  ·rename_i q2 q3 q5 q6;injection h with h;subst h
   exact⟨_,_,_,_,rfl,g1,g4,Wx q2 h2,Wx q3 h3,Wx q5 h5,Wx q6 h6⟩
  ·cases h
 case h_8=>
  obtain _|⟨h1,_|⟨h2,_|⟨h3,_|⟨h4,_|_⟩⟩⟩⟩:=hr
  obtain⟨rfl,g3⟩:=h3.int_inv;obtain⟨rfl,g4⟩:=h4.int_inv;split at h
  ·rename_i q1 q2;injection h with h;subst h
   exact⟨_,_,rfl,g3,g4,Wx q1 h1,Wx q2 h2⟩
  ·cases h
 case h_9=>
  obtain _|⟨h1,_|⟨h2,_|⟨h3,_|_⟩⟩⟩:=hr
  obtain⟨rfl,g1⟩:=h1.int_inv;obtain⟨rfl,g2⟩:=h2.int_inv;split at h
  ·rename_i q1;injection h with h;subst h
   exact⟨_,rfl,g1,g2,Wx q1 h3⟩
  ·cases h
 case h_10=>injection h with h;subst h;obtain _|⟨h1,_|⟨h2,_|_⟩⟩:=hr;obtain⟨rfl,g1⟩:=h1.int_inv;obtain⟨rfl,g2⟩:=h2.int_inv;exact⟨rfl,g1,g2⟩
 case h_11=>
  obtain _|⟨h1,_|⟨h2,_|⟨h3,_|_⟩⟩⟩:=hr
  obtain⟨rfl,g1⟩:=h1.int_inv;split at h
  ·rename_i q1 q2;injection h with h;subst h
   exact⟨_,_,rfl,g1,Wx q1 h2,Wx q2 h3⟩
  ·cases h
 case h_12=>
  obtain _|⟨h1,_|_⟩:=hr
  exact Wx h h1
 case h_13 a b=>
  split at h
  ·rename_i x y q1 q2
   injection h with h;subst h
   obtain⟨e1,e2⟩:=hr.split a.size;exact⟨_,_,(List.take_append_drop a.size cs).symm,OD a q1 e1,OD b q2 e2⟩
  ·cases h
 case h_14 n=>
  injection h with h;subst h
  obtain _|⟨h1,_|_⟩:=hr
  obtain⟨rfl,g1,g2⟩:=h1.int_inv;show _=[_]
  rw[UInt8.toNat_ofNat',Nat.mod_eq_of_lt (by omega),Abc g1]
 case h_15=>cases h
end
inductive yN
 |cells (ds:AcO)
 |row (e:AcI) (t:Ty) (xs:List t.den)
 |mp (k v:Ty) (es:List (k.den×v.den))
 |val (ds:AcO)
structure St where
 fr:List (Nat×D)
 hp:List (Nat×yN)
def yG{α:Type}(k:Nat):List (Nat×α)->Option α
 |[]=>none
 |(i,a)::r=>bif Nat.beq i k then some a else yG k r
def D.or:Option D->D
 |some d=>d
 |none=> .undef
def St.get(σ:St)(i:Nat):D:=D.or (yG i σ.fr)
def St.ob(σ:St)(k:Nat):Option yN:=yG k σ.hp
def St.put(σ:St)(i:Nat)(d:D):St:=⟨(i,d)::σ.fr,σ.hp⟩
def St.putO(σ:St):Option Nat->D->St
 |some i,d=>σ.put i d
 |none,_=>σ
def D.ref:D->Option Nat
 | .own k=>some k
 | .ownN k=>some k
 | .ptr k _=>some k
 | .oelt k _ _ _=>some k
 | .clp _ _ k _=>some k
 | .slf k=>some k
 |_=>none
def D.kill(k:Nat)(d:D):D:=match d.ref with
 |some j=>bif Nat.beq j k then .undef else d
 |none=>d
def yN.map(f:D->D):yN->yN
 | .cells ds=> .cells (ds.map f)
 | .val ds=> .val (ds.map f)
 |o=>o
def fC:D->Bool
 | .agg _| .tup _| .undef| .ifc _| .slf _=>false
 |_=>true
def Zv:D->Bool
 | .slf _=>true
 | .ifc (.pointer none)=>true
 |_=>false
def Vz:AcO->Bool
 |d::_=>Zv d
 |[]=>false
def zc7:List (Nat×Nat):=[(99,2),(101,6)]
def memT:List (Nat×Nat)->Nat->Nat->Bool
 |[],_,_=>false
 |i::r,k,n=>bif Nat.beq i.1 k&&Nat.beq i.2 n then true else memT r k n
def tyC(T:AcI)(ds:AcO):Prop:=Vz ds=true->memT zc7 T ds.length=true
theorem zfj{f:D->D}(hf:∀d,Zv (f d)=true->Zv d=true):∀ {ds:AcO},Vz (ds.map f)=true->Vz ds=true
 |[],h=>h
 |d::r,h=>hf d h
theorem Jq{f:D->D}(hf:∀d,Zv (f d)=true->Zv d=true){T:AcI}{ds:AcO}(h:tyC T ds):tyC T (ds.map f):=λh'=>by rw[Aag];exact h (zfj hf h')
theorem Ke{ds:AcO}{i:Nat}{d:D}(h:Vz (ds.set i d)=true):Vz ds=true\/(i=0/\Zv d=true):=by
 cases ds with
 |nil=>exact .inl h
 |cons a r=>
  cases i with
  |zero=>exact .inr ⟨rfl,h⟩
  |succ i=>exact .inl h
def yN.parts:yN->AcO
 | .cells ds=>ds
 | .val ds=>ds
 |_=>[]
def St.map(f:D->D)(σ:St):St:=⟨σ.fr.map λx=>(x.1,f x.2),σ.hp.map λx=>(x.1,x.2.map f)⟩
def drop{α:Type}(k:Nat):List (Nat×α)->List (Nat×α)
 |[]=>[]
 |(i,a)::r=>bif Nat.beq i k then drop k r else(i,a)::drop k r
def St.mk'(σ:St)(k:Nat)(o:yN):St:=⟨(σ.map (D.kill k)).fr,(k,o)::drop k (σ.map (D.kill k)).hp⟩
def St.setOb(σ:St)(k:Nat)(o:yN):St:=⟨σ.fr,(k,o)::drop k σ.hp⟩
def pG(k:Nat):yN->D->D
 | .cells ds,.ptr j off=>bif Nat.beq j k then .iptr ds off else .ptr j off
 | .row _ t xs,.own j=>bif Nat.beq j k then .sl t xs else .own j
 | .row _ t xs,.ownN j=>bif Nat.beq j k then .slN t xs false else .ownN j
 | .row _ t xs,.oelt j sz i off=>bif Nat.beq j k then bif Nat.beq sz t.size then .elt t xs i off else .undef else .oelt j sz i off
 | .val ds,.own j=>bif Nat.beq j k then .agg ds else .own j
 | .mp kt vt es,.own j=>bif Nat.beq j k then .mp kt vt es else .own j
 |_,d=>d.kill k
def St.pub(σ:St)(k:Nat)(o:yN):St:=⟨(σ.map (pG k o)).fr,drop k (σ.map (pG k o)).hp⟩
section
variable {α:Type}
theorem xG{i k:Nat}:Nat.beq i k=true↔i=k:=Iff.of_eq Nat.beq_eq
theorem wR(k i:Nat)(a:α)(r:List (Nat×α)):yG k ((i,a)::r)=if i=k then some a else yG k r:=by
 show(bif Nat.beq i k then some a else yG k r)=_
 by_cases h:i=k
 ·rw[xG.2 h,AI,As h]
 ·have:Nat.beq i k=false:=by
   cases hb:Nat.beq i k with
   |true=>exact At (xG.1 hb) h
   |false=>rfl
  rw[this,Vs,An h]
theorem eN(f:α->α)(k:Nat):∀l:List (Nat×α),yG k (l.map λx=>(x.1,f x.2))=(yG k l).map f
 |[]=>rfl
 |(i,a)::r=>by
  rw[Aak,wR,wR,eN f k r];split<;>rfl
theorem ov(k j:Nat):∀l:List (Nat×α),yG j (drop k l)=if k=j then none else yG j l
 |[]=>by simp[drop,yG]
 |(i,a)::r=>by
  show yG j (bif Nat.beq i k then drop k r else(i,a)::drop k r)=_
  cases hb:Nat.beq i k with
  |true=>
   have:=xG.1 hb;subst this;rw[AI,ov i j r,wR];split<;>simp_all
  |false=>
   rw[Vs,wR,wR,ov k j r];have hik:i≠k:=λh=>by rw[xG.2 h]at hb;cases hb
   by_cases h1:i=j
   ·rw[As h1,As h1,An (by omega)]
   ·rw[An h1,An h1]
end
def Rd(w:World)(S:Nat->Prop)(pl:Nat->Value)(v:Value)(d:D):Prop:=
 match d with
 | .own k=>v=pl k
 | .ownN k=>v=pl k/\v≠ .slice none 0 0
 | .ptr k off=>∃b,pl k=.pointer (some ⟨b,0,none⟩)/\v=.pointer (some ⟨b,off,none⟩)
 | .oelt k sz i off=>∃b n c,pl k=.slice (some ⟨b,0,none⟩) n c/\i<n/\v=.pointer (some ⟨b,i*sz+off,none⟩)
 | .slf k=>v=.pointer none\/∃b,pl k=.pointer (some ⟨b,0,none⟩)/\v=.pointer (some ⟨b,0,none⟩)
 | .clp f bd k off=>∃b,pl k=.pointer (some ⟨b,0,none⟩)/\v=.func (.func f) (bif bd then #[.pointer (some ⟨b,off,none⟩)]else #[]) (bif bd then #[]else #[.pointer (some ⟨b,off,none⟩)])
 |d=>Rp w S v d
def oY:Value->Option Nat
 | .pointer (some a)=>some a.block
 | .slice (some a) _ _=>some a.block
 | .map (some b)=>some b
 |_=>none
def lim:Nat:=140737488355328
def W2(w:World)(S:Nat->Prop)(pl:Nat->Value)(p:Value):yN->Prop
 | .cells ds=>∃b vs T,p=.pointer (some ⟨b,0,none⟩)/\w.heap[b]? =some (.cells vs T (0,0))/\vs.size=ds.length/\
   (∀i d,ds[i]? =some d->Rd w S pl (vs.getD i undef) d)/\tyC T ds
 | .row e t xs=>xs.length*t.bytes<=lim/\∃css:List (List Value),css.length=xs.length/\w.ownsRow 0 e t.size p xs.length css.flatten/\(∀cs∈css,cs.length=t.size)/\
   ∀(i:Nat) (x:t.den) (cs:List Value),xs[i]? =some x->css[i]? =some cs->vV.rd w S cs x
 | .mp kt vt es=>∃b,p=.map (some b)/\zc6 w S b kt vt es
 | .val ds=>∃vs,p=.agg vs/\vs.size=ds.length/\∀i d,ds[i]? =some d->Rd w S pl (vs.getD i undef) d/\(fC d=true->(vs.getD i undef).oneCell'=true)
def stabK(k:Nat):Bool:=Nat.ble 1000 k&&Nat.blt k 2000
structure Tx where
 w:World
 S:Nat->Prop
 O:Nat->Prop
 pl:Nat->Value
structure pH (B:Nat)(O:Nat->Prop)(w w':World):Prop where
 os:w'.os=w.os
 tape:w'.tape=w.tape
 output:w'.output=w.output
 size:w.heap.size<=w'.heap.size
 block:∀k,k<B->¬O k->w'.heap[k]? =w.heap[k]?
theorem pH.of{B:Nat}{O:Nat->Prop}{w w':World}(h:Below B w w'):pH B O w w':=⟨h.os,h.tape,h.output,h.size,λk hk _=>h.block k hk⟩
theorem pH.trans{B:Nat}{O:Nat->Prop}{a b c:World}(h:pH B O a b)(k:pH B O b c):pH B O a c:=
 ⟨k.os.trans h.os,k.tape.trans h.tape,k.output.trans h.output,Aai h.size k.size,λi hi ho=>(k.block i hi ho).trans (h.block i hi ho)⟩
theorem pH.below{B:Nat}{O:Nat->Prop}{w w':World}(h:pH B O w w')(hO:∀b,¬O b):Below B w w':=⟨h.os,h.tape,h.output,h.size,λk hk=>h.block k hk (hO k)⟩
def GOk(P:AcJ)(w:World)(O:Nat->Prop):Prop:=∀g,P.globalNamed "internal/strconv.uint64pow10" =some g->Lib.TabIs P w "internal/strconv.uint64pow10" .u64 Lib.pow10Tab/\¬O g
theorem GOk.step{P:AcJ}{w w':World}{O O':Nat->Prop}(h:GOk P w O)(hb:pH w.heap.size O w w')(hO:∀b,O' b->O b\/w.heap.size<=b):GOk P w' O':=λg hg=>by
 obtain⟨h1,h2⟩:=h g hg
 have hlt:g<w.heap.size:=by
  rcases Aa8 g w.heap.size with hl|hl
  ·exact hl
  ·unfold Lib.TabIs World.var? at h1
   rw[hg]at h1
   simp only[AbH,Acb hl]at h1
   cases h1
 refine⟨?_,λho=>(hO g ho).elim h2 λhge=>by omega⟩
 unfold Lib.TabIs World.var? at h1⊢
 rw[hg]at h1⊢
 simp only[AbH]at h1⊢
 rw[hb.block g hlt h2];exact h1
theorem GOk.sub{P:AcJ}{w:World}{O O':Nat->Prop}(h:GOk P w O)(hO:∀b,O' b->O b):GOk P w O':=λg hg=>⟨(h g hg).1,λho=>(h g hg).2 (hO g ho)⟩
structure qQ (P:AcJ)(b0:Tx)(N:Nat)(σ:St)(a:Act)(w:World)(S:Nat->Prop)(pl:Nat->Value):Prop where
 dz:a.defers=[]
 sz:a.tmps.size=N
 fr:∀i,Rd w S pl (a.tmps.getD i undef) (σ.get i)
 hp:∀k o,yG k σ.hp=some o->W2 w S pl (pl k) o
 lt:∀b,S b->b<w.heap.size
 src:∀b,S b->b0.S b\/b0.O b\/b0.w.heap.size<=b
 priv:∀k o b,yG k σ.hp=some o->oY (pl k)=some b->(b0.O b\/b0.w.heap.size<=b)/\b<w.heap.size/\¬S b
 inj:∀k k' o o' b,yG k σ.hp=some o->yG k' σ.hp=some o'->oY (pl k)=some b->oY (pl k')=some b->k=k'
 below:pH b0.w.heap.size b0.O b0.w w
 stay:∀k,stabK k=true->pl k=b0.pl k
 gok:GOk P b0.w b0.O
theorem qQ.gnow{P:AcJ}{b0:Tx}{N:Nat}{σ:St}{a:Act}{w:World}{S:Nat->Prop}{pl:Nat->Value}(m:qQ P b0 N σ a w S pl){O:Nat->Prop}(hO:∀b,O b->b0.O b\/b0.w.heap.size<=b):GOk P w O:=m.gok.step m.below hO
theorem Mu{k:Nat}{d:D}(h:fC (d.kill k)=true):fC d=true:=by
 cases d<;>first|rfl|exact h|(simp only[D.kill,D.ref]at h;revert h;cases Nat.beq _ k<;>exact id)
theorem Hh{k:Nat}{d:D}(h:Zv (d.kill k)=true):Zv d=true:=by
 cases d<;>first|rfl|exact h|(simp only[D.kill,D.ref]at h;revert h;cases Nat.beq _ k<;>exact id)
theorem D.kill_ne{k:Nat}{d:D}(h:d.ref≠some k):d.kill k=d:=by
 unfold D.kill;cases hr:d.ref with
 |none=>rfl
 |some j=>
  simp only;cases hb:Nat.beq j k with
  |true=>rw[hr,xG.1 hb]at h;exact At rfl h
  |false=>rfl
theorem D.kill_eq{k:Nat}{d:D}(h:d.ref=some k):d.kill k=.undef:=by
 unfold D.kill;rw[h];simp only[xG.2 (rfl:k=k),AI]
section
variable {P:AcJ}{b0:Tx}{w w':World}{S S':Nat->Prop}{pl pl':Nat->Value}{N:Nat}{σ:St}{a:Act}{v:Value}{d:D}
theorem Rd.flat(h:Rd w S pl v d)(hd:d.ref=none):Rp w S v d:=by
 cases d<;>first|exact h|(simp[D.ref]at hd)
theorem Rp.rd(h:Rp w S v d):Rd w S pl v d:=by
 cases d<;>first|exact h|cases h
theorem Rd.mono(h:Rd w S pl v d)(hk:∀b,S b->w'.heap[b]? =w.heap[b]?)(hS:∀b,S b->S' b)(hp:∀k,d.ref=some k->pl' k=pl k):Rd w' S' pl' v d:=by
 cases hr:d.ref with
 |none=>exact((h.flat hr).mono hk hS).rd
 |some k=>
  have hp:=hp k hr;cases d<;>simp only[D.ref,Option.some.injEq,reduceCtorEq]at hr
  all_goals subst hr;simp only[Rd]at h⊢;rw[hp];exact h
theorem Rd.kill(h:Rd w S pl v d)(k:Nat):Rd w S pl v (d.kill k):=by
 by_cases hr:d.ref=some k
 ·rw[D.kill_eq hr];exact Rp.rd (.undef v)
 ·rw[D.kill_ne hr];exact h
theorem UC(d:D)(k:Nat):(d.kill k).ref≠some k:=by
 by_cases hr:d.ref=some k
 ·rw[D.kill_eq hr];simp[D.ref]
 ·rw[D.kill_ne hr];exact hr
theorem kH:Rd w S pl v .undef:=Rp.rd (.undef v)
theorem W2.mono{p:Value}{o:yN}(h:W2 w S pl p o)(hk:∀b,S b->w'.heap[b]? =w.heap[b]?)(hb:∀b,oY p=some b->w'.heap[b]? =w.heap[b]?)(hS:∀b,S b->S' b)
  (hp:∀d k,d∈o.parts->d.ref=some k->pl' k=pl k):W2 w' S' pl' p o:=by
 cases o with
 |cells ds=>
  obtain⟨b,vs,T,rfl,h1,h2,h3,h4⟩:=h;exact⟨b,vs,T,rfl,by rw[hb b rfl];exact h1,h2,λi d hd=>(h3 i d hd).mono hk hS λk hr=>hp d k (AaQ hd) hr,h4⟩
 |val ds=>
  obtain⟨vs,rfl,h2,h3⟩:=h;exact⟨vs,rfl,h2,λi d hd=>⟨(h3 i d hd).1.mono hk hS λk hr=>hp d k (AaQ hd) hr,(h3 i d hd).2⟩⟩
 |row e t xs=>
  obtain⟨h0,css,h1,h2,h3,h4⟩:=h;refine⟨h0,css,h1,⟨h2.1,?_⟩,h3,λi x cs hx hc=>vV.mono (h4 i x cs hx hc) hk hS⟩
  rcases h2.2 with hn|⟨g,cap,cur,rfl,hb',hg,rest⟩
  ·exact .inl hn
  ·exact .inr ⟨g,cap,cur,rfl,hb',by rw[hb g rfl];exact hg,rest⟩
 |mp kt vt es=>
  obtain⟨b,rfl,h⟩:=h;exact⟨b,rfl,h.mono hk (hb b rfl) hS⟩
theorem St.get_put(σ:St)(i j:Nat)(d:D):(σ.put i d).get j=if i=j then d else σ.get j:=by
 unfold St.get St.put;rw[wR];split<;>rfl
theorem St.get_map(f:D->D)(hf:f .undef=.undef)(σ:St)(i:Nat):(σ.map f).get i=f (σ.get i):=by
 unfold St.get St.map;rw[eN];cases yG i σ.fr<;>simp[D.or,hf]
theorem qQ.put(m:qQ P b0 N σ a w S pl){i:Nat}(hi:i<N)(h:Rd w S pl v d):qQ P b0 N (σ.put i d) {a with tmps:=a.tmps.setIfInBounds i v} w S pl where
 dz:=m.dz
 sz:=by simpa using m.sz
 fr:=λj=>by
  rw[St.get_put]
  by_cases hj:i=j
  ·subst hj;rw[As rfl];rw[Aae];simpa[m.sz,hi]using h
  ·rw[An hj,Aae,Acz hj,<-Aae];exact m.fr j
 hp:=m.hp
 lt:=m.lt
 src:=m.src
 priv:=m.priv
 inj:=m.inj
 below:=m.below
 stay:=m.stay
 gok:=m.gok
theorem qQ.putO(m:qQ P b0 N σ a w S pl){dst:Option Nat}(hi:∀i,dst=some i->i<N)(h:Rd w S pl v d):qQ P b0 N (σ.putO dst d) (a.put dst v) w S pl:=by
 cases dst with
 |none=>exact m
 |some i=>exact m.put (hi i rfl) h
theorem qQ.world(m:qQ P b0 N σ a w S pl)(hS:∀b,S b->w'.heap[b]? =w.heap[b]?)(hP:∀k o b,yG k σ.hp=some o->oY (pl k)=some b->w'.heap[b]? =w.heap[b]?)
  (hs:w.heap.size<=w'.heap.size) (hb:pH b0.w.heap.size b0.O b0.w w'):qQ P b0 N σ a w' S pl where
 dz:=m.dz
 sz:=m.sz
 fr:=λi=>(m.fr i).mono hS (λ_ h=>h) λ_ _=>rfl
 hp:=λk o h=>(m.hp k o h).mono hS (λb hb=>hP k o b h hb) (λ_ h=>h) λ_ _ _ _=>rfl
 lt:=λb h=>Aax (m.lt b h) hs
 src:=m.src
 priv:=λk o b h h'=>⟨(m.priv k o b h h').1,Aax (m.priv k o b h h').2.1 hs,(m.priv k o b h h').2.2⟩
 inj:=m.inj
 below:=hb
 stay:=m.stay
 gok:=m.gok
theorem qQ.later(m:qQ P b0 N σ a w S pl)(hb:Below w.heap.size w w'):qQ P b0 N σ a w' S pl:=
 m.world (λb h=>hb.block b (m.lt b h)) (λk o b h h'=>hb.block b (m.priv k o b h h').2.1) hb.size (m.below.trans (.of (hb.mono m.below.size)))
theorem qQ.more(m:qQ P b0 N σ a w S pl)(hS:∀b,S b->S' b)(h1:∀b,S' b->b<w.heap.size)(h2:∀b,S' b->b0.S b\/b0.O b\/b0.w.heap.size<=b)(h3:∀k o b,yG k σ.hp=some o->oY (pl k)=some b->¬S' b):qQ P b0 N σ a w S' pl where
 dz:=m.dz
 sz:=m.sz
 fr:=λi=>(m.fr i).mono (λ_ _=>rfl) hS λ_ _=>rfl
 hp:=λk o h=>(m.hp k o h).mono (λ_ _=>rfl) (λ_ _=>rfl) hS λ_ _ _ _=>rfl
 lt:=h1
 src:=h2
 priv:=λk o b h h'=>⟨(m.priv k o b h h').1,(m.priv k o b h h').2.1,h3 k o b h h'⟩
 inj:=m.inj
 below:=m.below
 stay:=m.stay
 gok:=m.gok
theorem bL{α:Type}{k:Nat}{o:α}:∀ {l:List (Nat×α)},yG k l=some o->(k,o)∈l
 |[],h=>by cases h
 |(i,x)::r,h=>by
  rw[wR]at h
  split at h
  ·rename_i e;injection h with h;subst h e;exact Ks
  ·exact On _ (bL h)
theorem qQ.mk'(m:qQ P b0 N σ a w S pl)(k:Nat)(hst:stabK k=false)(o:yN)(p:Value)(hlater:Below w.heap.size w w')(hp:∀b,oY p=some b->w.heap.size<=b/\b<w'.heap.size)
  (ho:∀pl':Nat->Value,(∀j,j≠k->pl' j=pl j)->W2 w' S pl' p o):qQ P b0 N (σ.mk' k o) a w' S (λj=>if j=k then p else pl j):=by
 have m':=m.later hlater;have hne:∀j,j≠k->(λj=>if j=k then p else pl j) j=pl j:=λj hj=>An hj
 have hold:∀j o',yG j (σ.mk' k o).hp=some o'->j≠k->∃o₀,yG j σ.hp=some o₀/\o'=o₀.map (D.kill k):=by
  intro j o' h hj;simp only[St.mk',wR,ov,An (Ne.symm hj)]at h
  simp only[St.map,eN]at h
  cases ho:yG j σ.hp with
  |none=>rw[ho]at h;cases h
  |some o₀=>rw[ho]at h;injection h with h;exact⟨o₀,rfl,h.symm⟩
 refine⟨m.dz,m.sz,λi=> ?_,λj o' h=> ?_,m'.lt,m'.src,λj o' b h hb=> ?_,λj j' o1 o2 b h1 h2 hb1 hb2=> ?_,m'.below,λj hj=>(hne j λe=>by rw[e,hst]at hj;cases hj).trans (m.stay j hj),m.gok⟩
 ·have e:(σ.mk' k o).get i=(σ.get i).kill k:=by
   show D.or (yG i (σ.map (D.kill k)).fr)=_
   exact St.get_map _ rfl σ i
  rw[e];exact((m'.fr i).kill k).mono (λ_ _=>rfl) (λ_ h=>h) λj hj=>hne j λe=>UC _ _ (e▸hj)
 ·by_cases hj:j=k
  ·subst hj
   simp only[St.mk',wR,As]at h
   injection h with h;subst h
   rw[As rfl];exact ho _ hne
  ·obtain⟨o₀,h0,rfl⟩:=hold j o' h hj
   rw[An hj];have h1:=m'.hp j o₀ h0;cases o₀ with
   |row e t xs=>exact W2.mono (pl:=pl) h1 (λ_ _=>rfl) (λ_ _=>rfl) (λ_ h=>h) λ_ _ e=>by cases e
   |mp kt vt es=>exact W2.mono (pl:=pl) h1 (λ_ _=>rfl) (λ_ _=>rfl) (λ_ h=>h) λ_ _ e=>by cases e
   |val ds=>
    obtain⟨vs,e1,e3,e4⟩:=h1;refine⟨vs,e1,by simpa using e3,λi d hd=> ?_⟩
    simp only[Aau,Aba]at hd
    obtain⟨d0,hd0,rfl⟩:=hd;exact⟨((e4 i d0 hd0).1.kill k).mono (λ_ _=>rfl) (λ_ h=>h) λj hj=>hne j λe=>UC _ _ (e▸hj),λhc=>(e4 i d0 hd0).2 (Mu hc)⟩
   |cells ds=>
    obtain⟨b,vs,T,e1,e2,e3,e4,e5⟩:=h1;refine⟨b,vs,T,e1,e2,by simpa using e3,λi d hd=> ?_,Jq (λ_=>Hh) e5⟩
    simp only[Aau,Aba]at hd
    obtain⟨d0,hd0,rfl⟩:=hd;exact((e4 i d0 hd0).kill k).mono (λ_ _=>rfl) (λ_ h=>h) λj hj=>hne j λe=>UC _ _ (e▸hj)
 ·by_cases hj:j=k
  ·rw[As hj]at hb
   obtain⟨hb1,hb2⟩:=hp b hb;exact⟨.inr (Aai m.below.size hb1),hb2,λhs=>by have:=m.lt b hs;omega⟩
  ·rw[An hj]at hb
   obtain⟨o₀,h0,_⟩:=hold j o' h hj;exact m'.priv j o₀ b h0 hb
 ·by_cases hj:j=k<;>by_cases hj':j'=k
  ·rw[hj,hj']
  ·rw[As hj]at hb1;rw[An hj']at hb2
   obtain⟨o₀,h0,_⟩:=hold j' o2 h2 hj';have:=(m.priv j' o₀ b h0 hb2).2.1;have:=(hp b hb1).1;omega
  ·rw[An hj]at hb1;rw[As hj']at hb2
   obtain⟨o₀,h0,_⟩:=hold j o1 h1 hj;have:=(m.priv j o₀ b h0 hb1).2.1;have:=(hp b hb2).1;omega
  ·rw[An hj]at hb1;rw[An hj']at hb2
   obtain⟨p1,h1',_⟩:=hold j o1 h1 hj;obtain⟨p2,h2',_⟩:=hold j' o2 h2 hj';exact m.inj j j' p1 p2 b h1' h2' hb1 hb2
end
def yN.flat:yN->Prop
 | .cells ds=>∀d∈ds,d.ref=none
 | .row _ _ _=>True
 | .mp _ _ _=>True
 | .val ds=>∀d∈ds,d.ref=none
def St.forget(σ:St)(k:Nat):St:=⟨(σ.map (D.kill k)).fr,drop k (σ.map (D.kill k)).hp⟩
def MT(pl:Nat->Value)(k:Nat)(p:Value):Nat->Value:=λj=>if j=k then p else pl j
section
variable {P:AcJ}{b0:Tx}{w w':World}{S S':Nat->Prop}{pl pl':Nat->Value}{N:Nat}{σ:St}{a:Act}{v:Value}{d:D}
theorem VW{p:Value}{e:AcI}{t:Ty}{xs:List t.den}(h:W2 w S pl p (.row e t xs)):XX w (λb=>S b\/oY p=some b) p xs:=by
 obtain⟨h0,css,h3,h4,h5,h6⟩:=h;rcases h4.2 with⟨rfl,hn⟩|⟨g,cap,cur,rfl,_,hg,hcap,hmax,hcur,htake⟩
 ·obtain rfl:=Aa9 hn
  exact⟨[.slice none 0 0],rfl,none,0,rfl,by simp,by simp,by simp,λ_=>rfl,λhn=>At hn (by simp)⟩
 ·refine⟨[_],rfl,some ⟨g,0,none⟩,cap,rfl,by rw[<-Ty.bytes_eq];exact h0,hcap,hmax,(λe=>by cases e),λhn=> ?_⟩
  refine⟨g,0,rfl,.inr rfl,λi x hx=> ?_⟩
  have hi:i<xs.length:=(AaD.1 hx).1;have hc:css[i]? =some (css[i]'(by omega)):=Aac (by omega)
  refine⟨_,vV.mono (h6 i x _ hx hc) (λ_ _=>rfl) (λb hb=> .inl hb),λj u hu=> ?_⟩
  have hf:=E7 css h5 i j _ u hc hu;have:=h4.cells (g:=g) rfl _ _ hf;rw[<-this,Ty.size_eq];unfold Addr.add;split
  ·rename_i e;simp[e]
  ·simp
theorem Yp{j k:Nat}(h:j≠k):Nat.beq j k=false:=by
 cases hb:Nat.beq j k with
 |true=>exact At (xG.1 hb) h
 |false=>rfl
theorem Jr{k:Nat}{o:yN}{d:D}(h:d.ref≠some k):pG k o d=d:=by
 cases d
 case own j=>have hb:=Yp (λe:j=k=>h (by rw[e];rfl));cases o<;>simp[pG,D.kill,D.ref,hb]
 case ptr j off=>have hb:=Yp (λe:j=k=>h (by rw[e];rfl));cases o<;>simp[pG,D.kill,D.ref,hb]
 case oelt j sz i off=>have hb:=Yp (λe:j=k=>h (by rw[e];rfl));cases o<;>simp[pG,D.kill,D.ref,hb]
 case ownN j=>have hb:=Yp (λe:j=k=>h (by rw[e];rfl));cases o<;>simp[pG,D.kill,D.ref,hb]
 case slf j=>have hb:=Yp (λe:j=k=>h (by rw[e];rfl));cases o<;>simp[pG,D.kill,D.ref,hb]
 case clp f bd j off=>have hb:=Yp (λe:j=k=>h (by rw[e];rfl));cases o<;>simp[pG,D.kill,D.ref,hb]
 all_goals cases o<;>rfl
theorem zc8{k:Nat}{o:yN}{d:D}(h:fC (pG k o d)=true):fC d=true:=by
 cases d<;>first|rfl|(cases o<;>first|exact h|exact Mu h)
theorem zc9{k:Nat}{o:yN}{d:D}(h:Zv (pG k o d)=true):Zv d=true:=by
 cases d<;>first|rfl|(cases o<;>first|exact h|exact Hh h|(simp only[pG]at h;revert h;cases Nat.beq _ k<;>first|exact id|exact λh=>(by cases h)|(rw[AI];cases Nat.beq _ _<;>exact λh=>(by cases h))))
theorem Mv{k:Nat}{o:yN}(ho:W2 w S pl (pl k) o)(hf:o.flat)(h:Rd w S pl v d):Rd w (λb=>S b\/oY (pl k)=some b) pl v (pG k o d):=by
 by_cases hr:d.ref=some k
 ·cases o with
  |cells ds=>
   obtain⟨b,vs,T,e1,e2,e3,e4,_⟩:=ho;cases d<;>simp only[D.ref,Option.some.injEq,reduceCtorEq]at hr
   case ptr j off=>
    subst hr;simp only[pG,xG.2 (rfl:j=j),AI];obtain⟨b',e1',rfl⟩:=h;rw[e1]at e1'
    injection e1' with e1';injection e1' with e1';injection e1' with e1';subst e1'
    refine Rp.rd (Rp.iptr_mk (.inr (by rw[e1];rfl)) λi d hd=> ?_)
    have hi:i<vs.size:=by rw[e3];exact(AaD.1 hd).1
    refine⟨vs.getD i undef,?_,((e4 i d hd).flat (hf d (AaQ hd))).mono (λ_ _=>rfl) λ_ h=> .inl h⟩
    rw[cell_of_row w b i vs T (0,0) e2];simp[Aae,hi]
   all_goals
    subst hr;simp only[pG];rw[D.kill_eq rfl];exact kH
  |row e t xs=>
   have hv:=VW ho;cases d<;>simp only[D.ref,Option.some.injEq,reduceCtorEq]at hr
   case own j=>
    subst hr;simp only[pG,xG.2 (rfl:j=j),AI];have h:v=pl j:=h;rw[h];exact Rp.rd (.sl t xs _ hv)
   case ownN j=>
    subst hr;simp only[pG,xG.2 (rfl:j=j),AI];have h:v=pl j/\v≠ .slice none 0 0:=h;rw[h.1];exact Rp.rd (.slN t xs _ _ hv (λ_=>by rw[<-h.1];exact h.2) λe=>by cases e)
   case oelt j sz i off=>
    subst hr;simp only[pG,xG.2 (rfl:j=j),AI];obtain⟨b,n,c,e1,hi,rfl⟩:=h;cases hz:Nat.beq sz t.size with
    |false=>exact kH
    |true=>
     rw[AI,xG.1 hz];obtain⟨A,c',e2,_⟩:=rN hv;rw[e1]at e2
     injection e2 with e2 e3 e4
     subst e3;rw[e1]at hv
     have:=Rp.elt (w:=w) (S:=λb=>S b\/oY (pl j)=some b) t xs i off b 0 c hi (by rw[e1];exact hv)
     rw[Aas]at this
     exact Rp.rd this
   all_goals
    subst hr;simp only[pG];rw[D.kill_eq rfl];exact kH
  |val ds=>
   obtain⟨vs,e1,e3,e4⟩:=ho;cases d<;>simp only[D.ref,Option.some.injEq,reduceCtorEq]at hr
   case own j=>
    subst hr;simp only[pG,xG.2 (rfl:j=j),AI];have h:v=pl j:=h;rw[h,e1];exact Rp.rd (.agg vs ds e3 λi d hd=>((e4 i d hd).1.flat (hf d (AaQ hd))).mono (λ_ _=>rfl) λ_ h=> .inl h)
   all_goals
    subst hr;simp only[pG];rw[D.kill_eq rfl];exact kH
  |mp kt vt es=>
   obtain⟨b,e1,hm⟩:=ho;cases d<;>simp only[D.ref,Option.some.injEq,reduceCtorEq]at hr
   case own j=>
    subst hr;simp only[pG,xG.2 (rfl:j=j),AI];have h:v=pl j:=h;rw[h,e1];exact Rp.rd (.mp kt vt es b (.inr rfl) (hm.mono (λ_ _=>rfl) rfl λ_ h=> .inl h))
   all_goals
    subst hr;simp only[pG];rw[D.kill_eq rfl];exact kH
 ·rw[Jr hr]
  exact h.mono (λ_ _=>rfl) (λ_ h=> .inl h) λ_ _=>rfl
theorem qQ.pub(m:qQ P b0 N σ a w S pl){k:Nat}{o:yN}(h:yG k σ.hp=some o)(hf:o.flat):qQ P b0 N (σ.pub k o) a w (λb=>S b\/oY (pl k)=some b) pl:=by
 have ho:=m.hp k o h
 have hold:∀j o',yG j (σ.pub k o).hp=some o'->j≠k/\∃o₀,yG j σ.hp=some o₀/\o'=o₀.map (pG k o):=by
  intro j o' h'
  by_cases hj:j=k
  ·subst hj;simp[St.pub,ov]at h'
  ·refine⟨hj,?_⟩
   simp only[St.pub,ov,An (Ne.symm hj),St.map,eN]at h'
   cases ho:yG j σ.hp with
   |none=>rw[ho]at h';cases h'
   |some o₀=>rw[ho]at h';injection h' with h';exact⟨o₀,rfl,h'.symm⟩
 have hu:pG k o .undef=.undef:=by cases o<;>rfl
 refine⟨m.dz,m.sz,λi=> ?_,λj o' h'=> ?_,λb hb=> ?_,λb hb=> ?_,λj o' b h' hb=> ?_,λj j' o1 o2 b h1 h2 hb1 hb2=> ?_,m.below,m.stay,m.gok⟩
 ·have e:(σ.pub k o).get i=pG k o (σ.get i):=St.get_map _ hu σ i
  rw[e];exact Mv ho hf (m.fr i)
 ·obtain⟨hj,o₀,h0,rfl⟩:=hold j o' h'
  have h1:=m.hp j o₀ h0;cases o₀ with
  |row e t xs=>exact h1.mono (λ_ _=>rfl) (λ_ _=>rfl) (λ_ h=> .inl h) λ_ _ e=>by cases e
  |mp kt vt es=>exact h1.mono (λ_ _=>rfl) (λ_ _=>rfl) (λ_ h=> .inl h) λ_ _ e=>by cases e
  |val ds=>
   obtain⟨vs,e1,e3,e4⟩:=h1;refine⟨vs,e1,by simpa using e3,λi d hd=> ?_⟩
   simp only[Aau,Aba]at hd
   obtain⟨d0,hd0,rfl⟩:=hd;exact⟨Mv ho hf (e4 i d0 hd0).1,λhc=>(e4 i d0 hd0).2 (zc8 hc)⟩
  |cells ds=>
   obtain⟨b,vs,T,e1,e2,e3,e4,e5⟩:=h1;refine⟨b,vs,T,e1,e2,by simpa using e3,λi d hd=> ?_,Jq (λ_=>zc9) e5⟩
   simp only[Aau,Aba]at hd
   obtain⟨d0,hd0,rfl⟩:=hd;exact Mv ho hf (e4 i d0 hd0)
 ·rcases hb with hb|hb
  ·exact m.lt b hb
  ·exact(m.priv k o b h hb).2.1
 ·rcases hb with hb|hb
  ·exact m.src b hb
  ·exact .inr (m.priv k o b h hb).1
 ·obtain⟨hj,o₀,h0,_⟩:=hold j o' h'
  have:=m.priv j o₀ b h0 hb;refine⟨this.1,this.2.1,λhs=> ?_⟩
  rcases hs with hs|hs
  ·exact this.2.2 hs
  ·exact hj (m.inj j k o₀ o b h0 h hb hs)
 ·obtain⟨_,p1,h1',_⟩:=hold j o1 h1
  obtain⟨_,p2,h2',_⟩:=hold j' o2 h2;exact m.inj j j' p1 p2 b h1' h2' hb1 hb2
theorem qQ.setOb(m:qQ P b0 N σ a w S pl){k b:Nat}{o o':yN}(h:yG k σ.hp=some o)(hb:oY (pl k)=some b)(hh:∀c,c≠b->w'.heap[c]? =w.heap[c]?)(hs:w'.heap.size=w.heap.size)
  (hw:w'.os=w.os/\w'.tape=w.tape/\w'.output=w.output) (ho:W2 w' S pl (pl k) o'):qQ P b0 N (σ.setOb k o') a w' S pl:=by
 have hp:=m.priv k o b h hb;have hS:∀c,S c->w'.heap[c]? =w.heap[c]? :=λc hc=>hh c λe=>hp.2.2 (e▸hc)
 have hold:∀j o1,yG j (σ.setOb k o').hp=some o1->j≠k->yG j σ.hp=some o1:=by
  intro j o1 h1 hj;simpa only[St.setOb,wR,ov,An (Ne.symm hj)]using h1
 have hsome:∀j o1,yG j (σ.setOb k o').hp=some o1->∃o2,yG j σ.hp=some o2:=by
  intro j o1 h1
  by_cases hj:j=k
  ·subst hj;exact⟨o,h⟩
  ·exact⟨o1,hold j o1 h1 hj⟩
 refine⟨m.dz,m.sz,λi=>(m.fr i).mono hS (λ_ h=>h) λ_ _=>rfl,λj o1 h1=> ?_,λc hc=>by rw[hs];exact m.lt c hc,m.src,λj o1 c h1 hc=> ?_,λj j' o1 o2 c h1 h2 hc1 hc2=> ?_,?_,m.stay,m.gok⟩
 ·by_cases hj:j=k
  ·subst hj
   simp only[St.setOb,wR,As]at h1
   injection h1 with h1;subst h1;exact ho
  ·have h0:=hold j o1 h1 hj
   exact(m.hp j o1 h0).mono hS (λc hc=>hh c λe=>hj (m.inj j k o1 o c h0 h hc (e▸hb))) (λ_ h=>h) λ_ _ _ _=>rfl
 ·obtain⟨o2,h2⟩:=hsome j o1 h1
  have:=m.priv j o2 c h2 hc;exact⟨this.1,by rw[hs];exact this.2.1,this.2.2⟩
 ·obtain⟨p1,h1'⟩:=hsome j o1 h1
  obtain⟨p2,h2'⟩:=hsome j' o2 h2;exact m.inj j j' p1 p2 c h1' h2' hc1 hc2
 ·exact⟨hw.1.trans m.below.os,hw.2.1.trans m.below.tape,hw.2.2.trans m.below.output,by rw[hs];exact m.below.size,λc hc ho=>(hh c (by rintro rfl;rcases hp.1 with h1|h1;exact ho h1;omega)).trans (m.below.block c hc ho)⟩
theorem qQ.forget(m:qQ P b0 N σ a w S pl)(k:Nat):qQ P b0 N (σ.forget k) a w S pl:=by
 have hold:∀j o',yG j (σ.forget k).hp=some o'->j≠k/\∃o₀,yG j σ.hp=some o₀/\o'=o₀.map (D.kill k):=by
  intro j o' h'
  by_cases hj:j=k
  ·subst hj;simp[St.forget,ov]at h'
  ·refine⟨hj,?_⟩
   simp only[St.forget,ov,An (Ne.symm hj),St.map,eN]at h'
   cases ho:yG j σ.hp with
   |none=>rw[ho]at h';cases h'
   |some o₀=>rw[ho]at h';injection h' with h';exact⟨o₀,rfl,h'.symm⟩
 refine⟨m.dz,m.sz,λi=> ?_,λj o' h'=> ?_,m.lt,m.src,λj o' b h' hb=> ?_,λj j' o1 o2 b h1 h2 hb1 hb2=> ?_,m.below,m.stay,m.gok⟩
 ·have e:(σ.forget k).get i=(σ.get i).kill k:=St.get_map _ rfl σ i
  rw[e];exact(m.fr i).kill k
 ·obtain⟨hj,o₀,h0,rfl⟩:=hold j o' h'
  have h1:=m.hp j o₀ h0;cases o₀ with
  |row e t xs=>exact h1
  |mp kt vt es=>exact h1
  |val ds=>
   obtain⟨vs,e1,e3,e4⟩:=h1;refine⟨vs,e1,by simpa using e3,λi d hd=> ?_⟩
   simp only[Aau,Aba]at hd
   obtain⟨d0,hd0,rfl⟩:=hd;exact⟨(e4 i d0 hd0).1.kill k,λhc=>(e4 i d0 hd0).2 (Mu hc)⟩
  |cells ds=>
   obtain⟨b,vs,T,e1,e2,e3,e4,e5⟩:=h1;refine⟨b,vs,T,e1,e2,by simpa using e3,λi d hd=> ?_,Jq (λ_=>Hh) e5⟩
   simp only[Aau,Aba]at hd
   obtain⟨d0,hd0,rfl⟩:=hd;exact(e4 i d0 hd0).kill k
 ·obtain⟨_,o₀,h0,_⟩:=hold j o' h'
  exact m.priv j o₀ b h0 hb
 ·obtain⟨_,p1,h1',_⟩:=hold j o1 h1
  obtain⟨_,p2,h2',_⟩:=hold j' o2 h2;exact m.inj j j' p1 p2 b h1' h2' hb1 hb2
theorem zfk(σ:St)(k:Nat):(∀i,((σ.forget k).get i).ref≠some k)/\yG k (σ.forget k).hp=none/\∀j o d,yG j (σ.forget k).hp=some o->d∈o.parts->d.ref≠some k:=by
 refine⟨λi=> ?_,by simp[St.forget,ov],λj o d h hd=> ?_⟩
 ·have e:(σ.forget k).get i=(σ.get i).kill k:=St.get_map _ rfl σ i
  rw[e];exact UC _ _
 ·by_cases hj:j=k
  ·subst hj;simp[St.forget,ov]at h
  ·simp only[St.forget,ov,An (Ne.symm hj),St.map,eN]at h
   cases ho:yG j σ.hp with
   |none=>rw[ho]at h;cases h
   |some o₀=>
    rw[ho]at h;injection h with h
    subst h;cases o₀ with
    |row e t xs=>cases hd
    |mp kt vt es=>cases hd
    |cells ds0=>
     obtain⟨d0,_,rfl⟩:=Of.1 hd;exact UC _ _
    |val ds0=>
     obtain⟨d0,_,rfl⟩:=Of.1 hd;exact UC _ _
theorem qQ.grow(m:qQ P b0 N σ a w S pl){k:Nat}(hst:stabK k=false){o o':yN}(h:yG k σ.hp=some o)(p:Value)(hg:w.grownBy w' (oY (pl k)))(hat:∀b,oY p=some b->oY (pl k)=some b\/(w.heap.size<=b/\b<w'.heap.size))
  (ho:W2 w' S (MT pl k p) p o'):qQ P b0 N (σ.mk' k o') a w' S (MT pl k p):=by
 have mf:=m.forget k;obtain⟨r1,r2,r3⟩:=zfk σ k;have hkeep:∀c,c<w.heap.size->oY (pl k)≠some c->w'.heap[c]? =w.heap[c]? :=λc hc hne=>hg.block c hc λe=>hne e.symm
 have hS:∀c,S c->w'.heap[c]? =w.heap[c]? :=λc hc=>hkeep c (m.lt c hc) λe=>(m.priv k o c h e).2.2 hc
 have holdk:∀j o1,yG j (σ.forget k).hp=some o1->j≠k/\∃o2,yG j σ.hp=some o2:=by
  intro j o1 h1
  by_cases hj:j=k
  ·subst hj;rw[r2]at h1;cases h1
  ·refine⟨hj,?_⟩
   simp only[St.forget,ov,An (Ne.symm hj),St.map,eN]at h1
   cases ho:yG j σ.hp with
   |none=>rw[ho]at h1;cases h1
   |some o₀=>exact⟨o₀,rfl⟩
 have hbelow:pH b0.w.heap.size b0.O b0.w w':=⟨hg.os.trans m.below.os,hg.tape.trans m.below.tape,hg.output.trans m.below.output,Aai m.below.size hg.size,λc hc hO=>by
  refine(hkeep c (Aax hc m.below.size) λe=> ?_).trans (m.below.block c hc hO)
  rcases(m.priv k o c h e).1 with h1|h1
  ·exact hO h1
  ·omega⟩
 have mw:qQ P b0 N (σ.forget k) a w' S pl:=mf.world hS (λj o1 b h1 hb=>by
  obtain⟨hj,o2,h2⟩:=holdk j o1 h1;exact hkeep b (m.priv j o2 b h2 hb).2.1 λe=>hj (m.inj j k o2 o b h2 h hb e)) hg.size hbelow
 have e1:∀i,(σ.mk' k o').get i=(σ.forget k).get i:=λi=>rfl
 have e2:∀j,yG j (σ.mk' k o').hp=if k=j then some o' else yG j (σ.forget k).hp:=λj=>wR j k o' _
 refine⟨m.dz,m.sz,λi=> ?_,λj o1 h1=> ?_,mw.lt,mw.src,λj o1 b h1 hb=> ?_,λj j' o1 o2 b h1 h2 hb1 hb2=> ?_,hbelow,λj hj=>(show MT pl k p j=pl j from An λe=>by rw[e,hst]at hj;cases hj).trans (m.stay j hj),m.gok⟩
 ·rw[e1]
  exact(mw.fr i).mono (λ_ _=>rfl) (λ_ h=>h) λj hj=>An (λe:j=k=>r1 i (hj.trans (by rw[e])))
 ·rw[e2]at h1
  by_cases hj:k=j
  ·subst hj;rw[As rfl]at h1;injection h1 with h1;subst h1
   rw[show MT pl k p k=p from As rfl];exact ho
  ·rw[An hj]at h1
   rw[show MT pl k p j=pl j from An (Ne.symm hj)]
   exact(mw.hp j o1 h1).mono (λ_ _=>rfl) (λ_ _=>rfl) (λ_ h=>h) λd i hd hr=>An (λei:i=k=>r3 j o1 d h1 hd (hr.trans (by rw[ei])))
 ·rw[e2]at h1
  by_cases hj:k=j
  ·subst hj
   rw[show MT pl k p k=p from As rfl]at hb
   rcases hat b hb with hb|hb
   ·have:=m.priv k o b h hb
    exact⟨this.1,Aax this.2.1 hg.size,this.2.2⟩
   ·exact⟨.inr (Aai m.below.size hb.1),hb.2,λhs=>by have:=m.lt b hs;omega⟩
  ·rw[An hj]at h1
   rw[show MT pl k p j=pl j from An (Ne.symm hj)]at hb
   exact mw.priv j o1 b h1 hb
 ·rw[e2]at h1 h2
  have key:∀j o1,k≠j->yG j (σ.forget k).hp=some o1->oY (pl j)=some b->oY p=some b->False:=by
   intro j o1 hj h1 hb1 hb2;obtain⟨hjk,o2,h2⟩:=holdk j o1 h1;rcases hat b hb2 with hb|hb
   ·exact hjk (m.inj j k o2 o b h2 h hb1 hb)
   ·have:=(m.priv j o2 b h2 hb1).2.1;omega
  by_cases hj:k=j<;>by_cases hj':k=j'
  ·rw[<-hj,<-hj']
  ·rw[An hj']at h2
   rw[show MT pl k p j'=pl j' from An (Ne.symm hj')]at hb2
   subst hj;rw[show MT pl k p k=p from As rfl]at hb1
   exact(key j' o2 hj' h2 hb2 hb1).elim
  ·rw[An hj]at h1
   rw[show MT pl k p j=pl j from An (Ne.symm hj)]at hb1
   subst hj';rw[show MT pl k p k=p from As rfl]at hb2
   exact(key j o1 hj h1 hb1 hb2).elim
  ·rw[An hj]at h1;rw[An hj']at h2
   rw[show MT pl k p j=pl j from An (Ne.symm hj)]at hb1
   rw[show MT pl k p j'=pl j' from An (Ne.symm hj')]at hb2
   exact mw.inj j j' o1 o2 b h1 h2 hb1 hb2
theorem qQ.newS(m:qQ P b0 N σ a w S pl)(o:Obj):qQ P b0 N σ a (w.alloc o) (λb=>S b\/b=w.heap.size) pl:=
 (m.later (w':=w.alloc o) ((Below.refl _ _).alloc (BY _) o)).more (λ_ h=> .inl h)
  (λb h=>by
   have hs:(w.alloc o).heap.size=w.heap.size+1:=by simp
   rcases h with h|rfl
   ·have:=m.lt b h;omega
   ·omega)
  (λb h=>by
   rcases h with h|rfl
   ·exact m.src b h
   ·exact .inr (.inr m.below.size))
  (λk o' b h hb hs=>by
   have:=m.priv k o' b h hb;rcases hs with hs|rfl
   ·exact this.2.2 hs
   ·omega)
end
structure zbv where
 tys:AcW
 nils:List (Nat×(Nat×(AcI×Ty))):=[]
 datas:List (Nat×Nat):=[]
 res:AcO->(Nat->Option yN)->Option (D×List (Nat×yN))
 raw:Bool:=false
structure TE where
 zs:List (AcI×(Bool×AcO))
 sl:List (AcI×(AcI×Ty))
 fld:List (AcI×List (Nat×Nat))
 strs:List AcI
 ints:List (AcI×IntKind)
 bools:List AcI
 sig:List (AcH×AcW)
 mps:List (AcI×(Ty×Ty)):=[]
 sts:List (AcI×Ty):=[]
 hsig:List (AcH×zbv):=[]
 vals:List AcI:=[]
 arr:List AcI:=[]
 nilq:Bool:=true
 thr:List AcH:=[]
structure wG where
 own:AcU
 live:List (Nat×(AcU×AcU))
 n:Nat
 q:Nat:=12
 nils:List (Nat×(Nat×(AcI×Ty))):=[]
 pubs:List (Nat×Nat):=[]
 nn:AcU:=[]
 first:Bool:=false
 clp:Bool:=false
 tdraw:Bool:=false
 nz:List (Nat×(Nat×(AcI×Ty))):=[]
def pX(k:Nat):AcU->Bool
 |[]=>false
 |i::r=>bif Nat.beq i k then true else pX k r
def zJ(b:Bool)(A B:Prop):Prop:=match b with
 |true=>A
 |false=>B
def yF(n:Int):Int:=IntKind.i64.wrap n
def ofV:Value->D
 | .int .i64 n=>bif decide (-9223372036854775808<=n)&&decide (n<=9223372036854775807)then .int .i64 n else .undef
 | .int .u8 n=>bif decide (0<=n)&&decide (n<=255)then .int .u8 n else .undef
 | .bool b=> .bool b
 | .string s=>bif Nat.ble s.size 140737488355328 then .str s else .undef
 | .slice none 0 0=> .nil
 |_=> .undef
def St.ev(σ:St):Operand->D
 | .tmp t=>σ.get t
 | .const v=>ofV v
 | .func f=> .clo f none []
 | .global _=> .undef
def zbw:AcO->Option (List Value)
 |[]=>some []
 | .int k n::r=>match zbw r with
  |some l=>some (.int k n::l)
  |none=>none
 |_=>none
def zac:D->Option Value
 | .agg ds=>match zbw ds with
  |some l=>some (.agg l.toArray)
  |none=>none
 |_=>none
def Kf(E:TE)(T:AcI):D->D
 | .nil=>match yG T E.sl with
  |some (_,t)=> .sl t []
  |none=> .nil
 | .slN t xs _=> .sl t xs
 |d=>d
def cB(A:wG):Option Nat->Option Nat
 |some k=>bif pX k A.own&& !stabK k then some k else none
 |none=>none
theorem aS{A:wG}{d:Option Nat}{k:Nat}(h:cB A d=some k):stabK k=false:=by
 unfold cB at h
 split at h
 ·rename_i j
  cases hb:pX j A.own&& !stabK j with
  |false=>rw[hb]at h;cases h
  |true=>
   rw[hb]at h;injection h with h;subst h
   simp only[If,AaI]at hb
   exact hb.2
 ·cases h
def Wb(σ:St):D->Option AcO
 | .agg cs=>some cs
 | .tup _=>none
 | .undef=>none
 | .ifc _=>none
 | .own k=>match σ.ob k with
  |some (.val ds)=>some ds
  |some _=>some [.own k]
  |none=>none
 | .ownN k=>match σ.ob k with
  |some (.row _ _ _)=>some [.ownN k]
  |_=>none
 |d=>some [d]
def ZE(d:D):Bool:=match d.ref with
 |none=>true
 |some _=>false
def OE(ds:AcO)(off:Nat)(new:AcO):AcO:=ds.take off++new++ds.drop (off+new.length)
def ZF:AcO->Option Nat
 |[]=>none
 |d::r=>match d.ref with
  |some k=>some k
  |none=>ZF r
def TT(σ:St):Nat->Nat->Nat
 |0,k=>k
 |n+1,k=>match σ.ob k with
  |some (.cells ds)=>match ZF ds with
   |some j=>TT σ n j
   |none=>k
  |some (.val ds)=>match ZF ds with
   |some j=>TT σ n j
   |none=>k
  |_=>k
def yN.flatB:yN->Bool
 | .cells ds=>ds.all ZE
 | .row _ _ _=>true
 | .mp _ _ _=>true
 | .val ds=>ds.all ZE
def pubs:Nat->St->AcO->Option (St×AcO)
 |0,_,_=>none
 |n+1,σ,ds=>match ZF ds with
  |none=>some (σ,ds)
  |some k0=>
   let k:=TT σ 4 k0
   match σ.ob k with
   |some o=>bif o.flatB then pubs n (σ.pub k o) (ds.map (pG k o))else none
   |none=>none
def qG(q:Nat)(σ:St)(ds:AcO)(K:AcO->St->Prop):Prop:=match pubs q σ ds with
 |some (σ',ds')=>K ds' σ'
 |none=>False
def YD(σ:St):D->Option AcO
 | .ptr k off=>match σ.ob k with
  |some (.cells ds)=>some (ds.drop off)
  |_=>none
 | .iptr cs off=>some (cs.drop off)
 | .elt t xs i off=>some ((cells t (xs.getD i t.dflt)).drop off)
 | .oelt k sz i off=>match σ.ob k with
  |some (.row _ t xs)=>bif Nat.beq sz t.size then some ((cells t (xs.getD i t.dflt)).drop off)else none
  |_=>none
 |_=>none
def xM(n:Int)(len:Nat):Bool:=decide (0<=n)&&decide (n<(len:Int))
def Js(l h:Int)(len:Nat):Bool:=decide (0<=l)&&decide (l<=h)&&decide (h<=(len:Int))
def xQ(t:Ty)(n:Nat):Bool:=decide (n*t.bytes<=140737488355328)
def rO(s:AcG)(i:Nat):Int:=((s.data.getD i 0).toNat:Int)
def zmV(A:wG):Option Nat->Bool
 |some k=>pX k A.nn
 |none=>false
def E8(σ:St):D->Bool
 | .ptr k off=>match σ.ob k with
  |some (.cells ds)=>(match ds[off]? with
   |some (.slN _ _ _)=>true
   |_=>false)
  |_=>false
 |_=>false
def zia(b:Bool)(new:AcO)(K:AcO->Prop):Prop:=match b with
 |true=>(match new with
  |[.sl t xs]=>xs≠[]/\K [.slN t xs false]
  |new=>K new)
 |false=>K new
def zda(E:TE)(A:wG)(o:Oper)(d:D)(σ:St)(K:D->St->Prop):Prop:=match d with
 | .nil=>match yG o.type E.sl with
  |some (e,t)=>match cB A o.dst with
   |some k=>K (.own k) (σ.mk' k (.row e t []))
   |none=>K (bif zmV A o.dst then .slN t [] true else .sl t []) σ
  |none=>K .nil σ
 |d=>K d σ
def Dr(E:TE)(A:wG)(o:Oper)(T:AcI)(σ:St)(K:D->St->Prop):Prop:=match yG T E.zs with
 |some (_,cs)=>match cB A o.dst with
  |some k=>K (.ptr k 0) (σ.mk' k (.cells cs))
  |none=>K (.iptr cs 0) σ
 |none=>False
def zjG(k:Nat)(d:D):Bool:=match d.ref with
 |some j=>Nat.beq j k
 |none=>false
def zbx(k:Nat)(T:AcI)(cs:AcO):Bool:=cs.any (zjG k)||(Vz cs&& !memT zc7 T cs.length)
def zjH(E:TE)(A:wG)(o:Oper)(T:AcI)(x:D)(σ:St)(K:D->St->Prop):Prop:=
 match Wb σ (Kf E T x)with
 |some cs=>match cB A o.dst with
  |some k=>bif zbx k T cs then False else K (.ptr k 0) (σ.mk' k (.cells cs))
  |none=>qG A.q σ cs λcs σ=>K (.iptr cs 0) σ
 |none=>False
def zg8(E:TE)(A:wG)(T:AcI)(x:D)(σ:St)(K:D->St->Prop):Prop:=match yG T E.zs with
 |some (ag,zs)=>match YD σ x with
  |some cs=>bif Nat.ble zs.length cs.length then
    match ag with
    |true=>qG A.q σ (cs.take zs.length) λcs σ=>K (.agg cs) σ
    |false=>match cs with
     |d::_=>K d σ
     |[]=>False
   else False
  |none=>False
 |none=>False
def zby(E:TE)(A:wG)(T:AcI)(x y:D)(σ:St)(K:D->St->Prop):Prop:=match yG T E.zs with
 |some (_,zs)=>match Wb σ (Kf E T y)with
  |none=>False
  |some new=>zia (E8 σ x) new λnew=>bif Nat.beq new.length zs.length&&new.all fC then
   match x with
   | .ptr k off=>match σ.ob k with
    |some (.cells ds)=>bif Nat.ble (off+new.length) ds.length then K .undef (σ.setOb k (.cells (OE ds off new)))else False
    |_=>False
   | .oelt k sz i off=>qG A.q σ new λnew σ=>match σ.ob k with
    |some (.row e t xs)=>bif Nat.beq sz t.size then
      match ofD t (OE (cells t (xs.getD i t.dflt)) off new)with
      |some z=>bif Nat.ble (off+new.length) t.size then K .undef (σ.setOb k (.row e t (xs.set i z)))else False
      |none=>False
     else False
    |_=>False
   |_=>False
  else False
 |none=>False
def zjI(E:TE)(op:BinOp)(T:AcI)(x y:D)(K:D->Prop):Prop:=match x,y with
 | .int .i64 a,.int .i64 b=>match op with
  | .add=>K (.int .i64 (yF (a+b)))
  | .sub=>K (.int .i64 (yF (a-b)))
  | .mul=>K (.int .i64 (yF (a*b)))
  | .quo=>b≠0/\K (.int .i64 (yF (a.tdiv b)))
  | .rem=>b≠0/\K (.int .i64 (a.tmod b))
  | .eql=>K (.bool (decide (a=b)))
  | .neq=>K (.bool (!decide (a=b)))
  | .lss=>K (.bool (decide (a<b)))
  | .leq=>K (.bool (decide (a<=b)))
  | .gtr=>K (.bool (decide (b<a)))
  | .geq=>K (.bool (decide (b<=a)))
  |_=>False
 | .int .u8 a,.int .u8 b=>match op with
  | .eql=>K (.bool (decide (a=b)))
  | .neq=>K (.bool (!decide (a=b)))
  | .lss=>K (.bool (decide (a<b)))
  | .leq=>K (.bool (decide (a<=b)))
  | .gtr=>K (.bool (decide (b<a)))
  | .geq=>K (.bool (decide (b<=a)))
  |_=>False
 | .str a,.str b=>match op with
  | .eql=>K (.bool (decide (a=b)))
  | .neq=>K (.bool (!decide (a=b)))
  | .add=>a.size+b.size<=140737488355328/\K (.str (a++b))
  |_=>False
 | .bool a,.bool b=>bif pX T E.bools then(match op with
   | .eql=>K (.bool (a==b))
   | .neq=>K (.bool (!(a==b)))
   |_=>False)
  else False
 |_,_=>False
def teq:(t:Ty)->t.den->t.den->Bool
 | .lit,a,b=>decide (a=b)
 | .var,a,b=>decide (a=b)
 | .tok,a,b=>decide (a=b)
 |_,_,_=>false
def eqK(op:BinOp)(b:Bool)(K:D->Prop):Prop:=match op with
 | .eql=>K (.bool b)
 | .neq=>K (.bool (!b))
 |_=>False
def znO(op:BinOp)(e:Prop)(K:D->Prop):Prop:=∀b:Bool,(b=true->e)->eqK op b K
def TU(E:TE)(T:AcI):Bool:=match yG T E.sl with
 |some _=>true
 |none=>false
def zdb(E:TE)(op:BinOp)(T:AcI)(x y:D)(σ:St)(K:D->Prop):Prop:=match x,y with
 | .agg xs,.agg ys=>match yG T E.sts with
  |some t=>match ofD t xs,ofD t ys with
   |some a,some b=>eqK op (teq t a b) K
   |_,_=>False
  |none=>False
 | .slN _ _ nl,.nil=>bif E.nilq&&TU E T then eqK op nl K else False
 | .sl _ xs,.nil=>bif E.nilq&&TU E T then znO op (xs=[]) K else False
 | .nil,.nil=>bif E.nilq&&TU E T then eqK op true K else False
 | .own k,.nil=>match σ.ob k with
  |some (.row _ _ xs)=>bif E.nilq&&TU E T then znO op (xs=[]) K else False
  |_=>False
 |x,y=>zjI E op T x y K
def Kg:(t:Ty)->t.den->t.den->Bool
 | .int,a,b=>decide (a=b)
 | .str,a,b=>decide (a=b)
 | .pr .int .int,a,b=>decide (a.1=b.1)&&decide (a.2=b.2)
 |_,_,_=>false
def qH(kt vt:Ty)(x:kt.den)(y:vt.den):List (kt.den×vt.den)->List (kt.den×vt.den)
 |[]=>[(x,y)]
 |(a,b)::r=>bif Kg kt x a then(a,y)::r else(a,b)::qH kt vt x y r
def uZ(kt vt:Ty)(x:kt.den):List (kt.den×vt.den)->Option vt.den
 |[]=>none
 |(a,b)::r=>bif Kg kt x a then some b else uZ kt vt x r
def gH(kt vt:Ty)(x:kt.den)(es:List (kt.den×vt.den)):vt.den:=(uZ kt vt x es).getD vt.dflt
def MU(kt vt:Ty)(x:kt.den)(es:List (kt.den×vt.den)):Bool:=(uZ kt vt x es).isSome
def Jt(n:Nat):Bool:=decide (n<=140737488355328)
def OG(E:TE)(A:wG)(o:Oper)(T:AcI)(σ:St)(K:D->St->Prop):Prop:=match yG T E.mps with
 |some (k,v)=>match cB A o.dst with
  |some j=>K (.own j) (σ.mk' j (.mp k v []))
  |none=>K (.mp k v []) σ
 |none=>False
def zlO:(t:Ty)->D->Option t.den
 | .int,.int .i64 n=>some n
 | .str,.str s=>some s
 | .pr .int .int,.agg [.int .i64 a,.int .i64 b]=>some (a,b)
 |_,_=>none
def R3(E:TE)(A:wG)(T:AcI)(m x y:D)(σ:St)(K:D->St->Prop):Prop:=match yG T E.mps,m with
 |some (kt0,vt0),.own j=>qG A.q σ [y] λds σ=>match σ.ob j with
   |some (.mp kt vt es)=>bif decide (kt=kt0)&&decide (vt=vt0)then
     match zlO kt x,ofD vt ds with
     |some a,some b=>Jt (es.length+1)=true/\K .undef (σ.setOb j (.mp kt vt (qH kt vt a b es)))
     |_,_=>False
    else False
   |_=>False
 |_,_=>False
def zad(σ:St):D->Option (Σ (p:Ty×Ty),List (p.1.den×p.2.den))
 | .mp kt vt es=>some ⟨(kt,vt),es⟩
 | .own j=>match σ.ob j with
  |some (.mp kt vt es)=>some ⟨(kt,vt),es⟩
  |_=>none
 |_=>none
def E9(E:TE)(T:AcI)(m x:D)(ok:Bool)(σ:St)(K:D->Prop):Prop:=match yG T E.mps,zad σ m with
 |some (kt0,vt0),some ⟨(kt,vt),es⟩=>bif decide (kt=kt0)&&decide (vt=vt0)then
   match zlO kt x with
   |some a=>match ok with
    |true=>K (.tup [TS vt (gH kt vt a es),.bool (MU kt vt a es)])
    |false=>K (TS vt (gH kt vt a es))
   |none=>False
  else False
 |_,_=>False
def unD(op:UnOp)(x:D)(K:D->Prop):Prop:=match op,x with
 | .not,.bool b=>K (.bool (!b))
 | .neg,.int .i64 n=>K (.int .i64 (yF (0-n)))
 |_,_=>False
def zha(E:TE)(src dst:AcI)(x:D)(K:D->Prop):Prop:=match yG src E.ints with
 |some _=>(match yG dst E.ints,x with
  |some .i64,.int _ n=>K (.int .i64 (yF n))
  |some .u8,.int _ n=>K (.int .u8 (IntKind.u8.wrap n))
  |_,_=>False)
 |none=>(match yG src E.sl,x with
  |some (e,.byte),.sl .byte xs=>(match yG e E.ints,pX dst E.strs with
   |some .u8,true=>K (.str ⟨xs.toArray⟩)
   |_,_=>False)
  |_,_=>False)
def Wc(σ:St)(dflt:Int):Option Operand->Option Int
 |none=>some dflt
 |some x=>match σ.ev x with
  | .int .i64 n=>some n
  |_=>none
def zbz(E:TE)(A:wG)(T:AcI)(x:D)(σ:St)(lo hi:Option Operand)(K:D->St->Prop):Prop:=
 match x with
 | .str s=>bif pX T E.strs then(match Wc σ 0 lo,Wc σ s.size hi with
  |some l,some h=>Js l h s.size=true/\K (.str (s.extract l.toNat h.toNat)) σ
  |_,_=>False)else False
 |x=>qG A.q σ [x] λds σ=>match ds with
  |[.sl t xs]=>match yG T E.sl,Wc σ 0 lo,Wc σ xs.length hi with
   |some (_,t'),some l,some h=>bif Nat.beq t'.size t.size then(Js l h xs.length=true/\K (.sl t ((xs.take h.toNat).drop l.toNat)) σ)else False
   |_,_,_=>False
  |_=>False
def zbA(E:TE)(T:AcI)(f:Nat):Option Nat:=match yG T E.fld with
 |some offs=>match offs[f]? with
  |some (off,_)=>some off
  |none=>none
 |none=>none
def Ds(E:TE)(T:AcI)(x:D)(f:Nat)(K:D->Prop):Prop:=match zbA E T f with
 |some d=>match x with
  | .ptr k off=>K (.ptr k (off+d))
  | .iptr cs off=>K (.iptr cs (off+d))
  | .elt t xs i off=>K (.elt t xs i (off+d))
  | .oelt k sz i off=>K (.oelt k sz i (off+d))
  |_=>False
 |none=>False
def R4(E:TE)(T:AcI)(x ix:D)(σ:St)(K:D->Prop):Prop:=match yG T E.sl with
 |some (_,t')=>match ix with
  | .int _ n=>match x with
   | .sl t xs=>bif Nat.beq t'.size t.size then(xM n xs.length=true/\K (.elt t xs n.toNat 0))else False
   | .own k=>match σ.ob k with
    |some (.row _ t xs)=>bif Nat.beq t'.size t.size then(xM n xs.length=true/\K (.oelt k t.size n.toNat 0))else False
    |_=>False
   |_=>False
  |_=>False
 |none=>False
def zbB(E:TE)(T:AcI)(x ix:D)(K:D->Prop):Prop:=match x,ix with
 | .str s,.int _ n=>bif pX T E.strs then(xM n s.size=true/\K (.int .u8 (rO s n.toNat)))else False
 |_,_=>False
def Ju(x:D)(i:Nat)(K:D->Prop):Prop:=match x with
 | .tup ds=>match ds[i]? with
  |some d=>K d
  |none=>False
 |_=>False
def Mw(σ:St)(d:D)(z:Option D):Option AcO:=match d,z with
 | .nil,some (.sl t _)=>some [.sl t []]
 | .slN t xs _,_=>some [.sl t xs]
 |d,_=>Wb σ d
def LK(σ:St)(place:Nat->Option (Nat×Nat)):AcO->List (Nat×Operand)->Option AcO
 |ds,[]=>some ds
 |ds,(f,x)::r=>match place f with
  |some (off,sz)=>
   match Mw σ (σ.ev x) ds[off]? with
   |some new=>bif Nat.beq new.length sz&&Nat.ble (off+sz) ds.length then LK σ place (OE ds off new) r else none
   |none=>none
  |none=>none
def zib:Option Nat->Nat
 |some k=>k
 |none=>0
def zbC:Option Nat->Bool
 |some k=> !stabK k
 |none=>false
def zbD(E:TE)(T:AcI):Option (Nat->Option (Nat×Nat)):=bif pX T E.arr then some (λi=>some (i,1))else match yG T E.fld with
 |some offs=>some λi=>offs[i]?
 |none=>none
def Dt(E:TE)(A:wG)(o:Oper)(T:AcI)(parts:List (Nat×Operand))(σ:St)(K:D->St->Prop):Prop:=match yG T E.zs,zbD E T with
 |some (true,zs),some pf=>match LK σ pf zs parts with
  |some ds=>bif pX T E.vals&&zbC o.dst then K (.own (zib o.dst)) (σ.mk' (zib o.dst) (.val (ds.map (D.kill (zib o.dst)))))else qG A.q σ ds λds σ=>K (.agg ds) σ
  |none=>False
 |_,_=>False
def elems(t:Ty):Nat->AcO->Option (List t.den)
 |0,_=>some []
 |n+1,ds=>match ofD t (ds.take t.size),elems t n (ds.drop t.size)with
  |some x,some xs=>some (x::xs)
  |_,_=>none
def W3(E:TE)(A:wG)(o:Oper)(T:AcI)(len:Nat)(parts:List (Nat×Operand))(σ:St)(K:D->St->Prop):Prop:=match yG T E.sl with
 |some (e,t)=>
  bif xQ t len&&Nat.ble (len*t.size) 16777216 then match LK σ (λi=>some (i*t.size,t.size)) (List.replicate len (cells t t.dflt)).flatten parts with
  |some ds=>qG A.q σ ds λds σ=>match elems t len ds with
    |some xs=>match cB A o.dst with
     |some k=>K (bif pX k A.nn then .ownN k else .own k) (σ.mk' k (.row e t xs))
     |none=>K (.sl t xs) σ
    |none=>False
  |none=>False
  else False
 |none=>False
def zlP(E:TE)(T:AcI)(x:D)(σ:St)(K:D->Prop):Prop:=match x with
 | .str s=>bif pX T E.strs then K (.int .i64 (s.size:Int))else False
 | .nil=>match yG T E.sl with
  |some _=>K (.int .i64 0)
  |none=>False
 | .mp _ _ es=>match yG T E.mps with
  |some _=>K (.int .i64 (es.length:Int))
  |none=>False
 | .sl t xs=>match yG T E.sl with
  |some _=>K (.int .i64 (xs.length:Int))
  |none=>False
 | .own k=>match σ.ob k with
  |some (.row _ t xs)=>(match yG T E.sl with
   |some _=>K (.int .i64 (xs.length:Int))
   |none=>False)
  |some (.mp _ _ es)=>(match yG T E.mps with
   |some _=>K (.int .i64 (es.length:Int))
   |none=>False)
  |_=>False
 |_=>False
def G8(σ:St)(k:Nat)(t:Ty):D->Option (List t.den)
 | .nil=>some []
 | .sl t' ys=>if h:t'=t then some (h▸ys)else none
 | .own j=>bif Nat.beq j k then none else match σ.ob j with
  |some (.row _ t' ys)=>if h:t'=t then some (h▸ys)else none
  |_=>none
 |_=>none
def zne(E:TE)(T' e:AcI)(t':Ty)(x y:D)(σ:St)(K:D->St->Prop):Prop:=match pX T' E.strs with
 |true=>(match t',x,y with
  | .byte,.own k,.str s=>(match σ.ob k with
   |some (.row e' .byte xs)=>bif Nat.beq e e'&& !stabK k then xQ .byte (xs.length+s.size)=true/\K (.own k) (σ.mk' k (.row e .byte (xs++s.data.toList)))else False
   |_=>False)
  |_,_,_=>False)
 |false=>False
def Da(E:TE)(A:wG)(o:Oper)(T T':AcI)(x:D)(y:Operand)(σ:St)(K:D->St->Prop):Prop:=match yG T E.sl with
 |some (e,t')=>bif Nat.beq T T' then(match x with
  | .own k=>match σ.ob k with
   |some (.row e' t xs)=>bif Nat.beq e e'&&Nat.beq t'.size t.size&&Nat.beq t'.bytes t.bytes&& !stabK k then(match G8 σ k t (σ.ev y)with
    |some ys=>xQ t (xs.length+ys.length)=true/\K (.own k) (σ.mk' k (.row e t (xs++ys)))
    |none=>False)else False
   |_=>False
  | .ownN k=>match σ.ob k with
   |some (.row e' t xs)=>bif Nat.beq e e'&&Nat.beq t'.size t.size&&Nat.beq t'.bytes t.bytes&& !stabK k then(match G8 σ k t (σ.ev y)with
    |some ys=>bif Nat.blt 0 ys.length then xQ t (xs.length+ys.length)=true/\K (.ownN k) (σ.mk' k (.row e t (xs++ys)))else False
    |none=>False)else False
   |_=>False
  | .nil=>match cB A o.dst with
   |some k=>match G8 (σ.mk' k (.row e t' [])) k t' ((σ.mk' k (.row e t' [])).ev y)with
    |some ys=>xQ t' ys.length=true/\K (.own k) ((σ.mk' k (.row e t' [])).mk' k (.row e t' ys))
    |none=>False
   |none=>False
  |_=>False)else zne E T' e t' x (σ.ev y) σ K
 |none=>False
def zlQ(x y:D)(K:D->Prop):Prop:=match x,y with
 | .int .i64 a,.int .i64 b=>K (.int .i64 (if b>a then b else a))
 |_,_=>False
def UD(E:TE)(A:wG)(o:Oper)(T:AcI)(l c:D)(σ:St)(K:D->St->Prop):Prop:=match yG T E.sl with
 |some (e,t)=>match l,c with
  | .int .i64 n,.int .i64 m=>n=m/\0<=n/\xQ t n.toNat=true/\(match cB A o.dst with
   |some k=>K (.own k) (σ.mk' k (.row e t (List.replicate n.toNat t.dflt)))
   |none=>K (.sl t (List.replicate n.toNat t.dflt)) σ)
  |_,_=>False
 |none=>False
def VA(P:AcJ)(f:AcH)(args:AcO)(r:D):Prop:=
 ∀(w:World) (S:Nat->Prop) (vs:Array Value),(∀b,S b->b<w.heap.size)->vs.size=args.length->(∀i d,args[i]? =some d->Rp w S (vs.getD i undef) d)->GOk P w (λ_=>False)->
  Calls P f vs w λe w'=>∃v,e=.returned v/\Rp w' (λb=>S b\/(w.heap.size<=b/\b<w'.heap.size)) v r/\Below w.heap.size w w'
def zjJ(P:AcJ)(f:AcH)(args:AcO)(t:Ty)(K:t.den->Prop):Prop:=∃x,VA P f args (TS t x)/\K x
def zjK(P:AcJ)(f:AcH)(args:AcO)(t u:Ty)(K:t.den->u.den->Prop):Prop:=∃x y,VA P f args (.tup [TS t x,TS u y])/\K x y
def zjL(P:AcJ)(f:AcH)(args:AcO)(t u v:Ty)(K:t.den->u.den->v.den->Prop):Prop:=∃x y z,VA P f args (.tup [TS t x,TS u y,TS v z])/\K x y z
def zfl(P:AcJ)(f:AcH)(args:AcO):AcW->(D->Prop)->Prop
 |[],K=>VA P f args (.tup [])/\K (.tup [])
 |[t],K=>zjJ P f args t λx=>K (TS t x)
 |[t,u],K=>zjK P f args t u λx y=>K (.tup [TS t x,TS u y])
 |[t,u,v],K=>zjL P f args t u v λx y z=>K (.tup [TS t x,TS u y,TS v z])
 |_,_=>False
def Ty.scalar:Ty->Bool
 | .int| .bool| .str=>true
 |_=>false
def OH(σ:St):D->D
 | .own k=>match σ.ob k with
  |some (.row _ t xs)=> .sl t xs
  |_=> .own k
 |d=>d
def cC(E:TE)(σ:St):List Operand->List AcI->AcO
 |x::xs,T::ts=>Kf E T (σ.ev x)::cC E σ xs ts
 |x::xs,[]=>σ.ev x::cC E σ xs []
 |[],_=>[]
def zfm(raw:Bool)(E:TE)(σ:St)(xs:List Operand)(ts:List AcI):AcO:=bif raw then xs.map σ.ev else cC E σ xs ts
def Ent(P:AcJ)(f:AcH):Prop:=∀args w,(callFunc f args).run P w=.ok (.enter f args) w
def znP(E:TE)(f:AcH):Option AcW->Option AcW
 |some rs=>some rs
 |none=>yG f E.sig
def znf(P:AcJ)(f:AcH):Option AcW->Prop->Prop
 |some _,X=>Ent P f/\X
 |none,X=>X
def D.ren(ρ:List (Nat×Nat)):D->D
 | .own k=>match yG k ρ with
  |some j=> .own j
  |none=> .undef
 | .ownN k=>match yG k ρ with
  |some j=> .ownN j
  |none=> .undef
 | .ptr k off=>match yG k ρ with
  |some j=> .ptr j off
  |none=> .undef
 | .oelt k sz i off=>match yG k ρ with
  |some j=> .oelt j sz i off
  |none=> .undef
 | .clp f bd k off=>match yG k ρ with
  |some j=> .clp f bd j off
  |none=> .undef
 | .slf k=>match yG k ρ with
  |some j=> .slf j
  |none=> .undef
 |d=>d
def yN.ren(ρ:List (Nat×Nat)):yN->yN
 | .cells ds=> .cells (ds.map (D.ren ρ))
 | .val ds=> .val (ds.map (D.ren ρ))
 |o=>o
def Hf(ρ:List (Nat×Nat)):List (Nat×Nat):=ρ.map λx=>(x.2,x.1)
def gW:AcU->Bool
 |[]=>true
 |k::r=> !pX k r&&gW r
def reach(ob:Nat->Option yN):Nat->AcU->AcO->AcU
 |0,acc,_=>acc
 |_+1,acc,[]=>acc
 |n+1,acc,d::r=>match d.ref with
  |none=>reach ob n acc r
  |some k=>bif pX k acc then reach ob n acc r else match ob k with
   |some (.cells ds)=>reach ob n (acc++[k]) (ds++r)
   |some (.val ds)=>reach ob n (acc++[k]) (ds++r)
   |some _=>reach ob n (acc++[k]) r
   |none=>reach ob n acc r
def OI:AcO->AcU
 |[]=>[]
 | .own k::r=>k::OI r
 |_::r=>OI r
def zbE(ob:Nat->Option yN)(dr:AcU):AcU->Nat->Nat->List (Nat×Nat)
 |[],_,_=>[]
 |k::r,a,b=>match ob k with
  |some (.row _ _ _)=>bif pX k dr then(k,1000+a)::zbE ob dr r (a+1) b else(k,2000+b)::zbE ob dr r a (b+1)
  |_=>(k,1000+a)::zbE ob dr r (a+1) b
def cD(ob:Nat->Option yN)(ρ:List (Nat×Nat)):List (Nat×Nat)->List (Nat×yN)
 |[]=>[]
 |(k,c)::r=>match ob k with
  |some o=>(c,o.ren ρ)::cD ob ρ r
  |none=>cD ob ρ r
structure HOk (w:World)(S:Nat->Prop)(pl:Nat->Value)(h:List (Nat×yN)):Prop where
 ok:∀k o,yG k h=some o->W2 w S pl (pl k) o
 priv:∀k o b,yG k h=some o->oY (pl k)=some b->b<w.heap.size/\¬S b
 inj:∀k k' o o' b,yG k h=some o->yG k' h=some o'->oY (pl k)=some b->oY (pl k')=some b->k=k'
def kG(pl:Nat->Value)(h:List (Nat×yN))(b:Nat):Prop:=∃k o,yG k h=some o/\oY (pl k)=some b
def zic(P:AcJ)(f:AcH)(args:AcO)(h:List (Nat×yN))(r:D)(h':List (Nat×yN)):Prop:=
 ∀(w:World) (S:Nat->Prop) (vs:Array Value) (pl:Nat->Value),(∀b,S b->b<w.heap.size)->vs.size=args.length->(∀i d,args[i]? =some d->Rd w S pl (vs.getD i undef) d)->HOk w S pl h->GOk P w (kG pl h)->
  Calls P f vs w λe w'=>∃v S' pl',e=.returned v/\Rd w' S' pl' v r/\HOk w' S' pl' h'/\(∀b,S' b->b<w'.heap.size)/\(∀b,S' b->S b\/kG pl h b\/w.heap.size<=b)/\
   (∀b,kG pl' h' b->kG pl h b\/w.heap.size<=b)/\(∀k,stabK k=true->pl' k=pl k)/\pH w.heap.size (kG pl h) w w'
def zlR(P:AcJ)(f:AcH)(args:AcO)(h:List (Nat×yN))(u:Value):Prop:=
 ∀(w:World) (S:Nat->Prop) (vs:Array Value) (pl:Nat->Value),(∀b,S b->b<w.heap.size)->vs.size=args.length->(∀i d,args[i]? =some d->Rd w S pl (vs.getD i undef) d)->HOk w S pl h->GOk P w (kG pl h)->
  Calls P f vs w λe w'=>e=.panicked [{v:=u,recovered:=false}]/\pH w.heap.size (kG pl h) w w'
def exH:AcW->(AcO->Prop)->Prop
 |[],K=>K []
 |t::ts,K=>∃x:t.den,exH ts λds=>K (TS t x::ds)
def Zw(k off:Nat):Nat:=1000000+1000*k+off
def OJ(σ:St)(k off:Nat)(e:AcI)(t:Ty):St:=match σ.ob k with
 |some (.cells ds)=>match ds[off]? with
  |some .nil=>bif Nat.beq k (Zw k off)then σ else(σ.mk' (Zw k off) (.row e t [])).setOb k (.cells ((ds.map (D.kill (Zw k off))).set off (.own (Zw k off))))
  |some (.ifc (.pointer none))=>σ.setOb k (.cells (ds.set off (.slf k)))
  |_=>σ
 |_=>σ
def fD(ds:AcO):List (Nat×(Nat×(AcI×Ty)))->St->St
 |[],σ=>σ
 |(i,off,e,t)::r,σ=>match ds[i]? with
  |some (.ptr k 0)=>fD ds r (OJ σ k off e t)
  |_=>fD ds r σ
def zbG(k:Nat):List (Nat×(Nat×(AcI×Ty)))->List (Nat×(Nat×(AcI×Ty)))
 |[]=>[]
 |(j,x)::r=>bif Nat.beq j k then(0,x)::zbG k r else zbG k r
def Wy:List (Nat×(Nat×(AcI×Ty)))->AcO->AcO
 |[],cs=>cs
 |(_,off,_,_)::r,cs=>Wy r (match cs[off]? with
  |some (.sl _ [])=>cs.set off .nil
  |_=>cs)
def zfn(E:TE)(A:wG)(o:Oper)(T:AcI)(σ:St)(K:D->St->Prop):Prop:=match yG T E.zs with
 |some (_,cs)=>match cB A o.dst with
  |some k=>bif Nat.blt k 1000000 then K (.ptr k 0) (fD [.ptr k 0] (zbG k A.nz) (σ.mk' k (.cells (Wy (zbG k A.nz) cs))))else False
  |none=>K (.iptr cs 0) σ
 |none=>False
def Du(E:TE)(A:wG)(o:Oper)(T:AcI)(σ:St)(K:D->St->Prop):Prop:=match A.nz with
 |[]=>Dr E A o T σ K
 |_=>zfn E A o T σ K
def W4(σ:St)(k off:Nat):St:=match σ.ob k with
 |some (.cells ds)=>match ds[off]? with
  |some (.own j)=>match σ.ob j with
   |some o=>bif o.flatB then σ.pub j o else σ
   |none=>σ
  |_=>σ
 |_=>σ
def tP(ds:AcO):List (Nat×Nat)->St->St
 |[],σ=>σ
 |(i,off)::r,σ=>match ds[i]? with
  |some (.ptr k 0)=>tP ds r (W4 σ k off)
  |_=>tP ds r σ
def fE(ρi:List (Nat×Nat))(dst c:Nat):Nat:=match yG c ρi with
 |some k=>k
 |none=>30000+64*dst+(c-3000)
def fF(ks:AcU)(d:D):D:=match d.ref with
 |some j=>bif pX j ks then .undef else d
 |none=>d
def TV{α:Type}(ks:AcU):List (Nat×α)->List (Nat×α)
 |[]=>[]
 |(i,a)::r=>bif pX i ks then TV ks r else(i,a)::TV ks r
def St.after(σ:St)(ρ:List (Nat×Nat))(dst:Nat)(h':List (Nat×yN)):St:=
 let β:List (Nat×Nat):=h'.map λx=>(x.1,fE (Hf ρ) dst x.1)
 let dead:=((ρ.filter λx=> !stabK x.2|| !(pX x.2 (h'.map (·.1)))).map (·.1))++(β.filter λx=> !(pX x.1 (ρ.map (·.2)))).map (·.2)
 ⟨σ.fr.map λx=>(x.1,fF dead x.2),(h'.map λx=>(fE (Hf ρ) dst x.1,x.2.ren β))++TV ((ρ.map (·.1))++β.map (·.2)) (σ.hp.map λx=>(x.1,x.2.map (fF dead)))⟩
def zdc(σ:St)(ρ:List (Nat×Nat))(dst:Nat)(h':List (Nat×yN)):Bool:=
 gW (ρ.map (·.1))&&gW (ρ.map (·.2))&&gW (h'.map (·.1))&&gW (h'.map λx=>fE (Hf ρ) dst x.1)&&
  ρ.all (λx=>(!stabK x.1||stabK x.2)&&Nat.blt x.2 3000)&&
  h'.all (λx=>pX x.1 (ρ.map (·.2))||Nat.ble 3000 x.1)
def Kh(d:D):Bool:=match d.ref with
 |some k=>Nat.blt k 1000000
 |none=>true
def cU(σ:St):AcO->AcO
 |[]=>[]
 | .ptr k 0::r=>(match σ.ob k with
  |some (.cells cs)=>cs.filter λd=>match d with
   | .ptr _ 0=>true
   |_=>false
  |_=>[])++cU σ r
 |_::r=>cU σ r
def G9(P:AcJ)(A:wG)(f:AcH)(hs:zbv)(dst:Nat)(ds0 caps:AcO)(σ:St)(K:D->St->Prop):Prop:=
 bif caps.all ZE&&ds0.all Kh then
  let σ:=fD (ds0++cU (tP ds0 hs.datas σ) ds0) hs.nils (tP ds0 hs.datas σ)
  let ρ:=zbE σ.ob (OI ds0) (reach σ.ob 400 [] ds0) 0 0
  exH hs.tys λxs=>match hs.res xs (λc=>yG c (cD σ.ob ρ ρ))with
   |some (r,h')=>bif zdc σ ρ dst h' then zic P f (ds0.map (D.ren ρ)++caps) (cD σ.ob ρ ρ) r h'/\K (r.ren (h'.map λx=>(x.1,fE (Hf ρ) dst x.1))) (σ.after ρ dst h')else False
   |none=>False
 else False
def zjM(P:AcJ)(f:AcH)(hs:zbv)(ds0 caps:AcO)(σ:St)(T:Value->Prop):Prop:=
 bif caps.all ZE&&ds0.all Kh then
  let σ:=fD (ds0++cU (tP ds0 hs.datas σ) ds0) hs.nils (tP ds0 hs.datas σ)
  let ρ:=zbE σ.ob (OI ds0) (reach σ.ob 400 [] ds0) 0 0
  bif gW (ρ.map (·.1))&&gW (ρ.map (·.2))then∃u,zlR P f (ds0.map (D.ren ρ)++caps) (cD σ.ob ρ ρ) u/\T u else False
 else False
def zid:Option Nat->Nat
 |some d=>d
 |none=>0
def zfo(E:TE)(f:AcH):Option AcW->Option zbv
 |some _=>none
 |none=>yG f E.hsig
def zlS(P:AcJ)(E:TE)(A:wG)(g:AcH)(hs:zbv)(dst:Nat)(ds caps:AcO)(σ:St)(K:D->St->Prop)(T:Value->Prop):Prop:=match pX g E.thr with
 |true=>G9 P A g hs dst ds caps σ K\/zjM P g hs ds caps σ T
 |false=>G9 P A g hs dst ds caps σ K
def zdd(P:AcJ)(E:TE)(A:wG)(o:Oper)(fv:D)(args:List Operand)(tys:List AcI)(σ:St)(K:D->St->Prop):Prop:=match fv with
 | .clo f rs0 caps=>match zfo E f rs0 with
  |some hs=>G9 P A f hs (zid o.dst) (zfm hs.raw E σ args tys) caps σ K
  |none=>match znP E f rs0 with
   |some rs=>znf P f rs0<|
    let ds:=cC E σ args tys
    bif rs.all Ty.scalar then
     let ds:=ds.map (OH σ)
     bif ds.all ZE then zfl P f (ds++caps) rs λr=>K r σ else False
    else qG A.q σ ds λds σ=>zfl P f (ds++caps) rs λr=>K r σ
   |none=>False
 |_=>False
def opD(P:AcJ)(E:TE)(A:wG)(o:Oper)(σ:St)(K:D->St->Prop):Prop:=match o.op with
 | .move x=>zda E A o (σ.ev x) σ K
 | .assign x=>zda E A o (σ.ev x) σ K
 | .pick c a b=>match σ.ev c with
  | .bool t=>zJ t (K (σ.ev a) σ) (K (σ.ev b) σ)
  |_=>False
 | .alloc T=>Du E A o T σ K
 | .box T x=>zjH E A o T (σ.ev x) σ K
 | .build T parts=>Dt E A o T parts.toList σ K
 | .buildSlice T len parts=>W3 E A o T len parts.toList σ K
 | .load T x=>zg8 E A T (σ.ev x) σ K
 | .store T x y=>zby E A T (σ.ev x) (σ.ev y) σ K
 | .nilCheck x=>match σ.ev x with
  | .ptr k off=>K (.ptr k off) σ
  | .iptr cs off=>K (.iptr cs off) σ
  | .elt t xs i off=>K (.elt t xs i off) σ
  | .oelt k sz i off=>K (.oelt k sz i off) σ
  |_=>False
 | .binOp op T x y _=>zdb E op T (σ.ev x) (σ.ev y) σ λd=>K d σ
 | .makeMap T none=>OG E A o T σ K
 | .mapUpdate T m x y=>R3 E A T (σ.ev m) (σ.ev x) (σ.ev y) σ K
 | .lookup T m x ok=>E9 E T (σ.ev m) (σ.ev x) ok σ λd=>K d σ
 | .unOp op _ x=>unD op (σ.ev x) λd=>K d σ
 | .convert src dst x=>zha E src dst (σ.ev x) λd=>K d σ
 | .makeFunc (.func f) first captured=>match A.clp with
  |false=>(match first.toList with
   |[]=>qG A.q σ (captured.toList.map σ.ev) λcs σ=>K (.clo f none cs) σ
   |_=>False)
  |true=>(match first.toList.map σ.ev,captured.toList.map σ.ev with
   |[.ptr k off],[]=>K (.clp f true k off) σ
   |[],[.ptr k off]=>K (.clp f false k off) σ
   |_,_=>False)
 | .makeInterface T x=>match yG T E.zs,zac (σ.ev x)with
  |some (true,_),some u=>K (.ifc (.iface T u)) σ
  |_,_=>False
 | .slice T x lo hi none=>zbz E A T (σ.ev x) σ lo hi K
 | .fieldAddr T x f=>Ds E T (σ.ev x) f λd=>K d σ
 | .indexAddr T x ix=>R4 E T (σ.ev x) (σ.ev ix) σ λd=>K d σ
 | .index T x ix=>zbB E T (σ.ev x) (σ.ev ix) λd=>K d σ
 | .extract x i=>Ju (σ.ev x) i λd=>K d σ
 | .makeSlice T l c=>UD E A o T (σ.ev l) (σ.ev c) σ K
 | .call c=>match c.callee with
  | .builtin .len=>match c.args.toList,c.argTypes.toList with
   |[x],[T]=>zlP E T (σ.ev x) σ λd=>K d σ
   |_,_=>False
  | .builtin .append=>match c.args.toList,c.argTypes.toList with
   |[x,y],[T,T']=>Da E A o T T' (σ.ev x) y σ K
   |_,_=>False
  | .builtin .max=>match c.args.toList with
   |[x,y]=>zlQ (σ.ev x) (σ.ev y) λd=>K d σ
   |_=>False
  | .value f=>zdd P E A o (σ.ev f) c.args.toList c.argTypes.toList σ K
  |_=>False
 |_=>False
def zmX(P:AcJ)(E:TE)(A:wG)(o:Oper)(σ:St)(K:D->St->Prop)(T:Value->Prop):Option Prop:=match o.op with
 | .panic x=>some (match σ.ev x with
  | .ifc (.iface t u)=>T (.iface t u)
  |_=>False)
 | .call c=>match c.callee with
  | .value f=>match σ.ev f with
   | .clo g none caps=>(match pX g E.thr with
    |true=>some (match yG g E.hsig with
     |some hs=>zlS P E A g hs (zid o.dst) (zfm hs.raw E σ c.args.toList c.argTypes.toList) caps σ K T
     |none=>False)
    |false=>none)
   | .clp g bd k off=>some (match yG g E.hsig with
     |some hs=>zlS P E A g hs (zid o.dst) (bif bd then .ptr k off::zfm hs.raw E σ c.args.toList c.argTypes.toList else zfm hs.raw E σ c.args.toList c.argTypes.toList++[.ptr k off]) [] σ K T
     |none=>False)
   |_=>none
  |_=>none
 |_=>none
def opX(P:AcJ)(E:TE)(A:wG)(o:Oper)(σ:St)(K:D->St->Prop)(T:Value->Prop):Prop:=match zmX P E A o σ K T with
 |some X=>X
 |none=>opD P E A o σ K
def zjN:TypeDesc->Bool
 | .struct _| .array _ _=>true
 |_=>false
def zB:Value->D->Bool
 | .int .i64 n,.int .i64 m=>decide (n=0)&&decide (m=0)
 | .int .u8 n,.int .u8 m=>decide (n=0)&&decide (m=0)
 | .bool false,.bool false=>true
 | .string s,.str s'=>decide (s.size=0)&&decide (s'.size=0)
 | .slice none 0 0,.nil=>true
 | .slice none 0 0,.sl _ []=>true
 | .slice none 0 0,.slN _ [] true=>true
 | .pointer none,.ifc (.pointer none)=>true
 |_,.undef=>true
 |_,_=>false
def F1:List Value->AcO->Bool
 |[],[]=>true
 |v::vs,d::ds=>zB v d&&F1 vs ds
 |_,_=>false
structure ZOk (P:AcJ)(T:AcI)(ag:Bool)(cs:AcO):Prop where
 ty:tyC T cs
 ex:∃i z u,P.info? T=some i/\i.zero=some z/\i.size=cs.length/\P.underlying T=some u/\zjN u=ag/\F1 z.cells.toList cs=true
 one:ag=false->cs.length=1
structure SlE (P:AcJ)(T e:AcI)(t:Ty):Prop where
 und:P.underlying T=some (.slice e)
 ex:∃i z,P.info? e=some i/\i.zero=some z/\i.size=t.size/\i.bytes=t.bytes/\F1 z.cells.toList (cells t t.dflt)=true
def znR(P:AcJ)(T:AcI)(offs:List (Nat×Nat)):Prop:=
 ∃fs:Array Field,P.underlying T=some (.struct fs)/\fs.toList.mapM (λf=>(P.info? f.type).map λi=>(f.offset,i.size))=some offs/\offs.all (λx=> !Nat.beq x.2 0)=true
def zlT(P:AcJ)(f:Field):Option (Bool×Nat):=if f.name≠ "_" then(match P.underlying f.type with
 |some (.int .i64)=>some (false,f.offset)
 |some .string=>some (true,f.offset)
 |_=>none)else none
def fkT:Ty->Option (List (Bool×Nat))
 | .tok=>some [(false,0),(false,1),(true,2)]
 | .lit=>some [(false,0),(false,1),(false,2)]
 | .var=>some [(true,0),(false,1),(false,2)]
 |_=>none
def znS(P:AcJ)(T:AcI)(t:Ty):Prop:=
 P.underlying T=some (.struct (P.fieldsOf T))/\P.stoodInHeld T=false/\P.eqGuardType P.depth T=false/\∃l,fkT t=some l/\(P.fieldsOf T).toList.mapM (zlT P)=some l
def Hi(P:AcJ)(kT:AcI):Ty->Prop
 | .int=>P.underlying kT=some (.int .i64)
 | .str=>P.underlying kT=some .string
 | .pr .int .int=>∃e i,P.underlying kT=some (.array 2 e)/\P.underlying e=some (.int .i64)/\P.info? e=some i/\P.cellsOf e=1
 |_=>False
def MpE(P:AcJ)(T:AcI)(k v:Ty):Prop:=
 ∃kT eT i z d,P.underlying T=some (.map kT eT)/\Hi P kT k/\P.info? eT=some i/\i.zero=some z/\cells v v.dflt=[d]/\zB z d=true/\z.oneCell'=true
structure sR (P:AcJ)(E:TE):Prop where
 zs:∀T ag cs,yG T E.zs=some (ag,cs)->ZOk P T ag cs
 sl:∀T e t,yG T E.sl=some (e,t)->SlE P T e t
 fld:∀T offs,yG T E.fld=some offs->znR P T offs
 strs:∀T,pX T E.strs=true->P.underlying T=some .string
 ints:∀T k,yG T E.ints=some k->P.underlying T=some (.int k)
 bools:∀T,pX T E.bools=true->P.underlying T=some .bool
 sig:∀f rs,yG f E.sig=some rs->∀args w,(callFunc f args).run P w=.ok (.enter f args) w
 hsig:∀f hs,yG f E.hsig=some hs->Ent P f
 arr:∀T,pX T E.arr=true->∃e i,P.underlying T=some (.array 2 e)/\P.info? e=some i/\i.size=1
 mps:∀T k v,yG T E.mps=some (k,v)->MpE P T k v
 sts:∀T t,yG T E.sts=some t->znS P T t
 mixed:P.follows .mixedOrders=true
 byt:∀T e,yG T E.sl=some (e,.byte)->∃i,P.info? e=some i/\i.zero=some (.int .u8 0)
section
variable {P:AcJ}{E:TE}{A:wG}{b0:Tx}{w w':World}{S S':Nat->Prop}{pl pl':Nat->Value}{N:Nat}{σ:St}{a:Act}{v:Value}{d:D}{o:Oper}{K:D->St->Prop}{next:Act->World->Prop}{Q:Exit->Act->World->Prop}
theorem zie{s s':AcG}(h:s.size=0)(h':s'.size=0):s=s':=by
 have e:∀t:AcG,t.size=0->t=⟨#[]⟩:=λt ht=>by
  apply ByteArray.ext;exact AcA ht
 rw[e s h,e s' h']
theorem zmY(h:zB v d=true):Rp w S v d:=by
 unfold zB at h
 split at h
 case h_1=>simp only[If,decide_eq_true_eq]at h;obtain⟨rfl,rfl⟩:=h;exact .int _ _ (by unfold inK yY;omega)
 case h_2=>simp only[If,decide_eq_true_eq]at h;obtain⟨rfl,rfl⟩:=h;exact .int _ _ (by unfold inK;omega)
 case h_3=>exact .bool _
 case h_4=>simp only[If,decide_eq_true_eq]at h;rw[zie h.1 h.2];exact .str _ (by omega)
 case h_5=>exact .nil
 case h_6=>exact .sl _ _ _ ⟨[.slice none 0 0],rfl,none,0,rfl,by simp,by simp,by simp,λ_=>rfl,λhn=>At hn (by simp)⟩
 case h_7=>exact .slN _ _ _ _ ⟨[.slice none 0 0],rfl,none,0,rfl,by simp,by simp,by simp,λ_=>rfl,λhn=>At hn (by simp)⟩ (λe=>by cases e) λ_=>rfl
 case h_8=>exact .ifc _
 case h_9=>exact .undef _
 case h_10=>cases h
theorem Ki:∀ {vs:List Value} {ds:AcO},F1 vs ds=true->wF (Rp w S) vs ds
 |[],[],_=> .nil
 |v::vs,d::ds,h=>by
  simp only[F1,If]at h
  exact .cons (zmY h.1) (Ki h.2)
 |[],_::_,h=>by simp[F1]at h
 |_::_,[],h=>by simp[F1]at h
theorem zng(v:Value):Rp w S v (ofV v):=by
 unfold ofV;split
 case h_1 n=>
  cases h:decide (-9223372036854775808<=n)&&decide (n<=9223372036854775807)with
  |true=>simp only[If,decide_eq_true_eq]at h;exact .int _ _ h
  |false=>exact .undef _
 case h_2 n=>
  cases h:decide (0<=n)&&decide (n<=255)with
  |true=>simp only[If,decide_eq_true_eq]at h;exact .int _ _ h
  |false=>exact .undef _
 case h_3=>exact .bool _
 case h_4 s=>
  cases h:Nat.ble s.size 140737488355328 with
  |true=>exact .str _ (Aat h)
  |false=>exact .undef _
 case h_5=>exact .nil
 case h_6=>exact .undef _
theorem rF(m:qQ P b0 N σ a w S pl)(x:Operand):Rd w S pl (a.eval x) (σ.ev x):=by
 cases x with
 |tmp t=>exact m.fr t
 |const v=>exact(zng v).rd
 |func f=>exact Rp.rd (.clo f none [] #[] rfl (λi d h=>by simp at h))
 |global g=>exact kH
theorem Hj(T:AcI)(h:Rd w S pl v d):Rd w S pl v (Kf E T d):=by
 unfold Kf;split
 ·split
  ·have:=h.flat (d:=.nil) rfl
   rw[this.nil_inv];exact Rp.rd (.sl _ _ _ ⟨[.slice none 0 0],rfl,none,0,rfl,by simp,by simp,by simp,λ_=>rfl,λhn=>At hn (by simp)⟩)
  ·exact h
 ·exact Rp.rd (.sl _ _ _ (h.flat (d:=.slN _ _ _) rfl).slN_inv.1)
 ·exact h
def rY(P:AcJ)(b0:Tx)(N:Nat)(o:Oper)(a:Act)(K:D->St->Prop)(next:Act->World->Prop):Prop:=
 ∀d σ' v w' S' pl',K d σ'->qQ P b0 N σ' a w' S' pl'->Rd w' S' pl' v d->next (a.put o.dst v) w'
theorem yV{v:Value}{w':World}(h:(execOp a.eval o).run P w=.ok (.value v) w')(hn:next (a.put o.dst v) w'):o.wp P a w next Q:=by
 unfold Oper.wp;rw[h];exact hn
theorem zfp{w':World}(h:(execOp a.eval o).run P w=.ok .skip w')(hn:next (a.put o.dst undef) w'):o.wp P a w next Q:=by
 unfold Oper.wp;rw[h];exact hn
theorem zfq(h:Rp w S v d)(hd:fC d=true):v.oneCell'=true:=by
 cases h
 case sl t xs h=>obtain⟨A,c,rfl,_⟩:=rN h;rfl
 case slN t xs nl h _ _=>obtain⟨A,c,rfl,_⟩:=rN h;rfl
 all_goals first|rfl|(simp[fC]at hd)
def Rc(w:World)(S:Nat->Prop)(pl:Nat->Value)(v:Value)(d:D):Prop:=Rd w S pl v d/\(fC d=true->v.oneCell'=true)
theorem Hk(m:qQ P b0 N σ a w S pl)(h:Rd w S pl v d){cs:AcO}(hc:Wb σ d=some cs):wF (Rc w S pl) v.cells.toList cs:=by
 have one:v.cells.toList=[v]->Wb σ d=some [d]->v.oneCell'=true->wF (Rc w S pl) v.cells.toList cs:=λe e' e1=>by
  rw[e']at hc;injection hc with hc;subst hc;rw[e];exact .cons ⟨h,λ_=>e1⟩ .nil
 cases d
 case agg ds=>
  obtain⟨vs,rfl,hl,h⟩:=(h.flat rfl).agg_inv;injection hc with hc;subst hc
  refine wF.of (by simpa[Value.cells]using hl) λi x d hx hd=> ?_
  have:=h i d hd;simp only[Value.cells,AaE]at hx
  rw[Aae,hx]at this
  exact⟨this.rd,zfq this⟩
 case tup ds=>cases hc
 case undef=>cases hc
 case ifc u=>cases hc
 case slf k=>
  rcases h with e|⟨b,_,e⟩
  ·exact one (by rw[e];rfl) rfl (by rw[e];rfl)
  ·exact one (by rw[e];rfl) rfl (by rw[e];rfl)
 case clp f bd k off=>obtain⟨b,_,e⟩:=h;exact one (by rw[e];rfl) rfl (by rw[e];rfl)
 case own k=>
  have h':v=pl k:=h;simp only[Wb,St.ob]at hc
  cases ho:yG k σ.hp with
  |none=>rw[ho]at hc;cases hc
  |some o=>
   rw[ho]at hc
   cases o with
   |val ds=>
    injection hc with hc;subst hc
    obtain⟨vs,e1,e3,e4⟩:=m.hp k _ ho;rw[h',e1];refine wF.of (by simpa[Value.cells]using e3) λi x d hx hd=> ?_
    have:=e4 i d hd;simp only[Value.cells,AaE]at hx
    rw[Aae,hx]at this
    exact this
   |cells ds=>
    injection hc with hc;subst hc
    obtain⟨b,vs,T,e,_⟩:=m.hp k _ ho;have e':=h'.trans e;rw[e'];exact .cons ⟨by rw[<-e'];exact h,λ_=>rfl⟩ .nil
   |row e t xs=>
    injection hc with hc;subst hc
    obtain⟨_,css,_,h4,_⟩:=m.hp k _ ho;rcases h4.2 with⟨e,_⟩|⟨g,cap,cur,e,_⟩<;>
    ·have e':=h'.trans e
     rw[e'];exact .cons ⟨by rw[<-e'];exact h,λ_=>rfl⟩ .nil
   |mp kt vt es=>
    injection hc with hc;subst hc
    obtain⟨b,e,_⟩:=m.hp k _ ho;have e':=h'.trans e;rw[e'];exact .cons ⟨by rw[<-e'];exact h,λ_=>rfl⟩ .nil
 case ownN k=>
  have h':v=pl k:=(show v=pl k/\v≠ .slice none 0 0 from h).1
  simp only[Wb,St.ob]at hc
  cases ho:yG k σ.hp with
  |none=>rw[ho]at hc;cases hc
  |some o=>
   rw[ho]at hc
   cases o with
   |row e t xs=>
    injection hc with hc;subst hc
    obtain⟨_,css,_,h4,_⟩:=m.hp k _ ho;rcases h4.2 with⟨e,_⟩|⟨g,cap,cur,e,_⟩<;>
    ·have e':=h'.trans e
     rw[e'];exact .cons ⟨by rw[<-e'];exact h,λ_=>rfl⟩ .nil
   |val ds=>cases hc
   |cells ds=>cases hc
   |mp kt vt es=>cases hc
 case slN t xs nl=>obtain⟨A,c,e,_⟩:=rN ((h.flat (d:=.slN t xs nl) rfl).slN_inv).1;exact one (by rw[e];rfl) rfl (by rw[e];rfl)
 case mp kt vt es=>obtain⟨b,e,_⟩:=(h.flat (d:=.mp kt vt es) rfl).mp_inv;exact one (by rw[e];rfl) rfl (by rw[e];rfl)
 case sl t xs=>obtain⟨A,c,e,_⟩:=rN (h.flat (d:=.sl t xs) rfl).sl_inv;exact one (by rw[e];rfl) rfl (by rw[e];rfl)
 case nil=>have e:=(h.flat (d:=.nil) rfl).nil_inv;exact one (by rw[e];rfl) rfl (by rw[e];rfl)
 case int k n=>have e:=(h.flat (d:=.int k n) rfl).int_inv.1;exact one (by rw[e];rfl) rfl (by rw[e];rfl)
 case bool b=>have e:=(h.flat (d:=.bool b) rfl).bool_inv;exact one (by rw[e];rfl) rfl (by rw[e];rfl)
 case str s=>have e:=(h.flat (d:=.str s) rfl).str_inv.1;exact one (by rw[e];rfl) rfl (by rw[e];rfl)
 case iptr cs off=>obtain⟨b,e,_⟩:=(h.flat (d:=.iptr cs off) rfl).iptr_inv;exact one (by rw[e];rfl) rfl (by rw[e];rfl)
 case elt t xs i off=>obtain⟨b,o,c,e,_⟩:=(h.flat (d:=.elt t xs i off) rfl).elt_inv;exact one (by rw[e];rfl) rfl (by rw[e];rfl)
 case clo f rs caps=>obtain⟨vs,e,_⟩:=(h.flat (d:=.clo f rs caps) rfl).clo_inv;exact one (by rw[e];rfl) rfl (by rw[e];rfl)
 case ptr k off=>obtain⟨b,_,e⟩:=h;exact one (by rw[e];rfl) rfl (by rw[e];rfl)
 case oelt k sz i off=>obtain⟨b,n,c,_,_,e⟩:=h;exact one (by rw[e];rfl) rfl (by rw[e];rfl)
theorem zif(m:qQ P b0 N σ a w S pl)(h:Rd w S pl v d){cs:AcO}(hc:Wb σ d=some cs):wF (Rd w S pl) v.cells.toList cs:=(Hk m h hc).imp λ_ _ h=>h.1
theorem jT{d:D}:ZE d=true↔d.ref=none:=by
 unfold ZE;cases d.ref<;>simp
theorem LL:∀ {ds:AcO},ZF ds=none->∀d∈ds,d.ref=none
 |[],_,d,hd=>by cases hd
 |e::r,h,d,hd=>by
  unfold ZF at h
  cases he:e.ref with
  |some k=>rw[he]at h;cases h
  |none=>
   rw[he]at h
   rcases OF.1 hd with rfl|hd
   ·exact he
   ·exact LL h d hd
theorem wF.map_right{α β γ:Type}{R:α->γ->Prop}{f:β->γ}:∀ {xs:List α} {ys:List β},wF (λx y=>R x (f y)) xs ys->wF R xs (ys.map f)
 |_,_,.nil=> .nil
 |_,_,.cons h hs=> .cons h hs.map_right
theorem wF.flat:∀ {vs:List Value} {ds:AcO},wF (Rd w S pl) vs ds->(∀d∈ds,d.ref=none)->wF (Rp w S) vs ds
 |_,_,.nil,_=> .nil
 |_,_,.cons h hs,hf=> .cons (h.flat (hf _ Ks)) (hs.flat λd hd=>hf d (On _ hd))
theorem wF.rd{vs:List Value}{ds:AcO}(h:wF (Rp w S) vs ds):wF (Rd w S pl) vs ds:=h.imp λ_ _ h=>h.rd
theorem wF.rmono{vs:List Value}{ds:AcO}(h:wF (Rp w S) vs ds)(hk:∀b,S b->w'.heap[b]? =w.heap[b]?)(hS:∀b,S b->S' b):wF (Rp w' S') vs ds:=h.imp λ_ _ h=>h.mono hk hS
theorem zhb:∀(n:Nat) (σ:St) (ds:AcO) (σ':St) (ds':AcO) (S:Nat->Prop),pubs n σ ds=some (σ',ds')->qQ P b0 N σ a w S pl->
  ∃S',(∀b,S b->S' b)/\qQ P b0 N σ' a w S' pl/\∀vs,wF (Rd w S pl) vs ds->wF (Rp w S') vs ds'
 |0,_,_,_,_,_,h,_=>by cases h
 |n+1,σ,ds,σ',ds',S,h,m=>by
  unfold pubs at h
  cases hf:ZF ds with
  |none=>
   rw[hf]at h;injection h with h;injection h with h1 h2;subst h1 h2
   exact⟨S,λ_ h=>h,m,λvs hv=>hv.flat (LL hf)⟩
  |some k0=>
   rw[hf]at h
   simp only at h
   generalize TT σ 4 k0=k at h
   cases ho:σ.ob k with
   |none=>rw[ho]at h;cases h
   |some o=>
    rw[ho]at h
    simp only at h
    cases hfl:o.flatB with
    |false=>rw[hfl]at h;cases h
    |true=>
     rw[hfl,AI]at h
     have hfl':o.flat:=by
      cases o with
      |cells cs=>exact λd hd=>jT.1 (Aao.1 hfl d hd)
      |row _ _ _=>trivial
      |mp _ _ _=>trivial
      |val cs=>exact λd hd=>jT.1 (Aao.1 hfl d hd)
     have m1:=m.pub (k:=k) ho hfl';obtain⟨S',hS,m2,hv⟩:=zhb n _ _ _ _ _ h m1;exact⟨S',λb hb=>hS b (.inl hb),m2,λvs h=>hv vs (wF.map_right (h.imp λ_ _ h=>Mv (m.hp k o ho) hfl' h))⟩
theorem oE{ds:AcO}{K:AcO->St->Prop}{q:Nat}(h:qG q σ ds K)(m:qQ P b0 N σ a w S pl):
  ∃σ' ds' S',K ds' σ'/\(∀b,S b->S' b)/\qQ P b0 N σ' a w S' pl/\∀vs,wF (Rd w S pl) vs ds->wF (Rp w S') vs ds':=by
 unfold qG at h
 cases hp:pubs q σ ds with
 |none=>rw[hp]at h;exact h.elim
 |some x=>
  obtain⟨σ',ds'⟩:=x;rw[hp]at h
  obtain⟨S',h1,h2,h3⟩:=zhb _ _ _ _ _ _ hp m;exact⟨σ',ds',S',h,h1,h2,h3⟩
theorem Kj(w:World)(o:Obj):(w.alloc o).heap.size=w.heap.size+1:=by simp
theorem OK(w:World)(o:Obj):Below w.heap.size w (w.alloc o):=(Below.refl _ _).alloc (BY _) o
theorem Kk(m:qQ P b0 N σ a w S pl)(o:Obj):∀b,S b->(w.alloc o).heap[b]? =w.heap[b]? :=λb hb=>Below.heap_alloc w o b (m.lt b hb)
theorem zbI(m:qQ P b0 N σ a w S pl)(k:Nat)(hst:stabK k=false){vs:Array Value}{cs:AcO}(T:AcI)(h:wF (Rd w S pl) vs.toList cs)(hty:tyC T cs)(hr:∀d∈cs,d.ref≠some k):
  qQ P b0 N (σ.mk' k (.cells cs)) a (w.alloc (.cells vs T)) S (MT pl k (.pointer (some ⟨w.heap.size,0,none⟩))):=by
 refine m.mk' (w':=w.alloc (.cells vs T)) k hst (.cells cs) (.pointer (some ⟨w.heap.size,0,none⟩)) (OK w _) (λb hb=>by injection hb with hb;subst hb;exact⟨BY _,by show w.heap.size<_;rw[Kj];omega⟩) λpl' hpl=> ?_
 refine⟨w.heap.size,vs,T,rfl,heap_alloc_new w _,by simpa using h.len,λi d hd=> ?_,hty⟩
 obtain⟨u,hu,hr'⟩:=h.at hd;have e:vs.getD i undef=u:=by rw[Aae];rw[AaE]at hu;rw[hu];rfl
 rw[e];exact hr'.mono (Kk m _) (λ_ h=>h) λj hj=>hpl j λej=>hr d (AaQ hd) (by rw[hj,ej])
theorem Mx(m:qQ P b0 N σ a w S pl){vs:Array Value}{cs:AcO}(T:AcI)(h:wF (Rp w S) vs.toList cs):
  qQ P b0 N σ a (w.alloc (.cells vs T)) (λb=>S b\/b=w.heap.size) pl/\Rp (w.alloc (.cells vs T)) (λb=>S b\/b=w.heap.size) (.pointer (some ⟨w.heap.size,0,none⟩)) (.iptr cs 0):=by
 refine⟨m.newS _,Rp.iptr_mk (.inr rfl) λi d hd=> ?_⟩
 obtain⟨u,hu,hr'⟩:=h.at hd;refine⟨u,?_,hr'.mono (Kk m _) λ_ h=> .inl h⟩
 rw[World.cell?_alloc_new];simpa using hu
theorem zfr(k b:Nat):Rd w S (MT pl k (.pointer (some ⟨b,0,none⟩))) (.pointer (some ⟨b,0,none⟩)) (.ptr k 0):=⟨b,As rfl,rfl⟩
theorem zjO(F:sR P E)(m:qQ P b0 N σ a w S pl){x:Operand}(ho:o.op=.move x\/o.op=.assign x)(h:zda E A o (σ.ev x) σ K)(hn:rY P b0 N o a K next):o.wp P a w next Q:=by
 have hrun:(execOp a.eval o).run P w=.ok (.value (a.eval x)) w:=by
  rcases ho with ho|ho<;>·unfold execOp;rw[ho];rfl
 have hx:=rF m x;have plain:∀d,σ.ev x=d->K d σ->o.wp P a w next Q:=λd e h=>yV hrun (hn _ _ _ _ _ _ h m (e▸hx))
 unfold zda at h
 split at h
 ·rename_i e
  rw[e]at hx
  have hv:=(hx.flat (d:=.nil) rfl).nil_inv;split at h
  ·rename_i te t hl
   split at h
   ·rename_i k hk
    refine yV hrun (hn _ _ _ _ _ _ h (m.mk' (w':=w) k (aS hk) (.row te t []) (.slice none 0 0) (Below.refl _ _) (λb hb=>by cases hb) λpl' _=> ?_) ?_)
    ·exact⟨by simp[lim],[],rfl,by simpa using World.ownsRow_nil w 0 te t.size,by simp,by simp⟩
    ·show a.eval x=_;rw[hv];exact(As rfl).symm
   ·cases hb:zmV A o.dst with
    |true=>rw[hb,AI]at h;exact yV hrun (hn _ _ _ _ _ _ h m (by rw[hv];exact Rp.rd (.slN _ _ _ _ ⟨[.slice none 0 0],rfl,none,0,rfl,by simp,by simp,by simp,λ_=>rfl,λhn=>At hn (by simp)⟩ (λe=>by cases e) λ_=>rfl)))
    |false=>
    rw[hb,Vs]at h
    exact yV hrun (hn _ _ _ _ _ _ h m (by rw[hv];exact Rp.rd (.sl _ _ _ ⟨[.slice none 0 0],rfl,none,0,rfl,by simp,by simp,by simp,λ_=>rfl,λhn=>At hn (by simp)⟩)))
  ·exact plain _ e h
 ·rename_i d hne
  exact plain _ rfl h
theorem zlU(m:qQ P b0 N σ a w S pl){c x y:Operand}(ho:o.op=.pick c x y){t:Bool}(hc:σ.ev c=.bool t)(h:zJ t (K (σ.ev x) σ) (K (σ.ev y) σ))(hn:rY P b0 N o a K next):o.wp P a w next Q:=by
 have hcv:a.eval c=.bool t:=by have:=rF m c;rw[hc]at this;exact(this.flat (d:=.bool t) rfl).bool_inv
 have hrun:(execOp a.eval o).run P w=.ok (.value (if t then a.eval x else a.eval y)) w:=by
  unfold execOp;rw[ho];simp only[hcv];rfl
 cases t
 ·exact yV hrun (hn _ _ _ _ _ _ h m (rF m y))
 ·exact yV hrun (hn _ _ _ _ _ _ h m (rF m x))
theorem zbJ:∀ {vs:List Value} {ds:AcO},F1 vs ds=true->∀d∈ds,d.ref=none
 |[],[],_,d,hd=>by cases hd
 |v::vs,e::ds,h,d,hd=>by
  simp only[F1,If]at h
  rcases OF.1 hd with rfl|hd
  ·have h1:=h.1
   cases d
   case own k=>cases v<;>simp[zB]at h1
   case ptr k off=>cases v<;>simp[zB]at h1
   case oelt k sz i off=>cases v<;>simp[zB]at h1
   case ownN k=>cases v<;>simp[zB]at h1
   case clp f bd k off=>cases v<;>simp[zB]at h1
   case slf k=>cases v<;>simp[zB]at h1
   all_goals rfl
  ·exact zbJ h.2 d hd
 |[],_::_,h,_,_=>by simp[F1]at h
 |_::_,[],h,_,_=>by simp[F1]at h
theorem zjP(F:sR P E)(m:qQ P b0 N σ a w S pl){T:AcI}(ho:o.op=.alloc T)(h:Dr E A o T σ K)(hn:rY P b0 N o a K next):o.wp P a w next Q:=by
 unfold Dr at h
 split at h
 ·rename_i ag cs hl
  obtain⟨i,z,u,hi,hz,hsz,hu,hag,hzb⟩:=(F.zs T ag cs hl).ex
  have hrun:(execOp a.eval o).run P w=.ok (.value (.pointer (some ⟨w.heap.size,0,none⟩))) (w.alloc (.cells z.cells T)):=by
   unfold execOp;rw[ho];simp[Instr.alloc,zeroValue,typeInfo,hi,hz,newVar,newRow,newObj];rfl
  have hrd:wF (Rp w S) z.cells.toList cs:=Ki hzb;split at h
  ·rename_i k hk
   exact yV hrun (hn _ _ _ _ _ _ h (zbI m k (aS hk) T hrd.rd (F.zs T ag cs hl).ty λd hd e=>by rw[zbJ hzb d hd]at e;cases e) (zfr k _))
  ·exact yV hrun (hn _ _ _ _ _ _ h (Mx m T hrd).1 (Mx m T hrd).2.rd)
 ·exact h.elim
theorem znh(F:sR P E)(m:qQ P b0 N σ a w S pl){T:AcI}{x:Operand}(ho:o.op=.box T x)(h:zjH E A o T (σ.ev x) σ K)(hn:rY P b0 N o a K next):o.wp P a w next Q:=by
 have hrun:(execOp a.eval o).run P w=.ok (.value (.pointer (some ⟨w.heap.size,0,none⟩))) (w.alloc (.cells (a.eval x).cells T)):=by
  unfold execOp;rw[ho];simp[Instr.box,newVar,newRow,newObj];rfl
 have hx:=Hj (E:=E) T (rF m x);unfold zjH at h
 split at h
 ·rename_i cs hc
  have hcs:=zif m hx hc;split at h
  ·rename_i k hk
   cases hr:zbx k T cs with
   |true=>rw[hr]at h;exact h.elim
   |false=>
    rw[hr,Vs]at h
    simp only[zbx,Abd]at hr
    refine yV hrun (hn _ _ _ _ _ _ h (zbI m k (aS hk) T hcs (λe=>by have:=hr.2;rw[e]at this;simpa using this) λd hd e=> ?_) (zfr k _))
    have:=AaA.1 hr.1 d hd;simp only[zjG,e,xG.2 (rfl:k=k),not_true_eq_false]at this
  ·obtain⟨σ',ds',S',hK,hS,m',hv⟩:=oE h m
   exact yV hrun (hn _ _ _ _ _ _ hK (Mx m' T (hv _ hcs)).1 (Mx m' T (hv _ hcs)).2.rd)
 ·exact h.elim
theorem Kl(m:qQ P b0 N σ a w S pl)(h:Rd w S pl v d){cs:AcO}(hc:YD σ d=some cs):
  ∃b off,v=.pointer (some ⟨b,off,none⟩)/\∀j d,cs[j]? =some d->∃u,w.cell? ⟨b,off+j,none⟩=some u/\Rd w S pl u d:=by
 cases d<;>simp only[YD]at hc
 case ptr k off=>
  obtain⟨b,hp,rfl⟩:=h;cases ho:σ.ob k with
  |none=>rw[ho]at hc;cases hc
  |some o=>
   cases o with
   |row e t xs=>rw[ho]at hc;cases hc
   |mp kt vt es=>rw[ho]at hc;cases hc
   |val ds=>rw[ho]at hc;cases hc
   |cells ds=>
    rw[ho]at hc;injection hc with hc;subst hc
    obtain⟨b',vs,T,e1,e2,e3,e4,_⟩:=m.hp k _ ho;rw[hp]at e1;injection e1 with e1;injection e1 with e1;injection e1 with e1;subst e1
    refine⟨b,off,rfl,λj d hd=> ?_⟩
    rw[Abw]at hd
    refine⟨vs.getD (off+j) undef,?_,e4 _ d hd⟩;have hi:off+j<vs.size:=by rw[e3];exact(AaD.1 hd).1
    rw[cell_of_row w b _ vs T (0,0) e2];simp[Aae,hi]
 case iptr ds off=>
  injection hc with hc;subst hc
  obtain⟨b,rfl,hb,hcell⟩:=(h.flat (d:=.iptr ds off) rfl).iptr_inv;refine⟨b,off,rfl,λj d hd=> ?_⟩
  rw[Abw]at hd
  obtain⟨u,hu,hr⟩:=hcell _ d hd;exact⟨u,hu,hr.rd⟩
 case elt t xs i off=>
  injection hc with hc;subst hc
  obtain⟨b,o',c,rfl,hi,hr⟩:=(h.flat (d:=.elt t xs i off) rfl).elt_inv;obtain⟨b',o'',cs',e,hb,hrd,hcell⟩:=Kb hr hi;injection e with e;injection e with e1 e2;subst e1 e2
  have ha:=jX t hrd;refine⟨b,o'+i*t.size+off,rfl,λj d hd=> ?_⟩
  rw[Abw]at hd
  rw[Aam,Aac hi,AbT]at hd
  obtain⟨u,hu,hr'⟩:=ha.at hd;refine⟨u,?_,hr'.rd⟩;have:=hcell _ u hu;rw[<-Ty.size_eq]at this
  rw[show o'+i*t.size+off+j=o'+i*t.size+(off+j) by omega]
  exact this
 case oelt k sz i off=>
  obtain⟨b,n,c,hp,hi,rfl⟩:=h;cases ho:σ.ob k with
  |none=>rw[ho]at hc;cases hc
  |some o=>
   cases o with
   |cells ds=>rw[ho]at hc;cases hc
   |mp kt vt es=>rw[ho]at hc;cases hc
   |val ds=>rw[ho]at hc;cases hc
   |row e t xs=>
    rw[ho]at hc
    simp only at hc
    cases hz:Nat.beq sz t.size with
    |false=>rw[hz]at hc;cases hc
    |true=>
     rw[hz,AI]at hc;injection hc with hc;subst hc
     obtain⟨_,css,h1,h2,h3,h4⟩:=m.hp k _ ho;rw[xG.1 hz];rcases h2.2 with⟨e,_⟩|⟨g,cap,cur,e,_,hg,hcap,hmax,hcur,htake⟩
     ·rw[hp]at e;cases e
     ·have e':=e
      rw[hp]at e;injection e with e e5 e6;injection e with e;injection e with e;subst e e5
      refine⟨b,i*t.size+off,rfl,λj d hd=> ?_⟩
      rw[Abw,Aam,Aac hi,AbT]at hd
      have hci:css[i]? =some (css[i]'(by omega)):=Aac (by omega)
      have hrd:=h4 i xs[i] _ (Aac hi) hci;obtain⟨u,hu,hr'⟩:=(jX t hrd).at hd;refine⟨u,?_,hr'.rd⟩;have hf:=E7 css h3 i (off+j) _ u hci hu;have:=h2.cells (g:=b) (by rw[e'];rfl) _ _ hf
      rw[<-this,show i*t.size+off+j=i*t.size+(off+j) by omega]
      unfold Addr.add;split
      ·rename_i e0;rw[e0]
      ·simp
 all_goals cases hc
theorem zbK(R:Value->D->Prop)(b:Nat):∀(cs:AcO) (off:Nat),(∀j d,cs[j]? =some d->∃u,w.cell? ⟨b,off+j,none⟩=some u/\R u d)->
  ∃vs:List Value,wF R vs cs/\∀(j:Nat) (u:Value),vs[j]? =some u->w.cell? ⟨b,off+j,none⟩=some u
 |[],_,_=>⟨[],.nil,λj u h=>by simp at h⟩
 |d::cs,off,h=>by
  obtain⟨u,hu,hr⟩:=h 0 d rfl
  obtain⟨vs,h1,h2⟩:=zbK R b cs (off+1) λj d hd=>by
   obtain⟨u,hu,hr⟩:=h (j+1) d (by simpa using hd)
   exact⟨u,by rw[show off+1+j=off+(j+1) by omega];exact hu,hr⟩
  refine⟨u::vs,.cons hr h1,λj v hv=> ?_⟩
  cases j with
  |zero=>simp at hv;subst hv;exact hu
  |succ j=>rw[show off+(j+1)=off+1+j by omega];exact h2 j v (by simpa using hv)
theorem S3{T:AcI}{u:TypeDesc}(hu:P.underlying T=some u):(isAgg T).run P w=.ok (zjN u) w:=by
 unfold isAgg;simp only[IS,run_underlying hu,IT];cases u<;>rfl
theorem zlV(F:sR P E)(m:qQ P b0 N σ a w S pl){T:AcI}{x:Operand}(ho:o.op=.load T x)(h:zg8 E A T (σ.ev x) σ K)(hn:rY P b0 N o a K next):o.wp P a w next Q:=by
 have hx:=rF m x;unfold zg8 at h
 split at h
 ·rename_i ag zs hl
  obtain⟨i,z,u,hi,hz,hsz,hu,hag,hzb⟩:=(F.zs T ag zs hl).ex;split at h
  ·rename_i cs hc
   obtain⟨b,off,hv,hcell⟩:=Kl m hx hc;cases hle:Nat.ble zs.length cs.length with
   |false=>rw[hle]at h;exact h.elim
   |true=>
    rw[hle,AI]at h
    have hle:=Aat hle;split at h
    ·rename_i hl'
     obtain⟨vs,h1,h2⟩:=zbK (Rd w S pl) b (cs.take zs.length) off λj d hd=>hcell j d (by
      rw[Abx]at hd;split at hd
      ·exact hd
      ·cases hd)
     have hlen:vs.length=zs.length:=by rw[h1.len,Aaf];omega
     have hload:(loadCells ⟨b,off,none⟩ zs.length).run P w=.ok vs.toArray w:=by
      rw[<-hlen];refine run_loadCells_list (P:=P) w ⟨b,off,none⟩ vs λj u hu=> ?_
      have:=h2 j u hu;unfold Addr.add;split
      ·rename_i e;subst e;simpa using this
      ·exact this
     have hrun:(execOp a.eval o).run P w=.ok (.value (.agg vs.toArray)) w:=by
      unfold execOp;rw[ho];have hs:(sizeOf T).run P w=.ok zs.length w:=by simp[sizeOf,typeInfo,hi,hsz]
      simp only[Instr.loadAt,hv,Instr.sureAddr,loadVar,IS,No,IT,S3 hu,hag,if_true,hs,hload]
     obtain⟨σ',ds',S',hK,hS,m',hv'⟩:=oE h m;have hr:=hv' vs h1;refine yV hrun (hn _ _ _ _ _ _ hK m' (Rp.rd (.agg _ _ (by simpa using hr.len) λj d hd=> ?_)))
     obtain⟨u,hu,hr'⟩:=hr.at hd;rw[Aae];simpa[hu]using hr'
    ·have hone:=(F.zs T _ zs hl).one rfl
     cases cs with
     |cons d r=>
      obtain⟨u',hu',hr⟩:=hcell 0 d rfl
      have hld:(load ⟨b,off,none⟩).run P w=.ok u' w:=by
       have:w.cell? ⟨b,off,none⟩=some u':=hu';simp only[load,Sem.run,this]
      have hrun:(execOp a.eval o).run P w=.ok (.value u') w:=by
       unfold execOp;rw[ho];simp only[Instr.loadAt,hv,Instr.sureAddr,loadVar,IS,No,IT,S3 hu,hag,Aa0,if_false,hld]
      exact yV hrun (hn _ _ _ _ _ _ h m hr)
     |nil=>exact h.elim
  ·exact h.elim
 ·exact h.elim
end
section
variable {P:AcJ}{E:TE}{A:wG}{b0:Tx}{w w':World}{S S':Nat->Prop}{pl pl':Nat->Value}{N:Nat}{σ:St}{a:Act}{v:Value}{d:D}{o:Oper}{K:D->St->Prop}{next:Act->World->Prop}{Q:Exit->Act->World->Prop}
theorem Fa(F:sR P E){T:AcI}{f off:Nat}(h:zbA E T f=some off)(b q:Nat):(Instr.fieldAt T (.pointer (some ⟨b,q,none⟩)) f).run P w=.ok (.pointer (some ⟨b,q+off,none⟩)) w:=by
 unfold zbA at h
 split at h
 ·rename_i offs hl
  split at h
  ·rename_i off' sz hf
   injection h with h;subst h
   obtain⟨fs,hu,hm,hz⟩:=F.fld T offs hl
   obtain⟨fd,hfd,hfm⟩:∃fd,fs[f]? =some fd/\(P.info? fd.type).map (λi=>(fd.offset,i.size))=some (off',sz):=by
    have key:∀(l:List Field) (offs:List (Nat×Nat)) (f:Nat),l.mapM (λf=>(P.info? f.type).map λi=>(f.offset,i.size))=some offs->offs[f]? =some (off',sz)->
      ∃fd,l[f]? =some fd/\(P.info? fd.type).map (λi=>(fd.offset,i.size))=some (off',sz):=by
     intro l
     induction l with
     |nil=>intro offs f h1 h2;simp at h1;subst h1;simp at h2
     |cons x l ih=>
      intro offs f h1 h2;rw[List.mapM_cons]at h1
      cases hx:(P.info? x.type).map λi=>(x.offset,i.size)with
      |none=>simp[hx]at h1
      |some y=>
       rw[hx]at h1
       cases hr:l.mapM (λf=>(P.info? f.type).map λi=>(f.offset,i.size))with
       |none=>simp[hr]at h1
       |some ys=>
        rw[hr]at h1
        simp at h1
        subst h1;cases f with
        |zero=>simp at h2;subst h2;exact⟨x,rfl,hx⟩
        |succ f=>simpa using ih ys f hr (by simpa using h2)
    obtain⟨fd,h1,h2⟩:=key fs.toList offs f hm hf;exact⟨fd,by simpa using h1,h2⟩
   cases hi:P.info? fd.type with
   |none=>rw[hi]at hfm;cases hfm
   |some i=>
    rw[hi]at hfm
    simp only[Abe,Option.some.injEq,Prod.mk.injEq]at hfm
    have hne:i.size≠0:=by
     have:=Aao.1 hz _ (AaQ hf);intro e;rw[<-hfm.2,e]at this
     simp at this
    have hs:(sizeOf fd.type).run P w=.ok i.size w:=by simp[sizeOf,typeInfo,hi]
    have hplace:(fieldPlace ⟨b,q,none⟩ fd).run P w=.ok ⟨b,q+off',none⟩ w:=by
     simp only[fieldPlace,IS,hs,IT,An hne,No,hfm.1];unfold Addr.add;split
     ·rename_i e;simp[e]
     ·rfl
    simp[Instr.fieldAt,IS,run_underlying hu,IT,hfd,Instr.sureAddr,hplace]
  ·cases h
 ·cases h
theorem zjQ(F:sR P E)(m:qQ P b0 N σ a w S pl){T:AcI}{x:Operand}{f:Nat}(ho:o.op=.fieldAddr T x f)(h:Ds E T (σ.ev x) f λd=>K d σ)(hn:rY P b0 N o a K next):o.wp P a w next Q:=by
 have hx:=rF m x
 have run:∀b q off,a.eval x=.pointer (some ⟨b,q,none⟩)->zbA E T f=some off->(execOp a.eval o).run P w=.ok (.value (.pointer (some ⟨b,q+off,none⟩))) w:=λb q off e hf=>by
  unfold execOp;rw[ho];simp only[e,IS,Fa F hf,IT,No]
 unfold Ds at h
 split at h
 ·rename_i off hf
  split at h
  ·rename_i k q e
   rw[e]at hx
   obtain⟨b,hp,hv⟩:=hx;exact yV (run b q off hv hf) (hn _ _ _ _ _ _ h m ⟨b,hp,rfl⟩)
  ·rename_i cs q e
   rw[e]at hx
   obtain⟨b,hv,hb,hc⟩:=(hx.flat (d:=.iptr cs q) rfl).iptr_inv;exact yV (run b q off hv hf) (hn _ _ _ _ _ _ h m (Rp.rd (Rp.iptr_mk hb hc)))
  ·rename_i t xs i q e
   rw[e]at hx
   obtain⟨b,o',c,hv,hi,hr⟩:=(hx.flat (d:=.elt t xs i q) rfl).elt_inv;refine yV (run b _ off hv hf) (hn _ _ _ _ _ _ h m ?_);rw[show o'+i*t.size+q+off=o'+i*t.size+(q+off) by omega]
   exact Rp.rd (.elt t xs i (q+off) b o' c hi hr)
  ·rename_i k sz i q e
   rw[e]at hx
   obtain⟨b,n,c,hp,hi,hv⟩:=hx;refine yV (run b _ off hv hf) (hn _ _ _ _ _ _ h m ⟨b,n,c,hp,hi,?_⟩);rw[show i*sz+q+off=i*sz+(q+off) by omega]
  ·exact h.elim
 ·exact h.elim
theorem Dv{n:Int}{len:Nat}(h:xM n len=true):0<=n/\n<(len:Int):=by simpa[xM]using h
theorem Km(F:sR P E){T e:AcI}{t:Ty}(h:yG T E.sl=some (e,t)):(sizeOf e).run P w=.ok t.size w:=by
 obtain⟨_,i,z,hi,hz,hs,hb,_⟩:=F.sl T e t h;simp[sizeOf,typeInfo,hi,hs]
theorem Fb(F:sR P E){T e:AcI}{t:Ty}(h:yG T E.sl=some (e,t))(b q len c:Nat)(k:IntKind)(n:Int)(h0:0<=n)(h1:n<(len:Int)):
  (Instr.indexAt T (.slice (some ⟨b,q,none⟩) len c) (.int k n)).run P w=.ok (.pointer (some ⟨b,q+n.toNat*t.size,none⟩)) w:=by
 have hu:=(F.sl T e t h).und;simp only[Instr.indexAt,asIntOf,IS,No,IT,run_underlying hu];simp only[h0,h1,Abn,if_true,IS,Km F h,IT,No];unfold Addr.add;split
 ·rename_i e;simp[e]
 ·rfl
theorem zbL(F:sR P E)(m:qQ P b0 N σ a w S pl){T:AcI}{x ix:Operand}(ho:o.op=.indexAddr T x ix)(h:R4 E T (σ.ev x) (σ.ev ix) σ λd=>K d σ)(hn:rY P b0 N o a K next):o.wp P a w next Q:=by
 have hx:=rF m x;have hi:=rF m ix;unfold R4 at h
 split at h
 ·rename_i e t' hl
  split at h
  ·rename_i k n ei
   rw[ei]at hi
   have hi:=(hi.flat (d:=.int k n) rfl).int_inv.1;split at h
   ·rename_i t xs ex
    rw[ex]at hx
    cases hz:Nat.beq t'.size t.size with
    |false=>rw[hz]at h;exact h.elim
    |true=>
     rw[hz,AI]at h
     obtain⟨hin,h⟩:=h;obtain⟨h0,h1⟩:=Dv hin;have hr:=(hx.flat (d:=.sl t xs) rfl).sl_inv;obtain⟨A',c,hv,_⟩:=rN hr;have hlt:n.toNat<xs.length:=by omega
     have hr':=hr;rw[hv]at hr'
     obtain⟨b,q,_,hA,_⟩:=Kb hr' hlt;subst hA
     have hrun:(execOp a.eval o).run P w=.ok (.value (.pointer (some ⟨b,q+n.toNat*t'.size,none⟩))) w:=by
      unfold execOp;rw[ho];simp only[hv,hi,IS,Fb F hl b q xs.length c k n h0 h1,IT,No]
     rw[xG.1 hz]at hrun
     exact yV hrun (hn _ _ _ _ _ _ h m (Rp.rd (.elt t xs n.toNat 0 b q c hlt hr')))
   ·rename_i k' ex
    rw[ex]at hx
    have hx:a.eval x=pl k':=hx;split at h
    ·rename_i e' t xs hob
     cases hz:Nat.beq t'.size t.size with
     |false=>rw[hz]at h;exact h.elim
     |true=>
      rw[hz,AI]at h
      obtain⟨hin,h⟩:=h;obtain⟨h0,h1⟩:=Dv hin;obtain⟨_,css,q1,q2,_,_⟩:=m.hp k' _ hob;rcases q2.2 with⟨_,e0⟩|⟨g,cap,cur,ep,_⟩
      ·omega
      ·have hrun:(execOp a.eval o).run P w=.ok (.value (.pointer (some ⟨g,0+n.toNat*t'.size,none⟩))) w:=by
        unfold execOp;rw[ho];simp only[hx,ep,hi,IS,Fb F hl g 0 xs.length cap k n h0 h1,IT,No]
       rw[xG.1 hz]at hrun
       exact yV hrun (hn _ _ _ _ _ _ h m ⟨g,xs.length,cap,ep,by omega,by simp⟩)
    ·exact h.elim
   ·exact h.elim
  ·exact h.elim
 ·exact h.elim
theorem zjR(F:sR P E)(m:qQ P b0 N σ a w S pl){T:AcI}{x ix:Operand}(ho:o.op=.index T x ix)(h:zbB E T (σ.ev x) (σ.ev ix) λd=>K d σ)(hn:rY P b0 N o a K next):o.wp P a w next Q:=by
 have hx:=rF m x;have hi:=rF m ix;unfold zbB at h
 split at h
 ·rename_i s k n ex ei
  rw[ex]at hx;rw[ei]at hi
  have hi:=(hi.flat (d:=.int k n) rfl).int_inv.1;have hx:=(hx.flat (d:=.str s) rfl).str_inv.1;cases hm:pX T E.strs with
  |false=>rw[hm]at h;exact h.elim
  |true=>
   rw[hm,AI]at h
   obtain⟨hin,h⟩:=h;obtain⟨h0,h1⟩:=Dv hin;have hlt:n.toNat<s.size:=by omega
   have hs:s[n.toNat]? =some s[n.toNat]:=by simp[hlt]
   have hrun:(execOp a.eval o).run P w=.ok (.value (.int .u8 (rO s n.toNat))) w:=by
    unfold execOp;rw[ho];simp only[hx,hi,Instr.index,asIntOf,IS,No,IT,run_underlying (F.strs T hm),h0,if_true,hs]
    have:s[n.toNat].toNat=(s.data.getD n.toNat 0).toNat:=by
     rw[Aae];have:n.toNat<s.data.size:=hlt;rw[AaR this];rfl
    rw[rO,this]
   exact yV hrun (hn _ _ _ _ _ _ h m (Rp.rd (.int _ _ (by unfold inK rO;have:=(s.data.getD n.toNat 0).toNat_lt;omega))))
 ·exact h.elim
theorem zfs(m:qQ P b0 N σ a w S pl){x:Operand}{i:Nat}(ho:o.op=.extract x i)(h:Ju (σ.ev x) i λd=>K d σ)(hn:rY P b0 N o a K next):o.wp P a w next Q:=by
 have hx:=rF m x;unfold Ju at h
 split at h
 ·rename_i ds e
  rw[e]at hx
  obtain⟨vs,hv,hl,hr⟩:=(hx.flat (d:=.tup ds) rfl).tup_inv;split at h
  ·rename_i d hd
   have hi:i<vs.size:=by rw[hl];exact(AaD.1 hd).1
   have hrun:(execOp a.eval o).run P w=.ok (.value (vs.getD i undef)) w:=by
    unfold execOp;rw[ho];simp only[hv,Instr.extract,AaR hi,IS,No,IT];rw[Aae,AaR hi];rfl
   exact yV hrun (hn _ _ _ _ _ _ h m (hr i d hd).rd)
  ·exact h.elim
 ·exact h.elim
theorem zde(m:qQ P b0 N σ a w S pl){x:Operand}(ho:o.op=.nilCheck x)(h:opD P E A o σ K)(hn:rY P b0 N o a K next):o.wp P a w next Q:=by
 have hx:=rF m x
 have run:∀p,a.eval x=.pointer (some p)->(execOp a.eval o).run P w=.ok (.value (a.eval x)) w:=λp e=>by
  unfold execOp;rw[ho];simp only[e];rfl
 unfold opD at h
 rw[ho]at h
 simp only at h
 split at h
 ·rename_i k off e
  rw[e]at hx
  obtain⟨b,hp,hv⟩:=hx;exact yV (run _ hv) (hn _ _ _ _ _ _ h m ⟨b,hp,hv⟩)
 ·rename_i cs off e
  rw[e]at hx
  obtain⟨b,hv,_⟩:=(hx.flat (d:=.iptr cs off) rfl).iptr_inv;exact yV (run _ hv) (hn _ _ _ _ _ _ h m hx)
 ·rename_i t xs i off e
  rw[e]at hx
  obtain⟨b,o',c,hv,_⟩:=(hx.flat (d:=.elt t xs i off) rfl).elt_inv;exact yV (run _ hv) (hn _ _ _ _ _ _ h m hx)
 ·rename_i k sz i off e
  rw[e]at hx
  obtain⟨b,n,c,hp,hi,hv⟩:=hx;exact yV (run _ hv) (hn _ _ _ _ _ _ h m ⟨b,n,c,hp,hi,hv⟩)
 ·exact h.elim
theorem zae(op:BinOp)(T:AcI)(x y:Operand)(u v:Value)(h:∀cs,u≠ .agg cs)(h':u≠ .nilIface):(eqGuard op T x y u v).run P w=.ok () w:=by
 cases u<;>first|exact At rfl h'|exact At rfl (h _)|(unfold eqGuard;cases op<;>rfl)
theorem zlW{a b:Int}(ha:yY a):yY (a.tmod b):=by
 unfold yY at*
 have h1:(a.tmod b).natAbs<=a.natAbs:=by rw[Int.natAbs_tmod];exact Nat.mod_le _ _
 have h2:0<=a->0<=a.tmod b:=λh=>Int.tmod_nonneg _ h
 have h3:a<=0->a.tmod b<=0:=λh=>by
  have:=Int.tmod_nonneg b (a:= -a) (by omega)
  rw[Int.neg_tmod]at this;omega
 by_cases h:0<=a
 ·have:=h2 h;omega
 ·have:=h3 (by omega);omega
theorem zni(F:sR P E)(m:qQ P b0 N σ a w S pl){op:BinOp}{T T':AcI}{x y:Operand}(ho:o.op=.binOp op T x y T')(h:zjI E op T (σ.ev x) (σ.ev y) λd=>K d σ)(hn:rY P b0 N o a K next):o.wp P a w next Q:=by
 have hx:=rF m x;have hy:=rF m y
 have run:∀u,(∀cs,a.eval x≠ .agg cs)->a.eval x≠ .nilIface->(binOp op T (a.eval x) (a.eval y)).run P w=.ok u w->(execOp a.eval o).run P w=.ok (.value u) w:=λu h1 h2 h3=>by
  unfold execOp;rw[ho];simp only[IS,zae op T x y _ _ h1 h2,IT,h3,No]
 unfold zjI at h
 split at h
 ·rename_i p q ex ey
  rw[ex]at hx;rw[ey]at hy
  obtain⟨hx,kx⟩:=(hx.flat (d:=.int .i64 p) rfl).int_inv;obtain⟨hy,ky⟩:=(hy.flat (d:=.int .i64 q) rfl).int_inv;have n1:∀cs,a.eval x≠ .agg cs:=λcs e=>by rw[hx]at e;cases e
  have n2:a.eval x≠ .nilIface:=λe=>by rw[hx]at e;cases e
  have ib:∀n:Int,Rd w S pl (.int .i64 (yF n)) (.int .i64 (yF n)):=λn=>Rp.rd (.int _ _ (zbu n))
  have bb:∀b:Bool,Rd w S pl (.bool b) (.bool b):=λb=>Rp.rd (.bool b)
  split at h
  case h_1=>exact yV (run _ n1 n2 (by rw[hx,hy];rfl)) (hn _ _ _ _ _ _ h m (ib _))
  case h_2=>exact yV (run _ n1 n2 (by rw[hx,hy];rfl)) (hn _ _ _ _ _ _ h m (ib _))
  case h_3=>exact yV (run _ n1 n2 (by rw[hx,hy];rfl)) (hn _ _ _ _ _ _ h m (ib _))
  case h_4=>exact yV (run (.int .i64 (yF (p.tdiv q))) n1 n2 (by rw[hx,hy];simp[binOp,Op.intDiv,h.1];rfl)) (hn _ _ _ _ _ _ h.2 m (ib _))
  case h_5=>exact yV (run (.int .i64 (p.tmod q)) n1 n2 (by rw[hx,hy];simp[binOp,Op.intDiv,h.1])) (hn _ _ _ _ _ _ h.2 m (Rp.rd (.int _ _ (zlW kx))))
  case h_6=>exact yV (run (.bool (decide (p=q))) n1 n2 (by rw[hx,hy];rfl)) (hn _ _ _ _ _ _ h m (bb _))
  case h_7=>exact yV (run (.bool (!decide (p=q))) n1 n2 (by rw[hx,hy];rfl)) (hn _ _ _ _ _ _ h m (bb _))
  case h_8=>exact yV (run _ n1 n2 (by rw[hx,hy];rfl)) (hn _ _ _ _ _ _ h m (bb _))
  case h_9=>exact yV (run _ n1 n2 (by rw[hx,hy];rfl)) (hn _ _ _ _ _ _ h m (bb _))
  case h_10=>exact yV (run (.bool (decide (q<p))) n1 n2 (by rw[hx,hy];rfl)) (hn _ _ _ _ _ _ h m (bb _))
  case h_11=>exact yV (run (.bool (decide (q<=p))) n1 n2 (by rw[hx,hy];rfl)) (hn _ _ _ _ _ _ h m (bb _))
  case h_12=>exact h.elim
 ·rename_i p q ex ey
  rw[ex]at hx;rw[ey]at hy
  obtain⟨hx,kx⟩:=(hx.flat (d:=.int .u8 p) rfl).int_inv;obtain⟨hy,ky⟩:=(hy.flat (d:=.int .u8 q) rfl).int_inv;have n1:∀cs,a.eval x≠ .agg cs:=λcs e=>by rw[hx]at e;cases e
  have n2:a.eval x≠ .nilIface:=λe=>by rw[hx]at e;cases e
  have bb:∀b:Bool,Rd w S pl (.bool b) (.bool b):=λb=>Rp.rd (.bool b)
  split at h
  case h_1=>exact yV (run (.bool (decide (p=q))) n1 n2 (by rw[hx,hy];rfl)) (hn _ _ _ _ _ _ h m (bb _))
  case h_2=>exact yV (run (.bool (!decide (p=q))) n1 n2 (by rw[hx,hy];rfl)) (hn _ _ _ _ _ _ h m (bb _))
  case h_3=>exact yV (run _ n1 n2 (by rw[hx,hy];rfl)) (hn _ _ _ _ _ _ h m (bb _))
  case h_4=>exact yV (run _ n1 n2 (by rw[hx,hy];rfl)) (hn _ _ _ _ _ _ h m (bb _))
  case h_5=>exact yV (run (.bool (decide (q<p))) n1 n2 (by rw[hx,hy];rfl)) (hn _ _ _ _ _ _ h m (bb _))
  case h_6=>exact yV (run (.bool (decide (q<=p))) n1 n2 (by rw[hx,hy];rfl)) (hn _ _ _ _ _ _ h m (bb _))
  case h_7=>exact h.elim
 ·rename_i p q ex ey
  rw[ex]at hx;rw[ey]at hy
  obtain⟨hx,kx⟩:=(hx.flat (d:=.str p) rfl).str_inv;obtain⟨hy,ky⟩:=(hy.flat (d:=.str q) rfl).str_inv;have n1:∀cs,a.eval x≠ .agg cs:=λcs e=>by rw[hx]at e;cases e
  have n2:a.eval x≠ .nilIface:=λe=>by rw[hx]at e;cases e
  have bb:∀b:Bool,Rd w S pl (.bool b) (.bool b):=λb=>Rp.rd (.bool b)
  have eqs:(p.toList==q.toList)=decide (p=q):=by
   rw[Aap];simp only[beq_iff_eq,decide_eq_true_eq];refine⟨λe=> ?_,λe=>by rw[e]⟩
   apply ByteArray.ext;apply Array.ext';rw[Abo,Abo]at e;exact e
  split at h
  case h_1=>exact yV (run (.bool (decide (p=q))) n1 n2 (by rw[hx,hy,<-eqs];rfl)) (hn _ _ _ _ _ _ h m (bb _))
  case h_2=>exact yV (run (.bool (!decide (p=q))) n1 n2 (by rw[hx,hy,<-eqs];rfl)) (hn _ _ _ _ _ _ h m (bb _))
  case h_3=>
   refine yV (run (.string (p++q)) n1 n2 ?_) (hn _ _ _ _ _ _ h.2 m (Rp.rd (.str _ (by rw[AaX];exact h.1))))
   rw[hx,hy]
   have:¬(((p.size+q.size:Nat):Int)>IntKind.i64.max):=by
    have:IntKind.i64.max=9223372036854775807:=by decide
    rw[this];have:=h.1;omega
   simp only[binOp,Op.stringOp,An this,No]
  case h_4=>exact h.elim
 ·rename_i p q ex ey
  rw[ex]at hx;rw[ey]at hy
  have hx:=(hx.flat (d:=.bool p) rfl).bool_inv;have hy:=(hy.flat (d:=.bool q) rfl).bool_inv;have n1:∀cs,a.eval x≠ .agg cs:=λcs e=>by rw[hx]at e;cases e
  have n2:a.eval x≠ .nilIface:=λe=>by rw[hx]at e;cases e
  have bb:∀b:Bool,Rd w S pl (.bool b) (.bool b):=λb=>Rp.rd (.bool b)
  cases hm:pX T E.bools with
  |false=>rw[hm]at h;exact h.elim
  |true=>
   rw[hm,AI]at h
   have heq:(Op.equal T (.bool p) (.bool q)).run P w=.ok (p==q) w:=by
    exact run_equal_bool w T p q (F.bools T hm)
   split at h
   case h_1=>exact yV (run (.bool (p==q)) n1 n2 (by rw[hx,hy];simp only[binOp,IS,heq,IT,No])) (hn _ _ _ _ _ _ h m (bb _))
   case h_2=>exact yV (run (.bool (!(p==q))) n1 n2 (by rw[hx,hy];simp only[binOp,IS,heq,IT,No])) (hn _ _ _ _ _ _ h m (bb _))
   case h_3=>exact h.elim
 ·exact h.elim
theorem znT(m:qQ P b0 N σ a w S pl){op:UnOp}{T:AcI}{x:Operand}(ho:o.op=.unOp op T x)(h:unD op (σ.ev x) λd=>K d σ)(hn:rY P b0 N o a K next):o.wp P a w next Q:=by
 have hx:=rF m x;unfold unD at h
 split at h
 ·rename_i b e
  rw[e]at hx
  have hx:=(hx.flat (d:=.bool b) rfl).bool_inv;have hrun:(execOp a.eval o).run P w=.ok (.value (.bool !b)) w:=by unfold execOp;rw[ho];simp only[hx];rfl
  exact yV hrun (hn _ _ _ _ _ _ h m (Rp.rd (.bool _)))
 ·rename_i n e
  rw[e]at hx
  have hx:=(hx.flat (d:=.int .i64 n) rfl).int_inv.1;have hrun:(execOp a.eval o).run P w=.ok (.value (.int .i64 (yF (0-n)))) w:=by unfold execOp;rw[ho];simp only[hx];rfl
  exact yV hrun (hn _ _ _ _ _ _ h m (Rp.rd (.int _ _ (zbu _))))
 ·exact h.elim
theorem zlX(m:qQ P b0 N σ a w S pl){c:Call}(ho:o.op=.call c)(hc:c.callee=.builtin .max){x y:Operand}(ha:c.args.toList=[x,y])(h:zlQ (σ.ev x) (σ.ev y) λd=>K d σ)(hn:rY P b0 N o a K next):o.wp P a w next Q:=by
 have hx:=rF m x;have hy:=rF m y;unfold zlQ at h
 split at h
 ·rename_i p q ex ey
  rw[ex]at hx;rw[ey]at hy
  obtain⟨hx,kx⟩:=(hx.flat (d:=.int .i64 p) rfl).int_inv;obtain⟨hy,ky⟩:=(hy.flat (d:=.int .i64 q) rfl).int_inv;have ha':c.args= #[x,y]:=by apply Array.ext';simpa using ha
  have hrun:(execOp a.eval o).run P w=.ok (.value (.int .i64 (if q>p then q else p))) w:=by
   unfold execOp;rw[ho];simp only[resolve,hc,ha',invoke,builtin,Builtin.max_,AbF,Aak,AbG,hx,hy,IS,No,IT];rfl
  exact yV hrun (hn _ _ _ _ _ _ h m (Rp.rd (.int _ _ (by split<;>assumption))))
 ·exact h.elim
theorem zlY(F:sR P E)(m:qQ P b0 N σ a w S pl){src dst:AcI}{x:Operand}(ho:o.op=.convert src dst x)(h:zha E src dst (σ.ev x) λd=>K d σ)(hn:rY P b0 N o a K next):o.wp P a w next Q:=by
 have hx:=rF m x;unfold zha at h
 cases hs:yG src E.ints with
 |none=>
  rw[hs]at h
  simp only at h
  split at h
  ·rename_i e xs hl ex
   split at h
   ·rename_i hi hd
    rw[ex]at hx
    have hv:=(hx.flat (d:=.sl .byte xs) rfl).sl_inv;obtain⟨A0,c,e1,hok⟩:=rN hv;rw[e1]at hv
    have hus:=(F.sl src e .byte hl).und;have hue:=F.ints e .u8 hi;have hud:=F.strs dst hd
    have hc:(convert src dst (a.eval x)).run P w=.ok (.string ⟨xs.toArray⟩) w:=by
     rw[e1];cases A0 with
     |none=>
      have hx0:xs=[]:=by
       cases xs with
       |nil=>rfl
       |cons y r=>obtain⟨b,o',cs,h0,_⟩:=Kb hv (i:=0) (by simp);cases h0
      subst hx0;exact run_convert_bytes_nil w src e hus hue _ _ dst hud
     |some ad=>
      refine run_convert_bytes_back w src dst e ad c xs hus hue hud λj hj=> ?_
      obtain⟨b,o',cs,h0,_,hr,hcell⟩:=Kb hv hj;injection h0 with h0;subst h0
      have hr:cs=[.int .u8 (xs[j].toNat:Int)]:=hr;subst hr;have:=hcell 0 _ rfl;rw[Addr.add_lit];simpa[vV.size]using this
    have hrun:(execOp a.eval o).run P w=.ok (.value (.string ⟨xs.toArray⟩)) w:=by
     unfold execOp;rw[ho];simp only[IS,hc,IT,No]
    refine yV hrun (hn _ _ _ _ _ _ h m (Rp.rd (.str _ ?_)));have:=hok.bytes;show xs.toArray.size<=_
    simpa[vV.bytes]using this
   ·exact h.elim
  ·exact h.elim
 |some ks=>
 rw[hs]at h
 have hus:=F.ints src ks hs;simp only at h
 split at h
 ·rename_i k n hl e
  rw[e]at hx
  have hx:=(hx.flat (d:=.int k n) rfl).int_inv.1
  have hrun:(execOp a.eval o).run P w=.ok (.value (.int .i64 (yF n))) w:=by
   unfold execOp;rw[ho];simp only[hx,convert,IS,run_underlying hus,run_underlying (F.ints dst _ hl),IT,Conv.intToInt,No]
   try rfl
  exact yV hrun (hn _ _ _ _ _ _ h m (Rp.rd (.int _ _ (zbu _))))
 ·rename_i k n hl e
  rw[e]at hx
  have hx:=(hx.flat (d:=.int k n) rfl).int_inv.1
  have hrun:(execOp a.eval o).run P w=.ok (.value (.int .u8 (IntKind.u8.wrap n))) w:=by
   unfold execOp;rw[ho];simp only[hx,convert,IS,run_underlying hus,run_underlying (F.ints dst _ hl),IT,Conv.intToInt,No]
   try rfl
  exact yV hrun (hn _ _ _ _ _ _ h m (Rp.rd (.int _ _ (znc _))))
 ·exact h.elim
end
section lists
variable {α β:Type}{R:α->β->Prop}
def spl(l:List α)(off:Nat)(new:List α):List α:=l.take off++new++l.drop (off+new.length)
theorem Db{l:List α}{off:Nat}{new:List α}(h:off+new.length<=l.length):(spl l off new).length=l.length:=by
 unfold spl;simp only[It,Aaf,Aa1];omega
theorem Jv{l:List α}{off:Nat}{new:List α}(h:off+new.length<=l.length)(j:Nat):(spl l off new)[j]? =if off<=j/\j<off+new.length then new[j-off]? else l[j]? :=by
 unfold spl
 by_cases h1:j<off
 ·rw[An (by omega),AaH,AaO (by simp;omega),Abx,As h1]
 ·by_cases h2:j<off+new.length
  ·rw[As ⟨by omega,h2⟩,AaH,AaG (by simp;omega),Aaf,AaO (by omega)]
   congr 1;omega
  ·rw[An (by omega),AaG (by simp;omega),Abw]
   congr 1;simp;omega
theorem wF.get_{xs:List α}{ys:List β}(h:wF R xs ys)(i:Nat)(a:α)(b:β)(ha:xs[i]? =some a)(hb:ys[i]? =some b):R a b:=by
 obtain⟨a',ha',hr⟩:=h.at hb;rw[ha]at ha';injection ha' with e;rw[e];exact hr
theorem wF.spl{l:List α}{l':List β}{off:Nat}{new:List α}{new':List β}(h:wF R l l')(hn:wF R new new')(hle:off+new'.length<=l'.length):wF R (spl l off new) (Go.Proofs.YtogdmcebojiojaaGreatDoor.spl l' off new'):=by
 have e1:=h.len;have e2:=hn.len;refine wF.of (by rw[Db (by omega),Db hle,e1]) λi a b ha hb=> ?_
 rw[Jv (by omega)]at ha
 rw[Jv hle]at hb
 rw[e2]at ha
 split at ha
 ·rename_i hc;rw[As hc]at hb;exact hn.get_ _ a b ha hb
 ·rename_i hc;rw[An hc]at hb;exact h.get_ _ a b ha hb
theorem wF.take:∀ {xs:List α} {ys:List β} (n:Nat),wF R xs ys->wF R (xs.take n) (ys.take n)
 |_,_,0,_=>by simp;exact .nil
 |_,_,n+1,.nil=> .nil
 |_,_,n+1,.cons h hs=> .cons h (hs.take n)
theorem wF.drop:∀ {xs:List α} {ys:List β} (n:Nat),wF R xs ys->wF R (xs.drop n) (ys.drop n)
 |_,_,0,h=>by simpa using h
 |_,_,n+1,.nil=> .nil
 |_,_,n+1,.cons h hs=>by simpa using hs.drop n
theorem OL{s:Nat}(hs:0<s):∀(css:List (List α)) (_:∀cs∈css,cs.length=s) (j:Nat),css.flatten[j]? =(css[j/s]?).bind λc=>c[j%s]?
 |[],_,j=>by simp
 |c::css,hl,j=>by
  have hc:c.length=s:=hl c (by simp)
  rw[Aa6]
  by_cases h:j<s
  ·rw[AaO (by omega),Nat.div_eq_of_lt h,Nat.mod_eq_of_lt h];rfl
  ·rw[AaG (by omega),OL hs css (λcs hcs=>hl cs (by simp[hcs])) (j-c.length),hc]
   have e1:j/s=(j-s)/s+1:=by rw[Nat.div_eq_sub_div hs (by omega)]
   have e2:(j-s)%s=j%s:=(Nat.mod_eq_sub_mod (by omega)).symm
   rw[e1,e2];rfl
end lists
section
variable {P:AcJ}{E:TE}{A:wG}{b0:Tx}{w w':World}{S S':Nat->Prop}{pl pl':Nat->Value}{N:Nat}{σ:St}{a:Act}{v:Value}{d:D}{o:Oper}{K:D->St->Prop}{next:Act->World->Prop}{Q:Exit->Act->World->Prop}
theorem VH{vs:Array Value}{cs:AcO}{R:Value->D->Prop}(h:wF R vs.toList cs)(i:Nat)(d:D)(hd:cs[i]? =some d):R (vs.getD i undef) d:=by
 obtain⟨u,hu,hr⟩:=h.at hd;rw[Aae];rw[AaE]at hu;rw[hu];exact hr
theorem My{vs:Array Value}{cs:AcO}{R:Value->D->Prop}(hl:vs.size=cs.length)(h:∀i d,cs[i]? =some d->R (vs.getD i undef) d):wF R vs.toList cs:=
 wF.of (by simpa using hl) λi u d hu hd=>by
  have:=h i d hd;rw[AaE]at hu
  rw[Aae,hu]at this;exact this
theorem Jw(F:sR P E){T:AcI}{ag:Bool}{zs:AcO}(hl:yG T E.zs=some (ag,zs)){u:Value}{new:AcO}(hu:wF (Rc w S pl) u.cells.toList new)(hn:new.length=zs.length)(hc:new.all fC=true)
  {b off:Nat} {cur:Array Value} {E':AcI} (hg:w.heap[b]? =some (.cells cur E' (0,0))) (hle:off+new.length<=cur.size):
  (storeVar T ⟨b,off,none⟩ u).run P w=.ok () (w.setRow b (spl cur.toList off u.cells.toList).toArray):=by
 obtain⟨i,z,ud,hi,hz,hsz,_⟩:=(F.zs T ag zs hl).ex;have hlen:=hu.len;have hs:(sizeOf T).run P w=.ok zs.length w:=by simp[sizeOf,typeInfo,hi,hsz]
 have h1:∀v∈u.cells.toList,v.oneCell'=true:=λv hv=>by
  obtain⟨j,hj,rfl⟩:=Aal hv;have hj':j<new.length:=by omega
  exact(hu.get_ j _ new[j] (Aac hj) (Aac hj')).2 (Aao.1 hc _ (AS hj'))
 have:=run_storeCells_at (P:=P) b off E' u.cells.toList 0 cur w hg (by omega) h1
 simp only[Nat.add_zero]at this
 simp only[storeVar,IS,hs,IT];rw[An (by simp only[Acc]at hlen;omega)]
 exact this
theorem Rc.mono{u:Value}(h:Rc w S pl u d)(hk:∀b,S b->w'.heap[b]? =w.heap[b]?)(hS:∀b,S b->S' b):Rc w' S' pl u d:=⟨h.1.mono hk hS λ_ _=>rfl,h.2⟩
theorem zlZ{b:Bool}{vs:List Value}{new:AcO}{K:AcO->Prop}(hc:wF (Rc w S pl) vs new)(h:zia b new K):∃new,wF (Rc w S pl) vs new/\K new:=by
 unfold zia at h
 split at h
 ·split at h
  ·rename_i t xs
   cases hc with|cons h1 h2=>
   cases h2;obtain⟨A',c,e,hok⟩:=rN ((h1.1.flat (d:=.sl t xs) rfl).sl_inv);refine⟨_,.cons ⟨Rp.rd (.slN t xs false _ ((h1.1.flat (d:=.sl t xs) rfl).sl_inv) (λ_ hv=> ?_) λe=>by cases e),λ_=>by rw[e];rfl⟩ .nil,h.2⟩
   rw[e]at hv
   injection hv with _ hv
   have h3:=h.1;have:xs.length≠0:=λe=>h3 (AaS.1 e)
   omega
  ·exact⟨_,hc,h⟩
 ·exact⟨_,hc,h⟩
theorem B4{ds:AcO}{off:Nat}{new:AcO}(hn:new.all fC=true)(h:Vz (OE ds off new)=true):Vz ds=true:=by
 unfold OE at h
 cases ds with
 |nil=>
  simp only[List.take_nil,Aby,List.drop_nil,Aa2]at h
  cases new with
  |nil=>exact h
  |cons d r=>
   have h1:Zv d=true:=h;have h2:fC d=true:=Aao.1 hn d Ks;cases d<;>first|(cases h1;done)|(cases h2;done)
 |cons a r=>
  cases off with
  |zero=>
   simp only[Abp,Aby,Aas]at h
   cases new with
   |nil=>exact h
   |cons d r=>
    have h1:Zv d=true:=h;have h2:fC d=true:=Aao.1 hn d Ks;cases d<;>first|(cases h1;done)|(cases h2;done)
  |succ off=>exact h
theorem zjS(F:sR P E)(m:qQ P b0 N σ a w S pl){T:AcI}{x y:Operand}(ho:o.op=.store T x y)(h:zby E A T (σ.ev x) (σ.ev y) σ K)(hn:rY P b0 N o a K next):o.wp P a w next Q:=by
 have hx:=rF m x;have hy:=Hj (E:=E) T (rF m y)
 have run:∀b off w',a.eval x=.pointer (some ⟨b,off,none⟩)->(storeVar T ⟨b,off,none⟩ (a.eval y)).run P w=.ok () w'->(execOp a.eval o).run P w=.ok .skip w':=λb off w' e h=>by
  unfold execOp;rw[ho];simp only[Instr.storeAt,e,Instr.sureAddr,IS,No,IT,h]
 unfold zby at h
 split at h
 ·rename_i ag zs hl
  split at h
  ·exact h.elim
  ·rename_i new hnew
   have hc:=Hk m hy hnew;obtain⟨new,hc,h⟩:=zlZ hc h;cases hb:Nat.beq new.length zs.length&&new.all fC with
   |false=>rw[hb]at h;exact h.elim
   |true=>
    rw[hb,AI]at h
    simp only[If]at hb
    have hlen:=xG.1 hb.1;split at h
    ·rename_i k off ex
     rw[ex]at hx
     obtain⟨b,hp,hv⟩:=hx;split at h
     ·rename_i ds hob
      cases hle:Nat.ble (off+new.length) ds.length with
      |false=>rw[hle]at h;exact h.elim
      |true=>
       rw[hle,AI]at h
       have hle:=Aat hle;obtain⟨b',vs,E',e1,e2,e3,e4,e5⟩:=m.hp k _ hob;rw[hp]at e1;injection e1 with e1;injection e1 with e1;injection e1 with e1;subst e1
       have hrun:=Jw F hl hc hlen hb.2 e2 (off:=off) (by omega)
       have hds:=My e3 e4;have hS:∀c,S c->(w.setRow b (spl vs.toList off (a.eval y).cells.toList).toArray).heap[c]? =w.heap[c]? :=λc hc=>setRow_other _ _ _ _ λe=>(m.priv k _ b hob (by rw[hp];rfl)).2.2 (e▸hc)
       refine zfp (run b off _ hv hrun) (hn _ _ _ _ _ _ h (m.setOb (b:=b) hob (by rw[hp];rfl) (λc hc=>setRow_other _ _ _ _ hc) (setRow_size _ _ _) ⟨rfl,rfl,rfl⟩ ?_) kH)
       have hspl:wF (Rd w S pl) (spl vs.toList off (a.eval y).cells.toList) (OE ds off new):=wF.spl hds (hc.imp λ_ _ h=>h.1) hle
       refine⟨b,_,E',hp,setRow_heap w b vs _ E' (0,0) e2,by simpa using hspl.len,λi d hd=> ?_,λhh=>by
        rw[show(OE ds off new).length=ds.length from by unfold OE;simp;omega]
        exact e5 (B4 hb.2 hh)⟩
       exact(VH (R:=Rd w S pl) (by simpa using hspl) i d hd).mono hS (λ_ h=>h) λ_ _=>rfl
     ·exact h.elim
    ·rename_i k sz i off ex
     rw[ex]at hx
     obtain⟨b,n,c,hp,hi,hv⟩:=hx;obtain⟨σ',new',S',hK,hS,m',hv'⟩:=oE h m;have hnew':=hv' _ (hc.imp λ_ _ h=>h.1)
     split at hK
     ·rename_i e t xs hob
      cases hz:Nat.beq sz t.size with
      |false=>rw[hz]at hK;exact hK.elim
      |true=>
       rw[hz,AI]at hK
       have hsz:=xG.1 hz;split at hK
       ·rename_i z hof
        cases hle:Nat.ble (off+new'.length) t.size with
        |false=>rw[hle]at hK;exact hK.elim
        |true=>
         rw[hle,AI]at hK
         have hle:=Aat hle;obtain⟨q0,css,q1,q2,q3,q4⟩:=m'.hp k _ hob;rcases q2.2 with⟨e0,_⟩|⟨g,cap,cur,ep,_,hg,hcap,hmax,hcur,htake⟩
         ·rw[hp]at e0;cases e0
         ·have ep':=ep
          rw[hp]at ep';injection ep' with ep1 ep2 ep3;injection ep1 with ep1;injection ep1 with ep1;subst ep1 ep2
          have hspos:0<t.size:=by rw[Ty.size_eq];exact vV.pos
          have hnl:new'.length=new.length:=by rw[<-hnew'.len,hc.len]
          have hmul:i*t.size+t.size<=xs.length*t.size:=by
           have:=Abf t.size (Nat.succ_le_of_lt hi);rw[Abm]at this;exact this
          have hmul2:xs.length*t.size<=cap*t.size:=Abf _ hcap;have hrun:=Jw F hl hc hlen hb.2 hg (off:=i*sz+off) (by rw[hsz];omega)
          generalize hvl:(a.eval y).cells.toList=vl at hrun hnew' hc
          have hvlen:vl.length=new'.length:=hnew'.len;have hci:css[i]? =some (css[i]'(by omega)):=Aac (by omega)
          have hclen:(css[i]'(by omega)).length=t.size:=q3 _ (AS _)
          have hS':∀c,S' c->(w.setRow b (spl cur.toList (i*sz+off) vl).toArray).heap[c]? =w.heap[c]? :=λc hc=>setRow_other _ _ _ _ λe=>(m'.priv k _ b hob (by rw[hp];rfl)).2.2 (e▸hc)
          refine zfp (run b _ _ hv hrun) (hn _ _ _ _ _ _ hK (m'.setOb (b:=b) hob (by rw[hp];rfl) (λc hc=>setRow_other _ _ _ _ hc) (setRow_size _ _ _) ⟨rfl,rfl,rfl⟩ ?_) kH)
          have hold:wF (Rp w S') (css[i]'(by omega)) (cells t (xs.getD i t.dflt)):=by
           rw[Aam,Aac hi,AbT];exact jX t (q4 i xs[i] _ (Aac hi) hci)
          have hz':vV.rd w S' (spl (css[i]'(by omega)) off vl) z:=OD t hof (wF.spl hold hnew' (by rw[<-hold.len,hclen];exact hle))
          have hclen1:(spl (css[i]'(by omega)) off vl).length=t.size:=by rw[Db (by omega),hclen]
          have hlcss:∀cs∈css.set i (spl (css[i]'(by omega)) off vl),cs.length=t.size:=λcs hcs=>by
           rcases List.mem_or_eq_of_mem_set hcs with h|rfl
           ·exact q3 _ h
           ·exact hclen1
          refine⟨by simpa using q0,css.set i (spl (css[i]'(by omega)) off vl),by simpa using q1,⟨?_,.inr ⟨b,cap,(spl cur.toList (i*sz+off) vl).toArray,by rw[Aaw];exact ep,AT _,setRow_heap w b cur _ e (0,0) hg,by simpa using hcap,hmax,?_,?_⟩⟩,hlcss,λj x cs hx hcs=> ?_⟩
          ·rw[UB _ hlcss];simp[q1]
          ·rw[AaT,Db (by simp;rw[hsz];omega)];simpa using hcur
          ·apply Acd
           intro j;rw[Aaw,Abx]
           by_cases hj:j<xs.length*t.size
           ·rw[As hj]
            simp only[List.toList_toArray];rw[Jv (by simp;rw[hsz];omega),OL hspos _ hlcss]
            have hcurj:cur.toList[j]? =(css[j/t.size]?).bind λc=>c[j%t.size]? :=by
             rw[<-OL hspos css q3 j,<-htake,Abx,As hj]
            have hdm:j/t.size*t.size+j%t.size=j:=by rw[Nat.mul_comm];exact Nat.div_add_mod _ _
            have hmod:j%t.size<t.size:=Nat.mod_lt _ hspos;generalize hq:j/t.size=q at*
            generalize hr:j%t.size=r at*
            by_cases hqi:q=i
            ·subst hqi
             rw[List.getElem?_set_self (by omega)]
             simp only[AbH];rw[Jv (by omega),hsz]
             by_cases hin:off<=r/\r<off+vl.length
             ·rw[As (by omega),As hin];congr 1;omega
             ·rw[An (by omega),An hin,hcurj,hci];rfl
            ·rw[List.getElem?_set_ne (Ne.symm hqi),hsz]
             rw[An,hcurj];intro hin;rcases Aa8 q i with h1|h1
             ·have:=Abf t.size (Nat.succ_le_of_lt h1)
              rw[Abm]at this;omega
             ·have:=Abf t.size (Nat.succ_le_of_lt (Nat.lt_of_le_of_ne h1 (Ne.symm hqi)))
              rw[Abm]at this;omega
           ·rw[An hj,AbU]
            rw[UB _ hlcss];simp[q1];omega
          ·by_cases hji:j=i
           ·subst hji
            rw[List.getElem?_set_self hi]at hx
            rw[List.getElem?_set_self (by omega)]at hcs
            injection hx with hx;injection hcs with hcs;subst hx hcs
            exact vV.mono hz' hS' λ_ h=>h
           ·rw[List.getElem?_set_ne (Ne.symm hji)]at hx hcs
            exact vV.mono (q4 j x cs hx hcs) hS' λ_ h=>h
       ·exact hK.elim
     ·exact hK.elim
    ·exact h.elim
 ·exact h.elim
end
end Go.Proofs.YtogdmcebojiojaaGreatDoor
