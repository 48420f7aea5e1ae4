/- Texts of this proof, one behind the other: nothing is handed in but what is proved here; no condition. -/
import Derived.WalkKit
import Derived.Lib.Hide
import Derived.WalkLawsBesides
import Derived.WalkSpells
import Derived.Deep.QuietTactic
import Derived.BigQuiet
import Derived.Deep.RegionWith
import Derived.Deep.RegionLaw
import Derived.StillTailTactics
import Derived.Handy
import Derived.Deep.LoopGhost
import Derived.Deep.DeepFit
import Derived.Deep.DeepMust
import Derived.Shelf.Abstract
import Derived.Maps.AppendAt
import Derived.Deep.AppendLies
import Derived.OwnWalk
import Derived.IntWalk
import Derived.Lib.LaidTab
import Derived.Lib.ItoaNum
import Derived.Laws.StructEq
set_option linter.unusedSectionVars false
namespace Go.Proofs.YteimklbiapnfhaaGreat
open Go.RowKit
set_option linter.unusedVariables false
set_option linter.unusedSimpArgs false
class xT (α:Type) where
 size:Nat
 bytes:Nat
 rd:World→(Nat→Prop)→List Value→α→Prop
 len:∀ {w:World} {S:Nat→Prop} {cs:List Value} {x:α},rd w S cs x→cs.length=size
 one:∀ {w:World} {S:Nat→Prop} {cs:List Value} {x:α},rd w S cs x→∀u∈cs,u.oneCell'=true
 mono:∀ {w w':World} {S S':Nat→Prop} {cs:List Value} {x:α},rd w S cs x→(∀b,S b→w'.heap[b]? =w.heap[b]?)→(∀b,S b→S' b)→rd w' S' cs x
 pos:0<size
def vOf:List Value→Value
 |[v]=>v
 |cs=> .agg cs.toArray
def OW{α:Type}[xT α](w:World)(S:Nat→Prop)(cs:List Value)(x:α):Prop:=xT.rd w S cs x
def cB{α:Type}[xT α](w:World)(S:Nat→Prop)(v:Value)(x:α):Prop:=∃cs,v=vOf cs∧xT.rd w S cs x
def Rds{α:Type}[xT α](w:World)(v:Value)(x:α):Prop:=cB w (λb=>b<w.heap.size) v x
def vK(n:Int):Prop:= -9223372036854775808≤n∧n≤9223372036854775807
instance xT.int:xT Int where
 size:=1
 bytes:=8
 rd _ _ cs x:=cs=[.int .i64 x]∧vK x
 len:=λh=>by rw[h.1];rfl
 one:=λh u hu=>by rw[h.1]at hu;simp at hu;subst hu;rfl
 mono:=λh _ _=>h
 pos:=by decide
instance xT.str:xT ByteArray where
 size:=1
 bytes:=16
 rd _ _ cs x:=cs=[.string x]∧x.size≤140737488355328
 len:=λh=>by rw[h.1];rfl
 one:=λh u hu=>by rw[h.1]at hu;simp at hu;subst hu;rfl
 mono:=λh _ _=>h
 pos:=by decide
instance xT.list {α:Type}[xT α]:xT (List α) where
 size:=1
 bytes:=24
 rd w S cs xs:=∃A c,cs=[.slice A xs.length c]∧xs.length*xT.bytes α≤140737488355328∧xs.length≤c∧c≤9223372036854775807∧
  (A=none→c=0)∧(0<xs.length→∃b o,A=some ⟨b,o,none⟩∧S b∧∀i x,xs[i]? =some x→∃cs,xT.rd w S cs x∧∀j u,cs[j]? =some u→w.cell? ⟨b,o+i*xT.size α+j,none⟩=some u)
 len:=λ⟨_,_,h,_⟩=>by rw[h];rfl
 one:=λ⟨_,_,h,_⟩ u hu=>by rw[h]at hu;simp at hu;subst hu;rfl
 mono:=fun {w w' S S' cs xs} ⟨A,c,h,h0,h1,h2,h3,h4⟩ hk hS=>⟨A,c,h,h0,h1,h2,h3,λhn=>by
  obtain⟨b,o,e,hb,hc⟩:=h4 hn;refine⟨b,o,e,hS b hb,λi x hx=> ?_⟩
  obtain⟨cs,hr,hcell⟩:=hc i x hx;exact⟨cs,xT.mono hr hk hS,λj u hu=>(World.cell?_of_block (hk b hb)).trans (hcell j u hu)⟩⟩
 pos:=by decide
section
variable {α:Type}[xT α]{w w':World}{S S':Nat→Prop}{v:Value}{x:α}
theorem OW.mono{cs:List Value}(h:OW w S cs x)(hk:∀b,S b→w'.heap[b]? =w.heap[b]?)(hS:∀b,S b→S' b):OW w' S' cs x:=xT.mono (α:=α) h hk hS
theorem cB.mono(h:cB w S v x)(hk:∀b,S b→w'.heap[b]? =w.heap[b]?)(hS:∀b,S b→S' b):cB w' S' v x:=
 let⟨cs,e,hr⟩:=h
 ⟨cs,e,xT.mono hr hk hS⟩
theorem Rds.below(h:Rds w v x)(hb:Below w.heap.size w w'):Rds w' v x:=cB.mono h (λb hb'=>hb.block b hb') (λb hb'=>Nat.lt_of_lt_of_le hb' hb.size)
theorem cB.rds(h:cB w S v x)(hS:∀b,S b→b<w.heap.size):Rds w v x:=cB.mono h (λ_ _=>rfl) hS
theorem OW.val{cs:List Value}(h:OW w S cs x):cB w S (vOf cs) x:=⟨cs,rfl,h⟩
end
def Ra{α:Type}[xT α](w:World)(B:Nat)(v:Value)(x:α):Prop:=cB w (λb=>B≤b∧b<w.heap.size) v x
section
variable {α:Type}[xT α]{w w':World}{B B':Nat}{v:Value}{x:α}
theorem Ra.rds(h:Ra w B v x):Rds w v x:=cB.rds h λ_ hb=>hb.2
theorem Ra.below(h:Ra w B v x)(hb:Below w.heap.size w w'):Ra w' B v x:=
 cB.mono h (λb hb'=>hb.block b hb'.2) (λb hb'=>⟨hb'.1,Nat.lt_of_lt_of_le hb'.2 hb.size⟩)
theorem Ra.more(h:Ra w B v x)(hB:B'≤B):Ra w B' v x:=
 cB.mono h (λ_ _=>rfl) (λb hb'=>⟨Nat.le_trans hB hb'.1,hb'.2⟩)
end
section
variable {w:World}{S:Nat→Prop}{v:Value}
theorem zlR{x:ByteArray}(h:cB w S v x):v=.string x∧x.size≤140737488355328:=by
 obtain⟨cs,rfl,rfl,h2⟩:=h;exact⟨rfl,h2⟩
theorem zdZ{x:ByteArray}(h:x.size≤140737488355328):cB w S (.string x) x:=⟨[_],rfl,rfl,h⟩
structure zom {α:Type}[xT α](A:Option Addr)(c:Nat)(xs:List α):Prop where
 bytes:xs.length*xT.bytes α≤140737488355328
 cap:xs.length≤c
 max:c≤9223372036854775807
 none_:A=none→c=0
theorem sZ{α:Type}[xT α]{xs:List α}(h:cB w S v xs):∃A c,v=.slice A xs.length c∧zom A c xs:=by
 obtain⟨cs,rfl,A,c,rfl,h0,h1,h2,h3,_⟩:=h;exact⟨A,c,rfl,h0,h1,h2,h3⟩
theorem Qa{α:Type}[xT α]{xs:List α}{A:Option Addr}{n c:Nat}(h:cB w S (.slice A n c) xs){i:Nat}(hi:i<xs.length):
  ∃b o cs,A=some ⟨b,o,none⟩∧S b∧OW w S cs xs[i]∧∀j u,cs[j]? =some u→w.cell? ⟨b,o+i*xT.size α+j,none⟩=some u:=by
 obtain⟨cs,e,A',c',rfl,h0,h1,h2,h3,h4⟩:=h;simp only[vOf,Value.slice.injEq]at e
 obtain⟨rfl,rfl,rfl⟩:=e;obtain⟨b,o,rfl,hb,hc⟩:=h4 (by omega)
 obtain⟨cs,hr,hcell⟩:=hc i xs[i] (List.getElem?_eq_getElem hi);exact⟨b,o,cs,rfl,hb,hr,hcell⟩
theorem zd0{xs:List ByteArray}{A:Option Addr}{n c:Nat}(h:cB w S (.slice A n c) xs){i:Nat}(hi:i<xs.length):
  ∃b o,A=some ⟨b,o,none⟩∧S b∧w.cell? ⟨b,o+i,none⟩=some (.string xs[i])∧xs[i].size≤140737488355328:=by
 obtain⟨b,o,cs,rfl,hb,⟨rfl,hr⟩,hc⟩:=Qa h hi;exact⟨b,o,rfl,hb,by simpa[xT.size]using hc 0 _ rfl,hr⟩
end
structure Tok where
 kind:Int
 at_:Int
 text:ByteArray
 deriving DecidableEq
instance xT.tok:xT Tok where
 size:=3
 bytes:=32
 rd _ _ cs x:=cs=[.int .i64 x.kind,.int .i64 x.at_,.string x.text]∧vK x.kind∧vK x.at_∧x.text.size≤140737488355328
 len:=λh=>by rw[h.1];rfl
 one:=λh u hu=>by rw[h.1]at hu;simp at hu;rcases hu with rfl|rfl|rfl<;>rfl
 mono:=λh _ _=>h
 pos:=by decide
structure zC where
 var:Int
 op:Int
 n:Int
 deriving DecidableEq
instance xT.lit:xT zC where
 size:=3
 bytes:=24
 rd _ _ cs x:=cs=[.int .i64 x.var,.int .i64 x.op,.int .i64 x.n]∧vK x.var∧vK x.op∧vK x.n
 len:=λh=>by rw[h.1];rfl
 one:=λh u hu=>by rw[h.1]at hu;simp at hu;rcases hu with rfl|rfl|rfl<;>rfl
 mono:=λh _ _=>h
 pos:=by decide
structure vF where
 name:ByteArray
 lo:Int
 hi:Int
 deriving DecidableEq
instance xT.var:xT vF where
 size:=3
 bytes:=32
 rd _ _ cs x:=cs=[.string x.name,.int .i64 x.lo,.int .i64 x.hi]∧x.name.size≤140737488355328∧vK x.lo∧vK x.hi
 len:=λh=>by rw[h.1];rfl
 one:=λh u hu=>by rw[h.1]at hu;simp at hu;rcases hu with rfl|rfl|rfl<;>rfl
 mono:=λh _ _=>h
 pos:=by decide
structure zQ where
 kind:Int
 vars:List Int
 consts:List Int
 n:Int
 rows:List (List Int)
 lits:List zC
 deriving DecidableEq
instance xT.con:xT zQ where
 size:=6
 bytes:=112
 rd w S cs x:=∃v1 v2 v3 v4,cs=[.int .i64 x.kind,v1,v2,.int .i64 x.n,v3,v4]∧vK x.kind∧vK x.n∧
  OW w S [v1] x.vars∧OW w S [v2] x.consts∧OW w S [v3] x.rows∧OW w S [v4] x.lits
 len:=λ⟨_,_,_,_,h,_⟩=>by rw[h];rfl
 one:=λ⟨_,_,_,_,h,_,_,h1,h2,h3,h4⟩ u hu=>by
  rw[h]at hu;simp at hu
  rcases hu with rfl|rfl|rfl|rfl|rfl|rfl
  ·rfl
  ·exact xT.one h1 _ (by simp)
  ·exact xT.one h2 _ (by simp)
  ·rfl
  ·exact xT.one h3 _ (by simp)
  ·exact xT.one h4 _ (by simp)
 mono:=λ⟨v1,v2,v3,v4,h,a,b,h1,h2,h3,h4⟩ hk hS=>⟨v1,v2,v3,v4,h,a,b,h1.mono hk hS,h2.mono hk hS,h3.mono hk hS,h4.mono hk hS⟩
 pos:=by decide
structure zF where
 vars:List vF
 cons:List zQ
 goal:Int
 var:Int
 deriving DecidableEq
instance xT.mdl:xT zF where
 size:=4
 bytes:=64
 rd w S cs x:=∃v1 v2,cs=[v1,v2,.int .i64 x.goal,.int .i64 x.var]∧vK x.goal∧vK x.var∧OW w S [v1] x.vars∧OW w S [v2] x.cons
 len:=λ⟨_,_,h,_⟩=>by rw[h];rfl
 one:=λ⟨_,_,h,_,_,h1,h2⟩ u hu=>by
  rw[h]at hu;simp at hu
  rcases hu with rfl|rfl|rfl|rfl
  ·exact xT.one h1 _ (by simp)
  ·exact xT.one h2 _ (by simp)
  ·rfl
  ·rfl
 mono:=λ⟨v1,v2,h,a,b,h1,h2⟩ hk hS=>⟨v1,v2,h,a,b,h1.mono hk hS,h2.mono hk hS⟩
 pos:=by decide
section
variable {w:World}{S:Nat→Prop}{v:Value}
theorem zcb{α:Type}[xT α]{xs:List α}(h:OW w S [v] xs):∃A c,v=.slice A xs.length c∧zom A c xs∧cB w S (.slice A xs.length c) xs:=by
 obtain⟨A,c,e,h0,h1,h2,h3,h4⟩:=h;simp only[List.cons.injEq,and_true]at e
 subst e;exact⟨A,c,rfl,⟨h0,h1,h2,h3⟩,[_],rfl,A,c,rfl,h0,h1,h2,h3,h4⟩
theorem I9{α:Type}[xT α]{xs:List α}(h:cB w S v xs):OW w S [v] xs:=by
 obtain⟨cs,rfl,A,c,rfl,h'⟩:=h;exact⟨A,c,rfl,h'⟩
theorem NU{xs:List Tok}{A:Option Addr}{n c:Nat}(h:cB w S (.slice A n c) xs){i:Nat}(hi:i<xs.length):
  ∃b o,A=some ⟨b,o,none⟩∧S b∧w.cell? ⟨b,o+i*3,none⟩=some (.int .i64 xs[i].kind)∧w.cell? ⟨b,o+i*3+1,none⟩=some (.int .i64 xs[i].at_)∧w.cell? ⟨b,o+i*3+2,none⟩=some (.string xs[i].text)∧
   vK xs[i].kind∧vK xs[i].at_∧xs[i].text.size≤140737488355328:=by
 obtain⟨b,o,cs,rfl,hb,⟨rfl,hr⟩,hc⟩:=Qa h hi;exact⟨b,o,rfl,hb,by simpa[xT.size]using hc 0 _ rfl,by simpa[xT.size]using hc 1 _ rfl,by simpa[xT.size]using hc 2 _ rfl,hr⟩
end
def vE(w:World)(g:Nat)(t:TypeId)(cs:Array Value):Prop:=w.heap[g]? =some (.cells cs t (0,0))
section
variable {w w':World}{g:Nat}{t:TypeId}{cs:Array Value}
theorem vE.lt(h:vE w g t cs):g<w.heap.size:=by
 rcases Nat.lt_or_ge g w.heap.size with hlt|hge
 ·exact hlt
 ·unfold vE at h;rw[Array.getElem?_eq_none hge]at h;cases h
theorem vE.cell(h:vE w g t cs)(i:Nat):w.cell? ⟨g,i,none⟩=cs[i]? :=cell_of_row w g i cs t (0,0) h
theorem vE.frozen(h:vE w g t cs)(i:Nat):w.frozen? ⟨g,i,none⟩=false:=by
 unfold vE at h
 simp[World.frozen?,h]
theorem vE.new(w:World)(t:TypeId)(cs:Array Value):vE (w.alloc (.cells cs t)) w.heap.size t cs:=heap_alloc_new w _
theorem vE.drew(h:vE w g t cs):vE w.drew g t cs:=h
theorem vE.drewN(h:vE w g t cs)(n:Nat):vE (w.drewN n) g t cs:=h
theorem vE.alloc(h:vE w g t cs)(o:Obj):vE (w.alloc o) g t cs:=(Below.heap_alloc w o g h.lt).trans h
theorem vE.set_(h:vE w g t cs)(i:Nat)(u:Value):vE (w.setCell ⟨g,i,none⟩ u) g t (cs.setIfInBounds i u):=by
 unfold vE at h⊢
 simp[World.setCell,Array.getElem?_modify,h]
theorem vE.far(h:vE w g t cs){p:Addr}(hp:g≠p.block)(u:Value):vE (w.setCell p u) g t cs:=(Below.heap_setCell w p u g hp).trans h
theorem vE.below{B:Nat}(h:vE w g t cs)(hb:Below B w w')(hg:g<B):vE w' g t cs:=(hb.block g hg).trans h
theorem vE.grown{row:Option Nat}(h:vE w g t cs)(hb:w.grownBy w' row)(hg:some g≠row):vE w' g t cs:=(hb.block g h.lt hg).trans h
end
section
variable {a b w w':World}{row:Option Nat}{B:Nat}
theorem uP(h:Below B a w)(n:Nat):Below B a (w.drewN n):=⟨h.os,h.tape,h.output,h.size,h.block⟩
theorem M1(h:Below a.heap.size a w)(k:Below w.heap.size w w'):Below a.heap.size a w':=h.trans (k.mono h.size)
theorem NV(h:a.grownBy b row)(k:b.grownBy w row):a.grownBy w row:=
 ⟨k.os.trans h.os,k.tape.trans h.tape,k.output.trans h.output,Nat.le_trans h.size k.size,λi hi hne=>(k.block i (Nat.lt_of_lt_of_le hi h.size) hne).trans (h.block i hi hne)⟩
theorem vL(h:a.grownBy w row)(n:Nat):a.grownBy (w.drewN n) row:=⟨h.os,h.tape,h.output,h.size,h.block⟩
theorem eX(h:a.grownBy w row):a.grownBy w.drew row:=⟨h.os,h.tape,h.output,h.size,h.block⟩
theorem iR(h:a.grownBy w row)(o:Obj):a.grownBy (w.alloc o) row:=
 ⟨h.os,h.tape,h.output,Nat.le_trans h.size (by simp),λi hi hne=>(Below.heap_alloc w o i (Nat.lt_of_lt_of_le hi h.size)).trans (h.block i hi hne)⟩
theorem tL{g:Nat}(h:a.grownBy w (some g)){p:Addr}(hp:p.block=g∨a.heap.size≤p.block)(u:Value):a.grownBy (w.setCell p u) (some g):=
 ⟨h.os,h.tape,h.output,by simpa[World.setCell]using h.size,λi hi hne=>(Below.heap_setCell w p u i (by
  rintro rfl;rcases hp with hp|hp
  ·exact hne (by rw[hp])
  ·omega)).trans (h.block i hi hne)⟩
theorem gU(h:Below a.heap.size a w)(row:Option Nat):a.grownBy w row:=⟨h.os,h.tape,h.output,h.size,λi hi _=>h.block i hi⟩
theorem YD{g:Nat}(h:a.grownBy w (some g))(hB:B≤g)(hs:B≤a.heap.size):Below B a w:=⟨h.os,h.tape,h.output,h.size,λi hi=>h.block i (by omega) (λe=>by injection e with e;omega)⟩
end
theorem fJ{a b:Bool}(h:a=b):Ending.returned (.bool a)=.returned (.bool b):=by rw[h]
theorem jT(s:ByteArray)(i:Nat)(h:i<s.size):s.data.toList.drop i=s[i]::s.data.toList.drop (i+1):=by
 rw[List.drop_eq_getElem_cons (by simpa using h)];rfl
theorem Wr(s:ByteArray):s.data.toList.length=s.size:=by simp
theorem En{P:Program}{f:FuncId}{args:Array Value}{w:World}{n:Nat}{v:Value}
  (h:Calls P f args (w.drewN n) λe w'=>e=.returned v∧w.drewN n=w'):Calls P f args (w.drewN n) λe w'=>e=.returned v∧∃m,w'=w.drewN m:=
 h.mono λ_ _ ⟨he,hm⟩=>⟨he,n,hm.symm⟩
end Go.Proofs.YteimklbiapnfhaaGreat
namespace Go.Proofs.YteimklbiapnfhaaGreat
open Go.RowKit
set_option linter.unusedVariables false
set_option linter.unusedSimpArgs false
theorem Fr{s:Nat}:∀(css:List (List Value)) (_:∀cs∈css,cs.length=s) (i j:Nat) (cs:List Value) (u:Value),css[i]? =some cs→cs[j]? =some u→css.flatten[i*s+j]? =some u
 |[],_,i,j,cs,u,h,_=>by simp at h
 |c::css,hl,0,j,cs,u,h,hu=>by
  simp at h;subst h
  have hj:j<c.length:=(List.getElem?_eq_some_iff.1 hu).1;simp only[List.flatten_cons,Nat.zero_mul,Nat.zero_add];rw[List.getElem?_append_left hj];exact hu
 |c::css,hl,i+1,j,cs,u,h,hu=>by
  have hc:c.length=s:=hl c (by simp)
  have ih:=Fr css (λcs hcs=>hl cs (by simp[hcs])) i j cs u (by simpa using h) hu
  simp only[List.flatten_cons];rw[List.getElem?_append_right (by rw[hc,Nat.succ_mul];omega)]
  rw[←ih];congr 1;rw[hc,Nat.succ_mul];omega
theorem Ws{s:Nat}:∀(css:List (List Value)) (_:∀cs∈css,cs.length=s),css.flatten.length=css.length*s
 |[],_=>by simp
 |c::css,hl=>by
  have ih:=Ws css (λcs hcs=>hl cs (by simp[hcs]))
  simp only[List.flatten_cons,List.length_append,List.length_cons,ih,hl c (by simp),Nat.succ_mul];omega
structure M2 (P:Program)(t e:TypeId)(size bytes:Nat):Prop where
 und:P.underlying t=some (.slice e)
 info:∃i z,P.info? e=some i∧i.zero=some z∧i.size=size∧i.bytes=bytes∧z.cells.size=size
theorem M2.mk'{P:Program}{t e:TypeId}{size bytes:Nat}{z:Value}(h:P.underlying t=some (.slice e))(hi:(P.info? e).map (λi=>(i.zero,i.size,i.bytes))=some (some z,size,bytes))(hz:z.cells.size=size):M2 P t e size bytes:=by
 obtain⟨i,h1,h2,h3,h4⟩:=info_parts hi;exact⟨h,i,z,h1,h2,h3,h4,hz⟩
def zd1(w:World)(lo:Nat)(v:Value)(b:Nat):Prop:=lo≤b∧b<w.heap.size∧v.ownBlock≠some b
def Own{α:Type}[xT α](w:World)(lo base:Nat)(E:TypeId)(v:Value)(xs:List α):Prop:=
 lo≤base∧xs.length*xT.bytes α≤140737488355328∧∃css:List (List Value),css.length=xs.length∧w.ownsRow base E (xT.size α) v xs.length css.flatten∧
  (∀cs∈css,cs.length=xT.size α)∧∀(i:Nat) (x:α) (cs:List Value),xs[i]? =some x→css[i]? =some cs→xT.rd w (zd1 w lo v) cs x
section
variable {α:Type}[xT α]{w w':World}{lo base:Nat}{E:TypeId}{v:Value}{xs:List α}
theorem Own.nil(w:World){lo base:Nat}(E:TypeId)(hlo:lo≤base):Own w lo base E (.slice none 0 0) ([]:List α):=
 ⟨hlo,by simp,[],rfl,by simpa using World.ownsRow_nil w base E (xT.size α),by simp,by simp⟩
theorem Own.lt(h:Own w lo base E v xs){k:Nat}(hk:v.ownBlock=some k):base≤k∧k<w.heap.size:=by
 obtain⟨_,_,css,_,h3,_⟩:=h;exact h3.lt k hk
theorem Own.kept(h:Own w lo base E v xs)(hs:w.heap.size≤w'.heap.size)(hk:∀b,lo≤b→b<w.heap.size→w'.heap[b]? =w.heap[b]?):Own w' lo base E v xs:=by
 obtain⟨h1,h2,css,h3,h4,h5,h6⟩:=h;refine⟨h1,h2,css,h3,⟨h4.1,?_⟩,h5,λi x cs hx hc=>xT.mono (h6 i x cs hx hc) (λb hb=>hk b hb.1 hb.2.1) (λb hb=>⟨hb.1,by have:=hb.2.1;omega,hb.2.2⟩)⟩
 rcases h4.2 with hn|⟨g,cap,cur,rfl,hb,hg,rest⟩
 ·exact .inl hn
 ·exact .inr ⟨g,cap,cur,rfl,hb,by rw[hk g (by omega) (Array.getElem?_eq_some_iff.1 hg).1];exact hg,rest⟩
theorem Own.below(h:Own w lo base E v xs)(hb:Below w.heap.size w w'):Own w' lo base E v xs:=h.kept hb.size λb _ hb'=>hb.block b hb'
theorem Own.alloc(h:Own w lo base E v xs)(o:Obj):Own (w.alloc o) lo base E v xs:=h.kept (by simp) λb _ hb=>Below.heap_alloc w o b hb
theorem Own.drew(h:Own w lo base E v xs):Own w.drew lo base E v xs:=h.kept (Nat.le_refl _) λ_ _ _=>rfl
theorem Own.drewN(h:Own w lo base E v xs)(n:Nat):Own (w.drewN n) lo base E v xs:=h.kept (Nat.le_refl _) λ_ _ _=>rfl
theorem Own.rdV(h:Own w lo base E v xs):cB w (λb=>lo≤b∧b<w.heap.size) v xs:=by
 obtain⟨h1,h2,css,h3,h4,h5,h6⟩:=h;rcases h4.2 with⟨rfl,h0⟩|⟨g,cap,cur,rfl,hb,hg,hcap,hmax,hcur,htake⟩
 ·obtain rfl:=List.eq_nil_of_length_eq_zero h0
  exact⟨[.slice none 0 0],rfl,none,0,rfl,by simp,by simp,by simp,λ_=>rfl,λhn=>absurd hn (by simp)⟩
 ·refine⟨[_],rfl,some ⟨g,0,none⟩,cap,rfl,h2,hcap,hmax,(λe=>by cases e),λhn=> ?_⟩
  refine⟨g,0,rfl,⟨by omega,(Array.getElem?_eq_some_iff.1 hg).1⟩,λi x hx=> ?_⟩
  have hi:i<xs.length:=(List.getElem?_eq_some_iff.1 hx).1;have hc:css[i]? =some (css[i]'(by omega)):=List.getElem?_eq_getElem (by omega)
  refine⟨_,xT.mono (h6 i x _ hx hc) (λ_ _=>rfl) (λb hb=>⟨hb.1,hb.2.1⟩),λj u hu=> ?_⟩
  have hf:=Fr css h5 i j _ u hc hu;have:=h4.cells (g:=g) rfl _ _ hf;rw[←this];unfold Addr.add;split
  ·rename_i e;simp[e]
  ·simp
theorem Own.rds(h:Own w lo base E v xs):Rds w v xs:=cB.mono h.rdV (λ_ _=>rfl) λ_ hb=>hb.2
theorem Own.fresh(h:Own w lo base E v xs):Ra w lo v xs:=h.rdV
theorem Own.bytes(h:Own w lo base E v xs):xs.length*xT.bytes α≤140737488355328:=h.2.1
theorem Own.more(h:Own w lo base E v xs){lo':Nat}(hlo:lo'≤lo):Own w lo' base E v xs:=by
 obtain⟨h1,h2,css,h3,h4,h5,h6⟩:=h;exact⟨by omega,h2,css,h3,h4,h5,λi x cs hx hc=>xT.mono (h6 i x cs hx hc) (λ_ _=>rfl) (λb hb=>⟨by have:=hb.1;omega,hb.2.1,hb.2.2⟩)⟩
theorem Own.appended{P:Program}{t:TypeId}(hown:Own w lo base E v xs)(hbase:base≤w.heap.size){v':Value}{ys:List α}{ccs:List (List Value)}(hl:ccs.length=ys.length)
  (hcl:∀cs∈ccs,cs.length=xT.size α) (hcs:∀(i:Nat) (x:α) (cs:List Value),ys[i]? =some x→ccs[i]? =some cs→xT.rd w (zd1 w lo v) cs x) (hb:(xs.length+ys.length)*xT.bytes α≤140737488355328)
  (css:List (List Value)) (h3:css.length=xs.length) (h5:∀cs∈css,cs.length=xT.size α) (h6:∀(i:Nat) (x:α) (cs:List Value),xs[i]? =some x→css[i]? =some cs→xT.rd w (zd1 w lo v) cs x)
  (ho:w'.ownsRow base E (xT.size α) v' (xs.length+ys.length) (css.flatten++ccs.flatten)) (hg:w.grownBy w' v.ownBlock) (hat:v'.ownBlock=v.ownBlock∨v'.ownBlock=some w.heap.size):
  Own w' lo base E v' (xs++ys):=by
 refine⟨hown.1,by simpa using hb,css++ccs,by simp[h3,hl],by simpa using ho,λcs hc=> ?_,λi x cs hx hc=> ?_⟩
 ·rcases List.mem_append.1 hc with h|h
  ·exact h5 cs h
  ·exact hcl cs h
 ·have key:xT.rd w (zd1 w lo v) cs x:=by
   by_cases hi:i<xs.length
   ·rw[List.getElem?_append_left hi]at hx
    rw[List.getElem?_append_left (by omega)]at hc
    exact h6 i x cs hx hc
   ·rw[List.getElem?_append_right (by omega)]at hx
    rw[List.getElem?_append_right (by omega),h3]at hc
    exact hcs _ x cs hx hc
  refine xT.mono key (λb hb=>hg.block b hb.2.1 (λe=>hb.2.2 e.symm)) (λb hb=>⟨hb.1,by have:=hg.size;have:=hb.2.1;omega,?_⟩)
  rcases hat with e|e<;>rw[e]
  ·exact hb.2.2
  ·intro e';injection e' with e';have:=hb.2.1;omega
end
section
variable {P:Program}{α:Type}[xT α]
theorem zil(w:World)(cs:List Value)(E:TypeId):∀j u,cs[j]? =some u→(w.alloc (.cells cs.toArray E)).cell? ((⟨w.heap.size,0,none⟩:Addr).add j)=some u:=by
 intro j u hu;have e:(⟨w.heap.size,0,none⟩:Addr).add j=⟨w.heap.size,j,none⟩:=by unfold Addr.add;split<;>simp_all
 rw[e,World.cell?_alloc_new];simpa using hu
theorem M3{ops:Array Oper}{rest:List Oper}{o:Oper}{a:Act}{Q:Exit→Act→World→Prop}{w:World}{lo base:Nat}{E t:TypeId}{v:Value}{xs:List α}{cs:List Value}{y:α}
  (hgd:o.guard=none) (s x:Operand) (ho:o.op=.call {callee:=.builtin .append,args:= #[s,x],argTypes:= #[t,t]})
  (hr:M2 P t E (xT.size α) (xT.bytes α)) (hs:a.eval s=v) (hown:Own w lo base E v xs) {g:Nat} (hx:a.eval x=.slice (some ⟨g,0,none⟩) 1 1) (hgs:g=w.heap.size)
  (hy:OW w (zd1 w lo v) cs y) (hb:(xs.length+1)*xT.bytes α≤140737488355328) (hm:xs.length+1≤9223372036854775807) (hbase:base≤w.heap.size)
  (h:∀v' w',Own w' lo base E v' (xs++[y])→w.grownBy w' v.ownBlock→Below base w w'→wpList P ops Q rest (a.put o.dst v') w'):
  wpList P ops Q (o::rest) a (w.alloc (.cells cs.toArray E)):=by
 subst hgs;obtain⟨hu,i,z,hi,hz,hsz,hby,hzs⟩:=hr;obtain⟨h1,h2,css,h3,h4,h5,h6⟩:=hown;have hlen:cs.length=xT.size α:=xT.len hy
 obtain⟨v',w',hrun,k1,k2,_,k3⟩:=run_append_own_at (P:=P) (w.alloc (.cells cs.toArray E)) base t o.type E i z (xT.size α) (xT.bytes α) hu hi hz hsz hby hzs xT.pos v xs.length css.flatten (h4.alloc _)
  ⟨w.heap.size,0,none⟩ 1 1 cs (by simpa using hlen) (zil w cs E) (xT.one hy) (by unfold maxLen;omega) hb (by simp;omega)
 have hown':Own (w.alloc (.cells cs.toArray E)) lo base E v xs:=Own.alloc ⟨h1,h2,css,h3,h4,h5,h6⟩ _
 have mono:∀ {cs':List Value} {x':α},xT.rd w (zd1 w lo v) cs' x'→xT.rd (w.alloc (.cells cs.toArray E)) (zd1 (w.alloc (.cells cs.toArray E)) lo v) cs' x':=λhh=>
  xT.mono hh (λb hb=>Below.heap_alloc w _ b hb.2.1) (λb hb=>⟨hb.1,by simp;have:=hb.2.1;omega,hb.2.2⟩)
 have hfin:Own w' lo base E v' (xs++[y]):=Own.appended (P:=P) (t:=t) hown' (by simp;omega) (ccs:=[cs]) (ys:=[y]) rfl (by simpa using hlen)
  (λj x' cs' hx' hc'=>by
   rcases j with _|j
   ·simp at hx' hc';subst hx' hc';exact mono hy
   ·simp at hx') (by simpa using hb) css h3 h5 (λj x' cs' hx' hc'=>mono (h6 j x' cs' hx' hc')) (by simpa using k1) k2 k3
 have hgw:w.grownBy w' v.ownBlock:=⟨k2.os,k2.tape,k2.output,by have:=k2.size;simp at this;omega,λb hb hne=>(k2.block b (by simp;omega) hne).trans (Below.heap_alloc w _ b hb)⟩
 have hbl:Below base w w':=(Below.refl _ _).grown hgw hbase (λk hk=>(h4.lt k hk).1)
 refine wpList_plain hgd λK hK=> ?_
 unfold Oper.wp execOp;simp only[ho,resolve,invoke,builtin,Sem.run_bind,Sem.run_pure,Result.andThen_ok,List.map_toArray,List.map_cons,List.map_nil,hs,hx,hrun];exact hK _ _ (h v' w' hfin hgw hbl)
end
end Go.Proofs.YteimklbiapnfhaaGreat
namespace Go.Proofs.YteimklbiapnfhaaGreat
open Go.RowKit
set_option linter.unusedVariables false
set_option linter.unusedSimpArgs false
class Lo where
 new:Nat→Prop
variable[Lo]
def Vr(w:World)(b:Nat):Prop:=∃c t,w.heap[b]? =some (.cells c t (0,0))
def R9(k:Bool)(w:World)(S:Nat→Prop)(b:Nat):Prop:=S b∧match k with
 |true=>Lo.new b∧Vr w b
 |false=>¬Lo.new b
theorem zlS{k:Bool}{w:World}{S:Nat→Prop}{b:Nat}(h:R9 k w S b):S b:=h.1
theorem zcc{k:Bool}{w w':World}{S S':Nat→Prop}(h:∀b,S b→S' b)(hk:∀b,S b→w'.heap[b]? =w.heap[b]?){b:Nat}(hb:R9 k w S b):R9 k w' S' b:=by
 refine⟨h b hb.1,?_⟩;have h2:=hb.2;cases k with
 |false=>exact h2
 |true=>exact⟨h2.1,by obtain⟨c,t,e⟩:=h2.2;exact⟨c,t,(hk b hb.1).trans e⟩⟩
theorem zgV{k:Bool}{w:World}{S:Nat→Prop}{b:Nat}(h:R9 k w S b):R9 k w (R9 k w S) b:=⟨h,h.2⟩
theorem Eo{k:Bool}{w w':World}{S:Nat→Prop}(hf:∀b,Vr w b→Vr w' b){b:Nat}(hb:R9 k w S b):R9 k w' S b:=by
 refine⟨hb.1,?_⟩;have h2:=hb.2;cases k with
 |false=>exact h2
 |true=>exact⟨h2.1,hf b h2.2⟩
@[reducible] def xT.mkd {α:Type} (k:Bool) (R:xT α):xT α where
 size:=R.size
 bytes:=R.bytes
 rd w S cs x:=R.rd w (R9 k w S) cs x
 len:=R.len
 one:=R.one
 mono:=λh hk hS=>R.mono h (λb hb=>hk b hb.1) (λ_ hb=>zcc hS hk hb)
 pos:=R.pos
structure xN where
 kind:Int
 con:Int
 clause:List zC
 deriving DecidableEq
structure xI where
 v:Int
 times:Int
 deriving DecidableEq
structure zon where
 verdict:Int
 values:List Int
 proof:List xN
 deriving DecidableEq
instance xT.bool:xT Bool where
 size:=1
 bytes:=1
 rd _ _ cs x:=cs=[.bool x]
 len:=λh=>by rw[h];rfl
 one:=λh u hu=>by rw[h]at hu;simp at hu;subst hu;rfl
 mono:=λh _ _=>h
 pos:=by decide
instance xT.byte:xT UInt8 where
 size:=1
 bytes:=1
 rd _ _ cs x:=cs=[.int .u8 (x.toNat:Int)]
 len:=λh=>by rw[h];rfl
 one:=λh u hu=>by rw[h]at hu;simp at hu;subst hu;rfl
 mono:=λh _ _=>h
 pos:=by decide
instance xT.term:xT xI where
 size:=2
 bytes:=16
 rd _ _ cs x:=cs=[.int .i64 x.v,.int .i64 x.times]∧vK x.v∧vK x.times
 len:=λh=>by rw[h.1];rfl
 one:=λh u hu=>by rw[h.1]at hu;simp at hu;rcases hu with rfl|rfl<;>rfl
 mono:=λh _ _=>h
 pos:=by decide
instance xT.step:xT xN where
 size:=3
 bytes:=40
 rd w S cs x:=∃v,cs=[.int .i64 x.kind,.int .i64 x.con,v]∧vK x.kind∧vK x.con∧OW w S [v] x.clause
 len:=λ⟨_,h,_⟩=>by rw[h];rfl
 one:=λ⟨_,h,_,_,h1⟩ u hu=>by
  rw[h]at hu;simp at hu
  rcases hu with rfl|rfl|rfl
  ·rfl
  ·rfl
  ·exact xT.one h1 _ (by simp)
 mono:=λ⟨v,h,a,b,h1⟩ hk hS=>⟨v,h,a,b,h1.mono hk hS⟩
 pos:=by decide
instance xT.ans:xT zon where
 size:=3
 bytes:=56
 rd w S cs x:=∃v1 v2,cs=[.int .i64 x.verdict,v1,v2]∧vK x.verdict∧OW w S [v1] x.values∧OW w S [v2] x.proof
 len:=λ⟨_,_,h,_⟩=>by rw[h];rfl
 one:=λ⟨_,_,h,_,h1,h2⟩ u hu=>by
  rw[h]at hu;simp at hu
  rcases hu with rfl|rfl|rfl
  ·rfl
  ·exact xT.one h1 _ (by simp)
  ·exact xT.one h2 _ (by simp)
 mono:=λ⟨v1,v2,h,a,h1,h2⟩ hk hS=>⟨v1,v2,h,a,h1.mono hk hS,h2.mono hk hS⟩
 pos:=by decide
instance xT.pair {α β:Type}[xT α][xT β]:xT (α×β) where
 size:=xT.size α+xT.size β
 bytes:=xT.bytes α+xT.bytes β
 rd w S cs x:=∃c1 c2,cs=c1++c2∧xT.rd w S c1 x.1∧xT.rd w S c2 x.2
 len:=λ⟨c1,c2,h,h1,h2⟩=>by rw[h,List.length_append,xT.len h1,xT.len h2]
 one:=λ⟨c1,c2,h,h1,h2⟩ u hu=>by
  rw[h]at hu
  rcases List.mem_append.1 hu with hu|hu
  ·exact xT.one h1 u hu
  ·exact xT.one h2 u hu
 mono:=λ⟨c1,c2,h,h1,h2⟩ hk hS=>⟨c1,c2,h,xT.mono h1 hk hS,xT.mono h2 hk hS⟩
 pos:=Nat.add_pos_left xT.pos _
inductive Ty|int|bool|str|tok|lit|var|con|mdl|step|term|ans|list (t:Ty)|pr (a b:Ty)|byte|mk (k:Bool)(t:Ty)
 deriving DecidableEq
@[reducible] def Ty.den:Ty→Type
 | .int=>Int| .bool=>Bool| .str=>ByteArray| .tok=>Tok| .lit=>zC| .var=>vF| .con=>zQ| .mdl=>zF| .step=>xN| .term=>xI| .ans=>zon
 | .list t=>List t.den
 | .pr a b=>a.den×b.den
 | .byte=>UInt8
 | .mk _ t=>t.den
abbrev Ty.fr(t:Ty):Ty:=.mk true t
abbrev Ty.od(t:Ty):Ty:=.mk false t
def Ty.bare:Ty→Bool
 | .mk _ _=>false
 |_=>true
def Ty.isOd:Ty→Bool
 | .mk false _=>true
 |_=>false
def CW:Ty→World→(Nat→Prop)→Nat→Prop
 | .mk k _,w,S=>R9 k w S
 |_,_,S=>S
theorem Zx: {t:Ty}→t.bare=true→ {w:World}→ {S:Nat→Prop}→CW t w S=S
 | .int,_,_,_| .bool,_,_,_| .str,_,_,_| .tok,_,_,_| .lit,_,_,_| .var,_,_,_| .con,_,_,_| .mdl,_,_,_| .step,_,_,_| .term,_,_,_| .ans,_,_,_| .list _,_,_,_| .pr _ _,_,_,_| .byte,_,_,_=>rfl
theorem TR{t:Ty}{w:World}{S:Nat→Prop}{b:Nat}(h:CW t w S b):S b:=by
 cases t<;>first|exact h.1|exact h
theorem UG{t:Ty}{w w':World}{S S':Nat→Prop}(hS:∀b,S b→S' b)(hk:∀b,S b→w'.heap[b]? =w.heap[b]?){b:Nat}(h:CW t w S b):CW t w' S' b:=by
 cases t<;>first|exact zcc hS hk h|exact hS _ h
theorem zjI{t:Ty}{w w':World}{S:Nat→Prop}(hf:∀b,Vr w b→Vr w' b){b:Nat}(h:CW t w S b):CW t w' S b:=by
 cases t<;>first|exact Eo hf h|exact h
@[reducible] def xT.listT (t:Ty) (R:xT t.den):xT (List t.den) where
 size:=1
 bytes:=24
 rd w S cs xs:=(@xT.list _ R).rd w (CW t w S) cs xs
 len:=(@xT.list _ R).len
 one:=(@xT.list _ R).one
 mono:=λh hk hS=>(@xT.list _ R).mono h (λb hb=>hk b (TR hb)) (λ_ hb=>UG hS hk hb)
 pos:=(@xT.list _ R).pos
@[reducible] def Ty.rep:(t:Ty)→xT t.den
 | .int=>xT.int| .bool=>xT.bool| .str=>xT.str| .tok=>xT.tok| .lit=>xT.lit| .var=>xT.var| .con=>xT.con| .mdl=>xT.mdl| .step=>xT.step| .term=>xT.term| .ans=>xT.ans
 | .list t=>xT.listT t (Ty.rep t)
 | .pr a b=> @xT.pair _ _ (Ty.rep a) (Ty.rep b)
 | .byte=>xT.byte
 | .mk k t=>xT.mkd k (Ty.rep t)
@[reducible] instance xT.ty (t:Ty):xT t.den:=Ty.rep t
def Ty.dflt:(t:Ty)→t.den
 | .int=>0| .bool=>false| .str=>⟨#[]⟩| .tok=>⟨0,0,⟨#[]⟩⟩| .lit=>⟨0,0,0⟩| .var=>⟨⟨#[]⟩,0,0⟩| .con=>⟨0,[],[],0,[],[]⟩| .mdl=>⟨[],[],0,0⟩| .step=>⟨0,0,[]⟩| .term=>⟨0,0⟩| .ans=>⟨0,[],[]⟩
 | .list _=>[]
 | .pr a b=>(a.dflt,b.dflt)
 | .byte=>0
 | .mk _ t=>t.dflt
def Ty.agg:Ty→Bool
 | .tok| .lit| .var| .con| .mdl| .step| .term| .ans| .pr _ _=>true
 | .mk _ t=>t.agg
 |_=>false
def Ty.size:Ty→Nat
 | .tok| .lit| .var| .step| .ans=>3| .con=>6| .mdl=>4| .term=>2
 | .pr a b=>a.size+b.size
 | .mk _ t=>t.size
 |_=>1
def Ty.bytes:Ty→Nat
 | .int=>8| .bool=>1| .str=>16| .tok=>32| .lit=>24| .var=>32| .con=>112| .mdl=>64| .step=>40| .term=>16| .ans=>56| .list _=>24| .pr a b=>a.bytes+b.bytes| .byte=>1| .mk _ t=>t.bytes
theorem Ty.size_eq:(t:Ty)→t.size= @xT.size t.den (Ty.rep t)
 | .pr a b=>by show a.size+b.size=_;rw[Ty.size_eq a,Ty.size_eq b];rfl
 | .mk _ t=>Ty.size_eq t
 | .int| .bool| .str| .tok| .lit| .var| .con| .mdl| .step| .term| .ans| .list _| .byte=>rfl
theorem Ty.bytes_eq:(t:Ty)→t.bytes= @xT.bytes t.den (Ty.rep t)
 | .pr a b=>by show a.bytes+b.bytes=_;rw[Ty.bytes_eq a,Ty.bytes_eq b];rfl
 | .mk _ t=>Ty.bytes_eq t
 | .int| .bool| .str| .tok| .lit| .var| .con| .mdl| .step| .term| .ans| .list _| .byte=>rfl
inductive D
 |undef
 |nil
 |int (k:IntKind) (n:Int)
 |bool (b:Bool)
 |str (s:ByteArray)
 |sl (t:Ty) (xs:List t.den)
 |mp (k v:Ty) (es:List (k.den×v.den))
 |agg (cs:List D)
 |tup (cs:List D)
 |iptr (cs:List D) (off:Nat)
 |elt (t:Ty) (xs:List t.den) (i off:Nat)
 |clo (f:FuncId) (rs:Option (List Ty)) (caps:List D)
 |own (k:Nat)
 |ptr (k off:Nat)
 |oelt (k sz i off:Nat)
 |slN (t:Ty) (xs:List t.den) (nl:Bool)
 |ownN (k:Nat)
 |ifc (u:Value)
 |clp (f:FuncId) (bd:Bool) (k off:Nat)
 |slf (k:Nat)
 deriving Inhabited
def inK:IntKind→Int→Prop
 | .i64,n=>vK n
 | .u8,n=>0≤n∧n≤255
 |_,_=>False
theorem A8(n:Int):inK .i64 (IntKind.i64.wrap n):=by
 unfold inK vK;rw[IntKind.wrap_i64];omega
theorem znr(n:Int):inK .u8 (IntKind.u8.wrap n):=by
 unfold inK;rw[IntKind.wrap_u8];omega
def CX(k:Bool):D→D
 | .sl t xs=> .sl (.mk k t) xs
 |d=>d
def BU:D→D
 | .sl (.mk _ t) xs=> .sl t xs
 |d=>d
def A9(k:Bool):D→Bool
 | .sl (.mk k' t) xs=>((k==k')&&t.bare)||xs.isEmpty
 | .sl _ []=>true
 | .nil=>true
 | .int _ _=>true
 | .bool _=>true
 | .str _=>true
 |_=>false
def cells:(t:Ty)→t.den→List D
 | .int,n=>[.int .i64 n]
 | .bool,b=>[.bool b]
 | .str,s=>[.str s]
 | .tok,x=>[.int .i64 x.kind,.int .i64 x.at_,.str x.text]
 | .lit,x=>[.int .i64 x.var,.int .i64 x.op,.int .i64 x.n]
 | .var,x=>[.str x.name,.int .i64 x.lo,.int .i64 x.hi]
 | .con,x=>[.int .i64 x.kind,.sl .int x.vars,.sl .int x.consts,.int .i64 x.n,.sl (.list .int) x.rows,.sl .lit x.lits]
 | .mdl,x=>[.sl .var x.vars,.sl .con x.cons,.int .i64 x.goal,.int .i64 x.var]
 | .step,x=>[.int .i64 x.kind,.int .i64 x.con,.sl .lit x.clause]
 | .term,x=>[.int .i64 x.v,.int .i64 x.times]
 | .ans,x=>[.int .i64 x.verdict,.sl .int x.values,.sl .step x.proof]
 | .list t,xs=>[.sl t xs]
 | .pr a b,x=>cells a x.1++cells b x.2
 | .byte,b=>[.int .u8 (b.toNat:Int)]
 | .mk k t,x=>(cells t x).map (CX k)
def M4(t:Ty)(x:t.den):D:=
 match t,x with
 | .int,n=> .int .i64 n
 | .bool,b=> .bool b
 | .str,s=> .str s
 | .list t,xs=> .sl t xs
 | .byte,b=> .int .u8 (b.toNat:Int)
 | .mk k t,x=>match t.agg with
  |true=> .agg ((cells t x).map (CX k))
  |false=>match(cells t x).map (CX k)with
   |[d]=>d
   |_=> .undef
 |t,x=> .agg (cells t x)
theorem Ty.bytes_pos:(t:Ty)→0<t.bytes
 | .pr a b=>Nat.add_pos_left (Ty.bytes_pos a) _
 | .mk _ t=>Ty.bytes_pos t
 | .int| .bool| .str| .tok| .lit| .var| .con| .mdl| .step| .term| .ans| .list _| .byte=>Nat.le_of_ble_eq_true rfl
theorem gV:(t:Ty)→(x:t.den)→(cells t x).length=t.size
 | .pr a b,x=>by show(cells a x.1++cells b x.2).length=_;rw[List.length_append,gV a,gV b];rfl
 | .mk k t,x=>by show((cells t x).map (CX k)).length=_;rw[List.length_map];exact gV t x
 | .int,_| .bool,_| .str,_| .tok,_| .lit,_| .var,_| .con,_| .mdl,_| .step,_| .term,_| .ans,_| .list _,_| .byte,_=>rfl
def znb(t:Ty):(t':Ty)→List t'.den→Option (List t.den)
 | .mk _ t'',xs=>bif t''.bare then if h:t''=t then some (h▸(show List t''.den from xs))else none else none
 |_,_=>none
def Jj(t:Ty):D→Option (List t.den)
 | .sl t' xs=>if h:t'=t then some (h▸xs)else znb t t' xs
 | .nil=>some []
 |_=>none
def ofD:(t:Ty)→List D→Option t.den
 | .int,[.int .i64 n]=>some n
 | .bool,[.bool b]=>some b
 | .str,[.str s]=>some s
 | .tok,[.int .i64 a,.int .i64 b,.str c]=>some ⟨a,b,c⟩
 | .lit,[.int .i64 a,.int .i64 b,.int .i64 c]=>some ⟨a,b,c⟩
 | .var,[.str a,.int .i64 b,.int .i64 c]=>some ⟨a,b,c⟩
 | .con,[.int .i64 a,b,c,.int .i64 d,e,f]=>match Jj .int b,Jj .int c,Jj (.list .int) e,Jj .lit f with
  |some b,some c,some e,some f=>some ⟨a,b,c,d,e,f⟩
  |_,_,_,_=>none
 | .mdl,[a,b,.int .i64 c,.int .i64 d]=>match Jj .var a,Jj .con b with
  |some a,some b=>some ⟨a,b,c,d⟩
  |_,_=>none
 | .step,[.int .i64 a,.int .i64 b,c]=>match Jj .lit c with
  |some c=>some ⟨a,b,c⟩
  |_=>none
 | .term,[.int .i64 a,.int .i64 b]=>some ⟨a,b⟩
 | .ans,[.int .i64 a,b,c]=>match Jj .int b,Jj .step c with
  |some b,some c=>some ⟨a,b,c⟩
  |_,_=>none
 | .list t,[d]=>Jj t d
 | .pr a b,ds=>match ofD a (ds.take a.size),ofD b (ds.drop a.size)with
  |some x,some y=>some (x,y)
  |_,_=>none
 | .byte,[.int .u8 n]=>some (UInt8.ofNat n.toNat)
 | .mk k t,ds=>match ds.all (A9 k)with
  |true=>ofD t (ds.map BU)
  |false=>none
 |_,_=>none
def zjK:D→Bool
 | .sl _ []=>true
 | .int _ _=>true
 | .bool _=>true
 | .str _=>true
 |_=>false
theorem Jk{k:Bool}{d:D}(h:zjK d=true):zjK (CX k d)=true∧A9 k (CX k d)=true∧BU (CX k d)=d:=by
 cases d<;>try first|exact⟨rfl,rfl,rfl⟩|cases h
 case sl t xs=>cases xs with
  |nil=>exact⟨rfl,by show(_||true)=true;rw[Bool.or_true],rfl⟩
  |cons=>cases h
theorem UH:(t:Ty)→∀d∈cells t t.dflt,zjK d=true
 | .pr a b,d,hd=>by
  rcases List.mem_append.1 (show d∈cells a a.dflt++cells b b.dflt from hd)with h|h
  ·exact UH a d h
  ·exact UH b d h
 | .mk k t,d,hd=>by
  obtain⟨d0,h0,rfl⟩:=List.mem_map.1 (show d∈(cells t t.dflt).map (CX k)from hd)
  exact(Jk (UH t d0 h0)).1
 | .int,d,hd| .bool,d,hd| .str,d,hd| .tok,d,hd| .lit,d,hd| .var,d,hd| .con,d,hd| .mdl,d,hd| .step,d,hd| .term,d,hd| .ans,d,hd| .list _,d,hd| .byte,d,hd=>by
  revert hd;unfold cells Ty.dflt;simp only[List.mem_cons,List.not_mem_nil,or_false];intro hd
  first
   |(subst hd;rfl)
   |(rcases hd with rfl|rfl<;>rfl)
   |(rcases hd with rfl|rfl|rfl<;>rfl)
   |(rcases hd with rfl|rfl|rfl|rfl<;>rfl)
   |(rcases hd with rfl|rfl|rfl|rfl|rfl|rfl<;>rfl)
theorem BV(k:Bool)(t:Ty):((cells t t.dflt).map (CX k)).all (A9 k)=true∧((cells t t.dflt).map (CX k)).map BU=cells t t.dflt:=by
 refine⟨List.all_eq_true.2 λd hd=> ?_,?_⟩
 ·obtain⟨d0,h0,rfl⟩:=List.mem_map.1 hd
  exact(Jk (UH t d0 h0)).2.1
 ·rw[List.map_map]
  have h:=UH t;generalize cells t t.dflt=l at h
  induction l with
  |nil=>rfl
  |cons d l ih=>
   rw[List.map_cons,ih λe he=>h e (List.mem_cons_of_mem _ he)]
   exact congrArg (·::l) (Jk (h d List.mem_cons_self)).2.2
theorem Qb:(t:Ty)→ofD t (cells t t.dflt)=some t.dflt
 | .pr a b=>by
  show(match ofD a ((cells a a.dflt++cells b b.dflt).take a.size),ofD b ((cells a a.dflt++cells b b.dflt).drop a.size)with
   |some x,some y=>some (x,y)
   |_,_=>none)=_
  have h:a.size=(cells a a.dflt).length:=(gV a _).symm;rw[List.take_append_of_le_length (by omega),List.take_of_length_le (by omega),h,List.drop_left,Qb a,Qb b]
  rfl
 | .mk k t=>by
  show(match((cells t t.dflt).map (CX k)).all (A9 k)with
   |true=>ofD t (((cells t t.dflt).map (CX k)).map BU)
   |false=>none)=_
  rw[(BV k t).1,(BV k t).2];exact Qb t
 | .int| .bool| .str| .tok| .lit| .var| .con| .mdl| .step| .term| .ans| .list _=>by simp[cells,Ty.dflt,ofD,Jj]
 | .byte=>rfl
inductive xH {α β:Type}(R:α→β→Prop):List α→List β→Prop
 |nil:xH R [] []
 |cons {a b xs ys}:R a b→xH R xs ys→xH R (a::xs) (b::ys)
section
variable {α β:Type}{R R':α→β→Prop}
theorem xH.len:∀ {xs:List α} {ys:List β},xH R xs ys→xs.length=ys.length
 |_,_,.nil=>rfl
 |_,_,.cons _ h=>by simp[h.len]
theorem xH.at:∀ {xs:List α} {ys:List β},xH R xs ys→∀ {i:Nat} {b:β},ys[i]? =some b→∃a,xs[i]? =some a∧R a b
 |_,_,.nil,i,b,h=>by simp at h
 |_,_,.cons h _,0,b,hb=>⟨_,rfl,by simp at hb;subst hb;exact h⟩
 |_,_,.cons _ h,i+1,b,hb=>by simpa using h.at (i:=i) (by simpa using hb)
theorem xH.of:∀ {xs:List α} {ys:List β},xs.length=ys.length→(∀(i:Nat) (a:α) (b:β),xs[i]? =some a→ys[i]? =some b→R a b)→xH R xs ys
 |[],[],_,_=> .nil
 |a::xs,b::ys,hl,h=> .cons (h 0 a b rfl rfl) (xH.of (by simpa using hl) λi a b ha hb=>h (i+1) a b (by simpa using ha) (by simpa using hb))
 |[],_::_,hl,_=>by simp at hl
 |_::_,[],hl,_=>by simp at hl
theorem xH.append:∀ {xs:List α} {ys:List β} {xs':List α} {ys':List β},xH R xs ys→xH R xs' ys'→xH R (xs++xs') (ys++ys')
 |_,_,_,_,.nil,h=>h
 |_,_,_,_,.cons h hs,h'=> .cons h (hs.append h')
theorem xH.split:∀ {xs:List α} {ys:List β},xH R xs ys→∀n,xH R (xs.take n) (ys.take n)∧xH R (xs.drop n) (ys.drop n)
 |_,_,.nil,n=>by simp;exact .nil
 |_,_,.cons h hs,0=>⟨.nil,.cons h hs⟩
 |_,_,.cons h hs,n+1=>⟨.cons h (hs.split n).1,(hs.split n).2⟩
theorem xH.imp(hr:∀a b,R a b→R' a b):∀ {xs:List α} {ys:List β},xH R xs ys→xH R' xs ys
 |_,_,.nil=> .nil
 |_,_,.cons h hs=> .cons (hr _ _ h) (hs.imp hr)
end
def zcd(w:World)(S:Nat→Prop)(b:Nat)(k v:Ty)(es:List (k.den×v.den)):Prop:=
 es.length≤140737488355328∧∃ents clock,w.heap[b]? =some (.map ents clock)∧xH (λ(e:MapEntry) (x:k.den×v.den)=>cB w S e.key x.1∧cB w S e.val x.2) ents.toList es
theorem zcd.mono{w w':World}{S S':Nat→Prop}{b:Nat}{k v:Ty}{es:List (k.den×v.den)}(h:zcd w S b k v es)(hk:∀b,S b→w'.heap[b]? =w.heap[b]?)(hb:w'.heap[b]? =w.heap[b]?)(hS:∀b,S b→S' b):zcd w' S' b k v es:=by
 obtain⟨h0,ents,clock,h1,h2⟩:=h;exact⟨h0,ents,clock,hb.trans h1,h2.imp λ_ _ h=>⟨h.1.mono hk hS,h.2.mono hk hS⟩⟩
inductive Rp (w:World)(S:Nat→Prop):Value→D→Prop
 |undef (v:Value):Rp w S v .undef
 |nil:Rp w S (.slice none 0 0) .nil
 |int (k:IntKind) (n:Int) (h:inK k n):Rp w S (.int k n) (.int k n)
 |bool (b:Bool):Rp w S (.bool b) (.bool b)
 |str (s:ByteArray) (h:s.size≤140737488355328):Rp w S (.string s) (.str s)
 |sl (t:Ty) (xs:List t.den) (v:Value) (h:cB w (CW t w S) v xs):Rp w S v (.sl t xs)
 |slN (t:Ty) (xs:List t.den) (nl:Bool) (v:Value) (h:cB w (CW t w S) v xs) (hn:nl=false→v≠ .slice none 0 0) (hy:nl=true→v=.slice none 0 0):Rp w S v (.slN t xs nl)
 |mp (k v:Ty) (es:List (k.den×v.den)) (b:Nat) (hb:S b) (h:zcd w S b k v es):Rp w S (.map (some b)) (.mp k v es)
 |agg (vs:Array Value) (cs:List D) (hl:vs.size=cs.length) (h:∀i d,cs[i]? =some d→Rp w S (vs.getD i Go.undef) d):Rp w S (.agg vs) (.agg cs)
 |tup (vs:Array Value) (cs:List D) (hl:vs.size=cs.length) (h:∀i d,cs[i]? =some d→Rp w S (vs.getD i Go.undef) d):Rp w S (.tuple vs) (.tup cs)
 |iptr (b off:Nat) (cs:List D) (vs:Nat→Value) (hb:S b) (hc:∀i d,cs[i]? =some d→w.cell? ⟨b,i,none⟩=some (vs i)) (h:∀i d,cs[i]? =some d→Rp w S (vs i) d):
   Rp w S (.pointer (some ⟨b,off,none⟩)) (.iptr cs off)
 |elt (t:Ty) (xs:List t.den) (i off b o c:Nat) (hi:i<xs.length) (h:cB w (CW t w S) (.slice (some ⟨b,o,none⟩) xs.length c) xs):
   Rp w S (.pointer (some ⟨b,o+i*t.size+off,none⟩)) (.elt t xs i off)
 |clo (f:FuncId) (rs:Option (List Ty)) (caps:List D) (vs:Array Value) (hl:vs.size=caps.length) (h:∀i d,caps[i]? =some d→Rp w S (vs.getD i Go.undef) d):Rp w S (.func (.func f) #[] vs) (.clo f rs caps)
 |ifc (u:Value):Rp w S u (.ifc u)
theorem Rp.mono{w w':World}{S S':Nat→Prop}{v:Value}{d:D}(h:Rp w S v d)(hk:∀b,S b→w'.heap[b]? =w.heap[b]?)(hS:∀b,S b→S' b):Rp w' S' v d:=by
 induction h with
 |undef v=>exact .undef v
 |nil=>exact .nil
 |int k n h=>exact .int k n h
 |bool b=>exact .bool b
 |str s h=>exact .str s h
 |sl t xs v h=>exact .sl t xs v (cB.mono h (λb hb=>hk b (TR hb)) λ_ hb=>UG hS hk hb)
 |slN t xs nl v h hn hy=>exact .slN t xs nl v (cB.mono h (λb hb=>hk b (TR hb)) λ_ hb=>UG hS hk hb) hn hy
 |mp k v es b hb h=>exact .mp k v es b (hS b hb) (h.mono hk (hk b hb) hS)
 |agg vs cs hl h ih=>exact .agg vs cs hl ih
 |tup vs cs hl h ih=>exact .tup vs cs hl ih
 |iptr b off cs vs hb hc h ih=>exact .iptr b off cs vs (hS b hb) (λi d hd=>(World.cell?_of_block (hk b hb)).trans (hc i d hd)) ih
 |elt t xs i off b o c hi h=>exact .elt t xs i off b o c hi (cB.mono h (λb hb=>hk b (TR hb)) λ_ hb=>UG hS hk hb)
 |clo f rs caps vs hl h ih=>exact .clo f rs caps vs hl ih
 |ifc u=>exact .ifc u
section
variable {w:World}{S:Nat→Prop}{v:Value}
theorem Rp.int_inv{k:IntKind}{n:Int}(h:Rp w S v (.int k n)):v=.int k n∧inK k n:=by cases h with|int _ _ h=>exact⟨rfl,h⟩
theorem Rp.bool_inv{b:Bool}(h:Rp w S v (.bool b)):v=.bool b:=by cases h;rfl
theorem Rp.str_inv{s:ByteArray}(h:Rp w S v (.str s)):v=.string s∧s.size≤140737488355328:=by cases h with|str _ h=>exact⟨rfl,h⟩
theorem Rp.slN_inv'{t:Ty}{xs:List t.den}{nl:Bool}(h:Rp w S v (.slN t xs nl)):cB w (CW t w S) v xs∧(nl=false→v≠ .slice none 0 0)∧(nl=true→v=.slice none 0 0):=by cases h;exact⟨by assumption,by assumption,by assumption⟩
theorem Fs{t:Ty}{xs:List t.den}(h:cB w (CW t w S) v xs):cB w S v xs:=h.mono (λ_ _=>rfl) λ_ hb=>TR hb
theorem Rp.slN_inv{t:Ty}{xs:List t.den}{nl:Bool}(h:Rp w S v (.slN t xs nl)):cB w S v xs∧(nl=false→v≠ .slice none 0 0)∧(nl=true→v=.slice none 0 0):=⟨Fs h.slN_inv'.1,h.slN_inv'.2⟩
theorem Rp.nil_inv(h:Rp w S v .nil):v=.slice none 0 0:=by cases h;rfl
theorem Rp.sl_inv'{t:Ty}{xs:List t.den}(h:Rp w S v (.sl t xs)):cB w (CW t w S) v xs:=by cases h with|sl _ _ _ h=>exact h
theorem Rp.sl_inv{t:Ty}{xs:List t.den}(h:Rp w S v (.sl t xs)):cB w S v xs:=Fs h.sl_inv'
theorem Rp.mp_inv{k u:Ty}{es:List (k.den×u.den)}(h:Rp w S v (.mp k u es)):∃b,v=.map (some b)∧S b∧zcd w S b k u es:=by cases h with|mp _ _ _ b hb h=>exact⟨b,rfl,hb,h⟩
theorem Rp.agg_inv{cs:List D}(h:Rp w S v (.agg cs)):∃vs,v=.agg vs∧vs.size=cs.length∧∀i d,cs[i]? =some d→Rp w S (vs.getD i Go.undef) d:=by cases h with|agg vs _ hl h=>exact⟨vs,rfl,hl,h⟩
theorem Rp.tup_inv{cs:List D}(h:Rp w S v (.tup cs)):∃vs,v=.tuple vs∧vs.size=cs.length∧∀i d,cs[i]? =some d→Rp w S (vs.getD i Go.undef) d:=by cases h with|tup vs _ hl h=>exact⟨vs,rfl,hl,h⟩
theorem Rp.iptr_inv{cs:List D}{off:Nat}(h:Rp w S v (.iptr cs off)):∃b,v=.pointer (some ⟨b,off,none⟩)∧S b∧∀i d,cs[i]? =some d→∃u,w.cell? ⟨b,i,none⟩=some u∧Rp w S u d:=by
 cases h with|iptr b _ _ vs hb hc h=>exact⟨b,rfl,hb,λi d hd=>⟨vs i,hc i d hd,h i d hd⟩⟩
theorem Rp.elt_inv'{t:Ty}{xs:List t.den}{i off:Nat}(h:Rp w S v (.elt t xs i off)):∃b o c,v=.pointer (some ⟨b,o+i*t.size+off,none⟩)∧i<xs.length∧cB w (CW t w S) (.slice (some ⟨b,o,none⟩) xs.length c) xs:=by
 cases h with|elt _ _ _ _ b o c hi h=>exact⟨b,o,c,rfl,hi,h⟩
theorem Rp.elt_inv{t:Ty}{xs:List t.den}{i off:Nat}(h:Rp w S v (.elt t xs i off)):∃b o c,v=.pointer (some ⟨b,o+i*t.size+off,none⟩)∧i<xs.length∧cB w S (.slice (some ⟨b,o,none⟩) xs.length c) xs:=by
 obtain⟨b,o,c,e,hi,h⟩:=h.elt_inv';exact⟨b,o,c,e,hi,Fs h⟩
theorem Rp.clo_inv{f:FuncId}{rs:Option (List Ty)}{caps:List D}(h:Rp w S v (.clo f rs caps)):∃vs,v=.func (.func f) #[] vs∧vs.size=caps.length∧∀i d,caps[i]? =some d→Rp w S (vs.getD i Go.undef) d:=by
 cases h with|clo _ _ _ vs hl h=>exact⟨vs,rfl,hl,h⟩
theorem Rp.ifc_inv{u:Value}(h:Rp w S v (.ifc u)):v=u:=by cases h;rfl
theorem Rp.int_mk{n:Int}(h:vK n):Rp w S (.int .i64 n) (.int .i64 n):=.int _ _ h
theorem Rp.iptr_mk{b off:Nat}{cs:List D}(hb:S b)(h:∀i d,cs[i]? =some d→∃u,w.cell? ⟨b,i,none⟩=some u∧Rp w S u d):Rp w S (.pointer (some ⟨b,off,none⟩)) (.iptr cs off):=
 .iptr b off cs (λi=>(w.cell? ⟨b,i,none⟩).getD default) hb (λi d hd=>by obtain⟨u,hu,_⟩:=h i d hd;rw[hu];rfl) (λi d hd=>by obtain⟨u,hu,hr⟩:=h i d hd;rw[hu];exact hr)
theorem Ft{α:Type}(R1 R2:xT α){S1 S2:Nat→Prop}{xs:List α}(hs:R1.size=R2.size)(hb:R1.bytes=R2.bytes)(hS:∀b,S1 b→S2 b)(hr:∀cs x,R1.rd w S1 cs x→R2.rd w S2 cs x)
  (h: @cB _ (@xT.list _ R1) w S1 v xs): @cB _ (@xT.list _ R2) w S2 v xs:=by
 obtain⟨cs,e,A,c,e2,h0,h1,h2,h3,h4⟩:=h;refine⟨cs,e,A,c,e2,by rw[←hb];exact h0,h1,h2,h3,λhn=> ?_⟩
 obtain⟨b,o,e3,hb',hc⟩:=h4 hn;refine⟨b,o,e3,hS b hb',λi x hx=> ?_⟩
 obtain⟨cs,r,hcell⟩:=hc i x hx;exact⟨cs,hr cs x r,by rw[←hs];exact hcell⟩
theorem zns{k:Bool}{d:D}(h:Rp w (R9 k w S) v d):Rp w S v (CX k d):=by
 cases d<;>try exact h.mono (λ_ _=>rfl) λ_ hb=>hb.1
 case sl t xs=>
  exact .sl (.mk k t) xs v (Ft (Ty.rep t) (xT.mkd k (Ty.rep t)) rfl rfl (λ_ hb=>TR hb) (λcs x r=>(Ty.rep t).mono r (λ_ _=>rfl) λb hb=>zgV (TR hb)) h.sl_inv')
theorem zjL{k:Bool}{d:D}(ho:A9 k d=true)(h:Rp w S v d):Rp w (R9 k w S) v (BU d):=by
 have key:∀ {t u:Ty} {xs:List t.den} {ys:List u.den},xs=[]→ys=[]→cB w (CW t w S) v xs→Rp w (R9 k w S) v (.sl u ys):=by
  intro t u xs ys he he' h;subst he he';obtain⟨cs,e,A,c,e2,h0,h1,h2,h3,h4⟩:=h;exact .sl u [] v ⟨cs,e,A,c,e2,by simp,h1,h2,h3,λhn=>absurd hn (by simp)⟩
 cases d<;>simp only[A9,Bool.false_eq_true]at ho
 case nil=>rw[h.nil_inv];exact .nil
 case int k n=>obtain⟨rfl,h'⟩:=h.int_inv;exact .int _ _ h'
 case bool b=>rw[h.bool_inv];exact .bool b
 case str s=>obtain⟨rfl,h'⟩:=h.str_inv;exact .str _ h'
 case sl t xs=>
  have h1:=h.sl_inv';cases xs with
  |nil=>cases t<;>exact key rfl rfl h1
  |cons x xs=>
   cases t<;>simp only[A9,List.isEmpty_cons,Bool.or_false,Bool.false_eq_true,Bool.and_eq_true,beq_iff_eq]at ho
   case mk k' t=>
    obtain⟨rfl,hb⟩:=ho;refine .sl t _ v ?_;rw[Zx hb];exact Ft (xT.mkd k (Ty.rep t)) (Ty.rep t) rfl rfl (λ_ hb=>hb) (λcs x r=>(Ty.rep t).mono r (λ_ _=>rfl) λb hb=>hb.1) h1
theorem zgW{k:Bool}:∀ {cs:List Value} {ds:List D},xH (Rp w (R9 k w S)) cs ds→xH (Rp w S) cs (ds.map (CX k))
 |_,_,.nil=> .nil
 |_,_,.cons h hs=> .cons (zns h) (zgW hs)
theorem BW{k:Bool}:∀ {cs:List Value} {ds:List D},ds.all (A9 k)=true→xH (Rp w S) cs ds→xH (Rp w (R9 k w S)) cs (ds.map BU)
 |_,_,_,.nil=> .nil
 |_,_,ho,.cons h hs=>by
  simp only[List.all_cons,Bool.and_eq_true]at ho
  exact .cons (zjL ho.1 h) (BW ho.2 hs)
theorem OW.sl{t:Ty}{v:Value}{xs:List t.den}(h:OW w (CW t w S) [v] xs):Rp w S v (.sl t xs):=.sl t xs v (by
 obtain⟨A,c,rfl,_,h'⟩:=zcb h;exact h')
theorem cW:(t:Ty)→ {S:Nat→Prop}→ {x:t.den}→ {cs:List Value}→xT.rd w S cs x→xH (Rp w S) cs (cells t x)
 | .int,S,x,cs,h=>by obtain⟨rfl,h⟩:=h;exact .cons (.int_mk h) .nil
 | .bool,S,x,cs,(h:cs=[.bool x])=>by subst h;exact .cons (.bool x) .nil
 | .str,S,x,cs,h=>by obtain⟨rfl,h⟩:=h;exact .cons (.str x h) .nil
 | .tok,S,x,cs,h=>by obtain⟨rfl,h1,h2,h3⟩:=h;exact .cons (.int_mk h1) (.cons (.int_mk h2) (.cons (.str _ h3) .nil))
 | .lit,S,x,cs,h=>by obtain⟨rfl,h1,h2,h3⟩:=h;exact .cons (.int_mk h1) (.cons (.int_mk h2) (.cons (.int_mk h3) .nil))
 | .var,S,x,cs,h=>by obtain⟨rfl,h1,h2,h3⟩:=h;exact .cons (.str _ h1) (.cons (.int_mk h2) (.cons (.int_mk h3) .nil))
 | .con,S,x,cs,h=>by obtain⟨v1,v2,v3,v4,rfl,a,b,h1,h2,h3,h4⟩:=h;exact .cons (.int_mk a) (.cons (OW.sl (t:=.int) h1) (.cons (OW.sl (t:=.int) h2) (.cons (.int_mk b) (.cons (OW.sl (t:=.list .int) h3) (.cons (OW.sl (t:=.lit) h4) .nil)))))
 | .mdl,S,x,cs,h=>by obtain⟨v1,v2,rfl,a,b,h1,h2⟩:=h;exact .cons (OW.sl (t:=.var) h1) (.cons (OW.sl (t:=.con) h2) (.cons (.int_mk a) (.cons (.int_mk b) .nil)))
 | .step,S,x,cs,h=>by obtain⟨v,rfl,a,b,h1⟩:=h;exact .cons (.int_mk a) (.cons (.int_mk b) (.cons (OW.sl (t:=.lit) h1) .nil))
 | .term,S,x,cs,h=>by obtain⟨rfl,h1,h2⟩:=h;exact .cons (.int_mk h1) (.cons (.int_mk h2) .nil)
 | .ans,S,x,cs,h=>by obtain⟨v1,v2,rfl,a,h1,h2⟩:=h;exact .cons (.int_mk a) (.cons (OW.sl (t:=.int) h1) (.cons (OW.sl (t:=.step) h2) .nil))
 | .list t,S,xs,cs,h=>by obtain⟨A,c,rfl,h⟩:=h;exact .cons (.sl t xs _ ⟨_,rfl,A,c,rfl,h⟩) .nil
 | .pr a b,S,x,cs,h=>by obtain⟨c1,c2,rfl,h1,h2⟩:=h;exact(cW a h1).append (cW b h2)
 | .byte,S,x,cs,(h:cs=[.int .u8 (x.toNat:Int)])=>by subst h;exact .cons (.int _ _ ⟨by omega,by have:=x.toNat_lt;omega⟩) .nil
 | .mk k t,S,x,cs,h=>zgW (cW (S:=R9 k w S) t h)
theorem YE{t:Ty}{d:D}{xs:List t.den}(h:Jj t d=some xs)(hr:Rp w S v d):OW w (CW t w S) [v] xs:=by
 cases d<;>simp only[Jj]at h
 case sl t' ys=>
  by_cases e:t'=t
  ·subst e;rw[dif_pos rfl]at h;injection h with h;subst h;exact I9 hr.sl_inv'
  ·rw[dif_neg e]at h
   cases t'<;>simp only[znb,reduceCtorEq]at h
   case mk k t''=>
    cases hb:t''.bare with
    |false=>rw[hb]at h;cases h
    |true=>
     rw[hb,cond_true]at h
     by_cases e2:t''=t
     ·subst e2;rw[dif_pos rfl]at h;injection h with h;subst h
      rw[Zx hb];exact I9 (Ft (xT.mkd k (Ty.rep t'')) (Ty.rep t'') rfl rfl (λ_ hb=>hb.1) (λcs x r=>(Ty.rep t'').mono r (λ_ _=>rfl) λb hb=>hb.1.1) hr.sl_inv')
     ·rw[dif_neg e2]at h;cases h
 case nil=>
  injection h with h;subst h
  rw[hr.nil_inv];exact⟨none,0,rfl,by simp,by simp,by simp,λ_=>rfl,λhn=>absurd hn (by simp)⟩
 all_goals cases h
theorem TS{w:World}{S:Nat→Prop}(t:Ty){ds:List D}{x:t.den}{cs:List Value}(h:ofD t ds=some x)(hr:xH (Rp w S) cs ds):xT.rd w S cs x:=by
 unfold ofD at h
 split at h
 case h_1=>injection h with h;subst h;obtain _|⟨h1,_|_⟩:=hr;obtain⟨rfl,g1⟩:=h1.int_inv;exact⟨rfl,g1⟩
 case h_2=>injection h with h;subst h;obtain _|⟨h1,_|_⟩:=hr;rw[h1.bool_inv];rfl
 case h_3=>injection h with h;subst h;obtain _|⟨h1,_|_⟩:=hr;obtain⟨rfl,g1⟩:=h1.str_inv;exact⟨rfl,g1⟩
 case h_4=>injection h with h;subst h;obtain _|⟨h1,_|⟨h2,_|⟨h3,_|_⟩⟩⟩:=hr;obtain⟨rfl,g1⟩:=h1.int_inv;obtain⟨rfl,g2⟩:=h2.int_inv;obtain⟨rfl,g3⟩:=h3.str_inv;exact⟨rfl,g1,g2,g3⟩
 case h_5=>injection h with h;subst h;obtain _|⟨h1,_|⟨h2,_|⟨h3,_|_⟩⟩⟩:=hr;obtain⟨rfl,g1⟩:=h1.int_inv;obtain⟨rfl,g2⟩:=h2.int_inv;obtain⟨rfl,g3⟩:=h3.int_inv;exact⟨rfl,g1,g2,g3⟩
 case h_6=>injection h with h;subst h;obtain _|⟨h1,_|⟨h2,_|⟨h3,_|_⟩⟩⟩:=hr;obtain⟨rfl,g1⟩:=h1.str_inv;obtain⟨rfl,g2⟩:=h2.int_inv;obtain⟨rfl,g3⟩:=h3.int_inv;exact⟨rfl,g1,g2,g3⟩
 case h_7=>
  obtain _|⟨h1,_|⟨h2,_|⟨h3,_|⟨h4,_|⟨h5,_|⟨h6,_|_⟩⟩⟩⟩⟩⟩:=hr
  obtain⟨rfl,g1⟩:=h1.int_inv;obtain⟨rfl,g4⟩:=h4.int_inv;split at h
  ·rename_i q2 q3 q5 q6;injection h with h;subst h
   exact⟨_,_,_,_,rfl,g1,g4,YE q2 h2,YE q3 h3,YE q5 h5,YE q6 h6⟩
  ·cases h
 case h_8=>
  obtain _|⟨h1,_|⟨h2,_|⟨h3,_|⟨h4,_|_⟩⟩⟩⟩:=hr
  obtain⟨rfl,g3⟩:=h3.int_inv;obtain⟨rfl,g4⟩:=h4.int_inv;split at h
  ·rename_i q1 q2;injection h with h;subst h
   exact⟨_,_,rfl,g3,g4,YE q1 h1,YE q2 h2⟩
  ·cases h
 case h_9=>
  obtain _|⟨h1,_|⟨h2,_|⟨h3,_|_⟩⟩⟩:=hr
  obtain⟨rfl,g1⟩:=h1.int_inv;obtain⟨rfl,g2⟩:=h2.int_inv;split at h
  ·rename_i q1;injection h with h;subst h
   exact⟨_,rfl,g1,g2,YE q1 h3⟩
  ·cases h
 case h_10=>injection h with h;subst h;obtain _|⟨h1,_|⟨h2,_|_⟩⟩:=hr;obtain⟨rfl,g1⟩:=h1.int_inv;obtain⟨rfl,g2⟩:=h2.int_inv;exact⟨rfl,g1,g2⟩
 case h_11=>
  obtain _|⟨h1,_|⟨h2,_|⟨h3,_|_⟩⟩⟩:=hr
  obtain⟨rfl,g1⟩:=h1.int_inv;split at h
  ·rename_i q1 q2;injection h with h;subst h
   exact⟨_,_,rfl,g1,YE q1 h2,YE q2 h3⟩
  ·cases h
 case h_12=>
  obtain _|⟨h1,_|_⟩:=hr
  exact YE h h1
 case h_13 a b=>
  split at h
  ·rename_i x y q1 q2
   injection h with h;subst h
   obtain⟨e1,e2⟩:=hr.split a.size;exact⟨_,_,(List.take_append_drop a.size cs).symm,TS a q1 e1,TS b q2 e2⟩
  ·cases h
 case h_14 n=>
  injection h with h;subst h
  obtain _|⟨h1,_|_⟩:=hr
  obtain⟨rfl,g1,g2⟩:=h1.int_inv;show _=[_]
  rw[UInt8.toNat_ofNat',Nat.mod_eq_of_lt (by omega),Int.toNat_of_nonneg g1]
 case h_15 k t=>
  cases ho:ds.all (A9 k)with
  |false=>rw[ho]at h;cases h
  |true=>
   rw[ho]at h
   exact TS (S:=R9 k w S) t h (BW ho hr)
 case h_16=>cases h
end
end Go.Proofs.YteimklbiapnfhaaGreat
namespace Go.Proofs.YteimklbiapnfhaaGreat
open Go.RowKit
set_option linter.unusedVariables false
set_option linter.unusedSimpArgs false
variable[Lo]
inductive wT
 |cells (ds:List D)
 |row (e:TypeId) (t:Ty) (xs:List t.den)
 |mp (k v:Ty) (es:List (k.den×v.den))
 |val (ds:List D)
structure St where
 fr:List (Nat×D)
 hp:List (Nat×wT)
def yB{α:Type}(k:Nat):List (Nat×α)→Option α
 |[]=>none
 |(i,a)::r=>bif Nat.beq i k then some a else yB k r
def D.or:Option D→D
 |some d=>d
 |none=> .undef
def St.get(σ:St)(i:Nat):D:=D.or (yB i σ.fr)
def St.ob(σ:St)(k:Nat):Option wT:=yB k σ.hp
def St.put(σ:St)(i:Nat)(d:D):St:=⟨(i,d)::σ.fr,σ.hp⟩
def St.putO(σ:St):Option Nat→D→St
 |some i,d=>σ.put i d
 |none,_=>σ
def D.ref:D→Option Nat
 | .own k=>some k
 | .ownN k=>some k
 | .ptr k _=>some k
 | .oelt k _ _ _=>some k
 | .clp _ _ k _=>some k
 | .slf k=>some k
 |_=>none
def D.kill(k:Nat)(d:D):D:=match d.ref with
 |some j=>bif Nat.beq j k then .undef else d
 |none=>d
def wT.map(f:D→D):wT→wT
 | .cells ds=> .cells (ds.map f)
 | .val ds=> .val (ds.map f)
 |o=>o
def jU:D→Bool
 | .agg _| .tup _| .undef| .ifc _| .slf _=>false
 |_=>true
def jE:D→Bool
 | .slf _=>true
 | .ifc (.pointer none)=>true
 |_=>false
def Xv:List D→Bool
 |d::_=>jE d
 |[]=>false
def znt:List (Nat×Nat):=[]
def memT:List (Nat×Nat)→Nat→Nat→Bool
 |[],_,_=>false
 |i::r,k,n=>bif Nat.beq i.1 k&&Nat.beq i.2 n then true else memT r k n
def tyC(T:TypeId)(ds:List D):Prop:=Xv ds=true→memT znt T ds.length=true
theorem zd2{f:D→D}(hf:∀d,jE (f d)=true→jE d=true):∀ {ds:List D},Xv (ds.map f)=true→Xv ds=true
 |[],h=>h
 |d::r,h=>hf d h
theorem TT{f:D→D}(hf:∀d,jE (f d)=true→jE d=true){T:TypeId}{ds:List D}(h:tyC T ds):tyC T (ds.map f):=λh'=>by rw[List.length_map];exact h (zd2 hf h')
theorem NW{ds:List D}{i:Nat}{d:D}(h:Xv (ds.set i d)=true):Xv ds=true∨(i=0∧jE d=true):=by
 cases ds with
 |nil=>exact .inl h
 |cons a r=>
  cases i with
  |zero=>exact .inr ⟨rfl,h⟩
  |succ i=>exact .inl h
def wT.parts:wT→List D
 | .cells ds=>ds
 | .val ds=>ds
 |_=>[]
def St.map(f:D→D)(σ:St):St:=⟨σ.fr.map λx=>(x.1,f x.2),σ.hp.map λx=>(x.1,x.2.map f)⟩
def drop{α:Type}(k:Nat):List (Nat×α)→List (Nat×α)
 |[]=>[]
 |(i,a)::r=>bif Nat.beq i k then drop k r else(i,a)::drop k r
def St.mk'(σ:St)(k:Nat)(o:wT):St:=⟨(σ.map (D.kill k)).fr,(k,o)::drop k (σ.map (D.kill k)).hp⟩
def St.setOb(σ:St)(k:Nat)(o:wT):St:=⟨σ.fr,(k,o)::drop k σ.hp⟩
def rQ(k:Nat):wT→D→D
 | .cells ds,.ptr j off=>bif Nat.beq j k then .iptr ds off else .ptr j off
 | .row _ t xs,.own j=>bif Nat.beq j k then(bif t.isOd then .undef else .sl t xs)else .own j
 | .row _ t xs,.ownN j=>bif Nat.beq j k then(bif t.isOd then .undef else .slN t xs false)else .ownN j
 | .row _ t xs,.oelt j sz i off=>bif Nat.beq j k then bif Nat.beq sz t.size&& !t.isOd then .elt t xs i off else .undef else .oelt j sz i off
 | .val ds,.own j=>bif Nat.beq j k then .agg ds else .own j
 | .mp kt vt es,.own j=>bif Nat.beq j k then .mp kt vt es else .own j
 |_,d=>d.kill k
def St.pub(σ:St)(k:Nat)(o:wT):St:=⟨(σ.map (rQ k o)).fr,drop k (σ.map (rQ k o)).hp⟩
section
variable {α:Type}
theorem yV{i k:Nat}:Nat.beq i k=true↔i=k:=Iff.of_eq Nat.beq_eq
theorem xX(k i:Nat)(a:α)(r:List (Nat×α)):yB k ((i,a)::r)=if i=k then some a else yB k r:=by
 show(bif Nat.beq i k then some a else yB k r)=_
 by_cases h:i=k
 ·rw[yV.2 h,cond_true,if_pos h]
 ·have:Nat.beq i k=false:=by
   cases hb:Nat.beq i k with
   |true=>exact absurd (yV.1 hb) h
   |false=>rfl
  rw[this,cond_false,if_neg h]
theorem kG(f:α→α)(k:Nat):∀l:List (Nat×α),yB k (l.map λx=>(x.1,f x.2))=(yB k l).map f
 |[]=>rfl
 |(i,a)::r=>by
  rw[List.map_cons,xX,xX,kG f k r];split<;>rfl
theorem qR(k j:Nat):∀l:List (Nat×α),yB j (drop k l)=if k=j then none else yB j l
 |[]=>by simp[drop,yB]
 |(i,a)::r=>by
  show yB j (bif Nat.beq i k then drop k r else(i,a)::drop k r)=_
  cases hb:Nat.beq i k with
  |true=>
   have:=yV.1 hb;subst this;rw[cond_true,qR i j r,xX];split<;>simp_all
  |false=>
   rw[cond_false,xX,xX,qR k j r];have hik:i≠k:=λh=>by rw[yV.2 h]at hb;cases hb
   by_cases h1:i=j
   ·rw[if_pos h1,if_pos h1,if_neg (by omega)]
   ·rw[if_neg h1,if_neg h1]
end
def Rd(w:World)(S:Nat→Prop)(pl:Nat→Value)(v:Value)(d:D):Prop:=
 match d with
 | .own k=>v=pl k
 | .ownN k=>v=pl k∧v≠ .slice none 0 0
 | .ptr k off=>∃b,pl k=.pointer (some ⟨b,0,none⟩)∧v=.pointer (some ⟨b,off,none⟩)
 | .oelt k sz i off=>∃b n c,pl k=.slice (some ⟨b,0,none⟩) n c∧i<n∧v=.pointer (some ⟨b,i*sz+off,none⟩)
 | .slf k=>v=.pointer none∨∃b,pl k=.pointer (some ⟨b,0,none⟩)∧v=.pointer (some ⟨b,0,none⟩)
 | .clp f bd k off=>∃b,pl k=.pointer (some ⟨b,0,none⟩)∧v=.func (.func f) (bif bd then #[.pointer (some ⟨b,off,none⟩)]else #[]) (bif bd then #[]else #[.pointer (some ⟨b,off,none⟩)])
 |d=>Rp w S v d
def nQ:Value→Option Nat
 | .pointer (some a)=>some a.block
 | .slice (some a) _ _=>some a.block
 | .map (some b)=>some b
 |_=>none
def lim:Nat:=140737488355328
def cO(w:World)(S:Nat→Prop)(pl:Nat→Value)(p:Value):wT→Prop
 | .cells ds=>∃b vs T,p=.pointer (some ⟨b,0,none⟩)∧w.heap[b]? =some (.cells vs T (0,0))∧vs.size=ds.length∧
   (∀i d,ds[i]? =some d→Rd w S pl (vs.getD i undef) d)∧tyC T ds
 | .row e t xs=>xs.length*t.bytes≤lim∧∃css:List (List Value),css.length=xs.length∧w.ownsRow 0 e t.size p xs.length css.flatten∧(∀cs∈css,cs.length=t.size)∧
   ∀(i:Nat) (x:t.den) (cs:List Value),xs[i]? =some x→css[i]? =some cs→xT.rd w S cs x
 | .mp kt vt es=>∃b,p=.map (some b)∧zcd w S b kt vt es
 | .val ds=>∃vs,p=.agg vs∧vs.size=ds.length∧∀i d,ds[i]? =some d→Rd w S pl (vs.getD i undef) d∧(jU d=true→(vs.getD i undef).oneCell'=true)
def stabK(k:Nat):Bool:=Nat.ble 1000 k&&Nat.blt k 2000
structure Y6 where
 w:World
 S:Nat→Prop
 O:Nat→Prop
 pl:Nat→Value
structure nK (B:Nat)(O:Nat→Prop)(w w':World):Prop where
 os:w'.os=w.os
 tape:w'.tape=w.tape
 output:w'.output=w.output
 size:w.heap.size≤w'.heap.size
 block:∀k,k<B→¬O k→w'.heap[k]? =w.heap[k]?
theorem nK.of{B:Nat}{O:Nat→Prop}{w w':World}(h:Below B w w'):nK B O w w':=⟨h.os,h.tape,h.output,h.size,λk hk _=>h.block k hk⟩
theorem nK.trans{B:Nat}{O:Nat→Prop}{a b c:World}(h:nK B O a b)(k:nK B O b c):nK B O a c:=
 ⟨k.os.trans h.os,k.tape.trans h.tape,k.output.trans h.output,Nat.le_trans h.size k.size,λi hi ho=>(k.block i hi ho).trans (h.block i hi ho)⟩
theorem nK.below{B:Nat}{O:Nat→Prop}{w w':World}(h:nK B O w w')(hO:∀b,¬O b):Below B w w':=⟨h.os,h.tape,h.output,h.size,λk hk=>h.block k hk (hO k)⟩
def GOk(P:Program)(w:World)(O:Nat→Prop):Prop:=(∀g,P.globalNamed "internal/strconv.uint64pow10" =some g→Lib.TabIs P w "internal/strconv.uint64pow10" .u64 Lib.pow10Tab∧¬O g)∧(∀b,w.heap.size≤b→Lo.new b)∧∀b,O b→Lo.new b
theorem GOk.step{P:Program}{w w':World}{O O':Nat→Prop}(h:GOk P w O)(hb:nK w.heap.size O w w')(hO:∀b,O' b→O b∨w.heap.size≤b):GOk P w' O':=⟨λg hg=>by
 obtain⟨h1,h2⟩:=h.1 g hg
 have hlt:g<w.heap.size:=by
  rcases Nat.lt_or_ge g w.heap.size with hl|hl
  ·exact hl
  ·unfold Lib.TabIs World.var? at h1
   rw[hg]at h1
   simp only[Option.bind_some,Array.getElem?_eq_none hl]at h1
   cases h1
 refine⟨?_,λho=>(hO g ho).elim h2 λhge=>by omega⟩
 unfold Lib.TabIs World.var? at h1⊢
 rw[hg]at h1⊢
 simp only[Option.bind_some]at h1⊢
 rw[hb.block g hlt h2];exact h1,λb hge=>h.2.1 b (Nat.le_trans hb.size hge),λb hb'=>(hO b hb').elim (h.2.2 b) λhge=>h.2.1 b hge⟩
theorem GOk.sub{P:Program}{w:World}{O O':Nat→Prop}(h:GOk P w O)(hO:∀b,O' b→O b):GOk P w O':=⟨λg hg=>⟨(h.1 g hg).1,λho=>(h.1 g hg).2 (hO g ho)⟩,h.2.1,λb hb=>h.2.2 b (hO b hb)⟩
structure tD (P:Program)(b0:Y6)(N:Nat)(σ:St)(a:Act)(w:World)(S:Nat→Prop)(pl:Nat→Value):Prop where
 dz:a.defers=[]
 sz:a.tmps.size=N
 fr:∀i,Rd w S pl (a.tmps.getD i undef) (σ.get i)
 hp:∀k o,yB k σ.hp=some o→cO w S pl (pl k) o
 lt:∀b,S b→b<w.heap.size
 src:∀b,S b→b0.S b∨b0.O b∨b0.w.heap.size≤b
 priv:∀k o b,yB k σ.hp=some o→nQ (pl k)=some b→(b0.O b∨b0.w.heap.size≤b)∧b<w.heap.size∧¬S b
 inj:∀k k' o o' b,yB k σ.hp=some o→yB k' σ.hp=some o'→nQ (pl k)=some b→nQ (pl k')=some b→k=k'
 below:nK b0.w.heap.size b0.O b0.w w
 stay:∀k,stabK k=true→pl k=b0.pl k
 gok:GOk P b0.w b0.O
theorem tD.gnow{P:Program}{b0:Y6}{N:Nat}{σ:St}{a:Act}{w:World}{S:Nat→Prop}{pl:Nat→Value}(m:tD P b0 N σ a w S pl){O:Nat→Prop}(hO:∀b,O b→b0.O b∨b0.w.heap.size≤b):GOk P w O:=m.gok.step m.below hO
theorem PY{k:Nat}{d:D}(h:jU (d.kill k)=true):jU d=true:=by
 cases d<;>first|rfl|exact h|(simp only[D.kill,D.ref]at h;revert h;cases Nat.beq _ k<;>exact id)
theorem Jl{k:Nat}{d:D}(h:jE (d.kill k)=true):jE d=true:=by
 cases d<;>first|rfl|exact h|(simp only[D.kill,D.ref]at h;revert h;cases Nat.beq _ k<;>exact id)
theorem D.kill_ne{k:Nat}{d:D}(h:d.ref≠some k):d.kill k=d:=by
 unfold D.kill;cases hr:d.ref with
 |none=>rfl
 |some j=>
  simp only;cases hb:Nat.beq j k with
  |true=>rw[hr,yV.1 hb]at h;exact absurd rfl h
  |false=>rfl
theorem D.kill_eq{k:Nat}{d:D}(h:d.ref=some k):d.kill k=.undef:=by
 unfold D.kill;rw[h];simp only[yV.2 (rfl:k=k),cond_true]
section
variable {P:Program}{b0:Y6}{w w':World}{S S':Nat→Prop}{pl pl':Nat→Value}{N:Nat}{σ:St}{a:Act}{v:Value}{d:D}
theorem Rd.flat(h:Rd w S pl v d)(hd:d.ref=none):Rp w S v d:=by
 cases d<;>first|exact h|(simp[D.ref]at hd)
theorem Rp.rd(h:Rp w S v d):Rd w S pl v d:=by
 cases d<;>first|exact h|cases h
theorem Rd.mono(h:Rd w S pl v d)(hk:∀b,S b→w'.heap[b]? =w.heap[b]?)(hS:∀b,S b→S' b)(hp:∀k,d.ref=some k→pl' k=pl k):Rd w' S' pl' v d:=by
 cases hr:d.ref with
 |none=>exact((h.flat hr).mono hk hS).rd
 |some k=>
  have hp:=hp k hr;cases d<;>simp only[D.ref,Option.some.injEq,reduceCtorEq]at hr
  all_goals subst hr;simp only[Rd]at h⊢;rw[hp];exact h
theorem Rd.kill(h:Rd w S pl v d)(k:Nat):Rd w S pl v (d.kill k):=by
 by_cases hr:d.ref=some k
 ·rw[D.kill_eq hr];exact Rp.rd (.undef v)
 ·rw[D.kill_ne hr];exact h
theorem Wt(d:D)(k:Nat):(d.kill k).ref≠some k:=by
 by_cases hr:d.ref=some k
 ·rw[D.kill_eq hr];simp[D.ref]
 ·rw[D.kill_ne hr];exact hr
theorem tV:Rd w S pl v .undef:=Rp.rd (.undef v)
theorem cO.mono{p:Value}{o:wT}(h:cO w S pl p o)(hk:∀b,S b→w'.heap[b]? =w.heap[b]?)(hb:∀b,nQ p=some b→w'.heap[b]? =w.heap[b]?)(hS:∀b,S b→S' b)
  (hp:∀d k,d∈o.parts→d.ref=some k→pl' k=pl k):cO w' S' pl' p o:=by
 cases o with
 |cells ds=>
  obtain⟨b,vs,T,rfl,h1,h2,h3,h4⟩:=h;exact⟨b,vs,T,rfl,by rw[hb b rfl];exact h1,h2,λi d hd=>(h3 i d hd).mono hk hS λk hr=>hp d k (List.mem_of_getElem? hd) hr,h4⟩
 |val ds=>
  obtain⟨vs,rfl,h2,h3⟩:=h;exact⟨vs,rfl,h2,λi d hd=>⟨(h3 i d hd).1.mono hk hS λk hr=>hp d k (List.mem_of_getElem? hd) hr,(h3 i d hd).2⟩⟩
 |row e t xs=>
  obtain⟨h0,css,h1,h2,h3,h4⟩:=h;refine⟨h0,css,h1,⟨h2.1,?_⟩,h3,λi x cs hx hc=>xT.mono (h4 i x cs hx hc) hk hS⟩
  rcases h2.2 with hn|⟨g,cap,cur,rfl,hb',hg,rest⟩
  ·exact .inl hn
  ·exact .inr ⟨g,cap,cur,rfl,hb',by rw[hb g rfl];exact hg,rest⟩
 |mp kt vt es=>
  obtain⟨b,rfl,h⟩:=h;exact⟨b,rfl,h.mono hk (hb b rfl) hS⟩
theorem St.get_put(σ:St)(i j:Nat)(d:D):(σ.put i d).get j=if i=j then d else σ.get j:=by
 unfold St.get St.put;rw[xX];split<;>rfl
theorem St.get_map(f:D→D)(hf:f .undef=.undef)(σ:St)(i:Nat):(σ.map f).get i=f (σ.get i):=by
 unfold St.get St.map;rw[kG];cases yB i σ.fr<;>simp[D.or,hf]
theorem tD.put(m:tD P b0 N σ a w S pl){i:Nat}(hi:i<N)(h:Rd w S pl v d):tD P b0 N (σ.put i d) {a with tmps:=a.tmps.setIfInBounds i v} w S pl where
 dz:=m.dz
 sz:=by simpa using m.sz
 fr:=λj=>by
  rw[St.get_put]
  by_cases hj:i=j
  ·subst hj;rw[if_pos rfl];rw[Array.getD_eq_getD_getElem?];simpa[m.sz,hi]using h
  ·rw[if_neg hj,Array.getD_eq_getD_getElem?,Array.getElem?_setIfInBounds_ne hj,←Array.getD_eq_getD_getElem?];exact m.fr j
 hp:=m.hp
 lt:=m.lt
 src:=m.src
 priv:=m.priv
 inj:=m.inj
 below:=m.below
 stay:=m.stay
 gok:=m.gok
theorem tD.putO(m:tD P b0 N σ a w S pl){dst:Option Nat}(hi:∀i,dst=some i→i<N)(h:Rd w S pl v d):tD P b0 N (σ.putO dst d) (a.put dst v) w S pl:=by
 cases dst with
 |none=>exact m
 |some i=>exact m.put (hi i rfl) h
theorem tD.world(m:tD P b0 N σ a w S pl)(hS:∀b,S b→w'.heap[b]? =w.heap[b]?)(hP:∀k o b,yB k σ.hp=some o→nQ (pl k)=some b→w'.heap[b]? =w.heap[b]?)
  (hs:w.heap.size≤w'.heap.size) (hb:nK b0.w.heap.size b0.O b0.w w'):tD P b0 N σ a w' S pl where
 dz:=m.dz
 sz:=m.sz
 fr:=λi=>(m.fr i).mono hS (λ_ h=>h) λ_ _=>rfl
 hp:=λk o h=>(m.hp k o h).mono hS (λb hb=>hP k o b h hb) (λ_ h=>h) λ_ _ _ _=>rfl
 lt:=λb h=>Nat.lt_of_lt_of_le (m.lt b h) hs
 src:=m.src
 priv:=λk o b h h'=>⟨(m.priv k o b h h').1,Nat.lt_of_lt_of_le (m.priv k o b h h').2.1 hs,(m.priv k o b h h').2.2⟩
 inj:=m.inj
 below:=hb
 stay:=m.stay
 gok:=m.gok
theorem tD.later(m:tD P b0 N σ a w S pl)(hb:Below w.heap.size w w'):tD P b0 N σ a w' S pl:=
 m.world (λb h=>hb.block b (m.lt b h)) (λk o b h h'=>hb.block b (m.priv k o b h h').2.1) hb.size (m.below.trans (.of (hb.mono m.below.size)))
theorem tD.more(m:tD P b0 N σ a w S pl)(hS:∀b,S b→S' b)(h1:∀b,S' b→b<w.heap.size)(h2:∀b,S' b→b0.S b∨b0.O b∨b0.w.heap.size≤b)(h3:∀k o b,yB k σ.hp=some o→nQ (pl k)=some b→¬S' b):tD P b0 N σ a w S' pl where
 dz:=m.dz
 sz:=m.sz
 fr:=λi=>(m.fr i).mono (λ_ _=>rfl) hS λ_ _=>rfl
 hp:=λk o h=>(m.hp k o h).mono (λ_ _=>rfl) (λ_ _=>rfl) hS λ_ _ _ _=>rfl
 lt:=h1
 src:=h2
 priv:=λk o b h h'=>⟨(m.priv k o b h h').1,(m.priv k o b h h').2.1,h3 k o b h h'⟩
 inj:=m.inj
 below:=m.below
 stay:=m.stay
 gok:=m.gok
theorem fK{α:Type}{k:Nat}{o:α}:∀ {l:List (Nat×α)},yB k l=some o→(k,o)∈l
 |[],h=>by cases h
 |(i,x)::r,h=>by
  rw[xX]at h
  split at h
  ·rename_i e;injection h with h;subst h e;exact List.mem_cons_self
  ·exact List.mem_cons_of_mem _ (fK h)
theorem tD.mk'(m:tD P b0 N σ a w S pl)(k:Nat)(hst:stabK k=false)(o:wT)(p:Value)(hlater:Below w.heap.size w w')(hp:∀b,nQ p=some b→w.heap.size≤b∧b<w'.heap.size)
  (ho:∀pl':Nat→Value,(∀j,j≠k→pl' j=pl j)→cO w' S pl' p o):tD P b0 N (σ.mk' k o) a w' S (λj=>if j=k then p else pl j):=by
 have m':=m.later hlater;have hne:∀j,j≠k→(λj=>if j=k then p else pl j) j=pl j:=λj hj=>if_neg hj
 have hold:∀j o',yB j (σ.mk' k o).hp=some o'→j≠k→∃o₀,yB j σ.hp=some o₀∧o'=o₀.map (D.kill k):=by
  intro j o' h hj;simp only[St.mk',xX,qR,if_neg (Ne.symm hj)]at h
  simp only[St.map,kG]at h
  cases ho:yB j σ.hp with
  |none=>rw[ho]at h;cases h
  |some o₀=>rw[ho]at h;injection h with h;exact⟨o₀,rfl,h.symm⟩
 refine⟨m.dz,m.sz,λi=> ?_,λj o' h=> ?_,m'.lt,m'.src,λj o' b h hb=> ?_,λj j' o1 o2 b h1 h2 hb1 hb2=> ?_,m'.below,λj hj=>(hne j λe=>by rw[e,hst]at hj;cases hj).trans (m.stay j hj),m.gok⟩
 ·have e:(σ.mk' k o).get i=(σ.get i).kill k:=by
   show D.or (yB i (σ.map (D.kill k)).fr)=_
   exact St.get_map _ rfl σ i
  rw[e];exact((m'.fr i).kill k).mono (λ_ _=>rfl) (λ_ h=>h) λj hj=>hne j λe=>Wt _ _ (e▸hj)
 ·by_cases hj:j=k
  ·subst hj
   simp only[St.mk',xX,if_pos]at h
   injection h with h;subst h
   rw[if_pos rfl];exact ho _ hne
  ·obtain⟨o₀,h0,rfl⟩:=hold j o' h hj
   rw[if_neg hj];have h1:=m'.hp j o₀ h0;cases o₀ with
   |row e t xs=>exact cO.mono (pl:=pl) h1 (λ_ _=>rfl) (λ_ _=>rfl) (λ_ h=>h) λ_ _ e=>by cases e
   |mp kt vt es=>exact cO.mono (pl:=pl) h1 (λ_ _=>rfl) (λ_ _=>rfl) (λ_ h=>h) λ_ _ e=>by cases e
   |val ds=>
    obtain⟨vs,e1,e3,e4⟩:=h1;refine⟨vs,e1,by simpa using e3,λi d hd=> ?_⟩
    simp only[List.getElem?_map,Option.map_eq_some_iff]at hd
    obtain⟨d0,hd0,rfl⟩:=hd;exact⟨((e4 i d0 hd0).1.kill k).mono (λ_ _=>rfl) (λ_ h=>h) λj hj=>hne j λe=>Wt _ _ (e▸hj),λhc=>(e4 i d0 hd0).2 (PY hc)⟩
   |cells ds=>
    obtain⟨b,vs,T,e1,e2,e3,e4,e5⟩:=h1;refine⟨b,vs,T,e1,e2,by simpa using e3,λi d hd=> ?_,TT (λ_=>Jl) e5⟩
    simp only[List.getElem?_map,Option.map_eq_some_iff]at hd
    obtain⟨d0,hd0,rfl⟩:=hd;exact((e4 i d0 hd0).kill k).mono (λ_ _=>rfl) (λ_ h=>h) λj hj=>hne j λe=>Wt _ _ (e▸hj)
 ·by_cases hj:j=k
  ·rw[if_pos hj]at hb
   obtain⟨hb1,hb2⟩:=hp b hb;exact⟨.inr (Nat.le_trans m.below.size hb1),hb2,λhs=>by have:=m.lt b hs;omega⟩
  ·rw[if_neg hj]at hb
   obtain⟨o₀,h0,_⟩:=hold j o' h hj;exact m'.priv j o₀ b h0 hb
 ·by_cases hj:j=k<;>by_cases hj':j'=k
  ·rw[hj,hj']
  ·rw[if_pos hj]at hb1;rw[if_neg hj']at hb2
   obtain⟨o₀,h0,_⟩:=hold j' o2 h2 hj';have:=(m.priv j' o₀ b h0 hb2).2.1;have:=(hp b hb1).1;omega
  ·rw[if_neg hj]at hb1;rw[if_pos hj']at hb2
   obtain⟨o₀,h0,_⟩:=hold j o1 h1 hj;have:=(m.priv j o₀ b h0 hb1).2.1;have:=(hp b hb2).1;omega
  ·rw[if_neg hj]at hb1;rw[if_neg hj']at hb2
   obtain⟨p1,h1',_⟩:=hold j o1 h1 hj;obtain⟨p2,h2',_⟩:=hold j' o2 h2 hj';exact m.inj j j' p1 p2 b h1' h2' hb1 hb2
end
end Go.Proofs.YteimklbiapnfhaaGreat
namespace Go.Proofs.YteimklbiapnfhaaGreat
open Go.RowKit
set_option linter.unusedVariables false
set_option linter.unusedSimpArgs false
variable[Lo]
def wT.flat:wT→Prop
 | .cells ds=>∀d∈ds,d.ref=none
 | .row _ _ _=>True
 | .mp _ _ _=>True
 | .val ds=>∀d∈ds,d.ref=none
def St.forget(σ:St)(k:Nat):St:=⟨(σ.map (D.kill k)).fr,drop k (σ.map (D.kill k)).hp⟩
def OX(pl:Nat→Value)(k:Nat)(p:Value):Nat→Value:=λj=>if j=k then p else pl j
section
variable {P:Program}{b0:Y6}{w w':World}{S S':Nat→Prop}{pl pl':Nat→Value}{N:Nat}{σ:St}{a:Act}{v:Value}{d:D}
theorem M5{p:Value}{e:TypeId}{t:Ty}{xs:List t.den}(h:cO w S pl p (.row e t xs)):cB w (λb=>S b∨nQ p=some b) p xs:=by
 obtain⟨h0,css,h3,h4,h5,h6⟩:=h;rcases h4.2 with⟨rfl,hn⟩|⟨g,cap,cur,rfl,_,hg,hcap,hmax,hcur,htake⟩
 ·obtain rfl:=List.eq_nil_of_length_eq_zero hn
  exact⟨[.slice none 0 0],rfl,none,0,rfl,by simp,by simp,by simp,λ_=>rfl,λhn=>absurd hn (by simp)⟩
 ·refine⟨[_],rfl,some ⟨g,0,none⟩,cap,rfl,by rw[←Ty.bytes_eq];exact h0,hcap,hmax,(λe=>by cases e),λhn=> ?_⟩
  refine⟨g,0,rfl,.inr rfl,λi x hx=> ?_⟩
  have hi:i<xs.length:=(List.getElem?_eq_some_iff.1 hx).1;have hc:css[i]? =some (css[i]'(by omega)):=List.getElem?_eq_getElem (by omega)
  refine⟨_,xT.mono (h6 i x _ hx hc) (λ_ _=>rfl) (λb hb=> .inl hb),λj u hu=> ?_⟩
  have hf:=Fr css h5 i j _ u hc hu;have:=h4.cells (g:=g) rfl _ _ hf;rw[←this,Ty.size_eq];unfold Addr.add;split
  ·rename_i e;simp[e]
  ·simp
theorem fL{j k:Nat}(h:j≠k):Nat.beq j k=false:=by
 cases hb:Nat.beq j k with
 |true=>exact absurd (yV.1 hb) h
 |false=>rfl
theorem M6{k:Nat}{o:wT}{d:D}(h:d.ref≠some k):rQ k o d=d:=by
 cases d
 case own j=>have hb:=fL (λe:j=k=>h (by rw[e];rfl));cases o<;>simp[rQ,D.kill,D.ref,hb]
 case ptr j off=>have hb:=fL (λe:j=k=>h (by rw[e];rfl));cases o<;>simp[rQ,D.kill,D.ref,hb]
 case oelt j sz i off=>have hb:=fL (λe:j=k=>h (by rw[e];rfl));cases o<;>simp[rQ,D.kill,D.ref,hb]
 case ownN j=>have hb:=fL (λe:j=k=>h (by rw[e];rfl));cases o<;>simp[rQ,D.kill,D.ref,hb]
 case slf j=>have hb:=fL (λe:j=k=>h (by rw[e];rfl));cases o<;>simp[rQ,D.kill,D.ref,hb]
 case clp f bd j off=>have hb:=fL (λe:j=k=>h (by rw[e];rfl));cases o<;>simp[rQ,D.kill,D.ref,hb]
 all_goals cases o<;>rfl
theorem zce{k:Nat}{o:wT}{d:D}(h:jU (rQ k o d)=true):jU d=true:=by
 cases d<;>first|rfl|(cases o<;>first|exact h|exact PY h)
theorem zcf{k:Nat}{o:wT}{d:D}(h:jE (rQ k o d)=true):jE d=true:=by
 cases d<;>first|rfl|(cases o<;>first|exact h|exact Jl h|(simp only[rQ]at h;revert h;cases Nat.beq _ k<;>first|exact id|exact λh=>(by cases h)|(rw[cond_true];cases Ty.isOd _<;>exact λh=>(by cases h))|(rw[cond_true];cases(Nat.beq _ _&& !Ty.isOd _)<;>exact λh=>(by cases h))))
theorem zjM{p:Value}{e:TypeId}{t:Ty}{xs:List t.den}(h:cO w S pl p (.row e t xs)){b:Nat}(hb:nQ p=some b):Vr w b:=by
 obtain⟨_,css,_,h2,_⟩:=h;rcases h2.2 with hn|⟨g,cap,cur,rfl,_,hg,_⟩
 ·rw[hn.1]at hb;cases hb
 ·injection hb with hb;subst hb;exact⟨cur,e,hg⟩
theorem Ep{p:Value}{e:TypeId}{t:Ty}{xs:List t.den}(h:cO w S pl p (.row e t xs))(hlo:∀b,nQ p=some b→Lo.new b)(hod:t.isOd=false):cB w (CW t w (λb=>S b∨nQ p=some b)) p xs:=by
 cases t
 case mk k t0=>
  cases k
  case false=>cases hod
  have h':cO w (R9 true w S) pl p (.row e (.fr t0) xs):=by
   obtain⟨h0,css,h1,h2,h3,h4⟩:=h;exact⟨h0,css,h1,h2,h3,λi x cs hx hc=>(Ty.rep t0).mono (h4 i x cs hx hc) (λ_ _=>rfl) λ_ hb=>zgV hb⟩
  exact(M5 h').mono (λ_ _=>rfl) λb hb=>hb.elim (λhb=>⟨.inl hb.1,hb.2⟩) λhb=>⟨.inr hb,hlo b hb,zjM h hb⟩
 all_goals exact M5 h
theorem PZ{k:Nat}{o:wT}(hlo:∀b,nQ (pl k)=some b→Lo.new b)(ho:cO w S pl (pl k) o)(hf:o.flat)(h:Rd w S pl v d):Rd w (λb=>S b∨nQ (pl k)=some b) pl v (rQ k o d):=by
 by_cases hr:d.ref=some k
 ·cases o with
  |cells ds=>
   obtain⟨b,vs,T,e1,e2,e3,e4,_⟩:=ho;cases d<;>simp only[D.ref,Option.some.injEq,reduceCtorEq]at hr
   case ptr j off=>
    subst hr;simp only[rQ,yV.2 (rfl:j=j),cond_true];obtain⟨b',e1',rfl⟩:=h;rw[e1]at e1'
    injection e1' with e1';injection e1' with e1';injection e1' with e1';subst e1'
    refine Rp.rd (Rp.iptr_mk (.inr (by rw[e1];rfl)) λi d hd=> ?_)
    have hi:i<vs.size:=by rw[e3];exact(List.getElem?_eq_some_iff.1 hd).1
    refine⟨vs.getD i undef,?_,((e4 i d hd).flat (hf d (List.mem_of_getElem? hd))).mono (λ_ _=>rfl) λ_ h=> .inl h⟩
    rw[cell_of_row w b i vs T (0,0) e2];simp[Array.getD_eq_getD_getElem?,hi]
   all_goals
    subst hr;simp only[rQ];rw[D.kill_eq rfl];exact tV
  |row e t xs=>
   have hv:=M5 ho;have hv':=λhod=>Ep ho hlo hod
   cases d<;>simp only[D.ref,Option.some.injEq,reduceCtorEq]at hr
   case own j=>
    subst hr;simp only[rQ,yV.2 (rfl:j=j),cond_true];have h:v=pl j:=h;rw[h];cases hod:t.isOd with
    |true=>exact tV
    |false=>exact Rp.rd (.sl t xs _ (hv' hod))
   case ownN j=>
    subst hr;simp only[rQ,yV.2 (rfl:j=j),cond_true];have h:v=pl j∧v≠ .slice none 0 0:=h;cases hod:t.isOd with
    |true=>exact tV
    |false=>
     rw[h.1];exact Rp.rd (.slN t xs _ _ (hv' hod) (λ_=>by rw[←h.1];exact h.2) λe=>by cases e)
   case oelt j sz i off=>
    subst hr;simp only[rQ,yV.2 (rfl:j=j),cond_true];obtain⟨b,n,c,e1,hi,rfl⟩:=h;cases hz:(Nat.beq sz t.size&& !t.isOd)with
    |false=>exact tV
    |true=>
     rw[Bool.and_eq_true]at hz
     have hv:=hv' (by simpa using hz.2)
     rw[cond_true,yV.1 hz.1];obtain⟨A,c',e2,_⟩:=sZ hv;rw[e1]at e2
     injection e2 with e2 e3 e4
     subst e3;rw[e1]at hv
     have:=Rp.elt (w:=w) (S:=λb=>S b∨nQ (pl j)=some b) t xs i off b 0 c hi (by rw[e1];exact hv)
     rw[Nat.zero_add]at this
     exact Rp.rd this
   all_goals
    subst hr;simp only[rQ];rw[D.kill_eq rfl];exact tV
  |val ds=>
   obtain⟨vs,e1,e3,e4⟩:=ho;cases d<;>simp only[D.ref,Option.some.injEq,reduceCtorEq]at hr
   case own j=>
    subst hr;simp only[rQ,yV.2 (rfl:j=j),cond_true];have h:v=pl j:=h;rw[h,e1];exact Rp.rd (.agg vs ds e3 λi d hd=>((e4 i d hd).1.flat (hf d (List.mem_of_getElem? hd))).mono (λ_ _=>rfl) λ_ h=> .inl h)
   all_goals
    subst hr;simp only[rQ];rw[D.kill_eq rfl];exact tV
  |mp kt vt es=>
   obtain⟨b,e1,hm⟩:=ho;cases d<;>simp only[D.ref,Option.some.injEq,reduceCtorEq]at hr
   case own j=>
    subst hr;simp only[rQ,yV.2 (rfl:j=j),cond_true];have h:v=pl j:=h;rw[h,e1];exact Rp.rd (.mp kt vt es b (.inr rfl) (hm.mono (λ_ _=>rfl) rfl λ_ h=> .inl h))
   all_goals
    subst hr;simp only[rQ];rw[D.kill_eq rfl];exact tV
 ·rw[M6 hr]
  exact h.mono (λ_ _=>rfl) (λ_ h=> .inl h) λ_ _=>rfl
theorem tD.lo(m:tD P b0 N σ a w S pl){k:Nat}{o:wT}(h:yB k σ.hp=some o):∀b,nQ (pl k)=some b→Lo.new b:=λb hb=>
 (m.priv k o b h hb).1.elim (m.gok.2.2 b) λh=>m.gok.2.1 b h
theorem tD.pub(m:tD P b0 N σ a w S pl){k:Nat}{o:wT}(h:yB k σ.hp=some o)(hf:o.flat):tD P b0 N (σ.pub k o) a w (λb=>S b∨nQ (pl k)=some b) pl:=by
 have ho:=m.hp k o h;have hlo:=m.lo h
 have hold:∀j o',yB j (σ.pub k o).hp=some o'→j≠k∧∃o₀,yB j σ.hp=some o₀∧o'=o₀.map (rQ k o):=by
  intro j o' h'
  by_cases hj:j=k
  ·subst hj;simp[St.pub,qR]at h'
  ·refine⟨hj,?_⟩
   simp only[St.pub,qR,if_neg (Ne.symm hj),St.map,kG]at h'
   cases ho:yB j σ.hp with
   |none=>rw[ho]at h';cases h'
   |some o₀=>rw[ho]at h';injection h' with h';exact⟨o₀,rfl,h'.symm⟩
 have hu:rQ k o .undef=.undef:=by cases o<;>rfl
 refine⟨m.dz,m.sz,λi=> ?_,λj o' h'=> ?_,λb hb=> ?_,λb hb=> ?_,λj o' b h' hb=> ?_,λj j' o1 o2 b h1 h2 hb1 hb2=> ?_,m.below,m.stay,m.gok⟩
 ·have e:(σ.pub k o).get i=rQ k o (σ.get i):=St.get_map _ hu σ i
  rw[e];exact PZ hlo ho hf (m.fr i)
 ·obtain⟨hj,o₀,h0,rfl⟩:=hold j o' h'
  have h1:=m.hp j o₀ h0;cases o₀ with
  |row e t xs=>exact h1.mono (λ_ _=>rfl) (λ_ _=>rfl) (λ_ h=> .inl h) λ_ _ e=>by cases e
  |mp kt vt es=>exact h1.mono (λ_ _=>rfl) (λ_ _=>rfl) (λ_ h=> .inl h) λ_ _ e=>by cases e
  |val ds=>
   obtain⟨vs,e1,e3,e4⟩:=h1;refine⟨vs,e1,by simpa using e3,λi d hd=> ?_⟩
   simp only[List.getElem?_map,Option.map_eq_some_iff]at hd
   obtain⟨d0,hd0,rfl⟩:=hd;exact⟨PZ hlo ho hf (e4 i d0 hd0).1,λhc=>(e4 i d0 hd0).2 (zce hc)⟩
  |cells ds=>
   obtain⟨b,vs,T,e1,e2,e3,e4,e5⟩:=h1;refine⟨b,vs,T,e1,e2,by simpa using e3,λi d hd=> ?_,TT (λ_=>zcf) e5⟩
   simp only[List.getElem?_map,Option.map_eq_some_iff]at hd
   obtain⟨d0,hd0,rfl⟩:=hd;exact PZ hlo ho hf (e4 i d0 hd0)
 ·rcases hb with hb|hb
  ·exact m.lt b hb
  ·exact(m.priv k o b h hb).2.1
 ·rcases hb with hb|hb
  ·exact m.src b hb
  ·exact .inr (m.priv k o b h hb).1
 ·obtain⟨hj,o₀,h0,_⟩:=hold j o' h'
  have:=m.priv j o₀ b h0 hb;refine⟨this.1,this.2.1,λhs=> ?_⟩
  rcases hs with hs|hs
  ·exact this.2.2 hs
  ·exact hj (m.inj j k o₀ o b h0 h hb hs)
 ·obtain⟨_,p1,h1',_⟩:=hold j o1 h1
  obtain⟨_,p2,h2',_⟩:=hold j' o2 h2;exact m.inj j j' p1 p2 b h1' h2' hb1 hb2
theorem tD.setOb(m:tD P b0 N σ a w S pl){k b:Nat}{o o':wT}(h:yB k σ.hp=some o)(hb:nQ (pl k)=some b)(hh:∀c,c≠b→w'.heap[c]? =w.heap[c]?)(hs:w'.heap.size=w.heap.size)
  (hw:w'.os=w.os∧w'.tape=w.tape∧w'.output=w.output) (ho:cO w' S pl (pl k) o'):tD P b0 N (σ.setOb k o') a w' S pl:=by
 have hp:=m.priv k o b h hb;have hS:∀c,S c→w'.heap[c]? =w.heap[c]? :=λc hc=>hh c λe=>hp.2.2 (e▸hc)
 have hold:∀j o1,yB j (σ.setOb k o').hp=some o1→j≠k→yB j σ.hp=some o1:=by
  intro j o1 h1 hj;simpa only[St.setOb,xX,qR,if_neg (Ne.symm hj)]using h1
 have hsome:∀j o1,yB j (σ.setOb k o').hp=some o1→∃o2,yB j σ.hp=some o2:=by
  intro j o1 h1
  by_cases hj:j=k
  ·subst hj;exact⟨o,h⟩
  ·exact⟨o1,hold j o1 h1 hj⟩
 refine⟨m.dz,m.sz,λi=>(m.fr i).mono hS (λ_ h=>h) λ_ _=>rfl,λj o1 h1=> ?_,λc hc=>by rw[hs];exact m.lt c hc,m.src,λj o1 c h1 hc=> ?_,λj j' o1 o2 c h1 h2 hc1 hc2=> ?_,?_,m.stay,m.gok⟩
 ·by_cases hj:j=k
  ·subst hj
   simp only[St.setOb,xX,if_pos]at h1
   injection h1 with h1;subst h1;exact ho
  ·have h0:=hold j o1 h1 hj
   exact(m.hp j o1 h0).mono hS (λc hc=>hh c λe=>hj (m.inj j k o1 o c h0 h hc (e▸hb))) (λ_ h=>h) λ_ _ _ _=>rfl
 ·obtain⟨o2,h2⟩:=hsome j o1 h1
  have:=m.priv j o2 c h2 hc;exact⟨this.1,by rw[hs];exact this.2.1,this.2.2⟩
 ·obtain⟨p1,h1'⟩:=hsome j o1 h1
  obtain⟨p2,h2'⟩:=hsome j' o2 h2;exact m.inj j j' p1 p2 c h1' h2' hc1 hc2
 ·exact⟨hw.1.trans m.below.os,hw.2.1.trans m.below.tape,hw.2.2.trans m.below.output,by rw[hs];exact m.below.size,λc hc ho=>(hh c (by rintro rfl;rcases hp.1 with h1|h1;exact ho h1;omega)).trans (m.below.block c hc ho)⟩
theorem tD.forget(m:tD P b0 N σ a w S pl)(k:Nat):tD P b0 N (σ.forget k) a w S pl:=by
 have hold:∀j o',yB j (σ.forget k).hp=some o'→j≠k∧∃o₀,yB j σ.hp=some o₀∧o'=o₀.map (D.kill k):=by
  intro j o' h'
  by_cases hj:j=k
  ·subst hj;simp[St.forget,qR]at h'
  ·refine⟨hj,?_⟩
   simp only[St.forget,qR,if_neg (Ne.symm hj),St.map,kG]at h'
   cases ho:yB j σ.hp with
   |none=>rw[ho]at h';cases h'
   |some o₀=>rw[ho]at h';injection h' with h';exact⟨o₀,rfl,h'.symm⟩
 refine⟨m.dz,m.sz,λi=> ?_,λj o' h'=> ?_,m.lt,m.src,λj o' b h' hb=> ?_,λj j' o1 o2 b h1 h2 hb1 hb2=> ?_,m.below,m.stay,m.gok⟩
 ·have e:(σ.forget k).get i=(σ.get i).kill k:=St.get_map _ rfl σ i
  rw[e];exact(m.fr i).kill k
 ·obtain⟨hj,o₀,h0,rfl⟩:=hold j o' h'
  have h1:=m.hp j o₀ h0;cases o₀ with
  |row e t xs=>exact h1
  |mp kt vt es=>exact h1
  |val ds=>
   obtain⟨vs,e1,e3,e4⟩:=h1;refine⟨vs,e1,by simpa using e3,λi d hd=> ?_⟩
   simp only[List.getElem?_map,Option.map_eq_some_iff]at hd
   obtain⟨d0,hd0,rfl⟩:=hd;exact⟨(e4 i d0 hd0).1.kill k,λhc=>(e4 i d0 hd0).2 (PY hc)⟩
  |cells ds=>
   obtain⟨b,vs,T,e1,e2,e3,e4,e5⟩:=h1;refine⟨b,vs,T,e1,e2,by simpa using e3,λi d hd=> ?_,TT (λ_=>Jl) e5⟩
   simp only[List.getElem?_map,Option.map_eq_some_iff]at hd
   obtain⟨d0,hd0,rfl⟩:=hd;exact(e4 i d0 hd0).kill k
 ·obtain⟨_,o₀,h0,_⟩:=hold j o' h'
  exact m.priv j o₀ b h0 hb
 ·obtain⟨_,p1,h1',_⟩:=hold j o1 h1
  obtain⟨_,p2,h2',_⟩:=hold j' o2 h2;exact m.inj j j' p1 p2 b h1' h2' hb1 hb2
theorem zd3(σ:St)(k:Nat):(∀i,((σ.forget k).get i).ref≠some k)∧yB k (σ.forget k).hp=none∧∀j o d,yB j (σ.forget k).hp=some o→d∈o.parts→d.ref≠some k:=by
 refine⟨λi=> ?_,by simp[St.forget,qR],λj o d h hd=> ?_⟩
 ·have e:(σ.forget k).get i=(σ.get i).kill k:=St.get_map _ rfl σ i
  rw[e];exact Wt _ _
 ·by_cases hj:j=k
  ·subst hj;simp[St.forget,qR]at h
  ·simp only[St.forget,qR,if_neg (Ne.symm hj),St.map,kG]at h
   cases ho:yB j σ.hp with
   |none=>rw[ho]at h;cases h
   |some o₀=>
    rw[ho]at h;injection h with h
    subst h;cases o₀ with
    |row e t xs=>cases hd
    |mp kt vt es=>cases hd
    |cells ds0=>
     obtain⟨d0,_,rfl⟩:=List.mem_map.1 hd;exact Wt _ _
    |val ds0=>
     obtain⟨d0,_,rfl⟩:=List.mem_map.1 hd;exact Wt _ _
theorem tD.grow(m:tD P b0 N σ a w S pl){k:Nat}(hst:stabK k=false){o o':wT}(h:yB k σ.hp=some o)(p:Value)(hg:w.grownBy w' (nQ (pl k)))(hat:∀b,nQ p=some b→nQ (pl k)=some b∨(w.heap.size≤b∧b<w'.heap.size))
  (ho:cO w' S (OX pl k p) p o'):tD P b0 N (σ.mk' k o') a w' S (OX pl k p):=by
 have mf:=m.forget k;obtain⟨r1,r2,r3⟩:=zd3 σ k;have hkeep:∀c,c<w.heap.size→nQ (pl k)≠some c→w'.heap[c]? =w.heap[c]? :=λc hc hne=>hg.block c hc λe=>hne e.symm
 have hS:∀c,S c→w'.heap[c]? =w.heap[c]? :=λc hc=>hkeep c (m.lt c hc) λe=>(m.priv k o c h e).2.2 hc
 have holdk:∀j o1,yB j (σ.forget k).hp=some o1→j≠k∧∃o2,yB j σ.hp=some o2:=by
  intro j o1 h1
  by_cases hj:j=k
  ·subst hj;rw[r2]at h1;cases h1
  ·refine⟨hj,?_⟩
   simp only[St.forget,qR,if_neg (Ne.symm hj),St.map,kG]at h1
   cases ho:yB j σ.hp with
   |none=>rw[ho]at h1;cases h1
   |some o₀=>exact⟨o₀,rfl⟩
 have hbelow:nK b0.w.heap.size b0.O b0.w w':=⟨hg.os.trans m.below.os,hg.tape.trans m.below.tape,hg.output.trans m.below.output,Nat.le_trans m.below.size hg.size,λc hc hO=>by
  refine(hkeep c (Nat.lt_of_lt_of_le hc m.below.size) λe=> ?_).trans (m.below.block c hc hO)
  rcases(m.priv k o c h e).1 with h1|h1
  ·exact hO h1
  ·omega⟩
 have mw:tD P b0 N (σ.forget k) a w' S pl:=mf.world hS (λj o1 b h1 hb=>by
  obtain⟨hj,o2,h2⟩:=holdk j o1 h1;exact hkeep b (m.priv j o2 b h2 hb).2.1 λe=>hj (m.inj j k o2 o b h2 h hb e)) hg.size hbelow
 have e1:∀i,(σ.mk' k o').get i=(σ.forget k).get i:=λi=>rfl
 have e2:∀j,yB j (σ.mk' k o').hp=if k=j then some o' else yB j (σ.forget k).hp:=λj=>xX j k o' _
 refine⟨m.dz,m.sz,λi=> ?_,λj o1 h1=> ?_,mw.lt,mw.src,λj o1 b h1 hb=> ?_,λj j' o1 o2 b h1 h2 hb1 hb2=> ?_,hbelow,λj hj=>(show OX pl k p j=pl j from if_neg λe=>by rw[e,hst]at hj;cases hj).trans (m.stay j hj),m.gok⟩
 ·rw[e1]
  exact(mw.fr i).mono (λ_ _=>rfl) (λ_ h=>h) λj hj=>if_neg (λe:j=k=>r1 i (hj.trans (by rw[e])))
 ·rw[e2]at h1
  by_cases hj:k=j
  ·subst hj;rw[if_pos rfl]at h1;injection h1 with h1;subst h1
   rw[show OX pl k p k=p from if_pos rfl];exact ho
  ·rw[if_neg hj]at h1
   rw[show OX pl k p j=pl j from if_neg (Ne.symm hj)]
   exact(mw.hp j o1 h1).mono (λ_ _=>rfl) (λ_ _=>rfl) (λ_ h=>h) λd i hd hr=>if_neg (λei:i=k=>r3 j o1 d h1 hd (hr.trans (by rw[ei])))
 ·rw[e2]at h1
  by_cases hj:k=j
  ·subst hj
   rw[show OX pl k p k=p from if_pos rfl]at hb
   rcases hat b hb with hb|hb
   ·have:=m.priv k o b h hb
    exact⟨this.1,Nat.lt_of_lt_of_le this.2.1 hg.size,this.2.2⟩
   ·exact⟨.inr (Nat.le_trans m.below.size hb.1),hb.2,λhs=>by have:=m.lt b hs;omega⟩
  ·rw[if_neg hj]at h1
   rw[show OX pl k p j=pl j from if_neg (Ne.symm hj)]at hb
   exact mw.priv j o1 b h1 hb
 ·rw[e2]at h1 h2
  have key:∀j o1,k≠j→yB j (σ.forget k).hp=some o1→nQ (pl j)=some b→nQ p=some b→False:=by
   intro j o1 hj h1 hb1 hb2;obtain⟨hjk,o2,h2⟩:=holdk j o1 h1;rcases hat b hb2 with hb|hb
   ·exact hjk (m.inj j k o2 o b h2 h hb1 hb)
   ·have:=(m.priv j o2 b h2 hb1).2.1;omega
  by_cases hj:k=j<;>by_cases hj':k=j'
  ·rw[←hj,←hj']
  ·rw[if_neg hj']at h2
   rw[show OX pl k p j'=pl j' from if_neg (Ne.symm hj')]at hb2
   subst hj;rw[show OX pl k p k=p from if_pos rfl]at hb1
   exact(key j' o2 hj' h2 hb2 hb1).elim
  ·rw[if_neg hj]at h1
   rw[show OX pl k p j=pl j from if_neg (Ne.symm hj)]at hb1
   subst hj';rw[show OX pl k p k=p from if_pos rfl]at hb2
   exact(key j o1 hj h1 hb1 hb2).elim
  ·rw[if_neg hj]at h1;rw[if_neg hj']at h2
   rw[show OX pl k p j=pl j from if_neg (Ne.symm hj)]at hb1
   rw[show OX pl k p j'=pl j' from if_neg (Ne.symm hj')]at hb2
   exact mw.inj j j' o1 o2 b h1 h2 hb1 hb2
theorem tD.newS(m:tD P b0 N σ a w S pl)(o:Obj):tD P b0 N σ a (w.alloc o) (λb=>S b∨b=w.heap.size) pl:=
 (m.later (w':=w.alloc o) ((Below.refl _ _).alloc (Nat.le_refl _) o)).more (λ_ h=> .inl h)
  (λb h=>by
   have hs:(w.alloc o).heap.size=w.heap.size+1:=by simp
   rcases h with h|rfl
   ·have:=m.lt b h;omega
   ·omega)
  (λb h=>by
   rcases h with h|rfl
   ·exact m.src b h
   ·exact .inr (.inr m.below.size))
  (λk o' b h hb hs=>by
   have:=m.priv k o' b h hb;rcases hs with hs|rfl
   ·exact this.2.2 hs
   ·omega)
end
end Go.Proofs.YteimklbiapnfhaaGreat
namespace Go.Proofs.YteimklbiapnfhaaGreat
open Go.RowKit
set_option linter.unusedVariables false
set_option linter.unusedSimpArgs false
variable[Lo]
structure zab where
 tys:List Ty
 nils:List (Nat×(Nat×(TypeId×Ty))):=[]
 datas:List (Nat×Nat):=[]
 res:List D→(Nat→Option wT)→Option (D×List (Nat×wT))
 raw:Bool:=false
structure TE where
 zs:List (TypeId×(Bool×List D))
 sl:List (TypeId×(TypeId×Ty))
 fld:List (TypeId×List (Nat×Nat))
 strs:List TypeId
 ints:List (TypeId×IntKind)
 bools:List TypeId
 sig:List (FuncId×List Ty)
 mps:List (TypeId×(Ty×Ty)):=[]
 sts:List (TypeId×Ty):=[]
 hsig:List (FuncId×zab):=[]
 vals:List TypeId:=[]
 arr:List TypeId:=[]
 nilq:Bool:=true
 thr:List FuncId:=[]
 sp:List (FuncId×Ty):=[]
structure xJ where
 own:List Nat
 live:List (Nat×(List Nat×List Nat))
 n:Nat
 q:Nat:=12
 nils:List (Nat×(Nat×(TypeId×Ty))):=[]
 pubs:List (Nat×Nat):=[]
 nn:List Nat:=[]
 first:Bool:=false
 clp:Bool:=false
 tdraw:Bool:=false
 nz:List (Nat×(Nat×(TypeId×Ty))):=[]
 keep:List Nat×List Nat:=([],[])
 ae:Option (List Nat×List Nat):=none
def sM(k:Nat):List Nat→Bool
 |[]=>false
 |i::r=>bif Nat.beq i k then true else sM k r
def zN(b:Bool)(A B:Prop):Prop:=match b with
 |true=>A
 |false=>B
def xF(n:Int):Int:=IntKind.i64.wrap n
def ofV:Value→D
 | .int .i64 n=>bif decide (-9223372036854775808≤n)&&decide (n≤9223372036854775807)then .int .i64 n else .undef
 | .int .u8 n=>bif decide (0≤n)&&decide (n≤255)then .int .u8 n else .undef
 | .bool b=> .bool b
 | .string s=>bif Nat.ble s.size 140737488355328 then .str s else .undef
 | .slice none 0 0=> .nil
 |_=> .undef
def St.ev(σ:St):Operand→D
 | .tmp t=>σ.get t
 | .const v=>ofV v
 | .func f=> .clo f none []
 | .global _=> .undef
def zac:List D→Option (List Value)
 |[]=>some []
 | .int k n::r=>match zac r with
  |some l=>some (.int k n::l)
  |none=>none
 |_=>none
def BX:D→Option Value
 | .agg ds=>match zac ds with
  |some l=>some (.agg l.toArray)
  |none=>none
 |_=>none
def NX(E:TE)(T:TypeId):D→D
 | .nil=>match yB T E.sl with
  |some (_,t)=> .sl t []
  |none=> .nil
 | .slN t xs _=> .sl t xs
 |d=>d
def fc(A:xJ):Option Nat→Option Nat
 |some k=>bif sM k A.own&& !stabK k then some k else none
 |none=>none
theorem eY{A:xJ}{d:Option Nat}{k:Nat}(h:fc A d=some k):stabK k=false:=by
 unfold fc at h
 split at h
 ·rename_i j
  cases hb:sM j A.own&& !stabK j with
  |false=>rw[hb]at h;cases h
  |true=>
   rw[hb]at h;injection h with h;subst h
   simp only[Bool.and_eq_true,Bool.not_eq_true']at hb
   exact hb.2
 ·cases h
def Zy(σ:St):D→Option (List D)
 | .agg cs=>some cs
 | .tup _=>none
 | .undef=>none
 | .ifc _=>none
 | .own k=>match σ.ob k with
  |some (.val ds)=>some ds
  |some _=>some [.own k]
  |none=>none
 | .ownN k=>match σ.ob k with
  |some (.row _ _ _)=>some [.ownN k]
  |_=>none
 |d=>some [d]
def cC(d:D):Bool:=match d.ref with
 |none=>true
 |some _=>false
def Qc(ds:List D)(off:Nat)(new:List D):List D:=ds.take off++new++ds.drop (off+new.length)
def cX:List D→Option Nat
 |[]=>none
 |d::r=>match d.ref with
  |some k=>some k
  |none=>cX r
def Vs(σ:St):Nat→Nat→Nat
 |0,k=>k
 |n+1,k=>match σ.ob k with
  |some (.cells ds)=>match cX ds with
   |some j=>Vs σ n j
   |none=>k
  |some (.val ds)=>match cX ds with
   |some j=>Vs σ n j
   |none=>k
  |_=>k
def wT.flatB:wT→Bool
 | .cells ds=>ds.all cC
 | .row _ _ _=>true
 | .mp _ _ _=>true
 | .val ds=>ds.all cC
def pubs:Nat→St→List D→Option (St×List D)
 |0,_,_=>none
 |n+1,σ,ds=>match cX ds with
  |none=>some (σ,ds)
  |some k0=>
   let k:=Vs σ 4 k0
   match σ.ob k with
   |some o=>bif o.flatB then pubs n (σ.pub k o) (ds.map (rQ k o))else none
   |none=>none
def sN(q:Nat)(σ:St)(ds:List D)(K:List D→St→Prop):Prop:=match pubs q σ ds with
 |some (σ',ds')=>K ds' σ'
 |none=>False
def Zb(σ:St):D→Option (List D)
 | .ptr k off=>match σ.ob k with
  |some (.cells ds)=>some (ds.drop off)
  |_=>none
 | .iptr cs off=>some (cs.drop off)
 | .elt t xs i off=>some ((cells t (xs.getD i t.dflt)).drop off)
 | .oelt k sz i off=>match σ.ob k with
  |some (.row _ t xs)=>bif Nat.beq sz t.size then some ((cells t (xs.getD i t.dflt)).drop off)else none
  |_=>none
 |_=>none
def wC(n:Int)(len:Nat):Bool:=decide (0≤n)&&decide (n<(len:Int))
def OY(l h:Int)(len:Nat):Bool:=decide (0≤l)&&decide (l≤h)&&decide (h≤(len:Int))
def zL(t:Ty)(n:Nat):Bool:=decide (n*t.bytes≤140737488355328)
def zad(s:ByteArray)(i:Nat):Int:=((s.data.getD i 0).toNat:Int)
def znc(A:xJ):Option Nat→Bool
 |some k=>sM k A.nn
 |none=>false
def Fu(σ:St):D→Bool
 | .ptr k off=>match σ.ob k with
  |some (.cells ds)=>(match ds[off]? with
   |some (.slN _ _ _)=>true
   |_=>false)
  |_=>false
 |_=>false
def zim(b:Bool)(new:List D)(K:List D→Prop):Prop:=match b with
 |true=>(match new with
  |[.sl t xs]=>xs≠[]∧K [.slN t xs false]
  |new=>K new)
 |false=>K new
def zcg(E:TE)(A:xJ)(o:Oper)(d:D)(σ:St)(K:D→St→Prop):Prop:=match d with
 | .nil=>match yB o.type E.sl with
  |some (e,t)=>match fc A o.dst with
   |some k=>K (.own k) (σ.mk' k (.row e t []))
   |none=>K (bif znc A o.dst then .slN t [] true else .sl t []) σ
  |none=>K .nil σ
 |d=>K d σ
def Er(E:TE)(A:xJ)(o:Oper)(T:TypeId)(σ:St)(K:D→St→Prop):Prop:=match yB T E.zs with
 |some (_,cs)=>match fc A o.dst with
  |some k=>K (.ptr k 0) (σ.mk' k (.cells cs))
  |none=>K (.iptr cs 0) σ
 |none=>False
def zjN(k:Nat)(d:D):Bool:=match d.ref with
 |some j=>Nat.beq j k
 |none=>false
def zae(k:Nat)(T:TypeId)(cs:List D):Bool:=cs.any (zjN k)||(Xv cs&& !memT znt T cs.length)
def zjO(E:TE)(A:xJ)(o:Oper)(T:TypeId)(x:D)(σ:St)(K:D→St→Prop):Prop:=
 match Zy σ (NX E T x)with
 |some cs=>match fc A o.dst with
  |some k=>bif zae k T cs then False else K (.ptr k 0) (σ.mk' k (.cells cs))
  |none=>sN A.q σ cs λcs σ=>K (.iptr cs 0) σ
 |none=>False
def zgX(E:TE)(A:xJ)(T:TypeId)(x:D)(σ:St)(K:D→St→Prop):Prop:=match yB T E.zs with
 |some (ag,zs)=>match Zb σ x with
  |some cs=>bif Nat.ble zs.length cs.length then
    match ag with
    |true=>sN A.q σ (cs.take zs.length) λcs σ=>K (.agg cs) σ
    |false=>match cs with
     |d::_=>K d σ
     |[]=>False
   else False
  |none=>False
 |none=>False
def zaf(E:TE)(A:xJ)(T:TypeId)(x y:D)(σ:St)(K:D→St→Prop):Prop:=match yB T E.zs with
 |some (_,zs)=>match Zy σ (NX E T y)with
  |none=>False
  |some new=>zim (Fu σ x) new λnew=>bif Nat.beq new.length zs.length&&new.all jU then
   match x with
   | .ptr k off=>match σ.ob k with
    |some (.cells ds)=>bif Nat.ble (off+new.length) ds.length then K .undef (σ.setOb k (.cells (Qc ds off new)))else False
    |_=>False
   | .oelt k sz i off=>sN A.q σ new λnew σ=>match σ.ob k with
    |some (.row e t xs)=>bif Nat.beq sz t.size then
      match ofD t (Qc (cells t (xs.getD i t.dflt)) off new)with
      |some z=>bif Nat.ble (off+new.length) t.size then K .undef (σ.setOb k (.row e t (xs.set i z)))else False
      |none=>False
     else False
    |_=>False
   |_=>False
  else False
 |none=>False
def zjP(E:TE)(op:BinOp)(T:TypeId)(x y:D)(K:D→Prop):Prop:=match x,y with
 | .int .i64 a,.int .i64 b=>match op with
  | .add=>K (.int .i64 (xF (a+b)))
  | .sub=>K (.int .i64 (xF (a-b)))
  | .mul=>K (.int .i64 (xF (a*b)))
  | .quo=>b≠0∧K (.int .i64 (xF (a.tdiv b)))
  | .rem=>b≠0∧K (.int .i64 (a.tmod b))
  | .eql=>K (.bool (decide (a=b)))
  | .neq=>K (.bool (!decide (a=b)))
  | .lss=>K (.bool (decide (a<b)))
  | .leq=>K (.bool (decide (a≤b)))
  | .gtr=>K (.bool (decide (b<a)))
  | .geq=>K (.bool (decide (b≤a)))
  |_=>False
 | .int .u8 a,.int .u8 b=>match op with
  | .eql=>K (.bool (decide (a=b)))
  | .neq=>K (.bool (!decide (a=b)))
  | .lss=>K (.bool (decide (a<b)))
  | .leq=>K (.bool (decide (a≤b)))
  | .gtr=>K (.bool (decide (b<a)))
  | .geq=>K (.bool (decide (b≤a)))
  |_=>False
 | .str a,.str b=>match op with
  | .eql=>K (.bool (decide (a=b)))
  | .neq=>K (.bool (!decide (a=b)))
  | .add=>a.size+b.size≤140737488355328∧K (.str (a++b))
  |_=>False
 | .bool a,.bool b=>bif sM T E.bools then(match op with
   | .eql=>K (.bool (a==b))
   | .neq=>K (.bool (!(a==b)))
   |_=>False)
  else False
 |_,_=>False
def teq:(t:Ty)→t.den→t.den→Bool
 | .lit,a,b=>decide (a=b)
 | .var,a,b=>decide (a=b)
 | .tok,a,b=>decide (a=b)
 |_,_,_=>false
def eqK(op:BinOp)(b:Bool)(K:D→Prop):Prop:=match op with
 | .eql=>K (.bool b)
 | .neq=>K (.bool (!b))
 |_=>False
def zop(op:BinOp)(e:Prop)(K:D→Prop):Prop:=∀b:Bool,(b=true→e)→eqK op b K
def Vt(E:TE)(T:TypeId):Bool:=match yB T E.sl with
 |some _=>true
 |none=>false
def zch(E:TE)(op:BinOp)(T:TypeId)(x y:D)(σ:St)(K:D→Prop):Prop:=match x,y with
 | .agg xs,.agg ys=>match yB T E.sts with
  |some t=>match ofD t xs,ofD t ys with
   |some a,some b=>eqK op (teq t a b) K
   |_,_=>False
  |none=>False
 | .slN _ _ nl,.nil=>bif E.nilq&&Vt E T then eqK op nl K else False
 | .sl _ xs,.nil=>bif E.nilq&&Vt E T then zop op (xs=[]) K else False
 | .nil,.nil=>bif E.nilq&&Vt E T then eqK op true K else False
 | .own k,.nil=>match σ.ob k with
  |some (.row _ _ xs)=>bif E.nilq&&Vt E T then zop op (xs=[]) K else False
  |_=>False
 |x,y=>zjP E op T x y K
def Je:(t:Ty)→t.den→t.den→Bool
 | .int,a,b=>decide (a=b)
 | .str,a,b=>decide (a=b)
 | .pr .int .int,a,b=>decide (a.1=b.1)&&decide (a.2=b.2)
 |_,_,_=>false
def oa(kt vt:Ty)(x:kt.den)(y:vt.den):List (kt.den×vt.den)→List (kt.den×vt.den)
 |[]=>[(x,y)]
 |(a,b)::r=>bif Je kt x a then(a,y)::r else(a,b)::oa kt vt x y r
def pH(kt vt:Ty)(x:kt.den):List (kt.den×vt.den)→Option vt.den
 |[]=>none
 |(a,b)::r=>bif Je kt x a then some b else pH kt vt x r
def cD(kt vt:Ty)(x:kt.den)(es:List (kt.den×vt.den)):vt.den:=(pH kt vt x es).getD vt.dflt
def zd4(kt vt:Ty)(x:kt.den)(es:List (kt.den×vt.den)):Bool:=(pH kt vt x es).isSome
def Es(n:Nat):Bool:=decide (n≤140737488355328)
def Qd(E:TE)(A:xJ)(o:Oper)(T:TypeId)(σ:St)(K:D→St→Prop):Prop:=match yB T E.mps with
 |some (k,v)=>match fc A o.dst with
  |some j=>K (.own j) (σ.mk' j (.mp k v []))
  |none=>K (.mp k v []) σ
 |none=>False
def zlT:(t:Ty)→D→Option t.den
 | .int,.int .i64 n=>some n
 | .str,.str s=>some s
 | .pr .int .int,.agg [.int .i64 a,.int .i64 b]=>some (a,b)
 |_,_=>none
def TU(E:TE)(A:xJ)(T:TypeId)(m x y:D)(σ:St)(K:D→St→Prop):Prop:=match yB T E.mps,m with
 |some (kt0,vt0),.own j=>sN A.q σ [y] λds σ=>match σ.ob j with
   |some (.mp kt vt es)=>bif decide (kt=kt0)&&decide (vt=vt0)then
     match zlT kt x,ofD vt ds with
     |some a,some b=>Es (es.length+1)=true∧K .undef (σ.setOb j (.mp kt vt (oa kt vt a b es)))
     |_,_=>False
    else False
   |_=>False
 |_,_=>False
def BZ(σ:St):D→Option (Σ (p:Ty×Ty),List (p.1.den×p.2.den))
 | .mp kt vt es=>some ⟨(kt,vt),es⟩
 | .own j=>match σ.ob j with
  |some (.mp kt vt es)=>some ⟨(kt,vt),es⟩
  |_=>none
 |_=>none
def Fv(E:TE)(T:TypeId)(m x:D)(ok:Bool)(σ:St)(K:D→Prop):Prop:=match yB T E.mps,BZ σ m with
 |some (kt0,vt0),some ⟨(kt,vt),es⟩=>bif decide (kt=kt0)&&decide (vt=vt0)then
   match zlT kt x with
   |some a=>match ok with
    |true=>K (.tup [M4 vt (cD kt vt a es),.bool (zd4 kt vt a es)])
    |false=>K (M4 vt (cD kt vt a es))
   |none=>False
  else False
 |_,_=>False
def unD(op:UnOp)(x:D)(K:D→Prop):Prop:=match op,x with
 | .not,.bool b=>K (.bool (!b))
 | .neg,.int .i64 n=>K (.int .i64 (xF (0-n)))
 |_,_=>False
def zgZ(E:TE)(src dst:TypeId)(x:D)(K:D→Prop):Prop:=match yB src E.ints with
 |some _=>(match yB dst E.ints,x with
  |some .i64,.int _ n=>K (.int .i64 (xF n))
  |some .u8,.int _ n=>K (.int .u8 (IntKind.u8.wrap n))
  |_,_=>False)
 |none=>(match yB src E.sl,x with
  |some (e,.byte),.sl .byte xs=>(match yB e E.ints,sM dst E.strs with
   |some .u8,true=>K (.str ⟨xs.toArray⟩)
   |_,_=>False)
  |_,_=>False)
def Yo(σ:St)(dflt:Int):Option Operand→Option Int
 |none=>some dflt
 |some x=>match σ.ev x with
  | .int .i64 n=>some n
  |_=>none
def zag(E:TE)(A:xJ)(T:TypeId)(x:D)(σ:St)(lo hi:Option Operand)(K:D→St→Prop):Prop:=
 match x with
 | .str s=>bif sM T E.strs then(match Yo σ 0 lo,Yo σ s.size hi with
  |some l,some h=>OY l h s.size=true∧K (.str (s.extract l.toNat h.toNat)) σ
  |_,_=>False)else False
 |x=>sN A.q σ [x] λds σ=>match ds with
  |[.sl t xs]=>match yB T E.sl,Yo σ 0 lo,Yo σ xs.length hi with
   |some (_,t'),some l,some h=>bif Nat.beq t'.size t.size then(OY l h xs.length=true∧K (.sl t ((xs.take h.toNat).drop l.toNat)) σ)else False
   |_,_,_=>False
  |_=>False
def zah(E:TE)(T:TypeId)(f:Nat):Option Nat:=match yB T E.fld with
 |some offs=>match offs[f]? with
  |some (off,_)=>some off
  |none=>none
 |none=>none
def Et(E:TE)(T:TypeId)(x:D)(f:Nat)(K:D→Prop):Prop:=match zah E T f with
 |some d=>match x with
  | .ptr k off=>K (.ptr k (off+d))
  | .iptr cs off=>K (.iptr cs (off+d))
  | .elt t xs i off=>K (.elt t xs i (off+d))
  | .oelt k sz i off=>K (.oelt k sz i (off+d))
  |_=>False
 |none=>False
def TV(E:TE)(T:TypeId)(x ix:D)(σ:St)(K:D→Prop):Prop:=match yB T E.sl with
 |some (_,t')=>match ix with
  | .int _ n=>match x with
   | .sl t xs=>bif Nat.beq t'.size t.size then(wC n xs.length=true∧K (.elt t xs n.toNat 0))else False
   | .own k=>match σ.ob k with
    |some (.row _ t xs)=>bif Nat.beq t'.size t.size then(wC n xs.length=true∧K (.oelt k t.size n.toNat 0))else False
    |_=>False
   |_=>False
  |_=>False
 |none=>False
def zai(E:TE)(T:TypeId)(x ix:D)(K:D→Prop):Prop:=match x,ix with
 | .str s,.int _ n=>bif sM T E.strs then(wC n s.size=true∧K (.int .u8 (zad s n.toNat)))else False
 |_,_=>False
def M7(x:D)(i:Nat)(K:D→Prop):Prop:=match x with
 | .tup ds=>match ds[i]? with
  |some d=>K d
  |none=>False
 |_=>False
def P0(σ:St)(d:D)(z:Option D):Option (List D):=match d,z with
 | .nil,some (.sl t _)=>some [.sl t []]
 | .slN t xs _,_=>some [.sl t xs]
 |d,_=>Zy σ d
def Nv(σ:St)(place:Nat→Option (Nat×Nat)):List D→List (Nat×Operand)→Option (List D)
 |ds,[]=>some ds
 |ds,(f,x)::r=>match place f with
  |some (off,sz)=>
   match P0 σ (σ.ev x) ds[off]? with
   |some new=>bif Nat.beq new.length sz&&Nat.ble (off+sz) ds.length then Nv σ place (Qc ds off new) r else none
   |none=>none
  |none=>none
def zin:Option Nat→Nat
 |some k=>k
 |none=>0
def zaj:Option Nat→Bool
 |some k=> !stabK k
 |none=>false
def zak(E:TE)(T:TypeId):Option (Nat→Option (Nat×Nat)):=bif sM T E.arr then some (λi=>some (i,1))else match yB T E.fld with
 |some offs=>some λi=>offs[i]?
 |none=>none
def Eu(E:TE)(A:xJ)(o:Oper)(T:TypeId)(parts:List (Nat×Operand))(σ:St)(K:D→St→Prop):Prop:=match yB T E.zs,zak E T with
 |some (true,zs),some pf=>match Nv σ pf zs parts with
  |some ds=>bif sM T E.vals&&zaj o.dst then K (.own (zin o.dst)) (σ.mk' (zin o.dst) (.val (ds.map (D.kill (zin o.dst)))))else sN A.q σ ds λds σ=>K (.agg ds) σ
  |none=>False
 |_,_=>False
def elems(t:Ty):Nat→List D→Option (List t.den)
 |0,_=>some []
 |n+1,ds=>match ofD t (ds.take t.size),elems t n (ds.drop t.size)with
  |some x,some xs=>some (x::xs)
  |_,_=>none
def Y7(E:TE)(A:xJ)(o:Oper)(T:TypeId)(len:Nat)(parts:List (Nat×Operand))(σ:St)(K:D→St→Prop):Prop:=match yB T E.sl with
 |some (e,t)=>
  bif zL t len&&Nat.ble (len*t.size) 16777216 then match Nv σ (λi=>some (i*t.size,t.size)) (List.replicate len (cells t t.dflt)).flatten parts with
  |some ds=>sN A.q σ ds λds σ=>match elems t len ds with
    |some xs=>match fc A o.dst with
     |some k=>K (bif sM k A.nn then .ownN k else .own k) (σ.mk' k (.row e t xs))
     |none=>K (bif t.isOd then .undef else .sl t xs) σ
    |none=>False
  |none=>False
  else False
 |none=>False
def zlU(E:TE)(T:TypeId)(x:D)(σ:St)(K:D→Prop):Prop:=match x with
 | .str s=>bif sM T E.strs then K (.int .i64 (s.size:Int))else False
 | .nil=>match yB T E.sl with
  |some _=>K (.int .i64 0)
  |none=>False
 | .mp _ _ es=>match yB T E.mps with
  |some _=>K (.int .i64 (es.length:Int))
  |none=>False
 | .sl t xs=>match yB T E.sl with
  |some _=>K (.int .i64 (xs.length:Int))
  |none=>False
 | .own k=>match σ.ob k with
  |some (.row _ t xs)=>(match yB T E.sl with
   |some _=>K (.int .i64 (xs.length:Int))
   |none=>False)
  |some (.mp _ _ es)=>(match yB T E.mps with
   |some _=>K (.int .i64 (es.length:Int))
   |none=>False)
  |_=>False
 |_=>False
def Ty.plain:Ty→Bool
 | .int| .bool| .str| .tok| .lit| .var| .term| .byte=>true
 |_=>false
def zoq:(t t':Ty)→List t'.den→Option (List t.den)
 | .mk _ t0,t',ys=>if h:t'=t0 then bif t0.plain then some (h▸(show List t'.den from ys))else none else none
 |t,.mk _ t1,ys=>if h:t1=t then some (h▸(show List t1.den from ys))else none
 |_,_,_=>none
def zlV(t t':Ty)(ys:List t'.den):Option (List t.den):=if h:t'=t then some (h▸ys)else zoq t t' ys
def Ha(σ:St)(k:Nat)(t:Ty):D→Option (List t.den)
 | .nil=>some []
 | .sl t' ys=>zlV t t' ys
 | .own j=>bif Nat.beq j k then none else match σ.ob j with
  |some (.row _ t' ys)=>zlV t t' ys
  |_=>none
 |_=>none
def znv(E:TE)(T' e:TypeId)(t':Ty)(x y:D)(σ:St)(K:D→St→Prop):Prop:=match sM T' E.strs with
 |true=>(match t',x,y with
  | .byte,.own k,.str s=>(match σ.ob k with
   |some (.row e' .byte xs)=>bif Nat.beq e e'&& !stabK k then zL .byte (xs.length+s.size)=true∧K (.own k) (σ.mk' k (.row e .byte (xs++s.data.toList)))else False
   |_=>False)
  |_,_,_=>False)
 |false=>False
def Fw(E:TE)(A:xJ)(o:Oper)(T T':TypeId)(x:D)(y:Operand)(σ:St)(K:D→St→Prop):Prop:=match yB T E.sl with
 |some (e,t')=>bif Nat.beq T T' then(match x with
  | .own k=>match σ.ob k with
   |some (.row e' t xs)=>bif Nat.beq e e'&&Nat.beq t'.size t.size&&Nat.beq t'.bytes t.bytes&& !stabK k then(match Ha σ k t (σ.ev y)with
    |some ys=>zL t (xs.length+ys.length)=true∧K (.own k) (σ.mk' k (.row e t (xs++ys)))
    |none=>False)else False
   |_=>False
  | .ownN k=>match σ.ob k with
   |some (.row e' t xs)=>bif Nat.beq e e'&&Nat.beq t'.size t.size&&Nat.beq t'.bytes t.bytes&& !stabK k then(match Ha σ k t (σ.ev y)with
    |some ys=>bif Nat.blt 0 ys.length then zL t (xs.length+ys.length)=true∧K (.ownN k) (σ.mk' k (.row e t (xs++ys)))else False
    |none=>False)else False
   |_=>False
  | .nil=>match fc A o.dst with
   |some k=>match Ha (σ.mk' k (.row e t' [])) k t' ((σ.mk' k (.row e t' [])).ev y)with
    |some ys=>zL t' ys.length=true∧K (.own k) ((σ.mk' k (.row e t' [])).mk' k (.row e t' ys))
    |none=>False
   |none=>False
  |_=>False)else znv E T' e t' x (σ.ev y) σ K
 |none=>False
def zlW(x y:D)(K:D→Prop):Prop:=match x,y with
 | .int .i64 a,.int .i64 b=>K (.int .i64 (if b>a then b else a))
 |_,_=>False
def Wu(E:TE)(A:xJ)(o:Oper)(T:TypeId)(l c:D)(σ:St)(K:D→St→Prop):Prop:=match yB T E.sl with
 |some (e,t)=>match l,c with
  | .int .i64 n,.int .i64 m=>n=m∧0≤n∧zL t n.toNat=true∧(match fc A o.dst with
   |some k=>K (.own k) (σ.mk' k (.row e t (List.replicate n.toNat t.dflt)))
   |none=>K (bif t.isOd then .undef else .sl t (List.replicate n.toNat t.dflt)) σ)
  |_,_=>False
 |none=>False
def mB(P:Program)(f:FuncId)(args:List D)(r:D):Prop:=
 ∀(w:World) (S:Nat→Prop) (vs:Array Value),(∀b,S b→b<w.heap.size)→vs.size=args.length→(∀i d,args[i]? =some d→Rp w S (vs.getD i undef) d)→GOk P w (λ_=>False)→
  Calls P f vs w λe w'=>∃v,e=.returned v∧Rp w' (λb=>S b∨(w.heap.size≤b∧b<w'.heap.size)) v r∧Below w.heap.size w w'
def zjQ(P:Program)(f:FuncId)(args:List D)(t:Ty)(K:t.den→Prop):Prop:=∃x,mB P f args (M4 t x)∧K x
def zjR(P:Program)(f:FuncId)(args:List D)(t u:Ty)(K:t.den→u.den→Prop):Prop:=∃x y,mB P f args (.tup [M4 t x,M4 u y])∧K x y
def zjS(P:Program)(f:FuncId)(args:List D)(t u v:Ty)(K:t.den→u.den→v.den→Prop):Prop:=∃x y z,mB P f args (.tup [M4 t x,M4 u y,M4 v z])∧K x y z
def zd5(P:Program)(f:FuncId)(args:List D):List Ty→(D→Prop)→Prop
 |[],K=>mB P f args (.tup [])∧K (.tup [])
 |[t],K=>zjQ P f args t λx=>K (M4 t x)
 |[t,u],K=>zjR P f args t u λx y=>K (.tup [M4 t x,M4 u y])
 |[t,u,v],K=>zjS P f args t u v λx y z=>K (.tup [M4 t x,M4 u y,M4 v z])
 |_,_=>False
def Ty.scalar:Ty→Bool
 | .int| .bool| .str=>true
 |_=>false
def Qe(σ:St):D→D
 | .own k=>match σ.ob k with
  |some (.row _ t xs)=>bif t.isOd then .undef else .sl t xs
  |_=> .own k
 |d=>d
def fe(E:TE)(σ:St):List Operand→List TypeId→List D
 |x::xs,T::ts=>NX E T (σ.ev x)::fe E σ xs ts
 |x::xs,[]=>σ.ev x::fe E σ xs []
 |[],_=>[]
def zd6(raw:Bool)(E:TE)(σ:St)(xs:List Operand)(ts:List TypeId):List D:=bif raw then xs.map σ.ev else fe E σ xs ts
def Ent(P:Program)(f:FuncId):Prop:=∀args w,(callFunc f args).run P w=.ok (.enter f args) w
def zor(E:TE)(f:FuncId):Option (List Ty)→Option (List Ty)
 |some rs=>some rs
 |none=>yB f E.sig
def znw(P:Program)(f:FuncId):Option (List Ty)→Prop→Prop
 |some _,X=>Ent P f∧X
 |none,X=>X
def D.ren(ρ:List (Nat×Nat)):D→D
 | .own k=>match yB k ρ with
  |some j=> .own j
  |none=> .undef
 | .ownN k=>match yB k ρ with
  |some j=> .ownN j
  |none=> .undef
 | .ptr k off=>match yB k ρ with
  |some j=> .ptr j off
  |none=> .undef
 | .oelt k sz i off=>match yB k ρ with
  |some j=> .oelt j sz i off
  |none=> .undef
 | .clp f bd k off=>match yB k ρ with
  |some j=> .clp f bd j off
  |none=> .undef
 | .slf k=>match yB k ρ with
  |some j=> .slf j
  |none=> .undef
 |d=>d
def wT.ren(ρ:List (Nat×Nat)):wT→wT
 | .cells ds=> .cells (ds.map (D.ren ρ))
 | .val ds=> .val (ds.map (D.ren ρ))
 |o=>o
def Jf(ρ:List (Nat×Nat)):List (Nat×Nat):=ρ.map λx=>(x.2,x.1)
def jV:List Nat→Bool
 |[]=>true
 |k::r=> !sM k r&&jV r
def reach(ob:Nat→Option wT):Nat→List Nat→List D→List Nat
 |0,acc,_=>acc
 |_+1,acc,[]=>acc
 |n+1,acc,d::r=>match d.ref with
  |none=>reach ob n acc r
  |some k=>bif sM k acc then reach ob n acc r else match ob k with
   |some (.cells ds)=>reach ob n (acc++[k]) (ds++r)
   |some (.val ds)=>reach ob n (acc++[k]) (ds++r)
   |some _=>reach ob n (acc++[k]) r
   |none=>reach ob n acc r
def Qf:List D→List Nat
 |[]=>[]
 | .own k::r=>k::Qf r
 |_::r=>Qf r
def zal(ob:Nat→Option wT)(dr:List Nat):List Nat→Nat→Nat→List (Nat×Nat)
 |[],_,_=>[]
 |k::r,a,b=>match ob k with
  |some (.row _ _ _)=>bif sM k dr then(k,1000+a)::zal ob dr r (a+1) b else(k,2000+b)::zal ob dr r a (b+1)
  |_=>(k,1000+a)::zal ob dr r (a+1) b
def ff(ob:Nat→Option wT)(ρ:List (Nat×Nat)):List (Nat×Nat)→List (Nat×wT)
 |[]=>[]
 |(k,c)::r=>match ob k with
  |some o=>(c,o.ren ρ)::ff ob ρ r
  |none=>ff ob ρ r
structure HOk (w:World)(S:Nat→Prop)(pl:Nat→Value)(h:List (Nat×wT)):Prop where
 ok:∀k o,yB k h=some o→cO w S pl (pl k) o
 priv:∀k o b,yB k h=some o→nQ (pl k)=some b→b<w.heap.size∧¬S b
 inj:∀k k' o o' b,yB k h=some o→yB k' h=some o'→nQ (pl k)=some b→nQ (pl k')=some b→k=k'
def fM(pl:Nat→Value)(h:List (Nat×wT))(b:Nat):Prop:=∃k o,yB k h=some o∧nQ (pl k)=some b
def zio(P:Program)(f:FuncId)(args:List D)(h:List (Nat×wT))(r:D)(h':List (Nat×wT)):Prop:=
 ∀(w:World) (S:Nat→Prop) (vs:Array Value) (pl:Nat→Value),(∀b,S b→b<w.heap.size)→vs.size=args.length→(∀i d,args[i]? =some d→Rd w S pl (vs.getD i undef) d)→HOk w S pl h→GOk P w (fM pl h)→
  Calls P f vs w λe w'=>∃v S' pl',e=.returned v∧Rd w' S' pl' v r∧HOk w' S' pl' h'∧(∀b,S' b→b<w'.heap.size)∧(∀b,S' b→S b∨fM pl h b∨w.heap.size≤b)∧
   (∀b,fM pl' h' b→fM pl h b∨w.heap.size≤b)∧(∀k,stabK k=true→pl' k=pl k)∧nK w.heap.size (fM pl h) w w'
def znx(P:Program)(f:FuncId)(args:List D)(h:List (Nat×wT))(u:Value):Prop:=
 ∀(w:World) (S:Nat→Prop) (vs:Array Value) (pl:Nat→Value),(∀b,S b→b<w.heap.size)→vs.size=args.length→(∀i d,args[i]? =some d→Rd w S pl (vs.getD i undef) d)→HOk w S pl h→GOk P w (fM pl h)→
  Calls P f vs w λe w'=>e=.panicked [{v:=u,recovered:=false}]∧nK w.heap.size (fM pl h) w w'
def exH:List Ty→(List D→Prop)→Prop
 |[],K=>K []
 |t::ts,K=>∃x:t.den,exH ts λds=>K (M4 t x::ds)
def cP(k off:Nat):Nat:=1000000+1000*k+off
def Qg(σ:St)(k off:Nat)(e:TypeId)(t:Ty):St:=match σ.ob k with
 |some (.cells ds)=>match ds[off]? with
  |some .nil=>bif Nat.beq k (cP k off)then σ else(σ.mk' (cP k off) (.row e t [])).setOb k (.cells ((ds.map (D.kill (cP k off))).set off (.own (cP k off))))
  |some (.ifc (.pointer none))=>σ.setOb k (.cells (ds.set off (.slf k)))
  |_=>σ
 |_=>σ
def iT(ds:List D):List (Nat×(Nat×(TypeId×Ty)))→St→St
 |[],σ=>σ
 |(i,off,e,t)::r,σ=>match ds[i]? with
  |some (.ptr k 0)=>iT ds r (Qg σ k off e t)
  |_=>iT ds r σ
def zam(k:Nat):List (Nat×(Nat×(TypeId×Ty)))→List (Nat×(Nat×(TypeId×Ty)))
 |[]=>[]
 |(j,x)::r=>bif Nat.beq j k then(0,x)::zam k r else zam k r
def YF:List (Nat×(Nat×(TypeId×Ty)))→List D→List D
 |[],cs=>cs
 |(_,off,_,_)::r,cs=>YF r (match cs[off]? with
  |some (.sl _ [])=>cs.set off .nil
  |_=>cs)
def zd8(E:TE)(A:xJ)(o:Oper)(T:TypeId)(σ:St)(K:D→St→Prop):Prop:=match yB T E.zs with
 |some (_,cs)=>match fc A o.dst with
  |some k=>bif Nat.blt k 1000000 then K (.ptr k 0) (iT [.ptr k 0] (zam k A.nz) (σ.mk' k (.cells (YF (zam k A.nz) cs))))else False
  |none=>K (.iptr cs 0) σ
 |none=>False
def Ew(E:TE)(A:xJ)(o:Oper)(T:TypeId)(σ:St)(K:D→St→Prop):Prop:=match A.nz with
 |[]=>Er E A o T σ K
 |_=>zd8 E A o T σ K
def Y8(σ:St)(k off:Nat):St:=match σ.ob k with
 |some (.cells ds)=>match ds[off]? with
  |some (.own j)=>match σ.ob j with
   |some o=>bif o.flatB then σ.pub j o else σ
   |none=>σ
  |_=>σ
 |_=>σ
def uI(ds:List D):List (Nat×Nat)→St→St
 |[],σ=>σ
 |(i,off)::r,σ=>match ds[i]? with
  |some (.ptr k 0)=>uI ds r (Y8 σ k off)
  |_=>uI ds r σ
def iU(ρi:List (Nat×Nat))(dst c:Nat):Nat:=match yB c ρi with
 |some k=>k
 |none=>30000+64*dst+(c-3000)
def iV(ks:List Nat)(d:D):D:=match d.ref with
 |some j=>bif sM j ks then .undef else d
 |none=>d
def Vu{α:Type}(ks:List Nat):List (Nat×α)→List (Nat×α)
 |[]=>[]
 |(i,a)::r=>bif sM i ks then Vu ks r else(i,a)::Vu ks r
def St.after(σ:St)(ρ:List (Nat×Nat))(dst:Nat)(h':List (Nat×wT)):St:=
 let β:List (Nat×Nat):=h'.map λx=>(x.1,iU (Jf ρ) dst x.1)
 let dead:=((ρ.filter λx=> !stabK x.2|| !(sM x.2 (h'.map (·.1)))).map (·.1))++(β.filter λx=> !(sM x.1 (ρ.map (·.2)))).map (·.2)
 ⟨σ.fr.map λx=>(x.1,iV dead x.2),(h'.map λx=>(iU (Jf ρ) dst x.1,x.2.ren β))++Vu ((ρ.map (·.1))++β.map (·.2)) (σ.hp.map λx=>(x.1,x.2.map (iV dead)))⟩
def zci(σ:St)(ρ:List (Nat×Nat))(dst:Nat)(h':List (Nat×wT)):Bool:=
 jV (ρ.map (·.1))&&jV (ρ.map (·.2))&&jV (h'.map (·.1))&&jV (h'.map λx=>iU (Jf ρ) dst x.1)&&
  ρ.all (λx=>(!stabK x.1||stabK x.2)&&Nat.blt x.2 3000)&&
  h'.all (λx=>sM x.1 (ρ.map (·.2))||Nat.ble 3000 x.1)
def NY(d:D):Bool:=match d.ref with
 |some k=>Nat.blt k 1000000
 |none=>true
def fp(σ:St):List D→List D
 |[]=>[]
 | .ptr k 0::r=>(match σ.ob k with
  |some (.cells cs)=>cs.filter λd=>match d with
   | .ptr _ 0=>true
   |_=>false
  |_=>[])++fp σ r
 |_::r=>fp σ r
def Hb(P:Program)(A:xJ)(f:FuncId)(hs:zab)(dst:Nat)(ds0 caps:List D)(σ:St)(K:D→St→Prop):Prop:=
 bif caps.all cC&&ds0.all NY then
  let σ:=iT (ds0++fp (uI ds0 hs.datas σ) ds0) hs.nils (uI ds0 hs.datas σ)
  let ρ:=zal σ.ob (Qf ds0) (reach σ.ob 400 [] ds0) 0 0
  exH hs.tys λxs=>match hs.res xs (λc=>yB c (ff σ.ob ρ ρ))with
   |some (r,h')=>bif zci σ ρ dst h' then zio P f (ds0.map (D.ren ρ)++caps) (ff σ.ob ρ ρ) r h'∧K (r.ren (h'.map λx=>(x.1,iU (Jf ρ) dst x.1))) (σ.after ρ dst h')else False
   |none=>False
 else False
def zjU(P:Program)(f:FuncId)(hs:zab)(ds0 caps:List D)(σ:St)(T:Value→Prop):Prop:=
 bif caps.all cC&&ds0.all NY then
  let σ:=iT (ds0++fp (uI ds0 hs.datas σ) ds0) hs.nils (uI ds0 hs.datas σ)
  let ρ:=zal σ.ob (Qf ds0) (reach σ.ob 400 [] ds0) 0 0
  bif jV (ρ.map (·.1))&&jV (ρ.map (·.2))then∃u,znx P f (ds0.map (D.ren ρ)++caps) (ff σ.ob ρ ρ) u∧T u else False
 else False
def ziq:Option Nat→Nat
 |some d=>d
 |none=>0
def zd9(E:TE)(f:FuncId):Option (List Ty)→Option zab
 |some _=>none
 |none=>yB f E.hsig
def zlX(P:Program)(E:TE)(A:xJ)(g:FuncId)(hs:zab)(dst:Nat)(ds caps:List D)(σ:St)(K:D→St→Prop)(T:Value→Prop):Prop:=match sM g E.thr with
 |true=>Hb P A g hs dst ds caps σ K∨zjU P g hs ds caps σ T
 |false=>Hb P A g hs dst ds caps σ K
def zcj(P:Program)(E:TE)(A:xJ)(o:Oper)(fv:D)(args:List Operand)(tys:List TypeId)(σ:St)(K:D→St→Prop):Prop:=match fv with
 | .clo f rs0 caps=>match zd9 E f rs0 with
  |some hs=>Hb P A f hs (ziq o.dst) (zd6 hs.raw E σ args tys) caps σ K
  |none=>match zor E f rs0 with
   |some rs=>znw P f rs0<|
    let ds:=fe E σ args tys
    bif rs.all Ty.scalar then
     let ds:=ds.map (Qe σ)
     bif ds.all cC then zd5 P f (ds++caps) rs λr=>K r σ else False
    else sN A.q σ ds λds σ=>zd5 P f (ds++caps) rs λr=>K r σ
   |none=>False
 |_=>False
def Fx(P:Program)(E:TE)(A:xJ)(o:Oper)(σ:St)(K:D→St→Prop):Prop:=match o.op with
 | .move x=>zcg E A o (σ.ev x) σ K
 | .assign x=>zcg E A o (σ.ev x) σ K
 | .pick c a b=>match σ.ev c with
  | .bool t=>zN t (K (σ.ev a) σ) (K (σ.ev b) σ)
  |_=>False
 | .alloc T=>Ew E A o T σ K
 | .box T x=>zjO E A o T (σ.ev x) σ K
 | .build T parts=>Eu E A o T parts.toList σ K
 | .buildSlice T len parts=>Y7 E A o T len parts.toList σ K
 | .load T x=>zgX E A T (σ.ev x) σ K
 | .store T x y=>zaf E A T (σ.ev x) (σ.ev y) σ K
 | .nilCheck x=>match σ.ev x with
  | .ptr k off=>K (.ptr k off) σ
  | .iptr cs off=>K (.iptr cs off) σ
  | .elt t xs i off=>K (.elt t xs i off) σ
  | .oelt k sz i off=>K (.oelt k sz i off) σ
  |_=>False
 | .binOp op T x y _=>zch E op T (σ.ev x) (σ.ev y) σ λd=>K d σ
 | .makeMap T none=>Qd E A o T σ K
 | .mapUpdate T m x y=>TU E A T (σ.ev m) (σ.ev x) (σ.ev y) σ K
 | .lookup T m x ok=>Fv E T (σ.ev m) (σ.ev x) ok σ λd=>K d σ
 | .unOp op _ x=>unD op (σ.ev x) λd=>K d σ
 | .convert src dst x=>zgZ E src dst (σ.ev x) λd=>K d σ
 | .makeFunc (.func f) first captured=>match A.clp with
  |false=>(match first.toList with
   |[]=>sN A.q σ (captured.toList.map σ.ev) λcs σ=>K (.clo f none cs) σ
   |_=>False)
  |true=>(match first.toList.map σ.ev,captured.toList.map σ.ev with
   |[.ptr k off],[]=>K (.clp f true k off) σ
   |[],[.ptr k off]=>K (.clp f false k off) σ
   |_,_=>False)
 | .makeInterface T x=>match yB T E.zs,BX (σ.ev x)with
  |some (true,_),some u=>K (.ifc (.iface T u)) σ
  |_,_=>False
 | .slice T x lo hi none=>zag E A T (σ.ev x) σ lo hi K
 | .fieldAddr T x f=>Et E T (σ.ev x) f λd=>K d σ
 | .indexAddr T x ix=>TV E T (σ.ev x) (σ.ev ix) σ λd=>K d σ
 | .index T x ix=>zai E T (σ.ev x) (σ.ev ix) λd=>K d σ
 | .extract x i=>M7 (σ.ev x) i λd=>K d σ
 | .makeSlice T l c=>Wu E A o T (σ.ev l) (σ.ev c) σ K
 | .call c=>match c.callee with
  | .builtin .len=>match c.args.toList,c.argTypes.toList with
   |[x],[T]=>zlU E T (σ.ev x) σ λd=>K d σ
   |_,_=>False
  | .builtin .append=>match c.args.toList,c.argTypes.toList with
   |[x,y],[T,T']=>Fw E A o T T' (σ.ev x) y σ K
   |_,_=>False
  | .builtin .max=>match c.args.toList with
   |[x,y]=>zlW (σ.ev x) (σ.ev y) λd=>K d σ
   |_=>False
  | .value f=>zcj P E A o (σ.ev f) c.args.toList c.argTypes.toList σ K
  |_=>False
 |_=>False
def znd(P:Program)(E:TE)(A:xJ)(o:Oper)(σ:St)(K:D→St→Prop)(T:Value→Prop):Option Prop:=match o.op with
 | .panic x=>some (match σ.ev x with
  | .ifc (.iface t u)=>T (.iface t u)
  |_=>False)
 | .call c=>match c.callee with
  | .value f=>match σ.ev f with
   | .clo g none caps=>(match sM g E.thr with
    |true=>some (match yB g E.hsig with
     |some hs=>zlX P E A g hs (ziq o.dst) (zd6 hs.raw E σ c.args.toList c.argTypes.toList) caps σ K T
     |none=>False)
    |false=>none)
   | .clp g bd k off=>some (match yB g E.hsig with
     |some hs=>zlX P E A g hs (ziq o.dst) (bif bd then .ptr k off::zd6 hs.raw E σ c.args.toList c.argTypes.toList else zd6 hs.raw E σ c.args.toList c.argTypes.toList++[.ptr k off]) [] σ K T
     |none=>False)
   |_=>none
  |_=>none
 |_=>none
def opX(P:Program)(E:TE)(A:xJ)(o:Oper)(σ:St)(K:D→St→Prop)(T:Value→Prop):Prop:=match znd P E A o σ K T with
 |some X=>X
 |none=>Fx P E A o σ K
end Go.Proofs.YteimklbiapnfhaaGreat
namespace Go.Proofs.YteimklbiapnfhaaGreat
open Go.RowKit
set_option linter.unusedVariables false
set_option linter.unusedSimpArgs false
variable[Lo]
def zjV:TypeDesc→Bool
 | .struct _| .array _ _=>true
 |_=>false
def zB:Value→D→Bool
 | .int .i64 n,.int .i64 m=>decide (n=0)&&decide (m=0)
 | .int .u8 n,.int .u8 m=>decide (n=0)&&decide (m=0)
 | .bool false,.bool false=>true
 | .string s,.str s'=>decide (s.size=0)&&decide (s'.size=0)
 | .slice none 0 0,.nil=>true
 | .slice none 0 0,.sl _ []=>true
 | .slice none 0 0,.slN _ [] true=>true
 | .pointer none,.ifc (.pointer none)=>true
 |_,.undef=>true
 |_,_=>false
def Ga:List Value→List D→Bool
 |[],[]=>true
 |v::vs,d::ds=>zB v d&&Ga vs ds
 |_,_=>false
structure ZOk (P:Program)(T:TypeId)(ag:Bool)(cs:List D):Prop where
 ty:tyC T cs
 ex:∃i z u,P.info? T=some i∧i.zero=some z∧i.size=cs.length∧P.underlying T=some u∧zjV u=ag∧Ga z.cells.toList cs=true
 one:ag=false→cs.length=1
structure SlE (P:Program)(T e:TypeId)(t:Ty):Prop where
 und:P.underlying T=some (.slice e)
 ex:∃i z,P.info? e=some i∧i.zero=some z∧i.size=t.size∧i.bytes=t.bytes∧Ga z.cells.toList (cells t t.dflt)=true
def zot(P:Program)(T:TypeId)(offs:List (Nat×Nat)):Prop:=
 ∃fs:Array Field,P.underlying T=some (.struct fs)∧fs.toList.mapM (λf=>(P.info? f.type).map λi=>(f.offset,i.size))=some offs∧offs.all (λx=> !Nat.beq x.2 0)=true
def zlY(P:Program)(f:Field):Option (Bool×Nat):=if f.name≠ "_" then(match P.underlying f.type with
 |some (.int .i64)=>some (false,f.offset)
 |some .string=>some (true,f.offset)
 |_=>none)else none
def fkT:Ty→Option (List (Bool×Nat))
 | .tok=>some [(false,0),(false,1),(true,2)]
 | .lit=>some [(false,0),(false,1),(false,2)]
 | .var=>some [(true,0),(false,1),(false,2)]
 |_=>none
def zou(P:Program)(T:TypeId)(t:Ty):Prop:=
 P.underlying T=some (.struct (P.fieldsOf T))∧P.stoodInHeld T=false∧P.eqGuardType P.depth T=false∧∃l,fkT t=some l∧(P.fieldsOf T).toList.mapM (zlY P)=some l
def Jm(P:Program)(kT:TypeId):Ty→Prop
 | .int=>P.underlying kT=some (.int .i64)
 | .str=>P.underlying kT=some .string
 | .pr .int .int=>∃e i,P.underlying kT=some (.array 2 e)∧P.underlying e=some (.int .i64)∧P.info? e=some i∧P.cellsOf e=1
 |_=>False
def MpE(P:Program)(T:TypeId)(k v:Ty):Prop:=
 ∃kT eT i z d,P.underlying T=some (.map kT eT)∧Jm P kT k∧P.info? eT=some i∧i.zero=some z∧cells v v.dflt=[d]∧zB z d=true∧z.oneCell'=true
structure vM (P:Program)(E:TE):Prop where
 zs:∀T ag cs,yB T E.zs=some (ag,cs)→ZOk P T ag cs
 sl:∀T e t,yB T E.sl=some (e,t)→SlE P T e t
 fld:∀T offs,yB T E.fld=some offs→zot P T offs
 strs:∀T,sM T E.strs=true→P.underlying T=some .string
 ints:∀T k,yB T E.ints=some k→P.underlying T=some (.int k)
 bools:∀T,sM T E.bools=true→P.underlying T=some .bool
 sig:∀f rs,yB f E.sig=some rs→∀args w,(callFunc f args).run P w=.ok (.enter f args) w
 hsig:∀f hs,yB f E.hsig=some hs→Ent P f
 arr:∀T,sM T E.arr=true→∃e i,P.underlying T=some (.array 2 e)∧P.info? e=some i∧i.size=1
 mps:∀T k v,yB T E.mps=some (k,v)→MpE P T k v
 sts:∀T t,yB T E.sts=some t→zou P T t
 mixed:P.follows .mixedOrders=true
 byt:∀T e,yB T E.sl=some (e,.byte)→∃i,P.info? e=some i∧i.zero=some (.int .u8 0)
section
variable {P:Program}{E:TE}{A:xJ}{b0:Y6}{w w':World}{S S':Nat→Prop}{pl pl':Nat→Value}{N:Nat}{σ:St}{a:Act}{v:Value}{d:D}{o:Oper}{K:D→St→Prop}{next:Act→World→Prop}{Q:Exit→Act→World→Prop}
theorem zir{s s':ByteArray}(h:s.size=0)(h':s'.size=0):s=s':=by
 have e:∀t:ByteArray,t.size=0→t=⟨#[]⟩:=λt ht=>by
  apply ByteArray.ext;exact Array.eq_empty_of_size_eq_zero ht
 rw[e s h,e s' h']
theorem zne(h:zB v d=true):Rp w S v d:=by
 unfold zB at h
 split at h
 case h_1=>simp only[Bool.and_eq_true,decide_eq_true_eq]at h;obtain⟨rfl,rfl⟩:=h;exact .int _ _ (by unfold inK vK;omega)
 case h_2=>simp only[Bool.and_eq_true,decide_eq_true_eq]at h;obtain⟨rfl,rfl⟩:=h;exact .int _ _ (by unfold inK;omega)
 case h_3=>exact .bool _
 case h_4=>simp only[Bool.and_eq_true,decide_eq_true_eq]at h;rw[zir h.1 h.2];exact .str _ (by omega)
 case h_5=>exact .nil
 case h_6=>exact .sl _ _ _ ⟨[.slice none 0 0],rfl,none,0,rfl,by simp,by simp,by simp,λ_=>rfl,λhn=>absurd hn (by simp)⟩
 case h_7=>exact .slN _ _ _ _ ⟨[.slice none 0 0],rfl,none,0,rfl,by simp,by simp,by simp,λ_=>rfl,λhn=>absurd hn (by simp)⟩ (λe=>by cases e) λ_=>rfl
 case h_8=>exact .ifc _
 case h_9=>exact .undef _
 case h_10=>cases h
theorem NZ:∀ {vs:List Value} {ds:List D},Ga vs ds=true→xH (Rp w S) vs ds
 |[],[],_=> .nil
 |v::vs,d::ds,h=>by
  simp only[Ga,Bool.and_eq_true]at h
  exact .cons (zne h.1) (NZ h.2)
 |[],_::_,h=>by simp[Ga]at h
 |_::_,[],h=>by simp[Ga]at h
theorem zny(v:Value):Rp w S v (ofV v):=by
 unfold ofV;split
 case h_1 n=>
  cases h:decide (-9223372036854775808≤n)&&decide (n≤9223372036854775807)with
  |true=>simp only[Bool.and_eq_true,decide_eq_true_eq]at h;exact .int _ _ h
  |false=>exact .undef _
 case h_2 n=>
  cases h:decide (0≤n)&&decide (n≤255)with
  |true=>simp only[Bool.and_eq_true,decide_eq_true_eq]at h;exact .int _ _ h
  |false=>exact .undef _
 case h_3=>exact .bool _
 case h_4 s=>
  cases h:Nat.ble s.size 140737488355328 with
  |true=>exact .str _ (Nat.le_of_ble_eq_true h)
  |false=>exact .undef _
 case h_5=>exact .nil
 case h_6=>exact .undef _
theorem tA(m:tD P b0 N σ a w S pl)(x:Operand):Rd w S pl (a.eval x) (σ.ev x):=by
 cases x with
 |tmp t=>exact m.fr t
 |const v=>exact(zny v).rd
 |func f=>exact Rp.rd (.clo f none [] #[] rfl (λi d h=>by simp at h))
 |global g=>exact tV
theorem Jn(T:TypeId)(h:Rd w S pl v d):Rd w S pl v (NX E T d):=by
 unfold NX;split
 ·split
  ·have:=h.flat (d:=.nil) rfl
   rw[this.nil_inv];exact Rp.rd (.sl _ _ _ ⟨[.slice none 0 0],rfl,none,0,rfl,by simp,by simp,by simp,λ_=>rfl,λhn=>absurd hn (by simp)⟩)
  ·exact h
 ·exact Rp.rd (.sl _ _ _ (h.flat (d:=.slN _ _ _) rfl).slN_inv'.1)
 ·exact h
def sG(P:Program)(b0:Y6)(N:Nat)(o:Oper)(a:Act)(K:D→St→Prop)(next:Act→World→Prop):Prop:=
 ∀d σ' v w' S' pl',K d σ'→tD P b0 N σ' a w' S' pl'→Rd w' S' pl' v d→next (a.put o.dst v) w'
theorem yQ{v:Value}{w':World}(h:(execOp a.eval o).run P w=.ok (.value v) w')(hn:next (a.put o.dst v) w'):o.wp P a w next Q:=by
 unfold Oper.wp;rw[h];exact hn
theorem zan{w':World}(h:(execOp a.eval o).run P w=.ok .skip w')(hn:next (a.put o.dst undef) w'):o.wp P a w next Q:=by
 unfold Oper.wp;rw[h];exact hn
theorem zea(h:Rp w S v d)(hd:jU d=true):v.oneCell'=true:=by
 cases h
 case sl t xs h=>obtain⟨A,c,rfl,_⟩:=sZ h;rfl
 case slN t xs nl h _ _=>obtain⟨A,c,rfl,_⟩:=sZ h;rfl
 all_goals first|rfl|(simp[jU]at hd)
def Rc(w:World)(S:Nat→Prop)(pl:Nat→Value)(v:Value)(d:D):Prop:=Rd w S pl v d∧(jU d=true→v.oneCell'=true)
theorem P1(m:tD P b0 N σ a w S pl)(h:Rd w S pl v d){cs:List D}(hc:Zy σ d=some cs):xH (Rc w S pl) v.cells.toList cs:=by
 have one:v.cells.toList=[v]→Zy σ d=some [d]→v.oneCell'=true→xH (Rc w S pl) v.cells.toList cs:=λe e' e1=>by
  rw[e']at hc;injection hc with hc;subst hc;rw[e];exact .cons ⟨h,λ_=>e1⟩ .nil
 cases d
 case agg ds=>
  obtain⟨vs,rfl,hl,h⟩:=(h.flat rfl).agg_inv;injection hc with hc;subst hc
  refine xH.of (by simpa[Value.cells]using hl) λi x d hx hd=> ?_
  have:=h i d hd;simp only[Value.cells,Array.getElem?_toList]at hx
  rw[Array.getD_eq_getD_getElem?,hx]at this
  exact⟨this.rd,zea this⟩
 case tup ds=>cases hc
 case undef=>cases hc
 case ifc u=>cases hc
 case slf k=>
  rcases h with e|⟨b,_,e⟩
  ·exact one (by rw[e];rfl) rfl (by rw[e];rfl)
  ·exact one (by rw[e];rfl) rfl (by rw[e];rfl)
 case clp f bd k off=>obtain⟨b,_,e⟩:=h;exact one (by rw[e];rfl) rfl (by rw[e];rfl)
 case own k=>
  have h':v=pl k:=h;simp only[Zy,St.ob]at hc
  cases ho:yB k σ.hp with
  |none=>rw[ho]at hc;cases hc
  |some o=>
   rw[ho]at hc
   cases o with
   |val ds=>
    injection hc with hc;subst hc
    obtain⟨vs,e1,e3,e4⟩:=m.hp k _ ho;rw[h',e1];refine xH.of (by simpa[Value.cells]using e3) λi x d hx hd=> ?_
    have:=e4 i d hd;simp only[Value.cells,Array.getElem?_toList]at hx
    rw[Array.getD_eq_getD_getElem?,hx]at this
    exact this
   |cells ds=>
    injection hc with hc;subst hc
    obtain⟨b,vs,T,e,_⟩:=m.hp k _ ho;have e':=h'.trans e;rw[e'];exact .cons ⟨by rw[←e'];exact h,λ_=>rfl⟩ .nil
   |row e t xs=>
    injection hc with hc;subst hc
    obtain⟨_,css,_,h4,_⟩:=m.hp k _ ho;rcases h4.2 with⟨e,_⟩|⟨g,cap,cur,e,_⟩<;>
    ·have e':=h'.trans e
     rw[e'];exact .cons ⟨by rw[←e'];exact h,λ_=>rfl⟩ .nil
   |mp kt vt es=>
    injection hc with hc;subst hc
    obtain⟨b,e,_⟩:=m.hp k _ ho;have e':=h'.trans e;rw[e'];exact .cons ⟨by rw[←e'];exact h,λ_=>rfl⟩ .nil
 case ownN k=>
  have h':v=pl k:=(show v=pl k∧v≠ .slice none 0 0 from h).1
  simp only[Zy,St.ob]at hc
  cases ho:yB k σ.hp with
  |none=>rw[ho]at hc;cases hc
  |some o=>
   rw[ho]at hc
   cases o with
   |row e t xs=>
    injection hc with hc;subst hc
    obtain⟨_,css,_,h4,_⟩:=m.hp k _ ho;rcases h4.2 with⟨e,_⟩|⟨g,cap,cur,e,_⟩<;>
    ·have e':=h'.trans e
     rw[e'];exact .cons ⟨by rw[←e'];exact h,λ_=>rfl⟩ .nil
   |val ds=>cases hc
   |cells ds=>cases hc
   |mp kt vt es=>cases hc
 case slN t xs nl=>obtain⟨A,c,e,_⟩:=sZ ((h.flat (d:=.slN t xs nl) rfl).slN_inv).1;exact one (by rw[e];rfl) rfl (by rw[e];rfl)
 case mp kt vt es=>obtain⟨b,e,_⟩:=(h.flat (d:=.mp kt vt es) rfl).mp_inv;exact one (by rw[e];rfl) rfl (by rw[e];rfl)
 case sl t xs=>obtain⟨A,c,e,_⟩:=sZ (h.flat (d:=.sl t xs) rfl).sl_inv;exact one (by rw[e];rfl) rfl (by rw[e];rfl)
 case nil=>have e:=(h.flat (d:=.nil) rfl).nil_inv;exact one (by rw[e];rfl) rfl (by rw[e];rfl)
 case int k n=>have e:=(h.flat (d:=.int k n) rfl).int_inv.1;exact one (by rw[e];rfl) rfl (by rw[e];rfl)
 case bool b=>have e:=(h.flat (d:=.bool b) rfl).bool_inv;exact one (by rw[e];rfl) rfl (by rw[e];rfl)
 case str s=>have e:=(h.flat (d:=.str s) rfl).str_inv.1;exact one (by rw[e];rfl) rfl (by rw[e];rfl)
 case iptr cs off=>obtain⟨b,e,_⟩:=(h.flat (d:=.iptr cs off) rfl).iptr_inv;exact one (by rw[e];rfl) rfl (by rw[e];rfl)
 case elt t xs i off=>obtain⟨b,o,c,e,_⟩:=(h.flat (d:=.elt t xs i off) rfl).elt_inv;exact one (by rw[e];rfl) rfl (by rw[e];rfl)
 case clo f rs caps=>obtain⟨vs,e,_⟩:=(h.flat (d:=.clo f rs caps) rfl).clo_inv;exact one (by rw[e];rfl) rfl (by rw[e];rfl)
 case ptr k off=>obtain⟨b,_,e⟩:=h;exact one (by rw[e];rfl) rfl (by rw[e];rfl)
 case oelt k sz i off=>obtain⟨b,n,c,_,_,e⟩:=h;exact one (by rw[e];rfl) rfl (by rw[e];rfl)
theorem zis(m:tD P b0 N σ a w S pl)(h:Rd w S pl v d){cs:List D}(hc:Zy σ d=some cs):xH (Rd w S pl) v.cells.toList cs:=(P1 m h hc).imp λ_ _ h=>h.1
theorem oZ{d:D}:cC d=true↔d.ref=none:=by
 unfold cC;cases d.ref<;>simp
theorem Nw:∀ {ds:List D},cX ds=none→∀d∈ds,d.ref=none
 |[],_,d,hd=>by cases hd
 |e::r,h,d,hd=>by
  unfold cX at h
  cases he:e.ref with
  |some k=>rw[he]at h;cases h
  |none=>
   rw[he]at h
   rcases List.mem_cons.1 hd with rfl|hd
   ·exact he
   ·exact Nw h d hd
theorem xH.map_right{α β γ:Type}{R:α→γ→Prop}{f:β→γ}:∀ {xs:List α} {ys:List β},xH (λx y=>R x (f y)) xs ys→xH R xs (ys.map f)
 |_,_,.nil=> .nil
 |_,_,.cons h hs=> .cons h hs.map_right
theorem xH.flat:∀ {vs:List Value} {ds:List D},xH (Rd w S pl) vs ds→(∀d∈ds,d.ref=none)→xH (Rp w S) vs ds
 |_,_,.nil,_=> .nil
 |_,_,.cons h hs,hf=> .cons (h.flat (hf _ List.mem_cons_self)) (hs.flat λd hd=>hf d (List.mem_cons_of_mem _ hd))
theorem xH.rd{vs:List Value}{ds:List D}(h:xH (Rp w S) vs ds):xH (Rd w S pl) vs ds:=h.imp λ_ _ h=>h.rd
theorem xH.rmono{vs:List Value}{ds:List D}(h:xH (Rp w S) vs ds)(hk:∀b,S b→w'.heap[b]? =w.heap[b]?)(hS:∀b,S b→S' b):xH (Rp w' S') vs ds:=h.imp λ_ _ h=>h.mono hk hS
theorem zg0:∀(n:Nat) (σ:St) (ds:List D) (σ':St) (ds':List D) (S:Nat→Prop),pubs n σ ds=some (σ',ds')→tD P b0 N σ a w S pl→
  ∃S',(∀b,S b→S' b)∧tD P b0 N σ' a w S' pl∧∀vs,xH (Rd w S pl) vs ds→xH (Rp w S') vs ds'
 |0,_,_,_,_,_,h,_=>by cases h
 |n+1,σ,ds,σ',ds',S,h,m=>by
  unfold pubs at h
  cases hf:cX ds with
  |none=>
   rw[hf]at h;injection h with h;injection h with h1 h2;subst h1 h2
   exact⟨S,λ_ h=>h,m,λvs hv=>hv.flat (Nw hf)⟩
  |some k0=>
   rw[hf]at h
   simp only at h
   generalize Vs σ 4 k0=k at h
   cases ho:σ.ob k with
   |none=>rw[ho]at h;cases h
   |some o=>
    rw[ho]at h
    simp only at h
    cases hfl:o.flatB with
    |false=>rw[hfl]at h;cases h
    |true=>
     rw[hfl,cond_true]at h
     have hfl':o.flat:=by
      cases o with
      |cells cs=>exact λd hd=>oZ.1 (List.all_eq_true.1 hfl d hd)
      |row _ _ _=>trivial
      |mp _ _ _=>trivial
      |val cs=>exact λd hd=>oZ.1 (List.all_eq_true.1 hfl d hd)
     have m1:=m.pub (k:=k) ho hfl';obtain⟨S',hS,m2,hv⟩:=zg0 n _ _ _ _ _ h m1;exact⟨S',λb hb=>hS b (.inl hb),m2,λvs h=>hv vs (xH.map_right (h.imp λ_ _ h=>PZ (m.lo ho) (m.hp k o ho) hfl' h))⟩
theorem qX{ds:List D}{K:List D→St→Prop}{q:Nat}(h:sN q σ ds K)(m:tD P b0 N σ a w S pl):
  ∃σ' ds' S',K ds' σ'∧(∀b,S b→S' b)∧tD P b0 N σ' a w S' pl∧∀vs,xH (Rd w S pl) vs ds→xH (Rp w S') vs ds':=by
 unfold sN at h
 cases hp:pubs q σ ds with
 |none=>rw[hp]at h;exact h.elim
 |some x=>
  obtain⟨σ',ds'⟩:=x;rw[hp]at h
  obtain⟨S',h1,h2,h3⟩:=zg0 _ _ _ _ _ _ hp m;exact⟨σ',ds',S',h,h1,h2,h3⟩
theorem N0(w:World)(o:Obj):(w.alloc o).heap.size=w.heap.size+1:=by simp
theorem Qh(w:World)(o:Obj):Below w.heap.size w (w.alloc o):=(Below.refl _ _).alloc (Nat.le_refl _) o
theorem N1(m:tD P b0 N σ a w S pl)(o:Obj):∀b,S b→(w.alloc o).heap[b]? =w.heap[b]? :=λb hb=>Below.heap_alloc w o b (m.lt b hb)
theorem zao(m:tD P b0 N σ a w S pl)(k:Nat)(hst:stabK k=false){vs:Array Value}{cs:List D}(T:TypeId)(h:xH (Rd w S pl) vs.toList cs)(hty:tyC T cs)(hr:∀d∈cs,d.ref≠some k):
  tD P b0 N (σ.mk' k (.cells cs)) a (w.alloc (.cells vs T)) S (OX pl k (.pointer (some ⟨w.heap.size,0,none⟩))):=by
 refine m.mk' (w':=w.alloc (.cells vs T)) k hst (.cells cs) (.pointer (some ⟨w.heap.size,0,none⟩)) (Qh w _) (λb hb=>by injection hb with hb;subst hb;exact⟨Nat.le_refl _,by show w.heap.size<_;rw[N0];omega⟩) λpl' hpl=> ?_
 refine⟨w.heap.size,vs,T,rfl,heap_alloc_new w _,by simpa using h.len,λi d hd=> ?_,hty⟩
 obtain⟨u,hu,hr'⟩:=h.at hd;have e:vs.getD i undef=u:=by rw[Array.getD_eq_getD_getElem?];rw[Array.getElem?_toList]at hu;rw[hu];rfl
 rw[e];exact hr'.mono (N1 m _) (λ_ h=>h) λj hj=>hpl j λej=>hr d (List.mem_of_getElem? hd) (by rw[hj,ej])
theorem P2(m:tD P b0 N σ a w S pl){vs:Array Value}{cs:List D}(T:TypeId)(h:xH (Rp w S) vs.toList cs):
  tD P b0 N σ a (w.alloc (.cells vs T)) (λb=>S b∨b=w.heap.size) pl∧Rp (w.alloc (.cells vs T)) (λb=>S b∨b=w.heap.size) (.pointer (some ⟨w.heap.size,0,none⟩)) (.iptr cs 0):=by
 refine⟨m.newS _,Rp.iptr_mk (.inr rfl) λi d hd=> ?_⟩
 obtain⟨u,hu,hr'⟩:=h.at hd;refine⟨u,?_,hr'.mono (N1 m _) λ_ h=> .inl h⟩
 rw[World.cell?_alloc_new];simpa using hu
theorem zeb(k b:Nat):Rd w S (OX pl k (.pointer (some ⟨b,0,none⟩))) (.pointer (some ⟨b,0,none⟩)) (.ptr k 0):=⟨b,if_pos rfl,rfl⟩
theorem zjW(F:vM P E)(m:tD P b0 N σ a w S pl){x:Operand}(ho:o.op=.move x∨o.op=.assign x)(h:zcg E A o (σ.ev x) σ K)(hn:sG P b0 N o a K next):o.wp P a w next Q:=by
 have hrun:(execOp a.eval o).run P w=.ok (.value (a.eval x)) w:=by
  rcases ho with ho|ho<;>·unfold execOp;rw[ho];rfl
 have hx:=tA m x;have plain:∀d,σ.ev x=d→K d σ→o.wp P a w next Q:=λd e h=>yQ hrun (hn _ _ _ _ _ _ h m (e▸hx))
 unfold zcg at h
 split at h
 ·rename_i e
  rw[e]at hx
  have hv:=(hx.flat (d:=.nil) rfl).nil_inv;split at h
  ·rename_i te t hl
   split at h
   ·rename_i k hk
    refine yQ hrun (hn _ _ _ _ _ _ h (m.mk' (w':=w) k (eY hk) (.row te t []) (.slice none 0 0) (Below.refl _ _) (λb hb=>by cases hb) λpl' _=> ?_) ?_)
    ·exact⟨by simp[lim],[],rfl,by simpa using World.ownsRow_nil w 0 te t.size,by simp,by simp⟩
    ·show a.eval x=_;rw[hv];exact(if_pos rfl).symm
   ·cases hb:znc A o.dst with
    |true=>rw[hb,cond_true]at h;exact yQ hrun (hn _ _ _ _ _ _ h m (by rw[hv];exact Rp.rd (.slN _ _ _ _ ⟨[.slice none 0 0],rfl,none,0,rfl,by simp,by simp,by simp,λ_=>rfl,λhn=>absurd hn (by simp)⟩ (λe=>by cases e) λ_=>rfl)))
    |false=>
    rw[hb,cond_false]at h
    exact yQ hrun (hn _ _ _ _ _ _ h m (by rw[hv];exact Rp.rd (.sl _ _ _ ⟨[.slice none 0 0],rfl,none,0,rfl,by simp,by simp,by simp,λ_=>rfl,λhn=>absurd hn (by simp)⟩)))
  ·exact plain _ e h
 ·rename_i d hne
  exact plain _ rfl h
theorem zlZ(m:tD P b0 N σ a w S pl){c x y:Operand}(ho:o.op=.pick c x y){t:Bool}(hc:σ.ev c=.bool t)(h:zN t (K (σ.ev x) σ) (K (σ.ev y) σ))(hn:sG P b0 N o a K next):o.wp P a w next Q:=by
 have hcv:a.eval c=.bool t:=by have:=tA m c;rw[hc]at this;exact(this.flat (d:=.bool t) rfl).bool_inv
 have hrun:(execOp a.eval o).run P w=.ok (.value (if t then a.eval x else a.eval y)) w:=by
  unfold execOp;rw[ho];simp only[hcv];rfl
 cases t
 ·exact yQ hrun (hn _ _ _ _ _ _ h m (tA m y))
 ·exact yQ hrun (hn _ _ _ _ _ _ h m (tA m x))
theorem zap:∀ {vs:List Value} {ds:List D},Ga vs ds=true→∀d∈ds,d.ref=none
 |[],[],_,d,hd=>by cases hd
 |v::vs,e::ds,h,d,hd=>by
  simp only[Ga,Bool.and_eq_true]at h
  rcases List.mem_cons.1 hd with rfl|hd
  ·have h1:=h.1
   cases d
   case own k=>cases v<;>simp[zB]at h1
   case ptr k off=>cases v<;>simp[zB]at h1
   case oelt k sz i off=>cases v<;>simp[zB]at h1
   case ownN k=>cases v<;>simp[zB]at h1
   case clp f bd k off=>cases v<;>simp[zB]at h1
   case slf k=>cases v<;>simp[zB]at h1
   all_goals rfl
  ·exact zap h.2 d hd
 |[],_::_,h,_,_=>by simp[Ga]at h
 |_::_,[],h,_,_=>by simp[Ga]at h
theorem zjX(F:vM P E)(m:tD P b0 N σ a w S pl){T:TypeId}(ho:o.op=.alloc T)(h:Er E A o T σ K)(hn:sG P b0 N o a K next):o.wp P a w next Q:=by
 unfold Er at h
 split at h
 ·rename_i ag cs hl
  obtain⟨i,z,u,hi,hz,hsz,hu,hag,hzb⟩:=(F.zs T ag cs hl).ex
  have hrun:(execOp a.eval o).run P w=.ok (.value (.pointer (some ⟨w.heap.size,0,none⟩))) (w.alloc (.cells z.cells T)):=by
   unfold execOp;rw[ho];simp[Instr.alloc,zeroValue,typeInfo,hi,hz,newVar,newRow,newObj];rfl
  have hrd:xH (Rp w S) z.cells.toList cs:=NZ hzb;split at h
  ·rename_i k hk
   exact yQ hrun (hn _ _ _ _ _ _ h (zao m k (eY hk) T hrd.rd (F.zs T ag cs hl).ty λd hd e=>by rw[zap hzb d hd]at e;cases e) (zeb k _))
  ·exact yQ hrun (hn _ _ _ _ _ _ h (P2 m T hrd).1 (P2 m T hrd).2.rd)
 ·exact h.elim
theorem znz(F:vM P E)(m:tD P b0 N σ a w S pl){T:TypeId}{x:Operand}(ho:o.op=.box T x)(h:zjO E A o T (σ.ev x) σ K)(hn:sG P b0 N o a K next):o.wp P a w next Q:=by
 have hrun:(execOp a.eval o).run P w=.ok (.value (.pointer (some ⟨w.heap.size,0,none⟩))) (w.alloc (.cells (a.eval x).cells T)):=by
  unfold execOp;rw[ho];simp[Instr.box,newVar,newRow,newObj];rfl
 have hx:=Jn (E:=E) T (tA m x);unfold zjO at h
 split at h
 ·rename_i cs hc
  have hcs:=zis m hx hc;split at h
  ·rename_i k hk
   cases hr:zae k T cs with
   |true=>rw[hr]at h;exact h.elim
   |false=>
    rw[hr,cond_false]at h
    simp only[zae,Bool.or_eq_false_iff]at hr
    refine yQ hrun (hn _ _ _ _ _ _ h (zao m k (eY hk) T hcs (λe=>by have:=hr.2;rw[e]at this;simpa using this) λd hd e=> ?_) (zeb k _))
    have:=List.any_eq_false.1 hr.1 d hd;simp only[zjN,e,yV.2 (rfl:k=k),not_true_eq_false]at this
  ·obtain⟨σ',ds',S',hK,hS,m',hv⟩:=qX h m
   exact yQ hrun (hn _ _ _ _ _ _ hK (P2 m' T (hv _ hcs)).1 (P2 m' T (hv _ hcs)).2.rd)
 ·exact h.elim
theorem N2(m:tD P b0 N σ a w S pl)(h:Rd w S pl v d){cs:List D}(hc:Zb σ d=some cs):
  ∃b off,v=.pointer (some ⟨b,off,none⟩)∧∀j d,cs[j]? =some d→∃u,w.cell? ⟨b,off+j,none⟩=some u∧Rd w S pl u d:=by
 cases d<;>simp only[Zb]at hc
 case ptr k off=>
  obtain⟨b,hp,rfl⟩:=h;cases ho:σ.ob k with
  |none=>rw[ho]at hc;cases hc
  |some o=>
   cases o with
   |row e t xs=>rw[ho]at hc;cases hc
   |mp kt vt es=>rw[ho]at hc;cases hc
   |val ds=>rw[ho]at hc;cases hc
   |cells ds=>
    rw[ho]at hc;injection hc with hc;subst hc
    obtain⟨b',vs,T,e1,e2,e3,e4,_⟩:=m.hp k _ ho;rw[hp]at e1;injection e1 with e1;injection e1 with e1;injection e1 with e1;subst e1
    refine⟨b,off,rfl,λj d hd=> ?_⟩
    rw[List.getElem?_drop]at hd
    refine⟨vs.getD (off+j) undef,?_,e4 _ d hd⟩;have hi:off+j<vs.size:=by rw[e3];exact(List.getElem?_eq_some_iff.1 hd).1
    rw[cell_of_row w b _ vs T (0,0) e2];simp[Array.getD_eq_getD_getElem?,hi]
 case iptr ds off=>
  injection hc with hc;subst hc
  obtain⟨b,rfl,hb,hcell⟩:=(h.flat (d:=.iptr ds off) rfl).iptr_inv;refine⟨b,off,rfl,λj d hd=> ?_⟩
  rw[List.getElem?_drop]at hd
  obtain⟨u,hu,hr⟩:=hcell _ d hd;exact⟨u,hu,hr.rd⟩
 case elt t xs i off=>
  injection hc with hc;subst hc
  obtain⟨b,o',c,rfl,hi,hr⟩:=(h.flat (d:=.elt t xs i off) rfl).elt_inv;obtain⟨b',o'',cs',e,hb,hrd,hcell⟩:=Qa hr hi;injection e with e;injection e with e1 e2;subst e1 e2
  have ha:=cW t hrd;refine⟨b,o'+i*t.size+off,rfl,λj d hd=> ?_⟩
  rw[List.getElem?_drop]at hd
  rw[List.getD_eq_getElem?_getD,List.getElem?_eq_getElem hi,Option.getD_some]at hd
  obtain⟨u,hu,hr'⟩:=ha.at hd;refine⟨u,?_,hr'.rd⟩;have:=hcell _ u hu;rw[←Ty.size_eq]at this
  rw[show o'+i*t.size+off+j=o'+i*t.size+(off+j) by omega]
  exact this
 case oelt k sz i off=>
  obtain⟨b,n,c,hp,hi,rfl⟩:=h;cases ho:σ.ob k with
  |none=>rw[ho]at hc;cases hc
  |some o=>
   cases o with
   |cells ds=>rw[ho]at hc;cases hc
   |mp kt vt es=>rw[ho]at hc;cases hc
   |val ds=>rw[ho]at hc;cases hc
   |row e t xs=>
    rw[ho]at hc
    simp only at hc
    cases hz:Nat.beq sz t.size with
    |false=>rw[hz]at hc;cases hc
    |true=>
     rw[hz,cond_true]at hc;injection hc with hc;subst hc
     obtain⟨_,css,h1,h2,h3,h4⟩:=m.hp k _ ho;rw[yV.1 hz];rcases h2.2 with⟨e,_⟩|⟨g,cap,cur,e,_,hg,hcap,hmax,hcur,htake⟩
     ·rw[hp]at e;cases e
     ·have e':=e
      rw[hp]at e;injection e with e e5 e6;injection e with e;injection e with e;subst e e5
      refine⟨b,i*t.size+off,rfl,λj d hd=> ?_⟩
      rw[List.getElem?_drop,List.getD_eq_getElem?_getD,List.getElem?_eq_getElem hi,Option.getD_some]at hd
      have hci:css[i]? =some (css[i]'(by omega)):=List.getElem?_eq_getElem (by omega)
      have hrd:=h4 i xs[i] _ (List.getElem?_eq_getElem hi) hci;obtain⟨u,hu,hr'⟩:=(cW t hrd).at hd;refine⟨u,?_,hr'.rd⟩;have hf:=Fr css h3 i (off+j) _ u hci hu;have:=h2.cells (g:=b) (by rw[e'];rfl) _ _ hf
      rw[←this,show i*t.size+off+j=i*t.size+(off+j) by omega]
      unfold Addr.add;split
      ·rename_i e0;rw[e0]
      ·simp
 all_goals cases hc
theorem zaq(R:Value→D→Prop)(b:Nat):∀(cs:List D) (off:Nat),(∀j d,cs[j]? =some d→∃u,w.cell? ⟨b,off+j,none⟩=some u∧R u d)→
  ∃vs:List Value,xH R vs cs∧∀(j:Nat) (u:Value),vs[j]? =some u→w.cell? ⟨b,off+j,none⟩=some u
 |[],_,_=>⟨[],.nil,λj u h=>by simp at h⟩
 |d::cs,off,h=>by
  obtain⟨u,hu,hr⟩:=h 0 d rfl
  obtain⟨vs,h1,h2⟩:=zaq R b cs (off+1) λj d hd=>by
   obtain⟨u,hu,hr⟩:=h (j+1) d (by simpa using hd)
   exact⟨u,by rw[show off+1+j=off+(j+1) by omega];exact hu,hr⟩
  refine⟨u::vs,.cons hr h1,λj v hv=> ?_⟩
  cases j with
  |zero=>simp at hv;subst hv;exact hu
  |succ j=>rw[show off+(j+1)=off+1+j by omega];exact h2 j v (by simpa using hv)
theorem UI{T:TypeId}{u:TypeDesc}(hu:P.underlying T=some u):(isAgg T).run P w=.ok (zjV u) w:=by
 unfold isAgg;simp only[Sem.run_bind,run_underlying hu,Result.andThen_ok];cases u<;>rfl
theorem zl0(F:vM P E)(m:tD P b0 N σ a w S pl){T:TypeId}{x:Operand}(ho:o.op=.load T x)(h:zgX E A T (σ.ev x) σ K)(hn:sG P b0 N o a K next):o.wp P a w next Q:=by
 have hx:=tA m x;unfold zgX at h
 split at h
 ·rename_i ag zs hl
  obtain⟨i,z,u,hi,hz,hsz,hu,hag,hzb⟩:=(F.zs T ag zs hl).ex;split at h
  ·rename_i cs hc
   obtain⟨b,off,hv,hcell⟩:=N2 m hx hc;cases hle:Nat.ble zs.length cs.length with
   |false=>rw[hle]at h;exact h.elim
   |true=>
    rw[hle,cond_true]at h
    have hle:=Nat.le_of_ble_eq_true hle;split at h
    ·rename_i hl'
     obtain⟨vs,h1,h2⟩:=zaq (Rd w S pl) b (cs.take zs.length) off λj d hd=>hcell j d (by
      rw[List.getElem?_take]at hd;split at hd
      ·exact hd
      ·cases hd)
     have hlen:vs.length=zs.length:=by rw[h1.len,List.length_take];omega
     have hload:(loadCells ⟨b,off,none⟩ zs.length).run P w=.ok vs.toArray w:=by
      rw[←hlen];refine run_loadCells_list (P:=P) w ⟨b,off,none⟩ vs λj u hu=> ?_
      have:=h2 j u hu;unfold Addr.add;split
      ·rename_i e;subst e;simpa using this
      ·exact this
     have hrun:(execOp a.eval o).run P w=.ok (.value (.agg vs.toArray)) w:=by
      unfold execOp;rw[ho];have hs:(sizeOf T).run P w=.ok zs.length w:=by simp[sizeOf,typeInfo,hi,hsz]
      simp only[Instr.loadAt,hv,Instr.sureAddr,loadVar,Sem.run_bind,Sem.run_pure,Result.andThen_ok,UI hu,hag,if_true,hs,hload]
     obtain⟨σ',ds',S',hK,hS,m',hv'⟩:=qX h m;have hr:=hv' vs h1;refine yQ hrun (hn _ _ _ _ _ _ hK m' (Rp.rd (.agg _ _ (by simpa using hr.len) λj d hd=> ?_)))
     obtain⟨u,hu,hr'⟩:=hr.at hd;rw[Array.getD_eq_getD_getElem?];simpa[hu]using hr'
    ·have hone:=(F.zs T _ zs hl).one rfl
     cases cs with
     |cons d r=>
      obtain⟨u',hu',hr⟩:=hcell 0 d rfl
      have hld:(load ⟨b,off,none⟩).run P w=.ok u' w:=by
       have:w.cell? ⟨b,off,none⟩=some u':=hu';simp only[load,Sem.run,this]
      have hrun:(execOp a.eval o).run P w=.ok (.value u') w:=by
       unfold execOp;rw[ho];simp only[Instr.loadAt,hv,Instr.sureAddr,loadVar,Sem.run_bind,Sem.run_pure,Result.andThen_ok,UI hu,hag,Bool.false_eq_true,if_false,hld]
      exact yQ hrun (hn _ _ _ _ _ _ h m hr)
     |nil=>exact h.elim
  ·exact h.elim
 ·exact h.elim
end
end Go.Proofs.YteimklbiapnfhaaGreat
namespace Go.Proofs.YteimklbiapnfhaaGreat
open Go.RowKit
set_option linter.unusedVariables false
set_option linter.unusedSimpArgs false
variable[Lo]
section
variable {P:Program}{E:TE}{A:xJ}{b0:Y6}{w w':World}{S S':Nat→Prop}{pl pl':Nat→Value}{N:Nat}{σ:St}{a:Act}{v:Value}{d:D}{o:Oper}{K:D→St→Prop}{next:Act→World→Prop}{Q:Exit→Act→World→Prop}
theorem Hc(F:vM P E){T:TypeId}{f off:Nat}(h:zah E T f=some off)(b q:Nat):(Instr.fieldAt T (.pointer (some ⟨b,q,none⟩)) f).run P w=.ok (.pointer (some ⟨b,q+off,none⟩)) w:=by
 unfold zah at h
 split at h
 ·rename_i offs hl
  split at h
  ·rename_i off' sz hf
   injection h with h;subst h
   obtain⟨fs,hu,hm,hz⟩:=F.fld T offs hl
   obtain⟨fd,hfd,hfm⟩:∃fd,fs[f]? =some fd∧(P.info? fd.type).map (λi=>(fd.offset,i.size))=some (off',sz):=by
    have key:∀(l:List Field) (offs:List (Nat×Nat)) (f:Nat),l.mapM (λf=>(P.info? f.type).map λi=>(f.offset,i.size))=some offs→offs[f]? =some (off',sz)→
      ∃fd,l[f]? =some fd∧(P.info? fd.type).map (λi=>(fd.offset,i.size))=some (off',sz):=by
     intro l
     induction l with
     |nil=>intro offs f h1 h2;simp at h1;subst h1;simp at h2
     |cons x l ih=>
      intro offs f h1 h2;rw[List.mapM_cons]at h1
      cases hx:(P.info? x.type).map λi=>(x.offset,i.size)with
      |none=>simp[hx]at h1
      |some y=>
       rw[hx]at h1
       cases hr:l.mapM (λf=>(P.info? f.type).map λi=>(f.offset,i.size))with
       |none=>simp[hr]at h1
       |some ys=>
        rw[hr]at h1
        simp at h1
        subst h1;cases f with
        |zero=>simp at h2;subst h2;exact⟨x,rfl,hx⟩
        |succ f=>simpa using ih ys f hr (by simpa using h2)
    obtain⟨fd,h1,h2⟩:=key fs.toList offs f hm hf;exact⟨fd,by simpa using h1,h2⟩
   cases hi:P.info? fd.type with
   |none=>rw[hi]at hfm;cases hfm
   |some i=>
    rw[hi]at hfm
    simp only[Option.map_some,Option.some.injEq,Prod.mk.injEq]at hfm
    have hne:i.size≠0:=by
     have:=List.all_eq_true.1 hz _ (List.mem_of_getElem? hf);intro e;rw[←hfm.2,e]at this
     simp at this
    have hs:(sizeOf fd.type).run P w=.ok i.size w:=by simp[sizeOf,typeInfo,hi]
    have hplace:(fieldPlace ⟨b,q,none⟩ fd).run P w=.ok ⟨b,q+off',none⟩ w:=by
     simp only[fieldPlace,Sem.run_bind,hs,Result.andThen_ok,if_neg hne,Sem.run_pure,hfm.1];unfold Addr.add;split
     ·rename_i e;simp[e]
     ·rfl
    simp[Instr.fieldAt,Sem.run_bind,run_underlying hu,Result.andThen_ok,hfd,Instr.sureAddr,hplace]
  ·cases h
 ·cases h
theorem zjY(F:vM P E)(m:tD P b0 N σ a w S pl){T:TypeId}{x:Operand}{f:Nat}(ho:o.op=.fieldAddr T x f)(h:Et E T (σ.ev x) f λd=>K d σ)(hn:sG P b0 N o a K next):o.wp P a w next Q:=by
 have hx:=tA m x
 have run:∀b q off,a.eval x=.pointer (some ⟨b,q,none⟩)→zah E T f=some off→(execOp a.eval o).run P w=.ok (.value (.pointer (some ⟨b,q+off,none⟩))) w:=λb q off e hf=>by
  unfold execOp;rw[ho];simp only[e,Sem.run_bind,Hc F hf,Result.andThen_ok,Sem.run_pure]
 unfold Et at h
 split at h
 ·rename_i off hf
  split at h
  ·rename_i k q e
   rw[e]at hx
   obtain⟨b,hp,hv⟩:=hx;exact yQ (run b q off hv hf) (hn _ _ _ _ _ _ h m ⟨b,hp,rfl⟩)
  ·rename_i cs q e
   rw[e]at hx
   obtain⟨b,hv,hb,hc⟩:=(hx.flat (d:=.iptr cs q) rfl).iptr_inv;exact yQ (run b q off hv hf) (hn _ _ _ _ _ _ h m (Rp.rd (Rp.iptr_mk hb hc)))
  ·rename_i t xs i q e
   rw[e]at hx
   obtain⟨b,o',c,hv,hi,hr⟩:=(hx.flat (d:=.elt t xs i q) rfl).elt_inv';refine yQ (run b _ off hv hf) (hn _ _ _ _ _ _ h m ?_);rw[show o'+i*t.size+q+off=o'+i*t.size+(q+off) by omega]
   exact Rp.rd (.elt t xs i (q+off) b o' c hi hr)
  ·rename_i k sz i q e
   rw[e]at hx
   obtain⟨b,n,c,hp,hi,hv⟩:=hx;refine yQ (run b _ off hv hf) (hn _ _ _ _ _ _ h m ⟨b,n,c,hp,hi,?_⟩);rw[show i*sz+q+off=i*sz+(q+off) by omega]
  ·exact h.elim
 ·exact h.elim
theorem Ey{n:Int}{len:Nat}(h:wC n len=true):0≤n∧n<(len:Int):=by simpa[wC]using h
theorem N3(F:vM P E){T e:TypeId}{t:Ty}(h:yB T E.sl=some (e,t)):(sizeOf e).run P w=.ok t.size w:=by
 obtain⟨_,i,z,hi,hz,hs,hb,_⟩:=F.sl T e t h;simp[sizeOf,typeInfo,hi,hs]
theorem Hd(F:vM P E){T e:TypeId}{t:Ty}(h:yB T E.sl=some (e,t))(b q len c:Nat)(k:IntKind)(n:Int)(h0:0≤n)(h1:n<(len:Int)):
  (Instr.indexAt T (.slice (some ⟨b,q,none⟩) len c) (.int k n)).run P w=.ok (.pointer (some ⟨b,q+n.toNat*t.size,none⟩)) w:=by
 have hu:=(F.sl T e t h).und;simp only[Instr.indexAt,asIntOf,Sem.run_bind,Sem.run_pure,Result.andThen_ok,run_underlying hu];simp only[h0,h1,and_self,if_true,Sem.run_bind,N3 F h,Result.andThen_ok,Sem.run_pure];unfold Addr.add;split
 ·rename_i e;simp[e]
 ·rfl
theorem zar(F:vM P E)(m:tD P b0 N σ a w S pl){T:TypeId}{x ix:Operand}(ho:o.op=.indexAddr T x ix)(h:TV E T (σ.ev x) (σ.ev ix) σ λd=>K d σ)(hn:sG P b0 N o a K next):o.wp P a w next Q:=by
 have hx:=tA m x;have hi:=tA m ix;unfold TV at h
 split at h
 ·rename_i e t' hl
  split at h
  ·rename_i k n ei
   rw[ei]at hi
   have hi:=(hi.flat (d:=.int k n) rfl).int_inv.1;split at h
   ·rename_i t xs ex
    rw[ex]at hx
    cases hz:Nat.beq t'.size t.size with
    |false=>rw[hz]at h;exact h.elim
    |true=>
     rw[hz,cond_true]at h
     obtain⟨hin,h⟩:=h;obtain⟨h0,h1⟩:=Ey hin;have hr:=(hx.flat (d:=.sl t xs) rfl).sl_inv';obtain⟨A',c,hv,_⟩:=sZ hr;have hlt:n.toNat<xs.length:=by omega
     have hr':=hr;rw[hv]at hr'
     obtain⟨b,q,_,hA,_⟩:=Qa hr' hlt;subst hA
     have hrun:(execOp a.eval o).run P w=.ok (.value (.pointer (some ⟨b,q+n.toNat*t'.size,none⟩))) w:=by
      unfold execOp;rw[ho];simp only[hv,hi,Sem.run_bind,Hd F hl b q xs.length c k n h0 h1,Result.andThen_ok,Sem.run_pure]
     rw[yV.1 hz]at hrun
     exact yQ hrun (hn _ _ _ _ _ _ h m (Rp.rd (.elt t xs n.toNat 0 b q c hlt hr')))
   ·rename_i k' ex
    rw[ex]at hx
    have hx:a.eval x=pl k':=hx;split at h
    ·rename_i e' t xs hob
     cases hz:Nat.beq t'.size t.size with
     |false=>rw[hz]at h;exact h.elim
     |true=>
      rw[hz,cond_true]at h
      obtain⟨hin,h⟩:=h;obtain⟨h0,h1⟩:=Ey hin;obtain⟨_,css,q1,q2,_,_⟩:=m.hp k' _ hob;rcases q2.2 with⟨_,e0⟩|⟨g,cap,cur,ep,_⟩
      ·omega
      ·have hrun:(execOp a.eval o).run P w=.ok (.value (.pointer (some ⟨g,0+n.toNat*t'.size,none⟩))) w:=by
        unfold execOp;rw[ho];simp only[hx,ep,hi,Sem.run_bind,Hd F hl g 0 xs.length cap k n h0 h1,Result.andThen_ok,Sem.run_pure]
       rw[yV.1 hz]at hrun
       exact yQ hrun (hn _ _ _ _ _ _ h m ⟨g,xs.length,cap,ep,by omega,by simp⟩)
    ·exact h.elim
   ·exact h.elim
  ·exact h.elim
 ·exact h.elim
theorem zjZ(F:vM P E)(m:tD P b0 N σ a w S pl){T:TypeId}{x ix:Operand}(ho:o.op=.index T x ix)(h:zai E T (σ.ev x) (σ.ev ix) λd=>K d σ)(hn:sG P b0 N o a K next):o.wp P a w next Q:=by
 have hx:=tA m x;have hi:=tA m ix;unfold zai at h
 split at h
 ·rename_i s k n ex ei
  rw[ex]at hx;rw[ei]at hi
  have hi:=(hi.flat (d:=.int k n) rfl).int_inv.1;have hx:=(hx.flat (d:=.str s) rfl).str_inv.1;cases hm:sM T E.strs with
  |false=>rw[hm]at h;exact h.elim
  |true=>
   rw[hm,cond_true]at h
   obtain⟨hin,h⟩:=h;obtain⟨h0,h1⟩:=Ey hin;have hlt:n.toNat<s.size:=by omega
   have hs:s[n.toNat]? =some s[n.toNat]:=by simp[hlt]
   have hrun:(execOp a.eval o).run P w=.ok (.value (.int .u8 (zad s n.toNat))) w:=by
    unfold execOp;rw[ho];simp only[hx,hi,Instr.index,asIntOf,Sem.run_bind,Sem.run_pure,Result.andThen_ok,run_underlying (F.strs T hm),h0,if_true,hs]
    have:s[n.toNat].toNat=(s.data.getD n.toNat 0).toNat:=by
     rw[Array.getD_eq_getD_getElem?];have:n.toNat<s.data.size:=hlt;rw[Array.getElem?_eq_getElem this];rfl
    rw[zad,this]
   exact yQ hrun (hn _ _ _ _ _ _ h m (Rp.rd (.int _ _ (by unfold inK zad;have:=(s.data.getD n.toNat 0).toNat_lt;omega))))
 ·exact h.elim
theorem zec(m:tD P b0 N σ a w S pl){x:Operand}{i:Nat}(ho:o.op=.extract x i)(h:M7 (σ.ev x) i λd=>K d σ)(hn:sG P b0 N o a K next):o.wp P a w next Q:=by
 have hx:=tA m x;unfold M7 at h
 split at h
 ·rename_i ds e
  rw[e]at hx
  obtain⟨vs,hv,hl,hr⟩:=(hx.flat (d:=.tup ds) rfl).tup_inv;split at h
  ·rename_i d hd
   have hi:i<vs.size:=by rw[hl];exact(List.getElem?_eq_some_iff.1 hd).1
   have hrun:(execOp a.eval o).run P w=.ok (.value (vs.getD i undef)) w:=by
    unfold execOp;rw[ho];simp only[hv,Instr.extract,Array.getElem?_eq_getElem hi,Sem.run_bind,Sem.run_pure,Result.andThen_ok];rw[Array.getD_eq_getD_getElem?,Array.getElem?_eq_getElem hi];rfl
   exact yQ hrun (hn _ _ _ _ _ _ h m (hr i d hd).rd)
  ·exact h.elim
 ·exact h.elim
theorem zck(m:tD P b0 N σ a w S pl){x:Operand}(ho:o.op=.nilCheck x)(h:Fx P E A o σ K)(hn:sG P b0 N o a K next):o.wp P a w next Q:=by
 have hx:=tA m x
 have run:∀p,a.eval x=.pointer (some p)→(execOp a.eval o).run P w=.ok (.value (a.eval x)) w:=λp e=>by
  unfold execOp;rw[ho];simp only[e];rfl
 unfold Fx at h
 rw[ho]at h
 simp only at h
 split at h
 ·rename_i k off e
  rw[e]at hx
  obtain⟨b,hp,hv⟩:=hx;exact yQ (run _ hv) (hn _ _ _ _ _ _ h m ⟨b,hp,hv⟩)
 ·rename_i cs off e
  rw[e]at hx
  obtain⟨b,hv,_⟩:=(hx.flat (d:=.iptr cs off) rfl).iptr_inv;exact yQ (run _ hv) (hn _ _ _ _ _ _ h m hx)
 ·rename_i t xs i off e
  rw[e]at hx
  obtain⟨b,o',c,hv,_⟩:=(hx.flat (d:=.elt t xs i off) rfl).elt_inv;exact yQ (run _ hv) (hn _ _ _ _ _ _ h m hx)
 ·rename_i k sz i off e
  rw[e]at hx
  obtain⟨b,n,c,hp,hi,hv⟩:=hx;exact yQ (run _ hv) (hn _ _ _ _ _ _ h m ⟨b,n,c,hp,hi,hv⟩)
 ·exact h.elim
theorem B0(op:BinOp)(T:TypeId)(x y:Operand)(u v:Value)(h:∀cs,u≠ .agg cs)(h':u≠ .nilIface):(eqGuard op T x y u v).run P w=.ok () w:=by
 cases u<;>first|exact absurd rfl h'|exact absurd rfl (h _)|(unfold eqGuard;cases op<;>rfl)
theorem zl1{a b:Int}(ha:vK a):vK (a.tmod b):=by
 unfold vK at*
 have h1:(a.tmod b).natAbs≤a.natAbs:=by rw[Int.natAbs_tmod];exact Nat.mod_le _ _
 have h2:0≤a→0≤a.tmod b:=λh=>Int.tmod_nonneg _ h
 have h3:a≤0→a.tmod b≤0:=λh=>by
  have:=Int.tmod_nonneg b (a:= -a) (by omega)
  rw[Int.neg_tmod]at this;omega
 by_cases h:0≤a
 ·have:=h2 h;omega
 ·have:=h3 (by omega);omega
theorem znA(F:vM P E)(m:tD P b0 N σ a w S pl){op:BinOp}{T T':TypeId}{x y:Operand}(ho:o.op=.binOp op T x y T')(h:zjP E op T (σ.ev x) (σ.ev y) λd=>K d σ)(hn:sG P b0 N o a K next):o.wp P a w next Q:=by
 have hx:=tA m x;have hy:=tA m y
 have run:∀u,(∀cs,a.eval x≠ .agg cs)→a.eval x≠ .nilIface→(binOp op T (a.eval x) (a.eval y)).run P w=.ok u w→(execOp a.eval o).run P w=.ok (.value u) w:=λu h1 h2 h3=>by
  unfold execOp;rw[ho];simp only[Sem.run_bind,B0 op T x y _ _ h1 h2,Result.andThen_ok,h3,Sem.run_pure]
 unfold zjP at h
 split at h
 ·rename_i p q ex ey
  rw[ex]at hx;rw[ey]at hy
  obtain⟨hx,kx⟩:=(hx.flat (d:=.int .i64 p) rfl).int_inv;obtain⟨hy,ky⟩:=(hy.flat (d:=.int .i64 q) rfl).int_inv;have n1:∀cs,a.eval x≠ .agg cs:=λcs e=>by rw[hx]at e;cases e
  have n2:a.eval x≠ .nilIface:=λe=>by rw[hx]at e;cases e
  have ib:∀n:Int,Rd w S pl (.int .i64 (xF n)) (.int .i64 (xF n)):=λn=>Rp.rd (.int _ _ (A8 n))
  have bb:∀b:Bool,Rd w S pl (.bool b) (.bool b):=λb=>Rp.rd (.bool b)
  split at h
  case h_1=>exact yQ (run _ n1 n2 (by rw[hx,hy];rfl)) (hn _ _ _ _ _ _ h m (ib _))
  case h_2=>exact yQ (run _ n1 n2 (by rw[hx,hy];rfl)) (hn _ _ _ _ _ _ h m (ib _))
  case h_3=>exact yQ (run _ n1 n2 (by rw[hx,hy];rfl)) (hn _ _ _ _ _ _ h m (ib _))
  case h_4=>exact yQ (run (.int .i64 (xF (p.tdiv q))) n1 n2 (by rw[hx,hy];simp[binOp,Op.intDiv,h.1];rfl)) (hn _ _ _ _ _ _ h.2 m (ib _))
  case h_5=>exact yQ (run (.int .i64 (p.tmod q)) n1 n2 (by rw[hx,hy];simp[binOp,Op.intDiv,h.1])) (hn _ _ _ _ _ _ h.2 m (Rp.rd (.int _ _ (zl1 kx))))
  case h_6=>exact yQ (run (.bool (decide (p=q))) n1 n2 (by rw[hx,hy];rfl)) (hn _ _ _ _ _ _ h m (bb _))
  case h_7=>exact yQ (run (.bool (!decide (p=q))) n1 n2 (by rw[hx,hy];rfl)) (hn _ _ _ _ _ _ h m (bb _))
  case h_8=>exact yQ (run _ n1 n2 (by rw[hx,hy];rfl)) (hn _ _ _ _ _ _ h m (bb _))
  case h_9=>exact yQ (run _ n1 n2 (by rw[hx,hy];rfl)) (hn _ _ _ _ _ _ h m (bb _))
  case h_10=>exact yQ (run (.bool (decide (q<p))) n1 n2 (by rw[hx,hy];rfl)) (hn _ _ _ _ _ _ h m (bb _))
  case h_11=>exact yQ (run (.bool (decide (q≤p))) n1 n2 (by rw[hx,hy];rfl)) (hn _ _ _ _ _ _ h m (bb _))
  case h_12=>exact h.elim
 ·rename_i p q ex ey
  rw[ex]at hx;rw[ey]at hy
  obtain⟨hx,kx⟩:=(hx.flat (d:=.int .u8 p) rfl).int_inv;obtain⟨hy,ky⟩:=(hy.flat (d:=.int .u8 q) rfl).int_inv;have n1:∀cs,a.eval x≠ .agg cs:=λcs e=>by rw[hx]at e;cases e
  have n2:a.eval x≠ .nilIface:=λe=>by rw[hx]at e;cases e
  have bb:∀b:Bool,Rd w S pl (.bool b) (.bool b):=λb=>Rp.rd (.bool b)
  split at h
  case h_1=>exact yQ (run (.bool (decide (p=q))) n1 n2 (by rw[hx,hy];rfl)) (hn _ _ _ _ _ _ h m (bb _))
  case h_2=>exact yQ (run (.bool (!decide (p=q))) n1 n2 (by rw[hx,hy];rfl)) (hn _ _ _ _ _ _ h m (bb _))
  case h_3=>exact yQ (run _ n1 n2 (by rw[hx,hy];rfl)) (hn _ _ _ _ _ _ h m (bb _))
  case h_4=>exact yQ (run _ n1 n2 (by rw[hx,hy];rfl)) (hn _ _ _ _ _ _ h m (bb _))
  case h_5=>exact yQ (run (.bool (decide (q<p))) n1 n2 (by rw[hx,hy];rfl)) (hn _ _ _ _ _ _ h m (bb _))
  case h_6=>exact yQ (run (.bool (decide (q≤p))) n1 n2 (by rw[hx,hy];rfl)) (hn _ _ _ _ _ _ h m (bb _))
  case h_7=>exact h.elim
 ·rename_i p q ex ey
  rw[ex]at hx;rw[ey]at hy
  obtain⟨hx,kx⟩:=(hx.flat (d:=.str p) rfl).str_inv;obtain⟨hy,ky⟩:=(hy.flat (d:=.str q) rfl).str_inv;have n1:∀cs,a.eval x≠ .agg cs:=λcs e=>by rw[hx]at e;cases e
  have n2:a.eval x≠ .nilIface:=λe=>by rw[hx]at e;cases e
  have bb:∀b:Bool,Rd w S pl (.bool b) (.bool b):=λb=>Rp.rd (.bool b)
  have eqs:(p.toList==q.toList)=decide (p=q):=by
   rw[Bool.eq_iff_iff];simp only[beq_iff_eq,decide_eq_true_eq];refine⟨λe=> ?_,λe=>by rw[e]⟩
   apply ByteArray.ext;apply Array.ext';rw[ByteArray.toList_eq,ByteArray.toList_eq]at e;exact e
  split at h
  case h_1=>exact yQ (run (.bool (decide (p=q))) n1 n2 (by rw[hx,hy,←eqs];rfl)) (hn _ _ _ _ _ _ h m (bb _))
  case h_2=>exact yQ (run (.bool (!decide (p=q))) n1 n2 (by rw[hx,hy,←eqs];rfl)) (hn _ _ _ _ _ _ h m (bb _))
  case h_3=>
   refine yQ (run (.string (p++q)) n1 n2 ?_) (hn _ _ _ _ _ _ h.2 m (Rp.rd (.str _ (by rw[ByteArray.size_append];exact h.1))))
   rw[hx,hy]
   have:¬(((p.size+q.size:Nat):Int)>IntKind.i64.max):=by
    have:IntKind.i64.max=9223372036854775807:=by decide
    rw[this];have:=h.1;omega
   simp only[binOp,Op.stringOp,if_neg this,Sem.run_pure]
  case h_4=>exact h.elim
 ·rename_i p q ex ey
  rw[ex]at hx;rw[ey]at hy
  have hx:=(hx.flat (d:=.bool p) rfl).bool_inv;have hy:=(hy.flat (d:=.bool q) rfl).bool_inv;have n1:∀cs,a.eval x≠ .agg cs:=λcs e=>by rw[hx]at e;cases e
  have n2:a.eval x≠ .nilIface:=λe=>by rw[hx]at e;cases e
  have bb:∀b:Bool,Rd w S pl (.bool b) (.bool b):=λb=>Rp.rd (.bool b)
  cases hm:sM T E.bools with
  |false=>rw[hm]at h;exact h.elim
  |true=>
   rw[hm,cond_true]at h
   have heq:(Op.equal T (.bool p) (.bool q)).run P w=.ok (p==q) w:=by
    exact run_equal_bool w T p q (F.bools T hm)
   split at h
   case h_1=>exact yQ (run (.bool (p==q)) n1 n2 (by rw[hx,hy];simp only[binOp,Sem.run_bind,heq,Result.andThen_ok,Sem.run_pure])) (hn _ _ _ _ _ _ h m (bb _))
   case h_2=>exact yQ (run (.bool (!(p==q))) n1 n2 (by rw[hx,hy];simp only[binOp,Sem.run_bind,heq,Result.andThen_ok,Sem.run_pure])) (hn _ _ _ _ _ _ h m (bb _))
   case h_3=>exact h.elim
 ·exact h.elim
theorem zov(m:tD P b0 N σ a w S pl){op:UnOp}{T:TypeId}{x:Operand}(ho:o.op=.unOp op T x)(h:unD op (σ.ev x) λd=>K d σ)(hn:sG P b0 N o a K next):o.wp P a w next Q:=by
 have hx:=tA m x;unfold unD at h
 split at h
 ·rename_i b e
  rw[e]at hx
  have hx:=(hx.flat (d:=.bool b) rfl).bool_inv;have hrun:(execOp a.eval o).run P w=.ok (.value (.bool !b)) w:=by unfold execOp;rw[ho];simp only[hx];rfl
  exact yQ hrun (hn _ _ _ _ _ _ h m (Rp.rd (.bool _)))
 ·rename_i n e
  rw[e]at hx
  have hx:=(hx.flat (d:=.int .i64 n) rfl).int_inv.1;have hrun:(execOp a.eval o).run P w=.ok (.value (.int .i64 (xF (0-n)))) w:=by unfold execOp;rw[ho];simp only[hx];rfl
  exact yQ hrun (hn _ _ _ _ _ _ h m (Rp.rd (.int _ _ (A8 _))))
 ·exact h.elim
theorem zl2(m:tD P b0 N σ a w S pl){c:Call}(ho:o.op=.call c)(hc:c.callee=.builtin .max){x y:Operand}(ha:c.args.toList=[x,y])(h:zlW (σ.ev x) (σ.ev y) λd=>K d σ)(hn:sG P b0 N o a K next):o.wp P a w next Q:=by
 have hx:=tA m x;have hy:=tA m y;unfold zlW at h
 split at h
 ·rename_i p q ex ey
  rw[ex]at hx;rw[ey]at hy
  obtain⟨hx,kx⟩:=(hx.flat (d:=.int .i64 p) rfl).int_inv;obtain⟨hy,ky⟩:=(hy.flat (d:=.int .i64 q) rfl).int_inv;have ha':c.args= #[x,y]:=by apply Array.ext';simpa using ha
  have hrun:(execOp a.eval o).run P w=.ok (.value (.int .i64 (if q>p then q else p))) w:=by
   unfold execOp;rw[ho];simp only[resolve,hc,ha',invoke,builtin,Builtin.max_,List.map_toArray,List.map_cons,List.map_nil,hx,hy,Sem.run_bind,Sem.run_pure,Result.andThen_ok];rfl
  exact yQ hrun (hn _ _ _ _ _ _ h m (Rp.rd (.int _ _ (by split<;>assumption))))
 ·exact h.elim
theorem zl3(F:vM P E)(m:tD P b0 N σ a w S pl){src dst:TypeId}{x:Operand}(ho:o.op=.convert src dst x)(h:zgZ E src dst (σ.ev x) λd=>K d σ)(hn:sG P b0 N o a K next):o.wp P a w next Q:=by
 have hx:=tA m x;unfold zgZ at h
 cases hs:yB src E.ints with
 |none=>
  rw[hs]at h
  simp only at h
  split at h
  ·rename_i e xs hl ex
   split at h
   ·rename_i hi hd
    rw[ex]at hx
    have hv:=(hx.flat (d:=.sl .byte xs) rfl).sl_inv;obtain⟨A0,c,e1,hok⟩:=sZ hv;rw[e1]at hv
    have hus:=(F.sl src e .byte hl).und;have hue:=F.ints e .u8 hi;have hud:=F.strs dst hd
    have hc:(convert src dst (a.eval x)).run P w=.ok (.string ⟨xs.toArray⟩) w:=by
     rw[e1];cases A0 with
     |none=>
      have hx0:xs=[]:=by
       cases xs with
       |nil=>rfl
       |cons y r=>obtain⟨b,o',cs,h0,_⟩:=Qa hv (i:=0) (by simp);cases h0
      subst hx0;exact run_convert_bytes_nil w src e hus hue _ _ dst hud
     |some ad=>
      refine run_convert_bytes_back w src dst e ad c xs hus hue hud λj hj=> ?_
      obtain⟨b,o',cs,h0,_,hr,hcell⟩:=Qa hv hj;injection h0 with h0;subst h0
      have hr:cs=[.int .u8 (xs[j].toNat:Int)]:=hr;subst hr;have:=hcell 0 _ rfl;rw[Addr.add_lit];simpa[xT.size]using this
    have hrun:(execOp a.eval o).run P w=.ok (.value (.string ⟨xs.toArray⟩)) w:=by
     unfold execOp;rw[ho];simp only[Sem.run_bind,hc,Result.andThen_ok,Sem.run_pure]
    refine yQ hrun (hn _ _ _ _ _ _ h m (Rp.rd (.str _ ?_)));have:=hok.bytes;show xs.toArray.size≤_
    simpa[xT.bytes]using this
   ·exact h.elim
  ·exact h.elim
 |some ks=>
 rw[hs]at h
 have hus:=F.ints src ks hs;simp only at h
 split at h
 ·rename_i k n hl e
  rw[e]at hx
  have hx:=(hx.flat (d:=.int k n) rfl).int_inv.1
  have hrun:(execOp a.eval o).run P w=.ok (.value (.int .i64 (xF n))) w:=by
   unfold execOp;rw[ho];simp only[hx,convert,Sem.run_bind,run_underlying hus,run_underlying (F.ints dst _ hl),Result.andThen_ok,Conv.intToInt,Sem.run_pure]
   try rfl
  exact yQ hrun (hn _ _ _ _ _ _ h m (Rp.rd (.int _ _ (A8 _))))
 ·rename_i k n hl e
  rw[e]at hx
  have hx:=(hx.flat (d:=.int k n) rfl).int_inv.1
  have hrun:(execOp a.eval o).run P w=.ok (.value (.int .u8 (IntKind.u8.wrap n))) w:=by
   unfold execOp;rw[ho];simp only[hx,convert,Sem.run_bind,run_underlying hus,run_underlying (F.ints dst _ hl),Result.andThen_ok,Conv.intToInt,Sem.run_pure]
   try rfl
  exact yQ hrun (hn _ _ _ _ _ _ h m (Rp.rd (.int _ _ (znr _))))
 ·exact h.elim
end
end Go.Proofs.YteimklbiapnfhaaGreat
namespace Go.Proofs.YteimklbiapnfhaaGreat
open Go.RowKit
set_option linter.unusedVariables false
set_option linter.unusedSimpArgs false
variable[Lo]
section lists
variable {α β:Type}{R:α→β→Prop}
def spl(l:List α)(off:Nat)(new:List α):List α:=l.take off++new++l.drop (off+new.length)
theorem Fy{l:List α}{off:Nat}{new:List α}(h:off+new.length≤l.length):(spl l off new).length=l.length:=by
 unfold spl;simp only[List.length_append,List.length_take,List.length_drop];omega
theorem P3{l:List α}{off:Nat}{new:List α}(h:off+new.length≤l.length)(j:Nat):(spl l off new)[j]? =if off≤j∧j<off+new.length then new[j-off]? else l[j]? :=by
 unfold spl
 by_cases h1:j<off
 ·rw[if_neg (by omega),List.append_assoc,List.getElem?_append_left (by simp;omega),List.getElem?_take,if_pos h1]
 ·by_cases h2:j<off+new.length
  ·rw[if_pos ⟨by omega,h2⟩,List.append_assoc,List.getElem?_append_right (by simp;omega),List.length_take,List.getElem?_append_left (by omega)]
   congr 1;omega
  ·rw[if_neg (by omega),List.getElem?_append_right (by simp;omega),List.getElem?_drop]
   congr 1;simp;omega
theorem xH.get_{xs:List α}{ys:List β}(h:xH R xs ys)(i:Nat)(a:α)(b:β)(ha:xs[i]? =some a)(hb:ys[i]? =some b):R a b:=by
 obtain⟨a',ha',hr⟩:=h.at hb;rw[ha]at ha';injection ha' with e;rw[e];exact hr
theorem xH.spl{l:List α}{l':List β}{off:Nat}{new:List α}{new':List β}(h:xH R l l')(hn:xH R new new')(hle:off+new'.length≤l'.length):xH R (spl l off new) (Go.Proofs.YteimklbiapnfhaaGreat.spl l' off new'):=by
 have e1:=h.len;have e2:=hn.len;refine xH.of (by rw[Fy (by omega),Fy hle,e1]) λi a b ha hb=> ?_
 rw[P3 (by omega)]at ha
 rw[P3 hle]at hb
 rw[e2]at ha
 split at ha
 ·rename_i hc;rw[if_pos hc]at hb;exact hn.get_ _ a b ha hb
 ·rename_i hc;rw[if_neg hc]at hb;exact h.get_ _ a b ha hb
theorem xH.take:∀ {xs:List α} {ys:List β} (n:Nat),xH R xs ys→xH R (xs.take n) (ys.take n)
 |_,_,0,_=>by simp;exact .nil
 |_,_,n+1,.nil=> .nil
 |_,_,n+1,.cons h hs=> .cons h (hs.take n)
theorem xH.drop:∀ {xs:List α} {ys:List β} (n:Nat),xH R xs ys→xH R (xs.drop n) (ys.drop n)
 |_,_,0,h=>by simpa using h
 |_,_,n+1,.nil=> .nil
 |_,_,n+1,.cons h hs=>by simpa using hs.drop n
theorem Qi{s:Nat}(hs:0<s):∀(css:List (List α)) (_:∀cs∈css,cs.length=s) (j:Nat),css.flatten[j]? =(css[j/s]?).bind λc=>c[j%s]?
 |[],_,j=>by simp
 |c::css,hl,j=>by
  have hc:c.length=s:=hl c (by simp)
  rw[List.flatten_cons]
  by_cases h:j<s
  ·rw[List.getElem?_append_left (by omega),Nat.div_eq_of_lt h,Nat.mod_eq_of_lt h];rfl
  ·rw[List.getElem?_append_right (by omega),Qi hs css (λcs hcs=>hl cs (by simp[hcs])) (j-c.length),hc]
   have e1:j/s=(j-s)/s+1:=by rw[Nat.div_eq_sub_div hs (by omega)]
   have e2:(j-s)%s=j%s:=(Nat.mod_eq_sub_mod (by omega)).symm
   rw[e1,e2];rfl
end lists
section
variable {P:Program}{E:TE}{A:xJ}{b0:Y6}{w w':World}{S S':Nat→Prop}{pl pl':Nat→Value}{N:Nat}{σ:St}{a:Act}{v:Value}{d:D}{o:Oper}{K:D→St→Prop}{next:Act→World→Prop}{Q:Exit→Act→World→Prop}
theorem He{vs:Array Value}{cs:List D}{R:Value→D→Prop}(h:xH R vs.toList cs)(i:Nat)(d:D)(hd:cs[i]? =some d):R (vs.getD i undef) d:=by
 obtain⟨u,hu,hr⟩:=h.at hd;rw[Array.getD_eq_getD_getElem?];rw[Array.getElem?_toList]at hu;rw[hu];exact hr
theorem P4{vs:Array Value}{cs:List D}{R:Value→D→Prop}(hl:vs.size=cs.length)(h:∀i d,cs[i]? =some d→R (vs.getD i undef) d):xH R vs.toList cs:=
 xH.of (by simpa using hl) λi u d hu hd=>by
  have:=h i d hd;rw[Array.getElem?_toList]at hu
  rw[Array.getD_eq_getD_getElem?,hu]at this;exact this
theorem TW(F:vM P E){T:TypeId}{ag:Bool}{zs:List D}(hl:yB T E.zs=some (ag,zs)){u:Value}{new:List D}(hu:xH (Rc w S pl) u.cells.toList new)(hn:new.length=zs.length)(hc:new.all jU=true)
  {b off:Nat} {cur:Array Value} {E':TypeId} (hg:w.heap[b]? =some (.cells cur E' (0,0))) (hle:off+new.length≤cur.size):
  (storeVar T ⟨b,off,none⟩ u).run P w=.ok () (w.setRow b (spl cur.toList off u.cells.toList).toArray):=by
 obtain⟨i,z,ud,hi,hz,hsz,_⟩:=(F.zs T ag zs hl).ex;have hlen:=hu.len;have hs:(sizeOf T).run P w=.ok zs.length w:=by simp[sizeOf,typeInfo,hi,hsz]
 have h1:∀v∈u.cells.toList,v.oneCell'=true:=λv hv=>by
  obtain⟨j,hj,rfl⟩:=List.getElem_of_mem hv;have hj':j<new.length:=by omega
  exact(hu.get_ j _ new[j] (List.getElem?_eq_getElem hj) (List.getElem?_eq_getElem hj')).2 (List.all_eq_true.1 hc _ (List.getElem_mem hj'))
 have:=run_storeCells_at (P:=P) b off E' u.cells.toList 0 cur w hg (by omega) h1
 simp only[Nat.add_zero]at this
 simp only[storeVar,Sem.run_bind,hs,Result.andThen_ok];rw[if_neg (by simp only[Array.length_toList]at hlen;omega)]
 exact this
theorem Rc.mono{u:Value}(h:Rc w S pl u d)(hk:∀b,S b→w'.heap[b]? =w.heap[b]?)(hS:∀b,S b→S' b):Rc w' S' pl u d:=⟨h.1.mono hk hS λ_ _=>rfl,h.2⟩
theorem zl4{b:Bool}{vs:List Value}{new:List D}{K:List D→Prop}(hc:xH (Rc w S pl) vs new)(h:zim b new K):∃new,xH (Rc w S pl) vs new∧K new:=by
 unfold zim at h
 split at h
 ·split at h
  ·rename_i t xs
   cases hc with|cons h1 h2=>
   cases h2;obtain⟨A',c,e,hok⟩:=sZ ((h1.1.flat (d:=.sl t xs) rfl).sl_inv');refine⟨_,.cons ⟨Rp.rd (.slN t xs false _ ((h1.1.flat (d:=.sl t xs) rfl).sl_inv') (λ_ hv=> ?_) λe=>by cases e),λ_=>by rw[e];rfl⟩ .nil,h.2⟩
   rw[e]at hv
   injection hv with _ hv
   have h3:=h.1;have:xs.length≠0:=λe=>h3 (List.length_eq_zero_iff.1 e)
   omega
  ·exact⟨_,hc,h⟩
 ·exact⟨_,hc,h⟩
theorem C0{ds:List D}{off:Nat}{new:List D}(hn:new.all jU=true)(h:Xv (Qc ds off new)=true):Xv ds=true:=by
 unfold Qc at h
 cases ds with
 |nil=>
  simp only[List.take_nil,List.nil_append,List.drop_nil,List.append_nil]at h
  cases new with
  |nil=>exact h
  |cons d r=>
   have h1:jE d=true:=h;have h2:jU d=true:=List.all_eq_true.1 hn d List.mem_cons_self;cases d<;>first|(cases h1;done)|(cases h2;done)
 |cons a r=>
  cases off with
  |zero=>
   simp only[List.take_zero,List.nil_append,Nat.zero_add]at h
   cases new with
   |nil=>exact h
   |cons d r=>
    have h1:jE d=true:=h;have h2:jU d=true:=List.all_eq_true.1 hn d List.mem_cons_self;cases d<;>first|(cases h1;done)|(cases h2;done)
  |succ off=>exact h
theorem zj0(F:vM P E)(m:tD P b0 N σ a w S pl){T:TypeId}{x y:Operand}(ho:o.op=.store T x y)(h:zaf E A T (σ.ev x) (σ.ev y) σ K)(hn:sG P b0 N o a K next):o.wp P a w next Q:=by
 have hx:=tA m x;have hy:=Jn (E:=E) T (tA m y)
 have run:∀b off w',a.eval x=.pointer (some ⟨b,off,none⟩)→(storeVar T ⟨b,off,none⟩ (a.eval y)).run P w=.ok () w'→(execOp a.eval o).run P w=.ok .skip w':=λb off w' e h=>by
  unfold execOp;rw[ho];simp only[Instr.storeAt,e,Instr.sureAddr,Sem.run_bind,Sem.run_pure,Result.andThen_ok,h]
 unfold zaf at h
 split at h
 ·rename_i ag zs hl
  split at h
  ·exact h.elim
  ·rename_i new hnew
   have hc:=P1 m hy hnew;obtain⟨new,hc,h⟩:=zl4 hc h;cases hb:Nat.beq new.length zs.length&&new.all jU with
   |false=>rw[hb]at h;exact h.elim
   |true=>
    rw[hb,cond_true]at h
    simp only[Bool.and_eq_true]at hb
    have hlen:=yV.1 hb.1;split at h
    ·rename_i k off ex
     rw[ex]at hx
     obtain⟨b,hp,hv⟩:=hx;split at h
     ·rename_i ds hob
      cases hle:Nat.ble (off+new.length) ds.length with
      |false=>rw[hle]at h;exact h.elim
      |true=>
       rw[hle,cond_true]at h
       have hle:=Nat.le_of_ble_eq_true hle;obtain⟨b',vs,E',e1,e2,e3,e4,e5⟩:=m.hp k _ hob;rw[hp]at e1;injection e1 with e1;injection e1 with e1;injection e1 with e1;subst e1
       have hrun:=TW F hl hc hlen hb.2 e2 (off:=off) (by omega)
       have hds:=P4 e3 e4;have hS:∀c,S c→(w.setRow b (spl vs.toList off (a.eval y).cells.toList).toArray).heap[c]? =w.heap[c]? :=λc hc=>setRow_other _ _ _ _ λe=>(m.priv k _ b hob (by rw[hp];rfl)).2.2 (e▸hc)
       refine zan (run b off _ hv hrun) (hn _ _ _ _ _ _ h (m.setOb (b:=b) hob (by rw[hp];rfl) (λc hc=>setRow_other _ _ _ _ hc) (setRow_size _ _ _) ⟨rfl,rfl,rfl⟩ ?_) tV)
       have hspl:xH (Rd w S pl) (spl vs.toList off (a.eval y).cells.toList) (Qc ds off new):=xH.spl hds (hc.imp λ_ _ h=>h.1) hle
       refine⟨b,_,E',hp,setRow_heap w b vs _ E' (0,0) e2,by simpa using hspl.len,λi d hd=> ?_,λhh=>by
        rw[show(Qc ds off new).length=ds.length from by unfold Qc;simp;omega]
        exact e5 (C0 hb.2 hh)⟩
       exact(He (R:=Rd w S pl) (by simpa using hspl) i d hd).mono hS (λ_ h=>h) λ_ _=>rfl
     ·exact h.elim
    ·rename_i k sz i off ex
     rw[ex]at hx
     obtain⟨b,n,c,hp,hi,hv⟩:=hx;obtain⟨σ',new',S',hK,hS,m',hv'⟩:=qX h m;have hnew':=hv' _ (hc.imp λ_ _ h=>h.1)
     split at hK
     ·rename_i e t xs hob
      cases hz:Nat.beq sz t.size with
      |false=>rw[hz]at hK;exact hK.elim
      |true=>
       rw[hz,cond_true]at hK
       have hsz:=yV.1 hz;split at hK
       ·rename_i z hof
        cases hle:Nat.ble (off+new'.length) t.size with
        |false=>rw[hle]at hK;exact hK.elim
        |true=>
         rw[hle,cond_true]at hK
         have hle:=Nat.le_of_ble_eq_true hle;obtain⟨q0,css,q1,q2,q3,q4⟩:=m'.hp k _ hob;rcases q2.2 with⟨e0,_⟩|⟨g,cap,cur,ep,_,hg,hcap,hmax,hcur,htake⟩
         ·rw[hp]at e0;cases e0
         ·have ep':=ep
          rw[hp]at ep';injection ep' with ep1 ep2 ep3;injection ep1 with ep1;injection ep1 with ep1;subst ep1 ep2
          have hspos:0<t.size:=by rw[Ty.size_eq];exact xT.pos
          have hnl:new'.length=new.length:=by rw[←hnew'.len,hc.len]
          have hmul:i*t.size+t.size≤xs.length*t.size:=by
           have:=Nat.mul_le_mul_right t.size (Nat.succ_le_of_lt hi);rw[Nat.succ_mul]at this;exact this
          have hmul2:xs.length*t.size≤cap*t.size:=Nat.mul_le_mul_right _ hcap;have hrun:=TW F hl hc hlen hb.2 hg (off:=i*sz+off) (by rw[hsz];omega)
          generalize hvl:(a.eval y).cells.toList=vl at hrun hnew' hc
          have hvlen:vl.length=new'.length:=hnew'.len;have hci:css[i]? =some (css[i]'(by omega)):=List.getElem?_eq_getElem (by omega)
          have hclen:(css[i]'(by omega)).length=t.size:=q3 _ (List.getElem_mem _)
          have hS':∀c,S' c→(w.setRow b (spl cur.toList (i*sz+off) vl).toArray).heap[c]? =w.heap[c]? :=λc hc=>setRow_other _ _ _ _ λe=>(m'.priv k _ b hob (by rw[hp];rfl)).2.2 (e▸hc)
          refine zan (run b _ _ hv hrun) (hn _ _ _ _ _ _ hK (m'.setOb (b:=b) hob (by rw[hp];rfl) (λc hc=>setRow_other _ _ _ _ hc) (setRow_size _ _ _) ⟨rfl,rfl,rfl⟩ ?_) tV)
          have hold:xH (Rp w S') (css[i]'(by omega)) (cells t (xs.getD i t.dflt)):=by
           rw[List.getD_eq_getElem?_getD,List.getElem?_eq_getElem hi,Option.getD_some];exact cW t (q4 i xs[i] _ (List.getElem?_eq_getElem hi) hci)
          have hz':xT.rd w S' (spl (css[i]'(by omega)) off vl) z:=TS t hof (xH.spl hold hnew' (by rw[←hold.len,hclen];exact hle))
          have hclen1:(spl (css[i]'(by omega)) off vl).length=t.size:=by rw[Fy (by omega),hclen]
          have hlcss:∀cs∈css.set i (spl (css[i]'(by omega)) off vl),cs.length=t.size:=λcs hcs=>by
           rcases List.mem_or_eq_of_mem_set hcs with h|rfl
           ·exact q3 _ h
           ·exact hclen1
          refine⟨by simpa using q0,css.set i (spl (css[i]'(by omega)) off vl),by simpa using q1,⟨?_,.inr ⟨b,cap,(spl cur.toList (i*sz+off) vl).toArray,by rw[List.length_set];exact ep,Nat.zero_le _,setRow_heap w b cur _ e (0,0) hg,by simpa using hcap,hmax,?_,?_⟩⟩,hlcss,λj x cs hx hcs=> ?_⟩
          ·rw[Ws _ hlcss];simp[q1]
          ·rw[List.size_toArray,Fy (by simp;rw[hsz];omega)];simpa using hcur
          ·apply List.ext_getElem?
           intro j;rw[List.length_set,List.getElem?_take]
           by_cases hj:j<xs.length*t.size
           ·rw[if_pos hj]
            simp only[List.toList_toArray];rw[P3 (by simp;rw[hsz];omega),Qi hspos _ hlcss]
            have hcurj:cur.toList[j]? =(css[j/t.size]?).bind λc=>c[j%t.size]? :=by
             rw[←Qi hspos css q3 j,←htake,List.getElem?_take,if_pos hj]
            have hdm:j/t.size*t.size+j%t.size=j:=by rw[Nat.mul_comm];exact Nat.div_add_mod _ _
            have hmod:j%t.size<t.size:=Nat.mod_lt _ hspos;generalize hq:j/t.size=q at*
            generalize hr:j%t.size=r at*
            by_cases hqi:q=i
            ·subst hqi
             rw[List.getElem?_set_self (by omega)]
             simp only[Option.bind_some];rw[P3 (by omega),hsz]
             by_cases hin:off≤r∧r<off+vl.length
             ·rw[if_pos (by omega),if_pos hin];congr 1;omega
             ·rw[if_neg (by omega),if_neg hin,hcurj,hci];rfl
            ·rw[List.getElem?_set_ne (Ne.symm hqi),hsz]
             rw[if_neg,hcurj];intro hin;rcases Nat.lt_or_ge q i with h1|h1
             ·have:=Nat.mul_le_mul_right t.size (Nat.succ_le_of_lt h1)
              rw[Nat.succ_mul]at this;omega
             ·have:=Nat.mul_le_mul_right t.size (Nat.succ_le_of_lt (Nat.lt_of_le_of_ne h1 (Ne.symm hqi)))
              rw[Nat.succ_mul]at this;omega
           ·rw[if_neg hj,List.getElem?_eq_none]
            rw[Ws _ hlcss];simp[q1];omega
          ·by_cases hji:j=i
           ·subst hji
            rw[List.getElem?_set_self hi]at hx
            rw[List.getElem?_set_self (by omega)]at hcs
            injection hx with hx;injection hcs with hcs;subst hx hcs
            exact xT.mono hz' hS' λ_ h=>h
           ·rw[List.getElem?_set_ne (Ne.symm hji)]at hx hcs
            exact xT.mono (q4 j x cs hx hcs) hS' λ_ h=>h
       ·exact hK.elim
     ·exact hK.elim
    ·exact h.elim
 ·exact h.elim
end
end Go.Proofs.YteimklbiapnfhaaGreat
