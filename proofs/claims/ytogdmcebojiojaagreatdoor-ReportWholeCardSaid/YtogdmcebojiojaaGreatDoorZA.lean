/- Texts of this proof, one behind the other: nothing is handed in but what is proved here; no condition. -/
import Derived.WalkKit
import Derived.Lib.Hide
import Derived.WalkLawsBesides
import Derived.WalkSpells
import Derived.Deep.QuietTactic
import Derived.BigQuiet
import Derived.Deep.RegionWith
import Derived.Deep.RegionLaw
import Derived.StillTailTactics
import Derived.Handy
import Derived.Deep.LoopGhost
import Derived.Deep.DeepFit
import Derived.Deep.DeepMust
import Derived.Shelf.Abstract
import Derived.Maps.AppendAt
import Derived.Deep.AppendLies
import Derived.OwnWalk
import Derived.IntWalk
import Derived.Lib.LaidTab
import Derived.Lib.ItoaNum
import Derived.Laws.StructEq
namespace Go.Proofs.YtogdmcebojiojaaGreatDoor
open Go.RowKit
set_option maxRecDepth 100000
set_option linter.unusedVariables false
set_option linter.unusedSimpArgs false
class wK (α:Type) where
 size:Nat
 bytes:Nat
 rd:World→(Nat→Prop)→List Value→α→Prop
 len:∀ {w:World} {S:Nat→Prop} {cs:List Value} {x:α},rd w S cs x→cs.length=size
 one:∀ {w:World} {S:Nat→Prop} {cs:List Value} {x:α},rd w S cs x→∀u∈cs,u.oneCell'=true
 mono:∀ {w w':World} {S S':Nat→Prop} {cs:List Value} {x:α},rd w S cs x→(∀b,S b→w'.heap[b]? =w.heap[b]?)→(∀b,S b→S' b)→rd w' S' cs x
 pos:0<size
def vOf:List Value→Value
 |[v]=>v
 |cs=> .agg cs.toArray
def QZ{α:Type}[wK α](w:World)(S:Nat→Prop)(cs:List Value)(x:α):Prop:=wK.rd w S cs x
def aX{α:Type}[wK α](w:World)(S:Nat→Prop)(v:Value)(x:α):Prop:=∃cs,v=vOf cs∧wK.rd w S cs x
def Rds{α:Type}[wK α](w:World)(v:Value)(x:α):Prop:=aX w (λb=>b<w.heap.size) v x
def yQ(n:Int):Prop:= -9223372036854775808≤n∧n≤9223372036854775807
instance wK.int:wK Int where
 size:=1
 bytes:=8
 rd _ _ cs x:=cs=[.int .i64 x]∧yQ x
 len:=λh=>by rw[h.1];rfl
 one:=λh u hu=>by rw[h.1]at hu;simp at hu;subst hu;rfl
 mono:=λh _ _=>h
 pos:=by decide
instance wK.str:wK ByteArray where
 size:=1
 bytes:=16
 rd _ _ cs x:=cs=[.string x]∧x.size≤140737488355328
 len:=λh=>by rw[h.1];rfl
 one:=λh u hu=>by rw[h.1]at hu;simp at hu;subst hu;rfl
 mono:=λh _ _=>h
 pos:=by decide
instance wK.list {α:Type}[wK α]:wK (List α) where
 size:=1
 bytes:=24
 rd w S cs xs:=∃A c,cs=[.slice A xs.length c]∧xs.length*wK.bytes α≤140737488355328∧xs.length≤c∧c≤9223372036854775807∧
  (A=none→c=0)∧(0<xs.length→∃b o,A=some ⟨b,o,none⟩∧S b∧∀i x,xs[i]? =some x→∃cs,wK.rd w S cs x∧∀j u,cs[j]? =some u→w.cell? ⟨b,o+i*wK.size α+j,none⟩=some u)
 len:=λ⟨_,_,h,_⟩=>by rw[h];rfl
 one:=λ⟨_,_,h,_⟩ u hu=>by rw[h]at hu;simp at hu;subst hu;rfl
 mono:=fun {w w' S S' cs xs} ⟨A,c,h,h0,h1,h2,h3,h4⟩ hk hS=>⟨A,c,h,h0,h1,h2,h3,λhn=>by
  obtain⟨b,o,e,hb,hc⟩:=h4 hn;refine⟨b,o,e,hS b hb,λi x hx=> ?_⟩
  obtain⟨cs,hr,hcell⟩:=hc i x hx;exact⟨cs,wK.mono hr hk hS,λj u hu=>(World.cell?_of_block (hk b hb)).trans (hcell j u hu)⟩⟩
 pos:=by decide
section
variable {α:Type}[wK α]{w w':World}{S S':Nat→Prop}{v:Value}{x:α}
theorem QZ.mono{cs:List Value}(h:QZ w S cs x)(hk:∀b,S b→w'.heap[b]? =w.heap[b]?)(hS:∀b,S b→S' b):QZ w' S' cs x:=wK.mono (α:=α) h hk hS
theorem aX.mono(h:aX w S v x)(hk:∀b,S b→w'.heap[b]? =w.heap[b]?)(hS:∀b,S b→S' b):aX w' S' v x:=
 let⟨cs,e,hr⟩:=h
 ⟨cs,e,wK.mono hr hk hS⟩
theorem Rds.below(h:Rds w v x)(hb:Below w.heap.size w w'):Rds w' v x:=aX.mono h (λb hb'=>hb.block b hb') (λb hb'=>Nat.lt_of_lt_of_le hb' hb.size)
theorem aX.rds(h:aX w S v x)(hS:∀b,S b→b<w.heap.size):Rds w v x:=aX.mono h (λ_ _=>rfl) hS
theorem QZ.val{cs:List Value}(h:QZ w S cs x):aX w S (vOf cs) x:=⟨cs,rfl,h⟩
end
def W1{α:Type}[wK α](w:World)(B:Nat)(v:Value)(x:α):Prop:=aX w (λb=>B≤b∧b<w.heap.size) v x
section
variable {α:Type}[wK α]{w w':World}{B B':Nat}{v:Value}{x:α}
theorem W1.rds(h:W1 w B v x):Rds w v x:=aX.rds h λ_ hb=>hb.2
theorem W1.below(h:W1 w B v x)(hb:Below w.heap.size w w'):W1 w' B v x:=
 aX.mono h (λb hb'=>hb.block b hb'.2) (λb hb'=>⟨hb'.1,Nat.lt_of_lt_of_le hb'.2 hb.size⟩)
theorem W1.more(h:W1 w B v x)(hB:B'≤B):W1 w B' v x:=
 aX.mono h (λ_ _=>rfl) (λb hb'=>⟨Nat.le_trans hB hb'.1,hb'.2⟩)
end
section
variable {w:World}{S:Nat→Prop}{v:Value}
theorem zho{x:Int}(h:aX w S v x):v=.int .i64 x∧yQ x:=by
 obtain⟨cs,rfl,rfl,h2⟩:=h;exact⟨rfl,h2⟩
theorem zcF{x:ByteArray}(h:aX w S v x):v=.string x∧x.size≤140737488355328:=by
 obtain⟨cs,rfl,rfl,h2⟩:=h;exact⟨rfl,h2⟩
theorem zaS{x:ByteArray}(h:x.size≤140737488355328):aX w S (.string x) x:=⟨[_],rfl,rfl,h⟩
structure zjP {α:Type}[wK α](A:Option Addr)(c:Nat)(xs:List α):Prop where
 bytes:xs.length*wK.bytes α≤140737488355328
 cap:xs.length≤c
 max:c≤9223372036854775807
 none_:A=none→c=0
theorem uO{α:Type}[wK α]{xs:List α}(h:aX w S v xs):∃A c,v=.slice A xs.length c∧zjP A c xs:=by
 obtain⟨cs,rfl,A,c,rfl,h0,h1,h2,h3,_⟩:=h;exact⟨A,c,rfl,h0,h1,h2,h3⟩
theorem Ps{α:Type}[wK α]{xs:List α}{A:Option Addr}{n c:Nat}(h:aX w S (.slice A n c) xs){i:Nat}(hi:i<xs.length):
  ∃b o cs,A=some ⟨b,o,none⟩∧S b∧QZ w S cs xs[i]∧∀j u,cs[j]? =some u→w.cell? ⟨b,o+i*wK.size α+j,none⟩=some u:=by
 obtain⟨cs,e,A',c',rfl,h0,h1,h2,h3,h4⟩:=h;simp only[vOf,Value.slice.injEq]at e
 obtain⟨rfl,rfl,rfl⟩:=e;obtain⟨b,o,rfl,hb,hc⟩:=h4 (by omega)
 obtain⟨cs,hr,hcell⟩:=hc i xs[i] (List.getElem?_eq_getElem hi);exact⟨b,o,cs,rfl,hb,hr,hcell⟩
theorem Pt{xs:List ByteArray}{A:Option Addr}{n c:Nat}(h:aX w S (.slice A n c) xs){i:Nat}(hi:i<xs.length):
  ∃b o,A=some ⟨b,o,none⟩∧S b∧w.cell? ⟨b,o+i,none⟩=some (.string xs[i])∧xs[i].size≤140737488355328:=by
 obtain⟨b,o,cs,rfl,hb,⟨rfl,hr⟩,hc⟩:=Ps h hi;exact⟨b,o,rfl,hb,by simpa[wK.size]using hc 0 _ rfl,hr⟩
end
structure tX where
 kind:Int
 at_:Int
 text:ByteArray
 deriving DecidableEq
instance wK.tok:wK tX where
 size:=3
 bytes:=32
 rd _ _ cs x:=cs=[.int .i64 x.kind,.int .i64 x.at_,.string x.text]∧yQ x.kind∧yQ x.at_∧x.text.size≤140737488355328
 len:=λh=>by rw[h.1];rfl
 one:=λh u hu=>by rw[h.1]at hu;simp at hu;rcases hu with rfl|rfl|rfl<;>rfl
 mono:=λh _ _=>h
 pos:=by decide
structure zC where
 var:Int
 op:Int
 n:Int
 deriving DecidableEq
instance wK.lit:wK zC where
 size:=3
 bytes:=24
 rd _ _ cs x:=cs=[.int .i64 x.var,.int .i64 x.op,.int .i64 x.n]∧yQ x.var∧yQ x.op∧yQ x.n
 len:=λh=>by rw[h.1];rfl
 one:=λh u hu=>by rw[h.1]at hu;simp at hu;rcases hu with rfl|rfl|rfl<;>rfl
 mono:=λh _ _=>h
 pos:=by decide
structure zO where
 name:ByteArray
 lo:Int
 hi:Int
 deriving DecidableEq
instance wK.var:wK zO where
 size:=3
 bytes:=32
 rd _ _ cs x:=cs=[.string x.name,.int .i64 x.lo,.int .i64 x.hi]∧x.name.size≤140737488355328∧yQ x.lo∧yQ x.hi
 len:=λh=>by rw[h.1];rfl
 one:=λh u hu=>by rw[h.1]at hu;simp at hu;rcases hu with rfl|rfl|rfl<;>rfl
 mono:=λh _ _=>h
 pos:=by decide
structure zF where
 kind:Int
 vars:List Int
 consts:List Int
 n:Int
 rows:List (List Int)
 lits:List zC
 deriving DecidableEq
instance wK.con:wK zF where
 size:=6
 bytes:=112
 rd w S cs x:=∃v1 v2 v3 v4,cs=[.int .i64 x.kind,v1,v2,.int .i64 x.n,v3,v4]∧yQ x.kind∧yQ x.n∧
  QZ w S [v1] x.vars∧QZ w S [v2] x.consts∧QZ w S [v3] x.rows∧QZ w S [v4] x.lits
 len:=λ⟨_,_,_,_,h,_⟩=>by rw[h];rfl
 one:=λ⟨_,_,_,_,h,_,_,h1,h2,h3,h4⟩ u hu=>by
  rw[h]at hu;simp at hu
  rcases hu with rfl|rfl|rfl|rfl|rfl|rfl
  ·rfl
  ·exact wK.one h1 _ (by simp)
  ·exact wK.one h2 _ (by simp)
  ·rfl
  ·exact wK.one h3 _ (by simp)
  ·exact wK.one h4 _ (by simp)
 mono:=λ⟨v1,v2,v3,v4,h,a,b,h1,h2,h3,h4⟩ hk hS=>⟨v1,v2,v3,v4,h,a,b,h1.mono hk hS,h2.mono hk hS,h3.mono hk hS,h4.mono hk hS⟩
 pos:=by decide
structure zD where
 vars:List zO
 cons:List zF
 goal:Int
 var:Int
 deriving DecidableEq
instance wK.mdl:wK zD where
 size:=4
 bytes:=64
 rd w S cs x:=∃v1 v2,cs=[v1,v2,.int .i64 x.goal,.int .i64 x.var]∧yQ x.goal∧yQ x.var∧QZ w S [v1] x.vars∧QZ w S [v2] x.cons
 len:=λ⟨_,_,h,_⟩=>by rw[h];rfl
 one:=λ⟨_,_,h,_,_,h1,h2⟩ u hu=>by
  rw[h]at hu;simp at hu
  rcases hu with rfl|rfl|rfl|rfl
  ·exact wK.one h1 _ (by simp)
  ·exact wK.one h2 _ (by simp)
  ·rfl
  ·rfl
 mono:=λ⟨v1,v2,h,a,b,h1,h2⟩ hk hS=>⟨v1,v2,h,a,b,h1.mono hk hS,h2.mono hk hS⟩
 pos:=by decide
section
variable {w:World}{S:Nat→Prop}{v:Value}
theorem BB{α:Type}[wK α]{xs:List α}(h:QZ w S [v] xs):∃A c,v=.slice A xs.length c∧zjP A c xs∧aX w S (.slice A xs.length c) xs:=by
 obtain⟨A,c,e,h0,h1,h2,h3,h4⟩:=h;simp only[List.cons.injEq,and_true]at e
 subst e;exact⟨A,c,rfl,⟨h0,h1,h2,h3⟩,[_],rfl,A,c,rfl,h0,h1,h2,h3,h4⟩
theorem BC{α:Type}[wK α]{xs:List α}(h:aX w S v xs):QZ w S [v] xs:=by
 obtain⟨cs,rfl,A,c,rfl,h'⟩:=h;exact⟨A,c,rfl,h'⟩
theorem Pu{xs:List tX}{A:Option Addr}{n c:Nat}(h:aX w S (.slice A n c) xs){i:Nat}(hi:i<xs.length):
  ∃b o,A=some ⟨b,o,none⟩∧S b∧w.cell? ⟨b,o+i*3,none⟩=some (.int .i64 xs[i].kind)∧w.cell? ⟨b,o+i*3+1,none⟩=some (.int .i64 xs[i].at_)∧w.cell? ⟨b,o+i*3+2,none⟩=some (.string xs[i].text)∧
   yQ xs[i].kind∧yQ xs[i].at_∧xs[i].text.size≤140737488355328:=by
 obtain⟨b,o,cs,rfl,hb,⟨rfl,hr⟩,hc⟩:=Ps h hi;exact⟨b,o,rfl,hb,by simpa[wK.size]using hc 0 _ rfl,by simpa[wK.size]using hc 1 _ rfl,by simpa[wK.size]using hc 2 _ rfl,hr⟩
end
def wE(w:World)(g:Nat)(t:TypeId)(cs:Array Value):Prop:=w.heap[g]? =some (.cells cs t (0,0))
section
variable {w w':World}{g:Nat}{t:TypeId}{cs:Array Value}
theorem wE.lt(h:wE w g t cs):g<w.heap.size:=by
 rcases Nat.lt_or_ge g w.heap.size with hlt|hge
 ·exact hlt
 ·unfold wE at h;rw[Array.getElem?_eq_none hge]at h;cases h
theorem wE.cell(h:wE w g t cs)(i:Nat):w.cell? ⟨g,i,none⟩=cs[i]? :=cell_of_row w g i cs t (0,0) h
theorem wE.frozen(h:wE w g t cs)(i:Nat):w.frozen? ⟨g,i,none⟩=false:=by
 unfold wE at h
 simp[World.frozen?,h]
theorem wE.new(w:World)(t:TypeId)(cs:Array Value):wE (w.alloc (.cells cs t)) w.heap.size t cs:=heap_alloc_new w _
theorem wE.drew(h:wE w g t cs):wE w.drew g t cs:=h
theorem wE.drewN(h:wE w g t cs)(n:Nat):wE (w.drewN n) g t cs:=h
theorem wE.alloc(h:wE w g t cs)(o:Obj):wE (w.alloc o) g t cs:=(Below.heap_alloc w o g h.lt).trans h
theorem wE.set_(h:wE w g t cs)(i:Nat)(u:Value):wE (w.setCell ⟨g,i,none⟩ u) g t (cs.setIfInBounds i u):=by
 unfold wE at h⊢
 simp[World.setCell,Array.getElem?_modify,h]
theorem wE.far(h:wE w g t cs){p:Addr}(hp:g≠p.block)(u:Value):wE (w.setCell p u) g t cs:=(Below.heap_setCell w p u g hp).trans h
theorem wE.below{B:Nat}(h:wE w g t cs)(hb:Below B w w')(hg:g<B):wE w' g t cs:=(hb.block g hg).trans h
theorem wE.grown{row:Option Nat}(h:wE w g t cs)(hb:w.grownBy w' row)(hg:some g≠row):wE w' g t cs:=(hb.block g h.lt hg).trans h
end
section
variable {a b w w':World}{row:Option Nat}{B:Nat}
theorem wQ(h:Below B a w)(n:Nat):Below B a (w.drewN n):=⟨h.os,h.tape,h.output,h.size,h.block⟩
theorem OT(h:Below a.heap.size a w)(k:Below w.heap.size w w'):Below a.heap.size a w':=h.trans (k.mono h.size)
theorem Pv(h:a.grownBy b row)(k:b.grownBy w row):a.grownBy w row:=
 ⟨k.os.trans h.os,k.tape.trans h.tape,k.output.trans h.output,Nat.le_trans h.size k.size,λi hi hne=>(k.block i (Nat.lt_of_lt_of_le hi h.size) hne).trans (h.block i hi hne)⟩
theorem wR(h:a.grownBy w row)(n:Nat):a.grownBy (w.drewN n) row:=⟨h.os,h.tape,h.output,h.size,h.block⟩
theorem gQ(h:a.grownBy w row):a.grownBy w.drew row:=⟨h.os,h.tape,h.output,h.size,h.block⟩
theorem mY(h:a.grownBy w row)(o:Obj):a.grownBy (w.alloc o) row:=
 ⟨h.os,h.tape,h.output,Nat.le_trans h.size (by simp),λi hi hne=>(Below.heap_alloc w o i (Nat.lt_of_lt_of_le hi h.size)).trans (h.block i hi hne)⟩
theorem uP{g:Nat}(h:a.grownBy w (some g)){p:Addr}(hp:p.block=g∨a.heap.size≤p.block)(u:Value):a.grownBy (w.setCell p u) (some g):=
 ⟨h.os,h.tape,h.output,by simpa[World.setCell]using h.size,λi hi hne=>(Below.heap_setCell w p u i (by
  rintro rfl;rcases hp with hp|hp
  ·exact hne (by rw[hp])
  ·omega)).trans (h.block i hi hne)⟩
theorem jE(h:Below a.heap.size a w)(row:Option Nat):a.grownBy w row:=⟨h.os,h.tape,h.output,h.size,λi hi _=>h.block i hi⟩
theorem Zt{g:Nat}(h:a.grownBy w (some g))(hB:B≤g)(hs:B≤a.heap.size):Below B a w:=⟨h.os,h.tape,h.output,h.size,λi hi=>h.block i (by omega) (λe=>by injection e with e;omega)⟩
end
theorem BD{a b:Bool}(h:a=b):Ending.returned (.bool a)=.returned (.bool b):=by rw[h]
theorem Y2(s:ByteArray)(i:Nat)(h:i<s.size):s.data.toList.drop i=s[i]::s.data.toList.drop (i+1):=by
 rw[List.drop_eq_getElem_cons (by simpa using h)];rfl
theorem Iv(s:ByteArray):s.data.toList.length=s.size:=by simp
theorem Iw{P:Program}{f:FuncId}{args:Array Value}{w:World}{n:Nat}{v:Value}
  (h:Calls P f args (w.drewN n) λe w'=>e=.returned v∧w.drewN n=w'):Calls P f args (w.drewN n) λe w'=>e=.returned v∧∃m,w'=w.drewN m:=
 h.mono λ_ _ ⟨he,hm⟩=>⟨he,n,hm.symm⟩
theorem J8{s:Nat}:∀(css:List (List Value)) (_:∀cs∈css,cs.length=s) (i j:Nat) (cs:List Value) (u:Value),css[i]? =some cs→cs[j]? =some u→css.flatten[i*s+j]? =some u
 |[],_,i,j,cs,u,h,_=>by simp at h
 |c::css,hl,0,j,cs,u,h,hu=>by
  simp at h;subst h
  have hj:j<c.length:=(List.getElem?_eq_some_iff.1 hu).1;simp only[List.flatten_cons,Nat.zero_mul,Nat.zero_add];rw[List.getElem?_append_left hj];exact hu
 |c::css,hl,i+1,j,cs,u,h,hu=>by
  have hc:c.length=s:=hl c (by simp)
  have ih:=J8 css (λcs hcs=>hl cs (by simp[hcs])) i j cs u (by simpa using h) hu
  simp only[List.flatten_cons];rw[List.getElem?_append_right (by rw[hc,Nat.succ_mul];omega)]
  rw[←ih];congr 1;rw[hc,Nat.succ_mul];omega
theorem Xa{s:Nat}:∀(css:List (List Value)) (_:∀cs∈css,cs.length=s),css.flatten.length=css.length*s
 |[],_=>by simp
 |c::css,hl=>by
  have ih:=Xa css (λcs hcs=>hl cs (by simp[hcs]))
  simp only[List.flatten_cons,List.length_append,List.length_cons,ih,hl c (by simp),Nat.succ_mul];omega
structure OU (P:Program)(t e:TypeId)(size bytes:Nat):Prop where
 und:P.underlying t=some (.slice e)
 info:∃i z,P.info? e=some i∧i.zero=some z∧i.size=size∧i.bytes=bytes∧z.cells.size=size
theorem OU.mk'{P:Program}{t e:TypeId}{size bytes:Nat}{z:Value}(h:P.underlying t=some (.slice e))(hi:(P.info? e).map (λi=>(i.zero,i.size,i.bytes))=some (some z,size,bytes))(hz:z.cells.size=size):OU P t e size bytes:=by
 obtain⟨i,h1,h2,h3,h4⟩:=info_parts hi;exact⟨h,i,z,h1,h2,h3,h4,hz⟩
def zaT(w:World)(lo:Nat)(v:Value)(b:Nat):Prop:=lo≤b∧b<w.heap.size∧v.ownBlock≠some b
def Own{α:Type}[wK α](w:World)(lo base:Nat)(E:TypeId)(v:Value)(xs:List α):Prop:=
 lo≤base∧xs.length*wK.bytes α≤140737488355328∧∃css:List (List Value),css.length=xs.length∧w.ownsRow base E (wK.size α) v xs.length css.flatten∧
  (∀cs∈css,cs.length=wK.size α)∧∀(i:Nat) (x:α) (cs:List Value),xs[i]? =some x→css[i]? =some cs→wK.rd w (zaT w lo v) cs x
section
variable {α:Type}[wK α]{w w':World}{lo base:Nat}{E:TypeId}{v:Value}{xs:List α}
theorem Own.nil(w:World){lo base:Nat}(E:TypeId)(hlo:lo≤base):Own w lo base E (.slice none 0 0) ([]:List α):=
 ⟨hlo,by simp,[],rfl,by simpa using World.ownsRow_nil w base E (wK.size α),by simp,by simp⟩
theorem Own.lt(h:Own w lo base E v xs){k:Nat}(hk:v.ownBlock=some k):base≤k∧k<w.heap.size:=by
 obtain⟨_,_,css,_,h3,_⟩:=h;exact h3.lt k hk
theorem Own.shape(h:Own w lo base E v xs):∃A c,v=.slice A xs.length c:=by
 obtain⟨_,_,css,_,h3,_⟩:=h;rcases h3.2 with⟨rfl,h0⟩|⟨g,cap,cur,rfl,_⟩
 ·rw[h0];exact⟨_,_,rfl⟩
 ·exact⟨_,_,rfl⟩
theorem Own.kept(h:Own w lo base E v xs)(hs:w.heap.size≤w'.heap.size)(hk:∀b,lo≤b→b<w.heap.size→w'.heap[b]? =w.heap[b]?):Own w' lo base E v xs:=by
 obtain⟨h1,h2,css,h3,h4,h5,h6⟩:=h;refine⟨h1,h2,css,h3,⟨h4.1,?_⟩,h5,λi x cs hx hc=>wK.mono (h6 i x cs hx hc) (λb hb=>hk b hb.1 hb.2.1) (λb hb=>⟨hb.1,by have:=hb.2.1;omega,hb.2.2⟩)⟩
 rcases h4.2 with hn|⟨g,cap,cur,rfl,hb,hg,rest⟩
 ·exact .inl hn
 ·exact .inr ⟨g,cap,cur,rfl,hb,by rw[hk g (by omega) (Array.getElem?_eq_some_iff.1 hg).1];exact hg,rest⟩
theorem Own.below(h:Own w lo base E v xs)(hb:Below w.heap.size w w'):Own w' lo base E v xs:=h.kept hb.size λb _ hb'=>hb.block b hb'
theorem Own.alloc(h:Own w lo base E v xs)(o:Obj):Own (w.alloc o) lo base E v xs:=h.kept (by simp) λb _ hb=>Below.heap_alloc w o b hb
theorem Own.drew(h:Own w lo base E v xs):Own w.drew lo base E v xs:=h.kept (Nat.le_refl _) λ_ _ _=>rfl
theorem Own.drewN(h:Own w lo base E v xs)(n:Nat):Own (w.drewN n) lo base E v xs:=h.kept (Nat.le_refl _) λ_ _ _=>rfl
theorem Own.rdV(h:Own w lo base E v xs):aX w (λb=>lo≤b∧b<w.heap.size) v xs:=by
 obtain⟨h1,h2,css,h3,h4,h5,h6⟩:=h;rcases h4.2 with⟨rfl,h0⟩|⟨g,cap,cur,rfl,hb,hg,hcap,hmax,hcur,htake⟩
 ·obtain rfl:=List.eq_nil_of_length_eq_zero h0
  exact⟨[.slice none 0 0],rfl,none,0,rfl,by simp,by simp,by simp,λ_=>rfl,λhn=>absurd hn (by simp)⟩
 ·refine⟨[_],rfl,some ⟨g,0,none⟩,cap,rfl,h2,hcap,hmax,(λe=>by cases e),λhn=> ?_⟩
  refine⟨g,0,rfl,⟨by omega,(Array.getElem?_eq_some_iff.1 hg).1⟩,λi x hx=> ?_⟩
  have hi:i<xs.length:=(List.getElem?_eq_some_iff.1 hx).1;have hc:css[i]? =some (css[i]'(by omega)):=List.getElem?_eq_getElem (by omega)
  refine⟨_,wK.mono (h6 i x _ hx hc) (λ_ _=>rfl) (λb hb=>⟨hb.1,hb.2.1⟩),λj u hu=> ?_⟩
  have hf:=J8 css h5 i j _ u hc hu;have:=h4.cells (g:=g) rfl _ _ hf;rw[←this];unfold Addr.add;split
  ·rename_i e;simp[e]
  ·simp
theorem Own.rds(h:Own w lo base E v xs):Rds w v xs:=aX.mono h.rdV (λ_ _=>rfl) λ_ hb=>hb.2
theorem Own.fresh(h:Own w lo base E v xs):W1 w lo v xs:=h.rdV
theorem Own.bytes(h:Own w lo base E v xs):xs.length*wK.bytes α≤140737488355328:=h.2.1
theorem Own.more(h:Own w lo base E v xs){lo':Nat}(hlo:lo'≤lo):Own w lo' base E v xs:=by
 obtain⟨h1,h2,css,h3,h4,h5,h6⟩:=h;exact⟨by omega,h2,css,h3,h4,h5,λi x cs hx hc=>wK.mono (h6 i x cs hx hc) (λ_ _=>rfl) (λb hb=>⟨by have:=hb.1;omega,hb.2.1,hb.2.2⟩)⟩
theorem Own.appended{P:Program}{t:TypeId}(hown:Own w lo base E v xs)(hbase:base≤w.heap.size){v':Value}{ys:List α}{ccs:List (List Value)}(hl:ccs.length=ys.length)
  (hcl:∀cs∈ccs,cs.length=wK.size α) (hcs:∀(i:Nat) (x:α) (cs:List Value),ys[i]? =some x→ccs[i]? =some cs→wK.rd w (zaT w lo v) cs x) (hb:(xs.length+ys.length)*wK.bytes α≤140737488355328)
  (css:List (List Value)) (h3:css.length=xs.length) (h5:∀cs∈css,cs.length=wK.size α) (h6:∀(i:Nat) (x:α) (cs:List Value),xs[i]? =some x→css[i]? =some cs→wK.rd w (zaT w lo v) cs x)
  (ho:w'.ownsRow base E (wK.size α) v' (xs.length+ys.length) (css.flatten++ccs.flatten)) (hg:w.grownBy w' v.ownBlock) (hat:v'.ownBlock=v.ownBlock∨v'.ownBlock=some w.heap.size):
  Own w' lo base E v' (xs++ys):=by
 refine⟨hown.1,by simpa using hb,css++ccs,by simp[h3,hl],by simpa using ho,λcs hc=> ?_,λi x cs hx hc=> ?_⟩
 ·rcases List.mem_append.1 hc with h|h
  ·exact h5 cs h
  ·exact hcl cs h
 ·have key:wK.rd w (zaT w lo v) cs x:=by
   by_cases hi:i<xs.length
   ·rw[List.getElem?_append_left hi]at hx
    rw[List.getElem?_append_left (by omega)]at hc
    exact h6 i x cs hx hc
   ·rw[List.getElem?_append_right (by omega)]at hx
    rw[List.getElem?_append_right (by omega),h3]at hc
    exact hcs _ x cs hx hc
  refine wK.mono key (λb hb=>hg.block b hb.2.1 (λe=>hb.2.2 e.symm)) (λb hb=>⟨hb.1,by have:=hg.size;have:=hb.2.1;omega,?_⟩)
  rcases hat with e|e<;>rw[e]
  ·exact hb.2.2
  ·intro e';injection e' with e';have:=hb.2.1;omega
end
section
variable {P:Program}{α:Type}[wK α]
theorem zdv(w:World)(cs:List Value)(E:TypeId):∀j u,cs[j]? =some u→(w.alloc (.cells cs.toArray E)).cell? ((⟨w.heap.size,0,none⟩:Addr).add j)=some u:=by
 intro j u hu;have e:(⟨w.heap.size,0,none⟩:Addr).add j=⟨w.heap.size,j,none⟩:=by unfold Addr.add;split<;>simp_all
 rw[e,World.cell?_alloc_new];simpa using hu
theorem OV{ops:Array Oper}{rest:List Oper}{o:Oper}{a:Act}{Q:Exit→Act→World→Prop}{w:World}{lo base:Nat}{E t:TypeId}{v:Value}{xs:List α}{cs:List Value}{y:α}
  (hgd:o.guard=none) (s x:Operand) (ho:o.op=.call {callee:=.builtin .append,args:= #[s,x],argTypes:= #[t,t]})
  (hr:OU P t E (wK.size α) (wK.bytes α)) (hs:a.eval s=v) (hown:Own w lo base E v xs) {g:Nat} (hx:a.eval x=.slice (some ⟨g,0,none⟩) 1 1) (hgs:g=w.heap.size)
  (hy:QZ w (zaT w lo v) cs y) (hb:(xs.length+1)*wK.bytes α≤140737488355328) (hm:xs.length+1≤9223372036854775807) (hbase:base≤w.heap.size)
  (h:∀v' w',Own w' lo base E v' (xs++[y])→w.grownBy w' v.ownBlock→Below base w w'→wpList P ops Q rest (a.put o.dst v') w'):
  wpList P ops Q (o::rest) a (w.alloc (.cells cs.toArray E)):=by
 subst hgs;obtain⟨hu,i,z,hi,hz,hsz,hby,hzs⟩:=hr;obtain⟨h1,h2,css,h3,h4,h5,h6⟩:=hown;have hlen:cs.length=wK.size α:=wK.len hy
 obtain⟨v',w',hrun,k1,k2,_,k3⟩:=run_append_own_at (P:=P) (w.alloc (.cells cs.toArray E)) base t o.type E i z (wK.size α) (wK.bytes α) hu hi hz hsz hby hzs wK.pos v xs.length css.flatten (h4.alloc _)
  ⟨w.heap.size,0,none⟩ 1 1 cs (by simpa using hlen) (zdv w cs E) (wK.one hy) (by unfold maxLen;omega) hb (by simp;omega)
 have hown':Own (w.alloc (.cells cs.toArray E)) lo base E v xs:=Own.alloc ⟨h1,h2,css,h3,h4,h5,h6⟩ _
 have mono:∀ {cs':List Value} {x':α},wK.rd w (zaT w lo v) cs' x'→wK.rd (w.alloc (.cells cs.toArray E)) (zaT (w.alloc (.cells cs.toArray E)) lo v) cs' x':=λhh=>
  wK.mono hh (λb hb=>Below.heap_alloc w _ b hb.2.1) (λb hb=>⟨hb.1,by simp;have:=hb.2.1;omega,hb.2.2⟩)
 have hfin:Own w' lo base E v' (xs++[y]):=Own.appended (P:=P) (t:=t) hown' (by simp;omega) (ccs:=[cs]) (ys:=[y]) rfl (by simpa using hlen)
  (λj x' cs' hx' hc'=>by
   rcases j with _|j
   ·simp at hx' hc';subst hx' hc';exact mono hy
   ·simp at hx') (by simpa using hb) css h3 h5 (λj x' cs' hx' hc'=>mono (h6 j x' cs' hx' hc')) (by simpa using k1) k2 k3
 have hgw:w.grownBy w' v.ownBlock:=⟨k2.os,k2.tape,k2.output,by have:=k2.size;simp at this;omega,λb hb hne=>(k2.block b (by simp;omega) hne).trans (Below.heap_alloc w _ b hb)⟩
 have hbl:Below base w w':=(Below.refl _ _).grown hgw hbase (λk hk=>(h4.lt k hk).1)
 refine wpList_plain hgd λK hK=> ?_
 unfold Oper.wp execOp;simp only[ho,resolve,invoke,builtin,Sem.run_bind,Sem.run_pure,Result.andThen_ok,List.map_toArray,List.map_cons,List.map_nil,hs,hx,hrun];exact hK _ _ (h v' w' hfin hgw hbl)
end
structure zS where
 kind:Int
 con:Int
 clause:List zC
 deriving DecidableEq
structure yZ where
 v:Int
 times:Int
 deriving DecidableEq
structure D5 where
 verdict:Int
 values:List Int
 proof:List zS
 deriving DecidableEq
instance wK.bool:wK Bool where
 size:=1
 bytes:=1
 rd _ _ cs x:=cs=[.bool x]
 len:=λh=>by rw[h];rfl
 one:=λh u hu=>by rw[h]at hu;simp at hu;subst hu;rfl
 mono:=λh _ _=>h
 pos:=by decide
instance wK.byte:wK UInt8 where
 size:=1
 bytes:=1
 rd _ _ cs x:=cs=[.int .u8 (x.toNat:Int)]
 len:=λh=>by rw[h];rfl
 one:=λh u hu=>by rw[h]at hu;simp at hu;subst hu;rfl
 mono:=λh _ _=>h
 pos:=by decide
instance wK.term:wK yZ where
 size:=2
 bytes:=16
 rd _ _ cs x:=cs=[.int .i64 x.v,.int .i64 x.times]∧yQ x.v∧yQ x.times
 len:=λh=>by rw[h.1];rfl
 one:=λh u hu=>by rw[h.1]at hu;simp at hu;rcases hu with rfl|rfl<;>rfl
 mono:=λh _ _=>h
 pos:=by decide
instance wK.step:wK zS where
 size:=3
 bytes:=40
 rd w S cs x:=∃v,cs=[.int .i64 x.kind,.int .i64 x.con,v]∧yQ x.kind∧yQ x.con∧QZ w S [v] x.clause
 len:=λ⟨_,h,_⟩=>by rw[h];rfl
 one:=λ⟨_,h,_,_,h1⟩ u hu=>by
  rw[h]at hu;simp at hu
  rcases hu with rfl|rfl|rfl
  ·rfl
  ·rfl
  ·exact wK.one h1 _ (by simp)
 mono:=λ⟨v,h,a,b,h1⟩ hk hS=>⟨v,h,a,b,h1.mono hk hS⟩
 pos:=by decide
instance wK.ans:wK D5 where
 size:=3
 bytes:=56
 rd w S cs x:=∃v1 v2,cs=[.int .i64 x.verdict,v1,v2]∧yQ x.verdict∧QZ w S [v1] x.values∧QZ w S [v2] x.proof
 len:=λ⟨_,_,h,_⟩=>by rw[h];rfl
 one:=λ⟨_,_,h,_,h1,h2⟩ u hu=>by
  rw[h]at hu;simp at hu
  rcases hu with rfl|rfl|rfl
  ·rfl
  ·exact wK.one h1 _ (by simp)
  ·exact wK.one h2 _ (by simp)
 mono:=λ⟨v1,v2,h,a,h1,h2⟩ hk hS=>⟨v1,v2,h,a,h1.mono hk hS,h2.mono hk hS⟩
 pos:=by decide
instance wK.pair {α β:Type}[wK α][wK β]:wK (α×β) where
 size:=wK.size α+wK.size β
 bytes:=wK.bytes α+wK.bytes β
 rd w S cs x:=∃c1 c2,cs=c1++c2∧wK.rd w S c1 x.1∧wK.rd w S c2 x.2
 len:=λ⟨c1,c2,h,h1,h2⟩=>by rw[h,List.length_append,wK.len h1,wK.len h2]
 one:=λ⟨c1,c2,h,h1,h2⟩ u hu=>by
  rw[h]at hu
  rcases List.mem_append.1 hu with hu|hu
  ·exact wK.one h1 u hu
  ·exact wK.one h2 u hu
 mono:=λ⟨c1,c2,h,h1,h2⟩ hk hS=>⟨c1,c2,h,wK.mono h1 hk hS,wK.mono h2 hk hS⟩
 pos:=Nat.add_pos_left wK.pos _
inductive Ty|int|bool|str|tok|lit|var|con|mdl|step|term|ans|list (t:Ty)|pr (a b:Ty)|byte
 deriving DecidableEq
@[reducible] def Ty.den:Ty→Type
 | .int=>Int| .bool=>Bool| .str=>ByteArray| .tok=>tX| .lit=>zC| .var=>zO| .con=>zF| .mdl=>zD| .step=>zS| .term=>yZ| .ans=>D5
 | .list t=>List t.den
 | .pr a b=>a.den×b.den
 | .byte=>UInt8
@[reducible] def Ty.rep:(t:Ty)→wK t.den
 | .int=>wK.int| .bool=>wK.bool| .str=>wK.str| .tok=>wK.tok| .lit=>wK.lit| .var=>wK.var| .con=>wK.con| .mdl=>wK.mdl| .step=>wK.step| .term=>wK.term| .ans=>wK.ans
 | .list t=> @wK.list _ (Ty.rep t)
 | .pr a b=> @wK.pair _ _ (Ty.rep a) (Ty.rep b)
 | .byte=>wK.byte
@[reducible] instance wK.ty (t:Ty):wK t.den:=Ty.rep t
def Ty.dflt:(t:Ty)→t.den
 | .int=>0| .bool=>false| .str=>⟨#[]⟩| .tok=>⟨0,0,⟨#[]⟩⟩| .lit=>⟨0,0,0⟩| .var=>⟨⟨#[]⟩,0,0⟩| .con=>⟨0,[],[],0,[],[]⟩| .mdl=>⟨[],[],0,0⟩| .step=>⟨0,0,[]⟩| .term=>⟨0,0⟩| .ans=>⟨0,[],[]⟩
 | .list _=>[]
 | .pr a b=>(a.dflt,b.dflt)
 | .byte=>0
def Ty.agg:Ty→Bool
 | .tok| .lit| .var| .con| .mdl| .step| .term| .ans| .pr _ _=>true
 |_=>false
def Ty.size:Ty→Nat
 | .tok| .lit| .var| .step| .ans=>3| .con=>6| .mdl=>4| .term=>2
 | .pr a b=>a.size+b.size
 |_=>1
def Ty.bytes:Ty→Nat
 | .int=>8| .bool=>1| .str=>16| .tok=>32| .lit=>24| .var=>32| .con=>112| .mdl=>64| .step=>40| .term=>16| .ans=>56| .list _=>24| .pr a b=>a.bytes+b.bytes| .byte=>1
theorem Ty.size_eq:(t:Ty)→t.size= @wK.size t.den (Ty.rep t)
 | .pr a b=>by show a.size+b.size=_;rw[Ty.size_eq a,Ty.size_eq b];rfl
 | .int| .bool| .str| .tok| .lit| .var| .con| .mdl| .step| .term| .ans| .list _| .byte=>rfl
theorem Ty.bytes_eq:(t:Ty)→t.bytes= @wK.bytes t.den (Ty.rep t)
 | .pr a b=>by show a.bytes+b.bytes=_;rw[Ty.bytes_eq a,Ty.bytes_eq b];rfl
 | .int| .bool| .str| .tok| .lit| .var| .con| .mdl| .step| .term| .ans| .list _| .byte=>rfl
inductive D
 |undef
 |nil
 |int (k:IntKind) (n:Int)
 |bool (b:Bool)
 |str (s:ByteArray)
 |sl (t:Ty) (xs:List t.den)
 |mp (k v:Ty) (es:List (k.den×v.den))
 |agg (cs:List D)
 |tup (cs:List D)
 |iptr (cs:List D) (off:Nat)
 |elt (t:Ty) (xs:List t.den) (i off:Nat)
 |clo (f:FuncId) (rs:Option (List Ty)) (caps:List D)
 |own (k:Nat)
 |ptr (k off:Nat)
 |oelt (k sz i off:Nat)
 |slN (t:Ty) (xs:List t.den) (nl:Bool)
 |ownN (k:Nat)
 |ifc (u:Value)
 |clp (f:FuncId) (bd:Bool) (k off:Nat)
 |slf (k:Nat)
 deriving Inhabited
def inK:IntKind→Int→Prop
 | .i64,n=>yQ n
 | .u8,n=>0≤n∧n≤255
 |_,_=>False
theorem D6(n:Int):inK .i64 (IntKind.i64.wrap n):=by
 unfold inK yQ;rw[IntKind.wrap_i64];omega
theorem zi1(n:Int):inK .u8 (IntKind.u8.wrap n):=by
 unfold inK;rw[IntKind.wrap_u8];omega
def cells:(t:Ty)→t.den→List D
 | .int,n=>[.int .i64 n]
 | .bool,b=>[.bool b]
 | .str,s=>[.str s]
 | .tok,x=>[.int .i64 x.kind,.int .i64 x.at_,.str x.text]
 | .lit,x=>[.int .i64 x.var,.int .i64 x.op,.int .i64 x.n]
 | .var,x=>[.str x.name,.int .i64 x.lo,.int .i64 x.hi]
 | .con,x=>[.int .i64 x.kind,.sl .int x.vars,.sl .int x.consts,.int .i64 x.n,.sl (.list .int) x.rows,.sl .lit x.lits]
 | .mdl,x=>[.sl .var x.vars,.sl .con x.cons,.int .i64 x.goal,.int .i64 x.var]
 | .step,x=>[.int .i64 x.kind,.int .i64 x.con,.sl .lit x.clause]
 | .term,x=>[.int .i64 x.v,.int .i64 x.times]
 | .ans,x=>[.int .i64 x.verdict,.sl .int x.values,.sl .step x.proof]
 | .list t,xs=>[.sl t xs]
 | .pr a b,x=>cells a x.1++cells b x.2
 | .byte,b=>[.int .u8 (b.toNat:Int)]
def XV(t:Ty)(x:t.den):D:=
 match t,x with
 | .int,n=> .int .i64 n
 | .bool,b=> .bool b
 | .str,s=> .str s
 | .list t,xs=> .sl t xs
 | .byte,b=> .int .u8 (b.toNat:Int)
 |t,x=> .agg (cells t x)
theorem Ty.bytes_pos:(t:Ty)→0<t.bytes
 | .pr a b=>Nat.add_pos_left (Ty.bytes_pos a) _
 | .int| .bool| .str| .tok| .lit| .var| .con| .mdl| .step| .term| .ans| .list _| .byte=>Nat.le_of_ble_eq_true rfl
theorem gR:(t:Ty)→(x:t.den)→(cells t x).length=t.size
 | .pr a b,x=>by show(cells a x.1++cells b x.2).length=_;rw[List.length_append,gR a,gR b];rfl
 | .int,_| .bool,_| .str,_| .tok,_| .lit,_| .var,_| .con,_| .mdl,_| .step,_| .term,_| .ans,_| .list _,_| .byte,_=>rfl
def MF(t:Ty):D→Option (List t.den)
 | .sl t' xs=>if h:t'=t then some (h▸xs)else none
 | .nil=>some []
 |_=>none
def ofD:(t:Ty)→List D→Option t.den
 | .int,[.int .i64 n]=>some n
 | .bool,[.bool b]=>some b
 | .str,[.str s]=>some s
 | .tok,[.int .i64 a,.int .i64 b,.str c]=>some ⟨a,b,c⟩
 | .lit,[.int .i64 a,.int .i64 b,.int .i64 c]=>some ⟨a,b,c⟩
 | .var,[.str a,.int .i64 b,.int .i64 c]=>some ⟨a,b,c⟩
 | .con,[.int .i64 a,b,c,.int .i64 d,e,f]=>match MF .int b,MF .int c,MF (.list .int) e,MF .lit f with
  |some b,some c,some e,some f=>some ⟨a,b,c,d,e,f⟩
  |_,_,_,_=>none
 | .mdl,[a,b,.int .i64 c,.int .i64 d]=>match MF .var a,MF .con b with
  |some a,some b=>some ⟨a,b,c,d⟩
  |_,_=>none
 | .step,[.int .i64 a,.int .i64 b,c]=>match MF .lit c with
  |some c=>some ⟨a,b,c⟩
  |_=>none
 | .term,[.int .i64 a,.int .i64 b]=>some ⟨a,b⟩
 | .ans,[.int .i64 a,b,c]=>match MF .int b,MF .step c with
  |some b,some c=>some ⟨a,b,c⟩
  |_,_=>none
 | .list t,[d]=>MF t d
 | .pr a b,ds=>match ofD a (ds.take a.size),ofD b (ds.drop a.size)with
  |some x,some y=>some (x,y)
  |_,_=>none
 | .byte,[.int .u8 n]=>some (UInt8.ofNat n.toNat)
 |_,_=>none
theorem OW:(t:Ty)→ofD t (cells t t.dflt)=some t.dflt
 | .pr a b=>by
  show(match ofD a ((cells a a.dflt++cells b b.dflt).take a.size),ofD b ((cells a a.dflt++cells b b.dflt).drop a.size)with
   |some x,some y=>some (x,y)
   |_,_=>none)=_
  have h:a.size=(cells a a.dflt).length:=(gR a _).symm;rw[List.take_append_of_le_length (by omega),List.take_of_length_le (by omega),h,List.drop_left,OW a,OW b]
  rfl
 | .int| .bool| .str| .tok| .lit| .var| .con| .mdl| .step| .term| .ans| .list _=>by simp[cells,Ty.dflt,ofD,MF]
 | .byte=>rfl
inductive xE {α β:Type}(R:α→β→Prop):List α→List β→Prop
 |nil:xE R [] []
 |cons {a b xs ys}:R a b→xE R xs ys→xE R (a::xs) (b::ys)
section
variable {α β:Type}{R R':α→β→Prop}
theorem xE.len:∀ {xs:List α} {ys:List β},xE R xs ys→xs.length=ys.length
 |_,_,.nil=>rfl
 |_,_,.cons _ h=>by simp[h.len]
theorem xE.at:∀ {xs:List α} {ys:List β},xE R xs ys→∀ {i:Nat} {b:β},ys[i]? =some b→∃a,xs[i]? =some a∧R a b
 |_,_,.nil,i,b,h=>by simp at h
 |_,_,.cons h _,0,b,hb=>⟨_,rfl,by simp at hb;subst hb;exact h⟩
 |_,_,.cons _ h,i+1,b,hb=>by simpa using h.at (i:=i) (by simpa using hb)
theorem xE.of:∀ {xs:List α} {ys:List β},xs.length=ys.length→(∀(i:Nat) (a:α) (b:β),xs[i]? =some a→ys[i]? =some b→R a b)→xE R xs ys
 |[],[],_,_=> .nil
 |a::xs,b::ys,hl,h=> .cons (h 0 a b rfl rfl) (xE.of (by simpa using hl) λi a b ha hb=>h (i+1) a b (by simpa using ha) (by simpa using hb))
 |[],_::_,hl,_=>by simp at hl
 |_::_,[],hl,_=>by simp at hl
theorem xE.append:∀ {xs:List α} {ys:List β} {xs':List α} {ys':List β},xE R xs ys→xE R xs' ys'→xE R (xs++xs') (ys++ys')
 |_,_,_,_,.nil,h=>h
 |_,_,_,_,.cons h hs,h'=> .cons h (hs.append h')
theorem xE.split:∀ {xs:List α} {ys:List β},xE R xs ys→∀n,xE R (xs.take n) (ys.take n)∧xE R (xs.drop n) (ys.drop n)
 |_,_,.nil,n=>by simp;exact .nil
 |_,_,.cons h hs,0=>⟨.nil,.cons h hs⟩
 |_,_,.cons h hs,n+1=>⟨.cons h (hs.split n).1,(hs.split n).2⟩
theorem xE.imp(hr:∀a b,R a b→R' a b):∀ {xs:List α} {ys:List β},xE R xs ys→xE R' xs ys
 |_,_,.nil=> .nil
 |_,_,.cons h hs=> .cons (hr _ _ h) (hs.imp hr)
end
def BE(w:World)(S:Nat→Prop)(b:Nat)(k v:Ty)(es:List (k.den×v.den)):Prop:=
 es.length≤140737488355328∧∃ents clock,w.heap[b]? =some (.map ents clock)∧xE (λ(e:MapEntry) (x:k.den×v.den)=>aX w S e.key x.1∧aX w S e.val x.2) ents.toList es
theorem BE.mono{w w':World}{S S':Nat→Prop}{b:Nat}{k v:Ty}{es:List (k.den×v.den)}(h:BE w S b k v es)(hk:∀b,S b→w'.heap[b]? =w.heap[b]?)(hb:w'.heap[b]? =w.heap[b]?)(hS:∀b,S b→S' b):BE w' S' b k v es:=by
 obtain⟨h0,ents,clock,h1,h2⟩:=h;exact⟨h0,ents,clock,hb.trans h1,h2.imp λ_ _ h=>⟨h.1.mono hk hS,h.2.mono hk hS⟩⟩
inductive Rp (w:World)(S:Nat→Prop):Value→D→Prop
 |undef (v:Value):Rp w S v .undef
 |nil:Rp w S (.slice none 0 0) .nil
 |int (k:IntKind) (n:Int) (h:inK k n):Rp w S (.int k n) (.int k n)
 |bool (b:Bool):Rp w S (.bool b) (.bool b)
 |str (s:ByteArray) (h:s.size≤140737488355328):Rp w S (.string s) (.str s)
 |sl (t:Ty) (xs:List t.den) (v:Value) (h:aX w S v xs):Rp w S v (.sl t xs)
 |slN (t:Ty) (xs:List t.den) (nl:Bool) (v:Value) (h:aX w S v xs) (hn:nl=false→v≠ .slice none 0 0) (hy:nl=true→v=.slice none 0 0):Rp w S v (.slN t xs nl)
 |mp (k v:Ty) (es:List (k.den×v.den)) (b:Nat) (hb:S b) (h:BE w S b k v es):Rp w S (.map (some b)) (.mp k v es)
 |agg (vs:Array Value) (cs:List D) (hl:vs.size=cs.length) (h:∀i d,cs[i]? =some d→Rp w S (vs.getD i Go.undef) d):Rp w S (.agg vs) (.agg cs)
 |tup (vs:Array Value) (cs:List D) (hl:vs.size=cs.length) (h:∀i d,cs[i]? =some d→Rp w S (vs.getD i Go.undef) d):Rp w S (.tuple vs) (.tup cs)
 |iptr (b off:Nat) (cs:List D) (vs:Nat→Value) (hb:S b) (hc:∀i d,cs[i]? =some d→w.cell? ⟨b,i,none⟩=some (vs i)) (h:∀i d,cs[i]? =some d→Rp w S (vs i) d):
   Rp w S (.pointer (some ⟨b,off,none⟩)) (.iptr cs off)
 |elt (t:Ty) (xs:List t.den) (i off b o c:Nat) (hi:i<xs.length) (h:aX w S (.slice (some ⟨b,o,none⟩) xs.length c) xs):
   Rp w S (.pointer (some ⟨b,o+i*t.size+off,none⟩)) (.elt t xs i off)
 |clo (f:FuncId) (rs:Option (List Ty)) (caps:List D) (vs:Array Value) (hl:vs.size=caps.length) (h:∀i d,caps[i]? =some d→Rp w S (vs.getD i Go.undef) d):Rp w S (.func (.func f) #[] vs) (.clo f rs caps)
 |ifc (u:Value):Rp w S u (.ifc u)
theorem Rp.mono{w w':World}{S S':Nat→Prop}{v:Value}{d:D}(h:Rp w S v d)(hk:∀b,S b→w'.heap[b]? =w.heap[b]?)(hS:∀b,S b→S' b):Rp w' S' v d:=by
 induction h with
 |undef v=>exact .undef v
 |nil=>exact .nil
 |int k n h=>exact .int k n h
 |bool b=>exact .bool b
 |str s h=>exact .str s h
 |sl t xs v h=>exact .sl t xs v (aX.mono h hk hS)
 |slN t xs nl v h hn hy=>exact .slN t xs nl v (aX.mono h hk hS) hn hy
 |mp k v es b hb h=>exact .mp k v es b (hS b hb) (h.mono hk (hk b hb) hS)
 |agg vs cs hl h ih=>exact .agg vs cs hl ih
 |tup vs cs hl h ih=>exact .tup vs cs hl ih
 |iptr b off cs vs hb hc h ih=>exact .iptr b off cs vs (hS b hb) (λi d hd=>(World.cell?_of_block (hk b hb)).trans (hc i d hd)) ih
 |elt t xs i off b o c hi h=>exact .elt t xs i off b o c hi (aX.mono h hk hS)
 |clo f rs caps vs hl h ih=>exact .clo f rs caps vs hl ih
 |ifc u=>exact .ifc u
section
variable {w:World}{S:Nat→Prop}{v:Value}
theorem Rp.int_inv{k:IntKind}{n:Int}(h:Rp w S v (.int k n)):v=.int k n∧inK k n:=by cases h with|int _ _ h=>exact⟨rfl,h⟩
theorem Rp.bool_inv{b:Bool}(h:Rp w S v (.bool b)):v=.bool b:=by cases h;rfl
theorem Rp.str_inv{s:ByteArray}(h:Rp w S v (.str s)):v=.string s∧s.size≤140737488355328:=by cases h with|str _ h=>exact⟨rfl,h⟩
theorem Rp.slN_inv{t:Ty}{xs:List t.den}{nl:Bool}(h:Rp w S v (.slN t xs nl)):aX w S v xs∧(nl=false→v≠ .slice none 0 0)∧(nl=true→v=.slice none 0 0):=by cases h;exact⟨by assumption,by assumption,by assumption⟩
theorem Rp.nil_inv(h:Rp w S v .nil):v=.slice none 0 0:=by cases h;rfl
theorem Rp.sl_inv{t:Ty}{xs:List t.den}(h:Rp w S v (.sl t xs)):aX w S v xs:=by cases h with|sl _ _ _ h=>exact h
theorem Rp.mp_inv{k u:Ty}{es:List (k.den×u.den)}(h:Rp w S v (.mp k u es)):∃b,v=.map (some b)∧S b∧BE w S b k u es:=by cases h with|mp _ _ _ b hb h=>exact⟨b,rfl,hb,h⟩
theorem Rp.agg_inv{cs:List D}(h:Rp w S v (.agg cs)):∃vs,v=.agg vs∧vs.size=cs.length∧∀i d,cs[i]? =some d→Rp w S (vs.getD i Go.undef) d:=by cases h with|agg vs _ hl h=>exact⟨vs,rfl,hl,h⟩
theorem Rp.tup_inv{cs:List D}(h:Rp w S v (.tup cs)):∃vs,v=.tuple vs∧vs.size=cs.length∧∀i d,cs[i]? =some d→Rp w S (vs.getD i Go.undef) d:=by cases h with|tup vs _ hl h=>exact⟨vs,rfl,hl,h⟩
theorem Rp.iptr_inv{cs:List D}{off:Nat}(h:Rp w S v (.iptr cs off)):∃b,v=.pointer (some ⟨b,off,none⟩)∧S b∧∀i d,cs[i]? =some d→∃u,w.cell? ⟨b,i,none⟩=some u∧Rp w S u d:=by
 cases h with|iptr b _ _ vs hb hc h=>exact⟨b,rfl,hb,λi d hd=>⟨vs i,hc i d hd,h i d hd⟩⟩
theorem Rp.elt_inv{t:Ty}{xs:List t.den}{i off:Nat}(h:Rp w S v (.elt t xs i off)):∃b o c,v=.pointer (some ⟨b,o+i*t.size+off,none⟩)∧i<xs.length∧aX w S (.slice (some ⟨b,o,none⟩) xs.length c) xs:=by
 cases h with|elt _ _ _ _ b o c hi h=>exact⟨b,o,c,rfl,hi,h⟩
theorem Rp.clo_inv{f:FuncId}{rs:Option (List Ty)}{caps:List D}(h:Rp w S v (.clo f rs caps)):∃vs,v=.func (.func f) #[] vs∧vs.size=caps.length∧∀i d,caps[i]? =some d→Rp w S (vs.getD i Go.undef) d:=by
 cases h with|clo _ _ _ vs hl h=>exact⟨vs,rfl,hl,h⟩
theorem Rp.ifc_inv{u:Value}(h:Rp w S v (.ifc u)):v=u:=by cases h;rfl
theorem Rp.int_mk{n:Int}(h:yQ n):Rp w S (.int .i64 n) (.int .i64 n):=.int _ _ h
theorem Rp.iptr_mk{b off:Nat}{cs:List D}(hb:S b)(h:∀i d,cs[i]? =some d→∃u,w.cell? ⟨b,i,none⟩=some u∧Rp w S u d):Rp w S (.pointer (some ⟨b,off,none⟩)) (.iptr cs off):=
 .iptr b off cs (λi=>(w.cell? ⟨b,i,none⟩).getD default) hb (λi d hd=>by obtain⟨u,hu,_⟩:=h i d hd;rw[hu];rfl) (λi d hd=>by obtain⟨u,hu,hr⟩:=h i d hd;rw[hu];exact hr)
theorem QZ.sl{t:Ty}{v:Value}{xs:List t.den}(h:QZ w S [v] xs):Rp w S v (.sl t xs):=.sl t xs v (by
 obtain⟨A,c,rfl,_,h'⟩:=BB h;exact h')
theorem oW:(t:Ty)→ {x:t.den}→ {cs:List Value}→wK.rd w S cs x→xE (Rp w S) cs (cells t x)
 | .int,x,cs,h=>by obtain⟨rfl,h⟩:=h;exact .cons (.int_mk h) .nil
 | .bool,x,cs,(h:cs=[.bool x])=>by subst h;exact .cons (.bool x) .nil
 | .str,x,cs,h=>by obtain⟨rfl,h⟩:=h;exact .cons (.str x h) .nil
 | .tok,x,cs,h=>by obtain⟨rfl,h1,h2,h3⟩:=h;exact .cons (.int_mk h1) (.cons (.int_mk h2) (.cons (.str _ h3) .nil))
 | .lit,x,cs,h=>by obtain⟨rfl,h1,h2,h3⟩:=h;exact .cons (.int_mk h1) (.cons (.int_mk h2) (.cons (.int_mk h3) .nil))
 | .var,x,cs,h=>by obtain⟨rfl,h1,h2,h3⟩:=h;exact .cons (.str _ h1) (.cons (.int_mk h2) (.cons (.int_mk h3) .nil))
 | .con,x,cs,h=>by obtain⟨v1,v2,v3,v4,rfl,a,b,h1,h2,h3,h4⟩:=h;exact .cons (.int_mk a) (.cons (QZ.sl (t:=.int) h1) (.cons (QZ.sl (t:=.int) h2) (.cons (.int_mk b) (.cons (QZ.sl (t:=.list .int) h3) (.cons (QZ.sl (t:=.lit) h4) .nil)))))
 | .mdl,x,cs,h=>by obtain⟨v1,v2,rfl,a,b,h1,h2⟩:=h;exact .cons (QZ.sl (t:=.var) h1) (.cons (QZ.sl (t:=.con) h2) (.cons (.int_mk a) (.cons (.int_mk b) .nil)))
 | .step,x,cs,h=>by obtain⟨v,rfl,a,b,h1⟩:=h;exact .cons (.int_mk a) (.cons (.int_mk b) (.cons (QZ.sl (t:=.lit) h1) .nil))
 | .term,x,cs,h=>by obtain⟨rfl,h1,h2⟩:=h;exact .cons (.int_mk h1) (.cons (.int_mk h2) .nil)
 | .ans,x,cs,h=>by obtain⟨v1,v2,rfl,a,h1,h2⟩:=h;exact .cons (.int_mk a) (.cons (QZ.sl (t:=.int) h1) (.cons (QZ.sl (t:=.step) h2) .nil))
 | .list t,xs,cs,h=>by obtain⟨A,c,rfl,h⟩:=h;exact .cons (.sl t xs _ ⟨_,rfl,A,c,rfl,h⟩) .nil
 | .pr a b,x,cs,h=>by obtain⟨c1,c2,rfl,h1,h2⟩:=h;exact(oW a h1).append (oW b h2)
 | .byte,x,cs,(h:cs=[.int .u8 (x.toNat:Int)])=>by subst h;exact .cons (.int _ _ ⟨by omega,by have:=x.toNat_lt;omega⟩) .nil
theorem Zu{t:Ty}{d:D}{xs:List t.den}(h:MF t d=some xs)(hr:Rp w S v d):QZ w S [v] xs:=by
 cases d<;>simp only[MF]at h
 case sl t' ys=>
  split at h
  ·rename_i e;subst e;injection h with h;subst h;exact BC hr.sl_inv
  ·cases h
 case nil=>
  injection h with h;subst h
  rw[hr.nil_inv];exact⟨none,0,rfl,by simp,by simp,by simp,λ_=>rfl,λhn=>absurd hn (by simp)⟩
 all_goals cases h
theorem TR(t:Ty){ds:List D}{x:t.den}{cs:List Value}(h:ofD t ds=some x)(hr:xE (Rp w S) cs ds):wK.rd w S cs x:=by
 unfold ofD at h
 split at h
 case h_1=>injection h with h;subst h;obtain _|⟨h1,_|_⟩:=hr;obtain⟨rfl,g1⟩:=h1.int_inv;exact⟨rfl,g1⟩
 case h_2=>injection h with h;subst h;obtain _|⟨h1,_|_⟩:=hr;rw[h1.bool_inv];rfl
 case h_3=>injection h with h;subst h;obtain _|⟨h1,_|_⟩:=hr;obtain⟨rfl,g1⟩:=h1.str_inv;exact⟨rfl,g1⟩
 case h_4=>injection h with h;subst h;obtain _|⟨h1,_|⟨h2,_|⟨h3,_|_⟩⟩⟩:=hr;obtain⟨rfl,g1⟩:=h1.int_inv;obtain⟨rfl,g2⟩:=h2.int_inv;obtain⟨rfl,g3⟩:=h3.str_inv;exact⟨rfl,g1,g2,g3⟩
 case h_5=>injection h with h;subst h;obtain _|⟨h1,_|⟨h2,_|⟨h3,_|_⟩⟩⟩:=hr;obtain⟨rfl,g1⟩:=h1.int_inv;obtain⟨rfl,g2⟩:=h2.int_inv;obtain⟨rfl,g3⟩:=h3.int_inv;exact⟨rfl,g1,g2,g3⟩
 case h_6=>injection h with h;subst h;obtain _|⟨h1,_|⟨h2,_|⟨h3,_|_⟩⟩⟩:=hr;obtain⟨rfl,g1⟩:=h1.str_inv;obtain⟨rfl,g2⟩:=h2.int_inv;obtain⟨rfl,g3⟩:=h3.int_inv;exact⟨rfl,g1,g2,g3⟩
 case h_7=>
  obtain _|⟨h1,_|⟨h2,_|⟨h3,_|⟨h4,_|⟨h5,_|⟨h6,_|_⟩⟩⟩⟩⟩⟩:=hr
  obtain⟨rfl,g1⟩:=h1.int_inv;obtain⟨rfl,g4⟩:=h4.int_inv;split at h
  ·rename_i q2 q3 q5 q6;injection h with h;subst h
   exact⟨_,_,_,_,rfl,g1,g4,Zu q2 h2,Zu q3 h3,Zu q5 h5,Zu q6 h6⟩
  ·cases h
 case h_8=>
  obtain _|⟨h1,_|⟨h2,_|⟨h3,_|⟨h4,_|_⟩⟩⟩⟩:=hr
  obtain⟨rfl,g3⟩:=h3.int_inv;obtain⟨rfl,g4⟩:=h4.int_inv;split at h
  ·rename_i q1 q2;injection h with h;subst h
   exact⟨_,_,rfl,g3,g4,Zu q1 h1,Zu q2 h2⟩
  ·cases h
 case h_9=>
  obtain _|⟨h1,_|⟨h2,_|⟨h3,_|_⟩⟩⟩:=hr
  obtain⟨rfl,g1⟩:=h1.int_inv;obtain⟨rfl,g2⟩:=h2.int_inv;split at h
  ·rename_i q1;injection h with h;subst h
   exact⟨_,rfl,g1,g2,Zu q1 h3⟩
  ·cases h
 case h_10=>injection h with h;subst h;obtain _|⟨h1,_|⟨h2,_|_⟩⟩:=hr;obtain⟨rfl,g1⟩:=h1.int_inv;obtain⟨rfl,g2⟩:=h2.int_inv;exact⟨rfl,g1,g2⟩
 case h_11=>
  obtain _|⟨h1,_|⟨h2,_|⟨h3,_|_⟩⟩⟩:=hr
  obtain⟨rfl,g1⟩:=h1.int_inv;split at h
  ·rename_i q1 q2;injection h with h;subst h
   exact⟨_,_,rfl,g1,Zu q1 h2,Zu q2 h3⟩
  ·cases h
 case h_12=>
  obtain _|⟨h1,_|_⟩:=hr
  exact Zu h h1
 case h_13 a b=>
  split at h
  ·rename_i x y q1 q2
   injection h with h;subst h
   obtain⟨e1,e2⟩:=hr.split a.size;exact⟨_,_,(List.take_append_drop a.size cs).symm,TR a q1 e1,TR b q2 e2⟩
  ·cases h
 case h_14 n=>
  injection h with h;subst h
  obtain _|⟨h1,_|_⟩:=hr
  obtain⟨rfl,g1,g2⟩:=h1.int_inv;show _=[_]
  rw[UInt8.toNat_ofNat',Nat.mod_eq_of_lt (by omega),Int.toNat_of_nonneg g1]
 case h_15=>cases h
end
inductive yI
 |cells (ds:List D)
 |row (e:TypeId) (t:Ty) (xs:List t.den)
 |mp (k v:Ty) (es:List (k.den×v.den))
 |val (ds:List D)
structure St where
 fr:List (Nat×D)
 hp:List (Nat×yI)
def zV{α:Type}(k:Nat):List (Nat×α)→Option α
 |[]=>none
 |(i,a)::r=>bif Nat.beq i k then some a else zV k r
def D.or:Option D→D
 |some d=>d
 |none=> .undef
def St.get(σ:St)(i:Nat):D:=D.or (zV i σ.fr)
def St.ob(σ:St)(k:Nat):Option yI:=zV k σ.hp
def St.put(σ:St)(i:Nat)(d:D):St:=⟨(i,d)::σ.fr,σ.hp⟩
def St.putO(σ:St):Option Nat→D→St
 |some i,d=>σ.put i d
 |none,_=>σ
def D.ref:D→Option Nat
 | .own k=>some k
 | .ownN k=>some k
 | .ptr k _=>some k
 | .oelt k _ _ _=>some k
 | .clp _ _ k _=>some k
 | .slf k=>some k
 |_=>none
def D.kill(k:Nat)(d:D):D:=match d.ref with
 |some j=>bif Nat.beq j k then .undef else d
 |none=>d
def yI.map(f:D→D):yI→yI
 | .cells ds=> .cells (ds.map f)
 | .val ds=> .val (ds.map f)
 |o=>o
def mZ:D→Bool
 | .agg _| .tup _| .undef| .ifc _| .slf _=>false
 |_=>true
def fE:D→Bool
 | .slf _=>true
 | .ifc (.pointer none)=>true
 |_=>false
def Ym:List D→Bool
 |d::_=>fE d
 |[]=>false
def BF:List (Nat×Nat):=[(99,2),(101,6)]
def memT:List (Nat×Nat)→Nat→Nat→Bool
 |[],_,_=>false
 |i::r,k,n=>bif Nat.beq i.1 k&&Nat.beq i.2 n then true else memT r k n
def tyC(T:TypeId)(ds:List D):Prop:=Ym ds=true→memT BF T ds.length=true
theorem zaU{f:D→D}(hf:∀d,fE (f d)=true→fE d=true):∀ {ds:List D},Ym (ds.map f)=true→Ym ds=true
 |[],h=>h
 |d::r,h=>hf d h
theorem OX{f:D→D}(hf:∀d,fE (f d)=true→fE d=true){T:TypeId}{ds:List D}(h:tyC T ds):tyC T (ds.map f):=λh'=>by rw[List.length_map];exact h (zaU hf h')
theorem Pw{ds:List D}{i:Nat}{d:D}(h:Ym (ds.set i d)=true):Ym ds=true∨(i=0∧fE d=true):=by
 cases ds with
 |nil=>exact .inl h
 |cons a r=>
  cases i with
  |zero=>exact .inr ⟨rfl,h⟩
  |succ i=>exact .inl h
def yI.parts:yI→List D
 | .cells ds=>ds
 | .val ds=>ds
 |_=>[]
def St.map(f:D→D)(σ:St):St:=⟨σ.fr.map λx=>(x.1,f x.2),σ.hp.map λx=>(x.1,x.2.map f)⟩
def drop{α:Type}(k:Nat):List (Nat×α)→List (Nat×α)
 |[]=>[]
 |(i,a)::r=>bif Nat.beq i k then drop k r else(i,a)::drop k r
def St.mk'(σ:St)(k:Nat)(o:yI):St:=⟨(σ.map (D.kill k)).fr,(k,o)::drop k (σ.map (D.kill k)).hp⟩
def St.setOb(σ:St)(k:Nat)(o:yI):St:=⟨σ.fr,(k,o)::drop k σ.hp⟩
def sO(k:Nat):yI→D→D
 | .cells ds,.ptr j off=>bif Nat.beq j k then .iptr ds off else .ptr j off
 | .row _ t xs,.own j=>bif Nat.beq j k then .sl t xs else .own j
 | .row _ t xs,.ownN j=>bif Nat.beq j k then .slN t xs false else .ownN j
 | .row _ t xs,.oelt j sz i off=>bif Nat.beq j k then bif Nat.beq sz t.size then .elt t xs i off else .undef else .oelt j sz i off
 | .val ds,.own j=>bif Nat.beq j k then .agg ds else .own j
 | .mp kt vt es,.own j=>bif Nat.beq j k then .mp kt vt es else .own j
 |_,d=>d.kill k
def St.pub(σ:St)(k:Nat)(o:yI):St:=⟨(σ.map (sO k o)).fr,drop k (σ.map (sO k o)).hp⟩
section
variable {α:Type}
theorem yU{i k:Nat}:Nat.beq i k=true↔i=k:=Iff.of_eq Nat.beq_eq
theorem xM(k i:Nat)(a:α)(r:List (Nat×α)):zV k ((i,a)::r)=if i=k then some a else zV k r:=by
 show(bif Nat.beq i k then some a else zV k r)=_
 by_cases h:i=k
 ·rw[yU.2 h,cond_true,if_pos h]
 ·have:Nat.beq i k=false:=by
   cases hb:Nat.beq i k with
   |true=>exact absurd (yU.1 hb) h
   |false=>rfl
  rw[this,cond_false,if_neg h]
theorem kI(f:α→α)(k:Nat):∀l:List (Nat×α),zV k (l.map λx=>(x.1,f x.2))=(zV k l).map f
 |[]=>rfl
 |(i,a)::r=>by
  rw[List.map_cons,xM,xM,kI f k r];split<;>rfl
theorem rQ(k j:Nat):∀l:List (Nat×α),zV j (drop k l)=if k=j then none else zV j l
 |[]=>by simp[drop,zV]
 |(i,a)::r=>by
  show zV j (bif Nat.beq i k then drop k r else(i,a)::drop k r)=_
  cases hb:Nat.beq i k with
  |true=>
   have:=yU.1 hb;subst this;rw[cond_true,rQ i j r,xM];split<;>simp_all
  |false=>
   rw[cond_false,xM,xM,rQ k j r];have hik:i≠k:=λh=>by rw[yU.2 h]at hb;cases hb
   by_cases h1:i=j
   ·rw[if_pos h1,if_pos h1,if_neg (by omega)]
   ·rw[if_neg h1,if_neg h1]
end
def Rd(w:World)(S:Nat→Prop)(pl:Nat→Value)(v:Value)(d:D):Prop:=
 match d with
 | .own k=>v=pl k
 | .ownN k=>v=pl k∧v≠ .slice none 0 0
 | .ptr k off=>∃b,pl k=.pointer (some ⟨b,0,none⟩)∧v=.pointer (some ⟨b,off,none⟩)
 | .oelt k sz i off=>∃b n c,pl k=.slice (some ⟨b,0,none⟩) n c∧i<n∧v=.pointer (some ⟨b,i*sz+off,none⟩)
 | .slf k=>v=.pointer none∨∃b,pl k=.pointer (some ⟨b,0,none⟩)∧v=.pointer (some ⟨b,0,none⟩)
 | .clp f bd k off=>∃b,pl k=.pointer (some ⟨b,0,none⟩)∧v=.func (.func f) (bif bd then #[.pointer (some ⟨b,off,none⟩)]else #[]) (bif bd then #[]else #[.pointer (some ⟨b,off,none⟩)])
 |d=>Rp w S v d
def qK:Value→Option Nat
 | .pointer (some a)=>some a.block
 | .slice (some a) _ _=>some a.block
 | .map (some b)=>some b
 |_=>none
def lim:Nat:=140737488355328
def ZW(w:World)(S:Nat→Prop)(pl:Nat→Value)(p:Value):yI→Prop
 | .cells ds=>∃b vs T,p=.pointer (some ⟨b,0,none⟩)∧w.heap[b]? =some (.cells vs T (0,0))∧vs.size=ds.length∧
   (∀i d,ds[i]? =some d→Rd w S pl (vs.getD i undef) d)∧tyC T ds
 | .row e t xs=>xs.length*t.bytes≤lim∧∃css:List (List Value),css.length=xs.length∧w.ownsRow 0 e t.size p xs.length css.flatten∧(∀cs∈css,cs.length=t.size)∧
   ∀(i:Nat) (x:t.den) (cs:List Value),xs[i]? =some x→css[i]? =some cs→wK.rd w S cs x
 | .mp kt vt es=>∃b,p=.map (some b)∧BE w S b kt vt es
 | .val ds=>∃vs,p=.agg vs∧vs.size=ds.length∧∀i d,ds[i]? =some d→Rd w S pl (vs.getD i undef) d∧(mZ d=true→(vs.getD i undef).oneCell'=true)
def stabK(k:Nat):Bool:=Nat.ble 1000 k&&Nat.blt k 2000
structure XW where
 w:World
 S:Nat→Prop
 O:Nat→Prop
 pl:Nat→Value
structure sP (B:Nat)(O:Nat→Prop)(w w':World):Prop where
 os:w'.os=w.os
 tape:w'.tape=w.tape
 output:w'.output=w.output
 size:w.heap.size≤w'.heap.size
 block:∀k,k<B→¬O k→w'.heap[k]? =w.heap[k]?
theorem sP.of{B:Nat}{O:Nat→Prop}{w w':World}(h:Below B w w'):sP B O w w':=⟨h.os,h.tape,h.output,h.size,λk hk _=>h.block k hk⟩
theorem sP.trans{B:Nat}{O:Nat→Prop}{a b c:World}(h:sP B O a b)(k:sP B O b c):sP B O a c:=
 ⟨k.os.trans h.os,k.tape.trans h.tape,k.output.trans h.output,Nat.le_trans h.size k.size,λi hi ho=>(k.block i hi ho).trans (h.block i hi ho)⟩
theorem sP.below{B:Nat}{O:Nat→Prop}{w w':World}(h:sP B O w w')(hO:∀b,¬O b):Below B w w':=⟨h.os,h.tape,h.output,h.size,λk hk=>h.block k hk (hO k)⟩
def EJ(P:Program)(w:World)(O:Nat→Prop):Prop:=∀g,P.globalNamed "internal/strconv.uint64pow10" =some g→Lib.TabIs P w "internal/strconv.uint64pow10" .u64 Lib.pow10Tab∧¬O g
theorem EJ.step{P:Program}{w w':World}{O O':Nat→Prop}(h:EJ P w O)(hb:sP w.heap.size O w w')(hO:∀b,O' b→O b∨w.heap.size≤b):EJ P w' O':=λg hg=>by
 obtain⟨h1,h2⟩:=h g hg
 have hlt:g<w.heap.size:=by
  rcases Nat.lt_or_ge g w.heap.size with hl|hl
  ·exact hl
  ·unfold Lib.TabIs World.var? at h1
   rw[hg]at h1
   simp only[Option.bind_some,Array.getElem?_eq_none hl]at h1
   cases h1
 refine⟨?_,λho=>(hO g ho).elim h2 λhge=>by omega⟩
 unfold Lib.TabIs World.var? at h1⊢
 rw[hg]at h1⊢
 simp only[Option.bind_some]at h1⊢
 rw[hb.block g hlt h2];exact h1
theorem EJ.sub{P:Program}{w:World}{O O':Nat→Prop}(h:EJ P w O)(hO:∀b,O' b→O b):EJ P w O':=λg hg=>⟨(h g hg).1,λho=>(h g hg).2 (hO g ho)⟩
structure tY (P:Program)(b0:XW)(N:Nat)(σ:St)(a:Act)(w:World)(S:Nat→Prop)(pl:Nat→Value):Prop where
 dz:a.defers=[]
 sz:a.tmps.size=N
 fr:∀i,Rd w S pl (a.tmps.getD i undef) (σ.get i)
 hp:∀k o,zV k σ.hp=some o→ZW w S pl (pl k) o
 lt:∀b,S b→b<w.heap.size
 src:∀b,S b→b0.S b∨b0.O b∨b0.w.heap.size≤b
 priv:∀k o b,zV k σ.hp=some o→qK (pl k)=some b→(b0.O b∨b0.w.heap.size≤b)∧b<w.heap.size∧¬S b
 inj:∀k k' o o' b,zV k σ.hp=some o→zV k' σ.hp=some o'→qK (pl k)=some b→qK (pl k')=some b→k=k'
 below:sP b0.w.heap.size b0.O b0.w w
 stay:∀k,stabK k=true→pl k=b0.pl k
 gok:EJ P b0.w b0.O
theorem tY.gnow{P:Program}{b0:XW}{N:Nat}{σ:St}{a:Act}{w:World}{S:Nat→Prop}{pl:Nat→Value}(m:tY P b0 N σ a w S pl){O:Nat→Prop}(hO:∀b,O b→b0.O b∨b0.w.heap.size≤b):EJ P w O:=m.gok.step m.below hO
theorem RF{k:Nat}{d:D}(h:mZ (d.kill k)=true):mZ d=true:=by
 cases d<;>first|rfl|exact h|(simp only[D.kill,D.ref]at h;revert h;cases Nat.beq _ k<;>exact id)
theorem MG{k:Nat}{d:D}(h:fE (d.kill k)=true):fE d=true:=by
 cases d<;>first|rfl|exact h|(simp only[D.kill,D.ref]at h;revert h;cases Nat.beq _ k<;>exact id)
theorem D.kill_ne{k:Nat}{d:D}(h:d.ref≠some k):d.kill k=d:=by
 unfold D.kill;cases hr:d.ref with
 |none=>rfl
 |some j=>
  simp only;cases hb:Nat.beq j k with
  |true=>rw[hr,yU.1 hb]at h;exact absurd rfl h
  |false=>rfl
theorem D.kill_eq{k:Nat}{d:D}(h:d.ref=some k):d.kill k=.undef:=by
 unfold D.kill;rw[h];simp only[yU.2 (rfl:k=k),cond_true]
section
variable {P:Program}{b0:XW}{w w':World}{S S':Nat→Prop}{pl pl':Nat→Value}{N:Nat}{σ:St}{a:Act}{v:Value}{d:D}
theorem Rd.flat(h:Rd w S pl v d)(hd:d.ref=none):Rp w S v d:=by
 cases d<;>first|exact h|(simp[D.ref]at hd)
theorem Rp.rd(h:Rp w S v d):Rd w S pl v d:=by
 cases d<;>first|exact h|cases h
theorem Rd.mono(h:Rd w S pl v d)(hk:∀b,S b→w'.heap[b]? =w.heap[b]?)(hS:∀b,S b→S' b)(hp:∀k,d.ref=some k→pl' k=pl k):Rd w' S' pl' v d:=by
 cases hr:d.ref with
 |none=>exact((h.flat hr).mono hk hS).rd
 |some k=>
  have hp:=hp k hr;cases d<;>simp only[D.ref,Option.some.injEq,reduceCtorEq]at hr
  all_goals subst hr;simp only[Rd]at h⊢;rw[hp];exact h
theorem Rd.kill(h:Rd w S pl v d)(k:Nat):Rd w S pl v (d.kill k):=by
 by_cases hr:d.ref=some k
 ·rw[D.kill_eq hr];exact Rp.rd (.undef v)
 ·rw[D.kill_ne hr];exact h
theorem Xb(d:D)(k:Nat):(d.kill k).ref≠some k:=by
 by_cases hr:d.ref=some k
 ·rw[D.kill_eq hr];simp[D.ref]
 ·rw[D.kill_ne hr];exact hr
theorem oC:Rd w S pl v .undef:=Rp.rd (.undef v)
theorem ZW.mono{p:Value}{o:yI}(h:ZW w S pl p o)(hk:∀b,S b→w'.heap[b]? =w.heap[b]?)(hb:∀b,qK p=some b→w'.heap[b]? =w.heap[b]?)(hS:∀b,S b→S' b)
  (hp:∀d k,d∈o.parts→d.ref=some k→pl' k=pl k):ZW w' S' pl' p o:=by
 cases o with
 |cells ds=>
  obtain⟨b,vs,T,rfl,h1,h2,h3,h4⟩:=h;exact⟨b,vs,T,rfl,by rw[hb b rfl];exact h1,h2,λi d hd=>(h3 i d hd).mono hk hS λk hr=>hp d k (List.mem_of_getElem? hd) hr,h4⟩
 |val ds=>
  obtain⟨vs,rfl,h2,h3⟩:=h;exact⟨vs,rfl,h2,λi d hd=>⟨(h3 i d hd).1.mono hk hS λk hr=>hp d k (List.mem_of_getElem? hd) hr,(h3 i d hd).2⟩⟩
 |row e t xs=>
  obtain⟨h0,css,h1,h2,h3,h4⟩:=h;refine⟨h0,css,h1,⟨h2.1,?_⟩,h3,λi x cs hx hc=>wK.mono (h4 i x cs hx hc) hk hS⟩
  rcases h2.2 with hn|⟨g,cap,cur,rfl,hb',hg,rest⟩
  ·exact .inl hn
  ·exact .inr ⟨g,cap,cur,rfl,hb',by rw[hb g rfl];exact hg,rest⟩
 |mp kt vt es=>
  obtain⟨b,rfl,h⟩:=h;exact⟨b,rfl,h.mono hk (hb b rfl) hS⟩
theorem St.get_put(σ:St)(i j:Nat)(d:D):(σ.put i d).get j=if i=j then d else σ.get j:=by
 unfold St.get St.put;rw[xM];split<;>rfl
theorem St.get_map(f:D→D)(hf:f .undef=.undef)(σ:St)(i:Nat):(σ.map f).get i=f (σ.get i):=by
 unfold St.get St.map;rw[kI];cases zV i σ.fr<;>simp[D.or,hf]
theorem tY.put(m:tY P b0 N σ a w S pl){i:Nat}(hi:i<N)(h:Rd w S pl v d):tY P b0 N (σ.put i d) {a with tmps:=a.tmps.setIfInBounds i v} w S pl where
 dz:=m.dz
 sz:=by simpa using m.sz
 fr:=λj=>by
  rw[St.get_put]
  by_cases hj:i=j
  ·subst hj;rw[if_pos rfl];rw[Array.getD_eq_getD_getElem?];simpa[m.sz,hi]using h
  ·rw[if_neg hj,Array.getD_eq_getD_getElem?,Array.getElem?_setIfInBounds_ne hj,←Array.getD_eq_getD_getElem?];exact m.fr j
 hp:=m.hp
 lt:=m.lt
 src:=m.src
 priv:=m.priv
 inj:=m.inj
 below:=m.below
 stay:=m.stay
 gok:=m.gok
theorem tY.putO(m:tY P b0 N σ a w S pl){dst:Option Nat}(hi:∀i,dst=some i→i<N)(h:Rd w S pl v d):tY P b0 N (σ.putO dst d) (a.put dst v) w S pl:=by
 cases dst with
 |none=>exact m
 |some i=>exact m.put (hi i rfl) h
theorem tY.world(m:tY P b0 N σ a w S pl)(hS:∀b,S b→w'.heap[b]? =w.heap[b]?)(hP:∀k o b,zV k σ.hp=some o→qK (pl k)=some b→w'.heap[b]? =w.heap[b]?)
  (hs:w.heap.size≤w'.heap.size) (hb:sP b0.w.heap.size b0.O b0.w w'):tY P b0 N σ a w' S pl where
 dz:=m.dz
 sz:=m.sz
 fr:=λi=>(m.fr i).mono hS (λ_ h=>h) λ_ _=>rfl
 hp:=λk o h=>(m.hp k o h).mono hS (λb hb=>hP k o b h hb) (λ_ h=>h) λ_ _ _ _=>rfl
 lt:=λb h=>Nat.lt_of_lt_of_le (m.lt b h) hs
 src:=m.src
 priv:=λk o b h h'=>⟨(m.priv k o b h h').1,Nat.lt_of_lt_of_le (m.priv k o b h h').2.1 hs,(m.priv k o b h h').2.2⟩
 inj:=m.inj
 below:=hb
 stay:=m.stay
 gok:=m.gok
theorem tY.later(m:tY P b0 N σ a w S pl)(hb:Below w.heap.size w w'):tY P b0 N σ a w' S pl:=
 m.world (λb h=>hb.block b (m.lt b h)) (λk o b h h'=>hb.block b (m.priv k o b h h').2.1) hb.size (m.below.trans (.of (hb.mono m.below.size)))
theorem tY.more(m:tY P b0 N σ a w S pl)(hS:∀b,S b→S' b)(h1:∀b,S' b→b<w.heap.size)(h2:∀b,S' b→b0.S b∨b0.O b∨b0.w.heap.size≤b)(h3:∀k o b,zV k σ.hp=some o→qK (pl k)=some b→¬S' b):tY P b0 N σ a w S' pl where
 dz:=m.dz
 sz:=m.sz
 fr:=λi=>(m.fr i).mono (λ_ _=>rfl) hS λ_ _=>rfl
 hp:=λk o h=>(m.hp k o h).mono (λ_ _=>rfl) (λ_ _=>rfl) hS λ_ _ _ _=>rfl
 lt:=h1
 src:=h2
 priv:=λk o b h h'=>⟨(m.priv k o b h h').1,(m.priv k o b h h').2.1,h3 k o b h h'⟩
 inj:=m.inj
 below:=m.below
 stay:=m.stay
 gok:=m.gok
theorem iW{α:Type}{k:Nat}{o:α}:∀ {l:List (Nat×α)},zV k l=some o→(k,o)∈l
 |[],h=>by cases h
 |(i,x)::r,h=>by
  rw[xM]at h
  split at h
  ·rename_i e;injection h with h;subst h e;exact List.mem_cons_self
  ·exact List.mem_cons_of_mem _ (iW h)
theorem tY.mk'(m:tY P b0 N σ a w S pl)(k:Nat)(hst:stabK k=false)(o:yI)(p:Value)(hlater:Below w.heap.size w w')(hp:∀b,qK p=some b→w.heap.size≤b∧b<w'.heap.size)
  (ho:∀pl':Nat→Value,(∀j,j≠k→pl' j=pl j)→ZW w' S pl' p o):tY P b0 N (σ.mk' k o) a w' S (λj=>if j=k then p else pl j):=by
 have m':=m.later hlater;have hne:∀j,j≠k→(λj=>if j=k then p else pl j) j=pl j:=λj hj=>if_neg hj
 have hold:∀j o',zV j (σ.mk' k o).hp=some o'→j≠k→∃o₀,zV j σ.hp=some o₀∧o'=o₀.map (D.kill k):=by
  intro j o' h hj;simp only[St.mk',xM,rQ,if_neg (Ne.symm hj)]at h
  simp only[St.map,kI]at h
  cases ho:zV j σ.hp with
  |none=>rw[ho]at h;cases h
  |some o₀=>rw[ho]at h;injection h with h;exact⟨o₀,rfl,h.symm⟩
 refine⟨m.dz,m.sz,λi=> ?_,λj o' h=> ?_,m'.lt,m'.src,λj o' b h hb=> ?_,λj j' o1 o2 b h1 h2 hb1 hb2=> ?_,m'.below,λj hj=>(hne j λe=>by rw[e,hst]at hj;cases hj).trans (m.stay j hj),m.gok⟩
 ·have e:(σ.mk' k o).get i=(σ.get i).kill k:=by
   show D.or (zV i (σ.map (D.kill k)).fr)=_
   exact St.get_map _ rfl σ i
  rw[e];exact((m'.fr i).kill k).mono (λ_ _=>rfl) (λ_ h=>h) λj hj=>hne j λe=>Xb _ _ (e▸hj)
 ·by_cases hj:j=k
  ·subst hj
   simp only[St.mk',xM,if_pos]at h
   injection h with h;subst h
   rw[if_pos rfl];exact ho _ hne
  ·obtain⟨o₀,h0,rfl⟩:=hold j o' h hj
   rw[if_neg hj];have h1:=m'.hp j o₀ h0;cases o₀ with
   |row e t xs=>exact ZW.mono (pl:=pl) h1 (λ_ _=>rfl) (λ_ _=>rfl) (λ_ h=>h) λ_ _ e=>by cases e
   |mp kt vt es=>exact ZW.mono (pl:=pl) h1 (λ_ _=>rfl) (λ_ _=>rfl) (λ_ h=>h) λ_ _ e=>by cases e
   |val ds=>
    obtain⟨vs,e1,e3,e4⟩:=h1;refine⟨vs,e1,by simpa using e3,λi d hd=> ?_⟩
    simp only[List.getElem?_map,Option.map_eq_some_iff]at hd
    obtain⟨d0,hd0,rfl⟩:=hd;exact⟨((e4 i d0 hd0).1.kill k).mono (λ_ _=>rfl) (λ_ h=>h) λj hj=>hne j λe=>Xb _ _ (e▸hj),λhc=>(e4 i d0 hd0).2 (RF hc)⟩
   |cells ds=>
    obtain⟨b,vs,T,e1,e2,e3,e4,e5⟩:=h1;refine⟨b,vs,T,e1,e2,by simpa using e3,λi d hd=> ?_,OX (λ_=>MG) e5⟩
    simp only[List.getElem?_map,Option.map_eq_some_iff]at hd
    obtain⟨d0,hd0,rfl⟩:=hd;exact((e4 i d0 hd0).kill k).mono (λ_ _=>rfl) (λ_ h=>h) λj hj=>hne j λe=>Xb _ _ (e▸hj)
 ·by_cases hj:j=k
  ·rw[if_pos hj]at hb
   obtain⟨hb1,hb2⟩:=hp b hb;exact⟨.inr (Nat.le_trans m.below.size hb1),hb2,λhs=>by have:=m.lt b hs;omega⟩
  ·rw[if_neg hj]at hb
   obtain⟨o₀,h0,_⟩:=hold j o' h hj;exact m'.priv j o₀ b h0 hb
 ·by_cases hj:j=k<;>by_cases hj':j'=k
  ·rw[hj,hj']
  ·rw[if_pos hj]at hb1;rw[if_neg hj']at hb2
   obtain⟨o₀,h0,_⟩:=hold j' o2 h2 hj';have:=(m.priv j' o₀ b h0 hb2).2.1;have:=(hp b hb1).1;omega
  ·rw[if_neg hj]at hb1;rw[if_pos hj']at hb2
   obtain⟨o₀,h0,_⟩:=hold j o1 h1 hj;have:=(m.priv j o₀ b h0 hb1).2.1;have:=(hp b hb2).1;omega
  ·rw[if_neg hj]at hb1;rw[if_neg hj']at hb2
   obtain⟨p1,h1',_⟩:=hold j o1 h1 hj;obtain⟨p2,h2',_⟩:=hold j' o2 h2 hj';exact m.inj j j' p1 p2 b h1' h2' hb1 hb2
end
def yI.flat:yI→Prop
 | .cells ds=>∀d∈ds,d.ref=none
 | .row _ _ _=>True
 | .mp _ _ _=>True
 | .val ds=>∀d∈ds,d.ref=none
def St.forget(σ:St)(k:Nat):St:=⟨(σ.map (D.kill k)).fr,drop k (σ.map (D.kill k)).hp⟩
def R3(pl:Nat→Value)(k:Nat)(p:Value):Nat→Value:=λj=>if j=k then p else pl j
section
variable {P:Program}{b0:XW}{w w':World}{S S':Nat→Prop}{pl pl':Nat→Value}{N:Nat}{σ:St}{a:Act}{v:Value}{d:D}
theorem Yz{p:Value}{e:TypeId}{t:Ty}{xs:List t.den}(h:ZW w S pl p (.row e t xs)):aX w (λb=>S b∨qK p=some b) p xs:=by
 obtain⟨h0,css,h3,h4,h5,h6⟩:=h;rcases h4.2 with⟨rfl,hn⟩|⟨g,cap,cur,rfl,_,hg,hcap,hmax,hcur,htake⟩
 ·obtain rfl:=List.eq_nil_of_length_eq_zero hn
  exact⟨[.slice none 0 0],rfl,none,0,rfl,by simp,by simp,by simp,λ_=>rfl,λhn=>absurd hn (by simp)⟩
 ·refine⟨[_],rfl,some ⟨g,0,none⟩,cap,rfl,by rw[←Ty.bytes_eq];exact h0,hcap,hmax,(λe=>by cases e),λhn=> ?_⟩
  refine⟨g,0,rfl,.inr rfl,λi x hx=> ?_⟩
  have hi:i<xs.length:=(List.getElem?_eq_some_iff.1 hx).1;have hc:css[i]? =some (css[i]'(by omega)):=List.getElem?_eq_getElem (by omega)
  refine⟨_,wK.mono (h6 i x _ hx hc) (λ_ _=>rfl) (λb hb=> .inl hb),λj u hu=> ?_⟩
  have hf:=J8 css h5 i j _ u hc hu;have:=h4.cells (g:=g) rfl _ _ hf;rw[←this,Ty.size_eq];unfold Addr.add;split
  ·rename_i e;simp[e]
  ·simp
theorem dF{j k:Nat}(h:j≠k):Nat.beq j k=false:=by
 cases hb:Nat.beq j k with
 |true=>exact absurd (yU.1 hb) h
 |false=>rfl
theorem OY{k:Nat}{o:yI}{d:D}(h:d.ref≠some k):sO k o d=d:=by
 cases d
 case own j=>have hb:=dF (λe:j=k=>h (by rw[e];rfl));cases o<;>simp[sO,D.kill,D.ref,hb]
 case ptr j off=>have hb:=dF (λe:j=k=>h (by rw[e];rfl));cases o<;>simp[sO,D.kill,D.ref,hb]
 case oelt j sz i off=>have hb:=dF (λe:j=k=>h (by rw[e];rfl));cases o<;>simp[sO,D.kill,D.ref,hb]
 case ownN j=>have hb:=dF (λe:j=k=>h (by rw[e];rfl));cases o<;>simp[sO,D.kill,D.ref,hb]
 case slf j=>have hb:=dF (λe:j=k=>h (by rw[e];rfl));cases o<;>simp[sO,D.kill,D.ref,hb]
 case clp f bd j off=>have hb:=dF (λe:j=k=>h (by rw[e];rfl));cases o<;>simp[sO,D.kill,D.ref,hb]
 all_goals cases o<;>rfl
theorem BG{k:Nat}{o:yI}{d:D}(h:mZ (sO k o d)=true):mZ d=true:=by
 cases d<;>first|rfl|(cases o<;>first|exact h|exact RF h)
theorem BH{k:Nat}{o:yI}{d:D}(h:fE (sO k o d)=true):fE d=true:=by
 cases d<;>first|rfl|(cases o<;>first|exact h|exact MG h|(simp only[sO]at h;revert h;cases Nat.beq _ k<;>first|exact id|exact λh=>(by cases h)|(rw[cond_true];cases Nat.beq _ _<;>exact λh=>(by cases h))))
theorem RG{k:Nat}{o:yI}(ho:ZW w S pl (pl k) o)(hf:o.flat)(h:Rd w S pl v d):Rd w (λb=>S b∨qK (pl k)=some b) pl v (sO k o d):=by
 by_cases hr:d.ref=some k
 ·cases o with
  |cells ds=>
   obtain⟨b,vs,T,e1,e2,e3,e4,_⟩:=ho;cases d<;>simp only[D.ref,Option.some.injEq,reduceCtorEq]at hr
   case ptr j off=>
    subst hr;simp only[sO,yU.2 (rfl:j=j),cond_true];obtain⟨b',e1',rfl⟩:=h;rw[e1]at e1'
    injection e1' with e1';injection e1' with e1';injection e1' with e1';subst e1'
    refine Rp.rd (Rp.iptr_mk (.inr (by rw[e1];rfl)) λi d hd=> ?_)
    have hi:i<vs.size:=by rw[e3];exact(List.getElem?_eq_some_iff.1 hd).1
    refine⟨vs.getD i undef,?_,((e4 i d hd).flat (hf d (List.mem_of_getElem? hd))).mono (λ_ _=>rfl) λ_ h=> .inl h⟩
    rw[cell_of_row w b i vs T (0,0) e2];simp[Array.getD_eq_getD_getElem?,hi]
   all_goals
    subst hr;simp only[sO];rw[D.kill_eq rfl];exact oC
  |row e t xs=>
   have hv:=Yz ho;cases d<;>simp only[D.ref,Option.some.injEq,reduceCtorEq]at hr
   case own j=>
    subst hr;simp only[sO,yU.2 (rfl:j=j),cond_true];have h:v=pl j:=h;rw[h];exact Rp.rd (.sl t xs _ hv)
   case ownN j=>
    subst hr;simp only[sO,yU.2 (rfl:j=j),cond_true];have h:v=pl j∧v≠ .slice none 0 0:=h;rw[h.1];exact Rp.rd (.slN t xs _ _ hv (λ_=>by rw[←h.1];exact h.2) λe=>by cases e)
   case oelt j sz i off=>
    subst hr;simp only[sO,yU.2 (rfl:j=j),cond_true];obtain⟨b,n,c,e1,hi,rfl⟩:=h;cases hz:Nat.beq sz t.size with
    |false=>exact oC
    |true=>
     rw[cond_true,yU.1 hz];obtain⟨A,c',e2,_⟩:=uO hv;rw[e1]at e2
     injection e2 with e2 e3 e4
     subst e3;rw[e1]at hv
     have:=Rp.elt (w:=w) (S:=λb=>S b∨qK (pl j)=some b) t xs i off b 0 c hi (by rw[e1];exact hv)
     rw[Nat.zero_add]at this
     exact Rp.rd this
   all_goals
    subst hr;simp only[sO];rw[D.kill_eq rfl];exact oC
  |val ds=>
   obtain⟨vs,e1,e3,e4⟩:=ho;cases d<;>simp only[D.ref,Option.some.injEq,reduceCtorEq]at hr
   case own j=>
    subst hr;simp only[sO,yU.2 (rfl:j=j),cond_true];have h:v=pl j:=h;rw[h,e1];exact Rp.rd (.agg vs ds e3 λi d hd=>((e4 i d hd).1.flat (hf d (List.mem_of_getElem? hd))).mono (λ_ _=>rfl) λ_ h=> .inl h)
   all_goals
    subst hr;simp only[sO];rw[D.kill_eq rfl];exact oC
  |mp kt vt es=>
   obtain⟨b,e1,hm⟩:=ho;cases d<;>simp only[D.ref,Option.some.injEq,reduceCtorEq]at hr
   case own j=>
    subst hr;simp only[sO,yU.2 (rfl:j=j),cond_true];have h:v=pl j:=h;rw[h,e1];exact Rp.rd (.mp kt vt es b (.inr rfl) (hm.mono (λ_ _=>rfl) rfl λ_ h=> .inl h))
   all_goals
    subst hr;simp only[sO];rw[D.kill_eq rfl];exact oC
 ·rw[OY hr]
  exact h.mono (λ_ _=>rfl) (λ_ h=> .inl h) λ_ _=>rfl
theorem tY.pub(m:tY P b0 N σ a w S pl){k:Nat}{o:yI}(h:zV k σ.hp=some o)(hf:o.flat):tY P b0 N (σ.pub k o) a w (λb=>S b∨qK (pl k)=some b) pl:=by
 have ho:=m.hp k o h
 have hold:∀j o',zV j (σ.pub k o).hp=some o'→j≠k∧∃o₀,zV j σ.hp=some o₀∧o'=o₀.map (sO k o):=by
  intro j o' h'
  by_cases hj:j=k
  ·subst hj;simp[St.pub,rQ]at h'
  ·refine⟨hj,?_⟩
   simp only[St.pub,rQ,if_neg (Ne.symm hj),St.map,kI]at h'
   cases ho:zV j σ.hp with
   |none=>rw[ho]at h';cases h'
   |some o₀=>rw[ho]at h';injection h' with h';exact⟨o₀,rfl,h'.symm⟩
 have hu:sO k o .undef=.undef:=by cases o<;>rfl
 refine⟨m.dz,m.sz,λi=> ?_,λj o' h'=> ?_,λb hb=> ?_,λb hb=> ?_,λj o' b h' hb=> ?_,λj j' o1 o2 b h1 h2 hb1 hb2=> ?_,m.below,m.stay,m.gok⟩
 ·have e:(σ.pub k o).get i=sO k o (σ.get i):=St.get_map _ hu σ i
  rw[e];exact RG ho hf (m.fr i)
 ·obtain⟨hj,o₀,h0,rfl⟩:=hold j o' h'
  have h1:=m.hp j o₀ h0;cases o₀ with
  |row e t xs=>exact h1.mono (λ_ _=>rfl) (λ_ _=>rfl) (λ_ h=> .inl h) λ_ _ e=>by cases e
  |mp kt vt es=>exact h1.mono (λ_ _=>rfl) (λ_ _=>rfl) (λ_ h=> .inl h) λ_ _ e=>by cases e
  |val ds=>
   obtain⟨vs,e1,e3,e4⟩:=h1;refine⟨vs,e1,by simpa using e3,λi d hd=> ?_⟩
   simp only[List.getElem?_map,Option.map_eq_some_iff]at hd
   obtain⟨d0,hd0,rfl⟩:=hd;exact⟨RG ho hf (e4 i d0 hd0).1,λhc=>(e4 i d0 hd0).2 (BG hc)⟩
  |cells ds=>
   obtain⟨b,vs,T,e1,e2,e3,e4,e5⟩:=h1;refine⟨b,vs,T,e1,e2,by simpa using e3,λi d hd=> ?_,OX (λ_=>BH) e5⟩
   simp only[List.getElem?_map,Option.map_eq_some_iff]at hd
   obtain⟨d0,hd0,rfl⟩:=hd;exact RG ho hf (e4 i d0 hd0)
 ·rcases hb with hb|hb
  ·exact m.lt b hb
  ·exact(m.priv k o b h hb).2.1
 ·rcases hb with hb|hb
  ·exact m.src b hb
  ·exact .inr (m.priv k o b h hb).1
 ·obtain⟨hj,o₀,h0,_⟩:=hold j o' h'
  have:=m.priv j o₀ b h0 hb;refine⟨this.1,this.2.1,λhs=> ?_⟩
  rcases hs with hs|hs
  ·exact this.2.2 hs
  ·exact hj (m.inj j k o₀ o b h0 h hb hs)
 ·obtain⟨_,p1,h1',_⟩:=hold j o1 h1
  obtain⟨_,p2,h2',_⟩:=hold j' o2 h2;exact m.inj j j' p1 p2 b h1' h2' hb1 hb2
theorem tY.setOb(m:tY P b0 N σ a w S pl){k b:Nat}{o o':yI}(h:zV k σ.hp=some o)(hb:qK (pl k)=some b)(hh:∀c,c≠b→w'.heap[c]? =w.heap[c]?)(hs:w'.heap.size=w.heap.size)
  (hw:w'.os=w.os∧w'.tape=w.tape∧w'.output=w.output) (ho:ZW w' S pl (pl k) o'):tY P b0 N (σ.setOb k o') a w' S pl:=by
 have hp:=m.priv k o b h hb;have hS:∀c,S c→w'.heap[c]? =w.heap[c]? :=λc hc=>hh c λe=>hp.2.2 (e▸hc)
 have hold:∀j o1,zV j (σ.setOb k o').hp=some o1→j≠k→zV j σ.hp=some o1:=by
  intro j o1 h1 hj;simpa only[St.setOb,xM,rQ,if_neg (Ne.symm hj)]using h1
 have hsome:∀j o1,zV j (σ.setOb k o').hp=some o1→∃o2,zV j σ.hp=some o2:=by
  intro j o1 h1
  by_cases hj:j=k
  ·subst hj;exact⟨o,h⟩
  ·exact⟨o1,hold j o1 h1 hj⟩
 refine⟨m.dz,m.sz,λi=>(m.fr i).mono hS (λ_ h=>h) λ_ _=>rfl,λj o1 h1=> ?_,λc hc=>by rw[hs];exact m.lt c hc,m.src,λj o1 c h1 hc=> ?_,λj j' o1 o2 c h1 h2 hc1 hc2=> ?_,?_,m.stay,m.gok⟩
 ·by_cases hj:j=k
  ·subst hj
   simp only[St.setOb,xM,if_pos]at h1
   injection h1 with h1;subst h1;exact ho
  ·have h0:=hold j o1 h1 hj
   exact(m.hp j o1 h0).mono hS (λc hc=>hh c λe=>hj (m.inj j k o1 o c h0 h hc (e▸hb))) (λ_ h=>h) λ_ _ _ _=>rfl
 ·obtain⟨o2,h2⟩:=hsome j o1 h1
  have:=m.priv j o2 c h2 hc;exact⟨this.1,by rw[hs];exact this.2.1,this.2.2⟩
 ·obtain⟨p1,h1'⟩:=hsome j o1 h1
  obtain⟨p2,h2'⟩:=hsome j' o2 h2;exact m.inj j j' p1 p2 c h1' h2' hc1 hc2
 ·exact⟨hw.1.trans m.below.os,hw.2.1.trans m.below.tape,hw.2.2.trans m.below.output,by rw[hs];exact m.below.size,λc hc ho=>(hh c (by rintro rfl;rcases hp.1 with h1|h1;exact ho h1;omega)).trans (m.below.block c hc ho)⟩
theorem tY.forget(m:tY P b0 N σ a w S pl)(k:Nat):tY P b0 N (σ.forget k) a w S pl:=by
 have hold:∀j o',zV j (σ.forget k).hp=some o'→j≠k∧∃o₀,zV j σ.hp=some o₀∧o'=o₀.map (D.kill k):=by
  intro j o' h'
  by_cases hj:j=k
  ·subst hj;simp[St.forget,rQ]at h'
  ·refine⟨hj,?_⟩
   simp only[St.forget,rQ,if_neg (Ne.symm hj),St.map,kI]at h'
   cases ho:zV j σ.hp with
   |none=>rw[ho]at h';cases h'
   |some o₀=>rw[ho]at h';injection h' with h';exact⟨o₀,rfl,h'.symm⟩
 refine⟨m.dz,m.sz,λi=> ?_,λj o' h'=> ?_,m.lt,m.src,λj o' b h' hb=> ?_,λj j' o1 o2 b h1 h2 hb1 hb2=> ?_,m.below,m.stay,m.gok⟩
 ·have e:(σ.forget k).get i=(σ.get i).kill k:=St.get_map _ rfl σ i
  rw[e];exact(m.fr i).kill k
 ·obtain⟨hj,o₀,h0,rfl⟩:=hold j o' h'
  have h1:=m.hp j o₀ h0;cases o₀ with
  |row e t xs=>exact h1
  |mp kt vt es=>exact h1
  |val ds=>
   obtain⟨vs,e1,e3,e4⟩:=h1;refine⟨vs,e1,by simpa using e3,λi d hd=> ?_⟩
   simp only[List.getElem?_map,Option.map_eq_some_iff]at hd
   obtain⟨d0,hd0,rfl⟩:=hd;exact⟨(e4 i d0 hd0).1.kill k,λhc=>(e4 i d0 hd0).2 (RF hc)⟩
  |cells ds=>
   obtain⟨b,vs,T,e1,e2,e3,e4,e5⟩:=h1;refine⟨b,vs,T,e1,e2,by simpa using e3,λi d hd=> ?_,OX (λ_=>MG) e5⟩
   simp only[List.getElem?_map,Option.map_eq_some_iff]at hd
   obtain⟨d0,hd0,rfl⟩:=hd;exact(e4 i d0 hd0).kill k
 ·obtain⟨_,o₀,h0,_⟩:=hold j o' h'
  exact m.priv j o₀ b h0 hb
 ·obtain⟨_,p1,h1',_⟩:=hold j o1 h1
  obtain⟨_,p2,h2',_⟩:=hold j' o2 h2;exact m.inj j j' p1 p2 b h1' h2' hb1 hb2
theorem zaV(σ:St)(k:Nat):(∀i,((σ.forget k).get i).ref≠some k)∧zV k (σ.forget k).hp=none∧∀j o d,zV j (σ.forget k).hp=some o→d∈o.parts→d.ref≠some k:=by
 refine⟨λi=> ?_,by simp[St.forget,rQ],λj o d h hd=> ?_⟩
 ·have e:(σ.forget k).get i=(σ.get i).kill k:=St.get_map _ rfl σ i
  rw[e];exact Xb _ _
 ·by_cases hj:j=k
  ·subst hj;simp[St.forget,rQ]at h
  ·simp only[St.forget,rQ,if_neg (Ne.symm hj),St.map,kI]at h
   cases ho:zV j σ.hp with
   |none=>rw[ho]at h;cases h
   |some o₀=>
    rw[ho]at h;injection h with h
    subst h;cases o₀ with
    |row e t xs=>cases hd
    |mp kt vt es=>cases hd
    |cells ds0=>
     obtain⟨d0,_,rfl⟩:=List.mem_map.1 hd;exact Xb _ _
    |val ds0=>
     obtain⟨d0,_,rfl⟩:=List.mem_map.1 hd;exact Xb _ _
theorem tY.grow(m:tY P b0 N σ a w S pl){k:Nat}(hst:stabK k=false){o o':yI}(h:zV k σ.hp=some o)(p:Value)(hg:w.grownBy w' (qK (pl k)))(hat:∀b,qK p=some b→qK (pl k)=some b∨(w.heap.size≤b∧b<w'.heap.size))
  (ho:ZW w' S (R3 pl k p) p o'):tY P b0 N (σ.mk' k o') a w' S (R3 pl k p):=by
 have mf:=m.forget k;obtain⟨r1,r2,r3⟩:=zaV σ k;have hkeep:∀c,c<w.heap.size→qK (pl k)≠some c→w'.heap[c]? =w.heap[c]? :=λc hc hne=>hg.block c hc λe=>hne e.symm
 have hS:∀c,S c→w'.heap[c]? =w.heap[c]? :=λc hc=>hkeep c (m.lt c hc) λe=>(m.priv k o c h e).2.2 hc
 have holdk:∀j o1,zV j (σ.forget k).hp=some o1→j≠k∧∃o2,zV j σ.hp=some o2:=by
  intro j o1 h1
  by_cases hj:j=k
  ·subst hj;rw[r2]at h1;cases h1
  ·refine⟨hj,?_⟩
   simp only[St.forget,rQ,if_neg (Ne.symm hj),St.map,kI]at h1
   cases ho:zV j σ.hp with
   |none=>rw[ho]at h1;cases h1
   |some o₀=>exact⟨o₀,rfl⟩
 have hbelow:sP b0.w.heap.size b0.O b0.w w':=⟨hg.os.trans m.below.os,hg.tape.trans m.below.tape,hg.output.trans m.below.output,Nat.le_trans m.below.size hg.size,λc hc hO=>by
  refine(hkeep c (Nat.lt_of_lt_of_le hc m.below.size) λe=> ?_).trans (m.below.block c hc hO)
  rcases(m.priv k o c h e).1 with h1|h1
  ·exact hO h1
  ·omega⟩
 have mw:tY P b0 N (σ.forget k) a w' S pl:=mf.world hS (λj o1 b h1 hb=>by
  obtain⟨hj,o2,h2⟩:=holdk j o1 h1;exact hkeep b (m.priv j o2 b h2 hb).2.1 λe=>hj (m.inj j k o2 o b h2 h hb e)) hg.size hbelow
 have e1:∀i,(σ.mk' k o').get i=(σ.forget k).get i:=λi=>rfl
 have e2:∀j,zV j (σ.mk' k o').hp=if k=j then some o' else zV j (σ.forget k).hp:=λj=>xM j k o' _
 refine⟨m.dz,m.sz,λi=> ?_,λj o1 h1=> ?_,mw.lt,mw.src,λj o1 b h1 hb=> ?_,λj j' o1 o2 b h1 h2 hb1 hb2=> ?_,hbelow,λj hj=>(show R3 pl k p j=pl j from if_neg λe=>by rw[e,hst]at hj;cases hj).trans (m.stay j hj),m.gok⟩
 ·rw[e1]
  exact(mw.fr i).mono (λ_ _=>rfl) (λ_ h=>h) λj hj=>if_neg (λe:j=k=>r1 i (hj.trans (by rw[e])))
 ·rw[e2]at h1
  by_cases hj:k=j
  ·subst hj;rw[if_pos rfl]at h1;injection h1 with h1;subst h1
   rw[show R3 pl k p k=p from if_pos rfl];exact ho
  ·rw[if_neg hj]at h1
   rw[show R3 pl k p j=pl j from if_neg (Ne.symm hj)]
   exact(mw.hp j o1 h1).mono (λ_ _=>rfl) (λ_ _=>rfl) (λ_ h=>h) λd i hd hr=>if_neg (λei:i=k=>r3 j o1 d h1 hd (hr.trans (by rw[ei])))
 ·rw[e2]at h1
  by_cases hj:k=j
  ·subst hj
   rw[show R3 pl k p k=p from if_pos rfl]at hb
   rcases hat b hb with hb|hb
   ·have:=m.priv k o b h hb
    exact⟨this.1,Nat.lt_of_lt_of_le this.2.1 hg.size,this.2.2⟩
   ·exact⟨.inr (Nat.le_trans m.below.size hb.1),hb.2,λhs=>by have:=m.lt b hs;omega⟩
  ·rw[if_neg hj]at h1
   rw[show R3 pl k p j=pl j from if_neg (Ne.symm hj)]at hb
   exact mw.priv j o1 b h1 hb
 ·rw[e2]at h1 h2
  have key:∀j o1,k≠j→zV j (σ.forget k).hp=some o1→qK (pl j)=some b→qK p=some b→False:=by
   intro j o1 hj h1 hb1 hb2;obtain⟨hjk,o2,h2⟩:=holdk j o1 h1;rcases hat b hb2 with hb|hb
   ·exact hjk (m.inj j k o2 o b h2 h hb1 hb)
   ·have:=(m.priv j o2 b h2 hb1).2.1;omega
  by_cases hj:k=j<;>by_cases hj':k=j'
  ·rw[←hj,←hj']
  ·rw[if_neg hj']at h2
   rw[show R3 pl k p j'=pl j' from if_neg (Ne.symm hj')]at hb2
   subst hj;rw[show R3 pl k p k=p from if_pos rfl]at hb1
   exact(key j' o2 hj' h2 hb2 hb1).elim
  ·rw[if_neg hj]at h1
   rw[show R3 pl k p j=pl j from if_neg (Ne.symm hj)]at hb1
   subst hj';rw[show R3 pl k p k=p from if_pos rfl]at hb2
   exact(key j o1 hj h1 hb1 hb2).elim
  ·rw[if_neg hj]at h1;rw[if_neg hj']at h2
   rw[show R3 pl k p j=pl j from if_neg (Ne.symm hj)]at hb1
   rw[show R3 pl k p j'=pl j' from if_neg (Ne.symm hj')]at hb2
   exact mw.inj j j' o1 o2 b h1 h2 hb1 hb2
theorem tY.newS(m:tY P b0 N σ a w S pl)(o:Obj):tY P b0 N σ a (w.alloc o) (λb=>S b∨b=w.heap.size) pl:=
 (m.later (w':=w.alloc o) ((Below.refl _ _).alloc (Nat.le_refl _) o)).more (λ_ h=> .inl h)
  (λb h=>by
   have hs:(w.alloc o).heap.size=w.heap.size+1:=by simp
   rcases h with h|rfl
   ·have:=m.lt b h;omega
   ·omega)
  (λb h=>by
   rcases h with h|rfl
   ·exact m.src b h
   ·exact .inr (.inr m.below.size))
  (λk o' b h hb hs=>by
   have:=m.priv k o' b h hb;rcases hs with hs|rfl
   ·exact this.2.2 hs
   ·omega)
end
structure D7 where
 tys:List Ty
 nils:List (Nat×(Nat×(TypeId×Ty))):=[]
 datas:List (Nat×Nat):=[]
 res:List D→(Nat→Option yI)→Option (D×List (Nat×yI))
 raw:Bool:=false
structure TE where
 zs:List (TypeId×(Bool×List D))
 sl:List (TypeId×(TypeId×Ty))
 fld:List (TypeId×List (Nat×Nat))
 strs:List TypeId
 ints:List (TypeId×IntKind)
 bools:List TypeId
 sig:List (FuncId×List Ty)
 mps:List (TypeId×(Ty×Ty)):=[]
 sts:List (TypeId×Ty):=[]
 hsig:List (FuncId×D7):=[]
 vals:List TypeId:=[]
 arr:List TypeId:=[]
 nilq:Bool:=true
 thr:List FuncId:=[]
structure xP where
 own:List Nat
 live:List (Nat×(List Nat×List Nat))
 n:Nat
 q:Nat:=12
 nils:List (Nat×(Nat×(TypeId×Ty))):=[]
 pubs:List (Nat×Nat):=[]
 nn:List Nat:=[]
 first:Bool:=false
 clp:Bool:=false
 tdraw:Bool:=false
 nz:List (Nat×(Nat×(TypeId×Ty))):=[]
def rC(k:Nat):List Nat→Bool
 |[]=>false
 |i::r=>bif Nat.beq i k then true else rC k r
def zP(b:Bool)(A B:Prop):Prop:=match b with
 |true=>A
 |false=>B
def yW(n:Int):Int:=IntKind.i64.wrap n
def ofV:Value→D
 | .int .i64 n=>bif decide (-9223372036854775808≤n)&&decide (n≤9223372036854775807)then .int .i64 n else .undef
 | .int .u8 n=>bif decide (0≤n)&&decide (n≤255)then .int .u8 n else .undef
 | .bool b=> .bool b
 | .string s=>bif Nat.ble s.size 140737488355328 then .str s else .undef
 | .slice none 0 0=> .nil
 |_=> .undef
def St.ev(σ:St):Operand→D
 | .tmp t=>σ.get t
 | .const v=>ofV v
 | .func f=> .clo f none []
 | .global _=> .undef
def D8:List D→Option (List Value)
 |[]=>some []
 | .int k n::r=>match D8 r with
  |some l=>some (.int k n::l)
  |none=>none
 |_=>none
def EK:D→Option Value
 | .agg ds=>match D8 ds with
  |some l=>some (.agg l.toArray)
  |none=>none
 |_=>none
def Px(E:TE)(T:TypeId):D→D
 | .nil=>match zV T E.sl with
  |some (_,t)=> .sl t []
  |none=> .nil
 | .slN t xs _=> .sl t xs
 |d=>d
def jP(A:xP):Option Nat→Option Nat
 |some k=>bif rC k A.own&& !stabK k then some k else none
 |none=>none
theorem gS{A:xP}{d:Option Nat}{k:Nat}(h:jP A d=some k):stabK k=false:=by
 unfold jP at h
 split at h
 ·rename_i j
  cases hb:rC j A.own&& !stabK j with
  |false=>rw[hb]at h;cases h
  |true=>
   rw[hb]at h;injection h with h;subst h
   simp only[Bool.and_eq_true,Bool.not_eq_true']at hb
   exact hb.2
 ·cases h
def Zg(σ:St):D→Option (List D)
 | .agg cs=>some cs
 | .tup _=>none
 | .undef=>none
 | .ifc _=>none
 | .own k=>match σ.ob k with
  |some (.val ds)=>some ds
  |some _=>some [.own k]
  |none=>none
 | .ownN k=>match σ.ob k with
  |some (.row _ _ _)=>some [.ownN k]
  |_=>none
 |d=>some [d]
def fP(d:D):Bool:=match d.ref with
 |none=>true
 |some _=>false
def TS(ds:List D)(off:Nat)(new:List D):List D:=ds.take off++new++ds.drop (off+new.length)
def fQ:List D→Option Nat
 |[]=>none
 |d::r=>match d.ref with
  |some k=>some k
  |none=>fQ r
def X7(σ:St):Nat→Nat→Nat
 |0,k=>k
 |n+1,k=>match σ.ob k with
  |some (.cells ds)=>match fQ ds with
   |some j=>X7 σ n j
   |none=>k
  |some (.val ds)=>match fQ ds with
   |some j=>X7 σ n j
   |none=>k
  |_=>k
def yI.flatB:yI→Bool
 | .cells ds=>ds.all fP
 | .row _ _ _=>true
 | .mp _ _ _=>true
 | .val ds=>ds.all fP
def pubs:Nat→St→List D→Option (St×List D)
 |0,_,_=>none
 |n+1,σ,ds=>match fQ ds with
  |none=>some (σ,ds)
  |some k0=>
   let k:=X7 σ 4 k0
   match σ.ob k with
   |some o=>bif o.flatB then pubs n (σ.pub k o) (ds.map (sO k o))else none
   |none=>none
def tP(q:Nat)(σ:St)(ds:List D)(K:List D→St→Prop):Prop:=match pubs q σ ds with
 |some (σ',ds')=>K ds' σ'
 |none=>False
def dY(σ:St):D→Option (List D)
 | .ptr k off=>match σ.ob k with
  |some (.cells ds)=>some (ds.drop off)
  |_=>none
 | .iptr cs off=>some (cs.drop off)
 | .elt t xs i off=>some ((cells t (xs.getD i t.dflt)).drop off)
 | .oelt k sz i off=>match σ.ob k with
  |some (.row _ t xs)=>bif Nat.beq sz t.size then some ((cells t (xs.getD i t.dflt)).drop off)else none
  |_=>none
 |_=>none
def wI(n:Int)(len:Nat):Bool:=decide (0≤n)&&decide (n<(len:Int))
def R4(l h:Int)(len:Nat):Bool:=decide (0≤l)&&decide (l≤h)&&decide (h≤(len:Int))
def wD(t:Ty)(n:Nat):Bool:=decide (n*t.bytes≤140737488355328)
def nN(s:ByteArray)(i:Nat):Int:=((s.data.getD i 0).toNat:Int)
def ziM(A:xP):Option Nat→Bool
 |some k=>rC k A.nn
 |none=>false
def J9(σ:St):D→Bool
 | .ptr k off=>match σ.ob k with
  |some (.cells ds)=>(match ds[off]? with
   |some (.slN _ _ _)=>true
   |_=>false)
  |_=>false
 |_=>false
def zdw(b:Bool)(new:List D)(K:List D→Prop):Prop:=match b with
 |true=>(match new with
  |[.sl t xs]=>xs≠[]∧K [.slN t xs false]
  |new=>K new)
 |false=>K new
def BI(E:TE)(A:xP)(o:Oper)(d:D)(σ:St)(K:D→St→Prop):Prop:=match d with
 | .nil=>match zV o.type E.sl with
  |some (e,t)=>match jP A o.dst with
   |some k=>K (.own k) (σ.mk' k (.row e t []))
   |none=>K (bif ziM A o.dst then .slN t [] true else .sl t []) σ
  |none=>K .nil σ
 |d=>K d σ
def Ix(E:TE)(A:xP)(o:Oper)(T:TypeId)(σ:St)(K:D→St→Prop):Prop:=match zV T E.zs with
 |some (_,cs)=>match jP A o.dst with
  |some k=>K (.ptr k 0) (σ.mk' k (.cells cs))
  |none=>K (.iptr cs 0) σ
 |none=>False
def ze2(k:Nat)(d:D):Bool:=match d.ref with
 |some j=>Nat.beq j k
 |none=>false
def D9(k:Nat)(T:TypeId)(cs:List D):Bool:=cs.any (ze2 k)||(Ym cs&& !memT BF T cs.length)
def ze3(E:TE)(A:xP)(o:Oper)(T:TypeId)(x:D)(σ:St)(K:D→St→Prop):Prop:=
 match Zg σ (Px E T x)with
 |some cs=>match jP A o.dst with
  |some k=>bif D9 k T cs then False else K (.ptr k 0) (σ.mk' k (.cells cs))
  |none=>tP A.q σ cs λcs σ=>K (.iptr cs 0) σ
 |none=>False
def zcH(E:TE)(A:xP)(T:TypeId)(x:D)(σ:St)(K:D→St→Prop):Prop:=match zV T E.zs with
 |some (ag,zs)=>match dY σ x with
  |some cs=>bif Nat.ble zs.length cs.length then
    match ag with
    |true=>tP A.q σ (cs.take zs.length) λcs σ=>K (.agg cs) σ
    |false=>match cs with
     |d::_=>K d σ
     |[]=>False
   else False
  |none=>False
 |none=>False
def Ca(E:TE)(A:xP)(T:TypeId)(x y:D)(σ:St)(K:D→St→Prop):Prop:=match zV T E.zs with
 |some (_,zs)=>match Zg σ (Px E T y)with
  |none=>False
  |some new=>zdw (J9 σ x) new λnew=>bif Nat.beq new.length zs.length&&new.all mZ then
   match x with
   | .ptr k off=>match σ.ob k with
    |some (.cells ds)=>bif Nat.ble (off+new.length) ds.length then K .undef (σ.setOb k (.cells (TS ds off new)))else False
    |_=>False
   | .oelt k sz i off=>tP A.q σ new λnew σ=>match σ.ob k with
    |some (.row e t xs)=>bif Nat.beq sz t.size then
      match ofD t (TS (cells t (xs.getD i t.dflt)) off new)with
      |some z=>bif Nat.ble (off+new.length) t.size then K .undef (σ.setOb k (.row e t (xs.set i z)))else False
      |none=>False
     else False
    |_=>False
   |_=>False
  else False
 |none=>False
def ze4(E:TE)(op:BinOp)(T:TypeId)(x y:D)(K:D→Prop):Prop:=match x,y with
 | .int .i64 a,.int .i64 b=>match op with
  | .add=>K (.int .i64 (yW (a+b)))
  | .sub=>K (.int .i64 (yW (a-b)))
  | .mul=>K (.int .i64 (yW (a*b)))
  | .quo=>b≠0∧K (.int .i64 (yW (a.tdiv b)))
  | .rem=>b≠0∧K (.int .i64 (a.tmod b))
  | .eql=>K (.bool (decide (a=b)))
  | .neq=>K (.bool (!decide (a=b)))
  | .lss=>K (.bool (decide (a<b)))
  | .leq=>K (.bool (decide (a≤b)))
  | .gtr=>K (.bool (decide (b<a)))
  | .geq=>K (.bool (decide (b≤a)))
  |_=>False
 | .int .u8 a,.int .u8 b=>match op with
  | .eql=>K (.bool (decide (a=b)))
  | .neq=>K (.bool (!decide (a=b)))
  | .lss=>K (.bool (decide (a<b)))
  | .leq=>K (.bool (decide (a≤b)))
  | .gtr=>K (.bool (decide (b<a)))
  | .geq=>K (.bool (decide (b≤a)))
  |_=>False
 | .str a,.str b=>match op with
  | .eql=>K (.bool (decide (a=b)))
  | .neq=>K (.bool (!decide (a=b)))
  | .add=>a.size+b.size≤140737488355328∧K (.str (a++b))
  |_=>False
 | .bool a,.bool b=>bif rC T E.bools then(match op with
   | .eql=>K (.bool (a==b))
   | .neq=>K (.bool (!(a==b)))
   |_=>False)
  else False
 |_,_=>False
def teq:(t:Ty)→t.den→t.den→Bool
 | .lit,a,b=>decide (a=b)
 | .var,a,b=>decide (a=b)
 | .tok,a,b=>decide (a=b)
 |_,_,_=>false
def eqK(op:BinOp)(b:Bool)(K:D→Prop):Prop:=match op with
 | .eql=>K (.bool b)
 | .neq=>K (.bool (!b))
 |_=>False
def zjR(op:BinOp)(e:Prop)(K:D→Prop):Prop:=∀b:Bool,(b=true→e)→eqK op b K
def X8(E:TE)(T:TypeId):Bool:=match zV T E.sl with
 |some _=>true
 |none=>false
def BJ(E:TE)(op:BinOp)(T:TypeId)(x y:D)(σ:St)(K:D→Prop):Prop:=match x,y with
 | .agg xs,.agg ys=>match zV T E.sts with
  |some t=>match ofD t xs,ofD t ys with
   |some a,some b=>eqK op (teq t a b) K
   |_,_=>False
  |none=>False
 | .slN _ _ nl,.nil=>bif E.nilq&&X8 E T then eqK op nl K else False
 | .sl _ xs,.nil=>bif E.nilq&&X8 E T then zjR op (xs=[]) K else False
 | .nil,.nil=>bif E.nilq&&X8 E T then eqK op true K else False
 | .own k,.nil=>match σ.ob k with
  |some (.row _ _ xs)=>bif E.nilq&&X8 E T then zjR op (xs=[]) K else False
  |_=>False
 |x,y=>ze4 E op T x y K
def Py:(t:Ty)→t.den→t.den→Bool
 | .int,a,b=>decide (a=b)
 | .str,a,b=>decide (a=b)
 | .pr .int .int,a,b=>decide (a.1=b.1)&&decide (a.2=b.2)
 |_,_,_=>false
def tQ(kt vt:Ty)(x:kt.den)(y:vt.den):List (kt.den×vt.den)→List (kt.den×vt.den)
 |[]=>[(x,y)]
 |(a,b)::r=>bif Py kt x a then(a,y)::r else(a,b)::tQ kt vt x y r
def tD(kt vt:Ty)(x:kt.den):List (kt.den×vt.den)→Option vt.den
 |[]=>none
 |(a,b)::r=>bif Py kt x a then some b else tD kt vt x r
def nU(kt vt:Ty)(x:kt.den)(es:List (kt.den×vt.den)):vt.den:=(tD kt vt x es).getD vt.dflt
def Pz(kt vt:Ty)(x:kt.den)(es:List (kt.den×vt.den)):Bool:=(tD kt vt x es).isSome
def OZ(n:Nat):Bool:=decide (n≤140737488355328)
def TT(E:TE)(A:xP)(o:Oper)(T:TypeId)(σ:St)(K:D→St→Prop):Prop:=match zV T E.mps with
 |some (k,v)=>match jP A o.dst with
  |some j=>K (.own j) (σ.mk' j (.mp k v []))
  |none=>K (.mp k v []) σ
 |none=>False
def zhp:(t:Ty)→D→Option t.den
 | .int,.int .i64 n=>some n
 | .str,.str s=>some s
 | .pr .int .int,.agg [.int .i64 a,.int .i64 b]=>some (a,b)
 |_,_=>none
def VR(E:TE)(A:xP)(T:TypeId)(m x y:D)(σ:St)(K:D→St→Prop):Prop:=match zV T E.mps,m with
 |some (kt0,vt0),.own j=>tP A.q σ [y] λds σ=>match σ.ob j with
   |some (.mp kt vt es)=>bif decide (kt=kt0)&&decide (vt=vt0)then
     match zhp kt x,ofD vt ds with
     |some a,some b=>OZ (es.length+1)=true∧K .undef (σ.setOb j (.mp kt vt (tQ kt vt a b es)))
     |_,_=>False
    else False
   |_=>False
 |_,_=>False
def EL(σ:St):D→Option (Σ (p:Ty×Ty),List (p.1.den×p.2.den))
 | .mp kt vt es=>some ⟨(kt,vt),es⟩
 | .own j=>match σ.ob j with
  |some (.mp kt vt es)=>some ⟨(kt,vt),es⟩
  |_=>none
 |_=>none
def Ia(E:TE)(T:TypeId)(m x:D)(ok:Bool)(σ:St)(K:D→Prop):Prop:=match zV T E.mps,EL σ m with
 |some (kt0,vt0),some ⟨(kt,vt),es⟩=>bif decide (kt=kt0)&&decide (vt=vt0)then
   match zhp kt x with
   |some a=>match ok with
    |true=>K (.tup [XV vt (nU kt vt a es),.bool (Pz kt vt a es)])
    |false=>K (XV vt (nU kt vt a es))
   |none=>False
  else False
 |_,_=>False
def unD(op:UnOp)(x:D)(K:D→Prop):Prop:=match op,x with
 | .not,.bool b=>K (.bool (!b))
 | .neg,.int .i64 n=>K (.int .i64 (yW (0-n)))
 |_,_=>False
def zcJ(E:TE)(src dst:TypeId)(x:D)(K:D→Prop):Prop:=match zV src E.ints with
 |some _=>(match zV dst E.ints,x with
  |some .i64,.int _ n=>K (.int .i64 (yW n))
  |some .u8,.int _ n=>K (.int .u8 (IntKind.u8.wrap n))
  |_,_=>False)
 |none=>(match zV src E.sl,x with
  |some (e,.byte),.sl .byte xs=>(match zV e E.ints,rC dst E.strs with
   |some .u8,true=>K (.str ⟨xs.toArray⟩)
   |_,_=>False)
  |_,_=>False)
def Zh(σ:St)(dflt:Int):Option Operand→Option Int
 |none=>some dflt
 |some x=>match σ.ev x with
  | .int .i64 n=>some n
  |_=>none
def Cb(E:TE)(A:xP)(T:TypeId)(x:D)(σ:St)(lo hi:Option Operand)(K:D→St→Prop):Prop:=
 match x with
 | .str s=>bif rC T E.strs then(match Zh σ 0 lo,Zh σ s.size hi with
  |some l,some h=>R4 l h s.size=true∧K (.str (s.extract l.toNat h.toNat)) σ
  |_,_=>False)else False
 |x=>tP A.q σ [x] λds σ=>match ds with
  |[.sl t xs]=>match zV T E.sl,Zh σ 0 lo,Zh σ xs.length hi with
   |some (_,t'),some l,some h=>bif Nat.beq t'.size t.size then(R4 l h xs.length=true∧K (.sl t ((xs.take h.toNat).drop l.toNat)) σ)else False
   |_,_,_=>False
  |_=>False
def Cc(E:TE)(T:TypeId)(f:Nat):Option Nat:=match zV T E.fld with
 |some offs=>match offs[f]? with
  |some (off,_)=>some off
  |none=>none
 |none=>none
def Iy(E:TE)(T:TypeId)(x:D)(f:Nat)(K:D→Prop):Prop:=match Cc E T f with
 |some d=>match x with
  | .ptr k off=>K (.ptr k (off+d))
  | .iptr cs off=>K (.iptr cs (off+d))
  | .elt t xs i off=>K (.elt t xs i (off+d))
  | .oelt k sz i off=>K (.oelt k sz i (off+d))
  |_=>False
 |none=>False
def VS(E:TE)(T:TypeId)(x ix:D)(σ:St)(K:D→Prop):Prop:=match zV T E.sl with
 |some (_,t')=>match ix with
  | .int _ n=>match x with
   | .sl t xs=>bif Nat.beq t'.size t.size then(wI n xs.length=true∧K (.elt t xs n.toNat 0))else False
   | .own k=>match σ.ob k with
    |some (.row _ t xs)=>bif Nat.beq t'.size t.size then(wI n xs.length=true∧K (.oelt k t.size n.toNat 0))else False
    |_=>False
   |_=>False
  |_=>False
 |none=>False
def Cd(E:TE)(T:TypeId)(x ix:D)(K:D→Prop):Prop:=match x,ix with
 | .str s,.int _ n=>bif rC T E.strs then(wI n s.size=true∧K (.int .u8 (nN s n.toNat)))else False
 |_,_=>False
def O0(x:D)(i:Nat)(K:D→Prop):Prop:=match x with
 | .tup ds=>match ds[i]? with
  |some d=>K d
  |none=>False
 |_=>False
def RH(σ:St)(d:D)(z:Option D):Option (List D):=match d,z with
 | .nil,some (.sl t _)=>some [.sl t []]
 | .slN t xs _,_=>some [.sl t xs]
 |d,_=>Zg σ d
def Q0(σ:St)(place:Nat→Option (Nat×Nat)):List D→List (Nat×Operand)→Option (List D)
 |ds,[]=>some ds
 |ds,(f,x)::r=>match place f with
  |some (off,sz)=>
   match RH σ (σ.ev x) ds[off]? with
   |some new=>bif Nat.beq new.length sz&&Nat.ble (off+sz) ds.length then Q0 σ place (TS ds off new) r else none
   |none=>none
  |none=>none
def zdx:Option Nat→Nat
 |some k=>k
 |none=>0
def Ce:Option Nat→Bool
 |some k=> !stabK k
 |none=>false
def Cf(E:TE)(T:TypeId):Option (Nat→Option (Nat×Nat)):=bif rC T E.arr then some (λi=>some (i,1))else match zV T E.fld with
 |some offs=>some λi=>offs[i]?
 |none=>none
def Iz(E:TE)(A:xP)(o:Oper)(T:TypeId)(parts:List (Nat×Operand))(σ:St)(K:D→St→Prop):Prop:=match zV T E.zs,Cf E T with
 |some (true,zs),some pf=>match Q0 σ pf zs parts with
  |some ds=>bif rC T E.vals&&Ce o.dst then K (.own (zdx o.dst)) (σ.mk' (zdx o.dst) (.val (ds.map (D.kill (zdx o.dst)))))else tP A.q σ ds λds σ=>K (.agg ds) σ
  |none=>False
 |_,_=>False
def elems(t:Ty):Nat→List D→Option (List t.den)
 |0,_=>some []
 |n+1,ds=>match ofD t (ds.take t.size),elems t n (ds.drop t.size)with
  |some x,some xs=>some (x::xs)
  |_,_=>none
def ZX(E:TE)(A:xP)(o:Oper)(T:TypeId)(len:Nat)(parts:List (Nat×Operand))(σ:St)(K:D→St→Prop):Prop:=match zV T E.sl with
 |some (e,t)=>
  bif wD t len&&Nat.ble (len*t.size) 16777216 then match Q0 σ (λi=>some (i*t.size,t.size)) (List.replicate len (cells t t.dflt)).flatten parts with
  |some ds=>tP A.q σ ds λds σ=>match elems t len ds with
    |some xs=>match jP A o.dst with
     |some k=>K (bif rC k A.nn then .ownN k else .own k) (σ.mk' k (.row e t xs))
     |none=>K (.sl t xs) σ
    |none=>False
  |none=>False
  else False
 |none=>False
def zhq(E:TE)(T:TypeId)(x:D)(σ:St)(K:D→Prop):Prop:=match x with
 | .str s=>bif rC T E.strs then K (.int .i64 (s.size:Int))else False
 | .nil=>match zV T E.sl with
  |some _=>K (.int .i64 0)
  |none=>False
 | .mp _ _ es=>match zV T E.mps with
  |some _=>K (.int .i64 (es.length:Int))
  |none=>False
 | .sl t xs=>match zV T E.sl with
  |some _=>K (.int .i64 (xs.length:Int))
  |none=>False
 | .own k=>match σ.ob k with
  |some (.row _ t xs)=>(match zV T E.sl with
   |some _=>K (.int .i64 (xs.length:Int))
   |none=>False)
  |some (.mp _ _ es)=>(match zV T E.mps with
   |some _=>K (.int .i64 (es.length:Int))
   |none=>False)
  |_=>False
 |_=>False
def Kl(σ:St)(k:Nat)(t:Ty):D→Option (List t.den)
 | .nil=>some []
 | .sl t' ys=>if h:t'=t then some (h▸ys)else none
 | .own j=>bif Nat.beq j k then none else match σ.ob j with
  |some (.row _ t' ys)=>if h:t'=t then some (h▸ys)else none
  |_=>none
 |_=>none
def zi3(E:TE)(T' e:TypeId)(t':Ty)(x y:D)(σ:St)(K:D→St→Prop):Prop:=match rC T' E.strs with
 |true=>(match t',x,y with
  | .byte,.own k,.str s=>(match σ.ob k with
   |some (.row e' .byte xs)=>bif Nat.beq e e'&& !stabK k then wD .byte (xs.length+s.size)=true∧K (.own k) (σ.mk' k (.row e .byte (xs++s.data.toList)))else False
   |_=>False)
  |_,_,_=>False)
 |false=>False
def Ib(E:TE)(A:xP)(o:Oper)(T T':TypeId)(x:D)(y:Operand)(σ:St)(K:D→St→Prop):Prop:=match zV T E.sl with
 |some (e,t')=>bif Nat.beq T T' then(match x with
  | .own k=>match σ.ob k with
   |some (.row e' t xs)=>bif Nat.beq e e'&&Nat.beq t'.size t.size&&Nat.beq t'.bytes t.bytes&& !stabK k then(match Kl σ k t (σ.ev y)with
    |some ys=>wD t (xs.length+ys.length)=true∧K (.own k) (σ.mk' k (.row e t (xs++ys)))
    |none=>False)else False
   |_=>False
  | .ownN k=>match σ.ob k with
   |some (.row e' t xs)=>bif Nat.beq e e'&&Nat.beq t'.size t.size&&Nat.beq t'.bytes t.bytes&& !stabK k then(match Kl σ k t (σ.ev y)with
    |some ys=>bif Nat.blt 0 ys.length then wD t (xs.length+ys.length)=true∧K (.ownN k) (σ.mk' k (.row e t (xs++ys)))else False
    |none=>False)else False
   |_=>False
  | .nil=>match jP A o.dst with
   |some k=>match Kl (σ.mk' k (.row e t' [])) k t' ((σ.mk' k (.row e t' [])).ev y)with
    |some ys=>wD t' ys.length=true∧K (.own k) ((σ.mk' k (.row e t' [])).mk' k (.row e t' ys))
    |none=>False
   |none=>False
  |_=>False)else zi3 E T' e t' x (σ.ev y) σ K
 |none=>False
def zhr(x y:D)(K:D→Prop):Prop:=match x,y with
 | .int .i64 a,.int .i64 b=>K (.int .i64 (if b>a then b else a))
 |_,_=>False
def Xc(E:TE)(A:xP)(o:Oper)(T:TypeId)(l c:D)(σ:St)(K:D→St→Prop):Prop:=match zV T E.sl with
 |some (e,t)=>match l,c with
  | .int .i64 n,.int .i64 m=>n=m∧0≤n∧wD t n.toNat=true∧(match jP A o.dst with
   |some k=>K (.own k) (σ.mk' k (.row e t (List.replicate n.toNat t.dflt)))
   |none=>K (.sl t (List.replicate n.toNat t.dflt)) σ)
  |_,_=>False
 |none=>False
def Yl(P:Program)(f:FuncId)(args:List D)(r:D):Prop:=
 ∀(w:World) (S:Nat→Prop) (vs:Array Value),(∀b,S b→b<w.heap.size)→vs.size=args.length→(∀i d,args[i]? =some d→Rp w S (vs.getD i undef) d)→EJ P w (λ_=>False)→
  Calls P f vs w λe w'=>∃v,e=.returned v∧Rp w' (λb=>S b∨(w.heap.size≤b∧b<w'.heap.size)) v r∧Below w.heap.size w w'
def ze5(P:Program)(f:FuncId)(args:List D)(t:Ty)(K:t.den→Prop):Prop:=∃x,Yl P f args (XV t x)∧K x
def ze6(P:Program)(f:FuncId)(args:List D)(t u:Ty)(K:t.den→u.den→Prop):Prop:=∃x y,Yl P f args (.tup [XV t x,XV u y])∧K x y
def ze7(P:Program)(f:FuncId)(args:List D)(t u v:Ty)(K:t.den→u.den→v.den→Prop):Prop:=∃x y z,Yl P f args (.tup [XV t x,XV u y,XV v z])∧K x y z
def zaW(P:Program)(f:FuncId)(args:List D):List Ty→(D→Prop)→Prop
 |[],K=>Yl P f args (.tup [])∧K (.tup [])
 |[t],K=>ze5 P f args t λx=>K (XV t x)
 |[t,u],K=>ze6 P f args t u λx y=>K (.tup [XV t x,XV u y])
 |[t,u,v],K=>ze7 P f args t u v λx y z=>K (.tup [XV t x,XV u y,XV v z])
 |_,_=>False
def Ty.scalar:Ty→Bool
 | .int| .bool| .str=>true
 |_=>false
def TU(σ:St):D→D
 | .own k=>match σ.ob k with
  |some (.row _ t xs)=> .sl t xs
  |_=> .own k
 |d=>d
def jQ(E:TE)(σ:St):List Operand→List TypeId→List D
 |x::xs,T::ts=>Px E T (σ.ev x)::jQ E σ xs ts
 |x::xs,[]=>σ.ev x::jQ E σ xs []
 |[],_=>[]
def zaX(raw:Bool)(E:TE)(σ:St)(xs:List Operand)(ts:List TypeId):List D:=bif raw then xs.map σ.ev else jQ E σ xs ts
def Ent(P:Program)(f:FuncId):Prop:=∀args w,(callFunc f args).run P w=.ok (.enter f args) w
def zjS(E:TE)(f:FuncId):Option (List Ty)→Option (List Ty)
 |some rs=>some rs
 |none=>zV f E.sig
def zi4(P:Program)(f:FuncId):Option (List Ty)→Prop→Prop
 |some _,X=>Ent P f∧X
 |none,X=>X
def D.ren(ρ:List (Nat×Nat)):D→D
 | .own k=>match zV k ρ with
  |some j=> .own j
  |none=> .undef
 | .ownN k=>match zV k ρ with
  |some j=> .ownN j
  |none=> .undef
 | .ptr k off=>match zV k ρ with
  |some j=> .ptr j off
  |none=> .undef
 | .oelt k sz i off=>match zV k ρ with
  |some j=> .oelt j sz i off
  |none=> .undef
 | .clp f bd k off=>match zV k ρ with
  |some j=> .clp f bd j off
  |none=> .undef
 | .slf k=>match zV k ρ with
  |some j=> .slf j
  |none=> .undef
 |d=>d
def yI.ren(ρ:List (Nat×Nat)):yI→yI
 | .cells ds=> .cells (ds.map (D.ren ρ))
 | .val ds=> .val (ds.map (D.ren ρ))
 |o=>o
def MD(ρ:List (Nat×Nat)):List (Nat×Nat):=ρ.map λx=>(x.2,x.1)
def mH:List Nat→Bool
 |[]=>true
 |k::r=> !rC k r&&mH r
def reach(ob:Nat→Option yI):Nat→List Nat→List D→List Nat
 |0,acc,_=>acc
 |_+1,acc,[]=>acc
 |n+1,acc,d::r=>match d.ref with
  |none=>reach ob n acc r
  |some k=>bif rC k acc then reach ob n acc r else match ob k with
   |some (.cells ds)=>reach ob n (acc++[k]) (ds++r)
   |some (.val ds)=>reach ob n (acc++[k]) (ds++r)
   |some _=>reach ob n (acc++[k]) r
   |none=>reach ob n acc r
def TV:List D→List Nat
 |[]=>[]
 | .own k::r=>k::TV r
 |_::r=>TV r
def Cg(ob:Nat→Option yI)(dr:List Nat):List Nat→Nat→Nat→List (Nat×Nat)
 |[],_,_=>[]
 |k::r,a,b=>match ob k with
  |some (.row _ _ _)=>bif rC k dr then(k,1000+a)::Cg ob dr r (a+1) b else(k,2000+b)::Cg ob dr r a (b+1)
  |_=>(k,1000+a)::Cg ob dr r (a+1) b
def jR(ob:Nat→Option yI)(ρ:List (Nat×Nat)):List (Nat×Nat)→List (Nat×yI)
 |[]=>[]
 |(k,c)::r=>match ob k with
  |some o=>(c,o.ren ρ)::jR ob ρ r
  |none=>jR ob ρ r
structure Ch (w:World)(S:Nat→Prop)(pl:Nat→Value)(h:List (Nat×yI)):Prop where
 ok:∀k o,zV k h=some o→ZW w S pl (pl k) o
 priv:∀k o b,zV k h=some o→qK (pl k)=some b→b<w.heap.size∧¬S b
 inj:∀k k' o o' b,zV k h=some o→zV k' h=some o'→qK (pl k)=some b→qK (pl k')=some b→k=k'
def ox(pl:Nat→Value)(h:List (Nat×yI))(b:Nat):Prop:=∃k o,zV k h=some o∧qK (pl k)=some b
def zdy(P:Program)(f:FuncId)(args:List D)(h:List (Nat×yI))(r:D)(h':List (Nat×yI)):Prop:=
 ∀(w:World) (S:Nat→Prop) (vs:Array Value) (pl:Nat→Value),(∀b,S b→b<w.heap.size)→vs.size=args.length→(∀i d,args[i]? =some d→Rd w S pl (vs.getD i undef) d)→Ch w S pl h→EJ P w (ox pl h)→
  Calls P f vs w λe w'=>∃v S' pl',e=.returned v∧Rd w' S' pl' v r∧Ch w' S' pl' h'∧(∀b,S' b→b<w'.heap.size)∧(∀b,S' b→S b∨ox pl h b∨w.heap.size≤b)∧
   (∀b,ox pl' h' b→ox pl h b∨w.heap.size≤b)∧(∀k,stabK k=true→pl' k=pl k)∧sP w.heap.size (ox pl h) w w'
def zhs(P:Program)(f:FuncId)(args:List D)(h:List (Nat×yI))(u:Value):Prop:=
 ∀(w:World) (S:Nat→Prop) (vs:Array Value) (pl:Nat→Value),(∀b,S b→b<w.heap.size)→vs.size=args.length→(∀i d,args[i]? =some d→Rd w S pl (vs.getD i undef) d)→Ch w S pl h→EJ P w (ox pl h)→
  Calls P f vs w λe w'=>e=.panicked [{v:=u,recovered:=false}]∧sP w.heap.size (ox pl h) w w'
def exH:List Ty→(List D→Prop)→Prop
 |[],K=>K []
 |t::ts,K=>∃x:t.den,exH ts λds=>K (XV t x::ds)
def fF(k off:Nat):Nat:=1000000+1000*k+off
def TW(σ:St)(k off:Nat)(e:TypeId)(t:Ty):St:=match σ.ob k with
 |some (.cells ds)=>match ds[off]? with
  |some .nil=>bif Nat.beq k (fF k off)then σ else(σ.mk' (fF k off) (.row e t [])).setOb k (.cells ((ds.map (D.kill (fF k off))).set off (.own (fF k off))))
  |some (.ifc (.pointer none))=>σ.setOb k (.cells (ds.set off (.slf k)))
  |_=>σ
 |_=>σ
def lA(ds:List D):List (Nat×(Nat×(TypeId×Ty)))→St→St
 |[],σ=>σ
 |(i,off,e,t)::r,σ=>match ds[i]? with
  |some (.ptr k 0)=>lA ds r (TW σ k off e t)
  |_=>lA ds r σ
def Ci(k:Nat):List (Nat×(Nat×(TypeId×Ty)))→List (Nat×(Nat×(TypeId×Ty)))
 |[]=>[]
 |(j,x)::r=>bif Nat.beq j k then(0,x)::Ci k r else Ci k r
def Zv:List (Nat×(Nat×(TypeId×Ty)))→List D→List D
 |[],cs=>cs
 |(_,off,_,_)::r,cs=>Zv r (match cs[off]? with
  |some (.sl _ [])=>cs.set off .nil
  |_=>cs)
def zaY(E:TE)(A:xP)(o:Oper)(T:TypeId)(σ:St)(K:D→St→Prop):Prop:=match zV T E.zs with
 |some (_,cs)=>match jP A o.dst with
  |some k=>bif Nat.blt k 1000000 then K (.ptr k 0) (lA [.ptr k 0] (Ci k A.nz) (σ.mk' k (.cells (Zv (Ci k A.nz) cs))))else False
  |none=>K (.iptr cs 0) σ
 |none=>False
def IA(E:TE)(A:xP)(o:Oper)(T:TypeId)(σ:St)(K:D→St→Prop):Prop:=match A.nz with
 |[]=>Ix E A o T σ K
 |_=>zaY E A o T σ K
def ZY(σ:St)(k off:Nat):St:=match σ.ob k with
 |some (.cells ds)=>match ds[off]? with
  |some (.own j)=>match σ.ob j with
   |some o=>bif o.flatB then σ.pub j o else σ
   |none=>σ
  |_=>σ
 |_=>σ
def vS(ds:List D):List (Nat×Nat)→St→St
 |[],σ=>σ
 |(i,off)::r,σ=>match ds[i]? with
  |some (.ptr k 0)=>vS ds r (ZY σ k off)
  |_=>vS ds r σ
def lB(ρi:List (Nat×Nat))(dst c:Nat):Nat:=match zV c ρi with
 |some k=>k
 |none=>30000+64*dst+(c-3000)
def lC(ks:List Nat)(d:D):D:=match d.ref with
 |some j=>bif rC j ks then .undef else d
 |none=>d
def X9{α:Type}(ks:List Nat):List (Nat×α)→List (Nat×α)
 |[]=>[]
 |(i,a)::r=>bif rC i ks then X9 ks r else(i,a)::X9 ks r
def St.after(σ:St)(ρ:List (Nat×Nat))(dst:Nat)(h':List (Nat×yI)):St:=
 let β:List (Nat×Nat):=h'.map λx=>(x.1,lB (MD ρ) dst x.1)
 let dead:=((ρ.filter λx=> !stabK x.2|| !(rC x.2 (h'.map (·.1)))).map (·.1))++(β.filter λx=> !(rC x.1 (ρ.map (·.2)))).map (·.2)
 ⟨σ.fr.map λx=>(x.1,lC dead x.2),(h'.map λx=>(lB (MD ρ) dst x.1,x.2.ren β))++X9 ((ρ.map (·.1))++β.map (·.2)) (σ.hp.map λx=>(x.1,x.2.map (lC dead)))⟩
def BK(σ:St)(ρ:List (Nat×Nat))(dst:Nat)(h':List (Nat×yI)):Bool:=
 mH (ρ.map (·.1))&&mH (ρ.map (·.2))&&mH (h'.map (·.1))&&mH (h'.map λx=>lB (MD ρ) dst x.1)&&
  ρ.all (λx=>(!stabK x.1||stabK x.2)&&Nat.blt x.2 3000)&&
  h'.all (λx=>rC x.1 (ρ.map (·.2))||Nat.ble 3000 x.1)
def PA(d:D):Bool:=match d.ref with
 |some k=>Nat.blt k 1000000
 |none=>true
def iF(σ:St):List D→List D
 |[]=>[]
 | .ptr k 0::r=>(match σ.ob k with
  |some (.cells cs)=>cs.filter λd=>match d with
   | .ptr _ 0=>true
   |_=>false
  |_=>[])++iF σ r
 |_::r=>iF σ r
def Km(P:Program)(A:xP)(f:FuncId)(hs:D7)(dst:Nat)(ds0 caps:List D)(σ:St)(K:D→St→Prop):Prop:=
 bif caps.all fP&&ds0.all PA then
  let σ:=lA (ds0++iF (vS ds0 hs.datas σ) ds0) hs.nils (vS ds0 hs.datas σ)
  let ρ:=Cg σ.ob (TV ds0) (reach σ.ob 400 [] ds0) 0 0
  exH hs.tys λxs=>match hs.res xs (λc=>zV c (jR σ.ob ρ ρ))with
   |some (r,h')=>bif BK σ ρ dst h' then zdy P f (ds0.map (D.ren ρ)++caps) (jR σ.ob ρ ρ) r h'∧K (r.ren (h'.map λx=>(x.1,lB (MD ρ) dst x.1))) (σ.after ρ dst h')else False
   |none=>False
 else False
def ze8(P:Program)(f:FuncId)(hs:D7)(ds0 caps:List D)(σ:St)(T:Value→Prop):Prop:=
 bif caps.all fP&&ds0.all PA then
  let σ:=lA (ds0++iF (vS ds0 hs.datas σ) ds0) hs.nils (vS ds0 hs.datas σ)
  let ρ:=Cg σ.ob (TV ds0) (reach σ.ob 400 [] ds0) 0 0
  bif mH (ρ.map (·.1))&&mH (ρ.map (·.2))then∃u,zhs P f (ds0.map (D.ren ρ)++caps) (jR σ.ob ρ ρ) u∧T u else False
 else False
def zdz:Option Nat→Nat
 |some d=>d
 |none=>0
def zaZ(E:TE)(f:FuncId):Option (List Ty)→Option D7
 |some _=>none
 |none=>zV f E.hsig
def zht(P:Program)(E:TE)(A:xP)(g:FuncId)(hs:D7)(dst:Nat)(ds caps:List D)(σ:St)(K:D→St→Prop)(T:Value→Prop):Prop:=match rC g E.thr with
 |true=>Km P A g hs dst ds caps σ K∨ze8 P g hs ds caps σ T
 |false=>Km P A g hs dst ds caps σ K
def BM(P:Program)(E:TE)(A:xP)(o:Oper)(fv:D)(args:List Operand)(tys:List TypeId)(σ:St)(K:D→St→Prop):Prop:=match fv with
 | .clo f rs0 caps=>match zaZ E f rs0 with
  |some hs=>Km P A f hs (zdz o.dst) (zaX hs.raw E σ args tys) caps σ K
  |none=>match zjS E f rs0 with
   |some rs=>zi4 P f rs0<|
    let ds:=jQ E σ args tys
    bif rs.all Ty.scalar then
     let ds:=ds.map (TU σ)
     bif ds.all fP then zaW P f (ds++caps) rs λr=>K r σ else False
    else tP A.q σ ds λds σ=>zaW P f (ds++caps) rs λr=>K r σ
   |none=>False
 |_=>False
def Cj(P:Program)(E:TE)(A:xP)(o:Oper)(σ:St)(K:D→St→Prop):Prop:=match o.op with
 | .move x=>BI E A o (σ.ev x) σ K
 | .assign x=>BI E A o (σ.ev x) σ K
 | .pick c a b=>match σ.ev c with
  | .bool t=>zP t (K (σ.ev a) σ) (K (σ.ev b) σ)
  |_=>False
 | .alloc T=>IA E A o T σ K
 | .box T x=>ze3 E A o T (σ.ev x) σ K
 | .build T parts=>Iz E A o T parts.toList σ K
 | .buildSlice T len parts=>ZX E A o T len parts.toList σ K
 | .load T x=>zcH E A T (σ.ev x) σ K
 | .store T x y=>Ca E A T (σ.ev x) (σ.ev y) σ K
 | .nilCheck x=>match σ.ev x with
  | .ptr k off=>K (.ptr k off) σ
  | .iptr cs off=>K (.iptr cs off) σ
  | .elt t xs i off=>K (.elt t xs i off) σ
  | .oelt k sz i off=>K (.oelt k sz i off) σ
  |_=>False
 | .binOp op T x y _=>BJ E op T (σ.ev x) (σ.ev y) σ λd=>K d σ
 | .makeMap T none=>TT E A o T σ K
 | .mapUpdate T m x y=>VR E A T (σ.ev m) (σ.ev x) (σ.ev y) σ K
 | .lookup T m x ok=>Ia E T (σ.ev m) (σ.ev x) ok σ λd=>K d σ
 | .unOp op _ x=>unD op (σ.ev x) λd=>K d σ
 | .convert src dst x=>zcJ E src dst (σ.ev x) λd=>K d σ
 | .makeFunc (.func f) first captured=>match A.clp with
  |false=>(match first.toList with
   |[]=>tP A.q σ (captured.toList.map σ.ev) λcs σ=>K (.clo f none cs) σ
   |_=>False)
  |true=>(match first.toList.map σ.ev,captured.toList.map σ.ev with
   |[.ptr k off],[]=>K (.clp f true k off) σ
   |[],[.ptr k off]=>K (.clp f false k off) σ
   |_,_=>False)
 | .makeInterface T x=>match zV T E.zs,EK (σ.ev x)with
  |some (true,_),some u=>K (.ifc (.iface T u)) σ
  |_,_=>False
 | .slice T x lo hi none=>Cb E A T (σ.ev x) σ lo hi K
 | .fieldAddr T x f=>Iy E T (σ.ev x) f λd=>K d σ
 | .indexAddr T x ix=>VS E T (σ.ev x) (σ.ev ix) σ λd=>K d σ
 | .index T x ix=>Cd E T (σ.ev x) (σ.ev ix) λd=>K d σ
 | .extract x i=>O0 (σ.ev x) i λd=>K d σ
 | .makeSlice T l c=>Xc E A o T (σ.ev l) (σ.ev c) σ K
 | .call c=>match c.callee with
  | .builtin .len=>match c.args.toList,c.argTypes.toList with
   |[x],[T]=>zhq E T (σ.ev x) σ λd=>K d σ
   |_,_=>False
  | .builtin .append=>match c.args.toList,c.argTypes.toList with
   |[x,y],[T,T']=>Ib E A o T T' (σ.ev x) y σ K
   |_,_=>False
  | .builtin .max=>match c.args.toList with
   |[x,y]=>zhr (σ.ev x) (σ.ev y) λd=>K d σ
   |_=>False
  | .value f=>BM P E A o (σ.ev f) c.args.toList c.argTypes.toList σ K
  |_=>False
 |_=>False
def ziO(P:Program)(E:TE)(A:xP)(o:Oper)(σ:St)(K:D→St→Prop)(T:Value→Prop):Option Prop:=match o.op with
 | .panic x=>some (match σ.ev x with
  | .ifc (.iface t u)=>T (.iface t u)
  |_=>False)
 | .call c=>match c.callee with
  | .value f=>match σ.ev f with
   | .clo g none caps=>(match rC g E.thr with
    |true=>some (match zV g E.hsig with
     |some hs=>zht P E A g hs (zdz o.dst) (zaX hs.raw E σ c.args.toList c.argTypes.toList) caps σ K T
     |none=>False)
    |false=>none)
   | .clp g bd k off=>some (match zV g E.hsig with
     |some hs=>zht P E A g hs (zdz o.dst) (bif bd then .ptr k off::zaX hs.raw E σ c.args.toList c.argTypes.toList else zaX hs.raw E σ c.args.toList c.argTypes.toList++[.ptr k off]) [] σ K T
     |none=>False)
   |_=>none
  |_=>none
 |_=>none
def opX(P:Program)(E:TE)(A:xP)(o:Oper)(σ:St)(K:D→St→Prop)(T:Value→Prop):Prop:=match ziO P E A o σ K T with
 |some X=>X
 |none=>Cj P E A o σ K
def ze9:TypeDesc→Bool
 | .struct _| .array _ _=>true
 |_=>false
def zB:Value→D→Bool
 | .int .i64 n,.int .i64 m=>decide (n=0)&&decide (m=0)
 | .int .u8 n,.int .u8 m=>decide (n=0)&&decide (m=0)
 | .bool false,.bool false=>true
 | .string s,.str s'=>decide (s.size=0)&&decide (s'.size=0)
 | .slice none 0 0,.nil=>true
 | .slice none 0 0,.sl _ []=>true
 | .slice none 0 0,.slN _ [] true=>true
 | .pointer none,.ifc (.pointer none)=>true
 |_,.undef=>true
 |_,_=>false
def K4:List Value→List D→Bool
 |[],[]=>true
 |v::vs,d::ds=>zB v d&&K4 vs ds
 |_,_=>false
structure ZOk (P:Program)(T:TypeId)(ag:Bool)(cs:List D):Prop where
 ty:tyC T cs
 ex:∃i z u,P.info? T=some i∧i.zero=some z∧i.size=cs.length∧P.underlying T=some u∧ze9 u=ag∧K4 z.cells.toList cs=true
 one:ag=false→cs.length=1
structure SlE (P:Program)(T e:TypeId)(t:Ty):Prop where
 und:P.underlying T=some (.slice e)
 ex:∃i z,P.info? e=some i∧i.zero=some z∧i.size=t.size∧i.bytes=t.bytes∧K4 z.cells.toList (cells t t.dflt)=true
def zjU(P:Program)(T:TypeId)(offs:List (Nat×Nat)):Prop:=
 ∃fs:Array Field,P.underlying T=some (.struct fs)∧fs.toList.mapM (λf=>(P.info? f.type).map λi=>(f.offset,i.size))=some offs∧offs.all (λx=> !Nat.beq x.2 0)=true
def zhu(P:Program)(f:Field):Option (Bool×Nat):=if f.name≠ "_" then(match P.underlying f.type with
 |some (.int .i64)=>some (false,f.offset)
 |some .string=>some (true,f.offset)
 |_=>none)else none
def fkT:Ty→Option (List (Bool×Nat))
 | .tok=>some [(false,0),(false,1),(true,2)]
 | .lit=>some [(false,0),(false,1),(false,2)]
 | .var=>some [(true,0),(false,1),(false,2)]
 |_=>none
def zjV(P:Program)(T:TypeId)(t:Ty):Prop:=
 P.underlying T=some (.struct (P.fieldsOf T))∧P.stoodInHeld T=false∧P.eqGuardType P.depth T=false∧∃l,fkT t=some l∧(P.fieldsOf T).toList.mapM (zhu P)=some l
def MH(P:Program)(kT:TypeId):Ty→Prop
 | .int=>P.underlying kT=some (.int .i64)
 | .str=>P.underlying kT=some .string
 | .pr .int .int=>∃e i,P.underlying kT=some (.array 2 e)∧P.underlying e=some (.int .i64)∧P.info? e=some i∧P.cellsOf e=1
 |_=>False
def MpE(P:Program)(T:TypeId)(k v:Ty):Prop:=
 ∃kT eT i z d,P.underlying T=some (.map kT eT)∧MH P kT k∧P.info? eT=some i∧i.zero=some z∧cells v v.dflt=[d]∧zB z d=true∧z.oneCell'=true
structure uK (P:Program)(E:TE):Prop where
 zs:∀T ag cs,zV T E.zs=some (ag,cs)→ZOk P T ag cs
 sl:∀T e t,zV T E.sl=some (e,t)→SlE P T e t
 fld:∀T offs,zV T E.fld=some offs→zjU P T offs
 strs:∀T,rC T E.strs=true→P.underlying T=some .string
 ints:∀T k,zV T E.ints=some k→P.underlying T=some (.int k)
 bools:∀T,rC T E.bools=true→P.underlying T=some .bool
 sig:∀f rs,zV f E.sig=some rs→∀args w,(callFunc f args).run P w=.ok (.enter f args) w
 hsig:∀f hs,zV f E.hsig=some hs→Ent P f
 arr:∀T,rC T E.arr=true→∃e i,P.underlying T=some (.array 2 e)∧P.info? e=some i∧i.size=1
 mps:∀T k v,zV T E.mps=some (k,v)→MpE P T k v
 sts:∀T t,zV T E.sts=some t→zjV P T t
 mixed:P.follows .mixedOrders=true
 byt:∀T e,zV T E.sl=some (e,.byte)→∃i,P.info? e=some i∧i.zero=some (.int .u8 0)
section
variable {P:Program}{E:TE}{A:xP}{b0:XW}{w w':World}{S S':Nat→Prop}{pl pl':Nat→Value}{N:Nat}{σ:St}{a:Act}{v:Value}{d:D}{o:Oper}{K:D→St→Prop}{next:Act→World→Prop}{Q:Exit→Act→World→Prop}
theorem zdA{s s':ByteArray}(h:s.size=0)(h':s'.size=0):s=s':=by
 have e:∀t:ByteArray,t.size=0→t=⟨#[]⟩:=λt ht=>by
  apply ByteArray.ext;exact Array.eq_empty_of_size_eq_zero ht
 rw[e s h,e s' h']
theorem ziP(h:zB v d=true):Rp w S v d:=by
 unfold zB at h
 split at h
 case h_1=>simp only[Bool.and_eq_true,decide_eq_true_eq]at h;obtain⟨rfl,rfl⟩:=h;exact .int _ _ (by unfold inK yQ;omega)
 case h_2=>simp only[Bool.and_eq_true,decide_eq_true_eq]at h;obtain⟨rfl,rfl⟩:=h;exact .int _ _ (by unfold inK;omega)
 case h_3=>exact .bool _
 case h_4=>simp only[Bool.and_eq_true,decide_eq_true_eq]at h;rw[zdA h.1 h.2];exact .str _ (by omega)
 case h_5=>exact .nil
 case h_6=>exact .sl _ _ _ ⟨[.slice none 0 0],rfl,none,0,rfl,by simp,by simp,by simp,λ_=>rfl,λhn=>absurd hn (by simp)⟩
 case h_7=>exact .slN _ _ _ _ ⟨[.slice none 0 0],rfl,none,0,rfl,by simp,by simp,by simp,λ_=>rfl,λhn=>absurd hn (by simp)⟩ (λe=>by cases e) λ_=>rfl
 case h_8=>exact .ifc _
 case h_9=>exact .undef _
 case h_10=>cases h
theorem PB:∀ {vs:List Value} {ds:List D},K4 vs ds=true→xE (Rp w S) vs ds
 |[],[],_=> .nil
 |v::vs,d::ds,h=>by
  simp only[K4,Bool.and_eq_true]at h
  exact .cons (ziP h.1) (PB h.2)
 |[],_::_,h=>by simp[K4]at h
 |_::_,[],h=>by simp[K4]at h
theorem zi5(v:Value):Rp w S v (ofV v):=by
 unfold ofV;split
 case h_1 n=>
  cases h:decide (-9223372036854775808≤n)&&decide (n≤9223372036854775807)with
  |true=>simp only[Bool.and_eq_true,decide_eq_true_eq]at h;exact .int _ _ h
  |false=>exact .undef _
 case h_2 n=>
  cases h:decide (0≤n)&&decide (n≤255)with
  |true=>simp only[Bool.and_eq_true,decide_eq_true_eq]at h;exact .int _ _ h
  |false=>exact .undef _
 case h_3=>exact .bool _
 case h_4 s=>
  cases h:Nat.ble s.size 140737488355328 with
  |true=>exact .str _ (Nat.le_of_ble_eq_true h)
  |false=>exact .undef _
 case h_5=>exact .nil
 case h_6=>exact .undef _
theorem uY(m:tY P b0 N σ a w S pl)(x:Operand):Rd w S pl (a.eval x) (σ.ev x):=by
 cases x with
 |tmp t=>exact m.fr t
 |const v=>exact(zi5 v).rd
 |func f=>exact Rp.rd (.clo f none [] #[] rfl (λi d h=>by simp at h))
 |global g=>exact oC
theorem MI(T:TypeId)(h:Rd w S pl v d):Rd w S pl v (Px E T d):=by
 unfold Px;split
 ·split
  ·have:=h.flat (d:=.nil) rfl
   rw[this.nil_inv];exact Rp.rd (.sl _ _ _ ⟨[.slice none 0 0],rfl,none,0,rfl,by simp,by simp,by simp,λ_=>rfl,λhn=>absurd hn (by simp)⟩)
  ·exact h
 ·exact Rp.rd (.sl _ _ _ (h.flat (d:=.slN _ _ _) rfl).slN_inv.1)
 ·exact h
def tK(P:Program)(b0:XW)(N:Nat)(o:Oper)(a:Act)(K:D→St→Prop)(next:Act→World→Prop):Prop:=
 ∀d σ' v w' S' pl',K d σ'→tY P b0 N σ' a w' S' pl'→Rd w' S' pl' v d→next (a.put o.dst v) w'
theorem yG{v:Value}{w':World}(h:(execOp a.eval o).run P w=.ok (.value v) w')(hn:next (a.put o.dst v) w'):o.wp P a w next Q:=by
 unfold Oper.wp;rw[h];exact hn
theorem za0{w':World}(h:(execOp a.eval o).run P w=.ok .skip w')(hn:next (a.put o.dst undef) w'):o.wp P a w next Q:=by
 unfold Oper.wp;rw[h];exact hn
theorem za1(h:Rp w S v d)(hd:mZ d=true):v.oneCell'=true:=by
 cases h
 case sl t xs h=>obtain⟨A,c,rfl,_⟩:=uO h;rfl
 case slN t xs nl h _ _=>obtain⟨A,c,rfl,_⟩:=uO h;rfl
 all_goals first|rfl|(simp[mZ]at hd)
def Rc(w:World)(S:Nat→Prop)(pl:Nat→Value)(v:Value)(d:D):Prop:=Rd w S pl v d∧(mZ d=true→v.oneCell'=true)
theorem MJ(m:tY P b0 N σ a w S pl)(h:Rd w S pl v d){cs:List D}(hc:Zg σ d=some cs):xE (Rc w S pl) v.cells.toList cs:=by
 have one:v.cells.toList=[v]→Zg σ d=some [d]→v.oneCell'=true→xE (Rc w S pl) v.cells.toList cs:=λe e' e1=>by
  rw[e']at hc;injection hc with hc;subst hc;rw[e];exact .cons ⟨h,λ_=>e1⟩ .nil
 cases d
 case agg ds=>
  obtain⟨vs,rfl,hl,h⟩:=(h.flat rfl).agg_inv;injection hc with hc;subst hc
  refine xE.of (by simpa[Value.cells]using hl) λi x d hx hd=> ?_
  have:=h i d hd;simp only[Value.cells,Array.getElem?_toList]at hx
  rw[Array.getD_eq_getD_getElem?,hx]at this
  exact⟨this.rd,za1 this⟩
 case tup ds=>cases hc
 case undef=>cases hc
 case ifc u=>cases hc
 case slf k=>
  rcases h with e|⟨b,_,e⟩
  ·exact one (by rw[e];rfl) rfl (by rw[e];rfl)
  ·exact one (by rw[e];rfl) rfl (by rw[e];rfl)
 case clp f bd k off=>obtain⟨b,_,e⟩:=h;exact one (by rw[e];rfl) rfl (by rw[e];rfl)
 case own k=>
  have h':v=pl k:=h;simp only[Zg,St.ob]at hc
  cases ho:zV k σ.hp with
  |none=>rw[ho]at hc;cases hc
  |some o=>
   rw[ho]at hc
   cases o with
   |val ds=>
    injection hc with hc;subst hc
    obtain⟨vs,e1,e3,e4⟩:=m.hp k _ ho;rw[h',e1];refine xE.of (by simpa[Value.cells]using e3) λi x d hx hd=> ?_
    have:=e4 i d hd;simp only[Value.cells,Array.getElem?_toList]at hx
    rw[Array.getD_eq_getD_getElem?,hx]at this
    exact this
   |cells ds=>
    injection hc with hc;subst hc
    obtain⟨b,vs,T,e,_⟩:=m.hp k _ ho;have e':=h'.trans e;rw[e'];exact .cons ⟨by rw[←e'];exact h,λ_=>rfl⟩ .nil
   |row e t xs=>
    injection hc with hc;subst hc
    obtain⟨_,css,_,h4,_⟩:=m.hp k _ ho;rcases h4.2 with⟨e,_⟩|⟨g,cap,cur,e,_⟩<;>
    ·have e':=h'.trans e
     rw[e'];exact .cons ⟨by rw[←e'];exact h,λ_=>rfl⟩ .nil
   |mp kt vt es=>
    injection hc with hc;subst hc
    obtain⟨b,e,_⟩:=m.hp k _ ho;have e':=h'.trans e;rw[e'];exact .cons ⟨by rw[←e'];exact h,λ_=>rfl⟩ .nil
 case ownN k=>
  have h':v=pl k:=(show v=pl k∧v≠ .slice none 0 0 from h).1
  simp only[Zg,St.ob]at hc
  cases ho:zV k σ.hp with
  |none=>rw[ho]at hc;cases hc
  |some o=>
   rw[ho]at hc
   cases o with
   |row e t xs=>
    injection hc with hc;subst hc
    obtain⟨_,css,_,h4,_⟩:=m.hp k _ ho;rcases h4.2 with⟨e,_⟩|⟨g,cap,cur,e,_⟩<;>
    ·have e':=h'.trans e
     rw[e'];exact .cons ⟨by rw[←e'];exact h,λ_=>rfl⟩ .nil
   |val ds=>cases hc
   |cells ds=>cases hc
   |mp kt vt es=>cases hc
 case slN t xs nl=>obtain⟨A,c,e,_⟩:=uO ((h.flat (d:=.slN t xs nl) rfl).slN_inv).1;exact one (by rw[e];rfl) rfl (by rw[e];rfl)
 case mp kt vt es=>obtain⟨b,e,_⟩:=(h.flat (d:=.mp kt vt es) rfl).mp_inv;exact one (by rw[e];rfl) rfl (by rw[e];rfl)
 case sl t xs=>obtain⟨A,c,e,_⟩:=uO (h.flat (d:=.sl t xs) rfl).sl_inv;exact one (by rw[e];rfl) rfl (by rw[e];rfl)
 case nil=>have e:=(h.flat (d:=.nil) rfl).nil_inv;exact one (by rw[e];rfl) rfl (by rw[e];rfl)
 case int k n=>have e:=(h.flat (d:=.int k n) rfl).int_inv.1;exact one (by rw[e];rfl) rfl (by rw[e];rfl)
 case bool b=>have e:=(h.flat (d:=.bool b) rfl).bool_inv;exact one (by rw[e];rfl) rfl (by rw[e];rfl)
 case str s=>have e:=(h.flat (d:=.str s) rfl).str_inv.1;exact one (by rw[e];rfl) rfl (by rw[e];rfl)
 case iptr cs off=>obtain⟨b,e,_⟩:=(h.flat (d:=.iptr cs off) rfl).iptr_inv;exact one (by rw[e];rfl) rfl (by rw[e];rfl)
 case elt t xs i off=>obtain⟨b,o,c,e,_⟩:=(h.flat (d:=.elt t xs i off) rfl).elt_inv;exact one (by rw[e];rfl) rfl (by rw[e];rfl)
 case clo f rs caps=>obtain⟨vs,e,_⟩:=(h.flat (d:=.clo f rs caps) rfl).clo_inv;exact one (by rw[e];rfl) rfl (by rw[e];rfl)
 case ptr k off=>obtain⟨b,_,e⟩:=h;exact one (by rw[e];rfl) rfl (by rw[e];rfl)
 case oelt k sz i off=>obtain⟨b,n,c,_,_,e⟩:=h;exact one (by rw[e];rfl) rfl (by rw[e];rfl)
theorem zdB(m:tY P b0 N σ a w S pl)(h:Rd w S pl v d){cs:List D}(hc:Zg σ d=some cs):xE (Rd w S pl) v.cells.toList cs:=(MJ m h hc).imp λ_ _ h=>h.1
theorem oU{d:D}:fP d=true↔d.ref=none:=by
 unfold fP;cases d.ref<;>simp
theorem Q1:∀ {ds:List D},fQ ds=none→∀d∈ds,d.ref=none
 |[],_,d,hd=>by cases hd
 |e::r,h,d,hd=>by
  unfold fQ at h
  cases he:e.ref with
  |some k=>rw[he]at h;cases h
  |none=>
   rw[he]at h
   rcases List.mem_cons.1 hd with rfl|hd
   ·exact he
   ·exact Q1 h d hd
theorem xE.map_right{α β γ:Type}{R:α→γ→Prop}{f:β→γ}:∀ {xs:List α} {ys:List β},xE (λx y=>R x (f y)) xs ys→xE R xs (ys.map f)
 |_,_,.nil=> .nil
 |_,_,.cons h hs=> .cons h hs.map_right
theorem xE.flat:∀ {vs:List Value} {ds:List D},xE (Rd w S pl) vs ds→(∀d∈ds,d.ref=none)→xE (Rp w S) vs ds
 |_,_,.nil,_=> .nil
 |_,_,.cons h hs,hf=> .cons (h.flat (hf _ List.mem_cons_self)) (hs.flat λd hd=>hf d (List.mem_cons_of_mem _ hd))
theorem xE.rd{vs:List Value}{ds:List D}(h:xE (Rp w S) vs ds):xE (Rd w S pl) vs ds:=h.imp λ_ _ h=>h.rd
theorem xE.rmono{vs:List Value}{ds:List D}(h:xE (Rp w S) vs ds)(hk:∀b,S b→w'.heap[b]? =w.heap[b]?)(hS:∀b,S b→S' b):xE (Rp w' S') vs ds:=h.imp λ_ _ h=>h.mono hk hS
theorem zcK:∀(n:Nat) (σ:St) (ds:List D) (σ':St) (ds':List D) (S:Nat→Prop),pubs n σ ds=some (σ',ds')→tY P b0 N σ a w S pl→
  ∃S',(∀b,S b→S' b)∧tY P b0 N σ' a w S' pl∧∀vs,xE (Rd w S pl) vs ds→xE (Rp w S') vs ds'
 |0,_,_,_,_,_,h,_=>by cases h
 |n+1,σ,ds,σ',ds',S,h,m=>by
  unfold pubs at h
  cases hf:fQ ds with
  |none=>
   rw[hf]at h;injection h with h;injection h with h1 h2;subst h1 h2
   exact⟨S,λ_ h=>h,m,λvs hv=>hv.flat (Q1 hf)⟩
  |some k0=>
   rw[hf]at h
   simp only at h
   generalize X7 σ 4 k0=k at h
   cases ho:σ.ob k with
   |none=>rw[ho]at h;cases h
   |some o=>
    rw[ho]at h
    simp only at h
    cases hfl:o.flatB with
    |false=>rw[hfl]at h;cases h
    |true=>
     rw[hfl,cond_true]at h
     have hfl':o.flat:=by
      cases o with
      |cells cs=>exact λd hd=>oU.1 (List.all_eq_true.1 hfl d hd)
      |row _ _ _=>trivial
      |mp _ _ _=>trivial
      |val cs=>exact λd hd=>oU.1 (List.all_eq_true.1 hfl d hd)
     have m1:=m.pub (k:=k) ho hfl';obtain⟨S',hS,m2,hv⟩:=zcK n _ _ _ _ _ h m1;exact⟨S',λb hb=>hS b (.inl hb),m2,λvs h=>hv vs (xE.map_right (h.imp λ_ _ h=>RG (m.hp k o ho) hfl' h))⟩
theorem rU{ds:List D}{K:List D→St→Prop}{q:Nat}(h:tP q σ ds K)(m:tY P b0 N σ a w S pl):
  ∃σ' ds' S',K ds' σ'∧(∀b,S b→S' b)∧tY P b0 N σ' a w S' pl∧∀vs,xE (Rd w S pl) vs ds→xE (Rp w S') vs ds':=by
 unfold tP at h
 cases hp:pubs q σ ds with
 |none=>rw[hp]at h;exact h.elim
 |some x=>
  obtain⟨σ',ds'⟩:=x;rw[hp]at h
  obtain⟨S',h1,h2,h3⟩:=zcK _ _ _ _ _ _ hp m;exact⟨σ',ds',S',h,h1,h2,h3⟩
theorem PC(w:World)(o:Obj):(w.alloc o).heap.size=w.heap.size+1:=by simp
theorem TX(w:World)(o:Obj):Below w.heap.size w (w.alloc o):=(Below.refl _ _).alloc (Nat.le_refl _) o
theorem PD(m:tY P b0 N σ a w S pl)(o:Obj):∀b,S b→(w.alloc o).heap[b]? =w.heap[b]? :=λb hb=>Below.heap_alloc w o b (m.lt b hb)
theorem Ck(m:tY P b0 N σ a w S pl)(k:Nat)(hst:stabK k=false){vs:Array Value}{cs:List D}(T:TypeId)(h:xE (Rd w S pl) vs.toList cs)(hty:tyC T cs)(hr:∀d∈cs,d.ref≠some k):
  tY P b0 N (σ.mk' k (.cells cs)) a (w.alloc (.cells vs T)) S (R3 pl k (.pointer (some ⟨w.heap.size,0,none⟩))):=by
 refine m.mk' (w':=w.alloc (.cells vs T)) k hst (.cells cs) (.pointer (some ⟨w.heap.size,0,none⟩)) (TX w _) (λb hb=>by injection hb with hb;subst hb;exact⟨Nat.le_refl _,by show w.heap.size<_;rw[PC];omega⟩) λpl' hpl=> ?_
 refine⟨w.heap.size,vs,T,rfl,heap_alloc_new w _,by simpa using h.len,λi d hd=> ?_,hty⟩
 obtain⟨u,hu,hr'⟩:=h.at hd;have e:vs.getD i undef=u:=by rw[Array.getD_eq_getD_getElem?];rw[Array.getElem?_toList]at hu;rw[hu];rfl
 rw[e];exact hr'.mono (PD m _) (λ_ h=>h) λj hj=>hpl j λej=>hr d (List.mem_of_getElem? hd) (by rw[hj,ej])
theorem RI(m:tY P b0 N σ a w S pl){vs:Array Value}{cs:List D}(T:TypeId)(h:xE (Rp w S) vs.toList cs):
  tY P b0 N σ a (w.alloc (.cells vs T)) (λb=>S b∨b=w.heap.size) pl∧Rp (w.alloc (.cells vs T)) (λb=>S b∨b=w.heap.size) (.pointer (some ⟨w.heap.size,0,none⟩)) (.iptr cs 0):=by
 refine⟨m.newS _,Rp.iptr_mk (.inr rfl) λi d hd=> ?_⟩
 obtain⟨u,hu,hr'⟩:=h.at hd;refine⟨u,?_,hr'.mono (PD m _) λ_ h=> .inl h⟩
 rw[World.cell?_alloc_new];simpa using hu
theorem za2(k b:Nat):Rd w S (R3 pl k (.pointer (some ⟨b,0,none⟩))) (.pointer (some ⟨b,0,none⟩)) (.ptr k 0):=⟨b,if_pos rfl,rfl⟩
theorem zfa(F:uK P E)(m:tY P b0 N σ a w S pl){x:Operand}(ho:o.op=.move x∨o.op=.assign x)(h:BI E A o (σ.ev x) σ K)(hn:tK P b0 N o a K next):o.wp P a w next Q:=by
 have hrun:(execOp a.eval o).run P w=.ok (.value (a.eval x)) w:=by
  rcases ho with ho|ho<;>·unfold execOp;rw[ho];rfl
 have hx:=uY m x;have plain:∀d,σ.ev x=d→K d σ→o.wp P a w next Q:=λd e h=>yG hrun (hn _ _ _ _ _ _ h m (e▸hx))
 unfold BI at h
 split at h
 ·rename_i e
  rw[e]at hx
  have hv:=(hx.flat (d:=.nil) rfl).nil_inv;split at h
  ·rename_i te t hl
   split at h
   ·rename_i k hk
    refine yG hrun (hn _ _ _ _ _ _ h (m.mk' (w':=w) k (gS hk) (.row te t []) (.slice none 0 0) (Below.refl _ _) (λb hb=>by cases hb) λpl' _=> ?_) ?_)
    ·exact⟨by simp[lim],[],rfl,by simpa using World.ownsRow_nil w 0 te t.size,by simp,by simp⟩
    ·show a.eval x=_;rw[hv];exact(if_pos rfl).symm
   ·cases hb:ziM A o.dst with
    |true=>rw[hb,cond_true]at h;exact yG hrun (hn _ _ _ _ _ _ h m (by rw[hv];exact Rp.rd (.slN _ _ _ _ ⟨[.slice none 0 0],rfl,none,0,rfl,by simp,by simp,by simp,λ_=>rfl,λhn=>absurd hn (by simp)⟩ (λe=>by cases e) λ_=>rfl)))
    |false=>
    rw[hb,cond_false]at h
    exact yG hrun (hn _ _ _ _ _ _ h m (by rw[hv];exact Rp.rd (.sl _ _ _ ⟨[.slice none 0 0],rfl,none,0,rfl,by simp,by simp,by simp,λ_=>rfl,λhn=>absurd hn (by simp)⟩)))
  ·exact plain _ e h
 ·rename_i d hne
  exact plain _ rfl h
theorem zhv(m:tY P b0 N σ a w S pl){c x y:Operand}(ho:o.op=.pick c x y){t:Bool}(hc:σ.ev c=.bool t)(h:zP t (K (σ.ev x) σ) (K (σ.ev y) σ))(hn:tK P b0 N o a K next):o.wp P a w next Q:=by
 have hcv:a.eval c=.bool t:=by have:=uY m c;rw[hc]at this;exact(this.flat (d:=.bool t) rfl).bool_inv
 have hrun:(execOp a.eval o).run P w=.ok (.value (if t then a.eval x else a.eval y)) w:=by
  unfold execOp;rw[ho];simp only[hcv];rfl
 cases t
 ·exact yG hrun (hn _ _ _ _ _ _ h m (uY m y))
 ·exact yG hrun (hn _ _ _ _ _ _ h m (uY m x))
theorem Cl:∀ {vs:List Value} {ds:List D},K4 vs ds=true→∀d∈ds,d.ref=none
 |[],[],_,d,hd=>by cases hd
 |v::vs,e::ds,h,d,hd=>by
  simp only[K4,Bool.and_eq_true]at h
  rcases List.mem_cons.1 hd with rfl|hd
  ·have h1:=h.1
   cases d
   case own k=>cases v<;>simp[zB]at h1
   case ptr k off=>cases v<;>simp[zB]at h1
   case oelt k sz i off=>cases v<;>simp[zB]at h1
   case ownN k=>cases v<;>simp[zB]at h1
   case clp f bd k off=>cases v<;>simp[zB]at h1
   case slf k=>cases v<;>simp[zB]at h1
   all_goals rfl
  ·exact Cl h.2 d hd
 |[],_::_,h,_,_=>by simp[K4]at h
 |_::_,[],h,_,_=>by simp[K4]at h
theorem zfb(F:uK P E)(m:tY P b0 N σ a w S pl){T:TypeId}(ho:o.op=.alloc T)(h:Ix E A o T σ K)(hn:tK P b0 N o a K next):o.wp P a w next Q:=by
 unfold Ix at h
 split at h
 ·rename_i ag cs hl
  obtain⟨i,z,u,hi,hz,hsz,hu,hag,hzb⟩:=(F.zs T ag cs hl).ex
  have hrun:(execOp a.eval o).run P w=.ok (.value (.pointer (some ⟨w.heap.size,0,none⟩))) (w.alloc (.cells z.cells T)):=by
   unfold execOp;rw[ho];simp[Instr.alloc,zeroValue,typeInfo,hi,hz,newVar,newRow,newObj];rfl
  have hrd:xE (Rp w S) z.cells.toList cs:=PB hzb;split at h
  ·rename_i k hk
   exact yG hrun (hn _ _ _ _ _ _ h (Ck m k (gS hk) T hrd.rd (F.zs T ag cs hl).ty λd hd e=>by rw[Cl hzb d hd]at e;cases e) (za2 k _))
  ·exact yG hrun (hn _ _ _ _ _ _ h (RI m T hrd).1 (RI m T hrd).2.rd)
 ·exact h.elim
theorem zi6(F:uK P E)(m:tY P b0 N σ a w S pl){T:TypeId}{x:Operand}(ho:o.op=.box T x)(h:ze3 E A o T (σ.ev x) σ K)(hn:tK P b0 N o a K next):o.wp P a w next Q:=by
 have hrun:(execOp a.eval o).run P w=.ok (.value (.pointer (some ⟨w.heap.size,0,none⟩))) (w.alloc (.cells (a.eval x).cells T)):=by
  unfold execOp;rw[ho];simp[Instr.box,newVar,newRow,newObj];rfl
 have hx:=MI (E:=E) T (uY m x);unfold ze3 at h
 split at h
 ·rename_i cs hc
  have hcs:=zdB m hx hc;split at h
  ·rename_i k hk
   cases hr:D9 k T cs with
   |true=>rw[hr]at h;exact h.elim
   |false=>
    rw[hr,cond_false]at h
    simp only[D9,Bool.or_eq_false_iff]at hr
    refine yG hrun (hn _ _ _ _ _ _ h (Ck m k (gS hk) T hcs (λe=>by have:=hr.2;rw[e]at this;simpa using this) λd hd e=> ?_) (za2 k _))
    have:=List.any_eq_false.1 hr.1 d hd;simp only[ze2,e,yU.2 (rfl:k=k),not_true_eq_false]at this
  ·obtain⟨σ',ds',S',hK,hS,m',hv⟩:=rU h m
   exact yG hrun (hn _ _ _ _ _ _ hK (RI m' T (hv _ hcs)).1 (RI m' T (hv _ hcs)).2.rd)
 ·exact h.elim
theorem PE(m:tY P b0 N σ a w S pl)(h:Rd w S pl v d){cs:List D}(hc:dY σ d=some cs):
  ∃b off,v=.pointer (some ⟨b,off,none⟩)∧∀j d,cs[j]? =some d→∃u,w.cell? ⟨b,off+j,none⟩=some u∧Rd w S pl u d:=by
 cases d<;>simp only[dY]at hc
 case ptr k off=>
  obtain⟨b,hp,rfl⟩:=h;cases ho:σ.ob k with
  |none=>rw[ho]at hc;cases hc
  |some o=>
   cases o with
   |row e t xs=>rw[ho]at hc;cases hc
   |mp kt vt es=>rw[ho]at hc;cases hc
   |val ds=>rw[ho]at hc;cases hc
   |cells ds=>
    rw[ho]at hc;injection hc with hc;subst hc
    obtain⟨b',vs,T,e1,e2,e3,e4,_⟩:=m.hp k _ ho;rw[hp]at e1;injection e1 with e1;injection e1 with e1;injection e1 with e1;subst e1
    refine⟨b,off,rfl,λj d hd=> ?_⟩
    rw[List.getElem?_drop]at hd
    refine⟨vs.getD (off+j) undef,?_,e4 _ d hd⟩;have hi:off+j<vs.size:=by rw[e3];exact(List.getElem?_eq_some_iff.1 hd).1
    rw[cell_of_row w b _ vs T (0,0) e2];simp[Array.getD_eq_getD_getElem?,hi]
 case iptr ds off=>
  injection hc with hc;subst hc
  obtain⟨b,rfl,hb,hcell⟩:=(h.flat (d:=.iptr ds off) rfl).iptr_inv;refine⟨b,off,rfl,λj d hd=> ?_⟩
  rw[List.getElem?_drop]at hd
  obtain⟨u,hu,hr⟩:=hcell _ d hd;exact⟨u,hu,hr.rd⟩
 case elt t xs i off=>
  injection hc with hc;subst hc
  obtain⟨b,o',c,rfl,hi,hr⟩:=(h.flat (d:=.elt t xs i off) rfl).elt_inv;obtain⟨b',o'',cs',e,hb,hrd,hcell⟩:=Ps hr hi;injection e with e;injection e with e1 e2;subst e1 e2
  have ha:=oW t hrd;refine⟨b,o'+i*t.size+off,rfl,λj d hd=> ?_⟩
  rw[List.getElem?_drop]at hd
  rw[List.getD_eq_getElem?_getD,List.getElem?_eq_getElem hi,Option.getD_some]at hd
  obtain⟨u,hu,hr'⟩:=ha.at hd;refine⟨u,?_,hr'.rd⟩;have:=hcell _ u hu;rw[←Ty.size_eq]at this
  rw[show o'+i*t.size+off+j=o'+i*t.size+(off+j) by omega]
  exact this
 case oelt k sz i off=>
  obtain⟨b,n,c,hp,hi,rfl⟩:=h;cases ho:σ.ob k with
  |none=>rw[ho]at hc;cases hc
  |some o=>
   cases o with
   |cells ds=>rw[ho]at hc;cases hc
   |mp kt vt es=>rw[ho]at hc;cases hc
   |val ds=>rw[ho]at hc;cases hc
   |row e t xs=>
    rw[ho]at hc
    simp only at hc
    cases hz:Nat.beq sz t.size with
    |false=>rw[hz]at hc;cases hc
    |true=>
     rw[hz,cond_true]at hc;injection hc with hc;subst hc
     obtain⟨_,css,h1,h2,h3,h4⟩:=m.hp k _ ho;rw[yU.1 hz];rcases h2.2 with⟨e,_⟩|⟨g,cap,cur,e,_,hg,hcap,hmax,hcur,htake⟩
     ·rw[hp]at e;cases e
     ·have e':=e
      rw[hp]at e;injection e with e e5 e6;injection e with e;injection e with e;subst e e5
      refine⟨b,i*t.size+off,rfl,λj d hd=> ?_⟩
      rw[List.getElem?_drop,List.getD_eq_getElem?_getD,List.getElem?_eq_getElem hi,Option.getD_some]at hd
      have hci:css[i]? =some (css[i]'(by omega)):=List.getElem?_eq_getElem (by omega)
      have hrd:=h4 i xs[i] _ (List.getElem?_eq_getElem hi) hci;obtain⟨u,hu,hr'⟩:=(oW t hrd).at hd;refine⟨u,?_,hr'.rd⟩;have hf:=J8 css h3 i (off+j) _ u hci hu;have:=h2.cells (g:=b) (by rw[e'];rfl) _ _ hf
      rw[←this,show i*t.size+off+j=i*t.size+(off+j) by omega]
      unfold Addr.add;split
      ·rename_i e0;rw[e0]
      ·simp
 all_goals cases hc
theorem Cm(R:Value→D→Prop)(b:Nat):∀(cs:List D) (off:Nat),(∀j d,cs[j]? =some d→∃u,w.cell? ⟨b,off+j,none⟩=some u∧R u d)→
  ∃vs:List Value,xE R vs cs∧∀(j:Nat) (u:Value),vs[j]? =some u→w.cell? ⟨b,off+j,none⟩=some u
 |[],_,_=>⟨[],.nil,λj u h=>by simp at h⟩
 |d::cs,off,h=>by
  obtain⟨u,hu,hr⟩:=h 0 d rfl
  obtain⟨vs,h1,h2⟩:=Cm R b cs (off+1) λj d hd=>by
   obtain⟨u,hu,hr⟩:=h (j+1) d (by simpa using hd)
   exact⟨u,by rw[show off+1+j=off+(j+1) by omega];exact hu,hr⟩
  refine⟨u::vs,.cons hr h1,λj v hv=> ?_⟩
  cases j with
  |zero=>simp at hv;subst hv;exact hu
  |succ j=>rw[show off+(j+1)=off+1+j by omega];exact h2 j v (by simpa using hv)
theorem W2{T:TypeId}{u:TypeDesc}(hu:P.underlying T=some u):(isAgg T).run P w=.ok (ze9 u) w:=by
 unfold isAgg;simp only[Sem.run_bind,run_underlying hu,Result.andThen_ok];cases u<;>rfl
theorem zhw(F:uK P E)(m:tY P b0 N σ a w S pl){T:TypeId}{x:Operand}(ho:o.op=.load T x)(h:zcH E A T (σ.ev x) σ K)(hn:tK P b0 N o a K next):o.wp P a w next Q:=by
 have hx:=uY m x;unfold zcH at h
 split at h
 ·rename_i ag zs hl
  obtain⟨i,z,u,hi,hz,hsz,hu,hag,hzb⟩:=(F.zs T ag zs hl).ex;split at h
  ·rename_i cs hc
   obtain⟨b,off,hv,hcell⟩:=PE m hx hc;cases hle:Nat.ble zs.length cs.length with
   |false=>rw[hle]at h;exact h.elim
   |true=>
    rw[hle,cond_true]at h
    have hle:=Nat.le_of_ble_eq_true hle;split at h
    ·rename_i hl'
     obtain⟨vs,h1,h2⟩:=Cm (Rd w S pl) b (cs.take zs.length) off λj d hd=>hcell j d (by
      rw[List.getElem?_take]at hd;split at hd
      ·exact hd
      ·cases hd)
     have hlen:vs.length=zs.length:=by rw[h1.len,List.length_take];omega
     have hload:(loadCells ⟨b,off,none⟩ zs.length).run P w=.ok vs.toArray w:=by
      rw[←hlen];refine run_loadCells_list (P:=P) w ⟨b,off,none⟩ vs λj u hu=> ?_
      have:=h2 j u hu;unfold Addr.add;split
      ·rename_i e;subst e;simpa using this
      ·exact this
     have hrun:(execOp a.eval o).run P w=.ok (.value (.agg vs.toArray)) w:=by
      unfold execOp;rw[ho];have hs:(sizeOf T).run P w=.ok zs.length w:=by simp[sizeOf,typeInfo,hi,hsz]
      simp only[Instr.loadAt,hv,Instr.sureAddr,loadVar,Sem.run_bind,Sem.run_pure,Result.andThen_ok,W2 hu,hag,if_true,hs,hload]
     obtain⟨σ',ds',S',hK,hS,m',hv'⟩:=rU h m;have hr:=hv' vs h1;refine yG hrun (hn _ _ _ _ _ _ hK m' (Rp.rd (.agg _ _ (by simpa using hr.len) λj d hd=> ?_)))
     obtain⟨u,hu,hr'⟩:=hr.at hd;rw[Array.getD_eq_getD_getElem?];simpa[hu]using hr'
    ·have hone:=(F.zs T _ zs hl).one rfl
     cases cs with
     |cons d r=>
      obtain⟨u',hu',hr⟩:=hcell 0 d rfl
      have hld:(load ⟨b,off,none⟩).run P w=.ok u' w:=by
       have:w.cell? ⟨b,off,none⟩=some u':=hu';simp only[load,Sem.run,this]
      have hrun:(execOp a.eval o).run P w=.ok (.value u') w:=by
       unfold execOp;rw[ho];simp only[Instr.loadAt,hv,Instr.sureAddr,loadVar,Sem.run_bind,Sem.run_pure,Result.andThen_ok,W2 hu,hag,Bool.false_eq_true,if_false,hld]
      exact yG hrun (hn _ _ _ _ _ _ h m hr)
     |nil=>exact h.elim
  ·exact h.elim
 ·exact h.elim
end
section
variable {P:Program}{E:TE}{A:xP}{b0:XW}{w w':World}{S S':Nat→Prop}{pl pl':Nat→Value}{N:Nat}{σ:St}{a:Act}{v:Value}{d:D}{o:Oper}{K:D→St→Prop}{next:Act→World→Prop}{Q:Exit→Act→World→Prop}
theorem Kn(F:uK P E){T:TypeId}{f off:Nat}(h:Cc E T f=some off)(b q:Nat):(Instr.fieldAt T (.pointer (some ⟨b,q,none⟩)) f).run P w=.ok (.pointer (some ⟨b,q+off,none⟩)) w:=by
 unfold Cc at h
 split at h
 ·rename_i offs hl
  split at h
  ·rename_i off' sz hf
   injection h with h;subst h
   obtain⟨fs,hu,hm,hz⟩:=F.fld T offs hl
   obtain⟨fd,hfd,hfm⟩:∃fd,fs[f]? =some fd∧(P.info? fd.type).map (λi=>(fd.offset,i.size))=some (off',sz):=by
    have key:∀(l:List Field) (offs:List (Nat×Nat)) (f:Nat),l.mapM (λf=>(P.info? f.type).map λi=>(f.offset,i.size))=some offs→offs[f]? =some (off',sz)→
      ∃fd,l[f]? =some fd∧(P.info? fd.type).map (λi=>(fd.offset,i.size))=some (off',sz):=by
     intro l
     induction l with
     |nil=>intro offs f h1 h2;simp at h1;subst h1;simp at h2
     |cons x l ih=>
      intro offs f h1 h2;rw[List.mapM_cons]at h1
      cases hx:(P.info? x.type).map λi=>(x.offset,i.size)with
      |none=>simp[hx]at h1
      |some y=>
       rw[hx]at h1
       cases hr:l.mapM (λf=>(P.info? f.type).map λi=>(f.offset,i.size))with
       |none=>simp[hr]at h1
       |some ys=>
        rw[hr]at h1
        simp at h1
        subst h1;cases f with
        |zero=>simp at h2;subst h2;exact⟨x,rfl,hx⟩
        |succ f=>simpa using ih ys f hr (by simpa using h2)
    obtain⟨fd,h1,h2⟩:=key fs.toList offs f hm hf;exact⟨fd,by simpa using h1,h2⟩
   cases hi:P.info? fd.type with
   |none=>rw[hi]at hfm;cases hfm
   |some i=>
    rw[hi]at hfm
    simp only[Option.map_some,Option.some.injEq,Prod.mk.injEq]at hfm
    have hne:i.size≠0:=by
     have:=List.all_eq_true.1 hz _ (List.mem_of_getElem? hf);intro e;rw[←hfm.2,e]at this
     simp at this
    have hs:(sizeOf fd.type).run P w=.ok i.size w:=by simp[sizeOf,typeInfo,hi]
    have hplace:(fieldPlace ⟨b,q,none⟩ fd).run P w=.ok ⟨b,q+off',none⟩ w:=by
     simp only[fieldPlace,Sem.run_bind,hs,Result.andThen_ok,if_neg hne,Sem.run_pure,hfm.1];unfold Addr.add;split
     ·rename_i e;simp[e]
     ·rfl
    simp[Instr.fieldAt,Sem.run_bind,run_underlying hu,Result.andThen_ok,hfd,Instr.sureAddr,hplace]
  ·cases h
 ·cases h
theorem zfc(F:uK P E)(m:tY P b0 N σ a w S pl){T:TypeId}{x:Operand}{f:Nat}(ho:o.op=.fieldAddr T x f)(h:Iy E T (σ.ev x) f λd=>K d σ)(hn:tK P b0 N o a K next):o.wp P a w next Q:=by
 have hx:=uY m x
 have run:∀b q off,a.eval x=.pointer (some ⟨b,q,none⟩)→Cc E T f=some off→(execOp a.eval o).run P w=.ok (.value (.pointer (some ⟨b,q+off,none⟩))) w:=λb q off e hf=>by
  unfold execOp;rw[ho];simp only[e,Sem.run_bind,Kn F hf,Result.andThen_ok,Sem.run_pure]
 unfold Iy at h
 split at h
 ·rename_i off hf
  split at h
  ·rename_i k q e
   rw[e]at hx
   obtain⟨b,hp,hv⟩:=hx;exact yG (run b q off hv hf) (hn _ _ _ _ _ _ h m ⟨b,hp,rfl⟩)
  ·rename_i cs q e
   rw[e]at hx
   obtain⟨b,hv,hb,hc⟩:=(hx.flat (d:=.iptr cs q) rfl).iptr_inv;exact yG (run b q off hv hf) (hn _ _ _ _ _ _ h m (Rp.rd (Rp.iptr_mk hb hc)))
  ·rename_i t xs i q e
   rw[e]at hx
   obtain⟨b,o',c,hv,hi,hr⟩:=(hx.flat (d:=.elt t xs i q) rfl).elt_inv;refine yG (run b _ off hv hf) (hn _ _ _ _ _ _ h m ?_);rw[show o'+i*t.size+q+off=o'+i*t.size+(q+off) by omega]
   exact Rp.rd (.elt t xs i (q+off) b o' c hi hr)
  ·rename_i k sz i q e
   rw[e]at hx
   obtain⟨b,n,c,hp,hi,hv⟩:=hx;refine yG (run b _ off hv hf) (hn _ _ _ _ _ _ h m ⟨b,n,c,hp,hi,?_⟩);rw[show i*sz+q+off=i*sz+(q+off) by omega]
  ·exact h.elim
 ·exact h.elim
theorem IB{n:Int}{len:Nat}(h:wI n len=true):0≤n∧n<(len:Int):=by simpa[wI]using h
theorem PF(F:uK P E){T e:TypeId}{t:Ty}(h:zV T E.sl=some (e,t)):(sizeOf e).run P w=.ok t.size w:=by
 obtain⟨_,i,z,hi,hz,hs,hb,_⟩:=F.sl T e t h;simp[sizeOf,typeInfo,hi,hs]
theorem Ko(F:uK P E){T e:TypeId}{t:Ty}(h:zV T E.sl=some (e,t))(b q len c:Nat)(k:IntKind)(n:Int)(h0:0≤n)(h1:n<(len:Int)):
  (Instr.indexAt T (.slice (some ⟨b,q,none⟩) len c) (.int k n)).run P w=.ok (.pointer (some ⟨b,q+n.toNat*t.size,none⟩)) w:=by
 have hu:=(F.sl T e t h).und;simp only[Instr.indexAt,asIntOf,Sem.run_bind,Sem.run_pure,Result.andThen_ok,run_underlying hu];simp only[h0,h1,and_self,if_true,Sem.run_bind,PF F h,Result.andThen_ok,Sem.run_pure];unfold Addr.add;split
 ·rename_i e;simp[e]
 ·rfl
theorem Cn(F:uK P E)(m:tY P b0 N σ a w S pl){T:TypeId}{x ix:Operand}(ho:o.op=.indexAddr T x ix)(h:VS E T (σ.ev x) (σ.ev ix) σ λd=>K d σ)(hn:tK P b0 N o a K next):o.wp P a w next Q:=by
 have hx:=uY m x;have hi:=uY m ix;unfold VS at h
 split at h
 ·rename_i e t' hl
  split at h
  ·rename_i k n ei
   rw[ei]at hi
   have hi:=(hi.flat (d:=.int k n) rfl).int_inv.1;split at h
   ·rename_i t xs ex
    rw[ex]at hx
    cases hz:Nat.beq t'.size t.size with
    |false=>rw[hz]at h;exact h.elim
    |true=>
     rw[hz,cond_true]at h
     obtain⟨hin,h⟩:=h;obtain⟨h0,h1⟩:=IB hin;have hr:=(hx.flat (d:=.sl t xs) rfl).sl_inv;obtain⟨A',c,hv,_⟩:=uO hr;have hlt:n.toNat<xs.length:=by omega
     have hr':=hr;rw[hv]at hr'
     obtain⟨b,q,_,hA,_⟩:=Ps hr' hlt;subst hA
     have hrun:(execOp a.eval o).run P w=.ok (.value (.pointer (some ⟨b,q+n.toNat*t'.size,none⟩))) w:=by
      unfold execOp;rw[ho];simp only[hv,hi,Sem.run_bind,Ko F hl b q xs.length c k n h0 h1,Result.andThen_ok,Sem.run_pure]
     rw[yU.1 hz]at hrun
     exact yG hrun (hn _ _ _ _ _ _ h m (Rp.rd (.elt t xs n.toNat 0 b q c hlt hr')))
   ·rename_i k' ex
    rw[ex]at hx
    have hx:a.eval x=pl k':=hx;split at h
    ·rename_i e' t xs hob
     cases hz:Nat.beq t'.size t.size with
     |false=>rw[hz]at h;exact h.elim
     |true=>
      rw[hz,cond_true]at h
      obtain⟨hin,h⟩:=h;obtain⟨h0,h1⟩:=IB hin;obtain⟨_,css,q1,q2,_,_⟩:=m.hp k' _ hob;rcases q2.2 with⟨_,e0⟩|⟨g,cap,cur,ep,_⟩
      ·omega
      ·have hrun:(execOp a.eval o).run P w=.ok (.value (.pointer (some ⟨g,0+n.toNat*t'.size,none⟩))) w:=by
        unfold execOp;rw[ho];simp only[hx,ep,hi,Sem.run_bind,Ko F hl g 0 xs.length cap k n h0 h1,Result.andThen_ok,Sem.run_pure]
       rw[yU.1 hz]at hrun
       exact yG hrun (hn _ _ _ _ _ _ h m ⟨g,xs.length,cap,ep,by omega,by simp⟩)
    ·exact h.elim
   ·exact h.elim
  ·exact h.elim
 ·exact h.elim
theorem zfd(F:uK P E)(m:tY P b0 N σ a w S pl){T:TypeId}{x ix:Operand}(ho:o.op=.index T x ix)(h:Cd E T (σ.ev x) (σ.ev ix) λd=>K d σ)(hn:tK P b0 N o a K next):o.wp P a w next Q:=by
 have hx:=uY m x;have hi:=uY m ix;unfold Cd at h
 split at h
 ·rename_i s k n ex ei
  rw[ex]at hx;rw[ei]at hi
  have hi:=(hi.flat (d:=.int k n) rfl).int_inv.1;have hx:=(hx.flat (d:=.str s) rfl).str_inv.1;cases hm:rC T E.strs with
  |false=>rw[hm]at h;exact h.elim
  |true=>
   rw[hm,cond_true]at h
   obtain⟨hin,h⟩:=h;obtain⟨h0,h1⟩:=IB hin;have hlt:n.toNat<s.size:=by omega
   have hs:s[n.toNat]? =some s[n.toNat]:=by simp[hlt]
   have hrun:(execOp a.eval o).run P w=.ok (.value (.int .u8 (nN s n.toNat))) w:=by
    unfold execOp;rw[ho];simp only[hx,hi,Instr.index,asIntOf,Sem.run_bind,Sem.run_pure,Result.andThen_ok,run_underlying (F.strs T hm),h0,if_true,hs]
    have:s[n.toNat].toNat=(s.data.getD n.toNat 0).toNat:=by
     rw[Array.getD_eq_getD_getElem?];have:n.toNat<s.data.size:=hlt;rw[Array.getElem?_eq_getElem this];rfl
    rw[nN,this]
   exact yG hrun (hn _ _ _ _ _ _ h m (Rp.rd (.int _ _ (by unfold inK nN;have:=(s.data.getD n.toNat 0).toNat_lt;omega))))
 ·exact h.elim
theorem za3(m:tY P b0 N σ a w S pl){x:Operand}{i:Nat}(ho:o.op=.extract x i)(h:O0 (σ.ev x) i λd=>K d σ)(hn:tK P b0 N o a K next):o.wp P a w next Q:=by
 have hx:=uY m x;unfold O0 at h
 split at h
 ·rename_i ds e
  rw[e]at hx
  obtain⟨vs,hv,hl,hr⟩:=(hx.flat (d:=.tup ds) rfl).tup_inv;split at h
  ·rename_i d hd
   have hi:i<vs.size:=by rw[hl];exact(List.getElem?_eq_some_iff.1 hd).1
   have hrun:(execOp a.eval o).run P w=.ok (.value (vs.getD i undef)) w:=by
    unfold execOp;rw[ho];simp only[hv,Instr.extract,Array.getElem?_eq_getElem hi,Sem.run_bind,Sem.run_pure,Result.andThen_ok];rw[Array.getD_eq_getD_getElem?,Array.getElem?_eq_getElem hi];rfl
   exact yG hrun (hn _ _ _ _ _ _ h m (hr i d hd).rd)
  ·exact h.elim
 ·exact h.elim
theorem BN(m:tY P b0 N σ a w S pl){x:Operand}(ho:o.op=.nilCheck x)(h:Cj P E A o σ K)(hn:tK P b0 N o a K next):o.wp P a w next Q:=by
 have hx:=uY m x
 have run:∀p,a.eval x=.pointer (some p)→(execOp a.eval o).run P w=.ok (.value (a.eval x)) w:=λp e=>by
  unfold execOp;rw[ho];simp only[e];rfl
 unfold Cj at h
 rw[ho]at h
 simp only at h
 split at h
 ·rename_i k off e
  rw[e]at hx
  obtain⟨b,hp,hv⟩:=hx;exact yG (run _ hv) (hn _ _ _ _ _ _ h m ⟨b,hp,hv⟩)
 ·rename_i cs off e
  rw[e]at hx
  obtain⟨b,hv,_⟩:=(hx.flat (d:=.iptr cs off) rfl).iptr_inv;exact yG (run _ hv) (hn _ _ _ _ _ _ h m hx)
 ·rename_i t xs i off e
  rw[e]at hx
  obtain⟨b,o',c,hv,_⟩:=(hx.flat (d:=.elt t xs i off) rfl).elt_inv;exact yG (run _ hv) (hn _ _ _ _ _ _ h m hx)
 ·rename_i k sz i off e
  rw[e]at hx
  obtain⟨b,n,c,hp,hi,hv⟩:=hx;exact yG (run _ hv) (hn _ _ _ _ _ _ h m ⟨b,n,c,hp,hi,hv⟩)
 ·exact h.elim
theorem EM(op:BinOp)(T:TypeId)(x y:Operand)(u v:Value)(h:∀cs,u≠ .agg cs)(h':u≠ .nilIface):(eqGuard op T x y u v).run P w=.ok () w:=by
 cases u<;>first|exact absurd rfl h'|exact absurd rfl (h _)|(unfold eqGuard;cases op<;>rfl)
theorem zhx{a b:Int}(ha:yQ a):yQ (a.tmod b):=by
 unfold yQ at*
 have h1:(a.tmod b).natAbs≤a.natAbs:=by rw[Int.natAbs_tmod];exact Nat.mod_le _ _
 have h2:0≤a→0≤a.tmod b:=λh=>Int.tmod_nonneg _ h
 have h3:a≤0→a.tmod b≤0:=λh=>by
  have:=Int.tmod_nonneg b (a:= -a) (by omega)
  rw[Int.neg_tmod]at this;omega
 by_cases h:0≤a
 ·have:=h2 h;omega
 ·have:=h3 (by omega);omega
theorem zi7(F:uK P E)(m:tY P b0 N σ a w S pl){op:BinOp}{T T':TypeId}{x y:Operand}(ho:o.op=.binOp op T x y T')(h:ze4 E op T (σ.ev x) (σ.ev y) λd=>K d σ)(hn:tK P b0 N o a K next):o.wp P a w next Q:=by
 have hx:=uY m x;have hy:=uY m y
 have run:∀u,(∀cs,a.eval x≠ .agg cs)→a.eval x≠ .nilIface→(binOp op T (a.eval x) (a.eval y)).run P w=.ok u w→(execOp a.eval o).run P w=.ok (.value u) w:=λu h1 h2 h3=>by
  unfold execOp;rw[ho];simp only[Sem.run_bind,EM op T x y _ _ h1 h2,Result.andThen_ok,h3,Sem.run_pure]
 unfold ze4 at h
 split at h
 ·rename_i p q ex ey
  rw[ex]at hx;rw[ey]at hy
  obtain⟨hx,kx⟩:=(hx.flat (d:=.int .i64 p) rfl).int_inv;obtain⟨hy,ky⟩:=(hy.flat (d:=.int .i64 q) rfl).int_inv;have n1:∀cs,a.eval x≠ .agg cs:=λcs e=>by rw[hx]at e;cases e
  have n2:a.eval x≠ .nilIface:=λe=>by rw[hx]at e;cases e
  have ib:∀n:Int,Rd w S pl (.int .i64 (yW n)) (.int .i64 (yW n)):=λn=>Rp.rd (.int _ _ (D6 n))
  have bb:∀b:Bool,Rd w S pl (.bool b) (.bool b):=λb=>Rp.rd (.bool b)
  split at h
  case h_1=>exact yG (run _ n1 n2 (by rw[hx,hy];rfl)) (hn _ _ _ _ _ _ h m (ib _))
  case h_2=>exact yG (run _ n1 n2 (by rw[hx,hy];rfl)) (hn _ _ _ _ _ _ h m (ib _))
  case h_3=>exact yG (run _ n1 n2 (by rw[hx,hy];rfl)) (hn _ _ _ _ _ _ h m (ib _))
  case h_4=>exact yG (run (.int .i64 (yW (p.tdiv q))) n1 n2 (by rw[hx,hy];simp[binOp,Op.intDiv,h.1];rfl)) (hn _ _ _ _ _ _ h.2 m (ib _))
  case h_5=>exact yG (run (.int .i64 (p.tmod q)) n1 n2 (by rw[hx,hy];simp[binOp,Op.intDiv,h.1])) (hn _ _ _ _ _ _ h.2 m (Rp.rd (.int _ _ (zhx kx))))
  case h_6=>exact yG (run (.bool (decide (p=q))) n1 n2 (by rw[hx,hy];rfl)) (hn _ _ _ _ _ _ h m (bb _))
  case h_7=>exact yG (run (.bool (!decide (p=q))) n1 n2 (by rw[hx,hy];rfl)) (hn _ _ _ _ _ _ h m (bb _))
  case h_8=>exact yG (run _ n1 n2 (by rw[hx,hy];rfl)) (hn _ _ _ _ _ _ h m (bb _))
  case h_9=>exact yG (run _ n1 n2 (by rw[hx,hy];rfl)) (hn _ _ _ _ _ _ h m (bb _))
  case h_10=>exact yG (run (.bool (decide (q<p))) n1 n2 (by rw[hx,hy];rfl)) (hn _ _ _ _ _ _ h m (bb _))
  case h_11=>exact yG (run (.bool (decide (q≤p))) n1 n2 (by rw[hx,hy];rfl)) (hn _ _ _ _ _ _ h m (bb _))
  case h_12=>exact h.elim
 ·rename_i p q ex ey
  rw[ex]at hx;rw[ey]at hy
  obtain⟨hx,kx⟩:=(hx.flat (d:=.int .u8 p) rfl).int_inv;obtain⟨hy,ky⟩:=(hy.flat (d:=.int .u8 q) rfl).int_inv;have n1:∀cs,a.eval x≠ .agg cs:=λcs e=>by rw[hx]at e;cases e
  have n2:a.eval x≠ .nilIface:=λe=>by rw[hx]at e;cases e
  have bb:∀b:Bool,Rd w S pl (.bool b) (.bool b):=λb=>Rp.rd (.bool b)
  split at h
  case h_1=>exact yG (run (.bool (decide (p=q))) n1 n2 (by rw[hx,hy];rfl)) (hn _ _ _ _ _ _ h m (bb _))
  case h_2=>exact yG (run (.bool (!decide (p=q))) n1 n2 (by rw[hx,hy];rfl)) (hn _ _ _ _ _ _ h m (bb _))
  case h_3=>exact yG (run _ n1 n2 (by rw[hx,hy];rfl)) (hn _ _ _ _ _ _ h m (bb _))
  case h_4=>exact yG (run _ n1 n2 (by rw[hx,hy];rfl)) (hn _ _ _ _ _ _ h m (bb _))
  case h_5=>exact yG (run (.bool (decide (q<p))) n1 n2 (by rw[hx,hy];rfl)) (hn _ _ _ _ _ _ h m (bb _))
  case h_6=>exact yG (run (.bool (decide (q≤p))) n1 n2 (by rw[hx,hy];rfl)) (hn _ _ _ _ _ _ h m (bb _))
  case h_7=>exact h.elim
 ·rename_i p q ex ey
  rw[ex]at hx;rw[ey]at hy
  obtain⟨hx,kx⟩:=(hx.flat (d:=.str p) rfl).str_inv;obtain⟨hy,ky⟩:=(hy.flat (d:=.str q) rfl).str_inv;have n1:∀cs,a.eval x≠ .agg cs:=λcs e=>by rw[hx]at e;cases e
  have n2:a.eval x≠ .nilIface:=λe=>by rw[hx]at e;cases e
  have bb:∀b:Bool,Rd w S pl (.bool b) (.bool b):=λb=>Rp.rd (.bool b)
  have eqs:(p.toList==q.toList)=decide (p=q):=by
   rw[Bool.eq_iff_iff];simp only[beq_iff_eq,decide_eq_true_eq];refine⟨λe=> ?_,λe=>by rw[e]⟩
   apply ByteArray.ext;apply Array.ext';rw[ByteArray.toList_eq,ByteArray.toList_eq]at e;exact e
  split at h
  case h_1=>exact yG (run (.bool (decide (p=q))) n1 n2 (by rw[hx,hy,←eqs];rfl)) (hn _ _ _ _ _ _ h m (bb _))
  case h_2=>exact yG (run (.bool (!decide (p=q))) n1 n2 (by rw[hx,hy,←eqs];rfl)) (hn _ _ _ _ _ _ h m (bb _))
  case h_3=>
   refine yG (run (.string (p++q)) n1 n2 ?_) (hn _ _ _ _ _ _ h.2 m (Rp.rd (.str _ (by rw[ByteArray.size_append];exact h.1))))
   rw[hx,hy]
   have:¬(((p.size+q.size:Nat):Int)>IntKind.i64.max):=by
    have:IntKind.i64.max=9223372036854775807:=by decide
    rw[this];have:=h.1;omega
   simp only[binOp,Op.stringOp,if_neg this,Sem.run_pure]
  case h_4=>exact h.elim
 ·rename_i p q ex ey
  rw[ex]at hx;rw[ey]at hy
  have hx:=(hx.flat (d:=.bool p) rfl).bool_inv;have hy:=(hy.flat (d:=.bool q) rfl).bool_inv;have n1:∀cs,a.eval x≠ .agg cs:=λcs e=>by rw[hx]at e;cases e
  have n2:a.eval x≠ .nilIface:=λe=>by rw[hx]at e;cases e
  have bb:∀b:Bool,Rd w S pl (.bool b) (.bool b):=λb=>Rp.rd (.bool b)
  cases hm:rC T E.bools with
  |false=>rw[hm]at h;exact h.elim
  |true=>
   rw[hm,cond_true]at h
   have heq:(Op.equal T (.bool p) (.bool q)).run P w=.ok (p==q) w:=by
    exact run_equal_bool w T p q (F.bools T hm)
   split at h
   case h_1=>exact yG (run (.bool (p==q)) n1 n2 (by rw[hx,hy];simp only[binOp,Sem.run_bind,heq,Result.andThen_ok,Sem.run_pure])) (hn _ _ _ _ _ _ h m (bb _))
   case h_2=>exact yG (run (.bool (!(p==q))) n1 n2 (by rw[hx,hy];simp only[binOp,Sem.run_bind,heq,Result.andThen_ok,Sem.run_pure])) (hn _ _ _ _ _ _ h m (bb _))
   case h_3=>exact h.elim
 ·exact h.elim
theorem zjW(m:tY P b0 N σ a w S pl){op:UnOp}{T:TypeId}{x:Operand}(ho:o.op=.unOp op T x)(h:unD op (σ.ev x) λd=>K d σ)(hn:tK P b0 N o a K next):o.wp P a w next Q:=by
 have hx:=uY m x;unfold unD at h
 split at h
 ·rename_i b e
  rw[e]at hx
  have hx:=(hx.flat (d:=.bool b) rfl).bool_inv;have hrun:(execOp a.eval o).run P w=.ok (.value (.bool !b)) w:=by unfold execOp;rw[ho];simp only[hx];rfl
  exact yG hrun (hn _ _ _ _ _ _ h m (Rp.rd (.bool _)))
 ·rename_i n e
  rw[e]at hx
  have hx:=(hx.flat (d:=.int .i64 n) rfl).int_inv.1;have hrun:(execOp a.eval o).run P w=.ok (.value (.int .i64 (yW (0-n)))) w:=by unfold execOp;rw[ho];simp only[hx];rfl
  exact yG hrun (hn _ _ _ _ _ _ h m (Rp.rd (.int _ _ (D6 _))))
 ·exact h.elim
theorem zhy(m:tY P b0 N σ a w S pl){c:Call}(ho:o.op=.call c)(hc:c.callee=.builtin .max){x y:Operand}(ha:c.args.toList=[x,y])(h:zhr (σ.ev x) (σ.ev y) λd=>K d σ)(hn:tK P b0 N o a K next):o.wp P a w next Q:=by
 have hx:=uY m x;have hy:=uY m y;unfold zhr at h
 split at h
 ·rename_i p q ex ey
  rw[ex]at hx;rw[ey]at hy
  obtain⟨hx,kx⟩:=(hx.flat (d:=.int .i64 p) rfl).int_inv;obtain⟨hy,ky⟩:=(hy.flat (d:=.int .i64 q) rfl).int_inv;have ha':c.args= #[x,y]:=by apply Array.ext';simpa using ha
  have hrun:(execOp a.eval o).run P w=.ok (.value (.int .i64 (if q>p then q else p))) w:=by
   unfold execOp;rw[ho];simp only[resolve,hc,ha',invoke,builtin,Builtin.max_,List.map_toArray,List.map_cons,List.map_nil,hx,hy,Sem.run_bind,Sem.run_pure,Result.andThen_ok];rfl
  exact yG hrun (hn _ _ _ _ _ _ h m (Rp.rd (.int _ _ (by split<;>assumption))))
 ·exact h.elim
theorem zhz(F:uK P E)(m:tY P b0 N σ a w S pl){src dst:TypeId}{x:Operand}(ho:o.op=.convert src dst x)(h:zcJ E src dst (σ.ev x) λd=>K d σ)(hn:tK P b0 N o a K next):o.wp P a w next Q:=by
 have hx:=uY m x;unfold zcJ at h
 cases hs:zV src E.ints with
 |none=>
  rw[hs]at h
  simp only at h
  split at h
  ·rename_i e xs hl ex
   split at h
   ·rename_i hi hd
    rw[ex]at hx
    have hv:=(hx.flat (d:=.sl .byte xs) rfl).sl_inv;obtain⟨A0,c,e1,hok⟩:=uO hv;rw[e1]at hv
    have hus:=(F.sl src e .byte hl).und;have hue:=F.ints e .u8 hi;have hud:=F.strs dst hd
    have hc:(convert src dst (a.eval x)).run P w=.ok (.string ⟨xs.toArray⟩) w:=by
     rw[e1];cases A0 with
     |none=>
      have hx0:xs=[]:=by
       cases xs with
       |nil=>rfl
       |cons y r=>obtain⟨b,o',cs,h0,_⟩:=Ps hv (i:=0) (by simp);cases h0
      subst hx0;exact run_convert_bytes_nil w src e hus hue _ _ dst hud
     |some ad=>
      refine run_convert_bytes_back w src dst e ad c xs hus hue hud λj hj=> ?_
      obtain⟨b,o',cs,h0,_,hr,hcell⟩:=Ps hv hj;injection h0 with h0;subst h0
      have hr:cs=[.int .u8 (xs[j].toNat:Int)]:=hr;subst hr;have:=hcell 0 _ rfl;rw[Addr.add_lit];simpa[wK.size]using this
    have hrun:(execOp a.eval o).run P w=.ok (.value (.string ⟨xs.toArray⟩)) w:=by
     unfold execOp;rw[ho];simp only[Sem.run_bind,hc,Result.andThen_ok,Sem.run_pure]
    refine yG hrun (hn _ _ _ _ _ _ h m (Rp.rd (.str _ ?_)));have:=hok.bytes;show xs.toArray.size≤_
    simpa[wK.bytes]using this
   ·exact h.elim
  ·exact h.elim
 |some ks=>
 rw[hs]at h
 have hus:=F.ints src ks hs;simp only at h
 split at h
 ·rename_i k n hl e
  rw[e]at hx
  have hx:=(hx.flat (d:=.int k n) rfl).int_inv.1
  have hrun:(execOp a.eval o).run P w=.ok (.value (.int .i64 (yW n))) w:=by
   unfold execOp;rw[ho];simp only[hx,convert,Sem.run_bind,run_underlying hus,run_underlying (F.ints dst _ hl),Result.andThen_ok,Conv.intToInt,Sem.run_pure]
   try rfl
  exact yG hrun (hn _ _ _ _ _ _ h m (Rp.rd (.int _ _ (D6 _))))
 ·rename_i k n hl e
  rw[e]at hx
  have hx:=(hx.flat (d:=.int k n) rfl).int_inv.1
  have hrun:(execOp a.eval o).run P w=.ok (.value (.int .u8 (IntKind.u8.wrap n))) w:=by
   unfold execOp;rw[ho];simp only[hx,convert,Sem.run_bind,run_underlying hus,run_underlying (F.ints dst _ hl),Result.andThen_ok,Conv.intToInt,Sem.run_pure]
   try rfl
  exact yG hrun (hn _ _ _ _ _ _ h m (Rp.rd (.int _ _ (zi1 _))))
 ·exact h.elim
end
section lists
variable {α β:Type}{R:α→β→Prop}
def spl(l:List α)(off:Nat)(new:List α):List α:=l.take off++new++l.drop (off+new.length)
theorem Ic{l:List α}{off:Nat}{new:List α}(h:off+new.length≤l.length):(spl l off new).length=l.length:=by
 unfold spl;simp only[List.length_append,List.length_take,List.length_drop];omega
theorem O1{l:List α}{off:Nat}{new:List α}(h:off+new.length≤l.length)(j:Nat):(spl l off new)[j]? =if off≤j∧j<off+new.length then new[j-off]? else l[j]? :=by
 unfold spl
 by_cases h1:j<off
 ·rw[if_neg (by omega),List.append_assoc,List.getElem?_append_left (by simp;omega),List.getElem?_take,if_pos h1]
 ·by_cases h2:j<off+new.length
  ·rw[if_pos ⟨by omega,h2⟩,List.append_assoc,List.getElem?_append_right (by simp;omega),List.length_take,List.getElem?_append_left (by omega)]
   congr 1;omega
  ·rw[if_neg (by omega),List.getElem?_append_right (by simp;omega),List.getElem?_drop]
   congr 1;simp;omega
theorem xE.get_{xs:List α}{ys:List β}(h:xE R xs ys)(i:Nat)(a:α)(b:β)(ha:xs[i]? =some a)(hb:ys[i]? =some b):R a b:=by
 obtain⟨a',ha',hr⟩:=h.at hb;rw[ha]at ha';injection ha' with e;rw[e];exact hr
theorem xE.spl{l:List α}{l':List β}{off:Nat}{new:List α}{new':List β}(h:xE R l l')(hn:xE R new new')(hle:off+new'.length≤l'.length):xE R (spl l off new) (Go.Proofs.YtogdmcebojiojaaGreatDoor.spl l' off new'):=by
 have e1:=h.len;have e2:=hn.len;refine xE.of (by rw[Ic (by omega),Ic hle,e1]) λi a b ha hb=> ?_
 rw[O1 (by omega)]at ha
 rw[O1 hle]at hb
 rw[e2]at ha
 split at ha
 ·rename_i hc;rw[if_pos hc]at hb;exact hn.get_ _ a b ha hb
 ·rename_i hc;rw[if_neg hc]at hb;exact h.get_ _ a b ha hb
theorem xE.take:∀ {xs:List α} {ys:List β} (n:Nat),xE R xs ys→xE R (xs.take n) (ys.take n)
 |_,_,0,_=>by simp;exact .nil
 |_,_,n+1,.nil=> .nil
 |_,_,n+1,.cons h hs=> .cons h (hs.take n)
theorem xE.drop:∀ {xs:List α} {ys:List β} (n:Nat),xE R xs ys→xE R (xs.drop n) (ys.drop n)
 |_,_,0,h=>by simpa using h
 |_,_,n+1,.nil=> .nil
 |_,_,n+1,.cons h hs=>by simpa using hs.drop n
theorem TY{s:Nat}(hs:0<s):∀(css:List (List α)) (_:∀cs∈css,cs.length=s) (j:Nat),css.flatten[j]? =(css[j/s]?).bind λc=>c[j%s]?
 |[],_,j=>by simp
 |c::css,hl,j=>by
  have hc:c.length=s:=hl c (by simp)
  rw[List.flatten_cons]
  by_cases h:j<s
  ·rw[List.getElem?_append_left (by omega),Nat.div_eq_of_lt h,Nat.mod_eq_of_lt h];rfl
  ·rw[List.getElem?_append_right (by omega),TY hs css (λcs hcs=>hl cs (by simp[hcs])) (j-c.length),hc]
   have e1:j/s=(j-s)/s+1:=by rw[Nat.div_eq_sub_div hs (by omega)]
   have e2:(j-s)%s=j%s:=(Nat.mod_eq_sub_mod (by omega)).symm
   rw[e1,e2];rfl
end lists
section
variable {P:Program}{E:TE}{A:xP}{b0:XW}{w w':World}{S S':Nat→Prop}{pl pl':Nat→Value}{N:Nat}{σ:St}{a:Act}{v:Value}{d:D}{o:Oper}{K:D→St→Prop}{next:Act→World→Prop}{Q:Exit→Act→World→Prop}
theorem Yt{vs:Array Value}{cs:List D}{R:Value→D→Prop}(h:xE R vs.toList cs)(i:Nat)(d:D)(hd:cs[i]? =some d):R (vs.getD i undef) d:=by
 obtain⟨u,hu,hr⟩:=h.at hd;rw[Array.getD_eq_getD_getElem?];rw[Array.getElem?_toList]at hu;rw[hu];exact hr
theorem RJ{vs:Array Value}{cs:List D}{R:Value→D→Prop}(hl:vs.size=cs.length)(h:∀i d,cs[i]? =some d→R (vs.getD i undef) d):xE R vs.toList cs:=
 xE.of (by simpa using hl) λi u d hu hd=>by
  have:=h i d hd;rw[Array.getElem?_toList]at hu
  rw[Array.getD_eq_getD_getElem?,hu]at this;exact this
theorem O2(F:uK P E){T:TypeId}{ag:Bool}{zs:List D}(hl:zV T E.zs=some (ag,zs)){u:Value}{new:List D}(hu:xE (Rc w S pl) u.cells.toList new)(hn:new.length=zs.length)(hc:new.all mZ=true)
  {b off:Nat} {cur:Array Value} {E':TypeId} (hg:w.heap[b]? =some (.cells cur E' (0,0))) (hle:off+new.length≤cur.size):
  (storeVar T ⟨b,off,none⟩ u).run P w=.ok () (w.setRow b (spl cur.toList off u.cells.toList).toArray):=by
 obtain⟨i,z,ud,hi,hz,hsz,_⟩:=(F.zs T ag zs hl).ex;have hlen:=hu.len;have hs:(sizeOf T).run P w=.ok zs.length w:=by simp[sizeOf,typeInfo,hi,hsz]
 have h1:∀v∈u.cells.toList,v.oneCell'=true:=λv hv=>by
  obtain⟨j,hj,rfl⟩:=List.getElem_of_mem hv;have hj':j<new.length:=by omega
  exact(hu.get_ j _ new[j] (List.getElem?_eq_getElem hj) (List.getElem?_eq_getElem hj')).2 (List.all_eq_true.1 hc _ (List.getElem_mem hj'))
 have:=run_storeCells_at (P:=P) b off E' u.cells.toList 0 cur w hg (by omega) h1
 simp only[Nat.add_zero]at this
 simp only[storeVar,Sem.run_bind,hs,Result.andThen_ok];rw[if_neg (by simp only[Array.length_toList]at hlen;omega)]
 exact this
theorem Rc.mono{u:Value}(h:Rc w S pl u d)(hk:∀b,S b→w'.heap[b]? =w.heap[b]?)(hS:∀b,S b→S' b):Rc w' S' pl u d:=⟨h.1.mono hk hS λ_ _=>rfl,h.2⟩
theorem zhA{b:Bool}{vs:List Value}{new:List D}{K:List D→Prop}(hc:xE (Rc w S pl) vs new)(h:zdw b new K):∃new,xE (Rc w S pl) vs new∧K new:=by
 unfold zdw at h
 split at h
 ·split at h
  ·rename_i t xs
   cases hc with|cons h1 h2=>
   cases h2;obtain⟨A',c,e,hok⟩:=uO ((h1.1.flat (d:=.sl t xs) rfl).sl_inv);refine⟨_,.cons ⟨Rp.rd (.slN t xs false _ ((h1.1.flat (d:=.sl t xs) rfl).sl_inv) (λ_ hv=> ?_) λe=>by cases e),λ_=>by rw[e];rfl⟩ .nil,h.2⟩
   rw[e]at hv
   injection hv with _ hv
   have h3:=h.1;have:xs.length≠0:=λe=>h3 (List.length_eq_zero_iff.1 e)
   omega
  ·exact⟨_,hc,h⟩
 ·exact⟨_,hc,h⟩
theorem FF{ds:List D}{off:Nat}{new:List D}(hn:new.all mZ=true)(h:Ym (TS ds off new)=true):Ym ds=true:=by
 unfold TS at h
 cases ds with
 |nil=>
  simp only[List.take_nil,List.nil_append,List.drop_nil,List.append_nil]at h
  cases new with
  |nil=>exact h
  |cons d r=>
   have h1:fE d=true:=h;have h2:mZ d=true:=List.all_eq_true.1 hn d List.mem_cons_self;cases d<;>first|(cases h1;done)|(cases h2;done)
 |cons a r=>
  cases off with
  |zero=>
   simp only[List.take_zero,List.nil_append,Nat.zero_add]at h
   cases new with
   |nil=>exact h
   |cons d r=>
    have h1:fE d=true:=h;have h2:mZ d=true:=List.all_eq_true.1 hn d List.mem_cons_self;cases d<;>first|(cases h1;done)|(cases h2;done)
  |succ off=>exact h
theorem zfe(F:uK P E)(m:tY P b0 N σ a w S pl){T:TypeId}{x y:Operand}(ho:o.op=.store T x y)(h:Ca E A T (σ.ev x) (σ.ev y) σ K)(hn:tK P b0 N o a K next):o.wp P a w next Q:=by
 have hx:=uY m x;have hy:=MI (E:=E) T (uY m y)
 have run:∀b off w',a.eval x=.pointer (some ⟨b,off,none⟩)→(storeVar T ⟨b,off,none⟩ (a.eval y)).run P w=.ok () w'→(execOp a.eval o).run P w=.ok .skip w':=λb off w' e h=>by
  unfold execOp;rw[ho];simp only[Instr.storeAt,e,Instr.sureAddr,Sem.run_bind,Sem.run_pure,Result.andThen_ok,h]
 unfold Ca at h
 split at h
 ·rename_i ag zs hl
  split at h
  ·exact h.elim
  ·rename_i new hnew
   have hc:=MJ m hy hnew;obtain⟨new,hc,h⟩:=zhA hc h;cases hb:Nat.beq new.length zs.length&&new.all mZ with
   |false=>rw[hb]at h;exact h.elim
   |true=>
    rw[hb,cond_true]at h
    simp only[Bool.and_eq_true]at hb
    have hlen:=yU.1 hb.1;split at h
    ·rename_i k off ex
     rw[ex]at hx
     obtain⟨b,hp,hv⟩:=hx;split at h
     ·rename_i ds hob
      cases hle:Nat.ble (off+new.length) ds.length with
      |false=>rw[hle]at h;exact h.elim
      |true=>
       rw[hle,cond_true]at h
       have hle:=Nat.le_of_ble_eq_true hle;obtain⟨b',vs,E',e1,e2,e3,e4,e5⟩:=m.hp k _ hob;rw[hp]at e1;injection e1 with e1;injection e1 with e1;injection e1 with e1;subst e1
       have hrun:=O2 F hl hc hlen hb.2 e2 (off:=off) (by omega)
       have hds:=RJ e3 e4;have hS:∀c,S c→(w.setRow b (spl vs.toList off (a.eval y).cells.toList).toArray).heap[c]? =w.heap[c]? :=λc hc=>setRow_other _ _ _ _ λe=>(m.priv k _ b hob (by rw[hp];rfl)).2.2 (e▸hc)
       refine za0 (run b off _ hv hrun) (hn _ _ _ _ _ _ h (m.setOb (b:=b) hob (by rw[hp];rfl) (λc hc=>setRow_other _ _ _ _ hc) (setRow_size _ _ _) ⟨rfl,rfl,rfl⟩ ?_) oC)
       have hspl:xE (Rd w S pl) (spl vs.toList off (a.eval y).cells.toList) (TS ds off new):=xE.spl hds (hc.imp λ_ _ h=>h.1) hle
       refine⟨b,_,E',hp,setRow_heap w b vs _ E' (0,0) e2,by simpa using hspl.len,λi d hd=> ?_,λhh=>by
        rw[show(TS ds off new).length=ds.length from by unfold TS;simp;omega]
        exact e5 (FF hb.2 hh)⟩
       exact(Yt (R:=Rd w S pl) (by simpa using hspl) i d hd).mono hS (λ_ h=>h) λ_ _=>rfl
     ·exact h.elim
    ·rename_i k sz i off ex
     rw[ex]at hx
     obtain⟨b,n,c,hp,hi,hv⟩:=hx;obtain⟨σ',new',S',hK,hS,m',hv'⟩:=rU h m;have hnew':=hv' _ (hc.imp λ_ _ h=>h.1)
     split at hK
     ·rename_i e t xs hob
      cases hz:Nat.beq sz t.size with
      |false=>rw[hz]at hK;exact hK.elim
      |true=>
       rw[hz,cond_true]at hK
       have hsz:=yU.1 hz;split at hK
       ·rename_i z hof
        cases hle:Nat.ble (off+new'.length) t.size with
        |false=>rw[hle]at hK;exact hK.elim
        |true=>
         rw[hle,cond_true]at hK
         have hle:=Nat.le_of_ble_eq_true hle;obtain⟨q0,css,q1,q2,q3,q4⟩:=m'.hp k _ hob;rcases q2.2 with⟨e0,_⟩|⟨g,cap,cur,ep,_,hg,hcap,hmax,hcur,htake⟩
         ·rw[hp]at e0;cases e0
         ·have ep':=ep
          rw[hp]at ep';injection ep' with ep1 ep2 ep3;injection ep1 with ep1;injection ep1 with ep1;subst ep1 ep2
          have hspos:0<t.size:=by rw[Ty.size_eq];exact wK.pos
          have hnl:new'.length=new.length:=by rw[←hnew'.len,hc.len]
          have hmul:i*t.size+t.size≤xs.length*t.size:=by
           have:=Nat.mul_le_mul_right t.size (Nat.succ_le_of_lt hi);rw[Nat.succ_mul]at this;exact this
          have hmul2:xs.length*t.size≤cap*t.size:=Nat.mul_le_mul_right _ hcap;have hrun:=O2 F hl hc hlen hb.2 hg (off:=i*sz+off) (by rw[hsz];omega)
          generalize hvl:(a.eval y).cells.toList=vl at hrun hnew' hc
          have hvlen:vl.length=new'.length:=hnew'.len;have hci:css[i]? =some (css[i]'(by omega)):=List.getElem?_eq_getElem (by omega)
          have hclen:(css[i]'(by omega)).length=t.size:=q3 _ (List.getElem_mem _)
          have hS':∀c,S' c→(w.setRow b (spl cur.toList (i*sz+off) vl).toArray).heap[c]? =w.heap[c]? :=λc hc=>setRow_other _ _ _ _ λe=>(m'.priv k _ b hob (by rw[hp];rfl)).2.2 (e▸hc)
          refine za0 (run b _ _ hv hrun) (hn _ _ _ _ _ _ hK (m'.setOb (b:=b) hob (by rw[hp];rfl) (λc hc=>setRow_other _ _ _ _ hc) (setRow_size _ _ _) ⟨rfl,rfl,rfl⟩ ?_) oC)
          have hold:xE (Rp w S') (css[i]'(by omega)) (cells t (xs.getD i t.dflt)):=by
           rw[List.getD_eq_getElem?_getD,List.getElem?_eq_getElem hi,Option.getD_some];exact oW t (q4 i xs[i] _ (List.getElem?_eq_getElem hi) hci)
          have hz':wK.rd w S' (spl (css[i]'(by omega)) off vl) z:=TR t hof (xE.spl hold hnew' (by rw[←hold.len,hclen];exact hle))
          have hclen1:(spl (css[i]'(by omega)) off vl).length=t.size:=by rw[Ic (by omega),hclen]
          have hlcss:∀cs∈css.set i (spl (css[i]'(by omega)) off vl),cs.length=t.size:=λcs hcs=>by
           rcases List.mem_or_eq_of_mem_set hcs with h|rfl
           ·exact q3 _ h
           ·exact hclen1
          refine⟨by simpa using q0,css.set i (spl (css[i]'(by omega)) off vl),by simpa using q1,⟨?_,.inr ⟨b,cap,(spl cur.toList (i*sz+off) vl).toArray,by rw[List.length_set];exact ep,Nat.zero_le _,setRow_heap w b cur _ e (0,0) hg,by simpa using hcap,hmax,?_,?_⟩⟩,hlcss,λj x cs hx hcs=> ?_⟩
          ·rw[Xa _ hlcss];simp[q1]
          ·rw[List.size_toArray,Ic (by simp;rw[hsz];omega)];simpa using hcur
          ·apply List.ext_getElem?
           intro j;rw[List.length_set,List.getElem?_take]
           by_cases hj:j<xs.length*t.size
           ·rw[if_pos hj]
            simp only[List.toList_toArray];rw[O1 (by simp;rw[hsz];omega),TY hspos _ hlcss]
            have hcurj:cur.toList[j]? =(css[j/t.size]?).bind λc=>c[j%t.size]? :=by
             rw[←TY hspos css q3 j,←htake,List.getElem?_take,if_pos hj]
            have hdm:j/t.size*t.size+j%t.size=j:=by rw[Nat.mul_comm];exact Nat.div_add_mod _ _
            have hmod:j%t.size<t.size:=Nat.mod_lt _ hspos;generalize hq:j/t.size=q at*
            generalize hr:j%t.size=r at*
            by_cases hqi:q=i
            ·subst hqi
             rw[List.getElem?_set_self (by omega)]
             simp only[Option.bind_some];rw[O1 (by omega),hsz]
             by_cases hin:off≤r∧r<off+vl.length
             ·rw[if_pos (by omega),if_pos hin];congr 1;omega
             ·rw[if_neg (by omega),if_neg hin,hcurj,hci];rfl
            ·rw[List.getElem?_set_ne (Ne.symm hqi),hsz]
             rw[if_neg,hcurj];intro hin;rcases Nat.lt_or_ge q i with h1|h1
             ·have:=Nat.mul_le_mul_right t.size (Nat.succ_le_of_lt h1)
              rw[Nat.succ_mul]at this;omega
             ·have:=Nat.mul_le_mul_right t.size (Nat.succ_le_of_lt (Nat.lt_of_le_of_ne h1 (Ne.symm hqi)))
              rw[Nat.succ_mul]at this;omega
           ·rw[if_neg hj,List.getElem?_eq_none]
            rw[Xa _ hlcss];simp[q1];omega
          ·by_cases hji:j=i
           ·subst hji
            rw[List.getElem?_set_self hi]at hx
            rw[List.getElem?_set_self (by omega)]at hcs
            injection hx with hx;injection hcs with hcs;subst hx hcs
            exact wK.mono hz' hS' λ_ h=>h
           ·rw[List.getElem?_set_ne (Ne.symm hji)]at hx hcs
            exact wK.mono (q4 j x cs hx hcs) hS' λ_ h=>h
       ·exact hK.elim
     ·exact hK.elim
    ·exact h.elim
 ·exact h.elim
end
end Go.Proofs.YtogdmcebojiojaaGreatDoor
