/- Texts of this proof, one behind the other: nothing is handed in but what is proved here; no condition. -/
import Derived.WalkKit
import Derived.Lib.Hide
import Derived.WalkLawsBesides
import Derived.WalkSpells
import Derived.Deep.QuietTactic
import Derived.BigQuiet
import Derived.Deep.RegionWith
import Derived.Deep.RegionLaw
import Derived.StillTailTactics
import Derived.Handy
import Derived.Deep.LoopGhost
import Derived.Deep.DeepFit
import Derived.Deep.DeepMust
import Derived.Shelf.Abstract
import Derived.Maps.AppendAt
import Derived.Deep.AppendLies
import Derived.OwnWalk
import Derived.IntWalk
import Derived.Lib.LaidTab
import Derived.Lib.ItoaNum
import Derived.Laws.StructEq
namespace Go.Proofs.YtogdmcebojiojaaGreatDoor
open Go.RowKit
set_option maxRecDepth 100000
set_option linter.unusedVariables false
set_option linter.unusedSimpArgs false
class vS (α:Type) where
 size:Nat
 bytes:Nat
 rd:World→(Nat→Prop)→List Value→α→Prop
 len:∀ {w:World} {S:Nat→Prop} {cs:List Value} {x:α},rd w S cs x→cs.length=size
 one:∀ {w:World} {S:Nat→Prop} {cs:List Value} {x:α},rd w S cs x→∀u∈cs,u.oneCell'=true
 mono:∀ {w w':World} {S S':Nat→Prop} {cs:List Value} {x:α},rd w S cs x→(∀b,S b→w'.heap[b]? =w.heap[b]?)→(∀b,S b→S' b)→rd w' S' cs x
 pos:0<size
def vOf:List Value→Value
 |[v]=>v
 |cs=> .agg cs.toArray
def OA{α:Type}[vS α](w:World)(S:Nat→Prop)(cs:List Value)(x:α):Prop:=vS.rd w S cs x
def Yd{α:Type}[vS α](w:World)(S:Nat→Prop)(v:Value)(x:α):Prop:=∃cs,v=vOf cs∧vS.rd w S cs x
def Rds{α:Type}[vS α](w:World)(v:Value)(x:α):Prop:=Yd w (λb=>b<w.heap.size) v x
def yJ(n:Int):Prop:= -9223372036854775808≤n∧n≤9223372036854775807
instance vS.int:vS Int where
 size:=1
 bytes:=8
 rd _ _ cs x:=cs=[.int .i64 x]∧yJ x
 len:=λh=>by rw[h.1];rfl
 one:=λh u hu=>by rw[h.1]at hu;simp at hu;subst hu;rfl
 mono:=λh _ _=>h
 pos:=by decide
instance vS.str:vS ByteArray where
 size:=1
 bytes:=16
 rd _ _ cs x:=cs=[.string x]∧x.size≤140737488355328
 len:=λh=>by rw[h.1];rfl
 one:=λh u hu=>by rw[h.1]at hu;simp at hu;subst hu;rfl
 mono:=λh _ _=>h
 pos:=by decide
instance vS.list {α:Type}[vS α]:vS (List α) where
 size:=1
 bytes:=24
 rd w S cs xs:=∃A c,cs=[.slice A xs.length c]∧xs.length*vS.bytes α≤140737488355328∧xs.length≤c∧c≤9223372036854775807∧
  (A=none→c=0)∧(0<xs.length→∃b o,A=some ⟨b,o,none⟩∧S b∧∀i x,xs[i]? =some x→∃cs,vS.rd w S cs x∧∀j u,cs[j]? =some u→w.cell? ⟨b,o+i*vS.size α+j,none⟩=some u)
 len:=λ⟨_,_,h,_⟩=>by rw[h];rfl
 one:=λ⟨_,_,h,_⟩ u hu=>by rw[h]at hu;simp at hu;subst hu;rfl
 mono:=fun {w w' S S' cs xs} ⟨A,c,h,h0,h1,h2,h3,h4⟩ hk hS=>⟨A,c,h,h0,h1,h2,h3,λhn=>by
  obtain⟨b,o,e,hb,hc⟩:=h4 hn;refine⟨b,o,e,hS b hb,λi x hx=> ?_⟩
  obtain⟨cs,hr,hcell⟩:=hc i x hx;exact⟨cs,vS.mono hr hk hS,λj u hu=>(World.cell?_of_block (hk b hb)).trans (hcell j u hu)⟩⟩
 pos:=by decide
section
variable {α:Type}[vS α]{w w':World}{S S':Nat→Prop}{v:Value}{x:α}
theorem OA.mono{cs:List Value}(h:OA w S cs x)(hk:∀b,S b→w'.heap[b]? =w.heap[b]?)(hS:∀b,S b→S' b):OA w' S' cs x:=vS.mono (α:=α) h hk hS
theorem Yd.mono(h:Yd w S v x)(hk:∀b,S b→w'.heap[b]? =w.heap[b]?)(hS:∀b,S b→S' b):Yd w' S' v x:=
 let⟨cs,e,hr⟩:=h
 ⟨cs,e,vS.mono hr hk hS⟩
theorem Rds.below(h:Rds w v x)(hb:Below w.heap.size w w'):Rds w' v x:=Yd.mono h (λb hb'=>hb.block b hb') (λb hb'=>Nat.lt_of_lt_of_le hb' hb.size)
theorem Yd.rds(h:Yd w S v x)(hS:∀b,S b→b<w.heap.size):Rds w v x:=Yd.mono h (λ_ _=>rfl) hS
theorem OA.val{cs:List Value}(h:OA w S cs x):Yd w S (vOf cs) x:=⟨cs,rfl,h⟩
end
def WE{α:Type}[vS α](w:World)(B:Nat)(v:Value)(x:α):Prop:=Yd w (λb=>B≤b∧b<w.heap.size) v x
section
variable {α:Type}[vS α]{w w':World}{B B':Nat}{v:Value}{x:α}
theorem WE.rds(h:WE w B v x):Rds w v x:=Yd.rds h λ_ hb=>hb.2
theorem WE.below(h:WE w B v x)(hb:Below w.heap.size w w'):WE w' B v x:=
 Yd.mono h (λb hb'=>hb.block b hb'.2) (λb hb'=>⟨hb'.1,Nat.lt_of_lt_of_le hb'.2 hb.size⟩)
theorem WE.more(h:WE w B v x)(hB:B'≤B):WE w B' v x:=
 Yd.mono h (λ_ _=>rfl) (λb hb'=>⟨Nat.le_trans hB hb'.1,hb'.2⟩)
end
section
variable {w:World}{S:Nat→Prop}{v:Value}
theorem ziG{x:Int}(h:Yd w S v x):v=.int .i64 x∧yJ x:=by
 obtain⟨cs,rfl,rfl,h2⟩:=h;exact⟨rfl,h2⟩
theorem zd4{x:ByteArray}(h:Yd w S v x):v=.string x∧x.size≤140737488355328:=by
 obtain⟨cs,rfl,rfl,h2⟩:=h;exact⟨rfl,h2⟩
theorem zcc{x:ByteArray}(h:x.size≤140737488355328):Yd w S (.string x) x:=⟨[_],rfl,rfl,h⟩
structure zkz {α:Type}[vS α](A:Option Addr)(c:Nat)(xs:List α):Prop where
 bytes:xs.length*vS.bytes α≤140737488355328
 cap:xs.length≤c
 max:c≤9223372036854775807
 none_:A=none→c=0
theorem sO{α:Type}[vS α]{xs:List α}(h:Yd w S v xs):∃A c,v=.slice A xs.length c∧zkz A c xs:=by
 obtain⟨cs,rfl,A,c,rfl,h0,h1,h2,h3,_⟩:=h;exact⟨A,c,rfl,h0,h1,h2,h3⟩
theorem O2{α:Type}[vS α]{xs:List α}{A:Option Addr}{n c:Nat}(h:Yd w S (.slice A n c) xs){i:Nat}(hi:i<xs.length):
  ∃b o cs,A=some ⟨b,o,none⟩∧S b∧OA w S cs xs[i]∧∀j u,cs[j]? =some u→w.cell? ⟨b,o+i*vS.size α+j,none⟩=some u:=by
 obtain⟨cs,e,A',c',rfl,h0,h1,h2,h3,h4⟩:=h;simp only[vOf,Value.slice.injEq]at e
 obtain⟨rfl,rfl,rfl⟩:=e;obtain⟨b,o,rfl,hb,hc⟩:=h4 (by omega)
 obtain⟨cs,hr,hcell⟩:=hc i xs[i] (List.getElem?_eq_getElem hi);exact⟨b,o,cs,rfl,hb,hr,hcell⟩
theorem zcd{xs:List ByteArray}{A:Option Addr}{n c:Nat}(h:Yd w S (.slice A n c) xs){i:Nat}(hi:i<xs.length):
  ∃b o,A=some ⟨b,o,none⟩∧S b∧w.cell? ⟨b,o+i,none⟩=some (.string xs[i])∧xs[i].size≤140737488355328:=by
 obtain⟨b,o,cs,rfl,hb,⟨rfl,hr⟩,hc⟩:=O2 h hi;exact⟨b,o,rfl,hb,by simpa[vS.size]using hc 0 _ rfl,hr⟩
end
structure vL where
 kind:Int
 at_:Int
 text:ByteArray
 deriving DecidableEq
instance vS.tok:vS vL where
 size:=3
 bytes:=32
 rd _ _ cs x:=cs=[.int .i64 x.kind,.int .i64 x.at_,.string x.text]∧yJ x.kind∧yJ x.at_∧x.text.size≤140737488355328
 len:=λh=>by rw[h.1];rfl
 one:=λh u hu=>by rw[h.1]at hu;simp at hu;rcases hu with rfl|rfl|rfl<;>rfl
 mono:=λh _ _=>h
 pos:=by decide
structure zC where
 var:Int
 op:Int
 n:Int
 deriving DecidableEq
instance vS.lit:vS zC where
 size:=3
 bytes:=24
 rd _ _ cs x:=cs=[.int .i64 x.var,.int .i64 x.op,.int .i64 x.n]∧yJ x.var∧yJ x.op∧yJ x.n
 len:=λh=>by rw[h.1];rfl
 one:=λh u hu=>by rw[h.1]at hu;simp at hu;rcases hu with rfl|rfl|rfl<;>rfl
 mono:=λh _ _=>h
 pos:=by decide
structure zN where
 name:ByteArray
 lo:Int
 hi:Int
 deriving DecidableEq
instance vS.var:vS zN where
 size:=3
 bytes:=32
 rd _ _ cs x:=cs=[.string x.name,.int .i64 x.lo,.int .i64 x.hi]∧x.name.size≤140737488355328∧yJ x.lo∧yJ x.hi
 len:=λh=>by rw[h.1];rfl
 one:=λh u hu=>by rw[h.1]at hu;simp at hu;rcases hu with rfl|rfl|rfl<;>rfl
 mono:=λh _ _=>h
 pos:=by decide
structure zE where
 kind:Int
 vars:List Int
 consts:List Int
 n:Int
 rows:List (List Int)
 lits:List zC
 deriving DecidableEq
instance vS.con:vS zE where
 size:=6
 bytes:=112
 rd w S cs x:=∃v1 v2 v3 v4,cs=[.int .i64 x.kind,v1,v2,.int .i64 x.n,v3,v4]∧yJ x.kind∧yJ x.n∧
  OA w S [v1] x.vars∧OA w S [v2] x.consts∧OA w S [v3] x.rows∧OA w S [v4] x.lits
 len:=λ⟨_,_,_,_,h,_⟩=>by rw[h];rfl
 one:=λ⟨_,_,_,_,h,_,_,h1,h2,h3,h4⟩ u hu=>by
  rw[h]at hu;simp at hu
  rcases hu with rfl|rfl|rfl|rfl|rfl|rfl
  ·rfl
  ·exact vS.one h1 _ (by simp)
  ·exact vS.one h2 _ (by simp)
  ·rfl
  ·exact vS.one h3 _ (by simp)
  ·exact vS.one h4 _ (by simp)
 mono:=λ⟨v1,v2,v3,v4,h,a,b,h1,h2,h3,h4⟩ hk hS=>⟨v1,v2,v3,v4,h,a,b,h1.mono hk hS,h2.mono hk hS,h3.mono hk hS,h4.mono hk hS⟩
 pos:=by decide
structure zG where
 vars:List zN
 cons:List zE
 goal:Int
 var:Int
 deriving DecidableEq
instance vS.mdl:vS zG where
 size:=4
 bytes:=64
 rd w S cs x:=∃v1 v2,cs=[v1,v2,.int .i64 x.goal,.int .i64 x.var]∧yJ x.goal∧yJ x.var∧OA w S [v1] x.vars∧OA w S [v2] x.cons
 len:=λ⟨_,_,h,_⟩=>by rw[h];rfl
 one:=λ⟨_,_,h,_,_,h1,h2⟩ u hu=>by
  rw[h]at hu;simp at hu
  rcases hu with rfl|rfl|rfl|rfl
  ·exact vS.one h1 _ (by simp)
  ·exact vS.one h2 _ (by simp)
  ·rfl
  ·rfl
 mono:=λ⟨v1,v2,h,a,b,h1,h2⟩ hk hS=>⟨v1,v2,h,a,b,h1.mono hk hS,h2.mono hk hS⟩
 pos:=by decide
section
variable {w:World}{S:Nat→Prop}{v:Value}
theorem AZ{α:Type}[vS α]{xs:List α}(h:OA w S [v] xs):∃A c,v=.slice A xs.length c∧zkz A c xs∧Yd w S (.slice A xs.length c) xs:=by
 obtain⟨A,c,e,h0,h1,h2,h3,h4⟩:=h;simp only[List.cons.injEq,and_true]at e
 subst e;exact⟨A,c,rfl,⟨h0,h1,h2,h3⟩,[_],rfl,A,c,rfl,h0,h1,h2,h3,h4⟩
theorem A3{α:Type}[vS α]{xs:List α}(h:Yd w S v xs):OA w S [v] xs:=by
 obtain⟨cs,rfl,A,c,rfl,h'⟩:=h;exact⟨A,c,rfl,h'⟩
theorem O3{xs:List vL}{A:Option Addr}{n c:Nat}(h:Yd w S (.slice A n c) xs){i:Nat}(hi:i<xs.length):
  ∃b o,A=some ⟨b,o,none⟩∧S b∧w.cell? ⟨b,o+i*3,none⟩=some (.int .i64 xs[i].kind)∧w.cell? ⟨b,o+i*3+1,none⟩=some (.int .i64 xs[i].at_)∧w.cell? ⟨b,o+i*3+2,none⟩=some (.string xs[i].text)∧
   yJ xs[i].kind∧yJ xs[i].at_∧xs[i].text.size≤140737488355328:=by
 obtain⟨b,o,cs,rfl,hb,⟨rfl,hr⟩,hc⟩:=O2 h hi;exact⟨b,o,rfl,hb,by simpa[vS.size]using hc 0 _ rfl,by simpa[vS.size]using hc 1 _ rfl,by simpa[vS.size]using hc 2 _ rfl,hr⟩
end
def wZ(w:World)(g:Nat)(t:TypeId)(cs:Array Value):Prop:=w.heap[g]? =some (.cells cs t (0,0))
section
variable {w w':World}{g:Nat}{t:TypeId}{cs:Array Value}
theorem wZ.lt(h:wZ w g t cs):g<w.heap.size:=by
 rcases Nat.lt_or_ge g w.heap.size with hlt|hge
 ·exact hlt
 ·unfold wZ at h;rw[Array.getElem?_eq_none hge]at h;cases h
theorem wZ.cell(h:wZ w g t cs)(i:Nat):w.cell? ⟨g,i,none⟩=cs[i]? :=cell_of_row w g i cs t (0,0) h
theorem wZ.frozen(h:wZ w g t cs)(i:Nat):w.frozen? ⟨g,i,none⟩=false:=by
 unfold wZ at h
 simp[World.frozen?,h]
theorem wZ.new(w:World)(t:TypeId)(cs:Array Value):wZ (w.alloc (.cells cs t)) w.heap.size t cs:=heap_alloc_new w _
theorem wZ.drew(h:wZ w g t cs):wZ w.drew g t cs:=h
theorem wZ.drewN(h:wZ w g t cs)(n:Nat):wZ (w.drewN n) g t cs:=h
theorem wZ.alloc(h:wZ w g t cs)(o:Obj):wZ (w.alloc o) g t cs:=(Below.heap_alloc w o g h.lt).trans h
theorem wZ.set_(h:wZ w g t cs)(i:Nat)(u:Value):wZ (w.setCell ⟨g,i,none⟩ u) g t (cs.setIfInBounds i u):=by
 unfold wZ at h⊢
 simp[World.setCell,Array.getElem?_modify,h]
theorem wZ.far(h:wZ w g t cs){p:Addr}(hp:g≠p.block)(u:Value):wZ (w.setCell p u) g t cs:=(Below.heap_setCell w p u g hp).trans h
theorem wZ.below{B:Nat}(h:wZ w g t cs)(hb:Below B w w')(hg:g<B):wZ w' g t cs:=(hb.block g hg).trans h
theorem wZ.grown{row:Option Nat}(h:wZ w g t cs)(hb:w.grownBy w' row)(hg:some g≠row):wZ w' g t cs:=(hb.block g h.lt hg).trans h
end
section
variable {a b w w':World}{row:Option Nat}{B:Nat}
theorem vK(h:Below B a w)(n:Nat):Below B a (w.drewN n):=⟨h.os,h.tape,h.output,h.size,h.block⟩
theorem Mi(h:Below a.heap.size a w)(k:Below w.heap.size w w'):Below a.heap.size a w':=h.trans (k.mono h.size)
theorem O4(h:a.grownBy b row)(k:b.grownBy w row):a.grownBy w row:=
 ⟨k.os.trans h.os,k.tape.trans h.tape,k.output.trans h.output,Nat.le_trans h.size k.size,λi hi hne=>(k.block i (Nat.lt_of_lt_of_le hi h.size) hne).trans (h.block i hi hne)⟩
theorem vU(h:a.grownBy w row)(n:Nat):a.grownBy (w.drewN n) row:=⟨h.os,h.tape,h.output,h.size,h.block⟩
theorem eI(h:a.grownBy w row):a.grownBy w.drew row:=⟨h.os,h.tape,h.output,h.size,h.block⟩
theorem jS(h:a.grownBy w row)(o:Obj):a.grownBy (w.alloc o) row:=
 ⟨h.os,h.tape,h.output,Nat.le_trans h.size (by simp),λi hi hne=>(Below.heap_alloc w o i (Nat.lt_of_lt_of_le hi h.size)).trans (h.block i hi hne)⟩
theorem tX{g:Nat}(h:a.grownBy w (some g)){p:Addr}(hp:p.block=g∨a.heap.size≤p.block)(u:Value):a.grownBy (w.setCell p u) (some g):=
 ⟨h.os,h.tape,h.output,by simpa[World.setCell]using h.size,λi hi hne=>(Below.heap_setCell w p u i (by
  rintro rfl;rcases hp with hp|hp
  ·exact hne (by rw[hp])
  ·omega)).trans (h.block i hi hne)⟩
theorem gP(h:Below a.heap.size a w)(row:Option Nat):a.grownBy w row:=⟨h.os,h.tape,h.output,h.size,λi hi _=>h.block i hi⟩
theorem YK{g:Nat}(h:a.grownBy w (some g))(hB:B≤g)(hs:B≤a.heap.size):Below B a w:=⟨h.os,h.tape,h.output,h.size,λi hi=>h.block i (by omega) (λe=>by injection e with e;omega)⟩
end
theorem fH{a b:Bool}(h:a=b):Ending.returned (.bool a)=.returned (.bool b):=by rw[h]
theorem mU(s:ByteArray)(i:Nat)(h:i<s.size):s.data.toList.drop i=s[i]::s.data.toList.drop (i+1):=by
 rw[List.drop_eq_getElem_cons (by simpa using h)];rfl
theorem Xe(s:ByteArray):s.data.toList.length=s.size:=by simp
theorem Gc{P:Program}{f:FuncId}{args:Array Value}{w:World}{n:Nat}{v:Value}
  (h:Calls P f args (w.drewN n) λe w'=>e=.returned v∧w.drewN n=w'):Calls P f args (w.drewN n) λe w'=>e=.returned v∧∃m,w'=w.drewN m:=
 h.mono λ_ _ ⟨he,hm⟩=>⟨he,n,hm.symm⟩
theorem HD{s:Nat}:∀(css:List (List Value)) (_:∀cs∈css,cs.length=s) (i j:Nat) (cs:List Value) (u:Value),css[i]? =some cs→cs[j]? =some u→css.flatten[i*s+j]? =some u
 |[],_,i,j,cs,u,h,_=>by simp at h
 |c::css,hl,0,j,cs,u,h,hu=>by
  simp at h;subst h
  have hj:j<c.length:=(List.getElem?_eq_some_iff.1 hu).1;simp only[List.flatten_cons,Nat.zero_mul,Nat.zero_add];rw[List.getElem?_append_left hj];exact hu
 |c::css,hl,i+1,j,cs,u,h,hu=>by
  have hc:c.length=s:=hl c (by simp)
  have ih:=HD css (λcs hcs=>hl cs (by simp[hcs])) i j cs u (by simpa using h) hu
  simp only[List.flatten_cons];rw[List.getElem?_append_right (by rw[hc,Nat.succ_mul];omega)]
  rw[←ih];congr 1;rw[hc,Nat.succ_mul];omega
theorem WF{s:Nat}:∀(css:List (List Value)) (_:∀cs∈css,cs.length=s),css.flatten.length=css.length*s
 |[],_=>by simp
 |c::css,hl=>by
  have ih:=WF css (λcs hcs=>hl cs (by simp[hcs]))
  simp only[List.flatten_cons,List.length_append,List.length_cons,ih,hl c (by simp),Nat.succ_mul];omega
structure Mj (P:Program)(t e:TypeId)(size bytes:Nat):Prop where
 und:P.underlying t=some (.slice e)
 info:∃i z,P.info? e=some i∧i.zero=some z∧i.size=size∧i.bytes=bytes∧z.cells.size=size
theorem Mj.mk'{P:Program}{t e:TypeId}{size bytes:Nat}{z:Value}(h:P.underlying t=some (.slice e))(hi:(P.info? e).map (λi=>(i.zero,i.size,i.bytes))=some (some z,size,bytes))(hz:z.cells.size=size):Mj P t e size bytes:=by
 obtain⟨i,h1,h2,h3,h4⟩:=info_parts hi;exact⟨h,i,z,h1,h2,h3,h4,hz⟩
def zce(w:World)(lo:Nat)(v:Value)(b:Nat):Prop:=lo≤b∧b<w.heap.size∧v.ownBlock≠some b
def Own{α:Type}[vS α](w:World)(lo base:Nat)(E:TypeId)(v:Value)(xs:List α):Prop:=
 lo≤base∧xs.length*vS.bytes α≤140737488355328∧∃css:List (List Value),css.length=xs.length∧w.ownsRow base E (vS.size α) v xs.length css.flatten∧
  (∀cs∈css,cs.length=vS.size α)∧∀(i:Nat) (x:α) (cs:List Value),xs[i]? =some x→css[i]? =some cs→vS.rd w (zce w lo v) cs x
section
variable {α:Type}[vS α]{w w':World}{lo base:Nat}{E:TypeId}{v:Value}{xs:List α}
theorem Own.nil(w:World){lo base:Nat}(E:TypeId)(hlo:lo≤base):Own w lo base E (.slice none 0 0) ([]:List α):=
 ⟨hlo,by simp,[],rfl,by simpa using World.ownsRow_nil w base E (vS.size α),by simp,by simp⟩
theorem Own.lt(h:Own w lo base E v xs){k:Nat}(hk:v.ownBlock=some k):base≤k∧k<w.heap.size:=by
 obtain⟨_,_,css,_,h3,_⟩:=h;exact h3.lt k hk
theorem Own.shape(h:Own w lo base E v xs):∃A c,v=.slice A xs.length c:=by
 obtain⟨_,_,css,_,h3,_⟩:=h;rcases h3.2 with⟨rfl,h0⟩|⟨g,cap,cur,rfl,_⟩
 ·rw[h0];exact⟨_,_,rfl⟩
 ·exact⟨_,_,rfl⟩
theorem Own.kept(h:Own w lo base E v xs)(hs:w.heap.size≤w'.heap.size)(hk:∀b,lo≤b→b<w.heap.size→w'.heap[b]? =w.heap[b]?):Own w' lo base E v xs:=by
 obtain⟨h1,h2,css,h3,h4,h5,h6⟩:=h;refine⟨h1,h2,css,h3,⟨h4.1,?_⟩,h5,λi x cs hx hc=>vS.mono (h6 i x cs hx hc) (λb hb=>hk b hb.1 hb.2.1) (λb hb=>⟨hb.1,by have:=hb.2.1;omega,hb.2.2⟩)⟩
 rcases h4.2 with hn|⟨g,cap,cur,rfl,hb,hg,rest⟩
 ·exact .inl hn
 ·exact .inr ⟨g,cap,cur,rfl,hb,by rw[hk g (by omega) (Array.getElem?_eq_some_iff.1 hg).1];exact hg,rest⟩
theorem Own.below(h:Own w lo base E v xs)(hb:Below w.heap.size w w'):Own w' lo base E v xs:=h.kept hb.size λb _ hb'=>hb.block b hb'
theorem Own.alloc(h:Own w lo base E v xs)(o:Obj):Own (w.alloc o) lo base E v xs:=h.kept (by simp) λb _ hb=>Below.heap_alloc w o b hb
theorem Own.drew(h:Own w lo base E v xs):Own w.drew lo base E v xs:=h.kept (Nat.le_refl _) λ_ _ _=>rfl
theorem Own.drewN(h:Own w lo base E v xs)(n:Nat):Own (w.drewN n) lo base E v xs:=h.kept (Nat.le_refl _) λ_ _ _=>rfl
theorem Own.rdV(h:Own w lo base E v xs):Yd w (λb=>lo≤b∧b<w.heap.size) v xs:=by
 obtain⟨h1,h2,css,h3,h4,h5,h6⟩:=h;rcases h4.2 with⟨rfl,h0⟩|⟨g,cap,cur,rfl,hb,hg,hcap,hmax,hcur,htake⟩
 ·obtain rfl:=List.eq_nil_of_length_eq_zero h0
  exact⟨[.slice none 0 0],rfl,none,0,rfl,by simp,by simp,by simp,λ_=>rfl,λhn=>absurd hn (by simp)⟩
 ·refine⟨[_],rfl,some ⟨g,0,none⟩,cap,rfl,h2,hcap,hmax,(λe=>by cases e),λhn=> ?_⟩
  refine⟨g,0,rfl,⟨by omega,(Array.getElem?_eq_some_iff.1 hg).1⟩,λi x hx=> ?_⟩
  have hi:i<xs.length:=(List.getElem?_eq_some_iff.1 hx).1;have hc:css[i]? =some (css[i]'(by omega)):=List.getElem?_eq_getElem (by omega)
  refine⟨_,vS.mono (h6 i x _ hx hc) (λ_ _=>rfl) (λb hb=>⟨hb.1,hb.2.1⟩),λj u hu=> ?_⟩
  have hf:=HD css h5 i j _ u hc hu;have:=h4.cells (g:=g) rfl _ _ hf;rw[←this];unfold Addr.add;split
  ·rename_i e;simp[e]
  ·simp
theorem Own.rds(h:Own w lo base E v xs):Rds w v xs:=Yd.mono h.rdV (λ_ _=>rfl) λ_ hb=>hb.2
theorem Own.fresh(h:Own w lo base E v xs):WE w lo v xs:=h.rdV
theorem Own.bytes(h:Own w lo base E v xs):xs.length*vS.bytes α≤140737488355328:=h.2.1
theorem Own.more(h:Own w lo base E v xs){lo':Nat}(hlo:lo'≤lo):Own w lo' base E v xs:=by
 obtain⟨h1,h2,css,h3,h4,h5,h6⟩:=h;exact⟨by omega,h2,css,h3,h4,h5,λi x cs hx hc=>vS.mono (h6 i x cs hx hc) (λ_ _=>rfl) (λb hb=>⟨by have:=hb.1;omega,hb.2.1,hb.2.2⟩)⟩
theorem Own.appended{P:Program}{t:TypeId}(hown:Own w lo base E v xs)(hbase:base≤w.heap.size){v':Value}{ys:List α}{ccs:List (List Value)}(hl:ccs.length=ys.length)
  (hcl:∀cs∈ccs,cs.length=vS.size α) (hcs:∀(i:Nat) (x:α) (cs:List Value),ys[i]? =some x→ccs[i]? =some cs→vS.rd w (zce w lo v) cs x) (hb:(xs.length+ys.length)*vS.bytes α≤140737488355328)
  (css:List (List Value)) (h3:css.length=xs.length) (h5:∀cs∈css,cs.length=vS.size α) (h6:∀(i:Nat) (x:α) (cs:List Value),xs[i]? =some x→css[i]? =some cs→vS.rd w (zce w lo v) cs x)
  (ho:w'.ownsRow base E (vS.size α) v' (xs.length+ys.length) (css.flatten++ccs.flatten)) (hg:w.grownBy w' v.ownBlock) (hat:v'.ownBlock=v.ownBlock∨v'.ownBlock=some w.heap.size):
  Own w' lo base E v' (xs++ys):=by
 refine⟨hown.1,by simpa using hb,css++ccs,by simp[h3,hl],by simpa using ho,λcs hc=> ?_,λi x cs hx hc=> ?_⟩
 ·rcases List.mem_append.1 hc with h|h
  ·exact h5 cs h
  ·exact hcl cs h
 ·have key:vS.rd w (zce w lo v) cs x:=by
   by_cases hi:i<xs.length
   ·rw[List.getElem?_append_left hi]at hx
    rw[List.getElem?_append_left (by omega)]at hc
    exact h6 i x cs hx hc
   ·rw[List.getElem?_append_right (by omega)]at hx
    rw[List.getElem?_append_right (by omega),h3]at hc
    exact hcs _ x cs hx hc
  refine vS.mono key (λb hb=>hg.block b hb.2.1 (λe=>hb.2.2 e.symm)) (λb hb=>⟨hb.1,by have:=hg.size;have:=hb.2.1;omega,?_⟩)
  rcases hat with e|e<;>rw[e]
  ·exact hb.2.2
  ·intro e';injection e' with e';have:=hb.2.1;omega
end
section
variable {P:Program}{α:Type}[vS α]
theorem ze6(w:World)(cs:List Value)(E:TypeId):∀j u,cs[j]? =some u→(w.alloc (.cells cs.toArray E)).cell? ((⟨w.heap.size,0,none⟩:Addr).add j)=some u:=by
 intro j u hu;have e:(⟨w.heap.size,0,none⟩:Addr).add j=⟨w.heap.size,j,none⟩:=by unfold Addr.add;split<;>simp_all
 rw[e,World.cell?_alloc_new];simpa using hu
theorem mX{ops:Array Oper}{rest:List Oper}{o:Oper}{a:Act}{Q:Exit→Act→World→Prop}{w:World}{lo base:Nat}{E t:TypeId}{v:Value}{xs:List α}{cs:List Value}{y:α}
  (hgd:o.guard=none) (s x:Operand) (ho:o.op=.call {callee:=.builtin .append,args:= #[s,x],argTypes:= #[t,t]})
  (hr:Mj P t E (vS.size α) (vS.bytes α)) (hs:a.eval s=v) (hown:Own w lo base E v xs) {g:Nat} (hx:a.eval x=.slice (some ⟨g,0,none⟩) 1 1) (hgs:g=w.heap.size)
  (hy:OA w (zce w lo v) cs y) (hb:(xs.length+1)*vS.bytes α≤140737488355328) (hm:xs.length+1≤9223372036854775807) (hbase:base≤w.heap.size)
  (h:∀v' w',Own w' lo base E v' (xs++[y])→w.grownBy w' v.ownBlock→Below base w w'→wpList P ops Q rest (a.put o.dst v') w'):
  wpList P ops Q (o::rest) a (w.alloc (.cells cs.toArray E)):=by
 subst hgs;obtain⟨hu,i,z,hi,hz,hsz,hby,hzs⟩:=hr;obtain⟨h1,h2,css,h3,h4,h5,h6⟩:=hown;have hlen:cs.length=vS.size α:=vS.len hy
 obtain⟨v',w',hrun,k1,k2,_,k3⟩:=run_append_own_at (P:=P) (w.alloc (.cells cs.toArray E)) base t o.type E i z (vS.size α) (vS.bytes α) hu hi hz hsz hby hzs vS.pos v xs.length css.flatten (h4.alloc _)
  ⟨w.heap.size,0,none⟩ 1 1 cs (by simpa using hlen) (ze6 w cs E) (vS.one hy) (by unfold maxLen;omega) hb (by simp;omega)
 have hown':Own (w.alloc (.cells cs.toArray E)) lo base E v xs:=Own.alloc ⟨h1,h2,css,h3,h4,h5,h6⟩ _
 have mono:∀ {cs':List Value} {x':α},vS.rd w (zce w lo v) cs' x'→vS.rd (w.alloc (.cells cs.toArray E)) (zce (w.alloc (.cells cs.toArray E)) lo v) cs' x':=λhh=>
  vS.mono hh (λb hb=>Below.heap_alloc w _ b hb.2.1) (λb hb=>⟨hb.1,by simp;have:=hb.2.1;omega,hb.2.2⟩)
 have hfin:Own w' lo base E v' (xs++[y]):=Own.appended (P:=P) (t:=t) hown' (by simp;omega) (ccs:=[cs]) (ys:=[y]) rfl (by simpa using hlen)
  (λj x' cs' hx' hc'=>by
   rcases j with _|j
   ·simp at hx' hc';subst hx' hc';exact mono hy
   ·simp at hx') (by simpa using hb) css h3 h5 (λj x' cs' hx' hc'=>mono (h6 j x' cs' hx' hc')) (by simpa using k1) k2 k3
 have hgw:w.grownBy w' v.ownBlock:=⟨k2.os,k2.tape,k2.output,by have:=k2.size;simp at this;omega,λb hb hne=>(k2.block b (by simp;omega) hne).trans (Below.heap_alloc w _ b hb)⟩
 have hbl:Below base w w':=(Below.refl _ _).grown hgw hbase (λk hk=>(h4.lt k hk).1)
 refine wpList_plain hgd λK hK=> ?_
 unfold Oper.wp execOp;simp only[ho,resolve,invoke,builtin,Sem.run_bind,Sem.run_pure,Result.andThen_ok,List.map_toArray,List.map_cons,List.map_nil,hs,hx,hrun];exact hK _ _ (h v' w' hfin hgw hbl)
end
structure zU where
 kind:Int
 con:Int
 clause:List zC
 deriving DecidableEq
structure xE where
 v:Int
 times:Int
 deriving DecidableEq
structure O5 where
 verdict:Int
 values:List Int
 proof:List zU
 deriving DecidableEq
instance vS.bool:vS Bool where
 size:=1
 bytes:=1
 rd _ _ cs x:=cs=[.bool x]
 len:=λh=>by rw[h];rfl
 one:=λh u hu=>by rw[h]at hu;simp at hu;subst hu;rfl
 mono:=λh _ _=>h
 pos:=by decide
instance vS.byte:vS UInt8 where
 size:=1
 bytes:=1
 rd _ _ cs x:=cs=[.int .u8 (x.toNat:Int)]
 len:=λh=>by rw[h];rfl
 one:=λh u hu=>by rw[h]at hu;simp at hu;subst hu;rfl
 mono:=λh _ _=>h
 pos:=by decide
instance vS.term:vS xE where
 size:=2
 bytes:=16
 rd _ _ cs x:=cs=[.int .i64 x.v,.int .i64 x.times]∧yJ x.v∧yJ x.times
 len:=λh=>by rw[h.1];rfl
 one:=λh u hu=>by rw[h.1]at hu;simp at hu;rcases hu with rfl|rfl<;>rfl
 mono:=λh _ _=>h
 pos:=by decide
instance vS.step:vS zU where
 size:=3
 bytes:=40
 rd w S cs x:=∃v,cs=[.int .i64 x.kind,.int .i64 x.con,v]∧yJ x.kind∧yJ x.con∧OA w S [v] x.clause
 len:=λ⟨_,h,_⟩=>by rw[h];rfl
 one:=λ⟨_,h,_,_,h1⟩ u hu=>by
  rw[h]at hu;simp at hu
  rcases hu with rfl|rfl|rfl
  ·rfl
  ·rfl
  ·exact vS.one h1 _ (by simp)
 mono:=λ⟨v,h,a,b,h1⟩ hk hS=>⟨v,h,a,b,h1.mono hk hS⟩
 pos:=by decide
instance vS.ans:vS O5 where
 size:=3
 bytes:=56
 rd w S cs x:=∃v1 v2,cs=[.int .i64 x.verdict,v1,v2]∧yJ x.verdict∧OA w S [v1] x.values∧OA w S [v2] x.proof
 len:=λ⟨_,_,h,_⟩=>by rw[h];rfl
 one:=λ⟨_,_,h,_,h1,h2⟩ u hu=>by
  rw[h]at hu;simp at hu
  rcases hu with rfl|rfl|rfl
  ·rfl
  ·exact vS.one h1 _ (by simp)
  ·exact vS.one h2 _ (by simp)
 mono:=λ⟨v1,v2,h,a,h1,h2⟩ hk hS=>⟨v1,v2,h,a,h1.mono hk hS,h2.mono hk hS⟩
 pos:=by decide
instance vS.pair {α β:Type}[vS α][vS β]:vS (α×β) where
 size:=vS.size α+vS.size β
 bytes:=vS.bytes α+vS.bytes β
 rd w S cs x:=∃c1 c2,cs=c1++c2∧vS.rd w S c1 x.1∧vS.rd w S c2 x.2
 len:=λ⟨c1,c2,h,h1,h2⟩=>by rw[h,List.length_append,vS.len h1,vS.len h2]
 one:=λ⟨c1,c2,h,h1,h2⟩ u hu=>by
  rw[h]at hu
  rcases List.mem_append.1 hu with hu|hu
  ·exact vS.one h1 u hu
  ·exact vS.one h2 u hu
 mono:=λ⟨c1,c2,h,h1,h2⟩ hk hS=>⟨c1,c2,h,vS.mono h1 hk hS,vS.mono h2 hk hS⟩
 pos:=Nat.add_pos_left vS.pos _
inductive Ty|int|bool|str|tok|lit|var|con|mdl|step|term|ans|list (t:Ty)|pr (a b:Ty)|byte
 deriving DecidableEq
@[reducible] def Ty.den:Ty→Type
 | .int=>Int| .bool=>Bool| .str=>ByteArray| .tok=>vL| .lit=>zC| .var=>zN| .con=>zE| .mdl=>zG| .step=>zU| .term=>xE| .ans=>O5
 | .list t=>List t.den
 | .pr a b=>a.den×b.den
 | .byte=>UInt8
@[reducible] def Ty.rep:(t:Ty)→vS t.den
 | .int=>vS.int| .bool=>vS.bool| .str=>vS.str| .tok=>vS.tok| .lit=>vS.lit| .var=>vS.var| .con=>vS.con| .mdl=>vS.mdl| .step=>vS.step| .term=>vS.term| .ans=>vS.ans
 | .list t=> @vS.list _ (Ty.rep t)
 | .pr a b=> @vS.pair _ _ (Ty.rep a) (Ty.rep b)
 | .byte=>vS.byte
@[reducible] instance vS.ty (t:Ty):vS t.den:=Ty.rep t
def Ty.dflt:(t:Ty)→t.den
 | .int=>0| .bool=>false| .str=>⟨#[]⟩| .tok=>⟨0,0,⟨#[]⟩⟩| .lit=>⟨0,0,0⟩| .var=>⟨⟨#[]⟩,0,0⟩| .con=>⟨0,[],[],0,[],[]⟩| .mdl=>⟨[],[],0,0⟩| .step=>⟨0,0,[]⟩| .term=>⟨0,0⟩| .ans=>⟨0,[],[]⟩
 | .list _=>[]
 | .pr a b=>(a.dflt,b.dflt)
 | .byte=>0
def Ty.agg:Ty→Bool
 | .tok| .lit| .var| .con| .mdl| .step| .term| .ans| .pr _ _=>true
 |_=>false
def Ty.size:Ty→Nat
 | .tok| .lit| .var| .step| .ans=>3| .con=>6| .mdl=>4| .term=>2
 | .pr a b=>a.size+b.size
 |_=>1
def Ty.bytes:Ty→Nat
 | .int=>8| .bool=>1| .str=>16| .tok=>32| .lit=>24| .var=>32| .con=>112| .mdl=>64| .step=>40| .term=>16| .ans=>56| .list _=>24| .pr a b=>a.bytes+b.bytes| .byte=>1
theorem Ty.size_eq:(t:Ty)→t.size= @vS.size t.den (Ty.rep t)
 | .pr a b=>by show a.size+b.size=_;rw[Ty.size_eq a,Ty.size_eq b];rfl
 | .int| .bool| .str| .tok| .lit| .var| .con| .mdl| .step| .term| .ans| .list _| .byte=>rfl
theorem Ty.bytes_eq:(t:Ty)→t.bytes= @vS.bytes t.den (Ty.rep t)
 | .pr a b=>by show a.bytes+b.bytes=_;rw[Ty.bytes_eq a,Ty.bytes_eq b];rfl
 | .int| .bool| .str| .tok| .lit| .var| .con| .mdl| .step| .term| .ans| .list _| .byte=>rfl
inductive D
 |undef
 |nil
 |int (k:IntKind) (n:Int)
 |bool (b:Bool)
 |str (s:ByteArray)
 |sl (t:Ty) (xs:List t.den)
 |mp (k v:Ty) (es:List (k.den×v.den))
 |agg (cs:List D)
 |tup (cs:List D)
 |iptr (cs:List D) (off:Nat)
 |elt (t:Ty) (xs:List t.den) (i off:Nat)
 |clo (f:FuncId) (rs:Option (List Ty)) (caps:List D)
 |own (k:Nat)
 |ptr (k off:Nat)
 |oelt (k sz i off:Nat)
 |slN (t:Ty) (xs:List t.den) (nl:Bool)
 |ownN (k:Nat)
 |ifc (u:Value)
 |clp (f:FuncId) (bd:Bool) (k off:Nat)
 |slf (k:Nat)
 deriving Inhabited
def inK:IntKind→Int→Prop
 | .i64,n=>yJ n
 | .u8,n=>0≤n∧n≤255
 |_,_=>False
theorem Bh(n:Int):inK .i64 (IntKind.i64.wrap n):=by
 unfold inK yJ;rw[IntKind.wrap_i64];omega
theorem zj1(n:Int):inK .u8 (IntKind.u8.wrap n):=by
 unfold inK;rw[IntKind.wrap_u8];omega
def cells:(t:Ty)→t.den→List D
 | .int,n=>[.int .i64 n]
 | .bool,b=>[.bool b]
 | .str,s=>[.str s]
 | .tok,x=>[.int .i64 x.kind,.int .i64 x.at_,.str x.text]
 | .lit,x=>[.int .i64 x.var,.int .i64 x.op,.int .i64 x.n]
 | .var,x=>[.str x.name,.int .i64 x.lo,.int .i64 x.hi]
 | .con,x=>[.int .i64 x.kind,.sl .int x.vars,.sl .int x.consts,.int .i64 x.n,.sl (.list .int) x.rows,.sl .lit x.lits]
 | .mdl,x=>[.sl .var x.vars,.sl .con x.cons,.int .i64 x.goal,.int .i64 x.var]
 | .step,x=>[.int .i64 x.kind,.int .i64 x.con,.sl .lit x.clause]
 | .term,x=>[.int .i64 x.v,.int .i64 x.times]
 | .ans,x=>[.int .i64 x.verdict,.sl .int x.values,.sl .step x.proof]
 | .list t,xs=>[.sl t xs]
 | .pr a b,x=>cells a x.1++cells b x.2
 | .byte,b=>[.int .u8 (b.toNat:Int)]
def XH(t:Ty)(x:t.den):D:=
 match t,x with
 | .int,n=> .int .i64 n
 | .bool,b=> .bool b
 | .str,s=> .str s
 | .list t,xs=> .sl t xs
 | .byte,b=> .int .u8 (b.toNat:Int)
 |t,x=> .agg (cells t x)
theorem Ty.bytes_pos:(t:Ty)→0<t.bytes
 | .pr a b=>Nat.add_pos_left (Ty.bytes_pos a) _
 | .int| .bool| .str| .tok| .lit| .var| .con| .mdl| .step| .term| .ans| .list _| .byte=>Nat.le_of_ble_eq_true rfl
theorem eJ:(t:Ty)→(x:t.den)→(cells t x).length=t.size
 | .pr a b,x=>by show(cells a x.1++cells b x.2).length=_;rw[List.length_append,eJ a,eJ b];rfl
 | .int,_| .bool,_| .str,_| .tok,_| .lit,_| .var,_| .con,_| .mdl,_| .step,_| .term,_| .ans,_| .list _,_| .byte,_=>rfl
def L6(t:Ty):D→Option (List t.den)
 | .sl t' xs=>if h:t'=t then some (h▸xs)else none
 | .nil=>some []
 |_=>none
def ofD:(t:Ty)→List D→Option t.den
 | .int,[.int .i64 n]=>some n
 | .bool,[.bool b]=>some b
 | .str,[.str s]=>some s
 | .tok,[.int .i64 a,.int .i64 b,.str c]=>some ⟨a,b,c⟩
 | .lit,[.int .i64 a,.int .i64 b,.int .i64 c]=>some ⟨a,b,c⟩
 | .var,[.str a,.int .i64 b,.int .i64 c]=>some ⟨a,b,c⟩
 | .con,[.int .i64 a,b,c,.int .i64 d,e,f]=>match L6 .int b,L6 .int c,L6 (.list .int) e,L6 .lit f with
  |some b,some c,some e,some f=>some ⟨a,b,c,d,e,f⟩
  |_,_,_,_=>none
 | .mdl,[a,b,.int .i64 c,.int .i64 d]=>match L6 .var a,L6 .con b with
  |some a,some b=>some ⟨a,b,c,d⟩
  |_,_=>none
 | .step,[.int .i64 a,.int .i64 b,c]=>match L6 .lit c with
  |some c=>some ⟨a,b,c⟩
  |_=>none
 | .term,[.int .i64 a,.int .i64 b]=>some ⟨a,b⟩
 | .ans,[.int .i64 a,b,c]=>match L6 .int b,L6 .step c with
  |some b,some c=>some ⟨a,b,c⟩
  |_,_=>none
 | .list t,[d]=>L6 t d
 | .pr a b,ds=>match ofD a (ds.take a.size),ofD b (ds.drop a.size)with
  |some x,some y=>some (x,y)
  |_,_=>none
 | .byte,[.int .u8 n]=>some (UInt8.ofNat n.toNat)
 |_,_=>none
theorem Mk:(t:Ty)→ofD t (cells t t.dflt)=some t.dflt
 | .pr a b=>by
  show(match ofD a ((cells a a.dflt++cells b b.dflt).take a.size),ofD b ((cells a a.dflt++cells b b.dflt).drop a.size)with
   |some x,some y=>some (x,y)
   |_,_=>none)=_
  have h:a.size=(cells a a.dflt).length:=(eJ a _).symm;rw[List.take_append_of_le_length (by omega),List.take_of_length_le (by omega),h,List.drop_left,Mk a,Mk b]
  rfl
 | .int| .bool| .str| .tok| .lit| .var| .con| .mdl| .step| .term| .ans| .list _=>by simp[cells,Ty.dflt,ofD,L6]
 | .byte=>rfl
inductive xP {α β:Type}(R:α→β→Prop):List α→List β→Prop
 |nil:xP R [] []
 |cons {a b xs ys}:R a b→xP R xs ys→xP R (a::xs) (b::ys)
section
variable {α β:Type}{R R':α→β→Prop}
theorem xP.len:∀ {xs:List α} {ys:List β},xP R xs ys→xs.length=ys.length
 |_,_,.nil=>rfl
 |_,_,.cons _ h=>by simp[h.len]
theorem xP.at:∀ {xs:List α} {ys:List β},xP R xs ys→∀ {i:Nat} {b:β},ys[i]? =some b→∃a,xs[i]? =some a∧R a b
 |_,_,.nil,i,b,h=>by simp at h
 |_,_,.cons h _,0,b,hb=>⟨_,rfl,by simp at hb;subst hb;exact h⟩
 |_,_,.cons _ h,i+1,b,hb=>by simpa using h.at (i:=i) (by simpa using hb)
theorem xP.of:∀ {xs:List α} {ys:List β},xs.length=ys.length→(∀(i:Nat) (a:α) (b:β),xs[i]? =some a→ys[i]? =some b→R a b)→xP R xs ys
 |[],[],_,_=> .nil
 |a::xs,b::ys,hl,h=> .cons (h 0 a b rfl rfl) (xP.of (by simpa using hl) λi a b ha hb=>h (i+1) a b (by simpa using ha) (by simpa using hb))
 |[],_::_,hl,_=>by simp at hl
 |_::_,[],hl,_=>by simp at hl
theorem xP.append:∀ {xs:List α} {ys:List β} {xs':List α} {ys':List β},xP R xs ys→xP R xs' ys'→xP R (xs++xs') (ys++ys')
 |_,_,_,_,.nil,h=>h
 |_,_,_,_,.cons h hs,h'=> .cons h (hs.append h')
theorem xP.split:∀ {xs:List α} {ys:List β},xP R xs ys→∀n,xP R (xs.take n) (ys.take n)∧xP R (xs.drop n) (ys.drop n)
 |_,_,.nil,n=>by simp;exact .nil
 |_,_,.cons h hs,0=>⟨.nil,.cons h hs⟩
 |_,_,.cons h hs,n+1=>⟨.cons h (hs.split n).1,(hs.split n).2⟩
theorem xP.imp(hr:∀a b,R a b→R' a b):∀ {xs:List α} {ys:List β},xP R xs ys→xP R' xs ys
 |_,_,.nil=> .nil
 |_,_,.cons h hs=> .cons (hr _ _ h) (hs.imp hr)
end
def A4(w:World)(S:Nat→Prop)(b:Nat)(k v:Ty)(es:List (k.den×v.den)):Prop:=
 es.length≤140737488355328∧∃ents clock,w.heap[b]? =some (.map ents clock)∧xP (λ(e:MapEntry) (x:k.den×v.den)=>Yd w S e.key x.1∧Yd w S e.val x.2) ents.toList es
theorem A4.mono{w w':World}{S S':Nat→Prop}{b:Nat}{k v:Ty}{es:List (k.den×v.den)}(h:A4 w S b k v es)(hk:∀b,S b→w'.heap[b]? =w.heap[b]?)(hb:w'.heap[b]? =w.heap[b]?)(hS:∀b,S b→S' b):A4 w' S' b k v es:=by
 obtain⟨h0,ents,clock,h1,h2⟩:=h;exact⟨h0,ents,clock,hb.trans h1,h2.imp λ_ _ h=>⟨h.1.mono hk hS,h.2.mono hk hS⟩⟩
inductive Rp (w:World)(S:Nat→Prop):Value→D→Prop
 |undef (v:Value):Rp w S v .undef
 |nil:Rp w S (.slice none 0 0) .nil
 |int (k:IntKind) (n:Int) (h:inK k n):Rp w S (.int k n) (.int k n)
 |bool (b:Bool):Rp w S (.bool b) (.bool b)
 |str (s:ByteArray) (h:s.size≤140737488355328):Rp w S (.string s) (.str s)
 |sl (t:Ty) (xs:List t.den) (v:Value) (h:Yd w S v xs):Rp w S v (.sl t xs)
 |slN (t:Ty) (xs:List t.den) (nl:Bool) (v:Value) (h:Yd w S v xs) (hn:nl=false→v≠ .slice none 0 0) (hy:nl=true→v=.slice none 0 0):Rp w S v (.slN t xs nl)
 |mp (k v:Ty) (es:List (k.den×v.den)) (b:Nat) (hb:S b) (h:A4 w S b k v es):Rp w S (.map (some b)) (.mp k v es)
 |agg (vs:Array Value) (cs:List D) (hl:vs.size=cs.length) (h:∀i d,cs[i]? =some d→Rp w S (vs.getD i Go.undef) d):Rp w S (.agg vs) (.agg cs)
 |tup (vs:Array Value) (cs:List D) (hl:vs.size=cs.length) (h:∀i d,cs[i]? =some d→Rp w S (vs.getD i Go.undef) d):Rp w S (.tuple vs) (.tup cs)
 |iptr (b off:Nat) (cs:List D) (vs:Nat→Value) (hb:S b) (hc:∀i d,cs[i]? =some d→w.cell? ⟨b,i,none⟩=some (vs i)) (h:∀i d,cs[i]? =some d→Rp w S (vs i) d):
   Rp w S (.pointer (some ⟨b,off,none⟩)) (.iptr cs off)
 |elt (t:Ty) (xs:List t.den) (i off b o c:Nat) (hi:i<xs.length) (h:Yd w S (.slice (some ⟨b,o,none⟩) xs.length c) xs):
   Rp w S (.pointer (some ⟨b,o+i*t.size+off,none⟩)) (.elt t xs i off)
 |clo (f:FuncId) (rs:Option (List Ty)) (caps:List D) (vs:Array Value) (hl:vs.size=caps.length) (h:∀i d,caps[i]? =some d→Rp w S (vs.getD i Go.undef) d):Rp w S (.func (.func f) #[] vs) (.clo f rs caps)
 |ifc (u:Value):Rp w S u (.ifc u)
theorem Rp.mono{w w':World}{S S':Nat→Prop}{v:Value}{d:D}(h:Rp w S v d)(hk:∀b,S b→w'.heap[b]? =w.heap[b]?)(hS:∀b,S b→S' b):Rp w' S' v d:=by
 induction h with
 |undef v=>exact .undef v
 |nil=>exact .nil
 |int k n h=>exact .int k n h
 |bool b=>exact .bool b
 |str s h=>exact .str s h
 |sl t xs v h=>exact .sl t xs v (Yd.mono h hk hS)
 |slN t xs nl v h hn hy=>exact .slN t xs nl v (Yd.mono h hk hS) hn hy
 |mp k v es b hb h=>exact .mp k v es b (hS b hb) (h.mono hk (hk b hb) hS)
 |agg vs cs hl h ih=>exact .agg vs cs hl ih
 |tup vs cs hl h ih=>exact .tup vs cs hl ih
 |iptr b off cs vs hb hc h ih=>exact .iptr b off cs vs (hS b hb) (λi d hd=>(World.cell?_of_block (hk b hb)).trans (hc i d hd)) ih
 |elt t xs i off b o c hi h=>exact .elt t xs i off b o c hi (Yd.mono h hk hS)
 |clo f rs caps vs hl h ih=>exact .clo f rs caps vs hl ih
 |ifc u=>exact .ifc u
section
variable {w:World}{S:Nat→Prop}{v:Value}
theorem Rp.int_inv{k:IntKind}{n:Int}(h:Rp w S v (.int k n)):v=.int k n∧inK k n:=by cases h with|int _ _ h=>exact⟨rfl,h⟩
theorem Rp.bool_inv{b:Bool}(h:Rp w S v (.bool b)):v=.bool b:=by cases h;rfl
theorem Rp.str_inv{s:ByteArray}(h:Rp w S v (.str s)):v=.string s∧s.size≤140737488355328:=by cases h with|str _ h=>exact⟨rfl,h⟩
theorem Rp.slN_inv{t:Ty}{xs:List t.den}{nl:Bool}(h:Rp w S v (.slN t xs nl)):Yd w S v xs∧(nl=false→v≠ .slice none 0 0)∧(nl=true→v=.slice none 0 0):=by cases h;exact⟨by assumption,by assumption,by assumption⟩
theorem Rp.nil_inv(h:Rp w S v .nil):v=.slice none 0 0:=by cases h;rfl
theorem Rp.sl_inv{t:Ty}{xs:List t.den}(h:Rp w S v (.sl t xs)):Yd w S v xs:=by cases h with|sl _ _ _ h=>exact h
theorem Rp.mp_inv{k u:Ty}{es:List (k.den×u.den)}(h:Rp w S v (.mp k u es)):∃b,v=.map (some b)∧S b∧A4 w S b k u es:=by cases h with|mp _ _ _ b hb h=>exact⟨b,rfl,hb,h⟩
theorem Rp.agg_inv{cs:List D}(h:Rp w S v (.agg cs)):∃vs,v=.agg vs∧vs.size=cs.length∧∀i d,cs[i]? =some d→Rp w S (vs.getD i Go.undef) d:=by cases h with|agg vs _ hl h=>exact⟨vs,rfl,hl,h⟩
theorem Rp.tup_inv{cs:List D}(h:Rp w S v (.tup cs)):∃vs,v=.tuple vs∧vs.size=cs.length∧∀i d,cs[i]? =some d→Rp w S (vs.getD i Go.undef) d:=by cases h with|tup vs _ hl h=>exact⟨vs,rfl,hl,h⟩
theorem Rp.iptr_inv{cs:List D}{off:Nat}(h:Rp w S v (.iptr cs off)):∃b,v=.pointer (some ⟨b,off,none⟩)∧S b∧∀i d,cs[i]? =some d→∃u,w.cell? ⟨b,i,none⟩=some u∧Rp w S u d:=by
 cases h with|iptr b _ _ vs hb hc h=>exact⟨b,rfl,hb,λi d hd=>⟨vs i,hc i d hd,h i d hd⟩⟩
theorem Rp.elt_inv{t:Ty}{xs:List t.den}{i off:Nat}(h:Rp w S v (.elt t xs i off)):∃b o c,v=.pointer (some ⟨b,o+i*t.size+off,none⟩)∧i<xs.length∧Yd w S (.slice (some ⟨b,o,none⟩) xs.length c) xs:=by
 cases h with|elt _ _ _ _ b o c hi h=>exact⟨b,o,c,rfl,hi,h⟩
theorem Rp.clo_inv{f:FuncId}{rs:Option (List Ty)}{caps:List D}(h:Rp w S v (.clo f rs caps)):∃vs,v=.func (.func f) #[] vs∧vs.size=caps.length∧∀i d,caps[i]? =some d→Rp w S (vs.getD i Go.undef) d:=by
 cases h with|clo _ _ _ vs hl h=>exact⟨vs,rfl,hl,h⟩
theorem Rp.ifc_inv{u:Value}(h:Rp w S v (.ifc u)):v=u:=by cases h;rfl
theorem Rp.int_mk{n:Int}(h:yJ n):Rp w S (.int .i64 n) (.int .i64 n):=.int _ _ h
theorem Rp.iptr_mk{b off:Nat}{cs:List D}(hb:S b)(h:∀i d,cs[i]? =some d→∃u,w.cell? ⟨b,i,none⟩=some u∧Rp w S u d):Rp w S (.pointer (some ⟨b,off,none⟩)) (.iptr cs off):=
 .iptr b off cs (λi=>(w.cell? ⟨b,i,none⟩).getD default) hb (λi d hd=>by obtain⟨u,hu,_⟩:=h i d hd;rw[hu];rfl) (λi d hd=>by obtain⟨u,hu,hr⟩:=h i d hd;rw[hu];exact hr)
theorem OA.sl{t:Ty}{v:Value}{xs:List t.den}(h:OA w S [v] xs):Rp w S v (.sl t xs):=.sl t xs v (by
 obtain⟨A,c,rfl,_,h'⟩:=AZ h;exact h')
theorem mY:(t:Ty)→ {x:t.den}→ {cs:List Value}→vS.rd w S cs x→xP (Rp w S) cs (cells t x)
 | .int,x,cs,h=>by obtain⟨rfl,h⟩:=h;exact .cons (.int_mk h) .nil
 | .bool,x,cs,(h:cs=[.bool x])=>by subst h;exact .cons (.bool x) .nil
 | .str,x,cs,h=>by obtain⟨rfl,h⟩:=h;exact .cons (.str x h) .nil
 | .tok,x,cs,h=>by obtain⟨rfl,h1,h2,h3⟩:=h;exact .cons (.int_mk h1) (.cons (.int_mk h2) (.cons (.str _ h3) .nil))
 | .lit,x,cs,h=>by obtain⟨rfl,h1,h2,h3⟩:=h;exact .cons (.int_mk h1) (.cons (.int_mk h2) (.cons (.int_mk h3) .nil))
 | .var,x,cs,h=>by obtain⟨rfl,h1,h2,h3⟩:=h;exact .cons (.str _ h1) (.cons (.int_mk h2) (.cons (.int_mk h3) .nil))
 | .con,x,cs,h=>by obtain⟨v1,v2,v3,v4,rfl,a,b,h1,h2,h3,h4⟩:=h;exact .cons (.int_mk a) (.cons (OA.sl (t:=.int) h1) (.cons (OA.sl (t:=.int) h2) (.cons (.int_mk b) (.cons (OA.sl (t:=.list .int) h3) (.cons (OA.sl (t:=.lit) h4) .nil)))))
 | .mdl,x,cs,h=>by obtain⟨v1,v2,rfl,a,b,h1,h2⟩:=h;exact .cons (OA.sl (t:=.var) h1) (.cons (OA.sl (t:=.con) h2) (.cons (.int_mk a) (.cons (.int_mk b) .nil)))
 | .step,x,cs,h=>by obtain⟨v,rfl,a,b,h1⟩:=h;exact .cons (.int_mk a) (.cons (.int_mk b) (.cons (OA.sl (t:=.lit) h1) .nil))
 | .term,x,cs,h=>by obtain⟨rfl,h1,h2⟩:=h;exact .cons (.int_mk h1) (.cons (.int_mk h2) .nil)
 | .ans,x,cs,h=>by obtain⟨v1,v2,rfl,a,h1,h2⟩:=h;exact .cons (.int_mk a) (.cons (OA.sl (t:=.int) h1) (.cons (OA.sl (t:=.step) h2) .nil))
 | .list t,xs,cs,h=>by obtain⟨A,c,rfl,h⟩:=h;exact .cons (.sl t xs _ ⟨_,rfl,A,c,rfl,h⟩) .nil
 | .pr a b,x,cs,h=>by obtain⟨c1,c2,rfl,h1,h2⟩:=h;exact(mY a h1).append (mY b h2)
 | .byte,x,cs,(h:cs=[.int .u8 (x.toNat:Int)])=>by subst h;exact .cons (.int _ _ ⟨by omega,by have:=x.toNat_lt;omega⟩) .nil
theorem YL{t:Ty}{d:D}{xs:List t.den}(h:L6 t d=some xs)(hr:Rp w S v d):OA w S [v] xs:=by
 cases d<;>simp only[L6]at h
 case sl t' ys=>
  split at h
  ·rename_i e;subst e;injection h with h;subst h;exact A3 hr.sl_inv
  ·cases h
 case nil=>
  injection h with h;subst h
  rw[hr.nil_inv];exact⟨none,0,rfl,by simp,by simp,by simp,λ_=>rfl,λhn=>absurd hn (by simp)⟩
 all_goals cases h
theorem RH(t:Ty){ds:List D}{x:t.den}{cs:List Value}(h:ofD t ds=some x)(hr:xP (Rp w S) cs ds):vS.rd w S cs x:=by
 unfold ofD at h
 split at h
 case h_1=>injection h with h;subst h;obtain _|⟨h1,_|_⟩:=hr;obtain⟨rfl,g1⟩:=h1.int_inv;exact⟨rfl,g1⟩
 case h_2=>injection h with h;subst h;obtain _|⟨h1,_|_⟩:=hr;rw[h1.bool_inv];rfl
 case h_3=>injection h with h;subst h;obtain _|⟨h1,_|_⟩:=hr;obtain⟨rfl,g1⟩:=h1.str_inv;exact⟨rfl,g1⟩
 case h_4=>injection h with h;subst h;obtain _|⟨h1,_|⟨h2,_|⟨h3,_|_⟩⟩⟩:=hr;obtain⟨rfl,g1⟩:=h1.int_inv;obtain⟨rfl,g2⟩:=h2.int_inv;obtain⟨rfl,g3⟩:=h3.str_inv;exact⟨rfl,g1,g2,g3⟩
 case h_5=>injection h with h;subst h;obtain _|⟨h1,_|⟨h2,_|⟨h3,_|_⟩⟩⟩:=hr;obtain⟨rfl,g1⟩:=h1.int_inv;obtain⟨rfl,g2⟩:=h2.int_inv;obtain⟨rfl,g3⟩:=h3.int_inv;exact⟨rfl,g1,g2,g3⟩
 case h_6=>injection h with h;subst h;obtain _|⟨h1,_|⟨h2,_|⟨h3,_|_⟩⟩⟩:=hr;obtain⟨rfl,g1⟩:=h1.str_inv;obtain⟨rfl,g2⟩:=h2.int_inv;obtain⟨rfl,g3⟩:=h3.int_inv;exact⟨rfl,g1,g2,g3⟩
 case h_7=>
  obtain _|⟨h1,_|⟨h2,_|⟨h3,_|⟨h4,_|⟨h5,_|⟨h6,_|_⟩⟩⟩⟩⟩⟩:=hr
  obtain⟨rfl,g1⟩:=h1.int_inv;obtain⟨rfl,g4⟩:=h4.int_inv;split at h
  ·rename_i q2 q3 q5 q6;injection h with h;subst h
   exact⟨_,_,_,_,rfl,g1,g4,YL q2 h2,YL q3 h3,YL q5 h5,YL q6 h6⟩
  ·cases h
 case h_8=>
  obtain _|⟨h1,_|⟨h2,_|⟨h3,_|⟨h4,_|_⟩⟩⟩⟩:=hr
  obtain⟨rfl,g3⟩:=h3.int_inv;obtain⟨rfl,g4⟩:=h4.int_inv;split at h
  ·rename_i q1 q2;injection h with h;subst h
   exact⟨_,_,rfl,g3,g4,YL q1 h1,YL q2 h2⟩
  ·cases h
 case h_9=>
  obtain _|⟨h1,_|⟨h2,_|⟨h3,_|_⟩⟩⟩:=hr
  obtain⟨rfl,g1⟩:=h1.int_inv;obtain⟨rfl,g2⟩:=h2.int_inv;split at h
  ·rename_i q1;injection h with h;subst h
   exact⟨_,rfl,g1,g2,YL q1 h3⟩
  ·cases h
 case h_10=>injection h with h;subst h;obtain _|⟨h1,_|⟨h2,_|_⟩⟩:=hr;obtain⟨rfl,g1⟩:=h1.int_inv;obtain⟨rfl,g2⟩:=h2.int_inv;exact⟨rfl,g1,g2⟩
 case h_11=>
  obtain _|⟨h1,_|⟨h2,_|⟨h3,_|_⟩⟩⟩:=hr
  obtain⟨rfl,g1⟩:=h1.int_inv;split at h
  ·rename_i q1 q2;injection h with h;subst h
   exact⟨_,_,rfl,g1,YL q1 h2,YL q2 h3⟩
  ·cases h
 case h_12=>
  obtain _|⟨h1,_|_⟩:=hr
  exact YL h h1
 case h_13 a b=>
  split at h
  ·rename_i x y q1 q2
   injection h with h;subst h
   obtain⟨e1,e2⟩:=hr.split a.size;exact⟨_,_,(List.take_append_drop a.size cs).symm,RH a q1 e1,RH b q2 e2⟩
  ·cases h
 case h_14 n=>
  injection h with h;subst h
  obtain _|⟨h1,_|_⟩:=hr
  obtain⟨rfl,g1,g2⟩:=h1.int_inv;show _=[_]
  rw[UInt8.toNat_ofNat',Nat.mod_eq_of_lt (by omega),Int.toNat_of_nonneg g1]
 case h_15=>cases h
end
inductive yD
 |cells (ds:List D)
 |row (e:TypeId) (t:Ty) (xs:List t.den)
 |mp (k v:Ty) (es:List (k.den×v.den))
 |val (ds:List D)
structure St where
 fr:List (Nat×D)
 hp:List (Nat×yD)
def zZ{α:Type}(k:Nat):List (Nat×α)→Option α
 |[]=>none
 |(i,a)::r=>bif Nat.beq i k then some a else zZ k r
def D.or:Option D→D
 |some d=>d
 |none=> .undef
def St.get(σ:St)(i:Nat):D:=D.or (zZ i σ.fr)
def St.ob(σ:St)(k:Nat):Option yD:=zZ k σ.hp
def St.put(σ:St)(i:Nat)(d:D):St:=⟨(i,d)::σ.fr,σ.hp⟩
def St.putO(σ:St):Option Nat→D→St
 |some i,d=>σ.put i d
 |none,_=>σ
def D.ref:D→Option Nat
 | .own k=>some k
 | .ownN k=>some k
 | .ptr k _=>some k
 | .oelt k _ _ _=>some k
 | .clp _ _ k _=>some k
 | .slf k=>some k
 |_=>none
def D.kill(k:Nat)(d:D):D:=match d.ref with
 |some j=>bif Nat.beq j k then .undef else d
 |none=>d
def yD.map(f:D→D):yD→yD
 | .cells ds=> .cells (ds.map f)
 | .val ds=> .val (ds.map f)
 |o=>o
def jT:D→Bool
 | .agg _| .tup _| .undef| .ifc _| .slf _=>false
 |_=>true
def cA:D→Bool
 | .slf _=>true
 | .ifc (.pointer none)=>true
 |_=>false
def XI:List D→Bool
 |d::_=>cA d
 |[]=>false
def A5:List (Nat×Nat):=[(99,2),(101,6)]
def memT:List (Nat×Nat)→Nat→Nat→Bool
 |[],_,_=>false
 |i::r,k,n=>bif Nat.beq i.1 k&&Nat.beq i.2 n then true else memT r k n
def tyC(T:TypeId)(ds:List D):Prop:=XI ds=true→memT A5 T ds.length=true
theorem zcf{f:D→D}(hf:∀d,cA (f d)=true→cA d=true):∀ {ds:List D},XI (ds.map f)=true→XI ds=true
 |[],h=>h
 |d::r,h=>hf d h
theorem Ml{f:D→D}(hf:∀d,cA (f d)=true→cA d=true){T:TypeId}{ds:List D}(h:tyC T ds):tyC T (ds.map f):=λh'=>by rw[List.length_map];exact h (zcf hf h')
theorem O6{ds:List D}{i:Nat}{d:D}(h:XI (ds.set i d)=true):XI ds=true∨(i=0∧cA d=true):=by
 cases ds with
 |nil=>exact .inl h
 |cons a r=>
  cases i with
  |zero=>exact .inr ⟨rfl,h⟩
  |succ i=>exact .inl h
def yD.parts:yD→List D
 | .cells ds=>ds
 | .val ds=>ds
 |_=>[]
def St.map(f:D→D)(σ:St):St:=⟨σ.fr.map λx=>(x.1,f x.2),σ.hp.map λx=>(x.1,x.2.map f)⟩
def drop{α:Type}(k:Nat):List (Nat×α)→List (Nat×α)
 |[]=>[]
 |(i,a)::r=>bif Nat.beq i k then drop k r else(i,a)::drop k r
def St.mk'(σ:St)(k:Nat)(o:yD):St:=⟨(σ.map (D.kill k)).fr,(k,o)::drop k (σ.map (D.kill k)).hp⟩
def St.setOb(σ:St)(k:Nat)(o:yD):St:=⟨σ.fr,(k,o)::drop k σ.hp⟩
def qA(k:Nat):yD→D→D
 | .cells ds,.ptr j off=>bif Nat.beq j k then .iptr ds off else .ptr j off
 | .row _ t xs,.own j=>bif Nat.beq j k then .sl t xs else .own j
 | .row _ t xs,.ownN j=>bif Nat.beq j k then .slN t xs false else .ownN j
 | .row _ t xs,.oelt j sz i off=>bif Nat.beq j k then bif Nat.beq sz t.size then .elt t xs i off else .undef else .oelt j sz i off
 | .val ds,.own j=>bif Nat.beq j k then .agg ds else .own j
 | .mp kt vt es,.own j=>bif Nat.beq j k then .mp kt vt es else .own j
 |_,d=>d.kill k
def St.pub(σ:St)(k:Nat)(o:yD):St:=⟨(σ.map (qA k o)).fr,drop k (σ.map (qA k o)).hp⟩
section
variable {α:Type}
theorem yY{i k:Nat}:Nat.beq i k=true↔i=k:=Iff.of_eq Nat.beq_eq
theorem xX(k i:Nat)(a:α)(r:List (Nat×α)):zZ k ((i,a)::r)=if i=k then some a else zZ k r:=by
 show(bif Nat.beq i k then some a else zZ k r)=_
 by_cases h:i=k
 ·rw[yY.2 h,cond_true,if_pos h]
 ·have:Nat.beq i k=false:=by
   cases hb:Nat.beq i k with
   |true=>exact absurd (yY.1 hb) h
   |false=>rfl
  rw[this,cond_false,if_neg h]
theorem iZ(f:α→α)(k:Nat):∀l:List (Nat×α),zZ k (l.map λx=>(x.1,f x.2))=(zZ k l).map f
 |[]=>rfl
 |(i,a)::r=>by
  rw[List.map_cons,xX,xX,iZ f k r];split<;>rfl
theorem pC(k j:Nat):∀l:List (Nat×α),zZ j (drop k l)=if k=j then none else zZ j l
 |[]=>by simp[drop,zZ]
 |(i,a)::r=>by
  show zZ j (bif Nat.beq i k then drop k r else(i,a)::drop k r)=_
  cases hb:Nat.beq i k with
  |true=>
   have:=yY.1 hb;subst this;rw[cond_true,pC i j r,xX];split<;>simp_all
  |false=>
   rw[cond_false,xX,xX,pC k j r];have hik:i≠k:=λh=>by rw[yY.2 h]at hb;cases hb
   by_cases h1:i=j
   ·rw[if_pos h1,if_pos h1,if_neg (by omega)]
   ·rw[if_neg h1,if_neg h1]
end
def Rd(w:World)(S:Nat→Prop)(pl:Nat→Value)(v:Value)(d:D):Prop:=
 match d with
 | .own k=>v=pl k
 | .ownN k=>v=pl k∧v≠ .slice none 0 0
 | .ptr k off=>∃b,pl k=.pointer (some ⟨b,0,none⟩)∧v=.pointer (some ⟨b,off,none⟩)
 | .oelt k sz i off=>∃b n c,pl k=.slice (some ⟨b,0,none⟩) n c∧i<n∧v=.pointer (some ⟨b,i*sz+off,none⟩)
 | .slf k=>v=.pointer none∨∃b,pl k=.pointer (some ⟨b,0,none⟩)∧v=.pointer (some ⟨b,0,none⟩)
 | .clp f bd k off=>∃b,pl k=.pointer (some ⟨b,0,none⟩)∧v=.func (.func f) (bif bd then #[.pointer (some ⟨b,off,none⟩)]else #[]) (bif bd then #[]else #[.pointer (some ⟨b,off,none⟩)])
 |d=>Rp w S v d
def pY:Value→Option Nat
 | .pointer (some a)=>some a.block
 | .slice (some a) _ _=>some a.block
 | .map (some b)=>some b
 |_=>none
def lim:Nat:=140737488355328
def Xf(w:World)(S:Nat→Prop)(pl:Nat→Value)(p:Value):yD→Prop
 | .cells ds=>∃b vs T,p=.pointer (some ⟨b,0,none⟩)∧w.heap[b]? =some (.cells vs T (0,0))∧vs.size=ds.length∧
   (∀i d,ds[i]? =some d→Rd w S pl (vs.getD i undef) d)∧tyC T ds
 | .row e t xs=>xs.length*t.bytes≤lim∧∃css:List (List Value),css.length=xs.length∧w.ownsRow 0 e t.size p xs.length css.flatten∧(∀cs∈css,cs.length=t.size)∧
   ∀(i:Nat) (x:t.den) (cs:List Value),xs[i]? =some x→css[i]? =some cs→vS.rd w S cs x
 | .mp kt vt es=>∃b,p=.map (some b)∧A4 w S b kt vt es
 | .val ds=>∃vs,p=.agg vs∧vs.size=ds.length∧∀i d,ds[i]? =some d→Rd w S pl (vs.getD i undef) d∧(jT d=true→(vs.getD i undef).oneCell'=true)
def stabK(k:Nat):Bool:=Nat.ble 1000 k&&Nat.blt k 2000
structure Vy where
 w:World
 S:Nat→Prop
 O:Nat→Prop
 pl:Nat→Value
structure qB (B:Nat)(O:Nat→Prop)(w w':World):Prop where
 os:w'.os=w.os
 tape:w'.tape=w.tape
 output:w'.output=w.output
 size:w.heap.size≤w'.heap.size
 block:∀k,k<B→¬O k→w'.heap[k]? =w.heap[k]?
theorem qB.of{B:Nat}{O:Nat→Prop}{w w':World}(h:Below B w w'):qB B O w w':=⟨h.os,h.tape,h.output,h.size,λk hk _=>h.block k hk⟩
theorem qB.trans{B:Nat}{O:Nat→Prop}{a b c:World}(h:qB B O a b)(k:qB B O b c):qB B O a c:=
 ⟨k.os.trans h.os,k.tape.trans h.tape,k.output.trans h.output,Nat.le_trans h.size k.size,λi hi ho=>(k.block i hi ho).trans (h.block i hi ho)⟩
theorem qB.below{B:Nat}{O:Nat→Prop}{w w':World}(h:qB B O w w')(hO:∀b,¬O b):Below B w w':=⟨h.os,h.tape,h.output,h.size,λk hk=>h.block k hk (hO k)⟩
def DT(P:Program)(w:World)(O:Nat→Prop):Prop:=∀g,P.globalNamed "internal/strconv.uint64pow10" =some g→Lib.TabIs P w "internal/strconv.uint64pow10" .u64 Lib.pow10Tab∧¬O g
theorem DT.step{P:Program}{w w':World}{O O':Nat→Prop}(h:DT P w O)(hb:qB w.heap.size O w w')(hO:∀b,O' b→O b∨w.heap.size≤b):DT P w' O':=λg hg=>by
 obtain⟨h1,h2⟩:=h g hg
 have hlt:g<w.heap.size:=by
  rcases Nat.lt_or_ge g w.heap.size with hl|hl
  ·exact hl
  ·unfold Lib.TabIs World.var? at h1
   rw[hg]at h1
   simp only[Option.bind_some,Array.getElem?_eq_none hl]at h1
   cases h1
 refine⟨?_,λho=>(hO g ho).elim h2 λhge=>by omega⟩
 unfold Lib.TabIs World.var? at h1⊢
 rw[hg]at h1⊢
 simp only[Option.bind_some]at h1⊢
 rw[hb.block g hlt h2];exact h1
theorem DT.sub{P:Program}{w:World}{O O':Nat→Prop}(h:DT P w O)(hO:∀b,O' b→O b):DT P w O':=λg hg=>⟨(h g hg).1,λho=>(h g hg).2 (hO g ho)⟩
structure rL (P:Program)(b0:Vy)(N:Nat)(σ:St)(a:Act)(w:World)(S:Nat→Prop)(pl:Nat→Value):Prop where
 dz:a.defers=[]
 sz:a.tmps.size=N
 fr:∀i,Rd w S pl (a.tmps.getD i undef) (σ.get i)
 hp:∀k o,zZ k σ.hp=some o→Xf w S pl (pl k) o
 lt:∀b,S b→b<w.heap.size
 src:∀b,S b→b0.S b∨b0.O b∨b0.w.heap.size≤b
 priv:∀k o b,zZ k σ.hp=some o→pY (pl k)=some b→(b0.O b∨b0.w.heap.size≤b)∧b<w.heap.size∧¬S b
 inj:∀k k' o o' b,zZ k σ.hp=some o→zZ k' σ.hp=some o'→pY (pl k)=some b→pY (pl k')=some b→k=k'
 below:qB b0.w.heap.size b0.O b0.w w
 stay:∀k,stabK k=true→pl k=b0.pl k
 gok:DT P b0.w b0.O
theorem rL.gnow{P:Program}{b0:Vy}{N:Nat}{σ:St}{a:Act}{w:World}{S:Nat→Prop}{pl:Nat→Value}(m:rL P b0 N σ a w S pl){O:Nat→Prop}(hO:∀b,O b→b0.O b∨b0.w.heap.size≤b):DT P w O:=m.gok.step m.below hO
theorem Pj{k:Nat}{d:D}(h:jT (d.kill k)=true):jT d=true:=by
 cases d<;>first|rfl|exact h|(simp only[D.kill,D.ref]at h;revert h;cases Nat.beq _ k<;>exact id)
theorem L7{k:Nat}{d:D}(h:cA (d.kill k)=true):cA d=true:=by
 cases d<;>first|rfl|exact h|(simp only[D.kill,D.ref]at h;revert h;cases Nat.beq _ k<;>exact id)
theorem D.kill_ne{k:Nat}{d:D}(h:d.ref≠some k):d.kill k=d:=by
 unfold D.kill;cases hr:d.ref with
 |none=>rfl
 |some j=>
  simp only;cases hb:Nat.beq j k with
  |true=>rw[hr,yY.1 hb]at h;exact absurd rfl h
  |false=>rfl
theorem D.kill_eq{k:Nat}{d:D}(h:d.ref=some k):d.kill k=.undef:=by
 unfold D.kill;rw[h];simp only[yY.2 (rfl:k=k),cond_true]
section
variable {P:Program}{b0:Vy}{w w':World}{S S':Nat→Prop}{pl pl':Nat→Value}{N:Nat}{σ:St}{a:Act}{v:Value}{d:D}
theorem Rd.flat(h:Rd w S pl v d)(hd:d.ref=none):Rp w S v d:=by
 cases d<;>first|exact h|(simp[D.ref]at hd)
theorem Rp.rd(h:Rp w S v d):Rd w S pl v d:=by
 cases d<;>first|exact h|cases h
theorem Rd.mono(h:Rd w S pl v d)(hk:∀b,S b→w'.heap[b]? =w.heap[b]?)(hS:∀b,S b→S' b)(hp:∀k,d.ref=some k→pl' k=pl k):Rd w' S' pl' v d:=by
 cases hr:d.ref with
 |none=>exact((h.flat hr).mono hk hS).rd
 |some k=>
  have hp:=hp k hr;cases d<;>simp only[D.ref,Option.some.injEq,reduceCtorEq]at hr
  all_goals subst hr;simp only[Rd]at h⊢;rw[hp];exact h
theorem Rd.kill(h:Rd w S pl v d)(k:Nat):Rd w S pl v (d.kill k):=by
 by_cases hr:d.ref=some k
 ·rw[D.kill_eq hr];exact Rp.rd (.undef v)
 ·rw[D.kill_ne hr];exact h
theorem WG(d:D)(k:Nat):(d.kill k).ref≠some k:=by
 by_cases hr:d.ref=some k
 ·rw[D.kill_eq hr];simp[D.ref]
 ·rw[D.kill_ne hr];exact hr
theorem nW:Rd w S pl v .undef:=Rp.rd (.undef v)
theorem Xf.mono{p:Value}{o:yD}(h:Xf w S pl p o)(hk:∀b,S b→w'.heap[b]? =w.heap[b]?)(hb:∀b,pY p=some b→w'.heap[b]? =w.heap[b]?)(hS:∀b,S b→S' b)
  (hp:∀d k,d∈o.parts→d.ref=some k→pl' k=pl k):Xf w' S' pl' p o:=by
 cases o with
 |cells ds=>
  obtain⟨b,vs,T,rfl,h1,h2,h3,h4⟩:=h;exact⟨b,vs,T,rfl,by rw[hb b rfl];exact h1,h2,λi d hd=>(h3 i d hd).mono hk hS λk hr=>hp d k (List.mem_of_getElem? hd) hr,h4⟩
 |val ds=>
  obtain⟨vs,rfl,h2,h3⟩:=h;exact⟨vs,rfl,h2,λi d hd=>⟨(h3 i d hd).1.mono hk hS λk hr=>hp d k (List.mem_of_getElem? hd) hr,(h3 i d hd).2⟩⟩
 |row e t xs=>
  obtain⟨h0,css,h1,h2,h3,h4⟩:=h;refine⟨h0,css,h1,⟨h2.1,?_⟩,h3,λi x cs hx hc=>vS.mono (h4 i x cs hx hc) hk hS⟩
  rcases h2.2 with hn|⟨g,cap,cur,rfl,hb',hg,rest⟩
  ·exact .inl hn
  ·exact .inr ⟨g,cap,cur,rfl,hb',by rw[hb g rfl];exact hg,rest⟩
 |mp kt vt es=>
  obtain⟨b,rfl,h⟩:=h;exact⟨b,rfl,h.mono hk (hb b rfl) hS⟩
theorem St.get_put(σ:St)(i j:Nat)(d:D):(σ.put i d).get j=if i=j then d else σ.get j:=by
 unfold St.get St.put;rw[xX];split<;>rfl
theorem St.get_map(f:D→D)(hf:f .undef=.undef)(σ:St)(i:Nat):(σ.map f).get i=f (σ.get i):=by
 unfold St.get St.map;rw[iZ];cases zZ i σ.fr<;>simp[D.or,hf]
theorem rL.put(m:rL P b0 N σ a w S pl){i:Nat}(hi:i<N)(h:Rd w S pl v d):rL P b0 N (σ.put i d) {a with tmps:=a.tmps.setIfInBounds i v} w S pl where
 dz:=m.dz
 sz:=by simpa using m.sz
 fr:=λj=>by
  rw[St.get_put]
  by_cases hj:i=j
  ·subst hj;rw[if_pos rfl];rw[Array.getD_eq_getD_getElem?];simpa[m.sz,hi]using h
  ·rw[if_neg hj,Array.getD_eq_getD_getElem?,Array.getElem?_setIfInBounds_ne hj,←Array.getD_eq_getD_getElem?];exact m.fr j
 hp:=m.hp
 lt:=m.lt
 src:=m.src
 priv:=m.priv
 inj:=m.inj
 below:=m.below
 stay:=m.stay
 gok:=m.gok
theorem rL.putO(m:rL P b0 N σ a w S pl){dst:Option Nat}(hi:∀i,dst=some i→i<N)(h:Rd w S pl v d):rL P b0 N (σ.putO dst d) (a.put dst v) w S pl:=by
 cases dst with
 |none=>exact m
 |some i=>exact m.put (hi i rfl) h
theorem rL.world(m:rL P b0 N σ a w S pl)(hS:∀b,S b→w'.heap[b]? =w.heap[b]?)(hP:∀k o b,zZ k σ.hp=some o→pY (pl k)=some b→w'.heap[b]? =w.heap[b]?)
  (hs:w.heap.size≤w'.heap.size) (hb:qB b0.w.heap.size b0.O b0.w w'):rL P b0 N σ a w' S pl where
 dz:=m.dz
 sz:=m.sz
 fr:=λi=>(m.fr i).mono hS (λ_ h=>h) λ_ _=>rfl
 hp:=λk o h=>(m.hp k o h).mono hS (λb hb=>hP k o b h hb) (λ_ h=>h) λ_ _ _ _=>rfl
 lt:=λb h=>Nat.lt_of_lt_of_le (m.lt b h) hs
 src:=m.src
 priv:=λk o b h h'=>⟨(m.priv k o b h h').1,Nat.lt_of_lt_of_le (m.priv k o b h h').2.1 hs,(m.priv k o b h h').2.2⟩
 inj:=m.inj
 below:=hb
 stay:=m.stay
 gok:=m.gok
theorem rL.later(m:rL P b0 N σ a w S pl)(hb:Below w.heap.size w w'):rL P b0 N σ a w' S pl:=
 m.world (λb h=>hb.block b (m.lt b h)) (λk o b h h'=>hb.block b (m.priv k o b h h').2.1) hb.size (m.below.trans (.of (hb.mono m.below.size)))
theorem rL.more(m:rL P b0 N σ a w S pl)(hS:∀b,S b→S' b)(h1:∀b,S' b→b<w.heap.size)(h2:∀b,S' b→b0.S b∨b0.O b∨b0.w.heap.size≤b)(h3:∀k o b,zZ k σ.hp=some o→pY (pl k)=some b→¬S' b):rL P b0 N σ a w S' pl where
 dz:=m.dz
 sz:=m.sz
 fr:=λi=>(m.fr i).mono (λ_ _=>rfl) hS λ_ _=>rfl
 hp:=λk o h=>(m.hp k o h).mono (λ_ _=>rfl) (λ_ _=>rfl) hS λ_ _ _ _=>rfl
 lt:=h1
 src:=h2
 priv:=λk o b h h'=>⟨(m.priv k o b h h').1,(m.priv k o b h h').2.1,h3 k o b h h'⟩
 inj:=m.inj
 below:=m.below
 stay:=m.stay
 gok:=m.gok
theorem fI{α:Type}{k:Nat}{o:α}:∀ {l:List (Nat×α)},zZ k l=some o→(k,o)∈l
 |[],h=>by cases h
 |(i,x)::r,h=>by
  rw[xX]at h
  split at h
  ·rename_i e;injection h with h;subst h e;exact List.mem_cons_self
  ·exact List.mem_cons_of_mem _ (fI h)
theorem rL.mk'(m:rL P b0 N σ a w S pl)(k:Nat)(hst:stabK k=false)(o:yD)(p:Value)(hlater:Below w.heap.size w w')(hp:∀b,pY p=some b→w.heap.size≤b∧b<w'.heap.size)
  (ho:∀pl':Nat→Value,(∀j,j≠k→pl' j=pl j)→Xf w' S pl' p o):rL P b0 N (σ.mk' k o) a w' S (λj=>if j=k then p else pl j):=by
 have m':=m.later hlater;have hne:∀j,j≠k→(λj=>if j=k then p else pl j) j=pl j:=λj hj=>if_neg hj
 have hold:∀j o',zZ j (σ.mk' k o).hp=some o'→j≠k→∃o₀,zZ j σ.hp=some o₀∧o'=o₀.map (D.kill k):=by
  intro j o' h hj;simp only[St.mk',xX,pC,if_neg (Ne.symm hj)]at h
  simp only[St.map,iZ]at h
  cases ho:zZ j σ.hp with
  |none=>rw[ho]at h;cases h
  |some o₀=>rw[ho]at h;injection h with h;exact⟨o₀,rfl,h.symm⟩
 refine⟨m.dz,m.sz,λi=> ?_,λj o' h=> ?_,m'.lt,m'.src,λj o' b h hb=> ?_,λj j' o1 o2 b h1 h2 hb1 hb2=> ?_,m'.below,λj hj=>(hne j λe=>by rw[e,hst]at hj;cases hj).trans (m.stay j hj),m.gok⟩
 ·have e:(σ.mk' k o).get i=(σ.get i).kill k:=by
   show D.or (zZ i (σ.map (D.kill k)).fr)=_
   exact St.get_map _ rfl σ i
  rw[e];exact((m'.fr i).kill k).mono (λ_ _=>rfl) (λ_ h=>h) λj hj=>hne j λe=>WG _ _ (e▸hj)
 ·by_cases hj:j=k
  ·subst hj
   simp only[St.mk',xX,if_pos]at h
   injection h with h;subst h
   rw[if_pos rfl];exact ho _ hne
  ·obtain⟨o₀,h0,rfl⟩:=hold j o' h hj
   rw[if_neg hj];have h1:=m'.hp j o₀ h0;cases o₀ with
   |row e t xs=>exact Xf.mono (pl:=pl) h1 (λ_ _=>rfl) (λ_ _=>rfl) (λ_ h=>h) λ_ _ e=>by cases e
   |mp kt vt es=>exact Xf.mono (pl:=pl) h1 (λ_ _=>rfl) (λ_ _=>rfl) (λ_ h=>h) λ_ _ e=>by cases e
   |val ds=>
    obtain⟨vs,e1,e3,e4⟩:=h1;refine⟨vs,e1,by simpa using e3,λi d hd=> ?_⟩
    simp only[List.getElem?_map,Option.map_eq_some_iff]at hd
    obtain⟨d0,hd0,rfl⟩:=hd;exact⟨((e4 i d0 hd0).1.kill k).mono (λ_ _=>rfl) (λ_ h=>h) λj hj=>hne j λe=>WG _ _ (e▸hj),λhc=>(e4 i d0 hd0).2 (Pj hc)⟩
   |cells ds=>
    obtain⟨b,vs,T,e1,e2,e3,e4,e5⟩:=h1;refine⟨b,vs,T,e1,e2,by simpa using e3,λi d hd=> ?_,Ml (λ_=>L7) e5⟩
    simp only[List.getElem?_map,Option.map_eq_some_iff]at hd
    obtain⟨d0,hd0,rfl⟩:=hd;exact((e4 i d0 hd0).kill k).mono (λ_ _=>rfl) (λ_ h=>h) λj hj=>hne j λe=>WG _ _ (e▸hj)
 ·by_cases hj:j=k
  ·rw[if_pos hj]at hb
   obtain⟨hb1,hb2⟩:=hp b hb;exact⟨.inr (Nat.le_trans m.below.size hb1),hb2,λhs=>by have:=m.lt b hs;omega⟩
  ·rw[if_neg hj]at hb
   obtain⟨o₀,h0,_⟩:=hold j o' h hj;exact m'.priv j o₀ b h0 hb
 ·by_cases hj:j=k<;>by_cases hj':j'=k
  ·rw[hj,hj']
  ·rw[if_pos hj]at hb1;rw[if_neg hj']at hb2
   obtain⟨o₀,h0,_⟩:=hold j' o2 h2 hj';have:=(m.priv j' o₀ b h0 hb2).2.1;have:=(hp b hb1).1;omega
  ·rw[if_neg hj]at hb1;rw[if_pos hj']at hb2
   obtain⟨o₀,h0,_⟩:=hold j o1 h1 hj;have:=(m.priv j o₀ b h0 hb1).2.1;have:=(hp b hb2).1;omega
  ·rw[if_neg hj]at hb1;rw[if_neg hj']at hb2
   obtain⟨p1,h1',_⟩:=hold j o1 h1 hj;obtain⟨p2,h2',_⟩:=hold j' o2 h2 hj';exact m.inj j j' p1 p2 b h1' h2' hb1 hb2
end
def yD.flat:yD→Prop
 | .cells ds=>∀d∈ds,d.ref=none
 | .row _ _ _=>True
 | .mp _ _ _=>True
 | .val ds=>∀d∈ds,d.ref=none
def St.forget(σ:St)(k:Nat):St:=⟨(σ.map (D.kill k)).fr,drop k (σ.map (D.kill k)).hp⟩
def PJ(pl:Nat→Value)(k:Nat)(p:Value):Nat→Value:=λj=>if j=k then p else pl j
section
variable {P:Program}{b0:Vy}{w w':World}{S S':Nat→Prop}{pl pl':Nat→Value}{N:Nat}{σ:St}{a:Act}{v:Value}{d:D}
theorem X0{p:Value}{e:TypeId}{t:Ty}{xs:List t.den}(h:Xf w S pl p (.row e t xs)):Yd w (λb=>S b∨pY p=some b) p xs:=by
 obtain⟨h0,css,h3,h4,h5,h6⟩:=h;rcases h4.2 with⟨rfl,hn⟩|⟨g,cap,cur,rfl,_,hg,hcap,hmax,hcur,htake⟩
 ·obtain rfl:=List.eq_nil_of_length_eq_zero hn
  exact⟨[.slice none 0 0],rfl,none,0,rfl,by simp,by simp,by simp,λ_=>rfl,λhn=>absurd hn (by simp)⟩
 ·refine⟨[_],rfl,some ⟨g,0,none⟩,cap,rfl,by rw[←Ty.bytes_eq];exact h0,hcap,hmax,(λe=>by cases e),λhn=> ?_⟩
  refine⟨g,0,rfl,.inr rfl,λi x hx=> ?_⟩
  have hi:i<xs.length:=(List.getElem?_eq_some_iff.1 hx).1;have hc:css[i]? =some (css[i]'(by omega)):=List.getElem?_eq_getElem (by omega)
  refine⟨_,vS.mono (h6 i x _ hx hc) (λ_ _=>rfl) (λb hb=> .inl hb),λj u hu=> ?_⟩
  have hf:=HD css h5 i j _ u hc hu;have:=h4.cells (g:=g) rfl _ _ hf;rw[←this,Ty.size_eq];unfold Addr.add;split
  ·rename_i e;simp[e]
  ·simp
theorem aB{j k:Nat}(h:j≠k):Nat.beq j k=false:=by
 cases hb:Nat.beq j k with
 |true=>exact absurd (yY.1 hb) h
 |false=>rfl
theorem Mm{k:Nat}{o:yD}{d:D}(h:d.ref≠some k):qA k o d=d:=by
 cases d
 case own j=>have hb:=aB (λe:j=k=>h (by rw[e];rfl));cases o<;>simp[qA,D.kill,D.ref,hb]
 case ptr j off=>have hb:=aB (λe:j=k=>h (by rw[e];rfl));cases o<;>simp[qA,D.kill,D.ref,hb]
 case oelt j sz i off=>have hb:=aB (λe:j=k=>h (by rw[e];rfl));cases o<;>simp[qA,D.kill,D.ref,hb]
 case ownN j=>have hb:=aB (λe:j=k=>h (by rw[e];rfl));cases o<;>simp[qA,D.kill,D.ref,hb]
 case slf j=>have hb:=aB (λe:j=k=>h (by rw[e];rfl));cases o<;>simp[qA,D.kill,D.ref,hb]
 case clp f bd j off=>have hb:=aB (λe:j=k=>h (by rw[e];rfl));cases o<;>simp[qA,D.kill,D.ref,hb]
 all_goals cases o<;>rfl
theorem A6{k:Nat}{o:yD}{d:D}(h:jT (qA k o d)=true):jT d=true:=by
 cases d<;>first|rfl|(cases o<;>first|exact h|exact Pj h)
theorem A7{k:Nat}{o:yD}{d:D}(h:cA (qA k o d)=true):cA d=true:=by
 cases d<;>first|rfl|(cases o<;>first|exact h|exact L7 h|(simp only[qA]at h;revert h;cases Nat.beq _ k<;>first|exact id|exact λh=>(by cases h)|(rw[cond_true];cases Nat.beq _ _<;>exact λh=>(by cases h))))
theorem Pk{k:Nat}{o:yD}(ho:Xf w S pl (pl k) o)(hf:o.flat)(h:Rd w S pl v d):Rd w (λb=>S b∨pY (pl k)=some b) pl v (qA k o d):=by
 by_cases hr:d.ref=some k
 ·cases o with
  |cells ds=>
   obtain⟨b,vs,T,e1,e2,e3,e4,_⟩:=ho;cases d<;>simp only[D.ref,Option.some.injEq,reduceCtorEq]at hr
   case ptr j off=>
    subst hr;simp only[qA,yY.2 (rfl:j=j),cond_true];obtain⟨b',e1',rfl⟩:=h;rw[e1]at e1'
    injection e1' with e1';injection e1' with e1';injection e1' with e1';subst e1'
    refine Rp.rd (Rp.iptr_mk (.inr (by rw[e1];rfl)) λi d hd=> ?_)
    have hi:i<vs.size:=by rw[e3];exact(List.getElem?_eq_some_iff.1 hd).1
    refine⟨vs.getD i undef,?_,((e4 i d hd).flat (hf d (List.mem_of_getElem? hd))).mono (λ_ _=>rfl) λ_ h=> .inl h⟩
    rw[cell_of_row w b i vs T (0,0) e2];simp[Array.getD_eq_getD_getElem?,hi]
   all_goals
    subst hr;simp only[qA];rw[D.kill_eq rfl];exact nW
  |row e t xs=>
   have hv:=X0 ho;cases d<;>simp only[D.ref,Option.some.injEq,reduceCtorEq]at hr
   case own j=>
    subst hr;simp only[qA,yY.2 (rfl:j=j),cond_true];have h:v=pl j:=h;rw[h];exact Rp.rd (.sl t xs _ hv)
   case ownN j=>
    subst hr;simp only[qA,yY.2 (rfl:j=j),cond_true];have h:v=pl j∧v≠ .slice none 0 0:=h;rw[h.1];exact Rp.rd (.slN t xs _ _ hv (λ_=>by rw[←h.1];exact h.2) λe=>by cases e)
   case oelt j sz i off=>
    subst hr;simp only[qA,yY.2 (rfl:j=j),cond_true];obtain⟨b,n,c,e1,hi,rfl⟩:=h;cases hz:Nat.beq sz t.size with
    |false=>exact nW
    |true=>
     rw[cond_true,yY.1 hz];obtain⟨A,c',e2,_⟩:=sO hv;rw[e1]at e2
     injection e2 with e2 e3 e4
     subst e3;rw[e1]at hv
     have:=Rp.elt (w:=w) (S:=λb=>S b∨pY (pl j)=some b) t xs i off b 0 c hi (by rw[e1];exact hv)
     rw[Nat.zero_add]at this
     exact Rp.rd this
   all_goals
    subst hr;simp only[qA];rw[D.kill_eq rfl];exact nW
  |val ds=>
   obtain⟨vs,e1,e3,e4⟩:=ho;cases d<;>simp only[D.ref,Option.some.injEq,reduceCtorEq]at hr
   case own j=>
    subst hr;simp only[qA,yY.2 (rfl:j=j),cond_true];have h:v=pl j:=h;rw[h,e1];exact Rp.rd (.agg vs ds e3 λi d hd=>((e4 i d hd).1.flat (hf d (List.mem_of_getElem? hd))).mono (λ_ _=>rfl) λ_ h=> .inl h)
   all_goals
    subst hr;simp only[qA];rw[D.kill_eq rfl];exact nW
  |mp kt vt es=>
   obtain⟨b,e1,hm⟩:=ho;cases d<;>simp only[D.ref,Option.some.injEq,reduceCtorEq]at hr
   case own j=>
    subst hr;simp only[qA,yY.2 (rfl:j=j),cond_true];have h:v=pl j:=h;rw[h,e1];exact Rp.rd (.mp kt vt es b (.inr rfl) (hm.mono (λ_ _=>rfl) rfl λ_ h=> .inl h))
   all_goals
    subst hr;simp only[qA];rw[D.kill_eq rfl];exact nW
 ·rw[Mm hr]
  exact h.mono (λ_ _=>rfl) (λ_ h=> .inl h) λ_ _=>rfl
theorem rL.pub(m:rL P b0 N σ a w S pl){k:Nat}{o:yD}(h:zZ k σ.hp=some o)(hf:o.flat):rL P b0 N (σ.pub k o) a w (λb=>S b∨pY (pl k)=some b) pl:=by
 have ho:=m.hp k o h
 have hold:∀j o',zZ j (σ.pub k o).hp=some o'→j≠k∧∃o₀,zZ j σ.hp=some o₀∧o'=o₀.map (qA k o):=by
  intro j o' h'
  by_cases hj:j=k
  ·subst hj;simp[St.pub,pC]at h'
  ·refine⟨hj,?_⟩
   simp only[St.pub,pC,if_neg (Ne.symm hj),St.map,iZ]at h'
   cases ho:zZ j σ.hp with
   |none=>rw[ho]at h';cases h'
   |some o₀=>rw[ho]at h';injection h' with h';exact⟨o₀,rfl,h'.symm⟩
 have hu:qA k o .undef=.undef:=by cases o<;>rfl
 refine⟨m.dz,m.sz,λi=> ?_,λj o' h'=> ?_,λb hb=> ?_,λb hb=> ?_,λj o' b h' hb=> ?_,λj j' o1 o2 b h1 h2 hb1 hb2=> ?_,m.below,m.stay,m.gok⟩
 ·have e:(σ.pub k o).get i=qA k o (σ.get i):=St.get_map _ hu σ i
  rw[e];exact Pk ho hf (m.fr i)
 ·obtain⟨hj,o₀,h0,rfl⟩:=hold j o' h'
  have h1:=m.hp j o₀ h0;cases o₀ with
  |row e t xs=>exact h1.mono (λ_ _=>rfl) (λ_ _=>rfl) (λ_ h=> .inl h) λ_ _ e=>by cases e
  |mp kt vt es=>exact h1.mono (λ_ _=>rfl) (λ_ _=>rfl) (λ_ h=> .inl h) λ_ _ e=>by cases e
  |val ds=>
   obtain⟨vs,e1,e3,e4⟩:=h1;refine⟨vs,e1,by simpa using e3,λi d hd=> ?_⟩
   simp only[List.getElem?_map,Option.map_eq_some_iff]at hd
   obtain⟨d0,hd0,rfl⟩:=hd;exact⟨Pk ho hf (e4 i d0 hd0).1,λhc=>(e4 i d0 hd0).2 (A6 hc)⟩
  |cells ds=>
   obtain⟨b,vs,T,e1,e2,e3,e4,e5⟩:=h1;refine⟨b,vs,T,e1,e2,by simpa using e3,λi d hd=> ?_,Ml (λ_=>A7) e5⟩
   simp only[List.getElem?_map,Option.map_eq_some_iff]at hd
   obtain⟨d0,hd0,rfl⟩:=hd;exact Pk ho hf (e4 i d0 hd0)
 ·rcases hb with hb|hb
  ·exact m.lt b hb
  ·exact(m.priv k o b h hb).2.1
 ·rcases hb with hb|hb
  ·exact m.src b hb
  ·exact .inr (m.priv k o b h hb).1
 ·obtain⟨hj,o₀,h0,_⟩:=hold j o' h'
  have:=m.priv j o₀ b h0 hb;refine⟨this.1,this.2.1,λhs=> ?_⟩
  rcases hs with hs|hs
  ·exact this.2.2 hs
  ·exact hj (m.inj j k o₀ o b h0 h hb hs)
 ·obtain⟨_,p1,h1',_⟩:=hold j o1 h1
  obtain⟨_,p2,h2',_⟩:=hold j' o2 h2;exact m.inj j j' p1 p2 b h1' h2' hb1 hb2
theorem rL.setOb(m:rL P b0 N σ a w S pl){k b:Nat}{o o':yD}(h:zZ k σ.hp=some o)(hb:pY (pl k)=some b)(hh:∀c,c≠b→w'.heap[c]? =w.heap[c]?)(hs:w'.heap.size=w.heap.size)
  (hw:w'.os=w.os∧w'.tape=w.tape∧w'.output=w.output) (ho:Xf w' S pl (pl k) o'):rL P b0 N (σ.setOb k o') a w' S pl:=by
 have hp:=m.priv k o b h hb;have hS:∀c,S c→w'.heap[c]? =w.heap[c]? :=λc hc=>hh c λe=>hp.2.2 (e▸hc)
 have hold:∀j o1,zZ j (σ.setOb k o').hp=some o1→j≠k→zZ j σ.hp=some o1:=by
  intro j o1 h1 hj;simpa only[St.setOb,xX,pC,if_neg (Ne.symm hj)]using h1
 have hsome:∀j o1,zZ j (σ.setOb k o').hp=some o1→∃o2,zZ j σ.hp=some o2:=by
  intro j o1 h1
  by_cases hj:j=k
  ·subst hj;exact⟨o,h⟩
  ·exact⟨o1,hold j o1 h1 hj⟩
 refine⟨m.dz,m.sz,λi=>(m.fr i).mono hS (λ_ h=>h) λ_ _=>rfl,λj o1 h1=> ?_,λc hc=>by rw[hs];exact m.lt c hc,m.src,λj o1 c h1 hc=> ?_,λj j' o1 o2 c h1 h2 hc1 hc2=> ?_,?_,m.stay,m.gok⟩
 ·by_cases hj:j=k
  ·subst hj
   simp only[St.setOb,xX,if_pos]at h1
   injection h1 with h1;subst h1;exact ho
  ·have h0:=hold j o1 h1 hj
   exact(m.hp j o1 h0).mono hS (λc hc=>hh c λe=>hj (m.inj j k o1 o c h0 h hc (e▸hb))) (λ_ h=>h) λ_ _ _ _=>rfl
 ·obtain⟨o2,h2⟩:=hsome j o1 h1
  have:=m.priv j o2 c h2 hc;exact⟨this.1,by rw[hs];exact this.2.1,this.2.2⟩
 ·obtain⟨p1,h1'⟩:=hsome j o1 h1
  obtain⟨p2,h2'⟩:=hsome j' o2 h2;exact m.inj j j' p1 p2 c h1' h2' hc1 hc2
 ·exact⟨hw.1.trans m.below.os,hw.2.1.trans m.below.tape,hw.2.2.trans m.below.output,by rw[hs];exact m.below.size,λc hc ho=>(hh c (by rintro rfl;rcases hp.1 with h1|h1;exact ho h1;omega)).trans (m.below.block c hc ho)⟩
theorem rL.forget(m:rL P b0 N σ a w S pl)(k:Nat):rL P b0 N (σ.forget k) a w S pl:=by
 have hold:∀j o',zZ j (σ.forget k).hp=some o'→j≠k∧∃o₀,zZ j σ.hp=some o₀∧o'=o₀.map (D.kill k):=by
  intro j o' h'
  by_cases hj:j=k
  ·subst hj;simp[St.forget,pC]at h'
  ·refine⟨hj,?_⟩
   simp only[St.forget,pC,if_neg (Ne.symm hj),St.map,iZ]at h'
   cases ho:zZ j σ.hp with
   |none=>rw[ho]at h';cases h'
   |some o₀=>rw[ho]at h';injection h' with h';exact⟨o₀,rfl,h'.symm⟩
 refine⟨m.dz,m.sz,λi=> ?_,λj o' h'=> ?_,m.lt,m.src,λj o' b h' hb=> ?_,λj j' o1 o2 b h1 h2 hb1 hb2=> ?_,m.below,m.stay,m.gok⟩
 ·have e:(σ.forget k).get i=(σ.get i).kill k:=St.get_map _ rfl σ i
  rw[e];exact(m.fr i).kill k
 ·obtain⟨hj,o₀,h0,rfl⟩:=hold j o' h'
  have h1:=m.hp j o₀ h0;cases o₀ with
  |row e t xs=>exact h1
  |mp kt vt es=>exact h1
  |val ds=>
   obtain⟨vs,e1,e3,e4⟩:=h1;refine⟨vs,e1,by simpa using e3,λi d hd=> ?_⟩
   simp only[List.getElem?_map,Option.map_eq_some_iff]at hd
   obtain⟨d0,hd0,rfl⟩:=hd;exact⟨(e4 i d0 hd0).1.kill k,λhc=>(e4 i d0 hd0).2 (Pj hc)⟩
  |cells ds=>
   obtain⟨b,vs,T,e1,e2,e3,e4,e5⟩:=h1;refine⟨b,vs,T,e1,e2,by simpa using e3,λi d hd=> ?_,Ml (λ_=>L7) e5⟩
   simp only[List.getElem?_map,Option.map_eq_some_iff]at hd
   obtain⟨d0,hd0,rfl⟩:=hd;exact(e4 i d0 hd0).kill k
 ·obtain⟨_,o₀,h0,_⟩:=hold j o' h'
  exact m.priv j o₀ b h0 hb
 ·obtain⟨_,p1,h1',_⟩:=hold j o1 h1
  obtain⟨_,p2,h2',_⟩:=hold j' o2 h2;exact m.inj j j' p1 p2 b h1' h2' hb1 hb2
theorem zcg(σ:St)(k:Nat):(∀i,((σ.forget k).get i).ref≠some k)∧zZ k (σ.forget k).hp=none∧∀j o d,zZ j (σ.forget k).hp=some o→d∈o.parts→d.ref≠some k:=by
 refine⟨λi=> ?_,by simp[St.forget,pC],λj o d h hd=> ?_⟩
 ·have e:(σ.forget k).get i=(σ.get i).kill k:=St.get_map _ rfl σ i
  rw[e];exact WG _ _
 ·by_cases hj:j=k
  ·subst hj;simp[St.forget,pC]at h
  ·simp only[St.forget,pC,if_neg (Ne.symm hj),St.map,iZ]at h
   cases ho:zZ j σ.hp with
   |none=>rw[ho]at h;cases h
   |some o₀=>
    rw[ho]at h;injection h with h
    subst h;cases o₀ with
    |row e t xs=>cases hd
    |mp kt vt es=>cases hd
    |cells ds0=>
     obtain⟨d0,_,rfl⟩:=List.mem_map.1 hd;exact WG _ _
    |val ds0=>
     obtain⟨d0,_,rfl⟩:=List.mem_map.1 hd;exact WG _ _
theorem rL.grow(m:rL P b0 N σ a w S pl){k:Nat}(hst:stabK k=false){o o':yD}(h:zZ k σ.hp=some o)(p:Value)(hg:w.grownBy w' (pY (pl k)))(hat:∀b,pY p=some b→pY (pl k)=some b∨(w.heap.size≤b∧b<w'.heap.size))
  (ho:Xf w' S (PJ pl k p) p o'):rL P b0 N (σ.mk' k o') a w' S (PJ pl k p):=by
 have mf:=m.forget k;obtain⟨r1,r2,r3⟩:=zcg σ k;have hkeep:∀c,c<w.heap.size→pY (pl k)≠some c→w'.heap[c]? =w.heap[c]? :=λc hc hne=>hg.block c hc λe=>hne e.symm
 have hS:∀c,S c→w'.heap[c]? =w.heap[c]? :=λc hc=>hkeep c (m.lt c hc) λe=>(m.priv k o c h e).2.2 hc
 have holdk:∀j o1,zZ j (σ.forget k).hp=some o1→j≠k∧∃o2,zZ j σ.hp=some o2:=by
  intro j o1 h1
  by_cases hj:j=k
  ·subst hj;rw[r2]at h1;cases h1
  ·refine⟨hj,?_⟩
   simp only[St.forget,pC,if_neg (Ne.symm hj),St.map,iZ]at h1
   cases ho:zZ j σ.hp with
   |none=>rw[ho]at h1;cases h1
   |some o₀=>exact⟨o₀,rfl⟩
 have hbelow:qB b0.w.heap.size b0.O b0.w w':=⟨hg.os.trans m.below.os,hg.tape.trans m.below.tape,hg.output.trans m.below.output,Nat.le_trans m.below.size hg.size,λc hc hO=>by
  refine(hkeep c (Nat.lt_of_lt_of_le hc m.below.size) λe=> ?_).trans (m.below.block c hc hO)
  rcases(m.priv k o c h e).1 with h1|h1
  ·exact hO h1
  ·omega⟩
 have mw:rL P b0 N (σ.forget k) a w' S pl:=mf.world hS (λj o1 b h1 hb=>by
  obtain⟨hj,o2,h2⟩:=holdk j o1 h1;exact hkeep b (m.priv j o2 b h2 hb).2.1 λe=>hj (m.inj j k o2 o b h2 h hb e)) hg.size hbelow
 have e1:∀i,(σ.mk' k o').get i=(σ.forget k).get i:=λi=>rfl
 have e2:∀j,zZ j (σ.mk' k o').hp=if k=j then some o' else zZ j (σ.forget k).hp:=λj=>xX j k o' _
 refine⟨m.dz,m.sz,λi=> ?_,λj o1 h1=> ?_,mw.lt,mw.src,λj o1 b h1 hb=> ?_,λj j' o1 o2 b h1 h2 hb1 hb2=> ?_,hbelow,λj hj=>(show PJ pl k p j=pl j from if_neg λe=>by rw[e,hst]at hj;cases hj).trans (m.stay j hj),m.gok⟩
 ·rw[e1]
  exact(mw.fr i).mono (λ_ _=>rfl) (λ_ h=>h) λj hj=>if_neg (λe:j=k=>r1 i (hj.trans (by rw[e])))
 ·rw[e2]at h1
  by_cases hj:k=j
  ·subst hj;rw[if_pos rfl]at h1;injection h1 with h1;subst h1
   rw[show PJ pl k p k=p from if_pos rfl];exact ho
  ·rw[if_neg hj]at h1
   rw[show PJ pl k p j=pl j from if_neg (Ne.symm hj)]
   exact(mw.hp j o1 h1).mono (λ_ _=>rfl) (λ_ _=>rfl) (λ_ h=>h) λd i hd hr=>if_neg (λei:i=k=>r3 j o1 d h1 hd (hr.trans (by rw[ei])))
 ·rw[e2]at h1
  by_cases hj:k=j
  ·subst hj
   rw[show PJ pl k p k=p from if_pos rfl]at hb
   rcases hat b hb with hb|hb
   ·have:=m.priv k o b h hb
    exact⟨this.1,Nat.lt_of_lt_of_le this.2.1 hg.size,this.2.2⟩
   ·exact⟨.inr (Nat.le_trans m.below.size hb.1),hb.2,λhs=>by have:=m.lt b hs;omega⟩
  ·rw[if_neg hj]at h1
   rw[show PJ pl k p j=pl j from if_neg (Ne.symm hj)]at hb
   exact mw.priv j o1 b h1 hb
 ·rw[e2]at h1 h2
  have key:∀j o1,k≠j→zZ j (σ.forget k).hp=some o1→pY (pl j)=some b→pY p=some b→False:=by
   intro j o1 hj h1 hb1 hb2;obtain⟨hjk,o2,h2⟩:=holdk j o1 h1;rcases hat b hb2 with hb|hb
   ·exact hjk (m.inj j k o2 o b h2 h hb1 hb)
   ·have:=(m.priv j o2 b h2 hb1).2.1;omega
  by_cases hj:k=j<;>by_cases hj':k=j'
  ·rw[←hj,←hj']
  ·rw[if_neg hj']at h2
   rw[show PJ pl k p j'=pl j' from if_neg (Ne.symm hj')]at hb2
   subst hj;rw[show PJ pl k p k=p from if_pos rfl]at hb1
   exact(key j' o2 hj' h2 hb2 hb1).elim
  ·rw[if_neg hj]at h1
   rw[show PJ pl k p j=pl j from if_neg (Ne.symm hj)]at hb1
   subst hj';rw[show PJ pl k p k=p from if_pos rfl]at hb2
   exact(key j o1 hj h1 hb1 hb2).elim
  ·rw[if_neg hj]at h1;rw[if_neg hj']at h2
   rw[show PJ pl k p j=pl j from if_neg (Ne.symm hj)]at hb1
   rw[show PJ pl k p j'=pl j' from if_neg (Ne.symm hj')]at hb2
   exact mw.inj j j' o1 o2 b h1 h2 hb1 hb2
theorem rL.newS(m:rL P b0 N σ a w S pl)(o:Obj):rL P b0 N σ a (w.alloc o) (λb=>S b∨b=w.heap.size) pl:=
 (m.later (w':=w.alloc o) ((Below.refl _ _).alloc (Nat.le_refl _) o)).more (λ_ h=> .inl h)
  (λb h=>by
   have hs:(w.alloc o).heap.size=w.heap.size+1:=by simp
   rcases h with h|rfl
   ·have:=m.lt b h;omega
   ·omega)
  (λb h=>by
   rcases h with h|rfl
   ·exact m.src b h
   ·exact .inr (.inr m.below.size))
  (λk o' b h hb hs=>by
   have:=m.priv k o' b h hb;rcases hs with hs|rfl
   ·exact this.2.2 hs
   ·omega)
end
structure Bi where
 tys:List Ty
 nils:List (Nat×(Nat×(TypeId×Ty))):=[]
 datas:List (Nat×Nat):=[]
 res:List D→(Nat→Option yD)→Option (D×List (Nat×yD))
 raw:Bool:=false
structure TE where
 zs:List (TypeId×(Bool×List D))
 sl:List (TypeId×(TypeId×Ty))
 fld:List (TypeId×List (Nat×Nat))
 strs:List TypeId
 ints:List (TypeId×IntKind)
 bools:List TypeId
 sig:List (FuncId×List Ty)
 mps:List (TypeId×(Ty×Ty)):=[]
 sts:List (TypeId×Ty):=[]
 hsig:List (FuncId×Bi):=[]
 vals:List TypeId:=[]
 arr:List TypeId:=[]
 nilq:Bool:=true
 thr:List FuncId:=[]
structure wA where
 own:List Nat
 live:List (Nat×(List Nat×List Nat))
 n:Nat
 q:Nat:=12
 nils:List (Nat×(Nat×(TypeId×Ty))):=[]
 pubs:List (Nat×Nat):=[]
 nn:List Nat:=[]
 first:Bool:=false
 clp:Bool:=false
 tdraw:Bool:=false
 nz:List (Nat×(Nat×(TypeId×Ty))):=[]
def qO(k:Nat):List Nat→Bool
 |[]=>false
 |i::r=>bif Nat.beq i k then true else qO k r
def zP(b:Bool)(A B:Prop):Prop:=match b with
 |true=>A
 |false=>B
def yU(n:Int):Int:=IntKind.i64.wrap n
def ofV:Value→D
 | .int .i64 n=>bif decide (-9223372036854775808≤n)&&decide (n≤9223372036854775807)then .int .i64 n else .undef
 | .int .u8 n=>bif decide (0≤n)&&decide (n≤255)then .int .u8 n else .undef
 | .bool b=> .bool b
 | .string s=>bif Nat.ble s.size 140737488355328 then .str s else .undef
 | .slice none 0 0=> .nil
 |_=> .undef
def St.ev(σ:St):Operand→D
 | .tmp t=>σ.get t
 | .const v=>ofV v
 | .func f=> .clo f none []
 | .global _=> .undef
def Bj:List D→Option (List Value)
 |[]=>some []
 | .int k n::r=>match Bj r with
  |some l=>some (.int k n::l)
  |none=>none
 |_=>none
def DU:D→Option Value
 | .agg ds=>match Bj ds with
  |some l=>some (.agg l.toArray)
  |none=>none
 |_=>none
def O7(E:TE)(T:TypeId):D→D
 | .nil=>match zZ T E.sl with
  |some (_,t)=> .sl t []
  |none=> .nil
 | .slN t xs _=> .sl t xs
 |d=>d
def gY(A:wA):Option Nat→Option Nat
 |some k=>bif qO k A.own&& !stabK k then some k else none
 |none=>none
theorem eL{A:wA}{d:Option Nat}{k:Nat}(h:gY A d=some k):stabK k=false:=by
 unfold gY at h
 split at h
 ·rename_i j
  cases hb:qO j A.own&& !stabK j with
  |false=>rw[hb]at h;cases h
  |true=>
   rw[hb]at h;injection h with h;subst h
   simp only[Bool.and_eq_true,Bool.not_eq_true']at hb
   exact hb.2
 ·cases h
def Yp(σ:St):D→Option (List D)
 | .agg cs=>some cs
 | .tup _=>none
 | .undef=>none
 | .ifc _=>none
 | .own k=>match σ.ob k with
  |some (.val ds)=>some ds
  |some _=>some [.own k]
  |none=>none
 | .ownN k=>match σ.ob k with
  |some (.row _ _ _)=>some [.ownN k]
  |_=>none
 |d=>some [d]
def cJ(d:D):Bool:=match d.ref with
 |none=>true
 |some _=>false
def RI(ds:List D)(off:Nat)(new:List D):List D:=ds.take off++new++ds.drop (off+new.length)
def cK:List D→Option Nat
 |[]=>none
 |d::r=>match d.ref with
  |some k=>some k
  |none=>cK r
def VM(σ:St):Nat→Nat→Nat
 |0,k=>k
 |n+1,k=>match σ.ob k with
  |some (.cells ds)=>match cK ds with
   |some j=>VM σ n j
   |none=>k
  |some (.val ds)=>match cK ds with
   |some j=>VM σ n j
   |none=>k
  |_=>k
def yD.flatB:yD→Bool
 | .cells ds=>ds.all cJ
 | .row _ _ _=>true
 | .mp _ _ _=>true
 | .val ds=>ds.all cJ
def pubs:Nat→St→List D→Option (St×List D)
 |0,_,_=>none
 |n+1,σ,ds=>match cK ds with
  |none=>some (σ,ds)
  |some k0=>
   let k:=VM σ 4 k0
   match σ.ob k with
   |some o=>bif o.flatB then pubs n (σ.pub k o) (ds.map (qA k o))else none
   |none=>none
def rC(q:Nat)(σ:St)(ds:List D)(K:List D→St→Prop):Prop:=match pubs q σ ds with
 |some (σ',ds')=>K ds' σ'
 |none=>False
def aQ(σ:St):D→Option (List D)
 | .ptr k off=>match σ.ob k with
  |some (.cells ds)=>some (ds.drop off)
  |_=>none
 | .iptr cs off=>some (cs.drop off)
 | .elt t xs i off=>some ((cells t (xs.getD i t.dflt)).drop off)
 | .oelt k sz i off=>match σ.ob k with
  |some (.row _ t xs)=>bif Nat.beq sz t.size then some ((cells t (xs.getD i t.dflt)).drop off)else none
  |_=>none
 |_=>none
def vW(n:Int)(len:Nat):Bool:=decide (0≤n)&&decide (n<(len:Int))
def Mn(l h:Int)(len:Nat):Bool:=decide (0≤l)&&decide (l≤h)&&decide (h≤(len:Int))
def wN(t:Ty)(n:Nat):Bool:=decide (n*t.bytes≤140737488355328)
def sP(s:ByteArray)(i:Nat):Int:=((s.data.getD i 0).toNat:Int)
def zjM(A:wA):Option Nat→Bool
 |some k=>qO k A.nn
 |none=>false
def HE(σ:St):D→Bool
 | .ptr k off=>match σ.ob k with
  |some (.cells ds)=>(match ds[off]? with
   |some (.slN _ _ _)=>true
   |_=>false)
  |_=>false
 |_=>false
def ze7(b:Bool)(new:List D)(K:List D→Prop):Prop:=match b with
 |true=>(match new with
  |[.sl t xs]=>xs≠[]∧K [.slN t xs false]
  |new=>K new)
 |false=>K new
def A8(E:TE)(A:wA)(o:Oper)(d:D)(σ:St)(K:D→St→Prop):Prop:=match d with
 | .nil=>match zZ o.type E.sl with
  |some (e,t)=>match gY A o.dst with
   |some k=>K (.own k) (σ.mk' k (.row e t []))
   |none=>K (bif zjM A o.dst then .slN t [] true else .sl t []) σ
  |none=>K .nil σ
 |d=>K d σ
def Gd(E:TE)(A:wA)(o:Oper)(T:TypeId)(σ:St)(K:D→St→Prop):Prop:=match zZ T E.zs with
 |some (_,cs)=>match gY A o.dst with
  |some k=>K (.ptr k 0) (σ.mk' k (.cells cs))
  |none=>K (.iptr cs 0) σ
 |none=>False
def zgw(k:Nat)(d:D):Bool:=match d.ref with
 |some j=>Nat.beq j k
 |none=>false
def Bk(k:Nat)(T:TypeId)(cs:List D):Bool:=cs.any (zgw k)||(XI cs&& !memT A5 T cs.length)
def zgx(E:TE)(A:wA)(o:Oper)(T:TypeId)(x:D)(σ:St)(K:D→St→Prop):Prop:=
 match Yp σ (O7 E T x)with
 |some cs=>match gY A o.dst with
  |some k=>bif Bk k T cs then False else K (.ptr k 0) (σ.mk' k (.cells cs))
  |none=>rC A.q σ cs λcs σ=>K (.iptr cs 0) σ
 |none=>False
def zd6(E:TE)(A:wA)(T:TypeId)(x:D)(σ:St)(K:D→St→Prop):Prop:=match zZ T E.zs with
 |some (ag,zs)=>match aQ σ x with
  |some cs=>bif Nat.ble zs.length cs.length then
    match ag with
    |true=>rC A.q σ (cs.take zs.length) λcs σ=>K (.agg cs) σ
    |false=>match cs with
     |d::_=>K d σ
     |[]=>False
   else False
  |none=>False
 |none=>False
def Bl(E:TE)(A:wA)(T:TypeId)(x y:D)(σ:St)(K:D→St→Prop):Prop:=match zZ T E.zs with
 |some (_,zs)=>match Yp σ (O7 E T y)with
  |none=>False
  |some new=>ze7 (HE σ x) new λnew=>bif Nat.beq new.length zs.length&&new.all jT then
   match x with
   | .ptr k off=>match σ.ob k with
    |some (.cells ds)=>bif Nat.ble (off+new.length) ds.length then K .undef (σ.setOb k (.cells (RI ds off new)))else False
    |_=>False
   | .oelt k sz i off=>rC A.q σ new λnew σ=>match σ.ob k with
    |some (.row e t xs)=>bif Nat.beq sz t.size then
      match ofD t (RI (cells t (xs.getD i t.dflt)) off new)with
      |some z=>bif Nat.ble (off+new.length) t.size then K .undef (σ.setOb k (.row e t (xs.set i z)))else False
      |none=>False
     else False
    |_=>False
   |_=>False
  else False
 |none=>False
def zgy(E:TE)(op:BinOp)(T:TypeId)(x y:D)(K:D→Prop):Prop:=match x,y with
 | .int .i64 a,.int .i64 b=>match op with
  | .add=>K (.int .i64 (yU (a+b)))
  | .sub=>K (.int .i64 (yU (a-b)))
  | .mul=>K (.int .i64 (yU (a*b)))
  | .quo=>b≠0∧K (.int .i64 (yU (a.tdiv b)))
  | .rem=>b≠0∧K (.int .i64 (a.tmod b))
  | .eql=>K (.bool (decide (a=b)))
  | .neq=>K (.bool (!decide (a=b)))
  | .lss=>K (.bool (decide (a<b)))
  | .leq=>K (.bool (decide (a≤b)))
  | .gtr=>K (.bool (decide (b<a)))
  | .geq=>K (.bool (decide (b≤a)))
  |_=>False
 | .int .u8 a,.int .u8 b=>match op with
  | .eql=>K (.bool (decide (a=b)))
  | .neq=>K (.bool (!decide (a=b)))
  | .lss=>K (.bool (decide (a<b)))
  | .leq=>K (.bool (decide (a≤b)))
  | .gtr=>K (.bool (decide (b<a)))
  | .geq=>K (.bool (decide (b≤a)))
  |_=>False
 | .str a,.str b=>match op with
  | .eql=>K (.bool (decide (a=b)))
  | .neq=>K (.bool (!decide (a=b)))
  | .add=>a.size+b.size≤140737488355328∧K (.str (a++b))
  |_=>False
 | .bool a,.bool b=>bif qO T E.bools then(match op with
   | .eql=>K (.bool (a==b))
   | .neq=>K (.bool (!(a==b)))
   |_=>False)
  else False
 |_,_=>False
def teq:(t:Ty)→t.den→t.den→Bool
 | .lit,a,b=>decide (a=b)
 | .var,a,b=>decide (a=b)
 | .tok,a,b=>decide (a=b)
 |_,_,_=>false
def eqK(op:BinOp)(b:Bool)(K:D→Prop):Prop:=match op with
 | .eql=>K (.bool b)
 | .neq=>K (.bool (!b))
 |_=>False
def zkB(op:BinOp)(e:Prop)(K:D→Prop):Prop:=∀b:Bool,(b=true→e)→eqK op b K
def VN(E:TE)(T:TypeId):Bool:=match zZ T E.sl with
 |some _=>true
 |none=>false
def A9(E:TE)(op:BinOp)(T:TypeId)(x y:D)(σ:St)(K:D→Prop):Prop:=match x,y with
 | .agg xs,.agg ys=>match zZ T E.sts with
  |some t=>match ofD t xs,ofD t ys with
   |some a,some b=>eqK op (teq t a b) K
   |_,_=>False
  |none=>False
 | .slN _ _ nl,.nil=>bif E.nilq&&VN E T then eqK op nl K else False
 | .sl _ xs,.nil=>bif E.nilq&&VN E T then zkB op (xs=[]) K else False
 | .nil,.nil=>bif E.nilq&&VN E T then eqK op true K else False
 | .own k,.nil=>match σ.ob k with
  |some (.row _ _ xs)=>bif E.nilq&&VN E T then zkB op (xs=[]) K else False
  |_=>False
 |x,y=>zgy E op T x y K
def O8:(t:Ty)→t.den→t.den→Bool
 | .int,a,b=>decide (a=b)
 | .str,a,b=>decide (a=b)
 | .pr .int .int,a,b=>decide (a.1=b.1)&&decide (a.2=b.2)
 |_,_,_=>false
def rD(kt vt:Ty)(x:kt.den)(y:vt.den):List (kt.den×vt.den)→List (kt.den×vt.den)
 |[]=>[(x,y)]
 |(a,b)::r=>bif O8 kt x a then(a,y)::r else(a,b)::rD kt vt x y r
def uH(kt vt:Ty)(x:kt.den):List (kt.den×vt.den)→Option vt.den
 |[]=>none
 |(a,b)::r=>bif O8 kt x a then some b else uH kt vt x r
def kJ(kt vt:Ty)(x:kt.den)(es:List (kt.den×vt.den)):vt.den:=(uH kt vt x es).getD vt.dflt
def PK(kt vt:Ty)(x:kt.den)(es:List (kt.den×vt.den)):Bool:=(uH kt vt x es).isSome
def Mo(n:Nat):Bool:=decide (n≤140737488355328)
def RJ(E:TE)(A:wA)(o:Oper)(T:TypeId)(σ:St)(K:D→St→Prop):Prop:=match zZ T E.mps with
 |some (k,v)=>match gY A o.dst with
  |some j=>K (.own j) (σ.mk' j (.mp k v []))
  |none=>K (.mp k v []) σ
 |none=>False
def ziH:(t:Ty)→D→Option t.den
 | .int,.int .i64 n=>some n
 | .str,.str s=>some s
 | .pr .int .int,.agg [.int .i64 a,.int .i64 b]=>some (a,b)
 |_,_=>none
def TM(E:TE)(A:wA)(T:TypeId)(m x y:D)(σ:St)(K:D→St→Prop):Prop:=match zZ T E.mps,m with
 |some (kt0,vt0),.own j=>rC A.q σ [y] λds σ=>match σ.ob j with
   |some (.mp kt vt es)=>bif decide (kt=kt0)&&decide (vt=vt0)then
     match ziH kt x,ofD vt ds with
     |some a,some b=>Mo (es.length+1)=true∧K .undef (σ.setOb j (.mp kt vt (rD kt vt a b es)))
     |_,_=>False
    else False
   |_=>False
 |_,_=>False
def DV(σ:St):D→Option (Σ (p:Ty×Ty),List (p.1.den×p.2.den))
 | .mp kt vt es=>some ⟨(kt,vt),es⟩
 | .own j=>match σ.ob j with
  |some (.mp kt vt es)=>some ⟨(kt,vt),es⟩
  |_=>none
 |_=>none
def HG(E:TE)(T:TypeId)(m x:D)(ok:Bool)(σ:St)(K:D→Prop):Prop:=match zZ T E.mps,DV σ m with
 |some (kt0,vt0),some ⟨(kt,vt),es⟩=>bif decide (kt=kt0)&&decide (vt=vt0)then
   match ziH kt x with
   |some a=>match ok with
    |true=>K (.tup [XH vt (kJ kt vt a es),.bool (PK kt vt a es)])
    |false=>K (XH vt (kJ kt vt a es))
   |none=>False
  else False
 |_,_=>False
def unD(op:UnOp)(x:D)(K:D→Prop):Prop:=match op,x with
 | .not,.bool b=>K (.bool (!b))
 | .neg,.int .i64 n=>K (.int .i64 (yU (0-n)))
 |_,_=>False
def zd8(E:TE)(src dst:TypeId)(x:D)(K:D→Prop):Prop:=match zZ src E.ints with
 |some _=>(match zZ dst E.ints,x with
  |some .i64,.int _ n=>K (.int .i64 (yU n))
  |some .u8,.int _ n=>K (.int .u8 (IntKind.u8.wrap n))
  |_,_=>False)
 |none=>(match zZ src E.sl,x with
  |some (e,.byte),.sl .byte xs=>(match zZ e E.ints,qO dst E.strs with
   |some .u8,true=>K (.str ⟨xs.toArray⟩)
   |_,_=>False)
  |_,_=>False)
def Yq(σ:St)(dflt:Int):Option Operand→Option Int
 |none=>some dflt
 |some x=>match σ.ev x with
  | .int .i64 n=>some n
  |_=>none
def Bm(E:TE)(A:wA)(T:TypeId)(x:D)(σ:St)(lo hi:Option Operand)(K:D→St→Prop):Prop:=
 match x with
 | .str s=>bif qO T E.strs then(match Yq σ 0 lo,Yq σ s.size hi with
  |some l,some h=>Mn l h s.size=true∧K (.str (s.extract l.toNat h.toNat)) σ
  |_,_=>False)else False
 |x=>rC A.q σ [x] λds σ=>match ds with
  |[.sl t xs]=>match zZ T E.sl,Yq σ 0 lo,Yq σ xs.length hi with
   |some (_,t'),some l,some h=>bif Nat.beq t'.size t.size then(Mn l h xs.length=true∧K (.sl t ((xs.take h.toNat).drop l.toNat)) σ)else False
   |_,_,_=>False
  |_=>False
def Bn(E:TE)(T:TypeId)(f:Nat):Option Nat:=match zZ T E.fld with
 |some offs=>match offs[f]? with
  |some (off,_)=>some off
  |none=>none
 |none=>none
def Ge(E:TE)(T:TypeId)(x:D)(f:Nat)(K:D→Prop):Prop:=match Bn E T f with
 |some d=>match x with
  | .ptr k off=>K (.ptr k (off+d))
  | .iptr cs off=>K (.iptr cs (off+d))
  | .elt t xs i off=>K (.elt t xs i (off+d))
  | .oelt k sz i off=>K (.oelt k sz i (off+d))
  |_=>False
 |none=>False
def TN(E:TE)(T:TypeId)(x ix:D)(σ:St)(K:D→Prop):Prop:=match zZ T E.sl with
 |some (_,t')=>match ix with
  | .int _ n=>match x with
   | .sl t xs=>bif Nat.beq t'.size t.size then(vW n xs.length=true∧K (.elt t xs n.toNat 0))else False
   | .own k=>match σ.ob k with
    |some (.row _ t xs)=>bif Nat.beq t'.size t.size then(vW n xs.length=true∧K (.oelt k t.size n.toNat 0))else False
    |_=>False
   |_=>False
  |_=>False
 |none=>False
def Bo(E:TE)(T:TypeId)(x ix:D)(K:D→Prop):Prop:=match x,ix with
 | .str s,.int _ n=>bif qO T E.strs then(vW n s.size=true∧K (.int .u8 (sP s n.toNat)))else False
 |_,_=>False
def Mp(x:D)(i:Nat)(K:D→Prop):Prop:=match x with
 | .tup ds=>match ds[i]? with
  |some d=>K d
  |none=>False
 |_=>False
def Pl(σ:St)(d:D)(z:Option D):Option (List D):=match d,z with
 | .nil,some (.sl t _)=>some [.sl t []]
 | .slN t xs _,_=>some [.sl t xs]
 |d,_=>Yp σ d
def OB(σ:St)(place:Nat→Option (Nat×Nat)):List D→List (Nat×Operand)→Option (List D)
 |ds,[]=>some ds
 |ds,(f,x)::r=>match place f with
  |some (off,sz)=>
   match Pl σ (σ.ev x) ds[off]? with
   |some new=>bif Nat.beq new.length sz&&Nat.ble (off+sz) ds.length then OB σ place (RI ds off new) r else none
   |none=>none
  |none=>none
def ze8:Option Nat→Nat
 |some k=>k
 |none=>0
def Bp:Option Nat→Bool
 |some k=> !stabK k
 |none=>false
def Bq(E:TE)(T:TypeId):Option (Nat→Option (Nat×Nat)):=bif qO T E.arr then some (λi=>some (i,1))else match zZ T E.fld with
 |some offs=>some λi=>offs[i]?
 |none=>none
def Gf(E:TE)(A:wA)(o:Oper)(T:TypeId)(parts:List (Nat×Operand))(σ:St)(K:D→St→Prop):Prop:=match zZ T E.zs,Bq E T with
 |some (true,zs),some pf=>match OB σ pf zs parts with
  |some ds=>bif qO T E.vals&&Bp o.dst then K (.own (ze8 o.dst)) (σ.mk' (ze8 o.dst) (.val (ds.map (D.kill (ze8 o.dst)))))else rC A.q σ ds λds σ=>K (.agg ds) σ
  |none=>False
 |_,_=>False
def elems(t:Ty):Nat→List D→Option (List t.den)
 |0,_=>some []
 |n+1,ds=>match ofD t (ds.take t.size),elems t n (ds.drop t.size)with
  |some x,some xs=>some (x::xs)
  |_,_=>none
def Xg(E:TE)(A:wA)(o:Oper)(T:TypeId)(len:Nat)(parts:List (Nat×Operand))(σ:St)(K:D→St→Prop):Prop:=match zZ T E.sl with
 |some (e,t)=>
  bif wN t len&&Nat.ble (len*t.size) 16777216 then match OB σ (λi=>some (i*t.size,t.size)) (List.replicate len (cells t t.dflt)).flatten parts with
  |some ds=>rC A.q σ ds λds σ=>match elems t len ds with
    |some xs=>match gY A o.dst with
     |some k=>K (bif qO k A.nn then .ownN k else .own k) (σ.mk' k (.row e t xs))
     |none=>K (.sl t xs) σ
    |none=>False
  |none=>False
  else False
 |none=>False
def ziI(E:TE)(T:TypeId)(x:D)(σ:St)(K:D→Prop):Prop:=match x with
 | .str s=>bif qO T E.strs then K (.int .i64 (s.size:Int))else False
 | .nil=>match zZ T E.sl with
  |some _=>K (.int .i64 0)
  |none=>False
 | .mp _ _ es=>match zZ T E.mps with
  |some _=>K (.int .i64 (es.length:Int))
  |none=>False
 | .sl t xs=>match zZ T E.sl with
  |some _=>K (.int .i64 (xs.length:Int))
  |none=>False
 | .own k=>match σ.ob k with
  |some (.row _ t xs)=>(match zZ T E.sl with
   |some _=>K (.int .i64 (xs.length:Int))
   |none=>False)
  |some (.mp _ _ es)=>(match zZ T E.mps with
   |some _=>K (.int .i64 (es.length:Int))
   |none=>False)
  |_=>False
 |_=>False
def JI(σ:St)(k:Nat)(t:Ty):D→Option (List t.den)
 | .nil=>some []
 | .sl t' ys=>if h:t'=t then some (h▸ys)else none
 | .own j=>bif Nat.beq j k then none else match σ.ob j with
  |some (.row _ t' ys)=>if h:t'=t then some (h▸ys)else none
  |_=>none
 |_=>none
def zj3(E:TE)(T' e:TypeId)(t':Ty)(x y:D)(σ:St)(K:D→St→Prop):Prop:=match qO T' E.strs with
 |true=>(match t',x,y with
  | .byte,.own k,.str s=>(match σ.ob k with
   |some (.row e' .byte xs)=>bif Nat.beq e e'&& !stabK k then wN .byte (xs.length+s.size)=true∧K (.own k) (σ.mk' k (.row e .byte (xs++s.data.toList)))else False
   |_=>False)
  |_,_,_=>False)
 |false=>False
def HH(E:TE)(A:wA)(o:Oper)(T T':TypeId)(x:D)(y:Operand)(σ:St)(K:D→St→Prop):Prop:=match zZ T E.sl with
 |some (e,t')=>bif Nat.beq T T' then(match x with
  | .own k=>match σ.ob k with
   |some (.row e' t xs)=>bif Nat.beq e e'&&Nat.beq t'.size t.size&&Nat.beq t'.bytes t.bytes&& !stabK k then(match JI σ k t (σ.ev y)with
    |some ys=>wN t (xs.length+ys.length)=true∧K (.own k) (σ.mk' k (.row e t (xs++ys)))
    |none=>False)else False
   |_=>False
  | .ownN k=>match σ.ob k with
   |some (.row e' t xs)=>bif Nat.beq e e'&&Nat.beq t'.size t.size&&Nat.beq t'.bytes t.bytes&& !stabK k then(match JI σ k t (σ.ev y)with
    |some ys=>bif Nat.blt 0 ys.length then wN t (xs.length+ys.length)=true∧K (.ownN k) (σ.mk' k (.row e t (xs++ys)))else False
    |none=>False)else False
   |_=>False
  | .nil=>match gY A o.dst with
   |some k=>match JI (σ.mk' k (.row e t' [])) k t' ((σ.mk' k (.row e t' [])).ev y)with
    |some ys=>wN t' ys.length=true∧K (.own k) ((σ.mk' k (.row e t' [])).mk' k (.row e t' ys))
    |none=>False
   |none=>False
  |_=>False)else zj3 E T' e t' x (σ.ev y) σ K
 |none=>False
def ziJ(x y:D)(K:D→Prop):Prop:=match x,y with
 | .int .i64 a,.int .i64 b=>K (.int .i64 (if b>a then b else a))
 |_,_=>False
def WH(E:TE)(A:wA)(o:Oper)(T:TypeId)(l c:D)(σ:St)(K:D→St→Prop):Prop:=match zZ T E.sl with
 |some (e,t)=>match l,c with
  | .int .i64 n,.int .i64 m=>n=m∧0≤n∧wN t n.toNat=true∧(match gY A o.dst with
   |some k=>K (.own k) (σ.mk' k (.row e t (List.replicate n.toNat t.dflt)))
   |none=>K (.sl t (List.replicate n.toNat t.dflt)) σ)
  |_,_=>False
 |none=>False
def XJ(P:Program)(f:FuncId)(args:List D)(r:D):Prop:=
 ∀(w:World) (S:Nat→Prop) (vs:Array Value),(∀b,S b→b<w.heap.size)→vs.size=args.length→(∀i d,args[i]? =some d→Rp w S (vs.getD i undef) d)→DT P w (λ_=>False)→
  Calls P f vs w λe w'=>∃v,e=.returned v∧Rp w' (λb=>S b∨(w.heap.size≤b∧b<w'.heap.size)) v r∧Below w.heap.size w w'
def zgz(P:Program)(f:FuncId)(args:List D)(t:Ty)(K:t.den→Prop):Prop:=∃x,XJ P f args (XH t x)∧K x
def zgA(P:Program)(f:FuncId)(args:List D)(t u:Ty)(K:t.den→u.den→Prop):Prop:=∃x y,XJ P f args (.tup [XH t x,XH u y])∧K x y
def zgB(P:Program)(f:FuncId)(args:List D)(t u v:Ty)(K:t.den→u.den→v.den→Prop):Prop:=∃x y z,XJ P f args (.tup [XH t x,XH u y,XH v z])∧K x y z
def zch(P:Program)(f:FuncId)(args:List D):List Ty→(D→Prop)→Prop
 |[],K=>XJ P f args (.tup [])∧K (.tup [])
 |[t],K=>zgz P f args t λx=>K (XH t x)
 |[t,u],K=>zgA P f args t u λx y=>K (.tup [XH t x,XH u y])
 |[t,u,v],K=>zgB P f args t u v λx y z=>K (.tup [XH t x,XH u y,XH v z])
 |_,_=>False
def Ty.scalar:Ty→Bool
 | .int| .bool| .str=>true
 |_=>false
def RK(σ:St):D→D
 | .own k=>match σ.ob k with
  |some (.row _ t xs)=> .sl t xs
  |_=> .own k
 |d=>d
def gZ(E:TE)(σ:St):List Operand→List TypeId→List D
 |x::xs,T::ts=>O7 E T (σ.ev x)::gZ E σ xs ts
 |x::xs,[]=>σ.ev x::gZ E σ xs []
 |[],_=>[]
def zci(raw:Bool)(E:TE)(σ:St)(xs:List Operand)(ts:List TypeId):List D:=bif raw then xs.map σ.ev else gZ E σ xs ts
def Ent(P:Program)(f:FuncId):Prop:=∀args w,(callFunc f args).run P w=.ok (.enter f args) w
def zkC(E:TE)(f:FuncId):Option (List Ty)→Option (List Ty)
 |some rs=>some rs
 |none=>zZ f E.sig
def zj4(P:Program)(f:FuncId):Option (List Ty)→Prop→Prop
 |some _,X=>Ent P f∧X
 |none,X=>X
def D.ren(ρ:List (Nat×Nat)):D→D
 | .own k=>match zZ k ρ with
  |some j=> .own j
  |none=> .undef
 | .ownN k=>match zZ k ρ with
  |some j=> .ownN j
  |none=> .undef
 | .ptr k off=>match zZ k ρ with
  |some j=> .ptr j off
  |none=> .undef
 | .oelt k sz i off=>match zZ k ρ with
  |some j=> .oelt j sz i off
  |none=> .undef
 | .clp f bd k off=>match zZ k ρ with
  |some j=> .clp f bd j off
  |none=> .undef
 | .slf k=>match zZ k ρ with
  |some j=> .slf j
  |none=> .undef
 |d=>d
def yD.ren(ρ:List (Nat×Nat)):yD→yD
 | .cells ds=> .cells (ds.map (D.ren ρ))
 | .val ds=> .val (ds.map (D.ren ρ))
 |o=>o
def L4(ρ:List (Nat×Nat)):List (Nat×Nat):=ρ.map λx=>(x.2,x.1)
def kW:List Nat→Bool
 |[]=>true
 |k::r=> !qO k r&&kW r
def reach(ob:Nat→Option yD):Nat→List Nat→List D→List Nat
 |0,acc,_=>acc
 |_+1,acc,[]=>acc
 |n+1,acc,d::r=>match d.ref with
  |none=>reach ob n acc r
  |some k=>bif qO k acc then reach ob n acc r else match ob k with
   |some (.cells ds)=>reach ob n (acc++[k]) (ds++r)
   |some (.val ds)=>reach ob n (acc++[k]) (ds++r)
   |some _=>reach ob n (acc++[k]) r
   |none=>reach ob n acc r
def RL:List D→List Nat
 |[]=>[]
 | .own k::r=>k::RL r
 |_::r=>RL r
def Br(ob:Nat→Option yD)(dr:List Nat):List Nat→Nat→Nat→List (Nat×Nat)
 |[],_,_=>[]
 |k::r,a,b=>match ob k with
  |some (.row _ _ _)=>bif qO k dr then(k,1000+a)::Br ob dr r (a+1) b else(k,2000+b)::Br ob dr r a (b+1)
  |_=>(k,1000+a)::Br ob dr r (a+1) b
def fa(ob:Nat→Option yD)(ρ:List (Nat×Nat)):List (Nat×Nat)→List (Nat×yD)
 |[]=>[]
 |(k,c)::r=>match ob k with
  |some o=>(c,o.ren ρ)::fa ob ρ r
  |none=>fa ob ρ r
structure Bs (w:World)(S:Nat→Prop)(pl:Nat→Value)(h:List (Nat×yD)):Prop where
 ok:∀k o,zZ k h=some o→Xf w S pl (pl k) o
 priv:∀k o b,zZ k h=some o→pY (pl k)=some b→b<w.heap.size∧¬S b
 inj:∀k k' o o' b,zZ k h=some o→zZ k' h=some o'→pY (pl k)=some b→pY (pl k')=some b→k=k'
def nS(pl:Nat→Value)(h:List (Nat×yD))(b:Nat):Prop:=∃k o,zZ k h=some o∧pY (pl k)=some b
def ze9(P:Program)(f:FuncId)(args:List D)(h:List (Nat×yD))(r:D)(h':List (Nat×yD)):Prop:=
 ∀(w:World) (S:Nat→Prop) (vs:Array Value) (pl:Nat→Value),(∀b,S b→b<w.heap.size)→vs.size=args.length→(∀i d,args[i]? =some d→Rd w S pl (vs.getD i undef) d)→Bs w S pl h→DT P w (nS pl h)→
  Calls P f vs w λe w'=>∃v S' pl',e=.returned v∧Rd w' S' pl' v r∧Bs w' S' pl' h'∧(∀b,S' b→b<w'.heap.size)∧(∀b,S' b→S b∨nS pl h b∨w.heap.size≤b)∧
   (∀b,nS pl' h' b→nS pl h b∨w.heap.size≤b)∧(∀k,stabK k=true→pl' k=pl k)∧qB w.heap.size (nS pl h) w w'
def ziK(P:Program)(f:FuncId)(args:List D)(h:List (Nat×yD))(u:Value):Prop:=
 ∀(w:World) (S:Nat→Prop) (vs:Array Value) (pl:Nat→Value),(∀b,S b→b<w.heap.size)→vs.size=args.length→(∀i d,args[i]? =some d→Rd w S pl (vs.getD i undef) d)→Bs w S pl h→DT P w (nS pl h)→
  Calls P f vs w λe w'=>e=.panicked [{v:=u,recovered:=false}]∧qB w.heap.size (nS pl h) w w'
def exH:List Ty→(List D→Prop)→Prop
 |[],K=>K []
 |t::ts,K=>∃x:t.den,exH ts λds=>K (XH t x::ds)
def cB(k off:Nat):Nat:=1000000+1000*k+off
def RM(σ:St)(k off:Nat)(e:TypeId)(t:Ty):St:=match σ.ob k with
 |some (.cells ds)=>match ds[off]? with
  |some .nil=>bif Nat.beq k (cB k off)then σ else(σ.mk' (cB k off) (.row e t [])).setOb k (.cells ((ds.map (D.kill (cB k off))).set off (.own (cB k off))))
  |some (.ifc (.pointer none))=>σ.setOb k (.cells (ds.set off (.slf k)))
  |_=>σ
 |_=>σ
def jU(ds:List D):List (Nat×(Nat×(TypeId×Ty)))→St→St
 |[],σ=>σ
 |(i,off,e,t)::r,σ=>match ds[i]? with
  |some (.ptr k 0)=>jU ds r (RM σ k off e t)
  |_=>jU ds r σ
def Bt(k:Nat):List (Nat×(Nat×(TypeId×Ty)))→List (Nat×(Nat×(TypeId×Ty)))
 |[]=>[]
 |(j,x)::r=>bif Nat.beq j k then(0,x)::Bt k r else Bt k r
def YM:List (Nat×(Nat×(TypeId×Ty)))→List D→List D
 |[],cs=>cs
 |(_,off,_,_)::r,cs=>YM r (match cs[off]? with
  |some (.sl _ [])=>cs.set off .nil
  |_=>cs)
def zcj(E:TE)(A:wA)(o:Oper)(T:TypeId)(σ:St)(K:D→St→Prop):Prop:=match zZ T E.zs with
 |some (_,cs)=>match gY A o.dst with
  |some k=>bif Nat.blt k 1000000 then K (.ptr k 0) (jU [.ptr k 0] (Bt k A.nz) (σ.mk' k (.cells (YM (Bt k A.nz) cs))))else False
  |none=>K (.iptr cs 0) σ
 |none=>False
def Gg(E:TE)(A:wA)(o:Oper)(T:TypeId)(σ:St)(K:D→St→Prop):Prop:=match A.nz with
 |[]=>Gd E A o T σ K
 |_=>zcj E A o T σ K
def Xh(σ:St)(k off:Nat):St:=match σ.ob k with
 |some (.cells ds)=>match ds[off]? with
  |some (.own j)=>match σ.ob j with
   |some o=>bif o.flatB then σ.pub j o else σ
   |none=>σ
  |_=>σ
 |_=>σ
def uV(ds:List D):List (Nat×Nat)→St→St
 |[],σ=>σ
 |(i,off)::r,σ=>match ds[i]? with
  |some (.ptr k 0)=>uV ds r (Xh σ k off)
  |_=>uV ds r σ
def jV(ρi:List (Nat×Nat))(dst c:Nat):Nat:=match zZ c ρi with
 |some k=>k
 |none=>30000+64*dst+(c-3000)
def jW(ks:List Nat)(d:D):D:=match d.ref with
 |some j=>bif qO j ks then .undef else d
 |none=>d
def VO{α:Type}(ks:List Nat):List (Nat×α)→List (Nat×α)
 |[]=>[]
 |(i,a)::r=>bif qO i ks then VO ks r else(i,a)::VO ks r
def St.after(σ:St)(ρ:List (Nat×Nat))(dst:Nat)(h':List (Nat×yD)):St:=
 let β:List (Nat×Nat):=h'.map λx=>(x.1,jV (L4 ρ) dst x.1)
 let dead:=((ρ.filter λx=> !stabK x.2|| !(qO x.2 (h'.map (·.1)))).map (·.1))++(β.filter λx=> !(qO x.1 (ρ.map (·.2)))).map (·.2)
 ⟨σ.fr.map λx=>(x.1,jW dead x.2),(h'.map λx=>(jV (L4 ρ) dst x.1,x.2.ren β))++VO ((ρ.map (·.1))++β.map (·.2)) (σ.hp.map λx=>(x.1,x.2.map (jW dead)))⟩
def zaa(σ:St)(ρ:List (Nat×Nat))(dst:Nat)(h':List (Nat×yD)):Bool:=
 kW (ρ.map (·.1))&&kW (ρ.map (·.2))&&kW (h'.map (·.1))&&kW (h'.map λx=>jV (L4 ρ) dst x.1)&&
  ρ.all (λx=>(!stabK x.1||stabK x.2)&&Nat.blt x.2 3000)&&
  h'.all (λx=>qO x.1 (ρ.map (·.2))||Nat.ble 3000 x.1)
def O9(d:D):Bool:=match d.ref with
 |some k=>Nat.blt k 1000000
 |none=>true
def fw(σ:St):List D→List D
 |[]=>[]
 | .ptr k 0::r=>(match σ.ob k with
  |some (.cells cs)=>cs.filter λd=>match d with
   | .ptr _ 0=>true
   |_=>false
  |_=>[])++fw σ r
 |_::r=>fw σ r
def JJ(P:Program)(A:wA)(f:FuncId)(hs:Bi)(dst:Nat)(ds0 caps:List D)(σ:St)(K:D→St→Prop):Prop:=
 bif caps.all cJ&&ds0.all O9 then
  let σ:=jU (ds0++fw (uV ds0 hs.datas σ) ds0) hs.nils (uV ds0 hs.datas σ)
  let ρ:=Br σ.ob (RL ds0) (reach σ.ob 400 [] ds0) 0 0
  exH hs.tys λxs=>match hs.res xs (λc=>zZ c (fa σ.ob ρ ρ))with
   |some (r,h')=>bif zaa σ ρ dst h' then ze9 P f (ds0.map (D.ren ρ)++caps) (fa σ.ob ρ ρ) r h'∧K (r.ren (h'.map λx=>(x.1,jV (L4 ρ) dst x.1))) (σ.after ρ dst h')else False
   |none=>False
 else False
def zgC(P:Program)(f:FuncId)(hs:Bi)(ds0 caps:List D)(σ:St)(T:Value→Prop):Prop:=
 bif caps.all cJ&&ds0.all O9 then
  let σ:=jU (ds0++fw (uV ds0 hs.datas σ) ds0) hs.nils (uV ds0 hs.datas σ)
  let ρ:=Br σ.ob (RL ds0) (reach σ.ob 400 [] ds0) 0 0
  bif kW (ρ.map (·.1))&&kW (ρ.map (·.2))then∃u,ziK P f (ds0.map (D.ren ρ)++caps) (fa σ.ob ρ ρ) u∧T u else False
 else False
def zfa:Option Nat→Nat
 |some d=>d
 |none=>0
def zck(E:TE)(f:FuncId):Option (List Ty)→Option Bi
 |some _=>none
 |none=>zZ f E.hsig
def ziL(P:Program)(E:TE)(A:wA)(g:FuncId)(hs:Bi)(dst:Nat)(ds caps:List D)(σ:St)(K:D→St→Prop)(T:Value→Prop):Prop:=match qO g E.thr with
 |true=>JJ P A g hs dst ds caps σ K∨zgC P g hs ds caps σ T
 |false=>JJ P A g hs dst ds caps σ K
def zab(P:Program)(E:TE)(A:wA)(o:Oper)(fv:D)(args:List Operand)(tys:List TypeId)(σ:St)(K:D→St→Prop):Prop:=match fv with
 | .clo f rs0 caps=>match zck E f rs0 with
  |some hs=>JJ P A f hs (zfa o.dst) (zci hs.raw E σ args tys) caps σ K
  |none=>match zkC E f rs0 with
   |some rs=>zj4 P f rs0<|
    let ds:=gZ E σ args tys
    bif rs.all Ty.scalar then
     let ds:=ds.map (RK σ)
     bif ds.all cJ then zch P f (ds++caps) rs λr=>K r σ else False
    else rC A.q σ ds λds σ=>zch P f (ds++caps) rs λr=>K r σ
   |none=>False
 |_=>False
def Bu(P:Program)(E:TE)(A:wA)(o:Oper)(σ:St)(K:D→St→Prop):Prop:=match o.op with
 | .move x=>A8 E A o (σ.ev x) σ K
 | .assign x=>A8 E A o (σ.ev x) σ K
 | .pick c a b=>match σ.ev c with
  | .bool t=>zP t (K (σ.ev a) σ) (K (σ.ev b) σ)
  |_=>False
 | .alloc T=>Gg E A o T σ K
 | .box T x=>zgx E A o T (σ.ev x) σ K
 | .build T parts=>Gf E A o T parts.toList σ K
 | .buildSlice T len parts=>Xg E A o T len parts.toList σ K
 | .load T x=>zd6 E A T (σ.ev x) σ K
 | .store T x y=>Bl E A T (σ.ev x) (σ.ev y) σ K
 | .nilCheck x=>match σ.ev x with
  | .ptr k off=>K (.ptr k off) σ
  | .iptr cs off=>K (.iptr cs off) σ
  | .elt t xs i off=>K (.elt t xs i off) σ
  | .oelt k sz i off=>K (.oelt k sz i off) σ
  |_=>False
 | .binOp op T x y _=>A9 E op T (σ.ev x) (σ.ev y) σ λd=>K d σ
 | .makeMap T none=>RJ E A o T σ K
 | .mapUpdate T m x y=>TM E A T (σ.ev m) (σ.ev x) (σ.ev y) σ K
 | .lookup T m x ok=>HG E T (σ.ev m) (σ.ev x) ok σ λd=>K d σ
 | .unOp op _ x=>unD op (σ.ev x) λd=>K d σ
 | .convert src dst x=>zd8 E src dst (σ.ev x) λd=>K d σ
 | .makeFunc (.func f) first captured=>match A.clp with
  |false=>(match first.toList with
   |[]=>rC A.q σ (captured.toList.map σ.ev) λcs σ=>K (.clo f none cs) σ
   |_=>False)
  |true=>(match first.toList.map σ.ev,captured.toList.map σ.ev with
   |[.ptr k off],[]=>K (.clp f true k off) σ
   |[],[.ptr k off]=>K (.clp f false k off) σ
   |_,_=>False)
 | .makeInterface T x=>match zZ T E.zs,DU (σ.ev x)with
  |some (true,_),some u=>K (.ifc (.iface T u)) σ
  |_,_=>False
 | .slice T x lo hi none=>Bm E A T (σ.ev x) σ lo hi K
 | .fieldAddr T x f=>Ge E T (σ.ev x) f λd=>K d σ
 | .indexAddr T x ix=>TN E T (σ.ev x) (σ.ev ix) σ λd=>K d σ
 | .index T x ix=>Bo E T (σ.ev x) (σ.ev ix) λd=>K d σ
 | .extract x i=>Mp (σ.ev x) i λd=>K d σ
 | .makeSlice T l c=>WH E A o T (σ.ev l) (σ.ev c) σ K
 | .call c=>match c.callee with
  | .builtin .len=>match c.args.toList,c.argTypes.toList with
   |[x],[T]=>ziI E T (σ.ev x) σ λd=>K d σ
   |_,_=>False
  | .builtin .append=>match c.args.toList,c.argTypes.toList with
   |[x,y],[T,T']=>HH E A o T T' (σ.ev x) y σ K
   |_,_=>False
  | .builtin .max=>match c.args.toList with
   |[x,y]=>ziJ (σ.ev x) (σ.ev y) λd=>K d σ
   |_=>False
  | .value f=>zab P E A o (σ.ev f) c.args.toList c.argTypes.toList σ K
  |_=>False
 |_=>False
def zjO(P:Program)(E:TE)(A:wA)(o:Oper)(σ:St)(K:D→St→Prop)(T:Value→Prop):Option Prop:=match o.op with
 | .panic x=>some (match σ.ev x with
  | .ifc (.iface t u)=>T (.iface t u)
  |_=>False)
 | .call c=>match c.callee with
  | .value f=>match σ.ev f with
   | .clo g none caps=>(match qO g E.thr with
    |true=>some (match zZ g E.hsig with
     |some hs=>ziL P E A g hs (zfa o.dst) (zci hs.raw E σ c.args.toList c.argTypes.toList) caps σ K T
     |none=>False)
    |false=>none)
   | .clp g bd k off=>some (match zZ g E.hsig with
     |some hs=>ziL P E A g hs (zfa o.dst) (bif bd then .ptr k off::zci hs.raw E σ c.args.toList c.argTypes.toList else zci hs.raw E σ c.args.toList c.argTypes.toList++[.ptr k off]) [] σ K T
     |none=>False)
   |_=>none
  |_=>none
 |_=>none
def opX(P:Program)(E:TE)(A:wA)(o:Oper)(σ:St)(K:D→St→Prop)(T:Value→Prop):Prop:=match zjO P E A o σ K T with
 |some X=>X
 |none=>Bu P E A o σ K
def zgD:TypeDesc→Bool
 | .struct _| .array _ _=>true
 |_=>false
def zB:Value→D→Bool
 | .int .i64 n,.int .i64 m=>decide (n=0)&&decide (m=0)
 | .int .u8 n,.int .u8 m=>decide (n=0)&&decide (m=0)
 | .bool false,.bool false=>true
 | .string s,.str s'=>decide (s.size=0)&&decide (s'.size=0)
 | .slice none 0 0,.nil=>true
 | .slice none 0 0,.sl _ []=>true
 | .slice none 0 0,.slN _ [] true=>true
 | .pointer none,.ifc (.pointer none)=>true
 |_,.undef=>true
 |_,_=>false
def Iv:List Value→List D→Bool
 |[],[]=>true
 |v::vs,d::ds=>zB v d&&Iv vs ds
 |_,_=>false
structure ZOk (P:Program)(T:TypeId)(ag:Bool)(cs:List D):Prop where
 ty:tyC T cs
 ex:∃i z u,P.info? T=some i∧i.zero=some z∧i.size=cs.length∧P.underlying T=some u∧zgD u=ag∧Iv z.cells.toList cs=true
 one:ag=false→cs.length=1
structure SlE (P:Program)(T e:TypeId)(t:Ty):Prop where
 und:P.underlying T=some (.slice e)
 ex:∃i z,P.info? e=some i∧i.zero=some z∧i.size=t.size∧i.bytes=t.bytes∧Iv z.cells.toList (cells t t.dflt)=true
def zkE(P:Program)(T:TypeId)(offs:List (Nat×Nat)):Prop:=
 ∃fs:Array Field,P.underlying T=some (.struct fs)∧fs.toList.mapM (λf=>(P.info? f.type).map λi=>(f.offset,i.size))=some offs∧offs.all (λx=> !Nat.beq x.2 0)=true
def ziM(P:Program)(f:Field):Option (Bool×Nat):=if f.name≠ "_" then(match P.underlying f.type with
 |some (.int .i64)=>some (false,f.offset)
 |some .string=>some (true,f.offset)
 |_=>none)else none
def fkT:Ty→Option (List (Bool×Nat))
 | .tok=>some [(false,0),(false,1),(true,2)]
 | .lit=>some [(false,0),(false,1),(false,2)]
 | .var=>some [(true,0),(false,1),(false,2)]
 |_=>none
def zkF(P:Program)(T:TypeId)(t:Ty):Prop:=
 P.underlying T=some (.struct (P.fieldsOf T))∧P.stoodInHeld T=false∧P.eqGuardType P.depth T=false∧∃l,fkT t=some l∧(P.fieldsOf T).toList.mapM (ziM P)=some l
def L8(P:Program)(kT:TypeId):Ty→Prop
 | .int=>P.underlying kT=some (.int .i64)
 | .str=>P.underlying kT=some .string
 | .pr .int .int=>∃e i,P.underlying kT=some (.array 2 e)∧P.underlying e=some (.int .i64)∧P.info? e=some i∧P.cellsOf e=1
 |_=>False
def MpE(P:Program)(T:TypeId)(k v:Ty):Prop:=
 ∃kT eT i z d,P.underlying T=some (.map kT eT)∧L8 P kT k∧P.info? eT=some i∧i.zero=some z∧cells v v.dflt=[d]∧zB z d=true∧z.oneCell'=true
structure tT (P:Program)(E:TE):Prop where
 zs:∀T ag cs,zZ T E.zs=some (ag,cs)→ZOk P T ag cs
 sl:∀T e t,zZ T E.sl=some (e,t)→SlE P T e t
 fld:∀T offs,zZ T E.fld=some offs→zkE P T offs
 strs:∀T,qO T E.strs=true→P.underlying T=some .string
 ints:∀T k,zZ T E.ints=some k→P.underlying T=some (.int k)
 bools:∀T,qO T E.bools=true→P.underlying T=some .bool
 sig:∀f rs,zZ f E.sig=some rs→∀args w,(callFunc f args).run P w=.ok (.enter f args) w
 hsig:∀f hs,zZ f E.hsig=some hs→Ent P f
 arr:∀T,qO T E.arr=true→∃e i,P.underlying T=some (.array 2 e)∧P.info? e=some i∧i.size=1
 mps:∀T k v,zZ T E.mps=some (k,v)→MpE P T k v
 sts:∀T t,zZ T E.sts=some t→zkF P T t
 mixed:P.follows .mixedOrders=true
 byt:∀T e,zZ T E.sl=some (e,.byte)→∃i,P.info? e=some i∧i.zero=some (.int .u8 0)
section
variable {P:Program}{E:TE}{A:wA}{b0:Vy}{w w':World}{S S':Nat→Prop}{pl pl':Nat→Value}{N:Nat}{σ:St}{a:Act}{v:Value}{d:D}{o:Oper}{K:D→St→Prop}{next:Act→World→Prop}{Q:Exit→Act→World→Prop}
theorem zfb{s s':ByteArray}(h:s.size=0)(h':s'.size=0):s=s':=by
 have e:∀t:ByteArray,t.size=0→t=⟨#[]⟩:=λt ht=>by
  apply ByteArray.ext;exact Array.eq_empty_of_size_eq_zero ht
 rw[e s h,e s' h']
theorem zjP(h:zB v d=true):Rp w S v d:=by
 unfold zB at h
 split at h
 case h_1=>simp only[Bool.and_eq_true,decide_eq_true_eq]at h;obtain⟨rfl,rfl⟩:=h;exact .int _ _ (by unfold inK yJ;omega)
 case h_2=>simp only[Bool.and_eq_true,decide_eq_true_eq]at h;obtain⟨rfl,rfl⟩:=h;exact .int _ _ (by unfold inK;omega)
 case h_3=>exact .bool _
 case h_4=>simp only[Bool.and_eq_true,decide_eq_true_eq]at h;rw[zfb h.1 h.2];exact .str _ (by omega)
 case h_5=>exact .nil
 case h_6=>exact .sl _ _ _ ⟨[.slice none 0 0],rfl,none,0,rfl,by simp,by simp,by simp,λ_=>rfl,λhn=>absurd hn (by simp)⟩
 case h_7=>exact .slN _ _ _ _ ⟨[.slice none 0 0],rfl,none,0,rfl,by simp,by simp,by simp,λ_=>rfl,λhn=>absurd hn (by simp)⟩ (λe=>by cases e) λ_=>rfl
 case h_8=>exact .ifc _
 case h_9=>exact .undef _
 case h_10=>cases h
theorem Na:∀ {vs:List Value} {ds:List D},Iv vs ds=true→xP (Rp w S) vs ds
 |[],[],_=> .nil
 |v::vs,d::ds,h=>by
  simp only[Iv,Bool.and_eq_true]at h
  exact .cons (zjP h.1) (Na h.2)
 |[],_::_,h=>by simp[Iv]at h
 |_::_,[],h=>by simp[Iv]at h
theorem zj5(v:Value):Rp w S v (ofV v):=by
 unfold ofV;split
 case h_1 n=>
  cases h:decide (-9223372036854775808≤n)&&decide (n≤9223372036854775807)with
  |true=>simp only[Bool.and_eq_true,decide_eq_true_eq]at h;exact .int _ _ h
  |false=>exact .undef _
 case h_2 n=>
  cases h:decide (0≤n)&&decide (n≤255)with
  |true=>simp only[Bool.and_eq_true,decide_eq_true_eq]at h;exact .int _ _ h
  |false=>exact .undef _
 case h_3=>exact .bool _
 case h_4 s=>
  cases h:Nat.ble s.size 140737488355328 with
  |true=>exact .str _ (Nat.le_of_ble_eq_true h)
  |false=>exact .undef _
 case h_5=>exact .nil
 case h_6=>exact .undef _
theorem sF(m:rL P b0 N σ a w S pl)(x:Operand):Rd w S pl (a.eval x) (σ.ev x):=by
 cases x with
 |tmp t=>exact m.fr t
 |const v=>exact(zj5 v).rd
 |func f=>exact Rp.rd (.clo f none [] #[] rfl (λi d h=>by simp at h))
 |global g=>exact nW
theorem L9(T:TypeId)(h:Rd w S pl v d):Rd w S pl v (O7 E T d):=by
 unfold O7;split
 ·split
  ·have:=h.flat (d:=.nil) rfl
   rw[this.nil_inv];exact Rp.rd (.sl _ _ _ ⟨[.slice none 0 0],rfl,none,0,rfl,by simp,by simp,by simp,λ_=>rfl,λhn=>absurd hn (by simp)⟩)
  ·exact h
 ·exact Rp.rd (.sl _ _ _ (h.flat (d:=.slN _ _ _) rfl).slN_inv.1)
 ·exact h
def sX(P:Program)(b0:Vy)(N:Nat)(o:Oper)(a:Act)(K:D→St→Prop)(next:Act→World→Prop):Prop:=
 ∀d σ' v w' S' pl',K d σ'→rL P b0 N σ' a w' S' pl'→Rd w' S' pl' v d→next (a.put o.dst v) w'
theorem yN{v:Value}{w':World}(h:(execOp a.eval o).run P w=.ok (.value v) w')(hn:next (a.put o.dst v) w'):o.wp P a w next Q:=by
 unfold Oper.wp;rw[h];exact hn
theorem zcl{w':World}(h:(execOp a.eval o).run P w=.ok .skip w')(hn:next (a.put o.dst undef) w'):o.wp P a w next Q:=by
 unfold Oper.wp;rw[h];exact hn
theorem zcm(h:Rp w S v d)(hd:jT d=true):v.oneCell'=true:=by
 cases h
 case sl t xs h=>obtain⟨A,c,rfl,_⟩:=sO h;rfl
 case slN t xs nl h _ _=>obtain⟨A,c,rfl,_⟩:=sO h;rfl
 all_goals first|rfl|(simp[jT]at hd)
def Rc(w:World)(S:Nat→Prop)(pl:Nat→Value)(v:Value)(d:D):Prop:=Rd w S pl v d∧(jT d=true→v.oneCell'=true)
theorem Ka(m:rL P b0 N σ a w S pl)(h:Rd w S pl v d){cs:List D}(hc:Yp σ d=some cs):xP (Rc w S pl) v.cells.toList cs:=by
 have one:v.cells.toList=[v]→Yp σ d=some [d]→v.oneCell'=true→xP (Rc w S pl) v.cells.toList cs:=λe e' e1=>by
  rw[e']at hc;injection hc with hc;subst hc;rw[e];exact .cons ⟨h,λ_=>e1⟩ .nil
 cases d
 case agg ds=>
  obtain⟨vs,rfl,hl,h⟩:=(h.flat rfl).agg_inv;injection hc with hc;subst hc
  refine xP.of (by simpa[Value.cells]using hl) λi x d hx hd=> ?_
  have:=h i d hd;simp only[Value.cells,Array.getElem?_toList]at hx
  rw[Array.getD_eq_getD_getElem?,hx]at this
  exact⟨this.rd,zcm this⟩
 case tup ds=>cases hc
 case undef=>cases hc
 case ifc u=>cases hc
 case slf k=>
  rcases h with e|⟨b,_,e⟩
  ·exact one (by rw[e];rfl) rfl (by rw[e];rfl)
  ·exact one (by rw[e];rfl) rfl (by rw[e];rfl)
 case clp f bd k off=>obtain⟨b,_,e⟩:=h;exact one (by rw[e];rfl) rfl (by rw[e];rfl)
 case own k=>
  have h':v=pl k:=h;simp only[Yp,St.ob]at hc
  cases ho:zZ k σ.hp with
  |none=>rw[ho]at hc;cases hc
  |some o=>
   rw[ho]at hc
   cases o with
   |val ds=>
    injection hc with hc;subst hc
    obtain⟨vs,e1,e3,e4⟩:=m.hp k _ ho;rw[h',e1];refine xP.of (by simpa[Value.cells]using e3) λi x d hx hd=> ?_
    have:=e4 i d hd;simp only[Value.cells,Array.getElem?_toList]at hx
    rw[Array.getD_eq_getD_getElem?,hx]at this
    exact this
   |cells ds=>
    injection hc with hc;subst hc
    obtain⟨b,vs,T,e,_⟩:=m.hp k _ ho;have e':=h'.trans e;rw[e'];exact .cons ⟨by rw[←e'];exact h,λ_=>rfl⟩ .nil
   |row e t xs=>
    injection hc with hc;subst hc
    obtain⟨_,css,_,h4,_⟩:=m.hp k _ ho;rcases h4.2 with⟨e,_⟩|⟨g,cap,cur,e,_⟩<;>
    ·have e':=h'.trans e
     rw[e'];exact .cons ⟨by rw[←e'];exact h,λ_=>rfl⟩ .nil
   |mp kt vt es=>
    injection hc with hc;subst hc
    obtain⟨b,e,_⟩:=m.hp k _ ho;have e':=h'.trans e;rw[e'];exact .cons ⟨by rw[←e'];exact h,λ_=>rfl⟩ .nil
 case ownN k=>
  have h':v=pl k:=(show v=pl k∧v≠ .slice none 0 0 from h).1
  simp only[Yp,St.ob]at hc
  cases ho:zZ k σ.hp with
  |none=>rw[ho]at hc;cases hc
  |some o=>
   rw[ho]at hc
   cases o with
   |row e t xs=>
    injection hc with hc;subst hc
    obtain⟨_,css,_,h4,_⟩:=m.hp k _ ho;rcases h4.2 with⟨e,_⟩|⟨g,cap,cur,e,_⟩<;>
    ·have e':=h'.trans e
     rw[e'];exact .cons ⟨by rw[←e'];exact h,λ_=>rfl⟩ .nil
   |val ds=>cases hc
   |cells ds=>cases hc
   |mp kt vt es=>cases hc
 case slN t xs nl=>obtain⟨A,c,e,_⟩:=sO ((h.flat (d:=.slN t xs nl) rfl).slN_inv).1;exact one (by rw[e];rfl) rfl (by rw[e];rfl)
 case mp kt vt es=>obtain⟨b,e,_⟩:=(h.flat (d:=.mp kt vt es) rfl).mp_inv;exact one (by rw[e];rfl) rfl (by rw[e];rfl)
 case sl t xs=>obtain⟨A,c,e,_⟩:=sO (h.flat (d:=.sl t xs) rfl).sl_inv;exact one (by rw[e];rfl) rfl (by rw[e];rfl)
 case nil=>have e:=(h.flat (d:=.nil) rfl).nil_inv;exact one (by rw[e];rfl) rfl (by rw[e];rfl)
 case int k n=>have e:=(h.flat (d:=.int k n) rfl).int_inv.1;exact one (by rw[e];rfl) rfl (by rw[e];rfl)
 case bool b=>have e:=(h.flat (d:=.bool b) rfl).bool_inv;exact one (by rw[e];rfl) rfl (by rw[e];rfl)
 case str s=>have e:=(h.flat (d:=.str s) rfl).str_inv.1;exact one (by rw[e];rfl) rfl (by rw[e];rfl)
 case iptr cs off=>obtain⟨b,e,_⟩:=(h.flat (d:=.iptr cs off) rfl).iptr_inv;exact one (by rw[e];rfl) rfl (by rw[e];rfl)
 case elt t xs i off=>obtain⟨b,o,c,e,_⟩:=(h.flat (d:=.elt t xs i off) rfl).elt_inv;exact one (by rw[e];rfl) rfl (by rw[e];rfl)
 case clo f rs caps=>obtain⟨vs,e,_⟩:=(h.flat (d:=.clo f rs caps) rfl).clo_inv;exact one (by rw[e];rfl) rfl (by rw[e];rfl)
 case ptr k off=>obtain⟨b,_,e⟩:=h;exact one (by rw[e];rfl) rfl (by rw[e];rfl)
 case oelt k sz i off=>obtain⟨b,n,c,_,_,e⟩:=h;exact one (by rw[e];rfl) rfl (by rw[e];rfl)
theorem zfc(m:rL P b0 N σ a w S pl)(h:Rd w S pl v d){cs:List D}(hc:Yp σ d=some cs):xP (Rd w S pl) v.cells.toList cs:=(Ka m h hc).imp λ_ _ h=>h.1
theorem mV{d:D}:cJ d=true↔d.ref=none:=by
 unfold cJ;cases d.ref<;>simp
theorem OC:∀ {ds:List D},cK ds=none→∀d∈ds,d.ref=none
 |[],_,d,hd=>by cases hd
 |e::r,h,d,hd=>by
  unfold cK at h
  cases he:e.ref with
  |some k=>rw[he]at h;cases h
  |none=>
   rw[he]at h
   rcases List.mem_cons.1 hd with rfl|hd
   ·exact he
   ·exact OC h d hd
theorem xP.map_right{α β γ:Type}{R:α→γ→Prop}{f:β→γ}:∀ {xs:List α} {ys:List β},xP (λx y=>R x (f y)) xs ys→xP R xs (ys.map f)
 |_,_,.nil=> .nil
 |_,_,.cons h hs=> .cons h hs.map_right
theorem xP.flat:∀ {vs:List Value} {ds:List D},xP (Rd w S pl) vs ds→(∀d∈ds,d.ref=none)→xP (Rp w S) vs ds
 |_,_,.nil,_=> .nil
 |_,_,.cons h hs,hf=> .cons (h.flat (hf _ List.mem_cons_self)) (hs.flat λd hd=>hf d (List.mem_cons_of_mem _ hd))
theorem xP.rd{vs:List Value}{ds:List D}(h:xP (Rp w S) vs ds):xP (Rd w S pl) vs ds:=h.imp λ_ _ h=>h.rd
theorem xP.rmono{vs:List Value}{ds:List D}(h:xP (Rp w S) vs ds)(hk:∀b,S b→w'.heap[b]? =w.heap[b]?)(hS:∀b,S b→S' b):xP (Rp w' S') vs ds:=h.imp λ_ _ h=>h.mono hk hS
theorem zd9:∀(n:Nat) (σ:St) (ds:List D) (σ':St) (ds':List D) (S:Nat→Prop),pubs n σ ds=some (σ',ds')→rL P b0 N σ a w S pl→
  ∃S',(∀b,S b→S' b)∧rL P b0 N σ' a w S' pl∧∀vs,xP (Rd w S pl) vs ds→xP (Rp w S') vs ds'
 |0,_,_,_,_,_,h,_=>by cases h
 |n+1,σ,ds,σ',ds',S,h,m=>by
  unfold pubs at h
  cases hf:cK ds with
  |none=>
   rw[hf]at h;injection h with h;injection h with h1 h2;subst h1 h2
   exact⟨S,λ_ h=>h,m,λvs hv=>hv.flat (OC hf)⟩
  |some k0=>
   rw[hf]at h
   simp only at h
   generalize VM σ 4 k0=k at h
   cases ho:σ.ob k with
   |none=>rw[ho]at h;cases h
   |some o=>
    rw[ho]at h
    simp only at h
    cases hfl:o.flatB with
    |false=>rw[hfl]at h;cases h
    |true=>
     rw[hfl,cond_true]at h
     have hfl':o.flat:=by
      cases o with
      |cells cs=>exact λd hd=>mV.1 (List.all_eq_true.1 hfl d hd)
      |row _ _ _=>trivial
      |mp _ _ _=>trivial
      |val cs=>exact λd hd=>mV.1 (List.all_eq_true.1 hfl d hd)
     have m1:=m.pub (k:=k) ho hfl';obtain⟨S',hS,m2,hv⟩:=zd9 n _ _ _ _ _ h m1;exact⟨S',λb hb=>hS b (.inl hb),m2,λvs h=>hv vs (xP.map_right (h.imp λ_ _ h=>Pk (m.hp k o ho) hfl' h))⟩
theorem pH{ds:List D}{K:List D→St→Prop}{q:Nat}(h:rC q σ ds K)(m:rL P b0 N σ a w S pl):
  ∃σ' ds' S',K ds' σ'∧(∀b,S b→S' b)∧rL P b0 N σ' a w S' pl∧∀vs,xP (Rd w S pl) vs ds→xP (Rp w S') vs ds':=by
 unfold rC at h
 cases hp:pubs q σ ds with
 |none=>rw[hp]at h;exact h.elim
 |some x=>
  obtain⟨σ',ds'⟩:=x;rw[hp]at h
  obtain⟨S',h1,h2,h3⟩:=zd9 _ _ _ _ _ _ hp m;exact⟨σ',ds',S',h,h1,h2,h3⟩
theorem Nb(w:World)(o:Obj):(w.alloc o).heap.size=w.heap.size+1:=by simp
theorem RN(w:World)(o:Obj):Below w.heap.size w (w.alloc o):=(Below.refl _ _).alloc (Nat.le_refl _) o
theorem Nc(m:rL P b0 N σ a w S pl)(o:Obj):∀b,S b→(w.alloc o).heap[b]? =w.heap[b]? :=λb hb=>Below.heap_alloc w o b (m.lt b hb)
theorem Bv(m:rL P b0 N σ a w S pl)(k:Nat)(hst:stabK k=false){vs:Array Value}{cs:List D}(T:TypeId)(h:xP (Rd w S pl) vs.toList cs)(hty:tyC T cs)(hr:∀d∈cs,d.ref≠some k):
  rL P b0 N (σ.mk' k (.cells cs)) a (w.alloc (.cells vs T)) S (PJ pl k (.pointer (some ⟨w.heap.size,0,none⟩))):=by
 refine m.mk' (w':=w.alloc (.cells vs T)) k hst (.cells cs) (.pointer (some ⟨w.heap.size,0,none⟩)) (RN w _) (λb hb=>by injection hb with hb;subst hb;exact⟨Nat.le_refl _,by show w.heap.size<_;rw[Nb];omega⟩) λpl' hpl=> ?_
 refine⟨w.heap.size,vs,T,rfl,heap_alloc_new w _,by simpa using h.len,λi d hd=> ?_,hty⟩
 obtain⟨u,hu,hr'⟩:=h.at hd;have e:vs.getD i undef=u:=by rw[Array.getD_eq_getD_getElem?];rw[Array.getElem?_toList]at hu;rw[hu];rfl
 rw[e];exact hr'.mono (Nc m _) (λ_ h=>h) λj hj=>hpl j λej=>hr d (List.mem_of_getElem? hd) (by rw[hj,ej])
theorem Pm(m:rL P b0 N σ a w S pl){vs:Array Value}{cs:List D}(T:TypeId)(h:xP (Rp w S) vs.toList cs):
  rL P b0 N σ a (w.alloc (.cells vs T)) (λb=>S b∨b=w.heap.size) pl∧Rp (w.alloc (.cells vs T)) (λb=>S b∨b=w.heap.size) (.pointer (some ⟨w.heap.size,0,none⟩)) (.iptr cs 0):=by
 refine⟨m.newS _,Rp.iptr_mk (.inr rfl) λi d hd=> ?_⟩
 obtain⟨u,hu,hr'⟩:=h.at hd;refine⟨u,?_,hr'.mono (Nc m _) λ_ h=> .inl h⟩
 rw[World.cell?_alloc_new];simpa using hu
theorem zcn(k b:Nat):Rd w S (PJ pl k (.pointer (some ⟨b,0,none⟩))) (.pointer (some ⟨b,0,none⟩)) (.ptr k 0):=⟨b,if_pos rfl,rfl⟩
theorem zgE(F:tT P E)(m:rL P b0 N σ a w S pl){x:Operand}(ho:o.op=.move x∨o.op=.assign x)(h:A8 E A o (σ.ev x) σ K)(hn:sX P b0 N o a K next):o.wp P a w next Q:=by
 have hrun:(execOp a.eval o).run P w=.ok (.value (a.eval x)) w:=by
  rcases ho with ho|ho<;>·unfold execOp;rw[ho];rfl
 have hx:=sF m x;have plain:∀d,σ.ev x=d→K d σ→o.wp P a w next Q:=λd e h=>yN hrun (hn _ _ _ _ _ _ h m (e▸hx))
 unfold A8 at h
 split at h
 ·rename_i e
  rw[e]at hx
  have hv:=(hx.flat (d:=.nil) rfl).nil_inv;split at h
  ·rename_i te t hl
   split at h
   ·rename_i k hk
    refine yN hrun (hn _ _ _ _ _ _ h (m.mk' (w':=w) k (eL hk) (.row te t []) (.slice none 0 0) (Below.refl _ _) (λb hb=>by cases hb) λpl' _=> ?_) ?_)
    ·exact⟨by simp[lim],[],rfl,by simpa using World.ownsRow_nil w 0 te t.size,by simp,by simp⟩
    ·show a.eval x=_;rw[hv];exact(if_pos rfl).symm
   ·cases hb:zjM A o.dst with
    |true=>rw[hb,cond_true]at h;exact yN hrun (hn _ _ _ _ _ _ h m (by rw[hv];exact Rp.rd (.slN _ _ _ _ ⟨[.slice none 0 0],rfl,none,0,rfl,by simp,by simp,by simp,λ_=>rfl,λhn=>absurd hn (by simp)⟩ (λe=>by cases e) λ_=>rfl)))
    |false=>
    rw[hb,cond_false]at h
    exact yN hrun (hn _ _ _ _ _ _ h m (by rw[hv];exact Rp.rd (.sl _ _ _ ⟨[.slice none 0 0],rfl,none,0,rfl,by simp,by simp,by simp,λ_=>rfl,λhn=>absurd hn (by simp)⟩)))
  ·exact plain _ e h
 ·rename_i d hne
  exact plain _ rfl h
theorem ziN(m:rL P b0 N σ a w S pl){c x y:Operand}(ho:o.op=.pick c x y){t:Bool}(hc:σ.ev c=.bool t)(h:zP t (K (σ.ev x) σ) (K (σ.ev y) σ))(hn:sX P b0 N o a K next):o.wp P a w next Q:=by
 have hcv:a.eval c=.bool t:=by have:=sF m c;rw[hc]at this;exact(this.flat (d:=.bool t) rfl).bool_inv
 have hrun:(execOp a.eval o).run P w=.ok (.value (if t then a.eval x else a.eval y)) w:=by
  unfold execOp;rw[ho];simp only[hcv];rfl
 cases t
 ·exact yN hrun (hn _ _ _ _ _ _ h m (sF m y))
 ·exact yN hrun (hn _ _ _ _ _ _ h m (sF m x))
theorem Bw:∀ {vs:List Value} {ds:List D},Iv vs ds=true→∀d∈ds,d.ref=none
 |[],[],_,d,hd=>by cases hd
 |v::vs,e::ds,h,d,hd=>by
  simp only[Iv,Bool.and_eq_true]at h
  rcases List.mem_cons.1 hd with rfl|hd
  ·have h1:=h.1
   cases d
   case own k=>cases v<;>simp[zB]at h1
   case ptr k off=>cases v<;>simp[zB]at h1
   case oelt k sz i off=>cases v<;>simp[zB]at h1
   case ownN k=>cases v<;>simp[zB]at h1
   case clp f bd k off=>cases v<;>simp[zB]at h1
   case slf k=>cases v<;>simp[zB]at h1
   all_goals rfl
  ·exact Bw h.2 d hd
 |[],_::_,h,_,_=>by simp[Iv]at h
 |_::_,[],h,_,_=>by simp[Iv]at h
theorem zgF(F:tT P E)(m:rL P b0 N σ a w S pl){T:TypeId}(ho:o.op=.alloc T)(h:Gd E A o T σ K)(hn:sX P b0 N o a K next):o.wp P a w next Q:=by
 unfold Gd at h
 split at h
 ·rename_i ag cs hl
  obtain⟨i,z,u,hi,hz,hsz,hu,hag,hzb⟩:=(F.zs T ag cs hl).ex
  have hrun:(execOp a.eval o).run P w=.ok (.value (.pointer (some ⟨w.heap.size,0,none⟩))) (w.alloc (.cells z.cells T)):=by
   unfold execOp;rw[ho];simp[Instr.alloc,zeroValue,typeInfo,hi,hz,newVar,newRow,newObj];rfl
  have hrd:xP (Rp w S) z.cells.toList cs:=Na hzb;split at h
  ·rename_i k hk
   exact yN hrun (hn _ _ _ _ _ _ h (Bv m k (eL hk) T hrd.rd (F.zs T ag cs hl).ty λd hd e=>by rw[Bw hzb d hd]at e;cases e) (zcn k _))
  ·exact yN hrun (hn _ _ _ _ _ _ h (Pm m T hrd).1 (Pm m T hrd).2.rd)
 ·exact h.elim
theorem zj6(F:tT P E)(m:rL P b0 N σ a w S pl){T:TypeId}{x:Operand}(ho:o.op=.box T x)(h:zgx E A o T (σ.ev x) σ K)(hn:sX P b0 N o a K next):o.wp P a w next Q:=by
 have hrun:(execOp a.eval o).run P w=.ok (.value (.pointer (some ⟨w.heap.size,0,none⟩))) (w.alloc (.cells (a.eval x).cells T)):=by
  unfold execOp;rw[ho];simp[Instr.box,newVar,newRow,newObj];rfl
 have hx:=L9 (E:=E) T (sF m x);unfold zgx at h
 split at h
 ·rename_i cs hc
  have hcs:=zfc m hx hc;split at h
  ·rename_i k hk
   cases hr:Bk k T cs with
   |true=>rw[hr]at h;exact h.elim
   |false=>
    rw[hr,cond_false]at h
    simp only[Bk,Bool.or_eq_false_iff]at hr
    refine yN hrun (hn _ _ _ _ _ _ h (Bv m k (eL hk) T hcs (λe=>by have:=hr.2;rw[e]at this;simpa using this) λd hd e=> ?_) (zcn k _))
    have:=List.any_eq_false.1 hr.1 d hd;simp only[zgw,e,yY.2 (rfl:k=k),not_true_eq_false]at this
  ·obtain⟨σ',ds',S',hK,hS,m',hv⟩:=pH h m
   exact yN hrun (hn _ _ _ _ _ _ hK (Pm m' T (hv _ hcs)).1 (Pm m' T (hv _ hcs)).2.rd)
 ·exact h.elim
theorem Nd(m:rL P b0 N σ a w S pl)(h:Rd w S pl v d){cs:List D}(hc:aQ σ d=some cs):
  ∃b off,v=.pointer (some ⟨b,off,none⟩)∧∀j d,cs[j]? =some d→∃u,w.cell? ⟨b,off+j,none⟩=some u∧Rd w S pl u d:=by
 cases d<;>simp only[aQ]at hc
 case ptr k off=>
  obtain⟨b,hp,rfl⟩:=h;cases ho:σ.ob k with
  |none=>rw[ho]at hc;cases hc
  |some o=>
   cases o with
   |row e t xs=>rw[ho]at hc;cases hc
   |mp kt vt es=>rw[ho]at hc;cases hc
   |val ds=>rw[ho]at hc;cases hc
   |cells ds=>
    rw[ho]at hc;injection hc with hc;subst hc
    obtain⟨b',vs,T,e1,e2,e3,e4,_⟩:=m.hp k _ ho;rw[hp]at e1;injection e1 with e1;injection e1 with e1;injection e1 with e1;subst e1
    refine⟨b,off,rfl,λj d hd=> ?_⟩
    rw[List.getElem?_drop]at hd
    refine⟨vs.getD (off+j) undef,?_,e4 _ d hd⟩;have hi:off+j<vs.size:=by rw[e3];exact(List.getElem?_eq_some_iff.1 hd).1
    rw[cell_of_row w b _ vs T (0,0) e2];simp[Array.getD_eq_getD_getElem?,hi]
 case iptr ds off=>
  injection hc with hc;subst hc
  obtain⟨b,rfl,hb,hcell⟩:=(h.flat (d:=.iptr ds off) rfl).iptr_inv;refine⟨b,off,rfl,λj d hd=> ?_⟩
  rw[List.getElem?_drop]at hd
  obtain⟨u,hu,hr⟩:=hcell _ d hd;exact⟨u,hu,hr.rd⟩
 case elt t xs i off=>
  injection hc with hc;subst hc
  obtain⟨b,o',c,rfl,hi,hr⟩:=(h.flat (d:=.elt t xs i off) rfl).elt_inv;obtain⟨b',o'',cs',e,hb,hrd,hcell⟩:=O2 hr hi;injection e with e;injection e with e1 e2;subst e1 e2
  have ha:=mY t hrd;refine⟨b,o'+i*t.size+off,rfl,λj d hd=> ?_⟩
  rw[List.getElem?_drop]at hd
  rw[List.getD_eq_getElem?_getD,List.getElem?_eq_getElem hi,Option.getD_some]at hd
  obtain⟨u,hu,hr'⟩:=ha.at hd;refine⟨u,?_,hr'.rd⟩;have:=hcell _ u hu;rw[←Ty.size_eq]at this
  rw[show o'+i*t.size+off+j=o'+i*t.size+(off+j) by omega]
  exact this
 case oelt k sz i off=>
  obtain⟨b,n,c,hp,hi,rfl⟩:=h;cases ho:σ.ob k with
  |none=>rw[ho]at hc;cases hc
  |some o=>
   cases o with
   |cells ds=>rw[ho]at hc;cases hc
   |mp kt vt es=>rw[ho]at hc;cases hc
   |val ds=>rw[ho]at hc;cases hc
   |row e t xs=>
    rw[ho]at hc
    simp only at hc
    cases hz:Nat.beq sz t.size with
    |false=>rw[hz]at hc;cases hc
    |true=>
     rw[hz,cond_true]at hc;injection hc with hc;subst hc
     obtain⟨_,css,h1,h2,h3,h4⟩:=m.hp k _ ho;rw[yY.1 hz];rcases h2.2 with⟨e,_⟩|⟨g,cap,cur,e,_,hg,hcap,hmax,hcur,htake⟩
     ·rw[hp]at e;cases e
     ·have e':=e
      rw[hp]at e;injection e with e e5 e6;injection e with e;injection e with e;subst e e5
      refine⟨b,i*t.size+off,rfl,λj d hd=> ?_⟩
      rw[List.getElem?_drop,List.getD_eq_getElem?_getD,List.getElem?_eq_getElem hi,Option.getD_some]at hd
      have hci:css[i]? =some (css[i]'(by omega)):=List.getElem?_eq_getElem (by omega)
      have hrd:=h4 i xs[i] _ (List.getElem?_eq_getElem hi) hci;obtain⟨u,hu,hr'⟩:=(mY t hrd).at hd;refine⟨u,?_,hr'.rd⟩;have hf:=HD css h3 i (off+j) _ u hci hu;have:=h2.cells (g:=b) (by rw[e'];rfl) _ _ hf
      rw[←this,show i*t.size+off+j=i*t.size+(off+j) by omega]
      unfold Addr.add;split
      ·rename_i e0;rw[e0]
      ·simp
 all_goals cases hc
theorem Bx(R:Value→D→Prop)(b:Nat):∀(cs:List D) (off:Nat),(∀j d,cs[j]? =some d→∃u,w.cell? ⟨b,off+j,none⟩=some u∧R u d)→
  ∃vs:List Value,xP R vs cs∧∀(j:Nat) (u:Value),vs[j]? =some u→w.cell? ⟨b,off+j,none⟩=some u
 |[],_,_=>⟨[],.nil,λj u h=>by simp at h⟩
 |d::cs,off,h=>by
  obtain⟨u,hu,hr⟩:=h 0 d rfl
  obtain⟨vs,h1,h2⟩:=Bx R b cs (off+1) λj d hd=>by
   obtain⟨u,hu,hr⟩:=h (j+1) d (by simpa using hd)
   exact⟨u,by rw[show off+1+j=off+(j+1) by omega];exact hu,hr⟩
  refine⟨u::vs,.cons hr h1,λj v hv=> ?_⟩
  cases j with
  |zero=>simp at hv;subst hv;exact hu
  |succ j=>rw[show off+(j+1)=off+1+j by omega];exact h2 j v (by simpa using hv)
theorem UN{T:TypeId}{u:TypeDesc}(hu:P.underlying T=some u):(isAgg T).run P w=.ok (zgD u) w:=by
 unfold isAgg;simp only[Sem.run_bind,run_underlying hu,Result.andThen_ok];cases u<;>rfl
theorem ziO(F:tT P E)(m:rL P b0 N σ a w S pl){T:TypeId}{x:Operand}(ho:o.op=.load T x)(h:zd6 E A T (σ.ev x) σ K)(hn:sX P b0 N o a K next):o.wp P a w next Q:=by
 have hx:=sF m x;unfold zd6 at h
 split at h
 ·rename_i ag zs hl
  obtain⟨i,z,u,hi,hz,hsz,hu,hag,hzb⟩:=(F.zs T ag zs hl).ex;split at h
  ·rename_i cs hc
   obtain⟨b,off,hv,hcell⟩:=Nd m hx hc;cases hle:Nat.ble zs.length cs.length with
   |false=>rw[hle]at h;exact h.elim
   |true=>
    rw[hle,cond_true]at h
    have hle:=Nat.le_of_ble_eq_true hle;split at h
    ·rename_i hl'
     obtain⟨vs,h1,h2⟩:=Bx (Rd w S pl) b (cs.take zs.length) off λj d hd=>hcell j d (by
      rw[List.getElem?_take]at hd;split at hd
      ·exact hd
      ·cases hd)
     have hlen:vs.length=zs.length:=by rw[h1.len,List.length_take];omega
     have hload:(loadCells ⟨b,off,none⟩ zs.length).run P w=.ok vs.toArray w:=by
      rw[←hlen];refine run_loadCells_list (P:=P) w ⟨b,off,none⟩ vs λj u hu=> ?_
      have:=h2 j u hu;unfold Addr.add;split
      ·rename_i e;subst e;simpa using this
      ·exact this
     have hrun:(execOp a.eval o).run P w=.ok (.value (.agg vs.toArray)) w:=by
      unfold execOp;rw[ho];have hs:(sizeOf T).run P w=.ok zs.length w:=by simp[sizeOf,typeInfo,hi,hsz]
      simp only[Instr.loadAt,hv,Instr.sureAddr,loadVar,Sem.run_bind,Sem.run_pure,Result.andThen_ok,UN hu,hag,if_true,hs,hload]
     obtain⟨σ',ds',S',hK,hS,m',hv'⟩:=pH h m;have hr:=hv' vs h1;refine yN hrun (hn _ _ _ _ _ _ hK m' (Rp.rd (.agg _ _ (by simpa using hr.len) λj d hd=> ?_)))
     obtain⟨u,hu,hr'⟩:=hr.at hd;rw[Array.getD_eq_getD_getElem?];simpa[hu]using hr'
    ·have hone:=(F.zs T _ zs hl).one rfl
     cases cs with
     |cons d r=>
      obtain⟨u',hu',hr⟩:=hcell 0 d rfl
      have hld:(load ⟨b,off,none⟩).run P w=.ok u' w:=by
       have:w.cell? ⟨b,off,none⟩=some u':=hu';simp only[load,Sem.run,this]
      have hrun:(execOp a.eval o).run P w=.ok (.value u') w:=by
       unfold execOp;rw[ho];simp only[Instr.loadAt,hv,Instr.sureAddr,loadVar,Sem.run_bind,Sem.run_pure,Result.andThen_ok,UN hu,hag,Bool.false_eq_true,if_false,hld]
      exact yN hrun (hn _ _ _ _ _ _ h m hr)
     |nil=>exact h.elim
  ·exact h.elim
 ·exact h.elim
end
section
variable {P:Program}{E:TE}{A:wA}{b0:Vy}{w w':World}{S S':Nat→Prop}{pl pl':Nat→Value}{N:Nat}{σ:St}{a:Act}{v:Value}{d:D}{o:Oper}{K:D→St→Prop}{next:Act→World→Prop}{Q:Exit→Act→World→Prop}
theorem JK(F:tT P E){T:TypeId}{f off:Nat}(h:Bn E T f=some off)(b q:Nat):(Instr.fieldAt T (.pointer (some ⟨b,q,none⟩)) f).run P w=.ok (.pointer (some ⟨b,q+off,none⟩)) w:=by
 unfold Bn at h
 split at h
 ·rename_i offs hl
  split at h
  ·rename_i off' sz hf
   injection h with h;subst h
   obtain⟨fs,hu,hm,hz⟩:=F.fld T offs hl
   obtain⟨fd,hfd,hfm⟩:∃fd,fs[f]? =some fd∧(P.info? fd.type).map (λi=>(fd.offset,i.size))=some (off',sz):=by
    have key:∀(l:List Field) (offs:List (Nat×Nat)) (f:Nat),l.mapM (λf=>(P.info? f.type).map λi=>(f.offset,i.size))=some offs→offs[f]? =some (off',sz)→
      ∃fd,l[f]? =some fd∧(P.info? fd.type).map (λi=>(fd.offset,i.size))=some (off',sz):=by
     intro l
     induction l with
     |nil=>intro offs f h1 h2;simp at h1;subst h1;simp at h2
     |cons x l ih=>
      intro offs f h1 h2;rw[List.mapM_cons]at h1
      cases hx:(P.info? x.type).map λi=>(x.offset,i.size)with
      |none=>simp[hx]at h1
      |some y=>
       rw[hx]at h1
       cases hr:l.mapM (λf=>(P.info? f.type).map λi=>(f.offset,i.size))with
       |none=>simp[hr]at h1
       |some ys=>
        rw[hr]at h1
        simp at h1
        subst h1;cases f with
        |zero=>simp at h2;subst h2;exact⟨x,rfl,hx⟩
        |succ f=>simpa using ih ys f hr (by simpa using h2)
    obtain⟨fd,h1,h2⟩:=key fs.toList offs f hm hf;exact⟨fd,by simpa using h1,h2⟩
   cases hi:P.info? fd.type with
   |none=>rw[hi]at hfm;cases hfm
   |some i=>
    rw[hi]at hfm
    simp only[Option.map_some,Option.some.injEq,Prod.mk.injEq]at hfm
    have hne:i.size≠0:=by
     have:=List.all_eq_true.1 hz _ (List.mem_of_getElem? hf);intro e;rw[←hfm.2,e]at this
     simp at this
    have hs:(sizeOf fd.type).run P w=.ok i.size w:=by simp[sizeOf,typeInfo,hi]
    have hplace:(fieldPlace ⟨b,q,none⟩ fd).run P w=.ok ⟨b,q+off',none⟩ w:=by
     simp only[fieldPlace,Sem.run_bind,hs,Result.andThen_ok,if_neg hne,Sem.run_pure,hfm.1];unfold Addr.add;split
     ·rename_i e;simp[e]
     ·rfl
    simp[Instr.fieldAt,Sem.run_bind,run_underlying hu,Result.andThen_ok,hfd,Instr.sureAddr,hplace]
  ·cases h
 ·cases h
theorem zgG(F:tT P E)(m:rL P b0 N σ a w S pl){T:TypeId}{x:Operand}{f:Nat}(ho:o.op=.fieldAddr T x f)(h:Ge E T (σ.ev x) f λd=>K d σ)(hn:sX P b0 N o a K next):o.wp P a w next Q:=by
 have hx:=sF m x
 have run:∀b q off,a.eval x=.pointer (some ⟨b,q,none⟩)→Bn E T f=some off→(execOp a.eval o).run P w=.ok (.value (.pointer (some ⟨b,q+off,none⟩))) w:=λb q off e hf=>by
  unfold execOp;rw[ho];simp only[e,Sem.run_bind,JK F hf,Result.andThen_ok,Sem.run_pure]
 unfold Ge at h
 split at h
 ·rename_i off hf
  split at h
  ·rename_i k q e
   rw[e]at hx
   obtain⟨b,hp,hv⟩:=hx;exact yN (run b q off hv hf) (hn _ _ _ _ _ _ h m ⟨b,hp,rfl⟩)
  ·rename_i cs q e
   rw[e]at hx
   obtain⟨b,hv,hb,hc⟩:=(hx.flat (d:=.iptr cs q) rfl).iptr_inv;exact yN (run b q off hv hf) (hn _ _ _ _ _ _ h m (Rp.rd (Rp.iptr_mk hb hc)))
  ·rename_i t xs i q e
   rw[e]at hx
   obtain⟨b,o',c,hv,hi,hr⟩:=(hx.flat (d:=.elt t xs i q) rfl).elt_inv;refine yN (run b _ off hv hf) (hn _ _ _ _ _ _ h m ?_);rw[show o'+i*t.size+q+off=o'+i*t.size+(q+off) by omega]
   exact Rp.rd (.elt t xs i (q+off) b o' c hi hr)
  ·rename_i k sz i q e
   rw[e]at hx
   obtain⟨b,n,c,hp,hi,hv⟩:=hx;refine yN (run b _ off hv hf) (hn _ _ _ _ _ _ h m ⟨b,n,c,hp,hi,?_⟩);rw[show i*sz+q+off=i*sz+(q+off) by omega]
  ·exact h.elim
 ·exact h.elim
theorem Gh{n:Int}{len:Nat}(h:vW n len=true):0≤n∧n<(len:Int):=by simpa[vW]using h
theorem Nf(F:tT P E){T e:TypeId}{t:Ty}(h:zZ T E.sl=some (e,t)):(sizeOf e).run P w=.ok t.size w:=by
 obtain⟨_,i,z,hi,hz,hs,hb,_⟩:=F.sl T e t h;simp[sizeOf,typeInfo,hi,hs]
theorem JL(F:tT P E){T e:TypeId}{t:Ty}(h:zZ T E.sl=some (e,t))(b q len c:Nat)(k:IntKind)(n:Int)(h0:0≤n)(h1:n<(len:Int)):
  (Instr.indexAt T (.slice (some ⟨b,q,none⟩) len c) (.int k n)).run P w=.ok (.pointer (some ⟨b,q+n.toNat*t.size,none⟩)) w:=by
 have hu:=(F.sl T e t h).und;simp only[Instr.indexAt,asIntOf,Sem.run_bind,Sem.run_pure,Result.andThen_ok,run_underlying hu];simp only[h0,h1,and_self,if_true,Sem.run_bind,Nf F h,Result.andThen_ok,Sem.run_pure];unfold Addr.add;split
 ·rename_i e;simp[e]
 ·rfl
theorem Bz(F:tT P E)(m:rL P b0 N σ a w S pl){T:TypeId}{x ix:Operand}(ho:o.op=.indexAddr T x ix)(h:TN E T (σ.ev x) (σ.ev ix) σ λd=>K d σ)(hn:sX P b0 N o a K next):o.wp P a w next Q:=by
 have hx:=sF m x;have hi:=sF m ix;unfold TN at h
 split at h
 ·rename_i e t' hl
  split at h
  ·rename_i k n ei
   rw[ei]at hi
   have hi:=(hi.flat (d:=.int k n) rfl).int_inv.1;split at h
   ·rename_i t xs ex
    rw[ex]at hx
    cases hz:Nat.beq t'.size t.size with
    |false=>rw[hz]at h;exact h.elim
    |true=>
     rw[hz,cond_true]at h
     obtain⟨hin,h⟩:=h;obtain⟨h0,h1⟩:=Gh hin;have hr:=(hx.flat (d:=.sl t xs) rfl).sl_inv;obtain⟨A',c,hv,_⟩:=sO hr;have hlt:n.toNat<xs.length:=by omega
     have hr':=hr;rw[hv]at hr'
     obtain⟨b,q,_,hA,_⟩:=O2 hr' hlt;subst hA
     have hrun:(execOp a.eval o).run P w=.ok (.value (.pointer (some ⟨b,q+n.toNat*t'.size,none⟩))) w:=by
      unfold execOp;rw[ho];simp only[hv,hi,Sem.run_bind,JL F hl b q xs.length c k n h0 h1,Result.andThen_ok,Sem.run_pure]
     rw[yY.1 hz]at hrun
     exact yN hrun (hn _ _ _ _ _ _ h m (Rp.rd (.elt t xs n.toNat 0 b q c hlt hr')))
   ·rename_i k' ex
    rw[ex]at hx
    have hx:a.eval x=pl k':=hx;split at h
    ·rename_i e' t xs hob
     cases hz:Nat.beq t'.size t.size with
     |false=>rw[hz]at h;exact h.elim
     |true=>
      rw[hz,cond_true]at h
      obtain⟨hin,h⟩:=h;obtain⟨h0,h1⟩:=Gh hin;obtain⟨_,css,q1,q2,_,_⟩:=m.hp k' _ hob;rcases q2.2 with⟨_,e0⟩|⟨g,cap,cur,ep,_⟩
      ·omega
      ·have hrun:(execOp a.eval o).run P w=.ok (.value (.pointer (some ⟨g,0+n.toNat*t'.size,none⟩))) w:=by
        unfold execOp;rw[ho];simp only[hx,ep,hi,Sem.run_bind,JL F hl g 0 xs.length cap k n h0 h1,Result.andThen_ok,Sem.run_pure]
       rw[yY.1 hz]at hrun
       exact yN hrun (hn _ _ _ _ _ _ h m ⟨g,xs.length,cap,ep,by omega,by simp⟩)
    ·exact h.elim
   ·exact h.elim
  ·exact h.elim
 ·exact h.elim
theorem zgH(F:tT P E)(m:rL P b0 N σ a w S pl){T:TypeId}{x ix:Operand}(ho:o.op=.index T x ix)(h:Bo E T (σ.ev x) (σ.ev ix) λd=>K d σ)(hn:sX P b0 N o a K next):o.wp P a w next Q:=by
 have hx:=sF m x;have hi:=sF m ix;unfold Bo at h
 split at h
 ·rename_i s k n ex ei
  rw[ex]at hx;rw[ei]at hi
  have hi:=(hi.flat (d:=.int k n) rfl).int_inv.1;have hx:=(hx.flat (d:=.str s) rfl).str_inv.1;cases hm:qO T E.strs with
  |false=>rw[hm]at h;exact h.elim
  |true=>
   rw[hm,cond_true]at h
   obtain⟨hin,h⟩:=h;obtain⟨h0,h1⟩:=Gh hin;have hlt:n.toNat<s.size:=by omega
   have hs:s[n.toNat]? =some s[n.toNat]:=by simp[hlt]
   have hrun:(execOp a.eval o).run P w=.ok (.value (.int .u8 (sP s n.toNat))) w:=by
    unfold execOp;rw[ho];simp only[hx,hi,Instr.index,asIntOf,Sem.run_bind,Sem.run_pure,Result.andThen_ok,run_underlying (F.strs T hm),h0,if_true,hs]
    have:s[n.toNat].toNat=(s.data.getD n.toNat 0).toNat:=by
     rw[Array.getD_eq_getD_getElem?];have:n.toNat<s.data.size:=hlt;rw[Array.getElem?_eq_getElem this];rfl
    rw[sP,this]
   exact yN hrun (hn _ _ _ _ _ _ h m (Rp.rd (.int _ _ (by unfold inK sP;have:=(s.data.getD n.toNat 0).toNat_lt;omega))))
 ·exact h.elim
theorem zco(m:rL P b0 N σ a w S pl){x:Operand}{i:Nat}(ho:o.op=.extract x i)(h:Mp (σ.ev x) i λd=>K d σ)(hn:sX P b0 N o a K next):o.wp P a w next Q:=by
 have hx:=sF m x;unfold Mp at h
 split at h
 ·rename_i ds e
  rw[e]at hx
  obtain⟨vs,hv,hl,hr⟩:=(hx.flat (d:=.tup ds) rfl).tup_inv;split at h
  ·rename_i d hd
   have hi:i<vs.size:=by rw[hl];exact(List.getElem?_eq_some_iff.1 hd).1
   have hrun:(execOp a.eval o).run P w=.ok (.value (vs.getD i undef)) w:=by
    unfold execOp;rw[ho];simp only[hv,Instr.extract,Array.getElem?_eq_getElem hi,Sem.run_bind,Sem.run_pure,Result.andThen_ok];rw[Array.getD_eq_getD_getElem?,Array.getElem?_eq_getElem hi];rfl
   exact yN hrun (hn _ _ _ _ _ _ h m (hr i d hd).rd)
  ·exact h.elim
 ·exact h.elim
theorem zac(m:rL P b0 N σ a w S pl){x:Operand}(ho:o.op=.nilCheck x)(h:Bu P E A o σ K)(hn:sX P b0 N o a K next):o.wp P a w next Q:=by
 have hx:=sF m x
 have run:∀p,a.eval x=.pointer (some p)→(execOp a.eval o).run P w=.ok (.value (a.eval x)) w:=λp e=>by
  unfold execOp;rw[ho];simp only[e];rfl
 unfold Bu at h
 rw[ho]at h
 simp only at h
 split at h
 ·rename_i k off e
  rw[e]at hx
  obtain⟨b,hp,hv⟩:=hx;exact yN (run _ hv) (hn _ _ _ _ _ _ h m ⟨b,hp,hv⟩)
 ·rename_i cs off e
  rw[e]at hx
  obtain⟨b,hv,_⟩:=(hx.flat (d:=.iptr cs off) rfl).iptr_inv;exact yN (run _ hv) (hn _ _ _ _ _ _ h m hx)
 ·rename_i t xs i off e
  rw[e]at hx
  obtain⟨b,o',c,hv,_⟩:=(hx.flat (d:=.elt t xs i off) rfl).elt_inv;exact yN (run _ hv) (hn _ _ _ _ _ _ h m hx)
 ·rename_i k sz i off e
  rw[e]at hx
  obtain⟨b,n,c,hp,hi,hv⟩:=hx;exact yN (run _ hv) (hn _ _ _ _ _ _ h m ⟨b,n,c,hp,hi,hv⟩)
 ·exact h.elim
theorem DW(op:BinOp)(T:TypeId)(x y:Operand)(u v:Value)(h:∀cs,u≠ .agg cs)(h':u≠ .nilIface):(eqGuard op T x y u v).run P w=.ok () w:=by
 cases u<;>first|exact absurd rfl h'|exact absurd rfl (h _)|(unfold eqGuard;cases op<;>rfl)
theorem ziP{a b:Int}(ha:yJ a):yJ (a.tmod b):=by
 unfold yJ at*
 have h1:(a.tmod b).natAbs≤a.natAbs:=by rw[Int.natAbs_tmod];exact Nat.mod_le _ _
 have h2:0≤a→0≤a.tmod b:=λh=>Int.tmod_nonneg _ h
 have h3:a≤0→a.tmod b≤0:=λh=>by
  have:=Int.tmod_nonneg b (a:= -a) (by omega)
  rw[Int.neg_tmod]at this;omega
 by_cases h:0≤a
 ·have:=h2 h;omega
 ·have:=h3 (by omega);omega
theorem zj7(F:tT P E)(m:rL P b0 N σ a w S pl){op:BinOp}{T T':TypeId}{x y:Operand}(ho:o.op=.binOp op T x y T')(h:zgy E op T (σ.ev x) (σ.ev y) λd=>K d σ)(hn:sX P b0 N o a K next):o.wp P a w next Q:=by
 have hx:=sF m x;have hy:=sF m y
 have run:∀u,(∀cs,a.eval x≠ .agg cs)→a.eval x≠ .nilIface→(binOp op T (a.eval x) (a.eval y)).run P w=.ok u w→(execOp a.eval o).run P w=.ok (.value u) w:=λu h1 h2 h3=>by
  unfold execOp;rw[ho];simp only[Sem.run_bind,DW op T x y _ _ h1 h2,Result.andThen_ok,h3,Sem.run_pure]
 unfold zgy at h
 split at h
 ·rename_i p q ex ey
  rw[ex]at hx;rw[ey]at hy
  obtain⟨hx,kx⟩:=(hx.flat (d:=.int .i64 p) rfl).int_inv;obtain⟨hy,ky⟩:=(hy.flat (d:=.int .i64 q) rfl).int_inv;have n1:∀cs,a.eval x≠ .agg cs:=λcs e=>by rw[hx]at e;cases e
  have n2:a.eval x≠ .nilIface:=λe=>by rw[hx]at e;cases e
  have ib:∀n:Int,Rd w S pl (.int .i64 (yU n)) (.int .i64 (yU n)):=λn=>Rp.rd (.int _ _ (Bh n))
  have bb:∀b:Bool,Rd w S pl (.bool b) (.bool b):=λb=>Rp.rd (.bool b)
  split at h
  case h_1=>exact yN (run _ n1 n2 (by rw[hx,hy];rfl)) (hn _ _ _ _ _ _ h m (ib _))
  case h_2=>exact yN (run _ n1 n2 (by rw[hx,hy];rfl)) (hn _ _ _ _ _ _ h m (ib _))
  case h_3=>exact yN (run _ n1 n2 (by rw[hx,hy];rfl)) (hn _ _ _ _ _ _ h m (ib _))
  case h_4=>exact yN (run (.int .i64 (yU (p.tdiv q))) n1 n2 (by rw[hx,hy];simp[binOp,Op.intDiv,h.1];rfl)) (hn _ _ _ _ _ _ h.2 m (ib _))
  case h_5=>exact yN (run (.int .i64 (p.tmod q)) n1 n2 (by rw[hx,hy];simp[binOp,Op.intDiv,h.1])) (hn _ _ _ _ _ _ h.2 m (Rp.rd (.int _ _ (ziP kx))))
  case h_6=>exact yN (run (.bool (decide (p=q))) n1 n2 (by rw[hx,hy];rfl)) (hn _ _ _ _ _ _ h m (bb _))
  case h_7=>exact yN (run (.bool (!decide (p=q))) n1 n2 (by rw[hx,hy];rfl)) (hn _ _ _ _ _ _ h m (bb _))
  case h_8=>exact yN (run _ n1 n2 (by rw[hx,hy];rfl)) (hn _ _ _ _ _ _ h m (bb _))
  case h_9=>exact yN (run _ n1 n2 (by rw[hx,hy];rfl)) (hn _ _ _ _ _ _ h m (bb _))
  case h_10=>exact yN (run (.bool (decide (q<p))) n1 n2 (by rw[hx,hy];rfl)) (hn _ _ _ _ _ _ h m (bb _))
  case h_11=>exact yN (run (.bool (decide (q≤p))) n1 n2 (by rw[hx,hy];rfl)) (hn _ _ _ _ _ _ h m (bb _))
  case h_12=>exact h.elim
 ·rename_i p q ex ey
  rw[ex]at hx;rw[ey]at hy
  obtain⟨hx,kx⟩:=(hx.flat (d:=.int .u8 p) rfl).int_inv;obtain⟨hy,ky⟩:=(hy.flat (d:=.int .u8 q) rfl).int_inv;have n1:∀cs,a.eval x≠ .agg cs:=λcs e=>by rw[hx]at e;cases e
  have n2:a.eval x≠ .nilIface:=λe=>by rw[hx]at e;cases e
  have bb:∀b:Bool,Rd w S pl (.bool b) (.bool b):=λb=>Rp.rd (.bool b)
  split at h
  case h_1=>exact yN (run (.bool (decide (p=q))) n1 n2 (by rw[hx,hy];rfl)) (hn _ _ _ _ _ _ h m (bb _))
  case h_2=>exact yN (run (.bool (!decide (p=q))) n1 n2 (by rw[hx,hy];rfl)) (hn _ _ _ _ _ _ h m (bb _))
  case h_3=>exact yN (run _ n1 n2 (by rw[hx,hy];rfl)) (hn _ _ _ _ _ _ h m (bb _))
  case h_4=>exact yN (run _ n1 n2 (by rw[hx,hy];rfl)) (hn _ _ _ _ _ _ h m (bb _))
  case h_5=>exact yN (run (.bool (decide (q<p))) n1 n2 (by rw[hx,hy];rfl)) (hn _ _ _ _ _ _ h m (bb _))
  case h_6=>exact yN (run (.bool (decide (q≤p))) n1 n2 (by rw[hx,hy];rfl)) (hn _ _ _ _ _ _ h m (bb _))
  case h_7=>exact h.elim
 ·rename_i p q ex ey
  rw[ex]at hx;rw[ey]at hy
  obtain⟨hx,kx⟩:=(hx.flat (d:=.str p) rfl).str_inv;obtain⟨hy,ky⟩:=(hy.flat (d:=.str q) rfl).str_inv;have n1:∀cs,a.eval x≠ .agg cs:=λcs e=>by rw[hx]at e;cases e
  have n2:a.eval x≠ .nilIface:=λe=>by rw[hx]at e;cases e
  have bb:∀b:Bool,Rd w S pl (.bool b) (.bool b):=λb=>Rp.rd (.bool b)
  have eqs:(p.toList==q.toList)=decide (p=q):=by
   rw[Bool.eq_iff_iff];simp only[beq_iff_eq,decide_eq_true_eq];refine⟨λe=> ?_,λe=>by rw[e]⟩
   apply ByteArray.ext;apply Array.ext';rw[ByteArray.toList_eq,ByteArray.toList_eq]at e;exact e
  split at h
  case h_1=>exact yN (run (.bool (decide (p=q))) n1 n2 (by rw[hx,hy,←eqs];rfl)) (hn _ _ _ _ _ _ h m (bb _))
  case h_2=>exact yN (run (.bool (!decide (p=q))) n1 n2 (by rw[hx,hy,←eqs];rfl)) (hn _ _ _ _ _ _ h m (bb _))
  case h_3=>
   refine yN (run (.string (p++q)) n1 n2 ?_) (hn _ _ _ _ _ _ h.2 m (Rp.rd (.str _ (by rw[ByteArray.size_append];exact h.1))))
   rw[hx,hy]
   have:¬(((p.size+q.size:Nat):Int)>IntKind.i64.max):=by
    have:IntKind.i64.max=9223372036854775807:=by decide
    rw[this];have:=h.1;omega
   simp only[binOp,Op.stringOp,if_neg this,Sem.run_pure]
  case h_4=>exact h.elim
 ·rename_i p q ex ey
  rw[ex]at hx;rw[ey]at hy
  have hx:=(hx.flat (d:=.bool p) rfl).bool_inv;have hy:=(hy.flat (d:=.bool q) rfl).bool_inv;have n1:∀cs,a.eval x≠ .agg cs:=λcs e=>by rw[hx]at e;cases e
  have n2:a.eval x≠ .nilIface:=λe=>by rw[hx]at e;cases e
  have bb:∀b:Bool,Rd w S pl (.bool b) (.bool b):=λb=>Rp.rd (.bool b)
  cases hm:qO T E.bools with
  |false=>rw[hm]at h;exact h.elim
  |true=>
   rw[hm,cond_true]at h
   have heq:(Op.equal T (.bool p) (.bool q)).run P w=.ok (p==q) w:=by
    exact run_equal_bool w T p q (F.bools T hm)
   split at h
   case h_1=>exact yN (run (.bool (p==q)) n1 n2 (by rw[hx,hy];simp only[binOp,Sem.run_bind,heq,Result.andThen_ok,Sem.run_pure])) (hn _ _ _ _ _ _ h m (bb _))
   case h_2=>exact yN (run (.bool (!(p==q))) n1 n2 (by rw[hx,hy];simp only[binOp,Sem.run_bind,heq,Result.andThen_ok,Sem.run_pure])) (hn _ _ _ _ _ _ h m (bb _))
   case h_3=>exact h.elim
 ·exact h.elim
theorem zkG(m:rL P b0 N σ a w S pl){op:UnOp}{T:TypeId}{x:Operand}(ho:o.op=.unOp op T x)(h:unD op (σ.ev x) λd=>K d σ)(hn:sX P b0 N o a K next):o.wp P a w next Q:=by
 have hx:=sF m x;unfold unD at h
 split at h
 ·rename_i b e
  rw[e]at hx
  have hx:=(hx.flat (d:=.bool b) rfl).bool_inv;have hrun:(execOp a.eval o).run P w=.ok (.value (.bool !b)) w:=by unfold execOp;rw[ho];simp only[hx];rfl
  exact yN hrun (hn _ _ _ _ _ _ h m (Rp.rd (.bool _)))
 ·rename_i n e
  rw[e]at hx
  have hx:=(hx.flat (d:=.int .i64 n) rfl).int_inv.1;have hrun:(execOp a.eval o).run P w=.ok (.value (.int .i64 (yU (0-n)))) w:=by unfold execOp;rw[ho];simp only[hx];rfl
  exact yN hrun (hn _ _ _ _ _ _ h m (Rp.rd (.int _ _ (Bh _))))
 ·exact h.elim
theorem ziQ(m:rL P b0 N σ a w S pl){c:Call}(ho:o.op=.call c)(hc:c.callee=.builtin .max){x y:Operand}(ha:c.args.toList=[x,y])(h:ziJ (σ.ev x) (σ.ev y) λd=>K d σ)(hn:sX P b0 N o a K next):o.wp P a w next Q:=by
 have hx:=sF m x;have hy:=sF m y;unfold ziJ at h
 split at h
 ·rename_i p q ex ey
  rw[ex]at hx;rw[ey]at hy
  obtain⟨hx,kx⟩:=(hx.flat (d:=.int .i64 p) rfl).int_inv;obtain⟨hy,ky⟩:=(hy.flat (d:=.int .i64 q) rfl).int_inv;have ha':c.args= #[x,y]:=by apply Array.ext';simpa using ha
  have hrun:(execOp a.eval o).run P w=.ok (.value (.int .i64 (if q>p then q else p))) w:=by
   unfold execOp;rw[ho];simp only[resolve,hc,ha',invoke,builtin,Builtin.max_,List.map_toArray,List.map_cons,List.map_nil,hx,hy,Sem.run_bind,Sem.run_pure,Result.andThen_ok];rfl
  exact yN hrun (hn _ _ _ _ _ _ h m (Rp.rd (.int _ _ (by split<;>assumption))))
 ·exact h.elim
theorem ziR(F:tT P E)(m:rL P b0 N σ a w S pl){src dst:TypeId}{x:Operand}(ho:o.op=.convert src dst x)(h:zd8 E src dst (σ.ev x) λd=>K d σ)(hn:sX P b0 N o a K next):o.wp P a w next Q:=by
 have hx:=sF m x;unfold zd8 at h
 cases hs:zZ src E.ints with
 |none=>
  rw[hs]at h
  simp only at h
  split at h
  ·rename_i e xs hl ex
   split at h
   ·rename_i hi hd
    rw[ex]at hx
    have hv:=(hx.flat (d:=.sl .byte xs) rfl).sl_inv;obtain⟨A0,c,e1,hok⟩:=sO hv;rw[e1]at hv
    have hus:=(F.sl src e .byte hl).und;have hue:=F.ints e .u8 hi;have hud:=F.strs dst hd
    have hc:(convert src dst (a.eval x)).run P w=.ok (.string ⟨xs.toArray⟩) w:=by
     rw[e1];cases A0 with
     |none=>
      have hx0:xs=[]:=by
       cases xs with
       |nil=>rfl
       |cons y r=>obtain⟨b,o',cs,h0,_⟩:=O2 hv (i:=0) (by simp);cases h0
      subst hx0;exact run_convert_bytes_nil w src e hus hue _ _ dst hud
     |some ad=>
      refine run_convert_bytes_back w src dst e ad c xs hus hue hud λj hj=> ?_
      obtain⟨b,o',cs,h0,_,hr,hcell⟩:=O2 hv hj;injection h0 with h0;subst h0
      have hr:cs=[.int .u8 (xs[j].toNat:Int)]:=hr;subst hr;have:=hcell 0 _ rfl;rw[Addr.add_lit];simpa[vS.size]using this
    have hrun:(execOp a.eval o).run P w=.ok (.value (.string ⟨xs.toArray⟩)) w:=by
     unfold execOp;rw[ho];simp only[Sem.run_bind,hc,Result.andThen_ok,Sem.run_pure]
    refine yN hrun (hn _ _ _ _ _ _ h m (Rp.rd (.str _ ?_)));have:=hok.bytes;show xs.toArray.size≤_
    simpa[vS.bytes]using this
   ·exact h.elim
  ·exact h.elim
 |some ks=>
 rw[hs]at h
 have hus:=F.ints src ks hs;simp only at h
 split at h
 ·rename_i k n hl e
  rw[e]at hx
  have hx:=(hx.flat (d:=.int k n) rfl).int_inv.1
  have hrun:(execOp a.eval o).run P w=.ok (.value (.int .i64 (yU n))) w:=by
   unfold execOp;rw[ho];simp only[hx,convert,Sem.run_bind,run_underlying hus,run_underlying (F.ints dst _ hl),Result.andThen_ok,Conv.intToInt,Sem.run_pure]
   try rfl
  exact yN hrun (hn _ _ _ _ _ _ h m (Rp.rd (.int _ _ (Bh _))))
 ·rename_i k n hl e
  rw[e]at hx
  have hx:=(hx.flat (d:=.int k n) rfl).int_inv.1
  have hrun:(execOp a.eval o).run P w=.ok (.value (.int .u8 (IntKind.u8.wrap n))) w:=by
   unfold execOp;rw[ho];simp only[hx,convert,Sem.run_bind,run_underlying hus,run_underlying (F.ints dst _ hl),Result.andThen_ok,Conv.intToInt,Sem.run_pure]
   try rfl
  exact yN hrun (hn _ _ _ _ _ _ h m (Rp.rd (.int _ _ (zj1 _))))
 ·exact h.elim
end
section lists
variable {α β:Type}{R:α→β→Prop}
def spl(l:List α)(off:Nat)(new:List α):List α:=l.take off++new++l.drop (off+new.length)
theorem HJ{l:List α}{off:Nat}{new:List α}(h:off+new.length≤l.length):(spl l off new).length=l.length:=by
 unfold spl;simp only[List.length_append,List.length_take,List.length_drop];omega
theorem Mq{l:List α}{off:Nat}{new:List α}(h:off+new.length≤l.length)(j:Nat):(spl l off new)[j]? =if off≤j∧j<off+new.length then new[j-off]? else l[j]? :=by
 unfold spl
 by_cases h1:j<off
 ·rw[if_neg (by omega),List.append_assoc,List.getElem?_append_left (by simp;omega),List.getElem?_take,if_pos h1]
 ·by_cases h2:j<off+new.length
  ·rw[if_pos ⟨by omega,h2⟩,List.append_assoc,List.getElem?_append_right (by simp;omega),List.length_take,List.getElem?_append_left (by omega)]
   congr 1;omega
  ·rw[if_neg (by omega),List.getElem?_append_right (by simp;omega),List.getElem?_drop]
   congr 1;simp;omega
theorem xP.get_{xs:List α}{ys:List β}(h:xP R xs ys)(i:Nat)(a:α)(b:β)(ha:xs[i]? =some a)(hb:ys[i]? =some b):R a b:=by
 obtain⟨a',ha',hr⟩:=h.at hb;rw[ha]at ha';injection ha' with e;rw[e];exact hr
theorem xP.spl{l:List α}{l':List β}{off:Nat}{new:List α}{new':List β}(h:xP R l l')(hn:xP R new new')(hle:off+new'.length≤l'.length):xP R (spl l off new) (Go.Proofs.YtogdmcebojiojaaGreatDoor.spl l' off new'):=by
 have e1:=h.len;have e2:=hn.len;refine xP.of (by rw[HJ (by omega),HJ hle,e1]) λi a b ha hb=> ?_
 rw[Mq (by omega)]at ha
 rw[Mq hle]at hb
 rw[e2]at ha
 split at ha
 ·rename_i hc;rw[if_pos hc]at hb;exact hn.get_ _ a b ha hb
 ·rename_i hc;rw[if_neg hc]at hb;exact h.get_ _ a b ha hb
theorem xP.take:∀ {xs:List α} {ys:List β} (n:Nat),xP R xs ys→xP R (xs.take n) (ys.take n)
 |_,_,0,_=>by simp;exact .nil
 |_,_,n+1,.nil=> .nil
 |_,_,n+1,.cons h hs=> .cons h (hs.take n)
theorem xP.drop:∀ {xs:List α} {ys:List β} (n:Nat),xP R xs ys→xP R (xs.drop n) (ys.drop n)
 |_,_,0,h=>by simpa using h
 |_,_,n+1,.nil=> .nil
 |_,_,n+1,.cons h hs=>by simpa using hs.drop n
theorem RO{s:Nat}(hs:0<s):∀(css:List (List α)) (_:∀cs∈css,cs.length=s) (j:Nat),css.flatten[j]? =(css[j/s]?).bind λc=>c[j%s]?
 |[],_,j=>by simp
 |c::css,hl,j=>by
  have hc:c.length=s:=hl c (by simp)
  rw[List.flatten_cons]
  by_cases h:j<s
  ·rw[List.getElem?_append_left (by omega),Nat.div_eq_of_lt h,Nat.mod_eq_of_lt h];rfl
  ·rw[List.getElem?_append_right (by omega),RO hs css (λcs hcs=>hl cs (by simp[hcs])) (j-c.length),hc]
   have e1:j/s=(j-s)/s+1:=by rw[Nat.div_eq_sub_div hs (by omega)]
   have e2:(j-s)%s=j%s:=(Nat.mod_eq_sub_mod (by omega)).symm
   rw[e1,e2];rfl
end lists
section
variable {P:Program}{E:TE}{A:wA}{b0:Vy}{w w':World}{S S':Nat→Prop}{pl pl':Nat→Value}{N:Nat}{σ:St}{a:Act}{v:Value}{d:D}{o:Oper}{K:D→St→Prop}{next:Act→World→Prop}{Q:Exit→Act→World→Prop}
theorem XQ{vs:Array Value}{cs:List D}{R:Value→D→Prop}(h:xP R vs.toList cs)(i:Nat)(d:D)(hd:cs[i]? =some d):R (vs.getD i undef) d:=by
 obtain⟨u,hu,hr⟩:=h.at hd;rw[Array.getD_eq_getD_getElem?];rw[Array.getElem?_toList]at hu;rw[hu];exact hr
theorem Pn{vs:Array Value}{cs:List D}{R:Value→D→Prop}(hl:vs.size=cs.length)(h:∀i d,cs[i]? =some d→R (vs.getD i undef) d):xP R vs.toList cs:=
 xP.of (by simpa using hl) λi u d hu hd=>by
  have:=h i d hd;rw[Array.getElem?_toList]at hu
  rw[Array.getD_eq_getD_getElem?,hu]at this;exact this
theorem Mr(F:tT P E){T:TypeId}{ag:Bool}{zs:List D}(hl:zZ T E.zs=some (ag,zs)){u:Value}{new:List D}(hu:xP (Rc w S pl) u.cells.toList new)(hn:new.length=zs.length)(hc:new.all jT=true)
  {b off:Nat} {cur:Array Value} {E':TypeId} (hg:w.heap[b]? =some (.cells cur E' (0,0))) (hle:off+new.length≤cur.size):
  (storeVar T ⟨b,off,none⟩ u).run P w=.ok () (w.setRow b (spl cur.toList off u.cells.toList).toArray):=by
 obtain⟨i,z,ud,hi,hz,hsz,_⟩:=(F.zs T ag zs hl).ex;have hlen:=hu.len;have hs:(sizeOf T).run P w=.ok zs.length w:=by simp[sizeOf,typeInfo,hi,hsz]
 have h1:∀v∈u.cells.toList,v.oneCell'=true:=λv hv=>by
  obtain⟨j,hj,rfl⟩:=List.getElem_of_mem hv;have hj':j<new.length:=by omega
  exact(hu.get_ j _ new[j] (List.getElem?_eq_getElem hj) (List.getElem?_eq_getElem hj')).2 (List.all_eq_true.1 hc _ (List.getElem_mem hj'))
 have:=run_storeCells_at (P:=P) b off E' u.cells.toList 0 cur w hg (by omega) h1
 simp only[Nat.add_zero]at this
 simp only[storeVar,Sem.run_bind,hs,Result.andThen_ok];rw[if_neg (by simp only[Array.length_toList]at hlen;omega)]
 exact this
theorem Rc.mono{u:Value}(h:Rc w S pl u d)(hk:∀b,S b→w'.heap[b]? =w.heap[b]?)(hS:∀b,S b→S' b):Rc w' S' pl u d:=⟨h.1.mono hk hS λ_ _=>rfl,h.2⟩
theorem ziS{b:Bool}{vs:List Value}{new:List D}{K:List D→Prop}(hc:xP (Rc w S pl) vs new)(h:ze7 b new K):∃new,xP (Rc w S pl) vs new∧K new:=by
 unfold ze7 at h
 split at h
 ·split at h
  ·rename_i t xs
   cases hc with|cons h1 h2=>
   cases h2;obtain⟨A',c,e,hok⟩:=sO ((h1.1.flat (d:=.sl t xs) rfl).sl_inv);refine⟨_,.cons ⟨Rp.rd (.slN t xs false _ ((h1.1.flat (d:=.sl t xs) rfl).sl_inv) (λ_ hv=> ?_) λe=>by cases e),λ_=>by rw[e];rfl⟩ .nil,h.2⟩
   rw[e]at hv
   injection hv with _ hv
   have h3:=h.1;have:xs.length≠0:=λe=>h3 (List.length_eq_zero_iff.1 e)
   omega
  ·exact⟨_,hc,h⟩
 ·exact⟨_,hc,h⟩
theorem EU{ds:List D}{off:Nat}{new:List D}(hn:new.all jT=true)(h:XI (RI ds off new)=true):XI ds=true:=by
 unfold RI at h
 cases ds with
 |nil=>
  simp only[List.take_nil,List.nil_append,List.drop_nil,List.append_nil]at h
  cases new with
  |nil=>exact h
  |cons d r=>
   have h1:cA d=true:=h;have h2:jT d=true:=List.all_eq_true.1 hn d List.mem_cons_self;cases d<;>first|(cases h1;done)|(cases h2;done)
 |cons a r=>
  cases off with
  |zero=>
   simp only[List.take_zero,List.nil_append,Nat.zero_add]at h
   cases new with
   |nil=>exact h
   |cons d r=>
    have h1:cA d=true:=h;have h2:jT d=true:=List.all_eq_true.1 hn d List.mem_cons_self;cases d<;>first|(cases h1;done)|(cases h2;done)
  |succ off=>exact h
theorem zgI(F:tT P E)(m:rL P b0 N σ a w S pl){T:TypeId}{x y:Operand}(ho:o.op=.store T x y)(h:Bl E A T (σ.ev x) (σ.ev y) σ K)(hn:sX P b0 N o a K next):o.wp P a w next Q:=by
 have hx:=sF m x;have hy:=L9 (E:=E) T (sF m y)
 have run:∀b off w',a.eval x=.pointer (some ⟨b,off,none⟩)→(storeVar T ⟨b,off,none⟩ (a.eval y)).run P w=.ok () w'→(execOp a.eval o).run P w=.ok .skip w':=λb off w' e h=>by
  unfold execOp;rw[ho];simp only[Instr.storeAt,e,Instr.sureAddr,Sem.run_bind,Sem.run_pure,Result.andThen_ok,h]
 unfold Bl at h
 split at h
 ·rename_i ag zs hl
  split at h
  ·exact h.elim
  ·rename_i new hnew
   have hc:=Ka m hy hnew;obtain⟨new,hc,h⟩:=ziS hc h;cases hb:Nat.beq new.length zs.length&&new.all jT with
   |false=>rw[hb]at h;exact h.elim
   |true=>
    rw[hb,cond_true]at h
    simp only[Bool.and_eq_true]at hb
    have hlen:=yY.1 hb.1;split at h
    ·rename_i k off ex
     rw[ex]at hx
     obtain⟨b,hp,hv⟩:=hx;split at h
     ·rename_i ds hob
      cases hle:Nat.ble (off+new.length) ds.length with
      |false=>rw[hle]at h;exact h.elim
      |true=>
       rw[hle,cond_true]at h
       have hle:=Nat.le_of_ble_eq_true hle;obtain⟨b',vs,E',e1,e2,e3,e4,e5⟩:=m.hp k _ hob;rw[hp]at e1;injection e1 with e1;injection e1 with e1;injection e1 with e1;subst e1
       have hrun:=Mr F hl hc hlen hb.2 e2 (off:=off) (by omega)
       have hds:=Pn e3 e4;have hS:∀c,S c→(w.setRow b (spl vs.toList off (a.eval y).cells.toList).toArray).heap[c]? =w.heap[c]? :=λc hc=>setRow_other _ _ _ _ λe=>(m.priv k _ b hob (by rw[hp];rfl)).2.2 (e▸hc)
       refine zcl (run b off _ hv hrun) (hn _ _ _ _ _ _ h (m.setOb (b:=b) hob (by rw[hp];rfl) (λc hc=>setRow_other _ _ _ _ hc) (setRow_size _ _ _) ⟨rfl,rfl,rfl⟩ ?_) nW)
       have hspl:xP (Rd w S pl) (spl vs.toList off (a.eval y).cells.toList) (RI ds off new):=xP.spl hds (hc.imp λ_ _ h=>h.1) hle
       refine⟨b,_,E',hp,setRow_heap w b vs _ E' (0,0) e2,by simpa using hspl.len,λi d hd=> ?_,λhh=>by
        rw[show(RI ds off new).length=ds.length from by unfold RI;simp;omega]
        exact e5 (EU hb.2 hh)⟩
       exact(XQ (R:=Rd w S pl) (by simpa using hspl) i d hd).mono hS (λ_ h=>h) λ_ _=>rfl
     ·exact h.elim
    ·rename_i k sz i off ex
     rw[ex]at hx
     obtain⟨b,n,c,hp,hi,hv⟩:=hx;obtain⟨σ',new',S',hK,hS,m',hv'⟩:=pH h m;have hnew':=hv' _ (hc.imp λ_ _ h=>h.1)
     split at hK
     ·rename_i e t xs hob
      cases hz:Nat.beq sz t.size with
      |false=>rw[hz]at hK;exact hK.elim
      |true=>
       rw[hz,cond_true]at hK
       have hsz:=yY.1 hz;split at hK
       ·rename_i z hof
        cases hle:Nat.ble (off+new'.length) t.size with
        |false=>rw[hle]at hK;exact hK.elim
        |true=>
         rw[hle,cond_true]at hK
         have hle:=Nat.le_of_ble_eq_true hle;obtain⟨q0,css,q1,q2,q3,q4⟩:=m'.hp k _ hob;rcases q2.2 with⟨e0,_⟩|⟨g,cap,cur,ep,_,hg,hcap,hmax,hcur,htake⟩
         ·rw[hp]at e0;cases e0
         ·have ep':=ep
          rw[hp]at ep';injection ep' with ep1 ep2 ep3;injection ep1 with ep1;injection ep1 with ep1;subst ep1 ep2
          have hspos:0<t.size:=by rw[Ty.size_eq];exact vS.pos
          have hnl:new'.length=new.length:=by rw[←hnew'.len,hc.len]
          have hmul:i*t.size+t.size≤xs.length*t.size:=by
           have:=Nat.mul_le_mul_right t.size (Nat.succ_le_of_lt hi);rw[Nat.succ_mul]at this;exact this
          have hmul2:xs.length*t.size≤cap*t.size:=Nat.mul_le_mul_right _ hcap;have hrun:=Mr F hl hc hlen hb.2 hg (off:=i*sz+off) (by rw[hsz];omega)
          generalize hvl:(a.eval y).cells.toList=vl at hrun hnew' hc
          have hvlen:vl.length=new'.length:=hnew'.len;have hci:css[i]? =some (css[i]'(by omega)):=List.getElem?_eq_getElem (by omega)
          have hclen:(css[i]'(by omega)).length=t.size:=q3 _ (List.getElem_mem _)
          have hS':∀c,S' c→(w.setRow b (spl cur.toList (i*sz+off) vl).toArray).heap[c]? =w.heap[c]? :=λc hc=>setRow_other _ _ _ _ λe=>(m'.priv k _ b hob (by rw[hp];rfl)).2.2 (e▸hc)
          refine zcl (run b _ _ hv hrun) (hn _ _ _ _ _ _ hK (m'.setOb (b:=b) hob (by rw[hp];rfl) (λc hc=>setRow_other _ _ _ _ hc) (setRow_size _ _ _) ⟨rfl,rfl,rfl⟩ ?_) nW)
          have hold:xP (Rp w S') (css[i]'(by omega)) (cells t (xs.getD i t.dflt)):=by
           rw[List.getD_eq_getElem?_getD,List.getElem?_eq_getElem hi,Option.getD_some];exact mY t (q4 i xs[i] _ (List.getElem?_eq_getElem hi) hci)
          have hz':vS.rd w S' (spl (css[i]'(by omega)) off vl) z:=RH t hof (xP.spl hold hnew' (by rw[←hold.len,hclen];exact hle))
          have hclen1:(spl (css[i]'(by omega)) off vl).length=t.size:=by rw[HJ (by omega),hclen]
          have hlcss:∀cs∈css.set i (spl (css[i]'(by omega)) off vl),cs.length=t.size:=λcs hcs=>by
           rcases List.mem_or_eq_of_mem_set hcs with h|rfl
           ·exact q3 _ h
           ·exact hclen1
          refine⟨by simpa using q0,css.set i (spl (css[i]'(by omega)) off vl),by simpa using q1,⟨?_,.inr ⟨b,cap,(spl cur.toList (i*sz+off) vl).toArray,by rw[List.length_set];exact ep,Nat.zero_le _,setRow_heap w b cur _ e (0,0) hg,by simpa using hcap,hmax,?_,?_⟩⟩,hlcss,λj x cs hx hcs=> ?_⟩
          ·rw[WF _ hlcss];simp[q1]
          ·rw[List.size_toArray,HJ (by simp;rw[hsz];omega)];simpa using hcur
          ·apply List.ext_getElem?
           intro j;rw[List.length_set,List.getElem?_take]
           by_cases hj:j<xs.length*t.size
           ·rw[if_pos hj]
            simp only[List.toList_toArray];rw[Mq (by simp;rw[hsz];omega),RO hspos _ hlcss]
            have hcurj:cur.toList[j]? =(css[j/t.size]?).bind λc=>c[j%t.size]? :=by
             rw[←RO hspos css q3 j,←htake,List.getElem?_take,if_pos hj]
            have hdm:j/t.size*t.size+j%t.size=j:=by rw[Nat.mul_comm];exact Nat.div_add_mod _ _
            have hmod:j%t.size<t.size:=Nat.mod_lt _ hspos;generalize hq:j/t.size=q at*
            generalize hr:j%t.size=r at*
            by_cases hqi:q=i
            ·subst hqi
             rw[List.getElem?_set_self (by omega)]
             simp only[Option.bind_some];rw[Mq (by omega),hsz]
             by_cases hin:off≤r∧r<off+vl.length
             ·rw[if_pos (by omega),if_pos hin];congr 1;omega
             ·rw[if_neg (by omega),if_neg hin,hcurj,hci];rfl
            ·rw[List.getElem?_set_ne (Ne.symm hqi),hsz]
             rw[if_neg,hcurj];intro hin;rcases Nat.lt_or_ge q i with h1|h1
             ·have:=Nat.mul_le_mul_right t.size (Nat.succ_le_of_lt h1)
              rw[Nat.succ_mul]at this;omega
             ·have:=Nat.mul_le_mul_right t.size (Nat.succ_le_of_lt (Nat.lt_of_le_of_ne h1 (Ne.symm hqi)))
              rw[Nat.succ_mul]at this;omega
           ·rw[if_neg hj,List.getElem?_eq_none]
            rw[WF _ hlcss];simp[q1];omega
          ·by_cases hji:j=i
           ·subst hji
            rw[List.getElem?_set_self hi]at hx
            rw[List.getElem?_set_self (by omega)]at hcs
            injection hx with hx;injection hcs with hcs;subst hx hcs
            exact vS.mono hz' hS' λ_ h=>h
           ·rw[List.getElem?_set_ne (Ne.symm hji)]at hx hcs
            exact vS.mono (q4 j x cs hx hcs) hS' λ_ h=>h
       ·exact hK.elim
     ·exact hK.elim
    ·exact h.elim
 ·exact h.elim
end
end Go.Proofs.YtogdmcebojiojaaGreatDoor
