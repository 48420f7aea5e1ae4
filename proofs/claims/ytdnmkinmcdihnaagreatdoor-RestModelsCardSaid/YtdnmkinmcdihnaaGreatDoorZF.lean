/- Texts of this proof, one behind the other: nothing is handed in but what is proved here; no condition. -/
import Derived.Lib.ItoaNum
import Derived.Lib.Join
import Derived.Shelf.Strings.Builder1
import Derived.Lib.AppendIntMem
import Derived.Lib.ItoaLen
import Derived.Test.YtdnmkinmcdihnaaGreatDoorZE
set_option linter.unusedSectionVars false
set_option linter.unusedVariables false
set_option linter.unusedSimpArgs false
namespace Go.Proofs.YtdnmkinmcdihnaaGreatDoor
open Go.Proofs.Tryz
open Go.RowKit
variable[Lo]
theorem BI(a b:AcR):vL sW [.sl .lit a,.sl .lit b] (dB (decide (a=b))):=
 bC a b λok=>by
  rw[aS];refine zC (λe=> ?_) λe=> ?_
  ·have e:a.length≠b.length:=by simp at e;omega
   rw[Aao λh=>e (by rw[h])]
  have e:a.length=b.length:=by simp at e;omega
  have hz:=gA a b e;refine zc4 (I:=λn v=>qG a b _ n v) (a.zip b) (λx=> !decide (x.1=x.2)) ?_ (X:=D.bool false=dB (decide (a=b))) (Y:=D.bool true=dB (decide (a=b))) ?_ (λn k h hX hn=> ?_) λn hY=> ?_
  ·have:a.length<=9223372036854775807:=dW (Qm ok)
   rw[AaA];omega
  ·rw[hz];cases decide (a=b)<;>rfl
  ·rw[AaA]at h
   have h1:k<a.length:=by omega
   have h2:k<b.length:=by omega
   rw[pC,yD h1,yA (t:=.lit) h1,yA (t:=.lit) h2];rw[AaL]at hX hn
   exact⟨zI h1,zI h2,zC (λe=>hX e) λe=>hn e⟩
  ·have hl:(a.zip b).length=a.length:=by rw[AaA];omega
   rw[hl,pC,zY];exact hY
theorem zat(a b:AcQ):vL tO [dS a,dS b] (dB (decide (a=b))):=
 aR a b λok=>by
  have hl:a.length<=9223372036854775807:=dW (t:=.list .int) (Qm ok);rw[ZH];refine zC (λe=> ?_) λe=> ?_
  ·rw[Aao (p:=a=b) λh=>by subst h;simp at e]
  have e:a.length=b.length:=by simp at e;omega
  have hz:(a.zip b).length=a.length:=by rw[AaA];omega
  refine zc4 (I:=λn v=>pB a b _ n v) (a.zip b) (λx=> !decide (x.1=x.2)) (by omega) (X:=dB false=dB (decide (a=b))) (Y:=dB true=dB (decide (a=b))) (by rw[gA a b e];cases decide (a=b)<;>rfl) (λn k h hX hn=> ?_) λn hY=> ?_
  ·have hk:k<a.length:=by omega
   rw[AaL]at hX hn
   rw[pR,yD hk,yA (t:=.list .int) hk,yA (t:=.list .int) (show k<b.length by omega)]
   exact⟨zI hk,zI (by omega),zG (tQ _ _) (zC hX hn)⟩
  ·rw[hz,pR,zY];exact hY
theorem zpf{a b:Int}(e:(!decide (a=b))=true):a≠b:=by simpa using e
theorem zf8(a b:zF):vL kG [dC a,dC b] (dB (decide (a=b))):=
 RS a b λok=>by
  rw[QU];have no:∀ {p:Prop},¬p->(a=b->p)->dB false=dB (decide (a=b)):=λh f=>by rw[Aao λe=>h (f e)]
  refine zC (λe1=> ?_) λe1=>no (Aah e1) λh=>by rw[h]
  refine zG (t:=.bool) (tQ _ _) (zC (λe2=> ?_) λe2=>no (Aah e2) λh=>by rw[h])
  refine zG (t:=.bool) (tQ _ _) (zC (λe3=> ?_) λe3=>no (Aah e3) λh=>by rw[h])
  refine zC (λe4=> ?_) λe4=>no (Aah e4) λh=>by rw[h]
  refine zG (t:=.bool) (zat _ _) (zC (λe5=> ?_) λe5=>no (Aah e5) λh=>by rw[h])
  refine zG (t:=.bool) (BI _ _) ?_;have h1:=BY e1;have h2:=BY e2;have h3:=BY e3;have h4:=BY e4;have h5:=BY e5;cases a;cases b;simp only at h1 h2 h3 h4 h5
  subst h1 h2 h3 h4 h5;simp
theorem Ya(a b:zE):vL rM [dM a,dM b] (dB (decide (a=b))):=
 U8 a b λok=>by
  have hm:=Qm ok;have hl:a.vars.length<=9223372036854775807:=zoo (t:=.var) (okA (i:=0) hm rfl);have hl2:a.cons.length<=9223372036854775807:=zoo (t:=.con) (okA (i:=1) hm rfl);rw[Sl];have no:∀ {p:Prop},¬p->(a=b->p)->dB false=dB (decide (a=b)):=λh f=>by rw[Aao λe=>h (f e)]
  refine zC (λe=>no (p:=a.vars.length=b.vars.length) (by simp at e;omega) λh=>by rw[h]) λe1=> ?_
  refine zC (λe=>no (p:=a.cons.length=b.cons.length) (by simp at e;omega) λh=>by rw[h]) λe2=> ?_
  refine zC (λe=>no (p:=a.goal=b.goal) (zpf e) λh=>by rw[h]) λe3=> ?_
  refine zC (λe=>no (p:=a.var=b.var) (zpf e) λh=>by rw[h]) λe4=> ?_
  have e1:a.vars.length=b.vars.length:=by simp at e1;omega
  have e2:a.cons.length=b.cons.length:=by simp at e2;omega
  have e3:a.goal=b.goal:=by simpa using e3
  have e4:a.var=b.var:=by simpa using e4
  have hz:(a.vars.zip b.vars).length=a.vars.length:=by rw[AaA];omega
  have hz2:(a.cons.zip b.cons).length=a.cons.length:=by rw[AaA];omega
  refine zsX (I:=λn v=>nT a b _ n v) (a.vars.zip b.vars) (λx=> !decide (x.1=x.2)) (by omega) (X:=dB false=dB (decide (a=b))) (λh=> ?_) (λn k h hX hn=> ?_) λhv n=> ?_
  ·rw[gA _ _ e1]at h
   exact no (p:=a.vars=b.vars) (by simpa using h) λh=>by rw[h]
  ·have hk:k<a.vars.length:=by omega
   rw[AaL]at hX hn
   rw[dY,yD hk,yA (t:=.var) hk,yA (t:=.var) (show k<b.vars.length by omega)]
   exact⟨zI hk,zI (by omega),zC hX hn⟩
  ·rw[gA _ _ e1]at hv
   have hv:a.vars=b.vars:=by simpa using hv
   rw[hz,dY,zY];refine zsX (I:=λn v=>nS a b _ n v) (a.cons.zip b.cons) (λx=> !decide (x.1=x.2)) (by omega) (X:=dB false=dB (decide (a=b))) (λh=> ?_) (λn k h hX hn=> ?_) λhc n=> ?_
   ·rw[gA _ _ e2]at h
    exact no (p:=a.cons=b.cons) (by simpa using h) λh=>by rw[h]
   ·have hk:k<a.cons.length:=by omega
    rw[AaL]at hX hn
    rw[dX,yD hk,yA (t:=.con) hk,yA (t:=.con) (show k<b.cons.length by omega)]
    exact⟨zI hk,zI (by omega),zG (t:=.bool) (zf8 _ _) (zC hX hn)⟩
   ·rw[gA _ _ e2]at hc
    have hc:a.cons=b.cons:=by simpa using hc
    rw[hz2,dX,zY];have:a=b:=by cases a;cases b;simp_all
    rw[Aaf this]
end Go.Proofs.YtdnmkinmcdihnaaGreatDoor
namespace Go.Proofs.YtdnmkinmcdihnaaGreatDoor
open Go.Proofs.Tryz
open Go.RowKit
variable[Lo]
def zic(l:AcX)(en:Int):zE×Int×Int:=match YI yG tE l with
 | .ok (m,_) _=>(m,0,0)
 | .err j e=>(HD,oR l en j,e)
theorem Av.later{w w':World}{S:Nat->Prop}{pl:Nat->Value}{h:List (Nat×yE)}(hh:Av w S pl h)(hS:∀b,S b->b<w.heap.size)(hb:Below w.heap.size w w'):Av w' S pl h where
 ok:=λk o hk=>(hh.ok k o hk).mono (λb hs=>hb.block b (hS b hs)) (λb hb'=>hb.block b (hh.priv k o b hk hb').1) (λ_ h=>h) λ_ _ _ _=>rfl
 priv:=λk o b hk hb'=>⟨Aaz (hh.priv k o b hk hb').1 hb.size,(hh.priv k o b hk hb').2⟩
 inj:=hh.inj
theorem zpg{P:AcO}{w:World}{S:Nat->Prop}{pl:Nat->Value}{vs:Array Value}(hsz:vs.size=1)(hv:Rd w S pl (vs.getD 0 undef) (Ac3)):∃b,pl 1000=kA b/\vs= #[kA b]:=by
 obtain⟨b,e1,e2⟩:=hv;refine⟨b,e1,?_⟩;apply Array.ext
 ·simpa using hsz
 ·intro i h1 h2
  have:i=0:=by omega
  subst this;rw[Aaj,AaW h1]at e2
  simpa using e2
theorem zbN{w:World}{S:Nat->Prop}{pl:Nat->Value}{p:Value}{e:AcN}{t:Ty}{xs:List t.den}(h:jF w S pl p (.row e t xs)):∃A c,p=.slice A xs.length c:=let⟨A,c,h1,_⟩:=sM (Og h);⟨A,c,h1⟩
theorem zf9{w w':World}{S S':Nat->Prop}{v:Value}{t:Ty}{xs:List t.den}(h:fE w (Eb t w S) v xs)(hS:∀b,S b->S' b)(hk:∀b,S b->w'.heap[b]? =w.heap[b]?):fE w' (Eb t w' S') v xs:=fE.mono h (λc hc=>hk c (VR hc)) λc hc=>WJ hS hk hc
theorem zid{l:AcX}{en:Int}(hd:Ze l){w w3:World}{S:Nat->Prop}{pl:Nat->Value}{b:Nat}(hS:∀b,S b->b<w.heap.size)(e1:pl 1000=kA b)(hh:Av w S pl (Yg l en 0 0 [] [] [] 0))(hg:Ee prog w (o9 pl (Yg l en 0 0 [] [] [] 0)))(hb:Below w.heap.size w w3):
  Calls prog 79 #[kA b] w3 λx w'=>rE w3.heap.size (o9 pl (Yg l en 0 0 [] [] [] 0)) w3 w'/\match YI yG tE l with
   | .ok (m,ns) j=>x=.returned (.tuple #[])/\∃S' pl',Av w' S' pl' (Yg l en m.goal m.var m.vars m.cons ns j)/\(∀b,S' b->b<w'.heap.size)/\(∀c,S' c->S c\/o9 pl (Yg l en 0 0 [] [] [] 0) c\/w3.heap.size<=c)/\pl' 1000=kA b/\(∀c,o9 pl' (Yg l en m.goal m.var m.vars m.cons ns j) c->o9 pl (Yg l en 0 0 [] [] [] 0) c\/w3.heap.size<=c)
   | .err j e=>x=.panicked [{v:=BF (oR l en j) e,recovered:=false}]:=by
 have h:=zas (l:=l) (en:=en) hd;have hg3:Ee prog w3 (o9 pl (Yg l en 0 0 [] [] [] 0)):=hg.step (.of hb) λ_ h=> .inl h
 have hS3:∀b,S b->b<w3.heap.size:=λb h=>Aaz (hS b h) hb.size
 have ha:∀i d,[D.ptr 1000 0][i]? =some d->Rd w3 S pl ((#[kA b]:Array Value).getD i undef) d:=λi d hi=>by
  match i,hi with
  |0,hi=>injection hi with hi;subst hi;exact⟨b,e1,rfl⟩
 cases hm:YI yG tE l with
 |ok x j=>
  obtain⟨m,ns⟩:=x;rw[hm]at h
  refine(h w3 S #[kA b] pl hS3 rfl ha (hh.later hS hb) hg3).mono λx w' ⟨v,S',pl',q1,q2,q3,q4,q5,q6,q7,q8⟩=>⟨q8,?_,S',pl',q3,q4,q5,(q7 1000 rfl).trans e1,q6⟩
  obtain⟨vs,rfl,hz,_⟩:=(q2.flat (d:=.tup []) rfl).tup_inv;rw[q1];have:vs= #[]:=AcH hz;rw[this]
 |err j e=>
  rw[hm]at h
  exact(h w3 S #[kA b] pl hS3 rfl ha (hh.later hS hb) hg3).mono λx w' ⟨q1,q2⟩=>⟨q2,q1⟩
theorem kL{w:World}{b:Nat}{vs:Array Value}{T:AcN}(h:w.heap[b]? =some (.cells vs T (0,0))){i:Nat}(hi:i<vs.size):w.cell? ⟨b,i,none⟩=some (vs.getD i undef):=by
 rw[cell_of_row w b i vs T (0,0) h];simp[Aaj,hi]
theorem Mn{w:World}{p q r:Nat}{tmps:Array Value}{vs:Array Value}{Tp Tq Tr:AcN}{a e:Int}(t2:tmps.getD 2 undef=kA p)(t3:tmps.getD 3 undef=kA q)(t4:tmps.getD 4 undef=kA r)
  (hp:w.heap[p]? =some (.cells vs Tp (0,0))) (hz:vs.size=4) (hq:w.heap[q]? =some (.cells #[.int .i64 a] Tq (0,0))) (hr:w.heap[r]? =some (.cells #[.int .i64 e] Tr (0,0))):
  (results f40 tmps).run prog w=.ok (.tuple #[.agg #[vs.getD 0 undef,vs.getD 1 undef,vs.getD 2 undef,vs.getD 3 undef],.int .i64 a,.int .i64 e]) w:=by
 have c0:=kL hp (i:=0) (by omega)
 have c1:=kL hp (i:=1) (by omega)
 have c2:=kL hp (i:=2) (by omega)
 have c3:=kL hp (i:=3) (by omega)
 have c4:=kL hq (i:=0) (Nat.zero_lt_one);have c5:=kL hr (i:=0) (Nat.zero_lt_one);simp only[Aaj]at t2 t3 t4
 simp[results,results40,go_sem,t2,t3,t4,c0,c1,c2,c3,c4,c5]
theorem BJ(w:World)(o:Obj):(w.alloc o).heap[w.heap.size]? =some o:=by unfold World.alloc;simp
theorem HG{w:World}{o:Obj}{b:Nat}(h:b<w.heap.size):(w.alloc o).heap[b]? =w.heap[b]? :=by
 unfold World.alloc;simp only[Array.getElem?_push];rw[An (by omega)]
theorem HH(w:World)(o1 o2 o3:Obj):(((w.alloc o1).alloc o2).alloc o3).heap[w.heap.size]? =some o1/\(((w.alloc o1).alloc o2).alloc o3).heap[w.heap.size+1]? =some o2/\(((w.alloc o1).alloc o2).alloc o3).heap[w.heap.size+1+1]? =some o3:=by
 have h1:(w.alloc o1).heap.size=w.heap.size+1:=by simp
 have h2:((w.alloc o1).alloc o2).heap.size=w.heap.size+1+1:=by simp
 refine⟨?_,?_,?_⟩
 ·rw[HG (by omega),HG (by omega)];exact BJ _ _
 ·rw[HG (by omega),<-h1];exact BJ _ _
 ·rw[<-h2];exact BJ _ _
theorem zga{l:AcX}{en:Int}{w w4:World}{S S':Nat->Prop}{pl pl':Nat->Value}{b j:Nat}{m:zE}{ns:List (AcL×Int)}(hh:Av w S pl (Yg l en 0 0 [] [] [] 0))(hb:rE (((w.alloc (.cells #[.slice none 0 0,.slice none 0 0,.int .i64 0,.int .i64 0] 25)).alloc (.cells #[.int .i64 0] 3)).alloc (.cells #[.int .i64 0] 32)).heap.size (o9 pl (Yg l en 0 0 [] [] [] 0)) (((w.alloc (.cells #[.slice none 0 0,.slice none 0 0,.int .i64 0,.int .i64 0] 25)).alloc (.cells #[.int .i64 0] 3)).alloc (.cells #[.int .i64 0] 32)) w4)
  (h4:Av w4 S' pl' (Yg l en m.goal m.var m.vars m.cons ns j)) (hpl:pl' 1000=kA b):∃A1 n1 c1 A2 n2 c2,pl' 2000=.slice A1 n1 c1/\pl' 2001=.slice A2 n2 c2/\w4.cell? ⟨b,3,none⟩=some (.slice A1 n1 c1)/\w4.cell? ⟨b,4,none⟩=some (.slice A2 n2 c2)/\w4.cell? ⟨b,5,none⟩=some (.int .i64 m.goal)/\w4.cell? ⟨b,6,none⟩=some (.int .i64 m.var)/\xE m.goal/\xE m.var/\
   w4.heap[w.heap.size]? =some (.cells #[.slice none 0 0,.slice none 0 0,.int .i64 0,.int .i64 0] 25 (0,0))/\w4.heap[w.heap.size+1]? =some (.cells #[.int .i64 0] 3 (0,0))/\w4.heap[w.heap.size+1+1]? =some (.cells #[.int .i64 0] 32 (0,0))/\
   w4.cell? ⟨w.heap.size,0,none⟩=some (.slice none 0 0)/\w4.cell? ⟨w.heap.size,1,none⟩=some (.slice none 0 0)/\w4.cell? ⟨w.heap.size,2,none⟩=some (.int .i64 0)/\w4.cell? ⟨w.heap.size,3,none⟩=some (.int .i64 0)/\w4.cell? ⟨w.heap.size+1,0,none⟩=some (.int .i64 0)/\w4.cell? ⟨w.heap.size+1+1,0,none⟩=some (.int .i64 0)/\
   w4.frozen? ⟨w.heap.size,0,none⟩=false/\w4.frozen? ⟨w.heap.size,1,none⟩=false/\w4.frozen? ⟨w.heap.size,2,none⟩=false/\w4.frozen? ⟨w.heap.size,3,none⟩=false/\w4.frozen? ⟨w.heap.size+1,0,none⟩=false/\w4.frozen? ⟨w.heap.size+1+1,0,none⟩=false/\
   b≠w.heap.size/\b≠w.heap.size+1/\b≠w.heap.size+1+1/\w.heap.size+1+1+1<=w4.heap.size:=by
 obtain⟨b',vs,T8,eb,m8,z8,r8,_⟩:=h4.ok 1000 _ rfl;rw[hpl]at eb;injection eb with eb;injection eb with eb;injection eb with eb;subst eb
 have z8:vs.size=8:=z8;have hs:(((w.alloc (.cells #[.slice none 0 0,.slice none 0 0,.int .i64 0,.int .i64 0] 25)).alloc (.cells #[.int .i64 0] 3)).alloc (.cells #[.int .i64 0] 32)).heap.size=w.heap.size+1+1+1:=by simp
 have hno:∀c,w.heap.size<=c->¬o9 pl (Yg l en 0 0 [] [] [] 0) c:=λc hc ⟨k,o,h1,h2⟩=>by have:=(hh.priv k o c h1 h2).1;omega
 have hsz3:w.heap.size+1+1+1<=w4.heap.size:=by have:=hb.size;omega
 have hp4:w4.heap[w.heap.size]? =some (.cells #[.slice none 0 0,.slice none 0 0,.int .i64 0,.int .i64 0] 25 (0,0)):=by rw[hb.block _ (by omega) (hno _ (by omega))];exact(HH _ _ _ _).1
 have RQ:w4.heap[w.heap.size+1]? =some (.cells #[.int .i64 0] 3 (0,0)):=by rw[hb.block _ (by omega) (hno _ (by omega))];exact(HH _ _ _ _).2.1
 have hr4:w4.heap[w.heap.size+1+1]? =some (.cells #[.int .i64 0] 32 (0,0)):=by rw[hb.block _ (by omega) (hno _ (by omega))];exact(HH _ _ _ _).2.2
 obtain⟨A1,c1,e2⟩:=zbN (h4.ok 2000 _ rfl);obtain⟨A2,c2,e3⟩:=zbN (h4.ok 2001 _ rfl);have d3:vs.getD 3 undef=pl' 2000:=r8 3 _ rfl;have d4:vs.getD 4 undef=pl' 2001:=r8 4 _ rfl;obtain⟨d5,k5⟩:=((r8 5 _ rfl).flat (d:=dI m.goal) rfl).int_inv;obtain⟨d6,k6⟩:=((r8 6 _ rfl).flat (d:=dI m.var) rfl).int_inv
 refine⟨_,_,_,_,_,_,e2,e3,by rw[<-e2,<-d3];exact kL m8 (by omega),by rw[<-e3,<-d4];exact kL m8 (by omega),by rw[<-d5];exact kL m8 (by omega),by rw[<-d6];exact kL m8 (by omega),k5,k6,hp4,RQ,hr4,kL hp4 (i:=0) (by simp),kL hp4 (i:=1) (by simp),kL hp4 (i:=2) (by simp),kL hp4 (i:=3) (by simp),kL RQ (i:=0) (by simp),kL hr4 (i:=0) (by simp),
  frozen_of_row _ _ _ _ _ hp4,frozen_of_row _ _ _ _ _ hp4,frozen_of_row _ _ _ _ _ hp4,frozen_of_row _ _ _ _ _ hp4,frozen_of_row _ _ _ _ _ RQ,frozen_of_row _ _ _ _ _ hr4,?_,?_,?_,hsz3⟩
 ·rintro rfl;rw[m8]at hp4;injection hp4 with hp4;injection hp4 with hp4;rw[hp4]at z8;cases z8
 ·rintro rfl;rw[m8]at RQ;injection RQ with hp4;injection hp4 with hp4;rw[hp4]at z8;cases z8
 ·rintro rfl;rw[m8]at hr4;injection hr4 with hp4;injection hp4 with hp4;rw[hp4]at z8;cases z8
theorem ztr{w:World}{p:Nat}{Tp:AcN}{v0 v1 v2 v3 o0 o1 o2 o3:Value}(hp:wR w p Tp #[o0,o1,o2,o3]):wR ((((w.setCell ⟨p,0,none⟩ v0).setCell ⟨p,1,none⟩ v1).setCell ⟨p,2,none⟩ v2).setCell ⟨p,3,none⟩ v3) p Tp #[v0,v1,v2,v3]:=by
 have h0:=hp.set_ 0 v0;have h1:=h0.set_ 1 v1;have h2:=h1.set_ 2 v2;have h3:=h2.set_ 3 v3;have e:((((#[o0,o1,o2,o3]:Array Value).setIfInBounds 0 v0).setIfInBounds 1 v1).setIfInBounds 2 v2).setIfInBounds 3 v3= #[v0,v1,v2,v3]:=by simp
 rw[e]at h3
 exact h3
theorem zgb{w:World}{p:Addr}{v:Value}:(w.setCell p v).os=w.os/\(w.setCell p v).tape=w.tape/\(w.setCell p v).output=w.output/\(w.setCell p v).heap.size=w.heap.size:=⟨rfl,rfl,rfl,by simp[World.setCell]⟩
theorem zph{w:World}{p:Nat}{Tp:AcN}{v o:Value}(hp:wR w p Tp #[o]):wR (w.setCell ⟨p,0,none⟩ v) p Tp #[v]:=by
 have h0:=hp.set_ 0 v;have e:(#[o]:Array Value).setIfInBounds 0 v= #[v]:=by simp
 rw[e]at h0
 exact h0
theorem zrO{w:World}{p q r:Nat}{Tp Tq Tr:AcN}{v0 v1 v2 v3:Value}{o0 o1 o2 o3 o4 o5 n4 n5:Value}(hp:wR w p Tp #[o0,o1,o2,o3])(hq:wR w q Tq #[o4])(hr:wR w r Tr #[o5])(hpq:p≠q)(hpr:p≠r)(hqr:q≠r){w5:World}
  (h5:(((((w.setCell ⟨p,0,none⟩ v0).setCell ⟨p,1,none⟩ v1).setCell ⟨p,2,none⟩ v2).setCell ⟨p,3,none⟩ v3).setCell ⟨q,0,none⟩ n4).setCell ⟨r,0,none⟩ n5=w5):
  wR w5 p Tp #[v0,v1,v2,v3]/\wR w5 q Tq #[n4]/\wR w5 r Tr #[n5]/\(∀b,b≠p->b≠q->b≠r->w5.heap[b]? =w.heap[b]?)/\w5.os=w.os/\w5.tape=w.tape/\w5.output=w.output/\w5.heap.size=w.heap.size:=by
 have hq':q≠p:=hpq.symm;have hr':r≠p:=hpr.symm;have hr2:r≠q:=hqr.symm;have b1:=ztr (v0:=v0) (v1:=v1) (v2:=v2) (v3:=v3) hp;have c1:wR ((((w.setCell ⟨p,0,none⟩ v0).setCell ⟨p,1,none⟩ v1).setCell ⟨p,2,none⟩ v2).setCell ⟨p,3,none⟩ v3) q Tq #[o4]:=(((hq.far hq' v0).far hq' v1).far hq' v2).far hq' v3;have d1:wR ((((w.setCell ⟨p,0,none⟩ v0).setCell ⟨p,1,none⟩ v1).setCell ⟨p,2,none⟩ v2).setCell ⟨p,3,none⟩ v3) r Tr #[o5]:=(((hr.far hr' v0).far hr' v1).far hr' v2).far hr' v3
 have f1:∀b,b≠p->((((w.setCell ⟨p,0,none⟩ v0).setCell ⟨p,1,none⟩ v1).setCell ⟨p,2,none⟩ v2).setCell ⟨p,3,none⟩ v3).heap[b]? =w.heap[b]? :=λb h1=>by
  rw[Below.heap_setCell _ _ _ _ h1,Below.heap_setCell _ _ _ _ h1,Below.heap_setCell _ _ _ _ h1,Below.heap_setCell _ _ _ _ h1]
 have s1:((((w.setCell ⟨p,0,none⟩ v0).setCell ⟨p,1,none⟩ v1).setCell ⟨p,2,none⟩ v2).setCell ⟨p,3,none⟩ v3).os=w.os/\((((w.setCell ⟨p,0,none⟩ v0).setCell ⟨p,1,none⟩ v1).setCell ⟨p,2,none⟩ v2).setCell ⟨p,3,none⟩ v3).tape=w.tape/\((((w.setCell ⟨p,0,none⟩ v0).setCell ⟨p,1,none⟩ v1).setCell ⟨p,2,none⟩ v2).setCell ⟨p,3,none⟩ v3).output=w.output/\((((w.setCell ⟨p,0,none⟩ v0).setCell ⟨p,1,none⟩ v1).setCell ⟨p,2,none⟩ v2).setCell ⟨p,3,none⟩ v3).heap.size=w.heap.size:=by
  simp only[zgb,Abt]
 generalize((((w.setCell ⟨p,0,none⟩ v0).setCell ⟨p,1,none⟩ v1).setCell ⟨p,2,none⟩ v2).setCell ⟨p,3,none⟩ v3)=w1 at h5 b1 c1 d1 f1 s1
 subst h5;have b2:=(b1.far (p:=⟨q,0,none⟩) hpq n4).far (p:=⟨r,0,none⟩) hpr n5;have c2:=(zph (v:=n4) c1).far (p:=⟨r,0,none⟩) hqr n5;have d2:=zph (v:=n5) (d1.far (p:=⟨q,0,none⟩) hr2 n4);refine⟨b2,c2,d2,λb h1 h2 h3=> ?_,?_⟩
 ·rw[Below.heap_setCell _ _ _ _ h3,Below.heap_setCell _ _ _ _ h2,f1 b h1]
 ·simp only[zgb]
  exact s1
set_option maxRecDepth 100000 in
theorem zau{l:AcX}{en:Int}(hd:Ze l):xT Sj [Ac3] (Yg l en 0 0 [] [] [] 0) (dR (zic l en)) []:=by
 intro w S vs pl hS hsz hv hh hg;obtain⟨b,e1,rfl⟩:=zpg (P:=prog) hsz (hv 0 _ rfl);have HC:=Lib.hid (λ(w3:World) (hb:Below w.heap.size w w3)=>zid hd hS e1 hh hg hb)
 have hmf:∀(fn:Fn) (first cap:Array Value) (w:World),(Instr.makeFunc fn first cap).run prog w=.ok (.func fn first cap) w:=λ_ _ _ _=>rfl
 have hi:=zpe hh;have he:=λj e=>Lv (l:=l) (j:=j) (e:=e)
 clear hv hsz;unfold zic;cases hm:YI yG tE l with
 |err j e=>
  have he:=he j e hm;have hi:=hi j;rw[hm]at HC
  go_enter_defers func40,ntmps40
  go_wp2_with (go_at_call 79;refine(HC.out _ ?_).mono ?_)
  ·(repeat'(first|(with_reducible exact Below.refl _ _)|(with_reducible assumption)|(with_reducible refine vD ?_ _)|(with_reducible refine Below.alloc ?_ ?_ _)|(with_reducible refine Below.setCell ?_ ?_ _)|(with_reducible refine Below.drew ?_)|go_size))
  ·rintro e' w4 hb rfl
   have hsz3:w.heap.size+1+1+1<=w4.heap.size:=by have:=hb.size;simpa using this
   have hno:∀c,w.heap.size<=c->¬o9 pl (Yg l en 0 0 [] [] [] 0) c:=λc hc ⟨k,o,h1,h2⟩=>by have:=(hh.priv k o c h1 h2).1;omega
   have hp4:w4.heap[w.heap.size]? =some (.cells #[.slice none 0 0,.slice none 0 0,.int .i64 0,.int .i64 0] 25 (0,0)):=by
    rw[hb.block _ (by omega) (hno _ (by omega))];exact(HH _ _ _ _).1
   have RQ:w4.heap[w.heap.size+1]? =some (.cells #[.int .i64 0] 3 (0,0)):=by
    rw[hb.block _ (by omega) (hno _ (by omega))];exact(HH _ _ _ _).2.1
   have hr4:w4.heap[w.heap.size+1+1]? =some (.cells #[.int .i64 0] 32 (0,0)):=by
    rw[hb.block _ (by omega) (hno _ (by omega))];exact(HH _ _ _ _).2.2
   have hw4:rE w.heap.size (o9 pl (Yg l en 0 0 [] [] [] 0)) w w4:=by
    refine rE.trans (.of ?_) ⟨hb.os,hb.tape,hb.output,hb.size,λk hk=>hb.block k (by omega)⟩
    (repeat'(first|(with_reducible exact Below.refl _ _)|(with_reducible assumption)|(with_reducible refine vD ?_ _)|(with_reducible refine Below.alloc ?_ ?_ _)|(with_reducible refine Below.setCell ?_ ?_ _)|(with_reducible refine Below.drew ?_)|go_size))
   have hg4:Ee prog w4 (λc=>c=w.heap.size\/c=w.heap.size+1\/c=w.heap.size+1+1):=hg.step hw4 λc h=> .inr (by omega)
   show Leaves _ _ _ _ _ _ _
   refine leaves_cons (f:=78) (args:= #[kA w.heap.size,kA (w.heap.size+1),kA (w.heap.size+1+1)]) (by simp) (by simp[go_sem]) ?_
   refine(BG hi (by rcases he with rfl|rfl<;>(unfold xE;omega)) _ _ _ w4 hp4 RQ hr4 (by omega) (by omega) (by omega) hg4).mono ?_
   rintro en' u' w5 ⟨rfl,rfl,hc⟩;obtain⟨vs,Tp,m1,m2,m3⟩:=hc.m;obtain⟨Tq,a1⟩:=hc.at_;obtain⟨Tr,r1⟩:=hc.e;refine⟨_,Mn rfl rfl rfl m1 m2 a1 r1,?_⟩;refine⟨_,λb=>w4.heap.size<=b/\b<w5.heap.size,pl,rfl,Rp.rd (.tup _ _ rfl λi d hd=> ?_),⟨λk o h=>(by cases h),λk o b h=>(by cases h),λk k' o o' b h=>(by cases h)⟩,λb h=>h.2,λb h=> .inr (.inr (by omega)),λb ⟨k,o,h,_⟩=>(by cases h),λ_ _=>rfl,?_⟩
   ·match i,hd with
    |0,hd=>
     injection hd with hd;subst hd
     refine .agg _ _ rfl λi d hd=> ?_
     have h:=m3 i d hd
     match i,hd with
     |0,hd=>exact h
     |1,hd=>exact h
     |2,hd=>exact h
     |3,hd=>exact h
    |1,hd=>injection hd with hd;subst hd;exact .int_mk hi
    |2,hd=>injection hd with hd;subst hd;exact .int_mk (by rcases he with rfl|rfl<;>(unfold xE;omega))
   ·exact hw4.trans ⟨hc.below.os,hc.below.tape,hc.below.output,hc.below.size,λk hk hn=>hc.below.block k (by omega) (by omega)⟩
 |ok x j=>
  obtain⟨m,ns⟩:=x;rw[hm]at HC
  go_enter_defers func40,ntmps40
  go_wp2_with (go_at_call 79;refine(HC.out _ (by(repeat'(first|(with_reducible exact Below.refl _ _)|(with_reducible assumption)|(with_reducible refine vD ?_ _)|(with_reducible refine Below.alloc ?_ ?_ _)|(with_reducible refine Below.setCell ?_ ?_ _)|(with_reducible refine Below.drew ?_)|go_size)))).mono ?_;rintro _ w4 ⟨hb,rfl,S',pl',h4,hS4,hsrc,hpl,hblk⟩;obtain⟨A1,n1,k1,A2,n2,k2,e2,e3,c3,c4,c5,c6,g1,g2,hp4,RQ,hr4,p0,p1,p2,p3,q0,r0,fp,fp1,fp2,fp3,fq,fr,nb1,nb2,nb3,hsz3⟩:=zga hh hb h4 hpl)
  generalize hw5:World.setCell _ _ _=w5;obtain⟨bp,bq,br,old,os5,ta5,ou5,sz5⟩:=zrO hp4 RQ hr4 (by omega) (by omega) (by omega) hw5
  clear hw5 p0 p1 p2 p3 q0 r0 fp fp1 fp2 fp3 fq fr c3 c4 c5 c6;have hno:∀c,o9 pl (Yg l en 0 0 [] [] [] 0) c->c<w.heap.size:=λc ⟨k,o,h1,h2⟩=>(hh.priv k o c h1 h2).1
  have hs3:(((w.alloc (.cells #[.slice none 0 0,.slice none 0 0,.int .i64 0,.int .i64 0] 25)).alloc (.cells #[.int .i64 0] 3)).alloc (.cells #[.int .i64 0] 32)).heap.size=w.heap.size+1+1+1:=by simp
  have hw4:rE w.heap.size (o9 pl (Yg l en 0 0 [] [] [] 0)) w w4:=by
   refine rE.trans (.of ?_) ⟨hb.os,hb.tape,hb.output,hb.size,λk hk=>hb.block k (by omega)⟩
   (repeat'(first|(with_reducible exact Below.refl _ _)|(with_reducible assumption)|(with_reducible refine vD ?_ _)|(with_reducible refine Below.alloc ?_ ?_ _)|(with_reducible refine Below.setCell ?_ ?_ _)|(with_reducible refine Below.drew ?_)|go_size))
  show Leaves _ _ _ _ _ _ _
  refine leaves_cons (f:=78) (args:= #[kA w.heap.size,kA (w.heap.size+1),kA (w.heap.size+1+1)]) (by simp) (by simp[go_sem]) ?_
  refine(F0 _ _ _ w5).mono ?_;rintro en' u' w6 ⟨rfl,rfl,rfl⟩;refine⟨_,Mn rfl rfl rfl bp rfl bq br,?_⟩
  have hfar:∀c,S' c\/sR (pl' 2000)=some c\/sR (pl' 2001)=some c->c≠w.heap.size/\c≠w.heap.size+1/\c≠w.heap.size+1+1/\(S c\/o9 pl (Yg l en 0 0 [] [] [] 0) c\/w.heap.size<=c)/\c<w4.heap.size:=λc hc=>by
   rcases hc with hc|hc|hc
   ·have h1:=hS4 c hc
    rcases hsrc c hc with h|h|h
    ·have:=hS c h;exact⟨by omega,by omega,by omega,.inl h,h1⟩
    ·have:=hno c h;exact⟨by omega,by omega,by omega,.inr (.inl h),h1⟩
    ·exact⟨by omega,by omega,by omega,.inr (.inr (by omega)),h1⟩
   ·have h1:=(h4.priv 2000 _ c rfl hc).1
    rcases hblk c ⟨2000,_,rfl,hc⟩with h|h
    ·have:=hno c h;exact⟨by omega,by omega,by omega,.inr (.inl h),h1⟩
    ·exact⟨by omega,by omega,by omega,.inr (.inr (by omega)),h1⟩
   ·have h1:=(h4.priv 2001 _ c rfl hc).1
    rcases hblk c ⟨2001,_,rfl,hc⟩with h|h
    ·have:=hno c h;exact⟨by omega,by omega,by omega,.inr (.inl h),h1⟩
    ·exact⟨by omega,by omega,by omega,.inr (.inr (by omega)),h1⟩
  have hkeep:∀c,S' c\/sR (pl' 2000)=some c\/sR (pl' 2001)=some c->w6.heap[c]? =w4.heap[c]? :=λc hc=>let⟨h1,h2,h3,_⟩:=hfar c hc;old c h1 h2 h3
  have hnew:∀c,o9 pl' (Yg l en m.goal m.var m.vars m.cons ns j) c->Lo.new c:=λc hc=>(hblk c hc).elim (λh=>hg.2.2 c h) λh=>hg.2.1 c (by omega)
  have v1:Rp w6 (λc=>S' c\/sR (pl' 2000)=some c\/sR (pl' 2001)=some c) (.slice A1 n1 k1) (.sl (.fr .var) m.vars):=by
   refine .sl (.fr .var) _ _ ?_;have h:=Qq (h4.ok 2000 _ rfl) (λc hc=>hnew c ⟨2000,_,rfl,hc⟩) rfl
   have hs:∀c,S' c\/sR (pl' 2000)=some c->S' c\/sR (pl' 2000)=some c\/sR (pl' 2001)=some c:=λc hc=>hc.elim .inl λh=> .inr (.inl h)
   rw[e2]at h
   exact zf9 h (λb hb=>hs b (by rw[e2];exact hb)) λb hb=>hkeep b (hs b (by rw[e2];exact hb))
  have v2:Rp w6 (λc=>S' c\/sR (pl' 2000)=some c\/sR (pl' 2001)=some c) (.slice A2 n2 k2) (.sl (.fr .con) m.cons):=by
   refine .sl (.fr .con) _ _ ?_;have h:=Qq (h4.ok 2001 _ rfl) (λc hc=>hnew c ⟨2001,_,rfl,hc⟩) rfl
   have hs:∀c,S' c\/sR (pl' 2001)=some c->S' c\/sR (pl' 2000)=some c\/sR (pl' 2001)=some c:=λc hc=>hc.elim .inl λh=> .inr (.inr h)
   rw[e3]at h
   exact zf9 h (λb hb=>hs b (by rw[e3];exact hb)) λb hb=>hkeep b (hs b (by rw[e3];exact hb))
  refine⟨_,λc=>S' c\/sR (pl' 2000)=some c\/sR (pl' 2001)=some c,pl,rfl,Rp.rd (.tup _ _ rfl λi d hd=> ?_),⟨λk o h=>(by cases h),λk o b h=>(by cases h),λk k' o o' b h=>(by cases h)⟩,λc hc=>by rw[sz5];exact(hfar c hc).2.2.2.2,λc hc=>(hfar c hc).2.2.2.1,λb ⟨k,o,h,_⟩=>(by cases h),λ_ _=>rfl,?_⟩
  ·match i,hd with
   |0,hd=>
    injection hd with hd;subst hd
    refine .agg _ _ rfl λi d hd=> ?_
    match i,hd with
    |0,hd=>injection hd with hd;subst hd;exact v1
    |1,hd=>injection hd with hd;subst hd;exact v2
    |2,hd=>injection hd with hd;subst hd;exact .int_mk g1
    |3,hd=>injection hd with hd;subst hd;exact .int_mk g2
   |1,hd=>injection hd with hd;subst hd;exact .int_mk (by unfold xE;omega)
   |2,hd=>injection hd with hd;subst hd;exact .int_mk (by unfold xE;omega)
  ·exact hw4.trans ⟨os5,ta5,ou5,by omega,λk hk hn=>old k (by omega) (by omega) (by omega)⟩
end Go.Proofs.YtdnmkinmcdihnaaGreatDoor
namespace Go.Proofs.YtdnmkinmcdihnaaGreatDoor
open Go.Proofs.Tryz
open Go.RowKit
variable[Lo]
theorem PY:∀(l:AcY) (i:Nat) (note:Bool) (out:AcX) (k:Nat),0<=(rG l i note out k).2.1/\(rG l i note out k).2.1<=((i+l.length:Nat):Int)/\0<=(rG l i note out k).2.2/\(rG l i note out k).2.2<=2
 |[],i,note,out,k=>by simp only[rG];omega
 |c::r,i,note,out,k+1=>by
  have h:=PY r (i+1) note out k;rw[rG,By];omega
 |c::r,i,note,out,0=>by
  rw[rG,By];split
  ·have:=PY r (i+1) (c !=10) out 0;omega
  ·split
   ·have:=PY r (i+1) false out 0;omega
   ·simp only
    split
    ·have:=PY r (i+1) false (out++[⟨(xO (c::r)).1,i,bs ((c::r).take (xO (c::r)).2)⟩]) ((xO (c::r)).2-1);omega
    ·rename_i h
     refine⟨by simp,by simp only;omega,?_⟩
     simp only;unfold nA;split
     ·omega
     split
     ·omega
     split<;>omega
theorem zgc(l:AcY):xE (pM l).2.1/\xE (pM l).2.2:=by
 unfold pM;split
 ·simp only;unfold xE;omega
 ·have:=PY l 0 false [] 0
  unfold xE;omega
theorem zpi{P:AcO}{f:AcM}{s:AcL}(h:∀w,Calls P f #[.string s] w λe w'=>∃v,e=.returned (.tuple #[v,.int .i64 (pM s.data.toList).2.1,.int .i64 (pM s.data.toList).2.2])/\UZ w' w.heap.size v (pM s.data.toList).1/\Below w.heap.size w w'):
  oT P f [.str s] (.tup [.sl .tok (pM s.data.toList).1,dI (pM s.data.toList).2.1,dI (pM s.data.toList).2.2]):=by
 intro w S vs hS hl hv _;obtain⟨e0,hz⟩:=(hv 0 _ rfl).str_inv
 have e:vs= #[.string s]:=by
  have hl:vs.size=1:=hl;apply Array.ext
  ·simpa using hl
  ·intro i h1 h2
   have:i=0:=by omega
   subst this;simpa[Aaj,h1]using e0
 subst e;refine(h w).mono λe w' ⟨v,he,hf,hb⟩=>⟨_,he,.tup _ _ rfl λi d hd=> ?_,hb⟩
 match i,hd with
 |0,hd=>injection hd with hd;subst hd;exact .sl .tok _ _ (fE.mono hf (λ_ _=>rfl) λb hb=> .inr hb)
 |1,hd=>injection hd with hd;subst hd;exact .int_mk (zgc _).1
 |2,hd=>injection hd with hd;subst hd;exact .int_mk (zgc _).2
theorem zav(s:AcL):vL Wa [.str s] (.tup [Yn (.list .tok) (pM s.data.toList).1,Yn .int (pM s.data.toList).2.1,Yn .int (pM s.data.toList).2.2]):=zpi λw=>zfc s w
theorem zgd{c:UInt8}{r:AcY}{n:Nat}(h:xO (c::r)=(2,n)):isD c=true/\n=1+(r.takeWhile isD).length:=by
 rw[xO]at h
 split at h
 ·injection h with h _;cases h
 split at h
 ·rename_i h1;injection h with _ h;exact⟨h1,h.symm⟩
 split at h
 ·injection h with h _;cases h
 split at h
 ·injection h with h _;cases h
 ·injection h with h _;cases h
theorem zaw{c:UInt8}{r:AcY}{k n:Nat}(h:xO (c::r)=(k,n))(hk:k≠2)(hk0:k≠0):isD c=false:=by
 rw[xO]at h
 cases hd:isD c with
 |false=>rfl
 |true=>
  split at h
  ·rename_i h1
   unfold isD isDN at hd;unfold isL Nk at h1
   simp only[If,decide_eq_true_eq]at hd h1
   omega
  ·injection h with h _;omega
theorem zpj{p:UInt8->Bool}:∀(l:AcY) (x:UInt8),x∈l.takeWhile p->p x=true
 |[],x,h=>by cases h
 |c::r,x,h=>by
  rw[Ab7]at h
  split at h
  ·rename_i hc
   rcases Aad.1 h with rfl|h
   ·exact hc
   ·exact zpj r x h
  ·cases h
theorem GN{s:AcL}{l:AcY}(h:s.data.toList=l)(i:Nat):lU s i=((l.getD i 0).toNat:Int):=by
 unfold lU;subst h
 congr 2
 rw[Aaj,Aar,AaE]
theorem zbO{L:AcY}:∀ {ts:AcX} {lo:Nat},DT L lo ts->zo9 ts
 |[],_,_=>λt ht=>by cases ht
 |t::ts,lo,⟨j,n,h1,h2,h3,h4,h5,⟨c,r,h6,h7,h8,h9⟩,h10⟩=>λt' ht'=>by
  rcases Aad.1 ht' with rfl|hm
  ·have hx:t'.text.data.toList=(c::r).take n:=by rw[h5,h6];unfold bs;rfl
   have hz:t'.text.size=n:=by
    have h11:t'.text.size=(t'.text.data.toList).length:=rfl;have h12:=AS List.length h6;rw[Abm]at h12
    rw[h11,hx,Aak];omega
   refine⟨λhk=> ?_,λhk=> ?_⟩
   ·have h7':xO (c::r)=(2,n):=by rw[h7,hk];rfl
    obtain⟨hd,hn⟩:=zgd h7';have h9':nA 2 n c=0:=by rw[hk]at h9;exact h9
    refine⟨by omega,?_,λi hi=> ?_⟩
    ·unfold nA at h9'
     rw[An (by decide)]at h9'
     rw[hz]
     by_cases h4:n>4
     ·rw[As (by simp;omega)]at h9';cases h9'
     ·omega
    ·rw[GN hx]
     have hall:∀x∈(c::r).take n,isD x=true:=by
      intro x hxm;obtain⟨m,rfl⟩:∃m,n=m+1:=⟨n-1,by omega⟩
      rw[Acy]at hxm
      rcases Aad.1 hxm with rfl|hxm
      ·exact hd
      ·have e:m=(r.takeWhile isD).length:=by omega
       have e2:r.take m=r.takeWhile isD:=by
        rw[e];exact(List.prefix_iff_eq_take.1 (List.takeWhile_prefix isD)).symm
       rw[e2]at hxm
       exact zpj _ _ hxm
     have hlen:i<((c::r).take n).length:=by
      have h11:t'.text.size=(t'.text.data.toList).length:=rfl;rw[hx]at h11;omega
     have hg:((c::r).take n).getD i 0=((c::r).take n)[i]:=by rw[Aar,Aal hlen];rfl
     rw[hg];have:=hall _ (AT hlen);unfold isD isDN at this
     simp only[If,decide_eq_true_eq]at this
     omega
   ·have hk':t'.kind.toNat≠2:=by omega
    have hk0:t'.kind.toNat≠0:=by intro e;rw[e]at h9;unfold nA at h9;rw[As rfl]at h9;cases h9
    have:=zaw h7 hk' hk0;obtain⟨m,rfl⟩:∃m,n=m+1:=⟨n-1,by omega⟩
    rw[GN hx,Acy];show¬(48<=(c.toNat:Int)/\(c.toNat:Int)<=57)
    unfold isD isDN at this
    simp only[Bool.and_eq_false_iff,decide_eq_false_iff_not]at this
    omega
  ·exact zbO h10 t' hm
theorem zpk(l:AcY):zo9 (pM l).1:=by
 by_cases h:(pM l).2.2=0
 ·exact zbO (Gl h).1
 ·rw[zl1 h];exact λt ht=>by cases ht
def YJ(s:AcL):zE×Int×Int:=if(pM s.data.toList).2.2≠0 then(HD,(pM s.data.toList).2.1,(pM s.data.toList).2.2)else zib (pM s.data.toList).1 s.size
abbrev dT(x:zE×Int×Int):D:=.tup [Yn (.fr .mdl) x.1,Yn .int x.2.1,Yn .int x.2.2]
theorem PZ(s:AcL):vL jU [.str s] (dT (YJ s)):=
 Bz s λok=>by
  rw[zao];refine ze0 (t:=.list .tok) (u:=.int) (v:=.int) (zav s) ?_;unfold YJ
  by_cases h:(pM s.data.toList).2.2=0
  ·rw[An (λx=>x h)]
   refine dnf h ?_;have hp:=zau (l:=(pM s.data.toList).1) (en:=(s.size:Int)) (zpa (zpk _));unfold zic at hp
   unfold zib zia;refine⟨_,_,_,hp,?_⟩;cases hm:YI yG tE (pM s.data.toList).1 with
   |ok x j=>
    obtain⟨m,ns⟩:=x;simp only;refine dt trivial (zG (t:=.int) (oT.unA (sP m)) ?_)
    by_cases hc:yY m=0
    ·rw[As hc];exact dnf hc rfl
    ·rw[An hc];exact dnt hc rfl
   |err j e=>
    have he:e≠0:=by rcases Lv hm with rfl|rfl<;>decide
    simp only;exact df he (dnt he rfl)
  ·rw[As h]
   exact dnt h rfl
theorem zax(s:AcL):vL jU [.str s] (.tup [Yn .mdl (YJ s).1,Yn .int (YJ s).2.1,Yn .int (YJ s).2.2]):=zry (PZ s)
end Go.Proofs.YtdnmkinmcdihnaaGreatDoor
namespace Go.Proofs.YtdnmkinmcdihnaaGreatDoor
open Go.Proofs.Tryz
open Go.RowKit
set_option maxRecDepth 100000
variable[Lo]
def yC:xF:= {own:=[1,2,3,5,6,8,11,25,28,29,32,33,36,48,54,56,62],live:=[(0,([1,2,3,4],[1,2,3,8])),(2,([1,2,3,4,5,6,7],[1,2,3,5,6,8,25,29,33]))],n:=66,first:=true,ae:=some ([1,2,3,4,5,26,30,34],[1,2,3,5,8])}
def zD(n:Nat):Array Bool:=⟨[n.testBit 0,n.testBit 1,n.testBit 2,n.testBit 3,n.testBit 4,n.testBit 5,n.testBit 6,n.testBit 7,n.testBit 8,n.testBit 9,n.testBit 10,n.testBit 11,n.testBit 12,n.testBit 13,n.testBit 14,n.testBit 15,n.testBit 16,n.testBit 17]⟩
abbrev xJ:=Int×(AcV)×Int×Int×(AcU)×(AcV)×Int×Int×(AcV)×(AcU)
abbrev xH(K:St->Prop)(n:Nat)(l:Array Bool)(σ:St):Prop:=Ux prog Ev yC (zse (sub [1,1,1,0,1,0,0,1,0,0,1,0] (vB f9))) K n l σ
abbrev xN(K:St->Prop)(N:Array Bool->St->Prop)(l:Array Bool)(σ:St):Prop:=zn2 prog Ev yC (zse (sub [1,1,1,0,1,0,0,1,0,0,1,0] (vB f9))) K N l σ
def UM(z:xJ):St:=⟨[(1,.ptr 1 0),(2,.ptr 2 0),(3,.own 3),(4,dI z.1),(5,.ptr 5 0),(26,.ptr 5 1),(30,.ptr 5 2),(34,.ptr 5 5)],[(1,.cells [.own 8,.sl .con z.2.1,dI z.2.2.1,dI z.2.2.2.1]),(2,.cells [.sl .var z.2.2.2.2.1,.sl .con z.2.2.2.2.2.1,dI z.2.2.2.2.2.2.1,dI z.2.2.2.2.2.2.2.1]),(3,.row 52 .con z.2.2.2.2.2.2.2.2.1),(5,.cells [dI ((zJ .con z.2.1 z.1.toNat).kind),.sl .int ((zJ .con z.2.1 z.1.toNat).vars),.sl .int ((zJ .con z.2.1 z.1.toNat).consts),dI ((zJ .con z.2.1 z.1.toNat).n),dS ((zJ .con z.2.1 z.1.toNat).rows),.sl .lit ((zJ .con z.2.1 z.1.toNat).lits)]),(8,.row 49 .var z.2.2.2.2.2.2.2.2.2)]⟩
def P0(z:xJ):St:=(((UM z).mk' 25 (.row 3 .int ([]:AcP))).put 25 (.own 25))
def P1(z:xJ):St:=((UM z).put 27 (.sl .int ((zJ .con z.2.1 z.1.toNat).vars)))
def P2(z:xJ):St:=(((UM z).mk' 29 (.row 3 .int ([]:AcP))).put 29 (.own 29))
def P3(z:xJ):St:=((UM z).put 31 (.sl .int ((zJ .con z.2.1 z.1.toNat).consts)))
def P4(z:xJ):St:=(((UM z).mk' 33 (.row 66 .lit ([]:AcR))).put 33 (.own 33))
def P5(z:xJ):St:=((UM z).put 35 (.sl .lit ((zJ .con z.2.1 z.1.toNat).lits)))
def P6(z:xJ):St:=((P0 z).put 27 (.sl .int ((zJ .con z.2.1 z.1.toNat).vars)))
def Lw(z:xJ):St:=(((P0 z).mk' 29 (.row 3 .int ([]:AcP))).put 29 (.own 29))
def Lx(z:xJ):St:=((P0 z).put 31 (.sl .int ((zJ .con z.2.1 z.1.toNat).consts)))
def SO(z:xJ):St:=(((P0 z).mk' 33 (.row 66 .lit ([]:AcR))).put 33 (.own 33))
def SP(z:xJ):St:=((P0 z).put 35 (.sl .lit ((zJ .con z.2.1 z.1.toNat).lits)))
def SQ(z:xJ):St:=(((P1 z).mk' 29 (.row 3 .int ([]:AcP))).put 29 (.own 29))
def SR(z:xJ):St:=((P1 z).put 31 (.sl .int ((zJ .con z.2.1 z.1.toNat).consts)))
def SS(z:xJ):St:=(((P1 z).mk' 33 (.row 66 .lit ([]:AcR))).put 33 (.own 33))
def ST(z:xJ):St:=((P1 z).put 35 (.sl .lit ((zJ .con z.2.1 z.1.toNat).lits)))
def SU(z:xJ):St:=((P2 z).put 31 (.sl .int ((zJ .con z.2.1 z.1.toNat).consts)))
def SV(z:xJ):St:=(((P2 z).mk' 33 (.row 66 .lit ([]:AcR))).put 33 (.own 33))
def SW(z:xJ):St:=((P2 z).put 35 (.sl .lit ((zJ .con z.2.1 z.1.toNat).lits)))
def SX(z:xJ):St:=(((P3 z).mk' 33 (.row 66 .lit ([]:AcR))).put 33 (.own 33))
def SY(z:xJ):St:=((P3 z).put 35 (.sl .lit ((zJ .con z.2.1 z.1.toNat).lits)))
def SZ(z:xJ):St:=((P4 z).put 35 (.sl .lit ((zJ .con z.2.1 z.1.toNat).lits)))
def S0(z:xJ):St:=(((P6 z).mk' 25 (.row 3 .int (([]:AcP)++((zJ .con z.2.1 z.1.toNat).vars)))).put 28 (.own 25))
def S3(z:xJ):St:=(((P6 z).mk' 29 (.row 3 .int ([]:AcP))).put 29 (.own 29))
def S4(z:xJ):St:=((P6 z).put 31 (.sl .int ((zJ .con z.2.1 z.1.toNat).consts)))
def S5(z:xJ):St:=(((P6 z).mk' 33 (.row 66 .lit ([]:AcR))).put 33 (.own 33))
def S6(z:xJ):St:=((P6 z).put 35 (.sl .lit ((zJ .con z.2.1 z.1.toNat).lits)))
def OH(z:xJ):St:=((Lw z).put 31 (.sl .int ((zJ .con z.2.1 z.1.toNat).consts)))
def OI(z:xJ):St:=(((Lw z).mk' 33 (.row 66 .lit ([]:AcR))).put 33 (.own 33))
def OJ(z:xJ):St:=((Lw z).put 35 (.sl .lit ((zJ .con z.2.1 z.1.toNat).lits)))
def OK(z:xJ):St:=(((Lx z).mk' 33 (.row 66 .lit ([]:AcR))).put 33 (.own 33))
def OL(z:xJ):St:=((Lx z).put 35 (.sl .lit ((zJ .con z.2.1 z.1.toNat).lits)))
def OM(z:xJ):St:=((SO z).put 35 (.sl .lit ((zJ .con z.2.1 z.1.toNat).lits)))
def ON(z:xJ):St:=((SQ z).put 31 (.sl .int ((zJ .con z.2.1 z.1.toNat).consts)))
def OO(z:xJ):St:=(((SQ z).mk' 33 (.row 66 .lit ([]:AcR))).put 33 (.own 33))
def OP(z:xJ):St:=((SQ z).put 35 (.sl .lit ((zJ .con z.2.1 z.1.toNat).lits)))
def OQ(z:xJ):St:=(((SR z).mk' 33 (.row 66 .lit ([]:AcR))).put 33 (.own 33))
def OR(z:xJ):St:=((SR z).put 35 (.sl .lit ((zJ .con z.2.1 z.1.toNat).lits)))
def OS(z:xJ):St:=((SS z).put 35 (.sl .lit ((zJ .con z.2.1 z.1.toNat).lits)))
def OT(z:xJ):St:=(((SU z).mk' 33 (.row 66 .lit ([]:AcR))).put 33 (.own 33))
def OU(z:xJ):St:=((SU z).put 35 (.sl .lit ((zJ .con z.2.1 z.1.toNat).lits)))
def OV(z:xJ):St:=((SV z).put 35 (.sl .lit ((zJ .con z.2.1 z.1.toNat).lits)))
def OW(z:xJ):St:=((SX z).put 35 (.sl .lit ((zJ .con z.2.1 z.1.toNat).lits)))
def OX(z:xJ):St:=(((S0 z).mk' 29 (.row 3 .int ([]:AcP))).put 29 (.own 29))
def OY(z:xJ):St:=((S0 z).put 31 (.sl .int ((zJ .con z.2.1 z.1.toNat).consts)))
def OZ(z:xJ):St:=(((S0 z).mk' 33 (.row 66 .lit ([]:AcR))).put 33 (.own 33))
def O0(z:xJ):St:=((S0 z).put 35 (.sl .lit ((zJ .con z.2.1 z.1.toNat).lits)))
def O1(z:xJ):St:=((S3 z).put 31 (.sl .int ((zJ .con z.2.1 z.1.toNat).consts)))
def O2(z:xJ):St:=(((S3 z).mk' 33 (.row 66 .lit ([]:AcR))).put 33 (.own 33))
def O3(z:xJ):St:=((S3 z).put 35 (.sl .lit ((zJ .con z.2.1 z.1.toNat).lits)))
def O4(z:xJ):St:=(((S4 z).mk' 33 (.row 66 .lit ([]:AcR))).put 33 (.own 33))
def O5(z:xJ):St:=((S4 z).put 35 (.sl .lit ((zJ .con z.2.1 z.1.toNat).lits)))
def O6(z:xJ):St:=((S5 z).put 35 (.sl .lit ((zJ .con z.2.1 z.1.toNat).lits)))
def Jj(z:xJ):St:=(((OH z).mk' 33 (.row 66 .lit ([]:AcR))).put 33 (.own 33))
def Jk(z:xJ):St:=((OH z).put 35 (.sl .lit ((zJ .con z.2.1 z.1.toNat).lits)))
def Jl(z:xJ):St:=((OI z).put 35 (.sl .lit ((zJ .con z.2.1 z.1.toNat).lits)))
def Jm(z:xJ):St:=((OK z).put 35 (.sl .lit ((zJ .con z.2.1 z.1.toNat).lits)))
def Jn(z:xJ):St:=(((ON z).mk' 33 (.row 66 .lit ([]:AcR))).put 33 (.own 33))
def Jo(z:xJ):St:=((ON z).put 35 (.sl .lit ((zJ .con z.2.1 z.1.toNat).lits)))
def Jp(z:xJ):St:=((OO z).put 35 (.sl .lit ((zJ .con z.2.1 z.1.toNat).lits)))
def Jq(z:xJ):St:=((OQ z).put 35 (.sl .lit ((zJ .con z.2.1 z.1.toNat).lits)))
def Jr(z:xJ):St:=((OT z).put 35 (.sl .lit ((zJ .con z.2.1 z.1.toNat).lits)))
def O7(z:xJ):St:=((OX z).put 31 (.sl .int ((zJ .con z.2.1 z.1.toNat).consts)))
def Js(z:xJ):St:=(((OX z).mk' 33 (.row 66 .lit ([]:AcR))).put 33 (.own 33))
def Jt(z:xJ):St:=((OX z).put 35 (.sl .lit ((zJ .con z.2.1 z.1.toNat).lits)))
def Ju(z:xJ):St:=(((OY z).mk' 33 (.row 66 .lit ([]:AcR))).put 33 (.own 33))
def O8(z:xJ):St:=((OY z).put 35 (.sl .lit ((zJ .con z.2.1 z.1.toNat).lits)))
def Jv(z:xJ):St:=((OZ z).put 35 (.sl .lit ((zJ .con z.2.1 z.1.toNat).lits)))
def Jw(z:xJ):St:=(((O1 z).mk' 33 (.row 66 .lit ([]:AcR))).put 33 (.own 33))
def Jx(z:xJ):St:=((O1 z).put 35 (.sl .lit ((zJ .con z.2.1 z.1.toNat).lits)))
def Jy(z:xJ):St:=((O2 z).put 35 (.sl .lit ((zJ .con z.2.1 z.1.toNat).lits)))
def Jz(z:xJ):St:=((O4 z).put 35 (.sl .lit ((zJ .con z.2.1 z.1.toNat).lits)))
def EC(z:xJ):St:=((Jj z).put 35 (.sl .lit ((zJ .con z.2.1 z.1.toNat).lits)))
def ED(z:xJ):St:=((Jn z).put 35 (.sl .lit ((zJ .con z.2.1 z.1.toNat).lits)))
def JA(z:xJ):St:=(((O7 z).mk' 29 (.row 3 .int (([]:AcP)++((zJ .con z.2.1 z.1.toNat).consts)))).put 32 (.own 29))
def JB(z:xJ):St:=(((O7 z).mk' 33 (.row 66 .lit ([]:AcR))).put 33 (.own 33))
def O9(z:xJ):St:=((O7 z).put 35 (.sl .lit ((zJ .con z.2.1 z.1.toNat).lits)))
def EE(z:xJ):St:=((Js z).put 35 (.sl .lit ((zJ .con z.2.1 z.1.toNat).lits)))
def JC(z:xJ):St:=((Ju z).put 35 (.sl .lit ((zJ .con z.2.1 z.1.toNat).lits)))
def JD(z:xJ):St:=((O8 z).put 37 (.ptr 5 1))
def EF(z:xJ):St:=((Jw z).put 35 (.sl .lit ((zJ .con z.2.1 z.1.toNat).lits)))
def EG(z:xJ):St:=(((JA z).mk' 33 (.row 66 .lit ([]:AcR))).put 33 (.own 33))
def JE(z:xJ):St:=((JA z).put 35 (.sl .lit ((zJ .con z.2.1 z.1.toNat).lits)))
def JF(z:xJ):St:=((JB z).put 35 (.sl .lit ((zJ .con z.2.1 z.1.toNat).lits)))
def JG(z:xJ):St:=((O9 z).put 37 (.ptr 5 1))
def EH(z:xJ):St:=((JC z).put 37 (.ptr 5 1))
def JH(z:xJ):St:=((EG z).put 35 (.sl .lit ((zJ .con z.2.1 z.1.toNat).lits)))
def EI(z:xJ):St:=((JE z).put 37 (.ptr 5 1))
def EJ(z:xJ):St:=((JF z).put 37 (.ptr 5 1))
def EK(z:xJ):St:=(((JH z).mk' 33 (.row 66 .lit (([]:AcR)++((zJ .con z.2.1 z.1.toNat).lits)))).put 36 (.own 33))
def EL(z:xJ):St:=((JH z).put 37 (.ptr 5 1))
def EM(z:xJ):St:=((EK z).put 37 (.ptr 5 1))
def EN(z:xJ):St:=((EM z).setOb 5 (.cells [dI ((zJ .con z.2.1 z.1.toNat).kind),.own 25,.sl .int ((zJ .con z.2.1 z.1.toNat).consts),dI ((zJ .con z.2.1 z.1.toNat).n),dS ((zJ .con z.2.1 z.1.toNat).rows),.sl .lit ((zJ .con z.2.1 z.1.toNat).lits)]))
def EO(z:xJ):St:=((EN z).put 38 (.ptr 5 2))
def EP(z:xJ):St:=((EO z).setOb 5 (.cells [dI ((zJ .con z.2.1 z.1.toNat).kind),.own 25,.own 29,dI ((zJ .con z.2.1 z.1.toNat).n),dS ((zJ .con z.2.1 z.1.toNat).rows),.sl .lit ((zJ .con z.2.1 z.1.toNat).lits)]))
def EQ(z:xJ):St:=((EP z).put 39 (.ptr 5 5))
def JI(z:xJ):St:=((EQ z).setOb 5 (.cells [dI ((zJ .con z.2.1 z.1.toNat).kind),.own 25,.own 29,dI ((zJ .con z.2.1 z.1.toNat).n),dS ((zJ .con z.2.1 z.1.toNat).rows),.own 33]))
abbrev zuh(z:xJ):Prop:=yX .int (([]:AcP).length+((zJ .con z.2.1 z.1.toNat).vars).length)=true/\yX .int (([]:AcP).length+((zJ .con z.2.1 z.1.toNat).consts).length)=true/\yX .lit (([]:AcR).length+((zJ .con z.2.1 z.1.toNat).lits).length)=true
theorem zU{K:St->Prop}(hK:WS K){n:Nat}{l:Array Bool}{σ τ:St}(h:((σ.fr.all λx=>sH x.1 [1,2,3,4,5,25,26,27,28,29,30,31,32,33,34,35,36,37,38,39])&&((τ.fr.all λx=>sH x.1 [1,2,3,4,5,25,26,27,28,29,30,31,32,33,34,35,36,37,38,39])&&((σ.hp.all λx=>sH x.1 [1,2,3,5,8,25,29,33])&&τ.hp.all λx=>sH x.1 [1,2,3,5,8,25,29,33])),[1,2,3,4,5,25,26,27,28,29,30,31,32,33,34,35,36,37,38,39].map τ.get,[1,2,3,5,8,25,29,33].map λk=>zW k τ.hp)=(true,[1,2,3,4,5,25,26,27,28,29,30,31,32,33,34,35,36,37,38,39].map σ.get,[1,2,3,5,8,25,29,33].map λk=>zW k σ.hp))(a:xH K n l σ):xH K n l τ:=aN hK _ _ _ _ (zqC [1,2,3,4,5,25,26,27,28,29,30,31,32,33,34,35,36,37,38,39] [1,2,3,5,8,25,29,33] h) a
section
variable(z:xJ){K:St->Prop}(hK:WS K)(h:zuh z)(hk:K (JI z))
include hK h hk
theorem zrP:xH K 0 (zD 262143) (JI z):=⟨by kernel_rfl,hk⟩
omit hK h hk in
theorem zie(N:Array Bool->St->Prop):xN K N (zD 131071) (EQ z)=((N (zD 262143) (JI z))):=by kernel_rfl
theorem zrQ:xH K 1 (zD 131071) (EQ z):=zX hK (λ_ _ h=>h) ((zie z _).mpr (zrP z hK h hk))
omit hK h hk in
theorem zif(N:Array Bool->St->Prop):xN K N (zD 65535) (EP z)=((N (zD 131071) (EQ z))):=by kernel_rfl
theorem zrR:xH K 2 (zD 65535) (EP z):=zX hK (λ_ _ h=>h) ((zif z _).mpr (zrQ z hK h hk))
omit hK h hk in
theorem zig(N:Array Bool->St->Prop):xN K N (zD 32767) (EO z)=((N (zD 65535) (EP z))):=by kernel_rfl
theorem zrS:xH K 3 (zD 32767) (EO z):=zX hK (λ_ _ h=>h) ((zig z _).mpr (zrR z hK h hk))
omit hK h hk in
theorem zih(N:Array Bool->St->Prop):xN K N (zD 16383) (EN z)=((N (zD 32767) (EO z))):=by kernel_rfl
theorem zrT:xH K 4 (zD 16383) (EN z):=zX hK (λ_ _ h=>h) ((zih z _).mpr (zrS z hK h hk))
omit hK h hk in
theorem zii(N:Array Bool->St->Prop):xN K N (zD 8191) (EM z)=((N (zD 16383) (EN z))):=by kernel_rfl
theorem zk5:xH K 5 (zD 8191) (EM z):=zX hK (λ_ _ h=>h) ((zii z _).mpr (zrT z hK h hk))
omit hK h hk in
theorem zij(N:Array Bool->St->Prop):xN K N (zD 4095) (EK z)=((N (zD 8191) (EM z))):=by kernel_rfl
theorem zrU:xH K 6 (zD 4095) (EK z):=zX hK (λ_ _ h=>h) ((zij z _).mpr (zk5 z hK h hk))
omit hK h hk in
theorem zik(N:Array Bool->St->Prop):xN K N (zD 6143) (EL z)=((yX .lit (([]:AcR).length+((zJ .con z.2.1 z.1.toNat).lits).length)=true/\N (zD 8191) (((EL z).mk' 33 (.row 66 .lit (([]:AcR)++((zJ .con z.2.1 z.1.toNat).lits)))).put 36 (.own 33)))):=by kernel_rfl
theorem zdL:xH K 6 (zD 6143) (EL z):=zX hK (λ_ _ h=>h) ((zik z _).mpr (⟨h.2.2,zU hK (by kernel_rfl) (zk5 z hK h hk)⟩))
omit hK h hk in
theorem zil(N:Array Bool->St->Prop):xN K N (zD 2047) (JH z)=((yX .lit (([]:AcR).length+((zJ .con z.2.1 z.1.toNat).lits).length)=true/\N (zD 4095) (EK z))/\(N (zD 6143) (EL z))):=by kernel_rfl
theorem zdM:xH K 7 (zD 2047) (JH z):=zX hK (λ_ _ h=>h) ((zil z _).mpr ⟨⟨h.2.2,zrU z hK h hk⟩,zdL z hK h hk⟩)
omit hK h hk in
theorem zim(N:Array Bool->St->Prop):xN K N (zD 5887) (EI z)=((N (zD 6143) (((EI z).mk' 33 (.row 66 .lit ([]:AcR))).put 33 (.own 33)))):=by kernel_rfl
theorem zk6:xH K 7 (zD 5887) (EI z):=zX hK (λ_ _ h=>h) ((zim z _).mpr (zU hK (by kernel_rfl) (zdL z hK h hk)))
omit hK h hk in
theorem zin(N:Array Bool->St->Prop):xN K N (zD 6015) (EJ z)=((yX .int (([]:AcP).length+((zJ .con z.2.1 z.1.toNat).consts).length)=true/\N (zD 6143) (((EJ z).mk' 29 (.row 3 .int (([]:AcP)++((zJ .con z.2.1 z.1.toNat).consts)))).put 32 (.own 29)))):=by kernel_rfl
theorem zdN:xH K 7 (zD 6015) (EJ z):=zX hK (λ_ _ h=>h) ((zin z _).mpr (⟨h.2.1,zU hK (by kernel_rfl) (zdL z hK h hk)⟩))
omit hK h hk in
theorem zio(N:Array Bool->St->Prop):xN K N (zD 1023) (EG z)=((N (zD 2047) (JH z))):=by kernel_rfl
theorem zk7:xH K 8 (zD 1023) (EG z):=zX hK (λ_ _ h=>h) ((zio z _).mpr (zdM z hK h hk))
omit hK h hk in
theorem ziq(N:Array Bool->St->Prop):xN K N (zD 1791) (JE z)=((N (zD 2047) (((JE z).mk' 33 (.row 66 .lit ([]:AcR))).put 33 (.own 33)))/\(N (zD 5887) (EI z))):=by kernel_rfl
theorem zk8:xH K 8 (zD 1791) (JE z):=zX hK (λ_ _ h=>h) ((ziq z _).mpr ⟨zU hK (by kernel_rfl) (zdM z hK h hk),zk6 z hK h hk⟩)
omit hK h hk in
theorem zir(N:Array Bool->St->Prop):xN K N (zD 1919) (JF z)=((yX .int (([]:AcP).length+((zJ .con z.2.1 z.1.toNat).consts).length)=true/\N (zD 2047) (((JF z).mk' 29 (.row 3 .int (([]:AcP)++((zJ .con z.2.1 z.1.toNat).consts)))).put 32 (.own 29)))/\(N (zD 6015) (EJ z))):=by kernel_rfl
theorem JJ:xH K 8 (zD 1919) (JF z):=zX hK (λ_ _ h=>h) ((zir z _).mpr ⟨⟨h.2.1,zU hK (by kernel_rfl) (zdM z hK h hk)⟩,zdN z hK h hk⟩)
omit hK h hk in
theorem zis(N:Array Bool->St->Prop):xN K N (zD 5759) (JG z)=((yX .int (([]:AcP).length+((zJ .con z.2.1 z.1.toNat).consts).length)=true/\N (zD 5887) (((JG z).mk' 29 (.row 3 .int (([]:AcP)++((zJ .con z.2.1 z.1.toNat).consts)))).put 32 (.own 29)))/\(N (zD 6015) (((JG z).mk' 33 (.row 66 .lit ([]:AcR))).put 33 (.own 33)))):=by kernel_rfl
theorem zk9:xH K 8 (zD 5759) (JG z):=zX hK (λ_ _ h=>h) ((zis z _).mpr ⟨⟨h.2.1,zU hK (by kernel_rfl) (zk6 z hK h hk)⟩,zU hK (by kernel_rfl) (zdN z hK h hk)⟩)
omit hK h hk in
theorem zit(N:Array Bool->St->Prop):xN K N (zD 5999) (EH z)=((N (zD 6015) (((EH z).mk' 29 (.row 3 .int ([]:AcP))).put 29 (.own 29)))):=by kernel_rfl
theorem zla:xH K 8 (zD 5999) (EH z):=zX hK (λ_ _ h=>h) ((zit z _).mpr (zU hK (by kernel_rfl) (zdN z hK h hk)))
omit hK h hk in
theorem ziu(N:Array Bool->St->Prop):xN K N (zD 767) (JA z)=((N (zD 1023) (EG z))/\(N (zD 1791) (JE z))):=by kernel_rfl
theorem zrV:xH K 9 (zD 767) (JA z):=zX hK (λ_ _ h=>h) ((ziu z _).mpr ⟨zk7 z hK h hk,zk8 z hK h hk⟩)
omit hK h hk in
theorem ziv(N:Array Bool->St->Prop):xN K N (zD 895) (JB z)=((yX .int (([]:AcP).length+((zJ .con z.2.1 z.1.toNat).consts).length)=true/\N (zD 1023) (((JB z).mk' 29 (.row 3 .int (([]:AcP)++((zJ .con z.2.1 z.1.toNat).consts)))).put 32 (.own 29)))/\(N (zD 1919) (JF z))):=by kernel_rfl
theorem ER:xH K 9 (zD 895) (JB z):=zX hK (λ_ _ h=>h) ((ziv z _).mpr ⟨⟨h.2.1,zU hK (by kernel_rfl) (zk7 z hK h hk)⟩,JJ z hK h hk⟩)
omit hK h hk in
theorem ziw(N:Array Bool->St->Prop):xN K N (zD 1663) (O9 z)=((yX .int (([]:AcP).length+((zJ .con z.2.1 z.1.toNat).consts).length)=true/\N (zD 1791) (((O9 z).mk' 29 (.row 3 .int (([]:AcP)++((zJ .con z.2.1 z.1.toNat).consts)))).put 32 (.own 29)))/\(N (zD 1919) (((O9 z).mk' 33 (.row 66 .lit ([]:AcR))).put 33 (.own 33)))/\(N (zD 5759) (JG z))):=by kernel_rfl
theorem ES:xH K 9 (zD 1663) (O9 z):=zX hK (λ_ _ h=>h) ((ziw z _).mpr ⟨⟨h.2.1,zU hK (by kernel_rfl) (zk8 z hK h hk)⟩,zU hK (by kernel_rfl) (JJ z hK h hk),zk9 z hK h hk⟩)
omit hK h hk in
theorem zix(N:Array Bool->St->Prop):xN K N (zD 1855) (EE z)=((N (zD 1919) ((EE z).put 31 (.sl .int ((zJ .con z.2.1 z.1.toNat).consts))))):=by kernel_rfl
theorem ET:xH K 9 (zD 1855) (EE z):=zX hK (λ_ _ h=>h) ((zix z _).mpr (zU hK (by kernel_rfl) (JJ z hK h hk)))
omit hK h hk in
theorem ziy(N:Array Bool->St->Prop):xN K N (zD 1903) (JC z)=((N (zD 1919) (((JC z).mk' 29 (.row 3 .int ([]:AcP))).put 29 (.own 29)))/\(N (zD 5999) (EH z))):=by kernel_rfl
theorem EU:xH K 9 (zD 1903) (JC z):=zX hK (λ_ _ h=>h) ((ziy z _).mpr ⟨zU hK (by kernel_rfl) (JJ z hK h hk),zla z hK h hk⟩)
omit hK h hk in
theorem ziz(N:Array Bool->St->Prop):xN K N (zD 5743) (JD z)=((N (zD 5759) (((JD z).mk' 29 (.row 3 .int ([]:AcP))).put 29 (.own 29)))/\(N (zD 5999) (((JD z).mk' 33 (.row 66 .lit ([]:AcR))).put 33 (.own 33)))):=by kernel_rfl
theorem zrW:xH K 9 (zD 5743) (JD z):=zX hK (λ_ _ h=>h) ((ziz z _).mpr ⟨zU hK (by kernel_rfl) (zk9 z hK h hk),zU hK (by kernel_rfl) (zla z hK h hk)⟩)
omit hK h hk in
theorem ziA(N:Array Bool->St->Prop):xN K N (zD 1911) (EF z)=((yX .int (([]:AcP).length+((zJ .con z.2.1 z.1.toNat).vars).length)=true/\N (zD 1919) (((EF z).mk' 25 (.row 3 .int (([]:AcP)++((zJ .con z.2.1 z.1.toNat).vars)))).put 28 (.own 25)))):=by kernel_rfl
theorem Na:xH K 9 (zD 1911) (EF z):=zX hK (λ_ _ h=>h) ((ziA z _).mpr (⟨h.1,zU hK (by kernel_rfl) (JJ z hK h hk)⟩))
omit hK h hk in
theorem ziB(N:Array Bool->St->Prop):xN K N (zD 639) (O7 z)=((yX .int (([]:AcP).length+((zJ .con z.2.1 z.1.toNat).consts).length)=true/\N (zD 767) (JA z))/\(N (zD 895) (JB z))/\(N (zD 1663) (O9 z))):=by kernel_rfl
theorem zdO:xH K 10 (zD 639) (O7 z):=zX hK (λ_ _ h=>h) ((ziB z _).mpr ⟨⟨h.2.1,zrV z hK h hk⟩,ER z hK h hk,ES z hK h hk⟩)
omit hK h hk in
theorem ziC(N:Array Bool->St->Prop):xN K N (zD 831) (Js z)=((N (zD 895) ((Js z).put 31 (.sl .int ((zJ .con z.2.1 z.1.toNat).consts))))/\(N (zD 1855) (EE z))):=by kernel_rfl
theorem zdP:xH K 10 (zD 831) (Js z):=zX hK (λ_ _ h=>h) ((ziC z _).mpr ⟨zU hK (by kernel_rfl) (ER z hK h hk),ET z hK h hk⟩)
omit hK h hk in
theorem ziD(N:Array Bool->St->Prop):xN K N (zD 1599) (Jt z)=((N (zD 1663) ((Jt z).put 31 (.sl .int ((zJ .con z.2.1 z.1.toNat).consts))))/\(N (zD 1855) (((Jt z).mk' 33 (.row 66 .lit ([]:AcR))).put 33 (.own 33)))):=by kernel_rfl
theorem zdQ:xH K 10 (zD 1599) (Jt z):=zX hK (λ_ _ h=>h) ((ziD z _).mpr ⟨zU hK (by kernel_rfl) (ES z hK h hk),zU hK (by kernel_rfl) (ET z hK h hk)⟩)
omit hK h hk in
theorem ziE(N:Array Bool->St->Prop):xN K N (zD 879) (Ju z)=((N (zD 895) (((Ju z).mk' 29 (.row 3 .int ([]:AcP))).put 29 (.own 29)))/\(N (zD 1903) (JC z))):=by kernel_rfl
theorem zdR:xH K 10 (zD 879) (Ju z):=zX hK (λ_ _ h=>h) ((ziE z _).mpr ⟨zU hK (by kernel_rfl) (ER z hK h hk),EU z hK h hk⟩)
omit hK h hk in
theorem ziF(N:Array Bool->St->Prop):xN K N (zD 1647) (O8 z)=((N (zD 1663) (((O8 z).mk' 29 (.row 3 .int ([]:AcP))).put 29 (.own 29)))/\(N (zD 1903) (((O8 z).mk' 33 (.row 66 .lit ([]:AcR))).put 33 (.own 33)))/\(N (zD 5743) (JD z))):=by kernel_rfl
theorem zdS:xH K 10 (zD 1647) (O8 z):=zX hK (λ_ _ h=>h) ((ziF z _).mpr ⟨zU hK (by kernel_rfl) (ES z hK h hk),zU hK (by kernel_rfl) (EU z hK h hk),zrW z hK h hk⟩)
omit hK h hk in
theorem ziG(N:Array Bool->St->Prop):xN K N (zD 1839) (Jv z)=((N (zD 1855) (((Jv z).mk' 29 (.row 3 .int ([]:AcP))).put 29 (.own 29)))/\(N (zD 1903) ((Jv z).put 31 (.sl .int ((zJ .con z.2.1 z.1.toNat).consts))))):=by kernel_rfl
theorem zdT:xH K 10 (zD 1839) (Jv z):=zX hK (λ_ _ h=>h) ((ziG z _).mpr ⟨zU hK (by kernel_rfl) (ET z hK h hk),zU hK (by kernel_rfl) (EU z hK h hk)⟩)
omit hK h hk in
theorem ziH(N:Array Bool->St->Prop):xN K N (zD 887) (Jw z)=((yX .int (([]:AcP).length+((zJ .con z.2.1 z.1.toNat).vars).length)=true/\N (zD 895) (((Jw z).mk' 25 (.row 3 .int (([]:AcP)++((zJ .con z.2.1 z.1.toNat).vars)))).put 28 (.own 25)))/\(N (zD 1911) (EF z))):=by kernel_rfl
theorem JK:xH K 10 (zD 887) (Jw z):=zX hK (λ_ _ h=>h) ((ziH z _).mpr ⟨⟨h.1,zU hK (by kernel_rfl) (ER z hK h hk)⟩,Na z hK h hk⟩)
omit hK h hk in
theorem ziI(N:Array Bool->St->Prop):xN K N (zD 1655) (Jx z)=((yX .int (([]:AcP).length+((zJ .con z.2.1 z.1.toNat).vars).length)=true/\N (zD 1663) (((Jx z).mk' 25 (.row 3 .int (([]:AcP)++((zJ .con z.2.1 z.1.toNat).vars)))).put 28 (.own 25)))/\(N (zD 1911) (((Jx z).mk' 33 (.row 66 .lit ([]:AcR))).put 33 (.own 33)))):=by kernel_rfl
theorem JL:xH K 10 (zD 1655) (Jx z):=zX hK (λ_ _ h=>h) ((ziI z _).mpr ⟨⟨h.1,zU hK (by kernel_rfl) (ES z hK h hk)⟩,zU hK (by kernel_rfl) (Na z hK h hk)⟩)
omit hK h hk in
theorem ziJ(N:Array Bool->St->Prop):xN K N (zD 1847) (Jy z)=((yX .int (([]:AcP).length+((zJ .con z.2.1 z.1.toNat).vars).length)=true/\N (zD 1855) (((Jy z).mk' 25 (.row 3 .int (([]:AcP)++((zJ .con z.2.1 z.1.toNat).vars)))).put 28 (.own 25)))/\(N (zD 1911) ((Jy z).put 31 (.sl .int ((zJ .con z.2.1 z.1.toNat).consts))))):=by kernel_rfl
theorem JM:xH K 10 (zD 1847) (Jy z):=zX hK (λ_ _ h=>h) ((ziJ z _).mpr ⟨⟨h.1,zU hK (by kernel_rfl) (ET z hK h hk)⟩,zU hK (by kernel_rfl) (Na z hK h hk)⟩)
omit hK h hk in
theorem ziK(N:Array Bool->St->Prop):xN K N (zD 1895) (Jz z)=((yX .int (([]:AcP).length+((zJ .con z.2.1 z.1.toNat).vars).length)=true/\N (zD 1903) (((Jz z).mk' 25 (.row 3 .int (([]:AcP)++((zJ .con z.2.1 z.1.toNat).vars)))).put 28 (.own 25)))/\(N (zD 1911) (((Jz z).mk' 29 (.row 3 .int ([]:AcP))).put 29 (.own 29)))):=by kernel_rfl
theorem JN:xH K 10 (zD 1895) (Jz z):=zX hK (λ_ _ h=>h) ((ziK z _).mpr ⟨⟨h.1,zU hK (by kernel_rfl) (EU z hK h hk)⟩,zU hK (by kernel_rfl) (Na z hK h hk)⟩)
omit hK h hk in
theorem ziL(N:Array Bool->St->Prop):xN K N (zD 1907) (EC z)=((N (zD 1911) ((EC z).put 27 (.sl .int ((zJ .con z.2.1 z.1.toNat).vars))))):=by kernel_rfl
theorem JO:xH K 10 (zD 1907) (EC z):=zX hK (λ_ _ h=>h) ((ziL z _).mpr (zU hK (by kernel_rfl) (Na z hK h hk)))
omit hK h hk in
theorem ziM(N:Array Bool->St->Prop):xN K N (zD 1910) (ED z)=((N (zD 1911) (((ED z).mk' 25 (.row 3 .int ([]:AcP))).put 25 (.own 25)))):=by kernel_rfl
theorem JP:xH K 10 (zD 1910) (ED z):=zX hK (λ_ _ h=>h) ((ziM z _).mpr (zU hK (by kernel_rfl) (Na z hK h hk)))
omit hK h hk in
theorem ziN(N:Array Bool->St->Prop):xN K N (zD 575) (OX z)=((N (zD 639) (O7 z))/\(N (zD 831) (Js z))/\(N (zD 1599) (Jt z))):=by kernel_rfl
theorem zlb:xH K 11 (zD 575) (OX z):=zX hK (λ_ _ h=>h) ((ziN z _).mpr ⟨zdO z hK h hk,zdP z hK h hk,zdQ z hK h hk⟩)
omit hK h hk in
theorem ziO(N:Array Bool->St->Prop):xN K N (zD 623) (OY z)=((N (zD 639) (((OY z).mk' 29 (.row 3 .int ([]:AcP))).put 29 (.own 29)))/\(N (zD 879) (Ju z))/\(N (zD 1647) (O8 z))):=by kernel_rfl
theorem zlc:xH K 11 (zD 623) (OY z):=zX hK (λ_ _ h=>h) ((ziO z _).mpr ⟨zU hK (by kernel_rfl) (zdO z hK h hk),zdR z hK h hk,zdS z hK h hk⟩)
omit hK h hk in
theorem ziP(N:Array Bool->St->Prop):xN K N (zD 815) (OZ z)=((N (zD 831) (((OZ z).mk' 29 (.row 3 .int ([]:AcP))).put 29 (.own 29)))/\(N (zD 879) ((OZ z).put 31 (.sl .int ((zJ .con z.2.1 z.1.toNat).consts))))/\(N (zD 1839) (Jv z))):=by kernel_rfl
theorem zld:xH K 11 (zD 815) (OZ z):=zX hK (λ_ _ h=>h) ((ziP z _).mpr ⟨zU hK (by kernel_rfl) (zdP z hK h hk),zU hK (by kernel_rfl) (zdR z hK h hk),zdT z hK h hk⟩)
omit hK h hk in
theorem ziQ(N:Array Bool->St->Prop):xN K N (zD 1583) (O0 z)=((N (zD 1599) (((O0 z).mk' 29 (.row 3 .int ([]:AcP))).put 29 (.own 29)))/\(N (zD 1647) ((O0 z).put 31 (.sl .int ((zJ .con z.2.1 z.1.toNat).consts))))/\(N (zD 1839) (((O0 z).mk' 33 (.row 66 .lit ([]:AcR))).put 33 (.own 33)))):=by kernel_rfl
theorem zle:xH K 11 (zD 1583) (O0 z):=zX hK (λ_ _ h=>h) ((ziQ z _).mpr ⟨zU hK (by kernel_rfl) (zdQ z hK h hk),zU hK (by kernel_rfl) (zdS z hK h hk),zU hK (by kernel_rfl) (zdT z hK h hk)⟩)
omit hK h hk in
theorem ziR(N:Array Bool->St->Prop):xN K N (zD 631) (O1 z)=((yX .int (([]:AcP).length+((zJ .con z.2.1 z.1.toNat).vars).length)=true/\N (zD 639) (((O1 z).mk' 25 (.row 3 .int (([]:AcP)++((zJ .con z.2.1 z.1.toNat).vars)))).put 28 (.own 25)))/\(N (zD 887) (Jw z))/\(N (zD 1655) (Jx z))):=by kernel_rfl
theorem EV:xH K 11 (zD 631) (O1 z):=zX hK (λ_ _ h=>h) ((ziR z _).mpr ⟨⟨h.1,zU hK (by kernel_rfl) (zdO z hK h hk)⟩,JK z hK h hk,JL z hK h hk⟩)
omit hK h hk in
theorem ziS(N:Array Bool->St->Prop):xN K N (zD 823) (O2 z)=((yX .int (([]:AcP).length+((zJ .con z.2.1 z.1.toNat).vars).length)=true/\N (zD 831) (((O2 z).mk' 25 (.row 3 .int (([]:AcP)++((zJ .con z.2.1 z.1.toNat).vars)))).put 28 (.own 25)))/\(N (zD 887) ((O2 z).put 31 (.sl .int ((zJ .con z.2.1 z.1.toNat).consts))))/\(N (zD 1847) (Jy z))):=by kernel_rfl
theorem EW:xH K 11 (zD 823) (O2 z):=zX hK (λ_ _ h=>h) ((ziS z _).mpr ⟨⟨h.1,zU hK (by kernel_rfl) (zdP z hK h hk)⟩,zU hK (by kernel_rfl) (JK z hK h hk),JM z hK h hk⟩)
omit hK h hk in
theorem ziT(N:Array Bool->St->Prop):xN K N (zD 1591) (O3 z)=((yX .int (([]:AcP).length+((zJ .con z.2.1 z.1.toNat).vars).length)=true/\N (zD 1599) (((O3 z).mk' 25 (.row 3 .int (([]:AcP)++((zJ .con z.2.1 z.1.toNat).vars)))).put 28 (.own 25)))/\(N (zD 1655) ((O3 z).put 31 (.sl .int ((zJ .con z.2.1 z.1.toNat).consts))))/\(N (zD 1847) (((O3 z).mk' 33 (.row 66 .lit ([]:AcR))).put 33 (.own 33)))):=by kernel_rfl
theorem EX:xH K 11 (zD 1591) (O3 z):=zX hK (λ_ _ h=>h) ((ziT z _).mpr ⟨⟨h.1,zU hK (by kernel_rfl) (zdQ z hK h hk)⟩,zU hK (by kernel_rfl) (JL z hK h hk),zU hK (by kernel_rfl) (JM z hK h hk)⟩)
omit hK h hk in
theorem ziU(N:Array Bool->St->Prop):xN K N (zD 871) (O4 z)=((yX .int (([]:AcP).length+((zJ .con z.2.1 z.1.toNat).vars).length)=true/\N (zD 879) (((O4 z).mk' 25 (.row 3 .int (([]:AcP)++((zJ .con z.2.1 z.1.toNat).vars)))).put 28 (.own 25)))/\(N (zD 887) (((O4 z).mk' 29 (.row 3 .int ([]:AcP))).put 29 (.own 29)))/\(N (zD 1895) (Jz z))):=by kernel_rfl
theorem EY:xH K 11 (zD 871) (O4 z):=zX hK (λ_ _ h=>h) ((ziU z _).mpr ⟨⟨h.1,zU hK (by kernel_rfl) (zdR z hK h hk)⟩,zU hK (by kernel_rfl) (JK z hK h hk),JN z hK h hk⟩)
omit hK h hk in
theorem ziV(N:Array Bool->St->Prop):xN K N (zD 1639) (O5 z)=((yX .int (([]:AcP).length+((zJ .con z.2.1 z.1.toNat).vars).length)=true/\N (zD 1647) (((O5 z).mk' 25 (.row 3 .int (([]:AcP)++((zJ .con z.2.1 z.1.toNat).vars)))).put 28 (.own 25)))/\(N (zD 1655) (((O5 z).mk' 29 (.row 3 .int ([]:AcP))).put 29 (.own 29)))/\(N (zD 1895) (((O5 z).mk' 33 (.row 66 .lit ([]:AcR))).put 33 (.own 33)))):=by kernel_rfl
theorem EZ:xH K 11 (zD 1639) (O5 z):=zX hK (λ_ _ h=>h) ((ziV z _).mpr ⟨⟨h.1,zU hK (by kernel_rfl) (zdS z hK h hk)⟩,zU hK (by kernel_rfl) (JL z hK h hk),zU hK (by kernel_rfl) (JN z hK h hk)⟩)
omit hK h hk in
theorem ziW(N:Array Bool->St->Prop):xN K N (zD 1831) (O6 z)=((yX .int (([]:AcP).length+((zJ .con z.2.1 z.1.toNat).vars).length)=true/\N (zD 1839) (((O6 z).mk' 25 (.row 3 .int (([]:AcP)++((zJ .con z.2.1 z.1.toNat).vars)))).put 28 (.own 25)))/\(N (zD 1847) (((O6 z).mk' 29 (.row 3 .int ([]:AcP))).put 29 (.own 29)))/\(N (zD 1895) ((O6 z).put 31 (.sl .int ((zJ .con z.2.1 z.1.toNat).consts))))):=by kernel_rfl
theorem E0:xH K 11 (zD 1831) (O6 z):=zX hK (λ_ _ h=>h) ((ziW z _).mpr ⟨⟨h.1,zU hK (by kernel_rfl) (zdT z hK h hk)⟩,zU hK (by kernel_rfl) (JM z hK h hk),zU hK (by kernel_rfl) (JN z hK h hk)⟩)
omit hK h hk in
theorem ziX(N:Array Bool->St->Prop):xN K N (zD 883) (Jj z)=((N (zD 887) ((Jj z).put 27 (.sl .int ((zJ .con z.2.1 z.1.toNat).vars))))/\(N (zD 1907) (EC z))):=by kernel_rfl
theorem E3:xH K 11 (zD 883) (Jj z):=zX hK (λ_ _ h=>h) ((ziX z _).mpr ⟨zU hK (by kernel_rfl) (JK z hK h hk),JO z hK h hk⟩)
omit hK h hk in
theorem ziY(N:Array Bool->St->Prop):xN K N (zD 1651) (Jk z)=((N (zD 1655) ((Jk z).put 27 (.sl .int ((zJ .con z.2.1 z.1.toNat).vars))))/\(N (zD 1907) (((Jk z).mk' 33 (.row 66 .lit ([]:AcR))).put 33 (.own 33)))):=by kernel_rfl
theorem E4:xH K 11 (zD 1651) (Jk z):=zX hK (λ_ _ h=>h) ((ziY z _).mpr ⟨zU hK (by kernel_rfl) (JL z hK h hk),zU hK (by kernel_rfl) (JO z hK h hk)⟩)
omit hK h hk in
theorem ziZ(N:Array Bool->St->Prop):xN K N (zD 1843) (Jl z)=((N (zD 1847) ((Jl z).put 27 (.sl .int ((zJ .con z.2.1 z.1.toNat).vars))))/\(N (zD 1907) ((Jl z).put 31 (.sl .int ((zJ .con z.2.1 z.1.toNat).consts))))):=by kernel_rfl
theorem E5:xH K 11 (zD 1843) (Jl z):=zX hK (λ_ _ h=>h) ((ziZ z _).mpr ⟨zU hK (by kernel_rfl) (JM z hK h hk),zU hK (by kernel_rfl) (JO z hK h hk)⟩)
omit hK h hk in
theorem zi0(N:Array Bool->St->Prop):xN K N (zD 1891) (Jm z)=((N (zD 1895) ((Jm z).put 27 (.sl .int ((zJ .con z.2.1 z.1.toNat).vars))))/\(N (zD 1907) (((Jm z).mk' 29 (.row 3 .int ([]:AcP))).put 29 (.own 29)))):=by kernel_rfl
theorem E6:xH K 11 (zD 1891) (Jm z):=zX hK (λ_ _ h=>h) ((zi0 z _).mpr ⟨zU hK (by kernel_rfl) (JN z hK h hk),zU hK (by kernel_rfl) (JO z hK h hk)⟩)
omit hK h hk in
theorem zi1(N:Array Bool->St->Prop):xN K N (zD 886) (Jn z)=((N (zD 887) (((Jn z).mk' 25 (.row 3 .int ([]:AcP))).put 25 (.own 25)))/\(N (zD 1910) (ED z))):=by kernel_rfl
theorem E7:xH K 11 (zD 886) (Jn z):=zX hK (λ_ _ h=>h) ((zi1 z _).mpr ⟨zU hK (by kernel_rfl) (JK z hK h hk),JP z hK h hk⟩)
omit hK h hk in
theorem zi2(N:Array Bool->St->Prop):xN K N (zD 1654) (Jo z)=((N (zD 1655) (((Jo z).mk' 25 (.row 3 .int ([]:AcP))).put 25 (.own 25)))/\(N (zD 1910) (((Jo z).mk' 33 (.row 66 .lit ([]:AcR))).put 33 (.own 33)))):=by kernel_rfl
theorem E8:xH K 11 (zD 1654) (Jo z):=zX hK (λ_ _ h=>h) ((zi2 z _).mpr ⟨zU hK (by kernel_rfl) (JL z hK h hk),zU hK (by kernel_rfl) (JP z hK h hk)⟩)
omit hK h hk in
theorem zi3(N:Array Bool->St->Prop):xN K N (zD 1846) (Jp z)=((N (zD 1847) (((Jp z).mk' 25 (.row 3 .int ([]:AcP))).put 25 (.own 25)))/\(N (zD 1910) ((Jp z).put 31 (.sl .int ((zJ .con z.2.1 z.1.toNat).consts))))):=by kernel_rfl
theorem E9:xH K 11 (zD 1846) (Jp z):=zX hK (λ_ _ h=>h) ((zi3 z _).mpr ⟨zU hK (by kernel_rfl) (JM z hK h hk),zU hK (by kernel_rfl) (JP z hK h hk)⟩)
omit hK h hk in
theorem zi4(N:Array Bool->St->Prop):xN K N (zD 1894) (Jq z)=((N (zD 1895) (((Jq z).mk' 25 (.row 3 .int ([]:AcP))).put 25 (.own 25)))/\(N (zD 1910) (((Jq z).mk' 29 (.row 3 .int ([]:AcP))).put 29 (.own 29)))):=by kernel_rfl
theorem Da:xH K 11 (zD 1894) (Jq z):=zX hK (λ_ _ h=>h) ((zi4 z _).mpr ⟨zU hK (by kernel_rfl) (JN z hK h hk),zU hK (by kernel_rfl) (JP z hK h hk)⟩)
omit hK h hk in
theorem zi5(N:Array Bool->St->Prop):xN K N (zD 1906) (Jr z)=((N (zD 1907) (((Jr z).mk' 25 (.row 3 .int ([]:AcP))).put 25 (.own 25)))/\(N (zD 1910) ((Jr z).put 27 (.sl .int ((zJ .con z.2.1 z.1.toNat).vars))))):=by kernel_rfl
theorem Db:xH K 11 (zD 1906) (Jr z):=zX hK (λ_ _ h=>h) ((zi5 z _).mpr ⟨zU hK (by kernel_rfl) (JO z hK h hk),zU hK (by kernel_rfl) (JP z hK h hk)⟩)
omit hK h hk in
theorem zi6(N:Array Bool->St->Prop):xN K N (zD 559) (S0 z)=((N (zD 575) (OX z))/\(N (zD 623) (OY z))/\(N (zD 815) (OZ z))/\(N (zD 1583) (O0 z))):=by kernel_rfl
theorem zrX:xH K 12 (zD 559) (S0 z):=zX hK (λ_ _ h=>h) ((zi6 z _).mpr ⟨zlb z hK h hk,zlc z hK h hk,zld z hK h hk,zle z hK h hk⟩)
omit hK h hk in
theorem zi7(N:Array Bool->St->Prop):xN K N (zD 567) (S3 z)=((yX .int (([]:AcP).length+((zJ .con z.2.1 z.1.toNat).vars).length)=true/\N (zD 575) (((S3 z).mk' 25 (.row 3 .int (([]:AcP)++((zJ .con z.2.1 z.1.toNat).vars)))).put 28 (.own 25)))/\(N (zD 631) (O1 z))/\(N (zD 823) (O2 z))/\(N (zD 1591) (O3 z))):=by kernel_rfl
theorem zdU:xH K 12 (zD 567) (S3 z):=zX hK (λ_ _ h=>h) ((zi7 z _).mpr ⟨⟨h.1,zU hK (by kernel_rfl) (zlb z hK h hk)⟩,EV z hK h hk,EW z hK h hk,EX z hK h hk⟩)
omit hK h hk in
theorem zi8(N:Array Bool->St->Prop):xN K N (zD 615) (S4 z)=((yX .int (([]:AcP).length+((zJ .con z.2.1 z.1.toNat).vars).length)=true/\N (zD 623) (((S4 z).mk' 25 (.row 3 .int (([]:AcP)++((zJ .con z.2.1 z.1.toNat).vars)))).put 28 (.own 25)))/\(N (zD 631) (((S4 z).mk' 29 (.row 3 .int ([]:AcP))).put 29 (.own 29)))/\(N (zD 871) (O4 z))/\(N (zD 1639) (O5 z))):=by kernel_rfl
theorem zdV:xH K 12 (zD 615) (S4 z):=zX hK (λ_ _ h=>h) ((zi8 z _).mpr ⟨⟨h.1,zU hK (by kernel_rfl) (zlc z hK h hk)⟩,zU hK (by kernel_rfl) (EV z hK h hk),EY z hK h hk,EZ z hK h hk⟩)
omit hK h hk in
theorem zi9(N:Array Bool->St->Prop):xN K N (zD 807) (S5 z)=((yX .int (([]:AcP).length+((zJ .con z.2.1 z.1.toNat).vars).length)=true/\N (zD 815) (((S5 z).mk' 25 (.row 3 .int (([]:AcP)++((zJ .con z.2.1 z.1.toNat).vars)))).put 28 (.own 25)))/\(N (zD 823) (((S5 z).mk' 29 (.row 3 .int ([]:AcP))).put 29 (.own 29)))/\(N (zD 871) ((S5 z).put 31 (.sl .int ((zJ .con z.2.1 z.1.toNat).consts))))/\(N (zD 1831) (O6 z))):=by kernel_rfl
theorem zdW:xH K 12 (zD 807) (S5 z):=zX hK (λ_ _ h=>h) ((zi9 z _).mpr ⟨⟨h.1,zU hK (by kernel_rfl) (zld z hK h hk)⟩,zU hK (by kernel_rfl) (EW z hK h hk),zU hK (by kernel_rfl) (EY z hK h hk),E0 z hK h hk⟩)
omit hK h hk in
theorem zja(N:Array Bool->St->Prop):xN K N (zD 1575) (S6 z)=((yX .int (([]:AcP).length+((zJ .con z.2.1 z.1.toNat).vars).length)=true/\N (zD 1583) (((S6 z).mk' 25 (.row 3 .int (([]:AcP)++((zJ .con z.2.1 z.1.toNat).vars)))).put 28 (.own 25)))/\(N (zD 1591) (((S6 z).mk' 29 (.row 3 .int ([]:AcP))).put 29 (.own 29)))/\(N (zD 1639) ((S6 z).put 31 (.sl .int ((zJ .con z.2.1 z.1.toNat).consts))))/\(N (zD 1831) (((S6 z).mk' 33 (.row 66 .lit ([]:AcR))).put 33 (.own 33)))):=by kernel_rfl
theorem zdX:xH K 12 (zD 1575) (S6 z):=zX hK (λ_ _ h=>h) ((zja z _).mpr ⟨⟨h.1,zU hK (by kernel_rfl) (zle z hK h hk)⟩,zU hK (by kernel_rfl) (EX z hK h hk),zU hK (by kernel_rfl) (EZ z hK h hk),zU hK (by kernel_rfl) (E0 z hK h hk)⟩)
omit hK h hk in
theorem zjb(N:Array Bool->St->Prop):xN K N (zD 627) (OH z)=((N (zD 631) ((OH z).put 27 (.sl .int ((zJ .con z.2.1 z.1.toNat).vars))))/\(N (zD 883) (Jj z))/\(N (zD 1651) (Jk z))):=by kernel_rfl
theorem zdY:xH K 12 (zD 627) (OH z):=zX hK (λ_ _ h=>h) ((zjb z _).mpr ⟨zU hK (by kernel_rfl) (EV z hK h hk),E3 z hK h hk,E4 z hK h hk⟩)
omit hK h hk in
theorem zjc(N:Array Bool->St->Prop):xN K N (zD 819) (OI z)=((N (zD 823) ((OI z).put 27 (.sl .int ((zJ .con z.2.1 z.1.toNat).vars))))/\(N (zD 883) ((OI z).put 31 (.sl .int ((zJ .con z.2.1 z.1.toNat).consts))))/\(N (zD 1843) (Jl z))):=by kernel_rfl
theorem zdZ:xH K 12 (zD 819) (OI z):=zX hK (λ_ _ h=>h) ((zjc z _).mpr ⟨zU hK (by kernel_rfl) (EW z hK h hk),zU hK (by kernel_rfl) (E3 z hK h hk),E5 z hK h hk⟩)
omit hK h hk in
theorem zjd(N:Array Bool->St->Prop):xN K N (zD 1587) (OJ z)=((N (zD 1591) ((OJ z).put 27 (.sl .int ((zJ .con z.2.1 z.1.toNat).vars))))/\(N (zD 1651) ((OJ z).put 31 (.sl .int ((zJ .con z.2.1 z.1.toNat).consts))))/\(N (zD 1843) (((OJ z).mk' 33 (.row 66 .lit ([]:AcR))).put 33 (.own 33)))):=by kernel_rfl
theorem zd0:xH K 12 (zD 1587) (OJ z):=zX hK (λ_ _ h=>h) ((zjd z _).mpr ⟨zU hK (by kernel_rfl) (EX z hK h hk),zU hK (by kernel_rfl) (E4 z hK h hk),zU hK (by kernel_rfl) (E5 z hK h hk)⟩)
omit hK h hk in
theorem zje(N:Array Bool->St->Prop):xN K N (zD 867) (OK z)=((N (zD 871) ((OK z).put 27 (.sl .int ((zJ .con z.2.1 z.1.toNat).vars))))/\(N (zD 883) (((OK z).mk' 29 (.row 3 .int ([]:AcP))).put 29 (.own 29)))/\(N (zD 1891) (Jm z))):=by kernel_rfl
theorem zd1:xH K 12 (zD 867) (OK z):=zX hK (λ_ _ h=>h) ((zje z _).mpr ⟨zU hK (by kernel_rfl) (EY z hK h hk),zU hK (by kernel_rfl) (E3 z hK h hk),E6 z hK h hk⟩)
omit hK h hk in
theorem zjf(N:Array Bool->St->Prop):xN K N (zD 1635) (OL z)=((N (zD 1639) ((OL z).put 27 (.sl .int ((zJ .con z.2.1 z.1.toNat).vars))))/\(N (zD 1651) (((OL z).mk' 29 (.row 3 .int ([]:AcP))).put 29 (.own 29)))/\(N (zD 1891) (((OL z).mk' 33 (.row 66 .lit ([]:AcR))).put 33 (.own 33)))):=by kernel_rfl
theorem zd2:xH K 12 (zD 1635) (OL z):=zX hK (λ_ _ h=>h) ((zjf z _).mpr ⟨zU hK (by kernel_rfl) (EZ z hK h hk),zU hK (by kernel_rfl) (E4 z hK h hk),zU hK (by kernel_rfl) (E6 z hK h hk)⟩)
omit hK h hk in
theorem zjg(N:Array Bool->St->Prop):xN K N (zD 1827) (OM z)=((N (zD 1831) ((OM z).put 27 (.sl .int ((zJ .con z.2.1 z.1.toNat).vars))))/\(N (zD 1843) (((OM z).mk' 29 (.row 3 .int ([]:AcP))).put 29 (.own 29)))/\(N (zD 1891) ((OM z).put 31 (.sl .int ((zJ .con z.2.1 z.1.toNat).consts))))):=by kernel_rfl
theorem zd3:xH K 12 (zD 1827) (OM z):=zX hK (λ_ _ h=>h) ((zjg z _).mpr ⟨zU hK (by kernel_rfl) (E0 z hK h hk),zU hK (by kernel_rfl) (E5 z hK h hk),zU hK (by kernel_rfl) (E6 z hK h hk)⟩)
omit hK h hk in
theorem zjh(N:Array Bool->St->Prop):xN K N (zD 630) (ON z)=((N (zD 631) (((ON z).mk' 25 (.row 3 .int ([]:AcP))).put 25 (.own 25)))/\(N (zD 886) (Jn z))/\(N (zD 1654) (Jo z))):=by kernel_rfl
theorem zd4:xH K 12 (zD 630) (ON z):=zX hK (λ_ _ h=>h) ((zjh z _).mpr ⟨zU hK (by kernel_rfl) (EV z hK h hk),E7 z hK h hk,E8 z hK h hk⟩)
omit hK h hk in
theorem zji(N:Array Bool->St->Prop):xN K N (zD 822) (OO z)=((N (zD 823) (((OO z).mk' 25 (.row 3 .int ([]:AcP))).put 25 (.own 25)))/\(N (zD 886) ((OO z).put 31 (.sl .int ((zJ .con z.2.1 z.1.toNat).consts))))/\(N (zD 1846) (Jp z))):=by kernel_rfl
theorem zd5:xH K 12 (zD 822) (OO z):=zX hK (λ_ _ h=>h) ((zji z _).mpr ⟨zU hK (by kernel_rfl) (EW z hK h hk),zU hK (by kernel_rfl) (E7 z hK h hk),E9 z hK h hk⟩)
omit hK h hk in
theorem zjj(N:Array Bool->St->Prop):xN K N (zD 1590) (OP z)=((N (zD 1591) (((OP z).mk' 25 (.row 3 .int ([]:AcP))).put 25 (.own 25)))/\(N (zD 1654) ((OP z).put 31 (.sl .int ((zJ .con z.2.1 z.1.toNat).consts))))/\(N (zD 1846) (((OP z).mk' 33 (.row 66 .lit ([]:AcR))).put 33 (.own 33)))):=by kernel_rfl
theorem zd6:xH K 12 (zD 1590) (OP z):=zX hK (λ_ _ h=>h) ((zjj z _).mpr ⟨zU hK (by kernel_rfl) (EX z hK h hk),zU hK (by kernel_rfl) (E8 z hK h hk),zU hK (by kernel_rfl) (E9 z hK h hk)⟩)
omit hK h hk in
theorem zjk(N:Array Bool->St->Prop):xN K N (zD 870) (OQ z)=((N (zD 871) (((OQ z).mk' 25 (.row 3 .int ([]:AcP))).put 25 (.own 25)))/\(N (zD 886) (((OQ z).mk' 29 (.row 3 .int ([]:AcP))).put 29 (.own 29)))/\(N (zD 1894) (Jq z))):=by kernel_rfl
theorem zd7:xH K 12 (zD 870) (OQ z):=zX hK (λ_ _ h=>h) ((zjk z _).mpr ⟨zU hK (by kernel_rfl) (EY z hK h hk),zU hK (by kernel_rfl) (E7 z hK h hk),Da z hK h hk⟩)
omit hK h hk in
theorem zjl(N:Array Bool->St->Prop):xN K N (zD 1638) (OR z)=((N (zD 1639) (((OR z).mk' 25 (.row 3 .int ([]:AcP))).put 25 (.own 25)))/\(N (zD 1654) (((OR z).mk' 29 (.row 3 .int ([]:AcP))).put 29 (.own 29)))/\(N (zD 1894) (((OR z).mk' 33 (.row 66 .lit ([]:AcR))).put 33 (.own 33)))):=by kernel_rfl
theorem zd8:xH K 12 (zD 1638) (OR z):=zX hK (λ_ _ h=>h) ((zjl z _).mpr ⟨zU hK (by kernel_rfl) (EZ z hK h hk),zU hK (by kernel_rfl) (E8 z hK h hk),zU hK (by kernel_rfl) (Da z hK h hk)⟩)
omit hK h hk in
theorem zjm(N:Array Bool->St->Prop):xN K N (zD 1830) (OS z)=((N (zD 1831) (((OS z).mk' 25 (.row 3 .int ([]:AcP))).put 25 (.own 25)))/\(N (zD 1846) (((OS z).mk' 29 (.row 3 .int ([]:AcP))).put 29 (.own 29)))/\(N (zD 1894) ((OS z).put 31 (.sl .int ((zJ .con z.2.1 z.1.toNat).consts))))):=by kernel_rfl
theorem zd9:xH K 12 (zD 1830) (OS z):=zX hK (λ_ _ h=>h) ((zjm z _).mpr ⟨zU hK (by kernel_rfl) (E0 z hK h hk),zU hK (by kernel_rfl) (E9 z hK h hk),zU hK (by kernel_rfl) (Da z hK h hk)⟩)
omit hK h hk in
theorem zjn(N:Array Bool->St->Prop):xN K N (zD 882) (OT z)=((N (zD 883) (((OT z).mk' 25 (.row 3 .int ([]:AcP))).put 25 (.own 25)))/\(N (zD 886) ((OT z).put 27 (.sl .int ((zJ .con z.2.1 z.1.toNat).vars))))/\(N (zD 1906) (Jr z))):=by kernel_rfl
theorem zea:xH K 12 (zD 882) (OT z):=zX hK (λ_ _ h=>h) ((zjn z _).mpr ⟨zU hK (by kernel_rfl) (E3 z hK h hk),zU hK (by kernel_rfl) (E7 z hK h hk),Db z hK h hk⟩)
omit hK h hk in
theorem zjo(N:Array Bool->St->Prop):xN K N (zD 1650) (OU z)=((N (zD 1651) (((OU z).mk' 25 (.row 3 .int ([]:AcP))).put 25 (.own 25)))/\(N (zD 1654) ((OU z).put 27 (.sl .int ((zJ .con z.2.1 z.1.toNat).vars))))/\(N (zD 1906) (((OU z).mk' 33 (.row 66 .lit ([]:AcR))).put 33 (.own 33)))):=by kernel_rfl
theorem zeb:xH K 12 (zD 1650) (OU z):=zX hK (λ_ _ h=>h) ((zjo z _).mpr ⟨zU hK (by kernel_rfl) (E4 z hK h hk),zU hK (by kernel_rfl) (E8 z hK h hk),zU hK (by kernel_rfl) (Db z hK h hk)⟩)
omit hK h hk in
theorem zjp(N:Array Bool->St->Prop):xN K N (zD 1842) (OV z)=((N (zD 1843) (((OV z).mk' 25 (.row 3 .int ([]:AcP))).put 25 (.own 25)))/\(N (zD 1846) ((OV z).put 27 (.sl .int ((zJ .con z.2.1 z.1.toNat).vars))))/\(N (zD 1906) ((OV z).put 31 (.sl .int ((zJ .con z.2.1 z.1.toNat).consts))))):=by kernel_rfl
theorem zec:xH K 12 (zD 1842) (OV z):=zX hK (λ_ _ h=>h) ((zjp z _).mpr ⟨zU hK (by kernel_rfl) (E5 z hK h hk),zU hK (by kernel_rfl) (E9 z hK h hk),zU hK (by kernel_rfl) (Db z hK h hk)⟩)
omit hK h hk in
theorem zjq(N:Array Bool->St->Prop):xN K N (zD 1890) (OW z)=((N (zD 1891) (((OW z).mk' 25 (.row 3 .int ([]:AcP))).put 25 (.own 25)))/\(N (zD 1894) ((OW z).put 27 (.sl .int ((zJ .con z.2.1 z.1.toNat).vars))))/\(N (zD 1906) (((OW z).mk' 29 (.row 3 .int ([]:AcP))).put 29 (.own 29)))):=by kernel_rfl
theorem zed:xH K 12 (zD 1890) (OW z):=zX hK (λ_ _ h=>h) ((zjq z _).mpr ⟨zU hK (by kernel_rfl) (E6 z hK h hk),zU hK (by kernel_rfl) (Da z hK h hk),zU hK (by kernel_rfl) (Db z hK h hk)⟩)
omit hK h hk in
theorem zmM(N:Array Bool->St->Prop):xN K N (zD 551) (P6 z)=((yX .int (([]:AcP).length+((zJ .con z.2.1 z.1.toNat).vars).length)=true/\N (zD 559) (S0 z))/\(N (zD 567) (S3 z))/\(N (zD 615) (S4 z))/\(N (zD 807) (S5 z))/\(N (zD 1575) (S6 z))):=by kernel_rfl
theorem zpl:xH K 13 (zD 551) (P6 z):=zX hK (λ_ _ h=>h) ((zmM z _).mpr ⟨⟨h.1,zrX z hK h hk⟩,zdU z hK h hk,zdV z hK h hk,zdW z hK h hk,zdX z hK h hk⟩)
omit hK h hk in
theorem zmN(N:Array Bool->St->Prop):xN K N (zD 563) (Lw z)=((N (zD 567) ((Lw z).put 27 (.sl .int ((zJ .con z.2.1 z.1.toNat).vars))))/\(N (zD 627) (OH z))/\(N (zD 819) (OI z))/\(N (zD 1587) (OJ z))):=by kernel_rfl
theorem zpm:xH K 13 (zD 563) (Lw z):=zX hK (λ_ _ h=>h) ((zmN z _).mpr ⟨zU hK (by kernel_rfl) (zdU z hK h hk),zdY z hK h hk,zdZ z hK h hk,zd0 z hK h hk⟩)
omit hK h hk in
theorem zmO(N:Array Bool->St->Prop):xN K N (zD 611) (Lx z)=((N (zD 615) ((Lx z).put 27 (.sl .int ((zJ .con z.2.1 z.1.toNat).vars))))/\(N (zD 627) (((Lx z).mk' 29 (.row 3 .int ([]:AcP))).put 29 (.own 29)))/\(N (zD 867) (OK z))/\(N (zD 1635) (OL z))):=by kernel_rfl
theorem zpn:xH K 13 (zD 611) (Lx z):=zX hK (λ_ _ h=>h) ((zmO z _).mpr ⟨zU hK (by kernel_rfl) (zdV z hK h hk),zU hK (by kernel_rfl) (zdY z hK h hk),zd1 z hK h hk,zd2 z hK h hk⟩)
omit hK h hk in
theorem zjr(N:Array Bool->St->Prop):xN K N (zD 803) (SO z)=((N (zD 807) ((SO z).put 27 (.sl .int ((zJ .con z.2.1 z.1.toNat).vars))))/\(N (zD 819) (((SO z).mk' 29 (.row 3 .int ([]:AcP))).put 29 (.own 29)))/\(N (zD 867) ((SO z).put 31 (.sl .int ((zJ .con z.2.1 z.1.toNat).consts))))/\(N (zD 1827) (OM z))):=by kernel_rfl
theorem zlf:xH K 13 (zD 803) (SO z):=zX hK (λ_ _ h=>h) ((zjr z _).mpr ⟨zU hK (by kernel_rfl) (zdW z hK h hk),zU hK (by kernel_rfl) (zdZ z hK h hk),zU hK (by kernel_rfl) (zd1 z hK h hk),zd3 z hK h hk⟩)
omit hK h hk in
theorem zjs(N:Array Bool->St->Prop):xN K N (zD 1571) (SP z)=((N (zD 1575) ((SP z).put 27 (.sl .int ((zJ .con z.2.1 z.1.toNat).vars))))/\(N (zD 1587) (((SP z).mk' 29 (.row 3 .int ([]:AcP))).put 29 (.own 29)))/\(N (zD 1635) ((SP z).put 31 (.sl .int ((zJ .con z.2.1 z.1.toNat).consts))))/\(N (zD 1827) (((SP z).mk' 33 (.row 66 .lit ([]:AcR))).put 33 (.own 33)))):=by kernel_rfl
theorem zlg:xH K 13 (zD 1571) (SP z):=zX hK (λ_ _ h=>h) ((zjs z _).mpr ⟨zU hK (by kernel_rfl) (zdX z hK h hk),zU hK (by kernel_rfl) (zd0 z hK h hk),zU hK (by kernel_rfl) (zd2 z hK h hk),zU hK (by kernel_rfl) (zd3 z hK h hk)⟩)
omit hK h hk in
theorem zjt(N:Array Bool->St->Prop):xN K N (zD 566) (SQ z)=((N (zD 567) (((SQ z).mk' 25 (.row 3 .int ([]:AcP))).put 25 (.own 25)))/\(N (zD 630) (ON z))/\(N (zD 822) (OO z))/\(N (zD 1590) (OP z))):=by kernel_rfl
theorem zlh:xH K 13 (zD 566) (SQ z):=zX hK (λ_ _ h=>h) ((zjt z _).mpr ⟨zU hK (by kernel_rfl) (zdU z hK h hk),zd4 z hK h hk,zd5 z hK h hk,zd6 z hK h hk⟩)
omit hK h hk in
theorem zju(N:Array Bool->St->Prop):xN K N (zD 614) (SR z)=((N (zD 615) (((SR z).mk' 25 (.row 3 .int ([]:AcP))).put 25 (.own 25)))/\(N (zD 630) (((SR z).mk' 29 (.row 3 .int ([]:AcP))).put 29 (.own 29)))/\(N (zD 870) (OQ z))/\(N (zD 1638) (OR z))):=by kernel_rfl
theorem zli:xH K 13 (zD 614) (SR z):=zX hK (λ_ _ h=>h) ((zju z _).mpr ⟨zU hK (by kernel_rfl) (zdV z hK h hk),zU hK (by kernel_rfl) (zd4 z hK h hk),zd7 z hK h hk,zd8 z hK h hk⟩)
omit hK h hk in
theorem zjv(N:Array Bool->St->Prop):xN K N (zD 806) (SS z)=((N (zD 807) (((SS z).mk' 25 (.row 3 .int ([]:AcP))).put 25 (.own 25)))/\(N (zD 822) (((SS z).mk' 29 (.row 3 .int ([]:AcP))).put 29 (.own 29)))/\(N (zD 870) ((SS z).put 31 (.sl .int ((zJ .con z.2.1 z.1.toNat).consts))))/\(N (zD 1830) (OS z))):=by kernel_rfl
theorem zlj:xH K 13 (zD 806) (SS z):=zX hK (λ_ _ h=>h) ((zjv z _).mpr ⟨zU hK (by kernel_rfl) (zdW z hK h hk),zU hK (by kernel_rfl) (zd5 z hK h hk),zU hK (by kernel_rfl) (zd7 z hK h hk),zd9 z hK h hk⟩)
omit hK h hk in
theorem zjw(N:Array Bool->St->Prop):xN K N (zD 1574) (ST z)=((N (zD 1575) (((ST z).mk' 25 (.row 3 .int ([]:AcP))).put 25 (.own 25)))/\(N (zD 1590) (((ST z).mk' 29 (.row 3 .int ([]:AcP))).put 29 (.own 29)))/\(N (zD 1638) ((ST z).put 31 (.sl .int ((zJ .con z.2.1 z.1.toNat).consts))))/\(N (zD 1830) (((ST z).mk' 33 (.row 66 .lit ([]:AcR))).put 33 (.own 33)))):=by kernel_rfl
theorem zlk:xH K 13 (zD 1574) (ST z):=zX hK (λ_ _ h=>h) ((zjw z _).mpr ⟨zU hK (by kernel_rfl) (zdX z hK h hk),zU hK (by kernel_rfl) (zd6 z hK h hk),zU hK (by kernel_rfl) (zd8 z hK h hk),zU hK (by kernel_rfl) (zd9 z hK h hk)⟩)
omit hK h hk in
theorem zjx(N:Array Bool->St->Prop):xN K N (zD 626) (SU z)=((N (zD 627) (((SU z).mk' 25 (.row 3 .int ([]:AcP))).put 25 (.own 25)))/\(N (zD 630) ((SU z).put 27 (.sl .int ((zJ .con z.2.1 z.1.toNat).vars))))/\(N (zD 882) (OT z))/\(N (zD 1650) (OU z))):=by kernel_rfl
theorem zll:xH K 13 (zD 626) (SU z):=zX hK (λ_ _ h=>h) ((zjx z _).mpr ⟨zU hK (by kernel_rfl) (zdY z hK h hk),zU hK (by kernel_rfl) (zd4 z hK h hk),zea z hK h hk,zeb z hK h hk⟩)
omit hK h hk in
theorem zjy(N:Array Bool->St->Prop):xN K N (zD 818) (SV z)=((N (zD 819) (((SV z).mk' 25 (.row 3 .int ([]:AcP))).put 25 (.own 25)))/\(N (zD 822) ((SV z).put 27 (.sl .int ((zJ .con z.2.1 z.1.toNat).vars))))/\(N (zD 882) ((SV z).put 31 (.sl .int ((zJ .con z.2.1 z.1.toNat).consts))))/\(N (zD 1842) (OV z))):=by kernel_rfl
theorem zlm:xH K 13 (zD 818) (SV z):=zX hK (λ_ _ h=>h) ((zjy z _).mpr ⟨zU hK (by kernel_rfl) (zdZ z hK h hk),zU hK (by kernel_rfl) (zd5 z hK h hk),zU hK (by kernel_rfl) (zea z hK h hk),zec z hK h hk⟩)
omit hK h hk in
theorem zjz(N:Array Bool->St->Prop):xN K N (zD 1586) (SW z)=((N (zD 1587) (((SW z).mk' 25 (.row 3 .int ([]:AcP))).put 25 (.own 25)))/\(N (zD 1590) ((SW z).put 27 (.sl .int ((zJ .con z.2.1 z.1.toNat).vars))))/\(N (zD 1650) ((SW z).put 31 (.sl .int ((zJ .con z.2.1 z.1.toNat).consts))))/\(N (zD 1842) (((SW z).mk' 33 (.row 66 .lit ([]:AcR))).put 33 (.own 33)))):=by kernel_rfl
theorem zln:xH K 13 (zD 1586) (SW z):=zX hK (λ_ _ h=>h) ((zjz z _).mpr ⟨zU hK (by kernel_rfl) (zd0 z hK h hk),zU hK (by kernel_rfl) (zd6 z hK h hk),zU hK (by kernel_rfl) (zeb z hK h hk),zU hK (by kernel_rfl) (zec z hK h hk)⟩)
omit hK h hk in
theorem zjA(N:Array Bool->St->Prop):xN K N (zD 866) (SX z)=((N (zD 867) (((SX z).mk' 25 (.row 3 .int ([]:AcP))).put 25 (.own 25)))/\(N (zD 870) ((SX z).put 27 (.sl .int ((zJ .con z.2.1 z.1.toNat).vars))))/\(N (zD 882) (((SX z).mk' 29 (.row 3 .int ([]:AcP))).put 29 (.own 29)))/\(N (zD 1890) (OW z))):=by kernel_rfl
theorem zlo:xH K 13 (zD 866) (SX z):=zX hK (λ_ _ h=>h) ((zjA z _).mpr ⟨zU hK (by kernel_rfl) (zd1 z hK h hk),zU hK (by kernel_rfl) (zd7 z hK h hk),zU hK (by kernel_rfl) (zea z hK h hk),zed z hK h hk⟩)
omit hK h hk in
theorem zjB(N:Array Bool->St->Prop):xN K N (zD 1634) (SY z)=((N (zD 1635) (((SY z).mk' 25 (.row 3 .int ([]:AcP))).put 25 (.own 25)))/\(N (zD 1638) ((SY z).put 27 (.sl .int ((zJ .con z.2.1 z.1.toNat).vars))))/\(N (zD 1650) (((SY z).mk' 29 (.row 3 .int ([]:AcP))).put 29 (.own 29)))/\(N (zD 1890) (((SY z).mk' 33 (.row 66 .lit ([]:AcR))).put 33 (.own 33)))):=by kernel_rfl
theorem zlp:xH K 13 (zD 1634) (SY z):=zX hK (λ_ _ h=>h) ((zjB z _).mpr ⟨zU hK (by kernel_rfl) (zd2 z hK h hk),zU hK (by kernel_rfl) (zd8 z hK h hk),zU hK (by kernel_rfl) (zeb z hK h hk),zU hK (by kernel_rfl) (zed z hK h hk)⟩)
omit hK h hk in
theorem zjC(N:Array Bool->St->Prop):xN K N (zD 1826) (SZ z)=((N (zD 1827) (((SZ z).mk' 25 (.row 3 .int ([]:AcP))).put 25 (.own 25)))/\(N (zD 1830) ((SZ z).put 27 (.sl .int ((zJ .con z.2.1 z.1.toNat).vars))))/\(N (zD 1842) (((SZ z).mk' 29 (.row 3 .int ([]:AcP))).put 29 (.own 29)))/\(N (zD 1890) ((SZ z).put 31 (.sl .int ((zJ .con z.2.1 z.1.toNat).consts))))):=by kernel_rfl
theorem zlq:xH K 13 (zD 1826) (SZ z):=zX hK (λ_ _ h=>h) ((zjC z _).mpr ⟨zU hK (by kernel_rfl) (zd3 z hK h hk),zU hK (by kernel_rfl) (zd9 z hK h hk),zU hK (by kernel_rfl) (zec z hK h hk),zU hK (by kernel_rfl) (zed z hK h hk)⟩)
omit hK h hk in
theorem zmP(N:Array Bool->St->Prop):xN K N (zD 547) (P0 z)=((N (zD 551) (P6 z))/\(N (zD 563) (Lw z))/\(N (zD 611) (Lx z))/\(N (zD 803) (SO z))/\(N (zD 1571) (SP z))):=by kernel_rfl
theorem zts:xH K 14 (zD 547) (P0 z):=zX hK (λ_ _ h=>h) ((zmP z _).mpr ⟨zpl z hK h hk,zpm z hK h hk,zpn z hK h hk,zlf z hK h hk,zlg z hK h hk⟩)
omit hK h hk in
theorem zmQ(N:Array Bool->St->Prop):xN K N (zD 550) (P1 z)=((N (zD 551) (((P1 z).mk' 25 (.row 3 .int ([]:AcP))).put 25 (.own 25)))/\(N (zD 566) (SQ z))/\(N (zD 614) (SR z))/\(N (zD 806) (SS z))/\(N (zD 1574) (ST z))):=by kernel_rfl
theorem ztt:xH K 14 (zD 550) (P1 z):=zX hK (λ_ _ h=>h) ((zmQ z _).mpr ⟨zU hK (by kernel_rfl) (zpl z hK h hk),zlh z hK h hk,zli z hK h hk,zlj z hK h hk,zlk z hK h hk⟩)
omit hK h hk in
theorem zmR(N:Array Bool->St->Prop):xN K N (zD 562) (P2 z)=((N (zD 563) (((P2 z).mk' 25 (.row 3 .int ([]:AcP))).put 25 (.own 25)))/\(N (zD 566) ((P2 z).put 27 (.sl .int ((zJ .con z.2.1 z.1.toNat).vars))))/\(N (zD 626) (SU z))/\(N (zD 818) (SV z))/\(N (zD 1586) (SW z))):=by kernel_rfl
theorem ztu:xH K 14 (zD 562) (P2 z):=zX hK (λ_ _ h=>h) ((zmR z _).mpr ⟨zU hK (by kernel_rfl) (zpm z hK h hk),zU hK (by kernel_rfl) (zlh z hK h hk),zll z hK h hk,zlm z hK h hk,zln z hK h hk⟩)
omit hK h hk in
theorem zmS(N:Array Bool->St->Prop):xN K N (zD 610) (P3 z)=((N (zD 611) (((P3 z).mk' 25 (.row 3 .int ([]:AcP))).put 25 (.own 25)))/\(N (zD 614) ((P3 z).put 27 (.sl .int ((zJ .con z.2.1 z.1.toNat).vars))))/\(N (zD 626) (((P3 z).mk' 29 (.row 3 .int ([]:AcP))).put 29 (.own 29)))/\(N (zD 866) (SX z))/\(N (zD 1634) (SY z))):=by kernel_rfl
theorem ztv:xH K 14 (zD 610) (P3 z):=zX hK (λ_ _ h=>h) ((zmS z _).mpr ⟨zU hK (by kernel_rfl) (zpn z hK h hk),zU hK (by kernel_rfl) (zli z hK h hk),zU hK (by kernel_rfl) (zll z hK h hk),zlo z hK h hk,zlp z hK h hk⟩)
omit hK h hk in
theorem zmT(N:Array Bool->St->Prop):xN K N (zD 802) (P4 z)=((N (zD 803) (((P4 z).mk' 25 (.row 3 .int ([]:AcP))).put 25 (.own 25)))/\(N (zD 806) ((P4 z).put 27 (.sl .int ((zJ .con z.2.1 z.1.toNat).vars))))/\(N (zD 818) (((P4 z).mk' 29 (.row 3 .int ([]:AcP))).put 29 (.own 29)))/\(N (zD 866) ((P4 z).put 31 (.sl .int ((zJ .con z.2.1 z.1.toNat).consts))))/\(N (zD 1826) (SZ z))):=by kernel_rfl
theorem ztw:xH K 14 (zD 802) (P4 z):=zX hK (λ_ _ h=>h) ((zmT z _).mpr ⟨zU hK (by kernel_rfl) (zlf z hK h hk),zU hK (by kernel_rfl) (zlj z hK h hk),zU hK (by kernel_rfl) (zlm z hK h hk),zU hK (by kernel_rfl) (zlo z hK h hk),zlq z hK h hk⟩)
omit hK h hk in
theorem zmU(N:Array Bool->St->Prop):xN K N (zD 1570) (P5 z)=((N (zD 1571) (((P5 z).mk' 25 (.row 3 .int ([]:AcP))).put 25 (.own 25)))/\(N (zD 1574) ((P5 z).put 27 (.sl .int ((zJ .con z.2.1 z.1.toNat).vars))))/\(N (zD 1586) (((P5 z).mk' 29 (.row 3 .int ([]:AcP))).put 29 (.own 29)))/\(N (zD 1634) ((P5 z).put 31 (.sl .int ((zJ .con z.2.1 z.1.toNat).consts))))/\(N (zD 1826) (((P5 z).mk' 33 (.row 66 .lit ([]:AcR))).put 33 (.own 33)))):=by kernel_rfl
theorem ztx:xH K 14 (zD 1570) (P5 z):=zX hK (λ_ _ h=>h) ((zmU z _).mpr ⟨zU hK (by kernel_rfl) (zlg z hK h hk),zU hK (by kernel_rfl) (zlk z hK h hk),zU hK (by kernel_rfl) (zln z hK h hk),zU hK (by kernel_rfl) (zlp z hK h hk),zU hK (by kernel_rfl) (zlq z hK h hk)⟩)
omit hK h hk in
theorem zmV(N:Array Bool->St->Prop):xN K N (zD 546) (UM z)=((N (zD 547) (P0 z))/\(N (zD 550) (P1 z))/\(N (zD 562) (P2 z))/\(N (zD 610) (P3 z))/\(N (zD 802) (P4 z))/\(N (zD 1570) (P5 z))):=by kernel_rfl
theorem zty:xH K 15 (zD 546) (UM z):=zX hK (λ_ _ h=>h) ((zmV z _).mpr ⟨zts z hK h hk,ztt z hK h hk,ztu z hK h hk,ztv z hK h hk,ztw z hK h hk,ztx z hK h hk⟩)
end
theorem TT(a:Int)(b:AcV)(c d:Int)(e:AcU)(f:AcV)(g h:Int)(i:AcV)(j:AcU){K:St->Prop}(k:yX .int (([]:AcP).length+((zJ .con b a.toNat).vars).length)=true)(l:yX .int (([]:AcP).length+((zJ .con b a.toNat).consts).length)=true)(m:yX .lit (([]:AcR).length+((zJ .con b a.toNat).lits).length)=true)(hk:K (JI (a,b,c,d,e,f,g,h,i,j))):xH (zkp K) 15 (zD 546) (UM (a,b,c,d,e,f,g,h,i,j)):=zty (a,b,c,d,e,f,g,h,i,j) zg4 ⟨k,l,m⟩ ⟨_,.refl _,hk⟩
def oE(R:xI)(c:Nat)(a:Int)(b:AcV)(d e:Int)(f:AcU)(g:AcV)(h i:Int)(j:Nat)(k:Int)(l:AcV)(m:AcQ)(n:AcU)(o p:AcP)(q:AcR):Prop:=LP yC f9 [1,1,1,0,1,0,0,1,0,0,1,1,1,0,1,0,0] 2 j ⟨[(1,.ptr 1 0),(2,.ptr 2 0),(3,.own 3),(4,dI a),(5,.ptr 5 0),(6,.own 6),(7,dI k)],[(1,.cells [.own 8,.sl .con b,dI d,dI e]),(2,.cells [.sl .var f,.sl .con g,dI h,dI i]),(3,.row 52 .con l),(5,.cells [dI ((zJ .con b a.toNat).kind),.own 25,.own 29,dI ((zJ .con b a.toNat).n),dS ((zJ .con b a.toNat).rows),.own 33]),(6,.row 28 (.list .int) m),(8,.row 49 .var n),(25,.row 3 .int o),(29,.row 3 .int p),(33,.row 66 .lit q)]⟩ (zP 2 (sK yC f9 [1,1,1,0,1,0,0,1,0,0,1,1,1,1] 1 (zP 1 (sK yC f9 [1,1,1,0,1,0,0,1,1] 0 (iK yC f9 [1,1,1,0,1,0,0] 0 c (zP 0 (sK yC f9 [1,1,1,1] 0 (eK f9 R))))))))
def oF(R:xI)(a:Nat)(b:Int)(c:AcV)(d e:Int)(f:AcU)(g:AcV)(h i:Int)(j:AcV)(k:AcU):Prop:=LP yC f9 [1,1,1,0,1,0,0] 0 a ⟨[(1,.ptr 1 0),(2,.ptr 2 0),(3,.own 3),(4,dI b)],[(1,.cells [.own 8,.sl .con c,dI d,dI e]),(2,.cells [.sl .var f,.sl .con g,dI h,dI i]),(3,.row 52 .con j),(8,.row 49 .var k)]⟩ (zP 0 (sK yC f9 [1,1,1,1] 0 (eK f9 R)))
theorem Vr(l:zE)(R:xI)(c:Nat)(a:Int)(b:AcV)(d e:Int)(f:AcU)(g:AcV)(h i:Int)(j:AcV)(k:AcU):(sK yC f9 [1,1,1,0,1,0,0,1,0,0,1,1] 1 (zP 1 (sK yC f9 [1,1,1,0,1,0,0,1,1] 0 (iK yC f9 [1,1,1,0,1,0,0] 0 c (zP 0 (sK yC f9 [1,1,1,1] 0 (eK f9 R))))))) .normal (JI (a,b,d,e,f,g,h,i,j,k))=
 (∃n2,oE R c a b d e f g h i n2 0 j ([]:AcQ) k (([]:AcP)++((zJ .con b a.toNat).vars)) (([]:AcP)++((zJ .con b a.toNat).consts)) (([]:AcR)++((zJ .con b a.toNat).lits))):=by kernel_rfl
theorem Wz(R:xI)(i:Nat)(a:Int)(b:AcV)(j k:Int)(l:AcU)(m:AcV)(n o:Int)(q:Nat)(c:Int)(e:AcV)(d:AcQ)(p:AcU)(f g:AcP)(h:AcR):oE R i a b j k l m n o (q+1) c e d p f g h=
 (zT (decide (c<(((zJ .con b a.toNat).rows).length:Int)))
 (wW c ((zJ .con b a.toNat).rows).length=true/\yX .int (([]:AcP).length+(zJ (.list .int) ((zJ .con b a.toNat).rows) c.toNat).length)=true/\yX (.list .int) (d.length+([([]:AcP)++(zJ (.list .int) ((zJ .con b a.toNat).rows) c.toNat)]).length)=true/\oE R i a b j k l m n o q (yU (c+1)) e (d++([([]:AcP)++(zJ (.list .int) ((zJ .con b a.toNat).rows) c.toNat)])) p f g h)
 (yX .con (e.length+([(⟨(zJ .con b a.toNat).kind,f,g,(zJ .con b a.toNat).n,d,h⟩:zF)]).length)=true/\oF R i (yU (a+1)) b j k l m n o (e++([(⟨(zJ .con b a.toNat).kind,f,g,(zJ .con b a.toNat).n,d,h⟩:zF)])) p)):=by kernel_rfl
theorem WA(R:xI)(g:Nat)(a:Int)(b:AcV)(c d:Int)(h:AcU)(i:AcV)(j k:Int)(e:AcV)(f:AcU):oF R (g+1) a b c d h i j k e f=
 (zT (decide (a<(b.length:Int)))
 (wW a b.length=true/\xH (zkp ((sK yC f9 [1,1,1,0,1,0,0,1,0,0,1,1] 1 (zP 1 (sK yC f9 [1,1,1,0,1,0,0,1,1] 0 (iK yC f9 [1,1,1,0,1,0,0] 0 g (zP 0 (sK yC f9 [1,1,1,1] 0 (eK f9 R))))))) .normal)) 15 (zD 546) (UM (a,b,c,d,h,i,j,k,e,f)))
 (R (.agg [.sl .var f,.sl .con e,dI c,dI d]))):=by kernel_rfl
theorem UN(a:zE)(R:xI):FD yC f9 [dM a] R=
 (yX .var (([]:AcU).length+a.vars.length)=true/\∃n0,oF R n0 0 a.cons a.goal a.var ([]:AcU) ([]:AcV) 0 0 ([]:AcV) (([]:AcU)++a.vars)):=by kernel_rfl
theorem VN(a:zE):wU yC f9 oW [dM a]:=wX func9 (by kernel_rfl) ntmps9 rfl
end Go.Proofs.YtdnmkinmcdihnaaGreatDoor
namespace Go.Proofs.YtdnmkinmcdihnaaGreatDoor
open Go.Proofs.Tryz
open Go.RowKit
set_option maxRecDepth 100000
variable[Lo]
def kE:xF:= {own:=[14],live:=[],n:=19}
theorem Yb(b:AcU)(c:AcV)(d e:Int)(a:AcY)(f:AcL)(R:oG):FH kE f52 [Ac3,.str f] (mK b c d e a) [Ac3] false R=
 (xT nO [Ac3] (mK b c d e a) (.tup []) (mK b c d e a)/\
 yX .byte (a.length+f.size)=true/\
 R (.tup [dI (f.size:Int),.undef]) (mK b c d e (a++f.data.toList))):=by kernel_rfl
theorem Zo(a:AcU)(b:AcV)(c d:Int)(e:AcY)(f:AcL):Xv kE f52 yB [Ac3,.str f] (mK a b c d e) [Ac3] false:=XY func52 (by kernel_rfl) ntmps52 rfl
end Go.Proofs.YtdnmkinmcdihnaaGreatDoor
namespace Go.Proofs.YtdnmkinmcdihnaaGreatDoor
open Go.Proofs.Tryz
def eJ(n:Int):AcL:=⟨(Lib.itoa n).toArray⟩
end Go.Proofs.YtdnmkinmcdihnaaGreatDoor
namespace Go.Proofs.YtdnmkinmcdihnaaGreatDoor
open Go.Proofs.Tryz
open Go.RowKit
variable[Lo]
def brS(l:Ac1):AcL:=(⟨#[91]⟩++⟨(Lib.join (l.map λx=>x.data.toList) [44,32]).toArray⟩)++⟨#[93]⟩
def J0(vs:AcU)(i:Int):AcL:=(zJ .var vs i.toNat).name
def ztz(o:Int):AcL:=zJ .str opW (o-1).toNat
def wdS(k:Int):AcL:=zJ .str NW (k-1).toNat
def Ly(vs:AcU)(x:zA):AcL:=(((J0 vs x.var++⟨#[32]⟩)++ztz x.op)++⟨#[32]⟩)++eJ x.n
def Yc(l:AcP):AcL:=brS (l.map eJ)
def XV(vs:AcU)(l:AcP):AcL:=brS (l.map (J0 vs))
def Vs(vs:AcU)(c:zF):AcL:=
 if c.kind<=3 then(((((wdS c.kind++⟨#[32]⟩)++Yc c.consts)++⟨#[32]⟩)++XV vs c.vars)++⟨#[32]⟩)++eJ c.n
 else if c.kind=4 then(wdS c.kind++⟨#[32]⟩)++XV vs c.vars
 else if c.kind=5 then(((((wdS c.kind++⟨#[32]⟩)++Yc c.consts)++⟨#[32]⟩)++J0 vs (zJ .int c.vars 0))++⟨#[32]⟩)++J0 vs (zJ .int c.vars 1)
 else if c.kind=6 then(((wdS c.kind++⟨#[32]⟩)++XV vs c.vars)++⟨#[32]⟩)++brS (c.rows.map Yc)
 else if c.kind=7 then(((((wdS c.kind++⟨#[32]⟩)++J0 vs (zJ .int c.vars 0))++⟨#[32]⟩)++J0 vs (zJ .int c.vars 1))++⟨#[32]⟩)++J0 vs (zJ .int c.vars 2)
 else if c.kind=8 then(((wdS c.kind++⟨#[32]⟩)++J0 vs (zJ .int c.vars 0))++⟨#[32]⟩)++XV vs (c.vars.drop 1)
 else if c.kind=9 then(wdS c.kind++⟨#[32]⟩)++brS (c.lits.map (Ly vs))
 else(((wdS c.kind++⟨#[32]⟩)++J0 vs (zJ .int c.vars 0))++⟨#[32]⟩)++Ly vs (zJ .lit c.lits 0)
def zjD(v:zO):AcL:=(((((⟨#[118,97,114,32]⟩++v.name)++⟨#[58,32]⟩)++eJ v.lo)++⟨#[46,46]⟩)++eJ v.hi)++⟨#[59,10]⟩
def zge(vs:AcU)(c:zF):AcL:=(⟨#[99,111,110,32]⟩++Vs vs c)++⟨#[59,10]⟩
def zbP(m:zE):AcL:=
 if m.goal=0 then⟨#[115,111,108,118,101,32,97,110,121,59,10]⟩
 else if m.goal=1 then(⟨#[115,111,108,118,101,32,108,101,97,115,116,32]⟩++J0 m.vars m.var)++⟨#[59,10]⟩
 else(⟨#[115,111,108,118,101,32,109,111,115,116,32]⟩++J0 m.vars m.var)++⟨#[59,10]⟩
def Yd(vs:AcU):AcY:=vs.flatMap λv=>(zjD v).data.toList
def RK(vs:AcU)(cs:AcV):AcY:=cs.flatMap λc=>(zge vs c).data.toList
def zpo(m:zE):AcY:=(Yd m.vars++RK m.vars m.cons)++(zbP m).data.toList
def zpp(m:zE):AcL:=⟨(zpo m).toArray⟩
theorem fL(a:Array UInt8):(⟨a⟩:AcL).size=a.size:=rfl
theorem BK{sep:AcY}{B:Nat}:∀(l:List AcY),(∀x∈l,x.length<=B)->(Lib.join l sep).length<=l.length*(B+sep.length)
 |[],_=>by simp[Lib.join]
 |[x],h=>by
  have:=h x (by simp)
  simp[Lib.join];omega
 |x::y::r,h=>by
  have ih:=BK (sep:=sep) (B:=B) (y::r) λz hz=>h z (Aac _ hz)
  have h1:=h x (by simp)
  have e:Lib.join (x::y::r) sep=x++sep++Lib.join (y::r) sep:=by simp[Lib.join,List.intercalate]
  rw[e,It,It,By (a:=x),Nat.add_mul];omega
theorem JQ{l:Ac1}{B:Nat}(h:∀x∈l,x.size<=B):(brS l).size<=l.length*(B+2)+2:=by
 have:=BK (sep:=[44,32]) (B:=B) (l.map λx=>x.data.toList) λx hx=>by
  obtain⟨y,hy,rfl⟩:=OF.1 hx;exact h y hy
 rw[Aae,show([44,32]:AcY).length=2 from rfl]at this
 unfold brS;simp only[Of,fL,On,By,IS];omega
end Go.Proofs.YtdnmkinmcdihnaaGreatDoor
namespace Go.Proofs.YtdnmkinmcdihnaaGreatDoor
open Go.Proofs.Tryz
open Go.RowKit
variable[Lo]
set_option maxRecDepth 100000 in
theorem zrY(b:Nat)(w:World)(h0:w.cell? ⟨b,0,none⟩=some (.pointer (some ⟨b,0,none⟩))):
  Calls prog 99 #[.pointer (some ⟨b,0,none⟩)] w λe w'=>e=.returned (.tuple #[])/\w'=w:=by
 have u:prog.underlying 114=some (.pointer 117):=by kernel_rfl
 obtain⟨j,hj⟩:∃j,prog.info? 117=some j:=Acu.1 (by kernel_rfl)
 go_enter func99,ntmps99
 go_wp2
 rw[Lib.run_neq_ptr_same w _ u hj]
 go_wp2
 go_end0
 exact⟨rfl,rfl⟩
set_option maxRecDepth 100000 in
theorem zpq(b n:Nat)(T:AcN)(w:World)(h0:w.cell? ⟨b,0,none⟩=some (.pointer none))(hsh:w.shape? b=some (T,n))(hn:0<n)(hfz:w.frozen? ⟨b,0,none⟩=false)
  (hl:liesAt prog prog.depth T (n/prog.cellsOf T) 0 117 1=true):
  Calls prog 99 #[.pointer (some ⟨b,0,none⟩)] w λe w'=>e=.returned (.tuple #[])/\w'=w.setCell ⟨b,0,none⟩ (.pointer (some ⟨b,0,none⟩)):=by
 have u:prog.underlying 114=some (.pointer 117):=by kernel_rfl
 have u2:prog.underlying 214=some .unsafePointer:=by kernel_rfl
 obtain⟨j,hj⟩:∃j,prog.info? 117=some j:=Acu.1 (by kernel_rfl)
 have hjs:j.size=2:=by
  have:(prog.info? 117).map (·.size)=some 2:=by kernel_rfl
  rw[hj]at this;simpa using this
 go_enter func99,ntmps99
 go_wp2
 rw[Lib.run_to_unsafe w ⟨b,0,none⟩ u u2 hj (by rw[hjs];decide) hsh hn]
 simp only[Result.andThen];rw[Oper.upon_value]
 go_wp2
 rw[run_callFunc_extern func153 (by kernel_rfl) (by kernel_rfl) (by kernel_rfl) (e:=Extern.AbiNoEscape.same) (by kernel_rfl)]
 rw[Lib.run_noEscape];simp only[Result.andThen];rw[Oper.upon_value]
 go_wp2
 rw[Lib.run_from_unsafe w ⟨b,0,none⟩ u2 u hj hsh hl];simp only[Result.andThen];rw[Oper.upon_value]
 go_wp2
 go_end0
 exact⟨rfl,rfl⟩
theorem zgf{w:World}{S:Nat->Prop}{pl:Nat->Value}{vs:Array Value}(hsz:vs.size=1)(hv:Rd w S pl (vs.getD 0 undef) (Ac3)):∃b,pl 1000=.pointer (some ⟨b,0,none⟩)/\vs= #[.pointer (some ⟨b,0,none⟩)]:=by
 obtain⟨b,e1,e2⟩:=hv;refine⟨b,e1,?_⟩;apply Array.ext
 ·simpa using hsz
 ·intro i h1 h2
  have:i=0:=by omega
  subst this;rw[Aaj,AaW h1]at e2
  simpa using e2
theorem zee(ds:AcT)(buf:AcY)(hlies:∀T,memT zeC T (ds.length+1)=true->liesAt prog prog.depth T ((ds.length+1)/prog.cellsOf T) 0 117 1=true):
  xT nO [Ac3] [(1000,.cells (.slf 1000::ds)),(2000,.row 5 .byte buf)] (.tup []) [(1000,.cells (.slf 1000::ds)),(2000,.row 5 .byte buf)]:=by
 intro w S vs pl hS hsz hv hh hg;obtain⟨b,e1,rfl⟩:=zgf hsz (hv 0 _ rfl);obtain⟨b',cs,T,eb,mb,zb,rb,tb⟩:=hh.ok 1000 _ rfl;rw[e1]at eb;injection eb with eb;injection eb with eb;injection eb with eb;subst eb
 have hT:memT zeC T (ds.length+1)=true:=tb rfl;have zb:cs.size=ds.length+1:=zb;have h0:=rb 0 _ rfl
 have hc:w.cell? ⟨b,0,none⟩=some (cs.getD 0 undef):=by
  rw[cell_of_row w b 0 cs T (0,0) mb];simp[Aaj,zb]
 have hpr:=hh.priv 1000 _ b rfl (by rw[e1];rfl)
 rcases h0 with h0|⟨b2,h2,h0⟩
 ·rw[h0]at hc
  have hsh:w.shape? b=some (T,cs.size):=by simp[World.shape?,mb]
  refine(zpq b cs.size T w hc hsh (by omega) (frozen_of_row w b 0 cs T mb) (by rw[zb];exact hlies T hT)).mono λe w' ⟨he,hw⟩=> ?_
  subst hw;have hfar:∀c,c≠b->(w.setCell ⟨b,0,none⟩ (.pointer (some ⟨b,0,none⟩))).heap[c]? =w.heap[c]? :=λc hc=>Below.heap_setCell w ⟨b,0,none⟩ _ c hc
  have hat:wR (w.setCell ⟨b,0,none⟩ (.pointer (some ⟨b,0,none⟩))) b T (cs.setIfInBounds 0 (.pointer (some ⟨b,0,none⟩))):=wR.set_ mb 0 _;refine⟨_,S,pl,he,Rp.rd (.tup _ _ rfl λi d hd=>by simp at hd),⟨λk o ho=> ?_,λk o c ho hc=> ?_,hh.inj⟩,λc hc=>by simpa[World.setCell]using hS c hc,λc hc=> .inl hc,λc h=> .inl h,λ_ _=>rfl,⟨rfl,rfl,rfl,by simp[World.setCell],λc _ hn=>hfar c λe=>hn ⟨1000,_,rfl,by rw[e1,e];rfl⟩⟩⟩
  ·by_cases hk:k=1000
   ·subst hk
    have ho:yE.cells (.slf 1000::ds)=o:=by injection ho
    subst ho;refine⟨b,_,T,e1,hat,by simpa using zb,λi d hd=> ?_,λ_=>hT⟩
    cases i with
    |zero=>
     injection hd with hd;subst hd
     refine .inr ⟨b,e1,?_⟩;simp[Aaj,zb]
    |succ i=>
     have h:=rb (i+1) d hd
     have e:(cs.setIfInBounds 0 (.pointer (some ⟨b,0,none⟩))).getD (i+1) undef=cs.getD (i+1) undef:=by
      rw[Aaj,Aaj,AcG (by omega)]
     rw[e];exact h.mono (λc hc=>hfar c λe=>hpr.2 (e▸hc)) (λ_ h=>h) λ_ _=>rfl
   ·refine(hh.ok k o ho).mono (λc hc=>hfar c λe=>hpr.2 (e▸hc)) (λc hcc=>hfar c λe=>hk (hh.inj k 1000 o _ c ho rfl hcc (by rw[e1,e];rfl))) (λ_ h=>h) λ_ _ _ _=>rfl
  ·have:=hh.priv k o c ho hc
   exact⟨by simpa[World.setCell]using this.1,this.2⟩
 ·rw[e1]at h2;injection h2 with h2;injection h2 with h2;injection h2 with h2;subst h2
  rw[h0]at hc
  refine(zrY b w hc).mono λe w' ⟨he,hw⟩=> ?_
  subst hw;exact⟨_,S,pl,he,Rp.rd (.tup _ _ rfl λi d hd=>by simp at hd),hh,hS,λc hc=> .inl hc,λc h=> .inl h,λ_ _=>rfl,⟨rfl,rfl,rfl,IN _,λ_ _ _=>rfl⟩⟩
theorem zjE{w:World}{g n:Nat}{k:Nat}(hk:k≠g):(w.freeze ⟨g,0,none⟩ n).heap[k]? =w.heap[k]? :=by
 unfold World.freeze;split
 ·rfl
 ·simp only[AbY]
  rw[An (by omega)]
theorem zgg{w:World}{g n:Nat}:(w.freeze ⟨g,0,none⟩ n).os=w.os/\(w.freeze ⟨g,0,none⟩ n).tape=w.tape/\(w.freeze ⟨g,0,none⟩ n).output=w.output/\(w.freeze ⟨g,0,none⟩ n).heap.size=w.heap.size:=by
 unfold World.freeze;split
 ·exact⟨rfl,rfl,rfl,rfl⟩
 ·exact⟨rfl,rfl,rfl,by simp⟩
set_option maxHeartbeats 1000000 in
set_option maxRecDepth 100000 in
theorem zgh(b g cap:Nat)(l:AcY)(cur:Array Value)(w:World)(h0:l≠[])(hc1:w.cell? ⟨b,1,none⟩=some (.slice (some ⟨g,0,none⟩) l.length cap))(hg:w.heap[g]? =some (.cells cur 5 (0,0)))(hcap:cap≠0)(hlen:l.length<=cur.size)(hl:l.length<=9223372036854775807)
  (hcell:∀j x,l[j]? =some x->w.cell? ((⟨g,0,none⟩:Addr).add j)=some (.int .u8 x.toNat)):
  Calls prog 56 #[.pointer (some ⟨b,0,none⟩)] w λe w'=>e=.returned (.string ⟨l.toArray⟩)/\w'=w.drew.freeze ⟨g,0,none⟩ l.length:=by
 have c1:w.drew.cell? ⟨b,1,none⟩=some (.slice (some ⟨g,0,none⟩) l.length cap):=hc1;have mixed:prog.follows .mixedOrders=true:=by kernel_rfl
 have tPU:prog.underlying 177=some (.pointer 5):=by kernel_rfl
 have cb:prog.cellsOf 5=1:=by kernel_rfl
 have hSD:(Builtin.unsafeSliceData_ #[115] 177 #[.slice (some ⟨g,0,none⟩) l.length cap]).run prog w.drew=.ok (.pointer (some ⟨g,0,none⟩)) w.drew:=
  Lib.run_unsafeSliceData_row _ _ _ _ _ _ hcap
 have hUS:(Builtin.unsafeString_ #[177,3] 9 #[.pointer (some ⟨g,0,none⟩),.int .i64 l.length]).run prog w.drew=.ok (.string ⟨l.toArray⟩) (w.drew.freeze ⟨g,0,none⟩ l.length):=by
  refine Lib.run_unsafeString_row w.drew 177 3 9 5 tPU cb g cur.size (by have hg':w.drew.heap[g]? =some (.cells cur 5 (0,0)):=hg;simp[World.shape?,hg']) l h0 hlen hl ?_
  exact hcell
 clear hcell hcap
 go_enter func56,ntmps56
 go_wp2
 go_region_o
 all_goals(go_wp2;go_ret;exact⟨rfl,rfl⟩)
theorem zbQ{α β:Type}(f:α->β):∀l:List α,(l.map λx=>[f x]).flatten=l.map f
 |[]=>rfl
 |x::r=>by rw[Aaq,Aa5,zbQ f r];rfl
theorem zmW(d0:D)(ds:AcT)(buf:AcY)(h0:buf≠[])(hw:xE (buf.length:Int)):xT vY [Ac3] [(1000,.cells (d0:: .own 2000::ds)),(2000,.row 5 .byte buf)] (.str ⟨buf.toArray⟩) []:=by
 intro w S vs pl hS hsz hv hh hg;obtain⟨b,e1,rfl⟩:=zgf hsz (hv 0 _ rfl);obtain⟨b',cs,T,eb,mb,zb,rb,tb⟩:=hh.ok 1000 _ rfl;rw[e1]at eb;injection eb with eb;injection eb with eb;injection eb with eb;subst eb
 have zb:cs.size=ds.length+1+1:=zb;have h1:cs.getD 1 undef=pl 2000:=rb 1 _ rfl
 have hc:w.cell? ⟨b,1,none⟩=some (cs.getD 1 undef):=by
  rw[cell_of_row w b 1 cs T (0,0) mb];simp[Aaj,zb]
 obtain⟨hlim,css,l3,h4,h5,h6⟩:=hh.ok 2000 _ rfl;have hlim:buf.length*1<=140737488355328:=hlim
 have hcss:css=buf.map λx=>[Value.int .u8 (x.toNat:Int)]:=by
  apply Acl;intro i;rw[Aaw];cases hx:buf[i]? with
  |none=>
   have:buf.length<=i:=List.getElem?_eq_none_iff.1 hx;rw[Abz (by omega)];rfl
  |some x=>
   have hi:i<buf.length:=(AaB.1 hx).1;have hci:css[i]? =some (css[i]'(by omega)):=Aal (by omega)
   have:css[i]'(by omega)=[Value.int .u8 (x.toNat:Int)]:=h6 i x _ hx hci
   rw[hci,this];rfl
 have hflat:css.flatten=buf.map λx=>Value.int .u8 (x.toNat:Int):=by
  rw[hcss];exact zbQ _ buf
 have hpos:0<buf.length:=Abh.2 h0;have hcells:=h4;rcases h4.2 with⟨_,hz⟩|⟨g,cap,cur,e2,_,hgg,hnc,hcm,hcs,_⟩
 ·omega
 rw[h1,e2]at hc
 have hcs:cur.size=cap:=by rw[hcs];exact Aa9 _
 refine(zgh b g cap buf cur w h0 hc hgg (by omega) (by omega) (by unfold xE at hw;omega) λj x hx=> ?_).mono λe w' ⟨he,hw'⟩=> ?_
 ·exact hcells.cells (g:=g) (by rw[e2];rfl) j _ (by rw[hflat,Aaw,hx];rfl)
 ·subst hw'
  obtain⟨f1,f2,f3,f4⟩:=zgg (w:=w.drew) (g:=g) (n:=buf.length);have hz:(⟨buf.toArray⟩:AcL).size<=140737488355328:=by show buf.toArray.size<=_;rw[On];omega
  refine⟨_,λ_=>False,pl,he,Rp.rd (.str _ hz),⟨λk o h=>(by cases h),λk o b h=>(by cases h),λk k' o o' b h=>(by cases h)⟩,λc h=>h.elim,λc h=>h.elim,λc ⟨k,o,h,_⟩=>(by cases h),λ_ _=>rfl,⟨f1,f2,f3,by rw[f4];exact IN _,λc _ hn=>zjE λe=>hn ⟨2000,_,rfl,by rw[e2,e];rfl⟩⟩⟩
theorem zrZ(T:AcN)(n:Nat)(h:memT zeC T n=true):n=2/\T=117\/n=6/\T=119:=by
 unfold zeC memT at h
 cases h1:Nat.beq 117 T&&Nat.beq 2 n with
 |true=>
  rw[If]at h1
  exact .inl ⟨(AcF h1.2).symm,(AcF h1.1).symm⟩
 |false=>
  simp only[h1,Aag]at h
  unfold memT at h
  cases h2:Nat.beq 119 T&&Nat.beq 6 n with
  |true=>
   rw[If]at h2
   exact .inr ⟨(AcF h2.2).symm,(AcF h2.1).symm⟩
  |false=>simp only[h2,Aag]at h;cases h
theorem zui(T:AcN)(n:Nat)(h:memT zeC T n=true):liesAt prog prog.depth T (n/prog.cellsOf T) 0 117 1=true:=by
 rcases zrZ T n h with⟨rfl,rfl⟩|⟨rfl,rfl⟩<;>kernel_rfl
end Go.Proofs.YtdnmkinmcdihnaaGreatDoor
namespace Go.Proofs.YtdnmkinmcdihnaaGreatDoor
open Go.Proofs.Tryz
open Go.RowKit
variable[Lo]
theorem eL{n:Int}(h:xE n):(eJ n).size<=21:=by
 have:=Lib.itoa_length_le n h.1 h.2;simpa[eJ,ByteArray.size]using this
theorem zgi:∃g,prog.globalNamed "internal/strconv.uint64pow10" =some g:=Acu.1 (by kernel_rfl)
theorem Xi{n:Int}(h:xE n):vL yR [dI n] (.str (eJ n)):=by
 intro w S vs hS hl hv hg;obtain⟨g,hgn⟩:=zgi;have htab:=(hg.1 g hgn).1;obtain⟨e0,hz⟩:=(hv 0 _ rfl).int_inv
 have e:vs= #[.int .i64 n]:=by
  have hl:vs.size=1:=hl;apply Array.ext
  ·simpa using hl
  ·intro i h1 h2
   have:i=0:=by omega
   subst this;simpa[Aaj,h1]using e0
 subst e;refine(strconv_Itoa n h.1 h.2 w htab).mono λe w' ⟨he,k,os,hw⟩=> ?_
 subst hw;exact⟨_,he,.str (eJ n) (Aan (eL h) (by decide)),Lib.below_grow _ w (IN _) k os⟩
end Go.Proofs.YtdnmkinmcdihnaaGreatDoor
namespace Go.Proofs.YtdnmkinmcdihnaaGreatDoor
open Go.Proofs.Tryz
open Go.RowKit
variable[Lo]
abbrev S7(mvs:AcU)(mcs:AcV)(goal mvar:Int)(buf:AcY):List (Nat×yE):=
 [(1000,.cells [.slf 1000,.own 2000,.sl .var mvs,.sl .con mcs,dI goal,dI mvar]),(2000,.row 5 .byte buf)]
theorem zjF{s:AcL}(h:VZ 1 s.data.toList=true):s.size<=12:=by
 have hz:s.size=s.data.toList.length:=rfl;rw[hz];cases hd:s.data.toList with
 |nil=>simp
 |cons c r=>
  rw[hd]at h
  simp only[VZ,If,decide_eq_true_eq]at h
  obtain⟨⟨⟨_,h1⟩,h2⟩,h3⟩:=h;have h1:(xO (c::r)).1=1:=by omega
  rw[h1,h2]at h3
  unfold nA at h3
  rw[An (by decide)]at h3
  by_cases h4:(c::r).length>12
  ·rw[As (.inl ⟨rfl,h4⟩)]at h3;cases h3
  ·omega
theorem zmX{s:AcL}(h:yG s=true):s.size<=12:=by
 unfold yG at h
 rw[If]at h
 exact zjF h.1
structure zmY (m:zE):Prop where
 right:Right m
 names:∀v∈m.vars,v.name.size<=12
 cons:∀c∈m.cons,vQ c m.vars.length
theorem zgj{vs:AcU}(h:Rm vs=0):∀v∈vs,yG v.name=true:=λv hv=>by
 obtain⟨i,hi,rfl⟩:=Aas hv;have:=QF vs 0 h i hi;unfold AB at this
 split at this
 ·exact At this (by decide)
 ·rename_i h;cases hb:yG vs[i].name with
  |true=>rfl
  |false=>exact At hb h
theorem zgk{m:zE}(h:yY m=0):Rm m.vars=0:=by
 unfold yY at h
 split at h
 ·exact At h (by decide)
 split at h
 ·exact At h (by decide)
 split at h
 ·rename_i h1;exact At h h1
 ·rename_i h1;exact Decidable.of_not_not h1
theorem zuN{m:zE}(h:yY m=0):zmY m:=
 ⟨mM h,λv hv=>zmX (zgj (zgk h) v hv),λc hc=>IK (mM h).vars ((mM h).con c hc)⟩
theorem Zg{n:Int}(h: -1000<=n/\n<=1000):xE n:=by unfold xE;omega
theorem Xj{n:Int}(h: -1000<=n/\n<=1000):(eJ n).size<=21:=eL (Zg h)
theorem eM{vs:AcU}(h:∀v∈vs,v.name.size<=12)(i:Int):(J0 vs i).size<=12:=by
 unfold J0;rcases AaP i.toNat vs.length with hi|hi
 ·rw[atN (t:=.var) hi];exact h _ (AT hi)
 ·show(vs.getD i.toNat Ty.var.dflt).name.size<=12
  rw[Aar,Abz hi];decide
theorem S8{l:AcP}(h:∀n∈l,-1000<=n/\n<=1000):(Yc l).size<=l.length*23+2:=by
 have:=JQ (l:=l.map eJ) (B:=21) λx hx=>by
  obtain⟨y,hy,rfl⟩:=OF.1 hx;exact Xj (h y hy)
 rw[Aae]at this
 exact this
theorem Uu{vs:AcU}(h:∀v∈vs,v.name.size<=12)(l:AcP):(XV vs l).size<=l.length*14+2:=by
 have:=JQ (l:=l.map (J0 vs)) (B:=12) λx hx=>by
  obtain⟨y,hy,rfl⟩:=OF.1 hx;exact eM h y
 rw[Aae]at this
 exact this
theorem zgl(o:Int):(ztz o).size<=2:=by
 unfold ztz;rcases AaP (o-1).toNat 4 with h|h
 ·have h:(o-1).toNat=0\/(o-1).toNat=1\/(o-1).toNat=2\/(o-1).toNat=3:=by omega
  rcases h with h|h|h|h<;>rw[h]<;>decide
 ·show(opW.getD (o-1).toNat Ty.str.dflt).size<=2
  rw[Aar,Abz (by exact h)];decide
theorem zgm(k:Int):(wdS k).size<=7:=by
 unfold wdS;rcases AaP (k-1).toNat 10 with h|h
 ·have h:(k-1).toNat=0\/(k-1).toNat=1\/(k-1).toNat=2\/(k-1).toNat=3\/(k-1).toNat=4\/(k-1).toNat=5\/(k-1).toNat=6\/(k-1).toNat=7\/(k-1).toNat=8\/(k-1).toNat=9:=by omega
  rcases h with h|h|h|h|h|h|h|h|h|h<;>rw[h]<;>decide
 ·show(NW.getD (k-1).toNat Ty.str.dflt).size<=7
  rw[Aar,Abz (by exact h)];decide
theorem Nb{vs:AcU}(h:∀v∈vs,v.name.size<=12){x:zA}(hn: -1000<=x.n/\x.n<=1000):(Ly vs x).size<=37:=by
 have h1:=eM h x.var;have h2:=zgl x.op;have h3:=Xj hn;unfold Ly;simp only[Of,fL,On,By,IS];omega
theorem BM{nv:Nat}{x:zA}(h:eS nv x=0):(0<=x.var/\x.var<nv)/\(1<=x.op/\x.op<=4)/\-1000<=x.n/\x.n<=1000:=by
 unfold eS at h
 split at h
 ·exact At h (by decide)
 split at h
 ·exact At h (by decide)
 split at h
 ·exact At h (by decide)
 rename_i h1 h2 h3;simp[qQ,farB,gK]at h1 h2 h3
 omega
theorem zef{w:World}{S:Nat->Prop}{A:Option Addr}{n c:Nat}{xs:Ac1}(h:fE w S (.slice A n c) xs)(hn:0<xs.length):
  ∃b o,A=some ⟨b,o,none⟩/\S b/\∀j x,xs[j]? =some x->w.cell? ⟨b,o+j,none⟩=some (.string x):=by
 obtain⟨b,o,rfl,hb,_⟩:=Mv h hn;refine⟨b,o,rfl,hb,λj x hx=> ?_⟩
 obtain⟨hj,rfl⟩:=AaB.1 hx;obtain⟨b',o',e,_,hc,_⟩:=Mv h hj;injection e with e;injection e with e1 e2
 subst e1 e2;exact hc
theorem zr0(xs:Ac1)(sep:AcL)(hlen:(Lib.join (xs.map λx=>x.data.toList) sep.data.toList).length<=140737488355328):
  vL mH [.sl .str xs,.str sep] (.str ⟨(Lib.join (xs.map λx=>x.data.toList) sep.data.toList).toArray⟩):=by
 intro w S vs hS hl hv _;have h0:=(hv 0 _ rfl).sl_inv;obtain⟨e1,_⟩:=(hv 1 _ rfl).str_inv;have hl:vs.size=2:=hl;obtain⟨A',c',e2,hsl⟩:=sM h0;rw[e2]at h0
 have e:vs= #[.slice A' xs.length c',.string sep]:=by
  apply Array.ext
  ·simpa using hl
  ·intro i h1 h2
   have:i=0\/i=1:=by omega
   rcases this with rfl|rfl
   ·simpa[Aaj,h1]using e2
   ·simpa[Aaj,h1]using e1
 subst e
 have hz:(⟨(Lib.join (xs.map λx=>x.data.toList) sep.data.toList).toArray⟩:AcL).size<=140737488355328:=by
  show(Lib.join (xs.map λx=>x.data.toList) sep.data.toList).toArray.size<=_
  rw[On];exact hlen
 by_cases hx:xs=[]
 ·subst hx
  refine(strings_Join_none A' c' sep w).mono λe w' ⟨he,hw⟩=> ?_
  subst hw;exact⟨_,he,.str _ hz,Below.refl _ _⟩
 ·have hpos:0<xs.length:=Abh.2 hx
  obtain⟨b,o,rfl,hb,hc⟩:=zef h0 hpos
  have hlim:xs.length<=140737488355328:=by
   have h1:=(DJ (Rp.sl .str xs _ h0)).1;have h1:xs.length*16<=140737488355328:=h1;omega
  exact(strings_Join b o c' xs sep w hc (hS b hb) hlim hsl.cap hlen).mono λe w' ⟨he,hw⟩=>⟨_,he,.str _ hz,hw⟩
theorem zaz:vL jW [] (.sl .str NW):=PF λok=>by rw[Mj];rfl
theorem JR{l:Ac1}{B:Nat}(h:∀x∈l,x.size<=B)(hB:B<=1000000)(hl:l.length<=1000000):vL mH [.sl .str l,.str ⟨#[44,32]⟩] (Yn .str ⟨(Lib.join (l.map λx=>x.data.toList) [44,32]).toArray⟩)/\(⟨(Lib.join (l.map λx=>x.data.toList) [44,32]).toArray⟩:AcL).size<=1000000*1000002:=by
 have h1:=BK (sep:=[44,32]) (B:=B) (l.map λx=>x.data.toList) λx hx=>by
  obtain⟨y,hy,rfl⟩:=OF.1 hx;exact h y hy
 rw[Aae,show([44,32]:AcY).length=2 from rfl]at h1
 have h2:=AbK hl (show B+2<=1000002 by omega)
 refine⟨zr0 l _ (by show(Lib.join (l.map λx=>x.data.toList) [44,32]).length<=_;omega),?_⟩
 rw[fL,On];omega
theorem Vt{mvs:AcU}{mcs:AcV}{goal mvar:Int}{buf:AcY}{n:Int}(h:0<=n/\n<mvs.length):xT yK [Ac3,dI n] (S7 mvs mcs goal mvar buf) (.str (J0 mvs n)) (S7 mvs mcs goal mvar buf):=
 Lp _ _ _ _ _ _ λok ok2=>by
  rw[Jd];exact⟨uW.2 ⟨h.1,by omega⟩,rfl,rfl⟩
theorem Lz(xs:AcP)(hx:xs.length<=1000000)(hy:∀n∈xs,-1000<=n/\n<=1000):xT uN [.sl .int xs,.clo yR none []] [] (.str (Yc xs)) []:=
 NS _ λok ok2=>by
  have hl:xs.length<=9223372036854775807:=by omega
  rw[Lq]
  have hb:∀x∈xs.map (eJ),x.size<=21:=λx hx=>by
   obtain⟨y,hy,rfl⟩:=OF.1 hx;exact Xj (‹∀n∈xs,-1000<=n/\n<=1000› y hy)
  refine up (I:=λn v (a:Ac1)=>iO xs _ n v a) (a:=[]) 0 xs.length rfl (Is _) hl (λk a=>a=(xs.take k).map (eJ)) rfl λn k a _ hk ha hn=> ?_
  subst ha;rw[Qf]
  by_cases hlt:k<xs.length
  ·rw[yD hlt,yA (t:=.int) hlt]
   have hnx:=hn hlt _ (cR (eJ) hlt).symm;have hroom:yX .str (((xs.take k).map (eJ)).length+[(eJ) xs[k]].length)=true:=xC (t:=.str) (by rw[Aae,Aak];show(_+1)*16<=_;omega)
   exact⟨zI hlt,zG (t:=.str) (Xi (Zg (hy _ (AT hlt)))) ⟨hroom,hnx⟩⟩
  ·have e:k=xs.length:=by omega
   subst e;rw[zY,Aam];obtain⟨h1,h2⟩:=JR hb (by decide) (by rw[Aae];exact hx)
   refine zG (t:=.str) h1 ⟨?_,?_,rfl,rfl⟩
   ·simp only[Of,fL,On,By,IS]at h2⊢;omega
   ·simp only[Of,fL,On,By,IS]at h2⊢;omega
theorem oe{mvs:AcU}{mcs:AcV}{goal mvar:Int}{buf:AcY}(hnm:∀v∈mvs,v.name.size<=12)(xs:AcP)(hx:xs.length<=1000000)(hy:∀n∈xs,0<=n/\n<mvs.length):xT uN [.sl .int xs,.clp yK true 1000 0] (S7 mvs mcs goal mvar buf) (.str (XV mvs xs)) (S7 mvs mcs goal mvar buf):=
 NT _ _ _ _ _ _ λok ok2=>by
  have hl:xs.length<=9223372036854775807:=by omega
  rw[Lr]
  have hb:∀x∈xs.map (J0 mvs),x.size<=12:=λx hx=>by
   obtain⟨y,hy,rfl⟩:=OF.1 hx;exact eM hnm y
  refine up (I:=λn v (a:Ac1)=>iP xs mvs mcs goal mvar _ n v a buf) (a:=[]) 0 xs.length rfl (Is _) hl (λk a=>a=(xs.take k).map (J0 mvs)) rfl λn k a _ hk ha hn=> ?_
  subst ha;rw[Qg]
  by_cases hlt:k<xs.length
  ·rw[yD hlt,yA (t:=.int) hlt]
   have hnx:=hn hlt _ (cR (J0 mvs) hlt).symm;have hroom:yX .str (((xs.take k).map (J0 mvs)).length+[(J0 mvs) xs[k]].length)=true:=xC (t:=.str) (by rw[Aae,Aak];show(_+1)*16<=_;omega)
   exact⟨zI hlt,_,Vt (hy _ (AT hlt)),hroom,hnx⟩
  ·have e:k=xs.length:=by omega
   subst e;rw[zY,Aam];obtain⟨h1,h2⟩:=JR hb (by decide) (by rw[Aae];exact hx)
   refine zG (t:=.str) h1 ⟨?_,?_,rfl,rfl⟩
   ·simp only[Of,fL,On,By,IS]at h2⊢;omega
   ·simp only[Of,fL,On,By,IS]at h2⊢;omega
theorem bK(xs:AcP)(hx:xs.length<=1000000)(hy:∀n∈xs,-1000<=n/\n<=1000):vL wK [.sl .int xs] (.str (Yc xs)):=
 SK xs λok=>by
  rw[Qe];exact⟨_,Lz xs hx hy,rfl⟩
theorem zpr:fV wK:=λargs w=>call101 args w
theorem LA(xs:AcQ)(hx:xs.length<=1000)(hz:∀r∈xs,r.length<=1000)(hy:∀r∈xs,∀n∈r,-1000<=n/\n<=1000):vL fm [dS xs,.clo wK none []] (.str (brS (xs.map Yc))):=
 oT.clo (pre:=[_]) (NU xs wK [] λok=>by
  have hl:xs.length<=9223372036854775807:=by omega
  rw[Ls]
  have hb:∀x∈xs.map Yc,x.size<=23002:=λx hx=>by
   obtain⟨y,hy',rfl⟩:=OF.1 hx;have:=S8 (hy y hy');have:=hz y hy';omega
  refine up (I:=λn v (a:Ac1)=>iQ xs wK [] _ n v a) (a:=[]) 0 xs.length rfl (Is _) hl (λk a=>a=(xs.take k).map Yc) rfl λn k a _ hk ha hn=> ?_
  subst ha;rw[Qh]
  by_cases hlt:k<xs.length
  ·rw[yD hlt,yA (t:=.list .int) hlt]
   have hnx:=hn hlt _ (cR Yc hlt).symm;have hroom:yX .str (((xs.take k).map Yc).length+[Yc xs[k]].length)=true:=xC (t:=.str) (by rw[Aae,Aak];show(_+1)*16<=_;omega)
   exact⟨zI hlt,zpr,zG (t:=.str) (bK _ (by have:=hz _ (AT hlt);omega) (hy _ (AT hlt))) ⟨hroom,hnx⟩⟩
  ·have e:k=xs.length:=by omega
   subst e;rw[zY,Aam];obtain⟨h1,h2⟩:=JR hb (by decide) (by rw[Aae];omega)
   refine zG (t:=.str) h1 ⟨?_,?_,rfl⟩
   ·simp only[Of,fL,On,By,IS]at h2⊢;omega
   ·simp only[Of,fL,On,By,IS]at h2⊢;omega)
theorem zgn{n:Int}(h:1<=n/\n<=1000):yU (n-1)=n-1:=qV (by omega) (by omega)
theorem JS{mvs:AcU}{mcs:AcV}{goal mvar:Int}{buf:AcY}(hnm:∀v∈mvs,v.name.size<=12){x:zA}(hx:eS mvs.length x=0):xT vZ [Ac3,dL x] (S7 mvs mcs goal mvar buf) (.str (Ly mvs x)) (S7 mvs mcs goal mvar buf):=
 PS _ _ _ _ _ _ λok ok2=>by
  obtain⟨h1,h2,h3⟩:=BM hx;rw[NV,zgn (by omega)]
  have z1:=eM hnm x.var;have z2:=zgl x.op;have z3:=Xj h3;have z2:(zJ .str ([(⟨#[60,61]⟩:AcL),(⟨#[62,61]⟩:AcL),(⟨#[61,61]⟩:AcL),(⟨#[33,61]⟩:AcL)]) ((x.op-1).toNat)).size<=2:=z2;refine⟨uW.2 ⟨by omega,by show x.op-1<((4:Nat):Int);omega⟩,_,Vt h1,?_,?_,?_,zG (t:=.str) (Xi (Zg h3)) ⟨?_,rfl,rfl⟩⟩
  all_goals(simp only[Of,fL,On,By,IS];omega)
theorem S9{mvs:AcU}{mcs:AcV}{goal mvar:Int}{buf:AcY}(hnm:∀v∈mvs,v.name.size<=12)(xs:AcR)(hx:xs.length<=1000000)(hy:∀x∈xs,eS mvs.length x=0):xT kH [.sl .lit xs,.clp vZ true 1000 0] (S7 mvs mcs goal mvar buf) (.str (brS (xs.map (Ly mvs)))) (S7 mvs mcs goal mvar buf):=
 TQ _ _ _ _ _ _ λok ok2=>by
  have hl:xs.length<=9223372036854775807:=by omega
  rw[SL]
  have hb:∀x∈xs.map (Ly mvs),x.size<=37:=λx hx=>by
   obtain⟨y,hy,rfl⟩:=OF.1 hx;exact Nb hnm (BM (‹∀x∈xs,eS mvs.length x=0› y hy)).2.2
  refine up (I:=λn v (a:Ac1)=>nV xs _ n v a mvs mcs goal mvar buf) (a:=[]) 0 xs.length rfl (Is _) hl (λk a=>a=(xs.take k).map (Ly mvs)) rfl λn k a _ hk ha hn=> ?_
  subst ha;rw[VL]
  by_cases hlt:k<xs.length
  ·rw[yD hlt,yA (t:=.lit) hlt]
   have hnx:=hn hlt _ (cR (Ly mvs) hlt).symm;have hroom:yX .str (((xs.take k).map (Ly mvs)).length+[(Ly mvs) xs[k]].length)=true:=xC (t:=.str) (by rw[Aae,Aak];show(_+1)*16<=_;omega)
   exact⟨zI hlt,_,JS hnm (hy _ (AT hlt)),hroom,hnx⟩
  ·have e:k=xs.length:=by omega
   subst e;rw[zY,Aam];obtain⟨h1,h2⟩:=JR hb (by decide) (by rw[Aae];exact hx)
   refine zG (t:=.str) h1 ⟨?_,?_,rfl,rfl⟩
   ·simp only[Of,fL,On,By,IS]at h2⊢;omega
   ·simp only[Of,fL,On,By,IS]at h2⊢;omega
end Go.Proofs.YtdnmkinmcdihnaaGreatDoor
namespace Go.Proofs.YtdnmkinmcdihnaaGreatDoor
open Go.Proofs.Tryz
open Go.RowKit
variable[Lo]
theorem BN{c:zF}{nv:Nat}(h:vQ c nv):c.kind=1\/c.kind=2\/c.kind=3\/c.kind=4\/c.kind=5\/c.kind=6\/c.kind=7\/c.kind=8\/c.kind=9\/c.kind=10:=by
 have:=h.kind;omega
theorem BO{c:zF}{nv:Nat}(h:vQ c nv):(c.kind=5->c.vars.length=2)/\(c.kind=7->c.vars.length=3)/\(c.kind=8->2<=c.vars.length)/\(c.kind=10->c.vars.length=1/\c.lits.length=1)/\(c.kind=6->∀r∈c.rows,r.length=c.vars.length):=by
 have hf:=h.form;refine⟨λhk=> ?_,λhk=> ?_,λhk=> ?_,λhk=> ?_,λhk=> ?_⟩<;>unfold V0 at hf<;>simp[hk]at hf
 ·exact hf.2.1.1.1
 ·exact hf.2.1.1.1
 ·exact hf.2.1.1.1
 ·exact⟨hf.2.1.1.1,hf.2.2⟩
 ·exact hf.2.1.1.1
theorem zps{vs:AcU}{c:zF}(hk:c.kind=1):Vs vs c=(((((wdS c.kind++⟨#[32]⟩)++Yc c.consts)++⟨#[32]⟩)++XV vs c.vars)++⟨#[32]⟩)++eJ c.n:=by
 unfold Vs;rw[As (by omega)]
theorem zpt{vs:AcU}{c:zF}(hk:c.kind=2):Vs vs c=(((((wdS c.kind++⟨#[32]⟩)++Yc c.consts)++⟨#[32]⟩)++XV vs c.vars)++⟨#[32]⟩)++eJ c.n:=by
 unfold Vs;rw[As (by omega)]
theorem zpu{vs:AcU}{c:zF}(hk:c.kind=3):Vs vs c=(((((wdS c.kind++⟨#[32]⟩)++Yc c.consts)++⟨#[32]⟩)++XV vs c.vars)++⟨#[32]⟩)++eJ c.n:=by
 unfold Vs;rw[As (by omega)]
theorem zpv{vs:AcU}{c:zF}(hk:c.kind=4):Vs vs c=(wdS c.kind++⟨#[32]⟩)++XV vs c.vars:=by
 unfold Vs;rw[An (by omega),As hk]
theorem zpw{vs:AcU}{c:zF}(hk:c.kind=5):Vs vs c=(((((wdS c.kind++⟨#[32]⟩)++Yc c.consts)++⟨#[32]⟩)++J0 vs (zJ .int c.vars 0))++⟨#[32]⟩)++J0 vs (zJ .int c.vars 1):=by
 unfold Vs;rw[An (by omega),An (by omega),As hk]
theorem zpx{vs:AcU}{c:zF}(hk:c.kind=6):Vs vs c=(((wdS c.kind++⟨#[32]⟩)++XV vs c.vars)++⟨#[32]⟩)++brS (c.rows.map Yc):=by
 unfold Vs;rw[An (by omega),An (by omega),An (by omega),As hk]
theorem zpy{vs:AcU}{c:zF}(hk:c.kind=7):Vs vs c=(((((wdS c.kind++⟨#[32]⟩)++J0 vs (zJ .int c.vars 0))++⟨#[32]⟩)++J0 vs (zJ .int c.vars 1))++⟨#[32]⟩)++J0 vs (zJ .int c.vars 2):=by
 unfold Vs;rw[An (by omega),An (by omega),An (by omega),An (by omega),As hk]
theorem zpz{vs:AcU}{c:zF}(hk:c.kind=8):Vs vs c=(((wdS c.kind++⟨#[32]⟩)++J0 vs (zJ .int c.vars 0))++⟨#[32]⟩)++XV vs (c.vars.drop 1):=by
 unfold Vs;rw[An (by omega),An (by omega),An (by omega),An (by omega),An (by omega),As hk]
theorem zpA{vs:AcU}{c:zF}(hk:c.kind=9):Vs vs c=(wdS c.kind++⟨#[32]⟩)++brS (c.lits.map (Ly vs)):=by
 unfold Vs;rw[An (by omega),An (by omega),An (by omega),An (by omega),An (by omega),An (by omega),As hk]
theorem zlr{vs:AcU}{c:zF}(hk:c.kind=10):Vs vs c=(((wdS c.kind++⟨#[32]⟩)++J0 vs (zJ .int c.vars 0))++⟨#[32]⟩)++Ly vs (zJ .lit c.lits 0):=by
 unfold Vs;rw[An (by omega),An (by omega),An (by omega),An (by omega),An (by omega),An (by omega),An (by omega)]
theorem zpB{l:AcP}{i:Nat}(h:i<l.length):zJ .int l i∈l:=by rw[atN (t:=.int) h];exact AT h
theorem BP{l:AcR}{i:Nat}(h:i<l.length):zJ .lit l i∈l:=by rw[atN (t:=.lit) h];exact AT h
theorem zbR{c:zF}{nv:Nat}(h:vQ c nv)(hk:c.kind=6):(brS (c.rows.map Yc)).size<=1922:=by
 have hl:=(BO h).2.2.2.2 hk;have hm:=h.many
 have:=JQ (l:=c.rows.map Yc) (B:=94) λx hx=>by
  obtain⟨r,hr,rfl⟩:=OF.1 hx;have:=S8 (h.rows r hr);have:=hl r hr;omega
 rw[Aae]at this
 omega
theorem zbS{vs:AcU}(hnm:∀v∈vs,v.name.size<=12){c:zF}(h:vQ c vs.length):(brS (c.lits.map (Ly vs))).size<=158:=by
 have hm:=h.many
 have:=JQ (l:=c.lits.map (Ly vs)) (B:=37) λx hx=>by
  obtain⟨r,hr,rfl⟩:=OF.1 hx;exact Nb hnm (BM (h.lits r hr)).2.2
 rw[Aae]at this
 omega
theorem zbT{vs:AcU}(hnm:∀v∈vs,v.name.size<=12){c:zF}(h:vQ c vs.length):(Vs vs c).size<=2000:=by
 have z0:(wdS c.kind).size<=7:=zgm c.kind;have z1:=S8 h.consts;have z2:=Uu hnm c.vars;have z3:=Xj h.n;have z4:=eM hnm (zJ .int c.vars 0);have z5:=eM hnm (zJ .int c.vars 1);have z6:=eM hnm (zJ .int c.vars 2);have z7:=Uu hnm (c.vars.drop 1);have z8:=zbS hnm h;have hd:(c.vars.drop 1).length=c.vars.length-1:=Abm;have hm:=h.many;have hf:=BO h;rcases BN h with hk|hk|hk|hk|hk|hk|hk|hk|hk|hk
 ·rw[zps hk]
  simp only[Of,fL,On,By,IS];omega
 ·rw[zpt hk]
  simp only[Of,fL,On,By,IS];omega
 ·rw[zpu hk]
  simp only[Of,fL,On,By,IS];omega
 ·rw[zpv hk]
  simp only[Of,fL,On,By,IS];omega
 ·rw[zpw hk]
  simp only[Of,fL,On,By,IS];omega
 ·rw[zpx hk]
  have z9:=zbR h hk;simp only[Of,fL,On,By,IS];omega
 ·rw[zpy hk]
  simp only[Of,fL,On,By,IS];omega
 ·rw[zpz hk]
  simp only[Of,fL,On,By,IS];omega
 ·rw[zpA hk]
  simp only[Of,fL,On,By,IS];omega
 ·rw[zlr hk]
  have z9:=Nb hnm (BM (h.lits _ (BP (i:=0) (by have:=hf.2.2.2.1 hk;omega)))).2.2
  simp only[Of,fL,On,By,IS];omega
theorem zeg{mvs:AcU}{mcs:AcV}{goal mvar:Int}{buf:AcY}(hnm:∀v∈mvs,v.name.size<=12){c:zF}(h:vQ c mvs.length):xT jV [Ac3,dC c] (S7 mvs mcs goal mvar buf) (.str (Vs mvs c)) (S7 mvs mcs goal mvar buf):=
 PR _ _ _ _ _ _ λok ok2=>by
  have hkk:=h.kind;have z0:(zJ .str NW (c.kind-1).toNat).size<=7:=zgm c.kind;have z1:=S8 h.consts;have z2:=Uu hnm c.vars;have z3:=Xj h.n;have z4:=eM hnm (zJ .int c.vars 0);have z5:=eM hnm (zJ .int c.vars 1);have z6:=eM hnm (zJ .int c.vars 2);have z7:=Uu hnm (c.vars.drop 1);have z8:=zbS hnm h;have hd:(c.vars.drop 1).length=c.vars.length-1:=Abm;have hm:=h.many;have hf:=BO h;rw[NR];refine zG (t:=.list .str) zaz ?_;rw[zgn (by omega)]
  refine⟨uW.2 ⟨by omega,by show c.kind-1<((10:Nat):Int);omega⟩,(by simp only[Of,fL,On,By,IS];omega),?_⟩
  have hv:=h.vars;have vo:∀i,i<c.vars.length->xT yK [Ac3,dI (zJ .int c.vars i)] (S7 mvs mcs goal mvar buf) (.str (J0 mvs (zJ .int c.vars i))) (S7 mvs mcs goal mvar buf):=λi hi=>Vt (hv _ (zpB hi))
  rcases BN h with hk|hk|hk|hk|hk|hk|hk|hk|hk|hk
  ·exact dt hk (zG (t:=.str) (bK c.consts (by omega) h.consts) ⟨(by simp only[Of,fL,On,By,IS];omega),(by simp only[Of,fL,On,By,IS];omega),_,oe hnm c.vars (by omega) h.vars,(by simp only[Of,fL,On,By,IS];omega),(by simp only[Of,fL,On,By,IS];omega),zG (t:=.str) (Xi (Zg h.n)) ⟨(by simp only[Of,fL,On,By,IS];omega),AS D.str (zps hk).symm,rfl⟩⟩)
  ·exact df (by omega) (dt hk (zG (t:=.str) (bK c.consts (by omega) h.consts) ⟨(by simp only[Of,fL,On,By,IS];omega),(by simp only[Of,fL,On,By,IS];omega),_,oe hnm c.vars (by omega) h.vars,(by simp only[Of,fL,On,By,IS];omega),(by simp only[Of,fL,On,By,IS];omega),zG (t:=.str) (Xi (Zg h.n)) ⟨(by simp only[Of,fL,On,By,IS];omega),AS D.str (zpt hk).symm,rfl⟩⟩))
  ·exact df (by omega) (df (by omega) (dt hk (zG (t:=.str) (bK c.consts (by omega) h.consts) ⟨(by simp only[Of,fL,On,By,IS];omega),(by simp only[Of,fL,On,By,IS];omega),_,oe hnm c.vars (by omega) h.vars,(by simp only[Of,fL,On,By,IS];omega),(by simp only[Of,fL,On,By,IS];omega),zG (t:=.str) (Xi (Zg h.n)) ⟨(by simp only[Of,fL,On,By,IS];omega),AS D.str (zpu hk).symm,rfl⟩⟩)))
  ·exact df (by omega) (df (by omega) (df (by omega) (dt hk (⟨_,oe hnm c.vars (by omega) h.vars,(by simp only[Of,fL,On,By,IS];omega),AS D.str (zpv hk).symm,rfl⟩))))
  ·have hlen:=hf.1 hk
   exact df (by omega) (df (by omega) (df (by omega) (df (by omega) (dt hk (zG (t:=.str) (bK c.consts (by omega) h.consts) ⟨(by simp only[Of,fL,On,By,IS];omega),(by simp only[Of,fL,On,By,IS];omega),zI (k:=0) (by omega),zI (k:=1) (by omega),_,vo 0 (by omega),(by simp only[Of,fL,On,By,IS];omega),(by simp only[Of,fL,On,By,IS];omega),_,vo 1 (by omega),(by simp only[Of,fL,On,By,IS];omega),AS D.str (zpw hk).symm,rfl⟩)))))
  ·have z9:=zbR h hk
   exact df (by omega) (df (by omega) (df (by omega) (df (by omega) (df (by omega) (dt hk (⟨_,oe hnm c.vars (by omega) h.vars,(by simp only[Of,fL,On,By,IS];omega),(by simp only[Of,fL,On,By,IS];omega),zG (t:=.str) (LA c.rows (by omega) (λr hr=>by have:=hf.2.2.2.2 hk r hr;omega) h.rows) ⟨(by simp only[Of,fL,On,By,IS];omega),AS D.str (zpx hk).symm,rfl⟩⟩))))))
  ·have hlen:=hf.2.1 hk
   exact df (by omega) (df (by omega) (df (by omega) (df (by omega) (df (by omega) (df (by omega) (dt hk (⟨zI (k:=0) (by omega),zI (k:=1) (by omega),zI (k:=2) (by omega),_,vo 0 (by omega),(by simp only[Of,fL,On,By,IS];omega),(by simp only[Of,fL,On,By,IS];omega),_,vo 1 (by omega),(by simp only[Of,fL,On,By,IS];omega),(by simp only[Of,fL,On,By,IS];omega),_,vo 2 (by omega),(by simp only[Of,fL,On,By,IS];omega),AS D.str (zpy hk).symm,rfl⟩)))))))
  ·have hlen:=hf.2.2.1 hk
   rw[show(c.vars.take (c.vars.length:Int).toNat)=c.vars from by rw[Aap,Aam]]
   exact df (by omega) (df (by omega) (df (by omega) (df (by omega) (df (by omega) (df (by omega) (df (by omega) (dt hk ((λh=>⟨zI (k:=0) (by omega),by unfold Nh;simp;omega,h,h⟩) ⟨_,vo 0 (by omega),(by simp only[Of,fL,On,By,IS];omega),(by simp only[Of,fL,On,By,IS];omega),_,oe hnm (c.vars.drop 1) (by omega) (λx hx=>hv x (List.mem_of_mem_drop hx)),(by simp only[Of,fL,On,By,IS];omega),AS D.str (zpz hk).symm,rfl⟩))))))))
  ·exact df (by omega) (df (by omega) (df (by omega) (df (by omega) (df (by omega) (df (by omega) (df (by omega) (df (by omega) (dt hk (⟨_,S9 hnm c.lits (by omega) h.lits,(by simp only[Of,fL,On,By,IS];omega),AS D.str (zpA hk).symm,rfl⟩)))))))))
  ·have hlen:=hf.2.2.2.1 hk
   have z9:=Nb hnm (BM (h.lits _ (BP (i:=0) (by omega)))).2.2
   exact df (by omega) (df (by omega) (df (by omega) (df (by omega) (df (by omega) (df (by omega) (df (by omega) (df (by omega) (df (by omega) (⟨zI (k:=0) (by omega),zI (k:=0) (by omega),_,vo 0 (by omega),(by simp only[Of,fL,On,By,IS];omega),(by simp only[Of,fL,On,By,IS];omega),_,JS hnm (h.lits _ (BP (i:=0) (by omega))),(by simp only[Of,fL,On,By,IS];omega),AS D.str (zlr hk).symm,rfl⟩)))))))))
theorem BQ{mvs:AcU}{mcs:AcV}{goal mvar:Int}{buf:AcY}(s:AcL)(h:buf.length+s.size<=140737488355328):xT yB [Ac3,.str s] (S7 mvs mcs goal mvar buf) (.tup [dI (s.size:Int),.undef]) (S7 mvs mcs goal mvar (buf++s.data.toList)):=
 Zo _ _ _ _ _ _ λok ok2=>by
  rw[Yb];exact⟨zee _ _ (λT h=>zui T _ h),xC (t:=.byte) (by show(_+_)*1<=_;omega),rfl,rfl⟩
theorem zbU{v:zO}(h:v.name.size<=12)(h1: -50<=v.lo/\v.hi<=50/\v.lo<=v.hi/\v.hi-v.lo<6):(zjD v).size<=64:=by
 have z1:=Xj (n:=v.lo) (by omega);have z2:=Xj (n:=v.hi) (by omega)
 unfold zjD;simp only[Of,fL,On,By,IS];omega
theorem HJ{α:Type}{f:α->AcY}{B:Nat}:∀(l:List α),(∀x∈l,(f x).length<=B)->(l.flatMap f).length<=l.length*B
 |[],_=>by simp
 |x::r,h=>by
  have ih:=HJ r λy hy=>h y (Aac _ hy)
  have:=h x Aaa;rw[AaZ,It,By,Abi];omega
theorem zbV{m:zE}(h:zmY m)(k:Nat):(Yd (m.vars.take k)).length<=384:=by
 have:=HJ (f:=λv=>(zjD v).data.toList) (B:=64) (m.vars.take k) λv hv=>zbU (h.names v (Abp hv)) (h.right.var v (Abp hv))
 have:=h.right.vars;have h3:(m.vars.take k).length<=6:=by rw[Aak];omega
 have:=Aa8 64 h3;unfold Yd;omega
theorem zbW{m:zE}(h:zmY m){c:zF}(hc:c∈m.cons):(zge m.vars c).size<=2006:=by
 have:=zbT h.names (h.cons c hc);unfold zge;simp only[Of,fL,On,By,IS];omega
theorem zmZ{m:zE}(h:zmY m)(k:Nat):(RK m.vars (m.cons.take k)).length<=16048:=by
 have:=HJ (f:=λc=>(zge m.vars c).data.toList) (B:=2006) (m.cons.take k) λc hc=>zbW h (Abp hc)
 have:=h.right.cons;have h3:(m.cons.take k).length<=8:=by rw[Aak];omega
 have:=Aa8 2006 h3;unfold RK;omega
theorem zbX{α:Type}(f:α->AcY){l:List α}{k:Nat}(h:k<l.length):(l.take (k+1)).flatMap f=(l.take k).flatMap f++f l[k]:=by
 rw[<-Aay h,Acj];simp
theorem zjG{m:zE}(h:zmY m):m.goal=0\/(m.goal=1\/m.goal=2)/\0<=m.var/\m.var<m.vars.length:=by
 have hg:=h.right.goal;unfold XX at hg
 split at hg
 ·exact At hg (by decide)
 rename_i h1;split at hg
 ·exact At hg (by decide)
 rename_i h2;split at hg
 ·exact At hg (by decide)
 rename_i h3;simp[gK]at h1
 by_cases h0:m.goal=0
 ·exact .inl h0
 ·refine .inr ⟨by omega,?_⟩
  have h3:qQ m.vars.length m.var=false:=by
   cases hb:qQ m.vars.length m.var with
   |false=>rfl
   |true=>exact At ⟨h0,hb⟩ h3
  simp[qQ,gK]at h3
  omega
theorem BR{m:zE}(h:zmY m){R:D->Prop}(hR:R (.tup [.str (zpp m),dI 0])):∃n,bJ m R n 0 m.vars m.cons m.goal m.var (Yd m.vars):=by
 have hc8:=h.right.cons;have hv6:=h.right.vars;refine up (I:=λn v (buf:AcY)=>bJ m R n v m.vars m.cons m.goal m.var buf) (a:=Yd m.vars) 0 m.cons.length rfl (Is _) (by omega) (λk buf=>buf=Yd m.vars++RK m.vars (m.cons.take k)) (by simp[RK]) λn k buf _ hk ha hn=> ?_
 subst ha;have hl1:=zbV h m.vars.length;rw[Aam]at hl1
 have hl2:=zmZ h k;rw[Hw]
 by_cases hlt:k<m.cons.length
 ·rw[yD hlt,yA (t:=.con) hlt]
  have hmem:=AT hlt;have hz:=zbT h.names (h.cons _ hmem);have hz2:=zbW h hmem;have hw:=BQ (mvs:=m.vars) (mcs:=m.cons) (goal:=m.goal) (mvar:=m.var) (buf:=Yd m.vars++RK m.vars (m.cons.take k)) (zge m.vars m.cons[k]) (by rw[It];omega)
  refine⟨zI hlt,_,zeg h.names (h.cons _ hmem),?_,?_,_,_,hw,hn hlt _ ?_⟩
  ·simp only[Of,fL,On,By,IS];omega
  ·simp only[Of,fL,On,By,IS];omega
  ·unfold RK;rw[zbX _ hlt,AaG]
 ·have e:k=m.cons.length:=by omega
  subst e;rw[zY,Aam];rw[Aam]at hl2
  have hnm:=eM h.names m.var;have hpl:zpo m=Yd m.vars++RK m.vars m.cons++(zbP m).data.toList:=rfl;have hlen:(Yd m.vars++RK m.vars m.cons).length<=16432:=by rw[It];omega
  have fin:∀s:AcL,zbP m=s->s.size<=100->s≠⟨#[]⟩->∃(w1:Int) (w2:AcY),xT yB [Ac3,.str s] (S7 m.vars m.cons m.goal m.var (Yd m.vars++RK m.vars m.cons)) (.tup [dI w1,.undef]) (S7 m.vars m.cons m.goal m.var w2)/\
    ∃t:AcL,xT vY [Ac3] (S7 m.vars m.cons m.goal m.var w2) (.str t) []/\R (.tup [.str t,dI 0]):=λs hs h1 h2=>by
   have hne:Yd m.vars++RK m.vars m.cons++s.data.toList≠[]:=λe=>h2 (by
    have:s.data.toList=[]:=(List.append_eq_nil_iff.1 e).2;have h3:s.size=0:=by have:s.size=s.data.toList.length:=rfl;simp_all
    exact ByteArray.size_eq_zero_iff.1 h3)
   have hll:(Yd m.vars++RK m.vars m.cons++s.data.toList).length<=20000:=by
    rw[It];have:s.data.toList.length=s.size:=rfl;omega
   refine⟨_,_,BQ s (by omega),_,zmW _ _ _ hne (by unfold xE;omega),?_⟩
   rw[<-hs];exact hR
  rcases zjG h with hg|⟨hg|hg,hv⟩
  ·exact dt hg (fin _ (by unfold zbP;rw[As hg]) (by decide) (by decide))
  ·refine df (by omega) (dt hg ⟨_,Vt hv,?_,?_,fin _ (by unfold zbP;rw[An (by omega),As hg]) ?_ ?_⟩)
   ·simp only[Of,fL,On,By,IS];omega
   ·simp only[Of,fL,On,By,IS];omega
   ·simp only[Of,fL,On,By,IS];omega
   ·intro e;have:=AS ByteArray.size e;simp only[Of,fL,On,By,IS]at this;omega
  ·refine df (by omega) (df (by omega) (dt hg ⟨_,Vt hv,?_,?_,fin _ (by unfold zbP;rw[An (by omega),An (by omega)]) ?_ ?_⟩))
   ·simp only[Of,fL,On,By,IS];omega
   ·simp only[Of,fL,On,By,IS];omega
   ·simp only[Of,fL,On,By,IS];omega
   ·intro e;have:=AS ByteArray.size e;simp only[Of,fL,On,By,IS]at this;omega
def zeh(m:zE):AcL:=if yY m=0 then zpp m else⟨#[]⟩
theorem zaA(m:zE):vL X9 [dM m] (.tup [Yn .str (zeh m),Yn .int (yY m)]):=
 BA m λok=>by
  rw[zap];refine zG (t:=.int) (sP m) ?_;unfold zeh
  by_cases hc:yY m=0
  ·rw[As hc]
   refine dnf hc ?_;have h:=zuN hc;have hv6:=h.right.vars;refine up (I:=λn v (buf:AcY)=>qU m _ n v m.vars m.cons m.goal m.var buf) (a:=[]) 0 m.vars.length rfl (Is _) (by omega) (λk buf=>buf=Yd (m.vars.take k)) (by simp[Yd]) λn k buf _ hk ha hn=> ?_
   subst ha;have hl1:=zbV h k;rw[Hx]
   by_cases hlt:k<m.vars.length
   ·rw[yD hlt,yA (t:=.var) hlt]
    have hmem:=AT hlt;have hr:=h.right.var _ hmem;have hs:=h.names _ hmem;have z1:=Xj (n:=m.vars[k].lo) (by omega);have z2:=Xj (n:=m.vars[k].hi) (by omega)
    have hlo:=Xi (n:=m.vars[k].lo) (Zg (by omega))
    have hhi:=Xi (n:=m.vars[k].hi) (Zg (by omega))
    have hz:=zbU hs hr;have hw:=BQ (mvs:=m.vars) (mcs:=m.cons) (goal:=m.goal) (mvar:=m.var) (buf:=Yd (m.vars.take k)) (zjD m.vars[k]) (by omega)
    have hnx:=hn hlt _ (show Yd (m.vars.take k)++(zjD m.vars[k]).data.toList=Yd (m.vars.take (k+1)) by unfold Yd;rw[zbX _ hlt])
    refine⟨zI hlt,?_⟩;have fin:∃(w1:Int) (w2:AcY),xT yB [Ac3,.str (zjD m.vars[k])] (S7 m.vars m.cons m.goal m.var (Yd (m.vars.take k))) (.tup [dI w1,.undef]) (S7 m.vars m.cons m.goal m.var w2)/\qU m _ n (yU ((k:Int)+1)) m.vars m.cons m.goal m.var w2:=⟨_,_,hw,hnx⟩
    repeat'(first|exact fin|(simp only[Of,fL,On,By,IS];omega)|(refine zG (t:=.str) hlo ?_)|(refine zG (t:=.str) hhi ?_)|(refine And.intro ?_ ?_))
   ·have e:k=m.vars.length:=by omega
    subst e;rw[zY,Aam];exact BR h (by rw[hc];rfl)
  ·rw[An hc]
   exact dnt hc rfl
end Go.Proofs.YtdnmkinmcdihnaaGreatDoor
namespace Go.Proofs.YtdnmkinmcdihnaaGreatDoor
open Go.Proofs.Tryz
open Go.RowKit
variable[Lo]
def zjH:zE:=⟨[⟨⟨#[120]⟩,0,2⟩,⟨⟨#[121]⟩,0,2⟩],[⟨1,[0,1],[1,-1],-1,[],[]⟩],1,1⟩
theorem zls:vL wF [] (Yn .mdl zjH):=Ua λok=>by rw[Tf];rfl
def zei:AcL:=⟨#[118,97,114,32,120,58,32,48,46,46,50,59,10,118,97,114,32,121,58,32,48,46,46,50,59,10,99,111,110,32,108,101,32,91,49,44,32,45,49,93,32,91,120,44,32,121,93,32,45,49,59,10,115,111,108,118,101,32,108,101,97,115,116,32,121,59,10]⟩
theorem BS:yY zjH=0:=by decide+kernel
theorem zjI:zeh zjH=zei:=by
 unfold zeh;rw[As BS];decide+kernel
theorem zjJ:YJ zei=(zjH,0,0):=by decide+kernel
theorem zej:vL mS [] (dB true):=
 Tc λok=>by
  rw[So];refine zG (t:=.mdl) zls (Zt (t:=.str) (u:=.int) (zaA zjH) ?_);rw[zjI,BS];refine ze0 (t:=.mdl) (u:=.int) (v:=.int) (zax zei) ?_;rw[zjJ];refine dt rfl (dt rfl (dt rfl (zG (t:=.mdl) zls (zG (t:=.bool) (Ya zjH zjH) ?_))));rw[Aaf rfl]
end Go.Proofs.YtdnmkinmcdihnaaGreatDoor
namespace Go.Proofs.YtdnmkinmcdihnaaGreatDoor
open Go.Proofs.Tryz
open Go.RowKit
variable[Lo]
def XM(l' l:AcS):Prop:=∀c∈l,∃c'∈l',∀vs:AcP,fa c' vs=true->fa c vs=true
theorem XM.sub{l' l:AcS}(h:∀c∈l,c∈l'):XM l' l:=λc hc=>⟨c,h c hc,λ_ h=>h⟩
theorem XM.refl(l:AcS):XM l l:=.sub λ_ h=>h
theorem XM.trans{a b c:AcS}(h:XM a b)(h':XM b c):XM a c:=λx hx=>by
 obtain⟨y,hy,e⟩:=h' x hx;obtain⟨z,hz,e'⟩:=h y hy;exact⟨z,hz,λvs h=>e vs (e' vs h)⟩
theorem XM.app{a b a' b':AcS}(h:XM a b)(h':XM a' b'):XM (a++a') (b++b'):=λx hx=>by
 rcases Aai.1 hx with hx|hx
 ·obtain⟨y,hy,e⟩:=h x hx;exact⟨y,AaH _ hy,e⟩
 ·obtain⟨y,hy,e⟩:=h' x hx;exact⟨y,AaU _ hy,e⟩
theorem zgo{nv:Nat}{op op':Op}{Q Q':AcP->Bool}(h:XE nv op Q)(h':XE nv op' Q')(hq:∀vs,Q' vs=true->Q vs=true){s:AcQ}(hl:s.length=nv)(hp:0<s.length)(hf:zZ s=false)(hs:op' s=s):op s=s:=by
 have hm:∀(v:Nat) (n:Int),n∈s.getD v []->∃us,VH us s/\us.getD v 0=n/\Q us=true:=λv n hn=>by
  obtain⟨us,a,b,c⟩:=h'.congr (Q':=Q') hl (vs:=[]) hs hf v n hn;exact⟨us,a,b,hq us c⟩
 have hex:∃vs,VH vs s/\Q vs=true:=by
  have h0:=tK.1 hf 0 hp;obtain⟨n,hn⟩:=Aci _ h0;obtain⟨us,a,_,c⟩:=hm 0 n hn;exact⟨us,a,c⟩
 rw[h.some s hl hf hex];exact aX λv n hn=>nE.2 (hm v n hn)
section
variable {m:zE}{l l':AcS}{cons:Bool}{s t:AcQ}
theorem zgp(hl:yL m l)(hl':yL m l')(he:XM l' l)(hs:s.length=m.vars.length)(hf:zZ s=false)(h:Nu (qR m cons l') s):Nu (qR m cons l) s:=λop ho=>by
 have hp:=hl.pos;rcases qM.1 ho with⟨hc,c,hc2,rfl⟩|⟨c,hc,rfl⟩
 ·exact h _ (qM.2 (.inl ⟨hc,c,hc2,rfl⟩))
 ·obtain⟨c',hc',e⟩:=he c hc
  exact zgo (aI hl hc) (aI hl' hc') e hs (by omega) hf (h _ (qM.2 (.inr ⟨c',hc',rfl⟩)))
theorem Ra(hl:yL m l)(hs:s.length=m.vars.length):fJ (tH m cons l s) s:=(gQ hl hs).le
theorem Dc(hl:yL m l)(hs:s.length=m.vars.length):(tH m cons l s).length=m.vars.length:=(Ra hl hs).1.trans hs
theorem Vu(hl:yL m l)(hs:s.length=m.vars.length)(hf:zZ (tH m cons l s)=false):Nu (qR m cons l) (tH m cons l s):=by
 rcases(gQ (cons:=cons) hl hs).out with⟨_,h⟩|h
 ·exact h
 ·rw[h,lY (by have:=hl.pos;omega)]at hf;cases hf
theorem zek(hl:yL m l)(hs:s.length=m.vars.length)(ht:fJ t s)(hf:zZ t=false)(h:Nu (qR m cons l) t):fJ t (tH m cons l s):=(gQ hl hs).all t ht hf h
theorem zgq(hl:yL m l)(hs:s.length=m.vars.length)(hf:zZ (tH m cons l s)=true):tH m cons l s=jJ s:=by
 rcases(gQ (cons:=cons) hl hs).out with⟨h,_⟩|h
 ·rw[h]at hf;cases hf
 ·exact h
theorem zr1(hl:yL m l)(hl':yL m l')(he:XM l' l)(hs:s.length=m.vars.length)(h:zZ (tH m cons l s)=true):zZ (tH m cons l' s)=true:=by
 cases hf:zZ (tH m cons l' s)
 ·have hs':=Dc (cons:=cons) hl' hs
  have:=zek hl hs (Ra hl' hs) hf (zgp hl hl' he hs' hf (Vu hl' hs hf));rw[this.fail hf]at h;cases h
 ·rfl
theorem zpC{f:Nat->Int->Bool}(hl:yL m l)(hs:s.length=m.vars.length)(hf:zZ (tH m cons l s)=false):tH m cons l (rI f (tH m cons l s))=tH m cons l (rI f s):=by
 have hr:=Dc (cons:=cons) hl hs;have k1:(rI f (tH m cons l s)).length=m.vars.length:=sC.trans hr;have k2:(rI f s).length=m.vars.length:=sC.trans hs;refine Ui hl k1 ⟨?_,λt ht hft hst=> ?_,?_⟩
 ·cases hq:zZ (tH m cons l (rI f s))
  ·have h1:=Ra (cons:=cons) hl k2
   have h2:=zek hl hs (h1.trans ZT) hq (Vu hl k2 hq);refine⟨h2.1.trans (hr.trans k1.symm),λv=> ?_⟩
   rw[uZ];have h3:=h1.2 v;rw[uZ]at h3
   have h4:(tH m cons l (rI f s)).getD v []=((tH m cons l (rI f s)).getD v []).filter (f v):=(Acf.2 λn hn=>(Aax.1 (h3.subset hn)).2).symm
   rw[h4];exact(h2.2 v).filter _
  ·rw[zgq hl k2 hq]
   exact Tn (k2.trans k1.symm)
 ·refine zek hl k2 (ht.trans ?_) hft hst
  exact W5 (Ra hl hs) λv n _ h=>h
 ·cases hq:zZ (tH m cons l (rI f s))
  ·exact .inl ⟨rfl,Vu hl k2 hq⟩
  ·refine .inr ?_
   rw[zgq hl k2 hq];exact Kw (k2.trans k1.symm)
theorem zjK{c:AcR}(hl:yL m l)(hl':yL m l')(he:XM l' l)(h:Vb m l c=true):Vb m l' c=true:=
 zr1 hl hl' he (Ul.1.trans wC) h
theorem zbY{st:zR}(hl:yL m l)(hl':yL m l')(he:XM l' l)(h:XI m l st=true):XI m l' st=true:=by
 unfold XI at h⊢
 by_cases h1:st.kind=1
 ·rw[As h1]at h⊢;exact h
 ·rw[An h1]at h⊢
  by_cases h2:st.kind=2
  ·rw[As h2,If]at h⊢
   exact⟨h.1,zjK hl hl' he h.2⟩
  ·rw[An h2]at h;cases h
end
theorem BT{m:zE}(hm:yY m=0):∀ {t:AcW} {l l':AcS},(∀c∈l,xD m.vars.length c=0)->(∀c∈l',xD m.vars.length c=0)->(∀st∈t,xD m.vars.length st.clause=0)->XM l' l->qO m l t=true->qO m l' t=true
 |[],l,l',_,_,_,_,_=>rfl
 |st::t,l,l',h1,h2,h3,he,h=>by
  have hst:=h3 st (Aaa ..);rw[qO,If]at h⊢
  have k1:∀ {a:AcS},(∀c∈a,xD m.vars.length c=0)->∀c∈a++[st.clause],xD m.vars.length c=0:=λha c hc=>by
   rcases Aai.1 hc with hc|hc
   ·exact ha c hc
   ·rw[Aab.1 hc];exact hst
  exact⟨zbY (nB hm h1) (nB hm h2) he h.1,BT hm (k1 h1) (k1 h2) (λx hx=>h3 x (Aac _ hx)) (he.app (.refl _)) h.2⟩
abbrev Vv(s:AcQ):Int:=Nl (λr=>decide (1<r.length)) s 0
def rK(s:AcQ)(v n:Int):AcQ:=rI (λw k=> !decide ((w:Int)=v)||decide (k=n)) s
def mB(s:AcQ):AcP:=s.map λr=>r.getD 0 0
noncomputable def vV (m:zE)(l:AcS)(d:AcR):AcQ:=tH m true l (eG m d)
noncomputable def TU (m:zE)(l:AcS):Nat->AcQ->AcR->AcR×Bool×AcP
 |0,s,d=>(d,false,[])
 |k+1,s,d=>if zZ s=true then(d,false,[])else if Vv s<0 then([],true,mB s)
   else TU m l k (tH m true l (rK s (Vv s) ((s.getD (Vv s).toNat []).getD 0 0))) (d++[⟨Vv s,3,(s.getD (Vv s).toNat []).getD 0 0⟩])
noncomputable def mC (m:zE)(l:AcS):AcR×Bool×AcP:=TU m l (m.vars.length+1) (tH m true l (xY m)) []
theorem zbZ{α:Type}{p:α->Bool}:∀(xs:List α) (i:Nat),(Nl p xs (i:Int)= -1/\∀x∈xs,p x=false)\/∃k,k<xs.length/\Nl p xs (i:Int)=((i+k:Nat):Int)/\(∀h:k<xs.length,p xs[k]=true)/\∀j (hj:j<xs.length),j<k->p xs[j]=false
 |[],i=> .inl ⟨rfl,λx hx=>by cases hx⟩
 |x::xs,i=>by
  rw[Nl];cases hx:p x
  ·rw[Aag]
   rcases zbZ xs (i+1)with⟨h1,h2⟩|⟨k,hk,h1,h2,h3⟩
   ·refine .inl ⟨h1,λy hy=> ?_⟩
    rcases Aad.1 hy with rfl|hy
    ·exact hx
    ·exact h2 y hy
   ·refine .inr ⟨k+1,by simp;omega,by rw[show((i:Int)+1)=((i+1:Nat):Int) by omega,h1];omega,λh=>by simpa using h2 hk,λj hj hjk=> ?_⟩
    match j with
    |0=>exact hx
    |j+1=>simpa using h3 j (by simpa using hj) (by omega)
  ·rw[AI]
   exact .inr ⟨0,by simp,rfl,λ_=>hx,λj _ hj=>by omega⟩
theorem HK(s:AcQ):(Vv s= -1/\∀v:Nat,(s.getD v []).length<=1)\/∃v:Nat,Vv s=(v:Int)/\v<s.length/\1<(s.getD v []).length/\∀w:Nat,w<v->(s.getD w []).length<=1:=by
 have h:(Vv s= -1/\_)\/∃k,k<s.length/\Vv s=((0+k:Nat):Int)/\_:=zbZ (p:=λr:AcP=>decide (1<r.length)) s 0
 rcases h with⟨h1,h2⟩|⟨k,hk,h1,h2,h3⟩
 ·refine .inl ⟨h1,λv=> ?_⟩
  by_cases hv:v<s.length
  ·have:=h2 _ (AT hv)
   rw[yO _ hv];simpa using this
  ·rw[qK (by omega)];exact Is _
 ·refine .inr ⟨k,by rw[h1];omega,hk,?_,λw hw=> ?_⟩
  ·have:=h2 hk
   rw[yO _ hk];simpa using this
  ·have:=h3 w (by omega) hw
   rw[yO _ (by omega)];simpa using this
section
variable {m:zE}{l l':AcS}{d:AcR}
theorem TV(hl:yL m l):(vV m l d).length=m.vars.length:=Dc hl fx
theorem zlt(hl:yL m l):fJ (vV m l d) (eG m d):=Ra hl fx
theorem YK(hl:yL m l):fJ (vV m l d) (xY m):=(zlt hl).trans Up
theorem zr2{v n:Int}:eG m (d++[⟨v,3,n⟩])=rK (eG m d) v n:=by
 rw[eG,Abg];show AZ (eG m d) _=_
 rw[AZ,rK];exact XF λw k _=>by simp[holdsL]
theorem JT(hl:yL m l)(hf:zZ (vV m l d)=false){v n:Int}:tH m true l (rK (vV m l d) v n)=vV m l (d++[⟨v,3,n⟩]):=by
 rw[vV,vV,zr2,rK,rK];exact zpC hl fx hf
structure F3 (m:zE)(l:AcS)(d:AcR):Prop where
 ok:∀x∈d,x.op=3/\0<=x.var/\x.var<(m.vars.length:Int)/\x.n∈(xY m).getD x.var.toNat []
 thin:∀x∈d,∀w:Nat,(w:Int)<=x.var->((vV m l d).getD w []).length<=1
 few:∀w:Nat,1<((vV m l d).getD w []).length->d.length<=w
 len:d.length<=m.vars.length
theorem F3.nil:F3 m l []:=⟨λx hx=>(by cases hx),λx hx=>(by cases hx),λw _=>Is _,Is _⟩
theorem zm0(hl:yL m l)(hf:zZ (vV m l d)=false){v n:Int}:fJ (vV m l (d++[⟨v,3,n⟩])) (rK (vV m l d) v n):=by
 rw[<-JT hl hf];exact Ra hl (sC.trans (TV hl))
theorem HL{a:AcP}(h:a.Nodup)(n:Int):(a.filter λk=>decide (k=n)).length<=1:=by
 induction a with
 |nil=>exact Is _
 |cons x a ih=>
  rw[Abc]
  by_cases e:x=n
  ·rw[As (by simpa using e)]
   have:(a.filter λk=>decide (k=n))=[]:=List.filter_eq_nil_iff.2 λy hy=>by
    have:=(AaM.1 h).1;intro e2;have e2:y=n:=by simpa using e2
    rw[e2,<-e]at hy;exact this hy
   rw[this];exact IN _
  ·rw[An (by simpa using e)]
   exact ih (AaM.1 h).2
theorem BU(v:Nat):((xY m).getD v []).Nodup:=by
 by_cases hv:v<m.vars.length
 ·rw[XJ hv];exact Hb _ _
 ·rw[qK (by rw[wC];omega)];exact Abx
theorem BV{a:AcP}(h:0<a.length):a.getD 0 0∈a:=by
 match a,h with
 |x::a,_=>exact Aaa
theorem F3.step(hl:yL m l)(h:F3 m l d)(hf:zZ (vV m l d)=false){v:Nat}(hv:v<m.vars.length)(ho:Vv (vV m l d)=v)(h1:1<((vV m l d).getD v []).length)(h2:∀w:Nat,w<v->((vV m l d).getD w []).length<=1):
  F3 m l (d++[⟨v,3,((vV m l d).getD v []).getD 0 0⟩]):=by
 have hm:=zm0 (v:=(v:Int)) (n:=((vV m l d).getD v []).getD 0 0) hl hf;have hle:∀w:Nat,((vV m l (d++[⟨v,3,((vV m l d).getD v []).getD 0 0⟩])).getD w []).length<=((vV m l d).getD w []).length:=λw=>((hm.trans ZT).2 w).length_le
 have hvv:((vV m l (d++[⟨v,3,((vV m l d).getD v []).getD 0 0⟩])).getD v []).length<=1:=by
  have h3:=(hm.2 v).length_le;rw[rK,uZ]at h3
  have h4:(((vV m l d).getD v []).filter λk=> !decide ((v:Int)=(v:Int))||decide (k=((vV m l d).getD v []).getD 0 0)).length<=1:=by
   rw[show(λk:Int=> !decide ((v:Int)=(v:Int))||decide (k=((vV m l d).getD v []).getD 0 0))=λk=>decide (k=((vV m l d).getD v []).getD 0 0) by funext k;simp]
   exact HL (((YK hl).2 v).nodup (BU v)) _
  omega
 have hd:d.length<=v:=h.few v h1;refine⟨λx hx=> ?_,λx hx w hw=> ?_,λw hw=> ?_,?_⟩
 ·rcases Aai.1 hx with hx|hx
  ·exact h.ok x hx
  ·rw[Aab.1 hx]
   exact⟨rfl,by show(0:Int)<=v;omega,by show(v:Int)<_;omega,((YK hl).2 v).subset (BV (by omega))⟩
 ·rcases Aai.1 hx with hx|hx
  ·exact Aan (hle w) (h.thin x hx w hw)
  ·rw[Aab.1 hx]at hw
   have hw:(w:Int)<=v:=hw
   by_cases e:w=v
   ·rw[e];exact hvv
   ·exact Aan (hle w) (h2 w (by omega))
 ·rw[It,Aa0]
  have h5:v<w:=by
   rcases AaP v w with h5|h5
   ·exact h5
   ·rcases Nat.lt_or_eq_of_le h5 with h6|h6
    ·have:=h2 w h6;have:=hle w;omega
    ·rw[h6]at hw;omega
  omega
 ·rw[It,Aa0];omega
inductive zb0 (m:zE)(l:AcS):AcR×Bool×AcP->Prop
 |found (d:AcR) (hc:F3 m l d) (hf:zZ (vV m l d)=false) (h1:∀v:Nat,((vV m l d).getD v []).length<=1):zb0 m l ([],true,mB (vV m l d))
 |none (hf:zZ (vV m l [])=true):zb0 m l ([],false,[])
 |some (d:AcR) (v:Nat) (hc:F3 m l d) (hf:zZ (vV m l d)=false) (hv:v<m.vars.length) (h1:1<((vV m l d).getD v []).length) (h2:∀w:Nat,w<v->((vV m l d).getD w []).length<=1)
   (hc':F3 m l (d++[⟨v,3,((vV m l d).getD v []).getD 0 0⟩])) (hf':zZ (vV m l (d++[⟨v,3,((vV m l d).getD v []).getD 0 0⟩]))=true):zb0 m l (d++[⟨v,3,((vV m l d).getD v []).getD 0 0⟩],false,[])
theorem BW(hl:yL m l):∀(k:Nat) (d:AcR),F3 m l d->m.vars.length+1<=k+d.length->(zZ (vV m l d)=true->zb0 m l (d,false,[]))->zb0 m l (TU m l k (vV m l d) d)
 |0,d,hc,hk,_=>At hc.len (by omega)
 |k+1,d,hc,hk,hfail=>by
  rw[TU];cases hf:zZ (vV m l d)
  ·rw[An (by decide)]
   rcases HK (vV m l d)with⟨e,h1⟩|⟨v,e,hv,h1,h2⟩
   ·rw[As (by omega)];exact .found d hc hf h1
   ·rw[An (by omega),e,Aap,JT hl hf]
    have hv:v<m.vars.length:=by rw[TV hl]at hv;exact hv
    have hc':=hc.step hl hf hv e h1 h2;exact BW hl k _ hc' (by rw[It,Aa0];omega) λhf'=> .some d v hc hf hv h1 h2 hc' hf'
  ·rw[As rfl];exact hfail hf
theorem BX(hl:yL m l):zb0 m l (mC m l):=BW hl _ [] .nil (by simp) λhf=> .none hf
end
end Go.Proofs.YtdnmkinmcdihnaaGreatDoor
namespace Go.Proofs.YtdnmkinmcdihnaaGreatDoor
open Go.Proofs.Tryz
open Go.RowKit
variable[Lo]
def jD:AcQ->AcQ
 |[]=>[[]]
 |r::rs=>r.flatMap λn=>(jD rs).map (n::·)
def aL:AcQ->Nat
 |[]=>1
 |r::rs=>r.length*aL rs
theorem zb1:∀s:AcQ,(jD s).length=aL s
 |[]=>rfl
 |r::rs=>by
  rw[jD,aL,List.length_flatMap];have h:(r.map λn=>((jD rs).map (n::·)).length)=r.map λ_=>aL rs:=Ab3 λn _=>by rw[Aae,zb1 rs]
  rw[h];clear h
  induction r with
  |nil=>simp
  |cons x r ih=>rw[Aaq,Acb,ih,By,Abi];omega
theorem YL:∀ {s:AcQ} {vs:AcP},vs∈jD s↔VH vs s
 |[],vs=>by
  rw[jD,Aab];refine⟨λh=>by subst h;exact⟨rfl,λv hv=>At hv (Aba v)⟩,λh=>AaX.1 h.1⟩
 |r::rs,vs=>by
  rw[jD,AcC];constructor
  ·rintro⟨n,hn,h⟩
   obtain⟨us,hu,rfl⟩:=OF.1 h;have:=YL.1 hu;refine⟨by simp[this.1],λv hv=> ?_⟩
   match v with
   |0=>exact hn
   |v+1=>exact this.2 v (by simpa using hv)
  ·rintro⟨h1,h2⟩
   match vs,h1 with
   |n::us,h1=>
    refine⟨n,h2 0 (by simp),OF.2 ⟨us,YL.2 ⟨by simpa using h1,λv hv=> ?_⟩,rfl⟩⟩
    exact h2 (v+1) (by simpa using hv)
theorem GO:∀(a b:AcQ),aL (a++b)=aL a*aL b
 |[],b=>by rw[Aa7,aL,Nat.one_mul]
 |r::a,b=>by rw[AbT,aL,aL,GO a b,Nat.mul_assoc]
def Xk(s:AcQ):Nat->AcQ
 |0=>[]
 |k+1=>Xk s k++if 1<(s.getD k []).length then jD (s.take (k+1))else[]
theorem zb2{s:AcQ}(h:∀r∈s,0<r.length):∀k,k<=s.length->(Xk s k).length+2<=2*aL (s.take k)
 |0,_=>by simp[Xk,aL]
 |k+1,hk=>by
  have ih:=zb2 h k (by omega)
  have hg:s.getD k []=s[k]:=yO _ (by omega)
  have e:aL (s.take (k+1))=aL (s.take k)*s[k].length:=by
   rw[<-Aay (show k<s.length by omega),GO]
   simp[aL]
  have hp:=h s[k] (AT _);rw[Xk,It,hg];split
  ·rename_i h1
   rw[zb1,e];have h2:aL (s.take k)*2<=aL (s.take k)*s[k].length:=Acw _ h1;omega
  ·rename_i h1
   have h2:s[k].length=1:=by omega
   rw[e,h2,IS];omega
theorem zb3{s:AcQ}{P:AcP}{v:Nat}(h1:1<(s.getD v []).length)(hP:P∈jD (s.take (v+1))):∀k,v<k->P∈Xk s k
 |0,h=>At h (Aba v)
 |k+1,h=>by
  rw[Xk,Aai]
  by_cases e:v=k
  ·subst e;rw[As h1];exact .inr hP
  ·exact .inl (zb3 h1 hP k (by omega))
structure Mo (m:zE)(l:AcS)(P:AcP):Prop where
 ex:∃s,fJ s (xY m)/\zZ s=false/\Nu (qR m true l) s/\(∀w:Nat,w+1<P.length->s.getD w []=[P.getD w 0])/\P.getD (P.length-1) 0∈s.getD (P.length-1) []
theorem Mo.ent{m:zE}{l l':AcS}{P:AcP}(hl:yL m l)(hl':yL m l')(he:XM l' l)(h:Mo m l' P):Mo m l P:=by
 obtain⟨s,h1,h2,h3,h4,h5⟩:=h.ex;exact⟨s,h1,h2,zgp hl hl' he (h1.1.trans wC) h2 h3,h4,h5⟩
open Classical in
noncomputable def HM (m:zE)(l:AcS)(P:AcP):Bool:=decide (Mo m l P)
open Classical in
theorem Vw{m:zE}{l:AcS}{P:AcP}:HM m l P=true↔Mo m l P:=by rw[HM];exact AaC
open Classical in
theorem zel{m:zE}{l:AcS}{P:AcP}:HM m l P=false↔¬Mo m l P:=by rw[HM];exact decide_eq_false_iff_not
noncomputable def eN (m:zE)(l:AcS):Nat:=((Xk (xY m) m.vars.length).filter (HM m l)).length
theorem Nc{α:Type}{p q:α->Bool}:∀ {L:List α},(∀x∈L,p x=true->q x=true)->(L.filter p).length<=(L.filter q).length/\((∃x∈L,q x=true/\p x=false)->(L.filter p).length<(L.filter q).length)
 |[],_=>⟨IN _,λ⟨x,hx,_⟩=>by cases hx⟩
 |y::L,h=>by
  obtain⟨h1,h2⟩:=Nc (L:=L) λx hx=>h x (Aac _ hx)
  have hy:=h y (Aaa ..);rw[Abc,Abc];cases hp:p y<;>cases hq:q y
  ·simp only[AaR,if_false]
   refine⟨h1,λ⟨x,hx,ha,hb⟩=>h2 ?_⟩
   rcases Aad.1 hx with rfl|hx
   ·rw[hq]at ha;cases ha
   ·exact⟨x,hx,ha,hb⟩
  ·simp only[AaR,if_false,if_true,By]
   exact⟨by omega,λ_=>by omega⟩
  ·rw[hy hp]at hq;cases hq
  ·simp only[if_true,By]
   refine⟨by omega,λ⟨x,hx,ha,hb⟩=> ?_⟩
   rcases Aad.1 hx with rfl|hx
   ·rw[hp]at hb;cases hb
   ·have:=h2 ⟨x,hx,ha,hb⟩;omega
section
variable {m:zE}{l l':AcS}{d:AcR}
theorem zm1(hl:yL m l)(hl':yL m l')(he:XM l' l):eN m l'<=eN m l:=by
 unfold eN;exact(Nc λP _ h=>Vw.2 ((Vw.1 h).ent hl hl' he)).1
theorem zm2(hl:yL m l)(hl':yL m l')(he:XM l' l){P:AcP}(hP:P∈Xk (xY m) m.vars.length)(h1:Mo m l P)(h2:¬Mo m l' P):eN m l'<eN m l:=by
 unfold eN;exact(Nc λP _ h=>Vw.2 ((Vw.1 h).ent hl hl' he)).2 ⟨P,hP,Vw.2 h1,zel.2 h2⟩
theorem zb4(hr:Right m):∀r∈xY m,0<r.length:=λr h=>by
 obtain⟨v,hv,rfl⟩:=OF.1 h;have:=hr.var v hv;rw[XA,YB];omega
theorem BZ(hr:Right m):eN m l+2<=2*aL (xY m):=by
 have h1:=zb2 (zb4 hr) m.vars.length (by rw[wC];exact IN _)
 rw[AaJ (by rw[wC];exact IN _)]at h1
 unfold eN;have:=Abw (HM m l) (Xk (xY m) m.vars.length);omega
theorem JU{s:AcQ}{w:Nat}:(mB s).getD w 0=(s.getD w []).getD 0 0:=by
 rw[mB,Aar,Aaw,Aar (l:=s)];cases s[w]? <;>rfl
theorem JV{a:AcP}{k w:Nat}(h:w<k):(a.take k).getD w 0=a.getD w 0:=by
 rw[Aar,List.getElem?_take_of_lt h,<-Aar]
theorem zpD{a:AcP}(h1:a.length<=1)(h2:a≠[]):a=[a.getD 0 0]:=by
 match a,h1,h2 with
 |[x],_,_=>rfl
 |x::y::a,h1,_=>simp at h1
theorem zjL(hl:yL m l){v:Nat}(hf:zZ (vV m l d)=false)(hv:v<m.vars.length)(h1:1<((vV m l d).getD v []).length)(h2:∀w:Nat,w<v->((vV m l d).getD w []).length<=1):
  (mB (vV m l d)).take (v+1)∈Xk (xY m) m.vars.length/\Mo m l ((mB (vV m l d)).take (v+1)):=by
 have hlen:(vV m l d).length=m.vars.length:=TV hl;have hvl:(mB (vV m l d)).length=m.vars.length:=by rw[mB,Aae,hlen]
 have hne:=tK.1 hf
 have hmem:∀w:Nat,w<m.vars.length->(mB (vV m l d)).getD w 0∈(vV m l d).getD w []:=λw hw=>by
  rw[JU];exact BV (Abh.2 (hne w (by omega)))
 have htl:((mB (vV m l d)).take (v+1)).length=v+1:=by rw[Aak,hvl];omega
 refine⟨zb3 (v:=v) ?_ (YL.2 ⟨?_,λw hw=> ?_⟩) _ hv,⟨_,YK hl,hf,Vu hl fx hf,λw hw=> ?_,?_⟩⟩
 ·have:=((YK (d:=d) hl).2 v).length_le;omega
 ·rw[htl,Aak,wC];omega
 ·rw[Aak,wC]at hw
  rw[JV (by omega)]
  have hx:=((YK (d:=d) hl).2 w).subset (hmem w (by omega))
  rw[Aar,List.getElem?_take_of_lt (by omega),<-Aar]
  exact hx
 ·rw[htl]at hw
  rw[JV (by omega),JU]
  exact zpD (h2 w (by omega)) (hne w (by omega))
 ·rw[htl,Nat.add_sub_cancel,JV (by omega)];exact hmem v hv
theorem zm3(hl:yL m l){v:Nat}(hc:F3 m l d)(hf:zZ (vV m l d)=false)(hv:v<m.vars.length)(h1:1<((vV m l d).getD v []).length)(h2:∀w:Nat,w<v->((vV m l d).getD w []).length<=1)
  {few:AcR} (hfew:∀x∈few,x∈d++[⟨v,3,((vV m l d).getD v []).getD 0 0⟩]) (hl':yL m l') (hm:few.map gB∈l'):¬Mo m l' ((mB (vV m l d)).take (v+1)):=λh=>by
 obtain⟨s,s1,s2,s3,s4,s5⟩:=h.ex;have hlen:(vV m l d).length=m.vars.length:=TV hl;have hvl:(mB (vV m l d)).length=m.vars.length:=by rw[mB,Aae,hlen]
 have hne:=tK.1 hf;have htl:((mB (vV m l d)).take (v+1)).length=v+1:=by rw[Aak,hvl];omega
 have hs:s.length=m.vars.length:=s1.1.trans wC;rw[htl,Nat.add_sub_cancel,JV (by omega),JU]at s5
 have hst:=s3 _ (qM.2 (.inr ⟨_,hm,rfl⟩));obtain⟨us,u1,u2,u3⟩:=(aI hl' hm).congr (Q':=fa (few.map gB)) hs (vs:=[]) hst s2 v _ s5;obtain⟨z,hz,hzz⟩:=iB.1 u3;obtain⟨y,hy,rfl⟩:=OF.1 hz;rw[zdp]at hzz
 have key:∀y:zA,y.op=3->us.getD y.var.toNat 0=y.n->holdsL (gB y) (us.getD y.var.toNat 0)=true->False:=λy ho hn hh=>by
  rw[zbh (by omega),holdsL,An (by omega),An (by omega),As ho,hn,Aaf rfl]at hh
  cases hh
 rcases Aai.1 (hfew y hy)with hd|hd
 ·obtain⟨o1,o2,o3,o4⟩:=hc.ok y hd
  have hlt:y.var.toNat<v:=by
   rcases AaP y.var.toNat v with hlt|hge
   ·exact hlt
   ·have:=hc.thin y hd v (by omega);omega
  have h4:=s4 y.var.toNat (by rw[htl];omega)
  rw[JV (by omega),JU]at h4
  have hu:=u1.2 y.var.toNat (by omega)
  rw[h4]at hu
  refine key y o1 ?_ hzz;rw[Aab.1 hu];have hmem:=BV (Abh.2 (hne y.var.toNat (by omega)))
  have hput:=((zlt (d:=d) hl).2 y.var.toNat).subset hmem;rw[TH,uZ]at hput
  have:=Aav.1 (Aax.1 hput).2 y hd;have e:((y.var.toNat:Nat):Int)=y.var:=Abj o2;rw[e,Aaf rfl,AbA,AbB,holdsL,An (by omega),An (by omega),As o1]at this
  exact BY this
 ·rw[Aab.1 hd]at hzz
  refine key _ rfl ?_ hzz;exact u2
end
end Go.Proofs.YtdnmkinmcdihnaaGreatDoor
namespace Go.Proofs.YtdnmkinmcdihnaaGreatDoor
open Go.Proofs.Tryz
open Go.RowKit
variable[Lo]
theorem zlu:∀(u:Nat),∀b∈Lib.decDigits u,48<=b.toNat/\b.toNat<=57:=λu=>by
 induction u using Nat.strongRecOn with
 |_ u ih=>
  intro b hb
  have one:∀k,k<10->48<=(UInt8.ofNat (48+k)).toNat/\(UInt8.ofNat (48+k)).toNat<=57:=λk hk=>by
   rw[UInt8.toNat_ofNat'];omega
  rw[Lib.decDigits]at hb
  split at hb
  ·rename_i h
   rw[Aab.1 hb];exact one u h
  ·rename_i h
   rcases Aai.1 hb with hb|hb
   ·exact ih _ (by omega) b hb
   ·rw[Aab.1 hb];exact one _ (by omega)
def zpE(l:AcY):Nat:=l.foldl (λa b=>10*a+(b.toNat-48)) 0
theorem Dd(u:Nat):zpE (Lib.decDigits u)=u:=by
 induction u using Nat.strongRecOn with
 |_ u ih=>
  have one:∀k,k<10->(UInt8.ofNat (48+k)).toNat-48=k:=λk hk=>by
   rw[UInt8.toNat_ofNat'];omega
  rw[Lib.decDigits];split
  ·rename_i h
   show 10*0+_=_
   rw[one u h];omega
  ·rename_i h
   rw[zpE,Abg];show 10*zpE (Lib.decDigits (u/10))+_=_
   rw[ih _ (by omega),one _ (by omega)];omega
theorem TW(n:Int):∀b∈Lib.itoa n,b≠58/\b≠32:=λb hb=>by
 have key:∀u,b∈Lib.decDigits u->b≠58/\b≠32:=λu h=>by
  have:=zlu u b h;refine⟨λe=> ?_,λe=> ?_⟩<;>rw[e]at this<;>simp at this
 rw[Lib.itoa]at hb
 split at hb
 ·rcases Aad.1 hb with rfl|hb
  ·decide
  ·exact key _ hb
 ·exact key _ hb
theorem B0{a b:Int}(h:Lib.itoa a=Lib.itoa b):a=b:=by
 have sgn:∀(u:Nat) (l:AcY),Lib.decDigits u≠45::l:=λu l e=>by
  have:=zlu u 45 (by rw[e];exact Aaa)
  simp at this
 unfold Lib.itoa at h
 split at h<;>split at h
 ·have:=AS zpE (List.cons.inj h).2
  rw[Dd,Dd]at this;omega
 ·exact At h.symm (sgn _ _)
 ·exact At h (sgn _ _)
 ·have:=AS zpE h
  rw[Dd,Dd]at this;omega
def zem(x:zA):AcL:=eJ x.var++⟨#[58]⟩++eJ x.op++⟨#[58]⟩++eJ x.n++⟨#[32]⟩
def UO(c:AcR):AcL:=c.foldl (λo x=>o++zem x) ⟨#[]⟩
def zaB(x:zA):AcY:=Lib.itoa x.var++58::(Lib.itoa x.op++58::(Lib.itoa x.n++[32]))
theorem zm4(x:zA):(zem x).data.toList=zaB x:=by
 simp[zem,zaB,eJ,ByteArray.data_append]
theorem zb5(c:AcR):(UO c).data.toList=c.flatMap zaB:=by
 suffices H:∀(c:AcR) (o:AcL),(c.foldl (λo x=>o++zem x) o).data.toList=o.data.toList++c.flatMap zaB by
  rw[UO,H];rfl
 intro c
 induction c with
 |nil=>intro o;simp
 |cons x c ih=>
  intro o;rw[AbR,ih,ByteArray.data_append,Array.toList_append,zm4,AaZ,AaG]
theorem zen{s:UInt8}:∀ {p q r t:AcY},(∀b∈p,b≠s)->(∀b∈q,b≠s)->p++s::r=q++s::t->p=q/\r=t
 |[],[],r,t,_,_,h=>⟨rfl,(List.cons.inj h).2⟩
 |[],y::q,r,t,_,hq,h=>At (List.cons.inj h).1.symm (hq y (Aaa ..))
 |x::p,[],r,t,hp,_,h=>At (List.cons.inj h).1 (hp x (Aaa ..))
 |x::p,y::q,r,t,hp,hq,h=>by
  obtain⟨h1,h2⟩:=List.cons.inj h;obtain⟨h3,h4⟩:=zen (λb hb=>hp b (Aac _ hb)) (λb hb=>hq b (Aac _ hb)) h2
  exact⟨by rw[h1,h3],h4⟩
theorem zlv(x:zA):zaB x≠[]:=by unfold zaB;simp
theorem zgr:∀ {c c':AcR},c.flatMap zaB=c'.flatMap zaB->c=c'
 |[],[],_=>rfl
 |[],y::c',h=>by
  rw[AcD,AaZ]at h
  exact At (List.append_eq_nil_iff.1 h.symm).1 (zlv y)
 |x::c,[],h=>by
  rw[AcD,AaZ]at h
  exact At (List.append_eq_nil_iff.1 h).1 (zlv x)
 |x::c,y::c',h=>by
  rw[AaZ,AaZ,zaB,zaB]at h
  simp only[AaG,AbT,Aa7]at h
  obtain⟨h1,h⟩:=zen (λb hb=>(TW _ b hb).1) (λb hb=>(TW _ b hb).1) h
  obtain⟨h2,h⟩:=zen (λb hb=>(TW _ b hb).1) (λb hb=>(TW _ b hb).1) h
  obtain⟨h3,h⟩:=zen (λb hb=>(TW _ b hb).2) (λb hb=>(TW _ b hb).2) h
  have e:x=y:=by
   obtain⟨a,b,c⟩:=x;obtain⟨a',b',c'⟩:=y;have h1:=B0 h1;have h2:=B0 h2;have h3:=B0 h3;simp only at h1 h2 h3
   rw[h1,h2,h3]
  rw[e,zgr h]
theorem zpF{c c':AcR}(h:UO c=UO c'):c=c':=zgr (by rw[<-zb5,<-zb5,h])
theorem zgs(k k':AcL)(v:Int):∀es:List (AcL×Int),sU .str .int k (rB .str .int k' v es)=if k=k' then some v else sU .str .int k es
 |[]=>by
  show(bif decide (k=k')then some v else none)=_
  by_cases h:k=k'<;>simp[h,sU]
 |(a,b)::r=>by
  have ih:=zgs k k' v r;show sU .str .int k (bif decide (k'=a)then(a,v)::r else(a,b)::rB .str .int k' v r)=if k=k' then some v else(bif decide (k=a)then some b else sU .str .int k r)
  by_cases h1:k'=a
  ·rw[Aaf h1,AI]
   show(bif decide (k=a)then some v else sU .str .int k r)=_
   rw[<-h1]
   by_cases h2:k=k'
   ·rw[Aaf h2,As h2];rfl
   ·rw[Aao h2,An h2];rfl
  ·rw[Aao h1,Aag]
   show(bif decide (k=a)then some b else sU .str .int k (rB .str .int k' v r))=_
   rw[ih]
   by_cases h2:k=a
   ·have h4:¬k=k':=λe=>h1 (e.symm.trans h2)
    rw[Aaf h2,An h4,An h4]
   ·rw[Aao h2]
    by_cases h3:k=k'
    ·rw[As h3,As h3];rfl
    ·rw[An h3,An h3]
abbrev ztA:Type:=List (AcL×Int)
abbrev NX(c:AcR)(met:ztA):Int:=kC .str .int (UO c) met
theorem zr3(c c':AcR)(met:ztA):NX c (rB .str .int (UO c') 1 met)=if c=c' then 1 else NX c met:=by
 show(sU .str .int (UO c) (rB .str .int (UO c') 1 met)).getD 0=_
 rw[zgs]
 by_cases h:c=c'
 ·rw[As h,As (by rw[h])];rfl
 ·rw[An h,An λe=>h (zpF e)];rfl
abbrev qS:Type:=AcW×ztA
def note1(p:qS)(st:zR):qS:=if NX st.clause p.2=0 then(p.1++[st],rB .str .int (UO st.clause) 1 p.2)else p
def pX(t:AcW)(p:qS):qS:=t.foldl note1 p
def Vx(p:qS):Prop:=∀c,NX c p.2≠0↔c∈sE p.1
theorem Vx.nil:Vx ([],[]):=λc=>⟨λh=>At rfl h,λh=>by cases h⟩
theorem GP{c:AcR}{l:AcW}:c∈sE l↔∃st∈l,st.clause=c:=OF
theorem Vx.note1{p:qS}(h:Vx p)(st:zR):Vx (note1 p st)/\st.clause∈sE (Go.Proofs.YtdnmkinmcdihnaaGreatDoor.note1 p st).1:=by
 unfold Go.Proofs.YtdnmkinmcdihnaaGreatDoor.note1
 by_cases e:NX st.clause p.2=0
 ·rw[As e]
  refine⟨λc=> ?_,?_⟩
  ·show NX c (rB .str .int (UO st.clause) 1 p.2)≠0↔c∈sE (p.1++[st])
   rw[zr3,oP,Aai]
   by_cases hc:c=st.clause
   ·rw[As hc]
    exact⟨λ_=> .inr (Aab.2 hc),λ_=>by decide⟩
   ·rw[An hc,h c]
    exact⟨.inl,λx=>x.elim id λx=>At (Aab.1 x) hc⟩
  ·rw[oP];exact AaU _ (Aab.2 rfl)
 ·rw[An e];exact⟨h,(h _).1 e⟩
theorem Vx.notes:∀ {t:AcW} {p:qS},Vx p->Vx (pX t p)/\(∀st∈t,st.clause∈sE (pX t p).1)/\∃e,(pX t p).1=p.1++e/\e.Sublist t
 |[],p,h=>⟨h,λst hs=>(by cases hs),[],(Aa2 _).symm,List.Sublist.slnil⟩
 |st::t,p,h=>by
  obtain⟨h1,h2⟩:=h.note1 st;obtain⟨i1,i2,e,i3,i4⟩:=h1.notes (t:=t);have e0:pX (st::t) p=pX t (Go.Proofs.YtdnmkinmcdihnaaGreatDoor.note1 p st):=rfl;rw[e0];refine⟨i1,λx hx=> ?_,?_⟩
  ·rcases Aad.1 hx with rfl|hx
   ·rw[i3,oP];exact AaH _ h2
   ·exact i2 x hx
  ·unfold Go.Proofs.YtdnmkinmcdihnaaGreatDoor.note1 at i3
   by_cases e1:NX st.clause p.2=0
   ·rw[As e1]at i3
    unfold Go.Proofs.YtdnmkinmcdihnaaGreatDoor.note1;rw[As e1];exact⟨st::e,by rw[i3];simp,i4.cons_cons st⟩
   ·rw[An e1]at i3
    unfold Go.Proofs.YtdnmkinmcdihnaaGreatDoor.note1;rw[An e1];exact⟨e,i3,i4.cons st⟩
theorem GQ{m:zE}(hm:yY m=0){given:AcS}(hg:∀c∈given,xD m.vars.length c=0):∀(t:AcW) (p:qS) (A:AcS),Vx p->qO m given p.1=true->(∀st∈p.1,xD m.vars.length st.clause=0)->
  (∀c∈A,xD m.vars.length c=0)->(∀st∈t,xD m.vars.length st.clause=0)->XM (given++sE p.1) A->qO m A t=true->qO m given (pX t p).1=true
 |[],p,A,_,h,_,_,_,_,_=>h
 |st::t,p,A,hp,h,hs,hA,ht,he,hr=>by
  rw[qO,If]at hr
  have hst:=ht st (Aaa ..)
  have hall:∀c∈given++sE p.1,xD m.vars.length c=0:=λc hc=>by
   rcases Aai.1 hc with hc|hc
   ·exact hg c hc
   ·obtain⟨x,hx,rfl⟩:=GP.1 hc;exact hs x hx
  obtain⟨h1,h2⟩:=hp.note1 st;show qO m given (pX t (note1 p st)).1=true
  have hA':∀c∈A++[st.clause],xD m.vars.length c=0:=λc hc=>by
   rcases Aai.1 hc with hc|hc
   ·exact hA c hc
   ·rw[Aab.1 hc];exact hst
  have hb:=zbY (nB hm hA) (nB hm hall) he hr.1;refine GQ hm hg t _ (A++[st.clause]) h1 ?_ ?_ hA' (λx hx=>ht x (Aac _ hx)) ?_ hr.2
  ·unfold note1
   by_cases e:NX st.clause p.2=0
   ·rw[As e,SH,h,Abf]
    show(XI m _ st&&true)=true
    rw[hb];rfl
   ·rw[An e];exact h
  ·unfold note1
   by_cases e:NX st.clause p.2=0
   ·rw[As e]
    intro x hx;rcases Aai.1 hx with hx|hx
    ·exact hs x hx
    ·rw[Aab.1 hx];exact hst
   ·rw[An e];exact hs
  ·have hsub:∀c∈sE p.1,c∈sE (note1 p st).1:=λc hc=>by
    unfold note1
    by_cases e:NX st.clause p.2=0
    ·rw[As e,oP];exact AaH _ hc
    ·rw[An e];exact hc
   intro c hc;rcases Aai.1 hc with hc|hc
   ·obtain⟨c',hc',hh⟩:=he c hc
    refine⟨c',?_,hh⟩;rcases Aai.1 hc' with hc'|hc'
    ·exact AaH _ hc'
    ·exact AaU _ (hsub c' hc')
   ·rw[Aab.1 hc]
    exact⟨_,AaU _ h2,λ_ h=>h⟩
theorem zjM{t1 t2:AcW}{p:qS}(hp:Vx p)(h0:∀st∈p.1,st.clause≠[])(h1:∀st∈t1,st.clause≠[])(h2:t2≠[])(h3:∀st∈t2,st.clause=[]):dN (pX (t1++t2) p).1=true:=by
 have e0:pX (t1++t2) p=pX t2 (pX t1 p):=Abg ..;rw[e0];obtain⟨i1,_,e,i3,i4⟩:=hp.notes (t:=t1);generalize pX t1 p=q at i1 i3
 have hq:([]:AcR)∉sE q.1:=λhc=>by
  obtain⟨st,hs,e1⟩:=GP.1 hc;rw[i3]at hs
  rcases Aai.1 hs with hs|hs
  ·exact h0 st hs e1
  ·exact h1 st (i4.subset hs) e1
 match t2,h2,h3 with
 |st::t2,_,h3=>
  have hst:=h3 st (Aaa ..)
  have hm:NX st.clause q.2=0:=by
   rcases Int.decEq (NX st.clause q.2) 0 with h|h
   ·exact At ((i1 _).1 h) (by rw[hst];exact hq)
   ·exact h
  show dN (pX t2 (note1 q st)).1=true
  have hst2:∀(t:AcW) (r:qS),(∀x∈t,x.clause=[])->NX [] r.2≠0->pX t r=r:=λt=>by
   induction t with
   |nil=>exact λr _ _=>rfl
   |cons x t ih=>
    intro r hx hr;show pX t (note1 r x)=r
    have e:note1 r x=r:=by
     unfold note1;rw[An (by rw[hx x (Aaa ..)];exact hr)]
    rw[e];exact ih r (λy hy=>hx y (Aac _ hy)) hr
  have hn:=(i1.note1 st).1;have hmem:=(i1.note1 st).2;rw[hst2 t2 _ (λx hx=>h3 x (Aac _ hx)) ((hn []).2 (by rw[<-hst];exact hmem))]
  unfold note1;rw[As hm,dN];simp[hst]
def NE(m:zE)(p:Br):Prop:=(∀st∈p.1,st.clause≠[])\/(zZ p.2=true/\∃t1 e,p.1=t1++[e]/\(∀st∈t1,st.clause≠[])/\e.clause=[])
section
variable {m:zE}{l:AcS}{d:AcR}
theorem zr4{p:Br}(h:Tr m l d p.1 p.2)(hk:wJ m l d){i:Nat}(hi:i<m.cons.length)(hf:zZ p.2=false)(hn:NE m p):NE m (Vg m i p).1:=by
 have hn:∀st∈p.1,st.clause≠[]:=by
  rcases hn with hn|⟨hn,_⟩
  ·exact hn
  ·rw[hf]at hn;cases hn
 unfold Vg
 by_cases hg:zZ (yP (yV m i) p.2)=true
 ·rw[As hg]
  by_cases he:fc m i p.2=[]
  ·exact .inr ⟨lY (by rw[h.len];exact hk.mc.pos),p.1,_,rfl,hn,he⟩
  ·refine .inl λst hs=> ?_
   rcases Aai.1 hs with hs|hs
   ·exact hn st hs
   ·rw[Aab.1 hs];exact he
 ·rw[An hg]
  refine .inl λst hs=> ?_
  rcases Aai.1 hs with hs|hs
  ·exact hn st hs
  ·obtain⟨v,n,h1,h2,h3,rfl⟩:=Wt.1 hs
   have hgone:Um m i p.2 v n=true:=by
    rw[Um,hf,Aap];have e1:mE (p.2.getD v []) n=true:=pE.2 h2
    have e2:mE ((yP (yV m i) p.2).getD v []) n=false:=by
     cases e:mE ((yP (yV m i) p.2).getD v []) n
     ·rfl
     ·exact At (pE.1 e) h3
    rw[e1,e2];rfl
   show Un m i p.2 v n≠[]
   rw[Un,As hgone,KW];simp
theorem zgt(hk:wJ m l d):∀(k i:Nat) (p:Br) (c:Bool),i+k=m.cons.length->Tr m l d p.1 p.2->NE m p->NE m (fy m k i p c).1
 |0,i,p,c,_,_,hn=>hn
 |k+1,i,p,c,hi,h,hn=>by
  rw[fy];cases hf:zZ p.2
  ·rw[An (by decide)]
   exact zgt hk k (i+1) _ _ (by omega) (Hp h hk (i:=i) (by omega) hf).1 (zr4 h hk (by omega) hf hn)
  ·rw[As rfl];exact hn
theorem zm5{p:Br}(h:Tr m l d p.1 p.2)(hk:wJ m l d)(hn:NE m p):NE m (iE m l p).1:=by
 obtain⟨i1,_,_,_⟩:=Lh hk m.cons.length 0 p false (Aat _) h;have hc:=zgt hk m.cons.length 0 p false (Aat _) h hn;rw[iE];generalize fy m m.cons.length 0 p false=r at i1 hc⊢
 rcases hc with hc|⟨h1,h2⟩
 ·exact .inl hc
 ·exact .inr ⟨(i1.units hk).2.failed h1,h2⟩
theorem zlw(hk:wJ m l d):∀(k:Nat) (p:Br),Tr m l d p.1 p.2->NE m p->NE m (Nz m l k p)
 |0,p,_,hn=>hn
 |k+1,p,h,hn=>by
  rw[Nz];cases hf:zZ p.2
  ·rw[An (by decide)]
   have h1:=(Px h hk hf).1;have h2:=zm5 h hk hn;cases e:(iE m l p).2
   ·rw[An (by decide)];exact h2
   ·rw[As rfl];exact zlw hk k _ h1 h2
  ·rw[As rfl];exact hn
theorem zgu(hk:wJ m l d):∃t1 t2,cL m l d=t1++t2++[GJ d]/\(∀st∈t1,st.clause≠[])/\∀st∈t2,st.clause=[]/\Vf m st:=by
 have hb:=Tr.begin hk;have h1:=(OE hk 36 ([],eG m d) hb (by have:=hb.size;simpa using this)).1
 rcases zlw hk 37 ([],eG m d) hb (.inl λst hs=>by cases hs)with h|⟨_,t1,e,h2,h3,h4⟩
 ·exact⟨_,[],by rw[Aa2];rfl,h,λst hs=>by cases hs⟩
 ·refine⟨t1,[e],by rw[cL,h2],h3,λst hs=> ?_⟩
  rw[Aab.1 hs];exact⟨h4,h1.ok e (by rw[h2];exact AaU _ (Aab.2 rfl))⟩
theorem zpG{s:AcQ}:cA s []=s:=aX λv n _=>rfl
theorem zm6(hl:yL m l){i:Int}(hi:0<=i/\i<(m.cons.length:Int))(h:mO m i []=true):qP m l []=true:=by
 cases hf:qP m l []
 ·have hf:zZ (tH m true l (xY m))=false:=hf
  have hlen:(xY m).length=m.vars.length:=wC
  have hc:yV m i∈m.cons:=by
   have hj:i.toNat<m.cons.length:=by omega
   rw[yV,yO _ hj];exact AT hj
  have hst:=Vu hl hlen hf _ (qM.2 (.inl ⟨rfl,_,hc,rfl⟩));have hm:=(YF hl hc).mono hlen (Ra (cons:=true) hl hlen) (by rw[hst];exact hf)
  rw[hst]at hm
  have:=hm.fail hf;rw[mO,zpG]at h
  rw[h]at this;cases this
 ·rfl
theorem B1(hl:yL m l)(h:qP m l []=true):fewest m l d=[]:=by
 have hmin:=zfR (qP m l) (GH hl) d;show zdD (qP m l) d=[]
 generalize zdD (qP m l) d=r at hmin
 match r,hmin with
 |[],_=>rfl
 |x::r,hmin=>
  have:=hmin 0 (by simp)
  rw[GH hl [] _ (λy hy=>by cases hy) h]at this
  cases this
theorem zpH(hk:wJ m l d)(hd:d≠[])(h:qP m l []=false):∀st∈cL m l d,st.clause≠[]:=by
 obtain⟨t1,t2,e,h1,h2⟩:=zgu hk;rw[e];intro st hs;rcases Aai.1 hs with hs|hs
 ·rcases Aai.1 hs with hs|hs
  ·exact h1 st hs
  ·obtain⟨h3,h4⟩:=h2 st hs
   have:=zm6 hk.mc h4.con (by rw[<-h3];exact h4.by')
   rw[h]at this;cases this
 ·rw[Aab.1 hs]
  show d.map gB≠[]
  exact λe=>hd (List.map_eq_nil_iff.1 e)
theorem zjN(hk:wJ m l []):∃t1 t2,cL m l []=t1++t2/\(∀st∈t1,st.clause≠[])/\t2≠[]/\∀st∈t2,st.clause=[]:=by
 obtain⟨t1,t2,e,h1,h2⟩:=zgu hk;refine⟨t1,t2++[GJ []],by rw[e,AaG],h1,by simp,λst hs=> ?_⟩
 rcases Aai.1 hs with hs|hs
 ·exact(h2 st hs).1
 ·rw[Aab.1 hs];rfl
end
end Go.Proofs.YtdnmkinmcdihnaaGreatDoor
namespace Go.Proofs.YtdnmkinmcdihnaaGreatDoor
open Go.Proofs.Tryz
open Go.RowKit
variable[Lo]
structure GoR where
 vals:AcP
 verdict:Int
 fuel:Nat
 learned:AcS
 note:qS
noncomputable def jE (m:zE)(l:AcS):AcR:=fewest m l (mC m l).1
noncomputable def kB (m:zE)(l:AcS)(p:qS):qS:=pX (cL m l (jE m l)) p
noncomputable def Yl (m:zE):Nat->AcS->AcS->qS->GoR
 |0,g,l,p=>⟨[],3,0,l,p⟩
 |k+1,g,l,p=>if(mC m (g++l)).2.1=true then⟨(mC m (g++l)).2.2,1,k,l,p⟩
  else if jE m (g++l)=[]then⟨[],2,k,l,kB m (g++l) p⟩
  else if 600<l.length+1\/6000<(kB m (g++l) p).1.length then⟨[],3,k,l++[(jE m (g++l)).map gB],kB m (g++l) p⟩
  else Yl m k g (l++[(jE m (g++l)).map gB]) (kB m (g++l) p)
structure Au (m:zE)(g l:AcS)(p:qS):Prop where
 chk:yY m=0
 gc:∀c∈g,xD m.vars.length c=0
 lc:∀c∈l,xD m.vars.length c=0
 glen:g.length<=1
 met:Vx p
 right:qO m g p.1=true
 cl:∀st∈p.1,xD m.vars.length st.clause=0
 con:∀st∈p.1,st.kind=1->0<=st.con/\st.con<(m.cons.length:Int)
 ne:∀st∈p.1,st.clause≠[]
 sub:∀c∈l,c∈sE p.1
section
variable {m:zE}{g l:AcS}{p:qS}
theorem Au.all(h:Au m g l p):∀c∈g++l,xD m.vars.length c=0:=λc hc=>by
 rcases Aai.1 hc with hc|hc
 ·exact h.gc c hc
 ·exact h.lc c hc
theorem Au.mc(h:Au m g l p):yL m (g++l):=nB h.chk h.all
theorem Au.begin(h:yY m=0):Au m [] [] ([],[]):=⟨h,λc hc=>(by cases hc),λc hc=>(by cases hc),Is _,.nil,rfl,λc hc=>(by cases hc),λc hc=>(by cases hc),λc hc=>(by cases hc),λc hc=>(by cases hc)⟩
structure LB (m:zE)(g:AcS)(t:AcW):Prop where
 right:Pq m g t=true
 cl:∀st∈t,xD m.vars.length st.clause=0
 con:∀st∈t,st.kind=1->0<=st.con/\st.con<(m.cons.length:Int)
theorem GR(h:Au m g l p)(hl:l.length<=599){d:AcR}(hc:F3 m (g++l) d):wJ m (g++l) d:=by
 have hr:=h.mc.right;have hv:=hr.vars;refine⟨h.chk,by rw[It];have:=h.glen;omega,h.all,by have:=hc.len;omega,λx hx=> ?_,λx hx=> ?_⟩
 ·obtain⟨o1,o2,o3,o4⟩:=hc.ok x hx
  exact KY hr ⟨o2,o3⟩ (by omega) o4
 ·obtain⟨o1,o2,o3,o4⟩:=hc.ok x hx
  refine KY hr (by rw[zdp];exact⟨o2,o3⟩) ?_ ?_
  ·rw[gB,An (by omega),An (by omega),As o1];exact⟨by show(1:Int)<=4;decide,by show(4:Int)<=4;decide⟩
  ·rw[gB,An (by omega),An (by omega),As o1];exact o4
theorem Rb(h:Au m g l p)(hl:l.length<=599)(hd:(mC m (g++l)).2.1=false):
  wJ m (g++l) (mC m (g++l)).1/\qP m (g++l) (mC m (g++l)).1=true/\(kB m (g++l) p).1.length<=p.1.length+wI (xY m)+1/\
  (jE m (g++l)=[]->LB m g (kB m (g++l) p).1)/\
  (jE m (g++l)≠[]->Au m g (l++[(jE m (g++l)).map gB]) (kB m (g++l) p)/\eN m (g++(l++[(jE m (g++l)).map gB]))<eN m (g++l)):=by
 have hmc:=h.mc;have hD:=BX hmc
 have base:wJ m (g++l) (mC m (g++l)).1/\qP m (g++l) (mC m (g++l)).1=true:=by
  generalize mC m (g++l)=D at hD hd
  cases hD with
  |found d hc hf h1=>cases hd
  |none hf=>exact⟨GR h hl .nil,hf⟩
  |some d v hc hf hv h1 h2 hc' hf'=>exact⟨GR h hl hc',hf'⟩
 obtain⟨hk,hfail⟩:=base;have hkf:wJ m (g++l) (jE m (g++l)):=hk.sub SG;have hff:qP m (g++l) (jE m (g++l))=true:=K0 hfail;have ht:=Py hkf hff;obtain⟨n1,n2,e,n3,n4⟩:=h.met.notes (t:=cL m (g++l) (jE m (g++l)))
 have hent:XM (g++sE p.1) (g++l):=.sub λc hc=>by
  rcases Aai.1 hc with hc|hc
  ·exact AaH _ hc
  ·exact AaU _ (h.sub c hc)
 have hright:=GQ h.chk h.gc (cL m (g++l) (jE m (g++l))) p (g++l) h.met h.right h.cl h.all ht.cl hent ht.right
 have hmem:∀st∈(kB m (g++l) p).1,st∈p.1\/st∈cL m (g++l) (jE m (g++l)):=λst hs=>by
  have hs:st∈(pX (cL m (g++l) (jE m (g++l))) p).1:=hs;rw[n3]at hs
  rcases Aai.1 hs with hs|hs
  ·exact .inl hs
  ·exact .inr (n4.subset hs)
 have hcl:∀st∈(kB m (g++l) p).1,xD m.vars.length st.clause=0:=λst hs=>(hmem st hs).elim (h.cl st) (ht.cl st)
 have hcon:∀st∈(kB m (g++l) p).1,st.kind=1->0<=st.con/\st.con<(m.cons.length:Int):=λst hs=>(hmem st hs).elim (h.con st) (ht.con st)
 refine⟨hk,hfail,?_,λhf=> ?_,λhf=> ?_⟩
 ·have h1:=n4.length_le
  have h2:=ht.len2;show(pX _ p).1.length<=_
  rw[n3,It];omega
 ·refine⟨?_,hcl,hcon⟩
  rw[Pq,If];refine⟨hright,?_⟩;show dN (pX (cL m (g++l) (jE m (g++l))) p).1=true
  rw[hf]at hkf⊢
  obtain⟨t1,t2,e,h1,h2,h3⟩:=zjN hkf;rw[e];exact zjM h.met h.ne h1 h2 h3
 ·have hnil:qP m (g++l) []=false:=by
   cases e:qP m (g++l) []
   ·rfl
   ·exact At (B1 hmc e) hf
  have hne:=zpH hkf hf hnil;have hnog:xD m.vars.length ((jE m (g++l)).map gB)=0:=zbF hkf
  have hlast:(jE m (g++l)).map gB∈sE (kB m (g++l) p).1:=by
   have:=n2 (GJ (jE m (g++l))) (by rw[cL];exact AaU _ (Aab.2 rfl))
   exact this
  have hS:Au m g (l++[(jE m (g++l)).map gB]) (kB m (g++l) p):=by
   refine⟨h.chk,h.gc,λc hc=> ?_,h.glen,n1,hright,hcl,hcon,λst hs=>(hmem st hs).elim (h.ne st) (hne st),λc hc=> ?_⟩
   ·rcases Aai.1 hc with hc|hc
    ·exact h.lc c hc
    ·rw[Aab.1 hc];exact hnog
   ·rcases Aai.1 hc with hc|hc
    ·show c∈sE (pX _ p).1
     rw[n3,oP];exact AaH _ (h.sub c hc)
    ·rw[Aab.1 hc];exact hlast
  refine⟨hS,?_⟩;have hsub:∀x∈jE m (g++l),x∈(mC m (g++l)).1:=λx hx=>SG.subset hx
  have hne0:(mC m (g++l)).1≠[]:=λe=>hf (by
   have:(jE m (g++l)).Sublist (mC m (g++l)).1:=SG;rw[e]at this;exact List.sublist_nil.1 this)
  have hin:(jE m (g++l)).map gB∈g++(l++[(jE m (g++l)).map gB]):=by simp
  have hE:XM (g++(l++[(jE m (g++l)).map gB])) (g++l):=.sub λc hc=>by
   rw[<-AaG];exact AaH _ hc
  generalize jE m (g++l)=few at hS hsub hin hE hf⊢
  generalize mC m (g++l)=D at hD hd hsub hne0
  cases hD with
  |found d hc hf h1=>cases hd
  |none hf=>exact At rfl hne0
  |some d v hc hf hv h1 h2 hc' hf'=>
   obtain⟨a1,a2⟩:=zjL hmc hf hv h1 h2;exact zm2 hmc hS.mc hE a1 a2 (zm3 hmc hc hf hv h1 h2 hsub hS.mc hin)
theorem zjO(hmc:yL m l)(hd:(mC m l).2.1=true):(mC m l).2.2.length=m.vars.length/\VH (mC m l).2.2 (xY m)/\(∀c∈m.cons,wO c (mC m l).2.2=true)/\∀c∈l,fa c (mC m l).2.2=true:=by
 have hD:=BX hmc;generalize mC m l=D at hD hd
 cases hD with
 |none hf=>cases hd
 |some d v hc hf hv h1 h2 hc' hf'=>cases hd
 |found d hc hf h1=>
  have hlen:(vV m l d).length=m.vars.length:=TV hmc;have hvl:(mB (vV m l d)).length=m.vars.length:=by rw[mB,Aae,hlen]
  have hne:=tK.1 hf
  have hrow:∀v:Nat,v<m.vars.length->(vV m l d).getD v []=[(mB (vV m l d)).getD v 0]:=λv hv=>by
   rw[JU];exact zpD (h1 v) (hne v (by omega))
  have hin:VH (mB (vV m l d)) (vV m l d):=⟨hvl.trans hlen.symm,λv hv=>by
   rw[hrow v (by omega)];exact Aab.2 rfl⟩
  have huniq:∀us,VH us (vV m l d)->us=mB (vV m l d):=λus hu=>by
   refine Pb (d:=0) (hu.1.trans (hlen.trans hvl.symm)) λv=> ?_
   by_cases hv:v<m.vars.length
   ·have:=hu.2 v (by omega)
    rw[hrow v hv]at this
    exact Aab.1 this
   ·rw[qK (by rw[hu.1,hlen];omega),qK (by omega)]
  have hst:=Vu hmc fx hf;have hpos:=hmc.pos
  have hq:∀ {op:Op} {Q:AcP->Bool},XE m.vars.length op Q->op (vV m l d)=vV m l d->Q (mB (vV m l d))=true:=λho hs=>by
   obtain⟨n,hn⟩:=Aci _ (hne 0 (by omega))
   obtain⟨us,u1,_,u3⟩:=ho.congr (Q':=λ_=>true) hlen (vs:=[]) hs hf 0 n hn
   rw[huniq us u1]at u3;exact u3
  exact⟨hvl,hin.mono (YK hmc),λc hc=>hq (YF hmc hc) (hst _ (qM.2 (.inl ⟨rfl,c,hc,rfl⟩))),λc hc=>hq (aI hmc hc) (hst _ (qM.2 (.inr ⟨c,hc,rfl⟩)))⟩
theorem zgv{vs:AcP}(hl:vs.length=m.vars.length)(h:VH vs (xY m))(hc:∀c∈m.cons,wO c vs=true):aG m vs=true:=by
 have h1:((m.vars.zip vs).any λx=> !gK x.2 x.1.lo x.1.hi)=false:=by
  rw[AaF];intro x hx;obtain⟨i,hi,rfl⟩:=Aas hx;have hi1:i<m.vars.length:=by rw[AaA]at hi;omega
  have hi2:i<vs.length:=by omega
  rw[AaL];have:=h.2 i (by rw[wC];exact hi1)
  rw[XJ hi1,TC,yO _ hi2]at this
  show¬(!gK vs[i] m.vars[i].lo m.vars[i].hi)=true
  rw[gK,Aaf this.1,Aaf this.2];decide
 have h2:(m.cons.any λc=> !wO c vs)=false:=by
  rw[AaF];exact λc hm=>by rw[hc c hm];decide
 rw[aG,h1,h2];rfl
structure Re (m:zE)(g:AcS)(vs:AcP):Prop where
 len:vs.length=m.vars.length
 full:VH vs (xY m)
 whole:aG m vs=true
 giv:∀c∈g,fa c vs=true
inductive GoX (m:zE)(g:AcS)(r:GoR):Prop
 |found (h1:r.verdict=1) (h2:Re m g r.vals) (h3:Au m g r.learned r.note) (h4:r.learned.length+r.fuel<=300):GoX m g r
 |none (h1:r.verdict=2) (h2:r.vals=[]) (h3:LB m g r.note.1):GoX m g r
 |unknown (h1:r.verdict=3) (h2:r.vals=[]):GoX m g r
theorem TX:∀(k:Nat) (l:AcS) (p:qS),Au m g l p->l.length+k<=300->GoX m g (Yl m k g l p)
 |0,l,p,_,_=> .unknown rfl rfl
 |k+1,l,p,h,hk=>by
  rw[Yl]
  by_cases hd:(mC m (g++l)).2.1=true
  ·rw[As hd]
   obtain⟨f1,f2,f3,f4⟩:=zjO h.mc hd;exact .found rfl ⟨f1,f2,zgv f1 f2 f3,λc hc=>f4 c (AaH _ hc)⟩ h (by show l.length+k<=300;omega)
  ·rw[An hd]
   obtain⟨_,_,_,q4,q5⟩:=Rb h (by omega) (by simpa using hd)
   by_cases hf:jE m (g++l)=[]
   ·rw[As hf];exact .none rfl rfl (q4 hf)
   ·rw[An hf]
    split
    ·exact .unknown rfl rfl
    ·exact TX k _ _ (q5 hf).1 (by rw[It,Aa0];omega)
theorem B2:∀ {s:AcQ},(∀r∈s,0<r.length/\r.length<=6)->∃F,2^F<=aL s/\wI s<=s.length+3*F
 |[],_=>⟨0,IN _,IN _⟩
 |r::s,h=>by
  obtain⟨F,h1,h2⟩:=B2 (s:=s) λx hx=>h x (Aac _ hx)
  obtain⟨h3,h4⟩:=h r (Aaa ..);have e:wI (r::s)=r.length+wI s:=by simp[wI]
  rw[e,aL,By];rcases AaP r.length 2 with h5|h5
  ·refine⟨F,?_,by omega⟩
   rw[show r.length=1 by omega,Nat.one_mul];exact h1
  ·rcases AaP r.length 4 with h6|h6
   ·refine⟨F+1,?_,by omega⟩
    have:=AbK h5 h1;rw[Nat.pow_succ];omega
   ·refine⟨F+2,?_,by omega⟩
    have:=AbK h6 h1;rw[Nat.pow_succ,Nat.pow_succ];omega
theorem B3(hr:Right m)(h:aL (xY m)<=100):wI (xY m)<=24:=by
 have hv:=hr.vars
 obtain⟨F,h1,h2⟩:=B2 (s:=xY m) λr hx=>⟨zb4 hr r hx,by
  obtain⟨i,hi,rfl⟩:=Aas hx;have:=TF hr i
  rwa[yO _ hi]at this⟩
 rw[wC]at h2
 have hF:F<=6:=by
  rcases AaP 6 F with h3|h3
  ·have:=Nat.pow_le_pow_right (n:=2) (by decide) h3
   have e:2^(6+1)=128:=by decide
   omega
  ·exact h3
 omega
theorem B4(hp:aL (xY m)<=100):∀(k e:Nat) (l:AcS) (p:qS),Au m g l p->l.length+k<=300->eN m (g++l)+e+1<=k->p.1.length+(eN m (g++l)+1)*25<=6000->
  (Yl m k g l p).verdict≠3/\(Yl m k g l p).note.1.length<=6000/\((Yl m k g l p).verdict=1->eN m (g++(Yl m k g l p).learned)+e<=(Yl m k g l p).fuel/\(Yl m k g l p).note.1.length+(eN m (g++(Yl m k g l p).learned)+1)*25<=6000)
 |0,e,l,p,_,_,h,_=>by omega
 |k+1,e,l,p,h,hk,ha,hs=>by
  have hsz:=B3 h.mc.right hp;rw[Yl]
  by_cases hd:(mC m (g++l)).2.1=true
  ·rw[As hd]
   exact⟨by show(1:Int)≠3;decide,by show p.1.length<=6000;omega,λ_=>⟨by show eN m (g++l)+e<=k;omega,hs⟩⟩
  ·rw[An hd]
   obtain⟨_,_,q3,q4,q5⟩:=Rb h (by omega) (by simpa using hd)
   by_cases hf:jE m (g++l)=[]
   ·rw[As hf]
    exact⟨by show(2:Int)≠3;decide,by show(kB m (g++l) p).1.length<=6000;omega,λe=>by cases e⟩
   ·rw[An hf]
    obtain⟨q6,q7⟩:=q5 hf;rw[An (by omega)]
    refine B4 hp k e _ _ q6 (by rw[It,Aa0];omega) (by omega) ?_
    omega
end
end Go.Proofs.YtdnmkinmcdihnaaGreatDoor
namespace Go.Proofs.YtdnmkinmcdihnaaGreatDoor
open Go.Proofs.Tryz
open Go.RowKit
variable[Lo]
noncomputable def P7 (m:zE)(fuel:Nat):T5:=
 if(Yl m fuel [] [] ([],[])).verdict=2 then
  (if 6000<(Yl m fuel [] [] ([],[])).note.1.length then⟨3,[],[]⟩else⟨2,[],(Yl m fuel [] [] ([],[])).note.1⟩)
 else⟨(Yl m fuel [] [] ([],[])).verdict,(Yl m fuel [] [] ([],[])).vals,[]⟩
inductive B5 (m:zE)(fuel:Nat)(a:T5):Prop
 |found (h1:a.verdict=1) (h2:Re m [] a.values) (h3:a.proof=[]):B5 m fuel a
 |none (h1:a.verdict=2) (h2:a.values=[]) (h3:LB m [] a.proof) (h4:a.proof.length<=6000):B5 m fuel a
 |unknown (h1:a.verdict=3) (h2:a.values=[]) (h3:a.proof=[]) (h4:fuel<300\/100<aL (xY m)):B5 m fuel a
section
variable {m:zE}{g l:AcS}{p:qS}
theorem zjP(hm:yY m=0){fuel:Nat}(hf:fuel<=300):B5 m fuel (P7 m fuel):=by
 have hb:=Au.begin hm;have h1:=TX fuel [] ([],[]) hb (by simpa using hf)
 have h2:¬(fuel<300\/100<aL (xY m))->(Yl m fuel [] [] ([],[])).verdict≠3/\(Yl m fuel [] [] ([],[])).note.1.length<=6000:=λhn=>by
  have ha:=BZ (l:=[]++[]) hb.mc.right;have:=B4 (by omega) fuel 0 [] ([],[]) hb (by simpa using hf) (by omega) (by show 0+_<=_;omega)
  exact⟨this.1,this.2.1⟩
 rw[P7];generalize Yl m fuel [] [] ([],[])=r at h1 h2
 cases h1 with
 |found q1 q2 q3 q4=>rw[An (by rw[q1];decide)];exact .found q1 q2 rfl
 |none q1 q2 q3=>
  rw[As q1]
  by_cases e:6000<r.note.1.length
  ·rw[As e]
   refine .unknown rfl rfl rfl ?_
   by_cases hn:fuel<300\/100<aL (xY m)
   ·exact hn
   ·have:=(h2 hn).2;omega
  ·rw[An e];exact .none rfl rfl q3 (by show r.note.1.length<=6000;omega)
 |unknown q1 q2=>
  rw[An (by rw[q1];decide)]
  refine .unknown q1 q2 rfl ?_
  by_cases hn:fuel<300\/100<aL (xY m)
  ·exact hn
  ·exact At q1 (h2 hn).1
def cD(m:zE)(vs:AcP):AcR:=if m.goal=1 then[⟨m.var,1,vs.getD m.var.toNat 0-1⟩]else if m.goal=2 then[⟨m.var,2,vs.getD m.var.toNat 0+1⟩]else[]
structure zpI where
 verdict:Int
 best:AcP
 nl:Bool
 given:AcS
 fuel:Nat
 learned:AcS
 note:qS
noncomputable def TY (m:zE):Nat->Nat->AcS->AcS->qS->AcP->Bool->zpI
 |0,k,g,l,p,b,nl=>⟨3,b,nl,g,k,l,p⟩
 |n+1,k,g,l,p,b,nl=>if(Yl m k g l p).verdict=3\/(Yl m k g l p).verdict=2 then⟨(Yl m k g l p).verdict,b,nl,g,(Yl m k g l p).fuel,(Yl m k g l p).learned,(Yl m k g l p).note⟩
  else if m.goal=0 then⟨(Yl m k g l p).verdict,(Yl m k g l p).vals,false,g,(Yl m k g l p).fuel,(Yl m k g l p).learned,(Yl m k g l p).note⟩
  else TY m n (Yl m k g l p).fuel [cD m (Yl m k g l p).vals] (Yl m k g l p).learned (Yl m k g l p).note (Yl m k g l p).vals false
noncomputable def rL (m:zE)(fuel:Nat):zpI:=TY m (fuel+1) fuel [] [] ([],[]) [] true
noncomputable def B6 (m:zE)(fuel:Nat):T5:=
 if m.goal=0/\(rL m fuel).verdict=1 then⟨1,(rL m fuel).best,[]⟩
 else if(rL m fuel).verdict=3\/6000<(rL m fuel).note.1.length then⟨3,[],[]⟩
 else if(rL m fuel).nl=true then⟨2,[],(rL m fuel).note.1⟩
 else⟨1,(rL m fuel).best,(rL m fuel).note.1⟩
theorem Rf(hr:Right m)(h:m.goal≠0):(m.goal=1\/m.goal=2)/\0<=m.var/\m.var<(m.vars.length:Int):=by
 have hg:=hr.goal;unfold XX at hg
 split at hg
 ·cases hg
 ·rename_i h1
  split at hg
  ·cases hg
  ·split at hg
   ·cases hg
   ·rename_i h3
    have h1:gK m.goal 0 2=true:=by simpa using h1
    rw[gK,If,AaC,AaC]at h1
    have h3:¬qQ m.vars.length m.var=true:=λe=>h3 ⟨h,e⟩
    have h4:qQ m.vars.length m.var=false:=by simpa using h3
    refine⟨by omega,?_⟩
    have h4:gK m.var 0 ((m.vars.length:Int)-1)=true:=by simpa[qQ]using h4
    rw[gK,If,AaC,AaC]at h4
    omega
theorem De(hr:Right m)(h:m.goal≠0)(vs:AcP):∃x:zA,cD m vs=[x]/\x.var=m.var/\1<=x.op/\x.op<=4/\vs.getD m.var.toNat 0-1<=x.n/\x.n<=vs.getD m.var.toNat 0+1/\holdsL x (vs.getD m.var.toNat 0)=false:=by
 obtain⟨h1|h1,_⟩:=Rf hr h
 ·rw[cD,As h1]
  refine⟨_,rfl,rfl,by show(1:Int)<=1;decide,by show(1:Int)<=4;decide,AaK _,by show vs.getD m.var.toNat 0-1<=_;omega,?_⟩
  rw[holdsL,As rfl];exact Aao (by show¬vs.getD m.var.toNat 0<=vs.getD m.var.toNat 0-1;omega)
 ·rw[cD,An (by omega),As h1]
  refine⟨_,rfl,rfl,by show(1:Int)<=2;decide,by show(2:Int)<=4;decide,by show vs.getD m.var.toNat 0-1<=vs.getD m.var.toNat 0+1;omega,AaK _,?_⟩
  rw[holdsL,An (by show¬(2:Int)=1;decide),As rfl];exact Aao (by show¬vs.getD m.var.toNat 0+1<=vs.getD m.var.toNat 0;omega)
theorem zeo(hr:Right m)(h:m.goal≠0){vs:AcP}(hv:VH vs (xY m)):xD m.vars.length (cD m vs)=0:=by
 obtain⟨x,e,x1,x2,x3,x4,x5,_⟩:=De hr h vs;obtain⟨_,g2,g3⟩:=Rf hr h;rw[e];refine Lf (by show 1<=40;decide) λy hy=> ?_
 rw[Aab.1 hy];have hvl:m.var.toNat<m.vars.length:=by omega
 have:=hv.2 m.var.toNat (by rw[wC];exact hvl)
 rw[XJ hvl,TC]at this
 have hb:=hr.var _ (AT hvl);exact kV.2 ⟨by rw[x1];exact⟨g2,g3⟩,⟨x2,x3⟩,by omega⟩
theorem LC(hr:Right m)(h:m.goal≠0){vs us:AcP}:fa (cD m vs) us=true↔(m.goal=1/\us.getD m.var.toNat 0<vs.getD m.var.toNat 0)\/(m.goal=2/\vs.getD m.var.toNat 0<us.getD m.var.toNat 0):=by
 obtain⟨h1|h1,_⟩:=Rf hr h
 ·rw[cD,As h1,fa,Abb,List.any_nil,AbO,holdsL,As rfl,AaC]
  show us.getD m.var.toNat 0<=vs.getD m.var.toNat 0-1↔_
  omega
 ·rw[cD,An (by omega),As h1,fa,Abb,List.any_nil,AbO,holdsL,An (by show¬(2:Int)=1;decide),As rfl,AaC]
  show vs.getD m.var.toNat 0+1<=us.getD m.var.toNat 0↔_
  omega
def B7(m:zE)(g:AcS):Nat:=(((xY m).getD m.var.toNat []).filter λn=>g.all λc=>c.any λx=>holdsL x n).length
inductive zjQ (m:zE):AcS->AcP->Bool->Prop
 |none:zjQ m [] [] true
 |some (vs:AcP) (h:Re m [] vs) (hg:m.goal≠0):zjQ m [cD m vs] vs false
theorem B8(hr:Right m)(hgoal:m.goal≠0){b vs:AcP}{nl:Bool}(hg:zjQ m g b nl)(hf:Re m g vs):XM [cD m vs] g/\B7 m [cD m vs]<B7 m g:=by
 obtain⟨g1,g2,g3⟩:=Rf hr hgoal;have hvl:m.var.toNat<m.vars.length:=by omega
 have hin:=hf.full.2 m.var.toNat (by rw[wC];exact hvl)
 obtain⟨x,ex,x1,_,_,_,_,x6⟩:=De hr hgoal vs
 have hE:XM [cD m vs] g:=by
  cases hg with
  |none=>exact λc hc=>by cases hc
  |some _ hb _=>
   intro c hc;refine⟨_,Aab.2 rfl,λus hu=> ?_⟩
   rw[Aab.1 hc];have h1:=(LC hr hgoal).1 (hf.giv _ (Aab.2 rfl));have h2:=(LC hr hgoal).1 hu;exact(LC hr hgoal).2 (by omega)
 refine⟨hE,?_⟩
 have one:∀(x:zA) (n:Int),x.var=m.var->(fa [x] (List.replicate m.var.toNat 0++[n])=holdsL x n):=λx n hx=>by
  rw[fa,Abb,List.any_nil,AbO,hx]
  congr 1
  rw[Aar,AaN (by simp)]
  simp
 unfold B7;refine(Nc λn hn h=> ?_).2 ⟨_,hin,?_,?_⟩
 ·cases hg with
  |none=>rfl
  |some _ hb _=>
   obtain⟨y,ey,y1,_⟩:=De hr hgoal b;rw[ex]at h
   rw[ey];have h:holdsL x n=true:=by simpa using h
   have h1:fa (cD m vs) (List.replicate m.var.toNat 0++[n])=true:=by rw[ex,one x n x1];exact h
   obtain⟨c',hc',e⟩:=hE (cD m b) (Aab.2 rfl);rw[Aab.1 hc']at e
   have h2:=e _ h1;rw[ey,one y n y1]at h2
   simpa using h2
 ·cases hg with
  |none=>rfl
  |some _ hb _=>
   obtain⟨y,ey,y1,_⟩:=De hr hgoal b;have:=hf.giv _ (Aab.2 rfl);rw[ey,fa,Abb,List.any_nil,AbO,y1]at this
   rw[ey];simpa using this
 ·rw[ex];simpa using x6
theorem Au.give(h:Au m g l p){g':AcS}(hg:∀c∈g',xD m.vars.length c=0)(hl:g'.length<=1)(he:XM g' g):Au m g' l p:=
 ⟨h.chk,hg,h.lc,hl,h.met,BT h.chk h.gc hg h.cl he h.right,h.cl,h.con,h.ne,h.sub⟩
inductive zgw (m:zE)(r:zpI):Prop
 |any (h0:m.goal=0) (h1:r.verdict=1) (h2:Re m [] r.best):zgw m r
 |none (h1:r.verdict=2) (h2:zjQ m r.given r.best r.nl) (h3:LB m r.given r.note.1):zgw m r
 |unknown (h1:r.verdict=3):zgw m r
theorem Nd{vs:AcP}(h:Re m g vs):Re m [] vs:=⟨h.len,h.full,h.whole,λc hc=>by cases hc⟩
theorem B9:∀(n k:Nat) (g l:AcS) (p:qS) (b:AcP) (nl:Bool),Au m g l p->zjQ m g b nl->l.length+k<=300->zgw m (TY m n k g l p b nl)
 |0,k,g,l,p,b,nl,_,_,_=> .unknown rfl
 |n+1,k,g,l,p,b,nl,h,hg,hk=>by
  have h1:=TX k l p h hk;rw[TY];generalize Yl m k g l p=r at h1
  cases h1 with
  |unknown q1 q2=>rw[As (.inl q1)];exact .unknown q1
  |none q1 q2 q3=>rw[As (.inr q1)];exact .none q1 hg q3
  |found q1 q2 q3 q4=>
   rw[An (by rw[q1];decide)]
   by_cases h0:m.goal=0
   ·rw[As h0];exact .any h0 q1 (Nd q2)
   ·rw[An h0]
    have hr:=h.mc.right;obtain⟨e1,e2⟩:=B8 hr h0 hg q2;have hc:∀c∈[cD m r.vals],xD m.vars.length c=0:=λc hc=>by rw[Aab.1 hc];exact zeo hr h0 q2.full
    exact B9 n _ _ _ _ _ _ (q3.give hc (IN _) e1) (.some _ (Nd q2) h0) q4
theorem Aa(hp:aL (xY m)<=100):∀(n k:Nat) (g l:AcS) (p:qS) (b:AcP) (nl:Bool),Au m g l p->zjQ m g b nl->l.length+k<=300->eN m (g++l)+B7 m g+1<=k->B7 m g+1<=n->p.1.length+(eN m (g++l)+1)*25<=6000->
  (TY m n k g l p b nl).verdict≠3/\(TY m n k g l p b nl).note.1.length<=6000
 |0,k,g,l,p,b,nl,_,_,_,_,h,_=>by omega
 |n+1,k,g,l,p,b,nl,h,hg,hk,ha,hn,hs=>by
  have h1:=TX k l p h hk;obtain⟨e1,e2,e3⟩:=B4 hp k (B7 m g) l p h hk ha hs;rw[TY];generalize Yl m k g l p=r at h1 e1 e2 e3
  cases h1 with
  |unknown q1 q2=>exact At q1 e1
  |none q1 q2 q3=>rw[As (.inr q1)];exact⟨e1,e2⟩
  |found q1 q2 q3 q4=>
   rw[An (by rw[q1];decide)]
   by_cases h0:m.goal=0
   ·rw[As h0];exact⟨e1,e2⟩
   ·rw[An h0]
    have hr:=h.mc.right;obtain⟨f1,f2⟩:=B8 hr h0 hg q2;obtain⟨e4,e5⟩:=e3 q1;have hc:∀c∈[cD m r.vals],xD m.vars.length c=0:=λc hc=>by rw[Aab.1 hc];exact zeo hr h0 q2.full
    have hS:=q3.give hc (IN _) f1;have hal:=zm1 q3.mc hS.mc (f1.app (.refl r.learned));exact Aa hp n _ _ _ _ _ _ hS (.some _ (Nd q2) h0) q4 (by omega) (by omega) (by omega)
inductive zgx (m:zE)(fuel:Nat)(a:T5):Prop
 |any (h0:m.goal=0) (h1:a.verdict=1) (h2:Re m [] a.values) (h3:a.proof=[]):zgx m fuel a
 |best (h0:m.goal≠0) (h1:a.verdict=1) (h2:Re m [] a.values) (h3:LB m [cD m a.values] a.proof) (h4:a.proof.length<=6000):zgx m fuel a
 |none (h1:a.verdict=2) (h2:a.values=[]) (h3:LB m [] a.proof) (h4:a.proof.length<=6000):zgx m fuel a
 |unknown (h1:a.verdict=3) (h2:a.values=[]) (h3:a.proof=[]) (h4:fuel<300\/100<aL (xY m)):zgx m fuel a
theorem zm7(hm:yY m=0){fuel:Nat}(hf:fuel<=300):zgx m fuel (B6 m fuel):=by
 have hb:=Au.begin hm;have hr:=hb.mc.right;have h1:zgw m (rL m fuel):=B9 (fuel+1) fuel [] [] ([],[]) [] true hb .none (by simpa using hf)
 have h2:¬(fuel<300\/100<aL (xY m))->(rL m fuel).verdict≠3/\(rL m fuel).note.1.length<=6000:=λhn=>by
  have ha:=BZ (l:=[]++[]) hr
  have hl:B7 m []<=6:=by
   have:=TF hr m.var.toNat;exact Aan (Abw ..) this
  exact Aa (by omega) (fuel+1) fuel [] [] ([],[]) [] true hb .none (by simpa using hf) (by omega) (by omega) (by show 0+_<=_;omega)
 rw[B6];generalize rL m fuel=r at h1 h2
 have unk:(r.verdict=3\/6000<r.note.1.length)->(fuel<300\/100<aL (xY m)):=λh=>by
  by_cases hn:fuel<300\/100<aL (xY m)
  ·exact hn
  ·obtain⟨a,b⟩:=h2 hn
   rcases h with h|h
   ·exact At h a
   ·omega
 cases h1 with
 |any q0 q1 q2=>rw[As ⟨q0,q1⟩];exact .any q0 rfl q2 rfl
 |unknown q1=>
  rw[An (by rw[q1];rintro⟨_,h⟩;cases h),As (.inl q1)]
  exact .unknown rfl rfl rfl (unk (.inl q1))
 |none q1 q2 q3=>
  rw[An (by rw[q1];rintro⟨_,h⟩;cases h)]
  by_cases hs:6000<r.note.1.length
  ·rw[As (.inr hs)];exact .unknown rfl rfl rfl (unk (.inr hs))
  ·rw[An (by rw[q1];rintro(h|h);cases h;exact hs h)]
   generalize e1:r.given=g at q2 q3
   generalize e2:r.best=b at q2
   generalize e3:r.nl=nl at q2
   cases q2 with
   |none=>rw[As rfl];exact .none rfl rfl q3 (by show r.note.1.length<=6000;omega)
   |some vs hv h0=>rw[An (by decide)];exact .best h0 rfl hv q3 (by show r.note.1.length<=6000;omega)
end
end Go.Proofs.YtdnmkinmcdihnaaGreatDoor
namespace Go.Proofs.YtdnmkinmcdihnaaGreatDoor
open Go.Proofs.Tryz
open Go.RowKit
variable[Lo]
theorem zm8{x:zA}(h1:xE x.var)(h2:xE x.op)(h3:xE x.n):(zem x).size<=66:=by
 have a:=eL h1;have b:=eL h2;have c:=eL h3;simp only[zem,Of];show _+1+_+1+_+1<=66
 omega
end Go.Proofs.YtdnmkinmcdihnaaGreatDoor
namespace Go.Proofs.YtdnmkinmcdihnaaGreatDoor
open Go.Proofs.Tryz
open Go.RowKit
variable[Lo]
def nH(m:zE)(s:AcQ):AcQ:=(jD s).filter (aG m)
def inB:AcP->AcQ->Bool
 |[],[]=>true
 |x::xs,r::rs=>mE r x&&inB xs rs
 |_,_=>false
theorem zlx:∀ {vs:AcP} {s:AcQ},inB vs s=true↔VH vs s
 |[],[]=>⟨λ_=>⟨rfl,λv hv=>At hv (Aba v)⟩,λ_=>rfl⟩
 |[],r::rs=>⟨λh=>(by cases h),λh=>(by cases h.1)⟩
 |x::xs,[]=>⟨λh=>(by cases h),λh=>(by cases h.1)⟩
 |x::xs,r::rs=>by
  rw[inB,If,pE,zlx];constructor
  ·rintro⟨h1,h2,h3⟩
   refine⟨by simp[h2],λv hv=> ?_⟩
   match v with
   |0=>exact h1
   |v+1=>exact h3 v (by simpa using hv)
  ·rintro⟨h1,h2⟩
   exact⟨h2 0 (by simp),by simpa using h1,λv hv=>h2 (v+1) (by simpa using hv)⟩
theorem LD:∀ {a b:AcP},a.Sublist b->b.Nodup->a=b.filter (mE a)
 |_,_,.slnil,_=>rfl
 |a,y::b,.cons _ h,hn=>by
  have hn':=AaM.1 hn
  have hy:mE a y=false:=by
   cases e:mE a y
   ·rfl
   ·exact At (h.subset (pE.1 e)) hn'.1
  rw[Abc,hy];exact LD h hn'.2
 |x::a,_::b,.cons_cons _ h,hn=>by
  have hn':=AaM.1 hn;have hx:mE (x::a) x=true:=pE.2 (Aaa ..);rw[Abc,hx,As rfl]
  congr 1
  refine(LD h hn'.2).trans (Acg λy hy=> ?_)
  have hne:y≠x:=λe=>hn'.1 (e▸hy)
  have:mE (x::a) y=true↔mE a y=true:=by
   rw[pE,pE];exact⟨λh=>(Aad.1 h).resolve_left hne,λh=>Aac _ h⟩
  cases e:mE a y
  ·cases e2:mE (x::a) y
   ·rfl
   ·rw[this.1 e2]at e;cases e
  ·exact(this.2 e).symm
theorem GS{α β:Type}(p:α->Bool)(f:α->List β):∀l:List α,(l.filter p).flatMap f=l.flatMap λx=>if p x=true then f x else[]
 |[]=>rfl
 |x::l=>by
  rw[Abc,AaZ,<-GS p f l];cases p x
  ·rfl
  ·rw[As rfl,As rfl,AaZ]
theorem GT{α β:Type}(q:β->Bool)(f:α->List β)(l:List α):(l.flatMap f).filter q=l.flatMap λx=>(f x).filter q:=by
 induction l with
 |nil=>rfl
 |cons x l ih=>rw[AaZ,List.filter_append,ih,AaZ]
theorem LE{α β:Type}{f g:α->List β}:∀ {l:List α},(∀x∈l,f x=g x)->l.flatMap f=l.flatMap g
 |[],_=>rfl
 |x::l,h=>by rw[AaZ,AaZ,h x (Aaa ..),LE λy hy=>h y (Aac _ hy)]
theorem zb6:∀ {t s:AcQ},t.length=s.length->(∀v:Nat,(t.getD v []).Sublist (s.getD v []))->(∀v:Nat,(s.getD v []).Nodup)->jD t=(jD s).filter λvs=>inB vs t
 |[],[],_,_,_=>rfl
 |r::t,q::s,hl,hs,hn=>by
  have ih:=zb6 (t:=t) (s:=s) (by simpa using hl) (λv=>hs (v+1)) λv=>hn (v+1)
  have hr:r=q.filter (mE r):=LD (hs 0) (hn 0);have e:jD (r::t)=(q.filter (mE r)).flatMap λn=>(jD t).map (n::·):=by rw[<-hr];rfl
  rw[e,GS,jD,GT]
  congr 1
  funext n
  rw[List.filter_map,ih];show _=List.map (λx=>n::x) ((jD s).filter λvs=>mE r n&&inB vs t)
  cases mE r n
  ·simp
  ·simp
 |[],_::_,h,_,_=>by cases h
 |_::_,[],h,_,_=>by cases h
theorem zpJ{m:zE}{t s:AcQ}(h:fJ t s)(hn:∀v:Nat,(s.getD v []).Nodup)(hk:∀vs,VH vs s->aG m vs=true->VH vs t):nH m t=nH m s:=by
 rw[nH,nH,zb6 h.1 h.2 hn,List.filter_filter];refine Acg λvs hv=> ?_
 have hv:=YL.1 hv;cases e:aG m vs
 ·rw[Abe]
 ·rw[Abf,zlx.2 (hk vs hv e)]
theorem Ab{m:zE}{s:AcQ}(h:fJ s (xY m))(v:Nat):(s.getD v []).Nodup:=(h.2 v).nodup (BU v)
theorem zpK{m:zE}(hl:yL m []){s:AcQ}(h:fJ s (xY m)):nH m (tH m true [] s)=nH m s:=
 zpJ (Ra hl (h.1.trans wC)) (Ab h) λvs hv hw=>zmr (cons:=true) hl (h.1.trans wC) hv (λ_=>zhT hw) λc hc=>by cases hc
theorem zjR{s:AcQ}(h:zZ s=true):jD s=[]:=AcJ.2 λvs hv=>by
 have:=(YL.1 hv).fail;rw[h]at this;cases this
theorem zb7:∀ {s:AcQ},(∀v:Nat,v<s.length->(s.getD v []).length=1)->jD s=[mB s]
 |[],_=>rfl
 |r::s,h=>by
  have h0:r.length=1:=h 0 (by simp)
  have ih:=zb7 (s:=s) λv hv=>h (v+1) (by simpa using hv)
  match r,h0 with
  |[x],_=>rw[jD,ih];rfl
theorem zjS{r:AcP}{s:AcQ}{n:Int}:rK (r::s) 0 n=(r.filter λk=>decide (k=n))::s:=by
 rw[rK,rI,List.mapIdx_cons]
 congr 1
 ·refine AbV (by simp) λi h1 h2=> ?_
  rw[AbM]
  exact Acf.2 λk _=>by
   rw[Aao (show¬((i+1:Nat):Int)=0 by omega)];rfl
theorem zjT{r:AcP}{s:AcQ}{v:Nat}{n:Int}:rK (r::s) ((v+1:Nat):Int) n=r::rK s (v:Int) n:=by
 rw[rK,rK,rI,rI,List.mapIdx_cons]
 congr 1
 ·exact Acf.2 λk _=>by
   rw[Aao (show¬((0:Nat):Int)=((v+1:Nat):Int) by omega)];rfl
 ·refine AbV (by simp) λi h1 h2=> ?_
  rw[AbM,AbM];refine Acg λk _=> ?_
  have:decide (((i+1:Nat):Int)=((v+1:Nat):Int))=decide ((i:Int)=(v:Int)):=by
   by_cases e:i=v
   ·rw[Aaf (by omega),Aaf (by omega)]
   ·rw[Aao (by omega),Aao (by omega)]
  rw[this]
theorem zjU{r:AcP}(h:r.Nodup){n:Int}(hn:n∈r):(r.filter λk=>decide (k=n))=[n]:=by
 have h1:=HL h n;have h2:n∈r.filter λk=>decide (k=n):=Aax.2 ⟨hn,Aaf rfl⟩
 match e:r.filter λk=>decide (k=n),h1,h2 with
 |[x],_,h2=>rw[Aab.1 h2]
 |x::y::l,h1,_=>simp at h1
theorem JW:∀ {s:AcQ} {v:Nat},v<s.length->(s.getD v []).Nodup->(∀w:Nat,w<v->(s.getD w []).length=1)->jD s=(s.getD v []).flatMap λn=>jD (rK s v n)
 |r::s,0,_,hn,_=>by
  show(r.flatMap λn=>(jD s).map (n::·))=r.flatMap λn=>jD (rK (r::s) 0 n)
  refine LE λn hm=> ?_
  have hf:=zjU (r:=r) hn hm;rw[zjS,hf,jD];simp
 |r::s,v+1,hv,hn,h1=>by
  have h0:r.length=1:=h1 0 (by omega)
  have ih:=JW (s:=s) (v:=v) (by simpa using hv) hn λw hw=>h1 (w+1) (by omega)
  match r,h0 with
  |[x],_=>
   show([x].flatMap λn=>(jD s).map (n::·))=(s.getD v []).flatMap λn=>jD (rK ([x]::s) ((v+1:Nat):Int) n)
   rw[ih,AaZ,AcD,Aa2,List.map_flatMap];refine LE λn _=> ?_
   rw[zjT,jD];simp
theorem zgy{m:zE}{s:AcQ}{v:Nat}(hv:v<s.length)(hn:(s.getD v []).Nodup)(h1:∀w:Nat,w<v->(s.getD w []).length=1):nH m s=(s.getD v []).flatMap λn=>nH m (rK s v n):=by
 rw[nH,JW hv hn h1,GT];rfl
theorem zb8{α:Type}{a b:List α}{n:Nat}(h:n<=a.length):(a++b).take n=a.take n:=by
 rw[List.take_append,show n-a.length=0 by omega,AbQ,Aa2]
end Go.Proofs.YtdnmkinmcdihnaaGreatDoor
namespace Go.Proofs.YtdnmkinmcdihnaaGreatDoor
open Go.Proofs.Tryz
open Go.RowKit
set_option maxRecDepth 100000
variable[Lo]
def P8:xF:= {own:=[4],live:=[],n:=43,first:=true}
theorem F4(c:zE)(d:Int)(R:xI):FDN P8 f10 [dM c,dI d] R=
 (yJ fS [dM c,dI d] .int λm=>
 zT (!decide (m=0))
 (R (.tup [.agg [dI 0,.sl (.fr .int) ([]:AcP),.sl (.fr .step) ([]:AcW)],dI m]))
 (∃a:zE,∃i:Int,xT Zw [dM c,dI d] [] (.ptr 3000 0) (zti a.vars a.cons a.goal a.var ([]:AcS) i ([]:List (AcL×Int)))/\
 ∃e:Int,∃f:AcS,∃j:AcW,∃g:List (AcL×Int),∃k:AcP,∃b:Int,xT oH [Ac3] (fK a.vars a.cons a.goal a.var ([]:AcS) i ([]:AcS) ([]:List (zR)) ([]:List (AcL×Int))) (.tup [.sl (.fr .int) k,dI b]) (fK a.vars a.cons a.goal a.var ([]:AcS) e f j g)/\
 zT (decide (b=2))
 (∃h:AcW,∃l:Bool,xT uQ [Ac3] (fK a.vars a.cons a.goal a.var ([]:AcS) e f j g) (.tup [.sl (.fr .step) h,dB l]) (zru a.vars a.cons a.goal a.var ([]:AcS) e h f g)/\
 zT (!l)
 (R (.tup [.agg [dI 3,.sl (.fr .int) ([]:AcP),.sl (.fr .step) ([]:AcW)],dI 0]))
 (R (.tup [.agg [dI b,.sl (.fr .int) ([]:AcP),.sl (.fr .step) h],dI 0])))
 (R (.tup [.agg [dI b,.sl (.fr .int) k,.sl (.fr .step) ([]:AcW)],dI 0])))):=by kernel_rfl
theorem HU(a:zE)(b:Int):TJ P8 f10 qW [dM a,dI b]:=RG func10 (by kernel_rfl) ntmps10 rfl
def Mp:xF:= {own:=[15],live:=[],n:=25,nils:=[(15,(4,(28,.fr (.list .int))))],pubs:=[],first:=true}
theorem Ac(a:zE)(R:xI):FDN Mp f12 [dM a] R=
 (yJ vG [dM a] .int λd=>
 zT (!decide (d=0))
 (R (.tup [.sl (.fr (.list .int)) ([]:AcQ),dB false,dI d]))
 (yJ tS [dM a] (.list (.list .int)) λe=>
 ∃b:Bool,∃c:AcQ,xT oI [Ac3,dS e] (Bs a.vars a.cons a.goal a.var ([]:AcQ)) (dB b) (Bs a.vars a.cons a.goal a.var c)/\
 R (.tup [.sl (.fr (.list .int)) c,dB b,dI 0]))):=by kernel_rfl
theorem F5(a:zE):TJ Mp f12 nX [dM a]:=RG func12 (by kernel_rfl) ntmps12 rfl
def P9:xF:= {own:=[],live:=[],n:=17,first:=true}
theorem F6(b:zE)(a:Int)(R:xI):FDN P9 f30 [dM b,dI a] R=
 (yJ vG [dM b] .int λc=>
 zT (!decide (c=0))
 (R (dI c))
 (zT (decide (a<0))
 (R (dI 3))
 (zT (decide (300<a))
 (R (dI 3))
 (R (dI 0))))):=by kernel_rfl
theorem HW(a:zE)(b:Int):TJ P9 f30 fS [dM a,dI b]:=RG func30 (by kernel_rfl) ntmps30 rfl
def JX:xF:= {own:=[4,7,9],live:=[],n:=10,first:=true}
theorem zaC(a:zE)(b:Int)(R:oG):FHN JX f31 [dM a,dI b] [] [] true R=
 (R (.ptr 3000 0) (zti a.vars a.cons a.goal a.var ([]:AcS) b ([]:List (AcL×Int)))):=by kernel_rfl
theorem Ad(a:zE)(b:Int):SI JX f31 Zw [dM a,dI b] [] [] true:=Pz func31 (by kernel_rfl) ntmps31 rfl
def eO:xF:= {own:=[60],live:=[(0,([0],[1000,1001,2000,2001]))],n:=77,first:=true}
def lA(R:oG)(a:Nat)(b:AcU)(c:AcV)(d e:Int)(f:AcS)(g:Int)(h:List (AcL×Int))(i:AcS)(j:AcW):Prop:=LPN eO f32 [1,0,0] 0 a ⟨[(0,Ac3)],[(1000,.cells [.sl .var b,.sl .con c,dI d,dI e,.sl (.list .lit) f,dI g,.own 2000,.own 2001,.own 1001]),(1001,.mp .str .int h),(2000,.row 61 (.list .lit) i),(2001,.row 71 (.fr .step) j)]⟩ (zP 0 (eHN f32 [Ac3] false R))
theorem bL(R:oG)(n:Nat)(a:AcU)(b:AcV)(c d:Int)(g:AcS)(f:Int)(h:List (AcL×Int))(e:AcS)(i:AcW):lA R (n+1) a b c d g f h e i=
 (zT (decide (f=0))
 (R (.tup [.sl (.fr .int) ([]:List (Int)),dI 3]) (fK a b c d g f e i h))
 (∃o:AcR,∃q:Bool,∃r:AcP,xT nL [Ac3] (fK a b c d g (yU (f-1)) e i h) (.tup [.slN .lit o q,.sl (.fr .int) r]) (fK a b c d g (yU (f-1)) e i h)/\
 zT q
 (R (.tup [.sl (.fr .int) r,dI 1]) (fK a b c d g (yU (f-1)) e i h))
 ((λp:Prop=>((p)/\p))
 (∃s:AcS,xT rN [Ac3] (fK a b c d g (yU (f-1)) e i h) (.sl (.list .lit) s) (fK a b c d g (yU (f-1)) e i h)/\
 c2Q Zy [.agg [.sl .var a,.sl .con b,dI c,dI d],.sl (.list .lit) s,.sl .lit o] (.list .lit) .bool λm v=>
 (λp:Prop=>((p)/\p))
 (∃t:AcS,xT rN [Ac3] (fK a b c d g (yU (f-1)) e i h) (.sl (.list .lit) t) (fK a b c d g (yU (f-1)) e i h)/\
 yJ YS [.agg [.sl .var a,.sl .con b,dI c,dI d],.sl (.list .lit) t,.sl .lit m] (.fr (.list .step)) λu=>
 ∃j:AcW,∃k:List (AcL×Int),xT nM [Ac3,.sl (.fr .step) u] (fK a b c d g (yU (f-1)) e i h) (.tup []) (fK a b c d g (yU (f-1)) e j k)/\
 zT (decide ((m.length:Int)=0))
 (R (.tup [.sl (.fr .int) ([]:List (Int)),dI 2]) (fK a b c d g (yU (f-1)) e j k))
 (yJ qX [.sl .lit m] (.list .lit) λl=>
 yX (.list .lit) (e.length+([l]).length)=true/\zT (decide (600<((e++([l])).length:Int)))
 (R (.tup [.sl (.fr .int) ([]:List (Int)),dI 3]) (fK a b c d g (yU (f-1)) (e++([l])) j k))
 (zT (decide (6000<(j.length:Int)))
 (R (.tup [.sl (.fr .int) ([]:List (Int)),dI 3]) (fK a b c d g (yU (f-1)) (e++([l])) j k))
 (lA R n a b c d g (yU (f-1)) k (e++([l])) j)))))))):=by kernel_rfl
theorem Qj(a:AcU)(b:AcV)(c d:Int)(e:AcS)(f:Int)(g:AcS)(h:AcW)(i:List (AcL×Int))(R:oG):FHN eO f32 [Ac3] (fK a b c d e f g h i) [Ac3] false R=
 (∃n0,lA R n0 a b c d e f i g h):=by kernel_rfl
theorem Rg(a:AcU)(b:AcV)(c d:Int)(e:AcS)(f:Int)(g:AcS)(h:AcW)(i:List (AcL×Int)):SI eO f32 oH [Ac3] (fK a b c d e f g h i) [Ac3] false:=Pz func32 (by kernel_rfl) ntmps32 rfl
def Zh:xF:= {own:=[],live:=[],n:=14,first:=true}
theorem UP(b:AcU)(c:AcV)(d e:Int)(f:AcS)(g:Int)(h:AcS)(a:AcW)(i:List (AcL×Int))(R:oG):FHN Zh f33 [Ac3] (fK b c d e f g h a i) [Ac3] false R=
 (R (.tup [.sl (.fr .step) a,dB (decide ((a.length:Int)<=6000))]) (zru b c d e f g a h i)):=by kernel_rfl
theorem VO(a:AcU)(b:AcV)(c d:Int)(e:AcS)(f:Int)(g:AcS)(h:AcW)(i:List (AcL×Int)):SI Zh f33 uQ [Ac3] (fK a b c d e f g h i) [Ac3] false:=Pz func33 (by kernel_rfl) ntmps33 rfl
def sQ:xF:= {own:=[5,6,10,40,49],live:=[(0,([0,6,29,30,31],[6,1000,2000])),(2,([0,1,5,55,56,57],[1000,2000]))],n:=68,nils:=[],pubs:=[(5,999999)],first:=true}
def lB(b:AcU)(c:AcV)(d e:Int)(R:oG)(a:AcQ)(f:Nat)(g:Int)(h:AcP)(i:AcQ):Prop:=LPN sQ f35 [1,1,1,1,0,1,0,1,1,0,1,0,0] 0 f ⟨[(0,Ac3),(6,.own 6),(29,dS a),(30,dI (a.length:Int)),(31,dI g)],[(6,.row 3 (.fr .int) h),(1000,.cells [.sl .var b,.sl .con c,dI d,dI e,.own 2000]),(2000,.row 28 (.fr (.list .int)) i)]⟩ (zP 0 (sKN sQ f35 [1,1,1,1,0,1,0,1,1,1] 0 (sKN sQ f35 [1,1,1,1,1] 0 (eHN f35 [Ac3] false R))))
def pY(R:oG)(a:AcQ)(b:Int)(c:Nat)(d:Int)(e:AcU)(f:AcV)(g h:Int)(i:AcQ):Prop:=LPN sQ f35 [1,1,1,1,1,0,1,0,0] 2 c ⟨[(0,Ac3),(1,dS a),(5,.iptr [dI b] 0),(55,.sl .int (zJ (.list .int) a b.toNat)),(56,dI ((zJ (.list .int) a b.toNat).length:Int)),(57,dI d)],[(1000,.cells [.sl .var e,.sl .con f,dI g,dI h,.own 2000]),(2000,.row 28 (.fr (.list .int)) i)]⟩ (zP 2 (sKN sQ f35 [1,1,1,1,1,1] 0 (eHN f35 [Ac3] false R)))
theorem UQ(e:AcU)(f:AcV)(g h:Int)(R:oG)(a:AcQ)(i:Nat)(b:Int)(c:AcP)(d:AcQ):lB e f g h R a (i+1) b c d=
 (zT (decide (b<(a.length:Int)))
 (wW b a.length=true/\wW 0 (zJ (.list .int) a b.toNat).length=true/\yX (.fr .int) (c.length+([zJ .int (zJ (.list .int) a b.toNat) 0]).length)=true/\lB e f g h R a i (yU (b+1)) (c++([zJ .int (zJ (.list .int) a b.toNat) 0])) d)
 (yX (.fr (.list .int)) (d.length+([c]).length)=true/\R (dB true) (Bs e f g h (d++([c]))))):=by kernel_rfl
theorem UR(R:oG)(a:AcQ)(b:Int)(j:Nat)(g:Int)(c:AcU)(d:AcV)(e f:Int)(h:AcQ):pY R a b (j+1) g c d e f h=
 (zT (decide (g<((zJ (.list .int) a b.toNat).length:Int)))
 (wW g (zJ (.list .int) a b.toNat).length=true/\yJ xP [dS a,.clo nN none [.iptr [dI b] 0,.iptr [dI (zJ .int (zJ (.list .int) a b.toNat) g.toNat)] 0]] (.list (.list .int)) λl=>
 ∃k:Bool,∃i:AcQ,xT oI [Ac3,dS l] (Bs c d e f h) (dB k) (Bs c d e f i)/\
 zT (!k)
 (R (dB false) (Bs c d e f i))
 (pY R a b j (yU (g+1)) c d e f i))
 (R (dB true) (Bs c d e f h))):=by kernel_rfl
theorem Qk(a:AcU)(b:AcV)(c d:Int)(e h:AcQ)(R:oG):FHN sQ f35 [Ac3,dS h] (Bs a b c d e) [Ac3] false R=
 (yJ pZ [.agg [.sl .var a,.sl .con b,dI c,dI d],dS h,dB true,.sl (.list .lit) ([]:AcS)] (.list (.list .int)) λf=>
 yJ zV [dS f] .bool λi=>
 zT i
 (R (dB true) (Bs a b c d e))
 (yJ cU [dS f] .int λg=>
 zT (decide (g<0))
 (zT (decide ((e.length:Int)=200))
 (R (dB false) (Bs a b c d e))
 (∃n0,lB a b c d R f n0 0 ([]:List (Int)) e))
 (wW g f.length=true/\∃n2,pY R f g n2 0 a b c d e))):=by kernel_rfl
theorem Rh(a:AcU)(b:AcV)(c d:Int)(e f:AcQ):SI sQ f35 oI [Ac3,dS f] (Bs a b c d e) [Ac3] false:=Pz func35 (by kernel_rfl) ntmps35 rfl
def vC:xF:= {own:=[7,8,11,15,45,59],live:=[(0,([0,4,5,6],[15,1000,1001,2000,2001])),(2,([0,8,34,35,36],[8,1000,1001,2000,2001]))],n:=71,nn:=[2,15],first:=true}
def oZ(b:List (AcL×Int))(R:oG)(c:Nat)(a:AcQ)(d:AcU)(e:AcV)(f g:Int)(h:AcS)(i:Int)(j:Nat)(k:Int)(l:AcP)(m:AcS)(n:AcW):Prop:=LPN vC f62 [1,1,1,1,0,0,0,1,0,1,0,1,0,1,0,1,0,0] 2 j ⟨[(0,Ac3),(8,.own 8),(34,dS a),(35,dI (a.length:Int)),(36,dI k)],[(8,.row 3 (.fr .int) l),(1000,.cells [.sl .var d,.sl .con e,dI f,dI g,.sl (.list .lit) h,dI i,.own 2000,.own 2001,.own 1001]),(1001,.mp .str .int b),(2000,.row 61 (.list .lit) m),(2001,.row 71 (.fr .step) n)]⟩ (zP 2 (sKN vC f62 [1,1,1,1,0,0,0,1,0,1,0,1,0,1,1] 1 (sKN vC f62 [1,1,1,1,0,0,0,1,0,1,1] 1 (zP 1 (iKN vC f62 [1,1,1,1,0,0,0] 0 c (zP 0 (sKN vC f62 [1,1,1,1,1] 0 (eHN f62 [Ac3] false R))))))))
def o6(a:List (AcL×Int))(R:oG)(b:AcS)(c:Nat)(d:AcQ)(e:AcR)(f:AcU)(g:AcV)(h i:Int)(j:AcS)(k:Int)(l:AcS)(m:AcW):Prop:=LPN vC f62 [1,1,1,1,0,0,0] 0 c ⟨[(0,Ac3),(4,.sl (.list .lit) b),(5,.ownN 15),(6,dS d)],[(15,.row 66 .lit e),(1000,.cells [.sl .var f,.sl .con g,dI h,dI i,.sl (.list .lit) j,dI k,.own 2000,.own 2001,.own 1001]),(1001,.mp .str .int a),(2000,.row 61 (.list .lit) l),(2001,.row 71 (.fr .step) m)]⟩ (zP 0 (sKN vC f62 [1,1,1,1,1] 0 (eHN f62 [Ac3] false R)))
theorem Vy(d:List (AcL×Int))(R:oG)(m:Nat)(a:AcQ)(e:AcU)(f:AcV)(g h:Int)(i:AcS)(j:Int)(n:Nat)(b:Int)(c:AcP)(k:AcS)(l:AcW):oZ d R m a e f g h i j (n+1) b c k l=
 (zT (decide (b<(a.length:Int)))
 (wW b a.length=true/\wW 0 (zJ (.list .int) a b.toNat).length=true/\yX (.fr .int) (c.length+([zJ .int (zJ (.list .int) a b.toNat) 0]).length)=true/\oZ d R m a e f g h i j n (yU (b+1)) (c++([zJ .int (zJ (.list .int) a b.toNat) 0])) k l)
 (R (.tup [.slN .lit ([]:AcR) true,.sl (.fr .int) c]) (fK e f g h i j k l d))):=by kernel_rfl
theorem Vz(h:List (AcL×Int))(R:oG)(m:AcS)(n:Nat)(b:AcQ)(c:AcR)(d:AcU)(e:AcV)(f g:Int)(i:AcS)(j:Int)(k:AcS)(l:AcW):o6 h R m (n+1) b c d e f g i j k l=
 (yJ zV [dS b] .bool λo=>
 zT (!o)
 (yJ cU [dS b] .int λa=>
 zT (decide (a<0))
 (∃n2,oZ h R n b d e f g i j n2 0 ([]:List (Int)) k l)
 ((λp:Prop=>((((wW a b.length=true/\wW 0 (zJ (.list .int) b a.toNat).length=true/\yX .lit (c.length+([(⟨a,3,zJ .int (zJ (.list .int) b a.toNat) 0⟩:zA)]).length)=true/\p)/\wW a b.length=true/\wW 0 (zJ (.list .int) b a.toNat).length=true/\yX .lit (c.length+([(⟨a,3,zJ .int (zJ (.list .int) b a.toNat) 0⟩:zA)]).length)=true/\p))/\(wW a b.length=true/\wW 0 (zJ (.list .int) b a.toNat).length=true/\((yX .lit (c.length+([(⟨a,3,zJ .int (zJ (.list .int) b a.toNat) 0⟩:zA)]).length)=true/\p)/\yX .lit (c.length+([(⟨a,3,zJ .int (zJ (.list .int) b a.toNat) 0⟩:zA)]).length)=true/\p))/\wW a b.length=true/\wW 0 (zJ (.list .int) b a.toNat).length=true/\yX .lit (c.length+([(⟨a,3,zJ .int (zJ (.list .int) b a.toNat) 0⟩:zA)]).length)=true/\p))
 (yJ xP [dS b,.clo ow none [.iptr [dI a] 0,.iptr [dI a,dI 3,dI (zJ .int (zJ (.list .int) b a.toNat) 0)] 0]] (.list (.list .int)) λq=>
 yJ pZ [.agg [.sl .var d,.sl .con e,dI f,dI g],dS q,dB true,.sl (.list .lit) m] (.list (.list .int)) λr=>
 o6 h R m n r (c++([(⟨a,3,zJ .int (zJ (.list .int) b a.toNat) 0⟩:zA)])) d e f g i j k l)))
 (R (.tup [.slN .lit c false,.sl (.fr .int) ([]:List (Int))]) (fK d e f g i j k l h))):=by kernel_rfl
theorem TZ(a:AcU)(b:AcV)(c d:Int)(e:AcS)(f:Int)(g:AcS)(h:AcW)(i:List (AcL×Int))(R:oG):FHN vC f62 [Ac3] (fK a b c d e f g h i) [Ac3] false R=
 (∃j:AcS,xT rN [Ac3] (fK a b c d e f g h i) (.sl (.list .lit) j) (fK a b c d e f g h i)/\
 yJ tS [.agg [.sl .var a,.sl .con b,dI c,dI d]] (.list (.list .int)) λk=>
 yJ pZ [.agg [.sl .var a,.sl .con b,dI c,dI d],dS k,dB true,.sl (.list .lit) j] (.list (.list .int)) λl=>
 ∃n0,o6 i R j n0 l ([]:AcR) a b c d e f g h):=by kernel_rfl
theorem US(a:AcU)(b:AcV)(c d:Int)(e:AcS)(f:Int)(g:AcS)(h:AcW)(i:List (AcL×Int)):SI vC f62 nL [Ac3] (fK a b c d e f g h i) [Ac3] false:=Pz func62 (by kernel_rfl) ntmps62 rfl
def Ym:xF:= {own:=[3,8,13],live:=[],n:=14,first:=true}
theorem Ri(c:AcU)(d:AcV)(e f:Int)(a:AcS)(g:Int)(b:AcS)(h:AcW)(i:List (AcL×Int))(R:oG):FHN Ym f64 [Ac3] (fK c d e f a g b h i) [Ac3] false R=
 ((λp:Prop=>((((((yX (.list .lit) (([]:AcS).length+a.length)=true/\yX (.list .lit) ((([]:AcS)++a).length+b.length)=true/\p)/\yX (.list .lit) (([]:AcS).length+a.length)=true/\yX (.list .lit) ((([]:AcS)++a).length+b.length)=true/\p))/\yX (.list .lit) (([]:AcS).length+a.length)=true/\yX (.list .lit) ((([]:AcS)++a).length+b.length)=true/\p))/\(((((yX (.list .lit) (([]:AcS).length+a.length)=true/\yX (.list .lit) ((([]:AcS)++a).length+b.length)=true/\p)/\yX (.list .lit) (([]:AcS).length+a.length)=true/\yX (.list .lit) ((([]:AcS)++a).length+b.length)=true/\p))/\yX (.list .lit) (([]:AcS).length+a.length)=true/\yX (.list .lit) ((([]:AcS)++a).length+b.length)=true/\p))/\((yX (.list .lit) (([]:AcS).length+a.length)=true/\yX (.list .lit) ((([]:AcS)++a).length+b.length)=true/\p)/\yX (.list .lit) (([]:AcS).length+a.length)=true/\yX (.list .lit) ((([]:AcS)++a).length+b.length)=true/\p)))
 (R (.sl (.list .lit) ((([]:AcS)++a)++b)) (fK c d e f a g b h i))):=by kernel_rfl
theorem T0(a:AcU)(b:AcV)(c d:Int)(e:AcS)(f:Int)(g:AcS)(h:AcW)(i:List (AcL×Int)):SI Ym f64 rN [Ac3] (fK a b c d e f g h i) [Ac3] false:=Pz func64 (by kernel_rfl) ntmps64 rfl
def iR:xF:= {own:=[5,35],live:=[(0,([0,7,8,9],[1000,1001,2000,2001]))],n:=39,first:=true}
def sG(a:AcW)(R:oG)(b:Nat)(c:Int)(d:AcU)(e:AcV)(f g:Int)(h:AcS)(i:Int)(j:List (AcL×Int))(k:AcS)(l:AcW):Prop:=LPN iR f65 [1,0,0] 0 b ⟨[(0,Ac3),(7,.sl (.fr .step) a),(8,dI (a.length:Int)),(9,dI c)],[(1000,.cells [.sl .var d,.sl .con e,dI f,dI g,.sl (.list .lit) h,dI i,.own 2000,.own 2001,.own 1001]),(1001,.mp .str .int j),(2000,.row 61 (.list .lit) k),(2001,.row 71 (.fr .step) l)]⟩ (zP 0 (eHN f65 [Ac3] false R))
theorem VA(a:AcW)(R:oG)(l:Nat)(b:Int)(e:AcU)(f:AcV)(g h:Int)(i:AcS)(j:Int)(c:List (AcL×Int))(k:AcS)(d:AcW):sG a R (l+1) b e f g h i j c k d=
 (zT (decide (b<(a.length:Int)))
 (wW b a.length=true/\yJ Wd [.sl (.fr .lit) ((zJ (.fr .step) a b.toNat).clause)] .str λm=>
 zT (decide ((kC .str .int m c)=0))
 (LK (c.length+1)=true/\yX (.fr .step) (d.length+([(zJ (.fr .step) a b.toNat)]).length)=true/\sG a R l (yU (b+1)) e f g h i j (rB .str .int m 1 c) k (d++([(zJ (.fr .step) a b.toNat)])))
 (sG a R l (yU (b+1)) e f g h i j c k d))
 (R (.tup []) (fK e f g h i j k d c))):=by kernel_rfl
theorem T1(a:AcU)(b:AcV)(c d:Int)(e:AcS)(f:Int)(g:AcS)(h:AcW)(i:List (AcL×Int))(j:AcW)(R:oG):FHN iR f65 [Ac3,.sl (.fr .step) j] (fK a b c d e f g h i) [Ac3] false R=
 (∃n0,sG j R n0 0 a b c d e f i g h):=by kernel_rfl
theorem UT(a:AcU)(b:AcV)(c d:Int)(e:AcS)(f:Int)(g:AcS)(h:AcW)(i:List (AcL×Int))(j:AcW):SI iR f65 nM [Ac3,.sl (.fr .step) j] (fK a b c d e f g h i) [Ac3] false:=Pz func65 (by kernel_rfl) ntmps65 rfl
def Xl:xF:= {own:=[],live:=[(0,([5,6,7],[]))],n:=17,first:=true}
def VB(a:AcQ)(R:xI)(b:Nat)(c:Int):Prop:=LPN Xl f70 [1,0,1,0,0] 0 b ⟨[(5,dS a),(6,dI (a.length:Int)),(7,dI c)],[]⟩ (zP 0 (sKN Xl f70 [1,1] 0 (eKN f70 R)))
theorem Uv(b:AcQ)(R:xI)(c:Nat)(a:Int):VB b R (c+1) a=
 (zT (decide (a<(b.length:Int)))
 (wW a b.length=true/\zT (decide (1<((zJ (.list .int) b a.toNat).length:Int)))
 (R (dI a))
 (VB b R c (yU (a+1))))
 (R (dI (-1)))):=by kernel_rfl
theorem Ae(a:AcQ)(R:xI):FDN Xl f70 [dS a] R=
 (∃n0,VB a R n0 0):=by kernel_rfl
theorem F7(a:AcQ):TJ Xl f70 cU [dS a]:=RG func70 (by kernel_rfl) ntmps70 rfl
def Ye:xF:= {own:=[],live:=[],n:=15,first:=true}
theorem T2(a b c d:Int)(R:xI):FDN Ye f72 [dI a,dI b,.iptr [dI c] 0,.iptr [dI d] 0] R=
 (zT (!decide (a=c))
 (R (dB true))
 (R (dB (decide (b=d))))):=by kernel_rfl
theorem UU(a b c d:Int):TJ Ye f72 nN [dI a,dI b,.iptr [dI c] 0,.iptr [dI d] 0]:=RG func72 (by kernel_rfl) ntmps72 rfl
def bM:xF:= {own:=[],live:=[],n:=16,first:=true}
theorem VP(b c d:Int)(a:zA)(R:xI):FDN bM Tryz.f110 [dI b,dI c,.iptr [dI d] 0,.iptr [dI a.var,dI a.op,dI a.n] 0] R=
 (zT (!decide (b=d))
 (R (dB true))
 (R (dB (decide (c=a.n))))):=by kernel_rfl
theorem VC(b c d:Int)(a:zA):TJ bM Tryz.f110 ow [dI b,dI c,.iptr [dI d] 0,.iptr [dI a.var,dI a.op,dI a.n] 0]:=RG func110 (by kernel_rfl) ntmps110 rfl
def WB:xF:= {own:=[5],live:=[(0,([3,6,7,8],[]))],n:=30,first:=true}
def Xm(a:AcR)(R:xI)(b:Nat)(c:AcL)(d:Int):Prop:=LPN WB f114 [1,1,0,1,0,0] 0 b ⟨[(3,.str c),(6,.sl .lit a),(7,dI (a.length:Int)),(8,dI d)],[]⟩ (zP 0 (sKN WB f114 [1,1,1] 0 (eKN f114 R)))
theorem HX(a:AcR)(R:xI)(g:Nat)(e:AcL)(b:Int):Xm a R (g+1) e b=
 (zT (decide (b<(a.length:Int)))
 (wW b a.length=true/\yJ yR [dI ((zJ .lit a b.toNat).var)] .str λc=>
 c.size+(⟨#[58]⟩:AcL).size<=140737488355328/\yJ yR [dI ((zJ .lit a b.toNat).op)] .str λd=>
 (c++(⟨#[58]⟩:AcL)).size+d.size<=140737488355328/\((c++(⟨#[58]⟩:AcL))++d).size+(⟨#[58]⟩:AcL).size<=140737488355328/\yJ yR [dI ((zJ .lit a b.toNat).n)] .str λf=>
 (((c++(⟨#[58]⟩:AcL))++d)++(⟨#[58]⟩:AcL)).size+f.size<=140737488355328/\((((c++(⟨#[58]⟩:AcL))++d)++(⟨#[58]⟩:AcL))++f).size+(⟨#[32]⟩:AcL).size<=140737488355328/\e.size+(((((c++(⟨#[58]⟩:AcL))++d)++(⟨#[58]⟩:AcL))++f)++(⟨#[32]⟩:AcL)).size<=140737488355328/\Xm a R g (e++(((((c++(⟨#[58]⟩:AcL))++d)++(⟨#[58]⟩:AcL))++f)++(⟨#[32]⟩:AcL))) (yU (b+1)))
 (R (.str e))):=by kernel_rfl
theorem zaD(a:AcR)(R:xI):FDN WB f114 [.sl .lit a] R=
 (∃n0,Xm a R n0 (⟨#[]⟩:AcL) 0):=by kernel_rfl
theorem Af(a:AcR):TJ WB f114 Wd [.sl .lit a]:=RG func114 (by kernel_rfl) ntmps114 rfl
end Go.Proofs.YtdnmkinmcdihnaaGreatDoor
namespace Go.Proofs.YtdnmkinmcdihnaaGreatDoor
open Go.Proofs.Tryz
open Go.RowKit
set_option maxRecDepth 100000
variable[Lo]
def GU:xF:= {own:=[4,22],live:=[],n:=68,first:=true}
theorem zep(g:zE)(k:Int)(R:xI):FDN GU f11 [dM g,dI k] R=
 (yJ fS [dM g,dI k] .int λq=>
 zT (!decide (q=0))
 (R (.tup [.agg [dI 0,.sl (.fr .int) ([]:AcP),.sl (.fr .step) ([]:AcW)],dI q]))
 (∃a:zE,∃n:Int,xT Zw [dM g,dI k] [] (.ptr 3000 0) (zti a.vars a.cons a.goal a.var ([]:AcS) n ([]:List (AcL×Int)))/\
 ∃b:Int,∃h:AcP,∃l:Bool,∃c:AcS,∃d:Int,∃e:AcS,∃m:AcW,∃f:List (AcL×Int),xT fl [Ac3] [(1000,.cells [.ptr 1001 0,.slN (.fr .int) ([]:AcP) true]),(1001,.cells (Oy a [.sl (.list .lit) ([]:AcS),dI n,.own 2000,.own 2001,.own 1002])),(2000,.row 61 (.list .lit) ([]:AcS)),(2001,.row 71 (.fr .step) ([]:List (zR))),(1002,.mp .str .int ([]:List (AcL×Int)))] (dI b) [(1000,.cells [.ptr 1001 0,.slN (.fr .int) h l]),(1001,.cells (Oy a [.sl (.list .lit) c,dI d,.own 2000,.own 2001,.own 1002])),(2000,.row 61 (.list .lit) e),(2001,.row 71 (.fr .step) m),(1002,.mp .str .int f)]/\
 zT (decide (g.goal=0))
 (zT (decide (b=1))
 (R (.tup [.agg [dI b,.sl (.fr .int) h,.sl (.fr .step) ([]:AcW)],dI 0]))
 (∃i:AcW,∃o:Bool,xT uQ [Ac3] (fK a.vars a.cons a.goal a.var c d e m f) (.tup [.sl (.fr .step) i,dB o]) (zru a.vars a.cons a.goal a.var c d i e f)/\
 zT (decide (b=3))
 (R (.tup [.agg [dI 3,.sl (.fr .int) ([]:AcP),.sl (.fr .step) ([]:AcW)],dI 0]))
 (zT (!o)
 (R (.tup [.agg [dI 3,.sl (.fr .int) ([]:AcP),.sl (.fr .step) ([]:AcW)],dI 0]))
 (zT l
 (R (.tup [.agg [dI 2,.sl (.fr .int) ([]:AcP),.sl (.fr .step) i],dI 0]))
 (R (.tup [.agg [dI 1,.sl (.fr .int) h,.sl (.fr .step) i],dI 0]))))))
 (∃j:AcW,∃p:Bool,xT uQ [Ac3] (fK a.vars a.cons a.goal a.var c d e m f) (.tup [.sl (.fr .step) j,dB p]) (zru a.vars a.cons a.goal a.var c d j e f)/\
 zT (decide (b=3))
 (R (.tup [.agg [dI 3,.sl (.fr .int) ([]:AcP),.sl (.fr .step) ([]:AcW)],dI 0]))
 (zT (!p)
 (R (.tup [.agg [dI 3,.sl (.fr .int) ([]:AcP),.sl (.fr .step) ([]:AcW)],dI 0]))
 (zT l
 (R (.tup [.agg [dI 2,.sl (.fr .int) ([]:AcP),.sl (.fr .step) j],dI 0]))
 (R (.tup [.agg [dI 1,.sl (.fr .int) h,.sl (.fr .step) j],dI 0]))))))):=by kernel_rfl
theorem zaE(a:zE)(b:Int):TJ GU f11 fR [dM a,dI b]:=RG func11 (by kernel_rfl) ntmps11 rfl
def Mq:xF:= {own:=[],live:=[],n:=54,first:=true}
theorem Ag(a:zE)(b:AcP)(R:xI):FDN Mq f26 [dM a,.sl .int b] R=
 (yJ vG [dM a] .int λc=>
 zT (!decide (c=0))
 (R (.tup [.sl .lit ([]:AcR),dI c]))
 (zT (!decide ((b.length:Int)=(a.vars.length:Int)))
 (R (.tup [.sl .lit ([]:AcR),dI 1]))
 (zT (!decide (a.goal=0))
 (wW a.var b.length=true/\wW a.var a.vars.length=true/\zT (decide ((zJ .int b a.var.toNat)<((zJ .var a.vars a.var.toNat).lo)))
 (R (.tup [.sl .lit ([]:AcR),dI 3]))
 (wW a.var b.length=true/\wW a.var a.vars.length=true/\zT (decide (((zJ .var a.vars a.var.toNat).hi)<(zJ .int b a.var.toNat)))
 (R (.tup [.sl .lit ([]:AcR),dI 3]))
 (yJ aP [dM a,.sl .int b] (.list .lit) λd=>
 R (.tup [.sl .lit d,dI 0]))))
 (yJ aP [dM a,.sl .int b] (.list .lit) λe=>
 R (.tup [.sl .lit e,dI 0]))))):=by kernel_rfl
theorem F8(a:zE)(b:AcP):TJ Mq f26 cT [dM a,.sl .int b]:=RG func26 (by kernel_rfl) ntmps26 rfl
def Yf:xF:= {own:=[],live:=[(0,([0],[1000,1001,1002,2000,2001]))],n:=51,first:=true}
def iT(R:oG)(a:Nat)(b:AcP)(c:Bool)(d:AcU)(e:AcV)(f g:Int)(h:AcS)(i:Int)(j:List (AcL×Int))(k:AcS)(l:AcW):Prop:=LPN Yf f34 [1,0,0] 0 a ⟨[(0,Ac3)],[(1000,.cells [.ptr 1001 0,.slN (.fr .int) b c]),(1001,.cells [.sl .var d,.sl .con e,dI f,dI g,.sl (.list .lit) h,dI i,.own 2000,.own 2001,.own 1002]),(1002,.mp .str .int j),(2000,.row 61 (.list .lit) k),(2001,.row 71 (.fr .step) l)]⟩ (zP 0 (eHN f34 [Ac3] false R))
theorem Ql(R:oG)(n:Nat)(l:AcP)(m:Bool)(b:AcU)(c:AcV)(a d:Int)(e:AcS)(o:Int)(p:List (AcL×Int))(q:AcS)(r:AcW):iT R (n+1) l m b c a d e o p q r=
 (∃g:Int,∃h:AcS,∃i:AcW,∃j:List (AcL×Int),∃k:AcP,∃f:Int,xT oH [Ac3] (fK b c a d e o q r p) (.tup [.sl (.fr .int) k,dI f]) (fK b c a d e g h i j)/\
 zT (decide (f=3))
 (R (dI f) [(1000,.cells [.ptr 1001 0,.slN (.fr .int) l m]),(1001,.cells [.sl .var b,.sl .con c,dI a,dI d,.sl (.list .lit) e,dI g,.own 2000,.own 2001,.own 1002]),(2000,.row 61 (.list .lit) h),(2001,.row 71 (.fr .step) i),(1002,.mp .str .int j)])
 (zT (decide (f=2))
 (R (dI f) [(1000,.cells [.ptr 1001 0,.slN (.fr .int) l m]),(1001,.cells [.sl .var b,.sl .con c,dI a,dI d,.sl (.list .lit) e,dI g,.own 2000,.own 2001,.own 1002]),(2000,.row 61 (.list .lit) h),(2001,.row 71 (.fr .step) i),(1002,.mp .str .int j)])
 (k≠[]/\zT (decide (a=0))
 (R (dI f) [(1000,.cells [.ptr 1001 0,.slN (.fr .int) k false]),(1001,.cells [.sl .var b,.sl .con c,dI a,dI d,.sl (.list .lit) e,dI g,.own 2000,.own 2001,.own 1002]),(2000,.row 61 (.list .lit) h),(2001,.row 71 (.fr .step) i),(1002,.mp .str .int j)])
 (yJ aP [.agg [.sl .var b,.sl .con c,dI a,dI d],.sl (.fr .int) k] (.list .lit) λs=>
 iT R n k false b c a d ([s]) g j h i)))):=by kernel_rfl
theorem LF(a:AcU)(b:AcV)(c d:Int)(e:AcS)(f:Int)(g:AcS)(h:AcW)(i:List (AcL×Int))(j:AcP)(k:Bool)(R:oG):FHN Yf f34 [Ac3] [(1000,.cells [.ptr 1001 0,.slN (.fr .int) j k]),(1001,.cells [.sl .var a,.sl .con b,dI c,dI d,.sl (.list .lit) e,dI f,.own 2000,.own 2001,.own 1002]),(2000,.row 61 (.list .lit) g),(2001,.row 71 (.fr .step) h),(1002,.mp .str .int i)] [Ac3] false R=
 (∃n0,iT R n0 j k a b c d e f i g h):=by kernel_rfl
theorem NY(a:AcU)(b:AcV)(c d:Int)(e:AcS)(f:Int)(g:AcS)(h:AcW)(i:List (AcL×Int))(j:AcP)(k:Bool):SI Yf f34 fl [Ac3] [(1000,.cells [.ptr 1001 0,.slN (.fr .int) j k]),(1001,.cells [.sl .var a,.sl .con b,dI c,dI d,.sl (.list .lit) e,dI f,.own 2000,.own 2001,.own 1002]),(2000,.row 61 (.list .lit) g),(2001,.row 71 (.fr .step) h),(1002,.mp .str .int i)] [Ac3] false:=Pz func34 (by kernel_rfl) ntmps34 rfl
def GV:xF:= {own:=[],live:=[],n:=31,first:=true}
theorem zeq(a:zE)(b:AcP)(R:xI):FDN GV f57 [dM a,.sl .int b] R=
 (zT (decide (a.goal=1))
 (wW a.var b.length=true/\R (.sl .lit ([(⟨a.var,1,yU ((zJ .int b a.var.toNat)-1)⟩:zA)])))
 (zT (decide (a.goal=2))
 (wW a.var b.length=true/\R (.sl .lit ([(⟨a.var,2,yU ((zJ .int b a.var.toNat)+1)⟩:zA)])))
 (R (.sl .lit ([]:AcR))))):=by kernel_rfl
theorem zaF(a:zE)(b:AcP):TJ GV f57 aP [dM a,.sl .int b]:=RG func57 (by kernel_rfl) ntmps57 rfl
end Go.Proofs.YtdnmkinmcdihnaaGreatDoor
namespace Go.Proofs.YtdnmkinmcdihnaaGreatDoor
open Go.Proofs.Tryz
open Go.RowKit
variable[Lo]
abbrev hpS(m:zE)(g l:AcS)(fuel:Int)(p:qS):List (Nat×yE):=[(1000,.cells [.sl .var m.vars,.sl .con m.cons,dI m.goal,dI m.var,.sl (.list .lit) g,dI fuel,.own 2000,.own 2001,.own 1001]),(2000,.row 61 (.list .lit) l),(2001,.row 71 (.fr .step) p.1),(1001,.mp .str .int p.2)]
def zpL(x:zA):Prop:=xE x.var/\xE x.op/\xE x.n
theorem zr5{nv:Nat}{x:zA}(hn:nv<=6)(h:eS nv x=0):zpL x:=by
 obtain⟨h1,h2,h3⟩:=kV.1 h;exact⟨by unfold xE;omega,by unfold xE;omega,by unfold xE;omega⟩
theorem zm9(c:AcR)(x:zA):UO (c++[x])=UO c++zem x:=by rw[UO,Abg];rfl
theorem zna:∀ {c:AcR},(∀x∈c,zpL x)->(UO c).size<=c.length*66:=fun {c}=>by
 suffices H:∀(c:AcR) (o:AcL),(∀x∈c,zpL x)->(c.foldl (λo x=>o++zem x) o).size<=o.size+c.length*66 from λh=>by
  have:=H c ⟨#[]⟩ h;rw[UO];have e:(⟨#[]⟩:AcL).size=0:=rfl;omega
 intro c
 induction c with
 |nil=>exact λo _=>by simp
 |cons x c ih=>
  intro o h;have h1:=ih (o++zem x) λy hy=>h y (Aac _ hy)
  obtain⟨a,b,d⟩:=h x (Aaa ..);have h2:=zm8 a b d;rw[Of]at h1
  rw[AbR,By];omega
theorem zaG{c:AcR}(hl:c.length<=1000000)(hr:∀x∈c,zpL x):vL Wd [.sl .lit c] (.str (UO c)):=
 Af c λok=>by
  rw[zaD];refine up (I:=λn v a=>Xm c _ n a v) 0 c.length rfl (Is _) (by omega) (λk a=>a=UO (c.take k)) rfl λn k a _ hk ha hn=> ?_
  subst ha;rw[HX]
  by_cases h:k<c.length
  ·rw[yD h,yA (t:=.lit) h]
   obtain⟨h1,h2,h3⟩:=hr _ (AT h);have s1:=eL h1;have s2:=eL h2;have s3:=eL h3;have s0:=zna (c:=c.take k) λx hx=>hr x (Abp hx)
   rw[Aak]at s0
   have z58:(⟨#[58]⟩:AcL).size=1:=rfl;have z32:(⟨#[32]⟩:AcL).size=1:=rfl;refine⟨zI h,zG (t:=.str) (Xi h1) ⟨by omega,zG (t:=.str) (Xi h2) ⟨?_,?_,zG (t:=.str) (Xi h3) ⟨?_,?_,?_,?_⟩⟩⟩⟩
   ·rw[Of];omega
   ·simp only[Of];omega
   ·simp only[Of];omega
   ·simp only[Of];omega
   ·simp only[Of];omega
   ·refine hn h _ ?_
    rw[<-Aay h,zm9];rfl
  ·have hk':k=c.length:=by omega
   subst hk';rw[zY,Aam]
theorem Oa(s:AcQ):vL cU [dS s] (dI (Vv s)):=
 F7 s λok=>by
  rw[Ae];refine AE (t:=.list .int) (p:=λr:AcP=>decide (1<r.length)) (R:=λd=>d=dI (Vv s)) (dW (t:=.list .int) (Qm ok)) rfl (λn k h h1 h2=> ?_) λn hR=> ?_
  ·rw[Uv,yD h,yA (t:=.list .int) h]
   refine⟨zI h,zC (λe=>h1 ?_) λe=>h2 ?_⟩
   ·have e:(1:Int)<(s[k].length:Int):=BY e
    exact Aaf (by omega)
   ·have e:¬(1:Int)<(s[k].length:Int):=Aah e
    exact Aao (by omega)
  ·rw[Uv,zY];exact hR
theorem UV{m:zE}{g l:AcS}{fuel:Int}{p:qS}(hg:g.length<=1000000)(hl:l.length<=1000000):xT rN [Ac3] (hpS m g l fuel p) (.sl (.list .lit) (g++l)) (hpS m g l fuel p):=
 T0 m.vars m.cons m.goal m.var g fuel l p.1 p.2 λok ok2=>by
  rw[Ri];simp only[zc2,zc3,Abt,-eq_self];refine⟨xC (t:=.list .lit) ?_,xC (t:=.list .lit) ?_,rfl,rfl⟩
  ·show(0+g.length)*24<=_;omega
  ·rw[Aa7];show(g.length+l.length)*24<=_;omega
theorem RL{m:zE}{g l:AcS}{fuel:Int}{p:qS}:xT uQ [Ac3] (hpS m g l fuel p) (.tup [.sl (.fr .step) p.1,dB (decide ((p.1.length:Int)<=6000))]) [(1000,.cells [.sl .var m.vars,.sl .con m.cons,dI m.goal,dI m.var,.sl (.list .lit) g,dI fuel,.own 2000,.sl (.fr .step) p.1,.own 1001]),(2000,.row 61 (.list .lit) l),(1001,.mp .str .int p.2)]:=
 VO m.vars m.cons m.goal m.var g fuel l p.1 p.2 λok ok2=>by
  rw[UP];exact⟨rfl,rfl⟩
theorem Mr(m:zE)(fuel:Int):xT Zw [dM m,dI fuel] [] (.ptr 3000 0) [(3000,.cells [.sl .var m.vars,.sl .con m.cons,dI m.goal,dI m.var,.sl (.list .lit) [],dI fuel,.nil,.nil,.own 3001]),(3001,.mp .str .int [])]:=
 Ad m fuel λok ok2=>by
  rw[zaC];exact⟨rfl,rfl⟩
theorem zb9{p:qS}{st:zR}:(note1 p st).1.length<=p.1.length+1/\(note1 p st).2.length<=p.2.length+1:=by
 unfold note1;split
 ·refine⟨by simp,?_⟩
  show(rB .str .int (UO st.clause) 1 p.2).length<=_
  generalize p.2=es
  induction es with
  |nil=>exact IN _
  |cons e es ih=>
   obtain⟨a,b⟩:=e;show(bif MA .str (UO st.clause) a then(a,(1:Int))::es else(a,b)::rB .str .int (UO st.clause) 1 es).length<=_
   cases MA .str (UO st.clause) a
   ·rw[Aag,By,By];omega
   ·rw[AI,By,By];omega
 ·omega
theorem HY:∀(t:AcW) (p:qS),(pX t p).1.length<=p.1.length+t.length/\(pX t p).2.length<=p.2.length+t.length
 |[],p=>⟨IN _,IN _⟩
 |st::t,p=>by
  have h1:=zb9 (p:=p) (st:=st);have h2:=HY t (note1 p st);show(pX t (note1 p st)).1.length<=_/\(pX t (note1 p st)).2.length<=_
  rw[By];omega
theorem Ah{m:zE}{g l:AcS}{fuel:Int}{p:qS}{t:AcW}(h1:p.1.length<=1000000)(h2:p.2.length<=1000000)(ht:t.length<=1000000)(hc:∀st∈t,st.clause.length<=1000000/\∀x∈st.clause,zpL x):
  xT nM [Ac3,.sl (.fr .step) t] (hpS m g l fuel p) (.tup []) (hpS m g l fuel (pX t p)):=
 UT m.vars m.cons m.goal m.var g fuel l p.1 p.2 t λok ok2=>by
  rw[T1];refine up (I:=λn v (a:qS)=>sG t _ n v m.vars m.cons m.goal m.var g fuel a.2 l a.1) (a:=p) 0 t.length rfl (Is _) (by omega) (λk a=>a=pX (t.take k) p) rfl λn k a _ hk ha hn=> ?_
  subst ha;show sG t _ _ _ _ _ _ _ _ _ (pX (t.take k) p).2 _ (pX (t.take k) p).1
  rw[VA]
  by_cases h:k<t.length
  ·rw[yD h,yA (t:=.fr .step) h]
   obtain⟨c1,c2⟩:=hc _ (AT h)
   have hs:pX (t.take (k+1)) p=note1 (pX (t.take k) p) t[k]:=by
    rw[<-Aay h];exact Abg ..
   obtain⟨n1,n2⟩:=HY (t.take k) p;rw[Aak]at n1 n2
   refine⟨zI h,zG (t:=.str) (oT.unA (zaG c1 c2)) (zC (λe=> ?_) λe=> ?_)⟩
   ·have e:NX t[k].clause (pX (t.take k) p).2=0:=BY e
    refine⟨Aaf (by omega),xC (t:=.fr .step) (by show((pX (t.take k) p).1.length+1)*40<=_;omega),hn h (_,_) ?_⟩
    rw[hs,note1,As e]
   ·have e:¬NX t[k].clause (pX (t.take k) p).2=0:=Aah e
    refine hn h _ ?_;rw[hs,note1,An e]
  ·have hk':k=t.length:=by omega
   subst hk';rw[zY,Aam];exact⟨rfl,rfl⟩
end Go.Proofs.YtdnmkinmcdihnaaGreatDoor
namespace Go.Proofs.YtdnmkinmcdihnaaGreatDoor
open Go.Proofs.Tryz
open Go.RowKit
variable[Lo]
theorem zca{s:AcQ}{k:Nat}(h:k<s.length):mB (s.take (k+1))=mB (s.take k)++[s[k].getD 0 0]:=by
 rw[mB,<-Aay h,AaV];rfl
theorem zpM(s:AcQ)(v n:Int)(x:zA)(hx:x.n=n):vL xP [dS s,.clo ow none [.iptr [dI v] 0,.iptr (cells .lit x) 0]] (dS (rK s v n)):=
 gM (f:=λw k=> !decide ((w:Int)=v)||decide (k=n)) WZ λw hw k hk=>VC w k v x λok=>by
  rw[VP];refine zC (λe=> ?_) λe=> ?_
  ·rw[e];rfl
  ·rw[e,AbB,hx]
theorem Ai{m:zE}{g l:AcS}{fuel:Int}{p:qS}(hmc:yL m (g++l))(hg:g.length<=1000000)(hl:l.length<=1000000):
  xT nL [Ac3] (hpS m g l fuel p) (.tup [.slN .lit (mC m (g++l)).1 (mC m (g++l)).2.1,.sl (.fr .int) (mC m (g++l)).2.2]) (hpS m g l fuel p):=
 US m.vars m.cons m.goal m.var g fuel l p.1 p.2 λok ok2=>by
  rw[TZ];have hr:=hmc.right;have hv:=hr.vars;refine⟨_,UV hg hl,zG (KT hr) (zG (Va hmc (ZZ hr Zb) (by rw[It];omega)) ?_)⟩
  generalize hL:g++l=L at hmc⊢
  suffices H:∀(k:Nat) (d:AcR),F3 m L d->m.vars.length+1<=k+d.length->∀r,r=TU m L k (vV m L d) d->
    o6 p.2 (λd h1=>d=.tup [.slN .lit r.1 r.2.1,.sl (.fr .int) r.2.2]/\h1=hpS m g l fuel p) L k (vV m L d) d m.vars m.cons m.goal m.var g fuel l p.1 from⟨_,H (m.vars.length+1) [] .nil (by simp) _ rfl⟩
  intro k
  induction k with
  |zero=>exact λd hc hk=>At hc.len (by omega)
  |succ k ih=>
   intro d hc hk r hr';rw[Vz];simp only[zc2,zc3,Abt,-eq_self];rw[TU]at hr'
   have hlen:(vV m L d).length=m.vars.length:=TV hmc;refine zG (xB _) (zC (λe=> ?_) λe=> ?_)
   ·have hf:zZ (vV m L d)=false:=by simpa using e
    rw[An (by rw[hf];decide)]at hr'
    refine zG (Oa _) ?_;rcases HK (vV m L d)with⟨eo,h1⟩|⟨v,eo,hv',h1,h2⟩
    ·rw[As (by omega)]at hr'
     rw[Aaf (show Vv (vV m L d)<0 by omega),hr']
     have hne:=tK.1 hf;refine up (I:=λn v a=>oZ p.2 _ k (vV m L d) m.vars m.cons m.goal m.var g fuel n v a l p.1) (a:=[]) 0 (vV m L d).length rfl (Is _) (by omega) (λk a=>a=mB ((vV m L d).take k)) rfl λn j a _ hj ha hn=> ?_
     subst ha;rw[Vy]
     by_cases h:j<(vV m L d).length
     ·have hrow:0<(vV m L d)[j].length:=Abh.2 (by have:=hne j h;rwa[yO _ h]at this)
      rw[yD h,yA (t:=.list .int) h];refine⟨zI h,zI (k:=0) hrow,xC (t:=.fr .int) ?_,hn h _ ?_⟩
      ·rw[mB,Aae,Aak];show(_+1)*8<=_;omega
      ·rw[zca h];rfl
     ·have hj':j=(vV m L d).length:=by omega
      subst hj';rw[zY,Aam];exact⟨rfl,rfl⟩
    ·rw[An (by omega),eo,Aap,JT hmc hf]at hr'
     rw[eo,Aao (show¬(v:Int)<0 by omega)]
     have hvn:v<m.vars.length:=by omega
     have hc':=hc.step hmc hf hvn eo h1 h2;have e1:zJ (.list .int) (vV m L d) (v:Int).toNat=(vV m L d).getD v []:=by rw[yA hv',yO _ hv']
     have e2:zJ .int ((vV m L d).getD v []) 0=((vV m L d).getD v []).getD 0 0:=rfl;rw[e1,e2];refine⟨zI hv',zI (k:=0) (by omega),xC (t:=.lit) ?_,zG (zpM _ _ _ ⟨v,3,((vV m L d).getD v []).getD 0 0⟩ rfl) (zG (Va hmc ?_ (by rw[<-hL,It];omega)) ?_)⟩
     ·have:=hc.len
      show(d.length+1)*24<=_;omega
     ·exact ZZ hr (TA Zb (ZT.trans (YK hmc)))
     ·rw[JT hmc hf]
      exact ih _ hc' (by rw[It,Aa0];omega) r hr'
   ·have hf:zZ (vV m L d)=true:=by simpa using e
    rw[As hf]at hr'
    rw[hr'];exact⟨rfl,rfl⟩
structure Fit (m:zE)(g l:AcS)(k:Nat)(p:qS):Prop where
 sea:Au m g l p
 fuel:l.length+k<=300
 steps:p.1.length<=6000
 met:p.2.length<=p.1.length
theorem znb{p:qS}{st:zR}(h:p.2.length<=p.1.length):(note1 p st).2.length<=(note1 p st).1.length:=by
 have h1:=(zb9 (p:=p) (st:=st)).2
 by_cases e:NX st.clause p.2=0
 ·have h2:(note1 p st).1.length=p.1.length+1:=by rw[note1,As e];simp
  omega
 ·rw[note1,An e];exact h
theorem HZ:∀(t:AcW) (p:qS),p.2.length<=p.1.length->(pX t p).2.length<=(pX t p).1.length
 |[],p,h=>h
 |st::t,p,h=>HZ t (note1 p st) (znb h)
theorem JY{m:zE}{g l:AcS}{k:Nat}{p:qS}(h:Fit m g l k p):
  xT oH [Ac3] (hpS m g l (k:Int) p) (.tup [.sl (.fr .int) (Yl m k g l p).vals,dI (Yl m k g l p).verdict]) (hpS m g (Yl m k g l p).learned ((Yl m k g l p).fuel:Int) (Yl m k g l p).note):=
 Rg m.vars m.cons m.goal m.var g (k:Int) l p.1 p.2 λok ok2=>by
  rw[Qj]
  suffices H:∀(k:Nat) (l:AcS) (p:qS),Fit m g l k p->∀r,r=Yl m k g l p->
    lA (λd h1=>d=.tup [.sl (.fr .int) r.vals,dI r.verdict]/\h1=hpS m g r.learned (r.fuel:Int) r.note) (k+1) m.vars m.cons m.goal m.var g (k:Int) p.2 l p.1 from⟨_,H k l p h _ rfl⟩
  intro k
  induction k with
  |zero=>
   intro l p h r hr;rw[bL,hr];exact⟨rfl,rfl⟩
  |succ k ih=>
   intro l p h r hr;have hs:=h.sea;have hf:=h.fuel;have hp:=h.steps;have hm2:=h.met;have hgl:=hs.glen;have hmc:=hs.mc;have hw:yU (((k+1:Nat):Int)-1)=(k:Int):=by rw[qV (by omega) (by omega)];omega
   rw[bL,hw];simp only[zc2,zc3,Abt,-eq_self];rw[Yl]at hr
   rw[Aao (show¬((k+1:Nat):Int)=0 by omega)]
   refine⟨_,_,_,Ai hmc (by omega) (by omega),zC (λhd=> ?_) λhd=> ?_⟩
   ·rw[As hd]at hr
    rw[hr];exact⟨rfl,rfl⟩
   ·rw[An (by rw[hd];decide)]at hr
    obtain⟨q1,q2,q3,q4,q5⟩:=Rb hs (by omega) hd
    have hkf:wJ m (g++l) (jE m (g++l)):=q1.sub SG;have hff:qP m (g++l) (jE m (g++l))=true:=K0 q2;have ht:=Py hkf hff;have hgl2:(g++l).length<=1000000000:=by rw[It];omega
    have hdl:=q1.dl;have hfew:=FT hmc hgl2 (show(mC m (g++l)).1.length<=1000000 by omega)
    rw[As q2]at hfew
    have hnv:=hmc.right.vars;have hsz:=zbG hmc.right;refine⟨_,UV (by omega) (by omega),Zt (t:=.list .lit) (u:=.bool) hfew ⟨_,UV (by omega) (by omega),zG (t:=.fr (.list .step)) (FY hkf) ⟨_,_,Ah (by omega) (by omega) (show(cL m (g++l) (jE m (g++l))).length<=1000000 by have:=ht.len;omega) (λst hst=> ?_),?_⟩⟩⟩
    ·obtain⟨c1,c2⟩:=Ss (ht.cl st hst)
     exact⟨by omega,λx hx=>zr5 hnv (c2 x hx)⟩
    ·have e0:pX (cL m (g++l) (fewest m (g++l) (mC m (g++l)).1)) p=kB m (g++l) p:=rfl
     have e1:fewest m (g++l) (mC m (g++l)).1=jE m (g++l):=rfl;rw[e0,e1]
     by_cases hf0:jE m (g++l)=[]
     ·rw[As hf0]at hr
      rw[hf0,Aaf (show(([]:AcR).length:Int)=0 from rfl),hr]
      exact⟨rfl,rfl⟩
     ·rw[An hf0]at hr
      have hl0:(jE m (g++l)).length≠0:=λe=>hf0 (AaX.1 e)
      rw[Aao (show¬((jE m (g++l)).length:Int)=0 by omega)]
      have hfl:=hkf.dl;refine zG (t:=.list .lit) (FR (by omega) hkf.near) ⟨xC (t:=.list .lit) (by show(l.length+1)*24<=_;omega),?_⟩
      have e2:(l++[(jE m (g++l)).map gB]).length=l.length+1:=by simp
      refine zC (λe=> ?_) λe=>zC (λe'=> ?_) λe'=> ?_
      ·have e:(600:Int)<((l++[(jE m (g++l)).map gB]).length:Int):=BY e
       rw[As (.inl (by omega))]at hr
       rw[hr];exact⟨rfl,rfl⟩
      ·have e':(6000:Int)<((kB m (g++l) p).1.length:Int):=BY e'
       rw[As (.inr (by omega))]at hr
       rw[hr];exact⟨rfl,rfl⟩
      ·have e:¬(600:Int)<((l++[(jE m (g++l)).map gB]).length:Int):=Aah e
       have e':¬(6000:Int)<((kB m (g++l) p).1.length:Int):=Aah e';rw[An (by omega)]at hr
       exact ih _ (kB m (g++l) p) ⟨(q5 hf0).1,by omega,by omega,HZ _ _ hm2⟩ r hr
def iU(m:zE)(fuel:Int):Int:=or0 (yY m) (if fuel<0\/300<fuel then 3 else 0)
theorem RM(m:zE)(fuel:Int):vL fS [dM m,dI fuel] (dI (iU m fuel)):=
 HW m fuel λok=>by
  rw[F6];refine zG (sP m) (zC (λe=> ?_) λe=> ?_)
  ·rw[iU,QJ (sN e)]
  ·rw[iU,Sh (vM e)]
   refine zC (λf=> ?_) λf=>zC (λf'=> ?_) λf'=> ?_
   ·rw[As (.inl (BY f))]
   ·rw[As (.inr (BY f'))]
   ·have f:=Aah f
    have f':=Aah f';rw[An (by omega)]
theorem Ob{m:zE}{fuel:Int}(h:iU m fuel=0):yY m=0/\0<=fuel/\fuel<=300:=by
 obtain⟨h1,h2⟩:=KU h;refine⟨h1,?_⟩;split at h2
 ·cases h2
 ·omega
theorem zcb{m:zE}(h:yY m=0){k:Nat}(hk:k<=300):Fit m [] [] k ([],[]):=⟨.begin h,by simpa using hk,Is _,IN _⟩
noncomputable def mR (m:zE)(fuel:Int):T5:=if iU m fuel=0 then P7 m fuel.toNat else⟨0,[],[]⟩
theorem YM(m:zE)(fuel:Int):vL qW [dM m,dI fuel] (.tup [Yn (.fr .ans) (mR m fuel),dI (iU m fuel)]):=
 HU m fuel λok=>by
  rw[F4,mR];refine zG (RM m fuel) (zC (λe=> ?_) λe=> ?_)
  ·rw[An (sN e)];rfl
  ·have e:=vM e
   obtain⟨h1,h2,h3⟩:=Ob e;obtain⟨k,rfl⟩:∃k:Nat,fuel=(k:Int):=⟨fuel.toNat,by omega⟩
   rw[As e,Aap,e,P7];have hgo:=JY (zcb h1 (k:=k) (by omega))
   have hx:=TX k [] ([],[]) (Au.begin h1) (by simpa using(show k<=300 by omega))
   refine⟨m,_,Mr m k,_,_,_,_,_,_,hgo,?_⟩;generalize Yl m k [] [] ([],[])=r at hx⊢
   refine zC (λf=> ?_) λf=> ?_
   ·have f:r.verdict=2:=BY f
    rw[As f];refine⟨_,_,RL (p:=r.note),zC (λq=> ?_) λq=> ?_⟩
    ·have q:¬(r.note.1.length:Int)<=6000:=by simpa using q
     rw[As (by omega)];rfl
    ·have q:(r.note.1.length:Int)<=6000:=by simpa using q
     rw[An (by omega),f];rfl
   ·have f:¬r.verdict=2:=Aah f
    rw[An f];rfl
theorem F9(m:zE)(fuel:Int):vL qW [dM m,dI fuel] (.tup [Yn .ans (mR m fuel),dI (iU m fuel)]):=zkZ (YM m fuel)
end Go.Proofs.YtdnmkinmcdihnaaGreatDoor
namespace Go.Proofs.YtdnmkinmcdihnaaGreatDoor
open Go.Proofs.Tryz
open Go.RowKit
variable[Lo]
theorem Rj{m:zE}(hr:Right m){vs:AcP}(hl:vs.length=m.vars.length)(hb:m.goal≠0->-1000<=vs.getD m.var.toNat 0/\vs.getD m.var.toNat 0<=1000):vL aP [dM m,.sl .int vs] (.sl .lit (cD m vs)):=
 zaF m vs λok=>by
  rw[zeq,cD]
  have hin:m.goal≠0->wW m.var vs.length=true:=λh=>by
   obtain⟨_,a,b⟩:=Rf hr h;exact uW.2 ⟨a,by omega⟩
  refine zC (λe=> ?_) λe=>zC (λe'=> ?_) λe'=> ?_
  ·have e:m.goal=1:=BY e
   have:=hb (by omega)
   rw[As e];refine⟨hin (by omega),?_⟩
   show D.sl .lit [(⟨m.var,1,yU (vs.getD m.var.toNat 0-1)⟩:zA)]=_
   rw[qV (by omega) (by omega)]
  ·have e:¬m.goal=1:=Aah e
   have e':m.goal=2:=BY e';have:=hb (by omega)
   rw[An e,As e'];refine⟨hin (by omega),?_⟩
   show D.sl .lit [(⟨m.var,2,yU (vs.getD m.var.toNat 0+1)⟩:zA)]=_
   rw[qV (by omega) (by omega)]
  ·rw[An (Aah e),An (Aah e')]
theorem zjV{m:zE}(hr:Right m){vs:AcP}(hv:VH vs (xY m))(h:m.goal≠0): -1000<=vs.getD m.var.toNat 0/\vs.getD m.var.toNat 0<=1000:=by
 obtain⟨_,g2,g3⟩:=Rf hr h;have hvl:m.var.toNat<m.vars.length:=by omega
 have:=hv.2 m.var.toNat (by rw[wC];exact hvl)
 rw[XJ hvl,TC]at this
 have hb:=hr.var _ (AT hvl);omega
theorem zly{m:zE}{g:AcS}:∀(k:Nat) (l:AcS) (p:qS),Fit m g l k p->(Yl m k g l p).verdict=1->Fit m g (Yl m k g l p).learned (Yl m k g l p).fuel (Yl m k g l p).note/\(Yl m k g l p).fuel+1<=k
 |0,l,p,h,hv=>by cases hv
 |k+1,l,p,h,hv=>by
  have hs:=h.sea;have hf:=h.fuel;rw[Yl]at hv⊢
  by_cases hd:(mC m (g++l)).2.1=true
  ·rw[As hd]at hv⊢
   exact⟨⟨hs,by show l.length+k<=300;omega,h.steps,h.met⟩,IN _⟩
  ·rw[An hd]at hv⊢
   obtain⟨_,_,_,q4,q5⟩:=Rb hs (by omega) (by simpa using hd)
   by_cases hf0:jE m (g++l)=[]
   ·rw[As hf0]at hv;cases hv
   ·rw[An hf0]at hv⊢
    by_cases hc:600<l.length+1\/6000<(kB m (g++l) p).1.length
    ·rw[As hc]at hv;cases hv
    ·rw[An hc]at hv⊢
     obtain⟨a,b⟩:=zly k _ _ ⟨(q5 hf0).1,by rw[It,Aa0];omega,by omega,HZ _ _ h.met⟩ hv
     exact⟨a,by omega⟩
abbrev hpB(m:zE)(g l:AcS)(fuel:Int)(p:qS)(b:AcP)(nl:Bool):List (Nat×yE):=[(1000,.cells [.ptr 1001 0,.slN (.fr .int) b nl]),(1001,.cells [.sl .var m.vars,.sl .con m.cons,dI m.goal,dI m.var,.sl (.list .lit) g,dI fuel,.own 2000,.own 2001,.own 1002]),(2000,.row 61 (.list .lit) l),(2001,.row 71 (.fr .step) p.1),(1002,.mp .str .int p.2)]
theorem zgz{m:zE}{k:Nat}(h:Fit m [] [] k ([],[])):
  xT fl [Ac3] (hpB m [] [] (k:Int) ([],[]) [] true) (dI (rL m k).verdict) (hpB m (rL m k).given (rL m k).learned ((rL m k).fuel:Int) (rL m k).note (rL m k).best (rL m k).nl):=
 NY m.vars m.cons m.goal m.var [] (k:Int) [] [] [] [] true λok ok2=>by
  rw[LF]
  suffices H:∀(n k:Nat) (g l:AcS) (p:qS) (b:AcP) (nl:Bool),Fit m g l k p->zjQ m g b nl->k+1<=n->∀r,r=TY m n k g l p b nl->
    iT (λd h1=>d=dI r.verdict/\h1=hpB m r.given r.learned (r.fuel:Int) r.note r.best r.nl) n b nl m.vars m.cons m.goal m.var g (k:Int) p.2 l p.1 from⟨_,H (k+1) k [] [] ([],[]) [] true h .none (IN _) _ rfl⟩
  intro n
  induction n with
  |zero=>exact λk g l p b nl _ _ hk=>At hk (by omega)
  |succ n ih=>
   intro k g l p b nl h hg hk r hr;rw[Ql];rw[TY]at hr
   have hmr:=h.sea.mc.right;have hx:=TX k l p h.sea h.fuel;have hfit:=zly k l p h;refine⟨_,_,_,_,_,_,JY h,?_⟩;generalize Yl m k g l p=q at hr hx hfit⊢
   cases hx with
   |unknown q1 q2=>
    rw[As (.inl q1)]at hr
    rw[q1,hr];exact⟨by rw[q1],rfl⟩
   |none q1 q2 q3=>
    rw[As (.inr q1)]at hr
    rw[q1,hr];exact⟨by rw[q1],rfl⟩
   |found q1 q2 q3 q4=>
    rw[An (by rw[q1];decide)]at hr
    obtain⟨hf,hlt⟩:=hfit q1;have hpos:=h.sea.mc.pos;rw[q1];refine⟨λe=> ?_,zC (λe=> ?_) λe=> ?_⟩
    ·have:=q2.len;rw[e]at this;simp at this;omega
    ·rw[As (BY e)]at hr
     rw[hr,q1];exact⟨rfl,rfl⟩
    ·have h0:m.goal≠0:=Aah e
     rw[An h0]at hr
     obtain⟨e1,e2⟩:=B8 hmr h0 hg q2;have hc:∀c∈[cD m q.vals],xD m.vars.length c=0:=λc hc=>by rw[Aab.1 hc];exact zeo hmr h0 q2.full
     exact zG (t:=.list .lit) (oT.unA (Rj hmr q2.len (zjV hmr q2.full))) (ih q.fuel _ _ _ _ _ ⟨q3.give hc (IN _) e1,q4,hf.steps,hf.met⟩ (.some _ (Nd q2) h0) (by omega) r hr)
noncomputable def Ms (m:zE)(fuel:Int):T5:=if iU m fuel=0 then B6 m fuel.toNat else⟨0,[],[]⟩
theorem Mu(m:zE)(fuel:Int):vL fR [dM m,dI fuel] (.tup [Yn (.fr .ans) (Ms m fuel),dI (iU m fuel)]):=
 zaE m fuel λok=>by
  rw[zep,Ms];refine zG (RM m fuel) (zC (λe=> ?_) λe=> ?_)
  ·rw[An (sN e)];rfl
  ·have e:=vM e
   obtain⟨h1,h2,h3⟩:=Ob e;obtain⟨k,rfl⟩:∃k:Nat,fuel=(k:Int):=⟨fuel.toNat,by omega⟩
   rw[As e,Aap,e,B6];have hrun:=zgz (zcb h1 (k:=k) (by omega))
   refine⟨m,_,Mr m k,_,_,_,_,_,_,_,_,hrun,?_⟩;generalize rL m k=r
   have tail:¬(m.goal=0/\r.verdict=1)->∃p12:AcW,∃p13:Bool,xT uQ [Ac3] (hpS m r.given r.learned (r.fuel:Int) r.note) (.tup [.sl (.fr .step) p12,dB p13]) [(1000,.cells [.sl .var m.vars,.sl .con m.cons,dI m.goal,dI m.var,.sl (.list .lit) r.given,dI (r.fuel:Int),.own 2000,.sl (.fr .step) p12,.own 1001]),(2000,.row 61 (.list .lit) r.learned),(1001,.mp .str .int r.note.2)]/\
     zT (decide (r.verdict=3)) (D.tup [.agg [dI 3,.sl (.fr .int) ([]:AcP),.sl (.fr .step) ([]:AcW)],dI 0]=.tup [Yn (.fr .ans) (if m.goal=0/\r.verdict=1 then⟨1,r.best,[]⟩else if r.verdict=3\/6000<r.note.1.length then⟨3,[],[]⟩else if r.nl=true then⟨2,[],r.note.1⟩else⟨1,r.best,r.note.1⟩),dI 0])
      (zT (!p13) (D.tup [.agg [dI 3,.sl (.fr .int) ([]:AcP),.sl (.fr .step) ([]:AcW)],dI 0]=.tup [Yn (.fr .ans) (if m.goal=0/\r.verdict=1 then⟨1,r.best,[]⟩else if r.verdict=3\/6000<r.note.1.length then⟨3,[],[]⟩else if r.nl=true then⟨2,[],r.note.1⟩else⟨1,r.best,r.note.1⟩),dI 0])
       (zT r.nl (D.tup [.agg [dI 2,.sl (.fr .int) ([]:AcP),.sl (.fr .step) p12],dI 0]=.tup [Yn (.fr .ans) (if m.goal=0/\r.verdict=1 then⟨1,r.best,[]⟩else if r.verdict=3\/6000<r.note.1.length then⟨3,[],[]⟩else if r.nl=true then⟨2,[],r.note.1⟩else⟨1,r.best,r.note.1⟩),dI 0])
        (D.tup [.agg [dI 1,.sl (.fr .int) r.best,.sl (.fr .step) p12],dI 0]=.tup [Yn (.fr .ans) (if m.goal=0/\r.verdict=1 then⟨1,r.best,[]⟩else if r.verdict=3\/6000<r.note.1.length then⟨3,[],[]⟩else if r.nl=true then⟨2,[],r.note.1⟩else⟨1,r.best,r.note.1⟩),dI 0]))):=λhn=>by
    refine⟨_,_,RL (p:=r.note),?_⟩;rw[An hn];refine zC (λf=> ?_) λf=>zC (λq=> ?_) λq=>zC (λb=> ?_) λb=> ?_
    ·rw[As (.inl (BY f))];rfl
    ·have q:¬(r.note.1.length:Int)<=6000:=by simpa using q
     rw[As (.inr (by omega))];rfl
    ·have f:=Aah f
     have q:(r.note.1.length:Int)<=6000:=by simpa using q
     rw[An (by omega),As b];rfl
    ·have f:=Aah f
     have q:(r.note.1.length:Int)<=6000:=by simpa using q
     rw[An (by omega),An (by rw[b];decide)];rfl
   refine zC (λf=>zC (λq=> ?_) λq=> ?_) λf=> ?_
   ·have f:m.goal=0:=BY f
    have q:r.verdict=1:=BY q;rw[As ⟨f,q⟩,q];rfl
   ·exact tail λh=>(Aah q) h.2
   ·exact tail λh=>(Aah f) h.1
theorem zer(m:zE)(fuel:Int):vL fR [dM m,dI fuel] (.tup [Yn .ans (Ms m fuel),dI (iU m fuel)]):=zkZ (Mu m fuel)
def Nf(m:zE)(vs:AcP):Int:=or0 (yY m) (if vs.length≠m.vars.length then 1 else if m.goal≠0/\(vs.getD m.var.toNat 0<(m.vars.getD m.var.toNat Ty.var.dflt).lo\/(m.vars.getD m.var.toNat Ty.var.dflt).hi<vs.getD m.var.toNat 0)then 3 else 0)
def zes(m:zE)(vs:AcP):AcR:=if Nf m vs=0 then cD m vs else[]
theorem Aj(m:zE)(vs:AcP):vL cT [dM m,.sl .int vs] (.tup [.sl .lit (zes m vs),dI (Nf m vs)]):=
 F8 m vs λok=>by
  rw[Ag,zes];refine zG (sP m) (zC (λe=> ?_) λe=> ?_)
  ·have e:=sN e
   have h:Nf m vs=yY m:=QJ e;rw[h,An e]
  ·have e:=vM e
   have hr:=mM e;have h:Nf m vs=_:=Sh e;refine zC (λf=> ?_) λf=> ?_
   ·have f:¬(vs.length:Int)=(m.vars.length:Int):=by simpa using f
    have h:Nf m vs=1:=h.trans (As (by omega))
    rw[h,An (by decide)]
   ·have f:(vs.length:Int)=(m.vars.length:Int):=by simpa using f
    have f:vs.length=m.vars.length:=by omega
    rw[An (not_not_intro f)]at h
    refine zC (λg=> ?_) λg=> ?_
    ·have g0:m.goal≠0:=sN g
     obtain⟨_,g2,g3⟩:=Rf hr g0;have i1:wW m.var vs.length=true:=uW.2 ⟨g2,by omega⟩
     have i2:wW m.var m.vars.length=true:=uW.2 ⟨g2,g3⟩;refine⟨i1,i2,zC (λq=> ?_) λq=>⟨i1,i2,zC (λq'=> ?_) λq'=> ?_⟩⟩
     ·rw[As ⟨g0,.inl (BY q)⟩]at h
      rw[h,An (by decide)]
     ·rw[As ⟨g0,.inr (BY q')⟩]at h
      rw[h,An (by decide)]
     ·have q:=Aah q
      have q':=Aah q';rw[An λx=>x.2.elim q q']at h
      rw[h,As rfl];refine zG (t:=.list .lit) (Rj hr f λ_=> ?_) rfl
      have hvl:m.var.toNat<m.vars.length:=by omega
      have hb:=hr.var _ (AT hvl);have e1:zJ .var m.vars m.var.toNat=m.vars[m.var.toNat]:=atN hvl;have q2:¬(vs.getD m.var.toNat 0:Int)<m.vars[m.var.toNat].lo:=λx=>q (by rw[e1];exact x)
      have q3:¬(m.vars[m.var.toNat].hi:Int)<vs.getD m.var.toNat 0:=λx=>q' (by rw[e1];exact x)
      omega
    ·have g0:=vM g
     rw[An λx=>x.1 g0]at h
     rw[h,As rfl];exact zG (t:=.list .lit) (Rj hr f λx=>At g0 x) rfl
end Go.Proofs.YtdnmkinmcdihnaaGreatDoor
namespace Go.Proofs.YtdnmkinmcdihnaaGreatDoor
open Go.Proofs.Tryz
open Go.RowKit
variable[Lo]
theorem zpN:tH vO true [] (xY vO)=[[0,1],[1,2]]:=zhR (cons:=true) zhS wC 1 (by kernel_rfl) (by kernel_rfl) (by kernel_rfl)
theorem zpO:tH vO true [] (rK [[0,1],[1,2]] 0 0)=[[0],[1,2]]:=zhR (cons:=true) zhS (by kernel_rfl) 1 (by kernel_rfl) (by kernel_rfl) (by kernel_rfl)
theorem zpP:tH vO true [] (rK [[0],[1,2]] 1 1)=[[0],[1]]:=zhR (cons:=true) zhS (by kernel_rfl) 1 (by kernel_rfl) (by kernel_rfl) (by kernel_rfl)
theorem zpQ:mC vO ([]++[])=([],true,[0,1]):=by
 show TU vO [] 3 (tH vO true [] (xY vO)) []=_
 rw[zpN,TU,An (by decide),An (by decide)]
 show TU vO [] 2 (tH vO true [] (rK [[0,1],[1,2]] 0 0)) _=_
 rw[zpO,TU,An (by decide),An (by decide)]
 show TU vO [] 1 (tH vO true [] (rK [[0],[1,2]] 1 1)) _=_
 rw[zpP,TU,An (by decide),As (by decide)]
 rfl
theorem zpR{k:Nat}:Yl vO (k+1) [] [] ([],[])=⟨[0,1],1,k,[],([],[])⟩:=by
 rw[Yl,zpQ,As rfl]
theorem zet:yL vO ([[⟨1,1,0⟩]]++[]):=nB (by kernel_rfl) λc hc=>by rw[Aab.1 hc];kernel_rfl
theorem Ak:zZ (tH vO true ([[⟨1,1,0⟩]]++[]) (xY vO))=true:=by
 rw[zkT (cons:=true) zet wC 2 (by kernel_rfl)]
 exact lY (by rw[wC];exact zet.pos)
theorem zcc:mC vO ([[⟨1,1,0⟩]]++[])=([],false,[]):=by
 rw[mC,TU,As Ak]
theorem zpS:(rL vO 20).verdict=2/\(rL vO 20).best=[0,1]/\(rL vO 20).nl=false/\(rL vO 20).note.1.length<=6000:=by
 have hf:jE vO ([[⟨1,1,0⟩]]++[])=[]:=by
  rw[jE,zcc];exact B1 zet Ak
 have hk:wJ vO ([[⟨1,1,0⟩]]++[]) []:=⟨by kernel_rfl,by decide,λc hc=>(by rw[Aab.1 hc];kernel_rfl),by decide,λx hx=>(by cases hx),λx hx=>(by cases hx)⟩
 have ht:=Py hk Ak
 have hgo:Yl vO 19 [[⟨1,1,0⟩]] [] ([],[])=⟨[],2,18,[],kB vO ([[⟨1,1,0⟩]]++[]) ([],[])⟩:=by
  rw[Yl,An (by rw[zcc];decide),As hf]
 have hlen:(kB vO ([[⟨1,1,0⟩]]++[]) ([],[])).1.length<=6000:=by
  have h1:=(HY (cL vO ([[⟨1,1,0⟩]]++[]) (jE vO ([[⟨1,1,0⟩]]++[]))) ([],[])).1;rw[hf]at h1
  have h2:=ht.len;show(pX _ _).1.length<=_
  rw[hf];have:(([],[]):qS).1.length=0:=rfl;omega
 have e:rL vO 20=⟨2,[0,1],false,[[⟨1,1,0⟩]],18,[],kB vO ([[⟨1,1,0⟩]]++[]) ([],[])⟩:=by
  show TY vO 21 20 [] [] ([],[]) [] true=_
  rw[TY,zpR,An (by decide),An (by decide)]
  show TY vO 20 19 [[⟨1,1,0⟩]] [] ([],[]) [0,1] false=_
  rw[TY,hgo,As (.inr rfl)]
 rw[e];exact⟨rfl,rfl,rfl,hlen⟩
theorem zr6:(Ms vO 20).verdict=1/\(Ms vO 20).values=[0,1]/\0<(Ms vO 20).proof.length:=by
 obtain⟨h1,h2,h3,h4⟩:=zpS
 have e:Ms vO 20=⟨1,[0,1],(rL vO 20).note.1⟩:=by
  rw[Ms,As (by kernel_rfl)]
  show B6 vO 20=_
  rw[B6,An (by rintro⟨h,_⟩;exact At h (by decide)),An (by rw[h1];rintro(h|h);exact At h (by decide);omega),An (by rw[h3];decide),h2]
 have hs:=zm7 (m:=vO) (fuel:=20) (by kernel_rfl) (by decide)
 have e2:Ms vO 20=B6 vO 20:=by rw[Ms,As (by kernel_rfl)];rfl
 rw[<-e2,e]at hs
 rw[e];refine⟨rfl,rfl,?_⟩;cases hs with
 |any q0=>exact At q0 (by decide)
 |none q1=>exact At q1 (by decide)
 |unknown q1=>exact At q1 (by decide)
 |best q0 q1 q2 q3 q4=>
  have:=q3.right;rw[Pq,If,dN,If]at this
  exact BY this.2.1
theorem zjW:vL cT [dM vO,.sl .int [0,2]] (.tup [.sl .lit [⟨1,1,1⟩],dI 0]):=by
 have h:=Aj vO [0,2]
 rwa[zes,show Nf vO [0,2]=0 by kernel_rfl,As rfl,show cD vO [0,2]=[⟨1,1,1⟩] by kernel_rfl]at h
theorem Rk:vL mT [] (dB true):=
 Td λok=>by
  rw[Sp];obtain⟨h1,h2,h3⟩:=zr6;refine zG (t:=.mdl) vU (Zt (t:=.list .lit) (u:=.int) zjW (zG (t:=.mdl) vU (Zt (t:=.ans) (u:=.int) (zer vO 20) ?_)));refine dt rfl (dt (show iU vO 20=0 by kernel_rfl) (zG (t:=.bool) (TI _ _) (dt rfl (dt h1 (zG (t:=.bool) (tQ _ _) (dt h2 ?_))))))
  rw[Aaf (by omega)]
theorem zeu{m:zE}{g:AcS}{t:AcW}(hg:∀c∈g,xD m.vars.length c=0)(hgl:g.length<=1)(h:LB m g t)(hl:t.length<=6000):Ps m g t=0:=by
 have e1:wM (λ_ (s:zR)=>xD m.vars.length s.clause) 0 t=0:=Uq λ_ x hx=>h.cl x hx
 have e2:wM (λ_ (s:zR)=>bH m s) 0 t=0:=Uq λ_ x hx=>by
  rw[bH,An];rintro⟨h1,h2⟩;have:=h.con x hx h1;omega
 have e3:Xf m.vars.length g=0:=by
  rw[Xf,An (by omega)]
  exact Uq λ_ x hx=>hg x hx
 rw[Ps,An (by omega),e3,e1,e2];rfl
end Go.Proofs.YtdnmkinmcdihnaaGreatDoor
namespace Go.Proofs.YtdnmkinmcdihnaaGreatDoor
open Go.Proofs.Tryz
open Go.RowKit
variable[Lo]
abbrev hpL(m:zE)(out:AcQ):List (Nat×yE):=[(1000,.cells [.sl .var m.vars,.sl .con m.cons,dI m.goal,dI m.var,.own 2000]),(2000,.row 28 (.fr (.list .int)) out)]
theorem znc(s:AcQ)(v n:Int):vL xP [dS s,.clo nN none [.iptr [dI v] 0,.iptr [dI n] 0]] (dS (rK s v n)):=
 gM (f:=λw k=> !decide ((w:Int)=v)||decide (k=n)) UA λw hw k hk=>UU w k v n λok=>by
  rw[T2];refine zC (λe=> ?_) λe=> ?_
  ·rw[e];rfl
  ·rw[e,AbB]
theorem Al{m:zE}(hm:yY m=0):∀(k:Nat) (s out:AcQ),wI s<=k->fJ s (xY m)->out.length<=200->
  xT oI [Ac3,dS s] (hpL m out) (dB (decide (out.length+(nH m s).length<=200))) (hpL m ((out++nH m s).take 200)):=by
 intro k
 induction k using Nat.strongRecOn with
 |_ k ih=>
  intro s out hk hle hout;have hmc:=GD hm;have hr:=hmc.right;have hv:=hr.vars;refine Rh m.vars m.cons m.goal m.var out s λok ok2=> ?_
  rw[Qk];have hs:s.length=m.vars.length:=hle.1.trans wC;refine zG (Va hmc (ZZ hr (TA Zb hle)) (by decide)) ?_
  rw[<-zpK hmc hle];have ht:=Ra (cons:=true) hmc hs;have htl:=Dc (cons:=true) hmc hs;have hsz:=ht.size;have htf:=ht.trans hle;have hst:=λh=>Vu (cons:=true) hmc hs h
  generalize tH m true [] s=t at ht htl hsz htf hst⊢
  refine zG (xB t) (zC (λe=> ?_) λe=> ?_)
  ·have e0:nH m t=[]:=by rw[nH,zjR e];rfl
   rw[e0,Aa2,AaJ hout,Aaf (show out.length+([]:AcQ).length<=200 by simpa using hout)]
   exact⟨rfl,rfl⟩
  ·have hne:=tK.1 e
   refine zG (Oa t) ?_;rcases HK t with⟨eo,h1⟩|⟨v,eo,hv',h1,h2⟩
   ·refine dt (by omega:Vv t<0) ?_
    have hone:∀v:Nat,v<t.length->(t.getD v []).length=1:=λv hv=>by
     have:=h1 v;have:=Abh.2 (hne v hv);omega
    have hp:=zb7 hone;have hin:VH (mB t) t:=YL.1 (by rw[hp];exact Aab.2 rfl)
    have huniq:∀us,VH us t->us=mB t:=λus hu=>by
     have:=YL.2 hu;rw[hp]at this;exact Aab.1 this
    have hw:aG m (mB t)=true:=zgv (hin.1.trans htl) (hin.mono htf) λc hc=>by
     have hpos:=hmc.pos;obtain⟨n,hn⟩:=Aci _ (hne 0 (by omega))
     obtain⟨us,u1,_,u3⟩:=(YF hmc hc).congr (Q':=λ_=>true) htl (vs:=[]) (hst e _ (qM.2 (.inl ⟨rfl,c,hc,rfl⟩))) e 0 n hn
     rw[huniq us u1]at u3;exact u3
    have e0:nH m t=[mB t]:=by rw[nH,hp,Abc,hw];rfl
    rw[e0];refine zC (λf=> ?_) λf=> ?_
    ·have f:(out.length:Int)=200:=BY f
     rw[zb8 (by omega),AaJ (by omega),Aao (by simp;omega)]
     exact⟨rfl,rfl⟩
    ·have f:¬(out.length:Int)=200:=Aah f
     rw[AaJ (by simp;omega),Aaf (by simp;omega)]
     refine up (I:=λn v a=>lB m.vars m.cons m.goal m.var _ t n v a out) (a:=[]) 0 t.length rfl (Is _) (by omega) (λk a=>a=mB (t.take k)) rfl λn j a _ hj ha hn=> ?_
     subst ha;rw[UQ]
     by_cases h:j<t.length
     ·have hrow:0<t[j].length:=Abh.2 (by have:=hne j h;rwa[yO _ h]at this)
      rw[yD h,yA (t:=.list .int) h];refine⟨zI h,zI (k:=0) hrow,xC (t:=.fr .int) ?_,hn h _ ?_⟩
      ·rw[mB,Aae,Aak];show(_+1)*8<=_;omega
      ·rw[zca h];rfl
     ·have hj':j=t.length:=by omega
      subst hj';rw[zY,Aam];exact⟨xC (t:=.fr (.list .int)) (by show(out.length+1)*24<=_;omega),rfl,rfl⟩
   ·refine df (by omega:¬Vv t<0) ?_
    rw[eo]
    have hb:=zgy (m:=m) hv' (Ab htf v) λw hw=>by
     have:=h2 w hw;have:=Abh.2 (hne w (by omega))
     omega
    have e1:zJ (.list .int) t (v:Int).toNat=t.getD v []:=by rw[yA hv',yO _ hv']
    have hrow6:(t.getD v []).length<=6:=Aan (htf.2 v).length_le (TF hr v);refine⟨zI hv',?_⟩;rw[hb]
    have main:∃n2,pY (λd h1=>d=dB (decide (out.length+((t.getD v []).flatMap λn=>nH m (rK t v n)).length<=200))/\h1=hpL m ((out++(t.getD v []).flatMap λn=>nH m (rK t v n)).take 200)) t (v:Int) n2 0 m.vars m.cons m.goal m.var out:=by
     refine up (I:=λn i a=>pY _ t (v:Int) n i m.vars m.cons m.goal m.var a) (a:=out) 0 (t.getD v []).length rfl (Is _) (by omega)
      (λk a=>a=out++(((t.getD v []).take k).flatMap λn=>nH m (rK t v n))/\a.length<=200) ⟨by simp,hout⟩ λn j a _ hj ha hn=> ?_
     obtain⟨ha,hal⟩:=ha;rw[UR,e1]
     by_cases h:j<(t.getD v []).length
     ·rw[yD h,yA (t:=.int) h]
      have hlt:wI (rK t v (t.getD v [])[j])<k:=by
       refine Aaz ((ZT (s:=t)).size_lt λe=> ?_) (Aan hsz hk)
       have e2:(rK t v (t.getD v [])[j]).getD v []=t.getD v []:=by rw[rK,e]
       rw[rK,uZ]at e2
       have e3:=AS List.length e2
       have e4:((t.getD v []).filter λk=> !decide ((v:Int)=(v:Int))||decide (k=(t.getD v [])[j])).length<=1:=by
        rw[show(λk:Int=> !decide ((v:Int)=(v:Int))||decide (k=(t.getD v [])[j]))=λk=>decide (k=(t.getD v [])[j]) by funext k;simp]
        exact HL (Ab htf v) _
       omega
      have hrec:=ih _ hlt (rK t v (t.getD v [])[j]) a (IN _) (ZT.trans htf) hal
      have htk:((t.getD v []).take (j+1)).flatMap (λn=>nH m (rK t v n))=((t.getD v []).take j).flatMap (λn=>nH m (rK t v n))++nH m (rK t v (t.getD v [])[j]):=by
       rw[<-Aay h,Acj];simp
      have hall:(t.getD v []).flatMap (λn=>nH m (rK t v n))=((t.getD v []).take (j+1)).flatMap (λn=>nH m (rK t v n))++((t.getD v []).drop (j+1)).flatMap (λn=>nH m (rK t v n)):=by
       rw[<-Acj,AbZ]
      have hal2:(a++nH m (rK t v (t.getD v [])[j]))=out++((t.getD v []).take (j+1)).flatMap (λn=>nH m (rK t v n)):=by rw[ha,htk,AaG]
      refine⟨zI h,zG (znc t v _) ⟨_,_,hrec,zC (λf=> ?_) λf=> ?_⟩⟩
      ·have f:¬a.length+(nH m (rK t v (t.getD v [])[j])).length<=200:=by simpa using f
       have hlen:=AS List.length hal2;rw[It]at hlen
       rw[hall,<-AaG,<-hal2,zb8 (a:=a++nH m (rK t v (t.getD v [])[j])) (by rw[It];omega),Aao (by
        rw[It];rw[It]at hlen
        omega)]
       exact⟨rfl,rfl⟩
      ·have f:a.length+(nH m (rK t v (t.getD v [])[j])).length<=200:=by simpa using f
       rw[AaJ (l:=a++nH m (rK t v (t.getD v [])[j])) (by rw[It];exact f)]
       exact hn h _ ⟨hal2,by rw[It];exact f⟩
     ·have hj':j=(t.getD v []).length:=by omega
      subst hj';rw[Aam]at ha
      rw[zY,<-ha,AaJ hal,Aaf (by
       have:=AS List.length ha;rw[It]at this
       omega)]
      exact⟨rfl,rfl⟩
    exact main
def zcd(m:zE):AcQ:=if yY m=0 then(nH m (xY m)).take 200 else[]
def zlz(m:zE):Bool:=orB (yY m) (decide ((nH m (xY m)).length<=200))
theorem RN(m:zE):vL nX [dM m] (.tup [.sl (.fr (.list .int)) (zcd m),dB (zlz m),dI (yY m)]):=
 F5 m λok=>by
  rw[Ac,zcd,zlz];refine zG (sP m) (zC (λe=> ?_) λe=> ?_)
  ·rw[An (sN e),zdn (sN e)]
  ·have e:=vM e
   rw[As e,zdm e,e];have h:=Al e _ (xY m) [] (IN _) (fJ.refl _) (Is _);refine zG (KT (mM e)) ⟨_,_,h,?_⟩;simp
theorem Am(m:zE):vL nX [dM m] (.tup [dS (zcd m),dB (zlz m),dI (yY m)]):=zmE (RN m)
theorem Rl(a b:AcQ):vL tO [dS a,dS b] (dB (decide (a=b))):=
 aR a b λok=>by
  have hl:a.length<=9223372036854775807:=dW (t:=.list .int) (Qm ok);rw[ZH];refine zC (λe=> ?_) λe=> ?_
  ·rw[Aao (p:=a=b) λh=>by subst h;simp at e]
  have e:a.length=b.length:=by simp at e;omega
  have hz:(a.zip b).length=a.length:=by rw[AaA];omega
  refine zc4 (I:=λn v=>pB a b _ n v) (a.zip b) (λx=> !decide (x.1=x.2)) (by omega) (X:=dB false=dB (decide (a=b))) (Y:=dB true=dB (decide (a=b))) (by rw[gA a b e];cases decide (a=b)<;>rfl) (λn k h hX hn=> ?_) λn hY=> ?_
  ·have hk:k<a.length:=by omega
   rw[AaL]at hX hn
   rw[pR,yD hk,yA (t:=.list .int) hk,yA (t:=.list .int) (show k<b.length by omega)]
   exact⟨zI hk,zI (by omega),zG (tQ _ _) (zC hX hn)⟩
  ·rw[hz,pR,zY];exact hY
end Go.Proofs.YtdnmkinmcdihnaaGreatDoor
namespace Go.Proofs.YtdnmkinmcdihnaaGreatDoor
open Go.Proofs.Tryz
open Go.RowKit
variable[Lo]
theorem znd:nH vO (xY vO)=[[0,1],[0,2],[1,2]]:=by kernel_rfl
theorem zjX:vL nX [dM vO] (.tup [dS [[0,1],[0,2],[1,2]],dB true,dI 0]):=by
 have h:=Am vO;have e:yY vO=0:=by kernel_rfl
 rwa[zcd,zlz,As e,zdm e,e,znd]at h
theorem zne:vL qW [dM vO,dI 9] (.tup [Yn .ans ⟨1,[0,1],[]⟩,dI 0]):=by
 have h:=F9 vO 9;have e:iU vO 9=0:=by kernel_rfl
 have e2:P7 vO 9=⟨1,[0,1],[]⟩:=by rw[P7,zpR (k:=8),An (by decide)]
 rw[mR,As e,e]at h
 rw[<-e2];exact h
theorem T3:vL tO [dS [[0,1],[0,2],[1,2]],dS [[0,1],[0,2],[1,2]]] (dB true):=by
 have h:=Rl [[0,1],[0,2],[1,2]] [[0,1],[0,2],[1,2]]
 rwa[Aaf rfl]at h
theorem UW:vL oV [] (dB true):=
 VG λok=>by
  rw[UC];exact zG (t:=.mdl) vU (Zt (t:=.ans) (u:=.int) zne (zG (t:=.mdl) vU (ze0 (t:=.list (.list .int)) (u:=.bool) (v:=.int) zjX (dt rfl (dt rfl (dt rfl (dt rfl (bt rfl (zG (t:=.bool) T3 rfl)))))))))
theorem zpT{m:zE}{fuel:Int}(h:iU m fuel≠0):mR m fuel=⟨0,[],[]⟩:=An h
theorem zgA{m:zE}{fuel:Int}(h:iU m fuel=0):yY m=0/\∃k:Nat,fuel=k/\mR m fuel=P7 m k/\B5 m k (mR m fuel):=by
 obtain⟨h1,h2,h3⟩:=Ob h;obtain⟨k,rfl⟩:∃k:Nat,fuel=(k:Int):=⟨fuel.toNat,by omega⟩
 have e:mR m (k:Int)=P7 m k:=by rw[mR,As h,Aap]
 exact⟨h1,k,rfl,e,by rw[e];exact zjP h1 (by omega)⟩
end Go.Proofs.YtdnmkinmcdihnaaGreatDoor
