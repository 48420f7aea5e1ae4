/- Texts of this proof, one behind the other: nothing is handed in but what is proved here; no condition. -/
import Derived.Test.YtdnmkinmcdihnaaGreatDoorProg
import Derived.Lib.AppendZeros
import Derived.Lib.AtoiErrMem
import Derived.Recover
import Derived.Test.YtdnmkinmcdihnaaGreatDoorZD
set_option linter.unusedSectionVars false
set_option linter.unusedVariables false
set_option linter.unusedSimpArgs false
namespace Go.Proofs.YtdnmkinmcdihnaaGreatDoor
open Go.Proofs.Tryz
open Go.RowKit
theorem zhW(w:World):Calls prog 165 #[.slice none 0 0,.int .i64 0] w λe w'=>e=.returned (.slice none 0 0)/\w=w':=by
 go_enter func165,ntmps165
 go_wp2
 all_goals go_ret
 all_goals exact⟨rfl,rfl⟩
set_option maxRecDepth 100000 in
theorem zhX(n:Nat)(h0:0<n)(h:n*24<=140737488355328)(w:World):Calls prog 165 #[.slice none 0 0,.int .i64 n] w λe w'=>∃cap cells,e=.returned (.slice (some ⟨w.heap.size,0,none⟩) 0 cap)/\w'.heap[w.heap.size]? =some (.cells cells 66 (0,0))/\cells.size=cap*3/\cap<=maxLen/\w'.heap.size=w.heap.size+1/\Below w.heap.size w w':=by
 go_enter func165,ntmps165
 have happ:=Lib.run_append_nil_zeros (P:=prog) w 50 3 50 66 t66 (.agg #[.int .i64 0,.int .i64 0,.int .i64 0]) .i64 .i64 underlying50 underlying3 (by kernel_rfl) (by kernel_rfl) n h0 (by decide) (by omega) (by show n*24<=_;omega)
 have hcap:=grownCap_le_maxLen w n 0 66 (by unfold maxLen;omega)
 have hge:=grownCap_ge w n 0 66;generalize grownCap w n 0 66=cap at happ hcap hge
 have hZs:(Builtin.zeroCells (Value.agg #[.int .i64 0,.int .i64 0,.int .i64 0]).cells n++Builtin.zeroCells (Value.agg #[.int .i64 0,.int .i64 0,.int .i64 0]).cells (cap-n)).size=cap*3:=by
  simp[size_zeroCells,Value.cells];omega
 generalize Builtin.zeroCells (Value.agg #[.int .i64 0,.int .i64 0,.int .i64 0]).cells n++Builtin.zeroCells (Value.agg #[.int .i64 0,.int .i64 0,.int .i64 0]).cells (cap-n)=Z at happ hZs
 go_wp2_with (at_builtin;refine Lib.wpList_append_run _ rfl _ _ _ _ rfl _ _ rfl rfl _ _ happ ?_)
 go_ret
 exact⟨cap,Z,rfl,heap_alloc_new w _,hZs,hcap,by simp,⟨rfl,rfl,rfl,by simp,λk hk=>Below.heap_alloc w _ k hk⟩⟩
end Go.Proofs.YtdnmkinmcdihnaaGreatDoor
namespace Go.Proofs.YtdnmkinmcdihnaaGreatDoor
open Go.Proofs.Tryz
open Go.RowKit
variable[Lo]
theorem zhY(l:AcR):xT tU [.sl .lit l] [] (.own 3000) [(3000,.row 66 .lit l)]:=
 aA l λok _=>by
  rw[Zk];intro b hb;refine zC (λe=> ?_) λe=>⟨?_,?_⟩
  ·rw[hb e];exact⟨rfl,rfl⟩
  ·refine xC (t:=.lit) ?_
   have:=(fk (t:=.lit) (Qm ok)).1;show(0+l.length)*24<=_
   have h8:l.length*24<=140737488355328:=this;omega
  ·exact⟨rfl,rfl⟩
theorem FQ(n:Nat)(hn:n*24<=140737488355328):xT sJ [.nil,dI n] [] (.own 3000) [(3000,.row 66 .lit [])]:=by
 intro w S vs pl hS hl hv hh _;have e0:vs.getD 0 undef=.slice none 0 0:=Rp.nil_inv (hv 0 _ rfl);have e1:vs.getD 1 undef=.int .i64 n:=(Rp.int_inv (hv 1 _ rfl)).1
 have ev:vs= #[.slice none 0 0,.int .i64 n]:=by
  have hl2:vs.size=2:=hl;apply Array.ext (by simp[hl2])
  intro i h1 h2;simp[Aaj]at e0 e1
  match i,h1 with
  |0,h1=>rw[AaW h1]at e0;simpa using e0
  |1,h1=>rw[AaW h1]at e1;simpa using e1
  |i+2,h1=>exact At h1 (by omega)
 subst ev
 by_cases h0:n=0
 ·subst h0
  refine(zhW w).mono λe w' ⟨he,hw⟩=> ?_
  subst he hw;exact Ez (t:=.lit) (xs:=[]) hS (λpl'=>⟨by show 0*24<=lim;exact Aau rfl,[],rfl,⟨rfl,.inl ⟨rfl,rfl⟩⟩,λcs h=>(by cases h),λi x cs h=>(by cases h)⟩) (λb h=>by cases h) (Below.refl _ _)
 ·refine(zhX n (by omega) hn w).mono λe w' ⟨cap,cells,he,h1,h2,h3,h4,h5⟩=> ?_
  subst he;refine Ez (t:=.lit) (xs:=[]) hS (λpl'=>⟨by show 0*24<=lim;exact Aau rfl,[],rfl,⟨rfl,.inr ⟨w.heap.size,cap,cells,rfl,Is _,h1,Is _,h3,h2,rfl⟩⟩,λcs h=>(by cases h),λi x cs h=>(by cases h)⟩) (λb h=> ?_) h5
  have:w.heap.size=b:=by injection h
  omega
theorem KZ{ls:AcS}(hl:ls.length<=1000)(hr:∀l∈ls,l.length<=1000000):vL tG [.sl (.list .lit) ls] (.sl .lit ls.flatten):=
 bA ls λok=>by
  have flat:∀k,((ls.take k).flatten).length<=k*1000000:=λk=>by
   have h1:∀xs:AcS,(∀l∈xs,l.length<=1000000)->xs.flatten.length<=xs.length*1000000:=λxs=>by
    induction xs with
    |nil=>exact λ_=>IN _
    |cons a xs ih=>
     intro h;have h1:=h a (Aaa ..);have h2:=ih λl hl=>h l (Aac _ hl)
     rw[Aa5,It,By];omega
   have:=h1 (ls.take k) λl hl=>hr l (Abp hl)
   rw[Aak]at this
   exact Aan this (Aa8 _ (Nat.min_le_left ..))
  have ftake:∀(k:Nat) (h:k<ls.length),(ls.take (k+1)).flatten=(ls.take k).flatten++ls[k]:=λk h=>by
   rw[<-Aay h,List.flatten_append];simp
  rw[aB];refine up (I:=λn v (a:Int)=>uY ls _ n a v) 0 ls.length rfl (Is _) (by omega) (λk a=>a=(((ls.take k).flatten).length:Int)) rfl λn k a _ hk ha hn=> ?_
  subst ha;rw[eY];have hf:=flat k
  by_cases h:k<ls.length
  ·have hm:=hr _ (AT h)
   rw[yD h,yA (t:=.list .lit) h,qV (by omega) (by omega)]
   refine⟨zI h,df (by omega) (hn h _ ?_)⟩
   rw[ftake k h,It];omega
  ·have hk':k=ls.length:=by omega
   subst hk';rw[zY];refine⟨[],FQ _ (by omega),?_⟩
   refine up (I:=λn v (a:AcR)=>uX ls _ n v a) 0 ls.length rfl (Is _) (by omega) (λk a=>a=(ls.take k).flatten) rfl λn k a _ hk ha hn=> ?_
   subst ha;rw[eX];have hf:=flat k
   by_cases h:k<ls.length
   ·have hm:=hr _ (AT h)
    rw[yD h,yA (t:=.list .lit) h];refine⟨zI h,xC (t:=.lit) ?_,hn h _ (ftake k h).symm⟩;show(_+_)*24<=_
    omega
   ·have hk':k=ls.length:=by omega
    subst hk';rw[zY,Aam]
end Go.Proofs.YtdnmkinmcdihnaaGreatDoor
namespace Go.Proofs.YtdnmkinmcdihnaaGreatDoor
open Go.Proofs.Tryz
open Go.RowKit
variable[Lo]
def eG(m:zE)(d:AcR):AcQ:=d.foldl AZ (xY m)
noncomputable def qP (m:zE)(l:AcS)(d:AcR):Bool:=zZ (tH m true l (eG m d))
noncomputable def fewest (m:zE)(l:AcS)(d:AcR):AcR:=zdD (qP m l) d
theorem zfT:∀(d:AcR) (s:AcQ),d.foldl AZ s=rI (λv n=>d.all λx=> !decide ((v:Int)=x.var)||holdsL x n) s
 |[],s=>(aX λv n _=>rfl).symm
 |x::d,s=>by
  rw[AbR,zfT d (AZ s x),AZ,zmc];rfl
theorem TH{m:zE}{d:AcR}:eG m d=rI (λv n=>d.all λx=> !decide ((v:Int)=x.var)||holdsL x n) (xY m):=zfT d _
theorem Up{m:zE}{d:AcR}:fJ (eG m d) (xY m):=by rw[TH];exact ZT
theorem zhZ{m:zE}{d:AcR}:gZ m (eG m d)=0:=TA Zb Up
theorem zoX{m:zE}(h:Right m){d:AcR}:jL (eG m d) m.vars.length:=ZZ h zhZ
theorem zmz{m:zE}{a b:AcR}(h:∀x∈a,x∈b):fJ (eG m b) (eG m a):=by
 rw[TH,TH];refine W5 (fJ.refl _) λv n _ e=> ?_
 rw[Aav]at e⊢
 exact λx hx=>e x (h x hx)
theorem GH{m:zE}{l:AcS}(hl:yL m l):∀a b:AcR,(∀x∈a,x∈b)->qP m l a=true->qP m l b=true:=λa b h ha=>by
 have hp:=hl.pos;have k1:(eG m a).length=m.vars.length:=Up.1.trans wC;have k2:(eG m b).length=m.vars.length:=Up.1.trans wC;cases e:qP m l b with
 |true=>rfl
 |false=>
  have h2:=((gQ (cons:=true) hl k2).mono (by omega) (gQ (cons:=true) hl k1) (zmz h) λop h=>h).fail e
  rw[qP,h2]at ha;cases ha
theorem zoY{m:zE}{d:AcR}(h:∀x∈d,1<=x.op/\x.op<=4):eG m d=cA (xY m) (d.map gB):=by
 rw[TH,cA];refine XF λv n _=> ?_
 induction d with
 |nil=>rfl
 |cons x d ih=>
  have ih:=ih λy hy=>h y (Aac _ hy)
  have hx:=zbh (h x (Aaa ..)) n;rw[Abr,ih,Aaq,atC,atC,Abb,zdp,hx]
  by_cases e:x.var=(v:Int)
  ·rw[As e,Aaf e.symm];cases holdsL x n<;>rfl
  ·rw[An e,Aao λx=>e x.symm];rfl
structure wJ (m:zE)(l:AcS)(d:AcR):Prop where
 chk:yY m=0
 len:l.length<=600
 cl:∀c∈l,xD m.vars.length c=0
 dl:d.length<=40
 dr:∀x∈d,eS m.vars.length x=0
 turn:∀x∈d,eS m.vars.length (gB x)=0
theorem wJ.mc{m:zE}{l:AcS}{d:AcR}(h:wJ m l d):yL m l:=nB h.chk h.cl
theorem wJ.ops{m:zE}{l:AcS}{d:AcR}(h:wJ m l d):∀x∈d,1<=x.op/\x.op<=4:=λx hx=>(kV.1 (h.dr x hx)).2.1
theorem wJ.sub{m:zE}{l:AcS}{d d':AcR}(h:wJ m l d)(hs:d'.Sublist d):wJ m l d':=⟨h.chk,h.len,h.cl,Aan hs.length_le h.dl,λx hx=>h.dr x (hs.subset hx),λx hx=>h.turn x (hs.subset hx)⟩
theorem SG{m:zE}{l:AcS}{d:AcR}:(fewest m l d).Sublist d:=KX ..
theorem K0{m:zE}{l:AcS}{d:AcR}(h:qP m l d=true):qP m l (fewest m l d)=true:=OD _ _ _ _ h
theorem zbF{m:zE}{l:AcS}{d:AcR}(h:wJ m l d):xD m.vars.length (d.map gB)=0:=Lf (by rw[Aae];exact h.dl) λx hx=>by
 obtain⟨y,hy,rfl⟩:=OF.1 hx;exact h.turn y hy
theorem wJ.near{m:zE}{l:AcS}{d:AcR}(h:wJ m l d):∀x∈d,-1000000<=x.n/\x.n<=1000000:=λx hx=>by have:=kV.1 (h.dr x hx);omega
end Go.Proofs.YtdnmkinmcdihnaaGreatDoor
namespace Go.Proofs.YtdnmkinmcdihnaaGreatDoor
open Go.Proofs.Tryz
open Go.RowKit
variable[Lo]
theorem zdG{m:zE}(hr:Right m)(d:AcR):vL jI [dM m,.sl .lit d] (dS (eG m d)):=
 zai m d λok=>by
  have hl:=(fk (t:=.lit) (Qm (okR ok))).1;have hl:d.length*24<=140737488355328:=hl;rw[zdF];refine zG (KT hr) ?_;refine up (I:=λn v a=>Ws d _ n a v) 0 d.length rfl (Is _) (by omega) (λk a=>a=(d.take k).foldl AZ (xY m)) rfl λn k a _ hk ha hn=> ?_
  subst ha;rw[FP]
  by_cases h:k<d.length
  ·rw[yD h,yA (t:=.lit) h]
   refine⟨zI h,zG (zhv _ _) (hn h _ ?_)⟩;rw[<-Aay h,Abg];rfl
  ·have hk':k=d.length:=by omega
   subst hk';rw[zY,Aam];rfl
theorem Pv{m:zE}{l:AcS}{d:AcR}(hl:yL m l)(hll:l.length<=1000000000):vL cW [dM m,.sl (.list .lit) l,.sl .lit d] (dB (qP m l d)):=
 FO m l d λok=>by
  rw[Bn];exact zG (zdG hl.right d) (zG (Va hl (zoX hl.right) hll) (zG (xB _) rfl))
theorem FR{d:AcR}(hd:d.length<=1000000)(h:∀x∈d,-1000000<=x.n/\x.n<=1000000):vL qX [.sl .lit d] (.sl .lit (d.map gB)):=
 Hm d λok=>by
  rw[FN];refine up (I:=λn v a=>bV d _ n v a) 0 d.length rfl (Is _) (by omega) (λk a=>a=(d.take k).map gB) rfl λn k a _ hk ha hn=> ?_
  subst ha;rw[Lg]
  by_cases hk2:k<d.length
  ·rw[yD hk2,yA (t:=.lit) hk2]
   refine⟨zI hk2,zG (Rw _ (h _ (AT hk2))) ⟨xC (t:=.lit) ?_,hn hk2 _ ?_⟩⟩
   ·rw[Aae,Aak];show(_+1)*24<=_;omega
   ·rw[<-Aay hk2,AaV];rfl
  ·have hk':k=d.length:=by omega
   subst hk';rw[zY,Aam]
theorem FT{m:zE}{l:AcS}{d:AcR}(hl:yL m l)(hll:l.length<=1000000000)(hd:d.length<=1000000):vL Zy [dM m,.sl (.list .lit) l,.sl .lit d] (.tup [.sl .lit (if qP m l d=true then fewest m l d else[]),dB (qP m l d)]):=
 Hl m l d λok=>by
  rw[FM];refine zG (Pv hl hll) (zC (λe=> ?_) λe=> ?_)
  ·have e:qP m l d=false:=by simpa using e
   rw[e];rfl
  have e:qP m l d=true:=by simpa using e
  rw[As e,e];refine⟨d,zhY d,?_⟩;rw[fewest,zdD]
  suffices H:∀(k:Nat) (l':AcR) (i:Nat),l'.length<=k+i->i<=l'.length->l'.length<=1000000->∀r,r=SF (qP m l) k l' i->gF m l (λd=>d=.tup [.sl .lit r,dB true]) (k+1) l' (i:Int)from⟨_,H d.length d 0 (IN _) (Is _) hd _ rfl⟩
  intro k
  induction k with
  |zero=>
   intro l' i h1 h2 h3 r hr;have hi:i=l'.length:=by omega
   subst hi;rw[Ve,zY,hr,SF]
  |succ k ih=>
   intro l' i h1 h2 h3 r hr;rw[Ve]
   by_cases h:i<l'.length
   ·have hw:yU ((i:Int)+1)=((i+1:Nat):Int):=cH (by omega)
    rw[SF,As h]at hr
    have hel:(l'.eraseIdx i).length=l'.length-1:=AcK h;rw[yD h,hw,Aap,Aap,Aap,Abv,Aam]
    have hcat:=KZ (ls:=[l'.take i,l'.drop (i+1)]) (by show 2<=1000;decide) λx hx=>by
     rcases Aad.1 hx with rfl|hx
     ·rw[Aak];omega
     ·rw[Aab.1 hx,Abm];omega
    have he:[l'.take i,l'.drop (i+1)].flatten=l'.eraseIdx i:=by rw[List.eraseIdx_eq_take_drop_succ];simp
    rw[he]at hcat
    refine⟨EA (AaK _) (by omega) (by omega),EA (by omega) (by omega) (AaK _),zG hcat ?_⟩
    refine zG (Pv hl hll) (zC (λe=> ?_) λe=> ?_)
    ·rw[As e]at hr
     exact ih _ i (by omega) (by omega) (by omega) r hr
    ·rw[An (by rw[e];decide)]at hr
     exact ih l' (i+1) (by omega) (by omega) h3 r hr
   ·have hi:i=l'.length:=by omega
    subst hi;rw[SF,An (Nat.lt_irrefl _)]at hr
    rw[zY,hr]
end Go.Proofs.YtdnmkinmcdihnaaGreatDoor
namespace Go.Proofs.YtdnmkinmcdihnaaGreatDoor
open Go.Proofs.Tryz
open Go.RowKit
variable[Lo]
theorem K1{m:zE}{con:Int}{s:AcQ}{must r:AcR}(h:TG m con s must r)(hp:0<m.vars.length)(hcl:xD m.vars.length (must++r)=0)
  {u:AcQ} (hu:fJ u s) (hf:zZ u=false) (hlen:u.length=m.vars.length) (hst:cB u (must++r)=u) {v:Nat} {n:Int} (hn:n∈u.getD v []):∃us,VH us u/\us.getD v 0=n/\fa must us=true:=by
 have hl:=(Ss hcl).2;have hv:∀x∈must++r,0<=x.var/\x.var<(m.vars.length:Int):=λx hx=>(kV.1 (hl x hx)).1
 have op:=zkM (c:=must++r) (nv:=m.vars.length) hv hp;obtain⟨us,h1,h2,h3⟩:=XE.congr (Q':=λ_=>true) (vs:=[]) op hlen hst hf v n hn
 refine⟨us,h1,h2,?_⟩;obtain⟨x,hx,hh⟩:=iB.1 h3;rcases Aai.1 hx with hm|hm
 ·exact iB.2 ⟨x,hm,hh⟩
 ·have ht:=(h.told x hm).2.1
  have hb:=hv x hx;have hin:=(hu.2 x.var.toNat).subset (h1.2 x.var.toNat (by omega))
  have:=M6.2 ⟨_,hin,hh⟩;omega
def sE(l:AcW):AcS:=l.map λst=>st.clause
noncomputable def R7 (m:zE)(l:AcS)(d:AcR)(steps:AcW):AcQ:=tH m false (l++sE steps) (eG m d)
structure Vf (m:zE)(st:zR):Prop where
 kind:st.kind=1
 con:0<=st.con/\st.con<(m.cons.length:Int)
 by':mO m st.con st.clause=true
 cl:xD m.vars.length st.clause=0
section
variable {m:zE}{l:AcS}{d:AcR}{steps more:AcW}{s x:AcQ}
theorem oP:sE (steps++more)=sE steps++sE more:=AaV
theorem fx:(eG m d).length=m.vars.length:=Up.1.trans wC
theorem zh0(h:wJ m l d)(hs:∀st∈steps,Vf m st):yL m (l++sE steps):=nB h.chk λc hc=>by
 rcases Aai.1 hc with hc|hc
 ·exact h.cl c hc
 ·obtain⟨st,h1,rfl⟩:=OF.1 hc
  exact(hs st h1).cl
theorem Pw(h:wJ m l d)(hs:∀st∈steps,Vf m st):VI (qR m false (l++sE steps)) (eG m d) (R7 m l d steps):=gQ (zh0 h hs) fx
theorem zkV(h:wJ m l d)(hs:∀st∈steps,Vf m st):(R7 m l d steps).length=m.vars.length:=(Pw h hs).le.1.trans fx
theorem Bo(h:wJ m l d)(hs:∀st∈steps,Vf m st)(hf:zZ (R7 m l d steps)=false){c:AcR}(hc:c∈l++sE steps):cB (R7 m l d steps) c=R7 m l d steps:=by
 rcases(Pw h hs).out with⟨_,h2⟩|h2
 ·exact h2 (λs=>cB s c) (qM.2 (.inr ⟨c,hc,rfl⟩))
 ·rw[h2,lY (by rw[fx];exact(zh0 h hs).pos)]at hf;cases hf
theorem zfU(h:wJ m l d)(h1:∀st∈steps,Vf m st)(h2:∀st∈steps++more,Vf m st):fJ (R7 m l d (steps++more)) (R7 m l d steps):=
 (Pw h h2).mono (by rw[fx];exact(zh0 h h1).pos) (Pw h h1) (fJ.refl _) λop ho=>by
  rcases qM.1 ho with⟨hc,_⟩|⟨c,hc,rfl⟩
  ·cases hc
  ·refine qM.2 (.inr ⟨c,?_,rfl⟩)
   rw[oP];rcases Aai.1 hc with hc|hc
   ·exact AaH _ hc
   ·exact AaU _ (AaH _ hc)
def Sim(m:zE)(l:AcS)(d:AcR)(steps:AcW)(s:AcQ):Prop:=zZ (R7 m l d steps)=true\/fJ (R7 m l d steps) s
theorem Sim.grow(hs:Sim m l d steps s)(h:wJ m l d)(h1:∀st∈steps,Vf m st)(h2:∀st∈steps++more,Vf m st):Sim m l d (steps++more) s:=by
 rcases hs with hs|hs
 ·exact .inl ((zfU h h1 h2).failed hs)
 ·exact .inr ((zfU h h1 h2).trans hs)
theorem GI{i:Int}{v:Nat}{n:Int}(hat:Wm m i=0)(hl:s.length=m.vars.length)(hle:fJ s (xY m))(hg:Um m i s v n=true):(v<m.vars.length/\n∈s.getD v [])/\∃r,Un m i s v n=[⟨v,4,n⟩]++r/\TG m i s [⟨v,4,n⟩] r/\xD m.vars.length ([⟨v,4,n⟩]++r)=0:=by
 have hg':=hg;rw[Um,If,If,Aap]at hg'
 obtain⟨a,b,c⟩:=hg';have a:zZ s=false:=by simpa using a
 have b:=pE.1 b;have c:n∉(yP (yV m i) s).getD v []:=λh=>by rw[pE.2 h]at c;cases c
 have hv:v<s.length:=Classical.byContradiction λh=>by rw[qK (by omega)]at b;cases b
 have hr:=zbE (must:=[⟨v,4,n⟩]) hat (zdE hat hl a hv b c);refine⟨⟨by omega,b⟩,_,?_,hr,hr.clause (IN 1) λx hx=> ?_⟩
 ·rw[Un,As hg];rfl
 ·rw[Aab.1 hx]
  exact KY (nD hat).1 (show 0<=(v:Int)/\(v:Int)<_ by omega) (show 1<=(4:Int)/\(4:Int)<=4 by decide) (by
   show n∈(xY m).getD ((v:Int).toNat) []
   rw[Aap];exact(hle.2 v).subset b)
theorem zmA{i:Int}{v:Nat}{n:Int}(hat:Wm m i=0)(hl:s.length=m.vars.length)(hle:fJ s (xY m))(hg:Um m i s v n=true):Vf m ⟨1,i,Un m i s v n⟩:=by
 obtain⟨_,r,e,hr,hc⟩:=GI hat hl hle hg;have hi:=(nD hat).2;exact⟨rfl,hi,by show mO m i (Un m i s v n)=true;rw[e];exact hr.says,by show xD _ (Un m i s v n)=0;rw[e];exact hc⟩
theorem K2{i:Int}(hat:Wm m i=0)(hl:s.length=m.vars.length)(hf:zZ s=false)(hg:zZ (yP (yV m i) s)=true):∃r,fc m i s=[]++r/\TG m i s [] r/\xD m.vars.length ([]++r)=0:=by
 have hr:=zbE (must:=[]) hat (zfS hat hl hf hg);refine⟨_,?_,hr,hr.clause (Is _) λx hx=>(by cases hx)⟩
 have hb:Pt m i s=true:=by rw[Pt,hf,hg];rfl
 rw[fc,As hb];rfl
theorem zh1{i:Int}(hat:Wm m i=0)(hl:s.length=m.vars.length)(hf:zZ s=false)(hg:zZ (yP (yV m i) s)=true):Vf m ⟨1,i,fc m i s⟩:=by
 obtain⟨r,e,hr,hc⟩:=K2 hat hl hf hg;have hi:=(nD hat).2;exact⟨rfl,hi,by show mO m i (fc m i s)=true;rw[e];exact hr.says,by show xD _ (fc m i s)=0;rw[e];exact hc⟩
noncomputable def XK (m:zE)(i:Int)(s:AcQ)(v:Nat)(n:Int):zR:=⟨1,i,Un m i s v n⟩
noncomputable def K3 (m:zE)(i:Int)(s x:AcQ)(v:Nat):AcW:=((s.getD v []).filter λn=> !mE (x.getD v []) n).map (XK m i s v)
noncomputable def vA (m:zE)(i:Int)(s x:AcQ)(k:Nat):AcW:=(List.range k).flatMap (K3 m i s x)
theorem UH{i:Int}{k:Nat}:vA m i s x (k+1)=vA m i s x k++K3 m i s x k:=by
 rw[vA,List.range_succ,Acj];simp[vA]
theorem Wt{i:Int}{k:Nat}{st:zR}:st∈vA m i s x k↔∃v n,v<k/\n∈s.getD v []/\n∉x.getD v []/\st=XK m i s v n:=by
 rw[vA,AcC];constructor
 ·rintro⟨v,hv,h⟩
  obtain⟨n,h1,h2⟩:=OF.1 h;obtain⟨h3,h4⟩:=Aax.1 h1;exact⟨v,n,Aa3.1 hv,h3,(λe=>by rw[pE.2 e]at h4;cases h4),h2.symm⟩
 ·rintro⟨v,n,h1,h2,h3,rfl⟩
  refine⟨v,Aa3.2 h1,OF.2 ⟨n,Aax.2 ⟨h2,?_⟩,rfl⟩⟩;cases e:mE (x.getD v []) n
  ·rfl
  ·exact At (pE.1 e) h3
theorem zoZ{a b:AcP}(h:a.Sublist b):(b.filter λn=> !mE a n).length+a.length<=b.length:=by
 have h1:=Kh (p:=mE a) (r:=b);have h2:(a.filter (mE a))=a:=Acf.2 λn hn=>pE.2 hn
 have h3:=(h.filter (mE a)).length_le;rw[h2]at h3
 omega
theorem Hn{a:AcQ}{k:Nat}(h:k<a.length):wI (a.take (k+1))=wI (a.take k)+a[k].length:=by
 have:=AS wI (Aay h);rw[<-this,wI,AaV,List.sum_append];simp[wI]
theorem zaj{i:Int}(h:fJ x s):∀k,k<=s.length->(vA m i s x k).length+wI (x.take k)<=wI (s.take k):=by
 intro k
 induction k with
 |zero=>intro _;exact IN _
 |succ k ih=>
  intro hk;have ih:=ih (by omega)
  have hx:k<x.length:=by rw[h.1];omega
  have e1:wI (x.take (k+1))=wI (x.take k)+(x.getD k []).length:=by rw[yO _ hx,Hn hx]
  have e2:wI (s.take (k+1))=wI (s.take k)+(s.getD k []).length:=by rw[yO _ hk,Hn hk]
  have:=zoZ (h.2 k);rw[UH,It,e1,e2,K3,Aae];omega
structure Tr (m:zE)(l:AcS)(d:AcR)(steps:AcW)(s:AcQ):Prop where
 reach:tL (qR m true l) (eG m d) s
 sim:Sim m l d steps s
 ok:∀st∈steps,Vf m st
 size:steps.length+wI s<=36
 size2:steps.length+wI s<=wI (xY m)
theorem Tr.len(h:Tr m l d steps s):s.length=m.vars.length:=h.reach.le.1.trans fx
theorem Tr.le(h:Tr m l d steps s):fJ s (xY m):=h.reach.le.trans Up
theorem Tr.store(h:Tr m l d steps s):gZ m s=0:=TA Zb h.le
theorem Tr.filtR(h:Tr m l d steps s)(hk:wJ m l d){i:Int}(hi:0<=i/\i<(m.cons.length:Int)):zkQ m i s:=by
 refine zoT (zrm ?_ hi);rw[zfl (by rw[hk.chk];decide),Ck];exact h.store
theorem zbG(hr:Right m):wI (xY m)<=36:=by
 have h1:∀k,k<=m.vars.length->wI ((xY m).take k)<=k*6:=by
  intro k
  induction k with
  |zero=>intro _;exact IN _
  |succ k ih=>
   intro hk;have hx:k<(xY m).length:=by rw[wC];exact hk
   have:=ih (by omega)
   have h6:=TF hr k;rw[yO _ hx]at h6
   have e1:wI ((xY m).take (k+1))=wI ((xY m).take k)+((xY m)[k]).length:=Hn hx;omega
 have h2:=h1 _ (IN _);rw[AaJ (by rw[wC];exact IN _)]at h2
 have:=hr.vars;omega
theorem Tr.begin(h:wJ m l d):Tr m l d [] (eG m d):=
 ⟨tL.refl _ _,.inr (Pw h λ_ hx=>(by cases hx)).le,λ_ hx=>(by cases hx),by
  have:=(Up (m:=m) (d:=d)).size;have:=zbG h.mc.right;show 0+_<=_
  omega,by
  have:=(Up (m:=m) (d:=d)).size;show 0+_<=_
  omega⟩
theorem zkW{i:Int}(hat:Wm m i=0):yV m i∈m.cons:=by
 have h:=(nD hat).2;have hi:i.toNat<m.cons.length:=by omega
 rw[yV,yO _ hi];exact AT hi
theorem Bp(hp:0<s.length)(hf:zZ s=false):0<wI s:=by
 have:=tK.1 hf 0 hp;cases s with
 |nil=>cases hp
 |cons a s=>
  have:a≠[]:=this;have:0<a.length:=Abh.2 this;show 0<a.length+_
  omega
theorem Ho:wI (jJ s)=0:=by
 rw[jJ,wI,List.map_replicate,List.sum_replicate_nat];rfl
theorem tL.none{ops:List Op}{s0 r t:AcQ}(h:tL ops s0 r)(hf:zZ r=true)(hl:t.length=s0.length):tL ops s0 (jJ t):=
 ⟨Tn hl,λt h1 h2 h3=>by have:=(h.all t h1 h2 h3).fail h2;rw[hf]at this;cases this⟩
theorem Tr.empty(h:Tr m l d steps s)(hk:wJ m l d){i:Int}(hat:Wm m i=0)(hf:zZ s=false)(hg:zZ (yP (yV m i) s)=true):
  Tr m l d (steps++[⟨1,i,fc m i s⟩]) (jJ s)/\wI (jJ s)<wI s:=by
 have hp:0<s.length:=by rw[h.len];exact hk.mc.pos
 have hpos:=Bp hp hf
 have hok:∀st∈steps++[⟨1,i,fc m i s⟩],Vf m st:=λst hs=>by
  rcases Aai.1 hs with hs|hs
  ·exact h.ok st hs
  ·rw[Aab.1 hs];exact zh1 hat h.len hf hg
 have hs:=h.sim.grow hk h.ok hok;refine⟨⟨?_,?_,hok,?_,?_⟩,by rw[Ho];exact hpos⟩
 ·refine tL.none (r:=yP (yV m i) s) ?_ hg (h.len.trans fx.symm)
  exact h.reach.step (SC hk.mc) fx (qM.2 (.inl ⟨rfl,_,zkW hat,rfl⟩))
 ·refine .inl ?_
  rcases hs with hs|hs
  ·exact hs
  ·cases hu:zZ (R7 m l d (steps++[⟨1,i,fc m i s⟩]))
   ·obtain⟨r,e,hr,hc⟩:=K2 hat h.len hf hg
    have hl:=zkV hk hok;have hst:=Bo hk hok hu (c:=fc m i s) (by rw[oP];exact AaU _ (AaU _ (Aab.2 rfl)))
    have hst:cB (R7 m l d (steps++[⟨1,i,fc m i s⟩])) ([]++r)=R7 m l d (steps++[⟨1,i,fc m i s⟩]):=by rw[<-e];exact hst
    have h0:=tK.1 hu 0 (by rw[hl];exact hk.mc.pos)
    obtain⟨n,hn⟩:=Aci _ h0;obtain⟨us,_,_,h3⟩:=K1 hr hk.mc.pos hc hs hu hl hst hn;cases h3
   ·rfl
 ·have:=h.size
  rw[It,Ho,Aa0];omega
 ·have:=h.size2
  rw[It,Ho,Aa0];omega
theorem Tr.con(h:Tr m l d steps s)(hk:wJ m l d){i:Int}(hat:Wm m i=0)(hf:zZ s=false)(hg:zZ (yP (yV m i) s)=false):
  Tr m l d (steps++vA m i s (yP (yV m i) s) s.length) (yP (yV m i) s)/\(vA m i s (yP (yV m i) s) s.length=[]->yP (yV m i) s=s)/\(vA m i s (yP (yV m i) s) s.length≠[]->wI (yP (yV m i) s)<wI s):=by
 have hop:=(h.filtR hk (nD hat).2).op;have hle:=hop.le h.len;have hk':yP (yV m i) s=rI (mayB (wO (yV m i)) s) s:=hop.some s h.len hf ((hop.nofail h.len).1 hg)
 have hgone:∀v n,n∈s.getD v []->n∉(yP (yV m i) s).getD v []->Um m i s v n=true:=λv n h1 h2=>by
  rw[Um,Aap,hf,pE.2 h1];cases e:mE ((yP (yV m i) s).getD v []) n
  ·rfl
  ·exact At (pE.1 e) h2
 have hok:∀st∈steps++vA m i s (yP (yV m i) s) s.length,Vf m st:=λst hs=>by
  rcases Aai.1 hs with hs|hs
  ·exact h.ok st hs
  ·obtain⟨v,n,h1,h2,h3,rfl⟩:=Wt.1 hs
   exact zmA hat h.len h.le (hgone v n h2 h3)
 have hs:=h.sim.grow hk h.ok hok;have hsz:=zaj (m:=m) (i:=i) hle s.length (IN _);rw[Aam,AaJ (by rw[hle.1];exact IN _)]at hsz
 refine⟨⟨?_,?_,hok,?_,?_⟩,λe=> ?_,λe=> ?_⟩
 ·exact h.reach.step (SC hk.mc) fx (qM.2 (.inl ⟨rfl,_,zkW hat,rfl⟩))
 ·rcases hs with hs|hs
  ·exact .inl hs
  ·cases hu:zZ (R7 m l d (steps++vA m i s (yP (yV m i) s) s.length))
   ·refine .inr ?_
    have hl:=zkV hk hok
    have hall:∀(v:Nat) (n:Int),n∈(R7 m l d (steps++vA m i s (yP (yV m i) s) s.length)).getD v []->mayB (wO (yV m i)) s v n=true:=λv n hn=>by
     have hns:=(hs.2 v).subset hn;cases hm:mayB (wO (yV m i)) s v n
     ·have hn2:n∉(yP (yV m i) s).getD v []:=λe=>by
       rw[hk',uZ]at e
       rw[(Aax.1 e).2]at hm;cases hm
      have hg:=hgone v n hns hn2;obtain⟨⟨hv,_⟩,r,e,hr,hc⟩:=GI hat h.len h.le hg
      have hst:=Bo hk hok hu (c:=Un m i s v n) (by
       rw[oP];refine AaU _ (AaU _ (OF.2 ⟨XK m i s v n,Wt.2 ⟨v,n,by rw[h.len];exact hv,hns,hn2,rfl⟩,rfl⟩)))
      have hst:cB (R7 m l d (steps++vA m i s (yP (yV m i) s) s.length)) ([⟨v,4,n⟩]++r)=R7 m l d (steps++vA m i s (yP (yV m i) s) s.length):=by rw[<-e];exact hst
      obtain⟨us,_,h2,h3⟩:=K1 hr hk.mc.pos hc hs hu hl hst hn;obtain⟨x,hx,hh⟩:=iB.1 h3;rw[Aab.1 hx]at hh
      have h2':us.getD ((v:Int).toNat) 0=n:=by rw[Aap];exact h2
      simp[holdsL,h2']at hh
      exact At (by simpa using h2) hh
     ·rfl
    have h2:=W5 (f:=mayB (wO (yV m i)) s) (g:=mayB (wO (yV m i)) s) hs λv n hn e=>e
    rw[aX hall,<-hk']at h2
    exact h2
   ·exact .inl hu
 ·have:=h.size
  rw[It];omega
 ·have:=h.size2
  rw[It];omega
 ·have:∀(v:Nat) (n:Int),n∈s.getD v []->mayB (wO (yV m i)) s v n=true:=λv n hn=>by
   cases hm:mayB (wO (yV m i)) s v n
   ·have hn2:n∉(yP (yV m i) s).getD v []:=λe=>by
     rw[hk',uZ]at e
     rw[(Aax.1 e).2]at hm;cases hm
    have hv:v<s.length:=Classical.byContradiction λh=>by rw[qK (by omega)]at hn;cases hn
    have:=(Wt (m:=m) (i:=i)).2 ⟨v,n,hv,hn,hn2,rfl⟩;rw[e]at this;cases this
   ·rfl
  rw[hk',aX this]
 ·have:0<(vA m i s (yP (yV m i) s) s.length).length:=Abh.2 e
  omega
theorem Tr.units(h:Tr m l d steps s)(hk:wJ m l d):Tr m l d steps (tH m false l s)/\fJ (tH m false l s) s:=by
 have hr:=gQ (cons:=false) hk.mc h.len
 have hsub:∀op∈qR m false l,op∈qR m true l:=λop ho=>by
  rcases qM.1 ho with⟨hc,_⟩|hc
  ·cases hc
  ·exact qM.2 (.inr hc)
 refine⟨⟨⟨hr.le.trans h.reach.le,λt h1 h2 h3=>hr.all t (h.reach.all t h1 h2 h3) h2 λop ho=>h3 op (hsub op ho)⟩,?_,h.ok,?_,?_⟩,hr.le⟩
 ·rcases h.sim with hs|hs
  ·exact .inl hs
  ·cases hu:zZ (R7 m l d steps)
   ·refine .inr (hr.all _ hs hu λop ho=> ?_)
    rcases qM.1 ho with⟨hc,_⟩|⟨c,hc,rfl⟩
    ·cases hc
    ·exact Bo hk h.ok hu (AaH _ hc)
   ·exact .inl hu
 ·have:=h.size
  have:=hr.le.size;omega
 ·have:=h.size2
  have:=hr.le.size;omega
theorem Tr.done(h:Tr m l d steps s)(hk:wJ m l d)(hf:qP m l d=true)(he:zZ s=true\/Nu (qR m true l) s):zZ (R7 m l d steps)=true:=by
 have hs:zZ s=true:=by
  cases e:zZ s
  ·rcases he with he|he
   ·rw[e]at he;cases he
   ·have:=Ui hk.mc fx (h.reach.stop e he)
    rw[qP,this,e]at hf;cases hf
  ·rfl
 rcases h.sim with h1|h1
 ·exact h1
 ·exact h1.failed hs
end
def GJ(d:AcR):zR:=⟨2,0,d.map gB⟩
theorem SH{m:zE}:∀(a b:AcW) (all:AcS),qO m all (a++b)=(qO m all a&&qO m (all++sE a) b)
 |[],b,all=>by
  show qO m all b=(qO m all []&&qO m (all++[]) b)
  rw[Aa2];rfl
 |x::a,b,all=>by
  rw[AbT,qO,SH a b,qO,Bool.and_assoc,AaG];rfl
theorem Bq{m:zE}:∀(a:AcW) (all:AcS),(∀st∈a,Vf m st)->qO m all a=true
 |[],all,_=>rfl
 |x::a,all,h=>by
  have hx:=h x (Aaa ..);rw[qO,Bq a _ λst hs=>h st (Aac _ hs),XI,As hx.kind,hx.by'];rfl
structure zdH (m:zE)(l:AcS)(d:AcR)(t:AcW):Prop where
 right:qO m l t=true
 len:0<t.length/\t.length<=37
 len2:t.length<=wI (xY m)+1
 cl:∀st∈t,xD m.vars.length st.clause=0
 con:∀st∈t,st.kind=1->0<=st.con/\st.con<(m.cons.length:Int)
 last:(t.getD (t.length-1) ⟨0,0,[]⟩).clause=d.map gB
theorem Tr.trace{m:zE}{l:AcS}{d:AcR}{steps:AcW}{s:AcQ}(h:Tr m l d steps s)(hk:wJ m l d)(hf:qP m l d=true)(he:zZ s=true\/Nu (qR m true l) s):zdH m l d (steps++[GJ d]):=by
 refine⟨?_,?_,?_,λst hs=> ?_,λst hs e=> ?_,?_⟩
 ·rw[SH,Bq _ _ h.ok,Abf]
  show(XI m (l++sE steps) (GJ d)&&true)=true
  rw[AbI];show(decide ((0:Int)=0)&&Vb m (l++sE steps) (d.map gB))=true
  rw[Vb,<-zoY hk.ops];exact h.done hk hf he
 ·have:=h.size
  rw[It,Aa0];omega
 ·have:=h.size2
  rw[It,Aa0];omega
 ·rcases Aai.1 hs with hs|hs
  ·exact(h.ok st hs).cl
  ·rw[Aab.1 hs];exact zbF hk
 ·rcases Aai.1 hs with hs|hs
  ·exact(h.ok st hs).con
  ·rw[Aab.1 hs]at e;cases e
 ·rw[It,Aa0,Nat.add_sub_cancel,yO _ (show steps.length<(steps++[GJ d]).length by rw[It,Aa0];omega),List.getElem_append_right (IN _)]
  simp[GJ]
theorem zdH.steps{m:zE}{l:AcS}{d:AcR}{t:AcW}(h:zdH m l d t)(hk:wJ m l d):zdB m l t:=⟨hk.chk,hk.len,by have:=h.len;omega,hk.cl,h.cl,h.con⟩
theorem Uq{α:Type}{f:Nat->α->Int}:∀ {xs:List α} {i:Nat},(∀j,∀x∈xs,f j x=0)->wM f i xs=0
 |[],_,_=>rfl
 |x::xs,i,h=>by rw[wM,As (h i x (Aaa ..)),Uq λj y hy=>h j y (Aac _ hy)]
abbrev Br:Type:=AcW×AcQ
noncomputable def Vg (m:zE)(i:Int)(p:Br):Br×Bool:=if zZ (yP (yV m i) p.2)=true then((p.1++[⟨1,i,fc m i p.2⟩],jJ p.2),true)
 else((p.1++vA m i p.2 (yP (yV m i) p.2) p.2.length,yP (yV m i) p.2),!(vA m i p.2 (yP (yV m i) p.2) p.2.length).isEmpty)
noncomputable def fy (m:zE):Nat->Nat->Br->Bool->Br×Bool
 |0,_,p,c=>(p,c)
 |k+1,i,p,c=>if zZ p.2=true then(p,c)else fy m k (i+1) (Vg m i p).1 ((Vg m i p).2||c)
noncomputable def iE (m:zE)(l:AcS)(p:Br):Br×Bool:=
 (((fy m m.cons.length 0 p false).1.1,tH m false l (fy m m.cons.length 0 p false).1.2),if tH m false l (fy m m.cons.length 0 p false).1.2=(fy m m.cons.length 0 p false).1.2 then(fy m m.cons.length 0 p false).2 else true)
noncomputable def Nz (m:zE)(l:AcS):Nat->Br->Br
 |0,p=>p
 |k+1,p=>if zZ p.2=true then p else if(iE m l p).2=true then Nz m l k (iE m l p).1 else(iE m l p).1
noncomputable def cL (m:zE)(l:AcS)(d:AcR):AcW:=(Nz m l 37 ([],eG m d)).1++[GJ d]
section
variable {m:zE}{l:AcS}{d:AcR}
theorem zo0(h:wJ m l d){i:Nat}(hi:i<m.cons.length):Wm m i=0:=Ld h.chk (by omega)
theorem Hp{p:Br}(h:Tr m l d p.1 p.2)(hk:wJ m l d){i:Nat}(hi:i<m.cons.length)(hf:zZ p.2=false):
  Tr m l d (Vg m i p).1.1 (Vg m i p).1.2/\((Vg m i p).2=true->wI (Vg m i p).1.2<wI p.2)/\((Vg m i p).2=false->(Vg m i p).1.2=p.2/\yP (yV m i) p.2=p.2):=by
 have hat:=zo0 hk hi;cases hg:zZ (yP (yV m i) p.2)
 ·obtain⟨h1,h2,h3⟩:=h.con hk hat hf hg
  have e:Vg m i p=((p.1++vA m i p.2 (yP (yV m i) p.2) p.2.length,yP (yV m i) p.2),!(vA m i p.2 (yP (yV m i) p.2) p.2.length).isEmpty):=by
   rw[Vg,An (by rw[hg];decide)]
  rw[e];refine⟨h1,λx=>h3 λe=> ?_,λx=> ?_⟩
  ·rw[e]at x;cases x
  ·have:=h2 (List.isEmpty_iff.1 (by simpa using x))
   exact⟨this,this⟩
 ·obtain⟨h1,h2⟩:=h.empty hk hat hf hg
  have e:Vg m i p=((p.1++[⟨1,i,fc m i p.2⟩],jJ p.2),true):=by rw[Vg,As hg]
  rw[e];exact⟨h1,λ_=>h2,λx=>by cases x⟩
theorem Lh(hk:wJ m l d):∀(k i:Nat) (p:Br) (c:Bool),i+k=m.cons.length->Tr m l d p.1 p.2->
  Tr m l d (fy m k i p c).1.1 (fy m k i p c).1.2/\wI (fy m k i p c).1.2<=wI p.2/\((fy m k i p c).2=true->c=true\/wI (fy m k i p c).1.2<wI p.2)/\
   ((fy m k i p c).2=false->c=false/\(fy m k i p c).1.2=p.2/\(zZ p.2=true\/∀j,i<=j->j<m.cons.length->yP (yV m j) p.2=p.2))
 |0,i,p,c,hi,h=>⟨h,IN _,λe=> .inl e,λe=>⟨e,rfl,.inr λj h1 h2=>by omega⟩⟩
 |k+1,i,p,c,hi,h=>by
  cases hf:zZ p.2
  ·obtain⟨h1,h2,h3⟩:=Hp h hk (i:=i) (by omega) hf
   obtain⟨i1,i2,i3,i4⟩:=Lh hk k (i+1) (Vg m i p).1 ((Vg m i p).2||c) (by omega) h1
   rw[fy,An (by rw[hf];decide)]
   have hle:wI (Vg m i p).1.2<=wI p.2:=by
    cases e:(Vg m i p).2
    ·rw[(h3 e).1];exact IN _
    ·exact Nat.le_of_lt (h2 e)
   refine⟨i1,Aan i2 hle,λe=> ?_,λe=> ?_⟩
   ·rcases i3 e with e|e
    ·rcases AaY _ _▸e with e|e
     ·exact .inr (Nat.lt_of_le_of_lt i2 (h2 e))
     ·exact .inl e
    ·exact .inr (Aaz e hle)
   ·obtain⟨a,b,g⟩:=i4 e
    rw[AbG]at a
    obtain⟨e1,e2⟩:=h3 a.1;rw[e1]at b g
    refine⟨a.2,b,.inr λj q1 q2=> ?_⟩
    by_cases hj:j=i
    ·rw[hj];exact e2
    ·rcases g with g|g
     ·rw[hf]at g;cases g
     ·exact g j (by omega) q2
  ·rw[fy,As hf]
   exact⟨h,IN _,λe=> .inl e,λe=>⟨e,rfl,.inl rfl⟩⟩
theorem Px{p:Br}(h:Tr m l d p.1 p.2)(hk:wJ m l d)(hf:zZ p.2=false):
  Tr m l d (iE m l p).1.1 (iE m l p).1.2/\((iE m l p).2=true->wI (iE m l p).1.2<wI p.2)/\((iE m l p).2=false->Nu (qR m true l) (iE m l p).1.2):=by
 obtain⟨i1,i2,i3,i4⟩:=Lh hk m.cons.length 0 p false (Aat _) h;obtain⟨j1,j2⟩:=i1.units hk;rw[iE];generalize fy m m.cons.length 0 p false=r at i1 i2 i3 i4 j1 j2⊢
 refine⟨j1,λe=> ?_,λe=> ?_⟩
 ·by_cases hx:tH m false l r.1.2=r.1.2
  ·have e:r.2=true:=by simpa[hx]using e
   show wI (tH m false l r.1.2)<_
   rw[hx];rcases i3 e with e|e
   ·cases e
   ·exact e
  ·exact Aaz (j2.size_lt hx) i2
 ·by_cases hx:tH m false l r.1.2=r.1.2
  ·have e:r.2=false:=by simpa[hx]using e
   obtain⟨_,b,g⟩:=i4 e;show Nu _ (tH m false l r.1.2)
   rw[hx,b];rw[b]at hx
   rcases g with g|g
   ·rw[hf]at g;cases g
   intro op ho;rcases qM.1 ho with⟨_,c,hc,rfl⟩|⟨c,hc,rfl⟩
   ·obtain⟨j,hj,rfl⟩:=Aas hc
    have:=g j (Is _) hj
    rwa[yV,Aap,yO _ hj]at this
   ·have hr:=gQ (cons:=false) hk.mc h.len
    rw[hx]at hr
    rcases hr.out with⟨_,h2⟩|h2
    ·exact h2 _ (qM.2 (.inr ⟨c,hc,rfl⟩))
    ·rw[h2,lY (by rw[h.len];exact hk.mc.pos)]at hf;cases hf
  ·simp[hx]at e
theorem OE(hk:wJ m l d):∀(k:Nat) (p:Br),Tr m l d p.1 p.2->wI p.2<=k->Tr m l d (Nz m l (k+1) p).1 (Nz m l (k+1) p).2/\(zZ (Nz m l (k+1) p).2=true\/Nu (qR m true l) (Nz m l (k+1) p).2)
 |k,p,h,hs=>by
  cases hf:zZ p.2
  ·obtain⟨h1,h2,h3⟩:=Px h hk hf
   rw[Nz,An (by rw[hf];decide)]
   have hp:=Bp (by rw[h.len];exact hk.mc.pos) hf
   cases e:(iE m l p).2
   ·rw[An (by decide)];exact⟨h1,.inr (h3 e)⟩
   ·rw[As rfl]
    have:=h2 e
    match k,hs with
    |0,hs=>omega
    |k+1,hs=>exact OE hk k _ h1 (by omega)
  ·rw[Nz,As hf];exact⟨h,.inl hf⟩
theorem Py(hk:wJ m l d)(hf:qP m l d=true):zdH m l d (cL m l d):=by
 have hb:=Tr.begin hk;obtain⟨h1,h2⟩:=OE hk 36 ([],eG m d) hb (by have:=hb.size;simpa using this)
 exact h1.trace hk hf h2
end
end Go.Proofs.YtdnmkinmcdihnaaGreatDoor
namespace Go.Proofs.YtdnmkinmcdihnaaGreatDoor
open Go.Proofs.Tryz
open Go.RowKit
variable[Lo]
theorem zuf{b:Bool}:zT (!b) (D.bool false=dB b) (D.bool true=dB b):=by cases b<;>rfl
theorem zmB:fV xW:=λargs w=>call87 args w
theorem zmC(s t:AcQ):vL yF [dS s,dS t,.clo xW none []] (dB (decide (s=t))):=
 oT.clo (pre:=[dS s,dS t]) (post:=[]) (rs:=some [.bool])<|slices_EqualFunc_api_Store_api_Store_int_int_sat s t xW [] λok=>by
  rw[rH];refine zC (λe=> ?_) λe=> ?_
  ·have e:s.length≠t.length:=by simp at e;omega
   rw[Aao λh=>e (by rw[h])]
  have e:s.length=t.length:=by simp at e;omega
  have hz:=gA s t e;refine zc4 (I:=λn v=>xV s t xW [] _ n v) (s.zip t) (λx=> !decide (x.1=x.2)) ?_ (X:=D.bool false=dB (decide (s=t))) (Y:=D.bool true=dB (decide (s=t))) ?_ (λn k h hX hn=> ?_) λn hY=> ?_
  ·have:=dW (Qm ok)
   rw[AaA];have:s.length<=9223372036854775807:=this;omega
  ·rw[hz];exact zuf
  ·rw[AaA]at h
   have h1:k<s.length:=by omega
   have h2:k<t.length:=by omega
   rw[wH,yD h1,yA (t:=.list .int) h1,yA (t:=.list .int) h2];refine⟨zI h1,zI h2,zmB,zG (dZ _ _) ?_⟩;rw[AaL]at hX hn
   exact zC (λe=>hX e) λe=>hn e
  ·have hl:(s.zip t).length=s.length:=by rw[AaA];omega
   rw[hl,wH,zY];exact hY
theorem zo1{m:zE}{i:Int}{s x:AcQ}{v k:Nat}(h:k<(s.getD v []).length):(((s.getD v []).take (k+1)).filter λn=> !mE (x.getD v []) n).map (XK m i s v)=(((s.getD v []).take k).filter λn=> !mE (x.getD v []) n).map (XK m i s v)++if mE (x.getD v []) (s.getD v [])[k]=true then[]else[XK m i s v (s.getD v [])[k]]:=by
 rw[fQ _ h];cases mE (x.getD v []) (s.getD v [])[k]<;>simp
theorem Li{α:Type}{a b:List α}{x:α}:(!(a++(b++[x])).isEmpty)=true:=by
 cases a<;>cases b<;>rfl
theorem TI(a b:AcR):vL sW [.sl .lit a,.sl .lit b] (dB (decide (a=b))):=
 bC a b λok=>by
  rw[aS];refine zC (λe=> ?_) λe=> ?_
  ·have e:a.length≠b.length:=by simp at e;omega
   rw[Aao λh=>e (by rw[h])]
  have e:a.length=b.length:=by simp at e;omega
  have hz:=gA a b e;refine zc4 (I:=λn v=>qG a b _ n v) (a.zip b) (λx=> !decide (x.1=x.2)) ?_ (X:=D.bool false=dB (decide (a=b))) (Y:=D.bool true=dB (decide (a=b))) ?_ (λn k h hX hn=> ?_) λn hY=> ?_
  ·have:a.length<=9223372036854775807:=dW (Qm ok)
   rw[AaA];omega
  ·rw[hz];exact zuf
  ·rw[AaA]at h
   have h1:k<a.length:=by omega
   have h2:k<b.length:=by omega
   rw[pC,yD h1,yA (t:=.lit) h1,yA (t:=.lit) h2];rw[AaL]at hX hn
   exact⟨zI h1,zI h2,zC (λe=>hX e) λe=>hn e⟩
  ·have hl:(a.zip b).length=a.length:=by rw[AaA];omega
   rw[hl,pC,zY];exact hY
end Go.Proofs.YtdnmkinmcdihnaaGreatDoor
namespace Go.Proofs.YtdnmkinmcdihnaaGreatDoor
open Go.Proofs.Tryz
open Go.RowKit
variable[Lo]
end Go.Proofs.YtdnmkinmcdihnaaGreatDoor
namespace Go.Proofs.YtdnmkinmcdihnaaGreatDoor
open Go.Proofs.Tryz
open Go.RowKit
set_option maxRecDepth 100000
variable[Lo]
abbrev fK(x0:AcU)(x1:AcV)(x2 x3:Int)(x4:AcS)(x5:Int)(x6:AcS)(x7:AcW)(x8:List (AcL×Int)):List (Nat×yE):=[(1000,.cells [.sl .var x0,.sl .con x1,dI x2,dI x3,.sl (.list .lit) x4,dI x5,.own 2000,.own 2001,.own 1001]),(2000,.row 61 (.list .lit) x6),(2001,.row 71 (.fr .step) x7),(1001,.mp .str .int x8)]
abbrev zru(x0:AcU)(x1:AcV)(x2 x3:Int)(x4:AcS)(x5:Int)(x6:AcW)(x7:AcS)(x8:List (AcL×Int)):List (Nat×yE):=[(1000,.cells [.sl .var x0,.sl .con x1,dI x2,dI x3,.sl (.list .lit) x4,dI x5,.own 2000,.sl (.fr .step) x6,.own 1001]),(2000,.row 61 (.list .lit) x7),(1001,.mp .str .int x8)]
abbrev zti(x0:AcU)(x1:AcV)(x2 x3:Int)(x4:AcS)(x5:Int)(x6:List (AcL×Int)):List (Nat×yE):=[(3000,.cells [.sl .var x0,.sl .con x1,dI x2,dI x3,.sl (.list .lit) x4,dI x5,.nil,.nil,.own 3001]),(3001,.mp .str .int x6)]
abbrev Bs(x0:AcU)(x1:AcV)(x2 x3:Int)(x4:AcQ):List (Nat×yE):=[(1000,.cells [.sl .var x0,.sl .con x1,dI x2,dI x3,.own 2000]),(2000,.row 28 (.fr (.list .int)) x4)]
def EvN:TE where
 zs:=[(3,(false,[dI 0])),(22,(false,[.nil])),(23,(false,[.nil])),(25,(true,[.sl .var ([]:AcU),.sl .con ([]:AcV),dI 0,dI 0])),(28,(false,[.nil])),(29,(false,[.nil])),(31,(true,[dI 0,.sl (.fr .int) ([]:AcP),.sl (.fr .step) ([]:AcW)])),(35,(false,[.nil])),(50,(false,[.nil])),(52,(true,[dI 0,.sl .int ([]:AcP),.sl .int ([]:AcP),dI 0,dS ([]:AcQ),.sl .lit ([]:AcR)])),(61,(false,[.nil])),(66,(true,[dI 0,dI 0,dI 0])),(69,(false,[.nil])),(71,(true,[dI 0,dI 0,.sl .lit ([]:AcR)])),(73,(false,[.undef])),(81,(true,[.undef,.slN (.fr .int) ([]:AcP) true])),(85,(true,[.sl .var ([]:AcU),.sl .con ([]:AcV),dI 0,dI 0,.nil])),(96,(false,[.undef])),(133,(true,[.sl .var ([]:AcU),.sl .con ([]:AcV),dI 0,dI 0,.sl (.list .lit) ([]:AcS),dI 0,.nil,.nil,.undef]))]
 sl:=[(22,(49,.var)),(23,(52,.con)),(28,(3,.fr .int)),(29,(71,.fr .step)),(35,(28,.fr (.list .int))),(50,(66,.lit)),(61,(66,.lit)),(69,(61,.list .lit)),(87,(28,.fr (.list .int))),(91,(150,.tok)),(115,(5,.byte)),(172,(9,.str)),(221,(50,.list .lit)),(258,(262,.term))]
 fld:=[(25,[(0,1),(1,1),(2,1),(3,1)]),(31,[(0,1),(1,1),(2,1)]),(49,[(0,1),(1,1),(2,1)]),(52,[(0,1),(1,1),(2,1),(3,1),(4,1),(5,1)]),(66,[(0,1),(1,1),(2,1)]),(71,[(0,1),(1,1),(2,1)]),(81,[(0,1),(1,1)]),(85,[(0,4),(4,1)]),(133,[(0,4),(4,1),(5,1),(6,1),(7,1),(8,1)])]
 strs:=[]
 ints:=[(2,.i64),(3,.i64),(5,.u8),(6,.u8),(32,.i64),(228,.i64),(288,.i64),(314,.u8),(315,.u8)]
 bools:=[]
 sig:=[(vG,[.int]),(fS,[.int]),(tS,[.list (.list .int)]),(lV,[.int]),(tT,[.fr (.list .int)]),(yR,[.str]),(aP,[.list .lit]),(Zy,[.list .lit,.bool]),(YS,[.fr (.list .step)]),(qX,[.list .lit]),(pZ,[.list (.list .int)]),(zV,[.bool]),(cU,[.int]),(xP,[.list (.list .int)]),(Wd,[.str])]
 mps:=[(96,(.str,.int))]
 sts:=[]
 hsig:=[(Zw,{tys:=[.mdl,.int],nils:=[],datas:=[],res:=λxs _=>match xs with|[.agg y0,y1]=>some (.ptr 3000 0,[(3000,.cells (y0++[.sl (.list .lit) [],y1,.nil,.nil,.own 3001])),(3001,.mp .str .int [])])|_=>none}),
  (oH,{tys:=[.int,.list (.list .lit),.list (.fr .step),.list (.pr .str .int),.list (.fr .int),.int],nils:=[(0,(6,(61,.list .lit))),(0,(7,(71,.fr .step)))],datas:=[],res:=λxs ob=>match xs,ob 1000,ob 2000,ob 2001,ob 1001 with|[y0,.sl (.list .lit) y1,.sl (.fr .step) y2,.sl (.pr .str .int) y3,y4,y5],some (.cells o1000),some o2000,some o2001,some o1001=>some (.tup [y4,y5],[(1000,.cells (o1000.set 5 y0)),(2000,.row 61 (.list .lit) y1),(2001,.row 71 (.fr .step) y2),(1001,.mp .str .int y3)])|_,_,_,_,_=>none}),
  (uQ,{tys:=[.list (.fr .step),.bool],nils:=[(0,(6,(61,.list .lit))),(0,(7,(71,.fr .step)))],datas:=[],res:=λxs ob=>match xs,ob 1000,ob 2000,ob 2001,ob 1001 with|[y0,y1],some (.cells o1000),some o2000,some o2001,some o1001=>some (.tup [y0,y1],[(1000,.cells (o1000.set 7 y0)),(2000,o2000),(1001,o1001)])|_,_,_,_,_=>none}),
  (fl,{tys:=[.int,.list (.fr .int),.bool,.list (.list .lit),.int,.list (.list .lit),.list (.fr .step),.list (.pr .str .int)],nils:=[(1,(6,(61,.list .lit))),(1,(7,(71,.fr .step)))],datas:=[],res:=λxs ob=>match xs,ob 1000,ob 1001,ob 2000,ob 2001,ob 1002 with|[y0,.sl (.fr .int) y1,.bool y2,y3,y4,.sl (.list .lit) y5,.sl (.fr .step) y6,.sl (.pr .str .int) y7],some (.cells o1000),some (.cells o1001),some o2000,some o2001,some o1002=>some (y0,[(1000,.cells (o1000.set 1 (.slN (.fr .int) y1 y2))),(1001,.cells ((o1001.set 4 y3).set 5 y4)),(2000,.row 61 (.list .lit) y5),(2001,.row 71 (.fr .step) y6),(1002,.mp .str .int y7)])|_,_,_,_,_,_=>none}),
  (oI,{tys:=[.bool,.list (.fr (.list .int))],nils:=[(0,(4,(28,.fr (.list .int))))],datas:=[],res:=λxs ob=>match xs,ob 1000,ob 2000 with|[y0,.sl (.fr (.list .int)) y1],some o1000,some o2000=>some (y0,[(1000,o1000),(2000,.row 28 (.fr (.list .int)) y1)])|_,_,_=>none}),
  (nL,{tys:=[.list .lit,.bool,.list (.fr .int)],nils:=[(0,(6,(61,.list .lit))),(0,(7,(71,.fr .step)))],datas:=[],res:=λxs ob=>match xs,ob 1000,ob 2000,ob 2001,ob 1001 with|[.sl .lit y0,.bool y1,y2],some o1000,some o2000,some o2001,some o1001=>some (.tup [(.slN .lit y0 y1),y2],[(1000,o1000),(2000,o2000),(2001,o2001),(1001,o1001)])|_,_,_,_,_=>none}),
  (rN,{tys:=[.list (.list .lit)],nils:=[(0,(6,(61,.list .lit))),(0,(7,(71,.fr .step)))],datas:=[],res:=λxs ob=>match xs,ob 1000,ob 2000,ob 2001,ob 1001 with|[y0],some o1000,some o2000,some o2001,some o1001=>some (y0,[(1000,o1000),(2000,o2000),(2001,o2001),(1001,o1001)])|_,_,_,_,_=>none}),
  (nM,{tys:=[.list (.fr .step),.list (.pr .str .int)],nils:=[(0,(6,(61,.list .lit))),(0,(7,(71,.fr .step)))],datas:=[],res:=λxs ob=>match xs,ob 1000,ob 2000,ob 2001,ob 1001 with|[.sl (.fr .step) y0,.sl (.pr .str .int) y1],some o1000,some o2000,some o2001,some o1001=>some (.tup [],[(1000,o1000),(2000,o2000),(2001,.row 71 (.fr .step) y0),(1001,.mp .str .int y1)])|_,_,_,_,_=>none}),
  (xS,{tys:=[.list (.fr .int)],nils:=[],datas:=[],res:=λxs ob=>match xs with|[.sl (.fr .int) y0]=>some (.own 3000,[(3000,.row 3 (.fr .int) y0)])|_=>none}),
  (vN,{tys:=[.list (.fr .int)],nils:=[],datas:=[],res:=λxs ob=>match xs,ob 1000 with|[.sl (.fr .int) y0],some o1000=>some (.tup [],[(1000,.row 3 (.fr .int) y0)])|_,_=>none}),
  (wT,{tys:=[.list (.fr .int)],nils:=[],datas:=[],res:=λxs ob=>match xs,ob 1000 with|[y0],some o1000=>some (y0,[])|_,_=>none})]
 vals:=[81,85,98,102,119,133,188,256,268]
 arr:=[]
 thr:=[]
theorem ztj:EvN.chk prog=true:=by kernel_rfl
theorem ztk:∀x∈EvN.sig,∀args w,(callFunc x.1 args).run prog w=.ok (.enter x.1 args) w:=by
 intro x hx args w;simp only[EvN,Aad,Aa6,or_false]at hx
 rcases hx with rfl|rfl|rfl|rfl|rfl|rfl|rfl|rfl|rfl|rfl|rfl|rfl|rfl|rfl|rfl
 ·exact call23 args w
 ·exact call30 args w
 ·exact call36 args w
 ·exact call37 args w
 ·exact call38 args w
 ·exact call53 args w
 ·exact call57 args w
 ·exact call63 args w
 ·exact call66 args w
 ·exact call67 args w
 ·exact call68 args w
 ·exact call69 args w
 ·exact call70 args w
 ·exact call71 args w
 ·exact call114 args w
theorem zrv:EvN.chk2 prog=true:=by kernel_rfl
theorem zrw:∀x∈EvN.hsig,fV x.1:=by
 intro x hx args w;simp only[EvN,Aad,Aa6,or_false]at hx
 rcases hx with rfl|rfl|rfl|rfl|rfl|rfl|rfl|rfl|rfl|rfl|rfl
 ·exact call31 args w
 ·exact call32 args w
 ·exact call33 args w
 ·exact call34 args w
 ·exact call35 args w
 ·exact call62 args w
 ·exact call64 args w
 ·exact call65 args w
 ·exact call73 args w
 ·exact call74 args w
 ·exact call75 args w
theorem zfV:vE prog EvN:=QD (by kernel_rfl) ztj zrv ztk zrw
abbrev FDN(A:xF)(fn:Func)(ds:AcT)(R:xI):Prop:=fnD prog EvN A fn.results.toList (vB fn) ds R
abbrev FHN(A:xF)(fn:Func)(ds:AcT)(hp:List (Nat×yE))(roots:AcT)(own:Bool)(R:oG):Prop:=fnH prog EvN A fn.results.toList (vB fn) ds hp roots own R
def TJ(A:xF)(fn:Func)(f:AcM)(ds:AcT):Prop:=∀ {r:D},((∀d∈ds,MN d)->FDN A fn ds λd=>d=r)->vL f ds r
def SI(A:xF)(fn:Func)(f:AcM)(ds:AcT)(hp:List (Nat×yE))(roots:AcT)(own:Bool):Prop:=∀ {r:D} {h0:List (Nat×yE)},((∀d∈ds,MN d)->(∀k o,zW k hp=some o->okO o)->FHN A fn ds hp roots own λd a=>d=r/\a=h0)->xT f ds hp r h0
theorem RG{A:xF}{fn:Func}{f:AcM}{ds:AcT}(hf:prog.funcs[f]? =some fn)(hb:fn.body=some (vB fn))(hn:fn.ntmps=A.n)(hl:Nat.ble ds.length A.n=true):TJ A fn f ds:=λh=>zcS zfV hf hb hn.symm (by rw[hn];exact Aau hl) h
theorem Pz{A:xF}{fn:Func}{f:AcM}{ds:AcT}{hp:List (Nat×yE)}{roots:AcT}{own:Bool}(hf:prog.funcs[f]? =some fn)(hb:fn.body=some (vB fn))(hn:fn.ntmps=A.n)(hl:Nat.ble ds.length A.n=true):SI A fn f ds hp roots own:=λh=>Eo zfV hf hb hn.symm (by rw[hn];exact Aau hl) h
abbrev LPN(A:xF)(fn:Func)(path:AcZ)(cur n:Nat)(σ:St)(K:Ex->St->Prop):Prop:=DA (den prog EvN A (sub path (vB fn)) cur) A (Yq A cur) n σ K
abbrev sKN(A:xF)(fn:Func)(path:AcZ)(cur:Nat)(K:Ex->St->Prop):=zqD prog EvN A (sub path (vB fn)) cur K
abbrev iKN(A:xF)(fn:Func)(path:AcZ)(cur n:Nat)(K:Ex->St->Prop):=zks (den prog EvN A (sub path (vB fn)) cur) A (Yq A cur) n K
abbrev eKN(fn:Func)(R:xI):=zqE EvN fn.results.toList R
abbrev eHN(fn:Func)(roots:AcT)(own:Bool)(R:oG):=Nj EvN fn.results.toList roots own R
end Go.Proofs.YtdnmkinmcdihnaaGreatDoor
namespace Go.Proofs.YtdnmkinmcdihnaaGreatDoor
open Go.Proofs.Tryz
open Go.RowKit
set_option maxRecDepth 100000
variable[Lo]
def PA:xF:= {own:=[],live:=[],n:=22}
theorem FU(a:zE)(b:Int)(R:xI):FDN PA Tryz.f13 [dM a,dI b] R=
 (yJ lV [dM a,dI b,dI (a.vars.length:Int)] .int λc=>
 zT (!decide (c=0))
 (R (.tup [.sl (.fr .int) ([]:List (Int)),dI c]))
 (wW b a.cons.length=true/\
 yJ tT [dC (zJ .con a.cons b.toNat)] (.fr (.list .int)) λd=>
 R (.tup [.sl (.fr .int) d,dI 0]))):=by kernel_rfl
theorem Hq(a:zE)(b:Int):TJ PA Tryz.f13 ot [dM a,dI b]:=RG func13 (by kernel_rfl) ntmps13 rfl
def Xh:xF:= {own:=[5,20],live:=[(0,([3,10,11,12],[30512]))],n:=26}
def Z5(a:zF)(R:xI)(b:Nat)(c:Int)(d:AcP):Prop:=LPN Xh f38 [1,1,0,1,0,0] 0 b ⟨[(3,.own 30512),(10,.sl .lit a.lits),(11,dI (a.lits.length:Int)),(12,dI c)],[(30512,.row 3 (.fr .int) d)]⟩ (zP 0 (sKN Xh f38 [1,1,1] 0 (eKN f38 R)))
theorem K4(a:zF)(R:xI)(d:Nat)(b:Int)(c:AcP):Z5 a R (d+1) b c=
 (zT (decide (b<(a.lits.length:Int)))
 (wW b a.lits.length=true/\
 yX (.fr .int) (c.length+([(zJ .lit a.lits b.toNat).var]).length)=true/\
 Z5 a R d (yU (b+1)) (c++([(zJ .lit a.lits b.toNat).var])))
 (∃e:AcP,xT vN [.own 1000] [(1000,.row 3 (.fr .int) c)] (.tup []) [(1000,.row 3 (.fr .int) e)]/\
 ∃f:AcP,xT wT [.own 1000] [(1000,.row 3 (.fr .int) e)] (.sl (.fr .int) f) []/\
 R (.sl (.fr .int) f))):=by kernel_rfl
theorem Bt(a:zF)(R:xI):FDN Xh f38 [dC a] R=
 (∃b:AcP,xT xS [.sl .int a.vars] [] (.own 3000) [(3000,.row 3 (.fr .int) b)]/\
 ∃n0,Z5 a R n0 0 b):=by kernel_rfl
theorem FV(a:zF):TJ Xh f38 tT [dC a]:=RG func38 (by kernel_rfl) ntmps38 rfl
end Go.Proofs.YtdnmkinmcdihnaaGreatDoor
namespace Go.Proofs.YtdnmkinmcdihnaaGreatDoor
open Go.Proofs.Tryz
open Go.RowKit
variable[Lo]
def plD:D->D
 | .sl (.mk k t) xs=>bif t.bare then .sl t xs else .sl (.mk k t) xs
 |d=>d
theorem zh2{w:World}{S:Nat->Prop}{v:Value}{d:D}(h:Rp w S v d):Rp w S v (plD d):=by
 unfold plD;split
 ·rename_i k t xs
  cases hb:t.bare with
  |false=>exact h
  |true=>
   refine .sl t xs v ?_;rw[Zp hb];exact Ed (xU.mkd k (Ty.rep t)) (Ty.rep t) rfl rfl (λ_ hb=>hb.1) (λcs x r=>(Ty.rep t).mono r (λ_ _=>rfl) λb hb=>hb.1.1) h.sl_inv'
 ·exact h
theorem oT.un{P:AcO}{f:AcM}{args:AcT}{r:D}(h:oT P f (args.map plD) r):oT P f args r:=λw S vs hS hl hv hg=>
 h w S vs hS (by rw[Aae];exact hl) (λi d hd=>by
  rw[Aaw,AaD]at hd
  obtain⟨d0,h0,rfl⟩:=hd;exact zh2 (hv i d0 h0)) hg
theorem GK(l:AcP):xT xS [.sl .int l] [] (.own 3000) [(3000,.row 3 (.fr .int) l)]:=
 Wl l λok _=>by
  rw[W2];intro b hb;refine zC (λe=> ?_) λe=>⟨?_,?_⟩
  ·rw[hb e];exact⟨rfl,rfl⟩
  ·refine xC (t:=.fr .int) ?_
   have:=(fk (t:=.int) (Qm ok)).1;show(0+l.length)*8<=_
   have h8:l.length*8<=140737488355328:=this;omega
  ·exact⟨rfl,rfl⟩
theorem Bu{m:zE}(hm:∀v∈m.vars,-50<=v.lo/\v.hi<=50)(hl:m.vars.length<=6):vL tS [dM m] (.sl (.fr (.list .int)) (xY m)):=
 Ft m λok=>by
  rw[Cs];refine up (I:=λn v a=>ZP m _ n v a) 0 m.vars.length rfl (Is _) (by omega) (λk a=>a=(m.vars.take k).map XA) rfl λn k a _ hk ha hn=> ?_
  subst ha;rw[Ks]
  by_cases h:k<m.vars.length
  ·rw[yD h,yA (t:=.var) h]
   have hv:=hm _ (AT h);refine⟨zI h,?_⟩;refine upto (I:=λn v a=>ZO m _ _ (k:Int) n v _ a) (m.vars[k]).lo (m.vars[k]).hi (by omega) (by omega) (λj a=>a=Aq (m.vars[k]).lo (j-(m.vars[k]).lo).toNat/\j<=max (m.vars[k]).lo ((m.vars[k]).hi+1)) ⟨by rw[Int.sub_self];rfl,by omega⟩ λn2 j a hj hi hn2=> ?_
   obtain⟨rfl,hjm⟩:=hi;rw[Kr,yA (t:=.var) h];refine zC (λe=> ?_) λe=> ?_
   ·have e:=BY e
    refine⟨xC (t:=.fr .int) ?_,hn2 e _ ⟨(Ci hj).symm,by omega⟩⟩
    rw[YB];show(_+1)*8<=_
    omega
   ·have e:=Aah e
    have el:Aq (m.vars[k]).lo (j-(m.vars[k]).lo).toNat=XA m.vars[k]:=by
     rw[XA]
     by_cases hlh:(m.vars[k]).lo<=(m.vars[k]).hi+1
     ·rw[show j=(m.vars[k]).hi+1 by omega]
     ·rw[show j=(m.vars[k]).lo by omega,show((m.vars[k]).lo-(m.vars[k]).lo).toNat=0 by omega,show((m.vars[k]).hi+1-(m.vars[k]).lo).toNat=0 by omega]
    rw[el];refine⟨xC (t:=.fr (.list .int)) ?_,hn h _ (cR XA h).symm⟩;rw[Aae,Aak];show(_+1)*24<=_
    omega
  ·have hk':k=m.vars.length:=by omega
   subst hk';rw[zY,Aam];rfl
theorem Vh{s:AcQ}{g:AcM}{rs:Option Ac2}{cap:AcT}{f:Nat->Int->Bool}(he:fV g)
  (hf:∀(v:Nat) (h:v<s.length),∀n∈s[v],vL g (dI v::dI n::cap) (dB (f v n))):vL xP [dS s,.clo g rs cap] (.sl (.fr (.list .int)) (rI f s)):=
 oT.clo (pre:=[_]) (Fv s g cap λok=>by
  have hs:Y7 s:=fk (Qm ok);have hsl:=YC hs;rw[Cu];refine up (I:=λn v a=>ZQ s g cap _ n v a) 0 s.length rfl (Is _) (by omega) (λk a=>a=(s.take k).mapIdx λv l=>l.filter (f v)) rfl λn k a _ hk ha hn=> ?_
  subst ha;rw[Ku]
  by_cases h:k<s.length
  ·rw[yD h]
   have hr:=II hs h;refine⟨zI h,?_⟩;refine up (I:=λn v a=>eD s g cap _ _ (k:Int) n v _ a) 0 s[k].length rfl (Is _) (by omega) (λj a=>a=(s[k].take j).filter (f k)) rfl λn2 j a _ hj hi hn2=> ?_
   subst hi;rw[Kt,yA (t:=.list .int) h]
   by_cases hj':j<s[k].length
   ·rw[yD hj',yA (t:=.int) hj']
    refine⟨zI hj',he,zG (hf k h _ (AT hj')) (zC (λe=>⟨xC (t:=.fr .int) ?_,hn2 hj' _ ?_⟩) λe=>hn2 hj' _ ?_)⟩
    ·have:=Abw (f k) (s[k].take j)
     rw[Aak]at this
     show(_+1)*8<=_
     omega
    ·rw[fQ _ hj',As e]
    ·rw[fQ _ hj',An (by rw[e];exact Bool.false_ne_true)]
   ·have hj2:j=s[k].length:=by omega
    subst hj2;rw[zY,Aam];refine⟨xC (t:=.fr (.list .int)) ?_,hn h _ (DV _ h).symm⟩;rw[AbC,Aak];show(_+1)*24<=_
    omega
  ·have hk':k=s.length:=by omega
   subst hk';rw[zY,Aam];rfl)
theorem bI(s:AcQ):vL tI [dS s] (.sl (.fr (.list .int)) s):=
 Cp s λok=>by
  have hs:Y7 s:=fk (Qm ok);have hsl:=YC hs;rw[A5];refine up (I:=λn v a=>Y9 s _ n v a) 0 s.length rfl (Is _) (by omega) (λk a=>a=s.take k) rfl λn k a _ hk ha hn=> ?_
  subst ha;rw[IV]
  by_cases h:k<s.length
  ·rw[yD h,yA (t:=.list .int) h]
   refine⟨zI h,_,GK _,xC (t:=.fr (.list .int)) ?_,hn h _ (Aay h)⟩;rw[Aak];show(_+1)*24<=_
   omega
  ·have hk':k=s.length:=by omega
   subst hk';rw[zY,Aam]
theorem fz(s:AcQ):vL yQ [dS s] (.sl (.fr (.list .int)) (jJ s)):=
 M3 s λok=>by
  have hs:Y7 s:=fk (Qm ok);have hsl:=YC hs;rw[Ko];refine⟨rfl,by omega,xC (t:=.fr (.list .int)) ?_,rfl⟩
  rw[Aap];show _*24<=_
  omega
theorem zfW(s:AcQ)(l:zA):vL aQ [dS s,dL l] (.sl (.fr (.list .int)) (AZ s l)):=
 zdr s l λok=>by
  rw[zfq];exact zG (Vh (f:=λv n=> !decide ((v:Int)=l.var)||holdsL l n) N9 λv hv n hn=>Ke v n l) rfl
theorem Bv{s:AcQ}{c:AcR}(hc:∀l∈c,0<=l.var/\l.var<s.length):vL tV [dS s,.sl .lit c] (.sl (.fr (.list .int)) (cB s c)):=
 Fr s c λok=>by
  have hl:c.length<=9223372036854775807:=dW (t:=.lit) (Qm (okR ok));rw[Co];refine zG (xB s) (zC (λe=> ?_) λe=> ?_)
  ·rw[cB,As e]
   exact zG (bI s) rfl
  rw[cB,An (by rw[e];decide)]
  refine up (I:=λn v a=>kX s c _ n v a) 0 c.length rfl (Is _) (by omega) (λk a=>Q3 s c (c.drop k) a=Q3 s c c (-1)) (by rw[Abv]) λn k a _ hk ha hn=> ?_
  rw[Kp]
  by_cases h:k<c.length
  ·rw[yD h,yA (t:=.lit) h]
   rw[Aa4 h,Q3]at ha
   refine⟨zI h,zG (Gt (hc _ (AT h))) (zC (λe=> ?_) λe=> ?_)⟩
   ·rw[As (BY e)]at ha
    exact hn h _ ha
   rw[An (Aah e)]at ha
   refine zC (λf=>zC (λg=> ?_) λg=> ?_) λf=> ?_
   ·rw[As ⟨BY f,by simpa using g⟩]at ha
    rw[<-ha];exact zG (bI s) rfl
   ·rw[An (λx=>x.2 (by simpa using g))]at ha
    exact hn h _ ha
   ·rw[An (λx=>Aah f x.1)]at ha
    exact hn h _ ha
  ·have hk':k=c.length:=by omega
   subst hk';rw[List.drop_length,Q3]at ha
   rw[zY,<-ha];refine zC (λe=> ?_) λe=> ?_
   ·rw[As (BY e)]
    exact zG (fz s) rfl
   ·rw[An (Aah e)]
    exact zG (Vh (f:=λv n=> !decide ((v:Int)=a)||atC c a n) Ta λv hv n hn=>Rz v n a c) rfl
end Go.Proofs.YtdnmkinmcdihnaaGreatDoor
namespace Go.Proofs.YtdnmkinmcdihnaaGreatDoor
open Go.Proofs.Tryz
open Go.RowKit
variable[Lo]
theorem Z6{c:zF}{s:AcQ}(hc:vQ c s.length)(hs:jL s s.length):vL rX [dC c,dS s] (.sl (.fr (.list .int)) (yP c s)):=
 Fs c s λok=>by
  rw[Cq];refine zG (xB s) (zC (λe=> ?_) λe=> ?_)
  ·rw[yP,As e]
   exact zG (bI s) rfl
  have hf:zZ s=false:=e;rw[yP,An (by rw[hf];decide)]
  refine zG (bE hc) ?_
  by_cases h0:yI c s.length=[]
  ·obtain⟨hc0,_⟩:=GA hc h0
   refine dt (by rw[h0];rfl) (zG (oT.un (gO (vs:=[]) hc0 ⟨rfl,λn hn=>(by cases hn)⟩)) (zC (λe=> ?_) λe=> ?_))
   ·rw[As h0,As e];exact zG (bI s) rfl
   ·rw[As h0,An (by rw[e];decide)];exact zG (fz s) rfl
  refine df (by
   have:(yI c s.length).length≠0:=λe=>h0 (AaX.1 e)
   omega) ?_
  rw[An h0]
  have key:∀ {g:AcM} {caps:AcT},fV g->(∀(v n:Int),v∈yI c s.length->n∈s.getD v.toNat []->vL g (dI v::dI n::caps) (dB (mayB (wO c) s v.toNat n)))->
    vL xP [dS s,.clo vJ none [.iptr [.sl .int (yI c s.length)] 0,.iptr [.clo g none caps] 0]] (.sl (.fr (.list .int)) (rI (λv n=> !Fw c v||mayB (wO c) s v n) s)):=fun {g caps} he hg=>by
   refine Vh (f:=λv n=> !Fw c v||mayB (wO c) s v n) U9 λv hv n hn=> ?_
   refine RE he (λh=> ?_) λh=> ?_
   ·have h1:=pE.1 h
    rw[SA hv]at h
    have h2:=hg v n h1 (by rw[Aap,yO _ hv];exact hn)
    rw[Aap]at h2
    rw[h];exact h2
   ·rw[SA hv]at h
    rw[h];rfl
  have hEach:∃e21:zF,∃e22:AcQ,∃e23:AcP,∃e24:AcP,∃e25:List ((Int×Int)×Int),xT qT [dC c,dS s] [] (.clo yH none [.iptr [.iptr [.int .i64 e21.kind,.sl .int e21.vars,.sl .int e21.consts,.int .i64 e21.n,.sl (.list .int) e21.rows,.sl .lit e21.lits,.sl (.list .int) e22,.sl .int e23,.sl .int e24,.mp (.pr .int .int) .int e25] 0] 0]) []/\
    yJ xP [dS s,.clo vJ none [.iptr [.sl .int (yI c s.length)] 0,.iptr [.clo yH none [.iptr [.iptr [.int .i64 e21.kind,.sl .int e21.vars,.sl .int e21.consts,.int .i64 e21.n,.sl (.list .int) e21.rows,.sl .lit e21.lits,.sl (.list .int) e22,.sl .int e23,.sl .int e24,.mp (.pr .int .int) .int e25] 0] 0]] 0]] (.fr (.list (.list .int))) λs26=>D.sl (.fr (.list .int)) s26=.sl (.fr (.list .int)) (rI (λv n=> !Fw c v||mayB (wO c) s v n) s):=by
   obtain⟨vs,m,h1,h2⟩:=Pn hc hs hf;exact⟨c,s,yI c s.length,vs,m,h2,zG (key V8 λv n hv hn=>Tz (ks:=[]) h1 hv) rfl⟩
  refine zC (λe=> ?_) λe=>zC (λe2=> ?_) λe2=> ?_
  ·have hk:c.kind<=3:=BY e
   exact⟨vH c,Hi s (vH c),c,Tw hc hk hs,zG (key X0 λv n hv hn=>W7 hc hk hs hf (SB hc (Po hc (by omega)) hv) hn) rfl⟩
  ·have hk:c.kind=4:=BY e2
   refine zG (RD c.vars) (zC (λe3=> ?_) λe3=>hEach)
   have hnd:c.vars.Nodup:=by simpa using e3
   exact⟨s,c,Tx c s,zG (key X1 λv n hv hn=>W8 hc hk hnd hs hf (SB hc (Po hc (by omega)) hv) hn) rfl⟩
  ·exact hEach
end Go.Proofs.YtdnmkinmcdihnaaGreatDoor
namespace Go.Proofs.YtdnmkinmcdihnaaGreatDoor
open Go.Proofs.Tryz
open Go.RowKit
variable[Lo]
def zkY(m:zE)(cons:Bool)(l:AcS)(s0:AcQ)(n0:Nat)(was s:AcQ):Prop:=
 yJ zV [.sl (.fr (.list .int)) s] .bool λs11=>zT s11
  (yJ yQ [.sl (.fr (.list .int)) s] (.fr (.list (.list .int))) λs12=>D.sl (.fr (.list .int)) s12=.sl (.fr (.list .int)) (tH m cons l s0))
  (yJ tP [.sl (.fr (.list .int)) s,.sl (.fr (.list .int)) was] .bool λf13=>zT f13 (D.sl (.fr (.list .int)) s=.sl (.fr (.list .int)) (tH m cons l s0)) (rJ m cons l (λd=>d=.sl (.fr (.list .int)) (tH m cons l s0)) n0 s))
theorem zo2{m:zE}{cons:Bool}{l:AcS}{s0:AcQ}(h:yL m l)(hs:s0.length=m.vars.length){n0:Nat}{was:AcQ}
  (ih:∀s,tL (qR m cons l) s0 s->wI s<wI was->rJ m cons l (λd=>d=.sl (.fr (.list .int)) (tH m cons l s0)) n0 s) {s:AcQ} (hr:tL (qR m cons l) s0 s) (hx:zZ s=true\/Mf (qR m cons l) was s (qR m cons l)):zkY m cons l s0 n0 was s:=by
 refine zG (oT.un (xB s)) (zC (λe=> ?_) λe=> ?_)
 ·have e:zZ s=true:=e
  refine zG (oT.un (fz s)) ?_;rw[Ui h hs (hr.dead e),Kw hr.le.1]
 ·have e:zZ s=false:=e
  have hrd:=hx.resolve_left (by rw[e];decide)
  refine zG (oT.un (GC s was)) (zC (λf=> ?_) λf=> ?_)
  ·have f2:=(OC hrd.le).1 f
   rw[Ui h hs (hr.stop e λop hm=> ?_)]
   rw[f2];exact hrd.stab f2 op hm
  ·exact ih s hr (hrd.le.size_lt λf2=>by rw[(OC hrd.le).2 f2]at f;cases f)
theorem Hr{m:zE}{cons:Bool}{l:AcS}{s0:AcQ}(h:yL m l)(hs:s0.length=m.vars.length)(hll:l.length<=1000000000){n0:Nat}{was:AcQ}
  (ih:∀s,tL (qR m cons l) s0 s->wI s<wI was->rJ m cons l (λd=>d=.sl (.fr (.list .int)) (tH m cons l s0)) n0 s)
  {I:Nat->Int->AcQ->Prop}
  (heq:∀n (i:Int) s,I (n+1) i s=zT (decide (i<(l.length:Int)))
   (yJ zV [.sl (.fr (.list .int)) s] .bool λs9=>zT (!s9)
    (wW i l.length=true/\yJ tV [.sl (.fr (.list .int)) s,.sl .lit (zJ (.list .lit) l i.toNat)] (.fr (.list (.list .int))) λc10=>I n (yU (i+1)) c10)
    (zkY m cons l s0 n0 was s))
   (zkY m cons l s0 n0 was s))
  {s:AcQ} (hr:tL (qR m cons l) s0 s) (hw:zZ s=true\/Mf (qR m cons l) was s (if cons=true then Ey m else[])):∃n,I n 0 s:=by
 refine zkR (SC h) hs l (λc s=>cB s c) (λc hc=>qM.2 (.inr ⟨c,hc,rfl⟩)) (by omega) hr hw (X:=zkY m cons l s0 n0 was) (λs h1 h2=>zo2 h hs ih h1 h2) (λn k hk s h1 hf hi=> ?_) (λn s hx=> ?_) λn k s hk hf hx=> ?_
 ·rw[heq,yD hk,yA (t:=.list .lit) hk]
  refine zG (oT.un (xB s)) (bnt hf ⟨zI hk,zG (oT.un (Bv λx hx=> ?_)) hi⟩)
  have:=h.lits _ (AT hk) x hx;rw[h1.le.1,hs];exact this
 ·rw[heq,zY];exact hx
 ·rw[heq,yD hk]
  exact zG (oT.un (xB s)) (bnf hf hx)
theorem zfX{m:zE}{cons:Bool}{l:AcS}{s0:AcQ}(h:yL m l)(hs:jL s0 m.vars.length)(hll:l.length<=1000000000):vL pZ [dM m,dS s0,dB cons,.sl (.list .lit) l] (.sl (.fr (.list .int)) (tH m cons l s0)):=
 zds m s0 cons l λok=>by
  have ho:=SC (cons:=cons) h;have hcl:=h.right.cons;rw[zfr];refine zG (bI s0) ?_
  have step:∀(n0:Nat) (was:AcQ),tL (qR m cons l) s0 was->(∀s,tL (qR m cons l) s0 s->wI s<wI was->rJ m cons l (λd=>d=.sl (.fr (.list .int)) (tH m cons l s0)) n0 s)->rJ m cons l (λd=>d=.sl (.fr (.list .int)) (tH m cons l s0)) (n0+1) was:=by
   intro n0 was hw ih;rw[Cw];cases cons with
   |false=>
    refine⟨1,?_⟩;rw[ZR];refine bf rfl ?_;exact Hr h hs.len hll ih (I:=λn i s=>Xb m false l _ n0 was n s i) (λn i s=>by rw[I0];rfl) hw (.inr ⟨fJ.refl _,λ_ op hm=>(by cases hm)⟩)
   |true=>
    refine zkR ho hs.len m.cons yP (λc hc=>qM.2 (.inl ⟨rfl,c,hc,rfl⟩)) (by omega) hw (was:=was) (pre:=[]) (.inr ⟨fJ.refl _,λ_ op hm=>(by cases hm)⟩) (I:=λn i s=>eE m true l _ n0 was n s i)
     (X:=λs=>(∃n4,XD m true l (λd=>d=.sl (.fr (.list .int)) (tH m true l s0)) n0 was n4 s 0)/\∃n4_2,bD m true l (λd=>d=.sl (.fr (.list .int)) (tH m true l s0)) n0 was n4_2 s 0) (λs h1 h2=> ?_) (λn k hk s h1 hf hi=> ?_) (λn s hx=> ?_) λn k s hk hf hx=> ?_
    ·exact⟨Hr h hs.len hll ih (I:=λn i s=>XD m true l _ n0 was n s i) (λn i s=>by rw[Cv];rfl) h1 h2,Hr h hs.len hll ih (I:=λn i s=>bD m true l _ n0 was n s i) (λn i s=>by rw[IZ];rfl) h1 h2⟩
    ·show eE m true l _ n0 was (n+1) s (k:Int)
     rw[ZR];refine bt rfl ?_;rw[yD hk,yA (t:=.con) hk];have hg:=Bb h1 hs;have hl:=hg.len;refine zG (oT.un (xB s)) (bnt hf ⟨zI hk,zG (oT.un (Z6 (c:=m.cons[k]) (by rw[hl];exact h.cons _ (AT hk)) (by rw[hl];exact hg))) hi⟩)
    ·show eE m true l _ n0 was (n+1) s (m.cons.length:Int)
     rw[ZR];refine bt rfl ?_;rw[zY];exact hx.2
    ·show eE m true l _ n0 was (n+1) s (k:Int)
     rw[ZR];refine bt rfl ?_;rw[yD hk];exact zG (oT.un (xB s)) (bnf hf hx.1)
  suffices H:∀(d:Nat) (was:AcQ),wI was<=d->tL (qR m cons l) s0 was->rJ m cons l (λd=>d=.sl (.fr (.list .int)) (tH m cons l s0)) (d+1) was from⟨_,H _ s0 (IN _) (tL.refl _ _)⟩
  intro d
  induction d with
  |zero=>exact λwas hd hw=>step 0 was hw λs _ hlt=>At hlt (by omega)
  |succ d ih=>exact λwas hd hw=>step (d+1) was hw λs h1 hlt=>ih s (by omega) h1
end Go.Proofs.YtdnmkinmcdihnaaGreatDoor
namespace Go.Proofs.YtdnmkinmcdihnaaGreatDoor
open Go.Proofs.Tryz
open Go.RowKit
variable[Lo]
theorem FW(n:Nat)(hn:n*24<=140737488355328):xT sA [.nil,dI n] [] (.own 3000) [(3000,.row 66 (.fr .lit) [])]:=by
 intro w S vs pl hS hl hv hh _;have e0:vs.getD 0 undef=.slice none 0 0:=Rp.nil_inv (hv 0 _ rfl);have e1:vs.getD 1 undef=.int .i64 n:=(Rp.int_inv (hv 1 _ rfl)).1
 have ev:vs= #[.slice none 0 0,.int .i64 n]:=by
  have hl2:vs.size=2:=hl;apply Array.ext (by simp[hl2])
  intro i h1 h2;simp[Aaj]at e0 e1
  match i,h1 with
  |0,h1=>rw[AaW h1]at e0;simpa using e0
  |1,h1=>rw[AaW h1]at e1;simpa using e1
  |i+2,h1=>exact At h1 (by omega)
 subst ev
 by_cases h0:n=0
 ·subst h0
  refine(zmu w).mono λe w' ⟨he,hw⟩=> ?_
  subst he hw;exact Ez (t:=.fr .lit) (xs:=[]) hS (λpl'=>⟨by show 0*24<=lim;exact Aau rfl,[],rfl,⟨rfl,.inl ⟨rfl,rfl⟩⟩,λcs h=>(by cases h),λi x cs h=>(by cases h)⟩) (λb h=>by cases h) (Below.refl _ _)
 ·refine(zmv n (by omega) hn w).mono λe w' ⟨cap,cells,he,h1,h2,h3,h4,h5⟩=> ?_
  subst he;refine Ez (t:=.fr .lit) (xs:=[]) hS (λpl'=>⟨by show 0*24<=lim;exact Aau rfl,[],rfl,⟨rfl,.inr ⟨w.heap.size,cap,cells,rfl,Is _,h1,Is _,h3,h2,rfl⟩⟩,λcs h=>(by cases h),λi x cs h=>(by cases h)⟩) (λb h=> ?_) h5
  have:w.heap.size=b:=by injection h
  omega
theorem fA{ls:AcS}(hl:ls.length<=1000)(hr:∀l∈ls,l.length<=1000000):vL wA [.sl (.list .lit) ls] (.sl (.fr .lit) ls.flatten):=
 dJ ls λok=>by
  have flat:∀k,((ls.take k).flatten).length<=k*1000000:=λk=>by
   have h1:∀xs:AcS,(∀l∈xs,l.length<=1000000)->xs.flatten.length<=xs.length*1000000:=λxs=>by
    induction xs with
    |nil=>exact λ_=>IN _
    |cons a xs ih=>
     intro h;have h1:=h a (Aaa ..);have h2:=ih λl hl=>h l (Aac _ hl)
     rw[Aa5,It,By];omega
   have:=h1 (ls.take k) λl hl=>hr l (Abp hl)
   rw[Aak]at this
   exact Aan this (Aa8 _ (Nat.min_le_left ..))
  have ftake:∀(k:Nat) (h:k<ls.length),(ls.take (k+1)).flatten=(ls.take k).flatten++ls[k]:=λk h=>by
   rw[<-Aay h,List.flatten_append];simp
  rw[cK];refine up (I:=λn v (a:Int)=>uM ls _ n a v) 0 ls.length rfl (Is _) (by omega) (λk a=>a=(((ls.take k).flatten).length:Int)) rfl λn k a _ hk ha hn=> ?_
  subst ha;rw[fI];have hf:=flat k
  by_cases h:k<ls.length
  ·have hm:=hr _ (AT h)
   rw[yD h,yA (t:=.list .lit) h,qV (by omega) (by omega)]
   refine⟨zI h,df (by omega) (hn h _ ?_)⟩
   rw[ftake k h,It];omega
  ·have hk':k=ls.length:=by omega
   subst hk';rw[zY];refine⟨[],FW _ (by omega),?_⟩
   refine up (I:=λn v (a:AcR)=>uL ls _ n v a) 0 ls.length rfl (Is _) (by omega) (λk a=>a=(ls.take k).flatten) rfl λn k a _ hk ha hn=> ?_
   subst ha;rw[fH];have hf:=flat k
   by_cases h:k<ls.length
   ·have hm:=hr _ (AT h)
    rw[yD h,yA (t:=.list .lit) h];refine⟨zI h,xC (t:=.fr .lit) ?_,hn h _ (ftake k h).symm⟩;show(_+_)*24<=_
    omega
   ·have hk':k=ls.length:=by omega
    subst hk';rw[zY,Aam]
theorem TK{m:zE}{con:Int}{s:AcQ}(hat:Wm m con=0)(hl:s.length=m.vars.length):vL kU [dM m,dI con,dS s] (.sl (.fr .lit) (gE m s (yI (yV m con) m.vars.length))):=
 Kn m con s λok=>by
  obtain⟨hr,hcon⟩:=nD hat;have hc:=qJ hat;rw[IU];refine⟨uW.2 hcon,?_⟩;show yJ tT [dC (yV m con)] (.list .int) λm1=>_
  refine zG (bE hc) ?_;have hsl:=zbB hc;have hsv:∀v∈yI (yV m con) m.vars.length,0<=v/\v<m.vars.length:=λv hv=>lN v hv
  generalize yI (yV m con) m.vars.length=sc at hsl hsv⊢
  refine up (I:=λn v a=>dH m s _ sc n v a) 0 sc.length rfl (Is _) (by omega) (λk a=>a=gE m s (sc.take k)) rfl λn k a _ hk ha hn=> ?_
  subst ha;rw[Nt]
  by_cases h:k<sc.length
  ·have hvk:=hsv _ (AT h)
   have hvl:sc[k].toNat<m.vars.length:=by omega
   rw[yD h,yA (t:=.int) h];refine⟨zI h,uW.2 hvk,?_⟩;have hat2:zJ .var m.vars sc[k].toNat=m.vars[sc[k].toNat]:=atN (t:=.var) hvl;have hvr:=hr.var _ (AT hvl);have hfull:(xY m).getD sc[k].toNat []=XA m.vars[sc[k].toNat]:=XJ hvl;have hstep:gE m s (sc.take (k+1))=gE m s (sc.take k)++GG s sc[k] (XA m.vars[sc[k].toNat]):=by rw[gE,KL _ h,hfull];rfl
   have hgl:=zbD hr (s:=s) (sc.take k);rw[Aak]at hgl
   generalize gE m s (sc.take k)=pre at hstep hgl⊢
   rw[hat2];refine upto (I:=λn2 v a=>kW m s _ sc n (k:Int) n2 v a) (m.vars[sc[k].toNat]).lo (m.vars[sc[k].toNat]).hi (by omega) (by omega) (λj a=>a=pre++GG s sc[k] (Aq (m.vars[sc[k].toNat]).lo (j-(m.vars[sc[k].toNat]).lo).toNat)/\j<=(m.vars[sc[k].toNat]).hi+1) ⟨by rw[Int.sub_self];exact(Aa2 _).symm,by omega⟩ λn2 j a hj hi hn2=> ?_
   obtain⟨rfl,hjm⟩:=hi;rw[Ns,yA (t:=.int) h,hat2];have hgv:=zbC (s:=s) (v:=sc[k]) (l:=Aq (m.vars[sc[k].toNat]).lo (j-(m.vars[sc[k].toNat]).lo).toNat);rw[YB]at hgv
   refine⟨uW.2 hvk,zC (λe=> ?_) λe=> ?_⟩
   ·have e:=BY e
    have hgs:∀b,mE (s.getD sc[k].toNat []) j=b->GG s sc[k] (Aq (m.vars[sc[k].toNat]).lo (j+1-(m.vars[sc[k].toNat]).lo).toNat)=GG s sc[k] (Aq (m.vars[sc[k].toNat]).lo (j-(m.vars[sc[k].toNat]).lo).toNat)++(if b=true then[]else[(⟨sc[k],3,j⟩:zA)]):=λb hb=>by
     rw[Ci hj,GG,List.filter_append,AaV,Abc,hb];cases b<;>rfl
    refine⟨uW.2 (by omega),zG (uU (a:=j)) ?_⟩
    show zT (!mE (s.getD sc[k].toNat []) j) _ _
    refine zC (λf=>⟨xC (t:=.fr .lit) ?_,hn2 e _ ⟨?_,by omega⟩⟩) λf=>hn2 e _ ⟨?_,by omega⟩
    ·rw[It];show(_+_+1)*24<=_;omega
    ·rw[hgs false (by simpa using f),AaG];rfl
    ·rw[hgs true (by simpa using f)];simp
   ·have e:=Aah e
    refine hn h _ ?_;rw[hstep,XA,show j=(m.vars[sc[k].toNat]).hi+1 by omega]
  ·have hk':k=sc.length:=by omega
   subst hk';rw[zY,Aam]
theorem Vi{m:zE}{con:Int}{must l:AcR}(hat:Wm m con=0)(hm:must.length<=1000000)(hl:l.length<=1000000):vL mD [dM m,dI con,.sl (.fr .lit) must,.sl (.fr .lit) l] (.sl (.fr .lit) (KW m con must l)):=
 Nr m con must l λok=>by
  rw[M2,KW,zdD]
  suffices H:∀(k:Nat) (l':AcR) (i:Nat),l'.length<=k+i->i<=l'.length->l'.length<=1000000->∀r,r=must++SF (λl=>mO m con (must++l)) k l' i->mN m con must (λd=>d=.sl (.fr .lit) r) (k+1) l' (i:Int)from⟨_,H l.length l 0 (IN _) (Is _) hl _ rfl⟩
  intro k
  induction k with
  |zero=>
   intro l' i h1 h2 h3 r hr;have hi:i=l'.length:=by omega
   subst hi;rw[Yj,zY];refine zG (fA (ls:=[must,l']) (by show 2<=1000;decide) λx hx=> ?_) ?_
   ·rcases Aad.1 hx with rfl|hx
    ·exact hm
    ·rw[Aab.1 hx];exact h3
   ·rw[hr,SF];simp
  |succ k ih=>
   intro l' i h1 h2 h3 r hr;rw[Yj]
   by_cases h:i<l'.length
   ·have hw:yU ((i:Int)+1)=((i+1:Nat):Int):=cH (by omega)
    rw[SF,As h]at hr
    have hel:(l'.eraseIdx i).length=l'.length-1:=AcK h;rw[yD h,hw,Aap,Aap,Aap,Abv,Aam]
    have hcat:=fA (ls:=[l'.take i,l'.drop (i+1)]) (by show 2<=1000;decide) λx hx=>by
     rcases Aad.1 hx with rfl|hx
     ·rw[Aak];omega
     ·rw[Aab.1 hx,Abm];omega
    have he:[l'.take i,l'.drop (i+1)].flatten=l'.eraseIdx i:=by rw[List.eraseIdx_eq_take_drop_succ];simp
    rw[he]at hcat
    refine⟨EA (AaK _) (by omega) (by omega),EA (by omega) (by omega) (AaK _),zG hcat ?_⟩
    have hcat2:=fA (ls:=[must,l'.eraseIdx i]) (by show 2<=1000;decide) λx hx=>by
     rcases Aad.1 hx with rfl|hx
     ·exact hm
     ·rw[Aab.1 hx];omega
    have he2:[must,l'.eraseIdx i].flatten=must++l'.eraseIdx i:=by simp
    rw[he2]at hcat2
    refine zG hcat2 (zG (oT.un (Vc hat)) (zC (λe=> ?_) λe=> ?_))
    ·rw[As e]at hr
     exact ih _ i (by omega) (by omega) (by omega) r hr
    ·rw[An (by rw[e];decide)]at hr
     exact ih l' (i+1) (by omega) (by omega) h3 r hr
   ·have hi:i=l'.length:=by omega
    subst hi;rw[SF,An (Nat.lt_irrefl _)]at hr
    rw[zY];refine zG (fA (ls:=[must,l']) (by show 2<=1000;decide) λx hx=> ?_) ?_
    ·rcases Aad.1 hx with rfl|hx
     ·exact hm
     ·rw[Aab.1 hx];exact h3
    ·rw[hr];simp
theorem Hs{m:zE}{con:Int}{s:AcQ}{v n:Int}(hr:zkQ m con s)(hv:0<=v/\v<s.length):vL fU [dM m,dI con,dS s,dI v,dI n] (.tup [.sl (.fr .lit) (Un m con s v n),dB (Um m con s v n)]):=
 Kq m con s v n λok=>by
  have hat:=Ld hr.chk hr.cn;have hs:=ZZ (mM hr.chk) hr.st;have hl:=hs.len;rw[IW];refine zG (xB s) (zC (λe=> ?_) λe=> ?_)
  ·have e:zZ s=true:=e
   rw[Un,Um,e];rfl
  have e:zZ s=false:=e;refine⟨uW.2 hv,zG (uU (a:=n)) ?_⟩;show zT (!mE (s.getD v.toNat []) n) _ _
  refine zC (λf=> ?_) λf=> ?_
  ·have f:mE (s.getD v.toNat []) n=false:=by simpa using f
   rw[Un,Um,e,f];rfl
  have f:mE (s.getD v.toNat []) n=true:=by simpa using f
  refine⟨uW.2 hr.cn,zG (Z6 (c:=yV m con) (by rw[hl];exact hr.right) (by rw[hl];exact hs)) ⟨uW.2 (by rw[hr.op.len hl];omega),zG (oT.un (uU (a:=n))) ?_⟩⟩
  show zT (mE ((yP (yV m con) s).getD v.toNat []) n) _ _
  refine zC (λg=> ?_) λg=> ?_
  ·rw[Un,Um,e,f,g];rfl
  ·have hb:Um m con s v n=true:=by rw[Um,e,f,g];rfl
   rw[Un,As hb,hb];have:=Pu hat (s:=s);exact zG (TK hat hl) (zG (Vi hat (by show 1<=1000000;decide) (by omega)) rfl)
theorem K5{m:zE}{con:Int}{s:AcQ}(hr:zkQ m con s):vL iV [dM m,dI con,dS s] (.tup [.sl (.fr .lit) (fc m con s),dB (Pt m con s)]):=
 M1 m con s λok=>by
  have hat:=Ld hr.chk hr.cn;have hs:=ZZ (mM hr.chk) hr.st;have hl:=hs.len;rw[Km];refine zG (xB s) (zC (λe=> ?_) λe=> ?_)
  ·have e:zZ s=true:=e
   rw[fc,Pt,e];rfl
  have e:zZ s=false:=e;refine⟨uW.2 hr.cn,zG (Z6 (c:=yV m con) (by rw[hl];exact hr.right) (by rw[hl];exact hs)) (zG (oT.un (xB _)) ?_)⟩
  refine zC (λg=> ?_) λg=> ?_
  ·have g:zZ (yP (yV m con) s)=false:=by simpa using g
   rw[fc,Pt,e,g];rfl
  ·have g:zZ (yP (yV m con) s)=true:=by simpa using g
   have hb:Pt m con s=true:=by rw[Pt,e,g];rfl
   rw[fc,As hb,hb];have:=Pu hat (s:=s);exact zG (TK hat hl) (zG (Vi hat (by decide) (by omega)) rfl)
end Go.Proofs.YtdnmkinmcdihnaaGreatDoor
namespace Go.Proofs.YtdnmkinmcdihnaaGreatDoor
open Go.Proofs.Tryz
open Go.RowKit
variable[Lo]
abbrev zak(m:zE)(l:AcS)(p:Br):List (Nat×yE):=[(1000,.cells [.sl .var m.vars,.sl .con m.cons,dI m.goal,dI m.var,.sl (.list .lit) l,.sl (.fr (.list .int)) p.2,.own 2000]),(2000,.row 71 (.fr .step) p.1)]
theorem zal{m:zE}(hr:Right m)(d:AcR):vL jI [dM m,.sl .lit d] (.sl (.fr (.list .int)) (eG m d)):=
 Ct m d λok=>by
  have hl:=(fk (t:=.lit) (Qm (okR ok))).1;have hl:d.length*24<=140737488355328:=hl;rw[A6];refine zG (Bu hr.lohi hr.vars) ?_;refine up (I:=λn v a=>Xa d _ n a v) 0 d.length rfl (Is _) (by omega) (λk a=>a=(d.take k).foldl AZ (xY m)) rfl λn k a _ hk ha hn=> ?_
  subst ha;rw[IY]
  by_cases h:k<d.length
  ·rw[yD h,yA (t:=.lit) h]
   refine⟨zI h,zG (oT.un (zfW _ _)) (hn h _ ?_)⟩;rw[<-Aay h,Abg];rfl
  ·have hk':k=d.length:=by omega
   subst hk';rw[zY,Aam];rfl
theorem Ht{d:AcR}(hd:d.length<=1000000)(h:∀x∈d,-1000000<=x.n/\x.n<=1000000):vL qX [.sl .lit d] (.sl (.fr .lit) (d.map gB)):=
 Kl d λok=>by
  rw[IR];refine up (I:=λn v a=>dG d _ n v a) 0 d.length rfl (Is _) (by omega) (λk a=>a=(d.take k).map gB) rfl λn k a _ hk ha hn=> ?_
  subst ha;rw[Nq]
  by_cases hk2:k<d.length
  ·rw[yD hk2,yA (t:=.lit) hk2]
   refine⟨zI hk2,zG (Rw _ (h _ (AT hk2))) ⟨xC (t:=.fr .lit) ?_,hn hk2 _ ?_⟩⟩
   ·rw[Aae,Aak];show(_+1)*24<=_;omega
   ·rw[<-Aay hk2,AaV];rfl
  ·have hk':k=d.length:=by omega
   subst hk';rw[zY,Aam]
theorem PB{m:zE}{l:AcS}{d:AcR}{p:Br}(h:Tr m l d p.1 p.2)(hk:wJ m l d){i:Nat}(hi:i<m.cons.length)(hf:zZ p.2=false):
  xT mI [Ac3,dI i] (zak m l p) (dB (Vg m i p).2) (zak m l (Vg m i p).1):=by
 obtain⟨st,s⟩:=p;have h:Tr m l d st s:=h;have hf:zZ s=false:=hf;refine RX m.vars m.cons m.goal m.var l s st i λok ok2=> ?_
 have hat:=zo0 hk hi;have hr:=h.filtR hk (i:=(i:Int)) (by omega)
 have hs:=ZZ (mM hr.chk) hr.st;have hl:=hr.len;have hsz:=h.size;have hsl:s.length<=6:=by rw[hl];exact hk.mc.right.vars
 rw[Q5];have hc:zJ .con m.cons (i:Int).toNat=yV m i:=by rw[yV,yA hi,Aap,yO _ hi]
 rw[hc];refine⟨zI hi,zG (oT.un (Z6 (c:=yV m i) (by rw[hl];exact hr.right) (by rw[hl];exact hs))) (zG (oT.un (xB _)) (zC (λe=> ?_) λe=> ?_))⟩
 ·have e:zZ (yP (yV m i) s)=true:=e
  refine Zt (t:=.fr (.list .lit)) (u:=.bool) (oT.un (K5 hr)) ⟨xC (t:=.fr .step) ?_,zG (oT.un (fz _)) ?_⟩
  ·show(st.length+1)*40<=_;omega
  ·rw[Vg,As e];exact⟨rfl,rfl⟩
 ·have e:zZ (yP (yV m i) s)=false:=e
  have hcon:Vg m i (st,s)=((st++vA m i s (yP (yV m i) s) s.length,yP (yV m i) s),!(vA m i s (yP (yV m i) s) s.length).isEmpty):=by
   rw[Vg,An (by rw[e];decide)]
  rw[hcon];have hxl:(yP (yV m i) s).length=s.length:=(hr.op.len hl).trans hl.symm;generalize yP (yV m i) s=x at e hxl hcon⊢
  have hrow:∀k,(s.getD k []).length<=6:=λk=>Aan (h.le.2 k).length_le (TF hk.mc.right k)
  have hlen:∀k,(vA m i s x k).length<=k*6:=λk=>by
   induction k with
   |zero=>exact IN _
   |succ k ih=>
    have h1:=Abw (λn=> !mE (x.getD k []) n) (s.getD k [])
    have h2:=hrow k;rw[UH,It,K3,Aae];omega
  refine up (I:=λn v (a:Bool×AcW)=>oN s i _ x n a.1 v m.vars m.cons m.goal m.var l s a.2) (a:=(false,st)) 0 s.length rfl (Is _) (by omega) (λk a=>a=(!(vA m i s x k).isEmpty,st++vA m i s x k)) (by show _=(!true,st++[]);rw[Aa2];rfl) λn k a _ hkl ha hn=> ?_
  subst ha;show oN _ _ _ _ _ (!(vA m i s x k).isEmpty) _ _ _ _ _ _ _ (st++vA m i s x k)
  rw[Tm]
  by_cases hks:k<s.length
  ·have hkx:k<x.length:=by omega
   rw[yD hks];refine⟨zI hks,?_⟩;have hg:s.getD k []=s[k]:=yO _ hks;have hgx:x.getD k []=x[k]:=yO _ hkx;have hrk:=hrow k
   refine up (I:=λn v (a:Bool×AcW)=>qI s i _ x _ k n a.1 v m.vars m.cons m.goal m.var l s a.2) (a:=(!(vA m i s x k).isEmpty,st++vA m i s x k)) 0 (s.getD k []).length rfl (Is _) (by omega)
    (λj a=>a=(!(vA m i s x k++(((s.getD k []).take j).filter λn=> !mE (x.getD k []) n).map (XK m i s k)).isEmpty,st++(vA m i s x k++(((s.getD k []).take j).filter λn=> !mE (x.getD k []) n).map (XK m i s k)))) (by simp) λn2 j a _ hjl ha hn2=> ?_
   subst ha;show qI _ _ _ _ _ _ _ (!(vA m i s x k++_).isEmpty) _ _ _ _ _ _ _ (st++(vA m i s x k++_))
   rw[Tl,yA (t:=.fr (.list .int)) hks,yA (t:=.fr (.list .int)) hkx,<-hg,<-hgx]
   by_cases hj:j<(s.getD k []).length
   ·rw[yD hj,yA (t:=.fr .int) hj]
    refine⟨zI hj,zI hkx,zG (oT.un (uU (a:=(s.getD k [])[j]))) ?_⟩;have ht:=zo1 (m:=m) (i:=(i:Int)) (x:=x) hj;show zT (mE (x.getD k []) (s.getD k [])[j]) _ _
    refine zC (λf=> ?_) λf=> ?_
    ·rw[As f,Aa2]at ht
     exact hn2 hj (_,_) (by rw[ht];rfl)
    ·rw[An (by rw[f];decide)]at ht
     refine Zt (t:=.fr (.list .lit)) (u:=.bool) (oT.un (Hs hr (by omega))) ⟨xC (t:=.fr .step) ?_,?_⟩
     ·have h1:=hlen k
      have h2:=Abw (λn=> !mE (x.getD k []) n) ((s.getD k []).take j)
      rw[Aak]at h2
      rw[It,It,Aae];show(_+1)*40<=_
      omega
     ·refine hn2 hj (_,_) ?_
      rw[ht,Li,AaG st,AaG (vA m i s x k)];rfl
   ·have hj':j=(s.getD k []).length:=by omega
    subst hj';rw[zY,Aam];exact hn hks (_,_) (by rw[UH];rfl)
  ·have hk':k=s.length:=by omega
   subst hk';rw[zY];exact⟨rfl,rfl⟩
theorem PC{m:zE}{l:AcS}{d:AcR}(hk:wJ m l d)(hb:wI (eG m d)<=36):
  xT mG [Ac3] (zak m l ([],eG m d)) (.tup []) (zak m l (Nz m l 37 ([],eG m d))):=by
 refine RY m.vars m.cons m.goal m.var l (eG m d) [] λok ok2=> ?_
 rw[Q6];have hll:=hk.len;have hcl:=hk.mc.right.cons
 suffices H:∀(k:Nat) (p:Br),Tr m l d p.1 p.2->wI p.2<=k->∀q,q=Nz m l (k+1) p->wV (λd h1=>d=D.tup []/\h1=zak m l q) (k+2) true m.vars m.cons m.goal m.var l p.2 p.1 from⟨_,H 36 _ (Tr.begin hk) hb _ rfl⟩
 intro k
 induction k using Nat.strongRecOn with
 |ind k ih=>
  intro p h hsz q hq
  have out:∀(n:Nat) (p:Br),wV (λd h1=>d=D.tup []/\h1=zak m l p) (n+1) false m.vars m.cons m.goal m.var l p.2 p.1:=λn p=>by
   rw[aV];exact⟨rfl,rfl⟩
  rw[aV];refine zG (oT.un (xB _)) (zC (λf=> ?_) λf=> ?_)
  ·have f:zZ p.2=false:=by simpa using f
   rw[Nz,An (by rw[f];decide)]at hq
   obtain⟨j1,j2,j3⟩:=Px h hk f;have hpos:=Bp (by rw[h.len];exact hk.mc.pos) f
   have fin:∀(r:Br×Bool),Tr m l d r.1.1 r.1.2->r=fy m m.cons.length 0 p false->
     yJ pZ [.agg [.sl .var m.vars,.sl .con m.cons,dI m.goal,dI m.var],.sl (.fr (.list .int)) r.1.2,dB false,.sl (.list .lit) l] (.fr (.list (.list .int))) λf23=>
      yJ yF [.sl (.fr (.list .int)) f23,.sl (.fr (.list .int)) r.1.2,.clo xW none []] .bool λs24=>
       zT (!s24) (wV (λd h1=>d=D.tup []/\h1=zak m l q) (k+1) true m.vars m.cons m.goal m.var l f23 r.1.1)
        (wV (λd h1=>d=D.tup []/\h1=zak m l q) (k+1) r.2 m.vars m.cons m.goal m.var l f23 r.1.1):=λr hr e=>by
    have hrd:iE m l p=((r.1.1,tH m false l r.1.2),if tH m false l r.1.2=r.1.2 then r.2 else true):=by rw[iE,<-e]
    refine zG (oT.un (zfX hk.mc (ZZ hk.mc.right hr.store) (by omega))) (zG (oT.un (zmC _ _)) ?_)
    have nxt:(iE m l p).2=true->wV (λd h1=>d=D.tup []/\h1=zak m l q) (k+1) true m.vars m.cons m.goal m.var l (tH m false l r.1.2) r.1.1:=λe2=>by
     rw[As e2]at hq
     have:=j2 e2
     match k,ih,hsz,hq with
     |0,ih,hsz,hq=>omega
     |k+1,ih,hsz,hq=>
      have:=ih k (by omega) (iE m l p).1 j1 (by omega) q hq
      rw[hrd]at this
      exact this
    refine zC (λg=> ?_) λg=> ?_
    ·have g:tH m false l r.1.2≠r.1.2:=by simpa using g
     exact nxt (by rw[hrd];exact An g)
    ·have g:tH m false l r.1.2=r.1.2:=by simpa using g
     have g2:(iE m l p).2=r.2:=by rw[hrd];exact As g
     cases e2:r.2
     ·rw[g2,e2,An (by decide)]at hq
      have:=out k q;rw[hq,hrd]at this
      rw[hq,hrd];exact this
     ·exact nxt (g2.trans e2)
   suffices H2:∀(j i:Nat) (p2:Br) (c:Bool),i+j=m.cons.length->Tr m l d p2.1 p2.2->fy m j i p2 c=fy m m.cons.length 0 p false->oO (λd h1=>d=D.tup []/\h1=zak m l q) (k+1) (j+1) c (i:Int) m.vars m.cons m.goal m.var l p2.2 p2.1 from⟨_,H2 m.cons.length 0 p false (Aat _) h rfl⟩
   intro j
   induction j with
   |zero=>
    intro i p2 c hij h2 he;have hi:i=m.cons.length:=by omega
    subst hi;rw[aU,zY];exact fin (p2,c) h2 he
   |succ j ihj=>
    intro i p2 c hij h2 he;have hi:i<m.cons.length:=by omega
    rw[aU,yD hi];refine zG (oT.un (xB _)) (zC (λg=> ?_) λg=> ?_)
    ·have g:zZ p2.2=false:=by simpa using g
     rw[fy,An (by rw[g];decide)]at he
     obtain⟨t1,t2,t3⟩:=Hp h2 hk hi g;refine⟨_,_,_,PB h2 hk hi g,?_⟩;have hw:yU ((i:Int)+1)=((i+1:Nat):Int):=cH (by omega)
     rw[hw];refine zC (λe=> ?_) λe=> ?_
     ·rw[e]at he;exact ihj (i+1) _ true (by omega) t1 he
     ·rw[e]at he;exact ihj (i+1) _ c (by omega) t1 he
    ·have g:zZ p2.2=true:=by simpa using g
     rw[fy,As g]at he
     exact fin (p2,c) h2 he
  ·have f:zZ p.2=true:=by simpa using f
   rw[Nz,As f]at hq
   rw[hq];exact⟨rfl,rfl⟩
theorem FY{m:zE}{l:AcS}{d:AcR}(hk:wJ m l d):vL YS [dM m,.sl (.list .lit) l,.sl .lit d] (.sl (.fr .step) (cL m l d)):=
 IX m l d λok=>by
  rw[Fu];have hb:=Tr.begin hk;have hsz:wI (eG m d)<=36:=by have:=hb.size;simpa using this
  have hr:(Nz m l 37 ([],eG m d)).1.length+wI (Nz m l 37 ([],eG m d)).2<=36:=(OE hk 36 ([],eG m d) hb hsz).1.size;refine zG (zal hk.mc.right d) ⟨_,_,PC hk hsz,zG (Ht (by have:=hk.dl;omega) hk.near) ⟨xC (t:=.fr .step) ?_,rfl⟩⟩
  show(_+1)*40<=_
  omega
end Go.Proofs.YtdnmkinmcdihnaaGreatDoor
namespace Go.Proofs.YtdnmkinmcdihnaaGreatDoor
open Go.Proofs.Tryz
open Go.RowKit
variable[Lo]
def plE:D->D
 | .agg cs=> .agg (cs.map plD)
 |d=>plD d
theorem zh3{w:World}{S:Nat->Prop}{v:Value}{d:D}(h:Rp w S v d):Rp w S v (plE d):=by
 cases d
 case agg cs=>
  obtain⟨vs,rfl,hl,he⟩:=h.agg_inv;refine .agg vs _ (by simpa using hl) λi d hd=> ?_
  rw[Aaw,AaD]at hd
  obtain⟨d0,h0,rfl⟩:=hd;exact zh2 (he i d0 h0)
 all_goals exact zh2 h
theorem oT.unA{P:AcO}{f:AcM}{args:AcT}{r:D}(h:oT P f (args.map plE) r):oT P f args r:=λw S vs hS hl hv hg=>
 h w S vs hS (by rw[Aae];exact hl) (λi d hd=>by
  rw[Aaw,AaD]at hd
  obtain⟨d0,h0,rfl⟩:=hd;exact zh3 (hv i d0 h0)) hg
def plT:D->D
 | .tup ds=> .tup (ds.map plE)
 |d=>plE d
theorem ztm{w:World}{S:Nat->Prop}{v:Value}{d:D}(h:Rp w S v d):Rp w S v (plT d):=by
 cases d
 case tup cs=>
  obtain⟨vs,rfl,hl,he⟩:=h.tup_inv;refine .tup vs _ (by simpa using hl) λi d hd=> ?_
  rw[Aaw,AaD]at hd
  obtain⟨d0,h0,rfl⟩:=hd;exact zh3 (he i d0 h0)
 all_goals exact zh3 h
theorem oT.unR{P:AcO}{f:AcM}{args:AcT}{r:D}(h:oT P f args r):oT P f args (plT r):=λw S vs hS hl hv hg=>
 (h w S vs hS hl hv hg).mono λe w' ⟨v,he,hr,hb⟩=>⟨v,he,ztm hr,hb⟩
theorem zkZ{P:AcO}{f:AcM}{args:AcT}{a:T5}{e:Int}(h:oT P f args (.tup [Yn (.fr .ans) a,dI e])):oT P f args (.tup [Yn .ans a,dI e]):=h.unR
theorem zmE{P:AcO}{f:AcM}{args:AcT}{a:AcQ}{b:Bool}{e:Int}(h:oT P f args (.tup [.sl (.fr (.list .int)) a,dB b,dI e])):oT P f args (.tup [dS a,dB b,dI e]):=h.unR
theorem zry{P:AcO}{f:AcM}{args:AcT}{m:zE}{a e:Int}(h:oT P f args (.tup [Yn (.fr .mdl) m,dI a,dI e])):oT P f args (.tup [Yn .mdl m,dI a,dI e]):=h.unR
end Go.Proofs.YtdnmkinmcdihnaaGreatDoor
namespace Go.Proofs.YtdnmkinmcdihnaaGreatDoor
open Go.Proofs.Tryz
open Go.RowKit
variable[Lo]
theorem zk0{w:World}{S:Nat->Prop}{pl:Nat->Value}{p:Value}{e:AcN}{l:AcP}(h:jF w S pl p (.row e (.fr .int) l)):jF w S pl p (.row e .int l):=by
 obtain⟨h0,css,h1,h2,h3,h4⟩:=h;exact⟨h0,css,h1,h2,h3,λi x cs hx hc=>h4 i x cs hx hc⟩
theorem zrz{w:World}{S:Nat->Prop}{pl:Nat->Value}{p:Value}{e:AcN}{l:AcP}(h:jF w S pl p (.row e .int l)):jF w S pl p (.row e (.fr .int) l):=by
 obtain⟨h0,css,h1,h2,h3,h4⟩:=h;exact⟨h0,css,h1,h2,h3,λi x cs hx hc=>h4 i x cs hx hc⟩
theorem zk1{w:World}{S:Nat->Prop}{pl:Nat->Value}{k:Nat}{o o':yE}(h:Av w S pl [(k,o)])(ho:jF w S pl (pl k) o->jF w S pl (pl k) o'):Av w S pl [(k,o')]:=by
 have hl:zW k [(k,o)]=some o:=by rw[xM,As rfl]
 refine⟨λj o1 hj=> ?_,λj o1 b hj hb=> ?_,λj j' o1 o2 b hj hj' _ _=> ?_⟩
 ·obtain⟨rfl,rfl⟩:=W3 hj;exact ho (h.ok j _ hl)
 ·obtain⟨rfl,rfl⟩:=W3 hj;exact h.priv j _ b hl hb
 ·obtain⟨rfl,rfl⟩:=W3 hj;obtain⟨rfl,_⟩:=W3 hj';rfl
theorem TL{pl:Nat->Value}{k b:Nat}{o o':yE}(h:o9 pl [(k,o)] b):o9 pl [(k,o')] b:=by
 obtain⟨j,o1,hj,hb⟩:=h;obtain⟨rfl,rfl⟩:=W3 hj;exact⟨j,o',by rw[xM,As rfl],hb⟩
theorem zh4(l:AcP):xT vN [.own 1000] [(1000,.row 3 (.fr .int) l)] (.tup []) [(1000,.row 3 (.fr .int) (aW l))]:=by
 intro w S vs pl hS hl hv hH hG;refine(Oz l w S vs pl hS hl hv (zk1 hH zk0) ⟨λg hg=>⟨(hG.1 g hg).1,λh=>(hG.1 g hg).2 (TL h)⟩,hG.2.1,λb h=>hG.2.2 b (TL h)⟩).mono λe w' ⟨v,S',pl',h1,h2,h3,h4,h5,h6,h7,h8⟩=> ?_
 exact⟨v,S',pl',h1,h2,zk1 h3 zrz,h4,λb hb=>(h5 b hb).imp id (Or.imp TL id),λb hb=>(h6 b (TL hb)).imp TL id,h7,⟨h8.os,h8.tape,h8.output,h8.size,λk hk ho=>h8.block k hk λh=>ho (TL h)⟩⟩
theorem zam(l:AcP):xT wT [.own 1000] [(1000,.row 3 (.fr .int) l)] (.sl (.fr .int) (Lib.compact l)) []:=by
 intro w S vs pl hS hl hv hH hG;have e0:vs= #[pl 1000]:=CA hl (hv 0 _ rfl);subst e0;obtain⟨hb,css,hcl,hown,hcs,hrd⟩:=zk0 (hH.ok 1000 _ rfl);obtain⟨hf,hin⟩:=zdt hcl hrd;have hb8:l.length*8<=140737488355328:=hb;have hcle:=M4 l;have hcin:∀x∈Lib.compact l,xE x:=λx hx=>hin x (Q7 hx)
 rcases hown.2 with⟨hp,hn⟩|⟨g,cap,cur,hp,_,hh,hc1,hc2,hc3,hc4⟩
 ·obtain rfl:l=[]:=AaX.1 hn
  rw[hp];refine(slices_Compact_int_empty none 0 w).mono λe w' ⟨he,hw⟩=> ?_
  subst hw;refine⟨_,S,pl,he,?_,Et,hS,λb h=> .inl h,λb ⟨k,o,h,_⟩=>(AbL _ h.symm).elim,λ_ _=>rfl,.of (Below.refl _ _)⟩
  have:Lib.compact ([]:AcP)=[]:=AaX.1 (by have:=hcle;simpa using this)
  rw[this];exact Rp.sl (.fr .int) [] _ ⟨_,rfl,none,0,rfl,by simp,by simp,by simp,λ_=>rfl,λh=>by simp at h⟩
 ·have hc3':cur.size=cap:=hc3.trans (Aa9 _)
  have hc4':cur.toList.take l.length=l.map (Value.int .i64):=by rw[<-hf,<-hc4];congr 1;exact(Aa9 _).symm
  have hg:g<w.heap.size:=(Abd.1 hh).1;rw[hp];refine(slices_Compact_int g 0 cap l w (I1 (cap:=cap) hh hc4') (by omega) hc1).mono λe w' ⟨he,n,hw⟩=> ?_
  subst hw;have hsz:(Sort.putRow (Value.int .i64) (Sort.ahead w n) g 0 (Lib.compact l++List.replicate (l.length-(Lib.compact l).length) 0).toArray).heap.size=w.heap.size:=by simp
  have hpb:sR (pl 1000)=some g:=by rw[hp];rfl
  refine⟨_,λb=>S b\/b=g,pl,he,?_,Et,λb h=> ?_,λb h=> ?_,λb ⟨k,o,h,_⟩=>(AbL _ h.symm).elim,λ_ _=>rfl,?_⟩
  ·refine Rp.sl (.fr .int) _ _ ⟨_,rfl,some ⟨g,0,none⟩,cap,rfl,by show _*8<=_;omega,by omega,hc2,(λh=>by cases h),λ_=>⟨g,0,rfl,⟨.inr rfl,hG.2.2 g ⟨1000,_,rfl,hpb⟩,_,_,Kv _ n hh⟩,λi x hx=>⟨[.int .i64 x],⟨rfl,hcin _ (AaS hx)⟩,λj u hu=> ?_⟩⟩⟩
   have hj:j=0:=by
    cases j with
    |zero=>rfl
    |succ j=>simp at hu
   subst hj;cases hu;rw[cell_of_row _ g _ _ _ (0,0) (Kv _ n hh)];have hi:i<(Lib.compact l).length:=(AaB.1 hx).1;have:=Cz (d:=(Lib.compact l++List.replicate (l.length-(Lib.compact l).length) 0).toArray) (cur:=cur) (by simp;omega)
   rw[show 0+i*xU.size Int+0=i from by show 0+i*1+0=i;omega]
   rw[<-AaE];have h5:=AS (λz:List Value=>z[i]?) this
   simp only[Abs,Aaw,List.toList_toArray]at h5
   rw[As (by simp;omega),AaQ hi,hx]at h5
   exact h5
  ·rw[hsz]
   rcases h with h|rfl
   ·exact hS b h
   ·exact hg
  ·rcases h with h|rfl
   ·exact .inl h
   ·exact .inr (.inl ⟨1000,_,rfl,hpb⟩)
  ·refine⟨rfl,rfl,rfl,by rw[hsz];exact IN _,λk hk hO=>I2 _ _ λe=>hO ?_⟩
   subst e;exact⟨1000,_,rfl,hpb⟩
theorem Bw{c:zF}{nv:Nat}(hc:vQ c nv):vL tT [dC c] (.sl (.fr .int) (yI c nv)):=
 FV c λok=>by
  have hm:=hc.many;rw[Bt];refine⟨_,GK c.vars,?_⟩;refine up (I:=λn v a=>Z5 c _ n v a) 0 c.lits.length rfl (Is _) (by omega) (λk a=>a=c.vars++(c.lits.take k).map λl=>l.var) (by simp) λn k a _ hk ha hn=> ?_
  subst ha;rw[K4]
  by_cases h:k<c.lits.length
  ·rw[yD h,yA (t:=.lit) h]
   refine⟨zI h,xC (t:=.fr .int) ?_,hn h _ ?_⟩
   ·rw[It,Aae,Aak]
    show(_+1)*8<=_
    omega
   ·rw[cR _ h,AaG]
  ·have hk':k=c.lits.length:=by omega
   subst hk';rw[zY,Aam];refine⟨_,zh4 _,_,zam _,?_⟩;rw[zfs hc]
theorem FZ(m:zE)(con:Int):vL ot [dM m,dI con] (.tup [.sl (.fr .int) (zoH (Wm m con) (yI (yV m con) m.vars.length)),dI (Wm m con)]):=
 Hq m con λok=>by
  rw[FU];refine zG (W4 m con _) ?_;rw[zft];refine zC (λe=> ?_) λe=> ?_
  ·rw[zsm (sN e)]
  ·have e:=vM e
   rw[zsl e,e];exact⟨uW.2 (nD e).2,zG (Bw (qJ e)) rfl⟩
end Go.Proofs.YtdnmkinmcdihnaaGreatDoor
namespace Go.Proofs.YtdnmkinmcdihnaaGreatDoor
open Go.Proofs.Tryz
open Go.RowKit
set_option maxRecDepth 100000
variable[Lo]
def EvS:TE where
 zs:=[(3,(false,[dI 0])),(9,(false,[.str (⟨#[]⟩)])),(22,(false,[.nil])),(23,(false,[.nil])),(25,(true,[.sl .var ([]:AcU),.sl .con ([]:AcV),dI 0,dI 0])),(28,(false,[.nil])),(29,(false,[.nil])),(31,(true,[dI 0,.sl .int ([]:AcP),.sl .step ([]:AcW)])),(61,(false,[.nil]))]
 sl:=[(22,(49,.var)),(23,(52,.con)),(28,(3,.int)),(29,(71,.step)),(35,(28,.list .int)),(50,(66,.lit)),(61,(66,.lit)),(69,(61,.list .lit)),(87,(28,.list .int)),(91,(150,.tok)),(115,(5,.byte)),(172,(9,.str)),(221,(50,.list .lit)),(258,(262,.term))]
 fld:=[(25,[(0,1),(1,1),(2,1),(3,1)]),(31,[(0,1),(1,1),(2,1)]),(49,[(0,1),(1,1),(2,1)]),(52,[(0,1),(1,1),(2,1),(3,1),(4,1),(5,1)]),(66,[(0,1),(1,1),(2,1)]),(71,[(0,1),(1,1),(2,1)])]
 strs:=[]
 ints:=[(2,.i64),(3,.i64),(5,.u8),(6,.u8),(32,.i64),(228,.i64),(288,.i64),(314,.u8),(315,.u8)]
 bools:=[]
 sig:=[(qW,[.fr .ans,.int]),(fR,[.fr .ans,.int]),(nX,[.fr (.list (.list .int)),.bool,.int]),(ot,[.fr (.list .int),.int]),(jU,[.fr .mdl,.int,.int]),(ou,[.bool,.int]),(rM,[.bool]),(vF,[.bool])]
 mps:=[]
 sts:=[]
 hsig:=[]
 vals:=[81,85,98,102,119,133,188,256,268]
 arr:=[]
 thr:=[]
 sp:=[(wE,.int),(vW,.step),(qF,.lit)]
theorem ztn:EvS.chk prog=true:=by kernel_rfl
theorem zto:∀x∈EvS.sig,∀args w,(callFunc x.1 args).run prog w=.ok (.enter x.1 args) w:=by
 intro x hx args w;simp only[EvS,Aad,Aa6,or_false]at hx
 rcases hx with rfl|rfl|rfl|rfl|rfl|rfl|rfl|rfl
 ·exact call10 args w
 ·exact call11 args w
 ·exact call12 args w
 ·exact call13 args w
 ·exact call14 args w
 ·exact call15 args w
 ·exact call16 args w
 ·exact call17 args w
theorem zrA:EvS.chk2 prog=true:=by kernel_rfl
theorem zrB:∀x∈EvS.hsig,fV x.1:=by
 intro x hx;simp[EvS]at hx
theorem K6:vE prog EvS:=QD (by kernel_rfl) ztn zrA zto zrB
theorem zk2:∀f t,zW f EvS.sp=some t->fV f:=λf t h=>by
 refine Gj ?_ h;intro x hx args w;simp only[EvS,Aad,Aa6,or_false]at hx
 rcases hx with rfl|rfl|rfl
 ·exact call18 args w
 ·exact call19 args w
 ·exact call44 args w
abbrev LS(A:xF)(fn:Func)(path:AcZ)(cur n:Nat)(σ:St)(K:Ex->St->Prop):Prop:=DA (Sg prog EvS A (sub path (vB fn)) cur) A (Yq A cur) n σ K
abbrev sS(A:xF)(fn:Func)(path:AcZ)(cur:Nat)(K:Ex->St->Prop):=zuC prog EvS A (sub path (vB fn)) cur K
abbrev iS(A:xF)(fn:Func)(path:AcZ)(cur n:Nat)(K:Ex->St->Prop):=zks (Sg prog EvS A (sub path (vB fn)) cur) A (Yq A cur) n K
def iF:xF:= {own:=[],live:=[(0,([0,2],[]))],n:=12,keep:=([0,2],[])}
def oX(a:Nat)(b:AcP)(c:Int):Prop:=LS iF f18 [1,0,0] 0 a ⟨[(0,.sl (.fr .int) b),(2,dI c)],[]⟩ (cG 0 zqN)
theorem Vj(c:Nat)(a:AcP)(b:Int):oX (c+1) a b=
 (zT (decide (b<(a.length:Int)))
 (wW b a.length=true/\
 ∀d:AcP,d.length=a.length->
 oX c d (yU (b+1)))
 (True)):=by kernel_rfl
theorem TM(a:AcP):fnS prog EvS iF (vB f18) [.sl (.fr .int) a]=
 (∃n0,oX n0 a 0):=by kernel_rfl
theorem TN(h:∀a:AcP,En (.list .int) a->fnS prog EvS iF (vB f18) [.sl (.fr .int) a]):AA prog wE .int:=zhb K6 zk2 func18 (by kernel_rfl) (by kernel_rfl) (by rw[ntmps18];rfl) (by rw[ntmps18];decide) h
def lZ:xF:= {own:=[],live:=[(0,([0,2],[]))],n:=13,keep:=([0,2],[])}
def pS(a:Nat)(b:AcR)(c:Int):Prop:=LS lZ f44 [1,0,0] 0 a ⟨[(0,.sl (.fr .lit) b),(2,dI c)],[]⟩ (cG 0 zqN)
theorem XS(c:Nat)(a:AcR)(b:Int):pS (c+1) a b=
 (zT (decide (b<(a.length:Int)))
 (wW b a.length=true/\
 ∀d:AcR,d.length=a.length->
 pS c d (yU (b+1)))
 (True)):=by kernel_rfl
theorem VJ(a:AcR):fnS prog EvS lZ (vB f44) [.sl (.fr .lit) a]=
 (∃n0,pS n0 a 0):=by kernel_rfl
theorem VK(h:∀a:AcR,En (.list .lit) a->fnS prog EvS lZ (vB f44) [.sl (.fr .lit) a]):AA prog qF .lit:=zhb K6 zk2 func44 (by kernel_rfl) (by kernel_rfl) (by rw[ntmps44];rfl) (by rw[ntmps44];decide) h
def jA:xF:= {own:=[],live:=[(0,([0,2],[]))],n:=19,keep:=([0,2],[])}
def oC(a:Nat)(b:AcW)(c:Int):Prop:=LS jA f19 [1,0,0] 0 a ⟨[(0,.sl (.fr .step) b),(2,dI c)],[]⟩ (cG 0 zqN)
theorem Wu(d:Nat)(b:AcW)(a:Int):oC (d+1) b a=
 (zT (decide (a<(b.length:Int)))
 (wW a b.length=true/\
 AA prog qF .lit/\
 ∀c:AcW,c.length=b.length->
 wW a c.length=true/\
 ∀e:AcW,e.length=c.length->
 oC d e (yU (a+1)))
 (True)):=by kernel_rfl
theorem UI(a:AcW):fnS prog EvS jA (vB f19) [.sl (.fr .step) a]=
 (∃n0,oC n0 a 0):=by kernel_rfl
theorem UJ(h:∀a:AcW,En (.list .step) a->fnS prog EvS jA (vB f19) [.sl (.fr .step) a]):AA prog vW .step:=zhb K6 zk2 func19 (by kernel_rfl) (by kernel_rfl) (by rw[ntmps19];rfl) (by rw[ntmps19];decide) h
def Zc:xF:= {own:=[3,7,8,13,15,22,58,61],live:=[],n:=191,first:=true}
theorem UK(m:zE)(s:AcL)(fuel:Int)(Q:St->Prop):den prog Ev Zc (zop 3 (vB Tryz.f3)) 0 (St.init [dM m,.str s,dI fuel]) (zsY [] ([1,2,3,6,7],[3,7]) Q)=
 (yJ nI [] .bool λb=>
 zT (!b)
 (False)
 (yJ mS [] .bool λc=>
 zT (!c)
 (False)
 (yJ oV [] .bool λd=>
 zT (!d)
 (False)
 (yJ mT [] .bool λe=>
 zT (!e)
 (False)
 (yJ nJ [] .bool λf=>
 zT (!f)
 (False)
 (yJ oW [dM m] .mdl λa=>
 Q ⟨[(1,.str s),(2,dI fuel),(3,.ptr 3 0),(6,dB false),(7,.ptr 7 0)],[(3,.cells (Oy m [])),(7,.cells (Oy a []))]⟩)))))):=by kernel_rfl
def zS:xF:= {own:=[3,7,8,13,15,22,58,61],live:=[(0,([1,2,3,7,8,9,10,11,12],[3,7,8,58])),(2,([1,2,3,7,8,9,10,11,12,17,20,22,27],[3,7,8,22,58])),(4,([1,2,3,7,8,9,10,11,12,22,28],[3,7,8,22,58])),(6,([1,2,3,7,8,9,10,11,12,22,29],[3,7,8,22,58]))],n:=191,first:=true,keep:=([1,2,3,6,7,8,9,10,11,12,13,15,17,20,22,27,28,29],[3,7,8,11,13,15,22,58,61])}
def rS(m:zE)(s:AcL)(fuel:Int)(a:T5)(b:Int)(c:Nat)(d:Int)(e:Nat)(f g:Int)(h:AcP)(i:AcW)(j:AcU)(k:AcV)(l n:Int):Prop:=LS zS Tryz.f3 [1,1,1,1,1,0,1,0,0,1,0,0,1,1,1,1,1,1,1,1,1,1,1,1,1,1,0,1,0,0] 6 e ⟨[(1,.str s),(2,dI fuel),(3,.ptr 3 0),(7,.ptr 7 0),(8,.ptr 8 0),(9,dI b),(10,dI a.verdict),(11,.own 58),(12,dI d),(22,.ptr 22 0),(29,dI f)],[(3,.cells [.sl (.od .var) m.vars,.sl (.od .con) m.cons,dI m.goal,dI m.var]),(7,.cells [.sl (.od .var) m.vars,.sl (.od .con) m.cons,dI m.goal,dI m.var]),(8,.cells [dI g,.sl (.fr .int) h,.sl (.fr .step) i]),(22,.cells [.sl (.fr .var) j,.sl (.fr .con) k,dI l,dI n]),(58,.row 3 .int (([]:AcP)++a.values))]⟩ (cG 6 (sS zS Tryz.f3 [1,1,1,1,1,0,1,0,0,1,0,0,1,1,1,1,1,1,1,1,1,1,1,1,1,1,1] 1 (cG 1 (sS zS Tryz.f3 [1,1,1,1,1,0,1,0,0,1,1] 0 (iS zS Tryz.f3 [1,1,1,1,1,0,1,0,0] 0 c (cG 0 (sS zS Tryz.f3 [1,1,1,1,1,1] 0 (zc5 6))))))))
def rT(m:zE)(s:AcL)(fuel:Int)(a:T5)(b:Int)(c:Nat)(d:Int)(e:Nat)(f g:Int)(h:AcP)(i:AcW)(j:AcU)(k:AcV)(l n:Int):Prop:=LS zS Tryz.f3 [1,1,1,1,1,0,1,0,0,1,0,0,1,1,1,1,1,1,1,1,1,1,1,1,1,0,1,0,0] 4 e ⟨[(1,.str s),(2,dI fuel),(3,.ptr 3 0),(7,.ptr 7 0),(8,.ptr 8 0),(9,dI b),(10,dI a.verdict),(11,.own 58),(12,dI d),(22,.ptr 22 0),(28,dI f)],[(3,.cells [.sl (.od .var) m.vars,.sl (.od .con) m.cons,dI m.goal,dI m.var]),(7,.cells [.sl (.od .var) m.vars,.sl (.od .con) m.cons,dI m.goal,dI m.var]),(8,.cells [dI g,.sl (.fr .int) h,.sl (.fr .step) i]),(22,.cells [.sl (.fr .var) j,.sl (.fr .con) k,dI l,dI n]),(58,.row 3 .int (([]:AcP)++a.values))]⟩ (cG 4 (sS zS Tryz.f3 [1,1,1,1,1,0,1,0,0,1,0,0,1,1,1,1,1,1,1,1,1,1,1,1,1,1] 1 (cG 1 (sS zS Tryz.f3 [1,1,1,1,1,0,1,0,0,1,1] 0 (iS zS Tryz.f3 [1,1,1,1,1,0,1,0,0] 0 c (cG 0 (sS zS Tryz.f3 [1,1,1,1,1,1] 0 (zc5 6))))))))
def rU(m:zE)(s:AcL)(fuel:Int)(a:T5)(b:Int)(c:Nat)(d:Int)(e:Nat)(f:AcQ)(g:AcP)(h i:Int)(j:AcP)(k:AcW)(l:AcU)(n:AcV)(o p:Int):Prop:=LS zS Tryz.f3 [1,1,1,1,1,0,1,0,0,1,0,0,1,1,1,1,1,1,1,1,1,1,1,0,1,0,0] 2 e ⟨[(1,.str s),(2,dI fuel),(3,.ptr 3 0),(7,.ptr 7 0),(8,.ptr 8 0),(9,dI b),(10,dI a.verdict),(11,.own 58),(12,dI d),(17,.sl (.fr (.list .int)) f),(20,.sl (.fr .int) g),(22,.ptr 22 0),(27,dI h)],[(3,.cells [.sl (.od .var) m.vars,.sl (.od .con) m.cons,dI m.goal,dI m.var]),(7,.cells [.sl (.od .var) m.vars,.sl (.od .con) m.cons,dI m.goal,dI m.var]),(8,.cells [dI i,.sl (.fr .int) j,.sl (.fr .step) k]),(22,.cells [.sl (.fr .var) l,.sl (.fr .con) n,dI o,dI p]),(58,.row 3 .int (([]:AcP)++a.values))]⟩ (cG 2 (sS zS Tryz.f3 [1,1,1,1,1,0,1,0,0,1,0,0,1,1,1,1,1,1,1,1,1,1,1,1] 1 (cG 1 (sS zS Tryz.f3 [1,1,1,1,1,0,1,0,0,1,1] 0 (iS zS Tryz.f3 [1,1,1,1,1,0,1,0,0] 0 c (cG 0 (sS zS Tryz.f3 [1,1,1,1,1,1] 0 (zc5 6))))))))
def Vk(m:zE)(s:AcL)(fuel:Int)(a:T5)(b:Int)(c:Nat)(d:Int)(e:Nat)(f:AcQ)(g:AcP)(h i:Int)(j:AcP)(k:AcW)(l:AcU)(n:AcV)(o p:Int):Prop:=LS zS Tryz.f3 [1,1,1,1,1,0,1,0,0,1,0,0,1,1,1,1,1,1,1,1,1,1,1,0,1,0,0] 2 e ⟨[(1,.str s),(2,dI fuel),(3,.ptr 3 0),(7,.ptr 7 0),(8,.ptr 8 0),(9,dI b),(10,dI a.verdict),(11,.own 58),(12,dI d),(17,.sl (.fr (.list .int)) f),(20,.sl (.fr .int) g),(22,.ptr 22 0),(27,dI h)],[(3,.cells [.sl (.od .var) m.vars,.sl (.od .con) m.cons,dI m.goal,dI m.var]),(7,.cells [.sl (.od .var) m.vars,.sl (.od .con) m.cons,dI m.goal,dI m.var]),(8,.cells [dI i,.sl (.fr .int) j,.sl (.fr .step) k]),(22,.cells [.sl (.fr .var) l,.sl (.fr .con) n,dI o,dI p]),(58,.row 3 .int (([]:AcP)++a.values))]⟩ (cG 2 (sS zS Tryz.f3 [1,1,1,1,1,0,1,0,0,1,0,0,1,1,1,1,1,1,1,1,1,1,1,1] 1 (cG 1 (sS zS Tryz.f3 [1,1,1,1,1,0,1,0,0,1,1] 0 (iS zS Tryz.f3 [1,1,1,1,1,0,1,0,0] 0 c (cG 0 (sS zS Tryz.f3 [1,1,1,1,1,1] 0 (zc5 6))))))))
def wQ(m:zE)(s:AcL)(fuel:Int)(a:T5)(b:Int)(c:Nat)(d e:Int)(f:AcP)(g:AcW):Prop:=LS zS Tryz.f3 [1,1,1,1,1,0,1,0,0] 0 c ⟨[(1,.str s),(2,dI fuel),(3,.ptr 3 0),(7,.ptr 7 0),(8,.ptr 8 0),(9,dI b),(10,dI a.verdict),(11,.own 58),(12,dI d)],[(3,.cells [.sl (.od .var) m.vars,.sl (.od .con) m.cons,dI m.goal,dI m.var]),(7,.cells [.sl (.od .var) m.vars,.sl (.od .con) m.cons,dI m.goal,dI m.var]),(8,.cells [dI e,.sl (.fr .int) f,.sl (.fr .step) g]),(58,.row 3 .int (([]:AcP)++a.values))]⟩ (cG 0 (sS zS Tryz.f3 [1,1,1,1,1,1] 0 (zc5 6)))
theorem Wv(m:zE)(s:AcL)(fuel:Int)(c:T5)(d:Int)(e:Nat)(f:Int)(l:Nat)(a g:Int)(h:AcP)(i:AcW)(j:AcU)(b:AcV)(n o:Int):rS m s fuel c d e f (l+1) a g h i j b n o=
 (zT (decide (a<(b.length:Int)))
 (wW a b.length=true/\AA prog wE .int/\
 ∀p:AcP,p.length=h.length->∀q:AcW,q.length=i.length->∀r:AcU,r.length=j.length->∀k:AcV,k.length=b.length->
 wW a k.length=true/\∀t:AcP,t.length=p.length->∀u:AcW,u.length=q.length->∀v:AcU,v.length=r.length->∀w:AcV,w.length=k.length->
 rS m s fuel c d e f l (yU (a+1)) g t u v w n o)
 (AA prog wE .int/\
 ∀x:AcP,x.length=h.length->∀y:AcW,y.length=i.length->∀z:AcU,z.length=j.length->∀aa:AcV,aa.length=b.length->
 wQ m s fuel c d e (yU (f+1)) g x y)):=by kernel_rfl
theorem Ww(m:zE)(s:AcL)(fuel:Int)(c:T5)(d:Int)(e:Nat)(f:Int)(n:Nat)(b g:Int)(h:AcP)(i:AcW)(a:AcU)(j:AcV)(k l:Int):rT m s fuel c d e f (n+1) b g h i a j k l=
 (zT (decide (b<(a.length:Int)))
 (wW b a.length=true/\∀o:AcP,o.length=h.length->∀p:AcW,p.length=i.length->∀q:AcU,q.length=a.length->∀r:AcV,r.length=j.length->
 rT m s fuel c d e f n (yU (b+1)) g o p q r k l)
 (∃n6,rS m s fuel c d e f n6 0 g h i a j k l)):=by kernel_rfl
theorem Wx(m:zE)(s:AcL)(fuel:Int)(c:T5)(d:Int)(e:Nat)(f:Int)(p:Nat)(a:AcQ)(g:AcP)(b h:Int)(i:AcP)(j:AcW)(k:AcU)(l:AcV)(n o:Int):rU m s fuel c d e f (p+1) a g b h i j k l n o=
 (zT (decide (b<(a.length:Int)))
 (wW b a.length=true/\AA prog wE .int/\
 ∀q:AcQ,q.length=a.length->∀r:AcP,r.length=g.length->∀t:AcP,t.length=i.length->∀u:AcW,u.length=j.length->∀v:AcU,v.length=k.length->∀w:AcV,w.length=l.length->
 rU m s fuel c d e f p q r (yU (b+1)) h t u v w n o)
 (AA prog wE .int/\
 ∀ab:AcQ,ab.length=a.length->∀ac:AcP,ac.length=g.length->∀x:AcP,x.length=i.length->∀y:AcW,y.length=j.length->∀z:AcU,z.length=k.length->∀aa:AcV,aa.length=l.length->
 ∃n4,rT m s fuel c d e f n4 0 h x y z aa n o)):=by kernel_rfl
theorem Wy(m:zE)(s:AcL)(fuel:Int)(c:T5)(d:Int)(g:Nat)(e h:Int)(i:AcP)(j:AcW):wQ m s fuel c d (g+1) e h i j=
 (zT (decide (e<2))
 (c2Q qW [.agg [.sl (.od .var) m.vars,.sl (.od .con) m.cons,dI m.goal,dI m.var],dI fuel] (.fr .ans) .int λb s8=>
 c2Q fR [.agg [.sl (.od .var) m.vars,.sl (.od .con) m.cons,dI m.goal,dI m.var],dI fuel] (.fr .ans) .int λf cx=>
 c3Q nX [.agg [.sl (.od .var) m.vars,.sl (.od .con) m.cons,dI m.goal,dI m.var]] (.fr (.list (.list .int))) .bool .int λcj cy cz=>
 c2Q ot [.agg [.sl (.od .var) m.vars,.sl (.od .con) m.cons,dI m.goal,dI m.var],dI 0] (.fr (.list .int)) .int λck da=>
 c3Q jU [.str s] (.fr .mdl) .int .int λa db dc=>
 c2Q ou [.agg [.sl (.od .var) m.vars,.sl (.od .con) m.cons,dI m.goal,dI m.var],.sl (.list .lit) ([]:AcS),.sl (.fr .step) b.proof] .bool .int λdd cu=>
 yJ rM [.agg [.sl (.od .var) m.vars,.sl (.od .con) m.cons,dI m.goal,dI m.var],.agg [.sl (.od .var) m.vars,.sl (.od .con) m.cons,dI m.goal,dI m.var]] .bool λcv=>
 zT (!cv)
 (dB false=dB true)
 (zT (!decide (d=s8))
 (dB false=dB true)
 (zT (!decide (b.verdict=c.verdict))
 (dB false=dB true)
 (yJ vF [.sl (.fr .int) b.values,.sl .int (([]:AcP)++c.values)] .bool λcw=>
 zT (!cw)
 (dB false=dB true)
 (zT (decide (d=0))
 (zT (!decide (cu=0))
 (dB false=dB true)
 (AA prog wE .int/\
 ∀k:AcQ,k.length=cj.length->∀l:AcP,l.length=ck.length->∀n:AcP,n.length=i.length->∀o:AcW,o.length=j.length->∀p:AcP,p.length=b.values.length->∀q:AcW,q.length=b.proof.length->∀r:AcP,r.length=f.values.length->∀t:AcW,t.length=f.proof.length->∀u:AcU,u.length=a.vars.length->∀v:AcV,v.length=a.cons.length->
 AA prog wE .int/\
 ∀w:AcQ,w.length=k.length->∀x:AcP,x.length=l.length->∀y:AcP,y.length=n.length->∀z:AcW,z.length=o.length->∀aa:AcP,aa.length=p.length->∀ab:AcW,ab.length=q.length->∀ac:AcP,ac.length=r.length->∀ad:AcW,ad.length=t.length->∀ae:AcU,ae.length=u.length->∀af:AcV,af.length=v.length->
 AA prog vW .step/\
 ∀ag:AcQ,ag.length=w.length->∀ah:AcP,ah.length=x.length->∀ai:AcP,ai.length=y.length->∀aj:AcW,aj.length=z.length->∀ak:AcP,ak.length=aa.length->∀al:AcW,al.length=ab.length->∀am:AcP,am.length=ac.length->∀an:AcW,an.length=ad.length->∀ao:AcU,ao.length=ae.length->∀ap:AcV,ap.length=af.length->
 AA prog vW .step/\
 ∀aq:AcQ,aq.length=ag.length->∀ar:AcP,ar.length=ah.length->∀au:AcP,au.length=ai.length->∀av:AcW,av.length=aj.length->∀cl:AcP,cl.length=ak.length->∀cm:AcW,cm.length=al.length->∀cn:AcP,cn.length=am.length->∀co:AcW,co.length=an.length->∀aw:AcU,aw.length=ao.length->∀ax:AcV,ax.length=ap.length->
 ∃n2,rU m s fuel c d g e n2 aq ar 0 h au av aw ax a.goal a.var))
 (AA prog wE .int/\
 ∀ay:AcQ,ay.length=cj.length->∀az:AcP,az.length=ck.length->∀ba:AcP,ba.length=i.length->∀bb:AcW,bb.length=j.length->∀bc:AcP,bc.length=b.values.length->∀bd:AcW,bd.length=b.proof.length->∀be:AcP,be.length=f.values.length->∀bf:AcW,bf.length=f.proof.length->∀bg:AcU,bg.length=a.vars.length->∀bh:AcV,bh.length=a.cons.length->
 AA prog wE .int/\
 ∀bi:AcQ,bi.length=ay.length->∀bj:AcP,bj.length=az.length->∀bk:AcP,bk.length=ba.length->∀bl:AcW,bl.length=bb.length->∀bm:AcP,bm.length=bc.length->∀bn:AcW,bn.length=bd.length->∀bo:AcP,bo.length=be.length->∀bp:AcW,bp.length=bf.length->∀bq:AcU,bq.length=bg.length->∀br:AcV,br.length=bh.length->
 AA prog vW .step/\
 ∀bs:AcQ,bs.length=bi.length->∀bt:AcP,bt.length=bj.length->∀bu:AcP,bu.length=bk.length->∀bv:AcW,bv.length=bl.length->∀bw:AcP,bw.length=bm.length->∀bx:AcW,bx.length=bn.length->∀bz:AcP,bz.length=bo.length->∀ca:AcW,ca.length=bp.length->∀cb:AcU,cb.length=bq.length->∀cc:AcV,cc.length=br.length->
 AA prog vW .step/\
 ∀cd:AcQ,cd.length=bs.length->∀ce:AcP,ce.length=bt.length->∀cf:AcP,cf.length=bu.length->∀cg:AcW,cg.length=bv.length->∀cp:AcP,cp.length=bw.length->∀cq:AcW,cq.length=bx.length->∀cr:AcP,cr.length=bz.length->∀cs:AcW,cs.length=ca.length->∀ch:AcU,ch.length=cb.length->∀ci:AcV,ci.length=cc.length->
 ∃n2_2,Vk m s fuel c d g e n2_2 cd ce 0 h cf cg ch ci a.goal a.var))))))
 (dB true=dB true)):=by kernel_rfl
theorem UL(m:zE)(s:AcL)(fuel:Int):Sg prog EvS zS (zbc 3 (vB Tryz.f3)) 0 ⟨[(1,.str s),(2,dI fuel),(3,.ptr 3 0),(6,dB false),(7,.ptr 7 0)],[(3,.cells [.sl (.od .var) m.vars,.sl (.od .con) m.cons,dI m.goal,dI m.var]),(7,.cells [.sl (.od .var) m.vars,.sl (.od .con) m.cons,dI m.goal,dI m.var])]⟩ (zc5 6)=
 (c2Q qW [.agg [.sl (.od .var) m.vars,.sl (.od .con) m.cons,dI m.goal,dI m.var],dI fuel] (.fr .ans) .int λa b=>
 (λp:Prop=>((((yX .int (([]:AcP).length+a.values.length)=true/\p)/\yX .int (([]:AcP).length+a.values.length)=true/\p))/\(((yX .int (([]:AcP).length+a.values.length)=true/\p)/\yX .int (([]:AcP).length+a.values.length)=true/\p))/\((yX .int (([]:AcP).length+a.values.length)=true/\p)/\((yX .int (([]:AcP).length+a.values.length)=true/\p)/\yX .int (([]:AcP).length+a.values.length)=true/\p))))
 (∃n0,wQ m s fuel a b n0 0 a.verdict a.values a.proof)):=by kernel_rfl
end Go.Proofs.YtdnmkinmcdihnaaGreatDoor
namespace Go.Proofs.YtdnmkinmcdihnaaGreatDoor
open Go.Proofs.Tryz
open Go.RowKit
set_option maxRecDepth 100000
variable[Lo]
abbrev zH(x0:AcX)(x1 x2 x3 x4:Int)(x5:AcU)(x6:AcV)(x7:List (AcL×Int)):List (Nat×yE):=[(1000,.cells [.sl .tok x0,dI x1,dI x2,.own 2000,.own 2001,dI x3,dI x4,.own 1001]),(2000,.row 49 (.fr .var) x5),(2001,.row 52 (.fr .con) x6),(1001,.mp .str .int x7)]
abbrev Bx(x0:AcX)(x1 x2 x3 x4:Int)(x5:AcU)(x6:AcV)(x7:List (AcL×Int)):List (Nat×yE):=[(1000,.cells [.sl .tok x0,dI x1,dI x2,.own 2000,.own 2001,dI x3,dI x4,.own 1001]),(2000,.row 49 (.fr .var) x5),(2001,.row 52 (.fr .con) x6),(1001,.mp .str .int x7),(1002,.cells [Ac3])]
abbrev zan(x0:AcX)(x1 x2 x3 x4:Int)(x5:AcU)(x6:AcV)(x7:List (AcL×Int)):List (Nat×yE):=[(1000,.cells [.ptr 1001 0]),(1001,.cells [.sl .tok x0,dI x1,dI x2,.own 2000,.own 2001,dI x3,dI x4,.own 1002]),(2000,.row 49 (.fr .var) x5),(2001,.row 52 (.fr .con) x6),(1002,.mp .str .int x7)]
def EvM:TE where
 zs:=[(3,(false,[dI 0])),(9,(false,[.str (⟨#[]⟩)])),(22,(false,[.nil])),(23,(false,[.nil])),(25,(true,[.sl (.fr .var) ([]:AcU),.sl (.fr .con) ([]:AcV),dI 0,dI 0])),(28,(false,[.nil])),(32,(false,[dI 0])),(35,(false,[.nil])),(49,(true,[.str (⟨#[]⟩),dI 0,dI 0])),(50,(false,[.nil])),(52,(true,[dI 0,.sl (.fr .int) ([]:AcP),.sl (.fr .int) ([]:AcP),dI 0,.sl (.fr (.list .int)) ([]:AcQ),.sl (.fr .lit) ([]:AcR)])),(66,(true,[dI 0,dI 0,dI 0])),(91,(false,[.nil])),(95,(false,[.undef])),(96,(false,[.undef])),(98,(true,[.sl .tok ([]:AcX),dI 0,dI 0,.nil,.nil,dI 0,dI 0,.undef])),(154,(true,[dI 0,dI 0]))]
 sl:=[(22,(49,.fr .var)),(23,(52,.fr .con)),(28,(3,.fr .int)),(29,(71,.step)),(35,(28,.fr (.list .int))),(50,(66,.fr .lit)),(61,(66,.fr .lit)),(69,(61,.list .lit)),(87,(28,.fr (.list .int))),(91,(150,.tok)),(115,(5,.byte)),(172,(9,.str)),(221,(50,.list .lit)),(258,(262,.term))]
 fld:=[(25,[(0,1),(1,1),(2,1),(3,1)]),(49,[(0,1),(1,1),(2,1)]),(52,[(0,1),(1,1),(2,1),(3,1),(4,1),(5,1)]),(66,[(0,1),(1,1),(2,1)]),(98,[(0,1),(1,1),(2,1),(3,4),(7,1)]),(150,[(0,1),(1,1),(2,1)]),(154,[(0,1),(1,1)])]
 strs:=[9]
 ints:=[(2,.i64),(3,.i64),(5,.u8),(6,.u8),(32,.i64),(228,.i64),(288,.i64),(314,.u8),(315,.u8)]
 bools:=[]
 sig:=[(vG,[.int]),(Wa,[.list .tok,.int,.int]),(ZA,[.bool]),(jW,[.list .str])]
 mps:=[(96,(.str,.int))]
 sts:=[]
 hsig:=[(Sj,{tys:=[.fr .mdl,.int,.int],nils:=[(0,(3,(49,.fr .var))),(0,(4,(52,.fr .con)))],datas:=[],res:=λxs ob=>match xs,ob 1000,ob 2000,ob 2001,ob 1001 with|[y0,y1,y2],some o1000,some o2000,some o2001,some o1001=>some (.tup [y0,y1,y2],[])|_,_,_,_,_=>none}),
  (pJ,{tys:=[.int,.list (.fr .var),.list (.fr .con),.int,.int,.list (.pr .str .int)],nils:=[(0,(3,(49,.fr .var))),(0,(4,(52,.fr .con)))],datas:=[],res:=λxs ob=>match xs,ob 1000,ob 2000,ob 2001,ob 1001 with|[y0,.sl (.fr .var) y1,.sl (.fr .con) y2,y3,y4,.sl (.pr .str .int) y5],some (.cells o1000),some o2000,some o2001,some o1001=>some (.tup [],[(1000,.cells (((o1000.set 1 y0).set 5 y3).set 6 y4)),(2000,.row 49 (.fr .var) y1),(2001,.row 52 (.fr .con) y2),(1001,.mp .str .int y5)])|_,_,_,_,_=>none}),
  (yZ,{tys:=[.int,.bool],nils:=[(0,(3,(49,.fr .var))),(0,(4,(52,.fr .con)))],datas:=[],res:=λxs ob=>match xs,ob 1000,ob 2000,ob 2001,ob 1001 with|[y0,y1],some (.cells o1000),some o2000,some o2001,some o1001=>some (y1,[(1000,.cells (o1000.set 1 y0)),(2000,o2000),(2001,o2001),(1001,o1001)])|_,_,_,_,_=>none}),
  (uA,{tys:=[.str],nils:=[(0,(3,(49,.fr .var))),(0,(4,(52,.fr .con)))],datas:=[],res:=λxs ob=>match xs,ob 1000,ob 2000,ob 2001,ob 1001 with|[y0],some o1000,some o2000,some o2001,some o1001=>some (y0,[(1000,o1000),(2000,o2000),(2001,o2001),(1001,o1001)])|_,_,_,_,_=>none}),
  (zK,{tys:=[.int],nils:=[(0,(3,(49,.fr .var))),(0,(4,(52,.fr .con)))],datas:=[],res:=λxs ob=>match xs,ob 1000,ob 2000,ob 2001,ob 1001 with|[y0],some (.cells o1000),some o2000,some o2001,some o1001=>some (.tup [],[(1000,.cells (o1000.set 1 y0)),(2000,o2000),(2001,o2001),(1001,o1001)])|_,_,_,_,_=>none}),
  (zL,{tys:=[.int,.int],nils:=[(0,(3,(49,.fr .var))),(0,(4,(52,.fr .con)))],datas:=[],res:=λxs ob=>match xs,ob 1000,ob 2000,ob 2001,ob 1001 with|[y0,y1],some (.cells o1000),some o2000,some o2001,some o1001=>some (y1,[(1000,.cells (o1000.set 1 y0)),(2000,o2000),(2001,o2001),(1001,o1001)])|_,_,_,_,_=>none}),
  (qZ,{tys:=[.int,.fr .con],nils:=[(0,(3,(49,.fr .var))),(0,(4,(52,.fr .con)))],datas:=[],res:=λxs ob=>match xs,ob 1000,ob 2000,ob 2001,ob 1001 with|[y0,y1],some (.cells o1000),some o2000,some o2001,some o1001=>some (y1,[(1000,.cells (o1000.set 1 y0)),(2000,o2000),(2001,o2001),(1001,o1001)])|_,_,_,_,_=>none}),
  (zM,{tys:=[.int,.int],nils:=[(0,(3,(49,.fr .var))),(0,(4,(52,.fr .con)))],datas:=[],res:=λxs ob=>match xs,ob 1000,ob 2000,ob 2001,ob 1001 with|[y0,y1],some (.cells o1000),some o2000,some o2001,some o1001=>some (y1,[(1000,.cells (o1000.set 1 y0)),(2000,o2000),(2001,o2001),(1001,o1001)])|_,_,_,_,_=>none}),
  (zQ,{tys:=[],nils:=[(0,(3,(49,.fr .var))),(0,(4,(52,.fr .con)))],datas:=[],res:=λxs ob=>match xs,ob 1000,ob 2000,ob 2001,ob 1001 with|[],some o1000,some o2000,some o2001,some o1001=>some (.tup [],[(1000,o1000),(2000,o2000),(2001,o2001),(1001,o1001)])|_,_,_,_,_=>none}),
  (vK,{tys:=[.int],nils:=[],datas:=[],res:=λxs _=>match xs with|[y0]=>some (.tup [y0,.undef],[])|_=>none}),
  (zN,{tys:=[.int,.list (.fr .int)],nils:=[(0,(3,(49,.fr .var))),(0,(4,(52,.fr .con)))],datas:=[],res:=λxs ob=>match xs,ob 1000,ob 2000,ob 2001,ob 1001 with|[y0,y1],some (.cells o1000),some o2000,some o2001,some o1001=>some (y1,[(1000,.cells (o1000.set 1 y0)),(2000,o2000),(2001,o2001),(1001,o1001)])|_,_,_,_,_=>none}),
  (xR,{tys:=[.int,.list (.fr .int)],nils:=[(0,(3,(49,.fr .var))),(0,(4,(52,.fr .con)))],datas:=[],res:=λxs ob=>match xs,ob 1000,ob 2000,ob 2001,ob 1001 with|[y0,y1],some (.cells o1000),some o2000,some o2001,some o1001=>some (y1,[(1000,.cells (o1000.set 1 y0)),(2000,o2000),(2001,o2001),(1001,o1001)])|_,_,_,_,_=>none}),
  (tX,{tys:=[.int,.list (.fr (.list .int))],nils:=[(0,(3,(49,.fr .var))),(0,(4,(52,.fr .con)))],datas:=[],res:=λxs ob=>match xs,ob 1000,ob 2000,ob 2001,ob 1001,ob 1002 with|[y0,y1],some (.cells o1000),some o2000,some o2001,some o1001,some o1002=>some (y1,[(1000,.cells (o1000.set 1 y0)),(2000,o2000),(2001,o2001),(1001,o1001),(1002,o1002)])|_,_,_,_,_,_=>none}),
  (yW,{tys:=[.int,.list (.fr .int)],nils:=[(1,(3,(49,.fr .var))),(1,(4,(52,.fr .con)))],datas:=[],res:=λxs ob=>match xs,ob 1000,ob 1001,ob 2000,ob 2001,ob 1002 with|[y0,y1],some o1000,some (.cells o1001),some o2000,some o2001,some o1002=>some (y1,[(1000,o1000),(1001,.cells (o1001.set 1 y0)),(2000,o2000),(2001,o2001),(1002,o1002)])|_,_,_,_,_,_=>none}),
  (uH,{tys:=[.int,.list (.fr .lit)],nils:=[(0,(3,(49,.fr .var))),(0,(4,(52,.fr .con)))],datas:=[],res:=λxs ob=>match xs,ob 1000,ob 2000,ob 2001,ob 1001 with|[y0,y1],some (.cells o1000),some o2000,some o2001,some o1001=>some (y1,[(1000,.cells (o1000.set 1 y0)),(2000,o2000),(2001,o2001),(1001,o1001)])|_,_,_,_,_=>none}),
  (yN,{tys:=[.int,.lit],nils:=[(0,(3,(49,.fr .var))),(0,(4,(52,.fr .con)))],datas:=[],res:=λxs ob=>match xs,ob 1000,ob 2000,ob 2001,ob 1001 with|[y0,y1],some (.cells o1000),some o2000,some o2001,some o1001=>some (y1,[(1000,.cells (o1000.set 1 y0)),(2000,o2000),(2001,o2001),(1001,o1001)])|_,_,_,_,_=>none}),
  (jY,{tys:=[.int],nils:=[(0,(3,(49,.fr .var))),(0,(4,(52,.fr .con)))],datas:=[],res:=λxs ob=>match xs,ob 1000,ob 2000,ob 2001,ob 1001 with|[y0],some o1000,some o2000,some o2001,some o1001=>some (y0,[(1000,o1000),(2000,o2000),(2001,o2001),(1001,o1001)])|_,_,_,_,_=>none})]
 vals:=[81,85,98,102,119,133,188,256,268]
 arr:=[]
 thr:=[pJ,uA,zK,zL,qZ,zM,zQ,zN,xR,tX,yW,uH,yN]
theorem ztp:EvM.chk prog=true:=by kernel_rfl
theorem ztq:∀x∈EvM.sig,∀args w,(callFunc x.1 args).run prog w=.ok (.enter x.1 args) w:=by
 intro x hx args w;simp only[EvM,Aad,Aa6,or_false]at hx
 rcases hx with rfl|rfl|rfl|rfl
 ·exact call23 args w
 ·exact call39 args w
 ·exact call91 args w
 ·exact call103 args w
theorem zrC:EvM.chk2 prog=true:=by kernel_rfl
theorem zrD:∀x∈EvM.hsig,fV x.1:=by
 intro x hx args w;simp only[EvM,Aad,Aa6,or_false]at hx
 rcases hx with rfl|rfl|rfl|rfl|rfl|rfl|rfl|rfl|rfl|rfl|rfl|rfl|rfl|rfl|rfl|rfl|rfl
 ·exact call40 args w
 ·exact call79 args w
 ·exact call136 args w
 ·exact call137 args w
 ·exact call138 args w
 ·exact call139 args w
 ·exact call140 args w
 ·exact call141 args w
 ·exact call142 args w
 ·exact call189 args w
 ·exact call190 args w
 ·exact call191 args w
 ·exact call192 args w
 ·exact call193 args w
 ·exact call194 args w
 ·exact call195 args w
 ·exact call196 args w
theorem PD:vE prog EvM:=QD (by kernel_rfl) ztp zrC ztq zrD
abbrev FDM(A:xF)(fn:Func)(ds:AcT)(R:xI):Prop:=fnD prog EvM A fn.results.toList (vB fn) ds R
abbrev FHM(A:xF)(fn:Func)(ds:AcT)(hp:List (Nat×yE))(roots:AcT)(own:Bool)(R:oG):Prop:=fnH prog EvM A fn.results.toList (vB fn) ds hp roots own R
def zo3(A:xF)(fn:Func)(f:AcM)(ds:AcT):Prop:=∀ {r:D},((∀d∈ds,MN d)->FDM A fn ds λd=>d=r)->vL f ds r
def zh6(A:xF)(fn:Func)(f:AcM)(ds:AcT)(hp:List (Nat×yE))(roots:AcT)(own:Bool):Prop:=∀ {r:D} {h0:List (Nat×yE)},((∀d∈ds,MN d)->(∀k o,zW k hp=some o->okO o)->FHM A fn ds hp roots own λd a=>d=r/\a=h0)->xT f ds hp r h0
theorem zsq{A:xF}{fn:Func}{f:AcM}{ds:AcT}(hf:prog.funcs[f]? =some fn)(hb:fn.body=some (vB fn))(hn:fn.ntmps=A.n)(hl:Nat.ble ds.length A.n=true):zo3 A fn f ds:=λh=>zcS PD hf hb hn.symm (by rw[hn];exact Aau hl) h
theorem zo4{A:xF}{fn:Func}{f:AcM}{ds:AcT}{hp:List (Nat×yE)}{roots:AcT}{own:Bool}(hf:prog.funcs[f]? =some fn)(hb:fn.body=some (vB fn))(hn:fn.ntmps=A.n)(hl:Nat.ble ds.length A.n=true):zh6 A fn f ds hp roots own:=λh=>Eo PD hf hb hn.symm (by rw[hn];exact Aau hl) h
abbrev FXM(A:xF)(fn:Func)(ds:AcT)(hp:List (Nat×yE))(roots:AcT)(own:Bool)(R:oG)(T:Qn):Prop:=fnX prog EvM A fn.results.toList (vB fn) ds hp roots own R T
def aJ(A:xF)(fn:Func)(f:AcM)(ds:AcT)(hp:List (Nat×yE))(roots:AcT)(own:Bool):Prop:=∀ {r:D} {h0:List (Nat×yE)},((∀d∈ds,MN d)->(∀k o,zW k hp=some o->okO o)->FXM A fn ds hp roots own (λd a=>d=r/\a=h0) λ_=>False)->xT f ds hp r h0
def cM(A:xF)(fn:Func)(f:AcM)(ds:AcT)(hp:List (Nat×yE))(roots:AcT)(own:Bool):Prop:=∀ {u:Value},((∀d∈ds,MN d)->(∀k o,zW k hp=some o->okO o)->FXM A fn ds hp roots own (λ_ _=>False) λv=>v=u)->nP f ds hp u
theorem YG{A:xF}{fn:Func}{f:AcM}{ds:AcT}{hp:List (Nat×yE)}{roots:AcT}{own:Bool}(hf:prog.funcs[f]? =some fn)(hb:fn.body=some (vB fn))(hn:fn.ntmps=A.n)(hl:Nat.ble ds.length A.n=true):aJ A fn f ds hp roots own:=λh=>zeY PD hf hb hn.symm (by rw[hn];exact Aau hl) h
theorem Z7{A:xF}{fn:Func}{f:AcM}{ds:AcT}{hp:List (Nat×yE)}{roots:AcT}{own:Bool}(hf:prog.funcs[f]? =some fn)(hb:fn.body=some (vB fn))(hn:fn.ntmps=A.n)(hl:Nat.ble ds.length A.n=true):cM A fn f ds hp roots own:=λh=>zkv PD hf hb hn.symm (by rw[hn];exact Aau hl) h
abbrev LPM(A:xF)(fn:Func)(path:AcZ)(cur n:Nat)(σ:St)(K:Ex->St->Prop):Prop:=DA (den prog EvM A (sub path (vB fn)) cur) A (Yq A cur) n σ K
abbrev sKM(A:xF)(fn:Func)(path:AcZ)(cur:Nat)(K:Ex->St->Prop):=zqD prog EvM A (sub path (vB fn)) cur K
abbrev eXM(fn:Func)(roots:AcT)(own:Bool)(R:oG)(T:Qn):=zsM EvM fn.results.toList roots own R T
end Go.Proofs.YtdnmkinmcdihnaaGreatDoor
namespace Go.Proofs.YtdnmkinmcdihnaaGreatDoor
open Go.Proofs.Tryz
open Go.RowKit
set_option maxRecDepth 100000
variable[Lo]
def K7:xF:= {own:=[2,8,24,26],live:=[],n:=41,nils:=[(26,(3,(49,.fr .var))),(26,(4,(52,.fr .con)))],pubs:=[],first:=true}
theorem zao(c:AcL)(R:xI):FDM K7 f14 [.str c] R=
 (c3Q Wa [.str c] (.list .tok) .int .int λg h e=>
 zT (!decide (e=0))
 (R (.tup [.agg [.sl (.fr .var) ([]:AcU),.sl (.fr .con) ([]:AcV),dI 0,dI 0],dI h,dI e]))
 (∃a:zE,∃d:Int,∃b:Int,xT Sj [Ac3] (zH g 0 (c.size:Int) 0 0 ([]:List (zO)) ([]:List (zF)) ([]:List (AcL×Int))) (.tup [.agg [.sl (.fr .var) a.vars,.sl (.fr .con) a.cons,dI a.goal,dI a.var],dI d,dI b]) []/\
 zT (decide (b=0))
 (yJ vG [.agg [.sl (.fr .var) a.vars,.sl (.fr .con) a.cons,dI a.goal,dI a.var]] .int λf=>
 zT (!decide (f=0))
 (R (.tup [.agg [.sl (.fr .var) ([]:AcU),.sl (.fr .con) ([]:AcV),dI 0,dI 0],dI d,dI f]))
 (R (.tup [.agg [.sl (.fr .var) a.vars,.sl (.fr .con) a.cons,dI a.goal,dI a.var],dI 0,dI 0])))
 (zT (!decide (b=0))
 (R (.tup [.agg [.sl (.fr .var) ([]:AcU),.sl (.fr .con) ([]:AcV),dI 0,dI 0],dI d,dI b]))
 (R (.tup [.agg [.sl (.fr .var) a.vars,.sl (.fr .con) a.cons,dI a.goal,dI a.var],dI 0,dI 0]))))):=by kernel_rfl
theorem Bz(a:AcL):zo3 K7 f14 jU [.str a]:=zsq func14 (by kernel_rfl) ntmps14 rfl
def tM:xF:= {own:=[2,5,65,84],live:=[(0,([0],[1000,1001,2000,2001])),(2,([0],[1000,1001,2000,2001]))],n:=135,first:=true}
def oQ(R:oG)(T:Qn)(a:Nat)(b:AcX)(c d e f:Int)(g:List (AcL×Int))(h:AcU)(i:AcV):Prop:=LPM tM f79 [1,0,0,0] 2 a ⟨[(0,Ac3)],[(1000,.cells [.sl .tok b,dI c,dI d,.own 2000,.own 2001,dI e,dI f,.own 1001]),(1001,.mp .str .int g),(2000,.row 49 (.fr .var) h),(2001,.row 52 (.fr .con) i)]⟩ (zP 2 (sKM tM f79 [1,1] 0 (eXM f79 [Ac3] false R T)))
def uV(R:oG)(T:Qn)(a:Nat)(b:AcX)(c d e f:Int)(g:List (AcL×Int))(h:AcU)(i:AcV):Prop:=LPM tM f79 [0,0,0] 0 a ⟨[(0,Ac3)],[(1000,.cells [.sl .tok b,dI c,dI d,.own 2000,.own 2001,dI e,dI f,.own 1001]),(1001,.mp .str .int g),(2000,.row 49 (.fr .var) h),(2001,.row 52 (.fr .con) i)]⟩ (zP 0 (sKM tM f79 [1] 0 (eXM f79 [Ac3] false R T)))
theorem oY(R:oG)(T:Qn)(v:Nat)(a:AcX)(w c g f:Int)(d:List (AcL×Int))(e:AcU)(b:AcV):oQ R T (v+1) a w c g f d e b=
 (∃n:Int,∃x:Bool,xT yZ [Ac3,.str (⟨#[99,111,110]⟩:AcL)] (zH a w c g f e b d) (dB x) (zH a n c g f e b d)/\
 zT x
 (((∃q:Int,∃j:zF,xT qZ [Ac3] (zH a n c g f e b d) (.agg [dI j.kind,.sl (.fr .int) j.vars,.sl (.fr .int) j.consts,dI j.n,.sl (.fr (.list .int)) j.rows,.sl (.fr .lit) j.lits]) (zH a q c g f e b d)/\
 ((∃y:Int,xT zK [Ac3,.sl .str ([(⟨#[59]⟩:AcL)])] (zH a q c g f e b d) (.tup []) (zH a y c g f e b d)/\
 yX (.fr .con) (b.length+([j]).length)=true/\oQ R T v a y c g f d e (b++([j])))\/
 ∃u,nP zK [Ac3,.sl .str ([(⟨#[59]⟩:AcL)])] (zH a q c g f e b d) u/\T u))\/
 ∃u,nP qZ [Ac3] (zH a n c g f e b d) u/\T u))
 (((∃z:Int,xT zK [Ac3,.sl .str ([(⟨#[115,111,108,118,101]⟩:AcL)])] (zH a n c g f e b d) (.tup []) (zH a z c g f e b d)/\
 ∃p:Int,∃aa:Bool,xT yZ [Ac3,.str (⟨#[97,110,121]⟩:AcL)] (zH a z c g f e b d) (dB aa) (zH a p c g f e b d)/\
 zT aa
 (((∃k:Int,xT zK [Ac3,.sl .str ([(⟨#[59]⟩:AcL)])] (zH a p c g f e b d) (.tup []) (zH a k c g f e b d)/\
 zT (decide (k<(a.length:Int)))
 (((xT zQ [Ac3,dI 1] (zH a k c g f e b d) (.tup []) (zH a k c g f e b d)/\
 R (.tup []) (zH a k c g f e b d))\/
 ∃u,nP zQ [Ac3,dI 1] (zH a k c g f e b d) u/\T u))
 (R (.tup []) (zH a k c g f e b d)))\/
 ∃u,nP zK [Ac3,.sl .str ([(⟨#[59]⟩:AcL)])] (zH a p c g f e b d) u/\T u))
 (∃o:Int,∃ab:Bool,xT yZ [Ac3,.str (⟨#[108,101,97,115,116]⟩:AcL)] (zH a p c g f e b d) (dB ab) (zH a o c g f e b d)/\
 zT ab
 (((∃r:Int,∃h:Int,xT zM [Ac3] (zH a o c 1 f e b d) (dI h) (zH a r c 1 f e b d)/\
 ((∃l:Int,xT zK [Ac3,.sl .str ([(⟨#[59]⟩:AcL)])] (zH a r c 1 h e b d) (.tup []) (zH a l c 1 h e b d)/\
 zT (decide (l<(a.length:Int)))
 (((xT zQ [Ac3,dI 1] (zH a l c 1 h e b d) (.tup []) (zH a l c 1 h e b d)/\
 R (.tup []) (zH a l c 1 h e b d))\/
 ∃u,nP zQ [Ac3,dI 1] (zH a l c 1 h e b d) u/\T u))
 (R (.tup []) (zH a l c 1 h e b d)))\/
 ∃u,nP zK [Ac3,.sl .str ([(⟨#[59]⟩:AcL)])] (zH a r c 1 h e b d) u/\T u))\/
 ∃u,nP zM [Ac3] (zH a o c 1 f e b d) u/\T u))
 (((∃s:Int,xT zK [Ac3,.sl .str ([(⟨#[109,111,115,116]⟩:AcL)])] (zH a o c g f e b d) (.tup []) (zH a s c g f e b d)/\
 ((∃t:Int,∃i:Int,xT zM [Ac3] (zH a s c 2 f e b d) (dI i) (zH a t c 2 f e b d)/\
 ((∃m:Int,xT zK [Ac3,.sl .str ([(⟨#[59]⟩:AcL)])] (zH a t c 2 i e b d) (.tup []) (zH a m c 2 i e b d)/\
 zT (decide (m<(a.length:Int)))
 (((xT zQ [Ac3,dI 1] (zH a m c 2 i e b d) (.tup []) (zH a m c 2 i e b d)/\
 R (.tup []) (zH a m c 2 i e b d))\/
 ∃u,nP zQ [Ac3,dI 1] (zH a m c 2 i e b d) u/\T u))
 (R (.tup []) (zH a m c 2 i e b d)))\/
 ∃u,nP zK [Ac3,.sl .str ([(⟨#[59]⟩:AcL)])] (zH a t c 2 i e b d) u/\T u))\/
 ∃u,nP zM [Ac3] (zH a s c 2 f e b d) u/\T u))\/
 ∃u,nP zK [Ac3,.sl .str ([(⟨#[109,111,115,116]⟩:AcL)])] (zH a o c g f e b d) u/\T u))))\/
 ∃u,nP zK [Ac3,.sl .str ([(⟨#[115,111,108,118,101]⟩:AcL)])] (zH a n c g f e b d) u/\T u))):=by kernel_rfl
theorem Zd(R:oG)(T:Qn)(l:Nat)(c:AcX)(r d e f:Int)(b:List (AcL×Int))(a:AcU)(g:AcV):uV R T (l+1) c r d e f b a g=
 (∃h:Int,∃s:Bool,xT yZ [Ac3,.str (⟨#[118,97,114]⟩:AcL)] (zH c r d e f a g b) (dB s) (zH c h d e f a g b)/\
 zT s
 (((∃i:AcL,xT uA [Ac3] (zH c h d e f a g b) (.str i) (zH c h d e f a g b)/\
 ((∃m:Int,xT zK [Ac3,.sl .str ([(⟨#[58]⟩:AcL)])] (zH c (yU (h+1)) d e f a g b) (.tup []) (zH c m d e f a g b)/\
 ((∃n:Int,∃j:Int,xT zL [Ac3] (zH c m d e f a g b) (dI j) (zH c n d e f a g b)/\
 ((∃o:Int,xT zK [Ac3,.sl .str ([(⟨#[46,46]⟩:AcL)])] (zH c n d e f a g b) (.tup []) (zH c o d e f a g b)/\
 ((∃p:Int,∃k:Int,xT zL [Ac3] (zH c o d e f a g b) (dI k) (zH c p d e f a g b)/\
 ((∃q:Int,xT zK [Ac3,.sl .str ([(⟨#[59]⟩:AcL)])] (zH c p d e f a g b) (.tup []) (zH c q d e f a g b)/\
 zT (!(MB .str .int i b))
 (LK (b.length+1)=true/\yX (.fr .var) (a.length+([(⟨i,j,k⟩:zO)]).length)=true/\uV R T l c q d e f (rB .str .int i (a.length:Int) b) (a++([(⟨i,j,k⟩:zO)])) g)
 (yX (.fr .var) (a.length+([(⟨i,j,k⟩:zO)]).length)=true/\uV R T l c q d e f b (a++([(⟨i,j,k⟩:zO)])) g))\/
 ∃u,nP zK [Ac3,.sl .str ([(⟨#[59]⟩:AcL)])] (zH c p d e f a g b) u/\T u))\/
 ∃u,nP zL [Ac3] (zH c o d e f a g b) u/\T u))\/
 ∃u,nP zK [Ac3,.sl .str ([(⟨#[46,46]⟩:AcL)])] (zH c n d e f a g b) u/\T u))\/
 ∃u,nP zL [Ac3] (zH c m d e f a g b) u/\T u))\/
 ∃u,nP zK [Ac3,.sl .str ([(⟨#[58]⟩:AcL)])] (zH c (yU (h+1)) d e f a g b) u/\T u))\/
 ∃u,nP uA [Ac3] (zH c h d e f a g b) u/\T u))
 (∃n2,oQ R T n2 c h d e f b a g)):=by kernel_rfl
theorem PE(a:AcX)(b c d e:Int)(f:AcU)(g:AcV)(h:List (AcL×Int))(R:oG)(T:Qn):FXM tM f79 [Ac3] (zH a b c d e f g h) [Ac3] false R T=
 (∃n0,uV R T n0 a b c d e h f g):=by kernel_rfl
theorem R8(a:AcX)(b c d e:Int)(f:AcU)(g:AcV)(h:List (AcL×Int)):aJ tM f79 pJ [Ac3] (zH a b c d e f g h) [Ac3] false:=YG func79 (by kernel_rfl) ntmps79 rfl
theorem R9(a:AcX)(b c d e:Int)(f:AcU)(g:AcV)(h:List (AcL×Int)):cM tM f79 pJ [Ac3] (zH a b c d e f g h) [Ac3] false:=Z7 func79 (by kernel_rfl) ntmps79 rfl
def K8:xF:= {own:=[],live:=[],n:=2,first:=true}
theorem Mj(R:xI):FDM K8 f103 [] R=
 (R (.sl .str ([(⟨#[108,101]⟩:AcL),(⟨#[101,113]⟩:AcL),(⟨#[110,101]⟩:AcL),(⟨#[100,105,102,102,101,114]⟩:AcL),(⟨#[101,108,101,109,101,110,116]⟩:AcL),(⟨#[116,97,98,108,101]⟩:AcL),(⟨#[116,105,109,101,115]⟩:AcL),(⟨#[109,97,120]⟩:AcL),(⟨#[99,108,97,117,115,101]⟩:AcL),(⟨#[105,102,102]⟩:AcL)]))):=by kernel_rfl
theorem PF:zo3 K8 f103 jW []:=zsq func103 (by kernel_rfl) ntmps103 rfl
def Vl:xF:= {own:=[],live:=[],n:=37,first:=true}
theorem NA(a:AcX)(b c d e:Int)(f:AcU)(g:AcV)(h:List (AcL×Int))(i:AcL)(R:oG):FHM Vl f136 [Ac3,.str i] (zH a b c d e f g h) [Ac3] false R=
 (zT (decide ((a.length:Int)<=b))
 (R (dB false) (zH a b c d e f g h))
 (wW b a.length=true/\zT (!decide (((zJ .tok a b.toNat).text)=i))
 (R (dB false) (zH a b c d e f g h))
 (R (dB true) (zH a (yU (b+1)) c d e f g h)))):=by kernel_rfl
theorem PG(a:AcX)(b c d e:Int)(f:AcU)(g:AcV)(h:List (AcL×Int))(i:AcL):zh6 Vl f136 yZ [Ac3,.str i] (zH a b c d e f g h) [Ac3] false:=zo4 func136 (by kernel_rfl) ntmps136 rfl
def aK:xF:= {own:=[],live:=[],n:=41,first:=true}
theorem NB(a:AcX)(b c d e:Int)(f:AcU)(g:AcV)(h:List (AcL×Int))(R:oG)(T:Qn):FXM aK Tryz.f137 [Ac3] (zH a b c d e f g h) [Ac3] false R T=
 (zT (decide ((a.length:Int)<=b))
 (((xT zQ [Ac3,dI 1] (zH a b c d e f g h) (.tup []) (zH a b c d e f g h)/\
 wW b a.length=true/\R (.str ((zJ .tok a b.toNat).text)) (zH a b c d e f g h))\/
 ∃u,nP zQ [Ac3,dI 1] (zH a b c d e f g h) u/\T u))
 (wW b a.length=true/\yJ ZA [.str ((zJ .tok a b.toNat).text)] .bool λi=>
 zT (!i)
 (((xT zQ [Ac3,dI 1] (zH a b c d e f g h) (.tup []) (zH a b c d e f g h)/\
 wW b a.length=true/\R (.str ((zJ .tok a b.toNat).text)) (zH a b c d e f g h))\/
 ∃u,nP zQ [Ac3,dI 1] (zH a b c d e f g h) u/\T u))
 (wW b a.length=true/\R (.str ((zJ .tok a b.toNat).text)) (zH a b c d e f g h)))):=by kernel_rfl
theorem PH(a:AcX)(b c d e:Int)(f:AcU)(g:AcV)(h:List (AcL×Int)):aJ aK Tryz.f137 uA [Ac3] (zH a b c d e f g h) [Ac3] false:=YG func137 (by kernel_rfl) ntmps137 rfl
theorem PI(a:AcX)(b c d e:Int)(f:AcU)(g:AcV)(h:List (AcL×Int)):cM aK Tryz.f137 uA [Ac3] (zH a b c d e f g h) [Ac3] false:=Z7 func137 (by kernel_rfl) ntmps137 rfl
def iG:xF:= {own:=[],live:=[(0,([0,6,7,8],[1000,1001,2000,2001]))],n:=19,first:=true}
def nF(a:Ac1)(R:oG)(T:Qn)(b:Nat)(c:Int)(d:AcX)(e f g h:Int)(i:List (AcL×Int))(j:AcU)(k:AcV):Prop:=LPM iG f138 [1,0,0] 0 b ⟨[(0,Ac3),(6,.sl .str a),(7,dI (a.length:Int)),(8,dI c)],[(1000,.cells [.sl .tok d,dI e,dI f,.own 2000,.own 2001,dI g,dI h,.own 1001]),(1001,.mp .str .int i),(2000,.row 49 (.fr .var) j),(2001,.row 52 (.fr .con) k)]⟩ (zP 0 (eXM f138 [Ac3] false R T))
theorem SJ(h:Ac1)(R:oG)(T:Qn)(k:Nat)(i:Int)(a:AcX)(l b c d:Int)(e:List (AcL×Int))(f:AcU)(g:AcV):nF h R T (k+1) i a l b c d e f g=
 (zT (decide (i<(h.length:Int)))
 (wW i h.length=true/\∃j:Int,∃m:Bool,xT yZ [Ac3,.str (zJ .str h i.toNat)] (zH a l b c d f g e) (dB m) (zH a j b c d f g e)/\
 zT (!m)
 (((xT zQ [Ac3,dI 1] (zH a j b c d f g e) (.tup []) (zH a j b c d f g e)/\
 nF h R T k (yU (i+1)) a j b c d e f g)\/
 ∃u,nP zQ [Ac3,dI 1] (zH a j b c d f g e) u/\T u))
 (nF h R T k (yU (i+1)) a j b c d e f g))
 (R (.tup []) (zH a l b c d f g e))):=by kernel_rfl
theorem NC(a:AcX)(b c d e:Int)(f:AcU)(g:AcV)(h:List (AcL×Int))(i:Ac1)(R:oG)(T:Qn):FXM iG f138 [Ac3,.sl .str i] (zH a b c d e f g h) [Ac3] false R T=
 (∃n0,nF i R T n0 0 a b c d e h f g):=by kernel_rfl
theorem PJ(a:AcX)(b c d e:Int)(f:AcU)(g:AcV)(h:List (AcL×Int))(i:Ac1):aJ iG f138 zK [Ac3,.sl .str i] (zH a b c d e f g h) [Ac3] false:=YG func138 (by kernel_rfl) ntmps138 rfl
theorem PK(a:AcX)(b c d e:Int)(f:AcU)(g:AcV)(h:List (AcL×Int))(i:Ac1):cM iG f138 zK [Ac3,.sl .str i] (zH a b c d e f g h) [Ac3] false:=Z7 func138 (by kernel_rfl) ntmps138 rfl
def XT:xF:= {own:=[],live:=[],n:=77,first:=true}
theorem Hu(a:AcX)(i c d e:Int)(f:AcU)(g:AcV)(h:List (AcL×Int))(R:oG)(T:Qn):FXM XT f139 [Ac3] (zH a i c d e f g h) [Ac3] false R T=
 (∃b:Int,∃j:Bool,xT yZ [Ac3,.str (⟨#[45]⟩:AcL)] (zH a i c d e f g h) (dB j) (zH a b c d e f g h)/\
 zT j
 (zT (decide ((a.length:Int)<=b))
 (((xT zQ [Ac3,dI 1] (zH a b c d e f g h) (.tup []) (zH a b c d e f g h)/\
 (λp:Prop=>((wW b a.length=true/\p)/\wW b a.length=true/\p))
 (∃k:Int,xT vK [.str ((zJ .tok a b.toNat).text)] [] (.tup [dI k,.undef]) []/\
 R (dI (yU ((-1)*k))) (zH a (yU (b+1)) c d e f g h)))\/
 ∃u,nP zQ [Ac3,dI 1] (zH a b c d e f g h) u/\T u))
 (wW b a.length=true/\zT (!decide (((zJ .tok a b.toNat).kind)=2))
 (((xT zQ [Ac3,dI 1] (zH a b c d e f g h) (.tup []) (zH a b c d e f g h)/\
 (λp:Prop=>((wW b a.length=true/\p)/\wW b a.length=true/\p))
 (∃l:Int,xT vK [.str ((zJ .tok a b.toNat).text)] [] (.tup [dI l,.undef]) []/\
 R (dI (yU ((-1)*l))) (zH a (yU (b+1)) c d e f g h)))\/
 ∃u,nP zQ [Ac3,dI 1] (zH a b c d e f g h) u/\T u))
 (zT (decide ((-1:Int)<0))
 (wW b a.length=true/\zT (decide (((zJ .tok a b.toNat).text)=(⟨#[48]⟩:AcL)))
 (((xT zQ [Ac3,dI 1] (zH a b c d e f g h) (.tup []) (zH a b c d e f g h)/\
 (λp:Prop=>((wW b a.length=true/\p)/\wW b a.length=true/\p))
 (∃m:Int,xT vK [.str ((zJ .tok a b.toNat).text)] [] (.tup [dI m,.undef]) []/\
 R (dI (yU ((-1)*m))) (zH a (yU (b+1)) c d e f g h)))\/
 ∃u,nP zQ [Ac3,dI 1] (zH a b c d e f g h) u/\T u))
 ((λp:Prop=>((wW b a.length=true/\p)/\wW b a.length=true/\p))
 (∃n:Int,xT vK [.str ((zJ .tok a b.toNat).text)] [] (.tup [dI n,.undef]) []/\
 R (dI (yU ((-1)*n))) (zH a (yU (b+1)) c d e f g h))))
 ((λp:Prop=>((wW b a.length=true/\p)/\wW b a.length=true/\p))
 (∃o:Int,xT vK [.str ((zJ .tok a b.toNat).text)] [] (.tup [dI o,.undef]) []/\
 R (dI (yU ((-1)*o))) (zH a (yU (b+1)) c d e f g h))))))
 (zT (decide ((a.length:Int)<=b))
 (((xT zQ [Ac3,dI 1] (zH a b c d e f g h) (.tup []) (zH a b c d e f g h)/\
 (λp:Prop=>((wW b a.length=true/\p)/\wW b a.length=true/\p))
 (∃q:Int,xT vK [.str ((zJ .tok a b.toNat).text)] [] (.tup [dI q,.undef]) []/\
 R (dI (yU (1*q))) (zH a (yU (b+1)) c d e f g h)))\/
 ∃u,nP zQ [Ac3,dI 1] (zH a b c d e f g h) u/\T u))
 (wW b a.length=true/\zT (!decide (((zJ .tok a b.toNat).kind)=2))
 (((xT zQ [Ac3,dI 1] (zH a b c d e f g h) (.tup []) (zH a b c d e f g h)/\
 (λp:Prop=>((wW b a.length=true/\p)/\wW b a.length=true/\p))
 (∃r:Int,xT vK [.str ((zJ .tok a b.toNat).text)] [] (.tup [dI r,.undef]) []/\
 R (dI (yU (1*r))) (zH a (yU (b+1)) c d e f g h)))\/
 ∃u,nP zQ [Ac3,dI 1] (zH a b c d e f g h) u/\T u))
 (zT (decide ((1:Int)<0))
 (wW b a.length=true/\zT (decide (((zJ .tok a b.toNat).text)=(⟨#[48]⟩:AcL)))
 (((xT zQ [Ac3,dI 1] (zH a b c d e f g h) (.tup []) (zH a b c d e f g h)/\
 (λp:Prop=>((wW b a.length=true/\p)/\wW b a.length=true/\p))
 (∃s:Int,xT vK [.str ((zJ .tok a b.toNat).text)] [] (.tup [dI s,.undef]) []/\
 R (dI (yU (1*s))) (zH a (yU (b+1)) c d e f g h)))\/
 ∃u,nP zQ [Ac3,dI 1] (zH a b c d e f g h) u/\T u))
 ((λp:Prop=>((wW b a.length=true/\p)/\wW b a.length=true/\p))
 (∃t:Int,xT vK [.str ((zJ .tok a b.toNat).text)] [] (.tup [dI t,.undef]) []/\
 R (dI (yU (1*t))) (zH a (yU (b+1)) c d e f g h))))
 ((λp:Prop=>((wW b a.length=true/\p)/\wW b a.length=true/\p))
 (∃v:Int,xT vK [.str ((zJ .tok a b.toNat).text)] [] (.tup [dI v,.undef]) []/\
 R (dI (yU (1*v))) (zH a (yU (b+1)) c d e f g h))))))):=by kernel_rfl
theorem K9(a:AcX)(b c d e:Int)(f:AcU)(g:AcV)(h:List (AcL×Int)):aJ XT f139 zL [Ac3] (zH a b c d e f g h) [Ac3] false:=YG func139 (by kernel_rfl) ntmps139 rfl
theorem Ja(a:AcX)(b c d e:Int)(f:AcU)(g:AcV)(h:List (AcL×Int)):cM XT f139 zL [Ac3] (zH a b c d e f g h) [Ac3] false:=Z7 func139 (by kernel_rfl) ntmps139 rfl
def lO:xF:= {own:=[1,2,3,7,83,88],live:=[(0,([0,1,2,3,8,9,10],[1,2,3,1000,1001,2000,2001]))],n:=108,first:=true,clp:=true}
def iH(R:oG)(T:Qn)(a:Ac1)(b:Nat)(c d:Int)(e f:AcP)(g:Int)(h:AcQ)(i:AcR)(j:Int)(k l:AcP)(m:Int)(n:AcQ)(o:AcR)(p:AcX)(q r s t:Int)(u:List (AcL×Int))(v:AcU)(w:AcV):Prop:=LPM lO f140 [1,1,0,1,0,0] 0 b ⟨[(0,Ac3),(1,.ptr 1 0),(2,.ptr 2 0),(3,.ptr 3 0),(8,.sl .str a),(9,dI (a.length:Int)),(10,dI c)],[(1,.cells [Ac3]),(2,.cells [dI d,.sl (.fr .int) e,.sl (.fr .int) f,dI g,.sl (.fr (.list .int)) h,.sl (.fr .lit) i]),(3,.cells [dI j,.sl (.fr .int) k,.sl (.fr .int) l,dI m,.sl (.fr (.list .int)) n,.sl (.fr .lit) o]),(1000,.cells [.sl .tok p,dI q,dI r,.own 2000,.own 2001,dI s,dI t,.own 1001]),(1001,.mp .str .int u),(2000,.row 49 (.fr .var) v),(2001,.row 52 (.fr .con) w)]⟩ (zP 0 (sKM lO f140 [1,1,1] 0 (eXM f140 [Ac3] false R T)))
theorem fe(R:oG)(T:Qn)(q:Ac1)(n0:Nat)(h c3:Int)(c4 c5:AcP)(c6:Int)(c7:AcQ)(c8:AcR)(k:Int)(p o:AcP)(n:Int)(l:AcQ)(m:AcR)(a:AcX)(i b c d:Int)(e:List (AcL×Int))(f:AcU)(g:AcV):iH R T q (n0+1) h c3 c4 c5 c6 c7 c8 k p o n l m a i b c d e f g=
 (zT (decide (h<(q.length:Int)))
 (wW h q.length=true/\∃j:Int,∃az:Bool,xT yZ [Ac3,.str (zJ .str q h.toNat)] (zH a i b c d f g e) (dB az) (zH a j b c d f g e)/\
 zT az
 (zT (decide ((yU (1+h))=0))
 (((xT zQ [Ac3,dI 1] (zH a j b c d f g e) (.tup []) (zH a j b c d f g e)/\
 R (.agg [dI (yU (1+h)),.sl (.fr .int) p,.sl (.fr .int) o,dI n,.sl (.fr (.list .int)) l,.sl (.fr .lit) m]) (zH a j b c d f g e))\/
 ∃u,nP zQ [Ac3,dI 1] (zH a j b c d f g e) u/\T u))
 (zT (decide ((yU (1+h))=1))
 (((∃r:Int,∃ba:AcP,xT zN [Ac3,.clp zL true 1000 0] (zH a j b c d f g e) (.sl (.fr .int) ba) (zH a r b c d f g e)/\
 ((∃s:Int,∃bb:AcP,xT zN [Ac3,.clp zM true 1000 0] (zH a r b c d f g e) (.sl (.fr .int) bb) (zH a s b c d f g e)/\
 ((∃bc:Int,∃bd:Int,xT zL [Ac3] (zH a s b c d f g e) (dI bd) (zH a bc b c d f g e)/\
 R (.agg [dI (yU (1+h)),.sl (.fr .int) bb,.sl (.fr .int) ba,dI bd,.sl (.fr (.list .int)) l,.sl (.fr .lit) m]) (zH a bc b c d f g e))\/
 ∃u,nP zL [Ac3] (zH a s b c d f g e) u/\T u))\/
 ∃u,nP zN [Ac3,.clp zM true 1000 0] (zH a r b c d f g e) u/\T u))\/
 ∃u,nP zN [Ac3,.clp zL true 1000 0] (zH a j b c d f g e) u/\T u))
 (zT (decide ((yU (1+h))=2))
 (((∃t:Int,∃be:AcP,xT zN [Ac3,.clp zL true 1000 0] (zH a j b c d f g e) (.sl (.fr .int) be) (zH a t b c d f g e)/\
 ((∃v:Int,∃bf:AcP,xT zN [Ac3,.clp zM true 1000 0] (zH a t b c d f g e) (.sl (.fr .int) bf) (zH a v b c d f g e)/\
 ((∃bg:Int,∃bh:Int,xT zL [Ac3] (zH a v b c d f g e) (dI bh) (zH a bg b c d f g e)/\
 R (.agg [dI (yU (1+h)),.sl (.fr .int) bf,.sl (.fr .int) be,dI bh,.sl (.fr (.list .int)) l,.sl (.fr .lit) m]) (zH a bg b c d f g e))\/
 ∃u,nP zL [Ac3] (zH a v b c d f g e) u/\T u))\/
 ∃u,nP zN [Ac3,.clp zM true 1000 0] (zH a t b c d f g e) u/\T u))\/
 ∃u,nP zN [Ac3,.clp zL true 1000 0] (zH a j b c d f g e) u/\T u))
 (zT (decide ((yU (1+h))=3))
 (((∃w:Int,∃bi:AcP,xT zN [Ac3,.clp zL true 1000 0] (zH a j b c d f g e) (.sl (.fr .int) bi) (zH a w b c d f g e)/\
 ((∃x:Int,∃bj:AcP,xT zN [Ac3,.clp zM true 1000 0] (zH a w b c d f g e) (.sl (.fr .int) bj) (zH a x b c d f g e)/\
 ((∃bk:Int,∃bl:Int,xT zL [Ac3] (zH a x b c d f g e) (dI bl) (zH a bk b c d f g e)/\
 R (.agg [dI (yU (1+h)),.sl (.fr .int) bj,.sl (.fr .int) bi,dI bl,.sl (.fr (.list .int)) l,.sl (.fr .lit) m]) (zH a bk b c d f g e))\/
 ∃u,nP zL [Ac3] (zH a x b c d f g e) u/\T u))\/
 ∃u,nP zN [Ac3,.clp zM true 1000 0] (zH a w b c d f g e) u/\T u))\/
 ∃u,nP zN [Ac3,.clp zL true 1000 0] (zH a j b c d f g e) u/\T u))
 (zT (decide ((yU (1+h))=4))
 (((∃bm:Int,∃bn:AcP,xT zN [Ac3,.clp zM true 1000 0] (zH a j b c d f g e) (.sl (.fr .int) bn) (zH a bm b c d f g e)/\
 R (.agg [dI (yU (1+h)),.sl (.fr .int) bn,.sl (.fr .int) o,dI n,.sl (.fr (.list .int)) l,.sl (.fr .lit) m]) (zH a bm b c d f g e))\/
 ∃u,nP zN [Ac3,.clp zM true 1000 0] (zH a j b c d f g e) u/\T u))
 (zT (decide ((yU (1+h))=5))
 (((∃y:Int,∃bo:AcP,xT zN [Ac3,.clp zL true 1000 0] (zH a j b c d f g e) (.sl (.fr .int) bo) (zH a y b c d f g e)/\
 ((∃bp:Int,∃bq:AcP,xT xR [Ac3,dI 2] (zH a y b c d f g e) (.sl (.fr .int) bq) (zH a bp b c d f g e)/\
 R (.agg [dI (yU (1+h)),.sl (.fr .int) bq,.sl (.fr .int) bo,dI n,.sl (.fr (.list .int)) l,.sl (.fr .lit) m]) (zH a bp b c d f g e))\/
 ∃u,nP xR [Ac3,dI 2] (zH a y b c d f g e) u/\T u))\/
 ∃u,nP zN [Ac3,.clp zL true 1000 0] (zH a j b c d f g e) u/\T u))
 (zT (decide ((yU (1+h))=6))
 (((∃z:Int,∃br:AcP,xT zN [Ac3,.clp zM true 1000 0] (zH a j b c d f g e) (.sl (.fr .int) br) (zH a z b c d f g e)/\
 ((∃bs:Int,∃bt:AcQ,xT tX [Ac3,.clp yW false 1002 0] (Bx a z b c d f g e) (.sl (.fr (.list .int)) bt) (Bx a bs b c d f g e)/\
 R (.agg [dI (yU (1+h)),.sl (.fr .int) br,.sl (.fr .int) o,dI n,.sl (.fr (.list .int)) bt,.sl (.fr .lit) m]) (zH a bs b c d f g e))\/
 ∃u,nP tX [Ac3,.clp yW false 1002 0] (Bx a z b c d f g e) u/\T u))\/
 ∃u,nP zN [Ac3,.clp zM true 1000 0] (zH a j b c d f g e) u/\T u))
 (zT (decide ((yU (1+h))=7))
 (((∃bu:Int,∃bv:AcP,xT xR [Ac3,dI 3] (zH a j b c d f g e) (.sl (.fr .int) bv) (zH a bu b c d f g e)/\
 R (.agg [dI (yU (1+h)),.sl (.fr .int) bv,.sl (.fr .int) o,dI n,.sl (.fr (.list .int)) l,.sl (.fr .lit) m]) (zH a bu b c d f g e))\/
 ∃u,nP xR [Ac3,dI 3] (zH a j b c d f g e) u/\T u))
 (zT (decide ((yU (1+h))=8))
 (((∃aa:Int,∃ab:Int,xT zM [Ac3] (zH a j b c d f g e) (dI ab) (zH a aa b c d f g e)/\
 ((∃bw:Int,∃ac:AcP,xT zN [Ac3,.clp zM true 1000 0] (zH a aa b c d f g e) (.sl (.fr .int) ac) (zH a bw b c d f g e)/\
 yX (.fr .int) (([ab]).length+ac.length)=true/\R (.agg [dI (yU (1+h)),.sl (.fr .int) (([ab])++ac),.sl (.fr .int) o,dI n,.sl (.fr (.list .int)) l,.sl (.fr .lit) m]) (zH a bw b c d f g e))\/
 ∃u,nP zN [Ac3,.clp zM true 1000 0] (zH a aa b c d f g e) u/\T u))\/
 ∃u,nP zM [Ac3] (zH a j b c d f g e) u/\T u))
 (zT (decide ((yU (1+h))=9))
 (((∃bx:Int,∃bz:AcR,xT uH [Ac3,.clp yN true 1000 0] (zH a j b c d f g e) (.sl (.fr .lit) bz) (zH a bx b c d f g e)/\
 R (.agg [dI (yU (1+h)),.sl (.fr .int) p,.sl (.fr .int) o,dI n,.sl (.fr (.list .int)) l,.sl (.fr .lit) bz]) (zH a bx b c d f g e))\/
 ∃u,nP uH [Ac3,.clp yN true 1000 0] (zH a j b c d f g e) u/\T u))
 (zT (decide ((yU (1+h))=10))
 (((∃ad:Int,∃ca:AcP,xT xR [Ac3,dI 1] (zH a j b c d f g e) (.sl (.fr .int) ca) (zH a ad b c d f g e)/\
 ((∃cb:Int,∃cc:zA,xT yN [Ac3] (zH a ad b c d f g e) (dL cc) (zH a cb b c d f g e)/\
 R (.agg [dI (yU (1+h)),.sl (.fr .int) ca,.sl (.fr .int) o,dI n,.sl (.fr (.list .int)) l,.sl (.fr .lit) ([cc])]) (zH a cb b c d f g e))\/
 ∃u,nP yN [Ac3] (zH a ad b c d f g e) u/\T u))\/
 ∃u,nP xR [Ac3,dI 1] (zH a j b c d f g e) u/\T u))
 (R (.agg [dI (yU (1+h)),.sl (.fr .int) p,.sl (.fr .int) o,dI n,.sl (.fr (.list .int)) l,.sl (.fr .lit) m]) (zH a j b c d f g e)))))))))))))
 (iH R T q n0 (yU (h+1)) c3 c4 c5 c6 c7 c8 k p o n l m a j b c d e f g))
 (zT (decide (k=0))
 (((xT zQ [Ac3,dI 1] (zH a i b c d f g e) (.tup []) (zH a i b c d f g e)/\
 R (.agg [dI k,.sl (.fr .int) p,.sl (.fr .int) o,dI n,.sl (.fr (.list .int)) l,.sl (.fr .lit) m]) (zH a i b c d f g e))\/
 ∃u,nP zQ [Ac3,dI 1] (zH a i b c d f g e) u/\T u))
 (zT (decide (k=1))
 (((∃ae:Int,∃cd:AcP,xT zN [Ac3,.clp zL true 1000 0] (zH a i b c d f g e) (.sl (.fr .int) cd) (zH a ae b c d f g e)/\
 ((∃af:Int,∃ce:AcP,xT zN [Ac3,.clp zM true 1000 0] (zH a ae b c d f g e) (.sl (.fr .int) ce) (zH a af b c d f g e)/\
 ((∃cf:Int,∃cg:Int,xT zL [Ac3] (zH a af b c d f g e) (dI cg) (zH a cf b c d f g e)/\
 R (.agg [dI k,.sl (.fr .int) ce,.sl (.fr .int) cd,dI cg,.sl (.fr (.list .int)) l,.sl (.fr .lit) m]) (zH a cf b c d f g e))\/
 ∃u,nP zL [Ac3] (zH a af b c d f g e) u/\T u))\/
 ∃u,nP zN [Ac3,.clp zM true 1000 0] (zH a ae b c d f g e) u/\T u))\/
 ∃u,nP zN [Ac3,.clp zL true 1000 0] (zH a i b c d f g e) u/\T u))
 (zT (decide (k=2))
 (((∃ag:Int,∃ch:AcP,xT zN [Ac3,.clp zL true 1000 0] (zH a i b c d f g e) (.sl (.fr .int) ch) (zH a ag b c d f g e)/\
 ((∃ah:Int,∃ci:AcP,xT zN [Ac3,.clp zM true 1000 0] (zH a ag b c d f g e) (.sl (.fr .int) ci) (zH a ah b c d f g e)/\
 ((∃cj:Int,∃ck:Int,xT zL [Ac3] (zH a ah b c d f g e) (dI ck) (zH a cj b c d f g e)/\
 R (.agg [dI k,.sl (.fr .int) ci,.sl (.fr .int) ch,dI ck,.sl (.fr (.list .int)) l,.sl (.fr .lit) m]) (zH a cj b c d f g e))\/
 ∃u,nP zL [Ac3] (zH a ah b c d f g e) u/\T u))\/
 ∃u,nP zN [Ac3,.clp zM true 1000 0] (zH a ag b c d f g e) u/\T u))\/
 ∃u,nP zN [Ac3,.clp zL true 1000 0] (zH a i b c d f g e) u/\T u))
 (zT (decide (k=3))
 (((∃ai:Int,∃cl:AcP,xT zN [Ac3,.clp zL true 1000 0] (zH a i b c d f g e) (.sl (.fr .int) cl) (zH a ai b c d f g e)/\
 ((∃aj:Int,∃cm:AcP,xT zN [Ac3,.clp zM true 1000 0] (zH a ai b c d f g e) (.sl (.fr .int) cm) (zH a aj b c d f g e)/\
 ((∃cn:Int,∃co:Int,xT zL [Ac3] (zH a aj b c d f g e) (dI co) (zH a cn b c d f g e)/\
 R (.agg [dI k,.sl (.fr .int) cm,.sl (.fr .int) cl,dI co,.sl (.fr (.list .int)) l,.sl (.fr .lit) m]) (zH a cn b c d f g e))\/
 ∃u,nP zL [Ac3] (zH a aj b c d f g e) u/\T u))\/
 ∃u,nP zN [Ac3,.clp zM true 1000 0] (zH a ai b c d f g e) u/\T u))\/
 ∃u,nP zN [Ac3,.clp zL true 1000 0] (zH a i b c d f g e) u/\T u))
 (zT (decide (k=4))
 (((∃cp:Int,∃cq:AcP,xT zN [Ac3,.clp zM true 1000 0] (zH a i b c d f g e) (.sl (.fr .int) cq) (zH a cp b c d f g e)/\
 R (.agg [dI k,.sl (.fr .int) cq,.sl (.fr .int) o,dI n,.sl (.fr (.list .int)) l,.sl (.fr .lit) m]) (zH a cp b c d f g e))\/
 ∃u,nP zN [Ac3,.clp zM true 1000 0] (zH a i b c d f g e) u/\T u))
 (zT (decide (k=5))
 (((∃ak:Int,∃cr:AcP,xT zN [Ac3,.clp zL true 1000 0] (zH a i b c d f g e) (.sl (.fr .int) cr) (zH a ak b c d f g e)/\
 ((∃cs:Int,∃ct:AcP,xT xR [Ac3,dI 2] (zH a ak b c d f g e) (.sl (.fr .int) ct) (zH a cs b c d f g e)/\
 R (.agg [dI k,.sl (.fr .int) ct,.sl (.fr .int) cr,dI n,.sl (.fr (.list .int)) l,.sl (.fr .lit) m]) (zH a cs b c d f g e))\/
 ∃u,nP xR [Ac3,dI 2] (zH a ak b c d f g e) u/\T u))\/
 ∃u,nP zN [Ac3,.clp zL true 1000 0] (zH a i b c d f g e) u/\T u))
 (zT (decide (k=6))
 (((∃al:Int,∃cu:AcP,xT zN [Ac3,.clp zM true 1000 0] (zH a i b c d f g e) (.sl (.fr .int) cu) (zH a al b c d f g e)/\
 ((∃cv:Int,∃cw:AcQ,xT tX [Ac3,.clp yW false 1002 0] (Bx a al b c d f g e) (.sl (.fr (.list .int)) cw) (Bx a cv b c d f g e)/\
 R (.agg [dI k,.sl (.fr .int) cu,.sl (.fr .int) o,dI n,.sl (.fr (.list .int)) cw,.sl (.fr .lit) m]) (zH a cv b c d f g e))\/
 ∃u,nP tX [Ac3,.clp yW false 1002 0] (Bx a al b c d f g e) u/\T u))\/
 ∃u,nP zN [Ac3,.clp zM true 1000 0] (zH a i b c d f g e) u/\T u))
 (zT (decide (k=7))
 (((∃cx:Int,∃cy:AcP,xT xR [Ac3,dI 3] (zH a i b c d f g e) (.sl (.fr .int) cy) (zH a cx b c d f g e)/\
 R (.agg [dI k,.sl (.fr .int) cy,.sl (.fr .int) o,dI n,.sl (.fr (.list .int)) l,.sl (.fr .lit) m]) (zH a cx b c d f g e))\/
 ∃u,nP xR [Ac3,dI 3] (zH a i b c d f g e) u/\T u))
 (zT (decide (k=8))
 (((∃am:Int,∃an:Int,xT zM [Ac3] (zH a i b c d f g e) (dI an) (zH a am b c d f g e)/\
 ((∃cz:Int,∃ao:AcP,xT zN [Ac3,.clp zM true 1000 0] (zH a am b c d f g e) (.sl (.fr .int) ao) (zH a cz b c d f g e)/\
 yX (.fr .int) (([an]).length+ao.length)=true/\R (.agg [dI k,.sl (.fr .int) (([an])++ao),.sl (.fr .int) o,dI n,.sl (.fr (.list .int)) l,.sl (.fr .lit) m]) (zH a cz b c d f g e))\/
 ∃u,nP zN [Ac3,.clp zM true 1000 0] (zH a am b c d f g e) u/\T u))\/
 ∃u,nP zM [Ac3] (zH a i b c d f g e) u/\T u))
 (zT (decide (k=9))
 (((∃da:Int,∃db:AcR,xT uH [Ac3,.clp yN true 1000 0] (zH a i b c d f g e) (.sl (.fr .lit) db) (zH a da b c d f g e)/\
 R (.agg [dI k,.sl (.fr .int) p,.sl (.fr .int) o,dI n,.sl (.fr (.list .int)) l,.sl (.fr .lit) db]) (zH a da b c d f g e))\/
 ∃u,nP uH [Ac3,.clp yN true 1000 0] (zH a i b c d f g e) u/\T u))
 (zT (decide (k=10))
 (((∃ap:Int,∃dc:AcP,xT xR [Ac3,dI 1] (zH a i b c d f g e) (.sl (.fr .int) dc) (zH a ap b c d f g e)/\
 ((∃dd:Int,∃de:zA,xT yN [Ac3] (zH a ap b c d f g e) (dL de) (zH a dd b c d f g e)/\
 R (.agg [dI k,.sl (.fr .int) dc,.sl (.fr .int) o,dI n,.sl (.fr (.list .int)) l,.sl (.fr .lit) ([de])]) (zH a dd b c d f g e))\/
 ∃u,nP yN [Ac3] (zH a ap b c d f g e) u/\T u))\/
 ∃u,nP xR [Ac3,dI 1] (zH a i b c d f g e) u/\T u))
 (R (.agg [dI k,.sl (.fr .int) p,.sl (.fr .int) o,dI n,.sl (.fr (.list .int)) l,.sl (.fr .lit) m]) (zH a i b c d f g e)))))))))))))):=by kernel_rfl
theorem Lj(a:AcX)(b c d e:Int)(f:AcU)(g:AcV)(h:List (AcL×Int))(R:oG)(T:Qn):FXM lO f140 [Ac3] (zH a b c d e f g h) [Ac3] false R T=
 (yJ jW [] (.list .str) λi=>
 ∃n0,iH R T i n0 0 0 ([]:AcP) ([]:AcP) 0 ([]:AcQ) ([]:AcR) 0 ([]:AcP) ([]:AcP) 0 ([]:AcQ) ([]:AcR) a b c d e h f g):=by kernel_rfl
theorem ND(a:AcX)(b c d e:Int)(f:AcU)(g:AcV)(h:List (AcL×Int)):aJ lO f140 qZ [Ac3] (zH a b c d e f g h) [Ac3] false:=YG func140 (by kernel_rfl) ntmps140 rfl
theorem NF(a:AcX)(b c d e:Int)(f:AcU)(g:AcV)(h:List (AcL×Int)):cM lO f140 qZ [Ac3] (zH a b c d e f g h) [Ac3] false:=Z7 func140 (by kernel_rfl) ntmps140 rfl
def XU:xF:= {own:=[],live:=[],n:=27,first:=true,tdraw:=true}
theorem Hv(b:AcX)(c d e f:Int)(g:AcU)(h:AcV)(a:List (AcL×Int))(R:oG)(T:Qn):FXM XU f141 [Ac3] (zH b c d e f g h a) [Ac3] false R T=
 ((λp:Prop=>((p)/\p))
 (((∃i:AcL,xT uA [Ac3] (zH b c d e f g h a) (.str i) (zH b c d e f g h a)/\
 (λp:Prop=>((((p)/\p))/\p))
 (zT (!(MB .str .int i a))
 (((xT zQ [Ac3,dI 5] (zH b c d e f g h a) (.tup []) (zH b c d e f g h a)/\
 R (dI (kC .str .int i a)) (zH b (yU (c+1)) d e f g h a))\/
 ∃u,nP zQ [Ac3,dI 5] (zH b c d e f g h a) u/\T u))
 (R (dI (kC .str .int i a)) (zH b (yU (c+1)) d e f g h a))))\/
 ∃u,nP uA [Ac3] (zH b c d e f g h a) u/\T u))):=by kernel_rfl
theorem Jb(a:AcX)(b c d e:Int)(f:AcU)(g:AcV)(h:List (AcL×Int)):aJ XU f141 zM [Ac3] (zH a b c d e f g h) [Ac3] false:=YG func141 (by kernel_rfl) ntmps141 rfl
theorem Jc(a:AcX)(b c d e:Int)(f:AcU)(g:AcV)(h:List (AcL×Int)):cM XU f141 zM [Ac3] (zH a b c d e f g h) [Ac3] false:=Z7 func141 (by kernel_rfl) ntmps141 rfl
def Vm:xF:= {own:=[],live:=[],n:=9,first:=true}
theorem NG(a:AcX)(b c d e:Int)(f:AcU)(g:AcV)(h:List (AcL×Int))(i:Int)(R:oG)(T:Qn):FXM Vm f142 [Ac3,dI i] (zH a b c d e f g h) [Ac3] false R T=
 (∃j:Int,xT jY [Ac3] (zH a b c d e f g h) (dI j) (zH a b c d e f g h)/\
 T (.iface 154 (.agg [.int .i64 j,.int .i64 i].toArray))):=by kernel_rfl
theorem PL(a:AcX)(b c d e:Int)(f:AcU)(g:AcV)(h:List (AcL×Int))(i:Int):cM Vm f142 zQ [Ac3,dI i] (zH a b c d e f g h) [Ac3] false:=Z7 func142 (by kernel_rfl) ntmps142 rfl
def lP:xF:= {own:=[14,22],live:=[(0,([0,1,5],[14,1000,1001,2000,2001]))],n:=27,first:=true,clp:=true}
def iI(R:oG)(T:Qn)(a:Nat)(b:AcP)(c:AcX)(d e f g:Int)(h:List (AcL×Int))(i:AcU)(j:AcV):Prop:=LPM lP f190 [1,1,1,1,0,0,0] 0 a ⟨[(0,Ac3),(1,.clp zL true 1000 0),(5,.own 14)],[(14,.row 3 (.fr .int) b),(1000,.cells [.sl .tok c,dI d,dI e,.own 2000,.own 2001,dI f,dI g,.own 1001]),(1001,.mp .str .int h),(2000,.row 49 (.fr .var) i),(2001,.row 52 (.fr .con) j)]⟩ (zP 0 (sKM lP f190 [1,1,1,1,1] 0 (eXM f190 [Ac3] false R T)))
theorem ff(R:oG)(T:Qn)(k:Nat)(i:AcP)(a:AcX)(l b c d:Int)(e:List (AcL×Int))(f:AcU)(g:AcV):iI R T (k+1) i a l b c d e f g=
 (∃h:Int,∃m:Bool,xT yZ [Ac3,.str (⟨#[44]⟩:AcL)] (zH a l b c d f g e) (dB m) (zH a h b c d f g e)/\
 zT m
 (((∃n:Int,∃j:Int,xT zL [Ac3] (zH a h b c d f g e) (dI j) (zH a n b c d f g e)/\
 yX (.fr .int) (i.length+([j]).length)=true/\iI R T k (i++([j])) a n b c d e f g)\/
 ∃u,nP zL [Ac3] (zH a h b c d f g e) u/\T u))
 (((∃o:Int,xT zK [Ac3,.sl .str ([(⟨#[93]⟩:AcL)])] (zH a h b c d f g e) (.tup []) (zH a o b c d f g e)/\
 R (.sl (.fr .int) i) (zH a o b c d f g e))\/
 ∃u,nP zK [Ac3,.sl .str ([(⟨#[93]⟩:AcL)])] (zH a h b c d f g e) u/\T u))):=by kernel_rfl
theorem Lk(a:AcX)(i b c d:Int)(e:AcU)(f:AcV)(g:List (AcL×Int))(R:oG)(T:Qn):FXM lP f190 [Ac3,.clp zL true 1000 0] (zH a i b c d e f g) [Ac3] false R T=
 (((∃j:Int,xT zK [Ac3,.sl .str ([(⟨#[91]⟩:AcL)])] (zH a i b c d e f g) (.tup []) (zH a j b c d e f g)/\
 ∃h:Int,∃k:Bool,xT yZ [Ac3,.str (⟨#[93]⟩:AcL)] (zH a j b c d e f g) (dB k) (zH a h b c d e f g)/\
 zT k
 (R (.sl (.fr .int) ([]:List (Int))) (zH a h b c d e f g))
 (((∃l:Int,∃m:Int,xT zL [Ac3] (zH a h b c d e f g) (dI m) (zH a l b c d e f g)/\
 ∃n0,iI R T n0 ([m]) a l b c d g e f)\/
 ∃u,nP zL [Ac3] (zH a h b c d e f g) u/\T u)))\/
 ∃u,nP zK [Ac3,.sl .str ([(⟨#[91]⟩:AcL)])] (zH a i b c d e f g) u/\T u)):=by kernel_rfl
theorem NH(a:AcX)(b c d e:Int)(f:AcU)(g:AcV)(h:List (AcL×Int)):aJ lP f190 zN [Ac3,.clp zL true 1000 0] (zH a b c d e f g h) [Ac3] false:=YG func190 (by kernel_rfl) ntmps190 rfl
theorem NI(a:AcX)(b c d e:Int)(f:AcU)(g:AcV)(h:List (AcL×Int)):cM lP f190 zN [Ac3,.clp zL true 1000 0] (zH a b c d e f g h) [Ac3] false:=Z7 func190 (by kernel_rfl) ntmps190 rfl
def lQ:xF:= {own:=[14,22],live:=[(0,([0,1,5],[14,1000,1001,2000,2001]))],n:=27,first:=true,clp:=true}
def iJ(R:oG)(T:Qn)(a:Nat)(b:AcP)(c:AcX)(d e f g:Int)(h:List (AcL×Int))(i:AcU)(j:AcV):Prop:=LPM lQ f190 [1,1,1,1,0,0,0] 0 a ⟨[(0,Ac3),(1,.clp zM true 1000 0),(5,.own 14)],[(14,.row 3 (.fr .int) b),(1000,.cells [.sl .tok c,dI d,dI e,.own 2000,.own 2001,dI f,dI g,.own 1001]),(1001,.mp .str .int h),(2000,.row 49 (.fr .var) i),(2001,.row 52 (.fr .con) j)]⟩ (zP 0 (sKM lQ f190 [1,1,1,1,1] 0 (eXM f190 [Ac3] false R T)))
theorem fg(R:oG)(T:Qn)(k:Nat)(i:AcP)(a:AcX)(l b c d:Int)(e:List (AcL×Int))(f:AcU)(g:AcV):iJ R T (k+1) i a l b c d e f g=
 (∃h:Int,∃m:Bool,xT yZ [Ac3,.str (⟨#[44]⟩:AcL)] (zH a l b c d f g e) (dB m) (zH a h b c d f g e)/\
 zT m
 (((∃n:Int,∃j:Int,xT zM [Ac3] (zH a h b c d f g e) (dI j) (zH a n b c d f g e)/\
 yX (.fr .int) (i.length+([j]).length)=true/\iJ R T k (i++([j])) a n b c d e f g)\/
 ∃u,nP zM [Ac3] (zH a h b c d f g e) u/\T u))
 (((∃o:Int,xT zK [Ac3,.sl .str ([(⟨#[93]⟩:AcL)])] (zH a h b c d f g e) (.tup []) (zH a o b c d f g e)/\
 R (.sl (.fr .int) i) (zH a o b c d f g e))\/
 ∃u,nP zK [Ac3,.sl .str ([(⟨#[93]⟩:AcL)])] (zH a h b c d f g e) u/\T u))):=by kernel_rfl
theorem Ll(a:AcX)(i b c d:Int)(e:AcU)(f:AcV)(g:List (AcL×Int))(R:oG)(T:Qn):FXM lQ f190 [Ac3,.clp zM true 1000 0] (zH a i b c d e f g) [Ac3] false R T=
 (((∃j:Int,xT zK [Ac3,.sl .str ([(⟨#[91]⟩:AcL)])] (zH a i b c d e f g) (.tup []) (zH a j b c d e f g)/\
 ∃h:Int,∃k:Bool,xT yZ [Ac3,.str (⟨#[93]⟩:AcL)] (zH a j b c d e f g) (dB k) (zH a h b c d e f g)/\
 zT k
 (R (.sl (.fr .int) ([]:List (Int))) (zH a h b c d e f g))
 (((∃l:Int,∃m:Int,xT zM [Ac3] (zH a h b c d e f g) (dI m) (zH a l b c d e f g)/\
 ∃n0,iJ R T n0 ([m]) a l b c d g e f)\/
 ∃u,nP zM [Ac3] (zH a h b c d e f g) u/\T u)))\/
 ∃u,nP zK [Ac3,.sl .str ([(⟨#[91]⟩:AcL)])] (zH a i b c d e f g) u/\T u)):=by kernel_rfl
theorem NJ(a:AcX)(b c d e:Int)(f:AcU)(g:AcV)(h:List (AcL×Int)):aJ lQ f190 zN [Ac3,.clp zM true 1000 0] (zH a b c d e f g h) [Ac3] false:=YG func190 (by kernel_rfl) ntmps190 rfl
theorem NK(a:AcX)(b c d e:Int)(f:AcU)(g:AcV)(h:List (AcL×Int)):cM lQ f190 zN [Ac3,.clp zM true 1000 0] (zH a b c d e f g h) [Ac3] false:=Z7 func190 (by kernel_rfl) ntmps190 rfl
def mP:xF:= {own:=[5,15],live:=[(0,([0,5,7,8],[5,1000,1001,2000,2001]))],n:=18,first:=true}
def kK(a:Int)(R:oG)(T:Qn)(b:Nat)(c:Int)(d:AcP)(e:AcX)(f g h i:Int)(j:List (AcL×Int))(k:AcU)(l:AcV):Prop:=LPM mP f191 [1,1,0,1,0,0] 0 b ⟨[(0,Ac3),(5,.own 5),(7,dI a),(8,dI c)],[(5,.row 3 (.fr .int) d),(1000,.cells [.sl .tok e,dI f,dI g,.own 2000,.own 2001,dI h,dI i,.own 1001]),(1001,.mp .str .int j),(2000,.row 49 (.fr .var) k),(2001,.row 52 (.fr .con) l)]⟩ (zP 0 (sKM mP f191 [1,1,1] 0 (eXM f191 [Ac3] false R T)))
theorem iL(j:Int)(R:oG)(T:Qn)(m:Nat)(k:Int)(h:AcP)(a:AcX)(i b c d:Int)(e:List (AcL×Int))(f:AcU)(g:AcV):kK j R T (m+1) k h a i b c d e f g=
 (zT (decide (k<j))
 (((∃n:Int,∃l:Int,xT zM [Ac3] (zH a i b c d f g e) (dI l) (zH a n b c d f g e)/\
 yX (.fr .int) (h.length+([l]).length)=true/\kK j R T m (yU (k+1)) (h++([l])) a n b c d e f g)\/
 ∃u,nP zM [Ac3] (zH a i b c d f g e) u/\T u))
 (R (.sl (.fr .int) h) (zH a i b c d f g e))):=by kernel_rfl
theorem NL(a:AcX)(b c d e:Int)(f:AcU)(g:AcV)(h:List (AcL×Int))(i:Int)(R:oG)(T:Qn):FXM mP f191 [Ac3,dI i] (zH a b c d e f g h) [Ac3] false R T=
 (∃n0,kK i R T n0 0 ([]:List (Int)) a b c d e h f g):=by kernel_rfl
theorem PM(a:AcX)(b c d e:Int)(f:AcU)(g:AcV)(h:List (AcL×Int))(i:Int):aJ mP f191 xR [Ac3,dI i] (zH a b c d e f g h) [Ac3] false:=YG func191 (by kernel_rfl) ntmps191 rfl
theorem PN(a:AcX)(b c d e:Int)(f:AcU)(g:AcV)(h:List (AcL×Int))(i:Int):cM mP f191 xR [Ac3,dI i] (zH a b c d e f g h) [Ac3] false:=Z7 func191 (by kernel_rfl) ntmps191 rfl
def lR:xF:= {own:=[14,22],live:=[(0,([0,1,5],[14,1000,1001,1002,2000,2001]))],n:=27,first:=true,clp:=true}
def iM(R:oG)(T:Qn)(a:Nat)(b:AcQ)(c:AcX)(d e f g:Int)(h:List (AcL×Int))(i:AcU)(j:AcV):Prop:=LPM lR f192 [1,1,1,1,0,0,0] 0 a ⟨[(0,Ac3),(1,.clp yW false 1002 0),(5,.own 14)],[(14,.row 28 (.fr (.list .int)) b),(1000,.cells [.sl .tok c,dI d,dI e,.own 2000,.own 2001,dI f,dI g,.own 1001]),(1001,.mp .str .int h),(1002,.cells [Ac3]),(2000,.row 49 (.fr .var) i),(2001,.row 52 (.fr .con) j)]⟩ (zP 0 (sKM lR f192 [1,1,1,1,1] 0 (eXM f192 [Ac3,.ptr 1002 0] false R T)))
theorem fh(R:oG)(T:Qn)(k:Nat)(i:AcQ)(a:AcX)(l b c d:Int)(e:List (AcL×Int))(f:AcU)(g:AcV):iM R T (k+1) i a l b c d e f g=
 (∃h:Int,∃m:Bool,xT yZ [Ac3,.str (⟨#[44]⟩:AcL)] (zH a l b c d f g e) (dB m) (zH a h b c d f g e)/\
 zT m
 (((∃n:Int,∃j:AcP,xT yW [Ac3] (zan a h b c d f g e) (.sl (.fr .int) j) (zan a n b c d f g e)/\
 yX (.fr (.list .int)) (i.length+([j]).length)=true/\iM R T k (i++([j])) a n b c d e f g)\/
 ∃u,nP yW [Ac3] (zan a h b c d f g e) u/\T u))
 (((∃o:Int,xT zK [Ac3,.sl .str ([(⟨#[93]⟩:AcL)])] (zH a h b c d f g e) (.tup []) (zH a o b c d f g e)/\
 R (.sl (.fr (.list .int)) i) (Bx a o b c d f g e))\/
 ∃u,nP zK [Ac3,.sl .str ([(⟨#[93]⟩:AcL)])] (zH a h b c d f g e) u/\T u))):=by kernel_rfl
theorem Lm(a:AcX)(i b c d:Int)(e:AcU)(f:AcV)(g:List (AcL×Int))(R:oG)(T:Qn):FXM lR f192 [Ac3,.clp yW false 1002 0] (Bx a i b c d e f g) [Ac3,.ptr 1002 0] false R T=
 (((∃j:Int,xT zK [Ac3,.sl .str ([(⟨#[91]⟩:AcL)])] (zH a i b c d e f g) (.tup []) (zH a j b c d e f g)/\
 ∃h:Int,∃k:Bool,xT yZ [Ac3,.str (⟨#[93]⟩:AcL)] (zH a j b c d e f g) (dB k) (zH a h b c d e f g)/\
 zT k
 (R (.sl (.fr (.list .int)) ([]:AcQ)) (Bx a h b c d e f g))
 (((∃l:Int,∃m:AcP,xT yW [Ac3] (zan a h b c d e f g) (.sl (.fr .int) m) (zan a l b c d e f g)/\
 ∃n0,iM R T n0 ([m]) a l b c d g e f)\/
 ∃u,nP yW [Ac3] (zan a h b c d e f g) u/\T u)))\/
 ∃u,nP zK [Ac3,.sl .str ([(⟨#[91]⟩:AcL)])] (zH a i b c d e f g) u/\T u)):=by kernel_rfl
theorem NM(a:AcX)(b c d e:Int)(f:AcU)(g:AcV)(h:List (AcL×Int)):aJ lR f192 tX [Ac3,.clp yW false 1002 0] (Bx a b c d e f g h) [Ac3,.ptr 1002 0] false:=YG func192 (by kernel_rfl) ntmps192 rfl
theorem NN(a:AcX)(b c d e:Int)(f:AcU)(g:AcV)(h:List (AcL×Int)):cM lR f192 tX [Ac3,.clp yW false 1002 0] (Bx a b c d e f g h) [Ac3,.ptr 1002 0] false:=Z7 func192 (by kernel_rfl) ntmps192 rfl
def cN:xF:= {own:=[],live:=[],n:=6,first:=true,clp:=true}
theorem PO(a:AcX)(h b c d:Int)(e:AcU)(f:AcV)(g:List (AcL×Int))(R:oG)(T:Qn):FXM cN f193 [Ac3] (zan a h b c d e f g) [Ac3] false R T=
 (((∃i:Int,∃j:AcP,xT zN [Ac3,.clp zL true 1000 0] (zH a h b c d e f g) (.sl (.fr .int) j) (zH a i b c d e f g)/\
 R (.sl (.fr .int) j) (zan a i b c d e f g))\/
 ∃u,nP zN [Ac3,.clp zL true 1000 0] (zH a h b c d e f g) u/\T u)):=by kernel_rfl
theorem Qa(a:AcX)(b c d e:Int)(f:AcU)(g:AcV)(h:List (AcL×Int)):aJ cN f193 yW [Ac3] (zan a b c d e f g h) [Ac3] false:=YG func193 (by kernel_rfl) ntmps193 rfl
theorem Qb(a:AcX)(b c d e:Int)(f:AcU)(g:AcV)(h:List (AcL×Int)):cM cN f193 yW [Ac3] (zan a b c d e f g h) [Ac3] false:=Z7 func193 (by kernel_rfl) ntmps193 rfl
def nG:xF:= {own:=[6,14,22],live:=[(0,([0,1,5],[14,1000,1001,2000,2001]))],n:=27,first:=true,clp:=true}
def lS(R:oG)(T:Qn)(a:Nat)(b:AcR)(c:AcX)(d e f g:Int)(h:List (AcL×Int))(i:AcU)(j:AcV):Prop:=LPM nG f194 [1,1,1,1,0,0,0] 0 a ⟨[(0,Ac3),(1,.clp yN true 1000 0),(5,.own 14)],[(14,.row 66 (.fr .lit) b),(1000,.cells [.sl .tok c,dI d,dI e,.own 2000,.own 2001,dI f,dI g,.own 1001]),(1001,.mp .str .int h),(2000,.row 49 (.fr .var) i),(2001,.row 52 (.fr .con) j)]⟩ (zP 0 (sKM nG f194 [1,1,1,1,1] 0 (eXM f194 [Ac3] false R T)))
theorem jB(R:oG)(T:Qn)(k:Nat)(i:AcR)(a:AcX)(l b c d:Int)(e:List (AcL×Int))(f:AcU)(g:AcV):lS R T (k+1) i a l b c d e f g=
 (∃h:Int,∃m:Bool,xT yZ [Ac3,.str (⟨#[44]⟩:AcL)] (zH a l b c d f g e) (dB m) (zH a h b c d f g e)/\
 zT m
 (((∃n:Int,∃j:zA,xT yN [Ac3] (zH a h b c d f g e) (dL j) (zH a n b c d f g e)/\
 yX (.fr .lit) (i.length+([j]).length)=true/\lS R T k (i++([j])) a n b c d e f g)\/
 ∃u,nP yN [Ac3] (zH a h b c d f g e) u/\T u))
 (((∃o:Int,xT zK [Ac3,.sl .str ([(⟨#[93]⟩:AcL)])] (zH a h b c d f g e) (.tup []) (zH a o b c d f g e)/\
 R (.sl (.fr .lit) i) (zH a o b c d f g e))\/
 ∃u,nP zK [Ac3,.sl .str ([(⟨#[93]⟩:AcL)])] (zH a h b c d f g e) u/\T u))):=by kernel_rfl
theorem PP(a:AcX)(i b c d:Int)(e:AcU)(f:AcV)(g:List (AcL×Int))(R:oG)(T:Qn):FXM nG f194 [Ac3,.clp yN true 1000 0] (zH a i b c d e f g) [Ac3] false R T=
 (((∃j:Int,xT zK [Ac3,.sl .str ([(⟨#[91]⟩:AcL)])] (zH a i b c d e f g) (.tup []) (zH a j b c d e f g)/\
 ∃h:Int,∃k:Bool,xT yZ [Ac3,.str (⟨#[93]⟩:AcL)] (zH a j b c d e f g) (dB k) (zH a h b c d e f g)/\
 zT k
 (R (.sl (.fr .lit) ([]:List (zA))) (zH a h b c d e f g))
 (((∃l:Int,∃m:zA,xT yN [Ac3] (zH a h b c d e f g) (dL m) (zH a l b c d e f g)/\
 ∃n0,lS R T n0 ([m]) a l b c d g e f)\/
 ∃u,nP yN [Ac3] (zH a h b c d e f g) u/\T u)))\/
 ∃u,nP zK [Ac3,.sl .str ([(⟨#[91]⟩:AcL)])] (zH a i b c d e f g) u/\T u)):=by kernel_rfl
theorem Qc(a:AcX)(b c d e:Int)(f:AcU)(g:AcV)(h:List (AcL×Int)):aJ nG f194 uH [Ac3,.clp yN true 1000 0] (zH a b c d e f g h) [Ac3] false:=YG func194 (by kernel_rfl) ntmps194 rfl
theorem Qd(a:AcX)(b c d e:Int)(f:AcU)(g:AcV)(h:List (AcL×Int)):cM nG f194 uH [Ac3,.clp yN true 1000 0] (zH a b c d e f g h) [Ac3] false:=Z7 func194 (by kernel_rfl) ntmps194 rfl
def lT:xF:= {own:=[2,3],live:=[(0,([0,2,3,9,10,11],[2,3,1000,1001,2000,2001]))],n:=30,first:=true}
def iN(R:oG)(T:Qn)(a:Nat)(b c d e f g h:Int)(i:AcX)(j k l m:Int)(n:List (AcL×Int))(o:AcU)(p:AcV):Prop:=LPM lT f195 [1,1,0,1,0,0] 0 a ⟨[(0,Ac3),(2,.ptr 2 0),(3,.ptr 3 0),(9,.sl .str ([(⟨#[60,61]⟩:AcL),(⟨#[62,61]⟩:AcL),(⟨#[61,61]⟩:AcL),(⟨#[33,61]⟩:AcL)])),(10,dI (([(⟨#[60,61]⟩:AcL),(⟨#[62,61]⟩:AcL),(⟨#[61,61]⟩:AcL),(⟨#[33,61]⟩:AcL)]).length:Int)),(11,dI b)],[(2,.cells [dI c,dI d,dI e]),(3,.cells [dI f,dI g,dI h]),(1000,.cells [.sl .tok i,dI j,dI k,.own 2000,.own 2001,dI l,dI m,.own 1001]),(1001,.mp .str .int n),(2000,.row 49 (.fr .var) o),(2001,.row 52 (.fr .con) p)]⟩ (zP 0 (sKM lT f195 [1,1,1] 0 (eXM f195 [Ac3] false R T)))
theorem fi(R:oG)(T:Qn)(n:Nat)(h o p q j l m:Int)(a:AcX)(i b c d:Int)(e:List (AcL×Int))(f:AcU)(g:AcV):iN R T (n+1) h o p q j l m a i b c d e f g=
 (zT (decide (h<(([(⟨#[60,61]⟩:AcL),(⟨#[62,61]⟩:AcL),(⟨#[61,61]⟩:AcL),(⟨#[33,61]⟩:AcL)]).length:Int)))
 (wW h ([(⟨#[60,61]⟩:AcL),(⟨#[62,61]⟩:AcL),(⟨#[61,61]⟩:AcL),(⟨#[33,61]⟩:AcL)]).length=true/\∃k:Int,∃r:Bool,xT yZ [Ac3,.str (zJ .str ([(⟨#[60,61]⟩:AcL),(⟨#[62,61]⟩:AcL),(⟨#[61,61]⟩:AcL),(⟨#[33,61]⟩:AcL)]) h.toNat)] (zH a i b c d f g e) (dB r) (zH a k b c d f g e)/\
 zT r
 (((∃s:Int,∃t:Int,xT zL [Ac3] (zH a k b c d f g e) (dI t) (zH a s b c d f g e)/\
 R (.agg [dI j,dI (yU (1+h)),dI t]) (zH a s b c d f g e))\/
 ∃u,nP zL [Ac3] (zH a k b c d f g e) u/\T u))
 (iN R T n (yU (h+1)) o p q j l m a k b c d e f g))
 (((xT zQ [Ac3,dI 1] (zH a i b c d f g e) (.tup []) (zH a i b c d f g e)/\
 R (.agg [dI j,dI l,dI m]) (zH a i b c d f g e))\/
 ∃u,nP zQ [Ac3,dI 1] (zH a i b c d f g e) u/\T u))):=by kernel_rfl
theorem Ln(a:AcX)(h b c d:Int)(e:AcU)(f:AcV)(g:List (AcL×Int))(R:oG)(T:Qn):FXM lT f195 [Ac3] (zH a h b c d e f g) [Ac3] false R T=
 (((∃i:Int,∃j:Int,xT zM [Ac3] (zH a h b c d e f g) (dI j) (zH a i b c d e f g)/\
 ∃n0,iN R T n0 0 0 0 0 j 0 0 a i b c d g e f)\/
 ∃u,nP zM [Ac3] (zH a h b c d e f g) u/\T u)):=by kernel_rfl
theorem NO(a:AcX)(b c d e:Int)(f:AcU)(g:AcV)(h:List (AcL×Int)):aJ lT f195 yN [Ac3] (zH a b c d e f g h) [Ac3] false:=YG func195 (by kernel_rfl) ntmps195 rfl
theorem NP(a:AcX)(b c d e:Int)(f:AcU)(g:AcV)(h:List (AcL×Int)):cM lT f195 yN [Ac3] (zH a b c d e f g h) [Ac3] false:=Z7 func195 (by kernel_rfl) ntmps195 rfl
def Vn:xF:= {own:=[],live:=[],n:=28,first:=true}
theorem NQ(a:AcX)(b c d e:Int)(f:AcU)(g:AcV)(h:List (AcL×Int))(R:oG):FHM Vn f196 [Ac3] (zH a b c d e f g h) [Ac3] false R=
 (zT (decide (b<(a.length:Int)))
 (wW b a.length=true/\R (dI ((zJ .tok a b.toNat).at_)) (zH a b c d e f g h))
 (R (dI c) (zH a b c d e f g h))):=by kernel_rfl
theorem PQ(a:AcX)(b c d e:Int)(f:AcU)(g:AcV)(h:List (AcL×Int)):zh6 Vn f196 jY [Ac3] (zH a b c d e f g h) [Ac3] false:=zo4 func196 (by kernel_rfl) ntmps196 rfl
def dO:xF:= {own:=[7,9,17],live:=[(0,([1,5,19,20,21],[17,1017001])),(2,([1,5,45,46,47],[17,1017001]))],n:=97,nils:=[(17,(0,(5,.byte))),(17,(1,(5,.byte)))],pubs:=[],first:=true}
def bJ(a:zE)(R:xI)(b:Nat)(c:Int)(d:AcU)(e:AcV)(f g:Int)(h:AcY):Prop:=LP dO f24 [1,1,1,1,0,1,0,0] 2 b ⟨[(1,.iptr (Oy a []) 0),(5,.ptr 17 0),(45,.sl .con a.cons),(46,dI (a.cons.length:Int)),(47,dI c)],[(17,.cells [.slf 17,.own 1017001,.sl .var d,.sl .con e,dI f,dI g]),(1017001,.row 5 .byte h)]⟩ (zP 2 (sK dO f24 [1,1,1,1,1] 0 (eK f24 R)))
def qU(a:zE)(R:xI)(b:Nat)(c:Int)(d:AcU)(e:AcV)(f g:Int)(h:AcY):Prop:=LP dO f24 [1,1,1,0,1,0,0] 0 b ⟨[(1,.iptr (Oy a []) 0),(5,.ptr 17 0),(19,.sl .var a.vars),(20,dI (a.vars.length:Int)),(21,dI c)],[(17,.cells [.slf 17,.own 1017001,.sl .var d,.sl .con e,dI f,dI g]),(1017001,.row 5 .byte h)]⟩ (zP 0 (sK dO f24 [1,1,1,1] 0 (eK f24 R)))
theorem Hw(f:zE)(R:xI)(k:Nat)(g:Int)(a:AcU)(b:AcV)(c d:Int)(e:AcY):bJ f R (k+1) g a b c d e=
 (zT (decide (g<(f.cons.length:Int)))
 (wW g f.cons.length=true/\∃h:AcL,xT jV [Ac3,dC (zJ .con f.cons g.toNat)] (mK a b c d e) (.str h) (mK a b c d e)/\
 (⟨#[99,111,110,32]⟩:AcL).size+h.size<=140737488355328/\((⟨#[99,111,110,32]⟩:AcL)++h).size+(⟨#[59,10]⟩:AcL).size<=140737488355328/\∃t:Int,∃l:AcY,xT yB [Ac3,.str (((⟨#[99,111,110,32]⟩:AcL)++h)++(⟨#[59,10]⟩:AcL))] (mK a b c d e) (.tup [dI t,.undef]) (mK a b c d l)/\
 bJ f R k (yU (g+1)) a b c d l)
 (zT (decide (f.goal=0))
 (∃u:Int,∃m:AcY,xT yB [Ac3,.str (⟨#[115,111,108,118,101,32,97,110,121,59,10]⟩:AcL)] (mK a b c d e) (.tup [dI u,.undef]) (mK a b c d m)/\
 ∃n:AcL,xT vY [Ac3] (mK a b c d m) (.str n) []/\
 R (.tup [.str n,dI 0]))
 (zT (decide (f.goal=1))
 (∃i:AcL,xT yK [Ac3,dI f.var] (mK a b c d e) (.str i) (mK a b c d e)/\
 (⟨#[115,111,108,118,101,32,108,101,97,115,116,32]⟩:AcL).size+i.size<=140737488355328/\((⟨#[115,111,108,118,101,32,108,101,97,115,116,32]⟩:AcL)++i).size+(⟨#[59,10]⟩:AcL).size<=140737488355328/\∃v:Int,∃o:AcY,xT yB [Ac3,.str (((⟨#[115,111,108,118,101,32,108,101,97,115,116,32]⟩:AcL)++i)++(⟨#[59,10]⟩:AcL))] (mK a b c d e) (.tup [dI v,.undef]) (mK a b c d o)/\
 ∃p:AcL,xT vY [Ac3] (mK a b c d o) (.str p) []/\
 R (.tup [.str p,dI 0]))
 (zT (decide (f.goal=2))
 (∃j:AcL,xT yK [Ac3,dI f.var] (mK a b c d e) (.str j) (mK a b c d e)/\
 (⟨#[115,111,108,118,101,32,109,111,115,116,32]⟩:AcL).size+j.size<=140737488355328/\((⟨#[115,111,108,118,101,32,109,111,115,116,32]⟩:AcL)++j).size+(⟨#[59,10]⟩:AcL).size<=140737488355328/\∃w:Int,∃q:AcY,xT yB [Ac3,.str (((⟨#[115,111,108,118,101,32,109,111,115,116,32]⟩:AcL)++j)++(⟨#[59,10]⟩:AcL))] (mK a b c d e) (.tup [dI w,.undef]) (mK a b c d q)/\
 ∃r:AcL,xT vY [Ac3] (mK a b c d q) (.str r) []/\
 R (.tup [.str r,dI 0]))
 (∃s:AcL,xT vY [Ac3] (mK a b c d e) (.str s) []/\
 R (.tup [.str s,dI 0])))))):=by kernel_rfl
theorem Hx(a:zE)(R:xI)(l:Nat)(b:Int)(e:AcU)(f:AcV)(g h:Int)(k:AcY):qU a R (l+1) b e f g h k=
 (zT (decide (b<(a.vars.length:Int)))
 (wW b a.vars.length=true/\((⟨#[118,97,114,32]⟩:AcL).size+((zJ .var a.vars b.toNat).name).size<=140737488355328/\((⟨#[118,97,114,32]⟩:AcL)++((zJ .var a.vars b.toNat).name)).size+(⟨#[58,32]⟩:AcL).size<=140737488355328/\(yJ yR [dI ((zJ .var a.vars b.toNat).lo)] .str λc=>
 (((⟨#[118,97,114,32]⟩:AcL)++((zJ .var a.vars b.toNat).name))++(⟨#[58,32]⟩:AcL)).size+c.size<=140737488355328/\((((⟨#[118,97,114,32]⟩:AcL)++((zJ .var a.vars b.toNat).name))++(⟨#[58,32]⟩:AcL))++c).size+(⟨#[46,46]⟩:AcL).size<=140737488355328/\yJ yR [dI ((zJ .var a.vars b.toNat).hi)] .str λd=>
 (((((⟨#[118,97,114,32]⟩:AcL)++((zJ .var a.vars b.toNat).name))++(⟨#[58,32]⟩:AcL))++c)++(⟨#[46,46]⟩:AcL)).size+d.size<=140737488355328/\((((((⟨#[118,97,114,32]⟩:AcL)++((zJ .var a.vars b.toNat).name))++(⟨#[58,32]⟩:AcL))++c)++(⟨#[46,46]⟩:AcL))++d).size+(⟨#[59,10]⟩:AcL).size<=140737488355328/\∃j:Int,∃i:AcY,xT yB [Ac3,.str (((((((⟨#[118,97,114,32]⟩:AcL)++((zJ .var a.vars b.toNat).name))++(⟨#[58,32]⟩:AcL))++c)++(⟨#[46,46]⟩:AcL))++d)++(⟨#[59,10]⟩:AcL))] (mK e f g h k) (.tup [dI j,.undef]) (mK e f g h i)/\
 qU a R l (yU (b+1)) e f g h i)/\
 yJ yR [dI ((zJ .var a.vars b.toNat).lo)] .str λc=>
 yJ yR [dI ((zJ .var a.vars b.toNat).hi)] .str λd=>
 (((⟨#[118,97,114,32]⟩:AcL)++((zJ .var a.vars b.toNat).name))++(⟨#[58,32]⟩:AcL)).size+c.size<=140737488355328/\((((⟨#[118,97,114,32]⟩:AcL)++((zJ .var a.vars b.toNat).name))++(⟨#[58,32]⟩:AcL))++c).size+(⟨#[46,46]⟩:AcL).size<=140737488355328/\(((((⟨#[118,97,114,32]⟩:AcL)++((zJ .var a.vars b.toNat).name))++(⟨#[58,32]⟩:AcL))++c)++(⟨#[46,46]⟩:AcL)).size+d.size<=140737488355328/\((((((⟨#[118,97,114,32]⟩:AcL)++((zJ .var a.vars b.toNat).name))++(⟨#[58,32]⟩:AcL))++c)++(⟨#[46,46]⟩:AcL))++d).size+(⟨#[59,10]⟩:AcL).size<=140737488355328/\∃j:Int,∃i:AcY,xT yB [Ac3,.str (((((((⟨#[118,97,114,32]⟩:AcL)++((zJ .var a.vars b.toNat).name))++(⟨#[58,32]⟩:AcL))++c)++(⟨#[46,46]⟩:AcL))++d)++(⟨#[59,10]⟩:AcL))] (mK e f g h k) (.tup [dI j,.undef]) (mK e f g h i)/\
 qU a R l (yU (b+1)) e f g h i)/\
 (yJ yR [dI ((zJ .var a.vars b.toNat).lo)] .str λc=>
 ((⟨#[118,97,114,32]⟩:AcL).size+((zJ .var a.vars b.toNat).name).size<=140737488355328/\((⟨#[118,97,114,32]⟩:AcL)++((zJ .var a.vars b.toNat).name)).size+(⟨#[58,32]⟩:AcL).size<=140737488355328/\(((⟨#[118,97,114,32]⟩:AcL)++((zJ .var a.vars b.toNat).name))++(⟨#[58,32]⟩:AcL)).size+c.size<=140737488355328/\((((⟨#[118,97,114,32]⟩:AcL)++((zJ .var a.vars b.toNat).name))++(⟨#[58,32]⟩:AcL))++c).size+(⟨#[46,46]⟩:AcL).size<=140737488355328/\yJ yR [dI ((zJ .var a.vars b.toNat).hi)] .str λd=>
 (((((⟨#[118,97,114,32]⟩:AcL)++((zJ .var a.vars b.toNat).name))++(⟨#[58,32]⟩:AcL))++c)++(⟨#[46,46]⟩:AcL)).size+d.size<=140737488355328/\((((((⟨#[118,97,114,32]⟩:AcL)++((zJ .var a.vars b.toNat).name))++(⟨#[58,32]⟩:AcL))++c)++(⟨#[46,46]⟩:AcL))++d).size+(⟨#[59,10]⟩:AcL).size<=140737488355328/\∃j:Int,∃i:AcY,xT yB [Ac3,.str (((((((⟨#[118,97,114,32]⟩:AcL)++((zJ .var a.vars b.toNat).name))++(⟨#[58,32]⟩:AcL))++c)++(⟨#[46,46]⟩:AcL))++d)++(⟨#[59,10]⟩:AcL))] (mK e f g h k) (.tup [dI j,.undef]) (mK e f g h i)/\
 qU a R l (yU (b+1)) e f g h i)/\
 yJ yR [dI ((zJ .var a.vars b.toNat).hi)] .str λd=>
 (⟨#[118,97,114,32]⟩:AcL).size+((zJ .var a.vars b.toNat).name).size<=140737488355328/\((⟨#[118,97,114,32]⟩:AcL)++((zJ .var a.vars b.toNat).name)).size+(⟨#[58,32]⟩:AcL).size<=140737488355328/\(((⟨#[118,97,114,32]⟩:AcL)++((zJ .var a.vars b.toNat).name))++(⟨#[58,32]⟩:AcL)).size+c.size<=140737488355328/\((((⟨#[118,97,114,32]⟩:AcL)++((zJ .var a.vars b.toNat).name))++(⟨#[58,32]⟩:AcL))++c).size+(⟨#[46,46]⟩:AcL).size<=140737488355328/\(((((⟨#[118,97,114,32]⟩:AcL)++((zJ .var a.vars b.toNat).name))++(⟨#[58,32]⟩:AcL))++c)++(⟨#[46,46]⟩:AcL)).size+d.size<=140737488355328/\((((((⟨#[118,97,114,32]⟩:AcL)++((zJ .var a.vars b.toNat).name))++(⟨#[58,32]⟩:AcL))++c)++(⟨#[46,46]⟩:AcL))++d).size+(⟨#[59,10]⟩:AcL).size<=140737488355328/\∃j:Int,∃i:AcY,xT yB [Ac3,.str (((((((⟨#[118,97,114,32]⟩:AcL)++((zJ .var a.vars b.toNat).name))++(⟨#[58,32]⟩:AcL))++c)++(⟨#[46,46]⟩:AcL))++d)++(⟨#[59,10]⟩:AcL))] (mK e f g h k) (.tup [dI j,.undef]) (mK e f g h i)/\
 qU a R l (yU (b+1)) e f g h i)/\
 ((⟨#[118,97,114,32]⟩:AcL).size+((zJ .var a.vars b.toNat).name).size<=140737488355328/\((⟨#[118,97,114,32]⟩:AcL)++((zJ .var a.vars b.toNat).name)).size+(⟨#[58,32]⟩:AcL).size<=140737488355328/\yJ yR [dI ((zJ .var a.vars b.toNat).lo)] .str λc=>
 yJ yR [dI ((zJ .var a.vars b.toNat).hi)] .str λd=>
 (((⟨#[118,97,114,32]⟩:AcL)++((zJ .var a.vars b.toNat).name))++(⟨#[58,32]⟩:AcL)).size+c.size<=140737488355328/\((((⟨#[118,97,114,32]⟩:AcL)++((zJ .var a.vars b.toNat).name))++(⟨#[58,32]⟩:AcL))++c).size+(⟨#[46,46]⟩:AcL).size<=140737488355328/\(((((⟨#[118,97,114,32]⟩:AcL)++((zJ .var a.vars b.toNat).name))++(⟨#[58,32]⟩:AcL))++c)++(⟨#[46,46]⟩:AcL)).size+d.size<=140737488355328/\((((((⟨#[118,97,114,32]⟩:AcL)++((zJ .var a.vars b.toNat).name))++(⟨#[58,32]⟩:AcL))++c)++(⟨#[46,46]⟩:AcL))++d).size+(⟨#[59,10]⟩:AcL).size<=140737488355328/\∃j:Int,∃i:AcY,xT yB [Ac3,.str (((((((⟨#[118,97,114,32]⟩:AcL)++((zJ .var a.vars b.toNat).name))++(⟨#[58,32]⟩:AcL))++c)++(⟨#[46,46]⟩:AcL))++d)++(⟨#[59,10]⟩:AcL))] (mK e f g h k) (.tup [dI j,.undef]) (mK e f g h i)/\
 qU a R l (yU (b+1)) e f g h i)/\
 yJ yR [dI ((zJ .var a.vars b.toNat).lo)] .str λc=>
 yJ yR [dI ((zJ .var a.vars b.toNat).hi)] .str λd=>
 (⟨#[118,97,114,32]⟩:AcL).size+((zJ .var a.vars b.toNat).name).size<=140737488355328/\((⟨#[118,97,114,32]⟩:AcL)++((zJ .var a.vars b.toNat).name)).size+(⟨#[58,32]⟩:AcL).size<=140737488355328/\(((⟨#[118,97,114,32]⟩:AcL)++((zJ .var a.vars b.toNat).name))++(⟨#[58,32]⟩:AcL)).size+c.size<=140737488355328/\((((⟨#[118,97,114,32]⟩:AcL)++((zJ .var a.vars b.toNat).name))++(⟨#[58,32]⟩:AcL))++c).size+(⟨#[46,46]⟩:AcL).size<=140737488355328/\(((((⟨#[118,97,114,32]⟩:AcL)++((zJ .var a.vars b.toNat).name))++(⟨#[58,32]⟩:AcL))++c)++(⟨#[46,46]⟩:AcL)).size+d.size<=140737488355328/\((((((⟨#[118,97,114,32]⟩:AcL)++((zJ .var a.vars b.toNat).name))++(⟨#[58,32]⟩:AcL))++c)++(⟨#[46,46]⟩:AcL))++d).size+(⟨#[59,10]⟩:AcL).size<=140737488355328/\∃j:Int,∃i:AcY,xT yB [Ac3,.str (((((((⟨#[118,97,114,32]⟩:AcL)++((zJ .var a.vars b.toNat).name))++(⟨#[58,32]⟩:AcL))++c)++(⟨#[46,46]⟩:AcL))++d)++(⟨#[59,10]⟩:AcL))] (mK e f g h k) (.tup [dI j,.undef]) (mK e f g h i)/\
 qU a R l (yU (b+1)) e f g h i)
 (∃n2,bJ a R n2 0 e f g h k)):=by kernel_rfl
theorem zap(a:zE)(R:xI):FD dO f24 [dM a] R=
 (yJ vG [dM a] .int λb=>
 zT (!decide (b=0))
 (R (.tup [.str (⟨#[]⟩:AcL),dI b]))
 (∃n0,qU a R n0 0 a.vars a.cons a.goal a.var ([]:AcY))):=by kernel_rfl
theorem BA(a:zE):wU dO f24 X9 [dM a]:=wX func24 (by kernel_rfl) ntmps24 rfl
def Vo:xF:= {own:=[],live:=[],n:=155,first:=true,clp:=true}
theorem NR(c:AcU)(d:AcV)(e f:Int)(g:AcY)(a:zF)(R:oG):FH Vo f54 [Ac3,dC a] (mK c d e f g) [Ac3] false R=
 (yJ jW [] (.list .str) λb=>
 wW (yU (a.kind-1)) b.length=true/\(zJ .str b ((yU (a.kind-1)).toNat)).size+(⟨#[32]⟩:AcL).size<=140737488355328/\zT (decide (a.kind=1))
 (yJ wK [.sl .int a.consts] .str λi=>
 ((zJ .str b ((yU (a.kind-1)).toNat))++(⟨#[32]⟩:AcL)).size+i.size<=140737488355328/\(((zJ .str b ((yU (a.kind-1)).toNat))++(⟨#[32]⟩:AcL))++i).size+(⟨#[32]⟩:AcL).size<=140737488355328/\∃m:AcL,xT uN [.sl .int a.vars,.clp yK true 1000 0] (mK c d e f g) (.str m) (mK c d e f g)/\
 ((((zJ .str b ((yU (a.kind-1)).toNat))++(⟨#[32]⟩:AcL))++i)++(⟨#[32]⟩:AcL)).size+m.size<=140737488355328/\(((((zJ .str b ((yU (a.kind-1)).toNat))++(⟨#[32]⟩:AcL))++i)++(⟨#[32]⟩:AcL))++m).size+(⟨#[32]⟩:AcL).size<=140737488355328/\yJ yR [dI a.n] .str λs4=>
 ((((((zJ .str b ((yU (a.kind-1)).toNat))++(⟨#[32]⟩:AcL))++i)++(⟨#[32]⟩:AcL))++m)++(⟨#[32]⟩:AcL)).size+s4.size<=140737488355328/\R (.str (((((((zJ .str b ((yU (a.kind-1)).toNat))++(⟨#[32]⟩:AcL))++i)++(⟨#[32]⟩:AcL))++m)++(⟨#[32]⟩:AcL))++s4)) (mK c d e f g))
 (zT (decide (a.kind=2))
 (yJ wK [.sl .int a.consts] .str λj=>
 ((zJ .str b ((yU (a.kind-1)).toNat))++(⟨#[32]⟩:AcL)).size+j.size<=140737488355328/\(((zJ .str b ((yU (a.kind-1)).toNat))++(⟨#[32]⟩:AcL))++j).size+(⟨#[32]⟩:AcL).size<=140737488355328/\∃n:AcL,xT uN [.sl .int a.vars,.clp yK true 1000 0] (mK c d e f g) (.str n) (mK c d e f g)/\
 ((((zJ .str b ((yU (a.kind-1)).toNat))++(⟨#[32]⟩:AcL))++j)++(⟨#[32]⟩:AcL)).size+n.size<=140737488355328/\(((((zJ .str b ((yU (a.kind-1)).toNat))++(⟨#[32]⟩:AcL))++j)++(⟨#[32]⟩:AcL))++n).size+(⟨#[32]⟩:AcL).size<=140737488355328/\yJ yR [dI a.n] .str λs7=>
 ((((((zJ .str b ((yU (a.kind-1)).toNat))++(⟨#[32]⟩:AcL))++j)++(⟨#[32]⟩:AcL))++n)++(⟨#[32]⟩:AcL)).size+s7.size<=140737488355328/\R (.str (((((((zJ .str b ((yU (a.kind-1)).toNat))++(⟨#[32]⟩:AcL))++j)++(⟨#[32]⟩:AcL))++n)++(⟨#[32]⟩:AcL))++s7)) (mK c d e f g))
 (zT (decide (a.kind=3))
 (yJ wK [.sl .int a.consts] .str λk=>
 ((zJ .str b ((yU (a.kind-1)).toNat))++(⟨#[32]⟩:AcL)).size+k.size<=140737488355328/\(((zJ .str b ((yU (a.kind-1)).toNat))++(⟨#[32]⟩:AcL))++k).size+(⟨#[32]⟩:AcL).size<=140737488355328/\∃o:AcL,xT uN [.sl .int a.vars,.clp yK true 1000 0] (mK c d e f g) (.str o) (mK c d e f g)/\
 ((((zJ .str b ((yU (a.kind-1)).toNat))++(⟨#[32]⟩:AcL))++k)++(⟨#[32]⟩:AcL)).size+o.size<=140737488355328/\(((((zJ .str b ((yU (a.kind-1)).toNat))++(⟨#[32]⟩:AcL))++k)++(⟨#[32]⟩:AcL))++o).size+(⟨#[32]⟩:AcL).size<=140737488355328/\yJ yR [dI a.n] .str λad=>
 ((((((zJ .str b ((yU (a.kind-1)).toNat))++(⟨#[32]⟩:AcL))++k)++(⟨#[32]⟩:AcL))++o)++(⟨#[32]⟩:AcL)).size+ad.size<=140737488355328/\R (.str (((((((zJ .str b ((yU (a.kind-1)).toNat))++(⟨#[32]⟩:AcL))++k)++(⟨#[32]⟩:AcL))++o)++(⟨#[32]⟩:AcL))++ad)) (mK c d e f g))
 (zT (decide (a.kind=4))
 (∃v:AcL,xT uN [.sl .int a.vars,.clp yK true 1000 0] (mK c d e f g) (.str v) (mK c d e f g)/\
 ((zJ .str b ((yU (a.kind-1)).toNat))++(⟨#[32]⟩:AcL)).size+v.size<=140737488355328/\R (.str (((zJ .str b ((yU (a.kind-1)).toNat))++(⟨#[32]⟩:AcL))++v)) (mK c d e f g))
 (zT (decide (a.kind=5))
 (yJ wK [.sl .int a.consts] .str λl=>
 ((zJ .str b ((yU (a.kind-1)).toNat))++(⟨#[32]⟩:AcL)).size+l.size<=140737488355328/\(((zJ .str b ((yU (a.kind-1)).toNat))++(⟨#[32]⟩:AcL))++l).size+(⟨#[32]⟩:AcL).size<=140737488355328/\wW 0 a.vars.length=true/\wW 1 a.vars.length=true/\∃q:AcL,xT yK [Ac3,dI (zJ .int a.vars 0)] (mK c d e f g) (.str q) (mK c d e f g)/\
 ((((zJ .str b ((yU (a.kind-1)).toNat))++(⟨#[32]⟩:AcL))++l)++(⟨#[32]⟩:AcL)).size+q.size<=140737488355328/\(((((zJ .str b ((yU (a.kind-1)).toNat))++(⟨#[32]⟩:AcL))++l)++(⟨#[32]⟩:AcL))++q).size+(⟨#[32]⟩:AcL).size<=140737488355328/\∃w:AcL,xT yK [Ac3,dI (zJ .int a.vars 1)] (mK c d e f g) (.str w) (mK c d e f g)/\
 ((((((zJ .str b ((yU (a.kind-1)).toNat))++(⟨#[32]⟩:AcL))++l)++(⟨#[32]⟩:AcL))++q)++(⟨#[32]⟩:AcL)).size+w.size<=140737488355328/\R (.str (((((((zJ .str b ((yU (a.kind-1)).toNat))++(⟨#[32]⟩:AcL))++l)++(⟨#[32]⟩:AcL))++q)++(⟨#[32]⟩:AcL))++w)) (mK c d e f g))
 (zT (decide (a.kind=6))
 (∃r:AcL,xT uN [.sl .int a.vars,.clp yK true 1000 0] (mK c d e f g) (.str r) (mK c d e f g)/\
 ((zJ .str b ((yU (a.kind-1)).toNat))++(⟨#[32]⟩:AcL)).size+r.size<=140737488355328/\(((zJ .str b ((yU (a.kind-1)).toNat))++(⟨#[32]⟩:AcL))++r).size+(⟨#[32]⟩:AcL).size<=140737488355328/\yJ fm [dS a.rows,.clo wK none []] .str λae=>
 ((((zJ .str b ((yU (a.kind-1)).toNat))++(⟨#[32]⟩:AcL))++r)++(⟨#[32]⟩:AcL)).size+ae.size<=140737488355328/\R (.str (((((zJ .str b ((yU (a.kind-1)).toNat))++(⟨#[32]⟩:AcL))++r)++(⟨#[32]⟩:AcL))++ae)) (mK c d e f g))
 (zT (decide (a.kind=7))
 (wW 0 a.vars.length=true/\wW 1 a.vars.length=true/\wW 2 a.vars.length=true/\∃h:AcL,xT yK [Ac3,dI (zJ .int a.vars 0)] (mK c d e f g) (.str h) (mK c d e f g)/\
 ((zJ .str b ((yU (a.kind-1)).toNat))++(⟨#[32]⟩:AcL)).size+h.size<=140737488355328/\(((zJ .str b ((yU (a.kind-1)).toNat))++(⟨#[32]⟩:AcL))++h).size+(⟨#[32]⟩:AcL).size<=140737488355328/\∃s:AcL,xT yK [Ac3,dI (zJ .int a.vars 1)] (mK c d e f g) (.str s) (mK c d e f g)/\
 ((((zJ .str b ((yU (a.kind-1)).toNat))++(⟨#[32]⟩:AcL))++h)++(⟨#[32]⟩:AcL)).size+s.size<=140737488355328/\(((((zJ .str b ((yU (a.kind-1)).toNat))++(⟨#[32]⟩:AcL))++h)++(⟨#[32]⟩:AcL))++s).size+(⟨#[32]⟩:AcL).size<=140737488355328/\∃x:AcL,xT yK [Ac3,dI (zJ .int a.vars 2)] (mK c d e f g) (.str x) (mK c d e f g)/\
 ((((((zJ .str b ((yU (a.kind-1)).toNat))++(⟨#[32]⟩:AcL))++h)++(⟨#[32]⟩:AcL))++s)++(⟨#[32]⟩:AcL)).size+x.size<=140737488355328/\R (.str (((((((zJ .str b ((yU (a.kind-1)).toNat))++(⟨#[32]⟩:AcL))++h)++(⟨#[32]⟩:AcL))++s)++(⟨#[32]⟩:AcL))++x)) (mK c d e f g))
 (zT (decide (a.kind=8))
 ((λp:Prop=>wW 0 a.vars.length=true/\Nh 1 (a.vars.length:Int) a.vars.length=true/\((p)/\p))
 (∃t:AcL,xT yK [Ac3,dI (zJ .int a.vars 0)] (mK c d e f g) (.str t) (mK c d e f g)/\
 ((zJ .str b ((yU (a.kind-1)).toNat))++(⟨#[32]⟩:AcL)).size+t.size<=140737488355328/\(((zJ .str b ((yU (a.kind-1)).toNat))++(⟨#[32]⟩:AcL))++t).size+(⟨#[32]⟩:AcL).size<=140737488355328/\∃y:AcL,xT uN [.sl .int ((a.vars.take (a.vars.length:Int).toNat).drop 1),.clp yK true 1000 0] (mK c d e f g) (.str y) (mK c d e f g)/\
 ((((zJ .str b ((yU (a.kind-1)).toNat))++(⟨#[32]⟩:AcL))++t)++(⟨#[32]⟩:AcL)).size+y.size<=140737488355328/\R (.str (((((zJ .str b ((yU (a.kind-1)).toNat))++(⟨#[32]⟩:AcL))++t)++(⟨#[32]⟩:AcL))++y)) (mK c d e f g)))
 (zT (decide (a.kind=9))
 (∃z:AcL,xT kH [.sl .lit a.lits,.clp vZ true 1000 0] (mK c d e f g) (.str z) (mK c d e f g)/\
 ((zJ .str b ((yU (a.kind-1)).toNat))++(⟨#[32]⟩:AcL)).size+z.size<=140737488355328/\R (.str (((zJ .str b ((yU (a.kind-1)).toNat))++(⟨#[32]⟩:AcL))++z)) (mK c d e f g))
 (wW 0 a.vars.length=true/\wW 0 a.lits.length=true/\∃u:AcL,xT yK [Ac3,dI (zJ .int a.vars 0)] (mK c d e f g) (.str u) (mK c d e f g)/\
 ((zJ .str b ((yU (a.kind-1)).toNat))++(⟨#[32]⟩:AcL)).size+u.size<=140737488355328/\(((zJ .str b ((yU (a.kind-1)).toNat))++(⟨#[32]⟩:AcL))++u).size+(⟨#[32]⟩:AcL).size<=140737488355328/\∃aa:AcL,xT vZ [Ac3,dL (zJ .lit a.lits 0)] (mK c d e f g) (.str aa) (mK c d e f g)/\
 ((((zJ .str b ((yU (a.kind-1)).toNat))++(⟨#[32]⟩:AcL))++u)++(⟨#[32]⟩:AcL)).size+aa.size<=140737488355328/\R (.str (((((zJ .str b ((yU (a.kind-1)).toNat))++(⟨#[32]⟩:AcL))++u)++(⟨#[32]⟩:AcL))++aa)) (mK c d e f g))))))))))):=by kernel_rfl
theorem PR(a:AcU)(b:AcV)(c d:Int)(e:AcY)(f:zF):Xv Vo f54 jV [Ac3,dC f] (mK a b c d e) [Ac3] false:=XY func54 (by kernel_rfl) ntmps54 rfl
def TP:xF:= {own:=[],live:=[],n:=14,first:=true}
theorem Jd(a:AcU)(c:AcV)(d e:Int)(f:AcY)(b:Int)(R:oG):FH TP f55 [Ac3,dI b] (mK a c d e f) [Ac3] false R=
 (wW b a.length=true/\R (.str ((zJ .var a b.toNat).name)) (mK a c d e f)):=by kernel_rfl
theorem Lp(a:AcU)(b:AcV)(c d:Int)(e:AcY)(f:Int):Xv TP f55 yK [Ac3,dI f] (mK a b c d e) [Ac3] false:=XY func55 (by kernel_rfl) ntmps55 rfl
def XL:xF:= {own:=[],live:=[],n:=5,first:=true}
theorem Qe(a:AcP)(R:xI):FD XL f101 [.sl .int a] R=
 (∃b:AcL,xT uN [.sl .int a,.clo yR none []] [] (.str b) []/\
 R (.str b)):=by kernel_rfl
theorem SK(a:AcP):wU XL f101 wK [.sl .int a]:=wX func101 (by kernel_rfl) ntmps101 rfl
def fB:xF:= {own:=[5,19],live:=[(0,([1,5,8,9,10],[5]))],n:=25,first:=true}
def iO(a:AcP)(R:oG)(b:Nat)(c:Int)(d:Ac1):Prop:=LP fB f102 [1,1,0,1,0,0] 0 b ⟨[(1,.clo yR none []),(5,.own 5),(8,.sl .int a),(9,dI (a.length:Int)),(10,dI c)],[(5,.row 9 .str d)]⟩ (zP 0 (sK fB f102 [1,1,1] 0 (eH f102 [] false R)))
theorem Qf(a:AcP)(R:oG)(e:Nat)(b:Int)(c:Ac1):iO a R (e+1) b c=
 (zT (decide (b<(a.length:Int)))
 (wW b a.length=true/\yJ yR [dI (zJ .int a b.toNat)] .str λf=>
 yX .str (c.length+([f]).length)=true/\iO a R e (yU (b+1)) (c++([f])))
 (yJ mH [.sl .str c,.str (⟨#[44,32]⟩:AcL)] .str λd=>
 (⟨#[91]⟩:AcL).size+d.size<=140737488355328/\((⟨#[91]⟩:AcL)++d).size+(⟨#[93]⟩:AcL).size<=140737488355328/\R (.str (((⟨#[91]⟩:AcL)++d)++(⟨#[93]⟩:AcL))) [])):=by kernel_rfl
theorem Lq(a:AcP)(R:oG):FH fB f102 [.sl .int a,.clo yR none []] [] [] false R=
 (∃n0,iO a R n0 0 ([]:Ac1)):=by kernel_rfl
theorem NS(a:AcP):Xv fB f102 uN [.sl .int a,.clo yR none []] [] [] false:=XY func102 (by kernel_rfl) ntmps102 rfl
def fC:xF:= {own:=[5,19],live:=[(0,([1,5,8,9,10],[5,1000,2000]))],n:=25,first:=true}
def iP(a:AcP)(b:AcU)(c:AcV)(d e:Int)(R:oG)(f:Nat)(g:Int)(h:Ac1)(i:AcY):Prop:=LP fC f102 [1,1,0,1,0,0] 0 f ⟨[(1,.clp yK true 1000 0),(5,.own 5),(8,.sl .int a),(9,dI (a.length:Int)),(10,dI g)],[(5,.row 9 .str h),(1000,.cells [.slf 1000,.own 2000,.sl .var b,.sl .con c,dI d,dI e]),(2000,.row 5 .byte i)]⟩ (zP 0 (sK fC f102 [1,1,1] 0 (eH f102 [Ac3] false R)))
theorem Qg(a:AcP)(b:AcU)(c:AcV)(d e:Int)(R:oG)(k:Nat)(f:Int)(h:Ac1)(g:AcY):iP a b c d e R (k+1) f h g=
 (zT (decide (f<(a.length:Int)))
 (wW f a.length=true/\∃i:AcL,xT yK [Ac3,dI (zJ .int a f.toNat)] (mK b c d e g) (.str i) (mK b c d e g)/\
 yX .str (h.length+([i]).length)=true/\iP a b c d e R k (yU (f+1)) (h++([i])) g)
 (yJ mH [.sl .str h,.str (⟨#[44,32]⟩:AcL)] .str λj=>
 (⟨#[91]⟩:AcL).size+j.size<=140737488355328/\((⟨#[91]⟩:AcL)++j).size+(⟨#[93]⟩:AcL).size<=140737488355328/\R (.str (((⟨#[91]⟩:AcL)++j)++(⟨#[93]⟩:AcL))) (mK b c d e g))):=by kernel_rfl
theorem Lr(a:AcP)(b:AcU)(c:AcV)(d e:Int)(f:AcY)(R:oG):FH fC f102 [.sl .int a,.clp yK true 1000 0] (mK b c d e f) [Ac3] false R=
 (∃n0,iP a b c d e R n0 0 ([]:Ac1) f):=by kernel_rfl
theorem NT(a:AcP)(b:AcU)(c:AcV)(d e:Int)(f:AcY):Xv fC f102 uN [.sl .int a,.clp yK true 1000 0] (mK b c d e f) [Ac3] false:=XY func102 (by kernel_rfl) ntmps102 rfl
def fD:xF:= {own:=[5,19],live:=[(0,([1,5,8,9,10],[5]))],n:=25,first:=true}
def iQ(a:AcQ)(b:AcM)(c:AcT)(R:xI)(d:Nat)(e:Int)(f:Ac1):Prop:=LP fD f104 [1,1,0,1,0,0] 0 d ⟨[(1,.clo b (some [.str]) c),(5,.own 5),(8,dS a),(9,dI (a.length:Int)),(10,dI e)],[(5,.row 9 .str f)]⟩ (zP 0 (sK fD f104 [1,1,1] 0 (eK f104 R)))
theorem Qh(a:AcQ)(c:AcM)(e:AcT)(R:xI)(g:Nat)(b:Int)(d:Ac1):iQ a c e R (g+1) b d=
 (zT (decide (b<(a.length:Int)))
 (wW b a.length=true/\fV c/\
 yJ c ([.sl .int (zJ (.list .int) a b.toNat)]++e) .str λh=>
 yX .str (d.length+([h]).length)=true/\iQ a c e R g (yU (b+1)) (d++([h])))
 (yJ mH [.sl .str d,.str (⟨#[44,32]⟩:AcL)] .str λf=>
 (⟨#[91]⟩:AcL).size+f.size<=140737488355328/\((⟨#[91]⟩:AcL)++f).size+(⟨#[93]⟩:AcL).size<=140737488355328/\R (.str (((⟨#[91]⟩:AcL)++f)++(⟨#[93]⟩:AcL))))):=by kernel_rfl
theorem Ls(a:AcQ)(b:AcM)(c:AcT)(R:xI):FD fD f104 [dS a,.clo b (some [.str]) c] R=
 (∃n0,iQ a b c R n0 0 ([]:Ac1)):=by kernel_rfl
theorem NU(a:AcQ)(b:AcM)(c:AcT):wU fD f104 fm [dS a,.clo b (some [.str]) c]:=wX func104 (by kernel_rfl) ntmps104 rfl
def mZ:xF:= {own:=[5,7,19],live:=[(0,([1,5,8,9,10],[5,1000,2000]))],n:=25,first:=true}
def nV(a:AcR)(R:oG)(b:Nat)(c:Int)(d:Ac1)(e:AcU)(f:AcV)(g h:Int)(i:AcY):Prop:=LP mZ f105 [1,1,0,1,0,0] 0 b ⟨[(1,.clp vZ true 1000 0),(5,.own 5),(8,.sl .lit a),(9,dI (a.length:Int)),(10,dI c)],[(5,.row 9 .str d),(1000,.cells [.slf 1000,.own 2000,.sl .var e,.sl .con f,dI g,dI h]),(2000,.row 5 .byte i)]⟩ (zP 0 (sK mZ f105 [1,1,1] 0 (eH f105 [Ac3] false R)))
theorem VL(a:AcR)(R:oG)(k:Nat)(b:Int)(h:Ac1)(c:AcU)(d:AcV)(e f:Int)(g:AcY):nV a R (k+1) b h c d e f g=
 (zT (decide (b<(a.length:Int)))
 (wW b a.length=true/\∃i:AcL,xT vZ [Ac3,dL (zJ .lit a b.toNat)] (mK c d e f g) (.str i) (mK c d e f g)/\
 yX .str (h.length+([i]).length)=true/\nV a R k (yU (b+1)) (h++([i])) c d e f g)
 (yJ mH [.sl .str h,.str (⟨#[44,32]⟩:AcL)] .str λj=>
 (⟨#[91]⟩:AcL).size+j.size<=140737488355328/\((⟨#[91]⟩:AcL)++j).size+(⟨#[93]⟩:AcL).size<=140737488355328/\R (.str (((⟨#[91]⟩:AcL)++j)++(⟨#[93]⟩:AcL))) (mK c d e f g))):=by kernel_rfl
theorem SL(a:AcR)(b:AcU)(c:AcV)(d e:Int)(f:AcY)(R:oG):FH mZ f105 [.sl .lit a,.clp vZ true 1000 0] (mK b c d e f) [Ac3] false R=
 (∃n0,nV a R n0 0 ([]:Ac1) b c d e f):=by kernel_rfl
theorem TQ(a:AcR)(b:AcU)(c:AcV)(d e:Int)(f:AcY):Xv mZ f105 kH [.sl .lit a,.clp vZ true 1000 0] (mK b c d e f) [Ac3] false:=XY func105 (by kernel_rfl) ntmps105 rfl
def Vp:xF:= {own:=[],live:=[],n:=22,first:=true}
theorem NV(c:AcU)(d:AcV)(e f:Int)(g:AcY)(a:zA)(R:oG):FH Vp f106 [Ac3,dL a] (mK c d e f g) [Ac3] false R=
 (wW (yU (a.op-1)) ([(⟨#[60,61]⟩:AcL),(⟨#[62,61]⟩:AcL),(⟨#[61,61]⟩:AcL),(⟨#[33,61]⟩:AcL)]).length=true/\∃b:AcL,xT yK [Ac3,dI a.var] (mK c d e f g) (.str b) (mK c d e f g)/\
 b.size+(⟨#[32]⟩:AcL).size<=140737488355328/\(b++(⟨#[32]⟩:AcL)).size+(zJ .str ([(⟨#[60,61]⟩:AcL),(⟨#[62,61]⟩:AcL),(⟨#[61,61]⟩:AcL),(⟨#[33,61]⟩:AcL)]) ((yU (a.op-1)).toNat)).size<=140737488355328/\((b++(⟨#[32]⟩:AcL))++(zJ .str ([(⟨#[60,61]⟩:AcL),(⟨#[62,61]⟩:AcL),(⟨#[61,61]⟩:AcL),(⟨#[33,61]⟩:AcL)]) ((yU (a.op-1)).toNat))).size+(⟨#[32]⟩:AcL).size<=140737488355328/\yJ yR [dI a.n] .str λh=>
 (((b++(⟨#[32]⟩:AcL))++(zJ .str ([(⟨#[60,61]⟩:AcL),(⟨#[62,61]⟩:AcL),(⟨#[61,61]⟩:AcL),(⟨#[33,61]⟩:AcL)]) ((yU (a.op-1)).toNat)))++(⟨#[32]⟩:AcL)).size+h.size<=140737488355328/\R (.str ((((b++(⟨#[32]⟩:AcL))++(zJ .str ([(⟨#[60,61]⟩:AcL),(⟨#[62,61]⟩:AcL),(⟨#[61,61]⟩:AcL),(⟨#[33,61]⟩:AcL)]) ((yU (a.op-1)).toNat)))++(⟨#[32]⟩:AcL))++h)) (mK c d e f g)):=by kernel_rfl
theorem PS(a:AcU)(b:AcV)(c d:Int)(e:AcY)(f:zA):Xv Vp f106 vZ [Ac3,dL f] (mK a b c d e) [Ac3] false:=XY func106 (by kernel_rfl) ntmps106 rfl
end Go.Proofs.YtdnmkinmcdihnaaGreatDoor
namespace Go.Proofs.YtdnmkinmcdihnaaGreatDoor
open Go.Proofs.Tryz
open Go.RowKit
variable[Lo]
inductive Pr (α:Type)|ok (x:α)(j:Nat)|err (j:Nat)(e:Int)
def Pr.on{α:Type}(r:Pr α)(K:α->Nat->Prop)(T:Nat->Int->Prop):Prop:=match r with
 | .ok x j=>K x j
 | .err j e=>T j e
def Pr.bind{α β:Type}(r:Pr α)(f:α->Nat->Pr β):Pr β:=match r with
 | .ok x j=>f x j
 | .err j e=> .err j e
theorem Pr.on_bind{α β:Type}{r:Pr α}{f:α->Nat->Pr β}{K:β->Nat->Prop}{T:Nat->Int->Prop}:(r.bind f).on K T↔r.on (λx j=>(f x j).on K T) T:=by cases r<;>rfl
theorem Pr.on_mono{α:Type}{r:Pr α}{K K':α->Nat->Prop}{T T':Nat->Int->Prop}(h:r.on K T)(hK:∀x j,K x j->K' x j)(hT:∀j e,T j e->T' j e):r.on K' T':=by
 cases r
 ·exact hK _ _ h
 ·exact hT _ _ h
section
variable(isName:AcL->Bool)(tE:AcL->Int)(names:List (AcL×Int))(l:AcX)
def dP(j:Nat):rV:=l.getD j Ty.tok.dflt
def oR(en:Int)(j:Nat):Int:=if j<l.length then(dP l j).at_ else en
def sT(s:AcL)(j:Nat):Bool:=decide (j<l.length)&&decide ((dP l j).text=s)
def om(s:AcL)(j:Nat):Nat:=if sT l s j=true then j+1 else j
def tN:Ac1->Nat->Pr Unit
 |[],j=> .ok () j
 |s::r,j=>if sT l s j=true then tN r (j+1)else .err j 1
def TR(j:Nat):Pr AcL:=if j<l.length/\isName (dP l j).text=true then .ok (dP l j).text j else .err j 1
def vP(j:Nat):Pr Int:=(TR isName l j).bind λs _=>match sU .str .int s names with
 |some n=> .ok n (j+1)
 |none=> .err j 5
def zh7(sg:Int)(j:Nat):Pr Int:=if j<l.length/\(dP l j).kind=2/\¬(sg<0/\(dP l j).text=⟨#[48]⟩)then .ok (sg*tE (dP l j).text) (j+1)else .err j 1
def kP(j:Nat):Pr Int:=if sT l ⟨#[45]⟩ j=true then zh7 tE l (-1) (j+1)else zh7 tE l 1 j
def Yk{α:Type}(f:Nat->Pr α):Nat->List α->Nat->Pr (List α)
 |0,acc,j=> .err j 1
 |n+1,acc,j=>if sT l ⟨#[44]⟩ j=true then(f (j+1)).bind λx j=>Yk f n (acc++[x]) j else(tN l [⟨#[93]⟩] j).bind λ_ j=> .ok acc j
def mQ{α:Type}(f:Nat->Pr α)(j:Nat):Pr (List α):=(tN l [⟨#[91]⟩] j).bind λ_ j=>
 if sT l ⟨#[93]⟩ j=true then .ok [] (j+1)else(f j).bind λx j=>Yk l f (l.length+1) [x] j
def TS:Nat->AcP->Nat->Pr AcP
 |0,acc,j=> .ok acc j
 |n+1,acc,j=>(vP isName names l j).bind λx j=>TS n (acc++[x]) j
def opW:Ac1:=[⟨#[60,61]⟩,⟨#[62,61]⟩,⟨#[61,61]⟩,⟨#[33,61]⟩]
def Z8:Ac1->Int->Nat->Option Int
 |[],_,_=>none
 |s::r,i,j=>if sT l s j=true then some i else Z8 r (i+1) j
def Hy(j:Nat):Pr zA:=(vP isName names l j).bind λv j=>match Z8 l opW 1 j with
 |some o=>(kP tE l (j+1)).bind λn j=> .ok ⟨v,o,n⟩ j
 |none=> .err j 1
def NW:Ac1:=[⟨#[108,101]⟩,⟨#[101,113]⟩,⟨#[110,101]⟩,⟨#[100,105,102,102,101,114]⟩,⟨#[101,108,101,109,101,110,116]⟩,⟨#[116,97,98,108,101]⟩,⟨#[116,105,109,101,115]⟩,⟨#[109,97,120]⟩,⟨#[99,108,97,117,115,101]⟩,⟨#[105,102,102]⟩]
def Qi(o:Int)(j:Nat):Pr zF:=
 if o<=3 then(mQ l (kP tE l) j).bind λcs j=>(mQ l (vP isName names l) j).bind λvs j=>(kP tE l j).bind λn j=> .ok ⟨o,vs,cs,n,[],[]⟩ j
 else if o=4 then(mQ l (vP isName names l) j).bind λvs j=> .ok ⟨o,vs,[],0,[],[]⟩ j
 else if o=5 then(mQ l (kP tE l) j).bind λcs j=>(TS isName names l 2 [] j).bind λvs j=> .ok ⟨o,vs,cs,0,[],[]⟩ j
 else if o=6 then(mQ l (vP isName names l) j).bind λvs j=>(mQ l (mQ l (kP tE l)) j).bind λrs j=> .ok ⟨o,vs,[],0,rs,[]⟩ j
 else if o=7 then(TS isName names l 3 [] j).bind λvs j=> .ok ⟨o,vs,[],0,[],[]⟩ j
 else if o=8 then(vP isName names l j).bind λv j=>(mQ l (vP isName names l) j).bind λvs j=> .ok ⟨o,v::vs,[],0,[],[]⟩ j
 else if o=9 then(mQ l (Hy isName tE names l) j).bind λls j=> .ok ⟨o,[],[],0,[],ls⟩ j
 else(TS isName names l 1 [] j).bind λvs j=>(Hy isName tE names l j).bind λx j=> .ok ⟨o,vs,[],0,[],[x]⟩ j
def zfY(j:Nat):Pr zF:=match Z8 l NW 1 j with
 |some o=>Qi isName tE names l o (j+1)
 |none=> .err j 1
end
theorem oS{l:AcX}{s:AcL}{j:Nat}(h:sT l s j=true):j<l.length:=by
 simp only[sT,If,decide_eq_true_eq]at h;exact h.1
end Go.Proofs.YtdnmkinmcdihnaaGreatDoor
namespace Go.Proofs.YtdnmkinmcdihnaaGreatDoor
open Go.Proofs.Tryz
open Go.RowKit
variable[Lo]
abbrev Yg(l:AcX)(en goal mvar:Int)(pv:AcU)(pc:AcV)(names:List (AcL×Int))(j:Nat):List (Nat×yE):=
 [(1000,.cells [.sl .tok l,dI j,dI en,.own 2000,.own 2001,dI goal,dI mvar,.own 1001]),(2000,.row 49 (.fr .var) pv),(2001,.row 52 (.fr .con) pc),(1001,.mp .str .int names)]
abbrev zfZ(l:AcX)(en goal mvar:Int)(pv:AcU)(pc:AcV)(names:List (AcL×Int))(j:Int):List (Nat×yE):=
 [(1000,.cells [.sl .tok l,dI j,dI en,.own 2000,.own 2001,dI goal,dI mvar,.own 1001]),(2000,.row 49 (.fr .var) pv),(2001,.row 52 (.fr .con) pc),(1001,.mp .str .int names)]
abbrev flt(a e:Int):Value:=.iface 154 (.agg [.int .i64 a,.int .i64 e].toArray)
def dCF(c:zF):D:=.agg [dI c.kind,.sl (.fr .int) c.vars,.sl (.fr .int) c.consts,dI c.n,.sl (.fr (.list .int)) c.rows,.sl (.fr .lit) c.lits]
def Lt{α:Type}(f:AcM)(args:AcT)(h:Nat->List (Nat×yE))(hr:Nat->Int)(j:Nat)(d:α->D)(r:Pr α):Prop:=match r with
 | .ok x j'=>xT f args (h j) (d x) (h j')
 | .err j' e=>nP f args (h j) (flt (hr j') e)
theorem Lt.call{α:Type}{f:AcM}{args:AcT}{h:Nat->List (Nat×yE)}{hr:Nat->Int}{j:Nat}{d:α->D}{r:Pr α}{X:α->Nat->Prop}{Y:Nat->Int->Prop}{G:Prop}(hs:Lt f args h hr j d r)
  (hok:∀x j',xT f args (h j) (d x) (h j')->X x j'->G) (herr:∀j' e,nP f args (h j) (flt (hr j') e)->Y j' e->G) (hk:r.on X Y):G:=by
 cases r with
 |ok x j'=>exact hok x j' hs hk
 |err j' e=>exact herr j' e hs hk
theorem bW{α:Type}{A:xF}{fn:Func}{f:AcM}{args roots:AcT}{own:Bool}{h:Nat->List (Nat×yE)}{hr:Nat->Int}{j:Nat}{d:α->D}{r:Pr α}(hs:aJ A fn f args (h j) roots own)(ht:cM A fn f args (h j) roots own)
  (hx:(∀x∈args,MN x)->(∀k o,zW k (h j)=some o->okO o)->∀(R:D->List (Nat×yE)->Prop) (T:Value->Prop),r.on (λx j'=>R (d x) (h j')) (λj' e=>T (flt (hr j') e))->FXM A fn args (h j) roots own R T):Lt f args h hr j d r:=by
 cases r with
 |ok x j'=>exact hs λh1 h2=>hx h1 h2 _ _ ⟨rfl,rfl⟩
 |err j' e=>exact ht λh1 h2=>hx h1 h2 _ _ rfl
section
variable {l:AcX}{en goal mvar:Int}{pv:AcU}{pc:AcV}{names:List (AcL×Int)}
theorem Ur{j:Nat}(h:∀k o,zW k (Yg l en goal mvar pv pc names j)=some o->okO o):l.length*32<=140737488355328:=by
 have:=h 1000 _ rfl (.sl .tok l) (by simp)
 exact this.1
theorem BB(j:Nat):zJ .tok l (j:Int).toNat=dP l j:=by rw[Aap];rfl
theorem zdJ(j:Nat):xT jY [Ac3] (Yg l en goal mvar pv pc names j) (dI (oR l en j)) (Yg l en goal mvar pv pc names j):=
 PQ _ _ _ _ _ _ _ _ λok ok2=>by
  rw[NQ,oR,BB]
  by_cases h:j<l.length
  ·rw[As h]
   exact dt (by omega) ⟨zI h,rfl,rfl⟩
  ·rw[An h]
   exact df (by omega) ⟨rfl,rfl⟩
theorem qC(j:Nat)(e:Int):nP zQ [Ac3,dI e] (Yg l en goal mvar pv pc names j) (flt (oR l en j) e):=
 PL _ _ _ _ _ _ _ _ _ λok ok2=>by
  rw[NG];exact⟨_,zdJ j,rfl⟩
theorem xQ(j:Nat)(s:AcL):xT yZ [Ac3,.str s] (Yg l en goal mvar pv pc names j) (dB (sT l s j)) (Yg l en goal mvar pv pc names (om l s j)):=
 PG _ _ _ _ _ _ _ _ _ λok ok2=>by
  have hl:=Ur ok2;rw[NA,BB,om,sT]
  by_cases h:j<l.length
  ·refine df (by omega) ⟨zI h,?_⟩
   rw[Aaf h,Abf]
   by_cases e:(dP l j).text=s
   ·rw[Aaf e,As rfl]
    refine(show zT (!true) _ _ from⟨rfl,?_⟩)
    rw[cH (by omega)]
   ·rw[Aao e,An (by decide)]
    exact⟨rfl,rfl⟩
  ·rw[Aao h,Abe,An (by decide)]
   exact dt (by omega) ⟨rfl,rfl⟩
theorem tA(j:Nat)(ss:Ac1):Lt zK [Ac3,.sl .str ss] (Yg l en goal mvar pv pc names) (oR l en) j (λ_=> .tup []) (tN l ss j):=
 bW (PJ _ _ _ _ _ _ _ _ _) (PK _ _ _ _ _ _ _ _ _) λok ok2 R T hx=>by
  have hl:ss.length<=9223372036854775807:=dW (t:=.str) (ok _ (by simp))
  rw[NC]
  refine up (I:=λn v (a:Nat)=>nF ss R T n v l (a:Int) en goal mvar names pv pc) (a:=j) 0 ss.length rfl (Is _) hl
   (λk a=>(tN l (ss.drop k) a).on (λ_ j'=>R (.tup []) (Yg l en goal mvar pv pc names j')) (λj' e=>T (flt (oR l en j') e))) (by simpa using hx) λn k a _ hk ha hn=> ?_
  rw[SJ]
  by_cases h:k<ss.length
  ·rw[yD h,yA (t:=.str) h]
   rw[Aa4 h,tN]at ha
   refine⟨zI h,_,_,xQ a _,?_⟩;unfold om;cases hb:sT l ss[k] a with
   |true=>
    rw[hb,As rfl]at ha
    rw[As rfl];exact bnf rfl (hn h (a+1) ha)
   |false=>
    rw[hb,An (by decide)]at ha
    rw[An (by decide)]
    exact bnt rfl (.inr ⟨_,qC a 1,ha⟩)
  ·have hk':k=ss.length:=by omega
   subst hk';rw[zY];rw[Ab6 (IN _),tN]at ha
   exact ha
theorem Je(j:Nat):Lt uA [Ac3] (Yg l en goal mvar pv pc names) (oR l en) j .str (TR yG l j):=
 bW (PH _ _ _ _ _ _ _ _) (PI _ _ _ _ _ _ _ _) λok ok2 R T hx=>by
  rw[NB,BB];rw[TR]at hx
  by_cases h:j<l.length
  ·refine df (by omega) ⟨zI h,zG (t:=.bool) (Ma _) ?_⟩
   cases hb:yG (dP l j).text with
   |true=>
    rw[As ⟨h,hb⟩]at hx
    exact bnf rfl ⟨zI h,hx⟩
   |false=>
    rw[An (by rw[hb];rintro⟨_,h⟩;cases h)]at hx
    exact bnt rfl (.inr ⟨_,qC j 1,hx⟩)
  ·rw[An λx=>h x.1]at hx
   exact dt (by omega) (.inr ⟨_,qC j 1,hx⟩)
end
end Go.Proofs.YtdnmkinmcdihnaaGreatDoor
namespace Go.Proofs.YtdnmkinmcdihnaaGreatDoor
open Go.Proofs.Tryz
open Go.RowKit
variable[Lo]
def tE(s:AcL):Int:=(Lib.atoi s.data.toList).getD 0
def Ze(l:AcX):Prop:=∀t∈l,t.kind=2->t.text.size<=18/\∃n,Lib.atoi t.text.data.toList=some n/\0<=n/\n<=1000000
theorem zrF{s:AcL}{n:Int}(hl:s.size<=18)(h:Lib.atoi s.data.toList=some n)(hn:xE n):xT vK [.str s] [] (.tup [dI n,.undef]) []:=by
 intro w S vs pl hS hsz hv hh hg;have e0:=((hv 0 _ rfl).flat (d:=.str s) rfl).str_inv.1
 have e:vs= #[.string s]:=by
  have hl:vs.size=1:=hsz;apply Array.ext
  ·simpa using hl
  ·intro i h1 h2
   have:i=0:=by omega
   subst this;simpa[Aaj,h1]using e0
 subst e;refine(strconv_Atoi s n hl h w).mono λe w' ⟨he,t,hw⟩=> ?_
 subst hw;refine⟨_,λ_=>False,pl,he,Rp.rd (.tup _ _ rfl λi d hd=> ?_),⟨λk o h=>(by cases h),λk o b h=>(by cases h),λk k' o o' b h=>(by cases h)⟩,λb h=>h.elim,λb h=>h.elim,λb ⟨k,o,h,_⟩=>(by cases h),λ_ _=>rfl,.of (Lib.bytesWorld_below _ _ _)⟩
 match i,hd with
 |0,hd=>injection hd with hd;subst hd;exact .int_mk hn
 |1,hd=>injection hd with hd;subst hd;exact .undef _
theorem zo5{l:AcX}(hd:Ze l){j:Nat}(hj:j<l.length)(hk:(dP l j).kind=2):xT vK [.str (dP l j).text] [] (.tup [dI (tE (dP l j).text),.undef]) []/\0<=tE (dP l j).text/\tE (dP l j).text<=1000000:=by
 have hm:dP l j∈l:=by
  unfold dP;rw[Aar,Aal hj];exact AT hj
 obtain⟨h1,n,h2,h3,h4⟩:=hd _ hm hk;have e:tE (dP l j).text=n:=by rw[tE,h2];rfl
 rw[e];exact⟨zrF h1 h2 (by unfold xE;omega),h3,h4⟩
section
variable {l:AcX}{en goal mvar:Int}{pv:AcU}{pc:AcV}{names:List (AcL×Int)}
theorem Zf(hd:Ze l)(j:Nat):Lt zL [Ac3] (Yg l en goal mvar pv pc names) (oR l en) j (λn:Int=>dI n) (kP tE l j):=
 bW (K9 _ _ _ _ _ _ _ _) (Ja _ _ _ _ _ _ _ _) λok ok2 R T hx=>by
  have hl:=Ur ok2;rw[Hu];refine⟨_,_,xQ j _,?_⟩;rw[kP]at hx
  unfold om;cases hb:sT l ⟨#[45]⟩ j with
  |true=>
   rw[hb,As rfl]at hx
   rw[As rfl];refine bt rfl ?_;generalize j+1=i at hx⊢
   rw[zh7]at hx
   by_cases h:i<l.length
   ·refine df (by omega) ⟨zI h,?_⟩
    rw[BB]
    by_cases hk:(dP l i).kind=2
    ·refine dnf hk (dt (by decide) ⟨zI h,?_⟩)
     by_cases h0:(dP l i).text=⟨#[48]⟩
     ·rw[An λx=>x.2.2 ⟨by decide,h0⟩]at hx
      exact dt h0 (.inr ⟨_,qC i 1,hx⟩)
     ·rw[As ⟨h,hk,λx=>h0 x.2⟩]at hx
      obtain⟨q1,q2,q3⟩:=zo5 hd h hk;have hX:=(⟨_,q1,by rw[qV (by omega) (by omega),cH (by omega)];exact hx⟩:∃a:Int,xT vK [.str (dP l i).text] [] (.tup [dI a,.undef]) []/\R (dI (yU ((-1)*a))) (zfZ l en goal mvar pv pc names (yU ((i:Int)+1))))
      exact df h0 ⟨⟨zI h,hX⟩,zI h,hX⟩
    ·rw[An λx=>hk x.2.1]at hx
     exact dnt hk (.inr ⟨_,qC i 1,hx⟩)
   ·rw[An λx=>h x.1]at hx
    exact dt (by omega) (.inr ⟨_,qC i 1,hx⟩)
  |false=>
   rw[hb,An (by decide)]at hx
   rw[An (by decide)]
   refine bf rfl ?_;rw[zh7]at hx
   by_cases h:j<l.length
   ·refine df (by omega) ⟨zI h,?_⟩
    rw[BB]
    by_cases hk:(dP l j).kind=2
    ·refine dnf hk (df (by decide) ?_)
     rw[As ⟨h,hk,λx=>At x.1 (by decide)⟩]at hx
     obtain⟨q1,q2,q3⟩:=zo5 hd h hk;have hX:=(⟨_,q1,by rw[qV (by omega) (by omega),cH (by omega)];exact hx⟩:∃a:Int,xT vK [.str (dP l j).text] [] (.tup [dI a,.undef]) []/\R (dI (yU (1*a))) (zfZ l en goal mvar pv pc names (yU ((j:Int)+1))))
     exact⟨⟨zI h,hX⟩,zI h,hX⟩
    ·rw[An λx=>hk x.2.1]at hx
     exact dnt hk (.inr ⟨_,qC j 1,hx⟩)
   ·rw[An λx=>h x.1]at hx
    exact dt (by omega) (.inr ⟨_,qC j 1,hx⟩)
theorem zmF{s:AcL}{es:List (AcL×Int)}{n:Int}(h:sU .str .int s es=some n):MB .str .int s es=true/\kC .str .int s es=n:=by
 unfold MB kC;rw[h];exact⟨rfl,rfl⟩
theorem zmG{s:AcL}{es:List (AcL×Int)}(h:sU .str .int s es=none):MB .str .int s es=false:=by
 unfold MB;rw[h];rfl
theorem YH(j:Nat):Lt zM [Ac3] (Yg l en goal mvar pv pc names) (oR l en) j (λn:Int=>dI n) (vP yG names l j):=
 bW (Jb _ _ _ _ _ _ _ _) (Jc _ _ _ _ _ _ _ _) λok ok2 R T hx=>by
  have hl:=Ur ok2;rw[Hv];have hs:=Je (l:=l) (en:=en) (goal:=goal) (mvar:=mvar) (pv:=pv) (pc:=pc) (names:=names) j;rw[vP,TR]at hx
  rw[TR]at hs
  by_cases h:j<l.length/\yG (dP l j).text=true
  ·rw[As h]at hs hx
   have hs:xT uA [Ac3] (Yg l en goal mvar pv pc names j) (.str (dP l j).text) (Yg l en goal mvar pv pc names j):=hs;refine(λh=>⟨h,h⟩) (.inl ⟨_,hs,?_⟩)
   refine(λh=>⟨⟨h,h⟩,h⟩) ?_
   have hx:Pr.on (match sU .str .int (dP l j).text names with|some n=>Pr.ok n (j+1)|none=> .err j 5) _ _:=hx
   cases hm:sU .str .int (dP l j).text names with
   |some n=>
    rw[hm]at hx
    obtain⟨h1,h2⟩:=zmF hm;rw[h1,h2];refine bnf rfl ?_;rw[cH (by omega)];exact hx
   |none=>
    rw[hm]at hx
    rw[zmG hm];exact bnt rfl (.inr ⟨_,qC j 5,hx⟩)
  ·rw[An h]at hs hx
   exact(λh=>⟨h,h⟩) (.inr ⟨_,hs,hx⟩)
end
end Go.Proofs.YtdnmkinmcdihnaaGreatDoor
namespace Go.Proofs.YtdnmkinmcdihnaaGreatDoor
open Go.Proofs.Tryz
open Go.RowKit
variable[Lo]
def Adv{α:Type}(l:AcX)(f:Nat->Pr α):Prop:=∀i x j,f i=.ok x j->i<j/\j<=l.length
theorem RH{isN:AcL->Bool}{names:List (AcL×Int)}{l:AcX}:Adv l (vP isN names l):=λi x j h=>by
 unfold vP TR at h
 split at h
 ·rename_i hc
  simp only[Pr.bind]at h
  split at h
  ·injection h with h1 h2;omega
  ·cases h
 ·cases h
theorem zk3{nv:AcL->Int}{l:AcX}{sg:Int}{i:Nat}{x:Int}{j:Nat}(h:zh7 nv l sg i=.ok x j):i<j/\j<=l.length:=by
 unfold zh7 at h
 split at h
 ·rename_i hc;injection h with h1 h2;omega
 ·cases h
theorem PT{nv:AcL->Int}{l:AcX}:Adv l (kP nv l):=λi x j h=>by
 unfold kP at h
 split at h
 ·have:=zk3 h;omega
 ·exact zk3 h
section
variable {l:AcX}{en goal mvar:Int}{pv:AcU}{pc:AcV}{names:List (AcL×Int)}
theorem RI(hd:Ze l){R:D->List (Nat×yE)->Prop}{T:Value->Prop}(hl:l.length*32<=140737488355328):∀(fuel:Nat) (acc:AcP) (j:Nat),j<=l.length->l.length<j+fuel->acc.length<=j->
  (Yk l (kP tE l) fuel acc j).on (λxs j'=>R (.sl (.fr .int) xs) (Yg l en goal mvar pv pc names j')) (λj' e=>T (flt (oR l en j') e))->∃n,iI R T n acc l (j:Int) en goal mvar names pv pc
 |0,acc,j,h1,h2,_,_=>by omega
 |fuel+1,acc,j,h1,h2,h3,hx=>by
  rw[Yk]at hx
  cases hb:sT l ⟨#[44]⟩ j with
  |true=>
   rw[hb,As rfl]at hx
   have hlt:=oS hb;have hs:=Zf (l:=l) (en:=en) (goal:=goal) (mvar:=mvar) (pv:=pv) (pc:=pc) (names:=names) hd (j+1);cases hf:kP tE l (j+1)with
   |ok x j'=>
    rw[hf]at hs hx
    have ha:=PT _ _ _ hf;obtain⟨n,hn⟩:=RI hd hl fuel (acc++[x]) j' ha.2 (by omega) (by rw[It];show _+1<=_;omega) hx
    refine⟨n+1,?_⟩;rw[ff];refine⟨_,_,xQ j _,?_⟩;rw[om,hb,As rfl];exact bt rfl (.inl ⟨_,_,hs,xC (t:=.fr .int) (by show(acc.length+1)*8<=_;omega),hn⟩)
   |err j' e=>
    rw[hf]at hs hx
    refine⟨1,?_⟩;rw[ff];refine⟨_,_,xQ j _,?_⟩;rw[om,hb,As rfl];exact bt rfl (.inr ⟨_,hs,hx⟩)
  |false=>
   rw[hb,An (by decide)]at hx
   refine⟨1,?_⟩;rw[ff];refine⟨_,_,xQ j _,?_⟩;rw[om,hb,An (by decide)]
   rw[Pr.on_bind]at hx
   exact bf rfl ((tA j _).call (λ_ j' hs hk=> .inl ⟨_,hs,hk⟩) (λj' e hs hy=> .inr ⟨_,hs,hy⟩) hx)
theorem eI(hd:Ze l)(j:Nat):Lt zN [Ac3,.clp zL true 1000 0] (Yg l en goal mvar pv pc names) (oR l en) j (λxs=> .sl (.fr .int) xs) (mQ l (kP tE l) j):=
 bW (NH _ _ _ _ _ _ _ _) (NI _ _ _ _ _ _ _ _) λok ok2 R T hx=>by
  have hl:=Ur ok2;rw[Lk];rw[mQ,Pr.on_bind]at hx
  have hs:=tA (l:=l) (en:=en) (goal:=goal) (mvar:=mvar) (pv:=pv) (pc:=pc) (names:=names) j [⟨#[91]⟩];rw[tN,tN]at hs hx
  cases hb:sT l ⟨#[91]⟩ j with
  |false=>
   rw[hb,An (by decide)]at hs hx
   exact .inr ⟨_,hs,hx⟩
  |true=>
   rw[hb,As rfl]at hs hx
   have h0:=oS hb;refine .inl ⟨_,hs,_,_,xQ (j+1) _,?_⟩;have hx:Pr.on (if sT l ⟨#[93]⟩ (j+1)=true then _ else _) _ _:=hx
   cases hc:sT l ⟨#[93]⟩ (j+1)with
   |true=>
    rw[hc,As rfl]at hx
    rw[om,hc,As rfl];exact bt rfl hx
   |false=>
    rw[hc,An (by decide)]at hx
    rw[om,hc,An (by decide)]
    have hq:=Zf (l:=l) (en:=en) (goal:=goal) (mvar:=mvar) (pv:=pv) (pc:=pc) (names:=names) hd (j+1);refine bf rfl ?_;cases hf:kP tE l (j+1)with
    |ok x j'=>
     rw[hf]at hq hx
     have ha:=PT _ _ _ hf;exact .inl ⟨_,_,hq,RI hd hl (l.length+1) [x] j' ha.2 (by omega) (by show 1<=_;omega) hx⟩
    |err j' e=>
     rw[hf]at hq hx
     exact .inr ⟨_,hq,hx⟩
theorem RJ{R:D->List (Nat×yE)->Prop}{T:Value->Prop}(hl:l.length*32<=140737488355328):∀(fuel:Nat) (acc:AcP) (j:Nat),j<=l.length->l.length<j+fuel->acc.length<=j->
  (Yk l (vP yG names l) fuel acc j).on (λxs j'=>R (.sl (.fr .int) xs) (Yg l en goal mvar pv pc names j')) (λj' e=>T (flt (oR l en j') e))->∃n,iJ R T n acc l (j:Int) en goal mvar names pv pc
 |0,acc,j,h1,h2,_,_=>by omega
 |fuel+1,acc,j,h1,h2,h3,hx=>by
  rw[Yk]at hx
  cases hb:sT l ⟨#[44]⟩ j with
  |true=>
   rw[hb,As rfl]at hx
   have hlt:=oS hb;have hs:=YH (l:=l) (en:=en) (goal:=goal) (mvar:=mvar) (pv:=pv) (pc:=pc) (names:=names) (j+1);cases hf:vP yG names l (j+1)with
   |ok x j'=>
    rw[hf]at hs hx
    have ha:=RH _ _ _ hf;obtain⟨n,hn⟩:=RJ hl fuel (acc++[x]) j' ha.2 (by omega) (by rw[It];show _+1<=_;omega) hx
    refine⟨n+1,?_⟩;rw[fg];refine⟨_,_,xQ j _,?_⟩;rw[om,hb,As rfl];exact bt rfl (.inl ⟨_,_,hs,xC (t:=.fr .int) (by show(acc.length+1)*8<=_;omega),hn⟩)
   |err j' e=>
    rw[hf]at hs hx
    refine⟨1,?_⟩;rw[fg];refine⟨_,_,xQ j _,?_⟩;rw[om,hb,As rfl];exact bt rfl (.inr ⟨_,hs,hx⟩)
  |false=>
   rw[hb,An (by decide)]at hx
   refine⟨1,?_⟩;rw[fg];refine⟨_,_,xQ j _,?_⟩;rw[om,hb,An (by decide)]
   rw[Pr.on_bind]at hx
   exact bf rfl ((tA j _).call (λ_ j' hs hk=> .inl ⟨_,hs,hk⟩) (λj' e hs hy=> .inr ⟨_,hs,hy⟩) hx)
theorem jC(j:Nat):Lt zN [Ac3,.clp zM true 1000 0] (Yg l en goal mvar pv pc names) (oR l en) j (λxs=> .sl (.fr .int) xs) (mQ l (vP yG names l) j):=
 bW (NJ _ _ _ _ _ _ _ _) (NK _ _ _ _ _ _ _ _) λok ok2 R T hx=>by
  have hl:=Ur ok2;rw[Ll];rw[mQ,Pr.on_bind]at hx
  have hs:=tA (l:=l) (en:=en) (goal:=goal) (mvar:=mvar) (pv:=pv) (pc:=pc) (names:=names) j [⟨#[91]⟩];rw[tN,tN]at hs hx
  cases hb:sT l ⟨#[91]⟩ j with
  |false=>
   rw[hb,An (by decide)]at hs hx
   exact .inr ⟨_,hs,hx⟩
  |true=>
   rw[hb,As rfl]at hs hx
   have h0:=oS hb;refine .inl ⟨_,hs,_,_,xQ (j+1) _,?_⟩;have hx:Pr.on (if sT l ⟨#[93]⟩ (j+1)=true then _ else _) _ _:=hx
   cases hc:sT l ⟨#[93]⟩ (j+1)with
   |true=>
    rw[hc,As rfl]at hx
    rw[om,hc,As rfl];exact bt rfl hx
   |false=>
    rw[hc,An (by decide)]at hx
    rw[om,hc,An (by decide)]
    have hq:=YH (l:=l) (en:=en) (goal:=goal) (mvar:=mvar) (pv:=pv) (pc:=pc) (names:=names) (j+1);refine bf rfl ?_;cases hf:vP yG names l (j+1)with
    |ok x j'=>
     rw[hf]at hq hx
     have ha:=RH _ _ _ hf;exact .inl ⟨_,_,hq,RJ hl (l.length+1) [x] j' ha.2 (by omega) (by show 1<=_;omega) hx⟩
    |err j' e=>
     rw[hf]at hq hx
     exact .inr ⟨_,hq,hx⟩
end
end Go.Proofs.YtdnmkinmcdihnaaGreatDoor
namespace Go.Proofs.YtdnmkinmcdihnaaGreatDoor
open Go.Proofs.Tryz
open Go.RowKit
variable[Lo]
section
variable {l:AcX}{en goal mvar:Int}{pv:AcU}{pc:AcV}{names:List (AcL×Int)}
theorem BC{isN:AcL->Bool}:∀(n:Nat) (acc:AcP) (j:Nat) (xs:AcP) (j':Nat),TS isN names l n acc j=.ok xs j'->j<=j'/\(1<=n->j'<=l.length)
 |0,acc,j,xs,j',h=>by injection h with h1 h2;omega
 |n+1,acc,j,xs,j',h=>by
  unfold TS at h
  cases hv:vP isN names l j with
  |ok x i=>
   rw[hv]at h
   have:=RH _ _ _ hv;have:=BC n _ i xs j' h;cases n with
   |zero=>injection h with h1 h2;omega
   |succ n=>omega
  |err i e=>rw[hv]at h;cases h
theorem SM(many:Nat)(hm:many<=6)(j:Nat):Lt xR [Ac3,dI many] (Yg l en goal mvar pv pc names) (oR l en) j (λxs=> .sl (.fr .int) xs) (TS yG names l many [] j):=
 bW (PM _ _ _ _ _ _ _ _ _) (PN _ _ _ _ _ _ _ _ _) λok ok2 R T hx=>by
  rw[NL]
  suffices H:∀(d k:Nat) (acc:AcP) (j:Nat),k+d=many->acc.length=k->(TS yG names l d acc j).on (λxs j'=>R (.sl (.fr .int) xs) (Yg l en goal mvar pv pc names j')) (λj' e=>T (flt (oR l en j') e))->
    ∃n,kK (many:Int) R T n (k:Int) acc l (j:Int) en goal mvar names pv pc from H many 0 [] j (by omega) rfl hx
  intro d
  induction d with
  |zero=>
   intro k acc j hk ha hx;refine⟨1,?_⟩;rw[iL];exact df (by omega) hx
  |succ d ih=>
   intro k acc j hk ha hx;rw[TS]at hx
   have hq:=YH (l:=l) (en:=en) (goal:=goal) (mvar:=mvar) (pv:=pv) (pc:=pc) (names:=names) j;cases hv:vP yG names l j with
   |ok x i=>
    rw[hv]at hq hx
    obtain⟨n,hn⟩:=ih (k+1) (acc++[x]) i (by omega) (by rw[It,ha];rfl) hx
    refine⟨n+1,?_⟩;rw[iL];refine dt (by omega) (.inl ⟨_,_,hq,xC (t:=.fr .int) (by show(acc.length+1)*8<=_;omega),?_⟩)
    rw[cH (by omega)];exact hn
   |err i e=>
    rw[hv]at hq hx
    refine⟨1,?_⟩;rw[iL];exact dt (by omega) (.inr ⟨_,hq,hx⟩)
theorem EB{isN:AcL->Bool}{nv:AcL->Int}:Adv l (Hy isN nv names l):=λi x j h=>by
 unfold Hy at h
 cases hv:vP isN names l i with
 |ok v i1=>
  rw[hv]at h
  have h1:=RH _ _ _ hv;simp only[Pr.bind]at h
  split at h
  ·cases hk:kP nv l (i1+1)with
   |ok n i2=>
    rw[hk]at h
    have h2:=PT _ _ _ hk;injection h with h3 h4;omega
   |err i2 e=>rw[hk]at h;cases h
  ·cases h
 |err i1 e=>rw[hv]at h;cases h
theorem Jf(hd:Ze l){R:D->List (Nat×yE)->Prop}{T:Value->Prop}(v:Int):∀(r pre:Ac1) (j:Nat),opW=pre++r->
  ((match Z8 l r ((pre.length:Int)+1) j with|some o=>(kP tE l (j+1)).bind λn j=> .ok (⟨v,o,n⟩:zA) j|none=> .err j 1).on (λx j'=>R (dL x) (Yg l en goal mvar pv pc names j')) λj' e=>T (flt (oR l en j') e))->
  ∃n,iN R T n (pre.length:Int) 0 0 0 v 0 0 l (j:Int) en goal mvar names pv pc
 |[],pre,j,hw,hx=>by
  refine⟨1,?_⟩;rw[fi];have hl:pre.length=4:=by have:=AS List.length hw;simpa[opW]using this.symm
  refine df (by rw[hl];decide) (.inr ⟨_,qC j 1,hx⟩)
 |s::r,pre,j,hw,hx=>by
  have hl:pre.length<opW.length:=by rw[hw,It,By];omega
  have hl4:pre.length<4:=hl
  have hat:zJ .str opW (pre.length:Int).toNat=s:=by
   rw[Aap];show opW.getD _ _=_
   rw[hw,Aar,AaN (IN _),AbU];rfl
  have hs:=xQ (l:=l) (en:=en) (goal:=goal) (mvar:=mvar) (pv:=pv) (pc:=pc) (names:=names) j s;rw[<-hat]at hs
  rw[Z8]at hx
  cases hb:sT l s j with
  |true=>
   rw[hb,As rfl]at hx
   refine⟨1,?_⟩;rw[fi];refine dt (by show(pre.length:Int)<(4:Nat);omega) ⟨zI hl4,_,_,hs,?_⟩
   rw[hat,om,hb,As rfl];rw[qV (by omega) (by omega),show(1:Int)+pre.length=(pre.length:Int)+1 by omega]
   have hx:Pr.on ((kP tE l (j+1)).bind _) _ _:=hx;rw[Pr.on_bind]at hx
   exact bt rfl ((Zf hd (j+1)).call (λ_ j' hs hk=> .inl ⟨_,_,hs,hk⟩) (λj' e hs hy=> .inr ⟨_,hs,hy⟩) hx)
  |false=>
   rw[hb,An (by decide)]at hx
   obtain⟨n,hn⟩:=Jf hd v r (pre++[s]) j (by rw[hw,AaG];rfl) (by rw[It];show Pr.on (match Z8 l r (((pre.length+1:Nat):Int)+1) j with|some o=>_|none=>_) _ _;rw[show((pre.length+1:Nat):Int)=(pre.length:Int)+1 by omega];exact hx)
   refine⟨n+1,?_⟩;rw[fi];refine dt (by show(pre.length:Int)<(4:Nat);omega) ⟨zI hl4,_,_,hs,?_⟩
   rw[hat,om,hb,An (by decide),cH (by omega)]
   rw[It]at hn
   exact bf rfl hn
theorem PU(hd:Ze l)(j:Nat):Lt yN [Ac3] (Yg l en goal mvar pv pc names) (oR l en) j (λx=>dL x) (Hy yG tE names l j):=
 bW (NO _ _ _ _ _ _ _ _) (NP _ _ _ _ _ _ _ _) λok ok2 R T hx=>by
  rw[Ln];rw[Hy,Pr.on_bind]at hx
  exact(YH j).call (λv j' hs hk=> .inl ⟨_,_,hs,Jf hd v opW [] j' rfl hk⟩) (λj' e hs hy=> .inr ⟨_,hs,hy⟩) hx
theorem Us(hd:Ze l){R:D->List (Nat×yE)->Prop}{T:Value->Prop}(hl:l.length*32<=140737488355328):∀(fuel:Nat) (acc:AcR) (j:Nat),j<=l.length->l.length<j+fuel->acc.length<=j->
  (Yk l (Hy yG tE names l) fuel acc j).on (λxs j'=>R (.sl (.fr .lit) xs) (Yg l en goal mvar pv pc names j')) (λj' e=>T (flt (oR l en j') e))->∃n,lS R T n acc l (j:Int) en goal mvar names pv pc
 |0,acc,j,h1,h2,_,_=>by omega
 |fuel+1,acc,j,h1,h2,h3,hx=>by
  rw[Yk]at hx
  cases hb:sT l ⟨#[44]⟩ j with
  |true=>
   rw[hb,As rfl]at hx
   have hlt:=oS hb;have hs:=PU (l:=l) (en:=en) (goal:=goal) (mvar:=mvar) (pv:=pv) (pc:=pc) (names:=names) hd (j+1);cases hf:Hy yG tE names l (j+1)with
   |ok x j'=>
    rw[hf]at hs hx
    have ha:=EB _ _ _ hf;obtain⟨n,hn⟩:=Us hd hl fuel (acc++[x]) j' ha.2 (by omega) (by rw[It];show _+1<=_;omega) hx
    refine⟨n+1,?_⟩;rw[jB];refine⟨_,_,xQ j _,?_⟩;rw[om,hb,As rfl];exact bt rfl (.inl ⟨_,_,hs,xC (t:=.fr .lit) (by show(acc.length+1)*24<=_;omega),hn⟩)
   |err j' e=>
    rw[hf]at hs hx
    refine⟨1,?_⟩;rw[jB];refine⟨_,_,xQ j _,?_⟩;rw[om,hb,As rfl];exact bt rfl (.inr ⟨_,hs,hx⟩)
  |false=>
   rw[hb,An (by decide)]at hx
   refine⟨1,?_⟩;rw[jB];refine⟨_,_,xQ j _,?_⟩;rw[om,hb,An (by decide)]
   rw[Pr.on_bind]at hx
   exact bf rfl ((tA j _).call (λ_ j' hs hk=> .inl ⟨_,hs,hk⟩) (λj' e hs hy=> .inr ⟨_,hs,hy⟩) hx)
theorem Hz(hd:Ze l)(j:Nat):Lt uH [Ac3,.clp yN true 1000 0] (Yg l en goal mvar pv pc names) (oR l en) j (λxs=> .sl (.fr .lit) xs) (mQ l (Hy yG tE names l) j):=
 bW (Qc _ _ _ _ _ _ _ _) (Qd _ _ _ _ _ _ _ _) λok ok2 R T hx=>by
  have hl:=Ur ok2;rw[PP];rw[mQ,Pr.on_bind]at hx
  have hs:=tA (l:=l) (en:=en) (goal:=goal) (mvar:=mvar) (pv:=pv) (pc:=pc) (names:=names) j [⟨#[91]⟩];rw[tN,tN]at hs hx
  cases hb:sT l ⟨#[91]⟩ j with
  |false=>
   rw[hb,An (by decide)]at hs hx
   exact .inr ⟨_,hs,hx⟩
  |true=>
   rw[hb,As rfl]at hs hx
   have h0:=oS hb;refine .inl ⟨_,hs,_,_,xQ (j+1) _,?_⟩;have hx:Pr.on (if sT l ⟨#[93]⟩ (j+1)=true then _ else _) _ _:=hx
   cases hc:sT l ⟨#[93]⟩ (j+1)with
   |true=>
    rw[hc,As rfl]at hx
    rw[om,hc,As rfl];exact bt rfl hx
   |false=>
    rw[hc,An (by decide)]at hx
    rw[om,hc,An (by decide)]
    have hq:=PU (l:=l) (en:=en) (goal:=goal) (mvar:=mvar) (pv:=pv) (pc:=pc) (names:=names) hd (j+1);refine bf rfl ?_;cases hf:Hy yG tE names l (j+1)with
    |ok x j'=>
     rw[hf]at hq hx
     have ha:=EB _ _ _ hf;exact .inl ⟨_,_,hq,Us hd hl (l.length+1) [x] j' ha.2 (by omega) (by show 1<=_;omega) hx⟩
    |err j' e=>
     rw[hf]at hq hx
     exact .inr ⟨_,hq,hx⟩
end
end Go.Proofs.YtdnmkinmcdihnaaGreatDoor
namespace Go.Proofs.YtdnmkinmcdihnaaGreatDoor
open Go.Proofs.Tryz
open Go.RowKit
variable[Lo]
section
variable {l:AcX}{en goal mvar:Int}{pv:AcU}{pc:AcV}{names:List (AcL×Int)}
theorem zbI{α:Type}{f:Nat->Pr α}(hf:Adv l f):∀(fuel:Nat) (acc:List α) (j:Nat) (xs:List α) (j':Nat),Yk l f fuel acc j=.ok xs j'->j<j'/\j'<=l.length
 |0,acc,j,xs,j',h=>by cases h
 |fuel+1,acc,j,xs,j',h=>by
  unfold Yk at h
  split at h
  ·rename_i hb
   have hlt:=oS hb;cases hv:f (j+1)with
   |ok x i=>
    rw[hv]at h
    have h1:=hf _ _ _ hv;have h2:=zbI hf fuel _ i xs j' h;omega
   |err i e=>rw[hv]at h;cases h
  ·rw[tN,tN]at h
   split at h
   ·rename_i hb
    have hlt:=oS hb;injection h with h1 h2;omega
   ·cases h
theorem gG{α:Type}{f:Nat->Pr α}(hf:Adv l f):Adv l (mQ l f):=λi x j h=>by
 unfold mQ at h
 rw[tN,tN]at h
 split at h
 ·rename_i hb
  have h0:=oS hb;simp only[Pr.bind]at h
  split at h
  ·rename_i hc
   have:=oS hc;injection h with h1 h2;omega
  ·cases hv:f (i+1)with
   |ok y k=>
    rw[hv]at h
    have h1:=hf _ _ _ hv;have h2:=zbI hf _ _ _ _ _ h;omega
   |err k e=>rw[hv]at h;cases h
 ·cases h
abbrev zuL(l:AcX)(en goal mvar:Int)(pv:AcU)(pc:AcV)(names:List (AcL×Int))(j:Nat):List (Nat×yE):=
 [(1000,.cells [.ptr 1001 0]),(1001,.cells [.sl .tok l,dI j,dI en,.own 2000,.own 2001,dI goal,dI mvar,.own 1002]),(2000,.row 49 (.fr .var) pv),(2001,.row 52 (.fr .con) pc),(1002,.mp .str .int names)]
abbrev hpQ(l:AcX)(en goal mvar:Int)(pv:AcU)(pc:AcV)(names:List (AcL×Int))(j:Nat):List (Nat×yE):=
 [(1000,.cells [.sl .tok l,dI j,dI en,.own 2000,.own 2001,dI goal,dI mvar,.own 1001]),(2000,.row 49 (.fr .var) pv),(2001,.row 52 (.fr .con) pc),(1001,.mp .str .int names),(1002,.cells [Ac3])]
theorem Jg(hd:Ze l)(j:Nat):Lt yW [Ac3] (zuL l en goal mvar pv pc names) (oR l en) j (λxs=> .sl (.fr .int) xs) (mQ l (kP tE l) j):=
 bW (Qa _ _ _ _ _ _ _ _) (Qb _ _ _ _ _ _ _ _) λok ok2 R T hx=>by
  rw[PO];exact(eI hd j).call (λ_ j' hs hk=> .inl ⟨_,_,hs,hk⟩) (λj' e hs hy=> .inr ⟨_,hs,hy⟩) hx
theorem Vq(hd:Ze l){R:D->List (Nat×yE)->Prop}{T:Value->Prop}(hl:l.length*32<=140737488355328):∀(fuel:Nat) (acc:AcQ) (j:Nat),j<=l.length->l.length<j+fuel->acc.length<=j->
  (Yk l (mQ l (kP tE l)) fuel acc j).on (λxs j'=>R (.sl (.fr (.list .int)) xs) (hpQ l en goal mvar pv pc names j')) (λj' e=>T (flt (oR l en j') e))->∃n,iM R T n acc l (j:Int) en goal mvar names pv pc
 |0,acc,j,h1,h2,_,_=>by omega
 |fuel+1,acc,j,h1,h2,h3,hx=>by
  rw[Yk]at hx
  cases hb:sT l ⟨#[44]⟩ j with
  |true=>
   rw[hb,As rfl]at hx
   have hlt:=oS hb;have hs:=Jg (l:=l) (en:=en) (goal:=goal) (mvar:=mvar) (pv:=pv) (pc:=pc) (names:=names) hd (j+1);cases hf:mQ l (kP tE l) (j+1)with
   |ok x j'=>
    rw[hf]at hs hx
    have ha:=(gG PT) _ _ _ hf;obtain⟨n,hn⟩:=Vq hd hl fuel (acc++[x]) j' ha.2 (by omega) (by rw[It];show _+1<=_;omega) hx
    refine⟨n+1,?_⟩;rw[fh];refine⟨_,_,xQ j _,?_⟩;rw[om,hb,As rfl];exact bt rfl (.inl ⟨_,_,hs,xC (t:=.fr (.list .int)) (by show(acc.length+1)*24<=_;omega),hn⟩)
   |err j' e=>
    rw[hf]at hs hx
    refine⟨1,?_⟩;rw[fh];refine⟨_,_,xQ j _,?_⟩;rw[om,hb,As rfl];exact bt rfl (.inr ⟨_,hs,hx⟩)
  |false=>
   rw[hb,An (by decide)]at hx
   refine⟨1,?_⟩;rw[fh];refine⟨_,_,xQ j _,?_⟩;rw[om,hb,An (by decide)]
   rw[Pr.on_bind]at hx
   exact bf rfl ((tA j _).call (λ_ j' hs hk=> .inl ⟨_,hs,hk⟩) (λj' e hs hy=> .inr ⟨_,hs,hy⟩) hx)
theorem Jh(hd:Ze l)(j:Nat):Lt tX [Ac3,.clp yW false 1002 0] (hpQ l en goal mvar pv pc names) (oR l en) j (λxs=> .sl (.fr (.list .int)) xs) (mQ l (mQ l (kP tE l)) j):=
 bW (NM _ _ _ _ _ _ _ _) (NN _ _ _ _ _ _ _ _) λok ok2 R T hx=>by
  have hl:l.length*32<=140737488355328:=(ok2 1000 _ rfl (.sl .tok l) (by simp)).1
  rw[Lm];rw[mQ,Pr.on_bind]at hx
  have hs:=tA (l:=l) (en:=en) (goal:=goal) (mvar:=mvar) (pv:=pv) (pc:=pc) (names:=names) j [⟨#[91]⟩];rw[tN,tN]at hs hx
  cases hb:sT l ⟨#[91]⟩ j with
  |false=>
   rw[hb,An (by decide)]at hs hx
   exact .inr ⟨_,hs,hx⟩
  |true=>
   rw[hb,As rfl]at hs hx
   have h0:=oS hb;refine .inl ⟨_,hs,_,_,xQ (j+1) _,?_⟩;have hx:Pr.on (if sT l ⟨#[93]⟩ (j+1)=true then _ else _) _ _:=hx
   cases hc:sT l ⟨#[93]⟩ (j+1)with
   |true=>
    rw[hc,As rfl]at hx
    rw[om,hc,As rfl];exact bt rfl hx
   |false=>
    rw[hc,An (by decide)]at hx
    rw[om,hc,An (by decide)]
    have hq:=Jg (l:=l) (en:=en) (goal:=goal) (mvar:=mvar) (pv:=pv) (pc:=pc) (names:=names) hd (j+1);refine bf rfl ?_;cases hf:mQ l (kP tE l) (j+1)with
    |ok x j'=>
     rw[hf]at hq hx
     have ha:=(gG PT) _ _ _ hf;exact .inl ⟨_,_,hq,Vq hd hl (l.length+1) [x] j' ha.2 (by omega) (by show 1<=_;omega) hx⟩
    |err j' e=>
     rw[hf]at hq hx
     exact .inr ⟨_,hq,hx⟩
end
end Go.Proofs.YtdnmkinmcdihnaaGreatDoor
namespace Go.Proofs.YtdnmkinmcdihnaaGreatDoor
open Go.Proofs.Tryz
open Go.RowKit
variable[Lo]
section
variable {l:AcX}{en goal mvar:Int}{pv:AcU}{pc:AcV}{names:List (AcL×Int)}
theorem zbJ{α:Type}{f:Nat->Pr α}(hf:Adv l f):∀(fuel:Nat) (acc:List α) (j:Nat) (xs:List α) (j':Nat),acc.length<=j->Yk l f fuel acc j=.ok xs j'->xs.length<=j'
 |0,acc,j,xs,j',_,h=>by cases h
 |fuel+1,acc,j,xs,j',ha,h=>by
  unfold Yk at h
  split at h
  ·cases hv:f (j+1)with
   |ok x i=>
    rw[hv]at h
    have h1:=hf _ _ _ hv;exact zbJ hf fuel (acc++[x]) i xs j' (by rw[It];show _+1<=_;omega) h
   |err i e=>rw[hv]at h;cases h
  ·rw[tN,tN]at h
   split at h
   ·injection h with h1 h2;subst h1;omega
   ·cases h
theorem zmH{α:Type}{f:Nat->Pr α}(hf:Adv l f){i j:Nat}{xs:List α}(h:mQ l f i=.ok xs j):xs.length<=j:=by
 unfold mQ at h
 rw[tN,tN]at h
 split at h
 ·simp only[Pr.bind]at h
  split at h
  ·injection h with h1 h2;subst h1;exact Is _
  ·cases hv:f (i+1)with
   |ok y k=>
    rw[hv]at h
    have h1:=hf _ _ _ hv;exact zbJ hf _ [y] k _ _ (by show 1<=k;omega) h
   |err k e=>rw[hv]at h;cases h
 ·cases h
theorem zaq:vL jW [] (.sl .str NW):=
 PF λok=>by
  rw[Mj];rfl
theorem Ji(hd:Ze l)(hl:l.length*32<=140737488355328){R:D->List (Nat×yE)->Prop}{T:Value->Prop}:∀(r pre:Ac1) (j:Nat),NW=pre++r->
  ((match Z8 l r ((pre.length:Int)+1) j with|some o=>Qi yG tE names l o (j+1)|none=> .err j 1).on (λx j'=>R (dCF x) (Yg l en goal mvar pv pc names j')) λj' e=>T (flt (oR l en j') e))->
  ∃n,iH R T NW n (pre.length:Int) 0 [] [] 0 [] [] 0 [] [] 0 [] [] l (j:Int) en goal mvar names pv pc
 |[],pre,j,hw,hx=>by
  refine⟨1,?_⟩;rw[fe];have hl:pre.length=10:=by have:=AS List.length hw;simpa[NW]using this.symm
  refine df (by rw[hl];decide) (dt rfl (.inr ⟨_,qC j 1,hx⟩))
 |s::r,pre,j,hw,hx=>by
  have hl4:pre.length<NW.length:=by rw[hw,It,By];omega
  have hl10:pre.length<10:=hl4
  have hat:zJ .str NW (pre.length:Int).toNat=s:=by
   rw[Aap];show NW.getD _ _=_
   rw[hw,Aar,AaN (IN _),AbU];rfl
  have hs:=xQ (l:=l) (en:=en) (goal:=goal) (mvar:=mvar) (pv:=pv) (pc:=pc) (names:=names) j s;rw[<-hat]at hs
  rw[Z8]at hx
  cases hb:sT l s j with
  |true=>
   rw[hb,As rfl]at hx
   refine⟨1,?_⟩;rw[fe];refine yD hl4▸⟨zI hl4,_,_,hs,?_⟩;rw[hat,om,hb,As rfl];refine bt rfl ?_;rw[qV (by omega) (by omega)]
   have hx:Pr.on (Qi yG tE names l ((pre.length:Int)+1) (j+1)) _ _:=hx;rw[show(pre.length:Int)+1=1+pre.length by omega]at hx
   refine df (by omega) ?_
   by_cases e1:(1:Int)+pre.length=1
   ·refine dt e1 ?_
    rw[Qi,As (by omega)]at hx
    exact(eI hd _).call (λ_ _ hs hk=> .inl ⟨_,_,hs,(jC _).call (λ_ _ hs hk=> .inl ⟨_,_,hs,(Zf hd _).call (λ_ _ hs hk=> .inl ⟨_,_,hs,hk⟩) (λ_ _ hs hy=> .inr ⟨_,hs,hy⟩) (Pr.on_bind.1 hk)⟩) (λ_ _ hs hy=> .inr ⟨_,hs,hy⟩) (Pr.on_bind.1 hk)⟩) (λ_ _ hs hy=> .inr ⟨_,hs,hy⟩) (Pr.on_bind.1 hx)
   refine df e1 ?_
   by_cases e2:(1:Int)+pre.length=2
   ·refine dt e2 ?_
    rw[Qi,As (by omega)]at hx
    exact(eI hd _).call (λ_ _ hs hk=> .inl ⟨_,_,hs,(jC _).call (λ_ _ hs hk=> .inl ⟨_,_,hs,(Zf hd _).call (λ_ _ hs hk=> .inl ⟨_,_,hs,hk⟩) (λ_ _ hs hy=> .inr ⟨_,hs,hy⟩) (Pr.on_bind.1 hk)⟩) (λ_ _ hs hy=> .inr ⟨_,hs,hy⟩) (Pr.on_bind.1 hk)⟩) (λ_ _ hs hy=> .inr ⟨_,hs,hy⟩) (Pr.on_bind.1 hx)
   refine df e2 ?_
   by_cases e3:(1:Int)+pre.length=3
   ·refine dt e3 ?_
    rw[Qi,As (by omega)]at hx
    exact(eI hd _).call (λ_ _ hs hk=> .inl ⟨_,_,hs,(jC _).call (λ_ _ hs hk=> .inl ⟨_,_,hs,(Zf hd _).call (λ_ _ hs hk=> .inl ⟨_,_,hs,hk⟩) (λ_ _ hs hy=> .inr ⟨_,hs,hy⟩) (Pr.on_bind.1 hk)⟩) (λ_ _ hs hy=> .inr ⟨_,hs,hy⟩) (Pr.on_bind.1 hk)⟩) (λ_ _ hs hy=> .inr ⟨_,hs,hy⟩) (Pr.on_bind.1 hx)
   refine df e3 ?_
   by_cases e4:(1:Int)+pre.length=4
   ·refine dt e4 ?_
    rw[Qi,An (by omega),As (by omega)]at hx
    exact(jC _).call (λ_ _ hs hk=> .inl ⟨_,_,hs,hk⟩) (λ_ _ hs hy=> .inr ⟨_,hs,hy⟩) (Pr.on_bind.1 hx)
   refine df e4 ?_
   by_cases e5:(1:Int)+pre.length=5
   ·refine dt e5 ?_
    rw[Qi,An (by omega),An (by omega),As (by omega)]at hx
    exact(eI hd _).call (λ_ _ hs hk=> .inl ⟨_,_,hs,(SM 2 (by decide) _).call (λ_ _ hs hk=> .inl ⟨_,_,hs,hk⟩) (λ_ _ hs hy=> .inr ⟨_,hs,hy⟩) (Pr.on_bind.1 hk)⟩) (λ_ _ hs hy=> .inr ⟨_,hs,hy⟩) (Pr.on_bind.1 hx)
   refine df e5 ?_
   by_cases e6:(1:Int)+pre.length=6
   ·refine dt e6 ?_
    rw[Qi,An (by omega),An (by omega),An (by omega),As (by omega)]at hx
    exact(jC _).call (λ_ _ hs hk=> .inl ⟨_,_,hs,(Jh hd _).call (λ_ _ hs hk=> .inl ⟨_,_,hs,hk⟩) (λ_ _ hs hy=> .inr ⟨_,hs,hy⟩) (Pr.on_bind.1 hk)⟩) (λ_ _ hs hy=> .inr ⟨_,hs,hy⟩) (Pr.on_bind.1 hx)
   refine df e6 ?_
   by_cases e7:(1:Int)+pre.length=7
   ·refine dt e7 ?_
    rw[Qi,An (by omega),An (by omega),An (by omega),An (by omega),As (by omega)]at hx
    exact(SM 3 (by decide) _).call (λ_ _ hs hk=> .inl ⟨_,_,hs,hk⟩) (λ_ _ hs hy=> .inr ⟨_,hs,hy⟩) (Pr.on_bind.1 hx)
   refine df e7 ?_
   by_cases e8:(1:Int)+pre.length=8
   ·refine dt e8 ?_
    rw[Qi,An (by omega),An (by omega),An (by omega),An (by omega),An (by omega),As (by omega)]at hx
    refine(YH _).call (λv j1 hs hk=> .inl ⟨_,_,hs,?_⟩) (λ_ _ hs hy=> .inr ⟨_,hs,hy⟩) (Pr.on_bind.1 hx)
    have hk:Pr.on ((mQ l (vP yG names l) j1).bind λvs j=>Pr.ok (⟨_,v::vs,[],0,[],[]⟩:zF) j) _ _:=hk
    have hq:=jC (l:=l) (en:=en) (goal:=goal) (mvar:=mvar) (pv:=pv) (pc:=pc) (names:=names) j1;cases hv:mQ l (vP yG names l) j1 with
    |ok vs j2=>
     rw[hv]at hq hk
     have h1:=zmH RH hv;have h2:=gG RH _ _ _ hv;exact .inl ⟨_,_,hq,xC (t:=.fr .int) (by show(1+vs.length)*8<=_;omega),hk⟩
    |err j2 e=>
     rw[hv]at hq hk
     exact .inr ⟨_,hq,hk⟩
   refine df e8 ?_
   by_cases e9:(1:Int)+pre.length=9
   ·refine dt e9 ?_
    rw[Qi,An (by omega),An (by omega),An (by omega),An (by omega),An (by omega),An (by omega),As (by omega)]at hx
    exact(Hz hd _).call (λ_ _ hs hk=> .inl ⟨_,_,hs,hk⟩) (λ_ _ hs hy=> .inr ⟨_,hs,hy⟩) (Pr.on_bind.1 hx)
   refine df e9 ?_
   by_cases e10:(1:Int)+pre.length=10
   ·refine dt e10 ?_
    rw[Qi,An (by omega),An (by omega),An (by omega),An (by omega),An (by omega),An (by omega),An (by omega)]at hx
    exact(SM 1 (by decide) _).call (λ_ _ hs hk=> .inl ⟨_,_,hs,(PU hd _).call (λ_ _ hs hk=> .inl ⟨_,_,hs,hk⟩) (λ_ _ hs hy=> .inr ⟨_,hs,hy⟩) (Pr.on_bind.1 hk)⟩) (λ_ _ hs hy=> .inr ⟨_,hs,hy⟩) (Pr.on_bind.1 hx)
   refine df e10 ?_;omega
  |false=>
   rw[hb,An (by decide)]at hx
   obtain⟨n,hn⟩:=Ji hd hl r (pre++[s]) j (by rw[hw,AaG];rfl) (by rw[It];show Pr.on (match Z8 l r (((pre.length+1:Nat):Int)+1) j with|some o=>_|none=>_) _ _;rw[show((pre.length+1:Nat):Int)=(pre.length:Int)+1 by omega];exact hx)
   refine⟨n+1,?_⟩;rw[fe];refine yD hl4▸⟨zI hl4,_,_,hs,?_⟩;rw[hat,om,hb,An (by decide),cH (by omega)]
   rw[It]at hn
   exact bf rfl hn
theorem zf0(hd:Ze l)(j:Nat):Lt qZ [Ac3] (Yg l en goal mvar pv pc names) (oR l en) j (λx=>dCF x) (zfY yG tE names l j):=
 bW (ND _ _ _ _ _ _ _ _) (NF _ _ _ _ _ _ _ _) λok ok2 R T hx=>by
  rw[Lj];exact zG (t:=.list .str) zaq (Ji hd (Ur ok2) NW [] j rfl hx)
end
end Go.Proofs.YtdnmkinmcdihnaaGreatDoor
namespace Go.Proofs.YtdnmkinmcdihnaaGreatDoor
open Go.Proofs.Tryz
open Go.RowKit
variable[Lo]
section
variable(isName:AcL->Bool)(tE:AcL->Int)(l:AcX)
def zar(j:Nat):Pr zO:=(TR isName l j).bind λs j=>(tN l [⟨#[58]⟩] (j+1)).bind λ_ j=>(kP tE l j).bind λa j=>(tN l [⟨#[46,46]⟩] j).bind λ_ j=>(kP tE l j).bind λb j=>(tN l [⟨#[59]⟩] j).bind λ_ j=> .ok ⟨s,a,b⟩ j
def Ut(names:List (AcL×Int))(s:AcL)(i:Int):List (AcL×Int):=if MB .str .int s names=true then names else rB .str .int s i names
def BD:Nat->AcU->List (AcL×Int)->Nat->Pr (AcU×List (AcL×Int))
 |0,vs,ns,j=> .err j 1
 |n+1,vs,ns,j=>if sT l ⟨#[118,97,114]⟩ j=true then(zar isName tE l (j+1)).bind λv j=>BD n (vs++[v]) (Ut ns v.name vs.length) j else .ok (vs,ns) j
def Mk(ns:List (AcL×Int)):Nat->AcV->Nat->Pr AcV
 |0,cs,j=> .err j 1
 |n+1,cs,j=>if sT l ⟨#[99,111,110]⟩ j=true then(zfY isName tE ns l (j+1)).bind λc j=>(tN l [⟨#[59]⟩] j).bind λ_ j=>Mk ns n (cs++[c]) j else .ok cs j
def PV{α:Type}(x:α)(j:Nat):Pr α:=(tN l [⟨#[59]⟩] j).bind λ_ j=>if j<l.length then .err j 1 else .ok x j
def PW(ns:List (AcL×Int))(j:Nat):Pr (Int×Int):=(tN l [⟨#[115,111,108,118,101]⟩] j).bind λ_ j=>
 if sT l ⟨#[97,110,121]⟩ j=true then PV l (0,0) (j+1)
 else if sT l ⟨#[108,101,97,115,116]⟩ j=true then(vP isName ns l (j+1)).bind λv j=>PV l (1,v) j
 else(tN l [⟨#[109,111,115,116]⟩] j).bind λ_ j=>(vP isName ns l j).bind λv j=>PV l (2,v) j
def YI:Pr (zE×List (AcL×Int)):=(BD isName tE l (l.length+1) [] [] 0).bind λx j=>(Mk isName tE l x.2 (l.length+1) [] j).bind λcs j=>(PW isName l x.2 j).bind λg j=> .ok (⟨x.1,cs,g.1,g.2⟩,x.2) j
end
end Go.Proofs.YtdnmkinmcdihnaaGreatDoor
namespace Go.Proofs.YtdnmkinmcdihnaaGreatDoor
open Go.Proofs.Tryz
open Go.RowKit
variable[Lo]
section
variable {l:AcX}{en:Int}
theorem SN{pv:AcU}{pc:AcV}{names:List (AcL×Int)}{R:D->List (Nat×yE)->Prop}{T:Value->Prop}{x:Int×Int}{j:Nat}
  (hx:(PV l x j).on (λg j'=>R (.tup []) (Yg l en g.1 g.2 pv pc names j')) λj' e=>T (flt (oR l en j') e)):
  (∃n35:Int,xT zK [Ac3,.sl .str ([(⟨#[59]⟩:AcL)])] (Yg l en x.1 x.2 pv pc names j) (.tup []) (zfZ l en x.1 x.2 pv pc names n35)/\zT (decide (n35<(l.length:Int)))
   ((xT zQ [Ac3,dI 1] (zfZ l en x.1 x.2 pv pc names n35) (.tup []) (zfZ l en x.1 x.2 pv pc names n35)/\R (.tup []) (zfZ l en x.1 x.2 pv pc names n35))\/
    ∃u,nP zQ [Ac3,dI 1] (zfZ l en x.1 x.2 pv pc names n35) u/\T u) (R (.tup []) (zfZ l en x.1 x.2 pv pc names n35)))\/
  ∃u,nP zK [Ac3,.sl .str ([(⟨#[59]⟩:AcL)])] (Yg l en x.1 x.2 pv pc names j) u/\T u:=by
 rw[PV,Pr.on_bind]at hx
 refine(tA j _).call (λ_ j' hs hk=> .inl ⟨_,hs,?_⟩) (λ_ _ hs hy=> .inr ⟨_,hs,hy⟩) hx
 by_cases h:j'<l.length
 ·rw[As h]at hk
  exact dt (by omega) (.inr ⟨_,qC j' 1,hk⟩)
 ·rw[An h]at hk
  exact df (by omega) hk
theorem zdK(hd:Ze l){pv:AcU}{pc:AcV}{names:List (AcL×Int)}{R:D->List (Nat×yE)->Prop}{T:Value->Prop}(j:Nat)(hb:sT l ⟨#[99,111,110]⟩ j=false)
  (hx:(PW yG l names j).on (λg j'=>R (.tup []) (Yg l en g.1 g.2 pv pc names j')) λj' e=>T (flt (oR l en j') e)):oQ R T 1 l (j:Int) en 0 0 names pv pc:=by
 rw[oY];refine⟨_,_,xQ j _,?_⟩;rw[om,hb,An (by decide)]
 refine bf rfl ?_;rw[PW,Pr.on_bind]at hx
 refine(tA j _).call (λ_ j1 hs hk=> .inl ⟨_,hs,_,_,xQ j1 _,?_⟩) (λ_ _ hs hy=> .inr ⟨_,hs,hy⟩) hx
 rw[om];cases h1:sT l ⟨#[97,110,121]⟩ j1 with
 |true=>
  rw[h1,As rfl]at hk
  rw[As rfl];exact bt rfl (SN (x:=(0,0)) hk)
 |false=>
  rw[h1,An (by decide)]at hk
  rw[An (by decide)]
  refine bf rfl ⟨_,_,xQ j1 _,?_⟩;rw[om];cases h2:sT l ⟨#[108,101,97,115,116]⟩ j1 with
  |true=>
   rw[h2,As rfl]at hk
   rw[As rfl];exact bt rfl ((YH (j1+1)).call (λv _ hs hk=> .inl ⟨_,_,hs,SN (x:=(1,v)) hk⟩) (λ_ _ hs hy=> .inr ⟨_,hs,hy⟩) (Pr.on_bind.1 hk))
  |false=>
   rw[h2,An (by decide)]at hk
   rw[An (by decide)]
   exact bf rfl ((tA j1 _).call (λ_ j2 hs hk=> .inl ⟨_,hs,(YH j2).call (λv _ hs hk=> .inl ⟨_,_,hs,SN (x:=(2,v)) hk⟩) (λ_ _ hs hy=> .inr ⟨_,hs,hy⟩) (Pr.on_bind.1 hk)⟩) (λ_ _ hs hy=> .inr ⟨_,hs,hy⟩) (Pr.on_bind.1 hk))
theorem oD{α β:Type}{r:Pr α}{f:α->Nat->Pr β}{x:β}{j:Nat}(h:r.bind f=.ok x j):∃y k,r=.ok y k/\f y k=.ok x j:=by
 cases r
 ·exact⟨_,_,rfl,h⟩
 ·cases h
theorem zf1:∀ {r:Ac1} {i:Int} {j:Nat} {o:Int},Z8 l r i j=some o->j<l.length
 |[],i,j,o,h=>by cases h
 |s::r,i,j,o,h=>by
  unfold Z8 at h
  split at h
  ·rename_i hb;exact oS hb
  ·exact zf1 h
theorem HA{isN:AcL->Bool}{names:List (AcL×Int)}{n:Nat}{acc:AcP}{j:Nat}{xs:AcP}{j':Nat}(h:TS isN names l (n+1) acc j=.ok xs j'):j<j'/\j'<=l.length:=by
 have h1:=BC _ _ _ _ _ h;unfold TS at h
 obtain⟨x,k,h2,h3⟩:=oD h;have:=RH _ _ _ h2;have:=BC _ _ _ _ _ h3;omega
theorem zo6{isN:AcL->Bool}{nv:AcL->Int}{names:List (AcL×Int)}{o:Int}{i j:Nat}{x:zF}(h:Qi isN nv names l o i=.ok x j):i<j/\j<=l.length:=by
 unfold Qi at h
 split at h
 ·obtain⟨_,_,h1,h⟩:=oD h;obtain⟨_,_,h2,h⟩:=oD h;obtain⟨_,_,h3,h⟩:=oD h
  injection h with _ h
  have:=gG PT _ _ _ h1;have:=gG RH _ _ _ h2;have:=PT _ _ _ h3;omega
 split at h
 ·obtain⟨_,_,h1,h⟩:=oD h
  injection h with _ h
  have:=gG RH _ _ _ h1;omega
 split at h
 ·obtain⟨_,_,h1,h⟩:=oD h;obtain⟨_,_,h2,h⟩:=oD h
  injection h with _ h
  have:=gG PT _ _ _ h1;have:=HA h2;omega
 split at h
 ·obtain⟨_,_,h1,h⟩:=oD h;obtain⟨_,_,h2,h⟩:=oD h
  injection h with _ h
  have:=gG RH _ _ _ h1;have:=gG (gG PT) _ _ _ h2;omega
 split at h
 ·obtain⟨_,_,h1,h⟩:=oD h
  injection h with _ h
  have:=HA h1;omega
 split at h
 ·obtain⟨_,_,h1,h⟩:=oD h;obtain⟨_,_,h2,h⟩:=oD h
  injection h with _ h
  have:=RH _ _ _ h1;have:=gG RH _ _ _ h2;omega
 split at h
 ·obtain⟨_,_,h1,h⟩:=oD h
  injection h with _ h
  have:=gG EB _ _ _ h1;omega
 ·obtain⟨_,_,h1,h⟩:=oD h;obtain⟨_,_,h2,h⟩:=oD h
  injection h with _ h
  have:=HA h1;have:=EB _ _ _ h2;omega
theorem zrG{isN:AcL->Bool}{nv:AcL->Int}{names:List (AcL×Int)}{i j:Nat}{x:zF}(h:zfY isN nv names l i=.ok x j):i+2<=j/\j<=l.length:=by
 unfold zfY at h
 split at h
 ·rename_i o ho
  have:=zf1 ho;have:=zo6 h;omega
 ·cases h
theorem Ml(hd:Ze l)(hl:l.length*32<=140737488355328){pv:AcU}{names:List (AcL×Int)}{R:D->List (Nat×yE)->Prop}{T:Value->Prop}:∀(fuel:Nat) (cs:AcV) (j:Nat),j<=l.length->l.length<j+fuel->cs.length*4<=j->
  (((Mk yG tE l names fuel cs j).bind λcs j=>(PW yG l names j).bind λg j=> .ok (cs,g) j).on (λx j'=>R (.tup []) (Yg l en x.2.1 x.2.2 pv x.1 names j')) λj' e=>T (flt (oR l en j') e))->
  ∃n,oQ R T n l (j:Int) en 0 0 names pv cs
 |0,cs,j,h1,h2,_,_=>by omega
 |fuel+1,cs,j,h1,h2,h3,hx=>by
  rw[Mk]at hx
  cases hb:sT l ⟨#[99,111,110]⟩ j with
  |false=>
   rw[hb,An (by decide)]at hx
   have hx:((PW yG l names j).bind λg j=>Pr.ok (cs,g) j).on _ _:=hx
   rw[Pr.on_bind]at hx
   exact⟨1,zdK hd j hb hx⟩
  |true=>
   rw[hb,As rfl]at hx
   have hlt:=oS hb;have hq:=zf0 (l:=l) (en:=en) (goal:=0) (mvar:=0) (pv:=pv) (pc:=cs) (names:=names) hd (j+1);cases hc:zfY yG tE names l (j+1)with
   |err i e=>
    rw[hc]at hq hx
    refine⟨1,?_⟩;rw[oY];refine⟨_,_,xQ j _,?_⟩;rw[om,hb,As rfl];exact bt rfl (.inr ⟨_,hq,hx⟩)
   |ok c i=>
    rw[hc]at hq hx
    have ha:=zrG hc;have hn:=tA (l:=l) (en:=en) (goal:=0) (mvar:=0) (pv:=pv) (pc:=cs) (names:=names) i [⟨#[59]⟩];have hx:(((tN l [⟨#[59]⟩] i).bind λ_ j=>Mk yG tE l names fuel (cs++[c]) j).bind λcs j=>(PW yG l names j).bind λg j=>Pr.ok (cs,g) j).on _ _:=hx
    rw[tN,tN]at hn hx
    cases hs:sT l ⟨#[59]⟩ i with
    |false=>
     rw[hs,An (by decide)]at hn hx
     refine⟨1,?_⟩;rw[oY];refine⟨_,_,xQ j _,?_⟩;rw[om,hb,As rfl];exact bt rfl (.inl ⟨_,_,hq,.inr ⟨_,hn,hx⟩⟩)
    |true=>
     rw[hs,As rfl]at hn hx
     have hi:=oS hs;obtain⟨n,hr⟩:=Ml hd hl fuel (cs++[c]) (i+1) (by omega) (by omega) (by rw[It];show(_+1)*4<=_;omega) hx
     refine⟨n+1,?_⟩;rw[oY];refine⟨_,_,xQ j _,?_⟩;rw[om,hb,As rfl];exact bt rfl (.inl ⟨_,_,hq,.inl ⟨_,hn,xC (t:=.fr .con) (by show(cs.length+1)*112<=_;omega),hr⟩⟩)
end
end Go.Proofs.YtdnmkinmcdihnaaGreatDoor
namespace Go.Proofs.YtdnmkinmcdihnaaGreatDoor
open Go.Proofs.Tryz
open Go.RowKit
variable[Lo]
section
variable {l:AcX}{en:Int}
theorem BE{s:AcL}{j k:Nat}{u:Unit}(h:tN l [s] j=.ok u k):k=j+1/\j<l.length:=by
 rw[tN,tN]at h
 split at h
 ·rename_i hb
  have:=oS hb;injection h with _ h
  omega
 ·cases h
theorem zrH{isN:AcL->Bool}{j k:Nat}{s:AcL}(h:TR isN l j=.ok s k):k=j/\j<l.length:=by
 unfold TR at h
 split at h
 ·rename_i hc;injection h with _ h;exact⟨h.symm,hc.1⟩
 ·cases h
theorem zrI{isN:AcL->Bool}{nv:AcL->Int}{i j:Nat}{x:zO}(h:zar isN nv l i=.ok x j):i<j/\j<=l.length:=by
 unfold zar at h
 obtain⟨_,_,h1,h⟩:=oD h;obtain⟨_,_,h2,h⟩:=oD h;obtain⟨_,_,h3,h⟩:=oD h;obtain⟨_,_,h4,h⟩:=oD h;obtain⟨_,_,h5,h⟩:=oD h;obtain⟨_,_,h6,h⟩:=oD h;injection h with _ h
 have:=zrH h1;have:=BE h2;have:=PT _ _ _ h3;have:=BE h4;have:=PT _ _ _ h5;have:=BE h6;omega
theorem zf2{s:AcL}{i:Int}:∀es:List (AcL×Int),(rB .str .int s i es).length<=es.length+1
 |[]=>IN _
 |(a,b)::r=>by
  have ih:=zf2 (s:=s) (i:=i) r;unfold rB;cases MA .str s a with
  |true=>rw[AI];simp
  |false=>rw[Aag];simp only[By];omega
theorem zf3{s:AcL}{i:Int}{es:List (AcL×Int)}:(Ut es s i).length<=es.length+1:=by
 unfold Ut;split
 ·omega
 ·exact zf2 es
theorem Mm(hd:Ze l)(hl:l.length*32<=140737488355328){R:D->List (Nat×yE)->Prop}{T:Value->Prop}:∀(fuel:Nat) (vs:AcU) (ns:List (AcL×Int)) (j:Nat),j<=l.length->l.length<j+fuel->vs.length<=j->ns.length<=vs.length->
  (((BD yG tE l fuel vs ns j).bind λx j=>(Mk yG tE l x.2 (l.length+1) [] j).bind λcs j=>(PW yG l x.2 j).bind λg j=> .ok (x,cs,g) j).on (λy j'=>R (.tup []) (Yg l en y.2.2.1 y.2.2.2 y.1.1 y.2.1 y.1.2 j')) λj' e=>T (flt (oR l en j') e))->
  ∃n,uV R T n l (j:Int) en 0 0 ns vs []
 |0,vs,ns,j,h1,h2,_,_,_=>by omega
 |fuel+1,vs,ns,j,h1,h2,h3,h4,hx=>by
  rw[BD]at hx
  cases hb:sT l ⟨#[118,97,114]⟩ j with
  |false=>
   rw[hb,An (by decide)]at hx
   have hx:((Mk yG tE l ns (l.length+1) [] j).bind λcs j=>(PW yG l ns j).bind λg j=>Pr.ok ((vs,ns),cs,g) j).on _ _:=hx
   refine⟨1,?_⟩;rw[Zd];refine⟨_,_,xQ j _,?_⟩;rw[om,hb,An (by decide)]
   refine bf rfl (Ml hd hl (l.length+1) [] j h1 (by omega) (Is _) ?_)
   rw[Pr.on_bind]at hx⊢
   refine Pr.on_mono hx (λcs j' h=> ?_) λ_ _ h=>h
   rw[Pr.on_bind]at h⊢
   exact h
  |true=>
   rw[hb,As rfl]at hx
   have hlt:=oS hb
   obtain⟨n,hn⟩:∃n,∀v i,zar yG tE l (j+1)=.ok v i->uV R T n l (i:Int) en 0 0 (Ut ns v.name vs.length) (vs++[v]) []:=by
    cases hv:zar yG tE l (j+1)with
    |ok v i=>
     rw[hv]at hx
     have ha:=zrI hv;have:=zf3 (s:=v.name) (i:=vs.length) (es:=ns);obtain⟨n,hr⟩:=Mm hd hl fuel (vs++[v]) (Ut ns v.name vs.length) i ha.2 (by omega) (by rw[It];show _+1<=_;omega) (by rw[It];show _<=_+1;omega) hx
     exact⟨n,λv' i' e=>by injection e with e1 e2;subst e1 e2;exact hr⟩
    |err i e=>exact⟨0,λ_ _ e=>by cases e⟩
   have hy:(zar yG tE l (j+1)).on (λv i=>uV R T n l (i:Int) en 0 0 (Ut ns v.name vs.length) (vs++[v]) []) λj' e=>T (flt (oR l en j') e):=by
    cases hv:zar yG tE l (j+1)with
    |ok v i=>exact hn _ _ hv
    |err i e=>rw[hv]at hx;exact hx
   refine⟨n+1,?_⟩;rw[Zd];refine⟨_,_,xQ j _,?_⟩;rw[om,hb,As rfl];rw[zar,Pr.on_bind,TR]at hy
   have hq:=Je (l:=l) (en:=en) (goal:=0) (mvar:=0) (pv:=vs) (pc:=[]) (names:=ns) (j+1);rw[TR]at hq
   refine bt rfl ?_
   by_cases hc:j+1<l.length/\yG (dP l (j+1)).text=true
   ·rw[As hc]at hq hy
    refine .inl ⟨_,hq,?_⟩;rw[cH (by omega)]
    have hy:Pr.on (Pr.bind (tN l [⟨#[58]⟩] (j+1+1)) _) _ _:=hy;refine(tA _ _).call (λ_ _ hs hk=> .inl ⟨_,hs,(Zf hd _).call (λa _ hs hk=> .inl ⟨_,_,hs,(tA _ _).call (λ_ _ hs hk=> .inl ⟨_,hs,(Zf hd _).call (λb _ hs hk=> .inl ⟨_,_,hs,(tA _ _).call (λ_ k hs hk=> .inl ⟨_,hs,?_⟩) (λ_ _ hs hy=> .inr ⟨_,hs,hy⟩) (Pr.on_bind.1 hk)⟩) (λ_ _ hs hy=> .inr ⟨_,hs,hy⟩) (Pr.on_bind.1 hk)⟩) (λ_ _ hs hy=> .inr ⟨_,hs,hy⟩) (Pr.on_bind.1 hk)⟩) (λ_ _ hs hy=> .inr ⟨_,hs,hy⟩) (Pr.on_bind.1 hk)⟩) (λ_ _ hs hy=> .inr ⟨_,hs,hy⟩) (Pr.on_bind.1 hy)
    have hk:uV R T n l (k:Int) en 0 0 (Ut ns (dP l (j+1)).text vs.length) (vs++[⟨(dP l (j+1)).text,a,b⟩]) []:=hk;have hr:yX (.fr .var) (vs.length+[(⟨(dP l (j+1)).text,a,b⟩:zO)].length)=true:=xC (t:=.fr .var) (by show(vs.length+1)*32<=_;omega)
    unfold Ut at hk
    cases hm:MB .str .int (dP l (j+1)).text ns with
    |true=>
     rw[hm,As rfl]at hk
     exact bnf rfl ⟨hr,hk⟩
    |false=>
     rw[hm,An (by decide)]at hk
     exact bnt rfl ⟨Aaf (by omega),hr,hk⟩
   ·rw[An hc]at hq hy
    exact .inr ⟨_,hq,hy⟩
theorem zas(hd:Ze l):match YI yG tE l with
  | .ok (m,ns) j=>xT pJ [Ac3] (Yg l en 0 0 [] [] [] 0) (.tup []) (Yg l en m.goal m.var m.vars m.cons ns j)
  | .err j e=>nP pJ [Ac3] (Yg l en 0 0 [] [] [] 0) (flt (oR l en j) e):=by
 have hx:∀(R:D->List (Nat×yE)->Prop) (T:Value->Prop),(YI yG tE l).on (λx j'=>R (.tup []) (Yg l en x.1.goal x.1.var x.1.vars x.1.cons x.2 j')) (λj' e=>T (flt (oR l en j') e))->
   (∀k o,zW k (Yg l en 0 0 [] [] [] 0)=some o->okO o)->FXM tM f79 [Ac3] (Yg l en 0 0 [] [] [] 0) [Ac3] false R T:=λR T h ok2=>by
  refine(PE l 0 en 0 0 [] [] [] R T)▸ ?_;refine Mm hd (Ur ok2) (l.length+1) [] [] 0 (Is _) (by omega) (IN _) (IN _) ?_
  rw[YI,Pr.on_bind]at h
  rw[Pr.on_bind];refine Pr.on_mono h (λx j h=> ?_) λ_ _ h=>h
  rw[Pr.on_bind]at h⊢
  refine Pr.on_mono h (λcs j h=> ?_) λ_ _ h=>h
  rw[Pr.on_bind]at h⊢
  exact h
 cases hm:YI yG tE l with
 |ok x j=>
  obtain⟨m,ns⟩:=x;exact R8 _ _ _ _ _ _ _ _ λok ok2=>hx _ _ (by rw[hm];exact⟨rfl,rfl⟩) ok2
 |err j e=>exact R9 _ _ _ _ _ _ _ _ λok ok2=>hx _ _ (by rw[hm];exact rfl) ok2
end
end Go.Proofs.YtdnmkinmcdihnaaGreatDoor
namespace Go.Proofs.YtdnmkinmcdihnaaGreatDoor
open Go.Proofs.Tryz
open Go.RowKit
variable[Lo]
def HD:zE:=⟨[],[],0,0⟩
abbrev dMF(m:zE):D:=.agg [.sl (.fr .var) m.vars,.sl (.fr .con) m.cons,dI m.goal,dI m.var]
abbrev dR(x:zE×Int×Int):D:=.tup [dMF x.1,dI x.2.1,dI x.2.2]
def zh8:xF:= {own:=[],live:=[],n:=22,first:=true}
structure zo7 (w0 w:World)(p q r:Nat)(a e:Int):Prop where
 below:rE w0.heap.size (λb=>b=p\/b=q\/b=r) w0 w
 m:∃vs T,w.heap[p]? =some (.cells vs T (0,0))/\vs.size=4/\∀i d,[D.sl (.fr .var) ([]:AcU),D.sl (.fr .con) ([]:AcV),dI 0,dI 0][i]? =some d->Rp w (λb=>w0.heap.size<=b/\b<w.heap.size) (vs.getD i undef) d
 at_:∃T,w.heap[q]? =some (.cells #[.int .i64 a] T (0,0))
 e:∃T,w.heap[r]? =some (.cells #[.int .i64 e] T (0,0))
theorem zmI(a e:Int)(Q:Ex->Option yE->Option yE->Option yE->Prop):den prog EvM zh8 (sub [1,1,0,1,1] (vB f78)) 0 ⟨[(0,Ac3),(1,.ptr 1001 0),(2,.ptr 1002 0),(4,.ptr 3000 0)],[(1000,yE.cells [D.sl (.fr .var) ([]:AcU),D.sl (.fr .con) ([]:AcV),dI 0,dI 0]),(1001,yE.cells [dI 0]),(1002,yE.cells [dI 0]),(3000,yE.cells [dI a,dI e])]⟩ (λx σ=>Q x (zW 1000 σ.hp) (zW 1001 σ.hp) (zW 1002 σ.hp))=(λp:Prop=>((((p)/\((p)/\p)))/\(((p)/\p))/\((p)/\p))) (Q .normal (some (yE.cells [D.sl (.fr .var) ([]:AcU),D.sl (.fr .con) ([]:AcV),dI 0,dI 0])) (some (yE.cells [dI a])) (some (yE.cells [dI e]))):=by kernel_rfl
theorem zo8{w:World}{S:Nat->Prop}(t:Ty):Rp w S (.slice none 0 0) (.sl t []):=
 Oc.sl (t:=t) ⟨none,0,rfl,by simp,by simp,by simp,λ_=>rfl,λhn=>At hn (by simp)⟩
abbrev BF(a e:Int):Value:=.iface 154 (.agg #[.int .i64 a,.int .i64 e])
abbrev kA(b:Nat):Value:=.pointer (some ⟨b,0,none⟩)
theorem zh9{a e:Int}{w0 w:World}{act:Act}{p q r k:Nat}{Tp Tq Tr Tk:AcN}(dz:act.defers=[])(sz:act.tmps.size=22)
  (t0:act.tmps.getD 0 undef=kA p) (t1:act.tmps.getD 1 undef=kA q) (t2:act.tmps.getD 2 undef=kA r) (t4:act.tmps.getD 4 undef=kA k)
  (hp:w.heap[p]? =some (.cells #[.slice none 0 0,.slice none 0 0,.int .i64 0,.int .i64 0] Tp (0,0))) (hq:w.heap[q]? =some (.cells #[.int .i64 0] Tq (0,0))) (hr:w.heap[r]? =some (.cells #[.int .i64 0] Tr (0,0)))
  (hk:w.heap[k]? =some (.cells #[.int .i64 a,.int .i64 e] Tk (0,0))) (ha:xE a) (he:xE e)
  (lp:p<w0.heap.size) (lq:q<w0.heap.size) (lr:r<w0.heap.size) (lk:w0.heap.size<=k) (hpq:p≠q) (hpr:p≠r) (hqr:q≠r)
  (hb:rE w0.heap.size (λb=>b=p\/b=q\/b=r) w0 w) (hg:Ee prog w0 (λb=>b=p\/b=q\/b=r)):
  (sub [1,1,0,1,1] (vB f78)).wp prog (λx a' w'=>x=.normal/\a'.defers=[]/\zo7 w0 w' p q r a e) act w:=by
 have lt:∀ {b:Nat} {o:Obj},w.heap[b]? =some o->b<w.heap.size:=λh=>(Abd.1 h).1
 let pl:Nat->Value:=λi=>if i=1000 then kA p else if i=1001 then kA q else if i=1002 then kA r else kA k
 let b0:Yo:=⟨w0,λ_=>False,λb=>b=p\/b=q\/b=r,pl⟩
 let Q:Ex->Option yE->Option yE->Option yE->Prop:=λx m1 m2 m3=>x=.normal/\m1=some (yE.cells [D.sl (.fr .var) ([]:AcU),D.sl (.fr .con) ([]:AcV),dI 0,dI 0])/\m2=some (yE.cells [dI a])/\m3=some (yE.cells [dI e])
 have hden:den prog EvM zh8 (sub [1,1,0,1,1] (vB f78)) 0 ⟨[(0,Ac3),(1,.ptr 1001 0),(2,.ptr 1002 0),(4,.ptr 3000 0)],[(1000,yE.cells [D.sl (.fr .var) ([]:AcU),D.sl (.fr .con) ([]:AcV),dI 0,dI 0]),(1001,yE.cells [dI 0]),(1002,yE.cells [dI 0]),(3000,yE.cells [dI a,dI e])]⟩ (λx σ=>Q x (zW 1000 σ.hp) (zW 1001 σ.hp) (zW 1002 σ.hp)):=by
  rw[zmI];have h:Q .normal (some (yE.cells [D.sl (.fr .var) ([]:AcU),D.sl (.fr .con) ([]:AcV),dI 0,dI 0])) (some (yE.cells [dI a])) (some (yE.cells [dI e])):=⟨rfl,rfl,rfl,rfl⟩;exact⟨⟨h,h,h⟩,⟨h,h⟩,h,h⟩
 have hlook:∀j o,zW j ([(1000,yE.cells [D.sl (.fr .var) ([]:AcU),D.sl (.fr .con) ([]:AcV),dI 0,dI 0]),(1001,yE.cells [dI 0]),(1002,yE.cells [dI 0]),(3000,yE.cells [dI a,dI e])]:List (Nat×yE))=some o->
   (j=1000/\o=yE.cells [D.sl (.fr .var) ([]:AcU),D.sl (.fr .con) ([]:AcV),dI 0,dI 0])\/(j=1001/\o=yE.cells [dI 0])\/(j=1002/\o=yE.cells [dI 0])\/(j=3000/\o=yE.cells [dI a,dI e]):=λj o h=>by
  simp only[xM]at h
  split at h
  ·injection h with h;exact .inl ⟨by omega,h.symm⟩
  split at h
  ·injection h with h;exact .inr (.inl ⟨by omega,h.symm⟩)
  split at h
  ·injection h with h;exact .inr (.inr (.inl ⟨by omega,h.symm⟩))
  split at h
  ·injection h with h;exact .inr (.inr (.inr ⟨by omega,h.symm⟩))
  ·cases h
 have hob:∀j o b,zW j ([(1000,yE.cells [D.sl (.fr .var) ([]:AcU),D.sl (.fr .con) ([]:AcV),dI 0,dI 0]),(1001,yE.cells [dI 0]),(1002,yE.cells [dI 0]),(3000,yE.cells [dI a,dI e])]:List (Nat×yE))=some o->sR (pl j)=some b->
   (j=1000/\b=p)\/(j=1001/\b=q)\/(j=1002/\b=r)\/(j=3000/\b=k):=λj o b h h2=>by
  rcases hlook j o h with⟨rfl,_⟩|⟨rfl,_⟩|⟨rfl,_⟩|⟨rfl,_⟩<;>simp[pl,sR]at h2<;>simp[h2]
 have m:tF prog b0 22 ⟨[(0,Ac3),(1,.ptr 1001 0),(2,.ptr 1002 0),(4,.ptr 3000 0)],[(1000,yE.cells [D.sl (.fr .var) ([]:AcU),D.sl (.fr .con) ([]:AcV),dI 0,dI 0]),(1001,yE.cells [dI 0]),(1002,yE.cells [dI 0]),(3000,yE.cells [dI a,dI e])]⟩ act w (λ_=>False) pl:=by
  refine⟨dz,sz,λi=> ?_,λj o h=> ?_,λb h=>h.elim,λb h=>h.elim,λj o b h h2=> ?_,λj j' o o' b h h' h1 h2=> ?_,hb,λ_ _=>rfl,hg⟩
  ·show Rd w _ pl _ (D.or (zW i [(0,D.ptr 1000 0),(1,.ptr 1001 0),(2,.ptr 1002 0),(4,.ptr 3000 0)]))
   simp only[xM];split
   ·rename_i h;subst h;exact⟨p,rfl,t0⟩
   split
   ·rename_i h;subst h;exact⟨q,rfl,t1⟩
   split
   ·rename_i h;subst h;exact⟨r,rfl,t2⟩
   split
   ·rename_i h;subst h;exact⟨k,rfl,t4⟩
   ·exact tD
  ·rcases hlook j o h with⟨rfl,rfl⟩|⟨rfl,rfl⟩|⟨rfl,rfl⟩|⟨rfl,rfl⟩
   ·refine⟨p,_,_,rfl,hp,rfl,λi d hd=> ?_,λe=>by cases e⟩
    match i,hd with
    |0,hd=>injection hd with hd;subst hd;exact Rp.rd (zo8 (.fr .var))
    |1,hd=>injection hd with hd;subst hd;exact Rp.rd (zo8 (.fr .con))
    |2,hd=>injection hd with hd;subst hd;exact Rp.rd (.int_mk (by unfold xE;omega))
    |3,hd=>injection hd with hd;subst hd;exact Rp.rd (.int_mk (by unfold xE;omega))
   ·refine⟨q,_,_,rfl,hq,rfl,λi d hd=> ?_,λe=>by cases e⟩
    match i,hd with
    |0,hd=>injection hd with hd;subst hd;exact Rp.rd (.int_mk (by unfold xE;omega))
   ·refine⟨r,_,_,rfl,hr,rfl,λi d hd=> ?_,λe=>by cases e⟩
    match i,hd with
    |0,hd=>injection hd with hd;subst hd;exact Rp.rd (.int_mk (by unfold xE;omega))
   ·refine⟨k,_,_,rfl,hk,rfl,λi d hd=> ?_,λe=>by cases e⟩
    match i,hd with
    |0,hd=>injection hd with hd;subst hd;exact Rp.rd (.int_mk ha)
    |1,hd=>injection hd with hd;subst hd;exact Rp.rd (.int_mk he)
  ·rcases hob j o b h h2 with⟨_,rfl⟩|⟨_,rfl⟩|⟨_,rfl⟩|⟨_,rfl⟩
   ·exact⟨.inl (.inl rfl),lt hp,id⟩
   ·exact⟨.inl (.inr (.inl rfl)),lt hq,id⟩
   ·exact⟨.inl (.inr (.inr rfl)),lt hr,id⟩
   ·exact⟨.inr lk,lt hk,id⟩
  ·rcases hob j o b h h1 with⟨rfl,e1⟩|⟨rfl,e1⟩|⟨rfl,e1⟩|⟨rfl,e1⟩<;>rcases hob j' o' b h' h2 with⟨rfl,e2⟩|⟨rfl,e2⟩|⟨rfl,e2⟩|⟨rfl,e2⟩<;>first|rfl|(exfalso;subst e1;omega)
 refine wp_mono (zcP PD (A:=zh8) (b0:=b0) _ 0 _ _ act w hden ⟨_,_,m⟩) λx a' w' h=> ?_
 rcases h with⟨x',σ,hx,⟨rfl,h1,h2,h3⟩,S',pl',m'⟩|⟨u,σ,_,⟨h,_⟩,_⟩
 ·have hx:x=.normal:=by cases x<;>simp[Ni]at hx⊢
  refine⟨hx,m'.dz,m'.below,?_,?_,?_⟩
  ·obtain⟨b,vs,T,e1,e2,e3,e4,_⟩:=m'.hp _ _ h1
   have:pl' 1000=kA p:=m'.stay 1000 rfl;rw[this]at e1;injection e1 with e1;injection e1 with e1;injection e1 with e1;subst e1
   refine⟨vs,T,e2,e3,λi d hd=> ?_⟩
   have:=e4 i d hd
   have hf:d.ref=none:=by
    match i,hd with
    |0,hd=>injection hd with hd;subst hd;rfl
    |1,hd=>injection hd with hd;subst hd;rfl
    |2,hd=>injection hd with hd;subst hd;rfl
    |3,hd=>injection hd with hd;subst hd;rfl
   refine(this.flat hf).mono (λ_ _=>rfl) λb hS=>⟨?_,m'.lt b hS⟩
   rcases m'.src b hS with h|h|h
   ·exact h.elim
   ·exfalso
    have:∃j o,zW j σ.hp=some o/\sR (pl' j)=some b:=by
     rcases h with rfl|rfl|rfl
     ·exact⟨1000,_,h1,by rw[m'.stay 1000 rfl];rfl⟩
     ·exact⟨1001,_,h2,by rw[m'.stay 1001 rfl];rfl⟩
     ·exact⟨1002,_,h3,by rw[m'.stay 1002 rfl];rfl⟩
    obtain⟨j,o,q1,q2⟩:=this;exact(m'.priv j o b q1 q2).2.2 hS
   ·exact h
  ·obtain⟨b,vs,T,e1,e2,e3,e4,_⟩:=m'.hp _ _ h2
   have:pl' 1001=kA q:=m'.stay 1001 rfl;rw[this]at e1;injection e1 with e1;injection e1 with e1;injection e1 with e1;subst e1
   have h0:=((e4 0 _ rfl).flat (d:=dI a) rfl).int_inv.1;refine⟨T,?_⟩;rw[e2]
   congr 2
   have e3:vs.size=1:=e3;apply Array.ext
   ·simpa using e3
   ·intro i i1 i2
    have:i=0:=by omega
    subst this;rw[Aaj,AaW i1]at h0
    simpa using h0
  ·obtain⟨b,vs,T,e1,e2,e3,e4,_⟩:=m'.hp _ _ h3
   have:pl' 1002=kA r:=m'.stay 1002 rfl;rw[this]at e1;injection e1 with e1;injection e1 with e1;injection e1 with e1;subst e1
   have h0:=((e4 0 _ rfl).flat (d:=dI e) rfl).int_inv.1;refine⟨T,?_⟩;rw[e2]
   congr 2
   have e3:vs.size=1:=e3;apply Array.ext
   ·simpa using e3
   ·intro i i1 i2
    have:i=0:=by omega
    subst this;rw[Aaj,AaW i1]at h0
    simpa using h0
 ·cases h
set_option maxRecDepth 100000 in
theorem F0(p q r:Nat)(w:World):CallsD prog 78 #[kA p,kA q,kA r] .returning w λen u' w'=>en=.returned (.tuple #[])/\u'=.returning/\w'=w:=by
 refine callsD_of_wpS func78 rfl λc₀ cs hu=> ?_
 apply wpS_seq;apply wpS_region;simp[wpOpsS,go_sem,recoverD,hu,ntmps78,Exit.thenS];apply wpS_seq;apply wpS_region;simp[wpOpsS,go_sem,Exit.thenS];refine wpS_cond (t:=false) (by simp[Act.eval,Array.replicate]) ?_
 simp only[AaR,if_false];refine wpS_of_wp (wp_skip ?_);cases c₀
 simp_all[bodyPostS,results,results78,Exit.thenS]
set_option maxRecDepth 100000 in
theorem BG{a e:Int}(ha:xE a)(he:xE e)(p q r:Nat)(w:World){Tp Tq Tr:AcN}
  (hp:w.heap[p]? =some (.cells #[.slice none 0 0,.slice none 0 0,.int .i64 0,.int .i64 0] Tp (0,0))) (hq:w.heap[q]? =some (.cells #[.int .i64 0] Tq (0,0))) (hr:w.heap[r]? =some (.cells #[.int .i64 0] Tr (0,0)))
  (hpq:p≠q) (hpr:p≠r) (hqr:q≠r) (hg:Ee prog w (λb=>b=p\/b=q\/b=r)):
  CallsD prog 78 #[kA p,kA q,kA r] (.panicking [{v:=BF a e,recovered:=false}]) w λen u' w'=>en=.returned (.tuple #[])/\u'=.panicking [{v:=BF a e,recovered:=true}]/\zo7 w w' p q r a e:=by
 refine callsD_of_wpS func78 rfl λc₀ cs hu=> ?_
 have hta:∀w:World,(Instr.typeAssert (.iface 154 (.agg #[.int .i64 a,.int .i64 e])) 20 154 true).run prog w=.ok (.tuple #[.agg #[.int .i64 a,.int .i64 e],.bool true]) w:=λ_=>by kernel_rfl
 simp only[ntmps78,On,By,IS,Nat.reduceAdd,Nat.reduceSub,Array.replicate_succ,Array.replicate_zero,List.push_toArray,List.append_toArray,Aa7,AbT];apply wpS_seq;apply wpS_region;simp[wpOpsS,go_sem,recoverD,hu,Exit.thenS];apply wpS_seq;apply wpS_region;simp[wpOpsS,go_sem,Exit.thenS];refine wpS_cond (t:=true) (by simp[Act.eval]) ?_
 simp only[if_true];refine wpS_of_wp ?_;refine wp_seq ?_;refine wp_mono (Q:=λx a' w'=>x=.normal/\a'=⟨#[kA p,kA q,kA r,BF a e,kA w.heap.size,.bool true,BF a e,BF a e,.bool true,(.tuple #[.agg #[.int .i64 a,.int .i64 e],.bool true]),BF a e,(.tuple #[.agg #[.int .i64 a,.int .i64 e],.bool true]),(.agg #[.int .i64 a,.int .i64 e]),.bool true,undef,undef,undef,undef,undef,undef,undef,undef],[]⟩/\w'=w.alloc (.cells #[.int .i64 a,.int .i64 e] 154)) ?_ ?_
 ·go_wp2_with fail
 rintro x a' w' ⟨rfl,rfl,rfl⟩;refine wp_seq ?_;refine wp_mono (Q:=λx a1 w1=>x=.normal/\a1=⟨#[kA p,kA q,kA r,BF a e,kA w.heap.size,.bool true,BF a e,BF a e,.bool true,(.tuple #[.agg #[.int .i64 a,.int .i64 e],.bool true]),BF a e,(.tuple #[.agg #[.int .i64 a,.int .i64 e],.bool true]),(.agg #[.int .i64 a,.int .i64 e]),.bool true,.bool true,.bool false,undef,undef,undef,undef,undef,undef],[]⟩/\w1=w.alloc (.cells #[.int .i64 a,.int .i64 e] 154)) ?_ ?_
 ·go_wp2_with fail
 rintro x a1 w1 ⟨rfl,rfl,rfl⟩;have hb:Below w.heap.size w (w.alloc (.cells #[.int .i64 a,.int .i64 e] 154)):=by(repeat'(first|(with_reducible exact Below.refl _ _)|(with_reducible assumption)|(with_reducible refine vD ?_ _)|(with_reducible refine Below.alloc ?_ ?_ _)|(with_reducible refine Below.setCell ?_ ?_ _)|(with_reducible refine Below.drew ?_)|go_size))
 have hk:(w.alloc (.cells #[.int .i64 a,.int .i64 e] 154)).heap[w.heap.size]? =some (.cells #[.int .i64 a,.int .i64 e] 154 (0,0)):=by unfold World.alloc;simp
 have lt:∀ {b:Nat} {o:Obj},w.heap[b]? =some o->b<w.heap.size:=λh=>(Abd.1 h).1
 refine wp_mono (zh9 rfl rfl rfl rfl rfl rfl ((hb.block _ (lt hp)).trans hp) ((hb.block _ (lt hq)).trans hq) ((hb.block _ (lt hr)).trans hr) hk ha he (lt hp) (lt hq) (lt hr) (IN _) hpq hpr hqr (.of hb) hg) ?_;rintro x a2 w2 ⟨rfl,dz,hc⟩;refine⟨dz,_,rfl,.tuple #[],?_,rfl,rfl,hc⟩;simp[results,results78]
end Go.Proofs.YtdnmkinmcdihnaaGreatDoor
namespace Go.Proofs.YtdnmkinmcdihnaaGreatDoor
open Go.Proofs.Tryz
open Go.RowKit
variable[Lo]
abbrev hpR(l:AcX)(en goal mvar:Int)(pv:AcU)(pc:AcV)(j:Nat)(er:Int):List (Nat×yE):=
 [(1000,.cells [.sl .tok l,dI j,dI en,dI er,.own 2000,.own 2001,dI goal,dI mvar]),(2000,.row 49 .var pv),(2001,.row 52 .con pc)]
def Pr.st{α:Type}:Pr α->Nat×Int
 | .ok _ j=>(j,0)
 | .err j e=>(j,e)
def stR{α:Type}(r:Pr α)(j:Nat)(er:Int):Nat×Int:=if er=0 then r.st else(j,er)
section
variable {l:AcX}{en goal mvar:Int}{pv:AcU}{pc:AcV}
end
end Go.Proofs.YtdnmkinmcdihnaaGreatDoor
namespace Go.Proofs.YtdnmkinmcdihnaaGreatDoor
open Go.Proofs.Tryz
open Go.RowKit
variable[Lo]
section
variable {l:AcX}{en goal mvar:Int}{pv:AcU}{pc:AcV}{names:List (AcL×Int)}
def zrJ{α:Type}(l:AcX)(en goal mvar:Int)(pv:AcU)(pc:AcV)(f:AcM)(args:AcT)(d:α->D)(r:Pr α)(j:Nat)(er:Int):Prop:=
 ∃x,xT f args (hpR l en goal mvar pv pc j er) (d x) (hpR l en goal mvar pv pc (stR r j er).1 (stR r j er).2)/\(er=0->∀y k,r=.ok y k->x=y)
def GL(l:AcX)(ss:Ac1)(j:Nat):Pr Int:=match Z8 l ss 0 j with
 |some o=> .ok o (j+1)
 |none=> .err j 1
end
end Go.Proofs.YtdnmkinmcdihnaaGreatDoor
namespace Go.Proofs.YtdnmkinmcdihnaaGreatDoor
open Go.Proofs.Tryz
open Go.RowKit
variable[Lo]
section
variable {l:AcX}{en goal mvar:Int}{pv:AcU}{pc:AcV}
end
end Go.Proofs.YtdnmkinmcdihnaaGreatDoor
namespace Go.Proofs.YtdnmkinmcdihnaaGreatDoor
open Go.Proofs.Tryz
open Go.RowKit
variable[Lo]
theorem zf4{α:Type}{l:AcX}{f:Nat->Pr α}{j:Nat}:mQ l f j=if sT l ⟨#[91]⟩ j=true then(if sT l ⟨#[93]⟩ (j+1)=true then .ok [] (j+2)else(f (j+1)).bind λx j=>Yk l f (l.length+1) [x] j)else .err j 1:=by
 rw[mQ,tN,tN]
 by_cases h:sT l ⟨#[91]⟩ j=true
 ·rw[As h,As h];rfl
 ·rw[An h,An h];rfl
section
variable {l:AcX}{en goal mvar:Int}{pv:AcU}{pc:AcV}{names:List (AcL×Int)}
end
end Go.Proofs.YtdnmkinmcdihnaaGreatDoor
namespace Go.Proofs.YtdnmkinmcdihnaaGreatDoor
open Go.Proofs.Tryz
open Go.RowKit
variable[Lo]
def zo9(l:AcX):Prop:=∀t∈l,(t.kind=2->0<t.text.size/\t.text.size<=4/\∀i,i<t.text.size->48<=lU t.text i/\lU t.text i<=57)/\(t.kind≠2->¬(48<=lU t.text 0/\lU t.text 0<=57))
def zf5(s:AcL):Nat->Int
 |0=>0
 |k+1=>10*zf5 s k+lU s k-48
theorem zk4{s:AcL}(h:∀i,i<s.size->48<=lU s i/\lU s i<=57):∀k,k<=s.size->0<=zf5 s k/\zf5 s k<10^k
 |0,_=>⟨AaK _,by rw[zf5];decide⟩
 |k+1,hk=>by
  obtain⟨h1,h2⟩:=zk4 h k (by omega)
  have h3:=h k (by omega)
  rw[zf5,Int.pow_succ];generalize(10:Int)^k=p at h2
  omega
theorem zf6{s:AcL}(h:∀i,i<s.size->48<=lU s i/\lU s i<=57):∀k,k<=s.size->∃n:Nat,Lib.decFrom 0 (s.data.toList.take k)=some n/\zf5 s k=(n:Int)
 |0,_=>⟨0,rfl,rfl⟩
 |k+1,hk=>by
  obtain⟨n,h1,h2⟩:=zf6 h k (by omega)
  have h3:=h k (by omega)
  have hl:k<s.data.size:=by have:s.size=s.data.size:=rfl;omega
  have hb:s.data.toList[k]? =some (s.data[k]):=by rw[AaE,AaW hl]
  have e:lU s k=((s.data[k]).toNat:Int):=by unfold lU;rw[Aaj,AaW hl];rfl
  have hv:Lib.digitVal (s.data[k])=some ((s.data[k]).toNat-48):=by unfold Lib.digitVal;rw[As (by omega)]
  refine⟨_,Lib.decFrom_take _ _ _ _ _ _ h1 hb hv,?_⟩;rw[zf5,h2];omega
theorem zrK{s:AcL}(h0:0<s.size)(h:∀i,i<s.size->48<=lU s i/\lU s i<=57):Lib.atoi s.data.toList=some (zf5 s s.size):=by
 obtain⟨n,h1,h2⟩:=zf6 h s.size (IN _);have hl:s.data.toList.length=s.size:=rfl;rw[AaJ (by omega)]at h1
 have h3:=h 0 h0
 have e:lU s 0=((s.data.toList.headD 0).toNat:Int):=by
  unfold lU;cases hd:s.data.toList with
  |nil=>rw[hd]at hl;simp at hl;omega
  |cons c r=>
   have:s.data=(c::r).toArray:=by rw[<-hd]
   rw[this];rfl
 cases hd:s.data.toList with
 |nil=>rw[hd]at hl;simp at hl;omega
 |cons c r=>
  rw[hd]at h1 e
  simp only[List.headD_cons]at e
  unfold Lib.atoi;simp only;rw[An (by intro x;have:=eq_of_beq x;subst this;rw[e]at h3;simp at h3),An (by intro x;have:=eq_of_beq x;subst this;rw[e]at h3;simp at h3),Lib.decNat,An (by simp),h1,h2]
  rfl
theorem zpa{l:AcX}(h:zo9 l):Ze l:=λt ht hk=>by
 obtain⟨h1,h2,h3⟩:=(h t ht).1 hk;have hb:=zk4 h3 _ (IN _);refine⟨by omega,_,zrK h1 h3,hb.1,?_⟩
 have h4:t.text.size=1\/t.text.size=2\/t.text.size=3\/t.text.size=4:=by omega
 rcases h4 with h4|h4|h4|h4<;>rw[h4]at hb⊢<;>have:=hb.2<;>simp at this<;>omega
section
variable {l:AcX}{en goal mvar:Int}{pv:AcU}{pc:AcV}
theorem zrL{j:Nat}(hj:j<l.length):dP l j∈l:=by
 unfold dP;rw[Aar,Aal hj];exact AT hj
end
end Go.Proofs.YtdnmkinmcdihnaaGreatDoor
namespace Go.Proofs.YtdnmkinmcdihnaaGreatDoor
open Go.Proofs.Tryz
open Go.RowKit
variable[Lo]
section
variable {l:AcX}{en goal mvar:Int}{pv:AcU}{pc:AcV}{names:List (AcL×Int)}
theorem GM{ss:Ac1}{j:Nat}:∀(i:Int),Z8 l ss (i+1) j=(Z8 l ss i j).map (1+·):=by
 induction ss with
 |nil=>exact λ_=>rfl
 |cons s r ih=>
  intro i;rw[Z8,Z8];split
  ·show some (i+1)=some (1+i);rw[Int.add_comm]
  ·exact ih (i+1)
theorem zrM{j:Nat}:Hy yG tE names l j=(vP yG names l j).bind λv j=>(GL l opW j).bind λo j=>(kP tE l j).bind λn j=> .ok ⟨v,1+o,n⟩ j:=by
 unfold Hy
 congr 1;funext v j
 have:=GM (l:=l) (ss:=opW) (j:=j) 0;rw[show(1:Int)=0+1 from rfl,this]
 unfold GL;cases Z8 l opW 0 j<;>rfl
def Ans{α:Type}(r:Pr α)(j:Nat)(er:Int)(x:α)(s:Nat×Int):Prop:=s=stR r j er/\(er=0->∀y k,r=.ok y k->x=y)
theorem Ans.bind{α β:Type}{r:Pr α}{f:α->Nat->Pr β}{j:Nat}{er:Int}{x:α}{z:β}{s s':Nat×Int}(he:∀i e,r=.err i e->e≠0)(h1:Ans r j er x s)(h2:Ans (f x s.1) s.1 s.2 z s'):Ans (r.bind f) j er z s':=by
 obtain⟨rfl,h1⟩:=h1;obtain⟨rfl,h2⟩:=h2
 by_cases h:er=0
 ·subst h
  have e:stR r j 0=r.st:=As rfl;rw[e]at h2⊢
  have e':stR (r.bind f) j 0=(r.bind f).st:=As rfl;cases r with
  |ok y k=>
   have hx:=h1 rfl y k rfl;subst hx;exact⟨(As rfl).trans e'.symm,λ_=>h2 rfl⟩
  |err k e1=>
   have hne:=he k e1 rfl;exact⟨(An hne).trans e'.symm,λ_ y k h=>by cases h⟩
 ·have e:stR r j er=(j,er):=An h
  rw[e]at h2⊢
  exact⟨(An h).trans (An h).symm,λh'=>At h' h⟩
theorem zrJ.ans{α:Type}{f:AcM}{args:AcT}{d:α->D}{r:Pr α}{j:Nat}{er:Int}(h:zrJ l en goal mvar pv pc f args d r j er):∃x s,xT f args (hpR l en goal mvar pv pc j er) (d x) (hpR l en goal mvar pv pc s.1 s.2)/\Ans r j er x s:=
 let⟨x,h1,h2⟩:=h
 ⟨x,_,h1,rfl,h2⟩
theorem zrJ.of{α:Type}{f:AcM}{args:AcT}{d:α->D}{r:Pr α}{j:Nat}{er:Int}{x:α}{s:Nat×Int}(h:xT f args (hpR l en goal mvar pv pc j er) (d x) (hpR l en goal mvar pv pc s.1 s.2))(ha:Ans r j er x s):zrJ l en goal mvar pv pc f args d r j er:=by
 obtain⟨rfl,h2⟩:=ha;exact⟨x,h,h2⟩
end
end Go.Proofs.YtdnmkinmcdihnaaGreatDoor
namespace Go.Proofs.YtdnmkinmcdihnaaGreatDoor
open Go.Proofs.Tryz
open Go.RowKit
variable[Lo]
section
variable {l:AcX}{en goal mvar:Int}{pv:AcU}{pc:AcV}{names:List (AcL×Int)}
theorem zrN{j:Nat}:zfY yG tE names l j=(GL l NW j).bind λo j=>Qi yG tE names l (1+o) j:=by
 unfold zfY;have:=GM (l:=l) (ss:=NW) (j:=j) 0;rw[show(1:Int)=0+1 from rfl,this]
 unfold GL;cases Z8 l NW 0 j<;>rfl
end
end Go.Proofs.YtdnmkinmcdihnaaGreatDoor
namespace Go.Proofs.YtdnmkinmcdihnaaGreatDoor
open Go.Proofs.Tryz
open Go.RowKit
variable[Lo]
def goW:Ac1:=[⟨#[97,110,121]⟩,⟨#[108,101,97,115,116]⟩,⟨#[109,111,115,116]⟩]
def zia(m:zE):zE×Int×Int:=if yY m=0 then(m,0,0)else(HD,0,yY m)
def zib(l:AcX)(en:Int):zE×Int×Int:=match YI yG tE l with
 | .ok (m,_) _=>zia m
 | .err j e=>(HD,oR l en j,e)
section
variable {l:AcX}{en:Int}{pv:AcU}{names:List (AcL×Int)}{R:D->Prop}
theorem zpb{j:Nat}:PW yG l names j=(tN l [⟨#[115,111,108,118,101]⟩] j).bind λ_ j=>(GL l goW j).bind λo j=>if o=0 then PV l (0,0) j else(vP yG names l j).bind λv j=>PV l (o,v) j:=by
 unfold PW
 congr 1;funext _ j
 simp only[GL,goW,Z8];cases h1:sT l ⟨#[97,110,121]⟩ j with
 |true=>rfl
 |false=>
  cases h2:sT l ⟨#[108,101,97,115,116]⟩ j with
  |true=>rfl
  |false=>
   cases h3:sT l ⟨#[109,111,115,116]⟩ j with
   |true=>simp only[tN,h3];rfl
   |false=>simp only[tN,h3];rfl
def zuM(l:AcX)(s:AcL)(j:Nat):Pr zO:=(tN l [⟨#[58]⟩] j).bind λ_ j=>(kP tE l j).bind λa j=>(tN l [⟨#[46,46]⟩] j).bind λ_ j=>(kP tE l j).bind λb j=>(tN l [⟨#[59]⟩] j).bind λ_ j=> .ok ⟨s,a,b⟩ j
end
end Go.Proofs.YtdnmkinmcdihnaaGreatDoor
namespace Go.Proofs.YtdnmkinmcdihnaaGreatDoor
open Go.Proofs.Tryz
open Go.RowKit
variable[Lo]
def VM{α:Type}(f:Nat->Pr α):Prop:=∀i j e,f i=.err j e->e=1\/e=5
section
variable {l:AcX}{names:List (AcL×Int)}
theorem PX:VM (vP yG names l):=λi j e h=>by
 unfold vP TR at h
 split at h
 ·simp only[Pr.bind]at h
  split at h
  ·cases h
  ·injection h with h1 h2;subst h2;decide
 ·injection h with h1 h2;subst h2;decide
theorem Lu{nv:AcL->Int}:VM (kP nv l):=λi j e h=>by
 unfold kP zh7 at h
 split at h<;>split at h<;>first|(cases h;done)|(injection h with _ h;subst h;decide)
theorem BH{α:Type}{f:Nat->Pr α}(hf:VM f):∀(n:Nat) (acc:List α),VM (Yk l f n acc)
 |0,acc=>λi j e h=>by rw[Yk]at h;injection h with _ h;subst h;decide
 |n+1,acc=>λi j e h=>by
  rw[Yk]at h
  split at h
  ·cases hv:f (i+1)with
   |ok x k=>rw[hv]at h;exact BH hf n _ _ _ _ h
   |err k e'=>rw[hv]at h;injection h with _ h;subst h;exact hf _ _ _ hv
  ·rw[tN,tN]at h
   split at h
   ·cases h
   ·injection h with _ h;subst h;decide
theorem dQ{α:Type}{f:Nat->Pr α}(hf:VM f):VM (mQ l f):=λi j e h=>by
 rw[zf4]at h
 split at h
 ·split at h
  ·cases h
  ·cases hv:f (i+1)with
   |ok x k=>rw[hv]at h;exact BH hf _ _ _ _ _ h
   |err k e'=>rw[hv]at h;injection h with _ h;subst h;exact hf _ _ _ hv
 ·injection h with _ h;subst h;decide
theorem HE{ss:Ac1}:VM (GL l ss):=λi j e h=>by
 unfold GL at h
 split at h
 ·cases h
 ·injection h with _ h;subst h;decide
theorem wG{α β:Type}{f:Nat->Pr α}{g:α->Nat->Pr β}(hf:VM f)(hg:∀x,VM (g x)):VM (λj=>(f j).bind g):=λi j e h=>by
 cases hv:f i with
 |ok x k=>simp only[hv,Pr.bind]at h;exact hg _ _ _ _ h
 |err k e'=>simp only[hv,Pr.bind]at h;injection h with _ h;subst h;exact hf _ _ _ hv
theorem Z9{α:Type}{x:α}{f:Nat->Nat}:VM (λj=>Pr.ok x (f j)):=λi j e h=>by cases h
theorem zf7:VM (Hy yG tE names l):=λi j e h=>by
 rw[zrM]at h
 exact wG PX (λv=>wG HE λo=>wG Lu λn=>Z9) _ _ _ h
theorem OG:∀(n:Nat) (acc:AcP),VM (TS yG names l n acc)
 |0,acc=>λi j e h=>by cases h
 |n+1,acc=>λi j e h=>by
  rw[TS]at h
  exact wG (PX (names:=names) (l:=l)) (λx=>OG n _) _ _ _ h
theorem WH{s:AcL}:VM (tN l [s]):=λi j e h=>by
 rw[tN,tN]at h
 split at h
 ·cases h
 ·injection h with _ h;subst h;decide
theorem zmJ{o:Int}:VM (Qi yG tE names l o):=λi j e h=>by
 unfold Qi at h
 split at h
 ·exact wG (dQ Lu) (λ_=>wG (dQ PX) λ_=>wG Lu λ_=>Z9 (f:=λj=>j)) _ _ _ h
 split at h
 ·exact wG (dQ PX) (λ_=>Z9 (f:=λj=>j)) _ _ _ h
 split at h
 ·exact wG (dQ Lu) (λ_=>wG (OG 2 []) λ_=>Z9 (f:=λj=>j)) _ _ _ h
 split at h
 ·exact wG (dQ PX) (λ_=>wG (dQ (dQ Lu)) λ_=>Z9 (f:=λj=>j)) _ _ _ h
 split at h
 ·exact wG (OG 3 []) (λ_=>Z9 (f:=λj=>j)) _ _ _ h
 split at h
 ·exact wG PX (λ_=>wG (dQ PX) λ_=>Z9 (f:=λj=>j)) _ _ _ h
 split at h
 ·exact wG (dQ zf7) (λ_=>Z9 (f:=λj=>j)) _ _ _ h
 ·exact wG (OG 1 []) (λ_=>wG zf7 λ_=>Z9 (f:=λj=>j)) _ _ _ h
theorem zpc:VM (zfY yG tE names l):=λi j e h=>by
 rw[zrN]at h
 exact wG HE (λo=>zmJ) _ _ _ h
theorem zmK{s:AcL}:VM (zuM l s):=wG WH λ_=>wG Lu λa=>wG WH λ_=>wG Lu λb=>wG WH λ_=>Z9 (f:=λj=>j)
theorem zpd:VM (zar yG tE l):=λi j e h=>by
 rw[zar,TR]at h
 split at h
 ·exact zmK _ _ _ h
 ·injection h with _ h;subst h;decide
theorem zbK:∀(n:Nat) (vs:AcU) (ns:List (AcL×Int)),VM (BD yG tE l n vs ns)
 |0,vs,ns=>λi j e h=>by rw[BD]at h;injection h with _ h;subst h;decide
 |n+1,vs,ns=>λi j e h=>by
  rw[BD]at h
  split at h
  ·exact wG (zpd (l:=l)) (λv=>zbK n _ _) _ _ _ h
  ·cases h
theorem zbL:∀(n:Nat) (cs:AcV),VM (Mk yG tE l names n cs)
 |0,cs=>λi j e h=>by rw[Mk]at h;injection h with _ h;subst h;decide
 |n+1,cs=>λi j e h=>by
  rw[Mk]at h
  split at h
  ·exact wG (zpc (l:=l) (names:=names)) (λc=>wG WH λ_=>zbL n _) _ _ _ h
  ·cases h
theorem zbM{x:Int×Int}:VM (PV l x):=λi j e h=>by
 rw[PV]at h
 refine wG (WH (l:=l) (s:=⟨#[59]⟩)) (λ_=> ?_) _ _ _ h
 intro i j e h;have h:(if i<l.length then Pr.err i 1 else Pr.ok x i)=Pr.err j e:=h
 split at h
 ·injection h with _ h;subst h;decide
 ·cases h
theorem zmL:VM (PW yG l names):=λi j e h=>by
 rw[zpb]at h
 refine wG (WH (l:=l)) (λ_=>wG (HE (l:=l)) λo=> ?_) _ _ _ h
 intro i j e h;have h:(if o=0 then PV l (0,0) i else(vP yG names l i).bind λv j=>PV l (o,v) j)=Pr.err j e:=h
 split at h
 ·exact zbM _ _ _ h
 ·exact wG (PX (l:=l) (names:=names)) (λv=>zbM) _ _ _ h
theorem Lv{j:Nat}{e:Int}(h:YI yG tE l=.err j e):e=1\/e=5:=by
 rw[YI]at h
 exact wG (zbK (l:=l) _ [] []) (λx=>wG (zbL (l:=l) (names:=x.2) _ []) λcs=>wG (zmL (l:=l) (names:=x.2)) λg=>Z9 (f:=λj=>j)) _ _ _ h
theorem zpe{w:World}{S:Nat->Prop}{pl:Nat->Value}{en goal mvar:Int}{pv:AcU}{pc:AcV}{i:Nat}(hh:Av w S pl (Yg l en goal mvar pv pc names i))(j:Nat):xE (oR l en j):=by
 have h:=zsg (hh.ok 1000 _ rfl);unfold oR;split
 ·rename_i hj
  have h1:=h (.sl .tok l) (by simp)
  exact(h1.2 _ (zrL hj)).2.1
 ·exact h (dI en) (by simp)
end
end Go.Proofs.YtdnmkinmcdihnaaGreatDoor
