/- Texts of this proof, one behind the other: nothing is handed in but what is proved here; no condition. -/
import Derived.Test.YtogdmcebojiojaaGreatDoorZD
set_option linter.unusedVariables false
set_option linter.unusedSimpArgs false
namespace Go.Proofs.YtogdmcebojiojaaGreatDoor
open Go.Proofs.Tryz
open Go.RowKit
set_option maxRecDepth 100000
theorem Cv{c:zF}{vs:AcK}{nv:Nat}(hc:tS c nv)(hv:RA vs nv)(hk:c.kind<=3){I:Nat->Int->Int->Prop}{b:Bool}(hb:yZ c vs=b)
  (hI:∀n a (k:Nat),I (n+1) a k=zJ (decide ((k:Int)<(c.consts.length:Int)))
   (xM (k:Int) c.consts.length=true/\yM yU [dI k,.iptr [.sl .int vs] 0,.iptr [.int .i64 c.kind,.sl .int c.vars,.sl .int c.consts,.int .i64 c.n,.sl (.list .int) c.rows,.sl .lit c.lits] 0] .int λm3=>
    I n (yF (a+(yF ((zW .int c.consts (k:Int).toNat)*m3)))) (yF ((k:Int)+1)))
   (yM fx [dC c,dI a] .bool λm4=>D.bool m4=dB b)):∃n,I n 0 0:=by
 subst hb;have hm:=hc.many;have hfc:=(hc.formC).sums hk;have hxl:(yA c vs).length=c.vars.length:=iR;have hz:(c.consts.zip (yA c vs)).length=c.consts.length:=by rw[AaC];omega
 have hnear:∀x∈c.consts.zip (yA c vs),(-1000<=x.1/\x.1<=1000)/\-50<=x.2/\x.2<=50:=λx hx=>⟨hc.consts _ (AbM hx).1,QT hv _ (AbM hx).2⟩
 refine up (I:=λn v a=>I n a v) 0 c.consts.length rfl (AT _) (by omega) (λk a=>a=Ns ((c.consts.zip (yA c vs)).take k)) (by rw[Abp];rfl) λn k a _ hk2 ha hn=> ?_
 subst ha;rw[hI]
 by_cases h:k<c.consts.length
 ·have hkv:k<c.vars.length:=by omega
  have hkz:k<(c.consts.zip (yA c vs)).length:=by omega
  have h1:=hc.consts _ (AS h);have h2:=QT (c:=c) hv _ (AS (show k<(yA c vs).length by omega))
  have h3:=Nt h1 h2;have h4:=zdX λx hx=>hnear x (AbD (i:=k) hx)
  rw[Aaf]at h4
  rw[zY h,zT (t:=.int) h];refine⟨zE h,zI (tO hc hv hkv) (hn h _ ?_)⟩;rw[zaC hkz,AaM,wL (n:=_*_) (by omega) (by omega),wL (by omega) (by omega)]
 ·have hk':k=c.consts.length:=by omega
  subst hk';rw[zS];refine zI (J3 c _) ?_;rw[AaP (by omega)]
  have hkk:=hc.kind;have:c.kind=1\/c.kind=2\/c.kind=3:=by omega
  rcases this with e|e|e<;>simp[yZ,e]
theorem ziM{c:zF}{vs:AcK}{nv:Nat}(hc:tS c nv)(hv:RA vs nv):tJ wI [.sl .lit c.lits,.clo pZ none [.iptr [.sl .int vs] 0]] (dB (c.lits.any λl=>holdsL l (vs.getD l.var.toNat 0))):=
 oI (p:=λl=>holdsL l (vs.getD l.var.toNat 0)) HY λl hl=>Pu (hc.lits l hl) hv
theorem WT{c:zF}{vs:AcK}{nv:Nat}(hc:tS c nv)(hv:RA vs nv):tJ aV [dC c,.sl .int vs] (dB (yZ c vs)):=
 D7 c vs λok=>by
  obtain⟨hk1,hk2⟩:=hc.kind;have hm:=hc.many;have hf:=hc.formC;have hxl:(yA c vs).length=c.vars.length:=iR;have hnear:=QT (c:=c) hv;have hx:∀ {k:Nat} (h:k<c.vars.length),(yA c vs).getD k 0=(yA c vs)[k]:=λh=>yI _ (by omega)
  rw[Al];refine zA (λe=> ?_) λe1=>zA (λe=> ?_) λe2=>zA (λe=> ?_) λe3=>zA (λe=> ?_) λe4=>zA (λe=> ?_) λe5=>zA (λe=> ?_) λe6=>zA (λe=> ?_) λe7=>zA (λe=> ?_) λe8=>zA (λe=> ?_) λe9=> ?_
  ·have e:=By e
   exact Cv hc hv (by omega) (I:=λn a v=>WL c vs _ n a v) rfl λn a k=>by rw[HA]
  ·have e:=By e
   exact Cv hc hv (by omega) (I:=λn a v=>Yh c vs _ n a v) rfl λn a k=>by rw[Ky]
  ·have e:=By e
   exact Cv hc hv (by omega) (I:=λn a v=>Yi c vs _ n a v) rfl λn a k=>by rw[Kz]
  ·have e:=By e
   have ht:yZ c vs=decide (yA c vs).Nodup:=by simp[yZ,e]
   refine up (I:=λn v a=>WM c vs _ n v a) 0 c.vars.length rfl (AT _) (by omega) (λk a=>a.map (λe=>e.1)=rU [] ((yA c vs).take k)) (by rw[Abp];rfl) λn k a _ hkl ha hn=> ?_
   have hal:a.length=(rU [] ((yA c vs).take k)).length:=by rw[<-ha,Aag]
   have hle:=QU ((yA c vs).take k) [];rw[Aaf,Aaz]at hle
   rw[HD]
   by_cases h:k<c.vars.length
   ·rw[zY h]
    refine zI (tO hc hv h) ⟨Or (by omega),hn h _ ?_⟩
    rw[zaD,ha,zdY (show k<(yA c vs).length by omega)]
   ·have hk':k=c.vars.length:=by omega
    subst hk';rw[zS,ht]
    congr 1
    rw[AaP (by omega)]at hal
    have hn:=J4 (yA c vs) [];rw[Aaz,Aas]at hn
    refine decide_eq_decide.2 ⟨λh=>(hn.1 (by omega)).1,λh=> ?_⟩
    have:=hn.2 ⟨h,λx _ hx=>by cases hx⟩
    omega
  ·have e:=By e
   obtain⟨h2,h1⟩:=hf.element e;have t0:=tO hc hv (k:=0) (by omega)
   have t1:=tO hc hv (k:=1) (by omega)
   have ht:yZ c vs=(decide ((0:Int)<=(yA c vs)[0])&&decide ((yA c vs)[0]<c.consts.length)&&decide (c.consts.getD (yA c vs)[0].toNat 0=(yA c vs)[1])):=by
    rw[<-hx (k:=0) (by omega),<-hx (k:=1) (by omega)];simp[yZ,e]
   refine zI t0 ?_;rw[wL (by omega) (by omega)]
   refine zI (oJ _ _ _) (zA (λf=> ?_) λf=> ?_)
   ·obtain⟨f1,f2⟩:=ZH.1 f
    have hin:(yA c vs)[0].toNat<c.consts.length:=by omega
    refine zI t0 ⟨uW.2 ⟨f1,by omega⟩,zI t1 ?_⟩
    rw[ht,Or f1,Or (p:=_<_) (by omega),yI _ hin,atN (t:=.int) hin];rfl
   ·rw[ht]
    rcases qR.1 f with f|f
    ·rw[Aah (p:=0<=_) (by omega)];rfl
    ·rw[Aah (p:=_<(c.consts.length:Int)) (by omega),Abi];rfl
  ·have e:=By e
   have ht:yZ c vs=c.rows.any λr=>decide (r=yA c vs):=by simp[yZ,e]
   refine up (I:=λn v a=>WN c vs _ n v a) 0 c.vars.length rfl (AT _) (by omega) (λk a=>a=(yA c vs).take k) (by rw[Abp]) λn k a _ hkl ha hn=> ?_
   subst ha;rw[HE]
   by_cases h:k<c.vars.length
   ·rw[zY h]
    refine zI (tO hc hv h) ⟨yW (t:=.int) ?_,hn h _ (Aar _)⟩;rw[Aaf];show(_+1)*8<=_
    omega
   ·have hk':k=c.vars.length:=by omega
    subst hk';rw[zS,AaP (by omega),ht]
    exact zI (qM HZ λr _=>En r _) rfl
  ·have e:=By e
   have h3:=hf.times e;refine zI (tO hc hv (k:=0) (by omega)) (zI (tO hc hv (k:=1) (by omega)) (zI (tO hc hv (k:=2) (by omega)) ?_))
   have n0:=hnear _ (AS (show 0<(yA c vs).length by omega))
   have n1:=hnear _ (AS (show 1<(yA c vs).length by omega))
   have:=Nt (a:=(yA c vs)[0]) (b:=(yA c vs)[1]) (by omega) n1
   rw[wL (by omega) (by omega),show yZ c vs=decide ((yA c vs).getD 0 0*(yA c vs).getD 1 0=(yA c vs).getD 2 0) by simp[yZ,e],hx (k:=0) (by omega),hx (k:=1) (by omega),hx (k:=2) (by omega)]
  ·have e:=By e
   have h2:=hf.max e;have hd:((c.vars.take (c.vars.length:Int).toNat).drop 1).length=c.vars.length-1:=by rw[Aab,Aaj,Aa1]
   refine zI (tO hc hv (k:=1) (by omega)) ⟨by unfold Js;simp;omega,?_⟩
   refine up (I:=λn v a=>WO c vs _ n a v) 0 (c.vars.length-1) rfl (AT _) (by omega) (λk a=>a=KF (yA c vs)[1] (((yA c vs).drop 1).take k)) (by rw[Abp];rfl) λn k a _ hkl ha hn=> ?_
   subst ha;rw[HG,hd]
   by_cases h:k<c.vars.length-1
   ·rw[zY h,wL (n:=1+_) (by omega) (by omega),show(1:Int)+(k:Int)=((k+1:Nat):Int) by omega]
    have hk3:k<((yA c vs).drop 1).length:=by rw[Aa1];omega
    refine zI (tO hc hv (k:=k+1) (by omega)) (hn h _ ?_)
    rw[<-Aar hk3,KF,KF,Abj,AbO,List.foldl_nil,Ab2];simp only[show 1+k=k+1 by omega]
   ·have hk':k=c.vars.length-1:=by omega
    subst hk';rw[zS];refine zI (tO hc hv (k:=0) (by omega)) ?_
    rw[AaP (by rw[Aa1];omega),show yZ c vs=decide ((yA c vs).getD 0 0=KF ((yA c vs).getD 1 0) ((yA c vs).drop 1)) by simp[yZ,e],hx (k:=0) (by omega),hx (k:=1) (by omega)]
  ·have e:=By e
   rw[show yZ c vs=c.lits.any λl=>holdsL l (vs.getD l.var.toNat 0) by simp[yZ,e]]
   exact zI (ziM hc hv) rfl
  ·have e:c.kind=10:=by simp at e1 e2 e3 e4 e5 e6 e7 e8 e9;omega
   obtain⟨h1,h2⟩:=hf.iff e;have hl0:0<c.lits.length:=by omega
   have t0:=tO hc hv (k:=0) (by omega)
   have l0:=Pu (hc.lits _ (AS hl0)) hv
   have ha:(c.lits.take 1).any (λl=>holdsL l (vs.getD l.var.toNat 0))=holdsL c.lits[0] (vs.getD c.lits[0].var.toNat 0):=by
    rw[show c.lits.take 1=[c.lits[0]] by rw[List.take_one,List.head?_eq_getElem?,Aac hl0];rfl];simp
   have ht:yZ c vs=(holdsL c.lits[0] (vs.getD c.lits[0].var.toNat 0)&&decide ((yA c vs)[0]=1)|| !holdsL c.lits[0] (vs.getD c.lits[0].var.toNat 0)&&decide ((yA c vs)[0]=0)):=by
    rw[<-hx (k:=0) (by omega),<-ha];simp[yZ,e]
   have a0:zW .lit c.lits 0=c.lits[0]:=atN (t:=.lit) hl0;have i0:xM 0 c.lits.length=true:=zE hl0;rw[a0,ht];refine⟨i0,zI l0 (zA (λf=>zI t0 (zA (λg=> ?_) λg=>⟨i0,zI l0 (zA (λf2=> ?_) λf2=> ?_)⟩)) λf=>⟨i0,zI l0 (zA (λf2=>zI t0 ?_) λf2=> ?_)⟩)⟩
   ·rw[f,g];rfl
   ·rw[f]at f2;exact At f2 (by decide)
   ·rw[f,g];rfl
   ·rw[f];rfl
   ·rw[f]at f2;exact At f2 (by decide)
theorem Cw(l:AcK):(l.map λx=>[Value.int .i64 x]).flatten=l.map (Value.int .i64):=by
 induction l with
 |nil=>rfl
 |cons a l ih=>rw[Aak,Aa6,ih];rfl
theorem zhH{w:World}{S:Nat->Prop}{l:AcK}{css:List (List Value)}(hl:css.length=l.length)(h:∀(i:Nat) (x:Int) (cs:List Value),l[i]? =some x->css[i]? =some cs->vV.rd w S cs x):
  css.flatten=l.map (Value.int .i64)/\∀x∈l,yY x:=by
 have e:css=l.map λx=>[Value.int .i64 x]:=by
  apply Ab3 (by rw[hl,Aag])
  intro i h1 h2;have hi:i<l.length:=by omega
  have:=h i l[i] css[i] (Aac hi) (Aac h1);rw[Ab4];exact this.1
 refine⟨by rw[e,Cw],λx hx=> ?_⟩
 obtain⟨i,hi,rfl⟩:=Aal hx;exact(h i l[i] css[i] (Aac hi) (Aac (by omega))).2
theorem znB{w:World}{S:Nat->Prop}{pl:Nat->Value}{l:AcK}{g cap:Nat}{cur:Array Value}{e:AcI}(hb:l.length*8<=140737488355328)(hh:w.heap[g]? =some (.cells cur e (0,0)))(h1:l.length<=cap)(h2:cap<=maxLen)(h3:cur.size=cap)(h4:cur.toList.take l.length=l.map (Value.int .i64))(hi:∀x∈l,yY x):
  W2 w S pl (.slice (some ⟨g,0,none⟩) l.length cap) (.row e .int l):=by
 refine⟨hb,l.map λx=>[Value.int .i64 x],by rw[Aag],⟨?_,.inr ⟨g,cap,cur,rfl,AT _,hh,h1,h2,?_,?_⟩⟩,?_,?_⟩
 ·rw[Cw,Aag];exact(Abg _).symm
 ·rw[h3];exact(Abg _).symm
 ·rw[Cw,<-h4];congr 1;exact Abg _
 ·intro cs hcs
  obtain⟨x,_,rfl⟩:=Of.1 hcs;rfl
 ·intro i x cs hx hcs
  rw[Aau,hx]at hcs
  cases hcs;exact⟨rfl,hi _ (AaQ hx)⟩
theorem zea{d:Array Int}{cur:Array Value}(h:d.size<=cur.size):(Sort.putCells (Value.int .i64) 0 d cur).toList.take d.size=d.toList.map (Value.int .i64):=by
 apply Ab3
 ·simp[Sort.putCells];omega
 ·intro i h1 h2
  have hi:i<d.size:=by simpa using h2
  simp[Sort.putCells,hi]
theorem zaJ{w:World}{l:AcK}{g cap:Nat}{cur:Array Value}{e:AcI}(hh:w.heap[g]? =some (.cells cur e (0,0)))(h4:cur.toList.take l.length=l.map (Value.int .i64)):Sort.Holds (Value.int .i64) w g 0 l.toArray:=by
 intro j hj;have hj:j<l.length:=by simpa using hj
 rw[Aas];refine⟨?_,frozen_of_row w g j cur e hh⟩;rw[cell_of_row w g j cur e (0,0) hh];have e2:(cur.toList.take l.length)[j]? =some (.int .i64 l[j]):=by rw[h4,Aau,Aac hj];rfl
 rw[Abx,As hj]at e2
 rw[<-AaE,e2];simp[hj]
theorem zeb{w:World}{g:Nat}{cur:Array Value}{e:AcI}(d:Array Int)(n:Nat)(hh:w.heap[g]? =some (.cells cur e (0,0))):(Sort.putRow (Value.int .i64) (Sort.ahead w n) g 0 d).heap[g]? =some (.cells (Sort.putCells (Value.int .i64) 0 d cur) e (0,0)):=by
 simp[Sort.putRow,Sort.mapBlock,AbS,hh,Sort.onCells]
theorem zaK{w:World}{g k:Nat}(d:Array Int)(n:Nat)(hk:k≠g):(Sort.putRow (Value.int .i64) (Sort.ahead w n) g 0 d).heap[k]? =w.heap[k]? :=by
 simp[Sort.putRow,Sort.mapBlock,AbS,Ne.symm hk]
theorem zec{k n:Nat}{o o':yN}(h:yG k [(n,o)]=some o'):k=n/\o'=o:=by
 rw[wR]at h
 split at h
 ·rename_i e;exact⟨e.symm,(Option.some.inj h).symm⟩
 ·cases h
theorem zhI{w:World}{S:Nat->Prop}{pl:Nat->Value}:HOk w S pl []:=
 ⟨λk o h=>(Ab5 _ h.symm).elim,λk o b h=>(Ab5 _ h.symm).elim,λk k' o o' b h=>(Ab5 _ h.symm).elim⟩
theorem zed{vs:Array Value}{v:Value}(h:vs.size=1)(e:vs.getD 0 Go.undef=v):vs= #[v]:=by
 apply Array.ext
 ·simpa using h
 ·intro i h1 h2
  have:i=0:=by omega
  subst this;simpa[Aae,h1]using e
theorem Cx(l:AcK):(Lib.compact l).length<=l.length:=by
 unfold Lib.compact Lib.compactUpTo;rw[Aag];have:=AaZ (Lib.keeps l.toArray) (List.range l.length)
 rwa[List.length_range]at this
theorem Fq{l:AcK}{x:Int}(h:x∈Lib.compact l):x∈l:=by
 unfold Lib.compact Lib.compactUpTo at h
 obtain⟨i,hi,rfl⟩:=Of.1 h;have hi:=Aa5.1 (Aan.1 hi).1;rw[getElem!_pos l.toArray i (by simpa using hi)]
 simp
abbrev XC(l:AcK):AcK:=l.mergeSort λx y=>decide (x<=y)
theorem Gt(l:AcK):yQ pL [.own 1000] [(1000,.row 3 .int l)] (.tup []) [(1000,.row 3 .int (XC l))]:=by
 intro w S vs pl hS hl hv hH _;have e0:vs= #[pl 1000]:=zed hl (hv 0 _ rfl);subst e0;obtain⟨hb,css,hcl,hown,hcs,hrd⟩:=hH.ok 1000 _ rfl;obtain⟨hf,hin⟩:=zhH hcl hrd;have hb8:l.length*8<=140737488355328:=hb;have hsl:(XC l).length=l.length:=List.length_mergeSort l;have hsin:∀x∈XC l,yY x:=λx hx=>hin x ((Acr l _).mem_iff.1 hx)
 rcases hown.2 with⟨hp,hn⟩|⟨g,cap,cur,hp,_,hh,hc1,hc2,hc3,hc4⟩
 ·obtain rfl:l=[]:=AaS.1 hn
  rw[hp];refine(slices_Sort_int_none none 0 w).mono λe w' ⟨he,hw⟩=> ?_
  subst hw;rw[show XC []=[]from AaS.1 hsl]
  refine⟨_,S,pl,he,?_,hH,hS,λb h=> .inl h,λb h=> .inl h,λ_ _=>rfl,.of (Below.refl _ _)⟩
  exact Rp.tup #[] [] rfl λi d h=>by simp at h
 ·have hc3':cur.size=cap:=hc3.trans (Abg _)
  have hc4':cur.toList.take l.length=l.map (Value.int .i64):=by rw[<-hf,<-hc4];congr 1;exact(Abg _).symm
  have hg:g<w.heap.size:=(AbE.1 hh).1;rw[hp];refine(slices_Sort_int g 0 cap l w (zaJ (cap:=cap) hh hc4') hg (by omega)).mono λe w' ⟨he,n,os,hw⟩=> ?_
  subst hw;have hsz:(Sort.putRow (Value.int .i64) (Sort.ahead w n) g 0 (XC l).toArray).heap.size=w.heap.size:=by simp
  have hG:∀k,k<w.heap.size->(Sort.grow (Sort.putRow (Value.int .i64) (Sort.ahead w n) g 0 (XC l).toArray) os).heap[k]? =(Sort.putRow (Value.int .i64) (Sort.ahead w n) g 0 (XC l).toArray).heap[k]? :=λk hk=>by
   show(_++os)[k]? =_
   rw[AcB (by omega)]
  have hgs:(Sort.grow (Sort.putRow (Value.int .i64) (Sort.ahead w n) g 0 (XC l).toArray) os).heap.size=w.heap.size+os.size:=by simp
  have hpb:oY (pl 1000)=some g:=by rw[hp];rfl
  refine⟨_,S,pl,he,?_,?_,λb h=>by rw[hgs];have:=hS b h;omega,λb h=> .inl h,λb ⟨k,o,h1,h2⟩=> ?_,λ_ _=>rfl,?_⟩
  ·exact Rp.tup #[] [] rfl λi d h=>by simp at h
  ·have look1:∀k o,yG k [(1000,yN.row 3 .int (XC l))]=some o->k=1000/\o=.row 3 .int (XC l):=λk o h=>zec h
   refine⟨λk o h=> ?_,λk o b h1 h2=> ?_,λk k' o o' b h1 h2 _ _=>by rw[(look1 _ _ h1).1,(look1 _ _ h2).1]⟩
   ·obtain⟨rfl,rfl⟩:=look1 _ _ h
    rw[hp,show l.length=(XC l).length from hsl.symm]
    refine znB (by omega) ((hG g hg).trans (zeb _ n hh)) (by omega) hc2 (by simp[Sort.putCells,hc3']) ?_ hsin
    have:=zea (d:=(XC l).toArray) (cur:=cur) (by simp only[AaT];omega)
    simpa using this
   ·obtain⟨rfl,rfl⟩:=look1 _ _ h1
    have:=hH.priv 1000 _ b rfl h2;exact⟨by rw[hgs];omega,this.2⟩
  ·have:k=1000:=(zec h1).1
   subst this;exact .inl ⟨1000,_,rfl,h2⟩
  ·refine⟨rfl,rfl,rfl,by rw[hgs];omega,λk hk hO=> ?_⟩
   rw[hG k hk];refine zaK _ _ λe=>hO ?_
   subst e;exact⟨1000,_,rfl,hpb⟩
theorem QZ(l:AcK):yQ rP [.own 1000] [(1000,.row 3 .int l)] (.sl .int (Lib.compact l)) []:=by
 intro w S vs pl hS hl hv hH _;have e0:vs= #[pl 1000]:=zed hl (hv 0 _ rfl);subst e0;obtain⟨hb,css,hcl,hown,hcs,hrd⟩:=hH.ok 1000 _ rfl;obtain⟨hf,hin⟩:=zhH hcl hrd;have hb8:l.length*8<=140737488355328:=hb;have hcle:=Cx l;have hcin:∀x∈Lib.compact l,yY x:=λx hx=>hin x (Fq hx)
 rcases hown.2 with⟨hp,hn⟩|⟨g,cap,cur,hp,_,hh,hc1,hc2,hc3,hc4⟩
 ·obtain rfl:l=[]:=AaS.1 hn
  rw[hp];refine(slices_Compact_int_empty none 0 w).mono λe w' ⟨he,hw⟩=> ?_
  subst hw;refine⟨_,S,pl,he,?_,zhI,hS,λb h=> .inl h,λb ⟨k,o,h,_⟩=>(Ab5 _ h.symm).elim,λ_ _=>rfl,.of (Below.refl _ _)⟩
  have:Lib.compact ([]:AcK)=[]:=AaS.1 (by have:=hcle;simpa using this)
  rw[this];exact Rp.sl .int [] _ ⟨_,rfl,none,0,rfl,by simp,by simp,by simp,λ_=>rfl,λh=>by simp at h⟩
 ·have hc3':cur.size=cap:=hc3.trans (Abg _)
  have hc4':cur.toList.take l.length=l.map (Value.int .i64):=by rw[<-hf,<-hc4];congr 1;exact(Abg _).symm
  have hg:g<w.heap.size:=(AbE.1 hh).1;rw[hp];refine(slices_Compact_int g 0 cap l w (zaJ (cap:=cap) hh hc4') (by omega) hc1).mono λe w' ⟨he,n,hw⟩=> ?_
  subst hw;have hsz:(Sort.putRow (Value.int .i64) (Sort.ahead w n) g 0 (Lib.compact l++List.replicate (l.length-(Lib.compact l).length) 0).toArray).heap.size=w.heap.size:=by simp
  have hpb:oY (pl 1000)=some g:=by rw[hp];rfl
  refine⟨_,λb=>S b\/b=g,pl,he,?_,zhI,λb h=> ?_,λb h=> ?_,λb ⟨k,o,h,_⟩=>(Ab5 _ h.symm).elim,λ_ _=>rfl,?_⟩
  ·refine Rp.sl .int _ _ ⟨_,rfl,some ⟨g,0,none⟩,cap,rfl,by show _*8<=_;omega,by omega,hc2,(λh=>by cases h),λ_=>⟨g,0,rfl,.inr rfl,λi x hx=>⟨[.int .i64 x],⟨rfl,hcin _ (AaQ hx)⟩,λj u hu=> ?_⟩⟩⟩
   have hj:j=0:=by
    cases j with
    |zero=>rfl
    |succ j=>simp at hu
   subst hj;cases hu;rw[cell_of_row _ g _ _ _ (0,0) (zeb _ n hh)];have hi:i<(Lib.compact l).length:=(AaD.1 hx).1;have:=zea (d:=(Lib.compact l++List.replicate (l.length-(Lib.compact l).length) 0).toArray) (cur:=cur) (by simp;omega)
   rw[show 0+i*vV.size Int+0=i from by show 0+i*1+0=i;omega]
   rw[<-AaE];have h5:=Is (λz:List Value=>z[i]?) this
   simp only[Abx,Aau,List.toList_toArray]at h5
   rw[As (by simp;omega),AaO hi,hx]at h5
   exact h5
  ·rw[hsz]
   rcases h with h|rfl
   ·exact hS b h
   ·exact hg
  ·rcases h with h|rfl
   ·exact .inl h
   ·exact .inr (.inl ⟨1000,_,rfl,hpb⟩)
  ·refine⟨rfl,rfl,rfl,by rw[hsz];exact BY _,λk hk hO=>zaK _ _ λe=>hO ?_⟩
   subst e;exact⟨1000,_,rfl,hpb⟩
theorem Cy:∀ {a b:AcK},a.Pairwise (·<·)->b.Pairwise (·<·)->(∀x,x∈a↔x∈b)->a=b
 |[],[],_,_,_=>rfl
 |[],y::b,_,_,h=>At ((h y).2 (Ks ..)) (by simp)
 |x::a,[],_,_,h=>At ((h x).1 (Ks ..)) (by simp)
 |x::a,y::b,ha,hb,h=>by
  obtain⟨ha1,ha2⟩:=Aco.1 ha;obtain⟨hb1,hb2⟩:=Aco.1 hb
  have e:x=y:=by
   have h1:=(h x).1 (Ks ..);have h2:=(h y).2 (Ks ..);rcases OF.1 h1 with h1|h1
   ·exact h1
   rcases OF.1 h2 with h2|h2
   ·exact h2.symm
   have:=hb1 x h1;have:=ha1 y h2;omega
  subst e;rw[Cy ha2 hb2 λz=>⟨λhz=> ?_,λhz=> ?_⟩]
  ·rcases OF.1 ((h z).1 (On _ hz))with rfl|hz'
   ·have:=ha1 z hz;omega
   ·exact hz'
  ·rcases OF.1 ((h z).2 (On _ hz))with rfl|hz'
   ·have:=hb1 z hz;omega
   ·exact hz'
theorem NN{l:AcK}{x:Int}:x∈Lib.compact l↔x∈l:=by
 refine⟨Fq,λh=> ?_⟩
 obtain⟨i,hi,rfl⟩:=Aal h
 suffices H:∀i,i<l.length->l.toArray[i]! ∈Lib.compact l by
  have:=H i hi
  rwa[getElem!_pos l.toArray i (by simpa using hi),List.getElem_toArray]at this
 intro i
 induction i with
 |zero=>exact λhi=>Of.2 ⟨0,Aan.2 ⟨Aa5.2 hi,by simp[Lib.keeps]⟩,rfl⟩
 |succ i ih=>
  intro hi
  by_cases hk:Lib.keeps l.toArray (i+1)=true
  ·exact Of.2 ⟨i+1,Aan.2 ⟨Aa5.2 hi,hk⟩,rfl⟩
  ·have e:l.toArray[i+1]! =l.toArray[i]! :=by
    unfold Lib.keeps at hk
    rw[Aaq,not_or]at hk
    exact Decidable.not_not.1 hk.2
   rw[e];exact ih (by omega)
theorem NO{l:AcK}(h:l.Pairwise (·<=·)):(Lib.compact l).Pairwise (·<·):=by
 unfold Lib.compact Lib.compactUpTo;rw[List.pairwise_map];have hr:((List.range l.length).filter (Lib.keeps l.toArray)).Pairwise (·<·):=(List.pairwise_lt_range).filter _;refine hr.imp_of_mem fun {i j} hi hj hij=> ?_
 have hj1:=Aa5.1 (Aan.1 hj).1;have hj2:=(Aan.1 hj).2;unfold Lib.keeps at hj2
 have hj3:=(By hj2).resolve_left (by omega)
 have le:∀p q,p<=q->q<l.length->l.toArray[p]! <=l.toArray[q]! :=λp q hpq hq=>by
  rw[getElem!_pos l.toArray p (by simp;omega),getElem!_pos l.toArray q (by simpa using hq)]
  by_cases hpe:p=q
  ·subst hpe;exact Aav _
  ·have:=Ab6.1 h p q (by omega) hq (by omega)
   simpa using this
 have h1:=le i (j-1) (by omega) (by omega)
 have h2:=le (j-1) j (by omega) hj1
 omega
theorem zhJ(l:AcK):(XC l).Pairwise (·<=·):=by
 have:=List.pairwise_mergeSort (le:=λx y:Int=>decide (x<=y)) (λa b c h1 h2=>by simp at*;omega) (λa b=>by simp;omega) l
 exact this.imp λh=>By h
theorem Q0{lo:Int}{x:Int}:∀ {n:Nat},x∈Df lo n↔lo<=x/\x<lo+n
 |0=>by simp[Df]
 |n+1=>by rw[Df,TO,Q0 (n:=n),IN];omega
theorem KR{lo:Int}:∀ {n:Nat},(Df lo n).Pairwise (·<·)
 |0=> .nil
 |n+1=>by
  rw[Df,List.pairwise_append];refine⟨KR,List.pairwise_singleton _ _,λa ha b hb=> ?_⟩
  rw[IN]at hb
  have:=(Q0.1 ha).2;omega
def OC(c:zF)(v:Int):Bool:=(c.vars.any λx=>decide (x=v))||c.lits.any λl=>decide (l.var=v)
def yB(c:zF)(nv:Nat):AcK:=(Df 0 nv).filter (OC c)
theorem zkV{c:zF}{nv:Nat}(hc:tS c nv):Lib.compact (XC (c.vars++c.lits.map λl=>l.var))=yB c nv:=by
 refine Cy (NO (zhJ _)) (KR.filter _) λx=> ?_
 rw[NN,(Acr _ _).mem_iff,yB,Aan,Q0,OC,AaJ,Aay,Aay,TO,Of];constructor
 ·rintro(h|⟨l,hl,rfl⟩)
  ·exact⟨by have:=hc.vars x h;omega,.inl ⟨x,h,Or rfl⟩⟩
  ·exact⟨by have:=(qE.1 (hc.lits l hl)).1;omega,.inr ⟨l,hl,Or rfl⟩⟩
 ·rintro⟨_,⟨y,hy,e⟩|⟨l,hl,e⟩⟩
  ·rw[<-By e];exact .inl hy
  ·exact .inr ⟨l,hl,By e⟩
theorem SO{c:zF}{nv:Nat}(hc:tS c nv):tJ fJ [dC c] (.sl .int (yB c nv)):=
 D5 c λok=>by
  have hm:=hc.many;rw[Ai];refine⟨_,KQ c.vars,?_⟩;refine up (I:=λn v a=>WJ c _ n v a) 0 c.lits.length rfl (AT _) (by omega) (λk a=>a=c.vars++(c.lits.take k).map λl=>l.var) (by simp) λn k a _ hk ha hn=> ?_
  subst ha;rw[Hx]
  by_cases h:k<c.lits.length
  ·rw[zY h,zT (t:=.lit) h]
   refine⟨zE h,yW (t:=.int) ?_,hn h _ ?_⟩
   ·rw[It,Aag,Aaf]
    show(_+1)*8<=_
    omega
   ·rw[OU _ h,AaH]
  ·have hk':k=c.lits.length:=by omega
   subst hk';rw[zS,Aaj];refine⟨_,Gt _,_,QZ _,?_⟩;rw[zkV hc]
theorem NP(m:zG){c:zF}(hc:tS c m.vars.length):tJ mZ [dM m,dC c] (.sl .int (yB c m.vars.length)):=
 PR m c λok=>by
  have hm:=hc.many;have hnv:=hc.nv6;rw[O8];refine up (I:=λn v a=>mB m c _ n v a) 0 m.vars.length rfl (AT _) (by omega) (λk a=>a=yB c k) rfl λn k a _ hk ha hn=> ?_
  subst ha;rw[Rn]
  by_cases h:k<m.vars.length
  ·rw[zY h]
   refine up (I:=λn2 v a=>mA m c _ n k _ n2 a v) 0 c.vars.length rfl (AT _) (by omega) (λj a=>a=(c.vars.take j).any λx=>decide (x=(k:Int))) rfl λn2 j a _ hj ha hn2=> ?_
   subst ha;rw[Rm]
   by_cases h2:j<c.vars.length
   ·rw[zY h2,zT (t:=.int) h2]
    refine zA (λe=>hn2 h2 _ ?_) λe=>⟨zE h2,hn2 h2 _ ?_⟩
    ·rw[Z1 _ h2,e];rfl
    ·rw[Z1 _ h2,e];rfl
   ·have hj':j=c.vars.length:=by omega
    subst hj';rw[zS,Aaj];refine up (I:=λn4 v a=>nZ m c _ n k _ n4 a v) 0 c.lits.length rfl (AT _) (by omega) (λj a=>a=((c.vars.any λx=>decide (x=(k:Int)))||(c.lits.take j).any λl=>decide (l.var=(k:Int)))) (by simp) λn4 j a _ hj ha hn4=> ?_
    subst ha;rw[Rl]
    by_cases h4:j<c.lits.length
    ·rw[zY h4,zT (t:=.lit) h4]
     refine zA (λe=>hn4 h4 _ ?_) λe=>⟨zE h4,hn4 h4 _ ?_⟩
     ·rw[Z1 _ h4,<-Ab7,e];rfl
     ·rw[Z1 _ h4,<-Ab7,e];rfl
    ·have hj':j=c.lits.length:=by omega
     subst hj';rw[zS,Aaj]
     have hs:yB c (k+1)=if OC c k=true then yB c k++[(k:Int)]else yB c k:=by
      rw[yB,Df,Acn,Int.zero_add]
      by_cases e:OC c k=true
      ·rw[As e,Aa7,As e];rfl
      ·rw[An e,Aa7,An e,List.filter_nil,Aa2];rfl
     refine zA (λe=>⟨yW (t:=.int) ?_,hn h _ ?_⟩) λe=>hn h _ ?_
     ·have:=AaZ (OC c) (Df 0 k)
      rw[Yy]at this
      show((yB c k).length+1)*8<=_
      rw[yB];omega
     ·rw[hs,As (show OC c k=true from e)]
     ·rw[hs,An (by rw[show OC c k=false from e];decide)]
  ·have hk':k=m.vars.length:=by omega
   subst hk';rw[zS]
def Fr(m:zG)(con:Int):Int:=if xE m≠0 then xE m else if con<0\/(m.cons.length:Int)<=con then 5 else 0
theorem lH{m:zG}{con:Int}(h:Fr m con=0):Right m/\0<=con/\con<m.cons.length:=by
 unfold Fr at h
 split at h
 ·rename_i h1;exact At h h1
 rename_i h1;split at h
 ·exact At h (by decide)
 rename_i h2;exact⟨pR (Decidable.not_not.1 h1),by omega,by omega⟩
def yE(m:zG)(con:Int):zF:=m.cons.getD con.toNat (Ty.dflt .con)
theorem mD{m:zG}{con:Int}(h:Fr m con=0):tS (yE m con) m.vars.length:=by
 obtain⟨h1,h2,h3⟩:=lH h;refine MH h1.vars (h1.con _ ?_);rw[yE,yI _ (show con.toNat<m.cons.length by omega)]
 exact AS _
def wholeM(m:zG)(vs:AcK):Bool:= !((m.vars.zip vs).any λx=> !jP x.2 x.1.lo x.1.hi)&& !m.cons.any λc=> !yZ c vs
theorem Cz{m:zG}(hr:Right m){vs:AcK}(hl:vs.length=m.vars.length)(h:((m.vars.zip vs).any λx=> !jP x.2 x.1.lo x.1.hi)=false):RA vs m.vars.length:=by
 refine⟨hl,λn hn=> ?_⟩
 obtain⟨i,hi,rfl⟩:=Aal hn;have hz:i<(m.vars.zip vs).length:=by rw[AaC];omega
 have:=zaz h hz;rw[AaM]at this
 have hv:=hr.var _ (AS (show i<m.vars.length by omega))
 simp[jP]at this
 omega
theorem Gu{c:zF}{vs:AcK}{nv:Nat}(hc:tS c nv)(hv:RA vs nv):tJ Yc [dC c,.iptr [.sl .int vs] 0] (dB (!yZ c vs)):=
 JR c vs λok=>by rw[Hz];exact zI (WT hc hv) rfl
theorem CA{m:zG}(hr:Right m){vs:AcK}(hl:vs.length=m.vars.length):tJ ZJ [dM m,.sl .int vs] (dB (wholeM m vs)):=
 F4 m vs λok=>by
  have hv:=hr.vars;have hz:(m.vars.zip vs).length=m.vars.length:=by rw[AaC];omega
  rw[D4];refine zdG (I:=λn v=>Xo m vs _ n v) (m.vars.zip vs) (λx=> !jP x.2 x.1.lo x.1.hi) (by omega) (X:=dB false=dB (wholeM m vs)) (λe=>by rw[wholeM,e];rfl) (λn k h hX hn=> ?_) λe n=> ?_
  ·have hk:k<m.vars.length:=by omega
   have hk2:k<vs.length:=by omega
   rw[AaM]at hX hn
   rw[T5,zY hk,zT (t:=.var) hk,zT (t:=.int) hk2];exact⟨zE hk,zE hk2,zI (oJ _ _ _) (zA hX hn)⟩
  ·rw[hz,T5,zS]
   refine zI (eY (p:=λc=> !yZ c vs) JT λc hc=>Gu (MH hr.vars (hr.con c hc)) (Cz hr hl e)) ?_
   rw[wholeM,e];rfl
theorem Z2{m:zG}(h:xE m=0)(c:AcM):tJ pI [dM m,.sl .lit c] (dI (yK m.vars.length c)):=
 TJ m c λok=>by
  rw[SG];refine zA (λe=> ?_) λe=> ?_
  ·exact uM (As (by simp at e;omega))
  have e:¬40<c.length:=by simp at e;omega
  rw[show yK m.vars.length c=wB (λ_ l=>gX m.vars.length l) 0 c from An e]
  refine Ac (I:=λn v=>nO m c _ n v) c (λ_ l=>gX m.vars.length l) (by omega) (X:=λx=>D.int .i64 x=dI (wB (λ_ l=>gX m.vars.length l) 0 c)) (Y:=D.int .i64 0=dI (wB (λ_ l=>gX m.vars.length l) 0 c)) (λ_=>rfl) (λe=>uM e) (λn k hk _ hX hn=> ?_) λn hY=> ?_
  ·rw[bA,zY hk,zT (t:=.lit) hk]
   exact⟨zE hk,zI (ziL h) (zA (λe=>hX (oO e)) λe=>hn (qS e))⟩
  ·rw[bA,zS];exact hY
theorem cO{s:AcL}(hs:s.length<=5000000000000):tJ sA [dI s.length] (dS (fz s)):=
 Qt _ λok=>by
  rw[PS];refine up (I:=λn v a=>kX (s.length:Int) _ n v a) 0 s.length rfl (AT _) (by omega) (λk a=>a=List.replicate k []) rfl λn k a _ hk ha hn=> ?_
  subst ha;rw[Sx]
  by_cases h:k<s.length
  ·rw[zY h]
   refine⟨yW (t:=.list .int) ?_,hn h _ ?_⟩
   ·rw[Abk];show(_+1)*24<=_;omega
   ·rw[List.replicate_succ']
  ·have hk':k=s.length:=by omega
   subst hk';rw[zS];rfl
def hM(s:AcL)(c:AcM):AcK:=(c.filter λl=>decide (0<=Xx s l)).map λl=>l.var
theorem zaL{s:AcL}{l:zC}{ls:AcM}(h:Xx s l<0):hM s (l::ls)=hM s ls:=by
 rw[hM,List.filter_cons_of_neg (by rw[Aaq];omega)];rfl
theorem zaM{s:AcL}{l:zC}{ls:AcM}(h:¬Xx s l<0):hM s (l::ls)=l.var::hM s ls:=by
 rw[hM,List.filter_cons_of_pos (by rw[Aaq];omega)];rfl
theorem Gv{s:AcL}{c:AcM}{v:Int}(hv:0<=v):∀ls:AcM,Gs s c ls v=if(hM s ls).all (λu=>decide (u=v))=true then zkU s c v else s
 |[]=>by rw[Gs,An (by omega)];rfl
 |l::ls=>by
  rw[Gs]
  by_cases h:Xx s l<0
  ·rw[As h,zaL h,Gv hv ls]
  ·rw[An h,zaM h,AbI]
   by_cases e:l.var=v
   ·rw[An (λx=>x.2 e.symm),e,Gv hv ls,Or rfl,AaV]
   ·rw[As ⟨hv,λx=>e x.symm⟩,Aah e,AaY,An (by decide)]
theorem MJ{s:AcL}{c:AcM}:∀ls:AcM,(∀l∈ls,0<=l.var)->Gs s c ls (-1)=match hM s ls with|[]=>fz s|v::vs=>if vs.all (λu=>decide (u=v))=true then zkU s c v else s
 |[],_=>by rw[Gs,As (by decide)];rfl
 |l::ls,hl=>by
  rw[Gs]
  by_cases h:Xx s l<0
  ·rw[As h,zaL h,MJ ls λl hl'=>hl l (On _ hl')]
  ·rw[An h,zaM h,An (by omega),Gv (hl l (Ks ..)) ls]
theorem zkW{s:AcL}{c:AcM}(hc:∀l∈c,0<=l.var/\l.var<s.length):∀v∈hM s c,0<=v/\v<s.length:=λv hv=>by
 obtain⟨l,hl,rfl⟩:=Of.1 hv;exact hc l (Aan.1 hl).1
theorem CB:∀(xs:AcK) (v:Int),rU [v] xs=[v]\/1<(rU [v] xs).length
 |[],v=> .inl rfl
 |x::xs,v=>by
  rw[rU]
  by_cases h:x∈[v]
  ·rw[As h];exact CB xs v
  ·rw[An h]
   refine .inr ?_
   have:∀(xs ks:AcK),ks.length<=(rU ks xs).length:=by
    intro xs
    induction xs with
    |nil=>exact λks=>BY _
    |cons x xs ih=>intro ks;rw[rU];refine Aai ?_ (ih _);split<;>simp
   have:=this xs ([v]++[x]);simp at this⊢
   omega
theorem CC:∀(xs:AcK) (v:Int),rU [v] xs=[v]↔xs.all (λu=>decide (u=v))=true
 |[],v=>by simp[rU]
 |x::xs,v=>by
  rw[rU,AbI]
  by_cases h:x=v
  ·rw[As (by rw[h];exact IN.2 rfl),Or h,AaV];exact CC xs v
  ·rw[An (by rw[IN];exact h),Aah h,AaY]
   have:∀(xs ks:AcK),ks.length<=(rU ks xs).length:=by
    intro xs
    induction xs with
    |nil=>exact λks=>BY _
    |cons x xs ih=>intro ks;rw[rU];refine Aai ?_ (ih _);split<;>simp
   have h2:=this xs ([v]++[x]);exact⟨λe=>by rw[e]at h2;simp at h2,λe=>by cases e⟩
theorem Lv{nv:Nat}{s:AcL}{c:AcM}(hc:∀l∈c,gX nv l=0)(hs0:s.length=nv)(hnv:nv<=6)(hcl:c.length<=40):tJ fO [dS s,.sl .lit c] (dS (aL s c)):=
 Nc s c λok=>by
  have hs:WS s:=aU (MD ok);have hlv:∀l∈c,0<=l.var/\l.var<s.length:=λl hl=>by have:=(qE.1 (hc l hl)).1;omega
  rw[M8];refine zI (wY s) (zA (λe=> ?_) λe=> ?_)
  ·rw[aL,As e]
  rw[aL,An (by rw[e];decide)]
  refine up (I:=λn v a=>oA s c _ n v a) 0 c.length rfl (AT _) (by omega) (λk a=>a=rU [] (hM s (c.take k))) rfl λn k a _ hk ha hn=> ?_
  subst ha;rw[Qy]
  by_cases h:k<c.length
  ·rw[zY h,zT (t:=.lit) h]
   have hl:=qE.1 (hc _ (AS h))
   have hlen:(rU [] (hM s (c.take k))).length<=k:=by
    have h1:=QU (hM s (c.take k)) [];have h2:(hM s (c.take k)).length<=(c.take k).length:=by rw[hM,Aag];exact AaZ _ _
    rw[Aaz]at h1
    rw[Aaf]at h2
    omega
   have kapp:∀(xs ys ks:AcK),rU ks (xs++ys)=rU (rU ks xs) ys:=by
    intro xs
    induction xs with
    |nil=>exact λys ks=>rfl
    |cons x xs ih=>exact λys ks=>ih ys _
   have hst:hM s (c.take (k+1))=hM s (c.take k)++if 0<=Xx s c[k]then[c[k].var]else[]:=by
    rw[hM,<-Aar h,Acn,AaL]
    congr 1
    by_cases e:0<=Xx s c[k]
    ·rw[As e,Aa7,As (Or e)];rfl
    ·rw[An e,Aa7,An (by rw[Aah e];decide)];rfl
   refine⟨zE h,zI (Lc (hlv _ (AS h)) (ZH.2 hl.2.1)) (zA (λe=>⟨zE h,zI (VO _ _) (zA (λf=>⟨zE h,yW (t:=.int) ?_,hn h _ ?_⟩) λf=>hn h _ ?_)⟩) λe=>hn h _ ?_)⟩
   ·show(_+1)*8<=_;omega
   ·rw[hst,As (By e),kapp,rU,An (λx=>by rw[kN.2 x]at f;exact At f (by decide))];rfl
   ·rw[hst,As (By e),kapp,rU,As (kN.1 (by simpa using f))];rfl
   ·rw[hst,An (Aaa e),Aa2]
  ·have hk':k=c.length:=by omega
   subst hk';rw[zS,Aaj,MJ c λl hl=>(hlv l hl).1]
   have hpos:=zkW hlv;cases hL:hM s c with
   |nil=>
    refine zA (λe=>zI (cO (by omega)) rfl) λe=>At e (by simp[rU])
   |cons v vs=>
    have hv:=hpos v (by rw[hL];exact Ks ..)
    have hk:rU [] (v::vs)=rU [v] vs:=rfl;rw[hk]
    refine df (by
     rcases CB vs v with h|h
     ·rw[h];simp
     ·omega) ?_
    by_cases ha:vs.all (λu=>decide (u=v))=true
    ·have e1:=(CC vs v).2 ha
     simp only[ha,if_true];rw[e1];refine df (by simp) ?_
     refine up (I:=λn2 u a=>gT s c _ n2 u [v] a) 0 s.length rfl (AT _) (by omega) (λk a=>a=qO (λw n=> !decide ((w:Int)=v)||atC c v n) (s.take k)) rfl λn2 k a _ hk ha2 hn2=> ?_
     subst ha2;rw[Qx]
     by_cases h:k<s.length
     ·have hr:=Rz hs h
      rw[zY h];refine up (I:=λn4 u a=>lC s c _ n2 k n4 u [v] _ a) 0 s[k].length rfl (AT _) (by omega) (λj a=>a=(s[k].take j).filter λn=> !decide ((k:Int)=v)||atC c v n) rfl λn4 j a _ hj ha4 hn4=> ?_
      subst ha4;rw[Qw,zT (t:=.list .int) h];refine⟨zE h,?_⟩
      by_cases hj':j<s[k].length
      ·rw[zY hj']
       refine⟨rfl,?_⟩;refine up (I:=λn6 u a=>oz s c _ n2 k n4 j [v] _ _ n6 a u) 0 c.length rfl (AT _) (by omega) (λi a=>a=(!decide ((k:Int)=v)||atC (c.take i) v s[k][j])) (by rw[Abp];show _=(_||false);rw[AbQ];rfl) λn6 i a _ hi ha6 hn6=> ?_
       subst ha6;rw[Qv,zT (t:=.list .int) h,zT (t:=.int) hj']
       by_cases hi':i<c.length
       ·have hl:=qE.1 (hc _ (AS hi'))
        have hat:atC (c.take (i+1)) v s[k][j]=(atC (c.take i) v s[k][j]||if c[i].var=v then holdsL c[i] s[k][j]else false):=by rw[atC,Z1 _ hi'];rfl
        rw[zY hi',zT (t:=.lit) hi'];refine zA (λe=>hn6 hi' _ ?_) λe=>⟨zE hi',zA (λf=>⟨zE hi',zE h,zE hj',zI (oW _ _ (ZH.2 hl.2.1)) (hn6 hi' _ ?_)⟩) λf=>hn6 hi' _ ?_⟩
        ·rw[hat,<-Ab7,e];rfl
        ·obtain⟨e1,e2⟩:=Abd.1 e
         have hkv:(k:Int)=v:=by simpa using e1
         rw[hat,<-Ab7,e,As (by rw[By f,hkv])];rfl
        ·obtain⟨e1,e2⟩:=Abd.1 e
         have hkv:(k:Int)=v:=by simpa using e1
         rw[hat,<-Ab7,e,An (by rw[<-hkv];exact Aaa f)];rfl
       ·have hi2:i=c.length:=by omega
        subst hi2;rw[zS,Aaj];refine zA (λe=>⟨zE h,zE hj',yW (t:=.int) ?_,hn4 hj' _ ?_⟩) λe=>hn4 hj' _ ?_
        ·have:=AaZ (λn=> !decide ((k:Int)=v)||atC c v n) (s[k].take j)
         rw[Aaf]at this
         show(_+1)*8<=_
         omega
        ·rw[oF _ hj',As e]
        ·rw[oF _ hj',An (by rw[e];decide)]
      ·have hj2:j=s[k].length:=by omega
       subst hj2;rw[zS,Aaj];refine⟨yW (t:=.list .int) ?_,hn2 h _ (S8 _ h).symm⟩;rw[uL,Aaf];show(_+1)*24<=_
       omega
     ·have hk':k=s.length:=by omega
      subst hk';rw[zS,Aaj];rfl
    ·simp only[ha]
     have h1:=(CB vs v).resolve_left λe=>ha ((CC vs v).1 e)
     exact dt (by omega) rfl
theorem zaN{f g:Nat->Int->Bool}{s:AcL}:qO g (qO f s)=qO (λv n=>f v n&&g v n) s:=by
 rw[qO,qO,qO,List.mapIdx_mapIdx]
 congr 1;funext v l
 show List.filter (g v) (List.filter (f v) l)=_
 rw[List.filter_filter]
 congr 1;funext n;exact Bool.and_comm _ _
theorem VQ{nv:Nat}{s:AcL}{c:AcM}(hc:∀l∈c,gX nv l=0)(hs0:s.length=nv)(hnv:nv<=6)(hcl:c.length<=40):tJ kK [dS s,.sl .lit c] (dS (kQ s c)):=
 O6 s c λok=>by
  have hs:WS s:=aU (MD ok);rw[M3]
  refine up (I:=λn v a=>gQ c _ n a v) 0 c.length rfl (AT _) (by omega) (λk a=>a=kQ s (c.take k)) (by
   rw[Abp,kQ,qO]
   symm
   have:∀(l:AcL),(l.mapIdx λv l=>l.filter λn=> !atC [] v n)=l:=λl=>by
    apply Ab3
    ·simp
    ·intro i h1 h2;simp[atC]
   exact this s) λn k a _ hk ha hn=> ?_
  subst ha;rw[Qs]
  by_cases h:k<c.length
  ·rw[zY h]
   have hl:=qE.1 (hc _ (AS h));have hdl:(kQ s (c.take k)).length=s.length:=uL;generalize hd:kQ s (c.take k)=d at hdl
   have hrow:∀(i:Nat) (hi:i<d.length),d[i].length<=17592186044416:=λi hi=>by
    have hi2:i<s.length:=by omega
    have:=Rz hs hi2;have e:d[i]=s[i].filter λn=> !atC (c.take k) i n:=by subst hd;simp only[kQ,qO,Ab8]
    rw[e];exact Aai (AaZ _ _) this
   refine up (I:=λn2 v a=>gP c _ n d k n2 v a) 0 d.length rfl (AT _) (by omega) (λi a=>a=qO (λv n=> !(if c[k].var=v then holdsL c[k] n else false)) (d.take i)) rfl λn2 i a _ hi ha2 hn2=> ?_
   subst ha2;rw[Qr]
   by_cases h2:i<d.length
   ·rw[zY h2]
    have hr:=hrow i h2;refine up (I:=λn4 v a=>oy c _ n d k n2 i n4 v _ a) 0 d[i].length rfl (AT _) (by omega) (λj a=>a=(d[i].take j).filter λn=> !(if c[k].var=(i:Int)then holdsL c[k] n else false)) rfl λn4 j a _ hj ha4 hn4=> ?_
    subst ha4;rw[Qq,zT (t:=.list .int) h2,zT (t:=.lit) h];refine⟨zE h2,?_⟩
    by_cases h4:j<d[i].length
    ·rw[zY h4,zT (t:=.int) h4]
     have hrm:xQ .int (((d[i].take j).filter λn=> !(if c[k].var=(i:Int)then holdsL c[k] n else false)).length+([d[i][j]]).length)=true:=by
      have:=AaZ (λn=> !(if c[k].var=(i:Int)then holdsL c[k] n else false)) (d[i].take j)
      rw[Aaf]at this
      refine yW (t:=.int) ?_;show(_+1)*8<=_
      omega
     refine⟨zE h,zA (λe=>⟨zE h2,zE h4,hrm,hn4 h4 _ ?_⟩) λe=>⟨zE h,zE h2,zE h4,zI (oW _ _ (ZH.2 hl.2.1)) (zA (λf=>⟨zE h2,zE h4,hrm,hn4 h4 _ ?_⟩) λf=>hn4 h4 _ ?_)⟩⟩
     ·have e:¬c[k].var=(i:Int):=λx=>by rw[x]at e;simp at e
      rw[oF _ h4,As (by rw[An e];rfl)]
     ·have e:c[k].var=(i:Int):=by simp at e;exact e.symm
      rw[oF _ h4,As (by rw[As e];exact f)]
     ·have e:c[k].var=(i:Int):=by simp at e;exact e.symm
      rw[oF _ h4,An (by rw[As e,f];decide)]
    ·have hj2:j=d[i].length:=by omega
     subst hj2;rw[zS,Aaj];refine⟨yW (t:=.list .int) ?_,hn2 h2 _ (S8 _ h2).symm⟩;rw[uL,Aaf];show(_+1)*24<=_
     omega
   ·have hi2:i=d.length:=by omega
    subst hi2;rw[zS,Aaj];refine hn h _ ?_;rw[<-hd,kQ,kQ,zaN]
    congr 1;funext v n
    rw[show atC (c.take (k+1)) v n=(atC (c.take k) v n||if c[k].var=(v:Int)then holdsL c[k] n else false) by rw[atC,Z1 _ h];rfl,Bool.not_or]
  ·have hk':k=c.length:=by omega
   subst hk';rw[zS,Aaj]
def ZD(t s:AcL):Prop:=t.length=s.length/\∀v:Nat,(t.getD v []).Sublist (s.getD v [])
def Tw(vs:AcK)(s:AcL):Prop:=vs.length=s.length/\∀v:Nat,v<s.length->vs.getD v 0∈s.getD v []
theorem ZD.refl(s:AcL):ZD s s:=⟨rfl,λv=>List.Sublist.refl _⟩
theorem ZD.trans{a b c:AcL}(h:ZD a b)(h':ZD b c):ZD a c:=⟨h.1.trans h'.1,λv=>(h.2 v).trans (h'.2 v)⟩
theorem NQ{α:Type}{d:α}{a b:List α}(hl:a.length=b.length)(h:∀v:Nat,a.getD v d=b.getD v d):a=b:=by
 apply Ab3 hl;intro i h1 h2;have:=h i
 rwa[yI _ h1,yI _ h2]at this
theorem qJ{α:Type}{d:α}{a:List α}{v:Nat}(h:a.length<=v):a.getD v d=d:=by
 rw[Aam,AbU h];rfl
theorem ZD.antisymm{a b:AcL}(h:ZD a b)(h':ZD b a):a=b:=
 NQ h.1 λv=>(h.2 v).eq_of_length (Nat.le_antisymm (h.2 v).length_le (h'.2 v).length_le)
theorem Ta{f:Nat->Int->Bool}{s:AcL}:ZD (qO f s) s:=⟨uL,λv=>by rw[sI];exact List.filter_sublist⟩
theorem YR{f:Nat->Int->Bool}{s:AcL}(h:∀(v:Nat) (n:Int),n∈s.getD v []->f v n=true):qO f s=s:=
 NQ uL λv=>by rw[sI];exact Acs.2 λn hn=>h v n hn
theorem Tb{f g:Nat->Int->Bool}{t s:AcL}(h:ZD t s)(hf:∀(v:Nat) (n:Int),n∈t.getD v []->f v n=true->g v n=true):ZD (qO f t) (qO g s):=by
 refine⟨by rw[uL,uL];exact h.1,λv=> ?_⟩
 rw[sI,sI];refine List.Sublist.trans ?_ ((h.2 v).filter (g v))
 have e:(t.getD v []).filter (f v)=((t.getD v []).filter (g v)).filter (f v):=by
  rw[List.filter_filter];refine List.filter_congr λn hn=> ?_
  cases hc:f v n
  ·rfl
  ·rw[hf v n hn hc];rfl
 rw[e];exact List.filter_sublist
theorem sT{s:AcL}:zZ s=false↔∀v:Nat,v<s.length->s.getD v []≠[]:=by
 rw[zZ,AaA];constructor
 ·intro h v hv e
  rw[yI _ hv]at e
  exact h _ (AS hv) (by rw[e];rfl)
 ·intro h l hl e
  obtain⟨i,hi,rfl⟩:=Aal hl;refine h i hi ?_;rw[yI _ hi];exact AaS.1 (By e)
theorem CD{s:AcL}:zZ s=true↔∃v:Nat,v<s.length/\s.getD v []=[]:=by
 constructor
 ·intro h
  apply Classical.byContradiction;intro hn;rw[sT.2 λv hv e=>hn ⟨v,hv,e⟩]at h
  cases h
 ·rintro⟨v,hv,e⟩
  cases h:zZ s
  ·exact At e (sT.1 h v hv)
  ·rfl
theorem ZD.fail{t s:AcL}(h:ZD t s)(hf:zZ t=false):zZ s=false:=
 sT.2 λv hv e=>sT.1 hf v (by rw[h.1];exact hv) (by have:=h.2 v;rw[e]at this;exact List.sublist_nil.1 this)
theorem ZD.failed{t s:AcL}(h:ZD t s)(hf:zZ s=true):zZ t=true:=by
 cases e:zZ t
 ·rw[h.fail e]at hf;cases hf
 ·rfl
theorem Tw.mono{vs:AcK}{t s:AcL}(h:Tw vs t)(hl:ZD t s):Tw vs s:=⟨h.1.trans hl.1,λv hv=>(hl.2 v).subset (h.2 v (by rw[hl.1];exact hv))⟩
theorem Tw.fail{vs:AcK}{s:AcL}(h:Tw vs s):zZ s=false:=sT.2 λv hv e=>by
 have:=h.2 v hv;rw[e]at this;cases this
theorem Ug{s:AcL}:(fz s).length=s.length:=Abk ..
theorem CE{s:AcL}{v:Nat}:(fz s).getD v []=[]:=by
 by_cases h:v<s.length
 ·rw[yI _ (by rw[Ug];exact h)];exact List.getElem_replicate ..
 ·exact qJ (by rw[Ug];omega)
theorem RF{s t:AcL}(h:s.length=t.length):ZD (fz s) t:=⟨Ug.trans h,λv=>by rw[CE];exact List.nil_sublist _⟩
theorem eF{s:AcL}(h:0<s.length):zZ (fz s)=true:=CD.2 ⟨0,by rw[Ug];exact h,CE⟩
theorem Ir{s t:AcL}(h:s.length=t.length):fz s=fz t:=by rw[fz,fz,h]
theorem pick{s:AcL}(hf:zZ s=false){v:Nat}{n:Int}(hn:n∈s.getD v []):∃vs,Tw vs s/\vs.getD v 0=n:=by
 refine⟨s.mapIdx λu l=>if u=v then n else l.headD 0,⟨AbB,λu hu=> ?_⟩,?_⟩
 ·rw[yI _ (show u<(s.mapIdx λu l=>if u=v then n else l.headD 0).length by rw[AbB];exact hu),Ab8]
  by_cases e:u=v
  ·rw[As e,e];exact hn
  ·rw[An e,yI _ hu]
   have h1:=sT.1 hf u hu;rw[yI _ hu]at h1
   cases h:s[u]with
   |nil=>exact At h h1
   |cons a l=>exact Ks ..
 ·have hv:v<s.length:=by
   apply Classical.byContradiction;intro h;rw[qJ (by omega)]at hn;cases hn
  rw[yI _ (show v<(s.mapIdx λu l=>if u=v then n else l.headD 0).length by rw[AbB];exact hv),Ab8,As rfl]
theorem NR{s:AcL}(hf:zZ s=false):∃vs,Tw vs s:=by
 cases s with
 |nil=>exact⟨[],rfl,λv hv=>At hv (AaU _)⟩
 |cons a s=>
  have h1:=sT.1 hf 0 (Nat.zero_lt_succ _);cases a with
  |nil=>exact At rfl h1
  |cons x a=>
   obtain⟨vs,h,_⟩:=pick hf (v:=0) (n:=x) (Ks ..);exact⟨vs,h⟩
theorem sQ{vs:AcK}{u v:Nat}{n:Int}(hv:v<vs.length):(vs.set v n).getD u 0=if u=v then n else vs.getD u 0:=by
 rw[Aam,Aam,AbP]
 by_cases e:u=v
 ·rw[As e.symm,As e,As (by omega)];rfl
 ·rw[An (λx=>e x.symm),An e]
theorem Tw.set{vs:AcK}{s:AcL}(h:Tw vs s){v:Nat}{n:Int}(hn:n∈s.getD v [])(hv:v<s.length):Tw (vs.set v n) s:=by
 refine⟨by rw[Aaw];exact h.1,λu hu=> ?_⟩
 rw[sQ (by rw[h.1];exact hv)]
 split
 ·rename_i e;rw[e];exact hn
 ·exact h.2 u hu
def May(Q:AcK->Bool)(s:AcL)(v:Nat)(n:Int):Prop:=∃vs,Tw vs s/\vs.getD v 0=n/\Q vs=true
open Classical in
noncomputable def mayB (Q:AcK->Bool)(s:AcL)(v:Nat)(n:Int):Bool:=decide (May Q s v n)
open Classical in
theorem mE{Q:AcK->Bool}{s:AcL}{v:Nat}{n:Int}:mayB Q s v n=true↔May Q s v n:=by rw[mayB];exact Aaq
open Classical in
theorem zf8{Q:AcK->Bool}{s:AcL}{v:Nat}{n:Int}:mayB Q s v n=false↔¬May Q s v n:=by rw[mayB];exact decide_eq_false_iff_not
theorem May.mono{Q:AcK->Bool}{t s:AcL}{v:Nat}{n:Int}(h:May Q t v n)(hl:ZD t s):May Q s v n:=let⟨vs,a,b,c⟩:=h;⟨vs,a.mono hl,b,c⟩
abbrev Op:=AcL->AcL
structure Vl (nv:Nat)(op:Op)(Q:AcK->Bool):Prop where
 fail:∀s,s.length=nv->zZ s=true->op s=s
 none:∀s,s.length=nv->zZ s=false->(¬∃vs,Tw vs s/\Q vs=true)->zZ (op s)=true/\ZD (op s) s
 some:∀s,s.length=nv->zZ s=false->(∃vs,Tw vs s/\Q vs=true)->op s=qO (mayB Q s) s
section
variable {nv:Nat}{op:Op}{Q:AcK->Bool}{s t:AcL}
theorem Vl.le(h:Vl nv op Q)(hl:s.length=nv):ZD (op s) s:=by
 cases hf:zZ s
 ·by_cases he:∃vs,Tw vs s/\Q vs=true
  ·rw[h.some s hl hf he];exact Ta
  ·exact(h.none s hl hf he).2
 ·rw[h.fail s hl hf];exact ZD.refl s
theorem Vl.len(h:Vl nv op Q)(hl:s.length=nv):(op s).length=nv:=(h.le hl).1.trans hl
theorem Vl.keeps(h:Vl nv op Q)(hl:s.length=nv){vs:AcK}(hv:Tw vs s)(hq:Q vs=true):Tw vs (op s):=by
 rw[h.some s hl hv.fail ⟨vs,hv,hq⟩];refine⟨hv.1.trans uL.symm,λv hv'=> ?_⟩
 rw[sI,Aan];rw[uL]at hv'
 exact⟨hv.2 v hv',mE.2 ⟨vs,hv,rfl,hq⟩⟩
theorem Vl.nofail(h:Vl nv op Q)(hl:s.length=nv):zZ (op s)=false↔∃vs,Tw vs s/\Q vs=true:=by
 constructor
 ·intro hf
  have hs:=(h.le hl).fail hf;apply Classical.byContradiction;intro he;rw[(h.none s hl hs he).1]at hf;cases hf
 ·rintro⟨vs,h1,h2⟩
  exact(h.keeps hl h1 h2).fail
theorem Vl.mono(h:Vl nv op Q)(hl:s.length=nv)(hts:ZD t s)(hf:zZ (op t)=false):ZD (op t) (op s):=by
 have hlt:t.length=nv:=hts.1.trans hl;have he:=(h.nofail hlt).1 hf;obtain⟨vs,h1,h2⟩:=he;rw[h.some t hlt h1.fail ⟨vs,h1,h2⟩,h.some s hl (h1.mono hts).fail ⟨vs,h1.mono hts,h2⟩];exact Tb hts λv n _ hm=>mE.2 ((mE.1 hm).mono hts)
theorem Vl.congr{Q':AcK->Bool}(h:Vl nv op Q)(hl:s.length=nv){vs:AcK}(hst:op s=s)(hf:zZ s=false)(v:Nat)(n:Int)(hn:n∈s.getD v []):∃us,Tw us s/\us.getD v 0=n/\Q us=true:=by
 have:=(h.nofail hl).1 (by rw[hst];exact hf)
 have e:=h.some s hl hf this;rw[hst]at e
 rw[e,sI,Aan]at hn
 exact mE.1 hn.2
end
def Om(ops:List Op)(s:AcL):Prop:=∀op∈ops,op s=s
def Fs(nv:Nat)(ops:List Op):Prop:=∀op∈ops,∃Q,Vl nv op Q
structure rD (ops:List Op)(s r:AcL):Prop where
 le:ZD r s
 all:∀t,ZD t s->zZ t=false->Om ops t->ZD t r
theorem rD.refl(ops:List Op)(s:AcL):rD ops s s:=⟨ZD.refl s,λt h _ _=>h⟩
theorem rD.step{nv:Nat}{ops:List Op}{s r:AcL}(ho:Fs nv ops)(hl:s.length=nv)(h:rD ops s r){op:Op}(hm:op∈ops):rD ops s (op r):=by
 obtain⟨Q,hq⟩:=ho op hm;have hr:r.length=nv:=h.le.1.trans hl;refine⟨(hq.le hr).trans h.le,λt h1 h2 h3=> ?_⟩
 have e:=h3 op hm;have:=hq.mono hr (h.all t h1 h2 h3) (by rw[e];exact h2)
 rwa[e]at this
structure TM (ops:List Op)(s r:AcL):Prop where
 le:ZD r s
 all:∀t,ZD t s->zZ t=false->Om ops t->ZD t r
 out:(zZ r=false/\Om ops r)\/r=fz s
theorem TM.unique{ops:List Op}{s r r':AcL}(hs:0<s.length)(h:TM ops s r)(h':TM ops s r'):r=r':=by
 rcases h.out with⟨h1,h2⟩|h1<;>rcases h'.out with⟨k1,k2⟩|k1
 ·exact(h'.all r h.le h1 h2).antisymm (h.all r' h'.le k1 k2)
 ·have:=(h'.all r h.le h1 h2).fail h1
  rw[k1,eF hs]at this;cases this
 ·have:=(h.all r' h'.le k1 k2).fail k1
  rw[h1,eF hs]at this;cases this
 ·rw[h1,k1]
theorem rD.stop{ops:List Op}{s r:AcL}(h:rD ops s r)(hf:zZ r=false)(hst:Om ops r):TM ops s r:=⟨h.le,h.all,.inl ⟨hf,hst⟩⟩
theorem rD.dead{ops:List Op}{s r:AcL}(h:rD ops s r)(hf:zZ r=true):TM ops s (fz s):=
 ⟨RF rfl,λt h1 h2 h3=>(by have:=(h.all t h1 h2 h3).fail h2;rw[hf]at this;cases this),.inr rfl⟩
theorem rD.trans{ops:List Op}{s r q:AcL}(h:rD ops s r)(h':TM ops r q):TM ops s q:=
 ⟨h'.le.trans h.le,λt h1 h2 h3=>h'.all t (h.all t h1 h2 h3) h2 h3,h'.out.imp id λe=>e.trans (Ir h.le.1)⟩
def vI(s:AcL):Nat:=(s.map List.length).sum
theorem Gw:∀ {a b:AcL},a.length=b.length->(∀v:Nat,(a.getD v []).Sublist (b.getD v []))->vI a<=vI b/\(vI a=vI b->a=b)
 |[],[],_,_=>⟨BY _,λ_=>rfl⟩
 |x::a,y::b,hl,h=>by
  have h0:x.Sublist y:=h 0;obtain⟨i1,i2⟩:=Gw (a:=a) (b:=b) (by simpa using hl) λv=>h (v+1)
  have e1:vI (x::a)=x.length+vI a:=rfl;have e2:vI (y::b)=y.length+vI b:=rfl;have:=h0.length_le;refine⟨by omega,λe=> ?_⟩
  rw[h0.eq_of_length (by omega),i2 (by omega)]
 |[],_::_,hl,_=>by simp at hl
 |_::_,[],hl,_=>by simp at hl
theorem ZD.size{t s:AcL}(h:ZD t s):vI t<=vI s:=(Gw h.1 h.2).1
theorem ZD.size_lt{t s:AcL}(h:ZD t s)(hn:t≠s):vI t<vI s:=Nat.lt_of_le_of_ne h.size λe=>hn ((Gw h.1 h.2).2 e)
theorem zf9{nv:Nat}{ops:List Op}(ho:Fs nv ops):∀(k:Nat) (s:AcL),s.length=nv->vI s<=k->∃r,TM ops s r:=by
 intro k
 induction k with
 |zero=>
  intro s hl hk;cases hf:zZ s
  ·by_cases hst:Om ops s
   ·exact⟨s,(rD.refl ops s).stop hf hst⟩
   ·refine At (λop hm=> ?_) hst
    obtain⟨Q,hq⟩:=ho op hm;apply Classical.byContradiction;intro hn;have:=(hq.le hl).size_lt hn;omega
  ·exact⟨_,(rD.refl ops s).dead hf⟩
 |succ k ih=>
  intro s hl hk;cases hf:zZ s
  ·by_cases hst:Om ops s
   ·exact⟨s,(rD.refl ops s).stop hf hst⟩
   ·obtain⟨op,hm,hn⟩:∃op,op∈ops/\op s≠s:=by
     apply Classical.byContradiction;intro h;exact hst λop hm=>Classical.byContradiction λhn=>h ⟨op,hm,hn⟩
    obtain⟨Q,hq⟩:=ho op hm;have:=(hq.le hl).size_lt hn;obtain⟨r,hr⟩:=ih (op s) (hq.len hl) (by omega)
    exact⟨r,((rD.refl ops s).step ho hl hm).trans hr⟩
  ·exact⟨_,(rD.refl ops s).dead hf⟩
open Classical in
noncomputable def zkX (ops:List Op)(s:AcL):AcL:=if h:∃r,TM ops s r then Classical.choose h else s
theorem ziN{nv:Nat}{ops:List Op}{s:AcL}(ho:Fs nv ops)(hl:s.length=nv):TM ops s (zkX ops s):=by
 have h:=zf9 ho _ s hl (BY _);rw[zkX,dif_pos h];exact Ab9 h
theorem zmw{ops:List Op}{s r:AcL}(hs:0<s.length)(h:TM ops s r):zkX ops s=r:=by
 have h':∃r,TM ops s r:=⟨r,h⟩;rw[zkX,dif_pos h'];exact(Ab9 h').unique hs h
section
variable {nv:Nat}{ops:List Op}{s t r:AcL}
theorem ziO{vs:AcK}(h:Tw vs s):ZD (vs.map λn=>[n]) s:=by
 refine⟨by rw[Aag];exact h.1,λv=> ?_⟩
 by_cases hv:v<s.length
 ·rw[yI _ (show v<(vs.map λn=>[n]).length by rw[Aag,h.1];exact hv),Ab4,List.singleton_sublist]
  have:=h.2 v hv
  rwa[yI _ (show v<vs.length by rw[h.1];exact hv)]at this
 ·rw[qJ (by rw[Aag,h.1];omega)];exact List.nil_sublist _
theorem RG(vs:AcK):Tw vs (vs.map λn=>[n]):=⟨by rw[Aag],λv hv=>by
 rw[yI _ hv,Ab4,IN,yI]⟩
theorem Vl.single{op:Op}{Q:AcK->Bool}(h:Vl nv op Q){vs:AcK}(hl:vs.length=nv)(hq:Q vs=true):op (vs.map λn=>[n])=vs.map λn=>[n]:=by
 have hs:(vs.map λn=>[n]).length=nv:=by rw[Aag];exact hl
 rw[h.some _ hs (RG vs).fail ⟨vs,RG vs,hq⟩];refine YR λv n hn=>mE.2 ⟨vs,RG vs,?_,hq⟩
 by_cases hv:v<vs.length
 ·rw[yI _ (show v<(vs.map λn=>[n]).length by rw[Aag];exact hv),Ab4,IN]at hn
  rw[yI _ hv,hn]
 ·rw[qJ (by rw[Aag];omega)]at hn;cases hn
theorem TM.keeps(h:TM ops s r)(hl:s.length=nv){vs:AcK}(hv:Tw vs s)(hq:∀op∈ops,∃Q,Vl nv op Q/\Q vs=true):Tw vs r:=by
 have h1:=h.all (vs.map λn=>[n]) (ziO hv) (RG vs).fail λop hm=>by
  obtain⟨Q,h1,h2⟩:=hq op hm;exact h1.single (hv.1.trans hl) h2
 exact(RG vs).mono h1
theorem TM.mono{ops':List Op}{s' r':AcL}(hs:0<s.length)(h:TM ops s r)(h':TM ops' s' r')(hle:ZD s s')(hsub:∀op∈ops',op∈ops):ZD r r':=by
 rcases h.out with⟨h1,h2⟩|h1
 ·exact h'.all r (h.le.trans hle) h1 λop hm=>h2 op (hsub op hm)
 ·rw[h1];exact RF (hle.1.trans h'.le.1.symm)
theorem TM.failed(h:TM ops s r)(hf:zZ s=true):r=fz s:=by
 rcases h.out with⟨h1,_⟩|h1
 ·have:=h.le.fail h1;rw[hf]at this;cases this
 ·exact h1
end
theorem Gx{α:Type}{p q:α->Bool}:∀ {l:List α},(∀x∈l,p x=q x)->l.any p=l.any q
 |[],_=>rfl
 |x::l,h=>by rw[Aa3,Aa3,h x (Ks ..),Gx λy hy=>h y (On _ hy)]
theorem zhK{c:zF}{v:Int}(h:v∈c.vars):OC c v=true:=by
 rw[OC,AaJ];exact .inl (Aay.2 ⟨v,h,Or rfl⟩)
theorem zhL{c:zF}{l:zC}(h:l∈c.lits):OC c l.var=true:=by
 rw[OC,AaJ];exact .inr (Aay.2 ⟨l,h,Or rfl⟩)
theorem zkY{c:zF}{v:Int}(h:OC c v=true):v∈c.vars\/∃l∈c.lits,l.var=v:=by
 rw[OC,AaJ,Aay,Aay]at h
 rcases h with⟨x,hx,e⟩|⟨l,hl,e⟩
 ·rw[<-By e];exact .inl hx
 ·exact .inr ⟨l,hl,By e⟩
theorem zee{c:zF}{nv:Nat}(hc:tS c nv){vs us:AcK}(h:∀v:Nat,v<nv->OC c v=true->vs.getD v 0=us.getD v 0):yA c vs=yA c us:=by
 unfold yA;refine AbV λv hv=> ?_
 have h1:=hc.vars v hv;refine h v.toNat (by omega) ?_
 rw[Abc h1.1];exact zhK hv
theorem kB{c:zF}{nv:Nat}(hc:tS c nv){vs us:AcK}(h:∀v:Nat,v<nv->OC c v=true->vs.getD v 0=us.getD v 0):yZ c vs=yZ c us:=by
 have h1:=zee hc h
 have h2:∀l∈c.lits,holdsL l (vs.getD l.var.toNat 0)=holdsL l (us.getD l.var.toNat 0):=λl hl=>by
  have h1:=(qE.1 (hc.lits l hl)).1;rw[h l.var.toNat (by omega) (by rw[Abc h1.1];exact zhL hl)]
 have h3:(c.lits.any λl=>holdsL l (vs.getD l.var.toNat 0))=c.lits.any λl=>holdsL l (us.getD l.var.toNat 0):=Gx h2
 have h4:((c.lits.take 1).any λl=>holdsL l (vs.getD l.var.toNat 0))=(c.lits.take 1).any λl=>holdsL l (us.getD l.var.toNat 0):=Gx λl hl=>h2 l (AbD hl)
 unfold yZ;rw[h1,h3,h4]
theorem Vm{f g:Nat->Int->Bool}{s:AcL}(h:∀(v:Nat) (n:Int),n∈s.getD v []->f v n=g v n):qO f s=qO g s:=
 NQ (d:=[]) (by rw[uL,uL]) λv=>by rw[sI,sI];exact List.filter_congr λn hn=>h v n hn
theorem Gy{c:zF}{nv:Nat}(h:yB c nv=[]){v:Nat}(hv:v<nv):OC c v=false:=by
 cases e:OC c v
 ·rfl
 ·have:(v:Int)∈yB c nv:=Aan.2 ⟨Q0.2 (by omega),e⟩
  rw[h]at this;cases this
theorem o6{c:zF}{nv:Nat}{v:Int}:v∈yB c nv↔(0<=v/\v<nv)/\OC c v=true:=by
 rw[yB,Aan,Q0];constructor
 ·rintro⟨h1,h2⟩;exact⟨by omega,h2⟩
 ·rintro⟨h1,h2⟩;exact⟨by omega,h2⟩
noncomputable def yS (c:zF)(s:AcL):AcL:=
 if zZ s=true then s else if yB c s.length=[]then(if yZ c []=true then s else fz s)else qO (λv n=> !OC c v||mayB (yZ c) s v n) s
theorem Uv{c:zF}{nv:Nat}(hc:tS c nv)(h0:0<nv):Vl nv (yS c) (yZ c):=by
 refine⟨λs hl hf=>As hf,λs hl hf he=> ?_,λs hl hf he=> ?_⟩
 ·rw[yS,An (by rw[hf];decide)]
  by_cases hs:yB c s.length=[]
  ·rw[As hs,An]
   ·exact⟨eF (by omega),RF rfl⟩
   ·intro ht
    obtain⟨vs,hv⟩:=NR hf;refine he ⟨vs,hv,?_⟩;rw[<-ht];exact kB hc λv h1 h2=>by rw[hl]at hs;rw[Gy hs h1]at h2;cases h2
  ·rw[An hs]
   refine⟨?_,Ta⟩;obtain⟨v,hv⟩:=Acu _ hs;obtain⟨h1,h2⟩:=o6.1 hv;refine CD.2 ⟨v.toNat,by rw[uL];omega,?_⟩
   rw[sI,List.filter_eq_nil_iff];intro n hn hx;rw[Abc h1.1,h2,Abq,Abv]at hx
   obtain⟨vs,a,_,b⟩:=mE.1 hx;exact he ⟨vs,a,b⟩
 ·obtain⟨vs,hv,ht⟩:=he
  rw[yS,An (by rw[hf];decide)]
  by_cases hs:yB c s.length=[]
  ·have hn:∀us,yZ c us=true:=λus=>by
    rw[<-ht];exact kB hc λv h1 h2=>by rw[hl]at hs;rw[Gy hs h1]at h2;cases h2
   rw[As hs,As (hn []),YR λv n hm=>mE.2 ?_]
   obtain⟨us,h1,h2⟩:=pick hf hm;exact⟨us,h1,h2,hn us⟩
  ·rw[An hs]
   refine Vm λv n hn=> ?_
   cases hi:OC c v
   ·rw[AbY,Bool.true_or]
    have hvl:v<s.length:=by
     apply Classical.byContradiction;intro h;rw[qJ (by omega)]at hn;cases hn
    refine(mE.2 ⟨vs.set v n,hv.set hn hvl,?_,?_⟩).symm
    ·rw[sQ (by rw[hv.1];exact hvl),As rfl]
    ·rw[<-ht]
     refine kB hc λu h1 h2=> ?_
     rw[sQ (by rw[hv.1];exact hvl),An]
     intro e;rw[e,hi]at h2;cases h2
   ·rw[Abq,Abv]
theorem KS{s:AcL}{l:zC}:0<=Xx s l↔∃n∈s.getD l.var.toNat [],holdsL l n=true:=by
 rw[Xx,Fp];split
 ·rename_i h
  rw[AaA]at h
  exact⟨λe=>At e (by decide),λ⟨n,h1,h2⟩=>At h2 (h n h1)⟩
 ·rename_i h
  rw[Bool.not_eq_false,Aay]at h
  refine⟨λ_=>h,λ_=> ?_⟩
  split<;>decide
theorem CF{s:AcL}{c:AcM}{v:Int}:v∈hM s c↔∃l∈c,l.var=v/\∃n∈s.getD v.toNat [],holdsL l n=true:=by
 rw[hM,Of];constructor
 ·rintro⟨l,hl,rfl⟩
  obtain⟨h1,h2⟩:=Aan.1 hl;exact⟨l,h1,rfl,KS.1 (By h2)⟩
 ·rintro⟨l,h1,rfl,h2⟩
  exact⟨l,Aan.2 ⟨h1,Or (KS.2 h2)⟩,rfl⟩
theorem gD{c:AcM}{vs:AcK}:oo c vs=true↔∃l∈c,holdsL l (vs.getD l.var.toNat 0)=true:=Aay
theorem RH{c:AcM}{v n:Int}:atC c v n=true↔∃l∈c,l.var=v/\holdsL l n=true:=by
 rw[atC,Aay];constructor
 ·rintro⟨l,hl,h⟩
  split at h
  ·rename_i e;exact⟨l,hl,e,h⟩
  ·cases h
 ·rintro⟨l,hl,h1,h2⟩
  exact⟨l,hl,by rw[As h1];exact h2⟩
theorem zhM{c:AcM}{nv:Nat}(hc:∀l∈c,0<=l.var/\l.var<nv)(h0:0<nv):Vl nv (λs=>aL s c) (oo c):=by
 have lives:∀ {s:AcL} {vs:AcK} {l:zC},s.length=nv->Tw vs s->l∈c->holdsL l (vs.getD l.var.toNat 0)=true->l.var∈hM s c:=fun {s vs l} hl hv hm hh=>by
  have:=hc l hm;exact CF.2 ⟨l,hm,rfl,_,hv.2 _ (by omega),hh⟩
 have holds:∀ {s:AcL},s.length=nv->zZ s=false->∀ {v:Int},v∈hM s c->∀(w:Nat) (n:Int),n∈s.getD w []->(w:Int)≠v->∃vs,Tw vs s/\vs.getD w 0=n/\oo c vs=true:=fun {s} hl hf {v} hm w n hn hw=>by
  obtain⟨l,h1,h2,k,h3,h4⟩:=CF.1 hm;have hr:=hc l h1;obtain⟨vs,hv,e⟩:=pick hf h3
  have hwl:w<s.length:=by
   apply Classical.byContradiction;intro h;rw[qJ (by omega)]at hn;cases hn
  refine⟨vs.set w n,hv.set hn hwl,by rw[sQ (by rw[hv.1];exact hwl),As rfl],gD.2 ⟨l,h1,?_⟩⟩
  rw[sQ (by rw[hv.1];exact hwl),An (by omega),h2,e];exact h4
 refine⟨λs hl hf=>As hf,λs hl hf he=> ?_,λs hl hf he=> ?_⟩
 ·have hL:hM s c=[]:=by
   cases h:hM s c with
   |nil=>rfl
   |cons v vs=>
    obtain⟨l,h1,h2,n,h3,h4⟩:=CF.1 (show v∈hM s c by rw[h];exact Ks ..)
    obtain⟨us,hu,e⟩:=pick hf h3;exact At ⟨us,hu,gD.2 ⟨l,h1,by rw[h2,e];exact h4⟩⟩ he
  show zZ (aL s c)=true/\ZD (aL s c) s
  rw[aL,An (by rw[hf];decide),MJ c λl hl=>(hc l hl).1,hL]
  exact⟨eF (by omega),RF rfl⟩
 ·obtain⟨vs,hv,ht⟩:=he
  obtain⟨l,hlm,hlh⟩:=gD.1 ht;have hlv:=lives hl hv hlm hlh;show aL s c=_
  rw[aL,An (by rw[hf];decide),MJ c λl hl=>(hc l hl).1]
  cases hL:hM s c with
  |nil=>rw[hL]at hlv;cases hlv
  |cons u us=>
   have hum:u∈hM s c:=by rw[hL];exact Ks ..
   by_cases ha:us.all (λx=>decide (x=u))=true
   ·simp only[ha,if_true]
    have hall:∀x∈hM s c,x=u:=λx hx=>by
     rw[hL]at hx
     rcases OF.1 hx with h|h
     ·exact h
     ·exact By (Aao.1 ha x h)
    refine Vm λw n hn=> ?_
    by_cases hw:(w:Int)=u
    ·rw[Or hw,Abq,Abv]
     apply Aap.2;rw[RH,mE];constructor
     ·rintro⟨l,h1,h2,h3⟩
      obtain⟨x,hx,e⟩:=pick hf hn;refine⟨x,hx,e,gD.2 ⟨l,h1,?_⟩⟩;rw[show l.var.toNat=w by omega,e];exact h3
     ·rintro⟨x,hx,e,hh⟩
      obtain⟨l,h1,h2⟩:=gD.1 hh;have h3:=hall _ (lives hl hx h1 h2);refine⟨l,h1,h3,?_⟩
      rwa[show l.var.toNat=w by omega,e]at h2
    ·rw[Aah hw,AbY,Bool.true_or]
     exact(mE.2 (holds hl hf hum w n hn hw)).symm
   ·simp only[ha]
    have hx:∃x∈us,x≠u:=by
     apply Classical.byContradiction;intro hn;exact ha (Aao.2 λx hx=>Or (Classical.byContradiction λe=>hn ⟨x,hx,e⟩))
    obtain⟨x,hx,hxu⟩:=hx;have hxm:x∈hM s c:=by rw[hL];exact On _ hx
    refine(YR λw n hn=>mE.2 ?_).symm
    by_cases hw:(w:Int)=u
    ·exact holds hl hf hxm w n hn (by omega)
    ·exact holds hl hf hum w n hn hw
def KT(kt:Ty):Prop:=∀a b:kt.den,Kg kt a b=true↔a=b
theorem dD:KT .int:=λa b=>Aaq
theorem MK:KT (.pr .int .int):=λa b=>by
 show(decide (a.1=b.1)&&decide (a.2=b.2))=true↔a=b
 rw[If,Aaq,Aaq];exact⟨λh=>Prod.ext h.1 h.2,λh=>by rw[h];exact⟨rfl,rfl⟩⟩
section
variable {kt vt:Ty}
theorem CG(hk:KT kt)(x:kt.den):Kg kt x x=true:=(hk x x).2 rfl
theorem zga(hk:KT kt){x y:kt.den}(h:x≠y):Kg kt x y=false:=by
 cases e:Kg kt x y
 ·rfl
 ·exact At ((hk x y).1 e) h
theorem Uw(hk:KT kt){x:kt.den}{y:vt.den}:∀es:List (kt.den×vt.den),uZ kt vt x (qH kt vt x y es)=some y
 |[]=>by rw[qH,uZ,CG hk];rfl
 |(a,b)::es=>by
  rw[qH];cases e:Kg kt x a
  ·rw[Vs,uZ,e,Vs];exact Uw hk es
  ·rw[AI,uZ,e];rfl
theorem Wp(hk:KT kt){x z:kt.den}{y:vt.den}(h:z≠x):∀es:List (kt.den×vt.den),uZ kt vt z (qH kt vt x y es)=uZ kt vt z es
 |[]=>by rw[qH,uZ,uZ,zga hk h];rfl
 |(a,b)::es=>by
  rw[qH];cases e:Kg kt x a
  ·rw[Vs,uZ,uZ]
   cases Kg kt z a
   ·rw[Vs,Vs];exact Wp hk h es
   ·rfl
  ·have:=(hk x a).1 e
   subst this;rw[AI,uZ,uZ,zga hk h,Vs,Vs]
theorem Iu(hk:KT kt){x:kt.den}{y:vt.den}:∀es:List (kt.den×vt.den),uZ kt vt x es=none->qH kt vt x y es=es++[(x,y)]
 |[],_=>rfl
 |(a,b)::es,h=>by
  rw[uZ]at h
  cases e:Kg kt x a
  ·rw[e,Vs]at h
   rw[qH,e,Vs,Iu hk es h];rfl
  ·rw[e]at h;cases h
theorem zaO(hk:KT kt){x:kt.den}{y k:vt.den}:∀es:List (kt.den×vt.den),uZ kt vt x es=some k->(k::(qH kt vt x y es).map Prod.snd).Perm (y::es.map Prod.snd)
 |[],h=>by cases h
 |(a,b)::es,h=>by
  rw[uZ]at h
  cases e:Kg kt x a
  ·rw[e,Vs]at h
   rw[qH,e,Vs,Aak,Aak];exact(List.Perm.swap _ _ _).trans (((zaO hk es h).cons b).trans (List.Perm.swap _ _ _))
  ·rw[e,AI]at h
   obtain rfl:b=k:=by cases h;rfl
   rw[qH,e,AI,Aak,Aak];exact List.Perm.swap _ _ _
theorem Iv(hk:KT kt){x:kt.den}{y k:vt.den}:∀es:List (kt.den×vt.den),uZ kt vt x es=some k->(qH kt vt x y es).map Prod.fst=es.map Prod.fst
 |[],h=>by cases h
 |(a,b)::es,h=>by
  rw[uZ]at h
  cases e:Kg kt x a
  ·rw[e,Vs]at h
   rw[qH,e,Vs,Aak,Aak,Iv hk es h]
  ·rw[qH,e,AI];rfl
theorem Vn(hk:KT kt){x:kt.den}:∀es:List (kt.den×vt.den),x∈es.map Prod.fst↔∃k,uZ kt vt x es=some k
 |[]=>⟨λh=>(by cases h),λ⟨k,h⟩=>(by cases h)⟩
 |(a,b)::es=>by
  rw[Aak,OF,uZ];cases e:Kg kt x a
  ·rw[Vs]
   have hn:x≠a:=λh=>by subst h;rw[CG hk]at e;cases e
   exact⟨λh=>(Vn hk es).1 (h.resolve_left hn),λh=> .inr ((Vn hk es).2 h)⟩
  ·exact⟨λ_=>⟨b,rfl⟩,λ_=> .inl ((hk x a).1 e)⟩
theorem zef(hk:KT kt){x:kt.den}{k:vt.den}:∀es:List (kt.den×vt.den),uZ kt vt x es=some k->(x,k)∈es
 |[],h=>by cases h
 |(a,b)::es,h=>by
  rw[uZ]at h
  cases e:Kg kt x a
  ·rw[e,Vs]at h;exact On _ (zef hk es h)
  ·rw[e,AI]at h
   obtain rfl:b=k:=by cases h;rfl
   rw[(hk x a).1 e];exact Ks ..
theorem zcA(hk:KT kt){x:kt.den}{k:vt.den}:∀es:List (kt.den×vt.den),(es.map Prod.fst).Nodup->(x,k)∈es->uZ kt vt x es=some k
 |[],_,h=>by cases h
 |(a,b)::es,hn,h=>by
  rw[Aak,AaN]at hn
  rw[uZ];rcases OF.1 h with h|h
  ·obtain⟨rfl,rfl⟩:x=a/\k=b:=by cases h;exact⟨rfl,rfl⟩
   rw[CG hk];rfl
  ·rw[zga hk λe=>hn.1 (by rw[<-e];exact Of.2 ⟨_,h,rfl⟩),Vs]
   exact zcA hk es hn.2 h
theorem CH(hk:KT kt){x:kt.den}{y:vt.den}{es:List (kt.den×vt.den)}(h:(es.map Prod.fst).Nodup):((qH kt vt x y es).map Prod.fst).Nodup:=by
 cases e:uZ kt vt x es with
 |none=>
  rw[Iu hk es e,AaL,Aca];refine⟨h,by simp,λa ha b hb=> ?_⟩
  rintro rfl;obtain rfl:a=x:=by simpa using hb
  obtain⟨k,h2⟩:=(Vn hk es).1 ha;rw[e]at h2;cases h2
 |some k=>rw[Iv hk es e];exact h
theorem CI(hk:KT kt){x z:kt.den}{y:vt.den}(es:List (kt.den×vt.den)):z∈(qH kt vt x y es).map Prod.fst↔z=x\/z∈es.map Prod.fst:=by
 rw[Vn hk,Vn hk];constructor
 ·rintro⟨k,h⟩
  apply Classical.byContradiction;intro hn;rw[Wp hk (λe=>hn (.inl e))]at h
  exact hn (.inr ⟨k,h⟩)
 ·rintro(rfl|⟨k,h⟩)
  ·exact⟨y,Uw hk es⟩
  ·apply Classical.byContradiction
   intro hn
   by_cases e:z=x
   ·subst e;exact hn ⟨y,Uw hk es⟩
   ·exact hn ⟨k,by rw[Wp hk e];exact h⟩
end
theorem zkZ{α:Type}{t:List α}{k:Nat}(d:α)(h:k<t.length):t.getD k d=t[k]:=by rw[Aam,Aac h];rfl
theorem zhN{lo:Int}:∀ {n:Nat} {k:Int},k∈(List.range n).map (λi:Nat=>lo+i)↔lo<=k/\k<lo+n:=fun {n k}=>by
 rw[Of];constructor
 ·rintro⟨i,hi,rfl⟩;have:=Aa5.1 hi;omega
 ·rintro⟨h1,h2⟩;exact⟨(k-lo).toNat,Aa5.2 (by omega),by omega⟩
theorem aM{l:AcK}(h:l.Nodup){lo:Int}{n:Nat}(hl:∀x∈l,lo<=x/\x<lo+n):l.length<=n:=by
 have:=h.length_le_of_subset (l₂:=(List.range n).map λi:Nat=>lo+i) λx hx=>zhN.2 (hl x hx)
 rwa[Aag,List.length_range]at this
theorem RI{α β:Type}{f:α->β}:∀ {l:List α},l.Nodup->(∀a∈l,∀b∈l,f a=f b->a=b)->(l.map f).Nodup
 |[],_,_=>Abl
 |a::l,h,hi=>by
  rw[AaN]at h
  rw[Aak,AaN];refine⟨λhm=> ?_,RI h.2 λx hx y hy=>hi x (On _ hx) y (On _ hy)⟩
  obtain⟨b,hb,e⟩:=Of.1 hm;exact h.1 (by rw[<-hi b (On _ hb) a (Ks ..) e];exact hb)
theorem zaP{α:Type}{p q:α->Bool}:∀ {l:List α},(∀x∈l,p x=true->q x=true)->(∃x∈l,q x=true/\p x=false)->l.countP p<l.countP q
 |[],_,⟨x,h,_⟩=>by cases h
 |a::l,h1,⟨x,hx,h2,h3⟩=>by
  have hle:l.countP p<=l.countP q:=List.countP_mono_left λx hx=>h1 x (On _ hx)
  rw[List.countP_cons,List.countP_cons];rcases OF.1 hx with rfl|hx
  ·rw[As h2,An (by rw[h3];decide)];omega
  ·have:=zaP (λx hx=>h1 x (On _ hx)) ⟨x,hx,h2,h3⟩
   by_cases hp:p a=true
   ·rw[As hp,As (h1 a (Ks ..) hp)];omega
   ·rw[An hp];split<;>omega
abbrev KV:=List (Int×Int)
section
variable {x y z k:Int}{m:KV}
theorem zcB:uZ .int .int x (qH .int .int x y m)=some y:=Uw (kt:=.int) (vt:=.int) dD m
theorem NS(h:z≠x):uZ .int .int z (qH .int .int x y m)=uZ .int .int z m:=Wp (kt:=.int) (vt:=.int) dD h m
theorem znC(h:uZ .int .int x m=none):qH .int .int x y m=m++[(x,y)]:=Iu (kt:=.int) (vt:=.int) dD m h
theorem zmx(h:uZ .int .int x m=some k):(k::(qH .int .int x y m).map Prod.snd).Perm (y::m.map Prod.snd):=zaO (kt:=.int) (vt:=.int) dD m h
theorem znD:x∈m.map Prod.fst↔∃k,uZ .int .int x m=some k:=Vn (kt:=.int) (vt:=.int) dD m
theorem znE(h:uZ .int .int x m=some k):(x,k)∈m:=zef (kt:=.int) (vt:=.int) dD m h
theorem zm7(h:(m.map Prod.fst).Nodup)(h2:(x,k)∈m):uZ .int .int x m=some k:=zcA (kt:=.int) (vt:=.int) dD m h h2
theorem zeg(h:(m.map Prod.fst).Nodup):((qH .int .int x y m).map Prod.fst).Nodup:=CH (kt:=.int) (vt:=.int) dD h
theorem znF:z∈(qH .int .int x y m).map Prod.fst↔z=x\/z∈m.map Prod.fst:=CI (kt:=.int) (vt:=.int) dD m
end
def LY(turn:Int)(a:KV)(n:Int):Prop:=gH .int .int n a=turn
structure XD (turn:Int)(a:KV):Prop where
 nodup:(a.map Prod.fst).Nodup
 near:∀n∈a.map Prod.fst,-50<=n/\n<=50
 turns:∀n t:Int,uZ .int .int n a=some t->1<=t/\t<=turn
structure Gz (rows:AcL)(m:KV):Prop where
 nodup:(m.map Prod.fst).Nodup
 ok:∀n k:Int,uZ .int .int n m=some k->0<=k/\k<rows.length/\n∈rows.getD k.toNat []
def left(turn:Int)(a:KV):Nat:=((List.range 101).map λi:Nat=>(-50:Int)+i).countP λn=> !decide (gH .int .int n a=turn)
instance {turn n:Int}{a:KV}:Decidable (LY turn a n):=inferInstanceAs (Decidable (_=_))
theorem Uh{turn n:Int}(a:KV):LY turn (qH .int .int n turn a) n:=by rw[LY,gH,zcB];rfl
theorem AK{turn n x:Int}{a:KV}(h:x≠n):LY turn (qH .int .int n turn a) x↔LY turn a x:=by rw[LY,LY,gH,gH,NS h]
theorem Dg{turn n x:Int}{a:KV}:LY turn (qH .int .int n turn a) x↔x=n\/LY turn a x:=by
 by_cases h:x=n
 ·subst h;exact⟨λ_=> .inl rfl,λ_=>Uh a⟩
 ·rw[AK h];exact⟨.inr,λh'=>h'.resolve_left h⟩
theorem ziP{turn:Int}{a b:KV}(h:∀n,LY turn a n->LY turn b n):left turn b<=left turn a:=
 List.countP_mono_left λn _ hn=>by
  simp only[AaI,decide_eq_false_iff_not]at hn⊢
  exact λe=>hn (h n e)
theorem zmy{turn n:Int}{a:KV}(hn: -50<=n/\n<=50)(h:¬LY turn a n):left turn (qH .int .int n turn a)<left turn a:=
 zaP (λx _ hx=>by
  simp only[AaI,decide_eq_false_iff_not]at hx⊢
  exact λe=>hx (Dg.2 (.inr e))) ⟨n,zhN.2 (by omega),by simp only[AaI,decide_eq_false_iff_not];exact h,by simp only[Bool.not_eq_false',Aaq];exact Uh a⟩
theorem XD.put{turn n:Int}{a:KV}(h:XD turn a)(hn: -50<=n/\n<=50)(ht:1<=turn):XD turn (qH .int .int n turn a):=by
 refine⟨zeg h.nodup,λx hx=> ?_,λx t hx=> ?_⟩
 ·rcases znF.1 hx with rfl|hx
  ·exact hn
  ·exact h.near x hx
 ·by_cases e:x=n
  ·subst e;rw[zcB]at hx;cases hx;omega
  ·rw[NS e]at hx;exact h.turns x t hx
theorem XD.length{turn:Int}{a:KV}(h:XD turn a):a.length<=101:=by
 have:=aM h.nodup (lo:= -50) (n:=101) λx hx=>by have:=h.near x hx;omega
 rwa[Aag]at this
theorem XD.none{turn:Int}{a:KV}(h:XD turn a)(h0:0<=turn){t:Int}(ht:turn<t)(n:Int):¬LY t a n:=by
 rw[LY,gH];cases e:uZ .int .int n a with
 |none=>show¬(0:Int)=t;omega
 |some k=>
  intro(hh:(k:Int)=t);have h2:=h.turns n k e;rw[hh]at h2;omega
theorem XD.later{turn:Int}{a:KV}(h:XD turn a){t:Int}(ht:turn<=t):XD t a:=⟨h.nodup,h.near,λn k e=>by have:=h.turns n k e;omega⟩
theorem ziQ:XD 0 []:=⟨Abl,λn hn=>(by cases hn),λn t h=>(by cases h)⟩
theorem zk0{rows:AcL}:Gz rows []:=⟨Abl,λn t h=>(by cases h)⟩
theorem Gz.length{rows:AcL}{m:KV}(h:Gz rows m)(hr:∀r∈rows,∀n∈r,-50<=n/\n<=50):m.length<=101:=by
 have:=aM h.nodup (lo:= -50) (n:=101) λx hx=>by
  obtain⟨k,hk⟩:=znD.1 hx;obtain⟨h1,h2,h3⟩:=h.ok x k hk;have hl:k.toNat<rows.length:=by omega
  rw[zkZ _ hl]at h3
  have:=hr _ (AS hl) x h3;omega
 rwa[Aag]at this
structure CJ (rows:AcL)(turn i:Int)(m a m' a':KV):Prop where
 ok:Gz rows m'
 ask:XD turn a'
 vals:(m'.map Prod.snd).Perm (i::m.map Prod.snd)
 same:∀n:Int,LY turn a n->uZ .int .int n m'=uZ .int .int n m
structure Iw (rows:AcL)(turn:Int)(m a:KV)(pre:AcK)(a':KV):Prop where
 ask:XD turn a'
 more:∀n,LY turn a n->LY turn a' n
 row:∀n∈pre,LY turn a' n
 closed:∀n,LY turn a' n->LY turn a n\/∃k:Int,uZ .int .int n m=some k/\∀x∈rows.getD k.toNat [],LY turn a' x
section
variable {rows:AcL}{turn i k n:Int}{m a a1 a2 m2:KV}{pre:AcK}
theorem Gz.put(h:Gz rows m)(hi:0<=i/\i<rows.length/\n∈rows.getD i.toNat []):Gz rows (qH .int .int n i m):=by
 refine⟨zeg h.nodup,λx k hx=> ?_⟩
 by_cases e:x=n
 ·subst e;rw[zcB]at hx;cases hx;exact hi
 ·rw[NS e]at hx;exact h.ok x k hx
theorem zgb(h:Gz rows m)(ha:XD turn a)(ht:1<=turn)(hn: -50<=n/\n<=50)(hi:0<=i/\i<rows.length/\n∈rows.getD i.toNat [])(hna:¬LY turn a n)(hm:uZ .int .int n m=none):CJ rows turn i m a (qH .int .int n i m) (qH .int .int n turn a):=by
 refine⟨h.put hi,ha.put hn ht,?_,λx hx=>NS (λe=>hna (by rw[<-e];exact hx))⟩
 rw[znC hm,AaL];exact List.perm_append_comm
theorem zgc(hi:0<=i/\i<rows.length/\n∈rows.getD i.toNat [])(hna:¬LY turn a n)(hm:uZ .int .int n m=some k)(h:CJ rows turn k m (qH .int .int n turn a) m2 a2):CJ rows turn i m a (qH .int .int n i m2) a2:=by
 have h2:uZ .int .int n m2=some k:=(h.same n (Uh a)).trans hm;refine⟨h.ok.put hi,h.ask,?_,λx hx=> ?_⟩
 ·have h3:=zmx (y:=i) h2
  exact List.Perm.cons_inv (h3.trans ((h.vals.cons i).trans (List.Perm.swap _ _ _)))
 ·rw[NS (λe=>hna (by rw[<-e];exact hx))]
  exact h.same x (Dg.2 (.inr hx))
theorem CJ.start(h:CJ rows turn i m a1 m2 a2)(hm:∀n,LY turn a n->LY turn a1 n):CJ rows turn i m a m2 a2:=⟨h.ok,h.ask,h.vals,λn hn=>h.same n (hm n hn)⟩
theorem zaQ(h:XD turn a):Iw rows turn m a [] a:=⟨h,λ_ h=>h,λn hn=>(by cases hn),λ_ h=> .inl h⟩
theorem zgd(h:Iw rows turn m a pre a1)(hn:LY turn a1 n):Iw rows turn m a (pre++[n]) a1:=⟨h.ask,h.more,λx hx=>by
 rcases TO.1 hx with hx|hx
 ·exact h.row x hx
 ·rw[IN.1 hx];exact hn,h.closed⟩
theorem zge(h:Iw rows turn m a pre a1)(hm:uZ .int .int n m=some k)(h2:Iw rows turn m (qH .int .int n turn a1) (rows.getD k.toNat []) a2):Iw rows turn m a (pre++[n]) a2:=by
 have up:∀x,LY turn a1 x->LY turn a2 x:=λx hx=>h2.more x (Dg.2 (.inr hx))
 refine⟨h2.ask,λx hx=>up x (h.more x hx),λx hx=> ?_,λx hx=> ?_⟩
 ·rcases TO.1 hx with hx|hx
  ·exact up x (h.row x hx)
  ·rw[IN.1 hx];exact h2.more n (Uh a1)
 ·rcases h2.closed x hx with h3|h3
  ·rcases Dg.1 h3 with rfl|h3
   ·exact .inr ⟨k,hm,h2.row⟩
   ·rcases h.closed x h3 with h4|⟨j,h4,h5⟩
    ·exact .inl h4
    ·exact .inr ⟨j,h4,λy hy=>up y (h5 y hy)⟩
  ·exact .inr h3
def upI(n:Nat):AcK:=(List.range n).map λi:Nat=>(i:Int)
theorem zhO{n:Nat}{k:Int}:k∈upI n↔0<=k/\k<n:=by
 rw[upI,Of];constructor
 ·rintro⟨i,hi,rfl⟩;have:=Aa5.1 hi;omega
 ·rintro⟨h1,h2⟩;exact⟨k.toNat,Aa5.2 (by omega),by omega⟩
theorem ziR(n:Nat):(upI n).Nodup:=RI List.nodup_range λa _ b _ h=>Int.ofNat.inj h
theorem zk1{n:Nat}:((n:Int)::upI n).Perm (upI (n+1)):=by
 rw[upI,upI,List.range_succ,AaL];exact List.perm_append_comm (l₁:=[(n:Int)])
theorem zgf{i:Nat}{a':KV}(h:Gz rows m)(hv:(m.map Prod.snd).Perm (upI i))(ha:∀n,¬LY turn a n)(ht:Iw rows turn m a (rows.getD i []) a'):¬∃σ:Nat->Int,(∀j,j<=i->σ j∈rows.getD j [])/\∀j k,j<=i->k<=i->σ j=σ k->j=k:=by
 rintro⟨σ,h1,h2⟩
 let E:=m.filter λe=>decide (LY turn a' e.1)
 have hE:∀n,LY turn a' n->n∈E.map Prod.fst:=λn hn=>by
  rcases ht.closed n hn with h3|⟨k,h3,_⟩
  ·exact At h3 (ha n)
  ·exact Of.2 ⟨(n,k),Aan.2 ⟨znE h3,Or hn⟩,rfl⟩
 have hX:∀x∈E.map Prod.snd,0<=x/\x<(i:Int):=λx hx=>by
  obtain⟨e,he,rfl⟩:=Of.1 hx;exact zhO.1 (hv.subset (Of.2 ⟨e,(Aan.1 he).1,rfl⟩))
 have nd:((i:Int)::E.map Prod.snd).Nodup:=by
  rw[AaN];refine⟨λhx=>by have:=hX _ hx;omega,?_⟩
  exact((hv.nodup_iff.2 (ziR i))).sublist (List.filter_sublist.map Prod.snd)
 have nd2:(((i:Int)::E.map Prod.snd).map λx=>σ x.toNat).Nodup:=RI nd λx hx y hy e=>by
  have b:∀z,z∈((i:Int)::E.map Prod.snd)->0<=z/\z<=(i:Int):=λz hz=>by
   rcases OF.1 hz with rfl|hz
   ·omega
   ·have:=hX z hz;omega
  have:=h2 x.toNat y.toNat (by have:=b x hx;omega) (by have:=b y hy;omega) e
  have:=b x hx;have:=b y hy;omega
 have sub:(((i:Int)::E.map Prod.snd).map λx=>σ x.toNat)⊆E.map Prod.fst:=λy hy=>by
  obtain⟨x,hx,rfl⟩:=Of.1 hy;refine hE _ ?_;rcases OF.1 hx with rfl|hx
  ·exact ht.row _ (h1 i (BY _))
  ·have hb:=hX x hx
   obtain⟨e,he,rfl⟩:=Of.1 hx;obtain⟨he1,he2⟩:=Aan.1 he;have he2:=By he2;rcases ht.closed e.1 he2 with h3|⟨k,h3,h4⟩
   ·exact At h3 (ha _)
   ·have:=zm7 h.nodup (show(e.1,e.2)∈m from he1)
    rw[h3]at this
    obtain rfl:k=e.2:=by cases this;rfl
    exact h4 _ (h1 _ (by omega))
 have:=nd2.length_le_of_subset sub;simp only[Aag,Aad]at this
 omega
theorem zk2(h:Gz rows m)(hv:(m.map Prod.snd).Perm (upI rows.length)):∃σ:Nat->Int,(∀j,j<rows.length->σ j∈rows.getD j [])/\∀j k,j<rows.length->k<rows.length->σ j=σ k->j=k:=by
 have hx:∀j:Nat,j<rows.length->∃n,uZ .int .int n m=some (j:Int):=λj hj=>by
  obtain⟨e,he,h1⟩:=Of.1 (hv.symm.subset (zhO.2 (show 0<=(j:Int)/\(j:Int)<rows.length by omega)))
  exact⟨e.1,zm7 h.nodup (by rw[<-h1];exact he)⟩
 refine⟨λj=>if hj:j<rows.length then Classical.choose (hx j hj)else 0,λj hj=> ?_,λj k hj hk e=> ?_⟩
 ·simp only[dif_pos hj]
  have:=h.ok _ _ (Ab9 (hx j hj));simpa using this.2.2
 ·simp only[dif_pos hj,dif_pos hk]at e
  have h1:=Ab9 (hx j hj);have h2:=Ab9 (hx k hk);rw[e,h2]at h1
  have:(k:Int)=j:=by injection h1
  omega
end
theorem CK{α:Type}(p:α->Bool):∀(xs:List α) (i:Int),(MW p xs i= -1/\∀x∈xs,p x=false)\/∃(k:Nat) (h:k<xs.length),MW p xs i=i+k/\p xs[k]=true/\∀(j:Nat) (hj:j<k),p (xs[j]'(by omega))=false
 |[],i=> .inl ⟨rfl,λx hx=>(by cases hx)⟩
 |x::xs,i=>by
  rw[MW];cases e:p x
  ·rw[Vs]
   rcases CK p xs (i+1)with⟨h1,h2⟩|⟨k,h,h1,h2,h3⟩
   ·refine .inl ⟨h1,λy hy=> ?_⟩
    rcases OF.1 hy with rfl|hy
    ·exact e
    ·exact h2 y hy
   ·refine .inr ⟨k+1,by simpa using h,by rw[h1];omega,by simpa using h2,λj hj=> ?_⟩
    cases j with
    |zero=>exact e
    |succ j=>simpa using h3 j (by omega)
  ·exact .inr ⟨0,Nat.zero_lt_succ _,by rw[AI];omega,e,λj hj=>At hj (by omega)⟩
def Ui:AcV->Int->Int->AcV
 |[],v,n=>[⟨v,n⟩]
 |t::r,v,n=>if t.v=v then⟨t.v,t.times+n⟩::r else t::Ui r v n
def fh(z:List (Int×Int)):AcV:=z.foldl (λo x=>Ui o x.1 x.2) []
def SP(f:Int->Int)(ts:AcV):Int:=(ts.map λt=>t.times*f t.v).sum
theorem CL{f:Int->Int}:SP f []=0:=rfl
theorem jV{f:Int->Int}{t:xP}{ts:AcV}:SP f (t::ts)=t.times*f t.v+SP f ts:=by rw[SP,Aak,Ab0];rfl
theorem Ft{f:Int->Int}{ts us:AcV}:SP f (ts++us)=SP f ts+SP f us:=by rw[SP,AaL,List.sum_append];rfl
theorem zaR{f:Int->Int}{v n:Int}:∀ {o:AcV},SP f (Ui o v n)=SP f o+n*f v
 |[]=>by rw[Ui,jV,CL];simp
 |t::r=>by
  rw[Ui];split
  ·rename_i h
   rw[jV,jV,Int.add_mul,h];omega
  ·rw[jV,jV,zaR];omega
theorem zeh{v n:Int}:∀ {o:AcV},(∀t∈o,t.v≠v)->Ui o v n=o++[⟨v,n⟩]
 |[],_=>rfl
 |t::r,h=>by
  rw[Ui,An (h t (Ks ..)),zeh λt ht=>h t (On _ ht)];rfl
theorem zei{v n:Int}:∀ {o:AcV} {k:Nat} (hk:k<o.length),o[k].v=v->(∀(j:Nat) (hj:j<k),(o[j]'(by omega)).v≠v)->Ui o v n=o.set k ⟨o[k].v,o[k].times+n⟩
 |[],k,hk,_,_=>At hk (AaU _)
 |t::r,0,_,h,_=>by rw[Ui,As (show t.v=v from h)];rfl
 |t::r,k+1,hk,h,hj=>by
  rw[Ui,An (show¬t.v=v from hj 0 (Nat.zero_lt_succ _)),List.set_cons_succ,zei (k:=k) (by simpa using hk) (by simpa using h) λj h2=>by simpa using hj (j+1) (by omega)]
  rfl
theorem CM{v n x:Int}:∀ {o:AcV},(x∈(Ui o v n).map xP.v)↔x∈o.map xP.v\/x=v
 |[]=>by rw[Ui];simp
 |t::r=>by
  rw[Ui];split
  ·rename_i h
   simp only[Aak,OF];exact⟨λe=> .inl e,λe=>e.elim id λe=> .inl (e.trans h.symm)⟩
  ·simp only[Aak,OF]
   rw[CM];exact⟨λe=>e.elim (λe=> .inl (.inl e)) λe=>e.elim (λe=> .inl (.inr e)) .inr,λe=>e.elim (λe=>e.elim .inl λe=> .inr (.inl e)) λe=> .inr (.inr e)⟩
theorem CN{v n:Int}:∀ {o:AcV},(o.map xP.v).Nodup->((Ui o v n).map xP.v).Nodup
 |[],_=>by rw[Ui];simp
 |t::r,h=>by
  rw[Ui];rw[Aak,AaN]at h
  split
  ·rw[Aak,AaN];exact h
  ·rename_i hn
   rw[Aak,AaN];refine⟨λhm=> ?_,CN h.2⟩
   rcases CM.1 hm with hm|hm
   ·exact h.1 hm
   ·exact hn hm
theorem zej{v n:Int}:∀ {o:AcV},(Ui o v n).length<=o.length+1
 |[]=>by rw[Ui];simp
 |t::r=>by
  rw[Ui];split
  ·simp
  ·have:=zej (v:=v) (n:=n) (o:=r);simp;omega
theorem CO{v n:Int}(hn: -1000<=n/\n<=1000){b:Nat}:∀ {o:AcV},(∀t∈o,-1000*(b:Int)<=t.times/\t.times<=1000*(b:Int))->∀t∈Ui o v n,-1000*((b+1:Nat):Int)<=t.times/\t.times<=1000*((b+1:Nat):Int)
 |[],_,t,ht=>by
  rw[Ui,IN]at ht
  subst ht;show -1000*((b+1:Nat):Int)<=n/\n<=1000*((b+1:Nat):Int)
  omega
 |u::r,h,t,ht=>by
  rw[Ui]at ht
  split at ht
  ·rcases OF.1 ht with rfl|ht
   ·have:=h u (Ks ..)
    show -1000*((b+1:Nat):Int)<=u.times+n/\u.times+n<=1000*((b+1:Nat):Int)
    omega
   ·have:=h t (On _ ht);omega
  ·rcases OF.1 ht with rfl|ht
   ·have:=h _ (Ks ..);omega
   ·exact CO hn (λt ht=>h t (On _ ht)) t ht
theorem YS{z:List (Int×Int)}{x:Int×Int}:fh (z++[x])=Ui (fh z) x.1 x.2:=by rw[fh,Abj];rfl
theorem dW{α:Type}{C:List α->Prop}(h0:C [])(h1:∀l a,C l->C (l++[a]))(l:List α):C l:=by
 have:∀n (l:List α),l.length=n->C l:=λn=>by
  induction n with
  |zero=>exact λl hl=>by rw[AaS.1 hl];exact h0
  |succ n ih=>
   intro l hl;have hn:l≠[]:=λe=>by rw[e]at hl;cases hl
   rw[<-List.dropLast_concat_getLast hn];exact h1 _ _ (ih _ (by rw[List.length_dropLast];omega))
 exact this _ l rfl
theorem Q1(z:List (Int×Int)):((fh z).map xP.v).Nodup:=
 dW (C:=λz=>((fh z).map xP.v).Nodup) Abl (λl a h=>by rw[YS];exact CN h) z
theorem CP{x:Int}(z:List (Int×Int)):(x∈(fh z).map xP.v)↔x∈z.map Prod.fst:=
 dW (C:=λz=>(x∈(fh z).map xP.v)↔x∈z.map Prod.fst) (by simp[fh]) (λl a h=>by rw[YS,CM,h,AaL,TO];simp) z
theorem CQ(z:List (Int×Int)):(fh z).length<=z.length:=
 dW (C:=λz=>(fh z).length<=z.length) (BY _) (λl a h=>by rw[YS,It];exact Aai zej (Nat.succ_le_succ h)) z
theorem Ix(z:List (Int×Int)):(∀x∈z,-1000<=x.2/\x.2<=1000)->∀t∈fh z,-1000*(z.length:Int)<=t.times/\t.times<=1000*(z.length:Int):=
 dW (C:=λz=>(∀x∈z,-1000<=x.2/\x.2<=1000)->∀t∈fh z,-1000*(z.length:Int)<=t.times/\t.times<=1000*(z.length:Int)) (λ_ t ht=>(by cases ht)) (λl a h hz t ht=>by
  rw[YS]at ht
  rw[It];exact CO (hz a (by simp)) (h λx hx=>hz x (by simp[hx])) t ht) z
theorem zgg{f:Int->Int}(z:List (Int×Int)):SP f (fh z)=(z.map λx=>x.2*f x.1).sum:=
 dW (C:=λz=>SP f (fh z)=(z.map λx=>x.2*f x.1).sum) rfl (λl a h=>by rw[YS,zaR,h,AaL,List.sum_append];simp) z
def uP(c:zF):AcV:=fh (c.vars.zip c.consts)
theorem zaS:∀(ks vs:AcK) (f:Int->Int),Ns (ks.zip (vs.map f))=((vs.zip ks).map λx=>x.2*f x.1).sum
 |[],vs,f=>by cases vs<;>rfl
 |k::ks,[],f=>rfl
 |k::ks,v::vs,f=>by
  rw[Aak,AbZ,AbZ,Ns,Aak,Ab0,Aak,Ab0,<-zaS ks vs f];rfl
theorem zgh{c:zF}{vs:AcK}:SP (λv=>vs.getD v.toNat 0) (uP c)=Ns (c.consts.zip (yA c vs)):=by
 rw[uP,zgg,yA,zaS]
def Fu(ts:AcV)(s:AcL)(x:Int):Prop:=∃vs,Tw vs s/\x=SP (λv=>vs.getD v.toNat 0) ts
theorem ziS{s:AcL}(hf:zZ s=false){x:Int}:Fu [] s x↔x=0:=by
 constructor
 ·rintro⟨vs,_,h⟩;exact h
 ·intro h
  obtain⟨vs,hv⟩:=NR hf;exact⟨vs,hv,h⟩
theorem CR{f g:Int->Int}:∀ {ts:AcV},(∀t∈ts,f t.v=g t.v)->SP f ts=SP g ts
 |[],_=>rfl
 |t::ts,h=>by rw[jV,jV,h t (Ks ..),CR λt ht=>h t (On _ ht)]
theorem zek{ts:AcV}{vs:AcK}{v n:Int}(hv:0<=v)(hl:v.toNat<vs.length)(hts:∀t∈ts,0<=t.v)(hn:v∉ts.map xP.v):SP (λu=>(vs.set v.toNat n).getD u.toNat 0) ts=SP (λu=>vs.getD u.toNat 0) ts:=
 CR λt ht=>by
  have h1:=hts t ht;rw[sQ hl,An];intro e;exact hn (Of.2 ⟨t,ht,by omega⟩)
theorem zgi{ts:AcV}{t:xP}{s:AcL}(ht:0<=t.v)(hl:t.v.toNat<s.length)(hts:∀t∈ts,0<=t.v)(hn:t.v∉ts.map xP.v){x:Int}:Fu (ts++[t]) s x↔∃a,Fu ts s a/\∃n∈s.getD t.v.toNat [],x=a+t.times*n:=by
 constructor
 ·rintro⟨vs,hv,rfl⟩
  refine⟨_,⟨vs,hv,rfl⟩,vs.getD t.v.toNat 0,hv.2 _ hl,?_⟩;rw[Ft,jV,CL,Int.add_zero]
 ·rintro⟨a,⟨vs,hv,rfl⟩,n,hm,rfl⟩
  have hl2:t.v.toNat<vs.length:=by rw[hv.1];exact hl
  refine⟨vs.set t.v.toNat n,hv.set hm hl,?_⟩;rw[Ft,jV,CL,Int.add_zero,zek ht hl2 hts hn,sQ hl2,As rfl]
def zel(c:zF)(n:Int):Bool:=if c.kind=1 then decide (n<=c.n)else if c.kind=2 then decide (n=c.n)else !decide (n=c.n)
theorem zaT{c:zF}(h:1<=c.kind/\c.kind<=3){vs:AcK}:yZ c vs=zel c (SP (λv=>vs.getD v.toNat 0) (uP c)):=by
 rw[zgh,yZ,zel];have:c.kind=1\/c.kind=2\/c.kind=3:=by omega
 rcases this with e|e|e<;>simp[e]
theorem KU{f:Int->Int}:∀ {ts:AcV} {i:Nat} (hi:i<ts.length),SP f ts=SP f (ts.eraseIdx i)+ts[i].times*f ts[i].v
 |[],i,hi=>At hi (AaU _)
 |t::ts,0,_=>by rw[Acv,jV,Int.add_comm];rfl
 |t::ts,i+1,hi=>by
  rw[AbR,jV,jV,KU (i:=i) (by simpa using hi)]
  simp only[List.getElem_cons_succ];omega
theorem Fv{α:Type}:∀ {l:List α} {i:Nat} (hi:i<l.length),l.Nodup->l[i]∉l.eraseIdx i
 |[],i,hi,_=>At hi (AaU _)
 |a::l,0,_,h=>by rw[Acv];exact(AaN.1 h).1
 |a::l,i+1,hi,h=>by
  rw[AaN]at h
  rw[AbR,OF];simp only[List.getElem_cons_succ];rintro(e|e)
  ·exact h.1 (e▸AS (by simpa using hi))
  ·exact Fv (by simpa using hi) h.2 e
theorem zaU{α β:Type}{f:α->β}:∀ {l:List α} {i:Nat},(l.map f).eraseIdx i=(l.eraseIdx i).map f
 |[],_=>rfl
 |a::l,0=>rfl
 |a::l,i+1=>by rw[Aak,AbR,AbR,Aak,zaU]
theorem KW{c:zF}{nv:Nat}(hc:tS c nv):∀t∈uP c,0<=t.v/\t.v<nv:=λt ht=>by
 have:=(CP (x:=t.v) (c.vars.zip c.consts)).1 (Of.2 ⟨t,ht,rfl⟩);obtain⟨x,hx,e⟩:=Of.1 this;exact hc.vars t.v (by rw[<-e];exact(AbM hx).1)
theorem zmz{c:zF}{s:AcL}(hc:tS c s.length)(hk:c.kind<=3){i:Nat}(hi:i<(uP c).length){n:Int}(hn:n∈s.getD (uP c)[i].v.toNat []):
  May (yZ c) s (uP c)[i].v.toNat n↔∃a,Fu ((uP c).eraseIdx i) s a/\zel c (a+(uP c)[i].times*n)=true:=by
 have hk1:=hc.kind.1;have hv:=KW hc;have h1:=hv _ (AS hi);have hl:(uP c)[i].v.toNat<s.length:=by omega
 have hne:(uP c)[i].v∉((uP c).eraseIdx i).map xP.v:=by
  have:=Fv (l:=(uP c).map xP.v) (i:=i) (by rw[Aag];exact hi) (Q1 _)
  rw[Ab4]at this
  rwa[zaU]at this
 constructor
 ·rintro⟨vs,h2,h3,h4⟩
  refine⟨_,⟨vs,h2,rfl⟩,?_⟩;rw[zaT ⟨hk1,hk⟩,KU hi,h3]at h4
  exact h4
 ·rintro⟨a,⟨vs,h2,rfl⟩,h4⟩
  have hl2:(uP c)[i].v.toNat<vs.length:=by rw[h2.1];exact hl
  refine⟨vs.set (uP c)[i].v.toNat n,h2.set hn hl,by rw[sQ hl2,As rfl],?_⟩
  rw[zaT ⟨hk1,hk⟩,KU hi,zek h1.1 hl2 (λt ht=>(hv t (List.mem_of_mem_eraseIdx ht)).1) hne,sQ hl2,As rfl]
  exact h4
theorem zgj{α:Type}{l:List α}{i k:Nat}(hk:k<l.length):(l.take (k+1)).eraseIdx i=if k=i then(l.take k).eraseIdx i else(l.take k).eraseIdx i++[l[k]]:=by
 have hl:(l.take k).length=k:=by rw[Aaf];omega
 rw[<-Aar hk];split
 ·rename_i e
  subst e;rw[List.eraseIdx_append_of_length_le (by omega),hl,Nat.sub_self,Acv,Aa2,AcE (by omega)]
 ·rename_i e
  by_cases h:k<i
  ·rw[AcE (l:=l.take k) (by omega),AcE (by rw[It,hl];simp;omega)]
  ·rw[List.eraseIdx_append_of_lt_length (by omega)]
def uG(s:AcL):AcK->AcK->Nat->AcK×Nat
 |[],vs,n=>(vs,n)
 |v::r,vs,n=>uG s r (vs.set v.toNat ((s.getD v.toNat []).getD (n%(s.getD v.toNat []).length) 0)) (n/(s.getD v.toNat []).length)
def X6(s:AcL):AcK->Nat
 |[]=>1
 |v::r=>(s.getD v.toNat []).length*X6 s r
theorem Iy{s:AcL}:∀(r vs:AcK) (n:Nat),(uG s r vs n).2=n/X6 s r
 |[],vs,n=>by rw[uG,X6,Nat.div_one]
 |v::r,vs,n=>by rw[uG,Iy r,X6,Nat.div_div_eq_div_mul]
theorem NT{s:AcL}:∀(r vs:AcK) (n:Nat),(uG s r vs n).1.length=vs.length
 |[],vs,n=>rfl
 |v::r,vs,n=>by rw[uG,NT r,Aaw]
theorem dX{s:AcL}{u:Nat}:∀(r vs:AcK) (n:Nat),(∀v∈r,v.toNat≠u)->(uG s r vs n).1.getD u 0=vs.getD u 0
 |[],vs,n,_=>rfl
 |v::r,vs,n,h=>by
  rw[uG,dX r _ _ λv hv=>h v (On _ hv),Aam,List.getElem?_set_ne (h v (Ks ..)),<-Aam]
theorem CS{s:AcL}:∀(r vs:AcK) (n:Nat),r.Nodup->(∀v∈r,0<=v/\v.toNat<vs.length/\s.getD v.toNat []≠[])->∀v∈r,(uG s r vs n).1.getD v.toNat 0∈s.getD v.toNat []
 |[],vs,n,_,_,v,hv=>by cases hv
 |u::r,vs,n,hd,h,v,hv=>by
  rw[AaN]at hd
  have hu:=h u (Ks ..);rw[uG];rcases OF.1 hv with rfl|hv
  ·rw[dX r _ _ λw hw=> ?_,sQ hu.2.1,As rfl]
   ·have hp:0<(s.getD v.toNat []).length:=AbC.2 hu.2.2
    have hm:=Nat.mod_lt n hp;rw[yI _ hm];exact AS hm
   ·have h1:=(h w (On _ hw)).1
    intro e;exact hd.1 (by rw[show v=w by omega];exact hw)
  ·exact CS r _ _ hd.2 (λw hw=>by rw[Aaw];exact h w (On _ hw)) v hv
theorem Fw{s:AcL}{us:AcK}:∀(r:AcK),r.Nodup->∀(vs:AcK),(∀v∈r,0<=v/\v.toNat<vs.length/\us.getD v.toNat 0∈s.getD v.toNat [])->∃n,n<X6 s r/\∀v∈r,(uG s r vs n).1.getD v.toNat 0=us.getD v.toNat 0
 |[],_,vs,_=>⟨0,Nat.one_pos,λv hv=>(by cases hv)⟩
 |u::r,hd,vs,h=>by
  rw[AaN]at hd
  have hu:=h u (Ks ..);obtain⟨d,hd1,hd2⟩:=Aal hu.2.2;obtain⟨n,hn1,hn2⟩:=Fw r hd.2 (vs.set u.toNat (us.getD u.toNat 0)) λv hv=>by rw[Aaw];exact h v (On _ hv)
  have hp:0<(s.getD u.toNat []).length:=by omega
  have e1:(d+(s.getD u.toNat []).length*n)%(s.getD u.toNat []).length=d:=by rw[Nat.add_mul_mod_self_left,Nat.mod_eq_of_lt hd1]
  have e2:(d+(s.getD u.toNat []).length*n)/(s.getD u.toNat []).length=n:=by rw[Nat.add_mul_div_left _ _ hp,Nat.div_eq_of_lt hd1,Aas]
  refine⟨d+(s.getD u.toNat []).length*n,?_,λv hv=> ?_⟩
  ·rw[X6]
   have:(s.getD u.toNat []).length*(n+1)<=(s.getD u.toNat []).length*X6 s r:=Nat.mul_le_mul_left _ hn1;rw[Nat.mul_add,Abg]at this
   omega
  ·rw[uG,e1,e2,yI _ hd1,hd2]
   rcases OF.1 hv with rfl|hv
   ·rw[dX r _ _ λw hw=> ?_,sQ hu.2.1,As rfl]
    have h1:=(h w (On _ hw)).1;intro e;exact hd.1 (by rw[show v=w by omega];exact hw)
   ·exact hn2 v hv
theorem zaV{s:AcL}:∀(r:AcK),(∀v∈r,s.getD v.toNat []≠[])->0<X6 s r
 |[],_=>Nat.one_pos
 |v::r,h=>Nat.mul_pos (AbC.2 (h v (Ks ..))) (zaV r λv hv=>h v (On _ hv))
theorem zem{s:AcL}{b:Nat}(hb:∀v:Nat,(s.getD v []).length<=b):∀(r:AcK),X6 s r<=b^r.length
 |[]=>BY _
 |v::r=>by rw[X6,Aad,Nat.pow_succ,Nat.mul_comm (b^_)];exact AbL (hb _) (zem hb r)
def Iz(c:zF)(s:AcL)(all r vs:AcK)(x:Int×Int):Prop:=
 ∃us:AcK,us.length=vs.length/\(∀u:Nat,(∀v∈r,v.toNat≠u)->us.getD u 0=vs.getD u 0)/\(∀v∈r,us.getD v.toNat 0∈s.getD v.toNat [])/\yZ c us=true/\∃v∈all,x=(v,us.getD v.toNat 0)
section
variable {c:zF}{s:AcL}{all r vs ws:AcK}{x:Int×Int}
theorem zk3:Iz c s all [] vs x↔yZ c vs=true/\∃v∈all,x=(v,vs.getD v.toNat 0):=by
 constructor
 ·rintro⟨us,h1,h2,_,h3,h4⟩
  obtain rfl:us=vs:=NQ (d:=0) h1 λu=>h2 u λv hv=>by cases hv
  exact⟨h3,h4⟩
 ·rintro⟨h3,h4⟩
  exact⟨vs,rfl,λ_ _=>rfl,λv hv=>(by cases hv),h3,h4⟩
theorem zgk(hl:ws.length=vs.length)(h:∀u:Nat,(∀v∈r,v.toNat≠u)->ws.getD u 0=vs.getD u 0):Iz c s all r ws x↔Iz c s all r vs x:=by
 constructor
 ·rintro⟨us,h1,h2,h3⟩;exact⟨us,h1.trans hl,λu hu=>(h2 u hu).trans (h u hu),h3⟩
 ·rintro⟨us,h1,h2,h3⟩;exact⟨us,h1.trans hl.symm,λu hu=>(h2 u hu).trans (h u hu).symm,h3⟩
theorem ziT{v:Int}(hv:0<=v)(hl:v.toNat<vs.length)(hr:∀u∈r,0<=u)(hn:v∉r):Iz c s all (v::r) vs x↔∃n∈s.getD v.toNat [],Iz c s all r (vs.set v.toNat n) x:=by
 have hne:∀u∈r,u.toNat≠v.toNat:=λu hu e=>hn (by have:=hr u hu;rw[show v=u by omega];exact hu)
 constructor
 ·rintro⟨us,h1,h2,h3,h4⟩
  refine⟨_,h3 v (Ks ..),us,by rw[Aaw];exact h1,λu hu=> ?_,λu hu=>h3 u (On _ hu),h4⟩
  rw[sQ hl];split
  ·rename_i e;rw[e]
  ·rename_i e
   refine h2 u λw hw=> ?_
   rcases OF.1 hw with rfl|hw
   ·exact λe2=>e e2.symm
   ·exact hu w hw
 ·rintro⟨n,hn2,us,h1,h2,h3,h4⟩
  have e:us.getD v.toNat 0=n:=by rw[h2 v.toNat hne,sQ hl,As rfl]
  refine⟨us,by rw[Aaw]at h1;exact h1,λu hu=> ?_,λu hu=> ?_,h4⟩
  ·rw[h2 u λw hw=>hu w (On _ hw),sQ hl,An λe=>hu v (Ks ..) e.symm]
  ·rcases OF.1 hu with rfl|hu
   ·rw[e];exact hn2
   ·exact h3 u hu
end
theorem Q2{n u:Nat}{f:Nat->Int}(h:u<n):((List.range n).map f).getD u 0=f u:=by
 rw[yI _ (show u<((List.range n).map f).length by simpa using h)];simp
theorem nR{c:zF}{nv:Nat}:∀v∈yB c nv,0<=v/\v<nv:=λv hv=>(o6.1 hv).1
theorem CT{c:zF}{s:AcL}(hc:tS c s.length)(hf:zZ s=false){ws:AcK}(hw:ws.length=s.length){v n:Int}:
  Iz c s (yB c s.length) (yB c s.length) ws (v,n)↔v∈yB c s.length/\May (yZ c) s v.toNat n:=by
 constructor
 ·rintro⟨us,h1,h2,h3,h4,u,hu,e⟩
  obtain⟨rfl,rfl⟩:v=u/\n=us.getD u.toNat 0:=by cases e;exact⟨rfl,rfl⟩
  refine⟨hu,?_⟩;obtain⟨ps,hp⟩:=NR hf;have hg:∀u:Nat,u<s.length->((List.range s.length).map λu:Nat=>if(u:Int)∈yB c s.length then us.getD u 0 else ps.getD u 0).getD u 0=if(u:Int)∈yB c s.length then us.getD u 0 else ps.getD u 0:=λu hu=>Q2 hu
  have hv:=nR v hu;refine⟨(List.range s.length).map λu:Nat=>if(u:Int)∈yB c s.length then us.getD u 0 else ps.getD u 0,⟨by simp,λu hu=> ?_⟩,?_,?_⟩
  ·rw[hg u hu]
   split
   ·rename_i e;simpa using h3 u e
   ·exact hp.2 u hu
  ·rw[hg _ (by omega),As (by rw[Abc hv.1];exact hu)]
  ·rw[<-h4]
   exact kB hc λw h5 h6=>by rw[hg w h5,As (o6.2 ⟨by omega,h6⟩)]
 ·rintro⟨hv,vs,h1,h2,h3⟩
  have hg:∀u:Nat,u<s.length->((List.range s.length).map λu:Nat=>if(u:Int)∈yB c s.length then vs.getD u 0 else ws.getD u 0).getD u 0=if(u:Int)∈yB c s.length then vs.getD u 0 else ws.getD u 0:=λu hu=>Q2 hu
  have hv2:=nR v hv;refine⟨(List.range s.length).map λu:Nat=>if(u:Int)∈yB c s.length then vs.getD u 0 else ws.getD u 0,by simp[hw],λu hu=> ?_,λu hu=> ?_,?_,v,hv,?_⟩
  ·by_cases hl:u<s.length
   ·rw[hg u hl,An λe=>hu _ e (by omega)]
   ·rw[qJ (by simp;omega),qJ (by omega)]
  ·have:=nR u hu
   rw[hg _ (by omega),As (by rw[Abc this.1];exact hu)]
   exact h1.2 _ (by omega)
  ·rw[<-h3]
   exact kB hc λw h5 h6=>by rw[hg w h5,As (o6.2 ⟨by omega,h6⟩)]
  ·rw[hg _ (by omega),As (by rw[Abc hv2.1];exact hv),h2]
theorem GA(lo:Int):∀n,(Df lo n).Nodup
 |0=>Abl
 |n+1=>by
  rw[Df,Aca];refine⟨GA lo n,by simp,λa ha b hb=> ?_⟩
  have h1:=Q0.1 ha;rw[IN]at hb
  omega
theorem Vo{c:zF}{nv:Nat}:(yB c nv).Nodup:=(GA 0 nv).sublist List.filter_sublist
theorem Fx{c:zF}{s:AcL}(hc:tS c s.length)(hf:zZ s=false){ws:AcK}(hw:ws.length=s.length){x:Int×Int}:
  Iz c s (yB c s.length) (yB c s.length) ws x↔∃n,n<X6 s (yB c s.length)/\yZ c (uG s (yB c s.length) ws n).1=true/\∃v∈yB c s.length,x=(v,(uG s (yB c s.length) ws n).1.getD v.toNat 0):=by
 have hne:∀v∈yB c s.length,0<=v/\v.toNat<ws.length/\s.getD v.toNat []≠[]:=λv hv=>by
  have h:=nR v hv;exact⟨h.1,by omega,sT.1 hf _ (by omega)⟩
 constructor
 ·rintro⟨us,h1,h2,h3,h4,v,hv,rfl⟩
  obtain⟨n,hn1,hn2⟩:=Fw (s:=s) (us:=us) _ Vo ws λv hv=>⟨(hne v hv).1,(hne v hv).2.1,h3 v hv⟩
  refine⟨n,hn1,?_,v,hv,by rw[hn2 v hv]⟩
  rw[<-h4];refine kB hc λu h5 h6=> ?_
  have:=hn2 (u:Int) (o6.2 ⟨by omega,h6⟩)
  simpa using this
 ·rintro⟨n,hn1,hn2,v,hv,rfl⟩
  exact⟨_,NT _ _ _,λu hu=>dX _ _ _ hu,λv hv=>CS _ _ _ Vo hne v hv,hn2,v,hv,rfl⟩
theorem IA{s:AcL}:∀(r:AcK) (vs ws:AcK) (n:Nat),vs.length=ws.length->∀v∈r,v.toNat<ws.length->(uG s r vs n).1.getD v.toNat 0=(uG s r ws n).1.getD v.toNat 0
 |[],vs,ws,n,_,v,hv,_=>by cases hv
 |u::r,vs,ws,n,hl,v,hv,hlt=>by
  rw[uG,uG]
  by_cases hm:∃w∈r,w.toNat=v.toNat
  ·obtain⟨w,hw,e⟩:=hm
   rw[<-e];exact IA r _ _ _ (by rw[Aaw,Aaw,hl]) w hw (by rw[Aaw];omega)
  ·have hn:∀w∈r,w.toNat≠v.toNat:=λw hw e=>hm ⟨w,hw,e⟩
   rw[dX r _ _ hn,dX r _ _ hn];rcases OF.1 hv with rfl|hv
   ·rw[sQ (by omega),sQ hlt,As rfl,As rfl]
   ·exact At rfl (hn v hv)
def IB:wG:= {own:=[5,7],live:=[],n:=44}
theorem AL(f:zF)(a:AcL)(R:yL):FD IB f190 [dC f,dS a] R=
 (yM xF [dS a] .bool λs=>
 zJ s
 (yM fy [dS a] (.list (.list .int)) λt=>
 R (dS t))
 (yM fJ [dC f] (.list .int) λg=>
 zJ (decide ((g.length:Int)=0))
 (yM aV [dC f,.sl .int ([]:AcK)] .bool λu=>
 zJ u
 (yM fy [dS a] (.list (.list .int)) λv=>
 R (dS v))
 (yM uT [dS a] (.list (.list .int)) λw=>
 R (dS w)))
 (zJ (decide (f.kind<=3))
 (∃h:AcV,∃i:List (Int×(AcK)),∃b:zF,yQ Ye [dC f,dS a] [] (.clo oc none [.iptr [.sl .term h] 0,.iptr [.mp .int (.list .int) i] 0,.iptr (nX b []) 0]) []/\
 yM sY [dS a,.clo oa none [.iptr [.sl .int g] 0,.iptr [.clo oc none [.iptr [.sl .term h] 0,.iptr [.mp .int (.list .int) i] 0,.iptr (nX b []) 0]] 0]] (.list (.list .int)) λx=>
 R (dS x))
 (zJ (decide (f.kind=4))
 (yM Xg [.sl .int f.vars] .bool λy=>
 zJ (!y)
 (∃j:AcL,∃c:zF,yQ Yf [dC f,dS a] [] (.clo od none [.iptr [dS j] 0,.iptr (nX c []) 0]) []/\
 yM sY [dS a,.clo oa none [.iptr [.sl .int g] 0,.iptr [.clo od none [.iptr [dS j] 0,.iptr (nX c []) 0]] 0]] (.list (.list .int)) λz=>
 R (dS z))
 (∃d:zF,∃k:AcL,∃l:AcK,∃m:AcK,∃n:List ((Int×Int)×Int),yQ dQ [dC f,dS a] [] (.clo xN none [.iptr [.iptr (nX d [dS k,.sl .int l,.sl .int m,.mp (.pr .int .int) .int n]) 0] 0]) []/\
 yM sY [dS a,.clo oa none [.iptr [.sl .int g] 0,.iptr [.clo xN none [.iptr [.iptr (nX d [dS k,.sl .int l,.sl .int m,.mp (.pr .int .int) .int n]) 0] 0]] 0]] (.list (.list .int)) λaa=>
 R (dS aa)))
 (∃e:zF,∃o:AcL,∃p:AcK,∃q:AcK,∃r:List ((Int×Int)×Int),yQ dQ [dC f,dS a] [] (.clo xN none [.iptr [.iptr (nX e [dS o,.sl .int p,.sl .int q,.mp (.pr .int .int) .int r]) 0] 0]) []/\
 yM sY [dS a,.clo oa none [.iptr [.sl .int g] 0,.iptr [.clo xN none [.iptr [.iptr (nX e [dS o,.sl .int p,.sl .int q,.mp (.pr .int .int) .int r]) 0] 0]] 0]] (.list (.list .int)) λab=>
 R (dS ab)))))):=by kernel_rfl
theorem CU(a:zF)(b:AcL):xZ IB f190 iE [dC a,dS b]:=wA func190 (by kernel_rfl) ntmps190 rfl
def LZ:wG:= {own:=[5,12,13,15],live:=[],n:=19}
theorem CV(a:zF)(b:AcL)(R:oG):FH LZ f242 [dC a,dS b] [] [] false R=
 (yM fJ [dC a] (.list .int) λc=>
 ((b.length:Int)=(b.length:Int)/\
 0<=(b.length:Int)/\
 xQ .int ((b.length:Int).toNat)=true/\
 (((∃d:AcK,∃e:List ((Int×Int)×Int),yQ xJ [AcY,dI 0] [(1000,.cells (nX a [dS b,.sl .int c,.own 2000,.own 1001])),(2000,.row 3 .int (List.replicate ((b.length:Int).toNat) (Ty.dflt .int))),(1001,.mp (.pr .int .int) .int ([]:List ((Int×Int)×Int)))] (.tup []) [(1000,.cells (nX a [dS b,.sl .int c,.own 2000,.own 1001])),(2000,.row 3 .int d),(1001,.mp (.pr .int .int) .int e)]/\
 R (.clo xN none [.iptr [.iptr (nX a [dS b,.sl .int c,.sl .int d,.mp (.pr .int .int) .int e]) 0] 0]) [])/\
 ∃f:AcK,∃g:List ((Int×Int)×Int),yQ xJ [AcY,dI 0] [(1000,.cells (nX a [dS b,.sl .int c,.own 2000,.own 1001])),(2000,.row 3 .int (List.replicate ((b.length:Int).toNat) (Ty.dflt .int))),(1001,.mp (.pr .int .int) .int ([]:List ((Int×Int)×Int)))] (.tup []) [(1000,.cells (nX a [dS b,.sl .int c,.own 2000,.own 1001])),(2000,.row 3 .int f),(1001,.mp (.pr .int .int) .int g)]/\
 R (.clo xN none [.iptr [.iptr (nX a [dS b,.sl .int c,.sl .int f,.mp (.pr .int .int) .int g]) 0] 0]) [])/\
 ∃h:AcK,∃i:List ((Int×Int)×Int),yQ xJ [AcY,dI 0] [(1000,.cells (nX a [dS b,.sl .int c,.own 2000,.own 1001])),(2000,.row 3 .int (List.replicate ((b.length:Int).toNat) (Ty.dflt .int))),(1001,.mp (.pr .int .int) .int ([]:List ((Int×Int)×Int)))] (.tup []) [(1000,.cells (nX a [dS b,.sl .int c,.own 2000,.own 1001])),(2000,.row 3 .int h),(1001,.mp (.pr .int .int) .int i)]/\
 R (.clo xN none [.iptr [.iptr (nX a [dS b,.sl .int c,.sl .int h,.mp (.pr .int .int) .int i]) 0] 0]) [])/\
 ∃j:AcK,∃k:List ((Int×Int)×Int),yQ xJ [AcY,dI 0] [(1000,.cells (nX a [dS b,.sl .int c,.own 2000,.own 1001])),(2000,.row 3 .int (List.replicate ((b.length:Int).toNat) (Ty.dflt .int))),(1001,.mp (.pr .int .int) .int ([]:List ((Int×Int)×Int)))] (.tup []) [(1000,.cells (nX a [dS b,.sl .int c,.own 2000,.own 1001])),(2000,.row 3 .int j),(1001,.mp (.pr .int .int) .int k)]/\
 R (.clo xN none [.iptr [.iptr (nX a [dS b,.sl .int c,.sl .int j,.mp (.pr .int .int) .int k]) 0] 0]) [])/\
 (((b.length:Int)=(b.length:Int)/\
 0<=(b.length:Int)/\
 xQ .int ((b.length:Int).toNat)=true/\
 ((∃l:AcK,∃m:List ((Int×Int)×Int),yQ xJ [AcY,dI 0] [(1000,.cells (nX a [dS b,.sl .int c,.own 2000,.own 1001])),(2000,.row 3 .int (List.replicate ((b.length:Int).toNat) (Ty.dflt .int))),(1001,.mp (.pr .int .int) .int ([]:List ((Int×Int)×Int)))] (.tup []) [(1000,.cells (nX a [dS b,.sl .int c,.own 2000,.own 1001])),(2000,.row 3 .int l),(1001,.mp (.pr .int .int) .int m)]/\
 R (.clo xN none [.iptr [.iptr (nX a [dS b,.sl .int c,.sl .int l,.mp (.pr .int .int) .int m]) 0] 0]) [])/\
 ∃n:AcK,∃o:List ((Int×Int)×Int),yQ xJ [AcY,dI 0] [(1000,.cells (nX a [dS b,.sl .int c,.own 2000,.own 1001])),(2000,.row 3 .int (List.replicate ((b.length:Int).toNat) (Ty.dflt .int))),(1001,.mp (.pr .int .int) .int ([]:List ((Int×Int)×Int)))] (.tup []) [(1000,.cells (nX a [dS b,.sl .int c,.own 2000,.own 1001])),(2000,.row 3 .int n),(1001,.mp (.pr .int .int) .int o)]/\
 R (.clo xN none [.iptr [.iptr (nX a [dS b,.sl .int c,.sl .int n,.mp (.pr .int .int) .int o]) 0] 0]) [])/\
 ∃p:AcK,∃q:List ((Int×Int)×Int),yQ xJ [AcY,dI 0] [(1000,.cells (nX a [dS b,.sl .int c,.own 2000,.own 1001])),(2000,.row 3 .int (List.replicate ((b.length:Int).toNat) (Ty.dflt .int))),(1001,.mp (.pr .int .int) .int ([]:List ((Int×Int)×Int)))] (.tup []) [(1000,.cells (nX a [dS b,.sl .int c,.own 2000,.own 1001])),(2000,.row 3 .int p),(1001,.mp (.pr .int .int) .int q)]/\
 R (.clo xN none [.iptr [.iptr (nX a [dS b,.sl .int c,.sl .int p,.mp (.pr .int .int) .int q]) 0] 0]) [])/\
 (b.length:Int)=(b.length:Int)/\
 0<=(b.length:Int)/\
 xQ .int ((b.length:Int).toNat)=true/\
 ∃r:AcK,∃s:List ((Int×Int)×Int),yQ xJ [AcY,dI 0] [(1000,.cells (nX a [dS b,.sl .int c,.own 2000,.own 1001])),(2000,.row 3 .int (List.replicate ((b.length:Int).toNat) (Ty.dflt .int))),(1001,.mp (.pr .int .int) .int ([]:List ((Int×Int)×Int)))] (.tup []) [(1000,.cells (nX a [dS b,.sl .int c,.own 2000,.own 1001])),(2000,.row 3 .int r),(1001,.mp (.pr .int .int) .int s)]/\
 R (.clo xN none [.iptr [.iptr (nX a [dS b,.sl .int c,.sl .int r,.mp (.pr .int .int) .int s]) 0] 0]) [])/\
 ((b.length:Int)=(b.length:Int)/\
 0<=(b.length:Int)/\
 xQ .int ((b.length:Int).toNat)=true/\
 ∃t:AcK,∃u:List ((Int×Int)×Int),yQ xJ [AcY,dI 0] [(1000,.cells (nX a [dS b,.sl .int c,.own 2000,.own 1001])),(2000,.row 3 .int (List.replicate ((b.length:Int).toNat) (Ty.dflt .int))),(1001,.mp (.pr .int .int) .int ([]:List ((Int×Int)×Int)))] (.tup []) [(1000,.cells (nX a [dS b,.sl .int c,.own 2000,.own 1001])),(2000,.row 3 .int t),(1001,.mp (.pr .int .int) .int u)]/\
 R (.clo xN none [.iptr [.iptr (nX a [dS b,.sl .int c,.sl .int t,.mp (.pr .int .int) .int u]) 0] 0]) [])/\
 (b.length:Int)=(b.length:Int)/\
 0<=(b.length:Int)/\
 xQ .int ((b.length:Int).toNat)=true/\
 ∃v:AcK,∃w:List ((Int×Int)×Int),yQ xJ [AcY,dI 0] [(1000,.cells (nX a [dS b,.sl .int c,.own 2000,.own 1001])),(2000,.row 3 .int (List.replicate ((b.length:Int).toNat) (Ty.dflt .int))),(1001,.mp (.pr .int .int) .int ([]:List ((Int×Int)×Int)))] (.tup []) [(1000,.cells (nX a [dS b,.sl .int c,.own 2000,.own 1001])),(2000,.row 3 .int v),(1001,.mp (.pr .int .int) .int w)]/\
 R (.clo xN none [.iptr [.iptr (nX a [dS b,.sl .int c,.sl .int v,.mp (.pr .int .int) .int w]) 0] 0]) []):=by kernel_rfl
theorem Ew(a:zF)(b:AcL):nW LZ f242 dQ [dC a,dS b] [] [] false:=mJ func242 (by kernel_rfl) ntmps242 rfl
def pF:wG:= {own:=[5,6,8,11,14],live:=[(0,([1,2,5,6,15,16,17],[5,6,14])),(2,([1,2,5,6,7,8,9,15,16,17,23,24,25],[5,6,8,14]))],n:=44}
def fi(a:zF)(e:AcL)(R:oG)(b:AcV)(f:Nat)(c:Int)(d:AcV)(g:List (Int×(AcK)))(h:Nat)(i:AcK)(j:Int)(k:AcV)(l m:Int):Prop:=LP pF Tryz.f243 [1,1,1,0,1,0,0,1,1,0,0,1,1,0,1,0,0] 2 h ⟨[(1,dS e),(2,.iptr (nX a []) 0),(5,.ptr 5 0),(6,.ptr 6 0),(7,dI c),(8,.ptr 8 0),(9,.sl .int i),(15,.sl .term b),(16,dI (b.length:Int)),(17,dI c),(23,.sl .term d),(24,dI (d.length:Int)),(25,dI j)],[(5,.cells [.sl .term k]),(6,.cells [.own 14]),(8,.cells [dI l,dI m]),(14,.mp .int (.list .int) g)]⟩ (zH 2 (sK pF Tryz.f243 [1,1,1,0,1,0,0,1,1,0,0,1,1,1] 1 (zH 1 (sK pF Tryz.f243 [1,1,1,0,1,0,0,1,1,1] 0 (iK pF Tryz.f243 [1,1,1,0,1,0,0] 0 f (zH 0 (sK pF Tryz.f243 [1,1,1,1] 0 (eH Tryz.f243 [] false R))))))))
def Zh(a:zF)(c:AcL)(R:oG)(b:AcV)(d:Nat)(e:Int)(f:AcV)(g:List (Int×(AcK))):Prop:=LP pF Tryz.f243 [1,1,1,0,1,0,0] 0 d ⟨[(1,dS c),(2,.iptr (nX a []) 0),(5,.ptr 5 0),(6,.ptr 6 0),(15,.sl .term b),(16,dI (b.length:Int)),(17,dI e)],[(5,.cells [.sl .term f]),(6,.cells [.own 14]),(14,.mp .int (.list .int) g)]⟩ (zH 0 (sK pF Tryz.f243 [1,1,1,1] 0 (eH Tryz.f243 [] false R)))
theorem Lw(f:zF)(c:AcL)(R:oG)(g:AcV)(h:Nat)(d:Int)(b:AcV)(e:List (Int×(AcK)))(l:Nat)(i:AcK)(a:Int)(j:AcV)(k m:Int):fi f c R g h d b e (l+1) i a j k m=
 (zJ (decide (a<(b.length:Int)))
 (xM a b.length=true/\
 zJ (!decide (a=d))
 (yM WF [.sl .int i,dS c,.agg [dI ((zW .term b a.toNat).v),dI ((zW .term b a.toNat).times)]] (.list .int) λn=>
 fi f c R g h d b e l n (yF (a+1)) j k m)
 (fi f c R g h d b e l i (yF (a+1)) j k m))
 (Jt (e.length+1)=true/\
 Zh f c R g h (yF (d+1)) j (qH .int (.list .int) k i e))):=by kernel_rfl
theorem Lx(a:zF)(f:AcL)(R:oG)(b:AcV)(g:Nat)(c:Int)(d:AcV)(e:List (Int×(AcK))):Zh a f R b (g+1) c d e=
 (zJ (decide (c<(b.length:Int)))
 (xM c b.length=true/\
 ∃n2,fi a f R b g c d e n2 ([0]) 0 d ((zW .term b c.toNat).v) ((zW .term b c.toNat).times))
 (R (.clo oc none [.iptr [.sl .term d] 0,.iptr [.mp .int (.list .int) e] 0,.iptr (nX a []) 0]) [])):=by kernel_rfl
theorem GB(a:zF)(b:AcL)(R:oG):FH pF Tryz.f243 [dC a,dS b] [] [] false R=
 (yM Xi [dC a] (.list .term) λc=>
 ∃n0,Zh a b R c n0 0 c ([]:List (Int×(AcK)))):=by kernel_rfl
theorem IC(a:zF)(b:AcL):nW pF Tryz.f243 Ye [dC a,dS b] [] [] false:=mJ func243 (by kernel_rfl) ntmps243 rfl
def NU:wG:= {own:=[],live:=[],n:=14}
theorem Ey(a:AcK)(R:yL):FD NU Tryz.f244 [.sl .int a] R=
 (∃b:AcK,yQ sP [.sl .int a] [] (.own 3000) [(3000,.row 3 .int b)]/\
 ∃c:AcK,yQ pL [.own 1000] [(1000,.row 3 .int b)] (.tup []) [(1000,.row 3 .int c)]/\
 ∃d:AcK,yQ rP [.own 1000] [(1000,.row 3 .int c)] (.sl .int d) []/\
 R (dB (decide ((d.length:Int)<(a.length:Int))))):=by kernel_rfl
theorem GC(a:AcK):xZ NU Tryz.f244 Xg [.sl .int a]:=wA func244 (by kernel_rfl) ntmps244 rfl
def PA:wG:= {own:=[],live:=[],n:=6}
theorem GD(a:zF)(b:AcL)(R:oG):FH PA Tryz.f245 [dC a,dS b] [] [] false R=
 (R (.clo od none [.iptr [dS b] 0,.iptr (nX a []) 0]) []):=by kernel_rfl
theorem ID(a:zF)(b:AcL):nW PA Tryz.f245 Yf [dC a,dS b] [] [] false:=mJ func245 (by kernel_rfl) ntmps245 rfl
def NV:wG:= {own:=[],live:=[],n:=17}
theorem Ez(a c:Int)(d:AcK)(b:AcH)(e:AcO)(R:yL):FD NV Tryz.f246 [dI a,dI c,.iptr [.sl .int d] 0,.iptr [.clo b (some [.bool]) e] 0] R=
 (yM vJ [.sl .int d,dI a] .bool λf=>
 zJ (!f)
 (R (dB true))
 (Xk b/\
 yM b ([dI a,dI c]++e) .bool λg=>
 R (dB g))):=by kernel_rfl
theorem GE(a b:Int)(c:AcK)(d:AcH)(e:AcO):xZ NV Tryz.f246 oa [dI a,dI b,.iptr [.sl .int c] 0,.iptr [.clo d (some [.bool]) e] 0]:=wA func246 (by kernel_rfl) ntmps246 rfl
def pS:wG:= {own:=[],live:=[(0,([0,27,28,29],[1000,1001,2000])),(2,([0,1,59,60,61],[1000,1001,2000]))],n:=83}
def jK(b:Int)(c d:AcK)(e:Int)(f:AcL)(g:AcM)(h:AcL)(a i:AcK)(R:oG)(j:Nat)(k:Int)(l:List ((Int×Int)×Int)):Prop:=LP pS Tryz.f281 [0,1,0,0,1,0,1,0,0] 0 j ⟨[(0,AcY),(27,.sl .int a),(28,dI (a.length:Int)),(29,dI k)],[(1000,.cells [dI b,.sl .int c,.sl .int d,dI e,dS f,.sl .lit g,dS h,.sl .int a,.own 2000,.own 1001]),(1001,.mp (.pr .int .int) .int l),(2000,.row 3 .int i)]⟩ (zH 0 (sK pS Tryz.f281 [0,1,0,1] 0 (sK pS Tryz.f281 [1] 0 (eH Tryz.f281 [AcY] false R))))
def jL(b:AcL)(c:AcK)(a:Int)(R:oG)(d:Nat)(e f:Int)(g h:AcK)(i:Int)(j:AcL)(k:AcM)(l:AcL)(m:AcK)(n:List ((Int×Int)×Int))(o:AcK):Prop:=LP pS Tryz.f281 [1,1,0,0] 2 d ⟨[(0,AcY),(1,dI a),(59,.sl .int (zW (.list .int) b ((zW .int c a.toNat).toNat))),(60,dI ((zW (.list .int) b ((zW .int c a.toNat).toNat)).length:Int)),(61,dI e)],[(1000,.cells [dI f,.sl .int g,.sl .int h,dI i,dS j,.sl .lit k,dS l,.sl .int m,.own 2000,.own 1001]),(1001,.mp (.pr .int .int) .int n),(2000,.row 3 .int o)]⟩ (zH 2 (eH Tryz.f281 [AcY] false R))
theorem SQ(e:Int)(f g:AcK)(h:Int)(i:AcL)(j:AcM)(k:AcL)(a c:AcK)(R:oG)(l:Nat)(b:Int)(d:List ((Int×Int)×Int)):jK e f g h i j k a c R (l+1) b d=
 (zJ (decide (b<(a.length:Int)))
 (xM b a.length=true/\
 xM (zW .int a b.toNat) c.length=true/\
 Jt (d.length+1)=true/\
 jK e f g h i j k a c R l (yF (b+1)) (qH (.pr .int .int) .int (zW .int a b.toNat,zW .int c ((zW .int a b.toNat).toNat)) 1 d))
 (R (.tup []) [(1000,.cells [dI e,.sl .int f,.sl .int g,dI h,dS i,.sl .lit j,dS k,.sl .int a,.own 2000,.own 1001]),(2000,.row 3 .int c),(1001,.mp (.pr .int .int) .int d)])):=by kernel_rfl
theorem Z3(c:AcL)(d:AcK)(a:Int)(R:oG)(o:Nat)(e f:Int)(g h:AcK)(i:Int)(j:AcL)(k:AcM)(l:AcL)(b:AcK)(n:List ((Int×Int)×Int))(m:AcK):jL c d a R (o+1) e f g h i j k l b n m=
 (zJ (decide (e<((zW (.list .int) c ((zW .int d a.toNat).toNat)).length:Int)))
 (xM e (zW (.list .int) c ((zW .int d a.toNat).toNat)).length=true/\
 xM a b.length=true/\
 xM (zW .int b a.toNat) m.length=true/\
 ∃p:AcK,∃q:List ((Int×Int)×Int),yQ xJ [AcY,dI (yF (a+1))] [(1000,.cells [dI f,.sl .int g,.sl .int h,dI i,dS j,.sl .lit k,dS l,.sl .int b,.own 2000,.own 1001]),(2000,.row 3 .int (m.set ((zW .int b a.toNat).toNat) (zW .int (zW (.list .int) c ((zW .int d a.toNat).toNat)) e.toNat))),(1001,.mp (.pr .int .int) .int n)] (.tup []) [(1000,.cells [dI f,.sl .int g,.sl .int h,dI i,dS j,.sl .lit k,dS l,.sl .int b,.own 2000,.own 1001]),(2000,.row 3 .int p),(1001,.mp (.pr .int .int) .int q)]/\
 jL c d a R o (yF (e+1)) f g h i j k l b q p)
 (R (.tup []) [(1000,.cells [dI f,.sl .int g,.sl .int h,dI i,dS j,.sl .lit k,dS l,.sl .int b,.own 2000,.own 1001]),(2000,.row 3 .int m),(1001,.mp (.pr .int .int) .int n)])):=by kernel_rfl
theorem cP(c:Int)(d e:AcK)(f:Int)(g:AcL)(h:AcM)(b:AcL)(a i:AcK)(k:List ((Int×Int)×Int))(j:Int)(R:oG):FH pS Tryz.f281 [AcY,dI j] [(1000,.cells [dI c,.sl .int d,.sl .int e,dI f,dS g,.sl .lit h,dS b,.sl .int a,.own 2000,.own 1001]),(2000,.row 3 .int i),(1001,.mp (.pr .int .int) .int k)] [AcY] false R=
 (zJ (decide (j=(a.length:Int)))
 (yM aV [.agg [dI c,.sl .int d,.sl .int e,dI f,dS g,.sl .lit h],.sl .int i] .bool λl=>
 zJ l
 (∃n0,jK c d e f g h b a i R n0 0 k)
 (R (.tup []) [(1000,.cells [dI c,.sl .int d,.sl .int e,dI f,dS g,.sl .lit h,dS b,.sl .int a,.own 2000,.own 1001]),(2000,.row 3 .int i),(1001,.mp (.pr .int .int) .int k)]))
 (xM j a.length=true/\
 xM (zW .int a j.toNat) b.length=true/\
 ∃n2,jL b a j R n2 0 c d e f g h b a k i)):=by kernel_rfl
theorem eG(a:Int)(b c:AcK)(d:Int)(e:AcL)(f:AcM)(g:AcL)(h i:AcK)(j:List ((Int×Int)×Int))(k:Int):nW pS Tryz.f281 xJ [AcY,dI k] [(1000,.cells [dI a,.sl .int b,.sl .int c,dI d,dS e,.sl .lit f,dS g,.sl .int h,.own 2000,.own 1001]),(2000,.row 3 .int i),(1001,.mp (.pr .int .int) .int j)] [AcY] false:=mJ func281 (by kernel_rfl) ntmps281 rfl
def PB:wG:= {own:=[],live:=[],n:=15}
theorem GF(b c:Int)(a:zF)(e:AcL)(f g:AcK)(d:List ((Int×Int)×Int))(R:yL):FD PB Tryz.f282 [dI b,dI c,.iptr [.iptr (nX a [dS e,.sl .int f,.sl .int g,.mp (.pr .int .int) .int d]) 0] 0] R=
 (R (dB (decide ((gH (.pr .int .int) .int (b,c) d)=1)))):=by kernel_rfl
theorem IE(b c:Int)(a:zF)(d:AcL)(e f:AcK)(g:List ((Int×Int)×Int)):xZ PB Tryz.f282 xN [dI b,dI c,.iptr [.iptr (nX a [dS d,.sl .int e,.sl .int f,.mp (.pr .int .int) .int g]) 0] 0]:=wA func282 (by kernel_rfl) ntmps282 rfl
def XE:wG:= {own:=[3,5,29],live:=[(0,([1,3,8,9,10],[3]))],n:=45}
def dE(a:zF)(R:yL)(b:Nat)(c:Int)(d:AcV):Prop:=LP XE Tryz.f283 [1,1,0,1,0,0] 0 b ⟨[(1,.iptr (nX a []) 0),(3,.own 3),(8,.sl .int a.vars),(9,dI (a.vars.length:Int)),(10,dI c)],[(3,.row 293 .term d)]⟩ (zH 0 (sK XE Tryz.f283 [1,1,1] 0 (eK Tryz.f283 R)))
theorem KX(a:zF)(R:yL)(e:Nat)(b:Int)(c:AcV):dE a R (e+1) b c=
 (zJ (decide (b<(a.vars.length:Int)))
 (xM b a.vars.length=true/\
 yM wN [.sl .term c,.clo aY none [.iptr [dI (zW .int a.vars b.toNat)] 0]] .int λd=>
 zJ (decide (d<0))
 (xM b a.consts.length=true/\
 xQ .term (c.length+([(⟨zW .int a.vars b.toNat,zW .int a.consts b.toNat⟩:xP)]).length)=true/\
 dE a R e (yF (b+1)) (c++([(⟨zW .int a.vars b.toNat,zW .int a.consts b.toNat⟩:xP)])))
 (xM d c.length=true/\
 xM b a.consts.length=true/\
 xM d c.length=true/\
 dE a R e (yF (b+1)) (c.set d.toNat (⟨(zW .term c d.toNat).v,yF (((zW .term c d.toNat).times)+(zW .int a.consts b.toNat))⟩:xP))))
 (R (.sl .term c))):=by kernel_rfl
theorem EA(a:zF)(R:yL):FD XE Tryz.f283 [dC a] R=
 (∃n0,dE a R n0 0 ([]:AcV)):=by kernel_rfl
theorem GG(a:zF):xZ XE Tryz.f283 Xi [dC a]:=wA func283 (by kernel_rfl) ntmps283 rfl
def kC:wG:= {own:=[7,36],live:=[(0,([1,5,7,12,13,14],[7])),(2,([1,5,7,9,12,13,14,22,23,24],[7]))],n:=43}
def XF(b:AcK)(c:AcL)(a:xP)(R:yL)(e:Nat)(d:Int)(f:Nat)(g:Int)(h:AcK):Prop:=LP kC Tryz.f284 [1,1,0,1,0,0,1,1,0,0,1,1,0,0] 2 f ⟨[(1,dS c),(5,.iptr [dI a.v,dI a.times] 0),(7,.own 7),(9,dI (zW .int b d.toNat)),(12,.sl .int b),(13,dI (b.length:Int)),(14,dI d),(22,.sl .int (zW (.list .int) c a.v.toNat)),(23,dI ((zW (.list .int) c a.v.toNat).length:Int)),(24,dI g)],[(7,.row 3 .int h)]⟩ (zH 2 (zH 1 (sK kC Tryz.f284 [1,1,0,1,0,0,1,1,1] 0 (iK kC Tryz.f284 [1,1,0,1,0,0] 0 e (zH 0 (sK kC Tryz.f284 [1,1,1] 0 (eK Tryz.f284 R)))))))
def XG(a:AcK)(c:AcL)(b:xP)(R:yL)(d:Nat)(e:Int)(f:AcK):Prop:=LP kC Tryz.f284 [1,1,0,1,0,0] 0 d ⟨[(1,dS c),(5,.iptr [dI b.v,dI b.times] 0),(7,.own 7),(12,.sl .int a),(13,dI (a.length:Int)),(14,dI e)],[(7,.row 3 .int f)]⟩ (zH 0 (sK kC Tryz.f284 [1,1,1] 0 (eK Tryz.f284 R)))
theorem IF(d:AcK)(b:AcL)(a:xP)(R:yL)(g:Nat)(e:Int)(h:Nat)(c:Int)(f:AcK):XF d b a R g e (h+1) c f=
 (zJ (decide (c<((zW (.list .int) b a.v.toNat).length:Int)))
 (xM c (zW (.list .int) b a.v.toNat).length=true/\
 xQ .int (f.length+([yF ((zW .int d e.toNat)+(yF (a.times*(zW .int (zW (.list .int) b a.v.toNat) c.toNat))))]).length)=true/\
 XF d b a R g e h (yF (c+1)) (f++([yF ((zW .int d e.toNat)+(yF (a.times*(zW .int (zW (.list .int) b a.v.toNat) c.toNat))))])))
 (XG d b a R g (yF (e+1)) f)):=by kernel_rfl
theorem IG(a:AcK)(c:AcL)(d:xP)(R:yL)(f:Nat)(b:Int)(e:AcK):XG a c d R (f+1) b e=
 (zJ (decide (b<(a.length:Int)))
 (xM b a.length=true/\
 xM d.v c.length=true/\
 ∃n2,XF a c d R f b n2 0 e)
 (∃g:AcK,yQ pL [.own 1000] [(1000,.row 3 .int e)] (.tup []) [(1000,.row 3 .int g)]/\
 ∃h:AcK,yQ rP [.own 1000] [(1000,.row 3 .int g)] (.sl .int h) []/\
 R (.sl .int h))):=by kernel_rfl
theorem CW(b:AcK)(c:AcL)(a:xP)(R:yL):FD kC Tryz.f284 [.sl .int b,dS c,.agg [dI a.v,dI a.times]] R=
 (∃n0,XG b c a R n0 0 ([]:AcK)):=by kernel_rfl
theorem EB(b:AcK)(c:AcL)(a:xP):xZ kC Tryz.f284 WF [.sl .int b,dS c,.agg [dI a.v,dI a.times]]:=wA func284 (by kernel_rfl) ntmps284 rfl
def Se:wG:= {own:=[8],live:=[],n:=20}
theorem KY(c e:Int)(b:AcV)(f:List (Int×(AcK)))(a:zF)(R:yL):FD Se Tryz.f285 [dI c,dI e,.iptr [.sl .term b] 0,.iptr [.mp .int (.list .int) f] 0,.iptr (nX a []) 0] R=
 (yM wN [.sl .term b,.clo gN none [.iptr [dI c] 0]] .int λd=>
 xM d b.length=true/\
 yM vD [.sl .int (gH .int (.list .int) c f),.clo gO none [.iptr (nX a []) 0,.iptr [dI ((zW .term b d.toNat).v),dI ((zW .term b d.toNat).times)] 0,.iptr [dI e] 0]] .bool λg=>
 R (dB g)):=by kernel_rfl
theorem Ly(b c:Int)(d:AcV)(e:List (Int×(AcK)))(a:zF):xZ Se Tryz.f285 oc [dI b,dI c,.iptr [.sl .term d] 0,.iptr [.mp .int (.list .int) e] 0,.iptr (nX a []) 0]:=wA func285 (by kernel_rfl) ntmps285 rfl
def VR:wG:= {own:=[],live:=[],n:=8}
theorem NW(a:xP)(b:Int)(R:yL):FD VR Tryz.f287 [.agg [dI a.v,dI a.times],.iptr [dI b] 0] R=
 (R (dB (decide (a.v=b)))):=by kernel_rfl
theorem Oo(a:xP)(b:Int):xZ VR Tryz.f287 gN [.agg [dI a.v,dI a.times],.iptr [dI b] 0]:=wA func287 (by kernel_rfl) ntmps287 rfl
def VS:wG:= {own:=[],live:=[],n:=14}
theorem NX(c:Int)(a:zF)(b:xP)(d:Int)(R:yL):FD VS f288 [dI c,.iptr (nX a []) 0,.iptr [dI b.v,dI b.times] 0,.iptr [dI d] 0] R=
 (yM fx [dC a,dI (yF (c+(yF (b.times*d))))] .bool λe=>
 R (dB e)):=by kernel_rfl
theorem Oq(c:Int)(a:zF)(b:xP)(d:Int):xZ VS f288 gO [dI c,.iptr (nX a []) 0,.iptr [dI b.v,dI b.times] 0,.iptr [dI d] 0]:=wA func288 (by kernel_rfl) ntmps288 rfl
def bD:wG:= {own:=[20,21,23],live:=[(0,([8,26,27],[20,21,23]))],n:=40,nils:=[],pubs:=[(23,0)]}
def o7(a:zF)(R:yL)(b:Nat)(c:Int)(d e:List (Int×Int))(f:AcL)(g:AcK)(h:Int):Prop:=LP bD f289 [1,1,1,1,0,1,0,0] 0 b ⟨[(8,.ptr 23 0),(26,dI (a.vars.length:Int)),(27,dI c)],[(20,.mp .int .int d),(21,.mp .int .int e),(23,.cells [dS f,.sl .int g,.own 20,.own 21,dI h])]⟩ (zH 0 (sK bD f289 [1,1,1,1,1] 0 (eK f289 R)))
theorem Ot(d:zF)(R:yL)(e:Nat)(a:Int)(f g:List (Int×Int))(b:AcL)(c:AcK)(k:Int):o7 d R (e+1) a f g b c k=
 (zJ (decide (a<(d.vars.length:Int)))
 (∃h:Bool,∃i:List (Int×Int),∃j:List (Int×Int),yQ qU [AcY,dI a] [(1000,.cells [dS b,.sl .int c,.own 1001,.own 1002,dI (yF (a+1))]),(1001,.mp .int .int f),(1002,.mp .int .int g)] (dB h) [(1000,.cells [dS b,.sl .int c,.own 1001,.own 1002,dI (yF (a+1))]),(1001,.mp .int .int i),(1002,.mp .int .int j)]/\
 zJ (!h)
 (R (dB false))
 (o7 d R e (yF (a+1)) i j b c (yF (a+1))))
 (R (dB true))):=by kernel_rfl
theorem KZ(b d:Int)(e:AcL)(a:zF)(R:yL):FD bD f289 [dI b,dI d,.iptr [dS e] 0,.iptr (nX a []) 0] R=
 (∃c:AcL,yQ pB [dS e] [] (.own 3000) [(3000,.row 40 (.list .int) c)]/\
 xM b c.length=true/\
 ∃n0,o7 a R n0 0 ([]:List (Int×Int)) ([]:List (Int×Int)) (c.set b.toNat ([d])) a.vars 0):=by kernel_rfl
theorem Lz(b c:Int)(d:AcL)(a:zF):xZ bD f289 od [dI b,dI c,.iptr [dS d] 0,.iptr (nX a []) 0]:=wA func289 (by kernel_rfl) ntmps289 rfl
def jM:wG:= {own:=[],live:=[(0,([0,1,21,22,23],[1000,1001,1002]))],n:=70}
def oq(b:AcL)(c:AcK)(a:Int)(R:oG)(d:Nat)(e:Int)(f:AcL)(g:AcK)(h:Int)(i j:List (Int×Int)):Prop:=LP jM f291 [1,0,1,0,0] 0 d ⟨[(0,AcY),(1,dI a),(21,.sl .int (zW (.list .int) b ((zW .int c a.toNat).toNat))),(22,dI ((zW (.list .int) b ((zW .int c a.toNat).toNat)).length:Int)),(23,dI e)],[(1000,.cells [dS f,.sl .int g,.own 1001,.own 1002,dI h]),(1001,.mp .int .int i),(1002,.mp .int .int j)]⟩ (zH 0 (sK jM f291 [1,1] 0 (eH f291 [AcY] false R)))
theorem qK(b:AcL)(c:AcK)(a:Int)(R:oG)(k:Nat)(d:Int)(f:AcL)(g:AcK)(e:Int)(h i:List (Int×Int)):oq b c a R (k+1) d f g e h i=
 (zJ (decide (d<((zW (.list .int) b ((zW .int c a.toNat).toNat)).length:Int)))
 (xM d (zW (.list .int) b ((zW .int c a.toNat).toNat)).length=true/\
 zJ (decide ((gH .int .int (zW .int (zW (.list .int) b ((zW .int c a.toNat).toNat)) d.toNat) i)=e))
 (oq b c a R k (yF (d+1)) f g e h i)
 (Jt (i.length+1)=true/\
 zJ (!(MU .int .int (zW .int (zW (.list .int) b ((zW .int c a.toNat).toNat)) d.toNat) h))
 (Jt (h.length+1)=true/\
 R (dB true) [(1000,.cells [dS f,.sl .int g,.own 1001,.own 1002,dI e]),(1001,.mp .int .int (qH .int .int (zW .int (zW (.list .int) b ((zW .int c a.toNat).toNat)) d.toNat) a h)),(1002,.mp .int .int (qH .int .int (zW .int (zW (.list .int) b ((zW .int c a.toNat).toNat)) d.toNat) e i))])
 (∃m:Bool,∃j:List (Int×Int),∃l:List (Int×Int),yQ qU [AcY,dI (gH .int .int (zW .int (zW (.list .int) b ((zW .int c a.toNat).toNat)) d.toNat) h)] [(1000,.cells [dS f,.sl .int g,.own 1001,.own 1002,dI e]),(1001,.mp .int .int h),(1002,.mp .int .int (qH .int .int (zW .int (zW (.list .int) b ((zW .int c a.toNat).toNat)) d.toNat) e i))] (dB m) [(1000,.cells [dS f,.sl .int g,.own 1001,.own 1002,dI e]),(1001,.mp .int .int j),(1002,.mp .int .int l)]/\
 zJ m
 (Jt (j.length+1)=true/\
 R (dB true) [(1000,.cells [dS f,.sl .int g,.own 1001,.own 1002,dI e]),(1001,.mp .int .int (qH .int .int (zW .int (zW (.list .int) b ((zW .int c a.toNat).toNat)) d.toNat) a j)),(1002,.mp .int .int l)])
 (oq b c a R k (yF (d+1)) f g e j l))))
 (R (dB false) [(1000,.cells [dS f,.sl .int g,.own 1001,.own 1002,dI e]),(1001,.mp .int .int h),(1002,.mp .int .int i)])):=by kernel_rfl
theorem XH(b:AcL)(a:AcK)(d:Int)(e f:List (Int×Int))(c:Int)(R:oG):FH jM f291 [AcY,dI c] [(1000,.cells [dS b,.sl .int a,.own 1001,.own 1002,dI d]),(1001,.mp .int .int e),(1002,.mp .int .int f)] [AcY] false R=
 (xM c a.length=true/\
 xM (zW .int a c.toNat) b.length=true/\
 ∃n0,oq b a c R n0 0 b a d e f):=by kernel_rfl
theorem YT(a:AcL)(b:AcK)(c:Int)(d e:List (Int×Int))(f:Int):nW jM f291 qU [AcY,dI f] [(1000,.cells [dS a,.sl .int b,.own 1001,.own 1002,dI c]),(1001,.mp .int .int d),(1002,.mp .int .int e)] [AcY] false:=mJ func291 (by kernel_rfl) ntmps291 rfl
def RJ:wG:= {own:=[],live:=[],n:=8}
theorem IH(a:xP)(b:Int)(R:yL):FD RJ f310 [.agg [dI a.v,dI a.times],.iptr [dI b] 0] R=
 (R (dB (decide (a.v=b)))):=by kernel_rfl
theorem K0(a:xP)(b:Int):xZ RJ f310 aY [.agg [dI a.v,dI a.times],.iptr [dI b] 0]:=wA func310 (by kernel_rfl) ntmps310 rfl
theorem nodup_iff{l:AcK}:(∀i (hi:i<l.length) j (hj:j<i),l[i]≠l[j]'(by omega))↔l.Nodup:=by
 rw[List.Nodup,Ab6];exact⟨λh i j hi hj hij e=>h j hj i hij e.symm,λh i hi j hj e=>h j i (by omega) hi hj e.symm⟩
theorem zhP:∀(l:AcK) (a:Int),a<=KF a l/\∀x∈l,x<=KF a l
 |[],a=>⟨Aav _,λx h=>by simp at h⟩
 |y::l,a=>by
  obtain⟨h1,h2⟩:=zhP l (if y>a then y else a)
  have e:KF a (y::l)=KF (if y>a then y else a) l:=rfl
  rw[e];have h3:a<=(if y>a then y else a)/\y<=(if y>a then y else a):=by split<;>omega
  refine⟨Int.le_trans h3.1 h1,λx hx=> ?_⟩
  rcases OF.1 hx with rfl|hx
  ·exact Int.le_trans h3.2 h1
  ·exact h2 x hx
theorem CX:∀(l:AcK) (a:Int),KF a l=a\/KF a l∈l
 |[],a=> .inl rfl
 |y::l,a=>by
  have e:KF a (y::l)=KF (if y>a then y else a) l:=rfl
  rw[e];rcases CX l (if y>a then y else a)with h|h
  ·rw[h]
   split
   ·exact .inr (Ks ..)
   ·exact .inl rfl
  ·exact .inr (On _ h)
theorem zmA{l:AcK}{x a:Int}(ha:a∈l):x=KF a l↔(∀y∈l,y<=x)/\x∈l:=by
 obtain⟨h1,h2⟩:=zhP l a;constructor
 ·rintro rfl
  refine⟨h2,?_⟩;rcases CX l a with h|h
  ·rw[h];exact ha
  ·exact h
 ·rintro⟨h3,h4⟩
  have:=h2 x h4;rcases CX l a with h|h
  ·have:=h3 a ha;omega
  ·have:=h3 _ h;omega
theorem cQ{c:zF}{vs:AcK}{nv:Nat}(hc:tS c nv)(hv:RA vs nv):tJ pJ [dC c,.sl .int vs] (dB (yZ c vs)):=
 QI c vs λok=>by
  obtain⟨hk1,hk2⟩:=hc.kind;have hm:=hc.many;have hf:=hc.formC;have hxl:(yA c vs).length=c.vars.length:=iR;have hnear:=QT (c:=c) hv;have hx:∀ {k:Nat} (h:k<c.vars.length),(yA c vs).getD k 0=(yA c vs)[k]:=λh=>yI _ (by omega)
  rw[P3];refine up (I:=λn v a=>jH c vs _ n v a) 0 c.vars.length rfl (AT _) (by omega) (λk a=>a=(yA c vs).take k) (by rw[Abp]) λn k a _ hkl ha hn=> ?_
  subst ha;rw[SJ]
  by_cases h:k<c.vars.length
  ·rw[zY h,zT (t:=.int) h]
   have hv1:=hc.vars _ (AS h);refine⟨zE h,uW.2 (by rw[hv.len];omega),yW (t:=.int) ?_,hn h _ ?_⟩
   ·rw[Aaf]
    show(_+1)*8<=_
    omega
   ·rw[<-Aar (show k<(yA c vs).length by omega),RB h];rfl
  have hk':k=c.vars.length:=by omega
  subst hk';rw[zS,AaP (by omega)]
  by_cases h3:c.kind<=3
  ·refine dt h3 ?_
   have hfc:=hf.sums h3;have hz:(c.consts.zip (yA c vs)).length=c.consts.length:=by rw[AaC];omega
   have hnr:∀x∈c.consts.zip (yA c vs),(-1000<=x.1/\x.1<=1000)/\-50<=x.2/\x.2<=50:=λx hx=>⟨hc.consts _ (AbM hx).1,hnear _ (AbM hx).2⟩
   refine up (I:=λn v a=>jG c vs _ (yA c vs) n a v) 0 (yA c vs).length rfl (AT _) (by omega) (λk a=>a=Ns ((c.consts.zip (yA c vs)).take k)) (by rw[Abp];rfl) λn2 k a _ hk2 ha hn2=> ?_
   subst ha;rw[SI]
   by_cases h:k<(yA c vs).length
   ·have hkc:k<c.consts.length:=by omega
    have hkz:k<(c.consts.zip (yA c vs)).length:=by omega
    have h1:=hc.consts _ (AS hkc);have h2:=hnear _ (AS h);have h3:=Nt h1 h2;have h4:=zdX λx hx=>hnr x (AbD (i:=k) hx)
    rw[Aaf]at h4
    rw[zY h,zT (t:=.int) h,zT (t:=.int) hkc,Int.mul_comm (yA c vs)[k]];refine⟨zE h,zE hkc,hn2 h _ ?_⟩;rw[zaC hkz,AaM,wL (n:=_*_) (by omega) (by omega),wL (by omega) (by omega)]
   ·have hk':k=(yA c vs).length:=by omega
    subst hk';rw[zS,AaP (by omega)]
    have:c.kind=1\/c.kind=2\/c.kind=3:=by omega
    rcases this with e|e|e
    ·refine dt e ?_
     simp[yZ,e]
    ·refine df (by omega) (dt e ?_)
     simp[yZ,e]
    ·refine df (by omega) (df (by omega) (dt e ?_))
     simp[yZ,e]
  refine df h3 (df (by omega) (df (by omega) (df (by omega) ?_)))
  refine zA (λe=> ?_) λe4=>zA (λe=> ?_) λe5=>zA (λe=> ?_) λe6=>zA (λe=> ?_) λe7=>zA (λe=> ?_) λe8=>zA (λe=> ?_) λe9=> ?_
  ·have e:=By e
   have ht:yZ c vs=decide (yA c vs).Nodup:=by simp[yZ,e]
   rw[ht];refine up0 (I:=λn v=>mS _ (yA c vs) n v) 0 (yA c vs).length rfl (AT _) (by omega) (λk=>∀i (hi:i<(yA c vs).length) j (hj:j<i),i<k->(yA c vs)[i]≠(yA c vs)[j]'(by omega)) (λi _ j _ h=>At h (AaU _)) λn5 k _ hk hi hn5=> ?_
   rw[UY]
   by_cases h:k<(yA c vs).length
   ·rw[zY h]
    refine up0 (I:=λn7 v=>mR _ (yA c vs) n5 k n7 v) 0 k rfl (AT _) (by omega) (λl=>∀j (hj:j<k),j<l->(yA c vs)[k]≠(yA c vs)[j]'(by omega)) (λj _ h=>At h (AaU _)) λn7 l _ hl hi7 hn7=> ?_
    rw[UX]
    by_cases h7:l<k
    ·have hl2:l<(yA c vs).length:=by omega
     rw[zY h7,zT (t:=.int) h,zT (t:=.int) hl2];refine⟨zE h,zE hl2,zA (λf=> ?_) λf=>hn7 h7 λj hj hjl=> ?_⟩
     ·rw[Aah (p:=(yA c vs).Nodup) λx=>(nodup_iff.2 x) k h l h7 (By f)]
     ·by_cases hjl2:j=l
      ·subst hjl2;exact Aaa f
      ·exact hi7 j hj (by omega)
    ·have hl2:l=k:=by omega
     subst hl2;rw[zS];refine hn5 h λi hi2 j hj hik=> ?_
     by_cases hik2:i=l
     ·subst hik2;exact hi7 j hj hj
     ·exact hi i hi2 j hj (by omega)
   ·have hk':k=(yA c vs).length:=by omega
    subst hk';rw[zS,Or (p:=(yA c vs).Nodup) (nodup_iff.1 λi hi2 j hj=>hi i hi2 j hj hi2)]
  ·have e:=By e
   obtain⟨h2,h1⟩:=hf.element e;have x0:zW .int (yA c vs) 0=(yA c vs)[0]'(by omega):=atN (t:=.int) (by omega)
   have x1:zW .int (yA c vs) 1=(yA c vs)[1]'(by omega):=atN (t:=.int) (by omega)
   have ht:yZ c vs=(decide ((0:Int)<=(yA c vs)[0]'(by omega))&&decide ((yA c vs)[0]'(by omega)<c.consts.length)&&decide (c.consts.getD ((yA c vs)[0]'(by omega)).toNat 0=(yA c vs)[1]'(by omega))):=by
    rw[<-hx (k:=0) (by omega),<-hx (k:=1) (by omega)];simp[yZ,e]
   have i0:xM 0 (yA c vs).length=true:=zE (k:=0) (by omega)
   have i1:xM 1 (yA c vs).length=true:=zE (k:=1) (by omega)
   refine up0 (I:=λn v=>mT c _ (yA c vs) n v) 0 c.consts.length rfl (AT _) (by omega) (λk=>∀j:Nat,j<k->(yA c vs)[0]'(by omega)≠(j:Int)) (λj h=>At h (AaU _)) λn9 k _ hk hi hn9=> ?_
   rw[UZ,x0,x1]
   by_cases h:k<c.consts.length
   ·rw[zY h,zT (t:=.int) h]
    refine⟨i0,zA (λf=>⟨zE h,i1,?_⟩) λf=>hn9 h λj hj=> ?_⟩
    ·have f:=By f
     rw[ht,f,Aab,yI _ h,Or (p:=(0:Int)<=_) (by omega),Or (p:=(k:Int)<_) (by omega)];rfl
    ·by_cases hjk:j=k
     ·subst hjk;exact Aaa f
     ·exact hi j (by omega)
   ·have hk':k=c.consts.length:=by omega
    subst hk';rw[zS,ht]
    by_cases g:(0:Int)<=(yA c vs)[0]'(by omega)
    ·have:¬(yA c vs)[0]'(by omega)<(c.consts.length:Int):=λg2=>hi ((yA c vs)[0]'(by omega)).toNat (by omega) (by omega)
     rw[Aah (p:=_<(c.consts.length:Int)) this,Abi];rfl
    ·rw[Aah (p:=(0:Int)<=_) g];rfl
  ·have e:=By e
   have ht:yZ c vs=c.rows.any λr=>decide (r=yA c vs):=by simp[yZ,e]
   rw[ht];refine Hv (I:=λn v=>nP c _ (yA c vs) n v) c.rows (λr=>decide (r=yA c vs)) (by omega) (X:=dB true=dB (c.rows.any λr=>decide (r=yA c vs))) (Y:=dB false=dB (c.rows.any λr=>decide (r=yA c vs))) zkD (λn k h hX hn=> ?_) λn hY=> ?_
   ·rw[bB,zY h,zT (t:=.list .int) h]
    exact⟨zE h,zI (X1 _ _) (zA hX hn)⟩
   ·rw[bB,zS];exact hY
  ·have e:=By e
   have h3:=hf.times e;have n0:=hnear _ (AS (show 0<(yA c vs).length by omega))
   have n1:=hnear _ (AS (show 1<(yA c vs).length by omega))
   have:=Nt (a:=(yA c vs)[0]) (b:=(yA c vs)[1]) (by omega) n1
   rw[atN (t:=.int) (k:=0) (by omega),atN (t:=.int) (k:=1) (by omega),atN (t:=.int) (k:=2) (by omega),wL (by omega) (by omega),show yZ c vs=decide ((yA c vs).getD 0 0*(yA c vs).getD 1 0=(yA c vs).getD 2 0) by simp[yZ,e],hx (k:=0) (by omega),hx (k:=1) (by omega),hx (k:=2) (by omega)]
   exact⟨zE (k:=0) (by omega),zE (k:=1) (by omega),zE (k:=2) (by omega),rfl⟩
  ·have e:=By e
   have h2:=hf.max e;have x0:zW .int (yA c vs) 0=(yA c vs)[0]'(by omega):=atN (t:=.int) (by omega)
   have i0:xM 0 (yA c vs).length=true:=zE (k:=0) (by omega)
   have hd:1<=((yA c vs).drop 1).length:=by rw[Aa1];omega
   have hm1:(yA c vs)[1]'(by omega)∈(yA c vs).drop 1:=by
    have:((yA c vs).drop 1)[0]'(by omega)=(yA c vs)[1]'(by omega):=by rw[Ab2]
    rw[<-this];exact AS _
   have ht:yZ c vs=decide ((∀y∈(yA c vs).drop 1,y<=(yA c vs)[0]'(by omega))/\(yA c vs)[0]'(by omega)∈(yA c vs).drop 1):=by
    rw[show yZ c vs=decide ((yA c vs).getD 0 0=KF ((yA c vs).getD 1 0) ((yA c vs).drop 1)) by simp[yZ,e],hx (k:=0) (by omega),hx (k:=1) (by omega)]
    exact decide_eq_decide.2 (zmA hm1)
   rw[ht];refine up (I:=λn v a=>qX _ (yA c vs) n a v) 1 (yA c vs).length rfl (by omega) (by omega) (λk a=>(∀i (hi:i<(yA c vs).length),1<=i->i<k->(yA c vs)[i]<=(yA c vs)[0]'(by omega))/\(a=true↔∃i,∃hi:i<(yA c vs).length,1<=i/\i<k/\(yA c vs)[i]=(yA c vs)[0]'(by omega))) ⟨λi _ h1 h2=>by omega,⟨λh=>At h (by decide),λ⟨i,_,h1,h2,_⟩=>by omega⟩⟩ λn13 k a hk1 hk ha hn13=> ?_
   obtain⟨ha1,ha2⟩:=ha;rw[Uc,x0]
   have mem:∀i (hi:i<(yA c vs).length),1<=i->(yA c vs)[i]∈(yA c vs).drop 1:=λi hi h1=>by
    have:((yA c vs).drop 1)[i-1]'(by rw[Aa1];omega)=(yA c vs)[i]:=by rw[Ab2];congr 1;omega
    rw[<-this];exact AS _
   by_cases h:k<(yA c vs).length
   ·rw[zY h,zT (t:=.int) h]
    refine⟨zE h,i0,zA (λf=> ?_) λf=> ?_⟩
    ·have f:(yA c vs)[0]'(by omega)<(yA c vs)[k]:=By f
     rw[Aah λx=>Int.not_le.2 f (x.1 _ (mem k h hk1))]
    ·have f:¬(yA c vs)[0]'(by omega)<(yA c vs)[k]:=Aaa f
     have hall:∀i (hi:i<(yA c vs).length),1<=i->i<k+1->(yA c vs)[i]<=(yA c vs)[0]'(by omega):=λi hi h1 h2=>by
      by_cases hik:i=k
      ·subst hik;exact Int.not_lt.1 f
      ·exact ha1 i hi h1 (by omega)
     refine zA (λg=>hn13 h _ ⟨hall,?_⟩) λg=>⟨zE h,i0,hn13 h _ ⟨hall,?_⟩⟩
     ·obtain⟨i,hi,h1,h2,h3⟩:=ha2.1 g
      exact⟨λ_=>⟨i,hi,h1,by omega,h3⟩,λ_=>rfl⟩
     ·rw[Aaq]
      constructor
      ·exact λe=>⟨k,h,hk1,by omega,e⟩
      ·rintro⟨i,hi,h1,h2,h3⟩
       by_cases hik:i=k
       ·subst hik;exact h3
       ·rw[ha2.2 ⟨i,hi,h1,by omega,h3⟩]at g;exact At g (by decide)
   ·have hk':k=(yA c vs).length:=by omega
    subst hk';rw[zS]
    congr 1
    rw[Aap,ha2,Aaq];constructor
    ·rintro⟨i,hi,h1,h2,h3⟩
     refine⟨λy hy=> ?_,h3▸mem i hi h1⟩
     obtain⟨j,hj,rfl⟩:=Aal hy;rw[Aa1]at hj
     rw[Ab2];exact ha1 (1+j) (by omega) (by omega) (by omega)
    ·rintro⟨h1,h2⟩
     obtain⟨j,hj,e⟩:=Aal h2;rw[Aa1]at hj
     rw[Ab2]at e
     exact⟨1+j,by omega,by omega,by omega,e⟩
  ·have e:=By e
   rw[show yZ c vs=c.lits.any λl=>holdsL l (vs.getD l.var.toNat 0) by simp[yZ,e]]
   refine Hv (I:=λn v=>nQ c vs _ n v) c.lits (λl=>holdsL l (vs.getD l.var.toNat 0)) (by omega) (X:=dB true=dB (c.lits.any λl=>holdsL l (vs.getD l.var.toNat 0))) (Y:=dB false=dB (c.lits.any λl=>holdsL l (vs.getD l.var.toNat 0))) zkD (λn k h hX hn=> ?_) λn hY=> ?_
   ·have hl:=qE.1 (hc.lits _ (AS h))
    rw[bC,zY h,zT (t:=.lit) h];exact⟨zE h,zE h,uW.2 (by rw[hv.len];exact hl.1),zI (oW _ _ (ZH.2 hl.2.1)) (zA hX hn)⟩
   ·rw[bC,zS];exact hY
  ·have e:c.kind=10:=by simp at e4 e5 e6 e7 e8 e9;omega
   obtain⟨h1,h2⟩:=hf.iff e;have hl0:0<c.lits.length:=by omega
   have hl:=qE.1 (hc.lits _ (AS hl0))
   have ha:(c.lits.take 1).any (λl=>holdsL l (vs.getD l.var.toNat 0))=holdsL c.lits[0] (vs.getD c.lits[0].var.toNat 0):=by
    rw[show c.lits.take 1=[c.lits[0]] by rw[List.take_one,List.head?_eq_getElem?,Aac hl0];rfl];simp
   have ht:yZ c vs=(holdsL c.lits[0] (vs.getD c.lits[0].var.toNat 0)&&decide ((yA c vs)[0]'(by omega)=1)|| !holdsL c.lits[0] (vs.getD c.lits[0].var.toNat 0)&&decide ((yA c vs)[0]'(by omega)=0)):=by
    rw[<-hx (k:=0) (by omega),<-ha];simp[yZ,e]
   have i0:xM 0 c.lits.length=true:=zE (k:=0) hl0;have i1:xM 0 (yA c vs).length=true:=zE (k:=0) (by omega)
   rw[atN (t:=.lit) hl0,atN (t:=.int) (k:=0) (show 0<(yA c vs).length by omega),ht]
   refine⟨i0,i0,uW.2 (by rw[hv.len];exact hl.1),zI (oW _ _ (ZH.2 hl.2.1)) (zA (λf=>⟨i1,?_⟩) λf=>⟨i1,?_⟩)⟩
   ·rw[show holdsL c.lits[0] (vs.getD c.lits[0].var.toNat 0)=true from f];simp
   ·rw[show holdsL c.lits[0] (vs.getD c.lits[0].var.toNat 0)=false from f];simp
theorem NY{m:zG}(hr:Right m){vs:AcK}(hl:vs.length=m.vars.length):tJ uE [dM m,.sl .int vs] (dB (wholeM m vs)):=
 PW m vs λok=>by
  have hv:=hr.vars;have hcs:=hr.cons;have hz:(m.vars.zip vs).length=m.vars.length:=by rw[AaC];omega
  rw[Nh];refine zdG (I:=λn v=>iN m vs _ n v) (m.vars.zip vs) (λx=> !jP x.2 x.1.lo x.1.hi) (by omega) (X:=dB false=dB (wholeM m vs)) (λe=>by rw[wholeM,e];rfl) (λn k h hX hn=> ?_) λe n=> ?_
  ·have hk:k<m.vars.length:=by omega
   have hk2:k<vs.length:=by omega
   rw[AaM]at hX hn
   rw[YH,zY hk,zT (t:=.var) hk,zT (t:=.int) hk2];exact⟨zE hk2,zE hk,zE hk,zI (wO _ _ _) (zA hX hn)⟩
  ·rw[hz,YH,zS]
   refine Hv (I:=λn v=>iM m vs _ n v) m.cons (λc=> !yZ c vs) (by omega) (X:=dB false=dB (wholeM m vs)) (Y:=dB true=dB (wholeM m vs)) (by rw[wholeM,e];cases m.cons.any λc=> !yZ c vs<;>rfl) (λn k h hX hn=> ?_) λn hY=> ?_
   ·rw[YG,zY h,zT (t:=.con) h]
    exact⟨zE h,zI (cQ (MH hr.vars (hr.con _ (AS h))) (Cz hr hl e)) (zA hX hn)⟩
   ·rw[YG,zS];exact hY

structure dF (s:AcL)(nv:Nat):Prop where
 len:s.length=nv
 near:∀v:Nat,∀n∈s.getD v [],-50<=n/\n<=50
 rise:∀l∈s,l.Pairwise (·<·)
theorem dF.nodup{s:AcL}{nv:Nat}(h:dF s nv)(v:Nat):(s.getD v []).Nodup:=by
 by_cases hv:v<s.length
 ·rw[yI _ hv]
  exact(h.rise _ (AS hv)).imp fun {a b} hab=>by omega
 ·rw[qJ (by omega)];exact Abl
theorem dF.row{s:AcL}{nv:Nat}(h:dF s nv)(v:Nat):(s.getD v []).length<=101:=
 aM (h.nodup v) (lo:= -50) λn hn=>by have:=h.near v n hn;omega
theorem XI{m:zG}{s:AcL}(hm:Right m)(h:fY m s=0):dF s m.vars.length:=by
 obtain⟨h1,h2,h3⟩:=Sa.1 h;refine⟨h1,λv n hn=> ?_,h3⟩
 have:=h2 v n hn
 by_cases hv:v<m.vars.length
 ·rw[yI _ hv]at this
  have:=hm.lohi _ (AS hv);omega
 ·rw[qJ (by omega)]at hn;cases hn
theorem dF.keep{s:AcL}{nv:Nat}{f:Nat->Int->Bool}(h:dF s nv):dF (qO f s) nv:=by
 refine⟨uL.trans h.len,λv n hn=> ?_,λl hl=> ?_⟩
 ·rw[sI,Aan]at hn;exact h.near v n hn.1
 ·obtain⟨i,hi,rfl⟩:=Aal hl
  have hi':i<s.length:=by rw[uL]at hi;exact hi
  simp only[qO,Ab8];exact(h.rise _ (AS hi')).filter _
theorem II(t:xP)(v:Int):tJ aY [.agg [dI t.v,dI t.times],.iptr [dI v] 0] (dB (decide (t.v=v))):=
 K0 t v λok=>by rw[IH]
theorem zhQ:∀ {a b:AcK},a.length=b.length->(a.zip b).map Prod.fst=a
 |[],[],_=>rfl
 |x::a,y::b,h=>by rw[AbZ,Aak,zhQ (by simpa using h)]
 |[],_::_,h=>by simp at h
 |_::_,[],h=>by simp at h
theorem EC{c:zF}{nv:Nat}(hc:tS c nv)(hk:c.kind<=3):tJ Xi [dC c] (.sl .term (uP c)):=
 GG c λok=>by
  obtain⟨f1,f2⟩:=hc.formC.sums hk;have hm:=hc.many;have hz:(c.vars.zip c.consts).length=c.vars.length:=by rw[AaC];omega
  rw[EA];refine up (I:=λn v a=>dE c _ n v a) 0 c.vars.length rfl (AT _) (by omega) (λk a=>a=fh ((c.vars.zip c.consts).take k)) rfl λn k a _ hk2 ha hn=> ?_
  subst ha;rw[KX]
  by_cases h:k<c.vars.length
  ·have hk3:k<c.consts.length:=by omega
   have hzk:k<(c.vars.zip c.consts).length:=by omega
   have hst:fh ((c.vars.zip c.consts).take (k+1))=Ui (fh ((c.vars.zip c.consts).take k)) c.vars[k] c.consts[k]:=by
    rw[<-Aar hzk,YS,AaM]
   have hlen:(fh ((c.vars.zip c.consts).take k)).length<=k:=Aai (CQ _) (by rw[Aaf];omega)
   have hcb:=hc.consts _ (AS hk3);have htm:=Ix ((c.vars.zip c.consts).take k) λx hx=>hc.consts x.2 (AbM (AbD hx)).2
   generalize fh ((c.vars.zip c.consts).take k)=o at hst hlen htm⊢
   rw[zY h,zT (t:=.int) h,zT (t:=.int) hk3];refine⟨zE h,zI (qY (p:=λt=>decide (t.v=c.vars[k])) KC λt ht=>II t _) ?_⟩
   rcases CK (λt:xP=>decide (t.v=c.vars[k])) o 0 with⟨e,h2⟩|⟨j,hj,e,h2,h3⟩
   ·rw[e]
    refine dt (by decide) ⟨zE hk3,yW (t:=.term) ?_,hn h _ ?_⟩
    ·show(_+1)*16<=_;omega
    ·rw[hst,zeh λt ht=>Aaa (h2 t ht)]
   ·rw[e,Int.zero_add]
    refine df (show¬((j:Int)<0) by omega) ?_
    rw[zT (t:=.term) hj];refine⟨zE hj,zE hk3,zE hj,hn h _ ?_⟩;have:=htm _ (AS hj);rw[Aaf]at this
    rw[hst,zei hj (By h2) λi hi=>Aaa (h3 i hi),wL (by omega) (by omega),Aab]
  ·have hk':k=c.vars.length:=by omega
   subst hk';rw[zS,<-hz,Aaj];rfl
def CY(l row:AcK)(k:Int):AcK:=Lib.compact (XC (l.flatMap λa=>row.map λn=>a+k*n))
theorem zaW{l row:AcK}{k x:Int}:x∈CY l row k↔∃a∈l,∃n∈row,x=a+k*n:=by
 rw[CY,NN,(Acr _ _).mem_iff,Acw];constructor
 ·rintro⟨a,ha,h⟩
  obtain⟨n,hn,e⟩:=Of.1 h;exact⟨a,ha,n,hn,e.symm⟩
 ·rintro⟨a,ha,n,hn,e⟩
  exact⟨a,ha,Of.2 ⟨n,hn,e.symm⟩⟩
theorem Sf{α β:Type}{f:α->List β}{b:Nat}:∀ {l:List α},(∀a∈l,(f a).length<=b)->(l.flatMap f).length<=l.length*b
 |[],_=>by simp
 |a::l,h=>by
  rw[AbN,It,Aad,Nat.add_mul,Nat.one_mul];have h1:=h a (Ks ..);have h2:=Sf λx hx=>h x (On _ hx)
  omega
theorem ziU{l row:AcK}{k:Int}{b:Nat}(h:row.length<=b):(CY l row k).length<=l.length*b:=by
 rw[CY];refine Aai (Cx _) ?_;rw[XC,List.length_mergeSort];exact Sf λa _=>by rw[Aag];exact h
theorem IJ{α β:Type}(f:α->List β){xs:List α}{k:Nat}(h:k<xs.length):(xs.take (k+1)).flatMap f=(xs.take k).flatMap f++f xs[k]:=by
 rw[<-Aar h,List.flatMap_append,AbN,List.flatMap_nil,Aa2]
theorem CZ{l:AcK}{s:AcL}{nv:Nat}{t:xP}(hs:dF s nv)(hv:0<=t.v/\t.v<nv)(ht: -4000<=t.times/\t.times<=4000)(hl:∀a∈l,-4000000<=a/\a<=4000000)(hll:l.length<=1000000000):
  tJ WF [.sl .int l,dS s,.agg [dI t.v,dI t.times]] (.sl .int (CY l (s.getD t.v.toNat []) t.times)):=
 EB l s t λok=>by
  have hvl:t.v.toNat<s.length:=by have:=hs.len;omega
  have hrow:=hs.row t.v.toNat;have hnear:=hs.near t.v.toNat;have hat:zW (.list .int) s t.v.toNat=s.getD t.v.toNat []:=rfl;generalize s.getD t.v.toNat []=row at hrow hnear hat⊢
  have hfl:∀k,((l.take k).flatMap λa=>row.map λn=>a+t.times*n).length<=l.length*101:=λk=>by
   refine Aai (Sf (b:=101) λa _=>by rw[Aag];exact hrow) ?_
   rw[Aaf];exact Abf _ (by omega)
  rw[CW];refine up (I:=λn v a=>XG l s t _ n v a) 0 l.length rfl (AT _) (by omega) (λk a=>a=(l.take k).flatMap λa=>row.map λn=>a+t.times*n) (by simp) λn k a _ hk ha hn=> ?_
  subst ha;rw[IG]
  by_cases h:k<l.length
  ·rw[zY h]
   refine⟨zE h,uW.2 (by have:=hs.len;omega),?_⟩
   refine up (I:=λn2 v a=>XF l s t _ n (k:Int) n2 v a) 0 row.length rfl (AT _) (by omega) (λj a=>a=((l.take k).flatMap λa=>row.map λn=>a+t.times*n)++(row.take j).map λn=>l[k]+t.times*n) (by simp) λn2 j a _ hj ha2 hn2=> ?_
   subst ha2;rw[IF,hat]
   by_cases h2:j<row.length
   ·have b1:=hl _ (AS h)
    have b2:=hnear _ (AS h2)
    have b3: -200000<=t.times*row[j]/\t.times*row[j]<=200000:=by
     have:(t.times*row[j]).natAbs<=4000*50:=by rw[Int.natAbs_mul];exact AbL (by omega) (by omega)
     omega
    rw[zY h2,zT (t:=.int) h,zT (t:=.int) h2,wL (n:=t.times*row[j]) (by omega) (by omega),wL (by omega) (by omega)]
    refine⟨zE h2,yW (t:=.int) ?_,hn2 h2 _ ?_⟩
    ·have:=hfl k
     rw[It,Aag,Aaf];show(_+1)*8<=_
     omega
    ·rw[OU _ h2,AaH]
   ·have hj':j=row.length:=by omega
    subst hj';rw[zS,Aaj];exact hn h _ (IJ _ h).symm
  ·have hk':k=l.length:=by omega
   subst hk';rw[zS,Aaj];exact⟨_,Gt _,_,QZ _,rfl⟩
def YU(s:AcL)(us:AcV):AcK:=us.foldl (λall u=>CY all (s.getD u.v.toNat []) u.times) [0]
theorem Q3{s:AcL}{us:AcV}{u:xP}:YU s (us++[u])=CY (YU s us) (s.getD u.v.toNat []) u.times:=by rw[YU,Abj];rfl
theorem ziV{s:AcL}(hf:zZ s=false){x:Int}(us:AcV):(∀t∈us,0<=t.v/\t.v.toNat<s.length)->(us.map xP.v).Nodup->(x∈YU s us↔Fu us s x):=by
 refine dW (C:=λus=>∀x,(∀t∈us,0<=t.v/\t.v.toNat<s.length)->(us.map xP.v).Nodup->(x∈YU s us↔Fu us s x)) (λx _ _=> ?_) (λus u ih x h1 h2=> ?_) us x
 ·rw[ziS hf];exact IN
 ·rw[AaL,Aca]at h2
  have hu:=h1 u (by simp)
  rw[Q3,zaW,zgi hu.1 hu.2 (λt ht=>(h1 t (by simp[ht])).1) (λhm=>h2.2.2 _ hm _ (by simp) rfl)]
  have h3:∀a,a∈YU s us↔Fu us s a:=λa=>ih a (λt ht=>h1 t (by simp[ht])) h2.1
  exact⟨λ⟨a,ha,r⟩=>⟨a,(h3 a).1 ha,r⟩,λ⟨a,ha,r⟩=>⟨a,(h3 a).2 ha,r⟩⟩
theorem C0{s:AcL}{nv:Nat}(hs:dF s nv)(us:AcV):(∀t∈us,-4000<=t.times/\t.times<=4000)->∀x∈YU s us,-200000*(us.length:Int)<=x/\x<=200000*(us.length:Int):=by
 refine dW (C:=λus=>(∀t∈us,-4000<=t.times/\t.times<=4000)->∀x∈YU s us,-200000*(us.length:Int)<=x/\x<=200000*(us.length:Int)) (λ_ x hx=> ?_) (λus u ih h1 x hx=> ?_) us
 ·have:x=0:=IN.1 hx
  subst this;decide
 ·rw[Q3,zaW]at hx
  obtain⟨a,ha,n,hn,rfl⟩:=hx;have h2:=ih (λt ht=>h1 t (by simp[ht])) a ha
  have h3:=h1 u (by simp)
  have h4:=hs.near _ n hn
  have b3: -200000<=u.times*n/\u.times*n<=200000:=by
   have:(u.times*n).natAbs<=4000*50:=by rw[Int.natAbs_mul];exact AbL (by omega) (by omega)
   omega
  rw[It,AaW];omega
theorem ziW{s:AcL}{nv:Nat}(hs:dF s nv)(us:AcV):(YU s us).length<=101^us.length:=by
 refine dW (C:=λus=>(YU s us).length<=101^us.length) (BY _) (λus u ih=> ?_) us
 rw[Q3,It,AaW,Nat.pow_succ];exact Aai (ziU (hs.row _)) (Abf _ ih)
def ED(s:AcL)(ts:AcV):List (Int×AcK):=ts.mapIdx λi t=>(t.v,YU s (ts.eraseIdx i))
theorem IK{c:zF}{nv:Nat}(hc:tS c nv):∀t∈uP c,-4000<=t.times/\t.times<=4000:=λt ht=>by
 have h:=Ix (c.vars.zip c.consts) (λx hx=>hc.consts x.2 (AbM hx).2) t ht
 have:=hc.many;rw[AaC]at h
 omega
theorem C1{c:zF}{nv:Nat}(hc:tS c nv):(uP c).length<=4:=by
 have h:=CQ (c.vars.zip c.consts);have:=hc.many;rw[AaC]at h
 exact Aai h (by omega)
theorem C2{ts:AcV}{f:Nat->xP->AcK}:(ts.mapIdx λi t=>(t.v,f i t)).map Prod.fst=ts.map xP.v:=by
 apply Ab3
 ·simp
 ·intro i h1 h2;simp
theorem GH{c:zF}{s:AcL}(hc:tS c s.length)(hk:c.kind<=3)(hs:dF s s.length):
  yQ Ye [dC c,dS s] [] (.clo oc none [.iptr [.sl .term (uP c)] 0,.iptr [.mp .int (.list .int) (ED s (uP c))] 0,.iptr [.int .i64 c.kind,.sl .int c.vars,.sl .int c.consts,.int .i64 c.n,.sl (.list .int) c.rows,.sl .lit c.lits] 0]) []:=
 IC c s λok _=>by
  have h4:=C1 hc;have hv:=KW hc;have htm:=IK hc;have hnd:((uP c).map xP.v).Nodup:=Q1 _;rw[GB];refine zI (EC hc hk) ?_;generalize hts:uP c=ts at h4 hv htm hnd⊢
  have hlm:ED s ts=ts.mapIdx λi t=>(t.v,YU s (ts.eraseIdx i)):=rfl
  refine up (I:=λn v a=>Zh c s _ ts n v ts a) 0 ts.length rfl (AT _) (by omega) (λi a=>a=(ts.take i).mapIdx λi t=>(t.v,YU s (ts.eraseIdx i))) rfl λn i a _ hi ha hn=> ?_
  subst ha;rw[Lx]
  by_cases h:i<ts.length
  ·rw[zY h,zT (t:=.term) h]
   refine⟨zE h,?_⟩;refine up (I:=λn2 v a=>fi c s _ ts n (i:Int) ts _ n2 a v ts _ _) 0 ts.length rfl (AT _) (by omega) (λk a=>a=YU s ((ts.take k).eraseIdx i)) rfl λn2 k a _ hk2 ha2 hn2=> ?_
   subst ha2;rw[Lw]
   by_cases h2:k<ts.length
   ·rw[zY h2,zT (t:=.term) h2]
    refine⟨zE h2,?_⟩;have est:=zgj (l:=ts) (i:=i) h2
    by_cases e:k=i
    ·refine dnf (show(k:Int)=(i:Int) by omega) (hn2 h2 _ ?_)
     rw[est,As e]
    ·refine LU (show¬(k:Int)=(i:Int) by omega) ?_
     have hsub:((ts.take k).eraseIdx i).Sublist ts:=(Acx ..).trans (List.take_sublist ..);have hul:((ts.take k).eraseIdx i).length<=4:=Aai hsub.length_le h4;have hb:=C0 hs ((ts.take k).eraseIdx i) λt ht=>htm t (hsub.subset ht)
     refine zI (CZ hs (hv _ (AS h2)) (htm _ (AS h2)) (λa ha=>by have:=hb a ha;omega) ?_) (hn2 h2 _ ?_)
     ·exact Aai (ziW hs _) (Aai (Nat.pow_le_pow_right (by decide) hul) (by decide))
     ·rw[est,An e,Q3]
   ·have hk':k=ts.length:=by omega
    subst hk';rw[zS,Aaj];have hml:((ts.take i).mapIdx λi t=>(t.v,YU s (ts.eraseIdx i))).length=i:=by rw[AbB,Aaf];omega
    refine⟨Or (by rw[hml];omega),hn h _ ?_⟩
    rw[S8 _ h];refine Iu (kt:=.int) (vt:=.list .int) dD _ ?_;cases e:uZ .int (.list .int) ts[i].v ((ts.take i).mapIdx λi t=>(t.v,YU s (ts.eraseIdx i)))with
    |none=>rfl
    |some k=>
     have h5:=(Vn (kt:=.int) (vt:=.list .int) dD _).2 ⟨k,e⟩;rw[C2]at h5
     have h6:ts.map xP.v=(ts.take i).map xP.v++(ts.drop i).map xP.v:=by rw[<-AaL,List.take_append_drop]
     rw[h6,Aca]at hnd
     exact At rfl (hnd.2.2 _ h5 ts[i].v (Of.2 ⟨ts[i],by rw[AaF h];exact Ks ..,rfl⟩))
  ·have hi':i=ts.length:=by omega
   subst hi';rw[zS,Aaj,hlm];exact⟨rfl,rfl⟩
theorem NZ(t:xP)(v:Int):tJ gN [.agg [dI t.v,dI t.times],.iptr [dI v] 0] (dB (decide (t.v=v))):=
 Oo t v λok=>by rw[NW]
theorem N0{c:zF}{t:xP}{a n:Int}(ht: -4000<=t.times/\t.times<=4000)(hn: -50<=n/\n<=50)(ha: -4000000<=a/\a<=4000000):tJ gO [dI a,.iptr [.int .i64 c.kind,.sl .int c.vars,.sl .int c.consts,.int .i64 c.n,.sl (.list .int) c.rows,.sl .lit c.lits] 0,.iptr [dI t.v,dI t.times] 0,.iptr [dI n] 0] (dB (zel c (a+t.times*n))):=
 Oq a c t n λok=>by
  have b3: -200000<=t.times*n/\t.times*n<=200000:=by
   have:(t.times*n).natAbs<=4000*50:=by rw[Int.natAbs_mul];exact AbL (by omega) (by omega)
   omega
  rw[NX,wL (n:=t.times*n) (by omega) (by omega),wL (by omega) (by omega)]
  exact zI (J3 c _) rfl
theorem K1{c:zF}{s:AcL}(hc:tS c s.length)(hk:c.kind<=3)(hs:dF s s.length)(hf:zZ s=false){v n:Int}(hv:v∈c.vars)(hn:n∈s.getD v.toNat []):
  tJ oc [dI v,dI n,.iptr [.sl .term (uP c)] 0,.iptr [.mp .int (.list .int) (ED s (uP c))] 0,.iptr [.int .i64 c.kind,.sl .int c.vars,.sl .int c.consts,.int .i64 c.n,.sl (.list .int) c.rows,.sl .lit c.lits] 0] (dB (mayB (yZ c) s v.toNat n)):=
 Ly v n (uP c) (ED s (uP c)) c λok=>by
  have hvv:=KW hc;have htm:=IK hc;have hnd:((uP c).map xP.v).Nodup:=Q1 _;rw[KY];refine zI (qY (p:=λt=>decide (t.v=v)) P9 λt ht=>NZ t _) ?_
  rcases CK (λt:xP=>decide (t.v=v)) (uP c) 0 with⟨e,h2⟩|⟨j,hj,e,h2,h3⟩
  ·obtain⟨f1,f2⟩:=hc.formC.sums hk
   have:v∈(uP c).map xP.v:=by
    rw[uP,CP,zhQ f2.symm];exact hv
   obtain⟨t,ht,rfl⟩:=Of.1 this;exact At rfl (Aaa (h2 t ht))
  ·have h2:(uP c)[j].v=v:=By h2
   rw[e,Int.zero_add,zT (t:=.term) hj]
   have hg:uZ .int (.list .int) v (ED s (uP c))=some (YU s ((uP c).eraseIdx j)):=by
    refine zcA (kt:=.int) (vt:=.list .int) dD _ (by rw[ED,C2];exact hnd) ?_
    have hjl:j<(ED s (uP c)).length:=by rw[ED,AbB];exact hj
    have:(ED s (uP c))[j]=(v,YU s ((uP c).eraseIdx j)):=by simp only[ED,Ab8];rw[h2]
    rw[<-this];exact AS hjl
   have hgd:gH .int (.list .int) v (ED s (uP c))=YU s ((uP c).eraseIdx j):=by rw[gH,hg];rfl
   rw[hgd];have hsub:((uP c).eraseIdx j).Sublist (uP c):=Acx ..;have hb:=C0 hs ((uP c).eraseIdx j) λt ht=>htm t (hsub.subset ht)
   have hlen:=Aai hsub.length_le (C1 hc);refine⟨zE hj,zI (sO (p:=λa=>zel c (a+(uP c)[j].times*n)) Oa λa ha=>N0 (htm _ (AS hj)) (hs.near _ n hn) (by have:=hb a ha;omega)) ?_⟩
   congr 1
   rw[Aap,mE,Aay];have h5:=zmz (c:=c) (s:=s) hc hk hj (n:=n) (by rw[h2];exact hn)
   rw[h2]at h5
   rw[h5];have hmem:∀a,a∈YU s ((uP c).eraseIdx j)↔Fu ((uP c).eraseIdx j) s a:=λa=>ziV hf _ (λt ht=>by have:=hvv t (hsub.subset ht);omega) (hnd.sublist (hsub.map _))
   exact⟨λ⟨a,h6,h7⟩=>⟨a,(hmem a).1 h6,h7⟩,λ⟨a,h6,h7⟩=>⟨a,(hmem a).2 h6,h7⟩⟩
def Z4(s:AcL)(vars:AcK):AcL:=vars.map λv=>s.getD v.toNat []
theorem Ux{s:AcL}{vars:AcK}:(Z4 s vars).length=vars.length:=Aag ..
theorem C3{s:AcL}{vars:AcK}{i:Nat}(h:i<vars.length):(Z4 s vars).getD i []=s.getD (vars.getD i 0).toNat []:=by
 rw[yI _ (by rw[Ux];exact h),yI _ h];simp[Z4]
abbrev hpF(s:AcL)(vars:AcK)(turn:Int)(m a:KV):List (Nat×yN):=[(1000,.cells [dS s,.sl .int vars,.own 1001,.own 1002,dI turn]),(1001,.mp .int .int m),(1002,.mp .int .int a)]
def zk4(s:AcL)(vars:AcK)(turn i:Int)(m a:KV)(b:Bool)(m' a':KV):Prop:=
 (b=true->CJ (Z4 s vars) turn i m a m' a')/\(b=false->m'=m/\Iw (Z4 s vars) turn m a ((Z4 s vars).getD i.toNat []) a')
theorem C4{n:Int}{m:KV}:MU .int .int n m=(uZ .int .int n m).isSome:=rfl
theorem zaX{s:AcL}{vars:AcK}{turn i:Int}{m a0:KV}(ht:1<=turn)(hm:Gz (Z4 s vars) m)(hi:0<=i/\i<vars.length)
  (near:∀r∈Z4 s vars,∀n∈r,-50<=n/\n<=50) (len:∀r∈Z4 s vars,r.length<=101)
  (rec:∀(a:KV) (k:Int),left turn a<left turn a0->XD turn a->0<=k->k<vars.length->∃b m' a',yQ qU [AcY,dI k] (hpF s vars turn m a) (.bool b) (hpF s vars turn m' a')/\zk4 s vars turn k m a b m' a'):
  ∀(e j:Nat),j+e=(s.getD (vars.getD i.toNat 0).toNat []).length->∀a,Iw (Z4 s vars) turn m a0 ((s.getD (vars.getD i.toNat 0).toNat []).take j) a->
   ∃b m' a' n,oq s vars i (λd h1=>d=.bool b/\h1=hpF s vars turn m' a') n (j:Int) s vars turn m a/\zk4 s vars turn i m a0 b m' a':=by
 have hil:i.toNat<vars.length:=by omega
 have hrow:=C3 (s:=s) hil;have hrl:i.toNat<(Z4 s vars).length:=by rw[Ux];exact hil
 have hir:0<=i/\i<(Z4 s vars).length:=by rw[Ux];exact hi
 have hnr:∀n∈s.getD (vars.getD i.toNat 0).toNat [],-50<=n/\n<=50:=λn hn=>by
  rw[<-hrow,yI _ hrl]at hn
  exact near _ (AS hrl) n hn
 have hlr:(s.getD (vars.getD i.toNat 0).toNat []).length<=101:=by
  rw[<-hrow,yI _ hrl];exact len _ (AS hrl)
 have hat:zW (.list .int) s ((zW .int vars i.toNat).toNat)=s.getD (vars.getD i.toNat 0).toNat []:=rfl;intro e
 induction e with
 |zero=>
  intro j hj a ha;refine⟨false,m,a,1,?_,λh=>(by cases h),λ_=>⟨rfl,?_⟩⟩
  ·rw[qK,hat,show j=(s.getD (vars.getD i.toNat 0).toNat []).length by omega,zS]
   exact⟨rfl,rfl⟩
  ·rw[hrow]
   rwa[show j=(s.getD (vars.getD i.toNat 0).toNat []).length by omega,Aaj]at ha
 |succ e ih=>
  intro j hj a ha;generalize hR:s.getD (vars.getD i.toNat 0).toNat []=row at hrow hat hnr hlr hj ha ih
  have hjl:j<row.length:=by omega
  have hnj:=hnr _ (AS hjl);have hw:yF ((j:Int)+1)=((j+1:Nat):Int):=kI (by omega)
  have hst:row.take (j+1)=row.take j++[row[j]]:=(Aar hjl).symm;have hmem:row[j]∈(Z4 s vars).getD i.toNat []:=by rw[hrow];exact AS hjl
  by_cases hask:LY turn a row[j]
  ·obtain⟨b,m',a',n,h1,h2⟩:=ih (j+1) (by omega) a (by rw[hst];exact zgd ha hask)
   refine⟨b,m',a',n+1,?_,h2⟩;rw[qK,hat,zY hjl,zT (t:=.int) hjl];refine⟨zE hjl,dt hask ?_⟩;rw[hw];exact h1
  ·have hal:a.length<=101:=ha.ask.length
   have hml:m.length<=101:=hm.length near;have hap:=ha.ask.put hnj ht;cases hg:uZ .int .int row[j] m with
   |none=>
    refine⟨true,_,_,1,?_,λ_=>(zgb hm ha.ask ht hnj ⟨hi.1,hir.2,hmem⟩ hask hg).start ha.more,λh=>(by cases h)⟩
    rw[qK,hat,zY hjl,zT (t:=.int) hjl];refine⟨zE hjl,df hask ⟨Or (by omega),?_⟩⟩
    rw[C4,hg];exact⟨Or (by omega),rfl,rfl⟩
   |some k=>
    have hk:=hm.ok _ _ hg;rw[Ux]at hk
    have hlt:left turn (qH .int .int row[j] turn a)<left turn a0:=Aax (zmy hnj hask) (ziP ha.more);obtain⟨b,m2,a2,hs,p1,p2⟩:=rec _ k hlt hap hk.1 hk.2.1;have hgd:gH .int .int row[j] m=k:=by rw[gH,hg];rfl
    cases b with
    |true=>
     have hfd:=p1 rfl;refine⟨true,_,_,1,?_,λ_=>(zgc ⟨hi.1,hir.2,hmem⟩ hask hg hfd).start ha.more,λh=>(by cases h)⟩
     rw[qK,hat,zY hjl,zT (t:=.int) hjl];refine⟨zE hjl,df hask ⟨Or (by omega),?_⟩⟩
     rw[C4,hg,hgd];have:=hfd.ok.length near;exact⟨true,m2,a2,hs,Or (by omega),rfl,rfl⟩
    |false=>
     obtain⟨rfl,htr⟩:=p2 rfl;obtain⟨b,m',a',n,h1,h2⟩:=ih (j+1) (by omega) a2 (by rw[hst];exact zge ha hg htr)
     refine⟨b,m',a',n+1,?_,h2⟩;rw[qK,hat,zY hjl,zT (t:=.int) hjl];refine⟨zE hjl,df hask ⟨Or (by omega),?_⟩⟩
     rw[C4,hg,hgd];refine⟨false,m2,a2,hs,?_⟩;rw[hw];exact h1
theorem Q4{s:AcL}{vars:AcK}{turn:Int}(ht:1<=turn)(hv:∀v∈vars,0<=v/\v<s.length)(near:∀r∈Z4 s vars,∀n∈r,-50<=n/\n<=50)(len:∀r∈Z4 s vars,r.length<=101):
  ∀(d:Nat) (m a:KV) (i:Int),left turn a<=d->Gz (Z4 s vars) m->XD turn a->0<=i->i<vars.length->
   ∃b m' a',yQ qU [AcY,dI i] (hpF s vars turn m a) (.bool b) (hpF s vars turn m' a')/\zk4 s vars turn i m a b m' a':=by
 intro d
 induction d with
 |zero=>
  intro m a i hd hm ha h0 h1;obtain⟨b,m',a',n,h2,h3⟩:=zaX ht hm ⟨h0,h1⟩ near len (a0:=a) (λa k hl _ _ _=>At hl (by omega)) _ 0 (Aas _) a (zaQ ha)
  refine⟨b,m',a',YT s vars turn m a i λ_ _=> ?_,h3⟩
  rw[XH];exact⟨uW.2 (by omega),uW.2 (by have:=hv (zW .int vars i.toNat) (by rw[atN (t:=.int) (show i.toNat<vars.length by omega)];exact AS _);omega),n,h2⟩
 |succ d ih=>
  intro m a i hd hm ha h0 h1;obtain⟨b,m',a',n,h2,h3⟩:=zaX ht hm ⟨h0,h1⟩ near len (a0:=a) (λa' k hl hok hk0 hk1=>ih m a' k (by omega) hm hok hk0 hk1) _ 0 (Aas _) a (zaQ ha)
  refine⟨b,m',a',YT s vars turn m a i λ_ _=> ?_,h3⟩
  rw[XH];exact⟨uW.2 (by omega),uW.2 (by have:=hv (zW .int vars i.toNat) (by rw[atN (t:=.int) (show i.toNat<vars.length by omega)];exact AS _);omega),n,h2⟩
theorem zen{α:Type}{l:List α}(h:l.Nodup){i j:Nat}(hi:i<l.length)(hj:j<l.length)(e:l[i]=l[j]):i=j:=by
 rcases Nat.lt_trichotomy i j with h1|h1|h1
 ·exact At e (Ab6.1 h i j hi hj h1)
 ·exact h1
 ·exact At e.symm (Ab6.1 h j i hj hi h1)
theorem IL{c:zF}(hk:c.kind=4){vs:AcK}:yZ c vs=decide (yA c vs).Nodup:=by
 rw[yZ];simp[hk]
theorem zgl{c:zF}{s:AcL}(hc:tS c s.length)(hk:c.kind=4)(hnd:c.vars.Nodup)(hf:zZ s=false){v n:Int}(hv:v∈c.vars)(hn:n∈s.getD v.toNat []):
  May (yZ c) s v.toNat n↔∃σ:Nat->Int,(∀j,j<c.vars.length->σ j∈(Z4 (s.set v.toNat [n]) c.vars).getD j [])/\∀j k,j<c.vars.length->k<c.vars.length->σ j=σ k->j=k:=by
 have hvv:=hc.vars v hv;have hvl:v.toNat<s.length:=by omega
 have hset:∀u:Nat,(s.set v.toNat [n]).getD u []=if u=v.toNat then[n]else s.getD u []:=λu=>by
  rw[Aam,Aam,AbP]
  by_cases e:u=v.toNat
  ·rw[As e.symm,As e,As (by omega)];rfl
  ·rw[An (λx=>e x.symm),An e]
 have hrow:∀(j:Nat) (hj:j<c.vars.length),(Z4 (s.set v.toNat [n]) c.vars).getD j []=if c.vars[j].toNat=v.toNat then[n]else s.getD c.vars[j].toNat []:=λj hj=>by
  rw[C3 hj,hset,yI _ hj]
 constructor
 ·rintro⟨vs,h1,h2,h3⟩
  refine⟨λj=>vs.getD (c.vars.getD j 0).toNat 0,λj hj=> ?_,λj k hj hk2 e=> ?_⟩
  ·rw[hrow j hj]
   show vs.getD (c.vars.getD j 0).toNat 0∈_
   rw[yI _ hj];split
   ·rename_i e;rw[e,h2];exact IN.2 rfl
   ·have:=hc.vars _ (AS hj)
    exact h1.2 _ (by omega)
  ·rw[IL hk]at h3
   have h4:=By h3;refine zen h4 (by rw[iR];exact hj) (by rw[iR];exact hk2) ?_
   rw[RB hj,RB hk2];simpa only[yI _ hj,yI _ hk2]using e
 ·rintro⟨σ,h1,h2⟩
  obtain⟨ps,hp⟩:=NR hf;have hg:∀u:Nat,u<s.length->((List.range s.length).map λu:Nat=>if(u:Int)∈c.vars then σ (c.vars.idxOf (u:Int))else ps.getD u 0).getD u 0=if(u:Int)∈c.vars then σ (c.vars.idxOf (u:Int))else ps.getD u 0:=λu hu=>Q2 hu
  have hix:∀(j:Nat) (hj:j<c.vars.length),c.vars.idxOf c.vars[j]=j:=λj hj=>by
   have h5:c.vars.idxOf c.vars[j]<c.vars.length:=List.idxOf_lt_length_of_mem (AS hj);exact zen hnd h5 hj (List.getElem_idxOf h5)
  have hat:∀(j:Nat) (hj:j<c.vars.length),((List.range s.length).map λu:Nat=>if(u:Int)∈c.vars then σ (c.vars.idxOf (u:Int))else ps.getD u 0).getD c.vars[j].toNat 0=σ j:=λj hj=>by
   have:=hc.vars _ (AS hj);rw[hg _ (by omega),Abc this.1,As (AS hj),hix j hj]
  refine⟨(List.range s.length).map λu:Nat=>if(u:Int)∈c.vars then σ (c.vars.idxOf (u:Int))else ps.getD u 0,⟨by simp,λu hu=> ?_⟩,?_,?_⟩
  ·rw[hg u hu]
   split
   ·rename_i e
    obtain⟨j,hj,e2⟩:=Aal e;rw[<-e2,hix j hj];have h5:=h1 j hj;rw[hrow j hj,e2,Aab]at h5
    split at h5
    ·rename_i e3;rw[IN.1 h5,e3];exact hn
    ·exact h5
   ·exact hp.2 u hu
  ·obtain⟨j,hj,rfl⟩:=Aal hv
   rw[hat j hj];have h5:=h1 j hj;rw[hrow j hj,As rfl]at h5
   exact IN.1 h5
  ·rw[IL hk]
   refine Or (Ab6.2 λi j hi hj hij e=> ?_)
   rw[iR]at hi hj
   rw[RB hi,RB hj,hat i hi,hat j hj]at e
   have:=h2 i j hi hj e;omega
theorem zeo(s:AcL):yQ pB [dS s] [] (.own 3000) [(3000,.row 40 (.list .int) s)]:=
 Wm s λok _=>by
  rw[Vc];intro b hb;refine zA (λe=> ?_) λe=>⟨?_,?_⟩
  ·rw[hb e];exact⟨rfl,rfl⟩
  ·refine yW (t:=.list .int) ?_
   have:=(aU (t:=.list .int) (MD ok)).1;show(0+s.length)*24<=_
   have h8:s.length*24<=140737488355328:=this;omega
  ·exact⟨rfl,rfl⟩
theorem GI(c:zF)(s:AcL):yQ Yf [dC c,dS s] [] (.clo od none [.iptr [dS s] 0,.iptr [.int .i64 c.kind,.sl .int c.vars,.sl .int c.consts,.int .i64 c.n,.sl (.list .int) c.rows,.sl .lit c.lits] 0]) []:=
 ID c s λ_ _=>by
  rw[GD];exact⟨rfl,rfl⟩
theorem K2{c:zF}{s:AcL}(hc:tS c s.length)(hk:c.kind=4)(hnd:c.vars.Nodup)(hs:dF s s.length)(hf:zZ s=false){v n:Int}(hv:v∈c.vars)(hn:n∈s.getD v.toNat []):
  tJ od [dI v,dI n,.iptr [dS s] 0,.iptr [.int .i64 c.kind,.sl .int c.vars,.sl .int c.consts,.int .i64 c.n,.sl (.list .int) c.rows,.sl .lit c.lits] 0] (dB (mayB (yZ c) s v.toNat n)):=
 Lz v n s c λok=>by
  have hvv:=hc.vars v hv;have hm4:=hc.many;have hmay:=zgl hc hk hnd hf hv hn
  have hset:∀u:Nat,(s.set v.toNat [n]).getD u []=if u=v.toNat then[n]else s.getD u []:=λu=>by
   rw[Aam,Aam,AbP]
   by_cases e:u=v.toNat
   ·rw[As e.symm,As e,As (by omega)];rfl
   ·rw[An (λx=>e x.symm),An e]
  have near:∀r∈Z4 (s.set v.toNat [n]) c.vars,∀x∈r,-50<=x/\x<=50:=λr hr x hx=>by
   obtain⟨u,hu,rfl⟩:=Of.1 hr;rw[hset]at hx
   split at hx
   ·rw[IN.1 hx];exact hs.near _ n hn
   ·exact hs.near _ x hx
  have len:∀r∈Z4 (s.set v.toNat [n]) c.vars,r.length<=101:=λr hr=>by
   obtain⟨u,hu,rfl⟩:=Of.1 hr;rw[hset];split
   ·show 1<=101;decide
   ·exact hs.row _
  have hv2:∀u∈c.vars,0<=u/\u<(s.set v.toNat [n]).length:=λu hu=>by rw[Aaw];exact hc.vars u hu
  rw[KZ];refine⟨s,zeo s,uW.2 hvv,?_⟩;show∃n0,o7 c _ n0 0 ([]:KV) ([]:KV) (s.set v.toNat [n]) c.vars 0
  refine up (I:=λn0 u (a:KV×KV)=>o7 c _ n0 u a.1 a.2 (s.set v.toNat [n]) c.vars u) (a:=(([]:KV),([]:KV))) 0 c.vars.length rfl (AT _) (by omega)
   (λk a=>Gz (Z4 (s.set v.toNat [n]) c.vars) a.1/\(a.1.map Prod.snd).Perm (upI k)/\XD (k:Int) a.2) ⟨zk0,List.Perm.refl _,ziQ⟩ λn0 k a _ hk2 ha hnx=> ?_
  obtain⟨m,a⟩:=a;obtain⟨h1,h2,h3⟩:=ha;show o7 c _ (n0+1) (k:Int) m a (s.set v.toNat [n]) c.vars (k:Int)
  rw[Ot]
  by_cases h:k<c.vars.length
  ·rw[zY h]
   have hw:yF ((k:Int)+1)=((k+1:Nat):Int):=kI (by omega)
   have h3':XD ((k+1:Nat):Int) a:=h3.later (by omega)
   obtain⟨b,m',a',q1,q2,q3⟩:=Q4 (turn:=((k+1:Nat):Int)) (by omega) hv2 near len _ m a (k:Int) (BY _) h1 h3' (by omega) (by omega)
   rw[hw];refine⟨b,m',a',q1,?_⟩;cases b with
   |false=>
    refine bnt rfl ?_;obtain⟨_,htr⟩:=q3 rfl;rw[Aab]at htr
    have hno:=zgf h1 h2 (h3.none (by omega) (by omega)) htr
    rw[zf8.2];intro hy;obtain⟨σ,y1,y2⟩:=hmay.1 hy;exact hno ⟨σ,λj hj=>y1 j (by omega),λj k2 hj hk3=>y2 j k2 (by omega) (by omega)⟩
   |true=>
    refine bnf rfl ?_;have hfd:=q2 rfl;have:=hnx h (m',a') ⟨hfd.ok,hfd.vals.trans ((h2.cons _).trans zk1),hfd.ask⟩;rw[hw]at this
    exact this
  ·have hk':k=c.vars.length:=by omega
   subst hk';rw[zS,mE.2];have hall:=zk2 h1 (by rw[Ux];exact h2)
   rw[Ux]at hall
   exact hmay.2 hall
abbrev MV:=List ((Int×Int)×Int)
structure Sg (nv:Nat)(m:MV):Prop where
 nodup:(m.map Prod.fst).Nodup
 near:∀x∈m.map Prod.fst,(0<=x.1/\x.1<(nv:Int))/\-50<=x.2/\x.2<=50
 one:∀(x:Int×Int) (k:Int),uZ (.pr .int .int) .int x m=some k->k=1
theorem ziX{nv:Nat}:Sg nv []:=⟨Abl,λn hn=>(by cases hn),λn t h=>(by cases h)⟩
theorem Sg.length{nv:Nat}{m:MV}(h:Sg nv m):m.length<=nv*101:=by
 have h1:((m.map Prod.fst).map λx=>x.1*101+x.2+50).Nodup:=RI h.nodup λx hx y hy e=>by
  have a:=h.near x hx;have b:=h.near y hy;have e1:x.1=y.1:=by omega
  exact Prod.ext e1 (by omega)
 have:=aM h1 (lo:=0) (n:=nv*101) λx hx=>by
  obtain⟨y,hy,rfl⟩:=Of.1 hx;have a:=h.near y hy;omega
 rwa[Aag,Aag]at this
theorem Sg.put{nv:Nat}{m:MV}(h:Sg nv m){x:Int×Int}(hx:(0<=x.1/\x.1<(nv:Int))/\-50<=x.2/\x.2<=50):Sg nv (qH (.pr .int .int) .int x 1 m):=by
 refine⟨CH (kt:=.pr .int .int) (vt:=.int) MK h.nodup,λy hy=> ?_,λy k hy=> ?_⟩
 ·rcases(CI (kt:=.pr .int .int) (vt:=.int) MK m).1 hy with rfl|hy
  ·exact hx
  ·exact h.near y hy
 ·by_cases e:y=x
  ·subst e
   rw[Uw (kt:=.pr .int .int) (vt:=.int) MK]at hy
   exact(Option.some.inj hy).symm
  ·rw[Wp (kt:=.pr .int .int) (vt:=.int) MK e]at hy;exact h.one y k hy
def SR(vars vs:AcK)(m:MV):MV:=vars.foldl (λm v=>qH (.pr .int .int) .int (v,vs.getD v.toNat 0) 1 m) m
theorem N1{vars vs:AcK}{m:MV}{v:Int}:SR (vars++[v]) vs m=qH (.pr .int .int) .int (v,vs.getD v.toNat 0) 1 (SR vars vs m):=by rw[SR,Abj];rfl
theorem zgm{vs:AcK}{m:MV}{x:Int×Int}(vars:AcK):x∈(SR vars vs m).map Prod.fst↔x∈m.map Prod.fst\/∃v∈vars,x=(v,vs.getD v.toNat 0):=by
 refine dW (C:=λvars=>x∈(SR vars vs m).map Prod.fst↔x∈m.map Prod.fst\/∃v∈vars,x=(v,vs.getD v.toNat 0)) (by simp[SR]) (λl a ih=> ?_) vars
 rw[N1,CI (kt:=.pr .int .int) (vt:=.int) MK,ih];constructor
 ·rintro(h|h|⟨v,hv,h⟩)
  ·exact .inr ⟨a,by simp,h⟩
  ·exact .inl h
  ·exact .inr ⟨v,by simp[hv],h⟩
 ·rintro(h|⟨v,hv,h⟩)
  ·exact .inr (.inl h)
  ·rcases TO.1 hv with hv|hv
   ·exact .inr (.inr ⟨v,hv,h⟩)
   ·rw[IN.1 hv]at h;exact .inl h
theorem zaY{nv:Nat}{vs:AcK}{m:MV}(h:Sg nv m)(hn:∀u:Nat,-50<=vs.getD u 0/\vs.getD u 0<=50)(vars:AcK):(∀v∈vars,0<=v/\v<(nv:Int))->Sg nv (SR vars vs m):=by
 refine dW (C:=λvars=>(∀v∈vars,0<=v/\v<(nv:Int))->Sg nv (SR vars vs m)) (λ_=>h) (λl a ih hv=> ?_) vars
 rw[N1];exact(ih λv h=>hv v (by simp[h])).put ⟨hv a (by simp),hn _⟩
abbrev hpW(c:zF)(s:AcL)(vars vs:AcK)(m:MV):List (Nat×yN):=[(1000,.cells [.int .i64 c.kind,.sl .int c.vars,.sl .int c.consts,.int .i64 c.n,.sl (.list .int) c.rows,.sl .lit c.lits,dS s,.sl .int vars,.own 2000,.own 1001]),(2000,.row 3 .int vs),(1001,.mp (.pr .int .int) .int m)]
structure zk5 (c:zF)(s:AcL)(vars r vs:AcK)(m:MV)(vs':AcK)(m':MV):Prop where
 len:vs'.length=vs.length
 near:∀u:Nat,-50<=vs'.getD u 0/\vs'.getD u 0<=50
 same:∀u:Nat,(∀v∈r,v.toNat≠u)->vs'.getD u 0=vs.getD u 0
 ok:Sg s.length m'
 mem:∀x:Int×Int,x∈m'.map Prod.fst↔x∈m.map Prod.fst\/Iz c s vars r vs x
theorem ziY{c:zF}{s:AcL}{vars:AcK}(hs:dF s s.length)(hnv:s.length<=6)(hv:∀v∈vars,0<=v/\v<s.length)(hnd:vars.Nodup){i:Nat}(hi:i<vars.length){vs0:AcK}{m0:MV}(hl0:vs0.length=s.length)
  (rec:∀(vs:AcK) (m:MV),vs.length=s.length->(∀u:Nat,-50<=vs.getD u 0/\vs.getD u 0<=50)->Sg s.length m->∃vs' m',yQ xJ [AcY,dI ((i+1:Nat):Int)] (hpW c s vars vs m) (.tup []) (hpW c s vars vs' m')/\zk5 c s vars (vars.drop (i+1)) vs m vs' m'):
  ∀(e j:Nat),j+e=(s.getD vars[i].toNat []).length->∀(vs:AcK) (m:MV),vs.length=s.length->(∀u:Nat,-50<=vs.getD u 0/\vs.getD u 0<=50)->(∀u:Nat,(∀v∈vars.drop i,v.toNat≠u)->vs.getD u 0=vs0.getD u 0)->Sg s.length m->
   (∀x:Int×Int,x∈m.map Prod.fst↔x∈m0.map Prod.fst\/∃n∈(s.getD vars[i].toNat []).take j,Iz c s vars (vars.drop (i+1)) (vs0.set vars[i].toNat n) x)->
   ∃vs' m' n,jL s vars (i:Int) (λd h1=>d=.tup []/\h1=hpW c s vars vs' m') n (j:Int) c.kind c.vars c.consts c.n c.rows c.lits s vars m vs/\zk5 c s vars (vars.drop i) vs0 m0 vs' m':=by
 have hvi:=hv _ (AS hi);have hdr:vars.drop i=vars[i]::vars.drop (i+1):=AaF hi;have hnd2:(vars[i]::vars.drop (i+1)).Nodup:=by rw[<-hdr];exact hnd.sublist (List.drop_sublist ..)
 rw[AaN]at hnd2
 have hrow:=hs.row vars[i].toNat;have hnr:=hs.near vars[i].toNat;have hat:zW (.list .int) s ((zW .int vars (i:Int).toNat).toNat)=s.getD vars[i].toNat []:=by rw[zT (t:=.int) hi];rfl
 have hpc:∀x,Iz c s vars (vars.drop i) vs0 x↔∃n∈s.getD vars[i].toNat [],Iz c s vars (vars.drop (i+1)) (vs0.set vars[i].toNat n) x:=λx=>by
  rw[hdr];exact ziT hvi.1 (by omega) (λu hu=>(hv u (List.mem_of_mem_drop hu)).1) hnd2.1
 generalize hR:s.getD vars[i].toNat []=row at hrow hnr hat hpc
 intro e
 induction e with
 |zero=>
  intro j hj vs m hl hnear hsame hok hmem;refine⟨vs,m,1,?_,hl.trans hl0.symm,hnear,hsame,hok,λx=> ?_⟩
  ·rw[Z3,hat,show j=row.length by omega,zS]
   exact⟨rfl,rfl⟩
  ·rw[hmem x,show j=row.length by omega,Aaj,hpc x]
 |succ e ih=>
  intro j hj vs m hl hnear hsame hok hmem;have hjl:j<row.length:=by omega
  have hvl:vars[i].toNat<vs.length:=by omega
  have hw:yF ((j:Int)+1)=((j+1:Nat):Int):=kI (by omega)
  have hwi:yF ((i:Int)+1)=((i+1:Nat):Int):=kI (by
   have:=aM hnd (lo:=0) (n:=s.length) λx hx=>by have:=hv x hx;omega
   omega)
  have hset:∀u:Nat,(vs.set vars[i].toNat row[j]).getD u 0=if u=vars[i].toNat then row[j]else vs.getD u 0:=λu=>sQ hvl
  obtain⟨vs1,m1,h1,h2⟩:=rec (vs.set vars[i].toNat row[j]) m (by rw[Aaw];exact hl) (λu=>by
   rw[hset u];split
   ·exact hnr _ (AS hjl)
   ·exact hnear u) hok
  obtain⟨vs',m',n,h3,h4⟩:=ih (j+1) (by omega) vs1 m1 (by rw[h2.len,Aaw];exact hl) h2.near (λu hu=>by
   rw[h2.same u λv hv=>hu v (by rw[hdr];exact On _ hv),hset u,An λe=>hu vars[i] (by rw[hdr];exact Ks ..) e.symm]
   exact hsame u hu) h2.ok λx=>by
    have hp:Iz c s vars (vars.drop (i+1)) (vs.set vars[i].toNat row[j]) x↔Iz c s vars (vars.drop (i+1)) (vs0.set vars[i].toNat row[j]) x:=by
     refine zgk (by rw[Aaw,Aaw,hl,hl0]) λu hu=> ?_
     rw[hset u,sQ (by omega)]
     split
     ·rfl
     ·rename_i e
      refine hsame u λv hv=> ?_
      rw[hdr]at hv
      rcases OF.1 hv with rfl|hv
      ·exact λe2=>e e2.symm
      ·exact hu v hv
    rw[h2.mem x,hmem x,hp,<-Aar hjl];simp only[TO,IN];constructor
    ·rintro((h|⟨n,hn,h⟩)|h)
     ·exact .inl h
     ·exact .inr ⟨n,.inl hn,h⟩
     ·exact .inr ⟨_,.inr rfl,h⟩
    ·rintro(h|⟨n,hn|hn,h⟩)
     ·exact .inl (.inl h)
     ·exact .inl (.inr ⟨n,hn,h⟩)
     ·rw[hn]at h;exact .inr h
  refine⟨vs',m',n+1,?_,h4⟩;rw[Z3,hat,zY hjl,zT (t:=.int) hi,zT (t:=.int) hjl,hwi,hw];exact⟨zE hjl,zE hi,uW.2 (by omega),vs1,m1,h1,h3⟩
theorem Ou{c:zF}{s:AcL}{vars:AcK}(hc:tS c s.length)(hs:dF s s.length)(hv:∀v∈vars,0<=v/\v<s.length)(hnd:vars.Nodup):
  ∀(d i:Nat),i+d=vars.length->∀(vs:AcK) (m:MV),vs.length=s.length->(∀u:Nat,-50<=vs.getD u 0/\vs.getD u 0<=50)->Sg s.length m->∃vs' m',yQ xJ [AcY,dI (i:Int)] (hpW c s vars vs m) (.tup []) (hpW c s vars vs' m')/\zk5 c s vars (vars.drop i) vs m vs' m':=by
 have hnv:=hc.nv6
 have hvl:vars.length<=6:=by
  have:=aM hnd (lo:=0) (n:=s.length) λx hx=>by have:=hv x hx;omega
  omega
 intro d
 induction d with
 |zero=>
  intro i hi vs m hl hnear hok
  have hgv:RA vs s.length:=⟨hl,λn hn=>by
   obtain⟨u,hu,rfl⟩:=Aal hn;have:=hnear u
   rwa[yI _ hu]at this⟩
  have hd:vars.drop i=[]:=AbW (by omega)
  have hpn:∀x,Iz c s vars (vars.drop i) vs x↔yZ c vs=true/\∃v∈vars,x=(v,vs.getD v.toNat 0):=λx=>by rw[hd];exact zk3
  cases ht:yZ c vs with
  |false=>
   refine⟨vs,m,eG c.kind c.vars c.consts c.n c.rows c.lits s vars vs m (i:Int) λ_ _=> ?_,rfl,hnear,λ_ _=>rfl,hok,λx=> ?_⟩
   ·rw[cP]
    refine dt (by omega) (zI (WT hc hgv) (bf ht ?_))
    exact⟨rfl,rfl⟩
   ·rw[hpn,ht];simp
  |true=>
   refine⟨vs,SR vars vs m,eG c.kind c.vars c.consts c.n c.rows c.lits s vars vs m (i:Int) λ_ _=> ?_,rfl,hnear,λ_ _=>rfl,zaY hok hnear vars hv,λx=> ?_⟩
   ·rw[cP]
    refine dt (by omega) (zI (WT hc hgv) (bt ht ?_))
    refine up (I:=λn v a=>jK c.kind c.vars c.consts c.n c.rows c.lits s vars vs _ n v a) 0 vars.length rfl (AT _) (by omega) (λk a=>a=SR (vars.take k) vs m) rfl λn k a _ hk ha hn=> ?_
    subst ha;rw[SQ]
    by_cases h:k<vars.length
    ·have hvk:=hv _ (AS h)
     have hml:=(zaY hok hnear (vars.take k) λv hv2=>hv v (AbD hv2)).length
     rw[zY h,zT (t:=.int) h];refine⟨zE h,uW.2 (by omega),Or (by omega),hn h _ ?_⟩
     rw[<-Aar h,N1];rfl
    ·have hk':k=vars.length:=by omega
     subst hk';rw[zS,Aaj];exact⟨rfl,rfl⟩
   ·rw[hpn,ht,zgm];simp
 |succ d ih=>
  intro i hi vs m hl hnear hok;have hil:i<vars.length:=by omega
  have hvi:=hv _ (AS hil);obtain⟨vs',m',n,h1,h2⟩:=ziY (c:=c) (m0:=m) hs hnv hv hnd hil hl (λvs m a b c=>ih (i+1) (by omega) vs m a b c) _ 0 (Aas _) vs m hl hnear (λ_ _=>rfl) hok λx=>by simp
  refine⟨vs',m',eG c.kind c.vars c.consts c.n c.rows c.lits s vars vs m (i:Int) λ_ _=> ?_,h2⟩
  rw[cP];refine df (by omega) ⟨zE hil,?_,n,h1⟩
  rw[zT (t:=.int) hil];exact uW.2 hvi
def zk6(c:zF)(s:AcL)(m:MV):Prop:=Sg s.length m/\∀v n:Int,(v,n)∈m.map Prod.fst↔v∈yB c s.length/\May (yZ c) s v.toNat n
theorem C5{c:zF}{s:AcL}(hc:tS c s.length)(hs:dF s s.length)(hf:zZ s=false):
  ∃vs m,zk6 c s m/\yQ dQ [dC c,dS s] [] (.clo xN none [.iptr [.iptr [.int .i64 c.kind,.sl .int c.vars,.sl .int c.consts,.int .i64 c.n,.sl (.list .int) c.rows,.sl .lit c.lits,dS s,.sl .int (yB c s.length),.sl .int vs,.mp (.pr .int .int) .int m] 0] 0]) []:=by
 have hnv:=hc.nv6
 have hz:∀u:Nat,(List.replicate s.length (0:Int)).getD u 0=0:=λu=>by
  by_cases h:u<s.length
  ·rw[yI _ (by rw[Abk];exact h),List.getElem_replicate]
  ·exact qJ (by rw[Abk];omega)
 obtain⟨vs,m,h1,h2⟩:=Ou (c:=c) (s:=s) (vars:=yB c s.length) hc hs (λv hv=>nR v hv) Vo _ 0 (Aas _) (List.replicate s.length 0) [] (Abk ..) (λu=>by rw[hz u];decide) ziX
 refine⟨vs,m,⟨h2.ok,λv n=> ?_⟩,Ew c s λok _=> ?_⟩
 ·rw[h2.mem,Aa4,CT hc hf (Abk ..)];simp
 ·rw[CV]
  refine zI (SO hc) ?_;rw[Aab];have hr:xQ .int s.length=true:=yW (t:=.int) (by show _*8<=_;omega)
  have h0:(0:Int)<=(s.length:Int):=by omega
  have hE:∃w2:AcK,∃w3:List ((Int×Int)×Int),yQ xJ [AcY,dI 0] [(1000,.cells [.int .i64 c.kind,.sl .int c.vars,.sl .int c.consts,.int .i64 c.n,.sl (.list .int) c.rows,.sl .lit c.lits,.sl (.list .int) s,.sl .int (yB c s.length),.own 2000,.own 1001]),(2000,.row 3 .int (List.replicate s.length (Ty.dflt .int))),(1001,.mp (.pr .int .int) .int ([]:List ((Int×Int)×Int)))] (.tup []) [(1000,.cells [.int .i64 c.kind,.sl .int c.vars,.sl .int c.consts,.int .i64 c.n,.sl (.list .int) c.rows,.sl .lit c.lits,.sl (.list .int) s,.sl .int (yB c s.length),.own 2000,.own 1001]),(2000,.row 3 .int w2),(1001,.mp (.pr .int .int) .int w3)]/\
    (D.clo xN none [.iptr [.iptr [.int .i64 c.kind,.sl .int c.vars,.sl .int c.consts,.int .i64 c.n,.sl (.list .int) c.rows,.sl .lit c.lits,.sl (.list .int) s,.sl .int (yB c s.length),.sl .int w2,.mp (.pr .int .int) .int w3] 0] 0]=D.clo xN none [.iptr [.iptr [.int .i64 c.kind,.sl .int c.vars,.sl .int c.consts,.int .i64 c.n,.sl (.list .int) c.rows,.sl .lit c.lits,dS s,.sl .int (yB c s.length),.sl .int vs,.mp (.pr .int .int) .int m] 0] 0]/\([]:List (Nat×yN))=[]):=⟨vs,m,h1,rfl,rfl⟩
  repeat'(first|exact hE|exact hr|exact h0|exact rfl|apply And.intro)
theorem GJ{c:zF}{s:AcL}{vs:AcK}{m:MV}(h:zk6 c s m){v n:Int}(hv:v∈yB c s.length){ks:AcO}:
  tJ xN [dI v,dI n,.iptr [.iptr [.int .i64 c.kind,.sl .int c.vars,.sl .int c.consts,.int .i64 c.n,.sl (.list .int) c.rows,.sl .lit c.lits,dS s,.sl .int (yB c s.length),.sl .int vs,.mp (.pr .int .int) .int m] 0] 0] (dB (mayB (yZ c) s v.toNat n)):=
 IE v n c s (yB c s.length) vs m λok=>by
  rw[GF];show dB _=dB _
  congr 1
  have hg:gH (.pr .int .int) .int (v,n) m=1↔(v,n)∈m.map Prod.fst:=by
   rw[Vn (kt:=.pr .int .int) (vt:=.int) MK];constructor
   ·intro e
    rw[gH]at e
    cases e2:uZ (.pr .int .int) .int (v,n) m with
    |none=>rw[e2]at e;exact At e (by decide)
    |some k=>exact⟨k,rfl⟩
   ·rintro⟨k,e⟩
    rw[gH,e,h.1.one _ _ e];rfl
  rw[Aap,Aaq,mE];exact hg.trans ((h.2 v n).trans ⟨λh=>h.2,λh=>⟨hv,h⟩⟩)
theorem zep:∀ {l l':AcK},l'.Nodup->l'⊆l->¬l.Nodup->l'.length<l.length
 |[],l',_,_,h=>At Abl h
 |x::l,l',h1,h2,h3=>by
  by_cases hx:x∈l
  ·have:l'.length<=l.length:=h1.length_le_of_subset λy hy=>by
    rcases OF.1 (h2 hy)with rfl|h
    ·exact hx
    ·exact h
   rw[Aad];omega
  ·have h4:¬l.Nodup:=λh=>h3 (AaN.2 ⟨hx,h⟩)
   have h5:=zep (l:=l) (l':=l'.erase x) (h1.erase x) (λy hy=>by
    have hy2:=List.mem_of_mem_erase hy;rcases OF.1 (h2 hy2)with rfl|h
    ·exact At hy (by rw[h1.mem_erase_iff];exact λe=>e.1 rfl)
    ·exact h) h4
   have h6:l'.length<=(l'.erase x).length+1:=by rw[List.length_erase];split<;>omega
   rw[Aad];omega
theorem AM{l:AcK}:decide ((Lib.compact (XC l)).length<l.length)= !decide l.Nodup:=by
 have hs:=NO (zhJ l);have hn:(Lib.compact (XC l)).Nodup:=hs.imp fun {a b} h=>by omega
 have hm:∀x,x∈Lib.compact (XC l)↔x∈l:=λx=>by rw[NN];exact(Acr _ _).mem_iff
 by_cases h:l.Nodup
 ·rw[Or h]
  exact Aah (by have:=h.length_le_of_subset λx hx=>(hm x).2 hx;omega)
 ·rw[Aah h]
  exact Or (zep hn (λx hx=>(hm x).1 hx) h)
theorem EE(l:AcK):tJ Xg [.sl .int l] (dB (!decide l.Nodup)):=
 GC l λok=>by
  rw[Ey];refine⟨_,KQ l,_,Gt _,_,QZ _,?_⟩;rw[zfW,AM]
theorem EF{v n:Int}{sc:AcK}{g:AcH}{caps:AcO}(he:Xk g){b:Bool}(hg:fX sc v=true->tJ g (dI v::dI n::caps) (dB b))(hb:fX sc v=false->b=true):
  tJ oa [dI v,dI n,.iptr [.sl .int sc] 0,.iptr [.clo g none caps] 0] (dB b):=
 VA.iclo (pre:=[_,_,_]) (GE v n sc g caps λok=>by
  rw[Ez];refine zI (sB (a:=v)) ?_;show zJ (!fX sc v) _ _
  refine zA (λe=> ?_) λe=>⟨he,?_⟩
  ·rw[hb (by simpa using e)]
  ·exact zI (hg (by simpa using e)) rfl)
theorem K3{c:zF}{nv v:Nat}(hv:v<nv):fX (yB c nv) (v:Int)=OC c v:=by
 rw[Aap,kN,o6];exact⟨λh=>h.2,λh=>⟨by omega,h⟩⟩
theorem C6{c:zF}{nv:Nat}(hc:tS c nv)(hl:c.lits=[]){v:Int}(h:v∈yB c nv):v∈c.vars:=by
 rcases zkY (o6.1 h).2 with h|⟨l,h,_⟩
 ·exact h
 ·rw[hl]at h;cases h
theorem C7{c:zF}{nv:Nat}(hc:tS c nv)(hk:c.kind<=8):c.lits=[]:=by
 have hf:=hc.form;have h1:=hc.kind.1;have:c.kind=1\/c.kind=2\/c.kind=3\/c.kind=4\/c.kind=5\/c.kind=6\/c.kind=7\/c.kind=8:=by omega
 rcases this with e|e|e|e|e|e|e|e<;>simp[bP,e]at hf<;>simp_all
theorem zeq{c:zF}{nv:Nat}(hc:tS c nv)(h:yB c nv=[]):tS c 0/\c.vars=[]/\c.lits=[]:=by
 have hv:c.vars=[]:=List.eq_nil_iff_forall_not_mem.2 λv hv=>by
  have h1:=hc.vars v hv;have:v∈yB c nv:=o6.2 ⟨h1,zhK hv⟩;rw[h]at this;cases this
 have hl:c.lits=[]:=List.eq_nil_iff_forall_not_mem.2 λl hl=>by
  have h1:=(qE.1 (hc.lits l hl)).1;have:l.var∈yB c nv:=o6.2 ⟨h1,zhL hl⟩;rw[h]at this;cases this
 exact⟨⟨AT _,hc.kind,hc.many,hc.form,λv h=>(by rw[hv]at h;cases h),hc.consts,hc.n,hc.rows,λl h=>(by rw[hl]at h;cases h)⟩,hv,hl⟩
theorem Z5{c:zF}{s:AcL}(hc:tS c s.length)(hs:dF s s.length):tJ iE [dC c,dS s] (dS (yS c s)):=
 CU c s λok=>by
  rw[AL];refine zI (vU s) (zA (λe=> ?_) λe=> ?_)
  ·rw[yS,As e]
   exact zI (XB s) rfl
  have hf:zZ s=false:=e;rw[yS,An (by rw[hf];decide)]
  refine zI (SO hc) ?_
  by_cases h0:yB c s.length=[]
  ·obtain⟨hc0,_⟩:=zeq hc h0
   refine dt (by rw[h0];rfl) (zI (WT (vs:=[]) hc0 ⟨rfl,λn hn=>(by cases hn)⟩) (zA (λe=> ?_) λe=> ?_))
   ·rw[As h0,As e];exact zI (XB s) rfl
   ·rw[As h0,An (by rw[e];decide)];exact zI (Zg s) rfl
  refine df (by
   have:(yB c s.length).length≠0:=λe=>h0 (AaS.1 e)
   omega) ?_
  rw[An h0]
  have key:∀ {g:AcH} {caps:AcO},Xk g->(∀(v n:Int),v∈yB c s.length->n∈s.getD v.toNat []->tJ g (dI v::dI n::caps) (dB (mayB (yZ c) s v.toNat n)))->
    tJ sY [dS s,.clo oa none [.iptr [.sl .int (yB c s.length)] 0,.iptr [.clo g none caps] 0]] (dS (qO (λv n=> !OC c v||mayB (yZ c) s v n) s)):=fun {g caps} he hg=>by
   refine Z0 (f:=λv n=> !OC c v||mayB (yZ c) s v n) H3 λv hv n hn=> ?_
   refine EF he (λh=> ?_) λh=> ?_
   ·have h1:=kN.1 h
    rw[K3 hv]at h
    have h2:=hg v n h1 (by rw[Aab,yI _ hv];exact hn)
    rw[Aab]at h2
    rw[h];exact h2
   ·rw[K3 hv]at h
    rw[h];rfl
  have hEach:∃e21:zF,∃e22:AcL,∃e23:AcK,∃e24:AcK,∃e25:List ((Int×Int)×Int),yQ dQ [dC c,dS s] [] (.clo xN none [.iptr [.iptr [.int .i64 e21.kind,.sl .int e21.vars,.sl .int e21.consts,.int .i64 e21.n,.sl (.list .int) e21.rows,.sl .lit e21.lits,.sl (.list .int) e22,.sl .int e23,.sl .int e24,.mp (.pr .int .int) .int e25] 0] 0]) []/\
    yM sY [dS s,.clo oa none [.iptr [.sl .int (yB c s.length)] 0,.iptr [.clo xN none [.iptr [.iptr [.int .i64 e21.kind,.sl .int e21.vars,.sl .int e21.consts,.int .i64 e21.n,.sl (.list .int) e21.rows,.sl .lit e21.lits,.sl (.list .int) e22,.sl .int e23,.sl .int e24,.mp (.pr .int .int) .int e25] 0] 0]] 0]] (.list (.list .int)) λs26=>D.sl (.list .int) s26=dS (qO (λv n=> !OC c v||mayB (yZ c) s v n) s):=by
   obtain⟨vs,m,h1,h2⟩:=C5 hc hs hf;exact⟨c,s,yB c s.length,vs,m,h2,zI (key JV λv n hv hn=>GJ (ks:=[]) h1 hv) rfl⟩
  refine zA (λe=> ?_) λe=>zA (λe2=> ?_) λe2=> ?_
  ·have hk:c.kind<=3:=By e
   exact⟨uP c,ED s (uP c),c,GH hc hk hs,zI (key La λv n hv hn=>K1 hc hk hs hf (C6 hc (C7 hc (by omega)) hv) hn) rfl⟩
  ·have hk:c.kind=4:=By e2
   refine zI (EE c.vars) (zA (λe3=> ?_) λe3=>hEach)
   have hnd:c.vars.Nodup:=by simpa using e3
   exact⟨s,c,GI c s,zI (key Lb λv n hv hn=>K2 hc hk hnd hs hf (C6 hc (C7 hc (by omega)) hv) hn) rfl⟩
  ·exact hEach
def C8(m:zG)(con:Int)(s:AcL):Int:=if VE m [s]≠0 then VE m [s]else if con<0\/(m.cons.length:Int)<=con then 5 else 0
theorem zmB{m:zG}{con:Int}{s:AcL}(h:VE m [s]≠0):C8 m con s=VE m [s]:=As h
theorem zmC{m:zG}{con:Int}{s:AcL}(h:VE m [s]=0)(h2:con<0\/(m.cons.length:Int)<=con):C8 m con s=5:=by rw[C8,An (not_not_intro h),As h2]
theorem zmD{m:zG}{con:Int}{s:AcL}(h:VE m [s]=0)(h2:0<=con/\con<(m.cons.length:Int)):C8 m con s=0:=by rw[C8,An (not_not_intro h),An (by omega)]
theorem zgn{m:zG}{con:Int}{s:AcL}(h:C8 m con s=0):VE m [s]=0/\0<=con/\con<(m.cons.length:Int):=by
 by_cases h1:VE m [s]=0
 ·by_cases h2:con<0\/(m.cons.length:Int)<=con
  ·rw[zmC h1 h2]at h;exact At h (by decide)
  ·exact⟨h1,by omega⟩
 ·rw[zmB h1]at h;exact At h h1
theorem Q5{m:zG}{con:Int}(h:xE m=0)(h2:0<=con/\con<(m.cons.length:Int)):Fr m con=0:=by rw[Fr,An (not_not_intro h),An (by omega)]
theorem IM{s:AcL}{nv:Nat}(hs:dF s nv):∀(r vs:AcK) (n:Nat),(∀v∈r,v.toNat<vs.length)->(∀u:Nat,-50<=vs.getD u 0/\vs.getD u 0<=50)->∀u:Nat,-50<=(uG s r vs n).1.getD u 0/\(uG s r vs n).1.getD u 0<=50
 |[],vs,n,_,h,u=>h u
 |v::r,vs,n,hl,h,u=>by
  rw[uG];refine IM hs r _ _ (λw hw=>by rw[Aaw];exact hl w (On _ hw)) (λw=> ?_) u
  rw[sQ (hl v (Ks ..))];split
  ·by_cases hx:n%(s.getD v.toNat []).length<(s.getD v.toNat []).length
   ·rw[yI _ hx];exact hs.near _ _ (AS hx)
   ·rw[qJ (by omega)];decide
  ·exact h w
theorem LA{s:AcL}{vars vs:AcK}{n:Nat}(hv:∀v∈vars,0<=v/\v<s.length/\s.getD v.toNat []≠[])(hl:vs.length=s.length)(hn:n<=1000000000000000)(hvl:vars.length<=6):
  yQ fN [dS s,.sl .int vars,.own 1000,dI (n:Int)] [(1000,.row 3 .int vs)] (.bool (decide ((uG s vars vs n).2=0))) [(1000,.row 3 .int (uG s vars vs n).1)]:=
 O9 s vars vs n λ_ _=>by
  rw[M5];refine up (I:=λk v (a:Nat×AcK)=>lB s vars _ k (a.1:Int) v a.2) (a:=(n,vs)) 0 vars.length rfl (AT _) (by omega) (λk a=>uG s (vars.drop k) a.2 a.1=uG s vars vs n/\a.1<=1000000000000000/\a.2.length=s.length) ⟨by rw[Aa4],hn,hl⟩ λk i a _ hk ha hx=> ?_
  obtain⟨n1,l3⟩:=a;obtain⟨h1,h2,h3⟩:=ha;have h3:l3.length=s.length:=h3;show lB s vars _ (k+1) (n1:Int) (i:Int) l3
  rw[Qu]
  by_cases h:i<vars.length
  ·obtain⟨q1,q2,q3⟩:=hv _ (AS h)
   have hat:zW (.list .int) s vars[i].toNat=s.getD vars[i].toNat []:=rfl;rw[zY h,zT (t:=.int) h,hat];rw[AaF h,uG]at h1
   have hne:(s.getD vars[i].toNat []).length≠0:=λe=>q3 (AaS.1 e)
   have hok:=hx h (n1/(s.getD vars[i].toNat []).length,l3.set vars[i].toNat ((s.getD vars[i].toNat []).getD (n1%(s.getD vars[i].toNat []).length) 0)) ⟨h1,Aai (Nat.div_le_self ..) h2,by rw[Aaw];exact h3⟩
   generalize s.getD vars[i].toNat []=row at hne hok⊢
   have hm:=Nat.mod_lt n1 (Nat.pos_of_ne_zero hne);have hd:n1/row.length<=1000000000000000:=Aai (Nat.div_le_self ..) h2;rw[<-Int.ofNat_tmod,<-Int.ofNat_tdiv,Aab];generalize n1/row.length=dq at hd hok⊢
   generalize n1%row.length=mq at hm hok⊢
   rw[wL (n:=(dq:Int)) (by omega) (by omega)]
   exact⟨zE h,uW.2 ⟨q1,q2⟩,df (by omega) ⟨zE h,by omega,zE hm,uW.2 (by omega),by omega,hok⟩⟩
  ·have hi:i=vars.length:=by omega
   subst hi;rw[Ab1,uG]at h1
   rw[zS,<-h1];refine⟨?_,rfl⟩;show D.bool _=D.bool _
   congr 1
   exact decide_eq_decide.2 ⟨λe=>by omega,λe=>by omega⟩
theorem VT(l:AcM)(x:zC):tJ sF [.sl .lit l,dL x] (dB (l.any λy=>decide (y=x))):=
 Na l x λok=>by
  rw[M6];refine Hv (I:=λn v=>gR l x _ n v) l (λy=>decide (y=x)) (cW (t:=.lit) (MD ok)) (X:=dB true=dB (l.any λy=>decide (y=x))) (Y:=dB false=dB (l.any λy=>decide (y=x))) zkD (λi k h h1 h2=> ?_) λi h=> ?_
  ·rw[Xp,zY h,zT (t:=.lit) h]
   exact⟨zE h,zA h1 h2⟩
  ·rw[Xp,zS];exact h
theorem K4{l:AcM}{x:zC}:(l.any λy=>decide (y=x))=true↔x∈l:=by
 rw[Aay];exact⟨λ⟨y,hy,e⟩=>by rw[<-By e];exact hy,λh=>⟨x,h,Or rfl⟩⟩
structure Met (c:zF)(s:AcL)(zs:AcK)(k:Nat)(met:AcM):Prop where
 nodup:met.Nodup
 near:∀x∈met,(0<=x.var/\x.var<6)/\x.op=0/\-50<=x.n/\x.n<=50
 mem:∀x,x∈met↔∃j,j<k/\yZ c (uG s (yB c s.length) zs j).1=true/\∃v∈yB c s.length,x=⟨v,0,(uG s (yB c s.length) zs j).1.getD v.toNat 0⟩
theorem ziZ{met:AcM}(h:met.Nodup)(hn:∀x∈met,(0<=x.var/\x.var<6)/\x.op=0/\-50<=x.n/\x.n<=50):met.length<=606:=by
 have h1:(met.map λx=>x.var*101+x.n+50).Nodup:=RI h λx hx y hy e=>by
  have a:=hn x hx;have b:=hn y hy;obtain⟨xv,xo,xn⟩:=x;obtain⟨yv,yo,yn⟩:=y;simp only at a b e
  have e1:xv=yv:=by omega
  have e2:xn=yn:=by omega
  have e3:xo=yo:=by omega
  rw[e1,e2,e3]
 have:=aM h1 (lo:=0) (n:=606) λx hx=>by
  obtain⟨y,hy,rfl⟩:=Of.1 hx;have a:=hn y hy;omega
 rwa[Aag]at this
theorem X7{m:zG}{con:Int}{s:AcL}(hat:Fr m con=0)(hst:fY m s=0):tJ rQ [dM m,dI con,dS s] (dS (yS (yE m con) s)):=
 Qp m con s λok=>by
  obtain⟨hm,hcon⟩:=lH hat;have hc:=mD hat;have hs:=XI hm hst;have hl:=hs.len;rw[<-hl]at hs
  have hc2:tS (yE m con) s.length:=by rw[hl];exact hc
  have hnv:=hc2.nv6;have hpos:0<s.length:=by have:=hm.some;omega
  rw[PO];refine zI (wY s) (zA (λe=> ?_) λe=> ?_)
  ·rw[yS,As e]
  have hf:zZ s=false:=e;rw[yS,An (by rw[hf];decide)]
  refine⟨uW.2 hcon,?_⟩;show yM mZ [dM m,dC (yE m con)] (.list .int) λc2=>_
  refine zI (NP m hc) ?_;rw[<-hl];refine⟨rfl,by omega,yW (t:=.int) (by rw[Aab];show _*8<=_;omega),?_⟩
  rw[Aab]
  have hz:∀u:Nat,(List.replicate s.length (0:Int)).getD u 0=0:=λu=>by
   by_cases h:u<s.length
   ·rw[yI _ (by rw[Abk];exact h),List.getElem_replicate]
   ·exact qJ (by rw[Abk];omega)
  have hzl:(List.replicate s.length (0:Int)).length=s.length:=Abk ..;have hzn:∀u:Nat,-50<=(List.replicate s.length (0:Int)).getD u 0/\(List.replicate s.length (0:Int)).getD u 0<=50:=λu=>by rw[hz u];decide
  have goodV:∀ {vs:AcK},vs.length=s.length->(∀u:Nat,-50<=vs.getD u 0/\vs.getD u 0<=50)->RA vs m.vars.length:=fun {vs} h1 h2=>⟨by omega,λn hn=>by
   obtain⟨u,hu,rfl⟩:=Aal hn;have:=h2 u
   rwa[yI _ hu]at this⟩
  by_cases h0:yB (yE m con) s.length=[]
  ·refine dt (by rw[h0];rfl) ?_
   have ht:yZ (yE m con) (List.replicate s.length 0)=yZ (yE m con) []:=kB hc2 λv h1 h2=>by rw[Gy h0 h1]at h2;cases h2
   refine zI (cQ hc (goodV hzl hzn)) (zA (λe=> ?_) λe=> ?_)
   ·rw[As h0,As (ht.symm.trans e)]
   ·rw[As h0,An (by rw[<-ht];show¬_=true;rw[show yZ (yE m con) (List.replicate s.length 0)=false from e];decide)]
    exact zI (cO (by omega)) rfl
  refine df (by
   have:(yB (yE m con) s.length).length≠0:=λe=>h0 (AaS.1 e)
   omega) ?_
  rw[An h0];show∃n0,sW s _ (yB (yE m con) s.length) n0 0 (yE m con).kind (yE m con).vars (yE m con).consts (yE m con).n (yE m con).rows (yE m con).lits ([]:AcM) (List.replicate s.length 0)
  have hscv:∀v∈yB (yE m con) s.length,0<=v/\v<s.length/\s.getD v.toNat []≠[]:=λv hv=>by
   have:=nR v hv;exact⟨this.1,this.2,sT.1 hf _ (by omega)⟩
  have hscl:(yB (yE m con) s.length).length<=6:=by
   have:=aM (Vo (c:=yE m con) (nv:=s.length)) (lo:=0) (n:=s.length) λx hx=>by have:=nR x hx;omega
   omega
  have hK:X6 s (yB (yE m con) s.length)<=101^6:=Aai (zem hs.row _) (Nat.pow_le_pow_right (by decide) hscl)
  have hK1:(101:Nat)^6<=1000000000000000:=by decide
  have hKp:0<X6 s (yB (yE m con) s.length):=zaV _ λv hv=>(hscv v hv).2.2
  have hpart:∀v n:Int,(∃j,j<X6 s (yB (yE m con) s.length)/\yZ (yE m con) (uG s (yB (yE m con) s.length) (List.replicate s.length 0) j).1=true/\∃u∈yB (yE m con) s.length,(⟨v,0,n⟩:zC)=⟨u,0,(uG s (yB (yE m con) s.length) (List.replicate s.length 0) j).1.getD u.toNat 0⟩)↔v∈yB (yE m con) s.length/\May (yZ (yE m con)) s v.toNat n:=λv n=>by
   rw[<-CT hc2 hf hzl,Fx hc2 hf hzl];constructor
   ·rintro⟨j,h1,h2,u,h3,h4⟩
    injection h4 with h5 h6 h7
    exact⟨j,h1,h2,u,h3,by rw[h5,h7]⟩
   ·rintro⟨j,h1,h2,u,h3,h4⟩
    injection h4 with h5 h7
    exact⟨j,h1,h2,u,h3,by rw[h5,h7]⟩
  generalize hcc:yE m con=c at*
  generalize hsc:yB c s.length=sc at*
  refine up (I:=λn v (a:AcM×AcK)=>sW s _ sc n v c.kind c.vars c.consts c.n c.rows c.lits a.1 a.2) (a:=(([]:AcM),List.replicate s.length (0:Int))) 0 (X6 s sc) rfl (AT _) (by omega)
   (λk a=>Met c s (List.replicate s.length 0) k a.1/\a.2.length=s.length/\∀u:Nat,-50<=a.2.getD u 0/\a.2.getD u 0<=50) ⟨⟨Abl,λx hx=>(by cases hx),λx=>⟨λh=>(by cases h),λ⟨j,h,_⟩=>At h (AaU _)⟩⟩,hzl,hzn⟩ λn k a _ hk ha hn=> ?_
  obtain⟨met,vs⟩:=a;obtain⟨h1,h2,h3⟩:=ha;have h1:Met c s (List.replicate s.length 0) k met:=h1;have h2:vs.length=s.length:=h2;have h3:∀u:Nat,-50<=vs.getD u 0/\vs.getD u 0<=50:=h3;show sW s _ sc (n+1) (k:Int) c.kind c.vars c.consts c.n c.rows c.lits met vs
  rw[Sw];have hch:=LA (vars:=sc) (vs:=vs) (n:=k) hscv h2 (by omega) hscl
  rw[Iy]at hch
  refine⟨_,_,hch,?_⟩
  by_cases h:k<X6 s sc
  ·refine dt (Nat.div_eq_of_lt h) ?_
   have hws:(uG s sc vs k).1.length=s.length:=(NT _ _ _).trans h2;have hwn:=IM hs sc vs k (λv hv=>by have:=hscv v hv;omega) h3
   have hsame:∀v∈sc,(uG s sc vs k).1.getD v.toNat 0=(uG s sc (List.replicate s.length 0) k).1.getD v.toNat 0:=λv hv=>IA sc _ _ _ (by rw[h2,hzl]) v hv (by have:=hscv v hv;rw[hzl];omega)
   have ht:yZ c (uG s sc vs k).1=yZ c (uG s sc (List.replicate s.length 0) k).1:=kB hc2 λv q1 q2=>by
    have:=hsame (v:Int) (by rw[<-hsc];exact o6.2 ⟨by omega,q2⟩)
    simpa using this
   generalize hw:(uG s sc vs k).1=ws at hws hwn hsame ht
   refine zI (cQ hc (goodV hws hwn)) (zA (λe=> ?_) λe=> ?_)
   ·have e:yZ c ws=false:=by simpa using e
    refine hn h (met,ws) ⟨⟨h1.nodup,h1.near,λx=> ?_⟩,hws,hwn⟩
    rw[h1.mem x,hsc];constructor
    ·rintro⟨j,q1,q2⟩;exact⟨j,by omega,q2⟩
    ·rintro⟨j,q1,q2,q3⟩
     by_cases hj:j=k
     ·subst hj;rw[<-ht,e]at q2;cases q2
     ·exact⟨j,by omega,q2,q3⟩
   ·have e:yZ c ws=true:=by simpa using e
    refine up (I:=λn2 v (a:AcM)=>wD s _ sc n (k:Int) n2 v c.kind c.vars c.consts c.n c.rows c.lits a ws) 0 sc.length rfl (AT _) (by omega)
     (λi a=>a.Nodup/\(∀x∈a,(0<=x.var/\x.var<6)/\x.op=0/\-50<=x.n/\x.n<=50)/\∀x,x∈a↔x∈met\/∃v∈sc.take i,x=⟨v,0,ws.getD v.toNat 0⟩) ⟨h1.nodup,h1.near,λx=>by simp⟩ λn2 i a _ hi ha2 hn2=> ?_
    obtain⟨p1,p2,p3⟩:=ha2;rw[Ss]
    by_cases hi2:i<sc.length
    ·have hsv:=hscv _ (AS hi2)
     have hgl:sc[i].toNat<ws.length:=by omega
     have hvi:zW .int ws sc[i].toNat=ws.getD sc[i].toNat 0:=rfl;rw[zY hi2,zT (t:=.int) hi2,hvi];have hin:xM sc[i] ws.length=true:=uW.2 (by omega)
     have hX:yM sF [.sl .lit a,.agg [.int .i64 sc[i],.int .i64 0,.int .i64 (ws.getD sc[i].toNat 0)]] .bool λc26=>zJ (!c26)
       (xQ .lit (a.length+([(⟨sc[i],0,ws.getD sc[i].toNat 0⟩:zC)]).length)=true/\wD s (λd=>d=dS (qO (λv n=> !OC c v||mayB (yZ c) s v n) s)) sc n (k:Int) n2 (yF ((i:Int)+1)) c.kind c.vars c.consts c.n c.rows c.lits (a++[(⟨sc[i],0,ws.getD sc[i].toNat 0⟩:zC)]) ws)
       (wD s (λd=>d=dS (qO (λv n=> !OC c v||mayB (yZ c) s v n) s)) sc n (k:Int) n2 (yF ((i:Int)+1)) c.kind c.vars c.consts c.n c.rows c.lits a ws):=by
      refine zI (VT a ⟨sc[i],0,ws.getD sc[i].toNat 0⟩) ?_
      have hmem:∀x,(x∈a\/x=(⟨sc[i],0,ws.getD sc[i].toNat 0⟩:zC))↔x∈met\/∃v∈sc.take (i+1),x=⟨v,0,ws.getD v.toNat 0⟩:=λx=>by
       rw[p3 x,<-Aar hi2];simp only[TO,IN];constructor
       ·rintro((q|⟨v,q1,q2⟩)|q)
        ·exact .inl q
        ·exact .inr ⟨v,.inl q1,q2⟩
        ·exact .inr ⟨_,.inr rfl,q⟩
       ·rintro(q|⟨v,q1|q1,q2⟩)
        ·exact .inl (.inl q)
        ·exact .inl (.inr ⟨v,q1,q2⟩)
        ·rw[q1]at q2;exact .inr q2
      refine zA (λf=>⟨yW (t:=.lit) ?_,hn2 hi2 _ ⟨?_,λx hx=> ?_,λx=> ?_⟩⟩) λf=>hn2 hi2 _ ⟨p1,p2,λx=> ?_⟩
      ·have:=ziZ p1 p2
       show(_+1)*24<=_;omega
      ·rw[Aca]
       refine⟨p1,by simp,λx hx y hy e2=> ?_⟩
       rw[IN]at hy
       have f:(a.any λy=>decide (y=(⟨sc[i],0,ws.getD sc[i].toNat 0⟩:zC)))=false:=by simpa using f
       rw[K4.2 (by rw[<-hy,<-e2];exact hx)]at f
       cases f
      ·rcases TO.1 hx with hx|hx
       ·exact p2 x hx
       ·rw[IN.1 hx];exact⟨by show 0<=sc[i]/\sc[i]<6;omega,rfl,hwn _⟩
      ·rw[<-hmem x,TO,IN]
      ·have f:(a.any λy=>decide (y=(⟨sc[i],0,ws.getD sc[i].toNat 0⟩:zC)))=true:=by simpa using f
       rw[<-hmem x];exact⟨.inl,λq=>q.elim id λq=>by rw[q];exact K4.1 f⟩
     repeat'(first|exact hX|exact hin|exact zE hi2|apply And.intro)
    ·have hi':i=sc.length:=by omega
     subst hi';rw[zS];refine hn h (a,ws) ⟨⟨p1,p2,λx=> ?_⟩,hws,hwn⟩
     rw[p3 x,h1.mem x,Aaj,hsc];constructor
     ·rintro(⟨j,q1,q2⟩|⟨v,q1,q2⟩)
      ·exact⟨j,by omega,q2⟩
      ·exact⟨k,by omega,by rw[<-ht];exact e,v,q1,by rw[q2,hsame v q1]⟩
     ·rintro⟨j,q1,q2,v,q3,q4⟩
      by_cases hj:j=k
      ·subst hj;exact .inr ⟨v,q3,by rw[q4,hsame v q3]⟩
      ·exact .inl ⟨j,by omega,q2,v,q3,q4⟩
  ·have hk':k=X6 s sc:=by omega
   subst hk';refine df (by rw[Nat.div_self hKp];decide) ?_
   have hmet:∀v n:Int,(⟨v,0,n⟩:zC)∈met↔v∈sc/\May (yZ c) s v.toNat n:=λv n=>by
    rw[h1.mem,<-hpart v n,hsc]
   refine up (I:=λn4 v (a:AcL)=>oU s _ sc n4 v met a) 0 s.length rfl (AT _) (by omega) (λi a=>a=(s.take i).mapIdx λv l=>l.filter λn=> !OC c v||mayB (yZ c) s v n) rfl λn4 i a _ hi ha4 hn4=> ?_
   subst ha4;rw[Sv]
   by_cases hi2:i<s.length
   ·have hrow:=hs.row i
    rw[yI _ hi2]at hrow
    have hroom:xQ (.list .int) (((s.take i).mapIdx λv l=>l.filter λn=> !OC c v||mayB (yZ c) s v n).length+1)=true:=yW (t:=.list .int) (by rw[AbB,Aaf];show(_+1)*24<=_;omega)
    have hhs:fX sc (i:Int)=OC c i:=by rw[<-hsc];exact K3 hi2
    rw[zY hi2];refine zI (VO _ _) (zA (λe=>⟨zE hi2,hroom,hn4 hi2 _ ?_⟩) λe=> ?_)
    ·rw[hhs]at e
     rw[S8 _ hi2,zT (t:=.list .int) hi2]
     congr 1
     congr 1
     symm
     exact Acs.2 λn _=>by rw[e];rfl
    ·rw[hhs]at e
     have e:OC c i=true:=by simpa using e
     refine up (I:=λn6 v (a:AcK)=>oT s _ sc n4 (i:Int) n6 v met _ a) 0 s[i].length rfl (AT _) (by omega) (λj a=>a=(s[i].take j).filter λn=> !OC c i||mayB (yZ c) s i n) rfl λn6 j a _ hj ha6 hn6=> ?_
     subst ha6;rw[Su,zT (t:=.list .int) hi2];refine⟨zE hi2,?_⟩
     by_cases hj2:j<s[i].length
     ·rw[zY hj2,zT (t:=.int) hj2]
      have hb:(met.any λy=>decide (y=(⟨(i:Int),0,s[i][j]⟩:zC)))=(!OC c i||mayB (yZ c) s i s[i][j]):=by
       rw[e,Abq,Abv,Aap,K4,hmet,mE,Aab];exact⟨λq=>q.2,λq=>⟨by rw[<-hsc];exact o6.2 ⟨by omega,e⟩,q⟩⟩
      refine⟨zE hi2,zE hj2,zI (VT met ⟨(i:Int),0,s[i][j]⟩) ?_⟩;rw[hb];refine zA (λf=>⟨zE hi2,zE hj2,yW (t:=.int) ?_,hn6 hj2 _ ?_⟩) λf=>hn6 hj2 _ ?_
      ·have:=AaZ (λn=> !OC c i||mayB (yZ c) s i n) (s[i].take j)
       rw[Aaf]at this
       show(_+1)*8<=_
       omega
      ·rw[oF _ hj2,As f]
      ·rw[oF _ hj2,An (by rw[f];exact Bool.false_ne_true)]
     ·have hj':j=s[i].length:=by omega
      subst hj';rw[zS,Aaj];exact⟨hroom,hn4 hi2 _ (S8 _ hi2).symm⟩
   ·have hi':i=s.length:=by omega
    subst hi';rw[zS,Aaj];rfl
def partB(c:zF)(s:AcL)(v:Nat)(n:Int):Bool:=
 (List.range (X6 s (yB c s.length))).any λk=>yZ c (uG s (yB c s.length) (List.replicate s.length 0) k).1&&decide ((uG s (yB c s.length) (List.replicate s.length 0) k).1.getD v 0=n)
def zcC(c:zF)(s:AcL):AcL:=
 if zZ s=true then s else if yB c s.length=[]then(if yZ c []=true then s else fz s)else qO (λv n=> !OC c v||partB c s v n) s
theorem zi0{c:zF}{s:AcL}(hc:tS c s.length)(hf:zZ s=false){v:Nat}{n:Int}(hv:v<s.length)(hi:OC c v=true):partB c s v n=mayB (yZ c) s v n:=by
 have hz:(List.replicate s.length (0:Int)).length=s.length:=Abk ..;have hm:(v:Int)∈yB c s.length:=o6.2 ⟨by omega,hi⟩
 rw[Aap,mE,partB,Aay];have h:=CT hc hf hz (v:=(v:Int)) (n:=n);rw[Fx hc hf hz,Aab]at h
 constructor
 ·rintro⟨k,hk,e⟩
  rw[If,Aaq]at e
  exact(h.1 ⟨k,Aa5.1 hk,e.1,(v:Int),hm,by rw[Aab,e.2]⟩).2
 ·intro hy
  obtain⟨k,hk,e1,u,hu,e2⟩:=h.2 ⟨hm,hy⟩;injection e2 with e3 e4
  refine⟨k,Aa5.2 hk,?_⟩;rw[If,Aaq];refine⟨e1,?_⟩;rw[e4,<-e3,Aab]
theorem zi1{c:zF}{s:AcL}(hc:tS c s.length):yS c s=zcC c s:=by
 rw[yS,zcC];split
 ·rfl
 rename_i hf;split
 ·rfl
 refine Vm λv n hn=> ?_
 have hv:v<s.length:=by
  apply Classical.byContradiction;intro h;rw[qJ (by omega)]at hn;cases hn
 cases hi:OC c v
 ·rfl
 ·rw[zi0 hc (by simpa using hf) hv hi]
theorem RK{m:zG}{s t:AcL}(h:fY m s=0)(hl:ZD t s):fY m t=0:=by
 obtain⟨h1,h2,h3⟩:=Sa.1 h;refine Sa.2 ⟨hl.1.trans h1,λv n hn=>h2 v n ((hl.2 v).subset hn),λl hm=> ?_⟩
 obtain⟨i,hi,rfl⟩:=Aal hm;have:=hl.2 i;rw[yI _ hi,yI _ (show i<s.length by rw[<-hl.1];exact hi)]at this
 exact(h3 _ (AS _)).sublist this
theorem zk7{m:zG}{s:AcL}(h:VE m [s]=0):xE m=0/\fY m s=0:=by
 have h1:=zdU h;rw[zdT (not_not_intro h1),Cp]at h
 exact⟨h1,h⟩
structure zhR (m:zG)(con:Int)(s:AcL):Prop where
 chk:xE m=0
 st:fY m s=0
 cn:0<=con/\con<(m.cons.length:Int)
 right:tS (yE m con) m.vars.length
 len:s.length=m.vars.length
 pos:0<m.vars.length
 op:Vl m.vars.length (yS (yE m con)) (yZ (yE m con))
theorem zk8{m:zG}{con:Int}{s:AcL}(h:C8 m con s=0):zhR m con s:=by
 obtain⟨h1,h2⟩:=zgn h;obtain⟨h3,h4⟩:=zk7 h1;have hr:=pR h3;have hc:=mD (Q5 h3 h2);have hp:0<m.vars.length:=by have:=hr.some;omega
 exact⟨h3,h4,h2,hc,Co h4,hp,Uv hc hp⟩
def Uj:wG:= {own:=[],live:=[(0,([2,11,12,13],[]))],n:=24}
def WU(a:zG)(b:AcN)(R:yL)(c:Nat)(d:Int):Prop:=LP Uj Tryz.f128 [1,1,0,1,0,0] 0 c ⟨[(2,.iptr (WG a []) 0),(11,.sl (.list .lit) b),(12,dI (b.length:Int)),(13,dI d)],[]⟩ (zH 0 (sK Uj Tryz.f128 [1,1,1] 0 (eK Tryz.f128 R)))
theorem RL(c:zG)(a:AcN)(R:yL)(d:Nat)(b:Int):WU c a R (d+1) b=
 (zJ (decide (b<(a.length:Int)))
 (xM b a.length=true/\
 yM bR [dM c,.sl .lit (zW (.list .lit) a b.toNat)] .int λe=>
 zJ (!decide (e=0))
 (R (dI e))
 (WU c a R d (yF (b+1))))
 (R (dI 0))):=by kernel_rfl
theorem AN(b:zG)(a:AcN)(R:yL):FD Uj Tryz.f128 [dM b,.sl (.list .lit) a] R=
 (zJ (decide (600<(a.length:Int)))
 (R (dI 2))
 (∃n0,WU b a R n0 0)):=by kernel_rfl
theorem C9(a:zG)(b:AcN):xZ Uj Tryz.f128 V4 [dM a,.sl (.list .lit) b]:=wA func128 (by kernel_rfl) ntmps128 rfl
def o8:wG:= {own:=[],live:=[(0,([1,2,3,4],[])),(2,([1,2,3,4,9,10],[])),(4,([1,2,3,4,9,11],[]))],n:=62}
def Tc(a:zG)(b:Bool)(c:AcN)(R:yL)(d:Nat)(e:AcL)(f:Nat)(g:AcL)(h:Int):Prop:=LP o8 f136 [1,1,0,0,0,1,1,0,1,0,0] 4 f ⟨[(1,dS g),(2,dB b),(3,.sl (.list .lit) c),(4,.iptr (WG a []) 0),(9,dS e),(11,dI h)],[]⟩ (zH 4 (sK o8 f136 [1,1,0,0,0,1,1,1] 1 (zH 1 (iK o8 f136 [1,1,0,0] 0 d (zH 0 (eK f136 R))))))
def XJ(a:zG)(b:Bool)(c:AcN)(R:yL)(d:Nat)(e:AcL)(f:Nat)(g:AcL)(h:Int):Prop:=LP o8 f136 [1,1,0,0,0,1,1,0,1,0,0] 4 f ⟨[(1,dS g),(2,dB b),(3,.sl (.list .lit) c),(4,.iptr (WG a []) 0),(9,dS e),(11,dI h)],[]⟩ (zH 4 (sK o8 f136 [1,1,0,0,0,1,1,1] 1 (zH 1 (iK o8 f136 [1,1,0,0] 0 d (zH 0 (eK f136 R))))))
def Uk(a:zG)(b:Bool)(c:AcN)(R:yL)(d:Nat)(e:AcL)(f:Nat)(g:AcL)(h:Int):Prop:=LP o8 f136 [1,1,0,0,0,1,1,0,1,0,0] 4 f ⟨[(1,dS g),(2,dB b),(3,.sl (.list .lit) c),(4,.iptr (WG a []) 0),(9,dS e),(11,dI h)],[]⟩ (zH 4 (sK o8 f136 [1,1,0,0,0,1,1,1] 1 (zH 1 (iK o8 f136 [1,1,0,0] 0 d (zH 0 (eK f136 R))))))
def YB(a:zG)(b:Bool)(c:AcN)(R:yL)(d:Nat)(e:AcL)(f:Nat)(g:AcL)(h:Int):Prop:=LP o8 f136 [1,1,0,0,0,1,0,1,0,0] 2 f ⟨[(1,dS g),(2,dB b),(3,.sl (.list .lit) c),(4,.iptr (WG a []) 0),(9,dS e),(10,dI h)],[]⟩ (zH 2 (sK o8 f136 [1,1,0,0,0,1,1] 1 (zH 1 (iK o8 f136 [1,1,0,0] 0 d (zH 0 (eK f136 R))))))
def ot(a:zG)(b:Bool)(c:AcN)(R:yL)(d:Nat)(e:AcL):Prop:=LP o8 f136 [1,1,0,0] 0 d ⟨[(1,dS e),(2,dB b),(3,.sl (.list .lit) c),(4,.iptr (WG a []) 0)],[]⟩ (zH 0 (eK f136 R))
theorem AO(d:zG)(e:Bool)(b:AcN)(R:yL)(f:Nat)(g:AcL)(h:Nat)(a:AcL)(c:Int):Tc d e b R f g (h+1) a c=
 (zJ (decide (c<(b.length:Int)))
 (yM xF [dS a] .bool λi=>
 zJ (!i)
 (xM c b.length=true/\
 yM fL [dS a,.sl .lit (zW (.list .lit) b c.toNat)] (.list (.list .int)) λj=>
 Tc d e b R f g h j (yF (c+1)))
 (yM xF [dS a] .bool λk=>
 zJ k
 (yM uT [dS a] (.list (.list .int)) λl=>
 R (dS l))
 (yM gB [dS a,dS g] .bool λm=>
 zJ m
 (R (dS a))
 (ot d e b R f a))))
 (yM xF [dS a] .bool λn=>
 zJ n
 (yM uT [dS a] (.list (.list .int)) λo=>
 R (dS o))
 (yM gB [dS a,dS g] .bool λp=>
 zJ p
 (R (dS a))
 (ot d e b R f a)))):=by kernel_rfl
theorem EG(d:zG)(e:Bool)(b:AcN)(R:yL)(f:Nat)(g:AcL)(h:Nat)(a:AcL)(c:Int):XJ d e b R f g (h+1) a c=
 (zJ (decide (c<(b.length:Int)))
 (yM xF [dS a] .bool λi=>
 zJ (!i)
 (xM c b.length=true/\
 yM fL [dS a,.sl .lit (zW (.list .lit) b c.toNat)] (.list (.list .int)) λj=>
 XJ d e b R f g h j (yF (c+1)))
 (yM xF [dS a] .bool λk=>
 zJ k
 (yM uT [dS a] (.list (.list .int)) λl=>
 R (dS l))
 (yM gB [dS a,dS g] .bool λm=>
 zJ m
 (R (dS a))
 (ot d e b R f a))))
 (yM xF [dS a] .bool λn=>
 zJ n
 (yM uT [dS a] (.list (.list .int)) λo=>
 R (dS o))
 (yM gB [dS a,dS g] .bool λp=>
 zJ p
 (R (dS a))
 (ot d e b R f a)))):=by kernel_rfl
theorem EH(d:zG)(e:Bool)(b:AcN)(R:yL)(f:Nat)(g:AcL)(h:Nat)(a:AcL)(c:Int):Uk d e b R f g (h+1) a c=
 (zJ (decide (c<(b.length:Int)))
 (yM xF [dS a] .bool λi=>
 zJ (!i)
 (xM c b.length=true/\
 yM fL [dS a,.sl .lit (zW (.list .lit) b c.toNat)] (.list (.list .int)) λj=>
 Uk d e b R f g h j (yF (c+1)))
 (yM xF [dS a] .bool λk=>
 zJ k
 (yM uT [dS a] (.list (.list .int)) λl=>
 R (dS l))
 (yM gB [dS a,dS g] .bool λm=>
 zJ m
 (R (dS a))
 (ot d e b R f a))))
 (yM xF [dS a] .bool λn=>
 zJ n
 (yM uT [dS a] (.list (.list .int)) λo=>
 R (dS o))
 (yM gB [dS a,dS g] .bool λp=>
 zJ p
 (R (dS a))
 (ot d e b R f a)))):=by kernel_rfl
theorem WV(a:zG)(b:Bool)(d:AcN)(R:yL)(e:Nat)(f:AcL)(h:Nat)(c:AcL)(g:Int):YB a b d R e f (h+1) c g=
 (zJ b
 (zJ (decide (g<(a.cons.length:Int)))
 (yM xF [dS c] .bool λi=>
 zJ (!i)
 (xM g a.cons.length=true/\
 yM iE [dC (zW .con a.cons g.toNat),dS c] (.list (.list .int)) λj=>
 YB a b d R e f h j (yF (g+1)))
 (∃n4,Tc a b d R e f n4 c 0))
 (∃n4_2,XJ a b d R e f n4_2 c 0))
 (∃n4_3,Uk a b d R e f n4_3 c 0)):=by kernel_rfl
theorem AP(b:zG)(c:Bool)(d:AcN)(R:yL)(e:Nat)(a:AcL):ot b c d R (e+1) a=
 (∃n2,YB b c d R e a n2 a 0):=by kernel_rfl
theorem zgo(a:zG)(b:AcL)(c:Bool)(d:AcN)(R:yL):FD o8 f136 [dM a,dS b,dB c,.sl (.list .lit) d] R=
 (yM fy [dS b] (.list (.list .int)) λe=>
 ∃n0,ot a c d R n0 e):=by kernel_rfl
theorem zer(a:zG)(b:AcL)(c:Bool)(d:AcN):xZ o8 f136 dP [dM a,dS b,dB c,.sl (.list .lit) d]:=wA func136 (by kernel_rfl) ntmps136 rfl
def Ba:wG:= {own:=[],live:=[],n:=8}
theorem zes(a b:AcL)(R:yL):FD Ba f202 [dS a,dS b] R=
 (yM yP [dS a,dS b,.clo aX none []] .bool λc=>
 R (dB c)):=by kernel_rfl
theorem zcD(a b:AcL):xZ Ba f202 gB [dS a,dS b]:=wA func202 (by kernel_rfl) ntmps202 rfl
def IP:wG:= {own:=[],live:=[],n:=10}
theorem AQ(a b:AcK)(R:yL):FD IP f256 [.sl .int a,.sl .int b] R=
 (R (dB (decide ((a.length:Int)=(b.length:Int))))):=by kernel_rfl
theorem Bb(a b:AcK):xZ IP f256 aX [.sl .int a,.sl .int b]:=wA func256 (by kernel_rfl) ntmps256 rfl
noncomputable def zcE (m:zG):List Op:=m.cons.map yS
def Q6(l:AcN):List Op:=l.map λc s=>aL s c
noncomputable def pT (m:zG)(cons:Bool)(l:AcN):List Op:=(if cons=true then zcE m else[])++Q6 l
noncomputable def sM (m:zG)(cons:Bool)(l:AcN)(s:AcL):AcL:=zkX (pT m cons l) s
structure yX (m:zG)(l:AcN):Prop where
 right:Right m
 cons:∀c∈m.cons,tS c m.vars.length
 lits:∀c∈l,∀x∈c,0<=x.var/\x.var<(m.vars.length:Int)
theorem yX.pos{m:zG}{l:AcN}(h:yX m l):0<m.vars.length:=by have:=h.right.some;omega
theorem Bc{m:zG}{l:AcN}(h:xE m=0)(hl:∀c∈l,∀x∈c,gX m.vars.length x=0):yX m l:=by
 refine⟨pR h,λc hc=> ?_,λc hc x hx=>(qE.1 (hl c hc x hx)).1⟩
 obtain⟨i,hi,rfl⟩:=Aal hc;have:=mD (Q5 h (con:=(i:Int)) (by omega))
 rwa[yE,Aab,yI _ hi]at this
theorem Td{m:zG}{l:AcN}(h:yX m l){c:zF}(hc:c∈m.cons):Vl m.vars.length (yS c) (yZ c):=Uv (h.cons c hc) h.pos
theorem YC{m:zG}{l:AcN}(h:yX m l){c:AcM}(hc:c∈l):Vl m.vars.length (λs=>aL s c) (oo c):=zhM (h.lits c hc) h.pos
theorem ou{m:zG}{cons:Bool}{l:AcN}{op:Op}:op∈pT m cons l↔(cons=true/\∃c∈m.cons,yS c=op)\/∃c∈l,(λs=>aL s c)=op:=by
 rw[pT,TO,Q6,Of];cases cons
 ·simp
 ·simp[zcE]
theorem N2{m:zG}{cons:Bool}{l:AcN}(h:yX m l):Fs m.vars.length (pT m cons l):=λop hm=>by
 rcases ou.1 hm with⟨_,c,hc,rfl⟩|⟨c,hc,rfl⟩
 ·exact⟨_,Td h hc⟩
 ·exact⟨_,YC h hc⟩
theorem dY{m:zG}{cons:Bool}{l:AcN}(h:yX m l){s:AcL}(hs:s.length=m.vars.length):TM (pT m cons l) s (sM m cons l s):=ziN (N2 h) hs
theorem Sh{m:zG}{cons:Bool}{l:AcN}(h:yX m l){s r:AcL}(hs:s.length=m.vars.length)(hr:TM (pT m cons l) s r):sM m cons l s=r:=zmw (by have:=h.pos;omega) hr
structure Fy (ops:List Op)(was s:AcL)(done:List Op):Prop where
 le:ZD s was
 stab:s=was->∀op∈done,op was=was
theorem Fy.step{nv:Nat}{ops done:List Op}{was s:AcL}(h:Fy ops was s done){op:Op}{Q:AcK->Bool}(ho:Vl nv op Q)(hs:s.length=nv):Fy ops was (op s) (done++[op]):=by
 have hle:=ho.le hs;refine⟨hle.trans h.le,λe op' hm=> ?_⟩
 have e2:s=was:=h.le.antisymm (by rw[<-e];exact hle)
 rcases TO.1 hm with hm|hm
 ·exact h.stab e2 op' hm
 ·rw[IN.1 hm];rw[e2]at e;exact e
theorem zaZ:∀ {s t:AcL},s.length=t.length->((s.zip t).any λx=> !decide (x.1.length=x.2.length))=false->(∀v:Nat,(s.getD v []).Sublist (t.getD v []))->s=t
 |[],[],_,_,_=>rfl
 |a::s,b::t,hl,h,hs=>by
  rw[AbZ,Aa3,Abd]at h
  have h1:a.length=b.length:=by simpa using h.1
  have h0:a.Sublist b:=hs 0;rw[h0.eq_of_length h1,zaZ (by simpa using hl) h.2 λv=>hs (v+1)]
 |[],_::_,hl,_,_=>by simp at hl
 |_::_,[],hl,_,_=>by simp at hl
def Fz(s t:AcL):Bool:=decide (s.length=t.length)&& !((s.zip t).any λx=> !decide (x.1.length=x.2.length))
theorem za0{s t:AcL}(h:ZD s t):Fz s t=true↔s=t:=by
 rw[Fz,If,Aaq,AaI];constructor
 ·rintro⟨h1,h2⟩;exact zaZ h1 h2 h.2
 ·rintro rfl
  refine⟨rfl,AaA.2 λx hx=> ?_⟩
  obtain⟨i,hi,rfl⟩:=Aal hx;rw[AaM];simp
theorem AR(a b:AcK):tJ aX [.sl .int a,.sl .int b] (dB (decide (a.length=b.length))):=
 Bb a b λok=>by
  rw[AQ];show D.bool _=D.bool _
  congr 1
  exact decide_eq_decide.2 ⟨λe=>by omega,λe=>by omega⟩
theorem zet(s t:AcL):tJ gB [dS s,dS t] (dB (Fz s t)):=
 zcD s t λok=>by
  rw[zes];refine zI (x:=Fz s t) ?_ rfl;refine VA.clo (pre:=[_,_]) (slices_EqualFunc_api_Store_api_Store_int_int_sat s t aX [] λok=> ?_)
  have hs:WS s:=aU (MD ok);have hsl:=MG hs;rw[qN];refine zA (λe=> ?_) λe=> ?_
  ·rw[Fz,Aah (by simp at e;omega)];rfl
  have e:s.length=t.length:=by simp at e;omega
  have hz:(s.zip t).length=s.length:=by rw[AaC];omega
  refine Hv (I:=λn v=>wC s t aX [] _ n v) (s.zip t) (λx=> !decide (x.1.length=x.2.length)) (by omega) (X:=dB false=dB (Fz s t)) (Y:=dB true=dB (Fz s t)) (by rw[Fz,Or e];cases(s.zip t).any λx=> !decide (x.1.length=x.2.length)<;>rfl) (λn k h hX hn=> ?_) λn hY=> ?_
  ·have hk:k<s.length:=by omega
   rw[AaM]at hX hn
   rw[wU,zY hk,zT (t:=.list .int) hk,zT (t:=.list .int) (show k<t.length by omega)]
   exact⟨zE hk,zE (by omega),Cf,zI (AR _ _) (zA hX hn)⟩
  ·rw[hz,wU,zS];exact hY
theorem zgp{nv:Nat}{ops:List Op}{s0 s:AcL}(h:rD ops s0 s)(hg:dF s0 nv):dF s nv:=by
 refine⟨h.le.1.trans hg.len,λv n hn=>hg.near v n ((h.le.2 v).subset hn),λl hl=> ?_⟩
 obtain⟨i,hi,rfl⟩:=Aal hl;have:=h.le.2 i;rw[yI _ hi,yI _ (show i<s0.length by rw[<-h.le.1];exact hi)]at this
 exact(hg.rise _ (AS _)).sublist this
theorem zm8{nv:Nat}{ops pre:List Op}{s0 was:AcL}(ho:Fs nv ops)(h0:s0.length=nv){A:Type}(xs:List A)(f:A->Op)(hf:∀x∈xs,f x∈ops)
  {I:Nat->Int->AcL->Prop} {X:AcL->Prop} {s:AcL} (hl:xs.length<=9223372036854775807) (hr:rD ops s0 s) (hw:zZ s=true\/Fy ops was s pre)
  (hout:∀s,rD ops s0 s->(zZ s=true\/Fy ops was s (pre++xs.map f))->X s)
  (hin:∀n (k:Nat) (h:k<xs.length) s,rD ops s0 s->zZ s=false->I n (yF ((k:Int)+1)) (f xs[k] s)->I (n+1) (k:Int) s)
  (hend:∀n s,X s->I (n+1) (xs.length:Int) s) (hfail:∀n (k:Nat) s,k<xs.length->zZ s=true->X s->I (n+1) (k:Int) s):∃n,I n 0 s:=by
 refine up (I:=I) 0 xs.length rfl (AT _) hl (λk s=>rD ops s0 s/\(zZ s=true\/Fy ops was s (pre++(xs.take k).map f))) ⟨hr,by simpa using hw⟩ λn k s _ hk ha hn=> ?_
 obtain⟨h1,h2⟩:=ha
 by_cases h:k<xs.length
 ·cases hfl:zZ s with
  |true=>exact hfail n k s h hfl (hout s h1 (.inl hfl))
  |false=>
   obtain⟨Q,hq⟩:=ho _ (hf _ (AS h));have h2:=h2.resolve_left (by rw[hfl];decide)
   refine hin n k h s h1 hfl (hn h _ ⟨h1.step ho h0 (hf _ (AS h)),.inr ?_⟩);rw[OU _ h,<-AaH];exact h2.step hq (h1.le.1.trans h0)
 ·have hk':k=xs.length:=by omega
  subst hk';refine hend n s (hout s h1 ?_)
  rwa[Aaj]at h2
def zmE(m:zG)(cons:Bool)(l:AcN)(s0:AcL)(n0:Nat)(was s:AcL):Prop:=
 yM xF [dS s] .bool λs11=>zJ s11
  (yM uT [dS s] (.list (.list .int)) λs12=>D.sl (.list .int) s12=dS (sM m cons l s0))
  (yM gB [dS s,dS was] .bool λf13=>zJ f13 (D.sl (.list .int) s=dS (sM m cons l s0)) (ot m cons l (λd=>d=dS (sM m cons l s0)) n0 s))
theorem zmF{m:zG}{cons:Bool}{l:AcN}{s0:AcL}(h:yX m l)(hs:s0.length=m.vars.length){n0:Nat}{was:AcL}
  (ih:∀s,rD (pT m cons l) s0 s->vI s<vI was->ot m cons l (λd=>d=dS (sM m cons l s0)) n0 s) {s:AcL} (hr:rD (pT m cons l) s0 s) (hx:zZ s=true\/Fy (pT m cons l) was s (pT m cons l)):zmE m cons l s0 n0 was s:=by
 refine zI (vU s) (zA (λe=> ?_) λe=> ?_)
 ·have e:zZ s=true:=e
  refine zI (Zg s) ?_;rw[Sh h hs (hr.dead e),Ir hr.le.1]
 ·have e:zZ s=false:=e
  have hrd:=hx.resolve_left (by rw[e];decide)
  refine zI (zet s was) (zA (λf=> ?_) λf=> ?_)
  ·have f2:=(za0 hrd.le).1 f
   rw[Sh h hs (hr.stop e λop hm=> ?_)]
   rw[f2];exact hrd.stab f2 op hm
  ·exact ih s hr (hrd.le.size_lt λf2=>by rw[(za0 hrd.le).2 f2]at f;cases f)
theorem Bd{m:zG}{cons:Bool}{l:AcN}{s0:AcL}(h:yX m l)(hs:s0.length=m.vars.length)(hll:l.length<=1000000000){n0:Nat}{was:AcL}
  (ih:∀s,rD (pT m cons l) s0 s->vI s<vI was->ot m cons l (λd=>d=dS (sM m cons l s0)) n0 s)
  {I:Nat->Int->AcL->Prop}
  (heq:∀n (i:Int) s,I (n+1) i s=zJ (decide (i<(l.length:Int)))
   (yM xF [dS s] .bool λs9=>zJ (!s9)
    (xM i l.length=true/\yM fL [dS s,.sl .lit (zW (.list .lit) l i.toNat)] (.list (.list .int)) λc10=>I n (yF (i+1)) c10)
    (zmE m cons l s0 n0 was s))
   (zmE m cons l s0 n0 was s))
  {s:AcL} (hr:rD (pT m cons l) s0 s) (hw:zZ s=true\/Fy (pT m cons l) was s (if cons=true then zcE m else[])):∃n,I n 0 s:=by
 refine zm8 (N2 h) hs l (λc s=>aL s c) (λc hc=>ou.2 (.inr ⟨c,hc,rfl⟩)) (by omega) hr hw (X:=zmE m cons l s0 n0 was) (λs h1 h2=>zmF h hs ih h1 h2) (λn k hk s h1 hf hi=> ?_) (λn s hx=> ?_) λn k s hk hf hx=> ?_
 ·rw[heq,zY hk,zT (t:=.list .lit) hk]
  refine zI (vU s) (bnt hf ⟨zE hk,zI (AJ λx hx=> ?_) hi⟩)
  have:=h.lits _ (AS hk) x hx;rw[h1.le.1,hs];exact this
 ·rw[heq,zS];exact hx
 ·rw[heq,zY hk]
  exact zI (vU s) (bnf hf hx)
theorem Te{m:zG}{cons:Bool}{l:AcN}{s0:AcL}(h:yX m l)(hs:dF s0 m.vars.length)(hll:l.length<=1000000000):tJ dP [dM m,dS s0,dB cons,.sl (.list .lit) l] (dS (sM m cons l s0)):=
 zer m s0 cons l λok=>by
  have ho:=N2 (cons:=cons) h;have hcl:=h.right.cons;rw[zgo];refine zI (XB s0) ?_
  have step:∀(n0:Nat) (was:AcL),rD (pT m cons l) s0 was->(∀s,rD (pT m cons l) s0 s->vI s<vI was->ot m cons l (λd=>d=dS (sM m cons l s0)) n0 s)->ot m cons l (λd=>d=dS (sM m cons l s0)) (n0+1) was:=by
   intro n0 was hw ih;rw[AP];cases cons with
   |false=>
    refine⟨1,?_⟩;rw[WV];refine bf rfl ?_;exact Bd h hs.len hll ih (I:=λn i s=>Uk m false l _ n0 was n s i) (λn i s=>by rw[EH];rfl) hw (.inr ⟨ZD.refl _,λ_ op hm=>(by cases hm)⟩)
   |true=>
    refine zm8 ho hs.len m.cons yS (λc hc=>ou.2 (.inl ⟨rfl,c,hc,rfl⟩)) (by omega) hw (was:=was) (pre:=[]) (.inr ⟨ZD.refl _,λ_ op hm=>(by cases hm)⟩) (I:=λn i s=>YB m true l _ n0 was n s i)
     (X:=λs=>(∃n4,Tc m true l (λd=>d=dS (sM m true l s0)) n0 was n4 s 0)/\∃n4_2,XJ m true l (λd=>d=dS (sM m true l s0)) n0 was n4_2 s 0) (λs h1 h2=> ?_) (λn k hk s h1 hf hi=> ?_) (λn s hx=> ?_) λn k s hk hf hx=> ?_
    ·exact⟨Bd h hs.len hll ih (I:=λn i s=>Tc m true l _ n0 was n s i) (λn i s=>by rw[AO];rfl) h1 h2,Bd h hs.len hll ih (I:=λn i s=>XJ m true l _ n0 was n s i) (λn i s=>by rw[EG];rfl) h1 h2⟩
    ·show YB m true l _ n0 was (n+1) s (k:Int)
     rw[WV];refine bt rfl ?_;rw[zY hk,zT (t:=.con) hk];have hg:=zgp h1 hs;have hl:=hg.len;refine zI (vU s) (bnt hf ⟨zE hk,zI (Z5 (c:=m.cons[k]) (by rw[hl];exact h.cons _ (AS hk)) (by rw[hl];exact hg)) hi⟩)
    ·show YB m true l _ n0 was (n+1) s (m.cons.length:Int)
     rw[WV];refine bt rfl ?_;rw[zS];exact hx.2
    ·show YB m true l _ n0 was (n+1) s (k:Int)
     rw[WV];refine bt rfl ?_;rw[zY hk];exact zI (vU s) (bnf hf hx.1)
  suffices H:∀(d:Nat) (was:AcL),vI was<=d->rD (pT m cons l) s0 was->ot m cons l (λd=>d=dS (sM m cons l s0)) (d+1) was from⟨_,H _ s0 (BY _) (rD.refl _ _)⟩
  intro d
  induction d with
  |zero=>exact λwas hd hw=>step 0 was hw λs _ hlt=>At hlt (by omega)
  |succ d ih=>exact λwas hd hw=>step (d+1) was hw λs h1 hlt=>ih s (by omega) h1
def XK(nv:Nat)(l:AcN):Int:=if 600<l.length then 2 else wB (λ_ c=>yK nv c) 0 l
theorem zcF{nv:Nat}{l:AcN}(h:XK nv l=0):l.length<=600/\∀c∈l,yK nv c=0:=by
 unfold XK at h
 split at h
 ·exact At h (by decide)
 rename_i h1;refine⟨by omega,λl hl=> ?_⟩
 obtain⟨i,hi,rfl⟩:=Aal hl;exact Yz h hi
theorem AU(m:zG)(l:AcN):tJ V4 [dM m,.sl (.list .lit) l] (dI (XK m.vars.length l)):=
 C9 m l λok=>by
  rw[AN];refine zA (λe=> ?_) λe=> ?_
  ·exact uM (As (by simp at e;omega))
  have e:¬600<l.length:=by simp at e;omega
  rw[show XK m.vars.length l=wB (λ_ c=>yK m.vars.length c) 0 l from An e]
  refine Ac (I:=λn v=>WU m l _ n v) l (λ_ c=>yK m.vars.length c) (by omega) (X:=λx=>D.int .i64 x=dI (wB (λ_ c=>yK m.vars.length c) 0 l)) (Y:=D.int .i64 0=dI (wB (λ_ c=>yK m.vars.length c) 0 l)) (λ_=>rfl) (λe=>uM e) (λn k h _ hX hn=> ?_) λn hY=> ?_
  ·rw[RL,zY h,zT (t:=.list .lit) h]
   exact⟨zE h,zI (Pz m _) (zA (λe=>hX (oO e)) λe=>hn (qS e))⟩
  ·rw[RL,zS];exact hY
theorem TN{m:zG}(h:xE m=0)(l:AcN):tJ nH [dM m,.sl (.list .lit) l] (dI (XK m.vars.length l)):=
 UV m l λok=>by
  rw[TI];refine zA (λe=> ?_) λe=> ?_
  ·exact uM (As (by simp at e;omega))
  have e:¬600<l.length:=by simp at e;omega
  rw[show XK m.vars.length l=wB (λ_ c=>yK m.vars.length c) 0 l from An e]
  refine Ac (I:=λn v=>oN m l _ n v) l (λ_ c=>yK m.vars.length c) (by omega) (X:=λx=>D.int .i64 x=dI (wB (λ_ c=>yK m.vars.length c) 0 l)) (Y:=D.int .i64 0=dI (wB (λ_ c=>yK m.vars.length c) 0 l)) (λ_=>rfl) (λe=>uM e) (λn k hk _ hX hn=> ?_) λn hY=> ?_
  ·rw[eW,zY hk,zT (t:=.list .lit) hk]
   exact⟨zE hk,zI (Z2 h _) (zA (λe=>hX (oO e)) λe=>hn (qS e))⟩
  ·rw[eW,zS];exact hY
structure zm9 (m:zG)(s:AcL)(l:AcN):Prop where
 chk:xE m=0
 st:fY m s=0
 len:l.length<=1000000
 cl:∀c∈l,yK m.vars.length c=0
 mc:yX m l
 good:dF s m.vars.length
theorem kR{m:zG}{l:AcN}(h:xE m=0)(hl:∀c∈l,yK m.vars.length c=0):yX m l:=Bc h λc hc x hx=>(hJ (hl c hc)).2 x hx
theorem zeu{m:zG}(h:xE m=0):yX m []:=Bc h λc hc=>by cases hc
theorem down{α:Type}{I:Nat->Int->α->Prop}(m:Nat)(hm:m<=9223372036854775807)(Inv:Nat->α->Prop){a:α}(h0:Inv m a)
  (hs:∀n (k:Nat) a,k<=m->Inv k a->(∀j:Nat,k=j+1->∀a',Inv j a'->I n (yF ((j:Int)-1)) a')->I (n+1) ((k:Int)-1) a):∃n,I n (yF ((m:Int)-1)) a:=by
 suffices H:∀k,k<=m->∀a,Inv k a->I (k+1) ((k:Int)-1) a from⟨m+1,by rw[wL (by omega) (by omega)];exact H m (BY _) a h0⟩
 intro k
 induction k with
 |zero=>exact λhk a ha=>hs 0 0 a hk ha λj e=>At e (by omega)
 |succ k ih=>
  intro hk a ha;refine hs (k+1) (k+1) a hk ha λj e a' ha'=> ?_
  obtain rfl:k=j:=by omega
  rw[wL (by omega) (by omega)]
  exact ih (by omega) a' ha'
structure Be (ops:List Op)(s0 was:AcL)(done:List Op)(s:AcL)(ch:Bool):Prop where
 reach:rD ops s0 s
 st:zZ s=true\/(ch=false/\s=was/\∀op∈done,op was=was)\/(ch=true/\vI s<vI was)
theorem zhS{nv:Nat}{ops pre:List Op}{s0 was:AcL}(ho:Fs nv ops)(h0:s0.length=nv){A:Type}(xs:List A)(f:A->Op)(hf:∀x∈xs,f x∈ops)
  {I:Nat->Int->AcL×Bool->Prop} {X:AcL×Bool->Prop} {s:AcL} {ch:Bool} (hl:xs.length<=9223372036854775807) (hr:Be ops s0 was pre s ch)
  (hout:∀s ch,Be ops s0 was (xs.map f++pre) s ch->X (s,ch))
  (hin:∀n (k:Nat) (h:k<xs.length) s ch,rD ops s0 s->zZ s=false->(f xs[k] s≠s->I n (yF ((k:Int)-1)) (f xs[k] s,true))->(f xs[k] s=s->I n (yF ((k:Int)-1)) (s,ch))->I (n+1) (k:Int) (s,ch))
  (hend:∀n a,X a->I (n+1) (-1) a) (hfail:∀n (k:Nat) s ch,k<xs.length->zZ s=true->X (s,ch)->I (n+1) (k:Int) (s,ch)):∃n,I n (yF ((xs.length:Int)-1)) (s,ch):=by
 refine down (I:=I) xs.length hl (λk a=>Be ops s0 was ((xs.drop k).map f++pre) a.1 a.2) (by rw[Ab1];exact hr) λn k a hk ha hn=> ?_
 obtain⟨s,ch⟩:=a;have ha:Be ops s0 was ((xs.drop k).map f++pre) s ch:=ha;cases k with
 |zero=>
  rw[Aa4]at ha
  exact hend n _ (hout s ch ha)
 |succ j=>
  have hj:j<xs.length:=by omega
  rw[show(((j+1:Nat):Int)-1)=(j:Int) by omega]
  cases hfl:zZ s with
  |true=>exact hfail n j s ch hj hfl (hout s ch ⟨ha.reach,.inl hfl⟩)
  |false=>
   obtain⟨Q,hq⟩:=ho _ (hf _ (AS hj));have hs:s.length=nv:=ha.reach.le.1.trans h0;have hst:=ha.st.resolve_left (by rw[hfl];decide)
   have hle:vI s<=vI was:=by
    rcases hst with⟨_,rfl,_⟩|⟨_,h⟩
    ·exact BY _
    ·omega
   refine hin n j hj s ch ha.reach hfl (λhne=> ?_) λe=> ?_
   ·refine hn j rfl _ ⟨ha.reach.step ho h0 (hf _ (AS hj)),.inr (.inr ⟨rfl,?_⟩)⟩
    exact Aax ((hq.le hs).size_lt hne) hle
   ·refine hn j rfl _ ⟨ha.reach,.inr ?_⟩
    rcases hst with⟨h1,h2,h3⟩|h
    ·refine .inl ⟨h1,h2,λop hm=> ?_⟩
     rw[AaF hj,Aak,Abz]at hm
     rcases OF.1 hm with rfl|hm
     ·rw[h2]at e;exact e
     ·exact h3 op hm
    ·exact .inr h
theorem K5{m:zG}{s0:AcL}{l:AcN}(cons:Bool)(hF:zm9 m s0 l):tJ cY [dM m,dS s0,dB cons,.sl (.list .lit) l] (dS (sM m cons l s0)):=
 M4 m s0 cons l λok=>by
  have h:=hF.mc;have hs:=hF.good;have ho:=N2 (cons:=cons) h;have hcl:=h.right.cons;have hll:=hF.len;rw[KA]
  have ans:∀s,rD (pT m cons l) s0 s->(zZ s=true\/Om (pT m cons l) s)->yM xL [dS s] .bool λc22=>zJ c22 (yM sA [dI s.length] (.list (.list .int)) λc23=>D.sl (.list .int) c23=dS (sM m cons l s0)) (D.sl (.list .int) s=dS (sM m cons l s0)):=λs hr hx=>by
   refine zI (wY s) (zA (λe=> ?_) λe=> ?_)
   ·have e:zZ s=true:=e
    refine zI (cO (by have:=hr.le.1;have:=hs.len;have:=h.right.vars;omega)) ?_
    rw[Sh h hs.len (hr.dead e),Ir hr.le.1]
   ·have e:zZ s=false:=e
    rw[Sh h hs.len (hr.stop e (hx.resolve_left (by rw[e];decide)))]
  have stop:∀(n:Nat) s ch,rD (pT m cons l) s0 s->(zZ s=true\/(ch=false/\Om (pT m cons l) s))->xX m cons l (λd=>d=dS (sM m cons l s0)) (n+1) s ch:=λn s ch hr hx=>by
   rw[XY];cases ch with
   |false=>exact bf rfl (ans s hr (hx.imp id λh=>h.2))
   |true=>
    have hfl:=hx.resolve_right λh=>by cases h.1
    exact bt rfl (zI (wY s) (bnf hfl (ans s hr (.inl hfl))))
  have step:∀(n0:Nat) (was:AcL),rD (pT m cons l) s0 was->(∀s,rD (pT m cons l) s0 s->vI s<vI was->xX m cons l (λd=>d=dS (sM m cons l s0)) (n0+1) s true)->xX m cons l (λd=>d=dS (sM m cons l s0)) (n0+1+1) was true:=by
   intro n0 was hw ih;cases hfw:zZ was with
   |true=>exact stop _ _ _ hw (.inl hfw)
   |false=>
   rw[XY];refine bt rfl (zI (wY was) (bnt hfw ?_))
   have hX:∀s ch,Be (pT m cons l) s0 was (pT m cons l) s ch->xX m cons l (λd=>d=dS (sM m cons l s0)) (n0+1) s ch:=λs ch hd=>by
    rcases hd.st with h1|⟨h1,h2,h3⟩|⟨h1,h2⟩
    ·exact stop _ _ _ hd.reach (.inl h1)
    ·exact stop _ _ _ hd.reach (.inr ⟨h1,by rw[h2];exact h3⟩)
    ·rw[h1];exact ih s hd.reach h2
   have consDown:∀(I:Nat->Int->AcL×Bool->Prop),(∀n (i:Int) a,I (n+1) i a=zJ (decide (0<=i)) (zJ cons (yM xL [dS a.1] .bool λc13=>zJ (!c13)
      (yM rQ [dM m,dI i,dS a.1] (.list (.list .int)) λc14=>yM sV [dS a.1,dS c14] .bool λc15=>zJ (!c15) (I n (yF (i-1)) (c14,true)) (I n (yF (i-1)) a))
      (xX m cons l (λd=>d=dS (sM m cons l s0)) (n0+1) a.1 a.2)) (xX m cons l (λd=>d=dS (sM m cons l s0)) (n0+1) a.1 a.2)) (xX m cons l (λd=>d=dS (sM m cons l s0)) (n0+1) a.1 a.2))->
     ∀s ch,Be (pT m cons l) s0 was (Q6 l) s ch->∃n,I n (yF ((m.cons.length:Int)-1)) (s,ch):=by
    intro I heq s ch hd;cases cons with
    |false=>
     refine⟨1,?_⟩;rw[heq];refine zA (λ_=>bf rfl ?_) λ_=> ?_
     ·exact hX s ch hd
     ·exact hX s ch hd
    |true=>
     refine zhS ho hs.len m.cons yS (λc hc=>ou.2 (.inl ⟨rfl,c,hc,rfl⟩)) (by omega) hd (X:=λa=>xX m true l (λd=>d=dS (sM m true l s0)) (n0+1) a.1 a.2) (λs ch hd=>hX s ch hd) (λn k hk s ch h1 hf h2 h3=> ?_) (λn a hx=> ?_) λn k s ch hk hf hx=> ?_
     ·rw[heq]
      refine dt (by omega) (bt rfl (zI (wY s) (bnt hf ?_)))
      have hc:=X7 (m:=m) (con:=(k:Int)) (s:=s) (Q5 hF.chk (by omega)) (RK hF.st h1.le)
      have e:yE m (k:Int)=m.cons[k]:=by rw[yE,Aab,yI _ hk]
      rw[e]at hc
      refine zI hc (zI (Xv _ _) (zA (λf=>h2 λe=> ?_) λf=>h3 ?_))
      ·rw[e]at f;simp at f
      ·exact(By (by simpa using f):s=_).symm
     ·rw[heq];exact df (by decide) hx
     ·rw[heq];exact dt (by omega) (bt rfl (zI (wY s) (bnf hf hx)))
   refine zhS ho hs.len l (λc s=>aL s c) (λc hc=>ou.2 (.inr ⟨c,hc,rfl⟩)) (by omega) (was:=was) (pre:=[]) ⟨hw,.inr (.inl ⟨rfl,rfl,λop hm=>(by cases hm)⟩)⟩ (I:=λn i a=>rS m cons l _ (n0+1) n a.1 a.2 i)
    (X:=λa=>(∃n4,oZ m cons l (λd=>d=dS (sM m cons l s0)) (n0+1) n4 a.1 a.2 (yF ((m.cons.length:Int)-1)))/\∃n4,pM m cons l (λd=>d=dS (sM m cons l s0)) (n0+1) n4 a.1 a.2 (yF ((m.cons.length:Int)-1))) (λs ch hd=> ?_) (λn k hk s ch h1 hf h2 h3=> ?_) (λn a hx=> ?_) λn k s ch hk hf hx=> ?_
   ·have hd:Be (pT m cons l) s0 was (Q6 l) s ch:=by rw[Aa2]at hd;exact hd
    exact⟨consDown (λn i a=>oZ m cons l _ (n0+1) n a.1 a.2 i) (λn i a=>by rw[PQ]) s ch hd,consDown (λn i a=>pM m cons l _ (n0+1) n a.1 a.2 i) (λn i a=>by rw[Rk]) s ch hd⟩
   ·show rS m cons l _ (n0+1) (n+1) s ch (k:Int)
    rw[cI,zT (t:=.list .lit) hk];refine dt (by omega) (zI (wY s) (bnt hf ⟨zE hk,?_⟩))
    obtain⟨q1,q2⟩:=hJ (hF.cl _ (AS hk));refine zI (Lv q2 (h1.le.1.trans hs.len) h.right.vars q1) (zI (Xv _ _) (zA (λf=>h2 λe=> ?_) λf=>h3 ?_))
    ·have e:aL s l[k]=s:=e
     rw[e]at f;simp at f
    ·exact(By (by simpa using f):s=_).symm
   ·show rS m cons l _ (n0+1) (n+1) a.1 a.2 (-1)
    rw[cI];exact df (by decide) hx.2
   ·show rS m cons l _ (n0+1) (n+1) s ch (k:Int)
    rw[cI];exact dt (by omega) (zI (wY s) (bnf hf hx.1))
  suffices H:∀(d:Nat) (was:AcL),vI was<=d->rD (pT m cons l) s0 was->xX m cons l (λd=>d=dS (sM m cons l s0)) (d+1+1) was true from⟨_,H _ s0 (BY _) (rD.refl _ _)⟩
  intro d
  induction d with
  |zero=>exact λwas hd hw=>step 0 was hw λs _ hlt=>At hlt (by omega)
  |succ d ih=>exact λwas hd hw=>step (d+1) was hw λs h1 hlt=>ih s (by omega) h1
def zmG(m:zG)(cons:Bool)(l:AcN):List Op:=(if cons=true then m.cons.map zcC else[])++Q6 l
def Bf(ops:List Op)(s:AcL):AcL:=ops.foldl (λs op=>op s) s
def itO(ops:List Op):Nat->AcL->AcL
 |0,s=>s
 |k+1,s=>itO ops k (Bf ops s)
theorem K6{op:Op}{ops:List Op}{s:AcL}:Bf (op::ops) s=Bf ops (op s):=rfl
theorem Bg{nv:Nat}{ops:List Op}(ho:Fs nv ops){s0:AcL}(h0:s0.length=nv):∀(us:List Op) (s:AcL),(∀op∈us,op∈ops)->rD ops s0 s->rD ops s0 (Bf us s)
 |[],s,_,h=>h
 |op::us,s,hs,h=>by
  rw[K6];exact Bg ho h0 us _ (λop h=>hs op (On _ h)) (h.step ho h0 (hs op (Ks ..)))
theorem Bh{nv:Nat}{ops:List Op}(ho:Fs nv ops){s0:AcL}(h0:s0.length=nv):∀(k:Nat) (s:AcL),rD ops s0 s->rD ops s0 (itO ops k s)
 |0,s,h=>h
 |k+1,s,h=>by rw[itO];exact Bh ho h0 k _ (Bg ho h0 ops s (λop h=>h) h)
theorem FA{nv:Nat}:∀ {a b:List Op},wF (λf g=>∀s,s.length=nv->f s=g s/\(f s).length=nv) a b->∀s,s.length=nv->Bf a s=Bf b s/\(Bf a s).length=nv
 |_,_,.nil,s,h=>⟨rfl,h⟩
 |f::a,g::b,.cons h hs,s,hl=>by
  obtain⟨h1,h2⟩:=h s hl;rw[K6,K6,<-h1];exact FA hs _ h2
theorem GK{nv:Nat}{a b:List Op}(h:wF (λf g=>∀s,s.length=nv->f s=g s/\(f s).length=nv) a b):∀(k:Nat) (s:AcL),s.length=nv->itO a k s=itO b k s
 |0,s,_=>rfl
 |k+1,s,hl=>by
  obtain⟨h1,h2⟩:=FA h s hl;rw[itO,itO,<-h1];exact GK h k _ h2
theorem Bi{α β γ:Type}{R:β->γ->Prop}{f:α->β}{g:α->γ}:∀ {l:List α},(∀x∈l,R (f x) (g x))->wF R (l.map f) (l.map g)
 |[],_=> .nil
 |x::l,h=> .cons (h x (Ks ..)) (Bi λy hy=>h y (On _ hy))
theorem zhT{m:zG}{cons:Bool}{l:AcN}(h:yX m l):wF (λf g=>∀s,s.length=m.vars.length->f s=g s/\(f s).length=m.vars.length) (pT m cons l) (zmG m cons l):=by
 have hu:wF (λ(f g:Op)=>∀s,s.length=m.vars.length->f s=g s/\(f s).length=m.vars.length) (Q6 l) (Q6 l):=Bi λc hc s hs=>⟨rfl,(YC h hc).len hs⟩
 cases cons with
 |false=>exact hu
 |true=>exact wF.append (Bi λc hc s hs=>⟨zi1 (by rw[hs];exact h.cons c hc),(Td h hc).len hs⟩) hu
theorem zev{α β:Type}{R:α->β->Prop}:∀ {a:List α} {b:List β},wF R a b->∀x∈a,∃y∈b,R x y
 |_,_,.nil,x,h=>by cases h
 |u::a,v::b,.cons h hs,x,hx=>by
  rcases OF.1 hx with rfl|hx
  ·exact⟨v,Ks ..,h⟩
  ·obtain⟨y,h1,h2⟩:=zev hs x hx
   exact⟨y,On _ h1,h2⟩
theorem zgq{m:zG}{cons:Bool}{l:AcN}(h:yX m l){s r:AcL}(hs:s.length=m.vars.length)(k:Nat)(e:itO (zmG m cons l) k s=r)(hf:zZ r=false)(hst:((zmG m cons l).all λop=>decide (op r=r))=true):sM m cons l s=r:=by
 have ho:=zhT (cons:=cons) h;rw[<-GK ho k s hs]at e
 have hr:=Bh (N2 (cons:=cons) h) hs k s (rD.refl _ _);rw[e]at hr
 refine Sh h hs (hr.stop hf λop hm=> ?_)
 obtain⟨g,hg,h2⟩:=zev ho op hm;rw[(h2 r (hr.le.1.trans hs)).1];exact By (Aao.1 hst g hg)
theorem zmI{m:zG}{cons:Bool}{l:AcN}(h:yX m l){s:AcL}(hs:s.length=m.vars.length)(k:Nat)(hf:zZ (itO (zmG m cons l) k s)=true):sM m cons l s=fz s:=by
 have ho:=zhT (cons:=cons) h;rw[<-GK ho k s hs]at hf
 exact Sh h hs ((Bh (N2 (cons:=cons) h) hs k s (rD.refl _ _)).dead hf)
theorem zgr:yX uU []:=zeu (by kernel_rfl)
theorem zgs{m:zG}{vs:AcK}(h:wholeM m vs=true):∀c∈m.cons,yZ c vs=true:=λc hc=>by
 rw[wholeM,If,AaI,AaI]at h
 have h2:=AaA.1 h.2 c hc;simpa using h2
theorem zi2{m:zG}{cons:Bool}{l:AcN}{s:AcL}(h:yX m l)(hs:s.length=m.vars.length){vs:AcK}(hv:Tw vs s)(h1:cons=true->∀c∈m.cons,yZ c vs=true)(h2:∀c∈l,oo c vs=true):Tw vs (sM m cons l s):=
 (dY h hs).keeps hs hv λop hm=>by
  rcases ou.1 hm with⟨a,c,hc,rfl⟩|⟨c,hc,rfl⟩
  ·exact⟨_,Td h hc,h1 a c hc⟩
  ·exact⟨_,YC h hc,h2 c hc⟩
def WW:wG:= {own:=[11,21,28],live:=[(0,([2,9,31,32,33],[21,28]))],n:=56,nils:=[(21,(4,(53,.list .lit)))],pubs:=[]}
def XL(a:AcS)(R:yL)(b:Nat)(c:Int)(d:AcP)(e:AcQ)(f g:Int)(h:AcN):Prop:=LP WW f37 [1,1,1,1,0,1,0,0] 0 b ⟨[(2,.sl .step a),(9,.ptr 21 0),(31,.sl .step a),(32,dI (a.length:Int)),(33,dI c)],[(21,.cells [.sl .var d,.sl .con e,dI f,dI g,.own 28]),(28,.row 53 (.list .lit) h)]⟩ (zH 0 (sK WW f37 [1,1,1,1,1] 0 (eK f37 R)))
theorem IQ(a:AcS)(R:yL)(g:Nat)(b:Int)(c:AcP)(d:AcQ)(e f:Int)(h:AcN):XL a R (g+1) b c d e f h=
 (zJ (decide (b<(a.length:Int)))
 (xM b a.length=true/\
 ∃i:Bool,∃j:AcN,yQ iD [AcY,dSt (zW .step a b.toNat)] [(1000,.cells [.sl .var c,.sl .con d,dI e,dI f,.own 2000]),(2000,.row 53 (.list .lit) h)] (dB i) [(1000,.cells [.sl .var c,.sl .con d,dI e,dI f,.own 2000]),(2000,.row 53 (.list .lit) j)]/\
 zJ (!i)
 (R (.tup [dB false,dI 0]))
 (XL a R g (yF (b+1)) c d e f j))
 (zJ (decide (0<(a.length:Int)))
 (xM (yF ((a.length:Int)-1)) a.length=true/\
 R (.tup [dB (decide ((((zW .step a ((yF ((a.length:Int)-1)).toNat)).clause).length:Int)=0)),dI 0]))
 (R (.tup [dB false,dI 0])))):=by kernel_rfl
theorem Bj(a:zG)(b:AcN)(c:AcS)(R:yL):FD WW f37 [dM a,.sl (.list .lit) b,.sl .step c] R=
 (yM WA [dM a,.sl (.list .lit) b,.sl .step c] .int λd=>
 zJ (!decide (d=0))
 (R (.tup [dB false,dI d]))
 (xQ (.list .lit) b.length=true/\
 ∃n0,XL c R n0 0 a.vars a.cons a.goal a.var b)):=by kernel_rfl
theorem EI(a:zG)(b:AcN)(c:AcS):xZ WW f37 ZI [dM a,.sl (.list .lit) b,.sl .step c]:=wA func37 (by kernel_rfl) ntmps37 rfl
def dZ:wG:= {own:=[10,13],live:=[(0,([2,3,33,34,35],[])),(2,([3,47,48,49],[]))],n:=70}
def aN(a:zG)(b:AcS)(R:yL)(c:Nat)(d:Int):Prop:=LP dZ f88 [1,1,1,1,1,0,1,0,0] 2 c ⟨[(3,.iptr (WG a []) 0),(47,.sl .step b),(48,dI (b.length:Int)),(49,dI d)],[]⟩ (zH 2 (sK dZ f88 [1,1,1,1,1,1] 0 (eK f88 R)))
def XM(a:zG)(b:AcS)(R:yL)(c:Nat)(d:Int):Prop:=LP dZ f88 [1,1,1,1,0,1,0,0] 0 c ⟨[(2,.sl .step b),(3,.iptr (WG a []) 0),(33,.sl .step b),(34,dI (b.length:Int)),(35,dI d)],[]⟩ (zH 0 (sK dZ f88 [1,1,1,1,1] 0 (eK f88 R)))
theorem Si(c:zG)(a:AcS)(R:yL)(d:Nat)(b:Int):aN c a R (d+1) b=
 (zJ (decide (b<(a.length:Int)))
 (xM b a.length=true/\
 zJ (decide (((zW .step a b.toNat).kind)=1))
 (zJ (decide (((zW .step a b.toNat).con)<0))
 (R (dI 5))
 (zJ (decide ((c.cons.length:Int)<=((zW .step a b.toNat).con)))
 (R (dI 5))
 (aN c a R d (yF (b+1)))))
 (aN c a R d (yF (b+1))))
 (R (dI 0))):=by kernel_rfl
theorem Sj(c:zG)(a:AcS)(R:yL)(d:Nat)(b:Int):XM c a R (d+1) b=
 (zJ (decide (b<(a.length:Int)))
 (xM b a.length=true/\
 yM bR [dM c,.sl .lit ((zW .step a b.toNat).clause)] .int λe=>
 zJ (!decide (e=0))
 (R (dI e))
 (XM c a R d (yF (b+1))))
 (∃n2,aN c a R n2 0)):=by kernel_rfl
theorem Bk(a:zG)(b:AcN)(c:AcS)(R:yL):FD dZ f88 [dM a,.sl (.list .lit) b,.sl .step c] R=
 (yM gA [dM a] .int λd=>
 zJ (!decide (d=0))
 (R (dI d))
 (zJ (decide (600<(b.length:Int)))
 (R (dI 2))
 (zJ (decide (6000<(c.length:Int)))
 (R (dI 2))
 (yM V4 [dM a,.sl (.list .lit) b] .int λe=>
 zJ (!decide (e=0))
 (R (dI e))
 (∃n0,XM a c R n0 0))))):=by kernel_rfl
theorem EJ(a:zG)(b:AcN)(c:AcS):xZ dZ f88 WA [dM a,.sl (.list .lit) b,.sl .step c]:=wA func88 (by kernel_rfl) ntmps88 rfl
def Vp:wG:= {own:=[45],live:=[],n:=49}
theorem Ov(c:AcP)(d:AcQ)(e f:Int)(b:AcN)(a:zX)(R:oG):FH Vp f89 [AcY,dSt a] [(1000,.cells [.sl .var c,.sl .con d,dI e,dI f,.own 2000]),(2000,.row 53 (.list .lit) b)] [AcY] false R=
 (zJ (decide (a.kind=1))
 (yM ZK [.agg [.sl .var c,.sl .con d,dI e,dI f],dI a.con,.sl .lit a.clause] .bool λg=>
 (xQ (.list .lit) (b.length+([a.clause]).length)=true/\
 R (dB g) [(1000,.cells [.sl .var c,.sl .con d,dI e,dI f,.own 2000]),(2000,.row 53 (.list .lit) (b++([a.clause])))])/\
 (xQ (.list .lit) (b.length+([a.clause]).length)=true/\
 R (dB g) [(1000,.cells [.sl .var c,.sl .con d,dI e,dI f,.own 2000]),(2000,.row 53 (.list .lit) (b++([a.clause])))])/\
 (xQ (.list .lit) (b.length+([a.clause]).length)=true/\
 R (dB g) [(1000,.cells [.sl .var c,.sl .con d,dI e,dI f,.own 2000]),(2000,.row 53 (.list .lit) (b++([a.clause])))])/\
 (xQ (.list .lit) (b.length+([a.clause]).length)=true/\
 R (dB g) [(1000,.cells [.sl .var c,.sl .con d,dI e,dI f,.own 2000]),(2000,.row 53 (.list .lit) (b++([a.clause])))])/\
 xQ (.list .lit) (b.length+([a.clause]).length)=true/\
 R (dB g) [(1000,.cells [.sl .var c,.sl .con d,dI e,dI f,.own 2000]),(2000,.row 53 (.list .lit) (b++([a.clause])))])
 (zJ (decide (a.kind=2))
 (zJ (decide (a.con=0))
 (yM Xb [.agg [.sl .var c,.sl .con d,dI e,dI f],.sl (.list .lit) b,.sl .lit a.clause] .bool λh=>
 (xQ (.list .lit) (b.length+([a.clause]).length)=true/\
 R (dB h) [(1000,.cells [.sl .var c,.sl .con d,dI e,dI f,.own 2000]),(2000,.row 53 (.list .lit) (b++([a.clause])))])/\
 (xQ (.list .lit) (b.length+([a.clause]).length)=true/\
 R (dB h) [(1000,.cells [.sl .var c,.sl .con d,dI e,dI f,.own 2000]),(2000,.row 53 (.list .lit) (b++([a.clause])))])/\
 (xQ (.list .lit) (b.length+([a.clause]).length)=true/\
 R (dB h) [(1000,.cells [.sl .var c,.sl .con d,dI e,dI f,.own 2000]),(2000,.row 53 (.list .lit) (b++([a.clause])))])/\
 (xQ (.list .lit) (b.length+([a.clause]).length)=true/\
 R (dB h) [(1000,.cells [.sl .var c,.sl .con d,dI e,dI f,.own 2000]),(2000,.row 53 (.list .lit) (b++([a.clause])))])/\
 xQ (.list .lit) (b.length+([a.clause]).length)=true/\
 R (dB h) [(1000,.cells [.sl .var c,.sl .con d,dI e,dI f,.own 2000]),(2000,.row 53 (.list .lit) (b++([a.clause])))])
 ((xQ (.list .lit) (b.length+([a.clause]).length)=true/\
 R (dB false) [(1000,.cells [.sl .var c,.sl .con d,dI e,dI f,.own 2000]),(2000,.row 53 (.list .lit) (b++([a.clause])))])/\
 (xQ (.list .lit) (b.length+([a.clause]).length)=true/\
 R (dB false) [(1000,.cells [.sl .var c,.sl .con d,dI e,dI f,.own 2000]),(2000,.row 53 (.list .lit) (b++([a.clause])))])/\
 (xQ (.list .lit) (b.length+([a.clause]).length)=true/\
 R (dB false) [(1000,.cells [.sl .var c,.sl .con d,dI e,dI f,.own 2000]),(2000,.row 53 (.list .lit) (b++([a.clause])))])/\
 (xQ (.list .lit) (b.length+([a.clause]).length)=true/\
 R (dB false) [(1000,.cells [.sl .var c,.sl .con d,dI e,dI f,.own 2000]),(2000,.row 53 (.list .lit) (b++([a.clause])))])/\
 xQ (.list .lit) (b.length+([a.clause]).length)=true/\
 R (dB false) [(1000,.cells [.sl .var c,.sl .con d,dI e,dI f,.own 2000]),(2000,.row 53 (.list .lit) (b++([a.clause])))]))
 ((xQ (.list .lit) (b.length+([a.clause]).length)=true/\
 R (dB false) [(1000,.cells [.sl .var c,.sl .con d,dI e,dI f,.own 2000]),(2000,.row 53 (.list .lit) (b++([a.clause])))])/\
 (xQ (.list .lit) (b.length+([a.clause]).length)=true/\
 R (dB false) [(1000,.cells [.sl .var c,.sl .con d,dI e,dI f,.own 2000]),(2000,.row 53 (.list .lit) (b++([a.clause])))])/\
 (xQ (.list .lit) (b.length+([a.clause]).length)=true/\
 R (dB false) [(1000,.cells [.sl .var c,.sl .con d,dI e,dI f,.own 2000]),(2000,.row 53 (.list .lit) (b++([a.clause])))])/\
 (xQ (.list .lit) (b.length+([a.clause]).length)=true/\
 R (dB false) [(1000,.cells [.sl .var c,.sl .con d,dI e,dI f,.own 2000]),(2000,.row 53 (.list .lit) (b++([a.clause])))])/\
 xQ (.list .lit) (b.length+([a.clause]).length)=true/\
 R (dB false) [(1000,.cells [.sl .var c,.sl .con d,dI e,dI f,.own 2000]),(2000,.row 53 (.list .lit) (b++([a.clause])))]))):=by kernel_rfl
theorem Q7(a:AcP)(b:AcQ)(c d:Int)(e:AcN)(f:zX):nW Vp f89 iD [AcY,dSt f] [(1000,.cells [.sl .var a,.sl .con b,dI c,dI d,.own 2000]),(2000,.row 53 (.list .lit) e)] [AcY] false:=mJ func89 (by kernel_rfl) ntmps89 rfl
def L0:wG:= {own:=[],live:=[],n:=20}
theorem Bl(a:zG)(b:Int)(c:AcM)(R:yL):FD L0 f127 [dM a,dI b,.sl .lit c] R=
 (yM iC [dM a] (.list (.list .int)) λd=>
 yM gY [dS d,.sl .lit c] (.list (.list .int)) λe=>
 xM b a.cons.length=true/\
 yM iE [dC (zW .con a.cons b.toNat),dS e] (.list (.list .int)) λf=>
 yM xF [dS f] .bool λg=>
 R (dB g)):=by kernel_rfl
theorem EK(a:zG)(b:Int)(c:AcM):xZ L0 f127 ZK [dM a,dI b,.sl .lit c]:=wA func127 (by kernel_rfl) ntmps127 rfl
def N3:wG:= {own:=[],live:=[],n:=17}
theorem EL(a:zG)(b:AcN)(c:AcM)(R:yL):FD N3 Tryz.f129 [dM a,.sl (.list .lit) b,.sl .lit c] R=
 (yM iC [dM a] (.list (.list .int)) λd=>
 yM gY [dS d,.sl .lit c] (.list (.list .int)) λe=>
 yM dP [dM a,dS e,dB false,.sl (.list .lit) b] (.list (.list .int)) λf=>
 yM xF [dS f] .bool λg=>
 R (dB g)):=by kernel_rfl
theorem GL(a:zG)(b:AcN)(c:AcM):xZ N3 Tryz.f129 Xb [dM a,.sl (.list .lit) b,.sl .lit c]:=wA func129 (by kernel_rfl) ntmps129 rfl
noncomputable def jO (m:zG)(con:Int)(c:AcM):Bool:=zZ (yS (yE m con) (kQ (vC m) c))
noncomputable def Tf (m:zG)(l:AcN)(c:AcM):Bool:=zZ (sM m false l (kQ (vC m) c))
noncomputable def dG (m:zG)(all:AcN)(st:zX):Bool:=if st.kind=1 then jO m st.con st.clause else if st.kind=2 then decide (st.con=0)&&Tf m all st.clause else false
noncomputable def qF (m:zG):AcN->AcS->Bool
 |_,[]=>true
 |all,st::l=>dG m all st&&qF m (all++[st.clause]) l
def fj(l:AcS):Bool:=decide (0<l.length)&&decide (((l.getD (l.length-1) ⟨0,0,[]⟩).clause).length=0)
noncomputable def jR (m:zG)(given:AcN)(l:AcS):Bool:=qF m given l&&fj l
theorem wE{m:zG}:(vC m).length=m.vars.length:=Aag ..
theorem Z6{m:zG}{v:Nat}(hv:v<m.vars.length):(vC m).getD v []=Vi m.vars[v]:=by
 rw[yI _ (by rw[wE];exact hv)];simp[vC]
theorem Wq{v:zQ}{n:Int}:n∈Vi v↔v.lo<=n/\n<=v.hi:=by rw[Vi,Q0];omega
theorem Vq{m:zG}:fY m (vC m)=0:=by
 refine Sa.2 ⟨wE,λv n hn=> ?_,λl hl=> ?_⟩
 ·by_cases hv:v<m.vars.length
  ·rw[Z6 hv,Wq]at hn
   rw[yI _ hv];exact hn
  ·rw[qJ (by rw[wE];omega)]at hn;cases hn
 ·obtain⟨v,hv,rfl⟩:=Of.1 hl
  exact KR
theorem Ul{s:AcL}{c:AcM}:ZD (kQ s c) s:=Ta
theorem N4{m:zG}{c:AcM}:fY m (kQ (vC m) c)=0:=RK Vq Ul
theorem GM{m:zG}(h:Right m){c:AcM}:dF (kQ (vC m) c) m.vars.length:=XI h N4
theorem Dh{m:zG}(hr:Right m):tJ iC [dM m] (dS (vC m)):=AB hr.lohi hr.vars
theorem N5{m:zG}{con:Int}{c:AcM}(h:Fr m con=0):tJ ZK [dM m,dI con,.sl .lit c] (dB (jO m con c)):=
 EK m con c λok=>by
  obtain⟨hr,hc⟩:=lH h;have hg:=GM hr (c:=c);have hl:=hg.len;rw[Bl];refine zI (Dh hr) (zI (Sd _ _) ⟨uW.2 hc,zI (Z5 (c:=yE m con) (by rw[hl];exact mD h) (by rw[hl];exact hg)) (zI (vU _) rfl)⟩)
theorem EM{m:zG}{l:AcN}{c:AcM}(h:yX m l)(hl:l.length<=1000000000):tJ Xb [dM m,.sl (.list .lit) l,.sl .lit c] (dB (Tf m l c)):=
 GL m l c λok=>by
  rw[EL];exact zI (Dh h.right) (zI (Sd _ _) (zI (Te h (GM h.right) hl) (zI (vU _) rfl)))
theorem RM{a b:Int}(h:or0 a b=0):a=0/\b=0:=by
 by_cases e:a=0
 ·rw[UO e]at h;exact⟨e,h⟩
 ·rw[Qd e]at h;exact At h e
theorem N6{m:zG}{con:Int}{c:AcM}(h:Fr m con=0)(hc:yK m.vars.length c=0):tJ gM [dM m,dI con,.sl .lit c] (dB (jO m con c)):=
 P7 m con c λok=>by
  obtain⟨hr,_⟩:=lH h;obtain⟨q1,q2⟩:=hJ hc;rw[Nl];exact zI (Vj hr.lohi hr.vars) (zI (VQ q2 wE hr.vars q1) (zI (X7 h N4) (zI (wY _) rfl)))
theorem zgt{m:zG}{l:AcN}{c:AcM}(h:xE m=0)(hl:l.length<=1000000)(hc:∀c∈l,yK m.vars.length c=0):zm9 m (kQ (vC m) c) l:=⟨h,N4,hl,hc,kR h hc,GM (pR h)⟩
theorem Ow{m:zG}{l:AcN}{c:AcM}(h:xE m=0)(hl:l.length<=1000000)(hc:∀c∈l,yK m.vars.length c=0)(hcc:yK m.vars.length c=0):tJ nU [dM m,.sl (.list .lit) l,.sl .lit c] (dB (Tf m l c)):=
 QP m l c λok=>by
  have hr:=pR h;obtain⟨q1,q2⟩:=hJ hcc;rw[P8];exact zI (Vj hr.lohi hr.vars) (zI (VQ q2 wE hr.vars q1) (zI (K5 false (zgt h hl hc)) (zI (wY _) rfl)))
structure ML (m:zG)(given:AcN)(l:AcS):Prop where
 chk:xE m=0
 glen:given.length<=600
 slen:l.length<=6000
 gcl:∀c∈given,yK m.vars.length c=0
 scl:∀s∈l,yK m.vars.length s.clause=0
 con:∀s∈l,s.kind=1->0<=s.con/\s.con<(m.cons.length:Int)
def kS(m:zG)(s:zX):Int:=if s.kind=1/\(s.con<0\/(m.cons.length:Int)<=s.con)then 5 else 0
def oL(m:zG)(given:AcN)(l:AcS):Int:=
 if 600<given.length\/6000<l.length then 2 else or0 (XK m.vars.length given) (or0 (wB (λ_ s=>yK m.vars.length s.clause) 0 l) (wB (λ_ s=>kS m s) 0 l))
def zi3(m:zG)(given:AcN)(l:AcS):Int:=or0 (xE m) (oL m given l)
theorem Q8{m:zG}{given:AcN}{l:AcS}(h:xE m=0)(h2:oL m given l=0):ML m given l:=by
 unfold oL at h2
 split at h2
 ·exact At h2 (by decide)
 rename_i h3;obtain⟨h4,h5⟩:=RM h2;obtain⟨h6,h7⟩:=RM h5;obtain⟨h8,h9⟩:=zcF h4;refine⟨h,h8,by omega,h9,λs hs=> ?_,λs hs hk=> ?_⟩
 ·obtain⟨i,hi,rfl⟩:=Aal hs
  exact Yz h6 hi
 ·obtain⟨i,hi,rfl⟩:=Aal hs
  have:=Yz h7 hi;simp only[kS,hk,true_and]at this
  split at this
  ·exact At this (by decide)
  ·omega
theorem zi4{m:zG}{given:AcN}{l:AcS}(h:zi3 m given l=0):ML m given l:=let⟨a,b⟩:=RM h;Q8 a b
theorem Bm(m:zG)(given:AcN)(l:AcS):tJ WA [dM m,.sl (.list .lit) given,.sl .step l] (dI (zi3 m given l)):=
 EJ m given l λok=>by
  rw[Bk];refine zI (Xu m) (zA (λe=> ?_) λe=> ?_)
  ·exact uM (Qd (oO e))
  rw[zi3,UO (qS e)];refine zA (λf=> ?_) λf=>zA (λg=> ?_) λg=> ?_
  ·exact uM (As (.inl (by simp at f;omega)))
  ·exact uM (As (.inr (by simp at g;omega)))
  have f:¬600<given.length:=by simp at f;omega
  have g:¬6000<l.length:=by simp at g;omega
  rw[oL,An (by omega)]
  refine zI (AU m given) (zA (λe=> ?_) λe=> ?_)
  ·exact uM (Qd (oO e))
  rw[UO (qS e)];refine zml (I:=λn v=>XM m l _ n v) l (λ_ s=>yK m.vars.length s.clause) (by omega) (X:=λx=>D.int .i64 x=dI (or0 (wB (λ_ s=>yK m.vars.length s.clause) 0 l) (wB (λ_ s=>kS m s) 0 l))) (λe=>by rw[Qd e]) (λn k h _ hX hn=> ?_) λh0 n=> ?_
  ·rw[Sj,zY h,zT (t:=.step) h]
   exact⟨zE h,zI (Pz m _) (zA (λe=>hX (oO e)) λe=>hn (qS e))⟩
  ·rw[Sj,zS,UO h0]
   refine Ac (I:=λn v=>aN m l _ n v) l (λ_ s=>kS m s) (by omega) (X:=λx=>D.int .i64 x=dI (wB (λ_ s=>kS m s) 0 l)) (Y:=D.int .i64 0=dI (wB (λ_ s=>kS m s) 0 l)) (λ_=>rfl) (λe=>uM e) (λn k h _ hX hn=> ?_) λn hY=> ?_
   ·rw[Si,zY h,zT (t:=.step) h]
    refine⟨zE h,zA (λe=>zA (λf=> ?_) λf=>zA (λg=> ?_) λg=> ?_) λe=> ?_⟩
    ·rw[kS,As ⟨By e,.inl (By f)⟩]at hX;exact hX (by decide)
    ·rw[kS,As ⟨By e,.inr (By g)⟩]at hX;exact hX (by decide)
    ·exact hn (An λx=>by have:=Aaa f;have:=Aaa g;omega)
    ·exact hn (An λx=>Aaa e x.1)
   ·rw[Si,zS];exact hY
theorem zew{m:zG}{all:AcN}(h:xE m=0)(hc:∀c∈all,yK m.vars.length c=0):yX m all:=kR h hc
abbrev hpC(m:zG)(all:AcN):List (Nat×yN):=[(1000,.cells [.sl .var m.vars,.sl .con m.cons,.int .i64 m.goal,.int .i64 m.var,.own 2000]),(2000,.row 53 (.list .lit) all)]
theorem Ox{m:zG}{all:AcN}{st:zX}(h:xE m=0)(hc:∀c∈all,yK m.vars.length c=0)(hl:all.length<=10000)(hcon:st.kind=1->0<=st.con/\st.con<(m.cons.length:Int)):
  yQ iD [AcY,.agg [.int .i64 st.kind,.int .i64 st.con,.sl .lit st.clause]] (hpC m all) (.bool (dG m all st)) (hpC m (all++[st.clause])):=
 Q7 m.vars m.cons m.goal m.var all st λ_ _=>by
  have hr:xQ (.list .lit) (all.length+([st.clause]).length)=true:=yW (t:=.list .lit) (by show(_+1)*24<=_;omega)
  rw[Ov];refine zA (λe=> ?_) λe=>zA (λf=>zA (λg=> ?_) λg=> ?_) λf=> ?_
  ·have e:=By e
   refine zI (N5 (Q5 h (hcon e))) ?_;have hs:dG m all st=jO m st.con st.clause:=As e;rw[hs]
   repeat'(first|exact hr|exact rfl|apply And.intro)
  ·have e:=Aaa e
   have f:=By f;refine zI (EM (zew h hc) (by omega)) ?_
   have hs:dG m all st=Tf m all st.clause:=by rw[dG,An e,As f,g,AaV]
   rw[hs]
   repeat'(first|exact hr|exact rfl|apply And.intro)
  ·have e:=Aaa e
   have f:=By f;have hs:dG m all st=false:=by rw[dG,An e,As f,g,AaY]
   rw[hs]
   repeat'(first|exact hr|exact rfl|apply And.intro)
  ·have hs:dG m all st=false:=by rw[dG,An (Aaa e),An (Aaa f)]
   rw[hs]
   repeat'(first|exact hr|exact rfl|apply And.intro)
theorem zhU{l:AcS}(h:0<l.length):zW .step l ((yF ((l.length:Int)-1)).toNat)=l.getD (l.length-1) ⟨0,0,[]⟩/\xM (yF ((l.length:Int)-1)) l.length=true\/9223372036854775807<l.length:=by
 by_cases hb:l.length<=9223372036854775807
 ·rw[wL (by omega) (by omega),show((l.length:Int)-1).toNat=l.length-1 by omega]
  exact .inl ⟨rfl,uW.2 (by omega)⟩
 ·exact .inr (by omega)
theorem N7(m:zG)(given:AcN)(l:AcS):tJ ZI [dM m,.sl (.list .lit) given,.sl .step l] (.tup [dB (orB (zi3 m given l) (jR m given l)),dI (zi3 m given l)]):=
 EI m given l λok=>by
  rw[Bj];refine zI (Bm m given l) (zA (λe=> ?_) λe=> ?_)
  ·rw[zoA (oO e)]
  have e:=qS e;have hk:=zi4 e;have hg:=hk.glen;have hsl:=hk.slen;rw[znz e,e];refine⟨yW (t:=.list .lit) (by show _*24<=_;omega),?_⟩
  refine up (I:=λn v a=>XL l _ n v m.vars m.cons m.goal m.var a) 0 l.length rfl (AT _) (by omega) (λk a=>a.length=given.length+k/\(∀c∈a,yK m.vars.length c=0)/\qF m given l=qF m a (l.drop k)) ⟨rfl,hk.gcl,rfl⟩ λn k a _ hk2 ha hn=> ?_
  obtain⟨h1,h2,h3⟩:=ha;rw[IQ]
  by_cases h:k<l.length
  ·rw[zY h,zT (t:=.step) h]
   have hm:=AS h;refine⟨zE h,_,_,Ox hk.chk h2 (by omega) (hk.con _ hm),?_⟩
   rw[AaF h,qF]at h3
   refine zA (λf=> ?_) λf=>hn h _ ⟨?_,λc hc=> ?_,?_⟩
   ·have f:dG m a l[k]=false:=by simpa using f
    rw[f,AaY]at h3
    rw[jR,h3];rfl
   ·rw[It,h1];rfl
   ·rcases TO.1 hc with hc|hc
    ·exact h2 c hc
    ·rw[IN.1 hc];exact hk.scl _ hm
   ·have f:dG m a l[k]=true:=by simpa using f
    rw[f,AaV]at h3
    exact h3
  ·have hk':k=l.length:=by omega
   subst hk';rw[Ab1]at h3
   have h3:qF m given l=true:=h3;rw[zS,jR,h3,AaV,fj];refine zA (λf=> ?_) λf=> ?_
   ·have f:0<l.length:=by simpa using f
    obtain⟨q1,q2⟩:=(zhU f).resolve_right (by omega)
    refine⟨q2,?_⟩;rw[q1,Or f,AaV]
    congr 3
    exact decide_eq_decide.2 ⟨λe=>by omega,λe=>by omega⟩
   ·have f:¬0<l.length:=by simpa using f
    rw[Aah f];rfl
theorem YV{m:zG}(h:xE m=0)(given:AcN)(l:AcS):tJ sD [dM m,.sl (.list .lit) given,.sl .step l] (dI (oL m given l)):=
 Sz m given l λok=>by
  have hr:=pR h;have hcl:=hr.cons;rw[Rr];refine zA (λf=> ?_) λf=>zA (λg=> ?_) λg=> ?_
  ·exact uM (As (.inl (by simp at f;omega)))
  ·exact uM (As (.inr (by simp at g;omega)))
  have f:¬600<given.length:=by simp at f;omega
  have g:¬6000<l.length:=by simp at g;omega
  rw[oL,An (by omega)]
  refine zI (TN h given) (zA (λe=> ?_) λe=> ?_)
  ·exact uM (Qd (oO e))
  rw[UO (qS e)];refine zml (I:=λn v=>mO m l _ n v) l (λ_ s=>yK m.vars.length s.clause) (by omega) (X:=λx=>D.int .i64 x=dI (or0 (wB (λ_ s=>yK m.vars.length s.clause) 0 l) (wB (λ_ s=>kS m s) 0 l))) (λe=>by rw[Qd e]) (λn k hk _ hX hn=> ?_) λh0 n=> ?_
  ·rw[aE,zY hk,zT (t:=.step) hk]
   exact⟨zE hk,zI (Z2 h _) (zA (λe=>hX (oO e)) λe=>hn (qS e))⟩
  ·rw[aE,zS,UO h0]
   refine Ac (I:=λn v=>pP m l _ n v) l (λ_ s=>kS m s) (by omega) (X:=λx=>D.int .i64 x=dI (wB (λ_ s=>kS m s) 0 l)) (Y:=D.int .i64 0=dI (wB (λ_ s=>kS m s) 0 l)) (λ_=>rfl) (λe=>uM e) (λn k hk _ hX hn=> ?_) λn hY=> ?_
   ·rw[aD,zY hk,zT (t:=.step) hk]
    refine⟨zE hk,zA (λe=>⟨zE hk,zI (wO _ _ _) (zA (λf=> ?_) λf=> ?_)⟩) λe=> ?_⟩
    ·have e:=By e
     have f:jP l[k].con 0 (yF ((m.cons.length:Int)-1))=false:=by simpa using f
     rw[wL (by omega) (by omega),qR]at f
     rw[kS,As ⟨e,by omega⟩]at hX;exact hX (by decide)
    ·have f:jP l[k].con 0 (yF ((m.cons.length:Int)-1))=true:=by simpa using f
     rw[wL (by omega) (by omega),ZH]at f
     exact hn (An λx=>by omega)
    ·exact hn (An λx=>Aaa e x.1)
   ·rw[aD,zS];exact hY
theorem RN{m:zG}{given:AcN}{l:AcS}(hk:ML m given l):tJ lM [dM m,.sl (.list .lit) given,.sl .step l] (dB (qF m given l)):=
 SH m given l λok=>by
  have hg:=hk.glen;have hsl:=hk.slen;rw[Ru];refine⟨yW (t:=.list .lit) (by show(0+_)*24<=_;omega),?_⟩
  rw[Aby];refine up (I:=λn v a=>tR m l _ n v a) 0 l.length rfl (AT _) (by omega) (λk a=>a.length=given.length+k/\(∀c∈a,yK m.vars.length c=0)/\qF m given l=qF m a (l.drop k)) ⟨rfl,hk.gcl,rfl⟩ λn k a _ hk2 ha hn=> ?_
  obtain⟨h1,h2,h3⟩:=ha;rw[UW]
  by_cases h:k<l.length
  ·rw[zY h,zT (t:=.step) h]
   have hm:=AS h;have hcl:=hk.scl _ hm;have hcon:=hk.con _ hm;rw[AaF h,qF]at h3
   have hroom:xQ (.list .lit) (a.length+([l[k].clause]).length)=true:=yW (t:=.list .lit) (by show(_+1)*24<=_;omega)
   have hno:dG m a l[k]=false->D.bool false=dB (qF m given l):=λf=>by rw[h3,f];rfl
   have hyes:dG m a l[k]=true->xQ (.list .lit) (a.length+([l[k].clause]).length)=true/\tR m l (λd=>d=dB (qF m given l)) n (yF ((k:Int)+1)) (a++[l[k].clause]):=λf=>by
    rw[f,AaV]at h3
    refine⟨hroom,hn h _ ⟨?_,λc hc=> ?_,h3⟩⟩
    ·rw[It,h1];rfl
    ·rcases TO.1 hc with hc|hc
     ·exact h2 c hc
     ·rw[IN.1 hc];exact hcl
   generalize l[k]=st at*
   refine⟨zE h,zA (λe=> ?_) λe=> ?_⟩
   ·have e:=By e
    have hs:dG m a st=jO m st.con st.clause:=As e;refine zI (N6 (Q5 hk.chk (hcon e)) hcl) (zA (λf=>hyes (by rw[hs];exact f)) λf=>df (by omega) (hno (by rw[hs];exact f)))
   ·have e:=Aaa e
    refine zA (λf=>zA (λg=> ?_) λg=> ?_) λf=> ?_
    ·have hs:dG m a st=Tf m a st.clause:=by rw[dG,An e,As (By f),g,AaV]
     exact zI (Ow hk.chk (by omega) h2 hcl) (zA (λx=>hno (by rw[hs];simpa using x)) λx=>hyes (by rw[hs];simpa using x))
    ·exact hno (by rw[dG,An e,As (By f),g,AaY])
    ·exact hno (by rw[dG,An e,An (Aaa f)])
  ·have hk':k=l.length:=by omega
   subst hk';rw[Ab1]at h3
   rw[zS,h3];rfl
theorem Vr{m:zG}{given:AcN}{l:AcS}(hk:ML m given l):tJ uD [dM m,.sl (.list .lit) given,.sl .step l] (dB (jR m given l)):=
 PV m given l λok=>by
  have hsl:=hk.slen;rw[Ng];refine zA (λf=> ?_) λf=> ?_
  ·have f:0<l.length:=by simpa using f
   obtain⟨q1,q2⟩:=(zhU f).resolve_right (by omega)
   refine⟨q2,?_⟩;rw[q1];refine zA (λg=>zI (RN hk) ?_) λg=> ?_
   ·have g:((l.getD (l.length-1) ⟨0,0,[]⟩).clause).length=0:=by simpa using g
    rw[jR,fj,Or f,Or g,AaV,AbK]
   ·have g:¬((l.getD (l.length-1) ⟨0,0,[]⟩).clause).length=0:=by simpa using g
    rw[jR,fj,Aah g,Abi,Abi]
  ·have f:¬0<l.length:=by simpa using f
   rw[jR,fj,Aah f,AaY,Abi]
theorem zgu{m:zG}{vs:AcK}(hl:vs.length=m.vars.length)(h:wholeM m vs=true):Tw vs (vC m):=by
 refine⟨by rw[wE,hl],λv hv=> ?_⟩
 rw[wE]at hv
 rw[Z6 hv,Wq,yI _ (show v<vs.length by omega)]
 rw[wholeM,If,AaI]at h
 have hz:v<(m.vars.zip vs).length:=by rw[AaC];omega
 have h2:=AaA.1 h.1 _ (AS hz);rw[AaM,Abb,Bool.not_eq_false']at h2
 exact ZH.1 h2
theorem zhV{s:AcL}{c:AcM}{vs:AcK}(hv:Tw vs s)(hc:∀l∈c,0<=l.var)(h:oo c vs=false):Tw vs (kQ s c):=by
 refine⟨hv.1.trans Ul.1.symm,λv hl=> ?_⟩
 rw[kQ,uL]at hl
 rw[kQ,sI,Aan];refine⟨hv.2 v hl,?_⟩;rw[AaI];cases e:atC c v (vs.getD v 0)
 ·rfl
 ·obtain⟨l,h1,h2,h3⟩:=RH.1 e
  have:oo c vs=true:=gD.2 ⟨l,h1,by rw[h2,Aab];exact h3⟩
  rw[h]at this;cases this
theorem zex{m:zG}{con:Int}{c:AcM}(h:Fr m con=0)(hc:yK m.vars.length c=0){vs:AcK}(hv:Tw vs (vC m))(ht:yZ (yE m con) vs=true)(hb:jO m con c=true):oo c vs=true:=by
 cases e:oo c vs with
 |true=>rfl
 |false=>
  obtain⟨hr,_⟩:=lH h;have hd:=zhV hv (λl hl=>(qE.1 ((hJ hc).2 l hl)).1.1) e
  have hop:=Uv (mD h) (by have:=hr.some;omega)
  have:=(hop.keeps (Ul.1.trans wE) hd ht).fail;rw[jO,this]at hb;cases hb
theorem zcG{m:zG}{l:AcN}{c:AcM}(h:yX m l)(hc:yK m.vars.length c=0){vs:AcK}(hv:Tw vs (vC m))(ht:∀c∈l,oo c vs=true)(hb:Tf m l c=true):oo c vs=true:=by
 cases e:oo c vs with
 |true=>rfl
 |false=>
  have hd:=zhV hv (λl hl=>(qE.1 ((hJ hc).2 l hl)).1.1) e
  have:=(zi2 (cons:=false) h (Ul.1.trans wE) hd (λe=>by cases e) ht).fail
  rw[Tf,this]at hb;cases hb
theorem IR{m:zG}{vs:AcK}(hm:xE m=0)(hv:Tw vs (vC m))(hw:∀c∈m.cons,yZ c vs=true):∀(l:AcS) (all:AcN),(∀c∈all,yK m.vars.length c=0)->(∀s∈l,yK m.vars.length s.clause=0)->(∀s∈l,s.kind=1->0<=s.con/\s.con<(m.cons.length:Int))->(∀c∈all,oo c vs=true)->qF m all l=true->∀s∈l,oo s.clause vs=true
 |[],_,_,_,_,_,_,s,hs=>by cases hs
 |st::l,all,h1,h2,h3,h4,h5,s,hs=>by
  rw[qF,If]at h5
  obtain⟨h5,h6⟩:=h5;have hc:=h2 st (Ks ..)
  have hst:oo st.clause vs=true:=by
   rw[dG]at h5
   split at h5
   ·rename_i hk
    have hcon:=h3 st (Ks ..) hk;refine zex (Q5 hm hcon) hc hv (hw _ ?_) h5;rw[yE,yI _ (show st.con.toNat<m.cons.length by omega)]
    exact AS _
   ·split at h5
    ·rw[If]at h5
     exact zcG (kR hm h1) hc hv h4 h5.2
    ·cases h5
  rcases OF.1 hs with rfl|hs
  ·exact hst
  ·refine IR hm hv hw l _ (λc hc2=> ?_) (λs hs=>h2 s (On _ hs)) (λs hs=>h3 s (On _ hs)) (λc hc2=> ?_) h6 s hs
   ·rcases TO.1 hc2 with hc2|hc2
    ·exact h1 c hc2
    ·rw[IN.1 hc2];exact hc
   ·rcases TO.1 hc2 with hc2|hc2
    ·exact h4 c hc2
    ·rw[IN.1 hc2];exact hst
theorem zey{m:zG}{given:AcN}{l:AcS}{vs:AcK}(hk:ML m given l)(hl:vs.length=m.vars.length)(hw:wholeM m vs=true)(hg:∀c∈given,oo c vs=true):jR m given l=false:=by
 cases e:jR m given l with
 |false=>rfl
 |true=>
  rw[jR,fj,If,If,Aaq,Aaq]at e
  obtain⟨h1,h2,h3⟩:=e;have hi:l.length-1<l.length:=by omega
  have:=IR hk.chk (zgu hl hw) (zgs hw) l given hk.gcl hk.scl hk.con hg h1 _ (AS hi);rw[yI _ hi]at h3
  rw[AaS.1 h3]at this
  cases this
def PC:wG:= {own:=[],live:=[],n:=28}
theorem GN(a:zG)(b:Int)(c:AcL)(R:yL):FD PC Tryz.f294 [dM a,dI b,dS c] R=
 (yM xF [dS c] .bool λd=>
 zJ d
 (R (.tup [.sl .lit ([]:AcM),dB false]))
 (xM b a.cons.length=true/\
 yM iE [dC (zW .con a.cons b.toNat),dS c] (.list (.list .int)) λe=>
 yM xF [dS e] .bool λf=>
 zJ (!f)
 (R (.tup [.sl .lit ([]:AcM),dB false]))
 (yM bT [dM a,dI b,dS c] (.list .lit) λg=>
 yM fa [dM a,dI b,.sl .lit ([]:AcM),.sl .lit g] (.list .lit) λh=>
 R (.tup [.sl .lit h,dB true])))):=by kernel_rfl
theorem IU(a:zG)(b:Int)(c:AcL):xZ PC Tryz.f294 Yg [dM a,dI b,dS c]:=wA func294 (by kernel_rfl) ntmps294 rfl
def N8:wG:= {own:=[],live:=[],n:=48}
theorem EN(c:zG)(d:Int)(a:AcL)(b e:Int)(R:yL):FD N8 Tryz.f295 [dM c,dI d,dS a,dI b,dI e] R=
 (yM xF [dS a] .bool λg=>
 zJ g
 (R (.tup [.sl .lit ([]:AcM),dB false]))
 (xM b a.length=true/\
 yM vJ [.sl .int (zW (.list .int) a b.toNat),dI e] .bool λh=>
 zJ (!h)
 (R (.tup [.sl .lit ([]:AcM),dB false]))
 (xM d c.cons.length=true/\
 yM iE [dC (zW .con c.cons d.toNat),dS a] (.list (.list .int)) λf=>
 xM b f.length=true/\
 yM vJ [.sl .int (zW (.list .int) f b.toNat),dI e] .bool λi=>
 zJ i
 (R (.tup [.sl .lit ([]:AcM),dB false]))
 (yM bT [dM c,dI d,dS a] (.list .lit) λj=>
 yM fa [dM c,dI d,.sl .lit ([(⟨b,4,e⟩:zC)]),.sl .lit j] (.list .lit) λk=>
 R (.tup [.sl .lit k,dB true]))))):=by kernel_rfl
theorem GO(a:zG)(b:Int)(c:AcL)(d e:Int):xZ N8 Tryz.f295 Xj [dM a,dI b,dS c,dI d,dI e]:=wA func295 (by kernel_rfl) ntmps295 rfl
def Zi:wG:= {own:=[],live:=[(0,([1,2,3,4,9],[]))],n:=38}
def hU(a:zG)(b:Int)(c:AcM)(R:yL)(d:Nat)(e:AcM)(f:Int):Prop:=LP Zi f311 [1,0,1,0,0] 0 d ⟨[(1,dI b),(2,.sl .lit c),(3,.sl .lit e),(4,.iptr (WG a []) 0),(9,dI f)],[]⟩ (zH 0 (sK Zi f311 [1,1] 0 (eK f311 R)))
theorem Vt(d:zG)(e:Int)(c:AcM)(R:yL)(f:Nat)(a:AcM)(b:Int):hU d e c R (f+1) a b=
 (zJ (decide (b<(a.length:Int)))
 (Js 0 b a.length=true/\
 Js (yF (b+1)) (a.length:Int) a.length=true/\
 yM vL [.sl (.list .lit) ([(a.take b.toNat).drop 0,(a.take (a.length:Int).toNat).drop (yF (b+1)).toNat])] (.list .lit) λg=>
 yM vL [.sl (.list .lit) ([c,g])] (.list .lit) λh=>
 yM ZK [dM d,dI e,.sl .lit h] .bool λi=>
 zJ i
 (hU d e c R f g b)
 (hU d e c R f a (yF (b+1))))
 (yM vL [.sl (.list .lit) ([c,a])] (.list .lit) λj=>
 R (.sl .lit j))):=by kernel_rfl
theorem IV(a:zG)(b:Int)(c d:AcM)(R:yL):FD Zi f311 [dM a,dI b,.sl .lit c,.sl .lit d] R=
 (∃n0,hU a b c R n0 d 0):=by kernel_rfl
theorem K7(a:zG)(b:Int)(c d:AcM):xZ Zi f311 fa [dM a,dI b,.sl .lit c,.sl .lit d]:=wA func311 (by kernel_rfl) ntmps311 rfl
def mF:wG:= {own:=[7,50],live:=[(0,([2,3,7,16,17,18],[7])),(2,([2,3,7,9,10,16,17,18],[7]))],n:=53}
def dH(a:zG)(d:AcL)(R:yL)(b:AcK)(e:Nat)(c:Int)(f:Nat)(g:Int)(h:AcM):Prop:=LP mF f312 [1,1,0,1,0,0,1,1,0,0,1,1,0,0] 2 f ⟨[(2,dS d),(3,.iptr (WG a []) 0),(7,.own 7),(9,dI (zW .int b c.toNat)),(10,dI g),(16,.sl .int b),(17,dI (b.length:Int)),(18,dI c)],[(7,.row 114 .lit h)]⟩ (zH 2 (zH 1 (sK mF f312 [1,1,0,1,0,0,1,1,1] 0 (iK mF f312 [1,1,0,1,0,0] 0 e (zH 0 (sK mF f312 [1,1,1] 0 (eK f312 R)))))))
def Ym(a:zG)(c:AcL)(R:yL)(b:AcK)(d:Nat)(e:Int)(f:AcM):Prop:=LP mF f312 [1,1,0,1,0,0] 0 d ⟨[(2,dS c),(3,.iptr (WG a []) 0),(7,.own 7),(16,.sl .int b),(17,dI (b.length:Int)),(18,dI e)],[(7,.row 114 .lit f)]⟩ (zH 0 (sK mF f312 [1,1,1] 0 (eK f312 R)))
theorem K8(d:zG)(e:AcL)(R:yL)(a:AcK)(g:Nat)(b:Int)(h:Nat)(c:Int)(f:AcM):dH d e R a g b (h+1) c f=
 (xM (zW .int a b.toNat) d.vars.length=true/\
 zJ (decide (c<=((zW .var d.vars ((zW .int a b.toNat).toNat)).hi)))
 (xM (zW .int a b.toNat) e.length=true/\
 yM vJ [.sl .int (zW (.list .int) e ((zW .int a b.toNat).toNat)),dI c] .bool λi=>
 zJ (!i)
 (xQ .lit (f.length+([(⟨zW .int a b.toNat,3,c⟩:zC)]).length)=true/\
 dH d e R a g b h (yF (c+1)) (f++([(⟨zW .int a b.toNat,3,c⟩:zC)])))
 (dH d e R a g b h (yF (c+1)) f))
 (Ym d e R a g (yF (b+1)) f)):=by kernel_rfl
theorem K9(c:zG)(e:AcL)(R:yL)(a:AcK)(f:Nat)(b:Int)(d:AcM):Ym c e R a (f+1) b d=
 (zJ (decide (b<(a.length:Int)))
 (xM b a.length=true/\
 xM (zW .int a b.toNat) c.vars.length=true/\
 ∃n2,dH c e R a f b n2 ((zW .var c.vars ((zW .int a b.toNat).toNat)).lo) d)
 (R (.sl .lit d))):=by kernel_rfl
theorem EO(a:zG)(b:Int)(c:AcL)(R:yL):FD mF f312 [dM a,dI b,dS c] R=
 (xM b a.cons.length=true/\
 yM fJ [dC (zW .con a.cons b.toNat)] (.list .int) λd=>
 ∃n0,Ym a c R d n0 0 ([]:AcM)):=by kernel_rfl
theorem GP(a:zG)(b:Int)(c:AcL):xZ mF f312 bT [dM a,dI b,dS c]:=wA func312 (by kernel_rfl) ntmps312 rfl
end Go.Proofs.YtogdmcebojiojaaGreatDoor
