/- Texts of this proof, one behind the other: nothing is handed in but what is proved here; no condition. -/
import Derived.Recover
import Derived.Test.YtogdmcebojiojaaGreatDoorRows
import Derived.ProofKit
import Derived.LaidMore
import Derived.OpenShut
import Derived.Stop.Joined
import Derived.SizedLaws
import Derived.Deep.Slices
import Derived.Deep.Fields
import Derived.Test.YtogdmcebojiojaaGreatDoorProg
import Derived.Test.YtogdmcebojiojaaGreatDoorZE
namespace Go.Proofs.YtogdmcebojiojaaGreatDoor
open Go.RowKit
set_option maxRecDepth 100000
set_option linter.unusedVariables false
set_option linter.unusedSimpArgs false
def Yj(l' l:List (List zC)):Prop:=∀c∈l,∃c'∈l',∀vs:List Int,sY c' vs=true→sY c vs=true
theorem Yj.sub{l' l:List (List zC)}(h:∀c∈l,c∈l'):Yj l' l:=λc hc=>⟨c,h c hc,λ_ h=>h⟩
theorem Yj.refl(l:List (List zC)):Yj l l:=.sub λ_ h=>h
theorem Yj.trans{a b c:List (List zC)}(h:Yj a b)(h':Yj b c):Yj a c:=λx hx=>by
 obtain⟨y,hy,e⟩:=h' x hx;obtain⟨z,hz,e'⟩:=h y hy;exact⟨z,hz,λvs h=>e vs (e' vs h)⟩
theorem Yj.app{a b a' b':List (List zC)}(h:Yj a b)(h':Yj a' b'):Yj (a++a') (b++b'):=λx hx=>by
 rcases List.mem_append.1 hx with hx|hx
 ·obtain⟨y,hy,e⟩:=h x hx;exact⟨y,List.mem_append_left _ hy,e⟩
 ·obtain⟨y,hy,e⟩:=h' x hx;exact⟨y,List.mem_append_right _ hy,e⟩
theorem zam{nv:Nat}{op op':Op}{Q Q':List Int→Bool}(h:Ya nv op Q)(h':Ya nv op' Q')(hq:∀vs,Q' vs=true→Q vs=true){s:List (List Int)}(hl:s.length=nv)(hp:0<s.length)(hf:zT s=false)(hs:op' s=s):op s=s:=by
 have hm:∀(v:Nat) (n:Int),n∈s.getD v []→∃us,XB us s∧us.getD v 0=n∧Q us=true:=λv n hn=>by
  obtain⟨us,a,b,c⟩:=h'.congr (Q':=Q') hl (vs:=[]) hs hf v n hn;exact⟨us,a,b,hq us c⟩
 have hex:∃vs,XB vs s∧Q vs=true:=by
  have h0:=tG.1 hf 0 hp;obtain⟨n,hn⟩:=List.exists_mem_of_ne_nil _ h0;obtain⟨us,a,_,c⟩:=hm 0 n hn;exact⟨us,a,c⟩
 rw[h.some s hl hf hex];exact cL λv n hn=>pU.2 (hm v n hn)
section
variable {m:zD}{l l':List (List zC)}{cons:Bool}{s t:List (List Int)}
theorem zan(hl:yN m l)(hl':yN m l')(he:Yj l' l)(hs:s.length=m.vars.length)(hf:zT s=false)(h:QM (oS m cons l') s):QM (oS m cons l) s:=λop ho=>by
 have hp:=hl.pos;rcases pB.1 ho with⟨hc,c,hc2,rfl⟩|⟨c,hc,rfl⟩
 ·exact h _ (pB.2 (.inl ⟨hc,c,hc2,rfl⟩))
 ·obtain⟨c',hc',e⟩:=he c hc
  exact zam (dX hl hc) (dX hl' hc') e hs (by omega) hf (h _ (pB.2 (.inr ⟨c',hc',rfl⟩)))
theorem OL(hl:yN m l)(hs:s.length=m.vars.length):fO (sQ m cons l s) s:=(jN hl hs).le
theorem Bm(hl:yN m l)(hs:s.length=m.vars.length):(sQ m cons l s).length=m.vars.length:=(OL hl hs).1.trans hs
theorem VH(hl:yN m l)(hs:s.length=m.vars.length)(hf:zT (sQ m cons l s)=false):QM (oS m cons l) (sQ m cons l s):=by
 rcases(jN (cons:=cons) hl hs).out with⟨_,h⟩|h
 ·exact h
 ·rw[h,kB (by have:=hl.pos;omega)]at hf;cases hf
theorem Bn(hl:yN m l)(hs:s.length=m.vars.length)(ht:fO t s)(hf:zT t=false)(h:QM (oS m cons l) t):fO t (sQ m cons l s):=(jN hl hs).all t ht hf h
theorem zao(hl:yN m l)(hs:s.length=m.vars.length)(hf:zT (sQ m cons l s)=true):sQ m cons l s=kX s:=by
 rcases(jN (cons:=cons) hl hs).out with⟨h,_⟩|h
 ·rw[h]at hf;cases hf
 ·exact h
theorem zix(hl:yN m l)(hl':yN m l')(he:Yj l' l)(hs:s.length=m.vars.length)(h:zT (sQ m cons l s)=true):zT (sQ m cons l' s)=true:=by
 cases hf:zT (sQ m cons l' s)
 ·have hs':=Bm (cons:=cons) hl' hs
  have:=Bn hl hs (OL hl' hs) hf (zan hl hl' he hs' hf (VH hl' hs hf));rw[this.fail hf]at h;cases h
 ·rfl
theorem zgP{f:Nat→Int→Bool}(hl:yN m l)(hs:s.length=m.vars.length)(hf:zT (sQ m cons l s)=false):sQ m cons l (rX f (sQ m cons l s))=sQ m cons l (rX f s):=by
 have hr:=Bm (cons:=cons) hl hs;have k1:(rX f (sQ m cons l s)).length=m.vars.length:=uE.trans hr;have k2:(rX f s).length=m.vars.length:=uE.trans hs;refine RW hl k1 ⟨?_,λt ht hft hst=> ?_,?_⟩
 ·cases hq:zT (sQ m cons l (rX f s))
  ·have h1:=OL (cons:=cons) hl k2
   have h2:=Bn hl hs (h1.trans XC) hq (VH hl k2 hq);refine⟨h2.1.trans (hr.trans k1.symm),λv=> ?_⟩
   rw[uD];have h3:=h1.2 v;rw[uD]at h3
   have h4:(sQ m cons l (rX f s)).getD v []=((sQ m cons l (rX f s)).getD v []).filter (f v):=(List.filter_eq_self.2 λn hn=>(List.mem_filter.1 (h3.subset hn)).2).symm
   rw[h4];exact(h2.2 v).filter _
  ·rw[zao hl k2 hq]
   exact Vw (k2.trans k1.symm)
 ·refine Bn hl k2 (ht.trans ?_) hft hst
  exact XD (OL hl hs) λv n _ h=>h
 ·cases hq:zT (sQ m cons l (rX f s))
  ·exact .inl ⟨rfl,VH hl k2 hq⟩
  ·refine .inr ?_
   rw[zao hl k2 hq];exact Gc (k2.trans k1.symm)
theorem zcf{c:List zC}(hl:yN m l)(hl':yN m l')(he:Yj l' l)(h:UA m l c=true):UA m l' c=true:=
 zix hl hl' he (YX.1.trans xI) h
theorem DO{st:zS}(hl:yN m l)(hl':yN m l')(he:Yj l' l)(h:Ze m l st=true):Ze m l' st=true:=by
 unfold Ze at h⊢
 by_cases h1:st.kind=1
 ·rw[if_pos h1]at h⊢;exact h
 ·rw[if_neg h1]at h⊢
  by_cases h2:st.kind=2
  ·rw[if_pos h2,Bool.and_eq_true]at h⊢
   exact⟨h.1,zcf hl hl' he h.2⟩
  ·rw[if_neg h2]at h;cases h
end
theorem G4{m:zD}(hm:yR m=0):∀ {t:List zS} {l l':List (List zC)},(∀c∈l,yJ m.vars.length c=0)→(∀c∈l',yJ m.vars.length c=0)→(∀st∈t,yJ m.vars.length st.clause=0)→Yj l' l→qB m l t=true→qB m l' t=true
 |[],l,l',_,_,_,_,_=>rfl
 |st::t,l,l',h1,h2,h3,he,h=>by
  have hst:=h3 st (List.mem_cons_self ..);rw[qB,Bool.and_eq_true]at h⊢
  have k1:∀ {a:List (List zC)},(∀c∈a,yJ m.vars.length c=0)→∀c∈a++[st.clause],yJ m.vars.length c=0:=λha c hc=>by
   rcases List.mem_append.1 hc with hc|hc
   ·exact ha c hc
   ·rw[List.mem_singleton.1 hc];exact hst
  exact⟨DO (nR hm h1) (nR hm h2) he h.1,G4 hm (k1 h1) (k1 h2) (λx hx=>h3 x (List.mem_cons_of_mem _ hx)) (he.app (.refl _)) h.2⟩
abbrev VI(s:List (List Int)):Int:=R6 (λr=>decide (1<r.length)) s 0
def VJ(s:List (List Int))(v n:Int):List (List Int):=rX (λw k=> !decide ((w:Int)=v)||decide (k=n)) s
def jD(s:List (List Int)):List Int:=s.map λr=>r.getD 0 0
noncomputable def vA (m:zD)(l:List (List zC))(d:List zC):List (List Int):=sQ m true l (fw m d)
noncomputable def VK (m:zD)(l:List (List zC)):Nat→List (List Int)→List zC→List zC×Bool×List Int
 |0,s,d=>(d,false,[])
 |k+1,s,d=>if zT s=true then(d,false,[])else if VI s<0 then([],true,jD s)
   else VK m l k (sQ m true l (VJ s (VI s) ((s.getD (VI s).toNat []).getD 0 0))) (d++[⟨VI s,3,(s.getD (VI s).toNat []).getD 0 0⟩])
noncomputable def ow (m:zD)(l:List (List zC)):List zC×Bool×List Int:=VK m l (m.vars.length+1) (sQ m true l (xT m)) []
theorem DP{α:Type}{p:α→Bool}:∀(xs:List α) (i:Nat),(R6 p xs (i:Int)= -1∧∀x∈xs,p x=false)∨∃k,k<xs.length∧R6 p xs (i:Int)=((i+k:Nat):Int)∧(∀h:k<xs.length,p xs[k]=true)∧∀j (hj:j<xs.length),j<k→p xs[j]=false
 |[],i=> .inl ⟨rfl,λx hx=>by cases hx⟩
 |x::xs,i=>by
  rw[R6];cases hx:p x
  ·rw[cond_false]
   rcases DP xs (i+1)with⟨h1,h2⟩|⟨k,hk,h1,h2,h3⟩
   ·refine .inl ⟨h1,λy hy=> ?_⟩
    rcases List.mem_cons.1 hy with rfl|hy
    ·exact hx
    ·exact h2 y hy
   ·refine .inr ⟨k+1,by simp;omega,by rw[show((i:Int)+1)=((i+1:Nat):Int) by omega,h1];omega,λh=>by simpa using h2 hk,λj hj hjk=> ?_⟩
    match j with
    |0=>exact hx
    |j+1=>simpa using h3 j (by simpa using hj) (by omega)
  ·rw[cond_true]
   exact .inr ⟨0,by simp,rfl,λ_=>hx,λj _ hj=>by omega⟩
theorem DQ(s:List (List Int)):(VI s= -1∧∀v:Nat,(s.getD v []).length≤1)∨∃v:Nat,VI s=(v:Int)∧v<s.length∧1<(s.getD v []).length∧∀w:Nat,w<v→(s.getD w []).length≤1:=by
 have h:(VI s= -1∧_)∨∃k,k<s.length∧VI s=((0+k:Nat):Int)∧_:=DP (p:=λr:List Int=>decide (1<r.length)) s 0
 rcases h with⟨h1,h2⟩|⟨k,hk,h1,h2,h3⟩
 ·refine .inl ⟨h1,λv=> ?_⟩
  by_cases hv:v<s.length
  ·have:=h2 _ (List.getElem_mem hv)
   rw[yA _ hv];simpa using this
  ·rw[sU (by omega)];exact Nat.zero_le _
 ·refine .inr ⟨k,by rw[h1];omega,hk,?_,λw hw=> ?_⟩
  ·have:=h2 hk
   rw[yA _ hk];simpa using this
  ·have:=h3 w (by omega) hw
   rw[yA _ (by omega)];simpa using this
section
variable {m:zD}{l l':List (List zC)}{d:List zC}
theorem VL(hl:yN m l):(vA m l d).length=m.vars.length:=Bm hl iQ
theorem zdn(hl:yN m l):fO (vA m l d) (fw m d):=OL hl iQ
theorem Zs(hl:yN m l):fO (vA m l d) (xT m):=(zdn hl).trans WH
theorem ziy{v n:Int}:fw m (d++[⟨v,3,n⟩])=VJ (fw m d) v n:=by
 rw[fw,List.foldl_append];show Aq (fw m d) _=_
 rw[Aq,VJ];exact Yb λw k _=>by simp[holdsL]
theorem Mw(hl:yN m l)(hf:zT (vA m l d)=false){v n:Int}:sQ m true l (VJ (vA m l d) v n)=vA m l (d++[⟨v,3,n⟩]):=by
 rw[vA,vA,ziy,VJ,VJ];exact zgP hl iQ hf
structure J0 (m:zD)(l:List (List zC))(d:List zC):Prop where
 ok:∀x∈d,x.op=3∧0≤x.var∧x.var<(m.vars.length:Int)∧x.n∈(xT m).getD x.var.toNat []
 thin:∀x∈d,∀w:Nat,(w:Int)≤x.var→((vA m l d).getD w []).length≤1
 few:∀w:Nat,1<((vA m l d).getD w []).length→d.length≤w
 len:d.length≤m.vars.length
theorem J0.nil:J0 m l []:=⟨λx hx=>(by cases hx),λx hx=>(by cases hx),λw _=>Nat.zero_le _,Nat.zero_le _⟩
theorem zeB(hl:yN m l)(hf:zT (vA m l d)=false){v n:Int}:fO (vA m l (d++[⟨v,3,n⟩])) (VJ (vA m l d) v n):=by
 rw[←Mw hl hf];exact OL hl (uE.trans (VL hl))
theorem zeC{a:List Int}(h:a.Nodup)(n:Int):(a.filter λk=>decide (k=n)).length≤1:=by
 induction a with
 |nil=>exact Nat.zero_le _
 |cons x a ih=>
  rw[List.filter_cons]
  by_cases e:x=n
  ·rw[if_pos (by simpa using e)]
   have:(a.filter λk=>decide (k=n))=[]:=List.filter_eq_nil_iff.2 λy hy=>by
    have:=(List.nodup_cons.1 h).1;intro e2;have e2:y=n:=by simpa using e2
    rw[e2,←e]at hy;exact this hy
   rw[this];exact Nat.le_refl _
  ·rw[if_neg (by simpa using e)]
   exact ih (List.nodup_cons.1 h).2
theorem zcg(v:Nat):((xT m).getD v []).Nodup:=by
 by_cases hv:v<m.vars.length
 ·rw[gN hv];exact LO _ _
 ·rw[sU (by rw[xI];omega)];exact List.nodup_nil
theorem G5{a:List Int}(h:0<a.length):a.getD 0 0∈a:=by
 match a,h with
 |x::a,_=>exact List.mem_cons_self
theorem J0.step(hl:yN m l)(h:J0 m l d)(hf:zT (vA m l d)=false){v:Nat}(hv:v<m.vars.length)(ho:VI (vA m l d)=v)(h1:1<((vA m l d).getD v []).length)(h2:∀w:Nat,w<v→((vA m l d).getD w []).length≤1):
  J0 m l (d++[⟨v,3,((vA m l d).getD v []).getD 0 0⟩]):=by
 have hm:=zeB (v:=(v:Int)) (n:=((vA m l d).getD v []).getD 0 0) hl hf;have hle:∀w:Nat,((vA m l (d++[⟨v,3,((vA m l d).getD v []).getD 0 0⟩])).getD w []).length≤((vA m l d).getD w []).length:=λw=>((hm.trans XC).2 w).length_le
 have hvv:((vA m l (d++[⟨v,3,((vA m l d).getD v []).getD 0 0⟩])).getD v []).length≤1:=by
  have h3:=(hm.2 v).length_le;rw[VJ,uD]at h3
  have h4:(((vA m l d).getD v []).filter λk=> !decide ((v:Int)=(v:Int))||decide (k=((vA m l d).getD v []).getD 0 0)).length≤1:=by
   rw[show(λk:Int=> !decide ((v:Int)=(v:Int))||decide (k=((vA m l d).getD v []).getD 0 0))=λk=>decide (k=((vA m l d).getD v []).getD 0 0) by funext k;simp]
   exact zeC (((Zs hl).2 v).nodup (zcg v)) _
  omega
 have hd:d.length≤v:=h.few v h1;refine⟨λx hx=> ?_,λx hx w hw=> ?_,λw hw=> ?_,?_⟩
 ·rcases List.mem_append.1 hx with hx|hx
  ·exact h.ok x hx
  ·rw[List.mem_singleton.1 hx]
   exact⟨rfl,by show(0:Int)≤v;omega,by show(v:Int)<_;omega,((Zs hl).2 v).subset (G5 (by omega))⟩
 ·rcases List.mem_append.1 hx with hx|hx
  ·exact Nat.le_trans (hle w) (h.thin x hx w hw)
  ·rw[List.mem_singleton.1 hx]at hw
   have hw:(w:Int)≤v:=hw
   by_cases e:w=v
   ·rw[e];exact hvv
   ·exact Nat.le_trans (hle w) (h2 w (by omega))
 ·rw[List.length_append,List.length_singleton]
  have h5:v<w:=by
   rcases Nat.lt_or_ge v w with h5|h5
   ·exact h5
   ·rcases Nat.lt_or_eq_of_le h5 with h6|h6
    ·have:=h2 w h6;have:=hle w;omega
    ·rw[h6]at hw;omega
  omega
 ·rw[List.length_append,List.length_singleton];omega
inductive DR (m:zD)(l:List (List zC)):List zC×Bool×List Int→Prop
 |found (d:List zC) (hc:J0 m l d) (hf:zT (vA m l d)=false) (h1:∀v:Nat,((vA m l d).getD v []).length≤1):DR m l ([],true,jD (vA m l d))
 |none (hf:zT (vA m l [])=true):DR m l ([],false,[])
 |some (d:List zC) (v:Nat) (hc:J0 m l d) (hf:zT (vA m l d)=false) (hv:v<m.vars.length) (h1:1<((vA m l d).getD v []).length) (h2:∀w:Nat,w<v→((vA m l d).getD w []).length≤1)
   (hc':J0 m l (d++[⟨v,3,((vA m l d).getD v []).getD 0 0⟩])) (hf':zT (vA m l (d++[⟨v,3,((vA m l d).getD v []).getD 0 0⟩]))=true):DR m l (d++[⟨v,3,((vA m l d).getD v []).getD 0 0⟩],false,[])
theorem G6(hl:yN m l):∀(k:Nat) (d:List zC),J0 m l d→m.vars.length+1≤k+d.length→(zT (vA m l d)=true→DR m l (d,false,[]))→DR m l (VK m l k (vA m l d) d)
 |0,d,hc,hk,_=>absurd hc.len (by omega)
 |k+1,d,hc,hk,hfail=>by
  rw[VK];cases hf:zT (vA m l d)
  ·rw[if_neg (by decide)]
   rcases DQ (vA m l d)with⟨e,h1⟩|⟨v,e,hv,h1,h2⟩
   ·rw[if_pos (by omega)];exact .found d hc hf h1
   ·rw[if_neg (by omega),e,Int.toNat_natCast,Mw hl hf]
    have hv:v<m.vars.length:=by rw[VL hl]at hv;exact hv
    have hc':=hc.step hl hf hv e h1 h2;exact G6 hl k _ hc' (by rw[List.length_append,List.length_singleton];omega) λhf'=> .some d v hc hf hv h1 h2 hc' hf'
  ·rw[if_pos rfl];exact hfail hf
theorem G7(hl:yN m l):DR m l (ow m l):=G6 hl _ [] .nil (by simp) λhf=> .none hf
end
def Mx:List (List Int)→List (List Int)
 |[]=>[[]]
 |r::rs=>r.flatMap λn=>(Mx rs).map (n::·)
def aY:List (List Int)→Nat
 |[]=>1
 |r::rs=>r.length*aY rs
theorem DS:∀s:List (List Int),(Mx s).length=aY s
 |[]=>rfl
 |r::rs=>by
  rw[Mx,aY,List.length_flatMap];have h:(r.map λn=>((Mx rs).map (n::·)).length)=r.map λ_=>aY rs:=List.map_congr_left λn _=>by rw[List.length_map,DS rs]
  rw[h];clear h
  induction r with
  |nil=>simp
  |cons x r ih=>rw[List.map_cons,List.sum_cons,ih,List.length_cons,Nat.succ_mul];omega
theorem Ka:∀ {s:List (List Int)} {vs:List Int},vs∈Mx s↔XB vs s
 |[],vs=>by
  rw[Mx,List.mem_singleton];refine⟨λh=>by subst h;exact⟨rfl,λv hv=>absurd hv (Nat.not_lt_zero v)⟩,λh=>List.length_eq_zero_iff.1 h.1⟩
 |r::rs,vs=>by
  rw[Mx,List.mem_flatMap];constructor
  ·rintro⟨n,hn,h⟩
   obtain⟨us,hu,rfl⟩:=List.mem_map.1 h;have:=Ka.1 hu;refine⟨by simp[this.1],λv hv=> ?_⟩
   match v with
   |0=>exact hn
   |v+1=>exact this.2 v (by simpa using hv)
  ·rintro⟨h1,h2⟩
   match vs,h1 with
   |n::us,h1=>
    refine⟨n,h2 0 (by simp),List.mem_map.2 ⟨us,Ka.2 ⟨by simpa using h1,λv hv=> ?_⟩,rfl⟩⟩
    exact h2 (v+1) (by simpa using hv)
theorem KQ:∀(a b:List (List Int)),aY (a++b)=aY a*aY b
 |[],b=>by rw[List.nil_append,aY,Nat.one_mul]
 |r::a,b=>by rw[List.cons_append,aY,aY,KQ a b,Nat.mul_assoc]
def ZS(s:List (List Int)):Nat→List (List Int)
 |0=>[]
 |k+1=>ZS s k++if 1<(s.getD k []).length then Mx (s.take (k+1))else[]
theorem DT{s:List (List Int)}(h:∀r∈s,0<r.length):∀k,k≤s.length→(ZS s k).length+2≤2*aY (s.take k)
 |0,_=>by simp[ZS,aY]
 |k+1,hk=>by
  have ih:=DT h k (by omega)
  have hg:s.getD k []=s[k]:=yA _ (by omega)
  have e:aY (s.take (k+1))=aY (s.take k)*s[k].length:=by
   rw[←List.take_append_getElem (show k<s.length by omega),KQ]
   simp[aY]
  have hp:=h s[k] (List.getElem_mem _);rw[ZS,List.length_append,hg];split
  ·rename_i h1
   rw[DS,e];have h2:aY (s.take k)*2≤aY (s.take k)*s[k].length:=Nat.mul_le_mul_left _ h1;omega
  ·rename_i h1
   have h2:s[k].length=1:=by omega
   rw[e,h2,List.length_nil];omega
theorem DU{s:List (List Int)}{P:List Int}{v:Nat}(h1:1<(s.getD v []).length)(hP:P∈Mx (s.take (v+1))):∀k,v<k→P∈ZS s k
 |0,h=>absurd h (Nat.not_lt_zero v)
 |k+1,h=>by
  rw[ZS,List.mem_append]
  by_cases e:v=k
  ·subst e;rw[if_pos h1];exact .inr hP
  ·exact .inl (DU h1 hP k (by omega))
structure Po (m:zD)(l:List (List zC))(P:List Int):Prop where
 ex:∃s,fO s (xT m)∧zT s=false∧QM (oS m true l) s∧(∀w:Nat,w+1<P.length→s.getD w []=[P.getD w 0])∧P.getD (P.length-1) 0∈s.getD (P.length-1) []
theorem Po.ent{m:zD}{l l':List (List zC)}{P:List Int}(hl:yN m l)(hl':yN m l')(he:Yj l' l)(h:Po m l' P):Po m l P:=by
 obtain⟨s,h1,h2,h3,h4,h5⟩:=h.ex;exact⟨s,h1,h2,zan hl hl' he (h1.1.trans xI) h2 h3,h4,h5⟩
open Classical in
noncomputable def Kb (m:zD)(l:List (List zC))(P:List Int):Bool:=decide (Po m l P)
open Classical in
theorem XL{m:zD}{l:List (List zC)}{P:List Int}:Kb m l P=true↔Po m l P:=by rw[Kb];exact decide_eq_true_iff
open Classical in
theorem Bo{m:zD}{l:List (List zC)}{P:List Int}:Kb m l P=false↔¬Po m l P:=by rw[Kb];exact decide_eq_false_iff_not
noncomputable def gO (m:zD)(l:List (List zC)):Nat:=((ZS (xT m) m.vars.length).filter (Kb m l)).length
theorem RZ{α:Type}{p q:α→Bool}:∀ {L:List α},(∀x∈L,p x=true→q x=true)→(L.filter p).length≤(L.filter q).length∧((∃x∈L,q x=true∧p x=false)→(L.filter p).length<(L.filter q).length)
 |[],_=>⟨Nat.le_refl _,λ⟨x,hx,_⟩=>by cases hx⟩
 |y::L,h=>by
  obtain⟨h1,h2⟩:=RZ (L:=L) λx hx=>h x (List.mem_cons_of_mem _ hx)
  have hy:=h y (List.mem_cons_self ..);rw[List.filter_cons,List.filter_cons];cases hp:p y<;>cases hq:q y
  ·simp only[Bool.false_eq_true,if_false]
   refine⟨h1,λ⟨x,hx,ha,hb⟩=>h2 ?_⟩
   rcases List.mem_cons.1 hx with rfl|hx
   ·rw[hq]at ha;cases ha
   ·exact⟨x,hx,ha,hb⟩
  ·simp only[Bool.false_eq_true,if_false,if_true,List.length_cons]
   exact⟨by omega,λ_=>by omega⟩
  ·rw[hy hp]at hq;cases hq
  ·simp only[if_true,List.length_cons]
   refine⟨by omega,λ⟨x,hx,ha,hb⟩=> ?_⟩
   rcases List.mem_cons.1 hx with rfl|hx
   ·rw[hp]at hb;cases hb
   ·have:=h2 ⟨x,hx,ha,hb⟩;omega
section
variable {m:zD}{l l':List (List zC)}{d:List zC}
theorem zeD(hl:yN m l)(hl':yN m l')(he:Yj l' l):gO m l'≤gO m l:=by
 unfold gO;exact(RZ λP _ h=>XL.2 ((XL.1 h).ent hl hl' he)).1
theorem zeE(hl:yN m l)(hl':yN m l')(he:Yj l' l){P:List Int}(hP:P∈ZS (xT m) m.vars.length)(h1:Po m l P)(h2:¬Po m l' P):gO m l'<gO m l:=by
 unfold gO;exact(RZ λP _ h=>XL.2 ((XL.1 h).ent hl hl' he)).2 ⟨P,hP,XL.2 h1,Bo.2 h2⟩
theorem DV(hr:Right m):∀r∈xT m,0<r.length:=λr h=>by
 obtain⟨v,hv,rfl⟩:=List.mem_map.1 h;have:=hr.var v hv;rw[Vp,Xq];omega
theorem zch(hr:Right m):gO m l+2≤2*aY (xT m):=by
 have h1:=DT (DV hr) m.vars.length (by rw[xI];exact Nat.le_refl _)
 rw[List.take_of_length_le (by rw[xI];exact Nat.le_refl _)]at h1
 unfold gO;have:=List.length_filter_le (Kb m l) (ZS (xT m) m.vars.length);omega
theorem My{s:List (List Int)}{w:Nat}:(jD s).getD w 0=(s.getD w []).getD 0 0:=by
 rw[jD,List.getD_eq_getElem?_getD,List.getElem?_map,List.getD_eq_getElem?_getD (l:=s)];cases s[w]? <;>rfl
theorem Mz{a:List Int}{k w:Nat}(h:w<k):(a.take k).getD w 0=a.getD w 0:=by
 rw[List.getD_eq_getElem?_getD,List.getElem?_take_of_lt h,←List.getD_eq_getElem?_getD]
theorem zgQ{a:List Int}(h1:a.length≤1)(h2:a≠[]):a=[a.getD 0 0]:=by
 match a,h1,h2 with
 |[x],_,_=>rfl
 |x::y::a,h1,_=>simp at h1
theorem zci(hl:yN m l){v:Nat}(hf:zT (vA m l d)=false)(hv:v<m.vars.length)(h1:1<((vA m l d).getD v []).length)(h2:∀w:Nat,w<v→((vA m l d).getD w []).length≤1):
  (jD (vA m l d)).take (v+1)∈ZS (xT m) m.vars.length∧Po m l ((jD (vA m l d)).take (v+1)):=by
 have hlen:(vA m l d).length=m.vars.length:=VL hl;have hvl:(jD (vA m l d)).length=m.vars.length:=by rw[jD,List.length_map,hlen]
 have hne:=tG.1 hf
 have hmem:∀w:Nat,w<m.vars.length→(jD (vA m l d)).getD w 0∈(vA m l d).getD w []:=λw hw=>by
  rw[My];exact G5 (List.length_pos_iff.2 (hne w (by omega)))
 have htl:((jD (vA m l d)).take (v+1)).length=v+1:=by rw[List.length_take,hvl];omega
 refine⟨DU (v:=v) ?_ (Ka.2 ⟨?_,λw hw=> ?_⟩) _ hv,⟨_,Zs hl,hf,VH hl iQ hf,λw hw=> ?_,?_⟩⟩
 ·have:=((Zs (d:=d) hl).2 v).length_le;omega
 ·rw[htl,List.length_take,xI];omega
 ·rw[List.length_take,xI]at hw
  rw[Mz (by omega)]
  have hx:=((Zs (d:=d) hl).2 w).subset (hmem w (by omega))
  rw[List.getD_eq_getElem?_getD,List.getElem?_take_of_lt (by omega),←List.getD_eq_getElem?_getD]
  exact hx
 ·rw[htl]at hw
  rw[Mz (by omega),My]
  exact zgQ (h2 w (by omega)) (hne w (by omega))
 ·rw[htl,Nat.add_sub_cancel,Mz (by omega)];exact hmem v hv
theorem zeF(hl:yN m l){v:Nat}(hc:J0 m l d)(hf:zT (vA m l d)=false)(hv:v<m.vars.length)(h1:1<((vA m l d).getD v []).length)(h2:∀w:Nat,w<v→((vA m l d).getD w []).length≤1)
  {few:List zC} (hfew:∀x∈few,x∈d++[⟨v,3,((vA m l d).getD v []).getD 0 0⟩]) (hl':yN m l') (hm:few.map iV∈l'):¬Po m l' ((jD (vA m l d)).take (v+1)):=λh=>by
 obtain⟨s,s1,s2,s3,s4,s5⟩:=h.ex;have hlen:(vA m l d).length=m.vars.length:=VL hl;have hvl:(jD (vA m l d)).length=m.vars.length:=by rw[jD,List.length_map,hlen]
 have hne:=tG.1 hf;have htl:((jD (vA m l d)).take (v+1)).length=v+1:=by rw[List.length_take,hvl];omega
 have hs:s.length=m.vars.length:=s1.1.trans xI;rw[htl,Nat.add_sub_cancel,Mz (by omega),My]at s5
 have hst:=s3 _ (pB.2 (.inr ⟨_,hm,rfl⟩));obtain⟨us,u1,u2,u3⟩:=(dX hl' hm).congr (Q':=sY (few.map iV)) hs (vs:=[]) hst s2 v _ s5;obtain⟨z,hz,hzz⟩:=nQ.1 u3;obtain⟨y,hy,rfl⟩:=List.mem_map.1 hz;rw[Ba]at hzz
 have key:∀y:zC,y.op=3→us.getD y.var.toNat 0=y.n→holdsL (iV y) (us.getD y.var.toNat 0)=true→False:=λy ho hn hh=>by
  rw[Dn (by omega),holdsL,if_neg (by omega),if_neg (by omega),if_pos ho,hn,decide_eq_true rfl]at hh
  cases hh
 rcases List.mem_append.1 (hfew y hy)with hd|hd
 ·obtain⟨o1,o2,o3,o4⟩:=hc.ok y hd
  have hlt:y.var.toNat<v:=by
   rcases Nat.lt_or_ge y.var.toNat v with hlt|hge
   ·exact hlt
   ·have:=hc.thin y hd v (by omega);omega
  have h4:=s4 y.var.toNat (by rw[htl];omega)
  rw[Mz (by omega),My]at h4
  have hu:=u1.2 y.var.toNat (by omega)
  rw[h4]at hu
  refine key y o1 ?_ hzz;rw[List.mem_singleton.1 hu];have hmem:=G5 (List.length_pos_iff.2 (hne y.var.toNat (by omega)))
  have hput:=((zdn (d:=d) hl).2 y.var.toNat).subset hmem;rw[VF,uD]at hput
  have:=List.all_eq_true.1 (List.mem_filter.1 hput).2 y hd;have e:((y.var.toNat:Nat):Int)=y.var:=Int.toNat_of_nonneg o2;rw[e,decide_eq_true rfl,Bool.not_true,Bool.false_or,holdsL,if_neg (by omega),if_neg (by omega),if_pos o1]at this
  exact of_decide_eq_true this
 ·rw[List.mem_singleton.1 hd]at hzz
  refine key _ rfl ?_ hzz;exact u2
end
theorem zdo:∀(u:Nat),∀b∈Lib.decDigits u,48≤b.toNat∧b.toNat≤57:=λu=>by
 induction u using Nat.strongRecOn with
 |_ u ih=>
  intro b hb
  have one:∀k,k<10→48≤(UInt8.ofNat (48+k)).toNat∧(UInt8.ofNat (48+k)).toNat≤57:=λk hk=>by
   rw[UInt8.toNat_ofNat'];omega
  rw[Lib.decDigits]at hb
  split at hb
  ·rename_i h
   rw[List.mem_singleton.1 hb];exact one u h
  ·rename_i h
   rcases List.mem_append.1 hb with hb|hb
   ·exact ih _ (by omega) b hb
   ·rw[List.mem_singleton.1 hb];exact one _ (by omega)
def zgR(l:List UInt8):Nat:=l.foldl (λa b=>10*a+(b.toNat-48)) 0
theorem Io(u:Nat):zgR (Lib.decDigits u)=u:=by
 induction u using Nat.strongRecOn with
 |_ u ih=>
  have one:∀k,k<10→(UInt8.ofNat (48+k)).toNat-48=k:=λk hk=>by
   rw[UInt8.toNat_ofNat'];omega
  rw[Lib.decDigits];split
  ·rename_i h
   show 10*0+_=_
   rw[one u h];omega
  ·rename_i h
   rw[zgR,List.foldl_append];show 10*zgR (Lib.decDigits (u/10))+_=_
   rw[ih _ (by omega),one _ (by omega)];omega
theorem VM(n:Int):∀b∈Lib.itoa n,b≠58∧b≠32:=λb hb=>by
 have key:∀u,b∈Lib.decDigits u→b≠58∧b≠32:=λu h=>by
  have:=zdo u b h;refine⟨λe=> ?_,λe=> ?_⟩<;>rw[e]at this<;>simp at this
 rw[Lib.itoa]at hb
 split at hb
 ·rcases List.mem_cons.1 hb with rfl|hb
  ·decide
  ·exact key _ hb
 ·exact key _ hb
theorem G8{a b:Int}(h:Lib.itoa a=Lib.itoa b):a=b:=by
 have sgn:∀(u:Nat) (l:List UInt8),Lib.decDigits u≠45::l:=λu l e=>by
  have:=zdo u 45 (by rw[e];exact List.mem_cons_self)
  simp at this
 unfold Lib.itoa at h
 split at h<;>split at h
 ·have:=congrArg zgR (List.cons.inj h).2
  rw[Io,Io]at this;omega
 ·exact absurd h.symm (sgn _ _)
 ·exact absurd h (sgn _ _)
 ·have:=congrArg zgR h
  rw[Io,Io]at this;omega
def Bp(x:zC):ByteArray:=kW x.var++⟨#[58]⟩++kW x.op++⟨#[58]⟩++kW x.n++⟨#[32]⟩
def WU(c:List zC):ByteArray:=c.foldl (λo x=>o++Bp x) ⟨#[]⟩
def Ew(x:zC):List UInt8:=Lib.itoa x.var++58::(Lib.itoa x.op++58::(Lib.itoa x.n++[32]))
theorem zeG(x:zC):(Bp x).data.toList=Ew x:=by
 simp[Bp,Ew,kW,ByteArray.data_append]
theorem DW(c:List zC):(WU c).data.toList=c.flatMap Ew:=by
 suffices H:∀(c:List zC) (o:ByteArray),(c.foldl (λo x=>o++Bp x) o).data.toList=o.data.toList++c.flatMap Ew by
  rw[WU,H];rfl
 intro c
 induction c with
 |nil=>intro o;simp
 |cons x c ih=>
  intro o;rw[List.foldl_cons,ih,ByteArray.data_append,Array.toList_append,zeG,List.flatMap_cons,List.append_assoc]
theorem Bq{s:UInt8}:∀ {p q r t:List UInt8},(∀b∈p,b≠s)→(∀b∈q,b≠s)→p++s::r=q++s::t→p=q∧r=t
 |[],[],r,t,_,_,h=>⟨rfl,(List.cons.inj h).2⟩
 |[],y::q,r,t,_,hq,h=>absurd (List.cons.inj h).1.symm (hq y (List.mem_cons_self ..))
 |x::p,[],r,t,hp,_,h=>absurd (List.cons.inj h).1 (hp x (List.mem_cons_self ..))
 |x::p,y::q,r,t,hp,hq,h=>by
  obtain⟨h1,h2⟩:=List.cons.inj h;obtain⟨h3,h4⟩:=Bq (λb hb=>hp b (List.mem_cons_of_mem _ hb)) (λb hb=>hq b (List.mem_cons_of_mem _ hb)) h2
  exact⟨by rw[h1,h3],h4⟩
theorem zdp(x:zC):Ew x≠[]:=by unfold Ew;simp
theorem zap:∀ {c c':List zC},c.flatMap Ew=c'.flatMap Ew→c=c'
 |[],[],_=>rfl
 |[],y::c',h=>by
  rw[List.flatMap_nil,List.flatMap_cons]at h
  exact absurd (List.append_eq_nil_iff.1 h.symm).1 (zdp y)
 |x::c,[],h=>by
  rw[List.flatMap_nil,List.flatMap_cons]at h
  exact absurd (List.append_eq_nil_iff.1 h).1 (zdp x)
 |x::c,y::c',h=>by
  rw[List.flatMap_cons,List.flatMap_cons,Ew,Ew]at h
  simp only[List.append_assoc,List.cons_append,List.nil_append]at h
  obtain⟨h1,h⟩:=Bq (λb hb=>(VM _ b hb).1) (λb hb=>(VM _ b hb).1) h
  obtain⟨h2,h⟩:=Bq (λb hb=>(VM _ b hb).1) (λb hb=>(VM _ b hb).1) h
  obtain⟨h3,h⟩:=Bq (λb hb=>(VM _ b hb).2) (λb hb=>(VM _ b hb).2) h
  have e:x=y:=by
   obtain⟨a,b,c⟩:=x;obtain⟨a',b',c'⟩:=y;have h1:=G8 h1;have h2:=G8 h2;have h3:=G8 h3;simp only at h1 h2 h3
   rw[h1,h2,h3]
  rw[e,zap h]
theorem zgS{c c':List zC}(h:WU c=WU c'):c=c':=zap (by rw[←DW,←DW,h])
theorem zaq(k k':ByteArray)(v:Int):∀es:List (ByteArray×Int),tD .str .int k (tQ .str .int k' v es)=if k=k' then some v else tD .str .int k es
 |[]=>by
  show(bif decide (k=k')then some v else none)=_
  by_cases h:k=k'<;>simp[h,tD]
 |(a,b)::r=>by
  have ih:=zaq k k' v r;show tD .str .int k (bif decide (k'=a)then(a,v)::r else(a,b)::tQ .str .int k' v r)=if k=k' then some v else(bif decide (k=a)then some b else tD .str .int k r)
  by_cases h1:k'=a
  ·rw[decide_eq_true h1,cond_true]
   show(bif decide (k=a)then some v else tD .str .int k r)=_
   rw[←h1]
   by_cases h2:k=k'
   ·rw[decide_eq_true h2,if_pos h2];rfl
   ·rw[decide_eq_false h2,if_neg h2];rfl
  ·rw[decide_eq_false h1,cond_false]
   show(bif decide (k=a)then some b else tD .str .int k (tQ .str .int k' v r))=_
   rw[ih]
   by_cases h2:k=a
   ·have h4:¬k=k':=λe=>h1 (e.symm.trans h2)
    rw[decide_eq_true h2,if_neg h4,if_neg h4]
   ·rw[decide_eq_false h2]
    by_cases h3:k=k'
    ·rw[if_pos h3,if_pos h3];rfl
    ·rw[if_neg h3,if_neg h3]
abbrev zjG:Type:=List (ByteArray×Int)
abbrev QX(c:List zC)(met:zjG):Int:=nU .str .int (WU c) met
theorem ziz(c c':List zC)(met:zjG):QX c (tQ .str .int (WU c') 1 met)=if c=c' then 1 else QX c met:=by
 show(tD .str .int (WU c) (tQ .str .int (WU c') 1 met)).getD 0=_
 rw[zaq]
 by_cases h:c=c'
 ·rw[if_pos h,if_pos (by rw[h])];rfl
 ·rw[if_neg h,if_neg λe=>h (zgS e)];rfl
abbrev rB:Type:=List zS×zjG
def note1(p:rB)(st:zS):rB:=if QX st.clause p.2=0 then(p.1++[st],tQ .str .int (WU st.clause) 1 p.2)else p
def qJ(t:List zS)(p:rB):rB:=t.foldl note1 p
def XM(p:rB):Prop:=∀c,QX c p.2≠0↔c∈uX p.1
theorem XM.nil:XM ([],[]):=λc=>⟨λh=>absurd rfl h,λh=>by cases h⟩
theorem KR{c:List zC}{l:List zS}:c∈uX l↔∃st∈l,st.clause=c:=List.mem_map
theorem XM.note1{p:rB}(h:XM p)(st:zS):XM (note1 p st)∧st.clause∈uX (Go.Proofs.YtogdmcebojiojaaGreatDoor.note1 p st).1:=by
 unfold Go.Proofs.YtogdmcebojiojaaGreatDoor.note1
 by_cases e:QX st.clause p.2=0
 ·rw[if_pos e]
  refine⟨λc=> ?_,?_⟩
  ·show QX c (tQ .str .int (WU st.clause) 1 p.2)≠0↔c∈uX (p.1++[st])
   rw[ziz,pK,List.mem_append]
   by_cases hc:c=st.clause
   ·rw[if_pos hc]
    exact⟨λ_=> .inr (List.mem_singleton.2 hc),λ_=>by decide⟩
   ·rw[if_neg hc,h c]
    exact⟨.inl,λx=>x.elim id λx=>absurd (List.mem_singleton.1 x) hc⟩
  ·rw[pK];exact List.mem_append_right _ (List.mem_singleton.2 rfl)
 ·rw[if_neg e];exact⟨h,(h _).1 e⟩
theorem XM.notes:∀ {t:List zS} {p:rB},XM p→XM (qJ t p)∧(∀st∈t,st.clause∈uX (qJ t p).1)∧∃e,(qJ t p).1=p.1++e∧e.Sublist t
 |[],p,h=>⟨h,λst hs=>(by cases hs),[],(List.append_nil _).symm,List.Sublist.slnil⟩
 |st::t,p,h=>by
  obtain⟨h1,h2⟩:=h.note1 st;obtain⟨i1,i2,e,i3,i4⟩:=h1.notes (t:=t);have e0:qJ (st::t) p=qJ t (Go.Proofs.YtogdmcebojiojaaGreatDoor.note1 p st):=rfl;rw[e0];refine⟨i1,λx hx=> ?_,?_⟩
  ·rcases List.mem_cons.1 hx with rfl|hx
   ·rw[i3,pK];exact List.mem_append_left _ h2
   ·exact i2 x hx
  ·unfold Go.Proofs.YtogdmcebojiojaaGreatDoor.note1 at i3
   by_cases e1:QX st.clause p.2=0
   ·rw[if_pos e1]at i3
    unfold Go.Proofs.YtogdmcebojiojaaGreatDoor.note1;rw[if_pos e1];exact⟨st::e,by rw[i3];simp,i4.cons_cons st⟩
   ·rw[if_neg e1]at i3
    unfold Go.Proofs.YtogdmcebojiojaaGreatDoor.note1;rw[if_neg e1];exact⟨e,i3,i4.cons st⟩
theorem KS{m:zD}(hm:yR m=0){given:List (List zC)}(hg:∀c∈given,yJ m.vars.length c=0):∀(t:List zS) (p:rB) (A:List (List zC)),XM p→qB m given p.1=true→(∀st∈p.1,yJ m.vars.length st.clause=0)→
  (∀c∈A,yJ m.vars.length c=0)→(∀st∈t,yJ m.vars.length st.clause=0)→Yj (given++uX p.1) A→qB m A t=true→qB m given (qJ t p).1=true
 |[],p,A,_,h,_,_,_,_,_=>h
 |st::t,p,A,hp,h,hs,hA,ht,he,hr=>by
  rw[qB,Bool.and_eq_true]at hr
  have hst:=ht st (List.mem_cons_self ..)
  have hall:∀c∈given++uX p.1,yJ m.vars.length c=0:=λc hc=>by
   rcases List.mem_append.1 hc with hc|hc
   ·exact hg c hc
   ·obtain⟨x,hx,rfl⟩:=KR.1 hc;exact hs x hx
  obtain⟨h1,h2⟩:=hp.note1 st;show qB m given (qJ t (note1 p st)).1=true
  have hA':∀c∈A++[st.clause],yJ m.vars.length c=0:=λc hc=>by
   rcases List.mem_append.1 hc with hc|hc
   ·exact hA c hc
   ·rw[List.mem_singleton.1 hc];exact hst
  have hb:=DO (nR hm hA) (nR hm hall) he hr.1;refine KS hm hg t _ (A++[st.clause]) h1 ?_ ?_ hA' (λx hx=>ht x (List.mem_cons_of_mem _ hx)) ?_ hr.2
  ·unfold note1
   by_cases e:QX st.clause p.2=0
   ·rw[if_pos e,UG,h,Bool.true_and]
    show(Ze m _ st&&true)=true
    rw[hb];rfl
   ·rw[if_neg e];exact h
  ·unfold note1
   by_cases e:QX st.clause p.2=0
   ·rw[if_pos e]
    intro x hx;rcases List.mem_append.1 hx with hx|hx
    ·exact hs x hx
    ·rw[List.mem_singleton.1 hx];exact hst
   ·rw[if_neg e];exact hs
  ·have hsub:∀c∈uX p.1,c∈uX (note1 p st).1:=λc hc=>by
    unfold note1
    by_cases e:QX st.clause p.2=0
    ·rw[if_pos e,pK];exact List.mem_append_left _ hc
    ·rw[if_neg e];exact hc
   intro c hc;rcases List.mem_append.1 hc with hc|hc
   ·obtain⟨c',hc',hh⟩:=he c hc
    refine⟨c',?_,hh⟩;rcases List.mem_append.1 hc' with hc'|hc'
    ·exact List.mem_append_left _ hc'
    ·exact List.mem_append_right _ (hsub c' hc')
   ·rw[List.mem_singleton.1 hc]
    exact⟨_,List.mem_append_right _ h2,λ_ h=>h⟩
theorem zcj{t1 t2:List zS}{p:rB}(hp:XM p)(h0:∀st∈p.1,st.clause≠[])(h1:∀st∈t1,st.clause≠[])(h2:t2≠[])(h3:∀st∈t2,st.clause=[]):cP (qJ (t1++t2) p).1=true:=by
 have e0:qJ (t1++t2) p=qJ t2 (qJ t1 p):=List.foldl_append ..;rw[e0];obtain⟨i1,_,e,i3,i4⟩:=hp.notes (t:=t1);generalize qJ t1 p=q at i1 i3
 have hq:([]:List zC)∉uX q.1:=λhc=>by
  obtain⟨st,hs,e1⟩:=KR.1 hc;rw[i3]at hs
  rcases List.mem_append.1 hs with hs|hs
  ·exact h0 st hs e1
  ·exact h1 st (i4.subset hs) e1
 match t2,h2,h3 with
 |st::t2,_,h3=>
  have hst:=h3 st (List.mem_cons_self ..)
  have hm:QX st.clause q.2=0:=by
   rcases Int.decEq (QX st.clause q.2) 0 with h|h
   ·exact absurd ((i1 _).1 h) (by rw[hst];exact hq)
   ·exact h
  show cP (qJ t2 (note1 q st)).1=true
  have hst2:∀(t:List zS) (r:rB),(∀x∈t,x.clause=[])→QX [] r.2≠0→qJ t r=r:=λt=>by
   induction t with
   |nil=>exact λr _ _=>rfl
   |cons x t ih=>
    intro r hx hr;show qJ t (note1 r x)=r
    have e:note1 r x=r:=by
     unfold note1;rw[if_neg (by rw[hx x (List.mem_cons_self ..)];exact hr)]
    rw[e];exact ih r (λy hy=>hx y (List.mem_cons_of_mem _ hy)) hr
  have hn:=(i1.note1 st).1;have hmem:=(i1.note1 st).2;rw[hst2 t2 _ (λx hx=>h3 x (List.mem_cons_of_mem _ hx)) ((hn []).2 (by rw[←hst];exact hmem))]
  unfold note1;rw[if_pos hm,cP];simp[hst]
def NE(m:zD)(p:G2):Prop:=(∀st∈p.1,st.clause≠[])∨(zT p.2=true∧∃t1 e,p.1=t1++[e]∧(∀st∈t1,st.clause≠[])∧e.clause=[])
section
variable {m:zD}{l:List (List zC)}{d:List zC}
theorem ziA{p:G2}(h:Tr m l d p.1 p.2)(hk:xR m l d){i:Nat}(hi:i<m.cons.length)(hf:zT p.2=false)(hn:NE m p):NE m (XK m i p).1:=by
 have hn:∀st∈p.1,st.clause≠[]:=by
  rcases hn with hn|⟨hn,_⟩
  ·exact hn
  ·rw[hf]at hn;cases hn
 unfold XK
 by_cases hg:zT (yM (yL m i) p.2)=true
 ·rw[if_pos hg]
  by_cases he:iD m i p.2=[]
  ·exact .inr ⟨kB (by rw[h.len];exact hk.mc.pos),p.1,_,rfl,hn,he⟩
  ·refine .inl λst hs=> ?_
   rcases List.mem_append.1 hs with hs|hs
   ·exact hn st hs
   ·rw[List.mem_singleton.1 hs];exact he
 ·rw[if_neg hg]
  refine .inl λst hs=> ?_
  rcases List.mem_append.1 hs with hs|hs
  ·exact hn st hs
  ·obtain⟨v,n,h1,h2,h3,rfl⟩:=YZ.1 hs
   have hgone:WE m i p.2 v n=true:=by
    rw[WE,hf,Int.toNat_natCast];have e1:gI (p.2.getD v []) n=true:=mL.2 h2
    have e2:gI ((yM (yL m i) p.2).getD v []) n=false:=by
     cases e:gI ((yM (yL m i) p.2).getD v []) n
     ·rfl
     ·exact absurd (mL.1 e) h3
    rw[e1,e2];rfl
   show WF m i p.2 v n≠[]
   rw[WF,if_pos hgone,Mm];simp
theorem zar(hk:xR m l d):∀(k i:Nat) (p:G2) (c:Bool),i+k=m.cons.length→Tr m l d p.1 p.2→NE m p→NE m (iR m k i p c).1
 |0,i,p,c,_,_,hn=>hn
 |k+1,i,p,c,hi,h,hn=>by
  rw[iR];cases hf:zT p.2
  ·rw[if_neg (by decide)]
   exact zar hk k (i+1) _ _ (by omega) (L9 h hk (i:=i) (by omega) hf).1 (ziA h hk (by omega) hf hn)
  ·rw[if_pos rfl];exact hn
theorem zeH{p:G2}(h:Tr m l d p.1 p.2)(hk:xR m l d)(hn:NE m p):NE m (kF m l p).1:=by
 obtain⟨i1,_,_,_⟩:=OJ hk m.cons.length 0 p false (Nat.zero_add _) h;have hc:=zar hk m.cons.length 0 p false (Nat.zero_add _) h hn;rw[kF];generalize iR m m.cons.length 0 p false=r at i1 hc⊢
 rcases hc with hc|⟨h1,h2⟩
 ·exact .inl hc
 ·exact .inr ⟨(i1.units hk).2.failed h1,h2⟩
theorem zdq(hk:xR m l d):∀(k:Nat) (p:G2),Tr m l d p.1 p.2→NE m p→NE m (QU m l k p)
 |0,p,_,hn=>hn
 |k+1,p,h,hn=>by
  rw[QU];cases hf:zT p.2
  ·rw[if_neg (by decide)]
   have h1:=(Rt h hk hf).1;have h2:=zeH h hk hn;cases e:(kF m l p).2
   ·rw[if_neg (by decide)];exact h2
   ·rw[if_pos rfl];exact zdq hk k _ h1 h2
  ·rw[if_pos rfl];exact hn
theorem zas(hk:xR m l d):∃t1 t2,fL m l d=t1++t2++[KP d]∧(∀st∈t1,st.clause≠[])∧∀st∈t2,st.clause=[]∧XJ m st:=by
 have hb:=Tr.begin hk;have h1:=(RY hk 36 ([],fw m d) hb (by have:=hb.size;simpa using this)).1
 rcases zdq hk 37 ([],fw m d) hb (.inl λst hs=>by cases hs)with h|⟨_,t1,e,h2,h3,h4⟩
 ·exact⟨_,[],by rw[List.append_nil];rfl,h,λst hs=>by cases hs⟩
 ·refine⟨t1,[e],by rw[fL,h2],h3,λst hs=> ?_⟩
  rw[List.mem_singleton.1 hs];exact⟨h4,h1.ok e (by rw[h2];exact List.mem_append_right _ (List.mem_singleton.2 rfl))⟩
theorem zgT{s:List (List Int)}:fD s []=s:=cL λv n _=>rfl
theorem zeI(hl:yN m l){i:Int}(hi:0≤i∧i<(m.cons.length:Int))(h:nZ m i []=true):sZ m l []=true:=by
 cases hf:sZ m l []
 ·have hf:zT (sQ m true l (xT m))=false:=hf
  have hlen:(xT m).length=m.vars.length:=xI
  have hc:yL m i∈m.cons:=by
   have hj:i.toNat<m.cons.length:=by omega
   rw[yL,yA _ hj];exact List.getElem_mem hj
  have hst:=VH hl hlen hf _ (pB.2 (.inl ⟨rfl,_,hc,rfl⟩));have hm:=(XG hl hc).mono hlen (OL (cons:=true) hl hlen) (by rw[hst];exact hf)
  rw[hst]at hm
  have:=hm.fail hf;rw[nZ,zgT]at h
  rw[h]at this;cases this
 ·rfl
theorem G9(hl:yN m l)(h:sZ m l []=true):fewest m l d=[]:=by
 have hmin:=zai (sZ m l) (KN hl) d;show Bi (sZ m l) d=[]
 generalize Bi (sZ m l) d=r at hmin
 match r,hmin with
 |[],_=>rfl
 |x::r,hmin=>
  have:=hmin 0 (by simp)
  rw[KN hl [] _ (λy hy=>by cases hy) h]at this
  cases this
theorem zgU(hk:xR m l d)(hd:d≠[])(h:sZ m l []=false):∀st∈fL m l d,st.clause≠[]:=by
 obtain⟨t1,t2,e,h1,h2⟩:=zas hk;rw[e];intro st hs;rcases List.mem_append.1 hs with hs|hs
 ·rcases List.mem_append.1 hs with hs|hs
  ·exact h1 st hs
  ·obtain⟨h3,h4⟩:=h2 st hs
   have:=zeI hk.mc h4.con (by rw[←h3];exact h4.by')
   rw[h]at this;cases this
 ·rw[List.mem_singleton.1 hs]
  show d.map iV≠[]
  exact λe=>hd (List.map_eq_nil_iff.1 e)
theorem zck(hk:xR m l []):∃t1 t2,fL m l []=t1++t2∧(∀st∈t1,st.clause≠[])∧t2≠[]∧∀st∈t2,st.clause=[]:=by
 obtain⟨t1,t2,e,h1,h2⟩:=zas hk;refine⟨t1,t2++[KP []],by rw[e,List.append_assoc],h1,by simp,λst hs=> ?_⟩
 rcases List.mem_append.1 hs with hs|hs
 ·exact(h2 st hs).1
 ·rw[List.mem_singleton.1 hs];rfl
end
structure GoR where
 vals:List Int
 verdict:Int
 fuel:Nat
 learned:List (List zC)
 note:rB
noncomputable def mR (m:zD)(l:List (List zC)):List zC:=fewest m l (ow m l).1
noncomputable def nS (m:zD)(l:List (List zC))(p:rB):rB:=qJ (fL m l (mR m l)) p
noncomputable def XN (m:zD):Nat→List (List zC)→List (List zC)→rB→GoR
 |0,g,l,p=>⟨[],3,0,l,p⟩
 |k+1,g,l,p=>if(ow m (g++l)).2.1=true then⟨(ow m (g++l)).2.2,1,k,l,p⟩
  else if mR m (g++l)=[]then⟨[],2,k,l,nS m (g++l) p⟩
  else if 600<l.length+1∨6000<(nS m (g++l) p).1.length then⟨[],3,k,l++[(mR m (g++l)).map iV],nS m (g++l) p⟩
  else XN m k g (l++[(mR m (g++l)).map iV]) (nS m (g++l) p)
structure DX (m:zD)(g l:List (List zC))(p:rB):Prop where
 chk:yR m=0
 gc:∀c∈g,yJ m.vars.length c=0
 lc:∀c∈l,yJ m.vars.length c=0
 glen:g.length≤1
 met:XM p
 right:qB m g p.1=true
 cl:∀st∈p.1,yJ m.vars.length st.clause=0
 con:∀st∈p.1,st.kind=1→0≤st.con∧st.con<(m.cons.length:Int)
 ne:∀st∈p.1,st.clause≠[]
 sub:∀c∈l,c∈uX p.1
section
variable {m:zD}{g l:List (List zC)}{p:rB}
theorem DX.all(h:DX m g l p):∀c∈g++l,yJ m.vars.length c=0:=λc hc=>by
 rcases List.mem_append.1 hc with hc|hc
 ·exact h.gc c hc
 ·exact h.lc c hc
theorem DX.mc(h:DX m g l p):yN m (g++l):=nR h.chk h.all
theorem DX.begin(h:yR m=0):DX m [] [] ([],[]):=⟨h,λc hc=>(by cases hc),λc hc=>(by cases hc),Nat.zero_le _,.nil,rfl,λc hc=>(by cases hc),λc hc=>(by cases hc),λc hc=>(by cases hc),λc hc=>(by cases hc)⟩
structure OM (m:zD)(g:List (List zC))(t:List zS):Prop where
 right:kE m g t=true
 cl:∀st∈t,yJ m.vars.length st.clause=0
 con:∀st∈t,st.kind=1→0≤st.con∧st.con<(m.cons.length:Int)
theorem KT(h:DX m g l p)(hl:l.length≤599){d:List zC}(hc:J0 m (g++l) d):xR m (g++l) d:=by
 have hr:=h.mc.right;have hv:=hr.vars;refine⟨h.chk,by rw[List.length_append];have:=h.glen;omega,h.all,by have:=hc.len;omega,λx hx=> ?_,λx hx=> ?_⟩
 ·obtain⟨o1,o2,o3,o4⟩:=hc.ok x hx
  exact Mo hr ⟨o2,o3⟩ (by omega) o4
 ·obtain⟨o1,o2,o3,o4⟩:=hc.ok x hx
  refine Mo hr (by rw[Ba];exact⟨o2,o3⟩) ?_ ?_
  ·rw[iV,if_neg (by omega),if_neg (by omega),if_pos o1];exact⟨by show(1:Int)≤4;decide,by show(4:Int)≤4;decide⟩
  ·rw[iV,if_neg (by omega),if_neg (by omega),if_pos o1];exact o4
theorem UH(h:DX m g l p)(hl:l.length≤599)(hd:(ow m (g++l)).2.1=false):
  xR m (g++l) (ow m (g++l)).1∧sZ m (g++l) (ow m (g++l)).1=true∧(nS m (g++l) p).1.length≤p.1.length+wJ (xT m)+1∧
  (mR m (g++l)=[]→OM m g (nS m (g++l) p).1)∧
  (mR m (g++l)≠[]→DX m g (l++[(mR m (g++l)).map iV]) (nS m (g++l) p)∧gO m (g++(l++[(mR m (g++l)).map iV]))<gO m (g++l)):=by
 have hmc:=h.mc;have hD:=G7 hmc
 have base:xR m (g++l) (ow m (g++l)).1∧sZ m (g++l) (ow m (g++l)).1=true:=by
  generalize ow m (g++l)=D at hD hd
  cases hD with
  |found d hc hf h1=>cases hd
  |none hf=>exact⟨KT h hl .nil,hf⟩
  |some d v hc hf hv h1 h2 hc' hf'=>exact⟨KT h hl hc',hf'⟩
 obtain⟨hk,hfail⟩:=base;have hkf:xR m (g++l) (mR m (g++l)):=hk.sub UF;have hff:sZ m (g++l) (mR m (g++l))=true:=Mp hfail;have ht:=Ru hkf hff;obtain⟨n1,n2,e,n3,n4⟩:=h.met.notes (t:=fL m (g++l) (mR m (g++l)))
 have hent:Yj (g++uX p.1) (g++l):=.sub λc hc=>by
  rcases List.mem_append.1 hc with hc|hc
  ·exact List.mem_append_left _ hc
  ·exact List.mem_append_right _ (h.sub c hc)
 have hright:=KS h.chk h.gc (fL m (g++l) (mR m (g++l))) p (g++l) h.met h.right h.cl h.all ht.cl hent ht.right
 have hmem:∀st∈(nS m (g++l) p).1,st∈p.1∨st∈fL m (g++l) (mR m (g++l)):=λst hs=>by
  have hs:st∈(qJ (fL m (g++l) (mR m (g++l))) p).1:=hs;rw[n3]at hs
  rcases List.mem_append.1 hs with hs|hs
  ·exact .inl hs
  ·exact .inr (n4.subset hs)
 have hcl:∀st∈(nS m (g++l) p).1,yJ m.vars.length st.clause=0:=λst hs=>(hmem st hs).elim (h.cl st) (ht.cl st)
 have hcon:∀st∈(nS m (g++l) p).1,st.kind=1→0≤st.con∧st.con<(m.cons.length:Int):=λst hs=>(hmem st hs).elim (h.con st) (ht.con st)
 refine⟨hk,hfail,?_,λhf=> ?_,λhf=> ?_⟩
 ·have h1:=n4.length_le
  have h2:=ht.len2;show(qJ _ p).1.length≤_
  rw[n3,List.length_append];omega
 ·refine⟨?_,hcl,hcon⟩
  rw[kE,Bool.and_eq_true];refine⟨hright,?_⟩;show cP (qJ (fL m (g++l) (mR m (g++l))) p).1=true
  rw[hf]at hkf⊢
  obtain⟨t1,t2,e,h1,h2,h3⟩:=zck hkf;rw[e];exact zcj h.met h.ne h1 h2 h3
 ·have hnil:sZ m (g++l) []=false:=by
   cases e:sZ m (g++l) []
   ·rfl
   ·exact absurd (G9 hmc e) hf
  have hne:=zgU hkf hf hnil;have hnog:yJ m.vars.length ((mR m (g++l)).map iV)=0:=DM hkf
  have hlast:(mR m (g++l)).map iV∈uX (nS m (g++l) p).1:=by
   have:=n2 (KP (mR m (g++l))) (by rw[fL];exact List.mem_append_right _ (List.mem_singleton.2 rfl))
   exact this
  have hS:DX m g (l++[(mR m (g++l)).map iV]) (nS m (g++l) p):=by
   refine⟨h.chk,h.gc,λc hc=> ?_,h.glen,n1,hright,hcl,hcon,λst hs=>(hmem st hs).elim (h.ne st) (hne st),λc hc=> ?_⟩
   ·rcases List.mem_append.1 hc with hc|hc
    ·exact h.lc c hc
    ·rw[List.mem_singleton.1 hc];exact hnog
   ·rcases List.mem_append.1 hc with hc|hc
    ·show c∈uX (qJ _ p).1
     rw[n3,pK];exact List.mem_append_left _ (h.sub c hc)
    ·rw[List.mem_singleton.1 hc];exact hlast
  refine⟨hS,?_⟩;have hsub:∀x∈mR m (g++l),x∈(ow m (g++l)).1:=λx hx=>UF.subset hx
  have hne0:(ow m (g++l)).1≠[]:=λe=>hf (by
   have:(mR m (g++l)).Sublist (ow m (g++l)).1:=UF;rw[e]at this;exact List.sublist_nil.1 this)
  have hin:(mR m (g++l)).map iV∈g++(l++[(mR m (g++l)).map iV]):=by simp
  have hE:Yj (g++(l++[(mR m (g++l)).map iV])) (g++l):=.sub λc hc=>by
   rw[←List.append_assoc];exact List.mem_append_left _ hc
  generalize mR m (g++l)=few at hS hsub hin hE hf⊢
  generalize ow m (g++l)=D at hD hd hsub hne0
  cases hD with
  |found d hc hf h1=>cases hd
  |none hf=>exact absurd rfl hne0
  |some d v hc hf hv h1 h2 hc' hf'=>
   obtain⟨a1,a2⟩:=zci hmc hf hv h1 h2;exact zeE hmc hS.mc hE a1 a2 (zeF hmc hc hf hv h1 h2 hsub hS.mc hin)
theorem zcl(hmc:yN m l)(hd:(ow m l).2.1=true):(ow m l).2.2.length=m.vars.length∧XB (ow m l).2.2 (xT m)∧(∀c∈m.cons,wH c (ow m l).2.2=true)∧∀c∈l,sY c (ow m l).2.2=true:=by
 have hD:=G7 hmc;generalize ow m l=D at hD hd
 cases hD with
 |none hf=>cases hd
 |some d v hc hf hv h1 h2 hc' hf'=>cases hd
 |found d hc hf h1=>
  have hlen:(vA m l d).length=m.vars.length:=VL hmc;have hvl:(jD (vA m l d)).length=m.vars.length:=by rw[jD,List.length_map,hlen]
  have hne:=tG.1 hf
  have hrow:∀v:Nat,v<m.vars.length→(vA m l d).getD v []=[(jD (vA m l d)).getD v 0]:=λv hv=>by
   rw[My];exact zgQ (h1 v) (hne v (by omega))
  have hin:XB (jD (vA m l d)) (vA m l d):=⟨hvl.trans hlen.symm,λv hv=>by
   rw[hrow v (by omega)];exact List.mem_singleton.2 rfl⟩
  have huniq:∀us,XB us (vA m l d)→us=jD (vA m l d):=λus hu=>by
   refine S5 (d:=0) (hu.1.trans (hlen.trans hvl.symm)) λv=> ?_
   by_cases hv:v<m.vars.length
   ·have:=hu.2 v (by omega)
    rw[hrow v hv]at this
    exact List.mem_singleton.1 this
   ·rw[sU (by rw[hu.1,hlen];omega),sU (by omega)]
  have hst:=VH hmc iQ hf;have hpos:=hmc.pos
  have hq:∀ {op:Op} {Q:List Int→Bool},Ya m.vars.length op Q→op (vA m l d)=vA m l d→Q (jD (vA m l d))=true:=λho hs=>by
   obtain⟨n,hn⟩:=List.exists_mem_of_ne_nil _ (hne 0 (by omega))
   obtain⟨us,u1,_,u3⟩:=ho.congr (Q':=λ_=>true) hlen (vs:=[]) hs hf 0 n hn
   rw[huniq us u1]at u3;exact u3
  exact⟨hvl,hin.mono (Zs hmc),λc hc=>hq (XG hmc hc) (hst _ (pB.2 (.inl ⟨rfl,c,hc,rfl⟩))),λc hc=>hq (dX hmc hc) (hst _ (pB.2 (.inr ⟨c,hc,rfl⟩)))⟩
theorem zgV{vs:List Int}(hl:vs.length=m.vars.length)(h:XB vs (xT m))(hc:∀c∈m.cons,wH c vs=true):wholeM m vs=true:=by
 have h1:((m.vars.zip vs).any λx=> !jF x.2 x.1.lo x.1.hi)=false:=by
  rw[List.any_eq_false];intro x hx;obtain⟨i,hi,rfl⟩:=List.getElem_of_mem hx;have hi1:i<m.vars.length:=by rw[List.length_zip]at hi;omega
  have hi2:i<vs.length:=by omega
  rw[List.getElem_zip];have:=h.2 i (by rw[xI];exact hi1)
  rw[gN hi1,cQ,yA _ hi2]at this
  show¬(!jF vs[i] m.vars[i].lo m.vars[i].hi)=true
  rw[jF,decide_eq_true this.1,decide_eq_true this.2];decide
 have h2:(m.cons.any λc=> !wH c vs)=false:=by
  rw[List.any_eq_false];exact λc hm=>by rw[hc c hm];decide
 rw[wholeM,h1,h2];rfl
structure WV (m:zD)(g:List (List zC))(vs:List Int):Prop where
 len:vs.length=m.vars.length
 full:XB vs (xT m)
 whole:wholeM m vs=true
 giv:∀c∈g,sY c vs=true
inductive GoX (m:zD)(g:List (List zC))(r:GoR):Prop
 |found (h1:r.verdict=1) (h2:WV m g r.vals) (h3:DX m g r.learned r.note) (h4:r.learned.length+r.fuel≤300):GoX m g r
 |none (h1:r.verdict=2) (h2:r.vals=[]) (h3:OM m g r.note.1):GoX m g r
 |unknown (h1:r.verdict=3) (h2:r.vals=[]):GoX m g r
theorem MA:∀(k:Nat) (l:List (List zC)) (p:rB),DX m g l p→l.length+k≤300→GoX m g (XN m k g l p)
 |0,l,p,_,_=> .unknown rfl rfl
 |k+1,l,p,h,hk=>by
  rw[XN]
  by_cases hd:(ow m (g++l)).2.1=true
  ·rw[if_pos hd]
   obtain⟨f1,f2,f3,f4⟩:=zcl h.mc hd;exact .found rfl ⟨f1,f2,zgV f1 f2 f3,λc hc=>f4 c (List.mem_append_left _ hc)⟩ h (by show l.length+k≤300;omega)
  ·rw[if_neg hd]
   obtain⟨_,_,_,q4,q5⟩:=UH h (by omega) (by simpa using hd)
   by_cases hf:mR m (g++l)=[]
   ·rw[if_pos hf];exact .none rfl rfl (q4 hf)
   ·rw[if_neg hf]
    split
    ·exact .unknown rfl rfl
    ·exact MA k _ _ (q5 hf).1 (by rw[List.length_append,List.length_singleton];omega)
theorem Fa:∀ {s:List (List Int)},(∀r∈s,0<r.length∧r.length≤6)→∃F,2^F≤aY s∧wJ s≤s.length+3*F
 |[],_=>⟨0,Nat.le_refl _,Nat.le_refl _⟩
 |r::s,h=>by
  obtain⟨F,h1,h2⟩:=Fa (s:=s) λx hx=>h x (List.mem_cons_of_mem _ hx)
  obtain⟨h3,h4⟩:=h r (List.mem_cons_self ..);have e:wJ (r::s)=r.length+wJ s:=by simp[wJ]
  rw[e,aY,List.length_cons];rcases Nat.lt_or_ge r.length 2 with h5|h5
  ·refine⟨F,?_,by omega⟩
   rw[show r.length=1 by omega,Nat.one_mul];exact h1
  ·rcases Nat.lt_or_ge r.length 4 with h6|h6
   ·refine⟨F+1,?_,by omega⟩
    have:=Nat.mul_le_mul h5 h1;rw[Nat.pow_succ];omega
   ·refine⟨F+2,?_,by omega⟩
    have:=Nat.mul_le_mul h6 h1;rw[Nat.pow_succ,Nat.pow_succ];omega
theorem Fb(hr:Right m)(h:aY (xT m)≤100):wJ (xT m)≤24:=by
 have hv:=hr.vars
 obtain⟨F,h1,h2⟩:=Fa (s:=xT m) λr hx=>⟨DV hr r hx,by
  obtain⟨i,hi,rfl⟩:=List.getElem_of_mem hx;have:=Rm hr i
  rwa[yA _ hi]at this⟩
 rw[xI]at h2
 have hF:F≤6:=by
  rcases Nat.lt_or_ge 6 F with h3|h3
  ·have:=Nat.pow_le_pow_right (n:=2) (by decide) h3
   have e:2^(6+1)=128:=by decide
   omega
  ·exact h3
 omega
theorem zat(hp:aY (xT m)≤100):∀(k e:Nat) (l:List (List zC)) (p:rB),DX m g l p→l.length+k≤300→gO m (g++l)+e+1≤k→p.1.length+(gO m (g++l)+1)*25≤6000→
  (XN m k g l p).verdict≠3∧(XN m k g l p).note.1.length≤6000∧((XN m k g l p).verdict=1→gO m (g++(XN m k g l p).learned)+e≤(XN m k g l p).fuel∧(XN m k g l p).note.1.length+(gO m (g++(XN m k g l p).learned)+1)*25≤6000)
 |0,e,l,p,_,_,h,_=>by omega
 |k+1,e,l,p,h,hk,ha,hs=>by
  have hsz:=Fb h.mc.right hp;rw[XN]
  by_cases hd:(ow m (g++l)).2.1=true
  ·rw[if_pos hd]
   exact⟨by show(1:Int)≠3;decide,by show p.1.length≤6000;omega,λ_=>⟨by show gO m (g++l)+e≤k;omega,hs⟩⟩
  ·rw[if_neg hd]
   obtain⟨_,_,q3,q4,q5⟩:=UH h (by omega) (by simpa using hd)
   by_cases hf:mR m (g++l)=[]
   ·rw[if_pos hf]
    exact⟨by show(2:Int)≠3;decide,by show(nS m (g++l) p).1.length≤6000;omega,λe=>by cases e⟩
   ·rw[if_neg hf]
    obtain⟨q6,q7⟩:=q5 hf;rw[if_neg (by omega)]
    refine zat hp k e _ _ q6 (by rw[List.length_append,List.length_singleton];omega) (by omega) ?_
    omega
end
inductive zcm (m:zD)(fuel:Nat)(a:D5):Prop
 |found (h1:a.verdict=1) (h2:WV m [] a.values) (h3:a.proof=[]):zcm m fuel a
 |none (h1:a.verdict=2) (h2:a.values=[]) (h3:OM m [] a.proof) (h4:a.proof.length≤6000):zcm m fuel a
 |unknown (h1:a.verdict=3) (h2:a.values=[]) (h3:a.proof=[]) (h4:fuel<300∨100<aY (xT m)):zcm m fuel a
section
variable {m:zD}{g l:List (List zC)}{p:rB}
def sF(m:zD)(vs:List Int):List zC:=if m.goal=1 then[⟨m.var,1,vs.getD m.var.toNat 0-1⟩]else if m.goal=2 then[⟨m.var,2,vs.getD m.var.toNat 0+1⟩]else[]
structure zgW where
 verdict:Int
 best:List Int
 nl:Bool
 given:List (List zC)
 fuel:Nat
 learned:List (List zC)
 note:rB
noncomputable def VN (m:zD):Nat→Nat→List (List zC)→List (List zC)→rB→List Int→Bool→zgW
 |0,k,g,l,p,b,nl=>⟨3,b,nl,g,k,l,p⟩
 |n+1,k,g,l,p,b,nl=>if(XN m k g l p).verdict=3∨(XN m k g l p).verdict=2 then⟨(XN m k g l p).verdict,b,nl,g,(XN m k g l p).fuel,(XN m k g l p).learned,(XN m k g l p).note⟩
  else if m.goal=0 then⟨(XN m k g l p).verdict,(XN m k g l p).vals,false,g,(XN m k g l p).fuel,(XN m k g l p).learned,(XN m k g l p).note⟩
  else VN m n (XN m k g l p).fuel [sF m (XN m k g l p).vals] (XN m k g l p).learned (XN m k g l p).note (XN m k g l p).vals false
noncomputable def tW (m:zD)(fuel:Nat):zgW:=VN m (fuel+1) fuel [] [] ([],[]) [] true
noncomputable def Fc (m:zD)(fuel:Nat):D5:=
 if m.goal=0∧(tW m fuel).verdict=1 then⟨1,(tW m fuel).best,[]⟩
 else if(tW m fuel).verdict=3∨6000<(tW m fuel).note.1.length then⟨3,[],[]⟩
 else if(tW m fuel).nl=true then⟨2,[],(tW m fuel).note.1⟩
 else⟨1,(tW m fuel).best,(tW m fuel).note.1⟩
theorem aS(hr:Right m)(h:m.goal≠0):(m.goal=1∨m.goal=2)∧0≤m.var∧m.var<(m.vars.length:Int):=by
 have hg:=hr.goal;unfold Yu at hg
 split at hg
 ·cases hg
 ·rename_i h1
  split at hg
  ·cases hg
  ·split at hg
   ·cases hg
   ·rename_i h3
    have h1:jF m.goal 0 2=true:=by simpa using h1
    rw[jF,Bool.and_eq_true,decide_eq_true_iff,decide_eq_true_iff]at h1
    have h3:¬rA m.vars.length m.var=true:=λe=>h3 ⟨h,e⟩
    have h4:rA m.vars.length m.var=false:=by simpa using h3
    refine⟨by omega,?_⟩
    have h4:jF m.var 0 ((m.vars.length:Int)-1)=true:=by simpa[rA]using h4
    rw[jF,Bool.and_eq_true,decide_eq_true_iff,decide_eq_true_iff]at h4
    omega
theorem Ip(hr:Right m)(h:m.goal≠0)(vs:List Int):∃x:zC,sF m vs=[x]∧x.var=m.var∧1≤x.op∧x.op≤4∧vs.getD m.var.toNat 0-1≤x.n∧x.n≤vs.getD m.var.toNat 0+1∧holdsL x (vs.getD m.var.toNat 0)=false:=by
 obtain⟨h1|h1,_⟩:=aS hr h
 ·rw[sF,if_pos h1]
  refine⟨_,rfl,rfl,by show(1:Int)≤1;decide,by show(1:Int)≤4;decide,Int.le_refl _,by show vs.getD m.var.toNat 0-1≤_;omega,?_⟩
  rw[holdsL,if_pos rfl];exact decide_eq_false (by show¬vs.getD m.var.toNat 0≤vs.getD m.var.toNat 0-1;omega)
 ·rw[sF,if_neg (by omega),if_pos h1]
  refine⟨_,rfl,rfl,by show(1:Int)≤2;decide,by show(2:Int)≤4;decide,by show vs.getD m.var.toNat 0-1≤vs.getD m.var.toNat 0+1;omega,Int.le_refl _,?_⟩
  rw[holdsL,if_neg (by show¬(2:Int)=1;decide),if_pos rfl];exact decide_eq_false (by show¬vs.getD m.var.toNat 0+1≤vs.getD m.var.toNat 0;omega)
theorem MB(hr:Right m)(h:m.goal≠0){vs:List Int}(hv:XB vs (xT m)):yJ m.vars.length (sF m vs)=0:=by
 obtain⟨x,e,x1,x2,x3,x4,x5,_⟩:=Ip hr h vs;obtain⟨_,g2,g3⟩:=aS hr h;rw[e];refine OH (by show 1≤40;decide) λy hy=> ?_
 rw[List.mem_singleton.1 hy];have hvl:m.var.toNat<m.vars.length:=by omega
 have:=hv.2 m.var.toNat (by rw[xI];exact hvl)
 rw[gN hvl,cQ]at this
 have hb:=hr.var _ (List.getElem_mem hvl);exact oz.2 ⟨by rw[x1];exact⟨g2,g3⟩,⟨x2,x3⟩,by omega⟩
theorem XO(hr:Right m)(h:m.goal≠0){vs us:List Int}:sY (sF m vs) us=true↔(m.goal=1∧us.getD m.var.toNat 0<vs.getD m.var.toNat 0)∨(m.goal=2∧vs.getD m.var.toNat 0<us.getD m.var.toNat 0):=by
 obtain⟨h1|h1,_⟩:=aS hr h
 ·rw[sF,if_pos h1,sY,List.any_cons,List.any_nil,Bool.or_false,holdsL,if_pos rfl,decide_eq_true_iff]
  show us.getD m.var.toNat 0≤vs.getD m.var.toNat 0-1↔_
  omega
 ·rw[sF,if_neg (by omega),if_pos h1,sY,List.any_cons,List.any_nil,Bool.or_false,holdsL,if_neg (by show¬(2:Int)=1;decide),if_pos rfl,decide_eq_true_iff]
  show vs.getD m.var.toNat 0+1≤us.getD m.var.toNat 0↔_
  omega
def Fd(m:zD)(g:List (List zC)):Nat:=(((xT m).getD m.var.toNat []).filter λn=>g.all λc=>c.any λx=>holdsL x n).length
inductive zcn (m:zD):List (List zC)→List Int→Bool→Prop
 |none:zcn m [] [] true
 |some (vs:List Int) (h:WV m [] vs) (hg:m.goal≠0):zcn m [sF m vs] vs false
theorem Fe(hr:Right m)(hgoal:m.goal≠0){b vs:List Int}{nl:Bool}(hg:zcn m g b nl)(hf:WV m g vs):Yj [sF m vs] g∧Fd m [sF m vs]<Fd m g:=by
 obtain⟨g1,g2,g3⟩:=aS hr hgoal;have hvl:m.var.toNat<m.vars.length:=by omega
 have hin:=hf.full.2 m.var.toNat (by rw[xI];exact hvl)
 obtain⟨x,ex,x1,_,_,_,_,x6⟩:=Ip hr hgoal vs
 have hE:Yj [sF m vs] g:=by
  cases hg with
  |none=>exact λc hc=>by cases hc
  |some _ hb _=>
   intro c hc;refine⟨_,List.mem_singleton.2 rfl,λus hu=> ?_⟩
   rw[List.mem_singleton.1 hc];have h1:=(XO hr hgoal).1 (hf.giv _ (List.mem_singleton.2 rfl));have h2:=(XO hr hgoal).1 hu;exact(XO hr hgoal).2 (by omega)
 refine⟨hE,?_⟩
 have one:∀(x:zC) (n:Int),x.var=m.var→(sY [x] (List.replicate m.var.toNat 0++[n])=holdsL x n):=λx n hx=>by
  rw[sY,List.any_cons,List.any_nil,Bool.or_false,hx]
  congr 1
  rw[List.getD_eq_getElem?_getD,List.getElem?_append_right (by simp)]
  simp
 unfold Fd;refine(RZ λn hn h=> ?_).2 ⟨_,hin,?_,?_⟩
 ·cases hg with
  |none=>rfl
  |some _ hb _=>
   obtain⟨y,ey,y1,_⟩:=Ip hr hgoal b;rw[ex]at h
   rw[ey];have h:holdsL x n=true:=by simpa using h
   have h1:sY (sF m vs) (List.replicate m.var.toNat 0++[n])=true:=by rw[ex,one x n x1];exact h
   obtain⟨c',hc',e⟩:=hE (sF m b) (List.mem_singleton.2 rfl);rw[List.mem_singleton.1 hc']at e
   have h2:=e _ h1;rw[ey,one y n y1]at h2
   simpa using h2
 ·cases hg with
  |none=>rfl
  |some _ hb _=>
   obtain⟨y,ey,y1,_⟩:=Ip hr hgoal b;have:=hf.giv _ (List.mem_singleton.2 rfl);rw[ey,sY,List.any_cons,List.any_nil,Bool.or_false,y1]at this
   rw[ey];simpa using this
 ·rw[ex];simpa using x6
theorem DX.give(h:DX m g l p){g':List (List zC)}(hg:∀c∈g',yJ m.vars.length c=0)(hl:g'.length≤1)(he:Yj g' g):DX m g' l p:=
 ⟨h.chk,hg,h.lc,hl,h.met,G4 h.chk h.gc hg h.cl he h.right,h.cl,h.con,h.ne,h.sub⟩
inductive zau (m:zD)(r:zgW):Prop
 |any (h0:m.goal=0) (h1:r.verdict=1) (h2:WV m [] r.best):zau m r
 |none (h1:r.verdict=2) (h2:zcn m r.given r.best r.nl) (h3:OM m r.given r.note.1):zau m r
 |unknown (h1:r.verdict=3):zau m r
theorem R0{vs:List Int}(h:WV m g vs):WV m [] vs:=⟨h.len,h.full,h.whole,λc hc=>by cases hc⟩
theorem Ff:∀(n k:Nat) (g l:List (List zC)) (p:rB) (b:List Int) (nl:Bool),DX m g l p→zcn m g b nl→l.length+k≤300→zau m (VN m n k g l p b nl)
 |0,k,g,l,p,b,nl,_,_,_=> .unknown rfl
 |n+1,k,g,l,p,b,nl,h,hg,hk=>by
  have h1:=MA k l p h hk;rw[VN];generalize XN m k g l p=r at h1
  cases h1 with
  |unknown q1 q2=>rw[if_pos (.inl q1)];exact .unknown q1
  |none q1 q2 q3=>rw[if_pos (.inr q1)];exact .none q1 hg q3
  |found q1 q2 q3 q4=>
   rw[if_neg (by rw[q1];decide)]
   by_cases h0:m.goal=0
   ·rw[if_pos h0];exact .any h0 q1 (R0 q2)
   ·rw[if_neg h0]
    have hr:=h.mc.right;obtain⟨e1,e2⟩:=Fe hr h0 hg q2;have hc:∀c∈[sF m r.vals],yJ m.vars.length c=0:=λc hc=>by rw[List.mem_singleton.1 hc];exact MB hr h0 q2.full
    exact Ff n _ _ _ _ _ _ (q3.give hc (Nat.le_refl _) e1) (.some _ (R0 q2) h0) q4
theorem Fg(hp:aY (xT m)≤100):∀(n k:Nat) (g l:List (List zC)) (p:rB) (b:List Int) (nl:Bool),DX m g l p→zcn m g b nl→l.length+k≤300→gO m (g++l)+Fd m g+1≤k→Fd m g+1≤n→p.1.length+(gO m (g++l)+1)*25≤6000→
  (VN m n k g l p b nl).verdict≠3∧(VN m n k g l p b nl).note.1.length≤6000
 |0,k,g,l,p,b,nl,_,_,_,_,h,_=>by omega
 |n+1,k,g,l,p,b,nl,h,hg,hk,ha,hn,hs=>by
  have h1:=MA k l p h hk;obtain⟨e1,e2,e3⟩:=zat hp k (Fd m g) l p h hk ha hs;rw[VN];generalize XN m k g l p=r at h1 e1 e2 e3
  cases h1 with
  |unknown q1 q2=>exact absurd q1 e1
  |none q1 q2 q3=>rw[if_pos (.inr q1)];exact⟨e1,e2⟩
  |found q1 q2 q3 q4=>
   rw[if_neg (by rw[q1];decide)]
   by_cases h0:m.goal=0
   ·rw[if_pos h0];exact⟨e1,e2⟩
   ·rw[if_neg h0]
    have hr:=h.mc.right;obtain⟨f1,f2⟩:=Fe hr h0 hg q2;obtain⟨e4,e5⟩:=e3 q1;have hc:∀c∈[sF m r.vals],yJ m.vars.length c=0:=λc hc=>by rw[List.mem_singleton.1 hc];exact MB hr h0 q2.full
    have hS:=q3.give hc (Nat.le_refl _) f1;have hal:=zeD q3.mc hS.mc (f1.app (.refl r.learned));exact Fg hp n _ _ _ _ _ _ hS (.some _ (R0 q2) h0) q4 (by omega) (by omega) (by omega)
inductive Fh (m:zD)(fuel:Nat)(a:D5):Prop
 |any (h0:m.goal=0) (h1:a.verdict=1) (h2:WV m [] a.values) (h3:a.proof=[]):Fh m fuel a
 |best (h0:m.goal≠0) (h1:a.verdict=1) (h2:WV m [] a.values) (h3:OM m [sF m a.values] a.proof) (h4:a.proof.length≤6000):Fh m fuel a
 |none (h1:a.verdict=2) (h2:a.values=[]) (h3:OM m [] a.proof) (h4:a.proof.length≤6000):Fh m fuel a
 |unknown (h1:a.verdict=3) (h2:a.values=[]) (h3:a.proof=[]) (h4:fuel<300∨100<aY (xT m)):Fh m fuel a
theorem DY(hm:yR m=0){fuel:Nat}(hf:fuel≤300):Fh m fuel (Fc m fuel):=by
 have hb:=DX.begin hm;have hr:=hb.mc.right;have h1:zau m (tW m fuel):=Ff (fuel+1) fuel [] [] ([],[]) [] true hb .none (by simpa using hf)
 have h2:¬(fuel<300∨100<aY (xT m))→(tW m fuel).verdict≠3∧(tW m fuel).note.1.length≤6000:=λhn=>by
  have ha:=zch (l:=[]++[]) hr
  have hl:Fd m []≤6:=by
   have:=Rm hr m.var.toNat;exact Nat.le_trans (List.length_filter_le ..) this
  exact Fg (by omega) (fuel+1) fuel [] [] ([],[]) [] true hb .none (by simpa using hf) (by omega) (by omega) (by show 0+_≤_;omega)
 rw[Fc];generalize tW m fuel=r at h1 h2
 have unk:(r.verdict=3∨6000<r.note.1.length)→(fuel<300∨100<aY (xT m)):=λh=>by
  by_cases hn:fuel<300∨100<aY (xT m)
  ·exact hn
  ·obtain⟨a,b⟩:=h2 hn
   rcases h with h|h
   ·exact absurd h a
   ·omega
 cases h1 with
 |any q0 q1 q2=>rw[if_pos ⟨q0,q1⟩];exact .any q0 rfl q2 rfl
 |unknown q1=>
  rw[if_neg (by rw[q1];rintro⟨_,h⟩;cases h),if_pos (.inl q1)]
  exact .unknown rfl rfl rfl (unk (.inl q1))
 |none q1 q2 q3=>
  rw[if_neg (by rw[q1];rintro⟨_,h⟩;cases h)]
  by_cases hs:6000<r.note.1.length
  ·rw[if_pos (.inr hs)];exact .unknown rfl rfl rfl (unk (.inr hs))
  ·rw[if_neg (by rw[q1];rintro(h|h);cases h;exact hs h)]
   generalize e1:r.given=g at q2 q3
   generalize e2:r.best=b at q2
   generalize e3:r.nl=nl at q2
   cases q2 with
   |none=>rw[if_pos rfl];exact .none rfl rfl q3 (by show r.note.1.length≤6000;omega)
   |some vs hv h0=>rw[if_neg (by decide)];exact .best h0 rfl hv q3 (by show r.note.1.length≤6000;omega)
end
theorem zeJ{x:zC}(h1:yQ x.var)(h2:yQ x.op)(h3:yQ x.n):(Bp x).size≤66:=by
 have a:=kA h1;have b:=kA h2;have c:=kA h3;simp only[Bp,ByteArray.size_append];show _+1+_+1+_+1≤66
 omega
def Rw:xP:= {own:=[],live:=[],n:=17,first:=true}
theorem J1(b:zD)(a:Int)(R:xK):FD Rw Tryz.f70 [dM b,dI a] R=
 (yY tI [dM b] .int λc=>
 zP (!decide (c=0))
 (R (dI c))
 (zP (decide (a<0))
 (R (dI 3))
 (zP (decide (300<a))
 (R (dI 3))
 (R (dI 0))))):=by kernel_rfl
theorem Kc(a:zD)(b:Int):xL Rw Tryz.f70 bE [dM a,dI b]:=xO Tryz.func70 (by kernel_rfl) Tryz.ntmps70 rfl
def MC:xP:= {own:=[4,7,9],live:=[],n:=10,first:=true}
theorem Ey(a:zD)(b:Int)(R:oB):FH MC Tryz.f71 [dM a,dI b] [] [] true R=
 (R (.ptr 3000 0) [(3000,.cells (Sn a [.sl (.list .lit) ([]:List (List zC)),dI b,.nil,.nil,.own 3001])),(3001,.mp .str .int ([]:List (ByteArray×Int)))]):=by kernel_rfl
theorem Fi(a:zD)(b:Int):o9 MC Tryz.f71 YG [dM a,dI b] [] [] true:=nV Tryz.func71 (by kernel_rfl) Tryz.ntmps71 rfl
def cR:xP:= {own:=[],live:=[],n:=14,first:=true}
theorem WW(b:List zO)(c:List zF)(d e:Int)(f:List (List zC))(g:Int)(h:List (List zC))(a:List zS)(i:List (ByteArray×Int))(R:oB):FH cR Tryz.f73 [.ptr 1000 0] [(1000,.cells [.sl .var b,.sl .con c,dI d,dI e,.sl (.list .lit) f,dI g,.own 2000,.own 2001,.own 1001]),(2000,.row 53 (.list .lit) h),(2001,.row 129 .step a),(1001,.mp .str .int i)] [.ptr 1000 0] false R=
 (R (.tup [.sl .step a,dB (decide ((a.length:Int)≤6000))]) [(1000,.cells [.sl .var b,.sl .con c,dI d,dI e,.sl (.list .lit) f,dI g,.own 2000,.sl .step a,.own 1001]),(2000,.row 53 (.list .lit) h),(1001,.mp .str .int i)]):=by kernel_rfl
theorem X4(a:List zO)(b:List zF)(c d:Int)(e:List (List zC))(f:Int)(g:List (List zC))(h:List zS)(i:List (ByteArray×Int)):o9 cR Tryz.f73 uZ [.ptr 1000 0] [(1000,.cells [.sl .var a,.sl .con b,dI c,dI d,.sl (.list .lit) e,dI f,.own 2000,.own 2001,.own 1001]),(2000,.row 53 (.list .lit) g),(2001,.row 129 .step h),(1001,.mp .str .int i)] [.ptr 1000 0] false:=nV Tryz.func73 (by kernel_rfl) Tryz.ntmps73 rfl
def gP:xP:= {own:=[60],live:=[(0,([0],[1000,1001,2000,2001]))],n:=77,first:=true}
def oR(R:oB)(a:Nat)(b:List zO)(c:List zF)(d e:Int)(f:List (List zC))(g:Int)(h:List (ByteArray×Int))(i:List (List zC))(j:List zS):Prop:=LP gP Tryz.f83 [1,0,0] 0 a ⟨[(0,.ptr 1000 0)],[(1000,.cells [.sl .var b,.sl .con c,dI d,dI e,.sl (.list .lit) f,dI g,.own 2000,.own 2001,.own 1001]),(1001,.mp .str .int h),(2000,.row 53 (.list .lit) i),(2001,.row 129 .step j)]⟩ (zQ 0 (eH Tryz.f83 [.ptr 1000 0] false R))
theorem eM(R:oB)(n:Nat)(a:List zO)(b:List zF)(c d:Int)(g:List (List zC))(f:Int)(h:List (ByteArray×Int))(e:List (List zC))(i:List zS):oR R (n+1) a b c d g f h e i=
 (zP (decide (f=0))
 (R (.tup [.sl .int ([]:List Int),dI 3]) [(1000,.cells [.sl .var a,.sl .con b,dI c,dI d,.sl (.list .lit) g,dI f,.own 2000,.own 2001,.own 1001]),(2000,.row 53 (.list .lit) e),(2001,.row 129 .step i),(1001,.mp .str .int h)])
 (∃o:List zC,∃q:Bool,∃r:List Int,xD pZ [.ptr 1000 0] [(1000,.cells [.sl .var a,.sl .con b,dI c,dI d,.sl (.list .lit) g,dI (yW (f-1)),.own 2000,.own 2001,.own 1001]),(2000,.row 53 (.list .lit) e),(2001,.row 129 .step i),(1001,.mp .str .int h)] (.tup [.slN .lit o q,.sl .int r]) [(1000,.cells [.sl .var a,.sl .con b,dI c,dI d,.sl (.list .lit) g,dI (yW (f-1)),.own 2000,.own 2001,.own 1001]),(2000,.row 53 (.list .lit) e),(2001,.row 129 .step i),(1001,.mp .str .int h)]∧
 zP q
 (R (.tup [.sl .int r,dI 1]) [(1000,.cells [.sl .var a,.sl .con b,dI c,dI d,.sl (.list .lit) g,dI (yW (f-1)),.own 2000,.own 2001,.own 1001]),(2000,.row 53 (.list .lit) e),(2001,.row 129 .step i),(1001,.mp .str .int h)])
 ((λp:Prop=>((p)∧p))
 (∃s:List (List zC),xD sA [.ptr 1000 0] [(1000,.cells [.sl .var a,.sl .con b,dI c,dI d,.sl (.list .lit) g,dI (yW (f-1)),.own 2000,.own 2001,.own 1001]),(2000,.row 53 (.list .lit) e),(2001,.row 129 .step i),(1001,.mp .str .int h)] (.sl (.list .lit) s) [(1000,.cells [.sl .var a,.sl .con b,dI c,dI d,.sl (.list .lit) g,dI (yW (f-1)),.own 2000,.own 2001,.own 1001]),(2000,.row 53 (.list .lit) e),(2001,.row 129 .step i),(1001,.mp .str .int h)]∧
 Q3 bG [.agg [.sl .var a,.sl .con b,dI c,dI d],.sl (.list .lit) s,.sl .lit o] (.list .lit) .bool λm v=>
 (λp:Prop=>((p)∧p))
 (∃t:List (List zC),xD sA [.ptr 1000 0] [(1000,.cells [.sl .var a,.sl .con b,dI c,dI d,.sl (.list .lit) g,dI (yW (f-1)),.own 2000,.own 2001,.own 1001]),(2000,.row 53 (.list .lit) e),(2001,.row 129 .step i),(1001,.mp .str .int h)] (.sl (.list .lit) t) [(1000,.cells [.sl .var a,.sl .con b,dI c,dI d,.sl (.list .lit) g,dI (yW (f-1)),.own 2000,.own 2001,.own 1001]),(2000,.row 53 (.list .lit) e),(2001,.row 129 .step i),(1001,.mp .str .int h)]∧
 yY Zx [.agg [.sl .var a,.sl .con b,dI c,dI d],.sl (.list .lit) t,.sl .lit m] (.list .step) λu=>
 ∃j:List zS,∃k:List (ByteArray×Int),xD oa [.ptr 1000 0,.sl .step u] [(1000,.cells [.sl .var a,.sl .con b,dI c,dI d,.sl (.list .lit) g,dI (yW (f-1)),.own 2000,.own 2001,.own 1001]),(2000,.row 53 (.list .lit) e),(2001,.row 129 .step i),(1001,.mp .str .int h)] (.tup []) [(1000,.cells [.sl .var a,.sl .con b,dI c,dI d,.sl (.list .lit) g,dI (yW (f-1)),.own 2000,.own 2001,.own 1001]),(2000,.row 53 (.list .lit) e),(2001,.row 129 .step j),(1001,.mp .str .int k)]∧
 zP (decide ((m.length:Int)=0))
 (R (.tup [.sl .int ([]:List Int),dI 2]) [(1000,.cells [.sl .var a,.sl .con b,dI c,dI d,.sl (.list .lit) g,dI (yW (f-1)),.own 2000,.own 2001,.own 1001]),(2000,.row 53 (.list .lit) e),(2001,.row 129 .step j),(1001,.mp .str .int k)])
 (yY hM [.sl .lit m] (.list .lit) λl=>
 wD (.list .lit) (e.length+([l]).length)=true∧zP (decide (600<((e++([l])).length:Int)))
 (R (.tup [.sl .int ([]:List Int),dI 3]) [(1000,.cells [.sl .var a,.sl .con b,dI c,dI d,.sl (.list .lit) g,dI (yW (f-1)),.own 2000,.own 2001,.own 1001]),(2000,.row 53 (.list .lit) (e++([l]))),(2001,.row 129 .step j),(1001,.mp .str .int k)])
 (zP (decide (6000<(j.length:Int)))
 (R (.tup [.sl .int ([]:List Int),dI 3]) [(1000,.cells [.sl .var a,.sl .con b,dI c,dI d,.sl (.list .lit) g,dI (yW (f-1)),.own 2000,.own 2001,.own 1001]),(2000,.row 53 (.list .lit) (e++([l]))),(2001,.row 129 .step j),(1001,.mp .str .int k)])
 (oR R n a b c d g (yW (f-1)) k (e++([l])) j)))))))):=by kernel_rfl
theorem TP(a:List zO)(b:List zF)(c d:Int)(e:List (List zC))(f:Int)(g:List (List zC))(h:List zS)(i:List (ByteArray×Int))(R:oB):FH gP Tryz.f83 [.ptr 1000 0] [(1000,.cells [.sl .var a,.sl .con b,dI c,dI d,.sl (.list .lit) e,dI f,.own 2000,.own 2001,.own 1001]),(2000,.row 53 (.list .lit) g),(2001,.row 129 .step h),(1001,.mp .str .int i)] [.ptr 1000 0] false R=
 (∃n0,oR R n0 a b c d e f i g h):=by kernel_rfl
theorem UI(a:List zO)(b:List zF)(c d:Int)(e:List (List zC))(f:Int)(g:List (List zC))(h:List zS)(i:List (ByteArray×Int)):o9 gP Tryz.f83 oX [.ptr 1000 0] [(1000,.cells [.sl .var a,.sl .con b,dI c,dI d,.sl (.list .lit) e,dI f,.own 2000,.own 2001,.own 1001]),(2000,.row 53 (.list .lit) g),(2001,.row 129 .step h),(1001,.mp .str .int i)] [.ptr 1000 0] false:=nV Tryz.func83 (by kernel_rfl) Tryz.ntmps83 rfl
def wP:xP:= {own:=[7,8,11,15,45,59],live:=[(0,([0,4,5,6],[15,1000,1001,2000,2001])),(2,([0,8,34,35,36],[8,1000,1001,2000,2001]))],n:=71,nn:=[2,15],first:=true}
def pN(b:List (ByteArray×Int))(R:oB)(c:Nat)(a:List (List Int))(d:List zO)(e:List zF)(f g:Int)(h:List (List zC))(i:Int)(j:Nat)(k:Int)(l:List Int)(m:List (List zC))(n:List zS):Prop:=LP wP Tryz.f130 [1,1,1,1,0,0,0,1,0,1,0,1,0,1,0,1,0,0] 2 j ⟨[(0,.ptr 1000 0),(8,.own 8),(34,dS a),(35,dI (a.length:Int)),(36,dI k)],[(8,.row 3 .int l),(1000,.cells [.sl .var d,.sl .con e,dI f,dI g,.sl (.list .lit) h,dI i,.own 2000,.own 2001,.own 1001]),(1001,.mp .str .int b),(2000,.row 53 (.list .lit) m),(2001,.row 129 .step n)]⟩ (zQ 2 (sK wP Tryz.f130 [1,1,1,1,0,0,0,1,0,1,0,1,0,1,1] 1 (sK wP Tryz.f130 [1,1,1,1,0,0,0,1,0,1,1] 1 (zQ 1 (iK wP Tryz.f130 [1,1,1,1,0,0,0] 0 c (zQ 0 (sK wP Tryz.f130 [1,1,1,1,1] 0 (eH Tryz.f130 [.ptr 1000 0] false R))))))))
def pO(a:List (ByteArray×Int))(R:oB)(b:List (List zC))(c:Nat)(d:List (List Int))(e:List zC)(f:List zO)(g:List zF)(h i:Int)(j:List (List zC))(k:Int)(l:List (List zC))(m:List zS):Prop:=LP wP Tryz.f130 [1,1,1,1,0,0,0] 0 c ⟨[(0,.ptr 1000 0),(4,.sl (.list .lit) b),(5,.ownN 15),(6,dS d)],[(15,.row 114 .lit e),(1000,.cells [.sl .var f,.sl .con g,dI h,dI i,.sl (.list .lit) j,dI k,.own 2000,.own 2001,.own 1001]),(1001,.mp .str .int a),(2000,.row 53 (.list .lit) l),(2001,.row 129 .step m)]⟩ (zQ 0 (sK wP Tryz.f130 [1,1,1,1,1] 0 (eH Tryz.f130 [.ptr 1000 0] false R)))
theorem XP(d:List (ByteArray×Int))(R:oB)(m:Nat)(a:List (List Int))(e:List zO)(f:List zF)(g h:Int)(i:List (List zC))(j:Int)(n:Nat)(b:Int)(c:List Int)(k:List (List zC))(l:List zS):pN d R m a e f g h i j (n+1) b c k l=
 (zP (decide (b<(a.length:Int)))
 (wI b a.length=true∧wI 0 (zR (.list .int) a b.toNat).length=true∧wD .int (c.length+([zR .int (zR (.list .int) a b.toNat) 0]).length)=true∧pN d R m a e f g h i j n (yW (b+1)) (c++([zR .int (zR (.list .int) a b.toNat) 0])) k l)
 (R (.tup [.slN .lit ([]:List zC) true,.sl .int c]) [(1000,.cells [.sl .var e,.sl .con f,dI g,dI h,.sl (.list .lit) i,dI j,.own 2000,.own 2001,.own 1001]),(2000,.row 53 (.list .lit) k),(2001,.row 129 .step l),(1001,.mp .str .int d)])):=by kernel_rfl
theorem XQ(h:List (ByteArray×Int))(R:oB)(m:List (List zC))(n:Nat)(b:List (List Int))(c:List zC)(d:List zO)(e:List zF)(f g:Int)(i:List (List zC))(j:Int)(k:List (List zC))(l:List zS):pO h R m (n+1) b c d e f g i j k l=
 (yY yT [dS b] .bool λo=>
 zP (!o)
 (yY Zy [dS b] .int λa=>
 zP (decide (a<0))
 (∃n2,pN h R n b d e f g i j n2 0 ([]:List Int) k l)
 ((λp:Prop=>((((wI a b.length=true∧wI 0 (zR (.list .int) b a.toNat).length=true∧wD .lit (c.length+([(⟨a,3,zR .int (zR (.list .int) b a.toNat) 0⟩:zC)]).length)=true∧p)∧wI a b.length=true∧wI 0 (zR (.list .int) b a.toNat).length=true∧wD .lit (c.length+([(⟨a,3,zR .int (zR (.list .int) b a.toNat) 0⟩:zC)]).length)=true∧p))∧(wI a b.length=true∧wI 0 (zR (.list .int) b a.toNat).length=true∧((wD .lit (c.length+([(⟨a,3,zR .int (zR (.list .int) b a.toNat) 0⟩:zC)]).length)=true∧p)∧wD .lit (c.length+([(⟨a,3,zR .int (zR (.list .int) b a.toNat) 0⟩:zC)]).length)=true∧p))∧wI a b.length=true∧wI 0 (zR (.list .int) b a.toNat).length=true∧wD .lit (c.length+([(⟨a,3,zR .int (zR (.list .int) b a.toNat) 0⟩:zC)]).length)=true∧p))
 (yY uR [dS b,.clo qW none [.iptr [dI a] 0,.iptr [dI a,dI 3,dI (zR .int (zR (.list .int) b a.toNat) 0)] 0]] (.list (.list .int)) λq=>
 yY jI [.agg [.sl .var d,.sl .con e,dI f,dI g],dS q,dB true,.sl (.list .lit) m] (.list (.list .int)) λr=>
 pO h R m n r (c++([(⟨a,3,zR .int (zR (.list .int) b a.toNat) 0⟩:zC)])) d e f g i j k l)))
 (R (.tup [.slN .lit c false,.sl .int ([]:List Int)]) [(1000,.cells [.sl .var d,.sl .con e,dI f,dI g,.sl (.list .lit) i,dI j,.own 2000,.own 2001,.own 1001]),(2000,.row 53 (.list .lit) k),(2001,.row 129 .step l),(1001,.mp .str .int h)])):=by kernel_rfl
theorem VO(a:List zO)(b:List zF)(c d:Int)(e:List (List zC))(f:Int)(g:List (List zC))(h:List zS)(i:List (ByteArray×Int))(R:oB):FH wP Tryz.f130 [.ptr 1000 0] [(1000,.cells [.sl .var a,.sl .con b,dI c,dI d,.sl (.list .lit) e,dI f,.own 2000,.own 2001,.own 1001]),(2000,.row 53 (.list .lit) g),(2001,.row 129 .step h),(1001,.mp .str .int i)] [.ptr 1000 0] false R=
 (∃j:List (List zC),xD sA [.ptr 1000 0] [(1000,.cells [.sl .var a,.sl .con b,dI c,dI d,.sl (.list .lit) e,dI f,.own 2000,.own 2001,.own 1001]),(2000,.row 53 (.list .lit) g),(2001,.row 129 .step h),(1001,.mp .str .int i)] (.sl (.list .lit) j) [(1000,.cells [.sl .var a,.sl .con b,dI c,dI d,.sl (.list .lit) e,dI f,.own 2000,.own 2001,.own 1001]),(2000,.row 53 (.list .lit) g),(2001,.row 129 .step h),(1001,.mp .str .int i)]∧
 yY oY [.agg [.sl .var a,.sl .con b,dI c,dI d]] (.list (.list .int)) λk=>
 yY jI [.agg [.sl .var a,.sl .con b,dI c,dI d],dS k,dB true,.sl (.list .lit) j] (.list (.list .int)) λl=>
 ∃n0,pO i R j n0 l ([]:List zC) a b c d e f g h):=by kernel_rfl
theorem WX(a:List zO)(b:List zF)(c d:Int)(e:List (List zC))(f:Int)(g:List (List zC))(h:List zS)(i:List (ByteArray×Int)):o9 wP Tryz.f130 pZ [.ptr 1000 0] [(1000,.cells [.sl .var a,.sl .con b,dI c,dI d,.sl (.list .lit) e,dI f,.own 2000,.own 2001,.own 1001]),(2000,.row 53 (.list .lit) g),(2001,.row 129 .step h),(1001,.mp .str .int i)] [.ptr 1000 0] false:=nV Tryz.func130 (by kernel_rfl) Tryz.ntmps130 rfl
def Zf:xP:= {own:=[3,8,13],live:=[],n:=14,first:=true}
theorem UJ(c:List zO)(d:List zF)(e f:Int)(a:List (List zC))(g:Int)(b:List (List zC))(h:List zS)(i:List (ByteArray×Int))(R:oB):FH Zf Tryz.f132 [.ptr 1000 0] [(1000,.cells [.sl .var c,.sl .con d,dI e,dI f,.sl (.list .lit) a,dI g,.own 2000,.own 2001,.own 1001]),(2000,.row 53 (.list .lit) b),(2001,.row 129 .step h),(1001,.mp .str .int i)] [.ptr 1000 0] false R=
 ((λp:Prop=>((((((wD (.list .lit) (([]:List (List zC)).length+a.length)=true∧wD (.list .lit) ((([]:List (List zC))++a).length+b.length)=true∧p)∧wD (.list .lit) (([]:List (List zC)).length+a.length)=true∧wD (.list .lit) ((([]:List (List zC))++a).length+b.length)=true∧p))∧wD (.list .lit) (([]:List (List zC)).length+a.length)=true∧wD (.list .lit) ((([]:List (List zC))++a).length+b.length)=true∧p))∧(((((wD (.list .lit) (([]:List (List zC)).length+a.length)=true∧wD (.list .lit) ((([]:List (List zC))++a).length+b.length)=true∧p)∧wD (.list .lit) (([]:List (List zC)).length+a.length)=true∧wD (.list .lit) ((([]:List (List zC))++a).length+b.length)=true∧p))∧wD (.list .lit) (([]:List (List zC)).length+a.length)=true∧wD (.list .lit) ((([]:List (List zC))++a).length+b.length)=true∧p))∧((wD (.list .lit) (([]:List (List zC)).length+a.length)=true∧wD (.list .lit) ((([]:List (List zC))++a).length+b.length)=true∧p)∧wD (.list .lit) (([]:List (List zC)).length+a.length)=true∧wD (.list .lit) ((([]:List (List zC))++a).length+b.length)=true∧p)))
 (R (.sl (.list .lit) ((([]:List (List zC))++a)++b)) [(1000,.cells [.sl .var c,.sl .con d,dI e,dI f,.sl (.list .lit) a,dI g,.own 2000,.own 2001,.own 1001]),(2000,.row 53 (.list .lit) b),(2001,.row 129 .step h),(1001,.mp .str .int i)])):=by kernel_rfl
theorem VP(a:List zO)(b:List zF)(c d:Int)(e:List (List zC))(f:Int)(g:List (List zC))(h:List zS)(i:List (ByteArray×Int)):o9 Zf Tryz.f132 sA [.ptr 1000 0] [(1000,.cells [.sl .var a,.sl .con b,dI c,dI d,.sl (.list .lit) e,dI f,.own 2000,.own 2001,.own 1001]),(2000,.row 53 (.list .lit) g),(2001,.row 129 .step h),(1001,.mp .str .int i)] [.ptr 1000 0] false:=nV Tryz.func132 (by kernel_rfl) Tryz.ntmps132 rfl
def kG:xP:= {own:=[5,35],live:=[(0,([0,7,8,9],[1000,1001,2000,2001]))],n:=39,first:=true}
def tA(a:List zS)(R:oB)(b:Nat)(c:Int)(d:List zO)(e:List zF)(f g:Int)(h:List (List zC))(i:Int)(j:List (ByteArray×Int))(k:List (List zC))(l:List zS):Prop:=LP kG Tryz.f133 [1,0,0] 0 b ⟨[(0,.ptr 1000 0),(7,.sl .step a),(8,dI (a.length:Int)),(9,dI c)],[(1000,.cells [.sl .var d,.sl .con e,dI f,dI g,.sl (.list .lit) h,dI i,.own 2000,.own 2001,.own 1001]),(1001,.mp .str .int j),(2000,.row 53 (.list .lit) k),(2001,.row 129 .step l)]⟩ (zQ 0 (eH Tryz.f133 [.ptr 1000 0] false R))
theorem XR(a:List zS)(R:oB)(l:Nat)(b:Int)(e:List zO)(f:List zF)(g h:Int)(i:List (List zC))(j:Int)(c:List (ByteArray×Int))(k:List (List zC))(d:List zS):tA a R (l+1) b e f g h i j c k d=
 (zP (decide (b<(a.length:Int)))
 (wI b a.length=true∧yY YL [.sl .lit ((zR .step a b.toNat).clause)] .str λm=>
 zP (decide ((nU .str .int m c)=0))
 (OZ (c.length+1)=true∧wD .step (d.length+([(zR .step a b.toNat)]).length)=true∧tA a R l (yW (b+1)) e f g h i j (tQ .str .int m 1 c) k (d++([(zR .step a b.toNat)])))
 (tA a R l (yW (b+1)) e f g h i j c k d))
 (R (.tup []) [(1000,.cells [.sl .var e,.sl .con f,dI g,dI h,.sl (.list .lit) i,dI j,.own 2000,.own 2001,.own 1001]),(2000,.row 53 (.list .lit) k),(2001,.row 129 .step d),(1001,.mp .str .int c)])):=by kernel_rfl
theorem VQ(a:List zO)(b:List zF)(c d:Int)(e:List (List zC))(f:Int)(g:List (List zC))(h:List zS)(i:List (ByteArray×Int))(j:List zS)(R:oB):FH kG Tryz.f133 [.ptr 1000 0,.sl .step j] [(1000,.cells [.sl .var a,.sl .con b,dI c,dI d,.sl (.list .lit) e,dI f,.own 2000,.own 2001,.own 1001]),(2000,.row 53 (.list .lit) g),(2001,.row 129 .step h),(1001,.mp .str .int i)] [.ptr 1000 0] false R=
 (∃n0,tA j R n0 0 a b c d e f i g h):=by kernel_rfl
theorem WY(a:List zO)(b:List zF)(c d:Int)(e:List (List zC))(f:Int)(g:List (List zC))(h:List zS)(i:List (ByteArray×Int))(j:List zS):o9 kG Tryz.f133 oa [.ptr 1000 0,.sl .step j] [(1000,.cells [.sl .var a,.sl .con b,dI c,dI d,.sl (.list .lit) e,dI f,.own 2000,.own 2001,.own 1001]),(2000,.row 53 (.list .lit) g),(2001,.row 129 .step h),(1001,.mp .str .int i)] [.ptr 1000 0] false:=nV Tryz.func133 (by kernel_rfl) Tryz.ntmps133 rfl
def ZT:xP:= {own:=[],live:=[(0,([5,6,7],[]))],n:=17,first:=true}
def XS(a:List (List Int))(R:xK)(b:Nat)(c:Int):Prop:=LP ZT Tryz.f138 [1,0,1,0,0] 0 b ⟨[(5,dS a),(6,dI (a.length:Int)),(7,dI c)],[]⟩ (zQ 0 (sK ZT Tryz.f138 [1,1] 0 (eK Tryz.f138 R)))
theorem WI(b:List (List Int))(R:xK)(c:Nat)(a:Int):XS b R (c+1) a=
 (zP (decide (a<(b.length:Int)))
 (wI a b.length=true∧zP (decide (1<((zR (.list .int) b a.toNat).length:Int)))
 (R (dI a))
 (XS b R c (yW (a+1))))
 (R (dI (-1)))):=by kernel_rfl
theorem Fj(a:List (List Int))(R:xK):FD ZT Tryz.f138 [dS a] R=
 (∃n0,XS a R n0 0):=by kernel_rfl
theorem J2(a:List (List Int)):xL ZT Tryz.f138 Zy [dS a]:=xO Tryz.func138 (by kernel_rfl) Tryz.ntmps138 rfl
def eN:xP:= {own:=[],live:=[],n:=16,first:=true}
theorem X5(b c d:Int)(a:zC)(R:xK):FD eN Tryz.f191 [dI b,dI c,.iptr [dI d] 0,.iptr [dI a.var,dI a.op,dI a.n] 0] R=
 (zP (!decide (b=d))
 (R (dB true))
 (R (dB (decide (c=a.n))))):=by kernel_rfl
theorem XT(b c d:Int)(a:zC):xL eN Tryz.f191 qW [dI b,dI c,.iptr [dI d] 0,.iptr [dI a.var,dI a.op,dI a.n] 0]:=xO Tryz.func191 (by kernel_rfl) Tryz.ntmps191 rfl
def Y0:xP:= {own:=[5],live:=[(0,([3,6,7,8],[]))],n:=30,first:=true}
def ZU(a:List zC)(R:xK)(b:Nat)(c:ByteArray)(d:Int):Prop:=LP Y0 Tryz.f195 [1,1,0,1,0,0] 0 b ⟨[(3,.str c),(6,.sl .lit a),(7,dI (a.length:Int)),(8,dI d)],[]⟩ (zQ 0 (sK Y0 Tryz.f195 [1,1,1] 0 (eK Tryz.f195 R)))
theorem Kd(a:List zC)(R:xK)(g:Nat)(e:ByteArray)(b:Int):ZU a R (g+1) e b=
 (zP (decide (b<(a.length:Int)))
 (wI b a.length=true∧yY zZ [dI ((zR .lit a b.toNat).var)] .str λc=>
 c.size+(⟨#[58]⟩:ByteArray).size≤140737488355328∧yY zZ [dI ((zR .lit a b.toNat).op)] .str λd=>
 (c++(⟨#[58]⟩:ByteArray)).size+d.size≤140737488355328∧((c++(⟨#[58]⟩:ByteArray))++d).size+(⟨#[58]⟩:ByteArray).size≤140737488355328∧yY zZ [dI ((zR .lit a b.toNat).n)] .str λf=>
 (((c++(⟨#[58]⟩:ByteArray))++d)++(⟨#[58]⟩:ByteArray)).size+f.size≤140737488355328∧((((c++(⟨#[58]⟩:ByteArray))++d)++(⟨#[58]⟩:ByteArray))++f).size+(⟨#[32]⟩:ByteArray).size≤140737488355328∧e.size+(((((c++(⟨#[58]⟩:ByteArray))++d)++(⟨#[58]⟩:ByteArray))++f)++(⟨#[32]⟩:ByteArray)).size≤140737488355328∧ZU a R g (e++(((((c++(⟨#[58]⟩:ByteArray))++d)++(⟨#[58]⟩:ByteArray))++f)++(⟨#[32]⟩:ByteArray))) (yW (b+1)))
 (R (.str e))):=by kernel_rfl
theorem Ez(a:List zC)(R:xK):FD Y0 Tryz.f195 [.sl .lit a] R=
 (∃n0,ZU a R n0 (⟨#[]⟩:ByteArray) 0):=by kernel_rfl
theorem Fk(a:List zC):xL Y0 Tryz.f195 YL [.sl .lit a]:=xO Tryz.func195 (by kernel_rfl) Tryz.ntmps195 rfl
def KU:xP:= {own:=[4,22],live:=[],n:=68,first:=true}
theorem Br(g:zD)(k:Int)(R:xK):FD KU Tryz.f21 [dM g,dI k] R=
 (yY bE [dM g,dI k] .int λq=>
 zP (!decide (q=0))
 (R (.tup [.agg [dI 0,.sl .int ([]:List Int),.sl .step ([]:List zS)],dI q]))
 (∃a:zD,∃n:Int,xD YG [dM g,dI k] [] (.ptr 3000 0) [(3000,.cells (Sn a [.sl (.list .lit) ([]:List (List zC)),dI n,.nil,.nil,.own 3001])),(3001,.mp .str .int ([]:List (ByteArray×Int)))]∧
 ∃b:Int,∃h:List Int,∃l:Bool,∃c:List (List zC),∃d:Int,∃e:List (List zC),∃m:List zS,∃f:List (ByteArray×Int),xD iH [.ptr 1000 0] [(1000,.cells [.ptr 1001 0,.slN .int ([]:List Int) true]),(1001,.cells (Sn a [.sl (.list .lit) ([]:List (List zC)),dI n,.own 2000,.own 2001,.own 1002])),(2000,.row 53 (.list .lit) ([]:List (List zC))),(2001,.row 129 .step ([]:List zS)),(1002,.mp .str .int ([]:List (ByteArray×Int)))] (dI b) [(1000,.cells [.ptr 1001 0,.slN .int h l]),(1001,.cells (Sn a [.sl (.list .lit) c,dI d,.own 2000,.own 2001,.own 1002])),(2000,.row 53 (.list .lit) e),(2001,.row 129 .step m),(1002,.mp .str .int f)]∧
 zP (decide (g.goal=0))
 (zP (decide (b=1))
 (R (.tup [.agg [dI b,.sl .int h,.sl .step ([]:List zS)],dI 0]))
 (∃i:List zS,∃o:Bool,xD uZ [.ptr 1000 0] [(1000,.cells (Sn a [.sl (.list .lit) c,dI d,.own 2000,.own 2001,.own 1001])),(2000,.row 53 (.list .lit) e),(2001,.row 129 .step m),(1001,.mp .str .int f)] (.tup [.sl .step i,dB o]) [(1000,.cells (Sn a [.sl (.list .lit) c,dI d,.own 2000,.sl .step i,.own 1001])),(2000,.row 53 (.list .lit) e),(1001,.mp .str .int f)]∧
 zP (decide (b=3))
 (R (.tup [.agg [dI 3,.sl .int ([]:List Int),.sl .step ([]:List zS)],dI 0]))
 (zP (!o)
 (R (.tup [.agg [dI 3,.sl .int ([]:List Int),.sl .step ([]:List zS)],dI 0]))
 (zP l
 (R (.tup [.agg [dI 2,.sl .int ([]:List Int),.sl .step i],dI 0]))
 (R (.tup [.agg [dI 1,.sl .int h,.sl .step i],dI 0]))))))
 (∃j:List zS,∃p:Bool,xD uZ [.ptr 1000 0] [(1000,.cells (Sn a [.sl (.list .lit) c,dI d,.own 2000,.own 2001,.own 1001])),(2000,.row 53 (.list .lit) e),(2001,.row 129 .step m),(1001,.mp .str .int f)] (.tup [.sl .step j,dB p]) [(1000,.cells (Sn a [.sl (.list .lit) c,dI d,.own 2000,.sl .step j,.own 1001])),(2000,.row 53 (.list .lit) e),(1001,.mp .str .int f)]∧
 zP (decide (b=3))
 (R (.tup [.agg [dI 3,.sl .int ([]:List Int),.sl .step ([]:List zS)],dI 0]))
 (zP (!p)
 (R (.tup [.agg [dI 3,.sl .int ([]:List Int),.sl .step ([]:List zS)],dI 0]))
 (zP l
 (R (.tup [.agg [dI 2,.sl .int ([]:List Int),.sl .step j],dI 0]))
 (R (.tup [.agg [dI 1,.sl .int h,.sl .step j],dI 0]))))))):=by kernel_rfl
theorem EA(a:zD)(b:Int):xL KU Tryz.f21 hC [dM a,dI b]:=xO Tryz.func21 (by kernel_rfl) Tryz.ntmps21 rfl
def Pp:xP:= {own:=[],live:=[],n:=54,first:=true}
theorem Fl(a:zD)(b:List Int)(R:xK):FD Pp Tryz.f68 [dM a,.sl .int b] R=
 (yY tI [dM a] .int λc=>
 zP (!decide (c=0))
 (R (.tup [.sl .lit ([]:List zC),dI c]))
 (zP (!decide ((b.length:Int)=(a.vars.length:Int)))
 (R (.tup [.sl .lit ([]:List zC),dI 1]))
 (zP (!decide (a.goal=0))
 (wI a.var b.length=true∧wI a.var a.vars.length=true∧zP (decide ((zR .int b a.var.toNat)<((zR .var a.vars a.var.toNat).lo)))
 (R (.tup [.sl .lit ([]:List zC),dI 3]))
 (wI a.var b.length=true∧wI a.var a.vars.length=true∧zP (decide (((zR .var a.vars a.var.toNat).hi)<(zR .int b a.var.toNat)))
 (R (.tup [.sl .lit ([]:List zC),dI 3]))
 (yY cD [dM a,.sl .int b] (.list .lit) λd=>
 R (.tup [.sl .lit d,dI 0]))))
 (yY cD [dM a,.sl .int b] (.list .lit) λe=>
 R (.tup [.sl .lit e,dI 0]))))):=by kernel_rfl
theorem J3(a:zD)(b:List Int):xL Pp Tryz.f68 jG [dM a,.sl .int b]:=xO Tryz.func68 (by kernel_rfl) Tryz.ntmps68 rfl
def aT:xP:= {own:=[],live:=[(0,([0],[1000,1001,1002,2000,2001]))],n:=51,first:=true}
def kH(R:oB)(a:Nat)(b:List Int)(c:Bool)(d:List zO)(e:List zF)(f g:Int)(h:List (List zC))(i:Int)(j:List (ByteArray×Int))(k:List (List zC))(l:List zS):Prop:=LP aT Tryz.f72 [1,0,0] 0 a ⟨[(0,.ptr 1000 0)],[(1000,.cells [.ptr 1001 0,.slN .int b c]),(1001,.cells [.sl .var d,.sl .con e,dI f,dI g,.sl (.list .lit) h,dI i,.own 2000,.own 2001,.own 1002]),(1002,.mp .str .int j),(2000,.row 53 (.list .lit) k),(2001,.row 129 .step l)]⟩ (zQ 0 (eH Tryz.f72 [.ptr 1000 0] false R))
theorem TQ(R:oB)(n:Nat)(l:List Int)(m:Bool)(b:List zO)(c:List zF)(a d:Int)(e:List (List zC))(o:Int)(p:List (ByteArray×Int))(q:List (List zC))(r:List zS):kH R (n+1) l m b c a d e o p q r=
 (∃g:Int,∃h:List (List zC),∃i:List zS,∃j:List (ByteArray×Int),∃k:List Int,∃f:Int,xD oX [.ptr 1000 0] [(1000,.cells [.sl .var b,.sl .con c,dI a,dI d,.sl (.list .lit) e,dI o,.own 2000,.own 2001,.own 1001]),(2000,.row 53 (.list .lit) q),(2001,.row 129 .step r),(1001,.mp .str .int p)] (.tup [.sl .int k,dI f]) [(1000,.cells [.sl .var b,.sl .con c,dI a,dI d,.sl (.list .lit) e,dI g,.own 2000,.own 2001,.own 1001]),(2000,.row 53 (.list .lit) h),(2001,.row 129 .step i),(1001,.mp .str .int j)]∧
 zP (decide (f=3))
 (R (dI f) [(1000,.cells [.ptr 1001 0,.slN .int l m]),(1001,.cells [.sl .var b,.sl .con c,dI a,dI d,.sl (.list .lit) e,dI g,.own 2000,.own 2001,.own 1002]),(2000,.row 53 (.list .lit) h),(2001,.row 129 .step i),(1002,.mp .str .int j)])
 (zP (decide (f=2))
 (R (dI f) [(1000,.cells [.ptr 1001 0,.slN .int l m]),(1001,.cells [.sl .var b,.sl .con c,dI a,dI d,.sl (.list .lit) e,dI g,.own 2000,.own 2001,.own 1002]),(2000,.row 53 (.list .lit) h),(2001,.row 129 .step i),(1002,.mp .str .int j)])
 (k≠[]∧zP (decide (a=0))
 (R (dI f) [(1000,.cells [.ptr 1001 0,.slN .int k false]),(1001,.cells [.sl .var b,.sl .con c,dI a,dI d,.sl (.list .lit) e,dI g,.own 2000,.own 2001,.own 1002]),(2000,.row 53 (.list .lit) h),(2001,.row 129 .step i),(1002,.mp .str .int j)])
 (yY cD [.agg [.sl .var b,.sl .con c,dI a,dI d],.sl .int k] (.list .lit) λs=>
 kH R n k false b c a d ([s]) g j h i)))):=by kernel_rfl
theorem ON(a:List zO)(b:List zF)(c d:Int)(e:List (List zC))(f:Int)(g:List (List zC))(h:List zS)(i:List (ByteArray×Int))(j:List Int)(k:Bool)(R:oB):FH aT Tryz.f72 [.ptr 1000 0] [(1000,.cells [.ptr 1001 0,.slN .int j k]),(1001,.cells [.sl .var a,.sl .con b,dI c,dI d,.sl (.list .lit) e,dI f,.own 2000,.own 2001,.own 1002]),(2000,.row 53 (.list .lit) g),(2001,.row 129 .step h),(1002,.mp .str .int i)] [.ptr 1000 0] false R=
 (∃n0,kH R n0 j k a b c d e f i g h):=by kernel_rfl
theorem QY(a:List zO)(b:List zF)(c d:Int)(e:List (List zC))(f:Int)(g:List (List zC))(h:List zS)(i:List (ByteArray×Int))(j:List Int)(k:Bool):o9 aT Tryz.f72 iH [.ptr 1000 0] [(1000,.cells [.ptr 1001 0,.slN .int j k]),(1001,.cells [.sl .var a,.sl .con b,dI c,dI d,.sl (.list .lit) e,dI f,.own 2000,.own 2001,.own 1002]),(2000,.row 53 (.list .lit) g),(2001,.row 129 .step h),(1002,.mp .str .int i)] [.ptr 1000 0] false:=nV Tryz.func72 (by kernel_rfl) Tryz.ntmps72 rfl
def KW:xP:= {own:=[],live:=[],n:=31,first:=true}
theorem Bs(a:zD)(b:List Int)(R:xK):FD KW Tryz.f117 [dM a,.sl .int b] R=
 (zP (decide (a.goal=1))
 (wI a.var b.length=true∧R (.sl .lit ([(⟨a.var,1,yW ((zR .int b a.var.toNat)-1)⟩:zC)])))
 (zP (decide (a.goal=2))
 (wI a.var b.length=true∧R (.sl .lit ([(⟨a.var,2,yW ((zR .int b a.var.toNat)+1)⟩:zC)])))
 (R (.sl .lit ([]:List zC))))):=by kernel_rfl
theorem EB(a:zD)(b:List Int):xL KW Tryz.f117 cD [dM a,.sl .int b]:=xO Tryz.func117 (by kernel_rfl) Tryz.ntmps117 rfl
abbrev hpS(m:zD)(g l:List (List zC))(fuel:Int)(p:rB):List (Nat×yI):=[(1000,.cells [.sl .var m.vars,.sl .con m.cons,dI m.goal,dI m.var,.sl (.list .lit) g,dI fuel,.own 2000,.own 2001,.own 1001]),(2000,.row 53 (.list .lit) l),(2001,.row 129 .step p.1),(1001,.mp .str .int p.2)]
def zgX(x:zC):Prop:=yQ x.var∧yQ x.op∧yQ x.n
theorem ziB{nv:Nat}{x:zC}(hn:nv≤6)(h:gU nv x=0):zgX x:=by
 obtain⟨h1,h2,h3⟩:=oz.1 h;exact⟨by unfold yQ;omega,by unfold yQ;omega,by unfold yQ;omega⟩
theorem zeK(c:List zC)(x:zC):WU (c++[x])=WU c++Bp x:=by rw[WU,List.foldl_append];rfl
theorem zeL:∀ {c:List zC},(∀x∈c,zgX x)→(WU c).size≤c.length*66:=fun {c}=>by
 suffices H:∀(c:List zC) (o:ByteArray),(∀x∈c,zgX x)→(c.foldl (λo x=>o++Bp x) o).size≤o.size+c.length*66 from λh=>by
  have:=H c ⟨#[]⟩ h;rw[WU];have e:(⟨#[]⟩:ByteArray).size=0:=rfl;omega
 intro c
 induction c with
 |nil=>exact λo _=>by simp
 |cons x c ih=>
  intro o h;have h1:=ih (o++Bp x) λy hy=>h y (List.mem_cons_of_mem _ hy)
  obtain⟨a,b,d⟩:=h x (List.mem_cons_self ..);have h2:=zeJ a b d;rw[ByteArray.size_append]at h1
  rw[List.foldl_cons,List.length_cons];omega
theorem EC{c:List zC}(hl:c.length≤1000000)(hr:∀x∈c,zgX x):uG YL [.sl .lit c] (.str (WU c)):=
 Fk c λok=>by
  rw[Ez];refine up (I:=λn v a=>ZU c _ n a v) 0 c.length rfl (Nat.zero_le _) (by omega) (λk a=>a=WU (c.take k)) rfl λn k a _ hk ha hn=> ?_
  subst ha;rw[Kd]
  by_cases h:k<c.length
  ·rw[yK h,zX (t:=.lit) h]
   obtain⟨h1,h2,h3⟩:=hr _ (List.getElem_mem h);have s1:=kA h1;have s2:=kA h2;have s3:=kA h3;have s0:=zeL (c:=c.take k) λx hx=>hr x (List.mem_of_mem_take hx)
   rw[List.length_take]at s0
   have z58:(⟨#[58]⟩:ByteArray).size=1:=rfl;have z32:(⟨#[32]⟩:ByteArray).size=1:=rfl;refine⟨zM h,zG (t:=.str) (fj h1) ⟨by omega,zG (t:=.str) (fj h2) ⟨?_,?_,zG (t:=.str) (fj h3) ⟨?_,?_,?_,?_⟩⟩⟩⟩
   ·rw[ByteArray.size_append];omega
   ·simp only[ByteArray.size_append];omega
   ·simp only[ByteArray.size_append];omega
   ·simp only[ByteArray.size_append];omega
   ·simp only[ByteArray.size_append];omega
   ·refine hn h _ ?_
    rw[←List.take_append_getElem h,zeK];rfl
  ·have hk':k=c.length:=by omega
   subst hk';rw[zW,List.take_length]
theorem Fm(s:List (List Int)):uG Zy [dS s] (dI (VI s)):=
 J2 s λok=>by
  rw[Fj];refine FN (t:=.list .int) (p:=λr:List Int=>decide (1<r.length)) (R:=λd=>d=dI (VI s)) (cB (t:=.list .int) (ME ok)) rfl (λn k h h1 h2=> ?_) λn hR=> ?_
  ·rw[WI,yK h,zX (t:=.list .int) h]
   refine⟨zM h,zA (λe=>h1 ?_) λe=>h2 ?_⟩
   ·have e:(1:Int)<(s[k].length:Int):=of_decide_eq_true e
    exact decide_eq_true (by omega)
   ·have e:¬(1:Int)<(s[k].length:Int):=of_decide_eq_false e
    exact decide_eq_false (by omega)
  ·rw[WI,zW];exact hR
theorem WZ{m:zD}{g l:List (List zC)}{fuel:Int}{p:rB}(hg:g.length≤1000000)(hl:l.length≤1000000):xD sA [.ptr 1000 0] (hpS m g l fuel p) (.sl (.list .lit) (g++l)) (hpS m g l fuel p):=
 VP m.vars m.cons m.goal m.var g fuel l p.1 p.2 λok ok2=>by
  rw[UJ];simp only[CL,CM,and_self,-eq_self];refine⟨xX (t:=.list .lit) ?_,xX (t:=.list .lit) ?_,rfl,rfl⟩
  ·show(0+g.length)*24≤_;omega
  ·rw[List.nil_append];show(g.length+l.length)*24≤_;omega
theorem J4{m:zD}{g l:List (List zC)}{fuel:Int}{p:rB}:xD uZ [.ptr 1000 0] (hpS m g l fuel p) (.tup [.sl .step p.1,dB (decide ((p.1.length:Int)≤6000))]) [(1000,.cells [.sl .var m.vars,.sl .con m.cons,dI m.goal,dI m.var,.sl (.list .lit) g,dI fuel,.own 2000,.sl .step p.1,.own 1001]),(2000,.row 53 (.list .lit) l),(1001,.mp .str .int p.2)]:=
 X4 m.vars m.cons m.goal m.var g fuel l p.1 p.2 λok ok2=>by
  rw[WW];exact⟨rfl,rfl⟩
theorem ED(m:zD)(fuel:Int):xD YG [dM m,dI fuel] [] (.ptr 3000 0) [(3000,.cells [.sl .var m.vars,.sl .con m.cons,dI m.goal,dI m.var,.sl (.list .lit) [],dI fuel,.nil,.nil,.own 3001]),(3001,.mp .str .int [])]:=
 Fi m fuel λok ok2=>by
  rw[Ey];exact⟨rfl,rfl⟩
theorem DZ{p:rB}{st:zS}:(note1 p st).1.length≤p.1.length+1∧(note1 p st).2.length≤p.2.length+1:=by
 unfold note1;split
 ·refine⟨by simp,?_⟩
  show(tQ .str .int (WU st.clause) 1 p.2).length≤_
  generalize p.2=es
  induction es with
  |nil=>exact Nat.le_refl _
  |cons e es ih=>
   obtain⟨a,b⟩:=e;show(bif Py .str (WU st.clause) a then(a,(1:Int))::es else(a,b)::tQ .str .int (WU st.clause) 1 es).length≤_
   cases Py .str (WU st.clause) a
   ·rw[cond_false,List.length_cons,List.length_cons];omega
   ·rw[cond_true,List.length_cons,List.length_cons];omega
 ·omega
theorem Ke:∀(t:List zS) (p:rB),(qJ t p).1.length≤p.1.length+t.length∧(qJ t p).2.length≤p.2.length+t.length
 |[],p=>⟨Nat.le_refl _,Nat.le_refl _⟩
 |st::t,p=>by
  have h1:=DZ (p:=p) (st:=st);have h2:=Ke t (note1 p st);show(qJ t (note1 p st)).1.length≤_∧(qJ t (note1 p st)).2.length≤_
  rw[List.length_cons];omega
theorem Fo{m:zD}{g l:List (List zC)}{fuel:Int}{p:rB}{t:List zS}(h1:p.1.length≤1000000)(h2:p.2.length≤1000000)(ht:t.length≤1000000)(hc:∀st∈t,st.clause.length≤1000000∧∀x∈st.clause,zgX x):
  xD oa [.ptr 1000 0,.sl .step t] (hpS m g l fuel p) (.tup []) (hpS m g l fuel (qJ t p)):=
 WY m.vars m.cons m.goal m.var g fuel l p.1 p.2 t λok ok2=>by
  rw[VQ];refine up (I:=λn v (a:rB)=>tA t _ n v m.vars m.cons m.goal m.var g fuel a.2 l a.1) (a:=p) 0 t.length rfl (Nat.zero_le _) (by omega) (λk a=>a=qJ (t.take k) p) rfl λn k a _ hk ha hn=> ?_
  subst ha;show tA t _ _ _ _ _ _ _ _ _ (qJ (t.take k) p).2 _ (qJ (t.take k) p).1
  rw[XR]
  by_cases h:k<t.length
  ·rw[yK h,zX (t:=.step) h]
   obtain⟨c1,c2⟩:=hc _ (List.getElem_mem h)
   have hs:qJ (t.take (k+1)) p=note1 (qJ (t.take k) p) t[k]:=by
    rw[←List.take_append_getElem h];exact List.foldl_append ..
   obtain⟨n1,n2⟩:=Ke (t.take k) p;rw[List.length_take]at n1 n2
   refine⟨zM h,zG (t:=.str) (EC c1 c2) (zA (λe=> ?_) λe=> ?_)⟩
   ·have e:QX t[k].clause (qJ (t.take k) p).2=0:=of_decide_eq_true e
    refine⟨decide_eq_true (by omega),xX (t:=.step) (by show((qJ (t.take k) p).1.length+1)*40≤_;omega),hn h (_,_) ?_⟩
    rw[hs,note1,if_pos e]
   ·have e:¬QX t[k].clause (qJ (t.take k) p).2=0:=of_decide_eq_false e
    refine hn h _ ?_;rw[hs,note1,if_neg e]
  ·have hk':k=t.length:=by omega
   subst hk';rw[zW,List.take_length];exact⟨rfl,rfl⟩
theorem zeM{s:List (List Int)}{k:Nat}(h:k<s.length):jD (s.take (k+1))=jD (s.take k)++[s[k].getD 0 0]:=by
 rw[jD,←List.take_append_getElem h,List.map_append];rfl
theorem zgY(s:List (List Int))(v n:Int)(x:zC)(hx:x.n=n):uG uR [dS s,.clo qW none [.iptr [dI v] 0,.iptr (cells .lit x) 0]] (dS (VJ s v n)):=
 eC (f:=λw k=> !decide ((w:Int)=v)||decide (k=n)) Xp λw hw k hk=>XT w k v x λok=>by
  rw[X5];refine zA (λe=> ?_) λe=> ?_
  ·rw[e];rfl
  ·rw[e,Bool.false_or,hx]
theorem Fp{m:zD}{g l:List (List zC)}{fuel:Int}{p:rB}(hmc:yN m (g++l))(hg:g.length≤1000000)(hl:l.length≤1000000):
  xD pZ [.ptr 1000 0] (hpS m g l fuel p) (.tup [.slN .lit (ow m (g++l)).1 (ow m (g++l)).2.1,.sl .int (ow m (g++l)).2.2]) (hpS m g l fuel p):=
 WX m.vars m.cons m.goal m.var g fuel l p.1 p.2 λok ok2=>by
  rw[VO];have hr:=hmc.right;have hv:=hr.vars;refine⟨_,WZ hg hl,zG (Ij hr) (zG (XH hmc (Yd hr Yf) (by rw[List.length_append];omega)) ?_)⟩
  generalize hL:g++l=L at hmc⊢
  suffices H:∀(k:Nat) (d:List zC),J0 m L d→m.vars.length+1≤k+d.length→∀r,r=VK m L k (vA m L d) d→
    pO p.2 (λd h1=>d=.tup [.slN .lit r.1 r.2.1,.sl .int r.2.2]∧h1=hpS m g l fuel p) L k (vA m L d) d m.vars m.cons m.goal m.var g fuel l p.1 from⟨_,H (m.vars.length+1) [] .nil (by simp) _ rfl⟩
  intro k
  induction k with
  |zero=>exact λd hc hk=>absurd hc.len (by omega)
  |succ k ih=>
   intro d hc hk r hr';rw[XQ];simp only[CL,CM,and_self,-eq_self];rw[VK]at hr'
   have hlen:(vA m L d).length=m.vars.length:=VL hmc;refine zG (wG _) (zA (λe=> ?_) λe=> ?_)
   ·have hf:zT (vA m L d)=false:=by simpa using e
    rw[if_neg (by rw[hf];decide)]at hr'
    refine zG (Fm _) ?_;rcases DQ (vA m L d)with⟨eo,h1⟩|⟨v,eo,hv',h1,h2⟩
    ·rw[if_pos (by omega)]at hr'
     rw[decide_eq_true (show VI (vA m L d)<0 by omega),hr']
     have hne:=tG.1 hf;refine up (I:=λn v a=>pN p.2 _ k (vA m L d) m.vars m.cons m.goal m.var g fuel n v a l p.1) (a:=[]) 0 (vA m L d).length rfl (Nat.zero_le _) (by omega) (λk a=>a=jD ((vA m L d).take k)) rfl λn j a _ hj ha hn=> ?_
     subst ha;rw[XP]
     by_cases h:j<(vA m L d).length
     ·have hrow:0<(vA m L d)[j].length:=List.length_pos_iff.2 (by have:=hne j h;rwa[yA _ h]at this)
      rw[yK h,zX (t:=.list .int) h];refine⟨zM h,zM (k:=0) hrow,xX (t:=.int) ?_,hn h _ ?_⟩
      ·rw[jD,List.length_map,List.length_take];show(_+1)*8≤_;omega
      ·rw[zeM h];rfl
     ·have hj':j=(vA m L d).length:=by omega
      subst hj';rw[zW,List.take_length];exact⟨rfl,rfl⟩
    ·rw[if_neg (by omega),eo,Int.toNat_natCast,Mw hmc hf]at hr'
     rw[eo,decide_eq_false (show¬(v:Int)<0 by omega)]
     have hvn:v<m.vars.length:=by omega
     have hc':=hc.step hmc hf hvn eo h1 h2;have e1:zR (.list .int) (vA m L d) (v:Int).toNat=(vA m L d).getD v []:=by rw[zX hv',yA _ hv']
     have e2:zR .int ((vA m L d).getD v []) 0=((vA m L d).getD v []).getD 0 0:=rfl;rw[e1,e2];refine⟨zM hv',zM (k:=0) (by omega),xX (t:=.lit) ?_,zG (zgY _ _ _ ⟨v,3,((vA m L d).getD v []).getD 0 0⟩ rfl) (zG (XH hmc ?_ (by rw[←hL,List.length_append];omega)) ?_)⟩
     ·have:=hc.len
      show(d.length+1)*24≤_;omega
     ·exact Yd hr (RV Yf (XC.trans (Zs hmc)))
     ·rw[Mw hmc hf]
      exact ih _ hc' (by rw[List.length_append,List.length_singleton];omega) r hr'
   ·have hf:zT (vA m L d)=true:=by simpa using e
    rw[if_pos hf]at hr'
    rw[hr'];exact⟨rfl,rfl⟩
structure Fit (m:zD)(g l:List (List zC))(k:Nat)(p:rB):Prop where
 sea:DX m g l p
 fuel:l.length+k≤300
 steps:p.1.length≤6000
 met:p.2.length≤p.1.length
theorem zeN{p:rB}{st:zS}(h:p.2.length≤p.1.length):(note1 p st).2.length≤(note1 p st).1.length:=by
 have h1:=(DZ (p:=p) (st:=st)).2
 by_cases e:QX st.clause p.2=0
 ·have h2:(note1 p st).1.length=p.1.length+1:=by rw[note1,if_pos e];simp
  omega
 ·rw[note1,if_neg e];exact h
theorem Kf:∀(t:List zS) (p:rB),p.2.length≤p.1.length→(qJ t p).2.length≤(qJ t p).1.length
 |[],p,h=>h
 |st::t,p,h=>Kf t (note1 p st) (zeN h)
theorem Bt{m:zD}{g l:List (List zC)}{k:Nat}{p:rB}(h:Fit m g l k p):
  xD oX [.ptr 1000 0] (hpS m g l (k:Int) p) (.tup [.sl .int (XN m k g l p).vals,dI (XN m k g l p).verdict]) (hpS m g (XN m k g l p).learned ((XN m k g l p).fuel:Int) (XN m k g l p).note):=
 UI m.vars m.cons m.goal m.var g (k:Int) l p.1 p.2 λok ok2=>by
  rw[TP]
  suffices H:∀(k:Nat) (l:List (List zC)) (p:rB),Fit m g l k p→∀r,r=XN m k g l p→
    oR (λd h1=>d=.tup [.sl .int r.vals,dI r.verdict]∧h1=hpS m g r.learned (r.fuel:Int) r.note) (k+1) m.vars m.cons m.goal m.var g (k:Int) p.2 l p.1 from⟨_,H k l p h _ rfl⟩
  intro k
  induction k with
  |zero=>
   intro l p h r hr;rw[eM,hr];exact⟨rfl,rfl⟩
  |succ k ih=>
   intro l p h r hr;have hs:=h.sea;have hf:=h.fuel;have hp:=h.steps;have hm2:=h.met;have hgl:=hs.glen;have hmc:=hs.mc;have hw:yW (((k+1:Nat):Int)-1)=(k:Int):=by rw[rE (by omega) (by omega)];omega
   rw[eM,hw];simp only[CL,CM,and_self,-eq_self];rw[XN]at hr
   rw[decide_eq_false (show¬((k+1:Nat):Int)=0 by omega)]
   refine⟨_,_,_,Fp hmc (by omega) (by omega),zA (λhd=> ?_) λhd=> ?_⟩
   ·rw[if_pos hd]at hr
    rw[hr];exact⟨rfl,rfl⟩
   ·rw[if_neg (by rw[hd];decide)]at hr
    obtain⟨q1,q2,q3,q4,q5⟩:=UH hs (by omega) hd
    have hkf:xR m (g++l) (mR m (g++l)):=q1.sub UF;have hff:sZ m (g++l) (mR m (g++l))=true:=Mp q2;have ht:=Ru hkf hff;have hgl2:(g++l).length≤1000000000:=by rw[List.length_append];omega
    have hdl:=q1.dl;have hfew:=JZ hmc hgl2 (show(ow m (g++l)).1.length≤1000000 by omega)
    rw[if_pos q2]at hfew
    have hnv:=hmc.right.vars;have hsz:=DN hmc.right;refine⟨_,WZ (by omega) (by omega),fy (t:=.list .lit) (u:=.bool) hfew ⟨_,WZ (by omega) (by omega),zG (t:=.list .step) (G3 hkf) ⟨_,_,Fo (by omega) (by omega) (show(fL m (g++l) (mR m (g++l))).length≤1000000 by have:=ht.len;omega) (λst hst=> ?_),?_⟩⟩⟩
    ·obtain⟨c1,c2⟩:=aD (ht.cl st hst)
     exact⟨by omega,λx hx=>ziB hnv (c2 x hx)⟩
    ·have e0:qJ (fL m (g++l) (fewest m (g++l) (ow m (g++l)).1)) p=nS m (g++l) p:=rfl
     have e1:fewest m (g++l) (ow m (g++l)).1=mR m (g++l):=rfl;rw[e0,e1]
     by_cases hf0:mR m (g++l)=[]
     ·rw[if_pos hf0]at hr
      rw[hf0,decide_eq_true (show(([]:List zC).length:Int)=0 from rfl),hr]
      exact⟨rfl,rfl⟩
     ·rw[if_neg hf0]at hr
      have hl0:(mR m (g++l)).length≠0:=λe=>hf0 (List.length_eq_zero_iff.1 e)
      rw[decide_eq_false (show¬((mR m (g++l)).length:Int)=0 by omega)]
      have hfl:=hkf.dl;refine zG (t:=.list .lit) (Tb (by omega) hkf.near) ⟨xX (t:=.list .lit) (by show(l.length+1)*24≤_;omega),?_⟩
      have e2:(l++[(mR m (g++l)).map iV]).length=l.length+1:=by simp
      refine zA (λe=> ?_) λe=>zA (λe'=> ?_) λe'=> ?_
      ·have e:(600:Int)<((l++[(mR m (g++l)).map iV]).length:Int):=of_decide_eq_true e
       rw[if_pos (.inl (by omega))]at hr
       rw[hr];exact⟨rfl,rfl⟩
      ·have e':(6000:Int)<((nS m (g++l) p).1.length:Int):=of_decide_eq_true e'
       rw[if_pos (.inr (by omega))]at hr
       rw[hr];exact⟨rfl,rfl⟩
      ·have e:¬(600:Int)<((l++[(mR m (g++l)).map iV]).length:Int):=of_decide_eq_false e
       have e':¬(6000:Int)<((nS m (g++l) p).1.length:Int):=of_decide_eq_false e';rw[if_neg (by omega)]at hr
       exact ih _ (nS m (g++l) p) ⟨(q5 hf0).1,by omega,by omega,Kf _ _ hm2⟩ r hr
def XU(m:zD)(fuel:Int):Int:=or0 (yR m) (if fuel<0∨300<fuel then 3 else 0)
theorem J5(m:zD)(fuel:Int):uG bE [dM m,dI fuel] (dI (XU m fuel)):=
 Kc m fuel λok=>by
  rw[J1];refine zG (pG m) (zA (λe=> ?_) λe=> ?_)
  ·rw[XU,MT (pP e)]
  ·rw[XU,VZ (tZ e)]
   refine zA (λf=> ?_) λf=>zA (λf'=> ?_) λf'=> ?_
   ·rw[if_pos (.inl (of_decide_eq_true f))]
   ·rw[if_pos (.inr (of_decide_eq_true f'))]
   ·have f:=of_decide_eq_false f
    have f':=of_decide_eq_false f';rw[if_neg (by omega)]
theorem KX{m:zD}{fuel:Int}(h:XU m fuel=0):yR m=0∧0≤fuel∧fuel≤300:=by
 obtain⟨h1,h2⟩:=VD h;refine⟨h1,?_⟩;split at h2
 ·cases h2
 ·omega
theorem zeO{m:zD}(h:yR m=0){k:Nat}(hk:k≤300):Fit m [] [] k ([],[]):=⟨.begin h,by simpa using hk,Nat.zero_le _,Nat.le_refl _⟩
theorem UK{m:zD}(hr:Right m){vs:List Int}(hl:vs.length=m.vars.length)(hb:m.goal≠0→-1000≤vs.getD m.var.toNat 0∧vs.getD m.var.toNat 0≤1000):uG cD [dM m,.sl .int vs] (.sl .lit (sF m vs)):=
 EB m vs λok=>by
  rw[Bs,sF]
  have hin:m.goal≠0→wI m.var vs.length=true:=λh=>by
   obtain⟨_,a,b⟩:=aS hr h;exact vE.2 ⟨a,by omega⟩
  refine zA (λe=> ?_) λe=>zA (λe'=> ?_) λe'=> ?_
  ·have e:m.goal=1:=of_decide_eq_true e
   have:=hb (by omega)
   rw[if_pos e];refine⟨hin (by omega),?_⟩
   show D.sl .lit [(⟨m.var,1,yW (vs.getD m.var.toNat 0-1)⟩:zC)]=_
   rw[rE (by omega) (by omega)]
  ·have e:¬m.goal=1:=of_decide_eq_false e
   have e':m.goal=2:=of_decide_eq_true e';have:=hb (by omega)
   rw[if_neg e,if_pos e'];refine⟨hin (by omega),?_⟩
   show D.sl .lit [(⟨m.var,2,yW (vs.getD m.var.toNat 0+1)⟩:zC)]=_
   rw[rE (by omega) (by omega)]
  ·rw[if_neg (of_decide_eq_false e),if_neg (of_decide_eq_false e')]
theorem zco{m:zD}(hr:Right m){vs:List Int}(hv:XB vs (xT m))(h:m.goal≠0): -1000≤vs.getD m.var.toNat 0∧vs.getD m.var.toNat 0≤1000:=by
 obtain⟨_,g2,g3⟩:=aS hr h;have hvl:m.var.toNat<m.vars.length:=by omega
 have:=hv.2 m.var.toNat (by rw[xI];exact hvl)
 rw[gN hvl,cQ]at this
 have hb:=hr.var _ (List.getElem_mem hvl);omega
theorem zdr{m:zD}{g:List (List zC)}:∀(k:Nat) (l:List (List zC)) (p:rB),Fit m g l k p→(XN m k g l p).verdict=1→Fit m g (XN m k g l p).learned (XN m k g l p).fuel (XN m k g l p).note∧(XN m k g l p).fuel+1≤k
 |0,l,p,h,hv=>by cases hv
 |k+1,l,p,h,hv=>by
  have hs:=h.sea;have hf:=h.fuel;rw[XN]at hv⊢
  by_cases hd:(ow m (g++l)).2.1=true
  ·rw[if_pos hd]at hv⊢
   exact⟨⟨hs,by show l.length+k≤300;omega,h.steps,h.met⟩,Nat.le_refl _⟩
  ·rw[if_neg hd]at hv⊢
   obtain⟨_,_,_,q4,q5⟩:=UH hs (by omega) (by simpa using hd)
   by_cases hf0:mR m (g++l)=[]
   ·rw[if_pos hf0]at hv;cases hv
   ·rw[if_neg hf0]at hv⊢
    by_cases hc:600<l.length+1∨6000<(nS m (g++l) p).1.length
    ·rw[if_pos hc]at hv;cases hv
    ·rw[if_neg hc]at hv⊢
     obtain⟨a,b⟩:=zdr k _ _ ⟨(q5 hf0).1,by rw[List.length_append,List.length_singleton];omega,by omega,Kf _ _ h.met⟩ hv
     exact⟨a,by omega⟩
abbrev hpB(m:zD)(g l:List (List zC))(fuel:Int)(p:rB)(b:List Int)(nl:Bool):List (Nat×yI):=[(1000,.cells [.ptr 1001 0,.slN .int b nl]),(1001,.cells [.sl .var m.vars,.sl .con m.cons,dI m.goal,dI m.var,.sl (.list .lit) g,dI fuel,.own 2000,.own 2001,.own 1002]),(2000,.row 53 (.list .lit) l),(2001,.row 129 .step p.1),(1002,.mp .str .int p.2)]
theorem zav{m:zD}{k:Nat}(h:Fit m [] [] k ([],[])):
  xD iH [.ptr 1000 0] (hpB m [] [] (k:Int) ([],[]) [] true) (dI (tW m k).verdict) (hpB m (tW m k).given (tW m k).learned ((tW m k).fuel:Int) (tW m k).note (tW m k).best (tW m k).nl):=
 QY m.vars m.cons m.goal m.var [] (k:Int) [] [] [] [] true λok ok2=>by
  rw[ON]
  suffices H:∀(n k:Nat) (g l:List (List zC)) (p:rB) (b:List Int) (nl:Bool),Fit m g l k p→zcn m g b nl→k+1≤n→∀r,r=VN m n k g l p b nl→
    kH (λd h1=>d=dI r.verdict∧h1=hpB m r.given r.learned (r.fuel:Int) r.note r.best r.nl) n b nl m.vars m.cons m.goal m.var g (k:Int) p.2 l p.1 from⟨_,H (k+1) k [] [] ([],[]) [] true h .none (Nat.le_refl _) _ rfl⟩
  intro n
  induction n with
  |zero=>exact λk g l p b nl _ _ hk=>absurd hk (by omega)
  |succ n ih=>
   intro k g l p b nl h hg hk r hr;rw[TQ];rw[VN]at hr
   have hmr:=h.sea.mc.right;have hx:=MA k l p h.sea h.fuel;have hfit:=zdr k l p h;refine⟨_,_,_,_,_,_,Bt h,?_⟩;generalize XN m k g l p=q at hr hx hfit⊢
   cases hx with
   |unknown q1 q2=>
    rw[if_pos (.inl q1)]at hr
    rw[q1,hr];exact⟨by rw[q1],rfl⟩
   |none q1 q2 q3=>
    rw[if_pos (.inr q1)]at hr
    rw[q1,hr];exact⟨by rw[q1],rfl⟩
   |found q1 q2 q3 q4=>
    rw[if_neg (by rw[q1];decide)]at hr
    obtain⟨hf,hlt⟩:=hfit q1;have hpos:=h.sea.mc.pos;rw[q1];refine⟨λe=> ?_,zA (λe=> ?_) λe=> ?_⟩
    ·have:=q2.len;rw[e]at this;simp at this;omega
    ·rw[if_pos (of_decide_eq_true e)]at hr
     rw[hr,q1];exact⟨rfl,rfl⟩
    ·have h0:m.goal≠0:=of_decide_eq_false e
     rw[if_neg h0]at hr
     obtain⟨e1,e2⟩:=Fe hmr h0 hg q2;have hc:∀c∈[sF m q.vals],yJ m.vars.length c=0:=λc hc=>by rw[List.mem_singleton.1 hc];exact MB hmr h0 q2.full
     exact zG (t:=.list .lit) (UK hmr q2.len (zco hmr q2.full)) (ih q.fuel _ _ _ _ _ ⟨q3.give hc (Nat.le_refl _) e1,q4,hf.steps,hf.met⟩ (.some _ (R0 q2) h0) (by omega) r hr)
noncomputable def pX (m:zD)(fuel:Int):D5:=if XU m fuel=0 then Fc m fuel.toNat else⟨0,[],[]⟩
theorem Y1(m:zD)(fuel:Int):uG hC [dM m,dI fuel] (.tup [XV .ans (pX m fuel),dI (XU m fuel)]):=
 EA m fuel λok=>by
  rw[Br,pX];refine zG (J5 m fuel) (zA (λe=> ?_) λe=> ?_)
  ·rw[if_neg (pP e)];rfl
  ·have e:=tZ e
   obtain⟨h1,h2,h3⟩:=KX e;obtain⟨k,rfl⟩:∃k:Nat,fuel=(k:Int):=⟨fuel.toNat,by omega⟩
   rw[if_pos e,Int.toNat_natCast,e,Fc];have hrun:=zav (zeO h1 (k:=k) (by omega))
   refine⟨m,_,ED m k,_,_,_,_,_,_,_,_,hrun,?_⟩;generalize tW m k=r
   have tail:¬(m.goal=0∧r.verdict=1)→∃p12:List zS,∃p13:Bool,xD uZ [.ptr 1000 0] (hpS m r.given r.learned (r.fuel:Int) r.note) (.tup [.sl .step p12,dB p13]) [(1000,.cells [.sl .var m.vars,.sl .con m.cons,dI m.goal,dI m.var,.sl (.list .lit) r.given,dI (r.fuel:Int),.own 2000,.sl .step p12,.own 1001]),(2000,.row 53 (.list .lit) r.learned),(1001,.mp .str .int r.note.2)]∧
     zP (decide (r.verdict=3)) (D.tup [.agg [dI 3,.sl .int ([]:List Int),.sl .step ([]:List zS)],dI 0]=.tup [XV .ans (if m.goal=0∧r.verdict=1 then⟨1,r.best,[]⟩else if r.verdict=3∨6000<r.note.1.length then⟨3,[],[]⟩else if r.nl=true then⟨2,[],r.note.1⟩else⟨1,r.best,r.note.1⟩),dI 0])
      (zP (!p13) (D.tup [.agg [dI 3,.sl .int ([]:List Int),.sl .step ([]:List zS)],dI 0]=.tup [XV .ans (if m.goal=0∧r.verdict=1 then⟨1,r.best,[]⟩else if r.verdict=3∨6000<r.note.1.length then⟨3,[],[]⟩else if r.nl=true then⟨2,[],r.note.1⟩else⟨1,r.best,r.note.1⟩),dI 0])
       (zP r.nl (D.tup [.agg [dI 2,.sl .int ([]:List Int),.sl .step p12],dI 0]=.tup [XV .ans (if m.goal=0∧r.verdict=1 then⟨1,r.best,[]⟩else if r.verdict=3∨6000<r.note.1.length then⟨3,[],[]⟩else if r.nl=true then⟨2,[],r.note.1⟩else⟨1,r.best,r.note.1⟩),dI 0])
        (D.tup [.agg [dI 1,.sl .int r.best,.sl .step p12],dI 0]=.tup [XV .ans (if m.goal=0∧r.verdict=1 then⟨1,r.best,[]⟩else if r.verdict=3∨6000<r.note.1.length then⟨3,[],[]⟩else if r.nl=true then⟨2,[],r.note.1⟩else⟨1,r.best,r.note.1⟩),dI 0]))):=λhn=>by
    refine⟨_,_,J4 (p:=r.note),?_⟩;rw[if_neg hn];refine zA (λf=> ?_) λf=>zA (λq=> ?_) λq=>zA (λb=> ?_) λb=> ?_
    ·rw[if_pos (.inl (of_decide_eq_true f))];rfl
    ·have q:¬(r.note.1.length:Int)≤6000:=by simpa using q
     rw[if_pos (.inr (by omega))];rfl
    ·have f:=of_decide_eq_false f
     have q:(r.note.1.length:Int)≤6000:=by simpa using q
     rw[if_neg (by omega),if_pos b];rfl
    ·have f:=of_decide_eq_false f
     have q:(r.note.1.length:Int)≤6000:=by simpa using q
     rw[if_neg (by omega),if_neg (by rw[b];decide)];rfl
   refine zA (λf=>zA (λq=> ?_) λq=> ?_) λf=> ?_
   ·have f:m.goal=0:=of_decide_eq_true f
    have q:r.verdict=1:=of_decide_eq_true q;rw[if_pos ⟨f,q⟩,q];rfl
   ·exact tail λh=>(of_decide_eq_false q) h.2
   ·exact tail λh=>(of_decide_eq_false f) h.1
def iS(m:zD)(vs:List Int):Int:=or0 (yR m) (if vs.length≠m.vars.length then 1 else if m.goal≠0∧(vs.getD m.var.toNat 0<(m.vars.getD m.var.toNat Ty.var.dflt).lo∨(m.vars.getD m.var.toNat Ty.var.dflt).hi<vs.getD m.var.toNat 0)then 3 else 0)
def Iq(m:zD)(vs:List Int):List zC:=if iS m vs=0 then sF m vs else[]
theorem Rx(m:zD)(vs:List Int):uG jG [dM m,.sl .int vs] (.tup [.sl .lit (Iq m vs),dI (iS m vs)]):=
 J3 m vs λok=>by
  rw[Fl,Iq];refine zG (pG m) (zA (λe=> ?_) λe=> ?_)
  ·have e:=pP e
   have h:iS m vs=yR m:=MT e;rw[h,if_neg e]
  ·have e:=tZ e
   have hr:=qH e;have h:iS m vs=_:=VZ e;refine zA (λf=> ?_) λf=> ?_
   ·have f:¬(vs.length:Int)=(m.vars.length:Int):=by simpa using f
    have h:iS m vs=1:=h.trans (if_pos (by omega))
    rw[h,if_neg (by decide)]
   ·have f:(vs.length:Int)=(m.vars.length:Int):=by simpa using f
    have f:vs.length=m.vars.length:=by omega
    rw[if_neg (not_not_intro f)]at h
    refine zA (λg=> ?_) λg=> ?_
    ·have g0:m.goal≠0:=pP g
     obtain⟨_,g2,g3⟩:=aS hr g0;have i1:wI m.var vs.length=true:=vE.2 ⟨g2,by omega⟩
     have i2:wI m.var m.vars.length=true:=vE.2 ⟨g2,g3⟩;refine⟨i1,i2,zA (λq=> ?_) λq=>⟨i1,i2,zA (λq'=> ?_) λq'=> ?_⟩⟩
     ·rw[if_pos ⟨g0,.inl (of_decide_eq_true q)⟩]at h
      rw[h,if_neg (by decide)]
     ·rw[if_pos ⟨g0,.inr (of_decide_eq_true q')⟩]at h
      rw[h,if_neg (by decide)]
     ·have q:=of_decide_eq_false q
      have q':=of_decide_eq_false q';rw[if_neg λx=>x.2.elim q q']at h
      rw[h,if_pos rfl];refine zG (t:=.list .lit) (UK hr f λ_=> ?_) rfl
      have hvl:m.var.toNat<m.vars.length:=by omega
      have hb:=hr.var _ (List.getElem_mem hvl);have e1:zR .var m.vars m.var.toNat=m.vars[m.var.toNat]:=atN hvl;have q2:¬(vs.getD m.var.toNat 0:Int)<m.vars[m.var.toNat].lo:=λx=>q (by rw[e1];exact x)
      have q3:¬(m.vars[m.var.toNat].hi:Int)<vs.getD m.var.toNat 0:=λx=>q' (by rw[e1];exact x)
      omega
    ·have g0:=tZ g
     rw[if_neg λx=>x.1 g0]at h
     rw[h,if_pos rfl];exact zG (t:=.list .lit) (UK hr f λx=>absurd g0 x) rfl
theorem zgZ:sQ xW true [] (xT xW)=[[0,1],[1,2]]:=zb4 (cons:=true) zb5 xI 1 (by kernel_rfl) (by kernel_rfl) (by kernel_rfl)
theorem zg0:sQ xW true [] (VJ [[0,1],[1,2]] 0 0)=[[0],[1,2]]:=zb4 (cons:=true) zb5 (by kernel_rfl) 1 (by kernel_rfl) (by kernel_rfl) (by kernel_rfl)
theorem zg1:sQ xW true [] (VJ [[0],[1,2]] 1 1)=[[0],[1]]:=zb4 (cons:=true) zb5 (by kernel_rfl) 1 (by kernel_rfl) (by kernel_rfl) (by kernel_rfl)
theorem zg2:ow xW ([]++[])=([],true,[0,1]):=by
 show VK xW [] 3 (sQ xW true [] (xT xW)) []=_
 rw[zgZ,VK,if_neg (by decide),if_neg (by decide)]
 show VK xW [] 2 (sQ xW true [] (VJ [[0,1],[1,2]] 0 0)) _=_
 rw[zg0,VK,if_neg (by decide),if_neg (by decide)]
 show VK xW [] 1 (sQ xW true [] (VJ [[0],[1,2]] 1 1)) _=_
 rw[zg1,VK,if_neg (by decide),if_pos (by decide)]
 rfl
theorem zjI{k:Nat}:XN xW (k+1) [] [] ([],[])=⟨[0,1],1,k,[],([],[])⟩:=by
 rw[XN,zg2,if_pos rfl]
theorem Bu:yN xW ([[⟨1,1,0⟩]]++[]):=nR (by kernel_rfl) λc hc=>by rw[List.mem_singleton.1 hc];kernel_rfl
theorem Fq:zT (sQ xW true ([[⟨1,1,0⟩]]++[]) (xT xW))=true:=by
 rw[ziv (cons:=true) Bu xI 2 (by kernel_rfl)]
 exact kB (by rw[xI];exact Bu.pos)
theorem D0:ow xW ([[⟨1,1,0⟩]]++[])=([],false,[]):=by
 rw[ow,VK,if_pos Fq]
theorem zg3:(tW xW 20).verdict=2∧(tW xW 20).best=[0,1]∧(tW xW 20).nl=false∧(tW xW 20).note.1.length≤6000:=by
 have hf:mR xW ([[⟨1,1,0⟩]]++[])=[]:=by
  rw[mR,D0];exact G9 Bu Fq
 have hk:xR xW ([[⟨1,1,0⟩]]++[]) []:=⟨by kernel_rfl,by decide,λc hc=>(by rw[List.mem_singleton.1 hc];kernel_rfl),by decide,λx hx=>(by cases hx),λx hx=>(by cases hx)⟩
 have ht:=Ru hk Fq
 have hgo:XN xW 19 [[⟨1,1,0⟩]] [] ([],[])=⟨[],2,18,[],nS xW ([[⟨1,1,0⟩]]++[]) ([],[])⟩:=by
  rw[XN,if_neg (by rw[D0];decide),if_pos hf]
 have hlen:(nS xW ([[⟨1,1,0⟩]]++[]) ([],[])).1.length≤6000:=by
  have h1:=(Ke (fL xW ([[⟨1,1,0⟩]]++[]) (mR xW ([[⟨1,1,0⟩]]++[]))) ([],[])).1;rw[hf]at h1
  have h2:=ht.len;show(qJ _ _).1.length≤_
  rw[hf];have:(([],[]):rB).1.length=0:=rfl;omega
 have e:tW xW 20=⟨2,[0,1],false,[[⟨1,1,0⟩]],18,[],nS xW ([[⟨1,1,0⟩]]++[]) ([],[])⟩:=by
  show VN xW 21 20 [] [] ([],[]) [] true=_
  rw[VN,zjI,if_neg (by decide),if_neg (by decide)]
  show VN xW 20 19 [[⟨1,1,0⟩]] [] ([],[]) [0,1] false=_
  rw[VN,hgo,if_pos (.inr rfl)]
 rw[e];exact⟨rfl,rfl,rfl,hlen⟩
theorem Ir:(pX xW 20).verdict=1∧(pX xW 20).values=[0,1]∧0<(pX xW 20).proof.length:=by
 obtain⟨h1,h2,h3,h4⟩:=zg3
 have e:pX xW 20=⟨1,[0,1],(tW xW 20).note.1⟩:=by
  rw[pX,if_pos (by kernel_rfl)]
  show Fc xW 20=_
  rw[Fc,if_neg (by rintro⟨h,_⟩;exact absurd h (by decide)),if_neg (by rw[h1];rintro(h|h);exact absurd h (by decide);omega),if_neg (by rw[h3];decide),h2]
 have hs:=DY (m:=xW) (fuel:=20) (by kernel_rfl) (by decide)
 have e2:pX xW 20=Fc xW 20:=by rw[pX,if_pos (by kernel_rfl)];rfl
 rw[←e2,e]at hs
 rw[e];refine⟨rfl,rfl,?_⟩;cases hs with
 |any q0=>exact absurd q0 (by decide)
 |none q1=>exact absurd q1 (by decide)
 |unknown q1=>exact absurd q1 (by decide)
 |best q0 q1 q2 q3 q4=>
  have:=q3.right;rw[kE,Bool.and_eq_true,cP,Bool.and_eq_true]at this
  exact of_decide_eq_true this.2.1
theorem zcp:uG jG [dM xW,.sl .int [0,2]] (.tup [.sl .lit [⟨1,1,1⟩],dI 0]):=by
 have h:=Rx xW [0,2]
 rwa[Iq,show iS xW [0,2]=0 by kernel_rfl,if_pos rfl,show sF xW [0,2]=[⟨1,1,1⟩] by kernel_rfl]at h
theorem UL:uG oJ [] (dB true):=
 Vm λok=>by
  rw[Uh];obtain⟨h1,h2,h3⟩:=Ir;refine zG (t:=.mdl) oy (fy (t:=.list .lit) (u:=.int) zcp (zG (t:=.mdl) oy (fy (t:=.ans) (u:=.int) (Y1 xW 20) ?_)));refine dt rfl (dt (show XU xW 20=0 by kernel_rfl) (zG (t:=.bool) (VG _ _) (dt rfl (dt h1 (zG (t:=.bool) (qI _ _) (dt h2 ?_))))))
  rw[decide_eq_true (by omega)]
theorem UM{m:zD}{g:List (List zC)}{t:List zS}(hg:∀c∈g,yJ m.vars.length c=0)(hgl:g.length≤1)(h:OM m g t)(hl:t.length≤6000):oo m g t=0:=by
 have e1:xU (λ_ (s:zS)=>yJ m.vars.length s.clause) 0 t=0:=Yi λ_ x hx=>h.cl x hx
 have e2:xU (λ_ (s:zS)=>eL m s) 0 t=0:=Yi λ_ x hx=>by
  rw[eL,if_neg];rintro⟨h1,h2⟩;have:=h.con x hx h1;omega
 have e3:YW m.vars.length g=0:=by
  rw[YW,if_neg (by omega)]
  exact Yi λ_ x hx=>hg x hx
 rw[oo,if_neg (by omega),e3,e1,e2];rfl
theorem Fr{m:zD}{fuel:Int}(h:yR m=0)(h2:0≤fuel∧fuel≤300):XU m fuel=0:=by rw[XU,VZ h,if_neg (by omega)]
theorem Bv{m:zD}{fuel:Int}(h:XU m fuel=0):yR m=0∧∃k:Nat,fuel=k∧Fh m k (pX m fuel):=by
 obtain⟨h1,h2,h3⟩:=KX h;obtain⟨k,rfl⟩:∃k:Nat,fuel=(k:Int):=⟨fuel.toNat,by omega⟩
 refine⟨h1,k,rfl,?_⟩;rw[pX,if_pos h,Int.toNat_natCast];exact DY h1 (by omega)
def Fs(nm:ByteArray)(n:Int):ByteArray:=((nm++(⟨#[32,61,32]⟩:ByteArray))++kW n)++(⟨#[10]⟩:ByteArray)
def fM(vs:List zO)(ns:List Int)(k:Nat):List UInt8:=(List.range k).flatMap λi=>(Fs (zR .var vs i).name (zR .int ns i)).data.toList
def zcq(m:zD):ByteArray:=if m.goal=0 then⟨#[102,111,117,110,100,10]⟩else⟨#[98,101,115,116,10]⟩
def Ft(m:zD)(ns:List Int):ByteArray:=⟨((zcq m).data.toList++fM m.vars ns m.vars.length).toArray⟩
def Iu(m:zD)(a:D5):ByteArray:=if a.verdict=1 then Ft m a.values else if a.verdict=2 then⟨#[110,111,110,101,10]⟩else⟨#[117,110,107,110,111,119,110,10]⟩
abbrev zkl(buf:List UInt8):List (Nat×yI):=[(1000,.cells [.slf 1000,.own 2000]),(2000,.row 5 .byte buf)]
theorem R1{buf:List UInt8}(s:ByteArray)(h:buf.length+s.size≤140737488355328):xD zN [.ptr 1000 0,.str s] (zkl buf) (.tup [dI (s.size:Int),.undef]) (zkl (buf++s.data.toList)):=
 cZ _ _ λok ok2=>by
  rw[bY];exact⟨NR _ _ (λT h=>ziX T _ h),xX (t:=.byte) (by show(_+_)*1≤_;omega),rfl,rfl⟩
theorem OO{nm:ByteArray}{n:Int}(h:nm.size≤12)(hn: -1000≤n∧n≤1000):(Fs nm n).size≤37:=by
 have:=fk hn;unfold Fs;simp only[ByteArray.size_append,mT,List.size_toArray,List.length_cons,List.length_nil];omega
theorem Ry{vs:List zO}{ns:List Int}{k:Nat}(h1:k<vs.length)(h2:k<ns.length):fM vs ns (k+1)=fM vs ns k++(Fs vs[k].name ns[k]).data.toList:=by
 unfold fM;rw[List.range_succ,List.flatMap_append,List.flatMap_singleton,atN (t:=.var) h1,atN (t:=.int) h2]
theorem OP{vs:List zO}{ns:List Int}(hnm:∀v∈vs,v.name.size≤12)(hb:∀n∈ns,-1000≤n∧n≤1000)(hl:ns.length=vs.length):∀k,k≤vs.length→(fM vs ns k).length≤k*37
 |0,_=>by simp[fM]
 |k+1,hk=>by
  have ih:=OP hnm hb hl k (by omega)
  have z:=OO (hnm _ (List.getElem_mem (by omega:k<vs.length))) (hb _ (List.getElem_mem (by omega:k<ns.length)))
  have z:(Fs vs[k].name ns[k]).data.toList.length≤37:=z;rw[Ry (by omega) (by omega),List.length_append];omega
section
variable {m:zD}{ns:List Int}(h:AG m)(hl:ns.length=m.vars.length)(hb:∀n∈ns,-1000≤n∧n≤1000)
include h hl hb
theorem zcr{R:D→Prop}{hd:ByteArray}(hz:hd.size≤10)(hne:hd.data.toList≠[])(hR:R (.str ⟨(hd.data.toList++fM m.vars ns m.vars.length).toArray⟩)):∃n,kV m ns R n 0 hd.data.toList:=by
 have hv6:=h.right.vars;have hz':hd.data.toList.length≤10:=hz;refine up (I:=λn v (buf:List UInt8)=>kV m ns R n v buf) (a:=hd.data.toList) 0 m.vars.length rfl (Nat.zero_le _) (by omega) (λk buf=>buf=hd.data.toList++fM m.vars ns k) (by simp[fM]) λn k buf _ hk ha hn=> ?_
 subst ha;have hlen:=OP h.names hb hl k hk;have hlen2:(hd.data.toList++fM m.vars ns k).length≤1000:=by rw[List.length_append];omega
 rw[Oe]
 by_cases hlt:k<m.vars.length
 ·rw[yK hlt,zX (t:=.var) hlt,zX (t:=.int) (by omega:k<ns.length)]
  have z1:=h.names _ (List.getElem_mem hlt);have hb':=hb _ (List.getElem_mem (by omega:k<ns.length))
  have z2:=fk hb';have z3:=OO z1 hb';have hw:=R1 (buf:=hd.data.toList++fM m.vars ns k) (Fs m.vars[k].name ns[k]) (by omega)
  refine⟨zM hlt,zM (by omega),zG (t:=.str) (fj (jK hb')) ⟨?_,?_,?_,_,_,hw,hn hlt _ ?_⟩⟩
  ·simp only[mT,List.size_toArray,List.length_cons,List.length_nil];omega
  ·simp only[ByteArray.size_append,mT,List.size_toArray,List.length_cons,List.length_nil];omega
  ·simp only[ByteArray.size_append,mT,List.size_toArray,List.length_cons,List.length_nil];omega
  ·rw[Ry hlt (by omega),List.append_assoc]
 ·have e:k=m.vars.length:=by omega
  subst e;rw[zW];exact⟨_,Ly _ _ _ (λe=>hne (List.append_eq_nil_iff.1 e).1) (by unfold yQ;omega),hR⟩
theorem zcs{R:D→Prop}{hd:ByteArray}(hz:hd.size≤10)(hne:hd.data.toList≠[])(hR:R (.str ⟨(hd.data.toList++fM m.vars ns m.vars.length).toArray⟩)):∃n,nJ m ns R n 0 hd.data.toList:=by
 have hv6:=h.right.vars;have hz':hd.data.toList.length≤10:=hz;refine up (I:=λn v (buf:List UInt8)=>nJ m ns R n v buf) (a:=hd.data.toList) 0 m.vars.length rfl (Nat.zero_le _) (by omega) (λk buf=>buf=hd.data.toList++fM m.vars ns k) (by simp[fM]) λn k buf _ hk ha hn=> ?_
 subst ha;have hlen:=OP h.names hb hl k hk;have hlen2:(hd.data.toList++fM m.vars ns k).length≤1000:=by rw[List.length_append];omega
 rw[SU]
 by_cases hlt:k<m.vars.length
 ·rw[yK hlt,zX (t:=.var) hlt,zX (t:=.int) (by omega:k<ns.length)]
  have z1:=h.names _ (List.getElem_mem hlt);have hb':=hb _ (List.getElem_mem (by omega:k<ns.length))
  have z2:=fk hb';have z3:=OO z1 hb';have hw:=R1 (buf:=hd.data.toList++fM m.vars ns k) (Fs m.vars[k].name ns[k]) (by omega)
  refine⟨zM hlt,zM (by omega),zG (t:=.str) (fj (jK hb')) ⟨?_,?_,?_,_,_,hw,hn hlt _ ?_⟩⟩
  ·simp only[mT,List.size_toArray,List.length_cons,List.length_nil];omega
  ·simp only[ByteArray.size_append,mT,List.size_toArray,List.length_cons,List.length_nil];omega
  ·simp only[ByteArray.size_append,mT,List.size_toArray,List.length_cons,List.length_nil];omega
  ·rw[Ry hlt (by omega),List.append_assoc]
 ·have e:k=m.vars.length:=by omega
  subst e;rw[zW];exact⟨_,Ly _ _ _ (λe=>hne (List.append_eq_nil_iff.1 e).1) (by unfold yQ;omega),hR⟩
theorem J6:uG bD [dM m,.sl .int ns] (XV .str (Ft m ns)):=
 Lx m ns λok=>by
  rw[Jt]
  by_cases hg:m.goal=0
  ·refine dt hg ⟨_,_,R1 (buf:=[]) ⟨#[102,111,117,110,100,10]⟩ (by decide),zcr h hl hb (hd:=⟨#[102,111,117,110,100,10]⟩) (by decide) (by decide) ?_⟩
   unfold Ft zcq;rw[if_pos hg];rfl
  ·refine df hg ⟨_,_,R1 (buf:=[]) ⟨#[98,101,115,116,10]⟩ (by decide),zcs h hl hb (hd:=⟨#[98,101,115,116,10]⟩) (by decide) (by decide) ?_⟩
   unfold Ft zcq;rw[if_neg hg];rfl
end
section
variable {m:zD}{a:D5}(h:AG m)(hl:a.values.length=m.vars.length)(hb:∀n∈a.values,-1000≤n∧n≤1000)
include h hl hb
end
structure Pc where
 k:Nat
 w:List UInt8
 sep:List UInt8
def nw:List UInt8→Bool
 |[]=>true
 |c::_=> !isW c
def byt(ps:List Pc):List UInt8:=ps.flatMap λp=>p.w++p.sep
structure POk (p:Pc):Prop where
 sep:∀c∈p.sep,cA c=true
 ne:p.w≠[]
 tok:∀r,(p.k=3∨nw r=true)→yS (p.w++r)=(p.k,p.w.length)
 bad:pC p.k p.w.length (p.w.headD 0)=0
 kind:p.k≠0

section
variable {vs:List zO}(hn:∀v∈vs,zU v.name=true)
include hn
end
abbrev hpR(l:List tX)(en goal mvar:Int)(pv:List zO)(pc:List zF)(j:Nat)(er:Int):List (Nat×yI):=
 [(1000,.cells [.sl .tok l,dI j,dI en,dI er,.own 2000,.own 2001,dI goal,dI mvar]),(2000,.row 72 .var pv),(2001,.row 74 .con pc)]
def Pr.st{α:Type}:Pr α→Nat×Int
 | .ok _ j=>(j,0)
 | .err j e=>(j,e)
def stR{α:Type}(r:Pr α)(j:Nat)(er:Int):Nat×Int:=if er=0 then r.st else(j,er)
section
variable {l:List tX}{en goal mvar:Int}{pv:List zO}{pc:List zF}
end
section
variable {l:List tX}{en goal mvar:Int}{pv:List zO}{pc:List zF}{names:List (ByteArray×Int)}
def ziC{α:Type}(l:List tX)(en goal mvar:Int)(pv:List zO)(pc:List zF)(f:FuncId)(args:List D)(d:α→D)(r:Pr α)(j:Nat)(er:Int):Prop:=
 ∃x,xD f args (hpR l en goal mvar pv pc j er) (d x) (hpR l en goal mvar pv pc (stR r j er).1 (stR r j er).2)∧(er=0→∀y k,r=.ok y k→x=y)
def KY(l:List tX)(ss:List ByteArray)(j:Nat):Pr Int:=match bV l ss 0 j with
 |some o=> .ok o (j+1)
 |none=> .err j 1
end
section
variable {l:List tX}{en goal mvar:Int}{pv:List zO}{pc:List zF}
end
theorem zaw{α:Type}{l:List tX}{f:Nat→Pr α}{j:Nat}:oG l f j=if tJ l ⟨#[91]⟩ j=true then(if tJ l ⟨#[93]⟩ (j+1)=true then .ok [] (j+2)else(f (j+1)).bind λx j=>Zb l f (l.length+1) [x] j)else .err j 1:=by
 rw[oG,uM,uM]
 by_cases h:tJ l ⟨#[91]⟩ j=true
 ·rw[if_pos h,if_pos h];rfl
 ·rw[if_neg h,if_neg h];rfl
section
variable {l:List tX}{en goal mvar:Int}{pv:List zO}{pc:List zF}{names:List (ByteArray×Int)}
end
def zg4(l:List tX):Prop:=∀t∈l,(t.kind=2→0<t.text.size∧t.text.size≤4∧∀i,i<t.text.size→48≤nN t.text i∧nN t.text i≤57)∧(t.kind≠2→¬(48≤nN t.text 0∧nN t.text 0≤57))
def zax(s:ByteArray):Nat→Int
 |0=>0
 |k+1=>10*zax s k+nN s k-48
theorem zds{s:ByteArray}(h:∀i,i<s.size→48≤nN s i∧nN s i≤57):∀k,k≤s.size→0≤zax s k∧zax s k<10^k
 |0,_=>⟨Int.le_refl _,by rw[zax];decide⟩
 |k+1,hk=>by
  obtain⟨h1,h2⟩:=zds h k (by omega)
  have h3:=h k (by omega)
  rw[zax,Int.pow_succ];generalize(10:Int)^k=p at h2
  omega
theorem zay{s:ByteArray}(h:∀i,i<s.size→48≤nN s i∧nN s i≤57):∀k,k≤s.size→∃n:Nat,Lib.decFrom 0 (s.data.toList.take k)=some n∧zax s k=(n:Int)
 |0,_=>⟨0,rfl,rfl⟩
 |k+1,hk=>by
  obtain⟨n,h1,h2⟩:=zay h k (by omega)
  have h3:=h k (by omega)
  have hl:k<s.data.size:=by have:s.size=s.data.size:=rfl;omega
  have hb:s.data.toList[k]? =some (s.data[k]):=by rw[Array.getElem?_toList,Array.getElem?_eq_getElem hl]
  have e:nN s k=((s.data[k]).toNat:Int):=by unfold nN;rw[Array.getD_eq_getD_getElem?,Array.getElem?_eq_getElem hl];rfl
  have hv:Lib.digitVal (s.data[k])=some ((s.data[k]).toNat-48):=by unfold Lib.digitVal;rw[if_pos (by omega)]
  refine⟨_,Lib.decFrom_take _ _ _ _ _ _ h1 hb hv,?_⟩;rw[zax,h2];omega
theorem ziD{s:ByteArray}(h0:0<s.size)(h:∀i,i<s.size→48≤nN s i∧nN s i≤57):Lib.atoi s.data.toList=some (zax s s.size):=by
 obtain⟨n,h1,h2⟩:=zay h s.size (Nat.le_refl _);have hl:s.data.toList.length=s.size:=rfl;rw[List.take_of_length_le (by omega)]at h1
 have h3:=h 0 h0
 have e:nN s 0=((s.data.toList.headD 0).toNat:Int):=by
  unfold nN;cases hd:s.data.toList with
  |nil=>rw[hd]at hl;simp at hl;omega
  |cons c r=>
   have:s.data=(c::r).toArray:=by rw[←hd]
   rw[this];rfl
 cases hd:s.data.toList with
 |nil=>rw[hd]at hl;simp at hl;omega
 |cons c r=>
  rw[hd]at h1 e
  simp only[List.headD_cons]at e
  unfold Lib.atoi;simp only;rw[if_neg (by intro x;have:=eq_of_beq x;subst this;rw[e]at h3;simp at h3),if_neg (by intro x;have:=eq_of_beq x;subst this;rw[e]at h3;simp at h3),Lib.decNat,if_neg (by simp),h1,h2]
  rfl
theorem zg5{l:List tX}(h:zg4 l):cJ l:=λt ht hk=>by
 obtain⟨h1,h2,h3⟩:=(h t ht).1 hk;have hb:=zds h3 _ (Nat.le_refl _);refine⟨by omega,_,ziD h1 h3,hb.1,?_⟩
 have h4:t.text.size=1∨t.text.size=2∨t.text.size=3∨t.text.size=4:=by omega
 rcases h4 with h4|h4|h4|h4<;>rw[h4]at hb⊢<;>have:=hb.2<;>simp at this<;>omega
section
variable {l:List tX}{en goal mvar:Int}{pv:List zO}{pc:List zF}
theorem zdt{j:Nat}(hj:j<l.length):fi l j∈l:=by
 unfold fi;rw[List.getD_eq_getElem?_getD,List.getElem?_eq_getElem hj];exact List.getElem_mem hj
end
section
variable {l:List tX}{en goal mvar:Int}{pv:List zO}{pc:List zF}{names:List (ByteArray×Int)}
theorem KZ{ss:List ByteArray}{j:Nat}:∀(i:Int),bV l ss (i+1) j=(bV l ss i j).map (1+·):=by
 induction ss with
 |nil=>exact λ_=>rfl
 |cons s r ih=>
  intro i;rw[bV,bV];split
  ·show some (i+1)=some (1+i);rw[Int.add_comm]
  ·exact ih (i+1)
theorem ziE{j:Nat}:Ls zU uH names l j=(vP zU names l j).bind λv j=>(KY l opW j).bind λo j=>(kP uH l j).bind λn j=> .ok ⟨v,1+o,n⟩ j:=by
 unfold Ls
 congr 1;funext v j
 have:=KZ (l:=l) (ss:=opW) (j:=j) 0;rw[show(1:Int)=0+1 from rfl,this]
 unfold KY;cases bV l opW 0 j<;>rfl
def Ans{α:Type}(r:Pr α)(j:Nat)(er:Int)(x:α)(s:Nat×Int):Prop:=s=stR r j er∧(er=0→∀y k,r=.ok y k→x=y)
theorem Ans.bind{α β:Type}{r:Pr α}{f:α→Nat→Pr β}{j:Nat}{er:Int}{x:α}{z:β}{s s':Nat×Int}(he:∀i e,r=.err i e→e≠0)(h1:Ans r j er x s)(h2:Ans (f x s.1) s.1 s.2 z s'):Ans (r.bind f) j er z s':=by
 obtain⟨rfl,h1⟩:=h1;obtain⟨rfl,h2⟩:=h2
 by_cases h:er=0
 ·subst h
  have e:stR r j 0=r.st:=if_pos rfl;rw[e]at h2⊢
  have e':stR (r.bind f) j 0=(r.bind f).st:=if_pos rfl;cases r with
  |ok y k=>
   have hx:=h1 rfl y k rfl;subst hx;exact⟨(if_pos rfl).trans e'.symm,λ_=>h2 rfl⟩
  |err k e1=>
   have hne:=he k e1 rfl;exact⟨(if_neg hne).trans e'.symm,λ_ y k h=>by cases h⟩
 ·have e:stR r j er=(j,er):=if_neg h
  rw[e]at h2⊢
  exact⟨(if_neg h).trans (if_neg h).symm,λh'=>absurd h' h⟩
theorem ziC.ans{α:Type}{f:FuncId}{args:List D}{d:α→D}{r:Pr α}{j:Nat}{er:Int}(h:ziC l en goal mvar pv pc f args d r j er):∃x s,xD f args (hpR l en goal mvar pv pc j er) (d x) (hpR l en goal mvar pv pc s.1 s.2)∧Ans r j er x s:=
 let⟨x,h1,h2⟩:=h
 ⟨x,_,h1,rfl,h2⟩
theorem ziC.of{α:Type}{f:FuncId}{args:List D}{d:α→D}{r:Pr α}{j:Nat}{er:Int}{x:α}{s:Nat×Int}(h:xD f args (hpR l en goal mvar pv pc j er) (d x) (hpR l en goal mvar pv pc s.1 s.2))(ha:Ans r j er x s):ziC l en goal mvar pv pc f args d r j er:=by
 obtain⟨rfl,h2⟩:=ha;exact⟨x,h,h2⟩
end
section
variable {l:List tX}{en goal mvar:Int}{pv:List zO}{pc:List zF}{names:List (ByteArray×Int)}
theorem ziF{j:Nat}:Av zU uH names l j=(KY l QI j).bind λo j=>TD zU uH names l (1+o) j:=by
 unfold Av;have:=KZ (l:=l) (ss:=QI) (j:=j) 0;rw[show(1:Int)=0+1 from rfl,this]
 unfold KY;cases bV l QI 0 j<;>rfl
end
def Kg:zD:=⟨[],[],0,0⟩
abbrev dR(x:zD×Int×Int):D:=.tup [dM x.1,dI x.2.1,dI x.2.2]
def zct:xP:= {own:=[],live:=[],n:=22,first:=true}
structure zg6 (w0 w:World)(p q r:Nat)(a e:Int):Prop where
 below:sP w0.heap.size (λb=>b=p∨b=q∨b=r) w0 w
 m:∃vs T,w.heap[p]? =some (.cells vs T (0,0))∧vs.size=4∧∀i d,[D.sl .var ([]:List zO),D.sl .con ([]:List zF),dI 0,dI 0][i]? =some d→Rp w (λb=>w0.heap.size≤b∧b<w.heap.size) (vs.getD i undef) d
 at_:∃T,w.heap[q]? =some (.cells #[.int .i64 a] T (0,0))
 e:∃T,w.heap[r]? =some (.cells #[.int .i64 e] T (0,0))
theorem zeP(a e:Int)(Q:Ex→Option yI→Option yI→Option yI→Prop):den Tryz.prog Ev zct (sub [1,1,0,1,1] (Zj Tryz.f93)) 0 ⟨[(0,.ptr 1000 0),(1,.ptr 1001 0),(2,.ptr 1002 0),(4,.ptr 3000 0)],[(1000,yI.cells [D.sl .var ([]:List zO),D.sl .con ([]:List zF),dI 0,dI 0]),(1001,yI.cells [dI 0]),(1002,yI.cells [dI 0]),(3000,yI.cells [dI a,dI e])]⟩ (λx σ=>Q x (zV 1000 σ.hp) (zV 1001 σ.hp) (zV 1002 σ.hp))=(λp:Prop=>((((p)∧((p)∧p)))∧(((p)∧p))∧((p)∧p))) (Q .normal (some (yI.cells [D.sl .var ([]:List zO),D.sl .con ([]:List zF),dI 0,dI 0])) (some (yI.cells [dI a])) (some (yI.cells [dI e]))):=by kernel_rfl
theorem zg7{w:World}{S:Nat→Prop}(t:Ty):Rp w S (.slice none 0 0) (.sl t []):=
 QZ.sl (t:=t) ⟨none,0,rfl,by simp,by simp,by simp,λ_=>rfl,λhn=>absurd hn (by simp)⟩
abbrev Fu(a e:Int):Value:=.iface 158 (.agg #[.int .i64 a,.int .i64 e])
abbrev nT(b:Nat):Value:=.pointer (some ⟨b,0,none⟩)
theorem zcu{a e:Int}{w0 w:World}{act:Act}{p q r k:Nat}{Tp Tq Tr Tk:TypeId}(dz:act.defers=[])(sz:act.tmps.size=22)
  (t0:act.tmps.getD 0 undef=nT p) (t1:act.tmps.getD 1 undef=nT q) (t2:act.tmps.getD 2 undef=nT r) (t4:act.tmps.getD 4 undef=nT k)
  (hp:w.heap[p]? =some (.cells #[.slice none 0 0,.slice none 0 0,.int .i64 0,.int .i64 0] Tp (0,0))) (hq:w.heap[q]? =some (.cells #[.int .i64 0] Tq (0,0))) (hr:w.heap[r]? =some (.cells #[.int .i64 0] Tr (0,0)))
  (hk:w.heap[k]? =some (.cells #[.int .i64 a,.int .i64 e] Tk (0,0))) (ha:yQ a) (he:yQ e)
  (lp:p<w0.heap.size) (lq:q<w0.heap.size) (lr:r<w0.heap.size) (lk:w0.heap.size≤k) (hpq:p≠q) (hpr:p≠r) (hqr:q≠r)
  (hb:sP w0.heap.size (λb=>b=p∨b=q∨b=r) w0 w) (hg:EJ Tryz.prog w0 (λb=>b=p∨b=q∨b=r)):
  (sub [1,1,0,1,1] (Zj Tryz.f93)).wp Tryz.prog (λx a' w'=>x=.normal∧a'.defers=[]∧zg6 w0 w' p q r a e) act w:=by
 have lt:∀ {b:Nat} {o:Obj},w.heap[b]? =some o→b<w.heap.size:=λh=>(Array.getElem?_eq_some_iff.1 h).1
 let pl:Nat→Value:=λi=>if i=1000 then nT p else if i=1001 then nT q else if i=1002 then nT r else nT k
 let b0:XW:=⟨w0,λ_=>False,λb=>b=p∨b=q∨b=r,pl⟩
 let Q:Ex→Option yI→Option yI→Option yI→Prop:=λx m1 m2 m3=>x=.normal∧m1=some (yI.cells [D.sl .var ([]:List zO),D.sl .con ([]:List zF),dI 0,dI 0])∧m2=some (yI.cells [dI a])∧m3=some (yI.cells [dI e])
 have hden:den Tryz.prog Ev zct (sub [1,1,0,1,1] (Zj Tryz.f93)) 0 ⟨[(0,.ptr 1000 0),(1,.ptr 1001 0),(2,.ptr 1002 0),(4,.ptr 3000 0)],[(1000,yI.cells [D.sl .var ([]:List zO),D.sl .con ([]:List zF),dI 0,dI 0]),(1001,yI.cells [dI 0]),(1002,yI.cells [dI 0]),(3000,yI.cells [dI a,dI e])]⟩ (λx σ=>Q x (zV 1000 σ.hp) (zV 1001 σ.hp) (zV 1002 σ.hp)):=by
  rw[zeP];have h:Q .normal (some (yI.cells [D.sl .var ([]:List zO),D.sl .con ([]:List zF),dI 0,dI 0])) (some (yI.cells [dI a])) (some (yI.cells [dI e])):=⟨rfl,rfl,rfl,rfl⟩;exact⟨⟨h,h,h⟩,⟨h,h⟩,h,h⟩
 have hlook:∀j o,zV j ([(1000,yI.cells [D.sl .var ([]:List zO),D.sl .con ([]:List zF),dI 0,dI 0]),(1001,yI.cells [dI 0]),(1002,yI.cells [dI 0]),(3000,yI.cells [dI a,dI e])]:List (Nat×yI))=some o→
   (j=1000∧o=yI.cells [D.sl .var ([]:List zO),D.sl .con ([]:List zF),dI 0,dI 0])∨(j=1001∧o=yI.cells [dI 0])∨(j=1002∧o=yI.cells [dI 0])∨(j=3000∧o=yI.cells [dI a,dI e]):=λj o h=>by
  simp only[xM]at h
  split at h
  ·injection h with h;exact .inl ⟨by omega,h.symm⟩
  split at h
  ·injection h with h;exact .inr (.inl ⟨by omega,h.symm⟩)
  split at h
  ·injection h with h;exact .inr (.inr (.inl ⟨by omega,h.symm⟩))
  split at h
  ·injection h with h;exact .inr (.inr (.inr ⟨by omega,h.symm⟩))
  ·cases h
 have hob:∀j o b,zV j ([(1000,yI.cells [D.sl .var ([]:List zO),D.sl .con ([]:List zF),dI 0,dI 0]),(1001,yI.cells [dI 0]),(1002,yI.cells [dI 0]),(3000,yI.cells [dI a,dI e])]:List (Nat×yI))=some o→qK (pl j)=some b→
   (j=1000∧b=p)∨(j=1001∧b=q)∨(j=1002∧b=r)∨(j=3000∧b=k):=λj o b h h2=>by
  rcases hlook j o h with⟨rfl,_⟩|⟨rfl,_⟩|⟨rfl,_⟩|⟨rfl,_⟩<;>simp[pl,qK]at h2<;>simp[h2]
 have m:tY Tryz.prog b0 22 ⟨[(0,.ptr 1000 0),(1,.ptr 1001 0),(2,.ptr 1002 0),(4,.ptr 3000 0)],[(1000,yI.cells [D.sl .var ([]:List zO),D.sl .con ([]:List zF),dI 0,dI 0]),(1001,yI.cells [dI 0]),(1002,yI.cells [dI 0]),(3000,yI.cells [dI a,dI e])]⟩ act w (λ_=>False) pl:=by
  refine⟨dz,sz,λi=> ?_,λj o h=> ?_,λb h=>h.elim,λb h=>h.elim,λj o b h h2=> ?_,λj j' o o' b h h' h1 h2=> ?_,hb,λ_ _=>rfl,hg⟩
  ·show Rd w _ pl _ (D.or (zV i [(0,D.ptr 1000 0),(1,.ptr 1001 0),(2,.ptr 1002 0),(4,.ptr 3000 0)]))
   simp only[xM];split
   ·rename_i h;subst h;exact⟨p,rfl,t0⟩
   split
   ·rename_i h;subst h;exact⟨q,rfl,t1⟩
   split
   ·rename_i h;subst h;exact⟨r,rfl,t2⟩
   split
   ·rename_i h;subst h;exact⟨k,rfl,t4⟩
   ·exact oC
  ·rcases hlook j o h with⟨rfl,rfl⟩|⟨rfl,rfl⟩|⟨rfl,rfl⟩|⟨rfl,rfl⟩
   ·refine⟨p,_,_,rfl,hp,rfl,λi d hd=> ?_,λe=>by cases e⟩
    match i,hd with
    |0,hd=>injection hd with hd;subst hd;exact Rp.rd (zg7 .var)
    |1,hd=>injection hd with hd;subst hd;exact Rp.rd (zg7 .con)
    |2,hd=>injection hd with hd;subst hd;exact Rp.rd (.int_mk (by unfold yQ;omega))
    |3,hd=>injection hd with hd;subst hd;exact Rp.rd (.int_mk (by unfold yQ;omega))
   ·refine⟨q,_,_,rfl,hq,rfl,λi d hd=> ?_,λe=>by cases e⟩
    match i,hd with
    |0,hd=>injection hd with hd;subst hd;exact Rp.rd (.int_mk (by unfold yQ;omega))
   ·refine⟨r,_,_,rfl,hr,rfl,λi d hd=> ?_,λe=>by cases e⟩
    match i,hd with
    |0,hd=>injection hd with hd;subst hd;exact Rp.rd (.int_mk (by unfold yQ;omega))
   ·refine⟨k,_,_,rfl,hk,rfl,λi d hd=> ?_,λe=>by cases e⟩
    match i,hd with
    |0,hd=>injection hd with hd;subst hd;exact Rp.rd (.int_mk ha)
    |1,hd=>injection hd with hd;subst hd;exact Rp.rd (.int_mk he)
  ·rcases hob j o b h h2 with⟨_,rfl⟩|⟨_,rfl⟩|⟨_,rfl⟩|⟨_,rfl⟩
   ·exact⟨.inl (.inl rfl),lt hp,id⟩
   ·exact⟨.inl (.inr (.inl rfl)),lt hq,id⟩
   ·exact⟨.inl (.inr (.inr rfl)),lt hr,id⟩
   ·exact⟨.inr lk,lt hk,id⟩
  ·rcases hob j o b h h1 with⟨rfl,e1⟩|⟨rfl,e1⟩|⟨rfl,e1⟩|⟨rfl,e1⟩<;>rcases hob j' o' b h' h2 with⟨rfl,e2⟩|⟨rfl,e2⟩|⟨rfl,e2⟩|⟨rfl,e2⟩<;>first|rfl|(exfalso;subst e1;omega)
 refine wp_mono (zbg Nm (A:=zct) (b0:=b0) _ 0 _ _ act w hden ⟨_,_,m⟩) λx a' w' h=> ?_
 rcases h with⟨x',σ,hx,⟨rfl,h1,h2,h3⟩,S',pl',m'⟩|⟨u,σ,_,⟨h,_⟩,_⟩
 ·have hx:x=.normal:=by cases x<;>simp[BT]at hx⊢
  refine⟨hx,m'.dz,m'.below,?_,?_,?_⟩
  ·obtain⟨b,vs,T,e1,e2,e3,e4,_⟩:=m'.hp _ _ h1
   have:pl' 1000=nT p:=m'.stay 1000 rfl;rw[this]at e1;injection e1 with e1;injection e1 with e1;injection e1 with e1;subst e1
   refine⟨vs,T,e2,e3,λi d hd=> ?_⟩
   have:=e4 i d hd
   have hf:d.ref=none:=by
    match i,hd with
    |0,hd=>injection hd with hd;subst hd;rfl
    |1,hd=>injection hd with hd;subst hd;rfl
    |2,hd=>injection hd with hd;subst hd;rfl
    |3,hd=>injection hd with hd;subst hd;rfl
   refine(this.flat hf).mono (λ_ _=>rfl) λb hS=>⟨?_,m'.lt b hS⟩
   rcases m'.src b hS with h|h|h
   ·exact h.elim
   ·exfalso
    have:∃j o,zV j σ.hp=some o∧qK (pl' j)=some b:=by
     rcases h with rfl|rfl|rfl
     ·exact⟨1000,_,h1,by rw[m'.stay 1000 rfl];rfl⟩
     ·exact⟨1001,_,h2,by rw[m'.stay 1001 rfl];rfl⟩
     ·exact⟨1002,_,h3,by rw[m'.stay 1002 rfl];rfl⟩
    obtain⟨j,o,q1,q2⟩:=this;exact(m'.priv j o b q1 q2).2.2 hS
   ·exact h
  ·obtain⟨b,vs,T,e1,e2,e3,e4,_⟩:=m'.hp _ _ h2
   have:pl' 1001=nT q:=m'.stay 1001 rfl;rw[this]at e1;injection e1 with e1;injection e1 with e1;injection e1 with e1;subst e1
   have h0:=((e4 0 _ rfl).flat (d:=dI a) rfl).int_inv.1;refine⟨T,?_⟩;rw[e2]
   congr 2
   have e3:vs.size=1:=e3;apply Array.ext
   ·simpa using e3
   ·intro i i1 i2
    have:i=0:=by omega
    subst this;rw[Array.getD_eq_getD_getElem?,Array.getElem?_eq_getElem i1]at h0
    simpa using h0
  ·obtain⟨b,vs,T,e1,e2,e3,e4,_⟩:=m'.hp _ _ h3
   have:pl' 1002=nT r:=m'.stay 1002 rfl;rw[this]at e1;injection e1 with e1;injection e1 with e1;injection e1 with e1;subst e1
   have h0:=((e4 0 _ rfl).flat (d:=dI e) rfl).int_inv.1;refine⟨T,?_⟩;rw[e2]
   congr 2
   have e3:vs.size=1:=e3;apply Array.ext
   ·simpa using e3
   ·intro i i1 i2
    have:i=0:=by omega
    subst this;rw[Array.getD_eq_getD_getElem?,Array.getElem?_eq_getElem i1]at h0
    simpa using h0
 ·cases h
set_option maxRecDepth 100000 in
theorem J7(p q r:Nat)(w:World):CallsD Tryz.prog 93 #[nT p,nT q,nT r] .returning w λen u' w'=>en=.returned (.tuple #[])∧u'=.returning∧w'=w:=by
 refine callsD_of_wpS Tryz.func93 rfl λc₀ cs hu=> ?_
 apply wpS_seq;apply wpS_region;simp[wpOpsS,go_sem,recoverD,hu,Tryz.ntmps93,Exit.thenS];apply wpS_seq;apply wpS_region;simp[wpOpsS,go_sem,Exit.thenS];refine wpS_cond (t:=false) (by simp[Act.eval,Array.replicate]) ?_
 simp only[Bool.false_eq_true,if_false];refine wpS_of_wp (wp_skip ?_);cases c₀
 simp_all[bodyPostS,results,Tryz.results93,Exit.thenS]
set_option maxRecDepth 100000 in
theorem Fv{a e:Int}(ha:yQ a)(he:yQ e)(p q r:Nat)(w:World){Tp Tq Tr:TypeId}
  (hp:w.heap[p]? =some (.cells #[.slice none 0 0,.slice none 0 0,.int .i64 0,.int .i64 0] Tp (0,0))) (hq:w.heap[q]? =some (.cells #[.int .i64 0] Tq (0,0))) (hr:w.heap[r]? =some (.cells #[.int .i64 0] Tr (0,0)))
  (hpq:p≠q) (hpr:p≠r) (hqr:q≠r) (hg:EJ Tryz.prog w (λb=>b=p∨b=q∨b=r)):
  CallsD Tryz.prog 93 #[nT p,nT q,nT r] (.panicking [{v:=Fu a e,recovered:=false}]) w λen u' w'=>en=.returned (.tuple #[])∧u'=.panicking [{v:=Fu a e,recovered:=true}]∧zg6 w w' p q r a e:=by
 refine callsD_of_wpS Tryz.func93 rfl λc₀ cs hu=> ?_
 have hta:∀w:World,(Instr.typeAssert (.iface 158 (.agg #[.int .i64 a,.int .i64 e])) 20 158 true).run Tryz.prog w=.ok (.tuple #[.agg #[.int .i64 a,.int .i64 e],.bool true]) w:=λ_=>by kernel_rfl
 simp only[Tryz.ntmps93,List.size_toArray,List.length_cons,List.length_nil,Nat.reduceAdd,Nat.reduceSub,Array.replicate_succ,Array.replicate_zero,List.push_toArray,List.append_toArray,List.nil_append,List.cons_append];apply wpS_seq;apply wpS_region;simp[wpOpsS,go_sem,recoverD,hu,Exit.thenS];apply wpS_seq;apply wpS_region;simp[wpOpsS,go_sem,Exit.thenS];refine wpS_cond (t:=true) (by simp[Act.eval]) ?_
 simp only[if_true];refine wpS_of_wp ?_;refine wp_seq ?_;refine wp_mono (Q:=λx a' w'=>x=.normal∧a'=⟨#[nT p,nT q,nT r,Fu a e,nT w.heap.size,.bool true,Fu a e,Fu a e,.bool true,(.tuple #[.agg #[.int .i64 a,.int .i64 e],.bool true]),Fu a e,(.tuple #[.agg #[.int .i64 a,.int .i64 e],.bool true]),(.agg #[.int .i64 a,.int .i64 e]),.bool true,undef,undef,undef,undef,undef,undef,undef,undef],[]⟩∧w'=w.alloc (.cells #[.int .i64 a,.int .i64 e] 158)) ?_ ?_
 ·go_wp2_with fail
 rintro x a' w' ⟨rfl,rfl,rfl⟩;refine wp_seq ?_;refine wp_mono (Q:=λx a1 w1=>x=.normal∧a1=⟨#[nT p,nT q,nT r,Fu a e,nT w.heap.size,.bool true,Fu a e,Fu a e,.bool true,(.tuple #[.agg #[.int .i64 a,.int .i64 e],.bool true]),Fu a e,(.tuple #[.agg #[.int .i64 a,.int .i64 e],.bool true]),(.agg #[.int .i64 a,.int .i64 e]),.bool true,.bool true,.bool false,undef,undef,undef,undef,undef,undef],[]⟩∧w1=w.alloc (.cells #[.int .i64 a,.int .i64 e] 158)) ?_ ?_
 ·go_wp2_with fail
 rintro x a1 w1 ⟨rfl,rfl,rfl⟩;have hb:Below w.heap.size w (w.alloc (.cells #[.int .i64 a,.int .i64 e] 158)):=by(repeat'(first|(with_reducible exact Below.refl _ _)|(with_reducible assumption)|(with_reducible refine wQ ?_ _)|(with_reducible refine Below.alloc ?_ ?_ _)|(with_reducible refine Below.setCell ?_ ?_ _)|(with_reducible refine Below.drew ?_)|go_size))
 have hk:(w.alloc (.cells #[.int .i64 a,.int .i64 e] 158)).heap[w.heap.size]? =some (.cells #[.int .i64 a,.int .i64 e] 158 (0,0)):=by unfold World.alloc;simp
 have lt:∀ {b:Nat} {o:Obj},w.heap[b]? =some o→b<w.heap.size:=λh=>(Array.getElem?_eq_some_iff.1 h).1
 refine wp_mono (zcu rfl rfl rfl rfl rfl rfl ((hb.block _ (lt hp)).trans hp) ((hb.block _ (lt hq)).trans hq) ((hb.block _ (lt hr)).trans hr) hk ha he (lt hp) (lt hq) (lt hr) (Nat.le_refl _) hpq hpr hqr (.of hb) hg) ?_;rintro x a2 w2 ⟨rfl,dz,hc⟩;refine⟨dz,_,rfl,.tuple #[],?_,rfl,rfl,hc⟩;simp[results,Tryz.results93]
def goW:List ByteArray:=[⟨#[97,110,121]⟩,⟨#[108,101,97,115,116]⟩,⟨#[109,111,115,116]⟩]
def EE(m:zD):zD×Int×Int:=if yR m=0 then(m,0,0)else(Kg,0,yR m)
def Bw(l:List tX)(en:Int):zD×Int×Int:=match bW zU uH l with
 | .ok (m,_) _=>EE m
 | .err j e=>(Kg,rY l en j,e)
section
variable {l:List tX}{en:Int}{pv:List zO}{names:List (ByteArray×Int)}{R:D→Prop}
theorem zg8{j:Nat}:SR zU l names j=(uM l [⟨#[115,111,108,118,101]⟩] j).bind λ_ j=>(KY l goW j).bind λo j=>if o=0 then SQ l (0,0) j else(vP zU names l j).bind λv j=>SQ l (o,v) j:=by
 unfold SR
 congr 1;funext _ j
 simp only[KY,goW,bV];cases h1:tJ l ⟨#[97,110,121]⟩ j with
 |true=>rfl
 |false=>
  cases h2:tJ l ⟨#[108,101,97,115,116]⟩ j with
  |true=>rfl
  |false=>
   cases h3:tJ l ⟨#[109,111,115,116]⟩ j with
   |true=>simp only[uM,h3];rfl
   |false=>simp only[uM,h3];rfl
def zkG(l:List tX)(s:ByteArray)(j:Nat):Pr zO:=(uM l [⟨#[58]⟩] j).bind λ_ j=>(kP uH l j).bind λa j=>(uM l [⟨#[46,46]⟩] j).bind λ_ j=>(kP uH l j).bind λb j=>(uM l [⟨#[59]⟩] j).bind λ_ j=> .ok ⟨s,a,b⟩ j
end
def X6{α:Type}(f:Nat→Pr α):Prop:=∀i j e,f i=.err j e→e=1∨e=5
section
variable {l:List tX}{names:List (ByteArray×Int)}
theorem Rz:X6 (vP zU names l):=λi j e h=>by
 unfold vP Vs at h
 split at h
 ·simp only[Pr.bind]at h
  split at h
  ·cases h
  ·injection h with h1 h2;subst h2;decide
 ·injection h with h1 h2;subst h2;decide
theorem OQ{nv:ByteArray→Int}:X6 (kP nv l):=λi j e h=>by
 unfold kP zbE at h
 split at h<;>split at h<;>first|(cases h;done)|(injection h with _ h;subst h;decide)
theorem Fw{α:Type}{f:Nat→Pr α}(hf:X6 f):∀(n:Nat) (acc:List α),X6 (Zb l f n acc)
 |0,acc=>λi j e h=>by rw[Zb]at h;injection h with _ h;subst h;decide
 |n+1,acc=>λi j e h=>by
  rw[Zb]at h
  split at h
  ·cases hv:f (i+1)with
   |ok x k=>rw[hv]at h;exact Fw hf n _ _ _ _ h
   |err k e'=>rw[hv]at h;injection h with _ h;subst h;exact hf _ _ _ hv
  ·rw[uM,uM]at h
   split at h
   ·cases h
   ·injection h with _ h;subst h;decide
theorem fx{α:Type}{f:Nat→Pr α}(hf:X6 f):X6 (oG l f):=λi j e h=>by
 rw[zaw]at h
 split at h
 ·split at h
  ·cases h
  ·cases hv:f (i+1)with
   |ok x k=>rw[hv]at h;exact Fw hf _ _ _ _ _ h
   |err k e'=>rw[hv]at h;injection h with _ h;subst h;exact hf _ _ _ hv
 ·injection h with _ h;subst h;decide
theorem Kh{ss:List ByteArray}:X6 (KY l ss):=λi j e h=>by
 unfold KY at h
 split at h
 ·cases h
 ·injection h with _ h;subst h;decide
theorem xN{α β:Type}{f:Nat→Pr α}{g:α→Nat→Pr β}(hf:X6 f)(hg:∀x,X6 (g x)):X6 (λj=>(f j).bind g):=λi j e h=>by
 cases hv:f i with
 |ok x k=>simp only[hv,Pr.bind]at h;exact hg _ _ _ _ h
 |err k e'=>simp only[hv,Pr.bind]at h;injection h with _ h;subst h;exact hf _ _ _ hv
theorem aU{α:Type}{x:α}{f:Nat→Nat}:X6 (λj=>Pr.ok x (f j)):=λi j e h=>by cases h
theorem zaz:X6 (Ls zU uH names l):=λi j e h=>by
 rw[ziE]at h
 exact xN Rz (λv=>xN Kh λo=>xN OQ λn=>aU) _ _ _ h
theorem R2:∀(n:Nat) (acc:List Int),X6 (Vt zU names l n acc)
 |0,acc=>λi j e h=>by cases h
 |n+1,acc=>λi j e h=>by
  rw[Vt]at h
  exact xN (Rz (names:=names) (l:=l)) (λx=>R2 n _) _ _ _ h
theorem Y9{s:ByteArray}:X6 (uM l [s]):=λi j e h=>by
 rw[uM,uM]at h
 split at h
 ·cases h
 ·injection h with _ h;subst h;decide
theorem zeQ{o:Int}:X6 (TD zU uH names l o):=λi j e h=>by
 unfold TD at h
 split at h
 ·exact xN (fx OQ) (λ_=>xN (fx Rz) λ_=>xN OQ λ_=>aU (f:=λj=>j)) _ _ _ h
 split at h
 ·exact xN (fx Rz) (λ_=>aU (f:=λj=>j)) _ _ _ h
 split at h
 ·exact xN (fx OQ) (λ_=>xN (R2 2 []) λ_=>aU (f:=λj=>j)) _ _ _ h
 split at h
 ·exact xN (fx Rz) (λ_=>xN (fx (fx OQ)) λ_=>aU (f:=λj=>j)) _ _ _ h
 split at h
 ·exact xN (R2 3 []) (λ_=>aU (f:=λj=>j)) _ _ _ h
 split at h
 ·exact xN Rz (λ_=>xN (fx Rz) λ_=>aU (f:=λj=>j)) _ _ _ h
 split at h
 ·exact xN (fx zaz) (λ_=>aU (f:=λj=>j)) _ _ _ h
 ·exact xN (R2 1 []) (λ_=>xN zaz λ_=>aU (f:=λj=>j)) _ _ _ h
theorem zg9:X6 (Av zU uH names l):=λi j e h=>by
 rw[ziF]at h
 exact xN Kh (λo=>zeQ) _ _ _ h
theorem zeR{s:ByteArray}:X6 (zkG l s):=xN Y9 λ_=>xN OQ λa=>xN Y9 λ_=>xN OQ λb=>xN Y9 λ_=>aU (f:=λj=>j)
theorem zha:X6 (Eb zU uH l):=λi j e h=>by
 rw[Eb,Vs]at h
 split at h
 ·exact zeR _ _ _ h
 ·injection h with _ h;subst h;decide
theorem D1:∀(n:Nat) (vs:List zO) (ns:List (ByteArray×Int)),X6 (HH zU uH l n vs ns)
 |0,vs,ns=>λi j e h=>by rw[HH]at h;injection h with _ h;subst h;decide
 |n+1,vs,ns=>λi j e h=>by
  rw[HH]at h
  split at h
  ·exact xN (zha (l:=l)) (λv=>D1 n _ _) _ _ _ h
  ·cases h
theorem D2:∀(n:Nat) (cs:List zF),X6 (Pf zU uH l names n cs)
 |0,cs=>λi j e h=>by rw[Pf]at h;injection h with _ h;subst h;decide
 |n+1,cs=>λi j e h=>by
  rw[Pf]at h
  split at h
  ·exact xN (zg9 (l:=l) (names:=names)) (λc=>xN Y9 λ_=>D2 n _) _ _ _ h
  ·cases h
theorem D3{x:Int×Int}:X6 (SQ l x):=λi j e h=>by
 rw[SQ]at h
 refine xN (Y9 (l:=l) (s:=⟨#[59]⟩)) (λ_=> ?_) _ _ _ h
 intro i j e h;have h:(if i<l.length then Pr.err i 1 else Pr.ok x i)=Pr.err j e:=h
 split at h
 ·injection h with _ h;subst h;decide
 ·cases h
theorem zeS:X6 (SR zU l names):=λi j e h=>by
 rw[zg8]at h
 refine xN (Y9 (l:=l)) (λ_=>xN (Kh (l:=l)) λo=> ?_) _ _ _ h
 intro i j e h;have h:(if o=0 then SQ l (0,0) i else(vP zU names l i).bind λv j=>SQ l (o,v) j)=Pr.err j e:=h
 split at h
 ·exact D3 _ _ _ h
 ·exact xN (Rz (l:=l) (names:=names)) (λv=>D3) _ _ _ h
theorem OR{j:Nat}{e:Int}(h:bW zU uH l=.err j e):e=1∨e=5:=by
 rw[bW]at h
 exact xN (D1 (l:=l) _ [] []) (λx=>xN (D2 (l:=l) (names:=x.2) _ []) λcs=>xN (zeS (l:=l) (names:=x.2)) λg=>aU (f:=λj=>j)) _ _ _ h
theorem zhb{w:World}{S:Nat→Prop}{pl:Nat→Value}{en goal mvar:Int}{pv:List zO}{pc:List zF}{i:Nat}(hh:Ch w S pl (Zc l en goal mvar pv pc names i))(j:Nat):yQ (rY l en j):=by
 have h:=ziR (hh.ok 1000 _ rfl);unfold rY;split
 ·rename_i hj
  have h1:=h (.sl .tok l) (by simp)
  exact(h1.2 _ (zdt hj)).2.1
 ·exact h (dI en) (by simp)
end
section
variable {l:List tX}
section
variable {vs:List zO}{ns:List (ByteArray×Int)}(hn:∀v∈vs,zU v.name=true)(hN:∀i:Int,0≤i∧i<vs.length→tD .str .int (OS vs i) ns=some i)
include hn hN
end
end
def zcv(l:List tX)(en:Int):zD×Int×Int:=match bW zU uH l with
 | .ok (m,_) _=>(m,0,0)
 | .err j e=>(Kg,rY l en j,e)
theorem Ch.later{w w':World}{S:Nat→Prop}{pl:Nat→Value}{h:List (Nat×yI)}(hh:Ch w S pl h)(hS:∀b,S b→b<w.heap.size)(hb:Below w.heap.size w w'):Ch w' S pl h where
 ok:=λk o hk=>(hh.ok k o hk).mono (λb hs=>hb.block b (hS b hs)) (λb hb'=>hb.block b (hh.priv k o b hk hb').1) (λ_ h=>h) λ_ _ _ _=>rfl
 priv:=λk o b hk hb'=>⟨Nat.lt_of_lt_of_le (hh.priv k o b hk hb').1 hb.size,(hh.priv k o b hk hb').2⟩
 inj:=hh.inj
theorem zhc{P:Program}{w:World}{S:Nat→Prop}{pl:Nat→Value}{vs:Array Value}(hsz:vs.size=1)(hv:Rd w S pl (vs.getD 0 undef) (.ptr 1000 0)):∃b,pl 1000=nT b∧vs= #[nT b]:=by
 obtain⟨b,e1,e2⟩:=hv;refine⟨b,e1,?_⟩;apply Array.ext
 ·simpa using hsz
 ·intro i h1 h2
  have:i=0:=by omega
  subst this;rw[Array.getD_eq_getD_getElem?,Array.getElem?_eq_getElem h1]at e2
  simpa using e2
theorem zcw{l:List tX}{en:Int}(hd:cJ l){w w3:World}{S:Nat→Prop}{pl:Nat→Value}{b:Nat}(hS:∀b,S b→b<w.heap.size)(e1:pl 1000=nT b)(hh:Ch w S pl (Zc l en 0 0 [] [] [] 0))(hg:EJ Tryz.prog w (ox pl (Zc l en 0 0 [] [] [] 0)))(hb:Below w.heap.size w w3):
  Calls Tryz.prog 94 #[nT b] w3 λx w'=>sP w3.heap.size (ox pl (Zc l en 0 0 [] [] [] 0)) w3 w'∧match bW zU uH l with
   | .ok (m,ns) j=>x=.returned (.tuple #[])∧∃S' pl',Ch w' S' pl' (Zc l en m.goal m.var m.vars m.cons ns j)∧(∀b,S' b→b<w'.heap.size)∧(∀c,S' c→S c∨ox pl (Zc l en 0 0 [] [] [] 0) c∨w3.heap.size≤c)∧pl' 1000=nT b∧(∀c,ox pl' (Zc l en m.goal m.var m.vars m.cons ns j) c→ox pl (Zc l en 0 0 [] [] [] 0) c∨w3.heap.size≤c)
   | .err j e=>x=.panicked [{v:=Fu (rY l en j) e,recovered:=false}]:=by
 have h:=Ed (l:=l) (en:=en) hd;have hg3:EJ Tryz.prog w3 (ox pl (Zc l en 0 0 [] [] [] 0)):=hg.step (.of hb) λ_ h=> .inl h
 have hS3:∀b,S b→b<w3.heap.size:=λb h=>Nat.lt_of_lt_of_le (hS b h) hb.size
 have ha:∀i d,[D.ptr 1000 0][i]? =some d→Rd w3 S pl ((#[nT b]:Array Value).getD i undef) d:=λi d hi=>by
  match i,hi with
  |0,hi=>injection hi with hi;subst hi;exact⟨b,e1,rfl⟩
 cases hm:bW zU uH l with
 |ok x j=>
  obtain⟨m,ns⟩:=x;rw[hm]at h
  refine(h w3 S #[nT b] pl hS3 rfl ha (hh.later hS hb) hg3).mono λx w' ⟨v,S',pl',q1,q2,q3,q4,q5,q6,q7,q8⟩=>⟨q8,?_,S',pl',q3,q4,q5,(q7 1000 rfl).trans e1,q6⟩
  obtain⟨vs,rfl,hz,_⟩:=(q2.flat (d:=.tup []) rfl).tup_inv;rw[q1];have:vs= #[]:=Array.eq_empty_of_size_eq_zero hz;rw[this]
 |err j e=>
  rw[hm]at h
  exact(h w3 S #[nT b] pl hS3 rfl ha (hh.later hS hb) hg3).mono λx w' ⟨q1,q2⟩=>⟨q2,q1⟩
theorem mG{w:World}{b:Nat}{vs:Array Value}{T:TypeId}(h:w.heap[b]? =some (.cells vs T (0,0))){i:Nat}(hi:i<vs.size):w.cell? ⟨b,i,none⟩=some (vs.getD i undef):=by
 rw[cell_of_row w b i vs T (0,0) h];simp[Array.getD_eq_getD_getElem?,hi]
theorem Pq{w:World}{p q r:Nat}{tmps:Array Value}{vs:Array Value}{Tp Tq Tr:TypeId}{a e:Int}(t2:tmps.getD 2 undef=nT p)(t3:tmps.getD 3 undef=nT q)(t4:tmps.getD 4 undef=nT r)
  (hp:w.heap[p]? =some (.cells vs Tp (0,0))) (hz:vs.size=4) (hq:w.heap[q]? =some (.cells #[.int .i64 a] Tq (0,0))) (hr:w.heap[r]? =some (.cells #[.int .i64 e] Tr (0,0))):
  (results Tryz.f42 tmps).run Tryz.prog w=.ok (.tuple #[.agg #[vs.getD 0 undef,vs.getD 1 undef,vs.getD 2 undef,vs.getD 3 undef],.int .i64 a,.int .i64 e]) w:=by
 have c0:=mG hp (i:=0) (by omega)
 have c1:=mG hp (i:=1) (by omega)
 have c2:=mG hp (i:=2) (by omega)
 have c3:=mG hp (i:=3) (by omega)
 have c4:=mG hq (i:=0) (Nat.zero_lt_one);have c5:=mG hr (i:=0) (Nat.zero_lt_one);simp only[Array.getD_eq_getD_getElem?]at t2 t3 t4
 simp[results,Tryz.results42,go_sem,t2,t3,t4,c0,c1,c2,c3,c4,c5]
theorem Fx(w:World)(o:Obj):(w.alloc o).heap[w.heap.size]? =some o:=by unfold World.alloc;simp
theorem Ki{w:World}{o:Obj}{b:Nat}(h:b<w.heap.size):(w.alloc o).heap[b]? =w.heap[b]? :=by
 unfold World.alloc;simp only[Array.getElem?_push];rw[if_neg (by omega)]
theorem Kj(w:World)(o1 o2 o3:Obj):(((w.alloc o1).alloc o2).alloc o3).heap[w.heap.size]? =some o1∧(((w.alloc o1).alloc o2).alloc o3).heap[w.heap.size+1]? =some o2∧(((w.alloc o1).alloc o2).alloc o3).heap[w.heap.size+1+1]? =some o3:=by
 have h1:(w.alloc o1).heap.size=w.heap.size+1:=by simp
 have h2:((w.alloc o1).alloc o2).heap.size=w.heap.size+1+1:=by simp
 refine⟨?_,?_,?_⟩
 ·rw[Ki (by omega),Ki (by omega)];exact Fx _ _
 ·rw[Ki (by omega),←h1];exact Fx _ _
 ·rw[←h2];exact Fx _ _
theorem zaA{l:List tX}{en:Int}{w w4:World}{S S':Nat→Prop}{pl pl':Nat→Value}{b j:Nat}{m:zD}{ns:List (ByteArray×Int)}(hh:Ch w S pl (Zc l en 0 0 [] [] [] 0))(hb:sP (((w.alloc (.cells #[.slice none 0 0,.slice none 0 0,.int .i64 0,.int .i64 0] 25)).alloc (.cells #[.int .i64 0] 3)).alloc (.cells #[.int .i64 0] 26)).heap.size (ox pl (Zc l en 0 0 [] [] [] 0)) (((w.alloc (.cells #[.slice none 0 0,.slice none 0 0,.int .i64 0,.int .i64 0] 25)).alloc (.cells #[.int .i64 0] 3)).alloc (.cells #[.int .i64 0] 26)) w4)
  (h4:Ch w4 S' pl' (Zc l en m.goal m.var m.vars m.cons ns j)) (hpl:pl' 1000=nT b):∃A1 n1 c1 A2 n2 c2,pl' 2000=.slice A1 n1 c1∧pl' 2001=.slice A2 n2 c2∧w4.cell? ⟨b,3,none⟩=some (.slice A1 n1 c1)∧w4.cell? ⟨b,4,none⟩=some (.slice A2 n2 c2)∧w4.cell? ⟨b,5,none⟩=some (.int .i64 m.goal)∧w4.cell? ⟨b,6,none⟩=some (.int .i64 m.var)∧yQ m.goal∧yQ m.var∧
   w4.heap[w.heap.size]? =some (.cells #[.slice none 0 0,.slice none 0 0,.int .i64 0,.int .i64 0] 25 (0,0))∧w4.heap[w.heap.size+1]? =some (.cells #[.int .i64 0] 3 (0,0))∧w4.heap[w.heap.size+1+1]? =some (.cells #[.int .i64 0] 26 (0,0))∧
   w4.cell? ⟨w.heap.size,0,none⟩=some (.slice none 0 0)∧w4.cell? ⟨w.heap.size,1,none⟩=some (.slice none 0 0)∧w4.cell? ⟨w.heap.size,2,none⟩=some (.int .i64 0)∧w4.cell? ⟨w.heap.size,3,none⟩=some (.int .i64 0)∧w4.cell? ⟨w.heap.size+1,0,none⟩=some (.int .i64 0)∧w4.cell? ⟨w.heap.size+1+1,0,none⟩=some (.int .i64 0)∧
   w4.frozen? ⟨w.heap.size,0,none⟩=false∧w4.frozen? ⟨w.heap.size,1,none⟩=false∧w4.frozen? ⟨w.heap.size,2,none⟩=false∧w4.frozen? ⟨w.heap.size,3,none⟩=false∧w4.frozen? ⟨w.heap.size+1,0,none⟩=false∧w4.frozen? ⟨w.heap.size+1+1,0,none⟩=false∧
   b≠w.heap.size∧b≠w.heap.size+1∧b≠w.heap.size+1+1∧w.heap.size+1+1+1≤w4.heap.size:=by
 obtain⟨b',vs,T8,eb,m8,z8,r8,_⟩:=h4.ok 1000 _ rfl;rw[hpl]at eb;injection eb with eb;injection eb with eb;injection eb with eb;subst eb
 have z8:vs.size=8:=z8;have hs:(((w.alloc (.cells #[.slice none 0 0,.slice none 0 0,.int .i64 0,.int .i64 0] 25)).alloc (.cells #[.int .i64 0] 3)).alloc (.cells #[.int .i64 0] 26)).heap.size=w.heap.size+1+1+1:=by simp
 have hno:∀c,w.heap.size≤c→¬ox pl (Zc l en 0 0 [] [] [] 0) c:=λc hc ⟨k,o,h1,h2⟩=>by have:=(hh.priv k o c h1 h2).1;omega
 have hsz3:w.heap.size+1+1+1≤w4.heap.size:=by have:=hb.size;omega
 have hp4:w4.heap[w.heap.size]? =some (.cells #[.slice none 0 0,.slice none 0 0,.int .i64 0,.int .i64 0] 25 (0,0)):=by rw[hb.block _ (by omega) (hno _ (by omega))];exact(Kj _ _ _ _).1
 have hq4:w4.heap[w.heap.size+1]? =some (.cells #[.int .i64 0] 3 (0,0)):=by rw[hb.block _ (by omega) (hno _ (by omega))];exact(Kj _ _ _ _).2.1
 have hr4:w4.heap[w.heap.size+1+1]? =some (.cells #[.int .i64 0] 26 (0,0)):=by rw[hb.block _ (by omega) (hno _ (by omega))];exact(Kj _ _ _ _).2.2
 obtain⟨A1,c1,e2,_⟩:=uO (Yz (h4.ok 2000 _ rfl));obtain⟨A2,c2,e3,_⟩:=uO (Yz (h4.ok 2001 _ rfl));have d3:vs.getD 3 undef=pl' 2000:=r8 3 _ rfl;have d4:vs.getD 4 undef=pl' 2001:=r8 4 _ rfl;obtain⟨d5,k5⟩:=((r8 5 _ rfl).flat (d:=dI m.goal) rfl).int_inv;obtain⟨d6,k6⟩:=((r8 6 _ rfl).flat (d:=dI m.var) rfl).int_inv
 refine⟨_,_,_,_,_,_,e2,e3,by rw[←e2,←d3];exact mG m8 (by omega),by rw[←e3,←d4];exact mG m8 (by omega),by rw[←d5];exact mG m8 (by omega),by rw[←d6];exact mG m8 (by omega),k5,k6,hp4,hq4,hr4,mG hp4 (i:=0) (by simp),mG hp4 (i:=1) (by simp),mG hp4 (i:=2) (by simp),mG hp4 (i:=3) (by simp),mG hq4 (i:=0) (by simp),mG hr4 (i:=0) (by simp),
  frozen_of_row _ _ _ _ _ hp4,frozen_of_row _ _ _ _ _ hp4,frozen_of_row _ _ _ _ _ hp4,frozen_of_row _ _ _ _ _ hp4,frozen_of_row _ _ _ _ _ hq4,frozen_of_row _ _ _ _ _ hr4,?_,?_,?_,hsz3⟩
 ·rintro rfl;rw[m8]at hp4;injection hp4 with hp4;injection hp4 with hp4;rw[hp4]at z8;cases z8
 ·rintro rfl;rw[m8]at hq4;injection hq4 with hp4;injection hp4 with hp4;rw[hp4]at z8;cases z8
 ·rintro rfl;rw[m8]at hr4;injection hr4 with hp4;injection hp4 with hp4;rw[hp4]at z8;cases z8
theorem zjJ{w:World}{p:Nat}{Tp:TypeId}{v0 v1 v2 v3 o0 o1 o2 o3:Value}(hp:wE w p Tp #[o0,o1,o2,o3]):wE ((((w.setCell ⟨p,0,none⟩ v0).setCell ⟨p,1,none⟩ v1).setCell ⟨p,2,none⟩ v2).setCell ⟨p,3,none⟩ v3) p Tp #[v0,v1,v2,v3]:=by
 have h0:=hp.set_ 0 v0;have h1:=h0.set_ 1 v1;have h2:=h1.set_ 2 v2;have h3:=h2.set_ 3 v3;have e:((((#[o0,o1,o2,o3]:Array Value).setIfInBounds 0 v0).setIfInBounds 1 v1).setIfInBounds 2 v2).setIfInBounds 3 v3= #[v0,v1,v2,v3]:=by simp
 rw[e]at h3
 exact h3
theorem zaB{w:World}{p:Addr}{v:Value}:(w.setCell p v).os=w.os∧(w.setCell p v).tape=w.tape∧(w.setCell p v).output=w.output∧(w.setCell p v).heap.size=w.heap.size:=⟨rfl,rfl,rfl,by simp[World.setCell]⟩
theorem zhd{w:World}{p:Nat}{Tp:TypeId}{v o:Value}(hp:wE w p Tp #[o]):wE (w.setCell ⟨p,0,none⟩ v) p Tp #[v]:=by
 have h0:=hp.set_ 0 v;have e:(#[o]:Array Value).setIfInBounds 0 v= #[v]:=by simp
 rw[e]at h0
 exact h0
theorem ziG{w:World}{p q r:Nat}{Tp Tq Tr:TypeId}{v0 v1 v2 v3:Value}{o0 o1 o2 o3 o4 o5 n4 n5:Value}(hp:wE w p Tp #[o0,o1,o2,o3])(hq:wE w q Tq #[o4])(hr:wE w r Tr #[o5])(hpq:p≠q)(hpr:p≠r)(hqr:q≠r){w5:World}
  (h5:(((((w.setCell ⟨p,0,none⟩ v0).setCell ⟨p,1,none⟩ v1).setCell ⟨p,2,none⟩ v2).setCell ⟨p,3,none⟩ v3).setCell ⟨q,0,none⟩ n4).setCell ⟨r,0,none⟩ n5=w5):
  wE w5 p Tp #[v0,v1,v2,v3]∧wE w5 q Tq #[n4]∧wE w5 r Tr #[n5]∧(∀b,b≠p→b≠q→b≠r→w5.heap[b]? =w.heap[b]?)∧w5.os=w.os∧w5.tape=w.tape∧w5.output=w.output∧w5.heap.size=w.heap.size:=by
 have hq':q≠p:=hpq.symm;have hr':r≠p:=hpr.symm;have hr2:r≠q:=hqr.symm;have b1:=zjJ (v0:=v0) (v1:=v1) (v2:=v2) (v3:=v3) hp;have c1:wE ((((w.setCell ⟨p,0,none⟩ v0).setCell ⟨p,1,none⟩ v1).setCell ⟨p,2,none⟩ v2).setCell ⟨p,3,none⟩ v3) q Tq #[o4]:=(((hq.far hq' v0).far hq' v1).far hq' v2).far hq' v3;have d1:wE ((((w.setCell ⟨p,0,none⟩ v0).setCell ⟨p,1,none⟩ v1).setCell ⟨p,2,none⟩ v2).setCell ⟨p,3,none⟩ v3) r Tr #[o5]:=(((hr.far hr' v0).far hr' v1).far hr' v2).far hr' v3
 have f1:∀b,b≠p→((((w.setCell ⟨p,0,none⟩ v0).setCell ⟨p,1,none⟩ v1).setCell ⟨p,2,none⟩ v2).setCell ⟨p,3,none⟩ v3).heap[b]? =w.heap[b]? :=λb h1=>by
  rw[Below.heap_setCell _ _ _ _ h1,Below.heap_setCell _ _ _ _ h1,Below.heap_setCell _ _ _ _ h1,Below.heap_setCell _ _ _ _ h1]
 have s1:((((w.setCell ⟨p,0,none⟩ v0).setCell ⟨p,1,none⟩ v1).setCell ⟨p,2,none⟩ v2).setCell ⟨p,3,none⟩ v3).os=w.os∧((((w.setCell ⟨p,0,none⟩ v0).setCell ⟨p,1,none⟩ v1).setCell ⟨p,2,none⟩ v2).setCell ⟨p,3,none⟩ v3).tape=w.tape∧((((w.setCell ⟨p,0,none⟩ v0).setCell ⟨p,1,none⟩ v1).setCell ⟨p,2,none⟩ v2).setCell ⟨p,3,none⟩ v3).output=w.output∧((((w.setCell ⟨p,0,none⟩ v0).setCell ⟨p,1,none⟩ v1).setCell ⟨p,2,none⟩ v2).setCell ⟨p,3,none⟩ v3).heap.size=w.heap.size:=by
  simp only[zaB,and_self]
 generalize((((w.setCell ⟨p,0,none⟩ v0).setCell ⟨p,1,none⟩ v1).setCell ⟨p,2,none⟩ v2).setCell ⟨p,3,none⟩ v3)=w1 at h5 b1 c1 d1 f1 s1
 subst h5;have b2:=(b1.far (p:=⟨q,0,none⟩) hpq n4).far (p:=⟨r,0,none⟩) hpr n5;have c2:=(zhd (v:=n4) c1).far (p:=⟨r,0,none⟩) hqr n5;have d2:=zhd (v:=n5) (d1.far (p:=⟨q,0,none⟩) hr2 n4);refine⟨b2,c2,d2,λb h1 h2 h3=> ?_,?_⟩
 ·rw[Below.heap_setCell _ _ _ _ h3,Below.heap_setCell _ _ _ _ h2,f1 b h1]
 ·simp only[zaB]
  exact s1
set_option maxRecDepth 100000 in
theorem EF{l:List tX}{en:Int}(hd:cJ l):xD V6 [.ptr 1000 0] (Zc l en 0 0 [] [] [] 0) (dR (zcv l en)) []:=by
 intro w S vs pl hS hsz hv hh hg;obtain⟨b,e1,rfl⟩:=zhc (P:=Tryz.prog) hsz (hv 0 _ rfl);have HC:=Lib.hid (λ(w3:World) (hb:Below w.heap.size w w3)=>zcw hd hS e1 hh hg hb)
 have hmf:∀(fn:Fn) (first cap:Array Value) (w:World),(Instr.makeFunc fn first cap).run Tryz.prog w=.ok (.func fn first cap) w:=λ_ _ _ _=>rfl
 have hi:=zhb hh;have he:=λj e=>OR (l:=l) (j:=j) (e:=e)
 clear hv hsz;unfold zcv;cases hm:bW zU uH l with
 |err j e=>
  have he:=he j e hm;have hi:=hi j;rw[hm]at HC
  go_enter_defers Tryz.func42,Tryz.ntmps42
  go_wp2_with (go_at_call 94;refine(HC.out _ ?_).mono ?_)
  ·(repeat'(first|(with_reducible exact Below.refl _ _)|(with_reducible assumption)|(with_reducible refine wQ ?_ _)|(with_reducible refine Below.alloc ?_ ?_ _)|(with_reducible refine Below.setCell ?_ ?_ _)|(with_reducible refine Below.drew ?_)|go_size))
  ·rintro e' w4 hb rfl
   have hsz3:w.heap.size+1+1+1≤w4.heap.size:=by have:=hb.size;simpa using this
   have hno:∀c,w.heap.size≤c→¬ox pl (Zc l en 0 0 [] [] [] 0) c:=λc hc ⟨k,o,h1,h2⟩=>by have:=(hh.priv k o c h1 h2).1;omega
   have hp4:w4.heap[w.heap.size]? =some (.cells #[.slice none 0 0,.slice none 0 0,.int .i64 0,.int .i64 0] 25 (0,0)):=by
    rw[hb.block _ (by omega) (hno _ (by omega))];exact(Kj _ _ _ _).1
   have hq4:w4.heap[w.heap.size+1]? =some (.cells #[.int .i64 0] 3 (0,0)):=by
    rw[hb.block _ (by omega) (hno _ (by omega))];exact(Kj _ _ _ _).2.1
   have hr4:w4.heap[w.heap.size+1+1]? =some (.cells #[.int .i64 0] 26 (0,0)):=by
    rw[hb.block _ (by omega) (hno _ (by omega))];exact(Kj _ _ _ _).2.2
   have hw4:sP w.heap.size (ox pl (Zc l en 0 0 [] [] [] 0)) w w4:=by
    refine sP.trans (.of ?_) ⟨hb.os,hb.tape,hb.output,hb.size,λk hk=>hb.block k (by omega)⟩
    (repeat'(first|(with_reducible exact Below.refl _ _)|(with_reducible assumption)|(with_reducible refine wQ ?_ _)|(with_reducible refine Below.alloc ?_ ?_ _)|(with_reducible refine Below.setCell ?_ ?_ _)|(with_reducible refine Below.drew ?_)|go_size))
   have hg4:EJ Tryz.prog w4 (λc=>c=w.heap.size∨c=w.heap.size+1∨c=w.heap.size+1+1):=hg.step hw4 λc h=> .inr (by omega)
   show Leaves _ _ _ _ _ _ _
   refine leaves_cons (f:=93) (args:= #[nT w.heap.size,nT (w.heap.size+1),nT (w.heap.size+1+1)]) (by simp) (by simp[go_sem]) ?_
   refine(Fv hi (by rcases he with rfl|rfl<;>(unfold yQ;omega)) _ _ _ w4 hp4 hq4 hr4 (by omega) (by omega) (by omega) hg4).mono ?_
   rintro en' u' w5 ⟨rfl,rfl,hc⟩;obtain⟨vs,Tp,m1,m2,m3⟩:=hc.m;obtain⟨Tq,a1⟩:=hc.at_;obtain⟨Tr,r1⟩:=hc.e;refine⟨_,Pq rfl rfl rfl m1 m2 a1 r1,?_⟩;refine⟨_,λb=>w4.heap.size≤b∧b<w5.heap.size,pl,rfl,Rp.rd (.tup _ _ rfl λi d hd=> ?_),⟨λk o h=>(by cases h),λk o b h=>(by cases h),λk k' o o' b h=>(by cases h)⟩,λb h=>h.2,λb h=> .inr (.inr (by omega)),λb ⟨k,o,h,_⟩=>(by cases h),λ_ _=>rfl,?_⟩
   ·match i,hd with
    |0,hd=>
     injection hd with hd;subst hd
     refine .agg _ _ rfl λi d hd=> ?_
     have h:=m3 i d hd
     match i,hd with
     |0,hd=>exact h
     |1,hd=>exact h
     |2,hd=>exact h
     |3,hd=>exact h
    |1,hd=>injection hd with hd;subst hd;exact .int_mk hi
    |2,hd=>injection hd with hd;subst hd;exact .int_mk (by rcases he with rfl|rfl<;>(unfold yQ;omega))
   ·exact hw4.trans ⟨hc.below.os,hc.below.tape,hc.below.output,hc.below.size,λk hk hn=>hc.below.block k (by omega) (by omega)⟩
 |ok x j=>
  obtain⟨m,ns⟩:=x;rw[hm]at HC
  go_enter_defers Tryz.func42,Tryz.ntmps42
  go_wp2_with (go_at_call 94;refine(HC.out _ (by(repeat'(first|(with_reducible exact Below.refl _ _)|(with_reducible assumption)|(with_reducible refine wQ ?_ _)|(with_reducible refine Below.alloc ?_ ?_ _)|(with_reducible refine Below.setCell ?_ ?_ _)|(with_reducible refine Below.drew ?_)|go_size)))).mono ?_;rintro _ w4 ⟨hb,rfl,S',pl',h4,hS4,hsrc,hpl,hblk⟩;obtain⟨A1,n1,k1,A2,n2,k2,e2,e3,c3,c4,c5,c6,g1,g2,hp4,hq4,hr4,p0,p1,p2,p3,q0,r0,fp,fp1,fp2,fp3,fq,fr,nb1,nb2,nb3,hsz3⟩:=zaA hh hb h4 hpl)
  generalize hw5:World.setCell _ _ _=w5;obtain⟨bp,bq,br,old,os5,ta5,ou5,sz5⟩:=ziG hp4 hq4 hr4 (by omega) (by omega) (by omega) hw5
  clear hw5 p0 p1 p2 p3 q0 r0 fp fp1 fp2 fp3 fq fr c3 c4 c5 c6;have hno:∀c,ox pl (Zc l en 0 0 [] [] [] 0) c→c<w.heap.size:=λc ⟨k,o,h1,h2⟩=>(hh.priv k o c h1 h2).1
  have hs3:(((w.alloc (.cells #[.slice none 0 0,.slice none 0 0,.int .i64 0,.int .i64 0] 25)).alloc (.cells #[.int .i64 0] 3)).alloc (.cells #[.int .i64 0] 26)).heap.size=w.heap.size+1+1+1:=by simp
  have hw4:sP w.heap.size (ox pl (Zc l en 0 0 [] [] [] 0)) w w4:=by
   refine sP.trans (.of ?_) ⟨hb.os,hb.tape,hb.output,hb.size,λk hk=>hb.block k (by omega)⟩
   (repeat'(first|(with_reducible exact Below.refl _ _)|(with_reducible assumption)|(with_reducible refine wQ ?_ _)|(with_reducible refine Below.alloc ?_ ?_ _)|(with_reducible refine Below.setCell ?_ ?_ _)|(with_reducible refine Below.drew ?_)|go_size))
  show Leaves _ _ _ _ _ _ _
  refine leaves_cons (f:=93) (args:= #[nT w.heap.size,nT (w.heap.size+1),nT (w.heap.size+1+1)]) (by simp) (by simp[go_sem]) ?_
  refine(J7 _ _ _ w5).mono ?_;rintro en' u' w6 ⟨rfl,rfl,rfl⟩;refine⟨_,Pq rfl rfl rfl bp rfl bq br,?_⟩
  have hfar:∀c,S' c∨qK (pl' 2000)=some c∨qK (pl' 2001)=some c→c≠w.heap.size∧c≠w.heap.size+1∧c≠w.heap.size+1+1∧(S c∨ox pl (Zc l en 0 0 [] [] [] 0) c∨w.heap.size≤c)∧c<w4.heap.size:=λc hc=>by
   rcases hc with hc|hc|hc
   ·have h1:=hS4 c hc
    rcases hsrc c hc with h|h|h
    ·have:=hS c h;exact⟨by omega,by omega,by omega,.inl h,h1⟩
    ·have:=hno c h;exact⟨by omega,by omega,by omega,.inr (.inl h),h1⟩
    ·exact⟨by omega,by omega,by omega,.inr (.inr (by omega)),h1⟩
   ·have h1:=(h4.priv 2000 _ c rfl hc).1
    rcases hblk c ⟨2000,_,rfl,hc⟩with h|h
    ·have:=hno c h;exact⟨by omega,by omega,by omega,.inr (.inl h),h1⟩
    ·exact⟨by omega,by omega,by omega,.inr (.inr (by omega)),h1⟩
   ·have h1:=(h4.priv 2001 _ c rfl hc).1
    rcases hblk c ⟨2001,_,rfl,hc⟩with h|h
    ·have:=hno c h;exact⟨by omega,by omega,by omega,.inr (.inl h),h1⟩
    ·exact⟨by omega,by omega,by omega,.inr (.inr (by omega)),h1⟩
  have hkeep:∀c,S' c∨qK (pl' 2000)=some c∨qK (pl' 2001)=some c→w6.heap[c]? =w4.heap[c]? :=λc hc=>let⟨h1,h2,h3,_⟩:=hfar c hc;old c h1 h2 h3
  have v1:Rp w6 (λc=>S' c∨qK (pl' 2000)=some c∨qK (pl' 2001)=some c) (.slice A1 n1 k1) (.sl .var m.vars):=by
   refine .sl .var _ _ ?_;have h:=Yz (h4.ok 2000 _ rfl);rw[e2]at h
   exact aX.mono h (λc hc=>hkeep c (by rw[e2];rcases hc with h|h;exact .inl h;exact .inr (.inl h))) λc hc=>by rw[e2];rcases hc with h|h;exact .inl h;exact .inr (.inl h)
  have v2:Rp w6 (λc=>S' c∨qK (pl' 2000)=some c∨qK (pl' 2001)=some c) (.slice A2 n2 k2) (.sl .con m.cons):=by
   refine .sl .con _ _ ?_;have h:=Yz (h4.ok 2001 _ rfl);rw[e3]at h
   exact aX.mono h (λc hc=>hkeep c (by rw[e3];rcases hc with h|h;exact .inl h;exact .inr (.inr h))) λc hc=>by rw[e3];rcases hc with h|h;exact .inl h;exact .inr (.inr h)
  refine⟨_,λc=>S' c∨qK (pl' 2000)=some c∨qK (pl' 2001)=some c,pl,rfl,Rp.rd (.tup _ _ rfl λi d hd=> ?_),⟨λk o h=>(by cases h),λk o b h=>(by cases h),λk k' o o' b h=>(by cases h)⟩,λc hc=>by rw[sz5];exact(hfar c hc).2.2.2.2,λc hc=>(hfar c hc).2.2.2.1,λb ⟨k,o,h,_⟩=>(by cases h),λ_ _=>rfl,?_⟩
  ·match i,hd with
   |0,hd=>
    injection hd with hd;subst hd
    refine .agg _ _ rfl λi d hd=> ?_
    match i,hd with
    |0,hd=>injection hd with hd;subst hd;exact v1
    |1,hd=>injection hd with hd;subst hd;exact v2
    |2,hd=>injection hd with hd;subst hd;exact .int_mk g1
    |3,hd=>injection hd with hd;subst hd;exact .int_mk g2
   |1,hd=>injection hd with hd;subst hd;exact .int_mk (by unfold yQ;omega)
   |2,hd=>injection hd with hd;subst hd;exact .int_mk (by unfold yQ;omega)
  ·exact hw4.trans ⟨os5,ta5,ou5,by omega,λk hk hn=>old k (by omega) (by omega) (by omega)⟩
theorem RA:∀(l:List UInt8) (i:Nat) (note:Bool) (out:List tX) (k:Nat),0≤(uQ l i note out k).2.1∧(uQ l i note out k).2.1≤((i+l.length:Nat):Int)∧0≤(uQ l i note out k).2.2∧(uQ l i note out k).2.2≤2
 |[],i,note,out,k=>by simp only[uQ];omega
 |c::r,i,note,out,k+1=>by
  have h:=RA r (i+1) note out k;rw[uQ,List.length_cons];omega
 |c::r,i,note,out,0=>by
  rw[uQ,List.length_cons];split
  ·have:=RA r (i+1) (c !=10) out 0;omega
  ·split
   ·have:=RA r (i+1) false out 0;omega
   ·simp only
    split
    ·have:=RA r (i+1) false (out++[⟨(yS (c::r)).1,i,bs ((c::r).take (yS (c::r)).2)⟩]) ((yS (c::r)).2-1);omega
    ·rename_i h
     refine⟨by simp,by simp only;omega,?_⟩
     simp only;unfold pC;split
     ·omega
     split
     ·omega
     split<;>omega
theorem zaC(l:List UInt8):yQ (tR l).2.1∧yQ (tR l).2.2:=by
 unfold tR;split
 ·simp only;unfold yQ;omega
 ·have:=RA l 0 false [] 0
  unfold yQ;omega
theorem zhe{P:Program}{f:FuncId}{s:ByteArray}(h:∀w,Calls P f #[.string s] w λe w'=>∃v,e=.returned (.tuple #[v,.int .i64 (tR s.data.toList).2.1,.int .i64 (tR s.data.toList).2.2])∧W1 w' w.heap.size v (tR s.data.toList).1∧Below w.heap.size w w'):
  Yl P f [.str s] (.tup [.sl .tok (tR s.data.toList).1,dI (tR s.data.toList).2.1,dI (tR s.data.toList).2.2]):=by
 intro w S vs hS hl hv _;obtain⟨e0,hz⟩:=(hv 0 _ rfl).str_inv
 have e:vs= #[.string s]:=by
  have hl:vs.size=1:=hl;apply Array.ext
  ·simpa using hl
  ·intro i h1 h2
   have:i=0:=by omega
   subst this;simpa[Array.getD_eq_getD_getElem?,h1]using e0
 subst e;refine(h w).mono λe w' ⟨v,he,hf,hb⟩=>⟨_,he,.tup _ _ rfl λi d hd=> ?_,hb⟩
 match i,hd with
 |0,hd=>injection hd with hd;subst hd;exact .sl .tok _ _ (aX.mono hf (λ_ _=>rfl) λb hb=> .inr hb)
 |1,hd=>injection hd with hd;subst hd;exact .int_mk (zaC _).1
 |2,hd=>injection hd with hd;subst hd;exact .int_mk (zaC _).2
theorem EG(s:ByteArray):uG V5 [.str s] (.tup [XV (.list .tok) (tR s.data.toList).1,XV .int (tR s.data.toList).2.1,XV .int (tR s.data.toList).2.2]):=zhe λw=>Aa s w
theorem zaD{c:UInt8}{r:List UInt8}{n:Nat}(h:yS (c::r)=(2,n)):isD c=true∧n=1+(r.takeWhile isD).length:=by
 rw[yS]at h
 split at h
 ·injection h with h _;cases h
 split at h
 ·rename_i h1;injection h with _ h;exact⟨h1,h.symm⟩
 split at h
 ·injection h with h _;cases h
 split at h
 ·injection h with h _;cases h
 ·injection h with h _;cases h
theorem EH{c:UInt8}{r:List UInt8}{k n:Nat}(h:yS (c::r)=(k,n))(hk:k≠2)(hk0:k≠0):isD c=false:=by
 rw[yS]at h
 cases hd:isD c with
 |false=>rfl
 |true=>
  split at h
  ·rename_i h1
   unfold isD isDN at hd;unfold isL R5 at h1
   simp only[Bool.and_eq_true,decide_eq_true_eq]at hd h1
   omega
  ·injection h with h _;omega
theorem zhf{p:UInt8→Bool}:∀(l:List UInt8) (x:UInt8),x∈l.takeWhile p→p x=true
 |[],x,h=>by cases h
 |c::r,x,h=>by
  rw[List.takeWhile_cons]at h
  split at h
  ·rename_i hc
   rcases List.mem_cons.1 h with rfl|h
   ·exact hc
   ·exact zhf r x h
  ·cases h
theorem K0{s:ByteArray}{l:List UInt8}(h:s.data.toList=l)(i:Nat):nN s i=((l.getD i 0).toNat:Int):=by
 unfold nN;subst h
 congr 2
 rw[Array.getD_eq_getD_getElem?,List.getD_eq_getElem?_getD,Array.getElem?_toList]
theorem D4{L:List UInt8}:∀ {ts:List tX} {lo:Nat},Kx L lo ts→zg4 ts
 |[],_,_=>λt ht=>by cases ht
 |t::ts,lo,⟨j,n,h1,h2,h3,h4,h5,⟨c,r,h6,h7,h8,h9⟩,h10⟩=>λt' ht'=>by
  rcases List.mem_cons.1 ht' with rfl|hm
  ·have hx:t'.text.data.toList=(c::r).take n:=by rw[h5,h6];unfold bs;rfl
   have hz:t'.text.size=n:=by
    have h11:t'.text.size=(t'.text.data.toList).length:=rfl;have h12:=congrArg List.length h6;rw[List.length_drop]at h12
    rw[h11,hx,List.length_take];omega
   refine⟨λhk=> ?_,λhk=> ?_⟩
   ·have h7':yS (c::r)=(2,n):=by rw[h7,hk];rfl
    obtain⟨hd,hn⟩:=zaD h7';have h9':pC 2 n c=0:=by rw[hk]at h9;exact h9
    refine⟨by omega,?_,λi hi=> ?_⟩
    ·unfold pC at h9'
     rw[if_neg (by decide)]at h9'
     rw[hz]
     by_cases h4:n>4
     ·rw[if_pos (by simp;omega)]at h9';cases h9'
     ·omega
    ·rw[K0 hx]
     have hall:∀x∈(c::r).take n,isD x=true:=by
      intro x hxm;obtain⟨m,rfl⟩:∃m,n=m+1:=⟨n-1,by omega⟩
      rw[List.take_succ_cons]at hxm
      rcases List.mem_cons.1 hxm with rfl|hxm
      ·exact hd
      ·have e:m=(r.takeWhile isD).length:=by omega
       have e2:r.take m=r.takeWhile isD:=by
        rw[e];exact(List.prefix_iff_eq_take.1 (List.takeWhile_prefix isD)).symm
       rw[e2]at hxm
       exact zhf _ _ hxm
     have hlen:i<((c::r).take n).length:=by
      have h11:t'.text.size=(t'.text.data.toList).length:=rfl;rw[hx]at h11;omega
     have hg:((c::r).take n).getD i 0=((c::r).take n)[i]:=by rw[List.getD_eq_getElem?_getD,List.getElem?_eq_getElem hlen];rfl
     rw[hg];have:=hall _ (List.getElem_mem hlen);unfold isD isDN at this
     simp only[Bool.and_eq_true,decide_eq_true_eq]at this
     omega
   ·have hk':t'.kind.toNat≠2:=by omega
    have hk0:t'.kind.toNat≠0:=by intro e;rw[e]at h9;unfold pC at h9;rw[if_pos rfl]at h9;cases h9
    have:=EH h7 hk' hk0;obtain⟨m,rfl⟩:∃m,n=m+1:=⟨n-1,by omega⟩
    rw[K0 hx,List.take_succ_cons];show¬(48≤(c.toNat:Int)∧(c.toNat:Int)≤57)
    unfold isD isDN at this
    simp only[Bool.and_eq_false_iff,decide_eq_false_iff_not]at this
    omega
  ·exact D4 h10 t' hm
theorem zhg(l:List UInt8):zg4 (tR l).1:=by
 by_cases h:(tR l).2.2=0
 ·exact D4 (T7 h).1
 ·rw[zdT h];exact λt ht=>by cases ht
def yH(s:ByteArray):zD×Int×Int:=if(tR s.data.toList).2.2≠0 then(Kg,(tR s.data.toList).2.1,(tR s.data.toList).2.2)else Bw (tR s.data.toList).1 s.size
abbrev dT(x:zD×Int×Int):D:=.tup [XV .mdl x.1,XV .int x.2.1,XV .int x.2.2]
theorem ZV(s:ByteArray):uG lG [.str s] (dT (yH s)):=
 HD s λok=>by
  rw[F9];refine B3 (t:=.list .tok) (u:=.int) (v:=.int) (EG s) ?_;unfold yH
  by_cases h:(tR s.data.toList).2.2=0
  ·rw[if_neg (λx=>x h)]
   refine BA h ?_;have hp:=EF (l:=(tR s.data.toList).1) (en:=(s.size:Int)) (zg5 (zhg _));unfold zcv at hp
   unfold Bw EE;refine⟨_,_,_,hp,?_⟩;cases hm:bW zU uH (tR s.data.toList).1 with
   |ok x j=>
    obtain⟨m,ns⟩:=x;simp only;refine dt trivial (zG (t:=.int) (pG m) ?_)
    by_cases hc:yR m=0
    ·rw[if_pos hc];exact BA hc rfl
    ·rw[if_neg hc];exact dnt hc rfl
   |err j e=>
    have he:e≠0:=by rcases OR hm with rfl|rfl<;>decide
    simp only;exact df he (dnt he rfl)
  ·rw[if_pos h]
   exact dnt h rfl
theorem Fy(a b:List zC):uG tL [.sl .lit a,.sl .lit b] (dB (decide (a=b))):=
 eA a b λok=>by
  rw[cF];refine zA (λe=> ?_) λe=> ?_
  ·have e:a.length≠b.length:=by simp at e;omega
   rw[decide_eq_false λh=>e (by rw[h])]
  have e:a.length=b.length:=by simp at e;omega
  have hz:=gJ a b e;refine Ac (I:=λn v=>sS a b _ n v) (a.zip b) (λx=> !decide (x.1=x.2)) ?_ (X:=D.bool false=dB (decide (a=b))) (Y:=D.bool true=dB (decide (a=b))) ?_ (λn k h hX hn=> ?_) λn hY=> ?_
  ·have:a.length≤9223372036854775807:=cB (ME ok)
   rw[List.length_zip];omega
  ·rw[hz];cases decide (a=b)<;>rfl
  ·rw[List.length_zip]at h
   have h1:k<a.length:=by omega
   have h2:k<b.length:=by omega
   rw[rM,yK h1,zX (t:=.lit) h1,zX (t:=.lit) h2];rw[List.getElem_zip]at hX hn
   exact⟨zM h1,zM h2,zA (λe=>hX e) λe=>hn e⟩
  ·have hl:(a.zip b).length=a.length:=by rw[List.length_zip];omega
   rw[hl,rM,zW];exact hY
theorem EI(a b:List (List Int)):uG oK [dS a,dS b] (dB (decide (a=b))):=
 Vk a b λok=>by
  have hl:a.length≤9223372036854775807:=cB (t:=.list .int) (ME ok);rw[Ue];refine zA (λe=> ?_) λe=> ?_
  ·rw[decide_eq_false (p:=a=b) λh=>by subst h;simp at e]
  have e:a.length=b.length:=by simp at e;omega
  have hz:(a.zip b).length=a.length:=by rw[List.length_zip];omega
  refine Ac (I:=λn v=>og a b _ n v) (a.zip b) (λx=> !decide (x.1=x.2)) (by omega) (X:=dB false=dB (decide (a=b))) (Y:=dB true=dB (decide (a=b))) (by rw[gJ a b e];cases decide (a=b)<;>rfl) (λn k h hX hn=> ?_) λn hY=> ?_
  ·have hk:k<a.length:=by omega
   rw[List.getElem_zip]at hX hn
   rw[fB,yK hk,zX (t:=.list .int) hk,zX (t:=.list .int) (show k<b.length by omega)]
   exact⟨zM hk,zM (by omega),zG (qI _ _) (zA hX hn)⟩
  ·rw[hz,fB,zW];exact hY
theorem zhh{a b:Int}(e:(!decide (a=b))=true):a≠b:=by simpa using e
theorem zaE(a b:zF):uG mB [dC a,dC b] (dB (decide (a=b))):=
 Tm a b λok=>by
  rw[Sv];have no:∀ {p:Prop},¬p→(a=b→p)→dB false=dB (decide (a=b)):=λh f=>by rw[decide_eq_false λe=>h (f e)]
  refine zA (λe1=> ?_) λe1=>no (of_decide_eq_false e1) λh=>by rw[h]
  refine zG (t:=.bool) (qI _ _) (zA (λe2=> ?_) λe2=>no (of_decide_eq_false e2) λh=>by rw[h])
  refine zG (t:=.bool) (qI _ _) (zA (λe3=> ?_) λe3=>no (of_decide_eq_false e3) λh=>by rw[h])
  refine zA (λe4=> ?_) λe4=>no (of_decide_eq_false e4) λh=>by rw[h]
  refine zG (t:=.bool) (EI _ _) (zA (λe5=> ?_) λe5=>no (of_decide_eq_false e5) λh=>by rw[h])
  refine zG (t:=.bool) (Fy _ _) ?_;have h1:=of_decide_eq_true e1;have h2:=of_decide_eq_true e2;have h3:=of_decide_eq_true e3;have h4:=of_decide_eq_true e4;have h5:=of_decide_eq_true e5;cases a;cases b;simp only at h1 h2 h3 h4 h5
  subst h1 h2 h3 h4 h5;simp
theorem UN(a b:zD):uG oI [dM a,dM b] (dB (decide (a=b))):=
 Vj a b λok=>by
  have hm:=ME ok;have hl:a.vars.length≤9223372036854775807:=zf0 (t:=.var) (okA (i:=0) hm rfl);have hl2:a.cons.length≤9223372036854775807:=zf0 (t:=.con) (okA (i:=1) hm rfl);rw[Uc];have no:∀ {p:Prop},¬p→(a=b→p)→dB false=dB (decide (a=b)):=λh f=>by rw[decide_eq_false λe=>h (f e)]
  refine zA (λe=>no (p:=a.vars.length=b.vars.length) (by simp at e;omega) λh=>by rw[h]) λe1=> ?_
  refine zA (λe=>no (p:=a.cons.length=b.cons.length) (by simp at e;omega) λh=>by rw[h]) λe2=> ?_
  refine zA (λe=>no (p:=a.goal=b.goal) (zhh e) λh=>by rw[h]) λe3=> ?_
  refine zA (λe=>no (p:=a.var=b.var) (zhh e) λh=>by rw[h]) λe4=> ?_
  have e1:a.vars.length=b.vars.length:=by simp at e1;omega
  have e2:a.cons.length=b.cons.length:=by simp at e2;omega
  have e3:a.goal=b.goal:=by simpa using e3
  have e4:a.var=b.var:=by simpa using e4
  have hz:(a.vars.zip b.vars).length=a.vars.length:=by rw[List.length_zip];omega
  have hz2:(a.cons.zip b.cons).length=a.cons.length:=by rw[List.length_zip];omega
  refine zjo (I:=λn v=>od a b _ n v) (a.vars.zip b.vars) (λx=> !decide (x.1=x.2)) (by omega) (X:=dB false=dB (decide (a=b))) (λh=> ?_) (λn k h hX hn=> ?_) λhv n=> ?_
  ·rw[gJ _ _ e1]at h
   exact no (p:=a.vars=b.vars) (by simpa using h) λh=>by rw[h]
  ·have hk:k<a.vars.length:=by omega
   rw[List.getElem_zip]at hX hn
   rw[fA,yK hk,zX (t:=.var) hk,zX (t:=.var) (show k<b.vars.length by omega)]
   exact⟨zM hk,zM (by omega),zA hX hn⟩
  ·rw[gJ _ _ e1]at hv
   have hv:a.vars=b.vars:=by simpa using hv
   rw[hz,fA,zW];refine zjo (I:=λn v=>oc a b _ n v) (a.cons.zip b.cons) (λx=> !decide (x.1=x.2)) (by omega) (X:=dB false=dB (decide (a=b))) (λh=> ?_) (λn k h hX hn=> ?_) λhc n=> ?_
   ·rw[gJ _ _ e2]at h
    exact no (p:=a.cons=b.cons) (by simpa using h) λh=>by rw[h]
   ·have hk:k<a.cons.length:=by omega
    rw[List.getElem_zip]at hX hn
    rw[fz,yK hk,zX (t:=.con) hk,zX (t:=.con) (show k<b.cons.length by omega)]
    exact⟨zM hk,zM (by omega),zG (t:=.bool) (zaE _ _) (zA hX hn)⟩
   ·rw[gJ _ _ e2]at hc
    have hc:a.cons=b.cons:=by simpa using hc
    rw[hz2,fz,zW];have:a=b:=by cases a;cases b;simp_all
    rw[decide_eq_true this]
section
variable {l:List tX}{vs:List zO}{ns:List (ByteArray×Int)}
section
variable(hn:∀v∈vs,zU v.name=true)(hN:∀i:Int,0≤i∧i<vs.length→tD .str .int (OS vs i) ns=some i)
include hn hN
end
end
theorem RB(s:ByteArray):(yH s).2.2=0∧yR (yH s).1=0∨(yH s).2.2≠0∧(yH s).1=Kg:=by
 unfold yH;split
 ·rename_i h;exact .inr ⟨h,rfl⟩
 ·unfold Bw
  cases hm:bW zU uH (tR s.data.toList).1 with
  |ok x j=>
   obtain⟨m,ns⟩:=x;show(EE m).2.2=0∧yR (EE m).1=0∨(EE m).2.2≠0∧(EE m).1=Kg
   unfold EE
   by_cases hc:yR m=0
   ·rw[if_pos hc];exact .inl ⟨rfl,hc⟩
   ·rw[if_neg hc];exact .inr ⟨hc,rfl⟩
  |err j e=>
   refine .inr ⟨?_,rfl⟩;show e≠0
   rcases OR hm with rfl|rfl<;>decide
def zcx:zD:=⟨[⟨⟨#[120]⟩,0,2⟩,⟨⟨#[121]⟩,0,2⟩],[⟨1,[0,1],[1,-1],-1,[],[]⟩],1,1⟩
theorem Bx:uG wY [] (XV .mdl zcx):=Wp λok=>by rw[Vo];rfl
def aV:ByteArray:=⟨#[118,97,114,32,120,58,32,48,46,46,50,59,10,118,97,114,32,121,58,32,48,46,46,50,59,10,99,111,110,32,108,101,32,91,49,44,32,45,49,93,32,91,120,44,32,121,93,32,45,49,59,10,115,111,108,118,101,32,108,101,97,115,116,32,121,59,10]⟩
theorem Fz:yR zcx=0:=by decide+kernel
theorem zcy:C9 zcx=aV:=by
 unfold C9;rw[if_pos Fz];decide+kernel
theorem FA:yH aV=(zcx,0,0):=by decide+kernel
theorem Bz:uG oH [] (dB true):=
 Vl λok=>by
  rw[Ug];refine zG (t:=.mdl) Bx (fy (t:=.str) (u:=.int) (Eg zcx) ?_);rw[zcy,Fz];refine B3 (t:=.mdl) (u:=.int) (v:=.int) (ZV aV) ?_;rw[FA];refine dt rfl (dt rfl (dt rfl (zG (t:=.mdl) Bx (zG (t:=.bool) (UN zcx zcx) ?_))));rw[decide_eq_true rfl]
theorem Yk:∀(l:List UInt8) (i:Nat) (note:Bool) (out:List tX) (k:Nat),0≤(uQ l i note out k).2.1∧(uQ l i note out k).2.1≤((i+l.length:Nat):Int)
 |[],i,note,out,k=>by
  unfold uQ;exact⟨Int.le_refl _,Int.natCast_nonneg _⟩
 |c::r,i,note,out,k+1=>by
  have ih:=Yk r (i+1) note out k;rw[uQ,List.length_cons];exact⟨ih.1,by have:=ih.2;omega⟩
 |c::r,i,note,out,0=>by
  have hl:(c::r).length=r.length+1:=rfl;rw[uQ];split
  ·have ih:=Yk r (i+1) (c !=10) out 0
   exact⟨ih.1,by have:=ih.2;omega⟩
  ·split
   ·have ih:=Yk r (i+1) false out 0
    exact⟨ih.1,by have:=ih.2;omega⟩
   ·simp only
    split
    ·have ih:=Yk r (i+1) false (out++[⟨(yS (c::r)).1,i,bs ((c::r).take (yS (c::r)).2)⟩]) ((yS (c::r)).2-1)
     exact⟨ih.1,by have:=ih.2;omega⟩
    ·show 0≤(i:Int)∧(i:Int)≤_
     omega
theorem zaF{L:List UInt8}:∀ {ts:List tX} {lo:Nat},Kx L lo ts→∀t∈ts,0≤t.at_∧t.at_≤(L.length:Int)
 |[],_,_,t,ht=>by cases ht
 |t::ts,lo,⟨j,n,h1,h2,h3,h4,_,_,h10⟩,t',ht'=>by
  rcases List.mem_cons.1 ht' with rfl|hm
  ·rw[h4];omega
  ·exact zaF h10 t' hm
theorem zaG(s:ByteArray):0≤(yH s).2.1∧(yH s).2.1≤4000:=by
 unfold yH
 by_cases h:(tR s.data.toList).2.2=0
 ·rw[if_neg (λx=>x h)]
  obtain⟨h1,_,h3⟩:=T7 h;have hz:s.size=s.data.toList.length:=rfl;unfold Bw;cases bW zU uH (tR s.data.toList).1 with
  |ok x j=>
   obtain⟨m,ns⟩:=x;show 0≤(EE m).2.1∧(EE m).2.1≤4000
   unfold EE;split<;>exact⟨Int.le_refl 0,(by decide:(0:Int)≤4000)⟩
  |err j e=>
   show 0≤rY (tR s.data.toList).1 (s.size:Int) j∧rY (tR s.data.toList).1 (s.size:Int) j≤4000
   unfold rY;split
   ·rename_i hj
    have:=zaF h1 _ (zdt hj);omega
   ·omega
 ·rw[if_pos h]
  show 0≤(tR s.data.toList).2.1∧(tR s.data.toList).2.1≤4000
  unfold tR at h⊢
  split
  ·exact⟨Int.le_refl 0,(by decide:(0:Int)≤4000)⟩
  ·have:=Yk s.data.toList 0 false [] 0
   omega
def zjK(n:Int):ByteArray:=((⟨#[116,101,120,116,32]⟩:ByteArray)++kW n)++(⟨#[10]⟩:ByteArray)
noncomputable def zaH (s:ByteArray)(fuel:Int):ByteArray×Int:=
 if 4000<(s.size:Int)then(⟨#[]⟩,2)else if fuel<0 then(⟨#[]⟩,3)else if 300<fuel then(⟨#[]⟩,3)
 else if(yH s).2.2≠0 then(zjK (yH s).2.1,0)else(Iu (yH s).1 (pX (yH s).1 fuel),0)
theorem zeT{m:zD}(hm:yR m=0){fuel:Int}(hf:0≤fuel∧fuel≤300)(hv:(pX m fuel).verdict=1):(pX m fuel).values.length=m.vars.length∧∀n∈(pX m fuel).values,-1000≤n∧n≤1000:=by
 obtain⟨_,k,rfl,hb⟩:=Bv (Fr hm hf)
 have hf:WV m [] (pX m (k:Int)).values:=by
  cases hb with
  |any h0 h1 h2 h3=>exact h2
  |best h0 h1 h2 h3 h4=>exact h2
  |none h1=>rw[h1]at hv;exact absurd hv (by decide)
  |unknown h1=>rw[h1]at hv;exact absurd hv (by decide)
 refine⟨hf.len,λn hn=> ?_⟩
 obtain⟨i,hi,rfl⟩:=List.getElem_of_mem hn;have hil:i<m.vars.length:=by rw[←hf.len];exact hi
 have h2:=hf.full.2 i (by rw[xI];exact hil)
 rw[gN hil,cQ,yA _ hi]at h2
 have:=(qH hm).var _ (List.getElem_mem hil);omega
theorem Kk(s:ByteArray)(fuel:Int):uG eO [.str s,dI fuel] (.tup [XV .str (zaH s fuel).1,XV .int (zaH s fuel).2]):=
 NO s fuel λok=>by
  rw[Lv];unfold zaH
  by_cases h1:4000<(s.size:Int)
  ·rw[if_pos h1];exact dt h1 rfl
  rw[if_neg h1];refine df h1 ?_
  by_cases h2:fuel<0
  ·rw[if_pos h2];exact dt h2 rfl
  rw[if_neg h2];refine df h2 ?_
  by_cases h3:300<fuel
  ·rw[if_pos h3];exact dt h3 rfl
  rw[if_neg h3];refine df h3 (B3 (t:=.mdl) (u:=.int) (v:=.int) (ZV s) ?_);rcases RB s with⟨p1,p2⟩|⟨p1,p2⟩
  ·rw[if_neg (λx=>x p1)]
   have hr:=Fr (m:=(yH s).1) (fuel:=fuel) p2 (by omega)
   refine BA p1 (fy (t:=.ans) (u:=.int) (Y1 _ fuel) ?_);rw[hr];refine BA rfl ?_;unfold Iu
   by_cases hv:(pX (yH s).1 fuel).verdict=1
   ·obtain⟨b1,b2⟩:=zeT p2 (by omega) hv
    rw[if_pos hv];exact dt hv (zG (t:=.str) (J6 (zkf p2) b1 b2) rfl)
   ·rw[if_neg hv]
    refine df hv ?_
    by_cases hv2:(pX (yH s).1 fuel).verdict=2
    ·rw[if_pos hv2];exact dt hv2 rfl
    ·rw[if_neg hv2];exact df hv2 rfl
  ·rw[if_pos p1]
   have hp:=zaG s;have z:=kA (n:=(yH s).2.1) (by unfold yQ;omega)
   refine dnt p1 (zG (t:=.str) (fj (by unfold yQ;omega)) ⟨?_,?_,rfl⟩)
   ·simp only[mT,List.size_toArray,List.length_cons,List.length_nil];omega
   ·simp only[ByteArray.size_append,mT,List.size_toArray,List.length_cons,List.length_nil];omega
theorem zaI{m:zD}{vs:List Int}(h:iS m vs=0):yR m=0∧vs.length=m.vars.length∧(m.goal≠0→-1000≤vs.getD m.var.toNat 0∧vs.getD m.var.toNat 0≤1000):=by
 obtain⟨h1,h2⟩:=VD h;have hr:=qH h1;split at h2
 ·exact absurd h2 (by decide)
 rename_i h3;have h3:vs.length=m.vars.length:=Decidable.of_not_not h3;split at h2
 ·exact absurd h2 (by decide)
 rename_i h4;refine⟨h1,h3,λhg=> ?_⟩
 obtain⟨_,g2,g3⟩:=aS hr hg;have hvl:m.var.toNat<m.vars.length:=by omega
 have hb:=hr.var _ (List.getElem_mem hvl);have h4:¬(vs.getD m.var.toNat 0<(m.vars.getD m.var.toNat Ty.var.dflt).lo∨(m.vars.getD m.var.toNat Ty.var.dflt).hi<vs.getD m.var.toNat 0):=λh5=>h4 ⟨hg,h5⟩
 rw[yA _ hvl]at h4
 omega
def fN(m:zD)(vs:List Int):List (List zC):=if 0<vs.length then[sF m vs]else[]
def aW(m:zD)(vs:List Int):Int:=if 0<vs.length then iS m vs else 0
noncomputable def RC (s:ByteArray)(vs:List Int)(st:List zS):Bool×Int:=
 if(yH s).2.2≠0 then(false,(yH s).2.2)
 else if aW (yH s).1 vs≠0 then(false,aW (yH s).1 vs)
 else if oo (yH s).1 (fN (yH s).1 vs) st≠0 then(false,oo (yH s).1 (fN (yH s).1 vs) st)
 else(kE (yH s).1 (fN (yH s).1 vs) st&&(decide (vs.length=0)||wholeM (yH s).1 vs),0)
theorem mS(s:ByteArray)(vs:List Int)(st:List zS):uG wX [.str s,.sl .int vs,.sl .step st] (.tup [dB (RC s vs st).1,dI (RC s vs st).2]):=
 NP s vs st λok=>by
  rw[Lw];refine B3 (t:=.mdl) (u:=.int) (v:=.int) (ZV s) ?_;unfold RC;rcases RB s with⟨p1,p2⟩|⟨p1,p2⟩
  ·rw[if_neg (λx=>x p1)]
   refine BA p1 ?_;generalize(yH s).1=m at p2⊢
   have hr:=qH p2;have hch:∀g,zep m g st=oo m g st:=λg=>VZ p2
   by_cases hv:0<vs.length
   ·have hbe:aW m vs=iS m vs:=if_pos hv
    have hgi:fN m vs=[sF m vs]:=if_pos hv;rw[hbe,hgi];refine dt (by omega) (fy (t:=.list .lit) (u:=.int) (Rx m vs) ?_)
    by_cases hb:iS m vs=0
    ·obtain⟨_,b2,b3⟩:=zaI hb
     rw[if_neg (λx=>x hb),show Iq m vs=sF m vs from if_pos hb]
     refine BA hb ⟨xX (t:=.list .lit) (show(0+1)*24≤140737488355328 by decide),?_⟩
     refine fy (t:=.bool) (u:=.int) (Rj m [sF m vs] st) ?_;rw[hch]
     by_cases hs:oo m [sF m vs] st=0
     ·rw[if_neg (λx=>x hs),hs]
      refine BA rfl ?_;rw[zh8 rfl];cases hp:kE m [sF m vs] st with
      |false=>exact bf rfl rfl
      |true=>
       refine bt rfl (df (by omega) (zG (t:=.bool) (S4 hr b2) ?_))
       rw[decide_eq_false (by omega:¬vs.length=0)];rfl
     ·rw[if_pos hs]
      exact dnt hs rfl
    ·rw[if_pos hb]
     exact dnt hb rfl
   ·have hbe:aW m vs=0:=if_neg hv
    have hgi:fN m vs=[]:=if_neg hv;rw[hbe,hgi,if_neg (λx=>x rfl)]
    refine df (by omega) (fy (t:=.bool) (u:=.int) (Rj m [] st) ?_)
    rw[hch]
    by_cases hs:oo m [] st=0
    ·rw[if_neg (λx=>x hs),hs]
     refine BA rfl ?_;rw[zh8 rfl];cases hp:kE m [] st with
     |false=>exact bf rfl rfl
     |true=>
      refine bt rfl (dt (by omega) ?_)
      rw[decide_eq_true (by omega:vs.length=0)];rfl
    ·rw[if_pos hs]
     exact dnt hs rfl
  ·rw[if_pos p1]
   exact dnt p1 rfl
theorem K1:yH aV=(xW,0,0):=FA
theorem zaJ:zaH aV 20=(⟨#[98,101,115,116,10,120,32,61,32,48,10,121,32,61,32,49,10]⟩,0):=by
 obtain⟨h1,h2,_⟩:=Ir;unfold zaH;rw[if_neg (by decide),if_neg (by decide),if_neg (by decide),K1,if_neg (by decide)]
 show(Iu xW (pX xW 20),(0:Int))=_
 unfold Iu;rw[if_pos h1,h2];rw[show Ft xW [0,1]=⟨#[98,101,115,116,10,120,32,61,32,48,10,121,32,61,32,49,10]⟩ by kernel_rfl]
theorem zaK{m:zD}{g g':List (List zC)}{t:List zS}(h:oo m g t=0)(hl:g'.length≤600)(hg:∀c∈g',yJ m.vars.length c=0):oo m g' t=0:=by
 unfold oo at h⊢
 split at h
 ·exact absurd h (by decide)
 rename_i h0;obtain⟨_,h1⟩:=VD h
 have e3:YW m.vars.length g'=0:=by
  rw[YW,if_neg (by omega)]
  exact Yi λ_ x hx=>hg x hx
 rw[if_neg (by omega),e3,h1];rfl
theorem ziH:RC aV (pX xW 20).values (pX xW 20).proof=(true,0)∧RC aV [0,2] (pX xW 20).proof=(false,0):=by
 obtain⟨h1,h2,h3⟩:=Ir;have hm:yR xW=0:=by kernel_rfl
 have hr:=qH hm;obtain⟨_,k,hk,hx⟩:=Bv (Fr (m:=xW) (fuel:=20) hm (by decide))
 have hb:=hx;cases hb with
 |any q0 _ _ _=>exact absurd q0 (by decide)
 |none q1 _ _ _=>rw[h1]at q1;exact absurd q1 (by decide)
 |unknown q1 _ _ _=>rw[h1]at q1;exact absurd q1 (by decide)
 |best q0 q1 q2 q3 q4=>
  have hc:∀c∈[sF xW (pX xW 20).values],yJ xW.vars.length c=0:=λc hc=>by rw[List.mem_singleton.1 hc];exact MB hr q0 q2.full
  have hst:=UM hc (Nat.le_refl _) q3 q4;have hri:=q3.right;have hw:=q2.whole;rw[h2]at hst hri hw⊢
  have hpt:yH aV=(xW,0,0):=K1;constructor
  ·unfold RC
   rw[hpt,if_neg (by decide)]
   show(if aW xW [0,1]≠0 then(false,aW xW [0,1])else if oo xW [sF xW [0,1]] (pX xW 20).proof≠0 then(false,oo xW [sF xW [0,1]] (pX xW 20).proof)else(kE xW [sF xW [0,1]] (pX xW 20).proof&&(decide (([0,1]:List Int).length=0)||wholeM xW [0,1]),0))=(true,0)
   rw[if_neg (by rw[show aW xW [0,1]=0 by kernel_rfl];exact λx=>x rfl),if_neg (λx=>x hst),hri,hw];rfl
  ·have hc2:∀c∈[sF xW [0,2]],yJ xW.vars.length c=0:=λc hc=>by rw[List.mem_singleton.1 hc];kernel_rfl
   have hst2:oo xW [sF xW [0,2]] (pX xW 20).proof=0:=zaK hst (by decide) hc2
   have hp:kE xW [sF xW [0,2]] (pX xW 20).proof=false:=Rk (vs:=[0,1]) (UB hm hst2) rfl hw λc hc=>by rw[List.mem_singleton.1 hc];kernel_rfl
   unfold RC;rw[hpt,if_neg (by decide)]
   show(if aW xW [0,2]≠0 then(false,aW xW [0,2])else if oo xW [sF xW [0,2]] (pX xW 20).proof≠0 then(false,oo xW [sF xW [0,2]] (pX xW 20).proof)else(kE xW [sF xW [0,2]] (pX xW 20).proof&&(decide (([0,2]:List Int).length=0)||wholeM xW [0,2]),0))=(false,0)
   rw[if_neg (by rw[show aW xW [0,2]=0 by kernel_rfl];exact λx=>x rfl),if_neg (λx=>x hst2),hp];rfl
theorem FB:uG pL [] (dB true):=
 X1 λok=>by
  rw[WO];obtain⟨h1,h2,h3⟩:=Ir;obtain⟨v1,v2⟩:=ziH;refine fy (t:=.str) (u:=.int) (Kk aV 20) ?_;rw[zaJ];refine zG (t:=.mdl) Bx (fy (t:=.ans) (u:=.int) (Y1 xW 20) (fy (t:=.bool) (u:=.int) (mS aV _ _) (fy (t:=.bool) (u:=.int) (mS aV [0,2] _) ?_)));rw[v1,v2];exact dt rfl (dt (by kernel_rfl) (dt rfl (dt rfl (dt rfl (bt rfl rfl)))))
section
variable {s:ByteArray}{vs:List Int}{st:List zS}
theorem zeU(h:(yH s).2.2=0)(h1:aW (yH s).1 vs≠0):RC s vs st=(false,aW (yH s).1 vs):=by
 unfold RC;rw[if_neg (λx=>x h),if_pos h1]
theorem zcz(h:(yH s).2.2=0)(h1:aW (yH s).1 vs=0)(h2:oo (yH s).1 (fN (yH s).1 vs) st≠0):RC s vs st=(false,oo (yH s).1 (fN (yH s).1 vs) st):=by
 unfold RC;rw[if_neg (λx=>x h),if_neg (λx=>x h1),if_pos h2]
theorem zdu(h:(yH s).2.2=0)(h1:aW (yH s).1 vs=0)(h2:oo (yH s).1 (fN (yH s).1 vs) st=0):RC s vs st=(kE (yH s).1 (fN (yH s).1 vs) st&&(decide (vs.length=0)||wholeM (yH s).1 vs),0):=by
 unfold RC;rw[if_neg (λx=>x h),if_neg (λx=>x h1),if_neg (λx=>x h2)]
theorem zeV(h:(yH s).2.2=0)(h2:(RC s vs st).2=0)(h1:(RC s vs st).1=true):aW (yH s).1 vs=0∧oo (yH s).1 (fN (yH s).1 vs) st=0∧kE (yH s).1 (fN (yH s).1 vs) st=true∧(vs.length≠0→wholeM (yH s).1 vs=true):=by
 by_cases hb:aW (yH s).1 vs=0
 ·by_cases hs:oo (yH s).1 (fN (yH s).1 vs) st=0
  ·rw[zdu h hb hs]at h1
   simp only[Bool.and_eq_true,Bool.or_eq_true,decide_eq_true_eq]at h1
   exact⟨hb,hs,h1.1,λhn=>h1.2.resolve_left hn⟩
  ·rw[zcz h hb hs]at h1;cases h1
 ·rw[zeU h hb]at h1;cases h1
end
theorem zaL{m:zD}(hm:yR m=0){vs:List Int}(hl:vs.length=m.vars.length)(hf:XB vs (xT m)):iS m vs=0:=by
 have hr:=qH hm;have h:iS m vs=_:=VZ hm;rw[h,if_neg (not_not_intro hl),if_neg];rintro⟨hg,hx⟩;obtain⟨_,g2,g3⟩:=aS hr hg;have hvl:m.var.toNat<m.vars.length:=by omega
 have:=hf.2 m.var.toNat (by rw[xI];exact hvl)
 rw[gN hvl,cQ]at this
 rw[yA _ hvl]at hx
 omega
theorem zhi{s:ByteArray}(p1:(yH s).2.2=0)(p2:yR (yH s).1=0){k:Nat}{a:D5}(hb:Fh (yH s).1 k a)(hv:a.verdict=2∨a.verdict=1∧(yH s).1.goal≠0):RC s a.values a.proof=(true,0):=by
 have e3:=zdu (s:=s) (vs:=a.values) (st:=a.proof) p1;generalize(yH s).1=m at p2 hb hv e3⊢
 have hr:=qH p2;cases hb with
 |any q0 q1 q2 q3=>
  rcases hv with hv|⟨_,hv⟩
  ·rw[q1]at hv;exact absurd hv (by decide)
  ·exact absurd q0 hv
 |best q0 q1 q2 q3 q4=>
  have hpos:0<a.values.length:=by rw[q2.len];exact vars_pos p2
  have hbe:aW m a.values=iS m a.values:=if_pos hpos;have hgi:fN m a.values=[sF m a.values]:=if_pos hpos;have hc:∀c∈[sF m a.values],yJ m.vars.length c=0:=λc hc=>by rw[List.mem_singleton.1 hc];exact MB hr q0 q2.full
  rw[hbe,hgi]at e3
  have h3:kE m [sF m a.values] a.proof=true:=q3.right;rw[e3 (zaL p2 q2.len q2.full) (UM hc (Nat.le_refl _) q3 q4),h3,q2.whole,Bool.or_true];rfl
 |none q1 q2 q3 q4=>
  have hbe:aW m a.values=0:=by rw[q2];rfl
  have hgi:fN m a.values=[]:=by rw[q2];rfl
  rw[hgi]at e3
  have h3:kE m [] a.proof=true:=q3.right;rw[e3 hbe (UM (g:=[]) (λc hc=>(by cases hc)) (by decide) q3 q4),h3,q2];rfl
 |unknown q1 q2 q3 q4=>
  rcases hv with hv|⟨hv,_⟩<;>rw[q1]at hv<;>exact absurd hv (by decide)
 where
 vars_pos {m:zD} (h:yR m=0):0<m.vars.length:=by
  unfold yR at h
  split at h
  ·exact absurd h (by decide)
  ·omega
theorem zcA{s:ByteArray}(p1:(yH s).2.2=0)(p2:yR (yH s).1=0)(a2:List Int)(a3:List zS)(a4:List Int):
  Q3 wX [.str s,.sl .int a2,.sl .step a3] .bool .int λr12 r13=>
  Q3 pD [dM (yH s).1,.sl .int a4] .bool .int λm14 m15=>
  zP (!decide (r13=0)) (dB true=dB true) (zP (!r12) (dB true=dB true) (zP (!decide (m15=0)) (dB true=dB true) (zP (!m14) (dB true=dB true)
  (zP (decide ((a2.length:Int)=0)) (dB false=dB true)
  (zP (decide ((yH s).1.goal=1))
  (wI (yH s).1.var a2.length=true∧wI (yH s).1.var a4.length=true∧dB (decide ((zR .int a2 (yH s).1.var.toNat)≤(zR .int a4 (yH s).1.var.toNat)))=dB true)
  (zP (decide ((yH s).1.goal=2))
  (wI (yH s).1.var a2.length=true∧wI (yH s).1.var a4.length=true∧dB (decide ((zR .int a4 (yH s).1.var.toNat)≤(zR .int a2 (yH s).1.var.toNat)))=dB true)
  (dB true=dB true))))))):=by
 refine fy (t:=.bool) (u:=.int) (mS s a2 a3) (fy (t:=.bool) (u:=.int) (NY _ a4) ?_);have et:=zeV (s:=s) (vs:=a2) (st:=a3) p1;generalize RC s a2 a3=r at et⊢
 generalize(yH s).1=m at p2 et⊢
 have hr:=qH p2
 by_cases h1:r.2=0
 rotate_left
 ·exact dnt h1 rfl
 refine BA h1 ?_;cases h2:r.1 with
 |false=>exact bnt rfl rfl
 |true=>
 refine bnf rfl ?_
 by_cases h3:H9 m a4=0
 rotate_left
 ·exact dnt h3 rfl
 refine BA h3 ?_;rw[zh8 h3];cases h4:wholeM m a4 with
 |false=>exact bnt rfl rfl
 |true=>
 refine bnf rfl ?_;obtain⟨hb,hs,hp,hw⟩:=et h1 h2;obtain⟨_,hl4⟩:=zer h3
 by_cases h5:a2.length=0
 ·have hgi:fN m a2=[]:=if_neg (by omega)
  rw[hgi]at hs hp
  rw[Rk (UB p2 hs) hl4 h4 (λc hc=>by cases hc)]at hp
  cases hp
 ·have hgi:fN m a2=[sF m a2]:=if_pos (by omega)
  have hbe:aW m a2=iS m a2:=if_pos (by omega)
  rw[hgi]at hs hp
  rw[hbe]at hb
  obtain⟨_,hl2,_⟩:=zaI hb
  have hno:sY (sF m a2) a4≠true:=λhh=>by
   rw[Rk (UB p2 hs) hl4 h4 (λc hc=>by rw[List.mem_singleton.1 hc];exact hh)]at hp
   cases hp
  refine df (by omega) ?_
  by_cases g1:m.goal=1
  ·obtain⟨_,g2,g3⟩:=aS hr (by omega)
   refine dt g1 ⟨vE.2 ⟨g2,by omega⟩,vE.2 ⟨g2,by omega⟩,?_⟩
   have:¬a4.getD m.var.toNat 0<a2.getD m.var.toNat 0:=λhlt=>hno ((XO hr (by omega)).2 (.inl ⟨g1,hlt⟩))
   have h:zR .int a2 m.var.toNat≤zR .int a4 m.var.toNat:=Int.not_lt.1 this;rw[decide_eq_true h]
  ·refine df g1 ?_
   by_cases g1':m.goal=2
   ·obtain⟨_,g2,g3⟩:=aS hr (by omega)
    refine dt g1' ⟨vE.2 ⟨g2,by omega⟩,vE.2 ⟨g2,by omega⟩,?_⟩
    have:¬a2.getD m.var.toNat 0<a4.getD m.var.toNat 0:=λhlt=>hno ((XO hr (by omega)).2 (.inr ⟨g1',hlt⟩))
    have h:zR .int a4 m.var.toNat≤zR .int a2 m.var.toNat:=Int.not_lt.1 this;rw[decide_eq_true h]
   ·exact df g1' rfl
theorem W0(s:ByteArray)(fuel:Int)(a2:List Int)(a3:List zS)(a4:List Int):uG cC [.str s,dI fuel,.sl .int a2,.sl .step a3,.sl .int a4] (dB true):=
 X0 s fuel a2 a3 a4 λok=>by
  rw[WN];refine zG (t:=.bool) FB (bnf rfl (zG (t:=.bool) UL (bnf rfl (zG (t:=.bool) Bz (bnf rfl (zG (t:=.bool) VB (bnf rfl (B3 (t:=.mdl) (u:=.int) (v:=.int) (ZV s) ?_))))))));rcases RB s with⟨p1,p2⟩|⟨p1,p2⟩
  ·have tl:=zcA p1 p2 a2 a3 a4
   refine BA p1 (fy (t:=.ans) (u:=.int) (Y1 _ fuel) ?_)
   by_cases hrd:XU (yH s).1 fuel=0
   ·obtain⟨_,k,rfl,hb⟩:=Bv hrd
    refine dt hrd ?_;have hvb:=zhi p1 p2 hb
    by_cases hv2:(pX (yH s).1 (k:Int)).verdict=2
    ·refine dt hv2 (fy (t:=.bool) (u:=.int) (mS s _ _) ?_)
     rw[hvb (.inl hv2)];exact BA rfl (bnf rfl tl)
    ·refine df hv2 ?_
     by_cases hv1:(pX (yH s).1 (k:Int)).verdict=1
     ·refine dt hv1 ?_
      by_cases hg:(yH s).1.goal=0
      ·exact BA hg tl
      ·refine dnt hg (fy (t:=.bool) (u:=.int) (mS s _ _) ?_)
       rw[hvb (.inr ⟨hv1,hg⟩)];exact BA rfl (bnf rfl tl)
     ·exact df hv1 tl
   ·exact df hrd tl
  ·exact dnt p1 rfl
end Go.Proofs.YtogdmcebojiojaaGreatDoor
namespace Go.Proofs.YtogdmcebojiojaaGreatDoor
open Go.ChangeShapes Go.WideShapes Go.ChangeAt Go.RowKit
set_option linter.unusedVariables false
set_option linter.unusedSimpArgs false
def zaM:List (String×DataW Unit):=[("math/bits.deBruijn32tab",Rows.laid_math_bits_deBruijn32tab),("math/bits.deBruijn64tab",Rows.laid_math_bits_deBruijn64tab),("internal/strconv.uint64pow10",Rows.laid_internal_strconv_uint64pow10),("strconv.ErrRange",Rows.laid_strconv_ErrRange),("strconv.ErrSyntax",Rows.laid_strconv_ErrSyntax)]
theorem ziI:(Rows.laid_internal_strconv_uint64pow10:DataW Unit)=Lib.tabData .u64 Lib.pow10Tab:=by kernel_rfl
theorem zcB:∃g t e n,Tryz.prog.globalNamed "internal/strconv.uint64pow10" =some g∧(Tryz.prog.globals[g]?).map (·.type)=some t∧Tryz.prog.underlying t=some (.array n e)∧Tryz.prog.underlying e=some (.int .u64)∧Tryz.prog.cellsOf e=1∧Tryz.prog.cellsOf t=n:=
 ⟨0,281,250,20,by kernel_rfl,by kernel_rfl,by kernel_rfl,by kernel_rfl,by kernel_rfl,by kernel_rfl⟩
theorem zaN{W:World}(h:laidMetH Tryz.prog zaM W):Lib.TabIs Tryz.prog W "internal/strconv.uint64pow10" .u64 Lib.pow10Tab:=by
 rw[MakeChecks.laidMetH_plain _ _ _ (by kernel_rfl)]at h
 obtain⟨g,t,e,n,e1,e2,e3,e4,e5,e6⟩:=zcB;obtain⟨ps,⟨g0,t0,cs0,f0,p0,q0,hg0,ht0,hv0,hd0,⟨g1,t1,cs1,f1,p1,q1,hg1,ht1,hv1,hd1,⟨g2,t2,cs2,f2,p2,q2,hg2,ht2,hv2,hd2,_⟩,_⟩,_⟩,_⟩:=h;obtain rfl:=Option.some.inj (e1.symm.trans hg2);obtain rfl:=Option.some.inj (e2.symm.trans ht2);unfold Lib.TabIs;rw[ziI]at hd2
 rw[hv2,←Lib.cells_of_tab e3 e4 e5 e6 hd2]
theorem zhj(os:Os)(args:Array Value):laidMetH Tryz.prog zaM ((World.doorLaid Tryz.prog 62 os).forCall (λ_ _=>0) ⟨#[],args,[]⟩).memory:=
 laidMetH_of_parts3 (fuel:=8) (laidMet_of_run' 8 (by kernel_rfl) (by kernel_rfl)) (by kernel_rfl) (by kernel_rfl)
end Go.Proofs.YtogdmcebojiojaaGreatDoor
namespace Go.Proofs.YtogdmcebojiojaaGreatDoor
open Go.RowKit Go.ChangeShapes Go.WideShapes Go.Deep
set_option linter.unusedVariables false
set_option linter.unusedSimpArgs false
def iE(α:Type)[wK α](P:Program)(t:TypeId):Prop:=
 P.cellsOf t=wK.size α∧∀(H:Type) (enc:TypeId×Value→H) (w:World) (fuel:Nat) (cs:List Value) (x:DataW H×List MemPlace),
  DataW.trod enc P w 0 (λ_=>true) true fuel t cs=some x→(∀n∈x.1.weights P t,n≤reachBytes)→∃y:α,wK.rd w (λb=>b<w.heap.size) cs y
theorem zcC{P:Program}{t:TypeId}(ht:P.underlying t=some (.int .i64))(hc:P.cellsOf t=1):iE Int P t:=
 ⟨hc,λH enc w fuel cs x h _=>by
  obtain⟨n,rfl,_,hw⟩:=DataW.trod_int ht h;refine⟨n,rfl,?_⟩;simpa[yQ,Lit.wf,IntKind.min,IntKind.max,IntKind.signed,IntKind.bits]using hw⟩
theorem K2{H:Type}{P:Program}{e:TypeId}:∀ {l:List (DataW H)} {d:DataW H},d∈l→∀n∈d.weights P e,n∈DataW.weightsAll P e l
 |x::l,d,hd,n,hn=>by
  simp only[DataW.weightsAll,List.mem_append];rcases List.mem_cons.1 hd with rfl|h
  ·exact .inl hn
  ·exact .inr (K2 h n hn)
theorem zaO(b o n:Nat):(⟨b,o,none⟩:Addr).add n=⟨b,o+n,none⟩:=by unfold Addr.add;split<;>simp_all
theorem RD{α:Type}[wK α]{P:Program}{t e:TypeId}(ht:P.underlying t=some (.slice e))(hc:P.cellsOf t=1)(hb:P.bytesOf e=wK.bytes α)(he:iE α P e):iE (List α) P t:=
 ⟨hc,λH enc w fuel cs x h hw=>by
  rcases open_slice ht h with⟨rfl,rfl⟩|⟨a,len,cap,m,n,D,Pl,rfl,_,hl,hm,hmm,rfl,hi⟩
  ·exact⟨[],none,0,rfl,by simp,by simp,by simp,λ_=>rfl,λh=>absurd h (by simp)⟩
  ·have hml:len≤m:=by rw[hmm];split<;>omega
   have hall:∀i,i<len→∀n∈(D i).weights P e,n≤reachBytes:=λi hi' n hn=>hw n (by
    simp only[DataW.weights,ht,List.mem_cons,List.mem_append];exact .inr (.inl (K2 (List.mem_map.2 ⟨i,List.mem_range.2 hi',rfl⟩) n hn)))
   have hex:∀i:Fin len,∃y:α,∃cs',w.cells? 0 (a.add (i*wK.size α)) (wK.size α)=some cs'∧wK.rd w (λb=>b<w.heap.size) cs' y:=λi=>by
    obtain⟨cs',h1,h2⟩:=hi i (by omega)
    rw[he.1]at h1
    obtain⟨y,hy⟩:=he.2 H enc w n cs' _ h2 (hall i i.2);exact⟨y,cs',h1,hy⟩
   let f:Fin len→α:=λi=>(hex i).choose
   have hf:∀i:Fin len,∃cs',w.cells? 0 (a.add (i*wK.size α)) (wK.size α)=some cs'∧wK.rd w (λb=>b<w.heap.size) cs' (f i):=λi=>(hex i).choose_spec
   have hbytes:=hw ((len+(m-len))*P.bytesOf e) (by simp[DataW.weights,ht])
   have hr:reachBytes≤140737488355328:=by decide
   have hlb:len*wK.bytes α≤(len+(m-len))*P.bytesOf e:=by rw[hb];exact Nat.mul_le_mul_right _ (by omega)
   refine⟨List.ofFn f,some a,cap,by simp,by simp;omega,by simpa using hl,by simpa[maxLen]using hm,(λe=>by cases e),λhn=> ?_⟩
   simp at hn
   obtain⟨b,o,sp⟩:=a
   have hsp:sp=none:=by
    obtain⟨cs',h1,_⟩:=hf ⟨0,hn⟩;obtain⟨_,hl1,hat⟩:=World.cells?_some h1;have hp:0<wK.size α:=wK.pos;have h0:=hat 0 hp;rw[List.getElem?_eq_getElem (by omega)]at h0
    simpa[Addr.add]using World.cell?_spot h0
   subst hsp
   have hblt:b<w.heap.size:=by
    obtain⟨cs',h1,_⟩:=hf ⟨0,hn⟩;obtain⟨_,hl1,hat⟩:=World.cells?_some h1;have hp:0<wK.size α:=wK.pos;have h0:=hat 0 hp;rw[List.getElem?_eq_getElem (by omega)]at h0
    have:=World.block_lt_of_cell? _ _ h0;simpa[Addr.add]using this
   refine⟨b,o,rfl,hblt,λi y hy=> ?_⟩
   have hil:i<len:=by have:=(List.getElem?_eq_some_iff.1 hy).1;simpa using this
   have hy':y=f ⟨i,hil⟩:=by simpa[List.getElem?_ofFn,hil]using hy.symm
   subst hy';obtain⟨cs',h1,h2⟩:=hf ⟨i,hil⟩;obtain⟨_,hl1,hat⟩:=World.cells?_some h1;refine⟨cs',h2,λj u hu=> ?_⟩
   have hj:j<wK.size α:=by have:=(List.getElem?_eq_some_iff.1 hu).1;omega
   have:=hat j hj;rw[zaO,zaO,hu]at this
   exact this⟩
theorem K3{P:Program}{t:TypeId}{fs:Array Field}{H:Type}{enc:TypeId×Value→H}{w:World}{fuel:Nat}{cs:List Value}{x:DataW H×List MemPlace}(ht:P.underlying t=some (.struct fs))(hone:oneCellFields P fs=true)(hc:P.cellsOf t=fs.size)
  (h:DataW.trod enc P w 0 (λ_=>true) true fuel t cs=some x) (hw:∀n∈x.1.weights P t,n≤reachBytes):
  cs.length=fs.size∧∃n,∀(i:Nat) (f:Field),fs[i]? =some f→∃v y,cs[i]? =some v∧DataW.trod enc P w 0 (λ_=>true) true n f.type [v]=some y∧∀m∈y.1.weights P f.type,m≤reachBytes:=by
 obtain⟨xs,n,_,rfl,hlen,hxl,hf⟩:=DataW.trod_struct ht h;refine⟨by omega,n,λi f hi=> ?_⟩
 have hif:i<fs.size:=(Array.getElem?_eq_some_iff.1 hi).1;obtain⟨ho,hk⟩:=hone_of hone i f hi;have h1:=hf i f hi;rw[ho,hk]at h1
 have hil:i<cs.length:=by omega
 have e:(cs.drop i).take 1=[cs[i]]:=by rw[List.drop_eq_getElem_cons hil];rfl
 rw[e]at h1
 have hxi:xs[i]? =some (xs[i]'(by omega)):=List.getElem?_eq_getElem (by omega)
 refine⟨cs[i],xs[i]'(by omega),List.getElem?_eq_getElem hil,h1.trans hxi,λm hm=>hw m ?_⟩
 simp only[DataW.weights,ht];refine DataW.weights_mem_each (j:=i) (t:=f.type) (d:=(xs[i]'(by omega)).1) ?_ ?_ m hm
 ·rw[List.getElem?_map];simp[hi]
 ·rw[List.getElem?_map,hxi];rfl
theorem RE{α:Type}[wK α]{P:Program}{t:TypeId}{H:Type}{enc:TypeId×Value→H}{w:World}{v:Value}{d:DataW H}{p:List MemPlace}(ho:iE α P t)(h:DataW.Trod enc P w 0 (λ_=>true) true t v d p)
  (hs:vOf v.cells.toList=v) (hw:∀n∈d.weights P t,n≤reachBytes):∃y:α,Rds w v y:=by
 obtain⟨fuel,hf⟩:=h;obtain⟨y,hy⟩:=ho.2 H enc w fuel _ _ hf hw;exact⟨y,v.cells.toList,hs.symm,hy⟩
theorem FC{H:Type}{P:Program}{ts:List TypeId}{ds:List (DataW H)}(h:(DataW.weightsEach P ts ds).all (·≤reachBytes)=true){j:Nat}{t:TypeId}{d:DataW H}(ht:ts[j]? =some t)(hd:ds[j]? =some d):∀n∈d.weights P t,n≤reachBytes:=λn hn=>by
 have:=List.all_eq_true.1 h n (DataW.weights_mem_each ht hd n hn);simpa using this
theorem zcD{P:Program}{t:TypeId}{f0 f1 f2:Field}(ht:P.underlying t=some (.struct #[f0,f1,f2]))(hone:oneCellFields P #[f0,f1,f2]=true)(hc:P.cellsOf t=3)(h0:iE Int P f0.type)(h1:iE Int P f1.type)(h2:iE Int P f2.type):iE zC P t:=
 ⟨hc,λH enc w fuel cs x h hw=>by
  obtain⟨hl,n,hf⟩:=K3 ht hone hc h hw;obtain⟨v0,y0,c0,t0,w0⟩:=hf 0 f0 rfl;obtain⟨v1,y1,c1,t1,w1⟩:=hf 1 f1 rfl;obtain⟨v2,y2,c2,t2,w2⟩:=hf 2 f2 rfl;obtain⟨x0,e0,q0⟩:=h0.2 H enc w n _ _ t0 w0;obtain⟨x1,e1,q1⟩:=h1.2 H enc w n _ _ t1 w1;obtain⟨x2,e2,q2⟩:=h2.2 H enc w n _ _ t2 w2
  match cs,hl,c0,c1,c2 with
  |[a,b,c],_,c0,c1,c2=>
   simp at c0 c1 c2 e0 e1 e2
   subst c0 c1 c2 e0 e1 e2;exact⟨⟨x0,x1,x2⟩,rfl,q0,q1,q2⟩⟩
end Go.Proofs.YtogdmcebojiojaaGreatDoor
namespace Go.Proofs.YtogdmcebojiojaaGreatDoor
open Go.RowKit Go.ChangeShapes Go.WideShapes Go.Deep
set_option linter.unusedVariables false
set_option linter.unusedSimpArgs false
theorem zeW:iE Int Tryz.prog 3:=zcC Tryz.underlying3 (by kernel_rfl)
theorem zi0:iE (List Int) Tryz.prog 40:=RD Tryz.underlying40 (by kernel_rfl) (by kernel_rfl) zeW
theorem zkH:iE zC Tryz.prog 114:=zcD Tryz.underlying114 (by kernel_rfl) (by kernel_rfl) zeW zeW zeW
theorem ziJ:iE (List zC) Tryz.prog 53:=RD Tryz.underlying53 (by kernel_rfl) (by kernel_rfl) zkH
end Go.Proofs.YtogdmcebojiojaaGreatDoor
namespace Go.Proofs.YtogdmcebojiojaaGreatDoor
open Go.RowKit Go.ChangeShapes Go.WideShapes Go.Deep
set_option linter.unusedVariables false
set_option linter.unusedSimpArgs false
theorem zaP{P:Program}{t:TypeId}{f0 f1 f2:Field}(ht:P.underlying t=some (.struct #[f0,f1,f2]))(hone:oneCellFields P #[f0,f1,f2]=true)(hc:P.cellsOf t=3)(h0:iE Int P f0.type)(h1:iE Int P f1.type)(h2:iE (List zC) P f2.type):iE zS P t:=
 ⟨hc,λH enc w fuel cs x h hw=>by
  obtain⟨hl,n,hf⟩:=K3 ht hone hc h hw;obtain⟨v0,y0,c0,t0,w0⟩:=hf 0 f0 rfl;obtain⟨v1,y1,c1,t1,w1⟩:=hf 1 f1 rfl;obtain⟨v2,y2,c2,t2,w2⟩:=hf 2 f2 rfl;obtain⟨x0,e0,q0⟩:=h0.2 H enc w n _ _ t0 w0;obtain⟨x1,e1,q1⟩:=h1.2 H enc w n _ _ t1 w1;obtain⟨x2,q2⟩:=h2.2 H enc w n _ _ t2 w2
  match cs,hl,c0,c1,c2 with
  |[a,b,c],_,c0,c1,c2=>
   simp at c0 c1 c2 e0 e1
   subst c0 c1 c2 e0 e1;exact⟨⟨x0,x1,x2⟩,_,rfl,q0,q1,q2⟩⟩
end Go.Proofs.YtogdmcebojiojaaGreatDoor
namespace Go.Proofs.YtogdmcebojiojaaGreatDoor
open Go.RowKit Go.ChangeShapes Go.WideShapes Go.Deep
set_option linter.unusedVariables false
set_option linter.unusedSimpArgs false
theorem zkm:iE zS Tryz.prog 129:=zaP Tryz.underlying129 (by kernel_rfl) (by kernel_rfl) zeW zeW ziJ
theorem zjL:iE (List zS) Tryz.prog 41:=RD Tryz.underlying41 (by kernel_rfl) (by kernel_rfl) zkm
end Go.Proofs.YtogdmcebojiojaaGreatDoor
