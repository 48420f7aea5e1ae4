/- Texts of this proof, one behind the other: nothing is handed in but what is proved here; no condition. -/
import Derived.Recover
import Derived.Test.YtogdmcebojiojaaGreatDoorRows
import Derived.ProofKit
import Derived.LaidMore
import Derived.OpenShut
import Derived.Stop.Joined
import Derived.SizedLaws
import Derived.Deep.Slices
import Derived.Deep.Fields
import Derived.Test.YtogdmcebojiojaaGreatDoorProg
import Derived.Test.YtogdmcebojiojaaGreatDoorZE
namespace Go.Proofs.YtogdmcebojiojaaGreatDoor
open Go.RowKit
set_option maxRecDepth 100000
set_option linter.unusedVariables false
set_option linter.unusedSimpArgs false
def XD(l' l:List (List zC)):Prop:=∀c∈l,∃c'∈l',∀vs:List Int,qZ c' vs=true→qZ c vs=true
theorem XD.sub{l' l:List (List zC)}(h:∀c∈l,c∈l'):XD l' l:=λc hc=>⟨c,h c hc,λ_ h=>h⟩
theorem XD.refl(l:List (List zC)):XD l l:=.sub λ_ h=>h
theorem XD.trans{a b c:List (List zC)}(h:XD a b)(h':XD b c):XD a c:=λx hx=>by
 obtain⟨y,hy,e⟩:=h' x hx;obtain⟨z,hz,e'⟩:=h y hy;exact⟨z,hz,λvs h=>e vs (e' vs h)⟩
theorem XD.app{a b a' b':List (List zC)}(h:XD a b)(h':XD a' b'):XD (a++a') (b++b'):=λx hx=>by
 rcases List.mem_append.1 hx with hx|hx
 ·obtain⟨y,hy,e⟩:=h x hx;exact⟨y,List.mem_append_left _ hy,e⟩
 ·obtain⟨y,hy,e⟩:=h' x hx;exact⟨y,List.mem_append_right _ hy,e⟩
theorem zbG{nv:Nat}{op op':Op}{Q Q':List Int→Bool}(h:Xu nv op Q)(h':Xu nv op' Q')(hq:∀vs,Q' vs=true→Q vs=true){s:List (List Int)}(hl:s.length=nv)(hp:0<s.length)(hf:zT s=false)(hs:op' s=s):op s=s:=by
 have hm:∀(v:Nat) (n:Int),n∈s.getD v []→∃us,Vx us s∧us.getD v 0=n∧Q us=true:=λv n hn=>by
  obtain⟨us,a,b,c⟩:=h'.congr (Q':=Q') hl (vs:=[]) hs hf v n hn;exact⟨us,a,b,hq us c⟩
 have hex:∃vs,Vx vs s∧Q vs=true:=by
  have h0:=sT.1 hf 0 hp;obtain⟨n,hn⟩:=List.exists_mem_of_ne_nil _ h0;obtain⟨us,a,_,c⟩:=hm 0 n hn;exact⟨us,a,c⟩
 rw[h.some s hl hf hex];exact Zc λv n hn=>oY.2 (hm v n hn)
section
variable {m:zG}{l l':List (List zC)}{cons:Bool}{s t:List (List Int)}
theorem zbH(hl:yR m l)(hl':yR m l')(he:XD l' l)(hs:s.length=m.vars.length)(hf:zT s=false)(h:Oj (mS m cons l') s):Oj (mS m cons l) s:=λop ho=>by
 have hp:=hl.pos;rcases ox.1 ho with⟨hc,c,hc2,rfl⟩|⟨c,hc,rfl⟩
 ·exact h _ (ox.2 (.inl ⟨hc,c,hc2,rfl⟩))
 ·obtain⟨c',hc',e⟩:=he c hc
  exact zbG (aO hl hc) (aO hl' hc') e hs (by omega) hf (h _ (ox.2 (.inr ⟨c',hc',rfl⟩)))
theorem Mc(hl:yR m l)(hs:s.length=m.vars.length):cI (qC m cons l s) s:=(gV hl hs).le
theorem AF(hl:yR m l)(hs:s.length=m.vars.length):(qC m cons l s).length=m.vars.length:=(Mc hl hs).1.trans hs
theorem Tt(hl:yR m l)(hs:s.length=m.vars.length)(hf:zT (qC m cons l s)=false):Oj (mS m cons l) (qC m cons l s):=by
 rcases(gV (cons:=cons) hl hs).out with⟨_,h⟩|h
 ·exact h
 ·rw[h,iR (by have:=hl.pos;omega)]at hf;cases hf
theorem AG(hl:yR m l)(hs:s.length=m.vars.length)(ht:cI t s)(hf:zT t=false)(h:Oj (mS m cons l) t):cI t (qC m cons l s):=(gV hl hs).all t ht hf h
theorem zbI(hl:yR m l)(hs:s.length=m.vars.length)(hf:zT (qC m cons l s)=true):qC m cons l s=gI s:=by
 rcases(gV (cons:=cons) hl hs).out with⟨h,_⟩|h
 ·rw[h]at hf;cases hf
 ·exact h
theorem zjC(hl:yR m l)(hl':yR m l')(he:XD l' l)(hs:s.length=m.vars.length)(h:zT (qC m cons l s)=true):zT (qC m cons l' s)=true:=by
 cases hf:zT (qC m cons l' s)
 ·have hs':=AF (cons:=cons) hl' hs
  have:=AG hl hs (Mc hl' hs) hf (zbH hl hl' he hs' hf (Tt hl' hs hf));rw[this.fail hf]at h;cases h
 ·rfl
theorem zh4{f:Nat→Int→Bool}(hl:yR m l)(hs:s.length=m.vars.length)(hf:zT (qC m cons l s)=false):qC m cons l (pL f (qC m cons l s))=qC m cons l (pL f s):=by
 have hr:=AF (cons:=cons) hl hs;have k1:(pL f (qC m cons l s)).length=m.vars.length:=tL.trans hr;have k2:(pL f s).length=m.vars.length:=tL.trans hs;refine PA hl k1 ⟨?_,λt ht hft hst=> ?_,?_⟩
 ·cases hq:zT (qC m cons l (pL f s))
  ·have h1:=Mc (cons:=cons) hl k2
   have h2:=AG hl hs (h1.trans Vd) hq (Tt hl k2 hq);refine⟨h2.1.trans (hr.trans k1.symm),λv=> ?_⟩
   rw[tK];have h3:=h1.2 v;rw[tK]at h3
   have h4:(qC m cons l (pL f s)).getD v []=((qC m cons l (pL f s)).getD v []).filter (f v):=(List.filter_eq_self.2 λn hn=>(List.mem_filter.1 (h3.subset hn)).2).symm
   rw[h4];exact(h2.2 v).filter _
  ·rw[zbI hl k2 hq]
   exact Tg (k2.trans k1.symm)
 ·refine AG hl k2 (ht.trans ?_) hft hst
  exact Ve (Mc hl hs) λv n _ h=>h
 ·cases hq:zT (qC m cons l (pL f s))
  ·exact .inl ⟨rfl,Tt hl k2 hq⟩
  ·refine .inr ?_
   rw[zbI hl k2 hq];exact Fr (k2.trans k1.symm)
theorem zdC{c:List zC}(hl:yR m l)(hl':yR m l')(he:XD l' l)(h:Sv m l c=true):Sv m l' c=true:=
 zjC hl hl' he (Wp.1.trans xU) h
theorem CT{st:zU}(hl:yR m l)(hl':yR m l')(he:XD l' l)(h:Yl m l st=true):Yl m l' st=true:=by
 unfold Yl at h⊢
 by_cases h1:st.kind=1
 ·rw[if_pos h1]at h⊢;exact h
 ·rw[if_neg h1]at h⊢
  by_cases h2:st.kind=2
  ·rw[if_pos h2,Bool.and_eq_true]at h⊢
   exact⟨h.1,zdC hl hl' he h.2⟩
  ·rw[if_neg h2]at h;cases h
end
theorem Em{m:zG}(hm:xL m=0):∀ {t:List zU} {l l':List (List zC)},(∀c∈l,yP m.vars.length c=0)→(∀c∈l',yP m.vars.length c=0)→(∀st∈t,yP m.vars.length st.clause=0)→XD l' l→pO m l t=true→pO m l' t=true
 |[],l,l',_,_,_,_,_=>rfl
 |st::t,l,l',h1,h2,h3,he,h=>by
  have hst:=h3 st (List.mem_cons_self ..);rw[pO,Bool.and_eq_true]at h⊢
  have k1:∀ {a:List (List zC)},(∀c∈a,yP m.vars.length c=0)→∀c∈a++[st.clause],yP m.vars.length c=0:=λha c hc=>by
   rcases List.mem_append.1 hc with hc|hc
   ·exact ha c hc
   ·rw[List.mem_singleton.1 hc];exact hst
  exact⟨CT (kF hm h1) (kF hm h2) he h.1,Em hm (k1 h1) (k1 h2) (λx hx=>h3 x (List.mem_cons_of_mem _ hx)) (he.app (.refl _)) h.2⟩
abbrev Tu(s:List (List Int)):Int:=PL (λr=>decide (1<r.length)) s 0
def Tv(s:List (List Int))(v n:Int):List (List Int):=pL (λw k=> !decide ((w:Int)=v)||decide (k=n)) s
def gO(s:List (List Int)):List Int:=s.map λr=>r.getD 0 0
noncomputable def uE (m:zG)(l:List (List zC))(d:List zC):List (List Int):=qC m true l (dH m d)
noncomputable def Tw (m:zG)(l:List (List zC)):Nat→List (List Int)→List zC→List zC×Bool×List Int
 |0,s,d=>(d,false,[])
 |k+1,s,d=>if zT s=true then(d,false,[])else if Tu s<0 then([],true,gO s)
   else Tw m l k (qC m true l (Tv s (Tu s) ((s.getD (Tu s).toNat []).getD 0 0))) (d++[⟨Tu s,3,(s.getD (Tu s).toNat []).getD 0 0⟩])
noncomputable def nP (m:zG)(l:List (List zC)):List zC×Bool×List Int:=Tw m l (m.vars.length+1) (qC m true l (wT m)) []
theorem CU{α:Type}{p:α→Bool}:∀(xs:List α) (i:Nat),(PL p xs (i:Int)= -1∧∀x∈xs,p x=false)∨∃k,k<xs.length∧PL p xs (i:Int)=((i+k:Nat):Int)∧(∀h:k<xs.length,p xs[k]=true)∧∀j (hj:j<xs.length),j<k→p xs[j]=false
 |[],i=> .inl ⟨rfl,λx hx=>by cases hx⟩
 |x::xs,i=>by
  rw[PL];cases hx:p x
  ·rw[cond_false]
   rcases CU xs (i+1)with⟨h1,h2⟩|⟨k,hk,h1,h2,h3⟩
   ·refine .inl ⟨h1,λy hy=> ?_⟩
    rcases List.mem_cons.1 hy with rfl|hy
    ·exact hx
    ·exact h2 y hy
   ·refine .inr ⟨k+1,by simp;omega,by rw[show((i:Int)+1)=((i+1:Nat):Int) by omega,h1];omega,λh=>by simpa using h2 hk,λj hj hjk=> ?_⟩
    match j with
    |0=>exact hx
    |j+1=>simpa using h3 j (by simpa using hj) (by omega)
  ·rw[cond_true]
   exact .inr ⟨0,by simp,rfl,λ_=>hx,λj _ hj=>by omega⟩
theorem CV(s:List (List Int)):(Tu s= -1∧∀v:Nat,(s.getD v []).length≤1)∨∃v:Nat,Tu s=(v:Int)∧v<s.length∧1<(s.getD v []).length∧∀w:Nat,w<v→(s.getD w []).length≤1:=by
 have h:(Tu s= -1∧_)∨∃k,k<s.length∧Tu s=((0+k:Nat):Int)∧_:=CU (p:=λr:List Int=>decide (1<r.length)) s 0
 rcases h with⟨h1,h2⟩|⟨k,hk,h1,h2,h3⟩
 ·refine .inl ⟨h1,λv=> ?_⟩
  by_cases hv:v<s.length
  ·have:=h2 _ (List.getElem_mem hv)
   rw[yE _ hv];simpa using this
  ·rw[qJ (by omega)];exact Nat.zero_le _
 ·refine .inr ⟨k,by rw[h1];omega,hk,?_,λw hw=> ?_⟩
  ·have:=h2 hk
   rw[yE _ hk];simpa using this
  ·have:=h3 w (by omega) hw
   rw[yE _ (by omega)];simpa using this
section
variable {m:zG}{l l':List (List zC)}{d:List zC}
theorem Tx(hl:yR m l):(uE m l d).length=m.vars.length:=AF hl fC
theorem zeW(hl:yR m l):cI (uE m l d) (dH m d):=Mc hl fC
theorem YG(hl:yR m l):cI (uE m l d) (wT m):=(zeW hl).trans Ui
theorem zjD{v n:Int}:dH m (d++[⟨v,3,n⟩])=Tv (dH m d) v n:=by
 rw[dH,List.foldl_append];show zaV (dH m d) _=_
 rw[zaV,Tv];exact Xv λw k _=>by simp[holdsL]
theorem LU(hl:yR m l)(hf:zT (uE m l d)=false){v n:Int}:qC m true l (Tv (uE m l d) v n)=uE m l (d++[⟨v,3,n⟩]):=by
 rw[uE,uE,zjD,Tv,Tv];exact zh4 hl fC hf
structure Ht (m:zG)(l:List (List zC))(d:List zC):Prop where
 ok:∀x∈d,x.op=3∧0≤x.var∧x.var<(m.vars.length:Int)∧x.n∈(wT m).getD x.var.toNat []
 thin:∀x∈d,∀w:Nat,(w:Int)≤x.var→((uE m l d).getD w []).length≤1
 few:∀w:Nat,1<((uE m l d).getD w []).length→d.length≤w
 len:d.length≤m.vars.length
theorem Ht.nil:Ht m l []:=⟨λx hx=>(by cases hx),λx hx=>(by cases hx),λw _=>Nat.zero_le _,Nat.zero_le _⟩
theorem zf7(hl:yR m l)(hf:zT (uE m l d)=false){v n:Int}:cI (uE m l (d++[⟨v,3,n⟩])) (Tv (uE m l d) v n):=by
 rw[←LU hl hf];exact Mc hl (tL.trans (Tx hl))
theorem zf8{a:List Int}(h:a.Nodup)(n:Int):(a.filter λk=>decide (k=n)).length≤1:=by
 induction a with
 |nil=>exact Nat.zero_le _
 |cons x a ih=>
  rw[List.filter_cons]
  by_cases e:x=n
  ·rw[if_pos (by simpa using e)]
   have:(a.filter λk=>decide (k=n))=[]:=List.filter_eq_nil_iff.2 λy hy=>by
    have:=(List.nodup_cons.1 h).1;intro e2;have e2:y=n:=by simpa using e2
    rw[e2,←e]at hy;exact this hy
   rw[this];exact Nat.le_refl _
  ·rw[if_neg (by simpa using e)]
   exact ih (List.nodup_cons.1 h).2
theorem zdD(v:Nat):((wT m).getD v []).Nodup:=by
 by_cases hv:v<m.vars.length
 ·rw[bJ hv];exact Jb _ _
 ·rw[qJ (by rw[xU];omega)];exact List.nodup_nil
theorem En{a:List Int}(h:0<a.length):a.getD 0 0∈a:=by
 match a,h with
 |x::a,_=>exact List.mem_cons_self
theorem Ht.step(hl:yR m l)(h:Ht m l d)(hf:zT (uE m l d)=false){v:Nat}(hv:v<m.vars.length)(ho:Tu (uE m l d)=v)(h1:1<((uE m l d).getD v []).length)(h2:∀w:Nat,w<v→((uE m l d).getD w []).length≤1):
  Ht m l (d++[⟨v,3,((uE m l d).getD v []).getD 0 0⟩]):=by
 have hm:=zf7 (v:=(v:Int)) (n:=((uE m l d).getD v []).getD 0 0) hl hf;have hle:∀w:Nat,((uE m l (d++[⟨v,3,((uE m l d).getD v []).getD 0 0⟩])).getD w []).length≤((uE m l d).getD w []).length:=λw=>((hm.trans Vd).2 w).length_le
 have hvv:((uE m l (d++[⟨v,3,((uE m l d).getD v []).getD 0 0⟩])).getD v []).length≤1:=by
  have h3:=(hm.2 v).length_le;rw[Tv,tK]at h3
  have h4:(((uE m l d).getD v []).filter λk=> !decide ((v:Int)=(v:Int))||decide (k=((uE m l d).getD v []).getD 0 0)).length≤1:=by
   rw[show(λk:Int=> !decide ((v:Int)=(v:Int))||decide (k=((uE m l d).getD v []).getD 0 0))=λk=>decide (k=((uE m l d).getD v []).getD 0 0) by funext k;simp]
   exact zf8 (((YG hl).2 v).nodup (zdD v)) _
  omega
 have hd:d.length≤v:=h.few v h1;refine⟨λx hx=> ?_,λx hx w hw=> ?_,λw hw=> ?_,?_⟩
 ·rcases List.mem_append.1 hx with hx|hx
  ·exact h.ok x hx
  ·rw[List.mem_singleton.1 hx]
   exact⟨rfl,by show(0:Int)≤v;omega,by show(v:Int)<_;omega,((YG hl).2 v).subset (En (by omega))⟩
 ·rcases List.mem_append.1 hx with hx|hx
  ·exact Nat.le_trans (hle w) (h.thin x hx w hw)
  ·rw[List.mem_singleton.1 hx]at hw
   have hw:(w:Int)≤v:=hw
   by_cases e:w=v
   ·rw[e];exact hvv
   ·exact Nat.le_trans (hle w) (h2 w (by omega))
 ·rw[List.length_append,List.length_singleton]
  have h5:v<w:=by
   rcases Nat.lt_or_ge v w with h5|h5
   ·exact h5
   ·rcases Nat.lt_or_eq_of_le h5 with h6|h6
    ·have:=h2 w h6;have:=hle w;omega
    ·rw[h6]at hw;omega
  omega
 ·rw[List.length_append,List.length_singleton];omega
inductive CW (m:zG)(l:List (List zC)):List zC×Bool×List Int→Prop
 |found (d:List zC) (hc:Ht m l d) (hf:zT (uE m l d)=false) (h1:∀v:Nat,((uE m l d).getD v []).length≤1):CW m l ([],true,gO (uE m l d))
 |none (hf:zT (uE m l [])=true):CW m l ([],false,[])
 |some (d:List zC) (v:Nat) (hc:Ht m l d) (hf:zT (uE m l d)=false) (hv:v<m.vars.length) (h1:1<((uE m l d).getD v []).length) (h2:∀w:Nat,w<v→((uE m l d).getD w []).length≤1)
   (hc':Ht m l (d++[⟨v,3,((uE m l d).getD v []).getD 0 0⟩])) (hf':zT (uE m l (d++[⟨v,3,((uE m l d).getD v []).getD 0 0⟩]))=true):CW m l (d++[⟨v,3,((uE m l d).getD v []).getD 0 0⟩],false,[])
theorem Eo(hl:yR m l):∀(k:Nat) (d:List zC),Ht m l d→m.vars.length+1≤k+d.length→(zT (uE m l d)=true→CW m l (d,false,[]))→CW m l (Tw m l k (uE m l d) d)
 |0,d,hc,hk,_=>absurd hc.len (by omega)
 |k+1,d,hc,hk,hfail=>by
  rw[Tw];cases hf:zT (uE m l d)
  ·rw[if_neg (by decide)]
   rcases CV (uE m l d)with⟨e,h1⟩|⟨v,e,hv,h1,h2⟩
   ·rw[if_pos (by omega)];exact .found d hc hf h1
   ·rw[if_neg (by omega),e,Int.toNat_natCast,LU hl hf]
    have hv:v<m.vars.length:=by rw[Tx hl]at hv;exact hv
    have hc':=hc.step hl hf hv e h1 h2;exact Eo hl k _ hc' (by rw[List.length_append,List.length_singleton];omega) λhf'=> .some d v hc hf hv h1 h2 hc' hf'
  ·rw[if_pos rfl];exact hfail hf
theorem Ep(hl:yR m l):CW m l (nP m l):=Eo hl _ [] .nil (by simp) λhf=> .none hf
end
def LV:List (List Int)→List (List Int)
 |[]=>[[]]
 |r::rs=>r.flatMap λn=>(LV rs).map (n::·)
def Yc:List (List Int)→Nat
 |[]=>1
 |r::rs=>r.length*Yc rs
theorem CX:∀s:List (List Int),(LV s).length=Yc s
 |[]=>rfl
 |r::rs=>by
  rw[LV,Yc,List.length_flatMap];have h:(r.map λn=>((LV rs).map (n::·)).length)=r.map λ_=>Yc rs:=List.map_congr_left λn _=>by rw[List.length_map,CX rs]
  rw[h];clear h
  induction r with
  |nil=>simp
  |cons x r ih=>rw[List.map_cons,List.sum_cons,ih,List.length_cons,Nat.succ_mul];omega
theorem Jw:∀ {s:List (List Int)} {vs:List Int},vs∈LV s↔Vx vs s
 |[],vs=>by
  rw[LV,List.mem_singleton];refine⟨λh=>by subst h;exact⟨rfl,λv hv=>absurd hv (Nat.not_lt_zero v)⟩,λh=>List.length_eq_zero_iff.1 h.1⟩
 |r::rs,vs=>by
  rw[LV,List.mem_flatMap];constructor
  ·rintro⟨n,hn,h⟩
   obtain⟨us,hu,rfl⟩:=List.mem_map.1 h;have:=Jw.1 hu;refine⟨by simp[this.1],λv hv=> ?_⟩
   match v with
   |0=>exact hn
   |v+1=>exact this.2 v (by simpa using hv)
  ·rintro⟨h1,h2⟩
   match vs,h1 with
   |n::us,h1=>
    refine⟨n,h2 0 (by simp),List.mem_map.2 ⟨us,Jw.2 ⟨by simpa using h1,λv hv=> ?_⟩,rfl⟩⟩
    exact h2 (v+1) (by simpa using hv)
theorem Ib:∀(a b:List (List Int)),Yc (a++b)=Yc a*Yc b
 |[],b=>by rw[List.nil_append,Yc,Nat.one_mul]
 |r::a,b=>by rw[List.cons_append,Yc,Yc,Ib a b,Nat.mul_assoc]
def Xa(s:List (List Int)):Nat→List (List Int)
 |0=>[]
 |k+1=>Xa s k++if 1<(s.getD k []).length then LV (s.take (k+1))else[]
theorem CY{s:List (List Int)}(h:∀r∈s,0<r.length):∀k,k≤s.length→(Xa s k).length+2≤2*Yc (s.take k)
 |0,_=>by simp[Xa,Yc]
 |k+1,hk=>by
  have ih:=CY h k (by omega)
  have hg:s.getD k []=s[k]:=yE _ (by omega)
  have e:Yc (s.take (k+1))=Yc (s.take k)*s[k].length:=by
   rw[←List.take_append_getElem (show k<s.length by omega),Ib]
   simp[Yc]
  have hp:=h s[k] (List.getElem_mem _);rw[Xa,List.length_append,hg];split
  ·rename_i h1
   rw[CX,e];have h2:Yc (s.take k)*2≤Yc (s.take k)*s[k].length:=Nat.mul_le_mul_left _ h1;omega
  ·rename_i h1
   have h2:s[k].length=1:=by omega
   rw[e,h2,List.length_nil];omega
theorem CZ{s:List (List Int)}{P:List Int}{v:Nat}(h1:1<(s.getD v []).length)(hP:P∈LV (s.take (v+1))):∀k,v<k→P∈Xa s k
 |0,h=>absurd h (Nat.not_lt_zero v)
 |k+1,h=>by
  rw[Xa,List.mem_append]
  by_cases e:v=k
  ·subst e;rw[if_pos h1];exact .inr hP
  ·exact .inl (CZ h1 hP k (by omega))
structure OT (m:zG)(l:List (List zC))(P:List Int):Prop where
 ex:∃s,cI s (wT m)∧zT s=false∧Oj (mS m true l) s∧(∀w:Nat,w+1<P.length→s.getD w []=[P.getD w 0])∧P.getD (P.length-1) 0∈s.getD (P.length-1) []
theorem OT.ent{m:zG}{l l':List (List zC)}{P:List Int}(hl:yR m l)(hl':yR m l')(he:XD l' l)(h:OT m l' P):OT m l P:=by
 obtain⟨s,h1,h2,h3,h4,h5⟩:=h.ex;exact⟨s,h1,h2,zbH hl hl' he (h1.1.trans xU) h2 h3,h4,h5⟩
open Classical in
noncomputable def Jx (m:zG)(l:List (List zC))(P:List Int):Bool:=decide (OT m l P)
open Classical in
theorem Vl{m:zG}{l:List (List zC)}{P:List Int}:Jx m l P=true↔OT m l P:=by rw[Jx];exact decide_eq_true_iff
open Classical in
theorem AH{m:zG}{l:List (List zC)}{P:List Int}:Jx m l P=false↔¬OT m l P:=by rw[Jx];exact decide_eq_false_iff_not
noncomputable def eF (m:zG)(l:List (List zC)):Nat:=((Xa (wT m) m.vars.length).filter (Jx m l)).length
theorem PD{α:Type}{p q:α→Bool}:∀ {L:List α},(∀x∈L,p x=true→q x=true)→(L.filter p).length≤(L.filter q).length∧((∃x∈L,q x=true∧p x=false)→(L.filter p).length<(L.filter q).length)
 |[],_=>⟨Nat.le_refl _,λ⟨x,hx,_⟩=>by cases hx⟩
 |y::L,h=>by
  obtain⟨h1,h2⟩:=PD (L:=L) λx hx=>h x (List.mem_cons_of_mem _ hx)
  have hy:=h y (List.mem_cons_self ..);rw[List.filter_cons,List.filter_cons];cases hp:p y<;>cases hq:q y
  ·simp only[Bool.false_eq_true,if_false]
   refine⟨h1,λ⟨x,hx,ha,hb⟩=>h2 ?_⟩
   rcases List.mem_cons.1 hx with rfl|hx
   ·rw[hq]at ha;cases ha
   ·exact⟨x,hx,ha,hb⟩
  ·simp only[Bool.false_eq_true,if_false,if_true,List.length_cons]
   exact⟨by omega,λ_=>by omega⟩
  ·rw[hy hp]at hq;cases hq
  ·simp only[if_true,List.length_cons]
   refine⟨by omega,λ⟨x,hx,ha,hb⟩=> ?_⟩
   rcases List.mem_cons.1 hx with rfl|hx
   ·rw[hp]at hb;cases hb
   ·have:=h2 ⟨x,hx,ha,hb⟩;omega
section
variable {m:zG}{l l':List (List zC)}{d:List zC}
theorem zf9(hl:yR m l)(hl':yR m l')(he:XD l' l):eF m l'≤eF m l:=by
 unfold eF;exact(PD λP _ h=>Vl.2 ((Vl.1 h).ent hl hl' he)).1
theorem zga(hl:yR m l)(hl':yR m l')(he:XD l' l){P:List Int}(hP:P∈Xa (wT m) m.vars.length)(h1:OT m l P)(h2:¬OT m l' P):eF m l'<eF m l:=by
 unfold eF;exact(PD λP _ h=>Vl.2 ((Vl.1 h).ent hl hl' he)).2 ⟨P,hP,Vl.2 h1,AH.2 h2⟩
theorem C0(hr:Right m):∀r∈wT m,0<r.length:=λr h=>by
 obtain⟨v,hv,rfl⟩:=List.mem_map.1 h;have:=hr.var v hv;rw[Tb,W4];omega
theorem zdE(hr:Right m):eF m l+2≤2*Yc (wT m):=by
 have h1:=CY (C0 hr) m.vars.length (by rw[xU];exact Nat.le_refl _)
 rw[List.take_of_length_le (by rw[xU];exact Nat.le_refl _)]at h1
 unfold eF;have:=List.length_filter_le (Jx m l) (Xa (wT m) m.vars.length);omega
theorem LW{s:List (List Int)}{w:Nat}:(gO s).getD w 0=(s.getD w []).getD 0 0:=by
 rw[gO,List.getD_eq_getElem?_getD,List.getElem?_map,List.getD_eq_getElem?_getD (l:=s)];cases s[w]? <;>rfl
theorem LX{a:List Int}{k w:Nat}(h:w<k):(a.take k).getD w 0=a.getD w 0:=by
 rw[List.getD_eq_getElem?_getD,List.getElem?_take_of_lt h,←List.getD_eq_getElem?_getD]
theorem zh5{a:List Int}(h1:a.length≤1)(h2:a≠[]):a=[a.getD 0 0]:=by
 match a,h1,h2 with
 |[x],_,_=>rfl
 |x::y::a,h1,_=>simp at h1
theorem zdF(hl:yR m l){v:Nat}(hf:zT (uE m l d)=false)(hv:v<m.vars.length)(h1:1<((uE m l d).getD v []).length)(h2:∀w:Nat,w<v→((uE m l d).getD w []).length≤1):
  (gO (uE m l d)).take (v+1)∈Xa (wT m) m.vars.length∧OT m l ((gO (uE m l d)).take (v+1)):=by
 have hlen:(uE m l d).length=m.vars.length:=Tx hl;have hvl:(gO (uE m l d)).length=m.vars.length:=by rw[gO,List.length_map,hlen]
 have hne:=sT.1 hf
 have hmem:∀w:Nat,w<m.vars.length→(gO (uE m l d)).getD w 0∈(uE m l d).getD w []:=λw hw=>by
  rw[LW];exact En (List.length_pos_iff.2 (hne w (by omega)))
 have htl:((gO (uE m l d)).take (v+1)).length=v+1:=by rw[List.length_take,hvl];omega
 refine⟨CZ (v:=v) ?_ (Jw.2 ⟨?_,λw hw=> ?_⟩) _ hv,⟨_,YG hl,hf,Tt hl fC hf,λw hw=> ?_,?_⟩⟩
 ·have:=((YG (d:=d) hl).2 v).length_le;omega
 ·rw[htl,List.length_take,xU];omega
 ·rw[List.length_take,xU]at hw
  rw[LX (by omega)]
  have hx:=((YG (d:=d) hl).2 w).subset (hmem w (by omega))
  rw[List.getD_eq_getElem?_getD,List.getElem?_take_of_lt (by omega),←List.getD_eq_getElem?_getD]
  exact hx
 ·rw[htl]at hw
  rw[LX (by omega),LW]
  exact zh5 (h2 w (by omega)) (hne w (by omega))
 ·rw[htl,Nat.add_sub_cancel,LX (by omega)];exact hmem v hv
theorem zgb(hl:yR m l){v:Nat}(hc:Ht m l d)(hf:zT (uE m l d)=false)(hv:v<m.vars.length)(h1:1<((uE m l d).getD v []).length)(h2:∀w:Nat,w<v→((uE m l d).getD w []).length≤1)
  {few:List zC} (hfew:∀x∈few,x∈d++[⟨v,3,((uE m l d).getD v []).getD 0 0⟩]) (hl':yR m l') (hm:few.map fG∈l'):¬OT m l' ((gO (uE m l d)).take (v+1)):=λh=>by
 obtain⟨s,s1,s2,s3,s4,s5⟩:=h.ex;have hlen:(uE m l d).length=m.vars.length:=Tx hl;have hvl:(gO (uE m l d)).length=m.vars.length:=by rw[gO,List.length_map,hlen]
 have hne:=sT.1 hf;have htl:((gO (uE m l d)).take (v+1)).length=v+1:=by rw[List.length_take,hvl];omega
 have hs:s.length=m.vars.length:=s1.1.trans xU;rw[htl,Nat.add_sub_cancel,LX (by omega),LW]at s5
 have hst:=s3 _ (ox.2 (.inr ⟨_,hm,rfl⟩));obtain⟨us,u1,u2,u3⟩:=(aO hl' hm).congr (Q':=qZ (few.map fG)) hs (vs:=[]) hst s2 v _ s5;obtain⟨z,hz,hzz⟩:=kE.1 u3;obtain⟨y,hy,rfl⟩:=List.mem_map.1 hz;rw[Ar]at hzz
 have key:∀y:zC,y.op=3→us.getD y.var.toNat 0=y.n→holdsL (fG y) (us.getD y.var.toNat 0)=true→False:=λy ho hn hh=>by
  rw[Cs (by omega),holdsL,if_neg (by omega),if_neg (by omega),if_pos ho,hn,decide_eq_true rfl]at hh
  cases hh
 rcases List.mem_append.1 (hfew y hy)with hd|hd
 ·obtain⟨o1,o2,o3,o4⟩:=hc.ok y hd
  have hlt:y.var.toNat<v:=by
   rcases Nat.lt_or_ge y.var.toNat v with hlt|hge
   ·exact hlt
   ·have:=hc.thin y hd v (by omega);omega
  have h4:=s4 y.var.toNat (by rw[htl];omega)
  rw[LX (by omega),LW]at h4
  have hu:=u1.2 y.var.toNat (by omega)
  rw[h4]at hu
  refine key y o1 ?_ hzz;rw[List.mem_singleton.1 hu];have hmem:=En (List.length_pos_iff.2 (hne y.var.toNat (by omega)))
  have hput:=((zeW (d:=d) hl).2 y.var.toNat).subset hmem;rw[To,tK]at hput
  have:=List.all_eq_true.1 (List.mem_filter.1 hput).2 y hd;have e:((y.var.toNat:Nat):Int)=y.var:=Int.toNat_of_nonneg o2;rw[e,decide_eq_true rfl,Bool.not_true,Bool.false_or,holdsL,if_neg (by omega),if_neg (by omega),if_pos o1]at this
  exact of_decide_eq_true this
 ·rw[List.mem_singleton.1 hd]at hzz
  refine key _ rfl ?_ hzz;exact u2
end
theorem zeX:∀(u:Nat),∀b∈Lib.decDigits u,48≤b.toNat∧b.toNat≤57:=λu=>by
 induction u using Nat.strongRecOn with
 |_ u ih=>
  intro b hb
  have one:∀k,k<10→48≤(UInt8.ofNat (48+k)).toNat∧(UInt8.ofNat (48+k)).toNat≤57:=λk hk=>by
   rw[UInt8.toNat_ofNat'];omega
  rw[Lib.decDigits]at hb
  split at hb
  ·rename_i h
   rw[List.mem_singleton.1 hb];exact one u h
  ·rename_i h
   rcases List.mem_append.1 hb with hb|hb
   ·exact ih _ (by omega) b hb
   ·rw[List.mem_singleton.1 hb];exact one _ (by omega)
def zh6(l:List UInt8):Nat:=l.foldl (λa b=>10*a+(b.toNat-48)) 0
theorem H5(u:Nat):zh6 (Lib.decDigits u)=u:=by
 induction u using Nat.strongRecOn with
 |_ u ih=>
  have one:∀k,k<10→(UInt8.ofNat (48+k)).toNat-48=k:=λk hk=>by
   rw[UInt8.toNat_ofNat'];omega
  rw[Lib.decDigits];split
  ·rename_i h
   show 10*0+_=_
   rw[one u h];omega
  ·rename_i h
   rw[zh6,List.foldl_append];show 10*zh6 (Lib.decDigits (u/10))+_=_
   rw[ih _ (by omega),one _ (by omega)];omega
theorem Tz(n:Int):∀b∈Lib.itoa n,b≠58∧b≠32:=λb hb=>by
 have key:∀u,b∈Lib.decDigits u→b≠58∧b≠32:=λu h=>by
  have:=zeX u b h;refine⟨λe=> ?_,λe=> ?_⟩<;>rw[e]at this<;>simp at this
 rw[Lib.itoa]at hb
 split at hb
 ·rcases List.mem_cons.1 hb with rfl|hb
  ·decide
  ·exact key _ hb
 ·exact key _ hb
theorem Er{a b:Int}(h:Lib.itoa a=Lib.itoa b):a=b:=by
 have sgn:∀(u:Nat) (l:List UInt8),Lib.decDigits u≠45::l:=λu l e=>by
  have:=zeX u 45 (by rw[e];exact List.mem_cons_self)
  simp at this
 unfold Lib.itoa at h
 split at h<;>split at h
 ·have:=congrArg zh6 (List.cons.inj h).2
  rw[H5,H5]at this;omega
 ·exact absurd h.symm (sgn _ _)
 ·exact absurd h (sgn _ _)
 ·have:=congrArg zh6 h
  rw[H5,H5]at this;omega
def AJ(x:zC):ByteArray:=jP x.var++⟨#[58]⟩++jP x.op++⟨#[58]⟩++jP x.n++⟨#[32]⟩
def UF(c:List zC):ByteArray:=c.foldl (λo x=>o++AJ x) ⟨#[]⟩
def DI(x:zC):List UInt8:=Lib.itoa x.var++58::(Lib.itoa x.op++58::(Lib.itoa x.n++[32]))
theorem zgc(x:zC):(AJ x).data.toList=DI x:=by
 simp[AJ,DI,jP,ByteArray.data_append]
theorem C1(c:List zC):(UF c).data.toList=c.flatMap DI:=by
 suffices H:∀(c:List zC) (o:ByteArray),(c.foldl (λo x=>o++AJ x) o).data.toList=o.data.toList++c.flatMap DI by
  rw[UF,H];rfl
 intro c
 induction c with
 |nil=>intro o;simp
 |cons x c ih=>
  intro o;rw[List.foldl_cons,ih,ByteArray.data_append,Array.toList_append,zgc,List.flatMap_cons,List.append_assoc]
theorem AK{s:UInt8}:∀ {p q r t:List UInt8},(∀b∈p,b≠s)→(∀b∈q,b≠s)→p++s::r=q++s::t→p=q∧r=t
 |[],[],r,t,_,_,h=>⟨rfl,(List.cons.inj h).2⟩
 |[],y::q,r,t,_,hq,h=>absurd (List.cons.inj h).1.symm (hq y (List.mem_cons_self ..))
 |x::p,[],r,t,hp,_,h=>absurd (List.cons.inj h).1 (hp x (List.mem_cons_self ..))
 |x::p,y::q,r,t,hp,hq,h=>by
  obtain⟨h1,h2⟩:=List.cons.inj h;obtain⟨h3,h4⟩:=AK (λb hb=>hp b (List.mem_cons_of_mem _ hb)) (λb hb=>hq b (List.mem_cons_of_mem _ hb)) h2
  exact⟨by rw[h1,h3],h4⟩
theorem zeY(x:zC):DI x≠[]:=by unfold DI;simp
theorem zbJ:∀ {c c':List zC},c.flatMap DI=c'.flatMap DI→c=c'
 |[],[],_=>rfl
 |[],y::c',h=>by
  rw[List.flatMap_nil,List.flatMap_cons]at h
  exact absurd (List.append_eq_nil_iff.1 h.symm).1 (zeY y)
 |x::c,[],h=>by
  rw[List.flatMap_nil,List.flatMap_cons]at h
  exact absurd (List.append_eq_nil_iff.1 h).1 (zeY x)
 |x::c,y::c',h=>by
  rw[List.flatMap_cons,List.flatMap_cons,DI,DI]at h
  simp only[List.append_assoc,List.cons_append,List.nil_append]at h
  obtain⟨h1,h⟩:=AK (λb hb=>(Tz _ b hb).1) (λb hb=>(Tz _ b hb).1) h
  obtain⟨h2,h⟩:=AK (λb hb=>(Tz _ b hb).1) (λb hb=>(Tz _ b hb).1) h
  obtain⟨h3,h⟩:=AK (λb hb=>(Tz _ b hb).2) (λb hb=>(Tz _ b hb).2) h
  have e:x=y:=by
   obtain⟨a,b,c⟩:=x;obtain⟨a',b',c'⟩:=y;have h1:=Er h1;have h2:=Er h2;have h3:=Er h3;simp only at h1 h2 h3
   rw[h1,h2,h3]
  rw[e,zbJ h]
theorem zh7{c c':List zC}(h:UF c=UF c'):c=c':=zbJ (by rw[←C1,←C1,h])
theorem zbK(k k':ByteArray)(v:Int):∀es:List (ByteArray×Int),uH .str .int k (rD .str .int k' v es)=if k=k' then some v else uH .str .int k es
 |[]=>by
  show(bif decide (k=k')then some v else none)=_
  by_cases h:k=k'<;>simp[h,uH]
 |(a,b)::r=>by
  have ih:=zbK k k' v r;show uH .str .int k (bif decide (k'=a)then(a,v)::r else(a,b)::rD .str .int k' v r)=if k=k' then some v else(bif decide (k=a)then some b else uH .str .int k r)
  by_cases h1:k'=a
  ·rw[decide_eq_true h1,cond_true]
   show(bif decide (k=a)then some v else uH .str .int k r)=_
   rw[←h1]
   by_cases h2:k=k'
   ·rw[decide_eq_true h2,if_pos h2];rfl
   ·rw[decide_eq_false h2,if_neg h2];rfl
  ·rw[decide_eq_false h1,cond_false]
   show(bif decide (k=a)then some b else uH .str .int k (rD .str .int k' v r))=_
   rw[ih]
   by_cases h2:k=a
   ·have h4:¬k=k':=λe=>h1 (e.symm.trans h2)
    rw[decide_eq_true h2,if_neg h4,if_neg h4]
   ·rw[decide_eq_false h2]
    by_cases h3:k=k'
    ·rw[if_pos h3,if_pos h3];rfl
    ·rw[if_neg h3,if_neg h3]
abbrev zkv:Type:=List (ByteArray×Int)
abbrev Ox(c:List zC)(met:zkv):Int:=kJ .str .int (UF c) met
theorem zjE(c c':List zC)(met:zkv):Ox c (rD .str .int (UF c') 1 met)=if c=c' then 1 else Ox c met:=by
 show(uH .str .int (UF c) (rD .str .int (UF c') 1 met)).getD 0=_
 rw[zbK]
 by_cases h:c=c'
 ·rw[if_pos h,if_pos (by rw[h])];rfl
 ·rw[if_neg h,if_neg λe=>h (zh7 e)];rfl
abbrev qN:Type:=List zU×zkv
def note1(p:qN)(st:zU):qN:=if Ox st.clause p.2=0 then(p.1++[st],rD .str .int (UF st.clause) 1 p.2)else p
def pX(t:List zU)(p:qN):qN:=t.foldl note1 p
def Vm(p:qN):Prop:=∀c,Ox c p.2≠0↔c∈sE p.1
theorem Vm.nil:Vm ([],[]):=λc=>⟨λh=>absurd rfl h,λh=>by cases h⟩
theorem Ic{c:List zC}{l:List zU}:c∈sE l↔∃st∈l,st.clause=c:=List.mem_map
theorem Vm.note1{p:qN}(h:Vm p)(st:zU):Vm (note1 p st)∧st.clause∈sE (Go.Proofs.YtogdmcebojiojaaGreatDoor.note1 p st).1:=by
 unfold Go.Proofs.YtogdmcebojiojaaGreatDoor.note1
 by_cases e:Ox st.clause p.2=0
 ·rw[if_pos e]
  refine⟨λc=> ?_,?_⟩
  ·show Ox c (rD .str .int (UF st.clause) 1 p.2)≠0↔c∈sE (p.1++[st])
   rw[zjE,oD,List.mem_append]
   by_cases hc:c=st.clause
   ·rw[if_pos hc]
    exact⟨λ_=> .inr (List.mem_singleton.2 hc),λ_=>by decide⟩
   ·rw[if_neg hc,h c]
    exact⟨.inl,λx=>x.elim id λx=>absurd (List.mem_singleton.1 x) hc⟩
  ·rw[oD];exact List.mem_append_right _ (List.mem_singleton.2 rfl)
 ·rw[if_neg e];exact⟨h,(h _).1 e⟩
theorem Vm.notes:∀ {t:List zU} {p:qN},Vm p→Vm (pX t p)∧(∀st∈t,st.clause∈sE (pX t p).1)∧∃e,(pX t p).1=p.1++e∧e.Sublist t
 |[],p,h=>⟨h,λst hs=>(by cases hs),[],(List.append_nil _).symm,List.Sublist.slnil⟩
 |st::t,p,h=>by
  obtain⟨h1,h2⟩:=h.note1 st;obtain⟨i1,i2,e,i3,i4⟩:=h1.notes (t:=t);have e0:pX (st::t) p=pX t (Go.Proofs.YtogdmcebojiojaaGreatDoor.note1 p st):=rfl;rw[e0];refine⟨i1,λx hx=> ?_,?_⟩
  ·rcases List.mem_cons.1 hx with rfl|hx
   ·rw[i3,oD];exact List.mem_append_left _ h2
   ·exact i2 x hx
  ·unfold Go.Proofs.YtogdmcebojiojaaGreatDoor.note1 at i3
   by_cases e1:Ox st.clause p.2=0
   ·rw[if_pos e1]at i3
    unfold Go.Proofs.YtogdmcebojiojaaGreatDoor.note1;rw[if_pos e1];exact⟨st::e,by rw[i3];simp,i4.cons_cons st⟩
   ·rw[if_neg e1]at i3
    unfold Go.Proofs.YtogdmcebojiojaaGreatDoor.note1;rw[if_neg e1];exact⟨e,i3,i4.cons st⟩
theorem Id{m:zG}(hm:xL m=0){given:List (List zC)}(hg:∀c∈given,yP m.vars.length c=0):∀(t:List zU) (p:qN) (A:List (List zC)),Vm p→pO m given p.1=true→(∀st∈p.1,yP m.vars.length st.clause=0)→
  (∀c∈A,yP m.vars.length c=0)→(∀st∈t,yP m.vars.length st.clause=0)→XD (given++sE p.1) A→pO m A t=true→pO m given (pX t p).1=true
 |[],p,A,_,h,_,_,_,_,_=>h
 |st::t,p,A,hp,h,hs,hA,ht,he,hr=>by
  rw[pO,Bool.and_eq_true]at hr
  have hst:=ht st (List.mem_cons_self ..)
  have hall:∀c∈given++sE p.1,yP m.vars.length c=0:=λc hc=>by
   rcases List.mem_append.1 hc with hc|hc
   ·exact hg c hc
   ·obtain⟨x,hx,rfl⟩:=Ic.1 hc;exact hs x hx
  obtain⟨h1,h2⟩:=hp.note1 st;show pO m given (pX t (note1 p st)).1=true
  have hA':∀c∈A++[st.clause],yP m.vars.length c=0:=λc hc=>by
   rcases List.mem_append.1 hc with hc|hc
   ·exact hA c hc
   ·rw[List.mem_singleton.1 hc];exact hst
  have hb:=CT (kF hm hA) (kF hm hall) he hr.1;refine Id hm hg t _ (A++[st.clause]) h1 ?_ ?_ hA' (λx hx=>ht x (List.mem_cons_of_mem _ hx)) ?_ hr.2
  ·unfold note1
   by_cases e:Ox st.clause p.2=0
   ·rw[if_pos e,SA,h,Bool.true_and]
    show(Yl m _ st&&true)=true
    rw[hb];rfl
   ·rw[if_neg e];exact h
  ·unfold note1
   by_cases e:Ox st.clause p.2=0
   ·rw[if_pos e]
    intro x hx;rcases List.mem_append.1 hx with hx|hx
    ·exact hs x hx
    ·rw[List.mem_singleton.1 hx];exact hst
   ·rw[if_neg e];exact hs
  ·have hsub:∀c∈sE p.1,c∈sE (note1 p st).1:=λc hc=>by
    unfold note1
    by_cases e:Ox st.clause p.2=0
    ·rw[if_pos e,oD];exact List.mem_append_left _ hc
    ·rw[if_neg e];exact hc
   intro c hc;rcases List.mem_append.1 hc with hc|hc
   ·obtain⟨c',hc',hh⟩:=he c hc
    refine⟨c',?_,hh⟩;rcases List.mem_append.1 hc' with hc'|hc'
    ·exact List.mem_append_left _ hc'
    ·exact List.mem_append_right _ (hsub c' hc')
   ·rw[List.mem_singleton.1 hc]
    exact⟨_,List.mem_append_right _ h2,λ_ h=>h⟩
theorem zdG{t1 t2:List zU}{p:qN}(hp:Vm p)(h0:∀st∈p.1,st.clause≠[])(h1:∀st∈t1,st.clause≠[])(h2:t2≠[])(h3:∀st∈t2,st.clause=[]):Zg (pX (t1++t2) p).1=true:=by
 have e0:pX (t1++t2) p=pX t2 (pX t1 p):=List.foldl_append ..;rw[e0];obtain⟨i1,_,e,i3,i4⟩:=hp.notes (t:=t1);generalize pX t1 p=q at i1 i3
 have hq:([]:List zC)∉sE q.1:=λhc=>by
  obtain⟨st,hs,e1⟩:=Ic.1 hc;rw[i3]at hs
  rcases List.mem_append.1 hs with hs|hs
  ·exact h0 st hs e1
  ·exact h1 st (i4.subset hs) e1
 match t2,h2,h3 with
 |st::t2,_,h3=>
  have hst:=h3 st (List.mem_cons_self ..)
  have hm:Ox st.clause q.2=0:=by
   rcases Int.decEq (Ox st.clause q.2) 0 with h|h
   ·exact absurd ((i1 _).1 h) (by rw[hst];exact hq)
   ·exact h
  show Zg (pX t2 (note1 q st)).1=true
  have hst2:∀(t:List zU) (r:qN),(∀x∈t,x.clause=[])→Ox [] r.2≠0→pX t r=r:=λt=>by
   induction t with
   |nil=>exact λr _ _=>rfl
   |cons x t ih=>
    intro r hx hr;show pX t (note1 r x)=r
    have e:note1 r x=r:=by
     unfold note1;rw[if_neg (by rw[hx x (List.mem_cons_self ..)];exact hr)]
    rw[e];exact ih r (λy hy=>hx y (List.mem_cons_of_mem _ hy)) hr
  have hn:=(i1.note1 st).1;have hmem:=(i1.note1 st).2;rw[hst2 t2 _ (λx hx=>h3 x (List.mem_cons_of_mem _ hx)) ((hn []).2 (by rw[←hst];exact hmem))]
  unfold note1;rw[if_pos hm,Zg];simp[hst]
def NE(m:zG)(p:Ek):Prop:=(∀st∈p.1,st.clause≠[])∨(zT p.2=true∧∃t1 e,p.1=t1++[e]∧(∀st∈t1,st.clause≠[])∧e.clause=[])
section
variable {m:zG}{l:List (List zC)}{d:List zC}
theorem zjF{p:Ek}(h:Tr m l d p.1 p.2)(hk:wM m l d){i:Nat}(hi:i<m.cons.length)(hf:zT p.2=false)(hn:NE m p):NE m (Vk m i p).1:=by
 have hn:∀st∈p.1,st.clause≠[]:=by
  rcases hn with hn|⟨hn,_⟩
  ·exact hn
  ·rw[hf]at hn;cases hn
 unfold Vk
 by_cases hg:zT (yQ (yW m i) p.2)=true
 ·rw[if_pos hg]
  by_cases he:fo m i p.2=[]
  ·exact .inr ⟨iR (by rw[h.len];exact hk.mc.pos),p.1,_,rfl,hn,he⟩
  ·refine .inl λst hs=> ?_
   rcases List.mem_append.1 hs with hs|hs
   ·exact hn st hs
   ·rw[List.mem_singleton.1 hs];exact he
 ·rw[if_neg hg]
  refine .inl λst hs=> ?_
  rcases List.mem_append.1 hs with hs|hs
  ·exact hn st hs
  ·obtain⟨v,n,h1,h2,h3,rfl⟩:=Wr.1 hs
   have hgone:Uf m i p.2 v n=true:=by
    rw[Uf,hf,Int.toNat_natCast];have e1:eB (p.2.getD v []) n=true:=jA.2 h2
    have e2:eB ((yQ (yW m i) p.2).getD v []) n=false:=by
     cases e:eB ((yQ (yW m i) p.2).getD v []) n
     ·rfl
     ·exact absurd (jA.1 e) h3
    rw[e1,e2];rfl
   show Ug m i p.2 v n≠[]
   rw[Ug,if_pos hgone,LK];simp
theorem zbL(hk:wM m l d):∀(k i:Nat) (p:Ek) (c:Bool),i+k=m.cons.length→Tr m l d p.1 p.2→NE m p→NE m (fD m k i p c).1
 |0,i,p,c,_,_,hn=>hn
 |k+1,i,p,c,hi,h,hn=>by
  rw[fD];cases hf:zT p.2
  ·rw[if_neg (by decide)]
   exact zbL hk k (i+1) _ _ (by omega) (Jv h hk (i:=i) (by omega) hf).1 (zjF h hk (by omega) hf hn)
  ·rw[if_pos rfl];exact hn
theorem zgd{p:Ek}(h:Tr m l d p.1 p.2)(hk:wM m l d)(hn:NE m p):NE m (iV m l p).1:=by
 obtain⟨i1,_,_,_⟩:=Ma hk m.cons.length 0 p false (Nat.zero_add _) h;have hc:=zbL hk m.cons.length 0 p false (Nat.zero_add _) h hn;rw[iV];generalize fD m m.cons.length 0 p false=r at i1 hc⊢
 rcases hc with hc|⟨h1,h2⟩
 ·exact .inl hc
 ·exact .inr ⟨(i1.units hk).2.failed h1,h2⟩
theorem zeZ(hk:wM m l d):∀(k:Nat) (p:Ek),Tr m l d p.1 p.2→NE m p→NE m (Ou m l k p)
 |0,p,_,hn=>hn
 |k+1,p,h,hn=>by
  rw[Ou];cases hf:zT p.2
  ·rw[if_neg (by decide)]
   have h1:=(Q5 h hk hf).1;have h2:=zgd h hk hn;cases e:(iV m l p).2
   ·rw[if_neg (by decide)];exact h2
   ·rw[if_pos rfl];exact zeZ hk k _ h1 h2
  ·rw[if_pos rfl];exact hn
theorem zbM(hk:wM m l d):∃t1 t2,cH m l d=t1++t2++[Ia d]∧(∀st∈t1,st.clause≠[])∧∀st∈t2,st.clause=[]∧Vj m st:=by
 have hb:=Tr.begin hk;have h1:=(PC hk 36 ([],dH m d) hb (by have:=hb.size;simpa using this)).1
 rcases zeZ hk 37 ([],dH m d) hb (.inl λst hs=>by cases hs)with h|⟨_,t1,e,h2,h3,h4⟩
 ·exact⟨_,[],by rw[List.append_nil];rfl,h,λst hs=>by cases hs⟩
 ·refine⟨t1,[e],by rw[cH,h2],h3,λst hs=> ?_⟩
  rw[List.mem_singleton.1 hs];exact⟨h4,h1.ok e (by rw[h2];exact List.mem_append_right _ (List.mem_singleton.2 rfl))⟩
theorem zh8{s:List (List Int)}:dY s []=s:=Zc λv n _=>rfl
theorem zge(hl:yR m l){i:Int}(hi:0≤i∧i<(m.cons.length:Int))(h:kN m i []=true):qM m l []=true:=by
 cases hf:qM m l []
 ·have hf:zT (qC m true l (wT m))=false:=hf
  have hlen:(wT m).length=m.vars.length:=xU
  have hc:yW m i∈m.cons:=by
   have hj:i.toNat<m.cons.length:=by omega
   rw[yW,yE _ hj];exact List.getElem_mem hj
  have hst:=Tt hl hlen hf _ (ox.2 (.inl ⟨rfl,_,hc,rfl⟩));have hm:=(Vg hl hc).mono hlen (Mc (cons:=true) hl hlen) (by rw[hst];exact hf)
  rw[hst]at hm
  have:=hm.fail hf;rw[kN,zh8]at h
  rw[h]at this;cases this
 ·rfl
theorem Es(hl:yR m l)(h:qM m l []=true):fewest m l d=[]:=by
 have hmin:=zbC (qM m l) (J8 hl) d;show AB (qM m l) d=[]
 generalize AB (qM m l) d=r at hmin
 match r,hmin with
 |[],_=>rfl
 |x::r,hmin=>
  have:=hmin 0 (by simp)
  rw[J8 hl [] _ (λy hy=>by cases hy) h]at this
  cases this
theorem zh9(hk:wM m l d)(hd:d≠[])(h:qM m l []=false):∀st∈cH m l d,st.clause≠[]:=by
 obtain⟨t1,t2,e,h1,h2⟩:=zbM hk;rw[e];intro st hs;rcases List.mem_append.1 hs with hs|hs
 ·rcases List.mem_append.1 hs with hs|hs
  ·exact h1 st hs
  ·obtain⟨h3,h4⟩:=h2 st hs
   have:=zge hk.mc h4.con (by rw[←h3];exact h4.by')
   rw[h]at this;cases this
 ·rw[List.mem_singleton.1 hs]
  show d.map fG≠[]
  exact λe=>hd (List.map_eq_nil_iff.1 e)
theorem zdH(hk:wM m l []):∃t1 t2,cH m l []=t1++t2∧(∀st∈t1,st.clause≠[])∧t2≠[]∧∀st∈t2,st.clause=[]:=by
 obtain⟨t1,t2,e,h1,h2⟩:=zbM hk;refine⟨t1,t2++[Ia []],by rw[e,List.append_assoc],h1,by simp,λst hs=> ?_⟩
 rcases List.mem_append.1 hs with hs|hs
 ·exact(h2 st hs).1
 ·rw[List.mem_singleton.1 hs];rfl
end
structure GoR where
 vals:List Int
 verdict:Int
 fuel:Nat
 learned:List (List zC)
 note:qN
noncomputable def jH (m:zG)(l:List (List zC)):List zC:=fewest m l (nP m l).1
noncomputable def kG (m:zG)(l:List (List zC))(p:qN):qN:=pX (cH m l (jH m l)) p
noncomputable def Vn (m:zG):Nat→List (List zC)→List (List zC)→qN→GoR
 |0,g,l,p=>⟨[],3,0,l,p⟩
 |k+1,g,l,p=>if(nP m (g++l)).2.1=true then⟨(nP m (g++l)).2.2,1,k,l,p⟩
  else if jH m (g++l)=[]then⟨[],2,k,l,kG m (g++l) p⟩
  else if 600<l.length+1∨6000<(kG m (g++l) p).1.length then⟨[],3,k,l++[(jH m (g++l)).map fG],kG m (g++l) p⟩
  else Vn m k g (l++[(jH m (g++l)).map fG]) (kG m (g++l) p)
structure C2 (m:zG)(g l:List (List zC))(p:qN):Prop where
 chk:xL m=0
 gc:∀c∈g,yP m.vars.length c=0
 lc:∀c∈l,yP m.vars.length c=0
 glen:g.length≤1
 met:Vm p
 right:pO m g p.1=true
 cl:∀st∈p.1,yP m.vars.length st.clause=0
 con:∀st∈p.1,st.kind=1→0≤st.con∧st.con<(m.cons.length:Int)
 ne:∀st∈p.1,st.clause≠[]
 sub:∀c∈l,c∈sE p.1
section
variable {m:zG}{g l:List (List zC)}{p:qN}
theorem C2.all(h:C2 m g l p):∀c∈g++l,yP m.vars.length c=0:=λc hc=>by
 rcases List.mem_append.1 hc with hc|hc
 ·exact h.gc c hc
 ·exact h.lc c hc
theorem C2.mc(h:C2 m g l p):yR m (g++l):=kF h.chk h.all
theorem C2.begin(h:xL m=0):C2 m [] [] ([],[]):=⟨h,λc hc=>(by cases hc),λc hc=>(by cases hc),Nat.zero_le _,.nil,rfl,λc hc=>(by cases hc),λc hc=>(by cases hc),λc hc=>(by cases hc),λc hc=>(by cases hc)⟩
structure Md (m:zG)(g:List (List zC))(t:List zU):Prop where
 right:aP m g t=true
 cl:∀st∈t,yP m.vars.length st.clause=0
 con:∀st∈t,st.kind=1→0≤st.con∧st.con<(m.cons.length:Int)
theorem Ie(h:C2 m g l p)(hl:l.length≤599){d:List zC}(hc:Ht m (g++l) d):wM m (g++l) d:=by
 have hr:=h.mc.right;have hv:=hr.vars;refine⟨h.chk,by rw[List.length_append];have:=h.glen;omega,h.all,by have:=hc.len;omega,λx hx=> ?_,λx hx=> ?_⟩
 ·obtain⟨o1,o2,o3,o4⟩:=hc.ok x hx
  exact LM hr ⟨o2,o3⟩ (by omega) o4
 ·obtain⟨o1,o2,o3,o4⟩:=hc.ok x hx
  refine LM hr (by rw[Ar];exact⟨o2,o3⟩) ?_ ?_
  ·rw[fG,if_neg (by omega),if_neg (by omega),if_pos o1];exact⟨by show(1:Int)≤4;decide,by show(4:Int)≤4;decide⟩
  ·rw[fG,if_neg (by omega),if_neg (by omega),if_pos o1];exact o4
theorem SB(h:C2 m g l p)(hl:l.length≤599)(hd:(nP m (g++l)).2.1=false):
  wM m (g++l) (nP m (g++l)).1∧qM m (g++l) (nP m (g++l)).1=true∧(kG m (g++l) p).1.length≤p.1.length+vE (wT m)+1∧
  (jH m (g++l)=[]→Md m g (kG m (g++l) p).1)∧
  (jH m (g++l)≠[]→C2 m g (l++[(jH m (g++l)).map fG]) (kG m (g++l) p)∧eF m (g++(l++[(jH m (g++l)).map fG]))<eF m (g++l)):=by
 have hmc:=h.mc;have hD:=Ep hmc
 have base:wM m (g++l) (nP m (g++l)).1∧qM m (g++l) (nP m (g++l)).1=true:=by
  generalize nP m (g++l)=D at hD hd
  cases hD with
  |found d hc hf h1=>cases hd
  |none hf=>exact⟨Ie h hl .nil,hf⟩
  |some d v hc hf hv h1 h2 hc' hf'=>exact⟨Ie h hl hc',hf'⟩
 obtain⟨hk,hfail⟩:=base;have hkf:wM m (g++l) (jH m (g++l)):=hk.sub Sz;have hff:qM m (g++l) (jH m (g++l))=true:=LN hfail;have ht:=Q6 hkf hff;obtain⟨n1,n2,e,n3,n4⟩:=h.met.notes (t:=cH m (g++l) (jH m (g++l)))
 have hent:XD (g++sE p.1) (g++l):=.sub λc hc=>by
  rcases List.mem_append.1 hc with hc|hc
  ·exact List.mem_append_left _ hc
  ·exact List.mem_append_right _ (h.sub c hc)
 have hright:=Id h.chk h.gc (cH m (g++l) (jH m (g++l))) p (g++l) h.met h.right h.cl h.all ht.cl hent ht.right
 have hmem:∀st∈(kG m (g++l) p).1,st∈p.1∨st∈cH m (g++l) (jH m (g++l)):=λst hs=>by
  have hs:st∈(pX (cH m (g++l) (jH m (g++l))) p).1:=hs;rw[n3]at hs
  rcases List.mem_append.1 hs with hs|hs
  ·exact .inl hs
  ·exact .inr (n4.subset hs)
 have hcl:∀st∈(kG m (g++l) p).1,yP m.vars.length st.clause=0:=λst hs=>(hmem st hs).elim (h.cl st) (ht.cl st)
 have hcon:∀st∈(kG m (g++l) p).1,st.kind=1→0≤st.con∧st.con<(m.cons.length:Int):=λst hs=>(hmem st hs).elim (h.con st) (ht.con st)
 refine⟨hk,hfail,?_,λhf=> ?_,λhf=> ?_⟩
 ·have h1:=n4.length_le
  have h2:=ht.len2;show(pX _ p).1.length≤_
  rw[n3,List.length_append];omega
 ·refine⟨?_,hcl,hcon⟩
  rw[aP,Bool.and_eq_true];refine⟨hright,?_⟩;show Zg (pX (cH m (g++l) (jH m (g++l))) p).1=true
  rw[hf]at hkf⊢
  obtain⟨t1,t2,e,h1,h2,h3⟩:=zdH hkf;rw[e];exact zdG h.met h.ne h1 h2 h3
 ·have hnil:qM m (g++l) []=false:=by
   cases e:qM m (g++l) []
   ·rfl
   ·exact absurd (Es hmc e) hf
  have hne:=zh9 hkf hf hnil;have hnog:yP m.vars.length ((jH m (g++l)).map fG)=0:=CR hkf
  have hlast:(jH m (g++l)).map fG∈sE (kG m (g++l) p).1:=by
   have:=n2 (Ia (jH m (g++l))) (by rw[cH];exact List.mem_append_right _ (List.mem_singleton.2 rfl))
   exact this
  have hS:C2 m g (l++[(jH m (g++l)).map fG]) (kG m (g++l) p):=by
   refine⟨h.chk,h.gc,λc hc=> ?_,h.glen,n1,hright,hcl,hcon,λst hs=>(hmem st hs).elim (h.ne st) (hne st),λc hc=> ?_⟩
   ·rcases List.mem_append.1 hc with hc|hc
    ·exact h.lc c hc
    ·rw[List.mem_singleton.1 hc];exact hnog
   ·rcases List.mem_append.1 hc with hc|hc
    ·show c∈sE (pX _ p).1
     rw[n3,oD];exact List.mem_append_left _ (h.sub c hc)
    ·rw[List.mem_singleton.1 hc];exact hlast
  refine⟨hS,?_⟩;have hsub:∀x∈jH m (g++l),x∈(nP m (g++l)).1:=λx hx=>Sz.subset hx
  have hne0:(nP m (g++l)).1≠[]:=λe=>hf (by
   have:(jH m (g++l)).Sublist (nP m (g++l)).1:=Sz;rw[e]at this;exact List.sublist_nil.1 this)
  have hin:(jH m (g++l)).map fG∈g++(l++[(jH m (g++l)).map fG]):=by simp
  have hE:XD (g++(l++[(jH m (g++l)).map fG])) (g++l):=.sub λc hc=>by
   rw[←List.append_assoc];exact List.mem_append_left _ hc
  generalize jH m (g++l)=few at hS hsub hin hE hf⊢
  generalize nP m (g++l)=D at hD hd hsub hne0
  cases hD with
  |found d hc hf h1=>cases hd
  |none hf=>exact absurd rfl hne0
  |some d v hc hf hv h1 h2 hc' hf'=>
   obtain⟨a1,a2⟩:=zdF hmc hf hv h1 h2;exact zga hmc hS.mc hE a1 a2 (zgb hmc hc hf hv h1 h2 hsub hS.mc hin)
theorem zdI(hmc:yR m l)(hd:(nP m l).2.1=true):(nP m l).2.2.length=m.vars.length∧Vx (nP m l).2.2 (wT m)∧(∀c∈m.cons,vH c (nP m l).2.2=true)∧∀c∈l,qZ c (nP m l).2.2=true:=by
 have hD:=Ep hmc;generalize nP m l=D at hD hd
 cases hD with
 |none hf=>cases hd
 |some d v hc hf hv h1 h2 hc' hf'=>cases hd
 |found d hc hf h1=>
  have hlen:(uE m l d).length=m.vars.length:=Tx hmc;have hvl:(gO (uE m l d)).length=m.vars.length:=by rw[gO,List.length_map,hlen]
  have hne:=sT.1 hf
  have hrow:∀v:Nat,v<m.vars.length→(uE m l d).getD v []=[(gO (uE m l d)).getD v 0]:=λv hv=>by
   rw[LW];exact zh5 (h1 v) (hne v (by omega))
  have hin:Vx (gO (uE m l d)) (uE m l d):=⟨hvl.trans hlen.symm,λv hv=>by
   rw[hrow v (by omega)];exact List.mem_singleton.2 rfl⟩
  have huniq:∀us,Vx us (uE m l d)→us=gO (uE m l d):=λus hu=>by
   refine QJ (d:=0) (hu.1.trans (hlen.trans hvl.symm)) λv=> ?_
   by_cases hv:v<m.vars.length
   ·have:=hu.2 v (by omega)
    rw[hrow v hv]at this
    exact List.mem_singleton.1 this
   ·rw[qJ (by rw[hu.1,hlen];omega),qJ (by omega)]
  have hst:=Tt hmc fC hf;have hpos:=hmc.pos
  have hq:∀ {op:Op} {Q:List Int→Bool},Xu m.vars.length op Q→op (uE m l d)=uE m l d→Q (gO (uE m l d))=true:=λho hs=>by
   obtain⟨n,hn⟩:=List.exists_mem_of_ne_nil _ (hne 0 (by omega))
   obtain⟨us,u1,_,u3⟩:=ho.congr (Q':=λ_=>true) hlen (vs:=[]) hs hf 0 n hn
   rw[huniq us u1]at u3;exact u3
  exact⟨hvl,hin.mono (YG hmc),λc hc=>hq (Vg hmc hc) (hst _ (ox.2 (.inl ⟨rfl,c,hc,rfl⟩))),λc hc=>hq (aO hmc hc) (hst _ (ox.2 (.inr ⟨c,hc,rfl⟩)))⟩
theorem zia{vs:List Int}(hl:vs.length=m.vars.length)(h:Vx vs (wT m))(hc:∀c∈m.cons,vH c vs=true):wholeM m vs=true:=by
 have h1:((m.vars.zip vs).any λx=> !kK x.2 x.1.lo x.1.hi)=false:=by
  rw[List.any_eq_false];intro x hx;obtain⟨i,hi,rfl⟩:=List.getElem_of_mem hx;have hi1:i<m.vars.length:=by rw[List.length_zip]at hi;omega
  have hi2:i<vs.length:=by omega
  rw[List.getElem_zip];have:=h.2 i (by rw[xU];exact hi1)
  rw[bJ hi1,YF,yE _ hi2]at this
  show¬(!kK vs[i] m.vars[i].lo m.vars[i].hi)=true
  rw[kK,decide_eq_true this.1,decide_eq_true this.2];decide
 have h2:(m.cons.any λc=> !vH c vs)=false:=by
  rw[List.any_eq_false];exact λc hm=>by rw[hc c hm];decide
 rw[wholeM,h1,h2];rfl
structure UG (m:zG)(g:List (List zC))(vs:List Int):Prop where
 len:vs.length=m.vars.length
 full:Vx vs (wT m)
 whole:wholeM m vs=true
 giv:∀c∈g,qZ c vs=true
inductive GoX (m:zG)(g:List (List zC))(r:GoR):Prop
 |found (h1:r.verdict=1) (h2:UG m g r.vals) (h3:C2 m g r.learned r.note) (h4:r.learned.length+r.fuel≤300):GoX m g r
 |none (h1:r.verdict=2) (h2:r.vals=[]) (h3:Md m g r.note.1):GoX m g r
 |unknown (h1:r.verdict=3) (h2:r.vals=[]):GoX m g r
theorem LY:∀(k:Nat) (l:List (List zC)) (p:qN),C2 m g l p→l.length+k≤300→GoX m g (Vn m k g l p)
 |0,l,p,_,_=> .unknown rfl rfl
 |k+1,l,p,h,hk=>by
  rw[Vn]
  by_cases hd:(nP m (g++l)).2.1=true
  ·rw[if_pos hd]
   obtain⟨f1,f2,f3,f4⟩:=zdI h.mc hd;exact .found rfl ⟨f1,f2,zia f1 f2 f3,λc hc=>f4 c (List.mem_append_left _ hc)⟩ h (by show l.length+k≤300;omega)
  ·rw[if_neg hd]
   obtain⟨_,_,_,q4,q5⟩:=SB h (by omega) (by simpa using hd)
   by_cases hf:jH m (g++l)=[]
   ·rw[if_pos hf];exact .none rfl rfl (q4 hf)
   ·rw[if_neg hf]
    split
    ·exact .unknown rfl rfl
    ·exact LY k _ _ (q5 hf).1 (by rw[List.length_append,List.length_singleton];omega)
theorem Et:∀ {s:List (List Int)},(∀r∈s,0<r.length∧r.length≤6)→∃F,2^F≤Yc s∧vE s≤s.length+3*F
 |[],_=>⟨0,Nat.le_refl _,Nat.le_refl _⟩
 |r::s,h=>by
  obtain⟨F,h1,h2⟩:=Et (s:=s) λx hx=>h x (List.mem_cons_of_mem _ hx)
  obtain⟨h3,h4⟩:=h r (List.mem_cons_self ..);have e:vE (r::s)=r.length+vE s:=by simp[vE]
  rw[e,Yc,List.length_cons];rcases Nat.lt_or_ge r.length 2 with h5|h5
  ·refine⟨F,?_,by omega⟩
   rw[show r.length=1 by omega,Nat.one_mul];exact h1
  ·rcases Nat.lt_or_ge r.length 4 with h6|h6
   ·refine⟨F+1,?_,by omega⟩
    have:=Nat.mul_le_mul h5 h1;rw[Nat.pow_succ];omega
   ·refine⟨F+2,?_,by omega⟩
    have:=Nat.mul_le_mul h6 h1;rw[Nat.pow_succ,Nat.pow_succ];omega
theorem Eu(hr:Right m)(h:Yc (wT m)≤100):vE (wT m)≤24:=by
 have hv:=hr.vars
 obtain⟨F,h1,h2⟩:=Et (s:=wT m) λr hx=>⟨C0 hr r hx,by
  obtain⟨i,hi,rfl⟩:=List.getElem_of_mem hx;have:=QZ hr i
  rwa[yE _ hi]at this⟩
 rw[xU]at h2
 have hF:F≤6:=by
  rcases Nat.lt_or_ge 6 F with h3|h3
  ·have:=Nat.pow_le_pow_right (n:=2) (by decide) h3
   have e:2^(6+1)=128:=by decide
   omega
  ·exact h3
 omega
theorem zbN(hp:Yc (wT m)≤100):∀(k e:Nat) (l:List (List zC)) (p:qN),C2 m g l p→l.length+k≤300→eF m (g++l)+e+1≤k→p.1.length+(eF m (g++l)+1)*25≤6000→
  (Vn m k g l p).verdict≠3∧(Vn m k g l p).note.1.length≤6000∧((Vn m k g l p).verdict=1→eF m (g++(Vn m k g l p).learned)+e≤(Vn m k g l p).fuel∧(Vn m k g l p).note.1.length+(eF m (g++(Vn m k g l p).learned)+1)*25≤6000)
 |0,e,l,p,_,_,h,_=>by omega
 |k+1,e,l,p,h,hk,ha,hs=>by
  have hsz:=Eu h.mc.right hp;rw[Vn]
  by_cases hd:(nP m (g++l)).2.1=true
  ·rw[if_pos hd]
   exact⟨by show(1:Int)≠3;decide,by show p.1.length≤6000;omega,λ_=>⟨by show eF m (g++l)+e≤k;omega,hs⟩⟩
  ·rw[if_neg hd]
   obtain⟨_,_,q3,q4,q5⟩:=SB h (by omega) (by simpa using hd)
   by_cases hf:jH m (g++l)=[]
   ·rw[if_pos hf]
    exact⟨by show(2:Int)≠3;decide,by show(kG m (g++l) p).1.length≤6000;omega,λe=>by cases e⟩
   ·rw[if_neg hf]
    obtain⟨q6,q7⟩:=q5 hf;rw[if_neg (by omega)]
    refine zbN hp k e _ _ q6 (by rw[List.length_append,List.length_singleton];omega) (by omega) ?_
    omega
end
inductive zdJ (m:zG)(fuel:Nat)(a:O5):Prop
 |found (h1:a.verdict=1) (h2:UG m [] a.values) (h3:a.proof=[]):zdJ m fuel a
 |none (h1:a.verdict=2) (h2:a.values=[]) (h3:Md m [] a.proof) (h4:a.proof.length≤6000):zdJ m fuel a
 |unknown (h1:a.verdict=3) (h2:a.values=[]) (h3:a.proof=[]) (h4:fuel<300∨100<Yc (wT m)):zdJ m fuel a
section
variable {m:zG}{g l:List (List zC)}{p:qN}
def pM(m:zG)(vs:List Int):List zC:=if m.goal=1 then[⟨m.var,1,vs.getD m.var.toNat 0-1⟩]else if m.goal=2 then[⟨m.var,2,vs.getD m.var.toNat 0+1⟩]else[]
structure zib where
 verdict:Int
 best:List Int
 nl:Bool
 given:List (List zC)
 fuel:Nat
 learned:List (List zC)
 note:qN
noncomputable def TA (m:zG):Nat→Nat→List (List zC)→List (List zC)→qN→List Int→Bool→zib
 |0,k,g,l,p,b,nl=>⟨3,b,nl,g,k,l,p⟩
 |n+1,k,g,l,p,b,nl=>if(Vn m k g l p).verdict=3∨(Vn m k g l p).verdict=2 then⟨(Vn m k g l p).verdict,b,nl,g,(Vn m k g l p).fuel,(Vn m k g l p).learned,(Vn m k g l p).note⟩
  else if m.goal=0 then⟨(Vn m k g l p).verdict,(Vn m k g l p).vals,false,g,(Vn m k g l p).fuel,(Vn m k g l p).learned,(Vn m k g l p).note⟩
  else TA m n (Vn m k g l p).fuel [pM m (Vn m k g l p).vals] (Vn m k g l p).learned (Vn m k g l p).note (Vn m k g l p).vals false
noncomputable def rK (m:zG)(fuel:Nat):zib:=TA m (fuel+1) fuel [] [] ([],[]) [] true
noncomputable def Ew (m:zG)(fuel:Nat):O5:=
 if m.goal=0∧(rK m fuel).verdict=1 then⟨1,(rK m fuel).best,[]⟩
 else if(rK m fuel).verdict=3∨6000<(rK m fuel).note.1.length then⟨3,[],[]⟩
 else if(rK m fuel).nl=true then⟨2,[],(rK m fuel).note.1⟩
 else⟨1,(rK m fuel).best,(rK m fuel).note.1⟩
theorem Uj(hr:Right m)(h:m.goal≠0):(m.goal=1∨m.goal=2)∧0≤m.var∧m.var<(m.vars.length:Int):=by
 have hg:=hr.goal;unfold WR at hg
 split at hg
 ·cases hg
 ·rename_i h1
  split at hg
  ·cases hg
  ·split at hg
   ·cases hg
   ·rename_i h3
    have h1:kK m.goal 0 2=true:=by simpa using h1
    rw[kK,Bool.and_eq_true,decide_eq_true_iff,decide_eq_true_iff]at h1
    have h3:¬rP m.vars.length m.var=true:=λe=>h3 ⟨h,e⟩
    have h4:rP m.vars.length m.var=false:=by simpa using h3
    refine⟨by omega,?_⟩
    have h4:kK m.var 0 ((m.vars.length:Int)-1)=true:=by simpa[rP]using h4
    rw[kK,Bool.and_eq_true,decide_eq_true_iff,decide_eq_true_iff]at h4
    omega
theorem H6(hr:Right m)(h:m.goal≠0)(vs:List Int):∃x:zC,pM m vs=[x]∧x.var=m.var∧1≤x.op∧x.op≤4∧vs.getD m.var.toNat 0-1≤x.n∧x.n≤vs.getD m.var.toNat 0+1∧holdsL x (vs.getD m.var.toNat 0)=false:=by
 obtain⟨h1|h1,_⟩:=Uj hr h
 ·rw[pM,if_pos h1]
  refine⟨_,rfl,rfl,by show(1:Int)≤1;decide,by show(1:Int)≤4;decide,Int.le_refl _,by show vs.getD m.var.toNat 0-1≤_;omega,?_⟩
  rw[holdsL,if_pos rfl];exact decide_eq_false (by show¬vs.getD m.var.toNat 0≤vs.getD m.var.toNat 0-1;omega)
 ·rw[pM,if_neg (by omega),if_pos h1]
  refine⟨_,rfl,rfl,by show(1:Int)≤2;decide,by show(2:Int)≤4;decide,by show vs.getD m.var.toNat 0-1≤vs.getD m.var.toNat 0+1;omega,Int.le_refl _,?_⟩
  rw[holdsL,if_neg (by show¬(2:Int)=1;decide),if_pos rfl];exact decide_eq_false (by show¬vs.getD m.var.toNat 0+1≤vs.getD m.var.toNat 0;omega)
theorem H7(hr:Right m)(h:m.goal≠0){vs:List Int}(hv:Vx vs (wT m)):yP m.vars.length (pM m vs)=0:=by
 obtain⟨x,e,x1,x2,x3,x4,x5,_⟩:=H6 hr h vs;obtain⟨_,g2,g3⟩:=Uj hr h;rw[e];refine N8 (by show 1≤40;decide) λy hy=> ?_
 rw[List.mem_singleton.1 hy];have hvl:m.var.toNat<m.vars.length:=by omega
 have:=hv.2 m.var.toNat (by rw[xU];exact hvl)
 rw[bJ hvl,YF]at this
 have hb:=hr.var _ (List.getElem_mem hvl);exact nT.2 ⟨by rw[x1];exact⟨g2,g3⟩,⟨x2,x3⟩,by omega⟩
theorem Me(hr:Right m)(h:m.goal≠0){vs us:List Int}:qZ (pM m vs) us=true↔(m.goal=1∧us.getD m.var.toNat 0<vs.getD m.var.toNat 0)∨(m.goal=2∧vs.getD m.var.toNat 0<us.getD m.var.toNat 0):=by
 obtain⟨h1|h1,_⟩:=Uj hr h
 ·rw[pM,if_pos h1,qZ,List.any_cons,List.any_nil,Bool.or_false,holdsL,if_pos rfl,decide_eq_true_iff]
  show us.getD m.var.toNat 0≤vs.getD m.var.toNat 0-1↔_
  omega
 ·rw[pM,if_neg (by omega),if_pos h1,qZ,List.any_cons,List.any_nil,Bool.or_false,holdsL,if_neg (by show¬(2:Int)=1;decide),if_pos rfl,decide_eq_true_iff]
  show vs.getD m.var.toNat 0+1≤us.getD m.var.toNat 0↔_
  omega
def Ey(m:zG)(g:List (List zC)):Nat:=(((wT m).getD m.var.toNat []).filter λn=>g.all λc=>c.any λx=>holdsL x n).length
inductive zdK (m:zG):List (List zC)→List Int→Bool→Prop
 |none:zdK m [] [] true
 |some (vs:List Int) (h:UG m [] vs) (hg:m.goal≠0):zdK m [pM m vs] vs false
theorem Ez(hr:Right m)(hgoal:m.goal≠0){b vs:List Int}{nl:Bool}(hg:zdK m g b nl)(hf:UG m g vs):XD [pM m vs] g∧Ey m [pM m vs]<Ey m g:=by
 obtain⟨g1,g2,g3⟩:=Uj hr hgoal;have hvl:m.var.toNat<m.vars.length:=by omega
 have hin:=hf.full.2 m.var.toNat (by rw[xU];exact hvl)
 obtain⟨x,ex,x1,_,_,_,_,x6⟩:=H6 hr hgoal vs
 have hE:XD [pM m vs] g:=by
  cases hg with
  |none=>exact λc hc=>by cases hc
  |some _ hb _=>
   intro c hc;refine⟨_,List.mem_singleton.2 rfl,λus hu=> ?_⟩
   rw[List.mem_singleton.1 hc];have h1:=(Me hr hgoal).1 (hf.giv _ (List.mem_singleton.2 rfl));have h2:=(Me hr hgoal).1 hu;exact(Me hr hgoal).2 (by omega)
 refine⟨hE,?_⟩
 have one:∀(x:zC) (n:Int),x.var=m.var→(qZ [x] (List.replicate m.var.toNat 0++[n])=holdsL x n):=λx n hx=>by
  rw[qZ,List.any_cons,List.any_nil,Bool.or_false,hx]
  congr 1
  rw[List.getD_eq_getElem?_getD,List.getElem?_append_right (by simp)]
  simp
 unfold Ey;refine(PD λn hn h=> ?_).2 ⟨_,hin,?_,?_⟩
 ·cases hg with
  |none=>rfl
  |some _ hb _=>
   obtain⟨y,ey,y1,_⟩:=H6 hr hgoal b;rw[ex]at h
   rw[ey];have h:holdsL x n=true:=by simpa using h
   have h1:qZ (pM m vs) (List.replicate m.var.toNat 0++[n])=true:=by rw[ex,one x n x1];exact h
   obtain⟨c',hc',e⟩:=hE (pM m b) (List.mem_singleton.2 rfl);rw[List.mem_singleton.1 hc']at e
   have h2:=e _ h1;rw[ey,one y n y1]at h2
   simpa using h2
 ·cases hg with
  |none=>rfl
  |some _ hb _=>
   obtain⟨y,ey,y1,_⟩:=H6 hr hgoal b;have:=hf.giv _ (List.mem_singleton.2 rfl);rw[ey,qZ,List.any_cons,List.any_nil,Bool.or_false,y1]at this
   rw[ey];simpa using this
 ·rw[ex];simpa using x6
theorem C2.give(h:C2 m g l p){g':List (List zC)}(hg:∀c∈g',yP m.vars.length c=0)(hl:g'.length≤1)(he:XD g' g):C2 m g' l p:=
 ⟨h.chk,hg,h.lc,hl,h.met,Em h.chk h.gc hg h.cl he h.right,h.cl,h.con,h.ne,h.sub⟩
inductive zbO (m:zG)(r:zib):Prop
 |any (h0:m.goal=0) (h1:r.verdict=1) (h2:UG m [] r.best):zbO m r
 |none (h1:r.verdict=2) (h2:zdK m r.given r.best r.nl) (h3:Md m r.given r.note.1):zbO m r
 |unknown (h1:r.verdict=3):zbO m r
theorem PE{vs:List Int}(h:UG m g vs):UG m [] vs:=⟨h.len,h.full,h.whole,λc hc=>by cases hc⟩
theorem EA:∀(n k:Nat) (g l:List (List zC)) (p:qN) (b:List Int) (nl:Bool),C2 m g l p→zdK m g b nl→l.length+k≤300→zbO m (TA m n k g l p b nl)
 |0,k,g,l,p,b,nl,_,_,_=> .unknown rfl
 |n+1,k,g,l,p,b,nl,h,hg,hk=>by
  have h1:=LY k l p h hk;rw[TA];generalize Vn m k g l p=r at h1
  cases h1 with
  |unknown q1 q2=>rw[if_pos (.inl q1)];exact .unknown q1
  |none q1 q2 q3=>rw[if_pos (.inr q1)];exact .none q1 hg q3
  |found q1 q2 q3 q4=>
   rw[if_neg (by rw[q1];decide)]
   by_cases h0:m.goal=0
   ·rw[if_pos h0];exact .any h0 q1 (PE q2)
   ·rw[if_neg h0]
    have hr:=h.mc.right;obtain⟨e1,e2⟩:=Ez hr h0 hg q2;have hc:∀c∈[pM m r.vals],yP m.vars.length c=0:=λc hc=>by rw[List.mem_singleton.1 hc];exact H7 hr h0 q2.full
    exact EA n _ _ _ _ _ _ (q3.give hc (Nat.le_refl _) e1) (.some _ (PE q2) h0) q4
theorem EB(hp:Yc (wT m)≤100):∀(n k:Nat) (g l:List (List zC)) (p:qN) (b:List Int) (nl:Bool),C2 m g l p→zdK m g b nl→l.length+k≤300→eF m (g++l)+Ey m g+1≤k→Ey m g+1≤n→p.1.length+(eF m (g++l)+1)*25≤6000→
  (TA m n k g l p b nl).verdict≠3∧(TA m n k g l p b nl).note.1.length≤6000
 |0,k,g,l,p,b,nl,_,_,_,_,h,_=>by omega
 |n+1,k,g,l,p,b,nl,h,hg,hk,ha,hn,hs=>by
  have h1:=LY k l p h hk;obtain⟨e1,e2,e3⟩:=zbN hp k (Ey m g) l p h hk ha hs;rw[TA];generalize Vn m k g l p=r at h1 e1 e2 e3
  cases h1 with
  |unknown q1 q2=>exact absurd q1 e1
  |none q1 q2 q3=>rw[if_pos (.inr q1)];exact⟨e1,e2⟩
  |found q1 q2 q3 q4=>
   rw[if_neg (by rw[q1];decide)]
   by_cases h0:m.goal=0
   ·rw[if_pos h0];exact⟨e1,e2⟩
   ·rw[if_neg h0]
    have hr:=h.mc.right;obtain⟨f1,f2⟩:=Ez hr h0 hg q2;obtain⟨e4,e5⟩:=e3 q1;have hc:∀c∈[pM m r.vals],yP m.vars.length c=0:=λc hc=>by rw[List.mem_singleton.1 hc];exact H7 hr h0 q2.full
    have hS:=q3.give hc (Nat.le_refl _) f1;have hal:=zf9 q3.mc hS.mc (f1.app (.refl r.learned));exact EB hp n _ _ _ _ _ _ hS (.some _ (PE q2) h0) q4 (by omega) (by omega) (by omega)
inductive C3 (m:zG)(fuel:Nat)(a:O5):Prop
 |any (h0:m.goal=0) (h1:a.verdict=1) (h2:UG m [] a.values) (h3:a.proof=[]):C3 m fuel a
 |best (h0:m.goal≠0) (h1:a.verdict=1) (h2:UG m [] a.values) (h3:Md m [pM m a.values] a.proof) (h4:a.proof.length≤6000):C3 m fuel a
 |none (h1:a.verdict=2) (h2:a.values=[]) (h3:Md m [] a.proof) (h4:a.proof.length≤6000):C3 m fuel a
 |unknown (h1:a.verdict=3) (h2:a.values=[]) (h3:a.proof=[]) (h4:fuel<300∨100<Yc (wT m)):C3 m fuel a
theorem C4(hm:xL m=0){fuel:Nat}(hf:fuel≤300):C3 m fuel (Ew m fuel):=by
 have hb:=C2.begin hm;have hr:=hb.mc.right;have h1:zbO m (rK m fuel):=EA (fuel+1) fuel [] [] ([],[]) [] true hb .none (by simpa using hf)
 have h2:¬(fuel<300∨100<Yc (wT m))→(rK m fuel).verdict≠3∧(rK m fuel).note.1.length≤6000:=λhn=>by
  have ha:=zdE (l:=[]++[]) hr
  have hl:Ey m []≤6:=by
   have:=QZ hr m.var.toNat;exact Nat.le_trans (List.length_filter_le ..) this
  exact EB (by omega) (fuel+1) fuel [] [] ([],[]) [] true hb .none (by simpa using hf) (by omega) (by omega) (by show 0+_≤_;omega)
 rw[Ew];generalize rK m fuel=r at h1 h2
 have unk:(r.verdict=3∨6000<r.note.1.length)→(fuel<300∨100<Yc (wT m)):=λh=>by
  by_cases hn:fuel<300∨100<Yc (wT m)
  ·exact hn
  ·obtain⟨a,b⟩:=h2 hn
   rcases h with h|h
   ·exact absurd h a
   ·omega
 cases h1 with
 |any q0 q1 q2=>rw[if_pos ⟨q0,q1⟩];exact .any q0 rfl q2 rfl
 |unknown q1=>
  rw[if_neg (by rw[q1];rintro⟨_,h⟩;cases h),if_pos (.inl q1)]
  exact .unknown rfl rfl rfl (unk (.inl q1))
 |none q1 q2 q3=>
  rw[if_neg (by rw[q1];rintro⟨_,h⟩;cases h)]
  by_cases hs:6000<r.note.1.length
  ·rw[if_pos (.inr hs)];exact .unknown rfl rfl rfl (unk (.inr hs))
  ·rw[if_neg (by rw[q1];rintro(h|h);cases h;exact hs h)]
   generalize e1:r.given=g at q2 q3
   generalize e2:r.best=b at q2
   generalize e3:r.nl=nl at q2
   cases q2 with
   |none=>rw[if_pos rfl];exact .none rfl rfl q3 (by show r.note.1.length≤6000;omega)
   |some vs hv h0=>rw[if_neg (by decide)];exact .best h0 rfl hv q3 (by show r.note.1.length≤6000;omega)
end
theorem zgf{x:zC}(h1:yJ x.var)(h2:yJ x.op)(h3:yJ x.n):(AJ x).size≤66:=by
 have a:=mB h1;have b:=mB h2;have c:=mB h3;simp only[AJ,ByteArray.size_append];show _+1+_+1+_+1≤66
 omega
def Q8:wA:= {own:=[],live:=[],n:=17,first:=true}
theorem Hu(b:zG)(a:Int)(R:xO):FD Q8 Tryz.f70 [dM b,dI a] R=
 (xK kB [dM b] .int λc=>
 zP (!decide (c=0))
 (R (dI c))
 (zP (decide (a<0))
 (R (dI 3))
 (zP (decide (300<a))
 (R (dI 3))
 (R (dI 0))))):=by kernel_rfl
theorem Jy(a:zG)(b:Int):wC Q8 Tryz.f70 Zv [dM a,dI b]:=wJ Tryz.func70 (by kernel_rfl) Tryz.ntmps70 rfl
def LZ:wA:= {own:=[4,7,9],live:=[],n:=10,first:=true}
theorem DJ(a:zG)(b:Int)(R:pR):FH LZ Tryz.f71 [dM a,dI b] [] [] true R=
 (R (.ptr 3000 0) [(3000,.cells (TL a [.sl (.list .lit) ([]:List (List zC)),dI b,.nil,.nil,.own 3001])),(3001,.mp .str .int ([]:List (ByteArray×Int)))]):=by kernel_rfl
theorem EC(a:zG)(b:Int):oH LZ Tryz.f71 X5 [dM a,dI b] [] [] true:=oT Tryz.func71 (by kernel_rfl) Tryz.ntmps71 rfl
def Zh:wA:= {own:=[],live:=[],n:=14,first:=true}
theorem UH(b:List zN)(c:List zE)(d e:Int)(f:List (List zC))(g:Int)(h:List (List zC))(a:List zU)(i:List (ByteArray×Int))(R:pR):FH Zh Tryz.f73 [.ptr 1000 0] [(1000,.cells [.sl .var b,.sl .con c,dI d,dI e,.sl (.list .lit) f,dI g,.own 2000,.own 2001,.own 1001]),(2000,.row 53 (.list .lit) h),(2001,.row 129 .step a),(1001,.mp .str .int i)] [.ptr 1000 0] false R=
 (R (.tup [.sl .step a,dB (decide ((a.length:Int)≤6000))]) [(1000,.cells [.sl .var b,.sl .con c,dI d,dI e,.sl (.list .lit) f,dI g,.own 2000,.sl .step a,.own 1001]),(2000,.row 53 (.list .lit) h),(1001,.mp .str .int i)]):=by kernel_rfl
theorem VJ(a:List zN)(b:List zE)(c d:Int)(e:List (List zC))(f:Int)(g:List (List zC))(h:List zU)(i:List (ByteArray×Int)):oH Zh Tryz.f73 sG [.ptr 1000 0] [(1000,.cells [.sl .var a,.sl .con b,dI c,dI d,.sl (.list .lit) e,dI f,.own 2000,.own 2001,.own 1001]),(2000,.row 53 (.list .lit) g),(2001,.row 129 .step h),(1001,.mp .str .int i)] [.ptr 1000 0] false:=oT Tryz.func73 (by kernel_rfl) Tryz.ntmps73 rfl
def eG:wA:= {own:=[60],live:=[(0,([0],[1000,1001,2000,2001]))],n:=77,first:=true}
def mR(R:pR)(a:Nat)(b:List zN)(c:List zE)(d e:Int)(f:List (List zC))(g:Int)(h:List (ByteArray×Int))(i:List (List zC))(j:List zU):Prop:=LP eG Tryz.f83 [1,0,0] 0 a ⟨[(0,.ptr 1000 0)],[(1000,.cells [.sl .var b,.sl .con c,dI d,dI e,.sl (.list .lit) f,dI g,.own 2000,.own 2001,.own 1001]),(1001,.mp .str .int h),(2000,.row 53 (.list .lit) i),(2001,.row 129 .step j)]⟩ (zQ 0 (eH Tryz.f83 [.ptr 1000 0] false R))
theorem bL(R:pR)(n:Nat)(a:List zN)(b:List zE)(c d:Int)(g:List (List zC))(f:Int)(h:List (ByteArray×Int))(e:List (List zC))(i:List zU):mR R (n+1) a b c d g f h e i=
 (zP (decide (f=0))
 (R (.tup [.sl .int ([]:List Int),dI 3]) [(1000,.cells [.sl .var a,.sl .con b,dI c,dI d,.sl (.list .lit) g,dI f,.own 2000,.own 2001,.own 1001]),(2000,.row 53 (.list .lit) e),(2001,.row 129 .step i),(1001,.mp .str .int h)])
 (∃o:List zC,∃q:Bool,∃r:List Int,yH nC [.ptr 1000 0] [(1000,.cells [.sl .var a,.sl .con b,dI c,dI d,.sl (.list .lit) g,dI (yU (f-1)),.own 2000,.own 2001,.own 1001]),(2000,.row 53 (.list .lit) e),(2001,.row 129 .step i),(1001,.mp .str .int h)] (.tup [.slN .lit o q,.sl .int r]) [(1000,.cells [.sl .var a,.sl .con b,dI c,dI d,.sl (.list .lit) g,dI (yU (f-1)),.own 2000,.own 2001,.own 1001]),(2000,.row 53 (.list .lit) e),(2001,.row 129 .step i),(1001,.mp .str .int h)]∧
 zP q
 (R (.tup [.sl .int r,dI 1]) [(1000,.cells [.sl .var a,.sl .con b,dI c,dI d,.sl (.list .lit) g,dI (yU (f-1)),.own 2000,.own 2001,.own 1001]),(2000,.row 53 (.list .lit) e),(2001,.row 129 .step i),(1001,.mp .str .int h)])
 ((λp:Prop=>((p)∧p))
 (∃s:List (List zC),yH rM [.ptr 1000 0] [(1000,.cells [.sl .var a,.sl .con b,dI c,dI d,.sl (.list .lit) g,dI (yU (f-1)),.own 2000,.own 2001,.own 1001]),(2000,.row 53 (.list .lit) e),(2001,.row 129 .step i),(1001,.mp .str .int h)] (.sl (.list .lit) s) [(1000,.cells [.sl .var a,.sl .con b,dI c,dI d,.sl (.list .lit) g,dI (yU (f-1)),.own 2000,.own 2001,.own 1001]),(2000,.row 53 (.list .lit) e),(2001,.row 129 .step i),(1001,.mp .str .int h)]∧
 c2Q Zx [.agg [.sl .var a,.sl .con b,dI c,dI d],.sl (.list .lit) s,.sl .lit o] (.list .lit) .bool λm v=>
 (λp:Prop=>((p)∧p))
 (∃t:List (List zC),yH rM [.ptr 1000 0] [(1000,.cells [.sl .var a,.sl .con b,dI c,dI d,.sl (.list .lit) g,dI (yU (f-1)),.own 2000,.own 2001,.own 1001]),(2000,.row 53 (.list .lit) e),(2001,.row 129 .step i),(1001,.mp .str .int h)] (.sl (.list .lit) t) [(1000,.cells [.sl .var a,.sl .con b,dI c,dI d,.sl (.list .lit) g,dI (yU (f-1)),.own 2000,.own 2001,.own 1001]),(2000,.row 53 (.list .lit) e),(2001,.row 129 .step i),(1001,.mp .str .int h)]∧
 xK YP [.agg [.sl .var a,.sl .con b,dI c,dI d],.sl (.list .lit) t,.sl .lit m] (.list .step) λu=>
 ∃j:List zU,∃k:List (ByteArray×Int),yH nD [.ptr 1000 0,.sl .step u] [(1000,.cells [.sl .var a,.sl .con b,dI c,dI d,.sl (.list .lit) g,dI (yU (f-1)),.own 2000,.own 2001,.own 1001]),(2000,.row 53 (.list .lit) e),(2001,.row 129 .step i),(1001,.mp .str .int h)] (.tup []) [(1000,.cells [.sl .var a,.sl .con b,dI c,dI d,.sl (.list .lit) g,dI (yU (f-1)),.own 2000,.own 2001,.own 1001]),(2000,.row 53 (.list .lit) e),(2001,.row 129 .step j),(1001,.mp .str .int k)]∧
 zP (decide ((m.length:Int)=0))
 (R (.tup [.sl .int ([]:List Int),dI 2]) [(1000,.cells [.sl .var a,.sl .con b,dI c,dI d,.sl (.list .lit) g,dI (yU (f-1)),.own 2000,.own 2001,.own 1001]),(2000,.row 53 (.list .lit) e),(2001,.row 129 .step j),(1001,.mp .str .int k)])
 (xK fP [.sl .lit m] (.list .lit) λl=>
 wN (.list .lit) (e.length+([l]).length)=true∧zP (decide (600<((e++([l])).length:Int)))
 (R (.tup [.sl .int ([]:List Int),dI 3]) [(1000,.cells [.sl .var a,.sl .con b,dI c,dI d,.sl (.list .lit) g,dI (yU (f-1)),.own 2000,.own 2001,.own 1001]),(2000,.row 53 (.list .lit) (e++([l]))),(2001,.row 129 .step j),(1001,.mp .str .int k)])
 (zP (decide (6000<(j.length:Int)))
 (R (.tup [.sl .int ([]:List Int),dI 3]) [(1000,.cells [.sl .var a,.sl .con b,dI c,dI d,.sl (.list .lit) g,dI (yU (f-1)),.own 2000,.own 2001,.own 1001]),(2000,.row 53 (.list .lit) (e++([l]))),(2001,.row 129 .step j),(1001,.mp .str .int k)])
 (mR R n a b c d g (yU (f-1)) k (e++([l])) j)))))))):=by kernel_rfl
theorem RF(a:List zN)(b:List zE)(c d:Int)(e:List (List zC))(f:Int)(g:List (List zC))(h:List zU)(i:List (ByteArray×Int))(R:pR):FH eG Tryz.f83 [.ptr 1000 0] [(1000,.cells [.sl .var a,.sl .con b,dI c,dI d,.sl (.list .lit) e,dI f,.own 2000,.own 2001,.own 1001]),(2000,.row 53 (.list .lit) g),(2001,.row 129 .step h),(1001,.mp .str .int i)] [.ptr 1000 0] false R=
 (∃n0,mR R n0 a b c d e f i g h):=by kernel_rfl
theorem SC(a:List zN)(b:List zE)(c d:Int)(e:List (List zC))(f:Int)(g:List (List zC))(h:List zU)(i:List (ByteArray×Int)):oH eG Tryz.f83 lD [.ptr 1000 0] [(1000,.cells [.sl .var a,.sl .con b,dI c,dI d,.sl (.list .lit) e,dI f,.own 2000,.own 2001,.own 1001]),(2000,.row 53 (.list .lit) g),(2001,.row 129 .step h),(1001,.mp .str .int i)] [.ptr 1000 0] false:=oT Tryz.func83 (by kernel_rfl) Tryz.ntmps83 rfl
def vQ:wA:= {own:=[7,8,11,15,45,59],live:=[(0,([0,4,5,6],[15,1000,1001,2000,2001])),(2,([0,8,34,35,36],[8,1000,1001,2000,2001]))],n:=71,nn:=[2,15],first:=true}
def oP(b:List (ByteArray×Int))(R:pR)(c:Nat)(a:List (List Int))(d:List zN)(e:List zE)(f g:Int)(h:List (List zC))(i:Int)(j:Nat)(k:Int)(l:List Int)(m:List (List zC))(n:List zU):Prop:=LP vQ Tryz.f130 [1,1,1,1,0,0,0,1,0,1,0,1,0,1,0,1,0,0] 2 j ⟨[(0,.ptr 1000 0),(8,.own 8),(34,dS a),(35,dI (a.length:Int)),(36,dI k)],[(8,.row 3 .int l),(1000,.cells [.sl .var d,.sl .con e,dI f,dI g,.sl (.list .lit) h,dI i,.own 2000,.own 2001,.own 1001]),(1001,.mp .str .int b),(2000,.row 53 (.list .lit) m),(2001,.row 129 .step n)]⟩ (zQ 2 (sK vQ Tryz.f130 [1,1,1,1,0,0,0,1,0,1,0,1,0,1,1] 1 (sK vQ Tryz.f130 [1,1,1,1,0,0,0,1,0,1,1] 1 (zQ 1 (iK vQ Tryz.f130 [1,1,1,1,0,0,0] 0 c (zQ 0 (sK vQ Tryz.f130 [1,1,1,1,1] 0 (eH Tryz.f130 [.ptr 1000 0] false R))))))))
def oQ(a:List (ByteArray×Int))(R:pR)(b:List (List zC))(c:Nat)(d:List (List Int))(e:List zC)(f:List zN)(g:List zE)(h i:Int)(j:List (List zC))(k:Int)(l:List (List zC))(m:List zU):Prop:=LP vQ Tryz.f130 [1,1,1,1,0,0,0] 0 c ⟨[(0,.ptr 1000 0),(4,.sl (.list .lit) b),(5,.ownN 15),(6,dS d)],[(15,.row 114 .lit e),(1000,.cells [.sl .var f,.sl .con g,dI h,dI i,.sl (.list .lit) j,dI k,.own 2000,.own 2001,.own 1001]),(1001,.mp .str .int a),(2000,.row 53 (.list .lit) l),(2001,.row 129 .step m)]⟩ (zQ 0 (sK vQ Tryz.f130 [1,1,1,1,1] 0 (eH Tryz.f130 [.ptr 1000 0] false R)))
theorem Vo(d:List (ByteArray×Int))(R:pR)(m:Nat)(a:List (List Int))(e:List zN)(f:List zE)(g h:Int)(i:List (List zC))(j:Int)(n:Nat)(b:Int)(c:List Int)(k:List (List zC))(l:List zU):oP d R m a e f g h i j (n+1) b c k l=
 (zP (decide (b<(a.length:Int)))
 (vW b a.length=true∧vW 0 (yO (.list .int) a b.toNat).length=true∧wN .int (c.length+([yO .int (yO (.list .int) a b.toNat) 0]).length)=true∧oP d R m a e f g h i j n (yU (b+1)) (c++([yO .int (yO (.list .int) a b.toNat) 0])) k l)
 (R (.tup [.slN .lit ([]:List zC) true,.sl .int c]) [(1000,.cells [.sl .var e,.sl .con f,dI g,dI h,.sl (.list .lit) i,dI j,.own 2000,.own 2001,.own 1001]),(2000,.row 53 (.list .lit) k),(2001,.row 129 .step l),(1001,.mp .str .int d)])):=by kernel_rfl
theorem Vp(h:List (ByteArray×Int))(R:pR)(m:List (List zC))(n:Nat)(b:List (List Int))(c:List zC)(d:List zN)(e:List zE)(f g:Int)(i:List (List zC))(j:Int)(k:List (List zC))(l:List zU):oQ h R m (n+1) b c d e f g i j k l=
 (xK yX [dS b] .bool λo=>
 zP (!o)
 (xK YQ [dS b] .int λa=>
 zP (decide (a<0))
 (∃n2,oP h R n b d e f g i j n2 0 ([]:List Int) k l)
 ((λp:Prop=>((((vW a b.length=true∧vW 0 (yO (.list .int) b a.toNat).length=true∧wN .lit (c.length+([(⟨a,3,yO .int (yO (.list .int) b a.toNat) 0⟩:zC)]).length)=true∧p)∧vW a b.length=true∧vW 0 (yO (.list .int) b a.toNat).length=true∧wN .lit (c.length+([(⟨a,3,yO .int (yO (.list .int) b a.toNat) 0⟩:zC)]).length)=true∧p))∧(vW a b.length=true∧vW 0 (yO (.list .int) b a.toNat).length=true∧((wN .lit (c.length+([(⟨a,3,yO .int (yO (.list .int) b a.toNat) 0⟩:zC)]).length)=true∧p)∧wN .lit (c.length+([(⟨a,3,yO .int (yO (.list .int) b a.toNat) 0⟩:zC)]).length)=true∧p))∧vW a b.length=true∧vW 0 (yO (.list .int) b a.toNat).length=true∧wN .lit (c.length+([(⟨a,3,yO .int (yO (.list .int) b a.toNat) 0⟩:zC)]).length)=true∧p))
 (xK tY [dS b,.clo ot none [.iptr [dI a] 0,.iptr [dI a,dI 3,dI (yO .int (yO (.list .int) b a.toNat) 0)] 0]] (.list (.list .int)) λq=>
 xK gR [.agg [.sl .var d,.sl .con e,dI f,dI g],dS q,dB true,.sl (.list .lit) m] (.list (.list .int)) λr=>
 oQ h R m n r (c++([(⟨a,3,yO .int (yO (.list .int) b a.toNat) 0⟩:zC)])) d e f g i j k l)))
 (R (.tup [.slN .lit c false,.sl .int ([]:List Int)]) [(1000,.cells [.sl .var d,.sl .con e,dI f,dI g,.sl (.list .lit) i,dI j,.own 2000,.own 2001,.own 1001]),(2000,.row 53 (.list .lit) k),(2001,.row 129 .step l),(1001,.mp .str .int h)])):=by kernel_rfl
theorem TB(a:List zN)(b:List zE)(c d:Int)(e:List (List zC))(f:Int)(g:List (List zC))(h:List zU)(i:List (ByteArray×Int))(R:pR):FH vQ Tryz.f130 [.ptr 1000 0] [(1000,.cells [.sl .var a,.sl .con b,dI c,dI d,.sl (.list .lit) e,dI f,.own 2000,.own 2001,.own 1001]),(2000,.row 53 (.list .lit) g),(2001,.row 129 .step h),(1001,.mp .str .int i)] [.ptr 1000 0] false R=
 (∃j:List (List zC),yH rM [.ptr 1000 0] [(1000,.cells [.sl .var a,.sl .con b,dI c,dI d,.sl (.list .lit) e,dI f,.own 2000,.own 2001,.own 1001]),(2000,.row 53 (.list .lit) g),(2001,.row 129 .step h),(1001,.mp .str .int i)] (.sl (.list .lit) j) [(1000,.cells [.sl .var a,.sl .con b,dI c,dI d,.sl (.list .lit) e,dI f,.own 2000,.own 2001,.own 1001]),(2000,.row 53 (.list .lit) g),(2001,.row 129 .step h),(1001,.mp .str .int i)]∧
 xK lE [.agg [.sl .var a,.sl .con b,dI c,dI d]] (.list (.list .int)) λk=>
 xK gR [.agg [.sl .var a,.sl .con b,dI c,dI d],dS k,dB true,.sl (.list .lit) j] (.list (.list .int)) λl=>
 ∃n0,oQ i R j n0 l ([]:List zC) a b c d e f g h):=by kernel_rfl
theorem UI(a:List zN)(b:List zE)(c d:Int)(e:List (List zC))(f:Int)(g:List (List zC))(h:List zU)(i:List (ByteArray×Int)):oH vQ Tryz.f130 nC [.ptr 1000 0] [(1000,.cells [.sl .var a,.sl .con b,dI c,dI d,.sl (.list .lit) e,dI f,.own 2000,.own 2001,.own 1001]),(2000,.row 53 (.list .lit) g),(2001,.row 129 .step h),(1001,.mp .str .int i)] [.ptr 1000 0] false:=oT Tryz.func130 (by kernel_rfl) Tryz.ntmps130 rfl
def Ym:wA:= {own:=[3,8,13],live:=[],n:=14,first:=true}
theorem SD(c:List zN)(d:List zE)(e f:Int)(a:List (List zC))(g:Int)(b:List (List zC))(h:List zU)(i:List (ByteArray×Int))(R:pR):FH Ym Tryz.f132 [.ptr 1000 0] [(1000,.cells [.sl .var c,.sl .con d,dI e,dI f,.sl (.list .lit) a,dI g,.own 2000,.own 2001,.own 1001]),(2000,.row 53 (.list .lit) b),(2001,.row 129 .step h),(1001,.mp .str .int i)] [.ptr 1000 0] false R=
 ((λp:Prop=>((((((wN (.list .lit) (([]:List (List zC)).length+a.length)=true∧wN (.list .lit) ((([]:List (List zC))++a).length+b.length)=true∧p)∧wN (.list .lit) (([]:List (List zC)).length+a.length)=true∧wN (.list .lit) ((([]:List (List zC))++a).length+b.length)=true∧p))∧wN (.list .lit) (([]:List (List zC)).length+a.length)=true∧wN (.list .lit) ((([]:List (List zC))++a).length+b.length)=true∧p))∧(((((wN (.list .lit) (([]:List (List zC)).length+a.length)=true∧wN (.list .lit) ((([]:List (List zC))++a).length+b.length)=true∧p)∧wN (.list .lit) (([]:List (List zC)).length+a.length)=true∧wN (.list .lit) ((([]:List (List zC))++a).length+b.length)=true∧p))∧wN (.list .lit) (([]:List (List zC)).length+a.length)=true∧wN (.list .lit) ((([]:List (List zC))++a).length+b.length)=true∧p))∧((wN (.list .lit) (([]:List (List zC)).length+a.length)=true∧wN (.list .lit) ((([]:List (List zC))++a).length+b.length)=true∧p)∧wN (.list .lit) (([]:List (List zC)).length+a.length)=true∧wN (.list .lit) ((([]:List (List zC))++a).length+b.length)=true∧p)))
 (R (.sl (.list .lit) ((([]:List (List zC))++a)++b)) [(1000,.cells [.sl .var c,.sl .con d,dI e,dI f,.sl (.list .lit) a,dI g,.own 2000,.own 2001,.own 1001]),(2000,.row 53 (.list .lit) b),(2001,.row 129 .step h),(1001,.mp .str .int i)])):=by kernel_rfl
theorem TC(a:List zN)(b:List zE)(c d:Int)(e:List (List zC))(f:Int)(g:List (List zC))(h:List zU)(i:List (ByteArray×Int)):oH Ym Tryz.f132 rM [.ptr 1000 0] [(1000,.cells [.sl .var a,.sl .con b,dI c,dI d,.sl (.list .lit) e,dI f,.own 2000,.own 2001,.own 1001]),(2000,.row 53 (.list .lit) g),(2001,.row 129 .step h),(1001,.mp .str .int i)] [.ptr 1000 0] false:=oT Tryz.func132 (by kernel_rfl) Tryz.ntmps132 rfl
def iW:wA:= {own:=[5,35],live:=[(0,([0,7,8,9],[1000,1001,2000,2001]))],n:=39,first:=true}
def sJ(a:List zU)(R:pR)(b:Nat)(c:Int)(d:List zN)(e:List zE)(f g:Int)(h:List (List zC))(i:Int)(j:List (ByteArray×Int))(k:List (List zC))(l:List zU):Prop:=LP iW Tryz.f133 [1,0,0] 0 b ⟨[(0,.ptr 1000 0),(7,.sl .step a),(8,dI (a.length:Int)),(9,dI c)],[(1000,.cells [.sl .var d,.sl .con e,dI f,dI g,.sl (.list .lit) h,dI i,.own 2000,.own 2001,.own 1001]),(1001,.mp .str .int j),(2000,.row 53 (.list .lit) k),(2001,.row 129 .step l)]⟩ (zQ 0 (eH Tryz.f133 [.ptr 1000 0] false R))
theorem Vq(a:List zU)(R:pR)(l:Nat)(b:Int)(e:List zN)(f:List zE)(g h:Int)(i:List (List zC))(j:Int)(c:List (ByteArray×Int))(k:List (List zC))(d:List zU):sJ a R (l+1) b e f g h i j c k d=
 (zP (decide (b<(a.length:Int)))
 (vW b a.length=true∧xK Wb [.sl .lit ((yO .step a b.toNat).clause)] .str λm=>
 zP (decide ((kJ .str .int m c)=0))
 (Mo (c.length+1)=true∧wN .step (d.length+([(yO .step a b.toNat)]).length)=true∧sJ a R l (yU (b+1)) e f g h i j (rD .str .int m 1 c) k (d++([(yO .step a b.toNat)])))
 (sJ a R l (yU (b+1)) e f g h i j c k d))
 (R (.tup []) [(1000,.cells [.sl .var e,.sl .con f,dI g,dI h,.sl (.list .lit) i,dI j,.own 2000,.own 2001,.own 1001]),(2000,.row 53 (.list .lit) k),(2001,.row 129 .step d),(1001,.mp .str .int c)])):=by kernel_rfl
theorem TD(a:List zN)(b:List zE)(c d:Int)(e:List (List zC))(f:Int)(g:List (List zC))(h:List zU)(i:List (ByteArray×Int))(j:List zU)(R:pR):FH iW Tryz.f133 [.ptr 1000 0,.sl .step j] [(1000,.cells [.sl .var a,.sl .con b,dI c,dI d,.sl (.list .lit) e,dI f,.own 2000,.own 2001,.own 1001]),(2000,.row 53 (.list .lit) g),(2001,.row 129 .step h),(1001,.mp .str .int i)] [.ptr 1000 0] false R=
 (∃n0,sJ j R n0 0 a b c d e f i g h):=by kernel_rfl
theorem UJ(a:List zN)(b:List zE)(c d:Int)(e:List (List zC))(f:Int)(g:List (List zC))(h:List zU)(i:List (ByteArray×Int))(j:List zU):oH iW Tryz.f133 nD [.ptr 1000 0,.sl .step j] [(1000,.cells [.sl .var a,.sl .con b,dI c,dI d,.sl (.list .lit) e,dI f,.own 2000,.own 2001,.own 1001]),(2000,.row 53 (.list .lit) g),(2001,.row 129 .step h),(1001,.mp .str .int i)] [.ptr 1000 0] false:=oT Tryz.func133 (by kernel_rfl) Tryz.ntmps133 rfl
def Xb:wA:= {own:=[],live:=[(0,([5,6,7],[]))],n:=17,first:=true}
def Vr(a:List (List Int))(R:xO)(b:Nat)(c:Int):Prop:=LP Xb Tryz.f138 [1,0,1,0,0] 0 b ⟨[(5,dS a),(6,dI (a.length:Int)),(7,dI c)],[]⟩ (zQ 0 (sK Xb Tryz.f138 [1,1] 0 (eK Tryz.f138 R)))
theorem Uk(b:List (List Int))(R:xO)(c:Nat)(a:Int):Vr b R (c+1) a=
 (zP (decide (a<(b.length:Int)))
 (vW a b.length=true∧zP (decide (1<((yO (.list .int) b a.toNat).length:Int)))
 (R (dI a))
 (Vr b R c (yU (a+1))))
 (R (dI (-1)))):=by kernel_rfl
theorem ED(a:List (List Int))(R:xO):FD Xb Tryz.f138 [dS a] R=
 (∃n0,Vr a R n0 0):=by kernel_rfl
theorem Hv(a:List (List Int)):wC Xb Tryz.f138 YQ [dS a]:=wJ Tryz.func138 (by kernel_rfl) Tryz.ntmps138 rfl
def bM:wA:= {own:=[],live:=[],n:=16,first:=true}
theorem VK(b c d:Int)(a:zC)(R:xO):FD bM Tryz.f191 [dI b,dI c,.iptr [dI d] 0,.iptr [dI a.var,dI a.op,dI a.n] 0] R=
 (zP (!decide (b=d))
 (R (dB true))
 (R (dB (decide (c=a.n))))):=by kernel_rfl
theorem Vt(b c d:Int)(a:zC):wC bM Tryz.f191 ot [dI b,dI c,.iptr [dI d] 0,.iptr [dI a.var,dI a.op,dI a.n] 0]:=wJ Tryz.func191 (by kernel_rfl) Tryz.ntmps191 rfl
def Ws:wA:= {own:=[5],live:=[(0,([3,6,7,8],[]))],n:=30,first:=true}
def Xc(a:List zC)(R:xO)(b:Nat)(c:ByteArray)(d:Int):Prop:=LP Ws Tryz.f195 [1,1,0,1,0,0] 0 b ⟨[(3,.str c),(6,.sl .lit a),(7,dI (a.length:Int)),(8,dI d)],[]⟩ (zQ 0 (sK Ws Tryz.f195 [1,1,1] 0 (eK Tryz.f195 R)))
theorem Jz(a:List zC)(R:xO)(g:Nat)(e:ByteArray)(b:Int):Xc a R (g+1) e b=
 (zP (decide (b<(a.length:Int)))
 (vW b a.length=true∧xK oy [dI ((yO .lit a b.toNat).var)] .str λc=>
 c.size+(⟨#[58]⟩:ByteArray).size≤140737488355328∧xK oy [dI ((yO .lit a b.toNat).op)] .str λd=>
 (c++(⟨#[58]⟩:ByteArray)).size+d.size≤140737488355328∧((c++(⟨#[58]⟩:ByteArray))++d).size+(⟨#[58]⟩:ByteArray).size≤140737488355328∧xK oy [dI ((yO .lit a b.toNat).n)] .str λf=>
 (((c++(⟨#[58]⟩:ByteArray))++d)++(⟨#[58]⟩:ByteArray)).size+f.size≤140737488355328∧((((c++(⟨#[58]⟩:ByteArray))++d)++(⟨#[58]⟩:ByteArray))++f).size+(⟨#[32]⟩:ByteArray).size≤140737488355328∧e.size+(((((c++(⟨#[58]⟩:ByteArray))++d)++(⟨#[58]⟩:ByteArray))++f)++(⟨#[32]⟩:ByteArray)).size≤140737488355328∧Xc a R g (e++(((((c++(⟨#[58]⟩:ByteArray))++d)++(⟨#[58]⟩:ByteArray))++f)++(⟨#[32]⟩:ByteArray))) (yU (b+1)))
 (R (.str e))):=by kernel_rfl
theorem DK(a:List zC)(R:xO):FD Ws Tryz.f195 [.sl .lit a] R=
 (∃n0,Xc a R n0 (⟨#[]⟩:ByteArray) 0):=by kernel_rfl
theorem EE(a:List zC):wC Ws Tryz.f195 Wb [.sl .lit a]:=wJ Tryz.func195 (by kernel_rfl) Tryz.ntmps195 rfl
def Ig:wA:= {own:=[4,22],live:=[],n:=68,first:=true}
theorem AL(g:zG)(k:Int)(R:xO):FD Ig Tryz.f21 [dM g,dI k] R=
 (xK Zv [dM g,dI k] .int λq=>
 zP (!decide (q=0))
 (R (.tup [.agg [dI 0,.sl .int ([]:List Int),.sl .step ([]:List zU)],dI q]))
 (∃a:zG,∃n:Int,yH X5 [dM g,dI k] [] (.ptr 3000 0) [(3000,.cells (TL a [.sl (.list .lit) ([]:List (List zC)),dI n,.nil,.nil,.own 3001])),(3001,.mp .str .int ([]:List (ByteArray×Int)))]∧
 ∃b:Int,∃h:List Int,∃l:Bool,∃c:List (List zC),∃d:Int,∃e:List (List zC),∃m:List zU,∃f:List (ByteArray×Int),yH fy [.ptr 1000 0] [(1000,.cells [.ptr 1001 0,.slN .int ([]:List Int) true]),(1001,.cells (TL a [.sl (.list .lit) ([]:List (List zC)),dI n,.own 2000,.own 2001,.own 1002])),(2000,.row 53 (.list .lit) ([]:List (List zC))),(2001,.row 129 .step ([]:List zU)),(1002,.mp .str .int ([]:List (ByteArray×Int)))] (dI b) [(1000,.cells [.ptr 1001 0,.slN .int h l]),(1001,.cells (TL a [.sl (.list .lit) c,dI d,.own 2000,.own 2001,.own 1002])),(2000,.row 53 (.list .lit) e),(2001,.row 129 .step m),(1002,.mp .str .int f)]∧
 zP (decide (g.goal=0))
 (zP (decide (b=1))
 (R (.tup [.agg [dI b,.sl .int h,.sl .step ([]:List zU)],dI 0]))
 (∃i:List zU,∃o:Bool,yH sG [.ptr 1000 0] [(1000,.cells (TL a [.sl (.list .lit) c,dI d,.own 2000,.own 2001,.own 1001])),(2000,.row 53 (.list .lit) e),(2001,.row 129 .step m),(1001,.mp .str .int f)] (.tup [.sl .step i,dB o]) [(1000,.cells (TL a [.sl (.list .lit) c,dI d,.own 2000,.sl .step i,.own 1001])),(2000,.row 53 (.list .lit) e),(1001,.mp .str .int f)]∧
 zP (decide (b=3))
 (R (.tup [.agg [dI 3,.sl .int ([]:List Int),.sl .step ([]:List zU)],dI 0]))
 (zP (!o)
 (R (.tup [.agg [dI 3,.sl .int ([]:List Int),.sl .step ([]:List zU)],dI 0]))
 (zP l
 (R (.tup [.agg [dI 2,.sl .int ([]:List Int),.sl .step i],dI 0]))
 (R (.tup [.agg [dI 1,.sl .int h,.sl .step i],dI 0]))))))
 (∃j:List zU,∃p:Bool,yH sG [.ptr 1000 0] [(1000,.cells (TL a [.sl (.list .lit) c,dI d,.own 2000,.own 2001,.own 1001])),(2000,.row 53 (.list .lit) e),(2001,.row 129 .step m),(1001,.mp .str .int f)] (.tup [.sl .step j,dB p]) [(1000,.cells (TL a [.sl (.list .lit) c,dI d,.own 2000,.sl .step j,.own 1001])),(2000,.row 53 (.list .lit) e),(1001,.mp .str .int f)]∧
 zP (decide (b=3))
 (R (.tup [.agg [dI 3,.sl .int ([]:List Int),.sl .step ([]:List zU)],dI 0]))
 (zP (!p)
 (R (.tup [.agg [dI 3,.sl .int ([]:List Int),.sl .step ([]:List zU)],dI 0]))
 (zP l
 (R (.tup [.agg [dI 2,.sl .int ([]:List Int),.sl .step j],dI 0]))
 (R (.tup [.agg [dI 1,.sl .int h,.sl .step j],dI 0]))))))):=by kernel_rfl
theorem DL(a:zG)(b:Int):wC Ig Tryz.f21 fN [dM a,dI b]:=wJ Tryz.func21 (by kernel_rfl) Tryz.ntmps21 rfl
def OU:wA:= {own:=[],live:=[],n:=54,first:=true}
theorem EF(a:zG)(b:List Int)(R:xO):FD OU Tryz.f68 [dM a,.sl .int b] R=
 (xK kB [dM a] .int λc=>
 zP (!decide (c=0))
 (R (.tup [.sl .lit ([]:List zC),dI c]))
 (zP (!decide ((b.length:Int)=(a.vars.length:Int)))
 (R (.tup [.sl .lit ([]:List zC),dI 1]))
 (zP (!decide (a.goal=0))
 (vW a.var b.length=true∧vW a.var a.vars.length=true∧zP (decide ((yO .int b a.var.toNat)<((yO .var a.vars a.var.toNat).lo)))
 (R (.tup [.sl .lit ([]:List zC),dI 3]))
 (vW a.var b.length=true∧vW a.var a.vars.length=true∧zP (decide (((yO .var a.vars a.var.toNat).hi)<(yO .int b a.var.toNat)))
 (R (.tup [.sl .lit ([]:List zC),dI 3]))
 (xK aS [dM a,.sl .int b] (.list .lit) λd=>
 R (.tup [.sl .lit d,dI 0]))))
 (xK aS [dM a,.sl .int b] (.list .lit) λe=>
 R (.tup [.sl .lit e,dI 0]))))):=by kernel_rfl
theorem Hw(a:zG)(b:List Int):wC OU Tryz.f68 gQ [dM a,.sl .int b]:=wJ Tryz.func68 (by kernel_rfl) Tryz.ntmps68 rfl
def Z8:wA:= {own:=[],live:=[(0,([0],[1000,1001,1002,2000,2001]))],n:=51,first:=true}
def iX(R:pR)(a:Nat)(b:List Int)(c:Bool)(d:List zN)(e:List zE)(f g:Int)(h:List (List zC))(i:Int)(j:List (ByteArray×Int))(k:List (List zC))(l:List zU):Prop:=LP Z8 Tryz.f72 [1,0,0] 0 a ⟨[(0,.ptr 1000 0)],[(1000,.cells [.ptr 1001 0,.slN .int b c]),(1001,.cells [.sl .var d,.sl .con e,dI f,dI g,.sl (.list .lit) h,dI i,.own 2000,.own 2001,.own 1002]),(1002,.mp .str .int j),(2000,.row 53 (.list .lit) k),(2001,.row 129 .step l)]⟩ (zQ 0 (eH Tryz.f72 [.ptr 1000 0] false R))
theorem RG(R:pR)(n:Nat)(l:List Int)(m:Bool)(b:List zN)(c:List zE)(a d:Int)(e:List (List zC))(o:Int)(p:List (ByteArray×Int))(q:List (List zC))(r:List zU):iX R (n+1) l m b c a d e o p q r=
 (∃g:Int,∃h:List (List zC),∃i:List zU,∃j:List (ByteArray×Int),∃k:List Int,∃f:Int,yH lD [.ptr 1000 0] [(1000,.cells [.sl .var b,.sl .con c,dI a,dI d,.sl (.list .lit) e,dI o,.own 2000,.own 2001,.own 1001]),(2000,.row 53 (.list .lit) q),(2001,.row 129 .step r),(1001,.mp .str .int p)] (.tup [.sl .int k,dI f]) [(1000,.cells [.sl .var b,.sl .con c,dI a,dI d,.sl (.list .lit) e,dI g,.own 2000,.own 2001,.own 1001]),(2000,.row 53 (.list .lit) h),(2001,.row 129 .step i),(1001,.mp .str .int j)]∧
 zP (decide (f=3))
 (R (dI f) [(1000,.cells [.ptr 1001 0,.slN .int l m]),(1001,.cells [.sl .var b,.sl .con c,dI a,dI d,.sl (.list .lit) e,dI g,.own 2000,.own 2001,.own 1002]),(2000,.row 53 (.list .lit) h),(2001,.row 129 .step i),(1002,.mp .str .int j)])
 (zP (decide (f=2))
 (R (dI f) [(1000,.cells [.ptr 1001 0,.slN .int l m]),(1001,.cells [.sl .var b,.sl .con c,dI a,dI d,.sl (.list .lit) e,dI g,.own 2000,.own 2001,.own 1002]),(2000,.row 53 (.list .lit) h),(2001,.row 129 .step i),(1002,.mp .str .int j)])
 (k≠[]∧zP (decide (a=0))
 (R (dI f) [(1000,.cells [.ptr 1001 0,.slN .int k false]),(1001,.cells [.sl .var b,.sl .con c,dI a,dI d,.sl (.list .lit) e,dI g,.own 2000,.own 2001,.own 1002]),(2000,.row 53 (.list .lit) h),(2001,.row 129 .step i),(1002,.mp .str .int j)])
 (xK aS [.agg [.sl .var b,.sl .con c,dI a,dI d],.sl .int k] (.list .lit) λs=>
 iX R n k false b c a d ([s]) g j h i)))):=by kernel_rfl
theorem Mf(a:List zN)(b:List zE)(c d:Int)(e:List (List zC))(f:Int)(g:List (List zC))(h:List zU)(i:List (ByteArray×Int))(j:List Int)(k:Bool)(R:pR):FH Z8 Tryz.f72 [.ptr 1000 0] [(1000,.cells [.ptr 1001 0,.slN .int j k]),(1001,.cells [.sl .var a,.sl .con b,dI c,dI d,.sl (.list .lit) e,dI f,.own 2000,.own 2001,.own 1002]),(2000,.row 53 (.list .lit) g),(2001,.row 129 .step h),(1002,.mp .str .int i)] [.ptr 1000 0] false R=
 (∃n0,iX R n0 j k a b c d e f i g h):=by kernel_rfl
theorem Oy(a:List zN)(b:List zE)(c d:Int)(e:List (List zC))(f:Int)(g:List (List zC))(h:List zU)(i:List (ByteArray×Int))(j:List Int)(k:Bool):oH Z8 Tryz.f72 fy [.ptr 1000 0] [(1000,.cells [.ptr 1001 0,.slN .int j k]),(1001,.cells [.sl .var a,.sl .con b,dI c,dI d,.sl (.list .lit) e,dI f,.own 2000,.own 2001,.own 1002]),(2000,.row 53 (.list .lit) g),(2001,.row 129 .step h),(1002,.mp .str .int i)] [.ptr 1000 0] false:=oT Tryz.func72 (by kernel_rfl) Tryz.ntmps72 rfl
def Ih:wA:= {own:=[],live:=[],n:=31,first:=true}
theorem AM(a:zG)(b:List Int)(R:xO):FD Ih Tryz.f117 [dM a,.sl .int b] R=
 (zP (decide (a.goal=1))
 (vW a.var b.length=true∧R (.sl .lit ([(⟨a.var,1,yU ((yO .int b a.var.toNat)-1)⟩:zC)])))
 (zP (decide (a.goal=2))
 (vW a.var b.length=true∧R (.sl .lit ([(⟨a.var,2,yU ((yO .int b a.var.toNat)+1)⟩:zC)])))
 (R (.sl .lit ([]:List zC))))):=by kernel_rfl
theorem DM(a:zG)(b:List Int):wC Ih Tryz.f117 aS [dM a,.sl .int b]:=wJ Tryz.func117 (by kernel_rfl) Tryz.ntmps117 rfl
abbrev hpS(m:zG)(g l:List (List zC))(fuel:Int)(p:qN):List (Nat×yD):=[(1000,.cells [.sl .var m.vars,.sl .con m.cons,dI m.goal,dI m.var,.sl (.list .lit) g,dI fuel,.own 2000,.own 2001,.own 1001]),(2000,.row 53 (.list .lit) l),(2001,.row 129 .step p.1),(1001,.mp .str .int p.2)]
def zic(x:zC):Prop:=yJ x.var∧yJ x.op∧yJ x.n
theorem zjG{nv:Nat}{x:zC}(hn:nv≤6)(h:eN nv x=0):zic x:=by
 obtain⟨h1,h2,h3⟩:=nT.1 h;exact⟨by unfold yJ;omega,by unfold yJ;omega,by unfold yJ;omega⟩
theorem zgg(c:List zC)(x:zC):UF (c++[x])=UF c++AJ x:=by rw[UF,List.foldl_append];rfl
theorem zgh:∀ {c:List zC},(∀x∈c,zic x)→(UF c).size≤c.length*66:=fun {c}=>by
 suffices H:∀(c:List zC) (o:ByteArray),(∀x∈c,zic x)→(c.foldl (λo x=>o++AJ x) o).size≤o.size+c.length*66 from λh=>by
  have:=H c ⟨#[]⟩ h;rw[UF];have e:(⟨#[]⟩:ByteArray).size=0:=rfl;omega
 intro c
 induction c with
 |nil=>exact λo _=>by simp
 |cons x c ih=>
  intro o h;have h1:=ih (o++AJ x) λy hy=>h y (List.mem_cons_of_mem _ hy)
  obtain⟨a,b,d⟩:=h x (List.mem_cons_self ..);have h2:=zgf a b d;rw[ByteArray.size_append]at h1
  rw[List.foldl_cons,List.length_cons];omega
theorem DN{c:List zC}(hl:c.length≤1000000)(hr:∀x∈c,zic x):tU Wb [.sl .lit c] (.str (UF c)):=
 EE c λok=>by
  rw[DK];refine up (I:=λn v a=>Xc c _ n a v) 0 c.length rfl (Nat.zero_le _) (by omega) (λk a=>a=UF (c.take k)) rfl λn k a _ hk ha hn=> ?_
  subst ha;rw[Jz]
  by_cases h:k<c.length
  ·rw[yC h,zY (t:=.lit) h]
   obtain⟨h1,h2,h3⟩:=hr _ (List.getElem_mem h);have s1:=mB h1;have s2:=mB h2;have s3:=mB h3;have s0:=zgh (c:=c.take k) λx hx=>hr x (List.mem_of_mem_take hx)
   rw[List.length_take]at s0
   have z58:(⟨#[58]⟩:ByteArray).size=1:=rfl;have z32:(⟨#[32]⟩:ByteArray).size=1:=rfl;refine⟨zM h,zH (t:=.str) (Pw h1) ⟨by omega,zH (t:=.str) (Pw h2) ⟨?_,?_,zH (t:=.str) (Pw h3) ⟨?_,?_,?_,?_⟩⟩⟩⟩
   ·rw[ByteArray.size_append];omega
   ·simp only[ByteArray.size_append];omega
   ·simp only[ByteArray.size_append];omega
   ·simp only[ByteArray.size_append];omega
   ·simp only[ByteArray.size_append];omega
   ·refine hn h _ ?_
    rw[←List.take_append_getElem h,zgg];rfl
  ·have hk':k=c.length:=by omega
   subst hk';rw[zX,List.take_length]
theorem EG(s:List (List Int)):tU YQ [dS s] (dI (Tu s)):=
 Hv s λok=>by
  rw[ED];refine E1 (t:=.list .int) (p:=λr:List Int=>decide (1<r.length)) (R:=λd=>d=dI (Tu s)) (cM (t:=.list .int) (L5 ok)) rfl (λn k h h1 h2=> ?_) λn hR=> ?_
  ·rw[Uk,yC h,zY (t:=.list .int) h]
   refine⟨zM h,zA (λe=>h1 ?_) λe=>h2 ?_⟩
   ·have e:(1:Int)<(s[k].length:Int):=of_decide_eq_true e
    exact decide_eq_true (by omega)
   ·have e:¬(1:Int)<(s[k].length:Int):=of_decide_eq_false e
    exact decide_eq_false (by omega)
  ·rw[Uk,zX];exact hR
theorem UK{m:zG}{g l:List (List zC)}{fuel:Int}{p:qN}(hg:g.length≤1000000)(hl:l.length≤1000000):yH rM [.ptr 1000 0] (hpS m g l fuel p) (.sl (.list .lit) (g++l)) (hpS m g l fuel p):=
 TC m.vars m.cons m.goal m.var g fuel l p.1 p.2 λok ok2=>by
  rw[SD];simp only[B1,B2,and_self,-eq_self];refine⟨xY (t:=.list .lit) ?_,xY (t:=.list .lit) ?_,rfl,rfl⟩
  ·show(0+g.length)*24≤_;omega
  ·rw[List.nil_append];show(g.length+l.length)*24≤_;omega
theorem Hx{m:zG}{g l:List (List zC)}{fuel:Int}{p:qN}:yH sG [.ptr 1000 0] (hpS m g l fuel p) (.tup [.sl .step p.1,dB (decide ((p.1.length:Int)≤6000))]) [(1000,.cells [.sl .var m.vars,.sl .con m.cons,dI m.goal,dI m.var,.sl (.list .lit) g,dI fuel,.own 2000,.sl .step p.1,.own 1001]),(2000,.row 53 (.list .lit) l),(1001,.mp .str .int p.2)]:=
 VJ m.vars m.cons m.goal m.var g fuel l p.1 p.2 λok ok2=>by
  rw[UH];exact⟨rfl,rfl⟩
theorem DO(m:zG)(fuel:Int):yH X5 [dM m,dI fuel] [] (.ptr 3000 0) [(3000,.cells [.sl .var m.vars,.sl .con m.cons,dI m.goal,dI m.var,.sl (.list .lit) [],dI fuel,.nil,.nil,.own 3001]),(3001,.mp .str .int [])]:=
 EC m fuel λok ok2=>by
  rw[DJ];exact⟨rfl,rfl⟩
theorem C5{p:qN}{st:zU}:(note1 p st).1.length≤p.1.length+1∧(note1 p st).2.length≤p.2.length+1:=by
 unfold note1;split
 ·refine⟨by simp,?_⟩
  show(rD .str .int (UF st.clause) 1 p.2).length≤_
  generalize p.2=es
  induction es with
  |nil=>exact Nat.le_refl _
  |cons e es ih=>
   obtain⟨a,b⟩:=e;show(bif O8 .str (UF st.clause) a then(a,(1:Int))::es else(a,b)::rD .str .int (UF st.clause) 1 es).length≤_
   cases O8 .str (UF st.clause) a
   ·rw[cond_false,List.length_cons,List.length_cons];omega
   ·rw[cond_true,List.length_cons,List.length_cons];omega
 ·omega
theorem JA:∀(t:List zU) (p:qN),(pX t p).1.length≤p.1.length+t.length∧(pX t p).2.length≤p.2.length+t.length
 |[],p=>⟨Nat.le_refl _,Nat.le_refl _⟩
 |st::t,p=>by
  have h1:=C5 (p:=p) (st:=st);have h2:=JA t (note1 p st);show(pX t (note1 p st)).1.length≤_∧(pX t (note1 p st)).2.length≤_
  rw[List.length_cons];omega
theorem EH{m:zG}{g l:List (List zC)}{fuel:Int}{p:qN}{t:List zU}(h1:p.1.length≤1000000)(h2:p.2.length≤1000000)(ht:t.length≤1000000)(hc:∀st∈t,st.clause.length≤1000000∧∀x∈st.clause,zic x):
  yH nD [.ptr 1000 0,.sl .step t] (hpS m g l fuel p) (.tup []) (hpS m g l fuel (pX t p)):=
 UJ m.vars m.cons m.goal m.var g fuel l p.1 p.2 t λok ok2=>by
  rw[TD];refine up (I:=λn v (a:qN)=>sJ t _ n v m.vars m.cons m.goal m.var g fuel a.2 l a.1) (a:=p) 0 t.length rfl (Nat.zero_le _) (by omega) (λk a=>a=pX (t.take k) p) rfl λn k a _ hk ha hn=> ?_
  subst ha;show sJ t _ _ _ _ _ _ _ _ _ (pX (t.take k) p).2 _ (pX (t.take k) p).1
  rw[Vq]
  by_cases h:k<t.length
  ·rw[yC h,zY (t:=.step) h]
   obtain⟨c1,c2⟩:=hc _ (List.getElem_mem h)
   have hs:pX (t.take (k+1)) p=note1 (pX (t.take k) p) t[k]:=by
    rw[←List.take_append_getElem h];exact List.foldl_append ..
   obtain⟨n1,n2⟩:=JA (t.take k) p;rw[List.length_take]at n1 n2
   refine⟨zM h,zH (t:=.str) (DN c1 c2) (zA (λe=> ?_) λe=> ?_)⟩
   ·have e:Ox t[k].clause (pX (t.take k) p).2=0:=of_decide_eq_true e
    refine⟨decide_eq_true (by omega),xY (t:=.step) (by show((pX (t.take k) p).1.length+1)*40≤_;omega),hn h (_,_) ?_⟩
    rw[hs,note1,if_pos e]
   ·have e:¬Ox t[k].clause (pX (t.take k) p).2=0:=of_decide_eq_false e
    refine hn h _ ?_;rw[hs,note1,if_neg e]
  ·have hk':k=t.length:=by omega
   subst hk';rw[zX,List.take_length];exact⟨rfl,rfl⟩
theorem zgi{s:List (List Int)}{k:Nat}(h:k<s.length):gO (s.take (k+1))=gO (s.take k)++[s[k].getD 0 0]:=by
 rw[gO,←List.take_append_getElem h,List.map_append];rfl
theorem zid(s:List (List Int))(v n:Int)(x:zC)(hx:x.n=n):tU tY [dS s,.clo ot none [.iptr [dI v] 0,.iptr (cells .lit x) 0]] (dS (Tv s v n)):=
 bF (f:=λw k=> !decide ((w:Int)=v)||decide (k=n)) W1 λw hw k hk=>Vt w k v x λok=>by
  rw[VK];refine zA (λe=> ?_) λe=> ?_
  ·rw[e];rfl
  ·rw[e,Bool.false_or,hx]
theorem EI{m:zG}{g l:List (List zC)}{fuel:Int}{p:qN}(hmc:yR m (g++l))(hg:g.length≤1000000)(hl:l.length≤1000000):
  yH nC [.ptr 1000 0] (hpS m g l fuel p) (.tup [.slN .lit (nP m (g++l)).1 (nP m (g++l)).2.1,.sl .int (nP m (g++l)).2.2]) (hpS m g l fuel p):=
 UI m.vars m.cons m.goal m.var g fuel l p.1 p.2 λok ok2=>by
  rw[TB];have hr:=hmc.right;have hv:=hr.vars;refine⟨_,UK hg hl,zH (HZ hr) (zH (Vh hmc (Xx hr Xz) (by rw[List.length_append];omega)) ?_)⟩
  generalize hL:g++l=L at hmc⊢
  suffices H:∀(k:Nat) (d:List zC),Ht m L d→m.vars.length+1≤k+d.length→∀r,r=Tw m L k (uE m L d) d→
    oQ p.2 (λd h1=>d=.tup [.slN .lit r.1 r.2.1,.sl .int r.2.2]∧h1=hpS m g l fuel p) L k (uE m L d) d m.vars m.cons m.goal m.var g fuel l p.1 from⟨_,H (m.vars.length+1) [] .nil (by simp) _ rfl⟩
  intro k
  induction k with
  |zero=>exact λd hc hk=>absurd hc.len (by omega)
  |succ k ih=>
   intro d hc hk r hr';rw[Vp];simp only[B1,B2,and_self,-eq_self];rw[Tw]at hr'
   have hlen:(uE m L d).length=m.vars.length:=Tx hmc;refine zH (vD _) (zA (λe=> ?_) λe=> ?_)
   ·have hf:zT (uE m L d)=false:=by simpa using e
    rw[if_neg (by rw[hf];decide)]at hr'
    refine zH (EG _) ?_;rcases CV (uE m L d)with⟨eo,h1⟩|⟨v,eo,hv',h1,h2⟩
    ·rw[if_pos (by omega)]at hr'
     rw[decide_eq_true (show Tu (uE m L d)<0 by omega),hr']
     have hne:=sT.1 hf;refine up (I:=λn v a=>oP p.2 _ k (uE m L d) m.vars m.cons m.goal m.var g fuel n v a l p.1) (a:=[]) 0 (uE m L d).length rfl (Nat.zero_le _) (by omega) (λk a=>a=gO ((uE m L d).take k)) rfl λn j a _ hj ha hn=> ?_
     subst ha;rw[Vo]
     by_cases h:j<(uE m L d).length
     ·have hrow:0<(uE m L d)[j].length:=List.length_pos_iff.2 (by have:=hne j h;rwa[yE _ h]at this)
      rw[yC h,zY (t:=.list .int) h];refine⟨zM h,zM (k:=0) hrow,xY (t:=.int) ?_,hn h _ ?_⟩
      ·rw[gO,List.length_map,List.length_take];show(_+1)*8≤_;omega
      ·rw[zgi h];rfl
     ·have hj':j=(uE m L d).length:=by omega
      subst hj';rw[zX,List.take_length];exact⟨rfl,rfl⟩
    ·rw[if_neg (by omega),eo,Int.toNat_natCast,LU hmc hf]at hr'
     rw[eo,decide_eq_false (show¬(v:Int)<0 by omega)]
     have hvn:v<m.vars.length:=by omega
     have hc':=hc.step hmc hf hvn eo h1 h2;have e1:yO (.list .int) (uE m L d) (v:Int).toNat=(uE m L d).getD v []:=by rw[zY hv',yE _ hv']
     have e2:yO .int ((uE m L d).getD v []) 0=((uE m L d).getD v []).getD 0 0:=rfl;rw[e1,e2];refine⟨zM hv',zM (k:=0) (by omega),xY (t:=.lit) ?_,zH (zid _ _ _ ⟨v,3,((uE m L d).getD v []).getD 0 0⟩ rfl) (zH (Vh hmc ?_ (by rw[←hL,List.length_append];omega)) ?_)⟩
     ·have:=hc.len
      show(d.length+1)*24≤_;omega
     ·exact Xx hr (Pz Xz (Vd.trans (YG hmc)))
     ·rw[LU hmc hf]
      exact ih _ hc' (by rw[List.length_append,List.length_singleton];omega) r hr'
   ·have hf:zT (uE m L d)=true:=by simpa using e
    rw[if_pos hf]at hr'
    rw[hr'];exact⟨rfl,rfl⟩
structure Fit (m:zG)(g l:List (List zC))(k:Nat)(p:qN):Prop where
 sea:C2 m g l p
 fuel:l.length+k≤300
 steps:p.1.length≤6000
 met:p.2.length≤p.1.length
theorem zgj{p:qN}{st:zU}(h:p.2.length≤p.1.length):(note1 p st).2.length≤(note1 p st).1.length:=by
 have h1:=(C5 (p:=p) (st:=st)).2
 by_cases e:Ox st.clause p.2=0
 ·have h2:(note1 p st).1.length=p.1.length+1:=by rw[note1,if_pos e];simp
  omega
 ·rw[note1,if_neg e];exact h
theorem JB:∀(t:List zU) (p:qN),p.2.length≤p.1.length→(pX t p).2.length≤(pX t p).1.length
 |[],p,h=>h
 |st::t,p,h=>JB t (note1 p st) (zgj h)
theorem AN{m:zG}{g l:List (List zC)}{k:Nat}{p:qN}(h:Fit m g l k p):
  yH lD [.ptr 1000 0] (hpS m g l (k:Int) p) (.tup [.sl .int (Vn m k g l p).vals,dI (Vn m k g l p).verdict]) (hpS m g (Vn m k g l p).learned ((Vn m k g l p).fuel:Int) (Vn m k g l p).note):=
 SC m.vars m.cons m.goal m.var g (k:Int) l p.1 p.2 λok ok2=>by
  rw[RF]
  suffices H:∀(k:Nat) (l:List (List zC)) (p:qN),Fit m g l k p→∀r,r=Vn m k g l p→
    mR (λd h1=>d=.tup [.sl .int r.vals,dI r.verdict]∧h1=hpS m g r.learned (r.fuel:Int) r.note) (k+1) m.vars m.cons m.goal m.var g (k:Int) p.2 l p.1 from⟨_,H k l p h _ rfl⟩
  intro k
  induction k with
  |zero=>
   intro l p h r hr;rw[bL,hr];exact⟨rfl,rfl⟩
  |succ k ih=>
   intro l p h r hr;have hs:=h.sea;have hf:=h.fuel;have hp:=h.steps;have hm2:=h.met;have hgl:=hs.glen;have hmc:=hs.mc;have hw:yU (((k+1:Nat):Int)-1)=(k:Int):=by rw[wL (by omega) (by omega)];omega
   rw[bL,hw];simp only[B1,B2,and_self,-eq_self];rw[Vn]at hr
   rw[decide_eq_false (show¬((k+1:Nat):Int)=0 by omega)]
   refine⟨_,_,_,EI hmc (by omega) (by omega),zA (λhd=> ?_) λhd=> ?_⟩
   ·rw[if_pos hd]at hr
    rw[hr];exact⟨rfl,rfl⟩
   ·rw[if_neg (by rw[hd];decide)]at hr
    obtain⟨q1,q2,q3,q4,q5⟩:=SB hs (by omega) hd
    have hkf:wM m (g++l) (jH m (g++l)):=q1.sub Sz;have hff:qM m (g++l) (jH m (g++l))=true:=LN q2;have ht:=Q6 hkf hff;have hgl2:(g++l).length≤1000000000:=by rw[List.length_append];omega
    have hdl:=q1.dl;have hfew:=Hs hmc hgl2 (show(nP m (g++l)).1.length≤1000000 by omega)
    rw[if_pos q2]at hfew
    have hnv:=hmc.right.vars;have hsz:=CS hmc.right;refine⟨_,UK (by omega) (by omega),WP (t:=.list .lit) (u:=.bool) hfew ⟨_,UK (by omega) (by omega),zH (t:=.list .step) (El hkf) ⟨_,_,EH (by omega) (by omega) (show(cH m (g++l) (jH m (g++l))).length≤1000000 by have:=ht.len;omega) (λst hst=> ?_),?_⟩⟩⟩
    ·obtain⟨c1,c2⟩:=ZT (ht.cl st hst)
     exact⟨by omega,λx hx=>zjG hnv (c2 x hx)⟩
    ·have e0:pX (cH m (g++l) (fewest m (g++l) (nP m (g++l)).1)) p=kG m (g++l) p:=rfl
     have e1:fewest m (g++l) (nP m (g++l)).1=jH m (g++l):=rfl;rw[e0,e1]
     by_cases hf0:jH m (g++l)=[]
     ·rw[if_pos hf0]at hr
      rw[hf0,decide_eq_true (show(([]:List zC).length:Int)=0 from rfl),hr]
      exact⟨rfl,rfl⟩
     ·rw[if_neg hf0]at hr
      have hl0:(jH m (g++l)).length≠0:=λe=>hf0 (List.length_eq_zero_iff.1 e)
      rw[decide_eq_false (show¬((jH m (g++l)).length:Int)=0 by omega)]
      have hfl:=hkf.dl;refine zH (t:=.list .lit) (SX (by omega) hkf.near) ⟨xY (t:=.list .lit) (by show(l.length+1)*24≤_;omega),?_⟩
      have e2:(l++[(jH m (g++l)).map fG]).length=l.length+1:=by simp
      refine zA (λe=> ?_) λe=>zA (λe'=> ?_) λe'=> ?_
      ·have e:(600:Int)<((l++[(jH m (g++l)).map fG]).length:Int):=of_decide_eq_true e
       rw[if_pos (.inl (by omega))]at hr
       rw[hr];exact⟨rfl,rfl⟩
      ·have e':(6000:Int)<((kG m (g++l) p).1.length:Int):=of_decide_eq_true e'
       rw[if_pos (.inr (by omega))]at hr
       rw[hr];exact⟨rfl,rfl⟩
      ·have e:¬(600:Int)<((l++[(jH m (g++l)).map fG]).length:Int):=of_decide_eq_false e
       have e':¬(6000:Int)<((kG m (g++l) p).1.length:Int):=of_decide_eq_false e';rw[if_neg (by omega)]at hr
       exact ih _ (kG m (g++l) p) ⟨(q5 hf0).1,by omega,by omega,JB _ _ hm2⟩ r hr
def UL(m:zG)(fuel:Int):Int:=or0 (xL m) (if fuel<0∨300<fuel then 3 else 0)
theorem Hy(m:zG)(fuel:Int):tU Zv [dM m,dI fuel] (dI (UL m fuel)):=
 Jy m fuel λok=>by
  rw[Hu];refine zH (ZN m) (zA (λe=> ?_) λe=> ?_)
  ·rw[UL,Kk (lA e)]
  ·rw[UL,RX (oF e)]
   refine zA (λf=> ?_) λf=>zA (λf'=> ?_) λf'=> ?_
   ·rw[if_pos (.inl (of_decide_eq_true f))]
   ·rw[if_pos (.inr (of_decide_eq_true f'))]
   ·have f:=of_decide_eq_false f
    have f':=of_decide_eq_false f';rw[if_neg (by omega)]
theorem Ii{m:zG}{fuel:Int}(h:UL m fuel=0):xL m=0∧0≤fuel∧fuel≤300:=by
 obtain⟨h1,h2⟩:=Tm h;refine⟨h1,?_⟩;split at h2
 ·cases h2
 ·omega
theorem zgk{m:zG}(h:xL m=0){k:Nat}(hk:k≤300):Fit m [] [] k ([],[]):=⟨.begin h,by simpa using hk,Nat.zero_le _,Nat.le_refl _⟩
theorem SE{m:zG}(hr:Right m){vs:List Int}(hl:vs.length=m.vars.length)(hb:m.goal≠0→-1000≤vs.getD m.var.toNat 0∧vs.getD m.var.toNat 0≤1000):tU aS [dM m,.sl .int vs] (.sl .lit (pM m vs)):=
 DM m vs λok=>by
  rw[AM,pM]
  have hin:m.goal≠0→vW m.var vs.length=true:=λh=>by
   obtain⟨_,a,b⟩:=Uj hr h;exact rS.2 ⟨a,by omega⟩
  refine zA (λe=> ?_) λe=>zA (λe'=> ?_) λe'=> ?_
  ·have e:m.goal=1:=of_decide_eq_true e
   have:=hb (by omega)
   rw[if_pos e];refine⟨hin (by omega),?_⟩
   show D.sl .lit [(⟨m.var,1,yU (vs.getD m.var.toNat 0-1)⟩:zC)]=_
   rw[wL (by omega) (by omega)]
  ·have e:¬m.goal=1:=of_decide_eq_false e
   have e':m.goal=2:=of_decide_eq_true e';have:=hb (by omega)
   rw[if_neg e,if_pos e'];refine⟨hin (by omega),?_⟩
   show D.sl .lit [(⟨m.var,2,yU (vs.getD m.var.toNat 0+1)⟩:zC)]=_
   rw[wL (by omega) (by omega)]
  ·rw[if_neg (of_decide_eq_false e),if_neg (of_decide_eq_false e')]
theorem zdL{m:zG}(hr:Right m){vs:List Int}(hv:Vx vs (wT m))(h:m.goal≠0): -1000≤vs.getD m.var.toNat 0∧vs.getD m.var.toNat 0≤1000:=by
 obtain⟨_,g2,g3⟩:=Uj hr h;have hvl:m.var.toNat<m.vars.length:=by omega
 have:=hv.2 m.var.toNat (by rw[xU];exact hvl)
 rw[bJ hvl,YF]at this
 have hb:=hr.var _ (List.getElem_mem hvl);omega
theorem ze0{m:zG}{g:List (List zC)}:∀(k:Nat) (l:List (List zC)) (p:qN),Fit m g l k p→(Vn m k g l p).verdict=1→Fit m g (Vn m k g l p).learned (Vn m k g l p).fuel (Vn m k g l p).note∧(Vn m k g l p).fuel+1≤k
 |0,l,p,h,hv=>by cases hv
 |k+1,l,p,h,hv=>by
  have hs:=h.sea;have hf:=h.fuel;rw[Vn]at hv⊢
  by_cases hd:(nP m (g++l)).2.1=true
  ·rw[if_pos hd]at hv⊢
   exact⟨⟨hs,by show l.length+k≤300;omega,h.steps,h.met⟩,Nat.le_refl _⟩
  ·rw[if_neg hd]at hv⊢
   obtain⟨_,_,_,q4,q5⟩:=SB hs (by omega) (by simpa using hd)
   by_cases hf0:jH m (g++l)=[]
   ·rw[if_pos hf0]at hv;cases hv
   ·rw[if_neg hf0]at hv⊢
    by_cases hc:600<l.length+1∨6000<(kG m (g++l) p).1.length
    ·rw[if_pos hc]at hv;cases hv
    ·rw[if_neg hc]at hv⊢
     obtain⟨a,b⟩:=ze0 k _ _ ⟨(q5 hf0).1,by rw[List.length_append,List.length_singleton];omega,by omega,JB _ _ h.met⟩ hv
     exact⟨a,by omega⟩
abbrev hpB(m:zG)(g l:List (List zC))(fuel:Int)(p:qN)(b:List Int)(nl:Bool):List (Nat×yD):=[(1000,.cells [.ptr 1001 0,.slN .int b nl]),(1001,.cells [.sl .var m.vars,.sl .con m.cons,dI m.goal,dI m.var,.sl (.list .lit) g,dI fuel,.own 2000,.own 2001,.own 1002]),(2000,.row 53 (.list .lit) l),(2001,.row 129 .step p.1),(1002,.mp .str .int p.2)]
theorem zbP{m:zG}{k:Nat}(h:Fit m [] [] k ([],[])):
  yH fy [.ptr 1000 0] (hpB m [] [] (k:Int) ([],[]) [] true) (dI (rK m k).verdict) (hpB m (rK m k).given (rK m k).learned ((rK m k).fuel:Int) (rK m k).note (rK m k).best (rK m k).nl):=
 Oy m.vars m.cons m.goal m.var [] (k:Int) [] [] [] [] true λok ok2=>by
  rw[Mf]
  suffices H:∀(n k:Nat) (g l:List (List zC)) (p:qN) (b:List Int) (nl:Bool),Fit m g l k p→zdK m g b nl→k+1≤n→∀r,r=TA m n k g l p b nl→
    iX (λd h1=>d=dI r.verdict∧h1=hpB m r.given r.learned (r.fuel:Int) r.note r.best r.nl) n b nl m.vars m.cons m.goal m.var g (k:Int) p.2 l p.1 from⟨_,H (k+1) k [] [] ([],[]) [] true h .none (Nat.le_refl _) _ rfl⟩
  intro n
  induction n with
  |zero=>exact λk g l p b nl _ _ hk=>absurd hk (by omega)
  |succ n ih=>
   intro k g l p b nl h hg hk r hr;rw[RG];rw[TA]at hr
   have hmr:=h.sea.mc.right;have hx:=LY k l p h.sea h.fuel;have hfit:=ze0 k l p h;refine⟨_,_,_,_,_,_,AN h,?_⟩;generalize Vn m k g l p=q at hr hx hfit⊢
   cases hx with
   |unknown q1 q2=>
    rw[if_pos (.inl q1)]at hr
    rw[q1,hr];exact⟨by rw[q1],rfl⟩
   |none q1 q2 q3=>
    rw[if_pos (.inr q1)]at hr
    rw[q1,hr];exact⟨by rw[q1],rfl⟩
   |found q1 q2 q3 q4=>
    rw[if_neg (by rw[q1];decide)]at hr
    obtain⟨hf,hlt⟩:=hfit q1;have hpos:=h.sea.mc.pos;rw[q1];refine⟨λe=> ?_,zA (λe=> ?_) λe=> ?_⟩
    ·have:=q2.len;rw[e]at this;simp at this;omega
    ·rw[if_pos (of_decide_eq_true e)]at hr
     rw[hr,q1];exact⟨rfl,rfl⟩
    ·have h0:m.goal≠0:=of_decide_eq_false e
     rw[if_neg h0]at hr
     obtain⟨e1,e2⟩:=Ez hmr h0 hg q2;have hc:∀c∈[pM m q.vals],yP m.vars.length c=0:=λc hc=>by rw[List.mem_singleton.1 hc];exact H7 hmr h0 q2.full
     exact zH (t:=.list .lit) (SE hmr q2.len (zdL hmr q2.full)) (ih q.fuel _ _ _ _ _ ⟨q3.give hc (Nat.le_refl _) e1,q4,hf.steps,hf.met⟩ (.some _ (PE q2) h0) (by omega) r hr)
noncomputable def mC (m:zG)(fuel:Int):O5:=if UL m fuel=0 then Ew m fuel.toNat else⟨0,[],[]⟩
theorem Wt(m:zG)(fuel:Int):tU fN [dM m,dI fuel] (.tup [XH .ans (mC m fuel),dI (UL m fuel)]):=
 DL m fuel λok=>by
  rw[AL,mC];refine zH (Hy m fuel) (zA (λe=> ?_) λe=> ?_)
  ·rw[if_neg (lA e)];rfl
  ·have e:=oF e
   obtain⟨h1,h2,h3⟩:=Ii e;obtain⟨k,rfl⟩:∃k:Nat,fuel=(k:Int):=⟨fuel.toNat,by omega⟩
   rw[if_pos e,Int.toNat_natCast,e,Ew];have hrun:=zbP (zgk h1 (k:=k) (by omega))
   refine⟨m,_,DO m k,_,_,_,_,_,_,_,_,hrun,?_⟩;generalize rK m k=r
   have tail:¬(m.goal=0∧r.verdict=1)→∃p12:List zU,∃p13:Bool,yH sG [.ptr 1000 0] (hpS m r.given r.learned (r.fuel:Int) r.note) (.tup [.sl .step p12,dB p13]) [(1000,.cells [.sl .var m.vars,.sl .con m.cons,dI m.goal,dI m.var,.sl (.list .lit) r.given,dI (r.fuel:Int),.own 2000,.sl .step p12,.own 1001]),(2000,.row 53 (.list .lit) r.learned),(1001,.mp .str .int r.note.2)]∧
     zP (decide (r.verdict=3)) (D.tup [.agg [dI 3,.sl .int ([]:List Int),.sl .step ([]:List zU)],dI 0]=.tup [XH .ans (if m.goal=0∧r.verdict=1 then⟨1,r.best,[]⟩else if r.verdict=3∨6000<r.note.1.length then⟨3,[],[]⟩else if r.nl=true then⟨2,[],r.note.1⟩else⟨1,r.best,r.note.1⟩),dI 0])
      (zP (!p13) (D.tup [.agg [dI 3,.sl .int ([]:List Int),.sl .step ([]:List zU)],dI 0]=.tup [XH .ans (if m.goal=0∧r.verdict=1 then⟨1,r.best,[]⟩else if r.verdict=3∨6000<r.note.1.length then⟨3,[],[]⟩else if r.nl=true then⟨2,[],r.note.1⟩else⟨1,r.best,r.note.1⟩),dI 0])
       (zP r.nl (D.tup [.agg [dI 2,.sl .int ([]:List Int),.sl .step p12],dI 0]=.tup [XH .ans (if m.goal=0∧r.verdict=1 then⟨1,r.best,[]⟩else if r.verdict=3∨6000<r.note.1.length then⟨3,[],[]⟩else if r.nl=true then⟨2,[],r.note.1⟩else⟨1,r.best,r.note.1⟩),dI 0])
        (D.tup [.agg [dI 1,.sl .int r.best,.sl .step p12],dI 0]=.tup [XH .ans (if m.goal=0∧r.verdict=1 then⟨1,r.best,[]⟩else if r.verdict=3∨6000<r.note.1.length then⟨3,[],[]⟩else if r.nl=true then⟨2,[],r.note.1⟩else⟨1,r.best,r.note.1⟩),dI 0]))):=λhn=>by
    refine⟨_,_,Hx (p:=r.note),?_⟩;rw[if_neg hn];refine zA (λf=> ?_) λf=>zA (λq=> ?_) λq=>zA (λb=> ?_) λb=> ?_
    ·rw[if_pos (.inl (of_decide_eq_true f))];rfl
    ·have q:¬(r.note.1.length:Int)≤6000:=by simpa using q
     rw[if_pos (.inr (by omega))];rfl
    ·have f:=of_decide_eq_false f
     have q:(r.note.1.length:Int)≤6000:=by simpa using q
     rw[if_neg (by omega),if_pos b];rfl
    ·have f:=of_decide_eq_false f
     have q:(r.note.1.length:Int)≤6000:=by simpa using q
     rw[if_neg (by omega),if_neg (by rw[b];decide)];rfl
   refine zA (λf=>zA (λq=> ?_) λq=> ?_) λf=> ?_
   ·have f:m.goal=0:=of_decide_eq_true f
    have q:r.verdict=1:=of_decide_eq_true q;rw[if_pos ⟨f,q⟩,q];rfl
   ·exact tail λh=>(of_decide_eq_false q) h.2
   ·exact tail λh=>(of_decide_eq_false f) h.1
def Xd(m:zG)(vs:List Int):Int:=or0 (xL m) (if vs.length≠m.vars.length then 1 else if m.goal≠0∧(vs.getD m.var.toNat 0<(m.vars.getD m.var.toNat Ty.var.dflt).lo∨(m.vars.getD m.var.toNat Ty.var.dflt).hi<vs.getD m.var.toNat 0)then 3 else 0)
def H8(m:zG)(vs:List Int):List zC:=if Xd m vs=0 then pM m vs else[]
theorem Q9(m:zG)(vs:List Int):tU gQ [dM m,.sl .int vs] (.tup [.sl .lit (H8 m vs),dI (Xd m vs)]):=
 Hw m vs λok=>by
  rw[EF,H8];refine zH (ZN m) (zA (λe=> ?_) λe=> ?_)
  ·have e:=lA e
   have h:Xd m vs=xL m:=Kk e;rw[h,if_neg e]
  ·have e:=oF e
   have hr:=lO e;have h:Xd m vs=_:=RX e;refine zA (λf=> ?_) λf=> ?_
   ·have f:¬(vs.length:Int)=(m.vars.length:Int):=by simpa using f
    have h:Xd m vs=1:=h.trans (if_pos (by omega))
    rw[h,if_neg (by decide)]
   ·have f:(vs.length:Int)=(m.vars.length:Int):=by simpa using f
    have f:vs.length=m.vars.length:=by omega
    rw[if_neg (not_not_intro f)]at h
    refine zA (λg=> ?_) λg=> ?_
    ·have g0:m.goal≠0:=lA g
     obtain⟨_,g2,g3⟩:=Uj hr g0;have i1:vW m.var vs.length=true:=rS.2 ⟨g2,by omega⟩
     have i2:vW m.var m.vars.length=true:=rS.2 ⟨g2,g3⟩;refine⟨i1,i2,zA (λq=> ?_) λq=>⟨i1,i2,zA (λq'=> ?_) λq'=> ?_⟩⟩
     ·rw[if_pos ⟨g0,.inl (of_decide_eq_true q)⟩]at h
      rw[h,if_neg (by decide)]
     ·rw[if_pos ⟨g0,.inr (of_decide_eq_true q')⟩]at h
      rw[h,if_neg (by decide)]
     ·have q:=of_decide_eq_false q
      have q':=of_decide_eq_false q';rw[if_neg λx=>x.2.elim q q']at h
      rw[h,if_pos rfl];refine zH (t:=.list .lit) (SE hr f λ_=> ?_) rfl
      have hvl:m.var.toNat<m.vars.length:=by omega
      have hb:=hr.var _ (List.getElem_mem hvl);have e1:yO .var m.vars m.var.toNat=m.vars[m.var.toNat]:=atN hvl;have q2:¬(vs.getD m.var.toNat 0:Int)<m.vars[m.var.toNat].lo:=λx=>q (by rw[e1];exact x)
      have q3:¬(m.vars[m.var.toNat].hi:Int)<vs.getD m.var.toNat 0:=λx=>q' (by rw[e1];exact x)
      omega
    ·have g0:=oF g
     rw[if_neg λx=>x.1 g0]at h
     rw[h,if_pos rfl];exact zH (t:=.list .lit) (SE hr f λx=>absurd g0 x) rfl
theorem zie:qC vT true [] (wT vT)=[[0,1],[1,2]]:=zdr (cons:=true) zds xU 1 (by kernel_rfl) (by kernel_rfl) (by kernel_rfl)
theorem zif:qC vT true [] (Tv [[0,1],[1,2]] 0 0)=[[0],[1,2]]:=zdr (cons:=true) zds (by kernel_rfl) 1 (by kernel_rfl) (by kernel_rfl) (by kernel_rfl)
theorem zig:qC vT true [] (Tv [[0],[1,2]] 1 1)=[[0],[1]]:=zdr (cons:=true) zds (by kernel_rfl) 1 (by kernel_rfl) (by kernel_rfl) (by kernel_rfl)
theorem zih:nP vT ([]++[])=([],true,[0,1]):=by
 show Tw vT [] 3 (qC vT true [] (wT vT)) []=_
 rw[zie,Tw,if_neg (by decide),if_neg (by decide)]
 show Tw vT [] 2 (qC vT true [] (Tv [[0,1],[1,2]] 0 0)) _=_
 rw[zif,Tw,if_neg (by decide),if_neg (by decide)]
 show Tw vT [] 1 (qC vT true [] (Tv [[0],[1,2]] 1 1)) _=_
 rw[zig,Tw,if_neg (by decide),if_pos (by decide)]
 rfl
theorem zkx{k:Nat}:Vn vT (k+1) [] [] ([],[])=⟨[0,1],1,k,[],([],[])⟩:=by
 rw[Vn,zih,if_pos rfl]
theorem AO:yR vT ([[⟨1,1,0⟩]]++[]):=kF (by kernel_rfl) λc hc=>by rw[List.mem_singleton.1 hc];kernel_rfl
theorem EJ:zT (qC vT true ([[⟨1,1,0⟩]]++[]) (wT vT))=true:=by
 rw[zjA (cons:=true) AO xU 2 (by kernel_rfl)]
 exact iR (by rw[xU];exact AO.pos)
theorem C6:nP vT ([[⟨1,1,0⟩]]++[])=([],false,[]):=by
 rw[nP,Tw,if_pos EJ]
theorem zii:(rK vT 20).verdict=2∧(rK vT 20).best=[0,1]∧(rK vT 20).nl=false∧(rK vT 20).note.1.length≤6000:=by
 have hf:jH vT ([[⟨1,1,0⟩]]++[])=[]:=by
  rw[jH,C6];exact Es AO EJ
 have hk:wM vT ([[⟨1,1,0⟩]]++[]) []:=⟨by kernel_rfl,by decide,λc hc=>(by rw[List.mem_singleton.1 hc];kernel_rfl),by decide,λx hx=>(by cases hx),λx hx=>(by cases hx)⟩
 have ht:=Q6 hk EJ
 have hgo:Vn vT 19 [[⟨1,1,0⟩]] [] ([],[])=⟨[],2,18,[],kG vT ([[⟨1,1,0⟩]]++[]) ([],[])⟩:=by
  rw[Vn,if_neg (by rw[C6];decide),if_pos hf]
 have hlen:(kG vT ([[⟨1,1,0⟩]]++[]) ([],[])).1.length≤6000:=by
  have h1:=(JA (cH vT ([[⟨1,1,0⟩]]++[]) (jH vT ([[⟨1,1,0⟩]]++[]))) ([],[])).1;rw[hf]at h1
  have h2:=ht.len;show(pX _ _).1.length≤_
  rw[hf];have:(([],[]):qN).1.length=0:=rfl;omega
 have e:rK vT 20=⟨2,[0,1],false,[[⟨1,1,0⟩]],18,[],kG vT ([[⟨1,1,0⟩]]++[]) ([],[])⟩:=by
  show TA vT 21 20 [] [] ([],[]) [] true=_
  rw[TA,zkx,if_neg (by decide),if_neg (by decide)]
  show TA vT 20 19 [[⟨1,1,0⟩]] [] ([],[]) [0,1] false=_
  rw[TA,hgo,if_pos (.inr rfl)]
 rw[e];exact⟨rfl,rfl,rfl,hlen⟩
theorem H9:(mC vT 20).verdict=1∧(mC vT 20).values=[0,1]∧0<(mC vT 20).proof.length:=by
 obtain⟨h1,h2,h3,h4⟩:=zii
 have e:mC vT 20=⟨1,[0,1],(rK vT 20).note.1⟩:=by
  rw[mC,if_pos (by kernel_rfl)]
  show Ew vT 20=_
  rw[Ew,if_neg (by rintro⟨h,_⟩;exact absurd h (by decide)),if_neg (by rw[h1];rintro(h|h);exact absurd h (by decide);omega),if_neg (by rw[h3];decide),h2]
 have hs:=C4 (m:=vT) (fuel:=20) (by kernel_rfl) (by decide)
 have e2:mC vT 20=Ew vT 20:=by rw[mC,if_pos (by kernel_rfl)];rfl
 rw[←e2,e]at hs
 rw[e];refine⟨rfl,rfl,?_⟩;cases hs with
 |any q0=>exact absurd q0 (by decide)
 |none q1=>exact absurd q1 (by decide)
 |unknown q1=>exact absurd q1 (by decide)
 |best q0 q1 q2 q3 q4=>
  have:=q3.right;rw[aP,Bool.and_eq_true,Zg,Bool.and_eq_true]at this
  exact of_decide_eq_true this.2.1
theorem zdM:tU gQ [dM vT,.sl .int [0,2]] (.tup [.sl .lit [⟨1,1,1⟩],dI 0]):=by
 have h:=Q9 vT [0,2]
 rwa[H8,show Xd vT [0,2]=0 by kernel_rfl,if_pos rfl,show pM vT [0,2]=[⟨1,1,1⟩] by kernel_rfl]at h
theorem SF:tU mD [] (dB true):=
 U8 λok=>by
  rw[Sg];obtain⟨h1,h2,h3⟩:=H9;refine zH (t:=.mdl) Tc (WP (t:=.list .lit) (u:=.int) zdM (zH (t:=.mdl) Tc (WP (t:=.ans) (u:=.int) (Wt vT 20) ?_)));refine dt rfl (dt (show UL vT 20=0 by kernel_rfl) (zH (t:=.bool) (Ts _ _) (dt rfl (dt h1 (zH (t:=.bool) (Rn _ _) (dt h2 ?_))))))
  rw[decide_eq_true (by omega)]
theorem AP{m:zG}{g:List (List zC)}{t:List zU}(hg:∀c∈g,yP m.vars.length c=0)(hgl:g.length≤1)(h:Md m g t)(hl:t.length≤6000):iU m g t=0:=by
 have e1:wK (λ_ (s:zU)=>yP m.vars.length s.clause) 0 t=0:=XC λ_ x hx=>h.cl x hx
 have e2:wK (λ_ (s:zU)=>bK m s) 0 t=0:=XC λ_ x hx=>by
  rw[bK,if_neg];rintro⟨h1,h2⟩;have:=h.con x hx h1;omega
 have e3:Wo m.vars.length g=0:=by
  rw[Wo,if_neg (by omega)]
  exact XC λ_ x hx=>hg x hx
 rw[iU,if_neg (by omega),e3,e1,e2];rfl
theorem L0{m:zG}{fuel:Int}(h:xL m=0)(h2:0≤fuel∧fuel≤300):UL m fuel=0:=by rw[UL,RX h,if_neg (by omega)]
theorem ze1{m:zG}{fuel:Int}(h:UL m fuel=0):xL m=0∧∃k:Nat,fuel=k∧C3 m k (mC m fuel):=by
 obtain⟨h1,h2,h3⟩:=Ii h;obtain⟨k,rfl⟩:∃k:Nat,fuel=(k:Int):=⟨fuel.toNat,by omega⟩
 refine⟨h1,k,rfl,?_⟩;rw[mC,if_pos h,Int.toNat_natCast];exact C4 h1 (by omega)
def EK(nm:ByteArray)(n:Int):ByteArray:=((nm++(⟨#[32,61,32]⟩:ByteArray))++jP n)++(⟨#[10]⟩:ByteArray)
def pP(vs:List zN)(ns:List Int)(k:Nat):List UInt8:=(List.range k).flatMap λi=>(EK (yO .var vs i).name (yO .int ns i)).data.toList
def AQ(m:zG):ByteArray:=if m.goal=0 then⟨#[102,111,117,110,100,10]⟩else⟨#[98,101,115,116,10]⟩
def JC(m:zG)(ns:List Int):ByteArray:=⟨((AQ m).data.toList++pP m.vars ns m.vars.length).toArray⟩
def PF(m:zG)(a:O5):ByteArray:=if a.verdict=1 then JC m a.values else if a.verdict=2 then⟨#[110,111,110,101,10]⟩else⟨#[117,110,107,110,111,119,110,10]⟩
abbrev zk5(buf:List UInt8):List (Nat×yD):=[(1000,.cells [.slf 1000,.own 2000]),(2000,.row 5 .byte buf)]
theorem PG{buf:List UInt8}(s:ByteArray)(h:buf.length+s.size≤140737488355328):yH vB [.ptr 1000 0,.str s] (zk5 buf) (.tup [dI (s.size:Int),.undef]) (zk5 (buf++s.data.toList)):=
 Zp _ _ λok ok2=>by
  rw[ZQ];exact⟨Ap _ _ (λT h=>zk0 T _ h),xY (t:=.byte) (by show(_+_)*1≤_;omega),rfl,rfl⟩
theorem Vu{nm:ByteArray}{n:Int}(h:nm.size≤12)(hn: -1000≤n∧n≤1000):(EK nm n).size≤37:=by
 have:=Lj hn;unfold EK;simp only[ByteArray.size_append,Du,List.size_toArray,List.length_cons,List.length_nil];omega
theorem XE{vs:List zN}{ns:List Int}{k:Nat}(h1:k<vs.length)(h2:k<ns.length):pP vs ns (k+1)=pP vs ns k++(EK vs[k].name ns[k]).data.toList:=by
 unfold pP;rw[List.range_succ,List.flatMap_append,List.flatMap_singleton,atN (t:=.var) h1,atN (t:=.int) h2]
theorem Vv{vs:List zN}{ns:List Int}(hnm:∀v∈vs,v.name.size≤12)(hb:∀n∈ns,-1000≤n∧n≤1000)(hl:ns.length=vs.length):∀k,k≤vs.length→(pP vs ns k).length≤k*37
 |0,_=>by simp[pP]
 |k+1,hk=>by
  have ih:=Vv hnm hb hl k (by omega)
  have z:=Vu (hnm _ (List.getElem_mem (by omega:k<vs.length))) (hb _ (List.getElem_mem (by omega:k<ns.length)))
  have z:(EK vs[k].name ns[k]).data.toList.length≤37:=z;rw[XE (by omega) (by omega),List.length_append];omega
section
variable {m:zG}{ns:List Int}(h:zjo m)(hl:ns.length=m.vars.length)(hb:∀n∈ns,-1000≤n∧n≤1000)
include h hl hb
theorem zdN{R:D→Prop}{hd:ByteArray}(hz:hd.size≤10)(hne:hd.data.toList≠[])(hR:R (.str ⟨(hd.data.toList++pP m.vars ns m.vars.length).toArray⟩)):∃n,gH m ns R n 0 hd.data.toList:=by
 have hv6:=h.right.vars;have hz':hd.data.toList.length≤10:=hz;refine up (I:=λn v (buf:List UInt8)=>gH m ns R n v buf) (a:=hd.data.toList) 0 m.vars.length rfl (Nat.zero_le _) (by omega) (λk buf=>buf=hd.data.toList++pP m.vars ns k) (by simp[pP]) λn k buf _ hk ha hn=> ?_
 subst ha;have hlen:=Vv h.names hb hl k hk;have hlen2:(hd.data.toList++pP m.vars ns k).length≤1000:=by rw[List.length_append];omega
 rw[NN]
 by_cases hlt:k<m.vars.length
 ·rw[yC hlt,zY (t:=.var) hlt,zY (t:=.int) (by omega:k<ns.length)]
  have z1:=h.names _ (List.getElem_mem hlt);have hb':=hb _ (List.getElem_mem (by omega:k<ns.length))
  have z2:=Lj hb';have z3:=Vu z1 hb';have hw:=PG (buf:=hd.data.toList++pP m.vars ns k) (EK m.vars[k].name ns[k]) (by omega)
  refine⟨zM hlt,zM (by omega),zH (t:=.str) (Pw (KX hb')) ⟨?_,?_,?_,_,_,hw,hn hlt _ ?_⟩⟩
  ·simp only[Du,List.size_toArray,List.length_cons,List.length_nil];omega
  ·simp only[ByteArray.size_append,Du,List.size_toArray,List.length_cons,List.length_nil];omega
  ·simp only[ByteArray.size_append,Du,List.size_toArray,List.length_cons,List.length_nil];omega
  ·rw[XE hlt (by omega),List.append_assoc]
 ·have e:k=m.vars.length:=by omega
  subst e;rw[zX];exact⟨_,Cr _ _ _ (λe=>hne (List.append_eq_nil_iff.1 e).1) (by unfold yJ;omega),hR⟩
theorem zdO{R:D→Prop}{hd:ByteArray}(hz:hd.size≤10)(hne:hd.data.toList≠[])(hR:R (.str ⟨(hd.data.toList++pP m.vars ns m.vars.length).toArray⟩)):∃n,lW m ns R n 0 hd.data.toList:=by
 have hv6:=h.right.vars;have hz':hd.data.toList.length≤10:=hz;refine up (I:=λn v (buf:List UInt8)=>lW m ns R n v buf) (a:=hd.data.toList) 0 m.vars.length rfl (Nat.zero_le _) (by omega) (λk buf=>buf=hd.data.toList++pP m.vars ns k) (by simp[pP]) λn k buf _ hk ha hn=> ?_
 subst ha;have hlen:=Vv h.names hb hl k hk;have hlen2:(hd.data.toList++pP m.vars ns k).length≤1000:=by rw[List.length_append];omega
 rw[QD]
 by_cases hlt:k<m.vars.length
 ·rw[yC hlt,zY (t:=.var) hlt,zY (t:=.int) (by omega:k<ns.length)]
  have z1:=h.names _ (List.getElem_mem hlt);have hb':=hb _ (List.getElem_mem (by omega:k<ns.length))
  have z2:=Lj hb';have z3:=Vu z1 hb';have hw:=PG (buf:=hd.data.toList++pP m.vars ns k) (EK m.vars[k].name ns[k]) (by omega)
  refine⟨zM hlt,zM (by omega),zH (t:=.str) (Pw (KX hb')) ⟨?_,?_,?_,_,_,hw,hn hlt _ ?_⟩⟩
  ·simp only[Du,List.size_toArray,List.length_cons,List.length_nil];omega
  ·simp only[ByteArray.size_append,Du,List.size_toArray,List.length_cons,List.length_nil];omega
  ·simp only[ByteArray.size_append,Du,List.size_toArray,List.length_cons,List.length_nil];omega
  ·rw[XE hlt (by omega),List.append_assoc]
 ·have e:k=m.vars.length:=by omega
  subst e;rw[zX];exact⟨_,Cr _ _ _ (λe=>hne (List.append_eq_nil_iff.1 e).1) (by unfold yJ;omega),hR⟩
theorem Hz:tU Zu [dM m,.sl .int ns] (XH .str (JC m ns)):=
 KW m ns λok=>by
  rw[IW]
  by_cases hg:m.goal=0
  ·refine dt hg ⟨_,_,PG (buf:=[]) ⟨#[102,111,117,110,100,10]⟩ (by decide),zdN h hl hb (hd:=⟨#[102,111,117,110,100,10]⟩) (by decide) (by decide) ?_⟩
   unfold JC AQ;rw[if_pos hg];rfl
  ·refine df hg ⟨_,_,PG (buf:=[]) ⟨#[98,101,115,116,10]⟩ (by decide),zdO h hl hb (hd:=⟨#[98,101,115,116,10]⟩) (by decide) (by decide) ?_⟩
   unfold JC AQ;rw[if_neg hg];rfl
end
section
variable {m:zG}{a:O5}(h:zjo m)(hl:a.values.length=m.vars.length)(hb:∀n∈a.values,-1000≤n∧n≤1000)
include h hl hb
theorem zij{R:D→Prop}{hd:ByteArray}(hz:hd.size≤10)(hR:R (.str ⟨(hd.data.toList++pP m.vars a.values m.vars.length).toArray⟩)):∃n,qI m a R n hd 0:=by
 have hv6:=h.right.vars;have hz':hd.data.toList.length≤10:=hz;refine up (I:=λn v (s:ByteArray)=>qI m a R n s v) (a:=hd) 0 a.values.length rfl (Nat.zero_le _) (by omega) (λk s=>s=⟨(hd.data.toList++pP m.vars a.values k).toArray⟩) (by simp[pP]) λn k s _ hk ha hn=> ?_
 subst ha;have hlen:=Vv h.names hb hl k (by omega)
 have hlen2:(hd.data.toList++pP m.vars a.values k).length≤1000:=by rw[List.length_append];omega
 have hba:=zeG (hd.data.toList++pP m.vars a.values k);rw[W3]
 by_cases hlt:k<a.values.length
 ·have hlt':k<m.vars.length:=by omega
  rw[yC hlt,yC hlt',zY (t:=.var) hlt',zY (t:=.int) hlt];have z1:=h.names _ (List.getElem_mem hlt');have hb':=hb _ (List.getElem_mem hlt);have z2:=Lj hb';have z3:=Vu z1 hb';refine⟨zM hlt',?_,zM hlt,zH (t:=.str) (cG (by omega)) ⟨?_,?_,?_,hn hlt _ ?_⟩⟩
  ·simp only[Du,List.size_toArray,List.length_cons,List.length_nil];omega
  ·simp only[ByteArray.size_append,Du,List.size_toArray,List.length_cons,List.length_nil];omega
  ·simp only[ByteArray.size_append,Du,List.size_toArray,List.length_cons,List.length_nil];omega
  ·have z3':((((m.vars[k].name++(⟨#[32,61,32]⟩:ByteArray))++jP a.values[k])++(⟨#[10]⟩:ByteArray))).size≤37:=z3
   omega
  ·rw[XE hlt' hlt,←List.append_assoc,Aq (hd.data.toList++pP m.vars a.values k),zeF];rfl
 ·have e:k=a.values.length:=by omega
  subst e;rw[zX,hl];exact hR
theorem zik{R:D→Prop}{hd:ByteArray}(hz:hd.size≤10)(hR:R (.str ⟨(hd.data.toList++pP m.vars a.values m.vars.length).toArray⟩)):∃n,rF m a R n hd 0:=by
 have hv6:=h.right.vars;have hz':hd.data.toList.length≤10:=hz;refine up (I:=λn v (s:ByteArray)=>rF m a R n s v) (a:=hd) 0 a.values.length rfl (Nat.zero_le _) (by omega) (λk s=>s=⟨(hd.data.toList++pP m.vars a.values k).toArray⟩) (by simp[pP]) λn k s _ hk ha hn=> ?_
 subst ha;have hlen:=Vv h.names hb hl k (by omega)
 have hlen2:(hd.data.toList++pP m.vars a.values k).length≤1000:=by rw[List.length_append];omega
 have hba:=zeG (hd.data.toList++pP m.vars a.values k);rw[XM]
 by_cases hlt:k<a.values.length
 ·have hlt':k<m.vars.length:=by omega
  rw[yC hlt,yC hlt',zY (t:=.var) hlt',zY (t:=.int) hlt];have z1:=h.names _ (List.getElem_mem hlt');have hb':=hb _ (List.getElem_mem hlt);have z2:=Lj hb';have z3:=Vu z1 hb';refine⟨zM hlt',?_,zM hlt,zH (t:=.str) (cG (by omega)) ⟨?_,?_,?_,hn hlt _ ?_⟩⟩
  ·simp only[Du,List.size_toArray,List.length_cons,List.length_nil];omega
  ·simp only[ByteArray.size_append,Du,List.size_toArray,List.length_cons,List.length_nil];omega
  ·simp only[ByteArray.size_append,Du,List.size_toArray,List.length_cons,List.length_nil];omega
  ·have z3':((((m.vars[k].name++(⟨#[32,61,32]⟩:ByteArray))++jP a.values[k])++(⟨#[10]⟩:ByteArray))).size≤37:=z3
   omega
  ·rw[XE hlt' hlt,←List.append_assoc,Aq (hd.data.toList++pP m.vars a.values k),zeF];rfl
 ·have e:k=a.values.length:=by omega
  subst e;rw[zX,hl];exact hR
end
theorem TF{m:zG}{a:O5}(h:zjo m)(hv:a.verdict=1→a.values.length=m.vars.length∧∀n∈a.values,-1000≤n∧n≤1000):tU o8 [dM m,XH .ans a] (XH .str (PF m a)):=
 Uz m a λok=>by
  rw[U9];unfold PF
  by_cases h1:a.verdict=1
  ·obtain⟨hl,hb⟩:=hv h1
   rw[if_pos h1];refine dt h1 ?_;unfold JC AQ
   by_cases hg:m.goal=0
   ·rw[if_pos hg]
    exact dt hg (zij h hl hb (hd:=⟨#[102,111,117,110,100,10]⟩) (by decide) rfl)
   ·rw[if_neg hg]
    exact df hg (zik h hl hb (hd:=⟨#[98,101,115,116,10]⟩) (by decide) rfl)
  ·rw[if_neg h1]
   refine df h1 ?_
   by_cases h2:a.verdict=2
   ·rw[if_pos h2];exact dt h2 rfl
   ·rw[if_neg h2];exact df h2 rfl
structure Pc where
 k:Nat
 w:List UInt8
 sep:List UInt8
def nw:List UInt8→Bool
 |[]=>true
 |c::_=> !isW c
def byt(ps:List Pc):List UInt8:=ps.flatMap λp=>p.w++p.sep
structure POk (p:Pc):Prop where
 sep:∀c∈p.sep,jK c=true
 ne:p.w≠[]
 tok:∀r,(p.k=3∨nw r=true)→zW (p.w++r)=(p.k,p.w.length)
 bad:vY p.k p.w.length (p.w.headD 0)=0
 kind:p.k≠0

section
variable {vs:List zN}(hn:∀v∈vs,zD v.name=true)
include hn
end
abbrev iY(l:List vL)(en goal mvar:Int)(pv:List zN)(pc:List zE)(j:Nat)(er:Int):List (Nat×yD):=
 [(1000,.cells [.sl .tok l,dI j,dI en,dI er,.own 2000,.own 2001,dI goal,dI mvar]),(2000,.row 72 .var pv),(2001,.row 74 .con pc)]
def Pr.st{α:Type}:Pr α→Nat×Int
 | .ok _ j=>(j,0)
 | .err j e=>(j,e)
def XF{α:Type}(r:Pr α)(j:Nat)(er:Int):Nat×Int:=if er=0 then r.st else(j,er)
def Yn(l:List vL)(j:Nat)(er:Int):ByteArray:=if er=0∧j<l.length then(rW l j).text else⟨#[]⟩
theorem sV{l:List vL}{s:ByteArray}(hs:s≠⟨#[]⟩){j:Nat}:(Yn l j 0=s)↔xJ l s j=true:=by
 unfold Yn xJ
 by_cases h:j<l.length
 ·rw[if_pos ⟨rfl,h⟩,decide_eq_true h,Bool.true_and,decide_eq_true_eq]
 ·rw[if_neg λx=>h x.2,decide_eq_false h,Bool.false_and]
  exact⟨λe=>absurd e.symm hs,λe=>by cases e⟩
section
variable {l:List vL}{en goal mvar:Int}{pv:List zN}{pc:List zE}
theorem Z9{j:Nat}{er:Int}(h:∀k o,zZ k (iY l en goal mvar pv pc j er)=some o→okO o):l.length*32≤140737488355328:=by
 have:=h 1000 _ rfl (.sl .tok l) (by simp)
 exact this.1
theorem xG(j:Nat)(er:Int):yH yK [.ptr 1000 0] (iY l en goal mvar pv pc j er) (dI (uX l en j)) (iY l en goal mvar pv pc j er):=
 VG _ _ _ _ _ _ _ _ λok ok2=>by
  rw[Uu,uX,NM]
  by_cases h:j<l.length
  ·rw[if_pos h]
   exact dt (by omega) ⟨zM h,rfl,rfl⟩
  ·rw[if_neg h]
   exact df (by omega) ⟨rfl,rfl⟩
theorem xV(j:Nat)(er:Int):yH yV [.ptr 1000 0] (iY l en goal mvar pv pc j er) (.str (Yn l j er)) (iY l en goal mvar pv pc j er):=
 VC _ _ _ _ _ _ _ _ λok ok2=>by
  rw[Up,Yn,NM]
  by_cases e:er=0
  ·refine Ai e ?_
   by_cases h:j<l.length
   ·rw[if_pos ⟨e,h⟩]
    exact df (by omega) ⟨zM h,rfl,rfl⟩
   ·rw[if_neg λx=>h x.2]
    exact dt (by omega) ⟨rfl,rfl⟩
  ·rw[if_neg λx=>e x.1]
   exact NB e ⟨rfl,rfl⟩
theorem xS(j:Nat)(er e:Int):yH zV [.ptr 1000 0,dI e] (iY l en goal mvar pv pc j er) (.tup []) (iY l en goal mvar pv pc j (if er=0 then e else er)):=
 WY _ _ _ _ _ _ _ _ _ λok ok2=>by
  rw[VE]
  by_cases h:er=0
  ·rw[if_pos h];exact dt h ⟨rfl,rfl⟩
  ·rw[if_neg h];exact df h ⟨rfl,rfl⟩
theorem wI{s:ByteArray}(hs:s≠⟨#[]⟩)(j:Nat)(er:Int):yH zS [.ptr 1000 0,.str s] (iY l en goal mvar pv pc j er) (.tup []) (iY l en goal mvar pv pc (XF (xD l [s] j) j er).1 (XF (xD l [s] j) j er).2):=
 VD _ _ _ _ _ _ _ _ _ λok ok2=>by
  have hl:=Z9 ok2;rw[Uq,XF,xD,xD]
  by_cases h:er=0
  ·subst h
   refine dt rfl ⟨_,xV j 0,?_⟩;rw[if_pos rfl];cases hb:xJ l s j with
   |true=>
    have hlt:=uA hb;refine dt ((sV hs).2 hb) ?_;rw[if_pos rfl,nX (by omega)]
    exact⟨rfl,rfl⟩
   |false=>
    refine df (λe=>by rw[(sV hs).1 e]at hb;cases hb) ⟨_,xS j 0 1,?_⟩
    exact⟨rfl,rfl⟩
  ·refine df h ⟨_,xS j er 1,?_⟩
   rw[if_neg h,if_neg h];exact⟨rfl,rfl⟩
end
def oE(s:ByteArray):List zN→Int→Option Int
 |[],_=>none
 |v::r,i=>if v.name=s then some i else oE s r (i+1)
section
variable {l:List vL}{en goal mvar:Int}{pv:List zN}{pc:List zE}{names:List (ByteArray×Int)}
def TG{α:Type}(l:List vL)(en goal mvar:Int)(pv:List zN)(pc:List zE)(f:FuncId)(args:List D)(d:α→D)(r:Pr α)(j:Nat)(er:Int):Prop:=
 ∃x,yH f args (iY l en goal mvar pv pc j er) (d x) (iY l en goal mvar pv pc (XF r j er).1 (XF r j er).2)∧(er=0→∀y k,r=.ok y k→x=y)
def dZ(l:List vL)(ss:List ByteArray)(j:Nat):Pr Int:=match lV l ss 0 j with
 |some o=> .ok o (j+1)
 |none=> .err j 1
theorem zil{j:Nat}{ss:List ByteArray}:∀ {i:Int} {o:Int},lV l ss i j=some o→i≤o∧o<i+ss.length:=by
 induction ss with
 |nil=>intro i o h;cases h
 |cons s r ih=>
  intro i o h;unfold lV at h
  rw[List.length_cons];split at h
  ·injection h with h;omega
  ·have:=ih h;omega
theorem Ij{ss:List ByteArray}(hne:∀s∈ss,s≠⟨#[]⟩)(hn0:0<ss.length)(j:Nat)(er:Int):∃x:Int,yH uW [.ptr 1000 0,.sl .str ss] (iY l en goal mvar pv pc j er) (dI x) (iY l en goal mvar pv pc (XF (dZ l ss j) j er).1 (XF (dZ l ss j) j er).2)∧
  (er=0→∀y k,dZ l ss j=.ok y k→x=y)∧0≤x∧x<ss.length:=by
 refine⟨(match lV l ss 0 j with|some o=>if er=0 then o else 0|none=>0),VF _ _ _ _ _ _ _ _ _ λok ok2=> ?_,λhe y k hy=> ?_,?_⟩
 ·have hl:=Z9 ok2
  have hsl:ss.length≤9223372036854775807:=cM (t:=.str) (ok _ (by simp))
  rw[Us];refine up0 (I:=λn v=>rQ ss _ n v l (j:Int) en er goal mvar pv pc) 0 ss.length rfl (Nat.zero_le _) hsl (λk=>er=0→lV l (ss.drop k) k j=lV l ss 0 j) (λ_=>rfl) λn k _ hk ha hn=> ?_
  rw[Wf]
  by_cases h:k<ss.length
  ·rw[yC h,zY (t:=.str) h]
   by_cases he:er=0
   ·subst he
    have ha:=ha rfl;rw[List.drop_eq_getElem_cons h,lV]at ha
    refine dt rfl ⟨zM h,_,xV j 0,?_⟩;have hs:=hne _ (List.getElem_mem h);cases hb:xJ l ss[k] j with
    |true=>
     rw[hb,if_pos rfl]at ha
     have hlt:=uA hb;refine dt ((sV hs).2 hb) ?_;rw[nX (by omega),dZ,←ha]
     exact⟨rfl,rfl⟩
    |false=>
     rw[hb,if_neg (by decide)]at ha
     refine df (λe=>by rw[(sV hs).1 e]at hb;cases hb) (hn h λ_=> ?_)
     rw[←ha];rfl
   ·exact df he (hn h λe=>absurd e he)
  ·have hk':k=ss.length:=by omega
   subst hk';rw[zX];refine⟨_,xS j er 1,?_⟩
   by_cases he:er=0
   ·subst he
    have ha:=ha rfl;rw[List.drop_of_length_le (Nat.le_refl _),lV]at ha
    rw[dZ,←ha];exact⟨rfl,rfl⟩
   ·rw[if_neg he,XF,if_neg he]
    refine⟨?_,rfl⟩;cases lV l ss 0 j with
    |none=>rfl
    |some o=>simp only[if_neg he]
 ·rw[dZ]at hy
  subst he;cases hw:lV l ss 0 j with
  |some o=>rw[hw]at hy;injection hy with h1 h2
  |none=>rw[hw]at hy;cases hy
 ·cases hw:lV l ss 0 j with
  |some o=>
   have:=zil hw;simp only;split<;>omega
  |none=>simp only;omega
theorem L1:zD ⟨#[]⟩=false:=by kernel_rfl
theorem gX(hN:∀s,uH .str .int s names=oE s pv 0)(j:Nat)(er:Int):TG l en goal mvar pv pc xH [.ptr 1000 0] (λn:Int=>dI n) (vP zD names l j) j er:=by
 refine⟨(if er=0∧j<l.length∧zD (rW l j).text=true then(oE (rW l j).text pv 0).getD 0 else 0),T7 _ _ _ _ _ _ _ _ λok ok2=> ?_,λhe y k hy=> ?_⟩
 ·have hl:=Z9 ok2
  have hpv:pv.length≤9223372036854775807:=by
   have:=ok2 2000 _ rfl;exact cM (t:=.var) this
  rw[Rb];refine⟨_,xV j er,zH (t:=.bool) (oV _) ?_⟩
  by_cases hc:er=0∧j<l.length∧zD (rW l j).text=true
  ·obtain⟨rfl,h1,h2⟩:=hc
   have ht:Yn l j 0=(rW l j).text:=if_pos ⟨rfl,h1⟩;rw[ht,if_pos ⟨rfl,h1,h2⟩,XF,if_pos rfl,vP,ZP,if_pos ⟨h1,h2⟩];simp only[Pr.bind];rw[hN];refine bnf h2 ?_;generalize(rW l j).text=s;refine up0 (I:=λn v=>mG _ s n v l (j:Int) en 0 goal mvar pv pc) 0 pv.length rfl (Nat.zero_le _) hpv (λk=>oE s (pv.drop k) k=oE s pv 0) rfl λn k _ hk ha hn=> ?_
   rw[Ut]
   by_cases h:k<pv.length
   ·rw[yC h,zY (t:=.var) h]
    rw[List.drop_eq_getElem_cons h,oE]at ha
    refine⟨zM h,?_⟩
    by_cases e:pv[k].name=s
    ·rw[if_pos e]at ha
     refine dt e ?_;rw[nX (by omega),←ha]
     exact⟨rfl,rfl⟩
    ·rw[if_neg e]at ha
     exact df e (hn h (by rw[←ha];rfl))
   ·have hk':k=pv.length:=by omega
    subst hk';rw[zX];rw[List.drop_of_length_le (Nat.le_refl _),oE]at ha
    refine⟨_,xS j 0 5,?_⟩;rw[←ha];exact⟨rfl,rfl⟩
  ·rw[if_neg hc]
   have hf:zD (Yn l j er)=false:=by
    unfold Yn;split
    ·rename_i x
     cases hb:zD (rW l j).text with
     |false=>rfl
     |true=>exact absurd ⟨x.1,x.2,hb⟩ hc
    ·exact L1
   refine bnt hf ⟨_,xS j er 1,?_⟩;rw[XF]
   by_cases he:er=0
   ·rw[if_pos he,if_pos he,vP,ZP,if_neg λx=>hc ⟨he,x⟩]
    exact⟨rfl,rfl⟩
   ·rw[if_neg he,if_neg he]
    exact⟨rfl,rfl⟩
 ·subst he
  rw[vP,ZP]at hy
  by_cases hc:j<l.length∧zD (rW l j).text=true
  ·rw[if_pos hc]at hy
   simp only[Pr.bind]at hy
   rw[hN]at hy
   rw[if_pos ⟨rfl,hc⟩];cases hx:oE (rW l j).text pv 0 with
   |some n=>rw[hx]at hy;injection hy with h1 h2
   |none=>rw[hx]at hy;cases hy
  ·rw[if_neg hc]at hy;cases hy
end
def SY(l:List vL)(j:Nat)(er:Int):Bool×(Nat×Int):=if er=0 then(if xJ l ⟨#[91]⟩ j=true then(if xJ l ⟨#[93]⟩ (j+1)=true then(false,j+2,0)else(true,j+1,0))else(false,j,1))else(false,j,er)
def XZ(l:List vL)(j:Nat)(er:Int):Bool×(Nat×Int):=if er=0 then(if xJ l ⟨#[44]⟩ j=true then(true,j+1,0)else if xJ l ⟨#[93]⟩ j=true then(false,j+1,0)else(false,j,1))else(false,j,er)
section
variable {l:List vL}{en goal mvar:Int}{pv:List zN}{pc:List zE}
theorem YH{j:Nat}{er:Int}(h:er≠0):Yn l j er=⟨#[]⟩:=if_neg λx=>h x.1
theorem nJ{s:ByteArray}{j:Nat}{er:Int}:XF (xD l [s] j) j er=if er=0 then(if xJ l s j=true then(j+1,0)else(j,1))else(j,er):=by
 unfold XF
 by_cases h:er=0
 ·rw[if_pos h,if_pos h,xD,xD]
  split<;>rfl
 ·rw[if_neg h,if_neg h]
theorem nQ(j:Nat)(er:Int):yH yA [.ptr 1000 0,dB true] (iY l en goal mvar pv pc j er) (dB (SY l j er).1) (iY l en goal mvar pv pc (SY l j er).2.1 (SY l j er).2.2):=
 dQ _ _ _ _ _ _ _ _ _ λok ok2=>by
  rw[bD];refine bt rfl ⟨_,_,wI (s:=⟨#[91]⟩) (by decide) j er,?_⟩
  rw[nJ,SY]
  by_cases h:er=0
  ·rw[if_pos h,if_pos h]
   cases h1:xJ l ⟨#[91]⟩ j with
   |true=>
    rw[if_pos rfl,if_pos rfl];refine⟨_,xV (j+1) 0,?_⟩;cases h2:xJ l ⟨#[93]⟩ (j+1)with
    |true=>
     rw[if_pos rfl];refine dt ((sV (by decide)).2 h2) ⟨_,_,wI (s:=⟨#[93]⟩) (by decide) (j+1) 0,?_⟩
     rw[nJ,if_pos rfl,if_pos h2];exact⟨rfl,rfl⟩
    |false=>
     rw[if_neg (by decide)]
     exact df (λe=>by rw[(sV (by decide)).1 e]at h2;cases h2) ⟨rfl,rfl⟩
   |false=>
    rw[if_neg (by decide),if_neg (by decide)]
    refine⟨_,xV j 1,?_⟩;rw[YH (by decide)]
    exact df (by decide) ⟨rfl,rfl⟩
  ·rw[if_neg h,if_neg h]
   refine⟨_,xV j er,?_⟩;rw[YH h];refine df (by decide) ?_
   show D.bool (decide (er=0))=_∧_
   rw[decide_eq_false h];exact⟨rfl,rfl⟩
theorem sW(j:Nat)(er:Int):yH yA [.ptr 1000 0,dB false] (iY l en goal mvar pv pc j er) (dB (XZ l j er).1) (iY l en goal mvar pv pc (XZ l j er).2.1 (XZ l j er).2.2):=
 dQ _ _ _ _ _ _ _ _ _ λok ok2=>by
  rw[bD];refine bf rfl ⟨_,xV j er,?_⟩;rw[XZ]
  by_cases h:er=0
  ·subst h
   rw[if_pos rfl];cases h1:xJ l ⟨#[44]⟩ j with
   |true=>
    rw[if_pos rfl];refine dt ((sV (by decide)).2 h1) ⟨_,_,wI (s:=⟨#[44]⟩) (by decide) j 0,?_⟩
    rw[nJ,if_pos rfl,if_pos h1];exact⟨rfl,rfl⟩
   |false=>
    rw[if_neg (by decide)]
    refine df (λe=>by rw[(sV (by decide)).1 e]at h1;cases h1) ⟨_,_,wI (s:=⟨#[93]⟩) (by decide) j 0,?_⟩
    rw[nJ,if_pos rfl];cases h2:xJ l ⟨#[93]⟩ j with
    |true=>rw[if_pos rfl,if_pos rfl];exact⟨rfl,rfl⟩
    |false=>rw[if_neg (by decide),if_neg (by decide)];exact⟨rfl,rfl⟩
  ·rw[if_neg h,YH h]
   refine df (by decide) ⟨_,_,wI (s:=⟨#[93]⟩) (by decide) j er,?_⟩
   rw[nJ,if_neg h];exact⟨rfl,rfl⟩
end
def Pa{α:Type}(f:Nat→Pr α):Prop:=∀i j e,f i=.err j e→e≠0
theorem fu{isN:ByteArray→Bool}{names:List (ByteArray×Int)}{l:List vL}:Pa (vP isN names l):=λi j e h=>by
 unfold vP ZP at h
 split at h
 ·simp only[Pr.bind]at h
  split at h
  ·cases h
  ·injection h with h1 h2;subst h2;decide
 ·injection h with h1 h2;subst h2;decide
theorem nR{α:Type}{l:List vL}{f:Nat→Pr α}{j:Nat}:wH l f j=if xJ l ⟨#[91]⟩ j=true then(if xJ l ⟨#[93]⟩ (j+1)=true then .ok [] (j+2)else(f (j+1)).bind λx j=>uG l f (l.length+1) [x] j)else .err j 1:=by
 rw[wH,xD,xD]
 by_cases h:xJ l ⟨#[91]⟩ j=true
 ·rw[if_pos h,if_pos h];rfl
 ·rw[if_neg h,if_neg h];rfl
def jR{α:Type}(l:List vL)(f:Nat→Pr α)(fv:Nat→α):Nat→List α→Nat→List α
 |0,out,j=>out
 |n+1,out,j=>match f j with
  | .ok _ j1=>if xJ l ⟨#[44]⟩ j1=true then jR l f fv n (out++[fv j]) (j1+1)else out++[fv j]
  | .err _ _=>out++[fv j]
theorem Pb{α:Type}{l:List vL}{f:Nat→Pr α}{fv:Nat→α}(hf:∀i y k,f i=.ok y k→fv i=y):∀(fuel:Nat) (out:List α) (j:Nat) (ys:List α) (k:Nat),((f j).bind λx j=>uG l f fuel (out++[x]) j)=.ok ys k→jR l f fv fuel out j=ys
 |0,out,j,ys,k,h=>by
  cases hv:f j with
  |ok x i=>rw[hv]at h;cases h
  |err i e=>rw[hv]at h;cases h
 |fuel+1,out,j,ys,k,h=>by
  cases hv:f j with
  |err i e=>rw[hv]at h;cases h
  |ok x i=>
   rw[hv]at h
   have h:uG l f (fuel+1) (out++[x]) i=.ok ys k:=h;rw[uG]at h
   rw[jR,hv];simp only;rw[hf _ _ _ hv];split at h
   ·rename_i hb
    rw[if_pos hb];exact Pb hf fuel _ _ _ _ h
   ·rename_i hb
    rw[if_neg hb];rw[xD,xD]at h
    split at h
    ·injection h
    ·cases h
theorem zbQ{α:Type}{l:List vL}{f:Nat→Pr α}:∀(fuel:Nat) (a b:List α) (j:Nat),(uG l f fuel a j).st=(uG l f fuel b j).st
 |0,a,b,j=>rfl
 |fuel+1,a,b,j=>by
  rw[uG,uG];split
  ·cases f (j+1)with
   |ok x i=>exact zbQ fuel _ _ i
   |err i e=>rfl
  ·rw[xD,xD]
   split<;>rfl
theorem Ga{α:Type}{l:List vL}{f:Nat→Pr α}{fuel i:Nat}(a b:List α):((f i).bind λx j=>uG l f fuel (a++[x]) j).st=((f i).bind λx j=>uG l f fuel (b++[x]) j).st:=by
 cases f i with
 |ok x k=>exact zbQ fuel _ _ k
 |err k e=>rfl
theorem TH{α:Type}{l:List vL}{f:Nat→Pr α}{fv:Nat→α}:∀(fuel:Nat) (out:List α) (j:Nat),(jR l f fv fuel out j).length≤out.length+fuel+1
 |0,out,j=>by rw[jR];omega
 |n+1,out,j=>by
  rw[jR];split
  ·split
   ·have:=TH (l:=l) (f:=f) (fv:=fv) n (out++[fv j])
    rename_i j1 _ _;have:=this (j1+1);rw[List.length_append]at this
    simp only[List.length_cons,List.length_nil]at this
    omega
   ·rw[List.length_append];simp only[List.length_cons,List.length_nil];omega
  ·rw[List.length_append];simp only[List.length_cons,List.length_nil];omega
abbrev zgl(l:List vL)(en goal mvar:Int)(pv:List zN)(pc:List zE)(j er:Int):List (Nat×yD):=
 [(1000,.cells [.sl .tok l,dI j,dI en,dI er,.own 2000,.own 2001,dI goal,dI mvar]),(2000,.row 72 .var pv),(2001,.row 74 .con pc)]
section
variable {l:List vL}{en goal mvar:Int}{pv:List zN}{pc:List zE}{names:List (ByteArray×Int)}
theorem Ik{fv:Nat→Int}(hfv:∀i,yH xH [.ptr 1000 0] (iY l en goal mvar pv pc i 0) (dI (fv i)) (iY l en goal mvar pv pc (vP zD names l i).st.1 (vP zD names l i).st.2))(hl:l.length*32≤140737488355328){R:D→List (Nat×yD)→Prop}:∀(fuel:Nat) (out:List Int) (j:Nat),j≤l.length→l.length<j+fuel→out.length≤j→
  R (.sl .int (jR l (vP zD names l) fv fuel out j)) (iY l en goal mvar pv pc ((vP zD names l j).bind λx j=>uG l (vP zD names l) fuel (out++[x]) j).st.1 ((vP zD names l j).bind λx j=>uG l (vP zD names l) fuel (out++[x]) j).st.2)→
  ∃n,qX R n true out l (j:Int) en 0 goal mvar pv pc
 |0,out,j,h1,h2,_,_=>by omega
 |fuel+1,out,j,h1,h2,h3,hR=>by
  have hs:=hfv j;have hroom:wN .int (out.length+[fv j].length)=true:=xY (t:=.int) (by show(out.length+1)*8≤_;omega)
  cases hf:vP zD names l j with
  |err j1 e=>
   rw[hf]at hs hR
   rw[jR,hf]at hR
   have he:=fu _ _ _ hf;refine⟨2,?_⟩;rw[wR];refine bt rfl ⟨_,_,_,hs,hroom,_,_,_,sW j1 e,?_⟩;rw[XZ,if_neg he,wR];exact bf rfl hR
  |ok y j1=>
   rw[hf]at hs hR
   have ha:=Td _ _ _ hf;rw[jR,hf]at hR
   have hR:R (.sl .int (if xJ l ⟨#[44]⟩ j1=true then jR l (vP zD names l) fv fuel (out++[fv j]) (j1+1)else out++[fv j])) (iY l en goal mvar pv pc (uG l (vP zD names l) (fuel+1) (out++[y]) j1).st.1 (uG l (vP zD names l) (fuel+1) (out++[y]) j1).st.2):=hR
   rw[uG]at hR
   cases hb:xJ l ⟨#[44]⟩ j1 with
   |true=>
    have hlt:=uA hb;rw[hb,if_pos rfl,if_pos rfl]at hR
    have hst:∀(a b:List Int),(((vP zD names l (j1+1)).bind λx j=>uG l (vP zD names l) fuel (a++[x]) j)).st=(((vP zD names l (j1+1)).bind λx j=>uG l (vP zD names l) fuel (b++[x]) j)).st:=λa b=>Ga _ _
    obtain⟨n,hn⟩:=Ik hfv hl fuel (out++[fv j]) (j1+1) (by omega) (by omega) (by rw[List.length_append];show _+1≤_;omega) (by rw[hst (out++[fv j]) (out++[y])];exact hR)
    refine⟨n+1,?_⟩;rw[wR];refine bt rfl ⟨_,_,_,hs,hroom,_,_,_,sW j1 0,?_⟩;rw[XZ,if_pos rfl,if_pos hb];exact hn
   |false=>
    rw[hb,if_neg (by decide),if_neg (by decide),xD,xD]at hR
    refine⟨2,?_⟩;rw[wR];refine bt rfl ⟨_,_,_,hs,hroom,_,_,_,sW j1 0,?_⟩;rw[XZ,if_pos rfl,if_neg (by rw[hb];decide)]
    cases hc:xJ l ⟨#[93]⟩ j1 with
    |true=>
     rw[hc,if_pos rfl]at hR
     rw[if_pos rfl,wR];exact bf rfl hR
    |false=>
     rw[hc,if_neg (by decide)]at hR
     rw[if_neg (by decide),wR]
     exact bf rfl hR
theorem zdP(hN:∀s,uH .str .int s names=oE s pv 0)(j:Nat)(er:Int):∃x:List Int,(l.length*32≤140737488355328→∀(R:D→List (Nat×yD)→Prop),R (.sl .int x) (iY l en goal mvar pv pc (XF (wH l (vP zD names l) j) j er).1 (XF (wH l (vP zD names l) j) j er).2)→
  ∃(m1:Int) (m2:Int) (m3:Bool),yH yA [.ptr 1000 0,dB true] (iY l en goal mvar pv pc j er) (dB m3) (zgl l en goal mvar pv pc m1 m2)∧∃n,qX R n m3 [] l m1 en m2 goal mvar pv pc)∧
  (er=0→∀ys k,wH l (vP zD names l) j=.ok ys k→x=ys)∧x.length≤l.length+2:=by
 by_cases he:er=0
 ·subst he
  have hc:∀i,∃x,yH xH [.ptr 1000 0] (iY l en goal mvar pv pc i 0) (dI x) (iY l en goal mvar pv pc (vP zD names l i).st.1 (vP zD names l i).st.2)∧∀y k,vP zD names l i=.ok y k→x=y:=λi=>by
   obtain⟨x,h1,h2⟩:=gX (l:=l) (en:=en) (goal:=goal) (mvar:=mvar) (pv:=pv) (pc:=pc) hN i 0;rw[XF,if_pos rfl]at h1
   exact⟨x,h1,h2 rfl⟩
  obtain⟨fv,hfv⟩:=Classical.axiomOfChoice hc;refine⟨(if xJ l ⟨#[91]⟩ j=true then(if xJ l ⟨#[93]⟩ (j+1)=true then[]else jR l (vP zD names l) fv (l.length+1) [] (j+1))else[]),λhl R hR=> ?_,λ_ ys k h=> ?_,?_⟩
  ·rw[XF,if_pos rfl,nR]at hR
   refine⟨_,_,_,nQ j 0,?_⟩;rw[SY,if_pos rfl];cases h1:xJ l ⟨#[91]⟩ j with
   |false=>
    rw[h1,if_neg (by decide),if_neg (by decide)]at hR
    rw[if_neg (by decide)]
    exact⟨1,by rw[wR];exact bf rfl hR⟩
   |true=>
    have hlt:=uA h1;rw[h1,if_pos rfl,if_pos rfl]at hR
    rw[if_pos rfl];cases h2:xJ l ⟨#[93]⟩ (j+1)with
    |true=>
     rw[h2,if_pos rfl,if_pos rfl]at hR
     rw[if_pos rfl];exact⟨1,by rw[wR];exact bf rfl hR⟩
    |false=>
     rw[h2,if_neg (by decide),if_neg (by decide)]at hR
     rw[if_neg (by decide)]
     exact Ik (λi=>(hfv i).1) hl (l.length+1) [] (j+1) hlt (by omega) (Nat.zero_le _) hR
  ·rw[nR]at h
   split at h
   ·rename_i h1
    rw[if_pos h1];split at h
    ·rename_i h2
     rw[if_pos h2];injection h
    ·rename_i h2
     rw[if_neg h2];exact Pb (λi=>(hfv i).2) _ _ _ _ _ h
   ·cases h
  ·split
   ·split
    ·exact Nat.zero_le _
    ·have:=TH (l:=l) (f:=vP zD names l) (fv:=fv) (l.length+1) [] (j+1);simpa using this
   ·exact Nat.zero_le _
 ·refine⟨[],λhl R hR=> ?_,λh=>absurd h he,Nat.zero_le _⟩
  rw[XF,if_neg he]at hR
  refine⟨_,_,_,nQ j er,1,?_⟩;rw[SY,if_neg he,wR];exact bf rfl hR
theorem zdQ(hN:∀s,uH .str .int s names=oE s pv 0)(j:Nat)(er:Int):∃x:List Int,yH vJ [.ptr 1000 0] (iY l en goal mvar pv pc j er) (.sl .int x) (iY l en goal mvar pv pc (XF (wH l (vP zD names l) j) j er).1 (XF (wH l (vP zD names l) j) j er).2)∧(er=0→∀ys k,wH l (vP zD names l) j=.ok ys k→x=ys)∧x.length≤l.length+2:=by
 obtain⟨x,h1,h2,h3⟩:=zdP (l:=l) (en:=en) (goal:=goal) (mvar:=mvar) (pv:=pv) (pc:=pc) hN j er;refine⟨x,U5 _ _ _ _ _ _ _ _ λok ok2=> ?_,h2,h3⟩
 rw[Sb];exact h1 (Z9 ok2) _ ⟨rfl,rfl⟩
end
def Yo(l:List vL):Prop:=∀t∈l,(t.kind=2→0<t.text.size∧t.text.size≤4∧∀i,i<t.text.size→48≤sP t.text i∧sP t.text i≤57)∧(t.kind≠2→¬(48≤sP t.text 0∧sP t.text 0≤57))
def JD(s:ByteArray):Nat→Int
 |0=>0
 |k+1=>10*JD s k+sP s k-48
theorem L2{s:ByteArray}(h:∀i,i<s.size→48≤sP s i∧sP s i≤57):∀k,k≤s.size→0≤JD s k∧JD s k<10^k
 |0,_=>⟨Int.le_refl _,by rw[JD];decide⟩
 |k+1,hk=>by
  obtain⟨h1,h2⟩:=L2 h k (by omega)
  have h3:=h k (by omega)
  rw[JD,Int.pow_succ];generalize(10:Int)^k=p at h2
  omega
theorem zbR{s:ByteArray}(h:∀i,i<s.size→48≤sP s i∧sP s i≤57):∀k,k≤s.size→∃n:Nat,Lib.decFrom 0 (s.data.toList.take k)=some n∧JD s k=(n:Int)
 |0,_=>⟨0,rfl,rfl⟩
 |k+1,hk=>by
  obtain⟨n,h1,h2⟩:=zbR h k (by omega)
  have h3:=h k (by omega)
  have hl:k<s.data.size:=by have:s.size=s.data.size:=rfl;omega
  have hb:s.data.toList[k]? =some (s.data[k]):=by rw[Array.getElem?_toList,Array.getElem?_eq_getElem hl]
  have e:sP s k=((s.data[k]).toNat:Int):=by unfold sP;rw[Array.getD_eq_getD_getElem?,Array.getElem?_eq_getElem hl];rfl
  have hv:Lib.digitVal (s.data[k])=some ((s.data[k]).toNat-48):=by unfold Lib.digitVal;rw[if_pos (by omega)]
  refine⟨_,Lib.decFrom_take _ _ _ _ _ _ h1 hb hv,?_⟩;rw[JD,h2];omega
theorem ze2{s:ByteArray}(h0:0<s.size)(h:∀i,i<s.size→48≤sP s i∧sP s i≤57):Lib.atoi s.data.toList=some (JD s s.size):=by
 obtain⟨n,h1,h2⟩:=zbR h s.size (Nat.le_refl _);have hl:s.data.toList.length=s.size:=rfl;rw[List.take_of_length_le (by omega)]at h1
 have h3:=h 0 h0
 have e:sP s 0=((s.data.toList.headD 0).toNat:Int):=by
  unfold sP;cases hd:s.data.toList with
  |nil=>rw[hd]at hl;simp at hl;omega
  |cons c r=>
   have:s.data=(c::r).toArray:=by rw[←hd]
   rw[this];rfl
 cases hd:s.data.toList with
 |nil=>rw[hd]at hl;simp at hl;omega
 |cons c r=>
  rw[hd]at h1 e
  simp only[List.headD_cons]at e
  unfold Lib.atoi;simp only;rw[if_neg (by intro x;have:=eq_of_beq x;subst this;rw[e]at h3;simp at h3),if_neg (by intro x;have:=eq_of_beq x;subst this;rw[e]at h3;simp at h3),Lib.decNat,if_neg (by simp),h1,h2]
  rfl
theorem zim{l:List vL}(h:Yo l):Za l:=λt ht hk=>by
 obtain⟨h1,h2,h3⟩:=(h t ht).1 hk;have hb:=L2 h3 _ (Nat.le_refl _);refine⟨by omega,_,ze2 h1 h3,hb.1,?_⟩
 have h4:t.text.size=1∨t.text.size=2∨t.text.size=3∨t.text.size=4:=by omega
 rcases h4 with h4|h4|h4|h4<;>rw[h4]at hb⊢<;>have:=hb.2<;>simp at this<;>omega
theorem AR{s:ByteArray}(h0:0<s.size)(h:∀i,i<s.size→48≤sP s i∧sP s i≤57):yB s=JD s s.size:=by
 rw[yB,ze2 h0 h];rfl
theorem Pd(a:UInt8):tU pE [.int .u8 (a.toNat:Int)] (dB (kK (a.toNat:Int) 48 57)):=
 Rg a λok=>by
  rw[Qh];have:=a.toNat_lt;rw[wL (by omega) (by omega)]
  exact zH (vC _ _ _) rfl
theorem L3(s:ByteArray)(i:Nat):tU pE [.int .u8 (sP s i)] (dB (kK (sP s i) 48 57)):=Pd (s.data.getD i 0)
theorem ze3{a b:Int}(h1:0≤a)(h2:a<1000)(h3:48≤b∧b≤57):yU (yU (yU (10*a)+yU b)-48)=10*a+b-48:=by
 rw[wL (n:=10*a) (by omega) (by omega),wL (n:=b) (by omega) (by omega),wL (n:=10*a+b) (by omega) (by omega),wL (by omega) (by omega)]
theorem ze4{s:ByteArray}(h2:s.size≤4)(h:∀i,i<s.size→48≤sP s i∧sP s i≤57){k:Nat}(hk:k<s.size):0≤JD s k∧JD s k<1000:=by
 obtain⟨h4,h5⟩:=L2 h k (by omega)
 have h6:k=0∨k=1∨k=2∨k=3:=by omega
 rcases h6 with rfl|rfl|rfl|rfl<;>simp at h5<;>omega
section
variable {l:List vL}{en goal mvar:Int}{pv:List zN}{pc:List zE}
theorem zdR{R:D→List (Nat×yD)→Prop}{s:ByteArray}{i:Nat}(hi:i<9223372036854775807)(h1:0<s.size)(h2:s.size≤4)(h:∀i,i<s.size→48≤sP s i∧sP s i≤57)
  (hR:R (dI ((-1)*yB s)) (iY l en goal mvar pv pc (i+1) 0)):∃n,pW l en goal mvar pv pc R (i:Int) 0 s n 0 0:=by
 refine up (I:=λn v (a:Int)=>pW l en goal mvar pv pc R (i:Int) 0 s n a v) 0 s.size rfl (Nat.zero_le _) (by omega) (λk a=>a=JD s k) rfl λn k a _ hk ha hn=> ?_
 subst ha;rw[Ur]
 by_cases hlt:k<s.size
 ·rw[yC hlt,Int.toNat_natCast]
  have hb:=ze4 h2 h hlt;rw[ze3 hb.1 hb.2 (h k hlt)];exact⟨zM hlt,hn hlt _ rfl⟩
 ·have e:k=s.size:=by omega
  subst e;rw[zX,←AR h1 h];have hb:=L2 h s.size (Nat.le_refl _);rw[←AR h1 h]at hb
  have h6:(10:Int)^s.size≤10000:=by
   have h6:s.size=1∨s.size=2∨s.size=3∨s.size=4:=by omega
   rcases h6 with h6|h6|h6|h6<;>rw[h6]<;>decide
  rw[wL (n:=(-1)*yB s) (by omega) (by omega),nX hi]
  exact hR
theorem zdS{R:D→List (Nat×yD)→Prop}{s:ByteArray}{i:Nat}(hi:i<9223372036854775807)(h1:0<s.size)(h2:s.size≤4)(h:∀i,i<s.size→48≤sP s i∧sP s i≤57)
  (hR:R (dI (1*yB s)) (iY l en goal mvar pv pc (i+1) 0)):∃n,qH l (i:Int) en 0 goal mvar pv pc R s n 0 0:=by
 refine up (I:=λn v (a:Int)=>qH l (i:Int) en 0 goal mvar pv pc R s n a v) 0 s.size rfl (Nat.zero_le _) (by omega) (λk a=>a=JD s k) rfl λn k a _ hk ha hn=> ?_
 subst ha;rw[WZ]
 by_cases hlt:k<s.size
 ·rw[yC hlt,Int.toNat_natCast]
  have hb:=ze4 h2 h hlt;rw[ze3 hb.1 hb.2 (h k hlt)];exact⟨zM hlt,hn hlt _ rfl⟩
 ·have e:k=s.size:=by omega
  subst e;rw[zX,←AR h1 h];have hb:=L2 h s.size (Nat.le_refl _);rw[←AR h1 h]at hb
  have h6:(10:Int)^s.size≤10000:=by
   have h6:s.size=1∨s.size=2∨s.size=3∨s.size=4:=by omega
   rcases h6 with h6|h6|h6|h6<;>rw[h6]<;>decide
  rw[wL (n:=1*yB s) (by omega) (by omega),nX hi]
  exact hR
theorem Gb{j:Nat}(hj:j<l.length):rW l j∈l:=by
 unfold rW;rw[List.getD_eq_getElem?_getD,List.getElem?_eq_getElem hj];exact List.getElem_mem hj
theorem ze5{s:ByteArray}(h:0<s.size):s≠⟨#[]⟩:=by rintro rfl;exact absurd h (by decide)
theorem C7{s:ByteArray}(h:s≠⟨#[]⟩):0<s.size:=by
 rcases Nat.eq_zero_or_pos s.size with e|e
 ·exact absurd (ByteArray.size_eq_zero_iff.1 e) h
 ·exact e
theorem inD{n:Int}(h:48≤n∧n≤57):kK n 48 57=true:=GH.2 h
theorem zk6{n:Int}(h:¬(48≤n∧n≤57)):kK n 48 57=false:=qD.2 (by omega)
theorem YI(hd:Yo l)(j:Nat)(er:Int):TG l en goal mvar pv pc yZ [.ptr 1000 0] (λn:Int=>dI n) (kP yB l j) j er:=by
 by_cases he:er=0
 ·subst he
  refine⟨(match kP yB l j with| .ok n _=>n| .err _ _=>0),ZK _ _ _ _ _ _ _ _ λok ok2=> ?_,λ_ y k hy=>by rw[hy]⟩
  have hl:=Z9 ok2;rw[Ye,XF,if_pos rfl,kP];refine⟨_,xV j 0,?_⟩;cases hb:xJ l ⟨#[45]⟩ j with
  |true=>
   have hlt:=uA hb;refine dt ((sV (by decide)).2 hb) ⟨_,_,wI (s:=⟨#[45]⟩) (by decide) j 0,?_⟩
   rw[nJ,if_pos rfl,if_pos hb,if_pos rfl];refine⟨_,xV (j+1) 0,?_⟩;generalize j+1=i at*
   rw[Dr]
   by_cases h:i<l.length
   ·have ht:Yn l i 0=(rW l i).text:=if_pos ⟨rfl,h⟩
    have hk:=hd _ (Gb h);rw[ht]
    by_cases h2:(rW l i).kind=2
    ·obtain⟨q1,q2,q3⟩:=hk.1 h2
     refine df (ze5 q1) ⟨zM (k:=0) q1,zH (L3 _ 0) (bnf (inD (q3 0 q1)) (dt (by decide) ?_))⟩
     by_cases h0:(rW l i).text=⟨#[48]⟩
     ·rw[if_neg λx=>x.2.2 ⟨by decide,h0⟩]
      exact dt h0 ⟨_,xS i 0 1,rfl,rfl⟩
     ·rw[if_pos ⟨h,h2,λx=>h0 x.2⟩]
      exact df h0 (zdR (by omega) q1 q2 q3 ⟨rfl,rfl⟩)
    ·rw[if_neg λx=>h2 x.2.1]
     by_cases h0:(rW l i).text=⟨#[]⟩
     ·exact dt h0 ⟨_,xS i 0 1,rfl,rfl⟩
     ·exact df h0 ⟨zM (k:=0) (C7 h0),zH (L3 _ 0) (bnt (zk6 (hk.2 h2)) ⟨_,xS i 0 1,rfl,rfl⟩)⟩
   ·have ht:Yn l i 0=⟨#[]⟩:=if_neg λx=>h x.2
    rw[if_neg λx=>h x.1,ht]
    exact dt rfl ⟨_,xS i 0 1,rfl,rfl⟩
  |false=>
   refine df (λe=>by rw[(sV (by decide)).1 e]at hb;cases hb) ⟨_,xV j 0,?_⟩
   rw[if_neg (by decide),Dr]
   by_cases h:j<l.length
   ·have ht:Yn l j 0=(rW l j).text:=if_pos ⟨rfl,h⟩
    have hk:=hd _ (Gb h);rw[ht]
    by_cases h2:(rW l j).kind=2
    ·obtain⟨q1,q2,q3⟩:=hk.1 h2
     refine df (ze5 q1) ⟨zM (k:=0) q1,zH (L3 _ 0) (bnf (inD (q3 0 q1)) (df (by decide) ?_))⟩
     rw[if_pos ⟨h,h2,λx=>absurd x.1 (by decide)⟩]
     exact zdS (by omega) q1 q2 q3 ⟨rfl,rfl⟩
    ·rw[if_neg λx=>h2 x.2.1]
     by_cases h0:(rW l j).text=⟨#[]⟩
     ·exact dt h0 ⟨_,xS j 0 1,rfl,rfl⟩
     ·exact df h0 ⟨zM (k:=0) (C7 h0),zH (L3 _ 0) (bnt (zk6 (hk.2 h2)) ⟨_,xS j 0 1,rfl,rfl⟩)⟩
   ·have ht:Yn l j 0=⟨#[]⟩:=if_neg λx=>h x.2
    rw[if_neg λx=>h x.1,ht]
    exact dt rfl ⟨_,xS j 0 1,rfl,rfl⟩
 ·refine⟨0,ZK _ _ _ _ _ _ _ _ λok ok2=> ?_,λh=>absurd h he⟩
  rw[Ye,XF,if_neg he];refine⟨_,xV j er,?_⟩;rw[YH he];refine df (by decide) ⟨_,xV j er,?_⟩
  rw[YH he];refine dt rfl ⟨_,xS j er 1,?_⟩;rw[if_neg he];exact⟨rfl,rfl⟩
end
section
variable {l:List vL}{en goal mvar:Int}{pv:List zN}{pc:List zE}{names:List (ByteArray×Int)}
theorem jI{nv:ByteArray→Int}:Pa (kP nv l):=λi j e h=>by
 unfold kP Dr at h
 split at h<;>split at h<;>first|(cases h;done)|(injection h with _ h;subst h;decide)
theorem EL{α:Type}{f:Nat→Pr α}(hf:Pa f):∀(n:Nat) (acc:List α),Pa (uG l f n acc)
 |0,acc=>λi j e h=>by rw[uG]at h;injection h with _ h;subst h;decide
 |n+1,acc=>λi j e h=>by
  rw[uG]at h
  split at h
  ·cases hv:f (i+1)with
   |ok x k=>rw[hv]at h;exact EL hf n _ _ _ _ h
   |err k e'=>rw[hv]at h;injection h with _ h;subst h;exact hf _ _ _ hv
  ·rw[xD,xD]at h
   split at h
   ·cases h
   ·injection h with _ h;subst h;decide
theorem uY{α:Type}{f:Nat→Pr α}(hf:Pa f):Pa (wH l f):=λi j e h=>by
 rw[nR]at h
 split at h
 ·split at h
  ·cases h
  ·cases hv:f (i+1)with
   |ok x k=>rw[hv]at h;exact EL hf _ _ _ _ _ h
   |err k e'=>rw[hv]at h;injection h with _ h;subst h;exact hf _ _ _ hv
 ·injection h with _ h;subst h;decide
theorem oR{ss:List ByteArray}:Pa (dZ l ss):=λi j e h=>by
 unfold dZ at h
 split at h
 ·cases h
 ·injection h with _ h;subst h;decide
theorem vX{α β:Type}{f:Nat→Pr α}{g:α→Nat→Pr β}(hf:Pa f)(hg:∀x,Pa (g x)):Pa (λj=>(f j).bind g):=λi j e h=>by
 cases hv:f i with
 |ok x k=>simp only[hv,Pr.bind]at h;exact hg _ _ _ _ h
 |err k e'=>simp only[hv,Pr.bind]at h;injection h with _ h;subst h;exact hf _ _ _ hv
theorem Ya{α:Type}{x:α}{f:Nat→Nat}:Pa (λj=>Pr.ok x (f j)):=λi j e h=>by cases h
theorem Il{ss:List ByteArray}{j:Nat}:∀(i:Int),lV l ss (i+1) j=(lV l ss i j).map (1+·):=by
 induction ss with
 |nil=>exact λ_=>rfl
 |cons s r ih=>
  intro i;rw[lV,lV];split
  ·show some (i+1)=some (1+i);rw[Int.add_comm]
  ·exact ih (i+1)
theorem Im{fv:Nat→Int}(hfv:∀i,yH yZ [.ptr 1000 0] (iY l en goal mvar pv pc i 0) (dI (fv i)) (iY l en goal mvar pv pc (kP yB l i).st.1 (kP yB l i).st.2))(hl:l.length*32≤140737488355328){R:D→List (Nat×yD)→Prop}:∀(fuel:Nat) (out:List Int) (j:Nat),j≤l.length→l.length<j+fuel→out.length≤j→
  R (.sl .int (jR l (kP yB l) fv fuel out j)) (iY l en goal mvar pv pc ((kP yB l j).bind λx j=>uG l (kP yB l) fuel (out++[x]) j).st.1 ((kP yB l j).bind λx j=>uG l (kP yB l) fuel (out++[x]) j).st.2)→
  ∃n,qW R n true out l (j:Int) en 0 goal mvar pv pc
 |0,out,j,h1,h2,_,_=>by omega
 |fuel+1,out,j,h1,h2,h3,hR=>by
  have hs:=hfv j;have hroom:wN .int (out.length+[fv j].length)=true:=xY (t:=.int) (by show(out.length+1)*8≤_;omega)
  cases hf:kP yB l j with
  |err j1 e=>
   rw[hf]at hs hR
   rw[jR,hf]at hR
   have he:=jI _ _ _ hf;refine⟨2,?_⟩;rw[wQ];refine bt rfl ⟨_,_,_,hs,hroom,_,_,_,sW j1 e,?_⟩;rw[XZ,if_neg he,wQ];exact bf rfl hR
  |ok y j1=>
   rw[hf]at hs hR
   have ha:=W8 _ _ _ hf;rw[jR,hf]at hR
   have hR:R (.sl .int (if xJ l ⟨#[44]⟩ j1=true then jR l (kP yB l) fv fuel (out++[fv j]) (j1+1)else out++[fv j])) (iY l en goal mvar pv pc (uG l (kP yB l) (fuel+1) (out++[y]) j1).st.1 (uG l (kP yB l) (fuel+1) (out++[y]) j1).st.2):=hR
   rw[uG]at hR
   cases hb:xJ l ⟨#[44]⟩ j1 with
   |true=>
    have hlt:=uA hb;rw[hb,if_pos rfl,if_pos rfl]at hR
    have hst:∀(a b:List Int),(((kP yB l (j1+1)).bind λx j=>uG l (kP yB l) fuel (a++[x]) j)).st=(((kP yB l (j1+1)).bind λx j=>uG l (kP yB l) fuel (b++[x]) j)).st:=λa b=>Ga _ _
    obtain⟨n,hn⟩:=Im hfv hl fuel (out++[fv j]) (j1+1) (by omega) (by omega) (by rw[List.length_append];show _+1≤_;omega) (by rw[hst (out++[fv j]) (out++[y])];exact hR)
    refine⟨n+1,?_⟩;rw[wQ];refine bt rfl ⟨_,_,_,hs,hroom,_,_,_,sW j1 0,?_⟩;rw[XZ,if_pos rfl,if_pos hb];exact hn
   |false=>
    rw[hb,if_neg (by decide),if_neg (by decide),xD,xD]at hR
    refine⟨2,?_⟩;rw[wQ];refine bt rfl ⟨_,_,_,hs,hroom,_,_,_,sW j1 0,?_⟩;rw[XZ,if_pos rfl,if_neg (by rw[hb];decide)]
    cases hc:xJ l ⟨#[93]⟩ j1 with
    |true=>
     rw[hc,if_pos rfl]at hR
     rw[if_pos rfl,wQ];exact bf rfl hR
    |false=>
     rw[hc,if_neg (by decide)]at hR
     rw[if_neg (by decide),wQ]
     exact bf rfl hR
theorem zdT(hd:Yo l)(j:Nat)(er:Int):∃x:List Int,(l.length*32≤140737488355328→∀(R:D→List (Nat×yD)→Prop),R (.sl .int x) (iY l en goal mvar pv pc (XF (wH l (kP yB l) j) j er).1 (XF (wH l (kP yB l) j) j er).2)→
  ∃(m1:Int) (m2:Int) (m3:Bool),yH yA [.ptr 1000 0,dB true] (iY l en goal mvar pv pc j er) (dB m3) (zgl l en goal mvar pv pc m1 m2)∧∃n,qW R n m3 [] l m1 en m2 goal mvar pv pc)∧
  (er=0→∀ys k,wH l (kP yB l) j=.ok ys k→x=ys)∧x.length≤l.length+2:=by
 by_cases he:er=0
 ·subst he
  have hc:∀i,∃x,yH yZ [.ptr 1000 0] (iY l en goal mvar pv pc i 0) (dI x) (iY l en goal mvar pv pc (kP yB l i).st.1 (kP yB l i).st.2)∧∀y k,kP yB l i=.ok y k→x=y:=λi=>by
   obtain⟨x,h1,h2⟩:=YI (l:=l) (en:=en) (goal:=goal) (mvar:=mvar) (pv:=pv) (pc:=pc) hd i 0;rw[XF,if_pos rfl]at h1
   exact⟨x,h1,h2 rfl⟩
  obtain⟨fv,hfv⟩:=Classical.axiomOfChoice hc;refine⟨(if xJ l ⟨#[91]⟩ j=true then(if xJ l ⟨#[93]⟩ (j+1)=true then[]else jR l (kP yB l) fv (l.length+1) [] (j+1))else[]),λhl R hR=> ?_,λ_ ys k h=> ?_,?_⟩
  ·rw[XF,if_pos rfl,nR]at hR
   refine⟨_,_,_,nQ j 0,?_⟩;rw[SY,if_pos rfl];cases h1:xJ l ⟨#[91]⟩ j with
   |false=>
    rw[h1,if_neg (by decide),if_neg (by decide)]at hR
    rw[if_neg (by decide)]
    exact⟨1,by rw[wQ];exact bf rfl hR⟩
   |true=>
    have hlt:=uA h1;rw[h1,if_pos rfl,if_pos rfl]at hR
    rw[if_pos rfl];cases h2:xJ l ⟨#[93]⟩ (j+1)with
    |true=>
     rw[h2,if_pos rfl,if_pos rfl]at hR
     rw[if_pos rfl];exact⟨1,by rw[wQ];exact bf rfl hR⟩
    |false=>
     rw[h2,if_neg (by decide),if_neg (by decide)]at hR
     rw[if_neg (by decide)]
     exact Im (λi=>(hfv i).1) hl (l.length+1) [] (j+1) hlt (by omega) (Nat.zero_le _) hR
  ·rw[nR]at h
   split at h
   ·rename_i h1
    rw[if_pos h1];split at h
    ·rename_i h2
     rw[if_pos h2];injection h
    ·rename_i h2
     rw[if_neg h2];exact Pb (λi=>(hfv i).2) _ _ _ _ _ h
   ·cases h
  ·split
   ·split
    ·exact Nat.zero_le _
    ·have:=TH (l:=l) (f:=kP yB l) (fv:=fv) (l.length+1) [] (j+1);simpa using this
   ·exact Nat.zero_le _
 ·refine⟨[],λhl R hR=> ?_,λh=>absurd h he,Nat.zero_le _⟩
  rw[XF,if_neg he]at hR
  refine⟨_,_,_,nQ j er,1,?_⟩;rw[SY,if_neg he,wQ];exact bf rfl hR
theorem EM(hd:Yo l)(j:Nat)(er:Int):∃x:List Int,yH xW [.ptr 1000 0] (iY l en goal mvar pv pc j er) (.sl .int x) (iY l en goal mvar pv pc (XF (wH l (kP yB l) j) j er).1 (XF (wH l (kP yB l) j) j er).2)∧(er=0→∀ys k,wH l (kP yB l) j=.ok ys k→x=ys)∧x.length≤l.length+2:=by
 obtain⟨x,h1,h2,h3⟩:=zdT (l:=l) (en:=en) (goal:=goal) (mvar:=mvar) (pv:=pv) (pc:=pc) hd j er;refine⟨x,U4 _ _ _ _ _ _ _ _ λok ok2=> ?_,h2,h3⟩
 rw[Sa];exact h1 (Z9 ok2) _ ⟨rfl,rfl⟩
theorem zdU(hd:Yo l)(j:Nat)(er:Int):TG l en goal mvar pv pc xW [.ptr 1000 0] (λxs=> .sl .int xs) (wH l (kP yB l) j) j er:=
 let⟨x,h1,h2,_⟩:=EM hd j er
 ⟨x,h1,h2⟩
theorem AU{j:Nat}:iQ zD yB names l j=(vP zD names l j).bind λv j=>(dZ l opW j).bind λo j=>(kP yB l j).bind λn j=> .ok ⟨v,1+o,n⟩ j:=by
 unfold iQ
 congr 1;funext v j
 have:=Il (l:=l) (ss:=opW) (j:=j) 0;rw[show(1:Int)=0+1 from rfl,this]
 unfold dZ;cases lV l opW 0 j<;>rfl
theorem Pe:Pa (iQ zD yB names l):=λi j e h=>by
 rw[AU]at h
 exact vX fu (λv=>vX oR λo=>vX jI λn=>Ya) _ _ _ h
def kA{α:Type}(r:Pr α)(j:Nat)(er:Int)(x:α)(s:Nat×Int):Prop:=s=XF r j er∧(er=0→∀y k,r=.ok y k→x=y)
theorem kA.bind{α β:Type}{r:Pr α}{f:α→Nat→Pr β}{j:Nat}{er:Int}{x:α}{z:β}{s s':Nat×Int}(he:∀i e,r=.err i e→e≠0)(h1:kA r j er x s)(h2:kA (f x s.1) s.1 s.2 z s'):kA (r.bind f) j er z s':=by
 obtain⟨rfl,h1⟩:=h1;obtain⟨rfl,h2⟩:=h2
 by_cases h:er=0
 ·subst h
  have e:XF r j 0=r.st:=if_pos rfl;rw[e]at h2⊢
  have e':XF (r.bind f) j 0=(r.bind f).st:=if_pos rfl;cases r with
  |ok y k=>
   have hx:=h1 rfl y k rfl;subst hx;exact⟨(if_pos rfl).trans e'.symm,λ_=>h2 rfl⟩
  |err k e1=>
   have hne:=he k e1 rfl;exact⟨(if_neg hne).trans e'.symm,λ_ y k h=>by cases h⟩
 ·have e:XF r j er=(j,er):=if_neg h
  rw[e]at h2⊢
  exact⟨(if_neg h).trans (if_neg h).symm,λh'=>absurd h' h⟩
theorem kA.pure{α:Type}{x:α}{j:Nat}{er:Int}:kA (.ok x j) j er x (j,er):=⟨by unfold XF;split<;>simp_all[Pr.st],λ_ y k h=>by injection h⟩
theorem TG.ans{α:Type}{f:FuncId}{args:List D}{d:α→D}{r:Pr α}{j:Nat}{er:Int}(h:TG l en goal mvar pv pc f args d r j er):∃x s,yH f args (iY l en goal mvar pv pc j er) (d x) (iY l en goal mvar pv pc s.1 s.2)∧kA r j er x s:=
 let⟨x,h1,h2⟩:=h
 ⟨x,_,h1,rfl,h2⟩
theorem TG.of{α:Type}{f:FuncId}{args:List D}{d:α→D}{r:Pr α}{j:Nat}{er:Int}{x:α}{s:Nat×Int}(h:yH f args (iY l en goal mvar pv pc j er) (d x) (iY l en goal mvar pv pc s.1 s.2))(ha:kA r j er x s):TG l en goal mvar pv pc f args d r j er:=by
 obtain⟨rfl,h2⟩:=ha;exact⟨x,h,h2⟩
theorem Io(hd:Yo l)(hN:∀s,uH .str .int s names=oE s pv 0)(j:Nat)(er:Int):TG l en goal mvar pv pc tH [.ptr 1000 0] dL (iQ zD yB names l j) j er:=by
 obtain⟨xv,s1,h1,a1⟩:=(gX (l:=l) (en:=en) (goal:=goal) (mvar:=mvar) (pv:=pv) (pc:=pc) hN j er).ans;obtain⟨xw,h2,a2,hw1,hw2⟩:=Ij (l:=l) (en:=en) (goal:=goal) (mvar:=mvar) (pv:=pv) (pc:=pc) (ss:=opW) (by decide) (by decide) s1.1 s1.2
 obtain⟨xk,s3,h3,a3⟩:=(YI (en:=en) (goal:=goal) (mvar:=mvar) (pv:=pv) (pc:=pc) hd (XF (dZ l opW s1.1) s1.1 s1.2).1 (XF (dZ l opW s1.1) s1.1 s1.2).2).ans;refine TG.of (x:=⟨xv,1+xw,xk⟩) (s:=s3) (Uw _ _ _ _ _ _ _ _ λok ok2=> ?_) ?_
 ·rw[U6]
  refine⟨_,_,_,h1,_,_,_,h2,_,_,_,h3,?_⟩;have:(opW.length:Int)=4:=rfl;rw[wL (by omega) (by omega)]
  exact⟨rfl,rfl⟩
 ·rw[AU]
  exact kA.bind (λi e h=>fu _ _ _ h) a1 (kA.bind (λi e h=>oR _ _ _ h) ⟨rfl,a2⟩ (kA.bind (λi e h=>jI _ _ _ h) a3 kA.pure))
theorem OV{fv:Nat→(List Int)}(hfv:∀i,yH xW [.ptr 1000 0] (iY l en goal mvar pv pc i 0) (.sl .int (fv i)) (iY l en goal mvar pv pc (wH l (kP yB l) i).st.1 (wH l (kP yB l) i).st.2))(hl:l.length*32≤140737488355328){R:D→List (Nat×yD)→Prop}{kd:Int}{xs:List Int}:∀(fuel:Nat) (out:List (List Int)) (j:Nat),j≤l.length→l.length<j+fuel→out.length≤j→
  R (.agg [dI kd,.sl .int xs,.sl .int ([]:List Int),dI 0,dS (jR l (wH l (kP yB l)) fv fuel out j),.sl .lit ([]:List zC)]) (iY l en goal mvar pv pc ((wH l (kP yB l) j).bind λx j=>uG l (wH l (kP yB l)) fuel (out++[x]) j).st.1 ((wH l (kP yB l) j).bind λx j=>uG l (wH l (kP yB l)) fuel (out++[x]) j).st.2)→
  ∃n,sH R n true 0 ([]:List Int) ([]:List Int) 0 ([]:List (List Int)) ([]:List zC) kd xs ([]:List Int) 0 l (j:Int) en 0 goal mvar pv pc out ([]:List zC)
 |0,out,j,h1,h2,_,_=>by omega
 |fuel+1,out,j,h1,h2,h3,hR=>by
  have hs:=hfv j;have hroom:wN (.list .int) (out.length+[fv j].length)=true:=xY (t:=(.list .int)) (by show(out.length+1)*24≤_;omega)
  cases hf:wH l (kP yB l) j with
  |err j1 e=>
   rw[hf]at hs hR
   rw[jR,hf]at hR
   have he:=(uY jI) _ _ _ hf;refine⟨2,?_⟩;rw[wF];refine bt rfl ((λh=>⟨h,h⟩) ⟨_,_,_,hs,hroom,_,_,_,sW j1 e,?_⟩)
   rw[XZ,if_neg he,wF];exact bf rfl hR
  |ok y j1=>
   rw[hf]at hs hR
   have ha:=(jD W8) _ _ _ hf;rw[jR,hf]at hR
   have hR:R (.agg [dI kd,.sl .int xs,.sl .int ([]:List Int),dI 0,dS (if xJ l ⟨#[44]⟩ j1=true then jR l (wH l (kP yB l)) fv fuel (out++[fv j]) (j1+1)else out++[fv j]),.sl .lit ([]:List zC)]) (iY l en goal mvar pv pc (uG l (wH l (kP yB l)) (fuel+1) (out++[y]) j1).st.1 (uG l (wH l (kP yB l)) (fuel+1) (out++[y]) j1).st.2):=hR
   rw[uG]at hR
   cases hb:xJ l ⟨#[44]⟩ j1 with
   |true=>
    have hlt:=uA hb;rw[hb,if_pos rfl,if_pos rfl]at hR
    have hst:∀(a b:List (List Int)),(((wH l (kP yB l) (j1+1)).bind λx j=>uG l (wH l (kP yB l)) fuel (a++[x]) j)).st=(((wH l (kP yB l) (j1+1)).bind λx j=>uG l (wH l (kP yB l)) fuel (b++[x]) j)).st:=λa b=>Ga _ _
    obtain⟨n,hn⟩:=OV hfv hl fuel (out++[fv j]) (j1+1) (by omega) (by omega) (by rw[List.length_append];show _+1≤_;omega) (by rw[hst (out++[fv j]) (out++[y])];exact hR)
    refine⟨n+1,?_⟩;rw[wF];refine bt rfl ((λh=>⟨h,h⟩) ⟨_,_,_,hs,hroom,_,_,_,sW j1 0,?_⟩)
    rw[XZ,if_pos rfl,if_pos hb];exact hn
   |false=>
    rw[hb,if_neg (by decide),if_neg (by decide),xD,xD]at hR
    refine⟨2,?_⟩;rw[wF];refine bt rfl ((λh=>⟨h,h⟩) ⟨_,_,_,hs,hroom,_,_,_,sW j1 0,?_⟩)
    rw[XZ,if_pos rfl,if_neg (by rw[hb];decide)]
    cases hc:xJ l ⟨#[93]⟩ j1 with
    |true=>
     rw[hc,if_pos rfl]at hR
     rw[if_pos rfl,wF];exact bf rfl hR
    |false=>
     rw[hc,if_neg (by decide)]at hR
     rw[if_neg (by decide),wF]
     exact bf rfl hR
theorem AV(hd:Yo l)(j:Nat)(er:Int):∃x:List (List Int),(l.length*32≤140737488355328→∀(kd:Int) (xs:List Int) (R:D→List (Nat×yD)→Prop),R (.agg [dI kd,.sl .int xs,.sl .int ([]:List Int),dI 0,dS x,.sl .lit ([]:List zC)]) (iY l en goal mvar pv pc (XF (wH l (wH l (kP yB l)) j) j er).1 (XF (wH l (wH l (kP yB l)) j) j er).2)→
  ∃(m1:Int) (m2:Int) (m3:Bool),yH yA [.ptr 1000 0,dB true] (iY l en goal mvar pv pc j er) (dB m3) (zgl l en goal mvar pv pc m1 m2)∧∃n,sH R n m3 0 ([]:List Int) ([]:List Int) 0 ([]:List (List Int)) ([]:List zC) kd xs ([]:List Int) 0 l m1 en m2 goal mvar pv pc ([]:List (List Int)) ([]:List zC))∧
  (er=0→∀ys k,wH l (wH l (kP yB l)) j=.ok ys k→x=ys)∧x.length≤l.length+2:=by
 by_cases he:er=0
 ·subst he
  have hc:∀i,∃x,yH xW [.ptr 1000 0] (iY l en goal mvar pv pc i 0) (.sl .int x) (iY l en goal mvar pv pc (wH l (kP yB l) i).st.1 (wH l (kP yB l) i).st.2)∧∀y k,wH l (kP yB l) i=.ok y k→x=y:=λi=>by
   obtain⟨x,h1,h2⟩:=zdU (l:=l) (en:=en) (goal:=goal) (mvar:=mvar) (pv:=pv) (pc:=pc) hd i 0;rw[XF,if_pos rfl]at h1
   exact⟨x,h1,h2 rfl⟩
  obtain⟨fv,hfv⟩:=Classical.axiomOfChoice hc;refine⟨(if xJ l ⟨#[91]⟩ j=true then(if xJ l ⟨#[93]⟩ (j+1)=true then[]else jR l (wH l (kP yB l)) fv (l.length+1) [] (j+1))else[]),λhl kd xs R hR=> ?_,λ_ ys k h=> ?_,?_⟩
  ·rw[XF,if_pos rfl,nR]at hR
   refine⟨_,_,_,nQ j 0,?_⟩;rw[SY,if_pos rfl];cases h1:xJ l ⟨#[91]⟩ j with
   |false=>
    rw[h1,if_neg (by decide),if_neg (by decide)]at hR
    rw[if_neg (by decide)]
    exact⟨1,by rw[wF];exact bf rfl hR⟩
   |true=>
    have hlt:=uA h1;rw[h1,if_pos rfl,if_pos rfl]at hR
    rw[if_pos rfl];cases h2:xJ l ⟨#[93]⟩ (j+1)with
    |true=>
     rw[h2,if_pos rfl,if_pos rfl]at hR
     rw[if_pos rfl];exact⟨1,by rw[wF];exact bf rfl hR⟩
    |false=>
     rw[h2,if_neg (by decide),if_neg (by decide)]at hR
     rw[if_neg (by decide)]
     exact OV (λi=>(hfv i).1) hl (l.length+1) [] (j+1) hlt (by omega) (Nat.zero_le _) hR
  ·rw[nR]at h
   split at h
   ·rename_i h1
    rw[if_pos h1];split at h
    ·rename_i h2
     rw[if_pos h2];injection h
    ·rename_i h2
     rw[if_neg h2];exact Pb (λi=>(hfv i).2) _ _ _ _ _ h
   ·cases h
  ·split
   ·split
    ·exact Nat.zero_le _
    ·have:=TH (l:=l) (f:=wH l (kP yB l)) (fv:=fv) (l.length+1) [] (j+1);simpa using this
   ·exact Nat.zero_le _
 ·refine⟨[],λhl kd xs R hR=> ?_,λh=>absurd h he,Nat.zero_le _⟩
  rw[XF,if_neg he]at hR
  refine⟨_,_,_,nQ j er,1,?_⟩;rw[SY,if_neg he,wF];exact bf rfl hR
theorem OW{fv:Nat→zC}(hfv:∀i,yH tH [.ptr 1000 0] (iY l en goal mvar pv pc i 0) (dL (fv i)) (iY l en goal mvar pv pc (iQ zD yB names l i).st.1 (iQ zD yB names l i).st.2))(hl:l.length*32≤140737488355328){R:D→List (Nat×yD)→Prop}{kd:Int}:∀(fuel:Nat) (out:List zC) (j:Nat),j≤l.length→l.length<j+fuel→out.length≤j→
  R (.agg [dI kd,.sl .int ([]:List Int),.sl .int ([]:List Int),dI 0,dS ([]:List (List Int)),.sl .lit (jR l (iQ zD yB names l) fv fuel out j)]) (iY l en goal mvar pv pc ((iQ zD yB names l j).bind λx j=>uG l (iQ zD yB names l) fuel (out++[x]) j).st.1 ((iQ zD yB names l j).bind λx j=>uG l (iQ zD yB names l) fuel (out++[x]) j).st.2)→
  ∃n,sI R n true 0 ([]:List Int) ([]:List Int) 0 ([]:List (List Int)) ([]:List zC) kd ([]:List Int) ([]:List Int) 0 l (j:Int) en 0 goal mvar pv pc ([]:List (List Int)) out
 |0,out,j,h1,h2,_,_=>by omega
 |fuel+1,out,j,h1,h2,h3,hR=>by
  have hs:=hfv j;have hroom:wN .lit (out.length+[fv j].length)=true:=xY (t:=.lit) (by show(out.length+1)*24≤_;omega)
  cases hf:iQ zD yB names l j with
  |err j1 e=>
   rw[hf]at hs hR
   rw[jR,hf]at hR
   have he:=Pe _ _ _ hf;refine⟨2,?_⟩;rw[wG];refine bt rfl ((λh=>⟨h,h⟩) ⟨_,_,_,hs,hroom,_,_,_,sW j1 e,?_⟩)
   rw[XZ,if_neg he,wG];exact bf rfl hR
  |ok y j1=>
   rw[hf]at hs hR
   have ha:=Lc _ _ _ hf;rw[jR,hf]at hR
   have hR:R (.agg [dI kd,.sl .int ([]:List Int),.sl .int ([]:List Int),dI 0,dS ([]:List (List Int)),.sl .lit (if xJ l ⟨#[44]⟩ j1=true then jR l (iQ zD yB names l) fv fuel (out++[fv j]) (j1+1)else out++[fv j])]) (iY l en goal mvar pv pc (uG l (iQ zD yB names l) (fuel+1) (out++[y]) j1).st.1 (uG l (iQ zD yB names l) (fuel+1) (out++[y]) j1).st.2):=hR
   rw[uG]at hR
   cases hb:xJ l ⟨#[44]⟩ j1 with
   |true=>
    have hlt:=uA hb;rw[hb,if_pos rfl,if_pos rfl]at hR
    have hst:∀(a b:List zC),(((iQ zD yB names l (j1+1)).bind λx j=>uG l (iQ zD yB names l) fuel (a++[x]) j)).st=(((iQ zD yB names l (j1+1)).bind λx j=>uG l (iQ zD yB names l) fuel (b++[x]) j)).st:=λa b=>Ga _ _
    obtain⟨n,hn⟩:=OW hfv hl fuel (out++[fv j]) (j1+1) (by omega) (by omega) (by rw[List.length_append];show _+1≤_;omega) (by rw[hst (out++[fv j]) (out++[y])];exact hR)
    refine⟨n+1,?_⟩;rw[wG];refine bt rfl ((λh=>⟨h,h⟩) ⟨_,_,_,hs,hroom,_,_,_,sW j1 0,?_⟩)
    rw[XZ,if_pos rfl,if_pos hb];exact hn
   |false=>
    rw[hb,if_neg (by decide),if_neg (by decide),xD,xD]at hR
    refine⟨2,?_⟩;rw[wG];refine bt rfl ((λh=>⟨h,h⟩) ⟨_,_,_,hs,hroom,_,_,_,sW j1 0,?_⟩)
    rw[XZ,if_pos rfl,if_neg (by rw[hb];decide)]
    cases hc:xJ l ⟨#[93]⟩ j1 with
    |true=>
     rw[hc,if_pos rfl]at hR
     rw[if_pos rfl,wG];exact bf rfl hR
    |false=>
     rw[hc,if_neg (by decide)]at hR
     rw[if_neg (by decide),wG]
     exact bf rfl hR
theorem AW(hd:Yo l)(hN:∀s,uH .str .int s names=oE s pv 0)(j:Nat)(er:Int):∃x:List zC,(l.length*32≤140737488355328→∀(kd:Int) (R:D→List (Nat×yD)→Prop),R (.agg [dI kd,.sl .int ([]:List Int),.sl .int ([]:List Int),dI 0,dS ([]:List (List Int)),.sl .lit x]) (iY l en goal mvar pv pc (XF (wH l (iQ zD yB names l) j) j er).1 (XF (wH l (iQ zD yB names l) j) j er).2)→
  ∃(m1:Int) (m2:Int) (m3:Bool),yH yA [.ptr 1000 0,dB true] (iY l en goal mvar pv pc j er) (dB m3) (zgl l en goal mvar pv pc m1 m2)∧∃n,sI R n m3 0 ([]:List Int) ([]:List Int) 0 ([]:List (List Int)) ([]:List zC) kd ([]:List Int) ([]:List Int) 0 l m1 en m2 goal mvar pv pc ([]:List (List Int)) ([]:List zC))∧
  (er=0→∀ys k,wH l (iQ zD yB names l) j=.ok ys k→x=ys)∧x.length≤l.length+2:=by
 by_cases he:er=0
 ·subst he
  have hc:∀i,∃x,yH tH [.ptr 1000 0] (iY l en goal mvar pv pc i 0) (dL x) (iY l en goal mvar pv pc (iQ zD yB names l i).st.1 (iQ zD yB names l i).st.2)∧∀y k,iQ zD yB names l i=.ok y k→x=y:=λi=>by
   obtain⟨x,h1,h2⟩:=Io (l:=l) (en:=en) (goal:=goal) (mvar:=mvar) (pv:=pv) (pc:=pc) hd hN i 0;rw[XF,if_pos rfl]at h1
   exact⟨x,h1,h2 rfl⟩
  obtain⟨fv,hfv⟩:=Classical.axiomOfChoice hc;refine⟨(if xJ l ⟨#[91]⟩ j=true then(if xJ l ⟨#[93]⟩ (j+1)=true then[]else jR l (iQ zD yB names l) fv (l.length+1) [] (j+1))else[]),λhl kd R hR=> ?_,λ_ ys k h=> ?_,?_⟩
  ·rw[XF,if_pos rfl,nR]at hR
   refine⟨_,_,_,nQ j 0,?_⟩;rw[SY,if_pos rfl];cases h1:xJ l ⟨#[91]⟩ j with
   |false=>
    rw[h1,if_neg (by decide),if_neg (by decide)]at hR
    rw[if_neg (by decide)]
    exact⟨1,by rw[wG];exact bf rfl hR⟩
   |true=>
    have hlt:=uA h1;rw[h1,if_pos rfl,if_pos rfl]at hR
    rw[if_pos rfl];cases h2:xJ l ⟨#[93]⟩ (j+1)with
    |true=>
     rw[h2,if_pos rfl,if_pos rfl]at hR
     rw[if_pos rfl];exact⟨1,by rw[wG];exact bf rfl hR⟩
    |false=>
     rw[h2,if_neg (by decide),if_neg (by decide)]at hR
     rw[if_neg (by decide)]
     exact OW (λi=>(hfv i).1) hl (l.length+1) [] (j+1) hlt (by omega) (Nat.zero_le _) hR
  ·rw[nR]at h
   split at h
   ·rename_i h1
    rw[if_pos h1];split at h
    ·rename_i h2
     rw[if_pos h2];injection h
    ·rename_i h2
     rw[if_neg h2];exact Pb (λi=>(hfv i).2) _ _ _ _ _ h
   ·cases h
  ·split
   ·split
    ·exact Nat.zero_le _
    ·have:=TH (l:=l) (f:=iQ zD yB names l) (fv:=fv) (l.length+1) [] (j+1);simpa using this
   ·exact Nat.zero_le _
 ·refine⟨[],λhl kd R hR=> ?_,λh=>absurd h he,Nat.zero_le _⟩
  rw[XF,if_neg he]at hR
  refine⟨_,_,_,nQ j er,1,?_⟩;rw[SY,if_neg he,wG];exact bf rfl hR
end
section
variable {l:List vL}{en goal mvar:Int}{pv:List zN}{pc:List zE}{names:List (ByteArray×Int)}
theorem aA{j:Nat}:Rv zD yB names l j=(dZ l M9 j).bind λo j=>jJ zD yB names l (1+o) j:=by
 unfold Rv;have:=Il (l:=l) (ss:=M9) (j:=j) 0;rw[show(1:Int)=0+1 from rfl,this]
 unfold dZ;cases lV l M9 0 j<;>rfl
theorem YJ:∀(n:Nat) (acc:List Int),Pa (Yg zD names l n acc)
 |0,acc=>λi j e h=>by cases h
 |n+1,acc=>λi j e h=>by
  rw[Yg]at h
  exact vX (fu (isN:=zD) (names:=names) (l:=l)) (λx=>YJ n _) _ _ _ h
theorem TI{n:Nat}{acc:List Int}{v:Int}{vs:List Int}{j:Nat}{er:Int}{s s':Nat×Int}(h1:kA (vP zD names l j) j er v s)(h2:kA (Yg zD names l n (acc++[v]) s.1) s.1 s.2 vs s'):kA (Yg zD names l (n+1) acc j) j er vs s':=by
 rw[Yg];exact kA.bind (λi e h=>fu _ _ _ h) h1 h2
theorem WC(hN:∀s,uH .str .int s names=oE s pv 0)(j:Nat)(er:Int):∃x s,yH vJ [.ptr 1000 0] (iY l en goal mvar pv pc j er) (.sl .int x) (iY l en goal mvar pv pc s.1 s.2)∧kA (wH l (vP zD names l) j) j er x s∧x.length≤l.length+2:=
 let⟨x,h1,h2,h3⟩:=zdQ hN j er
 ⟨x,_,h1,⟨rfl,h2⟩,h3⟩
theorem PH(hd:Yo l)(j:Nat)(er:Int):∃x s,yH xW [.ptr 1000 0] (iY l en goal mvar pv pc j er) (.sl .int x) (iY l en goal mvar pv pc s.1 s.2)∧kA (wH l (kP yB l) j) j er x s∧x.length≤l.length+2:=
 let⟨x,h1,h2,h3⟩:=EM hd j er
 ⟨x,_,h1,⟨rfl,h2⟩,h3⟩
theorem Ul{ss:List ByteArray}(hne:∀s∈ss,s≠⟨#[]⟩)(hn0:0<ss.length)(j:Nat)(er:Int):∃(x:Int) (s:Nat×Int),yH uW [.ptr 1000 0,.sl .str ss] (iY l en goal mvar pv pc j er) (dI x) (iY l en goal mvar pv pc s.1 s.2)∧kA (dZ l ss j) j er x s∧0≤x∧x<ss.length:=
 let⟨x,h1,h2,h3,h4⟩:=Ij hne hn0 j er
 ⟨x,_,h1,⟨rfl,h2⟩,h3,h4⟩
theorem zbS(hd:Yo l)(j:Nat)(er:Int):∃(x:List (List Int)) (s:Nat×Int),(l.length*32≤140737488355328→∀(kd:Int) (xs:List Int) (R:D→List (Nat×yD)→Prop),R (.agg [dI kd,.sl .int xs,.sl .int ([]:List Int),dI 0,dS x,.sl .lit ([]:List zC)]) (iY l en goal mvar pv pc s.1 s.2)→
  ∃(m1:Int) (m2:Int) (m3:Bool),yH yA [.ptr 1000 0,dB true] (iY l en goal mvar pv pc j er) (dB m3) (zgl l en goal mvar pv pc m1 m2)∧∃n,sH R n m3 0 ([]:List Int) ([]:List Int) 0 ([]:List (List Int)) ([]:List zC) kd xs ([]:List Int) 0 l m1 en m2 goal mvar pv pc ([]:List (List Int)) ([]:List zC))∧kA (wH l (wH l (kP yB l)) j) j er x s:=
 let⟨x,h1,h2,_⟩:=AV (en:=en) (goal:=goal) (mvar:=mvar) (pv:=pv) (pc:=pc) hd j er
 ⟨x,_,h1,rfl,h2⟩
theorem zbT(hd:Yo l)(hN:∀s,uH .str .int s names=oE s pv 0)(j:Nat)(er:Int):∃(x:List zC) (s:Nat×Int),(l.length*32≤140737488355328→∀(kd:Int) (R:D→List (Nat×yD)→Prop),R (.agg [dI kd,.sl .int ([]:List Int),.sl .int ([]:List Int),dI 0,dS ([]:List (List Int)),.sl .lit x]) (iY l en goal mvar pv pc s.1 s.2)→
  ∃(m1:Int) (m2:Int) (m3:Bool),yH yA [.ptr 1000 0,dB true] (iY l en goal mvar pv pc j er) (dB m3) (zgl l en goal mvar pv pc m1 m2)∧∃n,sI R n m3 0 ([]:List Int) ([]:List Int) 0 ([]:List (List Int)) ([]:List zC) kd ([]:List Int) ([]:List Int) 0 l m1 en m2 goal mvar pv pc ([]:List (List Int)) ([]:List zC))∧kA (wH l (iQ zD yB names l) j) j er x s:=
 let⟨x,h1,h2,_⟩:=AW (en:=en) (goal:=goal) (mvar:=mvar) (pv:=pv) (pc:=pc) hd hN j er
 ⟨x,_,h1,rfl,h2⟩
theorem zbU(hd:Yo l)(hN:∀s,uH .str .int s names=oE s pv 0)(j:Nat)(er:Int):TG l en goal mvar pv pc o9 [.ptr 1000 0] dC (Rv zD yB names l j) j er:=by
 obtain⟨xw,s1,h1,a1,b1,b2⟩:=Ul (l:=l) (en:=en) (goal:=goal) (mvar:=mvar) (pv:=pv) (pc:=pc) (ss:=M9) (by decide) (by decide) j er
 have hlen:(M9.length:Int)=10:=rfl;have hk:xw=0∨xw=1∨xw=2∨xw=3∨xw=4∨xw=5∨xw=6∨xw=7∨xw=8∨xw=9:=by omega
 clear hlen b1 b2;rcases hk with rfl|rfl|rfl|rfl|rfl|rfl|rfl|rfl|rfl|rfl
 ·obtain⟨x2,s2,h2,a2,l2⟩:=PH (l:=l) (en:=en) (goal:=goal) (mvar:=mvar) (pv:=pv) (pc:=pc) hd s1.1 s1.2
  obtain⟨x3,s3,h3,a3,l3⟩:=WC (l:=l) (en:=en) (goal:=goal) (mvar:=mvar) (pv:=pv) (pc:=pc) hN s2.1 s2.2;obtain⟨x4,s4,h4,a4⟩:=(YI (en:=en) (goal:=goal) (mvar:=mvar) (pv:=pv) (pc:=pc) hd s3.1 s3.2).ans;refine TG.of (x:=(⟨1,x3,x2,x4,[],[]⟩:zE)) (s:=s4) (wB _ _ _ _ _ _ _ _ λok ok2=> ?_) ?_
  ·rw[wP]
   refine⟨_,_,_,h1,?_⟩;rw[show yU (1+0)=1 from wL (by omega) (by omega)]
   exact dt (by decide) (⟨_,_,_,h2,_,_,_,h3,_,_,_,h4,rfl,rfl⟩)
  ·rw[aA]
   refine kA.bind (λi e h=>oR _ _ _ h) a1 ?_
   show kA (jJ zD yB names l 1 s1.1) _ _ _ _
   rw[jJ,if_pos (by decide)]
   exact kA.bind (λi e h=>(uY jI) _ _ _ h) a2 (kA.bind (λi e h=>(uY fu) _ _ _ h) a3 (kA.bind (λi e h=>(jI) _ _ _ h) a4 (kA.pure)))
 ·obtain⟨x2,s2,h2,a2,l2⟩:=PH (l:=l) (en:=en) (goal:=goal) (mvar:=mvar) (pv:=pv) (pc:=pc) hd s1.1 s1.2
  obtain⟨x3,s3,h3,a3,l3⟩:=WC (l:=l) (en:=en) (goal:=goal) (mvar:=mvar) (pv:=pv) (pc:=pc) hN s2.1 s2.2;obtain⟨x4,s4,h4,a4⟩:=(YI (en:=en) (goal:=goal) (mvar:=mvar) (pv:=pv) (pc:=pc) hd s3.1 s3.2).ans;refine TG.of (x:=(⟨2,x3,x2,x4,[],[]⟩:zE)) (s:=s4) (wB _ _ _ _ _ _ _ _ λok ok2=> ?_) ?_
  ·rw[wP]
   refine⟨_,_,_,h1,?_⟩;rw[show yU (1+1)=2 from wL (by omega) (by omega)]
   exact df (by decide) (dt (by decide) (⟨_,_,_,h2,_,_,_,h3,_,_,_,h4,rfl,rfl⟩))
  ·rw[aA]
   refine kA.bind (λi e h=>oR _ _ _ h) a1 ?_
   show kA (jJ zD yB names l 2 s1.1) _ _ _ _
   rw[jJ,if_pos (by decide)]
   exact kA.bind (λi e h=>(uY jI) _ _ _ h) a2 (kA.bind (λi e h=>(uY fu) _ _ _ h) a3 (kA.bind (λi e h=>(jI) _ _ _ h) a4 (kA.pure)))
 ·obtain⟨x2,s2,h2,a2,l2⟩:=PH (l:=l) (en:=en) (goal:=goal) (mvar:=mvar) (pv:=pv) (pc:=pc) hd s1.1 s1.2
  obtain⟨x3,s3,h3,a3,l3⟩:=WC (l:=l) (en:=en) (goal:=goal) (mvar:=mvar) (pv:=pv) (pc:=pc) hN s2.1 s2.2;obtain⟨x4,s4,h4,a4⟩:=(YI (en:=en) (goal:=goal) (mvar:=mvar) (pv:=pv) (pc:=pc) hd s3.1 s3.2).ans;refine TG.of (x:=(⟨3,x3,x2,x4,[],[]⟩:zE)) (s:=s4) (wB _ _ _ _ _ _ _ _ λok ok2=> ?_) ?_
  ·rw[wP]
   refine⟨_,_,_,h1,?_⟩;rw[show yU (1+2)=3 from wL (by omega) (by omega)]
   exact df (by decide) (df (by decide) (dt (by decide) (⟨_,_,_,h2,_,_,_,h3,_,_,_,h4,rfl,rfl⟩)))
  ·rw[aA]
   refine kA.bind (λi e h=>oR _ _ _ h) a1 ?_
   show kA (jJ zD yB names l 3 s1.1) _ _ _ _
   rw[jJ,if_pos (by decide)]
   exact kA.bind (λi e h=>(uY jI) _ _ _ h) a2 (kA.bind (λi e h=>(uY fu) _ _ _ h) a3 (kA.bind (λi e h=>(jI) _ _ _ h) a4 (kA.pure)))
 ·obtain⟨x2,s2,h2,a2,l2⟩:=WC (l:=l) (en:=en) (goal:=goal) (mvar:=mvar) (pv:=pv) (pc:=pc) hN s1.1 s1.2
  refine TG.of (x:=(⟨4,x2,[],0,[],[]⟩:zE)) (s:=s2) (wB _ _ _ _ _ _ _ _ λok ok2=> ?_) ?_
  ·rw[wP]
   refine⟨_,_,_,h1,?_⟩;rw[show yU (1+3)=4 from wL (by omega) (by omega)]
   exact df (by decide) (df (by decide) (df (by decide) (dt (by decide) (⟨_,_,_,h2,rfl,rfl⟩))))
  ·rw[aA]
   refine kA.bind (λi e h=>oR _ _ _ h) a1 ?_
   show kA (jJ zD yB names l 4 s1.1) _ _ _ _
   rw[jJ,if_neg (by decide),if_pos (by decide)]
   exact kA.bind (λi e h=>(uY fu) _ _ _ h) a2 (kA.pure)
 ·obtain⟨x2,s2,h2,a2,l2⟩:=PH (l:=l) (en:=en) (goal:=goal) (mvar:=mvar) (pv:=pv) (pc:=pc) hd s1.1 s1.2
  obtain⟨x3,s3,h3,a3⟩:=(gX (l:=l) (en:=en) (goal:=goal) (mvar:=mvar) (pv:=pv) (pc:=pc) hN s2.1 s2.2).ans;obtain⟨x4,s4,h4,a4⟩:=(gX (l:=l) (en:=en) (goal:=goal) (mvar:=mvar) (pv:=pv) (pc:=pc) hN s3.1 s3.2).ans;refine TG.of (x:=(⟨5,[x3,x4],x2,0,[],[]⟩:zE)) (s:=s4) (wB _ _ _ _ _ _ _ _ λok ok2=> ?_) ?_
  ·rw[wP]
   refine⟨_,_,_,h1,?_⟩;rw[show yU (1+4)=5 from wL (by omega) (by omega)]
   exact df (by decide) (df (by decide) (df (by decide) (df (by decide) (dt (by decide) (⟨_,_,_,h2,_,_,_,h3,_,_,_,h4,rfl,rfl⟩)))))
  ·rw[aA]
   refine kA.bind (λi e h=>oR _ _ _ h) a1 ?_
   show kA (jJ zD yB names l 5 s1.1) _ _ _ _
   rw[jJ,if_neg (by decide),if_neg (by decide),if_pos (by decide)]
   exact kA.bind (λi e h=>(uY jI) _ _ _ h) a2 (kA.bind (λi e h=>YJ _ _ _ _ _ h) (TI a3 (TI a4 kA.pure)) (kA.pure))
 ·obtain⟨x2,s2,h2,a2,l2⟩:=WC (l:=l) (en:=en) (goal:=goal) (mvar:=mvar) (pv:=pv) (pc:=pc) hN s1.1 s1.2
  obtain⟨x3,s3,h3,a3⟩:=zbS (en:=en) (goal:=goal) (mvar:=mvar) (pv:=pv) (pc:=pc) hd s2.1 s2.2;refine TG.of (x:=(⟨6,x2,[],0,x3,[]⟩:zE)) (s:=s3) (wB _ _ _ _ _ _ _ _ λok ok2=> ?_) ?_
  ·rw[wP]
   refine⟨_,_,_,h1,?_⟩;rw[show yU (1+5)=6 from wL (by omega) (by omega)]
   exact df (by decide) (df (by decide) (df (by decide) (df (by decide) (df (by decide) (dt (by decide) (⟨_,_,_,h2,h3 (Z9 ok2) _ _ _ ⟨rfl,rfl⟩⟩))))))
  ·rw[aA]
   refine kA.bind (λi e h=>oR _ _ _ h) a1 ?_
   show kA (jJ zD yB names l 6 s1.1) _ _ _ _
   rw[jJ,if_neg (by decide),if_neg (by decide),if_neg (by decide),if_pos (by decide)]
   exact kA.bind (λi e h=>(uY fu) _ _ _ h) a2 (kA.bind (λi e h=>(uY (uY jI)) _ _ _ h) a3 (kA.pure))
 ·obtain⟨x2,s2,h2,a2⟩:=(gX (l:=l) (en:=en) (goal:=goal) (mvar:=mvar) (pv:=pv) (pc:=pc) hN s1.1 s1.2).ans
  obtain⟨x3,s3,h3,a3⟩:=(gX (l:=l) (en:=en) (goal:=goal) (mvar:=mvar) (pv:=pv) (pc:=pc) hN s2.1 s2.2).ans;obtain⟨x4,s4,h4,a4⟩:=(gX (l:=l) (en:=en) (goal:=goal) (mvar:=mvar) (pv:=pv) (pc:=pc) hN s3.1 s3.2).ans;refine TG.of (x:=(⟨7,[x2,x3,x4],[],0,[],[]⟩:zE)) (s:=s4) (wB _ _ _ _ _ _ _ _ λok ok2=> ?_) ?_
  ·rw[wP]
   refine⟨_,_,_,h1,?_⟩;rw[show yU (1+6)=7 from wL (by omega) (by omega)]
   exact df (by decide) (df (by decide) (df (by decide) (df (by decide) (df (by decide) (df (by decide) (dt (by decide) (⟨_,_,_,h2,_,_,_,h3,_,_,_,h4,rfl,rfl⟩)))))))
  ·rw[aA]
   refine kA.bind (λi e h=>oR _ _ _ h) a1 ?_
   show kA (jJ zD yB names l 7 s1.1) _ _ _ _
   rw[jJ,if_neg (by decide),if_neg (by decide),if_neg (by decide),if_neg (by decide),if_pos (by decide)]
   exact kA.bind (λi e h=>YJ _ _ _ _ _ h) (TI a2 (TI a3 (TI a4 kA.pure))) (kA.pure)
 ·obtain⟨x2,s2,h2,a2⟩:=(gX (l:=l) (en:=en) (goal:=goal) (mvar:=mvar) (pv:=pv) (pc:=pc) hN s1.1 s1.2).ans
  obtain⟨x3,s3,h3,a3,l3⟩:=WC (l:=l) (en:=en) (goal:=goal) (mvar:=mvar) (pv:=pv) (pc:=pc) hN s2.1 s2.2;refine TG.of (x:=(⟨8,x2::x3,[],0,[],[]⟩:zE)) (s:=s3) (wB _ _ _ _ _ _ _ _ λok ok2=> ?_) ?_
  ·rw[wP]
   refine⟨_,_,_,h1,?_⟩;rw[show yU (1+7)=8 from wL (by omega) (by omega)]
   exact df (by decide) (df (by decide) (df (by decide) (df (by decide) (df (by decide) (df (by decide) (df (by decide) (dt (by decide) (⟨_,_,_,h2,_,_,_,h3,xY (t:=.int) (by have:=Z9 ok2;show(1+x3.length)*8≤_;omega),rfl,rfl⟩))))))))
  ·rw[aA]
   refine kA.bind (λi e h=>oR _ _ _ h) a1 ?_
   show kA (jJ zD yB names l 8 s1.1) _ _ _ _
   rw[jJ,if_neg (by decide),if_neg (by decide),if_neg (by decide),if_neg (by decide),if_neg (by decide),if_pos (by decide)]
   exact kA.bind (λi e h=>(fu) _ _ _ h) a2 (kA.bind (λi e h=>(uY fu) _ _ _ h) a3 (kA.pure))
 ·obtain⟨x2,s2,h2,a2⟩:=zbT (en:=en) (goal:=goal) (mvar:=mvar) (pv:=pv) (pc:=pc) hd hN s1.1 s1.2
  refine TG.of (x:=(⟨9,[],[],0,[],x2⟩:zE)) (s:=s2) (wB _ _ _ _ _ _ _ _ λok ok2=> ?_) ?_
  ·rw[wP]
   refine⟨_,_,_,h1,?_⟩;rw[show yU (1+8)=9 from wL (by omega) (by omega)]
   exact df (by decide) (df (by decide) (df (by decide) (df (by decide) (df (by decide) (df (by decide) (df (by decide) (df (by decide) (dt (by decide) (h2 (Z9 ok2) _ _ ⟨rfl,rfl⟩)))))))))
  ·rw[aA]
   refine kA.bind (λi e h=>oR _ _ _ h) a1 ?_
   show kA (jJ zD yB names l 9 s1.1) _ _ _ _
   rw[jJ,if_neg (by decide),if_neg (by decide),if_neg (by decide),if_neg (by decide),if_neg (by decide),if_neg (by decide),if_pos (by decide)]
   exact kA.bind (λi e h=>(uY Pe) _ _ _ h) a2 (kA.pure)
 ·obtain⟨x2,s2,h2,a2⟩:=(gX (l:=l) (en:=en) (goal:=goal) (mvar:=mvar) (pv:=pv) (pc:=pc) hN s1.1 s1.2).ans
  obtain⟨x3,s3,h3,a3⟩:=(Io (en:=en) (goal:=goal) (mvar:=mvar) (pv:=pv) (pc:=pc) hd hN s2.1 s2.2).ans;refine TG.of (x:=(⟨10,[x2],[],0,[],[x3]⟩:zE)) (s:=s3) (wB _ _ _ _ _ _ _ _ λok ok2=> ?_) ?_
  ·rw[wP]
   refine⟨_,_,_,h1,?_⟩;rw[show yU (1+9)=10 from wL (by omega) (by omega)]
   exact df (by decide) (df (by decide) (df (by decide) (df (by decide) (df (by decide) (df (by decide) (df (by decide) (df (by decide) (df (by decide) (dt (by decide) (⟨_,_,_,h2,(λh=>⟨h,h⟩) ⟨_,_,_,h3,xY (t:=.lit) (by show(0+1)*24≤140737488355328;omega),rfl,rfl⟩⟩))))))))))
  ·rw[aA]
   refine kA.bind (λi e h=>oR _ _ _ h) a1 ?_
   show kA (jJ zD yB names l 10 s1.1) _ _ _ _
   rw[jJ,if_neg (by decide),if_neg (by decide),if_neg (by decide),if_neg (by decide),if_neg (by decide),if_neg (by decide),if_neg (by decide)]
   exact kA.bind (λi e h=>YJ _ _ _ _ _ h) (TI a2 kA.pure) (kA.bind (λi e h=>(Pe) _ _ _ h) a3 kA.pure)
end
def kH:zG:=⟨[],[],0,0⟩
abbrev dR(x:zG×Int×Int):D:=.tup [dM x.1,dI x.2.1,dI x.2.2]
def zdV:wA:= {own:=[],live:=[],n:=22,first:=true}
structure zin (w0 w:World)(p q r:Nat)(a e:Int):Prop where
 below:qB w0.heap.size (λb=>b=p∨b=q∨b=r) w0 w
 m:∃vs T,w.heap[p]? =some (.cells vs T (0,0))∧vs.size=4∧∀i d,[D.sl .var ([]:List zN),D.sl .con ([]:List zE),dI 0,dI 0][i]? =some d→Rp w (λb=>w0.heap.size≤b∧b<w.heap.size) (vs.getD i undef) d
 at_:∃T,w.heap[q]? =some (.cells #[.int .i64 a] T (0,0))
 e:∃T,w.heap[r]? =some (.cells #[.int .i64 e] T (0,0))
theorem zgm(a e:Int)(Q:Ex→Option yD→Option yD→Option yD→Prop):den Tryz.prog Ev zdV (sub [1,1,0,1,1] (Ys Tryz.f93)) 0 ⟨[(0,.ptr 1000 0),(1,.ptr 1001 0),(2,.ptr 1002 0),(4,.ptr 3000 0)],[(1000,yD.cells [D.sl .var ([]:List zN),D.sl .con ([]:List zE),dI 0,dI 0]),(1001,yD.cells [dI 0]),(1002,yD.cells [dI 0]),(3000,yD.cells [dI a,dI e])]⟩ (λx σ=>Q x (zZ 1000 σ.hp) (zZ 1001 σ.hp) (zZ 1002 σ.hp))=(λp:Prop=>((((p)∧((p)∧p)))∧(((p)∧p))∧((p)∧p))) (Q .normal (some (yD.cells [D.sl .var ([]:List zN),D.sl .con ([]:List zE),dI 0,dI 0])) (some (yD.cells [dI a])) (some (yD.cells [dI e]))):=by kernel_rfl
theorem zio{w:World}{S:Nat→Prop}(t:Ty):Rp w S (.slice none 0 0) (.sl t []):=
 OA.sl (t:=t) ⟨none,0,rfl,by simp,by simp,by simp,λ_=>rfl,λhn=>absurd hn (by simp)⟩
abbrev EN(a e:Int):Value:=.iface 158 (.agg #[.int .i64 a,.int .i64 e])
abbrev kI(b:Nat):Value:=.pointer (some ⟨b,0,none⟩)
theorem zdW{a e:Int}{w0 w:World}{act:Act}{p q r k:Nat}{Tp Tq Tr Tk:TypeId}(dz:act.defers=[])(sz:act.tmps.size=22)
  (t0:act.tmps.getD 0 undef=kI p) (t1:act.tmps.getD 1 undef=kI q) (t2:act.tmps.getD 2 undef=kI r) (t4:act.tmps.getD 4 undef=kI k)
  (hp:w.heap[p]? =some (.cells #[.slice none 0 0,.slice none 0 0,.int .i64 0,.int .i64 0] Tp (0,0))) (hq:w.heap[q]? =some (.cells #[.int .i64 0] Tq (0,0))) (hr:w.heap[r]? =some (.cells #[.int .i64 0] Tr (0,0)))
  (hk:w.heap[k]? =some (.cells #[.int .i64 a,.int .i64 e] Tk (0,0))) (ha:yJ a) (he:yJ e)
  (lp:p<w0.heap.size) (lq:q<w0.heap.size) (lr:r<w0.heap.size) (lk:w0.heap.size≤k) (hpq:p≠q) (hpr:p≠r) (hqr:q≠r)
  (hb:qB w0.heap.size (λb=>b=p∨b=q∨b=r) w0 w) (hg:DT Tryz.prog w0 (λb=>b=p∨b=q∨b=r)):
  (sub [1,1,0,1,1] (Ys Tryz.f93)).wp Tryz.prog (λx a' w'=>x=.normal∧a'.defers=[]∧zin w0 w' p q r a e) act w:=by
 have lt:∀ {b:Nat} {o:Obj},w.heap[b]? =some o→b<w.heap.size:=λh=>(Array.getElem?_eq_some_iff.1 h).1
 let pl:Nat→Value:=λi=>if i=1000 then kI p else if i=1001 then kI q else if i=1002 then kI r else kI k
 let b0:Vy:=⟨w0,λ_=>False,λb=>b=p∨b=q∨b=r,pl⟩
 let Q:Ex→Option yD→Option yD→Option yD→Prop:=λx m1 m2 m3=>x=.normal∧m1=some (yD.cells [D.sl .var ([]:List zN),D.sl .con ([]:List zE),dI 0,dI 0])∧m2=some (yD.cells [dI a])∧m3=some (yD.cells [dI e])
 have hden:den Tryz.prog Ev zdV (sub [1,1,0,1,1] (Ys Tryz.f93)) 0 ⟨[(0,.ptr 1000 0),(1,.ptr 1001 0),(2,.ptr 1002 0),(4,.ptr 3000 0)],[(1000,yD.cells [D.sl .var ([]:List zN),D.sl .con ([]:List zE),dI 0,dI 0]),(1001,yD.cells [dI 0]),(1002,yD.cells [dI 0]),(3000,yD.cells [dI a,dI e])]⟩ (λx σ=>Q x (zZ 1000 σ.hp) (zZ 1001 σ.hp) (zZ 1002 σ.hp)):=by
  rw[zgm];have h:Q .normal (some (yD.cells [D.sl .var ([]:List zN),D.sl .con ([]:List zE),dI 0,dI 0])) (some (yD.cells [dI a])) (some (yD.cells [dI e])):=⟨rfl,rfl,rfl,rfl⟩;exact⟨⟨h,h,h⟩,⟨h,h⟩,h,h⟩
 have hlook:∀j o,zZ j ([(1000,yD.cells [D.sl .var ([]:List zN),D.sl .con ([]:List zE),dI 0,dI 0]),(1001,yD.cells [dI 0]),(1002,yD.cells [dI 0]),(3000,yD.cells [dI a,dI e])]:List (Nat×yD))=some o→
   (j=1000∧o=yD.cells [D.sl .var ([]:List zN),D.sl .con ([]:List zE),dI 0,dI 0])∨(j=1001∧o=yD.cells [dI 0])∨(j=1002∧o=yD.cells [dI 0])∨(j=3000∧o=yD.cells [dI a,dI e]):=λj o h=>by
  simp only[xX]at h
  split at h
  ·injection h with h;exact .inl ⟨by omega,h.symm⟩
  split at h
  ·injection h with h;exact .inr (.inl ⟨by omega,h.symm⟩)
  split at h
  ·injection h with h;exact .inr (.inr (.inl ⟨by omega,h.symm⟩))
  split at h
  ·injection h with h;exact .inr (.inr (.inr ⟨by omega,h.symm⟩))
  ·cases h
 have hob:∀j o b,zZ j ([(1000,yD.cells [D.sl .var ([]:List zN),D.sl .con ([]:List zE),dI 0,dI 0]),(1001,yD.cells [dI 0]),(1002,yD.cells [dI 0]),(3000,yD.cells [dI a,dI e])]:List (Nat×yD))=some o→pY (pl j)=some b→
   (j=1000∧b=p)∨(j=1001∧b=q)∨(j=1002∧b=r)∨(j=3000∧b=k):=λj o b h h2=>by
  rcases hlook j o h with⟨rfl,_⟩|⟨rfl,_⟩|⟨rfl,_⟩|⟨rfl,_⟩<;>simp[pl,pY]at h2<;>simp[h2]
 have m:rL Tryz.prog b0 22 ⟨[(0,.ptr 1000 0),(1,.ptr 1001 0),(2,.ptr 1002 0),(4,.ptr 3000 0)],[(1000,yD.cells [D.sl .var ([]:List zN),D.sl .con ([]:List zE),dI 0,dI 0]),(1001,yD.cells [dI 0]),(1002,yD.cells [dI 0]),(3000,yD.cells [dI a,dI e])]⟩ act w (λ_=>False) pl:=by
  refine⟨dz,sz,λi=> ?_,λj o h=> ?_,λb h=>h.elim,λb h=>h.elim,λj o b h h2=> ?_,λj j' o o' b h h' h1 h2=> ?_,hb,λ_ _=>rfl,hg⟩
  ·show Rd w _ pl _ (D.or (zZ i [(0,D.ptr 1000 0),(1,.ptr 1001 0),(2,.ptr 1002 0),(4,.ptr 3000 0)]))
   simp only[xX];split
   ·rename_i h;subst h;exact⟨p,rfl,t0⟩
   split
   ·rename_i h;subst h;exact⟨q,rfl,t1⟩
   split
   ·rename_i h;subst h;exact⟨r,rfl,t2⟩
   split
   ·rename_i h;subst h;exact⟨k,rfl,t4⟩
   ·exact nW
  ·rcases hlook j o h with⟨rfl,rfl⟩|⟨rfl,rfl⟩|⟨rfl,rfl⟩|⟨rfl,rfl⟩
   ·refine⟨p,_,_,rfl,hp,rfl,λi d hd=> ?_,λe=>by cases e⟩
    match i,hd with
    |0,hd=>injection hd with hd;subst hd;exact Rp.rd (zio .var)
    |1,hd=>injection hd with hd;subst hd;exact Rp.rd (zio .con)
    |2,hd=>injection hd with hd;subst hd;exact Rp.rd (.int_mk (by unfold yJ;omega))
    |3,hd=>injection hd with hd;subst hd;exact Rp.rd (.int_mk (by unfold yJ;omega))
   ·refine⟨q,_,_,rfl,hq,rfl,λi d hd=> ?_,λe=>by cases e⟩
    match i,hd with
    |0,hd=>injection hd with hd;subst hd;exact Rp.rd (.int_mk (by unfold yJ;omega))
   ·refine⟨r,_,_,rfl,hr,rfl,λi d hd=> ?_,λe=>by cases e⟩
    match i,hd with
    |0,hd=>injection hd with hd;subst hd;exact Rp.rd (.int_mk (by unfold yJ;omega))
   ·refine⟨k,_,_,rfl,hk,rfl,λi d hd=> ?_,λe=>by cases e⟩
    match i,hd with
    |0,hd=>injection hd with hd;subst hd;exact Rp.rd (.int_mk ha)
    |1,hd=>injection hd with hd;subst hd;exact Rp.rd (.int_mk he)
  ·rcases hob j o b h h2 with⟨_,rfl⟩|⟨_,rfl⟩|⟨_,rfl⟩|⟨_,rfl⟩
   ·exact⟨.inl (.inl rfl),lt hp,id⟩
   ·exact⟨.inl (.inr (.inl rfl)),lt hq,id⟩
   ·exact⟨.inl (.inr (.inr rfl)),lt hr,id⟩
   ·exact⟨.inr lk,lt hk,id⟩
  ·rcases hob j o b h h1 with⟨rfl,e1⟩|⟨rfl,e1⟩|⟨rfl,e1⟩|⟨rfl,e1⟩<;>rcases hob j' o' b h' h2 with⟨rfl,e2⟩|⟨rfl,e2⟩|⟨rfl,e2⟩|⟨rfl,e2⟩<;>first|rfl|(exfalso;subst e1;omega)
 refine wp_mono (zcB MO (A:=zdV) (b0:=b0) _ 0 _ _ act w hden ⟨_,_,m⟩) λx a' w' h=> ?_
 rcases h with⟨x',σ,hx,⟨rfl,h1,h2,h3⟩,S',pl',m'⟩|⟨u,σ,_,⟨h,_⟩,_⟩
 ·have hx:x=.normal:=by cases x<;>simp[zai]at hx⊢
  refine⟨hx,m'.dz,m'.below,?_,?_,?_⟩
  ·obtain⟨b,vs,T,e1,e2,e3,e4,_⟩:=m'.hp _ _ h1
   have:pl' 1000=kI p:=m'.stay 1000 rfl;rw[this]at e1;injection e1 with e1;injection e1 with e1;injection e1 with e1;subst e1
   refine⟨vs,T,e2,e3,λi d hd=> ?_⟩
   have:=e4 i d hd
   have hf:d.ref=none:=by
    match i,hd with
    |0,hd=>injection hd with hd;subst hd;rfl
    |1,hd=>injection hd with hd;subst hd;rfl
    |2,hd=>injection hd with hd;subst hd;rfl
    |3,hd=>injection hd with hd;subst hd;rfl
   refine(this.flat hf).mono (λ_ _=>rfl) λb hS=>⟨?_,m'.lt b hS⟩
   rcases m'.src b hS with h|h|h
   ·exact h.elim
   ·exfalso
    have:∃j o,zZ j σ.hp=some o∧pY (pl' j)=some b:=by
     rcases h with rfl|rfl|rfl
     ·exact⟨1000,_,h1,by rw[m'.stay 1000 rfl];rfl⟩
     ·exact⟨1001,_,h2,by rw[m'.stay 1001 rfl];rfl⟩
     ·exact⟨1002,_,h3,by rw[m'.stay 1002 rfl];rfl⟩
    obtain⟨j,o,q1,q2⟩:=this;exact(m'.priv j o b q1 q2).2.2 hS
   ·exact h
  ·obtain⟨b,vs,T,e1,e2,e3,e4,_⟩:=m'.hp _ _ h2
   have:pl' 1001=kI q:=m'.stay 1001 rfl;rw[this]at e1;injection e1 with e1;injection e1 with e1;injection e1 with e1;subst e1
   have h0:=((e4 0 _ rfl).flat (d:=dI a) rfl).int_inv.1;refine⟨T,?_⟩;rw[e2]
   congr 2
   have e3:vs.size=1:=e3;apply Array.ext
   ·simpa using e3
   ·intro i i1 i2
    have:i=0:=by omega
    subst this;rw[Array.getD_eq_getD_getElem?,Array.getElem?_eq_getElem i1]at h0
    simpa using h0
  ·obtain⟨b,vs,T,e1,e2,e3,e4,_⟩:=m'.hp _ _ h3
   have:pl' 1002=kI r:=m'.stay 1002 rfl;rw[this]at e1;injection e1 with e1;injection e1 with e1;injection e1 with e1;subst e1
   have h0:=((e4 0 _ rfl).flat (d:=dI e) rfl).int_inv.1;refine⟨T,?_⟩;rw[e2]
   congr 2
   have e3:vs.size=1:=e3;apply Array.ext
   ·simpa using e3
   ·intro i i1 i2
    have:i=0:=by omega
    subst this;rw[Array.getD_eq_getD_getElem?,Array.getElem?_eq_getElem i1]at h0
    simpa using h0
 ·cases h
set_option maxRecDepth 100000 in
theorem HA(p q r:Nat)(w:World):CallsD Tryz.prog 93 #[kI p,kI q,kI r] .returning w λen u' w'=>en=.returned (.tuple #[])∧u'=.returning∧w'=w:=by
 refine callsD_of_wpS Tryz.func93 rfl λc₀ cs hu=> ?_
 apply wpS_seq;apply wpS_region;simp[wpOpsS,go_sem,recoverD,hu,Tryz.ntmps93,Exit.thenS];apply wpS_seq;apply wpS_region;simp[wpOpsS,go_sem,Exit.thenS];refine wpS_cond (t:=false) (by simp[Act.eval,Array.replicate]) ?_
 simp only[Bool.false_eq_true,if_false];refine wpS_of_wp (wp_skip ?_);cases c₀
 simp_all[bodyPostS,results,Tryz.results93,Exit.thenS]
set_option maxRecDepth 100000 in
theorem EO{a e:Int}(ha:yJ a)(he:yJ e)(p q r:Nat)(w:World){Tp Tq Tr:TypeId}
  (hp:w.heap[p]? =some (.cells #[.slice none 0 0,.slice none 0 0,.int .i64 0,.int .i64 0] Tp (0,0))) (hq:w.heap[q]? =some (.cells #[.int .i64 0] Tq (0,0))) (hr:w.heap[r]? =some (.cells #[.int .i64 0] Tr (0,0)))
  (hpq:p≠q) (hpr:p≠r) (hqr:q≠r) (hg:DT Tryz.prog w (λb=>b=p∨b=q∨b=r)):
  CallsD Tryz.prog 93 #[kI p,kI q,kI r] (.panicking [{v:=EN a e,recovered:=false}]) w λen u' w'=>en=.returned (.tuple #[])∧u'=.panicking [{v:=EN a e,recovered:=true}]∧zin w w' p q r a e:=by
 refine callsD_of_wpS Tryz.func93 rfl λc₀ cs hu=> ?_
 have hta:∀w:World,(Instr.typeAssert (.iface 158 (.agg #[.int .i64 a,.int .i64 e])) 20 158 true).run Tryz.prog w=.ok (.tuple #[.agg #[.int .i64 a,.int .i64 e],.bool true]) w:=λ_=>by kernel_rfl
 simp only[Tryz.ntmps93,List.size_toArray,List.length_cons,List.length_nil,Nat.reduceAdd,Nat.reduceSub,Array.replicate_succ,Array.replicate_zero,List.push_toArray,List.append_toArray,List.nil_append,List.cons_append];apply wpS_seq;apply wpS_region;simp[wpOpsS,go_sem,recoverD,hu,Exit.thenS];apply wpS_seq;apply wpS_region;simp[wpOpsS,go_sem,Exit.thenS];refine wpS_cond (t:=true) (by simp[Act.eval]) ?_
 simp only[if_true];refine wpS_of_wp ?_;refine wp_seq ?_;refine wp_mono (Q:=λx a' w'=>x=.normal∧a'=⟨#[kI p,kI q,kI r,EN a e,kI w.heap.size,.bool true,EN a e,EN a e,.bool true,(.tuple #[.agg #[.int .i64 a,.int .i64 e],.bool true]),EN a e,(.tuple #[.agg #[.int .i64 a,.int .i64 e],.bool true]),(.agg #[.int .i64 a,.int .i64 e]),.bool true,undef,undef,undef,undef,undef,undef,undef,undef],[]⟩∧w'=w.alloc (.cells #[.int .i64 a,.int .i64 e] 158)) ?_ ?_
 ·go_wp2_with fail
 rintro x a' w' ⟨rfl,rfl,rfl⟩;refine wp_seq ?_;refine wp_mono (Q:=λx a1 w1=>x=.normal∧a1=⟨#[kI p,kI q,kI r,EN a e,kI w.heap.size,.bool true,EN a e,EN a e,.bool true,(.tuple #[.agg #[.int .i64 a,.int .i64 e],.bool true]),EN a e,(.tuple #[.agg #[.int .i64 a,.int .i64 e],.bool true]),(.agg #[.int .i64 a,.int .i64 e]),.bool true,.bool true,.bool false,undef,undef,undef,undef,undef,undef],[]⟩∧w1=w.alloc (.cells #[.int .i64 a,.int .i64 e] 158)) ?_ ?_
 ·go_wp2_with fail
 rintro x a1 w1 ⟨rfl,rfl,rfl⟩;have hb:Below w.heap.size w (w.alloc (.cells #[.int .i64 a,.int .i64 e] 158)):=by(repeat'(first|(with_reducible exact Below.refl _ _)|(with_reducible assumption)|(with_reducible refine vK ?_ _)|(with_reducible refine Below.alloc ?_ ?_ _)|(with_reducible refine Below.setCell ?_ ?_ _)|(with_reducible refine Below.drew ?_)|go_size))
 have hk:(w.alloc (.cells #[.int .i64 a,.int .i64 e] 158)).heap[w.heap.size]? =some (.cells #[.int .i64 a,.int .i64 e] 158 (0,0)):=by unfold World.alloc;simp
 have lt:∀ {b:Nat} {o:Obj},w.heap[b]? =some o→b<w.heap.size:=λh=>(Array.getElem?_eq_some_iff.1 h).1
 refine wp_mono (zdW rfl rfl rfl rfl rfl rfl ((hb.block _ (lt hp)).trans hp) ((hb.block _ (lt hq)).trans hq) ((hb.block _ (lt hr)).trans hr) hk ha he (lt hp) (lt hq) (lt hr) (Nat.le_refl _) hpq hpr hqr (.of hb) hg) ?_;rintro x a2 w2 ⟨rfl,dz,hc⟩;refine⟨dz,_,rfl,.tuple #[],?_,rfl,rfl,hc⟩;simp[results,Tryz.results93]
def goW:List ByteArray:=[⟨#[97,110,121]⟩,⟨#[108,101,97,115,116]⟩,⟨#[109,111,115,116]⟩]
def UM(m:zG):zG×Int×Int:=if xL m=0 then(m,0,0)else(kH,0,xL m)
def JE(l:List vL)(en:Int):zG×Int×Int:=match eC zD yB l with
 | .ok (m,_) _=>UM m
 | .err j e=>(kH,uX l en j,e)
theorem zbV:NT .str:=λa b=>decide_eq_true_iff
theorem Ip{s:ByteArray}{v:zN}:∀(vs:List zN) (i:Int),oE s (vs++[v]) i=match oE s vs i with
  |some n=>some n
  |none=>if v.name=s then some (i+vs.length)else none
 |[],i=>by
  simp only[List.nil_append,oE];split
  ·rw[List.length_nil];congr 1;omega
  ·rfl
 |u::r,i=>by
  rw[List.cons_append,oE,oE];split
  ·rfl
  ·rw[Ip r (i+1)]
   cases oE s r (i+1)with
   |some n=>rfl
   |none=>
    simp only[List.length_cons];split
    ·congr 1;omega
    ·rfl
theorem zdX{vs:List zN}{ns:List (ByteArray×Int)}{v:zN}(hN:∀s,uH .str .int s ns=oE s vs 0)(s:ByteArray):uH .str .int s (bW ns v.name vs.length)=oE s (vs++[v]) 0:=by
 rw[Ip,←hN s,bW,PK];cases hm:uH .str .int v.name ns with
 |some n=>
  rw[if_pos Option.isSome_some];cases hs:uH .str .int s ns with
  |some k=>rfl
  |none=>
   simp only;rw[if_neg];intro e;rw[e,hs]at hm;cases hm
 |none=>
  rw[if_neg (by decide)]
  by_cases e:s=v.name
  ·subst e
   rw[WA (kt:=.str) (vt:=.int) zbV,hm];show some (vs.length:Int)=if _ then some (0+(vs.length:Int))else none
   rw[if_pos rfl,Int.zero_add]
  ·rw[YD (kt:=.str) (vt:=.int) zbV e]
   cases uH .str .int s ns with
   |some k=>rfl
   |none=>simp only;rw[if_neg λx=>e x.symm]
section
variable {l:List vL}{en:Int}{pv:List zN}{names:List (ByteArray×Int)}{R:D→Prop}
theorem zbW(hl:l.length*32≤140737488355328){j:Nat}{er:Int}(he:er≠0){pc:List zE}(hR:R (dR (kH,uX l en j,er))):∃n,qF R l n ([]:List zN) ([]:List zE) 0 0 l (j:Int) en er 0 0 pv pc:=by
 refine⟨1,?_⟩;rw[oI];refine⟨_,xV j er,?_⟩;rw[YH he];refine df (by decide) ⟨_,_,wI (s:=⟨#[115,111,108,118,101]⟩) (by decide) j er,?_⟩
 rw[nJ,if_neg he];obtain⟨xw,sw,hw,aw,_,_⟩:=Ul (l:=l) (en:=en) (goal:=0) (mvar:=0) (pv:=pv) (pc:=pc) (ss:=goW) (by decide) (by decide) j er
 have hs:sw=(j,er):=aw.1.trans (if_neg he);subst hs;refine⟨_,_,_,hw,df he ⟨_,_,wI (s:=⟨#[59]⟩) (by decide) j er,?_⟩⟩
 rw[nJ,if_neg he]
 by_cases hlt:j<l.length
 ·refine dt (by omega) ⟨_,xS j er 1,?_⟩
  rw[if_neg he];exact NB he ⟨⟨_,xG j er,(λh=>⟨h,h⟩) hR⟩,_,xG j er,hR⟩
 ·exact df (by omega) (NB he ⟨⟨_,xG j er,(λh=>⟨h,h⟩) hR⟩,_,xG j er,hR⟩)
theorem zbX{j:Nat}:Yj zD l names j=(xD l [⟨#[115,111,108,118,101]⟩] j).bind λ_ j=>(dZ l goW j).bind λo j=>if o=0 then Yi l (0,0) j else(vP zD names l j).bind λv j=>Yi l (o,v) j:=by
 unfold Yj
 congr 1;funext _ j
 simp only[dZ,goW,lV];cases h1:xJ l ⟨#[97,110,121]⟩ j with
 |true=>rfl
 |false=>
  cases h2:xJ l ⟨#[108,101,97,115,116]⟩ j with
  |true=>rfl
  |false=>
   cases h3:xJ l ⟨#[109,111,115,116]⟩ j with
   |true=>simp only[xD,h3];rfl
   |false=>simp only[xD,h3];rfl
theorem AX(hl:l.length*32≤140737488355328)(hN:∀s,uH .str .int s names=oE s pv 0){pc:List zE}{j:Nat}(hnb:xJ l ⟨#[99,111,110]⟩ j=false)
  (hx:(Yj zD l names j).on (λg j'=>R (dR (UM ⟨pv,pc,g.1,g.2⟩))) (λj' e=>R (dR (kH,uX l en j',e)))):qF R l 1 ([]:List zN) ([]:List zE) 0 0 l (j:Int) en 0 0 0 pv pc:=by
 rw[oI];refine⟨_,xV j 0,df (λe=>by rw[(sV (by decide)).1 e]at hnb;cases hnb) ⟨_,_,wI (s:=⟨#[115,111,108,118,101]⟩) (by decide) j 0,?_⟩⟩
 rw[nJ,if_pos rfl];rw[zbX,xD,xD]at hx
 cases hb:xJ l ⟨#[115,111,108,118,101]⟩ j with
 |false=>
  rw[hb,if_neg (by decide)]at hx
  have hR:R (dR (kH,uX l en j,1)):=hx;rw[if_neg (by decide)]
  obtain⟨xw,sw,hw,aw,_,_⟩:=Ul (l:=l) (en:=en) (goal:=0) (mvar:=0) (pv:=pv) (pc:=pc) (ss:=goW) (by decide) (by decide) j 1
  have hs:sw=(j,1):=aw.1.trans (if_neg (by decide:(1:Int)≠0))
  subst hs;refine⟨_,_,_,hw,df (by decide:(1:Int)≠0) ⟨_,_,wI (s:=⟨#[59]⟩) (by decide) j 1,?_⟩⟩
  rw[nJ,if_neg (by decide:(1:Int)≠0)]
  by_cases hlt:j<l.length
  ·refine dt (by omega) ⟨_,xS j 1 1,?_⟩
   rw[if_neg (by decide:(1:Int)≠0)]
   exact NB (by decide:(1:Int)≠0) ⟨⟨_,xG j 1,(λh=>⟨h,h⟩) hR⟩,_,xG j 1,hR⟩
  ·exact df (by omega) (NB (by decide:(1:Int)≠0) ⟨⟨_,xG j 1,(λh=>⟨h,h⟩) hR⟩,_,xG j 1,hR⟩)
 |true=>
  rw[hb,if_pos rfl]at hx
  rw[if_pos rfl];simp only[Pr.bind]at hx
  generalize j+1=j1 at hx⊢
  have hx:((dZ l goW j1).bind λo j=>if o=0 then Yi l (0,0) j else(vP zD names l j).bind λv j=>Yi l (o,v) j).on (λg j'=>R (dR (UM ⟨pv,pc,g.1,g.2⟩))) (λj' e=>R (dR (kH,uX l en j',e))):=hx
  obtain⟨xw,sw,hw,aw,b1,b2⟩:=Ul (l:=l) (en:=en) (goal:=0) (mvar:=0) (pv:=pv) (pc:=pc) (ss:=goW) (by decide) (by decide) j1 0
  refine⟨_,_,_,hw,?_⟩;have hs:sw=(dZ l goW j1).st:=aw.1.trans (if_pos rfl);have hv:=aw.2 rfl;clear aw hw;cases hr:dZ l goW j1 with
  |err k e=>
   rw[hr]at hx hs
   have hR:R (dR (kH,uX l en k,e)):=hx;have he:=oR _ _ _ hr;have hs:sw=(k,e):=hs;subst hs;refine df he ⟨_,_,wI (s:=⟨#[59]⟩) (by decide) k e,?_⟩
   rw[nJ,if_neg he]
   by_cases hlt:k<l.length
   ·refine dt (by omega) ⟨_,xS k e 1,?_⟩
    rw[if_neg he];exact NB he ⟨⟨_,xG k e,(λh=>⟨h,h⟩) hR⟩,_,xG k e,hR⟩
   ·exact df (by omega) (NB he ⟨⟨_,xG k e,(λh=>⟨h,h⟩) hR⟩,_,xG k e,hR⟩)
  |ok o k=>
   rw[hr]at hx hs hv
   have hs:sw=(k,0):=hs;have:=hv _ _ rfl;subst hs this;have hx:(if xw=0 then Yi l (0,0) k else(vP zD names l k).bind λv j=>Yi l (xw,v) j).on (λg j'=>R (dR (UM ⟨pv,pc,g.1,g.2⟩))) (λj' e=>R (dR (kH,uX l en j',e))):=hx
   refine dt rfl ?_
   by_cases h0:xw=0
   ·subst h0
    rw[if_pos rfl]at hx
    refine Ai rfl ?_;rw[Yi,xD,xD]at hx
    refine⟨_,_,wI (s:=⟨#[59]⟩) (by decide) k 0,?_⟩
    rw[nJ,if_pos rfl];cases hq:xJ l ⟨#[59]⟩ k with
    |false=>
     rw[hq,if_neg (by decide)]at hx
     rw[if_neg (by decide)]
     simp only[Pr.bind,Pr.on]at hx
     by_cases hlt:k<l.length
     ·refine dt (by omega) ⟨_,xS k 1 1,?_⟩
      rw[if_neg (by decide:(1:Int)≠0)]
      exact NB (by decide:(1:Int)≠0) ⟨⟨_,xG k 1,(λh=>⟨h,h⟩) hx⟩,_,xG k 1,hx⟩
     ·exact df (by omega) (NB (by decide:(1:Int)≠0) ⟨⟨_,xG k 1,(λh=>⟨h,h⟩) hx⟩,_,xG k 1,hx⟩)
    |true=>
     rw[hq,if_pos rfl]at hx
     rw[if_pos rfl];simp only[Pr.bind]at hx
     generalize k+1=k at hx⊢
     by_cases hlt:k<l.length
     ·rw[if_pos hlt]at hx
      refine dt (by omega) ⟨_,xS k 0 1,?_⟩
      rw[if_pos rfl];exact NB (by decide) ⟨⟨_,xG k 1,(λh=>⟨h,h⟩) hx⟩,_,xG k 1,hx⟩
     ·rw[if_neg hlt]at hx
      refine df (by omega) (Ai rfl (zH (t:=.int) (aX ⟨pv,pc,_,_⟩) ?_))
      simp only[Pr.on,UM]at hx
      by_cases hc:xL ⟨pv,pc,0,0⟩=0
      ·rw[if_pos hc]at hx
       refine Ai hc ?_;rw[hc];exact hx
      ·rw[if_neg hc]at hx
       exact NB hc hx
   ·rw[if_neg h0]at hx
    obtain⟨xv,sv,hv2,av⟩:=(gX (l:=l) (en:=en) (goal:=xw) (mvar:=0) (pv:=pv) (pc:=pc) hN k 0).ans;refine NB h0 ⟨_,_,_,hv2,?_⟩;have hs2:sv=(vP zD names l k).st:=av.1.trans (if_pos rfl);have hv3:=av.2 rfl;clear av hv2;cases hr2:vP zD names l k with
    |err k2 e=>
     rw[hr2]at hx hs2
     have hR:R (dR (kH,uX l en k2,e)):=hx;have he:=fu _ _ _ hr2;have hs2:sv=(k2,e):=hs2;subst hs2;refine⟨_,_,wI (s:=⟨#[59]⟩) (by decide) k2 e,?_⟩
     rw[nJ,if_neg he]
     by_cases hlt:k2<l.length
     ·refine dt (by omega) ⟨_,xS k2 e 1,?_⟩
      rw[if_neg he];exact NB he ⟨⟨_,xG k2 e,(λh=>⟨h,h⟩) hR⟩,_,xG k2 e,hR⟩
     ·exact df (by omega) (NB he ⟨⟨_,xG k2 e,(λh=>⟨h,h⟩) hR⟩,_,xG k2 e,hR⟩)
    |ok v k2=>
     rw[hr2]at hx hs2 hv3
     have hs2:sv=(k2,0):=hs2;have:=hv3 _ _ rfl;subst hs2 this;have hx:(Yi l (xw,xv) k2).on (λg j'=>R (dR (UM ⟨pv,pc,g.1,g.2⟩))) (λj' e=>R (dR (kH,uX l en j',e))):=hx
     rw[Yi,xD,xD]at hx
     refine⟨_,_,wI (s:=⟨#[59]⟩) (by decide) k2 0,?_⟩
     rw[nJ,if_pos rfl];cases hq:xJ l ⟨#[59]⟩ k2 with
     |false=>
      rw[hq,if_neg (by decide)]at hx
      rw[if_neg (by decide)]
      simp only[Pr.bind,Pr.on]at hx
      by_cases hlt:k2<l.length
      ·refine dt (by omega) ⟨_,xS k2 1 1,?_⟩
       rw[if_neg (by decide:(1:Int)≠0)]
       exact NB (by decide:(1:Int)≠0) ⟨⟨_,xG k2 1,(λh=>⟨h,h⟩) hx⟩,_,xG k2 1,hx⟩
      ·exact df (by omega) (NB (by decide:(1:Int)≠0) ⟨⟨_,xG k2 1,(λh=>⟨h,h⟩) hx⟩,_,xG k2 1,hx⟩)
     |true=>
      rw[hq,if_pos rfl]at hx
      rw[if_pos rfl];simp only[Pr.bind]at hx
      generalize k2+1=k at hx⊢
      by_cases hlt:k<l.length
      ·rw[if_pos hlt]at hx
       refine dt (by omega) ⟨_,xS k 0 1,?_⟩
       rw[if_pos rfl];exact NB (by decide) ⟨⟨_,xG k 1,(λh=>⟨h,h⟩) hx⟩,_,xG k 1,hx⟩
      ·rw[if_neg hlt]at hx
       refine df (by omega) (Ai rfl (zH (t:=.int) (aX ⟨pv,pc,_,_⟩) ?_))
       simp only[Pr.on,UM]at hx
       by_cases hc:xL ⟨pv,pc,xw,xv⟩=0
       ·rw[if_pos hc]at hx
        refine Ai hc ?_;rw[hc];exact hx
       ·rw[if_neg hc]at hx
        exact NB hc hx
theorem Zi{s:ByteArray}:Pa (xD l [s]):=λi j e h=>by
 rw[xD,xD]at h
 split at h
 ·cases h
 ·injection h with _ h;subst h;decide
theorem zgn{o:Int}:Pa (jJ zD yB names l o):=λi j e h=>by
 unfold jJ at h
 split at h
 ·exact vX (uY jI) (λ_=>vX (uY fu) λ_=>vX jI λ_=>Ya (f:=λj=>j)) _ _ _ h
 split at h
 ·exact vX (uY fu) (λ_=>Ya (f:=λj=>j)) _ _ _ h
 split at h
 ·exact vX (uY jI) (λ_=>vX (YJ 2 []) λ_=>Ya (f:=λj=>j)) _ _ _ h
 split at h
 ·exact vX (uY fu) (λ_=>vX (uY (uY jI)) λ_=>Ya (f:=λj=>j)) _ _ _ h
 split at h
 ·exact vX (YJ 3 []) (λ_=>Ya (f:=λj=>j)) _ _ _ h
 split at h
 ·exact vX fu (λ_=>vX (uY fu) λ_=>Ya (f:=λj=>j)) _ _ _ h
 split at h
 ·exact vX (uY Pe) (λ_=>Ya (f:=λj=>j)) _ _ _ h
 ·exact vX (YJ 1 []) (λ_=>vX Pe λ_=>Ya (f:=λj=>j)) _ _ _ h
theorem zbY:Pa (Rv zD yB names l):=λi j e h=>by
 rw[aA]at h
 exact vX oR (λo=>zgn) _ _ _ h
theorem OX(hl:l.length*32≤140737488355328)(hd:Yo l)(hN:∀s,uH .str .int s names=oE s pv 0):∀(fuel:Nat) (cs:List zE) (j:Nat),j≤l.length→l.length<j+fuel→cs.length*4≤j→
  (((XW zD yB l names fuel cs j).bind λcs j=>(Yj zD l names j).bind λg j=> .ok (cs,g) j).on (λx j'=>R (dR (UM ⟨pv,x.1,x.2.1,x.2.2⟩))) (λj' e=>R (dR (kH,uX l en j',e))))→
  ∃n,qF R l n ([]:List zN) ([]:List zE) 0 0 l (j:Int) en 0 0 0 pv cs
 |0,cs,j,h1,h2,_,_=>by omega
 |fuel+1,cs,j,h1,h2,h3,hx=>by
  rw[XW]at hx
  cases hb:xJ l ⟨#[99,111,110]⟩ j with
  |false=>
   rw[hb,if_neg (by decide)]at hx
   have hx:((Yj zD l names j).bind λg j=>Pr.ok (cs,g) j).on _ _:=hx
   rw[Pr.on_bind]at hx
   exact⟨1,AX hl hN hb hx⟩
  |true=>
   rw[hb,if_pos rfl]at hx
   have hlt:=uA hb;obtain⟨c,s1,hc,ac⟩:=(zbU (en:=en) (goal:=0) (mvar:=0) (pv:=pv) (pc:=cs) hd hN (j+1) 0).ans;have hq:=wI (l:=l) (en:=en) (goal:=0) (mvar:=0) (pv:=pv) (pc:=cs) (s:=⟨#[59]⟩) (by decide) s1.1 s1.2
   have aq:kA ((Rv zD yB names l (j+1)).bind λc j=>(xD l [⟨#[59]⟩] j).bind λ_ j=> .ok c j) (j+1) 0 c (XF (xD l [⟨#[59]⟩] s1.1) s1.1 s1.2):=
    kA.bind (λi e h=>zbY _ _ _ h) ac (kA.bind (x:=()) (λi e h=>Zi _ _ _ h) ⟨rfl,λ_ _ _ _=>rfl⟩ kA.pure)
   have hst:XF (xD l [⟨#[59]⟩] s1.1) s1.1 s1.2=((Rv zD yB names l (j+1)).bind λc j=>(xD l [⟨#[59]⟩] j).bind λ_ j=> .ok c j).st:=aq.1.trans (if_pos rfl)
   have hval:=aq.2 rfl;have hroom:wN .con (cs.length+[c].length)=true:=xY (t:=.con) (by show(cs.length+1)*112≤_;omega)
   have hx:(((Rv zD yB names l (j+1)).bind λc j=>(xD l [⟨#[59]⟩] j).bind λ_ j=> .ok c j).bind λc j=>(XW zD yB l names fuel (cs++[c]) j).bind λcs j=>(Yj zD l names j).bind λg j=>Pr.ok (cs,g) j).on (λx j'=>R (dR (UM ⟨pv,x.1,x.2.1,x.2.2⟩))) (λj' e=>R (dR (kH,uX l en j',e))):=by
    revert hx;cases Rv zD yB names l (j+1)with
    |err k e=>exact id
    |ok y k=>
     simp only[Pr.bind];cases xD l [⟨#[59]⟩] k with
     |err k e=>exact id
     |ok y k=>exact id
   have hadv:∀c k,((Rv zD yB names l (j+1)).bind λc j=>(xD l [⟨#[59]⟩] j).bind λ_ j=> .ok c j)=.ok c k→j+4≤k∧k≤l.length:=λc k h=>by
    obtain⟨y,k1,h1,h4⟩:=sN h;obtain⟨u,k2,h5,h6⟩:=sN h4;have:=zeE h1;have:=Va h5;injection h6 with _ h6
    omega
   have herr:∀k e,((Rv zD yB names l (j+1)).bind λc j=>(xD l [⟨#[59]⟩] j).bind λ_ j=> .ok c j)=.err k e→e≠0:=λk e h=>vX (f:=Rv zD yB names l) (λi j e h=>zbY _ _ _ h) (λc=>vX (Zi (s:=⟨#[59]⟩)) λ_=>Ya (f:=λj=>j)) _ _ _ h
   generalize((Rv zD yB names l (j+1)).bind λc j=>(xD l [⟨#[59]⟩] j).bind λ_ j=>Pr.ok c j)=r at hst hval hx hadv herr
   rw[hst]at hq
   cases r with
   |err k e=>
    have he:=herr _ _ rfl;obtain⟨n,hr⟩:=zbW (pv:=pv) (R:=R) hl he (pc:=cs++[c]) (j:=k) hx;refine⟨n+1,?_⟩;rw[oI];refine⟨_,xV j 0,dt ((sV (by decide)).2 hb) ⟨_,_,wI (s:=⟨#[99,111,110]⟩) (by decide) j 0,?_⟩⟩
    rw[nJ,if_pos rfl,if_pos hb];exact⟨_,_,_,hc,_,_,hq,hroom,hr⟩
   |ok y k=>
    have:=hval _ _ rfl;subst this;obtain⟨a1,a2⟩:=hadv _ _ rfl;obtain⟨n,hr⟩:=OX hl hd hN fuel (cs++[c]) k a2 (by omega) (by rw[List.length_append];show(_+1)*4≤_;omega) hx
    refine⟨n+1,?_⟩;rw[oI];refine⟨_,xV j 0,dt ((sV (by decide)).2 hb) ⟨_,_,wI (s:=⟨#[99,111,110]⟩) (by decide) j 0,?_⟩⟩
    rw[nJ,if_pos rfl,if_pos hb];exact⟨_,_,_,hc,_,_,hq,hroom,hr⟩
def DP(l:List vL)(s:ByteArray)(j:Nat):Pr zN:=(xD l [⟨#[58]⟩] j).bind λ_ j=>(kP yB l j).bind λa j=>(xD l [⟨#[46,46]⟩] j).bind λ_ j=>(kP yB l j).bind λb j=>(xD l [⟨#[59]⟩] j).bind λ_ j=> .ok ⟨s,a,b⟩ j
theorem zgo{s:ByteArray}:Pa (DP l s):=vX Zi λ_=>vX jI λa=>vX Zi λ_=>vX jI λb=>vX Zi λ_=>Ya (f:=λj=>j)
theorem C8(hd:Yo l)(vs:List zN)(s:ByteArray)(j:Nat)(er:Int):∃(a b:Int) (s1 s2 s3 s4 s5:Nat×Int),
  yH zS [.ptr 1000 0,.str ⟨#[58]⟩] (iY l en 0 0 [] [] j er) (.tup []) (iY l en 0 0 [] [] s1.1 s1.2)∧
  yH yZ [.ptr 1000 0] (iY l en 0 0 [] [] s1.1 s1.2) (dI a) (iY l en 0 0 [] [] s2.1 s2.2)∧
  yH zS [.ptr 1000 0,.str ⟨#[46,46]⟩] (iY l en 0 0 [] [] s2.1 s2.2) (.tup []) (iY l en 0 0 [] [] s3.1 s3.2)∧
  yH yZ [.ptr 1000 0] (iY l en 0 0 [] [] s3.1 s3.2) (dI b) (iY l en 0 0 [] [] s4.1 s4.2)∧
  yH zS [.ptr 1000 0,.str ⟨#[59]⟩] (iY l en 0 0 [] [] s4.1 s4.2) (.tup []) (iY l en 0 0 [] [] s5.1 s5.2)∧kA (DP l s j) j er ⟨s,a,b⟩ s5:=by
 have n1:=wI (l:=l) (en:=en) (goal:=0) (mvar:=0) (pv:=[]) (pc:=[]) (s:=⟨#[58]⟩) (by decide) j er
 have a1:kA (xD l [⟨#[58]⟩] j) j er () (XF (xD l [⟨#[58]⟩] j) j er):=⟨rfl,λ_ _ _ _=>rfl⟩
 generalize XF (xD l [⟨#[58]⟩] j) j er=s1 at n1 a1
 obtain⟨a,s2,k2,a2⟩:=(YI (l:=l) (en:=en) (goal:=0) (mvar:=0) (pv:=[]) (pc:=[]) hd s1.1 s1.2).ans;have n3:=wI (l:=l) (en:=en) (goal:=0) (mvar:=0) (pv:=[]) (pc:=[]) (s:=⟨#[46,46]⟩) (by decide) s2.1 s2.2
 have a3:kA (xD l [⟨#[46,46]⟩] s2.1) s2.1 s2.2 () (XF (xD l [⟨#[46,46]⟩] s2.1) s2.1 s2.2):=⟨rfl,λ_ _ _ _=>rfl⟩
 generalize XF (xD l [⟨#[46,46]⟩] s2.1) s2.1 s2.2=s3 at n3 a3
 obtain⟨b,s4,k4,a4⟩:=(YI (l:=l) (en:=en) (goal:=0) (mvar:=0) (pv:=[]) (pc:=[]) hd s3.1 s3.2).ans;have n5:=wI (l:=l) (en:=en) (goal:=0) (mvar:=0) (pv:=[]) (pc:=[]) (s:=⟨#[59]⟩) (by decide) s4.1 s4.2
 have a5:kA (xD l [⟨#[59]⟩] s4.1) s4.1 s4.2 () (XF (xD l [⟨#[59]⟩] s4.1) s4.1 s4.2):=⟨rfl,λ_ _ _ _=>rfl⟩
 generalize XF (xD l [⟨#[59]⟩] s4.1) s4.1 s4.2=s5 at n5 a5
 exact⟨a,b,s1,s2,s3,s4,s5,n1,k2,n3,k4,n5,kA.bind (λi e h=>Zi _ _ _ h) a1 (kA.bind (λi e h=>jI _ _ _ h) a2 (kA.bind (λi e h=>Zi _ _ _ h) a3 (kA.bind (λi e h=>jI _ _ _ h) a4 (kA.bind (λi e h=>Zi _ _ _ h) a5 kA.pure))))⟩
theorem ziq{s:ByteArray}{i j:Nat}{x:zN}(h:DP l s i=.ok x j):i<j∧j≤l.length:=by
 unfold DP at h
 obtain⟨_,_,h2,h⟩:=sN h;obtain⟨_,_,h3,h⟩:=sN h;obtain⟨_,_,h4,h⟩:=sN h;obtain⟨_,_,h5,h⟩:=sN h;obtain⟨_,_,h6,h⟩:=sN h;injection h with _ h
 have:=Va h2;have:=W8 _ _ _ h3;have:=Va h4;have:=W8 _ _ _ h5;have:=Va h6;omega
theorem C9(hl:l.length*32≤140737488355328){j:Nat}{er:Int}(he:er≠0){vs:List zN}(hR:R (dR (kH,uX l en j,er))):∃n,sS R l n ([]:List zN) ([]:List zE) 0 0 l (j:Int) en er 0 0 vs [] []:=by
 refine⟨1,?_⟩;rw[qG];refine⟨_,xV j er,?_⟩;rw[YH he];exact df (by decide) (zbW hl he hR)
theorem OY(hl:l.length*32≤140737488355328)(hd:Yo l):∀(fuel:Nat) (vs:List zN) (ns:List (ByteArray×Int)) (j:Nat),j≤l.length→l.length<j+fuel→vs.length≤j→(∀s,uH .str .int s ns=oE s vs 0)→
  (((OL zD yB l fuel vs ns j).bind λx j=>(XW zD yB l x.2 (l.length+1) [] j).bind λcs j=>(Yj zD l x.2 j).bind λg j=> .ok (x,cs,g) j).on (λy j'=>R (dR (UM ⟨y.1.1,y.2.1,y.2.2.1,y.2.2.2⟩))) (λj' e=>R (dR (kH,uX l en j',e))))→
  ∃n,sS R l n ([]:List zN) ([]:List zE) 0 0 l (j:Int) en 0 0 0 vs [] []
 |0,vs,ns,j,h1,h2,_,_,_=>by omega
 |fuel+1,vs,ns,j,h1,h2,h3,hN,hx=>by
  rw[OL]at hx
  cases hb:xJ l ⟨#[118,97,114]⟩ j with
  |false=>
   rw[hb,if_neg (by decide)]at hx
   have hx:((XW zD yB l ns (l.length+1) [] j).bind λcs j=>(Yj zD l ns j).bind λg j=>Pr.ok ((vs,ns),cs,g) j).on _ _:=hx
   refine⟨1,?_⟩;rw[qG];refine⟨_,xV j 0,df (λe=>by rw[(sV (by decide)).1 e]at hb;cases hb) ?_⟩
   refine OX hl hd hN (l.length+1) [] j h1 (by omega) (Nat.zero_le _) ?_
   rw[Pr.on_bind]at hx⊢
   refine Pr.on_mono hx (λcs j' h=> ?_) λ_ _ h=>h
   rw[Pr.on_bind]at h⊢
   exact h
  |true=>
   rw[hb,if_pos rfl]at hx
   have hlt:=uA hb
   by_cases hc:j+1<l.length∧zD (rW l (j+1)).text=true
   ·have ht:Yn l (j+1) 0=(rW l (j+1)).text:=if_pos ⟨rfl,hc.1⟩
    have hx:((DP l (rW l (j+1)).text (j+2)).bind λv j=>(OL zD yB l fuel (vs++[v]) (bW ns v.name vs.length) j).bind λx j=>(XW zD yB l x.2 (l.length+1) [] j).bind λcs j=>(Yj zD l x.2 j).bind λg j=>Pr.ok (x,cs,g) j).on (λy j'=>R (dR (UM ⟨y.1.1,y.2.1,y.2.2.1,y.2.2.2⟩))) (λj' e=>R (dR (kH,uX l en j',e))):=by
     have e:Lb zD yB l (j+1)=DP l (rW l (j+1)).text (j+2):=by
      rw[Lb,ZP,if_pos hc];rfl
     rw[e]at hx
     revert hx;cases DP l (rW l (j+1)).text (j+2)with
     |ok y k=>exact id
     |err k e=>exact id
    obtain⟨a,b,s1,s2,s3,s4,s5,n1,k2,n3,k4,n5,aq⟩:=C8 (en:=en) hd vs (rW l (j+1)).text (j+2) 0;have hst:s5=(DP l (rW l (j+1)).text (j+2)).st:=aq.1.trans (if_pos rfl);have hval:=aq.2 rfl;have hroom:wN .var (vs.length+[(⟨(rW l (j+1)).text,a,b⟩:zN)].length)=true:=xY (t:=.var) (by show(vs.length+1)*32≤_;omega)
    clear aq;cases hr:DP l (rW l (j+1)).text (j+2)with
    |err k e=>
     rw[hr]at hst hx
     have he:=zgo _ _ _ hr;have hst:s5=(k,e):=hst;subst hst;obtain⟨n,hn⟩:=C9 (R:=R) hl he (vs:=vs++[⟨(rW l (j+1)).text,a,b⟩]) hx;refine⟨n+1,?_⟩;rw[qG];refine⟨_,xV j 0,dt ((sV (by decide)).2 hb) ⟨_,_,wI (s:=⟨#[118,97,114]⟩) (by decide) j 0,?_⟩⟩
     rw[nJ,if_pos rfl,if_pos hb];refine⟨_,xV (j+1) 0,?_⟩;rw[ht];refine zH (t:=.bool) (oV _) (bt hc.2 ?_);rw[nX (by omega)]
     exact⟨_,_,n1,_,_,_,k2,_,_,n3,_,_,_,k4,_,_,n5,hroom,hn⟩
    |ok y k=>
     rw[hr]at hst hx hval
     have hst:s5=(k,0):=hst;have:=hval _ _ rfl;subst hst this;have ha:=ziq hr;obtain⟨n,hn⟩:=OY hl hd fuel (vs++[(⟨(rW l (j+1)).text,a,b⟩:zN)]) (bW ns (rW l (j+1)).text vs.length) k ha.2 (by omega) (by rw[List.length_append];show _+1≤_;omega) (zdX (v:=⟨(rW l (j+1)).text,a,b⟩) hN) hx
     refine⟨n+1,?_⟩;rw[qG];refine⟨_,xV j 0,dt ((sV (by decide)).2 hb) ⟨_,_,wI (s:=⟨#[118,97,114]⟩) (by decide) j 0,?_⟩⟩
     rw[nJ,if_pos rfl,if_pos hb];refine⟨_,xV (j+1) 0,?_⟩;rw[ht];refine zH (t:=.bool) (oV _) (bt hc.2 ?_);rw[nX (by omega)]
     exact⟨_,_,n1,_,_,_,k2,_,_,n3,_,_,_,k4,_,_,n5,hroom,hn⟩
   ·have hf:zD (Yn l (j+1) 0)=false:=by
     unfold Yn;split
     ·rename_i x
      cases hbb:zD (rW l (j+1)).text with
      |false=>rfl
      |true=>exact absurd ⟨x.2,hbb⟩ hc
     ·exact L1
    have hR:R (dR (kH,uX l en (j+1),1)):=by
     have e:Lb zD yB l (j+1)=.err (j+1) 1:=by rw[Lb,ZP,if_neg hc];rfl
     rw[e]at hx;exact hx
    obtain⟨a,b,s1,s2,s3,s4,s5,n1,k2,n3,k4,n5,aq⟩:=C8 (en:=en) hd vs (Yn l (j+1) 0) (j+1) 1;have hst:s5=(j+1,1):=aq.1.trans (if_neg (by decide))
    subst hst;have hroom:wN .var (vs.length+[(⟨Yn l (j+1) 0,a,b⟩:zN)].length)=true:=xY (t:=.var) (by show(vs.length+1)*32≤_;omega)
    obtain⟨n,hn⟩:=C9 (R:=R) hl (by decide) (vs:=vs++[⟨Yn l (j+1) 0,a,b⟩]) hR
    refine⟨n+1,?_⟩;rw[qG];refine⟨_,xV j 0,dt ((sV (by decide)).2 hb) ⟨_,_,wI (s:=⟨#[118,97,114]⟩) (by decide) j 0,?_⟩⟩
    rw[nJ,if_pos rfl,if_pos hb];refine⟨_,xV (j+1) 0,zH (t:=.bool) (oV _) (bf hf ⟨_,xS (j+1) 0 1,?_⟩)⟩;rw[if_pos rfl];exact⟨_,_,n1,_,_,_,k2,_,_,n3,_,_,_,k4,_,_,n5,hroom,hn⟩
theorem zir(hl:l.length*32≤140737488355328)(hd:Yo l)(hR:R (dR (JE l en))):∃n,sS R l n ([]:List zN) ([]:List zE) 0 0 l 0 en 0 0 0 [] [] []:=by
 refine OY hl hd (l.length+1) [] [] 0 (Nat.zero_le _) (by omega) (Nat.le_refl _) (λs=>rfl) ?_
 have h:(eC zD yB l).on (λx j'=>R (dR (UM x.1))) (λj' e=>R (dR (kH,uX l en j',e))):=by
  unfold JE at hR
  cases hm:eC zD yB l with
  |ok x j=>rw[hm]at hR;exact hR
  |err j e=>rw[hm]at hR;exact hR
 rw[eC,Pr.on_bind]at h
 rw[Pr.on_bind];refine Pr.on_mono h (λx j h=> ?_) λ_ _ h=>h
 rw[Pr.on_bind]at h⊢
 refine Pr.on_mono h (λcs j h=> ?_) λ_ _ h=>h
 rw[Pr.on_bind]at h⊢
 exact h
end
def VL{α:Type}(f:Nat→Pr α):Prop:=∀i j e,f i=.err j e→e=1∨e=5
section
variable {l:List vL}{names:List (ByteArray×Int)}
theorem Pf:VL (vP zD names l):=λi j e h=>by
 unfold vP ZP at h
 split at h
 ·simp only[Pr.bind]at h
  split at h
  ·cases h
  ·injection h with h1 h2;subst h2;decide
 ·injection h with h1 h2;subst h2;decide
theorem Mg{nv:ByteArray→Int}:VL (kP nv l):=λi j e h=>by
 unfold kP Dr at h
 split at h<;>split at h<;>first|(cases h;done)|(injection h with _ h;subst h;decide)
theorem EP{α:Type}{f:Nat→Pr α}(hf:VL f):∀(n:Nat) (acc:List α),VL (uG l f n acc)
 |0,acc=>λi j e h=>by rw[uG]at h;injection h with _ h;subst h;decide
 |n+1,acc=>λi j e h=>by
  rw[uG]at h
  split at h
  ·cases hv:f (i+1)with
   |ok x k=>rw[hv]at h;exact EP hf n _ _ _ _ h
   |err k e'=>rw[hv]at h;injection h with _ h;subst h;exact hf _ _ _ hv
  ·rw[xD,xD]at h
   split at h
   ·cases h
   ·injection h with _ h;subst h;decide
theorem dJ{α:Type}{f:Nat→Pr α}(hf:VL f):VL (wH l f):=λi j e h=>by
 rw[nR]at h
 split at h
 ·split at h
  ·cases h
  ·cases hv:f (i+1)with
   |ok x k=>rw[hv]at h;exact EP hf _ _ _ _ _ h
   |err k e'=>rw[hv]at h;injection h with _ h;subst h;exact hf _ _ _ hv
 ·injection h with _ h;subst h;decide
theorem JF{ss:List ByteArray}:VL (dZ l ss):=λi j e h=>by
 unfold dZ at h
 split at h
 ·cases h
 ·injection h with _ h;subst h;decide
theorem xZ{α β:Type}{f:Nat→Pr α}{g:α→Nat→Pr β}(hf:VL f)(hg:∀x,VL (g x)):VL (λj=>(f j).bind g):=λi j e h=>by
 cases hv:f i with
 |ok x k=>simp only[hv,Pr.bind]at h;exact hg _ _ _ _ h
 |err k e'=>simp only[hv,Pr.bind]at h;injection h with _ h;subst h;exact hf _ _ _ hv
theorem Yb{α:Type}{x:α}{f:Nat→Nat}:VL (λj=>Pr.ok x (f j)):=λi j e h=>by cases h
theorem zbZ:VL (iQ zD yB names l):=λi j e h=>by
 rw[AU]at h
 exact xZ Pf (λv=>xZ JF λo=>xZ Mg λn=>Yb) _ _ _ h
theorem PI:∀(n:Nat) (acc:List Int),VL (Yg zD names l n acc)
 |0,acc=>λi j e h=>by cases h
 |n+1,acc=>λi j e h=>by
  rw[Yg]at h
  exact xZ (Pf (names:=names) (l:=l)) (λx=>PI n _) _ _ _ h
theorem WD{s:ByteArray}:VL (xD l [s]):=λi j e h=>by
 rw[xD,xD]at h
 split at h
 ·cases h
 ·injection h with _ h;subst h;decide
theorem zgp{o:Int}:VL (jJ zD yB names l o):=λi j e h=>by
 unfold jJ at h
 split at h
 ·exact xZ (dJ Mg) (λ_=>xZ (dJ Pf) λ_=>xZ Mg λ_=>Yb (f:=λj=>j)) _ _ _ h
 split at h
 ·exact xZ (dJ Pf) (λ_=>Yb (f:=λj=>j)) _ _ _ h
 split at h
 ·exact xZ (dJ Mg) (λ_=>xZ (PI 2 []) λ_=>Yb (f:=λj=>j)) _ _ _ h
 split at h
 ·exact xZ (dJ Pf) (λ_=>xZ (dJ (dJ Mg)) λ_=>Yb (f:=λj=>j)) _ _ _ h
 split at h
 ·exact xZ (PI 3 []) (λ_=>Yb (f:=λj=>j)) _ _ _ h
 split at h
 ·exact xZ Pf (λ_=>xZ (dJ Pf) λ_=>Yb (f:=λj=>j)) _ _ _ h
 split at h
 ·exact xZ (dJ zbZ) (λ_=>Yb (f:=λj=>j)) _ _ _ h
 ·exact xZ (PI 1 []) (λ_=>xZ zbZ λ_=>Yb (f:=λj=>j)) _ _ _ h
theorem zis:VL (Rv zD yB names l):=λi j e h=>by
 rw[aA]at h
 exact xZ JF (λo=>zgp) _ _ _ h
theorem zgq{s:ByteArray}:VL (DP l s):=xZ WD λ_=>xZ Mg λa=>xZ WD λ_=>xZ Mg λb=>xZ WD λ_=>Yb (f:=λj=>j)
theorem zit:VL (Lb zD yB l):=λi j e h=>by
 rw[Lb,ZP]at h
 split at h
 ·exact zgq _ _ _ h
 ·injection h with _ h;subst h;decide
theorem Ba:∀(n:Nat) (vs:List zN) (ns:List (ByteArray×Int)),VL (OL zD yB l n vs ns)
 |0,vs,ns=>λi j e h=>by rw[OL]at h;injection h with _ h;subst h;decide
 |n+1,vs,ns=>λi j e h=>by
  rw[OL]at h
  split at h
  ·exact xZ (zit (l:=l)) (λv=>Ba n _ _) _ _ _ h
  ·cases h
theorem Bb:∀(n:Nat) (cs:List zE),VL (XW zD yB l names n cs)
 |0,cs=>λi j e h=>by rw[XW]at h;injection h with _ h;subst h;decide
 |n+1,cs=>λi j e h=>by
  rw[XW]at h
  split at h
  ·exact xZ (zis (l:=l) (names:=names)) (λc=>xZ WD λ_=>Bb n _) _ _ _ h
  ·cases h
theorem Bc{x:Int×Int}:VL (Yi l x):=λi j e h=>by
 rw[Yi]at h
 refine xZ (WD (l:=l) (s:=⟨#[59]⟩)) (λ_=> ?_) _ _ _ h
 intro i j e h;have h:(if i<l.length then Pr.err i 1 else Pr.ok x i)=Pr.err j e:=h
 split at h
 ·injection h with _ h;subst h;decide
 ·cases h
theorem zgr:VL (Yj zD l names):=λi j e h=>by
 rw[zbX]at h
 refine xZ (WD (l:=l)) (λ_=>xZ (JF (l:=l)) λo=> ?_) _ _ _ h
 intro i j e h;have h:(if o=0 then Yi l (0,0) i else(vP zD names l i).bind λv j=>Yi l (o,v) j)=Pr.err j e:=h
 split at h
 ·exact Bc _ _ _ h
 ·exact xZ (Pf (l:=l) (names:=names)) (λv=>Bc) _ _ _ h
theorem Mh{j:Nat}{e:Int}(h:eC zD yB l=.err j e):e=1∨e=5:=by
 rw[eC]at h
 exact xZ (Ba (l:=l) _ [] []) (λx=>xZ (Bb (l:=l) (names:=x.2) _ []) λcs=>xZ (zgr (l:=l) (names:=x.2)) λg=>Yb (f:=λj=>j)) _ _ _ h
theorem ziu{w:World}{S:Nat→Prop}{pl:Nat→Value}{en goal mvar:Int}{pv:List zN}{pc:List zE}{i:Nat}(hh:Bs w S pl (Yh l en goal mvar pv pc names i))(j:Nat):yJ (uX l en j):=by
 have h:=zjR (hh.ok 1000 _ rfl);unfold uX;split
 ·rename_i hj
  have h1:=h (.sl .tok l) (by simp)
  exact(h1.2 _ (Gb hj)).2.1
 ·exact h (dI en) (by simp)
end
section
variable {l:List vL}
section
variable {vs:List zN}{ns:List (ByteArray×Int)}(hn:∀v∈vs,zD v.name=true)(hN:∀i:Int,0≤i∧i<vs.length→uH .str .int (nmS vs i) ns=some i)
include hn hN
end
end
def zdY(l:List vL)(en:Int):zG×Int×Int:=match eC zD yB l with
 | .ok (m,_) _=>(m,0,0)
 | .err j e=>(kH,uX l en j,e)
theorem Bs.later{w w':World}{S:Nat→Prop}{pl:Nat→Value}{h:List (Nat×yD)}(hh:Bs w S pl h)(hS:∀b,S b→b<w.heap.size)(hb:Below w.heap.size w w'):Bs w' S pl h where
 ok:=λk o hk=>(hh.ok k o hk).mono (λb hs=>hb.block b (hS b hs)) (λb hb'=>hb.block b (hh.priv k o b hk hb').1) (λ_ h=>h) λ_ _ _ _=>rfl
 priv:=λk o b hk hb'=>⟨Nat.lt_of_lt_of_le (hh.priv k o b hk hb').1 hb.size,(hh.priv k o b hk hb').2⟩
 inj:=hh.inj
theorem ziv{P:Program}{w:World}{S:Nat→Prop}{pl:Nat→Value}{vs:Array Value}(hsz:vs.size=1)(hv:Rd w S pl (vs.getD 0 undef) (.ptr 1000 0)):∃b,pl 1000=kI b∧vs= #[kI b]:=by
 obtain⟨b,e1,e2⟩:=hv;refine⟨b,e1,?_⟩;apply Array.ext
 ·simpa using hsz
 ·intro i h1 h2
  have:i=0:=by omega
  subst this;rw[Array.getD_eq_getD_getElem?,Array.getElem?_eq_getElem h1]at e2
  simpa using e2
theorem zdZ{l:List vL}{en:Int}(hd:Za l){w w3:World}{S:Nat→Prop}{pl:Nat→Value}{b:Nat}(hS:∀b,S b→b<w.heap.size)(e1:pl 1000=kI b)(hh:Bs w S pl (Yh l en 0 0 [] [] [] 0))(hg:DT Tryz.prog w (nS pl (Yh l en 0 0 [] [] [] 0)))(hb:Below w.heap.size w w3):
  Calls Tryz.prog 94 #[kI b] w3 λx w'=>qB w3.heap.size (nS pl (Yh l en 0 0 [] [] [] 0)) w3 w'∧match eC zD yB l with
   | .ok (m,ns) j=>x=.returned (.tuple #[])∧∃S' pl',Bs w' S' pl' (Yh l en m.goal m.var m.vars m.cons ns j)∧(∀b,S' b→b<w'.heap.size)∧(∀c,S' c→S c∨nS pl (Yh l en 0 0 [] [] [] 0) c∨w3.heap.size≤c)∧pl' 1000=kI b∧(∀c,nS pl' (Yh l en m.goal m.var m.vars m.cons ns j) c→nS pl (Yh l en 0 0 [] [] [] 0) c∨w3.heap.size≤c)
   | .err j e=>x=.panicked [{v:=EN (uX l en j) e,recovered:=false}]:=by
 have h:=Dt (l:=l) (en:=en) hd;have hg3:DT Tryz.prog w3 (nS pl (Yh l en 0 0 [] [] [] 0)):=hg.step (.of hb) λ_ h=> .inl h
 have hS3:∀b,S b→b<w3.heap.size:=λb h=>Nat.lt_of_lt_of_le (hS b h) hb.size
 have ha:∀i d,[D.ptr 1000 0][i]? =some d→Rd w3 S pl ((#[kI b]:Array Value).getD i undef) d:=λi d hi=>by
  match i,hi with
  |0,hi=>injection hi with hi;subst hi;exact⟨b,e1,rfl⟩
 cases hm:eC zD yB l with
 |ok x j=>
  obtain⟨m,ns⟩:=x;rw[hm]at h
  refine(h w3 S #[kI b] pl hS3 rfl ha (hh.later hS hb) hg3).mono λx w' ⟨v,S',pl',q1,q2,q3,q4,q5,q6,q7,q8⟩=>⟨q8,?_,S',pl',q3,q4,q5,(q7 1000 rfl).trans e1,q6⟩
  obtain⟨vs,rfl,hz,_⟩:=(q2.flat (d:=.tup []) rfl).tup_inv;rw[q1];have:vs= #[]:=Array.eq_empty_of_size_eq_zero hz;rw[this]
 |err j e=>
  rw[hm]at h
  exact(h w3 S #[kI b] pl hS3 rfl ha (hh.later hS hb) hg3).mono λx w' ⟨q1,q2⟩=>⟨q2,q1⟩
theorem kV{w:World}{b:Nat}{vs:Array Value}{T:TypeId}(h:w.heap[b]? =some (.cells vs T (0,0))){i:Nat}(hi:i<vs.size):w.cell? ⟨b,i,none⟩=some (vs.getD i undef):=by
 rw[cell_of_row w b i vs T (0,0) h];simp[Array.getD_eq_getD_getElem?,hi]
theorem OZ{w:World}{p q r:Nat}{tmps:Array Value}{vs:Array Value}{Tp Tq Tr:TypeId}{a e:Int}(t2:tmps.getD 2 undef=kI p)(t3:tmps.getD 3 undef=kI q)(t4:tmps.getD 4 undef=kI r)
  (hp:w.heap[p]? =some (.cells vs Tp (0,0))) (hz:vs.size=4) (hq:w.heap[q]? =some (.cells #[.int .i64 a] Tq (0,0))) (hr:w.heap[r]? =some (.cells #[.int .i64 e] Tr (0,0))):
  (results Tryz.f42 tmps).run Tryz.prog w=.ok (.tuple #[.agg #[vs.getD 0 undef,vs.getD 1 undef,vs.getD 2 undef,vs.getD 3 undef],.int .i64 a,.int .i64 e]) w:=by
 have c0:=kV hp (i:=0) (by omega)
 have c1:=kV hp (i:=1) (by omega)
 have c2:=kV hp (i:=2) (by omega)
 have c3:=kV hp (i:=3) (by omega)
 have c4:=kV hq (i:=0) (Nat.zero_lt_one);have c5:=kV hr (i:=0) (Nat.zero_lt_one);simp only[Array.getD_eq_getD_getElem?]at t2 t3 t4
 simp[results,Tryz.results42,go_sem,t2,t3,t4,c0,c1,c2,c3,c4,c5]
theorem EQ(w:World)(o:Obj):(w.alloc o).heap[w.heap.size]? =some o:=by unfold World.alloc;simp
theorem JG{w:World}{o:Obj}{b:Nat}(h:b<w.heap.size):(w.alloc o).heap[b]? =w.heap[b]? :=by
 unfold World.alloc;simp only[Array.getElem?_push];rw[if_neg (by omega)]
theorem JH(w:World)(o1 o2 o3:Obj):(((w.alloc o1).alloc o2).alloc o3).heap[w.heap.size]? =some o1∧(((w.alloc o1).alloc o2).alloc o3).heap[w.heap.size+1]? =some o2∧(((w.alloc o1).alloc o2).alloc o3).heap[w.heap.size+1+1]? =some o3:=by
 have h1:(w.alloc o1).heap.size=w.heap.size+1:=by simp
 have h2:((w.alloc o1).alloc o2).heap.size=w.heap.size+1+1:=by simp
 refine⟨?_,?_,?_⟩
 ·rw[JG (by omega),JG (by omega)];exact EQ _ _
 ·rw[JG (by omega),←h1];exact EQ _ _
 ·rw[←h2];exact EQ _ _
theorem zb0{l:List vL}{en:Int}{w w4:World}{S S':Nat→Prop}{pl pl':Nat→Value}{b j:Nat}{m:zG}{ns:List (ByteArray×Int)}(hh:Bs w S pl (Yh l en 0 0 [] [] [] 0))(hb:qB (((w.alloc (.cells #[.slice none 0 0,.slice none 0 0,.int .i64 0,.int .i64 0] 25)).alloc (.cells #[.int .i64 0] 3)).alloc (.cells #[.int .i64 0] 26)).heap.size (nS pl (Yh l en 0 0 [] [] [] 0)) (((w.alloc (.cells #[.slice none 0 0,.slice none 0 0,.int .i64 0,.int .i64 0] 25)).alloc (.cells #[.int .i64 0] 3)).alloc (.cells #[.int .i64 0] 26)) w4)
  (h4:Bs w4 S' pl' (Yh l en m.goal m.var m.vars m.cons ns j)) (hpl:pl' 1000=kI b):∃A1 n1 c1 A2 n2 c2,pl' 2000=.slice A1 n1 c1∧pl' 2001=.slice A2 n2 c2∧w4.cell? ⟨b,3,none⟩=some (.slice A1 n1 c1)∧w4.cell? ⟨b,4,none⟩=some (.slice A2 n2 c2)∧w4.cell? ⟨b,5,none⟩=some (.int .i64 m.goal)∧w4.cell? ⟨b,6,none⟩=some (.int .i64 m.var)∧yJ m.goal∧yJ m.var∧
   w4.heap[w.heap.size]? =some (.cells #[.slice none 0 0,.slice none 0 0,.int .i64 0,.int .i64 0] 25 (0,0))∧w4.heap[w.heap.size+1]? =some (.cells #[.int .i64 0] 3 (0,0))∧w4.heap[w.heap.size+1+1]? =some (.cells #[.int .i64 0] 26 (0,0))∧
   w4.cell? ⟨w.heap.size,0,none⟩=some (.slice none 0 0)∧w4.cell? ⟨w.heap.size,1,none⟩=some (.slice none 0 0)∧w4.cell? ⟨w.heap.size,2,none⟩=some (.int .i64 0)∧w4.cell? ⟨w.heap.size,3,none⟩=some (.int .i64 0)∧w4.cell? ⟨w.heap.size+1,0,none⟩=some (.int .i64 0)∧w4.cell? ⟨w.heap.size+1+1,0,none⟩=some (.int .i64 0)∧
   w4.frozen? ⟨w.heap.size,0,none⟩=false∧w4.frozen? ⟨w.heap.size,1,none⟩=false∧w4.frozen? ⟨w.heap.size,2,none⟩=false∧w4.frozen? ⟨w.heap.size,3,none⟩=false∧w4.frozen? ⟨w.heap.size+1,0,none⟩=false∧w4.frozen? ⟨w.heap.size+1+1,0,none⟩=false∧
   b≠w.heap.size∧b≠w.heap.size+1∧b≠w.heap.size+1+1∧w.heap.size+1+1+1≤w4.heap.size:=by
 obtain⟨b',vs,T8,eb,m8,z8,r8,_⟩:=h4.ok 1000 _ rfl;rw[hpl]at eb;injection eb with eb;injection eb with eb;injection eb with eb;subst eb
 have z8:vs.size=8:=z8;have hs:(((w.alloc (.cells #[.slice none 0 0,.slice none 0 0,.int .i64 0,.int .i64 0] 25)).alloc (.cells #[.int .i64 0] 3)).alloc (.cells #[.int .i64 0] 26)).heap.size=w.heap.size+1+1+1:=by simp
 have hno:∀c,w.heap.size≤c→¬nS pl (Yh l en 0 0 [] [] [] 0) c:=λc hc ⟨k,o,h1,h2⟩=>by have:=(hh.priv k o c h1 h2).1;omega
 have hsz3:w.heap.size+1+1+1≤w4.heap.size:=by have:=hb.size;omega
 have hp4:w4.heap[w.heap.size]? =some (.cells #[.slice none 0 0,.slice none 0 0,.int .i64 0,.int .i64 0] 25 (0,0)):=by rw[hb.block _ (by omega) (hno _ (by omega))];exact(JH _ _ _ _).1
 have hq4:w4.heap[w.heap.size+1]? =some (.cells #[.int .i64 0] 3 (0,0)):=by rw[hb.block _ (by omega) (hno _ (by omega))];exact(JH _ _ _ _).2.1
 have hr4:w4.heap[w.heap.size+1+1]? =some (.cells #[.int .i64 0] 26 (0,0)):=by rw[hb.block _ (by omega) (hno _ (by omega))];exact(JH _ _ _ _).2.2
 obtain⟨A1,c1,e2,_⟩:=sO (X0 (h4.ok 2000 _ rfl));obtain⟨A2,c2,e3,_⟩:=sO (X0 (h4.ok 2001 _ rfl));have d3:vs.getD 3 undef=pl' 2000:=r8 3 _ rfl;have d4:vs.getD 4 undef=pl' 2001:=r8 4 _ rfl;obtain⟨d5,k5⟩:=((r8 5 _ rfl).flat (d:=dI m.goal) rfl).int_inv;obtain⟨d6,k6⟩:=((r8 6 _ rfl).flat (d:=dI m.var) rfl).int_inv
 refine⟨_,_,_,_,_,_,e2,e3,by rw[←e2,←d3];exact kV m8 (by omega),by rw[←e3,←d4];exact kV m8 (by omega),by rw[←d5];exact kV m8 (by omega),by rw[←d6];exact kV m8 (by omega),k5,k6,hp4,hq4,hr4,kV hp4 (i:=0) (by simp),kV hp4 (i:=1) (by simp),kV hp4 (i:=2) (by simp),kV hp4 (i:=3) (by simp),kV hq4 (i:=0) (by simp),kV hr4 (i:=0) (by simp),
  frozen_of_row _ _ _ _ _ hp4,frozen_of_row _ _ _ _ _ hp4,frozen_of_row _ _ _ _ _ hp4,frozen_of_row _ _ _ _ _ hp4,frozen_of_row _ _ _ _ _ hq4,frozen_of_row _ _ _ _ _ hr4,?_,?_,?_,hsz3⟩
 ·rintro rfl;rw[m8]at hp4;injection hp4 with hp4;injection hp4 with hp4;rw[hp4]at z8;cases z8
 ·rintro rfl;rw[m8]at hq4;injection hq4 with hp4;injection hp4 with hp4;rw[hp4]at z8;cases z8
 ·rintro rfl;rw[m8]at hr4;injection hr4 with hp4;injection hp4 with hp4;rw[hp4]at z8;cases z8
theorem zky{w:World}{p:Nat}{Tp:TypeId}{v0 v1 v2 v3 o0 o1 o2 o3:Value}(hp:wZ w p Tp #[o0,o1,o2,o3]):wZ ((((w.setCell ⟨p,0,none⟩ v0).setCell ⟨p,1,none⟩ v1).setCell ⟨p,2,none⟩ v2).setCell ⟨p,3,none⟩ v3) p Tp #[v0,v1,v2,v3]:=by
 have h0:=hp.set_ 0 v0;have h1:=h0.set_ 1 v1;have h2:=h1.set_ 2 v2;have h3:=h2.set_ 3 v3;have e:((((#[o0,o1,o2,o3]:Array Value).setIfInBounds 0 v0).setIfInBounds 1 v1).setIfInBounds 2 v2).setIfInBounds 3 v3= #[v0,v1,v2,v3]:=by simp
 rw[e]at h3
 exact h3
theorem zb1{w:World}{p:Addr}{v:Value}:(w.setCell p v).os=w.os∧(w.setCell p v).tape=w.tape∧(w.setCell p v).output=w.output∧(w.setCell p v).heap.size=w.heap.size:=⟨rfl,rfl,rfl,by simp[World.setCell]⟩
theorem ziw{w:World}{p:Nat}{Tp:TypeId}{v o:Value}(hp:wZ w p Tp #[o]):wZ (w.setCell ⟨p,0,none⟩ v) p Tp #[v]:=by
 have h0:=hp.set_ 0 v;have e:(#[o]:Array Value).setIfInBounds 0 v= #[v]:=by simp
 rw[e]at h0
 exact h0
theorem zjH{w:World}{p q r:Nat}{Tp Tq Tr:TypeId}{v0 v1 v2 v3:Value}{o0 o1 o2 o3 o4 o5 n4 n5:Value}(hp:wZ w p Tp #[o0,o1,o2,o3])(hq:wZ w q Tq #[o4])(hr:wZ w r Tr #[o5])(hpq:p≠q)(hpr:p≠r)(hqr:q≠r){w5:World}
  (h5:(((((w.setCell ⟨p,0,none⟩ v0).setCell ⟨p,1,none⟩ v1).setCell ⟨p,2,none⟩ v2).setCell ⟨p,3,none⟩ v3).setCell ⟨q,0,none⟩ n4).setCell ⟨r,0,none⟩ n5=w5):
  wZ w5 p Tp #[v0,v1,v2,v3]∧wZ w5 q Tq #[n4]∧wZ w5 r Tr #[n5]∧(∀b,b≠p→b≠q→b≠r→w5.heap[b]? =w.heap[b]?)∧w5.os=w.os∧w5.tape=w.tape∧w5.output=w.output∧w5.heap.size=w.heap.size:=by
 have hq':q≠p:=hpq.symm;have hr':r≠p:=hpr.symm;have hr2:r≠q:=hqr.symm;have b1:=zky (v0:=v0) (v1:=v1) (v2:=v2) (v3:=v3) hp;have c1:wZ ((((w.setCell ⟨p,0,none⟩ v0).setCell ⟨p,1,none⟩ v1).setCell ⟨p,2,none⟩ v2).setCell ⟨p,3,none⟩ v3) q Tq #[o4]:=(((hq.far hq' v0).far hq' v1).far hq' v2).far hq' v3;have d1:wZ ((((w.setCell ⟨p,0,none⟩ v0).setCell ⟨p,1,none⟩ v1).setCell ⟨p,2,none⟩ v2).setCell ⟨p,3,none⟩ v3) r Tr #[o5]:=(((hr.far hr' v0).far hr' v1).far hr' v2).far hr' v3
 have f1:∀b,b≠p→((((w.setCell ⟨p,0,none⟩ v0).setCell ⟨p,1,none⟩ v1).setCell ⟨p,2,none⟩ v2).setCell ⟨p,3,none⟩ v3).heap[b]? =w.heap[b]? :=λb h1=>by
  rw[Below.heap_setCell _ _ _ _ h1,Below.heap_setCell _ _ _ _ h1,Below.heap_setCell _ _ _ _ h1,Below.heap_setCell _ _ _ _ h1]
 have s1:((((w.setCell ⟨p,0,none⟩ v0).setCell ⟨p,1,none⟩ v1).setCell ⟨p,2,none⟩ v2).setCell ⟨p,3,none⟩ v3).os=w.os∧((((w.setCell ⟨p,0,none⟩ v0).setCell ⟨p,1,none⟩ v1).setCell ⟨p,2,none⟩ v2).setCell ⟨p,3,none⟩ v3).tape=w.tape∧((((w.setCell ⟨p,0,none⟩ v0).setCell ⟨p,1,none⟩ v1).setCell ⟨p,2,none⟩ v2).setCell ⟨p,3,none⟩ v3).output=w.output∧((((w.setCell ⟨p,0,none⟩ v0).setCell ⟨p,1,none⟩ v1).setCell ⟨p,2,none⟩ v2).setCell ⟨p,3,none⟩ v3).heap.size=w.heap.size:=by
  simp only[zb1,and_self]
 generalize((((w.setCell ⟨p,0,none⟩ v0).setCell ⟨p,1,none⟩ v1).setCell ⟨p,2,none⟩ v2).setCell ⟨p,3,none⟩ v3)=w1 at h5 b1 c1 d1 f1 s1
 subst h5;have b2:=(b1.far (p:=⟨q,0,none⟩) hpq n4).far (p:=⟨r,0,none⟩) hpr n5;have c2:=(ziw (v:=n4) c1).far (p:=⟨r,0,none⟩) hqr n5;have d2:=ziw (v:=n5) (d1.far (p:=⟨q,0,none⟩) hr2 n4);refine⟨b2,c2,d2,λb h1 h2 h3=> ?_,?_⟩
 ·rw[Below.heap_setCell _ _ _ _ h3,Below.heap_setCell _ _ _ _ h2,f1 b h1]
 ·simp only[zb1]
  exact s1
set_option maxRecDepth 100000 in
theorem DQ{l:List vL}{en:Int}(hd:Za l):yH T2 [.ptr 1000 0] (Yh l en 0 0 [] [] [] 0) (dR (zdY l en)) []:=by
 intro w S vs pl hS hsz hv hh hg;obtain⟨b,e1,rfl⟩:=ziv (P:=Tryz.prog) hsz (hv 0 _ rfl);have HC:=Lib.hid (λ(w3:World) (hb:Below w.heap.size w w3)=>zdZ hd hS e1 hh hg hb)
 have hmf:∀(fn:Fn) (first cap:Array Value) (w:World),(Instr.makeFunc fn first cap).run Tryz.prog w=.ok (.func fn first cap) w:=λ_ _ _ _=>rfl
 have hi:=ziu hh;have he:=λj e=>Mh (l:=l) (j:=j) (e:=e)
 clear hv hsz;unfold zdY;cases hm:eC zD yB l with
 |err j e=>
  have he:=he j e hm;have hi:=hi j;rw[hm]at HC
  go_enter_defers Tryz.func42,Tryz.ntmps42
  go_wp2_with (go_at_call 94;refine(HC.out _ ?_).mono ?_)
  ·(repeat'(first|(with_reducible exact Below.refl _ _)|(with_reducible assumption)|(with_reducible refine vK ?_ _)|(with_reducible refine Below.alloc ?_ ?_ _)|(with_reducible refine Below.setCell ?_ ?_ _)|(with_reducible refine Below.drew ?_)|go_size))
  ·rintro e' w4 hb rfl
   have hsz3:w.heap.size+1+1+1≤w4.heap.size:=by have:=hb.size;simpa using this
   have hno:∀c,w.heap.size≤c→¬nS pl (Yh l en 0 0 [] [] [] 0) c:=λc hc ⟨k,o,h1,h2⟩=>by have:=(hh.priv k o c h1 h2).1;omega
   have hp4:w4.heap[w.heap.size]? =some (.cells #[.slice none 0 0,.slice none 0 0,.int .i64 0,.int .i64 0] 25 (0,0)):=by
    rw[hb.block _ (by omega) (hno _ (by omega))];exact(JH _ _ _ _).1
   have hq4:w4.heap[w.heap.size+1]? =some (.cells #[.int .i64 0] 3 (0,0)):=by
    rw[hb.block _ (by omega) (hno _ (by omega))];exact(JH _ _ _ _).2.1
   have hr4:w4.heap[w.heap.size+1+1]? =some (.cells #[.int .i64 0] 26 (0,0)):=by
    rw[hb.block _ (by omega) (hno _ (by omega))];exact(JH _ _ _ _).2.2
   have hw4:qB w.heap.size (nS pl (Yh l en 0 0 [] [] [] 0)) w w4:=by
    refine qB.trans (.of ?_) ⟨hb.os,hb.tape,hb.output,hb.size,λk hk=>hb.block k (by omega)⟩
    (repeat'(first|(with_reducible exact Below.refl _ _)|(with_reducible assumption)|(with_reducible refine vK ?_ _)|(with_reducible refine Below.alloc ?_ ?_ _)|(with_reducible refine Below.setCell ?_ ?_ _)|(with_reducible refine Below.drew ?_)|go_size))
   have hg4:DT Tryz.prog w4 (λc=>c=w.heap.size∨c=w.heap.size+1∨c=w.heap.size+1+1):=hg.step hw4 λc h=> .inr (by omega)
   show Leaves _ _ _ _ _ _ _
   refine leaves_cons (f:=93) (args:= #[kI w.heap.size,kI (w.heap.size+1),kI (w.heap.size+1+1)]) (by simp) (by simp[go_sem]) ?_
   refine(EO hi (by rcases he with rfl|rfl<;>(unfold yJ;omega)) _ _ _ w4 hp4 hq4 hr4 (by omega) (by omega) (by omega) hg4).mono ?_
   rintro en' u' w5 ⟨rfl,rfl,hc⟩;obtain⟨vs,Tp,m1,m2,m3⟩:=hc.m;obtain⟨Tq,a1⟩:=hc.at_;obtain⟨Tr,r1⟩:=hc.e;refine⟨_,OZ rfl rfl rfl m1 m2 a1 r1,?_⟩;refine⟨_,λb=>w4.heap.size≤b∧b<w5.heap.size,pl,rfl,Rp.rd (.tup _ _ rfl λi d hd=> ?_),⟨λk o h=>(by cases h),λk o b h=>(by cases h),λk k' o o' b h=>(by cases h)⟩,λb h=>h.2,λb h=> .inr (.inr (by omega)),λb ⟨k,o,h,_⟩=>(by cases h),λ_ _=>rfl,?_⟩
   ·match i,hd with
    |0,hd=>
     injection hd with hd;subst hd
     refine .agg _ _ rfl λi d hd=> ?_
     have h:=m3 i d hd
     match i,hd with
     |0,hd=>exact h
     |1,hd=>exact h
     |2,hd=>exact h
     |3,hd=>exact h
    |1,hd=>injection hd with hd;subst hd;exact .int_mk hi
    |2,hd=>injection hd with hd;subst hd;exact .int_mk (by rcases he with rfl|rfl<;>(unfold yJ;omega))
   ·exact hw4.trans ⟨hc.below.os,hc.below.tape,hc.below.output,hc.below.size,λk hk hn=>hc.below.block k (by omega) (by omega)⟩
 |ok x j=>
  obtain⟨m,ns⟩:=x;rw[hm]at HC
  go_enter_defers Tryz.func42,Tryz.ntmps42
  go_wp2_with (go_at_call 94;refine(HC.out _ (by(repeat'(first|(with_reducible exact Below.refl _ _)|(with_reducible assumption)|(with_reducible refine vK ?_ _)|(with_reducible refine Below.alloc ?_ ?_ _)|(with_reducible refine Below.setCell ?_ ?_ _)|(with_reducible refine Below.drew ?_)|go_size)))).mono ?_;rintro _ w4 ⟨hb,rfl,S',pl',h4,hS4,hsrc,hpl,hblk⟩;obtain⟨A1,n1,k1,A2,n2,k2,e2,e3,c3,c4,c5,c6,g1,g2,hp4,hq4,hr4,p0,p1,p2,p3,q0,r0,fp,fp1,fp2,fp3,fq,fr,nb1,nb2,nb3,hsz3⟩:=zb0 hh hb h4 hpl)
  generalize hw5:World.setCell _ _ _=w5;obtain⟨bp,bq,br,old,os5,ta5,ou5,sz5⟩:=zjH hp4 hq4 hr4 (by omega) (by omega) (by omega) hw5
  clear hw5 p0 p1 p2 p3 q0 r0 fp fp1 fp2 fp3 fq fr c3 c4 c5 c6;have hno:∀c,nS pl (Yh l en 0 0 [] [] [] 0) c→c<w.heap.size:=λc ⟨k,o,h1,h2⟩=>(hh.priv k o c h1 h2).1
  have hs3:(((w.alloc (.cells #[.slice none 0 0,.slice none 0 0,.int .i64 0,.int .i64 0] 25)).alloc (.cells #[.int .i64 0] 3)).alloc (.cells #[.int .i64 0] 26)).heap.size=w.heap.size+1+1+1:=by simp
  have hw4:qB w.heap.size (nS pl (Yh l en 0 0 [] [] [] 0)) w w4:=by
   refine qB.trans (.of ?_) ⟨hb.os,hb.tape,hb.output,hb.size,λk hk=>hb.block k (by omega)⟩
   (repeat'(first|(with_reducible exact Below.refl _ _)|(with_reducible assumption)|(with_reducible refine vK ?_ _)|(with_reducible refine Below.alloc ?_ ?_ _)|(with_reducible refine Below.setCell ?_ ?_ _)|(with_reducible refine Below.drew ?_)|go_size))
  show Leaves _ _ _ _ _ _ _
  refine leaves_cons (f:=93) (args:= #[kI w.heap.size,kI (w.heap.size+1),kI (w.heap.size+1+1)]) (by simp) (by simp[go_sem]) ?_
  refine(HA _ _ _ w5).mono ?_;rintro en' u' w6 ⟨rfl,rfl,rfl⟩;refine⟨_,OZ rfl rfl rfl bp rfl bq br,?_⟩
  have hfar:∀c,S' c∨pY (pl' 2000)=some c∨pY (pl' 2001)=some c→c≠w.heap.size∧c≠w.heap.size+1∧c≠w.heap.size+1+1∧(S c∨nS pl (Yh l en 0 0 [] [] [] 0) c∨w.heap.size≤c)∧c<w4.heap.size:=λc hc=>by
   rcases hc with hc|hc|hc
   ·have h1:=hS4 c hc
    rcases hsrc c hc with h|h|h
    ·have:=hS c h;exact⟨by omega,by omega,by omega,.inl h,h1⟩
    ·have:=hno c h;exact⟨by omega,by omega,by omega,.inr (.inl h),h1⟩
    ·exact⟨by omega,by omega,by omega,.inr (.inr (by omega)),h1⟩
   ·have h1:=(h4.priv 2000 _ c rfl hc).1
    rcases hblk c ⟨2000,_,rfl,hc⟩with h|h
    ·have:=hno c h;exact⟨by omega,by omega,by omega,.inr (.inl h),h1⟩
    ·exact⟨by omega,by omega,by omega,.inr (.inr (by omega)),h1⟩
   ·have h1:=(h4.priv 2001 _ c rfl hc).1
    rcases hblk c ⟨2001,_,rfl,hc⟩with h|h
    ·have:=hno c h;exact⟨by omega,by omega,by omega,.inr (.inl h),h1⟩
    ·exact⟨by omega,by omega,by omega,.inr (.inr (by omega)),h1⟩
  have hkeep:∀c,S' c∨pY (pl' 2000)=some c∨pY (pl' 2001)=some c→w6.heap[c]? =w4.heap[c]? :=λc hc=>let⟨h1,h2,h3,_⟩:=hfar c hc;old c h1 h2 h3
  have v1:Rp w6 (λc=>S' c∨pY (pl' 2000)=some c∨pY (pl' 2001)=some c) (.slice A1 n1 k1) (.sl .var m.vars):=by
   refine .sl .var _ _ ?_;have h:=X0 (h4.ok 2000 _ rfl);rw[e2]at h
   exact Yd.mono h (λc hc=>hkeep c (by rw[e2];rcases hc with h|h;exact .inl h;exact .inr (.inl h))) λc hc=>by rw[e2];rcases hc with h|h;exact .inl h;exact .inr (.inl h)
  have v2:Rp w6 (λc=>S' c∨pY (pl' 2000)=some c∨pY (pl' 2001)=some c) (.slice A2 n2 k2) (.sl .con m.cons):=by
   refine .sl .con _ _ ?_;have h:=X0 (h4.ok 2001 _ rfl);rw[e3]at h
   exact Yd.mono h (λc hc=>hkeep c (by rw[e3];rcases hc with h|h;exact .inl h;exact .inr (.inr h))) λc hc=>by rw[e3];rcases hc with h|h;exact .inl h;exact .inr (.inr h)
  refine⟨_,λc=>S' c∨pY (pl' 2000)=some c∨pY (pl' 2001)=some c,pl,rfl,Rp.rd (.tup _ _ rfl λi d hd=> ?_),⟨λk o h=>(by cases h),λk o b h=>(by cases h),λk k' o o' b h=>(by cases h)⟩,λc hc=>by rw[sz5];exact(hfar c hc).2.2.2.2,λc hc=>(hfar c hc).2.2.2.1,λb ⟨k,o,h,_⟩=>(by cases h),λ_ _=>rfl,?_⟩
  ·match i,hd with
   |0,hd=>
    injection hd with hd;subst hd
    refine .agg _ _ rfl λi d hd=> ?_
    match i,hd with
    |0,hd=>injection hd with hd;subst hd;exact v1
    |1,hd=>injection hd with hd;subst hd;exact v2
    |2,hd=>injection hd with hd;subst hd;exact .int_mk g1
    |3,hd=>injection hd with hd;subst hd;exact .int_mk g2
   |1,hd=>injection hd with hd;subst hd;exact .int_mk (by unfold yJ;omega)
   |2,hd=>injection hd with hd;subst hd;exact .int_mk (by unfold yJ;omega)
  ·exact hw4.trans ⟨os5,ta5,ou5,by omega,λk hk hn=>old k (by omega) (by omega) (by omega)⟩
theorem AY(s:ByteArray)(w:World):Calls Tryz.prog 44 #[.string s] w λe w'=>
  ∃v,e=.returned (.tuple #[v,.int .i64 (uZ s.data.toList).2.1,.int .i64 (uZ s.data.toList).2.2])∧WE w' w.heap.size v (uZ s.data.toList).1∧Below w.heap.size w w':=by
 unfold uZ
 by_cases hs:s.data.toList.length>4000
 ·rw[if_pos hs]
  refine(B0 s w (by simpa using hs)).mono ?_
  rintro e w' ⟨rfl,rfl⟩;exact⟨_,rfl,Yw _ _,Below.refl _ _⟩
 ·rw[if_neg hs]
  exact GN s w (by simpa using hs)
theorem Pg:∀(l:List UInt8) (i:Nat) (note:Bool) (out:List vL) (k:Nat),0≤(vM l i note out k).2.1∧(vM l i note out k).2.1≤((i+l.length:Nat):Int)∧0≤(vM l i note out k).2.2∧(vM l i note out k).2.2≤2
 |[],i,note,out,k=>by simp only[vM];omega
 |c::r,i,note,out,k+1=>by
  have h:=Pg r (i+1) note out k;rw[vM,List.length_cons];omega
 |c::r,i,note,out,0=>by
  rw[vM,List.length_cons];split
  ·have:=Pg r (i+1) (c !=10) out 0;omega
  ·split
   ·have:=Pg r (i+1) false out 0;omega
   ·simp only
    split
    ·have:=Pg r (i+1) false (out++[⟨(zW (c::r)).1,i,bs ((c::r).take (zW (c::r)).2)⟩]) ((zW (c::r)).2-1);omega
    ·rename_i h
     refine⟨by simp,by simp only;omega,?_⟩
     simp only;unfold vY;split
     ·omega
     split
     ·omega
     split<;>omega
theorem zb2(l:List UInt8):yJ (uZ l).2.1∧yJ (uZ l).2.2:=by
 unfold uZ;split
 ·simp only;unfold yJ;omega
 ·have:=Pg l 0 false [] 0
  unfold yJ;omega
theorem zb3{P:Program}{f:FuncId}{s:ByteArray}(h:∀w,Calls P f #[.string s] w λe w'=>∃v,e=.returned (.tuple #[v,.int .i64 (uZ s.data.toList).2.1,.int .i64 (uZ s.data.toList).2.2])∧WE w' w.heap.size v (uZ s.data.toList).1∧Below w.heap.size w w'):
  XJ P f [.str s] (.tup [.sl .tok (uZ s.data.toList).1,dI (uZ s.data.toList).2.1,dI (uZ s.data.toList).2.2]):=by
 intro w S vs hS hl hv _;obtain⟨e0,hz⟩:=(hv 0 _ rfl).str_inv
 have e:vs= #[.string s]:=by
  have hl:vs.size=1:=hl;apply Array.ext
  ·simpa using hl
  ·intro i h1 h2
   have:i=0:=by omega
   subst this;simpa[Array.getD_eq_getD_getElem?,h1]using e0
 subst e;refine(h w).mono λe w' ⟨v,he,hf,hb⟩=>⟨_,he,.tup _ _ rfl λi d hd=> ?_,hb⟩
 match i,hd with
 |0,hd=>injection hd with hd;subst hd;exact .sl .tok _ _ (Yd.mono hf (λ_ _=>rfl) λb hb=> .inr hb)
 |1,hd=>injection hd with hd;subst hd;exact .int_mk (zb2 _).1
 |2,hd=>injection hd with hd;subst hd;exact .int_mk (zb2 _).2
theorem DR(s:ByteArray):tU T1 [.str s] (.tup [XH (.list .tok) (uZ s.data.toList).1,XH .int (uZ s.data.toList).2.1,XH .int (uZ s.data.toList).2.2]):=zb3 λw=>zaE s w
theorem Oz(s:ByteArray):tU aE [.str s] (.tup [XH (.list .tok) (uZ s.data.toList).1,XH .int (uZ s.data.toList).2.1,XH .int (uZ s.data.toList).2.2]):=zb3 λw=>AY s w
theorem zb4{c:UInt8}{r:List UInt8}{n:Nat}(h:zW (c::r)=(2,n)):isD c=true∧n=1+(r.takeWhile isD).length:=by
 rw[zW]at h
 split at h
 ·injection h with h _;cases h
 split at h
 ·rename_i h1;injection h with _ h;exact⟨h1,h.symm⟩
 split at h
 ·injection h with h _;cases h
 split at h
 ·injection h with h _;cases h
 ·injection h with h _;cases h
theorem DS{c:UInt8}{r:List UInt8}{k n:Nat}(h:zW (c::r)=(k,n))(hk:k≠2)(hk0:k≠0):isD c=false:=by
 rw[zW]at h
 cases hd:isD c with
 |false=>rfl
 |true=>
  split at h
  ·rename_i h1
   unfold isD isDN at hd;unfold isL WQ at h1
   simp only[Bool.and_eq_true,decide_eq_true_eq]at hd h1
   omega
  ·injection h with h _;omega
theorem zix{p:UInt8→Bool}:∀(l:List UInt8) (x:UInt8),x∈l.takeWhile p→p x=true
 |[],x,h=>by cases h
 |c::r,x,h=>by
  rw[List.takeWhile_cons]at h
  split at h
  ·rename_i hc
   rcases List.mem_cons.1 h with rfl|h
   ·exact hc
   ·exact zix r x h
  ·cases h
theorem Iq{s:ByteArray}{l:List UInt8}(h:s.data.toList=l)(i:Nat):sP s i=((l.getD i 0).toNat:Int):=by
 unfold sP;subst h
 congr 2
 rw[Array.getD_eq_getD_getElem?,List.getD_eq_getElem?_getD,Array.getElem?_toList]
theorem Bd{L:List UInt8}:∀ {ts:List vL} {lo:Nat},MK L lo ts→Yo ts
 |[],_,_=>λt ht=>by cases ht
 |t::ts,lo,⟨j,n,h1,h2,h3,h4,h5,⟨c,r,h6,h7,h8,h9⟩,h10⟩=>λt' ht'=>by
  rcases List.mem_cons.1 ht' with rfl|hm
  ·have hx:t'.text.data.toList=(c::r).take n:=by rw[h5,h6];unfold bs;rfl
   have hz:t'.text.size=n:=by
    have h11:t'.text.size=(t'.text.data.toList).length:=rfl;have h12:=congrArg List.length h6;rw[List.length_drop]at h12
    rw[h11,hx,List.length_take];omega
   refine⟨λhk=> ?_,λhk=> ?_⟩
   ·have h7':zW (c::r)=(2,n):=by rw[h7,hk];rfl
    obtain⟨hd,hn⟩:=zb4 h7';have h9':vY 2 n c=0:=by rw[hk]at h9;exact h9
    refine⟨by omega,?_,λi hi=> ?_⟩
    ·unfold vY at h9'
     rw[if_neg (by decide)]at h9'
     rw[hz]
     by_cases h4:n>4
     ·rw[if_pos (by simp;omega)]at h9';cases h9'
     ·omega
    ·rw[Iq hx]
     have hall:∀x∈(c::r).take n,isD x=true:=by
      intro x hxm;obtain⟨m,rfl⟩:∃m,n=m+1:=⟨n-1,by omega⟩
      rw[List.take_succ_cons]at hxm
      rcases List.mem_cons.1 hxm with rfl|hxm
      ·exact hd
      ·have e:m=(r.takeWhile isD).length:=by omega
       have e2:r.take m=r.takeWhile isD:=by
        rw[e];exact(List.prefix_iff_eq_take.1 (List.takeWhile_prefix isD)).symm
       rw[e2]at hxm
       exact zix _ _ hxm
     have hlen:i<((c::r).take n).length:=by
      have h11:t'.text.size=(t'.text.data.toList).length:=rfl;rw[hx]at h11;omega
     have hg:((c::r).take n).getD i 0=((c::r).take n)[i]:=by rw[List.getD_eq_getElem?_getD,List.getElem?_eq_getElem hlen];rfl
     rw[hg];have:=hall _ (List.getElem_mem hlen);unfold isD isDN at this
     simp only[Bool.and_eq_true,decide_eq_true_eq]at this
     omega
   ·have hk':t'.kind.toNat≠2:=by omega
    have hk0:t'.kind.toNat≠0:=by intro e;rw[e]at h9;unfold vY at h9;rw[if_pos rfl]at h9;cases h9
    have:=DS h7 hk' hk0;obtain⟨m,rfl⟩:∃m,n=m+1:=⟨n-1,by omega⟩
    rw[Iq hx,List.take_succ_cons];show¬(48≤(c.toNat:Int)∧(c.toNat:Int)≤57)
    unfold isD isDN at this
    simp only[Bool.and_eq_false_iff,decide_eq_false_iff_not]at this
    omega
  ·exact Bd h10 t' hm
theorem Be{L:List UInt8}:∀ {ts:List vL} {lo:Nat},MK L lo ts→ts.length≤L.length-lo
 |[],_,_=>Nat.zero_le _
 |t::ts,lo,⟨j,n,h1,h2,h3,_,_,_,h10⟩=>by
  have:=Be h10;rw[List.length_cons];omega
theorem zb5(l:List UInt8):Yo (uZ l).1:=by
 by_cases h:(uZ l).2.2=0
 ·exact Bd (Xk h).1
 ·rw[zfv h];exact λt ht=>by cases ht
def tN(s:ByteArray):zG×Int×Int:=if(uZ s.data.toList).2.2≠0 then(kH,(uZ s.data.toList).2.1,(uZ s.data.toList).2.2)else JE (uZ s.data.toList).1 s.size
abbrev dT(x:zG×Int×Int):D:=.tup [XH .mdl x.1,XH .int x.2.1,XH .int x.2.2]
theorem Ph(s:ByteArray):tU kQ [.str s] (dT (tN s)):=
 S9 s λok=>by
  rw[Qf];refine zas (t:=.list .tok) (u:=.int) (v:=.int) (Oz s) ?_;unfold tN
  by_cases h:(uZ s.data.toList).2.2=0
  ·rw[if_neg (λx=>x h)]
   refine Ai h ?_
   have hl:(uZ s.data.toList).1.length*32≤140737488355328:=by
    have:=Be (Xk h).1;have:=(Xk h).2.2;omega
   exact zir hl (zb5 _) rfl
  ·rw[if_pos h]
   exact NB h rfl
theorem O0(s:ByteArray):tU Zt [.str s] (dT (tN s)):=
 Fe s λok=>by
  rw[Dp];refine zas (t:=.list .tok) (u:=.int) (v:=.int) (DR s) ?_;unfold tN
  by_cases h:(uZ s.data.toList).2.2=0
  ·rw[if_neg (λx=>x h)]
   refine Ai h ?_;have hp:=DQ (l:=(uZ s.data.toList).1) (en:=(s.size:Int)) (zim (zb5 _));unfold zdY at hp
   unfold JE UM;refine⟨_,_,_,hp,?_⟩;cases hm:eC zD yB (uZ s.data.toList).1 with
   |ok x j=>
    obtain⟨m,ns⟩:=x;simp only;refine dt trivial (zH (t:=.int) (ZN m) ?_)
    by_cases hc:xL m=0
    ·rw[if_pos hc];exact Ai hc rfl
    ·rw[if_neg hc];exact NB hc rfl
   |err j e=>
    have he:e≠0:=by rcases Mh hm with rfl|rfl<;>decide
    simp only;exact df he (NB he rfl)
  ·rw[if_pos h]
   exact NB h rfl
section
variable {l:List vL}{vs:List zN}{ns:List (ByteArray×Int)}
section
variable(hn:∀v∈vs,zD v.name=true)(hN:∀i:Int,0≤i∧i<vs.length→uH .str .int (nmS vs i) ns=some i)
include hn hN
end
end
theorem Pi(s:ByteArray):(tN s).2.2=0∧xL (tN s).1=0∨(tN s).2.2≠0∧(tN s).1=kH:=by
 unfold tN;split
 ·rename_i h;exact .inr ⟨h,rfl⟩
 ·unfold JE
  cases hm:eC zD yB (uZ s.data.toList).1 with
  |ok x j=>
   obtain⟨m,ns⟩:=x;show(UM m).2.2=0∧xL (UM m).1=0∨(UM m).2.2≠0∧(UM m).1=kH
   unfold UM
   by_cases hc:xL m=0
   ·rw[if_pos hc];exact .inl ⟨rfl,hc⟩
   ·rw[if_neg hc];exact .inr ⟨hc,rfl⟩
  |err j e=>
   refine .inr ⟨?_,rfl⟩;show e≠0
   rcases Mh hm with rfl|rfl<;>decide
def zk7:zG:=⟨[⟨⟨#[120]⟩,0,2⟩,⟨⟨#[121]⟩,0,2⟩],[⟨1,[0,1],[1,-1],-1,[],[]⟩],1,1⟩
theorem zjI:tU oS [] (XH .mdl zk7):=V2 λok=>by rw[Ta];rfl
def Wu:ByteArray:=⟨#[118,97,114,32,120,58,32,48,46,46,50,59,10,118,97,114,32,121,58,32,48,46,46,50,59,10,99,111,110,32,108,101,32,91,49,44,32,45,49,93,32,91,120,44,32,121,93,32,45,49,59,10,115,111,108,118,101,32,108,101,97,115,116,32,121,59,10]⟩
theorem zd0:tN Wu=(zk7,0,0):=by decide+kernel
theorem XG:∀(l:List UInt8) (i:Nat) (note:Bool) (out:List vL) (k:Nat),0≤(vM l i note out k).2.1∧(vM l i note out k).2.1≤((i+l.length:Nat):Int)
 |[],i,note,out,k=>by
  unfold vM;exact⟨Int.le_refl _,Int.natCast_nonneg _⟩
 |c::r,i,note,out,k+1=>by
  have ih:=XG r (i+1) note out k;rw[vM,List.length_cons];exact⟨ih.1,by have:=ih.2;omega⟩
 |c::r,i,note,out,0=>by
  have hl:(c::r).length=r.length+1:=rfl;rw[vM];split
  ·have ih:=XG r (i+1) (c !=10) out 0
   exact⟨ih.1,by have:=ih.2;omega⟩
  ·split
   ·have ih:=XG r (i+1) false out 0
    exact⟨ih.1,by have:=ih.2;omega⟩
   ·simp only
    split
    ·have ih:=XG r (i+1) false (out++[⟨(zW (c::r)).1,i,bs ((c::r).take (zW (c::r)).2)⟩]) ((zW (c::r)).2-1)
     exact⟨ih.1,by have:=ih.2;omega⟩
    ·show 0≤(i:Int)∧(i:Int)≤_
     omega
theorem zb6{L:List UInt8}:∀ {ts:List vL} {lo:Nat},MK L lo ts→∀t∈ts,0≤t.at_∧t.at_≤(L.length:Int)
 |[],_,_,t,ht=>by cases ht
 |t::ts,lo,⟨j,n,h1,h2,h3,h4,_,_,h10⟩,t',ht'=>by
  rcases List.mem_cons.1 ht' with rfl|hm
  ·rw[h4];omega
  ·exact zb6 h10 t' hm
theorem Ir(s:ByteArray):0≤(tN s).2.1∧(tN s).2.1≤4000:=by
 unfold tN
 by_cases h:(uZ s.data.toList).2.2=0
 ·rw[if_neg (λx=>x h)]
  obtain⟨h1,_,h3⟩:=Xk h;have hz:s.size=s.data.toList.length:=rfl;unfold JE;cases eC zD yB (uZ s.data.toList).1 with
  |ok x j=>
   obtain⟨m,ns⟩:=x;show 0≤(UM m).2.1∧(UM m).2.1≤4000
   unfold UM;split<;>exact⟨Int.le_refl 0,(by decide:(0:Int)≤4000)⟩
  |err j e=>
   show 0≤uX (uZ s.data.toList).1 (s.size:Int) j∧uX (uZ s.data.toList).1 (s.size:Int) j≤4000
   unfold uX;split
   ·rename_i hj
    have:=zb6 h1 _ (Gb hj);omega
   ·omega
 ·rw[if_pos h]
  show 0≤(uZ s.data.toList).2.1∧(uZ s.data.toList).2.1≤4000
  unfold uZ at h⊢
  split
  ·exact⟨Int.le_refl 0,(by decide:(0:Int)≤4000)⟩
  ·have:=XG s.data.toList 0 false [] 0
   omega
def zd1(n:Int):ByteArray:=((⟨#[116,101,120,116,32]⟩:ByteArray)++jP n)++(⟨#[10]⟩:ByteArray)
noncomputable def Bf (s:ByteArray)(fuel:Int):ByteArray×Int:=
 if 4000<(s.size:Int)then(⟨#[]⟩,2)else if fuel<0 then(⟨#[]⟩,3)else if 300<fuel then(⟨#[]⟩,3)
 else if(tN s).2.2≠0 then(zd1 (tN s).2.1,0)else(PF (tN s).1 (mC (tN s).1 fuel),0)
theorem Bg{m:zG}(hm:xL m=0){fuel:Int}(hf:0≤fuel∧fuel≤300)(hv:(mC m fuel).verdict=1):(mC m fuel).values.length=m.vars.length∧∀n∈(mC m fuel).values,-1000≤n∧n≤1000:=by
 obtain⟨_,k,rfl,hb⟩:=ze1 (L0 hm hf)
 have hf:UG m [] (mC m (k:Int)).values:=by
  cases hb with
  |any h0 h1 h2 h3=>exact h2
  |best h0 h1 h2 h3 h4=>exact h2
  |none h1=>rw[h1]at hv;exact absurd hv (by decide)
  |unknown h1=>rw[h1]at hv;exact absurd hv (by decide)
 refine⟨hf.len,λn hn=> ?_⟩
 obtain⟨i,hi,rfl⟩:=List.getElem_of_mem hn;have hil:i<m.vars.length:=by rw[←hf.len];exact hi
 have h2:=hf.full.2 i (by rw[xU];exact hil)
 rw[bJ hil,YF,yE _ hi]at h2
 have:=(lO hm).var _ (List.getElem_mem hil);omega
theorem TJ(s:ByteArray)(fuel:Int):tU hJ [.str s,dI fuel] (.tup [XH .str (Bf s fuel).1,XH .int (Bf s fuel).2]):=
 Lh s fuel λok=>by
  rw[KT];unfold Bf
  by_cases h1:4000<(s.size:Int)
  ·rw[if_pos h1];exact dt h1 rfl
  rw[if_neg h1];refine df h1 ?_
  by_cases h2:fuel<0
  ·rw[if_pos h2];exact dt h2 rfl
  rw[if_neg h2];refine df h2 ?_
  by_cases h3:300<fuel
  ·rw[if_pos h3];exact dt h3 rfl
  rw[if_neg h3];refine df h3 (zas (t:=.mdl) (u:=.int) (v:=.int) (O0 s) ?_);rcases Pi s with⟨p1,p2⟩|⟨p1,p2⟩
  ·rw[if_neg (λx=>x p1)]
   have hr:=L0 (m:=(tN s).1) (fuel:=fuel) p2 (by omega)
   refine Ai p1 (WP (t:=.ans) (u:=.int) (Wt _ fuel) ?_);rw[hr];refine Ai rfl ?_;unfold PF
   by_cases hv:(mC (tN s).1 fuel).verdict=1
   ·obtain⟨b1,b2⟩:=Bg p2 (by omega) hv
    rw[if_pos hv];exact dt hv (zH (t:=.str) (Hz (zk1 p2) b1 b2) rfl)
   ·rw[if_neg hv]
    refine df hv ?_
    by_cases hv2:(mC (tN s).1 fuel).verdict=2
    ·rw[if_pos hv2];exact dt hv2 rfl
    ·rw[if_neg hv2];exact df hv2 rfl
  ·rw[if_pos p1]
   have hp:=Ir s;have z:=mB (n:=(tN s).2.1) (by unfold yJ;omega)
   refine NB p1 (zH (t:=.str) (Pw (by unfold yJ;omega)) ⟨?_,?_,rfl⟩)
   ·simp only[Du,List.size_toArray,List.length_cons,List.length_nil];omega
   ·simp only[ByteArray.size_append,Du,List.size_toArray,List.length_cons,List.length_nil];omega
theorem ziy{m:zG}{vs:List Int}(h:Xd m vs=0):xL m=0∧vs.length=m.vars.length∧(m.goal≠0→-1000≤vs.getD m.var.toNat 0∧vs.getD m.var.toNat 0≤1000):=by
 obtain⟨h1,h2⟩:=Tm h;have hr:=lO h1;split at h2
 ·exact absurd h2 (by decide)
 rename_i h3;have h3:vs.length=m.vars.length:=Decidable.of_not_not h3;split at h2
 ·exact absurd h2 (by decide)
 rename_i h4;refine⟨h1,h3,λhg=> ?_⟩
 obtain⟨_,g2,g3⟩:=Uj hr hg;have hvl:m.var.toNat<m.vars.length:=by omega
 have hb:=hr.var _ (List.getElem_mem hvl);have h4:¬(vs.getD m.var.toNat 0<(m.vars.getD m.var.toNat Ty.var.dflt).lo∨(m.vars.getD m.var.toNat Ty.var.dflt).hi<vs.getD m.var.toNat 0):=λh5=>h4 ⟨hg,h5⟩
 rw[yE _ hvl]at h4
 omega
def ER(m:zG)(vs:List Int):List (List zC):=if 0<vs.length then[pM m vs]else[]
def O1(m:zG)(vs:List Int):Int:=if 0<vs.length then Xd m vs else 0
noncomputable def zd2 (s:ByteArray)(vs:List Int)(st:List zU):Bool×Int:=
 if(tN s).2.2≠0 then(false,(tN s).2.2)
 else if O1 (tN s).1 vs≠0 then(false,O1 (tN s).1 vs)
 else if iU (tN s).1 (ER (tN s).1 vs) st≠0 then(false,iU (tN s).1 (ER (tN s).1 vs) st)
 else(aP (tN s).1 (ER (tN s).1 vs) st&&(decide (vs.length=0)||wholeM (tN s).1 vs),0)
theorem TK(s:ByteArray)(vs:List Int)(st:List zU):tU hM [.str s,.sl .int vs,.sl .step st] (.tup [dB (zd2 s vs st).1,dI (zd2 s vs st).2]):=
 Li s vs st λok=>by
  rw[KU];refine zas (t:=.mdl) (u:=.int) (v:=.int) (O0 s) ?_;unfold zd2;rcases Pi s with⟨p1,p2⟩|⟨p1,p2⟩
  ·rw[if_neg (λx=>x p1)]
   refine Ai p1 ?_;generalize(tN s).1=m at p2⊢
   have hr:=lO p2;have hch:∀g,zfW m g st=iU m g st:=λg=>RX p2
   by_cases hv:0<vs.length
   ·have hbe:O1 m vs=Xd m vs:=if_pos hv
    have hgi:ER m vs=[pM m vs]:=if_pos hv;rw[hbe,hgi];refine dt (by omega) (WP (t:=.list .lit) (u:=.int) (Q9 m vs) ?_)
    by_cases hb:Xd m vs=0
    ·obtain⟨_,b2,b3⟩:=ziy hb
     rw[if_neg (λx=>x hb),show H8 m vs=pM m vs from if_pos hb]
     refine Ai hb ⟨xY (t:=.list .lit) (show(0+1)*24≤140737488355328 by decide),?_⟩
     refine WP (t:=.bool) (u:=.int) (QX m [pM m vs] st) ?_;rw[hch]
     by_cases hs:iU m [pM m vs] st=0
     ·rw[if_neg (λx=>x hs),hs]
      refine Ai rfl ?_;rw[zkp rfl];cases hp:aP m [pM m vs] st with
      |false=>exact bf rfl rfl
      |true=>
       refine bt rfl (df (by omega) (zH (t:=.bool) (Fo hr b2) ?_))
       rw[decide_eq_false (by omega:¬vs.length=0)];rfl
     ·rw[if_pos hs]
      exact NB hs rfl
    ·rw[if_pos hb]
     exact NB hb rfl
   ·have hbe:O1 m vs=0:=if_neg hv
    have hgi:ER m vs=[]:=if_neg hv;rw[hbe,hgi,if_neg (λx=>x rfl)]
    refine df (by omega) (WP (t:=.bool) (u:=.int) (QX m [] st) ?_)
    rw[hch]
    by_cases hs:iU m [] st=0
    ·rw[if_neg (λx=>x hs),hs]
     refine Ai rfl ?_;rw[zkp rfl];cases hp:aP m [] st with
     |false=>exact bf rfl rfl
     |true=>
      refine bt rfl (dt (by omega) ?_)
      rw[decide_eq_true (by omega:vs.length=0)];rfl
    ·rw[if_pos hs]
     exact NB hs rfl
  ·rw[if_pos p1]
   exact NB p1 rfl
theorem Iu:tN Wu=(vT,0,0):=zd0
theorem zb7:Bf Wu 20=(⟨#[98,101,115,116,10,120,32,61,32,48,10,121,32,61,32,49,10]⟩,0):=by
 obtain⟨h1,h2,_⟩:=H9;unfold Bf;rw[if_neg (by decide),if_neg (by decide),if_neg (by decide),Iu,if_neg (by decide)]
 show(PF vT (mC vT 20),(0:Int))=_
 unfold PF;rw[if_pos h1,h2];rw[show JC vT [0,1]=⟨#[98,101,115,116,10,120,32,61,32,48,10,121,32,61,32,49,10]⟩ by kernel_rfl]
theorem zb8{m:zG}{g g':List (List zC)}{t:List zU}(h:iU m g t=0)(hl:g'.length≤600)(hg:∀c∈g',yP m.vars.length c=0):iU m g' t=0:=by
 unfold iU at h⊢
 split at h
 ·exact absurd h (by decide)
 rename_i h0;obtain⟨_,h1⟩:=Tm h
 have e3:Wo m.vars.length g'=0:=by
  rw[Wo,if_neg (by omega)]
  exact XC λ_ x hx=>hg x hx
 rw[if_neg (by omega),e3,h1];rfl
theorem zjJ:zd2 Wu (mC vT 20).values (mC vT 20).proof=(true,0)∧zd2 Wu [0,2] (mC vT 20).proof=(false,0):=by
 obtain⟨h1,h2,h3⟩:=H9;have hm:xL vT=0:=by kernel_rfl
 have hr:=lO hm;obtain⟨_,k,hk,hx⟩:=ze1 (L0 (m:=vT) (fuel:=20) hm (by decide))
 have hb:=hx;cases hb with
 |any q0 _ _ _=>exact absurd q0 (by decide)
 |none q1 _ _ _=>rw[h1]at q1;exact absurd q1 (by decide)
 |unknown q1 _ _ _=>rw[h1]at q1;exact absurd q1 (by decide)
 |best q0 q1 q2 q3 q4=>
  have hc:∀c∈[pM vT (mC vT 20).values],yP vT.vars.length c=0:=λc hc=>by rw[List.mem_singleton.1 hc];exact H7 hr q0 q2.full
  have hst:=AP hc (Nat.le_refl _) q3 q4;have hri:=q3.right;have hw:=q2.whole;rw[h2]at hst hri hw⊢
  have hpt:tN Wu=(vT,0,0):=Iu;constructor
  ·unfold zd2
   rw[hpt,if_neg (by decide)]
   show(if O1 vT [0,1]≠0 then(false,O1 vT [0,1])else if iU vT [pM vT [0,1]] (mC vT 20).proof≠0 then(false,iU vT [pM vT [0,1]] (mC vT 20).proof)else(aP vT [pM vT [0,1]] (mC vT 20).proof&&(decide (([0,1]:List Int).length=0)||wholeM vT [0,1]),0))=(true,0)
   rw[if_neg (by rw[show O1 vT [0,1]=0 by kernel_rfl];exact λx=>x rfl),if_neg (λx=>x hst),hri,hw];rfl
  ·have hc2:∀c∈[pM vT [0,2]],yP vT.vars.length c=0:=λc hc=>by rw[List.mem_singleton.1 hc];kernel_rfl
   have hst2:iU vT [pM vT [0,2]] (mC vT 20).proof=0:=zb8 hst (by decide) hc2
   have hp:aP vT [pM vT [0,2]] (mC vT 20).proof=false:=zbB (vs:=[0,1]) (Eb hm hst2) rfl hw λc hc=>by rw[List.mem_singleton.1 hc];kernel_rfl
   unfold zd2;rw[hpt,if_neg (by decide)]
   show(if O1 vT [0,2]≠0 then(false,O1 vT [0,2])else if iU vT [pM vT [0,2]] (mC vT 20).proof≠0 then(false,iU vT [pM vT [0,2]] (mC vT 20).proof)else(aP vT [pM vT [0,2]] (mC vT 20).proof&&(decide (([0,2]:List Int).length=0)||wholeM vT [0,2]),0))=(false,0)
   rw[if_neg (by rw[show O1 vT [0,2]=0 by kernel_rfl];exact λx=>x rfl),if_neg (λx=>x hst2),hp];rfl
theorem ES:tU oG [] (dB true):=
 VH λok=>by
  rw[Uy];obtain⟨h1,h2,h3⟩:=H9;obtain⟨v1,v2⟩:=zjJ;refine WP (t:=.str) (u:=.int) (TJ Wu 20) ?_;rw[zb7];refine zH (t:=.mdl) zjI (WP (t:=.ans) (u:=.int) (Wt vT 20) (WP (t:=.bool) (u:=.int) (TK Wu _ _) (WP (t:=.bool) (u:=.int) (TK Wu [0,2] _) ?_)));rw[v1,v2];exact dt rfl (dt (by kernel_rfl) (dt rfl (dt rfl (dt rfl (bt rfl rfl)))))
theorem Vw(s:ByteArray)(fuel:Int):tU dO [.str s,dI fuel] (dB true):=
 Wh s fuel λok=>by
  rw[W2];refine WP (t:=.str) (u:=.int) (TJ s fuel) (zH (t:=.bool) ES (bnf rfl (zH (t:=.bool) SF (bnf rfl ?_))));unfold Bf
  by_cases h1:4000<(s.size:Int)
  ·rw[if_pos h1]
   refine dt h1 (dt rfl ?_);rw[decide_eq_true rfl]
  rw[if_neg h1];refine df h1 ?_
  by_cases h2:fuel<0
  ·rw[if_pos h2]
   refine dt h2 (dt rfl ?_);rw[decide_eq_true rfl]
  rw[if_neg h2];refine df h2 ?_
  by_cases h3:300<fuel
  ·rw[if_pos h3]
   refine dt h3 (dt rfl ?_);rw[decide_eq_true rfl]
  rw[if_neg h3];refine df h3 (zas (t:=.mdl) (u:=.int) (v:=.int) (Ph s) ?_);rcases Pi s with⟨p1,p2⟩|⟨p1,p2⟩
  ·rw[if_neg (λx=>x p1)]
   refine Ai p1 (WP (t:=.ans) (u:=.int) (Wt _ fuel) ?_);rw[L0 (m:=(tN s).1) (fuel:=fuel) p2 (by omega)]
   refine dt rfl (dt rfl (zH (t:=.str) (TF (zk1 p2) (Bg p2 (by omega))) ?_))
   rw[decide_eq_true rfl]
  ·rw[if_pos p1]
   have hp:=Ir s;have z:=mB (n:=(tN s).2.1) (by unfold yJ;omega)
   refine NB p1 (dt rfl (zH (t:=.str) (cG (by omega)) ⟨?_,?_,?_⟩))
   ·simp only[Du,List.size_toArray,List.length_cons,List.length_nil];omega
   ·simp only[ByteArray.size_append,Du,List.size_toArray,List.length_cons,List.length_nil];omega
   ·show dB (decide (zd1 (tN s).2.1=zd1 (tN s).2.1))=dB true
    rw[decide_eq_true rfl]
section
variable {s:ByteArray}{vs:List Int}{st:List zU}
end
end Go.Proofs.YtogdmcebojiojaaGreatDoor
namespace Go.Proofs.YtogdmcebojiojaaGreatDoor
open Go.ChangeShapes Go.WideShapes Go.ChangeAt Go.RowKit
set_option linter.unusedVariables false
set_option linter.unusedSimpArgs false
def zb9:List (String×DataW Unit):=[("math/bits.deBruijn32tab",Rows.laid_math_bits_deBruijn32tab),("math/bits.deBruijn64tab",Rows.laid_math_bits_deBruijn64tab),("internal/strconv.uint64pow10",Rows.laid_internal_strconv_uint64pow10),("strconv.ErrRange",Rows.laid_strconv_ErrRange),("strconv.ErrSyntax",Rows.laid_strconv_ErrSyntax)]
theorem zjK:(Rows.laid_internal_strconv_uint64pow10:DataW Unit)=Lib.tabData .u64 Lib.pow10Tab:=by kernel_rfl
theorem zd3:∃g t e n,Tryz.prog.globalNamed "internal/strconv.uint64pow10" =some g∧(Tryz.prog.globals[g]?).map (·.type)=some t∧Tryz.prog.underlying t=some (.array n e)∧Tryz.prog.underlying e=some (.int .u64)∧Tryz.prog.cellsOf e=1∧Tryz.prog.cellsOf t=n:=
 ⟨0,281,250,20,by kernel_rfl,by kernel_rfl,by kernel_rfl,by kernel_rfl,by kernel_rfl,by kernel_rfl⟩
theorem zca{W:World}(h:laidMetH Tryz.prog zb9 W):Lib.TabIs Tryz.prog W "internal/strconv.uint64pow10" .u64 Lib.pow10Tab:=by
 rw[MakeChecks.laidMetH_plain _ _ _ (by kernel_rfl)]at h
 obtain⟨g,t,e,n,e1,e2,e3,e4,e5,e6⟩:=zd3;obtain⟨ps,⟨g0,t0,cs0,f0,p0,q0,hg0,ht0,hv0,hd0,⟨g1,t1,cs1,f1,p1,q1,hg1,ht1,hv1,hd1,⟨g2,t2,cs2,f2,p2,q2,hg2,ht2,hv2,hd2,_⟩,_⟩,_⟩,_⟩:=h;obtain rfl:=Option.some.inj (e1.symm.trans hg2);obtain rfl:=Option.some.inj (e2.symm.trans ht2);unfold Lib.TabIs;rw[zjK]at hd2
 rw[hv2,←Lib.cells_of_tab e3 e4 e5 e6 hd2]
theorem ziz(os:Os)(args:Array Value):laidMetH Tryz.prog zb9 ((World.doorLaid Tryz.prog 62 os).forCall (λ_ _=>0) ⟨#[],args,[]⟩).memory:=
 laidMetH_of_parts3 (fuel:=8) (laidMet_of_run' 8 (by kernel_rfl) (by kernel_rfl)) (by kernel_rfl) (by kernel_rfl)
end Go.Proofs.YtogdmcebojiojaaGreatDoor
namespace Go.Proofs.YtogdmcebojiojaaGreatDoor
open Go.RowKit Go.ChangeShapes Go.WideShapes Go.Deep
set_option linter.unusedVariables false
set_option linter.unusedSimpArgs false
end Go.Proofs.YtogdmcebojiojaaGreatDoor
namespace Go.Proofs.YtogdmcebojiojaaGreatDoor
open Go.RowKit Go.ChangeShapes Go.WideShapes Go.Deep
set_option linter.unusedVariables false
set_option linter.unusedSimpArgs false
end Go.Proofs.YtogdmcebojiojaaGreatDoor
