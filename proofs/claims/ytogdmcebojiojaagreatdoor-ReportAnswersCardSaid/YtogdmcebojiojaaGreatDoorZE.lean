/- Texts of this proof, one behind the other: nothing is handed in but what is proved here; no condition. -/
import Derived.Test.YtogdmcebojiojaaGreatDoorProg
import Derived.Lib.AppendZeros
import Derived.Test.YtogdmcebojiojaaGreatDoorZD
namespace Go.Proofs.YtogdmcebojiojaaGreatDoor
open Go.RowKit
set_option maxRecDepth 100000
set_option linter.unusedVariables false
set_option linter.unusedSimpArgs false
def cI(t s:List (List Int)):Prop:=t.length=s.length∧∀v:Nat,(t.getD v []).Sublist (s.getD v [])
def Vx(vs:List Int)(s:List (List Int)):Prop:=vs.length=s.length∧∀v:Nat,v<s.length→vs.getD v 0∈s.getD v []
theorem cI.refl(s:List (List Int)):cI s s:=⟨rfl,λv=>List.Sublist.refl _⟩
theorem cI.trans{a b c:List (List Int)}(h:cI a b)(h':cI b c):cI a c:=⟨h.1.trans h'.1,λv=>(h.2 v).trans (h'.2 v)⟩
theorem QJ{α:Type}{d:α}{a b:List α}(hl:a.length=b.length)(h:∀v:Nat,a.getD v d=b.getD v d):a=b:=by
 apply List.ext_getElem hl;intro i h1 h2;have:=h i
 rwa[yE _ h1,yE _ h2]at this
theorem qJ{α:Type}{d:α}{a:List α}{v:Nat}(h:a.length≤v):a.getD v d=d:=by
 rw[List.getD_eq_getElem?_getD,List.getElem?_eq_none h];rfl
theorem cI.antisymm{a b:List (List Int)}(h:cI a b)(h':cI b a):a=b:=
 QJ h.1 λv=>(h.2 v).eq_of_length (Nat.le_antisymm (h.2 v).length_le (h'.2 v).length_le)
theorem Vd{f:Nat→Int→Bool}{s:List (List Int)}:cI (pL f s) s:=⟨tL,λv=>by rw[tK];exact List.filter_sublist⟩
theorem Zc{f:Nat→Int→Bool}{s:List (List Int)}(h:∀(v:Nat) (n:Int),n∈s.getD v []→f v n=true):pL f s=s:=
 QJ tL λv=>by rw[tK];exact List.filter_eq_self.2 λn hn=>h v n hn
theorem Ve{f g:Nat→Int→Bool}{t s:List (List Int)}(h:cI t s)(hf:∀(v:Nat) (n:Int),n∈t.getD v []→f v n=true→g v n=true):cI (pL f t) (pL g s):=by
 refine⟨by rw[tL,tL];exact h.1,λv=> ?_⟩
 rw[tK,tK];refine List.Sublist.trans ?_ ((h.2 v).filter (g v))
 have e:(t.getD v []).filter (f v)=((t.getD v []).filter (g v)).filter (f v):=by
  rw[List.filter_filter];refine List.filter_congr λn hn=> ?_
  cases hc:f v n
  ·rfl
  ·rw[hf v n hn hc];rfl
 rw[e];exact List.filter_sublist
theorem sT{s:List (List Int)}:zT s=false↔∀v:Nat,v<s.length→s.getD v []≠[]:=by
 rw[zT,List.any_eq_false];constructor
 ·intro h v hv e
  rw[yE _ hv]at e
  exact h _ (List.getElem_mem hv) (by rw[e];rfl)
 ·intro h l hl e
  obtain⟨i,hi,rfl⟩:=List.getElem_of_mem hl;refine h i hi ?_;rw[yE _ hi];exact List.length_eq_zero_iff.1 (of_decide_eq_true e)
theorem Fp{s:List (List Int)}:zT s=true↔∃v:Nat,v<s.length∧s.getD v []=[]:=by
 constructor
 ·intro h
  apply Classical.byContradiction;intro hn;rw[sT.2 λv hv e=>hn ⟨v,hv,e⟩]at h
  cases h
 ·rintro⟨v,hv,e⟩
  cases h:zT s
  ·exact absurd e (sT.1 h v hv)
  ·rfl
theorem cI.fail{t s:List (List Int)}(h:cI t s)(hf:zT t=false):zT s=false:=
 sT.2 λv hv e=>sT.1 hf v (by rw[h.1];exact hv) (by have:=h.2 v;rw[e]at this;exact List.sublist_nil.1 this)
theorem cI.failed{t s:List (List Int)}(h:cI t s)(hf:zT s=true):zT t=true:=by
 cases e:zT t
 ·rw[h.fail e]at hf;cases hf
 ·rfl
theorem Vx.mono{vs:List Int}{t s:List (List Int)}(h:Vx vs t)(hl:cI t s):Vx vs s:=⟨h.1.trans hl.1,λv hv=>(hl.2 v).subset (h.2 v (by rw[hl.1];exact hv))⟩
theorem Vx.fail{vs:List Int}{s:List (List Int)}(h:Vx vs s):zT s=false:=sT.2 λv hv e=>by
 have:=h.2 v hv;rw[e]at this;cases this
theorem Wj{s:List (List Int)}:(gI s).length=s.length:=List.length_replicate ..
theorem Fq{s:List (List Int)}{v:Nat}:(gI s).getD v []=[]:=by
 by_cases h:v<s.length
 ·rw[yE _ (by rw[Wj];exact h)];exact List.getElem_replicate ..
 ·exact qJ (by rw[Wj];omega)
theorem Tg{s t:List (List Int)}(h:s.length=t.length):cI (gI s) t:=⟨Wj.trans h,λv=>by rw[Fq];exact List.nil_sublist _⟩
theorem iR{s:List (List Int)}(h:0<s.length):zT (gI s)=true:=Fp.2 ⟨0,by rw[Wj];exact h,Fq⟩
theorem Fr{s t:List (List Int)}(h:s.length=t.length):gI s=gI t:=by rw[gI,gI,h]
theorem pick{s:List (List Int)}(hf:zT s=false){v:Nat}{n:Int}(hn:n∈s.getD v []):∃vs,Vx vs s∧vs.getD v 0=n:=by
 refine⟨s.mapIdx λu l=>if u=v then n else l.headD 0,⟨List.length_mapIdx,λu hu=> ?_⟩,?_⟩
 ·rw[yE _ (show u<(s.mapIdx λu l=>if u=v then n else l.headD 0).length by rw[List.length_mapIdx];exact hu),List.getElem_mapIdx]
  by_cases e:u=v
  ·rw[if_pos e,e];exact hn
  ·rw[if_neg e,yE _ hu]
   have h1:=sT.1 hf u hu;rw[yE _ hu]at h1
   cases h:s[u]with
   |nil=>exact absurd h h1
   |cons a l=>exact List.mem_cons_self ..
 ·have hv:v<s.length:=by
   apply Classical.byContradiction;intro h;rw[qJ (by omega)]at hn;cases hn
  rw[yE _ (show v<(s.mapIdx λu l=>if u=v then n else l.headD 0).length by rw[List.length_mapIdx];exact hv),List.getElem_mapIdx,if_pos rfl]
theorem QL{s:List (List Int)}(hf:zT s=false):∃vs,Vx vs s:=by
 cases s with
 |nil=>exact⟨[],rfl,λv hv=>absurd hv (Nat.not_lt_zero _)⟩
 |cons a s=>
  have h1:=sT.1 hf 0 (Nat.zero_lt_succ _);cases a with
  |nil=>exact absurd rfl h1
  |cons x a=>
   obtain⟨vs,h,_⟩:=pick hf (v:=0) (n:=x) (List.mem_cons_self ..);exact⟨vs,h⟩
theorem rO{vs:List Int}{u v:Nat}{n:Int}(hv:v<vs.length):(vs.set v n).getD u 0=if u=v then n else vs.getD u 0:=by
 rw[List.getD_eq_getElem?_getD,List.getD_eq_getElem?_getD,List.getElem?_set]
 by_cases e:u=v
 ·rw[if_pos e.symm,if_pos e,if_pos (by omega)];rfl
 ·rw[if_neg (λx=>e x.symm),if_neg e]
theorem Vx.set{vs:List Int}{s:List (List Int)}(h:Vx vs s){v:Nat}{n:Int}(hn:n∈s.getD v [])(hv:v<s.length):Vx (vs.set v n) s:=by
 refine⟨by rw[List.length_set];exact h.1,λu hu=> ?_⟩
 rw[rO (by rw[h.1];exact hv)]
 split
 ·rename_i e;rw[e];exact hn
 ·exact h.2 u hu
def May(Q:List Int→Bool)(s:List (List Int))(v:Nat)(n:Int):Prop:=∃vs,Vx vs s∧vs.getD v 0=n∧Q vs=true
open Classical in
noncomputable def mayB (Q:List Int→Bool)(s:List (List Int))(v:Nat)(n:Int):Bool:=decide (May Q s v n)
open Classical in
theorem oY{Q:List Int→Bool}{s:List (List Int)}{v:Nat}{n:Int}:mayB Q s v n=true↔May Q s v n:=by rw[mayB];exact decide_eq_true_iff
open Classical in
theorem zc9{Q:List Int→Bool}{s:List (List Int)}{v:Nat}{n:Int}:mayB Q s v n=false↔¬May Q s v n:=by rw[mayB];exact decide_eq_false_iff_not
theorem May.mono{Q:List Int→Bool}{t s:List (List Int)}{v:Nat}{n:Int}(h:May Q t v n)(hl:cI t s):May Q s v n:=let⟨vs,a,b,c⟩:=h;⟨vs,a.mono hl,b,c⟩
abbrev Op:=List (List Int)→List (List Int)
structure Xu (nv:Nat)(op:Op)(Q:List Int→Bool):Prop where
 fail:∀s,s.length=nv→zT s=true→op s=s
 none:∀s,s.length=nv→zT s=false→(¬∃vs,Vx vs s∧Q vs=true)→zT (op s)=true∧cI (op s) s
 some:∀s,s.length=nv→zT s=false→(∃vs,Vx vs s∧Q vs=true)→op s=pL (mayB Q s) s
section
variable {nv:Nat}{op:Op}{Q:List Int→Bool}{s t:List (List Int)}
theorem Xu.le(h:Xu nv op Q)(hl:s.length=nv):cI (op s) s:=by
 cases hf:zT s
 ·by_cases he:∃vs,Vx vs s∧Q vs=true
  ·rw[h.some s hl hf he];exact Vd
  ·exact(h.none s hl hf he).2
 ·rw[h.fail s hl hf];exact cI.refl s
theorem Xu.len(h:Xu nv op Q)(hl:s.length=nv):(op s).length=nv:=(h.le hl).1.trans hl
theorem Xu.keeps(h:Xu nv op Q)(hl:s.length=nv){vs:List Int}(hv:Vx vs s)(hq:Q vs=true):Vx vs (op s):=by
 rw[h.some s hl hv.fail ⟨vs,hv,hq⟩];refine⟨hv.1.trans tL.symm,λv hv'=> ?_⟩
 rw[tK,List.mem_filter];rw[tL]at hv'
 exact⟨hv.2 v hv',oY.2 ⟨vs,hv,rfl,hq⟩⟩
theorem Xu.nofail(h:Xu nv op Q)(hl:s.length=nv):zT (op s)=false↔∃vs,Vx vs s∧Q vs=true:=by
 constructor
 ·intro hf
  have hs:=(h.le hl).fail hf;apply Classical.byContradiction;intro he;rw[(h.none s hl hs he).1]at hf;cases hf
 ·rintro⟨vs,h1,h2⟩
  exact(h.keeps hl h1 h2).fail
theorem Xu.mono(h:Xu nv op Q)(hl:s.length=nv)(hts:cI t s)(hf:zT (op t)=false):cI (op t) (op s):=by
 have hlt:t.length=nv:=hts.1.trans hl;have he:=(h.nofail hlt).1 hf;obtain⟨vs,h1,h2⟩:=he;rw[h.some t hlt h1.fail ⟨vs,h1,h2⟩,h.some s hl (h1.mono hts).fail ⟨vs,h1.mono hts,h2⟩];exact Ve hts λv n _ hm=>oY.2 ((oY.1 hm).mono hts)
theorem Xu.congr{Q':List Int→Bool}(h:Xu nv op Q)(hl:s.length=nv){vs:List Int}(hst:op s=s)(hf:zT s=false)(v:Nat)(n:Int)(hn:n∈s.getD v []):∃us,Vx us s∧us.getD v 0=n∧Q us=true:=by
 have:=(h.nofail hl).1 (by rw[hst];exact hf)
 have e:=h.some s hl hf this;rw[hst]at e
 rw[e,tK,List.mem_filter]at hn
 exact oY.1 hn.2
end
def Oj(ops:List Op)(s:List (List Int)):Prop:=∀op∈ops,op s=s
def Fs(nv:Nat)(ops:List Op):Prop:=∀op∈ops,∃Q,Xu nv op Q
structure rZ (ops:List Op)(s r:List (List Int)):Prop where
 le:cI r s
 all:∀t,cI t s→zT t=false→Oj ops t→cI t r
theorem rZ.refl(ops:List Op)(s:List (List Int)):rZ ops s s:=⟨cI.refl s,λt h _ _=>h⟩
theorem rZ.step{nv:Nat}{ops:List Op}{s r:List (List Int)}(ho:Fs nv ops)(hl:s.length=nv)(h:rZ ops s r){op:Op}(hm:op∈ops):rZ ops s (op r):=by
 obtain⟨Q,hq⟩:=ho op hm;have hr:r.length=nv:=h.le.1.trans hl;refine⟨(hq.le hr).trans h.le,λt h1 h2 h3=> ?_⟩
 have e:=h3 op hm;have:=hq.mono hr (h.all t h1 h2 h3) (by rw[e];exact h2)
 rwa[e]at this
structure VI (ops:List Op)(s r:List (List Int)):Prop where
 le:cI r s
 all:∀t,cI t s→zT t=false→Oj ops t→cI t r
 out:(zT r=false∧Oj ops r)∨r=gI s
theorem VI.unique{ops:List Op}{s r r':List (List Int)}(hs:0<s.length)(h:VI ops s r)(h':VI ops s r'):r=r':=by
 rcases h.out with⟨h1,h2⟩|h1<;>rcases h'.out with⟨k1,k2⟩|k1
 ·exact(h'.all r h.le h1 h2).antisymm (h.all r' h'.le k1 k2)
 ·have:=(h'.all r h.le h1 h2).fail h1
  rw[k1,iR hs]at this;cases this
 ·have:=(h.all r' h'.le k1 k2).fail k1
  rw[h1,iR hs]at this;cases this
 ·rw[h1,k1]
theorem rZ.stop{ops:List Op}{s r:List (List Int)}(h:rZ ops s r)(hf:zT r=false)(hst:Oj ops r):VI ops s r:=⟨h.le,h.all,.inl ⟨hf,hst⟩⟩
theorem rZ.dead{ops:List Op}{s r:List (List Int)}(h:rZ ops s r)(hf:zT r=true):VI ops s (gI s):=
 ⟨Tg rfl,λt h1 h2 h3=>(by have:=(h.all t h1 h2 h3).fail h2;rw[hf]at this;cases this),.inr rfl⟩
theorem rZ.trans{ops:List Op}{s r q:List (List Int)}(h:rZ ops s r)(h':VI ops r q):VI ops s q:=
 ⟨h'.le.trans h.le,λt h1 h2 h3=>h'.all t (h.all t h1 h2 h3) h2 h3,h'.out.imp id λe=>e.trans (Fr h.le.1)⟩
def vE(s:List (List Int)):Nat:=(s.map List.length).sum
theorem K8:∀ {a b:List (List Int)},a.length=b.length→(∀v:Nat,(a.getD v []).Sublist (b.getD v []))→vE a≤vE b∧(vE a=vE b→a=b)
 |[],[],_,_=>⟨Nat.le_refl _,λ_=>rfl⟩
 |x::a,y::b,hl,h=>by
  have h0:x.Sublist y:=h 0;obtain⟨i1,i2⟩:=K8 (a:=a) (b:=b) (by simpa using hl) λv=>h (v+1)
  have e1:vE (x::a)=x.length+vE a:=rfl;have e2:vE (y::b)=y.length+vE b:=rfl;have:=h0.length_le;refine⟨by omega,λe=> ?_⟩
  rw[h0.eq_of_length (by omega),i2 (by omega)]
 |[],_::_,hl,_=>by simp at hl
 |_::_,[],hl,_=>by simp at hl
theorem cI.size{t s:List (List Int)}(h:cI t s):vE t≤vE s:=(K8 h.1 h.2).1
theorem cI.size_lt{t s:List (List Int)}(h:cI t s)(hn:t≠s):vE t<vE s:=Nat.lt_of_le_of_ne h.size λe=>hn ((K8 h.1 h.2).2 e)
theorem zda{nv:Nat}{ops:List Op}(ho:Fs nv ops):∀(k:Nat) (s:List (List Int)),s.length=nv→vE s≤k→∃r,VI ops s r:=by
 intro k
 induction k with
 |zero=>
  intro s hl hk;cases hf:zT s
  ·by_cases hst:Oj ops s
   ·exact⟨s,(rZ.refl ops s).stop hf hst⟩
   ·refine absurd (λop hm=> ?_) hst
    obtain⟨Q,hq⟩:=ho op hm;apply Classical.byContradiction;intro hn;have:=(hq.le hl).size_lt hn;omega
  ·exact⟨_,(rZ.refl ops s).dead hf⟩
 |succ k ih=>
  intro s hl hk;cases hf:zT s
  ·by_cases hst:Oj ops s
   ·exact⟨s,(rZ.refl ops s).stop hf hst⟩
   ·obtain⟨op,hm,hn⟩:∃op,op∈ops∧op s≠s:=by
     apply Classical.byContradiction;intro h;exact hst λop hm=>Classical.byContradiction λhn=>h ⟨op,hm,hn⟩
    obtain⟨Q,hq⟩:=ho op hm;have:=(hq.le hl).size_lt hn;obtain⟨r,hr⟩:=ih (op s) (hq.len hl) (by omega)
    exact⟨r,((rZ.refl ops s).step ho hl hm).trans hr⟩
  ·exact⟨_,(rZ.refl ops s).dead hf⟩
open Classical in
noncomputable def zhM (ops:List Op)(s:List (List Int)):List (List Int):=if h:∃r,VI ops s r then Classical.choose h else s
theorem zfH{nv:Nat}{ops:List Op}{s:List (List Int)}(ho:Fs nv ops)(hl:s.length=nv):VI ops s (zhM ops s):=by
 have h:=zda ho _ s hl (Nat.le_refl _);rw[zhM,dif_pos h];exact Classical.choose_spec h
theorem zjp{ops:List Op}{s r:List (List Int)}(hs:0<s.length)(h:VI ops s r):zhM ops s=r:=by
 have h':∃r,VI ops s r:=⟨r,h⟩;rw[zhM,dif_pos h'];exact(Classical.choose_spec h').unique hs h
section
variable {nv:Nat}{ops:List Op}{s t r:List (List Int)}
theorem zfI{vs:List Int}(h:Vx vs s):cI (vs.map λn=>[n]) s:=by
 refine⟨by rw[List.length_map];exact h.1,λv=> ?_⟩
 by_cases hv:v<s.length
 ·rw[yE _ (show v<(vs.map λn=>[n]).length by rw[List.length_map,h.1];exact hv),List.getElem_map,List.singleton_sublist]
  have:=h.2 v hv
  rwa[yE _ (show v<vs.length by rw[h.1];exact hv)]at this
 ·rw[qJ (by rw[List.length_map,h.1];omega)];exact List.nil_sublist _
theorem Th(vs:List Int):Vx vs (vs.map λn=>[n]):=⟨by rw[List.length_map],λv hv=>by
 rw[yE _ hv,List.getElem_map,List.mem_singleton,yE]⟩
theorem Xu.single{op:Op}{Q:List Int→Bool}(h:Xu nv op Q){vs:List Int}(hl:vs.length=nv)(hq:Q vs=true):op (vs.map λn=>[n])=vs.map λn=>[n]:=by
 have hs:(vs.map λn=>[n]).length=nv:=by rw[List.length_map];exact hl
 rw[h.some _ hs (Th vs).fail ⟨vs,Th vs,hq⟩];refine Zc λv n hn=>oY.2 ⟨vs,Th vs,?_,hq⟩
 by_cases hv:v<vs.length
 ·rw[yE _ (show v<(vs.map λn=>[n]).length by rw[List.length_map];exact hv),List.getElem_map,List.mem_singleton]at hn
  rw[yE _ hv,hn]
 ·rw[qJ (by rw[List.length_map];omega)]at hn;cases hn
theorem VI.keeps(h:VI ops s r)(hl:s.length=nv){vs:List Int}(hv:Vx vs s)(hq:∀op∈ops,∃Q,Xu nv op Q∧Q vs=true):Vx vs r:=by
 have h1:=h.all (vs.map λn=>[n]) (zfI hv) (Th vs).fail λop hm=>by
  obtain⟨Q,h1,h2⟩:=hq op hm;exact h1.single (hv.1.trans hl) h2
 exact(Th vs).mono h1
theorem VI.mono{ops':List Op}{s' r':List (List Int)}(hs:0<s.length)(h:VI ops s r)(h':VI ops' s' r')(hle:cI s s')(hsub:∀op∈ops',op∈ops):cI r r':=by
 rcases h.out with⟨h1,h2⟩|h1
 ·exact h'.all r (h.le.trans hle) h1 λop hm=>h2 op (hsub op hm)
 ·rw[h1];exact Tg (hle.1.trans h'.le.1.symm)
theorem VI.failed(h:VI ops s r)(hf:zT s=true):r=gI s:=by
 rcases h.out with⟨h1,_⟩|h1
 ·have:=h.le.fail h1;rw[hf]at this;cases this
 ·exact h1
end
theorem K9{α:Type}{p q:α→Bool}:∀ {l:List α},(∀x∈l,p x=q x)→l.any p=l.any q
 |[],_=>rfl
 |x::l,h=>by rw[List.any_cons,List.any_cons,h x (List.mem_cons_self ..),K9 λy hy=>h y (List.mem_cons_of_mem _ hy)]
theorem zeK{c:zE}{v:Int}(h:v∈c.vars):ET c v=true:=by
 rw[ET,Bool.or_eq_true];exact .inl (List.any_eq_true.2 ⟨v,h,decide_eq_true rfl⟩)
theorem zeL{c:zE}{l:zC}(h:l∈c.lits):ET c l.var=true:=by
 rw[ET,Bool.or_eq_true];exact .inr (List.any_eq_true.2 ⟨l,h,decide_eq_true rfl⟩)
theorem zhN{c:zE}{v:Int}(h:ET c v=true):v∈c.vars∨∃l∈c.lits,l.var=v:=by
 rw[ET,Bool.or_eq_true,List.any_eq_true,List.any_eq_true]at h
 rcases h with⟨x,hx,e⟩|⟨l,hl,e⟩
 ·rw[←of_decide_eq_true e];exact .inl hx
 ·exact .inr ⟨l,hl,of_decide_eq_true e⟩
theorem zbf{c:zE}{nv:Nat}(hc:tP c nv){vs us:List Int}(h:∀v:Nat,v<nv→ET c v=true→vs.getD v 0=us.getD v 0):sD c vs=sD c us:=by
 unfold sD;refine List.map_congr_left λv hv=> ?_
 have h1:=hc.vars v hv;refine h v.toNat (by omega) ?_
 rw[Int.toNat_of_nonneg h1.1];exact zeK hv
theorem jQ{c:zE}{nv:Nat}(hc:tP c nv){vs us:List Int}(h:∀v:Nat,v<nv→ET c v=true→vs.getD v 0=us.getD v 0):vH c vs=vH c us:=by
 have h1:=zbf hc h
 have h2:∀l∈c.lits,holdsL l (vs.getD l.var.toNat 0)=holdsL l (us.getD l.var.toNat 0):=λl hl=>by
  have h1:=(nT.1 (hc.lits l hl)).1;rw[h l.var.toNat (by omega) (by rw[Int.toNat_of_nonneg h1.1];exact zeL hl)]
 have h3:(c.lits.any λl=>holdsL l (vs.getD l.var.toNat 0))=c.lits.any λl=>holdsL l (us.getD l.var.toNat 0):=K9 h2
 have h4:((c.lits.take 1).any λl=>holdsL l (vs.getD l.var.toNat 0))=(c.lits.take 1).any λl=>holdsL l (us.getD l.var.toNat 0):=K9 λl hl=>h2 l (List.mem_of_mem_take hl)
 unfold vH;rw[h1,h3,h4]
theorem Xv{f g:Nat→Int→Bool}{s:List (List Int)}(h:∀(v:Nat) (n:Int),n∈s.getD v []→f v n=g v n):pL f s=pL g s:=
 QJ (d:=[]) (by rw[tL,tL]) λv=>by rw[tK,tK];exact List.filter_congr λn hn=>h v n hn
theorem Cx{c:zE}{nv:Nat}(h:yM c nv=[]){v:Nat}(hv:v<nv):ET c v=false:=by
 cases e:ET c v
 ·rfl
 ·have:(v:Int)∈yM c nv:=List.mem_filter.2 ⟨So.2 (by omega),e⟩
  rw[h]at this;cases this
theorem nU{c:zE}{nv:Nat}{v:Int}:v∈yM c nv↔(0≤v∧v<nv)∧ET c v=true:=by
 rw[yM,List.mem_filter,So];constructor
 ·rintro⟨h1,h2⟩;exact⟨by omega,h2⟩
 ·rintro⟨h1,h2⟩;exact⟨by omega,h2⟩
noncomputable def yQ (c:zE)(s:List (List Int)):List (List Int):=
 if zT s=true then s else if yM c s.length=[]then(if vH c []=true then s else gI s)else pL (λv n=> !ET c v||mayB (vH c) s v n) s
theorem Wz{c:zE}{nv:Nat}(hc:tP c nv)(h0:0<nv):Xu nv (yQ c) (vH c):=by
 refine⟨λs hl hf=>if_pos hf,λs hl hf he=> ?_,λs hl hf he=> ?_⟩
 ·rw[yQ,if_neg (by rw[hf];decide)]
  by_cases hs:yM c s.length=[]
  ·rw[if_pos hs,if_neg]
   ·exact⟨iR (by omega),Tg rfl⟩
   ·intro ht
    obtain⟨vs,hv⟩:=QL hf;refine he ⟨vs,hv,?_⟩;rw[←ht];exact jQ hc λv h1 h2=>by rw[hl]at hs;rw[Cx hs h1]at h2;cases h2
  ·rw[if_neg hs]
   refine⟨?_,Vd⟩;obtain⟨v,hv⟩:=List.exists_mem_of_ne_nil _ hs;obtain⟨h1,h2⟩:=nU.1 hv;refine Fp.2 ⟨v.toNat,by rw[tL];omega,?_⟩
   rw[tK,List.filter_eq_nil_iff];intro n hn hx;rw[Int.toNat_of_nonneg h1.1,h2,Bool.not_true,Bool.false_or]at hx
   obtain⟨vs,a,_,b⟩:=oY.1 hx;exact he ⟨vs,a,b⟩
 ·obtain⟨vs,hv,ht⟩:=he
  rw[yQ,if_neg (by rw[hf];decide)]
  by_cases hs:yM c s.length=[]
  ·have hn:∀us,vH c us=true:=λus=>by
    rw[←ht];exact jQ hc λv h1 h2=>by rw[hl]at hs;rw[Cx hs h1]at h2;cases h2
   rw[if_pos hs,if_pos (hn []),Zc λv n hm=>oY.2 ?_]
   obtain⟨us,h1,h2⟩:=pick hf hm;exact⟨us,h1,h2,hn us⟩
  ·rw[if_neg hs]
   refine Xv λv n hn=> ?_
   cases hi:ET c v
   ·rw[Bool.not_false,Bool.true_or]
    have hvl:v<s.length:=by
     apply Classical.byContradiction;intro h;rw[qJ (by omega)]at hn;cases hn
    refine(oY.2 ⟨vs.set v n,hv.set hn hvl,?_,?_⟩).symm
    ·rw[rO (by rw[hv.1];exact hvl),if_pos rfl]
    ·rw[←ht]
     refine jQ hc λu h1 h2=> ?_
     rw[rO (by rw[hv.1];exact hvl),if_neg]
     intro e;rw[e,hi]at h2;cases h2
   ·rw[Bool.not_true,Bool.false_or]
theorem NS{s:List (List Int)}{l:zC}:0≤V4 s l↔∃n∈s.getD l.var.toNat [],holdsL l n=true:=by
 rw[V4,Cm];split
 ·rename_i h
  rw[List.any_eq_false]at h
  exact⟨λe=>absurd e (by decide),λ⟨n,h1,h2⟩=>absurd h2 (h n h1)⟩
 ·rename_i h
  rw[Bool.not_eq_false,List.any_eq_true]at h
  refine⟨λ_=>h,λ_=> ?_⟩
  split<;>decide
theorem Ft{s:List (List Int)}{c:List zC}{v:Int}:v∈ZV s c↔∃l∈c,l.var=v∧∃n∈s.getD v.toNat [],holdsL l n=true:=by
 rw[ZV,List.mem_map];constructor
 ·rintro⟨l,hl,rfl⟩
  obtain⟨h1,h2⟩:=List.mem_filter.1 hl;exact⟨l,h1,rfl,NS.1 (of_decide_eq_true h2)⟩
 ·rintro⟨l,h1,rfl,h2⟩
  exact⟨l,List.mem_filter.2 ⟨h1,decide_eq_true (NS.2 h2)⟩,rfl⟩
theorem kE{c:List zC}{vs:List Int}:qZ c vs=true↔∃l∈c,holdsL l (vs.getD l.var.toNat 0)=true:=List.any_eq_true
theorem Ti{c:List zC}{v n:Int}:atC c v n=true↔∃l∈c,l.var=v∧holdsL l n=true:=by
 rw[atC,List.any_eq_true];constructor
 ·rintro⟨l,hl,h⟩
  split at h
  ·rename_i e;exact⟨l,hl,e,h⟩
  ·cases h
 ·rintro⟨l,hl,h1,h2⟩
  exact⟨l,hl,by rw[if_pos h1];exact h2⟩
theorem zeM{c:List zC}{nv:Nat}(hc:∀l∈c,0≤l.var∧l.var<nv)(h0:0<nv):Xu nv (λs=>Yk s c) (qZ c):=by
 have lives:∀ {s:List (List Int)} {vs:List Int} {l:zC},s.length=nv→Vx vs s→l∈c→holdsL l (vs.getD l.var.toNat 0)=true→l.var∈ZV s c:=fun {s vs l} hl hv hm hh=>by
  have:=hc l hm;exact Ft.2 ⟨l,hm,rfl,_,hv.2 _ (by omega),hh⟩
 have holds:∀ {s:List (List Int)},s.length=nv→zT s=false→∀ {v:Int},v∈ZV s c→∀(w:Nat) (n:Int),n∈s.getD w []→(w:Int)≠v→∃vs,Vx vs s∧vs.getD w 0=n∧qZ c vs=true:=fun {s} hl hf {v} hm w n hn hw=>by
  obtain⟨l,h1,h2,k,h3,h4⟩:=Ft.1 hm;have hr:=hc l h1;obtain⟨vs,hv,e⟩:=pick hf h3
  have hwl:w<s.length:=by
   apply Classical.byContradiction;intro h;rw[qJ (by omega)]at hn;cases hn
  refine⟨vs.set w n,hv.set hn hwl,by rw[rO (by rw[hv.1];exact hwl),if_pos rfl],kE.2 ⟨l,h1,?_⟩⟩
  rw[rO (by rw[hv.1];exact hwl),if_neg (by omega),h2,e];exact h4
 refine⟨λs hl hf=>if_pos hf,λs hl hf he=> ?_,λs hl hf he=> ?_⟩
 ·have hL:ZV s c=[]:=by
   cases h:ZV s c with
   |nil=>rfl
   |cons v vs=>
    obtain⟨l,h1,h2,n,h3,h4⟩:=Ft.1 (show v∈ZV s c by rw[h];exact List.mem_cons_self ..)
    obtain⟨us,hu,e⟩:=pick hf h3;exact absurd ⟨us,hu,kE.2 ⟨l,h1,by rw[h2,e];exact h4⟩⟩ he
  show zT (Yk s c)=true∧cI (Yk s c) s
  rw[Yk,if_neg (by rw[hf];decide),K7 c λl hl=>(hc l hl).1,hL]
  exact⟨iR (by omega),Tg rfl⟩
 ·obtain⟨vs,hv,ht⟩:=he
  obtain⟨l,hlm,hlh⟩:=kE.1 ht;have hlv:=lives hl hv hlm hlh;show Yk s c=_
  rw[Yk,if_neg (by rw[hf];decide),K7 c λl hl=>(hc l hl).1]
  cases hL:ZV s c with
  |nil=>rw[hL]at hlv;cases hlv
  |cons u us=>
   have hum:u∈ZV s c:=by rw[hL];exact List.mem_cons_self ..
   by_cases ha:us.all (λx=>decide (x=u))=true
   ·simp only[ha,if_true]
    have hall:∀x∈ZV s c,x=u:=λx hx=>by
     rw[hL]at hx
     rcases List.mem_cons.1 hx with h|h
     ·exact h
     ·exact of_decide_eq_true (List.all_eq_true.1 ha x h)
    refine Xv λw n hn=> ?_
    by_cases hw:(w:Int)=u
    ·rw[decide_eq_true hw,Bool.not_true,Bool.false_or]
     apply Bool.eq_iff_iff.2;rw[Ti,oY];constructor
     ·rintro⟨l,h1,h2,h3⟩
      obtain⟨x,hx,e⟩:=pick hf hn;refine⟨x,hx,e,kE.2 ⟨l,h1,?_⟩⟩;rw[show l.var.toNat=w by omega,e];exact h3
     ·rintro⟨x,hx,e,hh⟩
      obtain⟨l,h1,h2⟩:=kE.1 hh;have h3:=hall _ (lives hl hx h1 h2);refine⟨l,h1,h3,?_⟩
      rwa[show l.var.toNat=w by omega,e]at h2
    ·rw[decide_eq_false hw,Bool.not_false,Bool.true_or]
     exact(oY.2 (holds hl hf hum w n hn hw)).symm
   ·simp only[ha]
    have hx:∃x∈us,x≠u:=by
     apply Classical.byContradiction;intro hn;exact ha (List.all_eq_true.2 λx hx=>decide_eq_true (Classical.byContradiction λe=>hn ⟨x,hx,e⟩))
    obtain⟨x,hx,hxu⟩:=hx;have hxm:x∈ZV s c:=by rw[hL];exact List.mem_cons_of_mem _ hx
    refine(Zc λw n hn=>oY.2 ?_).symm
    by_cases hw:(w:Int)=u
    ·exact holds hl hf hxm w n hn (by omega)
    ·exact holds hl hf hum w n hn hw
def NT(kt:Ty):Prop:=∀a b:kt.den,O8 kt a b=true↔a=b
theorem gJ:NT .int:=λa b=>decide_eq_true_iff
theorem Px:NT (.pr .int .int):=λa b=>by
 show(decide (a.1=b.1)&&decide (a.2=b.2))=true↔a=b
 rw[Bool.and_eq_true,decide_eq_true_iff,decide_eq_true_iff];exact⟨λh=>Prod.ext h.1 h.2,λh=>by rw[h];exact⟨rfl,rfl⟩⟩
section
variable {kt vt:Ty}
theorem Fu(hk:NT kt)(x:kt.den):O8 kt x x=true:=(hk x x).2 rfl
theorem zdb(hk:NT kt){x y:kt.den}(h:x≠y):O8 kt x y=false:=by
 cases e:O8 kt x y
 ·rfl
 ·exact absurd ((hk x y).1 e) h
theorem WA(hk:NT kt){x:kt.den}{y:vt.den}:∀es:List (kt.den×vt.den),uH kt vt x (rD kt vt x y es)=some y
 |[]=>by rw[rD,uH,Fu hk];rfl
 |(a,b)::es=>by
  rw[rD];cases e:O8 kt x a
  ·rw[cond_false,uH,e,cond_false];exact WA hk es
  ·rw[cond_true,uH,e];rfl
theorem YD(hk:NT kt){x z:kt.den}{y:vt.den}(h:z≠x):∀es:List (kt.den×vt.den),uH kt vt z (rD kt vt x y es)=uH kt vt z es
 |[]=>by rw[rD,uH,uH,zdb hk h];rfl
 |(a,b)::es=>by
  rw[rD];cases e:O8 kt x a
  ·rw[cond_false,uH,uH]
   cases O8 kt z a
   ·rw[cond_false,cond_false];exact YD hk h es
   ·rfl
  ·have:=(hk x a).1 e
   subst this;rw[cond_true,uH,uH,zdb hk h,cond_false,cond_false]
theorem Lo(hk:NT kt){x:kt.den}{y:vt.den}:∀es:List (kt.den×vt.den),uH kt vt x es=none→rD kt vt x y es=es++[(x,y)]
 |[],_=>rfl
 |(a,b)::es,h=>by
  rw[uH]at h
  cases e:O8 kt x a
  ·rw[e,cond_false]at h
   rw[rD,e,cond_false,Lo hk es h];rfl
  ·rw[e]at h;cases h
theorem Cy(hk:NT kt){x:kt.den}{y k:vt.den}:∀es:List (kt.den×vt.den),uH kt vt x es=some k→(k::(rD kt vt x y es).map Prod.snd).Perm (y::es.map Prod.snd)
 |[],h=>by cases h
 |(a,b)::es,h=>by
  rw[uH]at h
  cases e:O8 kt x a
  ·rw[e,cond_false]at h
   rw[rD,e,cond_false,List.map_cons,List.map_cons];exact(List.Perm.swap _ _ _).trans (((Cy hk es h).cons b).trans (List.Perm.swap _ _ _))
  ·rw[e,cond_true]at h
   obtain rfl:b=k:=by cases h;rfl
   rw[rD,e,cond_true,List.map_cons,List.map_cons];exact List.Perm.swap _ _ _
theorem Lp(hk:NT kt){x:kt.den}{y k:vt.den}:∀es:List (kt.den×vt.den),uH kt vt x es=some k→(rD kt vt x y es).map Prod.fst=es.map Prod.fst
 |[],h=>by cases h
 |(a,b)::es,h=>by
  rw[uH]at h
  cases e:O8 kt x a
  ·rw[e,cond_false]at h
   rw[rD,e,cond_false,List.map_cons,List.map_cons,Lp hk es h]
  ·rw[rD,e,cond_true];rfl
theorem Xw(hk:NT kt){x:kt.den}:∀es:List (kt.den×vt.den),x∈es.map Prod.fst↔∃k,uH kt vt x es=some k
 |[]=>⟨λh=>(by cases h),λ⟨k,h⟩=>(by cases h)⟩
 |(a,b)::es=>by
  rw[List.map_cons,List.mem_cons,uH];cases e:O8 kt x a
  ·rw[cond_false]
   have hn:x≠a:=λh=>by subst h;rw[Fu hk]at e;cases e
   exact⟨λh=>(Xw hk es).1 (h.resolve_left hn),λh=> .inr ((Xw hk es).2 h)⟩
  ·exact⟨λ_=>⟨b,rfl⟩,λ_=> .inl ((hk x a).1 e)⟩
theorem zbg(hk:NT kt){x:kt.den}{k:vt.den}:∀es:List (kt.den×vt.den),uH kt vt x es=some k→(x,k)∈es
 |[],h=>by cases h
 |(a,b)::es,h=>by
  rw[uH]at h
  cases e:O8 kt x a
  ·rw[e,cond_false]at h;exact List.mem_cons_of_mem _ (zbg hk es h)
  ·rw[e,cond_true]at h
   obtain rfl:b=k:=by cases h;rfl
   rw[(hk x a).1 e];exact List.mem_cons_self ..
theorem Au(hk:NT kt){x:kt.den}{k:vt.den}:∀es:List (kt.den×vt.den),(es.map Prod.fst).Nodup→(x,k)∈es→uH kt vt x es=some k
 |[],_,h=>by cases h
 |(a,b)::es,hn,h=>by
  rw[List.map_cons,List.nodup_cons]at hn
  rw[uH];rcases List.mem_cons.1 h with h|h
  ·obtain⟨rfl,rfl⟩:x=a∧k=b:=by cases h;exact⟨rfl,rfl⟩
   rw[Fu hk];rfl
  ·rw[zdb hk λe=>hn.1 (by rw[←e];exact List.mem_map.2 ⟨_,h,rfl⟩),cond_false]
   exact Au hk es hn.2 h
theorem Fv(hk:NT kt){x:kt.den}{y:vt.den}{es:List (kt.den×vt.den)}(h:(es.map Prod.fst).Nodup):((rD kt vt x y es).map Prod.fst).Nodup:=by
 cases e:uH kt vt x es with
 |none=>
  rw[Lo hk es e,List.map_append,List.nodup_append];refine⟨h,by simp,λa ha b hb=> ?_⟩
  rintro rfl;obtain rfl:a=x:=by simpa using hb
  obtain⟨k,h2⟩:=(Xw hk es).1 ha;rw[e]at h2;cases h2
 |some k=>rw[Lp hk es e];exact h
theorem Fw(hk:NT kt){x z:kt.den}{y:vt.den}(es:List (kt.den×vt.den)):z∈(rD kt vt x y es).map Prod.fst↔z=x∨z∈es.map Prod.fst:=by
 rw[Xw hk,Xw hk];constructor
 ·rintro⟨k,h⟩
  apply Classical.byContradiction;intro hn;rw[YD hk (λe=>hn (.inl e))]at h
  exact hn (.inr ⟨k,h⟩)
 ·rintro(rfl|⟨k,h⟩)
  ·exact⟨y,WA hk es⟩
  ·apply Classical.byContradiction
   intro hn
   by_cases e:z=x
   ·subst e;exact hn ⟨y,WA hk es⟩
   ·exact hn ⟨k,by rw[YD hk e];exact h⟩
end
theorem zhO{α:Type}{t:List α}{k:Nat}(d:α)(h:k<t.length):t.getD k d=t[k]:=by rw[List.getD_eq_getElem?_getD,List.getElem?_eq_getElem h];rfl
theorem zeN{lo:Int}:∀ {n:Nat} {k:Int},k∈(List.range n).map (λi:Nat=>lo+i)↔lo≤k∧k<lo+n:=fun {n k}=>by
 rw[List.mem_map];constructor
 ·rintro⟨i,hi,rfl⟩;have:=List.mem_range.1 hi;omega
 ·rintro⟨h1,h2⟩;exact⟨(k-lo).toNat,List.mem_range.2 (by omega),by omega⟩
theorem YE{l:List Int}(h:l.Nodup){lo:Int}{n:Nat}(hl:∀x∈l,lo≤x∧x<lo+n):l.length≤n:=by
 have:=h.length_le_of_subset (l₂:=(List.range n).map λi:Nat=>lo+i) λx hx=>zeN.2 (hl x hx)
 rwa[List.length_map,List.length_range]at this
theorem Py{α β:Type}{f:α→β}:∀ {l:List α},l.Nodup→(∀a∈l,∀b∈l,f a=f b→a=b)→(l.map f).Nodup
 |[],_,_=>List.nodup_nil
 |a::l,h,hi=>by
  rw[List.nodup_cons]at h
  rw[List.map_cons,List.nodup_cons];refine⟨λhm=> ?_,Py h.2 λx hx y hy=>hi x (List.mem_cons_of_mem _ hx) y (List.mem_cons_of_mem _ hy)⟩
  obtain⟨b,hb,e⟩:=List.mem_map.1 hm;exact h.1 (by rw[←hi b (List.mem_cons_of_mem _ hb) a (List.mem_cons_self ..) e];exact hb)
theorem Cz{α:Type}{p q:α→Bool}:∀ {l:List α},(∀x∈l,p x=true→q x=true)→(∃x∈l,q x=true∧p x=false)→l.countP p<l.countP q
 |[],_,⟨x,h,_⟩=>by cases h
 |a::l,h1,⟨x,hx,h2,h3⟩=>by
  have hle:l.countP p≤l.countP q:=List.countP_mono_left λx hx=>h1 x (List.mem_cons_of_mem _ hx)
  rw[List.countP_cons,List.countP_cons];rcases List.mem_cons.1 hx with rfl|hx
  ·rw[if_pos h2,if_neg (by rw[h3];decide)];omega
  ·have:=Cz (λx hx=>h1 x (List.mem_cons_of_mem _ hx)) ⟨x,hx,h2,h3⟩
   by_cases hp:p a=true
   ·rw[if_pos hp,if_pos (h1 a (List.mem_cons_self ..) hp)];omega
   ·rw[if_neg hp];split<;>omega
abbrev KV:=List (Int×Int)
section
variable {x y z k:Int}{m:KV}
theorem Av:uH .int .int x (rD .int .int x y m)=some y:=WA (kt:=.int) (vt:=.int) gJ m
theorem QM(h:z≠x):uH .int .int z (rD .int .int x y m)=uH .int .int z m:=YD (kt:=.int) (vt:=.int) gJ h m
theorem zkr(h:uH .int .int x m=none):rD .int .int x y m=m++[(x,y)]:=Lo (kt:=.int) (vt:=.int) gJ m h
theorem zjq(h:uH .int .int x m=some k):(k::(rD .int .int x y m).map Prod.snd).Perm (y::m.map Prod.snd):=Cy (kt:=.int) (vt:=.int) gJ m h
theorem zks:x∈m.map Prod.fst↔∃k,uH .int .int x m=some k:=Xw (kt:=.int) (vt:=.int) gJ m
theorem zkt(h:uH .int .int x m=some k):(x,k)∈m:=zbg (kt:=.int) (vt:=.int) gJ m h
theorem zjY(h:(m.map Prod.fst).Nodup)(h2:(x,k)∈m):uH .int .int x m=some k:=Au (kt:=.int) (vt:=.int) gJ m h h2
theorem zbh(h:(m.map Prod.fst).Nodup):((rD .int .int x y m).map Prod.fst).Nodup:=Fv (kt:=.int) (vt:=.int) gJ h
theorem zku:z∈(rD .int .int x y m).map Prod.fst↔z=x∨z∈m.map Prod.fst:=Fw (kt:=.int) (vt:=.int) gJ m
end
def OO(turn:Int)(a:KV)(n:Int):Prop:=kJ .int .int n a=turn
structure ZW (turn:Int)(a:KV):Prop where
 nodup:(a.map Prod.fst).Nodup
 near:∀n∈a.map Prod.fst,-50≤n∧n≤50
 turns:∀n t:Int,uH .int .int n a=some t→1≤t∧t≤turn
structure Ja (rows:List (List Int))(m:KV):Prop where
 nodup:(m.map Prod.fst).Nodup
 ok:∀n k:Int,uH .int .int n m=some k→0≤k∧k<rows.length∧n∈rows.getD k.toNat []
def left(turn:Int)(a:KV):Nat:=((List.range 101).map λi:Nat=>(-50:Int)+i).countP λn=> !decide (kJ .int .int n a=turn)
instance {turn n:Int}{a:KV}:Decidable (OO turn a n):=inferInstanceAs (Decidable (_=_))
theorem Wk{turn n:Int}(a:KV):OO turn (rD .int .int n turn a) n:=by rw[OO,kJ,Av];rfl
theorem Dx{turn n x:Int}{a:KV}(h:x≠n):OO turn (rD .int .int n turn a) x↔OO turn a x:=by rw[OO,OO,kJ,kJ,QM h]
theorem HY{turn n x:Int}{a:KV}:OO turn (rD .int .int n turn a) x↔x=n∨OO turn a x:=by
 by_cases h:x=n
 ·subst h;exact⟨λ_=> .inl rfl,λ_=>Wk a⟩
 ·rw[Dx h];exact⟨.inr,λh'=>h'.resolve_left h⟩
theorem zfJ{turn:Int}{a b:KV}(h:∀n,OO turn a n→OO turn b n):left turn b≤left turn a:=
 List.countP_mono_left λn _ hn=>by
  simp only[Bool.not_eq_true',decide_eq_false_iff_not]at hn⊢
  exact λe=>hn (h n e)
theorem zjr{turn n:Int}{a:KV}(hn: -50≤n∧n≤50)(h:¬OO turn a n):left turn (rD .int .int n turn a)<left turn a:=
 Cz (λx _ hx=>by
  simp only[Bool.not_eq_true',decide_eq_false_iff_not]at hx⊢
  exact λe=>hx (HY.2 (.inr e))) ⟨n,zeN.2 (by omega),by simp only[Bool.not_eq_true',decide_eq_false_iff_not];exact h,by simp only[Bool.not_eq_false',decide_eq_true_iff];exact Wk a⟩
theorem ZW.put{turn n:Int}{a:KV}(h:ZW turn a)(hn: -50≤n∧n≤50)(ht:1≤turn):ZW turn (rD .int .int n turn a):=by
 refine⟨zbh h.nodup,λx hx=> ?_,λx t hx=> ?_⟩
 ·rcases zku.1 hx with rfl|hx
  ·exact hn
  ·exact h.near x hx
 ·by_cases e:x=n
  ·subst e;rw[Av]at hx;cases hx;omega
  ·rw[QM e]at hx;exact h.turns x t hx
theorem ZW.length{turn:Int}{a:KV}(h:ZW turn a):a.length≤101:=by
 have:=YE h.nodup (lo:= -50) (n:=101) λx hx=>by have:=h.near x hx;omega
 rwa[List.length_map]at this
theorem ZW.none{turn:Int}{a:KV}(h:ZW turn a)(h0:0≤turn){t:Int}(ht:turn<t)(n:Int):¬OO t a n:=by
 rw[OO,kJ];cases e:uH .int .int n a with
 |none=>show¬(0:Int)=t;omega
 |some k=>
  intro(hh:(k:Int)=t);have h2:=h.turns n k e;rw[hh]at h2;omega
theorem ZW.later{turn:Int}{a:KV}(h:ZW turn a){t:Int}(ht:turn≤t):ZW t a:=⟨h.nodup,h.near,λn k e=>by have:=h.turns n k e;omega⟩
theorem zfK:ZW 0 []:=⟨List.nodup_nil,λn hn=>(by cases hn),λn t h=>(by cases h)⟩
theorem zhP{rows:List (List Int)}:Ja rows []:=⟨List.nodup_nil,λn t h=>(by cases h)⟩
theorem Ja.length{rows:List (List Int)}{m:KV}(h:Ja rows m)(hr:∀r∈rows,∀n∈r,-50≤n∧n≤50):m.length≤101:=by
 have:=YE h.nodup (lo:= -50) (n:=101) λx hx=>by
  obtain⟨k,hk⟩:=zks.1 hx;obtain⟨h1,h2,h3⟩:=h.ok x k hk;have hl:k.toNat<rows.length:=by omega
  rw[zhO _ hl]at h3
  have:=hr _ (List.getElem_mem hl) x h3;omega
 rwa[List.length_map]at this
structure Fx (rows:List (List Int))(turn i:Int)(m a m' a':KV):Prop where
 ok:Ja rows m'
 ask:ZW turn a'
 vals:(m'.map Prod.snd).Perm (i::m.map Prod.snd)
 same:∀n:Int,OO turn a n→uH .int .int n m'=uH .int .int n m
structure Lq (rows:List (List Int))(turn:Int)(m a:KV)(pre:List Int)(a':KV):Prop where
 ask:ZW turn a'
 more:∀n,OO turn a n→OO turn a' n
 row:∀n∈pre,OO turn a' n
 closed:∀n,OO turn a' n→OO turn a n∨∃k:Int,uH .int .int n m=some k∧∀x∈rows.getD k.toNat [],OO turn a' x
section
variable {rows:List (List Int)}{turn i k n:Int}{m a a1 a2 m2:KV}{pre:List Int}
theorem Ja.put(h:Ja rows m)(hi:0≤i∧i<rows.length∧n∈rows.getD i.toNat []):Ja rows (rD .int .int n i m):=by
 refine⟨zbh h.nodup,λx k hx=> ?_⟩
 by_cases e:x=n
 ·subst e;rw[Av]at hx;cases hx;exact hi
 ·rw[QM e]at hx;exact h.ok x k hx
theorem zdc(h:Ja rows m)(ha:ZW turn a)(ht:1≤turn)(hn: -50≤n∧n≤50)(hi:0≤i∧i<rows.length∧n∈rows.getD i.toNat [])(hna:¬OO turn a n)(hm:uH .int .int n m=none):Fx rows turn i m a (rD .int .int n i m) (rD .int .int n turn a):=by
 refine⟨h.put hi,ha.put hn ht,?_,λx hx=>QM (λe=>hna (by rw[←e];exact hx))⟩
 rw[zkr hm,List.map_append];exact List.perm_append_comm
theorem zdd(hi:0≤i∧i<rows.length∧n∈rows.getD i.toNat [])(hna:¬OO turn a n)(hm:uH .int .int n m=some k)(h:Fx rows turn k m (rD .int .int n turn a) m2 a2):Fx rows turn i m a (rD .int .int n i m2) a2:=by
 have h2:uH .int .int n m2=some k:=(h.same n (Wk a)).trans hm;refine⟨h.ok.put hi,h.ask,?_,λx hx=> ?_⟩
 ·have h3:=zjq (y:=i) h2
  exact List.Perm.cons_inv (h3.trans ((h.vals.cons i).trans (List.Perm.swap _ _ _)))
 ·rw[QM (λe=>hna (by rw[←e];exact hx))]
  exact h.same x (HY.2 (.inr hx))
theorem Fx.start(h:Fx rows turn i m a1 m2 a2)(hm:∀n,OO turn a n→OO turn a1 n):Fx rows turn i m a m2 a2:=⟨h.ok,h.ask,h.vals,λn hn=>h.same n (hm n hn)⟩
theorem CA(h:ZW turn a):Lq rows turn m a [] a:=⟨h,λ_ h=>h,λn hn=>(by cases hn),λ_ h=> .inl h⟩
theorem zde(h:Lq rows turn m a pre a1)(hn:OO turn a1 n):Lq rows turn m a (pre++[n]) a1:=⟨h.ask,h.more,λx hx=>by
 rcases List.mem_append.1 hx with hx|hx
 ·exact h.row x hx
 ·rw[List.mem_singleton.1 hx];exact hn,h.closed⟩
theorem zdf(h:Lq rows turn m a pre a1)(hm:uH .int .int n m=some k)(h2:Lq rows turn m (rD .int .int n turn a1) (rows.getD k.toNat []) a2):Lq rows turn m a (pre++[n]) a2:=by
 have up:∀x,OO turn a1 x→OO turn a2 x:=λx hx=>h2.more x (HY.2 (.inr hx))
 refine⟨h2.ask,λx hx=>up x (h.more x hx),λx hx=> ?_,λx hx=> ?_⟩
 ·rcases List.mem_append.1 hx with hx|hx
  ·exact up x (h.row x hx)
  ·rw[List.mem_singleton.1 hx];exact h2.more n (Wk a1)
 ·rcases h2.closed x hx with h3|h3
  ·rcases HY.1 h3 with rfl|h3
   ·exact .inr ⟨k,hm,h2.row⟩
   ·rcases h.closed x h3 with h4|⟨j,h4,h5⟩
    ·exact .inl h4
    ·exact .inr ⟨j,h4,λy hy=>up y (h5 y hy)⟩
  ·exact .inr h3
def upI(n:Nat):List Int:=(List.range n).map λi:Nat=>(i:Int)
theorem zeO{n:Nat}{k:Int}:k∈upI n↔0≤k∧k<n:=by
 rw[upI,List.mem_map];constructor
 ·rintro⟨i,hi,rfl⟩;have:=List.mem_range.1 hi;omega
 ·rintro⟨h1,h2⟩;exact⟨k.toNat,List.mem_range.2 (by omega),by omega⟩
theorem zfL(n:Nat):(upI n).Nodup:=Py List.nodup_range λa _ b _ h=>Int.ofNat.inj h
theorem zhQ{n:Nat}:((n:Int)::upI n).Perm (upI (n+1)):=by
 rw[upI,upI,List.range_succ,List.map_append];exact List.perm_append_comm (l₁:=[(n:Int)])
theorem zdg{i:Nat}{a':KV}(h:Ja rows m)(hv:(m.map Prod.snd).Perm (upI i))(ha:∀n,¬OO turn a n)(ht:Lq rows turn m a (rows.getD i []) a'):¬∃σ:Nat→Int,(∀j,j≤i→σ j∈rows.getD j [])∧∀j k,j≤i→k≤i→σ j=σ k→j=k:=by
 rintro⟨σ,h1,h2⟩
 let E:=m.filter λe=>decide (OO turn a' e.1)
 have hE:∀n,OO turn a' n→n∈E.map Prod.fst:=λn hn=>by
  rcases ht.closed n hn with h3|⟨k,h3,_⟩
  ·exact absurd h3 (ha n)
  ·exact List.mem_map.2 ⟨(n,k),List.mem_filter.2 ⟨zkt h3,decide_eq_true hn⟩,rfl⟩
 have hX:∀x∈E.map Prod.snd,0≤x∧x<(i:Int):=λx hx=>by
  obtain⟨e,he,rfl⟩:=List.mem_map.1 hx;exact zeO.1 (hv.subset (List.mem_map.2 ⟨e,(List.mem_filter.1 he).1,rfl⟩))
 have nd:((i:Int)::E.map Prod.snd).Nodup:=by
  rw[List.nodup_cons];refine⟨λhx=>by have:=hX _ hx;omega,?_⟩
  exact((hv.nodup_iff.2 (zfL i))).sublist (List.filter_sublist.map Prod.snd)
 have nd2:(((i:Int)::E.map Prod.snd).map λx=>σ x.toNat).Nodup:=Py nd λx hx y hy e=>by
  have b:∀z,z∈((i:Int)::E.map Prod.snd)→0≤z∧z≤(i:Int):=λz hz=>by
   rcases List.mem_cons.1 hz with rfl|hz
   ·omega
   ·have:=hX z hz;omega
  have:=h2 x.toNat y.toNat (by have:=b x hx;omega) (by have:=b y hy;omega) e
  have:=b x hx;have:=b y hy;omega
 have sub:(((i:Int)::E.map Prod.snd).map λx=>σ x.toNat)⊆E.map Prod.fst:=λy hy=>by
  obtain⟨x,hx,rfl⟩:=List.mem_map.1 hy;refine hE _ ?_;rcases List.mem_cons.1 hx with rfl|hx
  ·exact ht.row _ (h1 i (Nat.le_refl _))
  ·have hb:=hX x hx
   obtain⟨e,he,rfl⟩:=List.mem_map.1 hx;obtain⟨he1,he2⟩:=List.mem_filter.1 he;have he2:=of_decide_eq_true he2;rcases ht.closed e.1 he2 with h3|⟨k,h3,h4⟩
   ·exact absurd h3 (ha _)
   ·have:=zjY h.nodup (show(e.1,e.2)∈m from he1)
    rw[h3]at this
    obtain rfl:k=e.2:=by cases this;rfl
    exact h4 _ (h1 _ (by omega))
 have:=nd2.length_le_of_subset sub;simp only[List.length_map,List.length_cons]at this
 omega
theorem zhR(h:Ja rows m)(hv:(m.map Prod.snd).Perm (upI rows.length)):∃σ:Nat→Int,(∀j,j<rows.length→σ j∈rows.getD j [])∧∀j k,j<rows.length→k<rows.length→σ j=σ k→j=k:=by
 have hx:∀j:Nat,j<rows.length→∃n,uH .int .int n m=some (j:Int):=λj hj=>by
  obtain⟨e,he,h1⟩:=List.mem_map.1 (hv.symm.subset (zeO.2 (show 0≤(j:Int)∧(j:Int)<rows.length by omega)))
  exact⟨e.1,zjY h.nodup (by rw[←h1];exact he)⟩
 refine⟨λj=>if hj:j<rows.length then Classical.choose (hx j hj)else 0,λj hj=> ?_,λj k hj hk e=> ?_⟩
 ·simp only[dif_pos hj]
  have:=h.ok _ _ (Classical.choose_spec (hx j hj));simpa using this.2.2
 ·simp only[dif_pos hj,dif_pos hk]at e
  have h1:=Classical.choose_spec (hx j hj);have h2:=Classical.choose_spec (hx k hk);rw[e,h2]at h1
  have:(k:Int)=j:=by injection h1
  omega
end
theorem Fy{α:Type}(p:α→Bool):∀(xs:List α) (i:Int),(PL p xs i= -1∧∀x∈xs,p x=false)∨∃(k:Nat) (h:k<xs.length),PL p xs i=i+k∧p xs[k]=true∧∀(j:Nat) (hj:j<k),p (xs[j]'(by omega))=false
 |[],i=> .inl ⟨rfl,λx hx=>(by cases hx)⟩
 |x::xs,i=>by
  rw[PL];cases e:p x
  ·rw[cond_false]
   rcases Fy p xs (i+1)with⟨h1,h2⟩|⟨k,h,h1,h2,h3⟩
   ·refine .inl ⟨h1,λy hy=> ?_⟩
    rcases List.mem_cons.1 hy with rfl|hy
    ·exact e
    ·exact h2 y hy
   ·refine .inr ⟨k+1,by simpa using h,by rw[h1];omega,by simpa using h2,λj hj=> ?_⟩
    cases j with
    |zero=>exact e
    |succ j=>simpa using h3 j (by omega)
  ·exact .inr ⟨0,Nat.zero_lt_succ _,by rw[cond_true];omega,e,λj hj=>absurd hj (by omega)⟩
def Wl:List xE→Int→Int→List xE
 |[],v,n=>[⟨v,n⟩]
 |t::r,v,n=>if t.v=v then⟨t.v,t.times+n⟩::r else t::Wl r v n
def jF(z:List (Int×Int)):List xE:=z.foldl (λo x=>Wl o x.1 x.2) []
def UB(f:Int→Int)(ts:List xE):Int:=(ts.map λt=>t.times*f t.v).sum
theorem Fz{f:Int→Int}:UB f []=0:=rfl
theorem mW{f:Int→Int}{t:xE}{ts:List xE}:UB f (t::ts)=t.times*f t.v+UB f ts:=by rw[UB,List.map_cons,List.sum_cons];rfl
theorem JZ{f:Int→Int}{ts us:List xE}:UB f (ts++us)=UB f ts+UB f us:=by rw[UB,List.map_append,List.sum_append];rfl
theorem CB{f:Int→Int}{v n:Int}:∀ {o:List xE},UB f (Wl o v n)=UB f o+n*f v
 |[]=>by rw[Wl,mW,Fz];simp
 |t::r=>by
  rw[Wl];split
  ·rename_i h
   rw[mW,mW,Int.add_mul,h];omega
  ·rw[mW,mW,CB];omega
theorem zbi{v n:Int}:∀ {o:List xE},(∀t∈o,t.v≠v)→Wl o v n=o++[⟨v,n⟩]
 |[],_=>rfl
 |t::r,h=>by
  rw[Wl,if_neg (h t (List.mem_cons_self ..)),zbi λt ht=>h t (List.mem_cons_of_mem _ ht)];rfl
theorem zbj{v n:Int}:∀ {o:List xE} {k:Nat} (hk:k<o.length),o[k].v=v→(∀(j:Nat) (hj:j<k),(o[j]'(by omega)).v≠v)→Wl o v n=o.set k ⟨o[k].v,o[k].times+n⟩
 |[],k,hk,_,_=>absurd hk (Nat.not_lt_zero _)
 |t::r,0,_,h,_=>by rw[Wl,if_pos (show t.v=v from h)];rfl
 |t::r,k+1,hk,h,hj=>by
  rw[Wl,if_neg (show¬t.v=v from hj 0 (Nat.zero_lt_succ _)),List.set_cons_succ,zbj (k:=k) (by simpa using hk) (by simpa using h) λj h2=>by simpa using hj (j+1) (by omega)]
  rfl
theorem FA{v n x:Int}:∀ {o:List xE},(x∈(Wl o v n).map xE.v)↔x∈o.map xE.v∨x=v
 |[]=>by rw[Wl];simp
 |t::r=>by
  rw[Wl];split
  ·rename_i h
   simp only[List.map_cons,List.mem_cons];exact⟨λe=> .inl e,λe=>e.elim id λe=> .inl (e.trans h.symm)⟩
  ·simp only[List.map_cons,List.mem_cons]
   rw[FA];exact⟨λe=>e.elim (λe=> .inl (.inl e)) λe=>e.elim (λe=> .inl (.inr e)) .inr,λe=>e.elim (λe=>e.elim .inl λe=> .inr (.inl e)) λe=> .inr (.inr e)⟩
theorem FB{v n:Int}:∀ {o:List xE},(o.map xE.v).Nodup→((Wl o v n).map xE.v).Nodup
 |[],_=>by rw[Wl];simp
 |t::r,h=>by
  rw[Wl];rw[List.map_cons,List.nodup_cons]at h
  split
  ·rw[List.map_cons,List.nodup_cons];exact h
  ·rename_i hn
   rw[List.map_cons,List.nodup_cons];refine⟨λhm=> ?_,FB h.2⟩
   rcases FA.1 hm with hm|hm
   ·exact h.1 hm
   ·exact hn hm
theorem zbk{v n:Int}:∀ {o:List xE},(Wl o v n).length≤o.length+1
 |[]=>by rw[Wl];simp
 |t::r=>by
  rw[Wl];split
  ·simp
  ·have:=zbk (v:=v) (n:=n) (o:=r);simp;omega
theorem FC{v n:Int}(hn: -1000≤n∧n≤1000){b:Nat}:∀ {o:List xE},(∀t∈o,-1000*(b:Int)≤t.times∧t.times≤1000*(b:Int))→∀t∈Wl o v n,-1000*((b+1:Nat):Int)≤t.times∧t.times≤1000*((b+1:Nat):Int)
 |[],_,t,ht=>by
  rw[Wl,List.mem_singleton]at ht
  subst ht;show -1000*((b+1:Nat):Int)≤n∧n≤1000*((b+1:Nat):Int)
  omega
 |u::r,h,t,ht=>by
  rw[Wl]at ht
  split at ht
  ·rcases List.mem_cons.1 ht with rfl|ht
   ·have:=h u (List.mem_cons_self ..)
    show -1000*((b+1:Nat):Int)≤u.times+n∧u.times+n≤1000*((b+1:Nat):Int)
    omega
   ·have:=h t (List.mem_cons_of_mem _ ht);omega
  ·rcases List.mem_cons.1 ht with rfl|ht
   ·have:=h _ (List.mem_cons_self ..);omega
   ·exact FC hn (λt ht=>h t (List.mem_cons_of_mem _ ht)) t ht
theorem Zd{z:List (Int×Int)}{x:Int×Int}:jF (z++[x])=Wl (jF z) x.1 x.2:=by rw[jF,List.foldl_append];rfl
theorem gU{α:Type}{C:List α→Prop}(h0:C [])(h1:∀l a,C l→C (l++[a]))(l:List α):C l:=by
 have:∀n (l:List α),l.length=n→C l:=λn=>by
  induction n with
  |zero=>exact λl hl=>by rw[List.length_eq_zero_iff.1 hl];exact h0
  |succ n ih=>
   intro l hl;have hn:l≠[]:=λe=>by rw[e]at hl;cases hl
   rw[←List.dropLast_concat_getLast hn];exact h1 _ _ (ih _ (by rw[List.length_dropLast];omega))
 exact this _ l rfl
theorem Sp(z:List (Int×Int)):((jF z).map xE.v).Nodup:=
 gU (C:=λz=>((jF z).map xE.v).Nodup) List.nodup_nil (λl a h=>by rw[Zd];exact FB h) z
theorem FE{x:Int}(z:List (Int×Int)):(x∈(jF z).map xE.v)↔x∈z.map Prod.fst:=
 gU (C:=λz=>(x∈(jF z).map xE.v)↔x∈z.map Prod.fst) (by simp[jF]) (λl a h=>by rw[Zd,FA,h,List.map_append,List.mem_append];simp) z
theorem FF(z:List (Int×Int)):(jF z).length≤z.length:=
 gU (C:=λz=>(jF z).length≤z.length) (Nat.le_refl _) (λl a h=>by rw[Zd,List.length_append];exact Nat.le_trans zbk (Nat.succ_le_succ h)) z
theorem Lr(z:List (Int×Int)):(∀x∈z,-1000≤x.2∧x.2≤1000)→∀t∈jF z,-1000*(z.length:Int)≤t.times∧t.times≤1000*(z.length:Int):=
 gU (C:=λz=>(∀x∈z,-1000≤x.2∧x.2≤1000)→∀t∈jF z,-1000*(z.length:Int)≤t.times∧t.times≤1000*(z.length:Int)) (λ_ t ht=>(by cases ht)) (λl a h hz t ht=>by
  rw[Zd]at ht
  rw[List.length_append];exact FC (hz a (by simp)) (h λx hx=>hz x (by simp[hx])) t ht) z
theorem zdh{f:Int→Int}(z:List (Int×Int)):UB f (jF z)=(z.map λx=>x.2*f x.1).sum:=
 gU (C:=λz=>UB f (jF z)=(z.map λx=>x.2*f x.1).sum) rfl (λl a h=>by rw[Zd,CB,h,List.map_append,List.sum_append];simp) z
def vZ(c:zE):List xE:=jF (c.vars.zip c.consts)
theorem CC:∀(ks vs:List Int) (f:Int→Int),PZ (ks.zip (vs.map f))=((vs.zip ks).map λx=>x.2*f x.1).sum
 |[],vs,f=>by cases vs<;>rfl
 |k::ks,[],f=>rfl
 |k::ks,v::vs,f=>by
  rw[List.map_cons,List.zip_cons_cons,List.zip_cons_cons,PZ,List.map_cons,List.sum_cons,List.map_cons,List.sum_cons,←CC ks vs f];rfl
theorem zdi{c:zE}{vs:List Int}:UB (λv=>vs.getD v.toNat 0) (vZ c)=PZ (c.consts.zip (sD c vs)):=by
 rw[vZ,zdh,sD,CC]
def J0(ts:List xE)(s:List (List Int))(x:Int):Prop:=∃vs,Vx vs s∧x=UB (λv=>vs.getD v.toNat 0) ts
theorem zfM{s:List (List Int)}(hf:zT s=false){x:Int}:J0 [] s x↔x=0:=by
 constructor
 ·rintro⟨vs,_,h⟩;exact h
 ·intro h
  obtain⟨vs,hv⟩:=QL hf;exact⟨vs,hv,h⟩
theorem FG{f g:Int→Int}:∀ {ts:List xE},(∀t∈ts,f t.v=g t.v)→UB f ts=UB g ts
 |[],_=>rfl
 |t::ts,h=>by rw[mW,mW,h t (List.mem_cons_self ..),FG λt ht=>h t (List.mem_cons_of_mem _ ht)]
theorem zbl{ts:List xE}{vs:List Int}{v n:Int}(hv:0≤v)(hl:v.toNat<vs.length)(hts:∀t∈ts,0≤t.v)(hn:v∉ts.map xE.v):UB (λu=>(vs.set v.toNat n).getD u.toNat 0) ts=UB (λu=>vs.getD u.toNat 0) ts:=
 FG λt ht=>by
  have h1:=hts t ht;rw[rO hl,if_neg];intro e;exact hn (List.mem_map.2 ⟨t,ht,by omega⟩)
theorem zdj{ts:List xE}{t:xE}{s:List (List Int)}(ht:0≤t.v)(hl:t.v.toNat<s.length)(hts:∀t∈ts,0≤t.v)(hn:t.v∉ts.map xE.v){x:Int}:J0 (ts++[t]) s x↔∃a,J0 ts s a∧∃n∈s.getD t.v.toNat [],x=a+t.times*n:=by
 constructor
 ·rintro⟨vs,hv,rfl⟩
  refine⟨_,⟨vs,hv,rfl⟩,vs.getD t.v.toNat 0,hv.2 _ hl,?_⟩;rw[JZ,mW,Fz,Int.add_zero]
 ·rintro⟨a,⟨vs,hv,rfl⟩,n,hm,rfl⟩
  have hl2:t.v.toNat<vs.length:=by rw[hv.1];exact hl
  refine⟨vs.set t.v.toNat n,hv.set hm hl,?_⟩;rw[JZ,mW,Fz,Int.add_zero,zbl ht hl2 hts hn,rO hl2,if_pos rfl]
def zbm(c:zE)(n:Int):Bool:=if c.kind=1 then decide (n≤c.n)else if c.kind=2 then decide (n=c.n)else !decide (n=c.n)
theorem CD{c:zE}(h:1≤c.kind∧c.kind≤3){vs:List Int}:vH c vs=zbm c (UB (λv=>vs.getD v.toNat 0) (vZ c)):=by
 rw[zdi,vH,zbm];have:c.kind=1∨c.kind=2∨c.kind=3:=by omega
 rcases this with e|e|e<;>simp[e]
theorem NU{f:Int→Int}:∀ {ts:List xE} {i:Nat} (hi:i<ts.length),UB f ts=UB f (ts.eraseIdx i)+ts[i].times*f ts[i].v
 |[],i,hi=>absurd hi (Nat.not_lt_zero _)
 |t::ts,0,_=>by rw[List.eraseIdx_cons_zero,mW,Int.add_comm];rfl
 |t::ts,i+1,hi=>by
  rw[List.eraseIdx_cons_succ,mW,mW,NU (i:=i) (by simpa using hi)]
  simp only[List.getElem_cons_succ];omega
theorem J1{α:Type}:∀ {l:List α} {i:Nat} (hi:i<l.length),l.Nodup→l[i]∉l.eraseIdx i
 |[],i,hi,_=>absurd hi (Nat.not_lt_zero _)
 |a::l,0,_,h=>by rw[List.eraseIdx_cons_zero];exact(List.nodup_cons.1 h).1
 |a::l,i+1,hi,h=>by
  rw[List.nodup_cons]at h
  rw[List.eraseIdx_cons_succ,List.mem_cons];simp only[List.getElem_cons_succ];rintro(e|e)
  ·exact h.1 (e▸List.getElem_mem (by simpa using hi))
  ·exact J1 (by simpa using hi) h.2 e
theorem CE{α β:Type}{f:α→β}:∀ {l:List α} {i:Nat},(l.map f).eraseIdx i=(l.eraseIdx i).map f
 |[],_=>rfl
 |a::l,0=>rfl
 |a::l,i+1=>by rw[List.map_cons,List.eraseIdx_cons_succ,List.eraseIdx_cons_succ,List.map_cons,CE]
theorem NV{c:zE}{nv:Nat}(hc:tP c nv):∀t∈vZ c,0≤t.v∧t.v<nv:=λt ht=>by
 have:=(FE (x:=t.v) (c.vars.zip c.consts)).1 (List.mem_map.2 ⟨t,ht,rfl⟩);obtain⟨x,hx,e⟩:=List.mem_map.1 this;exact hc.vars t.v (by rw[←e];exact(List.of_mem_zip hx).1)
theorem zjs{c:zE}{s:List (List Int)}(hc:tP c s.length)(hk:c.kind≤3){i:Nat}(hi:i<(vZ c).length){n:Int}(hn:n∈s.getD (vZ c)[i].v.toNat []):
  May (vH c) s (vZ c)[i].v.toNat n↔∃a,J0 ((vZ c).eraseIdx i) s a∧zbm c (a+(vZ c)[i].times*n)=true:=by
 have hk1:=hc.kind.1;have hv:=NV hc;have h1:=hv _ (List.getElem_mem hi);have hl:(vZ c)[i].v.toNat<s.length:=by omega
 have hne:(vZ c)[i].v∉((vZ c).eraseIdx i).map xE.v:=by
  have:=J1 (l:=(vZ c).map xE.v) (i:=i) (by rw[List.length_map];exact hi) (Sp _)
  rw[List.getElem_map]at this
  rwa[CE]at this
 constructor
 ·rintro⟨vs,h2,h3,h4⟩
  refine⟨_,⟨vs,h2,rfl⟩,?_⟩;rw[CD ⟨hk1,hk⟩,NU hi,h3]at h4
  exact h4
 ·rintro⟨a,⟨vs,h2,rfl⟩,h4⟩
  have hl2:(vZ c)[i].v.toNat<vs.length:=by rw[h2.1];exact hl
  refine⟨vs.set (vZ c)[i].v.toNat n,h2.set hn hl,by rw[rO hl2,if_pos rfl],?_⟩
  rw[CD ⟨hk1,hk⟩,NU hi,zbl h1.1 hl2 (λt ht=>(hv t (List.mem_of_mem_eraseIdx ht)).1) hne,rO hl2,if_pos rfl]
  exact h4
theorem zdk{α:Type}{l:List α}{i k:Nat}(hk:k<l.length):(l.take (k+1)).eraseIdx i=if k=i then(l.take k).eraseIdx i else(l.take k).eraseIdx i++[l[k]]:=by
 have hl:(l.take k).length=k:=by rw[List.length_take];omega
 rw[←List.take_append_getElem hk];split
 ·rename_i e
  subst e;rw[List.eraseIdx_append_of_length_le (by omega),hl,Nat.sub_self,List.eraseIdx_cons_zero,List.append_nil,List.eraseIdx_of_length_le (by omega)]
 ·rename_i e
  by_cases h:k<i
  ·rw[List.eraseIdx_of_length_le (l:=l.take k) (by omega),List.eraseIdx_of_length_le (by rw[List.length_append,hl];simp;omega)]
  ·rw[List.eraseIdx_append_of_lt_length (by omega)]
def iS(s:List (List Int)):List Int→List Int→Nat→List Int×Nat
 |[],vs,n=>(vs,n)
 |v::r,vs,n=>iS s r (vs.set v.toNat ((s.getD v.toNat []).getD (n%(s.getD v.toNat []).length) 0)) (n/(s.getD v.toNat []).length)
def CF(s:List (List Int)):List Int→Nat
 |[]=>1
 |v::r=>(s.getD v.toNat []).length*CF s r
theorem J2{s:List (List Int)}:∀(r vs:List Int) (n:Nat),(iS s r vs n).1.length=vs.length
 |[],vs,n=>rfl
 |v::r,vs,n=>by rw[iS,J2 r,List.length_set]
theorem Y6{s:List (List Int)}{u:Nat}:∀(r vs:List Int) (n:Nat),(∀v∈r,v.toNat≠u)→(iS s r vs n).1.getD u 0=vs.getD u 0
 |[],vs,n,_=>rfl
 |v::r,vs,n,h=>by
  rw[iS,Y6 r _ _ λv hv=>h v (List.mem_cons_of_mem _ hv),List.getD_eq_getElem?_getD,List.getElem?_set_ne (h v (List.mem_cons_self ..)),←List.getD_eq_getElem?_getD]
theorem FI{s:List (List Int)}:∀(r vs:List Int) (n:Nat),r.Nodup→(∀v∈r,0≤v∧v.toNat<vs.length∧s.getD v.toNat []≠[])→∀v∈r,(iS s r vs n).1.getD v.toNat 0∈s.getD v.toNat []
 |[],vs,n,_,_,v,hv=>by cases hv
 |u::r,vs,n,hd,h,v,hv=>by
  rw[List.nodup_cons]at hd
  have hu:=h u (List.mem_cons_self ..);rw[iS];rcases List.mem_cons.1 hv with rfl|hv
  ·rw[Y6 r _ _ λw hw=> ?_,rO hu.2.1,if_pos rfl]
   ·have hp:0<(s.getD v.toNat []).length:=List.length_pos_iff.2 hu.2.2
    have hm:=Nat.mod_lt n hp;rw[yE _ hm];exact List.getElem_mem hm
   ·have h1:=(h w (List.mem_cons_of_mem _ hw)).1
    intro e;exact hd.1 (by rw[show v=w by omega];exact hw)
  ·exact FI r _ _ hd.2 (λw hw=>by rw[List.length_set];exact h w (List.mem_cons_of_mem _ hw)) v hv
theorem J3{s:List (List Int)}{us:List Int}:∀(r:List Int),r.Nodup→∀(vs:List Int),(∀v∈r,0≤v∧v.toNat<vs.length∧us.getD v.toNat 0∈s.getD v.toNat [])→∃n,n<CF s r∧∀v∈r,(iS s r vs n).1.getD v.toNat 0=us.getD v.toNat 0
 |[],_,vs,_=>⟨0,Nat.one_pos,λv hv=>(by cases hv)⟩
 |u::r,hd,vs,h=>by
  rw[List.nodup_cons]at hd
  have hu:=h u (List.mem_cons_self ..);obtain⟨d,hd1,hd2⟩:=List.getElem_of_mem hu.2.2;obtain⟨n,hn1,hn2⟩:=J3 r hd.2 (vs.set u.toNat (us.getD u.toNat 0)) λv hv=>by rw[List.length_set];exact h v (List.mem_cons_of_mem _ hv)
  have hp:0<(s.getD u.toNat []).length:=by omega
  have e1:(d+(s.getD u.toNat []).length*n)%(s.getD u.toNat []).length=d:=by rw[Nat.add_mul_mod_self_left,Nat.mod_eq_of_lt hd1]
  have e2:(d+(s.getD u.toNat []).length*n)/(s.getD u.toNat []).length=n:=by rw[Nat.add_mul_div_left _ _ hp,Nat.div_eq_of_lt hd1,Nat.zero_add]
  refine⟨d+(s.getD u.toNat []).length*n,?_,λv hv=> ?_⟩
  ·rw[CF]
   have:(s.getD u.toNat []).length*(n+1)≤(s.getD u.toNat []).length*CF s r:=Nat.mul_le_mul_left _ hn1;rw[Nat.mul_add,Nat.mul_one]at this
   omega
  ·rw[iS,e1,e2,yE _ hd1,hd2]
   rcases List.mem_cons.1 hv with rfl|hv
   ·rw[Y6 r _ _ λw hw=> ?_,rO hu.2.1,if_pos rfl]
    have h1:=(h w (List.mem_cons_of_mem _ hw)).1;intro e;exact hd.1 (by rw[show v=w by omega];exact hw)
   ·exact hn2 v hv
def Ls(c:zE)(s:List (List Int))(all r vs:List Int)(x:Int×Int):Prop:=
 ∃us:List Int,us.length=vs.length∧(∀u:Nat,(∀v∈r,v.toNat≠u)→us.getD u 0=vs.getD u 0)∧(∀v∈r,us.getD v.toNat 0∈s.getD v.toNat [])∧vH c us=true∧∃v∈all,x=(v,us.getD v.toNat 0)
section
variable {c:zE}{s:List (List Int)}{all r vs ws:List Int}{x:Int×Int}
theorem zhS:Ls c s all [] vs x↔vH c vs=true∧∃v∈all,x=(v,vs.getD v.toNat 0):=by
 constructor
 ·rintro⟨us,h1,h2,_,h3,h4⟩
  obtain rfl:us=vs:=QJ (d:=0) h1 λu=>h2 u λv hv=>by cases hv
  exact⟨h3,h4⟩
 ·rintro⟨h3,h4⟩
  exact⟨vs,rfl,λ_ _=>rfl,λv hv=>(by cases hv),h3,h4⟩
theorem zdl(hl:ws.length=vs.length)(h:∀u:Nat,(∀v∈r,v.toNat≠u)→ws.getD u 0=vs.getD u 0):Ls c s all r ws x↔Ls c s all r vs x:=by
 constructor
 ·rintro⟨us,h1,h2,h3⟩;exact⟨us,h1.trans hl,λu hu=>(h2 u hu).trans (h u hu),h3⟩
 ·rintro⟨us,h1,h2,h3⟩;exact⟨us,h1.trans hl.symm,λu hu=>(h2 u hu).trans (h u hu).symm,h3⟩
theorem zfN{v:Int}(hv:0≤v)(hl:v.toNat<vs.length)(hr:∀u∈r,0≤u)(hn:v∉r):Ls c s all (v::r) vs x↔∃n∈s.getD v.toNat [],Ls c s all r (vs.set v.toNat n) x:=by
 have hne:∀u∈r,u.toNat≠v.toNat:=λu hu e=>hn (by have:=hr u hu;rw[show v=u by omega];exact hu)
 constructor
 ·rintro⟨us,h1,h2,h3,h4⟩
  refine⟨_,h3 v (List.mem_cons_self ..),us,by rw[List.length_set];exact h1,λu hu=> ?_,λu hu=>h3 u (List.mem_cons_of_mem _ hu),h4⟩
  rw[rO hl];split
  ·rename_i e;rw[e]
  ·rename_i e
   refine h2 u λw hw=> ?_
   rcases List.mem_cons.1 hw with rfl|hw
   ·exact λe2=>e e2.symm
   ·exact hu w hw
 ·rintro⟨n,hn2,us,h1,h2,h3,h4⟩
  have e:us.getD v.toNat 0=n:=by rw[h2 v.toNat hne,rO hl,if_pos rfl]
  refine⟨us,by rw[List.length_set]at h1;exact h1,λu hu=> ?_,λu hu=> ?_,h4⟩
  ·rw[h2 u λw hw=>hu w (List.mem_cons_of_mem _ hw),rO hl,if_neg λe=>hu v (List.mem_cons_self ..) e.symm]
  ·rcases List.mem_cons.1 hu with rfl|hu
   ·rw[e];exact hn2
   ·exact h3 u hu
end
theorem Sq{n u:Nat}{f:Nat→Int}(h:u<n):((List.range n).map f).getD u 0=f u:=by
 rw[yE _ (show u<((List.range n).map f).length by simpa using h)];simp
theorem lY{c:zE}{nv:Nat}:∀v∈yM c nv,0≤v∧v<nv:=λv hv=>(nU.1 hv).1
theorem zbn{c:zE}{s:List (List Int)}(hc:tP c s.length)(hf:zT s=false){ws:List Int}(hw:ws.length=s.length){v n:Int}:
  Ls c s (yM c s.length) (yM c s.length) ws (v,n)↔v∈yM c s.length∧May (vH c) s v.toNat n:=by
 constructor
 ·rintro⟨us,h1,h2,h3,h4,u,hu,e⟩
  obtain⟨rfl,rfl⟩:v=u∧n=us.getD u.toNat 0:=by cases e;exact⟨rfl,rfl⟩
  refine⟨hu,?_⟩;obtain⟨ps,hp⟩:=QL hf;have hg:∀u:Nat,u<s.length→((List.range s.length).map λu:Nat=>if(u:Int)∈yM c s.length then us.getD u 0 else ps.getD u 0).getD u 0=if(u:Int)∈yM c s.length then us.getD u 0 else ps.getD u 0:=λu hu=>Sq hu
  have hv:=lY v hu;refine⟨(List.range s.length).map λu:Nat=>if(u:Int)∈yM c s.length then us.getD u 0 else ps.getD u 0,⟨by simp,λu hu=> ?_⟩,?_,?_⟩
  ·rw[hg u hu]
   split
   ·rename_i e;simpa using h3 u e
   ·exact hp.2 u hu
  ·rw[hg _ (by omega),if_pos (by rw[Int.toNat_of_nonneg hv.1];exact hu)]
  ·rw[←h4]
   exact jQ hc λw h5 h6=>by rw[hg w h5,if_pos (nU.2 ⟨by omega,h6⟩)]
 ·rintro⟨hv,vs,h1,h2,h3⟩
  have hg:∀u:Nat,u<s.length→((List.range s.length).map λu:Nat=>if(u:Int)∈yM c s.length then vs.getD u 0 else ws.getD u 0).getD u 0=if(u:Int)∈yM c s.length then vs.getD u 0 else ws.getD u 0:=λu hu=>Sq hu
  have hv2:=lY v hv;refine⟨(List.range s.length).map λu:Nat=>if(u:Int)∈yM c s.length then vs.getD u 0 else ws.getD u 0,by simp[hw],λu hu=> ?_,λu hu=> ?_,?_,v,hv,?_⟩
  ·by_cases hl:u<s.length
   ·rw[hg u hl,if_neg λe=>hu _ e (by omega)]
   ·rw[qJ (by simp;omega),qJ (by omega)]
  ·have:=lY u hu
   rw[hg _ (by omega),if_pos (by rw[Int.toNat_of_nonneg this.1];exact hu)]
   exact h1.2 _ (by omega)
  ·rw[←h3]
   exact jQ hc λw h5 h6=>by rw[hg w h5,if_pos (nU.2 ⟨by omega,h6⟩)]
  ·rw[hg _ (by omega),if_pos (by rw[Int.toNat_of_nonneg hv2.1];exact hv),h2]
theorem Jb(lo:Int):∀n,(Ck lo n).Nodup
 |0=>List.nodup_nil
 |n+1=>by
  rw[Ck,List.nodup_append];refine⟨Jb lo n,by simp,λa ha b hb=> ?_⟩
  have h1:=So.1 ha;rw[List.mem_singleton]at hb
  omega
theorem V8{c:zE}{nv:Nat}:(yM c nv).Nodup:=(Jb 0 nv).sublist List.filter_sublist
theorem zbo{c:zE}{s:List (List Int)}(hc:tP c s.length)(hf:zT s=false){ws:List Int}(hw:ws.length=s.length){x:Int×Int}:
  Ls c s (yM c s.length) (yM c s.length) ws x↔∃n,n<CF s (yM c s.length)∧vH c (iS s (yM c s.length) ws n).1=true∧∃v∈yM c s.length,x=(v,(iS s (yM c s.length) ws n).1.getD v.toNat 0):=by
 have hne:∀v∈yM c s.length,0≤v∧v.toNat<ws.length∧s.getD v.toNat []≠[]:=λv hv=>by
  have h:=lY v hv;exact⟨h.1,by omega,sT.1 hf _ (by omega)⟩
 constructor
 ·rintro⟨us,h1,h2,h3,h4,v,hv,rfl⟩
  obtain⟨n,hn1,hn2⟩:=J3 (s:=s) (us:=us) _ V8 ws λv hv=>⟨(hne v hv).1,(hne v hv).2.1,h3 v hv⟩
  refine⟨n,hn1,?_,v,hv,by rw[hn2 v hv]⟩
  rw[←h4];refine jQ hc λu h5 h6=> ?_
  have:=hn2 (u:Int) (nU.2 ⟨by omega,h6⟩)
  simpa using this
 ·rintro⟨n,hn1,hn2,v,hv,rfl⟩
  exact⟨_,J2 _ _ _,λu hu=>Y6 _ _ _ hu,λv hv=>FI _ _ _ V8 hne v hv,hn2,v,hv,rfl⟩
def Lt:wA:= {own:=[5,7],live:=[],n:=44}
theorem Dy(f:zE)(a:List (List Int))(R:xO):FD Lt Tryz.f190 [dC f,dS a] R=
 (xK yX [dS a] .bool λs=>
 zP s
 (xK jO [dS a] (.list (.list .int)) λt=>
 R (dS t))
 (xK iA [dC f] (.list .int) λg=>
 zP (decide ((g.length:Int)=0))
 (xK eO [dC f,.sl .int ([]:List Int)] .bool λu=>
 zP u
 (xK jO [dS a] (.list (.list .int)) λv=>
 R (dS v))
 (xK uD [dS a] (.list (.list .int)) λw=>
 R (dS w)))
 (zP (decide (f.kind≤3))
 (∃h:List xE,∃i:List (Int×(List Int)),∃b:zE,yH bQ [dC f,dS a] [] (.clo qS none [.iptr [.sl .term h] 0,.iptr [.mp .int (.list .int) i] 0,.iptr (nV b []) 0]) []∧
 xK tY [dS a,.clo qR none [.iptr [.sl .int g] 0,.iptr [.clo qS none [.iptr [.sl .term h] 0,.iptr [.mp .int (.list .int) i] 0,.iptr (nV b []) 0]] 0]] (.list (.list .int)) λx=>
 R (dS x))
 (zP (decide (f.kind=4))
 (xK ZB [.sl .int f.vars] .bool λy=>
 zP (!y)
 (∃j:List (List Int),∃c:zE,yH bR [dC f,dS a] [] (.clo qT none [.iptr [dS j] 0,.iptr (nV c []) 0]) []∧
 xK tY [dS a,.clo qR none [.iptr [.sl .int g] 0,.iptr [.clo qT none [.iptr [dS j] 0,.iptr (nV c []) 0]] 0]] (.list (.list .int)) λz=>
 R (dS z))
 (∃d:zE,∃k:List (List Int),∃l:List Int,∃m:List Int,∃n:List ((Int×Int)×Int),yH gS [dC f,dS a] [] (.clo xC none [.iptr [.iptr (nV d [dS k,.sl .int l,.sl .int m,.mp (.pr .int .int) .int n]) 0] 0]) []∧
 xK tY [dS a,.clo qR none [.iptr [.sl .int g] 0,.iptr [.clo xC none [.iptr [.iptr (nV d [dS k,.sl .int l,.sl .int m,.mp (.pr .int .int) .int n]) 0] 0]] 0]] (.list (.list .int)) λaa=>
 R (dS aa)))
 (∃e:zE,∃o:List (List Int),∃p:List Int,∃q:List Int,∃r:List ((Int×Int)×Int),yH gS [dC f,dS a] [] (.clo xC none [.iptr [.iptr (nV e [dS o,.sl .int p,.sl .int q,.mp (.pr .int .int) .int r]) 0] 0]) []∧
 xK tY [dS a,.clo qR none [.iptr [.sl .int g] 0,.iptr [.clo xC none [.iptr [.iptr (nV e [dS o,.sl .int p,.sl .int q,.mp (.pr .int .int) .int r]) 0] 0]] 0]] (.list (.list .int)) λab=>
 R (dS ab)))))):=by kernel_rfl
theorem FJ(a:zE)(b:List (List Int)):wC Lt Tryz.f190 lH [dC a,dS b]:=wJ Tryz.func190 (by kernel_rfl) Tryz.ntmps190 rfl
def OP:wA:= {own:=[5,12,13,15],live:=[],n:=19}
theorem FK(a:zE)(b:List (List Int))(R:pR):FH OP Tryz.f242 [dC a,dS b] [] [] false R=
 (xK iA [dC a] (.list .int) λc=>
 ((b.length:Int)=(b.length:Int)∧
 0≤(b.length:Int)∧
 wN .int ((b.length:Int).toNat)=true∧
 (((∃d:List Int,∃e:List ((Int×Int)×Int),yH xA [.ptr 1000 0,dI 0] [(1000,.cells (nV a [dS b,.sl .int c,.own 2000,.own 1001])),(2000,.row 3 .int (List.replicate ((b.length:Int).toNat) (Ty.dflt .int))),(1001,.mp (.pr .int .int) .int ([]:List ((Int×Int)×Int)))] (.tup []) [(1000,.cells (nV a [dS b,.sl .int c,.own 2000,.own 1001])),(2000,.row 3 .int d),(1001,.mp (.pr .int .int) .int e)]∧
 R (.clo xC none [.iptr [.iptr (nV a [dS b,.sl .int c,.sl .int d,.mp (.pr .int .int) .int e]) 0] 0]) [])∧
 ∃f:List Int,∃g:List ((Int×Int)×Int),yH xA [.ptr 1000 0,dI 0] [(1000,.cells (nV a [dS b,.sl .int c,.own 2000,.own 1001])),(2000,.row 3 .int (List.replicate ((b.length:Int).toNat) (Ty.dflt .int))),(1001,.mp (.pr .int .int) .int ([]:List ((Int×Int)×Int)))] (.tup []) [(1000,.cells (nV a [dS b,.sl .int c,.own 2000,.own 1001])),(2000,.row 3 .int f),(1001,.mp (.pr .int .int) .int g)]∧
 R (.clo xC none [.iptr [.iptr (nV a [dS b,.sl .int c,.sl .int f,.mp (.pr .int .int) .int g]) 0] 0]) [])∧
 ∃h:List Int,∃i:List ((Int×Int)×Int),yH xA [.ptr 1000 0,dI 0] [(1000,.cells (nV a [dS b,.sl .int c,.own 2000,.own 1001])),(2000,.row 3 .int (List.replicate ((b.length:Int).toNat) (Ty.dflt .int))),(1001,.mp (.pr .int .int) .int ([]:List ((Int×Int)×Int)))] (.tup []) [(1000,.cells (nV a [dS b,.sl .int c,.own 2000,.own 1001])),(2000,.row 3 .int h),(1001,.mp (.pr .int .int) .int i)]∧
 R (.clo xC none [.iptr [.iptr (nV a [dS b,.sl .int c,.sl .int h,.mp (.pr .int .int) .int i]) 0] 0]) [])∧
 ∃j:List Int,∃k:List ((Int×Int)×Int),yH xA [.ptr 1000 0,dI 0] [(1000,.cells (nV a [dS b,.sl .int c,.own 2000,.own 1001])),(2000,.row 3 .int (List.replicate ((b.length:Int).toNat) (Ty.dflt .int))),(1001,.mp (.pr .int .int) .int ([]:List ((Int×Int)×Int)))] (.tup []) [(1000,.cells (nV a [dS b,.sl .int c,.own 2000,.own 1001])),(2000,.row 3 .int j),(1001,.mp (.pr .int .int) .int k)]∧
 R (.clo xC none [.iptr [.iptr (nV a [dS b,.sl .int c,.sl .int j,.mp (.pr .int .int) .int k]) 0] 0]) [])∧
 (((b.length:Int)=(b.length:Int)∧
 0≤(b.length:Int)∧
 wN .int ((b.length:Int).toNat)=true∧
 ((∃l:List Int,∃m:List ((Int×Int)×Int),yH xA [.ptr 1000 0,dI 0] [(1000,.cells (nV a [dS b,.sl .int c,.own 2000,.own 1001])),(2000,.row 3 .int (List.replicate ((b.length:Int).toNat) (Ty.dflt .int))),(1001,.mp (.pr .int .int) .int ([]:List ((Int×Int)×Int)))] (.tup []) [(1000,.cells (nV a [dS b,.sl .int c,.own 2000,.own 1001])),(2000,.row 3 .int l),(1001,.mp (.pr .int .int) .int m)]∧
 R (.clo xC none [.iptr [.iptr (nV a [dS b,.sl .int c,.sl .int l,.mp (.pr .int .int) .int m]) 0] 0]) [])∧
 ∃n:List Int,∃o:List ((Int×Int)×Int),yH xA [.ptr 1000 0,dI 0] [(1000,.cells (nV a [dS b,.sl .int c,.own 2000,.own 1001])),(2000,.row 3 .int (List.replicate ((b.length:Int).toNat) (Ty.dflt .int))),(1001,.mp (.pr .int .int) .int ([]:List ((Int×Int)×Int)))] (.tup []) [(1000,.cells (nV a [dS b,.sl .int c,.own 2000,.own 1001])),(2000,.row 3 .int n),(1001,.mp (.pr .int .int) .int o)]∧
 R (.clo xC none [.iptr [.iptr (nV a [dS b,.sl .int c,.sl .int n,.mp (.pr .int .int) .int o]) 0] 0]) [])∧
 ∃p:List Int,∃q:List ((Int×Int)×Int),yH xA [.ptr 1000 0,dI 0] [(1000,.cells (nV a [dS b,.sl .int c,.own 2000,.own 1001])),(2000,.row 3 .int (List.replicate ((b.length:Int).toNat) (Ty.dflt .int))),(1001,.mp (.pr .int .int) .int ([]:List ((Int×Int)×Int)))] (.tup []) [(1000,.cells (nV a [dS b,.sl .int c,.own 2000,.own 1001])),(2000,.row 3 .int p),(1001,.mp (.pr .int .int) .int q)]∧
 R (.clo xC none [.iptr [.iptr (nV a [dS b,.sl .int c,.sl .int p,.mp (.pr .int .int) .int q]) 0] 0]) [])∧
 (b.length:Int)=(b.length:Int)∧
 0≤(b.length:Int)∧
 wN .int ((b.length:Int).toNat)=true∧
 ∃r:List Int,∃s:List ((Int×Int)×Int),yH xA [.ptr 1000 0,dI 0] [(1000,.cells (nV a [dS b,.sl .int c,.own 2000,.own 1001])),(2000,.row 3 .int (List.replicate ((b.length:Int).toNat) (Ty.dflt .int))),(1001,.mp (.pr .int .int) .int ([]:List ((Int×Int)×Int)))] (.tup []) [(1000,.cells (nV a [dS b,.sl .int c,.own 2000,.own 1001])),(2000,.row 3 .int r),(1001,.mp (.pr .int .int) .int s)]∧
 R (.clo xC none [.iptr [.iptr (nV a [dS b,.sl .int c,.sl .int r,.mp (.pr .int .int) .int s]) 0] 0]) [])∧
 ((b.length:Int)=(b.length:Int)∧
 0≤(b.length:Int)∧
 wN .int ((b.length:Int).toNat)=true∧
 ∃t:List Int,∃u:List ((Int×Int)×Int),yH xA [.ptr 1000 0,dI 0] [(1000,.cells (nV a [dS b,.sl .int c,.own 2000,.own 1001])),(2000,.row 3 .int (List.replicate ((b.length:Int).toNat) (Ty.dflt .int))),(1001,.mp (.pr .int .int) .int ([]:List ((Int×Int)×Int)))] (.tup []) [(1000,.cells (nV a [dS b,.sl .int c,.own 2000,.own 1001])),(2000,.row 3 .int t),(1001,.mp (.pr .int .int) .int u)]∧
 R (.clo xC none [.iptr [.iptr (nV a [dS b,.sl .int c,.sl .int t,.mp (.pr .int .int) .int u]) 0] 0]) [])∧
 (b.length:Int)=(b.length:Int)∧
 0≤(b.length:Int)∧
 wN .int ((b.length:Int).toNat)=true∧
 ∃v:List Int,∃w:List ((Int×Int)×Int),yH xA [.ptr 1000 0,dI 0] [(1000,.cells (nV a [dS b,.sl .int c,.own 2000,.own 1001])),(2000,.row 3 .int (List.replicate ((b.length:Int).toNat) (Ty.dflt .int))),(1001,.mp (.pr .int .int) .int ([]:List ((Int×Int)×Int)))] (.tup []) [(1000,.cells (nV a [dS b,.sl .int c,.own 2000,.own 1001])),(2000,.row 3 .int v),(1001,.mp (.pr .int .int) .int w)]∧
 R (.clo xC none [.iptr [.iptr (nV a [dS b,.sl .int c,.sl .int v,.mp (.pr .int .int) .int w]) 0] 0]) []):=by kernel_rfl
theorem I2(a:zE)(b:List (List Int)):oH OP Tryz.f242 gS [dC a,dS b] [] [] false:=oT Tryz.func242 (by kernel_rfl) Tryz.ntmps242 rfl
def rY:wA:= {own:=[5,6,8,11,14],live:=[(0,([1,2,5,6,15,16,17],[5,6,14])),(2,([1,2,5,6,7,8,9,15,16,17,23,24,25],[5,6,8,14]))],n:=44}
def jG(a:zE)(e:List (List Int))(R:pR)(b:List xE)(f:Nat)(c:Int)(d:List xE)(g:List (Int×(List Int)))(h:Nat)(i:List Int)(j:Int)(k:List xE)(l m:Int):Prop:=LP rY Tryz.f243 [1,1,1,0,1,0,0,1,1,0,0,1,1,0,1,0,0] 2 h ⟨[(1,dS e),(2,.iptr (nV a []) 0),(5,.ptr 5 0),(6,.ptr 6 0),(7,dI c),(8,.ptr 8 0),(9,.sl .int i),(15,.sl .term b),(16,dI (b.length:Int)),(17,dI c),(23,.sl .term d),(24,dI (d.length:Int)),(25,dI j)],[(5,.cells [.sl .term k]),(6,.cells [.own 14]),(8,.cells [dI l,dI m]),(14,.mp .int (.list .int) g)]⟩ (zQ 2 (sK rY Tryz.f243 [1,1,1,0,1,0,0,1,1,0,0,1,1,1] 1 (zQ 1 (sK rY Tryz.f243 [1,1,1,0,1,0,0,1,1,1] 0 (iK rY Tryz.f243 [1,1,1,0,1,0,0] 0 f (zQ 0 (sK rY Tryz.f243 [1,1,1,1] 0 (eH Tryz.f243 [] false R))))))))
def dE(a:zE)(c:List (List Int))(R:pR)(b:List xE)(d:Nat)(e:Int)(f:List xE)(g:List (Int×(List Int))):Prop:=LP rY Tryz.f243 [1,1,1,0,1,0,0] 0 d ⟨[(1,dS c),(2,.iptr (nV a []) 0),(5,.ptr 5 0),(6,.ptr 6 0),(15,.sl .term b),(16,dI (b.length:Int)),(17,dI e)],[(5,.cells [.sl .term f]),(6,.cells [.own 14]),(14,.mp .int (.list .int) g)]⟩ (zQ 0 (sK rY Tryz.f243 [1,1,1,1] 0 (eH Tryz.f243 [] false R)))
theorem Ok(f:zE)(c:List (List Int))(R:pR)(g:List xE)(h:Nat)(d:Int)(b:List xE)(e:List (Int×(List Int)))(l:Nat)(i:List Int)(a:Int)(j:List xE)(k m:Int):jG f c R g h d b e (l+1) i a j k m=
 (zP (decide (a<(b.length:Int)))
 (vW a b.length=true∧
 zP (!decide (a=d))
 (xK YT [.sl .int i,dS c,.agg [dI ((yO .term b a.toNat).v),dI ((yO .term b a.toNat).times)]] (.list .int) λn=>
 jG f c R g h d b e l n (yU (a+1)) j k m)
 (jG f c R g h d b e l i (yU (a+1)) j k m))
 (Mo (e.length+1)=true∧
 dE f c R g h (yU (d+1)) j (rD .int (.list .int) k i e))):=by kernel_rfl
theorem Ol(a:zE)(f:List (List Int))(R:pR)(b:List xE)(g:Nat)(c:Int)(d:List xE)(e:List (Int×(List Int))):dE a f R b (g+1) c d e=
 (zP (decide (c<(b.length:Int)))
 (vW c b.length=true∧
 ∃n2,jG a f R b g c d e n2 ([0]) 0 d ((yO .term b c.toNat).v) ((yO .term b c.toNat).times))
 (R (.clo qS none [.iptr [.sl .term d] 0,.iptr [.mp .int (.list .int) e] 0,.iptr (nV a []) 0]) [])):=by kernel_rfl
theorem Jc(a:zE)(b:List (List Int))(R:pR):FH rY Tryz.f243 [dC a,dS b] [] [] false R=
 (xK ZD [dC a] (.list .term) λc=>
 ∃n0,dE a b R c n0 0 c ([]:List (Int×(List Int)))):=by kernel_rfl
theorem Lu(a:zE)(b:List (List Int)):oH rY Tryz.f243 bQ [dC a,dS b] [] [] false:=oT Tryz.func243 (by kernel_rfl) Tryz.ntmps243 rfl
def QO:wA:= {own:=[],live:=[],n:=14}
theorem I3(a:List Int)(R:xO):FD QO Tryz.f244 [.sl .int a] R=
 (∃b:List Int,yH tS [.sl .int a] [] (.own 3000) [(3000,.row 3 .int b)]∧
 ∃c:List Int,yH qE [.own 1000] [(1000,.row 3 .int b)] (.tup []) [(1000,.row 3 .int c)]∧
 ∃d:List Int,yH sQ [.own 1000] [(1000,.row 3 .int c)] (.sl .int d) []∧
 R (dB (decide ((d.length:Int)<(a.length:Int))))):=by kernel_rfl
theorem Jd(a:List Int):wC QO Tryz.f244 ZB [.sl .int a]:=wJ Tryz.func244 (by kernel_rfl) Tryz.ntmps244 rfl
def ST:wA:= {own:=[],live:=[],n:=6}
theorem Je(a:zE)(b:List (List Int))(R:pR):FH ST Tryz.f245 [dC a,dS b] [] [] false R=
 (R (.clo qT none [.iptr [dS b] 0,.iptr (nV a []) 0]) []):=by kernel_rfl
theorem Lv(a:zE)(b:List (List Int)):oH ST Tryz.f245 bR [dC a,dS b] [] [] false:=oT Tryz.func245 (by kernel_rfl) Tryz.ntmps245 rfl
def QP:wA:= {own:=[],live:=[],n:=17}
theorem I4(a c:Int)(d:List Int)(b:FuncId)(e:List D)(R:xO):FD QP Tryz.f246 [dI a,dI c,.iptr [.sl .int d] 0,.iptr [.clo b (some [.bool]) e] 0] R=
 (xK wU [.sl .int d,dI a] .bool λf=>
 zP (!f)
 (R (dB true))
 (ZF b∧
 xK b ([dI a,dI c]++e) .bool λg=>
 R (dB g))):=by kernel_rfl
theorem Jf(a b:Int)(c:List Int)(d:FuncId)(e:List D):wC QP Tryz.f246 qR [dI a,dI b,.iptr [.sl .int c] 0,.iptr [.clo d (some [.bool]) e] 0]:=wJ Tryz.func246 (by kernel_rfl) Tryz.ntmps246 rfl
def qK:wA:= {own:=[],live:=[(0,([0,27,28,29],[1000,1001,2000])),(2,([0,1,59,60,61],[1000,1001,2000]))],n:=83}
def mO(b:Int)(c d:List Int)(e:Int)(f:List (List Int))(g:List zC)(h:List (List Int))(a i:List Int)(R:pR)(j:Nat)(k:Int)(l:List ((Int×Int)×Int)):Prop:=LP qK Tryz.f281 [0,1,0,0,1,0,1,0,0] 0 j ⟨[(0,.ptr 1000 0),(27,.sl .int a),(28,dI (a.length:Int)),(29,dI k)],[(1000,.cells [dI b,.sl .int c,.sl .int d,dI e,dS f,.sl .lit g,dS h,.sl .int a,.own 2000,.own 1001]),(1001,.mp (.pr .int .int) .int l),(2000,.row 3 .int i)]⟩ (zQ 0 (sK qK Tryz.f281 [0,1,0,1] 0 (sK qK Tryz.f281 [1] 0 (eH Tryz.f281 [.ptr 1000 0] false R))))
def mP(b:List (List Int))(c:List Int)(a:Int)(R:pR)(d:Nat)(e f:Int)(g h:List Int)(i:Int)(j:List (List Int))(k:List zC)(l:List (List Int))(m:List Int)(n:List ((Int×Int)×Int))(o:List Int):Prop:=LP qK Tryz.f281 [1,1,0,0] 2 d ⟨[(0,.ptr 1000 0),(1,dI a),(59,.sl .int (yO (.list .int) b ((yO .int c a.toNat).toNat))),(60,dI ((yO (.list .int) b ((yO .int c a.toNat).toNat)).length:Int)),(61,dI e)],[(1000,.cells [dI f,.sl .int g,.sl .int h,dI i,dS j,.sl .lit k,dS l,.sl .int m,.own 2000,.own 1001]),(1001,.mp (.pr .int .int) .int n),(2000,.row 3 .int o)]⟩ (zQ 2 (eH Tryz.f281 [.ptr 1000 0] false R))
theorem UC(e:Int)(f g:List Int)(h:Int)(i:List (List Int))(j:List zC)(k:List (List Int))(a c:List Int)(R:pR)(l:Nat)(b:Int)(d:List ((Int×Int)×Int)):mO e f g h i j k a c R (l+1) b d=
 (zP (decide (b<(a.length:Int)))
 (vW b a.length=true∧
 vW (yO .int a b.toNat) c.length=true∧
 Mo (d.length+1)=true∧
 mO e f g h i j k a c R l (yU (b+1)) (rD (.pr .int .int) .int (yO .int a b.toNat,yO .int c ((yO .int a b.toNat).toNat)) 1 d))
 (R (.tup []) [(1000,.cells [dI e,.sl .int f,.sl .int g,dI h,dS i,.sl .lit j,dS k,.sl .int a,.own 2000,.own 1001]),(2000,.row 3 .int c),(1001,.mp (.pr .int .int) .int d)])):=by kernel_rfl
theorem bG(c:List (List Int))(d:List Int)(a:Int)(R:pR)(o:Nat)(e f:Int)(g h:List Int)(i:Int)(j:List (List Int))(k:List zC)(l:List (List Int))(b:List Int)(n:List ((Int×Int)×Int))(m:List Int):mP c d a R (o+1) e f g h i j k l b n m=
 (zP (decide (e<((yO (.list .int) c ((yO .int d a.toNat).toNat)).length:Int)))
 (vW e (yO (.list .int) c ((yO .int d a.toNat).toNat)).length=true∧
 vW a b.length=true∧
 vW (yO .int b a.toNat) m.length=true∧
 ∃p:List Int,∃q:List ((Int×Int)×Int),yH xA [.ptr 1000 0,dI (yU (a+1))] [(1000,.cells [dI f,.sl .int g,.sl .int h,dI i,dS j,.sl .lit k,dS l,.sl .int b,.own 2000,.own 1001]),(2000,.row 3 .int (m.set ((yO .int b a.toNat).toNat) (yO .int (yO (.list .int) c ((yO .int d a.toNat).toNat)) e.toNat))),(1001,.mp (.pr .int .int) .int n)] (.tup []) [(1000,.cells [dI f,.sl .int g,.sl .int h,dI i,dS j,.sl .lit k,dS l,.sl .int b,.own 2000,.own 1001]),(2000,.row 3 .int p),(1001,.mp (.pr .int .int) .int q)]∧
 mP c d a R o (yU (e+1)) f g h i j k l b q p)
 (R (.tup []) [(1000,.cells [dI f,.sl .int g,.sl .int h,dI i,dS j,.sl .lit k,dS l,.sl .int b,.own 2000,.own 1001]),(2000,.row 3 .int m),(1001,.mp (.pr .int .int) .int n)])):=by kernel_rfl
theorem fm(c:Int)(d e:List Int)(f:Int)(g:List (List Int))(h:List zC)(b:List (List Int))(a i:List Int)(k:List ((Int×Int)×Int))(j:Int)(R:pR):FH qK Tryz.f281 [.ptr 1000 0,dI j] [(1000,.cells [dI c,.sl .int d,.sl .int e,dI f,dS g,.sl .lit h,dS b,.sl .int a,.own 2000,.own 1001]),(2000,.row 3 .int i),(1001,.mp (.pr .int .int) .int k)] [.ptr 1000 0] false R=
 (zP (decide (j=(a.length:Int)))
 (xK eO [.agg [dI c,.sl .int d,.sl .int e,dI f,dS g,.sl .lit h],.sl .int i] .bool λl=>
 zP l
 (∃n0,mO c d e f g h b a i R n0 0 k)
 (R (.tup []) [(1000,.cells [dI c,.sl .int d,.sl .int e,dI f,dS g,.sl .lit h,dS b,.sl .int a,.own 2000,.own 1001]),(2000,.row 3 .int i),(1001,.mp (.pr .int .int) .int k)]))
 (vW j a.length=true∧
 vW (yO .int a j.toNat) b.length=true∧
 ∃n2,mP b a j R n2 0 c d e f g h b a k i)):=by kernel_rfl
theorem iT(a:Int)(b c:List Int)(d:Int)(e:List (List Int))(f:List zC)(g:List (List Int))(h i:List Int)(j:List ((Int×Int)×Int))(k:Int):oH qK Tryz.f281 xA [.ptr 1000 0,dI k] [(1000,.cells [dI a,.sl .int b,.sl .int c,dI d,dS e,.sl .lit f,dS g,.sl .int h,.own 2000,.own 1001]),(2000,.row 3 .int i),(1001,.mp (.pr .int .int) .int j)] [.ptr 1000 0] false:=oT Tryz.func281 (by kernel_rfl) Tryz.ntmps281 rfl
def SU:wA:= {own:=[],live:=[],n:=15}
theorem Jg(b c:Int)(a:zE)(e:List (List Int))(f g:List Int)(d:List ((Int×Int)×Int))(R:xO):FD SU Tryz.f282 [dI b,dI c,.iptr [.iptr (nV a [dS e,.sl .int f,.sl .int g,.mp (.pr .int .int) .int d]) 0] 0] R=
 (R (dB (decide ((kJ (.pr .int .int) .int (b,c) d)=1)))):=by kernel_rfl
theorem Lw(b c:Int)(a:zE)(d:List (List Int))(e f:List Int)(g:List ((Int×Int)×Int)):wC SU Tryz.f282 xC [dI b,dI c,.iptr [.iptr (nV a [dS d,.sl .int e,.sl .int f,.mp (.pr .int .int) .int g]) 0] 0]:=wJ Tryz.func282 (by kernel_rfl) Tryz.ntmps282 rfl
def ZX:wA:= {own:=[3,5,29],live:=[(0,([1,3,8,9,10],[3]))],n:=45}
def gK(a:zE)(R:xO)(b:Nat)(c:Int)(d:List xE):Prop:=LP ZX Tryz.f283 [1,1,0,1,0,0] 0 b ⟨[(1,.iptr (nV a []) 0),(3,.own 3),(8,.sl .int a.vars),(9,dI (a.vars.length:Int)),(10,dI c)],[(3,.row 293 .term d)]⟩ (zQ 0 (sK ZX Tryz.f283 [1,1,1] 0 (eK Tryz.f283 R)))
theorem NW(a:zE)(R:xO)(e:Nat)(b:Int)(c:List xE):gK a R (e+1) b c=
 (zP (decide (b<(a.vars.length:Int)))
 (vW b a.vars.length=true∧
 xK xT [.sl .term c,.clo eR none [.iptr [dI (yO .int a.vars b.toNat)] 0]] .int λd=>
 zP (decide (d<0))
 (vW b a.consts.length=true∧
 wN .term (c.length+([(⟨yO .int a.vars b.toNat,yO .int a.consts b.toNat⟩:xE)]).length)=true∧
 gK a R e (yU (b+1)) (c++([(⟨yO .int a.vars b.toNat,yO .int a.consts b.toNat⟩:xE)])))
 (vW d c.length=true∧
 vW b a.consts.length=true∧
 vW d c.length=true∧
 gK a R e (yU (b+1)) (c.set d.toNat (⟨(yO .term c d.toNat).v,yU (((yO .term c d.toNat).times)+(yO .int a.consts b.toNat))⟩:xE))))
 (R (.sl .term c))):=by kernel_rfl
theorem I5(a:zE)(R:xO):FD ZX Tryz.f283 [dC a] R=
 (∃n0,gK a R n0 0 ([]:List xE)):=by kernel_rfl
theorem Jh(a:zE):wC ZX Tryz.f283 ZD [dC a]:=wJ Tryz.func283 (by kernel_rfl) Tryz.ntmps283 rfl
def nO:wA:= {own:=[7,36],live:=[(0,([1,5,7,12,13,14],[7])),(2,([1,5,7,9,12,13,14,22,23,24],[7]))],n:=43}
def ZY(b:List Int)(c:List (List Int))(a:xE)(R:xO)(e:Nat)(d:Int)(f:Nat)(g:Int)(h:List Int):Prop:=LP nO Tryz.f284 [1,1,0,1,0,0,1,1,0,0,1,1,0,0] 2 f ⟨[(1,dS c),(5,.iptr [dI a.v,dI a.times] 0),(7,.own 7),(9,dI (yO .int b d.toNat)),(12,.sl .int b),(13,dI (b.length:Int)),(14,dI d),(22,.sl .int (yO (.list .int) c a.v.toNat)),(23,dI ((yO (.list .int) c a.v.toNat).length:Int)),(24,dI g)],[(7,.row 3 .int h)]⟩ (zQ 2 (zQ 1 (sK nO Tryz.f284 [1,1,0,1,0,0,1,1,1] 0 (iK nO Tryz.f284 [1,1,0,1,0,0] 0 e (zQ 0 (sK nO Tryz.f284 [1,1,1] 0 (eK Tryz.f284 R)))))))
def ZZ(a:List Int)(c:List (List Int))(b:xE)(R:xO)(d:Nat)(e:Int)(f:List Int):Prop:=LP nO Tryz.f284 [1,1,0,1,0,0] 0 d ⟨[(1,dS c),(5,.iptr [dI b.v,dI b.times] 0),(7,.own 7),(12,.sl .int a),(13,dI (a.length:Int)),(14,dI e)],[(7,.row 3 .int f)]⟩ (zQ 0 (sK nO Tryz.f284 [1,1,1] 0 (eK Tryz.f284 R)))
theorem Lx(d:List Int)(b:List (List Int))(a:xE)(R:xO)(g:Nat)(e:Int)(h:Nat)(c:Int)(f:List Int):ZY d b a R g e (h+1) c f=
 (zP (decide (c<((yO (.list .int) b a.v.toNat).length:Int)))
 (vW c (yO (.list .int) b a.v.toNat).length=true∧
 wN .int (f.length+([yU ((yO .int d e.toNat)+(yU (a.times*(yO .int (yO (.list .int) b a.v.toNat) c.toNat))))]).length)=true∧
 ZY d b a R g e h (yU (c+1)) (f++([yU ((yO .int d e.toNat)+(yU (a.times*(yO .int (yO (.list .int) b a.v.toNat) c.toNat))))])))
 (ZZ d b a R g (yU (e+1)) f)):=by kernel_rfl
theorem Ly(a:List Int)(c:List (List Int))(d:xE)(R:xO)(f:Nat)(b:Int)(e:List Int):ZZ a c d R (f+1) b e=
 (zP (decide (b<(a.length:Int)))
 (vW b a.length=true∧
 vW d.v c.length=true∧
 ∃n2,ZY a c d R f b n2 0 e)
 (∃g:List Int,yH qE [.own 1000] [(1000,.row 3 .int e)] (.tup []) [(1000,.row 3 .int g)]∧
 ∃h:List Int,yH sQ [.own 1000] [(1000,.row 3 .int g)] (.sl .int h) []∧
 R (.sl .int h))):=by kernel_rfl
theorem FL(b:List Int)(c:List (List Int))(a:xE)(R:xO):FD nO Tryz.f284 [.sl .int b,dS c,.agg [dI a.v,dI a.times]] R=
 (∃n0,ZZ b c a R n0 0 ([]:List Int)):=by kernel_rfl
theorem I6(b:List Int)(c:List (List Int))(a:xE):wC nO Tryz.f284 YT [.sl .int b,dS c,.agg [dI a.v,dI a.times]]:=wJ Tryz.func284 (by kernel_rfl) Tryz.ntmps284 rfl
def V9:wA:= {own:=[8],live:=[],n:=20}
theorem NX(c e:Int)(b:List xE)(f:List (Int×(List Int)))(a:zE)(R:xO):FD V9 Tryz.f285 [dI c,dI e,.iptr [.sl .term b] 0,.iptr [.mp .int (.list .int) f] 0,.iptr (nV a []) 0] R=
 (xK xT [.sl .term b,.clo kR none [.iptr [dI c] 0]] .int λd=>
 vW d b.length=true∧
 xK wO [.sl .int (kJ .int (.list .int) c f),.clo kS none [.iptr (nV a []) 0,.iptr [dI ((yO .term b d.toNat).v),dI ((yO .term b d.toNat).times)] 0,.iptr [dI e] 0]] .bool λg=>
 R (dB g)):=by kernel_rfl
theorem Om(b c:Int)(d:List xE)(e:List (Int×(List Int)))(a:zE):wC V9 Tryz.f285 qS [dI b,dI c,.iptr [.sl .term d] 0,.iptr [.mp .int (.list .int) e] 0,.iptr (nV a []) 0]:=wJ Tryz.func285 (by kernel_rfl) Tryz.ntmps285 rfl
def XX:wA:= {own:=[],live:=[],n:=8}
theorem QQ(a:xE)(b:Int)(R:xO):FD XX Tryz.f287 [.agg [dI a.v,dI a.times],.iptr [dI b] 0] R=
 (R (dB (decide (a.v=b)))):=by kernel_rfl
theorem Ry(a:xE)(b:Int):wC XX Tryz.f287 kR [.agg [dI a.v,dI a.times],.iptr [dI b] 0]:=wJ Tryz.func287 (by kernel_rfl) Tryz.ntmps287 rfl
def XY:wA:= {own:=[],live:=[],n:=14}
theorem QR(c:Int)(a:zE)(b:xE)(d:Int)(R:xO):FD XY Tryz.f288 [dI c,.iptr (nV a []) 0,.iptr [dI b.v,dI b.times] 0,.iptr [dI d] 0] R=
 (xK jN [dC a,dI (yU (c+(yU (b.times*d))))] .bool λe=>
 R (dB e)):=by kernel_rfl
theorem Rz(c:Int)(a:zE)(b:xE)(d:Int):wC XY Tryz.f288 kS [dI c,.iptr (nV a []) 0,.iptr [dI b.v,dI b.times] 0,.iptr [dI d] 0]:=wJ Tryz.func288 (by kernel_rfl) Tryz.ntmps288 rfl
def fA:wA:= {own:=[20,21,23],live:=[(0,([8,26,27],[20,21,23]))],n:=40,nils:=[],pubs:=[(23,0)]}
def pZ(a:zE)(R:xO)(b:Nat)(c:Int)(d e:List (Int×Int))(f:List (List Int))(g:List Int)(h:Int):Prop:=LP fA Tryz.f289 [1,1,1,1,0,1,0,0] 0 b ⟨[(8,.ptr 23 0),(26,dI (a.vars.length:Int)),(27,dI c)],[(20,.mp .int .int d),(21,.mp .int .int e),(23,.cells [dS f,.sl .int g,.own 20,.own 21,dI h])]⟩ (zQ 0 (sK fA Tryz.f289 [1,1,1,1,1] 0 (eK Tryz.f289 R)))
theorem RA(d:zE)(R:xO)(e:Nat)(a:Int)(f g:List (Int×Int))(b:List (List Int))(c:List Int)(k:Int):pZ d R (e+1) a f g b c k=
 (zP (decide (a<(d.vars.length:Int)))
 (∃h:Bool,∃i:List (Int×Int),∃j:List (Int×Int),yH rN [.ptr 1000 0,dI a] [(1000,.cells [dS b,.sl .int c,.own 1001,.own 1002,dI (yU (a+1))]),(1001,.mp .int .int f),(1002,.mp .int .int g)] (dB h) [(1000,.cells [dS b,.sl .int c,.own 1001,.own 1002,dI (yU (a+1))]),(1001,.mp .int .int i),(1002,.mp .int .int j)]∧
 zP (!h)
 (R (dB false))
 (pZ d R e (yU (a+1)) i j b c (yU (a+1))))
 (R (dB true))):=by kernel_rfl
theorem NY(b d:Int)(e:List (List Int))(a:zE)(R:xO):FD fA Tryz.f289 [dI b,dI d,.iptr [dS e] 0,.iptr (nV a []) 0] R=
 (∃c:List (List Int),yH rU [dS e] [] (.own 3000) [(3000,.row 40 (.list .int) c)]∧
 vW b c.length=true∧
 ∃n0,pZ a R n0 0 ([]:List (Int×Int)) ([]:List (Int×Int)) (c.set b.toNat ([d])) a.vars 0):=by kernel_rfl
theorem Oo(b c:Int)(d:List (List Int))(a:zE):wC fA Tryz.f289 qT [dI b,dI c,.iptr [dS d] 0,.iptr (nV a []) 0]:=wJ Tryz.func289 (by kernel_rfl) Tryz.ntmps289 rfl
def mQ:wA:= {own:=[],live:=[(0,([0,1,21,22,23],[1000,1001,1002]))],n:=70}
def pA(b:List (List Int))(c:List Int)(a:Int)(R:pR)(d:Nat)(e:Int)(f:List (List Int))(g:List Int)(h:Int)(i j:List (Int×Int)):Prop:=LP mQ Tryz.f291 [1,0,1,0,0] 0 d ⟨[(0,.ptr 1000 0),(1,dI a),(21,.sl .int (yO (.list .int) b ((yO .int c a.toNat).toNat))),(22,dI ((yO (.list .int) b ((yO .int c a.toNat).toNat)).length:Int)),(23,dI e)],[(1000,.cells [dS f,.sl .int g,.own 1001,.own 1002,dI h]),(1001,.mp .int .int i),(1002,.mp .int .int j)]⟩ (zQ 0 (sK mQ Tryz.f291 [1,1] 0 (eH Tryz.f291 [.ptr 1000 0] false R)))
theorem rG(b:List (List Int))(c:List Int)(a:Int)(R:pR)(k:Nat)(d:Int)(f:List (List Int))(g:List Int)(e:Int)(h i:List (Int×Int)):pA b c a R (k+1) d f g e h i=
 (zP (decide (d<((yO (.list .int) b ((yO .int c a.toNat).toNat)).length:Int)))
 (vW d (yO (.list .int) b ((yO .int c a.toNat).toNat)).length=true∧
 zP (decide ((kJ .int .int (yO .int (yO (.list .int) b ((yO .int c a.toNat).toNat)) d.toNat) i)=e))
 (pA b c a R k (yU (d+1)) f g e h i)
 (Mo (i.length+1)=true∧
 zP (!(PK .int .int (yO .int (yO (.list .int) b ((yO .int c a.toNat).toNat)) d.toNat) h))
 (Mo (h.length+1)=true∧
 R (dB true) [(1000,.cells [dS f,.sl .int g,.own 1001,.own 1002,dI e]),(1001,.mp .int .int (rD .int .int (yO .int (yO (.list .int) b ((yO .int c a.toNat).toNat)) d.toNat) a h)),(1002,.mp .int .int (rD .int .int (yO .int (yO (.list .int) b ((yO .int c a.toNat).toNat)) d.toNat) e i))])
 (∃m:Bool,∃j:List (Int×Int),∃l:List (Int×Int),yH rN [.ptr 1000 0,dI (kJ .int .int (yO .int (yO (.list .int) b ((yO .int c a.toNat).toNat)) d.toNat) h)] [(1000,.cells [dS f,.sl .int g,.own 1001,.own 1002,dI e]),(1001,.mp .int .int h),(1002,.mp .int .int (rD .int .int (yO .int (yO (.list .int) b ((yO .int c a.toNat).toNat)) d.toNat) e i))] (dB m) [(1000,.cells [dS f,.sl .int g,.own 1001,.own 1002,dI e]),(1001,.mp .int .int j),(1002,.mp .int .int l)]∧
 zP m
 (Mo (j.length+1)=true∧
 R (dB true) [(1000,.cells [dS f,.sl .int g,.own 1001,.own 1002,dI e]),(1001,.mp .int .int (rD .int .int (yO .int (yO (.list .int) b ((yO .int c a.toNat).toNat)) d.toNat) a j)),(1002,.mp .int .int l)])
 (pA b c a R k (yU (d+1)) f g e j l))))
 (R (dB false) [(1000,.cells [dS f,.sl .int g,.own 1001,.own 1002,dI e]),(1001,.mp .int .int h),(1002,.mp .int .int i)])):=by kernel_rfl
theorem Z0(b:List (List Int))(a:List Int)(d:Int)(e f:List (Int×Int))(c:Int)(R:pR):FH mQ Tryz.f291 [.ptr 1000 0,dI c] [(1000,.cells [dS b,.sl .int a,.own 1001,.own 1002,dI d]),(1001,.mp .int .int e),(1002,.mp .int .int f)] [.ptr 1000 0] false R=
 (vW c a.length=true∧
 vW (yO .int a c.toNat) b.length=true∧
 ∃n0,pA b a c R n0 0 b a d e f):=by kernel_rfl
theorem Ze(a:List (List Int))(b:List Int)(c:Int)(d e:List (Int×Int))(f:Int):oH mQ Tryz.f291 rN [.ptr 1000 0,dI f] [(1000,.cells [dS a,.sl .int b,.own 1001,.own 1002,dI c]),(1001,.mp .int .int d),(1002,.mp .int .int e)] [.ptr 1000 0] false:=oT Tryz.func291 (by kernel_rfl) Tryz.ntmps291 rfl
def Tj:wA:= {own:=[],live:=[],n:=8}
theorem Lz(a:xE)(b:Int)(R:xO):FD Tj Tryz.f310 [.agg [dI a.v,dI a.times],.iptr [dI b] 0] R=
 (R (dB (decide (a.v=b)))):=by kernel_rfl
theorem NZ(a:xE)(b:Int):wC Tj Tryz.f310 eR [.agg [dI a.v,dI a.times],.iptr [dI b] 0]:=wJ Tryz.func310 (by kernel_rfl) Tryz.ntmps310 rfl
theorem nodup_iff{l:List Int}:(∀i (hi:i<l.length) j (hj:j<i),l[i]≠l[j]'(by omega))↔l.Nodup:=by
 rw[List.Nodup,List.pairwise_iff_getElem];exact⟨λh i j hi hj hij e=>h j hj i hij e.symm,λh i hi j hj e=>h j i (by omega) hi hj e.symm⟩

structure fB (s:List (List Int))(nv:Nat):Prop where
 len:s.length=nv
 near:∀v:Nat,∀n∈s.getD v [],-50≤n∧n≤50
 rise:∀l∈s,l.Pairwise (·<·)
theorem fB.nodup{s:List (List Int)}{nv:Nat}(h:fB s nv)(v:Nat):(s.getD v []).Nodup:=by
 by_cases hv:v<s.length
 ·rw[yE _ hv]
  exact(h.rise _ (List.getElem_mem hv)).imp fun {a b} hab=>by omega
 ·rw[qJ (by omega)];exact List.nodup_nil
theorem fB.row{s:List (List Int)}{nv:Nat}(h:fB s nv)(v:Nat):(s.getD v []).length≤101:=
 YE (h.nodup v) (lo:= -50) λn hn=>by have:=h.near v n hn;omega
theorem Xx{m:zG}{s:List (List Int)}(hm:Right m)(h:fg m s=0):fB s m.vars.length:=by
 obtain⟨h1,h2,h3⟩:=V3.1 h;refine⟨h1,λv n hn=> ?_,h3⟩
 have:=h2 v n hn
 by_cases hv:v<m.vars.length
 ·rw[yE _ hv]at this
  have:=hm.lohi _ (List.getElem_mem hv);omega
 ·rw[qJ (by omega)]at hn;cases hn
theorem fB.keep{s:List (List Int)}{nv:Nat}{f:Nat→Int→Bool}(h:fB s nv):fB (pL f s) nv:=by
 refine⟨tL.trans h.len,λv n hn=> ?_,λl hl=> ?_⟩
 ·rw[tK,List.mem_filter]at hn;exact h.near v n hn.1
 ·obtain⟨i,hi,rfl⟩:=List.getElem_of_mem hl
  have hi':i<s.length:=by rw[tL]at hi;exact hi
  simp only[pL,List.getElem_mapIdx];exact(h.rise _ (List.getElem_mem hi')).filter _
theorem LA(t:xE)(v:Int):tU eR [.agg [dI t.v,dI t.times],.iptr [dI v] 0] (dB (decide (t.v=v))):=
 NZ t v λok=>by rw[Lz]
theorem zeP:∀ {a b:List Int},a.length=b.length→(a.zip b).map Prod.fst=a
 |[],[],_=>rfl
 |x::a,y::b,h=>by rw[List.zip_cons_cons,List.map_cons,zeP (by simpa using h)]
 |[],_::_,h=>by simp at h
 |_::_,[],h=>by simp at h
theorem I7{c:zE}{nv:Nat}(hc:tP c nv)(hk:c.kind≤3):tU ZD [dC c] (.sl .term (vZ c)):=
 Jh c λok=>by
  obtain⟨f1,f2⟩:=hc.formC.sums hk;have hm:=hc.many;have hz:(c.vars.zip c.consts).length=c.vars.length:=by rw[List.length_zip];omega
  rw[I5];refine up (I:=λn v a=>gK c _ n v a) 0 c.vars.length rfl (Nat.zero_le _) (by omega) (λk a=>a=jF ((c.vars.zip c.consts).take k)) rfl λn k a _ hk2 ha hn=> ?_
  subst ha;rw[NW]
  by_cases h:k<c.vars.length
  ·have hk3:k<c.consts.length:=by omega
   have hzk:k<(c.vars.zip c.consts).length:=by omega
   have hst:jF ((c.vars.zip c.consts).take (k+1))=Wl (jF ((c.vars.zip c.consts).take k)) c.vars[k] c.consts[k]:=by
    rw[←List.take_append_getElem hzk,Zd,List.getElem_zip]
   have hlen:(jF ((c.vars.zip c.consts).take k)).length≤k:=Nat.le_trans (FF _) (by rw[List.length_take];omega)
   have hcb:=hc.consts _ (List.getElem_mem hk3);have htm:=Lr ((c.vars.zip c.consts).take k) λx hx=>hc.consts x.2 (List.of_mem_zip (List.mem_of_mem_take hx)).2
   generalize jF ((c.vars.zip c.consts).take k)=o at hst hlen htm⊢
   rw[yC h,zY (t:=.int) h,zY (t:=.int) hk3];refine⟨zM h,zH (rR (p:=λt=>decide (t.v=c.vars[k])) Nz λt ht=>LA t _) ?_⟩
   rcases Fy (λt:xE=>decide (t.v=c.vars[k])) o 0 with⟨e,h2⟩|⟨j,hj,e,h2,h3⟩
   ·rw[e]
    refine dt (by decide) ⟨zM hk3,xY (t:=.term) ?_,hn h _ ?_⟩
    ·show(_+1)*16≤_;omega
    ·rw[hst,zbi λt ht=>of_decide_eq_false (h2 t ht)]
   ·rw[e,Int.zero_add]
    refine df (show¬((j:Int)<0) by omega) ?_
    rw[zY (t:=.term) hj];refine⟨zM hj,zM hk3,zM hj,hn h _ ?_⟩;have:=htm _ (List.getElem_mem hj);rw[List.length_take]at this
    rw[hst,zbj hj (of_decide_eq_true h2) λi hi=>of_decide_eq_false (h3 i hi),wL (by omega) (by omega),Int.toNat_natCast]
  ·have hk':k=c.vars.length:=by omega
   subst hk';rw[zX,←hz,List.take_length];rfl
def FM(l row:List Int)(k:Int):List Int:=Lib.compact (ZU (l.flatMap λa=>row.map λn=>a+k*n))
theorem CG{l row:List Int}{k x:Int}:x∈FM l row k↔∃a∈l,∃n∈row,x=a+k*n:=by
 rw[FM,QH,(List.mergeSort_perm _ _).mem_iff,List.mem_flatMap];constructor
 ·rintro⟨a,ha,h⟩
  obtain⟨n,hn,e⟩:=List.mem_map.1 h;exact⟨a,ha,n,hn,e.symm⟩
 ·rintro⟨a,ha,n,hn,e⟩
  exact⟨a,ha,List.mem_map.2 ⟨n,hn,e.symm⟩⟩
theorem Ua{α β:Type}{f:α→List β}{b:Nat}:∀ {l:List α},(∀a∈l,(f a).length≤b)→(l.flatMap f).length≤l.length*b
 |[],_=>by simp
 |a::l,h=>by
  rw[List.flatMap_cons,List.length_append,List.length_cons,Nat.add_mul,Nat.one_mul];have h1:=h a (List.mem_cons_self ..);have h2:=Ua λx hx=>h x (List.mem_cons_of_mem _ hx)
  omega
theorem zfO{l row:List Int}{k:Int}{b:Nat}(h:row.length≤b):(FM l row k).length≤l.length*b:=by
 rw[FM];refine Nat.le_trans (Fl _) ?_;rw[ZU,List.length_mergeSort];exact Ua λa _=>by rw[List.length_map];exact h
theorem LB{α β:Type}(f:α→List β){xs:List α}{k:Nat}(h:k<xs.length):(xs.take (k+1)).flatMap f=(xs.take k).flatMap f++f xs[k]:=by
 rw[←List.take_append_getElem h,List.flatMap_append,List.flatMap_cons,List.flatMap_nil,List.append_nil]
theorem FN{l:List Int}{s:List (List Int)}{nv:Nat}{t:xE}(hs:fB s nv)(hv:0≤t.v∧t.v<nv)(ht: -4000≤t.times∧t.times≤4000)(hl:∀a∈l,-4000000≤a∧a≤4000000)(hll:l.length≤1000000000):
  tU YT [.sl .int l,dS s,.agg [dI t.v,dI t.times]] (.sl .int (FM l (s.getD t.v.toNat []) t.times)):=
 I6 l s t λok=>by
  have hvl:t.v.toNat<s.length:=by have:=hs.len;omega
  have hrow:=hs.row t.v.toNat;have hnear:=hs.near t.v.toNat;have hat:yO (.list .int) s t.v.toNat=s.getD t.v.toNat []:=rfl;generalize s.getD t.v.toNat []=row at hrow hnear hat⊢
  have hfl:∀k,((l.take k).flatMap λa=>row.map λn=>a+t.times*n).length≤l.length*101:=λk=>by
   refine Nat.le_trans (Ua (b:=101) λa _=>by rw[List.length_map];exact hrow) ?_
   rw[List.length_take];exact Nat.mul_le_mul_right _ (by omega)
  rw[FL];refine up (I:=λn v a=>ZZ l s t _ n v a) 0 l.length rfl (Nat.zero_le _) (by omega) (λk a=>a=(l.take k).flatMap λa=>row.map λn=>a+t.times*n) (by simp) λn k a _ hk ha hn=> ?_
  subst ha;rw[Ly]
  by_cases h:k<l.length
  ·rw[yC h]
   refine⟨zM h,rS.2 (by have:=hs.len;omega),?_⟩
   refine up (I:=λn2 v a=>ZY l s t _ n (k:Int) n2 v a) 0 row.length rfl (Nat.zero_le _) (by omega) (λj a=>a=((l.take k).flatMap λa=>row.map λn=>a+t.times*n)++(row.take j).map λn=>l[k]+t.times*n) (by simp) λn2 j a _ hj ha2 hn2=> ?_
   subst ha2;rw[Lx,hat]
   by_cases h2:j<row.length
   ·have b1:=hl _ (List.getElem_mem h)
    have b2:=hnear _ (List.getElem_mem h2)
    have b3: -200000≤t.times*row[j]∧t.times*row[j]≤200000:=by
     have:(t.times*row[j]).natAbs≤4000*50:=by rw[Int.natAbs_mul];exact Nat.mul_le_mul (by omega) (by omega)
     omega
    rw[yC h2,zY (t:=.int) h,zY (t:=.int) h2,wL (n:=t.times*row[j]) (by omega) (by omega),wL (by omega) (by omega)]
    refine⟨zM h2,xY (t:=.int) ?_,hn2 h2 _ ?_⟩
    ·have:=hfl k
     rw[List.length_append,List.length_map,List.length_take];show(_+1)*8≤_
     omega
    ·rw[ML _ h2,List.append_assoc]
   ·have hj':j=row.length:=by omega
    subst hj';rw[zX,List.take_length];exact hn h _ (LB _ h).symm
  ·have hk':k=l.length:=by omega
   subst hk';rw[zX,List.take_length];exact⟨_,K4 _,_,Sn _,rfl⟩
def Zf(s:List (List Int))(us:List xE):List Int:=us.foldl (λall u=>FM all (s.getD u.v.toNat []) u.times) [0]
theorem Sr{s:List (List Int)}{us:List xE}{u:xE}:Zf s (us++[u])=FM (Zf s us) (s.getD u.v.toNat []) u.times:=by rw[Zf,List.foldl_append];rfl
theorem zfP{s:List (List Int)}(hf:zT s=false){x:Int}(us:List xE):(∀t∈us,0≤t.v∧t.v.toNat<s.length)→(us.map xE.v).Nodup→(x∈Zf s us↔J0 us s x):=by
 refine gU (C:=λus=>∀x,(∀t∈us,0≤t.v∧t.v.toNat<s.length)→(us.map xE.v).Nodup→(x∈Zf s us↔J0 us s x)) (λx _ _=> ?_) (λus u ih x h1 h2=> ?_) us x
 ·rw[zfM hf];exact List.mem_singleton
 ·rw[List.map_append,List.nodup_append]at h2
  have hu:=h1 u (by simp)
  rw[Sr,CG,zdj hu.1 hu.2 (λt ht=>(h1 t (by simp[ht])).1) (λhm=>h2.2.2 _ hm _ (by simp) rfl)]
  have h3:∀a,a∈Zf s us↔J0 us s a:=λa=>ih a (λt ht=>h1 t (by simp[ht])) h2.1
  exact⟨λ⟨a,ha,r⟩=>⟨a,(h3 a).1 ha,r⟩,λ⟨a,ha,r⟩=>⟨a,(h3 a).2 ha,r⟩⟩
theorem FO{s:List (List Int)}{nv:Nat}(hs:fB s nv)(us:List xE):(∀t∈us,-4000≤t.times∧t.times≤4000)→∀x∈Zf s us,-200000*(us.length:Int)≤x∧x≤200000*(us.length:Int):=by
 refine gU (C:=λus=>(∀t∈us,-4000≤t.times∧t.times≤4000)→∀x∈Zf s us,-200000*(us.length:Int)≤x∧x≤200000*(us.length:Int)) (λ_ x hx=> ?_) (λus u ih h1 x hx=> ?_) us
 ·have:x=0:=List.mem_singleton.1 hx
  subst this;decide
 ·rw[Sr,CG]at hx
  obtain⟨a,ha,n,hn,rfl⟩:=hx;have h2:=ih (λt ht=>h1 t (by simp[ht])) a ha
  have h3:=h1 u (by simp)
  have h4:=hs.near _ n hn
  have b3: -200000≤u.times*n∧u.times*n≤200000:=by
   have:(u.times*n).natAbs≤4000*50:=by rw[Int.natAbs_mul];exact Nat.mul_le_mul (by omega) (by omega)
   omega
  rw[List.length_append,List.length_singleton];omega
theorem zfQ{s:List (List Int)}{nv:Nat}(hs:fB s nv)(us:List xE):(Zf s us).length≤101^us.length:=by
 refine gU (C:=λus=>(Zf s us).length≤101^us.length) (Nat.le_refl _) (λus u ih=> ?_) us
 rw[Sr,List.length_append,List.length_singleton,Nat.pow_succ];exact Nat.le_trans (zfO (hs.row _)) (Nat.mul_le_mul_right _ ih)
def I8(s:List (List Int))(ts:List xE):List (Int×List Int):=ts.mapIdx λi t=>(t.v,Zf s (ts.eraseIdx i))
theorem LC{c:zE}{nv:Nat}(hc:tP c nv):∀t∈vZ c,-4000≤t.times∧t.times≤4000:=λt ht=>by
 have h:=Lr (c.vars.zip c.consts) (λx hx=>hc.consts x.2 (List.of_mem_zip hx).2) t ht
 have:=hc.many;rw[List.length_zip]at h
 omega
theorem FP{c:zE}{nv:Nat}(hc:tP c nv):(vZ c).length≤4:=by
 have h:=FF (c.vars.zip c.consts);have:=hc.many;rw[List.length_zip]at h
 exact Nat.le_trans h (by omega)
theorem FQ{ts:List xE}{f:Nat→xE→List Int}:(ts.mapIdx λi t=>(t.v,f i t)).map Prod.fst=ts.map xE.v:=by
 apply List.ext_getElem
 ·simp
 ·intro i h1 h2;simp
theorem Ji{c:zE}{s:List (List Int)}(hc:tP c s.length)(hk:c.kind≤3)(hs:fB s s.length):
  yH bQ [dC c,dS s] [] (.clo qS none [.iptr [.sl .term (vZ c)] 0,.iptr [.mp .int (.list .int) (I8 s (vZ c))] 0,.iptr [.int .i64 c.kind,.sl .int c.vars,.sl .int c.consts,.int .i64 c.n,.sl (.list .int) c.rows,.sl .lit c.lits] 0]) []:=
 Lu c s λok _=>by
  have h4:=FP hc;have hv:=NV hc;have htm:=LC hc;have hnd:((vZ c).map xE.v).Nodup:=Sp _;rw[Jc];refine zH (I7 hc hk) ?_;generalize hts:vZ c=ts at h4 hv htm hnd⊢
  have hlm:I8 s ts=ts.mapIdx λi t=>(t.v,Zf s (ts.eraseIdx i)):=rfl
  refine up (I:=λn v a=>dE c s _ ts n v ts a) 0 ts.length rfl (Nat.zero_le _) (by omega) (λi a=>a=(ts.take i).mapIdx λi t=>(t.v,Zf s (ts.eraseIdx i))) rfl λn i a _ hi ha hn=> ?_
  subst ha;rw[Ol]
  by_cases h:i<ts.length
  ·rw[yC h,zY (t:=.term) h]
   refine⟨zM h,?_⟩;refine up (I:=λn2 v a=>jG c s _ ts n (i:Int) ts _ n2 a v ts _ _) 0 ts.length rfl (Nat.zero_le _) (by omega) (λk a=>a=Zf s ((ts.take k).eraseIdx i)) rfl λn2 k a _ hk2 ha2 hn2=> ?_
   subst ha2;rw[Ok]
   by_cases h2:k<ts.length
   ·rw[yC h2,zY (t:=.term) h2]
    refine⟨zM h2,?_⟩;have est:=zdk (l:=ts) (i:=i) h2
    by_cases e:k=i
    ·refine Ai (show(k:Int)=(i:Int) by omega) (hn2 h2 _ ?_)
     rw[est,if_pos e]
    ·refine NB (show¬(k:Int)=(i:Int) by omega) ?_
     have hsub:((ts.take k).eraseIdx i).Sublist ts:=(List.eraseIdx_sublist ..).trans (List.take_sublist ..);have hul:((ts.take k).eraseIdx i).length≤4:=Nat.le_trans hsub.length_le h4;have hb:=FO hs ((ts.take k).eraseIdx i) λt ht=>htm t (hsub.subset ht)
     refine zH (FN hs (hv _ (List.getElem_mem h2)) (htm _ (List.getElem_mem h2)) (λa ha=>by have:=hb a ha;omega) ?_) (hn2 h2 _ ?_)
     ·exact Nat.le_trans (zfQ hs _) (Nat.le_trans (Nat.pow_le_pow_right (by decide) hul) (by decide))
     ·rw[est,if_neg e,Sr]
   ·have hk':k=ts.length:=by omega
    subst hk';rw[zX,List.take_length];have hml:((ts.take i).mapIdx λi t=>(t.v,Zf s (ts.eraseIdx i))).length=i:=by rw[List.length_mapIdx,List.length_take];omega
    refine⟨decide_eq_true (by rw[hml];omega),hn h _ ?_⟩
    rw[zaF _ h];refine Lo (kt:=.int) (vt:=.list .int) gJ _ ?_;cases e:uH .int (.list .int) ts[i].v ((ts.take i).mapIdx λi t=>(t.v,Zf s (ts.eraseIdx i)))with
    |none=>rfl
    |some k=>
     have h5:=(Xw (kt:=.int) (vt:=.list .int) gJ _).2 ⟨k,e⟩;rw[FQ]at h5
     have h6:ts.map xE.v=(ts.take i).map xE.v++(ts.drop i).map xE.v:=by rw[←List.map_append,List.take_append_drop]
     rw[h6,List.nodup_append]at hnd
     exact absurd rfl (hnd.2.2 _ h5 ts[i].v (List.mem_map.2 ⟨ts[i],by rw[List.drop_eq_getElem_cons h];exact List.mem_cons_self ..,rfl⟩))
  ·have hi':i=ts.length:=by omega
   subst hi';rw[zX,List.take_length,hlm];exact⟨rfl,rfl⟩
theorem QS(t:xE)(v:Int):tU kR [.agg [dI t.v,dI t.times],.iptr [dI v] 0] (dB (decide (t.v=v))):=
 Ry t v λok=>by rw[QQ]
theorem QT{c:zE}{t:xE}{a n:Int}(ht: -4000≤t.times∧t.times≤4000)(hn: -50≤n∧n≤50)(ha: -4000000≤a∧a≤4000000):tU kS [dI a,.iptr [.int .i64 c.kind,.sl .int c.vars,.sl .int c.consts,.int .i64 c.n,.sl (.list .int) c.rows,.sl .lit c.lits] 0,.iptr [dI t.v,dI t.times] 0,.iptr [dI n] 0] (dB (zbm c (a+t.times*n))):=
 Rz a c t n λok=>by
  have b3: -200000≤t.times*n∧t.times*n≤200000:=by
   have:(t.times*n).natAbs≤4000*50:=by rw[Int.natAbs_mul];exact Nat.mul_le_mul (by omega) (by omega)
   omega
  rw[QR,wL (n:=t.times*n) (by omega) (by omega),wL (by omega) (by omega)]
  exact zH (M1 c _) rfl
theorem N0{c:zE}{s:List (List Int)}(hc:tP c s.length)(hk:c.kind≤3)(hs:fB s s.length)(hf:zT s=false){v n:Int}(hv:v∈c.vars)(hn:n∈s.getD v.toNat []):
  tU qS [dI v,dI n,.iptr [.sl .term (vZ c)] 0,.iptr [.mp .int (.list .int) (I8 s (vZ c))] 0,.iptr [.int .i64 c.kind,.sl .int c.vars,.sl .int c.consts,.int .i64 c.n,.sl (.list .int) c.rows,.sl .lit c.lits] 0] (dB (mayB (vH c) s v.toNat n)):=
 Om v n (vZ c) (I8 s (vZ c)) c λok=>by
  have hvv:=NV hc;have htm:=LC hc;have hnd:((vZ c).map xE.v).Nodup:=Sp _;rw[NX];refine zH (rR (p:=λt=>decide (t.v=v)) Rj λt ht=>QS t _) ?_
  rcases Fy (λt:xE=>decide (t.v=v)) (vZ c) 0 with⟨e,h2⟩|⟨j,hj,e,h2,h3⟩
  ·obtain⟨f1,f2⟩:=hc.formC.sums hk
   have:v∈(vZ c).map xE.v:=by
    rw[vZ,FE,zeP f2.symm];exact hv
   obtain⟨t,ht,rfl⟩:=List.mem_map.1 this;exact absurd rfl (of_decide_eq_false (h2 t ht))
  ·have h2:(vZ c)[j].v=v:=of_decide_eq_true h2
   rw[e,Int.zero_add,zY (t:=.term) hj]
   have hg:uH .int (.list .int) v (I8 s (vZ c))=some (Zf s ((vZ c).eraseIdx j)):=by
    refine Au (kt:=.int) (vt:=.list .int) gJ _ (by rw[I8,FQ];exact hnd) ?_
    have hjl:j<(I8 s (vZ c)).length:=by rw[I8,List.length_mapIdx];exact hj
    have:(I8 s (vZ c))[j]=(v,Zf s ((vZ c).eraseIdx j)):=by simp only[I8,List.getElem_mapIdx];rw[h2]
    rw[←this];exact List.getElem_mem hjl
   have hgd:kJ .int (.list .int) v (I8 s (vZ c))=Zf s ((vZ c).eraseIdx j):=by rw[kJ,hg];rfl
   rw[hgd];have hsub:((vZ c).eraseIdx j).Sublist (vZ c):=List.eraseIdx_sublist ..;have hb:=FO hs ((vZ c).eraseIdx j) λt ht=>htm t (hsub.subset ht)
   have hlen:=Nat.le_trans hsub.length_le (FP hc);refine⟨zM hj,zH (tR (p:=λa=>zbm c (a+(vZ c)[j].times*n)) Rk λa ha=>QT (htm _ (List.getElem_mem hj)) (hs.near _ n hn) (by have:=hb a ha;omega)) ?_⟩
   congr 1
   rw[Bool.eq_iff_iff,oY,List.any_eq_true];have h5:=zjs (c:=c) (s:=s) hc hk hj (n:=n) (by rw[h2];exact hn)
   rw[h2]at h5
   rw[h5];have hmem:∀a,a∈Zf s ((vZ c).eraseIdx j)↔J0 ((vZ c).eraseIdx j) s a:=λa=>zfP hf _ (λt ht=>by have:=hvv t (hsub.subset ht);omega) (hnd.sublist (hsub.map _))
   exact⟨λ⟨a,h6,h7⟩=>⟨a,(hmem a).1 h6,h7⟩,λ⟨a,h6,h7⟩=>⟨a,(hmem a).2 h6,h7⟩⟩
def bH(s:List (List Int))(vars:List Int):List (List Int):=vars.map λv=>s.getD v.toNat []
theorem WB{s:List (List Int)}{vars:List Int}:(bH s vars).length=vars.length:=List.length_map ..
theorem FR{s:List (List Int)}{vars:List Int}{i:Nat}(h:i<vars.length):(bH s vars).getD i []=s.getD (vars.getD i 0).toNat []:=by
 rw[yE _ (by rw[WB];exact h),yE _ h];simp[bH]
abbrev hpF(s:List (List Int))(vars:List Int)(turn:Int)(m a:KV):List (Nat×yD):=[(1000,.cells [dS s,.sl .int vars,.own 1001,.own 1002,dI turn]),(1001,.mp .int .int m),(1002,.mp .int .int a)]
def zhT(s:List (List Int))(vars:List Int)(turn i:Int)(m a:KV)(b:Bool)(m' a':KV):Prop:=
 (b=true→Fx (bH s vars) turn i m a m' a')∧(b=false→m'=m∧Lq (bH s vars) turn m a ((bH s vars).getD i.toNat []) a')
theorem FSq{n:Int}{m:KV}:PK .int .int n m=(uH .int .int n m).isSome:=rfl
theorem CH{s:List (List Int)}{vars:List Int}{turn i:Int}{m a0:KV}(ht:1≤turn)(hm:Ja (bH s vars) m)(hi:0≤i∧i<vars.length)
  (near:∀r∈bH s vars,∀n∈r,-50≤n∧n≤50) (len:∀r∈bH s vars,r.length≤101)
  (rec:∀(a:KV) (k:Int),left turn a<left turn a0→ZW turn a→0≤k→k<vars.length→∃b m' a',yH rN [.ptr 1000 0,dI k] (hpF s vars turn m a) (.bool b) (hpF s vars turn m' a')∧zhT s vars turn k m a b m' a'):
  ∀(e j:Nat),j+e=(s.getD (vars.getD i.toNat 0).toNat []).length→∀a,Lq (bH s vars) turn m a0 ((s.getD (vars.getD i.toNat 0).toNat []).take j) a→
   ∃b m' a' n,pA s vars i (λd h1=>d=.bool b∧h1=hpF s vars turn m' a') n (j:Int) s vars turn m a∧zhT s vars turn i m a0 b m' a':=by
 have hil:i.toNat<vars.length:=by omega
 have hrow:=FR (s:=s) hil;have hrl:i.toNat<(bH s vars).length:=by rw[WB];exact hil
 have hir:0≤i∧i<(bH s vars).length:=by rw[WB];exact hi
 have hnr:∀n∈s.getD (vars.getD i.toNat 0).toNat [],-50≤n∧n≤50:=λn hn=>by
  rw[←hrow,yE _ hrl]at hn
  exact near _ (List.getElem_mem hrl) n hn
 have hlr:(s.getD (vars.getD i.toNat 0).toNat []).length≤101:=by
  rw[←hrow,yE _ hrl];exact len _ (List.getElem_mem hrl)
 have hat:yO (.list .int) s ((yO .int vars i.toNat).toNat)=s.getD (vars.getD i.toNat 0).toNat []:=rfl;intro e
 induction e with
 |zero=>
  intro j hj a ha;refine⟨false,m,a,1,?_,λh=>(by cases h),λ_=>⟨rfl,?_⟩⟩
  ·rw[rG,hat,show j=(s.getD (vars.getD i.toNat 0).toNat []).length by omega,zX]
   exact⟨rfl,rfl⟩
  ·rw[hrow]
   rwa[show j=(s.getD (vars.getD i.toNat 0).toNat []).length by omega,List.take_length]at ha
 |succ e ih=>
  intro j hj a ha;generalize hR:s.getD (vars.getD i.toNat 0).toNat []=row at hrow hat hnr hlr hj ha ih
  have hjl:j<row.length:=by omega
  have hnj:=hnr _ (List.getElem_mem hjl);have hw:yU ((j:Int)+1)=((j+1:Nat):Int):=nX (by omega)
  have hst:row.take (j+1)=row.take j++[row[j]]:=(List.take_append_getElem hjl).symm;have hmem:row[j]∈(bH s vars).getD i.toNat []:=by rw[hrow];exact List.getElem_mem hjl
  by_cases hask:OO turn a row[j]
  ·obtain⟨b,m',a',n,h1,h2⟩:=ih (j+1) (by omega) a (by rw[hst];exact zde ha hask)
   refine⟨b,m',a',n+1,?_,h2⟩;rw[rG,hat,yC hjl,zY (t:=.int) hjl];refine⟨zM hjl,dt hask ?_⟩;rw[hw];exact h1
  ·have hal:a.length≤101:=ha.ask.length
   have hml:m.length≤101:=hm.length near;have hap:=ha.ask.put hnj ht;cases hg:uH .int .int row[j] m with
   |none=>
    refine⟨true,_,_,1,?_,λ_=>(zdc hm ha.ask ht hnj ⟨hi.1,hir.2,hmem⟩ hask hg).start ha.more,λh=>(by cases h)⟩
    rw[rG,hat,yC hjl,zY (t:=.int) hjl];refine⟨zM hjl,df hask ⟨decide_eq_true (by omega),?_⟩⟩
    rw[FSq,hg];exact⟨decide_eq_true (by omega),rfl,rfl⟩
   |some k=>
    have hk:=hm.ok _ _ hg;rw[WB]at hk
    have hlt:left turn (rD .int .int row[j] turn a)<left turn a0:=Nat.lt_of_lt_of_le (zjr hnj hask) (zfJ ha.more);obtain⟨b,m2,a2,hs,p1,p2⟩:=rec _ k hlt hap hk.1 hk.2.1;have hgd:kJ .int .int row[j] m=k:=by rw[kJ,hg];rfl
    cases b with
    |true=>
     have hfd:=p1 rfl;refine⟨true,_,_,1,?_,λ_=>(zdd ⟨hi.1,hir.2,hmem⟩ hask hg hfd).start ha.more,λh=>(by cases h)⟩
     rw[rG,hat,yC hjl,zY (t:=.int) hjl];refine⟨zM hjl,df hask ⟨decide_eq_true (by omega),?_⟩⟩
     rw[FSq,hg,hgd];have:=hfd.ok.length near;exact⟨true,m2,a2,hs,decide_eq_true (by omega),rfl,rfl⟩
    |false=>
     obtain⟨rfl,htr⟩:=p2 rfl;obtain⟨b,m',a',n,h1,h2⟩:=ih (j+1) (by omega) a2 (by rw[hst];exact zdf ha hg htr)
     refine⟨b,m',a',n+1,?_,h2⟩;rw[rG,hat,yC hjl,zY (t:=.int) hjl];refine⟨zM hjl,df hask ⟨decide_eq_true (by omega),?_⟩⟩
     rw[FSq,hg,hgd];refine⟨false,m2,a2,hs,?_⟩;rw[hw];exact h1
theorem Ss{s:List (List Int)}{vars:List Int}{turn:Int}(ht:1≤turn)(hv:∀v∈vars,0≤v∧v<s.length)(near:∀r∈bH s vars,∀n∈r,-50≤n∧n≤50)(len:∀r∈bH s vars,r.length≤101):
  ∀(d:Nat) (m a:KV) (i:Int),left turn a≤d→Ja (bH s vars) m→ZW turn a→0≤i→i<vars.length→
   ∃b m' a',yH rN [.ptr 1000 0,dI i] (hpF s vars turn m a) (.bool b) (hpF s vars turn m' a')∧zhT s vars turn i m a b m' a':=by
 intro d
 induction d with
 |zero=>
  intro m a i hd hm ha h0 h1;obtain⟨b,m',a',n,h2,h3⟩:=CH ht hm ⟨h0,h1⟩ near len (a0:=a) (λa k hl _ _ _=>absurd hl (by omega)) _ 0 (Nat.zero_add _) a (CA ha)
  refine⟨b,m',a',Ze s vars turn m a i λ_ _=> ?_,h3⟩
  rw[Z0];exact⟨rS.2 (by omega),rS.2 (by have:=hv (yO .int vars i.toNat) (by rw[atN (t:=.int) (show i.toNat<vars.length by omega)];exact List.getElem_mem _);omega),n,h2⟩
 |succ d ih=>
  intro m a i hd hm ha h0 h1;obtain⟨b,m',a',n,h2,h3⟩:=CH ht hm ⟨h0,h1⟩ near len (a0:=a) (λa' k hl hok hk0 hk1=>ih m a' k (by omega) hm hok hk0 hk1) _ 0 (Nat.zero_add _) a (CA ha)
  refine⟨b,m',a',Ze s vars turn m a i λ_ _=> ?_,h3⟩
  rw[Z0];exact⟨rS.2 (by omega),rS.2 (by have:=hv (yO .int vars i.toNat) (by rw[atN (t:=.int) (show i.toNat<vars.length by omega)];exact List.getElem_mem _);omega),n,h2⟩
theorem zbp{α:Type}{l:List α}(h:l.Nodup){i j:Nat}(hi:i<l.length)(hj:j<l.length)(e:l[i]=l[j]):i=j:=by
 rcases Nat.lt_trichotomy i j with h1|h1|h1
 ·exact absurd e (List.pairwise_iff_getElem.1 h i j hi hj h1)
 ·exact h1
 ·exact absurd e.symm (List.pairwise_iff_getElem.1 h j i hj hi h1)
theorem LD{c:zE}(hk:c.kind=4){vs:List Int}:vH c vs=decide (sD c vs).Nodup:=by
 rw[vH];simp[hk]
theorem zdm{c:zE}{s:List (List Int)}(hc:tP c s.length)(hk:c.kind=4)(hnd:c.vars.Nodup)(hf:zT s=false){v n:Int}(hv:v∈c.vars)(hn:n∈s.getD v.toNat []):
  May (vH c) s v.toNat n↔∃σ:Nat→Int,(∀j,j<c.vars.length→σ j∈(bH (s.set v.toNat [n]) c.vars).getD j [])∧∀j k,j<c.vars.length→k<c.vars.length→σ j=σ k→j=k:=by
 have hvv:=hc.vars v hv;have hvl:v.toNat<s.length:=by omega
 have hset:∀u:Nat,(s.set v.toNat [n]).getD u []=if u=v.toNat then[n]else s.getD u []:=λu=>by
  rw[List.getD_eq_getElem?_getD,List.getD_eq_getElem?_getD,List.getElem?_set]
  by_cases e:u=v.toNat
  ·rw[if_pos e.symm,if_pos e,if_pos (by omega)];rfl
  ·rw[if_neg (λx=>e x.symm),if_neg e]
 have hrow:∀(j:Nat) (hj:j<c.vars.length),(bH (s.set v.toNat [n]) c.vars).getD j []=if c.vars[j].toNat=v.toNat then[n]else s.getD c.vars[j].toNat []:=λj hj=>by
  rw[FR hj,hset,yE _ hj]
 constructor
 ·rintro⟨vs,h1,h2,h3⟩
  refine⟨λj=>vs.getD (c.vars.getD j 0).toNat 0,λj hj=> ?_,λj k hj hk2 e=> ?_⟩
  ·rw[hrow j hj]
   show vs.getD (c.vars.getD j 0).toNat 0∈_
   rw[yE _ hj];split
   ·rename_i e;rw[e,h2];exact List.mem_singleton.2 rfl
   ·have:=hc.vars _ (List.getElem_mem hj)
    exact h1.2 _ (by omega)
  ·rw[LD hk]at h3
   have h4:=of_decide_eq_true h3;refine zbp h4 (by rw[iH];exact hj) (by rw[iH];exact hk2) ?_
   rw[Qp hj,Qp hk2];simpa only[yE _ hj,yE _ hk2]using e
 ·rintro⟨σ,h1,h2⟩
  obtain⟨ps,hp⟩:=QL hf;have hg:∀u:Nat,u<s.length→((List.range s.length).map λu:Nat=>if(u:Int)∈c.vars then σ (c.vars.idxOf (u:Int))else ps.getD u 0).getD u 0=if(u:Int)∈c.vars then σ (c.vars.idxOf (u:Int))else ps.getD u 0:=λu hu=>Sq hu
  have hix:∀(j:Nat) (hj:j<c.vars.length),c.vars.idxOf c.vars[j]=j:=λj hj=>by
   have h5:c.vars.idxOf c.vars[j]<c.vars.length:=List.idxOf_lt_length_of_mem (List.getElem_mem hj);exact zbp hnd h5 hj (List.getElem_idxOf h5)
  have hat:∀(j:Nat) (hj:j<c.vars.length),((List.range s.length).map λu:Nat=>if(u:Int)∈c.vars then σ (c.vars.idxOf (u:Int))else ps.getD u 0).getD c.vars[j].toNat 0=σ j:=λj hj=>by
   have:=hc.vars _ (List.getElem_mem hj);rw[hg _ (by omega),Int.toNat_of_nonneg this.1,if_pos (List.getElem_mem hj),hix j hj]
  refine⟨(List.range s.length).map λu:Nat=>if(u:Int)∈c.vars then σ (c.vars.idxOf (u:Int))else ps.getD u 0,⟨by simp,λu hu=> ?_⟩,?_,?_⟩
  ·rw[hg u hu]
   split
   ·rename_i e
    obtain⟨j,hj,e2⟩:=List.getElem_of_mem e;rw[←e2,hix j hj];have h5:=h1 j hj;rw[hrow j hj,e2,Int.toNat_natCast]at h5
    split at h5
    ·rename_i e3;rw[List.mem_singleton.1 h5,e3];exact hn
    ·exact h5
   ·exact hp.2 u hu
  ·obtain⟨j,hj,rfl⟩:=List.getElem_of_mem hv
   rw[hat j hj];have h5:=h1 j hj;rw[hrow j hj,if_pos rfl]at h5
   exact List.mem_singleton.1 h5
  ·rw[LD hk]
   refine decide_eq_true (List.pairwise_iff_getElem.2 λi j hi hj hij e=> ?_)
   rw[iH]at hi hj
   rw[Qp hi,Qp hj,hat i hi,hat j hj]at e
   have:=h2 i j hi hj e;omega
theorem zbq(s:List (List Int)):yH rU [dS s] [] (.own 3000) [(3000,.row 40 (.list .int) s)]:=
 YA s λok _=>by
  rw[Xp];intro b hb;refine zA (λe=> ?_) λe=>⟨?_,?_⟩
  ·rw[hb e];exact⟨rfl,rfl⟩
  ·refine xY (t:=.list .int) ?_
   have:=(YN (t:=.list .int) (L5 ok)).1;show(0+s.length)*24≤_
   have h8:s.length*24≤140737488355328:=this;omega
  ·exact⟨rfl,rfl⟩
theorem Jj(c:zE)(s:List (List Int)):yH bR [dC c,dS s] [] (.clo qT none [.iptr [dS s] 0,.iptr [.int .i64 c.kind,.sl .int c.vars,.sl .int c.consts,.int .i64 c.n,.sl (.list .int) c.rows,.sl .lit c.lits] 0]) []:=
 Lv c s λ_ _=>by
  rw[Je];exact⟨rfl,rfl⟩
theorem N1{c:zE}{s:List (List Int)}(hc:tP c s.length)(hk:c.kind=4)(hnd:c.vars.Nodup)(hs:fB s s.length)(hf:zT s=false){v n:Int}(hv:v∈c.vars)(hn:n∈s.getD v.toNat []):
  tU qT [dI v,dI n,.iptr [dS s] 0,.iptr [.int .i64 c.kind,.sl .int c.vars,.sl .int c.consts,.int .i64 c.n,.sl (.list .int) c.rows,.sl .lit c.lits] 0] (dB (mayB (vH c) s v.toNat n)):=
 Oo v n s c λok=>by
  have hvv:=hc.vars v hv;have hm4:=hc.many;have hmay:=zdm hc hk hnd hf hv hn
  have hset:∀u:Nat,(s.set v.toNat [n]).getD u []=if u=v.toNat then[n]else s.getD u []:=λu=>by
   rw[List.getD_eq_getElem?_getD,List.getD_eq_getElem?_getD,List.getElem?_set]
   by_cases e:u=v.toNat
   ·rw[if_pos e.symm,if_pos e,if_pos (by omega)];rfl
   ·rw[if_neg (λx=>e x.symm),if_neg e]
  have near:∀r∈bH (s.set v.toNat [n]) c.vars,∀x∈r,-50≤x∧x≤50:=λr hr x hx=>by
   obtain⟨u,hu,rfl⟩:=List.mem_map.1 hr;rw[hset]at hx
   split at hx
   ·rw[List.mem_singleton.1 hx];exact hs.near _ n hn
   ·exact hs.near _ x hx
  have len:∀r∈bH (s.set v.toNat [n]) c.vars,r.length≤101:=λr hr=>by
   obtain⟨u,hu,rfl⟩:=List.mem_map.1 hr;rw[hset];split
   ·show 1≤101;decide
   ·exact hs.row _
  have hv2:∀u∈c.vars,0≤u∧u<(s.set v.toNat [n]).length:=λu hu=>by rw[List.length_set];exact hc.vars u hu
  rw[NY];refine⟨s,zbq s,rS.2 hvv,?_⟩;show∃n0,pZ c _ n0 0 ([]:KV) ([]:KV) (s.set v.toNat [n]) c.vars 0
  refine up (I:=λn0 u (a:KV×KV)=>pZ c _ n0 u a.1 a.2 (s.set v.toNat [n]) c.vars u) (a:=(([]:KV),([]:KV))) 0 c.vars.length rfl (Nat.zero_le _) (by omega)
   (λk a=>Ja (bH (s.set v.toNat [n]) c.vars) a.1∧(a.1.map Prod.snd).Perm (upI k)∧ZW (k:Int) a.2) ⟨zhP,List.Perm.refl _,zfK⟩ λn0 k a _ hk2 ha hnx=> ?_
  obtain⟨m,a⟩:=a;obtain⟨h1,h2,h3⟩:=ha;show pZ c _ (n0+1) (k:Int) m a (s.set v.toNat [n]) c.vars (k:Int)
  rw[RA]
  by_cases h:k<c.vars.length
  ·rw[yC h]
   have hw:yU ((k:Int)+1)=((k+1:Nat):Int):=nX (by omega)
   have h3':ZW ((k+1:Nat):Int) a:=h3.later (by omega)
   obtain⟨b,m',a',q1,q2,q3⟩:=Ss (turn:=((k+1:Nat):Int)) (by omega) hv2 near len _ m a (k:Int) (Nat.le_refl _) h1 h3' (by omega) (by omega)
   rw[hw];refine⟨b,m',a',q1,?_⟩;cases b with
   |false=>
    refine bnt rfl ?_;obtain⟨_,htr⟩:=q3 rfl;rw[Int.toNat_natCast]at htr
    have hno:=zdg h1 h2 (h3.none (by omega) (by omega)) htr
    rw[zc9.2];intro hy;obtain⟨σ,y1,y2⟩:=hmay.1 hy;exact hno ⟨σ,λj hj=>y1 j (by omega),λj k2 hj hk3=>y2 j k2 (by omega) (by omega)⟩
   |true=>
    refine bnf rfl ?_;have hfd:=q2 rfl;have:=hnx h (m',a') ⟨hfd.ok,hfd.vals.trans ((h2.cons _).trans zhQ),hfd.ask⟩;rw[hw]at this
    exact this
  ·have hk':k=c.vars.length:=by omega
   subst hk';rw[zX,oY.2];have hall:=zhR h1 (by rw[WB];exact h2)
   rw[WB]at hall
   exact hmay.2 hall
abbrev MV:=List ((Int×Int)×Int)
structure Ub (nv:Nat)(m:MV):Prop where
 nodup:(m.map Prod.fst).Nodup
 near:∀x∈m.map Prod.fst,(0≤x.1∧x.1<(nv:Int))∧-50≤x.2∧x.2≤50
 one:∀(x:Int×Int) (k:Int),uH (.pr .int .int) .int x m=some k→k=1
theorem zfR{nv:Nat}:Ub nv []:=⟨List.nodup_nil,λn hn=>(by cases hn),λn t h=>(by cases h)⟩
theorem Ub.length{nv:Nat}{m:MV}(h:Ub nv m):m.length≤nv*101:=by
 have h1:((m.map Prod.fst).map λx=>x.1*101+x.2+50).Nodup:=Py h.nodup λx hx y hy e=>by
  have a:=h.near x hx;have b:=h.near y hy;have e1:x.1=y.1:=by omega
  exact Prod.ext e1 (by omega)
 have:=YE h1 (lo:=0) (n:=nv*101) λx hx=>by
  obtain⟨y,hy,rfl⟩:=List.mem_map.1 hx;have a:=h.near y hy;omega
 rwa[List.length_map,List.length_map]at this
theorem Ub.put{nv:Nat}{m:MV}(h:Ub nv m){x:Int×Int}(hx:(0≤x.1∧x.1<(nv:Int))∧-50≤x.2∧x.2≤50):Ub nv (rD (.pr .int .int) .int x 1 m):=by
 refine⟨Fv (kt:=.pr .int .int) (vt:=.int) Px h.nodup,λy hy=> ?_,λy k hy=> ?_⟩
 ·rcases(Fw (kt:=.pr .int .int) (vt:=.int) Px m).1 hy with rfl|hy
  ·exact hx
  ·exact h.near y hy
 ·by_cases e:y=x
  ·subst e
   rw[WA (kt:=.pr .int .int) (vt:=.int) Px]at hy
   exact(Option.some.inj hy).symm
  ·rw[YD (kt:=.pr .int .int) (vt:=.int) Px e]at hy;exact h.one y k hy
def UD(vars vs:List Int)(m:MV):MV:=vars.foldl (λm v=>rD (.pr .int .int) .int (v,vs.getD v.toNat 0) 1 m) m
theorem QU{vars vs:List Int}{m:MV}{v:Int}:UD (vars++[v]) vs m=rD (.pr .int .int) .int (v,vs.getD v.toNat 0) 1 (UD vars vs m):=by rw[UD,List.foldl_append];rfl
theorem zdn{vs:List Int}{m:MV}{x:Int×Int}(vars:List Int):x∈(UD vars vs m).map Prod.fst↔x∈m.map Prod.fst∨∃v∈vars,x=(v,vs.getD v.toNat 0):=by
 refine gU (C:=λvars=>x∈(UD vars vs m).map Prod.fst↔x∈m.map Prod.fst∨∃v∈vars,x=(v,vs.getD v.toNat 0)) (by simp[UD]) (λl a ih=> ?_) vars
 rw[QU,Fw (kt:=.pr .int .int) (vt:=.int) Px,ih];constructor
 ·rintro(h|h|⟨v,hv,h⟩)
  ·exact .inr ⟨a,by simp,h⟩
  ·exact .inl h
  ·exact .inr ⟨v,by simp[hv],h⟩
 ·rintro(h|⟨v,hv,h⟩)
  ·exact .inr (.inl h)
  ·rcases List.mem_append.1 hv with hv|hv
   ·exact .inr (.inr ⟨v,hv,h⟩)
   ·rw[List.mem_singleton.1 hv]at h;exact .inl h
theorem CI{nv:Nat}{vs:List Int}{m:MV}(h:Ub nv m)(hn:∀u:Nat,-50≤vs.getD u 0∧vs.getD u 0≤50)(vars:List Int):(∀v∈vars,0≤v∧v<(nv:Int))→Ub nv (UD vars vs m):=by
 refine gU (C:=λvars=>(∀v∈vars,0≤v∧v<(nv:Int))→Ub nv (UD vars vs m)) (λ_=>h) (λl a ih hv=> ?_) vars
 rw[QU];exact(ih λv h=>hv v (by simp[h])).put ⟨hv a (by simp),hn _⟩
abbrev hpW(c:zE)(s:List (List Int))(vars vs:List Int)(m:MV):List (Nat×yD):=[(1000,.cells [.int .i64 c.kind,.sl .int c.vars,.sl .int c.consts,.int .i64 c.n,.sl (.list .int) c.rows,.sl .lit c.lits,dS s,.sl .int vars,.own 2000,.own 1001]),(2000,.row 3 .int vs),(1001,.mp (.pr .int .int) .int m)]
structure zhU (c:zE)(s:List (List Int))(vars r vs:List Int)(m:MV)(vs':List Int)(m':MV):Prop where
 len:vs'.length=vs.length
 near:∀u:Nat,-50≤vs'.getD u 0∧vs'.getD u 0≤50
 same:∀u:Nat,(∀v∈r,v.toNat≠u)→vs'.getD u 0=vs.getD u 0
 ok:Ub s.length m'
 mem:∀x:Int×Int,x∈m'.map Prod.fst↔x∈m.map Prod.fst∨Ls c s vars r vs x
theorem zfS{c:zE}{s:List (List Int)}{vars:List Int}(hs:fB s s.length)(hnv:s.length≤6)(hv:∀v∈vars,0≤v∧v<s.length)(hnd:vars.Nodup){i:Nat}(hi:i<vars.length){vs0:List Int}{m0:MV}(hl0:vs0.length=s.length)
  (rec:∀(vs:List Int) (m:MV),vs.length=s.length→(∀u:Nat,-50≤vs.getD u 0∧vs.getD u 0≤50)→Ub s.length m→∃vs' m',yH xA [.ptr 1000 0,dI ((i+1:Nat):Int)] (hpW c s vars vs m) (.tup []) (hpW c s vars vs' m')∧zhU c s vars (vars.drop (i+1)) vs m vs' m'):
  ∀(e j:Nat),j+e=(s.getD vars[i].toNat []).length→∀(vs:List Int) (m:MV),vs.length=s.length→(∀u:Nat,-50≤vs.getD u 0∧vs.getD u 0≤50)→(∀u:Nat,(∀v∈vars.drop i,v.toNat≠u)→vs.getD u 0=vs0.getD u 0)→Ub s.length m→
   (∀x:Int×Int,x∈m.map Prod.fst↔x∈m0.map Prod.fst∨∃n∈(s.getD vars[i].toNat []).take j,Ls c s vars (vars.drop (i+1)) (vs0.set vars[i].toNat n) x)→
   ∃vs' m' n,mP s vars (i:Int) (λd h1=>d=.tup []∧h1=hpW c s vars vs' m') n (j:Int) c.kind c.vars c.consts c.n c.rows c.lits s vars m vs∧zhU c s vars (vars.drop i) vs0 m0 vs' m':=by
 have hvi:=hv _ (List.getElem_mem hi);have hdr:vars.drop i=vars[i]::vars.drop (i+1):=List.drop_eq_getElem_cons hi;have hnd2:(vars[i]::vars.drop (i+1)).Nodup:=by rw[←hdr];exact hnd.sublist (List.drop_sublist ..)
 rw[List.nodup_cons]at hnd2
 have hrow:=hs.row vars[i].toNat;have hnr:=hs.near vars[i].toNat;have hat:yO (.list .int) s ((yO .int vars (i:Int).toNat).toNat)=s.getD vars[i].toNat []:=by rw[zY (t:=.int) hi];rfl
 have hpc:∀x,Ls c s vars (vars.drop i) vs0 x↔∃n∈s.getD vars[i].toNat [],Ls c s vars (vars.drop (i+1)) (vs0.set vars[i].toNat n) x:=λx=>by
  rw[hdr];exact zfN hvi.1 (by omega) (λu hu=>(hv u (List.mem_of_mem_drop hu)).1) hnd2.1
 generalize hR:s.getD vars[i].toNat []=row at hrow hnr hat hpc
 intro e
 induction e with
 |zero=>
  intro j hj vs m hl hnear hsame hok hmem;refine⟨vs,m,1,?_,hl.trans hl0.symm,hnear,hsame,hok,λx=> ?_⟩
  ·rw[bG,hat,show j=row.length by omega,zX]
   exact⟨rfl,rfl⟩
  ·rw[hmem x,show j=row.length by omega,List.take_length,hpc x]
 |succ e ih=>
  intro j hj vs m hl hnear hsame hok hmem;have hjl:j<row.length:=by omega
  have hvl:vars[i].toNat<vs.length:=by omega
  have hw:yU ((j:Int)+1)=((j+1:Nat):Int):=nX (by omega)
  have hwi:yU ((i:Int)+1)=((i+1:Nat):Int):=nX (by
   have:=YE hnd (lo:=0) (n:=s.length) λx hx=>by have:=hv x hx;omega
   omega)
  have hset:∀u:Nat,(vs.set vars[i].toNat row[j]).getD u 0=if u=vars[i].toNat then row[j]else vs.getD u 0:=λu=>rO hvl
  obtain⟨vs1,m1,h1,h2⟩:=rec (vs.set vars[i].toNat row[j]) m (by rw[List.length_set];exact hl) (λu=>by
   rw[hset u];split
   ·exact hnr _ (List.getElem_mem hjl)
   ·exact hnear u) hok
  obtain⟨vs',m',n,h3,h4⟩:=ih (j+1) (by omega) vs1 m1 (by rw[h2.len,List.length_set];exact hl) h2.near (λu hu=>by
   rw[h2.same u λv hv=>hu v (by rw[hdr];exact List.mem_cons_of_mem _ hv),hset u,if_neg λe=>hu vars[i] (by rw[hdr];exact List.mem_cons_self ..) e.symm]
   exact hsame u hu) h2.ok λx=>by
    have hp:Ls c s vars (vars.drop (i+1)) (vs.set vars[i].toNat row[j]) x↔Ls c s vars (vars.drop (i+1)) (vs0.set vars[i].toNat row[j]) x:=by
     refine zdl (by rw[List.length_set,List.length_set,hl,hl0]) λu hu=> ?_
     rw[hset u,rO (by omega)]
     split
     ·rfl
     ·rename_i e
      refine hsame u λv hv=> ?_
      rw[hdr]at hv
      rcases List.mem_cons.1 hv with rfl|hv
      ·exact λe2=>e e2.symm
      ·exact hu v hv
    rw[h2.mem x,hmem x,hp,←List.take_append_getElem hjl];simp only[List.mem_append,List.mem_singleton];constructor
    ·rintro((h|⟨n,hn,h⟩)|h)
     ·exact .inl h
     ·exact .inr ⟨n,.inl hn,h⟩
     ·exact .inr ⟨_,.inr rfl,h⟩
    ·rintro(h|⟨n,hn|hn,h⟩)
     ·exact .inl (.inl h)
     ·exact .inl (.inr ⟨n,hn,h⟩)
     ·rw[hn]at h;exact .inr h
  refine⟨vs',m',n+1,?_,h4⟩;rw[bG,hat,yC hjl,zY (t:=.int) hi,zY (t:=.int) hjl,hwi,hw];exact⟨zM hjl,zM hi,rS.2 (by omega),vs1,m1,h1,h3⟩
theorem RB{c:zE}{s:List (List Int)}{vars:List Int}(hc:tP c s.length)(hs:fB s s.length)(hv:∀v∈vars,0≤v∧v<s.length)(hnd:vars.Nodup):
  ∀(d i:Nat),i+d=vars.length→∀(vs:List Int) (m:MV),vs.length=s.length→(∀u:Nat,-50≤vs.getD u 0∧vs.getD u 0≤50)→Ub s.length m→∃vs' m',yH xA [.ptr 1000 0,dI (i:Int)] (hpW c s vars vs m) (.tup []) (hpW c s vars vs' m')∧zhU c s vars (vars.drop i) vs m vs' m':=by
 have hnv:=hc.nv6
 have hvl:vars.length≤6:=by
  have:=YE hnd (lo:=0) (n:=s.length) λx hx=>by have:=hv x hx;omega
  omega
 intro d
 induction d with
 |zero=>
  intro i hi vs m hl hnear hok
  have hgv:Qo vs s.length:=⟨hl,λn hn=>by
   obtain⟨u,hu,rfl⟩:=List.getElem_of_mem hn;have:=hnear u
   rwa[yE _ hu]at this⟩
  have hd:vars.drop i=[]:=List.drop_eq_nil_of_le (by omega)
  have hpn:∀x,Ls c s vars (vars.drop i) vs x↔vH c vs=true∧∃v∈vars,x=(v,vs.getD v.toNat 0):=λx=>by rw[hd];exact zhS
  cases ht:vH c vs with
  |false=>
   refine⟨vs,m,iT c.kind c.vars c.consts c.n c.rows c.lits s vars vs m (i:Int) λ_ _=> ?_,rfl,hnear,λ_ _=>rfl,hok,λx=> ?_⟩
   ·rw[fm]
    refine dt (by omega) (zH (Y5 hc hgv) (bf ht ?_))
    exact⟨rfl,rfl⟩
   ·rw[hpn,ht];simp
  |true=>
   refine⟨vs,UD vars vs m,iT c.kind c.vars c.consts c.n c.rows c.lits s vars vs m (i:Int) λ_ _=> ?_,rfl,hnear,λ_ _=>rfl,CI hok hnear vars hv,λx=> ?_⟩
   ·rw[fm]
    refine dt (by omega) (zH (Y5 hc hgv) (bt ht ?_))
    refine up (I:=λn v a=>mO c.kind c.vars c.consts c.n c.rows c.lits s vars vs _ n v a) 0 vars.length rfl (Nat.zero_le _) (by omega) (λk a=>a=UD (vars.take k) vs m) rfl λn k a _ hk ha hn=> ?_
    subst ha;rw[UC]
    by_cases h:k<vars.length
    ·have hvk:=hv _ (List.getElem_mem h)
     have hml:=(CI hok hnear (vars.take k) λv hv2=>hv v (List.mem_of_mem_take hv2)).length
     rw[yC h,zY (t:=.int) h];refine⟨zM h,rS.2 (by omega),decide_eq_true (by omega),hn h _ ?_⟩
     rw[←List.take_append_getElem h,QU];rfl
    ·have hk':k=vars.length:=by omega
     subst hk';rw[zX,List.take_length];exact⟨rfl,rfl⟩
   ·rw[hpn,ht,zdn];simp
 |succ d ih=>
  intro i hi vs m hl hnear hok;have hil:i<vars.length:=by omega
  have hvi:=hv _ (List.getElem_mem hil);obtain⟨vs',m',n,h1,h2⟩:=zfS (c:=c) (m0:=m) hs hnv hv hnd hil hl (λvs m a b c=>ih (i+1) (by omega) vs m a b c) _ 0 (Nat.zero_add _) vs m hl hnear (λ_ _=>rfl) hok λx=>by simp
  refine⟨vs',m',iT c.kind c.vars c.consts c.n c.rows c.lits s vars vs m (i:Int) λ_ _=> ?_,h2⟩
  rw[fm];refine df (by omega) ⟨zM hil,?_,n,h1⟩
  rw[zY (t:=.int) hil];exact rS.2 hvi
def zhV(c:zE)(s:List (List Int))(m:MV):Prop:=Ub s.length m∧∀v n:Int,(v,n)∈m.map Prod.fst↔v∈yM c s.length∧May (vH c) s v.toNat n
theorem FT{c:zE}{s:List (List Int)}(hc:tP c s.length)(hs:fB s s.length)(hf:zT s=false):
  ∃vs m,zhV c s m∧yH gS [dC c,dS s] [] (.clo xC none [.iptr [.iptr [.int .i64 c.kind,.sl .int c.vars,.sl .int c.consts,.int .i64 c.n,.sl (.list .int) c.rows,.sl .lit c.lits,dS s,.sl .int (yM c s.length),.sl .int vs,.mp (.pr .int .int) .int m] 0] 0]) []:=by
 have hnv:=hc.nv6
 have hz:∀u:Nat,(List.replicate s.length (0:Int)).getD u 0=0:=λu=>by
  by_cases h:u<s.length
  ·rw[yE _ (by rw[List.length_replicate];exact h),List.getElem_replicate]
  ·exact qJ (by rw[List.length_replicate];omega)
 obtain⟨vs,m,h1,h2⟩:=RB (c:=c) (s:=s) (vars:=yM c s.length) hc hs (λv hv=>lY v hv) V8 _ 0 (Nat.zero_add _) (List.replicate s.length 0) [] (List.length_replicate ..) (λu=>by rw[hz u];decide) zfR
 refine⟨vs,m,⟨h2.ok,λv n=> ?_⟩,I2 c s λok _=> ?_⟩
 ·rw[h2.mem,List.drop_zero,zbn hc hf (List.length_replicate ..)];simp
 ·rw[FK]
  refine zH (UA hc) ?_;rw[Int.toNat_natCast];have hr:wN .int s.length=true:=xY (t:=.int) (by show _*8≤_;omega)
  have h0:(0:Int)≤(s.length:Int):=by omega
  have hE:∃w2:List Int,∃w3:List ((Int×Int)×Int),yH xA [.ptr 1000 0,dI 0] [(1000,.cells [.int .i64 c.kind,.sl .int c.vars,.sl .int c.consts,.int .i64 c.n,.sl (.list .int) c.rows,.sl .lit c.lits,.sl (.list .int) s,.sl .int (yM c s.length),.own 2000,.own 1001]),(2000,.row 3 .int (List.replicate s.length (Ty.dflt .int))),(1001,.mp (.pr .int .int) .int ([]:List ((Int×Int)×Int)))] (.tup []) [(1000,.cells [.int .i64 c.kind,.sl .int c.vars,.sl .int c.consts,.int .i64 c.n,.sl (.list .int) c.rows,.sl .lit c.lits,.sl (.list .int) s,.sl .int (yM c s.length),.own 2000,.own 1001]),(2000,.row 3 .int w2),(1001,.mp (.pr .int .int) .int w3)]∧
    (D.clo xC none [.iptr [.iptr [.int .i64 c.kind,.sl .int c.vars,.sl .int c.consts,.int .i64 c.n,.sl (.list .int) c.rows,.sl .lit c.lits,.sl (.list .int) s,.sl .int (yM c s.length),.sl .int w2,.mp (.pr .int .int) .int w3] 0] 0]=D.clo xC none [.iptr [.iptr [.int .i64 c.kind,.sl .int c.vars,.sl .int c.consts,.int .i64 c.n,.sl (.list .int) c.rows,.sl .lit c.lits,dS s,.sl .int (yM c s.length),.sl .int vs,.mp (.pr .int .int) .int m] 0] 0]∧([]:List (Nat×yD))=[]):=⟨vs,m,h1,rfl,rfl⟩
  repeat'(first|exact hE|exact hr|exact h0|exact rfl|apply And.intro)
theorem Jk{c:zE}{s:List (List Int)}{vs:List Int}{m:MV}(h:zhV c s m){v n:Int}(hv:v∈yM c s.length){ks:List D}:
  tU xC [dI v,dI n,.iptr [.iptr [.int .i64 c.kind,.sl .int c.vars,.sl .int c.consts,.int .i64 c.n,.sl (.list .int) c.rows,.sl .lit c.lits,dS s,.sl .int (yM c s.length),.sl .int vs,.mp (.pr .int .int) .int m] 0] 0] (dB (mayB (vH c) s v.toNat n)):=
 Lw v n c s (yM c s.length) vs m λok=>by
  rw[Jg];show dB _=dB _
  congr 1
  have hg:kJ (.pr .int .int) .int (v,n) m=1↔(v,n)∈m.map Prod.fst:=by
   rw[Xw (kt:=.pr .int .int) (vt:=.int) Px];constructor
   ·intro e
    rw[kJ]at e
    cases e2:uH (.pr .int .int) .int (v,n) m with
    |none=>rw[e2]at e;exact absurd e (by decide)
    |some k=>exact⟨k,rfl⟩
   ·rintro⟨k,e⟩
    rw[kJ,e,h.1.one _ _ e];rfl
  rw[Bool.eq_iff_iff,decide_eq_true_iff,oY];exact hg.trans ((h.2 v n).trans ⟨λh=>h.2,λh=>⟨hv,h⟩⟩)
theorem zbr:∀ {l l':List Int},l'.Nodup→l'⊆l→¬l.Nodup→l'.length<l.length
 |[],l',_,_,h=>absurd List.nodup_nil h
 |x::l,l',h1,h2,h3=>by
  by_cases hx:x∈l
  ·have:l'.length≤l.length:=h1.length_le_of_subset λy hy=>by
    rcases List.mem_cons.1 (h2 hy)with rfl|h
    ·exact hx
    ·exact h
   rw[List.length_cons];omega
  ·have h4:¬l.Nodup:=λh=>h3 (List.nodup_cons.2 ⟨hx,h⟩)
   have h5:=zbr (l:=l) (l':=l'.erase x) (h1.erase x) (λy hy=>by
    have hy2:=List.mem_of_mem_erase hy;rcases List.mem_cons.1 (h2 hy2)with rfl|h
    ·exact absurd hy (by rw[h1.mem_erase_iff];exact λe=>e.1 rfl)
    ·exact h) h4
   have h6:l'.length≤(l'.erase x).length+1:=by rw[List.length_erase];split<;>omega
   rw[List.length_cons];omega
theorem Dz{l:List Int}:decide ((Lib.compact (ZU l)).length<l.length)= !decide l.Nodup:=by
 have hs:=QI (zeJ l);have hn:(Lib.compact (ZU l)).Nodup:=hs.imp fun {a b} h=>by omega
 have hm:∀x,x∈Lib.compact (ZU l)↔x∈l:=λx=>by rw[QH];exact(List.mergeSort_perm _ _).mem_iff
 by_cases h:l.Nodup
 ·rw[decide_eq_true h]
  exact decide_eq_false (by have:=h.length_le_of_subset λx hx=>(hm x).2 hx;omega)
 ·rw[decide_eq_false h]
  exact decide_eq_true (zbr hn (λx hx=>(hm x).1 hx) h)
theorem I9(l:List Int):tU ZB [.sl .int l] (dB (!decide l.Nodup)):=
 Jd l λok=>by
  rw[I3];refine⟨_,NQ l,_,K4 _,_,Sn _,?_⟩;rw[zcS,Dz]
theorem Ha{v n:Int}{sc:List Int}{g:FuncId}{caps:List D}(he:ZF g){b:Bool}(hg:eB sc v=true→tU g (dI v::dI n::caps) (dB b))(hb:eB sc v=false→b=true):
  tU qR [dI v,dI n,.iptr [.sl .int sc] 0,.iptr [.clo g none caps] 0] (dB b):=
 XJ.iclo (pre:=[_,_,_]) (Jf v n sc g caps λok=>by
  rw[I4];refine zH (tF (a:=v)) ?_;show zP (!eB sc v) _ _
  refine zA (λe=> ?_) λe=>⟨he,?_⟩
  ·rw[hb (by simpa using e)]
  ·exact zH (hg (by simpa using e)) rfl)
theorem FU{c:zE}{nv v:Nat}(hv:v<nv):eB (yM c nv) (v:Int)=ET c v:=by
 rw[Bool.eq_iff_iff,jA,nU];exact⟨λh=>h.2,λh=>⟨by omega,h⟩⟩
theorem FV{c:zE}{nv:Nat}(hc:tP c nv)(hl:c.lits=[]){v:Int}(h:v∈yM c nv):v∈c.vars:=by
 rcases zhN (nU.1 h).2 with h|⟨l,h,_⟩
 ·exact h
 ·rw[hl]at h;cases h
theorem FW{c:zE}{nv:Nat}(hc:tP c nv)(hk:c.kind≤8):c.lits=[]:=by
 have hf:=hc.form;have h1:=hc.kind.1;have:c.kind=1∨c.kind=2∨c.kind=3∨c.kind=4∨c.kind=5∨c.kind=6∨c.kind=7∨c.kind=8:=by omega
 rcases this with e|e|e|e|e|e|e|e<;>simp[fM,e]at hf<;>simp_all
theorem zbs{c:zE}{nv:Nat}(hc:tP c nv)(h:yM c nv=[]):tP c 0∧c.vars=[]∧c.lits=[]:=by
 have hv:c.vars=[]:=List.eq_nil_iff_forall_not_mem.2 λv hv=>by
  have h1:=hc.vars v hv;have:v∈yM c nv:=nU.2 ⟨h1,zeK hv⟩;rw[h]at this;cases this
 have hl:c.lits=[]:=List.eq_nil_iff_forall_not_mem.2 λl hl=>by
  have h1:=(nT.1 (hc.lits l hl)).1;have:l.var∈yM c nv:=nU.2 ⟨h1,zeL hl⟩;rw[h]at this;cases this
 exact⟨⟨Nat.zero_le _,hc.kind,hc.many,hc.form,λv h=>(by rw[hv]at h;cases h),hc.consts,hc.n,hc.rows,λl h=>(by rw[hl]at h;cases h)⟩,hv,hl⟩
theorem bI{c:zE}{s:List (List Int)}(hc:tP c s.length)(hs:fB s s.length):tU lH [dC c,dS s] (dS (yQ c s)):=
 FJ c s λok=>by
  rw[Dy];refine zH (vD s) (zA (λe=> ?_) λe=> ?_)
  ·rw[yQ,if_pos e]
   exact zH (ZS s) rfl
  have hf:zT s=false:=e;rw[yQ,if_neg (by rw[hf];decide)]
  refine zH (UA hc) ?_
  by_cases h0:yM c s.length=[]
  ·obtain⟨hc0,_⟩:=zbs hc h0
   refine dt (by rw[h0];rfl) (zH (Y5 (vs:=[]) hc0 ⟨rfl,λn hn=>(by cases hn)⟩) (zA (λe=> ?_) λe=> ?_))
   ·rw[if_pos h0,if_pos e];exact zH (ZS s) rfl
   ·rw[if_pos h0,if_neg (by rw[e];decide)];exact zH (dD s) rfl
  refine df (by
   have:(yM c s.length).length≠0:=λe=>h0 (List.length_eq_zero_iff.1 e)
   omega) ?_
  rw[if_neg h0]
  have key:∀ {g:FuncId} {caps:List D},ZF g→(∀(v n:Int),v∈yM c s.length→n∈s.getD v.toNat []→tU g (dI v::dI n::caps) (dB (mayB (vH c) s v.toNat n)))→
    tU tY [dS s,.clo qR none [.iptr [.sl .int (yM c s.length)] 0,.iptr [.clo g none caps] 0]] (dS (pL (λv n=> !ET c v||mayB (vH c) s v n) s)):=fun {g caps} he hg=>by
   refine bF (f:=λv n=> !ET c v||mayB (vH c) s v n) KD λv hv n hn=> ?_
   refine Ha he (λh=> ?_) λh=> ?_
   ·have h1:=jA.1 h
    rw[FU hv]at h
    have h2:=hg v n h1 (by rw[Int.toNat_natCast,yE _ hv];exact hn)
    rw[Int.toNat_natCast]at h2
    rw[h];exact h2
   ·rw[FU hv]at h
    rw[h];rfl
  have hEach:∃e21:zE,∃e22:List (List Int),∃e23:List Int,∃e24:List Int,∃e25:List ((Int×Int)×Int),yH gS [dC c,dS s] [] (.clo xC none [.iptr [.iptr [.int .i64 e21.kind,.sl .int e21.vars,.sl .int e21.consts,.int .i64 e21.n,.sl (.list .int) e21.rows,.sl .lit e21.lits,.sl (.list .int) e22,.sl .int e23,.sl .int e24,.mp (.pr .int .int) .int e25] 0] 0]) []∧
    xK tY [dS s,.clo qR none [.iptr [.sl .int (yM c s.length)] 0,.iptr [.clo xC none [.iptr [.iptr [.int .i64 e21.kind,.sl .int e21.vars,.sl .int e21.consts,.int .i64 e21.n,.sl (.list .int) e21.rows,.sl .lit e21.lits,.sl (.list .int) e22,.sl .int e23,.sl .int e24,.mp (.pr .int .int) .int e25] 0] 0]] 0]] (.list (.list .int)) λs26=>D.sl (.list .int) s26=dS (pL (λv n=> !ET c v||mayB (vH c) s v n) s):=by
   obtain⟨vs,m,h1,h2⟩:=FT hc hs hf;exact⟨c,s,yM c s.length,vs,m,h2,zH (key MT λv n hv hn=>Jk (ks:=[]) h1 hv) rfl⟩
  refine zA (λe=> ?_) λe=>zA (λe2=> ?_) λe2=> ?_
  ·have hk:c.kind≤3:=of_decide_eq_true e
   exact⟨vZ c,I8 s (vZ c),c,Ji hc hk hs,zH (key PX λv n hv hn=>N0 hc hk hs hf (FV hc (FW hc (by omega)) hv) hn) rfl⟩
  ·have hk:c.kind=4:=of_decide_eq_true e2
   refine zH (I9 c.vars) (zA (λe3=> ?_) λe3=>hEach)
   have hnd:c.vars.Nodup:=by simpa using e3
   exact⟨s,c,Jj c s,zH (key PY λv n hv hn=>N1 hc hk hnd hs hf (FV hc (FW hc (by omega)) hv) hn) rfl⟩
  ·exact hEach
def FY(m:zG)(con:Int)(s:List (List Int)):Int:=if XN m [s]≠0 then XN m [s]else if con<0∨(m.cons.length:Int)≤con then 5 else 0
theorem zjt{m:zG}{con:Int}{s:List (List Int)}(h:XN m [s]≠0):FY m con s=XN m [s]:=if_pos h
theorem zju{m:zG}{con:Int}{s:List (List Int)}(h:XN m [s]=0)(h2:con<0∨(m.cons.length:Int)≤con):FY m con s=5:=by rw[FY,if_neg (not_not_intro h),if_pos h2]
theorem zjv{m:zG}{con:Int}{s:List (List Int)}(h:XN m [s]=0)(h2:0≤con∧con<(m.cons.length:Int)):FY m con s=0:=by rw[FY,if_neg (not_not_intro h),if_neg (by omega)]
theorem zdo{m:zG}{con:Int}{s:List (List Int)}(h:FY m con s=0):XN m [s]=0∧0≤con∧con<(m.cons.length:Int):=by
 by_cases h1:XN m [s]=0
 ·by_cases h2:con<0∨(m.cons.length:Int)≤con
  ·rw[zju h1 h2]at h;exact absurd h (by decide)
  ·exact⟨h1,by omega⟩
 ·rw[zjt h1]at h;exact absurd h h1
theorem N2{m:zG}{con:Int}(h:xL m=0)(h2:0≤con∧con<(m.cons.length:Int)):HX m con=0:=by rw[HX,if_neg (not_not_intro h),if_neg (by omega)]
structure Met (c:zE)(s:List (List Int))(zs:List Int)(k:Nat)(met:List zC):Prop where
 nodup:met.Nodup
 near:∀x∈met,(0≤x.var∧x.var<6)∧x.op=0∧-50≤x.n∧x.n≤50
 mem:∀x,x∈met↔∃j,j<k∧vH c (iS s (yM c s.length) zs j).1=true∧∃v∈yM c s.length,x=⟨v,0,(iS s (yM c s.length) zs j).1.getD v.toNat 0⟩
def partB(c:zE)(s:List (List Int))(v:Nat)(n:Int):Bool:=
 (List.range (CF s (yM c s.length))).any λk=>vH c (iS s (yM c s.length) (List.replicate s.length 0) k).1&&decide ((iS s (yM c s.length) (List.replicate s.length 0) k).1.getD v 0=n)
def Aw(c:zE)(s:List (List Int)):List (List Int):=
 if zT s=true then s else if yM c s.length=[]then(if vH c []=true then s else gI s)else pL (λv n=> !ET c v||partB c s v n) s
theorem zfT{c:zE}{s:List (List Int)}(hc:tP c s.length)(hf:zT s=false){v:Nat}{n:Int}(hv:v<s.length)(hi:ET c v=true):partB c s v n=mayB (vH c) s v n:=by
 have hz:(List.replicate s.length (0:Int)).length=s.length:=List.length_replicate ..;have hm:(v:Int)∈yM c s.length:=nU.2 ⟨by omega,hi⟩
 rw[Bool.eq_iff_iff,oY,partB,List.any_eq_true];have h:=zbn hc hf hz (v:=(v:Int)) (n:=n);rw[zbo hc hf hz,Int.toNat_natCast]at h
 constructor
 ·rintro⟨k,hk,e⟩
  rw[Bool.and_eq_true,decide_eq_true_iff]at e
  exact(h.1 ⟨k,List.mem_range.1 hk,e.1,(v:Int),hm,by rw[Int.toNat_natCast,e.2]⟩).2
 ·intro hy
  obtain⟨k,hk,e1,u,hu,e2⟩:=h.2 ⟨hm,hy⟩;injection e2 with e3 e4
  refine⟨k,List.mem_range.2 hk,?_⟩;rw[Bool.and_eq_true,decide_eq_true_iff];refine⟨e1,?_⟩;rw[e4,←e3,Int.toNat_natCast]
theorem zfU{c:zE}{s:List (List Int)}(hc:tP c s.length):yQ c s=Aw c s:=by
 rw[yQ,Aw];split
 ·rfl
 rename_i hf;split
 ·rfl
 refine Xv λv n hn=> ?_
 have hv:v<s.length:=by
  apply Classical.byContradiction;intro h;rw[qJ (by omega)]at hn;cases hn
 cases hi:ET c v
 ·rfl
 ·rw[zfT hc (by simpa using hf) hv hi]
theorem Pz{m:zG}{s t:List (List Int)}(h:fg m s=0)(hl:cI t s):fg m t=0:=by
 obtain⟨h1,h2,h3⟩:=V3.1 h;refine V3.2 ⟨hl.1.trans h1,λv n hn=>h2 v n ((hl.2 v).subset hn),λl hm=> ?_⟩
 obtain⟨i,hi,rfl⟩:=List.getElem_of_mem hm;have:=hl.2 i;rw[yE _ hi,yE _ (show i<s.length by rw[←hl.1];exact hi)]at this
 exact(h3 _ (List.getElem_mem _)).sublist this
theorem zhW{m:zG}{s:List (List Int)}(h:XN m [s]=0):xL m=0∧fg m s=0:=by
 have h1:=zaU h;rw[zaT (not_not_intro h1),Fb]at h
 exact⟨h1,h⟩
structure zeQ (m:zG)(con:Int)(s:List (List Int)):Prop where
 chk:xL m=0
 st:fg m s=0
 cn:0≤con∧con<(m.cons.length:Int)
 right:tP (yW m con) m.vars.length
 len:s.length=m.vars.length
 pos:0<m.vars.length
 op:Xu m.vars.length (yQ (yW m con)) (vH (yW m con))
theorem zhX{m:zG}{con:Int}{s:List (List Int)}(h:FY m con s=0):zeQ m con s:=by
 obtain⟨h1,h2⟩:=zdo h;obtain⟨h3,h4⟩:=zhW h1;have hr:=lO h3;have hc:=nN (N2 h3 h2);have hp:0<m.vars.length:=by have:=hr.some;omega
 exact⟨h3,h4,h2,hc,Fa h4,hp,Wz hc hp⟩
def Wm:wA:= {own:=[],live:=[(0,([2,11,12,13],[]))],n:=24}
def Y7(a:zG)(b:List (List zC))(R:xO)(c:Nat)(d:Int):Prop:=LP Wm Tryz.f128 [1,1,0,1,0,0] 0 c ⟨[(2,.iptr (TL a []) 0),(11,.sl (.list .lit) b),(12,dI (b.length:Int)),(13,dI d)],[]⟩ (zQ 0 (sK Wm Tryz.f128 [1,1,1] 0 (eK Tryz.f128 R)))
theorem Tl(c:zG)(a:List (List zC))(R:xO)(d:Nat)(b:Int):Y7 c a R (d+1) b=
 (zP (decide (b<(a.length:Int)))
 (vW b a.length=true∧
 xK fO [dM c,.sl .lit (yO (.list .lit) a b.toNat)] .int λe=>
 zP (!decide (e=0))
 (R (dI e))
 (Y7 c a R d (yU (b+1))))
 (R (dI 0))):=by kernel_rfl
theorem DA(b:zG)(a:List (List zC))(R:xO):FD Wm Tryz.f128 [dM b,.sl (.list .lit) a] R=
 (zP (decide (600<(a.length:Int)))
 (R (dI 2))
 (∃n0,Y7 b a R n0 0)):=by kernel_rfl
theorem FZ(a:zG)(b:List (List zC)):wC Wm Tryz.f128 X8 [dM a,.sl (.list .lit) b]:=wJ Tryz.func128 (by kernel_rfl) Tryz.ntmps128 rfl
def oa:wA:= {own:=[],live:=[(0,([1,2,3,4],[])),(2,([1,2,3,4,9,10],[])),(4,([1,2,3,4,9,11],[]))],n:=62}
def Vf(a:zG)(b:Bool)(c:List (List zC))(R:xO)(d:Nat)(e:List (List Int))(f:Nat)(g:List (List Int))(h:Int):Prop:=LP oa Tryz.f136 [1,1,0,0,0,1,1,0,1,0,0] 4 f ⟨[(1,dS g),(2,dB b),(3,.sl (.list .lit) c),(4,.iptr (TL a []) 0),(9,dS e),(11,dI h)],[]⟩ (zQ 4 (sK oa Tryz.f136 [1,1,0,0,0,1,1,1] 1 (zQ 1 (iK oa Tryz.f136 [1,1,0,0] 0 d (zQ 0 (eK Tryz.f136 R))))))
def Z1(a:zG)(b:Bool)(c:List (List zC))(R:xO)(d:Nat)(e:List (List Int))(f:Nat)(g:List (List Int))(h:Int):Prop:=LP oa Tryz.f136 [1,1,0,0,0,1,1,0,1,0,0] 4 f ⟨[(1,dS g),(2,dB b),(3,.sl (.list .lit) c),(4,.iptr (TL a []) 0),(9,dS e),(11,dI h)],[]⟩ (zQ 4 (sK oa Tryz.f136 [1,1,0,0,0,1,1,1] 1 (zQ 1 (iK oa Tryz.f136 [1,1,0,0] 0 d (zQ 0 (eK Tryz.f136 R))))))
def Wn(a:zG)(b:Bool)(c:List (List zC))(R:xO)(d:Nat)(e:List (List Int))(f:Nat)(g:List (List Int))(h:Int):Prop:=LP oa Tryz.f136 [1,1,0,0,0,1,1,0,1,0,0] 4 f ⟨[(1,dS g),(2,dB b),(3,.sl (.list .lit) c),(4,.iptr (TL a []) 0),(9,dS e),(11,dI h)],[]⟩ (zQ 4 (sK oa Tryz.f136 [1,1,0,0,0,1,1,1] 1 (zQ 1 (iK oa Tryz.f136 [1,1,0,0] 0 d (zQ 0 (eK Tryz.f136 R))))))
def aN(a:zG)(b:Bool)(c:List (List zC))(R:xO)(d:Nat)(e:List (List Int))(f:Nat)(g:List (List Int))(h:Int):Prop:=LP oa Tryz.f136 [1,1,0,0,0,1,0,1,0,0] 2 f ⟨[(1,dS g),(2,dB b),(3,.sl (.list .lit) c),(4,.iptr (TL a []) 0),(9,dS e),(10,dI h)],[]⟩ (zQ 2 (sK oa Tryz.f136 [1,1,0,0,0,1,1] 1 (zQ 1 (iK oa Tryz.f136 [1,1,0,0] 0 d (zQ 0 (eK Tryz.f136 R))))))
def pB(a:zG)(b:Bool)(c:List (List zC))(R:xO)(d:Nat)(e:List (List Int)):Prop:=LP oa Tryz.f136 [1,1,0,0] 0 d ⟨[(1,dS e),(2,dB b),(3,.sl (.list .lit) c),(4,.iptr (TL a []) 0)],[]⟩ (zQ 0 (eK Tryz.f136 R))
theorem DB(d:zG)(e:Bool)(b:List (List zC))(R:xO)(f:Nat)(g:List (List Int))(h:Nat)(a:List (List Int))(c:Int):Vf d e b R f g (h+1) a c=
 (zP (decide (c<(b.length:Int)))
 (xK yX [dS a] .bool λi=>
 zP (!i)
 (vW c b.length=true∧
 xK iC [dS a,.sl .lit (yO (.list .lit) b c.toNat)] (.list (.list .int)) λj=>
 Vf d e b R f g h j (yU (c+1)))
 (xK yX [dS a] .bool λk=>
 zP k
 (xK uD [dS a] (.list (.list .int)) λl=>
 R (dS l))
 (xK kC [dS a,dS g] .bool λm=>
 zP m
 (R (dS a))
 (pB d e b R f a))))
 (xK yX [dS a] .bool λn=>
 zP n
 (xK uD [dS a] (.list (.list .int)) λo=>
 R (dS o))
 (xK kC [dS a,dS g] .bool λp=>
 zP p
 (R (dS a))
 (pB d e b R f a)))):=by kernel_rfl
theorem Hb(d:zG)(e:Bool)(b:List (List zC))(R:xO)(f:Nat)(g:List (List Int))(h:Nat)(a:List (List Int))(c:Int):Z1 d e b R f g (h+1) a c=
 (zP (decide (c<(b.length:Int)))
 (xK yX [dS a] .bool λi=>
 zP (!i)
 (vW c b.length=true∧
 xK iC [dS a,.sl .lit (yO (.list .lit) b c.toNat)] (.list (.list .int)) λj=>
 Z1 d e b R f g h j (yU (c+1)))
 (xK yX [dS a] .bool λk=>
 zP k
 (xK uD [dS a] (.list (.list .int)) λl=>
 R (dS l))
 (xK kC [dS a,dS g] .bool λm=>
 zP m
 (R (dS a))
 (pB d e b R f a))))
 (xK yX [dS a] .bool λn=>
 zP n
 (xK uD [dS a] (.list (.list .int)) λo=>
 R (dS o))
 (xK kC [dS a,dS g] .bool λp=>
 zP p
 (R (dS a))
 (pB d e b R f a)))):=by kernel_rfl
theorem Hc(d:zG)(e:Bool)(b:List (List zC))(R:xO)(f:Nat)(g:List (List Int))(h:Nat)(a:List (List Int))(c:Int):Wn d e b R f g (h+1) a c=
 (zP (decide (c<(b.length:Int)))
 (xK yX [dS a] .bool λi=>
 zP (!i)
 (vW c b.length=true∧
 xK iC [dS a,.sl .lit (yO (.list .lit) b c.toNat)] (.list (.list .int)) λj=>
 Wn d e b R f g h j (yU (c+1)))
 (xK yX [dS a] .bool λk=>
 zP k
 (xK uD [dS a] (.list (.list .int)) λl=>
 R (dS l))
 (xK kC [dS a,dS g] .bool λm=>
 zP m
 (R (dS a))
 (pB d e b R f a))))
 (xK yX [dS a] .bool λn=>
 zP n
 (xK uD [dS a] (.list (.list .int)) λo=>
 R (dS o))
 (xK kC [dS a,dS g] .bool λp=>
 zP p
 (R (dS a))
 (pB d e b R f a)))):=by kernel_rfl
theorem Y8(a:zG)(b:Bool)(d:List (List zC))(R:xO)(e:Nat)(f:List (List Int))(h:Nat)(c:List (List Int))(g:Int):aN a b d R e f (h+1) c g=
 (zP b
 (zP (decide (g<(a.cons.length:Int)))
 (xK yX [dS c] .bool λi=>
 zP (!i)
 (vW g a.cons.length=true∧
 xK lH [dC (yO .con a.cons g.toNat),dS c] (.list (.list .int)) λj=>
 aN a b d R e f h j (yU (g+1)))
 (∃n4,Vf a b d R e f n4 c 0))
 (∃n4_2,Z1 a b d R e f n4_2 c 0))
 (∃n4_3,Wn a b d R e f n4_3 c 0)):=by kernel_rfl
theorem DC(b:zG)(c:Bool)(d:List (List zC))(R:xO)(e:Nat)(a:List (List Int)):pB b c d R (e+1) a=
 (∃n2,aN b c d R e a n2 a 0):=by kernel_rfl
theorem zdp(a:zG)(b:List (List Int))(c:Bool)(d:List (List zC))(R:xO):FD oa Tryz.f136 [dM a,dS b,dB c,.sl (.list .lit) d] R=
 (xK jO [dS b] (.list (.list .int)) λe=>
 ∃n0,pB a c d R n0 e):=by kernel_rfl
theorem zbt(a:zG)(b:List (List Int))(c:Bool)(d:List (List zC)):wC oa Tryz.f136 gR [dM a,dS b,dB c,.sl (.list .lit) d]:=wJ Tryz.func136 (by kernel_rfl) Tryz.ntmps136 rfl
def F0:wA:= {own:=[],live:=[],n:=8}
theorem zbu(a b:List (List Int))(R:xO):FD F0 Tryz.f202 [dS a,dS b] R=
 (xK yG [dS a,dS b,.clo eQ none []] .bool λc=>
 R (dB c)):=by kernel_rfl
theorem Ax(a b:List (List Int)):wC F0 Tryz.f202 kC [dS a,dS b]:=wJ Tryz.func202 (by kernel_rfl) Tryz.ntmps202 rfl
def LE:wA:= {own:=[],live:=[],n:=10}
theorem DD(a b:List Int)(R:xO):FD LE Tryz.f256 [.sl .int a,.sl .int b] R=
 (R (dB (decide ((a.length:Int)=(b.length:Int))))):=by kernel_rfl
theorem F1(a b:List Int):wC LE Tryz.f256 eQ [.sl .int a,.sl .int b]:=wJ Tryz.func256 (by kernel_rfl) Tryz.ntmps256 rfl
noncomputable def Ay (m:zG):List Op:=m.cons.map yQ
def LF(l:List (List zC)):List Op:=l.map λc s=>Yk s c
noncomputable def mS (m:zG)(cons:Bool)(l:List (List zC)):List Op:=(if cons=true then Ay m else[])++LF l
noncomputable def qC (m:zG)(cons:Bool)(l:List (List zC))(s:List (List Int)):List (List Int):=zhM (mS m cons l) s
structure yR (m:zG)(l:List (List zC)):Prop where
 right:Right m
 cons:∀c∈m.cons,tP c m.vars.length
 lits:∀c∈l,∀x∈c,0≤x.var∧x.var<(m.vars.length:Int)
theorem yR.pos{m:zG}{l:List (List zC)}(h:yR m l):0<m.vars.length:=by have:=h.right.some;omega
theorem F2{m:zG}{l:List (List zC)}(h:xL m=0)(hl:∀c∈l,∀x∈c,eN m.vars.length x=0):yR m l:=by
 refine⟨lO h,λc hc=> ?_,λc hc x hx=>(nT.1 (hl c hc x hx)).1⟩
 obtain⟨i,hi,rfl⟩:=List.getElem_of_mem hc;have:=nN (N2 h (con:=(i:Int)) (by omega))
 rwa[yW,Int.toNat_natCast,yE _ hi]at this
theorem Vg{m:zG}{l:List (List zC)}(h:yR m l){c:zE}(hc:c∈m.cons):Xu m.vars.length (yQ c) (vH c):=Wz (h.cons c hc) h.pos
theorem aO{m:zG}{l:List (List zC)}(h:yR m l){c:List zC}(hc:c∈l):Xu m.vars.length (λs=>Yk s c) (qZ c):=zeM (h.lits c hc) h.pos
theorem ox{m:zG}{cons:Bool}{l:List (List zC)}{op:Op}:op∈mS m cons l↔(cons=true∧∃c∈m.cons,yQ c=op)∨∃c∈l,(λs=>Yk s c)=op:=by
 rw[mS,List.mem_append,LF,List.mem_map];cases cons
 ·simp
 ·simp[Ay]
theorem N3{m:zG}{cons:Bool}{l:List (List zC)}(h:yR m l):Fs m.vars.length (mS m cons l):=λop hm=>by
 rcases ox.1 hm with⟨_,c,hc,rfl⟩|⟨c,hc,rfl⟩
 ·exact⟨_,Vg h hc⟩
 ·exact⟨_,aO h hc⟩
theorem gV{m:zG}{cons:Bool}{l:List (List zC)}(h:yR m l){s:List (List Int)}(hs:s.length=m.vars.length):VI (mS m cons l) s (qC m cons l s):=zfH (N3 h) hs
theorem PA{m:zG}{cons:Bool}{l:List (List zC)}(h:yR m l){s r:List (List Int)}(hs:s.length=m.vars.length)(hr:VI (mS m cons l) s r):qC m cons l s=r:=zjp (by have:=h.pos;omega) hr
structure J4 (ops:List Op)(was s:List (List Int))(done:List Op):Prop where
 le:cI s was
 stab:s=was→∀op∈done,op was=was
theorem J4.step{nv:Nat}{ops done:List Op}{was s:List (List Int)}(h:J4 ops was s done){op:Op}{Q:List Int→Bool}(ho:Xu nv op Q)(hs:s.length=nv):J4 ops was (op s) (done++[op]):=by
 have hle:=ho.le hs;refine⟨hle.trans h.le,λe op' hm=> ?_⟩
 have e2:s=was:=h.le.antisymm (by rw[←e];exact hle)
 rcases List.mem_append.1 hm with hm|hm
 ·exact h.stab e2 op' hm
 ·rw[List.mem_singleton.1 hm];rw[e2]at e;exact e
theorem CJ:∀ {s t:List (List Int)},s.length=t.length→((s.zip t).any λx=> !decide (x.1.length=x.2.length))=false→(∀v:Nat,(s.getD v []).Sublist (t.getD v []))→s=t
 |[],[],_,_,_=>rfl
 |a::s,b::t,hl,h,hs=>by
  rw[List.zip_cons_cons,List.any_cons,Bool.or_eq_false_iff]at h
  have h1:a.length=b.length:=by simpa using h.1
  have h0:a.Sublist b:=hs 0;rw[h0.eq_of_length h1,CJ (by simpa using hl) h.2 λv=>hs (v+1)]
 |[],_::_,hl,_,_=>by simp at hl
 |_::_,[],hl,_,_=>by simp at hl
def J5(s t:List (List Int)):Bool:=decide (s.length=t.length)&& !((s.zip t).any λx=> !decide (x.1.length=x.2.length))
theorem CK{s t:List (List Int)}(h:cI s t):J5 s t=true↔s=t:=by
 rw[J5,Bool.and_eq_true,decide_eq_true_iff,Bool.not_eq_true'];constructor
 ·rintro⟨h1,h2⟩;exact CJ h1 h2 h.2
 ·rintro rfl
  refine⟨rfl,List.any_eq_false.2 λx hx=> ?_⟩
  obtain⟨i,hi,rfl⟩:=List.getElem_of_mem hx;rw[List.getElem_zip];simp
theorem DE(a b:List Int):tU eQ [.sl .int a,.sl .int b] (dB (decide (a.length=b.length))):=
 F1 a b λok=>by
  rw[DD];show D.bool _=D.bool _
  congr 1
  exact decide_eq_decide.2 ⟨λe=>by omega,λe=>by omega⟩
theorem zbv(s t:List (List Int)):tU kC [dS s,dS t] (dB (J5 s t)):=
 Ax s t λok=>by
  rw[zbu];refine zH (x:=J5 s t) ?_ rfl;refine XJ.clo (pre:=[_,_]) (slices_EqualFunc_api_Store_api_Store_int_int_sat s t eQ [] λok=> ?_)
  have hs:Si s:=YN (L5 ok);have hsl:=Pv hs;rw[rJ];refine zA (λe=> ?_) λe=> ?_
  ·rw[J5,decide_eq_false (by simp at e;omega)];rfl
  have e:s.length=t.length:=by simp at e;omega
  have hz:(s.zip t).length=s.length:=by rw[List.length_zip];omega
  refine zcT (I:=λn v=>xN s t eQ [] _ n v) (s.zip t) (λx=> !decide (x.1.length=x.2.length)) (by omega) (X:=dB false=dB (J5 s t)) (Y:=dB true=dB (J5 s t)) (by rw[J5,decide_eq_true e];cases(s.zip t).any λx=> !decide (x.1.length=x.2.length)<;>rfl) (λn k h hX hn=> ?_) λn hY=> ?_
  ·have hk:k<s.length:=by omega
   rw[List.getElem_zip]at hX hn
   rw[wD,yC hk,zY (t:=.list .int) hk,zY (t:=.list .int) (show k<t.length by omega)]
   exact⟨zM hk,zM (by omega),G2,zH (DE _ _) (zA hX hn)⟩
  ·rw[hz,wD,zX];exact hY
theorem zdq{nv:Nat}{ops:List Op}{s0 s:List (List Int)}(h:rZ ops s0 s)(hg:fB s0 nv):fB s nv:=by
 refine⟨h.le.1.trans hg.len,λv n hn=>hg.near v n ((h.le.2 v).subset hn),λl hl=> ?_⟩
 obtain⟨i,hi,rfl⟩:=List.getElem_of_mem hl;have:=h.le.2 i;rw[yE _ hi,yE _ (show i<s0.length by rw[←h.le.1];exact hi)]at this
 exact(hg.rise _ (List.getElem_mem _)).sublist this
theorem zjZ{nv:Nat}{ops pre:List Op}{s0 was:List (List Int)}(ho:Fs nv ops)(h0:s0.length=nv){A:Type}(xs:List A)(f:A→Op)(hf:∀x∈xs,f x∈ops)
  {I:Nat→Int→List (List Int)→Prop} {X:List (List Int)→Prop} {s:List (List Int)} (hl:xs.length≤9223372036854775807) (hr:rZ ops s0 s) (hw:zT s=true∨J4 ops was s pre)
  (hout:∀s,rZ ops s0 s→(zT s=true∨J4 ops was s (pre++xs.map f))→X s)
  (hin:∀n (k:Nat) (h:k<xs.length) s,rZ ops s0 s→zT s=false→I n (yU ((k:Int)+1)) (f xs[k] s)→I (n+1) (k:Int) s)
  (hend:∀n s,X s→I (n+1) (xs.length:Int) s) (hfail:∀n (k:Nat) s,k<xs.length→zT s=true→X s→I (n+1) (k:Int) s):∃n,I n 0 s:=by
 refine up (I:=I) 0 xs.length rfl (Nat.zero_le _) hl (λk s=>rZ ops s0 s∧(zT s=true∨J4 ops was s (pre++(xs.take k).map f))) ⟨hr,by simpa using hw⟩ λn k s _ hk ha hn=> ?_
 obtain⟨h1,h2⟩:=ha
 by_cases h:k<xs.length
 ·cases hfl:zT s with
  |true=>exact hfail n k s h hfl (hout s h1 (.inl hfl))
  |false=>
   obtain⟨Q,hq⟩:=ho _ (hf _ (List.getElem_mem h));have h2:=h2.resolve_left (by rw[hfl];decide)
   refine hin n k h s h1 hfl (hn h _ ⟨h1.step ho h0 (hf _ (List.getElem_mem h)),.inr ?_⟩);rw[ML _ h,←List.append_assoc];exact h2.step hq (h1.le.1.trans h0)
 ·have hk':k=xs.length:=by omega
  subst hk';refine hend n s (hout s h1 ?_)
  rwa[List.take_length]at h2
def zjw(m:zG)(cons:Bool)(l:List (List zC))(s0:List (List Int))(n0:Nat)(was s:List (List Int)):Prop:=
 xK yX [dS s] .bool λs11=>zP s11
  (xK uD [dS s] (.list (.list .int)) λs12=>D.sl (.list .int) s12=dS (qC m cons l s0))
  (xK kC [dS s,dS was] .bool λf13=>zP f13 (D.sl (.list .int) s=dS (qC m cons l s0)) (pB m cons l (λd=>d=dS (qC m cons l s0)) n0 s))
theorem zjx{m:zG}{cons:Bool}{l:List (List zC)}{s0:List (List Int)}(h:yR m l)(hs:s0.length=m.vars.length){n0:Nat}{was:List (List Int)}
  (ih:∀s,rZ (mS m cons l) s0 s→vE s<vE was→pB m cons l (λd=>d=dS (qC m cons l s0)) n0 s) {s:List (List Int)} (hr:rZ (mS m cons l) s0 s) (hx:zT s=true∨J4 (mS m cons l) was s (mS m cons l)):zjw m cons l s0 n0 was s:=by
 refine zH (vD s) (zA (λe=> ?_) λe=> ?_)
 ·have e:zT s=true:=e
  refine zH (dD s) ?_;rw[PA h hs (hr.dead e),Fr hr.le.1]
 ·have e:zT s=false:=e
  have hrd:=hx.resolve_left (by rw[e];decide)
  refine zH (zbv s was) (zA (λf=> ?_) λf=> ?_)
  ·have f2:=(CK hrd.le).1 f
   rw[PA h hs (hr.stop e λop hm=> ?_)]
   rw[f2];exact hrd.stab f2 op hm
  ·exact ih s hr (hrd.le.size_lt λf2=>by rw[(CK hrd.le).2 f2]at f;cases f)
theorem F3{m:zG}{cons:Bool}{l:List (List zC)}{s0:List (List Int)}(h:yR m l)(hs:s0.length=m.vars.length)(hll:l.length≤1000000000){n0:Nat}{was:List (List Int)}
  (ih:∀s,rZ (mS m cons l) s0 s→vE s<vE was→pB m cons l (λd=>d=dS (qC m cons l s0)) n0 s)
  {I:Nat→Int→List (List Int)→Prop}
  (heq:∀n (i:Int) s,I (n+1) i s=zP (decide (i<(l.length:Int)))
   (xK yX [dS s] .bool λs9=>zP (!s9)
    (vW i l.length=true∧xK iC [dS s,.sl .lit (yO (.list .lit) l i.toNat)] (.list (.list .int)) λc10=>I n (yU (i+1)) c10)
    (zjw m cons l s0 n0 was s))
   (zjw m cons l s0 n0 was s))
  {s:List (List Int)} (hr:rZ (mS m cons l) s0 s) (hw:zT s=true∨J4 (mS m cons l) was s (if cons=true then Ay m else[])):∃n,I n 0 s:=by
 refine zjZ (N3 h) hs l (λc s=>Yk s c) (λc hc=>ox.2 (.inr ⟨c,hc,rfl⟩)) (by omega) hr hw (X:=zjw m cons l s0 n0 was) (λs h1 h2=>zjx h hs ih h1 h2) (λn k hk s h1 hf hi=> ?_) (λn s hx=> ?_) λn k s hk hf hx=> ?_
 ·rw[heq,yC hk,zY (t:=.list .lit) hk]
  refine zH (vD s) (bnt hf ⟨zM hk,zH (Dw λx hx=> ?_) hi⟩)
  have:=h.lits _ (List.getElem_mem hk) x hx;rw[h1.le.1,hs];exact this
 ·rw[heq,zX];exact hx
 ·rw[heq,yC hk]
  exact zH (vD s) (bnf hf hx)
theorem Vh{m:zG}{cons:Bool}{l:List (List zC)}{s0:List (List Int)}(h:yR m l)(hs:fB s0 m.vars.length)(hll:l.length≤1000000000):tU gR [dM m,dS s0,dB cons,.sl (.list .lit) l] (dS (qC m cons l s0)):=
 zbt m s0 cons l λok=>by
  have ho:=N3 (cons:=cons) h;have hcl:=h.right.cons;rw[zdp];refine zH (ZS s0) ?_
  have step:∀(n0:Nat) (was:List (List Int)),rZ (mS m cons l) s0 was→(∀s,rZ (mS m cons l) s0 s→vE s<vE was→pB m cons l (λd=>d=dS (qC m cons l s0)) n0 s)→pB m cons l (λd=>d=dS (qC m cons l s0)) (n0+1) was:=by
   intro n0 was hw ih;rw[DC];cases cons with
   |false=>
    refine⟨1,?_⟩;rw[Y8];refine bf rfl ?_;exact F3 h hs.len hll ih (I:=λn i s=>Wn m false l _ n0 was n s i) (λn i s=>by rw[Hc];rfl) hw (.inr ⟨cI.refl _,λ_ op hm=>(by cases hm)⟩)
   |true=>
    refine zjZ ho hs.len m.cons yQ (λc hc=>ox.2 (.inl ⟨rfl,c,hc,rfl⟩)) (by omega) hw (was:=was) (pre:=[]) (.inr ⟨cI.refl _,λ_ op hm=>(by cases hm)⟩) (I:=λn i s=>aN m true l _ n0 was n s i)
     (X:=λs=>(∃n4,Vf m true l (λd=>d=dS (qC m true l s0)) n0 was n4 s 0)∧∃n4_2,Z1 m true l (λd=>d=dS (qC m true l s0)) n0 was n4_2 s 0) (λs h1 h2=> ?_) (λn k hk s h1 hf hi=> ?_) (λn s hx=> ?_) λn k s hk hf hx=> ?_
    ·exact⟨F3 h hs.len hll ih (I:=λn i s=>Vf m true l _ n0 was n s i) (λn i s=>by rw[DB];rfl) h1 h2,F3 h hs.len hll ih (I:=λn i s=>Z1 m true l _ n0 was n s i) (λn i s=>by rw[Hb];rfl) h1 h2⟩
    ·show aN m true l _ n0 was (n+1) s (k:Int)
     rw[Y8];refine bt rfl ?_;rw[yC hk,zY (t:=.con) hk];have hg:=zdq h1 hs;have hl:=hg.len;refine zH (vD s) (bnt hf ⟨zM hk,zH (bI (c:=m.cons[k]) (by rw[hl];exact h.cons _ (List.getElem_mem hk)) (by rw[hl];exact hg)) hi⟩)
    ·show aN m true l _ n0 was (n+1) s (m.cons.length:Int)
     rw[Y8];refine bt rfl ?_;rw[zX];exact hx.2
    ·show aN m true l _ n0 was (n+1) s (k:Int)
     rw[Y8];refine bt rfl ?_;rw[yC hk];exact zH (vD s) (bnf hf hx.1)
  suffices H:∀(d:Nat) (was:List (List Int)),vE was≤d→rZ (mS m cons l) s0 was→pB m cons l (λd=>d=dS (qC m cons l s0)) (d+1) was from⟨_,H _ s0 (Nat.le_refl _) (rZ.refl _ _)⟩
  intro d
  induction d with
  |zero=>exact λwas hd hw=>step 0 was hw λs _ hlt=>absurd hlt (by omega)
  |succ d ih=>exact λwas hd hw=>step (d+1) was hw λs h1 hlt=>ih s (by omega) h1
def Wo(nv:Nat)(l:List (List zC)):Int:=if 600<l.length then 2 else wK (λ_ c=>yP nv c) 0 l
theorem Az{nv:Nat}{l:List (List zC)}(h:Wo nv l=0):l.length≤600∧∀c∈l,yP nv c=0:=by
 unfold Wo at h
 split at h
 ·exact absurd h (by decide)
 rename_i h1;refine⟨by omega,λl hl=> ?_⟩
 obtain⟨i,hi,rfl⟩:=List.getElem_of_mem hl;exact aK h hi
theorem DF(m:zG)(l:List (List zC)):tU X8 [dM m,.sl (.list .lit) l] (dI (Wo m.vars.length l)):=
 FZ m l λok=>by
  rw[DA];refine zA (λe=> ?_) λe=> ?_
  ·exact tE (if_pos (by simp at e;omega))
  have e:¬600<l.length:=by simp at e;omega
  rw[show Wo m.vars.length l=wK (λ_ c=>yP m.vars.length c) 0 l from if_neg e]
  refine zcV (I:=λn v=>Y7 m l _ n v) l (λ_ c=>yP m.vars.length c) (by omega) (X:=λx=>D.int .i64 x=dI (wK (λ_ c=>yP m.vars.length c) 0 l)) (Y:=D.int .i64 0=dI (wK (λ_ c=>yP m.vars.length c) 0 l)) (λ_=>rfl) (λe=>tE e) (λn k h _ hX hn=> ?_) λn hY=> ?_
  ·rw[Tl,yC h,zY (t:=.list .lit) h]
   exact⟨zM h,zH (SS m _) (zA (λe=>hX (lA e)) λe=>hn (oF e))⟩
  ·rw[Tl,zX];exact hY
structure zlw (m:zG)(s:List (List Int))(l:List (List zC)):Prop where
 chk:xL m=0
 st:fg m s=0
 len:l.length≤1000000
 cl:∀c∈l,yP m.vars.length c=0
 mc:yR m l
 good:fB s m.vars.length
theorem kF{m:zG}{l:List (List zC)}(h:xL m=0)(hl:∀c∈l,yP m.vars.length c=0):yR m l:=F2 h λc hc x hx=>(ZT (hl c hc)).2 x hx
theorem zbw{m:zG}(h:xL m=0):yR m []:=F2 h λc hc=>by cases hc
structure zlx (ops:List Op)(s0 was:List (List Int))(done:List Op)(s:List (List Int))(ch:Bool):Prop where
 reach:rZ ops s0 s
 st:zT s=true∨(ch=false∧s=was∧∀op∈done,op was=was)∨(ch=true∧vE s<vE was)
def zjy(m:zG)(cons:Bool)(l:List (List zC)):List Op:=(if cons=true then m.cons.map Aw else[])++LF l
def F4(ops:List Op)(s:List (List Int)):List (List Int):=ops.foldl (λs op=>op s) s
def itO(ops:List Op):Nat→List (List Int)→List (List Int)
 |0,s=>s
 |k+1,s=>itO ops k (F4 ops s)
theorem N4{op:Op}{ops:List Op}{s:List (List Int)}:F4 (op::ops) s=F4 ops (op s):=rfl
theorem F5{nv:Nat}{ops:List Op}(ho:Fs nv ops){s0:List (List Int)}(h0:s0.length=nv):∀(us:List Op) (s:List (List Int)),(∀op∈us,op∈ops)→rZ ops s0 s→rZ ops s0 (F4 us s)
 |[],s,_,h=>h
 |op::us,s,hs,h=>by
  rw[N4];exact F5 ho h0 us _ (λop h=>hs op (List.mem_cons_of_mem _ h)) (h.step ho h0 (hs op (List.mem_cons_self ..)))
theorem F6{nv:Nat}{ops:List Op}(ho:Fs nv ops){s0:List (List Int)}(h0:s0.length=nv):∀(k:Nat) (s:List (List Int)),rZ ops s0 s→rZ ops s0 (itO ops k s)
 |0,s,h=>h
 |k+1,s,h=>by rw[itO];exact F6 ho h0 k _ (F5 ho h0 ops s (λop h=>h) h)
theorem J6{nv:Nat}:∀ {a b:List Op},xP (λf g=>∀s,s.length=nv→f s=g s∧(f s).length=nv) a b→∀s,s.length=nv→F4 a s=F4 b s∧(F4 a s).length=nv
 |_,_,.nil,s,h=>⟨rfl,h⟩
 |f::a,g::b,.cons h hs,s,hl=>by
  obtain⟨h1,h2⟩:=h s hl;rw[N4,N4,←h1];exact J6 hs _ h2
theorem Jl{nv:Nat}{a b:List Op}(h:xP (λf g=>∀s,s.length=nv→f s=g s∧(f s).length=nv) a b):∀(k:Nat) (s:List (List Int)),s.length=nv→itO a k s=itO b k s
 |0,s,_=>rfl
 |k+1,s,hl=>by
  obtain⟨h1,h2⟩:=J6 h s hl;rw[itO,itO,←h1];exact Jl h k _ h2
theorem F7{α β γ:Type}{R:β→γ→Prop}{f:α→β}{g:α→γ}:∀ {l:List α},(∀x∈l,R (f x) (g x))→xP R (l.map f) (l.map g)
 |[],_=> .nil
 |x::l,h=> .cons (h x (List.mem_cons_self ..)) (F7 λy hy=>h y (List.mem_cons_of_mem _ hy))
theorem zeR{m:zG}{cons:Bool}{l:List (List zC)}(h:yR m l):xP (λf g=>∀s,s.length=m.vars.length→f s=g s∧(f s).length=m.vars.length) (mS m cons l) (zjy m cons l):=by
 have hu:xP (λ(f g:Op)=>∀s,s.length=m.vars.length→f s=g s∧(f s).length=m.vars.length) (LF l) (LF l):=F7 λc hc s hs=>⟨rfl,(aO h hc).len hs⟩
 cases cons with
 |false=>exact hu
 |true=>exact xP.append (F7 λc hc s hs=>⟨zfU (by rw[hs];exact h.cons c hc),(Vg h hc).len hs⟩) hu
theorem zbx{α β:Type}{R:α→β→Prop}:∀ {a:List α} {b:List β},xP R a b→∀x∈a,∃y∈b,R x y
 |_,_,.nil,x,h=>by cases h
 |u::a,v::b,.cons h hs,x,hx=>by
  rcases List.mem_cons.1 hx with rfl|hx
  ·exact⟨v,List.mem_cons_self ..,h⟩
  ·obtain⟨y,h1,h2⟩:=zbx hs x hx
   exact⟨y,List.mem_cons_of_mem _ h1,h2⟩
theorem zdr{m:zG}{cons:Bool}{l:List (List zC)}(h:yR m l){s r:List (List Int)}(hs:s.length=m.vars.length)(k:Nat)(e:itO (zjy m cons l) k s=r)(hf:zT r=false)(hst:((zjy m cons l).all λop=>decide (op r=r))=true):qC m cons l s=r:=by
 have ho:=zeR (cons:=cons) h;rw[←Jl ho k s hs]at e
 have hr:=F6 (N3 (cons:=cons) h) hs k s (rZ.refl _ _);rw[e]at hr
 refine PA h hs (hr.stop hf λop hm=> ?_)
 obtain⟨g,hg,h2⟩:=zbx ho op hm;rw[(h2 r (hr.le.1.trans hs)).1];exact of_decide_eq_true (List.all_eq_true.1 hst g hg)
theorem zjA{m:zG}{cons:Bool}{l:List (List zC)}(h:yR m l){s:List (List Int)}(hs:s.length=m.vars.length)(k:Nat)(hf:zT (itO (zjy m cons l) k s)=true):qC m cons l s=gI s:=by
 have ho:=zeR (cons:=cons) h;rw[←Jl ho k s hs]at hf
 exact PA h hs ((F6 (N3 (cons:=cons) h) hs k s (rZ.refl _ _)).dead hf)
theorem zds:yR vT []:=zbw (by kernel_rfl)
theorem zdt{m:zG}{vs:List Int}(h:wholeM m vs=true):∀c∈m.cons,vH c vs=true:=λc hc=>by
 rw[wholeM,Bool.and_eq_true,Bool.not_eq_true',Bool.not_eq_true']at h
 have h2:=List.any_eq_false.1 h.2 c hc;simpa using h2
theorem zfV{m:zG}{cons:Bool}{l:List (List zC)}{s:List (List Int)}(h:yR m l)(hs:s.length=m.vars.length){vs:List Int}(hv:Vx vs s)(h1:cons=true→∀c∈m.cons,vH c vs=true)(h2:∀c∈l,qZ c vs=true):Vx vs (qC m cons l s):=
 (gV h hs).keeps hs hv λop hm=>by
  rcases ox.1 hm with⟨a,c,hc,rfl⟩|⟨c,hc,rfl⟩
  ·exact⟨_,Vg h hc,h1 a c hc⟩
  ·exact⟨_,aO h hc,h2 c hc⟩
def Y9:wA:= {own:=[11,21,28],live:=[(0,([2,9,31,32,33],[21,28]))],n:=56,nils:=[(21,(4,(53,.list .lit)))],pubs:=[]}
def Z2(a:List zU)(R:xO)(b:Nat)(c:Int)(d:List zN)(e:List zE)(f g:Int)(h:List (List zC)):Prop:=LP Y9 Tryz.f37 [1,1,1,1,0,1,0,0] 0 b ⟨[(2,.sl .step a),(9,.ptr 21 0),(31,.sl .step a),(32,dI (a.length:Int)),(33,dI c)],[(21,.cells [.sl .var d,.sl .con e,dI f,dI g,.own 28]),(28,.row 53 (.list .lit) h)]⟩ (zQ 0 (sK Y9 Tryz.f37 [1,1,1,1,1] 0 (eK Tryz.f37 R)))
theorem LG(a:List zU)(R:xO)(g:Nat)(b:Int)(c:List zN)(d:List zE)(e f:Int)(h:List (List zC)):Z2 a R (g+1) b c d e f h=
 (zP (decide (b<(a.length:Int)))
 (vW b a.length=true∧
 ∃i:Bool,∃j:List (List zC),yH lF [.ptr 1000 0,dSt (yO .step a b.toNat)] [(1000,.cells [.sl .var c,.sl .con d,dI e,dI f,.own 2000]),(2000,.row 53 (.list .lit) h)] (dB i) [(1000,.cells [.sl .var c,.sl .con d,dI e,dI f,.own 2000]),(2000,.row 53 (.list .lit) j)]∧
 zP (!i)
 (R (.tup [dB false,dI 0]))
 (Z2 a R g (yU (b+1)) c d e f j))
 (zP (decide (0<(a.length:Int)))
 (vW (yU ((a.length:Int)-1)) a.length=true∧
 R (.tup [dB (decide ((((yO .step a ((yU ((a.length:Int)-1)).toNat)).clause).length:Int)=0)),dI 0]))
 (R (.tup [dB false,dI 0])))):=by kernel_rfl
theorem F8(a:zG)(b:List (List zC))(c:List zU)(R:xO):FD Y9 Tryz.f37 [dM a,.sl (.list .lit) b,.sl .step c] R=
 (xK YO [dM a,.sl (.list .lit) b,.sl .step c] .int λd=>
 zP (!decide (d=0))
 (R (.tup [dB false,dI d]))
 (wN (.list .lit) b.length=true∧
 ∃n0,Z2 c R n0 0 a.vars a.cons a.goal a.var b)):=by kernel_rfl
theorem Hd(a:zG)(b:List (List zC))(c:List zU):wC Y9 Tryz.f37 cN [dM a,.sl (.list .lit) b,.sl .step c]:=wJ Tryz.func37 (by kernel_rfl) Tryz.ntmps37 rfl
def gW:wA:= {own:=[10,13],live:=[(0,([2,3,33,34,35],[])),(2,([3,47,48,49],[]))],n:=70}
def eE(a:zG)(b:List zU)(R:xO)(c:Nat)(d:Int):Prop:=LP gW Tryz.f88 [1,1,1,1,1,0,1,0,0] 2 c ⟨[(3,.iptr (TL a []) 0),(47,.sl .step b),(48,dI (b.length:Int)),(49,dI d)],[]⟩ (zQ 2 (sK gW Tryz.f88 [1,1,1,1,1,1] 0 (eK Tryz.f88 R)))
def Z3(a:zG)(b:List zU)(R:xO)(c:Nat)(d:Int):Prop:=LP gW Tryz.f88 [1,1,1,1,0,1,0,0] 0 c ⟨[(2,.sl .step b),(3,.iptr (TL a []) 0),(33,.sl .step b),(34,dI (b.length:Int)),(35,dI d)],[]⟩ (zQ 0 (sK gW Tryz.f88 [1,1,1,1,1] 0 (eK Tryz.f88 R)))
theorem Uc(c:zG)(a:List zU)(R:xO)(d:Nat)(b:Int):eE c a R (d+1) b=
 (zP (decide (b<(a.length:Int)))
 (vW b a.length=true∧
 zP (decide (((yO .step a b.toNat).kind)=1))
 (zP (decide (((yO .step a b.toNat).con)<0))
 (R (dI 5))
 (zP (decide ((c.cons.length:Int)≤((yO .step a b.toNat).con)))
 (R (dI 5))
 (eE c a R d (yU (b+1)))))
 (eE c a R d (yU (b+1))))
 (R (dI 0))):=by kernel_rfl
theorem Ud(c:zG)(a:List zU)(R:xO)(d:Nat)(b:Int):Z3 c a R (d+1) b=
 (zP (decide (b<(a.length:Int)))
 (vW b a.length=true∧
 xK fO [dM c,.sl .lit ((yO .step a b.toNat).clause)] .int λe=>
 zP (!decide (e=0))
 (R (dI e))
 (Z3 c a R d (yU (b+1))))
 (∃n2,eE c a R n2 0)):=by kernel_rfl
theorem F9(a:zG)(b:List (List zC))(c:List zU)(R:xO):FD gW Tryz.f88 [dM a,.sl (.list .lit) b,.sl .step c] R=
 (xK kB [dM a] .int λd=>
 zP (!decide (d=0))
 (R (dI d))
 (zP (decide (600<(b.length:Int)))
 (R (dI 2))
 (zP (decide (6000<(c.length:Int)))
 (R (dI 2))
 (xK X8 [dM a,.sl (.list .lit) b] .int λe=>
 zP (!decide (e=0))
 (R (dI e))
 (∃n0,Z3 a c R n0 0))))):=by kernel_rfl
theorem He(a:zG)(b:List (List zC))(c:List zU):wC gW Tryz.f88 YO [dM a,.sl (.list .lit) b,.sl .step c]:=wJ Tryz.func88 (by kernel_rfl) Tryz.ntmps88 rfl
def Xy:wA:= {own:=[45],live:=[],n:=49}
theorem RC(c:List zN)(d:List zE)(e f:Int)(b:List (List zC))(a:zU)(R:pR):FH Xy Tryz.f89 [.ptr 1000 0,dSt a] [(1000,.cells [.sl .var c,.sl .con d,dI e,dI f,.own 2000]),(2000,.row 53 (.list .lit) b)] [.ptr 1000 0] false R=
 (zP (decide (a.kind=1))
 (xK cP [.agg [.sl .var c,.sl .con d,dI e,dI f],dI a.con,.sl .lit a.clause] .bool λg=>
 (wN (.list .lit) (b.length+([a.clause]).length)=true∧
 R (dB g) [(1000,.cells [.sl .var c,.sl .con d,dI e,dI f,.own 2000]),(2000,.row 53 (.list .lit) (b++([a.clause])))])∧
 (wN (.list .lit) (b.length+([a.clause]).length)=true∧
 R (dB g) [(1000,.cells [.sl .var c,.sl .con d,dI e,dI f,.own 2000]),(2000,.row 53 (.list .lit) (b++([a.clause])))])∧
 (wN (.list .lit) (b.length+([a.clause]).length)=true∧
 R (dB g) [(1000,.cells [.sl .var c,.sl .con d,dI e,dI f,.own 2000]),(2000,.row 53 (.list .lit) (b++([a.clause])))])∧
 (wN (.list .lit) (b.length+([a.clause]).length)=true∧
 R (dB g) [(1000,.cells [.sl .var c,.sl .con d,dI e,dI f,.own 2000]),(2000,.row 53 (.list .lit) (b++([a.clause])))])∧
 wN (.list .lit) (b.length+([a.clause]).length)=true∧
 R (dB g) [(1000,.cells [.sl .var c,.sl .con d,dI e,dI f,.own 2000]),(2000,.row 53 (.list .lit) (b++([a.clause])))])
 (zP (decide (a.kind=2))
 (zP (decide (a.con=0))
 (xK Zw [.agg [.sl .var c,.sl .con d,dI e,dI f],.sl (.list .lit) b,.sl .lit a.clause] .bool λh=>
 (wN (.list .lit) (b.length+([a.clause]).length)=true∧
 R (dB h) [(1000,.cells [.sl .var c,.sl .con d,dI e,dI f,.own 2000]),(2000,.row 53 (.list .lit) (b++([a.clause])))])∧
 (wN (.list .lit) (b.length+([a.clause]).length)=true∧
 R (dB h) [(1000,.cells [.sl .var c,.sl .con d,dI e,dI f,.own 2000]),(2000,.row 53 (.list .lit) (b++([a.clause])))])∧
 (wN (.list .lit) (b.length+([a.clause]).length)=true∧
 R (dB h) [(1000,.cells [.sl .var c,.sl .con d,dI e,dI f,.own 2000]),(2000,.row 53 (.list .lit) (b++([a.clause])))])∧
 (wN (.list .lit) (b.length+([a.clause]).length)=true∧
 R (dB h) [(1000,.cells [.sl .var c,.sl .con d,dI e,dI f,.own 2000]),(2000,.row 53 (.list .lit) (b++([a.clause])))])∧
 wN (.list .lit) (b.length+([a.clause]).length)=true∧
 R (dB h) [(1000,.cells [.sl .var c,.sl .con d,dI e,dI f,.own 2000]),(2000,.row 53 (.list .lit) (b++([a.clause])))])
 ((wN (.list .lit) (b.length+([a.clause]).length)=true∧
 R (dB false) [(1000,.cells [.sl .var c,.sl .con d,dI e,dI f,.own 2000]),(2000,.row 53 (.list .lit) (b++([a.clause])))])∧
 (wN (.list .lit) (b.length+([a.clause]).length)=true∧
 R (dB false) [(1000,.cells [.sl .var c,.sl .con d,dI e,dI f,.own 2000]),(2000,.row 53 (.list .lit) (b++([a.clause])))])∧
 (wN (.list .lit) (b.length+([a.clause]).length)=true∧
 R (dB false) [(1000,.cells [.sl .var c,.sl .con d,dI e,dI f,.own 2000]),(2000,.row 53 (.list .lit) (b++([a.clause])))])∧
 (wN (.list .lit) (b.length+([a.clause]).length)=true∧
 R (dB false) [(1000,.cells [.sl .var c,.sl .con d,dI e,dI f,.own 2000]),(2000,.row 53 (.list .lit) (b++([a.clause])))])∧
 wN (.list .lit) (b.length+([a.clause]).length)=true∧
 R (dB false) [(1000,.cells [.sl .var c,.sl .con d,dI e,dI f,.own 2000]),(2000,.row 53 (.list .lit) (b++([a.clause])))]))
 ((wN (.list .lit) (b.length+([a.clause]).length)=true∧
 R (dB false) [(1000,.cells [.sl .var c,.sl .con d,dI e,dI f,.own 2000]),(2000,.row 53 (.list .lit) (b++([a.clause])))])∧
 (wN (.list .lit) (b.length+([a.clause]).length)=true∧
 R (dB false) [(1000,.cells [.sl .var c,.sl .con d,dI e,dI f,.own 2000]),(2000,.row 53 (.list .lit) (b++([a.clause])))])∧
 (wN (.list .lit) (b.length+([a.clause]).length)=true∧
 R (dB false) [(1000,.cells [.sl .var c,.sl .con d,dI e,dI f,.own 2000]),(2000,.row 53 (.list .lit) (b++([a.clause])))])∧
 (wN (.list .lit) (b.length+([a.clause]).length)=true∧
 R (dB false) [(1000,.cells [.sl .var c,.sl .con d,dI e,dI f,.own 2000]),(2000,.row 53 (.list .lit) (b++([a.clause])))])∧
 wN (.list .lit) (b.length+([a.clause]).length)=true∧
 R (dB false) [(1000,.cells [.sl .var c,.sl .con d,dI e,dI f,.own 2000]),(2000,.row 53 (.list .lit) (b++([a.clause])))]))):=by kernel_rfl
theorem Su(a:List zN)(b:List zE)(c d:Int)(e:List (List zC))(f:zU):oH Xy Tryz.f89 lF [.ptr 1000 0,dSt f] [(1000,.cells [.sl .var a,.sl .con b,dI c,dI d,.own 2000]),(2000,.row 53 (.list .lit) e)] [.ptr 1000 0] false:=oT Tryz.func89 (by kernel_rfl) Tryz.ntmps89 rfl
def OQ:wA:= {own:=[],live:=[],n:=20}
theorem Ea(a:zG)(b:Int)(c:List zC)(R:xO):FD OQ Tryz.f127 [dM a,dI b,.sl .lit c] R=
 (xK lE [dM a] (.list (.list .int)) λd=>
 xK kX [dS d,.sl .lit c] (.list (.list .int)) λe=>
 vW b a.cons.length=true∧
 xK lH [dC (yO .con a.cons b.toNat),dS e] (.list (.list .int)) λf=>
 xK yX [dS f] .bool λg=>
 R (dB g)):=by kernel_rfl
theorem Hf(a:zG)(b:Int)(c:List zC):wC OQ Tryz.f127 cP [dM a,dI b,.sl .lit c]:=wJ Tryz.func127 (by kernel_rfl) Tryz.ntmps127 rfl
def QV:wA:= {own:=[],live:=[],n:=17}
theorem Hg(a:zG)(b:List (List zC))(c:List zC)(R:xO):FD QV Tryz.f129 [dM a,.sl (.list .lit) b,.sl .lit c] R=
 (xK lE [dM a] (.list (.list .int)) λd=>
 xK kX [dS d,.sl .lit c] (.list (.list .int)) λe=>
 xK gR [dM a,dS e,dB false,.sl (.list .lit) b] (.list (.list .int)) λf=>
 xK yX [dS f] .bool λg=>
 R (dB g)):=by kernel_rfl
theorem Jm(a:zG)(b:List (List zC))(c:List zC):wC QV Tryz.f129 Zw [dM a,.sl (.list .lit) b,.sl .lit c]:=wJ Tryz.func129 (by kernel_rfl) Tryz.ntmps129 rfl
noncomputable def kN (m:zG)(con:Int)(c:List zC):Bool:=zT (yQ (yW m con) (dY (wT m) c))
noncomputable def Sv (m:zG)(l:List (List zC))(c:List zC):Bool:=zT (qC m false l (dY (wT m) c))
noncomputable def Yl (m:zG)(all:List (List zC))(st:zU):Bool:=if st.kind=1 then kN m st.con st.clause else if st.kind=2 then decide (st.con=0)&&Sv m all st.clause else false
noncomputable def pO (m:zG):List (List zC)→List zU→Bool
 |_,[]=>true
 |all,st::l=>Yl m all st&&pO m (all++[st.clause]) l
def Zg(l:List zU):Bool:=decide (0<l.length)&&decide (((l.getD (l.length-1) ⟨0,0,[]⟩).clause).length=0)
noncomputable def aP (m:zG)(given:List (List zC))(l:List zU):Bool:=pO m given l&&Zg l
theorem xU{m:zG}:(wT m).length=m.vars.length:=List.length_map ..
theorem bJ{m:zG}{v:Nat}(hv:v<m.vars.length):(wT m).getD v []=Tb m.vars[v]:=by
 rw[yE _ (by rw[xU];exact hv)];simp[wT]
theorem YF{v:zN}{n:Int}:n∈Tb v↔v.lo≤n∧n≤v.hi:=by rw[Tb,So];omega
theorem Xz{m:zG}:fg m (wT m)=0:=by
 refine V3.2 ⟨xU,λv n hn=> ?_,λl hl=> ?_⟩
 ·by_cases hv:v<m.vars.length
  ·rw[bJ hv,YF]at hn
   rw[yE _ hv];exact hn
  ·rw[qJ (by rw[xU];omega)]at hn;cases hn
 ·obtain⟨v,hv,rfl⟩:=List.mem_map.1 hl
  exact NR
theorem Wp{s:List (List Int)}{c:List zC}:cI (dY s c) s:=Vd
theorem zby{m:zG}{c:List zC}:fg m (dY (wT m) c)=0:=Pz Xz Wp
theorem CL{m:zG}(h:Right m){c:List zC}:fB (dY (wT m) c) m.vars.length:=Xx h zby
theorem HZ{m:zG}(hr:Right m):tU lE [dM m] (dS (wT m)):=Do hr.lohi hr.vars
theorem QW{m:zG}{con:Int}{c:List zC}(h:HX m con=0):tU cP [dM m,dI con,.sl .lit c] (dB (kN m con c)):=
 Hf m con c λok=>by
  obtain⟨hr,hc⟩:=lX h;have hg:=CL hr (c:=c);have hl:=hg.len;rw[Ea];refine zH (HZ hr) (zH (V7 _ _) ⟨rS.2 hc,zH (bI (c:=yW m con) (by rw[hl];exact nN h) (by rw[hl];exact hg)) (zH (vD _) rfl)⟩)
theorem Hh{m:zG}{l:List (List zC)}{c:List zC}(h:yR m l)(hl:l.length≤1000000000):tU Zw [dM m,.sl (.list .lit) l,.sl .lit c] (dB (Sv m l c)):=
 Jm m l c λok=>by
  rw[Hg];exact zH (HZ h.right) (zH (V7 _ _) (zH (Vh h (CL h.right) hl) (zH (vD _) rfl)))
theorem Tm{a b:Int}(h:or0 a b=0):a=0∧b=0:=by
 by_cases e:a=0
 ·rw[RX e]at h;exact⟨e,h⟩
 ·rw[Kk e]at h;exact absurd h e
structure H1 (m:zG)(given:List (List zC))(l:List zU):Prop where
 chk:xL m=0
 glen:given.length≤600
 slen:l.length≤6000
 gcl:∀c∈given,yP m.vars.length c=0
 scl:∀s∈l,yP m.vars.length s.clause=0
 con:∀s∈l,s.kind=1→0≤s.con∧s.con<(m.cons.length:Int)
def bK(m:zG)(s:zU):Int:=if s.kind=1∧(s.con<0∨(m.cons.length:Int)≤s.con)then 5 else 0
def iU(m:zG)(given:List (List zC))(l:List zU):Int:=
 if 600<given.length∨6000<l.length then 2 else or0 (Wo m.vars.length given) (or0 (wK (λ_ s=>yP m.vars.length s.clause) 0 l) (wK (λ_ s=>bK m s) 0 l))
def zfW(m:zG)(given:List (List zC))(l:List zU):Int:=or0 (xL m) (iU m given l)
theorem Eb{m:zG}{given:List (List zC)}{l:List zU}(h:xL m=0)(h2:iU m given l=0):H1 m given l:=by
 unfold iU at h2
 split at h2
 ·exact absurd h2 (by decide)
 rename_i h3;obtain⟨h4,h5⟩:=Tm h2;obtain⟨h6,h7⟩:=Tm h5;obtain⟨h8,h9⟩:=Az h4;refine⟨h,h8,by omega,h9,λs hs=> ?_,λs hs hk=> ?_⟩
 ·obtain⟨i,hi,rfl⟩:=List.getElem_of_mem hs
  exact aK h6 hi
 ·obtain⟨i,hi,rfl⟩:=List.getElem_of_mem hs
  have:=aK h7 hi;simp only[bK,hk,true_and]at this
  split at this
  ·exact absurd this (by decide)
  ·omega
theorem zfX{m:zG}{given:List (List zC)}{l:List zU}(h:zfW m given l=0):H1 m given l:=let⟨a,b⟩:=Tm h;Eb a b
theorem Ec(m:zG)(given:List (List zC))(l:List zU):tU YO [dM m,.sl (.list .lit) given,.sl .step l] (dI (zfW m given l)):=
 He m given l λok=>by
  rw[F9];refine zH (ZN m) (zA (λe=> ?_) λe=> ?_)
  ·exact tE (Kk (lA e))
  rw[zfW,RX (oF e)];refine zA (λf=> ?_) λf=>zA (λg=> ?_) λg=> ?_
  ·exact tE (if_pos (.inl (by simp at f;omega)))
  ·exact tE (if_pos (.inr (by simp at g;omega)))
  have f:¬600<given.length:=by simp at f;omega
  have g:¬6000<l.length:=by simp at g;omega
  rw[iU,if_neg (by omega)]
  refine zH (DF m given) (zA (λe=> ?_) λe=> ?_)
  ·exact tE (Kk (lA e))
  rw[RX (oF e)];refine zkl (I:=λn v=>Z3 m l _ n v) l (λ_ s=>yP m.vars.length s.clause) (by omega) (X:=λx=>D.int .i64 x=dI (or0 (wK (λ_ s=>yP m.vars.length s.clause) 0 l) (wK (λ_ s=>bK m s) 0 l))) (λe=>by rw[Kk e]) (λn k h _ hX hn=> ?_) λh0 n=> ?_
  ·rw[Ud,yC h,zY (t:=.step) h]
   exact⟨zM h,zH (SS m _) (zA (λe=>hX (lA e)) λe=>hn (oF e))⟩
  ·rw[Ud,zX,RX h0]
   refine zcV (I:=λn v=>eE m l _ n v) l (λ_ s=>bK m s) (by omega) (X:=λx=>D.int .i64 x=dI (wK (λ_ s=>bK m s) 0 l)) (Y:=D.int .i64 0=dI (wK (λ_ s=>bK m s) 0 l)) (λ_=>rfl) (λe=>tE e) (λn k h _ hX hn=> ?_) λn hY=> ?_
   ·rw[Uc,yC h,zY (t:=.step) h]
    refine⟨zM h,zA (λe=>zA (λf=> ?_) λf=>zA (λg=> ?_) λg=> ?_) λe=> ?_⟩
    ·rw[bK,if_pos ⟨of_decide_eq_true e,.inl (of_decide_eq_true f)⟩]at hX;exact hX (by decide)
    ·rw[bK,if_pos ⟨of_decide_eq_true e,.inr (of_decide_eq_true g)⟩]at hX;exact hX (by decide)
    ·exact hn (if_neg λx=>by have:=of_decide_eq_false f;have:=of_decide_eq_false g;omega)
    ·exact hn (if_neg λx=>of_decide_eq_false e x.1)
   ·rw[Uc,zX];exact hY
theorem zbz{m:zG}{all:List (List zC)}(h:xL m=0)(hc:∀c∈all,yP m.vars.length c=0):yR m all:=kF h hc
abbrev hpC(m:zG)(all:List (List zC)):List (Nat×yD):=[(1000,.cells [.sl .var m.vars,.sl .con m.cons,.int .i64 m.goal,.int .i64 m.var,.own 2000]),(2000,.row 53 (.list .lit) all)]
theorem RD{m:zG}{all:List (List zC)}{st:zU}(h:xL m=0)(hc:∀c∈all,yP m.vars.length c=0)(hl:all.length≤10000)(hcon:st.kind=1→0≤st.con∧st.con<(m.cons.length:Int)):
  yH lF [.ptr 1000 0,.agg [.int .i64 st.kind,.int .i64 st.con,.sl .lit st.clause]] (hpC m all) (.bool (Yl m all st)) (hpC m (all++[st.clause])):=
 Su m.vars m.cons m.goal m.var all st λ_ _=>by
  have hr:wN (.list .lit) (all.length+([st.clause]).length)=true:=xY (t:=.list .lit) (by show(_+1)*24≤_;omega)
  rw[RC];refine zA (λe=> ?_) λe=>zA (λf=>zA (λg=> ?_) λg=> ?_) λf=> ?_
  ·have e:=of_decide_eq_true e
   refine zH (QW (N2 h (hcon e))) ?_;have hs:Yl m all st=kN m st.con st.clause:=if_pos e;rw[hs]
   repeat'(first|exact hr|exact rfl|apply And.intro)
  ·have e:=of_decide_eq_false e
   have f:=of_decide_eq_true f;refine zH (Hh (zbz h hc) (by omega)) ?_
   have hs:Yl m all st=Sv m all st.clause:=by rw[Yl,if_neg e,if_pos f,g,Bool.true_and]
   rw[hs]
   repeat'(first|exact hr|exact rfl|apply And.intro)
  ·have e:=of_decide_eq_false e
   have f:=of_decide_eq_true f;have hs:Yl m all st=false:=by rw[Yl,if_neg e,if_pos f,g,Bool.false_and]
   rw[hs]
   repeat'(first|exact hr|exact rfl|apply And.intro)
  ·have hs:Yl m all st=false:=by rw[Yl,if_neg (of_decide_eq_false e),if_neg (of_decide_eq_false f)]
   rw[hs]
   repeat'(first|exact hr|exact rfl|apply And.intro)
theorem zjB{l:List zU}(h:0<l.length):yO .step l ((yU ((l.length:Int)-1)).toNat)=l.getD (l.length-1) ⟨0,0,[]⟩∧vW (yU ((l.length:Int)-1)) l.length=true∨9223372036854775807<l.length:=by
 by_cases hb:l.length≤9223372036854775807
 ·rw[wL (by omega) (by omega),show((l.length:Int)-1).toNat=l.length-1 by omega]
  exact .inl ⟨rfl,rS.2 (by omega)⟩
 ·exact .inr (by omega)
theorem QX(m:zG)(given:List (List zC))(l:List zU):tU cN [dM m,.sl (.list .lit) given,.sl .step l] (.tup [dB (orB (zfW m given l) (aP m given l)),dI (zfW m given l)]):=
 Hd m given l λok=>by
  rw[F8];refine zH (Ec m given l) (zA (λe=> ?_) λe=> ?_)
  ·rw[zlp (lA e)]
  have e:=oF e;have hk:=zfX e;have hg:=hk.glen;have hsl:=hk.slen;rw[zkp e,e];refine⟨xY (t:=.list .lit) (by show _*24≤_;omega),?_⟩
  refine up (I:=λn v a=>Z2 l _ n v m.vars m.cons m.goal m.var a) 0 l.length rfl (Nat.zero_le _) (by omega) (λk a=>a.length=given.length+k∧(∀c∈a,yP m.vars.length c=0)∧pO m given l=pO m a (l.drop k)) ⟨rfl,hk.gcl,rfl⟩ λn k a _ hk2 ha hn=> ?_
  obtain⟨h1,h2,h3⟩:=ha;rw[LG]
  by_cases h:k<l.length
  ·rw[yC h,zY (t:=.step) h]
   have hm:=List.getElem_mem h;refine⟨zM h,_,_,RD hk.chk h2 (by omega) (hk.con _ hm),?_⟩
   rw[List.drop_eq_getElem_cons h,pO]at h3
   refine zA (λf=> ?_) λf=>hn h _ ⟨?_,λc hc=> ?_,?_⟩
   ·have f:Yl m a l[k]=false:=by simpa using f
    rw[f,Bool.false_and]at h3
    rw[aP,h3];rfl
   ·rw[List.length_append,h1];rfl
   ·rcases List.mem_append.1 hc with hc|hc
    ·exact h2 c hc
    ·rw[List.mem_singleton.1 hc];exact hk.scl _ hm
   ·have f:Yl m a l[k]=true:=by simpa using f
    rw[f,Bool.true_and]at h3
    exact h3
  ·have hk':k=l.length:=by omega
   subst hk';rw[List.drop_length]at h3
   have h3:pO m given l=true:=h3;rw[zX,aP,h3,Bool.true_and,Zg];refine zA (λf=> ?_) λf=> ?_
   ·have f:0<l.length:=by simpa using f
    obtain⟨q1,q2⟩:=(zjB f).resolve_right (by omega)
    refine⟨q2,?_⟩;rw[q1,decide_eq_true f,Bool.true_and]
    congr 3
    exact decide_eq_decide.2 ⟨λe=>by omega,λe=>by omega⟩
   ·have f:¬0<l.length:=by simpa using f
    rw[decide_eq_false f];rfl
theorem zdu{m:zG}{vs:List Int}(hl:vs.length=m.vars.length)(h:wholeM m vs=true):Vx vs (wT m):=by
 refine⟨by rw[xU,hl],λv hv=> ?_⟩
 rw[xU]at hv
 rw[bJ hv,YF,yE _ (show v<vs.length by omega)]
 rw[wholeM,Bool.and_eq_true,Bool.not_eq_true']at h
 have hz:v<(m.vars.zip vs).length:=by rw[List.length_zip];omega
 have h2:=List.any_eq_false.1 h.1 _ (List.getElem_mem hz);rw[List.getElem_zip,Bool.not_eq_true,Bool.not_eq_false']at h2
 exact GH.1 h2
theorem zeS{s:List (List Int)}{c:List zC}{vs:List Int}(hv:Vx vs s)(hc:∀l∈c,0≤l.var)(h:qZ c vs=false):Vx vs (dY s c):=by
 refine⟨hv.1.trans Wp.1.symm,λv hl=> ?_⟩
 rw[dY,tL]at hl
 rw[dY,tK,List.mem_filter];refine⟨hv.2 v hl,?_⟩;rw[Bool.not_eq_true'];cases e:atC c v (vs.getD v 0)
 ·rfl
 ·obtain⟨l,h1,h2,h3⟩:=Ti.1 e
  have:qZ c vs=true:=kE.2 ⟨l,h1,by rw[h2,Int.toNat_natCast];exact h3⟩
  rw[h]at this;cases this
theorem zbA{m:zG}{con:Int}{c:List zC}(h:HX m con=0)(hc:yP m.vars.length c=0){vs:List Int}(hv:Vx vs (wT m))(ht:vH (yW m con) vs=true)(hb:kN m con c=true):qZ c vs=true:=by
 cases e:qZ c vs with
 |true=>rfl
 |false=>
  obtain⟨hr,_⟩:=lX h;have hd:=zeS hv (λl hl=>(nT.1 ((ZT hc).2 l hl)).1.1) e
  have hop:=Wz (nN h) (by have:=hr.some;omega)
  have:=(hop.keeps (Wp.1.trans xU) hd ht).fail;rw[kN,this]at hb;cases hb
theorem AA{m:zG}{l:List (List zC)}{c:List zC}(h:yR m l)(hc:yP m.vars.length c=0){vs:List Int}(hv:Vx vs (wT m))(ht:∀c∈l,qZ c vs=true)(hb:Sv m l c=true):qZ c vs=true:=by
 cases e:qZ c vs with
 |true=>rfl
 |false=>
  have hd:=zeS hv (λl hl=>(nT.1 ((ZT hc).2 l hl)).1.1) e
  have:=(zfV (cons:=false) h (Wp.1.trans xU) hd (λe=>by cases e) ht).fail
  rw[Sv,this]at hb;cases hb
theorem LH{m:zG}{vs:List Int}(hm:xL m=0)(hv:Vx vs (wT m))(hw:∀c∈m.cons,vH c vs=true):∀(l:List zU) (all:List (List zC)),(∀c∈all,yP m.vars.length c=0)→(∀s∈l,yP m.vars.length s.clause=0)→(∀s∈l,s.kind=1→0≤s.con∧s.con<(m.cons.length:Int))→(∀c∈all,qZ c vs=true)→pO m all l=true→∀s∈l,qZ s.clause vs=true
 |[],_,_,_,_,_,_,s,hs=>by cases hs
 |st::l,all,h1,h2,h3,h4,h5,s,hs=>by
  rw[pO,Bool.and_eq_true]at h5
  obtain⟨h5,h6⟩:=h5;have hc:=h2 st (List.mem_cons_self ..)
  have hst:qZ st.clause vs=true:=by
   rw[Yl]at h5
   split at h5
   ·rename_i hk
    have hcon:=h3 st (List.mem_cons_self ..) hk;refine zbA (N2 hm hcon) hc hv (hw _ ?_) h5;rw[yW,yE _ (show st.con.toNat<m.cons.length by omega)]
    exact List.getElem_mem _
   ·split at h5
    ·rw[Bool.and_eq_true]at h5
     exact AA (kF hm h1) hc hv h4 h5.2
    ·cases h5
  rcases List.mem_cons.1 hs with rfl|hs
  ·exact hst
  ·refine LH hm hv hw l _ (λc hc2=> ?_) (λs hs=>h2 s (List.mem_cons_of_mem _ hs)) (λs hs=>h3 s (List.mem_cons_of_mem _ hs)) (λc hc2=> ?_) h6 s hs
   ·rcases List.mem_append.1 hc2 with hc2|hc2
    ·exact h1 c hc2
    ·rw[List.mem_singleton.1 hc2];exact hc
   ·rcases List.mem_append.1 hc2 with hc2|hc2
    ·exact h4 c hc2
    ·rw[List.mem_singleton.1 hc2];exact hst
theorem zbB{m:zG}{given:List (List zC)}{l:List zU}{vs:List Int}(hk:H1 m given l)(hl:vs.length=m.vars.length)(hw:wholeM m vs=true)(hg:∀c∈given,qZ c vs=true):aP m given l=false:=by
 cases e:aP m given l with
 |false=>rfl
 |true=>
  rw[aP,Zg,Bool.and_eq_true,Bool.and_eq_true,decide_eq_true_iff,decide_eq_true_iff]at e
  obtain⟨h1,h2,h3⟩:=e;have hi:l.length-1<l.length:=by omega
  have:=LH hk.chk (zdu hl hw) (zdt hw) l given hk.gcl hk.scl hk.con hg h1 _ (List.getElem_mem hi);rw[yE _ hi]at h3
  rw[List.length_eq_zero_iff.1 h3]at this
  cases this
def SV:wA:= {own:=[],live:=[],n:=28}
theorem Jn(a:zG)(b:Int)(c:List (List Int))(R:xO):FD SV Tryz.f294 [dM a,dI b,dS c] R=
 (xK yX [dS c] .bool λd=>
 zP d
 (R (.tup [.sl .lit ([]:List zC),dB false]))
 (vW b a.cons.length=true∧
 xK lH [dC (yO .con a.cons b.toNat),dS c] (.list (.list .int)) λe=>
 xK yX [dS e] .bool λf=>
 zP (!f)
 (R (.tup [.sl .lit ([]:List zC),dB false]))
 (xK fQ [dM a,dI b,dS c] (.list .lit) λg=>
 xK kZ [dM a,dI b,.sl .lit ([]:List zC),.sl .lit g] (.list .lit) λh=>
 R (.tup [.sl .lit h,dB true])))):=by kernel_rfl
theorem LI(a:zG)(b:Int)(c:List (List Int)):wC SV Tryz.f294 bS [dM a,dI b,dS c]:=wJ Tryz.func294 (by kernel_rfl) Tryz.ntmps294 rfl
def QY:wA:= {own:=[],live:=[],n:=48}
theorem Hi(c:zG)(d:Int)(a:List (List Int))(b e:Int)(R:xO):FD QY Tryz.f295 [dM c,dI d,dS a,dI b,dI e] R=
 (xK yX [dS a] .bool λg=>
 zP g
 (R (.tup [.sl .lit ([]:List zC),dB false]))
 (vW b a.length=true∧
 xK wU [.sl .int (yO (.list .int) a b.toNat),dI e] .bool λh=>
 zP (!h)
 (R (.tup [.sl .lit ([]:List zC),dB false]))
 (vW d c.cons.length=true∧
 xK lH [dC (yO .con c.cons d.toNat),dS a] (.list (.list .int)) λf=>
 vW b f.length=true∧
 xK wU [.sl .int (yO (.list .int) f b.toNat),dI e] .bool λi=>
 zP i
 (R (.tup [.sl .lit ([]:List zC),dB false]))
 (xK fQ [dM c,dI d,dS a] (.list .lit) λj=>
 xK kZ [dM c,dI d,.sl .lit ([(⟨b,4,e⟩:zC)]),.sl .lit j] (.list .lit) λk=>
 R (.tup [.sl .lit k,dB true]))))):=by kernel_rfl
theorem Jo(a:zG)(b:Int)(c:List (List Int))(d e:Int):wC QY Tryz.f295 ZE [dM a,dI b,dS c,dI d,dI e]:=wJ Tryz.func295 (by kernel_rfl) Tryz.ntmps295 rfl
def dF:wA:= {own:=[],live:=[(0,([1,2,3,4,9],[]))],n:=38}
def lZ(a:zG)(b:Int)(c:List zC)(R:xO)(d:Nat)(e:List zC)(f:Int):Prop:=LP dF Tryz.f311 [1,0,1,0,0] 0 d ⟨[(1,dI b),(2,.sl .lit c),(3,.sl .lit e),(4,.iptr (TL a []) 0),(9,dI f)],[]⟩ (zQ 0 (sK dF Tryz.f311 [1,1] 0 (eK Tryz.f311 R)))
theorem XA(d:zG)(e:Int)(c:List zC)(R:xO)(f:Nat)(a:List zC)(b:Int):lZ d e c R (f+1) a b=
 (zP (decide (b<(a.length:Int)))
 (Mn 0 b a.length=true∧
 Mn (yU (b+1)) (a.length:Int) a.length=true∧
 xK wW [.sl (.list .lit) ([(a.take b.toNat).drop 0,(a.take (a.length:Int).toNat).drop (yU (b+1)).toNat])] (.list .lit) λg=>
 xK wW [.sl (.list .lit) ([c,g])] (.list .lit) λh=>
 xK cP [dM d,dI e,.sl .lit h] .bool λi=>
 zP i
 (lZ d e c R f g b)
 (lZ d e c R f a (yU (b+1))))
 (xK wW [.sl (.list .lit) ([c,a])] (.list .lit) λj=>
 R (.sl .lit j))):=by kernel_rfl
theorem LJ(a:zG)(b:Int)(c d:List zC)(R:xO):FD dF Tryz.f311 [dM a,dI b,.sl .lit c,.sl .lit d] R=
 (∃n0,lZ a b c R n0 d 0):=by kernel_rfl
theorem N5(a:zG)(b:Int)(c d:List zC):wC dF Tryz.f311 kZ [dM a,dI b,.sl .lit c,.sl .lit d]:=wJ Tryz.func311 (by kernel_rfl) Tryz.ntmps311 rfl
def oC:wA:= {own:=[7,50],live:=[(0,([2,3,7,16,17,18],[7])),(2,([2,3,7,9,10,16,17,18],[7]))],n:=53}
def gL(a:zG)(d:List (List Int))(R:xO)(b:List Int)(e:Nat)(c:Int)(f:Nat)(g:Int)(h:List zC):Prop:=LP oC Tryz.f312 [1,1,0,1,0,0,1,1,0,0,1,1,0,0] 2 f ⟨[(2,dS d),(3,.iptr (TL a []) 0),(7,.own 7),(9,dI (yO .int b c.toNat)),(10,dI g),(16,.sl .int b),(17,dI (b.length:Int)),(18,dI c)],[(7,.row 114 .lit h)]⟩ (zQ 2 (zQ 1 (sK oC Tryz.f312 [1,1,0,1,0,0,1,1,1] 0 (iK oC Tryz.f312 [1,1,0,1,0,0] 0 e (zQ 0 (sK oC Tryz.f312 [1,1,1] 0 (eK Tryz.f312 R)))))))
def bY(a:zG)(c:List (List Int))(R:xO)(b:List Int)(d:Nat)(e:Int)(f:List zC):Prop:=LP oC Tryz.f312 [1,1,0,1,0,0] 0 d ⟨[(2,dS c),(3,.iptr (TL a []) 0),(7,.own 7),(16,.sl .int b),(17,dI (b.length:Int)),(18,dI e)],[(7,.row 114 .lit f)]⟩ (zQ 0 (sK oC Tryz.f312 [1,1,1] 0 (eK Tryz.f312 R)))
theorem N6(d:zG)(e:List (List Int))(R:xO)(a:List Int)(g:Nat)(b:Int)(h:Nat)(c:Int)(f:List zC):gL d e R a g b (h+1) c f=
 (vW (yO .int a b.toNat) d.vars.length=true∧
 zP (decide (c≤((yO .var d.vars ((yO .int a b.toNat).toNat)).hi)))
 (vW (yO .int a b.toNat) e.length=true∧
 xK wU [.sl .int (yO (.list .int) e ((yO .int a b.toNat).toNat)),dI c] .bool λi=>
 zP (!i)
 (wN .lit (f.length+([(⟨yO .int a b.toNat,3,c⟩:zC)]).length)=true∧
 gL d e R a g b h (yU (c+1)) (f++([(⟨yO .int a b.toNat,3,c⟩:zC)])))
 (gL d e R a g b h (yU (c+1)) f))
 (bY d e R a g (yU (b+1)) f)):=by kernel_rfl
theorem N7(c:zG)(e:List (List Int))(R:xO)(a:List Int)(f:Nat)(b:Int)(d:List zC):bY c e R a (f+1) b d=
 (zP (decide (b<(a.length:Int)))
 (vW b a.length=true∧
 vW (yO .int a b.toNat) c.vars.length=true∧
 ∃n2,gL c e R a f b n2 ((yO .var c.vars ((yO .int a b.toNat).toNat)).lo) d)
 (R (.sl .lit d))):=by kernel_rfl
theorem Hj(a:zG)(b:Int)(c:List (List Int))(R:xO):FD oC Tryz.f312 [dM a,dI b,dS c] R=
 (vW b a.cons.length=true∧
 xK iA [dC (yO .con a.cons b.toNat)] (.list .int) λd=>
 ∃n0,bY a c R d n0 0 ([]:List zC)):=by kernel_rfl
theorem Jp(a:zG)(b:Int)(c:List (List Int)):wC oC Tryz.f312 fQ [dM a,dI b,dS c]:=wJ Tryz.func312 (by kernel_rfl) Tryz.ntmps312 rfl
theorem zfY(w:World):Calls Tryz.prog 320 #[.slice none 0 0,.int .i64 0] w λe w'=>e=.returned (.slice none 0 0)∧w=w':=by
 go_enter Tryz.func320,Tryz.ntmps320
 go_wp2
 all_goals go_ret
 all_goals exact⟨rfl,rfl⟩
set_option maxRecDepth 100000 in
theorem zfZ(n:Nat)(h0:0<n)(h:n*24≤140737488355328)(w:World):Calls Tryz.prog 320 #[.slice none 0 0,.int .i64 n] w λe w'=>∃cap cells,e=.returned (.slice (some ⟨w.heap.size,0,none⟩) 0 cap)∧w'.heap[w.heap.size]? =some (.cells cells 114 (0,0))∧cells.size=cap*3∧cap≤maxLen∧w'.heap.size=w.heap.size+1∧Below w.heap.size w w':=by
 go_enter Tryz.func320,Tryz.ntmps320
 have happ:=Lib.run_append_nil_zeros (P:=Tryz.prog) w 53 3 53 114 Tryz.t114 (.agg #[.int .i64 0,.int .i64 0,.int .i64 0]) .i64 .i64 Tryz.underlying53 Tryz.underlying3 (by kernel_rfl) (by kernel_rfl) n h0 (by decide) (by omega) (by show n*24≤_;omega)
 have hcap:=grownCap_le_maxLen w n 0 114 (by unfold maxLen;omega)
 have hge:=grownCap_ge w n 0 114;generalize grownCap w n 0 114=cap at happ hcap hge
 have hZs:(Builtin.zeroCells (Value.agg #[.int .i64 0,.int .i64 0,.int .i64 0]).cells n++Builtin.zeroCells (Value.agg #[.int .i64 0,.int .i64 0,.int .i64 0]).cells (cap-n)).size=cap*3:=by
  simp[size_zeroCells,Value.cells];omega
 generalize Builtin.zeroCells (Value.agg #[.int .i64 0,.int .i64 0,.int .i64 0]).cells n++Builtin.zeroCells (Value.agg #[.int .i64 0,.int .i64 0,.int .i64 0]).cells (cap-n)=Z at happ hZs
 go_wp2_with (at_builtin;refine Lib.wpList_append_run _ rfl _ _ _ _ rfl _ _ rfl rfl _ _ happ ?_)
 go_ret
 exact⟨cap,Z,rfl,heap_alloc_new w _,hZs,hcap,by simp,⟨rfl,rfl,rfl,by simp,λk hk=>Below.heap_alloc w _ k hk⟩⟩
theorem H3{w w':World}{S:Nat→Prop}{pl:Nat→Value}{v:Value}{e:TypeId}{t:Ty}{xs:List t.den}(hS:∀b,S b→b<w.heap.size)(hob:∀pl',Xf w' S pl' v (.row e t xs))(hb:∀b,pY v=some b→w.heap.size≤b∧b<w'.heap.size)(hw:Below w.heap.size w w'):
  ∃v' S' pl',Ending.returned v=.returned v'∧Rd w' S' pl' v' (.own 3000)∧Bs w' S' pl' [(3000,.row e t xs)]∧(∀b,S' b→b<w'.heap.size)∧(∀b,S' b→S b∨nS pl [] b∨w.heap.size≤b)∧
   (∀b,nS pl' [(3000,.row e t xs)] b→nS pl [] b∨w.heap.size≤b)∧(∀k,stabK k=true→pl' k=pl k)∧qB w.heap.size (nS pl []) w w':=by
 have hlook:∀k o,zZ k [(3000,yD.row e t xs)]=some o→k=3000∧o=.row e t xs:=λk o h=>by
  rw[xX]at h
  split at h
  ·rename_i hk;injection h with h;exact⟨hk.symm,h.symm⟩
  ·cases h
 refine⟨v,S,λj=>if j=3000 then v else pl j,rfl,(if_pos rfl).symm,⟨λk o h=> ?_,λk o b h hb2=> ?_,λk k' o o' b h h' _ _=> ?_⟩,λb h=>Nat.lt_of_lt_of_le (hS b h) hw.size,λb h=> .inl h,λb h=> ?_,λk hk=>if_neg (λe=>by rw[e]at hk;cases hk),.of hw⟩
 ·obtain⟨rfl,rfl⟩:=hlook k o h
  exact hob _
 ·obtain⟨rfl,rfl⟩:=hlook k o h
  have hb2:pY v=some b:=hb2;exact⟨(hb b hb2).2,λhs=>by have:=hS b hs;have:=(hb b hb2).1;omega⟩
 ·rw[(hlook k o h).1,(hlook k' o' h').1]
 ·obtain⟨k,o,h1,h2⟩:=h
  obtain⟨rfl,rfl⟩:=hlook k o h1;have h2:pY v=some b:=h2;exact .inr (hb b h2).1
theorem Ed(n:Nat)(hn:n*24≤140737488355328):yH qU [.nil,dI n] [] (.own 3000) [(3000,.row 114 .lit [])]:=by
 intro w S vs pl hS hl hv hh _;have e0:vs.getD 0 undef=.slice none 0 0:=Rp.nil_inv (hv 0 _ rfl);have e1:vs.getD 1 undef=.int .i64 n:=(Rp.int_inv (hv 1 _ rfl)).1
 have ev:vs= #[.slice none 0 0,.int .i64 n]:=by
  have hl2:vs.size=2:=hl;apply Array.ext (by simp[hl2])
  intro i h1 h2;simp[Array.getD_eq_getD_getElem?]at e0 e1
  match i,h1 with
  |0,h1=>rw[Array.getElem?_eq_getElem h1]at e0;simpa using e0
  |1,h1=>rw[Array.getElem?_eq_getElem h1]at e1;simpa using e1
  |i+2,h1=>exact absurd h1 (by omega)
 subst ev
 by_cases h0:n=0
 ·subst h0
  refine(zfY w).mono λe w' ⟨he,hw⟩=> ?_
  subst he hw;exact H3 (t:=.lit) (xs:=[]) hS (λpl'=>⟨by show 0*24≤lim;exact Nat.le_of_ble_eq_true rfl,[],rfl,⟨rfl,.inl ⟨rfl,rfl⟩⟩,λcs h=>(by cases h),λi x cs h=>(by cases h)⟩) (λb h=>by cases h) (Below.refl _ _)
 ·refine(zfZ n (by omega) hn w).mono λe w' ⟨cap,cells,he,h1,h2,h3,h4,h5⟩=> ?_
  subst he;refine H3 (t:=.lit) (xs:=[]) hS (λpl'=>⟨by show 0*24≤lim;exact Nat.le_of_ble_eq_true rfl,[],rfl,⟨rfl,.inr ⟨w.heap.size,cap,cells,rfl,Nat.zero_le _,h1,Nat.zero_le _,h3,h2,rfl⟩⟩,λcs h=>(by cases h),λi x cs h=>(by cases h)⟩) (λb h=> ?_) h5
  have:w.heap.size=b:=by injection h
  omega
theorem dG{ls:List (List zC)}(hl:ls.length≤1000)(hr:∀l∈ls,l.length≤1000000):tU wW [.sl (.list .lit) ls] (.sl .lit ls.flatten):=
 cE ls λok=>by
  have flat:∀k,((ls.take k).flatten).length≤k*1000000:=λk=>by
   have h1:∀xs:List (List zC),(∀l∈xs,l.length≤1000000)→xs.flatten.length≤xs.length*1000000:=λxs=>by
    induction xs with
    |nil=>exact λ_=>Nat.le_refl _
    |cons a xs ih=>
     intro h;have h1:=h a (List.mem_cons_self ..);have h2:=ih λl hl=>h l (List.mem_cons_of_mem _ hl)
     rw[List.flatten_cons,List.length_append,List.length_cons];omega
   have:=h1 (ls.take k) λl hl=>hr l (List.mem_of_mem_take hl)
   rw[List.length_take]at this
   exact Nat.le_trans this (Nat.mul_le_mul_right _ (Nat.min_le_left ..))
  have ftake:∀(k:Nat) (h:k<ls.length),(ls.take (k+1)).flatten=(ls.take k).flatten++ls[k]:=λk h=>by
   rw[←List.take_append_getElem h,List.flatten_append];simp
  rw[cV];refine up (I:=λn v (a:Int)=>tD ls _ n a v) 0 ls.length rfl (Nat.zero_le _) (by omega) (λk a=>a=(((ls.take k).flatten).length:Int)) rfl λn k a _ hk ha hn=> ?_
  subst ha;rw[fW];have hf:=flat k
  by_cases h:k<ls.length
  ·have hm:=hr _ (List.getElem_mem h)
   rw[yC h,zY (t:=.list .lit) h,wL (by omega) (by omega)]
   refine⟨zM h,df (by omega) (hn h _ ?_)⟩
   rw[ftake k h,List.length_append];omega
  ·have hk':k=ls.length:=by omega
   subst hk';rw[zX];refine⟨[],Ed _ (by omega),?_⟩
   refine up (I:=λn v (a:List zC)=>tC ls _ n v a) 0 ls.length rfl (Nat.zero_le _) (by omega) (λk a=>a=(ls.take k).flatten) rfl λn k a _ hk ha hn=> ?_
   subst ha;rw[fV];have hf:=flat k
   by_cases h:k<ls.length
   ·have hm:=hr _ (List.getElem_mem h)
    rw[yC h,zY (t:=.list .lit) h];refine⟨zM h,xY (t:=.lit) ?_,hn h _ (ftake k h).symm⟩;show(_+_)*24≤_
    omega
   ·have hk':k=ls.length:=by omega
    subst hk';rw[zX,List.take_length]
def J7(s:List (List Int))(v:Int)(l:List Int):List zC:=(l.filter λn=> !eB (s.getD v.toNat []) n).map λn=>⟨v,3,n⟩
def gM(m:zG)(s:List (List Int))(sc:List Int):List zC:=sc.flatMap λv=>J7 s v (wT m|>.getD v.toNat [])
def Sw(p:List zC→Bool):Nat→List zC→Nat→List zC
 |0,l,_=>l
 |k+1,l,i=>if i<l.length then(if p (l.eraseIdx i)=true then Sw p k (l.eraseIdx i) i else Sw p k l (i+1))else l
def AB(p:List zC→Bool)(l:List zC):List zC:=Sw p l.length l 0
noncomputable def LK (m:zG)(con:Int)(must l:List zC):List zC:=must++AB (λl=>kN m con (must++l)) l
theorem LL(p:List zC→Bool):∀(k:Nat) (l:List zC) (i:Nat),(Sw p k l i).Sublist l
 |0,l,i=>List.Sublist.refl _
 |k+1,l,i=>by
  rw[Sw];split
  ·split
   ·exact(LL p k _ i).trans (List.eraseIdx_sublist ..)
   ·exact LL p k l (i+1)
  ·exact List.Sublist.refl _
theorem PB(p:List zC→Bool):∀(k:Nat) (l:List zC) (i:Nat),p l=true→p (Sw p k l i)=true
 |0,l,i,h=>h
 |k+1,l,i,h=>by
  rw[Sw];split
  ·split
   ·rename_i e;exact PB p k _ i e
   ·exact PB p k l (i+1) h
  ·exact h
theorem Hk{l:List zC}{i j:Nat}{x:zC}(h:j<i)(hx:x∈(l.eraseIdx i).eraseIdx j):x∈l.eraseIdx j:=by
 induction l generalizing i j with
 |nil=>cases i<;>cases hx
 |cons a l ih=>
  cases i with
  |zero=>exact absurd h (Nat.not_lt_zero _)
  |succ i=>
   rw[List.eraseIdx_cons_succ]at hx
   cases j with
   |zero=>
    rw[List.eraseIdx_cons_zero]at hx⊢
    exact(List.eraseIdx_sublist ..).subset hx
   |succ j=>
    rw[List.eraseIdx_cons_succ]at hx⊢
    rcases List.mem_cons.1 hx with rfl|hx
    ·exact List.mem_cons_self ..
    ·exact List.mem_cons_of_mem _ (ih (by omega) hx)
theorem Ee(p:List zC→Bool)(hp:∀a b:List zC,(∀x∈a,x∈b)→p a=true→p b=true):∀(k:Nat) (l:List zC) (i:Nat),l.length≤k+i→(∀j,j<i→j<l.length→p (l.eraseIdx j)=false)→∀j,j<(Sw p k l i).length→p ((Sw p k l i).eraseIdx j)=false
 |0,l,i,hk,h,j,hj=>h j (by have:(Sw p 0 l i).length=l.length:=rfl;omega) hj
 |k+1,l,i,hk,h,j,hj=>by
  rw[Sw]at hj⊢
  by_cases h1:i<l.length
  ·rw[if_pos h1]at hj⊢
   by_cases h2:p (l.eraseIdx i)=true
   ·rw[if_pos h2]at hj⊢
    have hl:(l.eraseIdx i).length=l.length-1:=List.length_eraseIdx_of_lt h1;refine Ee p hp k _ i (by omega) (λj' h3 h4=> ?_) j hj
    cases e:p ((l.eraseIdx i).eraseIdx j')
    ·rfl
    ·have h5:=h j' h3 (by omega)
     rw[hp _ (l.eraseIdx j') (λx hx=>Hk h3 hx) e]at h5
     cases h5
   ·rw[if_neg h2]at hj⊢
    refine Ee p hp k l (i+1) (by omega) (λj' h3 h4=> ?_) j hj
    by_cases e:j'=i
    ·subst e;simpa using h2
    ·exact h j' (by omega) h4
  ·rw[if_neg h1]at hj⊢
   exact h j (by omega) hj
theorem zbC(p:List zC→Bool)(hp:∀a b:List zC,(∀x∈a,x∈b)→p a=true→p b=true)(l:List zC):∀j,j<(AB p l).length→p ((AB p l).eraseIdx j)=false:=
 Ee p hp l.length l 0 (Nat.le_refl _) λj h=>absurd h (Nat.not_lt_zero _)
theorem zf0{s:List (List Int)}{c c':List zC}(h:∀x∈c,x∈c'):cI (dY s c') (dY s c):=
 Ve (cI.refl s) λv n _ e=>by
  rw[Bool.not_eq_true']at e⊢
  cases e2:atC c v n
  ·rfl
  ·obtain⟨l,h1,h2,h3⟩:=Ti.1 e2
   rw[Ti.2 ⟨l,h l h1,h2,h3⟩]at e;cases e
theorem zdv{m:zG}{con:Int}(hat:HX m con=0){c c':List zC}(h:∀x∈c,x∈c')(hb:kN m con c=true):kN m con c'=true:=by
 obtain⟨hr,_⟩:=lX hat;have hop:=Wz (nN hat) (by have:=hr.some;omega)
 have hl:(dY (wT m) c).length=m.vars.length:=Wp.1.trans xU;cases e:kN m con c' with
 |true=>rfl
 |false=>
  have h2:=(hop.mono hl (zf0 h) e).fail e;rw[kN,h2]at hb;cases hb
theorem zhY{m:zG}{con:Int}(hat:HX m con=0)(must:List zC):∀a b:List zC,(∀x∈a,x∈b)→kN m con (must++a)=true→kN m con (must++b)=true:=λa b h=>zdv hat λx hx=>by
 rcases List.mem_append.1 hx with hx|hx
 ·exact List.mem_append_left _ hx
 ·exact List.mem_append_right _ (h x hx)
theorem CM{m:zG}{s:List (List Int)}{sc:List Int}{x:zC}:x∈gM m s sc↔x.var∈sc∧x.op=3∧x.n∈(wT m).getD x.var.toNat []∧x.n∉s.getD x.var.toNat []:=by
 rw[gM,List.mem_flatMap];constructor
 ·rintro⟨v,hv,h⟩
  obtain⟨n,hn,rfl⟩:=List.mem_map.1 h;obtain⟨h1,h2⟩:=List.mem_filter.1 hn;refine⟨hv,rfl,h1,λh3=> ?_⟩
  rw[jA.2 h3]at h2;cases h2
 ·rintro⟨h1,h2,h3,h4⟩
  refine⟨x.var,h1,List.mem_map.2 ⟨x.n,List.mem_filter.2 ⟨h3,?_⟩,by cases x;simp only at h2;rw[h2]⟩⟩
  cases e:eB (s.getD x.var.toNat []) x.n
  ·rfl
  ·exact absurd (jA.1 e) h4
theorem zf1{m:zG}{s:List (List Int)}{sc:List Int}(must:List zC){v:Nat}(hv:(v:Int)∈sc){n:Int}(hn:n∈(dY (wT m) (must++gM m s sc)).getD v []):n∈s.getD v []:=by
 rw[dY,tK,List.mem_filter]at hn
 apply Classical.byContradiction;intro h;have h2:=hn.2;rw[Ti.2 ⟨⟨v,3,n⟩,List.mem_append_right _ (CM.2 ⟨hv,rfl,by rw[Int.toNat_natCast];exact hn.1,by rw[Int.toNat_natCast];exact h⟩),rfl,by simp[holdsL]⟩]at h2
 cases h2
theorem zeT{m:zG}{con:Int}{s:List (List Int)}(hat:HX m con=0)(hl:s.length=m.vars.length)(hf:zT s=false)(must:List zC){vs:List Int}(hv:Vx vs (dY (wT m) (must++gM m s (yM (yW m con) m.vars.length))))(ht:vH (yW m con) vs=true):
  ∃us,Vx us s∧vH (yW m con) us=true∧∀v:Nat,(v:Int)∈yM (yW m con) m.vars.length→us.getD v 0=vs.getD v 0:=by
 have hc:=nN hat;obtain⟨ps,hp⟩:=QL hf;have hdl:(dY (wT m) (must++gM m s (yM (yW m con) m.vars.length))).length=m.vars.length:=Wp.1.trans xU;have hg:∀u:Nat,u<s.length→((List.range s.length).map λu:Nat=>if(u:Int)∈yM (yW m con) m.vars.length then vs.getD u 0 else ps.getD u 0).getD u 0=if(u:Int)∈yM (yW m con) m.vars.length then vs.getD u 0 else ps.getD u 0:=λu hu=>Sq hu
 have hs:∀v:Nat,(v:Int)∈yM (yW m con) m.vars.length→v<s.length:=λv h=>by have:=lY _ h;omega
 refine⟨(List.range s.length).map λu:Nat=>if(u:Int)∈yM (yW m con) m.vars.length then vs.getD u 0 else ps.getD u 0,⟨by simp,λu hu=> ?_⟩,?_,λv h=> ?_⟩
 ·rw[hg u hu]
  split
  ·rename_i e
   exact zf1 must e (hv.2 u (by rw[hdl];omega))
  ·exact hp.2 u hu
 ·rw[←ht]
  exact jQ hc λw h5 h6=>by rw[hg w (by omega),if_pos (nU.2 ⟨by omega,h6⟩)]
 ·rw[hg v (hs v h),if_pos h]
theorem AC{m:zG}{con:Int}{s:List (List Int)}(hat:HX m con=0)(hl:s.length=m.vars.length)(hf:zT s=false){v:Nat}{n:Int}(hv:v<s.length)(hn:n∈s.getD v [])(hg:n∉(yQ (yW m con) s).getD v []):
  kN m con ([⟨v,4,n⟩]++gM m s (yM (yW m con) m.vars.length))=true:=by
 have hc:=nN hat;obtain⟨hr,_⟩:=lX hat;have hop:=Wz hc (by have:=hr.some;omega)
 have hdl:(dY (wT m) ([⟨(v:Int),4,n⟩]++gM m s (yM (yW m con) m.vars.length))).length=m.vars.length:=Wp.1.trans xU;cases e:kN m con ([⟨v,4,n⟩]++gM m s (yM (yW m con) m.vars.length))with
 |true=>rfl
 |false=>
  obtain⟨vs,h1,h2⟩:=(hop.nofail hdl).1 e;obtain⟨us,h3,h4,h5⟩:=zeT hat hl hf _ h1 h2
  have hvn:vs.getD v 0=n:=by
   have h6:=h1.2 v (by rw[hdl];omega)
   rw[dY,tK,List.mem_filter,Bool.not_eq_true']at h6
   apply Classical.byContradiction;intro h7;have h8:=h6.2;rw[Ti.2 ⟨⟨v,4,n⟩,List.mem_append_left _ (List.mem_singleton.2 rfl),rfl,by generalize vs.getD v 0=z at h7;simp[holdsL,h7]⟩]at h8
   cases h8
  have h6:=hop.keeps hl (h3.set hn hv) (by
   rw[←h4];refine jQ hc λw h7 h8=> ?_
   rw[rO (by rw[h3.1];exact hv)]
   split
   ·rename_i e;subst e;rw[h5 w (nU.2 ⟨by omega,h8⟩),hvn]
   ·rfl)
  have h7:=h6.2 v (by rw[hop.len hl];omega)
  rw[rO (by rw[h3.1];exact hv),if_pos rfl]at h7
  exact absurd h7 hg
theorem zbD{m:zG}{con:Int}{s:List (List Int)}(hat:HX m con=0)(hl:s.length=m.vars.length)(hf:zT s=false)(hg:zT (yQ (yW m con) s)=true):kN m con ([]++gM m s (yM (yW m con) m.vars.length))=true:=by
 have hc:=nN hat;obtain⟨hr,_⟩:=lX hat;have hop:=Wz hc (by have:=hr.some;omega)
 have hdl:(dY (wT m) ([]++gM m s (yM (yW m con) m.vars.length))).length=m.vars.length:=Wp.1.trans xU;cases e:kN m con ([]++gM m s (yM (yW m con) m.vars.length))with
 |true=>rfl
 |false=>
  obtain⟨vs,h1,h2⟩:=(hop.nofail hdl).1 e;obtain⟨us,h3,h4,h5⟩:=zeT hat hl hf _ h1 h2;rw[(hop.nofail hl).2 ⟨us,h3,h4⟩]at hg;cases hg
theorem CN{c:zE}{nv:Nat}(hc:tP c nv):(yM c nv).length≤4:=by
 have hm:=hc.many
 have hsub:∀x∈yM c nv,x∈c.vars++c.lits.map λl=>l.var:=λx hx=>by
  rcases zhN (nU.1 hx).2 with h|⟨l,h,e⟩
  ·exact List.mem_append_left _ h
  ·exact List.mem_append_right _ (List.mem_map.2 ⟨l,h,e⟩)
 have h1:=(V8 (c:=c) (nv:=nv)).length_le_of_subset hsub;rw[List.length_append,List.length_map]at h1
 by_cases h8:c.kind≤8
 ·have:=FW hc h8
  rw[this,List.length_nil]at h1;omega
 ·have hk:=hc.kind
  by_cases h9:c.kind=9
  ·have:=hc.formC.clause h9;omega
  ·have:=hc.formC.iff (by omega);omega
theorem QZ{m:zG}(hr:Right m)(v:Nat):((wT m).getD v []).length≤6:=by
 by_cases hv:v<m.vars.length
 ·have:=hr.var _ (List.getElem_mem hv)
  rw[bJ hv,Tb,W4];omega
 ·rw[qJ (by rw[xU];omega)];exact Nat.zero_le _
theorem CO{s:List (List Int)}{v:Int}{l:List Int}:(J7 s v l).length≤l.length:=by rw[J7,List.length_map];exact List.length_filter_le ..
theorem CP{m:zG}(hr:Right m){s:List (List Int)}(sc:List Int):(gM m s sc).length≤sc.length*6:=Ua λv _=>Nat.le_trans CO (QZ hr _)
theorem SW{m:zG}{con:Int}{s:List (List Int)}(hat:HX m con=0)(hl:s.length=m.vars.length):tU fQ [dM m,dI con,dS s] (.sl .lit (gM m s (yM (yW m con) m.vars.length))):=
 Jp m con s λok=>by
  obtain⟨hr,hcon⟩:=lX hat;have hc:=nN hat;rw[Hj];refine⟨rS.2 hcon,?_⟩;show xK iA [dC (yW m con)] (.list .int) λm1=>_
  refine zH (UA hc) ?_;have hsl:=CN hc;have hsv:∀v∈yM (yW m con) m.vars.length,0≤v∧v<m.vars.length:=λv hv=>lY v hv
  generalize yM (yW m con) m.vars.length=sc at hsl hsv⊢
  refine up (I:=λn v a=>bY m s _ sc n v a) 0 sc.length rfl (Nat.zero_le _) (by omega) (λk a=>a=gM m s (sc.take k)) rfl λn k a _ hk ha hn=> ?_
  subst ha;rw[N7]
  by_cases h:k<sc.length
  ·have hvk:=hsv _ (List.getElem_mem h)
   have hvl:sc[k].toNat<m.vars.length:=by omega
   rw[yC h,zY (t:=.int) h];refine⟨zM h,rS.2 hvk,?_⟩;have hat2:yO .var m.vars sc[k].toNat=m.vars[sc[k].toNat]:=atN (t:=.var) hvl;have hvr:=hr.var _ (List.getElem_mem hvl);have hfull:(wT m).getD sc[k].toNat []=Tb m.vars[sc[k].toNat]:=bJ hvl;have hstep:gM m s (sc.take (k+1))=gM m s (sc.take k)++J7 s sc[k] (Tb m.vars[sc[k].toNat]):=by rw[gM,LB _ h,hfull];rfl
   have hgl:=CP hr (s:=s) (sc.take k);rw[List.length_take]at hgl
   generalize gM m s (sc.take k)=pre at hstep hgl⊢
   rw[hat2];refine upto (I:=λn2 v a=>gL m s _ sc n (k:Int) n2 v a) (m.vars[sc[k].toNat]).lo (m.vars[sc[k].toNat]).hi (by omega) (by omega) (λj a=>a=pre++J7 s sc[k] (Ck (m.vars[sc[k].toNat]).lo (j-(m.vars[sc[k].toNat]).lo).toNat)∧j≤(m.vars[sc[k].toNat]).hi+1) ⟨by rw[Int.sub_self];exact(List.append_nil _).symm,by omega⟩ λn2 j a hj hi hn2=> ?_
   obtain⟨rfl,hjm⟩:=hi;rw[N6,zY (t:=.int) h,hat2];have hgv:=CO (s:=s) (v:=sc[k]) (l:=Ck (m.vars[sc[k].toNat]).lo (j-(m.vars[sc[k].toNat]).lo).toNat);rw[W4]at hgv
   refine⟨rS.2 hvk,zA (λe=> ?_) λe=> ?_⟩
   ·have e:=of_decide_eq_true e
    have hgs:∀b,eB (s.getD sc[k].toNat []) j=b→J7 s sc[k] (Ck (m.vars[sc[k].toNat]).lo (j+1-(m.vars[sc[k].toNat]).lo).toNat)=J7 s sc[k] (Ck (m.vars[sc[k].toNat]).lo (j-(m.vars[sc[k].toNat]).lo).toNat)++(if b=true then[]else[(⟨sc[k],3,j⟩:zC)]):=λb hb=>by
     rw[zaS hj,J7,List.filter_append,List.map_append,List.filter_cons,hb];cases b<;>rfl
    refine⟨rS.2 (by omega),zH (tF (a:=j)) ?_⟩
    show zP (!eB (s.getD sc[k].toNat []) j) _ _
    refine zA (λf=>⟨xY (t:=.lit) ?_,hn2 e _ ⟨?_,by omega⟩⟩) λf=>hn2 e _ ⟨?_,by omega⟩
    ·rw[List.length_append];show(_+_+1)*24≤_;omega
    ·rw[hgs false (by simpa using f),List.append_assoc];rfl
    ·rw[hgs true (by simpa using f)];simp
   ·have e:=of_decide_eq_false e
    refine hn h _ ?_;rw[hstep,Tb,show j=(m.vars[sc[k].toNat]).hi+1 by omega]
  ·have hk':k=sc.length:=by omega
   subst hk';rw[zX,List.take_length]
theorem H4{lo hi:Int}{n:Nat}(h1:0≤lo)(h2:lo≤hi)(h3:hi≤n):Mn lo hi n=true:=by
 unfold Mn;simp;omega
theorem Ue{m:zG}{con:Int}{must l:List zC}(hat:HX m con=0)(hm:must.length≤1000000)(hl:l.length≤1000000):tU kZ [dM m,dI con,.sl .lit must,.sl .lit l] (.sl .lit (LK m con must l)):=
 N5 m con must l λok=>by
  rw[LJ,LK,AB]
  suffices H:∀(k:Nat) (l':List zC) (i:Nat),l'.length≤k+i→i≤l'.length→l'.length≤1000000→∀r,r=must++Sw (λl=>kN m con (must++l)) k l' i→lZ m con must (λd=>d=.sl .lit r) (k+1) l' (i:Int)from⟨_,H l.length l 0 (Nat.le_refl _) (Nat.zero_le _) hl _ rfl⟩
  intro k
  induction k with
  |zero=>
   intro l' i h1 h2 h3 r hr;have hi:i=l'.length:=by omega
   subst hi;rw[XA,zX];refine zH (dG (ls:=[must,l']) (by show 2≤1000;decide) λx hx=> ?_) ?_
   ·rcases List.mem_cons.1 hx with rfl|hx
    ·exact hm
    ·rw[List.mem_singleton.1 hx];exact h3
   ·rw[hr,Sw];simp
  |succ k ih=>
   intro l' i h1 h2 h3 r hr;rw[XA]
   by_cases h:i<l'.length
   ·have hw:yU ((i:Int)+1)=((i+1:Nat):Int):=nX (by omega)
    rw[Sw,if_pos h]at hr
    have hel:(l'.eraseIdx i).length=l'.length-1:=List.length_eraseIdx_of_lt h;rw[yC h,hw,Int.toNat_natCast,Int.toNat_natCast,Int.toNat_natCast,List.drop_zero,List.take_length]
    have hcat:=dG (ls:=[l'.take i,l'.drop (i+1)]) (by show 2≤1000;decide) λx hx=>by
     rcases List.mem_cons.1 hx with rfl|hx
     ·rw[List.length_take];omega
     ·rw[List.mem_singleton.1 hx,List.length_drop];omega
    have he:[l'.take i,l'.drop (i+1)].flatten=l'.eraseIdx i:=by rw[List.eraseIdx_eq_take_drop_succ];simp
    rw[he]at hcat
    refine⟨H4 (Int.le_refl _) (by omega) (by omega),H4 (by omega) (by omega) (Int.le_refl _),zH hcat ?_⟩
    have hcat2:=dG (ls:=[must,l'.eraseIdx i]) (by show 2≤1000;decide) λx hx=>by
     rcases List.mem_cons.1 hx with rfl|hx
     ·exact hm
     ·rw[List.mem_singleton.1 hx];omega
    have he2:[must,l'.eraseIdx i].flatten=must++l'.eraseIdx i:=by simp
    rw[he2]at hcat2
    refine zH hcat2 (zH (QW hat) (zA (λe=> ?_) λe=> ?_))
    ·rw[if_pos e]at hr
     exact ih _ i (by omega) (by omega) (by omega) r hr
    ·rw[if_neg (by rw[e];decide)]at hr
     exact ih l' (i+1) (by omega) (by omega) h3 r hr
   ·have hi:i=l'.length:=by omega
    subst hi;rw[Sw,if_neg (Nat.lt_irrefl _)]at hr
    rw[zX];refine zH (dG (ls:=[must,l']) (by show 2≤1000;decide) λx hx=> ?_) ?_
    ·rcases List.mem_cons.1 hx with rfl|hx
     ·exact hm
     ·rw[List.mem_singleton.1 hx];exact h3
    ·rw[hr];simp
noncomputable def Uf (m:zG)(con:Int)(s:List (List Int))(v n:Int):Bool:= !zT s&&(eB (s.getD v.toNat []) n&& !eB ((yQ (yW m con) s).getD v.toNat []) n)
noncomputable def Q0 (m:zG)(con:Int)(s:List (List Int)):Bool:= !zT s&&zT (yQ (yW m con) s)
noncomputable def Ug (m:zG)(con:Int)(s:List (List Int))(v n:Int):List zC:=if Uf m con s v n=true then LK m con [⟨v,4,n⟩] (gM m s (yM (yW m con) m.vars.length))else[]
noncomputable def fo (m:zG)(con:Int)(s:List (List Int)):List zC:=if Q0 m con s=true then LK m con [] (gM m s (yM (yW m con) m.vars.length))else[]
theorem Q1{m:zG}{con:Int}(hat:HX m con=0){s:List (List Int)}:(gM m s (yM (yW m con) m.vars.length)).length≤24:=by
 have h1:=CP (lX hat).1 (s:=s) (yM (yW m con) m.vars.length);have h2:=CN (nN hat);omega
theorem Hl{m:zG}{con:Int}{s:List (List Int)}{v n:Int}(hr:zeQ m con s)(hv:0≤v∧v<s.length):tU ZE [dM m,dI con,dS s,dI v,dI n] (.tup [.sl .lit (Ug m con s v n),dB (Uf m con s v n)]):=
 Jo m con s v n λok=>by
  have hat:=N2 hr.chk hr.cn;have hs:=Xx (lO hr.chk) hr.st;have hl:=hs.len;rw[Hi];refine zH (vD s) (zA (λe=> ?_) λe=> ?_)
  ·have e:zT s=true:=e
   rw[Ug,Uf,e];rfl
  have e:zT s=false:=e;refine⟨rS.2 hv,zH (tF (a:=n)) ?_⟩;show zP (!eB (s.getD v.toNat []) n) _ _
  refine zA (λf=> ?_) λf=> ?_
  ·have f:eB (s.getD v.toNat []) n=false:=by simpa using f
   rw[Ug,Uf,e,f];rfl
  have f:eB (s.getD v.toNat []) n=true:=by simpa using f
  refine⟨rS.2 hr.cn,zH (bI (c:=yW m con) (by rw[hl];exact hr.right) (by rw[hl];exact hs)) ⟨rS.2 (by rw[hr.op.len hl];omega),zH (tF (a:=n)) ?_⟩⟩
  show zP (eB ((yQ (yW m con) s).getD v.toNat []) n) _ _
  refine zA (λg=> ?_) λg=> ?_
  ·rw[Ug,Uf,e,f,g];rfl
  ·have hb:Uf m con s v n=true:=by rw[Uf,e,f,g];rfl
   rw[Ug,if_pos hb,hb];have:=Q1 hat (s:=s);exact zH (SW hat hl) (zH (Ue hat (by show 1≤1000000;decide) (by omega)) rfl)
theorem Jq{m:zG}{con:Int}{s:List (List Int)}(hr:zeQ m con s):tU bS [dM m,dI con,dS s] (.tup [.sl .lit (fo m con s),dB (Q0 m con s)]):=
 LI m con s λok=>by
  have hat:=N2 hr.chk hr.cn;have hs:=Xx (lO hr.chk) hr.st;have hl:=hs.len;rw[Jn];refine zH (vD s) (zA (λe=> ?_) λe=> ?_)
  ·have e:zT s=true:=e
   rw[fo,Q0,e];rfl
  have e:zT s=false:=e;refine⟨rS.2 hr.cn,zH (bI (c:=yW m con) (by rw[hl];exact hr.right) (by rw[hl];exact hs)) (zH (vD _) ?_)⟩
  refine zA (λg=> ?_) λg=> ?_
  ·have g:zT (yQ (yW m con) s)=false:=by simpa using g
   rw[fo,Q0,e,g];rfl
  ·have g:zT (yQ (yW m con) s)=true:=by simpa using g
   have hb:Q0 m con s=true:=by rw[Q0,e,g];rfl
   rw[fo,if_pos hb,hb];have:=Q1 hat (s:=s);exact zH (SW hat hl) (zH (Ue hat (by decide) (by omega)) rfl)
structure Tn (m:zG)(con:Int)(s:List (List Int))(must r:List zC):Prop where
 says:kN m con (must++r)=true
 few:∀j,j<r.length→kN m con (must++r.eraseIdx j)=false
 told:∀x∈r,x.op=3∧V4 s x= -1∧eN m.vars.length x=0
 len:r.length≤24
theorem zf2{s:List (List Int)}{x:zC}(h:∀n∈s.getD x.var.toNat [],holdsL x n=false):V4 s x= -1:=by
 rw[V4,Cm,if_pos];rw[List.any_eq_false];exact λn hn=>by rw[h n hn];decide
theorem LM{m:zG}(hr:Right m){x:zC}(hv:0≤x.var∧x.var<(m.vars.length:Int))(ho:1≤x.op∧x.op≤4)(hn:x.n∈(wT m).getD x.var.toNat []):eN m.vars.length x=0:=by
 have hvl:x.var.toNat<m.vars.length:=by omega
 rw[bJ hvl,YF]at hn
 have:=hr.var _ (List.getElem_mem hvl);exact nT.2 ⟨hv,ho,by omega⟩
theorem CQ{m:zG}{con:Int}{s:List (List Int)}(hat:HX m con=0){must:List zC}(h:kN m con (must++gM m s (yM (yW m con) m.vars.length))=true):
  Tn m con s must (AB (λl=>kN m con (must++l)) (gM m s (yM (yW m con) m.vars.length))):=by
 have hsub:=LL (λl=>kN m con (must++l)) (gM m s (yM (yW m con) m.vars.length)).length (gM m s (yM (yW m con) m.vars.length)) 0
 refine⟨PB (λl=>kN m con (must++l)) _ _ 0 h,λj hj=>zbC _ (zhY hat must) _ j hj,λx hx=> ?_,Nat.le_trans hsub.length_le (Q1 hat)⟩
 obtain⟨h1,h2,h3,h4⟩:=CM.1 (hsub.subset hx);have hv:=lY _ h1;refine⟨h2,zf2 λn hn=> ?_,LM (lX hat).1 hv (by omega) h3⟩
 have hne:n≠x.n:=λe=>h4 (by rw[←e];exact hn)
 obtain⟨xv,xo,xn⟩:=x;simp only at h2 hne
 subst h2;simp[holdsL,hne]
theorem N8{nv:Nat}{c:List zC}(hl:c.length≤40)(h:∀x∈c,eN nv x=0):yP nv c=0:=by
 rw[yP,if_neg (by omega)]
 have:∀(xs:List zC) (i:Nat),(∀x∈xs,eN nv x=0)→wK (λ_ l=>eN nv l) i xs=0:=λxs=>by
  induction xs with
  |nil=>exact λ_ _=>rfl
  |cons a xs ih=>
   intro i h;rw[wK,if_pos (h a (List.mem_cons_self ..))];exact ih _ λx hx=>h x (List.mem_cons_of_mem _ hx)
 exact this c 0 h
theorem Tn.clause{m:zG}{con:Int}{s:List (List Int)}{must r:List zC}(h:Tn m con s must r)(hm:must.length≤1)(hml:∀x∈must,eN m.vars.length x=0):yP m.vars.length (must++r)=0:=
 N8 (by rw[List.length_append];have:=h.len;omega) λx hx=>by
  rcases List.mem_append.1 hx with hx|hx
  ·exact hml x hx
  ·exact(h.told x hx).2.2
def Z4:wA:= {own:=[],live:=[(0,([1,3,8,9],[]))],n:=39,nils:=[],pubs:=[(31088,999999)]}
def gN(a:zG)(b:List (List zC))(R:xO)(c:Nat)(d:List zC)(e:Int):Prop:=LP Z4 Tryz.f131 [1,1,1,0,1,0,0] 0 c ⟨[(1,.sl (.list .lit) b),(3,.iptr (TL a []) 0),(8,.sl .lit d),(9,dI e)],[]⟩ (zQ 0 (sK Z4 Tryz.f131 [1,1,1,1] 0 (eK Tryz.f131 R)))
theorem Vi(c:zG)(d:List (List zC))(R:xO)(e:Nat)(a:List zC)(b:Int):gN c d R (e+1) a b=
 (zP (decide (b<(a.length:Int)))
 (Mn 0 b a.length=true∧
 Mn (yU (b+1)) (a.length:Int) a.length=true∧
 xK tQ [.sl (.list .lit) ([(a.take b.toNat).drop 0,(a.take (a.length:Int).toNat).drop (yU (b+1)).toNat])] (.list .lit) λf=>
 xK cR [dM c,.sl (.list .lit) d,.sl .lit f] .bool λg=>
 zP g
 (gN c d R e f b)
 (gN c d R e a (yU (b+1))))
 (R (.tup [.sl .lit a,dB true]))):=by kernel_rfl
theorem Hm(a:zG)(b:List (List zC))(c:List zC)(R:xO):FD Z4 Tryz.f131 [dM a,.sl (.list .lit) b,.sl .lit c] R=
 (xK cR [dM a,.sl (.list .lit) b,.sl .lit c] .bool λe=>
 zP (!e)
 (R (.tup [.sl .lit ([]:List zC),dB false]))
 (∃d:List zC,yH tZ [.sl .lit c] [] (.own 3000) [(3000,.row 114 .lit d)]∧
 ∃n0,gN a b R n0 d 0)):=by kernel_rfl
theorem Jr(a:zG)(b:List (List zC))(c:List zC):wC Z4 Tryz.f131 Zx [dM a,.sl (.list .lit) b,.sl .lit c]:=wJ Tryz.func131 (by kernel_rfl) Tryz.ntmps131 rfl
def OR:wA:= {own:=[14,25],live:=[],n:=26,nils:=[(14,(6,(129,.step)))],pubs:=[]}
theorem Ef(a:zG)(b:List (List zC))(c:List zC)(R:xO):FD OR Tryz.f134 [dM a,.sl (.list .lit) b,.sl .lit c] R=
 (xK Xm [dM a,.sl .lit c] (.list (.list .int)) λg=>
 ∃f:List (List Int),∃d:List zU,yH iB [.ptr 1000 0] [(1000,.cells (TL a [.sl (.list .lit) b,dS g,.own 2000])),(2000,.row 129 .step ([]:List zU))] (.tup []) [(1000,.cells (TL a [.sl (.list .lit) b,dS f,.own 2000])),(2000,.row 129 .step d)]∧
 xK fP [.sl .lit c] (.list .lit) λe=>
 wN .step (d.length+([(⟨2,0,e⟩:zU)]).length)=true∧
 R (.sl .step (d++([(⟨2,0,e⟩:zU)])))):=by kernel_rfl
theorem Hn(a:zG)(b:List (List zC))(c:List zC):wC OR Tryz.f134 YP [dM a,.sl (.list .lit) b,.sl .lit c]:=wJ Tryz.func134 (by kernel_rfl) Tryz.ntmps134 rfl
def Z5:wA:= {own:=[3,5,16],live:=[(0,([3,6,7,8],[3]))],n:=19}
def bZ(a:List zC)(R:xO)(b:Nat)(c:Int)(d:List zC):Prop:=LP Z5 Tryz.f135 [1,1,0,1,0,0] 0 b ⟨[(3,.own 3),(6,.sl .lit a),(7,dI (a.length:Int)),(8,dI c)],[(3,.row 114 .lit d)]⟩ (zQ 0 (sK Z5 Tryz.f135 [1,1,1] 0 (eK Tryz.f135 R)))
theorem N9(a:List zC)(R:xO)(d:Nat)(b:Int)(c:List zC):bZ a R (d+1) b c=
 (zP (decide (b<(a.length:Int)))
 (vW b a.length=true∧
 xK ZA [dL (yO .lit a b.toNat)] .lit λe=>
 wN .lit (c.length+([e]).length)=true∧
 bZ a R d (yU (b+1)) (c++([e])))
 (R (.sl .lit c))):=by kernel_rfl
theorem Ho(a:List zC)(R:xO):FD Z5 Tryz.f135 [.sl .lit a] R=
 (∃n0,bZ a R n0 0 ([]:List zC)):=by kernel_rfl
theorem Js(a:List zC):wC Z5 Tryz.f135 fP [.sl .lit a]:=wJ Tryz.func135 (by kernel_rfl) Tryz.ntmps135 rfl
def OS:wA:= {own:=[],live:=[],n:=14}
theorem Eg(a:zG)(b:List (List zC))(c:List zC)(R:xO):FD OS Tryz.f192 [dM a,.sl (.list .lit) b,.sl .lit c] R=
 (xK Xm [dM a,.sl .lit c] (.list (.list .int)) λd=>
 xK gR [dM a,dS d,dB true,.sl (.list .lit) b] (.list (.list .int)) λe=>
 xK yX [dS e] .bool λf=>
 R (dB f)):=by kernel_rfl
theorem Hp(a:zG)(b:List (List zC))(c:List zC):wC OS Tryz.f192 cR [dM a,.sl (.list .lit) b,.sl .lit c]:=wJ Tryz.func192 (by kernel_rfl) Tryz.ntmps192 rfl
def Uh:wA:= {own:=[7],live:=[(0,([5,10,11,12],[]))],n:=21}
def Wq(a:List zC)(R:xO)(b:Nat)(c:List (List Int))(d:Int):Prop:=LP Uh Tryz.f196 [1,1,0,1,0,0] 0 b ⟨[(5,dS c),(10,.sl .lit a),(11,dI (a.length:Int)),(12,dI d)],[]⟩ (zQ 0 (sK Uh Tryz.f196 [1,1,1] 0 (eK Tryz.f196 R)))
theorem Hq(a:List zC)(R:xO)(d:Nat)(c:List (List Int))(b:Int):Wq a R (d+1) c b=
 (zP (decide (b<(a.length:Int)))
 (vW b a.length=true∧
 xK Pt [dS c,dL (yO .lit a b.toNat)] (.list (.list .int)) λe=>
 Wq a R d e (yU (b+1)))
 (R (dS c))):=by kernel_rfl
theorem AD(a:zG)(b:List zC)(R:xO):FD Uh Tryz.f196 [dM a,.sl .lit b] R=
 (xK lE [dM a] (.list (.list .int)) λc=>
 ∃n0,Wq b R n0 c 0):=by kernel_rfl
theorem DG(a:zG)(b:List zC):wC Uh Tryz.f196 Xm [dM a,.sl .lit b]:=wJ Tryz.func196 (by kernel_rfl) Tryz.ntmps196 rfl
def oc:wA:= {own:=[],live:=[(0,([0,2],[1000,2000])),(2,([0,2,3],[1000,2000]))],n:=59}
def oZ(R:pR)(a b:Nat)(c:Bool)(d:Int)(e:List zN)(f:List zE)(g h:Int)(i:List (List zC))(j:List (List Int))(k:List zU):Prop:=LP oc Tryz.f197 [1,0,0,1,0,1,0,1,0,0] 2 b ⟨[(0,.ptr 1000 0),(2,dB c),(3,dI d)],[(1000,.cells [.sl .var e,.sl .con f,dI g,dI h,.sl (.list .lit) i,dS j,.own 2000]),(2000,.row 129 .step k)]⟩ (zQ 2 (sK oc Tryz.f197 [1,0,0,1,0,1,1] 1 (zQ 1 (iK oc Tryz.f197 [1,0,0] 0 a (zQ 0 (eH Tryz.f197 [.ptr 1000 0] false R))))))
def vN(R:pR)(a:Nat)(b:Bool)(c:List zN)(d:List zE)(e f:Int)(g:List (List zC))(h:List (List Int))(i:List zU):Prop:=LP oc Tryz.f197 [1,0,0] 0 a ⟨[(0,.ptr 1000 0),(2,dB b)],[(1000,.cells [.sl .var c,.sl .con d,dI e,dI f,.sl (.list .lit) g,dS h,.own 2000]),(2000,.row 129 .step i)]⟩ (zQ 0 (eH Tryz.f197 [.ptr 1000 0] false R))
theorem Z6(R:pR)(f k:Nat)(j:Bool)(i:Int)(b:List zN)(a:List zE)(c d:Int)(e:List (List zC))(g:List (List Int))(h:List zU):oZ R f (k+1) j i b a c d e g h=
 (zP (decide (i<(a.length:Int)))
 (xK yX [dS g] .bool λq=>
 zP (!q)
 (∃p:Bool,∃l:List (List Int),∃m:List zU,yH iF [.ptr 1000 0,dI i] [(1000,.cells [.sl .var b,.sl .con a,dI c,dI d,.sl (.list .lit) e,dS g,.own 2000]),(2000,.row 129 .step h)] (dB p) [(1000,.cells [.sl .var b,.sl .con a,dI c,dI d,.sl (.list .lit) e,dS l,.own 2000]),(2000,.row 129 .step m)]∧
 zP p
 (oZ R f k true (yU (i+1)) b a c d e l m)
 (oZ R f k j (yU (i+1)) b a c d e l m))
 (xK gR [.agg [.sl .var b,.sl .con a,dI c,dI d],dS g,dB false,.sl (.list .lit) e] (.list (.list .int)) λn=>
 xK yG [dS n,dS g,.clo xQ none []] .bool λr=>
 zP (!r)
 (vN R f true b a c d e n h)
 (vN R f j b a c d e n h)))
 (xK gR [.agg [.sl .var b,.sl .con a,dI c,dI d],dS g,dB false,.sl (.list .lit) e] (.list (.list .int)) λo=>
 xK yG [dS o,dS g,.clo xQ none []] .bool λs=>
 zP (!s)
 (vN R f true b a c d e o h)
 (vN R f j b a c d e o h))):=by kernel_rfl
theorem Z7(R:pR)(h:Nat)(i:Bool)(b:List zN)(c:List zE)(d e:Int)(f:List (List zC))(a:List (List Int))(g:List zU):vN R (h+1) i b c d e f a g=
 (zP i
 (xK yX [dS a] .bool λj=>
 zP (!j)
 (∃n2,oZ R h n2 false 0 b c d e f a g)
 (R (.tup []) [(1000,.cells [.sl .var b,.sl .con c,dI d,dI e,.sl (.list .lit) f,dS a,.own 2000]),(2000,.row 129 .step g)]))
 (R (.tup []) [(1000,.cells [.sl .var b,.sl .con c,dI d,dI e,.sl (.list .lit) f,dS a,.own 2000]),(2000,.row 129 .step g)])):=by kernel_rfl
theorem Oq(a:List zN)(b:List zE)(c d:Int)(e:List (List zC))(f:List (List Int))(g:List zU)(R:pR):FH oc Tryz.f197 [.ptr 1000 0] [(1000,.cells [.sl .var a,.sl .con b,dI c,dI d,.sl (.list .lit) e,dS f,.own 2000]),(2000,.row 129 .step g)] [.ptr 1000 0] false R=
 (∃n0,vN R n0 true a b c d e f g):=by kernel_rfl
theorem Q2(a:List zN)(b:List zE)(c d:Int)(e:List (List zC))(f:List (List Int))(g:List zU):oH oc Tryz.f197 iB [.ptr 1000 0] [(1000,.cells [.sl .var a,.sl .con b,dI c,dI d,.sl (.list .lit) e,dS f,.own 2000]),(2000,.row 129 .step g)] [.ptr 1000 0] false:=oT Tryz.func197 (by kernel_rfl) Tryz.ntmps197 rfl
def sU:wA:= {own:=[52,109],live:=[(0,([0,1,5,8,66,67,68],[1000,2000])),(2,([0,1,5,8,9,66,67,68,73,74,75],[1000,2000]))],n:=119}
def pG(a:List (List Int))(c:Int)(R:pR)(d:List (List Int))(e:Nat)(b:Int)(f:Nat)(g:Bool)(h:Int)(i:List zN)(j:List zE)(k l:Int)(m:List (List zC))(n:List (List Int))(o:List zU):Prop:=LP sU Tryz.f250 [1,1,1,1,0,1,0,0,1,1,0,0,1,1,0,0] 2 f ⟨[(0,.ptr 1000 0),(1,dI c),(5,dS d),(8,dB g),(9,dI b),(66,dS a),(67,dI (a.length:Int)),(68,dI b),(73,.sl .int (yO (.list .int) a b.toNat)),(74,dI ((yO (.list .int) a b.toNat).length:Int)),(75,dI h)],[(1000,.cells [.sl .var i,.sl .con j,dI k,dI l,.sl (.list .lit) m,dS n,.own 2000]),(2000,.row 129 .step o)]⟩ (zQ 2 (zQ 1 (sK sU Tryz.f250 [1,1,1,1,0,1,0,0,1,1,1] 0 (iK sU Tryz.f250 [1,1,1,1,0,1,0,0] 0 e (zQ 0 (sK sU Tryz.f250 [1,1,1,1,1] 0 (eH Tryz.f250 [.ptr 1000 0] false R)))))))
def o6(a:List (List Int))(b:Int)(R:pR)(c:List (List Int))(d:Nat)(e:Bool)(f:Int)(g:List zN)(h:List zE)(i j:Int)(k:List (List zC))(l:List (List Int))(m:List zU):Prop:=LP sU Tryz.f250 [1,1,1,1,0,1,0,0] 0 d ⟨[(0,.ptr 1000 0),(1,dI b),(5,dS c),(8,dB e),(66,dS a),(67,dI (a.length:Int)),(68,dI f)],[(1000,.cells [.sl .var g,.sl .con h,dI i,dI j,.sl (.list .lit) k,dS l,.own 2000]),(2000,.row 129 .step m)]⟩ (zQ 0 (sK sU Tryz.f250 [1,1,1,1,1] 0 (eH Tryz.f250 [.ptr 1000 0] false R)))
theorem Sx(b:List (List Int))(c:Int)(R:pR)(e:List (List Int))(l:Nat)(a:Int)(n:Nat)(o:Bool)(d:Int)(f:List zN)(g:List zE)(h i:Int)(m:List (List zC))(j:List (List Int))(k:List zU):pG b c R e l a (n+1) o d f g h i m j k=
 (zP (decide (d<((yO (.list .int) b a.toNat).length:Int)))
 (vW d (yO (.list .int) b a.toNat).length=true∧
 vW a e.length=true∧
 xK wU [.sl .int (yO (.list .int) e a.toNat),dI (yO .int (yO (.list .int) b a.toNat) d.toNat)] .bool λq=>
 zP q
 (pG b c R e l a n o (yU (d+1)) f g h i m j k)
 (c2Q ZE [.agg [.sl .var f,.sl .con g,dI h,dI i],dI c,dS j,dI a,dI (yO .int (yO (.list .int) b a.toNat) d.toNat)] (.list .lit) .bool λp r=>
 wN .step (k.length+([(⟨1,c,p⟩:zU)]).length)=true∧
 pG b c R e l a n true (yU (d+1)) f g h i m j (k++([(⟨1,c,p⟩:zU)]))))
 (o6 b c R e l o (yU (a+1)) f g h i m j k)):=by kernel_rfl
theorem Sy(a:List (List Int))(k:Int)(R:pR)(c:List (List Int))(l:Nat)(d:Bool)(b:Int)(e:List zN)(f:List zE)(g h:Int)(i:List (List zC))(m:List (List Int))(j:List zU):o6 a k R c (l+1) d b e f g h i m j=
 (zP (decide (b<(a.length:Int)))
 (vW b a.length=true∧
 ∃n2,pG a k R c l b n2 d 0 e f g h i m j)
 (R (dB d) [(1000,.cells [.sl .var e,.sl .con f,dI g,dI h,.sl (.list .lit) i,dS c,.own 2000]),(2000,.row 129 .step j)])):=by kernel_rfl
theorem Ot(d:List zN)(b:List zE)(e f:Int)(h:List (List zC))(c:List (List Int))(g:List zU)(a:Int)(R:pR):FH sU Tryz.f250 [.ptr 1000 0,dI a] [(1000,.cells [.sl .var d,.sl .con b,dI e,dI f,.sl (.list .lit) h,dS c,.own 2000]),(2000,.row 129 .step g)] [.ptr 1000 0] false R=
 (vW a b.length=true∧
 xK lH [dC (yO .con b a.toNat),dS c] (.list (.list .int)) λi=>
 xK yX [dS i] .bool λk=>
 zP k
 (c2Q bS [.agg [.sl .var d,.sl .con b,dI e,dI f],dI a,dS c] (.list .lit) .bool λj m=>
 wN .step (g.length+([(⟨1,a,j⟩:zU)]).length)=true∧
 xK uD [dS c] (.list (.list .int)) λl=>
 R (dB true) [(1000,.cells [.sl .var d,.sl .con b,dI e,dI f,.sl (.list .lit) h,dS l,.own 2000]),(2000,.row 129 .step (g++([(⟨1,a,j⟩:zU)])))])
 (∃n0,o6 c a R i n0 false 0 d b e f h c g)):=by kernel_rfl
theorem Q3(a:List zN)(b:List zE)(c d:Int)(e:List (List zC))(f:List (List Int))(g:List zU)(h:Int):oH sU Tryz.f250 iF [.ptr 1000 0,dI h] [(1000,.cells [.sl .var a,.sl .con b,dI c,dI d,.sl (.list .lit) e,dS f,.own 2000]),(2000,.row 129 .step g)] [.ptr 1000 0] false:=oT Tryz.func250 (by kernel_rfl) Tryz.ntmps250 rfl
def dH(m:zG)(d:List zC):List (List Int):=d.foldl zaV (wT m)
noncomputable def qM (m:zG)(l:List (List zC))(d:List zC):Bool:=zT (qC m true l (dH m d))
noncomputable def fewest (m:zG)(l:List (List zC))(d:List zC):List zC:=AB (qM m l) d
theorem zbE:∀(d:List zC) (s:List (List Int)),d.foldl zaV s=pL (λv n=>d.all λx=> !decide ((v:Int)=x.var)||holdsL x n) s
 |[],s=>(Zc λv n _=>rfl).symm
 |x::d,s=>by
  rw[List.foldl_cons,zbE d (zaV s x),zaV,zfG];rfl
theorem To{m:zG}{d:List zC}:dH m d=pL (λv n=>d.all λx=> !decide ((v:Int)=x.var)||holdsL x n) (wT m):=zbE d _
theorem Ui{m:zG}{d:List zC}:cI (dH m d) (wT m):=by rw[To];exact Vd
theorem zdw{m:zG}{d:List zC}:fg m (dH m d)=0:=Pz Xz Ui
theorem zhZ{m:zG}(h:Right m){d:List zC}:fB (dH m d) m.vars.length:=Xx h zdw
theorem zf3{m:zG}{a b:List zC}(h:∀x∈a,x∈b):cI (dH m b) (dH m a):=by
 rw[To,To];refine Ve (cI.refl _) λv n _ e=> ?_
 rw[List.all_eq_true]at e⊢
 exact λx hx=>e x (h x hx)
theorem J8{m:zG}{l:List (List zC)}(hl:yR m l):∀a b:List zC,(∀x∈a,x∈b)→qM m l a=true→qM m l b=true:=λa b h ha=>by
 have hp:=hl.pos;have k1:(dH m a).length=m.vars.length:=Ui.1.trans xU;have k2:(dH m b).length=m.vars.length:=Ui.1.trans xU;cases e:qM m l b with
 |true=>rfl
 |false=>
  have h2:=((gV (cons:=true) hl k2).mono (by omega) (gV (cons:=true) hl k1) (zf3 h) λop h=>h).fail e
  rw[qM,h2]at ha;cases ha
theorem zh0{m:zG}{d:List zC}(h:∀x∈d,1≤x.op∧x.op≤4):dH m d=dY (wT m) (d.map fG):=by
 rw[To,dY];refine Xv λv n _=> ?_
 induction d with
 |nil=>rfl
 |cons x d ih=>
  have ih:=ih λy hy=>h y (List.mem_cons_of_mem _ hy)
  have hx:=Cs (h x (List.mem_cons_self ..)) n;rw[List.all_cons,ih,List.map_cons,atC,atC,List.any_cons,Ar,hx]
  by_cases e:x.var=(v:Int)
  ·rw[if_pos e,decide_eq_true e.symm];cases holdsL x n<;>rfl
  ·rw[if_neg e,decide_eq_false λx=>e x.symm];rfl
structure wM (m:zG)(l:List (List zC))(d:List zC):Prop where
 chk:xL m=0
 len:l.length≤600
 cl:∀c∈l,yP m.vars.length c=0
 dl:d.length≤40
 dr:∀x∈d,eN m.vars.length x=0
 turn:∀x∈d,eN m.vars.length (fG x)=0
theorem wM.mc{m:zG}{l:List (List zC)}{d:List zC}(h:wM m l d):yR m l:=kF h.chk h.cl
theorem wM.ops{m:zG}{l:List (List zC)}{d:List zC}(h:wM m l d):∀x∈d,1≤x.op∧x.op≤4:=λx hx=>(nT.1 (h.dr x hx)).2.1
theorem wM.sub{m:zG}{l:List (List zC)}{d d':List zC}(h:wM m l d)(hs:d'.Sublist d):wM m l d':=⟨h.chk,h.len,h.cl,Nat.le_trans hs.length_le h.dl,λx hx=>h.dr x (hs.subset hx),λx hx=>h.turn x (hs.subset hx)⟩
theorem Sz{m:zG}{l:List (List zC)}{d:List zC}:(fewest m l d).Sublist d:=LL ..
theorem LN{m:zG}{l:List (List zC)}{d:List zC}(h:qM m l d=true):qM m l (fewest m l d)=true:=PB _ _ _ _ h
theorem CR{m:zG}{l:List (List zC)}{d:List zC}(h:wM m l d):yP m.vars.length (d.map fG)=0:=N8 (by rw[List.length_map];exact h.dl) λx hx=>by
 obtain⟨y,hy,rfl⟩:=List.mem_map.1 hx;exact h.turn y hy
theorem wM.near{m:zG}{l:List (List zC)}{d:List zC}(h:wM m l d):∀x∈d,-1000000≤x.n∧x.n≤1000000:=λx hx=>by have:=nT.1 (h.dr x hx);omega
theorem LO{m:zG}{con:Int}{s:List (List Int)}{must r:List zC}(h:Tn m con s must r)(hp:0<m.vars.length)(hcl:yP m.vars.length (must++r)=0)
  {u:List (List Int)} (hu:cI u s) (hf:zT u=false) (hlen:u.length=m.vars.length) (hst:Yk u (must++r)=u) {v:Nat} {n:Int} (hn:n∈u.getD v []):∃us,Vx us u∧us.getD v 0=n∧qZ must us=true:=by
 have hl:=(ZT hcl).2;have hv:∀x∈must++r,0≤x.var∧x.var<(m.vars.length:Int):=λx hx=>(nT.1 (hl x hx)).1
 have op:=zeM (c:=must++r) (nv:=m.vars.length) hv hp;obtain⟨us,h1,h2,h3⟩:=Xu.congr (Q':=λ_=>true) (vs:=[]) op hlen hst hf v n hn
 refine⟨us,h1,h2,?_⟩;obtain⟨x,hx,hh⟩:=kE.1 h3;rcases List.mem_append.1 hx with hm|hm
 ·exact kE.2 ⟨x,hm,hh⟩
 ·have ht:=(h.told x hm).2.1
  have hb:=hv x hx;have hin:=(hu.2 x.var.toNat).subset (h1.2 x.var.toNat (by omega))
  have:=NS.2 ⟨_,hin,hh⟩;omega
def sE(l:List zU):List (List zC):=l.map λst=>st.clause
noncomputable def RE (m:zG)(l:List (List zC))(d:List zC)(steps:List zU):List (List Int):=qC m false (l++sE steps) (dH m d)
structure Vj (m:zG)(st:zU):Prop where
 kind:st.kind=1
 con:0≤st.con∧st.con<(m.cons.length:Int)
 by':kN m st.con st.clause=true
 cl:yP m.vars.length st.clause=0
section
variable {m:zG}{l:List (List zC)}{d:List zC}{steps more:List zU}{s x:List (List Int)}
theorem oD:sE (steps++more)=sE steps++sE more:=List.map_append
theorem fC:(dH m d).length=m.vars.length:=Ui.1.trans xU
theorem zdx(h:wM m l d)(hs:∀st∈steps,Vj m st):yR m (l++sE steps):=kF h.chk λc hc=>by
 rcases List.mem_append.1 hc with hc|hc
 ·exact h.cl c hc
 ·obtain⟨st,h1,rfl⟩:=List.mem_map.1 hc
  exact(hs st h1).cl
theorem Q4(h:wM m l d)(hs:∀st∈steps,Vj m st):VI (mS m false (l++sE steps)) (dH m d) (RE m l d steps):=gV (zdx h hs) fC
theorem zeU(h:wM m l d)(hs:∀st∈steps,Vj m st):(RE m l d steps).length=m.vars.length:=(Q4 h hs).le.1.trans fC
theorem Eh(h:wM m l d)(hs:∀st∈steps,Vj m st)(hf:zT (RE m l d steps)=false){c:List zC}(hc:c∈l++sE steps):Yk (RE m l d steps) c=RE m l d steps:=by
 rcases(Q4 h hs).out with⟨_,h2⟩|h2
 ·exact h2 (λs=>Yk s c) (ox.2 (.inr ⟨c,hc,rfl⟩))
 ·rw[h2,iR (by rw[fC];exact(zdx h hs).pos)]at hf;cases hf
theorem zbF(h:wM m l d)(h1:∀st∈steps,Vj m st)(h2:∀st∈steps++more,Vj m st):cI (RE m l d (steps++more)) (RE m l d steps):=
 (Q4 h h2).mono (by rw[fC];exact(zdx h h1).pos) (Q4 h h1) (cI.refl _) λop ho=>by
  rcases ox.1 ho with⟨hc,_⟩|⟨c,hc,rfl⟩
  ·cases hc
  ·refine ox.2 (.inr ⟨c,?_,rfl⟩)
   rw[oD];rcases List.mem_append.1 hc with hc|hc
   ·exact List.mem_append_left _ hc
   ·exact List.mem_append_right _ (List.mem_append_left _ hc)
def Sim(m:zG)(l:List (List zC))(d:List zC)(steps:List zU)(s:List (List Int)):Prop:=zT (RE m l d steps)=true∨cI (RE m l d steps) s
theorem Sim.grow(hs:Sim m l d steps s)(h:wM m l d)(h1:∀st∈steps,Vj m st)(h2:∀st∈steps++more,Vj m st):Sim m l d (steps++more) s:=by
 rcases hs with hs|hs
 ·exact .inl ((zbF h h1 h2).failed hs)
 ·exact .inr ((zbF h h1 h2).trans hs)
theorem J9{i:Int}{v:Nat}{n:Int}(hat:HX m i=0)(hl:s.length=m.vars.length)(hle:cI s (wT m))(hg:Uf m i s v n=true):(v<m.vars.length∧n∈s.getD v [])∧∃r,Ug m i s v n=[⟨v,4,n⟩]++r∧Tn m i s [⟨v,4,n⟩] r∧yP m.vars.length ([⟨v,4,n⟩]++r)=0:=by
 have hg':=hg;rw[Uf,Bool.and_eq_true,Bool.and_eq_true,Int.toNat_natCast]at hg'
 obtain⟨a,b,c⟩:=hg';have a:zT s=false:=by simpa using a
 have b:=jA.1 b;have c:n∉(yQ (yW m i) s).getD v []:=λh=>by rw[jA.2 h]at c;cases c
 have hv:v<s.length:=Classical.byContradiction λh=>by rw[qJ (by omega)]at b;cases b
 have hr:=CQ (must:=[⟨v,4,n⟩]) hat (AC hat hl a hv b c);refine⟨⟨by omega,b⟩,_,?_,hr,hr.clause (Nat.le_refl 1) λx hx=> ?_⟩
 ·rw[Ug,if_pos hg];rfl
 ·rw[List.mem_singleton.1 hx]
  exact LM (lX hat).1 (show 0≤(v:Int)∧(v:Int)<_ by omega) (show 1≤(4:Int)∧(4:Int)≤4 by decide) (by
   show n∈(wT m).getD ((v:Int).toNat) []
   rw[Int.toNat_natCast];exact(hle.2 v).subset b)
theorem zf4{i:Int}{v:Nat}{n:Int}(hat:HX m i=0)(hl:s.length=m.vars.length)(hle:cI s (wT m))(hg:Uf m i s v n=true):Vj m ⟨1,i,Ug m i s v n⟩:=by
 obtain⟨_,r,e,hr,hc⟩:=J9 hat hl hle hg;have hi:=(lX hat).2;exact⟨rfl,hi,by show kN m i (Ug m i s v n)=true;rw[e];exact hr.says,by show yP _ (Ug m i s v n)=0;rw[e];exact hc⟩
theorem LQ{i:Int}(hat:HX m i=0)(hl:s.length=m.vars.length)(hf:zT s=false)(hg:zT (yQ (yW m i) s)=true):∃r,fo m i s=[]++r∧Tn m i s [] r∧yP m.vars.length ([]++r)=0:=by
 have hr:=CQ (must:=[]) hat (zbD hat hl hf hg);refine⟨_,?_,hr,hr.clause (Nat.zero_le _) λx hx=>(by cases hx)⟩
 have hb:Q0 m i s=true:=by rw[Q0,hf,hg];rfl
 rw[fo,if_pos hb];rfl
theorem zdy{i:Int}(hat:HX m i=0)(hl:s.length=m.vars.length)(hf:zT s=false)(hg:zT (yQ (yW m i) s)=true):Vj m ⟨1,i,fo m i s⟩:=by
 obtain⟨r,e,hr,hc⟩:=LQ hat hl hf hg;have hi:=(lX hat).2;exact⟨rfl,hi,by show kN m i (fo m i s)=true;rw[e];exact hr.says,by show yP _ (fo m i s)=0;rw[e];exact hc⟩
noncomputable def XB (m:zG)(i:Int)(s:List (List Int))(v:Nat)(n:Int):zU:=⟨1,i,Ug m i s v n⟩
noncomputable def LR (m:zG)(i:Int)(s x:List (List Int))(v:Nat):List zU:=((s.getD v []).filter λn=> !eB (x.getD v []) n).map (XB m i s v)
noncomputable def vI (m:zG)(i:Int)(s x:List (List Int))(k:Nat):List zU:=(List.range k).flatMap (LR m i s x)
theorem UE{i:Int}{k:Nat}:vI m i s x (k+1)=vI m i s x k++LR m i s x k:=by
 rw[vI,List.range_succ,List.flatMap_append];simp[vI]
theorem Wr{i:Int}{k:Nat}{st:zU}:st∈vI m i s x k↔∃v n,v<k∧n∈s.getD v []∧n∉x.getD v []∧st=XB m i s v n:=by
 rw[vI,List.mem_flatMap];constructor
 ·rintro⟨v,hv,h⟩
  obtain⟨n,h1,h2⟩:=List.mem_map.1 h;obtain⟨h3,h4⟩:=List.mem_filter.1 h1;exact⟨v,n,List.mem_range.1 hv,h3,(λe=>by rw[jA.2 e]at h4;cases h4),h2.symm⟩
 ·rintro⟨v,n,h1,h2,h3,rfl⟩
  refine⟨v,List.mem_range.2 h1,List.mem_map.2 ⟨n,List.mem_filter.2 ⟨h2,?_⟩,rfl⟩⟩;cases e:eB (x.getD v []) n
  ·rfl
  ·exact absurd (jA.1 e) h3
theorem zh1{a b:List Int}(h:a.Sublist b):(b.filter λn=> !eB a n).length+a.length≤b.length:=by
 have h1:=Lk (p:=eB a) (r:=b);have h2:(a.filter (eB a))=a:=List.filter_eq_self.2 λn hn=>jA.2 hn
 have h3:=(h.filter (eB a)).length_le;rw[h2]at h3
 omega
theorem Jt{a:List (List Int)}{k:Nat}(h:k<a.length):vE (a.take (k+1))=vE (a.take k)+a[k].length:=by
 have:=congrArg vE (List.take_append_getElem h);rw[←this,vE,List.map_append,List.sum_append];simp[vE]
theorem DH{i:Int}(h:cI x s):∀k,k≤s.length→(vI m i s x k).length+vE (x.take k)≤vE (s.take k):=by
 intro k
 induction k with
 |zero=>intro _;exact Nat.le_refl _
 |succ k ih=>
  intro hk;have ih:=ih (by omega)
  have hx:k<x.length:=by rw[h.1];omega
  have e1:vE (x.take (k+1))=vE (x.take k)+(x.getD k []).length:=by rw[yE _ hx,Jt hx]
  have e2:vE (s.take (k+1))=vE (s.take k)+(s.getD k []).length:=by rw[yE _ hk,Jt hk]
  have:=zh1 (h.2 k);rw[UE,List.length_append,e1,e2,LR,List.length_map];omega
structure Tr (m:zG)(l:List (List zC))(d:List zC)(steps:List zU)(s:List (List Int)):Prop where
 reach:rZ (mS m true l) (dH m d) s
 sim:Sim m l d steps s
 ok:∀st∈steps,Vj m st
 size:steps.length+vE s≤36
 size2:steps.length+vE s≤vE (wT m)
theorem Tr.len(h:Tr m l d steps s):s.length=m.vars.length:=h.reach.le.1.trans fC
theorem Tr.le(h:Tr m l d steps s):cI s (wT m):=h.reach.le.trans Ui
theorem Tr.store(h:Tr m l d steps s):fg m s=0:=Pz Xz h.le
theorem Tr.filtR(h:Tr m l d steps s)(hk:wM m l d){i:Int}(hi:0≤i∧i<(m.cons.length:Int)):zeQ m i s:=by
 refine zhX (zjv ?_ hi);rw[zaT (by rw[hk.chk];decide),Fb];exact h.store
theorem CS(hr:Right m):vE (wT m)≤36:=by
 have h1:∀k,k≤m.vars.length→vE ((wT m).take k)≤k*6:=by
  intro k
  induction k with
  |zero=>intro _;exact Nat.le_refl _
  |succ k ih=>
   intro hk;have hx:k<(wT m).length:=by rw[xU];exact hk
   have:=ih (by omega)
   have h6:=QZ hr k;rw[yE _ hx]at h6
   have e1:vE ((wT m).take (k+1))=vE ((wT m).take k)+((wT m)[k]).length:=Jt hx;omega
 have h2:=h1 _ (Nat.le_refl _);rw[List.take_of_length_le (by rw[xU];exact Nat.le_refl _)]at h2
 have:=hr.vars;omega
theorem Tr.begin(h:wM m l d):Tr m l d [] (dH m d):=
 ⟨rZ.refl _ _,.inr (Q4 h λ_ hx=>(by cases hx)).le,λ_ hx=>(by cases hx),by
  have:=(Ui (m:=m) (d:=d)).size;have:=CS h.mc.right;show 0+_≤_
  omega,by
  have:=(Ui (m:=m) (d:=d)).size;show 0+_≤_
  omega⟩
theorem zeV{i:Int}(hat:HX m i=0):yW m i∈m.cons:=by
 have h:=(lX hat).2;have hi:i.toNat<m.cons.length:=by omega
 rw[yW,yE _ hi];exact List.getElem_mem hi
theorem Ei(hp:0<s.length)(hf:zT s=false):0<vE s:=by
 have:=sT.1 hf 0 hp;cases s with
 |nil=>cases hp
 |cons a s=>
  have:a≠[]:=this;have:0<a.length:=List.length_pos_iff.2 this;show 0<a.length+_
  omega
theorem Ju:vE (gI s)=0:=by
 rw[gI,vE,List.map_replicate,List.sum_replicate_nat];rfl
theorem rZ.none{ops:List Op}{s0 r t:List (List Int)}(h:rZ ops s0 r)(hf:zT r=true)(hl:t.length=s0.length):rZ ops s0 (gI t):=
 ⟨Tg hl,λt h1 h2 h3=>by have:=(h.all t h1 h2 h3).fail h2;rw[hf]at this;cases this⟩
theorem Tr.empty(h:Tr m l d steps s)(hk:wM m l d){i:Int}(hat:HX m i=0)(hf:zT s=false)(hg:zT (yQ (yW m i) s)=true):
  Tr m l d (steps++[⟨1,i,fo m i s⟩]) (gI s)∧vE (gI s)<vE s:=by
 have hp:0<s.length:=by rw[h.len];exact hk.mc.pos
 have hpos:=Ei hp hf
 have hok:∀st∈steps++[⟨1,i,fo m i s⟩],Vj m st:=λst hs=>by
  rcases List.mem_append.1 hs with hs|hs
  ·exact h.ok st hs
  ·rw[List.mem_singleton.1 hs];exact zdy hat h.len hf hg
 have hs:=h.sim.grow hk h.ok hok;refine⟨⟨?_,?_,hok,?_,?_⟩,by rw[Ju];exact hpos⟩
 ·refine rZ.none (r:=yQ (yW m i) s) ?_ hg (h.len.trans fC.symm)
  exact h.reach.step (N3 hk.mc) fC (ox.2 (.inl ⟨rfl,_,zeV hat,rfl⟩))
 ·refine .inl ?_
  rcases hs with hs|hs
  ·exact hs
  ·cases hu:zT (RE m l d (steps++[⟨1,i,fo m i s⟩]))
   ·obtain⟨r,e,hr,hc⟩:=LQ hat h.len hf hg
    have hl:=zeU hk hok;have hst:=Eh hk hok hu (c:=fo m i s) (by rw[oD];exact List.mem_append_right _ (List.mem_append_right _ (List.mem_singleton.2 rfl)))
    have hst:Yk (RE m l d (steps++[⟨1,i,fo m i s⟩])) ([]++r)=RE m l d (steps++[⟨1,i,fo m i s⟩]):=by rw[←e];exact hst
    have h0:=sT.1 hu 0 (by rw[hl];exact hk.mc.pos)
    obtain⟨n,hn⟩:=List.exists_mem_of_ne_nil _ h0;obtain⟨us,_,_,h3⟩:=LO hr hk.mc.pos hc hs hu hl hst hn;cases h3
   ·rfl
 ·have:=h.size
  rw[List.length_append,Ju,List.length_singleton];omega
 ·have:=h.size2
  rw[List.length_append,Ju,List.length_singleton];omega
theorem Tr.con(h:Tr m l d steps s)(hk:wM m l d){i:Int}(hat:HX m i=0)(hf:zT s=false)(hg:zT (yQ (yW m i) s)=false):
  Tr m l d (steps++vI m i s (yQ (yW m i) s) s.length) (yQ (yW m i) s)∧(vI m i s (yQ (yW m i) s) s.length=[]→yQ (yW m i) s=s)∧(vI m i s (yQ (yW m i) s) s.length≠[]→vE (yQ (yW m i) s)<vE s):=by
 have hop:=(h.filtR hk (lX hat).2).op;have hle:=hop.le h.len;have hk':yQ (yW m i) s=pL (mayB (vH (yW m i)) s) s:=hop.some s h.len hf ((hop.nofail h.len).1 hg)
 have hgone:∀v n,n∈s.getD v []→n∉(yQ (yW m i) s).getD v []→Uf m i s v n=true:=λv n h1 h2=>by
  rw[Uf,Int.toNat_natCast,hf,jA.2 h1];cases e:eB ((yQ (yW m i) s).getD v []) n
  ·rfl
  ·exact absurd (jA.1 e) h2
 have hok:∀st∈steps++vI m i s (yQ (yW m i) s) s.length,Vj m st:=λst hs=>by
  rcases List.mem_append.1 hs with hs|hs
  ·exact h.ok st hs
  ·obtain⟨v,n,h1,h2,h3,rfl⟩:=Wr.1 hs
   exact zf4 hat h.len h.le (hgone v n h2 h3)
 have hs:=h.sim.grow hk h.ok hok;have hsz:=DH (m:=m) (i:=i) hle s.length (Nat.le_refl _);rw[List.take_length,List.take_of_length_le (by rw[hle.1];exact Nat.le_refl _)]at hsz
 refine⟨⟨?_,?_,hok,?_,?_⟩,λe=> ?_,λe=> ?_⟩
 ·exact h.reach.step (N3 hk.mc) fC (ox.2 (.inl ⟨rfl,_,zeV hat,rfl⟩))
 ·rcases hs with hs|hs
  ·exact .inl hs
  ·cases hu:zT (RE m l d (steps++vI m i s (yQ (yW m i) s) s.length))
   ·refine .inr ?_
    have hl:=zeU hk hok
    have hall:∀(v:Nat) (n:Int),n∈(RE m l d (steps++vI m i s (yQ (yW m i) s) s.length)).getD v []→mayB (vH (yW m i)) s v n=true:=λv n hn=>by
     have hns:=(hs.2 v).subset hn;cases hm:mayB (vH (yW m i)) s v n
     ·have hn2:n∉(yQ (yW m i) s).getD v []:=λe=>by
       rw[hk',tK]at e
       rw[(List.mem_filter.1 e).2]at hm;cases hm
      have hg:=hgone v n hns hn2;obtain⟨⟨hv,_⟩,r,e,hr,hc⟩:=J9 hat h.len h.le hg
      have hst:=Eh hk hok hu (c:=Ug m i s v n) (by
       rw[oD];refine List.mem_append_right _ (List.mem_append_right _ (List.mem_map.2 ⟨XB m i s v n,Wr.2 ⟨v,n,by rw[h.len];exact hv,hns,hn2,rfl⟩,rfl⟩)))
      have hst:Yk (RE m l d (steps++vI m i s (yQ (yW m i) s) s.length)) ([⟨v,4,n⟩]++r)=RE m l d (steps++vI m i s (yQ (yW m i) s) s.length):=by rw[←e];exact hst
      obtain⟨us,_,h2,h3⟩:=LO hr hk.mc.pos hc hs hu hl hst hn;obtain⟨x,hx,hh⟩:=kE.1 h3;rw[List.mem_singleton.1 hx]at hh
      have h2':us.getD ((v:Int).toNat) 0=n:=by rw[Int.toNat_natCast];exact h2
      simp[holdsL,h2']at hh
      exact absurd (by simpa using h2) hh
     ·rfl
    have h2:=Ve (f:=mayB (vH (yW m i)) s) (g:=mayB (vH (yW m i)) s) hs λv n hn e=>e
    rw[Zc hall,←hk']at h2
    exact h2
   ·exact .inl hu
 ·have:=h.size
  rw[List.length_append];omega
 ·have:=h.size2
  rw[List.length_append];omega
 ·have:∀(v:Nat) (n:Int),n∈s.getD v []→mayB (vH (yW m i)) s v n=true:=λv n hn=>by
   cases hm:mayB (vH (yW m i)) s v n
   ·have hn2:n∉(yQ (yW m i) s).getD v []:=λe=>by
     rw[hk',tK]at e
     rw[(List.mem_filter.1 e).2]at hm;cases hm
    have hv:v<s.length:=Classical.byContradiction λh=>by rw[qJ (by omega)]at hn;cases hn
    have:=(Wr (m:=m) (i:=i)).2 ⟨v,n,hv,hn,hn2,rfl⟩;rw[e]at this;cases this
   ·rfl
  rw[hk',Zc this]
 ·have:0<(vI m i s (yQ (yW m i) s) s.length).length:=List.length_pos_iff.2 e
  omega
theorem Tr.units(h:Tr m l d steps s)(hk:wM m l d):Tr m l d steps (qC m false l s)∧cI (qC m false l s) s:=by
 have hr:=gV (cons:=false) hk.mc h.len
 have hsub:∀op∈mS m false l,op∈mS m true l:=λop ho=>by
  rcases ox.1 ho with⟨hc,_⟩|hc
  ·cases hc
  ·exact ox.2 (.inr hc)
 refine⟨⟨⟨hr.le.trans h.reach.le,λt h1 h2 h3=>hr.all t (h.reach.all t h1 h2 h3) h2 λop ho=>h3 op (hsub op ho)⟩,?_,h.ok,?_,?_⟩,hr.le⟩
 ·rcases h.sim with hs|hs
  ·exact .inl hs
  ·cases hu:zT (RE m l d steps)
   ·refine .inr (hr.all _ hs hu λop ho=> ?_)
    rcases ox.1 ho with⟨hc,_⟩|⟨c,hc,rfl⟩
    ·cases hc
    ·exact Eh hk h.ok hu (List.mem_append_left _ hc)
   ·exact .inl hu
 ·have:=h.size
  have:=hr.le.size;omega
 ·have:=h.size2
  have:=hr.le.size;omega
theorem Tr.done(h:Tr m l d steps s)(hk:wM m l d)(hf:qM m l d=true)(he:zT s=true∨Oj (mS m true l) s):zT (RE m l d steps)=true:=by
 have hs:zT s=true:=by
  cases e:zT s
  ·rcases he with he|he
   ·rw[e]at he;cases he
   ·have:=PA hk.mc fC (h.reach.stop e he)
    rw[qM,this,e]at hf;cases hf
  ·rfl
 rcases h.sim with h1|h1
 ·exact h1
 ·exact h1.failed hs
end
def Ia(d:List zC):zU:=⟨2,0,d.map fG⟩
theorem SA{m:zG}:∀(a b:List zU) (all:List (List zC)),pO m all (a++b)=(pO m all a&&pO m (all++sE a) b)
 |[],b,all=>by
  show pO m all b=(pO m all []&&pO m (all++[]) b)
  rw[List.append_nil];rfl
 |x::a,b,all=>by
  rw[List.cons_append,pO,SA a b,pO,Bool.and_assoc,List.append_assoc];rfl
theorem Ej{m:zG}:∀(a:List zU) (all:List (List zC)),(∀st∈a,Vj m st)→pO m all a=true
 |[],all,_=>rfl
 |x::a,all,h=>by
  have hx:=h x (List.mem_cons_self ..);rw[pO,Ej a _ λst hs=>h st (List.mem_cons_of_mem _ hs),Yl,if_pos hx.kind,hx.by'];rfl
structure AE (m:zG)(l:List (List zC))(d:List zC)(t:List zU):Prop where
 right:pO m l t=true
 len:0<t.length∧t.length≤37
 len2:t.length≤vE (wT m)+1
 cl:∀st∈t,yP m.vars.length st.clause=0
 con:∀st∈t,st.kind=1→0≤st.con∧st.con<(m.cons.length:Int)
 last:(t.getD (t.length-1) ⟨0,0,[]⟩).clause=d.map fG
theorem Tr.trace{m:zG}{l:List (List zC)}{d:List zC}{steps:List zU}{s:List (List Int)}(h:Tr m l d steps s)(hk:wM m l d)(hf:qM m l d=true)(he:zT s=true∨Oj (mS m true l) s):AE m l d (steps++[Ia d]):=by
 refine⟨?_,?_,?_,λst hs=> ?_,λst hs e=> ?_,?_⟩
 ·rw[SA,Ej _ _ h.ok,Bool.true_and]
  show(Yl m (l++sE steps) (Ia d)&&true)=true
  rw[Bool.and_true];show(decide ((0:Int)=0)&&Sv m (l++sE steps) (d.map fG))=true
  rw[Sv,←zh0 hk.ops];exact h.done hk hf he
 ·have:=h.size
  rw[List.length_append,List.length_singleton];omega
 ·have:=h.size2
  rw[List.length_append,List.length_singleton];omega
 ·rcases List.mem_append.1 hs with hs|hs
  ·exact(h.ok st hs).cl
  ·rw[List.mem_singleton.1 hs];exact CR hk
 ·rcases List.mem_append.1 hs with hs|hs
  ·exact(h.ok st hs).con
  ·rw[List.mem_singleton.1 hs]at e;cases e
 ·rw[List.length_append,List.length_singleton,Nat.add_sub_cancel,yE _ (show steps.length<(steps++[Ia d]).length by rw[List.length_append,List.length_singleton];omega),List.getElem_append_right (Nat.le_refl _)]
  simp[Ia]
theorem AE.steps{m:zG}{l:List (List zC)}{d:List zC}{t:List zU}(h:AE m l d t)(hk:wM m l d):H1 m l t:=⟨hk.chk,hk.len,by have:=h.len;omega,hk.cl,h.cl,h.con⟩
theorem XC{α:Type}{f:Nat→α→Int}:∀ {xs:List α} {i:Nat},(∀j,∀x∈xs,f j x=0)→wK f i xs=0
 |[],_,_=>rfl
 |x::xs,i,h=>by rw[wK,if_pos (h i x (List.mem_cons_self ..)),XC λj y hy=>h j y (List.mem_cons_of_mem _ hy)]
abbrev Ek:Type:=List zU×List (List Int)
noncomputable def Vk (m:zG)(i:Int)(p:Ek):Ek×Bool:=if zT (yQ (yW m i) p.2)=true then((p.1++[⟨1,i,fo m i p.2⟩],gI p.2),true)
 else((p.1++vI m i p.2 (yQ (yW m i) p.2) p.2.length,yQ (yW m i) p.2),!(vI m i p.2 (yQ (yW m i) p.2) p.2.length).isEmpty)
noncomputable def fD (m:zG):Nat→Nat→Ek→Bool→Ek×Bool
 |0,_,p,c=>(p,c)
 |k+1,i,p,c=>if zT p.2=true then(p,c)else fD m k (i+1) (Vk m i p).1 ((Vk m i p).2||c)
noncomputable def iV (m:zG)(l:List (List zC))(p:Ek):Ek×Bool:=
 (((fD m m.cons.length 0 p false).1.1,qC m false l (fD m m.cons.length 0 p false).1.2),if qC m false l (fD m m.cons.length 0 p false).1.2=(fD m m.cons.length 0 p false).1.2 then(fD m m.cons.length 0 p false).2 else true)
noncomputable def Ou (m:zG)(l:List (List zC)):Nat→Ek→Ek
 |0,p=>p
 |k+1,p=>if zT p.2=true then p else if(iV m l p).2=true then Ou m l k (iV m l p).1 else(iV m l p).1
noncomputable def cH (m:zG)(l:List (List zC))(d:List zC):List zU:=(Ou m l 37 ([],dH m d)).1++[Ia d]
section
variable {m:zG}{l:List (List zC)}{d:List zC}
theorem zh2(h:wM m l d){i:Nat}(hi:i<m.cons.length):HX m i=0:=N2 h.chk (by omega)
theorem Jv{p:Ek}(h:Tr m l d p.1 p.2)(hk:wM m l d){i:Nat}(hi:i<m.cons.length)(hf:zT p.2=false):
  Tr m l d (Vk m i p).1.1 (Vk m i p).1.2∧((Vk m i p).2=true→vE (Vk m i p).1.2<vE p.2)∧((Vk m i p).2=false→(Vk m i p).1.2=p.2∧yQ (yW m i) p.2=p.2):=by
 have hat:=zh2 hk hi;cases hg:zT (yQ (yW m i) p.2)
 ·obtain⟨h1,h2,h3⟩:=h.con hk hat hf hg
  have e:Vk m i p=((p.1++vI m i p.2 (yQ (yW m i) p.2) p.2.length,yQ (yW m i) p.2),!(vI m i p.2 (yQ (yW m i) p.2) p.2.length).isEmpty):=by
   rw[Vk,if_neg (by rw[hg];decide)]
  rw[e];refine⟨h1,λx=>h3 λe=> ?_,λx=> ?_⟩
  ·rw[e]at x;cases x
  ·have:=h2 (List.isEmpty_iff.1 (by simpa using x))
   exact⟨this,this⟩
 ·obtain⟨h1,h2⟩:=h.empty hk hat hf hg
  have e:Vk m i p=((p.1++[⟨1,i,fo m i p.2⟩],gI p.2),true):=by rw[Vk,if_pos hg]
  rw[e];exact⟨h1,λ_=>h2,λx=>by cases x⟩
theorem Ma(hk:wM m l d):∀(k i:Nat) (p:Ek) (c:Bool),i+k=m.cons.length→Tr m l d p.1 p.2→
  Tr m l d (fD m k i p c).1.1 (fD m k i p c).1.2∧vE (fD m k i p c).1.2≤vE p.2∧((fD m k i p c).2=true→c=true∨vE (fD m k i p c).1.2<vE p.2)∧
   ((fD m k i p c).2=false→c=false∧(fD m k i p c).1.2=p.2∧(zT p.2=true∨∀j,i≤j→j<m.cons.length→yQ (yW m j) p.2=p.2))
 |0,i,p,c,hi,h=>⟨h,Nat.le_refl _,λe=> .inl e,λe=>⟨e,rfl,.inr λj h1 h2=>by omega⟩⟩
 |k+1,i,p,c,hi,h=>by
  cases hf:zT p.2
  ·obtain⟨h1,h2,h3⟩:=Jv h hk (i:=i) (by omega) hf
   obtain⟨i1,i2,i3,i4⟩:=Ma hk k (i+1) (Vk m i p).1 ((Vk m i p).2||c) (by omega) h1
   rw[fD,if_neg (by rw[hf];decide)]
   have hle:vE (Vk m i p).1.2≤vE p.2:=by
    cases e:(Vk m i p).2
    ·rw[(h3 e).1];exact Nat.le_refl _
    ·exact Nat.le_of_lt (h2 e)
   refine⟨i1,Nat.le_trans i2 hle,λe=> ?_,λe=> ?_⟩
   ·rcases i3 e with e|e
    ·rcases Bool.or_eq_true _ _▸e with e|e
     ·exact .inr (Nat.lt_of_le_of_lt i2 (h2 e))
     ·exact .inl e
    ·exact .inr (Nat.lt_of_lt_of_le e hle)
   ·obtain⟨a,b,g⟩:=i4 e
    rw[Bool.or_eq_false_iff]at a
    obtain⟨e1,e2⟩:=h3 a.1;rw[e1]at b g
    refine⟨a.2,b,.inr λj q1 q2=> ?_⟩
    by_cases hj:j=i
    ·rw[hj];exact e2
    ·rcases g with g|g
     ·rw[hf]at g;cases g
     ·exact g j (by omega) q2
  ·rw[fD,if_pos hf]
   exact⟨h,Nat.le_refl _,λe=> .inl e,λe=>⟨e,rfl,.inl rfl⟩⟩
theorem Q5{p:Ek}(h:Tr m l d p.1 p.2)(hk:wM m l d)(hf:zT p.2=false):
  Tr m l d (iV m l p).1.1 (iV m l p).1.2∧((iV m l p).2=true→vE (iV m l p).1.2<vE p.2)∧((iV m l p).2=false→Oj (mS m true l) (iV m l p).1.2):=by
 obtain⟨i1,i2,i3,i4⟩:=Ma hk m.cons.length 0 p false (Nat.zero_add _) h;obtain⟨j1,j2⟩:=i1.units hk;rw[iV];generalize fD m m.cons.length 0 p false=r at i1 i2 i3 i4 j1 j2⊢
 refine⟨j1,λe=> ?_,λe=> ?_⟩
 ·by_cases hx:qC m false l r.1.2=r.1.2
  ·have e:r.2=true:=by simpa[hx]using e
   show vE (qC m false l r.1.2)<_
   rw[hx];rcases i3 e with e|e
   ·cases e
   ·exact e
  ·exact Nat.lt_of_lt_of_le (j2.size_lt hx) i2
 ·by_cases hx:qC m false l r.1.2=r.1.2
  ·have e:r.2=false:=by simpa[hx]using e
   obtain⟨_,b,g⟩:=i4 e;show Oj _ (qC m false l r.1.2)
   rw[hx,b];rw[b]at hx
   rcases g with g|g
   ·rw[hf]at g;cases g
   intro op ho;rcases ox.1 ho with⟨_,c,hc,rfl⟩|⟨c,hc,rfl⟩
   ·obtain⟨j,hj,rfl⟩:=List.getElem_of_mem hc
    have:=g j (Nat.zero_le _) hj
    rwa[yW,Int.toNat_natCast,yE _ hj]at this
   ·have hr:=gV (cons:=false) hk.mc h.len
    rw[hx]at hr
    rcases hr.out with⟨_,h2⟩|h2
    ·exact h2 _ (ox.2 (.inr ⟨c,hc,rfl⟩))
    ·rw[h2,iR (by rw[h.len];exact hk.mc.pos)]at hf;cases hf
  ·simp[hx]at e
theorem PC(hk:wM m l d):∀(k:Nat) (p:Ek),Tr m l d p.1 p.2→vE p.2≤k→Tr m l d (Ou m l (k+1) p).1 (Ou m l (k+1) p).2∧(zT (Ou m l (k+1) p).2=true∨Oj (mS m true l) (Ou m l (k+1) p).2)
 |k,p,h,hs=>by
  cases hf:zT p.2
  ·obtain⟨h1,h2,h3⟩:=Q5 h hk hf
   rw[Ou,if_neg (by rw[hf];decide)]
   have hp:=Ei (by rw[h.len];exact hk.mc.pos) hf
   cases e:(iV m l p).2
   ·rw[if_neg (by decide)];exact⟨h1,.inr (h3 e)⟩
   ·rw[if_pos rfl]
    have:=h2 e
    match k,hs with
    |0,hs=>omega
    |k+1,hs=>exact PC hk k _ h1 (by omega)
  ·rw[Ou,if_pos hf];exact⟨h,.inl hf⟩
theorem Q6(hk:wM m l d)(hf:qM m l d=true):AE m l d (cH m l d):=by
 have hb:=Tr.begin hk;obtain⟨h1,h2⟩:=PC hk 36 ([],dH m d) hb (by have:=hb.size;simpa using this)
 exact h1.trace hk hf h2
end
theorem zdz(w:World):Calls Tryz.prog 248 #[.slice none 0 0,.int .i64 0] w λe w'=>e=.returned (.slice none 0 0)∧w=w':=by
 go_enter Tryz.func248,Tryz.ntmps248
 go_wp2
 all_goals go_ret
 all_goals exact⟨rfl,rfl⟩
set_option maxRecDepth 100000 in
theorem zdA(n:Nat)(h0:0<n)(h:n*24≤140737488355328)(w:World):Calls Tryz.prog 248 #[.slice none 0 0,.int .i64 n] w λe w'=>∃cap cells,e=.returned (.slice (some ⟨w.heap.size,0,none⟩) 0 cap)∧w'.heap[w.heap.size]? =some (.cells cells 114 (0,0))∧cells.size=cap*3∧cap≤maxLen∧w'.heap.size=w.heap.size+1∧Below w.heap.size w w':=by
 go_enter Tryz.func248,Tryz.ntmps248
 have happ:=Lib.run_append_nil_zeros (P:=Tryz.prog) w 52 3 52 114 Tryz.t114 (.agg #[.int .i64 0,.int .i64 0,.int .i64 0]) .i64 .i64 Tryz.underlying52 Tryz.underlying3 (by kernel_rfl) (by kernel_rfl) n h0 (by decide) (by omega) (by show n*24≤_;omega)
 have hcap:=grownCap_le_maxLen w n 0 114 (by unfold maxLen;omega)
 have hge:=grownCap_ge w n 0 114;generalize grownCap w n 0 114=cap at happ hcap hge
 have hZs:(Builtin.zeroCells (Value.agg #[.int .i64 0,.int .i64 0,.int .i64 0]).cells n++Builtin.zeroCells (Value.agg #[.int .i64 0,.int .i64 0,.int .i64 0]).cells (cap-n)).size=cap*3:=by
  simp[size_zeroCells,Value.cells];omega
 generalize Builtin.zeroCells (Value.agg #[.int .i64 0,.int .i64 0,.int .i64 0]).cells n++Builtin.zeroCells (Value.agg #[.int .i64 0,.int .i64 0,.int .i64 0]).cells (cap-n)=Z at happ hZs
 go_wp2_with (at_builtin;refine Lib.wpList_append_run _ rfl _ _ _ _ rfl _ _ rfl rfl _ _ happ ?_)
 go_ret
 exact⟨cap,Z,rfl,heap_alloc_new w _,hZs,hcap,by simp,⟨rfl,rfl,rfl,by simp,λk hk=>Below.heap_alloc w _ k hk⟩⟩
theorem zdB(l:List zC):yH tZ [.sl .lit l] [] (.own 3000) [(3000,.row 114 .lit l)]:=
 aG l λok _=>by
  rw[Zl];intro b hb;refine zA (λe=> ?_) λe=>⟨?_,?_⟩
  ·rw[hb e];exact⟨rfl,rfl⟩
  ·refine xY (t:=.lit) ?_
   have:=(YN (t:=.lit) (L5 ok)).1;show(0+l.length)*24≤_
   have h8:l.length*24≤140737488355328:=this;omega
  ·exact⟨rfl,rfl⟩
theorem Hr(n:Nat)(hn:n*24≤140737488355328):yH pN [.nil,dI n] [] (.own 3000) [(3000,.row 114 .lit [])]:=by
 intro w S vs pl hS hl hv hh _;have e0:vs.getD 0 undef=.slice none 0 0:=Rp.nil_inv (hv 0 _ rfl);have e1:vs.getD 1 undef=.int .i64 n:=(Rp.int_inv (hv 1 _ rfl)).1
 have ev:vs= #[.slice none 0 0,.int .i64 n]:=by
  have hl2:vs.size=2:=hl;apply Array.ext (by simp[hl2])
  intro i h1 h2;simp[Array.getD_eq_getD_getElem?]at e0 e1
  match i,h1 with
  |0,h1=>rw[Array.getElem?_eq_getElem h1]at e0;simpa using e0
  |1,h1=>rw[Array.getElem?_eq_getElem h1]at e1;simpa using e1
  |i+2,h1=>exact absurd h1 (by omega)
 subst ev
 by_cases h0:n=0
 ·subst h0
  refine(zdz w).mono λe w' ⟨he,hw⟩=> ?_
  subst he hw;exact H3 (t:=.lit) (xs:=[]) hS (λpl'=>⟨by show 0*24≤lim;exact Nat.le_of_ble_eq_true rfl,[],rfl,⟨rfl,.inl ⟨rfl,rfl⟩⟩,λcs h=>(by cases h),λi x cs h=>(by cases h)⟩) (λb h=>by cases h) (Below.refl _ _)
 ·refine(zdA n (by omega) hn w).mono λe w' ⟨cap,cells,he,h1,h2,h3,h4,h5⟩=> ?_
  subst he;refine H3 (t:=.lit) (xs:=[]) hS (λpl'=>⟨by show 0*24≤lim;exact Nat.le_of_ble_eq_true rfl,[],rfl,⟨rfl,.inr ⟨w.heap.size,cap,cells,rfl,Nat.zero_le _,h1,Nat.zero_le _,h3,h2,rfl⟩⟩,λcs h=>(by cases h),λi x cs h=>(by cases h)⟩) (λb h=> ?_) h5
  have:w.heap.size=b:=by injection h
  omega
theorem LS{ls:List (List zC)}(hl:ls.length≤1000)(hr:∀l∈ls,l.length≤1000000):tU tQ [.sl (.list .lit) ls] (.sl .lit ls.flatten):=
 cU ls λok=>by
  have flat:∀k,((ls.take k).flatten).length≤k*1000000:=λk=>by
   have h1:∀xs:List (List zC),(∀l∈xs,l.length≤1000000)→xs.flatten.length≤xs.length*1000000:=λxs=>by
    induction xs with
    |nil=>exact λ_=>Nat.le_refl _
    |cons a xs ih=>
     intro h;have h1:=h a (List.mem_cons_self ..);have h2:=ih λl hl=>h l (List.mem_cons_of_mem _ hl)
     rw[List.flatten_cons,List.length_append,List.length_cons];omega
   have:=h1 (ls.take k) λl hl=>hr l (List.mem_of_mem_take hl)
   rw[List.length_take]at this
   exact Nat.le_trans this (Nat.mul_le_mul_right _ (Nat.min_le_left ..))
  have ftake:∀(k:Nat) (h:k<ls.length),(ls.take (k+1)).flatten=(ls.take k).flatten++ls[k]:=λk h=>by
   rw[←List.take_append_getElem h,List.flatten_append];simp
  rw[aH];refine up (I:=λn v (a:Int)=>tJ ls _ n a v) 0 ls.length rfl (Nat.zero_le _) (by omega) (λk a=>a=(((ls.take k).flatten).length:Int)) rfl λn k a _ hk ha hn=> ?_
  subst ha;rw[eV];have hf:=flat k
  by_cases h:k<ls.length
  ·have hm:=hr _ (List.getElem_mem h)
   rw[yC h,zY (t:=.list .lit) h,wL (by omega) (by omega)]
   refine⟨zM h,df (by omega) (hn h _ ?_)⟩
   rw[ftake k h,List.length_append];omega
  ·have hk':k=ls.length:=by omega
   subst hk';rw[zX];refine⟨[],Hr _ (by omega),?_⟩
   refine up (I:=λn v (a:List zC)=>tI ls _ n v a) 0 ls.length rfl (Nat.zero_le _) (by omega) (λk a=>a=(ls.take k).flatten) rfl λn k a _ hk ha hn=> ?_
   subst ha;rw[eU];have hf:=flat k
   by_cases h:k<ls.length
   ·have hm:=hr _ (List.getElem_mem h)
    rw[yC h,zY (t:=.list .lit) h];refine⟨zM h,xY (t:=.lit) ?_,hn h _ (ftake k h).symm⟩;show(_+_)*24≤_
    omega
   ·have hk':k=ls.length:=by omega
    subst hk';rw[zX,List.take_length]
theorem LT{m:zG}(hr:Right m)(d:List zC):tU Xm [dM m,.sl .lit d] (dS (dH m d)):=
 DG m d λok=>by
  have hl:=(YN (t:=.lit) (L5 (okR ok))).1;have hl:d.length*24≤140737488355328:=hl;rw[AD];refine zH (HZ hr) ?_;refine up (I:=λn v a=>Wq d _ n a v) 0 d.length rfl (Nat.zero_le _) (by omega) (λk a=>a=(d.take k).foldl zaV (wT m)) rfl λn k a _ hk ha hn=> ?_
  subst ha;rw[Hq]
  by_cases h:k<d.length
  ·rw[yC h,zY (t:=.lit) h]
   refine⟨zM h,zH (zc5 _ _) (hn h _ ?_)⟩;rw[←List.take_append_getElem h,List.foldl_append];rfl
  ·have hk':k=d.length:=by omega
   subst hk';rw[zX,List.take_length];rfl
theorem Q7{m:zG}{l:List (List zC)}{d:List zC}(hl:yR m l)(hll:l.length≤1000000000):tU cR [dM m,.sl (.list .lit) l,.sl .lit d] (dB (qM m l d)):=
 Hp m l d λok=>by
  rw[Eg];exact zH (LT hl.right d) (zH (Vh hl (zhZ hl.right) hll) (zH (vD _) rfl))
theorem SX{d:List zC}(hd:d.length≤1000000)(h:∀x∈d,-1000000≤x.n∧x.n≤1000000):tU fP [.sl .lit d] (.sl .lit (d.map fG)):=
 Js d λok=>by
  rw[Ho];refine up (I:=λn v a=>bZ d _ n v a) 0 d.length rfl (Nat.zero_le _) (by omega) (λk a=>a=(d.take k).map fG) rfl λn k a _ hk ha hn=> ?_
  subst ha;rw[N9]
  by_cases hk2:k<d.length
  ·rw[yC hk2,zY (t:=.lit) hk2]
   refine⟨zM hk2,zH (IU _ (h _ (List.getElem_mem hk2))) ⟨xY (t:=.lit) ?_,hn hk2 _ ?_⟩⟩
   ·rw[List.length_map,List.length_take];show(_+1)*24≤_;omega
   ·rw[←List.take_append_getElem hk2,List.map_append];rfl
  ·have hk':k=d.length:=by omega
   subst hk';rw[zX,List.take_length]
theorem Hs{m:zG}{l:List (List zC)}{d:List zC}(hl:yR m l)(hll:l.length≤1000000000)(hd:d.length≤1000000):tU Zx [dM m,.sl (.list .lit) l,.sl .lit d] (.tup [.sl .lit (if qM m l d=true then fewest m l d else[]),dB (qM m l d)]):=
 Jr m l d λok=>by
  rw[Hm];refine zH (Q7 hl hll) (zA (λe=> ?_) λe=> ?_)
  ·have e:qM m l d=false:=by simpa using e
   rw[e];rfl
  have e:qM m l d=true:=by simpa using e
  rw[if_pos e,e];refine⟨d,zdB d,?_⟩;rw[fewest,AB]
  suffices H:∀(k:Nat) (l':List zC) (i:Nat),l'.length≤k+i→i≤l'.length→l'.length≤1000000→∀r,r=Sw (qM m l) k l' i→gN m l (λd=>d=.tup [.sl .lit r,dB true]) (k+1) l' (i:Int)from⟨_,H d.length d 0 (Nat.le_refl _) (Nat.zero_le _) hd _ rfl⟩
  intro k
  induction k with
  |zero=>
   intro l' i h1 h2 h3 r hr;have hi:i=l'.length:=by omega
   subst hi;rw[Vi,zX,hr,Sw]
  |succ k ih=>
   intro l' i h1 h2 h3 r hr;rw[Vi]
   by_cases h:i<l'.length
   ·have hw:yU ((i:Int)+1)=((i+1:Nat):Int):=nX (by omega)
    rw[Sw,if_pos h]at hr
    have hel:(l'.eraseIdx i).length=l'.length-1:=List.length_eraseIdx_of_lt h;rw[yC h,hw,Int.toNat_natCast,Int.toNat_natCast,Int.toNat_natCast,List.drop_zero,List.take_length]
    have hcat:=LS (ls:=[l'.take i,l'.drop (i+1)]) (by show 2≤1000;decide) λx hx=>by
     rcases List.mem_cons.1 hx with rfl|hx
     ·rw[List.length_take];omega
     ·rw[List.mem_singleton.1 hx,List.length_drop];omega
    have he:[l'.take i,l'.drop (i+1)].flatten=l'.eraseIdx i:=by rw[List.eraseIdx_eq_take_drop_succ];simp
    rw[he]at hcat
    refine⟨H4 (Int.le_refl _) (by omega) (by omega),H4 (by omega) (by omega) (Int.le_refl _),zH hcat ?_⟩
    refine zH (Q7 hl hll) (zA (λe=> ?_) λe=> ?_)
    ·rw[if_pos e]at hr
     exact ih _ i (by omega) (by omega) (by omega) r hr
    ·rw[if_neg (by rw[e];decide)]at hr
     exact ih l' (i+1) (by omega) (by omega) h3 r hr
   ·have hi:i=l'.length:=by omega
    subst hi;rw[Sw,if_neg (Nat.lt_irrefl _)]at hr
    rw[zX,hr]
abbrev hpT(m:zG)(l:List (List zC))(p:Ek):List (Nat×yD):=[(1000,.cells [.sl .var m.vars,.sl .con m.cons,dI m.goal,dI m.var,.sl (.list .lit) l,dS p.2,.own 2000]),(2000,.row 129 .step p.1)]
theorem zk4{b:Bool}:zP (!b) (D.bool false=dB b) (D.bool true=dB b):=by cases b<;>rfl
theorem zf5:ZF xQ:=λargs w=>Tryz.call181 args w
theorem zf6(s t:List (List Int)):tU yG [dS s,dS t,.clo xQ none []] (dB (decide (s=t))):=
 XJ.clo (pre:=[dS s,dS t]) (post:=[]) (rs:=some [.bool])<|slices_EqualFunc_api_Store_api_Store_int_int_sat s t xQ [] λok=>by
  rw[rJ];refine zA (λe=> ?_) λe=> ?_
  ·have e:s.length≠t.length:=by simp at e;omega
   rw[decide_eq_false λh=>e (by rw[h])]
  have e:s.length=t.length:=by simp at e;omega
  have hz:=Qn s t e;refine zcT (I:=λn v=>xN s t xQ [] _ n v) (s.zip t) (λx=> !decide (x.1=x.2)) ?_ (X:=D.bool false=dB (decide (s=t))) (Y:=D.bool true=dB (decide (s=t))) ?_ (λn k h hX hn=> ?_) λn hY=> ?_
  ·have:=cM (L5 ok)
   rw[List.length_zip];have:s.length≤9223372036854775807:=this;omega
  ·rw[hz];exact zk4
  ·rw[List.length_zip]at h
   have h1:k<s.length:=by omega
   have h2:k<t.length:=by omega
   rw[wD,yC h1,zY (t:=.list .int) h1,zY (t:=.list .int) h2];refine⟨zM h1,zM h2,zf5,zH (dX _ _) ?_⟩;rw[List.getElem_zip]at hX hn
   exact zA (λe=>hX e) λe=>hn e
  ·have hl:(s.zip t).length=s.length:=by rw[List.length_zip];omega
   rw[hl,wD,zX];exact hY
theorem zh3{m:zG}{i:Int}{s x:List (List Int)}{v k:Nat}(h:k<(s.getD v []).length):(((s.getD v []).take (k+1)).filter λn=> !eB (x.getD v []) n).map (XB m i s v)=(((s.getD v []).take k).filter λn=> !eB (x.getD v []) n).map (XB m i s v)++if eB (x.getD v []) (s.getD v [])[k]=true then[]else[XB m i s v (s.getD v [])[k]]:=by
 rw[Xl _ h];cases eB (x.getD v []) (s.getD v [])[k]<;>simp
theorem Mb{α:Type}{a b:List α}{x:α}:(!(a++(b++[x])).isEmpty)=true:=by
 cases a<;>cases b<;>rfl
theorem Ov{m:zG}{l:List (List zC)}{d:List zC}{p:Ek}(h:Tr m l d p.1 p.2)(hk:wM m l d){i:Nat}(hi:i<m.cons.length)(hf:zT p.2=false):
  yH iF [.ptr 1000 0,dI i] (hpT m l p) (dB (Vk m i p).2) (hpT m l (Vk m i p).1):=by
 obtain⟨st,s⟩:=p;have h:Tr m l d st s:=h;have hf:zT s=false:=hf;refine Q3 m.vars m.cons m.goal m.var l s st i λok ok2=> ?_
 have hat:=zh2 hk hi;have hr:=h.filtR hk (i:=(i:Int)) (by omega)
 have hs:=Xx (lO hr.chk) hr.st;have hl:=hr.len;have hsz:=h.size;have hsl:s.length≤6:=by rw[hl];exact hk.mc.right.vars
 rw[Ot];have hc:yO .con m.cons (i:Int).toNat=yW m i:=by rw[yW,zY hi,Int.toNat_natCast,yE _ hi]
 rw[hc];refine⟨zM hi,zH (bI (c:=yW m i) (by rw[hl];exact hr.right) (by rw[hl];exact hs)) (zH (vD _) (zA (λe=> ?_) λe=> ?_))⟩
 ·have e:zT (yQ (yW m i) s)=true:=e
  refine WP (t:=.list .lit) (u:=.bool) (Jq hr) ⟨xY (t:=.step) ?_,zH (dD _) ?_⟩
  ·show(st.length+1)*40≤_;omega
  ·rw[Vk,if_pos e];exact⟨rfl,rfl⟩
 ·have e:zT (yQ (yW m i) s)=false:=e
  have hcon:Vk m i (st,s)=((st++vI m i s (yQ (yW m i) s) s.length,yQ (yW m i) s),!(vI m i s (yQ (yW m i) s) s.length).isEmpty):=by
   rw[Vk,if_neg (by rw[e];decide)]
  rw[hcon];have hxl:(yQ (yW m i) s).length=s.length:=(hr.op.len hl).trans hl.symm;generalize yQ (yW m i) s=x at e hxl hcon⊢
  have hrow:∀k,(s.getD k []).length≤6:=λk=>Nat.le_trans (h.le.2 k).length_le (QZ hk.mc.right k)
  have hlen:∀k,(vI m i s x k).length≤k*6:=λk=>by
   induction k with
   |zero=>exact Nat.le_refl _
   |succ k ih=>
    have h1:=List.length_filter_le (λn=> !eB (x.getD k []) n) (s.getD k [])
    have h2:=hrow k;rw[UE,List.length_append,LR,List.length_map];omega
  refine up (I:=λn v (a:Bool×List zU)=>o6 s i _ x n a.1 v m.vars m.cons m.goal m.var l s a.2) (a:=(false,st)) 0 s.length rfl (Nat.zero_le _) (by omega) (λk a=>a=(!(vI m i s x k).isEmpty,st++vI m i s x k)) (by show _=(!true,st++[]);rw[List.append_nil];rfl) λn k a _ hkl ha hn=> ?_
  subst ha;show o6 _ _ _ _ _ (!(vI m i s x k).isEmpty) _ _ _ _ _ _ _ (st++vI m i s x k)
  rw[Sy]
  by_cases hks:k<s.length
  ·have hkx:k<x.length:=by omega
   rw[yC hks];refine⟨zM hks,?_⟩;have hg:s.getD k []=s[k]:=yE _ hks;have hgx:x.getD k []=x[k]:=yE _ hkx;have hrk:=hrow k
   refine up (I:=λn v (a:Bool×List zU)=>pG s i _ x _ k n a.1 v m.vars m.cons m.goal m.var l s a.2) (a:=(!(vI m i s x k).isEmpty,st++vI m i s x k)) 0 (s.getD k []).length rfl (Nat.zero_le _) (by omega)
    (λj a=>a=(!(vI m i s x k++(((s.getD k []).take j).filter λn=> !eB (x.getD k []) n).map (XB m i s k)).isEmpty,st++(vI m i s x k++(((s.getD k []).take j).filter λn=> !eB (x.getD k []) n).map (XB m i s k)))) (by simp) λn2 j a _ hjl ha hn2=> ?_
   subst ha;show pG _ _ _ _ _ _ _ (!(vI m i s x k++_).isEmpty) _ _ _ _ _ _ _ (st++(vI m i s x k++_))
   rw[Sx,zY (t:=.list .int) hks,zY (t:=.list .int) hkx,←hg,←hgx]
   by_cases hj:j<(s.getD k []).length
   ·rw[yC hj,zY (t:=.int) hj]
    refine⟨zM hj,zM hkx,zH (tF (a:=(s.getD k [])[j])) ?_⟩;have ht:=zh3 (m:=m) (i:=(i:Int)) (x:=x) hj;show zP (eB (x.getD k []) (s.getD k [])[j]) _ _
    refine zA (λf=> ?_) λf=> ?_
    ·rw[if_pos f,List.append_nil]at ht
     exact hn2 hj (_,_) (by rw[ht];rfl)
    ·rw[if_neg (by rw[f];decide)]at ht
     refine WP (t:=.list .lit) (u:=.bool) (Hl hr (by omega)) ⟨xY (t:=.step) ?_,?_⟩
     ·have h1:=hlen k
      have h2:=List.length_filter_le (λn=> !eB (x.getD k []) n) ((s.getD k []).take j)
      rw[List.length_take]at h2
      rw[List.length_append,List.length_append,List.length_map];show(_+1)*40≤_
      omega
     ·refine hn2 hj (_,_) ?_
      rw[ht,Mb,List.append_assoc st,List.append_assoc (vI m i s x k)];rfl
   ·have hj':j=(s.getD k []).length:=by omega
    subst hj';rw[zX,List.take_length];exact hn hks (_,_) (by rw[UE];rfl)
  ·have hk':k=s.length:=by omega
   subst hk';rw[zX];exact⟨rfl,rfl⟩
theorem Ow{m:zG}{l:List (List zC)}{d:List zC}(hk:wM m l d)(hb:vE (dH m d)≤36):
  yH iB [.ptr 1000 0] (hpT m l ([],dH m d)) (.tup []) (hpT m l (Ou m l 37 ([],dH m d))):=by
 refine Q2 m.vars m.cons m.goal m.var l (dH m d) [] λok ok2=> ?_
 rw[Oq];have hll:=hk.len;have hcl:=hk.mc.right.cons
 suffices H:∀(k:Nat) (p:Ek),Tr m l d p.1 p.2→vE p.2≤k→∀q,q=Ou m l (k+1) p→vN (λd h1=>d=D.tup []∧h1=hpT m l q) (k+2) true m.vars m.cons m.goal m.var l p.2 p.1 from⟨_,H 36 _ (Tr.begin hk) hb _ rfl⟩
 intro k
 induction k using Nat.strongRecOn with
 |ind k ih=>
  intro p h hsz q hq
  have out:∀(n:Nat) (p:Ek),vN (λd h1=>d=D.tup []∧h1=hpT m l p) (n+1) false m.vars m.cons m.goal m.var l p.2 p.1:=λn p=>by
   rw[Z7];exact⟨rfl,rfl⟩
  rw[Z7];refine zH (vD _) (zA (λf=> ?_) λf=> ?_)
  ·have f:zT p.2=false:=by simpa using f
   rw[Ou,if_neg (by rw[f];decide)]at hq
   obtain⟨j1,j2,j3⟩:=Q5 h hk f;have hpos:=Ei (by rw[h.len];exact hk.mc.pos) f
   have fin:∀(r:Ek×Bool),Tr m l d r.1.1 r.1.2→r=fD m m.cons.length 0 p false→
     xK gR [.agg [.sl .var m.vars,.sl .con m.cons,dI m.goal,dI m.var],dS r.1.2,dB false,.sl (.list .lit) l] (.list (.list .int)) λf23=>
      xK yG [dS f23,dS r.1.2,.clo xQ none []] .bool λs24=>
       zP (!s24) (vN (λd h1=>d=D.tup []∧h1=hpT m l q) (k+1) true m.vars m.cons m.goal m.var l f23 r.1.1)
        (vN (λd h1=>d=D.tup []∧h1=hpT m l q) (k+1) r.2 m.vars m.cons m.goal m.var l f23 r.1.1):=λr hr e=>by
    have hrd:iV m l p=((r.1.1,qC m false l r.1.2),if qC m false l r.1.2=r.1.2 then r.2 else true):=by rw[iV,←e]
    refine zH (Vh hk.mc (Xx hk.mc.right hr.store) (by omega)) (zH (zf6 _ _) ?_)
    have nxt:(iV m l p).2=true→vN (λd h1=>d=D.tup []∧h1=hpT m l q) (k+1) true m.vars m.cons m.goal m.var l (qC m false l r.1.2) r.1.1:=λe2=>by
     rw[if_pos e2]at hq
     have:=j2 e2
     match k,ih,hsz,hq with
     |0,ih,hsz,hq=>omega
     |k+1,ih,hsz,hq=>
      have:=ih k (by omega) (iV m l p).1 j1 (by omega) q hq
      rw[hrd]at this
      exact this
    refine zA (λg=> ?_) λg=> ?_
    ·have g:qC m false l r.1.2≠r.1.2:=by simpa using g
     exact nxt (by rw[hrd];exact if_neg g)
    ·have g:qC m false l r.1.2=r.1.2:=by simpa using g
     have g2:(iV m l p).2=r.2:=by rw[hrd];exact if_pos g
     cases e2:r.2
     ·rw[g2,e2,if_neg (by decide)]at hq
      have:=out k q;rw[hq,hrd]at this
      rw[hq,hrd];exact this
     ·exact nxt (g2.trans e2)
   suffices H2:∀(j i:Nat) (p2:Ek) (c:Bool),i+j=m.cons.length→Tr m l d p2.1 p2.2→fD m j i p2 c=fD m m.cons.length 0 p false→oZ (λd h1=>d=D.tup []∧h1=hpT m l q) (k+1) (j+1) c (i:Int) m.vars m.cons m.goal m.var l p2.2 p2.1 from⟨_,H2 m.cons.length 0 p false (Nat.zero_add _) h rfl⟩
   intro j
   induction j with
   |zero=>
    intro i p2 c hij h2 he;have hi:i=m.cons.length:=by omega
    subst hi;rw[Z6,zX];exact fin (p2,c) h2 he
   |succ j ihj=>
    intro i p2 c hij h2 he;have hi:i<m.cons.length:=by omega
    rw[Z6,yC hi];refine zH (vD _) (zA (λg=> ?_) λg=> ?_)
    ·have g:zT p2.2=false:=by simpa using g
     rw[fD,if_neg (by rw[g];decide)]at he
     obtain⟨t1,t2,t3⟩:=Jv h2 hk hi g;refine⟨_,_,_,Ov h2 hk hi g,?_⟩;have hw:yU ((i:Int)+1)=((i+1:Nat):Int):=nX (by omega)
     rw[hw];refine zA (λe=> ?_) λe=> ?_
     ·rw[e]at he;exact ihj (i+1) _ true (by omega) t1 he
     ·rw[e]at he;exact ihj (i+1) _ c (by omega) t1 he
    ·have g:zT p2.2=true:=by simpa using g
     rw[fD,if_pos g]at he
     exact fin (p2,c) h2 he
  ·have f:zT p.2=true:=by simpa using f
   rw[Ou,if_pos f]at hq
   rw[hq];exact⟨rfl,rfl⟩
theorem El{m:zG}{l:List (List zC)}{d:List zC}(hk:wM m l d):tU YP [dM m,.sl (.list .lit) l,.sl .lit d] (.sl .step (cH m l d)):=
 Hn m l d λok=>by
  rw[Ef];have hb:=Tr.begin hk;have hsz:vE (dH m d)≤36:=by have:=hb.size;simpa using this
  have hr:(Ou m l 37 ([],dH m d)).1.length+vE (Ou m l 37 ([],dH m d)).2≤36:=(PC hk 36 ([],dH m d) hb hsz).1.size;refine zH (LT hk.mc.right d) ⟨_,_,Ow hk hsz,zH (SX (by have:=hk.dl;omega) hk.near) ⟨xY (t:=.step) ?_,rfl⟩⟩
  show(_+1)*40≤_
  omega
theorem Ts(a b:List zC):tU nA [.sl .lit a,.sl .lit b] (dB (decide (a=b))):=
 Uv a b λok=>by
  rw[U3];refine zA (λe=> ?_) λe=> ?_
  ·have e:a.length≠b.length:=by simp at e;omega
   rw[decide_eq_false λh=>e (by rw[h])]
  have e:a.length=b.length:=by simp at e;omega
  have hz:=Qn a b e;refine zcT (I:=λn v=>oN a b _ n v) (a.zip b) (λx=> !decide (x.1=x.2)) ?_ (X:=D.bool false=dB (decide (a=b))) (Y:=D.bool true=dB (decide (a=b))) ?_ (λn k h hX hn=> ?_) λn hY=> ?_
  ·have:a.length≤9223372036854775807:=cM (L5 ok)
   rw[List.length_zip];omega
  ·rw[hz];exact zk4
  ·rw[List.length_zip]at h
   have h1:k<a.length:=by omega
   have h2:k<b.length:=by omega
   rw[f7,yC h1,zY (t:=.lit) h1,zY (t:=.lit) h2];rw[List.getElem_zip]at hX hn
   exact⟨zM h1,zM h2,zA (λe=>hX e) λe=>hn e⟩
  ·have hl:(a.zip b).length=a.length:=by rw[List.length_zip];omega
   rw[hl,f7,zX];exact hY
end Go.Proofs.YtogdmcebojiojaaGreatDoor
