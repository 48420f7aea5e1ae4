/- Texts of this proof, one behind the other: nothing is handed in but what is proved here; no condition. -/
import Derived.Test.YtogdmcebojiojaaGreatDoorProg
import Derived.Lib.AppendZeros
import Derived.Test.YtogdmcebojiojaaGreatDoorZD
namespace Go.Proofs.YtogdmcebojiojaaGreatDoor
open Go.RowKit
set_option maxRecDepth 100000
set_option linter.unusedVariables false
set_option linter.unusedSimpArgs false
def fO(t s:List (List Int)):Prop:=t.length=s.length∧∀v:Nat,(t.getD v []).Sublist (s.getD v [])
def XB(vs:List Int)(s:List (List Int)):Prop:=vs.length=s.length∧∀v:Nat,v<s.length→vs.getD v 0∈s.getD v []
theorem fO.refl(s:List (List Int)):fO s s:=⟨rfl,λv=>List.Sublist.refl _⟩
theorem fO.trans{a b c:List (List Int)}(h:fO a b)(h':fO b c):fO a c:=⟨h.1.trans h'.1,λv=>(h.2 v).trans (h'.2 v)⟩
theorem S5{α:Type}{d:α}{a b:List α}(hl:a.length=b.length)(h:∀v:Nat,a.getD v d=b.getD v d):a=b:=by
 apply List.ext_getElem hl;intro i h1 h2;have:=h i
 rwa[yA _ h1,yA _ h2]at this
theorem sU{α:Type}{d:α}{a:List α}{v:Nat}(h:a.length≤v):a.getD v d=d:=by
 rw[List.getD_eq_getElem?_getD,List.getElem?_eq_none h];rfl
theorem fO.antisymm{a b:List (List Int)}(h:fO a b)(h':fO b a):a=b:=
 S5 h.1 λv=>(h.2 v).eq_of_length (Nat.le_antisymm (h.2 v).length_le (h'.2 v).length_le)
theorem XC{f:Nat→Int→Bool}{s:List (List Int)}:fO (rX f s) s:=⟨uE,λv=>by rw[uD];exact List.filter_sublist⟩
theorem cL{f:Nat→Int→Bool}{s:List (List Int)}(h:∀(v:Nat) (n:Int),n∈s.getD v []→f v n=true):rX f s=s:=
 S5 uE λv=>by rw[uD];exact List.filter_eq_self.2 λn hn=>h v n hn
theorem XD{f g:Nat→Int→Bool}{t s:List (List Int)}(h:fO t s)(hf:∀(v:Nat) (n:Int),n∈t.getD v []→f v n=true→g v n=true):fO (rX f t) (rX g s):=by
 refine⟨by rw[uE,uE];exact h.1,λv=> ?_⟩
 rw[uD,uD];refine List.Sublist.trans ?_ ((h.2 v).filter (g v))
 have e:(t.getD v []).filter (f v)=((t.getD v []).filter (g v)).filter (f v):=by
  rw[List.filter_filter];refine List.filter_congr λn hn=> ?_
  cases hc:f v n
  ·rfl
  ·rw[hf v n hn hc];rfl
 rw[e];exact List.filter_sublist
theorem tG{s:List (List Int)}:zT s=false↔∀v:Nat,v<s.length→s.getD v []≠[]:=by
 rw[zT,List.any_eq_false];constructor
 ·intro h v hv e
  rw[yA _ hv]at e
  exact h _ (List.getElem_mem hv) (by rw[e];rfl)
 ·intro h l hl e
  obtain⟨i,hi,rfl⟩:=List.getElem_of_mem hl;refine h i hi ?_;rw[yA _ hi];exact List.length_eq_zero_iff.1 (of_decide_eq_true e)
theorem Ga{s:List (List Int)}:zT s=true↔∃v:Nat,v<s.length∧s.getD v []=[]:=by
 constructor
 ·intro h
  apply Classical.byContradiction;intro hn;rw[tG.2 λv hv e=>hn ⟨v,hv,e⟩]at h
  cases h
 ·rintro⟨v,hv,e⟩
  cases h:zT s
  ·exact absurd e (tG.1 h v hv)
  ·rfl
theorem fO.fail{t s:List (List Int)}(h:fO t s)(hf:zT t=false):zT s=false:=
 tG.2 λv hv e=>tG.1 hf v (by rw[h.1];exact hv) (by have:=h.2 v;rw[e]at this;exact List.sublist_nil.1 this)
theorem fO.failed{t s:List (List Int)}(h:fO t s)(hf:zT s=true):zT t=true:=by
 cases e:zT t
 ·rw[h.fail e]at hf;cases hf
 ·rfl
theorem XB.mono{vs:List Int}{t s:List (List Int)}(h:XB vs t)(hl:fO t s):XB vs s:=⟨h.1.trans hl.1,λv hv=>(hl.2 v).subset (h.2 v (by rw[hl.1];exact hv))⟩
theorem XB.fail{vs:List Int}{s:List (List Int)}(h:XB vs s):zT s=false:=tG.2 λv hv e=>by
 have:=h.2 v hv;rw[e]at this;cases this
theorem YR{s:List (List Int)}:(kX s).length=s.length:=List.length_replicate ..
theorem Gb{s:List (List Int)}{v:Nat}:(kX s).getD v []=[]:=by
 by_cases h:v<s.length
 ·rw[yA _ (by rw[YR];exact h)];exact List.getElem_replicate ..
 ·exact sU (by rw[YR];omega)
theorem Vw{s t:List (List Int)}(h:s.length=t.length):fO (kX s) t:=⟨YR.trans h,λv=>by rw[Gb];exact List.nil_sublist _⟩
theorem kB{s:List (List Int)}(h:0<s.length):zT (kX s)=true:=Ga.2 ⟨0,by rw[YR];exact h,Gb⟩
theorem Gc{s t:List (List Int)}(h:s.length=t.length):kX s=kX t:=by rw[kX,kX,h]
theorem pick{s:List (List Int)}(hf:zT s=false){v:Nat}{n:Int}(hn:n∈s.getD v []):∃vs,XB vs s∧vs.getD v 0=n:=by
 refine⟨s.mapIdx λu l=>if u=v then n else l.headD 0,⟨List.length_mapIdx,λu hu=> ?_⟩,?_⟩
 ·rw[yA _ (show u<(s.mapIdx λu l=>if u=v then n else l.headD 0).length by rw[List.length_mapIdx];exact hu),List.getElem_mapIdx]
  by_cases e:u=v
  ·rw[if_pos e,e];exact hn
  ·rw[if_neg e,yA _ hu]
   have h1:=tG.1 hf u hu;rw[yA _ hu]at h1
   cases h:s[u]with
   |nil=>exact absurd h h1
   |cons a l=>exact List.mem_cons_self ..
 ·have hv:v<s.length:=by
   apply Classical.byContradiction;intro h;rw[sU (by omega)]at hn;cases hn
  rw[yA _ (show v<(s.mapIdx λu l=>if u=v then n else l.headD 0).length by rw[List.length_mapIdx];exact hv),List.getElem_mapIdx,if_pos rfl]
theorem S6{s:List (List Int)}(hf:zT s=false):∃vs,XB vs s:=by
 cases s with
 |nil=>exact⟨[],rfl,λv hv=>absurd hv (Nat.not_lt_zero _)⟩
 |cons a s=>
  have h1:=tG.1 hf 0 (Nat.zero_lt_succ _);cases a with
  |nil=>exact absurd rfl h1
  |cons x a=>
   obtain⟨vs,h,_⟩:=pick hf (v:=0) (n:=x) (List.mem_cons_self ..);exact⟨vs,h⟩
theorem sD{vs:List Int}{u v:Nat}{n:Int}(hv:v<vs.length):(vs.set v n).getD u 0=if u=v then n else vs.getD u 0:=by
 rw[List.getD_eq_getElem?_getD,List.getD_eq_getElem?_getD,List.getElem?_set]
 by_cases e:u=v
 ·rw[if_pos e.symm,if_pos e,if_pos (by omega)];rfl
 ·rw[if_neg (λx=>e x.symm),if_neg e]
theorem XB.set{vs:List Int}{s:List (List Int)}(h:XB vs s){v:Nat}{n:Int}(hn:n∈s.getD v [])(hv:v<s.length):XB (vs.set v n) s:=by
 refine⟨by rw[List.length_set];exact h.1,λu hu=> ?_⟩
 rw[sD (by rw[h.1];exact hv)]
 split
 ·rename_i e;rw[e];exact hn
 ·exact h.2 u hu
def May(Q:List Int→Bool)(s:List (List Int))(v:Nat)(n:Int):Prop:=∃vs,XB vs s∧vs.getD v 0=n∧Q vs=true
open Classical in
noncomputable def mayB (Q:List Int→Bool)(s:List (List Int))(v:Nat)(n:Int):Bool:=decide (May Q s v n)
open Classical in
theorem pU{Q:List Int→Bool}{s:List (List Int)}{v:Nat}{n:Int}:mayB Q s v n=true↔May Q s v n:=by rw[mayB];exact decide_eq_true_iff
open Classical in
theorem zbK{Q:List Int→Bool}{s:List (List Int)}{v:Nat}{n:Int}:mayB Q s v n=false↔¬May Q s v n:=by rw[mayB];exact decide_eq_false_iff_not
theorem May.mono{Q:List Int→Bool}{t s:List (List Int)}{v:Nat}{n:Int}(h:May Q t v n)(hl:fO t s):May Q s v n:=let⟨vs,a,b,c⟩:=h;⟨vs,a.mono hl,b,c⟩
abbrev Op:=List (List Int)→List (List Int)
structure Ya (nv:Nat)(op:Op)(Q:List Int→Bool):Prop where
 fail:∀s,s.length=nv→zT s=true→op s=s
 none:∀s,s.length=nv→zT s=false→(¬∃vs,XB vs s∧Q vs=true)→zT (op s)=true∧fO (op s) s
 some:∀s,s.length=nv→zT s=false→(∃vs,XB vs s∧Q vs=true)→op s=rX (mayB Q s) s
section
variable {nv:Nat}{op:Op}{Q:List Int→Bool}{s t:List (List Int)}
theorem Ya.le(h:Ya nv op Q)(hl:s.length=nv):fO (op s) s:=by
 cases hf:zT s
 ·by_cases he:∃vs,XB vs s∧Q vs=true
  ·rw[h.some s hl hf he];exact XC
  ·exact(h.none s hl hf he).2
 ·rw[h.fail s hl hf];exact fO.refl s
theorem Ya.len(h:Ya nv op Q)(hl:s.length=nv):(op s).length=nv:=(h.le hl).1.trans hl
theorem Ya.keeps(h:Ya nv op Q)(hl:s.length=nv){vs:List Int}(hv:XB vs s)(hq:Q vs=true):XB vs (op s):=by
 rw[h.some s hl hv.fail ⟨vs,hv,hq⟩];refine⟨hv.1.trans uE.symm,λv hv'=> ?_⟩
 rw[uD,List.mem_filter];rw[uE]at hv'
 exact⟨hv.2 v hv',pU.2 ⟨vs,hv,rfl,hq⟩⟩
theorem Ya.nofail(h:Ya nv op Q)(hl:s.length=nv):zT (op s)=false↔∃vs,XB vs s∧Q vs=true:=by
 constructor
 ·intro hf
  have hs:=(h.le hl).fail hf;apply Classical.byContradiction;intro he;rw[(h.none s hl hs he).1]at hf;cases hf
 ·rintro⟨vs,h1,h2⟩
  exact(h.keeps hl h1 h2).fail
theorem Ya.mono(h:Ya nv op Q)(hl:s.length=nv)(hts:fO t s)(hf:zT (op t)=false):fO (op t) (op s):=by
 have hlt:t.length=nv:=hts.1.trans hl;have he:=(h.nofail hlt).1 hf;obtain⟨vs,h1,h2⟩:=he;rw[h.some t hlt h1.fail ⟨vs,h1,h2⟩,h.some s hl (h1.mono hts).fail ⟨vs,h1.mono hts,h2⟩];exact XD hts λv n _ hm=>pU.2 ((pU.1 hm).mono hts)
theorem Ya.congr{Q':List Int→Bool}(h:Ya nv op Q)(hl:s.length=nv){vs:List Int}(hst:op s=s)(hf:zT s=false)(v:Nat)(n:Int)(hn:n∈s.getD v []):∃us,XB us s∧us.getD v 0=n∧Q us=true:=by
 have:=(h.nofail hl).1 (by rw[hst];exact hf)
 have e:=h.some s hl hf this;rw[hst]at e
 rw[e,uD,List.mem_filter]at hn
 exact pU.1 hn.2
end
def QM(ops:List Op)(s:List (List Int)):Prop:=∀op∈ops,op s=s
def Gd(nv:Nat)(ops:List Op):Prop:=∀op∈ops,∃Q,Ya nv op Q
structure sN (ops:List Op)(s r:List (List Int)):Prop where
 le:fO r s
 all:∀t,fO t s→zT t=false→QM ops t→fO t r
theorem sN.refl(ops:List Op)(s:List (List Int)):sN ops s s:=⟨fO.refl s,λt h _ _=>h⟩
theorem sN.step{nv:Nat}{ops:List Op}{s r:List (List Int)}(ho:Gd nv ops)(hl:s.length=nv)(h:sN ops s r){op:Op}(hm:op∈ops):sN ops s (op r):=by
 obtain⟨Q,hq⟩:=ho op hm;have hr:r.length=nv:=h.le.1.trans hl;refine⟨(hq.le hr).trans h.le,λt h1 h2 h3=> ?_⟩
 have e:=h3 op hm;have:=hq.mono hr (h.all t h1 h2 h3) (by rw[e];exact h2)
 rwa[e]at this
structure X3 (ops:List Op)(s r:List (List Int)):Prop where
 le:fO r s
 all:∀t,fO t s→zT t=false→QM ops t→fO t r
 out:(zT r=false∧QM ops r)∨r=kX s
theorem X3.unique{ops:List Op}{s r r':List (List Int)}(hs:0<s.length)(h:X3 ops s r)(h':X3 ops s r'):r=r':=by
 rcases h.out with⟨h1,h2⟩|h1<;>rcases h'.out with⟨k1,k2⟩|k1
 ·exact(h'.all r h.le h1 h2).antisymm (h.all r' h'.le k1 k2)
 ·have:=(h'.all r h.le h1 h2).fail h1
  rw[k1,kB hs]at this;cases this
 ·have:=(h.all r' h'.le k1 k2).fail k1
  rw[h1,kB hs]at this;cases this
 ·rw[h1,k1]
theorem sN.stop{ops:List Op}{s r:List (List Int)}(h:sN ops s r)(hf:zT r=false)(hst:QM ops r):X3 ops s r:=⟨h.le,h.all,.inl ⟨hf,hst⟩⟩
theorem sN.dead{ops:List Op}{s r:List (List Int)}(h:sN ops s r)(hf:zT r=true):X3 ops s (kX s):=
 ⟨Vw rfl,λt h1 h2 h3=>(by have:=(h.all t h1 h2 h3).fail h2;rw[hf]at this;cases this),.inr rfl⟩
theorem sN.trans{ops:List Op}{s r q:List (List Int)}(h:sN ops s r)(h':X3 ops r q):X3 ops s q:=
 ⟨h'.le.trans h.le,λt h1 h2 h3=>h'.all t (h.all t h1 h2 h3) h2 h3,h'.out.imp id λe=>e.trans (Gc h.le.1)⟩
def wJ(s:List (List Int)):Nat:=(s.map List.length).sum
theorem LL:∀ {a b:List (List Int)},a.length=b.length→(∀v:Nat,(a.getD v []).Sublist (b.getD v []))→wJ a≤wJ b∧(wJ a=wJ b→a=b)
 |[],[],_,_=>⟨Nat.le_refl _,λ_=>rfl⟩
 |x::a,y::b,hl,h=>by
  have h0:x.Sublist y:=h 0;obtain⟨i1,i2⟩:=LL (a:=a) (b:=b) (by simpa using hl) λv=>h (v+1)
  have e1:wJ (x::a)=x.length+wJ a:=rfl;have e2:wJ (y::b)=y.length+wJ b:=rfl;have:=h0.length_le;refine⟨by omega,λe=> ?_⟩
  rw[h0.eq_of_length (by omega),i2 (by omega)]
 |[],_::_,hl,_=>by simp at hl
 |_::_,[],hl,_=>by simp at hl
theorem fO.size{t s:List (List Int)}(h:fO t s):wJ t≤wJ s:=(LL h.1 h.2).1
theorem fO.size_lt{t s:List (List Int)}(h:fO t s)(hn:t≠s):wJ t<wJ s:=Nat.lt_of_le_of_ne h.size λe=>hn ((LL h.1 h.2).2 e)
theorem zbL{nv:Nat}{ops:List Op}(ho:Gd nv ops):∀(k:Nat) (s:List (List Int)),s.length=nv→wJ s≤k→∃r,X3 ops s r:=by
 intro k
 induction k with
 |zero=>
  intro s hl hk;cases hf:zT s
  ·by_cases hst:QM ops s
   ·exact⟨s,(sN.refl ops s).stop hf hst⟩
   ·refine absurd (λop hm=> ?_) hst
    obtain⟨Q,hq⟩:=ho op hm;apply Classical.byContradiction;intro hn;have:=(hq.le hl).size_lt hn;omega
  ·exact⟨_,(sN.refl ops s).dead hf⟩
 |succ k ih=>
  intro s hl hk;cases hf:zT s
  ·by_cases hst:QM ops s
   ·exact⟨s,(sN.refl ops s).stop hf hst⟩
   ·obtain⟨op,hm,hn⟩:∃op,op∈ops∧op s≠s:=by
     apply Classical.byContradiction;intro h;exact hst λop hm=>Classical.byContradiction λhn=>h ⟨op,hm,hn⟩
    obtain⟨Q,hq⟩:=ho op hm;have:=(hq.le hl).size_lt hn;obtain⟨r,hr⟩:=ih (op s) (hq.len hl) (by omega)
    exact⟨r,((sN.refl ops s).step ho hl hm).trans hr⟩
  ·exact⟨_,(sN.refl ops s).dead hf⟩
open Classical in
noncomputable def zgx (ops:List Op)(s:List (List Int)):List (List Int):=if h:∃r,X3 ops s r then Classical.choose h else s
theorem zd9{nv:Nat}{ops:List Op}{s:List (List Int)}(ho:Gd nv ops)(hl:s.length=nv):X3 ops s (zgx ops s):=by
 have h:=zbL ho _ s hl (Nat.le_refl _);rw[zgx,dif_pos h];exact Classical.choose_spec h
theorem zii{ops:List Op}{s r:List (List Int)}(hs:0<s.length)(h:X3 ops s r):zgx ops s=r:=by
 have h':∃r,X3 ops s r:=⟨r,h⟩;rw[zgx,dif_pos h'];exact(Classical.choose_spec h').unique hs h
section
variable {nv:Nat}{ops:List Op}{s t r:List (List Int)}
theorem zea{vs:List Int}(h:XB vs s):fO (vs.map λn=>[n]) s:=by
 refine⟨by rw[List.length_map];exact h.1,λv=> ?_⟩
 by_cases hv:v<s.length
 ·rw[yA _ (show v<(vs.map λn=>[n]).length by rw[List.length_map,h.1];exact hv),List.getElem_map,List.singleton_sublist]
  have:=h.2 v hv
  rwa[yA _ (show v<vs.length by rw[h.1];exact hv)]at this
 ·rw[sU (by rw[List.length_map,h.1];omega)];exact List.nil_sublist _
theorem Vx(vs:List Int):XB vs (vs.map λn=>[n]):=⟨by rw[List.length_map],λv hv=>by
 rw[yA _ hv,List.getElem_map,List.mem_singleton,yA]⟩
theorem Ya.single{op:Op}{Q:List Int→Bool}(h:Ya nv op Q){vs:List Int}(hl:vs.length=nv)(hq:Q vs=true):op (vs.map λn=>[n])=vs.map λn=>[n]:=by
 have hs:(vs.map λn=>[n]).length=nv:=by rw[List.length_map];exact hl
 rw[h.some _ hs (Vx vs).fail ⟨vs,Vx vs,hq⟩];refine cL λv n hn=>pU.2 ⟨vs,Vx vs,?_,hq⟩
 by_cases hv:v<vs.length
 ·rw[yA _ (show v<(vs.map λn=>[n]).length by rw[List.length_map];exact hv),List.getElem_map,List.mem_singleton]at hn
  rw[yA _ hv,hn]
 ·rw[sU (by rw[List.length_map];omega)]at hn;cases hn
theorem X3.keeps(h:X3 ops s r)(hl:s.length=nv){vs:List Int}(hv:XB vs s)(hq:∀op∈ops,∃Q,Ya nv op Q∧Q vs=true):XB vs r:=by
 have h1:=h.all (vs.map λn=>[n]) (zea hv) (Vx vs).fail λop hm=>by
  obtain⟨Q,h1,h2⟩:=hq op hm;exact h1.single (hv.1.trans hl) h2
 exact(Vx vs).mono h1
theorem X3.mono{ops':List Op}{s' r':List (List Int)}(hs:0<s.length)(h:X3 ops s r)(h':X3 ops' s' r')(hle:fO s s')(hsub:∀op∈ops',op∈ops):fO r r':=by
 rcases h.out with⟨h1,h2⟩|h1
 ·exact h'.all r (h.le.trans hle) h1 λop hm=>h2 op (hsub op hm)
 ·rw[h1];exact Vw (hle.1.trans h'.le.1.symm)
theorem X3.failed(h:X3 ops s r)(hf:zT s=true):r=kX s:=by
 rcases h.out with⟨h1,_⟩|h1
 ·have:=h.le.fail h1;rw[hf]at this;cases this
 ·exact h1
end
theorem LM{α:Type}{p q:α→Bool}:∀ {l:List α},(∀x∈l,p x=q x)→l.any p=l.any q
 |[],_=>rfl
 |x::l,h=>by rw[List.any_cons,List.any_cons,h x (List.mem_cons_self ..),LM λy hy=>h y (List.mem_cons_of_mem _ hy)]
theorem zdb{c:zF}{v:Int}(h:v∈c.vars):FE c v=true:=by
 rw[FE,Bool.or_eq_true];exact .inl (List.any_eq_true.2 ⟨v,h,decide_eq_true rfl⟩)
theorem zdc{c:zF}{l:zC}(h:l∈c.lits):FE c l.var=true:=by
 rw[FE,Bool.or_eq_true];exact .inr (List.any_eq_true.2 ⟨l,h,decide_eq_true rfl⟩)
theorem zgy{c:zF}{v:Int}(h:FE c v=true):v∈c.vars∨∃l∈c.lits,l.var=v:=by
 rw[FE,Bool.or_eq_true,List.any_eq_true,List.any_eq_true]at h
 rcases h with⟨x,hx,e⟩|⟨l,hl,e⟩
 ·rw[←of_decide_eq_true e];exact .inl hx
 ·exact .inr ⟨l,hl,of_decide_eq_true e⟩
theorem AR{c:zF}{nv:Nat}(hc:vB c nv){vs us:List Int}(h:∀v:Nat,v<nv→FE c v=true→vs.getD v 0=us.getD v 0):uW c vs=uW c us:=by
 unfold uW;refine List.map_congr_left λv hv=> ?_
 have h1:=hc.vars v hv;refine h v.toNat (by omega) ?_
 rw[Int.toNat_of_nonneg h1.1];exact zdb hv
theorem mX{c:zF}{nv:Nat}(hc:vB c nv){vs us:List Int}(h:∀v:Nat,v<nv→FE c v=true→vs.getD v 0=us.getD v 0):wH c vs=wH c us:=by
 have h1:=AR hc h
 have h2:∀l∈c.lits,holdsL l (vs.getD l.var.toNat 0)=holdsL l (us.getD l.var.toNat 0):=λl hl=>by
  have h1:=(oz.1 (hc.lits l hl)).1;rw[h l.var.toNat (by omega) (by rw[Int.toNat_of_nonneg h1.1];exact zdc hl)]
 have h3:(c.lits.any λl=>holdsL l (vs.getD l.var.toNat 0))=c.lits.any λl=>holdsL l (us.getD l.var.toNat 0):=LM h2
 have h4:((c.lits.take 1).any λl=>holdsL l (vs.getD l.var.toNat 0))=(c.lits.take 1).any λl=>holdsL l (us.getD l.var.toNat 0):=LM λl hl=>h2 l (List.mem_of_mem_take hl)
 unfold wH;rw[h1,h3,h4]
theorem Yb{f g:Nat→Int→Bool}{s:List (List Int)}(h:∀(v:Nat) (n:Int),n∈s.getD v []→f v n=g v n):rX f s=rX g s:=
 S5 (d:=[]) (by rw[uE,uE]) λv=>by rw[uD,uD];exact List.filter_congr λn hn=>h v n hn
theorem Ds{c:zF}{nv:Nat}(h:yE c nv=[]){v:Nat}(hv:v<nv):FE c v=false:=by
 cases e:FE c v
 ·rfl
 ·have:(v:Int)∈yE c nv:=List.mem_filter.2 ⟨Uu.2 (by omega),e⟩
  rw[h]at this;cases this
theorem oA{c:zF}{nv:Nat}{v:Int}:v∈yE c nv↔(0≤v∧v<nv)∧FE c v=true:=by
 rw[yE,List.mem_filter,Uu];constructor
 ·rintro⟨h1,h2⟩;exact⟨by omega,h2⟩
 ·rintro⟨h1,h2⟩;exact⟨by omega,h2⟩
noncomputable def yM (c:zF)(s:List (List Int)):List (List Int):=
 if zT s=true then s else if yE c s.length=[]then(if wH c []=true then s else kX s)else rX (λv n=> !FE c v||mayB (wH c) s v n) s
theorem Y7{c:zF}{nv:Nat}(hc:vB c nv)(h0:0<nv):Ya nv (yM c) (wH c):=by
 refine⟨λs hl hf=>if_pos hf,λs hl hf he=> ?_,λs hl hf he=> ?_⟩
 ·rw[yM,if_neg (by rw[hf];decide)]
  by_cases hs:yE c s.length=[]
  ·rw[if_pos hs,if_neg]
   ·exact⟨kB (by omega),Vw rfl⟩
   ·intro ht
    obtain⟨vs,hv⟩:=S6 hf;refine he ⟨vs,hv,?_⟩;rw[←ht];exact mX hc λv h1 h2=>by rw[hl]at hs;rw[Ds hs h1]at h2;cases h2
  ·rw[if_neg hs]
   refine⟨?_,XC⟩;obtain⟨v,hv⟩:=List.exists_mem_of_ne_nil _ hs;obtain⟨h1,h2⟩:=oA.1 hv;refine Ga.2 ⟨v.toNat,by rw[uE];omega,?_⟩
   rw[uD,List.filter_eq_nil_iff];intro n hn hx;rw[Int.toNat_of_nonneg h1.1,h2,Bool.not_true,Bool.false_or]at hx
   obtain⟨vs,a,_,b⟩:=pU.1 hx;exact he ⟨vs,a,b⟩
 ·obtain⟨vs,hv,ht⟩:=he
  rw[yM,if_neg (by rw[hf];decide)]
  by_cases hs:yE c s.length=[]
  ·have hn:∀us,wH c us=true:=λus=>by
    rw[←ht];exact mX hc λv h1 h2=>by rw[hl]at hs;rw[Ds hs h1]at h2;cases h2
   rw[if_pos hs,if_pos (hn []),cL λv n hm=>pU.2 ?_]
   obtain⟨us,h1,h2⟩:=pick hf hm;exact⟨us,h1,h2,hn us⟩
  ·rw[if_neg hs]
   refine Yb λv n hn=> ?_
   cases hi:FE c v
   ·rw[Bool.not_false,Bool.true_or]
    have hvl:v<s.length:=by
     apply Classical.byContradiction;intro h;rw[sU (by omega)]at hn;cases hn
    refine(pU.2 ⟨vs.set v n,hv.set hn hvl,?_,?_⟩).symm
    ·rw[sD (by rw[hv.1];exact hvl),if_pos rfl]
    ·rw[←ht]
     refine mX hc λu h1 h2=> ?_
     rw[sD (by rw[hv.1];exact hvl),if_neg]
     intro e;rw[e,hi]at h2;cases h2
   ·rw[Bool.not_true,Bool.false_or]
theorem Oo{s:List (List Int)}{l:zC}:0≤Wr s l↔∃n∈s.getD l.var.toNat [],holdsL l n=true:=by
 rw[Wr,Da];split
 ·rename_i h
  rw[List.any_eq_false]at h
  exact⟨λe=>absurd e (by decide),λ⟨n,h1,h2⟩=>absurd h2 (h n h1)⟩
 ·rename_i h
  rw[Bool.not_eq_false,List.any_eq_true]at h
  refine⟨λ_=>h,λ_=> ?_⟩
  split<;>decide
theorem Ge{s:List (List Int)}{c:List zC}{v:Int}:v∈aF s c↔∃l∈c,l.var=v∧∃n∈s.getD v.toNat [],holdsL l n=true:=by
 rw[aF,List.mem_map];constructor
 ·rintro⟨l,hl,rfl⟩
  obtain⟨h1,h2⟩:=List.mem_filter.1 hl;exact⟨l,h1,rfl,Oo.1 (of_decide_eq_true h2)⟩
 ·rintro⟨l,h1,rfl,h2⟩
  exact⟨l,List.mem_filter.2 ⟨h1,decide_eq_true (Oo.2 h2)⟩,rfl⟩
theorem nQ{c:List zC}{vs:List Int}:sY c vs=true↔∃l∈c,holdsL l (vs.getD l.var.toNat 0)=true:=List.any_eq_true
theorem Vy{c:List zC}{v n:Int}:atC c v n=true↔∃l∈c,l.var=v∧holdsL l n=true:=by
 rw[atC,List.any_eq_true];constructor
 ·rintro⟨l,hl,h⟩
  split at h
  ·rename_i e;exact⟨l,hl,e,h⟩
  ·cases h
 ·rintro⟨l,hl,h1,h2⟩
  exact⟨l,hl,by rw[if_pos h1];exact h2⟩
theorem zdd{c:List zC}{nv:Nat}(hc:∀l∈c,0≤l.var∧l.var<nv)(h0:0<nv):Ya nv (λs=>Zd s c) (sY c):=by
 have lives:∀ {s:List (List Int)} {vs:List Int} {l:zC},s.length=nv→XB vs s→l∈c→holdsL l (vs.getD l.var.toNat 0)=true→l.var∈aF s c:=fun {s vs l} hl hv hm hh=>by
  have:=hc l hm;exact Ge.2 ⟨l,hm,rfl,_,hv.2 _ (by omega),hh⟩
 have holds:∀ {s:List (List Int)},s.length=nv→zT s=false→∀ {v:Int},v∈aF s c→∀(w:Nat) (n:Int),n∈s.getD w []→(w:Int)≠v→∃vs,XB vs s∧vs.getD w 0=n∧sY c vs=true:=fun {s} hl hf {v} hm w n hn hw=>by
  obtain⟨l,h1,h2,k,h3,h4⟩:=Ge.1 hm;have hr:=hc l h1;obtain⟨vs,hv,e⟩:=pick hf h3
  have hwl:w<s.length:=by
   apply Classical.byContradiction;intro h;rw[sU (by omega)]at hn;cases hn
  refine⟨vs.set w n,hv.set hn hwl,by rw[sD (by rw[hv.1];exact hwl),if_pos rfl],nQ.2 ⟨l,h1,?_⟩⟩
  rw[sD (by rw[hv.1];exact hwl),if_neg (by omega),h2,e];exact h4
 refine⟨λs hl hf=>if_pos hf,λs hl hf he=> ?_,λs hl hf he=> ?_⟩
 ·have hL:aF s c=[]:=by
   cases h:aF s c with
   |nil=>rfl
   |cons v vs=>
    obtain⟨l,h1,h2,n,h3,h4⟩:=Ge.1 (show v∈aF s c by rw[h];exact List.mem_cons_self ..)
    obtain⟨us,hu,e⟩:=pick hf h3;exact absurd ⟨us,hu,nQ.2 ⟨l,h1,by rw[h2,e];exact h4⟩⟩ he
  show zT (Zd s c)=true∧fO (Zd s c) s
  rw[Zd,if_neg (by rw[hf];decide),LK c λl hl=>(hc l hl).1,hL]
  exact⟨kB (by omega),Vw rfl⟩
 ·obtain⟨vs,hv,ht⟩:=he
  obtain⟨l,hlm,hlh⟩:=nQ.1 ht;have hlv:=lives hl hv hlm hlh;show Zd s c=_
  rw[Zd,if_neg (by rw[hf];decide),LK c λl hl=>(hc l hl).1]
  cases hL:aF s c with
  |nil=>rw[hL]at hlv;cases hlv
  |cons u us=>
   have hum:u∈aF s c:=by rw[hL];exact List.mem_cons_self ..
   by_cases ha:us.all (λx=>decide (x=u))=true
   ·simp only[ha,if_true]
    have hall:∀x∈aF s c,x=u:=λx hx=>by
     rw[hL]at hx
     rcases List.mem_cons.1 hx with h|h
     ·exact h
     ·exact of_decide_eq_true (List.all_eq_true.1 ha x h)
    refine Yb λw n hn=> ?_
    by_cases hw:(w:Int)=u
    ·rw[decide_eq_true hw,Bool.not_true,Bool.false_or]
     apply Bool.eq_iff_iff.2;rw[Vy,pU];constructor
     ·rintro⟨l,h1,h2,h3⟩
      obtain⟨x,hx,e⟩:=pick hf hn;refine⟨x,hx,e,nQ.2 ⟨l,h1,?_⟩⟩;rw[show l.var.toNat=w by omega,e];exact h3
     ·rintro⟨x,hx,e,hh⟩
      obtain⟨l,h1,h2⟩:=nQ.1 hh;have h3:=hall _ (lives hl hx h1 h2);refine⟨l,h1,h3,?_⟩
      rwa[show l.var.toNat=w by omega,e]at h2
    ·rw[decide_eq_false hw,Bool.not_false,Bool.true_or]
     exact(pU.2 (holds hl hf hum w n hn hw)).symm
   ·simp only[ha]
    have hx:∃x∈us,x≠u:=by
     apply Classical.byContradiction;intro hn;exact ha (List.all_eq_true.2 λx hx=>decide_eq_true (Classical.byContradiction λe=>hn ⟨x,hx,e⟩))
    obtain⟨x,hx,hxu⟩:=hx;have hxm:x∈aF s c:=by rw[hL];exact List.mem_cons_of_mem _ hx
    refine(cL λw n hn=>pU.2 ?_).symm
    by_cases hw:(w:Int)=u
    ·exact holds hl hf hxm w n hn (by omega)
    ·exact holds hl hf hum w n hn hw
def NZ(kt:Ty):Prop:=∀a b:kt.den,Py kt a b=true↔a=b
theorem kY:NZ .int:=λa b=>decide_eq_true_iff
theorem RT:NZ (.pr .int .int):=λa b=>by
 show(decide (a.1=b.1)&&decide (a.2=b.2))=true↔a=b
 rw[Bool.and_eq_true,decide_eq_true_iff,decide_eq_true_iff];exact⟨λh=>Prod.ext h.1 h.2,λh=>by rw[h];exact⟨rfl,rfl⟩⟩
section
variable {kt vt:Ty}
theorem Gf(hk:NZ kt)(x:kt.den):Py kt x x=true:=(hk x x).2 rfl
theorem zbM(hk:NZ kt){x y:kt.den}(h:x≠y):Py kt x y=false:=by
 cases e:Py kt x y
 ·rfl
 ·exact absurd ((hk x y).1 e) h
theorem Vz(hk:NZ kt){x:kt.den}{y:vt.den}:∀es:List (kt.den×vt.den),tD kt vt x (tQ kt vt x y es)=some y
 |[]=>by rw[tQ,tD,Gf hk];rfl
 |(a,b)::es=>by
  rw[tQ];cases e:Py kt x a
  ·rw[cond_false,tD,e,cond_false];exact Vz hk es
  ·rw[cond_true,tD,e];rfl
theorem XE(hk:NZ kt){x z:kt.den}{y:vt.den}(h:z≠x):∀es:List (kt.den×vt.den),tD kt vt z (tQ kt vt x y es)=tD kt vt z es
 |[]=>by rw[tQ,tD,tD,zbM hk h];rfl
 |(a,b)::es=>by
  rw[tQ];cases e:Py kt x a
  ·rw[cond_false,tD,tD]
   cases Py kt z a
   ·rw[cond_false,cond_false];exact XE hk h es
   ·rfl
  ·have:=(hk x a).1 e
   subst this;rw[cond_true,tD,tD,zbM hk h,cond_false,cond_false]
theorem N0(hk:NZ kt){x:kt.den}{y:vt.den}:∀es:List (kt.den×vt.den),tD kt vt x es=none→tQ kt vt x y es=es++[(x,y)]
 |[],_=>rfl
 |(a,b)::es,h=>by
  rw[tD]at h
  cases e:Py kt x a
  ·rw[e,cond_false]at h
   rw[tQ,e,cond_false,N0 hk es h];rfl
  ·rw[e]at h;cases h
theorem Dt(hk:NZ kt){x:kt.den}{y k:vt.den}:∀es:List (kt.den×vt.den),tD kt vt x es=some k→(k::(tQ kt vt x y es).map Prod.snd).Perm (y::es.map Prod.snd)
 |[],h=>by cases h
 |(a,b)::es,h=>by
  rw[tD]at h
  cases e:Py kt x a
  ·rw[e,cond_false]at h
   rw[tQ,e,cond_false,List.map_cons,List.map_cons];exact(List.Perm.swap _ _ _).trans (((Dt hk es h).cons b).trans (List.Perm.swap _ _ _))
  ·rw[e,cond_true]at h
   obtain rfl:b=k:=by cases h;rfl
   rw[tQ,e,cond_true,List.map_cons,List.map_cons];exact List.Perm.swap _ _ _
theorem N1(hk:NZ kt){x:kt.den}{y k:vt.den}:∀es:List (kt.den×vt.den),tD kt vt x es=some k→(tQ kt vt x y es).map Prod.fst=es.map Prod.fst
 |[],h=>by cases h
 |(a,b)::es,h=>by
  rw[tD]at h
  cases e:Py kt x a
  ·rw[e,cond_false]at h
   rw[tQ,e,cond_false,List.map_cons,List.map_cons,N1 hk es h]
  ·rw[tQ,e,cond_true];rfl
theorem Yc(hk:NZ kt){x:kt.den}:∀es:List (kt.den×vt.den),x∈es.map Prod.fst↔∃k,tD kt vt x es=some k
 |[]=>⟨λh=>(by cases h),λ⟨k,h⟩=>(by cases h)⟩
 |(a,b)::es=>by
  rw[List.map_cons,List.mem_cons,tD];cases e:Py kt x a
  ·rw[cond_false]
   have hn:x≠a:=λh=>by subst h;rw[Gf hk]at e;cases e
   exact⟨λh=>(Yc hk es).1 (h.resolve_left hn),λh=> .inr ((Yc hk es).2 h)⟩
  ·exact⟨λ_=>⟨b,rfl⟩,λ_=> .inl ((hk x a).1 e)⟩
theorem AU(hk:NZ kt){x:kt.den}{k:vt.den}:∀es:List (kt.den×vt.den),tD kt vt x es=some k→(x,k)∈es
 |[],h=>by cases h
 |(a,b)::es,h=>by
  rw[tD]at h
  cases e:Py kt x a
  ·rw[e,cond_false]at h;exact List.mem_cons_of_mem _ (AU hk es h)
  ·rw[e,cond_true]at h
   obtain rfl:b=k:=by cases h;rfl
   rw[(hk x a).1 e];exact List.mem_cons_self ..
theorem Bb(hk:NZ kt){x:kt.den}{k:vt.den}:∀es:List (kt.den×vt.den),(es.map Prod.fst).Nodup→(x,k)∈es→tD kt vt x es=some k
 |[],_,h=>by cases h
 |(a,b)::es,hn,h=>by
  rw[List.map_cons,List.nodup_cons]at hn
  rw[tD];rcases List.mem_cons.1 h with h|h
  ·obtain⟨rfl,rfl⟩:x=a∧k=b:=by cases h;exact⟨rfl,rfl⟩
   rw[Gf hk];rfl
  ·rw[zbM hk λe=>hn.1 (by rw[←e];exact List.mem_map.2 ⟨_,h,rfl⟩),cond_false]
   exact Bb hk es hn.2 h
theorem Gg(hk:NZ kt){x:kt.den}{y:vt.den}{es:List (kt.den×vt.den)}(h:(es.map Prod.fst).Nodup):((tQ kt vt x y es).map Prod.fst).Nodup:=by
 cases e:tD kt vt x es with
 |none=>
  rw[N0 hk es e,List.map_append,List.nodup_append];refine⟨h,by simp,λa ha b hb=> ?_⟩
  rintro rfl;obtain rfl:a=x:=by simpa using hb
  obtain⟨k,h2⟩:=(Yc hk es).1 ha;rw[e]at h2;cases h2
 |some k=>rw[N1 hk es e];exact h
theorem Gh(hk:NZ kt){x z:kt.den}{y:vt.den}(es:List (kt.den×vt.den)):z∈(tQ kt vt x y es).map Prod.fst↔z=x∨z∈es.map Prod.fst:=by
 rw[Yc hk,Yc hk];constructor
 ·rintro⟨k,h⟩
  apply Classical.byContradiction;intro hn;rw[XE hk (λe=>hn (.inl e))]at h
  exact hn (.inr ⟨k,h⟩)
 ·rintro(rfl|⟨k,h⟩)
  ·exact⟨y,Vz hk es⟩
  ·apply Classical.byContradiction
   intro hn
   by_cases e:z=x
   ·subst e;exact hn ⟨y,Vz hk es⟩
   ·exact hn ⟨k,by rw[XE hk e];exact h⟩
end
theorem zgz{α:Type}{t:List α}{k:Nat}(d:α)(h:k<t.length):t.getD k d=t[k]:=by rw[List.getD_eq_getElem?_getD,List.getElem?_eq_getElem h];rfl
theorem zde{lo:Int}:∀ {n:Nat} {k:Int},k∈(List.range n).map (λi:Nat=>lo+i)↔lo≤k∧k<lo+n:=fun {n k}=>by
 rw[List.mem_map];constructor
 ·rintro⟨i,hi,rfl⟩;have:=List.mem_range.1 hi;omega
 ·rintro⟨h1,h2⟩;exact⟨(k-lo).toNat,List.mem_range.2 (by omega),by omega⟩
theorem Zr{l:List Int}(h:l.Nodup){lo:Int}{n:Nat}(hl:∀x∈l,lo≤x∧x<lo+n):l.length≤n:=by
 have:=h.length_le_of_subset (l₂:=(List.range n).map λi:Nat=>lo+i) λx hx=>zde.2 (hl x hx)
 rwa[List.length_map,List.length_range]at this
theorem RU{α β:Type}{f:α→β}:∀ {l:List α},l.Nodup→(∀a∈l,∀b∈l,f a=f b→a=b)→(l.map f).Nodup
 |[],_,_=>List.nodup_nil
 |a::l,h,hi=>by
  rw[List.nodup_cons]at h
  rw[List.map_cons,List.nodup_cons];refine⟨λhm=> ?_,RU h.2 λx hx y hy=>hi x (List.mem_cons_of_mem _ hx) y (List.mem_cons_of_mem _ hy)⟩
  obtain⟨b,hb,e⟩:=List.mem_map.1 hm;exact h.1 (by rw[←hi b (List.mem_cons_of_mem _ hb) a (List.mem_cons_self ..) e];exact hb)
theorem Du{α:Type}{p q:α→Bool}:∀ {l:List α},(∀x∈l,p x=true→q x=true)→(∃x∈l,q x=true∧p x=false)→l.countP p<l.countP q
 |[],_,⟨x,h,_⟩=>by cases h
 |a::l,h1,⟨x,hx,h2,h3⟩=>by
  have hle:l.countP p≤l.countP q:=List.countP_mono_left λx hx=>h1 x (List.mem_cons_of_mem _ hx)
  rw[List.countP_cons,List.countP_cons];rcases List.mem_cons.1 hx with rfl|hx
  ·rw[if_pos h2,if_neg (by rw[h3];decide)];omega
  ·have:=Du (λx hx=>h1 x (List.mem_cons_of_mem _ hx)) ⟨x,hx,h2,h3⟩
   by_cases hp:p a=true
   ·rw[if_pos hp,if_pos (h1 a (List.mem_cons_self ..) hp)];omega
   ·rw[if_neg hp];split<;>omega
abbrev KV:=List (Int×Int)
section
variable {x y z k:Int}{m:KV}
theorem Bc:tD .int .int x (tQ .int .int x y m)=some y:=Vz (kt:=.int) (vt:=.int) kY m
theorem S7(h:z≠x):tD .int .int z (tQ .int .int x y m)=tD .int .int z m:=XE (kt:=.int) (vt:=.int) kY h m
theorem zjC(h:tD .int .int x m=none):tQ .int .int x y m=m++[(x,y)]:=N0 (kt:=.int) (vt:=.int) kY m h
theorem zij(h:tD .int .int x m=some k):(k::(tQ .int .int x y m).map Prod.snd).Perm (y::m.map Prod.snd):=Dt (kt:=.int) (vt:=.int) kY m h
theorem zjD:x∈m.map Prod.fst↔∃k,tD .int .int x m=some k:=Yc (kt:=.int) (vt:=.int) kY m
theorem zjE(h:tD .int .int x m=some k):(x,k)∈m:=AU (kt:=.int) (vt:=.int) kY m h
theorem ziY(h:(m.map Prod.fst).Nodup)(h2:(x,k)∈m):tD .int .int x m=some k:=Bb (kt:=.int) (vt:=.int) kY m h h2
theorem AV(h:(m.map Prod.fst).Nodup):((tQ .int .int x y m).map Prod.fst).Nodup:=Gg (kt:=.int) (vt:=.int) kY h
theorem zjF:z∈(tQ .int .int x y m).map Prod.fst↔z=x∨z∈m.map Prod.fst:=Gh (kt:=.int) (vt:=.int) kY m
end
def Pi(turn:Int)(a:KV)(n:Int):Prop:=nU .int .int n a=turn
structure aG (turn:Int)(a:KV):Prop where
 nodup:(a.map Prod.fst).Nodup
 near:∀n∈a.map Prod.fst,-50≤n∧n≤50
 turns:∀n t:Int,tD .int .int n a=some t→1≤t∧t≤turn
structure LN (rows:List (List Int))(m:KV):Prop where
 nodup:(m.map Prod.fst).Nodup
 ok:∀n k:Int,tD .int .int n m=some k→0≤k∧k<rows.length∧n∈rows.getD k.toNat []
def left(turn:Int)(a:KV):Nat:=((List.range 101).map λi:Nat=>(-50:Int)+i).countP λn=> !decide (nU .int .int n a=turn)
instance {turn n:Int}{a:KV}:Decidable (Pi turn a n):=inferInstanceAs (Decidable (_=_))
theorem YS{turn n:Int}(a:KV):Pi turn (tQ .int .int n turn a) n:=by rw[Pi,nU,Bc];rfl
theorem Ej{turn n x:Int}{a:KV}(h:x≠n):Pi turn (tQ .int .int n turn a) x↔Pi turn a x:=by rw[Pi,Pi,nU,nU,S7 h]
theorem Ii{turn n x:Int}{a:KV}:Pi turn (tQ .int .int n turn a) x↔x=n∨Pi turn a x:=by
 by_cases h:x=n
 ·subst h;exact⟨λ_=> .inl rfl,λ_=>YS a⟩
 ·rw[Ej h];exact⟨.inr,λh'=>h'.resolve_left h⟩
theorem zeb{turn:Int}{a b:KV}(h:∀n,Pi turn a n→Pi turn b n):left turn b≤left turn a:=
 List.countP_mono_left λn _ hn=>by
  simp only[Bool.not_eq_true',decide_eq_false_iff_not]at hn⊢
  exact λe=>hn (h n e)
theorem zik{turn n:Int}{a:KV}(hn: -50≤n∧n≤50)(h:¬Pi turn a n):left turn (tQ .int .int n turn a)<left turn a:=
 Du (λx _ hx=>by
  simp only[Bool.not_eq_true',decide_eq_false_iff_not]at hx⊢
  exact λe=>hx (Ii.2 (.inr e))) ⟨n,zde.2 (by omega),by simp only[Bool.not_eq_true',decide_eq_false_iff_not];exact h,by simp only[Bool.not_eq_false',decide_eq_true_iff];exact YS a⟩
theorem aG.put{turn n:Int}{a:KV}(h:aG turn a)(hn: -50≤n∧n≤50)(ht:1≤turn):aG turn (tQ .int .int n turn a):=by
 refine⟨AV h.nodup,λx hx=> ?_,λx t hx=> ?_⟩
 ·rcases zjF.1 hx with rfl|hx
  ·exact hn
  ·exact h.near x hx
 ·by_cases e:x=n
  ·subst e;rw[Bc]at hx;cases hx;omega
  ·rw[S7 e]at hx;exact h.turns x t hx
theorem aG.length{turn:Int}{a:KV}(h:aG turn a):a.length≤101:=by
 have:=Zr h.nodup (lo:= -50) (n:=101) λx hx=>by have:=h.near x hx;omega
 rwa[List.length_map]at this
theorem aG.none{turn:Int}{a:KV}(h:aG turn a)(h0:0≤turn){t:Int}(ht:turn<t)(n:Int):¬Pi t a n:=by
 rw[Pi,nU];cases e:tD .int .int n a with
 |none=>show¬(0:Int)=t;omega
 |some k=>
  intro(hh:(k:Int)=t);have h2:=h.turns n k e;rw[hh]at h2;omega
theorem aG.later{turn:Int}{a:KV}(h:aG turn a){t:Int}(ht:turn≤t):aG t a:=⟨h.nodup,h.near,λn k e=>by have:=h.turns n k e;omega⟩
theorem zec:aG 0 []:=⟨List.nodup_nil,λn hn=>(by cases hn),λn t h=>(by cases h)⟩
theorem zgA{rows:List (List Int)}:LN rows []:=⟨List.nodup_nil,λn t h=>(by cases h)⟩
theorem LN.length{rows:List (List Int)}{m:KV}(h:LN rows m)(hr:∀r∈rows,∀n∈r,-50≤n∧n≤50):m.length≤101:=by
 have:=Zr h.nodup (lo:= -50) (n:=101) λx hx=>by
  obtain⟨k,hk⟩:=zjD.1 hx;obtain⟨h1,h2,h3⟩:=h.ok x k hk;have hl:k.toNat<rows.length:=by omega
  rw[zgz _ hl]at h3
  have:=hr _ (List.getElem_mem hl) x h3;omega
 rwa[List.length_map]at this
structure Gi (rows:List (List Int))(turn i:Int)(m a m' a':KV):Prop where
 ok:LN rows m'
 ask:aG turn a'
 vals:(m'.map Prod.snd).Perm (i::m.map Prod.snd)
 same:∀n:Int,Pi turn a n→tD .int .int n m'=tD .int .int n m
structure N2 (rows:List (List Int))(turn:Int)(m a:KV)(pre:List Int)(a':KV):Prop where
 ask:aG turn a'
 more:∀n,Pi turn a n→Pi turn a' n
 row:∀n∈pre,Pi turn a' n
 closed:∀n,Pi turn a' n→Pi turn a n∨∃k:Int,tD .int .int n m=some k∧∀x∈rows.getD k.toNat [],Pi turn a' x
section
variable {rows:List (List Int)}{turn i k n:Int}{m a a1 a2 m2:KV}{pre:List Int}
theorem LN.put(h:LN rows m)(hi:0≤i∧i<rows.length∧n∈rows.getD i.toNat []):LN rows (tQ .int .int n i m):=by
 refine⟨AV h.nodup,λx k hx=> ?_⟩
 by_cases e:x=n
 ·subst e;rw[Bc]at hx;cases hx;exact hi
 ·rw[S7 e]at hx;exact h.ok x k hx
theorem zbN(h:LN rows m)(ha:aG turn a)(ht:1≤turn)(hn: -50≤n∧n≤50)(hi:0≤i∧i<rows.length∧n∈rows.getD i.toNat [])(hna:¬Pi turn a n)(hm:tD .int .int n m=none):Gi rows turn i m a (tQ .int .int n i m) (tQ .int .int n turn a):=by
 refine⟨h.put hi,ha.put hn ht,?_,λx hx=>S7 (λe=>hna (by rw[←e];exact hx))⟩
 rw[zjC hm,List.map_append];exact List.perm_append_comm
theorem zbO(hi:0≤i∧i<rows.length∧n∈rows.getD i.toNat [])(hna:¬Pi turn a n)(hm:tD .int .int n m=some k)(h:Gi rows turn k m (tQ .int .int n turn a) m2 a2):Gi rows turn i m a (tQ .int .int n i m2) a2:=by
 have h2:tD .int .int n m2=some k:=(h.same n (YS a)).trans hm;refine⟨h.ok.put hi,h.ask,?_,λx hx=> ?_⟩
 ·have h3:=zij (y:=i) h2
  exact List.Perm.cons_inv (h3.trans ((h.vals.cons i).trans (List.Perm.swap _ _ _)))
 ·rw[S7 (λe=>hna (by rw[←e];exact hx))]
  exact h.same x (Ii.2 (.inr hx))
theorem Gi.start(h:Gi rows turn i m a1 m2 a2)(hm:∀n,Pi turn a n→Pi turn a1 n):Gi rows turn i m a m2 a2:=⟨h.ok,h.ask,h.vals,λn hn=>h.same n (hm n hn)⟩
theorem Dv(h:aG turn a):N2 rows turn m a [] a:=⟨h,λ_ h=>h,λn hn=>(by cases hn),λ_ h=> .inl h⟩
theorem zbP(h:N2 rows turn m a pre a1)(hn:Pi turn a1 n):N2 rows turn m a (pre++[n]) a1:=⟨h.ask,h.more,λx hx=>by
 rcases List.mem_append.1 hx with hx|hx
 ·exact h.row x hx
 ·rw[List.mem_singleton.1 hx];exact hn,h.closed⟩
theorem zbQ(h:N2 rows turn m a pre a1)(hm:tD .int .int n m=some k)(h2:N2 rows turn m (tQ .int .int n turn a1) (rows.getD k.toNat []) a2):N2 rows turn m a (pre++[n]) a2:=by
 have up:∀x,Pi turn a1 x→Pi turn a2 x:=λx hx=>h2.more x (Ii.2 (.inr hx))
 refine⟨h2.ask,λx hx=>up x (h.more x hx),λx hx=> ?_,λx hx=> ?_⟩
 ·rcases List.mem_append.1 hx with hx|hx
  ·exact up x (h.row x hx)
  ·rw[List.mem_singleton.1 hx];exact h2.more n (YS a1)
 ·rcases h2.closed x hx with h3|h3
  ·rcases Ii.1 h3 with rfl|h3
   ·exact .inr ⟨k,hm,h2.row⟩
   ·rcases h.closed x h3 with h4|⟨j,h4,h5⟩
    ·exact .inl h4
    ·exact .inr ⟨j,h4,λy hy=>up y (h5 y hy)⟩
  ·exact .inr h3
def upI(n:Nat):List Int:=(List.range n).map λi:Nat=>(i:Int)
theorem zdf{n:Nat}{k:Int}:k∈upI n↔0≤k∧k<n:=by
 rw[upI,List.mem_map];constructor
 ·rintro⟨i,hi,rfl⟩;have:=List.mem_range.1 hi;omega
 ·rintro⟨h1,h2⟩;exact⟨k.toNat,List.mem_range.2 (by omega),by omega⟩
theorem zed(n:Nat):(upI n).Nodup:=RU List.nodup_range λa _ b _ h=>Int.ofNat.inj h
theorem zgB{n:Nat}:((n:Int)::upI n).Perm (upI (n+1)):=by
 rw[upI,upI,List.range_succ,List.map_append];exact List.perm_append_comm (l₁:=[(n:Int)])
theorem zbR{i:Nat}{a':KV}(h:LN rows m)(hv:(m.map Prod.snd).Perm (upI i))(ha:∀n,¬Pi turn a n)(ht:N2 rows turn m a (rows.getD i []) a'):¬∃σ:Nat→Int,(∀j,j≤i→σ j∈rows.getD j [])∧∀j k,j≤i→k≤i→σ j=σ k→j=k:=by
 rintro⟨σ,h1,h2⟩
 let E:=m.filter λe=>decide (Pi turn a' e.1)
 have hE:∀n,Pi turn a' n→n∈E.map Prod.fst:=λn hn=>by
  rcases ht.closed n hn with h3|⟨k,h3,_⟩
  ·exact absurd h3 (ha n)
  ·exact List.mem_map.2 ⟨(n,k),List.mem_filter.2 ⟨zjE h3,decide_eq_true hn⟩,rfl⟩
 have hX:∀x∈E.map Prod.snd,0≤x∧x<(i:Int):=λx hx=>by
  obtain⟨e,he,rfl⟩:=List.mem_map.1 hx;exact zdf.1 (hv.subset (List.mem_map.2 ⟨e,(List.mem_filter.1 he).1,rfl⟩))
 have nd:((i:Int)::E.map Prod.snd).Nodup:=by
  rw[List.nodup_cons];refine⟨λhx=>by have:=hX _ hx;omega,?_⟩
  exact((hv.nodup_iff.2 (zed i))).sublist (List.filter_sublist.map Prod.snd)
 have nd2:(((i:Int)::E.map Prod.snd).map λx=>σ x.toNat).Nodup:=RU nd λx hx y hy e=>by
  have b:∀z,z∈((i:Int)::E.map Prod.snd)→0≤z∧z≤(i:Int):=λz hz=>by
   rcases List.mem_cons.1 hz with rfl|hz
   ·omega
   ·have:=hX z hz;omega
  have:=h2 x.toNat y.toNat (by have:=b x hx;omega) (by have:=b y hy;omega) e
  have:=b x hx;have:=b y hy;omega
 have sub:(((i:Int)::E.map Prod.snd).map λx=>σ x.toNat)⊆E.map Prod.fst:=λy hy=>by
  obtain⟨x,hx,rfl⟩:=List.mem_map.1 hy;refine hE _ ?_;rcases List.mem_cons.1 hx with rfl|hx
  ·exact ht.row _ (h1 i (Nat.le_refl _))
  ·have hb:=hX x hx
   obtain⟨e,he,rfl⟩:=List.mem_map.1 hx;obtain⟨he1,he2⟩:=List.mem_filter.1 he;have he2:=of_decide_eq_true he2;rcases ht.closed e.1 he2 with h3|⟨k,h3,h4⟩
   ·exact absurd h3 (ha _)
   ·have:=ziY h.nodup (show(e.1,e.2)∈m from he1)
    rw[h3]at this
    obtain rfl:k=e.2:=by cases this;rfl
    exact h4 _ (h1 _ (by omega))
 have:=nd2.length_le_of_subset sub;simp only[List.length_map,List.length_cons]at this
 omega
theorem zgC(h:LN rows m)(hv:(m.map Prod.snd).Perm (upI rows.length)):∃σ:Nat→Int,(∀j,j<rows.length→σ j∈rows.getD j [])∧∀j k,j<rows.length→k<rows.length→σ j=σ k→j=k:=by
 have hx:∀j:Nat,j<rows.length→∃n,tD .int .int n m=some (j:Int):=λj hj=>by
  obtain⟨e,he,h1⟩:=List.mem_map.1 (hv.symm.subset (zdf.2 (show 0≤(j:Int)∧(j:Int)<rows.length by omega)))
  exact⟨e.1,ziY h.nodup (by rw[←h1];exact he)⟩
 refine⟨λj=>if hj:j<rows.length then Classical.choose (hx j hj)else 0,λj hj=> ?_,λj k hj hk e=> ?_⟩
 ·simp only[dif_pos hj]
  have:=h.ok _ _ (Classical.choose_spec (hx j hj));simpa using this.2.2
 ·simp only[dif_pos hj,dif_pos hk]at e
  have h1:=Classical.choose_spec (hx j hj);have h2:=Classical.choose_spec (hx k hk);rw[e,h2]at h1
  have:(k:Int)=j:=by injection h1
  omega
end
theorem Gj{α:Type}(p:α→Bool):∀(xs:List α) (i:Int),(R6 p xs i= -1∧∀x∈xs,p x=false)∨∃(k:Nat) (h:k<xs.length),R6 p xs i=i+k∧p xs[k]=true∧∀(j:Nat) (hj:j<k),p (xs[j]'(by omega))=false
 |[],i=> .inl ⟨rfl,λx hx=>(by cases hx)⟩
 |x::xs,i=>by
  rw[R6];cases e:p x
  ·rw[cond_false]
   rcases Gj p xs (i+1)with⟨h1,h2⟩|⟨k,h,h1,h2,h3⟩
   ·refine .inl ⟨h1,λy hy=> ?_⟩
    rcases List.mem_cons.1 hy with rfl|hy
    ·exact e
    ·exact h2 y hy
   ·refine .inr ⟨k+1,by simpa using h,by rw[h1];omega,by simpa using h2,λj hj=> ?_⟩
    cases j with
    |zero=>exact e
    |succ j=>simpa using h3 j (by omega)
  ·exact .inr ⟨0,Nat.zero_lt_succ _,by rw[cond_true];omega,e,λj hj=>absurd hj (by omega)⟩
def YT:List yZ→Int→Int→List yZ
 |[],v,n=>[⟨v,n⟩]
 |t::r,v,n=>if t.v=v then⟨t.v,t.times+n⟩::r else t::YT r v n
def mP(z:List (Int×Int)):List yZ:=z.foldl (λo x=>YT o x.1 x.2) []
def WQ(f:Int→Int)(ts:List yZ):Int:=(ts.map λt=>t.times*f t.v).sum
theorem Gk{f:Int→Int}:WQ f []=0:=rfl
theorem oV{f:Int→Int}{t:yZ}{ts:List yZ}:WQ f (t::ts)=t.times*f t.v+WQ f ts:=by rw[WQ,List.map_cons,List.sum_cons];rfl
theorem KE{f:Int→Int}{ts us:List yZ}:WQ f (ts++us)=WQ f ts+WQ f us:=by rw[WQ,List.map_append,List.sum_append];rfl
theorem Dw{f:Int→Int}{v n:Int}:∀ {o:List yZ},WQ f (YT o v n)=WQ f o+n*f v
 |[]=>by rw[YT,oV,Gk];simp
 |t::r=>by
  rw[YT];split
  ·rename_i h
   rw[oV,oV,Int.add_mul,h];omega
  ·rw[oV,oV,Dw];omega
theorem AW{v n:Int}:∀ {o:List yZ},(∀t∈o,t.v≠v)→YT o v n=o++[⟨v,n⟩]
 |[],_=>rfl
 |t::r,h=>by
  rw[YT,if_neg (h t (List.mem_cons_self ..)),AW λt ht=>h t (List.mem_cons_of_mem _ ht)];rfl
theorem AX{v n:Int}:∀ {o:List yZ} {k:Nat} (hk:k<o.length),o[k].v=v→(∀(j:Nat) (hj:j<k),(o[j]'(by omega)).v≠v)→YT o v n=o.set k ⟨o[k].v,o[k].times+n⟩
 |[],k,hk,_,_=>absurd hk (Nat.not_lt_zero _)
 |t::r,0,_,h,_=>by rw[YT,if_pos (show t.v=v from h)];rfl
 |t::r,k+1,hk,h,hj=>by
  rw[YT,if_neg (show¬t.v=v from hj 0 (Nat.zero_lt_succ _)),List.set_cons_succ,AX (k:=k) (by simpa using hk) (by simpa using h) λj h2=>by simpa using hj (j+1) (by omega)]
  rfl
theorem Gl{v n x:Int}:∀ {o:List yZ},(x∈(YT o v n).map yZ.v)↔x∈o.map yZ.v∨x=v
 |[]=>by rw[YT];simp
 |t::r=>by
  rw[YT];split
  ·rename_i h
   simp only[List.map_cons,List.mem_cons];exact⟨λe=> .inl e,λe=>e.elim id λe=> .inl (e.trans h.symm)⟩
  ·simp only[List.map_cons,List.mem_cons]
   rw[Gl];exact⟨λe=>e.elim (λe=> .inl (.inl e)) λe=>e.elim (λe=> .inl (.inr e)) .inr,λe=>e.elim (λe=>e.elim .inl λe=> .inr (.inl e)) λe=> .inr (.inr e)⟩
theorem Gm{v n:Int}:∀ {o:List yZ},(o.map yZ.v).Nodup→((YT o v n).map yZ.v).Nodup
 |[],_=>by rw[YT];simp
 |t::r,h=>by
  rw[YT];rw[List.map_cons,List.nodup_cons]at h
  split
  ·rw[List.map_cons,List.nodup_cons];exact h
  ·rename_i hn
   rw[List.map_cons,List.nodup_cons];refine⟨λhm=> ?_,Gm h.2⟩
   rcases Gl.1 hm with hm|hm
   ·exact h.1 hm
   ·exact hn hm
theorem AY{v n:Int}:∀ {o:List yZ},(YT o v n).length≤o.length+1
 |[]=>by rw[YT];simp
 |t::r=>by
  rw[YT];split
  ·simp
  ·have:=AY (v:=v) (n:=n) (o:=r);simp;omega
theorem Gn{v n:Int}(hn: -1000≤n∧n≤1000){b:Nat}:∀ {o:List yZ},(∀t∈o,-1000*(b:Int)≤t.times∧t.times≤1000*(b:Int))→∀t∈YT o v n,-1000*((b+1:Nat):Int)≤t.times∧t.times≤1000*((b+1:Nat):Int)
 |[],_,t,ht=>by
  rw[YT,List.mem_singleton]at ht
  subst ht;show -1000*((b+1:Nat):Int)≤n∧n≤1000*((b+1:Nat):Int)
  omega
 |u::r,h,t,ht=>by
  rw[YT]at ht
  split at ht
  ·rcases List.mem_cons.1 ht with rfl|ht
   ·have:=h u (List.mem_cons_self ..)
    show -1000*((b+1:Nat):Int)≤u.times+n∧u.times+n≤1000*((b+1:Nat):Int)
    omega
   ·have:=h t (List.mem_cons_of_mem _ ht);omega
  ·rcases List.mem_cons.1 ht with rfl|ht
   ·have:=h _ (List.mem_cons_self ..);omega
   ·exact Gn hn (λt ht=>h t (List.mem_cons_of_mem _ ht)) t ht
theorem cM{z:List (Int×Int)}{x:Int×Int}:mP (z++[x])=YT (mP z) x.1 x.2:=by rw[mP,List.foldl_append];rfl
theorem jM{α:Type}{C:List α→Prop}(h0:C [])(h1:∀l a,C l→C (l++[a]))(l:List α):C l:=by
 have:∀n (l:List α),l.length=n→C l:=λn=>by
  induction n with
  |zero=>exact λl hl=>by rw[List.length_eq_zero_iff.1 hl];exact h0
  |succ n ih=>
   intro l hl;have hn:l≠[]:=λe=>by rw[e]at hl;cases hl
   rw[←List.dropLast_concat_getLast hn];exact h1 _ _ (ih _ (by rw[List.length_dropLast];omega))
 exact this _ l rfl
theorem Uv(z:List (Int×Int)):((mP z).map yZ.v).Nodup:=
 jM (C:=λz=>((mP z).map yZ.v).Nodup) List.nodup_nil (λl a h=>by rw[cM];exact Gm h) z
theorem Gp{x:Int}(z:List (Int×Int)):(x∈(mP z).map yZ.v)↔x∈z.map Prod.fst:=
 jM (C:=λz=>(x∈(mP z).map yZ.v)↔x∈z.map Prod.fst) (by simp[mP]) (λl a h=>by rw[cM,Gl,h,List.map_append,List.mem_append];simp) z
theorem Gq(z:List (Int×Int)):(mP z).length≤z.length:=
 jM (C:=λz=>(mP z).length≤z.length) (Nat.le_refl _) (λl a h=>by rw[cM,List.length_append];exact Nat.le_trans AY (Nat.succ_le_succ h)) z
theorem N3(z:List (Int×Int)):(∀x∈z,-1000≤x.2∧x.2≤1000)→∀t∈mP z,-1000*(z.length:Int)≤t.times∧t.times≤1000*(z.length:Int):=
 jM (C:=λz=>(∀x∈z,-1000≤x.2∧x.2≤1000)→∀t∈mP z,-1000*(z.length:Int)≤t.times∧t.times≤1000*(z.length:Int)) (λ_ t ht=>(by cases ht)) (λl a h hz t ht=>by
  rw[cM]at ht
  rw[List.length_append];exact Gn (hz a (by simp)) (h λx hx=>hz x (by simp[hx])) t ht) z
theorem zbS{f:Int→Int}(z:List (Int×Int)):WQ f (mP z)=(z.map λx=>x.2*f x.1).sum:=
 jM (C:=λz=>WQ f (mP z)=(z.map λx=>x.2*f x.1).sum) rfl (λl a h=>by rw[cM,Dw,h,List.map_append,List.sum_append];simp) z
def wT(c:zF):List yZ:=mP (c.vars.zip c.consts)
theorem Dx:∀(ks vs:List Int) (f:Int→Int),Qm (ks.zip (vs.map f))=((vs.zip ks).map λx=>x.2*f x.1).sum
 |[],vs,f=>by cases vs<;>rfl
 |k::ks,[],f=>rfl
 |k::ks,v::vs,f=>by
  rw[List.map_cons,List.zip_cons_cons,List.zip_cons_cons,Qm,List.map_cons,List.sum_cons,List.map_cons,List.sum_cons,←Dx ks vs f];rfl
theorem zbT{c:zF}{vs:List Int}:WQ (λv=>vs.getD v.toNat 0) (wT c)=Qm (c.consts.zip (uW c vs)):=by
 rw[wT,zbS,uW,Dx]
def KF(ts:List yZ)(s:List (List Int))(x:Int):Prop:=∃vs,XB vs s∧x=WQ (λv=>vs.getD v.toNat 0) ts
theorem zee{s:List (List Int)}(hf:zT s=false){x:Int}:KF [] s x↔x=0:=by
 constructor
 ·rintro⟨vs,_,h⟩;exact h
 ·intro h
  obtain⟨vs,hv⟩:=S6 hf;exact⟨vs,hv,h⟩
theorem Gr{f g:Int→Int}:∀ {ts:List yZ},(∀t∈ts,f t.v=g t.v)→WQ f ts=WQ g ts
 |[],_=>rfl
 |t::ts,h=>by rw[oV,oV,h t (List.mem_cons_self ..),Gr λt ht=>h t (List.mem_cons_of_mem _ ht)]
theorem AZ{ts:List yZ}{vs:List Int}{v n:Int}(hv:0≤v)(hl:v.toNat<vs.length)(hts:∀t∈ts,0≤t.v)(hn:v∉ts.map yZ.v):WQ (λu=>(vs.set v.toNat n).getD u.toNat 0) ts=WQ (λu=>vs.getD u.toNat 0) ts:=
 Gr λt ht=>by
  have h1:=hts t ht;rw[sD hl,if_neg];intro e;exact hn (List.mem_map.2 ⟨t,ht,by omega⟩)
theorem zbU{ts:List yZ}{t:yZ}{s:List (List Int)}(ht:0≤t.v)(hl:t.v.toNat<s.length)(hts:∀t∈ts,0≤t.v)(hn:t.v∉ts.map yZ.v){x:Int}:KF (ts++[t]) s x↔∃a,KF ts s a∧∃n∈s.getD t.v.toNat [],x=a+t.times*n:=by
 constructor
 ·rintro⟨vs,hv,rfl⟩
  refine⟨_,⟨vs,hv,rfl⟩,vs.getD t.v.toNat 0,hv.2 _ hl,?_⟩;rw[KE,oV,Gk,Int.add_zero]
 ·rintro⟨a,⟨vs,hv,rfl⟩,n,hm,rfl⟩
  have hl2:t.v.toNat<vs.length:=by rw[hv.1];exact hl
  refine⟨vs.set t.v.toNat n,hv.set hm hl,?_⟩;rw[KE,oV,Gk,Int.add_zero,AZ ht hl2 hts hn,sD hl2,if_pos rfl]
def A3(c:zF)(n:Int):Bool:=if c.kind=1 then decide (n≤c.n)else if c.kind=2 then decide (n=c.n)else !decide (n=c.n)
theorem Dy{c:zF}(h:1≤c.kind∧c.kind≤3){vs:List Int}:wH c vs=A3 c (WQ (λv=>vs.getD v.toNat 0) (wT c)):=by
 rw[zbT,wH,A3];have:c.kind=1∨c.kind=2∨c.kind=3:=by omega
 rcases this with e|e|e<;>simp[e]
theorem Oq{f:Int→Int}:∀ {ts:List yZ} {i:Nat} (hi:i<ts.length),WQ f ts=WQ f (ts.eraseIdx i)+ts[i].times*f ts[i].v
 |[],i,hi=>absurd hi (Nat.not_lt_zero _)
 |t::ts,0,_=>by rw[List.eraseIdx_cons_zero,oV,Int.add_comm];rfl
 |t::ts,i+1,hi=>by
  rw[List.eraseIdx_cons_succ,oV,oV,Oq (i:=i) (by simpa using hi)]
  simp only[List.getElem_cons_succ];omega
theorem KG{α:Type}:∀ {l:List α} {i:Nat} (hi:i<l.length),l.Nodup→l[i]∉l.eraseIdx i
 |[],i,hi,_=>absurd hi (Nat.not_lt_zero _)
 |a::l,0,_,h=>by rw[List.eraseIdx_cons_zero];exact(List.nodup_cons.1 h).1
 |a::l,i+1,hi,h=>by
  rw[List.nodup_cons]at h
  rw[List.eraseIdx_cons_succ,List.mem_cons];simp only[List.getElem_cons_succ];rintro(e|e)
  ·exact h.1 (e▸List.getElem_mem (by simpa using hi))
  ·exact KG (by simpa using hi) h.2 e
theorem Dz{α β:Type}{f:α→β}:∀ {l:List α} {i:Nat},(l.map f).eraseIdx i=(l.eraseIdx i).map f
 |[],_=>rfl
 |a::l,0=>rfl
 |a::l,i+1=>by rw[List.map_cons,List.eraseIdx_cons_succ,List.eraseIdx_cons_succ,List.map_cons,Dz]
theorem Ot{c:zF}{nv:Nat}(hc:vB c nv):∀t∈wT c,0≤t.v∧t.v<nv:=λt ht=>by
 have:=(Gp (x:=t.v) (c.vars.zip c.consts)).1 (List.mem_map.2 ⟨t,ht,rfl⟩);obtain⟨x,hx,e⟩:=List.mem_map.1 this;exact hc.vars t.v (by rw[←e];exact(List.of_mem_zip hx).1)
theorem zil{c:zF}{s:List (List Int)}(hc:vB c s.length)(hk:c.kind≤3){i:Nat}(hi:i<(wT c).length){n:Int}(hn:n∈s.getD (wT c)[i].v.toNat []):
  May (wH c) s (wT c)[i].v.toNat n↔∃a,KF ((wT c).eraseIdx i) s a∧A3 c (a+(wT c)[i].times*n)=true:=by
 have hk1:=hc.kind.1;have hv:=Ot hc;have h1:=hv _ (List.getElem_mem hi);have hl:(wT c)[i].v.toNat<s.length:=by omega
 have hne:(wT c)[i].v∉((wT c).eraseIdx i).map yZ.v:=by
  have:=KG (l:=(wT c).map yZ.v) (i:=i) (by rw[List.length_map];exact hi) (Uv _)
  rw[List.getElem_map]at this
  rwa[Dz]at this
 constructor
 ·rintro⟨vs,h2,h3,h4⟩
  refine⟨_,⟨vs,h2,rfl⟩,?_⟩;rw[Dy ⟨hk1,hk⟩,Oq hi,h3]at h4
  exact h4
 ·rintro⟨a,⟨vs,h2,rfl⟩,h4⟩
  have hl2:(wT c)[i].v.toNat<vs.length:=by rw[h2.1];exact hl
  refine⟨vs.set (wT c)[i].v.toNat n,h2.set hn hl,by rw[sD hl2,if_pos rfl],?_⟩
  rw[Dy ⟨hk1,hk⟩,Oq hi,AZ h1.1 hl2 (λt ht=>(hv t (List.mem_of_mem_eraseIdx ht)).1) hne,sD hl2,if_pos rfl]
  exact h4
theorem zbV{α:Type}{l:List α}{i k:Nat}(hk:k<l.length):(l.take (k+1)).eraseIdx i=if k=i then(l.take k).eraseIdx i else(l.take k).eraseIdx i++[l[k]]:=by
 have hl:(l.take k).length=k:=by rw[List.length_take];omega
 rw[←List.take_append_getElem hk];split
 ·rename_i e
  subst e;rw[List.eraseIdx_append_of_length_le (by omega),hl,Nat.sub_self,List.eraseIdx_cons_zero,List.append_nil,List.eraseIdx_of_length_le (by omega)]
 ·rename_i e
  by_cases h:k<i
  ·rw[List.eraseIdx_of_length_le (l:=l.take k) (by omega),List.eraseIdx_of_length_le (by rw[List.length_append,hl];simp;omega)]
  ·rw[List.eraseIdx_append_of_lt_length (by omega)]
def kC(s:List (List Int)):List Int→List Int→Nat→List Int×Nat
 |[],vs,n=>(vs,n)
 |v::r,vs,n=>kC s r (vs.set v.toNat ((s.getD v.toNat []).getD (n%(s.getD v.toNat []).length) 0)) (n/(s.getD v.toNat []).length)
def DA(s:List (List Int)):List Int→Nat
 |[]=>1
 |v::r=>(s.getD v.toNat []).length*DA s r
theorem KH{s:List (List Int)}:∀(r vs:List Int) (n:Nat),(kC s r vs n).1.length=vs.length
 |[],vs,n=>rfl
 |v::r,vs,n=>by rw[kC,KH r,List.length_set]
theorem ZO{s:List (List Int)}{u:Nat}:∀(r vs:List Int) (n:Nat),(∀v∈r,v.toNat≠u)→(kC s r vs n).1.getD u 0=vs.getD u 0
 |[],vs,n,_=>rfl
 |v::r,vs,n,h=>by
  rw[kC,ZO r _ _ λv hv=>h v (List.mem_cons_of_mem _ hv),List.getD_eq_getElem?_getD,List.getElem?_set_ne (h v (List.mem_cons_self ..)),←List.getD_eq_getElem?_getD]
theorem Gs{s:List (List Int)}:∀(r vs:List Int) (n:Nat),r.Nodup→(∀v∈r,0≤v∧v.toNat<vs.length∧s.getD v.toNat []≠[])→∀v∈r,(kC s r vs n).1.getD v.toNat 0∈s.getD v.toNat []
 |[],vs,n,_,_,v,hv=>by cases hv
 |u::r,vs,n,hd,h,v,hv=>by
  rw[List.nodup_cons]at hd
  have hu:=h u (List.mem_cons_self ..);rw[kC];rcases List.mem_cons.1 hv with rfl|hv
  ·rw[ZO r _ _ λw hw=> ?_,sD hu.2.1,if_pos rfl]
   ·have hp:0<(s.getD v.toNat []).length:=List.length_pos_iff.2 hu.2.2
    have hm:=Nat.mod_lt n hp;rw[yA _ hm];exact List.getElem_mem hm
   ·have h1:=(h w (List.mem_cons_of_mem _ hw)).1
    intro e;exact hd.1 (by rw[show v=w by omega];exact hw)
  ·exact Gs r _ _ hd.2 (λw hw=>by rw[List.length_set];exact h w (List.mem_cons_of_mem _ hw)) v hv
theorem KI{s:List (List Int)}{us:List Int}:∀(r:List Int),r.Nodup→∀(vs:List Int),(∀v∈r,0≤v∧v.toNat<vs.length∧us.getD v.toNat 0∈s.getD v.toNat [])→∃n,n<DA s r∧∀v∈r,(kC s r vs n).1.getD v.toNat 0=us.getD v.toNat 0
 |[],_,vs,_=>⟨0,Nat.one_pos,λv hv=>(by cases hv)⟩
 |u::r,hd,vs,h=>by
  rw[List.nodup_cons]at hd
  have hu:=h u (List.mem_cons_self ..);obtain⟨d,hd1,hd2⟩:=List.getElem_of_mem hu.2.2;obtain⟨n,hn1,hn2⟩:=KI r hd.2 (vs.set u.toNat (us.getD u.toNat 0)) λv hv=>by rw[List.length_set];exact h v (List.mem_cons_of_mem _ hv)
  have hp:0<(s.getD u.toNat []).length:=by omega
  have e1:(d+(s.getD u.toNat []).length*n)%(s.getD u.toNat []).length=d:=by rw[Nat.add_mul_mod_self_left,Nat.mod_eq_of_lt hd1]
  have e2:(d+(s.getD u.toNat []).length*n)/(s.getD u.toNat []).length=n:=by rw[Nat.add_mul_div_left _ _ hp,Nat.div_eq_of_lt hd1,Nat.zero_add]
  refine⟨d+(s.getD u.toNat []).length*n,?_,λv hv=> ?_⟩
  ·rw[DA]
   have:(s.getD u.toNat []).length*(n+1)≤(s.getD u.toNat []).length*DA s r:=Nat.mul_le_mul_left _ hn1;rw[Nat.mul_add,Nat.mul_one]at this
   omega
  ·rw[kC,e1,e2,yA _ hd1,hd2]
   rcases List.mem_cons.1 hv with rfl|hv
   ·rw[ZO r _ _ λw hw=> ?_,sD hu.2.1,if_pos rfl]
    have h1:=(h w (List.mem_cons_of_mem _ hw)).1;intro e;exact hd.1 (by rw[show v=w by omega];exact hw)
   ·exact hn2 v hv
def N4(c:zF)(s:List (List Int))(all r vs:List Int)(x:Int×Int):Prop:=
 ∃us:List Int,us.length=vs.length∧(∀u:Nat,(∀v∈r,v.toNat≠u)→us.getD u 0=vs.getD u 0)∧(∀v∈r,us.getD v.toNat 0∈s.getD v.toNat [])∧wH c us=true∧∃v∈all,x=(v,us.getD v.toNat 0)
section
variable {c:zF}{s:List (List Int)}{all r vs ws:List Int}{x:Int×Int}
theorem zgD:N4 c s all [] vs x↔wH c vs=true∧∃v∈all,x=(v,vs.getD v.toNat 0):=by
 constructor
 ·rintro⟨us,h1,h2,_,h3,h4⟩
  obtain rfl:us=vs:=S5 (d:=0) h1 λu=>h2 u λv hv=>by cases hv
  exact⟨h3,h4⟩
 ·rintro⟨h3,h4⟩
  exact⟨vs,rfl,λ_ _=>rfl,λv hv=>(by cases hv),h3,h4⟩
theorem zbW(hl:ws.length=vs.length)(h:∀u:Nat,(∀v∈r,v.toNat≠u)→ws.getD u 0=vs.getD u 0):N4 c s all r ws x↔N4 c s all r vs x:=by
 constructor
 ·rintro⟨us,h1,h2,h3⟩;exact⟨us,h1.trans hl,λu hu=>(h2 u hu).trans (h u hu),h3⟩
 ·rintro⟨us,h1,h2,h3⟩;exact⟨us,h1.trans hl.symm,λu hu=>(h2 u hu).trans (h u hu).symm,h3⟩
theorem zef{v:Int}(hv:0≤v)(hl:v.toNat<vs.length)(hr:∀u∈r,0≤u)(hn:v∉r):N4 c s all (v::r) vs x↔∃n∈s.getD v.toNat [],N4 c s all r (vs.set v.toNat n) x:=by
 have hne:∀u∈r,u.toNat≠v.toNat:=λu hu e=>hn (by have:=hr u hu;rw[show v=u by omega];exact hu)
 constructor
 ·rintro⟨us,h1,h2,h3,h4⟩
  refine⟨_,h3 v (List.mem_cons_self ..),us,by rw[List.length_set];exact h1,λu hu=> ?_,λu hu=>h3 u (List.mem_cons_of_mem _ hu),h4⟩
  rw[sD hl];split
  ·rename_i e;rw[e]
  ·rename_i e
   refine h2 u λw hw=> ?_
   rcases List.mem_cons.1 hw with rfl|hw
   ·exact λe2=>e e2.symm
   ·exact hu w hw
 ·rintro⟨n,hn2,us,h1,h2,h3,h4⟩
  have e:us.getD v.toNat 0=n:=by rw[h2 v.toNat hne,sD hl,if_pos rfl]
  refine⟨us,by rw[List.length_set]at h1;exact h1,λu hu=> ?_,λu hu=> ?_,h4⟩
  ·rw[h2 u λw hw=>hu w (List.mem_cons_of_mem _ hw),sD hl,if_neg λe=>hu v (List.mem_cons_self ..) e.symm]
  ·rcases List.mem_cons.1 hu with rfl|hu
   ·rw[e];exact hn2
   ·exact h3 u hu
end
theorem Uw{n u:Nat}{f:Nat→Int}(h:u<n):((List.range n).map f).getD u 0=f u:=by
 rw[yA _ (show u<((List.range n).map f).length by simpa using h)];simp
theorem nK{c:zF}{nv:Nat}:∀v∈yE c nv,0≤v∧v<nv:=λv hv=>(oA.1 hv).1
theorem A4{c:zF}{s:List (List Int)}(hc:vB c s.length)(hf:zT s=false){ws:List Int}(hw:ws.length=s.length){v n:Int}:
  N4 c s (yE c s.length) (yE c s.length) ws (v,n)↔v∈yE c s.length∧May (wH c) s v.toNat n:=by
 constructor
 ·rintro⟨us,h1,h2,h3,h4,u,hu,e⟩
  obtain⟨rfl,rfl⟩:v=u∧n=us.getD u.toNat 0:=by cases e;exact⟨rfl,rfl⟩
  refine⟨hu,?_⟩;obtain⟨ps,hp⟩:=S6 hf;have hg:∀u:Nat,u<s.length→((List.range s.length).map λu:Nat=>if(u:Int)∈yE c s.length then us.getD u 0 else ps.getD u 0).getD u 0=if(u:Int)∈yE c s.length then us.getD u 0 else ps.getD u 0:=λu hu=>Uw hu
  have hv:=nK v hu;refine⟨(List.range s.length).map λu:Nat=>if(u:Int)∈yE c s.length then us.getD u 0 else ps.getD u 0,⟨by simp,λu hu=> ?_⟩,?_,?_⟩
  ·rw[hg u hu]
   split
   ·rename_i e;simpa using h3 u e
   ·exact hp.2 u hu
  ·rw[hg _ (by omega),if_pos (by rw[Int.toNat_of_nonneg hv.1];exact hu)]
  ·rw[←h4]
   exact mX hc λw h5 h6=>by rw[hg w h5,if_pos (oA.2 ⟨by omega,h6⟩)]
 ·rintro⟨hv,vs,h1,h2,h3⟩
  have hg:∀u:Nat,u<s.length→((List.range s.length).map λu:Nat=>if(u:Int)∈yE c s.length then vs.getD u 0 else ws.getD u 0).getD u 0=if(u:Int)∈yE c s.length then vs.getD u 0 else ws.getD u 0:=λu hu=>Uw hu
  have hv2:=nK v hv;refine⟨(List.range s.length).map λu:Nat=>if(u:Int)∈yE c s.length then vs.getD u 0 else ws.getD u 0,by simp[hw],λu hu=> ?_,λu hu=> ?_,?_,v,hv,?_⟩
  ·by_cases hl:u<s.length
   ·rw[hg u hl,if_neg λe=>hu _ e (by omega)]
   ·rw[sU (by simp;omega),sU (by omega)]
  ·have:=nK u hu
   rw[hg _ (by omega),if_pos (by rw[Int.toNat_of_nonneg this.1];exact hu)]
   exact h1.2 _ (by omega)
  ·rw[←h3]
   exact mX hc λw h5 h6=>by rw[hg w h5,if_pos (oA.2 ⟨by omega,h6⟩)]
  ·rw[hg _ (by omega),if_pos (by rw[Int.toNat_of_nonneg hv2.1];exact hv),h2]
theorem LO(lo:Int):∀n,(E8 lo n).Nodup
 |0=>List.nodup_nil
 |n+1=>by
  rw[E8,List.nodup_append];refine⟨LO lo n,by simp,λa ha b hb=> ?_⟩
  have h1:=Uu.1 ha;rw[List.mem_singleton]at hb
  omega
theorem Wx{c:zF}{nv:Nat}:(yE c nv).Nodup:=(LO 0 nv).sublist List.filter_sublist
theorem A5{c:zF}{s:List (List Int)}(hc:vB c s.length)(hf:zT s=false){ws:List Int}(hw:ws.length=s.length){x:Int×Int}:
  N4 c s (yE c s.length) (yE c s.length) ws x↔∃n,n<DA s (yE c s.length)∧wH c (kC s (yE c s.length) ws n).1=true∧∃v∈yE c s.length,x=(v,(kC s (yE c s.length) ws n).1.getD v.toNat 0):=by
 have hne:∀v∈yE c s.length,0≤v∧v.toNat<ws.length∧s.getD v.toNat []≠[]:=λv hv=>by
  have h:=nK v hv;exact⟨h.1,by omega,tG.1 hf _ (by omega)⟩
 constructor
 ·rintro⟨us,h1,h2,h3,h4,v,hv,rfl⟩
  obtain⟨n,hn1,hn2⟩:=KI (s:=s) (us:=us) _ Wx ws λv hv=>⟨(hne v hv).1,(hne v hv).2.1,h3 v hv⟩
  refine⟨n,hn1,?_,v,hv,by rw[hn2 v hv]⟩
  rw[←h4];refine mX hc λu h5 h6=> ?_
  have:=hn2 (u:Int) (oA.2 ⟨by omega,h6⟩)
  simpa using this
 ·rintro⟨n,hn1,hn2,v,hv,rfl⟩
  exact⟨_,KH _ _ _,λu hu=>ZO _ _ _ hu,λv hv=>Gs _ _ _ Wx hne v hv,hn2,v,hv,rfl⟩
def N5:xP:= {own:=[5,7],live:=[],n:=44}
theorem Ek(f:zF)(a:List (List Int))(R:xK):FD N5 Tryz.f190 [dC f,dS a] R=
 (yY yT [dS a] .bool λs=>
 zP s
 (yY mW [dS a] (.list (.list .int)) λt=>
 R (dS t))
 (yY oZ [dC f] (.list .int) λg=>
 zP (decide ((g.length:Int)=0))
 (yY lI [dC f,.sl .int ([]:List Int)] .bool λu=>
 zP u
 (yY mW [dS a] (.list (.list .int)) λv=>
 R (dS v))
 (yY wZ [dS a] (.list (.list .int)) λw=>
 R (dS w)))
 (zP (decide (f.kind≤3))
 (∃h:List yZ,∃i:List (Int×(List Int)),∃b:zF,xD eS [dC f,dS a] [] (.clo rI none [.iptr [.sl .term h] 0,.iptr [.mp .int (.list .int) i] 0,.iptr (nM b []) 0]) []∧
 yY uR [dS a,.clo rH none [.iptr [.sl .int g] 0,.iptr [.clo rI none [.iptr [.sl .term h] 0,.iptr [.mp .int (.list .int) i] 0,.iptr (nM b []) 0]] 0]] (.list (.list .int)) λx=>
 R (dS x))
 (zP (decide (f.kind=4))
 (yY bK [.sl .int f.vars] .bool λy=>
 zP (!y)
 (∃j:List (List Int),∃c:zF,xD eU [dC f,dS a] [] (.clo rJ none [.iptr [dS j] 0,.iptr (nM c []) 0]) []∧
 yY uR [dS a,.clo rH none [.iptr [.sl .int g] 0,.iptr [.clo rJ none [.iptr [dS j] 0,.iptr (nM c []) 0]] 0]] (.list (.list .int)) λz=>
 R (dS z))
 (∃d:zF,∃k:List (List Int),∃l:List Int,∃m:List Int,∃n:List ((Int×Int)×Int),xD jJ [dC f,dS a] [] (.clo yX none [.iptr [.iptr (nM d [dS k,.sl .int l,.sl .int m,.mp (.pr .int .int) .int n]) 0] 0]) []∧
 yY uR [dS a,.clo rH none [.iptr [.sl .int g] 0,.iptr [.clo yX none [.iptr [.iptr (nM d [dS k,.sl .int l,.sl .int m,.mp (.pr .int .int) .int n]) 0] 0]] 0]] (.list (.list .int)) λaa=>
 R (dS aa)))
 (∃e:zF,∃o:List (List Int),∃p:List Int,∃q:List Int,∃r:List ((Int×Int)×Int),xD jJ [dC f,dS a] [] (.clo yX none [.iptr [.iptr (nM e [dS o,.sl .int p,.sl .int q,.mp (.pr .int .int) .int r]) 0] 0]) []∧
 yY uR [dS a,.clo rH none [.iptr [.sl .int g] 0,.iptr [.clo yX none [.iptr [.iptr (nM e [dS o,.sl .int p,.sl .int q,.mp (.pr .int .int) .int r]) 0] 0]] 0]] (.list (.list .int)) λab=>
 R (dS ab)))))):=by kernel_rfl
theorem Gt(a:zF)(b:List (List Int)):xL N5 Tryz.f190 o7 [dC a,dS b]:=xO Tryz.func190 (by kernel_rfl) Tryz.ntmps190 rfl
def Pj:xP:= {own:=[5,12,13,15],live:=[],n:=19}
theorem Gu(a:zF)(b:List (List Int))(R:oB):FH Pj Tryz.f242 [dC a,dS b] [] [] false R=
 (yY oZ [dC a] (.list .int) λc=>
 ((b.length:Int)=(b.length:Int)∧
 0≤(b.length:Int)∧
 wD .int ((b.length:Int).toNat)=true∧
 (((∃d:List Int,∃e:List ((Int×Int)×Int),xD yV [.ptr 1000 0,dI 0] [(1000,.cells (nM a [dS b,.sl .int c,.own 2000,.own 1001])),(2000,.row 3 .int (List.replicate ((b.length:Int).toNat) (Ty.dflt .int))),(1001,.mp (.pr .int .int) .int ([]:List ((Int×Int)×Int)))] (.tup []) [(1000,.cells (nM a [dS b,.sl .int c,.own 2000,.own 1001])),(2000,.row 3 .int d),(1001,.mp (.pr .int .int) .int e)]∧
 R (.clo yX none [.iptr [.iptr (nM a [dS b,.sl .int c,.sl .int d,.mp (.pr .int .int) .int e]) 0] 0]) [])∧
 ∃f:List Int,∃g:List ((Int×Int)×Int),xD yV [.ptr 1000 0,dI 0] [(1000,.cells (nM a [dS b,.sl .int c,.own 2000,.own 1001])),(2000,.row 3 .int (List.replicate ((b.length:Int).toNat) (Ty.dflt .int))),(1001,.mp (.pr .int .int) .int ([]:List ((Int×Int)×Int)))] (.tup []) [(1000,.cells (nM a [dS b,.sl .int c,.own 2000,.own 1001])),(2000,.row 3 .int f),(1001,.mp (.pr .int .int) .int g)]∧
 R (.clo yX none [.iptr [.iptr (nM a [dS b,.sl .int c,.sl .int f,.mp (.pr .int .int) .int g]) 0] 0]) [])∧
 ∃h:List Int,∃i:List ((Int×Int)×Int),xD yV [.ptr 1000 0,dI 0] [(1000,.cells (nM a [dS b,.sl .int c,.own 2000,.own 1001])),(2000,.row 3 .int (List.replicate ((b.length:Int).toNat) (Ty.dflt .int))),(1001,.mp (.pr .int .int) .int ([]:List ((Int×Int)×Int)))] (.tup []) [(1000,.cells (nM a [dS b,.sl .int c,.own 2000,.own 1001])),(2000,.row 3 .int h),(1001,.mp (.pr .int .int) .int i)]∧
 R (.clo yX none [.iptr [.iptr (nM a [dS b,.sl .int c,.sl .int h,.mp (.pr .int .int) .int i]) 0] 0]) [])∧
 ∃j:List Int,∃k:List ((Int×Int)×Int),xD yV [.ptr 1000 0,dI 0] [(1000,.cells (nM a [dS b,.sl .int c,.own 2000,.own 1001])),(2000,.row 3 .int (List.replicate ((b.length:Int).toNat) (Ty.dflt .int))),(1001,.mp (.pr .int .int) .int ([]:List ((Int×Int)×Int)))] (.tup []) [(1000,.cells (nM a [dS b,.sl .int c,.own 2000,.own 1001])),(2000,.row 3 .int j),(1001,.mp (.pr .int .int) .int k)]∧
 R (.clo yX none [.iptr [.iptr (nM a [dS b,.sl .int c,.sl .int j,.mp (.pr .int .int) .int k]) 0] 0]) [])∧
 (((b.length:Int)=(b.length:Int)∧
 0≤(b.length:Int)∧
 wD .int ((b.length:Int).toNat)=true∧
 ((∃l:List Int,∃m:List ((Int×Int)×Int),xD yV [.ptr 1000 0,dI 0] [(1000,.cells (nM a [dS b,.sl .int c,.own 2000,.own 1001])),(2000,.row 3 .int (List.replicate ((b.length:Int).toNat) (Ty.dflt .int))),(1001,.mp (.pr .int .int) .int ([]:List ((Int×Int)×Int)))] (.tup []) [(1000,.cells (nM a [dS b,.sl .int c,.own 2000,.own 1001])),(2000,.row 3 .int l),(1001,.mp (.pr .int .int) .int m)]∧
 R (.clo yX none [.iptr [.iptr (nM a [dS b,.sl .int c,.sl .int l,.mp (.pr .int .int) .int m]) 0] 0]) [])∧
 ∃n:List Int,∃o:List ((Int×Int)×Int),xD yV [.ptr 1000 0,dI 0] [(1000,.cells (nM a [dS b,.sl .int c,.own 2000,.own 1001])),(2000,.row 3 .int (List.replicate ((b.length:Int).toNat) (Ty.dflt .int))),(1001,.mp (.pr .int .int) .int ([]:List ((Int×Int)×Int)))] (.tup []) [(1000,.cells (nM a [dS b,.sl .int c,.own 2000,.own 1001])),(2000,.row 3 .int n),(1001,.mp (.pr .int .int) .int o)]∧
 R (.clo yX none [.iptr [.iptr (nM a [dS b,.sl .int c,.sl .int n,.mp (.pr .int .int) .int o]) 0] 0]) [])∧
 ∃p:List Int,∃q:List ((Int×Int)×Int),xD yV [.ptr 1000 0,dI 0] [(1000,.cells (nM a [dS b,.sl .int c,.own 2000,.own 1001])),(2000,.row 3 .int (List.replicate ((b.length:Int).toNat) (Ty.dflt .int))),(1001,.mp (.pr .int .int) .int ([]:List ((Int×Int)×Int)))] (.tup []) [(1000,.cells (nM a [dS b,.sl .int c,.own 2000,.own 1001])),(2000,.row 3 .int p),(1001,.mp (.pr .int .int) .int q)]∧
 R (.clo yX none [.iptr [.iptr (nM a [dS b,.sl .int c,.sl .int p,.mp (.pr .int .int) .int q]) 0] 0]) [])∧
 (b.length:Int)=(b.length:Int)∧
 0≤(b.length:Int)∧
 wD .int ((b.length:Int).toNat)=true∧
 ∃r:List Int,∃s:List ((Int×Int)×Int),xD yV [.ptr 1000 0,dI 0] [(1000,.cells (nM a [dS b,.sl .int c,.own 2000,.own 1001])),(2000,.row 3 .int (List.replicate ((b.length:Int).toNat) (Ty.dflt .int))),(1001,.mp (.pr .int .int) .int ([]:List ((Int×Int)×Int)))] (.tup []) [(1000,.cells (nM a [dS b,.sl .int c,.own 2000,.own 1001])),(2000,.row 3 .int r),(1001,.mp (.pr .int .int) .int s)]∧
 R (.clo yX none [.iptr [.iptr (nM a [dS b,.sl .int c,.sl .int r,.mp (.pr .int .int) .int s]) 0] 0]) [])∧
 ((b.length:Int)=(b.length:Int)∧
 0≤(b.length:Int)∧
 wD .int ((b.length:Int).toNat)=true∧
 ∃t:List Int,∃u:List ((Int×Int)×Int),xD yV [.ptr 1000 0,dI 0] [(1000,.cells (nM a [dS b,.sl .int c,.own 2000,.own 1001])),(2000,.row 3 .int (List.replicate ((b.length:Int).toNat) (Ty.dflt .int))),(1001,.mp (.pr .int .int) .int ([]:List ((Int×Int)×Int)))] (.tup []) [(1000,.cells (nM a [dS b,.sl .int c,.own 2000,.own 1001])),(2000,.row 3 .int t),(1001,.mp (.pr .int .int) .int u)]∧
 R (.clo yX none [.iptr [.iptr (nM a [dS b,.sl .int c,.sl .int t,.mp (.pr .int .int) .int u]) 0] 0]) [])∧
 (b.length:Int)=(b.length:Int)∧
 0≤(b.length:Int)∧
 wD .int ((b.length:Int).toNat)=true∧
 ∃v:List Int,∃w:List ((Int×Int)×Int),xD yV [.ptr 1000 0,dI 0] [(1000,.cells (nM a [dS b,.sl .int c,.own 2000,.own 1001])),(2000,.row 3 .int (List.replicate ((b.length:Int).toNat) (Ty.dflt .int))),(1001,.mp (.pr .int .int) .int ([]:List ((Int×Int)×Int)))] (.tup []) [(1000,.cells (nM a [dS b,.sl .int c,.own 2000,.own 1001])),(2000,.row 3 .int v),(1001,.mp (.pr .int .int) .int w)]∧
 R (.clo yX none [.iptr [.iptr (nM a [dS b,.sl .int c,.sl .int v,.mp (.pr .int .int) .int w]) 0] 0]) []):=by kernel_rfl
theorem Jz(a:zF)(b:List (List Int)):o9 Pj Tryz.f242 jJ [dC a,dS b] [] [] false:=nV Tryz.func242 (by kernel_rfl) Tryz.ntmps242 rfl
def sM:xP:= {own:=[5,6,8,11,14],live:=[(0,([1,2,5,6,15,16,17],[5,6,14])),(2,([1,2,5,6,7,8,9,15,16,17,23,24,25],[5,6,8,14]))],n:=44}
def mQ(a:zF)(e:List (List Int))(R:oB)(b:List yZ)(f:Nat)(c:Int)(d:List yZ)(g:List (Int×(List Int)))(h:Nat)(i:List Int)(j:Int)(k:List yZ)(l m:Int):Prop:=LP sM Tryz.f243 [1,1,1,0,1,0,0,1,1,0,0,1,1,0,1,0,0] 2 h ⟨[(1,dS e),(2,.iptr (nM a []) 0),(5,.ptr 5 0),(6,.ptr 6 0),(7,dI c),(8,.ptr 8 0),(9,.sl .int i),(15,.sl .term b),(16,dI (b.length:Int)),(17,dI c),(23,.sl .term d),(24,dI (d.length:Int)),(25,dI j)],[(5,.cells [.sl .term k]),(6,.cells [.own 14]),(8,.cells [dI l,dI m]),(14,.mp .int (.list .int) g)]⟩ (zQ 2 (sK sM Tryz.f243 [1,1,1,0,1,0,0,1,1,0,0,1,1,1] 1 (zQ 1 (sK sM Tryz.f243 [1,1,1,0,1,0,0,1,1,1] 0 (iK sM Tryz.f243 [1,1,1,0,1,0,0] 0 f (zQ 0 (sK sM Tryz.f243 [1,1,1,1] 0 (eH Tryz.f243 [] false R))))))))
def fm(a:zF)(c:List (List Int))(R:oB)(b:List yZ)(d:Nat)(e:Int)(f:List yZ)(g:List (Int×(List Int))):Prop:=LP sM Tryz.f243 [1,1,1,0,1,0,0] 0 d ⟨[(1,dS c),(2,.iptr (nM a []) 0),(5,.ptr 5 0),(6,.ptr 6 0),(15,.sl .term b),(16,dI (b.length:Int)),(17,dI e)],[(5,.cells [.sl .term f]),(6,.cells [.own 14]),(14,.mp .int (.list .int) g)]⟩ (zQ 0 (sK sM Tryz.f243 [1,1,1,1] 0 (eH Tryz.f243 [] false R)))
theorem QO(f:zF)(c:List (List Int))(R:oB)(g:List yZ)(h:Nat)(d:Int)(b:List yZ)(e:List (Int×(List Int)))(l:Nat)(i:List Int)(a:Int)(j:List yZ)(k m:Int):mQ f c R g h d b e (l+1) i a j k m=
 (zP (decide (a<(b.length:Int)))
 (wI a b.length=true∧
 zP (!decide (a=d))
 (yY ZB [.sl .int i,dS c,.agg [dI ((zR .term b a.toNat).v),dI ((zR .term b a.toNat).times)]] (.list .int) λn=>
 mQ f c R g h d b e l n (yW (a+1)) j k m)
 (mQ f c R g h d b e l i (yW (a+1)) j k m))
 (OZ (e.length+1)=true∧
 fm f c R g h (yW (d+1)) j (tQ .int (.list .int) k i e))):=by kernel_rfl
theorem QP(a:zF)(f:List (List Int))(R:oB)(b:List yZ)(g:Nat)(c:Int)(d:List yZ)(e:List (Int×(List Int))):fm a f R b (g+1) c d e=
 (zP (decide (c<(b.length:Int)))
 (wI c b.length=true∧
 ∃n2,mQ a f R b g c d e n2 ([0]) 0 d ((zR .term b c.toNat).v) ((zR .term b c.toNat).times))
 (R (.clo rI none [.iptr [.sl .term d] 0,.iptr [.mp .int (.list .int) e] 0,.iptr (nM a []) 0]) [])):=by kernel_rfl
theorem LQ(a:zF)(b:List (List Int))(R:oB):FH sM Tryz.f243 [dC a,dS b] [] [] false R=
 (yY bM [dC a] (.list .term) λc=>
 ∃n0,fm a b R c n0 0 c ([]:List (Int×(List Int)))):=by kernel_rfl
theorem N6(a:zF)(b:List (List Int)):o9 sM Tryz.f243 eS [dC a,dS b] [] [] false:=nV Tryz.func243 (by kernel_rfl) Tryz.ntmps243 rfl
def S8:xP:= {own:=[],live:=[],n:=14}
theorem JA(a:List Int)(R:xK):FD S8 Tryz.f244 [.sl .int a] R=
 (∃b:List Int,xD uJ [.sl .int a] [] (.own 3000) [(3000,.row 3 .int b)]∧
 ∃c:List Int,xD sR [.own 1000] [(1000,.row 3 .int b)] (.tup []) [(1000,.row 3 .int c)]∧
 ∃d:List Int,xD tE [.own 1000] [(1000,.row 3 .int c)] (.sl .int d) []∧
 R (dB (decide ((d.length:Int)<(a.length:Int))))):=by kernel_rfl
theorem LR(a:List Int):xL S8 Tryz.f244 bK [.sl .int a]:=xO Tryz.func244 (by kernel_rfl) Tryz.ntmps244 rfl
def U7:xP:= {own:=[],live:=[],n:=6}
theorem LS(a:zF)(b:List (List Int))(R:oB):FH U7 Tryz.f245 [dC a,dS b] [] [] false R=
 (R (.clo rJ none [.iptr [dS b] 0,.iptr (nM a []) 0]) []):=by kernel_rfl
theorem N7(a:zF)(b:List (List Int)):o9 U7 Tryz.f245 eU [dC a,dS b] [] [] false:=nV Tryz.func245 (by kernel_rfl) Tryz.ntmps245 rfl
def S9:xP:= {own:=[],live:=[],n:=17}
theorem JB(a c:Int)(d:List Int)(b:FuncId)(e:List D)(R:xK):FD S9 Tryz.f246 [dI a,dI c,.iptr [.sl .int d] 0,.iptr [.clo b (some [.bool]) e] 0] R=
 (yY xY [.sl .int d,dI a] .bool λf=>
 zP (!f)
 (R (dB true))
 (cE b∧
 yY b ([dI a,dI c]++e) .bool λg=>
 R (dB g))):=by kernel_rfl
theorem LT(a b:Int)(c:List Int)(d:FuncId)(e:List D):xL S9 Tryz.f246 rH [dI a,dI b,.iptr [.sl .int c] 0,.iptr [.clo d (some [.bool]) e] 0]:=xO Tryz.func246 (by kernel_rfl) Tryz.ntmps246 rfl
def sV:xP:= {own:=[],live:=[(0,([0,27,28,29],[1000,1001,2000])),(2,([0,1,59,60,61],[1000,1001,2000]))],n:=83}
def oO(b:Int)(c d:List Int)(e:Int)(f:List (List Int))(g:List zC)(h:List (List Int))(a i:List Int)(R:oB)(j:Nat)(k:Int)(l:List ((Int×Int)×Int)):Prop:=LP sV Tryz.f281 [0,1,0,0,1,0,1,0,0] 0 j ⟨[(0,.ptr 1000 0),(27,.sl .int a),(28,dI (a.length:Int)),(29,dI k)],[(1000,.cells [dI b,.sl .int c,.sl .int d,dI e,dS f,.sl .lit g,dS h,.sl .int a,.own 2000,.own 1001]),(1001,.mp (.pr .int .int) .int l),(2000,.row 3 .int i)]⟩ (zQ 0 (sK sV Tryz.f281 [0,1,0,1] 0 (sK sV Tryz.f281 [1] 0 (eH Tryz.f281 [.ptr 1000 0] false R))))
def oP(b:List (List Int))(c:List Int)(a:Int)(R:oB)(d:Nat)(e f:Int)(g h:List Int)(i:Int)(j:List (List Int))(k:List zC)(l:List (List Int))(m:List Int)(n:List ((Int×Int)×Int))(o:List Int):Prop:=LP sV Tryz.f281 [1,1,0,0] 2 d ⟨[(0,.ptr 1000 0),(1,dI a),(59,.sl .int (zR (.list .int) b ((zR .int c a.toNat).toNat))),(60,dI ((zR (.list .int) b ((zR .int c a.toNat).toNat)).length:Int)),(61,dI e)],[(1000,.cells [dI f,.sl .int g,.sl .int h,dI i,dS j,.sl .lit k,dS l,.sl .int m,.own 2000,.own 1001]),(1001,.mp (.pr .int .int) .int n),(2000,.row 3 .int o)]⟩ (zQ 2 (eH Tryz.f281 [.ptr 1000 0] false R))
theorem WR(e:Int)(f g:List Int)(h:Int)(i:List (List Int))(j:List zC)(k:List (List Int))(a c:List Int)(R:oB)(l:Nat)(b:Int)(d:List ((Int×Int)×Int)):oO e f g h i j k a c R (l+1) b d=
 (zP (decide (b<(a.length:Int)))
 (wI b a.length=true∧
 wI (zR .int a b.toNat) c.length=true∧
 OZ (d.length+1)=true∧
 oO e f g h i j k a c R l (yW (b+1)) (tQ (.pr .int .int) .int (zR .int a b.toNat,zR .int c ((zR .int a b.toNat).toNat)) 1 d))
 (R (.tup []) [(1000,.cells [dI e,.sl .int f,.sl .int g,dI h,dS i,.sl .lit j,dS k,.sl .int a,.own 2000,.own 1001]),(2000,.row 3 .int c),(1001,.mp (.pr .int .int) .int d)])):=by kernel_rfl
theorem eG(c:List (List Int))(d:List Int)(a:Int)(R:oB)(o:Nat)(e f:Int)(g h:List Int)(i:Int)(j:List (List Int))(k:List zC)(l:List (List Int))(b:List Int)(n:List ((Int×Int)×Int))(m:List Int):oP c d a R (o+1) e f g h i j k l b n m=
 (zP (decide (e<((zR (.list .int) c ((zR .int d a.toNat).toNat)).length:Int)))
 (wI e (zR (.list .int) c ((zR .int d a.toNat).toNat)).length=true∧
 wI a b.length=true∧
 wI (zR .int b a.toNat) m.length=true∧
 ∃p:List Int,∃q:List ((Int×Int)×Int),xD yV [.ptr 1000 0,dI (yW (a+1))] [(1000,.cells [dI f,.sl .int g,.sl .int h,dI i,dS j,.sl .lit k,dS l,.sl .int b,.own 2000,.own 1001]),(2000,.row 3 .int (m.set ((zR .int b a.toNat).toNat) (zR .int (zR (.list .int) c ((zR .int d a.toNat).toNat)) e.toNat))),(1001,.mp (.pr .int .int) .int n)] (.tup []) [(1000,.cells [dI f,.sl .int g,.sl .int h,dI i,dS j,.sl .lit k,dS l,.sl .int b,.own 2000,.own 1001]),(2000,.row 3 .int p),(1001,.mp (.pr .int .int) .int q)]∧
 oP c d a R o (yW (e+1)) f g h i j k l b q p)
 (R (.tup []) [(1000,.cells [dI f,.sl .int g,.sl .int h,dI i,dS j,.sl .lit k,dS l,.sl .int b,.own 2000,.own 1001]),(2000,.row 3 .int m),(1001,.mp (.pr .int .int) .int n)])):=by kernel_rfl
theorem iC(c:Int)(d e:List Int)(f:Int)(g:List (List Int))(h:List zC)(b:List (List Int))(a i:List Int)(k:List ((Int×Int)×Int))(j:Int)(R:oB):FH sV Tryz.f281 [.ptr 1000 0,dI j] [(1000,.cells [dI c,.sl .int d,.sl .int e,dI f,dS g,.sl .lit h,dS b,.sl .int a,.own 2000,.own 1001]),(2000,.row 3 .int i),(1001,.mp (.pr .int .int) .int k)] [.ptr 1000 0] false R=
 (zP (decide (j=(a.length:Int)))
 (yY lI [.agg [dI c,.sl .int d,.sl .int e,dI f,dS g,.sl .lit h],.sl .int i] .bool λl=>
 zP l
 (∃n0,oO c d e f g h b a i R n0 0 k)
 (R (.tup []) [(1000,.cells [dI c,.sl .int d,.sl .int e,dI f,dS g,.sl .lit h,dS b,.sl .int a,.own 2000,.own 1001]),(2000,.row 3 .int i),(1001,.mp (.pr .int .int) .int k)]))
 (wI j a.length=true∧
 wI (zR .int a j.toNat) b.length=true∧
 ∃n2,oP b a j R n2 0 c d e f g h b a k i)):=by kernel_rfl
theorem kD(a:Int)(b c:List Int)(d:Int)(e:List (List Int))(f:List zC)(g:List (List Int))(h i:List Int)(j:List ((Int×Int)×Int))(k:Int):o9 sV Tryz.f281 yV [.ptr 1000 0,dI k] [(1000,.cells [dI a,.sl .int b,.sl .int c,dI d,dS e,.sl .lit f,dS g,.sl .int h,.own 2000,.own 1001]),(2000,.row 3 .int i),(1001,.mp (.pr .int .int) .int j)] [.ptr 1000 0] false:=nV Tryz.func281 (by kernel_rfl) Tryz.ntmps281 rfl
def U8:xP:= {own:=[],live:=[],n:=15}
theorem LU(b c:Int)(a:zF)(e:List (List Int))(f g:List Int)(d:List ((Int×Int)×Int))(R:xK):FD U8 Tryz.f282 [dI b,dI c,.iptr [.iptr (nM a [dS e,.sl .int f,.sl .int g,.mp (.pr .int .int) .int d]) 0] 0] R=
 (R (dB (decide ((nU (.pr .int .int) .int (b,c) d)=1)))):=by kernel_rfl
theorem N8(b c:Int)(a:zF)(d:List (List Int))(e f:List Int)(g:List ((Int×Int)×Int)):xL U8 Tryz.f282 yX [dI b,dI c,.iptr [.iptr (nM a [dS d,.sl .int e,.sl .int f,.mp (.pr .int .int) .int g]) 0] 0]:=xO Tryz.func282 (by kernel_rfl) Tryz.ntmps282 rfl
def aH:xP:= {own:=[3,5,29],live:=[(0,([1,3,8,9,10],[3]))],n:=45}
def kZ(a:zF)(R:xK)(b:Nat)(c:Int)(d:List yZ):Prop:=LP aH Tryz.f283 [1,1,0,1,0,0] 0 b ⟨[(1,.iptr (nM a []) 0),(3,.own 3),(8,.sl .int a.vars),(9,dI (a.vars.length:Int)),(10,dI c)],[(3,.row 293 .term d)]⟩ (zQ 0 (sK aH Tryz.f283 [1,1,1] 0 (eK Tryz.f283 R)))
theorem Ou(a:zF)(R:xK)(e:Nat)(b:Int)(c:List yZ):kZ a R (e+1) b c=
 (zP (decide (b<(a.vars.length:Int)))
 (wI b a.vars.length=true∧
 yY xJ [.sl .term c,.clo gY none [.iptr [dI (zR .int a.vars b.toNat)] 0]] .int λd=>
 zP (decide (d<0))
 (wI b a.consts.length=true∧
 wD .term (c.length+([(⟨zR .int a.vars b.toNat,zR .int a.consts b.toNat⟩:yZ)]).length)=true∧
 kZ a R e (yW (b+1)) (c++([(⟨zR .int a.vars b.toNat,zR .int a.consts b.toNat⟩:yZ)])))
 (wI d c.length=true∧
 wI b a.consts.length=true∧
 wI d c.length=true∧
 kZ a R e (yW (b+1)) (c.set d.toNat (⟨(zR .term c d.toNat).v,yW (((zR .term c d.toNat).times)+(zR .int a.consts b.toNat))⟩:yZ))))
 (R (.sl .term c))):=by kernel_rfl
theorem JC(a:zF)(R:xK):FD aH Tryz.f283 [dC a] R=
 (∃n0,kZ a R n0 0 ([]:List yZ)):=by kernel_rfl
theorem LV(a:zF):xL aH Tryz.f283 bM [dC a]:=xO Tryz.func283 (by kernel_rfl) Tryz.ntmps283 rfl
def ov:xP:= {own:=[7,36],live:=[(0,([1,5,7,12,13,14],[7])),(2,([1,5,7,9,12,13,14,22,23,24],[7]))],n:=43}
def aI(b:List Int)(c:List (List Int))(a:yZ)(R:xK)(e:Nat)(d:Int)(f:Nat)(g:Int)(h:List Int):Prop:=LP ov Tryz.f284 [1,1,0,1,0,0,1,1,0,0,1,1,0,0] 2 f ⟨[(1,dS c),(5,.iptr [dI a.v,dI a.times] 0),(7,.own 7),(9,dI (zR .int b d.toNat)),(12,.sl .int b),(13,dI (b.length:Int)),(14,dI d),(22,.sl .int (zR (.list .int) c a.v.toNat)),(23,dI ((zR (.list .int) c a.v.toNat).length:Int)),(24,dI g)],[(7,.row 3 .int h)]⟩ (zQ 2 (zQ 1 (sK ov Tryz.f284 [1,1,0,1,0,0,1,1,1] 0 (iK ov Tryz.f284 [1,1,0,1,0,0] 0 e (zQ 0 (sK ov Tryz.f284 [1,1,1] 0 (eK Tryz.f284 R)))))))
def aJ(a:List Int)(c:List (List Int))(b:yZ)(R:xK)(d:Nat)(e:Int)(f:List Int):Prop:=LP ov Tryz.f284 [1,1,0,1,0,0] 0 d ⟨[(1,dS c),(5,.iptr [dI b.v,dI b.times] 0),(7,.own 7),(12,.sl .int a),(13,dI (a.length:Int)),(14,dI e)],[(7,.row 3 .int f)]⟩ (zQ 0 (sK ov Tryz.f284 [1,1,1] 0 (eK Tryz.f284 R)))
theorem N9(d:List Int)(b:List (List Int))(a:yZ)(R:xK)(g:Nat)(e:Int)(h:Nat)(c:Int)(f:List Int):aI d b a R g e (h+1) c f=
 (zP (decide (c<((zR (.list .int) b a.v.toNat).length:Int)))
 (wI c (zR (.list .int) b a.v.toNat).length=true∧
 wD .int (f.length+([yW ((zR .int d e.toNat)+(yW (a.times*(zR .int (zR (.list .int) b a.v.toNat) c.toNat))))]).length)=true∧
 aI d b a R g e h (yW (c+1)) (f++([yW ((zR .int d e.toNat)+(yW (a.times*(zR .int (zR (.list .int) b a.v.toNat) c.toNat))))])))
 (aJ d b a R g (yW (e+1)) f)):=by kernel_rfl
theorem Ma(a:List Int)(c:List (List Int))(d:yZ)(R:xK)(f:Nat)(b:Int)(e:List Int):aJ a c d R (f+1) b e=
 (zP (decide (b<(a.length:Int)))
 (wI b a.length=true∧
 wI d.v c.length=true∧
 ∃n2,aI a c d R f b n2 0 e)
 (∃g:List Int,xD sR [.own 1000] [(1000,.row 3 .int e)] (.tup []) [(1000,.row 3 .int g)]∧
 ∃h:List Int,xD tE [.own 1000] [(1000,.row 3 .int g)] (.sl .int h) []∧
 R (.sl .int h))):=by kernel_rfl
theorem Gv(b:List Int)(c:List (List Int))(a:yZ)(R:xK):FD ov Tryz.f284 [.sl .int b,dS c,.agg [dI a.v,dI a.times]] R=
 (∃n0,aJ b c a R n0 0 ([]:List Int)):=by kernel_rfl
theorem JD(b:List Int)(c:List (List Int))(a:yZ):xL ov Tryz.f284 ZB [.sl .int b,dS c,.agg [dI a.v,dI a.times]]:=xO Tryz.func284 (by kernel_rfl) Tryz.ntmps284 rfl
def Wy:xP:= {own:=[8],live:=[],n:=20}
theorem Ov(c e:Int)(b:List yZ)(f:List (Int×(List Int)))(a:zF)(R:xK):FD Wy Tryz.f285 [dI c,dI e,.iptr [.sl .term b] 0,.iptr [.mp .int (.list .int) f] 0,.iptr (nM a []) 0] R=
 (yY xJ [.sl .term b,.clo mD none [.iptr [dI c] 0]] .int λd=>
 wI d b.length=true∧
 yY xG [.sl .int (nU .int (.list .int) c f),.clo mE none [.iptr (nM a []) 0,.iptr [dI ((zR .term b d.toNat).v),dI ((zR .term b d.toNat).times)] 0,.iptr [dI e] 0]] .bool λg=>
 R (dB g)):=by kernel_rfl
theorem QQ(b c:Int)(d:List yZ)(e:List (Int×(List Int)))(a:zF):xL Wy Tryz.f285 rI [dI b,dI c,.iptr [.sl .term d] 0,.iptr [.mp .int (.list .int) e] 0,.iptr (nM a []) 0]:=xO Tryz.func285 (by kernel_rfl) Tryz.ntmps285 rfl
def Yx:xP:= {own:=[],live:=[],n:=8}
theorem Ra(a:yZ)(b:Int)(R:xK):FD Yx Tryz.f287 [.agg [dI a.v,dI a.times],.iptr [dI b] 0] R=
 (R (dB (decide (a.v=b)))):=by kernel_rfl
theorem TH(a:yZ)(b:Int):xL Yx Tryz.f287 mD [.agg [dI a.v,dI a.times],.iptr [dI b] 0]:=xO Tryz.func287 (by kernel_rfl) Tryz.ntmps287 rfl
def Yy:xP:= {own:=[],live:=[],n:=14}
theorem Rb(c:Int)(a:zF)(b:yZ)(d:Int)(R:xK):FD Yy Tryz.f288 [dI c,.iptr (nM a []) 0,.iptr [dI b.v,dI b.times] 0,.iptr [dI d] 0] R=
 (yY mV [dC a,dI (yW (c+(yW (b.times*d))))] .bool λe=>
 R (dB e)):=by kernel_rfl
theorem TI(c:Int)(a:zF)(b:yZ)(d:Int):xL Yy Tryz.f288 mE [dI c,.iptr (nM a []) 0,.iptr [dI b.v,dI b.times] 0,.iptr [dI d] 0]:=xO Tryz.func288 (by kernel_rfl) Tryz.ntmps288 rfl
def iO:xP:= {own:=[20,21,23],live:=[(0,([8,26,27],[20,21,23]))],n:=40,nils:=[],pubs:=[(23,0)]}
def qM(a:zF)(R:xK)(b:Nat)(c:Int)(d e:List (Int×Int))(f:List (List Int))(g:List Int)(h:Int):Prop:=LP iO Tryz.f289 [1,1,1,1,0,1,0,0] 0 b ⟨[(8,.ptr 23 0),(26,dI (a.vars.length:Int)),(27,dI c)],[(20,.mp .int .int d),(21,.mp .int .int e),(23,.cells [dS f,.sl .int g,.own 20,.own 21,dI h])]⟩ (zQ 0 (sK iO Tryz.f289 [1,1,1,1,1] 0 (eK Tryz.f289 R)))
theorem TJ(d:zF)(R:xK)(e:Nat)(a:Int)(f g:List (Int×Int))(b:List (List Int))(c:List Int)(k:Int):qM d R (e+1) a f g b c k=
 (zP (decide (a<(d.vars.length:Int)))
 (∃h:Bool,∃i:List (Int×Int),∃j:List (Int×Int),xD sB [.ptr 1000 0,dI a] [(1000,.cells [dS b,.sl .int c,.own 1001,.own 1002,dI (yW (a+1))]),(1001,.mp .int .int f),(1002,.mp .int .int g)] (dB h) [(1000,.cells [dS b,.sl .int c,.own 1001,.own 1002,dI (yW (a+1))]),(1001,.mp .int .int i),(1002,.mp .int .int j)]∧
 zP (!h)
 (R (dB false))
 (qM d R e (yW (a+1)) i j b c (yW (a+1))))
 (R (dB true))):=by kernel_rfl
theorem Ow(b d:Int)(e:List (List Int))(a:zF)(R:xK):FD iO Tryz.f289 [dI b,dI d,.iptr [dS e] 0,.iptr (nM a []) 0] R=
 (∃c:List (List Int),xD sH [dS e] [] (.own 3000) [(3000,.row 40 (.list .int) c)]∧
 wI b c.length=true∧
 ∃n0,qM a R n0 0 ([]:List (Int×Int)) ([]:List (Int×Int)) (c.set b.toNat ([d])) a.vars 0):=by kernel_rfl
theorem QR(b c:Int)(d:List (List Int))(a:zF):xL iO Tryz.f289 rJ [dI b,dI c,.iptr [dS d] 0,.iptr (nM a []) 0]:=xO Tryz.func289 (by kernel_rfl) Tryz.ntmps289 rfl
def oQ:xP:= {own:=[],live:=[(0,([0,1,21,22,23],[1000,1001,1002]))],n:=70}
def rO(b:List (List Int))(c:List Int)(a:Int)(R:oB)(d:Nat)(e:Int)(f:List (List Int))(g:List Int)(h:Int)(i j:List (Int×Int)):Prop:=LP oQ Tryz.f291 [1,0,1,0,0] 0 d ⟨[(0,.ptr 1000 0),(1,dI a),(21,.sl .int (zR (.list .int) b ((zR .int c a.toNat).toNat))),(22,dI ((zR (.list .int) b ((zR .int c a.toNat).toNat)).length:Int)),(23,dI e)],[(1000,.cells [dS f,.sl .int g,.own 1001,.own 1002,dI h]),(1001,.mp .int .int i),(1002,.mp .int .int j)]⟩ (zQ 0 (sK oQ Tryz.f291 [1,1] 0 (eH Tryz.f291 [.ptr 1000 0] false R)))
theorem tT(b:List (List Int))(c:List Int)(a:Int)(R:oB)(k:Nat)(d:Int)(f:List (List Int))(g:List Int)(e:Int)(h i:List (Int×Int)):rO b c a R (k+1) d f g e h i=
 (zP (decide (d<((zR (.list .int) b ((zR .int c a.toNat).toNat)).length:Int)))
 (wI d (zR (.list .int) b ((zR .int c a.toNat).toNat)).length=true∧
 zP (decide ((nU .int .int (zR .int (zR (.list .int) b ((zR .int c a.toNat).toNat)) d.toNat) i)=e))
 (rO b c a R k (yW (d+1)) f g e h i)
 (OZ (i.length+1)=true∧
 zP (!(Pz .int .int (zR .int (zR (.list .int) b ((zR .int c a.toNat).toNat)) d.toNat) h))
 (OZ (h.length+1)=true∧
 R (dB true) [(1000,.cells [dS f,.sl .int g,.own 1001,.own 1002,dI e]),(1001,.mp .int .int (tQ .int .int (zR .int (zR (.list .int) b ((zR .int c a.toNat).toNat)) d.toNat) a h)),(1002,.mp .int .int (tQ .int .int (zR .int (zR (.list .int) b ((zR .int c a.toNat).toNat)) d.toNat) e i))])
 (∃m:Bool,∃j:List (Int×Int),∃l:List (Int×Int),xD sB [.ptr 1000 0,dI (nU .int .int (zR .int (zR (.list .int) b ((zR .int c a.toNat).toNat)) d.toNat) h)] [(1000,.cells [dS f,.sl .int g,.own 1001,.own 1002,dI e]),(1001,.mp .int .int h),(1002,.mp .int .int (tQ .int .int (zR .int (zR (.list .int) b ((zR .int c a.toNat).toNat)) d.toNat) e i))] (dB m) [(1000,.cells [dS f,.sl .int g,.own 1001,.own 1002,dI e]),(1001,.mp .int .int j),(1002,.mp .int .int l)]∧
 zP m
 (OZ (j.length+1)=true∧
 R (dB true) [(1000,.cells [dS f,.sl .int g,.own 1001,.own 1002,dI e]),(1001,.mp .int .int (tQ .int .int (zR .int (zR (.list .int) b ((zR .int c a.toNat).toNat)) d.toNat) a j)),(1002,.mp .int .int l)])
 (rO b c a R k (yW (d+1)) f g e j l))))
 (R (dB false) [(1000,.cells [dS f,.sl .int g,.own 1001,.own 1002,dI e]),(1001,.mp .int .int h),(1002,.mp .int .int i)])):=by kernel_rfl
theorem aK(b:List (List Int))(a:List Int)(d:Int)(e f:List (Int×Int))(c:Int)(R:oB):FH oQ Tryz.f291 [.ptr 1000 0,dI c] [(1000,.cells [dS b,.sl .int a,.own 1001,.own 1002,dI d]),(1001,.mp .int .int e),(1002,.mp .int .int f)] [.ptr 1000 0] false R=
 (wI c a.length=true∧
 wI (zR .int a c.toNat) b.length=true∧
 ∃n0,rO b a c R n0 0 b a d e f):=by kernel_rfl
theorem cN(a:List (List Int))(b:List Int)(c:Int)(d e:List (Int×Int))(f:Int):o9 oQ Tryz.f291 sB [.ptr 1000 0,dI f] [(1000,.cells [dS a,.sl .int b,.own 1001,.own 1002,dI c]),(1001,.mp .int .int d),(1002,.mp .int .int e)] [.ptr 1000 0] false:=nV Tryz.func291 (by kernel_rfl) Tryz.ntmps291 rfl
def VA:xP:= {own:=[],live:=[],n:=8}
theorem Mb(a:yZ)(b:Int)(R:xK):FD VA Tryz.f310 [.agg [dI a.v,dI a.times],.iptr [dI b] 0] R=
 (R (dB (decide (a.v=b)))):=by kernel_rfl
theorem Ox(a:yZ)(b:Int):xL VA Tryz.f310 gY [.agg [dI a.v,dI a.times],.iptr [dI b] 0]:=xO Tryz.func310 (by kernel_rfl) Tryz.ntmps310 rfl
theorem nodup_iff{l:List Int}:(∀i (hi:i<l.length) j (hj:j<i),l[i]≠l[j]'(by omega))↔l.Nodup:=by
 rw[List.Nodup,List.pairwise_iff_getElem];exact⟨λh i j hi hj hij e=>h j hj i hij e.symm,λh i hi j hj e=>h j i (by omega) hi hj e.symm⟩
theorem zbX:uG fU [dM xW,dI 0,.sl .int [0,1]] (.tup [dB true,dI 0]):=by
 have h:=H8 xW 0 [0,1]
 rwa[show S3 xW 0 [0,1]=0 by kernel_rfl,show orB 0 (wH (yL xW 0) [0,1])=true by kernel_rfl]at h
theorem zim:uG pD [dM xW,.sl .int [2,1]] (.tup [dB false,dI 0]):=by
 have h:=NY xW [2,1]
 rwa[show H9 xW [2,1]=0 by kernel_rfl,show orB 0 (wholeM xW [2,1])=false by kernel_rfl]at h
theorem zeg:uG fS [dM xW,dI 0] (.tup [.sl .int [0,1],dI 0]):=by
 have h:=H7 xW 0
 rwa[show U6 xW 0=0 by kernel_rfl,show zih 0 (yE (yL xW 0) xW.vars.length)=[0,1] by kernel_rfl]at h
theorem zbY:uG tI [dM xW] (dI 0):=by
 have h:=pG xW
 rwa[show yR xW=0 by kernel_rfl]at h
theorem VB:uG pY [] (dB true):=
 WP λok=>by
  rw[Vn];exact zG oy (fy (t:=.bool) (u:=.int) zbX (zG oy (fy (t:=.bool) (u:=.int) zim (zG oy (fy (t:=.list .int) (u:=.int) zeg (zG oy (zG zbY (zG (qI _ _) rfl))))))))
structure iP (s:List (List Int))(nv:Nat):Prop where
 len:s.length=nv
 near:∀v:Nat,∀n∈s.getD v [],-50≤n∧n≤50
 rise:∀l∈s,l.Pairwise (·<·)
theorem iP.nodup{s:List (List Int)}{nv:Nat}(h:iP s nv)(v:Nat):(s.getD v []).Nodup:=by
 by_cases hv:v<s.length
 ·rw[yA _ hv]
  exact(h.rise _ (List.getElem_mem hv)).imp fun {a b} hab=>by omega
 ·rw[sU (by omega)];exact List.nodup_nil
theorem iP.row{s:List (List Int)}{nv:Nat}(h:iP s nv)(v:Nat):(s.getD v []).length≤101:=
 Zr (h.nodup v) (lo:= -50) λn hn=>by have:=h.near v n hn;omega
theorem Yd{m:zD}{s:List (List Int)}(hm:Right m)(h:jW m s=0):iP s m.vars.length:=by
 obtain⟨h1,h2,h3⟩:=Wq.1 h;refine⟨h1,λv n hn=> ?_,h3⟩
 have:=h2 v n hn
 by_cases hv:v<m.vars.length
 ·rw[yA _ hv]at this
  have:=hm.lohi _ (List.getElem_mem hv);omega
 ·rw[sU (by omega)]at hn;cases hn
theorem iP.keep{s:List (List Int)}{nv:Nat}{f:Nat→Int→Bool}(h:iP s nv):iP (rX f s) nv:=by
 refine⟨uE.trans h.len,λv n hn=> ?_,λl hl=> ?_⟩
 ·rw[uD,List.mem_filter]at hn;exact h.near v n hn.1
 ·obtain⟨i,hi,rfl⟩:=List.getElem_of_mem hl
  have hi':i<s.length:=by rw[uE]at hi;exact hi
  simp only[rX,List.getElem_mapIdx];exact(h.rise _ (List.getElem_mem hi')).filter _
theorem Mc(t:yZ)(v:Int):uG gY [.agg [dI t.v,dI t.times],.iptr [dI v] 0] (dB (decide (t.v=v))):=
 Ox t v λok=>by rw[Mb]
theorem zdg:∀ {a b:List Int},a.length=b.length→(a.zip b).map Prod.fst=a
 |[],[],_=>rfl
 |x::a,y::b,h=>by rw[List.zip_cons_cons,List.map_cons,zdg (by simpa using h)]
 |[],_::_,h=>by simp at h
 |_::_,[],h=>by simp at h
theorem JE{c:zF}{nv:Nat}(hc:vB c nv)(hk:c.kind≤3):uG bM [dC c] (.sl .term (wT c)):=
 LV c λok=>by
  obtain⟨f1,f2⟩:=hc.formC.sums hk;have hm:=hc.many;have hz:(c.vars.zip c.consts).length=c.vars.length:=by rw[List.length_zip];omega
  rw[JC];refine up (I:=λn v a=>kZ c _ n v a) 0 c.vars.length rfl (Nat.zero_le _) (by omega) (λk a=>a=mP ((c.vars.zip c.consts).take k)) rfl λn k a _ hk2 ha hn=> ?_
  subst ha;rw[Ou]
  by_cases h:k<c.vars.length
  ·have hk3:k<c.consts.length:=by omega
   have hzk:k<(c.vars.zip c.consts).length:=by omega
   have hst:mP ((c.vars.zip c.consts).take (k+1))=YT (mP ((c.vars.zip c.consts).take k)) c.vars[k] c.consts[k]:=by
    rw[←List.take_append_getElem hzk,cM,List.getElem_zip]
   have hlen:(mP ((c.vars.zip c.consts).take k)).length≤k:=Nat.le_trans (Gq _) (by rw[List.length_take];omega)
   have hcb:=hc.consts _ (List.getElem_mem hk3);have htm:=N3 ((c.vars.zip c.consts).take k) λx hx=>hc.consts x.2 (List.of_mem_zip (List.mem_of_mem_take hx)).2
   generalize mP ((c.vars.zip c.consts).take k)=o at hst hlen htm⊢
   rw[yK h,zX (t:=.int) h,zX (t:=.int) hk3];refine⟨zM h,zG (sE (p:=λt=>decide (t.v=c.vars[k])) P0 λt ht=>Mc t _) ?_⟩
   rcases Gj (λt:yZ=>decide (t.v=c.vars[k])) o 0 with⟨e,h2⟩|⟨j,hj,e,h2,h3⟩
   ·rw[e]
    refine dt (by decide) ⟨zM hk3,xX (t:=.term) ?_,hn h _ ?_⟩
    ·show(_+1)*16≤_;omega
    ·rw[hst,AW λt ht=>of_decide_eq_false (h2 t ht)]
   ·rw[e,Int.zero_add]
    refine df (show¬((j:Int)<0) by omega) ?_
    rw[zX (t:=.term) hj];refine⟨zM hj,zM hk3,zM hj,hn h _ ?_⟩;have:=htm _ (List.getElem_mem hj);rw[List.length_take]at this
    rw[hst,AX hj (of_decide_eq_true h2) λi hi=>of_decide_eq_false (h3 i hi),rE (by omega) (by omega),Int.toNat_natCast]
  ·have hk':k=c.vars.length:=by omega
   subst hk';rw[zW,←hz,List.take_length];rfl
def Gw(l row:List Int)(k:Int):List Int:=Lib.compact (aE (l.flatMap λa=>row.map λn=>a+k*n))
theorem DB{l row:List Int}{k x:Int}:x∈Gw l row k↔∃a∈l,∃n∈row,x=a+k*n:=by
 rw[Gw,SY,(List.mergeSort_perm _ _).mem_iff,List.mem_flatMap];constructor
 ·rintro⟨a,ha,h⟩
  obtain⟨n,hn,e⟩:=List.mem_map.1 h;exact⟨a,ha,n,hn,e.symm⟩
 ·rintro⟨a,ha,n,hn,e⟩
  exact⟨a,ha,List.mem_map.2 ⟨n,hn,e.symm⟩⟩
theorem Wz{α β:Type}{f:α→List β}{b:Nat}:∀ {l:List α},(∀a∈l,(f a).length≤b)→(l.flatMap f).length≤l.length*b
 |[],_=>by simp
 |a::l,h=>by
  rw[List.flatMap_cons,List.length_append,List.length_cons,Nat.add_mul,Nat.one_mul];have h1:=h a (List.mem_cons_self ..);have h2:=Wz λx hx=>h x (List.mem_cons_of_mem _ hx)
  omega
theorem zeh{l row:List Int}{k:Int}{b:Nat}(h:row.length≤b):(Gw l row k).length≤l.length*b:=by
 rw[Gw];refine Nat.le_trans (H5 _) ?_;rw[aE,List.length_mergeSort];exact Wz λa _=>by rw[List.length_map];exact h
theorem Md{α β:Type}(f:α→List β){xs:List α}{k:Nat}(h:k<xs.length):(xs.take (k+1)).flatMap f=(xs.take k).flatMap f++f xs[k]:=by
 rw[←List.take_append_getElem h,List.flatMap_append,List.flatMap_cons,List.flatMap_nil,List.append_nil]
theorem Gx{l:List Int}{s:List (List Int)}{nv:Nat}{t:yZ}(hs:iP s nv)(hv:0≤t.v∧t.v<nv)(ht: -4000≤t.times∧t.times≤4000)(hl:∀a∈l,-4000000≤a∧a≤4000000)(hll:l.length≤1000000000):
  uG ZB [.sl .int l,dS s,.agg [dI t.v,dI t.times]] (.sl .int (Gw l (s.getD t.v.toNat []) t.times)):=
 JD l s t λok=>by
  have hvl:t.v.toNat<s.length:=by have:=hs.len;omega
  have hrow:=hs.row t.v.toNat;have hnear:=hs.near t.v.toNat;have hat:zR (.list .int) s t.v.toNat=s.getD t.v.toNat []:=rfl;generalize s.getD t.v.toNat []=row at hrow hnear hat⊢
  have hfl:∀k,((l.take k).flatMap λa=>row.map λn=>a+t.times*n).length≤l.length*101:=λk=>by
   refine Nat.le_trans (Wz (b:=101) λa _=>by rw[List.length_map];exact hrow) ?_
   rw[List.length_take];exact Nat.mul_le_mul_right _ (by omega)
  rw[Gv];refine up (I:=λn v a=>aJ l s t _ n v a) 0 l.length rfl (Nat.zero_le _) (by omega) (λk a=>a=(l.take k).flatMap λa=>row.map λn=>a+t.times*n) (by simp) λn k a _ hk ha hn=> ?_
  subst ha;rw[Ma]
  by_cases h:k<l.length
  ·rw[yK h]
   refine⟨zM h,vE.2 (by have:=hs.len;omega),?_⟩
   refine up (I:=λn2 v a=>aI l s t _ n (k:Int) n2 v a) 0 row.length rfl (Nat.zero_le _) (by omega) (λj a=>a=((l.take k).flatMap λa=>row.map λn=>a+t.times*n)++(row.take j).map λn=>l[k]+t.times*n) (by simp) λn2 j a _ hj ha2 hn2=> ?_
   subst ha2;rw[N9,hat]
   by_cases h2:j<row.length
   ·have b1:=hl _ (List.getElem_mem h)
    have b2:=hnear _ (List.getElem_mem h2)
    have b3: -200000≤t.times*row[j]∧t.times*row[j]≤200000:=by
     have:(t.times*row[j]).natAbs≤4000*50:=by rw[Int.natAbs_mul];exact Nat.mul_le_mul (by omega) (by omega)
     omega
    rw[yK h2,zX (t:=.int) h,zX (t:=.int) h2,rE (n:=t.times*row[j]) (by omega) (by omega),rE (by omega) (by omega)]
    refine⟨zM h2,xX (t:=.int) ?_,hn2 h2 _ ?_⟩
    ·have:=hfl k
     rw[List.length_append,List.length_map,List.length_take];show(_+1)*8≤_
     omega
    ·rw[Z1 _ h2,List.append_assoc]
   ·have hj':j=row.length:=by omega
    subst hj';rw[zW,List.take_length];exact hn h _ (Md _ h).symm
  ·have hk':k=l.length:=by omega
   subst hk';rw[zW,List.take_length];exact⟨_,LF _,_,Ut _,rfl⟩
def cO(s:List (List Int))(us:List yZ):List Int:=us.foldl (λall u=>Gw all (s.getD u.v.toNat []) u.times) [0]
theorem Ux{s:List (List Int)}{us:List yZ}{u:yZ}:cO s (us++[u])=Gw (cO s us) (s.getD u.v.toNat []) u.times:=by rw[cO,List.foldl_append];rfl
theorem zei{s:List (List Int)}(hf:zT s=false){x:Int}(us:List yZ):(∀t∈us,0≤t.v∧t.v.toNat<s.length)→(us.map yZ.v).Nodup→(x∈cO s us↔KF us s x):=by
 refine jM (C:=λus=>∀x,(∀t∈us,0≤t.v∧t.v.toNat<s.length)→(us.map yZ.v).Nodup→(x∈cO s us↔KF us s x)) (λx _ _=> ?_) (λus u ih x h1 h2=> ?_) us x
 ·rw[zee hf];exact List.mem_singleton
 ·rw[List.map_append,List.nodup_append]at h2
  have hu:=h1 u (by simp)
  rw[Ux,DB,zbU hu.1 hu.2 (λt ht=>(h1 t (by simp[ht])).1) (λhm=>h2.2.2 _ hm _ (by simp) rfl)]
  have h3:∀a,a∈cO s us↔KF us s a:=λa=>ih a (λt ht=>h1 t (by simp[ht])) h2.1
  exact⟨λ⟨a,ha,r⟩=>⟨a,(h3 a).1 ha,r⟩,λ⟨a,ha,r⟩=>⟨a,(h3 a).2 ha,r⟩⟩
theorem Gy{s:List (List Int)}{nv:Nat}(hs:iP s nv)(us:List yZ):(∀t∈us,-4000≤t.times∧t.times≤4000)→∀x∈cO s us,-200000*(us.length:Int)≤x∧x≤200000*(us.length:Int):=by
 refine jM (C:=λus=>(∀t∈us,-4000≤t.times∧t.times≤4000)→∀x∈cO s us,-200000*(us.length:Int)≤x∧x≤200000*(us.length:Int)) (λ_ x hx=> ?_) (λus u ih h1 x hx=> ?_) us
 ·have:x=0:=List.mem_singleton.1 hx
  subst this;decide
 ·rw[Ux,DB]at hx
  obtain⟨a,ha,n,hn,rfl⟩:=hx;have h2:=ih (λt ht=>h1 t (by simp[ht])) a ha
  have h3:=h1 u (by simp)
  have h4:=hs.near _ n hn
  have b3: -200000≤u.times*n∧u.times*n≤200000:=by
   have:(u.times*n).natAbs≤4000*50:=by rw[Int.natAbs_mul];exact Nat.mul_le_mul (by omega) (by omega)
   omega
  rw[List.length_append,List.length_singleton];omega
theorem zej{s:List (List Int)}{nv:Nat}(hs:iP s nv)(us:List yZ):(cO s us).length≤101^us.length:=by
 refine jM (C:=λus=>(cO s us).length≤101^us.length) (Nat.le_refl _) (λus u ih=> ?_) us
 rw[Ux,List.length_append,List.length_singleton,Nat.pow_succ];exact Nat.le_trans (zeh (hs.row _)) (Nat.mul_le_mul_right _ ih)
def JF(s:List (List Int))(ts:List yZ):List (Int×List Int):=ts.mapIdx λi t=>(t.v,cO s (ts.eraseIdx i))
theorem Me{c:zF}{nv:Nat}(hc:vB c nv):∀t∈wT c,-4000≤t.times∧t.times≤4000:=λt ht=>by
 have h:=N3 (c.vars.zip c.consts) (λx hx=>hc.consts x.2 (List.of_mem_zip hx).2) t ht
 have:=hc.many;rw[List.length_zip]at h
 omega
theorem Gz{c:zF}{nv:Nat}(hc:vB c nv):(wT c).length≤4:=by
 have h:=Gq (c.vars.zip c.consts);have:=hc.many;rw[List.length_zip]at h
 exact Nat.le_trans h (by omega)
theorem GA{ts:List yZ}{f:Nat→yZ→List Int}:(ts.mapIdx λi t=>(t.v,f i t)).map Prod.fst=ts.map yZ.v:=by
 apply List.ext_getElem
 ·simp
 ·intro i h1 h2;simp
theorem LW{c:zF}{s:List (List Int)}(hc:vB c s.length)(hk:c.kind≤3)(hs:iP s s.length):
  xD eS [dC c,dS s] [] (.clo rI none [.iptr [.sl .term (wT c)] 0,.iptr [.mp .int (.list .int) (JF s (wT c))] 0,.iptr [.int .i64 c.kind,.sl .int c.vars,.sl .int c.consts,.int .i64 c.n,.sl (.list .int) c.rows,.sl .lit c.lits] 0]) []:=
 N6 c s λok _=>by
  have h4:=Gz hc;have hv:=Ot hc;have htm:=Me hc;have hnd:((wT c).map yZ.v).Nodup:=Uv _;rw[LQ];refine zG (JE hc hk) ?_;generalize hts:wT c=ts at h4 hv htm hnd⊢
  have hlm:JF s ts=ts.mapIdx λi t=>(t.v,cO s (ts.eraseIdx i)):=rfl
  refine up (I:=λn v a=>fm c s _ ts n v ts a) 0 ts.length rfl (Nat.zero_le _) (by omega) (λi a=>a=(ts.take i).mapIdx λi t=>(t.v,cO s (ts.eraseIdx i))) rfl λn i a _ hi ha hn=> ?_
  subst ha;rw[QP]
  by_cases h:i<ts.length
  ·rw[yK h,zX (t:=.term) h]
   refine⟨zM h,?_⟩;refine up (I:=λn2 v a=>mQ c s _ ts n (i:Int) ts _ n2 a v ts _ _) 0 ts.length rfl (Nat.zero_le _) (by omega) (λk a=>a=cO s ((ts.take k).eraseIdx i)) rfl λn2 k a _ hk2 ha2 hn2=> ?_
   subst ha2;rw[QO]
   by_cases h2:k<ts.length
   ·rw[yK h2,zX (t:=.term) h2]
    refine⟨zM h2,?_⟩;have est:=zbV (l:=ts) (i:=i) h2
    by_cases e:k=i
    ·refine BA (show(k:Int)=(i:Int) by omega) (hn2 h2 _ ?_)
     rw[est,if_pos e]
    ·refine dnt (show¬(k:Int)=(i:Int) by omega) ?_
     have hsub:((ts.take k).eraseIdx i).Sublist ts:=(List.eraseIdx_sublist ..).trans (List.take_sublist ..);have hul:((ts.take k).eraseIdx i).length≤4:=Nat.le_trans hsub.length_le h4;have hb:=Gy hs ((ts.take k).eraseIdx i) λt ht=>htm t (hsub.subset ht)
     refine zG (Gx hs (hv _ (List.getElem_mem h2)) (htm _ (List.getElem_mem h2)) (λa ha=>by have:=hb a ha;omega) ?_) (hn2 h2 _ ?_)
     ·exact Nat.le_trans (zej hs _) (Nat.le_trans (Nat.pow_le_pow_right (by decide) hul) (by decide))
     ·rw[est,if_neg e,Ux]
   ·have hk':k=ts.length:=by omega
    subst hk';rw[zW,List.take_length];have hml:((ts.take i).mapIdx λi t=>(t.v,cO s (ts.eraseIdx i))).length=i:=by rw[List.length_mapIdx,List.length_take];omega
    refine⟨decide_eq_true (by rw[hml];omega),hn h _ ?_⟩
    rw[Ab _ h];refine N0 (kt:=.int) (vt:=.list .int) kY _ ?_;cases e:tD .int (.list .int) ts[i].v ((ts.take i).mapIdx λi t=>(t.v,cO s (ts.eraseIdx i)))with
    |none=>rfl
    |some k=>
     have h5:=(Yc (kt:=.int) (vt:=.list .int) kY _).2 ⟨k,e⟩;rw[GA]at h5
     have h6:ts.map yZ.v=(ts.take i).map yZ.v++(ts.drop i).map yZ.v:=by rw[←List.map_append,List.take_append_drop]
     rw[h6,List.nodup_append]at hnd
     exact absurd rfl (hnd.2.2 _ h5 ts[i].v (List.mem_map.2 ⟨ts[i],by rw[List.drop_eq_getElem_cons h];exact List.mem_cons_self ..,rfl⟩))
  ·have hi':i=ts.length:=by omega
   subst hi';rw[zW,List.take_length,hlm];exact⟨rfl,rfl⟩
theorem Re(t:yZ)(v:Int):uG mD [.agg [dI t.v,dI t.times],.iptr [dI v] 0] (dB (decide (t.v=v))):=
 TH t v λok=>by rw[Ra]
theorem Rf{c:zF}{t:yZ}{a n:Int}(ht: -4000≤t.times∧t.times≤4000)(hn: -50≤n∧n≤50)(ha: -4000000≤a∧a≤4000000):uG mE [dI a,.iptr [.int .i64 c.kind,.sl .int c.vars,.sl .int c.consts,.int .i64 c.n,.sl (.list .int) c.rows,.sl .lit c.lits] 0,.iptr [dI t.v,dI t.times] 0,.iptr [dI n] 0] (dB (A3 c (a+t.times*n))):=
 TI a c t n λok=>by
  have b3: -200000≤t.times*n∧t.times*n≤200000:=by
   have:(t.times*n).natAbs≤4000*50:=by rw[Int.natAbs_mul];exact Nat.mul_le_mul (by omega) (by omega)
   omega
  rw[Rb,rE (n:=t.times*n) (by omega) (by omega),rE (by omega) (by omega)]
  exact zG (Nz c _) rfl
theorem Oy{c:zF}{s:List (List Int)}(hc:vB c s.length)(hk:c.kind≤3)(hs:iP s s.length)(hf:zT s=false){v n:Int}(hv:v∈c.vars)(hn:n∈s.getD v.toNat []):
  uG rI [dI v,dI n,.iptr [.sl .term (wT c)] 0,.iptr [.mp .int (.list .int) (JF s (wT c))] 0,.iptr [.int .i64 c.kind,.sl .int c.vars,.sl .int c.consts,.int .i64 c.n,.sl (.list .int) c.rows,.sl .lit c.lits] 0] (dB (mayB (wH c) s v.toNat n)):=
 QQ v n (wT c) (JF s (wT c)) c λok=>by
  have hvv:=Ot hc;have htm:=Me hc;have hnd:((wT c).map yZ.v).Nodup:=Uv _;rw[Ov];refine zG (sE (p:=λt=>decide (t.v=v)) Tn λt ht=>Re t _) ?_
  rcases Gj (λt:yZ=>decide (t.v=v)) (wT c) 0 with⟨e,h2⟩|⟨j,hj,e,h2,h3⟩
  ·obtain⟨f1,f2⟩:=hc.formC.sums hk
   have:v∈(wT c).map yZ.v:=by
    rw[wT,Gp,zdg f2.symm];exact hv
   obtain⟨t,ht,rfl⟩:=List.mem_map.1 this;exact absurd rfl (of_decide_eq_false (h2 t ht))
  ·have h2:(wT c)[j].v=v:=of_decide_eq_true h2
   rw[e,Int.zero_add,zX (t:=.term) hj]
   have hg:tD .int (.list .int) v (JF s (wT c))=some (cO s ((wT c).eraseIdx j)):=by
    refine Bb (kt:=.int) (vt:=.list .int) kY _ (by rw[JF,GA];exact hnd) ?_
    have hjl:j<(JF s (wT c)).length:=by rw[JF,List.length_mapIdx];exact hj
    have:(JF s (wT c))[j]=(v,cO s ((wT c).eraseIdx j)):=by simp only[JF,List.getElem_mapIdx];rw[h2]
    rw[←this];exact List.getElem_mem hjl
   have hgd:nU .int (.list .int) v (JF s (wT c))=cO s ((wT c).eraseIdx j):=by rw[nU,hg];rfl
   rw[hgd];have hsub:((wT c).eraseIdx j).Sublist (wT c):=List.eraseIdx_sublist ..;have hb:=Gy hs ((wT c).eraseIdx j) λt ht=>htm t (hsub.subset ht)
   have hlen:=Nat.le_trans hsub.length_le (Gz hc);refine⟨zM hj,zG (wU (p:=λa=>A3 c (a+(wT c)[j].times*n)) To λa ha=>Rf (htm _ (List.getElem_mem hj)) (hs.near _ n hn) (by have:=hb a ha;omega)) ?_⟩
   congr 1
   rw[Bool.eq_iff_iff,pU,List.any_eq_true];have h5:=zil (c:=c) (s:=s) hc hk hj (n:=n) (by rw[h2];exact hn)
   rw[h2]at h5
   rw[h5];have hmem:∀a,a∈cO s ((wT c).eraseIdx j)↔KF ((wT c).eraseIdx j) s a:=λa=>zei hf _ (λt ht=>by have:=hvv t (hsub.subset ht);omega) (hnd.sublist (hsub.map _))
   exact⟨λ⟨a,h6,h7⟩=>⟨a,(hmem a).1 h6,h7⟩,λ⟨a,h6,h7⟩=>⟨a,(hmem a).2 h6,h7⟩⟩
def eI(s:List (List Int))(vars:List Int):List (List Int):=vars.map λv=>s.getD v.toNat []
theorem Y8{s:List (List Int)}{vars:List Int}:(eI s vars).length=vars.length:=List.length_map ..
theorem GB{s:List (List Int)}{vars:List Int}{i:Nat}(h:i<vars.length):(eI s vars).getD i []=s.getD (vars.getD i 0).toNat []:=by
 rw[yA _ (by rw[Y8];exact h),yA _ h];simp[eI]
abbrev hpF(s:List (List Int))(vars:List Int)(turn:Int)(m a:KV):List (Nat×yI):=[(1000,.cells [dS s,.sl .int vars,.own 1001,.own 1002,dI turn]),(1001,.mp .int .int m),(1002,.mp .int .int a)]
def zgE(s:List (List Int))(vars:List Int)(turn i:Int)(m a:KV)(b:Bool)(m' a':KV):Prop:=
 (b=true→Gi (eI s vars) turn i m a m' a')∧(b=false→m'=m∧N2 (eI s vars) turn m a ((eI s vars).getD i.toNat []) a')
theorem GC{n:Int}{m:KV}:Pz .int .int n m=(tD .int .int n m).isSome:=rfl
theorem DC{s:List (List Int)}{vars:List Int}{turn i:Int}{m a0:KV}(ht:1≤turn)(hm:LN (eI s vars) m)(hi:0≤i∧i<vars.length)
  (near:∀r∈eI s vars,∀n∈r,-50≤n∧n≤50) (len:∀r∈eI s vars,r.length≤101)
  (rec:∀(a:KV) (k:Int),left turn a<left turn a0→aG turn a→0≤k→k<vars.length→∃b m' a',xD sB [.ptr 1000 0,dI k] (hpF s vars turn m a) (.bool b) (hpF s vars turn m' a')∧zgE s vars turn k m a b m' a'):
  ∀(e j:Nat),j+e=(s.getD (vars.getD i.toNat 0).toNat []).length→∀a,N2 (eI s vars) turn m a0 ((s.getD (vars.getD i.toNat 0).toNat []).take j) a→
   ∃b m' a' n,rO s vars i (λd h1=>d=.bool b∧h1=hpF s vars turn m' a') n (j:Int) s vars turn m a∧zgE s vars turn i m a0 b m' a':=by
 have hil:i.toNat<vars.length:=by omega
 have hrow:=GB (s:=s) hil;have hrl:i.toNat<(eI s vars).length:=by rw[Y8];exact hil
 have hir:0≤i∧i<(eI s vars).length:=by rw[Y8];exact hi
 have hnr:∀n∈s.getD (vars.getD i.toNat 0).toNat [],-50≤n∧n≤50:=λn hn=>by
  rw[←hrow,yA _ hrl]at hn
  exact near _ (List.getElem_mem hrl) n hn
 have hlr:(s.getD (vars.getD i.toNat 0).toNat []).length≤101:=by
  rw[←hrow,yA _ hrl];exact len _ (List.getElem_mem hrl)
 have hat:zR (.list .int) s ((zR .int vars i.toNat).toNat)=s.getD (vars.getD i.toNat 0).toNat []:=rfl;intro e
 induction e with
 |zero=>
  intro j hj a ha;refine⟨false,m,a,1,?_,λh=>(by cases h),λ_=>⟨rfl,?_⟩⟩
  ·rw[tT,hat,show j=(s.getD (vars.getD i.toNat 0).toNat []).length by omega,zW]
   exact⟨rfl,rfl⟩
  ·rw[hrow]
   rwa[show j=(s.getD (vars.getD i.toNat 0).toNat []).length by omega,List.take_length]at ha
 |succ e ih=>
  intro j hj a ha;generalize hR:s.getD (vars.getD i.toNat 0).toNat []=row at hrow hat hnr hlr hj ha ih
  have hjl:j<row.length:=by omega
  have hnj:=hnr _ (List.getElem_mem hjl);have hw:yW ((j:Int)+1)=((j+1:Nat):Int):=fG (by omega)
  have hst:row.take (j+1)=row.take j++[row[j]]:=(List.take_append_getElem hjl).symm;have hmem:row[j]∈(eI s vars).getD i.toNat []:=by rw[hrow];exact List.getElem_mem hjl
  by_cases hask:Pi turn a row[j]
  ·obtain⟨b,m',a',n,h1,h2⟩:=ih (j+1) (by omega) a (by rw[hst];exact zbP ha hask)
   refine⟨b,m',a',n+1,?_,h2⟩;rw[tT,hat,yK hjl,zX (t:=.int) hjl];refine⟨zM hjl,dt hask ?_⟩;rw[hw];exact h1
  ·have hal:a.length≤101:=ha.ask.length
   have hml:m.length≤101:=hm.length near;have hap:=ha.ask.put hnj ht;cases hg:tD .int .int row[j] m with
   |none=>
    refine⟨true,_,_,1,?_,λ_=>(zbN hm ha.ask ht hnj ⟨hi.1,hir.2,hmem⟩ hask hg).start ha.more,λh=>(by cases h)⟩
    rw[tT,hat,yK hjl,zX (t:=.int) hjl];refine⟨zM hjl,df hask ⟨decide_eq_true (by omega),?_⟩⟩
    rw[GC,hg];exact⟨decide_eq_true (by omega),rfl,rfl⟩
   |some k=>
    have hk:=hm.ok _ _ hg;rw[Y8]at hk
    have hlt:left turn (tQ .int .int row[j] turn a)<left turn a0:=Nat.lt_of_lt_of_le (zik hnj hask) (zeb ha.more);obtain⟨b,m2,a2,hs,p1,p2⟩:=rec _ k hlt hap hk.1 hk.2.1;have hgd:nU .int .int row[j] m=k:=by rw[nU,hg];rfl
    cases b with
    |true=>
     have hfd:=p1 rfl;refine⟨true,_,_,1,?_,λ_=>(zbO ⟨hi.1,hir.2,hmem⟩ hask hg hfd).start ha.more,λh=>(by cases h)⟩
     rw[tT,hat,yK hjl,zX (t:=.int) hjl];refine⟨zM hjl,df hask ⟨decide_eq_true (by omega),?_⟩⟩
     rw[GC,hg,hgd];have:=hfd.ok.length near;exact⟨true,m2,a2,hs,decide_eq_true (by omega),rfl,rfl⟩
    |false=>
     obtain⟨rfl,htr⟩:=p2 rfl;obtain⟨b,m',a',n,h1,h2⟩:=ih (j+1) (by omega) a2 (by rw[hst];exact zbQ ha hg htr)
     refine⟨b,m',a',n+1,?_,h2⟩;rw[tT,hat,yK hjl,zX (t:=.int) hjl];refine⟨zM hjl,df hask ⟨decide_eq_true (by omega),?_⟩⟩
     rw[GC,hg,hgd];refine⟨false,m2,a2,hs,?_⟩;rw[hw];exact h1
theorem Uy{s:List (List Int)}{vars:List Int}{turn:Int}(ht:1≤turn)(hv:∀v∈vars,0≤v∧v<s.length)(near:∀r∈eI s vars,∀n∈r,-50≤n∧n≤50)(len:∀r∈eI s vars,r.length≤101):
  ∀(d:Nat) (m a:KV) (i:Int),left turn a≤d→LN (eI s vars) m→aG turn a→0≤i→i<vars.length→
   ∃b m' a',xD sB [.ptr 1000 0,dI i] (hpF s vars turn m a) (.bool b) (hpF s vars turn m' a')∧zgE s vars turn i m a b m' a':=by
 intro d
 induction d with
 |zero=>
  intro m a i hd hm ha h0 h1;obtain⟨b,m',a',n,h2,h3⟩:=DC ht hm ⟨h0,h1⟩ near len (a0:=a) (λa k hl _ _ _=>absurd hl (by omega)) _ 0 (Nat.zero_add _) a (Dv ha)
  refine⟨b,m',a',cN s vars turn m a i λ_ _=> ?_,h3⟩
  rw[aK];exact⟨vE.2 (by omega),vE.2 (by have:=hv (zR .int vars i.toNat) (by rw[atN (t:=.int) (show i.toNat<vars.length by omega)];exact List.getElem_mem _);omega),n,h2⟩
 |succ d ih=>
  intro m a i hd hm ha h0 h1;obtain⟨b,m',a',n,h2,h3⟩:=DC ht hm ⟨h0,h1⟩ near len (a0:=a) (λa' k hl hok hk0 hk1=>ih m a' k (by omega) hm hok hk0 hk1) _ 0 (Nat.zero_add _) a (Dv ha)
  refine⟨b,m',a',cN s vars turn m a i λ_ _=> ?_,h3⟩
  rw[aK];exact⟨vE.2 (by omega),vE.2 (by have:=hv (zR .int vars i.toNat) (by rw[atN (t:=.int) (show i.toNat<vars.length by omega)];exact List.getElem_mem _);omega),n,h2⟩
theorem A6{α:Type}{l:List α}(h:l.Nodup){i j:Nat}(hi:i<l.length)(hj:j<l.length)(e:l[i]=l[j]):i=j:=by
 rcases Nat.lt_trichotomy i j with h1|h1|h1
 ·exact absurd e (List.pairwise_iff_getElem.1 h i j hi hj h1)
 ·exact h1
 ·exact absurd e.symm (List.pairwise_iff_getElem.1 h j i hj hi h1)
theorem Mf{c:zF}(hk:c.kind=4){vs:List Int}:wH c vs=decide (uW c vs).Nodup:=by
 rw[wH];simp[hk]
theorem zbZ{c:zF}{s:List (List Int)}(hc:vB c s.length)(hk:c.kind=4)(hnd:c.vars.Nodup)(hf:zT s=false){v n:Int}(hv:v∈c.vars)(hn:n∈s.getD v.toNat []):
  May (wH c) s v.toNat n↔∃σ:Nat→Int,(∀j,j<c.vars.length→σ j∈(eI (s.set v.toNat [n]) c.vars).getD j [])∧∀j k,j<c.vars.length→k<c.vars.length→σ j=σ k→j=k:=by
 have hvv:=hc.vars v hv;have hvl:v.toNat<s.length:=by omega
 have hset:∀u:Nat,(s.set v.toNat [n]).getD u []=if u=v.toNat then[n]else s.getD u []:=λu=>by
  rw[List.getD_eq_getElem?_getD,List.getD_eq_getElem?_getD,List.getElem?_set]
  by_cases e:u=v.toNat
  ·rw[if_pos e.symm,if_pos e,if_pos (by omega)];rfl
  ·rw[if_neg (λx=>e x.symm),if_neg e]
 have hrow:∀(j:Nat) (hj:j<c.vars.length),(eI (s.set v.toNat [n]) c.vars).getD j []=if c.vars[j].toNat=v.toNat then[n]else s.getD c.vars[j].toNat []:=λj hj=>by
  rw[GB hj,hset,yA _ hj]
 constructor
 ·rintro⟨vs,h1,h2,h3⟩
  refine⟨λj=>vs.getD (c.vars.getD j 0).toNat 0,λj hj=> ?_,λj k hj hk2 e=> ?_⟩
  ·rw[hrow j hj]
   show vs.getD (c.vars.getD j 0).toNat 0∈_
   rw[yA _ hj];split
   ·rename_i e;rw[e,h2];exact List.mem_singleton.2 rfl
   ·have:=hc.vars _ (List.getElem_mem hj)
    exact h1.2 _ (by omega)
  ·rw[Mf hk]at h3
   have h4:=of_decide_eq_true h3;refine A6 h4 (by rw[lP];exact hj) (by rw[lP];exact hk2) ?_
   rw[SA hj,SA hk2];simpa only[yA _ hj,yA _ hk2]using e
 ·rintro⟨σ,h1,h2⟩
  obtain⟨ps,hp⟩:=S6 hf;have hg:∀u:Nat,u<s.length→((List.range s.length).map λu:Nat=>if(u:Int)∈c.vars then σ (c.vars.idxOf (u:Int))else ps.getD u 0).getD u 0=if(u:Int)∈c.vars then σ (c.vars.idxOf (u:Int))else ps.getD u 0:=λu hu=>Uw hu
  have hix:∀(j:Nat) (hj:j<c.vars.length),c.vars.idxOf c.vars[j]=j:=λj hj=>by
   have h5:c.vars.idxOf c.vars[j]<c.vars.length:=List.idxOf_lt_length_of_mem (List.getElem_mem hj);exact A6 hnd h5 hj (List.getElem_idxOf h5)
  have hat:∀(j:Nat) (hj:j<c.vars.length),((List.range s.length).map λu:Nat=>if(u:Int)∈c.vars then σ (c.vars.idxOf (u:Int))else ps.getD u 0).getD c.vars[j].toNat 0=σ j:=λj hj=>by
   have:=hc.vars _ (List.getElem_mem hj);rw[hg _ (by omega),Int.toNat_of_nonneg this.1,if_pos (List.getElem_mem hj),hix j hj]
  refine⟨(List.range s.length).map λu:Nat=>if(u:Int)∈c.vars then σ (c.vars.idxOf (u:Int))else ps.getD u 0,⟨by simp,λu hu=> ?_⟩,?_,?_⟩
  ·rw[hg u hu]
   split
   ·rename_i e
    obtain⟨j,hj,e2⟩:=List.getElem_of_mem e;rw[←e2,hix j hj];have h5:=h1 j hj;rw[hrow j hj,e2,Int.toNat_natCast]at h5
    split at h5
    ·rename_i e3;rw[List.mem_singleton.1 h5,e3];exact hn
    ·exact h5
   ·exact hp.2 u hu
  ·obtain⟨j,hj,rfl⟩:=List.getElem_of_mem hv
   rw[hat j hj];have h5:=h1 j hj;rw[hrow j hj,if_pos rfl]at h5
   exact List.mem_singleton.1 h5
  ·rw[Mf hk]
   refine decide_eq_true (List.pairwise_iff_getElem.2 λi j hi hj hij e=> ?_)
   rw[lP]at hi hj
   rw[SA hi,SA hj,hat i hi,hat j hj]at e
   have:=h2 i j hi hj e;omega
theorem A7(s:List (List Int)):xD sH [dS s] [] (.own 3000) [(3000,.row 40 (.list .int) s)]:=
 Zo s λok _=>by
  rw[Z6];intro b hb;refine zA (λe=> ?_) λe=>⟨?_,?_⟩
  ·rw[hb e];exact⟨rfl,rfl⟩
  ·refine xX (t:=.list .int) ?_
   have:=(YE (t:=.list .int) (ME ok)).1;show(0+s.length)*24≤_
   have h8:s.length*24≤140737488355328:=this;omega
  ·exact⟨rfl,rfl⟩
theorem LX(c:zF)(s:List (List Int)):xD eU [dC c,dS s] [] (.clo rJ none [.iptr [dS s] 0,.iptr [.int .i64 c.kind,.sl .int c.vars,.sl .int c.consts,.int .i64 c.n,.sl (.list .int) c.rows,.sl .lit c.lits] 0]) []:=
 N7 c s λ_ _=>by
  rw[LS];exact⟨rfl,rfl⟩
theorem Oz{c:zF}{s:List (List Int)}(hc:vB c s.length)(hk:c.kind=4)(hnd:c.vars.Nodup)(hs:iP s s.length)(hf:zT s=false){v n:Int}(hv:v∈c.vars)(hn:n∈s.getD v.toNat []):
  uG rJ [dI v,dI n,.iptr [dS s] 0,.iptr [.int .i64 c.kind,.sl .int c.vars,.sl .int c.consts,.int .i64 c.n,.sl (.list .int) c.rows,.sl .lit c.lits] 0] (dB (mayB (wH c) s v.toNat n)):=
 QR v n s c λok=>by
  have hvv:=hc.vars v hv;have hm4:=hc.many;have hmay:=zbZ hc hk hnd hf hv hn
  have hset:∀u:Nat,(s.set v.toNat [n]).getD u []=if u=v.toNat then[n]else s.getD u []:=λu=>by
   rw[List.getD_eq_getElem?_getD,List.getD_eq_getElem?_getD,List.getElem?_set]
   by_cases e:u=v.toNat
   ·rw[if_pos e.symm,if_pos e,if_pos (by omega)];rfl
   ·rw[if_neg (λx=>e x.symm),if_neg e]
  have near:∀r∈eI (s.set v.toNat [n]) c.vars,∀x∈r,-50≤x∧x≤50:=λr hr x hx=>by
   obtain⟨u,hu,rfl⟩:=List.mem_map.1 hr;rw[hset]at hx
   split at hx
   ·rw[List.mem_singleton.1 hx];exact hs.near _ n hn
   ·exact hs.near _ x hx
  have len:∀r∈eI (s.set v.toNat [n]) c.vars,r.length≤101:=λr hr=>by
   obtain⟨u,hu,rfl⟩:=List.mem_map.1 hr;rw[hset];split
   ·show 1≤101;decide
   ·exact hs.row _
  have hv2:∀u∈c.vars,0≤u∧u<(s.set v.toNat [n]).length:=λu hu=>by rw[List.length_set];exact hc.vars u hu
  rw[Ow];refine⟨s,A7 s,vE.2 hvv,?_⟩;show∃n0,qM c _ n0 0 ([]:KV) ([]:KV) (s.set v.toNat [n]) c.vars 0
  refine up (I:=λn0 u (a:KV×KV)=>qM c _ n0 u a.1 a.2 (s.set v.toNat [n]) c.vars u) (a:=(([]:KV),([]:KV))) 0 c.vars.length rfl (Nat.zero_le _) (by omega)
   (λk a=>LN (eI (s.set v.toNat [n]) c.vars) a.1∧(a.1.map Prod.snd).Perm (upI k)∧aG (k:Int) a.2) ⟨zgA,List.Perm.refl _,zec⟩ λn0 k a _ hk2 ha hnx=> ?_
  obtain⟨m,a⟩:=a;obtain⟨h1,h2,h3⟩:=ha;show qM c _ (n0+1) (k:Int) m a (s.set v.toNat [n]) c.vars (k:Int)
  rw[TJ]
  by_cases h:k<c.vars.length
  ·rw[yK h]
   have hw:yW ((k:Int)+1)=((k+1:Nat):Int):=fG (by omega)
   have h3':aG ((k+1:Nat):Int) a:=h3.later (by omega)
   obtain⟨b,m',a',q1,q2,q3⟩:=Uy (turn:=((k+1:Nat):Int)) (by omega) hv2 near len _ m a (k:Int) (Nat.le_refl _) h1 h3' (by omega) (by omega)
   rw[hw];refine⟨b,m',a',q1,?_⟩;cases b with
   |false=>
    refine bnt rfl ?_;obtain⟨_,htr⟩:=q3 rfl;rw[Int.toNat_natCast]at htr
    have hno:=zbR h1 h2 (h3.none (by omega) (by omega)) htr
    rw[zbK.2];intro hy;obtain⟨σ,y1,y2⟩:=hmay.1 hy;exact hno ⟨σ,λj hj=>y1 j (by omega),λj k2 hj hk3=>y2 j k2 (by omega) (by omega)⟩
   |true=>
    refine bnf rfl ?_;have hfd:=q2 rfl;have:=hnx h (m',a') ⟨hfd.ok,hfd.vals.trans ((h2.cons _).trans zgB),hfd.ask⟩;rw[hw]at this
    exact this
  ·have hk':k=c.vars.length:=by omega
   subst hk';rw[zW,pU.2];have hall:=zgC h1 (by rw[Y8];exact h2)
   rw[Y8]at hall
   exact hmay.2 hall
abbrev MV:=List ((Int×Int)×Int)
structure WA (nv:Nat)(m:MV):Prop where
 nodup:(m.map Prod.fst).Nodup
 near:∀x∈m.map Prod.fst,(0≤x.1∧x.1<(nv:Int))∧-50≤x.2∧x.2≤50
 one:∀(x:Int×Int) (k:Int),tD (.pr .int .int) .int x m=some k→k=1
theorem zek{nv:Nat}:WA nv []:=⟨List.nodup_nil,λn hn=>(by cases hn),λn t h=>(by cases h)⟩
theorem WA.length{nv:Nat}{m:MV}(h:WA nv m):m.length≤nv*101:=by
 have h1:((m.map Prod.fst).map λx=>x.1*101+x.2+50).Nodup:=RU h.nodup λx hx y hy e=>by
  have a:=h.near x hx;have b:=h.near y hy;have e1:x.1=y.1:=by omega
  exact Prod.ext e1 (by omega)
 have:=Zr h1 (lo:=0) (n:=nv*101) λx hx=>by
  obtain⟨y,hy,rfl⟩:=List.mem_map.1 hx;have a:=h.near y hy;omega
 rwa[List.length_map,List.length_map]at this
theorem WA.put{nv:Nat}{m:MV}(h:WA nv m){x:Int×Int}(hx:(0≤x.1∧x.1<(nv:Int))∧-50≤x.2∧x.2≤50):WA nv (tQ (.pr .int .int) .int x 1 m):=by
 refine⟨Gg (kt:=.pr .int .int) (vt:=.int) RT h.nodup,λy hy=> ?_,λy k hy=> ?_⟩
 ·rcases(Gh (kt:=.pr .int .int) (vt:=.int) RT m).1 hy with rfl|hy
  ·exact hx
  ·exact h.near y hy
 ·by_cases e:y=x
  ·subst e
   rw[Vz (kt:=.pr .int .int) (vt:=.int) RT]at hy
   exact(Option.some.inj hy).symm
  ·rw[XE (kt:=.pr .int .int) (vt:=.int) RT e]at hy;exact h.one y k hy
def WS(vars vs:List Int)(m:MV):MV:=vars.foldl (λm v=>tQ (.pr .int .int) .int (v,vs.getD v.toNat 0) 1 m) m
theorem Rg{vars vs:List Int}{m:MV}{v:Int}:WS (vars++[v]) vs m=tQ (.pr .int .int) .int (v,vs.getD v.toNat 0) 1 (WS vars vs m):=by rw[WS,List.foldl_append];rfl
theorem zb0{vs:List Int}{m:MV}{x:Int×Int}(vars:List Int):x∈(WS vars vs m).map Prod.fst↔x∈m.map Prod.fst∨∃v∈vars,x=(v,vs.getD v.toNat 0):=by
 refine jM (C:=λvars=>x∈(WS vars vs m).map Prod.fst↔x∈m.map Prod.fst∨∃v∈vars,x=(v,vs.getD v.toNat 0)) (by simp[WS]) (λl a ih=> ?_) vars
 rw[Rg,Gh (kt:=.pr .int .int) (vt:=.int) RT,ih];constructor
 ·rintro(h|h|⟨v,hv,h⟩)
  ·exact .inr ⟨a,by simp,h⟩
  ·exact .inl h
  ·exact .inr ⟨v,by simp[hv],h⟩
 ·rintro(h|⟨v,hv,h⟩)
  ·exact .inr (.inl h)
  ·rcases List.mem_append.1 hv with hv|hv
   ·exact .inr (.inr ⟨v,hv,h⟩)
   ·rw[List.mem_singleton.1 hv]at h;exact .inl h
theorem DD{nv:Nat}{vs:List Int}{m:MV}(h:WA nv m)(hn:∀u:Nat,-50≤vs.getD u 0∧vs.getD u 0≤50)(vars:List Int):(∀v∈vars,0≤v∧v<(nv:Int))→WA nv (WS vars vs m):=by
 refine jM (C:=λvars=>(∀v∈vars,0≤v∧v<(nv:Int))→WA nv (WS vars vs m)) (λ_=>h) (λl a ih hv=> ?_) vars
 rw[Rg];exact(ih λv h=>hv v (by simp[h])).put ⟨hv a (by simp),hn _⟩
abbrev hpW(c:zF)(s:List (List Int))(vars vs:List Int)(m:MV):List (Nat×yI):=[(1000,.cells [.int .i64 c.kind,.sl .int c.vars,.sl .int c.consts,.int .i64 c.n,.sl (.list .int) c.rows,.sl .lit c.lits,dS s,.sl .int vars,.own 2000,.own 1001]),(2000,.row 3 .int vs),(1001,.mp (.pr .int .int) .int m)]
structure zgF (c:zF)(s:List (List Int))(vars r vs:List Int)(m:MV)(vs':List Int)(m':MV):Prop where
 len:vs'.length=vs.length
 near:∀u:Nat,-50≤vs'.getD u 0∧vs'.getD u 0≤50
 same:∀u:Nat,(∀v∈r,v.toNat≠u)→vs'.getD u 0=vs.getD u 0
 ok:WA s.length m'
 mem:∀x:Int×Int,x∈m'.map Prod.fst↔x∈m.map Prod.fst∨N4 c s vars r vs x
theorem zel{c:zF}{s:List (List Int)}{vars:List Int}(hs:iP s s.length)(hnv:s.length≤6)(hv:∀v∈vars,0≤v∧v<s.length)(hnd:vars.Nodup){i:Nat}(hi:i<vars.length){vs0:List Int}{m0:MV}(hl0:vs0.length=s.length)
  (rec:∀(vs:List Int) (m:MV),vs.length=s.length→(∀u:Nat,-50≤vs.getD u 0∧vs.getD u 0≤50)→WA s.length m→∃vs' m',xD yV [.ptr 1000 0,dI ((i+1:Nat):Int)] (hpW c s vars vs m) (.tup []) (hpW c s vars vs' m')∧zgF c s vars (vars.drop (i+1)) vs m vs' m'):
  ∀(e j:Nat),j+e=(s.getD vars[i].toNat []).length→∀(vs:List Int) (m:MV),vs.length=s.length→(∀u:Nat,-50≤vs.getD u 0∧vs.getD u 0≤50)→(∀u:Nat,(∀v∈vars.drop i,v.toNat≠u)→vs.getD u 0=vs0.getD u 0)→WA s.length m→
   (∀x:Int×Int,x∈m.map Prod.fst↔x∈m0.map Prod.fst∨∃n∈(s.getD vars[i].toNat []).take j,N4 c s vars (vars.drop (i+1)) (vs0.set vars[i].toNat n) x)→
   ∃vs' m' n,oP s vars (i:Int) (λd h1=>d=.tup []∧h1=hpW c s vars vs' m') n (j:Int) c.kind c.vars c.consts c.n c.rows c.lits s vars m vs∧zgF c s vars (vars.drop i) vs0 m0 vs' m':=by
 have hvi:=hv _ (List.getElem_mem hi);have hdr:vars.drop i=vars[i]::vars.drop (i+1):=List.drop_eq_getElem_cons hi;have hnd2:(vars[i]::vars.drop (i+1)).Nodup:=by rw[←hdr];exact hnd.sublist (List.drop_sublist ..)
 rw[List.nodup_cons]at hnd2
 have hrow:=hs.row vars[i].toNat;have hnr:=hs.near vars[i].toNat;have hat:zR (.list .int) s ((zR .int vars (i:Int).toNat).toNat)=s.getD vars[i].toNat []:=by rw[zX (t:=.int) hi];rfl
 have hpc:∀x,N4 c s vars (vars.drop i) vs0 x↔∃n∈s.getD vars[i].toNat [],N4 c s vars (vars.drop (i+1)) (vs0.set vars[i].toNat n) x:=λx=>by
  rw[hdr];exact zef hvi.1 (by omega) (λu hu=>(hv u (List.mem_of_mem_drop hu)).1) hnd2.1
 generalize hR:s.getD vars[i].toNat []=row at hrow hnr hat hpc
 intro e
 induction e with
 |zero=>
  intro j hj vs m hl hnear hsame hok hmem;refine⟨vs,m,1,?_,hl.trans hl0.symm,hnear,hsame,hok,λx=> ?_⟩
  ·rw[eG,hat,show j=row.length by omega,zW]
   exact⟨rfl,rfl⟩
  ·rw[hmem x,show j=row.length by omega,List.take_length,hpc x]
 |succ e ih=>
  intro j hj vs m hl hnear hsame hok hmem;have hjl:j<row.length:=by omega
  have hvl:vars[i].toNat<vs.length:=by omega
  have hw:yW ((j:Int)+1)=((j+1:Nat):Int):=fG (by omega)
  have hwi:yW ((i:Int)+1)=((i+1:Nat):Int):=fG (by
   have:=Zr hnd (lo:=0) (n:=s.length) λx hx=>by have:=hv x hx;omega
   omega)
  have hset:∀u:Nat,(vs.set vars[i].toNat row[j]).getD u 0=if u=vars[i].toNat then row[j]else vs.getD u 0:=λu=>sD hvl
  obtain⟨vs1,m1,h1,h2⟩:=rec (vs.set vars[i].toNat row[j]) m (by rw[List.length_set];exact hl) (λu=>by
   rw[hset u];split
   ·exact hnr _ (List.getElem_mem hjl)
   ·exact hnear u) hok
  obtain⟨vs',m',n,h3,h4⟩:=ih (j+1) (by omega) vs1 m1 (by rw[h2.len,List.length_set];exact hl) h2.near (λu hu=>by
   rw[h2.same u λv hv=>hu v (by rw[hdr];exact List.mem_cons_of_mem _ hv),hset u,if_neg λe=>hu vars[i] (by rw[hdr];exact List.mem_cons_self ..) e.symm]
   exact hsame u hu) h2.ok λx=>by
    have hp:N4 c s vars (vars.drop (i+1)) (vs.set vars[i].toNat row[j]) x↔N4 c s vars (vars.drop (i+1)) (vs0.set vars[i].toNat row[j]) x:=by
     refine zbW (by rw[List.length_set,List.length_set,hl,hl0]) λu hu=> ?_
     rw[hset u,sD (by omega)]
     split
     ·rfl
     ·rename_i e
      refine hsame u λv hv=> ?_
      rw[hdr]at hv
      rcases List.mem_cons.1 hv with rfl|hv
      ·exact λe2=>e e2.symm
      ·exact hu v hv
    rw[h2.mem x,hmem x,hp,←List.take_append_getElem hjl];simp only[List.mem_append,List.mem_singleton];constructor
    ·rintro((h|⟨n,hn,h⟩)|h)
     ·exact .inl h
     ·exact .inr ⟨n,.inl hn,h⟩
     ·exact .inr ⟨_,.inr rfl,h⟩
    ·rintro(h|⟨n,hn|hn,h⟩)
     ·exact .inl (.inl h)
     ·exact .inl (.inr ⟨n,hn,h⟩)
     ·rw[hn]at h;exact .inr h
  refine⟨vs',m',n+1,?_,h4⟩;rw[eG,hat,yK hjl,zX (t:=.int) hi,zX (t:=.int) hjl,hwi,hw];exact⟨zM hjl,zM hi,vE.2 (by omega),vs1,m1,h1,h3⟩
theorem TK{c:zF}{s:List (List Int)}{vars:List Int}(hc:vB c s.length)(hs:iP s s.length)(hv:∀v∈vars,0≤v∧v<s.length)(hnd:vars.Nodup):
  ∀(d i:Nat),i+d=vars.length→∀(vs:List Int) (m:MV),vs.length=s.length→(∀u:Nat,-50≤vs.getD u 0∧vs.getD u 0≤50)→WA s.length m→∃vs' m',xD yV [.ptr 1000 0,dI (i:Int)] (hpW c s vars vs m) (.tup []) (hpW c s vars vs' m')∧zgF c s vars (vars.drop i) vs m vs' m':=by
 have hnv:=hc.nv6
 have hvl:vars.length≤6:=by
  have:=Zr hnd (lo:=0) (n:=s.length) λx hx=>by have:=hv x hx;omega
  omega
 intro d
 induction d with
 |zero=>
  intro i hi vs m hl hnear hok
  have hgv:UX vs s.length:=⟨hl,λn hn=>by
   obtain⟨u,hu,rfl⟩:=List.getElem_of_mem hn;have:=hnear u
   rwa[yA _ hu]at this⟩
  have hd:vars.drop i=[]:=List.drop_eq_nil_of_le (by omega)
  have hpn:∀x,N4 c s vars (vars.drop i) vs x↔wH c vs=true∧∃v∈vars,x=(v,vs.getD v.toNat 0):=λx=>by rw[hd];exact zgD
  cases ht:wH c vs with
  |false=>
   refine⟨vs,m,kD c.kind c.vars c.consts c.n c.rows c.lits s vars vs m (i:Int) λ_ _=> ?_,rfl,hnear,λ_ _=>rfl,hok,λx=> ?_⟩
   ·rw[iC]
    refine dt (by omega) (zG (eF hc hgv) (bf ht ?_))
    exact⟨rfl,rfl⟩
   ·rw[hpn,ht];simp
  |true=>
   refine⟨vs,WS vars vs m,kD c.kind c.vars c.consts c.n c.rows c.lits s vars vs m (i:Int) λ_ _=> ?_,rfl,hnear,λ_ _=>rfl,DD hok hnear vars hv,λx=> ?_⟩
   ·rw[iC]
    refine dt (by omega) (zG (eF hc hgv) (bt ht ?_))
    refine up (I:=λn v a=>oO c.kind c.vars c.consts c.n c.rows c.lits s vars vs _ n v a) 0 vars.length rfl (Nat.zero_le _) (by omega) (λk a=>a=WS (vars.take k) vs m) rfl λn k a _ hk ha hn=> ?_
    subst ha;rw[WR]
    by_cases h:k<vars.length
    ·have hvk:=hv _ (List.getElem_mem h)
     have hml:=(DD hok hnear (vars.take k) λv hv2=>hv v (List.mem_of_mem_take hv2)).length
     rw[yK h,zX (t:=.int) h];refine⟨zM h,vE.2 (by omega),decide_eq_true (by omega),hn h _ ?_⟩
     rw[←List.take_append_getElem h,Rg];rfl
    ·have hk':k=vars.length:=by omega
     subst hk';rw[zW,List.take_length];exact⟨rfl,rfl⟩
   ·rw[hpn,ht,zb0];simp
 |succ d ih=>
  intro i hi vs m hl hnear hok;have hil:i<vars.length:=by omega
  have hvi:=hv _ (List.getElem_mem hil);obtain⟨vs',m',n,h1,h2⟩:=zel (c:=c) (m0:=m) hs hnv hv hnd hil hl (λvs m a b c=>ih (i+1) (by omega) vs m a b c) _ 0 (Nat.zero_add _) vs m hl hnear (λ_ _=>rfl) hok λx=>by simp
  refine⟨vs',m',kD c.kind c.vars c.consts c.n c.rows c.lits s vars vs m (i:Int) λ_ _=> ?_,h2⟩
  rw[iC];refine df (by omega) ⟨zM hil,?_,n,h1⟩
  rw[zX (t:=.int) hil];exact vE.2 hvi
def zgG(c:zF)(s:List (List Int))(m:MV):Prop:=WA s.length m∧∀v n:Int,(v,n)∈m.map Prod.fst↔v∈yE c s.length∧May (wH c) s v.toNat n
theorem GD{c:zF}{s:List (List Int)}(hc:vB c s.length)(hs:iP s s.length)(hf:zT s=false):
  ∃vs m,zgG c s m∧xD jJ [dC c,dS s] [] (.clo yX none [.iptr [.iptr [.int .i64 c.kind,.sl .int c.vars,.sl .int c.consts,.int .i64 c.n,.sl (.list .int) c.rows,.sl .lit c.lits,dS s,.sl .int (yE c s.length),.sl .int vs,.mp (.pr .int .int) .int m] 0] 0]) []:=by
 have hnv:=hc.nv6
 have hz:∀u:Nat,(List.replicate s.length (0:Int)).getD u 0=0:=λu=>by
  by_cases h:u<s.length
  ·rw[yA _ (by rw[List.length_replicate];exact h),List.getElem_replicate]
  ·exact sU (by rw[List.length_replicate];omega)
 obtain⟨vs,m,h1,h2⟩:=TK (c:=c) (s:=s) (vars:=yE c s.length) hc hs (λv hv=>nK v hv) Wx _ 0 (Nat.zero_add _) (List.replicate s.length 0) [] (List.length_replicate ..) (λu=>by rw[hz u];decide) zek
 refine⟨vs,m,⟨h2.ok,λv n=> ?_⟩,Jz c s λok _=> ?_⟩
 ·rw[h2.mem,List.drop_zero,A4 hc hf (List.length_replicate ..)];simp
 ·rw[Gu]
  refine zG (ZN hc) ?_;rw[Int.toNat_natCast];have hr:wD .int s.length=true:=xX (t:=.int) (by show _*8≤_;omega)
  have h0:(0:Int)≤(s.length:Int):=by omega
  have hE:∃w2:List Int,∃w3:List ((Int×Int)×Int),xD yV [.ptr 1000 0,dI 0] [(1000,.cells [.int .i64 c.kind,.sl .int c.vars,.sl .int c.consts,.int .i64 c.n,.sl (.list .int) c.rows,.sl .lit c.lits,.sl (.list .int) s,.sl .int (yE c s.length),.own 2000,.own 1001]),(2000,.row 3 .int (List.replicate s.length (Ty.dflt .int))),(1001,.mp (.pr .int .int) .int ([]:List ((Int×Int)×Int)))] (.tup []) [(1000,.cells [.int .i64 c.kind,.sl .int c.vars,.sl .int c.consts,.int .i64 c.n,.sl (.list .int) c.rows,.sl .lit c.lits,.sl (.list .int) s,.sl .int (yE c s.length),.own 2000,.own 1001]),(2000,.row 3 .int w2),(1001,.mp (.pr .int .int) .int w3)]∧
    (D.clo yX none [.iptr [.iptr [.int .i64 c.kind,.sl .int c.vars,.sl .int c.consts,.int .i64 c.n,.sl (.list .int) c.rows,.sl .lit c.lits,.sl (.list .int) s,.sl .int (yE c s.length),.sl .int w2,.mp (.pr .int .int) .int w3] 0] 0]=D.clo yX none [.iptr [.iptr [.int .i64 c.kind,.sl .int c.vars,.sl .int c.consts,.int .i64 c.n,.sl (.list .int) c.rows,.sl .lit c.lits,dS s,.sl .int (yE c s.length),.sl .int vs,.mp (.pr .int .int) .int m] 0] 0]∧([]:List (Nat×yI))=[]):=⟨vs,m,h1,rfl,rfl⟩
  repeat'(first|exact hE|exact hr|exact h0|exact rfl|apply And.intro)
theorem LY{c:zF}{s:List (List Int)}{vs:List Int}{m:MV}(h:zgG c s m){v n:Int}(hv:v∈yE c s.length){ks:List D}:
  uG yX [dI v,dI n,.iptr [.iptr [.int .i64 c.kind,.sl .int c.vars,.sl .int c.consts,.int .i64 c.n,.sl (.list .int) c.rows,.sl .lit c.lits,dS s,.sl .int (yE c s.length),.sl .int vs,.mp (.pr .int .int) .int m] 0] 0] (dB (mayB (wH c) s v.toNat n)):=
 N8 v n c s (yE c s.length) vs m λok=>by
  rw[LU];show dB _=dB _
  congr 1
  have hg:nU (.pr .int .int) .int (v,n) m=1↔(v,n)∈m.map Prod.fst:=by
   rw[Yc (kt:=.pr .int .int) (vt:=.int) RT];constructor
   ·intro e
    rw[nU]at e
    cases e2:tD (.pr .int .int) .int (v,n) m with
    |none=>rw[e2]at e;exact absurd e (by decide)
    |some k=>exact⟨k,rfl⟩
   ·rintro⟨k,e⟩
    rw[nU,e,h.1.one _ _ e];rfl
  rw[Bool.eq_iff_iff,decide_eq_true_iff,pU];exact hg.trans ((h.2 v n).trans ⟨λh=>h.2,λh=>⟨hv,h⟩⟩)
theorem A8:∀ {l l':List Int},l'.Nodup→l'⊆l→¬l.Nodup→l'.length<l.length
 |[],l',_,_,h=>absurd List.nodup_nil h
 |x::l,l',h1,h2,h3=>by
  by_cases hx:x∈l
  ·have:l'.length≤l.length:=h1.length_le_of_subset λy hy=>by
    rcases List.mem_cons.1 (h2 hy)with rfl|h
    ·exact hx
    ·exact h
   rw[List.length_cons];omega
  ·have h4:¬l.Nodup:=λh=>h3 (List.nodup_cons.2 ⟨hx,h⟩)
   have h5:=A8 (l:=l) (l':=l'.erase x) (h1.erase x) (λy hy=>by
    have hy2:=List.mem_of_mem_erase hy;rcases List.mem_cons.1 (h2 hy2)with rfl|h
    ·exact absurd hy (by rw[h1.mem_erase_iff];exact λe=>e.1 rfl)
    ·exact h) h4
   have h6:l'.length≤(l'.erase x).length+1:=by rw[List.length_erase];split<;>omega
   rw[List.length_cons];omega
theorem El{l:List Int}:decide ((Lib.compact (aE l)).length<l.length)= !decide l.Nodup:=by
 have hs:=SZ (zda l);have hn:(Lib.compact (aE l)).Nodup:=hs.imp fun {a b} h=>by omega
 have hm:∀x,x∈Lib.compact (aE l)↔x∈l:=λx=>by rw[SY];exact(List.mergeSort_perm _ _).mem_iff
 by_cases h:l.Nodup
 ·rw[decide_eq_true h]
  exact decide_eq_false (by have:=h.length_le_of_subset λx hx=>(hm x).2 hx;omega)
 ·rw[decide_eq_false h]
  exact decide_eq_true (A8 hn (λx hx=>(hm x).1 hx) h)
theorem JG(l:List Int):uG bK [.sl .int l] (dB (!decide l.Nodup)):=
 LR l λok=>by
  rw[JA];refine⟨_,Ol l,_,LF _,_,Ut _,?_⟩;rw[zbu,El]
theorem JH{v n:Int}{sc:List Int}{g:FuncId}{caps:List D}(he:cE g){b:Bool}(hg:gI sc v=true→uG g (dI v::dI n::caps) (dB b))(hb:gI sc v=false→b=true):
  uG rH [dI v,dI n,.iptr [.sl .int sc] 0,.iptr [.clo g none caps] 0] (dB b):=
 Yl.iclo (pre:=[_,_,_]) (LT v n sc g caps λok=>by
  rw[JB];refine zG (vZ (a:=v)) ?_;show zP (!gI sc v) _ _
  refine zA (λe=> ?_) λe=>⟨he,?_⟩
  ·rw[hb (by simpa using e)]
  ·exact zG (hg (by simpa using e)) rfl)
theorem GE{c:zF}{nv v:Nat}(hv:v<nv):gI (yE c nv) (v:Int)=FE c v:=by
 rw[Bool.eq_iff_iff,mL,oA];exact⟨λh=>h.2,λh=>⟨by omega,h⟩⟩
theorem GF{c:zF}{nv:Nat}(hc:vB c nv)(hl:c.lits=[]){v:Int}(h:v∈yE c nv):v∈c.vars:=by
 rcases zgy (oA.1 h).2 with h|⟨l,h,_⟩
 ·exact h
 ·rw[hl]at h;cases h
theorem GG{c:zF}{nv:Nat}(hc:vB c nv)(hk:c.kind≤8):c.lits=[]:=by
 have hf:=hc.form;have h1:=hc.kind.1;have:c.kind=1∨c.kind=2∨c.kind=3∨c.kind=4∨c.kind=5∨c.kind=6∨c.kind=7∨c.kind=8:=by omega
 rcases this with e|e|e|e|e|e|e|e<;>simp[We,e]at hf<;>simp_all
theorem A9{c:zF}{nv:Nat}(hc:vB c nv)(h:yE c nv=[]):vB c 0∧c.vars=[]∧c.lits=[]:=by
 have hv:c.vars=[]:=List.eq_nil_iff_forall_not_mem.2 λv hv=>by
  have h1:=hc.vars v hv;have:v∈yE c nv:=oA.2 ⟨h1,zdb hv⟩;rw[h]at this;cases this
 have hl:c.lits=[]:=List.eq_nil_iff_forall_not_mem.2 λl hl=>by
  have h1:=(oz.1 (hc.lits l hl)).1;have:l.var∈yE c nv:=oA.2 ⟨h1,zdc hl⟩;rw[h]at this;cases this
 exact⟨⟨Nat.zero_le _,hc.kind,hc.many,hc.form,λv h=>(by rw[hv]at h;cases h),hc.consts,hc.n,hc.rows,λl h=>(by rw[hl]at h;cases h)⟩,hv,hl⟩
theorem eJ{c:zF}{s:List (List Int)}(hc:vB c s.length)(hs:iP s s.length):uG o7 [dC c,dS s] (dS (yM c s)):=
 Gt c s λok=>by
  rw[Ek];refine zG (wG s) (zA (λe=> ?_) λe=> ?_)
  ·rw[yM,if_pos e]
   exact zG (aC s) rfl
  have hf:zT s=false:=e;rw[yM,if_neg (by rw[hf];decide)]
  refine zG (ZN hc) ?_
  by_cases h0:yE c s.length=[]
  ·obtain⟨hc0,_⟩:=A9 hc h0
   refine dt (by rw[h0];rfl) (zG (eF (vs:=[]) hc0 ⟨rfl,λn hn=>(by cases hn)⟩) (zA (λe=> ?_) λe=> ?_))
   ·rw[if_pos h0,if_pos e];exact zG (aC s) rfl
   ·rw[if_pos h0,if_neg (by rw[e];decide)];exact zG (fl s) rfl
  refine df (by
   have:(yE c s.length).length≠0:=λe=>h0 (List.length_eq_zero_iff.1 e)
   omega) ?_
  rw[if_neg h0]
  have key:∀ {g:FuncId} {caps:List D},cE g→(∀(v n:Int),v∈yE c s.length→n∈s.getD v.toNat []→uG g (dI v::dI n::caps) (dB (mayB (wH c) s v.toNat n)))→
    uG uR [dS s,.clo rH none [.iptr [.sl .int (yE c s.length)] 0,.iptr [.clo g none caps] 0]] (dS (rX (λv n=> !FE c v||mayB (wH c) s v n) s)):=fun {g caps} he hg=>by
   refine eC (f:=λv n=> !FE c v||mayB (wH c) s v n) Lc λv hv n hn=> ?_
   refine JH he (λh=> ?_) λh=> ?_
   ·have h1:=mL.1 h
    rw[GE hv]at h
    have h2:=hg v n h1 (by rw[Int.toNat_natCast,yA _ hv];exact hn)
    rw[Int.toNat_natCast]at h2
    rw[h];exact h2
   ·rw[GE hv]at h
    rw[h];rfl
  have hEach:∃e21:zF,∃e22:List (List Int),∃e23:List Int,∃e24:List Int,∃e25:List ((Int×Int)×Int),xD jJ [dC c,dS s] [] (.clo yX none [.iptr [.iptr [.int .i64 e21.kind,.sl .int e21.vars,.sl .int e21.consts,.int .i64 e21.n,.sl (.list .int) e21.rows,.sl .lit e21.lits,.sl (.list .int) e22,.sl .int e23,.sl .int e24,.mp (.pr .int .int) .int e25] 0] 0]) []∧
    yY uR [dS s,.clo rH none [.iptr [.sl .int (yE c s.length)] 0,.iptr [.clo yX none [.iptr [.iptr [.int .i64 e21.kind,.sl .int e21.vars,.sl .int e21.consts,.int .i64 e21.n,.sl (.list .int) e21.rows,.sl .lit e21.lits,.sl (.list .int) e22,.sl .int e23,.sl .int e24,.mp (.pr .int .int) .int e25] 0] 0]] 0]] (.list (.list .int)) λs26=>D.sl (.list .int) s26=dS (rX (λv n=> !FE c v||mayB (wH c) s v n) s):=by
   obtain⟨vs,m,h1,h2⟩:=GD hc hs hf;exact⟨c,s,yE c s.length,vs,m,h2,zG (key Nu λv n hv hn=>LY (ks:=[]) h1 hv) rfl⟩
  refine zA (λe=> ?_) λe=>zA (λe2=> ?_) λe2=> ?_
  ·have hk:c.kind≤3:=of_decide_eq_true e
   exact⟨wT c,JF s (wT c),c,LW hc hk hs,zG (key Qk λv n hv hn=>Oy hc hk hs hf (GF hc (GG hc (by omega)) hv) hn) rfl⟩
  ·have hk:c.kind=4:=of_decide_eq_true e2
   refine zG (JG c.vars) (zA (λe3=> ?_) λe3=>hEach)
   have hnd:c.vars.Nodup:=by simpa using e3
   exact⟨s,c,LX c s,zG (key Ql λv n hv hn=>Oz hc hk hnd hs hf (GF hc (GG hc (by omega)) hv) hn) rfl⟩
  ·exact hEach
def GH(m:zD)(con:Int)(s:List (List Int)):Int:=if Yp m [s]≠0 then Yp m [s]else if con<0∨(m.cons.length:Int)≤con then 5 else 0
theorem zin{m:zD}{con:Int}{s:List (List Int)}(h:Yp m [s]≠0):GH m con s=Yp m [s]:=if_pos h
theorem zio{m:zD}{con:Int}{s:List (List Int)}(h:Yp m [s]=0)(h2:con<0∨(m.cons.length:Int)≤con):GH m con s=5:=by rw[GH,if_neg (not_not_intro h),if_pos h2]
theorem ziq{m:zD}{con:Int}{s:List (List Int)}(h:Yp m [s]=0)(h2:0≤con∧con<(m.cons.length:Int)):GH m con s=0:=by rw[GH,if_neg (not_not_intro h),if_neg (by omega)]
theorem zb1{m:zD}{con:Int}{s:List (List Int)}(h:GH m con s=0):Yp m [s]=0∧0≤con∧con<(m.cons.length:Int):=by
 by_cases h1:Yp m [s]=0
 ·by_cases h2:con<0∨(m.cons.length:Int)≤con
  ·rw[zio h1 h2]at h;exact absurd h (by decide)
  ·exact⟨h1,by omega⟩
 ·rw[zin h1]at h;exact absurd h h1
theorem OA{m:zD}{con:Int}(h:yR m=0)(h2:0≤con∧con<(m.cons.length:Int)):U6 m con=0:=by rw[U6,if_neg (not_not_intro h),if_neg (by omega)]
structure Met (c:zF)(s:List (List Int))(zs:List Int)(k:Nat)(met:List zC):Prop where
 nodup:met.Nodup
 near:∀x∈met,(0≤x.var∧x.var<6)∧x.op=0∧-50≤x.n∧x.n≤50
 mem:∀x,x∈met↔∃j,j<k∧wH c (kC s (yE c s.length) zs j).1=true∧∃v∈yE c s.length,x=⟨v,0,(kC s (yE c s.length) zs j).1.getD v.toNat 0⟩
def partB(c:zF)(s:List (List Int))(v:Nat)(n:Int):Bool:=
 (List.range (DA s (yE c s.length))).any λk=>wH c (kC s (yE c s.length) (List.replicate s.length 0) k).1&&decide ((kC s (yE c s.length) (List.replicate s.length 0) k).1.getD v 0=n)
def Bd(c:zF)(s:List (List Int)):List (List Int):=
 if zT s=true then s else if yE c s.length=[]then(if wH c []=true then s else kX s)else rX (λv n=> !FE c v||partB c s v n) s
theorem zem{c:zF}{s:List (List Int)}(hc:vB c s.length)(hf:zT s=false){v:Nat}{n:Int}(hv:v<s.length)(hi:FE c v=true):partB c s v n=mayB (wH c) s v n:=by
 have hz:(List.replicate s.length (0:Int)).length=s.length:=List.length_replicate ..;have hm:(v:Int)∈yE c s.length:=oA.2 ⟨by omega,hi⟩
 rw[Bool.eq_iff_iff,pU,partB,List.any_eq_true];have h:=A4 hc hf hz (v:=(v:Int)) (n:=n);rw[A5 hc hf hz,Int.toNat_natCast]at h
 constructor
 ·rintro⟨k,hk,e⟩
  rw[Bool.and_eq_true,decide_eq_true_iff]at e
  exact(h.1 ⟨k,List.mem_range.1 hk,e.1,(v:Int),hm,by rw[Int.toNat_natCast,e.2]⟩).2
 ·intro hy
  obtain⟨k,hk,e1,u,hu,e2⟩:=h.2 ⟨hm,hy⟩;injection e2 with e3 e4
  refine⟨k,List.mem_range.2 hk,?_⟩;rw[Bool.and_eq_true,decide_eq_true_iff];refine⟨e1,?_⟩;rw[e4,←e3,Int.toNat_natCast]
theorem zen{c:zF}{s:List (List Int)}(hc:vB c s.length):yM c s=Bd c s:=by
 rw[yM,Bd];split
 ·rfl
 rename_i hf;split
 ·rfl
 refine Yb λv n hn=> ?_
 have hv:v<s.length:=by
  apply Classical.byContradiction;intro h;rw[sU (by omega)]at hn;cases hn
 cases hi:FE c v
 ·rfl
 ·rw[zem hc (by simpa using hf) hv hi]
theorem RV{m:zD}{s t:List (List Int)}(h:jW m s=0)(hl:fO t s):jW m t=0:=by
 obtain⟨h1,h2,h3⟩:=Wq.1 h;refine Wq.2 ⟨hl.1.trans h1,λv n hn=>h2 v n ((hl.2 v).subset hn),λl hm=> ?_⟩
 obtain⟨i,hi,rfl⟩:=List.getElem_of_mem hm;have:=hl.2 i;rw[yA _ hi,yA _ (show i<s.length by rw[←hl.1];exact hi)]at this
 exact(h3 _ (List.getElem_mem _)).sublist this
theorem zgH{m:zD}{s:List (List Int)}(h:Yp m [s]=0):yR m=0∧jW m s=0:=by
 have h1:=Ap h;rw[Ao (not_not_intro h1),Hy]at h
 exact⟨h1,h⟩
structure zdh (m:zD)(con:Int)(s:List (List Int)):Prop where
 chk:yR m=0
 st:jW m s=0
 cn:0≤con∧con<(m.cons.length:Int)
 right:vB (yL m con) m.vars.length
 len:s.length=m.vars.length
 pos:0<m.vars.length
 op:Ya m.vars.length (yM (yL m con)) (wH (yL m con))
theorem zgI{m:zD}{con:Int}{s:List (List Int)}(h:GH m con s=0):zdh m con s:=by
 obtain⟨h1,h2⟩:=zb1 h;obtain⟨h3,h4⟩:=zgH h1;have hr:=qH h3;have hc:=rZ (OA h3 h2);have hp:0<m.vars.length:=by have:=hr.some;omega
 exact⟨h3,h4,h2,hc,Hx h4,hp,Y7 hc hp⟩
def YU:xP:= {own:=[],live:=[(0,([2,11,12,13],[]))],n:=24}
def ZP(a:zD)(b:List (List zC))(R:xK)(c:Nat)(d:Int):Prop:=LP YU Tryz.f128 [1,1,0,1,0,0] 0 c ⟨[(2,.iptr (Sn a []) 0),(11,.sl (.list .lit) b),(12,dI (b.length:Int)),(13,dI d)],[]⟩ (zQ 0 (sK YU Tryz.f128 [1,1,1] 0 (eK Tryz.f128 R)))
theorem VC(c:zD)(a:List (List zC))(R:xK)(d:Nat)(b:Int):ZP c a R (d+1) b=
 (zP (decide (b<(a.length:Int)))
 (wI b a.length=true∧
 yY hJ [dM c,.sl .lit (zR (.list .lit) a b.toNat)] .int λe=>
 zP (!decide (e=0))
 (R (dI e))
 (ZP c a R d (yW (b+1))))
 (R (dI 0))):=by kernel_rfl
theorem Em(b:zD)(a:List (List zC))(R:xK):FD YU Tryz.f128 [dM b,.sl (.list .lit) a] R=
 (zP (decide (600<(a.length:Int)))
 (R (dI 2))
 (∃n0,ZP b a R n0 0)):=by kernel_rfl
theorem GI(a:zD)(b:List (List zC)):xL YU Tryz.f128 YI [dM a,.sl (.list .lit) b]:=xO Tryz.func128 (by kernel_rfl) Tryz.ntmps128 rfl
def qN:xP:= {own:=[],live:=[(0,([1,2,3,4],[])),(2,([1,2,3,4,9,10],[])),(4,([1,2,3,4,9,11],[]))],n:=62}
def XF(a:zD)(b:Bool)(c:List (List zC))(R:xK)(d:Nat)(e:List (List Int))(f:Nat)(g:List (List Int))(h:Int):Prop:=LP qN Tryz.f136 [1,1,0,0,0,1,1,0,1,0,0] 4 f ⟨[(1,dS g),(2,dB b),(3,.sl (.list .lit) c),(4,.iptr (Sn a []) 0),(9,dS e),(11,dI h)],[]⟩ (zQ 4 (sK qN Tryz.f136 [1,1,0,0,0,1,1,1] 1 (zQ 1 (iK qN Tryz.f136 [1,1,0,0] 0 d (zQ 0 (eK Tryz.f136 R))))))
def aL(a:zD)(b:Bool)(c:List (List zC))(R:xK)(d:Nat)(e:List (List Int))(f:Nat)(g:List (List Int))(h:Int):Prop:=LP qN Tryz.f136 [1,1,0,0,0,1,1,0,1,0,0] 4 f ⟨[(1,dS g),(2,dB b),(3,.sl (.list .lit) c),(4,.iptr (Sn a []) 0),(9,dS e),(11,dI h)],[]⟩ (zQ 4 (sK qN Tryz.f136 [1,1,0,0,0,1,1,1] 1 (zQ 1 (iK qN Tryz.f136 [1,1,0,0] 0 d (zQ 0 (eK Tryz.f136 R))))))
def YV(a:zD)(b:Bool)(c:List (List zC))(R:xK)(d:Nat)(e:List (List Int))(f:Nat)(g:List (List Int))(h:Int):Prop:=LP qN Tryz.f136 [1,1,0,0,0,1,1,0,1,0,0] 4 f ⟨[(1,dS g),(2,dB b),(3,.sl (.list .lit) c),(4,.iptr (Sn a []) 0),(9,dS e),(11,dI h)],[]⟩ (zQ 4 (sK qN Tryz.f136 [1,1,0,0,0,1,1,1] 1 (zQ 1 (iK qN Tryz.f136 [1,1,0,0] 0 d (zQ 0 (eK Tryz.f136 R))))))
def dW(a:zD)(b:Bool)(c:List (List zC))(R:xK)(d:Nat)(e:List (List Int))(f:Nat)(g:List (List Int))(h:Int):Prop:=LP qN Tryz.f136 [1,1,0,0,0,1,0,1,0,0] 2 f ⟨[(1,dS g),(2,dB b),(3,.sl (.list .lit) c),(4,.iptr (Sn a []) 0),(9,dS e),(10,dI h)],[]⟩ (zQ 2 (sK qN Tryz.f136 [1,1,0,0,0,1,1] 1 (zQ 1 (iK qN Tryz.f136 [1,1,0,0] 0 d (zQ 0 (eK Tryz.f136 R))))))
def rP(a:zD)(b:Bool)(c:List (List zC))(R:xK)(d:Nat)(e:List (List Int)):Prop:=LP qN Tryz.f136 [1,1,0,0] 0 d ⟨[(1,dS e),(2,dB b),(3,.sl (.list .lit) c),(4,.iptr (Sn a []) 0)],[]⟩ (zQ 0 (eK Tryz.f136 R))
theorem En(d:zD)(e:Bool)(b:List (List zC))(R:xK)(f:Nat)(g:List (List Int))(h:Nat)(a:List (List Int))(c:Int):XF d e b R f g (h+1) a c=
 (zP (decide (c<(b.length:Int)))
 (yY yT [dS a] .bool λi=>
 zP (!i)
 (wI c b.length=true∧
 yY lK [dS a,.sl .lit (zR (.list .lit) b c.toNat)] (.list (.list .int)) λj=>
 XF d e b R f g h j (yW (c+1)))
 (yY yT [dS a] .bool λk=>
 zP k
 (yY wZ [dS a] (.list (.list .int)) λl=>
 R (dS l))
 (yY nO [dS a,dS g] .bool λm=>
 zP m
 (R (dS a))
 (rP d e b R f a))))
 (yY yT [dS a] .bool λn=>
 zP n
 (yY wZ [dS a] (.list (.list .int)) λo=>
 R (dS o))
 (yY nO [dS a,dS g] .bool λp=>
 zP p
 (R (dS a))
 (rP d e b R f a)))):=by kernel_rfl
theorem JI(d:zD)(e:Bool)(b:List (List zC))(R:xK)(f:Nat)(g:List (List Int))(h:Nat)(a:List (List Int))(c:Int):aL d e b R f g (h+1) a c=
 (zP (decide (c<(b.length:Int)))
 (yY yT [dS a] .bool λi=>
 zP (!i)
 (wI c b.length=true∧
 yY lK [dS a,.sl .lit (zR (.list .lit) b c.toNat)] (.list (.list .int)) λj=>
 aL d e b R f g h j (yW (c+1)))
 (yY yT [dS a] .bool λk=>
 zP k
 (yY wZ [dS a] (.list (.list .int)) λl=>
 R (dS l))
 (yY nO [dS a,dS g] .bool λm=>
 zP m
 (R (dS a))
 (rP d e b R f a))))
 (yY yT [dS a] .bool λn=>
 zP n
 (yY wZ [dS a] (.list (.list .int)) λo=>
 R (dS o))
 (yY nO [dS a,dS g] .bool λp=>
 zP p
 (R (dS a))
 (rP d e b R f a)))):=by kernel_rfl
theorem JJ(d:zD)(e:Bool)(b:List (List zC))(R:xK)(f:Nat)(g:List (List Int))(h:Nat)(a:List (List Int))(c:Int):YV d e b R f g (h+1) a c=
 (zP (decide (c<(b.length:Int)))
 (yY yT [dS a] .bool λi=>
 zP (!i)
 (wI c b.length=true∧
 yY lK [dS a,.sl .lit (zR (.list .lit) b c.toNat)] (.list (.list .int)) λj=>
 YV d e b R f g h j (yW (c+1)))
 (yY yT [dS a] .bool λk=>
 zP k
 (yY wZ [dS a] (.list (.list .int)) λl=>
 R (dS l))
 (yY nO [dS a,dS g] .bool λm=>
 zP m
 (R (dS a))
 (rP d e b R f a))))
 (yY yT [dS a] .bool λn=>
 zP n
 (yY wZ [dS a] (.list (.list .int)) λo=>
 R (dS o))
 (yY nO [dS a,dS g] .bool λp=>
 zP p
 (R (dS a))
 (rP d e b R f a)))):=by kernel_rfl
theorem ZQ(a:zD)(b:Bool)(d:List (List zC))(R:xK)(e:Nat)(f:List (List Int))(h:Nat)(c:List (List Int))(g:Int):dW a b d R e f (h+1) c g=
 (zP b
 (zP (decide (g<(a.cons.length:Int)))
 (yY yT [dS c] .bool λi=>
 zP (!i)
 (wI g a.cons.length=true∧
 yY o7 [dC (zR .con a.cons g.toNat),dS c] (.list (.list .int)) λj=>
 dW a b d R e f h j (yW (g+1)))
 (∃n4,XF a b d R e f n4 c 0))
 (∃n4_2,aL a b d R e f n4_2 c 0))
 (∃n4_3,YV a b d R e f n4_3 c 0)):=by kernel_rfl
theorem Eo(b:zD)(c:Bool)(d:List (List zC))(R:xK)(e:Nat)(a:List (List Int)):rP b c d R (e+1) a=
 (∃n2,dW b c d R e a n2 a 0):=by kernel_rfl
theorem zb2(a:zD)(b:List (List Int))(c:Bool)(d:List (List zC))(R:xK):FD qN Tryz.f136 [dM a,dS b,dB c,.sl (.list .lit) d] R=
 (yY mW [dS b] (.list (.list .int)) λe=>
 ∃n0,rP a c d R n0 e):=by kernel_rfl
theorem zaa(a:zD)(b:List (List Int))(c:Bool)(d:List (List zC)):xL qN Tryz.f136 jI [dM a,dS b,dB c,.sl (.list .lit) d]:=xO Tryz.func136 (by kernel_rfl) Tryz.ntmps136 rfl
def GJ:xP:= {own:=[],live:=[],n:=8}
theorem zab(a b:List (List Int))(R:xK):FD GJ Tryz.f202 [dS a,dS b] R=
 (yY yC [dS a,dS b,.clo gX none []] .bool λc=>
 R (dB c)):=by kernel_rfl
theorem Be(a b:List (List Int)):xL GJ Tryz.f202 nO [dS a,dS b]:=xO Tryz.func202 (by kernel_rfl) Tryz.ntmps202 rfl
def Mg:xP:= {own:=[],live:=[],n:=10}
theorem Ep(a b:List Int)(R:xK):FD Mg Tryz.f256 [.sl .int a,.sl .int b] R=
 (R (dB (decide ((a.length:Int)=(b.length:Int))))):=by kernel_rfl
theorem GK(a b:List Int):xL Mg Tryz.f256 gX [.sl .int a,.sl .int b]:=xO Tryz.func256 (by kernel_rfl) Tryz.ntmps256 rfl
noncomputable def Bf (m:zD):List Op:=m.cons.map yM
def Mh(l:List (List zC)):List Op:=l.map λc s=>Zd s c
noncomputable def oS (m:zD)(cons:Bool)(l:List (List zC)):List Op:=(if cons=true then Bf m else[])++Mh l
noncomputable def sQ (m:zD)(cons:Bool)(l:List (List zC))(s:List (List Int)):List (List Int):=zgx (oS m cons l) s
structure yN (m:zD)(l:List (List zC)):Prop where
 right:Right m
 cons:∀c∈m.cons,vB c m.vars.length
 lits:∀c∈l,∀x∈c,0≤x.var∧x.var<(m.vars.length:Int)
theorem yN.pos{m:zD}{l:List (List zC)}(h:yN m l):0<m.vars.length:=by have:=h.right.some;omega
theorem GL{m:zD}{l:List (List zC)}(h:yR m=0)(hl:∀c∈l,∀x∈c,gU m.vars.length x=0):yN m l:=by
 refine⟨qH h,λc hc=> ?_,λc hc x hx=>(oz.1 (hl c hc x hx)).1⟩
 obtain⟨i,hi,rfl⟩:=List.getElem_of_mem hc;have:=rZ (OA h (con:=(i:Int)) (by omega))
 rwa[yL,Int.toNat_natCast,yA _ hi]at this
theorem XG{m:zD}{l:List (List zC)}(h:yN m l){c:zF}(hc:c∈m.cons):Ya m.vars.length (yM c) (wH c):=Y7 (h.cons c hc) h.pos
theorem dX{m:zD}{l:List (List zC)}(h:yN m l){c:List zC}(hc:c∈l):Ya m.vars.length (λs=>Zd s c) (sY c):=zdd (h.lits c hc) h.pos
theorem pB{m:zD}{cons:Bool}{l:List (List zC)}{op:Op}:op∈oS m cons l↔(cons=true∧∃c∈m.cons,yM c=op)∨∃c∈l,(λs=>Zd s c)=op:=by
 rw[oS,List.mem_append,Mh,List.mem_map];cases cons
 ·simp
 ·simp[Bf]
theorem OB{m:zD}{cons:Bool}{l:List (List zC)}(h:yN m l):Gd m.vars.length (oS m cons l):=λop hm=>by
 rcases pB.1 hm with⟨_,c,hc,rfl⟩|⟨c,hc,rfl⟩
 ·exact⟨_,XG h hc⟩
 ·exact⟨_,dX h hc⟩
theorem jN{m:zD}{cons:Bool}{l:List (List zC)}(h:yN m l){s:List (List Int)}(hs:s.length=m.vars.length):X3 (oS m cons l) s (sQ m cons l s):=zd9 (OB h) hs
theorem RW{m:zD}{cons:Bool}{l:List (List zC)}(h:yN m l){s r:List (List Int)}(hs:s.length=m.vars.length)(hr:X3 (oS m cons l) s r):sQ m cons l s=r:=zii (by have:=h.pos;omega) hr
structure KJ (ops:List Op)(was s:List (List Int))(done:List Op):Prop where
 le:fO s was
 stab:s=was→∀op∈done,op was=was
theorem KJ.step{nv:Nat}{ops done:List Op}{was s:List (List Int)}(h:KJ ops was s done){op:Op}{Q:List Int→Bool}(ho:Ya nv op Q)(hs:s.length=nv):KJ ops was (op s) (done++[op]):=by
 have hle:=ho.le hs;refine⟨hle.trans h.le,λe op' hm=> ?_⟩
 have e2:s=was:=h.le.antisymm (by rw[←e];exact hle)
 rcases List.mem_append.1 hm with hm|hm
 ·exact h.stab e2 op' hm
 ·rw[List.mem_singleton.1 hm];rw[e2]at e;exact e
theorem DE:∀ {s t:List (List Int)},s.length=t.length→((s.zip t).any λx=> !decide (x.1.length=x.2.length))=false→(∀v:Nat,(s.getD v []).Sublist (t.getD v []))→s=t
 |[],[],_,_,_=>rfl
 |a::s,b::t,hl,h,hs=>by
  rw[List.zip_cons_cons,List.any_cons,Bool.or_eq_false_iff]at h
  have h1:a.length=b.length:=by simpa using h.1
  have h0:a.Sublist b:=hs 0;rw[h0.eq_of_length h1,DE (by simpa using hl) h.2 λv=>hs (v+1)]
 |[],_::_,hl,_,_=>by simp at hl
 |_::_,[],hl,_,_=>by simp at hl
def KK(s t:List (List Int)):Bool:=decide (s.length=t.length)&& !((s.zip t).any λx=> !decide (x.1.length=x.2.length))
theorem DF{s t:List (List Int)}(h:fO s t):KK s t=true↔s=t:=by
 rw[KK,Bool.and_eq_true,decide_eq_true_iff,Bool.not_eq_true'];constructor
 ·rintro⟨h1,h2⟩;exact DE h1 h2 h.2
 ·rintro rfl
  refine⟨rfl,List.any_eq_false.2 λx hx=> ?_⟩
  obtain⟨i,hi,rfl⟩:=List.getElem_of_mem hx;rw[List.getElem_zip];simp
theorem Er(a b:List Int):uG gX [.sl .int a,.sl .int b] (dB (decide (a.length=b.length))):=
 GK a b λok=>by
  rw[Ep];show D.bool _=D.bool _
  congr 1
  exact decide_eq_decide.2 ⟨λe=>by omega,λe=>by omega⟩
theorem zac(s t:List (List Int)):uG nO [dS s,dS t] (dB (KK s t)):=
 Be s t λok=>by
  rw[zab];refine zG (x:=KK s t) ?_ rfl;refine Yl.clo (pre:=[_,_]) (slices_EqualFunc_api_Store_api_Store_int_int_sat s t gX [] λok=> ?_)
  have hs:Uj s:=YE (ME ok);have hsl:=RR hs;rw[tV];refine zA (λe=> ?_) λe=> ?_
  ·rw[KK,decide_eq_false (by simp at e;omega)];rfl
  have e:s.length=t.length:=by simp at e;omega
  have hz:(s.zip t).length=s.length:=by rw[List.length_zip];omega
  refine Ac (I:=λn v=>xC s t gX [] _ n v) (s.zip t) (λx=> !decide (x.1.length=x.2.length)) (by omega) (X:=dB false=dB (KK s t)) (Y:=dB true=dB (KK s t)) (by rw[KK,decide_eq_true e];cases(s.zip t).any λx=> !decide (x.1.length=x.2.length)<;>rfl) (λn k h hX hn=> ?_) λn hY=> ?_
  ·have hk:k<s.length:=by omega
   rw[List.getElem_zip]at hX hn
   rw[xQ,yK hk,zX (t:=.list .int) hk,zX (t:=.list .int) (show k<t.length by omega)]
   exact⟨zM hk,zM (by omega),Hq,zG (Er _ _) (zA hX hn)⟩
  ·rw[hz,xQ,zW];exact hY
theorem zb3{nv:Nat}{ops:List Op}{s0 s:List (List Int)}(h:sN ops s0 s)(hg:iP s0 nv):iP s nv:=by
 refine⟨h.le.1.trans hg.len,λv n hn=>hg.near v n ((h.le.2 v).subset hn),λl hl=> ?_⟩
 obtain⟨i,hi,rfl⟩:=List.getElem_of_mem hl;have:=h.le.2 i;rw[yA _ hi,yA _ (show i<s0.length by rw[←h.le.1];exact hi)]at this
 exact(hg.rise _ (List.getElem_mem _)).sublist this
theorem ziZ{nv:Nat}{ops pre:List Op}{s0 was:List (List Int)}(ho:Gd nv ops)(h0:s0.length=nv){A:Type}(xs:List A)(f:A→Op)(hf:∀x∈xs,f x∈ops)
  {I:Nat→Int→List (List Int)→Prop} {X:List (List Int)→Prop} {s:List (List Int)} (hl:xs.length≤9223372036854775807) (hr:sN ops s0 s) (hw:zT s=true∨KJ ops was s pre)
  (hout:∀s,sN ops s0 s→(zT s=true∨KJ ops was s (pre++xs.map f))→X s)
  (hin:∀n (k:Nat) (h:k<xs.length) s,sN ops s0 s→zT s=false→I n (yW ((k:Int)+1)) (f xs[k] s)→I (n+1) (k:Int) s)
  (hend:∀n s,X s→I (n+1) (xs.length:Int) s) (hfail:∀n (k:Nat) s,k<xs.length→zT s=true→X s→I (n+1) (k:Int) s):∃n,I n 0 s:=by
 refine up (I:=I) 0 xs.length rfl (Nat.zero_le _) hl (λk s=>sN ops s0 s∧(zT s=true∨KJ ops was s (pre++(xs.take k).map f))) ⟨hr,by simpa using hw⟩ λn k s _ hk ha hn=> ?_
 obtain⟨h1,h2⟩:=ha
 by_cases h:k<xs.length
 ·cases hfl:zT s with
  |true=>exact hfail n k s h hfl (hout s h1 (.inl hfl))
  |false=>
   obtain⟨Q,hq⟩:=ho _ (hf _ (List.getElem_mem h));have h2:=h2.resolve_left (by rw[hfl];decide)
   refine hin n k h s h1 hfl (hn h _ ⟨h1.step ho h0 (hf _ (List.getElem_mem h)),.inr ?_⟩);rw[Z1 _ h,←List.append_assoc];exact h2.step hq (h1.le.1.trans h0)
 ·have hk':k=xs.length:=by omega
  subst hk';refine hend n s (hout s h1 ?_)
  rwa[List.take_length]at h2
def zir(m:zD)(cons:Bool)(l:List (List zC))(s0:List (List Int))(n0:Nat)(was s:List (List Int)):Prop:=
 yY yT [dS s] .bool λs11=>zP s11
  (yY wZ [dS s] (.list (.list .int)) λs12=>D.sl (.list .int) s12=dS (sQ m cons l s0))
  (yY nO [dS s,dS was] .bool λf13=>zP f13 (D.sl (.list .int) s=dS (sQ m cons l s0)) (rP m cons l (λd=>d=dS (sQ m cons l s0)) n0 s))
theorem zis{m:zD}{cons:Bool}{l:List (List zC)}{s0:List (List Int)}(h:yN m l)(hs:s0.length=m.vars.length){n0:Nat}{was:List (List Int)}
  (ih:∀s,sN (oS m cons l) s0 s→wJ s<wJ was→rP m cons l (λd=>d=dS (sQ m cons l s0)) n0 s) {s:List (List Int)} (hr:sN (oS m cons l) s0 s) (hx:zT s=true∨KJ (oS m cons l) was s (oS m cons l)):zir m cons l s0 n0 was s:=by
 refine zG (wG s) (zA (λe=> ?_) λe=> ?_)
 ·have e:zT s=true:=e
  refine zG (fl s) ?_;rw[RW h hs (hr.dead e),Gc hr.le.1]
 ·have e:zT s=false:=e
  have hrd:=hx.resolve_left (by rw[e];decide)
  refine zG (zac s was) (zA (λf=> ?_) λf=> ?_)
  ·have f2:=(DF hrd.le).1 f
   rw[RW h hs (hr.stop e λop hm=> ?_)]
   rw[f2];exact hrd.stab f2 op hm
  ·exact ih s hr (hrd.le.size_lt λf2=>by rw[(DF hrd.le).2 f2]at f;cases f)
theorem GM{m:zD}{cons:Bool}{l:List (List zC)}{s0:List (List Int)}(h:yN m l)(hs:s0.length=m.vars.length)(hll:l.length≤1000000000){n0:Nat}{was:List (List Int)}
  (ih:∀s,sN (oS m cons l) s0 s→wJ s<wJ was→rP m cons l (λd=>d=dS (sQ m cons l s0)) n0 s)
  {I:Nat→Int→List (List Int)→Prop}
  (heq:∀n (i:Int) s,I (n+1) i s=zP (decide (i<(l.length:Int)))
   (yY yT [dS s] .bool λs9=>zP (!s9)
    (wI i l.length=true∧yY lK [dS s,.sl .lit (zR (.list .lit) l i.toNat)] (.list (.list .int)) λc10=>I n (yW (i+1)) c10)
    (zir m cons l s0 n0 was s))
   (zir m cons l s0 n0 was s))
  {s:List (List Int)} (hr:sN (oS m cons l) s0 s) (hw:zT s=true∨KJ (oS m cons l) was s (if cons=true then Bf m else[])):∃n,I n 0 s:=by
 refine ziZ (OB h) hs l (λc s=>Zd s c) (λc hc=>pB.2 (.inr ⟨c,hc,rfl⟩)) (by omega) hr hw (X:=zir m cons l s0 n0 was) (λs h1 h2=>zis h hs ih h1 h2) (λn k hk s h1 hf hi=> ?_) (λn s hx=> ?_) λn k s hk hf hx=> ?_
 ·rw[heq,yK hk,zX (t:=.list .lit) hk]
  refine zG (wG s) (bnt hf ⟨zM hk,zG (Ei λx hx=> ?_) hi⟩)
  have:=h.lits _ (List.getElem_mem hk) x hx;rw[h1.le.1,hs];exact this
 ·rw[heq,zW];exact hx
 ·rw[heq,yK hk]
  exact zG (wG s) (bnf hf hx)
theorem XH{m:zD}{cons:Bool}{l:List (List zC)}{s0:List (List Int)}(h:yN m l)(hs:iP s0 m.vars.length)(hll:l.length≤1000000000):uG jI [dM m,dS s0,dB cons,.sl (.list .lit) l] (dS (sQ m cons l s0)):=
 zaa m s0 cons l λok=>by
  have ho:=OB (cons:=cons) h;have hcl:=h.right.cons;rw[zb2];refine zG (aC s0) ?_
  have step:∀(n0:Nat) (was:List (List Int)),sN (oS m cons l) s0 was→(∀s,sN (oS m cons l) s0 s→wJ s<wJ was→rP m cons l (λd=>d=dS (sQ m cons l s0)) n0 s)→rP m cons l (λd=>d=dS (sQ m cons l s0)) (n0+1) was:=by
   intro n0 was hw ih;rw[Eo];cases cons with
   |false=>
    refine⟨1,?_⟩;rw[ZQ];refine bf rfl ?_;exact GM h hs.len hll ih (I:=λn i s=>YV m false l _ n0 was n s i) (λn i s=>by rw[JJ];rfl) hw (.inr ⟨fO.refl _,λ_ op hm=>(by cases hm)⟩)
   |true=>
    refine ziZ ho hs.len m.cons yM (λc hc=>pB.2 (.inl ⟨rfl,c,hc,rfl⟩)) (by omega) hw (was:=was) (pre:=[]) (.inr ⟨fO.refl _,λ_ op hm=>(by cases hm)⟩) (I:=λn i s=>dW m true l _ n0 was n s i)
     (X:=λs=>(∃n4,XF m true l (λd=>d=dS (sQ m true l s0)) n0 was n4 s 0)∧∃n4_2,aL m true l (λd=>d=dS (sQ m true l s0)) n0 was n4_2 s 0) (λs h1 h2=> ?_) (λn k hk s h1 hf hi=> ?_) (λn s hx=> ?_) λn k s hk hf hx=> ?_
    ·exact⟨GM h hs.len hll ih (I:=λn i s=>XF m true l _ n0 was n s i) (λn i s=>by rw[En];rfl) h1 h2,GM h hs.len hll ih (I:=λn i s=>aL m true l _ n0 was n s i) (λn i s=>by rw[JI];rfl) h1 h2⟩
    ·show dW m true l _ n0 was (n+1) s (k:Int)
     rw[ZQ];refine bt rfl ?_;rw[yK hk,zX (t:=.con) hk];have hg:=zb3 h1 hs;have hl:=hg.len;refine zG (wG s) (bnt hf ⟨zM hk,zG (eJ (c:=m.cons[k]) (by rw[hl];exact h.cons _ (List.getElem_mem hk)) (by rw[hl];exact hg)) hi⟩)
    ·show dW m true l _ n0 was (n+1) s (m.cons.length:Int)
     rw[ZQ];refine bt rfl ?_;rw[zW];exact hx.2
    ·show dW m true l _ n0 was (n+1) s (k:Int)
     rw[ZQ];refine bt rfl ?_;rw[yK hk];exact zG (wG s) (bnf hf hx.1)
  suffices H:∀(d:Nat) (was:List (List Int)),wJ was≤d→sN (oS m cons l) s0 was→rP m cons l (λd=>d=dS (sQ m cons l s0)) (d+1) was from⟨_,H _ s0 (Nat.le_refl _) (sN.refl _ _)⟩
  intro d
  induction d with
  |zero=>exact λwas hd hw=>step 0 was hw λs _ hlt=>absurd hlt (by omega)
  |succ d ih=>exact λwas hd hw=>step (d+1) was hw λs h1 hlt=>ih s (by omega) h1
def YW(nv:Nat)(l:List (List zC)):Int:=if 600<l.length then 2 else xU (λ_ c=>yJ nv c) 0 l
theorem Bg{nv:Nat}{l:List (List zC)}(h:YW nv l=0):l.length≤600∧∀c∈l,yJ nv c=0:=by
 unfold YW at h
 split at h
 ·exact absurd h (by decide)
 rename_i h1;refine⟨by omega,λl hl=> ?_⟩
 obtain⟨i,hi,rfl⟩:=List.getElem_of_mem hl;exact dP h hi
theorem Es(m:zD)(l:List (List zC)):uG YI [dM m,.sl (.list .lit) l] (dI (YW m.vars.length l)):=
 GI m l λok=>by
  rw[Em];refine zA (λe=> ?_) λe=> ?_
  ·exact sT (if_pos (by simp at e;omega))
  have e:¬600<l.length:=by simp at e;omega
  rw[show YW m.vars.length l=xU (λ_ c=>yJ m.vars.length c) 0 l from if_neg e]
  refine zdW (I:=λn v=>ZP m l _ n v) l (λ_ c=>yJ m.vars.length c) (by omega) (X:=λx=>D.int .i64 x=dI (xU (λ_ c=>yJ m.vars.length c) 0 l)) (Y:=D.int .i64 0=dI (xU (λ_ c=>yJ m.vars.length c) 0 l)) (λ_=>rfl) (λe=>sT e) (λn k h _ hX hn=> ?_) λn hY=> ?_
  ·rw[VC,yK h,zX (t:=.list .lit) h]
   exact⟨zM h,zG (U5 m _) (zA (λe=>hX (pP e)) λe=>hn (tZ e))⟩
  ·rw[VC,zW];exact hY
structure zkN (m:zD)(s:List (List Int))(l:List (List zC)):Prop where
 chk:yR m=0
 st:jW m s=0
 len:l.length≤1000000
 cl:∀c∈l,yJ m.vars.length c=0
 mc:yN m l
 good:iP s m.vars.length
theorem nR{m:zD}{l:List (List zC)}(h:yR m=0)(hl:∀c∈l,yJ m.vars.length c=0):yN m l:=GL h λc hc x hx=>(aD (hl c hc)).2 x hx
theorem zad{m:zD}(h:yR m=0):yN m []:=GL h λc hc=>by cases hc
structure zkO (ops:List Op)(s0 was:List (List Int))(done:List Op)(s:List (List Int))(ch:Bool):Prop where
 reach:sN ops s0 s
 st:zT s=true∨(ch=false∧s=was∧∀op∈done,op was=was)∨(ch=true∧wJ s<wJ was)
def zit(m:zD)(cons:Bool)(l:List (List zC)):List Op:=(if cons=true then m.cons.map Bd else[])++Mh l
def GN(ops:List Op)(s:List (List Int)):List (List Int):=ops.foldl (λs op=>op s) s
def itO(ops:List Op):Nat→List (List Int)→List (List Int)
 |0,s=>s
 |k+1,s=>itO ops k (GN ops s)
theorem OC{op:Op}{ops:List Op}{s:List (List Int)}:GN (op::ops) s=GN ops (op s):=rfl
theorem GO{nv:Nat}{ops:List Op}(ho:Gd nv ops){s0:List (List Int)}(h0:s0.length=nv):∀(us:List Op) (s:List (List Int)),(∀op∈us,op∈ops)→sN ops s0 s→sN ops s0 (GN us s)
 |[],s,_,h=>h
 |op::us,s,hs,h=>by
  rw[OC];exact GO ho h0 us _ (λop h=>hs op (List.mem_cons_of_mem _ h)) (h.step ho h0 (hs op (List.mem_cons_self ..)))
theorem GP{nv:Nat}{ops:List Op}(ho:Gd nv ops){s0:List (List Int)}(h0:s0.length=nv):∀(k:Nat) (s:List (List Int)),sN ops s0 s→sN ops s0 (itO ops k s)
 |0,s,h=>h
 |k+1,s,h=>by rw[itO];exact GP ho h0 k _ (GO ho h0 ops s (λop h=>h) h)
theorem KL{nv:Nat}:∀ {a b:List Op},xE (λf g=>∀s,s.length=nv→f s=g s∧(f s).length=nv) a b→∀s,s.length=nv→GN a s=GN b s∧(GN a s).length=nv
 |_,_,.nil,s,h=>⟨rfl,h⟩
 |f::a,g::b,.cons h hs,s,hl=>by
  obtain⟨h1,h2⟩:=h s hl;rw[OC,OC,←h1];exact KL hs _ h2
theorem LZ{nv:Nat}{a b:List Op}(h:xE (λf g=>∀s,s.length=nv→f s=g s∧(f s).length=nv) a b):∀(k:Nat) (s:List (List Int)),s.length=nv→itO a k s=itO b k s
 |0,s,_=>rfl
 |k+1,s,hl=>by
  obtain⟨h1,h2⟩:=KL h s hl;rw[itO,itO,←h1];exact LZ h k _ h2
theorem GQ{α β γ:Type}{R:β→γ→Prop}{f:α→β}{g:α→γ}:∀ {l:List α},(∀x∈l,R (f x) (g x))→xE R (l.map f) (l.map g)
 |[],_=> .nil
 |x::l,h=> .cons (h x (List.mem_cons_self ..)) (GQ λy hy=>h y (List.mem_cons_of_mem _ hy))
theorem zdi{m:zD}{cons:Bool}{l:List (List zC)}(h:yN m l):xE (λf g=>∀s,s.length=m.vars.length→f s=g s∧(f s).length=m.vars.length) (oS m cons l) (zit m cons l):=by
 have hu:xE (λ(f g:Op)=>∀s,s.length=m.vars.length→f s=g s∧(f s).length=m.vars.length) (Mh l) (Mh l):=GQ λc hc s hs=>⟨rfl,(dX h hc).len hs⟩
 cases cons with
 |false=>exact hu
 |true=>exact xE.append (GQ λc hc s hs=>⟨zen (by rw[hs];exact h.cons c hc),(XG h hc).len hs⟩) hu
theorem zae{α β:Type}{R:α→β→Prop}:∀ {a:List α} {b:List β},xE R a b→∀x∈a,∃y∈b,R x y
 |_,_,.nil,x,h=>by cases h
 |u::a,v::b,.cons h hs,x,hx=>by
  rcases List.mem_cons.1 hx with rfl|hx
  ·exact⟨v,List.mem_cons_self ..,h⟩
  ·obtain⟨y,h1,h2⟩:=zae hs x hx
   exact⟨y,List.mem_cons_of_mem _ h1,h2⟩
theorem zb4{m:zD}{cons:Bool}{l:List (List zC)}(h:yN m l){s r:List (List Int)}(hs:s.length=m.vars.length)(k:Nat)(e:itO (zit m cons l) k s=r)(hf:zT r=false)(hst:((zit m cons l).all λop=>decide (op r=r))=true):sQ m cons l s=r:=by
 have ho:=zdi (cons:=cons) h;rw[←LZ ho k s hs]at e
 have hr:=GP (OB (cons:=cons) h) hs k s (sN.refl _ _);rw[e]at hr
 refine RW h hs (hr.stop hf λop hm=> ?_)
 obtain⟨g,hg,h2⟩:=zae ho op hm;rw[(h2 r (hr.le.1.trans hs)).1];exact of_decide_eq_true (List.all_eq_true.1 hst g hg)
theorem ziv{m:zD}{cons:Bool}{l:List (List zC)}(h:yN m l){s:List (List Int)}(hs:s.length=m.vars.length)(k:Nat)(hf:zT (itO (zit m cons l) k s)=true):sQ m cons l s=kX s:=by
 have ho:=zdi (cons:=cons) h;rw[←LZ ho k s hs]at hf
 exact RW h hs ((GP (OB (cons:=cons) h) hs k s (sN.refl _ _)).dead hf)
theorem zb5:yN xW []:=zad (by kernel_rfl)
theorem zb6{m:zD}{vs:List Int}(h:wholeM m vs=true):∀c∈m.cons,wH c vs=true:=λc hc=>by
 rw[wholeM,Bool.and_eq_true,Bool.not_eq_true',Bool.not_eq_true']at h
 have h2:=List.any_eq_false.1 h.2 c hc;simpa using h2
theorem zeo{m:zD}{cons:Bool}{l:List (List zC)}{s:List (List Int)}(h:yN m l)(hs:s.length=m.vars.length){vs:List Int}(hv:XB vs s)(h1:cons=true→∀c∈m.cons,wH c vs=true)(h2:∀c∈l,sY c vs=true):XB vs (sQ m cons l s):=
 (jN h hs).keeps hs hv λop hm=>by
  rcases pB.1 hm with⟨a,c,hc,rfl⟩|⟨c,hc,rfl⟩
  ·exact⟨_,XG h hc,h1 a c hc⟩
  ·exact⟨_,dX h hc,h2 c hc⟩
def ZR:xP:= {own:=[11,21,28],live:=[(0,([2,9,31,32,33],[21,28]))],n:=56,nils:=[(21,(4,(53,.list .lit)))],pubs:=[]}
def aM(a:List zS)(R:xK)(b:Nat)(c:Int)(d:List zO)(e:List zF)(f g:Int)(h:List (List zC)):Prop:=LP ZR Tryz.f37 [1,1,1,1,0,1,0,0] 0 b ⟨[(2,.sl .step a),(9,.ptr 21 0),(31,.sl .step a),(32,dI (a.length:Int)),(33,dI c)],[(21,.cells [.sl .var d,.sl .con e,dI f,dI g,.own 28]),(28,.row 53 (.list .lit) h)]⟩ (zQ 0 (sK ZR Tryz.f37 [1,1,1,1,1] 0 (eK Tryz.f37 R)))
theorem Mi(a:List zS)(R:xK)(g:Nat)(b:Int)(c:List zO)(d:List zF)(e f:Int)(h:List (List zC)):aM a R (g+1) b c d e f h=
 (zP (decide (b<(a.length:Int)))
 (wI b a.length=true∧
 ∃i:Bool,∃j:List (List zC),xD o6 [.ptr 1000 0,dSt (zR .step a b.toNat)] [(1000,.cells [.sl .var c,.sl .con d,dI e,dI f,.own 2000]),(2000,.row 53 (.list .lit) h)] (dB i) [(1000,.cells [.sl .var c,.sl .con d,dI e,dI f,.own 2000]),(2000,.row 53 (.list .lit) j)]∧
 zP (!i)
 (R (.tup [dB false,dI 0]))
 (aM a R g (yW (b+1)) c d e f j))
 (zP (decide (0<(a.length:Int)))
 (wI (yW ((a.length:Int)-1)) a.length=true∧
 R (.tup [dB (decide ((((zR .step a ((yW ((a.length:Int)-1)).toNat)).clause).length:Int)=0)),dI 0]))
 (R (.tup [dB false,dI 0])))):=by kernel_rfl
theorem GR(a:zD)(b:List (List zC))(c:List zS)(R:xK):FD ZR Tryz.f37 [dM a,.sl (.list .lit) b,.sl .step c] R=
 (yY Zw [dM a,.sl (.list .lit) b,.sl .step c] .int λd=>
 zP (!decide (d=0))
 (R (.tup [dB false,dI d]))
 (wD (.list .lit) b.length=true∧
 ∃n0,aM c R n0 0 a.vars a.cons a.goal a.var b)):=by kernel_rfl
theorem JK(a:zD)(b:List (List zC))(c:List zS):xL ZR Tryz.f37 fT [dM a,.sl (.list .lit) b,.sl .step c]:=xO Tryz.func37 (by kernel_rfl) Tryz.ntmps37 rfl
def jO:xP:= {own:=[10,13],live:=[(0,([2,3,33,34,35],[])),(2,([3,47,48,49],[]))],n:=70}
def gM(a:zD)(b:List zS)(R:xK)(c:Nat)(d:Int):Prop:=LP jO Tryz.f88 [1,1,1,1,1,0,1,0,0] 2 c ⟨[(3,.iptr (Sn a []) 0),(47,.sl .step b),(48,dI (b.length:Int)),(49,dI d)],[]⟩ (zQ 2 (sK jO Tryz.f88 [1,1,1,1,1,1] 0 (eK Tryz.f88 R)))
def aN(a:zD)(b:List zS)(R:xK)(c:Nat)(d:Int):Prop:=LP jO Tryz.f88 [1,1,1,1,0,1,0,0] 0 c ⟨[(2,.sl .step b),(3,.iptr (Sn a []) 0),(33,.sl .step b),(34,dI (b.length:Int)),(35,dI d)],[]⟩ (zQ 0 (sK jO Tryz.f88 [1,1,1,1,1] 0 (eK Tryz.f88 R)))
theorem WB(c:zD)(a:List zS)(R:xK)(d:Nat)(b:Int):gM c a R (d+1) b=
 (zP (decide (b<(a.length:Int)))
 (wI b a.length=true∧
 zP (decide (((zR .step a b.toNat).kind)=1))
 (zP (decide (((zR .step a b.toNat).con)<0))
 (R (dI 5))
 (zP (decide ((c.cons.length:Int)≤((zR .step a b.toNat).con)))
 (R (dI 5))
 (gM c a R d (yW (b+1)))))
 (gM c a R d (yW (b+1))))
 (R (dI 0))):=by kernel_rfl
theorem WC(c:zD)(a:List zS)(R:xK)(d:Nat)(b:Int):aN c a R (d+1) b=
 (zP (decide (b<(a.length:Int)))
 (wI b a.length=true∧
 yY hJ [dM c,.sl .lit ((zR .step a b.toNat).clause)] .int λe=>
 zP (!decide (e=0))
 (R (dI e))
 (aN c a R d (yW (b+1))))
 (∃n2,gM c a R n2 0)):=by kernel_rfl
theorem GS(a:zD)(b:List (List zC))(c:List zS)(R:xK):FD jO Tryz.f88 [dM a,.sl (.list .lit) b,.sl .step c] R=
 (yY tI [dM a] .int λd=>
 zP (!decide (d=0))
 (R (dI d))
 (zP (decide (600<(b.length:Int)))
 (R (dI 2))
 (zP (decide (6000<(c.length:Int)))
 (R (dI 2))
 (yY YI [dM a,.sl (.list .lit) b] .int λe=>
 zP (!decide (e=0))
 (R (dI e))
 (∃n0,aN a c R n0 0))))):=by kernel_rfl
theorem JL(a:zD)(b:List (List zC))(c:List zS):xL jO Tryz.f88 Zw [dM a,.sl (.list .lit) b,.sl .step c]:=xO Tryz.func88 (by kernel_rfl) Tryz.ntmps88 rfl
def Ye:xP:= {own:=[45],live:=[],n:=49}
theorem TL(c:List zO)(d:List zF)(e f:Int)(b:List (List zC))(a:zS)(R:oB):FH Ye Tryz.f89 [.ptr 1000 0,dSt a] [(1000,.cells [.sl .var c,.sl .con d,dI e,dI f,.own 2000]),(2000,.row 53 (.list .lit) b)] [.ptr 1000 0] false R=
 (zP (decide (a.kind=1))
 (yY fW [.agg [.sl .var c,.sl .con d,dI e,dI f],dI a.con,.sl .lit a.clause] .bool λg=>
 (wD (.list .lit) (b.length+([a.clause]).length)=true∧
 R (dB g) [(1000,.cells [.sl .var c,.sl .con d,dI e,dI f,.own 2000]),(2000,.row 53 (.list .lit) (b++([a.clause])))])∧
 (wD (.list .lit) (b.length+([a.clause]).length)=true∧
 R (dB g) [(1000,.cells [.sl .var c,.sl .con d,dI e,dI f,.own 2000]),(2000,.row 53 (.list .lit) (b++([a.clause])))])∧
 (wD (.list .lit) (b.length+([a.clause]).length)=true∧
 R (dB g) [(1000,.cells [.sl .var c,.sl .con d,dI e,dI f,.own 2000]),(2000,.row 53 (.list .lit) (b++([a.clause])))])∧
 (wD (.list .lit) (b.length+([a.clause]).length)=true∧
 R (dB g) [(1000,.cells [.sl .var c,.sl .con d,dI e,dI f,.own 2000]),(2000,.row 53 (.list .lit) (b++([a.clause])))])∧
 wD (.list .lit) (b.length+([a.clause]).length)=true∧
 R (dB g) [(1000,.cells [.sl .var c,.sl .con d,dI e,dI f,.own 2000]),(2000,.row 53 (.list .lit) (b++([a.clause])))])
 (zP (decide (a.kind=2))
 (zP (decide (a.con=0))
 (yY bF [.agg [.sl .var c,.sl .con d,dI e,dI f],.sl (.list .lit) b,.sl .lit a.clause] .bool λh=>
 (wD (.list .lit) (b.length+([a.clause]).length)=true∧
 R (dB h) [(1000,.cells [.sl .var c,.sl .con d,dI e,dI f,.own 2000]),(2000,.row 53 (.list .lit) (b++([a.clause])))])∧
 (wD (.list .lit) (b.length+([a.clause]).length)=true∧
 R (dB h) [(1000,.cells [.sl .var c,.sl .con d,dI e,dI f,.own 2000]),(2000,.row 53 (.list .lit) (b++([a.clause])))])∧
 (wD (.list .lit) (b.length+([a.clause]).length)=true∧
 R (dB h) [(1000,.cells [.sl .var c,.sl .con d,dI e,dI f,.own 2000]),(2000,.row 53 (.list .lit) (b++([a.clause])))])∧
 (wD (.list .lit) (b.length+([a.clause]).length)=true∧
 R (dB h) [(1000,.cells [.sl .var c,.sl .con d,dI e,dI f,.own 2000]),(2000,.row 53 (.list .lit) (b++([a.clause])))])∧
 wD (.list .lit) (b.length+([a.clause]).length)=true∧
 R (dB h) [(1000,.cells [.sl .var c,.sl .con d,dI e,dI f,.own 2000]),(2000,.row 53 (.list .lit) (b++([a.clause])))])
 ((wD (.list .lit) (b.length+([a.clause]).length)=true∧
 R (dB false) [(1000,.cells [.sl .var c,.sl .con d,dI e,dI f,.own 2000]),(2000,.row 53 (.list .lit) (b++([a.clause])))])∧
 (wD (.list .lit) (b.length+([a.clause]).length)=true∧
 R (dB false) [(1000,.cells [.sl .var c,.sl .con d,dI e,dI f,.own 2000]),(2000,.row 53 (.list .lit) (b++([a.clause])))])∧
 (wD (.list .lit) (b.length+([a.clause]).length)=true∧
 R (dB false) [(1000,.cells [.sl .var c,.sl .con d,dI e,dI f,.own 2000]),(2000,.row 53 (.list .lit) (b++([a.clause])))])∧
 (wD (.list .lit) (b.length+([a.clause]).length)=true∧
 R (dB false) [(1000,.cells [.sl .var c,.sl .con d,dI e,dI f,.own 2000]),(2000,.row 53 (.list .lit) (b++([a.clause])))])∧
 wD (.list .lit) (b.length+([a.clause]).length)=true∧
 R (dB false) [(1000,.cells [.sl .var c,.sl .con d,dI e,dI f,.own 2000]),(2000,.row 53 (.list .lit) (b++([a.clause])))]))
 ((wD (.list .lit) (b.length+([a.clause]).length)=true∧
 R (dB false) [(1000,.cells [.sl .var c,.sl .con d,dI e,dI f,.own 2000]),(2000,.row 53 (.list .lit) (b++([a.clause])))])∧
 (wD (.list .lit) (b.length+([a.clause]).length)=true∧
 R (dB false) [(1000,.cells [.sl .var c,.sl .con d,dI e,dI f,.own 2000]),(2000,.row 53 (.list .lit) (b++([a.clause])))])∧
 (wD (.list .lit) (b.length+([a.clause]).length)=true∧
 R (dB false) [(1000,.cells [.sl .var c,.sl .con d,dI e,dI f,.own 2000]),(2000,.row 53 (.list .lit) (b++([a.clause])))])∧
 (wD (.list .lit) (b.length+([a.clause]).length)=true∧
 R (dB false) [(1000,.cells [.sl .var c,.sl .con d,dI e,dI f,.own 2000]),(2000,.row 53 (.list .lit) (b++([a.clause])))])∧
 wD (.list .lit) (b.length+([a.clause]).length)=true∧
 R (dB false) [(1000,.cells [.sl .var c,.sl .con d,dI e,dI f,.own 2000]),(2000,.row 53 (.list .lit) (b++([a.clause])))]))):=by kernel_rfl
theorem Uz(a:List zO)(b:List zF)(c d:Int)(e:List (List zC))(f:zS):o9 Ye Tryz.f89 o6 [.ptr 1000 0,dSt f] [(1000,.cells [.sl .var a,.sl .con b,dI c,dI d,.own 2000]),(2000,.row 53 (.list .lit) e)] [.ptr 1000 0] false:=nV Tryz.func89 (by kernel_rfl) Tryz.ntmps89 rfl
def Pk:xP:= {own:=[],live:=[],n:=20}
theorem GT(a:zD)(b:Int)(c:List zC)(R:xK):FD Pk Tryz.f127 [dM a,dI b,.sl .lit c] R=
 (yY oY [dM a] (.list (.list .int)) λd=>
 yY mI [dS d,.sl .lit c] (.list (.list .int)) λe=>
 wI b a.cons.length=true∧
 yY o7 [dC (zR .con a.cons b.toNat),dS e] (.list (.list .int)) λf=>
 yY yT [dS f] .bool λg=>
 R (dB g)):=by kernel_rfl
theorem JM(a:zD)(b:Int)(c:List zC):xL Pk Tryz.f127 fW [dM a,dI b,.sl .lit c]:=xO Tryz.func127 (by kernel_rfl) Tryz.ntmps127 rfl
def Rh:xP:= {own:=[],live:=[],n:=17}
theorem JN(a:zD)(b:List (List zC))(c:List zC)(R:xK):FD Rh Tryz.f129 [dM a,.sl (.list .lit) b,.sl .lit c] R=
 (yY oY [dM a] (.list (.list .int)) λd=>
 yY mI [dS d,.sl .lit c] (.list (.list .int)) λe=>
 yY jI [dM a,dS e,dB false,.sl (.list .lit) b] (.list (.list .int)) λf=>
 yY yT [dS f] .bool λg=>
 R (dB g)):=by kernel_rfl
theorem L0(a:zD)(b:List (List zC))(c:List zC):xL Rh Tryz.f129 bF [dM a,.sl (.list .lit) b,.sl .lit c]:=xO Tryz.func129 (by kernel_rfl) Tryz.ntmps129 rfl
noncomputable def nZ (m:zD)(con:Int)(c:List zC):Bool:=zT (yM (yL m con) (fD (xT m) c))
noncomputable def UA (m:zD)(l:List (List zC))(c:List zC):Bool:=zT (sQ m false l (fD (xT m) c))
noncomputable def Ze (m:zD)(all:List (List zC))(st:zS):Bool:=if st.kind=1 then nZ m st.con st.clause else if st.kind=2 then decide (st.con=0)&&UA m all st.clause else false
noncomputable def qB (m:zD):List (List zC)→List zS→Bool
 |_,[]=>true
 |all,st::l=>Ze m all st&&qB m (all++[st.clause]) l
def cP(l:List zS):Bool:=decide (0<l.length)&&decide (((l.getD (l.length-1) ⟨0,0,[]⟩).clause).length=0)
noncomputable def kE (m:zD)(given:List (List zC))(l:List zS):Bool:=qB m given l&&cP l
theorem xI{m:zD}:(xT m).length=m.vars.length:=List.length_map ..
theorem gN{m:zD}{v:Nat}(hv:v<m.vars.length):(xT m).getD v []=Vp m.vars[v]:=by
 rw[yA _ (by rw[xI];exact hv)];simp[xT]
theorem cQ{v:zO}{n:Int}:n∈Vp v↔v.lo≤n∧n≤v.hi:=by rw[Vp,Uu];omega
theorem Yf{m:zD}:jW m (xT m)=0:=by
 refine Wq.2 ⟨xI,λv n hn=> ?_,λl hl=> ?_⟩
 ·by_cases hv:v<m.vars.length
  ·rw[gN hv,cQ]at hn
   rw[yA _ hv];exact hn
  ·rw[sU (by rw[xI];omega)]at hn;cases hn
 ·obtain⟨v,hv,rfl⟩:=List.mem_map.1 hl
  exact Om
theorem YX{s:List (List Int)}{c:List zC}:fO (fD s c) s:=XC
theorem zaf{m:zD}{c:List zC}:jW m (fD (xT m) c)=0:=RV Yf YX
theorem DG{m:zD}(h:Right m){c:List zC}:iP (fD (xT m) c) m.vars.length:=Yd h zaf
theorem Ij{m:zD}(hr:Right m):uG oY [dM m] (dS (xT m)):=F8 hr.lohi hr.vars
theorem Ri{m:zD}{con:Int}{c:List zC}(h:U6 m con=0):uG fW [dM m,dI con,.sl .lit c] (dB (nZ m con c)):=
 JM m con c λok=>by
  obtain⟨hr,hc⟩:=pT h;have hg:=DG hr (c:=c);have hl:=hg.len;rw[GT];refine zG (Ij hr) (zG (Ww _ _) ⟨vE.2 hc,zG (eJ (c:=yL m con) (by rw[hl];exact rZ h) (by rw[hl];exact hg)) (zG (wG _) rfl)⟩)
theorem JO{m:zD}{l:List (List zC)}{c:List zC}(h:yN m l)(hl:l.length≤1000000000):uG bF [dM m,.sl (.list .lit) l,.sl .lit c] (dB (UA m l c)):=
 L0 m l c λok=>by
  rw[JN];exact zG (Ij h.right) (zG (Ww _ _) (zG (XH h (DG h.right) hl) (zG (wG _) rfl)))
theorem VD{a b:Int}(h:or0 a b=0):a=0∧b=0:=by
 by_cases e:a=0
 ·rw[VZ e]at h;exact⟨e,h⟩
 ·rw[MT e]at h;exact absurd h e
structure Ik (m:zD)(given:List (List zC))(l:List zS):Prop where
 chk:yR m=0
 glen:given.length≤600
 slen:l.length≤6000
 gcl:∀c∈given,yJ m.vars.length c=0
 scl:∀s∈l,yJ m.vars.length s.clause=0
 con:∀s∈l,s.kind=1→0≤s.con∧s.con<(m.cons.length:Int)
def eL(m:zD)(s:zS):Int:=if s.kind=1∧(s.con<0∨(m.cons.length:Int)≤s.con)then 5 else 0
def oo(m:zD)(given:List (List zC))(l:List zS):Int:=
 if 600<given.length∨6000<l.length then 2 else or0 (YW m.vars.length given) (or0 (xU (λ_ s=>yJ m.vars.length s.clause) 0 l) (xU (λ_ s=>eL m s) 0 l))
def zep(m:zD)(given:List (List zC))(l:List zS):Int:=or0 (yR m) (oo m given l)
theorem UB{m:zD}{given:List (List zC)}{l:List zS}(h:yR m=0)(h2:oo m given l=0):Ik m given l:=by
 unfold oo at h2
 split at h2
 ·exact absurd h2 (by decide)
 rename_i h3;obtain⟨h4,h5⟩:=VD h2;obtain⟨h6,h7⟩:=VD h5;obtain⟨h8,h9⟩:=Bg h4;refine⟨h,h8,by omega,h9,λs hs=> ?_,λs hs hk=> ?_⟩
 ·obtain⟨i,hi,rfl⟩:=List.getElem_of_mem hs
  exact dP h6 hi
 ·obtain⟨i,hi,rfl⟩:=List.getElem_of_mem hs
  have:=dP h7 hi;simp only[eL,hk,true_and]at this
  split at this
  ·exact absurd this (by decide)
  ·omega
theorem zeq{m:zD}{given:List (List zC)}{l:List zS}(h:zep m given l=0):Ik m given l:=let⟨a,b⟩:=VD h;UB a b
theorem GU(m:zD)(given:List (List zC))(l:List zS):uG Zw [dM m,.sl (.list .lit) given,.sl .step l] (dI (zep m given l)):=
 JL m given l λok=>by
  rw[GS];refine zG (pG m) (zA (λe=> ?_) λe=> ?_)
  ·exact sT (MT (pP e))
  rw[zep,VZ (tZ e)];refine zA (λf=> ?_) λf=>zA (λg=> ?_) λg=> ?_
  ·exact sT (if_pos (.inl (by simp at f;omega)))
  ·exact sT (if_pos (.inr (by simp at g;omega)))
  have f:¬600<given.length:=by simp at f;omega
  have g:¬6000<l.length:=by simp at g;omega
  rw[oo,if_neg (by omega)]
  refine zG (Es m given) (zA (λe=> ?_) λe=> ?_)
  ·exact sT (MT (pP e))
  rw[VZ (tZ e)];refine zkB (I:=λn v=>aN m l _ n v) l (λ_ s=>yJ m.vars.length s.clause) (by omega) (X:=λx=>D.int .i64 x=dI (or0 (xU (λ_ s=>yJ m.vars.length s.clause) 0 l) (xU (λ_ s=>eL m s) 0 l))) (λe=>by rw[MT e]) (λn k h _ hX hn=> ?_) λh0 n=> ?_
  ·rw[WC,yK h,zX (t:=.step) h]
   exact⟨zM h,zG (U5 m _) (zA (λe=>hX (pP e)) λe=>hn (tZ e))⟩
  ·rw[WC,zW,VZ h0]
   refine zdW (I:=λn v=>gM m l _ n v) l (λ_ s=>eL m s) (by omega) (X:=λx=>D.int .i64 x=dI (xU (λ_ s=>eL m s) 0 l)) (Y:=D.int .i64 0=dI (xU (λ_ s=>eL m s) 0 l)) (λ_=>rfl) (λe=>sT e) (λn k h _ hX hn=> ?_) λn hY=> ?_
   ·rw[WB,yK h,zX (t:=.step) h]
    refine⟨zM h,zA (λe=>zA (λf=> ?_) λf=>zA (λg=> ?_) λg=> ?_) λe=> ?_⟩
    ·rw[eL,if_pos ⟨of_decide_eq_true e,.inl (of_decide_eq_true f)⟩]at hX;exact hX (by decide)
    ·rw[eL,if_pos ⟨of_decide_eq_true e,.inr (of_decide_eq_true g)⟩]at hX;exact hX (by decide)
    ·exact hn (if_neg λx=>by have:=of_decide_eq_false f;have:=of_decide_eq_false g;omega)
    ·exact hn (if_neg λx=>of_decide_eq_false e x.1)
   ·rw[WB,zW];exact hY
theorem zag{m:zD}{all:List (List zC)}(h:yR m=0)(hc:∀c∈all,yJ m.vars.length c=0):yN m all:=nR h hc
abbrev hpC(m:zD)(all:List (List zC)):List (Nat×yI):=[(1000,.cells [.sl .var m.vars,.sl .con m.cons,.int .i64 m.goal,.int .i64 m.var,.own 2000]),(2000,.row 53 (.list .lit) all)]
theorem TM{m:zD}{all:List (List zC)}{st:zS}(h:yR m=0)(hc:∀c∈all,yJ m.vars.length c=0)(hl:all.length≤10000)(hcon:st.kind=1→0≤st.con∧st.con<(m.cons.length:Int)):
  xD o6 [.ptr 1000 0,.agg [.int .i64 st.kind,.int .i64 st.con,.sl .lit st.clause]] (hpC m all) (.bool (Ze m all st)) (hpC m (all++[st.clause])):=
 Uz m.vars m.cons m.goal m.var all st λ_ _=>by
  have hr:wD (.list .lit) (all.length+([st.clause]).length)=true:=xX (t:=.list .lit) (by show(_+1)*24≤_;omega)
  rw[TL];refine zA (λe=> ?_) λe=>zA (λf=>zA (λg=> ?_) λg=> ?_) λf=> ?_
  ·have e:=of_decide_eq_true e
   refine zG (Ri (OA h (hcon e))) ?_;have hs:Ze m all st=nZ m st.con st.clause:=if_pos e;rw[hs]
   repeat'(first|exact hr|exact rfl|apply And.intro)
  ·have e:=of_decide_eq_false e
   have f:=of_decide_eq_true f;refine zG (JO (zag h hc) (by omega)) ?_
   have hs:Ze m all st=UA m all st.clause:=by rw[Ze,if_neg e,if_pos f,g,Bool.true_and]
   rw[hs]
   repeat'(first|exact hr|exact rfl|apply And.intro)
  ·have e:=of_decide_eq_false e
   have f:=of_decide_eq_true f;have hs:Ze m all st=false:=by rw[Ze,if_neg e,if_pos f,g,Bool.false_and]
   rw[hs]
   repeat'(first|exact hr|exact rfl|apply And.intro)
  ·have hs:Ze m all st=false:=by rw[Ze,if_neg (of_decide_eq_false e),if_neg (of_decide_eq_false f)]
   rw[hs]
   repeat'(first|exact hr|exact rfl|apply And.intro)
theorem ziw{l:List zS}(h:0<l.length):zR .step l ((yW ((l.length:Int)-1)).toNat)=l.getD (l.length-1) ⟨0,0,[]⟩∧wI (yW ((l.length:Int)-1)) l.length=true∨9223372036854775807<l.length:=by
 by_cases hb:l.length≤9223372036854775807
 ·rw[rE (by omega) (by omega),show((l.length:Int)-1).toNat=l.length-1 by omega]
  exact .inl ⟨rfl,vE.2 (by omega)⟩
 ·exact .inr (by omega)
theorem Rj(m:zD)(given:List (List zC))(l:List zS):uG fT [dM m,.sl (.list .lit) given,.sl .step l] (.tup [dB (orB (zep m given l) (kE m given l)),dI (zep m given l)]):=
 JK m given l λok=>by
  rw[GR];refine zG (GU m given l) (zA (λe=> ?_) λe=> ?_)
  ·rw[zjA (pP e)]
  have e:=tZ e;have hk:=zeq e;have hg:=hk.glen;have hsl:=hk.slen;rw[zh8 e,e];refine⟨xX (t:=.list .lit) (by show _*24≤_;omega),?_⟩
  refine up (I:=λn v a=>aM l _ n v m.vars m.cons m.goal m.var a) 0 l.length rfl (Nat.zero_le _) (by omega) (λk a=>a.length=given.length+k∧(∀c∈a,yJ m.vars.length c=0)∧qB m given l=qB m a (l.drop k)) ⟨rfl,hk.gcl,rfl⟩ λn k a _ hk2 ha hn=> ?_
  obtain⟨h1,h2,h3⟩:=ha;rw[Mi]
  by_cases h:k<l.length
  ·rw[yK h,zX (t:=.step) h]
   have hm:=List.getElem_mem h;refine⟨zM h,_,_,TM hk.chk h2 (by omega) (hk.con _ hm),?_⟩
   rw[List.drop_eq_getElem_cons h,qB]at h3
   refine zA (λf=> ?_) λf=>hn h _ ⟨?_,λc hc=> ?_,?_⟩
   ·have f:Ze m a l[k]=false:=by simpa using f
    rw[f,Bool.false_and]at h3
    rw[kE,h3];rfl
   ·rw[List.length_append,h1];rfl
   ·rcases List.mem_append.1 hc with hc|hc
    ·exact h2 c hc
    ·rw[List.mem_singleton.1 hc];exact hk.scl _ hm
   ·have f:Ze m a l[k]=true:=by simpa using f
    rw[f,Bool.true_and]at h3
    exact h3
  ·have hk':k=l.length:=by omega
   subst hk';rw[List.drop_length]at h3
   have h3:qB m given l=true:=h3;rw[zW,kE,h3,Bool.true_and,cP];refine zA (λf=> ?_) λf=> ?_
   ·have f:0<l.length:=by simpa using f
    obtain⟨q1,q2⟩:=(ziw f).resolve_right (by omega)
    refine⟨q2,?_⟩;rw[q1,decide_eq_true f,Bool.true_and]
    congr 3
    exact decide_eq_decide.2 ⟨λe=>by omega,λe=>by omega⟩
   ·have f:¬0<l.length:=by simpa using f
    rw[decide_eq_false f];rfl
theorem zb7{m:zD}{vs:List Int}(hl:vs.length=m.vars.length)(h:wholeM m vs=true):XB vs (xT m):=by
 refine⟨by rw[xI,hl],λv hv=> ?_⟩
 rw[xI]at hv
 rw[gN hv,cQ,yA _ (show v<vs.length by omega)]
 rw[wholeM,Bool.and_eq_true,Bool.not_eq_true']at h
 have hz:v<(m.vars.zip vs).length:=by rw[List.length_zip];omega
 have h2:=List.any_eq_false.1 h.1 _ (List.getElem_mem hz);rw[List.getElem_zip,Bool.not_eq_true,Bool.not_eq_false']at h2
 exact B4.1 h2
theorem zdj{s:List (List Int)}{c:List zC}{vs:List Int}(hv:XB vs s)(hc:∀l∈c,0≤l.var)(h:sY c vs=false):XB vs (fD s c):=by
 refine⟨hv.1.trans YX.1.symm,λv hl=> ?_⟩
 rw[fD,uE]at hl
 rw[fD,uD,List.mem_filter];refine⟨hv.2 v hl,?_⟩;rw[Bool.not_eq_true'];cases e:atC c v (vs.getD v 0)
 ·rfl
 ·obtain⟨l,h1,h2,h3⟩:=Vy.1 e
  have:sY c vs=true:=nQ.2 ⟨l,h1,by rw[h2,Int.toNat_natCast];exact h3⟩
  rw[h]at this;cases this
theorem zah{m:zD}{con:Int}{c:List zC}(h:U6 m con=0)(hc:yJ m.vars.length c=0){vs:List Int}(hv:XB vs (xT m))(ht:wH (yL m con) vs=true)(hb:nZ m con c=true):sY c vs=true:=by
 cases e:sY c vs with
 |true=>rfl
 |false=>
  obtain⟨hr,_⟩:=pT h;have hd:=zdj hv (λl hl=>(oz.1 ((aD hc).2 l hl)).1.1) e
  have hop:=Y7 (rZ h) (by have:=hr.some;omega)
  have:=(hop.keeps (YX.1.trans xI) hd ht).fail;rw[nZ,this]at hb;cases hb
theorem Bh{m:zD}{l:List (List zC)}{c:List zC}(h:yN m l)(hc:yJ m.vars.length c=0){vs:List Int}(hv:XB vs (xT m))(ht:∀c∈l,sY c vs=true)(hb:UA m l c=true):sY c vs=true:=by
 cases e:sY c vs with
 |true=>rfl
 |false=>
  have hd:=zdj hv (λl hl=>(oz.1 ((aD hc).2 l hl)).1.1) e
  have:=(zeo (cons:=false) h (YX.1.trans xI) hd (λe=>by cases e) ht).fail
  rw[UA,this]at hb;cases hb
theorem Mj{m:zD}{vs:List Int}(hm:yR m=0)(hv:XB vs (xT m))(hw:∀c∈m.cons,wH c vs=true):∀(l:List zS) (all:List (List zC)),(∀c∈all,yJ m.vars.length c=0)→(∀s∈l,yJ m.vars.length s.clause=0)→(∀s∈l,s.kind=1→0≤s.con∧s.con<(m.cons.length:Int))→(∀c∈all,sY c vs=true)→qB m all l=true→∀s∈l,sY s.clause vs=true
 |[],_,_,_,_,_,_,s,hs=>by cases hs
 |st::l,all,h1,h2,h3,h4,h5,s,hs=>by
  rw[qB,Bool.and_eq_true]at h5
  obtain⟨h5,h6⟩:=h5;have hc:=h2 st (List.mem_cons_self ..)
  have hst:sY st.clause vs=true:=by
   rw[Ze]at h5
   split at h5
   ·rename_i hk
    have hcon:=h3 st (List.mem_cons_self ..) hk;refine zah (OA hm hcon) hc hv (hw _ ?_) h5;rw[yL,yA _ (show st.con.toNat<m.cons.length by omega)]
    exact List.getElem_mem _
   ·split at h5
    ·rw[Bool.and_eq_true]at h5
     exact Bh (nR hm h1) hc hv h4 h5.2
    ·cases h5
  rcases List.mem_cons.1 hs with rfl|hs
  ·exact hst
  ·refine Mj hm hv hw l _ (λc hc2=> ?_) (λs hs=>h2 s (List.mem_cons_of_mem _ hs)) (λs hs=>h3 s (List.mem_cons_of_mem _ hs)) (λc hc2=> ?_) h6 s hs
   ·rcases List.mem_append.1 hc2 with hc2|hc2
    ·exact h1 c hc2
    ·rw[List.mem_singleton.1 hc2];exact hc
   ·rcases List.mem_append.1 hc2 with hc2|hc2
    ·exact h4 c hc2
    ·rw[List.mem_singleton.1 hc2];exact hst
theorem Rk{m:zD}{given:List (List zC)}{l:List zS}{vs:List Int}(hk:Ik m given l)(hl:vs.length=m.vars.length)(hw:wholeM m vs=true)(hg:∀c∈given,sY c vs=true):kE m given l=false:=by
 cases e:kE m given l with
 |false=>rfl
 |true=>
  rw[kE,cP,Bool.and_eq_true,Bool.and_eq_true,decide_eq_true_iff,decide_eq_true_iff]at e
  obtain⟨h1,h2,h3⟩:=e;have hi:l.length-1<l.length:=by omega
  have:=Mj hk.chk (zb7 hl hw) (zb6 hw) l given hk.gcl hk.scl hk.con hg h1 _ (List.getElem_mem hi);rw[yA _ hi]at h3
  rw[List.length_eq_zero_iff.1 h3]at this
  cases this
theorem zer{m:zD}{vs:List Int}(h:H9 m vs=0):yR m=0∧vs.length=m.vars.length:=by
 unfold H9 at h
 split at h
 ·rename_i h1;exact absurd h h1
 rename_i h1;split at h
 ·exact absurd h (by decide)
 rename_i h2;exact⟨Decidable.not_not.1 h1,Decidable.not_not.1 h2⟩
def U9:xP:= {own:=[],live:=[],n:=28}
theorem L1(a:zD)(b:Int)(c:List (List Int))(R:xK):FD U9 Tryz.f294 [dM a,dI b,dS c] R=
 (yY yT [dS c] .bool λd=>
 zP d
 (R (.tup [.sl .lit ([]:List zC),dB false]))
 (wI b a.cons.length=true∧
 yY o7 [dC (zR .con a.cons b.toNat),dS c] (.list (.list .int)) λe=>
 yY yT [dS e] .bool λf=>
 zP (!f)
 (R (.tup [.sl .lit ([]:List zC),dB false]))
 (yY hU [dM a,dI b,dS c] (.list .lit) λg=>
 yY mK [dM a,dI b,.sl .lit ([]:List zC),.sl .lit g] (.list .lit) λh=>
 R (.tup [.sl .lit h,dB true])))):=by kernel_rfl
theorem Mk(a:zD)(b:Int)(c:List (List Int)):xL U9 Tryz.f294 eV [dM a,dI b,dS c]:=xO Tryz.func294 (by kernel_rfl) Tryz.ntmps294 rfl
def Rl:xP:= {own:=[],live:=[],n:=48}
theorem JP(c:zD)(d:Int)(a:List (List Int))(b e:Int)(R:xK):FD Rl Tryz.f295 [dM c,dI d,dS a,dI b,dI e] R=
 (yY yT [dS a] .bool λg=>
 zP g
 (R (.tup [.sl .lit ([]:List zC),dB false]))
 (wI b a.length=true∧
 yY xY [.sl .int (zR (.list .int) a b.toNat),dI e] .bool λh=>
 zP (!h)
 (R (.tup [.sl .lit ([]:List zC),dB false]))
 (wI d c.cons.length=true∧
 yY o7 [dC (zR .con c.cons d.toNat),dS a] (.list (.list .int)) λf=>
 wI b f.length=true∧
 yY xY [.sl .int (zR (.list .int) f b.toNat),dI e] .bool λi=>
 zP i
 (R (.tup [.sl .lit ([]:List zC),dB false]))
 (yY hU [dM c,dI d,dS a] (.list .lit) λj=>
 yY mK [dM c,dI d,.sl .lit ([(⟨b,4,e⟩:zC)]),.sl .lit j] (.list .lit) λk=>
 R (.tup [.sl .lit k,dB true]))))):=by kernel_rfl
theorem L2(a:zD)(b:Int)(c:List (List Int))(d e:Int):xL Rl Tryz.f295 bN [dM a,dI b,dS c,dI d,dI e]:=xO Tryz.func295 (by kernel_rfl) Tryz.ntmps295 rfl
def fo:xP:= {own:=[],live:=[(0,([1,2,3,4,9],[]))],n:=38}
def nL(a:zD)(b:Int)(c:List zC)(R:xK)(d:Nat)(e:List zC)(f:Int):Prop:=LP fo Tryz.f311 [1,0,1,0,0] 0 d ⟨[(1,dI b),(2,.sl .lit c),(3,.sl .lit e),(4,.iptr (Sn a []) 0),(9,dI f)],[]⟩ (zQ 0 (sK fo Tryz.f311 [1,1] 0 (eK Tryz.f311 R)))
theorem Yg(d:zD)(e:Int)(c:List zC)(R:xK)(f:Nat)(a:List zC)(b:Int):nL d e c R (f+1) a b=
 (zP (decide (b<(a.length:Int)))
 (R4 0 b a.length=true∧
 R4 (yW (b+1)) (a.length:Int) a.length=true∧
 yY xZ [.sl (.list .lit) ([(a.take b.toNat).drop 0,(a.take (a.length:Int).toNat).drop (yW (b+1)).toNat])] (.list .lit) λg=>
 yY xZ [.sl (.list .lit) ([c,g])] (.list .lit) λh=>
 yY fW [dM d,dI e,.sl .lit h] .bool λi=>
 zP i
 (nL d e c R f g b)
 (nL d e c R f a (yW (b+1))))
 (yY xZ [.sl (.list .lit) ([c,a])] (.list .lit) λj=>
 R (.sl .lit j))):=by kernel_rfl
theorem Ml(a:zD)(b:Int)(c d:List zC)(R:xK):FD fo Tryz.f311 [dM a,dI b,.sl .lit c,.sl .lit d] R=
 (∃n0,nL a b c R n0 d 0):=by kernel_rfl
theorem OD(a:zD)(b:Int)(c d:List zC):xL fo Tryz.f311 mK [dM a,dI b,.sl .lit c,.sl .lit d]:=xO Tryz.func311 (by kernel_rfl) Tryz.ntmps311 rfl
def pJ:xP:= {own:=[7,50],live:=[(0,([2,3,7,16,17,18],[7])),(2,([2,3,7,9,10,16,17,18],[7]))],n:=53}
def jA(a:zD)(d:List (List Int))(R:xK)(b:List Int)(e:Nat)(c:Int)(f:Nat)(g:Int)(h:List zC):Prop:=LP pJ Tryz.f312 [1,1,0,1,0,0,1,1,0,0,1,1,0,0] 2 f ⟨[(2,dS d),(3,.iptr (Sn a []) 0),(7,.own 7),(9,dI (zR .int b c.toNat)),(10,dI g),(16,.sl .int b),(17,dI (b.length:Int)),(18,dI c)],[(7,.row 114 .lit h)]⟩ (zQ 2 (zQ 1 (sK pJ Tryz.f312 [1,1,0,1,0,0,1,1,1] 0 (iK pJ Tryz.f312 [1,1,0,1,0,0] 0 e (zQ 0 (sK pJ Tryz.f312 [1,1,1] 0 (eK Tryz.f312 R)))))))
def dD(a:zD)(c:List (List Int))(R:xK)(b:List Int)(d:Nat)(e:Int)(f:List zC):Prop:=LP pJ Tryz.f312 [1,1,0,1,0,0] 0 d ⟨[(2,dS c),(3,.iptr (Sn a []) 0),(7,.own 7),(16,.sl .int b),(17,dI (b.length:Int)),(18,dI e)],[(7,.row 114 .lit f)]⟩ (zQ 0 (sK pJ Tryz.f312 [1,1,1] 0 (eK Tryz.f312 R)))
theorem OE(d:zD)(e:List (List Int))(R:xK)(a:List Int)(g:Nat)(b:Int)(h:Nat)(c:Int)(f:List zC):jA d e R a g b (h+1) c f=
 (wI (zR .int a b.toNat) d.vars.length=true∧
 zP (decide (c≤((zR .var d.vars ((zR .int a b.toNat).toNat)).hi)))
 (wI (zR .int a b.toNat) e.length=true∧
 yY xY [.sl .int (zR (.list .int) e ((zR .int a b.toNat).toNat)),dI c] .bool λi=>
 zP (!i)
 (wD .lit (f.length+([(⟨zR .int a b.toNat,3,c⟩:zC)]).length)=true∧
 jA d e R a g b h (yW (c+1)) (f++([(⟨zR .int a b.toNat,3,c⟩:zC)])))
 (jA d e R a g b h (yW (c+1)) f))
 (dD d e R a g (yW (b+1)) f)):=by kernel_rfl
theorem OG(c:zD)(e:List (List Int))(R:xK)(a:List Int)(f:Nat)(b:Int)(d:List zC):dD c e R a (f+1) b d=
 (zP (decide (b<(a.length:Int)))
 (wI b a.length=true∧
 wI (zR .int a b.toNat) c.vars.length=true∧
 ∃n2,jA c e R a f b n2 ((zR .var c.vars ((zR .int a b.toNat).toNat)).lo) d)
 (R (.sl .lit d))):=by kernel_rfl
theorem JQ(a:zD)(b:Int)(c:List (List Int))(R:xK):FD pJ Tryz.f312 [dM a,dI b,dS c] R=
 (wI b a.cons.length=true∧
 yY oZ [dC (zR .con a.cons b.toNat)] (.list .int) λd=>
 ∃n0,dD a c R d n0 0 ([]:List zC)):=by kernel_rfl
theorem L3(a:zD)(b:Int)(c:List (List Int)):xL pJ Tryz.f312 hU [dM a,dI b,dS c]:=xO Tryz.func312 (by kernel_rfl) Tryz.ntmps312 rfl
theorem zes(w:World):Calls Tryz.prog 320 #[.slice none 0 0,.int .i64 0] w λe w'=>e=.returned (.slice none 0 0)∧w=w':=by
 go_enter Tryz.func320,Tryz.ntmps320
 go_wp2
 all_goals go_ret
 all_goals exact⟨rfl,rfl⟩
set_option maxRecDepth 100000 in
theorem zet(n:Nat)(h0:0<n)(h:n*24≤140737488355328)(w:World):Calls Tryz.prog 320 #[.slice none 0 0,.int .i64 n] w λe w'=>∃cap cells,e=.returned (.slice (some ⟨w.heap.size,0,none⟩) 0 cap)∧w'.heap[w.heap.size]? =some (.cells cells 114 (0,0))∧cells.size=cap*3∧cap≤maxLen∧w'.heap.size=w.heap.size+1∧Below w.heap.size w w':=by
 go_enter Tryz.func320,Tryz.ntmps320
 have happ:=Lib.run_append_nil_zeros (P:=Tryz.prog) w 53 3 53 114 Tryz.t114 (.agg #[.int .i64 0,.int .i64 0,.int .i64 0]) .i64 .i64 Tryz.underlying53 Tryz.underlying3 (by kernel_rfl) (by kernel_rfl) n h0 (by decide) (by omega) (by show n*24≤_;omega)
 have hcap:=grownCap_le_maxLen w n 0 114 (by unfold maxLen;omega)
 have hge:=grownCap_ge w n 0 114;generalize grownCap w n 0 114=cap at happ hcap hge
 have hZs:(Builtin.zeroCells (Value.agg #[.int .i64 0,.int .i64 0,.int .i64 0]).cells n++Builtin.zeroCells (Value.agg #[.int .i64 0,.int .i64 0,.int .i64 0]).cells (cap-n)).size=cap*3:=by
  simp[size_zeroCells,Value.cells];omega
 generalize Builtin.zeroCells (Value.agg #[.int .i64 0,.int .i64 0,.int .i64 0]).cells n++Builtin.zeroCells (Value.agg #[.int .i64 0,.int .i64 0,.int .i64 0]).cells (cap-n)=Z at happ hZs
 go_wp2_with (at_builtin;refine Lib.wpList_append_run _ rfl _ _ _ _ rfl _ _ rfl rfl _ _ happ ?_)
 go_ret
 exact⟨cap,Z,rfl,heap_alloc_new w _,hZs,hcap,by simp,⟨rfl,rfl,rfl,by simp,λk hk=>Below.heap_alloc w _ k hk⟩⟩
theorem Il{w w':World}{S:Nat→Prop}{pl:Nat→Value}{v:Value}{e:TypeId}{t:Ty}{xs:List t.den}(hS:∀b,S b→b<w.heap.size)(hob:∀pl',ZW w' S pl' v (.row e t xs))(hb:∀b,qK v=some b→w.heap.size≤b∧b<w'.heap.size)(hw:Below w.heap.size w w'):
  ∃v' S' pl',Ending.returned v=.returned v'∧Rd w' S' pl' v' (.own 3000)∧Ch w' S' pl' [(3000,.row e t xs)]∧(∀b,S' b→b<w'.heap.size)∧(∀b,S' b→S b∨ox pl [] b∨w.heap.size≤b)∧
   (∀b,ox pl' [(3000,.row e t xs)] b→ox pl [] b∨w.heap.size≤b)∧(∀k,stabK k=true→pl' k=pl k)∧sP w.heap.size (ox pl []) w w':=by
 have hlook:∀k o,zV k [(3000,yI.row e t xs)]=some o→k=3000∧o=.row e t xs:=λk o h=>by
  rw[xM]at h
  split at h
  ·rename_i hk;injection h with h;exact⟨hk.symm,h.symm⟩
  ·cases h
 refine⟨v,S,λj=>if j=3000 then v else pl j,rfl,(if_pos rfl).symm,⟨λk o h=> ?_,λk o b h hb2=> ?_,λk k' o o' b h h' _ _=> ?_⟩,λb h=>Nat.lt_of_lt_of_le (hS b h) hw.size,λb h=> .inl h,λb h=> ?_,λk hk=>if_neg (λe=>by rw[e]at hk;cases hk),.of hw⟩
 ·obtain⟨rfl,rfl⟩:=hlook k o h
  exact hob _
 ·obtain⟨rfl,rfl⟩:=hlook k o h
  have hb2:qK v=some b:=hb2;exact⟨(hb b hb2).2,λhs=>by have:=hS b hs;have:=(hb b hb2).1;omega⟩
 ·rw[(hlook k o h).1,(hlook k' o' h').1]
 ·obtain⟨k,o,h1,h2⟩:=h
  obtain⟨rfl,rfl⟩:=hlook k o h1;have h2:qK v=some b:=h2;exact .inr (hb b h2).1
theorem GV(n:Nat)(hn:n*24≤140737488355328):xD rK [.nil,dI n] [] (.own 3000) [(3000,.row 114 .lit [])]:=by
 intro w S vs pl hS hl hv hh _;have e0:vs.getD 0 undef=.slice none 0 0:=Rp.nil_inv (hv 0 _ rfl);have e1:vs.getD 1 undef=.int .i64 n:=(Rp.int_inv (hv 1 _ rfl)).1
 have ev:vs= #[.slice none 0 0,.int .i64 n]:=by
  have hl2:vs.size=2:=hl;apply Array.ext (by simp[hl2])
  intro i h1 h2;simp[Array.getD_eq_getD_getElem?]at e0 e1
  match i,h1 with
  |0,h1=>rw[Array.getElem?_eq_getElem h1]at e0;simpa using e0
  |1,h1=>rw[Array.getElem?_eq_getElem h1]at e1;simpa using e1
  |i+2,h1=>exact absurd h1 (by omega)
 subst ev
 by_cases h0:n=0
 ·subst h0
  refine(zes w).mono λe w' ⟨he,hw⟩=> ?_
  subst he hw;exact Il (t:=.lit) (xs:=[]) hS (λpl'=>⟨by show 0*24≤lim;exact Nat.le_of_ble_eq_true rfl,[],rfl,⟨rfl,.inl ⟨rfl,rfl⟩⟩,λcs h=>(by cases h),λi x cs h=>(by cases h)⟩) (λb h=>by cases h) (Below.refl _ _)
 ·refine(zet n (by omega) hn w).mono λe w' ⟨cap,cells,he,h1,h2,h3,h4,h5⟩=> ?_
  subst he;refine Il (t:=.lit) (xs:=[]) hS (λpl'=>⟨by show 0*24≤lim;exact Nat.le_of_ble_eq_true rfl,[],rfl,⟨rfl,.inr ⟨w.heap.size,cap,cells,rfl,Nat.zero_le _,h1,Nat.zero_le _,h3,h2,rfl⟩⟩,λcs h=>(by cases h),λi x cs h=>(by cases h)⟩) (λb h=> ?_) h5
  have:w.heap.size=b:=by injection h
  omega
theorem fu{ls:List (List zC)}(hl:ls.length≤1000)(hr:∀l∈ls,l.length≤1000000):uG xZ [.sl (.list .lit) ls] (.sl .lit ls.flatten):=
 fJ ls λok=>by
  have flat:∀k,((ls.take k).flatten).length≤k*1000000:=λk=>by
   have h1:∀xs:List (List zC),(∀l∈xs,l.length≤1000000)→xs.flatten.length≤xs.length*1000000:=λxs=>by
    induction xs with
    |nil=>exact λ_=>Nat.le_refl _
    |cons a xs ih=>
     intro h;have h1:=h a (List.mem_cons_self ..);have h2:=ih λl hl=>h l (List.mem_cons_of_mem _ hl)
     rw[List.flatten_cons,List.length_append,List.length_cons];omega
   have:=h1 (ls.take k) λl hl=>hr l (List.mem_of_mem_take hl)
   rw[List.length_take]at this
   exact Nat.le_trans this (Nat.mul_le_mul_right _ (Nat.min_le_left ..))
  have ftake:∀(k:Nat) (h:k<ls.length),(ls.take (k+1)).flatten=(ls.take k).flatten++ls[k]:=λk h=>by
   rw[←List.take_append_getElem h,List.flatten_append];simp
  rw[f7];refine up (I:=λn v (a:Int)=>vX ls _ n a v) 0 ls.length rfl (Nat.zero_le _) (by omega) (λk a=>a=(((ls.take k).flatten).length:Int)) rfl λn k a _ hk ha hn=> ?_
  subst ha;rw[gE];have hf:=flat k
  by_cases h:k<ls.length
  ·have hm:=hr _ (List.getElem_mem h)
   rw[yK h,zX (t:=.list .lit) h,rE (by omega) (by omega)]
   refine⟨zM h,df (by omega) (hn h _ ?_)⟩
   rw[ftake k h,List.length_append];omega
  ·have hk':k=ls.length:=by omega
   subst hk';rw[zW];refine⟨[],GV _ (by omega),?_⟩
   refine up (I:=λn v (a:List zC)=>vW ls _ n v a) 0 ls.length rfl (Nat.zero_le _) (by omega) (λk a=>a=(ls.take k).flatten) rfl λn k a _ hk ha hn=> ?_
   subst ha;rw[gD];have hf:=flat k
   by_cases h:k<ls.length
   ·have hm:=hr _ (List.getElem_mem h)
    rw[yK h,zX (t:=.list .lit) h];refine⟨zM h,xX (t:=.lit) ?_,hn h _ (ftake k h).symm⟩;show(_+_)*24≤_
    omega
   ·have hk':k=ls.length:=by omega
    subst hk';rw[zW,List.take_length]
def KM(s:List (List Int))(v:Int)(l:List Int):List zC:=(l.filter λn=> !gI (s.getD v.toNat []) n).map λn=>⟨v,3,n⟩
def jB(m:zD)(s:List (List Int))(sc:List Int):List zC:=sc.flatMap λv=>KM s v (xT m|>.getD v.toNat [])
def UC(p:List zC→Bool):Nat→List zC→Nat→List zC
 |0,l,_=>l
 |k+1,l,i=>if i<l.length then(if p (l.eraseIdx i)=true then UC p k (l.eraseIdx i) i else UC p k l (i+1))else l
def Bi(p:List zC→Bool)(l:List zC):List zC:=UC p l.length l 0
noncomputable def Mm (m:zD)(con:Int)(must l:List zC):List zC:=must++Bi (λl=>nZ m con (must++l)) l
theorem Mn(p:List zC→Bool):∀(k:Nat) (l:List zC) (i:Nat),(UC p k l i).Sublist l
 |0,l,i=>List.Sublist.refl _
 |k+1,l,i=>by
  rw[UC];split
  ·split
   ·exact(Mn p k _ i).trans (List.eraseIdx_sublist ..)
   ·exact Mn p k l (i+1)
  ·exact List.Sublist.refl _
theorem RX(p:List zC→Bool):∀(k:Nat) (l:List zC) (i:Nat),p l=true→p (UC p k l i)=true
 |0,l,i,h=>h
 |k+1,l,i,h=>by
  rw[UC];split
  ·split
   ·rename_i e;exact RX p k _ i e
   ·exact RX p k l (i+1) h
  ·exact h
theorem JR{l:List zC}{i j:Nat}{x:zC}(h:j<i)(hx:x∈(l.eraseIdx i).eraseIdx j):x∈l.eraseIdx j:=by
 induction l generalizing i j with
 |nil=>cases i<;>cases hx
 |cons a l ih=>
  cases i with
  |zero=>exact absurd h (Nat.not_lt_zero _)
  |succ i=>
   rw[List.eraseIdx_cons_succ]at hx
   cases j with
   |zero=>
    rw[List.eraseIdx_cons_zero]at hx⊢
    exact(List.eraseIdx_sublist ..).subset hx
   |succ j=>
    rw[List.eraseIdx_cons_succ]at hx⊢
    rcases List.mem_cons.1 hx with rfl|hx
    ·exact List.mem_cons_self ..
    ·exact List.mem_cons_of_mem _ (ih (by omega) hx)
theorem GW(p:List zC→Bool)(hp:∀a b:List zC,(∀x∈a,x∈b)→p a=true→p b=true):∀(k:Nat) (l:List zC) (i:Nat),l.length≤k+i→(∀j,j<i→j<l.length→p (l.eraseIdx j)=false)→∀j,j<(UC p k l i).length→p ((UC p k l i).eraseIdx j)=false
 |0,l,i,hk,h,j,hj=>h j (by have:(UC p 0 l i).length=l.length:=rfl;omega) hj
 |k+1,l,i,hk,h,j,hj=>by
  rw[UC]at hj⊢
  by_cases h1:i<l.length
  ·rw[if_pos h1]at hj⊢
   by_cases h2:p (l.eraseIdx i)=true
   ·rw[if_pos h2]at hj⊢
    have hl:(l.eraseIdx i).length=l.length-1:=List.length_eraseIdx_of_lt h1;refine GW p hp k _ i (by omega) (λj' h3 h4=> ?_) j hj
    cases e:p ((l.eraseIdx i).eraseIdx j')
    ·rfl
    ·have h5:=h j' h3 (by omega)
     rw[hp _ (l.eraseIdx j') (λx hx=>JR h3 hx) e]at h5
     cases h5
   ·rw[if_neg h2]at hj⊢
    refine GW p hp k l (i+1) (by omega) (λj' h3 h4=> ?_) j hj
    by_cases e:j'=i
    ·subst e;simpa using h2
    ·exact h j' (by omega) h4
  ·rw[if_neg h1]at hj⊢
   exact h j (by omega) hj
theorem zai(p:List zC→Bool)(hp:∀a b:List zC,(∀x∈a,x∈b)→p a=true→p b=true)(l:List zC):∀j,j<(Bi p l).length→p ((Bi p l).eraseIdx j)=false:=
 GW p hp l.length l 0 (Nat.le_refl _) λj h=>absurd h (Nat.not_lt_zero _)
theorem zeu{s:List (List Int)}{c c':List zC}(h:∀x∈c,x∈c'):fO (fD s c') (fD s c):=
 XD (fO.refl s) λv n _ e=>by
  rw[Bool.not_eq_true']at e⊢
  cases e2:atC c v n
  ·rfl
  ·obtain⟨l,h1,h2,h3⟩:=Vy.1 e2
   rw[Vy.2 ⟨l,h l h1,h2,h3⟩]at e;cases e
theorem zb8{m:zD}{con:Int}(hat:U6 m con=0){c c':List zC}(h:∀x∈c,x∈c')(hb:nZ m con c=true):nZ m con c'=true:=by
 obtain⟨hr,_⟩:=pT hat;have hop:=Y7 (rZ hat) (by have:=hr.some;omega)
 have hl:(fD (xT m) c).length=m.vars.length:=YX.1.trans xI;cases e:nZ m con c' with
 |true=>rfl
 |false=>
  have h2:=(hop.mono hl (zeu h) e).fail e;rw[nZ,h2]at hb;cases hb
theorem zgJ{m:zD}{con:Int}(hat:U6 m con=0)(must:List zC):∀a b:List zC,(∀x∈a,x∈b)→nZ m con (must++a)=true→nZ m con (must++b)=true:=λa b h=>zb8 hat λx hx=>by
 rcases List.mem_append.1 hx with hx|hx
 ·exact List.mem_append_left _ hx
 ·exact List.mem_append_right _ (h x hx)
theorem DH{m:zD}{s:List (List Int)}{sc:List Int}{x:zC}:x∈jB m s sc↔x.var∈sc∧x.op=3∧x.n∈(xT m).getD x.var.toNat []∧x.n∉s.getD x.var.toNat []:=by
 rw[jB,List.mem_flatMap];constructor
 ·rintro⟨v,hv,h⟩
  obtain⟨n,hn,rfl⟩:=List.mem_map.1 h;obtain⟨h1,h2⟩:=List.mem_filter.1 hn;refine⟨hv,rfl,h1,λh3=> ?_⟩
  rw[mL.2 h3]at h2;cases h2
 ·rintro⟨h1,h2,h3,h4⟩
  refine⟨x.var,h1,List.mem_map.2 ⟨x.n,List.mem_filter.2 ⟨h3,?_⟩,by cases x;simp only at h2;rw[h2]⟩⟩
  cases e:gI (s.getD x.var.toNat []) x.n
  ·rfl
  ·exact absurd (mL.1 e) h4
theorem zev{m:zD}{s:List (List Int)}{sc:List Int}(must:List zC){v:Nat}(hv:(v:Int)∈sc){n:Int}(hn:n∈(fD (xT m) (must++jB m s sc)).getD v []):n∈s.getD v []:=by
 rw[fD,uD,List.mem_filter]at hn
 apply Classical.byContradiction;intro h;have h2:=hn.2;rw[Vy.2 ⟨⟨v,3,n⟩,List.mem_append_right _ (DH.2 ⟨hv,rfl,by rw[Int.toNat_natCast];exact hn.1,by rw[Int.toNat_natCast];exact h⟩),rfl,by simp[holdsL]⟩]at h2
 cases h2
theorem zdk{m:zD}{con:Int}{s:List (List Int)}(hat:U6 m con=0)(hl:s.length=m.vars.length)(hf:zT s=false)(must:List zC){vs:List Int}(hv:XB vs (fD (xT m) (must++jB m s (yE (yL m con) m.vars.length))))(ht:wH (yL m con) vs=true):
  ∃us,XB us s∧wH (yL m con) us=true∧∀v:Nat,(v:Int)∈yE (yL m con) m.vars.length→us.getD v 0=vs.getD v 0:=by
 have hc:=rZ hat;obtain⟨ps,hp⟩:=S6 hf;have hdl:(fD (xT m) (must++jB m s (yE (yL m con) m.vars.length))).length=m.vars.length:=YX.1.trans xI;have hg:∀u:Nat,u<s.length→((List.range s.length).map λu:Nat=>if(u:Int)∈yE (yL m con) m.vars.length then vs.getD u 0 else ps.getD u 0).getD u 0=if(u:Int)∈yE (yL m con) m.vars.length then vs.getD u 0 else ps.getD u 0:=λu hu=>Uw hu
 have hs:∀v:Nat,(v:Int)∈yE (yL m con) m.vars.length→v<s.length:=λv h=>by have:=nK _ h;omega
 refine⟨(List.range s.length).map λu:Nat=>if(u:Int)∈yE (yL m con) m.vars.length then vs.getD u 0 else ps.getD u 0,⟨by simp,λu hu=> ?_⟩,?_,λv h=> ?_⟩
 ·rw[hg u hu]
  split
  ·rename_i e
   exact zev must e (hv.2 u (by rw[hdl];omega))
  ·exact hp.2 u hu
 ·rw[←ht]
  exact mX hc λw h5 h6=>by rw[hg w (by omega),if_pos (oA.2 ⟨by omega,h6⟩)]
 ·rw[hg v (hs v h),if_pos h]
theorem Bj{m:zD}{con:Int}{s:List (List Int)}(hat:U6 m con=0)(hl:s.length=m.vars.length)(hf:zT s=false){v:Nat}{n:Int}(hv:v<s.length)(hn:n∈s.getD v [])(hg:n∉(yM (yL m con) s).getD v []):
  nZ m con ([⟨v,4,n⟩]++jB m s (yE (yL m con) m.vars.length))=true:=by
 have hc:=rZ hat;obtain⟨hr,_⟩:=pT hat;have hop:=Y7 hc (by have:=hr.some;omega)
 have hdl:(fD (xT m) ([⟨(v:Int),4,n⟩]++jB m s (yE (yL m con) m.vars.length))).length=m.vars.length:=YX.1.trans xI;cases e:nZ m con ([⟨v,4,n⟩]++jB m s (yE (yL m con) m.vars.length))with
 |true=>rfl
 |false=>
  obtain⟨vs,h1,h2⟩:=(hop.nofail hdl).1 e;obtain⟨us,h3,h4,h5⟩:=zdk hat hl hf _ h1 h2
  have hvn:vs.getD v 0=n:=by
   have h6:=h1.2 v (by rw[hdl];omega)
   rw[fD,uD,List.mem_filter,Bool.not_eq_true']at h6
   apply Classical.byContradiction;intro h7;have h8:=h6.2;rw[Vy.2 ⟨⟨v,4,n⟩,List.mem_append_left _ (List.mem_singleton.2 rfl),rfl,by generalize vs.getD v 0=z at h7;simp[holdsL,h7]⟩]at h8
   cases h8
  have h6:=hop.keeps hl (h3.set hn hv) (by
   rw[←h4];refine mX hc λw h7 h8=> ?_
   rw[sD (by rw[h3.1];exact hv)]
   split
   ·rename_i e;subst e;rw[h5 w (oA.2 ⟨by omega,h8⟩),hvn]
   ·rfl)
  have h7:=h6.2 v (by rw[hop.len hl];omega)
  rw[sD (by rw[h3.1];exact hv),if_pos rfl]at h7
  exact absurd h7 hg
theorem zaj{m:zD}{con:Int}{s:List (List Int)}(hat:U6 m con=0)(hl:s.length=m.vars.length)(hf:zT s=false)(hg:zT (yM (yL m con) s)=true):nZ m con ([]++jB m s (yE (yL m con) m.vars.length))=true:=by
 have hc:=rZ hat;obtain⟨hr,_⟩:=pT hat;have hop:=Y7 hc (by have:=hr.some;omega)
 have hdl:(fD (xT m) ([]++jB m s (yE (yL m con) m.vars.length))).length=m.vars.length:=YX.1.trans xI;cases e:nZ m con ([]++jB m s (yE (yL m con) m.vars.length))with
 |true=>rfl
 |false=>
  obtain⟨vs,h1,h2⟩:=(hop.nofail hdl).1 e;obtain⟨us,h3,h4,h5⟩:=zdk hat hl hf _ h1 h2;rw[(hop.nofail hl).2 ⟨us,h3,h4⟩]at hg;cases hg
theorem DI{c:zF}{nv:Nat}(hc:vB c nv):(yE c nv).length≤4:=by
 have hm:=hc.many
 have hsub:∀x∈yE c nv,x∈c.vars++c.lits.map λl=>l.var:=λx hx=>by
  rcases zgy (oA.1 hx).2 with h|⟨l,h,e⟩
  ·exact List.mem_append_left _ h
  ·exact List.mem_append_right _ (List.mem_map.2 ⟨l,h,e⟩)
 have h1:=(Wx (c:=c) (nv:=nv)).length_le_of_subset hsub;rw[List.length_append,List.length_map]at h1
 by_cases h8:c.kind≤8
 ·have:=GG hc h8
  rw[this,List.length_nil]at h1;omega
 ·have hk:=hc.kind
  by_cases h9:c.kind=9
  ·have:=hc.formC.clause h9;omega
  ·have:=hc.formC.iff (by omega);omega
theorem Rm{m:zD}(hr:Right m)(v:Nat):((xT m).getD v []).length≤6:=by
 by_cases hv:v<m.vars.length
 ·have:=hr.var _ (List.getElem_mem hv)
  rw[gN hv,Vp,Xq];omega
 ·rw[sU (by rw[xI];omega)];exact Nat.zero_le _
theorem DJ{s:List (List Int)}{v:Int}{l:List Int}:(KM s v l).length≤l.length:=by rw[KM,List.length_map];exact List.length_filter_le ..
theorem DK{m:zD}(hr:Right m){s:List (List Int)}(sc:List Int):(jB m s sc).length≤sc.length*6:=Wz λv _=>Nat.le_trans DJ (Rm hr _)
theorem Ta{m:zD}{con:Int}{s:List (List Int)}(hat:U6 m con=0)(hl:s.length=m.vars.length):uG hU [dM m,dI con,dS s] (.sl .lit (jB m s (yE (yL m con) m.vars.length))):=
 L3 m con s λok=>by
  obtain⟨hr,hcon⟩:=pT hat;have hc:=rZ hat;rw[JQ];refine⟨vE.2 hcon,?_⟩;show yY oZ [dC (yL m con)] (.list .int) λm1=>_
  refine zG (ZN hc) ?_;have hsl:=DI hc;have hsv:∀v∈yE (yL m con) m.vars.length,0≤v∧v<m.vars.length:=λv hv=>nK v hv
  generalize yE (yL m con) m.vars.length=sc at hsl hsv⊢
  refine up (I:=λn v a=>dD m s _ sc n v a) 0 sc.length rfl (Nat.zero_le _) (by omega) (λk a=>a=jB m s (sc.take k)) rfl λn k a _ hk ha hn=> ?_
  subst ha;rw[OG]
  by_cases h:k<sc.length
  ·have hvk:=hsv _ (List.getElem_mem h)
   have hvl:sc[k].toNat<m.vars.length:=by omega
   rw[yK h,zX (t:=.int) h];refine⟨zM h,vE.2 hvk,?_⟩;have hat2:zR .var m.vars sc[k].toNat=m.vars[sc[k].toNat]:=atN (t:=.var) hvl;have hvr:=hr.var _ (List.getElem_mem hvl);have hfull:(xT m).getD sc[k].toNat []=Vp m.vars[sc[k].toNat]:=gN hvl;have hstep:jB m s (sc.take (k+1))=jB m s (sc.take k)++KM s sc[k] (Vp m.vars[sc[k].toNat]):=by rw[jB,Md _ h,hfull];rfl
   have hgl:=DK hr (s:=s) (sc.take k);rw[List.length_take]at hgl
   generalize jB m s (sc.take k)=pre at hstep hgl⊢
   rw[hat2];refine upto (I:=λn2 v a=>jA m s _ sc n (k:Int) n2 v a) (m.vars[sc[k].toNat]).lo (m.vars[sc[k].toNat]).hi (by omega) (by omega) (λj a=>a=pre++KM s sc[k] (E8 (m.vars[sc[k].toNat]).lo (j-(m.vars[sc[k].toNat]).lo).toNat)∧j≤(m.vars[sc[k].toNat]).hi+1) ⟨by rw[Int.sub_self];exact(List.append_nil _).symm,by omega⟩ λn2 j a hj hi hn2=> ?_
   obtain⟨rfl,hjm⟩:=hi;rw[OE,zX (t:=.int) h,hat2];have hgv:=DJ (s:=s) (v:=sc[k]) (l:=E8 (m.vars[sc[k].toNat]).lo (j-(m.vars[sc[k].toNat]).lo).toNat);rw[Xq]at hgv
   refine⟨vE.2 hvk,zA (λe=> ?_) λe=> ?_⟩
   ·have e:=of_decide_eq_true e
    have hgs:∀b,gI (s.getD sc[k].toNat []) j=b→KM s sc[k] (E8 (m.vars[sc[k].toNat]).lo (j+1-(m.vars[sc[k].toNat]).lo).toNat)=KM s sc[k] (E8 (m.vars[sc[k].toNat]).lo (j-(m.vars[sc[k].toNat]).lo).toNat)++(if b=true then[]else[(⟨sc[k],3,j⟩:zC)]):=λb hb=>by
     rw[Am hj,KM,List.filter_append,List.map_append,List.filter_cons,hb];cases b<;>rfl
    refine⟨vE.2 (by omega),zG (vZ (a:=j)) ?_⟩
    show zP (!gI (s.getD sc[k].toNat []) j) _ _
    refine zA (λf=>⟨xX (t:=.lit) ?_,hn2 e _ ⟨?_,by omega⟩⟩) λf=>hn2 e _ ⟨?_,by omega⟩
    ·rw[List.length_append];show(_+_+1)*24≤_;omega
    ·rw[hgs false (by simpa using f),List.append_assoc];rfl
    ·rw[hgs true (by simpa using f)];simp
   ·have e:=of_decide_eq_false e
    refine hn h _ ?_;rw[hstep,Vp,show j=(m.vars[sc[k].toNat]).hi+1 by omega]
  ·have hk':k=sc.length:=by omega
   subst hk';rw[zW,List.take_length]
theorem Im{lo hi:Int}{n:Nat}(h1:0≤lo)(h2:lo≤hi)(h3:hi≤n):R4 lo hi n=true:=by
 unfold R4;simp;omega
theorem WD{m:zD}{con:Int}{must l:List zC}(hat:U6 m con=0)(hm:must.length≤1000000)(hl:l.length≤1000000):uG mK [dM m,dI con,.sl .lit must,.sl .lit l] (.sl .lit (Mm m con must l)):=
 OD m con must l λok=>by
  rw[Ml,Mm,Bi]
  suffices H:∀(k:Nat) (l':List zC) (i:Nat),l'.length≤k+i→i≤l'.length→l'.length≤1000000→∀r,r=must++UC (λl=>nZ m con (must++l)) k l' i→nL m con must (λd=>d=.sl .lit r) (k+1) l' (i:Int)from⟨_,H l.length l 0 (Nat.le_refl _) (Nat.zero_le _) hl _ rfl⟩
  intro k
  induction k with
  |zero=>
   intro l' i h1 h2 h3 r hr;have hi:i=l'.length:=by omega
   subst hi;rw[Yg,zW];refine zG (fu (ls:=[must,l']) (by show 2≤1000;decide) λx hx=> ?_) ?_
   ·rcases List.mem_cons.1 hx with rfl|hx
    ·exact hm
    ·rw[List.mem_singleton.1 hx];exact h3
   ·rw[hr,UC];simp
  |succ k ih=>
   intro l' i h1 h2 h3 r hr;rw[Yg]
   by_cases h:i<l'.length
   ·have hw:yW ((i:Int)+1)=((i+1:Nat):Int):=fG (by omega)
    rw[UC,if_pos h]at hr
    have hel:(l'.eraseIdx i).length=l'.length-1:=List.length_eraseIdx_of_lt h;rw[yK h,hw,Int.toNat_natCast,Int.toNat_natCast,Int.toNat_natCast,List.drop_zero,List.take_length]
    have hcat:=fu (ls:=[l'.take i,l'.drop (i+1)]) (by show 2≤1000;decide) λx hx=>by
     rcases List.mem_cons.1 hx with rfl|hx
     ·rw[List.length_take];omega
     ·rw[List.mem_singleton.1 hx,List.length_drop];omega
    have he:[l'.take i,l'.drop (i+1)].flatten=l'.eraseIdx i:=by rw[List.eraseIdx_eq_take_drop_succ];simp
    rw[he]at hcat
    refine⟨Im (Int.le_refl _) (by omega) (by omega),Im (by omega) (by omega) (Int.le_refl _),zG hcat ?_⟩
    have hcat2:=fu (ls:=[must,l'.eraseIdx i]) (by show 2≤1000;decide) λx hx=>by
     rcases List.mem_cons.1 hx with rfl|hx
     ·exact hm
     ·rw[List.mem_singleton.1 hx];omega
    have he2:[must,l'.eraseIdx i].flatten=must++l'.eraseIdx i:=by simp
    rw[he2]at hcat2
    refine zG hcat2 (zG (Ri hat) (zA (λe=> ?_) λe=> ?_))
    ·rw[if_pos e]at hr
     exact ih _ i (by omega) (by omega) (by omega) r hr
    ·rw[if_neg (by rw[e];decide)]at hr
     exact ih l' (i+1) (by omega) (by omega) h3 r hr
   ·have hi:i=l'.length:=by omega
    subst hi;rw[UC,if_neg (Nat.lt_irrefl _)]at hr
    rw[zW];refine zG (fu (ls:=[must,l']) (by show 2≤1000;decide) λx hx=> ?_) ?_
    ·rcases List.mem_cons.1 hx with rfl|hx
     ·exact hm
     ·rw[List.mem_singleton.1 hx];exact h3
    ·rw[hr];simp
noncomputable def WE (m:zD)(con:Int)(s:List (List Int))(v n:Int):Bool:= !zT s&&(gI (s.getD v.toNat []) n&& !gI ((yM (yL m con) s).getD v.toNat []) n)
noncomputable def Rn (m:zD)(con:Int)(s:List (List Int)):Bool:= !zT s&&zT (yM (yL m con) s)
noncomputable def WF (m:zD)(con:Int)(s:List (List Int))(v n:Int):List zC:=if WE m con s v n=true then Mm m con [⟨v,4,n⟩] (jB m s (yE (yL m con) m.vars.length))else[]
noncomputable def iD (m:zD)(con:Int)(s:List (List Int)):List zC:=if Rn m con s=true then Mm m con [] (jB m s (yE (yL m con) m.vars.length))else[]
theorem Ro{m:zD}{con:Int}(hat:U6 m con=0){s:List (List Int)}:(jB m s (yE (yL m con) m.vars.length)).length≤24:=by
 have h1:=DK (pT hat).1 (s:=s) (yE (yL m con) m.vars.length);have h2:=DI (rZ hat);omega
theorem JS{m:zD}{con:Int}{s:List (List Int)}{v n:Int}(hr:zdh m con s)(hv:0≤v∧v<s.length):uG bN [dM m,dI con,dS s,dI v,dI n] (.tup [.sl .lit (WF m con s v n),dB (WE m con s v n)]):=
 L2 m con s v n λok=>by
  have hat:=OA hr.chk hr.cn;have hs:=Yd (qH hr.chk) hr.st;have hl:=hs.len;rw[JP];refine zG (wG s) (zA (λe=> ?_) λe=> ?_)
  ·have e:zT s=true:=e
   rw[WF,WE,e];rfl
  have e:zT s=false:=e;refine⟨vE.2 hv,zG (vZ (a:=n)) ?_⟩;show zP (!gI (s.getD v.toNat []) n) _ _
  refine zA (λf=> ?_) λf=> ?_
  ·have f:gI (s.getD v.toNat []) n=false:=by simpa using f
   rw[WF,WE,e,f];rfl
  have f:gI (s.getD v.toNat []) n=true:=by simpa using f
  refine⟨vE.2 hr.cn,zG (eJ (c:=yL m con) (by rw[hl];exact hr.right) (by rw[hl];exact hs)) ⟨vE.2 (by rw[hr.op.len hl];omega),zG (vZ (a:=n)) ?_⟩⟩
  show zP (gI ((yM (yL m con) s).getD v.toNat []) n) _ _
  refine zA (λg=> ?_) λg=> ?_
  ·rw[WF,WE,e,f,g];rfl
  ·have hb:WE m con s v n=true:=by rw[WE,e,f,g];rfl
   rw[WF,if_pos hb,hb];have:=Ro hat (s:=s);exact zG (Ta hat hl) (zG (WD hat (by show 1≤1000000;decide) (by omega)) rfl)
theorem L4{m:zD}{con:Int}{s:List (List Int)}(hr:zdh m con s):uG eV [dM m,dI con,dS s] (.tup [.sl .lit (iD m con s),dB (Rn m con s)]):=
 Mk m con s λok=>by
  have hat:=OA hr.chk hr.cn;have hs:=Yd (qH hr.chk) hr.st;have hl:=hs.len;rw[L1];refine zG (wG s) (zA (λe=> ?_) λe=> ?_)
  ·have e:zT s=true:=e
   rw[iD,Rn,e];rfl
  have e:zT s=false:=e;refine⟨vE.2 hr.cn,zG (eJ (c:=yL m con) (by rw[hl];exact hr.right) (by rw[hl];exact hs)) (zG (wG _) ?_)⟩
  refine zA (λg=> ?_) λg=> ?_
  ·have g:zT (yM (yL m con) s)=false:=by simpa using g
   rw[iD,Rn,e,g];rfl
  ·have g:zT (yM (yL m con) s)=true:=by simpa using g
   have hb:Rn m con s=true:=by rw[Rn,e,g];rfl
   rw[iD,if_pos hb,hb];have:=Ro hat (s:=s);exact zG (Ta hat hl) (zG (WD hat (by decide) (by omega)) rfl)
structure VE (m:zD)(con:Int)(s:List (List Int))(must r:List zC):Prop where
 says:nZ m con (must++r)=true
 few:∀j,j<r.length→nZ m con (must++r.eraseIdx j)=false
 told:∀x∈r,x.op=3∧Wr s x= -1∧gU m.vars.length x=0
 len:r.length≤24
theorem zew{s:List (List Int)}{x:zC}(h:∀n∈s.getD x.var.toNat [],holdsL x n=false):Wr s x= -1:=by
 rw[Wr,Da,if_pos];rw[List.any_eq_false];exact λn hn=>by rw[h n hn];decide
theorem Mo{m:zD}(hr:Right m){x:zC}(hv:0≤x.var∧x.var<(m.vars.length:Int))(ho:1≤x.op∧x.op≤4)(hn:x.n∈(xT m).getD x.var.toNat []):gU m.vars.length x=0:=by
 have hvl:x.var.toNat<m.vars.length:=by omega
 rw[gN hvl,cQ]at hn
 have:=hr.var _ (List.getElem_mem hvl);exact oz.2 ⟨hv,ho,by omega⟩
theorem DL{m:zD}{con:Int}{s:List (List Int)}(hat:U6 m con=0){must:List zC}(h:nZ m con (must++jB m s (yE (yL m con) m.vars.length))=true):
  VE m con s must (Bi (λl=>nZ m con (must++l)) (jB m s (yE (yL m con) m.vars.length))):=by
 have hsub:=Mn (λl=>nZ m con (must++l)) (jB m s (yE (yL m con) m.vars.length)).length (jB m s (yE (yL m con) m.vars.length)) 0
 refine⟨RX (λl=>nZ m con (must++l)) _ _ 0 h,λj hj=>zai _ (zgJ hat must) _ j hj,λx hx=> ?_,Nat.le_trans hsub.length_le (Ro hat)⟩
 obtain⟨h1,h2,h3,h4⟩:=DH.1 (hsub.subset hx);have hv:=nK _ h1;refine⟨h2,zew λn hn=> ?_,Mo (pT hat).1 hv (by omega) h3⟩
 have hne:n≠x.n:=λe=>h4 (by rw[←e];exact hn)
 obtain⟨xv,xo,xn⟩:=x;simp only at h2 hne
 subst h2;simp[holdsL,hne]
theorem OH{nv:Nat}{c:List zC}(hl:c.length≤40)(h:∀x∈c,gU nv x=0):yJ nv c=0:=by
 rw[yJ,if_neg (by omega)]
 have:∀(xs:List zC) (i:Nat),(∀x∈xs,gU nv x=0)→xU (λ_ l=>gU nv l) i xs=0:=λxs=>by
  induction xs with
  |nil=>exact λ_ _=>rfl
  |cons a xs ih=>
   intro i h;rw[xU,if_pos (h a (List.mem_cons_self ..))];exact ih _ λx hx=>h x (List.mem_cons_of_mem _ hx)
 exact this c 0 h
theorem VE.clause{m:zD}{con:Int}{s:List (List Int)}{must r:List zC}(h:VE m con s must r)(hm:must.length≤1)(hml:∀x∈must,gU m.vars.length x=0):yJ m.vars.length (must++r)=0:=
 OH (by rw[List.length_append];have:=h.len;omega) λx hx=>by
  rcases List.mem_append.1 hx with hx|hx
  ·exact hml x hx
  ·exact(h.told x hx).2.2
def aO:xP:= {own:=[],live:=[(0,([1,3,8,9],[]))],n:=39,nils:=[],pubs:=[(31088,999999)]}
def jC(a:zD)(b:List (List zC))(R:xK)(c:Nat)(d:List zC)(e:Int):Prop:=LP aO Tryz.f131 [1,1,1,0,1,0,0] 0 c ⟨[(1,.sl (.list .lit) b),(3,.iptr (Sn a []) 0),(8,.sl .lit d),(9,dI e)],[]⟩ (zQ 0 (sK aO Tryz.f131 [1,1,1,1] 0 (eK Tryz.f131 R)))
theorem XI(c:zD)(d:List (List zC))(R:xK)(e:Nat)(a:List zC)(b:Int):jC c d R (e+1) a b=
 (zP (decide (b<(a.length:Int)))
 (R4 0 b a.length=true∧
 R4 (yW (b+1)) (a.length:Int) a.length=true∧
 yY uI [.sl (.list .lit) ([(a.take b.toNat).drop 0,(a.take (a.length:Int).toNat).drop (yW (b+1)).toNat])] (.list .lit) λf=>
 yY fY [dM c,.sl (.list .lit) d,.sl .lit f] .bool λg=>
 zP g
 (jC c d R e f b)
 (jC c d R e a (yW (b+1))))
 (R (.tup [.sl .lit a,dB true]))):=by kernel_rfl
theorem JT(a:zD)(b:List (List zC))(c:List zC)(R:xK):FD aO Tryz.f131 [dM a,.sl (.list .lit) b,.sl .lit c] R=
 (yY fY [dM a,.sl (.list .lit) b,.sl .lit c] .bool λe=>
 zP (!e)
 (R (.tup [.sl .lit ([]:List zC),dB false]))
 (∃d:List zC,xD uS [.sl .lit c] [] (.own 3000) [(3000,.row 114 .lit d)]∧
 ∃n0,jC a b R n0 d 0)):=by kernel_rfl
theorem L5(a:zD)(b:List (List zC))(c:List zC):xL aO Tryz.f131 bG [dM a,.sl (.list .lit) b,.sl .lit c]:=xO Tryz.func131 (by kernel_rfl) Tryz.ntmps131 rfl
def Pm:xP:= {own:=[14,25],live:=[],n:=26,nils:=[(14,(6,(129,.step)))],pubs:=[]}
theorem GX(a:zD)(b:List (List zC))(c:List zC)(R:xK):FD Pm Tryz.f134 [dM a,.sl (.list .lit) b,.sl .lit c] R=
 (yY Z3 [dM a,.sl .lit c] (.list (.list .int)) λg=>
 ∃f:List (List Int),∃d:List zS,xD lJ [.ptr 1000 0] [(1000,.cells (Sn a [.sl (.list .lit) b,dS g,.own 2000])),(2000,.row 129 .step ([]:List zS))] (.tup []) [(1000,.cells (Sn a [.sl (.list .lit) b,dS f,.own 2000])),(2000,.row 129 .step d)]∧
 yY hM [.sl .lit c] (.list .lit) λe=>
 wD .step (d.length+([(⟨2,0,e⟩:zS)]).length)=true∧
 R (.sl .step (d++([(⟨2,0,e⟩:zS)])))):=by kernel_rfl
theorem JU(a:zD)(b:List (List zC))(c:List zC):xL Pm Tryz.f134 Zx [dM a,.sl (.list .lit) b,.sl .lit c]:=xO Tryz.func134 (by kernel_rfl) Tryz.ntmps134 rfl
def aP:xP:= {own:=[3,5,16],live:=[(0,([3,6,7,8],[3]))],n:=19}
def dE(a:List zC)(R:xK)(b:Nat)(c:Int)(d:List zC):Prop:=LP aP Tryz.f135 [1,1,0,1,0,0] 0 b ⟨[(3,.own 3),(6,.sl .lit a),(7,dI (a.length:Int)),(8,dI c)],[(3,.row 114 .lit d)]⟩ (zQ 0 (sK aP Tryz.f135 [1,1,1] 0 (eK Tryz.f135 R)))
theorem OI(a:List zC)(R:xK)(d:Nat)(b:Int)(c:List zC):dE a R (d+1) b c=
 (zP (decide (b<(a.length:Int)))
 (wI b a.length=true∧
 yY bJ [dL (zR .lit a b.toNat)] .lit λe=>
 wD .lit (c.length+([e]).length)=true∧
 dE a R d (yW (b+1)) (c++([e])))
 (R (.sl .lit c))):=by kernel_rfl
theorem JV(a:List zC)(R:xK):FD aP Tryz.f135 [.sl .lit a] R=
 (∃n0,dE a R n0 0 ([]:List zC)):=by kernel_rfl
theorem L6(a:List zC):xL aP Tryz.f135 hM [.sl .lit a]:=xO Tryz.func135 (by kernel_rfl) Tryz.ntmps135 rfl
def Pn:xP:= {own:=[],live:=[],n:=14}
theorem GY(a:zD)(b:List (List zC))(c:List zC)(R:xK):FD Pn Tryz.f192 [dM a,.sl (.list .lit) b,.sl .lit c] R=
 (yY Z3 [dM a,.sl .lit c] (.list (.list .int)) λd=>
 yY jI [dM a,dS d,dB true,.sl (.list .lit) b] (.list (.list .int)) λe=>
 yY yT [dS e] .bool λf=>
 R (dB f)):=by kernel_rfl
theorem JW(a:zD)(b:List (List zC))(c:List zC):xL Pn Tryz.f192 fY [dM a,.sl (.list .lit) b,.sl .lit c]:=xO Tryz.func192 (by kernel_rfl) Tryz.ntmps192 rfl
def WG:xP:= {own:=[7],live:=[(0,([5,10,11,12],[]))],n:=21}
def YY(a:List zC)(R:xK)(b:Nat)(c:List (List Int))(d:Int):Prop:=LP WG Tryz.f196 [1,1,0,1,0,0] 0 b ⟨[(5,dS c),(10,.sl .lit a),(11,dI (a.length:Int)),(12,dI d)],[]⟩ (zQ 0 (sK WG Tryz.f196 [1,1,1] 0 (eK Tryz.f196 R)))
theorem JX(a:List zC)(R:xK)(d:Nat)(c:List (List Int))(b:Int):YY a R (d+1) c b=
 (zP (decide (b<(a.length:Int)))
 (wI b a.length=true∧
 yY RP [dS c,dL (zR .lit a b.toNat)] (.list (.list .int)) λe=>
 YY a R d e (yW (b+1)))
 (R (dS c))):=by kernel_rfl
theorem Bk(a:zD)(b:List zC)(R:xK):FD WG Tryz.f196 [dM a,.sl .lit b] R=
 (yY oY [dM a] (.list (.list .int)) λc=>
 ∃n0,YY b R n0 c 0):=by kernel_rfl
theorem Et(a:zD)(b:List zC):xL WG Tryz.f196 Z3 [dM a,.sl .lit b]:=xO Tryz.func196 (by kernel_rfl) Tryz.ntmps196 rfl
def qO:xP:= {own:=[],live:=[(0,([0,2],[1000,2000])),(2,([0,2,3],[1000,2000]))],n:=59}
def pV(R:oB)(a b:Nat)(c:Bool)(d:Int)(e:List zO)(f:List zF)(g h:Int)(i:List (List zC))(j:List (List Int))(k:List zS):Prop:=LP qO Tryz.f197 [1,0,0,1,0,1,0,1,0,0] 2 b ⟨[(0,.ptr 1000 0),(2,dB c),(3,dI d)],[(1000,.cells [.sl .var e,.sl .con f,dI g,dI h,.sl (.list .lit) i,dS j,.own 2000]),(2000,.row 129 .step k)]⟩ (zQ 2 (sK qO Tryz.f197 [1,0,0,1,0,1,1] 1 (zQ 1 (iK qO Tryz.f197 [1,0,0] 0 a (zQ 0 (eH Tryz.f197 [.ptr 1000 0] false R))))))
def wO(R:oB)(a:Nat)(b:Bool)(c:List zO)(d:List zF)(e f:Int)(g:List (List zC))(h:List (List Int))(i:List zS):Prop:=LP qO Tryz.f197 [1,0,0] 0 a ⟨[(0,.ptr 1000 0),(2,dB b)],[(1000,.cells [.sl .var c,.sl .con d,dI e,dI f,.sl (.list .lit) g,dS h,.own 2000]),(2000,.row 129 .step i)]⟩ (zQ 0 (eH Tryz.f197 [.ptr 1000 0] false R))
theorem aQ(R:oB)(f k:Nat)(j:Bool)(i:Int)(b:List zO)(a:List zF)(c d:Int)(e:List (List zC))(g:List (List Int))(h:List zS):pV R f (k+1) j i b a c d e g h=
 (zP (decide (i<(a.length:Int)))
 (yY yT [dS g] .bool λq=>
 zP (!q)
 (∃p:Bool,∃l:List (List Int),∃m:List zS,xD lN [.ptr 1000 0,dI i] [(1000,.cells [.sl .var b,.sl .con a,dI c,dI d,.sl (.list .lit) e,dS g,.own 2000]),(2000,.row 129 .step h)] (dB p) [(1000,.cells [.sl .var b,.sl .con a,dI c,dI d,.sl (.list .lit) e,dS l,.own 2000]),(2000,.row 129 .step m)]∧
 zP p
 (pV R f k true (yW (i+1)) b a c d e l m)
 (pV R f k j (yW (i+1)) b a c d e l m))
 (yY jI [.agg [.sl .var b,.sl .con a,dI c,dI d],dS g,dB false,.sl (.list .lit) e] (.list (.list .int)) λn=>
 yY yC [dS n,dS g,.clo xF none []] .bool λr=>
 zP (!r)
 (wO R f true b a c d e n h)
 (wO R f j b a c d e n h)))
 (yY jI [.agg [.sl .var b,.sl .con a,dI c,dI d],dS g,dB false,.sl (.list .lit) e] (.list (.list .int)) λo=>
 yY yC [dS o,dS g,.clo xF none []] .bool λs=>
 zP (!s)
 (wO R f true b a c d e o h)
 (wO R f j b a c d e o h))):=by kernel_rfl
theorem aR(R:oB)(h:Nat)(i:Bool)(b:List zO)(c:List zF)(d e:Int)(f:List (List zC))(a:List (List Int))(g:List zS):wO R (h+1) i b c d e f a g=
 (zP i
 (yY yT [dS a] .bool λj=>
 zP (!j)
 (∃n2,pV R h n2 false 0 b c d e f a g)
 (R (.tup []) [(1000,.cells [.sl .var b,.sl .con c,dI d,dI e,.sl (.list .lit) f,dS a,.own 2000]),(2000,.row 129 .step g)]))
 (R (.tup []) [(1000,.cells [.sl .var b,.sl .con c,dI d,dI e,.sl (.list .lit) f,dS a,.own 2000]),(2000,.row 129 .step g)])):=by kernel_rfl
theorem QS(a:List zO)(b:List zF)(c d:Int)(e:List (List zC))(f:List (List Int))(g:List zS)(R:oB):FH qO Tryz.f197 [.ptr 1000 0] [(1000,.cells [.sl .var a,.sl .con b,dI c,dI d,.sl (.list .lit) e,dS f,.own 2000]),(2000,.row 129 .step g)] [.ptr 1000 0] false R=
 (∃n0,wO R n0 true a b c d e f g):=by kernel_rfl
theorem Rq(a:List zO)(b:List zF)(c d:Int)(e:List (List zC))(f:List (List Int))(g:List zS):o9 qO Tryz.f197 lJ [.ptr 1000 0] [(1000,.cells [.sl .var a,.sl .con b,dI c,dI d,.sl (.list .lit) e,dS f,.own 2000]),(2000,.row 129 .step g)] [.ptr 1000 0] false:=nV Tryz.func197 (by kernel_rfl) Tryz.ntmps197 rfl
def tH:xP:= {own:=[52,109],live:=[(0,([0,1,5,8,66,67,68],[1000,2000])),(2,([0,1,5,8,9,66,67,68,73,74,75],[1000,2000]))],n:=119}
def rT(a:List (List Int))(c:Int)(R:oB)(d:List (List Int))(e:Nat)(b:Int)(f:Nat)(g:Bool)(h:Int)(i:List zO)(j:List zF)(k l:Int)(m:List (List zC))(n:List (List Int))(o:List zS):Prop:=LP tH Tryz.f250 [1,1,1,1,0,1,0,0,1,1,0,0,1,1,0,0] 2 f ⟨[(0,.ptr 1000 0),(1,dI c),(5,dS d),(8,dB g),(9,dI b),(66,dS a),(67,dI (a.length:Int)),(68,dI b),(73,.sl .int (zR (.list .int) a b.toNat)),(74,dI ((zR (.list .int) a b.toNat).length:Int)),(75,dI h)],[(1000,.cells [.sl .var i,.sl .con j,dI k,dI l,.sl (.list .lit) m,dS n,.own 2000]),(2000,.row 129 .step o)]⟩ (zQ 2 (zQ 1 (sK tH Tryz.f250 [1,1,1,1,0,1,0,0,1,1,1] 0 (iK tH Tryz.f250 [1,1,1,1,0,1,0,0] 0 e (zQ 0 (sK tH Tryz.f250 [1,1,1,1,1] 0 (eH Tryz.f250 [.ptr 1000 0] false R)))))))
def pW(a:List (List Int))(b:Int)(R:oB)(c:List (List Int))(d:Nat)(e:Bool)(f:Int)(g:List zO)(h:List zF)(i j:Int)(k:List (List zC))(l:List (List Int))(m:List zS):Prop:=LP tH Tryz.f250 [1,1,1,1,0,1,0,0] 0 d ⟨[(0,.ptr 1000 0),(1,dI b),(5,dS c),(8,dB e),(66,dS a),(67,dI (a.length:Int)),(68,dI f)],[(1000,.cells [.sl .var g,.sl .con h,dI i,dI j,.sl (.list .lit) k,dS l,.own 2000]),(2000,.row 129 .step m)]⟩ (zQ 0 (sK tH Tryz.f250 [1,1,1,1,1] 0 (eH Tryz.f250 [.ptr 1000 0] false R)))
theorem UD(b:List (List Int))(c:Int)(R:oB)(e:List (List Int))(l:Nat)(a:Int)(n:Nat)(o:Bool)(d:Int)(f:List zO)(g:List zF)(h i:Int)(m:List (List zC))(j:List (List Int))(k:List zS):rT b c R e l a (n+1) o d f g h i m j k=
 (zP (decide (d<((zR (.list .int) b a.toNat).length:Int)))
 (wI d (zR (.list .int) b a.toNat).length=true∧
 wI a e.length=true∧
 yY xY [.sl .int (zR (.list .int) e a.toNat),dI (zR .int (zR (.list .int) b a.toNat) d.toNat)] .bool λq=>
 zP q
 (rT b c R e l a n o (yW (d+1)) f g h i m j k)
 (Q3 bN [.agg [.sl .var f,.sl .con g,dI h,dI i],dI c,dS j,dI a,dI (zR .int (zR (.list .int) b a.toNat) d.toNat)] (.list .lit) .bool λp r=>
 wD .step (k.length+([(⟨1,c,p⟩:zS)]).length)=true∧
 rT b c R e l a n true (yW (d+1)) f g h i m j (k++([(⟨1,c,p⟩:zS)]))))
 (pW b c R e l o (yW (a+1)) f g h i m j k)):=by kernel_rfl
theorem UE(a:List (List Int))(k:Int)(R:oB)(c:List (List Int))(l:Nat)(d:Bool)(b:Int)(e:List zO)(f:List zF)(g h:Int)(i:List (List zC))(m:List (List Int))(j:List zS):pW a k R c (l+1) d b e f g h i m j=
 (zP (decide (b<(a.length:Int)))
 (wI b a.length=true∧
 ∃n2,rT a k R c l b n2 d 0 e f g h i m j)
 (R (dB d) [(1000,.cells [.sl .var e,.sl .con f,dI g,dI h,.sl (.list .lit) i,dS c,.own 2000]),(2000,.row 129 .step j)])):=by kernel_rfl
theorem QT(d:List zO)(b:List zF)(e f:Int)(h:List (List zC))(c:List (List Int))(g:List zS)(a:Int)(R:oB):FH tH Tryz.f250 [.ptr 1000 0,dI a] [(1000,.cells [.sl .var d,.sl .con b,dI e,dI f,.sl (.list .lit) h,dS c,.own 2000]),(2000,.row 129 .step g)] [.ptr 1000 0] false R=
 (wI a b.length=true∧
 yY o7 [dC (zR .con b a.toNat),dS c] (.list (.list .int)) λi=>
 yY yT [dS i] .bool λk=>
 zP k
 (Q3 eV [.agg [.sl .var d,.sl .con b,dI e,dI f],dI a,dS c] (.list .lit) .bool λj m=>
 wD .step (g.length+([(⟨1,a,j⟩:zS)]).length)=true∧
 yY wZ [dS c] (.list (.list .int)) λl=>
 R (dB true) [(1000,.cells [.sl .var d,.sl .con b,dI e,dI f,.sl (.list .lit) h,dS l,.own 2000]),(2000,.row 129 .step (g++([(⟨1,a,j⟩:zS)])))])
 (∃n0,pW c a R i n0 false 0 d b e f h c g)):=by kernel_rfl
theorem Rr(a:List zO)(b:List zF)(c d:Int)(e:List (List zC))(f:List (List Int))(g:List zS)(h:Int):o9 tH Tryz.f250 lN [.ptr 1000 0,dI h] [(1000,.cells [.sl .var a,.sl .con b,dI c,dI d,.sl (.list .lit) e,dS f,.own 2000]),(2000,.row 129 .step g)] [.ptr 1000 0] false:=nV Tryz.func250 (by kernel_rfl) Tryz.ntmps250 rfl
def fw(m:zD)(d:List zC):List (List Int):=d.foldl Aq (xT m)
noncomputable def sZ (m:zD)(l:List (List zC))(d:List zC):Bool:=zT (sQ m true l (fw m d))
noncomputable def fewest (m:zD)(l:List (List zC))(d:List zC):List zC:=Bi (sZ m l) d
theorem zak:∀(d:List zC) (s:List (List Int)),d.foldl Aq s=rX (λv n=>d.all λx=> !decide ((v:Int)=x.var)||holdsL x n) s
 |[],s=>(cL λv n _=>rfl).symm
 |x::d,s=>by
  rw[List.foldl_cons,zak d (Aq s x),Aq,zd8];rfl
theorem VF{m:zD}{d:List zC}:fw m d=rX (λv n=>d.all λx=> !decide ((v:Int)=x.var)||holdsL x n) (xT m):=zak d _
theorem WH{m:zD}{d:List zC}:fO (fw m d) (xT m):=by rw[VF];exact XC
theorem zb9{m:zD}{d:List zC}:jW m (fw m d)=0:=RV Yf WH
theorem zgK{m:zD}(h:Right m){d:List zC}:iP (fw m d) m.vars.length:=Yd h zb9
theorem zex{m:zD}{a b:List zC}(h:∀x∈a,x∈b):fO (fw m b) (fw m a):=by
 rw[VF,VF];refine XD (fO.refl _) λv n _ e=> ?_
 rw[List.all_eq_true]at e⊢
 exact λx hx=>e x (h x hx)
theorem KN{m:zD}{l:List (List zC)}(hl:yN m l):∀a b:List zC,(∀x∈a,x∈b)→sZ m l a=true→sZ m l b=true:=λa b h ha=>by
 have hp:=hl.pos;have k1:(fw m a).length=m.vars.length:=WH.1.trans xI;have k2:(fw m b).length=m.vars.length:=WH.1.trans xI;cases e:sZ m l b with
 |true=>rfl
 |false=>
  have h2:=((jN (cons:=true) hl k2).mono (by omega) (jN (cons:=true) hl k1) (zex h) λop h=>h).fail e
  rw[sZ,h2]at ha;cases ha
theorem zgL{m:zD}{d:List zC}(h:∀x∈d,1≤x.op∧x.op≤4):fw m d=fD (xT m) (d.map iV):=by
 rw[VF,fD];refine Yb λv n _=> ?_
 induction d with
 |nil=>rfl
 |cons x d ih=>
  have ih:=ih λy hy=>h y (List.mem_cons_of_mem _ hy)
  have hx:=Dn (h x (List.mem_cons_self ..)) n;rw[List.all_cons,ih,List.map_cons,atC,atC,List.any_cons,Ba,hx]
  by_cases e:x.var=(v:Int)
  ·rw[if_pos e,decide_eq_true e.symm];cases holdsL x n<;>rfl
  ·rw[if_neg e,decide_eq_false λx=>e x.symm];rfl
structure xR (m:zD)(l:List (List zC))(d:List zC):Prop where
 chk:yR m=0
 len:l.length≤600
 cl:∀c∈l,yJ m.vars.length c=0
 dl:d.length≤40
 dr:∀x∈d,gU m.vars.length x=0
 turn:∀x∈d,gU m.vars.length (iV x)=0
theorem xR.mc{m:zD}{l:List (List zC)}{d:List zC}(h:xR m l d):yN m l:=nR h.chk h.cl
theorem xR.ops{m:zD}{l:List (List zC)}{d:List zC}(h:xR m l d):∀x∈d,1≤x.op∧x.op≤4:=λx hx=>(oz.1 (h.dr x hx)).2.1
theorem xR.sub{m:zD}{l:List (List zC)}{d d':List zC}(h:xR m l d)(hs:d'.Sublist d):xR m l d':=⟨h.chk,h.len,h.cl,Nat.le_trans hs.length_le h.dl,λx hx=>h.dr x (hs.subset hx),λx hx=>h.turn x (hs.subset hx)⟩
theorem UF{m:zD}{l:List (List zC)}{d:List zC}:(fewest m l d).Sublist d:=Mn ..
theorem Mp{m:zD}{l:List (List zC)}{d:List zC}(h:sZ m l d=true):sZ m l (fewest m l d)=true:=RX _ _ _ _ h
theorem DM{m:zD}{l:List (List zC)}{d:List zC}(h:xR m l d):yJ m.vars.length (d.map iV)=0:=OH (by rw[List.length_map];exact h.dl) λx hx=>by
 obtain⟨y,hy,rfl⟩:=List.mem_map.1 hx;exact h.turn y hy
theorem xR.near{m:zD}{l:List (List zC)}{d:List zC}(h:xR m l d):∀x∈d,-1000000≤x.n∧x.n≤1000000:=λx hx=>by have:=oz.1 (h.dr x hx);omega
theorem Mq{m:zD}{con:Int}{s:List (List Int)}{must r:List zC}(h:VE m con s must r)(hp:0<m.vars.length)(hcl:yJ m.vars.length (must++r)=0)
  {u:List (List Int)} (hu:fO u s) (hf:zT u=false) (hlen:u.length=m.vars.length) (hst:Zd u (must++r)=u) {v:Nat} {n:Int} (hn:n∈u.getD v []):∃us,XB us u∧us.getD v 0=n∧sY must us=true:=by
 have hl:=(aD hcl).2;have hv:∀x∈must++r,0≤x.var∧x.var<(m.vars.length:Int):=λx hx=>(oz.1 (hl x hx)).1
 have op:=zdd (c:=must++r) (nv:=m.vars.length) hv hp;obtain⟨us,h1,h2,h3⟩:=Ya.congr (Q':=λ_=>true) (vs:=[]) op hlen hst hf v n hn
 refine⟨us,h1,h2,?_⟩;obtain⟨x,hx,hh⟩:=nQ.1 h3;rcases List.mem_append.1 hx with hm|hm
 ·exact nQ.2 ⟨x,hm,hh⟩
 ·have ht:=(h.told x hm).2.1
  have hb:=hv x hx;have hin:=(hu.2 x.var.toNat).subset (h1.2 x.var.toNat (by omega))
  have:=Oo.2 ⟨_,hin,hh⟩;omega
def uX(l:List zS):List (List zC):=l.map λst=>st.clause
noncomputable def TN (m:zD)(l:List (List zC))(d:List zC)(steps:List zS):List (List Int):=sQ m false (l++uX steps) (fw m d)
structure XJ (m:zD)(st:zS):Prop where
 kind:st.kind=1
 con:0≤st.con∧st.con<(m.cons.length:Int)
 by':nZ m st.con st.clause=true
 cl:yJ m.vars.length st.clause=0
section
variable {m:zD}{l:List (List zC)}{d:List zC}{steps more:List zS}{s x:List (List Int)}
theorem pK:uX (steps++more)=uX steps++uX more:=List.map_append
theorem iQ:(fw m d).length=m.vars.length:=WH.1.trans xI
theorem zca(h:xR m l d)(hs:∀st∈steps,XJ m st):yN m (l++uX steps):=nR h.chk λc hc=>by
 rcases List.mem_append.1 hc with hc|hc
 ·exact h.cl c hc
 ·obtain⟨st,h1,rfl⟩:=List.mem_map.1 hc
  exact(hs st h1).cl
theorem Rs(h:xR m l d)(hs:∀st∈steps,XJ m st):X3 (oS m false (l++uX steps)) (fw m d) (TN m l d steps):=jN (zca h hs) iQ
theorem zdl(h:xR m l d)(hs:∀st∈steps,XJ m st):(TN m l d steps).length=m.vars.length:=(Rs h hs).le.1.trans iQ
theorem GZ(h:xR m l d)(hs:∀st∈steps,XJ m st)(hf:zT (TN m l d steps)=false){c:List zC}(hc:c∈l++uX steps):Zd (TN m l d steps) c=TN m l d steps:=by
 rcases(Rs h hs).out with⟨_,h2⟩|h2
 ·exact h2 (λs=>Zd s c) (pB.2 (.inr ⟨c,hc,rfl⟩))
 ·rw[h2,kB (by rw[iQ];exact(zca h hs).pos)]at hf;cases hf
theorem zal(h:xR m l d)(h1:∀st∈steps,XJ m st)(h2:∀st∈steps++more,XJ m st):fO (TN m l d (steps++more)) (TN m l d steps):=
 (Rs h h2).mono (by rw[iQ];exact(zca h h1).pos) (Rs h h1) (fO.refl _) λop ho=>by
  rcases pB.1 ho with⟨hc,_⟩|⟨c,hc,rfl⟩
  ·cases hc
  ·refine pB.2 (.inr ⟨c,?_,rfl⟩)
   rw[pK];rcases List.mem_append.1 hc with hc|hc
   ·exact List.mem_append_left _ hc
   ·exact List.mem_append_right _ (List.mem_append_left _ hc)
def Sim(m:zD)(l:List (List zC))(d:List zC)(steps:List zS)(s:List (List Int)):Prop:=zT (TN m l d steps)=true∨fO (TN m l d steps) s
theorem Sim.grow(hs:Sim m l d steps s)(h:xR m l d)(h1:∀st∈steps,XJ m st)(h2:∀st∈steps++more,XJ m st):Sim m l d (steps++more) s:=by
 rcases hs with hs|hs
 ·exact .inl ((zal h h1 h2).failed hs)
 ·exact .inr ((zal h h1 h2).trans hs)
theorem KO{i:Int}{v:Nat}{n:Int}(hat:U6 m i=0)(hl:s.length=m.vars.length)(hle:fO s (xT m))(hg:WE m i s v n=true):(v<m.vars.length∧n∈s.getD v [])∧∃r,WF m i s v n=[⟨v,4,n⟩]++r∧VE m i s [⟨v,4,n⟩] r∧yJ m.vars.length ([⟨v,4,n⟩]++r)=0:=by
 have hg':=hg;rw[WE,Bool.and_eq_true,Bool.and_eq_true,Int.toNat_natCast]at hg'
 obtain⟨a,b,c⟩:=hg';have a:zT s=false:=by simpa using a
 have b:=mL.1 b;have c:n∉(yM (yL m i) s).getD v []:=λh=>by rw[mL.2 h]at c;cases c
 have hv:v<s.length:=Classical.byContradiction λh=>by rw[sU (by omega)]at b;cases b
 have hr:=DL (must:=[⟨v,4,n⟩]) hat (Bj hat hl a hv b c);refine⟨⟨by omega,b⟩,_,?_,hr,hr.clause (Nat.le_refl 1) λx hx=> ?_⟩
 ·rw[WF,if_pos hg];rfl
 ·rw[List.mem_singleton.1 hx]
  exact Mo (pT hat).1 (show 0≤(v:Int)∧(v:Int)<_ by omega) (show 1≤(4:Int)∧(4:Int)≤4 by decide) (by
   show n∈(xT m).getD ((v:Int).toNat) []
   rw[Int.toNat_natCast];exact(hle.2 v).subset b)
theorem zey{i:Int}{v:Nat}{n:Int}(hat:U6 m i=0)(hl:s.length=m.vars.length)(hle:fO s (xT m))(hg:WE m i s v n=true):XJ m ⟨1,i,WF m i s v n⟩:=by
 obtain⟨_,r,e,hr,hc⟩:=KO hat hl hle hg;have hi:=(pT hat).2;exact⟨rfl,hi,by show nZ m i (WF m i s v n)=true;rw[e];exact hr.says,by show yJ _ (WF m i s v n)=0;rw[e];exact hc⟩
theorem Mr{i:Int}(hat:U6 m i=0)(hl:s.length=m.vars.length)(hf:zT s=false)(hg:zT (yM (yL m i) s)=true):∃r,iD m i s=[]++r∧VE m i s [] r∧yJ m.vars.length ([]++r)=0:=by
 have hr:=DL (must:=[]) hat (zaj hat hl hf hg);refine⟨_,?_,hr,hr.clause (Nat.zero_le _) λx hx=>(by cases hx)⟩
 have hb:Rn m i s=true:=by rw[Rn,hf,hg];rfl
 rw[iD,if_pos hb];rfl
theorem zcb{i:Int}(hat:U6 m i=0)(hl:s.length=m.vars.length)(hf:zT s=false)(hg:zT (yM (yL m i) s)=true):XJ m ⟨1,i,iD m i s⟩:=by
 obtain⟨r,e,hr,hc⟩:=Mr hat hl hf hg;have hi:=(pT hat).2;exact⟨rfl,hi,by show nZ m i (iD m i s)=true;rw[e];exact hr.says,by show yJ _ (iD m i s)=0;rw[e];exact hc⟩
noncomputable def Yh (m:zD)(i:Int)(s:List (List Int))(v:Nat)(n:Int):zS:=⟨1,i,WF m i s v n⟩
noncomputable def Ms (m:zD)(i:Int)(s x:List (List Int))(v:Nat):List zS:=((s.getD v []).filter λn=> !gI (x.getD v []) n).map (Yh m i s v)
noncomputable def wN (m:zD)(i:Int)(s x:List (List Int))(k:Nat):List zS:=(List.range k).flatMap (Ms m i s x)
theorem WT{i:Int}{k:Nat}:wN m i s x (k+1)=wN m i s x k++Ms m i s x k:=by
 rw[wN,List.range_succ,List.flatMap_append];simp[wN]
theorem YZ{i:Int}{k:Nat}{st:zS}:st∈wN m i s x k↔∃v n,v<k∧n∈s.getD v []∧n∉x.getD v []∧st=Yh m i s v n:=by
 rw[wN,List.mem_flatMap];constructor
 ·rintro⟨v,hv,h⟩
  obtain⟨n,h1,h2⟩:=List.mem_map.1 h;obtain⟨h3,h4⟩:=List.mem_filter.1 h1;exact⟨v,n,List.mem_range.1 hv,h3,(λe=>by rw[mL.2 e]at h4;cases h4),h2.symm⟩
 ·rintro⟨v,n,h1,h2,h3,rfl⟩
  refine⟨v,List.mem_range.2 h1,List.mem_map.2 ⟨n,List.mem_filter.2 ⟨h2,?_⟩,rfl⟩⟩;cases e:gI (x.getD v []) n
  ·rfl
  ·exact absurd (mL.1 e) h3
theorem zgM{a b:List Int}(h:a.Sublist b):(b.filter λn=> !gI a n).length+a.length≤b.length:=by
 have h1:=NU (p:=gI a) (r:=b);have h2:(a.filter (gI a))=a:=List.filter_eq_self.2 λn hn=>mL.2 hn
 have h3:=(h.filter (gI a)).length_le;rw[h2]at h3
 omega
theorem L7{a:List (List Int)}{k:Nat}(h:k<a.length):wJ (a.take (k+1))=wJ (a.take k)+a[k].length:=by
 have:=congrArg wJ (List.take_append_getElem h);rw[←this,wJ,List.map_append,List.sum_append];simp[wJ]
theorem Eu{i:Int}(h:fO x s):∀k,k≤s.length→(wN m i s x k).length+wJ (x.take k)≤wJ (s.take k):=by
 intro k
 induction k with
 |zero=>intro _;exact Nat.le_refl _
 |succ k ih=>
  intro hk;have ih:=ih (by omega)
  have hx:k<x.length:=by rw[h.1];omega
  have e1:wJ (x.take (k+1))=wJ (x.take k)+(x.getD k []).length:=by rw[yA _ hx,L7 hx]
  have e2:wJ (s.take (k+1))=wJ (s.take k)+(s.getD k []).length:=by rw[yA _ hk,L7 hk]
  have:=zgM (h.2 k);rw[WT,List.length_append,e1,e2,Ms,List.length_map];omega
structure Tr (m:zD)(l:List (List zC))(d:List zC)(steps:List zS)(s:List (List Int)):Prop where
 reach:sN (oS m true l) (fw m d) s
 sim:Sim m l d steps s
 ok:∀st∈steps,XJ m st
 size:steps.length+wJ s≤36
 size2:steps.length+wJ s≤wJ (xT m)
theorem Tr.len(h:Tr m l d steps s):s.length=m.vars.length:=h.reach.le.1.trans iQ
theorem Tr.le(h:Tr m l d steps s):fO s (xT m):=h.reach.le.trans WH
theorem Tr.store(h:Tr m l d steps s):jW m s=0:=RV Yf h.le
theorem Tr.filtR(h:Tr m l d steps s)(hk:xR m l d){i:Int}(hi:0≤i∧i<(m.cons.length:Int)):zdh m i s:=by
 refine zgI (ziq ?_ hi);rw[Ao (by rw[hk.chk];decide),Hy];exact h.store
theorem DN(hr:Right m):wJ (xT m)≤36:=by
 have h1:∀k,k≤m.vars.length→wJ ((xT m).take k)≤k*6:=by
  intro k
  induction k with
  |zero=>intro _;exact Nat.le_refl _
  |succ k ih=>
   intro hk;have hx:k<(xT m).length:=by rw[xI];exact hk
   have:=ih (by omega)
   have h6:=Rm hr k;rw[yA _ hx]at h6
   have e1:wJ ((xT m).take (k+1))=wJ ((xT m).take k)+((xT m)[k]).length:=L7 hx;omega
 have h2:=h1 _ (Nat.le_refl _);rw[List.take_of_length_le (by rw[xI];exact Nat.le_refl _)]at h2
 have:=hr.vars;omega
theorem Tr.begin(h:xR m l d):Tr m l d [] (fw m d):=
 ⟨sN.refl _ _,.inr (Rs h λ_ hx=>(by cases hx)).le,λ_ hx=>(by cases hx),by
  have:=(WH (m:=m) (d:=d)).size;have:=DN h.mc.right;show 0+_≤_
  omega,by
  have:=(WH (m:=m) (d:=d)).size;show 0+_≤_
  omega⟩
theorem zdm{i:Int}(hat:U6 m i=0):yL m i∈m.cons:=by
 have h:=(pT hat).2;have hi:i.toNat<m.cons.length:=by omega
 rw[yL,yA _ hi];exact List.getElem_mem hi
theorem G0(hp:0<s.length)(hf:zT s=false):0<wJ s:=by
 have:=tG.1 hf 0 hp;cases s with
 |nil=>cases hp
 |cons a s=>
  have:a≠[]:=this;have:0<a.length:=List.length_pos_iff.2 this;show 0<a.length+_
  omega
theorem L8:wJ (kX s)=0:=by
 rw[kX,wJ,List.map_replicate,List.sum_replicate_nat];rfl
theorem sN.none{ops:List Op}{s0 r t:List (List Int)}(h:sN ops s0 r)(hf:zT r=true)(hl:t.length=s0.length):sN ops s0 (kX t):=
 ⟨Vw hl,λt h1 h2 h3=>by have:=(h.all t h1 h2 h3).fail h2;rw[hf]at this;cases this⟩
theorem Tr.empty(h:Tr m l d steps s)(hk:xR m l d){i:Int}(hat:U6 m i=0)(hf:zT s=false)(hg:zT (yM (yL m i) s)=true):
  Tr m l d (steps++[⟨1,i,iD m i s⟩]) (kX s)∧wJ (kX s)<wJ s:=by
 have hp:0<s.length:=by rw[h.len];exact hk.mc.pos
 have hpos:=G0 hp hf
 have hok:∀st∈steps++[⟨1,i,iD m i s⟩],XJ m st:=λst hs=>by
  rcases List.mem_append.1 hs with hs|hs
  ·exact h.ok st hs
  ·rw[List.mem_singleton.1 hs];exact zcb hat h.len hf hg
 have hs:=h.sim.grow hk h.ok hok;refine⟨⟨?_,?_,hok,?_,?_⟩,by rw[L8];exact hpos⟩
 ·refine sN.none (r:=yM (yL m i) s) ?_ hg (h.len.trans iQ.symm)
  exact h.reach.step (OB hk.mc) iQ (pB.2 (.inl ⟨rfl,_,zdm hat,rfl⟩))
 ·refine .inl ?_
  rcases hs with hs|hs
  ·exact hs
  ·cases hu:zT (TN m l d (steps++[⟨1,i,iD m i s⟩]))
   ·obtain⟨r,e,hr,hc⟩:=Mr hat h.len hf hg
    have hl:=zdl hk hok;have hst:=GZ hk hok hu (c:=iD m i s) (by rw[pK];exact List.mem_append_right _ (List.mem_append_right _ (List.mem_singleton.2 rfl)))
    have hst:Zd (TN m l d (steps++[⟨1,i,iD m i s⟩])) ([]++r)=TN m l d (steps++[⟨1,i,iD m i s⟩]):=by rw[←e];exact hst
    have h0:=tG.1 hu 0 (by rw[hl];exact hk.mc.pos)
    obtain⟨n,hn⟩:=List.exists_mem_of_ne_nil _ h0;obtain⟨us,_,_,h3⟩:=Mq hr hk.mc.pos hc hs hu hl hst hn;cases h3
   ·rfl
 ·have:=h.size
  rw[List.length_append,L8,List.length_singleton];omega
 ·have:=h.size2
  rw[List.length_append,L8,List.length_singleton];omega
theorem Tr.con(h:Tr m l d steps s)(hk:xR m l d){i:Int}(hat:U6 m i=0)(hf:zT s=false)(hg:zT (yM (yL m i) s)=false):
  Tr m l d (steps++wN m i s (yM (yL m i) s) s.length) (yM (yL m i) s)∧(wN m i s (yM (yL m i) s) s.length=[]→yM (yL m i) s=s)∧(wN m i s (yM (yL m i) s) s.length≠[]→wJ (yM (yL m i) s)<wJ s):=by
 have hop:=(h.filtR hk (pT hat).2).op;have hle:=hop.le h.len;have hk':yM (yL m i) s=rX (mayB (wH (yL m i)) s) s:=hop.some s h.len hf ((hop.nofail h.len).1 hg)
 have hgone:∀v n,n∈s.getD v []→n∉(yM (yL m i) s).getD v []→WE m i s v n=true:=λv n h1 h2=>by
  rw[WE,Int.toNat_natCast,hf,mL.2 h1];cases e:gI ((yM (yL m i) s).getD v []) n
  ·rfl
  ·exact absurd (mL.1 e) h2
 have hok:∀st∈steps++wN m i s (yM (yL m i) s) s.length,XJ m st:=λst hs=>by
  rcases List.mem_append.1 hs with hs|hs
  ·exact h.ok st hs
  ·obtain⟨v,n,h1,h2,h3,rfl⟩:=YZ.1 hs
   exact zey hat h.len h.le (hgone v n h2 h3)
 have hs:=h.sim.grow hk h.ok hok;have hsz:=Eu (m:=m) (i:=i) hle s.length (Nat.le_refl _);rw[List.take_length,List.take_of_length_le (by rw[hle.1];exact Nat.le_refl _)]at hsz
 refine⟨⟨?_,?_,hok,?_,?_⟩,λe=> ?_,λe=> ?_⟩
 ·exact h.reach.step (OB hk.mc) iQ (pB.2 (.inl ⟨rfl,_,zdm hat,rfl⟩))
 ·rcases hs with hs|hs
  ·exact .inl hs
  ·cases hu:zT (TN m l d (steps++wN m i s (yM (yL m i) s) s.length))
   ·refine .inr ?_
    have hl:=zdl hk hok
    have hall:∀(v:Nat) (n:Int),n∈(TN m l d (steps++wN m i s (yM (yL m i) s) s.length)).getD v []→mayB (wH (yL m i)) s v n=true:=λv n hn=>by
     have hns:=(hs.2 v).subset hn;cases hm:mayB (wH (yL m i)) s v n
     ·have hn2:n∉(yM (yL m i) s).getD v []:=λe=>by
       rw[hk',uD]at e
       rw[(List.mem_filter.1 e).2]at hm;cases hm
      have hg:=hgone v n hns hn2;obtain⟨⟨hv,_⟩,r,e,hr,hc⟩:=KO hat h.len h.le hg
      have hst:=GZ hk hok hu (c:=WF m i s v n) (by
       rw[pK];refine List.mem_append_right _ (List.mem_append_right _ (List.mem_map.2 ⟨Yh m i s v n,YZ.2 ⟨v,n,by rw[h.len];exact hv,hns,hn2,rfl⟩,rfl⟩)))
      have hst:Zd (TN m l d (steps++wN m i s (yM (yL m i) s) s.length)) ([⟨v,4,n⟩]++r)=TN m l d (steps++wN m i s (yM (yL m i) s) s.length):=by rw[←e];exact hst
      obtain⟨us,_,h2,h3⟩:=Mq hr hk.mc.pos hc hs hu hl hst hn;obtain⟨x,hx,hh⟩:=nQ.1 h3;rw[List.mem_singleton.1 hx]at hh
      have h2':us.getD ((v:Int).toNat) 0=n:=by rw[Int.toNat_natCast];exact h2
      simp[holdsL,h2']at hh
      exact absurd (by simpa using h2) hh
     ·rfl
    have h2:=XD (f:=mayB (wH (yL m i)) s) (g:=mayB (wH (yL m i)) s) hs λv n hn e=>e
    rw[cL hall,←hk']at h2
    exact h2
   ·exact .inl hu
 ·have:=h.size
  rw[List.length_append];omega
 ·have:=h.size2
  rw[List.length_append];omega
 ·have:∀(v:Nat) (n:Int),n∈s.getD v []→mayB (wH (yL m i)) s v n=true:=λv n hn=>by
   cases hm:mayB (wH (yL m i)) s v n
   ·have hn2:n∉(yM (yL m i) s).getD v []:=λe=>by
     rw[hk',uD]at e
     rw[(List.mem_filter.1 e).2]at hm;cases hm
    have hv:v<s.length:=Classical.byContradiction λh=>by rw[sU (by omega)]at hn;cases hn
    have:=(YZ (m:=m) (i:=i)).2 ⟨v,n,hv,hn,hn2,rfl⟩;rw[e]at this;cases this
   ·rfl
  rw[hk',cL this]
 ·have:0<(wN m i s (yM (yL m i) s) s.length).length:=List.length_pos_iff.2 e
  omega
theorem Tr.units(h:Tr m l d steps s)(hk:xR m l d):Tr m l d steps (sQ m false l s)∧fO (sQ m false l s) s:=by
 have hr:=jN (cons:=false) hk.mc h.len
 have hsub:∀op∈oS m false l,op∈oS m true l:=λop ho=>by
  rcases pB.1 ho with⟨hc,_⟩|hc
  ·cases hc
  ·exact pB.2 (.inr hc)
 refine⟨⟨⟨hr.le.trans h.reach.le,λt h1 h2 h3=>hr.all t (h.reach.all t h1 h2 h3) h2 λop ho=>h3 op (hsub op ho)⟩,?_,h.ok,?_,?_⟩,hr.le⟩
 ·rcases h.sim with hs|hs
  ·exact .inl hs
  ·cases hu:zT (TN m l d steps)
   ·refine .inr (hr.all _ hs hu λop ho=> ?_)
    rcases pB.1 ho with⟨hc,_⟩|⟨c,hc,rfl⟩
    ·cases hc
    ·exact GZ hk h.ok hu (List.mem_append_left _ hc)
   ·exact .inl hu
 ·have:=h.size
  have:=hr.le.size;omega
 ·have:=h.size2
  have:=hr.le.size;omega
theorem Tr.done(h:Tr m l d steps s)(hk:xR m l d)(hf:sZ m l d=true)(he:zT s=true∨QM (oS m true l) s):zT (TN m l d steps)=true:=by
 have hs:zT s=true:=by
  cases e:zT s
  ·rcases he with he|he
   ·rw[e]at he;cases he
   ·have:=RW hk.mc iQ (h.reach.stop e he)
    rw[sZ,this,e]at hf;cases hf
  ·rfl
 rcases h.sim with h1|h1
 ·exact h1
 ·exact h1.failed hs
end
def KP(d:List zC):zS:=⟨2,0,d.map iV⟩
theorem UG{m:zD}:∀(a b:List zS) (all:List (List zC)),qB m all (a++b)=(qB m all a&&qB m (all++uX a) b)
 |[],b,all=>by
  show qB m all b=(qB m all []&&qB m (all++[]) b)
  rw[List.append_nil];rfl
 |x::a,b,all=>by
  rw[List.cons_append,qB,UG a b,qB,Bool.and_assoc,List.append_assoc];rfl
theorem G1{m:zD}:∀(a:List zS) (all:List (List zC)),(∀st∈a,XJ m st)→qB m all a=true
 |[],all,_=>rfl
 |x::a,all,h=>by
  have hx:=h x (List.mem_cons_self ..);rw[qB,G1 a _ λst hs=>h st (List.mem_cons_of_mem _ hs),Ze,if_pos hx.kind,hx.by'];rfl
structure Bl (m:zD)(l:List (List zC))(d:List zC)(t:List zS):Prop where
 right:qB m l t=true
 len:0<t.length∧t.length≤37
 len2:t.length≤wJ (xT m)+1
 cl:∀st∈t,yJ m.vars.length st.clause=0
 con:∀st∈t,st.kind=1→0≤st.con∧st.con<(m.cons.length:Int)
 last:(t.getD (t.length-1) ⟨0,0,[]⟩).clause=d.map iV
theorem Tr.trace{m:zD}{l:List (List zC)}{d:List zC}{steps:List zS}{s:List (List Int)}(h:Tr m l d steps s)(hk:xR m l d)(hf:sZ m l d=true)(he:zT s=true∨QM (oS m true l) s):Bl m l d (steps++[KP d]):=by
 refine⟨?_,?_,?_,λst hs=> ?_,λst hs e=> ?_,?_⟩
 ·rw[UG,G1 _ _ h.ok,Bool.true_and]
  show(Ze m (l++uX steps) (KP d)&&true)=true
  rw[Bool.and_true];show(decide ((0:Int)=0)&&UA m (l++uX steps) (d.map iV))=true
  rw[UA,←zgL hk.ops];exact h.done hk hf he
 ·have:=h.size
  rw[List.length_append,List.length_singleton];omega
 ·have:=h.size2
  rw[List.length_append,List.length_singleton];omega
 ·rcases List.mem_append.1 hs with hs|hs
  ·exact(h.ok st hs).cl
  ·rw[List.mem_singleton.1 hs];exact DM hk
 ·rcases List.mem_append.1 hs with hs|hs
  ·exact(h.ok st hs).con
  ·rw[List.mem_singleton.1 hs]at e;cases e
 ·rw[List.length_append,List.length_singleton,Nat.add_sub_cancel,yA _ (show steps.length<(steps++[KP d]).length by rw[List.length_append,List.length_singleton];omega),List.getElem_append_right (Nat.le_refl _)]
  simp[KP]
theorem Bl.steps{m:zD}{l:List (List zC)}{d:List zC}{t:List zS}(h:Bl m l d t)(hk:xR m l d):Ik m l t:=⟨hk.chk,hk.len,by have:=h.len;omega,hk.cl,h.cl,h.con⟩
theorem Yi{α:Type}{f:Nat→α→Int}:∀ {xs:List α} {i:Nat},(∀j,∀x∈xs,f j x=0)→xU f i xs=0
 |[],_,_=>rfl
 |x::xs,i,h=>by rw[xU,if_pos (h i x (List.mem_cons_self ..)),Yi λj y hy=>h j y (List.mem_cons_of_mem _ hy)]
abbrev G2:Type:=List zS×List (List Int)
noncomputable def XK (m:zD)(i:Int)(p:G2):G2×Bool:=if zT (yM (yL m i) p.2)=true then((p.1++[⟨1,i,iD m i p.2⟩],kX p.2),true)
 else((p.1++wN m i p.2 (yM (yL m i) p.2) p.2.length,yM (yL m i) p.2),!(wN m i p.2 (yM (yL m i) p.2) p.2.length).isEmpty)
noncomputable def iR (m:zD):Nat→Nat→G2→Bool→G2×Bool
 |0,_,p,c=>(p,c)
 |k+1,i,p,c=>if zT p.2=true then(p,c)else iR m k (i+1) (XK m i p).1 ((XK m i p).2||c)
noncomputable def kF (m:zD)(l:List (List zC))(p:G2):G2×Bool:=
 (((iR m m.cons.length 0 p false).1.1,sQ m false l (iR m m.cons.length 0 p false).1.2),if sQ m false l (iR m m.cons.length 0 p false).1.2=(iR m m.cons.length 0 p false).1.2 then(iR m m.cons.length 0 p false).2 else true)
noncomputable def QU (m:zD)(l:List (List zC)):Nat→G2→G2
 |0,p=>p
 |k+1,p=>if zT p.2=true then p else if(kF m l p).2=true then QU m l k (kF m l p).1 else(kF m l p).1
noncomputable def fL (m:zD)(l:List (List zC))(d:List zC):List zS:=(QU m l 37 ([],fw m d)).1++[KP d]
section
variable {m:zD}{l:List (List zC)}{d:List zC}
theorem zgN(h:xR m l d){i:Nat}(hi:i<m.cons.length):U6 m i=0:=OA h.chk (by omega)
theorem L9{p:G2}(h:Tr m l d p.1 p.2)(hk:xR m l d){i:Nat}(hi:i<m.cons.length)(hf:zT p.2=false):
  Tr m l d (XK m i p).1.1 (XK m i p).1.2∧((XK m i p).2=true→wJ (XK m i p).1.2<wJ p.2)∧((XK m i p).2=false→(XK m i p).1.2=p.2∧yM (yL m i) p.2=p.2):=by
 have hat:=zgN hk hi;cases hg:zT (yM (yL m i) p.2)
 ·obtain⟨h1,h2,h3⟩:=h.con hk hat hf hg
  have e:XK m i p=((p.1++wN m i p.2 (yM (yL m i) p.2) p.2.length,yM (yL m i) p.2),!(wN m i p.2 (yM (yL m i) p.2) p.2.length).isEmpty):=by
   rw[XK,if_neg (by rw[hg];decide)]
  rw[e];refine⟨h1,λx=>h3 λe=> ?_,λx=> ?_⟩
  ·rw[e]at x;cases x
  ·have:=h2 (List.isEmpty_iff.1 (by simpa using x))
   exact⟨this,this⟩
 ·obtain⟨h1,h2⟩:=h.empty hk hat hf hg
  have e:XK m i p=((p.1++[⟨1,i,iD m i p.2⟩],kX p.2),true):=by rw[XK,if_pos hg]
  rw[e];exact⟨h1,λ_=>h2,λx=>by cases x⟩
theorem OJ(hk:xR m l d):∀(k i:Nat) (p:G2) (c:Bool),i+k=m.cons.length→Tr m l d p.1 p.2→
  Tr m l d (iR m k i p c).1.1 (iR m k i p c).1.2∧wJ (iR m k i p c).1.2≤wJ p.2∧((iR m k i p c).2=true→c=true∨wJ (iR m k i p c).1.2<wJ p.2)∧
   ((iR m k i p c).2=false→c=false∧(iR m k i p c).1.2=p.2∧(zT p.2=true∨∀j,i≤j→j<m.cons.length→yM (yL m j) p.2=p.2))
 |0,i,p,c,hi,h=>⟨h,Nat.le_refl _,λe=> .inl e,λe=>⟨e,rfl,.inr λj h1 h2=>by omega⟩⟩
 |k+1,i,p,c,hi,h=>by
  cases hf:zT p.2
  ·obtain⟨h1,h2,h3⟩:=L9 h hk (i:=i) (by omega) hf
   obtain⟨i1,i2,i3,i4⟩:=OJ hk k (i+1) (XK m i p).1 ((XK m i p).2||c) (by omega) h1
   rw[iR,if_neg (by rw[hf];decide)]
   have hle:wJ (XK m i p).1.2≤wJ p.2:=by
    cases e:(XK m i p).2
    ·rw[(h3 e).1];exact Nat.le_refl _
    ·exact Nat.le_of_lt (h2 e)
   refine⟨i1,Nat.le_trans i2 hle,λe=> ?_,λe=> ?_⟩
   ·rcases i3 e with e|e
    ·rcases Bool.or_eq_true _ _▸e with e|e
     ·exact .inr (Nat.lt_of_le_of_lt i2 (h2 e))
     ·exact .inl e
    ·exact .inr (Nat.lt_of_lt_of_le e hle)
   ·obtain⟨a,b,g⟩:=i4 e
    rw[Bool.or_eq_false_iff]at a
    obtain⟨e1,e2⟩:=h3 a.1;rw[e1]at b g
    refine⟨a.2,b,.inr λj q1 q2=> ?_⟩
    by_cases hj:j=i
    ·rw[hj];exact e2
    ·rcases g with g|g
     ·rw[hf]at g;cases g
     ·exact g j (by omega) q2
  ·rw[iR,if_pos hf]
   exact⟨h,Nat.le_refl _,λe=> .inl e,λe=>⟨e,rfl,.inl rfl⟩⟩
theorem Rt{p:G2}(h:Tr m l d p.1 p.2)(hk:xR m l d)(hf:zT p.2=false):
  Tr m l d (kF m l p).1.1 (kF m l p).1.2∧((kF m l p).2=true→wJ (kF m l p).1.2<wJ p.2)∧((kF m l p).2=false→QM (oS m true l) (kF m l p).1.2):=by
 obtain⟨i1,i2,i3,i4⟩:=OJ hk m.cons.length 0 p false (Nat.zero_add _) h;obtain⟨j1,j2⟩:=i1.units hk;rw[kF];generalize iR m m.cons.length 0 p false=r at i1 i2 i3 i4 j1 j2⊢
 refine⟨j1,λe=> ?_,λe=> ?_⟩
 ·by_cases hx:sQ m false l r.1.2=r.1.2
  ·have e:r.2=true:=by simpa[hx]using e
   show wJ (sQ m false l r.1.2)<_
   rw[hx];rcases i3 e with e|e
   ·cases e
   ·exact e
  ·exact Nat.lt_of_lt_of_le (j2.size_lt hx) i2
 ·by_cases hx:sQ m false l r.1.2=r.1.2
  ·have e:r.2=false:=by simpa[hx]using e
   obtain⟨_,b,g⟩:=i4 e;show QM _ (sQ m false l r.1.2)
   rw[hx,b];rw[b]at hx
   rcases g with g|g
   ·rw[hf]at g;cases g
   intro op ho;rcases pB.1 ho with⟨_,c,hc,rfl⟩|⟨c,hc,rfl⟩
   ·obtain⟨j,hj,rfl⟩:=List.getElem_of_mem hc
    have:=g j (Nat.zero_le _) hj
    rwa[yL,Int.toNat_natCast,yA _ hj]at this
   ·have hr:=jN (cons:=false) hk.mc h.len
    rw[hx]at hr
    rcases hr.out with⟨_,h2⟩|h2
    ·exact h2 _ (pB.2 (.inr ⟨c,hc,rfl⟩))
    ·rw[h2,kB (by rw[h.len];exact hk.mc.pos)]at hf;cases hf
  ·simp[hx]at e
theorem RY(hk:xR m l d):∀(k:Nat) (p:G2),Tr m l d p.1 p.2→wJ p.2≤k→Tr m l d (QU m l (k+1) p).1 (QU m l (k+1) p).2∧(zT (QU m l (k+1) p).2=true∨QM (oS m true l) (QU m l (k+1) p).2)
 |k,p,h,hs=>by
  cases hf:zT p.2
  ·obtain⟨h1,h2,h3⟩:=Rt h hk hf
   rw[QU,if_neg (by rw[hf];decide)]
   have hp:=G0 (by rw[h.len];exact hk.mc.pos) hf
   cases e:(kF m l p).2
   ·rw[if_neg (by decide)];exact⟨h1,.inr (h3 e)⟩
   ·rw[if_pos rfl]
    have:=h2 e
    match k,hs with
    |0,hs=>omega
    |k+1,hs=>exact RY hk k _ h1 (by omega)
  ·rw[QU,if_pos hf];exact⟨h,.inl hf⟩
theorem Ru(hk:xR m l d)(hf:sZ m l d=true):Bl m l d (fL m l d):=by
 have hb:=Tr.begin hk;obtain⟨h1,h2⟩:=RY hk 36 ([],fw m d) hb (by have:=hb.size;simpa using this)
 exact h1.trace hk hf h2
end
theorem zcc(w:World):Calls Tryz.prog 248 #[.slice none 0 0,.int .i64 0] w λe w'=>e=.returned (.slice none 0 0)∧w=w':=by
 go_enter Tryz.func248,Tryz.ntmps248
 go_wp2
 all_goals go_ret
 all_goals exact⟨rfl,rfl⟩
set_option maxRecDepth 100000 in
theorem zcd(n:Nat)(h0:0<n)(h:n*24≤140737488355328)(w:World):Calls Tryz.prog 248 #[.slice none 0 0,.int .i64 n] w λe w'=>∃cap cells,e=.returned (.slice (some ⟨w.heap.size,0,none⟩) 0 cap)∧w'.heap[w.heap.size]? =some (.cells cells 114 (0,0))∧cells.size=cap*3∧cap≤maxLen∧w'.heap.size=w.heap.size+1∧Below w.heap.size w w':=by
 go_enter Tryz.func248,Tryz.ntmps248
 have happ:=Lib.run_append_nil_zeros (P:=Tryz.prog) w 52 3 52 114 Tryz.t114 (.agg #[.int .i64 0,.int .i64 0,.int .i64 0]) .i64 .i64 Tryz.underlying52 Tryz.underlying3 (by kernel_rfl) (by kernel_rfl) n h0 (by decide) (by omega) (by show n*24≤_;omega)
 have hcap:=grownCap_le_maxLen w n 0 114 (by unfold maxLen;omega)
 have hge:=grownCap_ge w n 0 114;generalize grownCap w n 0 114=cap at happ hcap hge
 have hZs:(Builtin.zeroCells (Value.agg #[.int .i64 0,.int .i64 0,.int .i64 0]).cells n++Builtin.zeroCells (Value.agg #[.int .i64 0,.int .i64 0,.int .i64 0]).cells (cap-n)).size=cap*3:=by
  simp[size_zeroCells,Value.cells];omega
 generalize Builtin.zeroCells (Value.agg #[.int .i64 0,.int .i64 0,.int .i64 0]).cells n++Builtin.zeroCells (Value.agg #[.int .i64 0,.int .i64 0,.int .i64 0]).cells (cap-n)=Z at happ hZs
 go_wp2_with (at_builtin;refine Lib.wpList_append_run _ rfl _ _ _ _ rfl _ _ rfl rfl _ _ happ ?_)
 go_ret
 exact⟨cap,Z,rfl,heap_alloc_new w _,hZs,hcap,by simp,⟨rfl,rfl,rfl,by simp,λk hk=>Below.heap_alloc w _ k hk⟩⟩
theorem zce(l:List zC):xD uS [.sl .lit l] [] (.own 3000) [(3000,.row 114 .lit l)]:=
 dJ l λok _=>by
  rw[cU];intro b hb;refine zA (λe=> ?_) λe=>⟨?_,?_⟩
  ·rw[hb e];exact⟨rfl,rfl⟩
  ·refine xX (t:=.lit) ?_
   have:=(YE (t:=.lit) (ME ok)).1;show(0+l.length)*24≤_
   have h8:l.length*24≤140737488355328:=this;omega
  ·exact⟨rfl,rfl⟩
theorem JY(n:Nat)(hn:n*24≤140737488355328):xD qA [.nil,dI n] [] (.own 3000) [(3000,.row 114 .lit [])]:=by
 intro w S vs pl hS hl hv hh _;have e0:vs.getD 0 undef=.slice none 0 0:=Rp.nil_inv (hv 0 _ rfl);have e1:vs.getD 1 undef=.int .i64 n:=(Rp.int_inv (hv 1 _ rfl)).1
 have ev:vs= #[.slice none 0 0,.int .i64 n]:=by
  have hl2:vs.size=2:=hl;apply Array.ext (by simp[hl2])
  intro i h1 h2;simp[Array.getD_eq_getD_getElem?]at e0 e1
  match i,h1 with
  |0,h1=>rw[Array.getElem?_eq_getElem h1]at e0;simpa using e0
  |1,h1=>rw[Array.getElem?_eq_getElem h1]at e1;simpa using e1
  |i+2,h1=>exact absurd h1 (by omega)
 subst ev
 by_cases h0:n=0
 ·subst h0
  refine(zcc w).mono λe w' ⟨he,hw⟩=> ?_
  subst he hw;exact Il (t:=.lit) (xs:=[]) hS (λpl'=>⟨by show 0*24≤lim;exact Nat.le_of_ble_eq_true rfl,[],rfl,⟨rfl,.inl ⟨rfl,rfl⟩⟩,λcs h=>(by cases h),λi x cs h=>(by cases h)⟩) (λb h=>by cases h) (Below.refl _ _)
 ·refine(zcd n (by omega) hn w).mono λe w' ⟨cap,cells,he,h1,h2,h3,h4,h5⟩=> ?_
  subst he;refine Il (t:=.lit) (xs:=[]) hS (λpl'=>⟨by show 0*24≤lim;exact Nat.le_of_ble_eq_true rfl,[],rfl,⟨rfl,.inr ⟨w.heap.size,cap,cells,rfl,Nat.zero_le _,h1,Nat.zero_le _,h3,h2,rfl⟩⟩,λcs h=>(by cases h),λi x cs h=>(by cases h)⟩) (λb h=> ?_) h5
  have:w.heap.size=b:=by injection h
  omega
theorem Mu{ls:List (List zC)}(hl:ls.length≤1000)(hr:∀l∈ls,l.length≤1000000):uG uI [.sl (.list .lit) ls] (.sl .lit ls.flatten):=
 f6 ls λok=>by
  have flat:∀k,((ls.take k).flatten).length≤k*1000000:=λk=>by
   have h1:∀xs:List (List zC),(∀l∈xs,l.length≤1000000)→xs.flatten.length≤xs.length*1000000:=λxs=>by
    induction xs with
    |nil=>exact λ_=>Nat.le_refl _
    |cons a xs ih=>
     intro h;have h1:=h a (List.mem_cons_self ..);have h2:=ih λl hl=>h l (List.mem_cons_of_mem _ hl)
     rw[List.flatten_cons,List.length_append,List.length_cons];omega
   have:=h1 (ls.take k) λl hl=>hr l (List.mem_of_mem_take hl)
   rw[List.length_take]at this
   exact Nat.le_trans this (Nat.mul_le_mul_right _ (Nat.min_le_left ..))
  have ftake:∀(k:Nat) (h:k<ls.length),(ls.take (k+1)).flatten=(ls.take k).flatten++ls[k]:=λk h=>by
   rw[←List.take_append_getElem h,List.flatten_append];simp
  rw[dK];refine up (I:=λn v (a:Int)=>uC ls _ n a v) 0 ls.length rfl (Nat.zero_le _) (by omega) (λk a=>a=(((ls.take k).flatten).length:Int)) rfl λn k a _ hk ha hn=> ?_
  subst ha;rw[fb];have hf:=flat k
  by_cases h:k<ls.length
  ·have hm:=hr _ (List.getElem_mem h)
   rw[yK h,zX (t:=.list .lit) h,rE (by omega) (by omega)]
   refine⟨zM h,df (by omega) (hn h _ ?_)⟩
   rw[ftake k h,List.length_append];omega
  ·have hk':k=ls.length:=by omega
   subst hk';rw[zW];refine⟨[],JY _ (by omega),?_⟩
   refine up (I:=λn v (a:List zC)=>uB ls _ n v a) 0 ls.length rfl (Nat.zero_le _) (by omega) (λk a=>a=(ls.take k).flatten) rfl λn k a _ hk ha hn=> ?_
   subst ha;rw[fa];have hf:=flat k
   by_cases h:k<ls.length
   ·have hm:=hr _ (List.getElem_mem h)
    rw[yK h,zX (t:=.list .lit) h];refine⟨zM h,xX (t:=.lit) ?_,hn h _ (ftake k h).symm⟩;show(_+_)*24≤_
    omega
   ·have hk':k=ls.length:=by omega
    subst hk';rw[zW,List.take_length]
theorem Mv{m:zD}(hr:Right m)(d:List zC):uG Z3 [dM m,.sl .lit d] (dS (fw m d)):=
 Et m d λok=>by
  have hl:=(YE (t:=.lit) (ME (okR ok))).1;have hl:d.length*24≤140737488355328:=hl;rw[Bk];refine zG (Ij hr) ?_;refine up (I:=λn v a=>YY d _ n a v) 0 d.length rfl (Nat.zero_le _) (by omega) (λk a=>a=(d.take k).foldl Aq (xT m)) rfl λn k a _ hk ha hn=> ?_
  subst ha;rw[JX]
  by_cases h:k<d.length
  ·rw[yK h,zX (t:=.lit) h]
   refine⟨zM h,zG (zbD _ _) (hn h _ ?_)⟩;rw[←List.take_append_getElem h,List.foldl_append];rfl
  ·have hk':k=d.length:=by omega
   subst hk';rw[zW,List.take_length];rfl
theorem Rv{m:zD}{l:List (List zC)}{d:List zC}(hl:yN m l)(hll:l.length≤1000000000):uG fY [dM m,.sl (.list .lit) l,.sl .lit d] (dB (sZ m l d)):=
 JW m l d λok=>by
  rw[GY];exact zG (Mv hl.right d) (zG (XH hl (zgK hl.right) hll) (zG (wG _) rfl))
theorem Tb{d:List zC}(hd:d.length≤1000000)(h:∀x∈d,-1000000≤x.n∧x.n≤1000000):uG hM [.sl .lit d] (.sl .lit (d.map iV)):=
 L6 d λok=>by
  rw[JV];refine up (I:=λn v a=>dE d _ n v a) 0 d.length rfl (Nat.zero_le _) (by omega) (λk a=>a=(d.take k).map iV) rfl λn k a _ hk ha hn=> ?_
  subst ha;rw[OI]
  by_cases hk2:k<d.length
  ·rw[yK hk2,zX (t:=.lit) hk2]
   refine⟨zM hk2,zG (Jr _ (h _ (List.getElem_mem hk2))) ⟨xX (t:=.lit) ?_,hn hk2 _ ?_⟩⟩
   ·rw[List.length_map,List.length_take];show(_+1)*24≤_;omega
   ·rw[←List.take_append_getElem hk2,List.map_append];rfl
  ·have hk':k=d.length:=by omega
   subst hk';rw[zW,List.take_length]
theorem JZ{m:zD}{l:List (List zC)}{d:List zC}(hl:yN m l)(hll:l.length≤1000000000)(hd:d.length≤1000000):uG bG [dM m,.sl (.list .lit) l,.sl .lit d] (.tup [.sl .lit (if sZ m l d=true then fewest m l d else[]),dB (sZ m l d)]):=
 L5 m l d λok=>by
  rw[JT];refine zG (Rv hl hll) (zA (λe=> ?_) λe=> ?_)
  ·have e:sZ m l d=false:=by simpa using e
   rw[e];rfl
  have e:sZ m l d=true:=by simpa using e
  rw[if_pos e,e];refine⟨d,zce d,?_⟩;rw[fewest,Bi]
  suffices H:∀(k:Nat) (l':List zC) (i:Nat),l'.length≤k+i→i≤l'.length→l'.length≤1000000→∀r,r=UC (sZ m l) k l' i→jC m l (λd=>d=.tup [.sl .lit r,dB true]) (k+1) l' (i:Int)from⟨_,H d.length d 0 (Nat.le_refl _) (Nat.zero_le _) hd _ rfl⟩
  intro k
  induction k with
  |zero=>
   intro l' i h1 h2 h3 r hr;have hi:i=l'.length:=by omega
   subst hi;rw[XI,zW,hr,UC]
  |succ k ih=>
   intro l' i h1 h2 h3 r hr;rw[XI]
   by_cases h:i<l'.length
   ·have hw:yW ((i:Int)+1)=((i+1:Nat):Int):=fG (by omega)
    rw[UC,if_pos h]at hr
    have hel:(l'.eraseIdx i).length=l'.length-1:=List.length_eraseIdx_of_lt h;rw[yK h,hw,Int.toNat_natCast,Int.toNat_natCast,Int.toNat_natCast,List.drop_zero,List.take_length]
    have hcat:=Mu (ls:=[l'.take i,l'.drop (i+1)]) (by show 2≤1000;decide) λx hx=>by
     rcases List.mem_cons.1 hx with rfl|hx
     ·rw[List.length_take];omega
     ·rw[List.mem_singleton.1 hx,List.length_drop];omega
    have he:[l'.take i,l'.drop (i+1)].flatten=l'.eraseIdx i:=by rw[List.eraseIdx_eq_take_drop_succ];simp
    rw[he]at hcat
    refine⟨Im (Int.le_refl _) (by omega) (by omega),Im (by omega) (by omega) (Int.le_refl _),zG hcat ?_⟩
    refine zG (Rv hl hll) (zA (λe=> ?_) λe=> ?_)
    ·rw[if_pos e]at hr
     exact ih _ i (by omega) (by omega) (by omega) r hr
    ·rw[if_neg (by rw[e];decide)]at hr
     exact ih l' (i+1) (by omega) (by omega) h3 r hr
   ·have hi:i=l'.length:=by omega
    subst hi;rw[UC,if_neg (Nat.lt_irrefl _)]at hr
    rw[zW,hr]
abbrev hpT(m:zD)(l:List (List zC))(p:G2):List (Nat×yI):=[(1000,.cells [.sl .var m.vars,.sl .con m.cons,dI m.goal,dI m.var,.sl (.list .lit) l,dS p.2,.own 2000]),(2000,.row 129 .step p.1)]
theorem zkk{b:Bool}:zP (!b) (D.bool false=dB b) (D.bool true=dB b):=by cases b<;>rfl
theorem zez:cE xF:=λargs w=>Tryz.call181 args w
theorem zeA(s t:List (List Int)):uG yC [dS s,dS t,.clo xF none []] (dB (decide (s=t))):=
 Yl.clo (pre:=[dS s,dS t]) (post:=[]) (rs:=some [.bool])<|slices_EqualFunc_api_Store_api_Store_int_int_sat s t xF [] λok=>by
  rw[tV];refine zA (λe=> ?_) λe=> ?_
  ·have e:s.length≠t.length:=by simp at e;omega
   rw[decide_eq_false λh=>e (by rw[h])]
  have e:s.length=t.length:=by simp at e;omega
  have hz:=gJ s t e;refine Ac (I:=λn v=>xC s t xF [] _ n v) (s.zip t) (λx=> !decide (x.1=x.2)) ?_ (X:=D.bool false=dB (decide (s=t))) (Y:=D.bool true=dB (decide (s=t))) ?_ (λn k h hX hn=> ?_) λn hY=> ?_
  ·have:=cB (ME ok)
   rw[List.length_zip];have:s.length≤9223372036854775807:=this;omega
  ·rw[hz];exact zkk
  ·rw[List.length_zip]at h
   have h1:k<s.length:=by omega
   have h2:k<t.length:=by omega
   rw[xQ,yK h1,zX (t:=.list .int) h1,zX (t:=.list .int) h2];refine⟨zM h1,zM h2,zez,zG (fC _ _) ?_⟩;rw[List.getElem_zip]at hX hn
   exact zA (λe=>hX e) λe=>hn e
  ·have hl:(s.zip t).length=s.length:=by rw[List.length_zip];omega
   rw[hl,xQ,zW];exact hY
theorem zgO{m:zD}{i:Int}{s x:List (List Int)}{v k:Nat}(h:k<(s.getD v []).length):(((s.getD v []).take (k+1)).filter λn=> !gI (x.getD v []) n).map (Yh m i s v)=(((s.getD v []).take k).filter λn=> !gI (x.getD v []) n).map (Yh m i s v)++if gI (x.getD v []) (s.getD v [])[k]=true then[]else[Yh m i s v (s.getD v [])[k]]:=by
 rw[Z2 _ h];cases gI (x.getD v []) (s.getD v [])[k]<;>simp
theorem OK{α:Type}{a b:List α}{x:α}:(!(a++(b++[x])).isEmpty)=true:=by
 cases a<;>cases b<;>rfl
theorem QV{m:zD}{l:List (List zC)}{d:List zC}{p:G2}(h:Tr m l d p.1 p.2)(hk:xR m l d){i:Nat}(hi:i<m.cons.length)(hf:zT p.2=false):
  xD lN [.ptr 1000 0,dI i] (hpT m l p) (dB (XK m i p).2) (hpT m l (XK m i p).1):=by
 obtain⟨st,s⟩:=p;have h:Tr m l d st s:=h;have hf:zT s=false:=hf;refine Rr m.vars m.cons m.goal m.var l s st i λok ok2=> ?_
 have hat:=zgN hk hi;have hr:=h.filtR hk (i:=(i:Int)) (by omega)
 have hs:=Yd (qH hr.chk) hr.st;have hl:=hr.len;have hsz:=h.size;have hsl:s.length≤6:=by rw[hl];exact hk.mc.right.vars
 rw[QT];have hc:zR .con m.cons (i:Int).toNat=yL m i:=by rw[yL,zX hi,Int.toNat_natCast,yA _ hi]
 rw[hc];refine⟨zM hi,zG (eJ (c:=yL m i) (by rw[hl];exact hr.right) (by rw[hl];exact hs)) (zG (wG _) (zA (λe=> ?_) λe=> ?_))⟩
 ·have e:zT (yM (yL m i) s)=true:=e
  refine fy (t:=.list .lit) (u:=.bool) (L4 hr) ⟨xX (t:=.step) ?_,zG (fl _) ?_⟩
  ·show(st.length+1)*40≤_;omega
  ·rw[XK,if_pos e];exact⟨rfl,rfl⟩
 ·have e:zT (yM (yL m i) s)=false:=e
  have hcon:XK m i (st,s)=((st++wN m i s (yM (yL m i) s) s.length,yM (yL m i) s),!(wN m i s (yM (yL m i) s) s.length).isEmpty):=by
   rw[XK,if_neg (by rw[e];decide)]
  rw[hcon];have hxl:(yM (yL m i) s).length=s.length:=(hr.op.len hl).trans hl.symm;generalize yM (yL m i) s=x at e hxl hcon⊢
  have hrow:∀k,(s.getD k []).length≤6:=λk=>Nat.le_trans (h.le.2 k).length_le (Rm hk.mc.right k)
  have hlen:∀k,(wN m i s x k).length≤k*6:=λk=>by
   induction k with
   |zero=>exact Nat.le_refl _
   |succ k ih=>
    have h1:=List.length_filter_le (λn=> !gI (x.getD k []) n) (s.getD k [])
    have h2:=hrow k;rw[WT,List.length_append,Ms,List.length_map];omega
  refine up (I:=λn v (a:Bool×List zS)=>pW s i _ x n a.1 v m.vars m.cons m.goal m.var l s a.2) (a:=(false,st)) 0 s.length rfl (Nat.zero_le _) (by omega) (λk a=>a=(!(wN m i s x k).isEmpty,st++wN m i s x k)) (by show _=(!true,st++[]);rw[List.append_nil];rfl) λn k a _ hkl ha hn=> ?_
  subst ha;show pW _ _ _ _ _ (!(wN m i s x k).isEmpty) _ _ _ _ _ _ _ (st++wN m i s x k)
  rw[UE]
  by_cases hks:k<s.length
  ·have hkx:k<x.length:=by omega
   rw[yK hks];refine⟨zM hks,?_⟩;have hg:s.getD k []=s[k]:=yA _ hks;have hgx:x.getD k []=x[k]:=yA _ hkx;have hrk:=hrow k
   refine up (I:=λn v (a:Bool×List zS)=>rT s i _ x _ k n a.1 v m.vars m.cons m.goal m.var l s a.2) (a:=(!(wN m i s x k).isEmpty,st++wN m i s x k)) 0 (s.getD k []).length rfl (Nat.zero_le _) (by omega)
    (λj a=>a=(!(wN m i s x k++(((s.getD k []).take j).filter λn=> !gI (x.getD k []) n).map (Yh m i s k)).isEmpty,st++(wN m i s x k++(((s.getD k []).take j).filter λn=> !gI (x.getD k []) n).map (Yh m i s k)))) (by simp) λn2 j a _ hjl ha hn2=> ?_
   subst ha;show rT _ _ _ _ _ _ _ (!(wN m i s x k++_).isEmpty) _ _ _ _ _ _ _ (st++(wN m i s x k++_))
   rw[UD,zX (t:=.list .int) hks,zX (t:=.list .int) hkx,←hg,←hgx]
   by_cases hj:j<(s.getD k []).length
   ·rw[yK hj,zX (t:=.int) hj]
    refine⟨zM hj,zM hkx,zG (vZ (a:=(s.getD k [])[j])) ?_⟩;have ht:=zgO (m:=m) (i:=(i:Int)) (x:=x) hj;show zP (gI (x.getD k []) (s.getD k [])[j]) _ _
    refine zA (λf=> ?_) λf=> ?_
    ·rw[if_pos f,List.append_nil]at ht
     exact hn2 hj (_,_) (by rw[ht];rfl)
    ·rw[if_neg (by rw[f];decide)]at ht
     refine fy (t:=.list .lit) (u:=.bool) (JS hr (by omega)) ⟨xX (t:=.step) ?_,?_⟩
     ·have h1:=hlen k
      have h2:=List.length_filter_le (λn=> !gI (x.getD k []) n) ((s.getD k []).take j)
      rw[List.length_take]at h2
      rw[List.length_append,List.length_append,List.length_map];show(_+1)*40≤_
      omega
     ·refine hn2 hj (_,_) ?_
      rw[ht,OK,List.append_assoc st,List.append_assoc (wN m i s x k)];rfl
   ·have hj':j=(s.getD k []).length:=by omega
    subst hj';rw[zW,List.take_length];exact hn hks (_,_) (by rw[WT];rfl)
  ·have hk':k=s.length:=by omega
   subst hk';rw[zW];exact⟨rfl,rfl⟩
theorem QW{m:zD}{l:List (List zC)}{d:List zC}(hk:xR m l d)(hb:wJ (fw m d)≤36):
  xD lJ [.ptr 1000 0] (hpT m l ([],fw m d)) (.tup []) (hpT m l (QU m l 37 ([],fw m d))):=by
 refine Rq m.vars m.cons m.goal m.var l (fw m d) [] λok ok2=> ?_
 rw[QS];have hll:=hk.len;have hcl:=hk.mc.right.cons
 suffices H:∀(k:Nat) (p:G2),Tr m l d p.1 p.2→wJ p.2≤k→∀q,q=QU m l (k+1) p→wO (λd h1=>d=D.tup []∧h1=hpT m l q) (k+2) true m.vars m.cons m.goal m.var l p.2 p.1 from⟨_,H 36 _ (Tr.begin hk) hb _ rfl⟩
 intro k
 induction k using Nat.strongRecOn with
 |ind k ih=>
  intro p h hsz q hq
  have out:∀(n:Nat) (p:G2),wO (λd h1=>d=D.tup []∧h1=hpT m l p) (n+1) false m.vars m.cons m.goal m.var l p.2 p.1:=λn p=>by
   rw[aR];exact⟨rfl,rfl⟩
  rw[aR];refine zG (wG _) (zA (λf=> ?_) λf=> ?_)
  ·have f:zT p.2=false:=by simpa using f
   rw[QU,if_neg (by rw[f];decide)]at hq
   obtain⟨j1,j2,j3⟩:=Rt h hk f;have hpos:=G0 (by rw[h.len];exact hk.mc.pos) f
   have fin:∀(r:G2×Bool),Tr m l d r.1.1 r.1.2→r=iR m m.cons.length 0 p false→
     yY jI [.agg [.sl .var m.vars,.sl .con m.cons,dI m.goal,dI m.var],dS r.1.2,dB false,.sl (.list .lit) l] (.list (.list .int)) λf23=>
      yY yC [dS f23,dS r.1.2,.clo xF none []] .bool λs24=>
       zP (!s24) (wO (λd h1=>d=D.tup []∧h1=hpT m l q) (k+1) true m.vars m.cons m.goal m.var l f23 r.1.1)
        (wO (λd h1=>d=D.tup []∧h1=hpT m l q) (k+1) r.2 m.vars m.cons m.goal m.var l f23 r.1.1):=λr hr e=>by
    have hrd:kF m l p=((r.1.1,sQ m false l r.1.2),if sQ m false l r.1.2=r.1.2 then r.2 else true):=by rw[kF,←e]
    refine zG (XH hk.mc (Yd hk.mc.right hr.store) (by omega)) (zG (zeA _ _) ?_)
    have nxt:(kF m l p).2=true→wO (λd h1=>d=D.tup []∧h1=hpT m l q) (k+1) true m.vars m.cons m.goal m.var l (sQ m false l r.1.2) r.1.1:=λe2=>by
     rw[if_pos e2]at hq
     have:=j2 e2
     match k,ih,hsz,hq with
     |0,ih,hsz,hq=>omega
     |k+1,ih,hsz,hq=>
      have:=ih k (by omega) (kF m l p).1 j1 (by omega) q hq
      rw[hrd]at this
      exact this
    refine zA (λg=> ?_) λg=> ?_
    ·have g:sQ m false l r.1.2≠r.1.2:=by simpa using g
     exact nxt (by rw[hrd];exact if_neg g)
    ·have g:sQ m false l r.1.2=r.1.2:=by simpa using g
     have g2:(kF m l p).2=r.2:=by rw[hrd];exact if_pos g
     cases e2:r.2
     ·rw[g2,e2,if_neg (by decide)]at hq
      have:=out k q;rw[hq,hrd]at this
      rw[hq,hrd];exact this
     ·exact nxt (g2.trans e2)
   suffices H2:∀(j i:Nat) (p2:G2) (c:Bool),i+j=m.cons.length→Tr m l d p2.1 p2.2→iR m j i p2 c=iR m m.cons.length 0 p false→pV (λd h1=>d=D.tup []∧h1=hpT m l q) (k+1) (j+1) c (i:Int) m.vars m.cons m.goal m.var l p2.2 p2.1 from⟨_,H2 m.cons.length 0 p false (Nat.zero_add _) h rfl⟩
   intro j
   induction j with
   |zero=>
    intro i p2 c hij h2 he;have hi:i=m.cons.length:=by omega
    subst hi;rw[aQ,zW];exact fin (p2,c) h2 he
   |succ j ihj=>
    intro i p2 c hij h2 he;have hi:i<m.cons.length:=by omega
    rw[aQ,yK hi];refine zG (wG _) (zA (λg=> ?_) λg=> ?_)
    ·have g:zT p2.2=false:=by simpa using g
     rw[iR,if_neg (by rw[g];decide)]at he
     obtain⟨t1,t2,t3⟩:=L9 h2 hk hi g;refine⟨_,_,_,QV h2 hk hi g,?_⟩;have hw:yW ((i:Int)+1)=((i+1:Nat):Int):=fG (by omega)
     rw[hw];refine zA (λe=> ?_) λe=> ?_
     ·rw[e]at he;exact ihj (i+1) _ true (by omega) t1 he
     ·rw[e]at he;exact ihj (i+1) _ c (by omega) t1 he
    ·have g:zT p2.2=true:=by simpa using g
     rw[iR,if_pos g]at he
     exact fin (p2,c) h2 he
  ·have f:zT p.2=true:=by simpa using f
   rw[QU,if_pos f]at hq
   rw[hq];exact⟨rfl,rfl⟩
theorem G3{m:zD}{l:List (List zC)}{d:List zC}(hk:xR m l d):uG Zx [dM m,.sl (.list .lit) l,.sl .lit d] (.sl .step (fL m l d)):=
 JU m l d λok=>by
  rw[GX];have hb:=Tr.begin hk;have hsz:wJ (fw m d)≤36:=by have:=hb.size;simpa using this
  have hr:(QU m l 37 ([],fw m d)).1.length+wJ (QU m l 37 ([],fw m d)).2≤36:=(RY hk 36 ([],fw m d) hb hsz).1.size;refine zG (Mv hk.mc.right d) ⟨_,_,QW hk hsz,zG (Tb (by have:=hk.dl;omega) hk.near) ⟨xX (t:=.step) ?_,rfl⟩⟩
  show(_+1)*40≤_
  omega
theorem VG(a b:List zC):uG tL [.sl .lit a,.sl .lit b] (dB (decide (a=b))):=
 eA a b λok=>by
  rw[cF];refine zA (λe=> ?_) λe=> ?_
  ·have e:a.length≠b.length:=by simp at e;omega
   rw[decide_eq_false λh=>e (by rw[h])]
  have e:a.length=b.length:=by simp at e;omega
  have hz:=gJ a b e;refine Ac (I:=λn v=>sS a b _ n v) (a.zip b) (λx=> !decide (x.1=x.2)) ?_ (X:=D.bool false=dB (decide (a=b))) (Y:=D.bool true=dB (decide (a=b))) ?_ (λn k h hX hn=> ?_) λn hY=> ?_
  ·have:a.length≤9223372036854775807:=cB (ME ok)
   rw[List.length_zip];omega
  ·rw[hz];exact zkk
  ·rw[List.length_zip]at h
   have h1:k<a.length:=by omega
   have h2:k<b.length:=by omega
   rw[rM,yK h1,zX (t:=.lit) h1,zX (t:=.lit) h2];rw[List.getElem_zip]at hX hn
   exact⟨zM h1,zM h2,zA (λe=>hX e) λe=>hn e⟩
  ·have hl:(a.zip b).length=a.length:=by rw[List.length_zip];omega
   rw[hl,rM,zW];exact hY
end Go.Proofs.YtogdmcebojiojaaGreatDoor
