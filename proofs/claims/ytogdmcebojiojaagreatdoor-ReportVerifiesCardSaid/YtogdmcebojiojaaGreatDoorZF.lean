/- Texts of this proof, one behind the other: nothing is handed in but what is proved here; no condition. -/
import Derived.Test.YtogdmcebojiojaaGreatDoorProg
import Derived.Lib.AppendZeros
import Derived.Test.YtogdmcebojiojaaGreatDoorZE
set_option linter.unusedVariables false
set_option linter.unusedSimpArgs false
namespace Go.Proofs.YtogdmcebojiojaaGreatDoor
open Go.Proofs.Tryz
open Go.RowKit
set_option maxRecDepth 100000
theorem zi5(w:World):Calls prog 320 #[.slice none 0 0,.int .i64 0] w λe w'=>e=.returned (.slice none 0 0)/\w=w':=by
 go_enter func320,ntmps320
 go_wp2
 all_goals go_ret
 all_goals exact⟨rfl,rfl⟩
set_option maxRecDepth 100000 in
theorem zi6(n:Nat)(h0:0<n)(h:n*24<=140737488355328)(w:World):Calls prog 320 #[.slice none 0 0,.int .i64 n] w λe w'=>∃cap cells,e=.returned (.slice (some ⟨w.heap.size,0,none⟩) 0 cap)/\w'.heap[w.heap.size]? =some (.cells cells 114 (0,0))/\cells.size=cap*3/\cap<=maxLen/\w'.heap.size=w.heap.size+1/\Below w.heap.size w w':=by
 go_enter func320,ntmps320
 have happ:=Lib.run_append_nil_zeros (P:=prog) w 53 3 53 114 t114 (.agg #[.int .i64 0,.int .i64 0,.int .i64 0]) .i64 .i64 underlying53 underlying3 (by kernel_rfl) (by kernel_rfl) n h0 (by decide) (by omega) (by show n*24<=_;omega)
 have hcap:=grownCap_le_maxLen w n 0 114 (by unfold maxLen;omega)
 have hge:=grownCap_ge w n 0 114;generalize grownCap w n 0 114=cap at happ hcap hge
 have hZs:(Builtin.zeroCells (Value.agg #[.int .i64 0,.int .i64 0,.int .i64 0]).cells n++Builtin.zeroCells (Value.agg #[.int .i64 0,.int .i64 0,.int .i64 0]).cells (cap-n)).size=cap*3:=by
  simp[size_zeroCells,Value.cells];omega
 generalize Builtin.zeroCells (Value.agg #[.int .i64 0,.int .i64 0,.int .i64 0]).cells n++Builtin.zeroCells (Value.agg #[.int .i64 0,.int .i64 0,.int .i64 0]).cells (cap-n)=Z at happ hZs
 go_wp2_with (at_builtin;refine Lib.wpList_append_run _ rfl _ _ _ _ rfl _ _ rfl rfl _ _ happ ?_)
 go_ret
 exact⟨cap,Z,rfl,heap_alloc_new w _,hZs,hcap,by simp,⟨rfl,rfl,rfl,by simp,λk hk=>Below.heap_alloc w _ k hk⟩⟩
theorem Di{w w':World}{S:Nat->Prop}{pl:Nat->Value}{v:Value}{e:AcI}{t:Ty}{xs:List t.den}(hS:∀b,S b->b<w.heap.size)(hob:∀pl',W2 w' S pl' v (.row e t xs))(hb:∀b,oY v=some b->w.heap.size<=b/\b<w'.heap.size)(hw:Below w.heap.size w w'):
  ∃v' S' pl',Ending.returned v=.returned v'/\Rd w' S' pl' v' (.own 3000)/\HOk w' S' pl' [(3000,.row e t xs)]/\(∀b,S' b->b<w'.heap.size)/\(∀b,S' b->S b\/kG pl [] b\/w.heap.size<=b)/\
   (∀b,kG pl' [(3000,.row e t xs)] b->kG pl [] b\/w.heap.size<=b)/\(∀k,stabK k=true->pl' k=pl k)/\pH w.heap.size (kG pl []) w w':=by
 have hlook:∀k o,yG k [(3000,yN.row e t xs)]=some o->k=3000/\o=.row e t xs:=λk o h=>by
  rw[wR]at h
  split at h
  ·rename_i hk;injection h with h;exact⟨hk.symm,h.symm⟩
  ·cases h
 refine⟨v,S,λj=>if j=3000 then v else pl j,rfl,(As rfl).symm,⟨λk o h=> ?_,λk o b h hb2=> ?_,λk k' o o' b h h' _ _=> ?_⟩,λb h=>Aax (hS b h) hw.size,λb h=> .inl h,λb h=> ?_,λk hk=>An (λe=>by rw[e]at hk;cases hk),.of hw⟩
 ·obtain⟨rfl,rfl⟩:=hlook k o h
  exact hob _
 ·obtain⟨rfl,rfl⟩:=hlook k o h
  have hb2:oY v=some b:=hb2;exact⟨(hb b hb2).2,λhs=>by have:=hS b hs;have:=(hb b hb2).1;omega⟩
 ·rw[(hlook k o h).1,(hlook k' o' h').1]
 ·obtain⟨k,o,h1,h2⟩:=h
  obtain⟨rfl,rfl⟩:=hlook k o h1;have h2:oY v=some b:=h2;exact .inr (hb b h2).1
theorem Bn(n:Nat)(hn:n*24<=140737488355328):yQ oe [.nil,dI n] [] (.own 3000) [(3000,.row 114 .lit [])]:=by
 intro w S vs pl hS hl hv hh _;have e0:vs.getD 0 undef=.slice none 0 0:=Rp.nil_inv (hv 0 _ rfl);have e1:vs.getD 1 undef=.int .i64 n:=(Rp.int_inv (hv 1 _ rfl)).1
 have ev:vs= #[.slice none 0 0,.int .i64 n]:=by
  have hl2:vs.size=2:=hl;apply Array.ext (by simp[hl2])
  intro i h1 h2;simp[Aae]at e0 e1
  match i,h1 with
  |0,h1=>rw[AaR h1]at e0;simpa using e0
  |1,h1=>rw[AaR h1]at e1;simpa using e1
  |i+2,h1=>exact At h1 (by omega)
 subst ev
 by_cases h0:n=0
 ·subst h0
  refine(zi5 w).mono λe w' ⟨he,hw⟩=> ?_
  subst he hw;exact Di (t:=.lit) (xs:=[]) hS (λpl'=>⟨by show 0*24<=lim;exact Aat rfl,[],rfl,⟨rfl,.inl ⟨rfl,rfl⟩⟩,λcs h=>(by cases h),λi x cs h=>(by cases h)⟩) (λb h=>by cases h) (Below.refl _ _)
 ·refine(zi6 n (by omega) hn w).mono λe w' ⟨cap,cells,he,h1,h2,h3,h4,h5⟩=> ?_
  subst he;refine Di (t:=.lit) (xs:=[]) hS (λpl'=>⟨by show 0*24<=lim;exact Aat rfl,[],rfl,⟨rfl,.inr ⟨w.heap.size,cap,cells,rfl,AT _,h1,AT _,h3,h2,rfl⟩⟩,λcs h=>(by cases h),λi x cs h=>(by cases h)⟩) (λb h=> ?_) h5
  have:w.heap.size=b:=by injection h
  omega
theorem Zj{ls:AcN}(hl:ls.length<=1000)(hr:∀l∈ls,l.length<=1000000):tJ vL [.sl (.list .lit) ls] (.sl .lit ls.flatten):=
 Zz ls λok=>by
  have flat:∀k,((ls.take k).flatten).length<=k*1000000:=λk=>by
   have h1:∀xs:AcN,(∀l∈xs,l.length<=1000000)->xs.flatten.length<=xs.length*1000000:=λxs=>by
    induction xs with
    |nil=>exact λ_=>BY _
    |cons a xs ih=>
     intro h;have h1:=h a (Ks ..);have h2:=ih λl hl=>h l (On _ hl)
     rw[Aa6,It,Aad];omega
   have:=h1 (ls.take k) λl hl=>hr l (AbD hl)
   rw[Aaf]at this
   exact Aai this (Abf _ (Nat.min_le_left ..))
  have ftake:∀(k:Nat) (h:k<ls.length),(ls.take (k+1)).flatten=(ls.take k).flatten++ls[k]:=λk h=>by
   rw[<-Aar h,List.flatten_append];simp
  rw[ZQ];refine up (I:=λn v (a:Int)=>tZ ls _ n a v) 0 ls.length rfl (AT _) (by omega) (λk a=>a=(((ls.take k).flatten).length:Int)) rfl λn k a _ hk ha hn=> ?_
  subst ha;rw[bZ];have hf:=flat k
  by_cases h:k<ls.length
  ·have hm:=hr _ (AS h)
   rw[zY h,zT (t:=.list .lit) h,wL (by omega) (by omega)]
   refine⟨zE h,df (by omega) (hn h _ ?_)⟩
   rw[ftake k h,It];omega
  ·have hk':k=ls.length:=by omega
   subst hk';rw[zS];refine⟨[],Bn _ (by omega),?_⟩
   refine up (I:=λn v (a:AcM)=>tY ls _ n v a) 0 ls.length rfl (AT _) (by omega) (λk a=>a=(ls.take k).flatten) rfl λn k a _ hk ha hn=> ?_
   subst ha;rw[bY];have hf:=flat k
   by_cases h:k<ls.length
   ·have hm:=hr _ (AS h)
    rw[zY h,zT (t:=.list .lit) h];refine⟨zE h,yW (t:=.lit) ?_,hn h _ (ftake k h).symm⟩;show(_+_)*24<=_
    omega
   ·have hk':k=ls.length:=by omega
    subst hk';rw[zS,Aaj]
def FB(s:AcL)(v:Int)(l:AcK):AcM:=(l.filter λn=> !fX (s.getD v.toNat []) n).map λn=>⟨v,3,n⟩
def dJ(m:zG)(s:AcL)(sc:AcK):AcM:=sc.flatMap λv=>FB s v (vC m|>.getD v.toNat [])
def Q9(p:AcM->Bool):Nat->AcM->Nat->AcM
 |0,l,_=>l
 |k+1,l,i=>if i<l.length then(if p (l.eraseIdx i)=true then Q9 p k (l.eraseIdx i) i else Q9 p k l (i+1))else l
def zcH(p:AcM->Bool)(l:AcM):AcM:=Q9 p l.length l 0
noncomputable def IW (m:zG)(con:Int)(must l:AcM):AcM:=must++zcH (λl=>jO m con (must++l)) l
theorem IX(p:AcM->Bool):∀(k:Nat) (l:AcM) (i:Nat),(Q9 p k l i).Sublist l
 |0,l,i=>List.Sublist.refl _
 |k+1,l,i=>by
  rw[Q9];split
  ·split
   ·exact(IX p k _ i).trans (Acx ..)
   ·exact IX p k l (i+1)
  ·exact List.Sublist.refl _
theorem MM(p:AcM->Bool):∀(k:Nat) (l:AcM) (i:Nat),p l=true->p (Q9 p k l i)=true
 |0,l,i,h=>h
 |k+1,l,i,h=>by
  rw[Q9];split
  ·split
   ·rename_i e;exact MM p k _ i e
   ·exact MM p k l (i+1) h
  ·exact h
theorem EP{l:AcM}{i j:Nat}{x:zC}(h:j<i)(hx:x∈(l.eraseIdx i).eraseIdx j):x∈l.eraseIdx j:=by
 induction l generalizing i j with
 |nil=>cases i<;>cases hx
 |cons a l ih=>
  cases i with
  |zero=>exact At h (AaU _)
  |succ i=>
   rw[AbR]at hx
   cases j with
   |zero=>
    rw[Acv]at hx⊢
    exact(Acx ..).subset hx
   |succ j=>
    rw[AbR]at hx⊢
    rcases OF.1 hx with rfl|hx
    ·exact Ks ..
    ·exact On _ (ih (by omega) hx)
theorem Bo(p:AcM->Bool)(hp:∀a b:AcM,(∀x∈a,x∈b)->p a=true->p b=true):∀(k:Nat) (l:AcM) (i:Nat),l.length<=k+i->(∀j,j<i->j<l.length->p (l.eraseIdx j)=false)->∀j,j<(Q9 p k l i).length->p ((Q9 p k l i).eraseIdx j)=false
 |0,l,i,hk,h,j,hj=>h j (by have:(Q9 p 0 l i).length=l.length:=rfl;omega) hj
 |k+1,l,i,hk,h,j,hj=>by
  rw[Q9]at hj⊢
  by_cases h1:i<l.length
  ·rw[As h1]at hj⊢
   by_cases h2:p (l.eraseIdx i)=true
   ·rw[As h2]at hj⊢
    have hl:(l.eraseIdx i).length=l.length-1:=AcF h1;refine Bo p hp k _ i (by omega) (λj' h3 h4=> ?_) j hj
    cases e:p ((l.eraseIdx i).eraseIdx j')
    ·rfl
    ·have h5:=h j' h3 (by omega)
     rw[hp _ (l.eraseIdx j') (λx hx=>EP h3 hx) e]at h5
     cases h5
   ·rw[An h2]at hj⊢
    refine Bo p hp k l (i+1) (by omega) (λj' h3 h4=> ?_) j hj
    by_cases e:j'=i
    ·subst e;simpa using h2
    ·exact h j' (by omega) h4
  ·rw[An h1]at hj⊢
   exact h j (by omega) hj
theorem zez(p:AcM->Bool)(hp:∀a b:AcM,(∀x∈a,x∈b)->p a=true->p b=true)(l:AcM):∀j,j<(zcH p l).length->p ((zcH p l).eraseIdx j)=false:=
 Bo p hp l.length l 0 (BY _) λj h=>At h (AaU _)
theorem zi7{s:AcL}{c c':AcM}(h:∀x∈c,x∈c'):ZD (kQ s c') (kQ s c):=
 Tb (ZD.refl s) λv n _ e=>by
  rw[AaI]at e⊢
  cases e2:atC c v n
  ·rfl
  ·obtain⟨l,h1,h2,h3⟩:=RH.1 e2
   rw[RH.2 ⟨l,h l h1,h2,h3⟩]at e;cases e
theorem zgv{m:zG}{con:Int}(hat:Fr m con=0){c c':AcM}(h:∀x∈c,x∈c')(hb:jO m con c=true):jO m con c'=true:=by
 obtain⟨hr,_⟩:=lH hat;have hop:=Uv (mD hat) (by have:=hr.some;omega)
 have hl:(kQ (vC m) c).length=m.vars.length:=Ul.1.trans wE;cases e:jO m con c' with
 |true=>rfl
 |false=>
  have h2:=(hop.mono hl (zi7 h) e).fail e;rw[jO,h2]at hb;cases hb
theorem zk9{m:zG}{con:Int}(hat:Fr m con=0)(must:AcM):∀a b:AcM,(∀x∈a,x∈b)->jO m con (must++a)=true->jO m con (must++b)=true:=λa b h=>zgv hat λx hx=>by
 rcases TO.1 hx with hx|hx
 ·exact AaB _ hx
 ·exact AaK _ (h x hx)
theorem za1{m:zG}{s:AcL}{sc:AcK}{x:zC}:x∈dJ m s sc↔x.var∈sc/\x.op=3/\x.n∈(vC m).getD x.var.toNat []/\x.n∉s.getD x.var.toNat []:=by
 rw[dJ,Acw];constructor
 ·rintro⟨v,hv,h⟩
  obtain⟨n,hn,rfl⟩:=Of.1 h;obtain⟨h1,h2⟩:=Aan.1 hn;refine⟨hv,rfl,h1,λh3=> ?_⟩
  rw[kN.2 h3]at h2;cases h2
 ·rintro⟨h1,h2,h3,h4⟩
  refine⟨x.var,h1,Of.2 ⟨x.n,Aan.2 ⟨h3,?_⟩,by cases x;simp only at h2;rw[h2]⟩⟩
  cases e:fX (s.getD x.var.toNat []) x.n
  ·rfl
  ·exact At (kN.1 e) h4
theorem zi8{m:zG}{s:AcL}{sc:AcK}(must:AcM){v:Nat}(hv:(v:Int)∈sc){n:Int}(hn:n∈(kQ (vC m) (must++dJ m s sc)).getD v []):n∈s.getD v []:=by
 rw[kQ,sI,Aan]at hn
 apply Classical.byContradiction;intro h;have h2:=hn.2;rw[RH.2 ⟨⟨v,3,n⟩,AaK _ (za1.2 ⟨hv,rfl,by rw[Aab];exact hn.1,by rw[Aab];exact h⟩),rfl,by simp[holdsL]⟩]at h2
 cases h2
theorem zhW{m:zG}{con:Int}{s:AcL}(hat:Fr m con=0)(hl:s.length=m.vars.length)(hf:zZ s=false)(must:AcM){vs:AcK}(hv:Tw vs (kQ (vC m) (must++dJ m s (yB (yE m con) m.vars.length))))(ht:yZ (yE m con) vs=true):
  ∃us,Tw us s/\yZ (yE m con) us=true/\∀v:Nat,(v:Int)∈yB (yE m con) m.vars.length->us.getD v 0=vs.getD v 0:=by
 have hc:=mD hat;obtain⟨ps,hp⟩:=NR hf;have hdl:(kQ (vC m) (must++dJ m s (yB (yE m con) m.vars.length))).length=m.vars.length:=Ul.1.trans wE;have hg:∀u:Nat,u<s.length->((List.range s.length).map λu:Nat=>if(u:Int)∈yB (yE m con) m.vars.length then vs.getD u 0 else ps.getD u 0).getD u 0=if(u:Int)∈yB (yE m con) m.vars.length then vs.getD u 0 else ps.getD u 0:=λu hu=>Q2 hu
 have hs:∀v:Nat,(v:Int)∈yB (yE m con) m.vars.length->v<s.length:=λv h=>by have:=nR _ h;omega
 refine⟨(List.range s.length).map λu:Nat=>if(u:Int)∈yB (yE m con) m.vars.length then vs.getD u 0 else ps.getD u 0,⟨by simp,λu hu=> ?_⟩,?_,λv h=> ?_⟩
 ·rw[hg u hu]
  split
  ·rename_i e
   exact zi8 must e (hv.2 u (by rw[hdl];omega))
  ·exact hp.2 u hu
 ·rw[<-ht]
  exact kB hc λw h5 h6=>by rw[hg w (by omega),As (o6.2 ⟨by omega,h6⟩)]
 ·rw[hg v (hs v h),As h]
theorem zcI{m:zG}{con:Int}{s:AcL}(hat:Fr m con=0)(hl:s.length=m.vars.length)(hf:zZ s=false){v:Nat}{n:Int}(hv:v<s.length)(hn:n∈s.getD v [])(hg:n∉(yS (yE m con) s).getD v []):
  jO m con ([⟨v,4,n⟩]++dJ m s (yB (yE m con) m.vars.length))=true:=by
 have hc:=mD hat;obtain⟨hr,_⟩:=lH hat;have hop:=Uv hc (by have:=hr.some;omega)
 have hdl:(kQ (vC m) ([⟨(v:Int),4,n⟩]++dJ m s (yB (yE m con) m.vars.length))).length=m.vars.length:=Ul.1.trans wE;cases e:jO m con ([⟨v,4,n⟩]++dJ m s (yB (yE m con) m.vars.length))with
 |true=>rfl
 |false=>
  obtain⟨vs,h1,h2⟩:=(hop.nofail hdl).1 e;obtain⟨us,h3,h4,h5⟩:=zhW hat hl hf _ h1 h2
  have hvn:vs.getD v 0=n:=by
   have h6:=h1.2 v (by rw[hdl];omega)
   rw[kQ,sI,Aan,AaI]at h6
   apply Classical.byContradiction;intro h7;have h8:=h6.2;rw[RH.2 ⟨⟨v,4,n⟩,AaB _ (IN.2 rfl),rfl,by generalize vs.getD v 0=z at h7;simp[holdsL,h7]⟩]at h8
   cases h8
  have h6:=hop.keeps hl (h3.set hn hv) (by
   rw[<-h4];refine kB hc λw h7 h8=> ?_
   rw[sQ (by rw[h3.1];exact hv)]
   split
   ·rename_i e;subst e;rw[h5 w (o6.2 ⟨by omega,h8⟩),hvn]
   ·rfl)
  have h7:=h6.2 v (by rw[hop.len hl];omega)
  rw[sQ (by rw[h3.1];exact hv),As rfl]at h7
  exact At h7 hg
theorem zeA{m:zG}{con:Int}{s:AcL}(hat:Fr m con=0)(hl:s.length=m.vars.length)(hf:zZ s=false)(hg:zZ (yS (yE m con) s)=true):jO m con ([]++dJ m s (yB (yE m con) m.vars.length))=true:=by
 have hc:=mD hat;obtain⟨hr,_⟩:=lH hat;have hop:=Uv hc (by have:=hr.some;omega)
 have hdl:(kQ (vC m) ([]++dJ m s (yB (yE m con) m.vars.length))).length=m.vars.length:=Ul.1.trans wE;cases e:jO m con ([]++dJ m s (yB (yE m con) m.vars.length))with
 |true=>rfl
 |false=>
  obtain⟨vs,h1,h2⟩:=(hop.nofail hdl).1 e;obtain⟨us,h3,h4,h5⟩:=zhW hat hl hf _ h1 h2;rw[(hop.nofail hl).2 ⟨us,h3,h4⟩]at hg;cases hg
theorem za2{c:zF}{nv:Nat}(hc:tS c nv):(yB c nv).length<=4:=by
 have hm:=hc.many
 have hsub:∀x∈yB c nv,x∈c.vars++c.lits.map λl=>l.var:=λx hx=>by
  rcases zkY (o6.1 hx).2 with h|⟨l,h,e⟩
  ·exact AaB _ h
  ·exact AaK _ (Of.2 ⟨l,h,e⟩)
 have h1:=(Vo (c:=c) (nv:=nv)).length_le_of_subset hsub;rw[It,Aag]at h1
 by_cases h8:c.kind<=8
 ·have:=C7 hc h8
  rw[this,Aaz]at h1;omega
 ·have hk:=hc.kind
  by_cases h9:c.kind=9
  ·have:=hc.formC.clause h9;omega
  ·have:=hc.formC.iff (by omega);omega
theorem N9{m:zG}(hr:Right m)(v:Nat):((vC m).getD v []).length<=6:=by
 by_cases hv:v<m.vars.length
 ·have:=hr.var _ (AS hv)
  rw[Z6 hv,Vi,Yy];omega
 ·rw[qJ (by rw[wE];omega)];exact AT _
theorem za3{s:AcL}{v:Int}{l:AcK}:(FB s v l).length<=l.length:=by rw[FB,Aag];exact AaZ ..
theorem za4{m:zG}(hr:Right m){s:AcL}(sc:AcK):(dJ m s sc).length<=sc.length*6:=Sf λv _=>Aai za3 (N9 hr _)
theorem PD{m:zG}{con:Int}{s:AcL}(hat:Fr m con=0)(hl:s.length=m.vars.length):tJ bT [dM m,dI con,dS s] (.sl .lit (dJ m s (yB (yE m con) m.vars.length))):=
 GP m con s λok=>by
  obtain⟨hr,hcon⟩:=lH hat;have hc:=mD hat;rw[EO];refine⟨uW.2 hcon,?_⟩;show yM fJ [dC (yE m con)] (.list .int) λm1=>_
  refine zI (SO hc) ?_;have hsl:=za2 hc;have hsv:∀v∈yB (yE m con) m.vars.length,0<=v/\v<m.vars.length:=λv hv=>nR v hv
  generalize yB (yE m con) m.vars.length=sc at hsl hsv⊢
  refine up (I:=λn v a=>Ym m s _ sc n v a) 0 sc.length rfl (AT _) (by omega) (λk a=>a=dJ m s (sc.take k)) rfl λn k a _ hk ha hn=> ?_
  subst ha;rw[K9]
  by_cases h:k<sc.length
  ·have hvk:=hsv _ (AS h)
   have hvl:sc[k].toNat<m.vars.length:=by omega
   rw[zY h,zT (t:=.int) h];refine⟨zE h,uW.2 hvk,?_⟩;have hat2:zW .var m.vars sc[k].toNat=m.vars[sc[k].toNat]:=atN (t:=.var) hvl;have hvr:=hr.var _ (AS hvl);have hfull:(vC m).getD sc[k].toNat []=Vi m.vars[sc[k].toNat]:=Z6 hvl;have hstep:dJ m s (sc.take (k+1))=dJ m s (sc.take k)++FB s sc[k] (Vi m.vars[sc[k].toNat]):=by rw[dJ,IJ _ h,hfull];rfl
   have hgl:=za4 hr (s:=s) (sc.take k);rw[Aaf]at hgl
   generalize dJ m s (sc.take k)=pre at hstep hgl⊢
   rw[hat2];refine upto (I:=λn2 v a=>dH m s _ sc n (k:Int) n2 v a) (m.vars[sc[k].toNat]).lo (m.vars[sc[k].toNat]).hi (by omega) (by omega) (λj a=>a=pre++FB s sc[k] (Df (m.vars[sc[k].toNat]).lo (j-(m.vars[sc[k].toNat]).lo).toNat)/\j<=(m.vars[sc[k].toNat]).hi+1) ⟨by rw[Int.sub_self];exact(Aa2 _).symm,by omega⟩ λn2 j a hj hi hn2=> ?_
   obtain⟨rfl,hjm⟩:=hi;rw[K8,zT (t:=.int) h,hat2];have hgv:=za3 (s:=s) (v:=sc[k]) (l:=Df (m.vars[sc[k].toNat]).lo (j-(m.vars[sc[k].toNat]).lo).toNat);rw[Yy]at hgv
   refine⟨uW.2 hvk,zA (λe=> ?_) λe=> ?_⟩
   ·have e:=By e
    have hgs:∀b,fX (s.getD sc[k].toNat []) j=b->FB s sc[k] (Df (m.vars[sc[k].toNat]).lo (j+1-(m.vars[sc[k].toNat]).lo).toNat)=FB s sc[k] (Df (m.vars[sc[k].toNat]).lo (j-(m.vars[sc[k].toNat]).lo).toNat)++(if b=true then[]else[(⟨sc[k],3,j⟩:zC)]):=λb hb=>by
     rw[Cn hj,FB,Acn,AaL,Aa7,hb];cases b<;>rfl
    refine⟨uW.2 (by omega),zI (sB (a:=j)) ?_⟩
    show zJ (!fX (s.getD sc[k].toNat []) j) _ _
    refine zA (λf=>⟨yW (t:=.lit) ?_,hn2 e _ ⟨?_,by omega⟩⟩) λf=>hn2 e _ ⟨?_,by omega⟩
    ·rw[It];show(_+_+1)*24<=_;omega
    ·rw[hgs false (by simpa using f),AaH];rfl
    ·rw[hgs true (by simpa using f)];simp
   ·have e:=Aaa e
    refine hn h _ ?_;rw[hstep,Vi,show j=(m.vars[sc[k].toNat]).hi+1 by omega]
  ·have hk':k=sc.length:=by omega
   subst hk';rw[zS,Aaj]
theorem Dj{lo hi:Int}{n:Nat}(h1:0<=lo)(h2:lo<=hi)(h3:hi<=n):Js lo hi n=true:=by
 unfold Js;simp;omega
theorem Sk{m:zG}{con:Int}{must l:AcM}(hat:Fr m con=0)(hm:must.length<=1000000)(hl:l.length<=1000000):tJ fa [dM m,dI con,.sl .lit must,.sl .lit l] (.sl .lit (IW m con must l)):=
 K7 m con must l λok=>by
  rw[IV,IW,zcH]
  suffices H:∀(k:Nat) (l':AcM) (i:Nat),l'.length<=k+i->i<=l'.length->l'.length<=1000000->∀r,r=must++Q9 (λl=>jO m con (must++l)) k l' i->hU m con must (λd=>d=.sl .lit r) (k+1) l' (i:Int)from⟨_,H l.length l 0 (BY _) (AT _) hl _ rfl⟩
  intro k
  induction k with
  |zero=>
   intro l' i h1 h2 h3 r hr;have hi:i=l'.length:=by omega
   subst hi;rw[Vt,zS];refine zI (Zj (ls:=[must,l']) (by show 2<=1000;decide) λx hx=> ?_) ?_
   ·rcases OF.1 hx with rfl|hx
    ·exact hm
    ·rw[IN.1 hx];exact h3
   ·rw[hr,Q9];simp
  |succ k ih=>
   intro l' i h1 h2 h3 r hr;rw[Vt]
   by_cases h:i<l'.length
   ·have hw:yF ((i:Int)+1)=((i+1:Nat):Int):=kI (by omega)
    rw[Q9,As h]at hr
    have hel:(l'.eraseIdx i).length=l'.length-1:=AcF h;rw[zY h,hw,Aab,Aab,Aab,Aa4,Aaj]
    have hcat:=Zj (ls:=[l'.take i,l'.drop (i+1)]) (by show 2<=1000;decide) λx hx=>by
     rcases OF.1 hx with rfl|hx
     ·rw[Aaf];omega
     ·rw[IN.1 hx,Aa1];omega
    have he:[l'.take i,l'.drop (i+1)].flatten=l'.eraseIdx i:=by rw[List.eraseIdx_eq_take_drop_succ];simp
    rw[he]at hcat
    refine⟨Dj (Aav _) (by omega) (by omega),Dj (by omega) (by omega) (Aav _),zI hcat ?_⟩
    have hcat2:=Zj (ls:=[must,l'.eraseIdx i]) (by show 2<=1000;decide) λx hx=>by
     rcases OF.1 hx with rfl|hx
     ·exact hm
     ·rw[IN.1 hx];omega
    have he2:[must,l'.eraseIdx i].flatten=must++l'.eraseIdx i:=by simp
    rw[he2]at hcat2
    refine zI hcat2 (zI (N5 hat) (zA (λe=> ?_) λe=> ?_))
    ·rw[As e]at hr
     exact ih _ i (by omega) (by omega) (by omega) r hr
    ·rw[An (by rw[e];decide)]at hr
     exact ih l' (i+1) (by omega) (by omega) h3 r hr
   ·have hi:i=l'.length:=by omega
    subst hi;rw[Q9,An (Nat.lt_irrefl _)]at hr
    rw[zS];refine zI (Zj (ls:=[must,l']) (by show 2<=1000;decide) λx hx=> ?_) ?_
    ·rcases OF.1 hx with rfl|hx
     ·exact hm
     ·rw[IN.1 hx];exact h3
    ·rw[hr];simp
noncomputable def Sl (m:zG)(con:Int)(s:AcL)(v n:Int):Bool:= !zZ s&&(fX (s.getD v.toNat []) n&& !fX ((yS (yE m con) s).getD v.toNat []) n)
noncomputable def Ma (m:zG)(con:Int)(s:AcL):Bool:= !zZ s&&zZ (yS (yE m con) s)
noncomputable def Sm (m:zG)(con:Int)(s:AcL)(v n:Int):AcM:=if Sl m con s v n=true then IW m con [⟨v,4,n⟩] (dJ m s (yB (yE m con) m.vars.length))else[]
noncomputable def cR (m:zG)(con:Int)(s:AcL):AcM:=if Ma m con s=true then IW m con [] (dJ m s (yB (yE m con) m.vars.length))else[]
theorem Mb{m:zG}{con:Int}(hat:Fr m con=0){s:AcL}:(dJ m s (yB (yE m con) m.vars.length)).length<=24:=by
 have h1:=za4 (lH hat).1 (s:=s) (yB (yE m con) m.vars.length);have h2:=za2 (mD hat);omega
theorem EQ{m:zG}{con:Int}{s:AcL}{v n:Int}(hr:zhR m con s)(hv:0<=v/\v<s.length):tJ Xj [dM m,dI con,dS s,dI v,dI n] (.tup [.sl .lit (Sm m con s v n),dB (Sl m con s v n)]):=
 GO m con s v n λok=>by
  have hat:=Q5 hr.chk hr.cn;have hs:=XI (pR hr.chk) hr.st;have hl:=hs.len;rw[EN];refine zI (vU s) (zA (λe=> ?_) λe=> ?_)
  ·have e:zZ s=true:=e
   rw[Sm,Sl,e];rfl
  have e:zZ s=false:=e;refine⟨uW.2 hv,zI (sB (a:=n)) ?_⟩;show zJ (!fX (s.getD v.toNat []) n) _ _
  refine zA (λf=> ?_) λf=> ?_
  ·have f:fX (s.getD v.toNat []) n=false:=by simpa using f
   rw[Sm,Sl,e,f];rfl
  have f:fX (s.getD v.toNat []) n=true:=by simpa using f
  refine⟨uW.2 hr.cn,zI (Z5 (c:=yE m con) (by rw[hl];exact hr.right) (by rw[hl];exact hs)) ⟨uW.2 (by rw[hr.op.len hl];omega),zI (sB (a:=n)) ?_⟩⟩
  show zJ (fX ((yS (yE m con) s).getD v.toNat []) n) _ _
  refine zA (λg=> ?_) λg=> ?_
  ·rw[Sm,Sl,e,f,g];rfl
  ·have hb:Sl m con s v n=true:=by rw[Sl,e,f,g];rfl
   rw[Sm,As hb,hb];have:=Mb hat (s:=s);exact zI (PD hat hl) (zI (Sk hat (by show 1<=1000000;decide) (by omega)) rfl)
theorem GQ{m:zG}{con:Int}{s:AcL}(hr:zhR m con s):tJ Yg [dM m,dI con,dS s] (.tup [.sl .lit (cR m con s),dB (Ma m con s)]):=
 IU m con s λok=>by
  have hat:=Q5 hr.chk hr.cn;have hs:=XI (pR hr.chk) hr.st;have hl:=hs.len;rw[GN];refine zI (vU s) (zA (λe=> ?_) λe=> ?_)
  ·have e:zZ s=true:=e
   rw[cR,Ma,e];rfl
  have e:zZ s=false:=e;refine⟨uW.2 hr.cn,zI (Z5 (c:=yE m con) (by rw[hl];exact hr.right) (by rw[hl];exact hs)) (zI (vU _) ?_)⟩
  refine zA (λg=> ?_) λg=> ?_
  ·have g:zZ (yS (yE m con) s)=false:=by simpa using g
   rw[cR,Ma,e,g];rfl
  ·have g:zZ (yS (yE m con) s)=true:=by simpa using g
   have hb:Ma m con s=true:=by rw[Ma,e,g];rfl
   rw[cR,As hb,hb];have:=Mb hat (s:=s);exact zI (PD hat hl) (zI (Sk hat (by decide) (by omega)) rfl)
structure RO (m:zG)(con:Int)(s:AcL)(must r:AcM):Prop where
 says:jO m con (must++r)=true
 few:∀j,j<r.length->jO m con (must++r.eraseIdx j)=false
 told:∀x∈r,x.op=3/\Xx s x= -1/\gX m.vars.length x=0
 len:r.length<=24
theorem zi9{s:AcL}{x:zC}(h:∀n∈s.getD x.var.toNat [],holdsL x n=false):Xx s x= -1:=by
 rw[Xx,Fp,As];rw[AaA];exact λn hn=>by rw[h n hn];decide
theorem IY{m:zG}(hr:Right m){x:zC}(hv:0<=x.var/\x.var<(m.vars.length:Int))(ho:1<=x.op/\x.op<=4)(hn:x.n∈(vC m).getD x.var.toNat []):gX m.vars.length x=0:=by
 have hvl:x.var.toNat<m.vars.length:=by omega
 rw[Z6 hvl,Wq]at hn
 have:=hr.var _ (AS hvl);exact qE.2 ⟨hv,ho,by omega⟩
theorem za5{m:zG}{con:Int}{s:AcL}(hat:Fr m con=0){must:AcM}(h:jO m con (must++dJ m s (yB (yE m con) m.vars.length))=true):
  RO m con s must (zcH (λl=>jO m con (must++l)) (dJ m s (yB (yE m con) m.vars.length))):=by
 have hsub:=IX (λl=>jO m con (must++l)) (dJ m s (yB (yE m con) m.vars.length)).length (dJ m s (yB (yE m con) m.vars.length)) 0
 refine⟨MM (λl=>jO m con (must++l)) _ _ 0 h,λj hj=>zez _ (zk9 hat must) _ j hj,λx hx=> ?_,Aai hsub.length_le (Mb hat)⟩
 obtain⟨h1,h2,h3,h4⟩:=za1.1 (hsub.subset hx);have hv:=nR _ h1;refine⟨h2,zi9 λn hn=> ?_,IY (lH hat).1 hv (by omega) h3⟩
 have hne:n≠x.n:=λe=>h4 (by rw[<-e];exact hn)
 obtain⟨xv,xo,xn⟩:=x;simp only at h2 hne
 subst h2;simp[holdsL,hne]
theorem Ja{nv:Nat}{c:AcM}(hl:c.length<=40)(h:∀x∈c,gX nv x=0):yK nv c=0:=by
 rw[yK,An (by omega)]
 have:∀(xs:AcM) (i:Nat),(∀x∈xs,gX nv x=0)->wB (λ_ l=>gX nv l) i xs=0:=λxs=>by
  induction xs with
  |nil=>exact λ_ _=>rfl
  |cons a xs ih=>
   intro i h;rw[wB,As (h a (Ks ..))];exact ih _ λx hx=>h x (On _ hx)
 exact this c 0 h
theorem RO.clause{m:zG}{con:Int}{s:AcL}{must r:AcM}(h:RO m con s must r)(hm:must.length<=1)(hml:∀x∈must,gX m.vars.length x=0):yK m.vars.length (must++r)=0:=
 Ja (by rw[It];have:=h.len;omega) λx hx=>by
  rcases TO.1 hx with hx|hx
  ·exact hml x hx
  ·exact(h.told x hx).2.2
def XN:wG:= {own:=[],live:=[(0,([1,3,8,9],[]))],n:=39,nils:=[],pubs:=[(31088,999999)]}
def dK(a:zG)(b:AcN)(R:yL)(c:Nat)(d:AcM)(e:Int):Prop:=LP XN f131 [1,1,1,0,1,0,0] 0 c ⟨[(1,.sl (.list .lit) b),(3,.iptr (WG a []) 0),(8,.sl .lit d),(9,dI e)],[]⟩ (zH 0 (sK XN f131 [1,1,1,1] 0 (eK f131 R)))
theorem Tg(c:zG)(d:AcN)(R:yL)(e:Nat)(a:AcM)(b:Int):dK c d R (e+1) a b=
 (zJ (decide (b<(a.length:Int)))
 (Js 0 b a.length=true/\
 Js (yF (b+1)) (a.length:Int) a.length=true/\
 yM sN [.sl (.list .lit) ([(a.take b.toNat).drop 0,(a.take (a.length:Int).toNat).drop (yF (b+1)).toNat])] (.list .lit) λf=>
 yM ZM [dM c,.sl (.list .lit) d,.sl .lit f] .bool λg=>
 zJ g
 (dK c d R e f b)
 (dK c d R e a (yF (b+1))))
 (R (.tup [.sl .lit a,dB true]))):=by kernel_rfl
theorem ER(a:zG)(b:AcN)(c:AcM)(R:yL):FD XN f131 [dM a,.sl (.list .lit) b,.sl .lit c] R=
 (yM ZM [dM a,.sl (.list .lit) b,.sl .lit c] .bool λe=>
 zJ (!e)
 (R (.tup [.sl .lit ([]:AcM),dB false]))
 (∃d:AcM,yQ sZ [.sl .lit c] [] (.own 3000) [(3000,.row 114 .lit d)]/\
 ∃n0,dK a b R n0 d 0)):=by kernel_rfl
theorem GR(a:zG)(b:AcN)(c:AcM):xZ XN f131 Xc [dM a,.sl (.list .lit) b,.sl .lit c]:=wA func131 (by kernel_rfl) ntmps131 rfl
def L1:wG:= {own:=[14,25],live:=[],n:=26,nils:=[(14,(6,(129,.step)))],pubs:=[]}
theorem Bp(a:zG)(b:AcN)(c:AcM)(R:yL):FD L1 f134 [dM a,.sl (.list .lit) b,.sl .lit c] R=
 (yM W9 [dM a,.sl .lit c] (.list (.list .int)) λg=>
 ∃f:AcL,∃d:AcS,yQ fK [AcY] [(1000,.cells (WG a [.sl (.list .lit) b,dS g,.own 2000])),(2000,.row 129 .step ([]:AcS))] (.tup []) [(1000,.cells (WG a [.sl (.list .lit) b,dS f,.own 2000])),(2000,.row 129 .step d)]/\
 yM bS [.sl .lit c] (.list .lit) λe=>
 xQ .step (d.length+([(⟨2,0,e⟩:zX)]).length)=true/\
 R (.sl .step (d++([(⟨2,0,e⟩:zX)])))):=by kernel_rfl
theorem ES(a:zG)(b:AcN)(c:AcM):xZ L1 f134 WB [dM a,.sl (.list .lit) b,.sl .lit c]:=wA func134 (by kernel_rfl) ntmps134 rfl
def XO:wG:= {own:=[3,5,16],live:=[(0,([3,6,7,8],[3]))],n:=19}
def Yn(a:AcM)(R:yL)(b:Nat)(c:Int)(d:AcM):Prop:=LP XO f135 [1,1,0,1,0,0] 0 b ⟨[(3,.own 3),(6,.sl .lit a),(7,dI (a.length:Int)),(8,dI c)],[(3,.row 114 .lit d)]⟩ (zH 0 (sK XO f135 [1,1,1] 0 (eK f135 R)))
theorem Jb(a:AcM)(R:yL)(d:Nat)(b:Int)(c:AcM):Yn a R (d+1) b c=
 (zJ (decide (b<(a.length:Int)))
 (xM b a.length=true/\
 yM Xf [dL (zW .lit a b.toNat)] .lit λe=>
 xQ .lit (c.length+([e]).length)=true/\
 Yn a R d (yF (b+1)) (c++([e])))
 (R (.sl .lit c))):=by kernel_rfl
theorem ET(a:AcM)(R:yL):FD XO f135 [.sl .lit a] R=
 (∃n0,Yn a R n0 0 ([]:AcM)):=by kernel_rfl
theorem GS(a:AcM):xZ XO f135 bS [.sl .lit a]:=wA func135 (by kernel_rfl) ntmps135 rfl
def L2:wG:= {own:=[],live:=[],n:=14}
theorem Bq(a:zG)(b:AcN)(c:AcM)(R:yL):FD L2 f192 [dM a,.sl (.list .lit) b,.sl .lit c] R=
 (yM W9 [dM a,.sl .lit c] (.list (.list .int)) λd=>
 yM dP [dM a,dS d,dB true,.sl (.list .lit) b] (.list (.list .int)) λe=>
 yM xF [dS e] .bool λf=>
 R (dB f)):=by kernel_rfl
theorem EU(a:zG)(b:AcN)(c:AcM):xZ L2 f192 ZM [dM a,.sl (.list .lit) b,.sl .lit c]:=wA func192 (by kernel_rfl) ntmps192 rfl
def Sn:wG:= {own:=[7],live:=[(0,([5,10,11,12],[]))],n:=21}
def Um(a:AcM)(R:yL)(b:Nat)(c:AcL)(d:Int):Prop:=LP Sn f196 [1,1,0,1,0,0] 0 b ⟨[(5,dS c),(10,.sl .lit a),(11,dI (a.length:Int)),(12,dI d)],[]⟩ (zH 0 (sK Sn f196 [1,1,1] 0 (eK f196 R)))
theorem EV(a:AcM)(R:yL)(d:Nat)(c:AcL)(b:Int):Um a R (d+1) c b=
 (zJ (decide (b<(a.length:Int)))
 (xM b a.length=true/\
 yM ME [dS c,dL (zW .lit a b.toNat)] (.list (.list .int)) λe=>
 Um a R d e (yF (b+1)))
 (R (dS c))):=by kernel_rfl
theorem zcJ(a:zG)(b:AcM)(R:yL):FD Sn f196 [dM a,.sl .lit b] R=
 (yM iC [dM a] (.list (.list .int)) λc=>
 ∃n0,Um b R n0 c 0):=by kernel_rfl
theorem AV(a:zG)(b:AcM):xZ Sn f196 W9 [dM a,.sl .lit b]:=wA func196 (by kernel_rfl) ntmps196 rfl
def o9:wG:= {own:=[],live:=[(0,([0,2],[1000,2000])),(2,([0,2,3],[1000,2000]))],n:=59}
def lI(R:oG)(a b:Nat)(c:Bool)(d:Int)(e:AcP)(f:AcQ)(g h:Int)(i:AcN)(j:AcL)(k:AcS):Prop:=LP o9 f197 [1,0,0,1,0,1,0,1,0,0] 2 b ⟨[(0,AcY),(2,dB c),(3,dI d)],[(1000,.cells [.sl .var e,.sl .con f,dI g,dI h,.sl (.list .lit) i,dS j,.own 2000]),(2000,.row 129 .step k)]⟩ (zH 2 (sK o9 f197 [1,0,0,1,0,1,1] 1 (zH 1 (iK o9 f197 [1,0,0] 0 a (zH 0 (eH f197 [AcY] false R))))))
def uF(R:oG)(a:Nat)(b:Bool)(c:AcP)(d:AcQ)(e f:Int)(g:AcN)(h:AcL)(i:AcS):Prop:=LP o9 f197 [1,0,0] 0 a ⟨[(0,AcY),(2,dB b)],[(1000,.cells [.sl .var c,.sl .con d,dI e,dI f,.sl (.list .lit) g,dS h,.own 2000]),(2000,.row 129 .step i)]⟩ (zH 0 (eH f197 [AcY] false R))
theorem XP(R:oG)(f k:Nat)(j:Bool)(i:Int)(b:AcP)(a:AcQ)(c d:Int)(e:AcN)(g:AcL)(h:AcS):lI R f (k+1) j i b a c d e g h=
 (zJ (decide (i<(a.length:Int)))
 (yM xF [dS g] .bool λq=>
 zJ (!q)
 (∃p:Bool,∃l:AcL,∃m:AcS,yQ fQ [AcY,dI i] [(1000,.cells [.sl .var b,.sl .con a,dI c,dI d,.sl (.list .lit) e,dS g,.own 2000]),(2000,.row 129 .step h)] (dB p) [(1000,.cells [.sl .var b,.sl .con a,dI c,dI d,.sl (.list .lit) e,dS l,.own 2000]),(2000,.row 129 .step m)]/\
 zJ p
 (lI R f k true (yF (i+1)) b a c d e l m)
 (lI R f k j (yF (i+1)) b a c d e l m))
 (yM dP [.agg [.sl .var b,.sl .con a,dI c,dI d],dS g,dB false,.sl (.list .lit) e] (.list (.list .int)) λn=>
 yM yP [dS n,dS g,.clo wH none []] .bool λr=>
 zJ (!r)
 (uF R f true b a c d e n h)
 (uF R f j b a c d e n h)))
 (yM dP [.agg [.sl .var b,.sl .con a,dI c,dI d],dS g,dB false,.sl (.list .lit) e] (.list (.list .int)) λo=>
 yM yP [dS o,dS g,.clo wH none []] .bool λs=>
 zJ (!s)
 (uF R f true b a c d e o h)
 (uF R f j b a c d e o h))):=by kernel_rfl
theorem XQ(R:oG)(h:Nat)(i:Bool)(b:AcP)(c:AcQ)(d e:Int)(f:AcN)(a:AcL)(g:AcS):uF R (h+1) i b c d e f a g=
 (zJ i
 (yM xF [dS a] .bool λj=>
 zJ (!j)
 (∃n2,lI R h n2 false 0 b c d e f a g)
 (R (.tup []) [(1000,.cells [.sl .var b,.sl .con c,dI d,dI e,.sl (.list .lit) f,dS a,.own 2000]),(2000,.row 129 .step g)]))
 (R (.tup []) [(1000,.cells [.sl .var b,.sl .con c,dI d,dI e,.sl (.list .lit) f,dS a,.own 2000]),(2000,.row 129 .step g)])):=by kernel_rfl
theorem LB(a:AcP)(b:AcQ)(c d:Int)(e:AcN)(f:AcL)(g:AcS)(R:oG):FH o9 f197 [AcY] [(1000,.cells [.sl .var a,.sl .con b,dI c,dI d,.sl (.list .lit) e,dS f,.own 2000]),(2000,.row 129 .step g)] [AcY] false R=
 (∃n0,uF R n0 true a b c d e f g):=by kernel_rfl
theorem Mc(a:AcP)(b:AcQ)(c d:Int)(e:AcN)(f:AcL)(g:AcS):nW o9 f197 fK [AcY] [(1000,.cells [.sl .var a,.sl .con b,dI c,dI d,.sl (.list .lit) e,dS f,.own 2000]),(2000,.row 129 .step g)] [AcY] false:=mJ func197 (by kernel_rfl) ntmps197 rfl
def rV:wG:= {own:=[52,109],live:=[(0,([0,1,5,8,66,67,68],[1000,2000])),(2,([0,1,5,8,9,66,67,68,73,74,75],[1000,2000]))],n:=119}
def oD(a:AcL)(c:Int)(R:oG)(d:AcL)(e:Nat)(b:Int)(f:Nat)(g:Bool)(h:Int)(i:AcP)(j:AcQ)(k l:Int)(m:AcN)(n:AcL)(o:AcS):Prop:=LP rV f250 [1,1,1,1,0,1,0,0,1,1,0,0,1,1,0,0] 2 f ⟨[(0,AcY),(1,dI c),(5,dS d),(8,dB g),(9,dI b),(66,dS a),(67,dI (a.length:Int)),(68,dI b),(73,.sl .int (zW (.list .int) a b.toNat)),(74,dI ((zW (.list .int) a b.toNat).length:Int)),(75,dI h)],[(1000,.cells [.sl .var i,.sl .con j,dI k,dI l,.sl (.list .lit) m,dS n,.own 2000]),(2000,.row 129 .step o)]⟩ (zH 2 (zH 1 (sK rV f250 [1,1,1,1,0,1,0,0,1,1,1] 0 (iK rV f250 [1,1,1,1,0,1,0,0] 0 e (zH 0 (sK rV f250 [1,1,1,1,1] 0 (eH f250 [AcY] false R)))))))
def lJ(a:AcL)(b:Int)(R:oG)(c:AcL)(d:Nat)(e:Bool)(f:Int)(g:AcP)(h:AcQ)(i j:Int)(k:AcN)(l:AcL)(m:AcS):Prop:=LP rV f250 [1,1,1,1,0,1,0,0] 0 d ⟨[(0,AcY),(1,dI b),(5,dS c),(8,dB e),(66,dS a),(67,dI (a.length:Int)),(68,dI f)],[(1000,.cells [.sl .var g,.sl .con h,dI i,dI j,.sl (.list .lit) k,dS l,.own 2000]),(2000,.row 129 .step m)]⟩ (zH 0 (sK rV f250 [1,1,1,1,1] 0 (eH f250 [AcY] false R)))
theorem Pa(b:AcL)(c:Int)(R:oG)(e:AcL)(l:Nat)(a:Int)(n:Nat)(o:Bool)(d:Int)(f:AcP)(g:AcQ)(h i:Int)(m:AcN)(j:AcL)(k:AcS):oD b c R e l a (n+1) o d f g h i m j k=
 (zJ (decide (d<((zW (.list .int) b a.toNat).length:Int)))
 (xM d (zW (.list .int) b a.toNat).length=true/\
 xM a e.length=true/\
 yM vJ [.sl .int (zW (.list .int) e a.toNat),dI (zW .int (zW (.list .int) b a.toNat) d.toNat)] .bool λq=>
 zJ q
 (oD b c R e l a n o (yF (d+1)) f g h i m j k)
 (c2Q Xj [.agg [.sl .var f,.sl .con g,dI h,dI i],dI c,dS j,dI a,dI (zW .int (zW (.list .int) b a.toNat) d.toNat)] (.list .lit) .bool λp r=>
 xQ .step (k.length+([(⟨1,c,p⟩:zX)]).length)=true/\
 oD b c R e l a n true (yF (d+1)) f g h i m j (k++([(⟨1,c,p⟩:zX)]))))
 (lJ b c R e l o (yF (a+1)) f g h i m j k)):=by kernel_rfl
theorem Pb(a:AcL)(k:Int)(R:oG)(c:AcL)(l:Nat)(d:Bool)(b:Int)(e:AcP)(f:AcQ)(g h:Int)(i:AcN)(m:AcL)(j:AcS):lJ a k R c (l+1) d b e f g h i m j=
 (zJ (decide (b<(a.length:Int)))
 (xM b a.length=true/\
 ∃n2,oD a k R c l b n2 d 0 e f g h i m j)
 (R (dB d) [(1000,.cells [.sl .var e,.sl .con f,dI g,dI h,.sl (.list .lit) i,dS c,.own 2000]),(2000,.row 129 .step j)])):=by kernel_rfl
theorem LC(d:AcP)(b:AcQ)(e f:Int)(h:AcN)(c:AcL)(g:AcS)(a:Int)(R:oG):FH rV f250 [AcY,dI a] [(1000,.cells [.sl .var d,.sl .con b,dI e,dI f,.sl (.list .lit) h,dS c,.own 2000]),(2000,.row 129 .step g)] [AcY] false R=
 (xM a b.length=true/\
 yM iE [dC (zW .con b a.toNat),dS c] (.list (.list .int)) λi=>
 yM xF [dS i] .bool λk=>
 zJ k
 (c2Q Yg [.agg [.sl .var d,.sl .con b,dI e,dI f],dI a,dS c] (.list .lit) .bool λj m=>
 xQ .step (g.length+([(⟨1,a,j⟩:zX)]).length)=true/\
 yM uT [dS c] (.list (.list .int)) λl=>
 R (dB true) [(1000,.cells [.sl .var d,.sl .con b,dI e,dI f,.sl (.list .lit) h,dS l,.own 2000]),(2000,.row 129 .step (g++([(⟨1,a,j⟩:zX)])))])
 (∃n0,lJ c a R i n0 false 0 d b e f h c g)):=by kernel_rfl
theorem Md(a:AcP)(b:AcQ)(c d:Int)(e:AcN)(f:AcL)(g:AcS)(h:Int):nW rV f250 fQ [AcY,dI h] [(1000,.cells [.sl .var a,.sl .con b,dI c,dI d,.sl (.list .lit) e,dS f,.own 2000]),(2000,.row 129 .step g)] [AcY] false:=mJ func250 (by kernel_rfl) ntmps250 rfl
def Zk(m:zG)(d:AcM):AcL:=d.foldl zdV (vC m)
noncomputable def pV (m:zG)(l:AcN)(d:AcM):Bool:=zZ (sM m true l (Zk m d))
noncomputable def fewest (m:zG)(l:AcN)(d:AcM):AcM:=zcH (pV m l) d
theorem zeB:∀(d:AcM) (s:AcL),d.foldl zdV s=qO (λv n=>d.all λx=> !decide ((v:Int)=x.var)||holdsL x n) s
 |[],s=>(YR λv n _=>rfl).symm
 |x::d,s=>by
  rw[AbO,zeB d (zdV s x),zdV,zaN];rfl
theorem RP{m:zG}{d:AcM}:Zk m d=qO (λv n=>d.all λx=> !decide ((v:Int)=x.var)||holdsL x n) (vC m):=zeB d _
theorem So{m:zG}{d:AcM}:ZD (Zk m d) (vC m):=by rw[RP];exact Ta
theorem zgw{m:zG}{d:AcM}:fY m (Zk m d)=0:=RK Vq So
theorem zla{m:zG}(h:Right m){d:AcM}:dF (Zk m d) m.vars.length:=XI h zgw
theorem zja{m:zG}{a b:AcM}(h:∀x∈a,x∈b):ZD (Zk m b) (Zk m a):=by
 rw[RP,RP];refine Tb (ZD.refl _) λv n _ e=> ?_
 rw[Aao]at e⊢
 exact λx hx=>e x (h x hx)
theorem FC{m:zG}{l:AcN}(hl:yX m l):∀a b:AcM,(∀x∈a,x∈b)->pV m l a=true->pV m l b=true:=λa b h ha=>by
 have hp:=hl.pos;have k1:(Zk m a).length=m.vars.length:=So.1.trans wE;have k2:(Zk m b).length=m.vars.length:=So.1.trans wE;cases e:pV m l b with
 |true=>rfl
 |false=>
  have h2:=((dY (cons:=true) hl k2).mono (by omega) (dY (cons:=true) hl k1) (zja h) λop h=>h).fail e
  rw[pV,h2]at ha;cases ha
theorem zlb{m:zG}{d:AcM}(h:∀x∈d,1<=x.op/\x.op<=4):Zk m d=kQ (vC m) (d.map bJ):=by
 rw[RP,kQ];refine Vm λv n _=> ?_
 induction d with
 |nil=>rfl
 |cons x d ih=>
  have ih:=ih λy hy=>h y (On _ hy)
  have hx:=zaI (h x (Ks ..)) n;rw[AbI,ih,Aak,atC,atC,Aa3,zcz,hx]
  by_cases e:x.var=(v:Int)
  ·rw[As e,Or e.symm];cases holdsL x n<;>rfl
  ·rw[An e,Aah λx=>e x.symm];rfl
structure vB (m:zG)(l:AcN)(d:AcM):Prop where
 chk:xE m=0
 len:l.length<=600
 cl:∀c∈l,yK m.vars.length c=0
 dl:d.length<=40
 dr:∀x∈d,gX m.vars.length x=0
 turn:∀x∈d,gX m.vars.length (bJ x)=0
theorem vB.mc{m:zG}{l:AcN}{d:AcM}(h:vB m l d):yX m l:=kR h.chk h.cl
theorem vB.ops{m:zG}{l:AcN}{d:AcM}(h:vB m l d):∀x∈d,1<=x.op/\x.op<=4:=λx hx=>(qE.1 (h.dr x hx)).2.1
theorem vB.sub{m:zG}{l:AcN}{d d':AcM}(h:vB m l d)(hs:d'.Sublist d):vB m l d':=⟨h.chk,h.len,h.cl,Aai hs.length_le h.dl,λx hx=>h.dr x (hs.subset hx),λx hx=>h.turn x (hs.subset hx)⟩
theorem Pd{m:zG}{l:AcN}{d:AcM}:(fewest m l d).Sublist d:=IX ..
theorem IZ{m:zG}{l:AcN}{d:AcM}(h:pV m l d=true):pV m l (fewest m l d)=true:=MM _ _ _ _ h
theorem za6{m:zG}{l:AcN}{d:AcM}(h:vB m l d):yK m.vars.length (d.map bJ)=0:=Ja (by rw[Aag];exact h.dl) λx hx=>by
 obtain⟨y,hy,rfl⟩:=Of.1 hx;exact h.turn y hy
theorem vB.near{m:zG}{l:AcN}{d:AcM}(h:vB m l d):∀x∈d,-1000000<=x.n/\x.n<=1000000:=λx hx=>by have:=qE.1 (h.dr x hx);omega
theorem I0{m:zG}{con:Int}{s:AcL}{must r:AcM}(h:RO m con s must r)(hp:0<m.vars.length)(hcl:yK m.vars.length (must++r)=0)
  {u:AcL} (hu:ZD u s) (hf:zZ u=false) (hlen:u.length=m.vars.length) (hst:aL u (must++r)=u) {v:Nat} {n:Int} (hn:n∈u.getD v []):∃us,Tw us u/\us.getD v 0=n/\oo must us=true:=by
 have hl:=(hJ hcl).2;have hv:∀x∈must++r,0<=x.var/\x.var<(m.vars.length:Int):=λx hx=>(qE.1 (hl x hx)).1
 have op:=zhM (c:=must++r) (nv:=m.vars.length) hv hp;obtain⟨us,h1,h2,h3⟩:=Vl.congr (Q':=λ_=>true) (vs:=[]) op hlen hst hf v n hn
 refine⟨us,h1,h2,?_⟩;obtain⟨x,hx,hh⟩:=gD.1 h3;rcases TO.1 hx with hm|hm
 ·exact gD.2 ⟨x,hm,hh⟩
 ·have ht:=(h.told x hm).2.1
  have hb:=hv x hx;have hin:=(hu.2 x.var.toNat).subset (h1.2 x.var.toNat (by omega))
  have:=KS.2 ⟨_,hin,hh⟩;omega
def rE(l:AcS):AcN:=l.map λst=>st.clause
noncomputable def Oy (m:zG)(l:AcN)(d:AcM)(steps:AcS):AcL:=sM m false (l++rE steps) (Zk m d)
structure Th (m:zG)(st:zX):Prop where
 kind:st.kind=1
 con:0<=st.con/\st.con<(m.cons.length:Int)
 by':jO m st.con st.clause=true
 cl:yK m.vars.length st.clause=0
section
variable {m:zG}{l:AcN}{d:AcM}{steps more:AcS}{s x:AcL}
theorem mG:rE (steps++more)=rE steps++rE more:=AaL
theorem bE:(Zk m d).length=m.vars.length:=So.1.trans wE
theorem zgx(h:vB m l d)(hs:∀st∈steps,Th m st):yX m (l++rE steps):=kR h.chk λc hc=>by
 rcases TO.1 hc with hc|hc
 ·exact h.cl c hc
 ·obtain⟨st,h1,rfl⟩:=Of.1 hc
  exact(hs st h1).cl
theorem Me(h:vB m l d)(hs:∀st∈steps,Th m st):TM (pT m false (l++rE steps)) (Zk m d) (Oy m l d steps):=dY (zgx h hs) bE
theorem zhX(h:vB m l d)(hs:∀st∈steps,Th m st):(Oy m l d steps).length=m.vars.length:=(Me h hs).le.1.trans bE
theorem Br(h:vB m l d)(hs:∀st∈steps,Th m st)(hf:zZ (Oy m l d steps)=false){c:AcM}(hc:c∈l++rE steps):aL (Oy m l d steps) c=Oy m l d steps:=by
 rcases(Me h hs).out with⟨_,h2⟩|h2
 ·exact h2 (λs=>aL s c) (ou.2 (.inr ⟨c,hc,rfl⟩))
 ·rw[h2,eF (by rw[bE];exact(zgx h hs).pos)]at hf;cases hf
theorem zeC(h:vB m l d)(h1:∀st∈steps,Th m st)(h2:∀st∈steps++more,Th m st):ZD (Oy m l d (steps++more)) (Oy m l d steps):=
 (Me h h2).mono (by rw[bE];exact(zgx h h1).pos) (Me h h1) (ZD.refl _) λop ho=>by
  rcases ou.1 ho with⟨hc,_⟩|⟨c,hc,rfl⟩
  ·cases hc
  ·refine ou.2 (.inr ⟨c,?_,rfl⟩)
   rw[mG];rcases TO.1 hc with hc|hc
   ·exact AaB _ hc
   ·exact AaK _ (AaB _ hc)
def Sim(m:zG)(l:AcN)(d:AcM)(steps:AcS)(s:AcL):Prop:=zZ (Oy m l d steps)=true\/ZD (Oy m l d steps) s
theorem Sim.grow(hs:Sim m l d steps s)(h:vB m l d)(h1:∀st∈steps,Th m st)(h2:∀st∈steps++more,Th m st):Sim m l d (steps++more) s:=by
 rcases hs with hs|hs
 ·exact .inl ((zeC h h1 h2).failed hs)
 ·exact .inr ((zeC h h1 h2).trans hs)
theorem FE{i:Int}{v:Nat}{n:Int}(hat:Fr m i=0)(hl:s.length=m.vars.length)(hle:ZD s (vC m))(hg:Sl m i s v n=true):(v<m.vars.length/\n∈s.getD v [])/\∃r,Sm m i s v n=[⟨v,4,n⟩]++r/\RO m i s [⟨v,4,n⟩] r/\yK m.vars.length ([⟨v,4,n⟩]++r)=0:=by
 have hg':=hg;rw[Sl,If,If,Aab]at hg'
 obtain⟨a,b,c⟩:=hg';have a:zZ s=false:=by simpa using a
 have b:=kN.1 b;have c:n∉(yS (yE m i) s).getD v []:=λh=>by rw[kN.2 h]at c;cases c
 have hv:v<s.length:=Classical.byContradiction λh=>by rw[qJ (by omega)]at b;cases b
 have hr:=za5 (must:=[⟨v,4,n⟩]) hat (zcI hat hl a hv b c);refine⟨⟨by omega,b⟩,_,?_,hr,hr.clause (BY 1) λx hx=> ?_⟩
 ·rw[Sm,As hg];rfl
 ·rw[IN.1 hx]
  exact IY (lH hat).1 (show 0<=(v:Int)/\(v:Int)<_ by omega) (show 1<=(4:Int)/\(4:Int)<=4 by decide) (by
   show n∈(vC m).getD ((v:Int).toNat) []
   rw[Aab];exact(hle.2 v).subset b)
theorem zjb{i:Int}{v:Nat}{n:Int}(hat:Fr m i=0)(hl:s.length=m.vars.length)(hle:ZD s (vC m))(hg:Sl m i s v n=true):Th m ⟨1,i,Sm m i s v n⟩:=by
 obtain⟨_,r,e,hr,hc⟩:=FE hat hl hle hg;have hi:=(lH hat).2;exact⟨rfl,hi,by show jO m i (Sm m i s v n)=true;rw[e];exact hr.says,by show yK _ (Sm m i s v n)=0;rw[e];exact hc⟩
theorem I1{i:Int}(hat:Fr m i=0)(hl:s.length=m.vars.length)(hf:zZ s=false)(hg:zZ (yS (yE m i) s)=true):∃r,cR m i s=[]++r/\RO m i s [] r/\yK m.vars.length ([]++r)=0:=by
 have hr:=za5 (must:=[]) hat (zeA hat hl hf hg);refine⟨_,?_,hr,hr.clause (AT _) λx hx=>(by cases hx)⟩
 have hb:Ma m i s=true:=by rw[Ma,hf,hg];rfl
 rw[cR,As hb];rfl
theorem zgy{i:Int}(hat:Fr m i=0)(hl:s.length=m.vars.length)(hf:zZ s=false)(hg:zZ (yS (yE m i) s)=true):Th m ⟨1,i,cR m i s⟩:=by
 obtain⟨r,e,hr,hc⟩:=I1 hat hl hf hg;have hi:=(lH hat).2;exact⟨rfl,hi,by show jO m i (cR m i s)=true;rw[e];exact hr.says,by show yK _ (cR m i s)=0;rw[e];exact hc⟩
noncomputable def Vu (m:zG)(i:Int)(s:AcL)(v:Nat)(n:Int):zX:=⟨1,i,Sm m i s v n⟩
noncomputable def I2 (m:zG)(i:Int)(s x:AcL)(v:Nat):AcS:=((s.getD v []).filter λn=> !fX (x.getD v []) n).map (Vu m i s v)
noncomputable def vY (m:zG)(i:Int)(s x:AcL)(k:Nat):AcS:=(List.range k).flatMap (I2 m i s x)
theorem SS{i:Int}{k:Nat}:vY m i s x (k+1)=vY m i s x k++I2 m i s x k:=by
 rw[vY,List.range_succ,List.flatMap_append];simp[vY]
theorem Un{i:Int}{k:Nat}{st:zX}:st∈vY m i s x k↔∃v n,v<k/\n∈s.getD v []/\n∉x.getD v []/\st=Vu m i s v n:=by
 rw[vY,Acw];constructor
 ·rintro⟨v,hv,h⟩
  obtain⟨n,h1,h2⟩:=Of.1 h;obtain⟨h3,h4⟩:=Aan.1 h1;exact⟨v,n,Aa5.1 hv,h3,(λe=>by rw[kN.2 e]at h4;cases h4),h2.symm⟩
 ·rintro⟨v,n,h1,h2,h3,rfl⟩
  refine⟨v,Aa5.2 h1,Of.2 ⟨n,Aan.2 ⟨h2,?_⟩,rfl⟩⟩;cases e:fX (x.getD v []) n
  ·rfl
  ·exact At (kN.1 e) h3
theorem zlc{a b:AcK}(h:a.Sublist b):(b.filter λn=> !fX a n).length+a.length<=b.length:=by
 have h1:=Im (p:=fX a) (r:=b);have h2:(a.filter (fX a))=a:=Acs.2 λn hn=>kN.2 hn
 have h3:=(h.filter (fX a)).length_le;rw[h2]at h3
 omega
theorem GT{a:AcL}{k:Nat}(h:k<a.length):vI (a.take (k+1))=vI (a.take k)+a[k].length:=by
 have:=Is vI (Aar h);rw[<-this,vI,AaL,List.sum_append];simp[vI]
theorem AW{i:Int}(h:ZD x s):∀k,k<=s.length->(vY m i s x k).length+vI (x.take k)<=vI (s.take k):=by
 intro k
 induction k with
 |zero=>intro _;exact BY _
 |succ k ih=>
  intro hk;have ih:=ih (by omega)
  have hx:k<x.length:=by rw[h.1];omega
  have e1:vI (x.take (k+1))=vI (x.take k)+(x.getD k []).length:=by rw[yI _ hx,GT hx]
  have e2:vI (s.take (k+1))=vI (s.take k)+(s.getD k []).length:=by rw[yI _ hk,GT hk]
  have:=zlc (h.2 k);rw[SS,It,e1,e2,I2,Aag];omega
structure Tr (m:zG)(l:AcN)(d:AcM)(steps:AcS)(s:AcL):Prop where
 reach:rD (pT m true l) (Zk m d) s
 sim:Sim m l d steps s
 ok:∀st∈steps,Th m st
 size:steps.length+vI s<=36
 size2:steps.length+vI s<=vI (vC m)
theorem Tr.len(h:Tr m l d steps s):s.length=m.vars.length:=h.reach.le.1.trans bE
theorem Tr.le(h:Tr m l d steps s):ZD s (vC m):=h.reach.le.trans So
theorem Tr.store(h:Tr m l d steps s):fY m s=0:=RK Vq h.le
theorem Tr.filtR(h:Tr m l d steps s)(hk:vB m l d){i:Int}(hi:0<=i/\i<(m.cons.length:Int)):zhR m i s:=by
 refine zk8 (zmD ?_ hi);rw[zdT (by rw[hk.chk];decide),Cp];exact h.store
theorem za7(hr:Right m):vI (vC m)<=36:=by
 have h1:∀k,k<=m.vars.length->vI ((vC m).take k)<=k*6:=by
  intro k
  induction k with
  |zero=>intro _;exact BY _
  |succ k ih=>
   intro hk;have hx:k<(vC m).length:=by rw[wE];exact hk
   have:=ih (by omega)
   have h6:=N9 hr k;rw[yI _ hx]at h6
   have e1:vI ((vC m).take (k+1))=vI ((vC m).take k)+((vC m)[k]).length:=GT hx;omega
 have h2:=h1 _ (BY _);rw[AaP (by rw[wE];exact BY _)]at h2
 have:=hr.vars;omega
theorem Tr.begin(h:vB m l d):Tr m l d [] (Zk m d):=
 ⟨rD.refl _ _,.inr (Me h λ_ hx=>(by cases hx)).le,λ_ hx=>(by cases hx),by
  have:=(So (m:=m) (d:=d)).size;have:=za7 h.mc.right;show 0+_<=_
  omega,by
  have:=(So (m:=m) (d:=d)).size;show 0+_<=_
  omega⟩
theorem zhY{i:Int}(hat:Fr m i=0):yE m i∈m.cons:=by
 have h:=(lH hat).2;have hi:i.toNat<m.cons.length:=by omega
 rw[yE,yI _ hi];exact AS hi
theorem Bs(hp:0<s.length)(hf:zZ s=false):0<vI s:=by
 have:=sT.1 hf 0 hp;cases s with
 |nil=>cases hp
 |cons a s=>
  have:a≠[]:=this;have:0<a.length:=AbC.2 this;show 0<a.length+_
  omega
theorem GU:vI (fz s)=0:=by
 rw[fz,vI,List.map_replicate,List.sum_replicate_nat];rfl
theorem rD.none{ops:List Op}{s0 r t:AcL}(h:rD ops s0 r)(hf:zZ r=true)(hl:t.length=s0.length):rD ops s0 (fz t):=
 ⟨RF hl,λt h1 h2 h3=>by have:=(h.all t h1 h2 h3).fail h2;rw[hf]at this;cases this⟩
theorem Tr.empty(h:Tr m l d steps s)(hk:vB m l d){i:Int}(hat:Fr m i=0)(hf:zZ s=false)(hg:zZ (yS (yE m i) s)=true):
  Tr m l d (steps++[⟨1,i,cR m i s⟩]) (fz s)/\vI (fz s)<vI s:=by
 have hp:0<s.length:=by rw[h.len];exact hk.mc.pos
 have hpos:=Bs hp hf
 have hok:∀st∈steps++[⟨1,i,cR m i s⟩],Th m st:=λst hs=>by
  rcases TO.1 hs with hs|hs
  ·exact h.ok st hs
  ·rw[IN.1 hs];exact zgy hat h.len hf hg
 have hs:=h.sim.grow hk h.ok hok;refine⟨⟨?_,?_,hok,?_,?_⟩,by rw[GU];exact hpos⟩
 ·refine rD.none (r:=yS (yE m i) s) ?_ hg (h.len.trans bE.symm)
  exact h.reach.step (N2 hk.mc) bE (ou.2 (.inl ⟨rfl,_,zhY hat,rfl⟩))
 ·refine .inl ?_
  rcases hs with hs|hs
  ·exact hs
  ·cases hu:zZ (Oy m l d (steps++[⟨1,i,cR m i s⟩]))
   ·obtain⟨r,e,hr,hc⟩:=I1 hat h.len hf hg
    have hl:=zhX hk hok;have hst:=Br hk hok hu (c:=cR m i s) (by rw[mG];exact AaK _ (AaK _ (IN.2 rfl)))
    have hst:aL (Oy m l d (steps++[⟨1,i,cR m i s⟩])) ([]++r)=Oy m l d (steps++[⟨1,i,cR m i s⟩]):=by rw[<-e];exact hst
    have h0:=sT.1 hu 0 (by rw[hl];exact hk.mc.pos)
    obtain⟨n,hn⟩:=Acu _ h0;obtain⟨us,_,_,h3⟩:=I0 hr hk.mc.pos hc hs hu hl hst hn;cases h3
   ·rfl
 ·have:=h.size
  rw[It,GU,AaW];omega
 ·have:=h.size2
  rw[It,GU,AaW];omega
theorem Tr.con(h:Tr m l d steps s)(hk:vB m l d){i:Int}(hat:Fr m i=0)(hf:zZ s=false)(hg:zZ (yS (yE m i) s)=false):
  Tr m l d (steps++vY m i s (yS (yE m i) s) s.length) (yS (yE m i) s)/\(vY m i s (yS (yE m i) s) s.length=[]->yS (yE m i) s=s)/\(vY m i s (yS (yE m i) s) s.length≠[]->vI (yS (yE m i) s)<vI s):=by
 have hop:=(h.filtR hk (lH hat).2).op;have hle:=hop.le h.len;have hk':yS (yE m i) s=qO (mayB (yZ (yE m i)) s) s:=hop.some s h.len hf ((hop.nofail h.len).1 hg)
 have hgone:∀v n,n∈s.getD v []->n∉(yS (yE m i) s).getD v []->Sl m i s v n=true:=λv n h1 h2=>by
  rw[Sl,Aab,hf,kN.2 h1];cases e:fX ((yS (yE m i) s).getD v []) n
  ·rfl
  ·exact At (kN.1 e) h2
 have hok:∀st∈steps++vY m i s (yS (yE m i) s) s.length,Th m st:=λst hs=>by
  rcases TO.1 hs with hs|hs
  ·exact h.ok st hs
  ·obtain⟨v,n,h1,h2,h3,rfl⟩:=Un.1 hs
   exact zjb hat h.len h.le (hgone v n h2 h3)
 have hs:=h.sim.grow hk h.ok hok;have hsz:=AW (m:=m) (i:=i) hle s.length (BY _);rw[Aaj,AaP (by rw[hle.1];exact BY _)]at hsz
 refine⟨⟨?_,?_,hok,?_,?_⟩,λe=> ?_,λe=> ?_⟩
 ·exact h.reach.step (N2 hk.mc) bE (ou.2 (.inl ⟨rfl,_,zhY hat,rfl⟩))
 ·rcases hs with hs|hs
  ·exact .inl hs
  ·cases hu:zZ (Oy m l d (steps++vY m i s (yS (yE m i) s) s.length))
   ·refine .inr ?_
    have hl:=zhX hk hok
    have hall:∀(v:Nat) (n:Int),n∈(Oy m l d (steps++vY m i s (yS (yE m i) s) s.length)).getD v []->mayB (yZ (yE m i)) s v n=true:=λv n hn=>by
     have hns:=(hs.2 v).subset hn;cases hm:mayB (yZ (yE m i)) s v n
     ·have hn2:n∉(yS (yE m i) s).getD v []:=λe=>by
       rw[hk',sI]at e
       rw[(Aan.1 e).2]at hm;cases hm
      have hg:=hgone v n hns hn2;obtain⟨⟨hv,_⟩,r,e,hr,hc⟩:=FE hat h.len h.le hg
      have hst:=Br hk hok hu (c:=Sm m i s v n) (by
       rw[mG];refine AaK _ (AaK _ (Of.2 ⟨Vu m i s v n,Un.2 ⟨v,n,by rw[h.len];exact hv,hns,hn2,rfl⟩,rfl⟩)))
      have hst:aL (Oy m l d (steps++vY m i s (yS (yE m i) s) s.length)) ([⟨v,4,n⟩]++r)=Oy m l d (steps++vY m i s (yS (yE m i) s) s.length):=by rw[<-e];exact hst
      obtain⟨us,_,h2,h3⟩:=I0 hr hk.mc.pos hc hs hu hl hst hn;obtain⟨x,hx,hh⟩:=gD.1 h3;rw[IN.1 hx]at hh
      have h2':us.getD ((v:Int).toNat) 0=n:=by rw[Aab];exact h2
      simp[holdsL,h2']at hh
      exact At (by simpa using h2) hh
     ·rfl
    have h2:=Tb (f:=mayB (yZ (yE m i)) s) (g:=mayB (yZ (yE m i)) s) hs λv n hn e=>e
    rw[YR hall,<-hk']at h2
    exact h2
   ·exact .inl hu
 ·have:=h.size
  rw[It];omega
 ·have:=h.size2
  rw[It];omega
 ·have:∀(v:Nat) (n:Int),n∈s.getD v []->mayB (yZ (yE m i)) s v n=true:=λv n hn=>by
   cases hm:mayB (yZ (yE m i)) s v n
   ·have hn2:n∉(yS (yE m i) s).getD v []:=λe=>by
     rw[hk',sI]at e
     rw[(Aan.1 e).2]at hm;cases hm
    have hv:v<s.length:=Classical.byContradiction λh=>by rw[qJ (by omega)]at hn;cases hn
    have:=(Un (m:=m) (i:=i)).2 ⟨v,n,hv,hn,hn2,rfl⟩;rw[e]at this;cases this
   ·rfl
  rw[hk',YR this]
 ·have:0<(vY m i s (yS (yE m i) s) s.length).length:=AbC.2 e
  omega
theorem Tr.units(h:Tr m l d steps s)(hk:vB m l d):Tr m l d steps (sM m false l s)/\ZD (sM m false l s) s:=by
 have hr:=dY (cons:=false) hk.mc h.len
 have hsub:∀op∈pT m false l,op∈pT m true l:=λop ho=>by
  rcases ou.1 ho with⟨hc,_⟩|hc
  ·cases hc
  ·exact ou.2 (.inr hc)
 refine⟨⟨⟨hr.le.trans h.reach.le,λt h1 h2 h3=>hr.all t (h.reach.all t h1 h2 h3) h2 λop ho=>h3 op (hsub op ho)⟩,?_,h.ok,?_,?_⟩,hr.le⟩
 ·rcases h.sim with hs|hs
  ·exact .inl hs
  ·cases hu:zZ (Oy m l d steps)
   ·refine .inr (hr.all _ hs hu λop ho=> ?_)
    rcases ou.1 ho with⟨hc,_⟩|⟨c,hc,rfl⟩
    ·cases hc
    ·exact Br hk h.ok hu (AaB _ hc)
   ·exact .inl hu
 ·have:=h.size
  have:=hr.le.size;omega
 ·have:=h.size2
  have:=hr.le.size;omega
theorem Tr.done(h:Tr m l d steps s)(hk:vB m l d)(hf:pV m l d=true)(he:zZ s=true\/Om (pT m true l) s):zZ (Oy m l d steps)=true:=by
 have hs:zZ s=true:=by
  cases e:zZ s
  ·rcases he with he|he
   ·rw[e]at he;cases he
   ·have:=Sh hk.mc bE (h.reach.stop e he)
    rw[pV,this,e]at hf;cases hf
  ·rfl
 rcases h.sim with h1|h1
 ·exact h1
 ·exact h1.failed hs
end
def FF(d:AcM):zX:=⟨2,0,d.map bJ⟩
theorem Pe{m:zG}:∀(a b:AcS) (all:AcN),qF m all (a++b)=(qF m all a&&qF m (all++rE a) b)
 |[],b,all=>by
  show qF m all b=(qF m all []&&qF m (all++[]) b)
  rw[Aa2];rfl
 |x::a,b,all=>by
  rw[Abz,qF,Pe a b,qF,Bool.and_assoc,AaH];rfl
theorem Bt{m:zG}:∀(a:AcS) (all:AcN),(∀st∈a,Th m st)->qF m all a=true
 |[],all,_=>rfl
 |x::a,all,h=>by
  have hx:=h x (Ks ..);rw[qF,Bt a _ λst hs=>h st (On _ hs),dG,As hx.kind,hx.by'];rfl
structure zcK (m:zG)(l:AcN)(d:AcM)(t:AcS):Prop where
 right:qF m l t=true
 len:0<t.length/\t.length<=37
 len2:t.length<=vI (vC m)+1
 cl:∀st∈t,yK m.vars.length st.clause=0
 con:∀st∈t,st.kind=1->0<=st.con/\st.con<(m.cons.length:Int)
 last:(t.getD (t.length-1) ⟨0,0,[]⟩).clause=d.map bJ
theorem Tr.trace{m:zG}{l:AcN}{d:AcM}{steps:AcS}{s:AcL}(h:Tr m l d steps s)(hk:vB m l d)(hf:pV m l d=true)(he:zZ s=true\/Om (pT m true l) s):zcK m l d (steps++[FF d]):=by
 refine⟨?_,?_,?_,λst hs=> ?_,λst hs e=> ?_,?_⟩
 ·rw[Pe,Bt _ _ h.ok,AaV]
  show(dG m (l++rE steps) (FF d)&&true)=true
  rw[AbK];show(decide ((0:Int)=0)&&Tf m (l++rE steps) (d.map bJ))=true
  rw[Tf,<-zlb hk.ops];exact h.done hk hf he
 ·have:=h.size
  rw[It,AaW];omega
 ·have:=h.size2
  rw[It,AaW];omega
 ·rcases TO.1 hs with hs|hs
  ·exact(h.ok st hs).cl
  ·rw[IN.1 hs];exact za6 hk
 ·rcases TO.1 hs with hs|hs
  ·exact(h.ok st hs).con
  ·rw[IN.1 hs]at e;cases e
 ·rw[It,AaW,Nat.add_sub_cancel,yI _ (show steps.length<(steps++[FF d]).length by rw[It,AaW];omega),List.getElem_append_right (BY _)]
  simp[FF]
theorem zcK.steps{m:zG}{l:AcN}{d:AcM}{t:AcS}(h:zcK m l d t)(hk:vB m l d):ML m l t:=⟨hk.chk,hk.len,by have:=h.len;omega,hk.cl,h.cl,h.con⟩
theorem Vv{α:Type}{f:Nat->α->Int}:∀ {xs:List α} {i:Nat},(∀j,∀x∈xs,f j x=0)->wB f i xs=0
 |[],_,_=>rfl
 |x::xs,i,h=>by rw[wB,As (h i x (Ks ..)),Vv λj y hy=>h j y (On _ hy)]
abbrev Bu:Type:=AcS×AcL
noncomputable def Ti (m:zG)(i:Int)(p:Bu):Bu×Bool:=if zZ (yS (yE m i) p.2)=true then((p.1++[⟨1,i,cR m i p.2⟩],fz p.2),true)
 else((p.1++vY m i p.2 (yS (yE m i) p.2) p.2.length,yS (yE m i) p.2),!(vY m i p.2 (yS (yE m i) p.2) p.2.length).isEmpty)
noncomputable def bF (m:zG):Nat->Nat->Bu->Bool->Bu×Bool
 |0,_,p,c=>(p,c)
 |k+1,i,p,c=>if zZ p.2=true then(p,c)else bF m k (i+1) (Ti m i p).1 ((Ti m i p).2||c)
noncomputable def eI (m:zG)(l:AcN)(p:Bu):Bu×Bool:=
 (((bF m m.cons.length 0 p false).1.1,sM m false l (bF m m.cons.length 0 p false).1.2),if sM m false l (bF m m.cons.length 0 p false).1.2=(bF m m.cons.length 0 p false).1.2 then(bF m m.cons.length 0 p false).2 else true)
noncomputable def LD (m:zG)(l:AcN):Nat->Bu->Bu
 |0,p=>p
 |k+1,p=>if zZ p.2=true then p else if(eI m l p).2=true then LD m l k (eI m l p).1 else(eI m l p).1
noncomputable def ZB (m:zG)(l:AcN)(d:AcM):AcS:=(LD m l 37 ([],Zk m d)).1++[FF d]
section
variable {m:zG}{l:AcN}{d:AcM}
theorem zld(h:vB m l d){i:Nat}(hi:i<m.cons.length):Fr m i=0:=Q5 h.chk (by omega)
theorem GV{p:Bu}(h:Tr m l d p.1 p.2)(hk:vB m l d){i:Nat}(hi:i<m.cons.length)(hf:zZ p.2=false):
  Tr m l d (Ti m i p).1.1 (Ti m i p).1.2/\((Ti m i p).2=true->vI (Ti m i p).1.2<vI p.2)/\((Ti m i p).2=false->(Ti m i p).1.2=p.2/\yS (yE m i) p.2=p.2):=by
 have hat:=zld hk hi;cases hg:zZ (yS (yE m i) p.2)
 ·obtain⟨h1,h2,h3⟩:=h.con hk hat hf hg
  have e:Ti m i p=((p.1++vY m i p.2 (yS (yE m i) p.2) p.2.length,yS (yE m i) p.2),!(vY m i p.2 (yS (yE m i) p.2) p.2.length).isEmpty):=by
   rw[Ti,An (by rw[hg];decide)]
  rw[e];refine⟨h1,λx=>h3 λe=> ?_,λx=> ?_⟩
  ·rw[e]at x;cases x
  ·have:=h2 (List.isEmpty_iff.1 (by simpa using x))
   exact⟨this,this⟩
 ·obtain⟨h1,h2⟩:=h.empty hk hat hf hg
  have e:Ti m i p=((p.1++[⟨1,i,cR m i p.2⟩],fz p.2),true):=by rw[Ti,As hg]
  rw[e];exact⟨h1,λ_=>h2,λx=>by cases x⟩
theorem Jc(hk:vB m l d):∀(k i:Nat) (p:Bu) (c:Bool),i+k=m.cons.length->Tr m l d p.1 p.2->
  Tr m l d (bF m k i p c).1.1 (bF m k i p c).1.2/\vI (bF m k i p c).1.2<=vI p.2/\((bF m k i p c).2=true->c=true\/vI (bF m k i p c).1.2<vI p.2)/\
   ((bF m k i p c).2=false->c=false/\(bF m k i p c).1.2=p.2/\(zZ p.2=true\/∀j,i<=j->j<m.cons.length->yS (yE m j) p.2=p.2))
 |0,i,p,c,hi,h=>⟨h,BY _,λe=> .inl e,λe=>⟨e,rfl,.inr λj h1 h2=>by omega⟩⟩
 |k+1,i,p,c,hi,h=>by
  cases hf:zZ p.2
  ·obtain⟨h1,h2,h3⟩:=GV h hk (i:=i) (by omega) hf
   obtain⟨i1,i2,i3,i4⟩:=Jc hk k (i+1) (Ti m i p).1 ((Ti m i p).2||c) (by omega) h1
   rw[bF,An (by rw[hf];decide)]
   have hle:vI (Ti m i p).1.2<=vI p.2:=by
    cases e:(Ti m i p).2
    ·rw[(h3 e).1];exact BY _
    ·exact Nat.le_of_lt (h2 e)
   refine⟨i1,Aai i2 hle,λe=> ?_,λe=> ?_⟩
   ·rcases i3 e with e|e
    ·rcases AaJ _ _▸e with e|e
     ·exact .inr (Nat.lt_of_le_of_lt i2 (h2 e))
     ·exact .inl e
    ·exact .inr (Aax e hle)
   ·obtain⟨a,b,g⟩:=i4 e
    rw[Abd]at a
    obtain⟨e1,e2⟩:=h3 a.1;rw[e1]at b g
    refine⟨a.2,b,.inr λj q1 q2=> ?_⟩
    by_cases hj:j=i
    ·rw[hj];exact e2
    ·rcases g with g|g
     ·rw[hf]at g;cases g
     ·exact g j (by omega) q2
  ·rw[bF,As hf]
   exact⟨h,BY _,λe=> .inl e,λe=>⟨e,rfl,.inl rfl⟩⟩
theorem Mf{p:Bu}(h:Tr m l d p.1 p.2)(hk:vB m l d)(hf:zZ p.2=false):
  Tr m l d (eI m l p).1.1 (eI m l p).1.2/\((eI m l p).2=true->vI (eI m l p).1.2<vI p.2)/\((eI m l p).2=false->Om (pT m true l) (eI m l p).1.2):=by
 obtain⟨i1,i2,i3,i4⟩:=Jc hk m.cons.length 0 p false (Aas _) h;obtain⟨j1,j2⟩:=i1.units hk;rw[eI];generalize bF m m.cons.length 0 p false=r at i1 i2 i3 i4 j1 j2⊢
 refine⟨j1,λe=> ?_,λe=> ?_⟩
 ·by_cases hx:sM m false l r.1.2=r.1.2
  ·have e:r.2=true:=by simpa[hx]using e
   show vI (sM m false l r.1.2)<_
   rw[hx];rcases i3 e with e|e
   ·cases e
   ·exact e
  ·exact Aax (j2.size_lt hx) i2
 ·by_cases hx:sM m false l r.1.2=r.1.2
  ·have e:r.2=false:=by simpa[hx]using e
   obtain⟨_,b,g⟩:=i4 e;show Om _ (sM m false l r.1.2)
   rw[hx,b];rw[b]at hx
   rcases g with g|g
   ·rw[hf]at g;cases g
   intro op ho;rcases ou.1 ho with⟨_,c,hc,rfl⟩|⟨c,hc,rfl⟩
   ·obtain⟨j,hj,rfl⟩:=Aal hc
    have:=g j (AT _) hj
    rwa[yE,Aab,yI _ hj]at this
   ·have hr:=dY (cons:=false) hk.mc h.len
    rw[hx]at hr
    rcases hr.out with⟨_,h2⟩|h2
    ·exact h2 _ (ou.2 (.inr ⟨c,hc,rfl⟩))
    ·rw[h2,eF (by rw[h.len];exact hk.mc.pos)]at hf;cases hf
  ·simp[hx]at e
theorem MN(hk:vB m l d):∀(k:Nat) (p:Bu),Tr m l d p.1 p.2->vI p.2<=k->Tr m l d (LD m l (k+1) p).1 (LD m l (k+1) p).2/\(zZ (LD m l (k+1) p).2=true\/Om (pT m true l) (LD m l (k+1) p).2)
 |k,p,h,hs=>by
  cases hf:zZ p.2
  ·obtain⟨h1,h2,h3⟩:=Mf h hk hf
   rw[LD,An (by rw[hf];decide)]
   have hp:=Bs (by rw[h.len];exact hk.mc.pos) hf
   cases e:(eI m l p).2
   ·rw[An (by decide)];exact⟨h1,.inr (h3 e)⟩
   ·rw[As rfl]
    have:=h2 e
    match k,hs with
    |0,hs=>omega
    |k+1,hs=>exact MN hk k _ h1 (by omega)
  ·rw[LD,As hf];exact⟨h,.inl hf⟩
theorem Mg(hk:vB m l d)(hf:pV m l d=true):zcK m l d (ZB m l d):=by
 have hb:=Tr.begin hk;obtain⟨h1,h2⟩:=MN hk 36 ([],Zk m d) hb (by have:=hb.size;simpa using this)
 exact h1.trace hk hf h2
end
theorem zgz(w:World):Calls prog 248 #[.slice none 0 0,.int .i64 0] w λe w'=>e=.returned (.slice none 0 0)/\w=w':=by
 go_enter func248,ntmps248
 go_wp2
 all_goals go_ret
 all_goals exact⟨rfl,rfl⟩
set_option maxRecDepth 100000 in
theorem zgA(n:Nat)(h0:0<n)(h:n*24<=140737488355328)(w:World):Calls prog 248 #[.slice none 0 0,.int .i64 n] w λe w'=>∃cap cells,e=.returned (.slice (some ⟨w.heap.size,0,none⟩) 0 cap)/\w'.heap[w.heap.size]? =some (.cells cells 114 (0,0))/\cells.size=cap*3/\cap<=maxLen/\w'.heap.size=w.heap.size+1/\Below w.heap.size w w':=by
 go_enter func248,ntmps248
 have happ:=Lib.run_append_nil_zeros (P:=prog) w 52 3 52 114 t114 (.agg #[.int .i64 0,.int .i64 0,.int .i64 0]) .i64 .i64 underlying52 underlying3 (by kernel_rfl) (by kernel_rfl) n h0 (by decide) (by omega) (by show n*24<=_;omega)
 have hcap:=grownCap_le_maxLen w n 0 114 (by unfold maxLen;omega)
 have hge:=grownCap_ge w n 0 114;generalize grownCap w n 0 114=cap at happ hcap hge
 have hZs:(Builtin.zeroCells (Value.agg #[.int .i64 0,.int .i64 0,.int .i64 0]).cells n++Builtin.zeroCells (Value.agg #[.int .i64 0,.int .i64 0,.int .i64 0]).cells (cap-n)).size=cap*3:=by
  simp[size_zeroCells,Value.cells];omega
 generalize Builtin.zeroCells (Value.agg #[.int .i64 0,.int .i64 0,.int .i64 0]).cells n++Builtin.zeroCells (Value.agg #[.int .i64 0,.int .i64 0,.int .i64 0]).cells (cap-n)=Z at happ hZs
 go_wp2_with (at_builtin;refine Lib.wpList_append_run _ rfl _ _ _ _ rfl _ _ rfl rfl _ _ happ ?_)
 go_ret
 exact⟨cap,Z,rfl,heap_alloc_new w _,hZs,hcap,by simp,⟨rfl,rfl,rfl,by simp,λk hk=>Below.heap_alloc w _ k hk⟩⟩
theorem zgB(l:AcM):yQ sZ [.sl .lit l] [] (.own 3000) [(3000,.row 114 .lit l)]:=
 Yu l λok _=>by
  rw[Y0];intro b hb;refine zA (λe=> ?_) λe=>⟨?_,?_⟩
  ·rw[hb e];exact⟨rfl,rfl⟩
  ·refine yW (t:=.lit) ?_
   have:=(aU (t:=.lit) (MD ok)).1;show(0+l.length)*24<=_
   have h8:l.length*24<=140737488355328:=this;omega
  ·exact⟨rfl,rfl⟩
theorem EW(n:Nat)(hn:n*24<=140737488355328):yQ oK [.nil,dI n] [] (.own 3000) [(3000,.row 114 .lit [])]:=by
 intro w S vs pl hS hl hv hh _;have e0:vs.getD 0 undef=.slice none 0 0:=Rp.nil_inv (hv 0 _ rfl);have e1:vs.getD 1 undef=.int .i64 n:=(Rp.int_inv (hv 1 _ rfl)).1
 have ev:vs= #[.slice none 0 0,.int .i64 n]:=by
  have hl2:vs.size=2:=hl;apply Array.ext (by simp[hl2])
  intro i h1 h2;simp[Aae]at e0 e1
  match i,h1 with
  |0,h1=>rw[AaR h1]at e0;simpa using e0
  |1,h1=>rw[AaR h1]at e1;simpa using e1
  |i+2,h1=>exact At h1 (by omega)
 subst ev
 by_cases h0:n=0
 ·subst h0
  refine(zgz w).mono λe w' ⟨he,hw⟩=> ?_
  subst he hw;exact Di (t:=.lit) (xs:=[]) hS (λpl'=>⟨by show 0*24<=lim;exact Aat rfl,[],rfl,⟨rfl,.inl ⟨rfl,rfl⟩⟩,λcs h=>(by cases h),λi x cs h=>(by cases h)⟩) (λb h=>by cases h) (Below.refl _ _)
 ·refine(zgA n (by omega) hn w).mono λe w' ⟨cap,cells,he,h1,h2,h3,h4,h5⟩=> ?_
  subst he;refine Di (t:=.lit) (xs:=[]) hS (λpl'=>⟨by show 0*24<=lim;exact Aat rfl,[],rfl,⟨rfl,.inr ⟨w.heap.size,cap,cells,rfl,AT _,h1,AT _,h3,h2,rfl⟩⟩,λcs h=>(by cases h),λi x cs h=>(by cases h)⟩) (λb h=> ?_) h5
  have:w.heap.size=b:=by injection h
  omega
theorem I3{ls:AcN}(hl:ls.length<=1000)(hr:∀l∈ls,l.length<=1000000):tJ sN [.sl (.list .lit) ls] (.sl .lit ls.flatten):=
 ZP ls λok=>by
  have flat:∀k,((ls.take k).flatten).length<=k*1000000:=λk=>by
   have h1:∀xs:AcN,(∀l∈xs,l.length<=1000000)->xs.flatten.length<=xs.length*1000000:=λxs=>by
    induction xs with
    |nil=>exact λ_=>BY _
    |cons a xs ih=>
     intro h;have h1:=h a (Ks ..);have h2:=ih λl hl=>h l (On _ hl)
     rw[Aa6,It,Aad];omega
   have:=h1 (ls.take k) λl hl=>hr l (AbD hl)
   rw[Aaf]at this
   exact Aai this (Abf _ (Nat.min_le_left ..))
  have ftake:∀(k:Nat) (h:k<ls.length),(ls.take (k+1)).flatten=(ls.take k).flatten++ls[k]:=λk h=>by
   rw[<-Aar h,List.flatten_append];simp
  rw[Yv];refine up (I:=λn v (a:Int)=>sH ls _ n a v) 0 ls.length rfl (AT _) (by omega) (λk a=>a=(((ls.take k).flatten).length:Int)) rfl λn k a _ hk ha hn=> ?_
  subst ha;rw[Zb];have hf:=flat k
  by_cases h:k<ls.length
  ·have hm:=hr _ (AS h)
   rw[zY h,zT (t:=.list .lit) h,wL (by omega) (by omega)]
   refine⟨zE h,df (by omega) (hn h _ ?_)⟩
   rw[ftake k h,It];omega
  ·have hk':k=ls.length:=by omega
   subst hk';rw[zS];refine⟨[],EW _ (by omega),?_⟩
   refine up (I:=λn v (a:AcM)=>sG ls _ n v a) 0 ls.length rfl (AT _) (by omega) (λk a=>a=(ls.take k).flatten) rfl λn k a _ hk ha hn=> ?_
   subst ha;rw[Za];have hf:=flat k
   by_cases h:k<ls.length
   ·have hm:=hr _ (AS h)
    rw[zY h,zT (t:=.list .lit) h];refine⟨zE h,yW (t:=.lit) ?_,hn h _ (ftake k h).symm⟩;show(_+_)*24<=_
    omega
   ·have hk':k=ls.length:=by omega
    subst hk';rw[zS,Aaj]
theorem I4{m:zG}(hr:Right m)(d:AcM):tJ W9 [dM m,.sl .lit d] (dS (Zk m d)):=
 AV m d λok=>by
  have hl:=(aU (t:=.lit) (MD (okR ok))).1;have hl:d.length*24<=140737488355328:=hl;rw[zcJ];refine zI (Dh hr) ?_;refine up (I:=λn v a=>Um d _ n a v) 0 d.length rfl (AT _) (by omega) (λk a=>a=(d.take k).foldl zdV (vC m)) rfl λn k a _ hk ha hn=> ?_
  subst ha;rw[EV]
  by_cases h:k<d.length
  ·rw[zY h,zT (t:=.lit) h]
   refine⟨zE h,zI (zf5 _ _) (hn h _ ?_)⟩;rw[<-Aar h,Abj];rfl
  ·have hk':k=d.length:=by omega
   subst hk';rw[zS,Aaj];rfl
theorem Mh{m:zG}{l:AcN}{d:AcM}(hl:yX m l)(hll:l.length<=1000000000):tJ ZM [dM m,.sl (.list .lit) l,.sl .lit d] (dB (pV m l d)):=
 EU m l d λok=>by
  rw[Bq];exact zI (I4 hl.right d) (zI (Te hl (zla hl.right) hll) (zI (vU _) rfl))
theorem PE{d:AcM}(hd:d.length<=1000000)(h:∀x∈d,-1000000<=x.n/\x.n<=1000000):tJ bS [.sl .lit d] (.sl .lit (d.map bJ)):=
 GS d λok=>by
  rw[ET];refine up (I:=λn v a=>Yn d _ n v a) 0 d.length rfl (AT _) (by omega) (λk a=>a=(d.take k).map bJ) rfl λn k a _ hk ha hn=> ?_
  subst ha;rw[Jb]
  by_cases hk2:k<d.length
  ·rw[zY hk2,zT (t:=.lit) hk2]
   refine⟨zE hk2,zI (Em _ (h _ (AS hk2))) ⟨yW (t:=.lit) ?_,hn hk2 _ ?_⟩⟩
   ·rw[Aag,Aaf];show(_+1)*24<=_;omega
   ·rw[<-Aar hk2,AaL];rfl
  ·have hk':k=d.length:=by omega
   subst hk';rw[zS,Aaj]
theorem EX{m:zG}{l:AcN}{d:AcM}(hl:yX m l)(hll:l.length<=1000000000)(hd:d.length<=1000000):tJ Xc [dM m,.sl (.list .lit) l,.sl .lit d] (.tup [.sl .lit (if pV m l d=true then fewest m l d else[]),dB (pV m l d)]):=
 GR m l d λok=>by
  rw[ER];refine zI (Mh hl hll) (zA (λe=> ?_) λe=> ?_)
  ·have e:pV m l d=false:=by simpa using e
   rw[e];rfl
  have e:pV m l d=true:=by simpa using e
  rw[As e,e];refine⟨d,zgB d,?_⟩;rw[fewest,zcH]
  suffices H:∀(k:Nat) (l':AcM) (i:Nat),l'.length<=k+i->i<=l'.length->l'.length<=1000000->∀r,r=Q9 (pV m l) k l' i->dK m l (λd=>d=.tup [.sl .lit r,dB true]) (k+1) l' (i:Int)from⟨_,H d.length d 0 (BY _) (AT _) hd _ rfl⟩
  intro k
  induction k with
  |zero=>
   intro l' i h1 h2 h3 r hr;have hi:i=l'.length:=by omega
   subst hi;rw[Tg,zS,hr,Q9]
  |succ k ih=>
   intro l' i h1 h2 h3 r hr;rw[Tg]
   by_cases h:i<l'.length
   ·have hw:yF ((i:Int)+1)=((i+1:Nat):Int):=kI (by omega)
    rw[Q9,As h]at hr
    have hel:(l'.eraseIdx i).length=l'.length-1:=AcF h;rw[zY h,hw,Aab,Aab,Aab,Aa4,Aaj]
    have hcat:=I3 (ls:=[l'.take i,l'.drop (i+1)]) (by show 2<=1000;decide) λx hx=>by
     rcases OF.1 hx with rfl|hx
     ·rw[Aaf];omega
     ·rw[IN.1 hx,Aa1];omega
    have he:[l'.take i,l'.drop (i+1)].flatten=l'.eraseIdx i:=by rw[List.eraseIdx_eq_take_drop_succ];simp
    rw[he]at hcat
    refine⟨Dj (Aav _) (by omega) (by omega),Dj (by omega) (by omega) (Aav _),zI hcat ?_⟩
    refine zI (Mh hl hll) (zA (λe=> ?_) λe=> ?_)
    ·rw[As e]at hr
     exact ih _ i (by omega) (by omega) (by omega) r hr
    ·rw[An (by rw[e];decide)]at hr
     exact ih l' (i+1) (by omega) (by omega) h3 r hr
   ·have hi:i=l'.length:=by omega
    subst hi;rw[Q9,An (Nat.lt_irrefl _)]at hr
    rw[zS,hr]
abbrev hpT(m:zG)(l:AcN)(p:Bu):List (Nat×yN):=[(1000,.cells [.sl .var m.vars,.sl .con m.cons,dI m.goal,dI m.var,.sl (.list .lit) l,dS p.2,.own 2000]),(2000,.row 129 .step p.1)]
theorem zoD{b:Bool}:zJ (!b) (D.bool false=dB b) (D.bool true=dB b):=by cases b<;>rfl
theorem zjc:Xk wH:=λargs w=>call181 args w
theorem zjd(s t:AcL):tJ yP [dS s,dS t,.clo wH none []] (dB (decide (s=t))):=
 VA.clo (pre:=[dS s,dS t]) (post:=[]) (rs:=some [.bool])<|slices_EqualFunc_api_Store_api_Store_int_int_sat s t wH [] λok=>by
  rw[qN];refine zA (λe=> ?_) λe=> ?_
  ·have e:s.length≠t.length:=by simp at e;omega
   rw[Aah λh=>e (by rw[h])]
  have e:s.length=t.length:=by simp at e;omega
  have hz:=Nr s t e;refine Hv (I:=λn v=>wC s t wH [] _ n v) (s.zip t) (λx=> !decide (x.1=x.2)) ?_ (X:=D.bool false=dB (decide (s=t))) (Y:=D.bool true=dB (decide (s=t))) ?_ (λn k h hX hn=> ?_) λn hY=> ?_
  ·have:=cW (MD ok)
   rw[AaC];have:s.length<=9223372036854775807:=this;omega
  ·rw[hz];exact zoD
  ·rw[AaC]at h
   have h1:k<s.length:=by omega
   have h2:k<t.length:=by omega
   rw[wU,zY h1,zT (t:=.list .int) h1,zT (t:=.list .int) h2];refine⟨zE h1,zE h2,zjc,zI (Zt _ _) ?_⟩;rw[AaM]at hX hn
   exact zA (λe=>hX e) λe=>hn e
  ·have hl:(s.zip t).length=s.length:=by rw[AaC];omega
   rw[hl,wU,zS];exact hY
theorem zle{m:zG}{i:Int}{s x:AcL}{v k:Nat}(h:k<(s.getD v []).length):(((s.getD v []).take (k+1)).filter λn=> !fX (x.getD v []) n).map (Vu m i s v)=(((s.getD v []).take k).filter λn=> !fX (x.getD v []) n).map (Vu m i s v)++if fX (x.getD v []) (s.getD v [])[k]=true then[]else[Vu m i s v (s.getD v [])[k]]:=by
 rw[oF _ h];cases fX (x.getD v []) (s.getD v [])[k]<;>simp
theorem Jd{α:Type}{a b:List α}{x:α}:(!(a++(b++[x])).isEmpty)=true:=by
 cases a<;>cases b<;>rfl
theorem LE{m:zG}{l:AcN}{d:AcM}{p:Bu}(h:Tr m l d p.1 p.2)(hk:vB m l d){i:Nat}(hi:i<m.cons.length)(hf:zZ p.2=false):
  yQ fQ [AcY,dI i] (hpT m l p) (dB (Ti m i p).2) (hpT m l (Ti m i p).1):=by
 obtain⟨st,s⟩:=p;have h:Tr m l d st s:=h;have hf:zZ s=false:=hf;refine Md m.vars m.cons m.goal m.var l s st i λok ok2=> ?_
 have hat:=zld hk hi;have hr:=h.filtR hk (i:=(i:Int)) (by omega)
 have hs:=XI (pR hr.chk) hr.st;have hl:=hr.len;have hsz:=h.size;have hsl:s.length<=6:=by rw[hl];exact hk.mc.right.vars
 rw[LC];have hc:zW .con m.cons (i:Int).toNat=yE m i:=by rw[yE,zT hi,Aab,yI _ hi]
 rw[hc];refine⟨zE hi,zI (Z5 (c:=yE m i) (by rw[hl];exact hr.right) (by rw[hl];exact hs)) (zI (vU _) (zA (λe=> ?_) λe=> ?_))⟩
 ·have e:zZ (yS (yE m i) s)=true:=e
  refine Pk (t:=.list .lit) (u:=.bool) (GQ hr) ⟨yW (t:=.step) ?_,zI (Zg _) ?_⟩
  ·show(st.length+1)*40<=_;omega
  ·rw[Ti,As e];exact⟨rfl,rfl⟩
 ·have e:zZ (yS (yE m i) s)=false:=e
  have hcon:Ti m i (st,s)=((st++vY m i s (yS (yE m i) s) s.length,yS (yE m i) s),!(vY m i s (yS (yE m i) s) s.length).isEmpty):=by
   rw[Ti,An (by rw[e];decide)]
  rw[hcon];have hxl:(yS (yE m i) s).length=s.length:=(hr.op.len hl).trans hl.symm;generalize yS (yE m i) s=x at e hxl hcon⊢
  have hrow:∀k,(s.getD k []).length<=6:=λk=>Aai (h.le.2 k).length_le (N9 hk.mc.right k)
  have hlen:∀k,(vY m i s x k).length<=k*6:=λk=>by
   induction k with
   |zero=>exact BY _
   |succ k ih=>
    have h1:=AaZ (λn=> !fX (x.getD k []) n) (s.getD k [])
    have h2:=hrow k;rw[SS,It,I2,Aag];omega
  refine up (I:=λn v (a:Bool×AcS)=>lJ s i _ x n a.1 v m.vars m.cons m.goal m.var l s a.2) (a:=(false,st)) 0 s.length rfl (AT _) (by omega) (λk a=>a=(!(vY m i s x k).isEmpty,st++vY m i s x k)) (by show _=(!true,st++[]);rw[Aa2];rfl) λn k a _ hkl ha hn=> ?_
  subst ha;show lJ _ _ _ _ _ (!(vY m i s x k).isEmpty) _ _ _ _ _ _ _ (st++vY m i s x k)
  rw[Pb]
  by_cases hks:k<s.length
  ·have hkx:k<x.length:=by omega
   rw[zY hks];refine⟨zE hks,?_⟩;have hg:s.getD k []=s[k]:=yI _ hks;have hgx:x.getD k []=x[k]:=yI _ hkx;have hrk:=hrow k
   refine up (I:=λn v (a:Bool×AcS)=>oD s i _ x _ k n a.1 v m.vars m.cons m.goal m.var l s a.2) (a:=(!(vY m i s x k).isEmpty,st++vY m i s x k)) 0 (s.getD k []).length rfl (AT _) (by omega)
    (λj a=>a=(!(vY m i s x k++(((s.getD k []).take j).filter λn=> !fX (x.getD k []) n).map (Vu m i s k)).isEmpty,st++(vY m i s x k++(((s.getD k []).take j).filter λn=> !fX (x.getD k []) n).map (Vu m i s k)))) (by simp) λn2 j a _ hjl ha hn2=> ?_
   subst ha;show oD _ _ _ _ _ _ _ (!(vY m i s x k++_).isEmpty) _ _ _ _ _ _ _ (st++(vY m i s x k++_))
   rw[Pa,zT (t:=.list .int) hks,zT (t:=.list .int) hkx,<-hg,<-hgx]
   by_cases hj:j<(s.getD k []).length
   ·rw[zY hj,zT (t:=.int) hj]
    refine⟨zE hj,zE hkx,zI (sB (a:=(s.getD k [])[j])) ?_⟩;have ht:=zle (m:=m) (i:=(i:Int)) (x:=x) hj;show zJ (fX (x.getD k []) (s.getD k [])[j]) _ _
    refine zA (λf=> ?_) λf=> ?_
    ·rw[As f,Aa2]at ht
     exact hn2 hj (_,_) (by rw[ht];rfl)
    ·rw[An (by rw[f];decide)]at ht
     refine Pk (t:=.list .lit) (u:=.bool) (EQ hr (by omega)) ⟨yW (t:=.step) ?_,?_⟩
     ·have h1:=hlen k
      have h2:=AaZ (λn=> !fX (x.getD k []) n) ((s.getD k []).take j)
      rw[Aaf]at h2
      rw[It,It,Aag];show(_+1)*40<=_
      omega
     ·refine hn2 hj (_,_) ?_
      rw[ht,Jd,AaH st,AaH (vY m i s x k)];rfl
   ·have hj':j=(s.getD k []).length:=by omega
    subst hj';rw[zS,Aaj];exact hn hks (_,_) (by rw[SS];rfl)
  ·have hk':k=s.length:=by omega
   subst hk';rw[zS];exact⟨rfl,rfl⟩
theorem LF{m:zG}{l:AcN}{d:AcM}(hk:vB m l d)(hb:vI (Zk m d)<=36):
  yQ fK [AcY] (hpT m l ([],Zk m d)) (.tup []) (hpT m l (LD m l 37 ([],Zk m d))):=by
 refine Mc m.vars m.cons m.goal m.var l (Zk m d) [] λok ok2=> ?_
 rw[LB];have hll:=hk.len;have hcl:=hk.mc.right.cons
 suffices H:∀(k:Nat) (p:Bu),Tr m l d p.1 p.2->vI p.2<=k->∀q,q=LD m l (k+1) p->uF (λd h1=>d=D.tup []/\h1=hpT m l q) (k+2) true m.vars m.cons m.goal m.var l p.2 p.1 from⟨_,H 36 _ (Tr.begin hk) hb _ rfl⟩
 intro k
 induction k using Nat.strongRecOn with
 |ind k ih=>
  intro p h hsz q hq
  have out:∀(n:Nat) (p:Bu),uF (λd h1=>d=D.tup []/\h1=hpT m l p) (n+1) false m.vars m.cons m.goal m.var l p.2 p.1:=λn p=>by
   rw[XQ];exact⟨rfl,rfl⟩
  rw[XQ];refine zI (vU _) (zA (λf=> ?_) λf=> ?_)
  ·have f:zZ p.2=false:=by simpa using f
   rw[LD,An (by rw[f];decide)]at hq
   obtain⟨j1,j2,j3⟩:=Mf h hk f;have hpos:=Bs (by rw[h.len];exact hk.mc.pos) f
   have fin:∀(r:Bu×Bool),Tr m l d r.1.1 r.1.2->r=bF m m.cons.length 0 p false->
     yM dP [.agg [.sl .var m.vars,.sl .con m.cons,dI m.goal,dI m.var],dS r.1.2,dB false,.sl (.list .lit) l] (.list (.list .int)) λf23=>
      yM yP [dS f23,dS r.1.2,.clo wH none []] .bool λs24=>
       zJ (!s24) (uF (λd h1=>d=D.tup []/\h1=hpT m l q) (k+1) true m.vars m.cons m.goal m.var l f23 r.1.1)
        (uF (λd h1=>d=D.tup []/\h1=hpT m l q) (k+1) r.2 m.vars m.cons m.goal m.var l f23 r.1.1):=λr hr e=>by
    have hrd:eI m l p=((r.1.1,sM m false l r.1.2),if sM m false l r.1.2=r.1.2 then r.2 else true):=by rw[eI,<-e]
    refine zI (Te hk.mc (XI hk.mc.right hr.store) (by omega)) (zI (zjd _ _) ?_)
    have nxt:(eI m l p).2=true->uF (λd h1=>d=D.tup []/\h1=hpT m l q) (k+1) true m.vars m.cons m.goal m.var l (sM m false l r.1.2) r.1.1:=λe2=>by
     rw[As e2]at hq
     have:=j2 e2
     match k,ih,hsz,hq with
     |0,ih,hsz,hq=>omega
     |k+1,ih,hsz,hq=>
      have:=ih k (by omega) (eI m l p).1 j1 (by omega) q hq
      rw[hrd]at this
      exact this
    refine zA (λg=> ?_) λg=> ?_
    ·have g:sM m false l r.1.2≠r.1.2:=by simpa using g
     exact nxt (by rw[hrd];exact An g)
    ·have g:sM m false l r.1.2=r.1.2:=by simpa using g
     have g2:(eI m l p).2=r.2:=by rw[hrd];exact As g
     cases e2:r.2
     ·rw[g2,e2,An (by decide)]at hq
      have:=out k q;rw[hq,hrd]at this
      rw[hq,hrd];exact this
     ·exact nxt (g2.trans e2)
   suffices H2:∀(j i:Nat) (p2:Bu) (c:Bool),i+j=m.cons.length->Tr m l d p2.1 p2.2->bF m j i p2 c=bF m m.cons.length 0 p false->lI (λd h1=>d=D.tup []/\h1=hpT m l q) (k+1) (j+1) c (i:Int) m.vars m.cons m.goal m.var l p2.2 p2.1 from⟨_,H2 m.cons.length 0 p false (Aas _) h rfl⟩
   intro j
   induction j with
   |zero=>
    intro i p2 c hij h2 he;have hi:i=m.cons.length:=by omega
    subst hi;rw[XP,zS];exact fin (p2,c) h2 he
   |succ j ihj=>
    intro i p2 c hij h2 he;have hi:i<m.cons.length:=by omega
    rw[XP,zY hi];refine zI (vU _) (zA (λg=> ?_) λg=> ?_)
    ·have g:zZ p2.2=false:=by simpa using g
     rw[bF,An (by rw[g];decide)]at he
     obtain⟨t1,t2,t3⟩:=GV h2 hk hi g;refine⟨_,_,_,LE h2 hk hi g,?_⟩;have hw:yF ((i:Int)+1)=((i+1:Nat):Int):=kI (by omega)
     rw[hw];refine zA (λe=> ?_) λe=> ?_
     ·rw[e]at he;exact ihj (i+1) _ true (by omega) t1 he
     ·rw[e]at he;exact ihj (i+1) _ c (by omega) t1 he
    ·have g:zZ p2.2=true:=by simpa using g
     rw[bF,As g]at he
     exact fin (p2,c) h2 he
  ·have f:zZ p.2=true:=by simpa using f
   rw[LD,As f]at hq
   rw[hq];exact⟨rfl,rfl⟩
theorem Bv{m:zG}{l:AcN}{d:AcM}(hk:vB m l d):tJ WB [dM m,.sl (.list .lit) l,.sl .lit d] (.sl .step (ZB m l d)):=
 ES m l d λok=>by
  rw[Bp];have hb:=Tr.begin hk;have hsz:vI (Zk m d)<=36:=by have:=hb.size;simpa using this
  have hr:(LD m l 37 ([],Zk m d)).1.length+vI (LD m l 37 ([],Zk m d)).2<=36:=(MN hk 36 ([],Zk m d) hb hsz).1.size;refine zI (I4 hk.mc.right d) ⟨_,_,LF hk hsz,zI (PE (by have:=hk.dl;omega) hk.near) ⟨yW (t:=.step) ?_,rfl⟩⟩
  show(_+1)*40<=_
  omega
def Vw(l' l:AcN):Prop:=∀c∈l,∃c'∈l',∀vs:AcK,oo c' vs=true->oo c vs=true
theorem Vw.sub{l' l:AcN}(h:∀c∈l,c∈l'):Vw l' l:=λc hc=>⟨c,h c hc,λ_ h=>h⟩
theorem Vw.refl(l:AcN):Vw l l:=.sub λ_ h=>h
theorem Vw.trans{a b c:AcN}(h:Vw a b)(h':Vw b c):Vw a c:=λx hx=>by
 obtain⟨y,hy,e⟩:=h' x hx;obtain⟨z,hz,e'⟩:=h y hy;exact⟨z,hz,λvs h=>e vs (e' vs h)⟩
theorem Vw.app{a b a' b':AcN}(h:Vw a b)(h':Vw a' b'):Vw (a++a') (b++b'):=λx hx=>by
 rcases TO.1 hx with hx|hx
 ·obtain⟨y,hy,e⟩:=h x hx;exact⟨y,AaB _ hy,e⟩
 ·obtain⟨y,hy,e⟩:=h' x hx;exact⟨y,AaK _ hy,e⟩
theorem zeD{nv:Nat}{op op':Op}{Q Q':AcK->Bool}(h:Vl nv op Q)(h':Vl nv op' Q')(hq:∀vs,Q' vs=true->Q vs=true){s:AcL}(hl:s.length=nv)(hp:0<s.length)(hf:zZ s=false)(hs:op' s=s):op s=s:=by
 have hm:∀(v:Nat) (n:Int),n∈s.getD v []->∃us,Tw us s/\us.getD v 0=n/\Q us=true:=λv n hn=>by
  obtain⟨us,a,b,c⟩:=h'.congr (Q':=Q') hl (vs:=[]) hs hf v n hn;exact⟨us,a,b,hq us c⟩
 have hex:∃vs,Tw vs s/\Q vs=true:=by
  have h0:=sT.1 hf 0 hp;obtain⟨n,hn⟩:=Acu _ h0;obtain⟨us,a,_,c⟩:=hm 0 n hn;exact⟨us,a,c⟩
 rw[h.some s hl hf hex];exact YR λv n hn=>mE.2 (hm v n hn)
section
variable {m:zG}{l l':AcN}{cons:Bool}{s t:AcL}
theorem zeE(hl:yX m l)(hl':yX m l')(he:Vw l' l)(hs:s.length=m.vars.length)(hf:zZ s=false)(h:Om (pT m cons l') s):Om (pT m cons l) s:=λop ho=>by
 have hp:=hl.pos;rcases ou.1 ho with⟨hc,c,hc2,rfl⟩|⟨c,hc,rfl⟩
 ·exact h _ (ou.2 (.inl ⟨hc,c,hc2,rfl⟩))
 ·obtain⟨c',hc',e⟩:=he c hc
  exact zeD (YC hl hc) (YC hl' hc') e hs (by omega) hf (h _ (ou.2 (.inr ⟨c',hc',rfl⟩)))
theorem Je(hl:yX m l)(hs:s.length=m.vars.length):ZD (sM m cons l s) s:=(dY hl hs).le
theorem zcL(hl:yX m l)(hs:s.length=m.vars.length):(sM m cons l s).length=m.vars.length:=(Je hl hs).1.trans hs
theorem RQ(hl:yX m l)(hs:s.length=m.vars.length)(hf:zZ (sM m cons l s)=false):Om (pT m cons l) (sM m cons l s):=by
 rcases(dY (cons:=cons) hl hs).out with⟨_,h⟩|h
 ·exact h
 ·rw[h,eF (by have:=hl.pos;omega)]at hf;cases hf
theorem zcM(hl:yX m l)(hs:s.length=m.vars.length)(ht:ZD t s)(hf:zZ t=false)(h:Om (pT m cons l) t):ZD t (sM m cons l s):=(dY hl hs).all t ht hf h
theorem zeF(hl:yX m l)(hs:s.length=m.vars.length)(hf:zZ (sM m cons l s)=true):sM m cons l s=fz s:=by
 rcases(dY (cons:=cons) hl hs).out with⟨h,_⟩|h
 ·rw[h]at hf;cases hf
 ·exact h
theorem zmJ(hl:yX m l)(hl':yX m l')(he:Vw l' l)(hs:s.length=m.vars.length)(h:zZ (sM m cons l s)=true):zZ (sM m cons l' s)=true:=by
 cases hf:zZ (sM m cons l' s)
 ·have hs':=zcL (cons:=cons) hl' hs
  have:=zcM hl hs (Je hl' hs) hf (zeE hl hl' he hs' hf (RQ hl' hs hf));rw[this.fail hf]at h;cases h
 ·rfl
theorem zlf{f:Nat->Int->Bool}(hl:yX m l)(hs:s.length=m.vars.length)(hf:zZ (sM m cons l s)=false):sM m cons l (qO f (sM m cons l s))=sM m cons l (qO f s):=by
 have hr:=zcL (cons:=cons) hl hs;have k1:(qO f (sM m cons l s)).length=m.vars.length:=uL.trans hr;have k2:(qO f s).length=m.vars.length:=uL.trans hs;refine Sh hl k1 ⟨?_,λt ht hft hst=> ?_,?_⟩
 ·cases hq:zZ (sM m cons l (qO f s))
  ·have h1:=Je (cons:=cons) hl k2
   have h2:=zcM hl hs (h1.trans Ta) hq (RQ hl k2 hq);refine⟨h2.1.trans (hr.trans k1.symm),λv=> ?_⟩
   rw[sI];have h3:=h1.2 v;rw[sI]at h3
   have h4:(sM m cons l (qO f s)).getD v []=((sM m cons l (qO f s)).getD v []).filter (f v):=(Acs.2 λn hn=>(Aan.1 (h3.subset hn)).2).symm
   rw[h4];exact(h2.2 v).filter _
  ·rw[zeF hl k2 hq]
   exact RF (k2.trans k1.symm)
 ·refine zcM hl k2 (ht.trans ?_) hft hst
  exact Tb (Je hl hs) λv n _ h=>h
 ·cases hq:zZ (sM m cons l (qO f s))
  ·exact .inl ⟨rfl,RQ hl k2 hq⟩
  ·refine .inr ?_
   rw[zeF hl k2 hq];exact Ir (k2.trans k1.symm)
theorem zgC{c:AcM}(hl:yX m l)(hl':yX m l')(he:Vw l' l)(h:Tf m l c=true):Tf m l' c=true:=
 zmJ hl hl' he (Ul.1.trans wE) h
theorem za8{st:zX}(hl:yX m l)(hl':yX m l')(he:Vw l' l)(h:dG m l st=true):dG m l' st=true:=by
 unfold dG at h⊢
 by_cases h1:st.kind=1
 ·rw[As h1]at h⊢;exact h
 ·rw[An h1]at h⊢
  by_cases h2:st.kind=2
  ·rw[As h2,If]at h⊢
   exact⟨h.1,zgC hl hl' he h.2⟩
  ·rw[An h2]at h;cases h
end
theorem Bw{m:zG}(hm:xE m=0):∀ {t:AcS} {l l':AcN},(∀c∈l,yK m.vars.length c=0)->(∀c∈l',yK m.vars.length c=0)->(∀st∈t,yK m.vars.length st.clause=0)->Vw l' l->qF m l t=true->qF m l' t=true
 |[],l,l',_,_,_,_,_=>rfl
 |st::t,l,l',h1,h2,h3,he,h=>by
  have hst:=h3 st (Ks ..);rw[qF,If]at h⊢
  have k1:∀ {a:AcN},(∀c∈a,yK m.vars.length c=0)->∀c∈a++[st.clause],yK m.vars.length c=0:=λha c hc=>by
   rcases TO.1 hc with hc|hc
   ·exact ha c hc
   ·rw[IN.1 hc];exact hst
  exact⟨za8 (kR hm h1) (kR hm h2) he h.1,Bw hm (k1 h1) (k1 h2) (λx hx=>h3 x (On _ hx)) (he.app (.refl _)) h.2⟩
abbrev RR(s:AcL):Int:=MW (λr=>decide (1<r.length)) s 0
def RS(s:AcL)(v n:Int):AcL:=qO (λw k=> !decide ((w:Int)=v)||decide (k=n)) s
def dN(s:AcL):AcK:=s.map λr=>r.getD 0 0
noncomputable def uV (m:zG)(l:AcN)(d:AcM):AcL:=sM m true l (Zk m d)
noncomputable def RT (m:zG)(l:AcN):Nat->AcL->AcM->AcM×Bool×AcK
 |0,s,d=>(d,false,[])
 |k+1,s,d=>if zZ s=true then(d,false,[])else if RR s<0 then([],true,dN s)
   else RT m l k (sM m true l (RS s (RR s) ((s.getD (RR s).toNat []).getD 0 0))) (d++[⟨RR s,3,(s.getD (RR s).toNat []).getD 0 0⟩])
noncomputable def kD (m:zG)(l:AcN):AcM×Bool×AcK:=RT m l (m.vars.length+1) (sM m true l (vC m)) []
theorem za9{α:Type}{p:α->Bool}:∀(xs:List α) (i:Nat),(MW p xs (i:Int)= -1/\∀x∈xs,p x=false)\/∃k,k<xs.length/\MW p xs (i:Int)=((i+k:Nat):Int)/\(∀h:k<xs.length,p xs[k]=true)/\∀j (hj:j<xs.length),j<k->p xs[j]=false
 |[],i=> .inl ⟨rfl,λx hx=>by cases hx⟩
 |x::xs,i=>by
  rw[MW];cases hx:p x
  ·rw[Vs]
   rcases za9 xs (i+1)with⟨h1,h2⟩|⟨k,hk,h1,h2,h3⟩
   ·refine .inl ⟨h1,λy hy=> ?_⟩
    rcases OF.1 hy with rfl|hy
    ·exact hx
    ·exact h2 y hy
   ·refine .inr ⟨k+1,by simp;omega,by rw[show((i:Int)+1)=((i+1:Nat):Int) by omega,h1];omega,λh=>by simpa using h2 hk,λj hj hjk=> ?_⟩
    match j with
    |0=>exact hx
    |j+1=>simpa using h3 j (by simpa using hj) (by omega)
  ·rw[AI]
   exact .inr ⟨0,by simp,rfl,λ_=>hx,λj _ hj=>by omega⟩
theorem zba(s:AcL):(RR s= -1/\∀v:Nat,(s.getD v []).length<=1)\/∃v:Nat,RR s=(v:Int)/\v<s.length/\1<(s.getD v []).length/\∀w:Nat,w<v->(s.getD w []).length<=1:=by
 have h:(RR s= -1/\_)\/∃k,k<s.length/\RR s=((0+k:Nat):Int)/\_:=za9 (p:=λr:AcK=>decide (1<r.length)) s 0
 rcases h with⟨h1,h2⟩|⟨k,hk,h1,h2,h3⟩
 ·refine .inl ⟨h1,λv=> ?_⟩
  by_cases hv:v<s.length
  ·have:=h2 _ (AS hv)
   rw[yI _ hv];simpa using this
  ·rw[qJ (by omega)];exact AT _
 ·refine .inr ⟨k,by rw[h1];omega,hk,?_,λw hw=> ?_⟩
  ·have:=h2 hk
   rw[yI _ hk];simpa using this
  ·have:=h3 w (by omega) hw
   rw[yI _ (by omega)];simpa using this
section
variable {m:zG}{l l':AcN}{d:AcM}
theorem RU(hl:yX m l):(uV m l d).length=m.vars.length:=zcL hl bE
theorem zhZ(hl:yX m l):ZD (uV m l d) (Zk m d):=Je hl bE
theorem Wr(hl:yX m l):ZD (uV m l d) (vC m):=(zhZ hl).trans So
theorem zmK{v n:Int}:Zk m (d++[⟨v,3,n⟩])=RS (Zk m d) v n:=by
 rw[Zk,Abj];show zdV (Zk m d) _=_
 rw[zdV,RS];exact Vm λw k _=>by simp[holdsL]
theorem I5(hl:yX m l)(hf:zZ (uV m l d)=false){v n:Int}:sM m true l (RS (uV m l d) v n)=uV m l (d++[⟨v,3,n⟩]):=by
 rw[uV,uV,zmK,RS,RS];exact zlf hl bE hf
structure EY (m:zG)(l:AcN)(d:AcM):Prop where
 ok:∀x∈d,x.op=3/\0<=x.var/\x.var<(m.vars.length:Int)/\x.n∈(vC m).getD x.var.toNat []
 thin:∀x∈d,∀w:Nat,(w:Int)<=x.var->((uV m l d).getD w []).length<=1
 few:∀w:Nat,1<((uV m l d).getD w []).length->d.length<=w
 len:d.length<=m.vars.length
theorem EY.nil:EY m l []:=⟨λx hx=>(by cases hx),λx hx=>(by cases hx),λw _=>AT _,AT _⟩
theorem zje(hl:yX m l)(hf:zZ (uV m l d)=false){v n:Int}:ZD (uV m l (d++[⟨v,3,n⟩])) (RS (uV m l d) v n):=by
 rw[<-I5 hl hf];exact Je hl (uL.trans (RU hl))
theorem zjf{a:AcK}(h:a.Nodup)(n:Int):(a.filter λk=>decide (k=n)).length<=1:=by
 induction a with
 |nil=>exact AT _
 |cons x a ih=>
  rw[Aa7]
  by_cases e:x=n
  ·rw[As (by simpa using e)]
   have:(a.filter λk=>decide (k=n))=[]:=List.filter_eq_nil_iff.2 λy hy=>by
    have:=(AaN.1 h).1;intro e2;have e2:y=n:=by simpa using e2
    rw[e2,<-e]at hy;exact this hy
   rw[this];exact BY _
  ·rw[An (by simpa using e)]
   exact ih (AaN.1 h).2
theorem zgD(v:Nat):((vC m).getD v []).Nodup:=by
 by_cases hv:v<m.vars.length
 ·rw[Z6 hv];exact GA _ _
 ·rw[qJ (by rw[wE];omega)];exact Abl
theorem Bx{a:AcK}(h:0<a.length):a.getD 0 0∈a:=by
 match a,h with
 |x::a,_=>exact Ks
theorem EY.step(hl:yX m l)(h:EY m l d)(hf:zZ (uV m l d)=false){v:Nat}(hv:v<m.vars.length)(ho:RR (uV m l d)=v)(h1:1<((uV m l d).getD v []).length)(h2:∀w:Nat,w<v->((uV m l d).getD w []).length<=1):
  EY m l (d++[⟨v,3,((uV m l d).getD v []).getD 0 0⟩]):=by
 have hm:=zje (v:=(v:Int)) (n:=((uV m l d).getD v []).getD 0 0) hl hf;have hle:∀w:Nat,((uV m l (d++[⟨v,3,((uV m l d).getD v []).getD 0 0⟩])).getD w []).length<=((uV m l d).getD w []).length:=λw=>((hm.trans Ta).2 w).length_le
 have hvv:((uV m l (d++[⟨v,3,((uV m l d).getD v []).getD 0 0⟩])).getD v []).length<=1:=by
  have h3:=(hm.2 v).length_le;rw[RS,sI]at h3
  have h4:(((uV m l d).getD v []).filter λk=> !decide ((v:Int)=(v:Int))||decide (k=((uV m l d).getD v []).getD 0 0)).length<=1:=by
   rw[show(λk:Int=> !decide ((v:Int)=(v:Int))||decide (k=((uV m l d).getD v []).getD 0 0))=λk=>decide (k=((uV m l d).getD v []).getD 0 0) by funext k;simp]
   exact zjf (((Wr hl).2 v).nodup (zgD v)) _
  omega
 have hd:d.length<=v:=h.few v h1;refine⟨λx hx=> ?_,λx hx w hw=> ?_,λw hw=> ?_,?_⟩
 ·rcases TO.1 hx with hx|hx
  ·exact h.ok x hx
  ·rw[IN.1 hx]
   exact⟨rfl,by show(0:Int)<=v;omega,by show(v:Int)<_;omega,((Wr hl).2 v).subset (Bx (by omega))⟩
 ·rcases TO.1 hx with hx|hx
  ·exact Aai (hle w) (h.thin x hx w hw)
  ·rw[IN.1 hx]at hw
   have hw:(w:Int)<=v:=hw
   by_cases e:w=v
   ·rw[e];exact hvv
   ·exact Aai (hle w) (h2 w (by omega))
 ·rw[It,AaW]
  have h5:v<w:=by
   rcases Aa8 v w with h5|h5
   ·exact h5
   ·rcases Nat.lt_or_eq_of_le h5 with h6|h6
    ·have:=h2 w h6;have:=hle w;omega
    ·rw[h6]at hw;omega
  omega
 ·rw[It,AaW];omega
inductive zbb (m:zG)(l:AcN):AcM×Bool×AcK->Prop
 |found (d:AcM) (hc:EY m l d) (hf:zZ (uV m l d)=false) (h1:∀v:Nat,((uV m l d).getD v []).length<=1):zbb m l ([],true,dN (uV m l d))
 |none (hf:zZ (uV m l [])=true):zbb m l ([],false,[])
 |some (d:AcM) (v:Nat) (hc:EY m l d) (hf:zZ (uV m l d)=false) (hv:v<m.vars.length) (h1:1<((uV m l d).getD v []).length) (h2:∀w:Nat,w<v->((uV m l d).getD w []).length<=1)
   (hc':EY m l (d++[⟨v,3,((uV m l d).getD v []).getD 0 0⟩])) (hf':zZ (uV m l (d++[⟨v,3,((uV m l d).getD v []).getD 0 0⟩]))=true):zbb m l (d++[⟨v,3,((uV m l d).getD v []).getD 0 0⟩],false,[])
theorem Bz(hl:yX m l):∀(k:Nat) (d:AcM),EY m l d->m.vars.length+1<=k+d.length->(zZ (uV m l d)=true->zbb m l (d,false,[]))->zbb m l (RT m l k (uV m l d) d)
 |0,d,hc,hk,_=>At hc.len (by omega)
 |k+1,d,hc,hk,hfail=>by
  rw[RT];cases hf:zZ (uV m l d)
  ·rw[An (by decide)]
   rcases zba (uV m l d)with⟨e,h1⟩|⟨v,e,hv,h1,h2⟩
   ·rw[As (by omega)];exact .found d hc hf h1
   ·rw[An (by omega),e,Aab,I5 hl hf]
    have hv:v<m.vars.length:=by rw[RU hl]at hv;exact hv
    have hc':=hc.step hl hf hv e h1 h2;exact Bz hl k _ hc' (by rw[It,AaW];omega) λhf'=> .some d v hc hf hv h1 h2 hc' hf'
  ·rw[As rfl];exact hfail hf
theorem BA(hl:yX m l):zbb m l (kD m l):=Bz hl _ [] .nil (by simp) λhf=> .none hf
end
def I6:AcL->AcL
 |[]=>[[]]
 |r::rs=>r.flatMap λn=>(I6 rs).map (n::·)
def XW:AcL->Nat
 |[]=>1
 |r::rs=>r.length*XW rs
theorem zbc:∀s:AcL,(I6 s).length=XW s
 |[]=>rfl
 |r::rs=>by
  rw[I6,XW,List.length_flatMap];have h:(r.map λn=>((I6 rs).map (n::·)).length)=r.map λ_=>XW rs:=AbV λn _=>by rw[Aag,zbc rs]
  rw[h];clear h
  induction r with
  |nil=>simp
  |cons x r ih=>rw[Aak,Ab0,ih,Aad,Abm];omega
theorem GW:∀ {s:AcL} {vs:AcK},vs∈I6 s↔Tw vs s
 |[],vs=>by
  rw[I6,IN];refine⟨λh=>by subst h;exact⟨rfl,λv hv=>At hv (AaU v)⟩,λh=>AaS.1 h.1⟩
 |r::rs,vs=>by
  rw[I6,Acw];constructor
  ·rintro⟨n,hn,h⟩
   obtain⟨us,hu,rfl⟩:=Of.1 h;have:=GW.1 hu;refine⟨by simp[this.1],λv hv=> ?_⟩
   match v with
   |0=>exact hn
   |v+1=>exact this.2 v (by simpa using hv)
  ·rintro⟨h1,h2⟩
   match vs,h1 with
   |n::us,h1=>
    refine⟨n,h2 0 (by simp),Of.2 ⟨us,GW.2 ⟨by simpa using h1,λv hv=> ?_⟩,rfl⟩⟩
    exact h2 (v+1) (by simpa using hv)
theorem FG:∀(a b:AcL),XW (a++b)=XW a*XW b
 |[],b=>by rw[Aby,XW,Nat.one_mul]
 |r::a,b=>by rw[Abz,XW,XW,FG a b,Nat.mul_assoc]
def WX(s:AcL):Nat->AcL
 |0=>[]
 |k+1=>WX s k++if 1<(s.getD k []).length then I6 (s.take (k+1))else[]
theorem zbd{s:AcL}(h:∀r∈s,0<r.length):∀k,k<=s.length->(WX s k).length+2<=2*XW (s.take k)
 |0,_=>by simp[WX,XW]
 |k+1,hk=>by
  have ih:=zbd h k (by omega)
  have hg:s.getD k []=s[k]:=yI _ (by omega)
  have e:XW (s.take (k+1))=XW (s.take k)*s[k].length:=by
   rw[<-Aar (show k<s.length by omega),FG]
   simp[XW]
  have hp:=h s[k] (AS _);rw[WX,It,hg];split
  ·rename_i h1
   rw[zbc,e];have h2:XW (s.take k)*2<=XW (s.take k)*s[k].length:=Nat.mul_le_mul_left _ h1;omega
  ·rename_i h1
   have h2:s[k].length=1:=by omega
   rw[e,h2,Aaz];omega
theorem zbe{s:AcL}{P:AcK}{v:Nat}(h1:1<(s.getD v []).length)(hP:P∈I6 (s.take (v+1))):∀k,v<k->P∈WX s k
 |0,h=>At h (AaU v)
 |k+1,h=>by
  rw[WX,TO]
  by_cases e:v=k
  ·subst e;rw[As h1];exact .inr hP
  ·exact .inl (zbe h1 hP k (by omega))
structure L3 (m:zG)(l:AcN)(P:AcK):Prop where
 ex:∃s,ZD s (vC m)/\zZ s=false/\Om (pT m true l) s/\(∀w:Nat,w+1<P.length->s.getD w []=[P.getD w 0])/\P.getD (P.length-1) 0∈s.getD (P.length-1) []
theorem L3.ent{m:zG}{l l':AcN}{P:AcK}(hl:yX m l)(hl':yX m l')(he:Vw l' l)(h:L3 m l' P):L3 m l P:=by
 obtain⟨s,h1,h2,h3,h4,h5⟩:=h.ex;exact⟨s,h1,h2,zeE hl hl' he (h1.1.trans wE) h2 h3,h4,h5⟩
open Classical in
noncomputable def GX (m:zG)(l:AcN)(P:AcK):Bool:=decide (L3 m l P)
open Classical in
theorem Tj{m:zG}{l:AcN}{P:AcK}:GX m l P=true↔L3 m l P:=by rw[GX];exact Aaq
open Classical in
theorem zcN{m:zG}{l:AcN}{P:AcK}:GX m l P=false↔¬L3 m l P:=by rw[GX];exact decide_eq_false_iff_not
noncomputable def aO (m:zG)(l:AcN):Nat:=((WX (vC m) m.vars.length).filter (GX m l)).length
theorem MO{α:Type}{p q:α->Bool}:∀ {L:List α},(∀x∈L,p x=true->q x=true)->(L.filter p).length<=(L.filter q).length/\((∃x∈L,q x=true/\p x=false)->(L.filter p).length<(L.filter q).length)
 |[],_=>⟨BY _,λ⟨x,hx,_⟩=>by cases hx⟩
 |y::L,h=>by
  obtain⟨h1,h2⟩:=MO (L:=L) λx hx=>h x (On _ hx)
  have hy:=h y (Ks ..);rw[Aa7,Aa7];cases hp:p y<;>cases hq:q y
  ·simp only[Aa0,if_false]
   refine⟨h1,λ⟨x,hx,ha,hb⟩=>h2 ?_⟩
   rcases OF.1 hx with rfl|hx
   ·rw[hq]at ha;cases ha
   ·exact⟨x,hx,ha,hb⟩
  ·simp only[Aa0,if_false,if_true,Aad]
   exact⟨by omega,λ_=>by omega⟩
  ·rw[hy hp]at hq;cases hq
  ·simp only[if_true,Aad]
   refine⟨by omega,λ⟨x,hx,ha,hb⟩=> ?_⟩
   rcases OF.1 hx with rfl|hx
   ·rw[hp]at hb;cases hb
   ·have:=h2 ⟨x,hx,ha,hb⟩;omega
section
variable {m:zG}{l l':AcN}{d:AcM}
theorem zjg(hl:yX m l)(hl':yX m l')(he:Vw l' l):aO m l'<=aO m l:=by
 unfold aO;exact(MO λP _ h=>Tj.2 ((Tj.1 h).ent hl hl' he)).1
theorem zjh(hl:yX m l)(hl':yX m l')(he:Vw l' l){P:AcK}(hP:P∈WX (vC m) m.vars.length)(h1:L3 m l P)(h2:¬L3 m l' P):aO m l'<aO m l:=by
 unfold aO;exact(MO λP _ h=>Tj.2 ((Tj.1 h).ent hl hl' he)).2 ⟨P,hP,Tj.2 h1,zcN.2 h2⟩
theorem zbf(hr:Right m):∀r∈vC m,0<r.length:=λr h=>by
 obtain⟨v,hv,rfl⟩:=Of.1 h;have:=hr.var v hv;rw[Vi,Yy];omega
theorem zgE(hr:Right m):aO m l+2<=2*XW (vC m):=by
 have h1:=zbd (zbf hr) m.vars.length (by rw[wE];exact BY _)
 rw[AaP (by rw[wE];exact BY _)]at h1
 unfold aO;have:=AaZ (GX m l) (WX (vC m) m.vars.length);omega
theorem I7{s:AcL}{w:Nat}:(dN s).getD w 0=(s.getD w []).getD 0 0:=by
 rw[dN,Aam,Aau,Aam (l:=s)];cases s[w]? <;>rfl
theorem I8{a:AcK}{k w:Nat}(h:w<k):(a.take k).getD w 0=a.getD w 0:=by
 rw[Aam,List.getElem?_take_of_lt h,<-Aam]
theorem zlg{a:AcK}(h1:a.length<=1)(h2:a≠[]):a=[a.getD 0 0]:=by
 match a,h1,h2 with
 |[x],_,_=>rfl
 |x::y::a,h1,_=>simp at h1
theorem zgF(hl:yX m l){v:Nat}(hf:zZ (uV m l d)=false)(hv:v<m.vars.length)(h1:1<((uV m l d).getD v []).length)(h2:∀w:Nat,w<v->((uV m l d).getD w []).length<=1):
  (dN (uV m l d)).take (v+1)∈WX (vC m) m.vars.length/\L3 m l ((dN (uV m l d)).take (v+1)):=by
 have hlen:(uV m l d).length=m.vars.length:=RU hl;have hvl:(dN (uV m l d)).length=m.vars.length:=by rw[dN,Aag,hlen]
 have hne:=sT.1 hf
 have hmem:∀w:Nat,w<m.vars.length->(dN (uV m l d)).getD w 0∈(uV m l d).getD w []:=λw hw=>by
  rw[I7];exact Bx (AbC.2 (hne w (by omega)))
 have htl:((dN (uV m l d)).take (v+1)).length=v+1:=by rw[Aaf,hvl];omega
 refine⟨zbe (v:=v) ?_ (GW.2 ⟨?_,λw hw=> ?_⟩) _ hv,⟨_,Wr hl,hf,RQ hl bE hf,λw hw=> ?_,?_⟩⟩
 ·have:=((Wr (d:=d) hl).2 v).length_le;omega
 ·rw[htl,Aaf,wE];omega
 ·rw[Aaf,wE]at hw
  rw[I8 (by omega)]
  have hx:=((Wr (d:=d) hl).2 w).subset (hmem w (by omega))
  rw[Aam,List.getElem?_take_of_lt (by omega),<-Aam]
  exact hx
 ·rw[htl]at hw
  rw[I8 (by omega),I7]
  exact zlg (h2 w (by omega)) (hne w (by omega))
 ·rw[htl,Nat.add_sub_cancel,I8 (by omega)];exact hmem v hv
theorem zji(hl:yX m l){v:Nat}(hc:EY m l d)(hf:zZ (uV m l d)=false)(hv:v<m.vars.length)(h1:1<((uV m l d).getD v []).length)(h2:∀w:Nat,w<v->((uV m l d).getD w []).length<=1)
  {few:AcM} (hfew:∀x∈few,x∈d++[⟨v,3,((uV m l d).getD v []).getD 0 0⟩]) (hl':yX m l') (hm:few.map bJ∈l'):¬L3 m l' ((dN (uV m l d)).take (v+1)):=λh=>by
 obtain⟨s,s1,s2,s3,s4,s5⟩:=h.ex;have hlen:(uV m l d).length=m.vars.length:=RU hl;have hvl:(dN (uV m l d)).length=m.vars.length:=by rw[dN,Aag,hlen]
 have hne:=sT.1 hf;have htl:((dN (uV m l d)).take (v+1)).length=v+1:=by rw[Aaf,hvl];omega
 have hs:s.length=m.vars.length:=s1.1.trans wE;rw[htl,Nat.add_sub_cancel,I8 (by omega),I7]at s5
 have hst:=s3 _ (ou.2 (.inr ⟨_,hm,rfl⟩));obtain⟨us,u1,u2,u3⟩:=(YC hl' hm).congr (Q':=oo (few.map bJ)) hs (vs:=[]) hst s2 v _ s5;obtain⟨z,hz,hzz⟩:=gD.1 u3;obtain⟨y,hy,rfl⟩:=Of.1 hz;rw[zcz]at hzz
 have key:∀y:zC,y.op=3->us.getD y.var.toNat 0=y.n->holdsL (bJ y) (us.getD y.var.toNat 0)=true->False:=λy ho hn hh=>by
  rw[zaI (by omega),holdsL,An (by omega),An (by omega),As ho,hn,Or rfl]at hh
  cases hh
 rcases TO.1 (hfew y hy)with hd|hd
 ·obtain⟨o1,o2,o3,o4⟩:=hc.ok y hd
  have hlt:y.var.toNat<v:=by
   rcases Aa8 y.var.toNat v with hlt|hge
   ·exact hlt
   ·have:=hc.thin y hd v (by omega);omega
  have h4:=s4 y.var.toNat (by rw[htl];omega)
  rw[I8 (by omega),I7]at h4
  have hu:=u1.2 y.var.toNat (by omega)
  rw[h4]at hu
  refine key y o1 ?_ hzz;rw[IN.1 hu];have hmem:=Bx (AbC.2 (hne y.var.toNat (by omega)))
  have hput:=((zhZ (d:=d) hl).2 y.var.toNat).subset hmem;rw[RP,sI]at hput
  have:=Aao.1 (Aan.1 hput).2 y hd;have e:((y.var.toNat:Nat):Int)=y.var:=Abc o2;rw[e,Or rfl,Abq,Abv,holdsL,An (by omega),An (by omega),As o1]at this
  exact By this
 ·rw[IN.1 hd]at hzz
  refine key _ rfl ?_ hzz;exact u2
end
theorem zh0:∀(u:Nat),∀b∈Lib.decDigits u,48<=b.toNat/\b.toNat<=57:=λu=>by
 induction u using Nat.strongRecOn with
 |_ u ih=>
  intro b hb
  have one:∀k,k<10->48<=(UInt8.ofNat (48+k)).toNat/\(UInt8.ofNat (48+k)).toNat<=57:=λk hk=>by
   rw[UInt8.toNat_ofNat'];omega
  rw[Lib.decDigits]at hb
  split at hb
  ·rename_i h
   rw[IN.1 hb];exact one u h
  ·rename_i h
   rcases TO.1 hb with hb|hb
   ·exact ih _ (by omega) b hb
   ·rw[IN.1 hb];exact one _ (by omega)
def zlh(l:AcT):Nat:=l.foldl (λa b=>10*a+(b.toNat-48)) 0
theorem Dk(u:Nat):zlh (Lib.decDigits u)=u:=by
 induction u using Nat.strongRecOn with
 |_ u ih=>
  have one:∀k,k<10->(UInt8.ofNat (48+k)).toNat-48=k:=λk hk=>by
   rw[UInt8.toNat_ofNat'];omega
  rw[Lib.decDigits];split
  ·rename_i h
   show 10*0+_=_
   rw[one u h];omega
  ·rename_i h
   rw[zlh,Abj];show 10*zlh (Lib.decDigits (u/10))+_=_
   rw[ih _ (by omega),one _ (by omega)];omega
theorem RV(n:Int):∀b∈Lib.itoa n,b≠58/\b≠32:=λb hb=>by
 have key:∀u,b∈Lib.decDigits u->b≠58/\b≠32:=λu h=>by
  have:=zh0 u b h;refine⟨λe=> ?_,λe=> ?_⟩<;>rw[e]at this<;>simp at this
 rw[Lib.itoa]at hb
 split at hb
 ·rcases OF.1 hb with rfl|hb
  ·decide
  ·exact key _ hb
 ·exact key _ hb
theorem BB{a b:Int}(h:Lib.itoa a=Lib.itoa b):a=b:=by
 have sgn:∀(u:Nat) (l:AcT),Lib.decDigits u≠45::l:=λu l e=>by
  have:=zh0 u 45 (by rw[e];exact Ks)
  simp at this
 unfold Lib.itoa at h
 split at h<;>split at h
 ·have:=Is zlh (List.cons.inj h).2
  rw[Dk,Dk]at this;omega
 ·exact At h.symm (sgn _ _)
 ·exact At h (sgn _ _)
 ·have:=Is zlh h
  rw[Dk,Dk]at this;omega
def zcO(x:zC):AcG:=NJ x.var++⟨#[58]⟩++NJ x.op++⟨#[58]⟩++NJ x.n++⟨#[32]⟩
def ST(c:AcM):AcG:=c.foldl (λo x=>o++zcO x) ⟨#[]⟩
def AX(x:zC):AcT:=Lib.itoa x.var++58::(Lib.itoa x.op++58::(Lib.itoa x.n++[32]))
theorem zjj(x:zC):(zcO x).data.toList=AX x:=by
 simp[zcO,AX,NJ,ByteArray.data_append]
theorem zbg(c:AcM):(ST c).data.toList=c.flatMap AX:=by
 suffices H:∀(c:AcM) (o:AcG),(c.foldl (λo x=>o++zcO x) o).data.toList=o.data.toList++c.flatMap AX by
  rw[ST,H];rfl
 intro c
 induction c with
 |nil=>intro o;simp
 |cons x c ih=>
  intro o;rw[AbO,ih,ByteArray.data_append,Array.toList_append,zjj,AbN,AaH]
theorem zcP{s:UInt8}:∀ {p q r t:AcT},(∀b∈p,b≠s)->(∀b∈q,b≠s)->p++s::r=q++s::t->p=q/\r=t
 |[],[],r,t,_,_,h=>⟨rfl,(List.cons.inj h).2⟩
 |[],y::q,r,t,_,hq,h=>At (List.cons.inj h).1.symm (hq y (Ks ..))
 |x::p,[],r,t,hp,_,h=>At (List.cons.inj h).1 (hp x (Ks ..))
 |x::p,y::q,r,t,hp,hq,h=>by
  obtain⟨h1,h2⟩:=List.cons.inj h;obtain⟨h3,h4⟩:=zcP (λb hb=>hp b (On _ hb)) (λb hb=>hq b (On _ hb)) h2
  exact⟨by rw[h1,h3],h4⟩
theorem zh1(x:zC):AX x≠[]:=by unfold AX;simp
theorem zeG:∀ {c c':AcM},c.flatMap AX=c'.flatMap AX->c=c'
 |[],[],_=>rfl
 |[],y::c',h=>by
  rw[List.flatMap_nil,AbN]at h
  exact At (Acy.1 h.symm).1 (zh1 y)
 |x::c,[],h=>by
  rw[List.flatMap_nil,AbN]at h
  exact At (Acy.1 h).1 (zh1 x)
 |x::c,y::c',h=>by
  rw[AbN,AbN,AX,AX]at h
  simp only[AaH,Abz,Aby]at h
  obtain⟨h1,h⟩:=zcP (λb hb=>(RV _ b hb).1) (λb hb=>(RV _ b hb).1) h
  obtain⟨h2,h⟩:=zcP (λb hb=>(RV _ b hb).1) (λb hb=>(RV _ b hb).1) h
  obtain⟨h3,h⟩:=zcP (λb hb=>(RV _ b hb).2) (λb hb=>(RV _ b hb).2) h
  have e:x=y:=by
   obtain⟨a,b,c⟩:=x;obtain⟨a',b',c'⟩:=y;have h1:=BB h1;have h2:=BB h2;have h3:=BB h3;simp only at h1 h2 h3
   rw[h1,h2,h3]
  rw[e,zeG h]
theorem zli{c c':AcM}(h:ST c=ST c'):c=c':=zeG (by rw[<-zbg,<-zbg,h])
theorem zeH(k k':AcG)(v:Int):∀es:List (AcG×Int),uZ .str .int k (qH .str .int k' v es)=if k=k' then some v else uZ .str .int k es
 |[]=>by
  show(bif decide (k=k')then some v else none)=_
  by_cases h:k=k'<;>simp[h,uZ]
 |(a,b)::r=>by
  have ih:=zeH k k' v r;show uZ .str .int k (bif decide (k'=a)then(a,v)::r else(a,b)::qH .str .int k' v r)=if k=k' then some v else(bif decide (k=a)then some b else uZ .str .int k r)
  by_cases h1:k'=a
  ·rw[Or h1,AI]
   show(bif decide (k=a)then some v else uZ .str .int k r)=_
   rw[<-h1]
   by_cases h2:k=k'
   ·rw[Or h2,As h2];rfl
   ·rw[Aah h2,An h2];rfl
  ·rw[Aah h1,Vs]
   show(bif decide (k=a)then some b else uZ .str .int k (qH .str .int k' v r))=_
   rw[ih]
   by_cases h2:k=a
   ·have h4:¬k=k':=λe=>h1 (e.symm.trans h2)
    rw[Or h2,An h4,An h4]
   ·rw[Aah h2]
    by_cases h3:k=k'
    ·rw[As h3,As h3];rfl
    ·rw[An h3,An h3]
abbrev znG:Type:=List (AcG×Int)
abbrev LG(c:AcM)(met:znG):Int:=gH .str .int (ST c) met
theorem zmL(c c':AcM)(met:znG):LG c (qH .str .int (ST c') 1 met)=if c=c' then 1 else LG c met:=by
 show(uZ .str .int (ST c) (qH .str .int (ST c') 1 met)).getD 0=_
 rw[zeH]
 by_cases h:c=c'
 ·rw[As h,As (by rw[h])];rfl
 ·rw[An h,An λe=>h (zli e)];rfl
abbrev pW:Type:=AcS×znG
def note1(p:pW)(st:zX):pW:=if LG st.clause p.2=0 then(p.1++[st],qH .str .int (ST st.clause) 1 p.2)else p
def oX(t:AcS)(p:pW):pW:=t.foldl note1 p
def Tl(p:pW):Prop:=∀c,LG c p.2≠0↔c∈rE p.1
theorem Tl.nil:Tl ([],[]):=λc=>⟨λh=>At rfl h,λh=>by cases h⟩
theorem FI{c:AcM}{l:AcS}:c∈rE l↔∃st∈l,st.clause=c:=Of
theorem Tl.note1{p:pW}(h:Tl p)(st:zX):Tl (note1 p st)/\st.clause∈rE (Go.Proofs.YtogdmcebojiojaaGreatDoor.note1 p st).1:=by
 unfold Go.Proofs.YtogdmcebojiojaaGreatDoor.note1
 by_cases e:LG st.clause p.2=0
 ·rw[As e]
  refine⟨λc=> ?_,?_⟩
  ·show LG c (qH .str .int (ST st.clause) 1 p.2)≠0↔c∈rE (p.1++[st])
   rw[zmL,mG,TO]
   by_cases hc:c=st.clause
   ·rw[As hc]
    exact⟨λ_=> .inr (IN.2 hc),λ_=>by decide⟩
   ·rw[An hc,h c]
    exact⟨.inl,λx=>x.elim id λx=>At (IN.1 x) hc⟩
  ·rw[mG];exact AaK _ (IN.2 rfl)
 ·rw[An e];exact⟨h,(h _).1 e⟩
theorem Tl.notes:∀ {t:AcS} {p:pW},Tl p->Tl (oX t p)/\(∀st∈t,st.clause∈rE (oX t p).1)/\∃e,(oX t p).1=p.1++e/\e.Sublist t
 |[],p,h=>⟨h,λst hs=>(by cases hs),[],(Aa2 _).symm,List.Sublist.slnil⟩
 |st::t,p,h=>by
  obtain⟨h1,h2⟩:=h.note1 st;obtain⟨i1,i2,e,i3,i4⟩:=h1.notes (t:=t);have e0:oX (st::t) p=oX t (Go.Proofs.YtogdmcebojiojaaGreatDoor.note1 p st):=rfl;rw[e0];refine⟨i1,λx hx=> ?_,?_⟩
  ·rcases OF.1 hx with rfl|hx
   ·rw[i3,mG];exact AaB _ h2
   ·exact i2 x hx
  ·unfold Go.Proofs.YtogdmcebojiojaaGreatDoor.note1 at i3
   by_cases e1:LG st.clause p.2=0
   ·rw[As e1]at i3
    unfold Go.Proofs.YtogdmcebojiojaaGreatDoor.note1;rw[As e1];exact⟨st::e,by rw[i3];simp,i4.cons_cons st⟩
   ·rw[An e1]at i3
    unfold Go.Proofs.YtogdmcebojiojaaGreatDoor.note1;rw[An e1];exact⟨e,i3,i4.cons st⟩
theorem FJ{m:zG}(hm:xE m=0){given:AcN}(hg:∀c∈given,yK m.vars.length c=0):∀(t:AcS) (p:pW) (A:AcN),Tl p->qF m given p.1=true->(∀st∈p.1,yK m.vars.length st.clause=0)->
  (∀c∈A,yK m.vars.length c=0)->(∀st∈t,yK m.vars.length st.clause=0)->Vw (given++rE p.1) A->qF m A t=true->qF m given (oX t p).1=true
 |[],p,A,_,h,_,_,_,_,_=>h
 |st::t,p,A,hp,h,hs,hA,ht,he,hr=>by
  rw[qF,If]at hr
  have hst:=ht st (Ks ..)
  have hall:∀c∈given++rE p.1,yK m.vars.length c=0:=λc hc=>by
   rcases TO.1 hc with hc|hc
   ·exact hg c hc
   ·obtain⟨x,hx,rfl⟩:=FI.1 hc;exact hs x hx
  obtain⟨h1,h2⟩:=hp.note1 st;show qF m given (oX t (note1 p st)).1=true
  have hA':∀c∈A++[st.clause],yK m.vars.length c=0:=λc hc=>by
   rcases TO.1 hc with hc|hc
   ·exact hA c hc
   ·rw[IN.1 hc];exact hst
  have hb:=za8 (kR hm hA) (kR hm hall) he hr.1;refine FJ hm hg t _ (A++[st.clause]) h1 ?_ ?_ hA' (λx hx=>ht x (On _ hx)) ?_ hr.2
  ·unfold note1
   by_cases e:LG st.clause p.2=0
   ·rw[As e,Pe,h,AaV]
    show(dG m _ st&&true)=true
    rw[hb];rfl
   ·rw[An e];exact h
  ·unfold note1
   by_cases e:LG st.clause p.2=0
   ·rw[As e]
    intro x hx;rcases TO.1 hx with hx|hx
    ·exact hs x hx
    ·rw[IN.1 hx];exact hst
   ·rw[An e];exact hs
  ·have hsub:∀c∈rE p.1,c∈rE (note1 p st).1:=λc hc=>by
    unfold note1
    by_cases e:LG st.clause p.2=0
    ·rw[As e,mG];exact AaB _ hc
    ·rw[An e];exact hc
   intro c hc;rcases TO.1 hc with hc|hc
   ·obtain⟨c',hc',hh⟩:=he c hc
    refine⟨c',?_,hh⟩;rcases TO.1 hc' with hc'|hc'
    ·exact AaB _ hc'
    ·exact AaK _ (hsub c' hc')
   ·rw[IN.1 hc]
    exact⟨_,AaK _ h2,λ_ h=>h⟩
theorem zgG{t1 t2:AcS}{p:pW}(hp:Tl p)(h0:∀st∈p.1,st.clause≠[])(h1:∀st∈t1,st.clause≠[])(h2:t2≠[])(h3:∀st∈t2,st.clause=[]):fj (oX (t1++t2) p).1=true:=by
 have e0:oX (t1++t2) p=oX t2 (oX t1 p):=Abj ..;rw[e0];obtain⟨i1,_,e,i3,i4⟩:=hp.notes (t:=t1);generalize oX t1 p=q at i1 i3
 have hq:([]:AcM)∉rE q.1:=λhc=>by
  obtain⟨st,hs,e1⟩:=FI.1 hc;rw[i3]at hs
  rcases TO.1 hs with hs|hs
  ·exact h0 st hs e1
  ·exact h1 st (i4.subset hs) e1
 match t2,h2,h3 with
 |st::t2,_,h3=>
  have hst:=h3 st (Ks ..)
  have hm:LG st.clause q.2=0:=by
   rcases Int.decEq (LG st.clause q.2) 0 with h|h
   ·exact At ((i1 _).1 h) (by rw[hst];exact hq)
   ·exact h
  show fj (oX t2 (note1 q st)).1=true
  have hst2:∀(t:AcS) (r:pW),(∀x∈t,x.clause=[])->LG [] r.2≠0->oX t r=r:=λt=>by
   induction t with
   |nil=>exact λr _ _=>rfl
   |cons x t ih=>
    intro r hx hr;show oX t (note1 r x)=r
    have e:note1 r x=r:=by
     unfold note1;rw[An (by rw[hx x (Ks ..)];exact hr)]
    rw[e];exact ih r (λy hy=>hx y (On _ hy)) hr
  have hn:=(i1.note1 st).1;have hmem:=(i1.note1 st).2;rw[hst2 t2 _ (λx hx=>h3 x (On _ hx)) ((hn []).2 (by rw[<-hst];exact hmem))]
  unfold note1;rw[As hm,fj];simp[hst]
def NE(m:zG)(p:Bu):Prop:=(∀st∈p.1,st.clause≠[])\/(zZ p.2=true/\∃t1 e,p.1=t1++[e]/\(∀st∈t1,st.clause≠[])/\e.clause=[])
section
variable {m:zG}{l:AcN}{d:AcM}
theorem zmM{p:Bu}(h:Tr m l d p.1 p.2)(hk:vB m l d){i:Nat}(hi:i<m.cons.length)(hf:zZ p.2=false)(hn:NE m p):NE m (Ti m i p).1:=by
 have hn:∀st∈p.1,st.clause≠[]:=by
  rcases hn with hn|⟨hn,_⟩
  ·exact hn
  ·rw[hf]at hn;cases hn
 unfold Ti
 by_cases hg:zZ (yS (yE m i) p.2)=true
 ·rw[As hg]
  by_cases he:cR m i p.2=[]
  ·exact .inr ⟨eF (by rw[h.len];exact hk.mc.pos),p.1,_,rfl,hn,he⟩
  ·refine .inl λst hs=> ?_
   rcases TO.1 hs with hs|hs
   ·exact hn st hs
   ·rw[IN.1 hs];exact he
 ·rw[An hg]
  refine .inl λst hs=> ?_
  rcases TO.1 hs with hs|hs
  ·exact hn st hs
  ·obtain⟨v,n,h1,h2,h3,rfl⟩:=Un.1 hs
   have hgone:Sl m i p.2 v n=true:=by
    rw[Sl,hf,Aab];have e1:fX (p.2.getD v []) n=true:=kN.2 h2
    have e2:fX ((yS (yE m i) p.2).getD v []) n=false:=by
     cases e:fX ((yS (yE m i) p.2).getD v []) n
     ·rfl
     ·exact At (kN.1 e) h3
    rw[e1,e2];rfl
   show Sm m i p.2 v n≠[]
   rw[Sm,As hgone,IW];simp
theorem zeI(hk:vB m l d):∀(k i:Nat) (p:Bu) (c:Bool),i+k=m.cons.length->Tr m l d p.1 p.2->NE m p->NE m (bF m k i p c).1
 |0,i,p,c,_,_,hn=>hn
 |k+1,i,p,c,hi,h,hn=>by
  rw[bF];cases hf:zZ p.2
  ·rw[An (by decide)]
   exact zeI hk k (i+1) _ _ (by omega) (GV h hk (i:=i) (by omega) hf).1 (zmM h hk (by omega) hf hn)
  ·rw[As rfl];exact hn
theorem zjk{p:Bu}(h:Tr m l d p.1 p.2)(hk:vB m l d)(hn:NE m p):NE m (eI m l p).1:=by
 obtain⟨i1,_,_,_⟩:=Jc hk m.cons.length 0 p false (Aas _) h;have hc:=zeI hk m.cons.length 0 p false (Aas _) h hn;rw[eI];generalize bF m m.cons.length 0 p false=r at i1 hc⊢
 rcases hc with hc|⟨h1,h2⟩
 ·exact .inl hc
 ·exact .inr ⟨(i1.units hk).2.failed h1,h2⟩
theorem zh2(hk:vB m l d):∀(k:Nat) (p:Bu),Tr m l d p.1 p.2->NE m p->NE m (LD m l k p)
 |0,p,_,hn=>hn
 |k+1,p,h,hn=>by
  rw[LD];cases hf:zZ p.2
  ·rw[An (by decide)]
   have h1:=(Mf h hk hf).1;have h2:=zjk h hk hn;cases e:(eI m l p).2
   ·rw[An (by decide)];exact h2
   ·rw[As rfl];exact zh2 hk k _ h1 h2
  ·rw[As rfl];exact hn
theorem zeJ(hk:vB m l d):∃t1 t2,ZB m l d=t1++t2++[FF d]/\(∀st∈t1,st.clause≠[])/\∀st∈t2,st.clause=[]/\Th m st:=by
 have hb:=Tr.begin hk;have h1:=(MN hk 36 ([],Zk m d) hb (by have:=hb.size;simpa using this)).1
 rcases zh2 hk 37 ([],Zk m d) hb (.inl λst hs=>by cases hs)with h|⟨_,t1,e,h2,h3,h4⟩
 ·exact⟨_,[],by rw[Aa2];rfl,h,λst hs=>by cases hs⟩
 ·refine⟨t1,[e],by rw[ZB,h2],h3,λst hs=> ?_⟩
  rw[IN.1 hs];exact⟨h4,h1.ok e (by rw[h2];exact AaK _ (IN.2 rfl))⟩
theorem zlj{s:AcL}:kQ s []=s:=YR λv n _=>rfl
theorem zjl(hl:yX m l){i:Int}(hi:0<=i/\i<(m.cons.length:Int))(h:jO m i []=true):pV m l []=true:=by
 cases hf:pV m l []
 ·have hf:zZ (sM m true l (vC m))=false:=hf
  have hlen:(vC m).length=m.vars.length:=wE
  have hc:yE m i∈m.cons:=by
   have hj:i.toNat<m.cons.length:=by omega
   rw[yE,yI _ hj];exact AS hj
  have hst:=RQ hl hlen hf _ (ou.2 (.inl ⟨rfl,_,hc,rfl⟩));have hm:=(Td hl hc).mono hlen (Je (cons:=true) hl hlen) (by rw[hst];exact hf)
  rw[hst]at hm
  have:=hm.fail hf;rw[jO,zlj]at h
  rw[h]at this;cases this
 ·rfl
theorem BC(hl:yX m l)(h:pV m l []=true):fewest m l d=[]:=by
 have hmin:=zez (pV m l) (FC hl) d;show zcH (pV m l) d=[]
 generalize zcH (pV m l) d=r at hmin
 match r,hmin with
 |[],_=>rfl
 |x::r,hmin=>
  have:=hmin 0 (by simp)
  rw[FC hl [] _ (λy hy=>by cases hy) h]at this
  cases this
theorem zlk(hk:vB m l d)(hd:d≠[])(h:pV m l []=false):∀st∈ZB m l d,st.clause≠[]:=by
 obtain⟨t1,t2,e,h1,h2⟩:=zeJ hk;rw[e];intro st hs;rcases TO.1 hs with hs|hs
 ·rcases TO.1 hs with hs|hs
  ·exact h1 st hs
  ·obtain⟨h3,h4⟩:=h2 st hs
   have:=zjl hk.mc h4.con (by rw[<-h3];exact h4.by')
   rw[h]at this;cases this
 ·rw[IN.1 hs]
  show d.map bJ≠[]
  exact λe=>hd (List.map_eq_nil_iff.1 e)
theorem zgH(hk:vB m l []):∃t1 t2,ZB m l []=t1++t2/\(∀st∈t1,st.clause≠[])/\t2≠[]/\∀st∈t2,st.clause=[]:=by
 obtain⟨t1,t2,e,h1,h2⟩:=zeJ hk;refine⟨t1,t2++[FF []],by rw[e,AaH],h1,by simp,λst hs=> ?_⟩
 rcases TO.1 hs with hs|hs
 ·exact(h2 st hs).1
 ·rw[IN.1 hs];rfl
end
structure GoR where
 vals:AcK
 verdict:Int
 fuel:Nat
 learned:AcN
 note:pW
noncomputable def fk (m:zG)(l:AcN):AcM:=fewest m l (kD m l).1
noncomputable def gE (m:zG)(l:AcN)(p:pW):pW:=oX (ZB m l (fk m l)) p
noncomputable def Tm (m:zG):Nat->AcN->AcN->pW->GoR
 |0,g,l,p=>⟨[],3,0,l,p⟩
 |k+1,g,l,p=>if(kD m (g++l)).2.1=true then⟨(kD m (g++l)).2.2,1,k,l,p⟩
  else if fk m (g++l)=[]then⟨[],2,k,l,gE m (g++l) p⟩
  else if 600<l.length+1\/6000<(gE m (g++l) p).1.length then⟨[],3,k,l++[(fk m (g++l)).map bJ],gE m (g++l) p⟩
  else Tm m k g (l++[(fk m (g++l)).map bJ]) (gE m (g++l) p)
structure Sea (m:zG)(g l:AcN)(p:pW):Prop where
 chk:xE m=0
 gc:∀c∈g,yK m.vars.length c=0
 lc:∀c∈l,yK m.vars.length c=0
 glen:g.length<=1
 met:Tl p
 right:qF m g p.1=true
 cl:∀st∈p.1,yK m.vars.length st.clause=0
 con:∀st∈p.1,st.kind=1->0<=st.con/\st.con<(m.cons.length:Int)
 ne:∀st∈p.1,st.clause≠[]
 sub:∀c∈l,c∈rE p.1
section
variable {m:zG}{g l:AcN}{p:pW}
theorem Sea.all(h:Sea m g l p):∀c∈g++l,yK m.vars.length c=0:=λc hc=>by
 rcases TO.1 hc with hc|hc
 ·exact h.gc c hc
 ·exact h.lc c hc
theorem Sea.mc(h:Sea m g l p):yX m (g++l):=kR h.chk h.all
theorem Sea.begin(h:xE m=0):Sea m [] [] ([],[]):=⟨h,λc hc=>(by cases hc),λc hc=>(by cases hc),AT _,.nil,rfl,λc hc=>(by cases hc),λc hc=>(by cases hc),λc hc=>(by cases hc),λc hc=>(by cases hc)⟩
structure Jf (m:zG)(g:AcN)(t:AcS):Prop where
 right:jR m g t=true
 cl:∀st∈t,yK m.vars.length st.clause=0
 con:∀st∈t,st.kind=1->0<=st.con/\st.con<(m.cons.length:Int)
theorem FK(h:Sea m g l p)(hl:l.length<=599){d:AcM}(hc:EY m (g++l) d):vB m (g++l) d:=by
 have hr:=h.mc.right;have hv:=hr.vars;refine⟨h.chk,by rw[It];have:=h.glen;omega,h.all,by have:=hc.len;omega,λx hx=> ?_,λx hx=> ?_⟩
 ·obtain⟨o1,o2,o3,o4⟩:=hc.ok x hx
  exact IY hr ⟨o2,o3⟩ (by omega) o4
 ·obtain⟨o1,o2,o3,o4⟩:=hc.ok x hx
  refine IY hr (by rw[zcz];exact⟨o2,o3⟩) ?_ ?_
  ·rw[bJ,An (by omega),An (by omega),As o1];exact⟨by show(1:Int)<=4;decide,by show(4:Int)<=4;decide⟩
  ·rw[bJ,An (by omega),An (by omega),As o1];exact o4
theorem Pf(h:Sea m g l p)(hl:l.length<=599)(hd:(kD m (g++l)).2.1=false):
  vB m (g++l) (kD m (g++l)).1/\pV m (g++l) (kD m (g++l)).1=true/\(gE m (g++l) p).1.length<=p.1.length+vI (vC m)+1/\
  (fk m (g++l)=[]->Jf m g (gE m (g++l) p).1)/\
  (fk m (g++l)≠[]->Sea m g (l++[(fk m (g++l)).map bJ]) (gE m (g++l) p)/\aO m (g++(l++[(fk m (g++l)).map bJ]))<aO m (g++l)):=by
 have hmc:=h.mc;have hD:=BA hmc
 have base:vB m (g++l) (kD m (g++l)).1/\pV m (g++l) (kD m (g++l)).1=true:=by
  generalize kD m (g++l)=D at hD hd
  cases hD with
  |found d hc hf h1=>cases hd
  |none hf=>exact⟨FK h hl .nil,hf⟩
  |some d v hc hf hv h1 h2 hc' hf'=>exact⟨FK h hl hc',hf'⟩
 obtain⟨hk,hfail⟩:=base;have hkf:vB m (g++l) (fk m (g++l)):=hk.sub Pd;have hff:pV m (g++l) (fk m (g++l))=true:=IZ hfail;have ht:=Mg hkf hff;obtain⟨n1,n2,e,n3,n4⟩:=h.met.notes (t:=ZB m (g++l) (fk m (g++l)))
 have hent:Vw (g++rE p.1) (g++l):=.sub λc hc=>by
  rcases TO.1 hc with hc|hc
  ·exact AaB _ hc
  ·exact AaK _ (h.sub c hc)
 have hright:=FJ h.chk h.gc (ZB m (g++l) (fk m (g++l))) p (g++l) h.met h.right h.cl h.all ht.cl hent ht.right
 have hmem:∀st∈(gE m (g++l) p).1,st∈p.1\/st∈ZB m (g++l) (fk m (g++l)):=λst hs=>by
  have hs:st∈(oX (ZB m (g++l) (fk m (g++l))) p).1:=hs;rw[n3]at hs
  rcases TO.1 hs with hs|hs
  ·exact .inl hs
  ·exact .inr (n4.subset hs)
 have hcl:∀st∈(gE m (g++l) p).1,yK m.vars.length st.clause=0:=λst hs=>(hmem st hs).elim (h.cl st) (ht.cl st)
 have hcon:∀st∈(gE m (g++l) p).1,st.kind=1->0<=st.con/\st.con<(m.cons.length:Int):=λst hs=>(hmem st hs).elim (h.con st) (ht.con st)
 refine⟨hk,hfail,?_,λhf=> ?_,λhf=> ?_⟩
 ·have h1:=n4.length_le
  have h2:=ht.len2;show(oX _ p).1.length<=_
  rw[n3,It];omega
 ·refine⟨?_,hcl,hcon⟩
  rw[jR,If];refine⟨hright,?_⟩;show fj (oX (ZB m (g++l) (fk m (g++l))) p).1=true
  rw[hf]at hkf⊢
  obtain⟨t1,t2,e,h1,h2,h3⟩:=zgH hkf;rw[e];exact zgG h.met h.ne h1 h2 h3
 ·have hnil:pV m (g++l) []=false:=by
   cases e:pV m (g++l) []
   ·rfl
   ·exact At (BC hmc e) hf
  have hne:=zlk hkf hf hnil;have hnog:yK m.vars.length ((fk m (g++l)).map bJ)=0:=za6 hkf
  have hlast:(fk m (g++l)).map bJ∈rE (gE m (g++l) p).1:=by
   have:=n2 (FF (fk m (g++l))) (by rw[ZB];exact AaK _ (IN.2 rfl))
   exact this
  have hS:Sea m g (l++[(fk m (g++l)).map bJ]) (gE m (g++l) p):=by
   refine⟨h.chk,h.gc,λc hc=> ?_,h.glen,n1,hright,hcl,hcon,λst hs=>(hmem st hs).elim (h.ne st) (hne st),λc hc=> ?_⟩
   ·rcases TO.1 hc with hc|hc
    ·exact h.lc c hc
    ·rw[IN.1 hc];exact hnog
   ·rcases TO.1 hc with hc|hc
    ·show c∈rE (oX _ p).1
     rw[n3,mG];exact AaB _ (h.sub c hc)
    ·rw[IN.1 hc];exact hlast
  refine⟨hS,?_⟩;have hsub:∀x∈fk m (g++l),x∈(kD m (g++l)).1:=λx hx=>Pd.subset hx
  have hne0:(kD m (g++l)).1≠[]:=λe=>hf (by
   have:(fk m (g++l)).Sublist (kD m (g++l)).1:=Pd;rw[e]at this;exact List.sublist_nil.1 this)
  have hin:(fk m (g++l)).map bJ∈g++(l++[(fk m (g++l)).map bJ]):=by simp
  have hE:Vw (g++(l++[(fk m (g++l)).map bJ])) (g++l):=.sub λc hc=>by
   rw[<-AaH];exact AaB _ hc
  generalize fk m (g++l)=few at hS hsub hin hE hf⊢
  generalize kD m (g++l)=D at hD hd hsub hne0
  cases hD with
  |found d hc hf h1=>cases hd
  |none hf=>exact At rfl hne0
  |some d v hc hf hv h1 h2 hc' hf'=>
   obtain⟨a1,a2⟩:=zgF hmc hf hv h1 h2;exact zjh hmc hS.mc hE a1 a2 (zji hmc hc hf hv h1 h2 hsub hS.mc hin)
theorem zgI(hmc:yX m l)(hd:(kD m l).2.1=true):(kD m l).2.2.length=m.vars.length/\Tw (kD m l).2.2 (vC m)/\(∀c∈m.cons,yZ c (kD m l).2.2=true)/\∀c∈l,oo c (kD m l).2.2=true:=by
 have hD:=BA hmc;generalize kD m l=D at hD hd
 cases hD with
 |none hf=>cases hd
 |some d v hc hf hv h1 h2 hc' hf'=>cases hd
 |found d hc hf h1=>
  have hlen:(uV m l d).length=m.vars.length:=RU hmc;have hvl:(dN (uV m l d)).length=m.vars.length:=by rw[dN,Aag,hlen]
  have hne:=sT.1 hf
  have hrow:∀v:Nat,v<m.vars.length->(uV m l d).getD v []=[(dN (uV m l d)).getD v 0]:=λv hv=>by
   rw[I7];exact zlg (h1 v) (hne v (by omega))
  have hin:Tw (dN (uV m l d)) (uV m l d):=⟨hvl.trans hlen.symm,λv hv=>by
   rw[hrow v (by omega)];exact IN.2 rfl⟩
  have huniq:∀us,Tw us (uV m l d)->us=dN (uV m l d):=λus hu=>by
   refine NQ (d:=0) (hu.1.trans (hlen.trans hvl.symm)) λv=> ?_
   by_cases hv:v<m.vars.length
   ·have:=hu.2 v (by omega)
    rw[hrow v hv]at this
    exact IN.1 this
   ·rw[qJ (by rw[hu.1,hlen];omega),qJ (by omega)]
  have hst:=RQ hmc bE hf;have hpos:=hmc.pos
  have hq:∀ {op:Op} {Q:AcK->Bool},Vl m.vars.length op Q->op (uV m l d)=uV m l d->Q (dN (uV m l d))=true:=λho hs=>by
   obtain⟨n,hn⟩:=Acu _ (hne 0 (by omega))
   obtain⟨us,u1,_,u3⟩:=ho.congr (Q':=λ_=>true) hlen (vs:=[]) hs hf 0 n hn
   rw[huniq us u1]at u3;exact u3
  exact⟨hvl,hin.mono (Wr hmc),λc hc=>hq (Td hmc hc) (hst _ (ou.2 (.inl ⟨rfl,c,hc,rfl⟩))),λc hc=>hq (YC hmc hc) (hst _ (ou.2 (.inr ⟨c,hc,rfl⟩)))⟩
theorem zll{vs:AcK}(hl:vs.length=m.vars.length)(h:Tw vs (vC m))(hc:∀c∈m.cons,yZ c vs=true):wholeM m vs=true:=by
 have h1:((m.vars.zip vs).any λx=> !jP x.2 x.1.lo x.1.hi)=false:=by
  rw[AaA];intro x hx;obtain⟨i,hi,rfl⟩:=Aal hx;have hi1:i<m.vars.length:=by rw[AaC]at hi;omega
  have hi2:i<vs.length:=by omega
  rw[AaM];have:=h.2 i (by rw[wE];exact hi1)
  rw[Z6 hi1,Wq,yI _ hi2]at this
  show¬(!jP vs[i] m.vars[i].lo m.vars[i].hi)=true
  rw[jP,Or this.1,Or this.2];decide
 have h2:(m.cons.any λc=> !yZ c vs)=false:=by
  rw[AaA];exact λc hm=>by rw[hc c hm];decide
 rw[wholeM,h1,h2];rfl
structure SU (m:zG)(g:AcN)(vs:AcK):Prop where
 len:vs.length=m.vars.length
 full:Tw vs (vC m)
 whole:wholeM m vs=true
 giv:∀c∈g,oo c vs=true
inductive GoX (m:zG)(g:AcN)(r:GoR):Prop
 |found (h1:r.verdict=1) (h2:SU m g r.vals) (h3:Sea m g r.learned r.note) (h4:r.learned.length+r.fuel<=300):GoX m g r
 |none (h1:r.verdict=2) (h2:r.vals=[]) (h3:Jf m g r.note.1):GoX m g r
 |unknown (h1:r.verdict=3) (h2:r.vals=[]):GoX m g r
theorem I9:∀(k:Nat) (l:AcN) (p:pW),Sea m g l p->l.length+k<=300->GoX m g (Tm m k g l p)
 |0,l,p,_,_=> .unknown rfl rfl
 |k+1,l,p,h,hk=>by
  rw[Tm]
  by_cases hd:(kD m (g++l)).2.1=true
  ·rw[As hd]
   obtain⟨f1,f2,f3,f4⟩:=zgI h.mc hd;exact .found rfl ⟨f1,f2,zll f1 f2 f3,λc hc=>f4 c (AaB _ hc)⟩ h (by show l.length+k<=300;omega)
  ·rw[An hd]
   obtain⟨_,_,_,q4,q5⟩:=Pf h (by omega) (by simpa using hd)
   by_cases hf:fk m (g++l)=[]
   ·rw[As hf];exact .none rfl rfl (q4 hf)
   ·rw[An hf]
    split
    ·exact .unknown rfl rfl
    ·exact I9 k _ _ (q5 hf).1 (by rw[It,AaW];omega)
theorem BD:∀ {s:AcL},(∀r∈s,0<r.length/\r.length<=6)->∃F,2^F<=XW s/\vI s<=s.length+3*F
 |[],_=>⟨0,BY _,BY _⟩
 |r::s,h=>by
  obtain⟨F,h1,h2⟩:=BD (s:=s) λx hx=>h x (On _ hx)
  obtain⟨h3,h4⟩:=h r (Ks ..);have e:vI (r::s)=r.length+vI s:=by simp[vI]
  rw[e,XW,Aad];rcases Aa8 r.length 2 with h5|h5
  ·refine⟨F,?_,by omega⟩
   rw[show r.length=1 by omega,Nat.one_mul];exact h1
  ·rcases Aa8 r.length 4 with h6|h6
   ·refine⟨F+1,?_,by omega⟩
    have:=AbL h5 h1;rw[Nat.pow_succ];omega
   ·refine⟨F+2,?_,by omega⟩
    have:=AbL h6 h1;rw[Nat.pow_succ,Nat.pow_succ];omega
theorem BE(hr:Right m)(h:XW (vC m)<=100):vI (vC m)<=24:=by
 have hv:=hr.vars
 obtain⟨F,h1,h2⟩:=BD (s:=vC m) λr hx=>⟨zbf hr r hx,by
  obtain⟨i,hi,rfl⟩:=Aal hx;have:=N9 hr i
  rwa[yI _ hi]at this⟩
 rw[wE]at h2
 have hF:F<=6:=by
  rcases Aa8 6 F with h3|h3
  ·have:=Nat.pow_le_pow_right (n:=2) (by decide) h3
   have e:2^(6+1)=128:=by decide
   omega
  ·exact h3
 omega
theorem zeK(hp:XW (vC m)<=100):∀(k e:Nat) (l:AcN) (p:pW),Sea m g l p->l.length+k<=300->aO m (g++l)+e+1<=k->p.1.length+(aO m (g++l)+1)*25<=6000->
  (Tm m k g l p).verdict≠3/\(Tm m k g l p).note.1.length<=6000/\((Tm m k g l p).verdict=1->aO m (g++(Tm m k g l p).learned)+e<=(Tm m k g l p).fuel/\(Tm m k g l p).note.1.length+(aO m (g++(Tm m k g l p).learned)+1)*25<=6000)
 |0,e,l,p,_,_,h,_=>by omega
 |k+1,e,l,p,h,hk,ha,hs=>by
  have hsz:=BE h.mc.right hp;rw[Tm]
  by_cases hd:(kD m (g++l)).2.1=true
  ·rw[As hd]
   exact⟨by show(1:Int)≠3;decide,by show p.1.length<=6000;omega,λ_=>⟨by show aO m (g++l)+e<=k;omega,hs⟩⟩
  ·rw[An hd]
   obtain⟨_,_,q3,q4,q5⟩:=Pf h (by omega) (by simpa using hd)
   by_cases hf:fk m (g++l)=[]
   ·rw[As hf]
    exact⟨by show(2:Int)≠3;decide,by show(gE m (g++l) p).1.length<=6000;omega,λe=>by cases e⟩
   ·rw[An hf]
    obtain⟨q6,q7⟩:=q5 hf;rw[An (by omega)]
    refine zeK hp k e _ _ q6 (by rw[It,AaW];omega) (by omega) ?_
    omega
end
inductive zgJ (m:zG)(fuel:Nat)(a:zc5):Prop
 |found (h1:a.verdict=1) (h2:SU m [] a.values) (h3:a.proof=[]):zgJ m fuel a
 |none (h1:a.verdict=2) (h2:a.values=[]) (h3:Jf m [] a.proof) (h4:a.proof.length<=6000):zgJ m fuel a
 |unknown (h1:a.verdict=3) (h2:a.values=[]) (h3:a.proof=[]) (h4:fuel<300\/100<XW (vC m)):zgJ m fuel a
section
variable {m:zG}{g l:AcN}{p:pW}
def qZ(m:zG)(vs:AcK):AcM:=if m.goal=1 then[⟨m.var,1,vs.getD m.var.toNat 0-1⟩]else if m.goal=2 then[⟨m.var,2,vs.getD m.var.toNat 0+1⟩]else[]
structure zlm where
 verdict:Int
 best:AcK
 nl:Bool
 given:AcN
 fuel:Nat
 learned:AcN
 note:pW
noncomputable def RW (m:zG):Nat->Nat->AcN->AcN->pW->AcK->Bool->zlm
 |0,k,g,l,p,b,nl=>⟨3,b,nl,g,k,l,p⟩
 |n+1,k,g,l,p,b,nl=>if(Tm m k g l p).verdict=3\/(Tm m k g l p).verdict=2 then⟨(Tm m k g l p).verdict,b,nl,g,(Tm m k g l p).fuel,(Tm m k g l p).learned,(Tm m k g l p).note⟩
  else if m.goal=0 then⟨(Tm m k g l p).verdict,(Tm m k g l p).vals,false,g,(Tm m k g l p).fuel,(Tm m k g l p).learned,(Tm m k g l p).note⟩
  else RW m n (Tm m k g l p).fuel [qZ m (Tm m k g l p).vals] (Tm m k g l p).learned (Tm m k g l p).note (Tm m k g l p).vals false
noncomputable def qP (m:zG)(fuel:Nat):zlm:=RW m (fuel+1) fuel [] [] ([],[]) [] true
noncomputable def BF (m:zG)(fuel:Nat):zc5:=
 if m.goal=0/\(qP m fuel).verdict=1 then⟨1,(qP m fuel).best,[]⟩
 else if(qP m fuel).verdict=3\/6000<(qP m fuel).note.1.length then⟨3,[],[]⟩
 else if(qP m fuel).nl=true then⟨2,[],(qP m fuel).note.1⟩
 else⟨1,(qP m fuel).best,(qP m fuel).note.1⟩
theorem WY(hr:Right m)(h:m.goal≠0):(m.goal=1\/m.goal=2)/\0<=m.var/\m.var<(m.vars.length:Int):=by
 have hg:=hr.goal;unfold UM at hg
 split at hg
 ·cases hg
 ·rename_i h1
  split at hg
  ·cases hg
  ·split at hg
   ·cases hg
   ·rename_i h3
    have h1:jP m.goal 0 2=true:=by simpa using h1
    rw[jP,If,Aaq,Aaq]at h1
    have h3:¬qV m.vars.length m.var=true:=λe=>h3 ⟨h,e⟩
    have h4:qV m.vars.length m.var=false:=by simpa using h3
    refine⟨by omega,?_⟩
    have h4:jP m.var 0 ((m.vars.length:Int)-1)=true:=by simpa[qV]using h4
    rw[jP,If,Aaq,Aaq]at h4
    omega
theorem Dl(hr:Right m)(h:m.goal≠0)(vs:AcK):∃x:zC,qZ m vs=[x]/\x.var=m.var/\1<=x.op/\x.op<=4/\vs.getD m.var.toNat 0-1<=x.n/\x.n<=vs.getD m.var.toNat 0+1/\holdsL x (vs.getD m.var.toNat 0)=false:=by
 obtain⟨h1|h1,_⟩:=WY hr h
 ·rw[qZ,As h1]
  refine⟨_,rfl,rfl,by show(1:Int)<=1;decide,by show(1:Int)<=4;decide,Aav _,by show vs.getD m.var.toNat 0-1<=_;omega,?_⟩
  rw[holdsL,As rfl];exact Aah (by show¬vs.getD m.var.toNat 0<=vs.getD m.var.toNat 0-1;omega)
 ·rw[qZ,An (by omega),As h1]
  refine⟨_,rfl,rfl,by show(1:Int)<=2;decide,by show(2:Int)<=4;decide,by show vs.getD m.var.toNat 0-1<=vs.getD m.var.toNat 0+1;omega,Aav _,?_⟩
  rw[holdsL,An (by show¬(2:Int)=1;decide),As rfl];exact Aah (by show¬vs.getD m.var.toNat 0+1<=vs.getD m.var.toNat 0;omega)
theorem Dm(hr:Right m)(h:m.goal≠0){vs:AcK}(hv:Tw vs (vC m)):yK m.vars.length (qZ m vs)=0:=by
 obtain⟨x,e,x1,x2,x3,x4,x5,_⟩:=Dl hr h vs;obtain⟨_,g2,g3⟩:=WY hr h;rw[e];refine Ja (by show 1<=40;decide) λy hy=> ?_
 rw[IN.1 hy];have hvl:m.var.toNat<m.vars.length:=by omega
 have:=hv.2 m.var.toNat (by rw[wE];exact hvl)
 rw[Z6 hvl,Wq]at this
 have hb:=hr.var _ (AS hvl);exact qE.2 ⟨by rw[x1];exact⟨g2,g3⟩,⟨x2,x3⟩,by omega⟩
theorem Jg(hr:Right m)(h:m.goal≠0){vs us:AcK}:oo (qZ m vs) us=true↔(m.goal=1/\us.getD m.var.toNat 0<vs.getD m.var.toNat 0)\/(m.goal=2/\vs.getD m.var.toNat 0<us.getD m.var.toNat 0):=by
 obtain⟨h1|h1,_⟩:=WY hr h
 ·rw[qZ,As h1,oo,Aa3,List.any_nil,AbQ,holdsL,As rfl,Aaq]
  show us.getD m.var.toNat 0<=vs.getD m.var.toNat 0-1↔_
  omega
 ·rw[qZ,An (by omega),As h1,oo,Aa3,List.any_nil,AbQ,holdsL,An (by show¬(2:Int)=1;decide),As rfl,Aaq]
  show vs.getD m.var.toNat 0+1<=us.getD m.var.toNat 0↔_
  omega
def BG(m:zG)(g:AcN):Nat:=(((vC m).getD m.var.toNat []).filter λn=>g.all λc=>c.any λx=>holdsL x n).length
inductive zgK (m:zG):AcN->AcK->Bool->Prop
 |none:zgK m [] [] true
 |some (vs:AcK) (h:SU m [] vs) (hg:m.goal≠0):zgK m [qZ m vs] vs false
theorem BH(hr:Right m)(hgoal:m.goal≠0){b vs:AcK}{nl:Bool}(hg:zgK m g b nl)(hf:SU m g vs):Vw [qZ m vs] g/\BG m [qZ m vs]<BG m g:=by
 obtain⟨g1,g2,g3⟩:=WY hr hgoal;have hvl:m.var.toNat<m.vars.length:=by omega
 have hin:=hf.full.2 m.var.toNat (by rw[wE];exact hvl)
 obtain⟨x,ex,x1,_,_,_,_,x6⟩:=Dl hr hgoal vs
 have hE:Vw [qZ m vs] g:=by
  cases hg with
  |none=>exact λc hc=>by cases hc
  |some _ hb _=>
   intro c hc;refine⟨_,IN.2 rfl,λus hu=> ?_⟩
   rw[IN.1 hc];have h1:=(Jg hr hgoal).1 (hf.giv _ (IN.2 rfl));have h2:=(Jg hr hgoal).1 hu;exact(Jg hr hgoal).2 (by omega)
 refine⟨hE,?_⟩
 have one:∀(x:zC) (n:Int),x.var=m.var->(oo [x] (List.replicate m.var.toNat 0++[n])=holdsL x n):=λx n hx=>by
  rw[oo,Aa3,List.any_nil,AbQ,hx]
  congr 1
  rw[Aam,AaG (by simp)]
  simp
 unfold BG;refine(MO λn hn h=> ?_).2 ⟨_,hin,?_,?_⟩
 ·cases hg with
  |none=>rfl
  |some _ hb _=>
   obtain⟨y,ey,y1,_⟩:=Dl hr hgoal b;rw[ex]at h
   rw[ey];have h:holdsL x n=true:=by simpa using h
   have h1:oo (qZ m vs) (List.replicate m.var.toNat 0++[n])=true:=by rw[ex,one x n x1];exact h
   obtain⟨c',hc',e⟩:=hE (qZ m b) (IN.2 rfl);rw[IN.1 hc']at e
   have h2:=e _ h1;rw[ey,one y n y1]at h2
   simpa using h2
 ·cases hg with
  |none=>rfl
  |some _ hb _=>
   obtain⟨y,ey,y1,_⟩:=Dl hr hgoal b;have:=hf.giv _ (IN.2 rfl);rw[ey,oo,Aa3,List.any_nil,AbQ,y1]at this
   rw[ey];simpa using this
 ·rw[ex];simpa using x6
theorem Sea.give(h:Sea m g l p){g':AcN}(hg:∀c∈g',yK m.vars.length c=0)(hl:g'.length<=1)(he:Vw g' g):Sea m g' l p:=
 ⟨h.chk,hg,h.lc,hl,h.met,Bw h.chk h.gc hg h.cl he h.right,h.cl,h.con,h.ne,h.sub⟩
inductive zeL (m:zG)(r:zlm):Prop
 |any (h0:m.goal=0) (h1:r.verdict=1) (h2:SU m [] r.best):zeL m r
 |none (h1:r.verdict=2) (h2:zgK m r.given r.best r.nl) (h3:Jf m r.given r.note.1):zeL m r
 |unknown (h1:r.verdict=3):zeL m r
theorem MP{vs:AcK}(h:SU m g vs):SU m [] vs:=⟨h.len,h.full,h.whole,λc hc=>by cases hc⟩
theorem BI:∀(n k:Nat) (g l:AcN) (p:pW) (b:AcK) (nl:Bool),Sea m g l p->zgK m g b nl->l.length+k<=300->zeL m (RW m n k g l p b nl)
 |0,k,g,l,p,b,nl,_,_,_=> .unknown rfl
 |n+1,k,g,l,p,b,nl,h,hg,hk=>by
  have h1:=I9 k l p h hk;rw[RW];generalize Tm m k g l p=r at h1
  cases h1 with
  |unknown q1 q2=>rw[As (.inl q1)];exact .unknown q1
  |none q1 q2 q3=>rw[As (.inr q1)];exact .none q1 hg q3
  |found q1 q2 q3 q4=>
   rw[An (by rw[q1];decide)]
   by_cases h0:m.goal=0
   ·rw[As h0];exact .any h0 q1 (MP q2)
   ·rw[An h0]
    have hr:=h.mc.right;obtain⟨e1,e2⟩:=BH hr h0 hg q2;have hc:∀c∈[qZ m r.vals],yK m.vars.length c=0:=λc hc=>by rw[IN.1 hc];exact Dm hr h0 q2.full
    exact BI n _ _ _ _ _ _ (q3.give hc (BY _) e1) (.some _ (MP q2) h0) q4
theorem BJ(hp:XW (vC m)<=100):∀(n k:Nat) (g l:AcN) (p:pW) (b:AcK) (nl:Bool),Sea m g l p->zgK m g b nl->l.length+k<=300->aO m (g++l)+BG m g+1<=k->BG m g+1<=n->p.1.length+(aO m (g++l)+1)*25<=6000->
  (RW m n k g l p b nl).verdict≠3/\(RW m n k g l p b nl).note.1.length<=6000
 |0,k,g,l,p,b,nl,_,_,_,_,h,_=>by omega
 |n+1,k,g,l,p,b,nl,h,hg,hk,ha,hn,hs=>by
  have h1:=I9 k l p h hk;obtain⟨e1,e2,e3⟩:=zeK hp k (BG m g) l p h hk ha hs;rw[RW];generalize Tm m k g l p=r at h1 e1 e2 e3
  cases h1 with
  |unknown q1 q2=>exact At q1 e1
  |none q1 q2 q3=>rw[As (.inr q1)];exact⟨e1,e2⟩
  |found q1 q2 q3 q4=>
   rw[An (by rw[q1];decide)]
   by_cases h0:m.goal=0
   ·rw[As h0];exact⟨e1,e2⟩
   ·rw[An h0]
    have hr:=h.mc.right;obtain⟨f1,f2⟩:=BH hr h0 hg q2;obtain⟨e4,e5⟩:=e3 q1;have hc:∀c∈[qZ m r.vals],yK m.vars.length c=0:=λc hc=>by rw[IN.1 hc];exact Dm hr h0 q2.full
    have hS:=q3.give hc (BY _) f1;have hal:=zjg q3.mc hS.mc (f1.app (.refl r.learned));exact BJ hp n _ _ _ _ _ _ hS (.some _ (MP q2) h0) q4 (by omega) (by omega) (by omega)
inductive zbi (m:zG)(fuel:Nat)(a:zc5):Prop
 |any (h0:m.goal=0) (h1:a.verdict=1) (h2:SU m [] a.values) (h3:a.proof=[]):zbi m fuel a
 |best (h0:m.goal≠0) (h1:a.verdict=1) (h2:SU m [] a.values) (h3:Jf m [qZ m a.values] a.proof) (h4:a.proof.length<=6000):zbi m fuel a
 |none (h1:a.verdict=2) (h2:a.values=[]) (h3:Jf m [] a.proof) (h4:a.proof.length<=6000):zbi m fuel a
 |unknown (h1:a.verdict=3) (h2:a.values=[]) (h3:a.proof=[]) (h4:fuel<300\/100<XW (vC m)):zbi m fuel a
theorem zbj(hm:xE m=0){fuel:Nat}(hf:fuel<=300):zbi m fuel (BF m fuel):=by
 have hb:=Sea.begin hm;have hr:=hb.mc.right;have h1:zeL m (qP m fuel):=BI (fuel+1) fuel [] [] ([],[]) [] true hb .none (by simpa using hf)
 have h2:¬(fuel<300\/100<XW (vC m))->(qP m fuel).verdict≠3/\(qP m fuel).note.1.length<=6000:=λhn=>by
  have ha:=zgE (l:=[]++[]) hr
  have hl:BG m []<=6:=by
   have:=N9 hr m.var.toNat;exact Aai (AaZ ..) this
  exact BJ (by omega) (fuel+1) fuel [] [] ([],[]) [] true hb .none (by simpa using hf) (by omega) (by omega) (by show 0+_<=_;omega)
 rw[BF];generalize qP m fuel=r at h1 h2
 have unk:(r.verdict=3\/6000<r.note.1.length)->(fuel<300\/100<XW (vC m)):=λh=>by
  by_cases hn:fuel<300\/100<XW (vC m)
  ·exact hn
  ·obtain⟨a,b⟩:=h2 hn
   rcases h with h|h
   ·exact At h a
   ·omega
 cases h1 with
 |any q0 q1 q2=>rw[As ⟨q0,q1⟩];exact .any q0 rfl q2 rfl
 |unknown q1=>
  rw[An (by rw[q1];rintro⟨_,h⟩;cases h),As (.inl q1)]
  exact .unknown rfl rfl rfl (unk (.inl q1))
 |none q1 q2 q3=>
  rw[An (by rw[q1];rintro⟨_,h⟩;cases h)]
  by_cases hs:6000<r.note.1.length
  ·rw[As (.inr hs)];exact .unknown rfl rfl rfl (unk (.inr hs))
  ·rw[An (by rw[q1];rintro(h|h);cases h;exact hs h)]
   generalize e1:r.given=g at q2 q3
   generalize e2:r.best=b at q2
   generalize e3:r.nl=nl at q2
   cases q2 with
   |none=>rw[As rfl];exact .none rfl rfl q3 (by show r.note.1.length<=6000;omega)
   |some vs hv h0=>rw[An (by decide)];exact .best h0 rfl hv q3 (by show r.note.1.length<=6000;omega)
end
theorem zjm{x:zC}(h1:yY x.var)(h2:yY x.op)(h3:yY x.n):(zcO x).size<=66:=by
 have a:=eE h1;have b:=eE h2;have c:=eE h3;simp only[zcO,AaX];show _+1+_+1+_+1<=66
 omega
def Mi:wG:= {own:=[],live:=[],n:=17,first:=true}
theorem EZ(b:zG)(a:Int)(R:yL):FD Mi f70 [dM b,dI a] R=
 (yM gA [dM b] .int λc=>
 zJ (!decide (c=0))
 (R (dI c))
 (zJ (decide (a<0))
 (R (dI 3))
 (zJ (decide (300<a))
 (R (dI 3))
 (R (dI 0))))):=by kernel_rfl
theorem GY(a:zG)(b:Int):xZ Mi f70 Xa [dM a,dI b]:=wA func70 (by kernel_rfl) ntmps70 rfl
def Ha:wG:= {own:=[4,7,9],live:=[],n:=10,first:=true}
theorem AY(a:zG)(b:Int)(R:oG):FH Ha f71 [dM a,dI b] [] [] true R=
 (R (.ptr 3000 0) [(3000,.cells (WG a [.sl (.list .lit) ([]:AcN),dI b,.nil,.nil,.own 3001])),(3001,.mp .str .int ([]:List (AcG×Int)))]):=by kernel_rfl
theorem BK(a:zG)(b:Int):nW Ha f71 V1 [dM a,dI b] [] [] true:=mJ func71 (by kernel_rfl) ntmps71 rfl
def YW:wG:= {own:=[],live:=[],n:=14,first:=true}
theorem SV(b:AcP)(c:AcQ)(d e:Int)(f:AcN)(g:Int)(h:AcN)(a:AcS)(i:List (AcG×Int))(R:oG):FH YW f73 [AcY] [(1000,.cells [.sl .var b,.sl .con c,dI d,dI e,.sl (.list .lit) f,dI g,.own 2000,.own 2001,.own 1001]),(2000,.row 53 (.list .lit) h),(2001,.row 129 .step a),(1001,.mp .str .int i)] [AcY] false R=
 (R (.tup [.sl .step a,dB (decide ((a.length:Int)<=6000))]) [(1000,.cells [.sl .var b,.sl .con c,dI d,dI e,.sl (.list .lit) f,dI g,.own 2000,.sl .step a,.own 1001]),(2000,.row 53 (.list .lit) h),(1001,.mp .str .int i)]):=by kernel_rfl
theorem TP(a:AcP)(b:AcQ)(c d:Int)(e:AcN)(f:Int)(g:AcN)(h:AcS)(i:List (AcG×Int)):nW YW f73 rG [AcY] [(1000,.cells [.sl .var a,.sl .con b,dI c,dI d,.sl (.list .lit) e,dI f,.own 2000,.own 2001,.own 1001]),(2000,.row 53 (.list .lit) g),(2001,.row 129 .step h),(1001,.mp .str .int i)] [AcY] false:=mJ func73 (by kernel_rfl) ntmps73 rfl
def aP:wG:= {own:=[60],live:=[(0,([0],[1000,1001,2000,2001]))],n:=77,first:=true}
def jN(R:oG)(a:Nat)(b:AcP)(c:AcQ)(d e:Int)(f:AcN)(g:Int)(h:List (AcG×Int))(i:AcN)(j:AcS):Prop:=LP aP f83 [1,0,0] 0 a ⟨[(0,AcY)],[(1000,.cells [.sl .var b,.sl .con c,dI d,dI e,.sl (.list .lit) f,dI g,.own 2000,.own 2001,.own 1001]),(1001,.mp .str .int h),(2000,.row 53 (.list .lit) i),(2001,.row 129 .step j)]⟩ (zH 0 (eH f83 [AcY] false R))
theorem Z7(R:oG)(n:Nat)(a:AcP)(b:AcQ)(c d:Int)(g:AcN)(f:Int)(h:List (AcG×Int))(e:AcN)(i:AcS):jN R (n+1) a b c d g f h e i=
 (zJ (decide (f=0))
 (R (.tup [.sl .int ([]:AcK),dI 3]) [(1000,.cells [.sl .var a,.sl .con b,dI c,dI d,.sl (.list .lit) g,dI f,.own 2000,.own 2001,.own 1001]),(2000,.row 53 (.list .lit) e),(2001,.row 129 .step i),(1001,.mp .str .int h)])
 (∃o:AcM,∃q:Bool,∃r:AcK,yQ lO [AcY] [(1000,.cells [.sl .var a,.sl .con b,dI c,dI d,.sl (.list .lit) g,dI (yF (f-1)),.own 2000,.own 2001,.own 1001]),(2000,.row 53 (.list .lit) e),(2001,.row 129 .step i),(1001,.mp .str .int h)] (.tup [.slN .lit o q,.sl .int r]) [(1000,.cells [.sl .var a,.sl .con b,dI c,dI d,.sl (.list .lit) g,dI (yF (f-1)),.own 2000,.own 2001,.own 1001]),(2000,.row 53 (.list .lit) e),(2001,.row 129 .step i),(1001,.mp .str .int h)]/\
 zJ q
 (R (.tup [.sl .int r,dI 1]) [(1000,.cells [.sl .var a,.sl .con b,dI c,dI d,.sl (.list .lit) g,dI (yF (f-1)),.own 2000,.own 2001,.own 1001]),(2000,.row 53 (.list .lit) e),(2001,.row 129 .step i),(1001,.mp .str .int h)])
 ((λp:Prop=>((p)/\p))
 (∃s:AcN,yQ qT [AcY] [(1000,.cells [.sl .var a,.sl .con b,dI c,dI d,.sl (.list .lit) g,dI (yF (f-1)),.own 2000,.own 2001,.own 1001]),(2000,.row 53 (.list .lit) e),(2001,.row 129 .step i),(1001,.mp .str .int h)] (.sl (.list .lit) s) [(1000,.cells [.sl .var a,.sl .con b,dI c,dI d,.sl (.list .lit) g,dI (yF (f-1)),.own 2000,.own 2001,.own 1001]),(2000,.row 53 (.list .lit) e),(2001,.row 129 .step i),(1001,.mp .str .int h)]/\
 c2Q Xc [.agg [.sl .var a,.sl .con b,dI c,dI d],.sl (.list .lit) s,.sl .lit o] (.list .lit) .bool λm v=>
 (λp:Prop=>((p)/\p))
 (∃t:AcN,yQ qT [AcY] [(1000,.cells [.sl .var a,.sl .con b,dI c,dI d,.sl (.list .lit) g,dI (yF (f-1)),.own 2000,.own 2001,.own 1001]),(2000,.row 53 (.list .lit) e),(2001,.row 129 .step i),(1001,.mp .str .int h)] (.sl (.list .lit) t) [(1000,.cells [.sl .var a,.sl .con b,dI c,dI d,.sl (.list .lit) g,dI (yF (f-1)),.own 2000,.own 2001,.own 1001]),(2000,.row 53 (.list .lit) e),(2001,.row 129 .step i),(1001,.mp .str .int h)]/\
 yM WB [.agg [.sl .var a,.sl .con b,dI c,dI d],.sl (.list .lit) t,.sl .lit m] (.list .step) λu=>
 ∃j:AcS,∃k:List (AcG×Int),yQ lP [AcY,.sl .step u] [(1000,.cells [.sl .var a,.sl .con b,dI c,dI d,.sl (.list .lit) g,dI (yF (f-1)),.own 2000,.own 2001,.own 1001]),(2000,.row 53 (.list .lit) e),(2001,.row 129 .step i),(1001,.mp .str .int h)] (.tup []) [(1000,.cells [.sl .var a,.sl .con b,dI c,dI d,.sl (.list .lit) g,dI (yF (f-1)),.own 2000,.own 2001,.own 1001]),(2000,.row 53 (.list .lit) e),(2001,.row 129 .step j),(1001,.mp .str .int k)]/\
 zJ (decide ((m.length:Int)=0))
 (R (.tup [.sl .int ([]:AcK),dI 2]) [(1000,.cells [.sl .var a,.sl .con b,dI c,dI d,.sl (.list .lit) g,dI (yF (f-1)),.own 2000,.own 2001,.own 1001]),(2000,.row 53 (.list .lit) e),(2001,.row 129 .step j),(1001,.mp .str .int k)])
 (yM bS [.sl .lit m] (.list .lit) λl=>
 xQ (.list .lit) (e.length+([l]).length)=true/\zJ (decide (600<((e++([l])).length:Int)))
 (R (.tup [.sl .int ([]:AcK),dI 3]) [(1000,.cells [.sl .var a,.sl .con b,dI c,dI d,.sl (.list .lit) g,dI (yF (f-1)),.own 2000,.own 2001,.own 1001]),(2000,.row 53 (.list .lit) (e++([l]))),(2001,.row 129 .step j),(1001,.mp .str .int k)])
 (zJ (decide (6000<(j.length:Int)))
 (R (.tup [.sl .int ([]:AcK),dI 3]) [(1000,.cells [.sl .var a,.sl .con b,dI c,dI d,.sl (.list .lit) g,dI (yF (f-1)),.own 2000,.own 2001,.own 1001]),(2000,.row 53 (.list .lit) (e++([l]))),(2001,.row 129 .step j),(1001,.mp .str .int k)])
 (jN R n a b c d g (yF (f-1)) k (e++([l])) j)))))))):=by kernel_rfl
theorem Oz(a:AcP)(b:AcQ)(c d:Int)(e:AcN)(f:Int)(g:AcN)(h:AcS)(i:List (AcG×Int))(R:oG):FH aP f83 [AcY] [(1000,.cells [.sl .var a,.sl .con b,dI c,dI d,.sl (.list .lit) e,dI f,.own 2000,.own 2001,.own 1001]),(2000,.row 53 (.list .lit) g),(2001,.row 129 .step h),(1001,.mp .str .int i)] [AcY] false R=
 (∃n0,jN R n0 a b c d e f i g h):=by kernel_rfl
theorem Pg(a:AcP)(b:AcQ)(c d:Int)(e:AcN)(f:Int)(g:AcN)(h:AcS)(i:List (AcG×Int)):nW aP f83 iB [AcY] [(1000,.cells [.sl .var a,.sl .con b,dI c,dI d,.sl (.list .lit) e,dI f,.own 2000,.own 2001,.own 1001]),(2000,.row 53 (.list .lit) g),(2001,.row 129 .step h),(1001,.mp .str .int i)] [AcY] false:=mJ func83 (by kernel_rfl) ntmps83 rfl
def uH:wG:= {own:=[7,8,11,15,45,59],live:=[(0,([0,4,5,6],[15,1000,1001,2000,2001])),(2,([0,8,34,35,36],[8,1000,1001,2000,2001]))],n:=71,nn:=[2,15],first:=true}
def mV(b:List (AcG×Int))(R:oG)(c:Nat)(a:AcL)(d:AcP)(e:AcQ)(f g:Int)(h:AcN)(i:Int)(j:Nat)(k:Int)(l:AcK)(m:AcN)(n:AcS):Prop:=LP uH f130 [1,1,1,1,0,0,0,1,0,1,0,1,0,1,0,1,0,0] 2 j ⟨[(0,AcY),(8,.own 8),(34,dS a),(35,dI (a.length:Int)),(36,dI k)],[(8,.row 3 .int l),(1000,.cells [.sl .var d,.sl .con e,dI f,dI g,.sl (.list .lit) h,dI i,.own 2000,.own 2001,.own 1001]),(1001,.mp .str .int b),(2000,.row 53 (.list .lit) m),(2001,.row 129 .step n)]⟩ (zH 2 (sK uH f130 [1,1,1,1,0,0,0,1,0,1,0,1,0,1,1] 1 (sK uH f130 [1,1,1,1,0,0,0,1,0,1,1] 1 (zH 1 (iK uH f130 [1,1,1,1,0,0,0] 0 c (zH 0 (sK uH f130 [1,1,1,1,1] 0 (eH f130 [AcY] false R))))))))
def mW(a:List (AcG×Int))(R:oG)(b:AcN)(c:Nat)(d:AcL)(e:AcM)(f:AcP)(g:AcQ)(h i:Int)(j:AcN)(k:Int)(l:AcN)(m:AcS):Prop:=LP uH f130 [1,1,1,1,0,0,0] 0 c ⟨[(0,AcY),(4,.sl (.list .lit) b),(5,.ownN 15),(6,dS d)],[(15,.row 114 .lit e),(1000,.cells [.sl .var f,.sl .con g,dI h,dI i,.sl (.list .lit) j,dI k,.own 2000,.own 2001,.own 1001]),(1001,.mp .str .int a),(2000,.row 53 (.list .lit) l),(2001,.row 129 .step m)]⟩ (zH 0 (sK uH f130 [1,1,1,1,1] 0 (eH f130 [AcY] false R)))
theorem Tn(d:List (AcG×Int))(R:oG)(m:Nat)(a:AcL)(e:AcP)(f:AcQ)(g h:Int)(i:AcN)(j:Int)(n:Nat)(b:Int)(c:AcK)(k:AcN)(l:AcS):mV d R m a e f g h i j (n+1) b c k l=
 (zJ (decide (b<(a.length:Int)))
 (xM b a.length=true/\xM 0 (zW (.list .int) a b.toNat).length=true/\xQ .int (c.length+([zW .int (zW (.list .int) a b.toNat) 0]).length)=true/\mV d R m a e f g h i j n (yF (b+1)) (c++([zW .int (zW (.list .int) a b.toNat) 0])) k l)
 (R (.tup [.slN .lit ([]:AcM) true,.sl .int c]) [(1000,.cells [.sl .var e,.sl .con f,dI g,dI h,.sl (.list .lit) i,dI j,.own 2000,.own 2001,.own 1001]),(2000,.row 53 (.list .lit) k),(2001,.row 129 .step l),(1001,.mp .str .int d)])):=by kernel_rfl
theorem To(h:List (AcG×Int))(R:oG)(m:AcN)(n:Nat)(b:AcL)(c:AcM)(d:AcP)(e:AcQ)(f g:Int)(i:AcN)(j:Int)(k:AcN)(l:AcS):mW h R m (n+1) b c d e f g i j k l=
 (yM xF [dS b] .bool λo=>
 zJ (!o)
 (yM WC [dS b] .int λa=>
 zJ (decide (a<0))
 (∃n2,mV h R n b d e f g i j n2 0 ([]:AcK) k l)
 ((λp:Prop=>((((xM a b.length=true/\xM 0 (zW (.list .int) b a.toNat).length=true/\xQ .lit (c.length+([(⟨a,3,zW .int (zW (.list .int) b a.toNat) 0⟩:zC)]).length)=true/\p)/\xM a b.length=true/\xM 0 (zW (.list .int) b a.toNat).length=true/\xQ .lit (c.length+([(⟨a,3,zW .int (zW (.list .int) b a.toNat) 0⟩:zC)]).length)=true/\p))/\(xM a b.length=true/\xM 0 (zW (.list .int) b a.toNat).length=true/\((xQ .lit (c.length+([(⟨a,3,zW .int (zW (.list .int) b a.toNat) 0⟩:zC)]).length)=true/\p)/\xQ .lit (c.length+([(⟨a,3,zW .int (zW (.list .int) b a.toNat) 0⟩:zC)]).length)=true/\p))/\xM a b.length=true/\xM 0 (zW (.list .int) b a.toNat).length=true/\xQ .lit (c.length+([(⟨a,3,zW .int (zW (.list .int) b a.toNat) 0⟩:zC)]).length)=true/\p))
 (yM sY [dS b,.clo nJ none [.iptr [dI a] 0,.iptr [dI a,dI 3,dI (zW .int (zW (.list .int) b a.toNat) 0)] 0]] (.list (.list .int)) λq=>
 yM dP [.agg [.sl .var d,.sl .con e,dI f,dI g],dS q,dB true,.sl (.list .lit) m] (.list (.list .int)) λr=>
 mW h R m n r (c++([(⟨a,3,zW .int (zW (.list .int) b a.toNat) 0⟩:zC)])) d e f g i j k l)))
 (R (.tup [.slN .lit c false,.sl .int ([]:AcK)]) [(1000,.cells [.sl .var d,.sl .con e,dI f,dI g,.sl (.list .lit) i,dI j,.own 2000,.own 2001,.own 1001]),(2000,.row 53 (.list .lit) k),(2001,.row 129 .step l),(1001,.mp .str .int h)])):=by kernel_rfl
theorem RX(a:AcP)(b:AcQ)(c d:Int)(e:AcN)(f:Int)(g:AcN)(h:AcS)(i:List (AcG×Int))(R:oG):FH uH f130 [AcY] [(1000,.cells [.sl .var a,.sl .con b,dI c,dI d,.sl (.list .lit) e,dI f,.own 2000,.own 2001,.own 1001]),(2000,.row 53 (.list .lit) g),(2001,.row 129 .step h),(1001,.mp .str .int i)] [AcY] false R=
 (∃j:AcN,yQ qT [AcY] [(1000,.cells [.sl .var a,.sl .con b,dI c,dI d,.sl (.list .lit) e,dI f,.own 2000,.own 2001,.own 1001]),(2000,.row 53 (.list .lit) g),(2001,.row 129 .step h),(1001,.mp .str .int i)] (.sl (.list .lit) j) [(1000,.cells [.sl .var a,.sl .con b,dI c,dI d,.sl (.list .lit) e,dI f,.own 2000,.own 2001,.own 1001]),(2000,.row 53 (.list .lit) g),(2001,.row 129 .step h),(1001,.mp .str .int i)]/\
 yM iC [.agg [.sl .var a,.sl .con b,dI c,dI d]] (.list (.list .int)) λk=>
 yM dP [.agg [.sl .var a,.sl .con b,dI c,dI d],dS k,dB true,.sl (.list .lit) j] (.list (.list .int)) λl=>
 ∃n0,mW i R j n0 l ([]:AcM) a b c d e f g h):=by kernel_rfl
theorem SW(a:AcP)(b:AcQ)(c d:Int)(e:AcN)(f:Int)(g:AcN)(h:AcS)(i:List (AcG×Int)):nW uH f130 lO [AcY] [(1000,.cells [.sl .var a,.sl .con b,dI c,dI d,.sl (.list .lit) e,dI f,.own 2000,.own 2001,.own 1001]),(2000,.row 53 (.list .lit) g),(2001,.row 129 .step h),(1001,.mp .str .int i)] [AcY] false:=mJ func130 (by kernel_rfl) ntmps130 rfl
def X8:wG:= {own:=[3,8,13],live:=[],n:=14,first:=true}
theorem Ph(c:AcP)(d:AcQ)(e f:Int)(a:AcN)(g:Int)(b:AcN)(h:AcS)(i:List (AcG×Int))(R:oG):FH X8 f132 [AcY] [(1000,.cells [.sl .var c,.sl .con d,dI e,dI f,.sl (.list .lit) a,dI g,.own 2000,.own 2001,.own 1001]),(2000,.row 53 (.list .lit) b),(2001,.row 129 .step h),(1001,.mp .str .int i)] [AcY] false R=
 ((λp:Prop=>((((((xQ (.list .lit) (([]:AcN).length+a.length)=true/\xQ (.list .lit) ((([]:AcN)++a).length+b.length)=true/\p)/\xQ (.list .lit) (([]:AcN).length+a.length)=true/\xQ (.list .lit) ((([]:AcN)++a).length+b.length)=true/\p))/\xQ (.list .lit) (([]:AcN).length+a.length)=true/\xQ (.list .lit) ((([]:AcN)++a).length+b.length)=true/\p))/\(((((xQ (.list .lit) (([]:AcN).length+a.length)=true/\xQ (.list .lit) ((([]:AcN)++a).length+b.length)=true/\p)/\xQ (.list .lit) (([]:AcN).length+a.length)=true/\xQ (.list .lit) ((([]:AcN)++a).length+b.length)=true/\p))/\xQ (.list .lit) (([]:AcN).length+a.length)=true/\xQ (.list .lit) ((([]:AcN)++a).length+b.length)=true/\p))/\((xQ (.list .lit) (([]:AcN).length+a.length)=true/\xQ (.list .lit) ((([]:AcN)++a).length+b.length)=true/\p)/\xQ (.list .lit) (([]:AcN).length+a.length)=true/\xQ (.list .lit) ((([]:AcN)++a).length+b.length)=true/\p)))
 (R (.sl (.list .lit) ((([]:AcN)++a)++b)) [(1000,.cells [.sl .var c,.sl .con d,dI e,dI f,.sl (.list .lit) a,dI g,.own 2000,.own 2001,.own 1001]),(2000,.row 53 (.list .lit) b),(2001,.row 129 .step h),(1001,.mp .str .int i)])):=by kernel_rfl
theorem RY(a:AcP)(b:AcQ)(c d:Int)(e:AcN)(f:Int)(g:AcN)(h:AcS)(i:List (AcG×Int)):nW X8 f132 qT [AcY] [(1000,.cells [.sl .var a,.sl .con b,dI c,dI d,.sl (.list .lit) e,dI f,.own 2000,.own 2001,.own 1001]),(2000,.row 53 (.list .lit) g),(2001,.row 129 .step h),(1001,.mp .str .int i)] [AcY] false:=mJ func132 (by kernel_rfl) ntmps132 rfl
def eJ:wG:= {own:=[5,35],live:=[(0,([0,7,8,9],[1000,1001,2000,2001]))],n:=39,first:=true}
def rJ(a:AcS)(R:oG)(b:Nat)(c:Int)(d:AcP)(e:AcQ)(f g:Int)(h:AcN)(i:Int)(j:List (AcG×Int))(k:AcN)(l:AcS):Prop:=LP eJ f133 [1,0,0] 0 b ⟨[(0,AcY),(7,.sl .step a),(8,dI (a.length:Int)),(9,dI c)],[(1000,.cells [.sl .var d,.sl .con e,dI f,dI g,.sl (.list .lit) h,dI i,.own 2000,.own 2001,.own 1001]),(1001,.mp .str .int j),(2000,.row 53 (.list .lit) k),(2001,.row 129 .step l)]⟩ (zH 0 (eH f133 [AcY] false R))
theorem Ts(a:AcS)(R:oG)(l:Nat)(b:Int)(e:AcP)(f:AcQ)(g h:Int)(i:AcN)(j:Int)(c:List (AcG×Int))(k:AcN)(d:AcS):rJ a R (l+1) b e f g h i j c k d=
 (zJ (decide (b<(a.length:Int)))
 (xM b a.length=true/\yM V7 [.sl .lit ((zW .step a b.toNat).clause)] .str λm=>
 zJ (decide ((gH .str .int m c)=0))
 (Jt (c.length+1)=true/\xQ .step (d.length+([(zW .step a b.toNat)]).length)=true/\rJ a R l (yF (b+1)) e f g h i j (qH .str .int m 1 c) k (d++([(zW .step a b.toNat)])))
 (rJ a R l (yF (b+1)) e f g h i j c k d))
 (R (.tup []) [(1000,.cells [.sl .var e,.sl .con f,dI g,dI h,.sl (.list .lit) i,dI j,.own 2000,.own 2001,.own 1001]),(2000,.row 53 (.list .lit) k),(2001,.row 129 .step d),(1001,.mp .str .int c)])):=by kernel_rfl
theorem RZ(a:AcP)(b:AcQ)(c d:Int)(e:AcN)(f:Int)(g:AcN)(h:AcS)(i:List (AcG×Int))(j:AcS)(R:oG):FH eJ f133 [AcY,.sl .step j] [(1000,.cells [.sl .var a,.sl .con b,dI c,dI d,.sl (.list .lit) e,dI f,.own 2000,.own 2001,.own 1001]),(2000,.row 53 (.list .lit) g),(2001,.row 129 .step h),(1001,.mp .str .int i)] [AcY] false R=
 (∃n0,rJ j R n0 0 a b c d e f i g h):=by kernel_rfl
theorem SX(a:AcP)(b:AcQ)(c d:Int)(e:AcN)(f:Int)(g:AcN)(h:AcS)(i:List (AcG×Int))(j:AcS):nW eJ f133 lP [AcY,.sl .step j] [(1000,.cells [.sl .var a,.sl .con b,dI c,dI d,.sl (.list .lit) e,dI f,.own 2000,.own 2001,.own 1001]),(2000,.row 53 (.list .lit) g),(2001,.row 129 .step h),(1001,.mp .str .int i)] [AcY] false:=mJ func133 (by kernel_rfl) ntmps133 rfl
def WZ:wG:= {own:=[],live:=[(0,([5,6,7],[]))],n:=17,first:=true}
def Tt(a:AcL)(R:yL)(b:Nat)(c:Int):Prop:=LP WZ f138 [1,0,1,0,0] 0 b ⟨[(5,dS a),(6,dI (a.length:Int)),(7,dI c)],[]⟩ (zH 0 (sK WZ f138 [1,1] 0 (eK f138 R)))
theorem Sp(b:AcL)(R:yL)(c:Nat)(a:Int):Tt b R (c+1) a=
 (zJ (decide (a<(b.length:Int)))
 (xM a b.length=true/\zJ (decide (1<((zW (.list .int) b a.toNat).length:Int)))
 (R (dI a))
 (Tt b R c (yF (a+1))))
 (R (dI (-1)))):=by kernel_rfl
theorem BM(a:AcL)(R:yL):FD WZ f138 [dS a] R=
 (∃n0,Tt a R n0 0):=by kernel_rfl
theorem E0(a:AcL):xZ WZ f138 WC [dS a]:=wA func138 (by kernel_rfl) ntmps138 rfl
def Z8:wG:= {own:=[],live:=[],n:=16,first:=true}
theorem TQ(b c d:Int)(a:zC)(R:yL):FD Z8 f191 [dI b,dI c,.iptr [dI d] 0,.iptr [dI a.var,dI a.op,dI a.n] 0] R=
 (zJ (!decide (b=d))
 (R (dB true))
 (R (dB (decide (c=a.n))))):=by kernel_rfl
theorem Tu(b c d:Int)(a:zC):xZ Z8 f191 nJ [dI b,dI c,.iptr [dI d] 0,.iptr [dI a.var,dI a.op,dI a.n] 0]:=wA func191 (by kernel_rfl) ntmps191 rfl
def Uo:wG:= {own:=[5],live:=[(0,([3,6,7,8],[]))],n:=30,first:=true}
def W0(a:AcM)(R:yL)(b:Nat)(c:AcG)(d:Int):Prop:=LP Uo f195 [1,1,0,1,0,0] 0 b ⟨[(3,.str c),(6,.sl .lit a),(7,dI (a.length:Int)),(8,dI d)],[]⟩ (zH 0 (sK Uo f195 [1,1,1] 0 (eK f195 R)))
theorem GZ(a:AcM)(R:yL)(g:Nat)(e:AcG)(b:Int):W0 a R (g+1) e b=
 (zJ (decide (b<(a.length:Int)))
 (xM b a.length=true/\yM nT [dI ((zW .lit a b.toNat).var)] .str λc=>
 c.size+(⟨#[58]⟩:AcG).size<=140737488355328/\yM nT [dI ((zW .lit a b.toNat).op)] .str λd=>
 (c++(⟨#[58]⟩:AcG)).size+d.size<=140737488355328/\((c++(⟨#[58]⟩:AcG))++d).size+(⟨#[58]⟩:AcG).size<=140737488355328/\yM nT [dI ((zW .lit a b.toNat).n)] .str λf=>
 (((c++(⟨#[58]⟩:AcG))++d)++(⟨#[58]⟩:AcG)).size+f.size<=140737488355328/\((((c++(⟨#[58]⟩:AcG))++d)++(⟨#[58]⟩:AcG))++f).size+(⟨#[32]⟩:AcG).size<=140737488355328/\e.size+(((((c++(⟨#[58]⟩:AcG))++d)++(⟨#[58]⟩:AcG))++f)++(⟨#[32]⟩:AcG)).size<=140737488355328/\W0 a R g (e++(((((c++(⟨#[58]⟩:AcG))++d)++(⟨#[58]⟩:AcG))++f)++(⟨#[32]⟩:AcG))) (yF (b+1)))
 (R (.str e))):=by kernel_rfl
theorem AZ(a:AcM)(R:yL):FD Uo f195 [.sl .lit a] R=
 (∃n0,W0 a R n0 (⟨#[]⟩:AcG) 0):=by kernel_rfl
theorem BN(a:AcM):xZ Uo f195 V7 [.sl .lit a]:=wA func195 (by kernel_rfl) ntmps195 rfl
def FL:wG:= {own:=[4,22],live:=[],n:=68,first:=true}
theorem zcQ(g:zG)(k:Int)(R:yL):FD FL f21 [dM g,dI k] R=
 (yM Xa [dM g,dI k] .int λq=>
 zJ (!decide (q=0))
 (R (.tup [.agg [dI 0,.sl .int ([]:AcK),.sl .step ([]:AcS)],dI q]))
 (∃a:zG,∃n:Int,yQ V1 [dM g,dI k] [] (.ptr 3000 0) [(3000,.cells (WG a [.sl (.list .lit) ([]:AcN),dI n,.nil,.nil,.own 3001])),(3001,.mp .str .int ([]:List (AcG×Int)))]/\
 ∃b:Int,∃h:AcK,∃l:Bool,∃c:AcN,∃d:Int,∃e:AcN,∃m:AcS,∃f:List (AcG×Int),yQ cX [AcY] [(1000,.cells [.ptr 1001 0,.slN .int ([]:AcK) true]),(1001,.cells (WG a [.sl (.list .lit) ([]:AcN),dI n,.own 2000,.own 2001,.own 1002])),(2000,.row 53 (.list .lit) ([]:AcN)),(2001,.row 129 .step ([]:AcS)),(1002,.mp .str .int ([]:List (AcG×Int)))] (dI b) [(1000,.cells [.ptr 1001 0,.slN .int h l]),(1001,.cells (WG a [.sl (.list .lit) c,dI d,.own 2000,.own 2001,.own 1002])),(2000,.row 53 (.list .lit) e),(2001,.row 129 .step m),(1002,.mp .str .int f)]/\
 zJ (decide (g.goal=0))
 (zJ (decide (b=1))
 (R (.tup [.agg [dI b,.sl .int h,.sl .step ([]:AcS)],dI 0]))
 (∃i:AcS,∃o:Bool,yQ rG [AcY] [(1000,.cells (WG a [.sl (.list .lit) c,dI d,.own 2000,.own 2001,.own 1001])),(2000,.row 53 (.list .lit) e),(2001,.row 129 .step m),(1001,.mp .str .int f)] (.tup [.sl .step i,dB o]) [(1000,.cells (WG a [.sl (.list .lit) c,dI d,.own 2000,.sl .step i,.own 1001])),(2000,.row 53 (.list .lit) e),(1001,.mp .str .int f)]/\
 zJ (decide (b=3))
 (R (.tup [.agg [dI 3,.sl .int ([]:AcK),.sl .step ([]:AcS)],dI 0]))
 (zJ (!o)
 (R (.tup [.agg [dI 3,.sl .int ([]:AcK),.sl .step ([]:AcS)],dI 0]))
 (zJ l
 (R (.tup [.agg [dI 2,.sl .int ([]:AcK),.sl .step i],dI 0]))
 (R (.tup [.agg [dI 1,.sl .int h,.sl .step i],dI 0]))))))
 (∃j:AcS,∃p:Bool,yQ rG [AcY] [(1000,.cells (WG a [.sl (.list .lit) c,dI d,.own 2000,.own 2001,.own 1001])),(2000,.row 53 (.list .lit) e),(2001,.row 129 .step m),(1001,.mp .str .int f)] (.tup [.sl .step j,dB p]) [(1000,.cells (WG a [.sl (.list .lit) c,dI d,.own 2000,.sl .step j,.own 1001])),(2000,.row 53 (.list .lit) e),(1001,.mp .str .int f)]/\
 zJ (decide (b=3))
 (R (.tup [.agg [dI 3,.sl .int ([]:AcK),.sl .step ([]:AcS)],dI 0]))
 (zJ (!p)
 (R (.tup [.agg [dI 3,.sl .int ([]:AcK),.sl .step ([]:AcS)],dI 0]))
 (zJ l
 (R (.tup [.agg [dI 2,.sl .int ([]:AcK),.sl .step j],dI 0]))
 (R (.tup [.agg [dI 1,.sl .int h,.sl .step j],dI 0]))))))):=by kernel_rfl
theorem A3(a:zG)(b:Int):xZ FL f21 W8 [dM a,dI b]:=wA func21 (by kernel_rfl) ntmps21 rfl
def L4:wG:= {own:=[],live:=[],n:=54,first:=true}
theorem BO(a:zG)(b:AcK)(R:yL):FD L4 f68 [dM a,.sl .int b] R=
 (yM gA [dM a] .int λc=>
 zJ (!decide (c=0))
 (R (.tup [.sl .lit ([]:AcM),dI c]))
 (zJ (!decide ((b.length:Int)=(a.vars.length:Int)))
 (R (.tup [.sl .lit ([]:AcM),dI 1]))
 (zJ (!decide (a.goal=0))
 (xM a.var b.length=true/\xM a.var a.vars.length=true/\zJ (decide ((zW .int b a.var.toNat)<((zW .var a.vars a.var.toNat).lo)))
 (R (.tup [.sl .lit ([]:AcM),dI 3]))
 (xM a.var b.length=true/\xM a.var a.vars.length=true/\zJ (decide (((zW .var a.vars a.var.toNat).hi)<(zW .int b a.var.toNat)))
 (R (.tup [.sl .lit ([]:AcM),dI 3]))
 (yM YF [dM a,.sl .int b] (.list .lit) λd=>
 R (.tup [.sl .lit d,dI 0]))))
 (yM YF [dM a,.sl .int b] (.list .lit) λe=>
 R (.tup [.sl .lit e,dI 0]))))):=by kernel_rfl
theorem E1(a:zG)(b:AcK):xZ L4 f68 Wz [dM a,.sl .int b]:=wA func68 (by kernel_rfl) ntmps68 rfl
def XR:wG:= {own:=[],live:=[(0,([0],[1000,1001,1002,2000,2001]))],n:=51,first:=true}
def eL(R:oG)(a:Nat)(b:AcK)(c:Bool)(d:AcP)(e:AcQ)(f g:Int)(h:AcN)(i:Int)(j:List (AcG×Int))(k:AcN)(l:AcS):Prop:=LP XR f72 [1,0,0] 0 a ⟨[(0,AcY)],[(1000,.cells [.ptr 1001 0,.slN .int b c]),(1001,.cells [.sl .var d,.sl .con e,dI f,dI g,.sl (.list .lit) h,dI i,.own 2000,.own 2001,.own 1002]),(1002,.mp .str .int j),(2000,.row 53 (.list .lit) k),(2001,.row 129 .step l)]⟩ (zH 0 (eH f72 [AcY] false R))
theorem OA(R:oG)(n:Nat)(l:AcK)(m:Bool)(b:AcP)(c:AcQ)(a d:Int)(e:AcN)(o:Int)(p:List (AcG×Int))(q:AcN)(r:AcS):eL R (n+1) l m b c a d e o p q r=
 (∃g:Int,∃h:AcN,∃i:AcS,∃j:List (AcG×Int),∃k:AcK,∃f:Int,yQ iB [AcY] [(1000,.cells [.sl .var b,.sl .con c,dI a,dI d,.sl (.list .lit) e,dI o,.own 2000,.own 2001,.own 1001]),(2000,.row 53 (.list .lit) q),(2001,.row 129 .step r),(1001,.mp .str .int p)] (.tup [.sl .int k,dI f]) [(1000,.cells [.sl .var b,.sl .con c,dI a,dI d,.sl (.list .lit) e,dI g,.own 2000,.own 2001,.own 1001]),(2000,.row 53 (.list .lit) h),(2001,.row 129 .step i),(1001,.mp .str .int j)]/\
 zJ (decide (f=3))
 (R (dI f) [(1000,.cells [.ptr 1001 0,.slN .int l m]),(1001,.cells [.sl .var b,.sl .con c,dI a,dI d,.sl (.list .lit) e,dI g,.own 2000,.own 2001,.own 1002]),(2000,.row 53 (.list .lit) h),(2001,.row 129 .step i),(1002,.mp .str .int j)])
 (zJ (decide (f=2))
 (R (dI f) [(1000,.cells [.ptr 1001 0,.slN .int l m]),(1001,.cells [.sl .var b,.sl .con c,dI a,dI d,.sl (.list .lit) e,dI g,.own 2000,.own 2001,.own 1002]),(2000,.row 53 (.list .lit) h),(2001,.row 129 .step i),(1002,.mp .str .int j)])
 (k≠[]/\zJ (decide (a=0))
 (R (dI f) [(1000,.cells [.ptr 1001 0,.slN .int k false]),(1001,.cells [.sl .var b,.sl .con c,dI a,dI d,.sl (.list .lit) e,dI g,.own 2000,.own 2001,.own 1002]),(2000,.row 53 (.list .lit) h),(2001,.row 129 .step i),(1002,.mp .str .int j)])
 (yM YF [.agg [.sl .var b,.sl .con c,dI a,dI d],.sl .int k] (.list .lit) λs=>
 eL R n k false b c a d ([s]) g j h i)))):=by kernel_rfl
theorem Jh(a:AcP)(b:AcQ)(c d:Int)(e:AcN)(f:Int)(g:AcN)(h:AcS)(i:List (AcG×Int))(j:AcK)(k:Bool)(R:oG):FH XR f72 [AcY] [(1000,.cells [.ptr 1001 0,.slN .int j k]),(1001,.cells [.sl .var a,.sl .con b,dI c,dI d,.sl (.list .lit) e,dI f,.own 2000,.own 2001,.own 1002]),(2000,.row 53 (.list .lit) g),(2001,.row 129 .step h),(1002,.mp .str .int i)] [AcY] false R=
 (∃n0,eL R n0 j k a b c d e f i g h):=by kernel_rfl
theorem LH(a:AcP)(b:AcQ)(c d:Int)(e:AcN)(f:Int)(g:AcN)(h:AcS)(i:List (AcG×Int))(j:AcK)(k:Bool):nW XR f72 cX [AcY] [(1000,.cells [.ptr 1001 0,.slN .int j k]),(1001,.cells [.sl .var a,.sl .con b,dI c,dI d,.sl (.list .lit) e,dI f,.own 2000,.own 2001,.own 1002]),(2000,.row 53 (.list .lit) g),(2001,.row 129 .step h),(1002,.mp .str .int i)] [AcY] false:=mJ func72 (by kernel_rfl) ntmps72 rfl
def FM:wG:= {own:=[],live:=[],n:=31,first:=true}
theorem zcR(a:zG)(b:AcK)(R:yL):FD FM f117 [dM a,.sl .int b] R=
 (zJ (decide (a.goal=1))
 (xM a.var b.length=true/\R (.sl .lit ([(⟨a.var,1,yF ((zW .int b a.var.toNat)-1)⟩:zC)])))
 (zJ (decide (a.goal=2))
 (xM a.var b.length=true/\R (.sl .lit ([(⟨a.var,2,yF ((zW .int b a.var.toNat)+1)⟩:zC)])))
 (R (.sl .lit ([]:AcM))))):=by kernel_rfl
theorem A4(a:zG)(b:AcK):xZ FM f117 YF [dM a,.sl .int b]:=wA func117 (by kernel_rfl) ntmps117 rfl
abbrev hpS(m:zG)(g l:AcN)(fuel:Int)(p:pW):List (Nat×yN):=[(1000,.cells [.sl .var m.vars,.sl .con m.cons,dI m.goal,dI m.var,.sl (.list .lit) g,dI fuel,.own 2000,.own 2001,.own 1001]),(2000,.row 53 (.list .lit) l),(2001,.row 129 .step p.1),(1001,.mp .str .int p.2)]
def zln(x:zC):Prop:=yY x.var/\yY x.op/\yY x.n
theorem zmN{nv:Nat}{x:zC}(hn:nv<=6)(h:gX nv x=0):zln x:=by
 obtain⟨h1,h2,h3⟩:=qE.1 h;exact⟨by unfold yY;omega,by unfold yY;omega,by unfold yY;omega⟩
theorem zjn(c:AcM)(x:zC):ST (c++[x])=ST c++zcO x:=by rw[ST,Abj];rfl
theorem zjo:∀ {c:AcM},(∀x∈c,zln x)->(ST c).size<=c.length*66:=fun {c}=>by
 suffices H:∀(c:AcM) (o:AcG),(∀x∈c,zln x)->(c.foldl (λo x=>o++zcO x) o).size<=o.size+c.length*66 from λh=>by
  have:=H c ⟨#[]⟩ h;rw[ST];have e:(⟨#[]⟩:AcG).size=0:=rfl;omega
 intro c
 induction c with
 |nil=>exact λo _=>by simp
 |cons x c ih=>
  intro o h;have h1:=ih (o++zcO x) λy hy=>h y (On _ hy)
  obtain⟨a,b,d⟩:=h x (Ks ..);have h2:=zjm a b d;rw[AaX]at h1
  rw[AbO,Aad];omega
theorem A5{c:AcM}(hl:c.length<=1000000)(hr:∀x∈c,zln x):tJ V7 [.sl .lit c] (.str (ST c)):=
 BN c λok=>by
  rw[AZ];refine up (I:=λn v a=>W0 c _ n a v) 0 c.length rfl (AT _) (by omega) (λk a=>a=ST (c.take k)) rfl λn k a _ hk ha hn=> ?_
  subst ha;rw[GZ]
  by_cases h:k<c.length
  ·rw[zY h,zT (t:=.lit) h]
   obtain⟨h1,h2,h3⟩:=hr _ (AS h);have s1:=eE h1;have s2:=eE h2;have s3:=eE h3;have s0:=zjo (c:=c.take k) λx hx=>hr x (AbD hx)
   rw[Aaf]at s0
   have z58:(⟨#[58]⟩:AcG).size=1:=rfl;have z32:(⟨#[32]⟩:AcG).size=1:=rfl;refine⟨zE h,zI (t:=.str) (MI h1) ⟨by omega,zI (t:=.str) (MI h2) ⟨?_,?_,zI (t:=.str) (MI h3) ⟨?_,?_,?_,?_⟩⟩⟩⟩
   ·rw[AaX];omega
   ·simp only[AaX];omega
   ·simp only[AaX];omega
   ·simp only[AaX];omega
   ·simp only[AaX];omega
   ·refine hn h _ ?_
    rw[<-Aar h,zjn];rfl
  ·have hk':k=c.length:=by omega
   subst hk';rw[zS,Aaj]
theorem BP(s:AcL):tJ WC [dS s] (dI (RR s)):=
 E0 s λok=>by
  rw[BM];refine Ab (t:=.list .int) (p:=λr:AcK=>decide (1<r.length)) (R:=λd=>d=dI (RR s)) (cW (t:=.list .int) (MD ok)) rfl (λn k h h1 h2=> ?_) λn hR=> ?_
  ·rw[Sp,zY h,zT (t:=.list .int) h]
   refine⟨zE h,zA (λe=>h1 ?_) λe=>h2 ?_⟩
   ·have e:(1:Int)<(s[k].length:Int):=By e
    exact Or (by omega)
   ·have e:¬(1:Int)<(s[k].length:Int):=Aaa e
    exact Aah (by omega)
  ·rw[Sp,zS];exact hR
theorem SY{m:zG}{g l:AcN}{fuel:Int}{p:pW}(hg:g.length<=1000000)(hl:l.length<=1000000):yQ qT [AcY] (hpS m g l fuel p) (.sl (.list .lit) (g++l)) (hpS m g l fuel p):=
 RY m.vars m.cons m.goal m.var g fuel l p.1 p.2 λok ok2=>by
  rw[Ph];simp only[zcb,zcc,Abn,-eq_self];refine⟨yW (t:=.list .lit) ?_,yW (t:=.list .lit) ?_,rfl,rfl⟩
  ·show(0+g.length)*24<=_;omega
  ·rw[Aby];show(g.length+l.length)*24<=_;omega
theorem E3{m:zG}{g l:AcN}{fuel:Int}{p:pW}:yQ rG [AcY] (hpS m g l fuel p) (.tup [.sl .step p.1,dB (decide ((p.1.length:Int)<=6000))]) [(1000,.cells [.sl .var m.vars,.sl .con m.cons,dI m.goal,dI m.var,.sl (.list .lit) g,dI fuel,.own 2000,.sl .step p.1,.own 1001]),(2000,.row 53 (.list .lit) l),(1001,.mp .str .int p.2)]:=
 TP m.vars m.cons m.goal m.var g fuel l p.1 p.2 λok ok2=>by
  rw[SV];exact⟨rfl,rfl⟩
theorem A6(m:zG)(fuel:Int):yQ V1 [dM m,dI fuel] [] (.ptr 3000 0) [(3000,.cells [.sl .var m.vars,.sl .con m.cons,dI m.goal,dI m.var,.sl (.list .lit) [],dI fuel,.nil,.nil,.own 3001]),(3001,.mp .str .int [])]:=
 BK m fuel λok ok2=>by
  rw[AY];exact⟨rfl,rfl⟩
theorem zbk{p:pW}{st:zX}:(note1 p st).1.length<=p.1.length+1/\(note1 p st).2.length<=p.2.length+1:=by
 unfold note1;split
 ·refine⟨by simp,?_⟩
  show(qH .str .int (ST st.clause) 1 p.2).length<=_
  generalize p.2=es
  induction es with
  |nil=>exact BY _
  |cons e es ih=>
   obtain⟨a,b⟩:=e;show(bif Kg .str (ST st.clause) a then(a,(1:Int))::es else(a,b)::qH .str .int (ST st.clause) 1 es).length<=_
   cases Kg .str (ST st.clause) a
   ·rw[Vs,Aad,Aad];omega
   ·rw[AI,Aad,Aad];omega
 ·omega
theorem G0:∀(t:AcS) (p:pW),(oX t p).1.length<=p.1.length+t.length/\(oX t p).2.length<=p.2.length+t.length
 |[],p=>⟨BY _,BY _⟩
 |st::t,p=>by
  have h1:=zbk (p:=p) (st:=st);have h2:=G0 t (note1 p st);show(oX t (note1 p st)).1.length<=_/\(oX t (note1 p st)).2.length<=_
  rw[Aad];omega
theorem BQ{m:zG}{g l:AcN}{fuel:Int}{p:pW}{t:AcS}(h1:p.1.length<=1000000)(h2:p.2.length<=1000000)(ht:t.length<=1000000)(hc:∀st∈t,st.clause.length<=1000000/\∀x∈st.clause,zln x):
  yQ lP [AcY,.sl .step t] (hpS m g l fuel p) (.tup []) (hpS m g l fuel (oX t p)):=
 SX m.vars m.cons m.goal m.var g fuel l p.1 p.2 t λok ok2=>by
  rw[RZ];refine up (I:=λn v (a:pW)=>rJ t _ n v m.vars m.cons m.goal m.var g fuel a.2 l a.1) (a:=p) 0 t.length rfl (AT _) (by omega) (λk a=>a=oX (t.take k) p) rfl λn k a _ hk ha hn=> ?_
  subst ha;show rJ t _ _ _ _ _ _ _ _ _ (oX (t.take k) p).2 _ (oX (t.take k) p).1
  rw[Ts]
  by_cases h:k<t.length
  ·rw[zY h,zT (t:=.step) h]
   obtain⟨c1,c2⟩:=hc _ (AS h)
   have hs:oX (t.take (k+1)) p=note1 (oX (t.take k) p) t[k]:=by
    rw[<-Aar h];exact Abj ..
   obtain⟨n1,n2⟩:=G0 (t.take k) p;rw[Aaf]at n1 n2
   refine⟨zE h,zI (t:=.str) (A5 c1 c2) (zA (λe=> ?_) λe=> ?_)⟩
   ·have e:LG t[k].clause (oX (t.take k) p).2=0:=By e
    refine⟨Or (by omega),yW (t:=.step) (by show((oX (t.take k) p).1.length+1)*40<=_;omega),hn h (_,_) ?_⟩
    rw[hs,note1,As e]
   ·have e:¬LG t[k].clause (oX (t.take k) p).2=0:=Aaa e
    refine hn h _ ?_;rw[hs,note1,An e]
  ·have hk':k=t.length:=by omega
   subst hk';rw[zS,Aaj];exact⟨rfl,rfl⟩
theorem zjp{s:AcL}{k:Nat}(h:k<s.length):dN (s.take (k+1))=dN (s.take k)++[s[k].getD 0 0]:=by
 rw[dN,<-Aar h,AaL];rfl
theorem zlo(s:AcL)(v n:Int)(x:zC)(hx:x.n=n):tJ sY [dS s,.clo nJ none [.iptr [dI v] 0,.iptr (cells .lit x) 0]] (dS (RS s v n)):=
 Z0 (f:=λw k=> !decide ((w:Int)=v)||decide (k=n)) U1 λw hw k hk=>Tu w k v x λok=>by
  rw[TQ];refine zA (λe=> ?_) λe=> ?_
  ·rw[e];rfl
  ·rw[e,Abv,hx]
theorem BR{m:zG}{g l:AcN}{fuel:Int}{p:pW}(hmc:yX m (g++l))(hg:g.length<=1000000)(hl:l.length<=1000000):
  yQ lO [AcY] (hpS m g l fuel p) (.tup [.slN .lit (kD m (g++l)).1 (kD m (g++l)).2.1,.sl .int (kD m (g++l)).2.2]) (hpS m g l fuel p):=
 SW m.vars m.cons m.goal m.var g fuel l p.1 p.2 λok ok2=>by
  rw[RX];have hr:=hmc.right;have hv:=hr.vars;refine⟨_,SY hg hl,zI (Dh hr) (zI (Te hmc (XI hr Vq) (by rw[It];omega)) ?_)⟩
  generalize hL:g++l=L at hmc⊢
  suffices H:∀(k:Nat) (d:AcM),EY m L d->m.vars.length+1<=k+d.length->∀r,r=RT m L k (uV m L d) d->
    mW p.2 (λd h1=>d=.tup [.slN .lit r.1 r.2.1,.sl .int r.2.2]/\h1=hpS m g l fuel p) L k (uV m L d) d m.vars m.cons m.goal m.var g fuel l p.1 from⟨_,H (m.vars.length+1) [] .nil (by simp) _ rfl⟩
  intro k
  induction k with
  |zero=>exact λd hc hk=>At hc.len (by omega)
  |succ k ih=>
   intro d hc hk r hr';rw[To];simp only[zcb,zcc,Abn,-eq_self];rw[RT]at hr'
   have hlen:(uV m L d).length=m.vars.length:=RU hmc;refine zI (vU _) (zA (λe=> ?_) λe=> ?_)
   ·have hf:zZ (uV m L d)=false:=by simpa using e
    rw[An (by rw[hf];decide)]at hr'
    refine zI (BP _) ?_;rcases zba (uV m L d)with⟨eo,h1⟩|⟨v,eo,hv',h1,h2⟩
    ·rw[As (by omega)]at hr'
     rw[Or (show RR (uV m L d)<0 by omega),hr']
     have hne:=sT.1 hf;refine up (I:=λn v a=>mV p.2 _ k (uV m L d) m.vars m.cons m.goal m.var g fuel n v a l p.1) (a:=[]) 0 (uV m L d).length rfl (AT _) (by omega) (λk a=>a=dN ((uV m L d).take k)) rfl λn j a _ hj ha hn=> ?_
     subst ha;rw[Tn]
     by_cases h:j<(uV m L d).length
     ·have hrow:0<(uV m L d)[j].length:=AbC.2 (by have:=hne j h;rwa[yI _ h]at this)
      rw[zY h,zT (t:=.list .int) h];refine⟨zE h,zE (k:=0) hrow,yW (t:=.int) ?_,hn h _ ?_⟩
      ·rw[dN,Aag,Aaf];show(_+1)*8<=_;omega
      ·rw[zjp h];rfl
     ·have hj':j=(uV m L d).length:=by omega
      subst hj';rw[zS,Aaj];exact⟨rfl,rfl⟩
    ·rw[An (by omega),eo,Aab,I5 hmc hf]at hr'
     rw[eo,Aah (show¬(v:Int)<0 by omega)]
     have hvn:v<m.vars.length:=by omega
     have hc':=hc.step hmc hf hvn eo h1 h2;have e1:zW (.list .int) (uV m L d) (v:Int).toNat=(uV m L d).getD v []:=by rw[zT hv',yI _ hv']
     have e2:zW .int ((uV m L d).getD v []) 0=((uV m L d).getD v []).getD 0 0:=rfl;rw[e1,e2];refine⟨zE hv',zE (k:=0) (by omega),yW (t:=.lit) ?_,zI (zlo _ _ _ ⟨v,3,((uV m L d).getD v []).getD 0 0⟩ rfl) (zI (Te hmc ?_ (by rw[<-hL,It];omega)) ?_)⟩
     ·have:=hc.len
      show(d.length+1)*24<=_;omega
     ·exact XI hr (RK Vq (Ta.trans (Wr hmc)))
     ·rw[I5 hmc hf]
      exact ih _ hc' (by rw[It,AaW];omega) r hr'
   ·have hf:zZ (uV m L d)=true:=by simpa using e
    rw[As hf]at hr'
    rw[hr'];exact⟨rfl,rfl⟩
structure Fit (m:zG)(g l:AcN)(k:Nat)(p:pW):Prop where
 sea:Sea m g l p
 fuel:l.length+k<=300
 steps:p.1.length<=6000
 met:p.2.length<=p.1.length
theorem zjq{p:pW}{st:zX}(h:p.2.length<=p.1.length):(note1 p st).2.length<=(note1 p st).1.length:=by
 have h1:=(zbk (p:=p) (st:=st)).2
 by_cases e:LG st.clause p.2=0
 ·have h2:(note1 p st).1.length=p.1.length+1:=by rw[note1,As e];simp
  omega
 ·rw[note1,An e];exact h
theorem G1:∀(t:AcS) (p:pW),p.2.length<=p.1.length->(oX t p).2.length<=(oX t p).1.length
 |[],p,h=>h
 |st::t,p,h=>G1 t (note1 p st) (zjq h)
theorem zcS{m:zG}{g l:AcN}{k:Nat}{p:pW}(h:Fit m g l k p):
  yQ iB [AcY] (hpS m g l (k:Int) p) (.tup [.sl .int (Tm m k g l p).vals,dI (Tm m k g l p).verdict]) (hpS m g (Tm m k g l p).learned ((Tm m k g l p).fuel:Int) (Tm m k g l p).note):=
 Pg m.vars m.cons m.goal m.var g (k:Int) l p.1 p.2 λok ok2=>by
  rw[Oz]
  suffices H:∀(k:Nat) (l:AcN) (p:pW),Fit m g l k p->∀r,r=Tm m k g l p->
    jN (λd h1=>d=.tup [.sl .int r.vals,dI r.verdict]/\h1=hpS m g r.learned (r.fuel:Int) r.note) (k+1) m.vars m.cons m.goal m.var g (k:Int) p.2 l p.1 from⟨_,H k l p h _ rfl⟩
  intro k
  induction k with
  |zero=>
   intro l p h r hr;rw[Z7,hr];exact⟨rfl,rfl⟩
  |succ k ih=>
   intro l p h r hr;have hs:=h.sea;have hf:=h.fuel;have hp:=h.steps;have hm2:=h.met;have hgl:=hs.glen;have hmc:=hs.mc;have hw:yF (((k+1:Nat):Int)-1)=(k:Int):=by rw[wL (by omega) (by omega)];omega
   rw[Z7,hw];simp only[zcb,zcc,Abn,-eq_self];rw[Tm]at hr
   rw[Aah (show¬((k+1:Nat):Int)=0 by omega)]
   refine⟨_,_,_,BR hmc (by omega) (by omega),zA (λhd=> ?_) λhd=> ?_⟩
   ·rw[As hd]at hr
    rw[hr];exact⟨rfl,rfl⟩
   ·rw[An (by rw[hd];decide)]at hr
    obtain⟨q1,q2,q3,q4,q5⟩:=Pf hs (by omega) hd
    have hkf:vB m (g++l) (fk m (g++l)):=q1.sub Pd;have hff:pV m (g++l) (fk m (g++l))=true:=IZ q2;have ht:=Mg hkf hff;have hgl2:(g++l).length<=1000000000:=by rw[It];omega
    have hdl:=q1.dl;have hfew:=EX hmc hgl2 (show(kD m (g++l)).1.length<=1000000 by omega)
    rw[As q2]at hfew
    have hnv:=hmc.right.vars;have hsz:=za7 hmc.right;refine⟨_,SY (by omega) (by omega),Pk (t:=.list .lit) (u:=.bool) hfew ⟨_,SY (by omega) (by omega),zI (t:=.list .step) (Bv hkf) ⟨_,_,BQ (by omega) (by omega) (show(ZB m (g++l) (fk m (g++l))).length<=1000000 by have:=ht.len;omega) (λst hst=> ?_),?_⟩⟩⟩
    ·obtain⟨c1,c2⟩:=hJ (ht.cl st hst)
     exact⟨by omega,λx hx=>zmN hnv (c2 x hx)⟩
    ·have e0:oX (ZB m (g++l) (fewest m (g++l) (kD m (g++l)).1)) p=gE m (g++l) p:=rfl
     have e1:fewest m (g++l) (kD m (g++l)).1=fk m (g++l):=rfl;rw[e0,e1]
     by_cases hf0:fk m (g++l)=[]
     ·rw[As hf0]at hr
      rw[hf0,Or (show(([]:AcM).length:Int)=0 from rfl),hr]
      exact⟨rfl,rfl⟩
     ·rw[An hf0]at hr
      have hl0:(fk m (g++l)).length≠0:=λe=>hf0 (AaS.1 e)
      rw[Aah (show¬((fk m (g++l)).length:Int)=0 by omega)]
      have hfl:=hkf.dl;refine zI (t:=.list .lit) (PE (by omega) hkf.near) ⟨yW (t:=.list .lit) (by show(l.length+1)*24<=_;omega),?_⟩
      have e2:(l++[(fk m (g++l)).map bJ]).length=l.length+1:=by simp
      refine zA (λe=> ?_) λe=>zA (λe'=> ?_) λe'=> ?_
      ·have e:(600:Int)<((l++[(fk m (g++l)).map bJ]).length:Int):=By e
       rw[As (.inl (by omega))]at hr
       rw[hr];exact⟨rfl,rfl⟩
      ·have e':(6000:Int)<((gE m (g++l) p).1.length:Int):=By e'
       rw[As (.inr (by omega))]at hr
       rw[hr];exact⟨rfl,rfl⟩
      ·have e:¬(600:Int)<((l++[(fk m (g++l)).map bJ]).length:Int):=Aaa e
       have e':¬(6000:Int)<((gE m (g++l) p).1.length:Int):=Aaa e';rw[An (by omega)]at hr
       exact ih _ (gE m (g++l) p) ⟨(q5 hf0).1,by omega,by omega,G1 _ _ hm2⟩ r hr
def Pi(m:zG)(fuel:Int):Int:=or0 (xE m) (if fuel<0\/300<fuel then 3 else 0)
theorem E4(m:zG)(fuel:Int):tJ Xa [dM m,dI fuel] (dI (Pi m fuel)):=
 GY m fuel λok=>by
  rw[EZ];refine zI (Xu m) (zA (λe=> ?_) λe=> ?_)
  ·rw[Pi,Qd (oO e)]
  ·rw[Pi,UO (qS e)]
   refine zA (λf=> ?_) λf=>zA (λf'=> ?_) λf'=> ?_
   ·rw[As (.inl (By f))]
   ·rw[As (.inr (By f'))]
   ·have f:=Aaa f
    have f':=Aaa f';rw[An (by omega)]
theorem FN{m:zG}{fuel:Int}(h:Pi m fuel=0):xE m=0/\0<=fuel/\fuel<=300:=by
 obtain⟨h1,h2⟩:=RM h;refine⟨h1,?_⟩;split at h2
 ·cases h2
 ·omega
theorem zjr{m:zG}(h:xE m=0){k:Nat}(hk:k<=300):Fit m [] [] k ([],[]):=⟨.begin h,by simpa using hk,AT _,BY _⟩
theorem Pj{m:zG}(hr:Right m){vs:AcK}(hl:vs.length=m.vars.length)(hb:m.goal≠0->-1000<=vs.getD m.var.toNat 0/\vs.getD m.var.toNat 0<=1000):tJ YF [dM m,.sl .int vs] (.sl .lit (qZ m vs)):=
 A4 m vs λok=>by
  rw[zcR,qZ]
  have hin:m.goal≠0->xM m.var vs.length=true:=λh=>by
   obtain⟨_,a,b⟩:=WY hr h;exact uW.2 ⟨a,by omega⟩
  refine zA (λe=> ?_) λe=>zA (λe'=> ?_) λe'=> ?_
  ·have e:m.goal=1:=By e
   have:=hb (by omega)
   rw[As e];refine⟨hin (by omega),?_⟩
   show D.sl .lit [(⟨m.var,1,yF (vs.getD m.var.toNat 0-1)⟩:zC)]=_
   rw[wL (by omega) (by omega)]
  ·have e:¬m.goal=1:=Aaa e
   have e':m.goal=2:=By e';have:=hb (by omega)
   rw[An e,As e'];refine⟨hin (by omega),?_⟩
   show D.sl .lit [(⟨m.var,2,yF (vs.getD m.var.toNat 0+1)⟩:zC)]=_
   rw[wL (by omega) (by omega)]
  ·rw[An (Aaa e),An (Aaa e')]
theorem zgL{m:zG}(hr:Right m){vs:AcK}(hv:Tw vs (vC m))(h:m.goal≠0): -1000<=vs.getD m.var.toNat 0/\vs.getD m.var.toNat 0<=1000:=by
 obtain⟨_,g2,g3⟩:=WY hr h;have hvl:m.var.toNat<m.vars.length:=by omega
 have:=hv.2 m.var.toNat (by rw[wE];exact hvl)
 rw[Z6 hvl,Wq]at this
 have hb:=hr.var _ (AS hvl);omega
theorem zh3{m:zG}{g:AcN}:∀(k:Nat) (l:AcN) (p:pW),Fit m g l k p->(Tm m k g l p).verdict=1->Fit m g (Tm m k g l p).learned (Tm m k g l p).fuel (Tm m k g l p).note/\(Tm m k g l p).fuel+1<=k
 |0,l,p,h,hv=>by cases hv
 |k+1,l,p,h,hv=>by
  have hs:=h.sea;have hf:=h.fuel;rw[Tm]at hv⊢
  by_cases hd:(kD m (g++l)).2.1=true
  ·rw[As hd]at hv⊢
   exact⟨⟨hs,by show l.length+k<=300;omega,h.steps,h.met⟩,BY _⟩
  ·rw[An hd]at hv⊢
   obtain⟨_,_,_,q4,q5⟩:=Pf hs (by omega) (by simpa using hd)
   by_cases hf0:fk m (g++l)=[]
   ·rw[As hf0]at hv;cases hv
   ·rw[An hf0]at hv⊢
    by_cases hc:600<l.length+1\/6000<(gE m (g++l) p).1.length
    ·rw[As hc]at hv;cases hv
    ·rw[An hc]at hv⊢
     obtain⟨a,b⟩:=zh3 k _ _ ⟨(q5 hf0).1,by rw[It,AaW];omega,by omega,G1 _ _ h.met⟩ hv
     exact⟨a,by omega⟩
abbrev hpB(m:zG)(g l:AcN)(fuel:Int)(p:pW)(b:AcK)(nl:Bool):List (Nat×yN):=[(1000,.cells [.ptr 1001 0,.slN .int b nl]),(1001,.cells [.sl .var m.vars,.sl .con m.cons,dI m.goal,dI m.var,.sl (.list .lit) g,dI fuel,.own 2000,.own 2001,.own 1002]),(2000,.row 53 (.list .lit) l),(2001,.row 129 .step p.1),(1002,.mp .str .int p.2)]
theorem zeM{m:zG}{k:Nat}(h:Fit m [] [] k ([],[])):
  yQ cX [AcY] (hpB m [] [] (k:Int) ([],[]) [] true) (dI (qP m k).verdict) (hpB m (qP m k).given (qP m k).learned ((qP m k).fuel:Int) (qP m k).note (qP m k).best (qP m k).nl):=
 LH m.vars m.cons m.goal m.var [] (k:Int) [] [] [] [] true λok ok2=>by
  rw[Jh]
  suffices H:∀(n k:Nat) (g l:AcN) (p:pW) (b:AcK) (nl:Bool),Fit m g l k p->zgK m g b nl->k+1<=n->∀r,r=RW m n k g l p b nl->
    eL (λd h1=>d=dI r.verdict/\h1=hpB m r.given r.learned (r.fuel:Int) r.note r.best r.nl) n b nl m.vars m.cons m.goal m.var g (k:Int) p.2 l p.1 from⟨_,H (k+1) k [] [] ([],[]) [] true h .none (BY _) _ rfl⟩
  intro n
  induction n with
  |zero=>exact λk g l p b nl _ _ hk=>At hk (by omega)
  |succ n ih=>
   intro k g l p b nl h hg hk r hr;rw[OA];rw[RW]at hr
   have hmr:=h.sea.mc.right;have hx:=I9 k l p h.sea h.fuel;have hfit:=zh3 k l p h;refine⟨_,_,_,_,_,_,zcS h,?_⟩;generalize Tm m k g l p=q at hr hx hfit⊢
   cases hx with
   |unknown q1 q2=>
    rw[As (.inl q1)]at hr
    rw[q1,hr];exact⟨by rw[q1],rfl⟩
   |none q1 q2 q3=>
    rw[As (.inr q1)]at hr
    rw[q1,hr];exact⟨by rw[q1],rfl⟩
   |found q1 q2 q3 q4=>
    rw[An (by rw[q1];decide)]at hr
    obtain⟨hf,hlt⟩:=hfit q1;have hpos:=h.sea.mc.pos;rw[q1];refine⟨λe=> ?_,zA (λe=> ?_) λe=> ?_⟩
    ·have:=q2.len;rw[e]at this;simp at this;omega
    ·rw[As (By e)]at hr
     rw[hr,q1];exact⟨rfl,rfl⟩
    ·have h0:m.goal≠0:=Aaa e
     rw[An h0]at hr
     obtain⟨e1,e2⟩:=BH hmr h0 hg q2;have hc:∀c∈[qZ m q.vals],yK m.vars.length c=0:=λc hc=>by rw[IN.1 hc];exact Dm hmr h0 q2.full
     exact zI (t:=.list .lit) (Pj hmr q2.len (zgL hmr q2.full)) (ih q.fuel _ _ _ _ _ ⟨q3.give hc (BY _) e1,q4,hf.steps,hf.met⟩ (.some _ (MP q2) h0) (by omega) r hr)
noncomputable def kU (m:zG)(fuel:Int):zc5:=if Pi m fuel=0 then BF m fuel.toNat else⟨0,[],[]⟩
theorem Hb(m:zG)(fuel:Int):tJ W8 [dM m,dI fuel] (.tup [TS .ans (kU m fuel),dI (Pi m fuel)]):=
 A3 m fuel λok=>by
  rw[zcQ,kU];refine zI (E4 m fuel) (zA (λe=> ?_) λe=> ?_)
  ·rw[An (oO e)];rfl
  ·have e:=qS e
   obtain⟨h1,h2,h3⟩:=FN e;obtain⟨k,rfl⟩:∃k:Nat,fuel=(k:Int):=⟨fuel.toNat,by omega⟩
   rw[As e,Aab,e,BF];have hrun:=zeM (zjr h1 (k:=k) (by omega))
   refine⟨m,_,A6 m k,_,_,_,_,_,_,_,_,hrun,?_⟩;generalize qP m k=r
   have tail:¬(m.goal=0/\r.verdict=1)->∃p12:AcS,∃p13:Bool,yQ rG [AcY] (hpS m r.given r.learned (r.fuel:Int) r.note) (.tup [.sl .step p12,dB p13]) [(1000,.cells [.sl .var m.vars,.sl .con m.cons,dI m.goal,dI m.var,.sl (.list .lit) r.given,dI (r.fuel:Int),.own 2000,.sl .step p12,.own 1001]),(2000,.row 53 (.list .lit) r.learned),(1001,.mp .str .int r.note.2)]/\
     zJ (decide (r.verdict=3)) (D.tup [.agg [dI 3,.sl .int ([]:AcK),.sl .step ([]:AcS)],dI 0]=.tup [TS .ans (if m.goal=0/\r.verdict=1 then⟨1,r.best,[]⟩else if r.verdict=3\/6000<r.note.1.length then⟨3,[],[]⟩else if r.nl=true then⟨2,[],r.note.1⟩else⟨1,r.best,r.note.1⟩),dI 0])
      (zJ (!p13) (D.tup [.agg [dI 3,.sl .int ([]:AcK),.sl .step ([]:AcS)],dI 0]=.tup [TS .ans (if m.goal=0/\r.verdict=1 then⟨1,r.best,[]⟩else if r.verdict=3\/6000<r.note.1.length then⟨3,[],[]⟩else if r.nl=true then⟨2,[],r.note.1⟩else⟨1,r.best,r.note.1⟩),dI 0])
       (zJ r.nl (D.tup [.agg [dI 2,.sl .int ([]:AcK),.sl .step p12],dI 0]=.tup [TS .ans (if m.goal=0/\r.verdict=1 then⟨1,r.best,[]⟩else if r.verdict=3\/6000<r.note.1.length then⟨3,[],[]⟩else if r.nl=true then⟨2,[],r.note.1⟩else⟨1,r.best,r.note.1⟩),dI 0])
        (D.tup [.agg [dI 1,.sl .int r.best,.sl .step p12],dI 0]=.tup [TS .ans (if m.goal=0/\r.verdict=1 then⟨1,r.best,[]⟩else if r.verdict=3\/6000<r.note.1.length then⟨3,[],[]⟩else if r.nl=true then⟨2,[],r.note.1⟩else⟨1,r.best,r.note.1⟩),dI 0]))):=λhn=>by
    refine⟨_,_,E3 (p:=r.note),?_⟩;rw[An hn];refine zA (λf=> ?_) λf=>zA (λq=> ?_) λq=>zA (λb=> ?_) λb=> ?_
    ·rw[As (.inl (By f))];rfl
    ·have q:¬(r.note.1.length:Int)<=6000:=by simpa using q
     rw[As (.inr (by omega))];rfl
    ·have f:=Aaa f
     have q:(r.note.1.length:Int)<=6000:=by simpa using q
     rw[An (by omega),As b];rfl
    ·have f:=Aaa f
     have q:(r.note.1.length:Int)<=6000:=by simpa using q
     rw[An (by omega),An (by rw[b];decide)];rfl
   refine zA (λf=>zA (λq=> ?_) λq=> ?_) λf=> ?_
   ·have f:m.goal=0:=By f
    have q:r.verdict=1:=By q;rw[As ⟨f,q⟩,q];rfl
   ·exact tail λh=>(Aaa q) h.2
   ·exact tail λh=>(Aaa f) h.1
def bG(m:zG)(vs:AcK):Int:=or0 (xE m) (if vs.length≠m.vars.length then 1 else if m.goal≠0/\(vs.getD m.var.toNat 0<(m.vars.getD m.var.toNat Ty.var.dflt).lo\/(m.vars.getD m.var.toNat Ty.var.dflt).hi<vs.getD m.var.toNat 0)then 3 else 0)
def zcT(m:zG)(vs:AcK):AcM:=if bG m vs=0 then qZ m vs else[]
theorem BS(m:zG)(vs:AcK):tJ Wz [dM m,.sl .int vs] (.tup [.sl .lit (zcT m vs),dI (bG m vs)]):=
 E1 m vs λok=>by
  rw[BO,zcT];refine zI (Xu m) (zA (λe=> ?_) λe=> ?_)
  ·have e:=oO e
   have h:bG m vs=xE m:=Qd e;rw[h,An e]
  ·have e:=qS e
   have hr:=pR e;have h:bG m vs=_:=UO e;refine zA (λf=> ?_) λf=> ?_
   ·have f:¬(vs.length:Int)=(m.vars.length:Int):=by simpa using f
    have h:bG m vs=1:=h.trans (As (by omega))
    rw[h,An (by decide)]
   ·have f:(vs.length:Int)=(m.vars.length:Int):=by simpa using f
    have f:vs.length=m.vars.length:=by omega
    rw[An (not_not_intro f)]at h
    refine zA (λg=> ?_) λg=> ?_
    ·have g0:m.goal≠0:=oO g
     obtain⟨_,g2,g3⟩:=WY hr g0;have i1:xM m.var vs.length=true:=uW.2 ⟨g2,by omega⟩
     have i2:xM m.var m.vars.length=true:=uW.2 ⟨g2,g3⟩;refine⟨i1,i2,zA (λq=> ?_) λq=>⟨i1,i2,zA (λq'=> ?_) λq'=> ?_⟩⟩
     ·rw[As ⟨g0,.inl (By q)⟩]at h
      rw[h,An (by decide)]
     ·rw[As ⟨g0,.inr (By q')⟩]at h
      rw[h,An (by decide)]
     ·have q:=Aaa q
      have q':=Aaa q';rw[An λx=>x.2.elim q q']at h
      rw[h,As rfl];refine zI (t:=.list .lit) (Pj hr f λ_=> ?_) rfl
      have hvl:m.var.toNat<m.vars.length:=by omega
      have hb:=hr.var _ (AS hvl);have e1:zW .var m.vars m.var.toNat=m.vars[m.var.toNat]:=atN hvl;have q2:¬(vs.getD m.var.toNat 0:Int)<m.vars[m.var.toNat].lo:=λx=>q (by rw[e1];exact x)
      have q3:¬(m.vars[m.var.toNat].hi:Int)<vs.getD m.var.toNat 0:=λx=>q' (by rw[e1];exact x)
      omega
    ·have g0:=qS g
     rw[An λx=>x.1 g0]at h
     rw[h,As rfl];exact zI (t:=.list .lit) (Pj hr f λx=>At g0 x) rfl
theorem OB{m:zG}(hr:Right m){vs:AcK}(hl:vs.length=m.vars.length)(hb:m.goal≠0->-1000<=vs.getD m.var.toNat 0/\vs.getD m.var.toNat 0<=1000):tJ jZ [dM m,.sl .int vs] (.sl .lit (qZ m vs)):=
 QB m vs λok=>by
  rw[PU,qZ]
  have hin:m.goal≠0->xM m.var vs.length=true:=λh=>by
   obtain⟨_,a,b⟩:=WY hr h;exact uW.2 ⟨a,by omega⟩
  refine zA (λe=> ?_) λe=>zA (λe'=> ?_) λe'=> ?_
  ·have e:m.goal=1:=By e
   have:=hb (by omega)
   rw[As e];refine⟨hin (by omega),?_⟩
   show D.sl .lit [(⟨m.var,1,yF (vs.getD m.var.toNat 0-1)⟩:zC)]=_
   rw[wL (by omega) (by omega)]
  ·have e:¬m.goal=1:=Aaa e
   have e':m.goal=2:=By e';have:=hb (by omega)
   rw[An e,As e'];refine⟨hin (by omega),?_⟩
   show D.sl .lit [(⟨m.var,2,yF (vs.getD m.var.toNat 0+1)⟩:zC)]=_
   rw[wL (by omega) (by omega)]
  ·rw[An (Aaa e),An (Aaa e')]
theorem SZ(m:zG)(vs:AcK):tJ mI [dM m,.sl .int vs] (dI (bG m vs)):=
 TL m vs λok=>by
  rw[SN];refine zI (t:=.int) (fb m) ?_
  by_cases e:xE m=0
  ·have hr:=pR e
   have h:bG m vs=_:=UO e;refine dt e ?_
   by_cases f:vs.length=m.vars.length
   ·rw[An (not_not_intro f)]at h
    refine dnf (by omega) (dt e ?_)
    by_cases g0:m.goal=0
    ·rw[An λx=>x.1 g0]at h
     exact dnf g0 (by rw[h,e])
    ·obtain⟨_,g2,g3⟩:=WY hr g0
     have i1:xM m.var vs.length=true:=uW.2 ⟨g2,by omega⟩
     have i2:xM m.var m.vars.length=true:=uW.2 ⟨g2,g3⟩;refine LU g0 ⟨i1,i2,zA (λq=> ?_) λq=>⟨i1,i2,zA (λq'=> ?_) λq'=> ?_⟩⟩
     ·rw[As ⟨g0,.inl (By q)⟩]at h;rw[h]
     ·rw[As ⟨g0,.inr (By q')⟩]at h;rw[h]
     ·rw[An λx=>x.2.elim (Aaa q) (Aaa q')]at h
      rw[h,e]
   ·rw[As f]at h
    exact LU (by omega) (df (by decide) (by rw[h]))
  ·have h:bG m vs=xE m:=Qd e
   exact df e (df e (by rw[h]))
theorem zlp:sM uU true [] (vC uU)=[[0,1],[1,2]]:=zgq (cons:=true) zgr wE 1 (by kernel_rfl) (by kernel_rfl) (by kernel_rfl)
theorem zlq:sM uU true [] (RS [[0,1],[1,2]] 0 0)=[[0],[1,2]]:=zgq (cons:=true) zgr (by kernel_rfl) 1 (by kernel_rfl) (by kernel_rfl) (by kernel_rfl)
theorem zlr:sM uU true [] (RS [[0],[1,2]] 1 1)=[[0],[1]]:=zgq (cons:=true) zgr (by kernel_rfl) 1 (by kernel_rfl) (by kernel_rfl) (by kernel_rfl)
theorem zls:kD uU ([]++[])=([],true,[0,1]):=by
 show RT uU [] 3 (sM uU true [] (vC uU)) []=_
 rw[zlp,RT,An (by decide),An (by decide)]
 show RT uU [] 2 (sM uU true [] (RS [[0,1],[1,2]] 0 0)) _=_
 rw[zlq,RT,An (by decide),An (by decide)]
 show RT uU [] 1 (sM uU true [] (RS [[0],[1,2]] 1 1)) _=_
 rw[zlr,RT,An (by decide),As (by decide)]
 rfl
theorem znI{k:Nat}:Tm uU (k+1) [] [] ([],[])=⟨[0,1],1,k,[],([],[])⟩:=by
 rw[Tm,zls,As rfl]
theorem zcU:yX uU ([[⟨1,1,0⟩]]++[]):=kR (by kernel_rfl) λc hc=>by rw[IN.1 hc];kernel_rfl
theorem BT:zZ (sM uU true ([[⟨1,1,0⟩]]++[]) (vC uU))=true:=by
 rw[zmI (cons:=true) zcU wE 2 (by kernel_rfl)]
 exact eF (by rw[wE];exact zcU.pos)
theorem zbl:kD uU ([[⟨1,1,0⟩]]++[])=([],false,[]):=by
 rw[kD,RT,As BT]
theorem zlt:(qP uU 20).verdict=2/\(qP uU 20).best=[0,1]/\(qP uU 20).nl=false/\(qP uU 20).note.1.length<=6000:=by
 have hf:fk uU ([[⟨1,1,0⟩]]++[])=[]:=by
  rw[fk,zbl];exact BC zcU BT
 have hk:vB uU ([[⟨1,1,0⟩]]++[]) []:=⟨by kernel_rfl,by decide,λc hc=>(by rw[IN.1 hc];kernel_rfl),by decide,λx hx=>(by cases hx),λx hx=>(by cases hx)⟩
 have ht:=Mg hk BT
 have hgo:Tm uU 19 [[⟨1,1,0⟩]] [] ([],[])=⟨[],2,18,[],gE uU ([[⟨1,1,0⟩]]++[]) ([],[])⟩:=by
  rw[Tm,An (by rw[zbl];decide),As hf]
 have hlen:(gE uU ([[⟨1,1,0⟩]]++[]) ([],[])).1.length<=6000:=by
  have h1:=(G0 (ZB uU ([[⟨1,1,0⟩]]++[]) (fk uU ([[⟨1,1,0⟩]]++[]))) ([],[])).1;rw[hf]at h1
  have h2:=ht.len;show(oX _ _).1.length<=_
  rw[hf];have:(([],[]):pW).1.length=0:=rfl;omega
 have e:qP uU 20=⟨2,[0,1],false,[[⟨1,1,0⟩]],18,[],gE uU ([[⟨1,1,0⟩]]++[]) ([],[])⟩:=by
  show RW uU 21 20 [] [] ([],[]) [] true=_
  rw[RW,znI,An (by decide),An (by decide)]
  show RW uU 20 19 [[⟨1,1,0⟩]] [] ([],[]) [0,1] false=_
  rw[RW,hgo,As (.inr rfl)]
 rw[e];exact⟨rfl,rfl,rfl,hlen⟩
theorem zcV:(kU uU 20).verdict=1/\(kU uU 20).values=[0,1]/\0<(kU uU 20).proof.length:=by
 obtain⟨h1,h2,h3,h4⟩:=zlt
 have e:kU uU 20=⟨1,[0,1],(qP uU 20).note.1⟩:=by
  rw[kU,As (by kernel_rfl)]
  show BF uU 20=_
  rw[BF,An (by rintro⟨h,_⟩;exact At h (by decide)),An (by rw[h1];rintro(h|h);exact At h (by decide);omega),An (by rw[h3];decide),h2]
 have hs:=zbj (m:=uU) (fuel:=20) (by kernel_rfl) (by decide)
 have e2:kU uU 20=BF uU 20:=by rw[kU,As (by kernel_rfl)];rfl
 rw[<-e2,e]at hs
 rw[e];refine⟨rfl,rfl,?_⟩;cases hs with
 |any q0=>exact At q0 (by decide)
 |none q1=>exact At q1 (by decide)
 |unknown q1=>exact At q1 (by decide)
 |best q0 q1 q2 q3 q4=>
  have:=q3.right;rw[jR,If,fj,If]at this
  exact By this.2.1
theorem zcW{m:zG}{g:AcN}{t:AcS}(hg:∀c∈g,yK m.vars.length c=0)(hgl:g.length<=1)(h:Jf m g t)(hl:t.length<=6000):oL m g t=0:=by
 have e1:wB (λ_ (s:zX)=>yK m.vars.length s.clause) 0 t=0:=Vv λ_ x hx=>h.cl x hx
 have e2:wB (λ_ (s:zX)=>kS m s) 0 t=0:=Vv λ_ x hx=>by
  rw[kS,An];rintro⟨h1,h2⟩;have:=h.con x hx h1;omega
 have e3:XK m.vars.length g=0:=by
  rw[XK,An (by omega)]
  exact Vv λ_ x hx=>hg x hx
 rw[oL,An (by omega),e3,e1,e2];rfl
theorem BU{m:zG}{fuel:Int}(h:xE m=0)(h2:0<=fuel/\fuel<=300):Pi m fuel=0:=by rw[Pi,UO h,An (by omega)]
theorem zh4{m:zG}{fuel:Int}(h:Pi m fuel=0):xE m=0/\∃k:Nat,fuel=k/\zbi m k (kU m fuel):=by
 obtain⟨h1,h2,h3⟩:=FN h;obtain⟨k,rfl⟩:∃k:Nat,fuel=(k:Int):=⟨fuel.toNat,by omega⟩
 refine⟨h1,k,rfl,?_⟩;rw[kU,As h,Aab];exact zbj h1 (by omega)
def BV(nm:AcG)(n:Int):AcG:=((nm++(⟨#[32,61,32]⟩:AcG))++NJ n)++(⟨#[10]⟩:AcG)
def ZC(vs:AcP)(ns:AcK)(k:Nat):AcT:=(List.range k).flatMap λi=>(BV (zW .var vs i).name (zW .int ns i)).data.toList
def zgM(m:zG):AcG:=if m.goal=0 then⟨#[102,111,117,110,100,10]⟩else⟨#[98,101,115,116,10]⟩
def BW(m:zG)(ns:AcK):AcG:=⟨((zgM m).data.toList++ZC m.vars ns m.vars.length).toArray⟩
def Dn(m:zG)(a:zc5):AcG:=if a.verdict=1 then BW m a.values else if a.verdict=2 then⟨#[110,111,110,101,10]⟩else⟨#[117,110,107,110,111,119,110,10]⟩
abbrev zog(buf:AcT):List (Nat×yN):=[(1000,.cells [.slf 1000,.own 2000]),(2000,.row 5 .byte buf)]
theorem MQ{buf:AcT}(s:AcG)(h:buf.length+s.size<=140737488355328):yQ vT [AcY,.str s] (zog buf) (.tup [dI (s.size:Int),.undef]) (zog (buf++s.data.toList)):=
 Y4 _ _ λok ok2=>by
  rw[Xz];exact⟨zcx _ _ (λT h=>zod T _ h),yW (t:=.byte) (by show(_+_)*1<=_;omega),rfl,rfl⟩
theorem Ji{nm:AcG}{n:Int}(h:nm.size<=12)(hn: -1000<=n/\n<=1000):(BV nm n).size<=37:=by
 have:=zcy hn;unfold BV;simp only[AaX,szA,AaT,Aad,Aaz];omega
theorem Mj{vs:AcP}{ns:AcK}{k:Nat}(h1:k<vs.length)(h2:k<ns.length):ZC vs ns (k+1)=ZC vs ns k++(BV vs[k].name ns[k]).data.toList:=by
 unfold ZC;rw[List.range_succ,List.flatMap_append,List.flatMap_singleton,atN (t:=.var) h1,atN (t:=.int) h2]
theorem Jj{vs:AcP}{ns:AcK}(hnm:∀v∈vs,v.name.size<=12)(hb:∀n∈ns,-1000<=n/\n<=1000)(hl:ns.length=vs.length):∀k,k<=vs.length->(ZC vs ns k).length<=k*37
 |0,_=>by simp[ZC]
 |k+1,hk=>by
  have ih:=Jj hnm hb hl k (by omega)
  have z:=Ji (hnm _ (AS (by omega:k<vs.length))) (hb _ (AS (by omega:k<ns.length)))
  have z:(BV vs[k].name ns[k]).data.toList.length<=37:=z;rw[Mj (by omega) (by omega),It];omega
section
variable {m:zG}{ns:AcK}(h:znA m)(hl:ns.length=m.vars.length)(hb:∀n∈ns,-1000<=n/\n<=1000)
include h hl hb
theorem zgN{R:D->Prop}{hd:AcG}(hz:hd.size<=10)(hne:hd.data.toList≠[])(hR:R (.str ⟨(hd.data.toList++ZC m.vars ns m.vars.length).toArray⟩)):∃n,dA m ns R n 0 hd.data.toList:=by
 have hv6:=h.right.vars;have hz':hd.data.toList.length<=10:=hz;refine up (I:=λn v (buf:AcT)=>dA m ns R n v buf) (a:=hd.data.toList) 0 m.vars.length rfl (AT _) (by omega) (λk buf=>buf=hd.data.toList++ZC m.vars ns k) (by simp[ZC]) λn k buf _ hk ha hn=> ?_
 subst ha;have hlen:=Jj h.names hb hl k hk;have hlen2:(hd.data.toList++ZC m.vars ns k).length<=1000:=by rw[It];omega
 rw[KN]
 by_cases hlt:k<m.vars.length
 ·rw[zY hlt,zT (t:=.var) hlt,zT (t:=.int) (by omega:k<ns.length)]
  have z1:=h.names _ (AS hlt);have hb':=hb _ (AS (by omega:k<ns.length))
  have z2:=zcy hb';have z3:=Ji z1 hb';have hw:=MQ (buf:=hd.data.toList++ZC m.vars ns k) (BV m.vars[k].name ns[k]) (by omega)
  refine⟨zE hlt,zE (by omega),zI (t:=.str) (MI (Gm hb')) ⟨?_,?_,?_,_,_,hw,hn hlt _ ?_⟩⟩
  ·simp only[szA,AaT,Aad,Aaz];omega
  ·simp only[AaX,szA,AaT,Aad,Aaz];omega
  ·simp only[AaX,szA,AaT,Aad,Aaz];omega
  ·rw[Mj hlt (by omega),AaH]
 ·have e:k=m.vars.length:=by omega
  subst e;rw[zS];exact⟨_,zaH _ _ _ (λe=>hne (Acy.1 e).1) (by unfold yY;omega),hR⟩
theorem zgO{R:D->Prop}{hd:AcG}(hz:hd.size<=10)(hne:hd.data.toList≠[])(hR:R (.str ⟨(hd.data.toList++ZC m.vars ns m.vars.length).toArray⟩)):∃n,iZ m ns R n 0 hd.data.toList:=by
 have hv6:=h.right.vars;have hz':hd.data.toList.length<=10:=hz;refine up (I:=λn v (buf:AcT)=>iZ m ns R n v buf) (a:=hd.data.toList) 0 m.vars.length rfl (AT _) (by omega) (λk buf=>buf=hd.data.toList++ZC m.vars ns k) (by simp[ZC]) λn k buf _ hk ha hn=> ?_
 subst ha;have hlen:=Jj h.names hb hl k hk;have hlen2:(hd.data.toList++ZC m.vars ns k).length<=1000:=by rw[It];omega
 rw[NI]
 by_cases hlt:k<m.vars.length
 ·rw[zY hlt,zT (t:=.var) hlt,zT (t:=.int) (by omega:k<ns.length)]
  have z1:=h.names _ (AS hlt);have hb':=hb _ (AS (by omega:k<ns.length))
  have z2:=zcy hb';have z3:=Ji z1 hb';have hw:=MQ (buf:=hd.data.toList++ZC m.vars ns k) (BV m.vars[k].name ns[k]) (by omega)
  refine⟨zE hlt,zE (by omega),zI (t:=.str) (MI (Gm hb')) ⟨?_,?_,?_,_,_,hw,hn hlt _ ?_⟩⟩
  ·simp only[szA,AaT,Aad,Aaz];omega
  ·simp only[AaX,szA,AaT,Aad,Aaz];omega
  ·simp only[AaX,szA,AaT,Aad,Aaz];omega
  ·rw[Mj hlt (by omega),AaH]
 ·have e:k=m.vars.length:=by omega
  subst e;rw[zS];exact⟨_,zaH _ _ _ (λe=>hne (Acy.1 e).1) (by unfold yY;omega),hR⟩
theorem E5:tJ Y9 [dM m,.sl .int ns] (TS .str (BW m ns)):=
 Gl m ns λok=>by
  rw[Eo]
  by_cases hg:m.goal=0
  ·refine dt hg ⟨_,_,MQ (buf:=[]) ⟨#[102,111,117,110,100,10]⟩ (by decide),zgN h hl hb (hd:=⟨#[102,111,117,110,100,10]⟩) (by decide) (by decide) ?_⟩
   unfold BW zgM;rw[As hg];rfl
  ·refine df hg ⟨_,_,MQ (buf:=[]) ⟨#[98,101,115,116,10]⟩ (by decide),zgO h hl hb (hd:=⟨#[98,101,115,116,10]⟩) (by decide) (by decide) ?_⟩
   unfold BW zgM;rw[An hg];rfl
end
section
variable {m:zG}{a:zc5}(h:znA m)(hl:a.values.length=m.vars.length)(hb:∀n∈a.values,-1000<=n/\n<=1000)
include h hl hb
end
structure Pc where
 k:Nat
 w:AcT
 sep:AcT
def nw:AcT->Bool
 |[]=>true
 |c::_=> !isW c
def byt(ps:List Pc):AcT:=ps.flatMap λp=>p.w++p.sep
structure POk (p:Pc):Prop where
 sep:∀c∈p.sep,fo c=true
 ne:p.w≠[]
 tok:∀r,(p.k=3\/nw r=true)->yD (p.w++r)=(p.k,p.w.length)
 bad:uO p.k p.w.length (p.w.headD 0)=0
 kind:p.k≠0

section
variable {vs:AcP}(hn:∀v∈vs,zD v.name=true)
include hn
end
end Go.Proofs.YtogdmcebojiojaaGreatDoor
