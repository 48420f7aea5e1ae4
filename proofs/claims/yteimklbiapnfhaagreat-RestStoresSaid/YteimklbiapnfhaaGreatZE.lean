/- Texts of this proof, one behind the other: nothing is handed in but what is proved here; no condition. -/
import Derived.Test.YteimklbiapnfhaaGreatProg
import Derived.Lib.AppendZeros
import Derived.Test.YteimklbiapnfhaaGreatZD
set_option linter.unusedSectionVars false
namespace Go.Proofs.YteimklbiapnfhaaGreat
open Go.RowKit
set_option linter.unusedVariables false
set_option linter.unusedSimpArgs false
variable[Lo]
theorem nodup_iff{l:List Int}:(∀i (hi:i<l.length) j (hj:j<i),l[i]≠l[j]'(by omega))↔l.Nodup:=by
 rw[List.Nodup,List.pairwise_iff_getElem];exact⟨λh i j hi hj hij e=>h j hj i hij e.symm,λh i hi j hj e=>h j i (by omega) hi hj e.symm⟩
theorem zhK:∀(l:List Int) (a:Int),a≤Mo a l∧∀x∈l,x≤Mo a l
 |[],a=>⟨Int.le_refl _,λx h=>by simp at h⟩
 |y::l,a=>by
  obtain⟨h1,h2⟩:=zhK l (if y>a then y else a)
  have e:Mo a (y::l)=Mo (if y>a then y else a) l:=rfl
  rw[e];have h3:a≤(if y>a then y else a)∧y≤(if y>a then y else a):=by split<;>omega
  refine⟨Int.le_trans h3.1 h1,λx hx=> ?_⟩
  rcases List.mem_cons.1 hx with rfl|hx
  ·exact Int.le_trans h3.2 h1
  ·exact h2 x hx
theorem Cf:∀(l:List Int) (a:Int),Mo a l=a∨Mo a l∈l
 |[],a=> .inl rfl
 |y::l,a=>by
  have e:Mo a (y::l)=Mo (if y>a then y else a) l:=rfl
  rw[e];rcases Cf l (if y>a then y else a)with h|h
  ·rw[h]
   split
   ·exact .inr (List.mem_cons_self ..)
   ·exact .inl rfl
  ·exact .inr (List.mem_cons_of_mem _ h)
theorem zmO{l:List Int}{x a:Int}(ha:a∈l):x=Mo a l↔(∀y∈l,y≤x)∧x∈l:=by
 obtain⟨h1,h2⟩:=zhK l a;constructor
 ·rintro rfl
  refine⟨h2,?_⟩;rcases Cf l a with h|h
  ·rw[h];exact ha
  ·exact h
 ·rintro⟨h3,h4⟩
  have:=h2 x h4;rcases Cf l a with h|h
  ·have:=h3 a ha;omega
  ·have:=h3 _ h;omega
theorem Yn{c:zQ}{vs:List Int}{nv:Nat}(hc:uO c nv)(hv:QX vs nv):wO oN [dC c,.sl .int vs] (dB (xD c vs)):=
 Sm c vs λok=>by
  obtain⟨hk1,hk2⟩:=hc.kind;have hm:=hc.many;have hf:=hc.formC;have hxl:(yD c vs).length=c.vars.length:=kY;have hnear:=Sw (c:=c) hv;have hx:∀ {k:Nat} (h:k<c.vars.length),(yD c vs).getD k 0=(yD c vs)[k]:=λh=>yN _ (by omega)
  rw[RP];refine up (I:=λn v a=>lW c vs _ n v a) 0 c.vars.length rfl (Nat.zero_le _) (by omega) (λk a=>a=(yD c vs).take k) (by rw[List.take_zero]) λn k a _ hkl ha hn=> ?_
  subst ha;rw[Uh]
  by_cases h:k<c.vars.length
  ·rw[zR h,zP (t:=.int) h]
   have hv1:=hc.vars _ (List.getElem_mem h);refine⟨zI h,vC.2 (by rw[hv.len];omega),xR (t:=.int) ?_,hn h _ ?_⟩
   ·rw[List.length_take]
    show(_+1)*8≤_
    omega
   ·rw[←List.take_append_getElem (show k<(yD c vs).length by omega),Td h];rfl
  have hk':k=c.vars.length:=by omega
  subst hk';rw[zO,List.take_of_length_le (by omega)]
  by_cases h3:c.kind≤3
  ·refine dt h3 ?_
   have hfc:=hf.sums h3;have hz:(c.consts.zip (yD c vs)).length=c.consts.length:=by rw[List.length_zip];omega
   have hnr:∀x∈c.consts.zip (yD c vs),(-1000≤x.1∧x.1≤1000)∧-50≤x.2∧x.2≤50:=λx hx=>⟨hc.consts _ (List.of_mem_zip hx).1,hnear _ (List.of_mem_zip hx).2⟩
   refine up (I:=λn v a=>lV c vs _ (yD c vs) n a v) 0 (yD c vs).length rfl (Nat.zero_le _) (by omega) (λk a=>a=QW ((c.consts.zip (yD c vs)).take k)) (by rw[List.take_zero];rfl) λn2 k a _ hk2 ha hn2=> ?_
   subst ha;rw[Ug]
   by_cases h:k<(yD c vs).length
   ·have hkc:k<c.consts.length:=by omega
    have hkz:k<(c.consts.zip (yD c vs)).length:=by omega
    have h1:=hc.consts _ (List.getElem_mem hkc);have h2:=hnear _ (List.getElem_mem h);have h3:=QY h1 h2;have h4:=zda λx hx=>hnr x (List.mem_of_mem_take (i:=k) hx)
    rw[List.length_take]at h4
    rw[zR h,zP (t:=.int) h,zP (t:=.int) hkc,Int.mul_comm (yD c vs)[k]];refine⟨zI h,zI hkc,hn2 h _ ?_⟩;rw[Az hkz,List.getElem_zip,tR (n:=_*_) (by omega) (by omega),tR (by omega) (by omega)]
   ·have hk':k=(yD c vs).length:=by omega
    subst hk';rw[zO,List.take_of_length_le (by omega)]
    have:c.kind=1∨c.kind=2∨c.kind=3:=by omega
    rcases this with e|e|e
    ·refine dt e ?_
     simp[xD,e]
    ·refine df (by omega) (dt e ?_)
     simp[xD,e]
    ·refine df (by omega) (df (by omega) (dt e ?_))
     simp[xD,e]
  refine df h3 (df (by omega) (df (by omega) (df (by omega) ?_)))
  refine zA (λe=> ?_) λe4=>zA (λe=> ?_) λe5=>zA (λe=> ?_) λe6=>zA (λe=> ?_) λe7=>zA (λe=> ?_) λe8=>zA (λe=> ?_) λe9=> ?_
  ·have e:=of_decide_eq_true e
   have ht:xD c vs=decide (yD c vs).Nodup:=by simp[xD,e]
   rw[ht];refine up0 (I:=λn v=>nF _ (yD c vs) n v) 0 (yD c vs).length rfl (Nat.zero_le _) (by omega) (λk=>∀i (hi:i<(yD c vs).length) j (hj:j<i),i<k→(yD c vs)[i]≠(yD c vs)[j]'(by omega)) (λi _ j _ h=>absurd h (Nat.not_lt_zero _)) λn5 k _ hk hi hn5=> ?_
   rw[WK]
   by_cases h:k<(yD c vs).length
   ·rw[zR h]
    refine up0 (I:=λn7 v=>nE _ (yD c vs) n5 k n7 v) 0 k rfl (Nat.zero_le _) (by omega) (λl=>∀j (hj:j<k),j<l→(yD c vs)[k]≠(yD c vs)[j]'(by omega)) (λj _ h=>absurd h (Nat.not_lt_zero _)) λn7 l _ hl hi7 hn7=> ?_
    rw[WJ]
    by_cases h7:l<k
    ·have hl2:l<(yD c vs).length:=by omega
     rw[zR h7,zP (t:=.int) h,zP (t:=.int) hl2];refine⟨zI h,zI hl2,zA (λf=> ?_) λf=>hn7 h7 λj hj hjl=> ?_⟩
     ·rw[decide_eq_false (p:=(yD c vs).Nodup) λx=>(nodup_iff.2 x) k h l h7 (of_decide_eq_true f)]
     ·by_cases hjl2:j=l
      ·subst hjl2;exact of_decide_eq_false f
      ·exact hi7 j hj (by omega)
    ·have hl2:l=k:=by omega
     subst hl2;rw[zO];refine hn5 h λi hi2 j hj hik=> ?_
     by_cases hik2:i=l
     ·subst hik2;exact hi7 j hj hj
     ·exact hi i hi2 j hj (by omega)
   ·have hk':k=(yD c vs).length:=by omega
    subst hk';rw[zO,decide_eq_true (p:=(yD c vs).Nodup) (nodup_iff.1 λi hi2 j hj=>hi i hi2 j hj hi2)]
  ·have e:=of_decide_eq_true e
   obtain⟨h2,h1⟩:=hf.element e;have x0:zG .int (yD c vs) 0=(yD c vs)[0]'(by omega):=atN (t:=.int) (by omega)
   have x1:zG .int (yD c vs) 1=(yD c vs)[1]'(by omega):=atN (t:=.int) (by omega)
   have ht:xD c vs=(decide ((0:Int)≤(yD c vs)[0]'(by omega))&&decide ((yD c vs)[0]'(by omega)<c.consts.length)&&decide (c.consts.getD ((yD c vs)[0]'(by omega)).toNat 0=(yD c vs)[1]'(by omega))):=by
    rw[←hx (k:=0) (by omega),←hx (k:=1) (by omega)];simp[xD,e]
   have i0:wC 0 (yD c vs).length=true:=zI (k:=0) (by omega)
   have i1:wC 1 (yD c vs).length=true:=zI (k:=1) (by omega)
   refine up0 (I:=λn v=>nG c _ (yD c vs) n v) 0 c.consts.length rfl (Nat.zero_le _) (by omega) (λk=>∀j:Nat,j<k→(yD c vs)[0]'(by omega)≠(j:Int)) (λj h=>absurd h (Nat.not_lt_zero _)) λn9 k _ hk hi hn9=> ?_
   rw[WL,x0,x1]
   by_cases h:k<c.consts.length
   ·rw[zR h,zP (t:=.int) h]
    refine⟨i0,zA (λf=>⟨zI h,i1,?_⟩) λf=>hn9 h λj hj=> ?_⟩
    ·have f:=of_decide_eq_true f
     rw[ht,f,Int.toNat_natCast,yN _ h,decide_eq_true (p:=(0:Int)≤_) (by omega),decide_eq_true (p:=(k:Int)<_) (by omega)];rfl
    ·by_cases hjk:j=k
     ·subst hjk;exact of_decide_eq_false f
     ·exact hi j (by omega)
   ·have hk':k=c.consts.length:=by omega
    subst hk';rw[zO,ht]
    by_cases g:(0:Int)≤(yD c vs)[0]'(by omega)
    ·have:¬(yD c vs)[0]'(by omega)<(c.consts.length:Int):=λg2=>hi ((yD c vs)[0]'(by omega)).toNat (by omega) (by omega)
     rw[decide_eq_false (p:=_<(c.consts.length:Int)) this,Bool.and_false];rfl
    ·rw[decide_eq_false (p:=(0:Int)≤_) g];rfl
  ·have e:=of_decide_eq_true e
   have ht:xD c vs=c.rows.any λr=>decide (r=yD c vs):=by simp[xD,e]
   rw[ht];refine OZ (I:=λn v=>oB c _ (yD c vs) n v) c.rows (λr=>decide (r=yD c vs)) (by omega) (X:=dB true=dB (c.rows.any λr=>decide (r=yD c vs))) (Y:=dB false=dB (c.rows.any λr=>decide (r=yD c vs))) zkO (λn k h hX hn=> ?_) λn hY=> ?_
   ·rw[fx,zR h,zP (t:=.list .int) h]
    exact⟨zI h,zE (pQ _ _) (zA hX hn)⟩
   ·rw[fx,zO];exact hY
  ·have e:=of_decide_eq_true e
   have h3:=hf.times e;have n0:=hnear _ (List.getElem_mem (show 0<(yD c vs).length by omega))
   have n1:=hnear _ (List.getElem_mem (show 1<(yD c vs).length by omega))
   have:=QY (a:=(yD c vs)[0]) (b:=(yD c vs)[1]) (by omega) n1
   rw[atN (t:=.int) (k:=0) (by omega),atN (t:=.int) (k:=1) (by omega),atN (t:=.int) (k:=2) (by omega),tR (by omega) (by omega),show xD c vs=decide ((yD c vs).getD 0 0*(yD c vs).getD 1 0=(yD c vs).getD 2 0) by simp[xD,e],hx (k:=0) (by omega),hx (k:=1) (by omega),hx (k:=2) (by omega)]
   exact⟨zI (k:=0) (by omega),zI (k:=1) (by omega),zI (k:=2) (by omega),rfl⟩
  ·have e:=of_decide_eq_true e
   have h2:=hf.max e;have x0:zG .int (yD c vs) 0=(yD c vs)[0]'(by omega):=atN (t:=.int) (by omega)
   have i0:wC 0 (yD c vs).length=true:=zI (k:=0) (by omega)
   have hd:1≤((yD c vs).drop 1).length:=by rw[List.length_drop];omega
   have hm1:(yD c vs)[1]'(by omega)∈(yD c vs).drop 1:=by
    have:((yD c vs).drop 1)[0]'(by omega)=(yD c vs)[1]'(by omega):=by rw[List.getElem_drop]
    rw[←this];exact List.getElem_mem _
   have ht:xD c vs=decide ((∀y∈(yD c vs).drop 1,y≤(yD c vs)[0]'(by omega))∧(yD c vs)[0]'(by omega)∈(yD c vs).drop 1):=by
    rw[show xD c vs=decide ((yD c vs).getD 0 0=Mo ((yD c vs).getD 1 0) ((yD c vs).drop 1)) by simp[xD,e],hx (k:=0) (by omega),hx (k:=1) (by omega)]
    exact decide_eq_decide.2 (zmO hm1)
   rw[ht];refine up (I:=λn v a=>rF _ (yD c vs) n a v) 1 (yD c vs).length rfl (by omega) (by omega) (λk a=>(∀i (hi:i<(yD c vs).length),1≤i→i<k→(yD c vs)[i]≤(yD c vs)[0]'(by omega))∧(a=true↔∃i,∃hi:i<(yD c vs).length,1≤i∧i<k∧(yD c vs)[i]=(yD c vs)[0]'(by omega))) ⟨λi _ h1 h2=>by omega,⟨λh=>absurd h (by decide),λ⟨i,_,h1,h2,_⟩=>by omega⟩⟩ λn13 k a hk1 hk ha hn13=> ?_
   obtain⟨ha1,ha2⟩:=ha;rw[X0,x0]
   have mem:∀i (hi:i<(yD c vs).length),1≤i→(yD c vs)[i]∈(yD c vs).drop 1:=λi hi h1=>by
    have:((yD c vs).drop 1)[i-1]'(by rw[List.length_drop];omega)=(yD c vs)[i]:=by rw[List.getElem_drop];congr 1;omega
    rw[←this];exact List.getElem_mem _
   by_cases h:k<(yD c vs).length
   ·rw[zR h,zP (t:=.int) h]
    refine⟨zI h,i0,zA (λf=> ?_) λf=> ?_⟩
    ·have f:(yD c vs)[0]'(by omega)<(yD c vs)[k]:=of_decide_eq_true f
     rw[decide_eq_false λx=>Int.not_le.2 f (x.1 _ (mem k h hk1))]
    ·have f:¬(yD c vs)[0]'(by omega)<(yD c vs)[k]:=of_decide_eq_false f
     have hall:∀i (hi:i<(yD c vs).length),1≤i→i<k+1→(yD c vs)[i]≤(yD c vs)[0]'(by omega):=λi hi h1 h2=>by
      by_cases hik:i=k
      ·subst hik;exact Int.not_lt.1 f
      ·exact ha1 i hi h1 (by omega)
     refine zA (λg=>hn13 h _ ⟨hall,?_⟩) λg=>⟨zI h,i0,hn13 h _ ⟨hall,?_⟩⟩
     ·obtain⟨i,hi,h1,h2,h3⟩:=ha2.1 g
      exact⟨λ_=>⟨i,hi,h1,by omega,h3⟩,λ_=>rfl⟩
     ·rw[decide_eq_true_iff]
      constructor
      ·exact λe=>⟨k,h,hk1,by omega,e⟩
      ·rintro⟨i,hi,h1,h2,h3⟩
       by_cases hik:i=k
       ·subst hik;exact h3
       ·rw[ha2.2 ⟨i,hi,h1,by omega,h3⟩]at g;exact absurd g (by decide)
   ·have hk':k=(yD c vs).length:=by omega
    subst hk';rw[zO]
    congr 1
    rw[Bool.eq_iff_iff,ha2,decide_eq_true_iff];constructor
    ·rintro⟨i,hi,h1,h2,h3⟩
     refine⟨λy hy=> ?_,h3▸mem i hi h1⟩
     obtain⟨j,hj,rfl⟩:=List.getElem_of_mem hy;rw[List.length_drop]at hj
     rw[List.getElem_drop];exact ha1 (1+j) (by omega) (by omega) (by omega)
    ·rintro⟨h1,h2⟩
     obtain⟨j,hj,e⟩:=List.getElem_of_mem h2;rw[List.length_drop]at hj
     rw[List.getElem_drop]at e
     exact⟨1+j,by omega,by omega,by omega,e⟩
  ·have e:=of_decide_eq_true e
   rw[show xD c vs=c.lits.any λl=>holdsL l (vs.getD l.var.toNat 0) by simp[xD,e]]
   refine OZ (I:=λn v=>oC c vs _ n v) c.lits (λl=>holdsL l (vs.getD l.var.toNat 0)) (by omega) (X:=dB true=dB (c.lits.any λl=>holdsL l (vs.getD l.var.toNat 0))) (Y:=dB false=dB (c.lits.any λl=>holdsL l (vs.getD l.var.toNat 0))) zkO (λn k h hX hn=> ?_) λn hY=> ?_
   ·have hl:=tS.1 (hc.lits _ (List.getElem_mem h))
    rw[fy,zR h,zP (t:=.lit) h];exact⟨zI h,zI h,vC.2 (by rw[hv.len];exact hl.1),zE (lY _ _ (UM.2 hl.2.1)) (zA hX hn)⟩
   ·rw[fy,zO];exact hY
  ·have e:c.kind=10:=by simp at e4 e5 e6 e7 e8 e9;omega
   obtain⟨h1,h2⟩:=hf.iff e;have hl0:0<c.lits.length:=by omega
   have hl:=tS.1 (hc.lits _ (List.getElem_mem hl0))
   have ha:(c.lits.take 1).any (λl=>holdsL l (vs.getD l.var.toNat 0))=holdsL c.lits[0] (vs.getD c.lits[0].var.toNat 0):=by
    rw[show c.lits.take 1=[c.lits[0]] by rw[List.take_one,List.head?_eq_getElem?,List.getElem?_eq_getElem hl0];rfl];simp
   have ht:xD c vs=(holdsL c.lits[0] (vs.getD c.lits[0].var.toNat 0)&&decide ((yD c vs)[0]'(by omega)=1)|| !holdsL c.lits[0] (vs.getD c.lits[0].var.toNat 0)&&decide ((yD c vs)[0]'(by omega)=0)):=by
    rw[←hx (k:=0) (by omega),←ha];simp[xD,e]
   have i0:wC 0 c.lits.length=true:=zI (k:=0) hl0;have i1:wC 0 (yD c vs).length=true:=zI (k:=0) (by omega)
   rw[atN (t:=.lit) hl0,atN (t:=.int) (k:=0) (show 0<(yD c vs).length by omega),ht]
   refine⟨i0,i0,vC.2 (by rw[hv.len];exact hl.1),zE (lY _ _ (UM.2 hl.2.1)) (zA (λf=>⟨i1,?_⟩) λf=>⟨i1,?_⟩)⟩
   ·rw[show holdsL c.lits[0] (vs.getD c.lits[0].var.toNat 0)=true from f];simp
   ·rw[show holdsL c.lits[0] (vs.getD c.lits[0].var.toNat 0)=false from f];simp
end Go.Proofs.YteimklbiapnfhaaGreat
namespace Go.Proofs.YteimklbiapnfhaaGreat
open Go.RowKit
set_option linter.unusedVariables false
set_option linter.unusedSimpArgs false
variable[Lo]
end Go.Proofs.YteimklbiapnfhaaGreat
namespace Go.Proofs.YteimklbiapnfhaaGreat
open Go.RowKit
set_option linter.unusedVariables false
set_option linter.unusedSimpArgs false
variable[Lo]
structure iF (s:List (List Int))(nv:Nat):Prop where
 len:s.length=nv
 near:∀v:Nat,∀n∈s.getD v [],-50≤n∧n≤50
 rise:∀l∈s,l.Pairwise (·<·)
theorem iF.nodup{s:List (List Int)}{nv:Nat}(h:iF s nv)(v:Nat):(s.getD v []).Nodup:=by
 by_cases hv:v<s.length
 ·rw[yN _ hv]
  exact(h.rise _ (List.getElem_mem hv)).imp fun {a b} hab=>by omega
 ·rw[pR (by omega)];exact List.nodup_nil
theorem iF.row{s:List (List Int)}{nv:Nat}(h:iF s nv)(v:Nat):(s.getD v []).length≤101:=
 eS (h.nodup v) (lo:= -50) λn hn=>by have:=h.near v n hn;omega
theorem jB{m:zF}{s:List (List Int)}(hm:Right m)(h:rH m s=0):iF s m.vars.length:=by
 obtain⟨h1,h2,h3⟩:=VN.1 h;refine⟨h1,λv n hn=> ?_,h3⟩
 have:=h2 v n hn
 by_cases hv:v<m.vars.length
 ·rw[yN _ hv]at this
  have:=hm.lohi _ (List.getElem_mem hv);omega
 ·rw[pR (by omega)]at hn;cases hn
theorem iF.keep{s:List (List Int)}{nv:Nat}{f:Nat→Int→Bool}(h:iF s nv):iF (pZ f s) nv:=by
 refine⟨rO.trans h.len,λv n hn=> ?_,λl hl=> ?_⟩
 ·rw[qN,List.mem_filter]at hn;exact h.near v n hn.1
 ·obtain⟨i,hi,rfl⟩:=List.getElem_of_mem hl
  have hi':i<s.length:=by rw[rO]at hi;exact hi
  simp only[pZ,List.getElem_mapIdx];exact(h.rise _ (List.getElem_mem hi')).filter _
theorem Km(t:xI)(v:Int):wO dG [.agg [dI t.v,dI t.times],.iptr [dI v] 0] (dB (decide (t.v=v))):=
 MK t v λok=>by rw[Kl]
theorem zhL:∀ {a b:List Int},a.length=b.length→(a.zip b).map Prod.fst=a
 |[],[],_=>rfl
 |x::a,y::b,h=>by rw[List.zip_cons_cons,List.map_cons,zhL (by simpa using h)]
 |[],_::_,h=>by simp at h
 |_::_,[],h=>by simp at h
theorem G4{c:zQ}{nv:Nat}(hc:uO c nv)(hk:c.kind≤3):wO ZF [dC c] (.sl .term (vJ c)):=
 II c λok=>by
  obtain⟨f1,f2⟩:=hc.formC.sums hk;have hm:=hc.many;have hz:(c.vars.zip c.consts).length=c.vars.length:=by rw[List.length_zip];omega
  rw[G2];refine up (I:=λn v a=>gR c _ n v a) 0 c.vars.length rfl (Nat.zero_le _) (by omega) (λk a=>a=iD ((c.vars.zip c.consts).take k)) rfl λn k a _ hk2 ha hn=> ?_
  subst ha;rw[MH]
  by_cases h:k<c.vars.length
  ·have hk3:k<c.consts.length:=by omega
   have hzk:k<(c.vars.zip c.consts).length:=by omega
   have hst:iD ((c.vars.zip c.consts).take (k+1))=Wa (iD ((c.vars.zip c.consts).take k)) c.vars[k] c.consts[k]:=by
    rw[←List.take_append_getElem hzk,Zm,List.getElem_zip]
   have hlen:(iD ((c.vars.zip c.consts).take k)).length≤k:=Nat.le_trans (D8 _) (by rw[List.length_take];omega)
   have hcb:=hc.consts _ (List.getElem_mem hk3);have htm:=Ka ((c.vars.zip c.consts).take k) λx hx=>hc.consts x.2 (List.of_mem_zip (List.mem_of_mem_take hx)).2
   generalize iD ((c.vars.zip c.consts).take k)=o at hst hlen htm⊢
   rw[zR h,zP (t:=.int) h,zP (t:=.int) hk3];refine⟨zI h,zE (rG (p:=λt=>decide (t.v=c.vars[k])) Mk λt ht=>Km t _) ?_⟩
   rcases D2 (λt:xI=>decide (t.v=c.vars[k])) o 0 with⟨e,h2⟩|⟨j,hj,e,h2,h3⟩
   ·rw[e]
    refine dt (by decide) ⟨zI hk3,xR (t:=.term) ?_,hn h _ ?_⟩
    ·show(_+1)*16≤_;omega
    ·rw[hst,zdn λt ht=>of_decide_eq_false (h2 t ht)]
   ·rw[e,Int.zero_add]
    refine df (show¬((j:Int)<0) by omega) ?_
    rw[zP (t:=.term) hj];refine⟨zI hj,zI hk3,zI hj,hn h _ ?_⟩;have:=htm _ (List.getElem_mem hj);rw[List.length_take]at this
    rw[hst,zdo hj (of_decide_eq_true h2) λi hi=>of_decide_eq_false (h3 i hi),tR (by omega) (by omega),Int.toNat_natCast]
  ·have hk':k=c.vars.length:=by omega
   subst hk';rw[zO,←hz,List.take_length];rfl
def Cg(l row:List Int)(k:Int):List Int:=Lib.compact (Z3 (l.flatMap λa=>row.map λn=>a+k*n))
theorem AQ{l row:List Int}{k x:Int}:x∈Cg l row k↔∃a∈l,∃n∈row,x=a+k*n:=by
 rw[Cg,Pe,(List.mergeSort_perm _ _).mem_iff,List.mem_flatMap];constructor
 ·rintro⟨a,ha,h⟩
  obtain⟨n,hn,e⟩:=List.mem_map.1 h;exact⟨a,ha,n,hn,e.symm⟩
 ·rintro⟨a,ha,n,hn,e⟩
  exact⟨a,ha,List.mem_map.2 ⟨n,hn,e.symm⟩⟩
theorem VT{α β:Type}{f:α→List β}{b:Nat}:∀ {l:List α},(∀a∈l,(f a).length≤b)→(l.flatMap f).length≤l.length*b
 |[],_=>by simp
 |a::l,h=>by
  rw[List.flatMap_cons,List.length_append,List.length_cons,Nat.add_mul,Nat.one_mul];have h1:=h a (List.mem_cons_self ..);have h2:=VT λx hx=>h x (List.mem_cons_of_mem _ hx)
  omega
theorem zjb{l row:List Int}{k:Int}{b:Nat}(h:row.length≤b):(Cg l row k).length≤l.length*b:=by
 rw[Cg];refine Nat.le_trans (DR _) ?_;rw[Z3,List.length_mergeSort];exact VT λa _=>by rw[List.length_map];exact h
theorem SE{α β:Type}(f:α→List β){xs:List α}{k:Nat}(h:k<xs.length):(xs.take (k+1)).flatMap f=(xs.take k).flatMap f++f xs[k]:=by
 rw[←List.take_append_getElem h,List.flatMap_append,List.flatMap_cons,List.flatMap_nil,List.append_nil]
theorem Ch{l:List Int}{s:List (List Int)}{nv:Nat}{t:xI}(hs:iF s nv)(hv:0≤t.v∧t.v<nv)(ht: -4000≤t.times∧t.times≤4000)(hl:∀a∈l,-4000000≤a∧a≤4000000)(hll:l.length≤1000000000):
  wO YK [.sl .int l,dS s,.agg [dI t.v,dI t.times]] (.sl .int (Cg l (s.getD t.v.toNat []) t.times)):=
 G3 l s t λok=>by
  have hvl:t.v.toNat<s.length:=by have:=hs.len;omega
  have hrow:=hs.row t.v.toNat;have hnear:=hs.near t.v.toNat;have hat:zG (.list .int) s t.v.toNat=s.getD t.v.toNat []:=rfl;generalize s.getD t.v.toNat []=row at hrow hnear hat⊢
  have hfl:∀k,((l.take k).flatMap λa=>row.map λn=>a+t.times*n).length≤l.length*101:=λk=>by
   refine Nat.le_trans (VT (b:=101) λa _=>by rw[List.length_map];exact hrow) ?_
   rw[List.length_take];exact Nat.mul_le_mul_right _ (by omega)
  rw[Ce];refine up (I:=λn v a=>Z8 l s t _ n v a) 0 l.length rfl (Nat.zero_le _) (by omega) (λk a=>a=(l.take k).flatMap λa=>row.map λn=>a+t.times*n) (by simp) λn k a _ hk ha hn=> ?_
  subst ha;rw[Kk]
  by_cases h:k<l.length
  ·rw[zR h]
   refine⟨zI h,vC.2 (by have:=hs.len;omega),?_⟩
   refine up (I:=λn2 v a=>Z7 l s t _ n (k:Int) n2 v a) 0 row.length rfl (Nat.zero_le _) (by omega) (λj a=>a=((l.take k).flatMap λa=>row.map λn=>a+t.times*n)++(row.take j).map λn=>l[k]+t.times*n) (by simp) λn2 j a _ hj ha2 hn2=> ?_
   subst ha2;rw[Kj,hat]
   by_cases h2:j<row.length
   ·have b1:=hl _ (List.getElem_mem h)
    have b2:=hnear _ (List.getElem_mem h2)
    have b3: -200000≤t.times*row[j]∧t.times*row[j]≤200000:=by
     have:(t.times*row[j]).natAbs≤4000*50:=by rw[Int.natAbs_mul];exact Nat.mul_le_mul (by omega) (by omega)
     omega
    rw[zR h2,zP (t:=.int) h,zP (t:=.int) h2,tR (n:=t.times*row[j]) (by omega) (by omega),tR (by omega) (by omega)]
    refine⟨zI h2,xR (t:=.int) ?_,hn2 h2 _ ?_⟩
    ·have:=hfl k
     rw[List.length_append,List.length_map,List.length_take];show(_+1)*8≤_
     omega
    ·rw[Qs _ h2,List.append_assoc]
   ·have hj':j=row.length:=by omega
    subst hj';rw[zO,List.take_length];exact hn h _ (SE _ h).symm
  ·have hk':k=l.length:=by omega
   subst hk';rw[zO,List.take_length];exact⟨_,Iv _,_,Sz _,rfl⟩
def Zo(s:List (List Int))(us:List xI):List Int:=us.foldl (λall u=>Cg all (s.getD u.v.toNat []) u.times) [0]
theorem SF{s:List (List Int)}{us:List xI}{u:xI}:Zo s (us++[u])=Cg (Zo s us) (s.getD u.v.toNat []) u.times:=by rw[Zo,List.foldl_append];rfl
theorem zjc{s:List (List Int)}(hf:zY s=false){x:Int}(us:List xI):(∀t∈us,0≤t.v∧t.v.toNat<s.length)→(us.map xI.v).Nodup→(x∈Zo s us↔HW us s x):=by
 refine gZ (C:=λus=>∀x,(∀t∈us,0≤t.v∧t.v.toNat<s.length)→(us.map xI.v).Nodup→(x∈Zo s us↔HW us s x)) (λx _ _=> ?_) (λus u ih x h1 h2=> ?_) us x
 ·rw[zi9 hf];exact List.mem_singleton
 ·rw[List.map_append,List.nodup_append]at h2
  have hu:=h1 u (by simp)
  rw[SF,AQ,ze6 hu.1 hu.2 (λt ht=>(h1 t (by simp[ht])).1) (λhm=>h2.2.2 _ hm _ (by simp) rfl)]
  have h3:∀a,a∈Zo s us↔HW us s a:=λa=>ih a (λt ht=>h1 t (by simp[ht])) h2.1
  exact⟨λ⟨a,ha,r⟩=>⟨a,(h3 a).1 ha,r⟩,λ⟨a,ha,r⟩=>⟨a,(h3 a).2 ha,r⟩⟩
theorem Ci{s:List (List Int)}{nv:Nat}(hs:iF s nv)(us:List xI):(∀t∈us,-4000≤t.times∧t.times≤4000)→∀x∈Zo s us,-200000*(us.length:Int)≤x∧x≤200000*(us.length:Int):=by
 refine gZ (C:=λus=>(∀t∈us,-4000≤t.times∧t.times≤4000)→∀x∈Zo s us,-200000*(us.length:Int)≤x∧x≤200000*(us.length:Int)) (λ_ x hx=> ?_) (λus u ih h1 x hx=> ?_) us
 ·have:x=0:=List.mem_singleton.1 hx
  subst this;decide
 ·rw[SF,AQ]at hx
  obtain⟨a,ha,n,hn,rfl⟩:=hx;have h2:=ih (λt ht=>h1 t (by simp[ht])) a ha
  have h3:=h1 u (by simp)
  have h4:=hs.near _ n hn
  have b3: -200000≤u.times*n∧u.times*n≤200000:=by
   have:(u.times*n).natAbs≤4000*50:=by rw[Int.natAbs_mul];exact Nat.mul_le_mul (by omega) (by omega)
   omega
  rw[List.length_append,List.length_singleton];omega
theorem zjd{s:List (List Int)}{nv:Nat}(hs:iF s nv)(us:List xI):(Zo s us).length≤101^us.length:=by
 refine gZ (C:=λus=>(Zo s us).length≤101^us.length) (Nat.le_refl _) (λus u ih=> ?_) us
 rw[SF,List.length_append,List.length_singleton,Nat.pow_succ];exact Nat.le_trans (zjb (hs.row _)) (Nat.mul_le_mul_right _ ih)
def IJ(s:List (List Int))(ts:List xI):List (Int×List Int):=ts.mapIdx λi t=>(t.v,Zo s (ts.eraseIdx i))
theorem Kn{c:zQ}{nv:Nat}(hc:uO c nv):∀t∈vJ c,-4000≤t.times∧t.times≤4000:=λt ht=>by
 have h:=Ka (c.vars.zip c.consts) (λx hx=>hc.consts x.2 (List.of_mem_zip hx).2) t ht
 have:=hc.many;rw[List.length_zip]at h
 omega
theorem Cj{c:zQ}{nv:Nat}(hc:uO c nv):(vJ c).length≤4:=by
 have h:=D8 (c.vars.zip c.consts);have:=hc.many;rw[List.length_zip]at h
 exact Nat.le_trans h (by omega)
theorem Ck{ts:List xI}{f:Nat→xI→List Int}:(ts.mapIdx λi t=>(t.v,f i t)).map Prod.fst=ts.map xI.v:=by
 apply List.ext_getElem
 ·simp
 ·intro i h1 h2;simp
theorem Ts{c:zQ}{s:List (List Int)}(hc:uO c s.length)(hk:c.kind≤3)(hs:iF s s.length):
  cV nN [dC c,dS s] [] (.clo tM none [.iptr [.sl .term (vJ c)] 0,.iptr [.mp .int (.list .int) (IJ s (vJ c))] 0,.iptr [.int .i64 c.kind,.sl .int c.vars,.sl .int c.consts,.int .i64 c.n,.sl (.list .int) c.rows,.sl .lit c.lits] 0]) []:=
 Kg c s λok _=>by
  have h4:=Cj hc;have hv:=MG hc;have htm:=Kn hc;have hnd:((vJ c).map xI.v).Nodup:=SC _;rw[ID];refine zE (G4 hc hk) ?_;generalize hts:vJ c=ts at h4 hv htm hnd⊢
  have hlm:IJ s ts=ts.mapIdx λi t=>(t.v,Zo s (ts.eraseIdx i)):=rfl
  refine up (I:=λn v a=>dY c s _ ts n v ts a) 0 ts.length rfl (Nat.zero_le _) (by omega) (λi a=>a=(ts.take i).mapIdx λi t=>(t.v,Zo s (ts.eraseIdx i))) rfl λn i a _ hi ha hn=> ?_
  subst ha;rw[Nl]
  by_cases h:i<ts.length
  ·rw[zR h,zP (t:=.term) h]
   refine⟨zI h,?_⟩;refine up (I:=λn2 v a=>iE c s _ ts n (i:Int) ts _ n2 a v ts _ _) 0 ts.length rfl (Nat.zero_le _) (by omega) (λk a=>a=Zo s ((ts.take k).eraseIdx i)) rfl λn2 k a _ hk2 ha2 hn2=> ?_
   subst ha2;rw[Nk]
   by_cases h2:k<ts.length
   ·rw[zR h2,zP (t:=.term) h2]
    refine⟨zI h2,?_⟩;have est:=ze7 (l:=ts) (i:=i) h2
    by_cases e:k=i
    ·refine dnf (show(k:Int)=(i:Int) by omega) (hn2 h2 _ ?_)
     rw[est,if_pos e]
    ·refine dnt (show¬(k:Int)=(i:Int) by omega) ?_
     have hsub:((ts.take k).eraseIdx i).Sublist ts:=(List.eraseIdx_sublist ..).trans (List.take_sublist ..);have hul:((ts.take k).eraseIdx i).length≤4:=Nat.le_trans hsub.length_le h4;have hb:=Ci hs ((ts.take k).eraseIdx i) λt ht=>htm t (hsub.subset ht)
     refine zE (Ch hs (hv _ (List.getElem_mem h2)) (htm _ (List.getElem_mem h2)) (λa ha=>by have:=hb a ha;omega) ?_) (hn2 h2 _ ?_)
     ·exact Nat.le_trans (zjd hs _) (Nat.le_trans (Nat.pow_le_pow_right (by decide) hul) (by decide))
     ·rw[est,if_neg e,SF]
   ·have hk':k=ts.length:=by omega
    subst hk';rw[zO,List.take_length];have hml:((ts.take i).mapIdx λi t=>(t.v,Zo s (ts.eraseIdx i))).length=i:=by rw[List.length_mapIdx,List.length_take];omega
    refine⟨decide_eq_true (by rw[hml];omega),hn h _ ?_⟩
    rw[UO _ h];refine L7 (kt:=.int) (vt:=.list .int) gQ _ ?_;cases e:pH .int (.list .int) ts[i].v ((ts.take i).mapIdx λi t=>(t.v,Zo s (ts.eraseIdx i)))with
    |none=>rfl
    |some k=>
     have h5:=(Xp (kt:=.int) (vt:=.list .int) gQ _).2 ⟨k,e⟩;rw[Ck]at h5
     have h6:ts.map xI.v=(ts.take i).map xI.v++(ts.drop i).map xI.v:=by rw[←List.map_append,List.take_append_drop]
     rw[h6,List.nodup_append]at hnd
     exact absurd rfl (hnd.2.2 _ h5 ts[i].v (List.mem_map.2 ⟨ts[i],by rw[List.drop_eq_getElem_cons h];exact List.mem_cons_self ..,rfl⟩))
  ·have hi':i=ts.length:=by omega
   subst hi';rw[zO,List.take_length,hlm];exact⟨rfl,rfl⟩
theorem Pr(t:xI)(v:Int):wO jO [.agg [dI t.v,dI t.times],.iptr [dI v] 0] (dB (decide (t.v=v))):=
 R0 t v λok=>by rw[Pp]
theorem Ps{c:zQ}{t:xI}{a n:Int}(ht: -4000≤t.times∧t.times≤4000)(hn: -50≤n∧n≤50)(ha: -4000000≤a∧a≤4000000):wO jP [dI a,.iptr [.int .i64 c.kind,.sl .int c.vars,.sl .int c.consts,.int .i64 c.n,.sl (.list .int) c.rows,.sl .lit c.lits] 0,.iptr [dI t.v,dI t.times] 0,.iptr [dI n] 0] (dB (zdr c (a+t.times*n))):=
 R3 a c t n λok=>by
  have b3: -200000≤t.times*n∧t.times*n≤200000:=by
   have:(t.times*n).natAbs≤4000*50:=by rw[Int.natAbs_mul];exact Nat.mul_le_mul (by omega) (by omega)
   omega
  rw[Pq,tR (n:=t.times*n) (by omega) (by omega),tR (by omega) (by omega)]
  exact zE (LH c _) rfl
theorem WU{c:zQ}{s:List (List Int)}(hc:uO c s.length)(hk:c.kind≤3)(hs:iF s s.length)(hf:zY s=false){v n:Int}(hv:v∈c.vars)(hn:n∈s.getD v.toNat []):
  wO tM [dI v,dI n,.iptr [.sl .term (vJ c)] 0,.iptr [.mp .int (.list .int) (IJ s (vJ c))] 0,.iptr [.int .i64 c.kind,.sl .int c.vars,.sl .int c.consts,.int .i64 c.n,.sl (.list .int) c.rows,.sl .lit c.lits] 0] (dB (mayB (xD c) s v.toNat n)):=
 Nm v n (vJ c) (IJ s (vJ c)) c λok=>by
  have hvv:=MG hc;have htm:=Kn hc;have hnd:((vJ c).map xI.v).Nodup:=SC _;rw[MI];refine zE (rG (p:=λt=>decide (t.v=v)) RR λt ht=>Pr t _) ?_
  rcases D2 (λt:xI=>decide (t.v=v)) (vJ c) 0 with⟨e,h2⟩|⟨j,hj,e,h2,h3⟩
  ·obtain⟨f1,f2⟩:=hc.formC.sums hk
   have:v∈(vJ c).map xI.v:=by
    rw[vJ,D7,zhL f2.symm];exact hv
   obtain⟨t,ht,rfl⟩:=List.mem_map.1 this;exact absurd rfl (of_decide_eq_false (h2 t ht))
  ·have h2:(vJ c)[j].v=v:=of_decide_eq_true h2
   rw[e,Int.zero_add,zP (t:=.term) hj]
   have hg:pH .int (.list .int) v (IJ s (vJ c))=some (Zo s ((vJ c).eraseIdx j)):=by
    refine zbo (kt:=.int) (vt:=.list .int) gQ _ (by rw[IJ,Ck];exact hnd) ?_
    have hjl:j<(IJ s (vJ c)).length:=by rw[IJ,List.length_mapIdx];exact hj
    have:(IJ s (vJ c))[j]=(v,Zo s ((vJ c).eraseIdx j)):=by simp only[IJ,List.getElem_mapIdx];rw[h2]
    rw[←this];exact List.getElem_mem hjl
   have hgd:cD .int (.list .int) v (IJ s (vJ c))=Zo s ((vJ c).eraseIdx j):=by rw[cD,hg];rfl
   rw[hgd];have hsub:((vJ c).eraseIdx j).Sublist (vJ c):=List.eraseIdx_sublist ..;have hb:=Ci hs ((vJ c).eraseIdx j) λt ht=>htm t (hsub.subset ht)
   have hlen:=Nat.le_trans hsub.length_le (Cj hc);refine⟨zI hj,zE (wV (p:=λa=>zdr c (a+(vJ c)[j].times*n)) RS λa ha=>Ps (htm _ (List.getElem_mem hj)) (hs.near _ n hn) (by have:=hb a ha;omega)) ?_⟩
   congr 1
   rw[Bool.eq_iff_iff,nY,List.any_eq_true];have h5:=zmN (c:=c) (s:=s) hc hk hj (n:=n) (by rw[h2];exact hn)
   rw[h2]at h5
   rw[h5];have hmem:∀a,a∈Zo s ((vJ c).eraseIdx j)↔HW ((vJ c).eraseIdx j) s a:=λa=>zjc hf _ (λt ht=>by have:=hvv t (hsub.subset ht);omega) (hnd.sublist (hsub.map _))
   exact⟨λ⟨a,h6,h7⟩=>⟨a,(hmem a).1 h6,h7⟩,λ⟨a,h6,h7⟩=>⟨a,(hmem a).2 h6,h7⟩⟩
end Go.Proofs.YteimklbiapnfhaaGreat
namespace Go.Proofs.YteimklbiapnfhaaGreat
open Go.RowKit
set_option linter.unusedVariables false
set_option linter.unusedSimpArgs false
variable[Lo]
def bT(s:List (List Int))(vars:List Int):List (List Int):=vars.map λv=>s.getD v.toNat []
theorem Wq{s:List (List Int)}{vars:List Int}:(bT s vars).length=vars.length:=List.length_map ..
theorem Cl{s:List (List Int)}{vars:List Int}{i:Nat}(h:i<vars.length):(bT s vars).getD i []=s.getD (vars.getD i 0).toNat []:=by
 rw[yN _ (by rw[Wq];exact h),yN _ h];simp[bT]
abbrev hpF(s:List (List Int))(vars:List Int)(turn:Int)(m a:KV):List (Nat×wT):=[(1000,.cells [dS s,.sl .int vars,.own 1001,.own 1002,dI turn]),(1001,.mp .int .int m),(1002,.mp .int .int a)]
def zlm(s:List (List Int))(vars:List Int)(turn i:Int)(m a:KV)(b:Bool)(m' a':KV):Prop:=
 (b=true→D1 (bT s vars) turn i m a m' a')∧(b=false→m'=m∧L9 (bT s vars) turn m a ((bT s vars).getD i.toNat []) a')
theorem Cm{n:Int}{m:KV}:zd4 .int .int n m=(pH .int .int n m).isSome:=rfl
theorem AR{s:List (List Int)}{vars:List Int}{turn i:Int}{m a0:KV}(ht:1≤turn)(hm:IB (bT s vars) m)(hi:0≤i∧i<vars.length)
  (near:∀r∈bT s vars,∀n∈r,-50≤n∧n≤50) (len:∀r∈bT s vars,r.length≤101)
  (rec:∀(a:KV) (k:Int),left turn a<left turn a0→Z5 turn a→0≤k→k<vars.length→∃b m' a',cV vY [.ptr 1000 0,dI k] (hpF s vars turn m a) (.bool b) (hpF s vars turn m' a')∧zlm s vars turn k m a b m' a'):
  ∀(e j:Nat),j+e=(s.getD (vars.getD i.toNat 0).toNat []).length→∀a,L9 (bT s vars) turn m a0 ((s.getD (vars.getD i.toNat 0).toNat []).take j) a→
   ∃b m' a' n,qP s vars i (λd h1=>d=.bool b∧h1=hpF s vars turn m' a') n (j:Int) s vars turn m a∧zlm s vars turn i m a0 b m' a':=by
 have hil:i.toNat<vars.length:=by omega
 have hrow:=Cl (s:=s) hil;have hrl:i.toNat<(bT s vars).length:=by rw[Wq];exact hil
 have hir:0≤i∧i<(bT s vars).length:=by rw[Wq];exact hi
 have hnr:∀n∈s.getD (vars.getD i.toNat 0).toNat [],-50≤n∧n≤50:=λn hn=>by
  rw[←hrow,yN _ hrl]at hn
  exact near _ (List.getElem_mem hrl) n hn
 have hlr:(s.getD (vars.getD i.toNat 0).toNat []).length≤101:=by
  rw[←hrow,yN _ hrl];exact len _ (List.getElem_mem hrl)
 have hat:zG (.list .int) s ((zG .int vars i.toNat).toNat)=s.getD (vars.getD i.toNat 0).toNat []:=rfl;intro e
 induction e with
 |zero=>
  intro j hj a ha;refine⟨false,m,a,1,?_,λh=>(by cases h),λ_=>⟨rfl,?_⟩⟩
  ·rw[sP,hat,show j=(s.getD (vars.getD i.toNat 0).toNat []).length by omega,zO]
   exact⟨rfl,rfl⟩
  ·rw[hrow]
   rwa[show j=(s.getD (vars.getD i.toNat 0).toNat []).length by omega,List.take_length]at ha
 |succ e ih=>
  intro j hj a ha;generalize hR:s.getD (vars.getD i.toNat 0).toNat []=row at hrow hat hnr hlr hj ha ih
  have hjl:j<row.length:=by omega
  have hnj:=hnr _ (List.getElem_mem hjl);have hw:xF ((j:Int)+1)=((j+1:Nat):Int):=V7 (by omega)
  have hst:row.take (j+1)=row.take j++[row[j]]:=(List.take_append_getElem hjl).symm;have hmem:row[j]∈(bT s vars).getD i.toNat []:=by rw[hrow];exact List.getElem_mem hjl
  by_cases hask:NL turn a row[j]
  ·obtain⟨b,m',a',n,h1,h2⟩:=ih (j+1) (by omega) a (by rw[hst];exact ze1 ha hask)
   refine⟨b,m',a',n+1,?_,h2⟩;rw[sP,hat,zR hjl,zP (t:=.int) hjl];refine⟨zI hjl,dt hask ?_⟩;rw[hw];exact h1
  ·have hal:a.length≤101:=ha.ask.length
   have hml:m.length≤101:=hm.length near;have hap:=ha.ask.put hnj ht;cases hg:pH .int .int row[j] m with
   |none=>
    refine⟨true,_,_,1,?_,λ_=>(zeZ hm ha.ask ht hnj ⟨hi.1,hir.2,hmem⟩ hask hg).start ha.more,λh=>(by cases h)⟩
    rw[sP,hat,zR hjl,zP (t:=.int) hjl];refine⟨zI hjl,df hask ⟨decide_eq_true (by omega),?_⟩⟩
    rw[Cm,hg];exact⟨decide_eq_true (by omega),rfl,rfl⟩
   |some k=>
    have hk:=hm.ok _ _ hg;rw[Wq]at hk
    have hlt:left turn (oa .int .int row[j] turn a)<left turn a0:=Nat.lt_of_lt_of_le (zmM hnj hask) (zi6 ha.more);obtain⟨b,m2,a2,hs,p1,p2⟩:=rec _ k hlt hap hk.1 hk.2.1;have hgd:cD .int .int row[j] m=k:=by rw[cD,hg];rfl
    cases b with
    |true=>
     have hfd:=p1 rfl;refine⟨true,_,_,1,?_,λ_=>(ze0 ⟨hi.1,hir.2,hmem⟩ hask hg hfd).start ha.more,λh=>(by cases h)⟩
     rw[sP,hat,zR hjl,zP (t:=.int) hjl];refine⟨zI hjl,df hask ⟨decide_eq_true (by omega),?_⟩⟩
     rw[Cm,hg,hgd];have:=hfd.ok.length near;exact⟨true,m2,a2,hs,decide_eq_true (by omega),rfl,rfl⟩
    |false=>
     obtain⟨rfl,htr⟩:=p2 rfl;obtain⟨b,m',a',n,h1,h2⟩:=ih (j+1) (by omega) a2 (by rw[hst];exact ze2 ha hg htr)
     refine⟨b,m',a',n+1,?_,h2⟩;rw[sP,hat,zR hjl,zP (t:=.int) hjl];refine⟨zI hjl,df hask ⟨decide_eq_true (by omega),?_⟩⟩
     rw[Cm,hg,hgd];refine⟨false,m2,a2,hs,?_⟩;rw[hw];exact h1
theorem SG{s:List (List Int)}{vars:List Int}{turn:Int}(ht:1≤turn)(hv:∀v∈vars,0≤v∧v<s.length)(near:∀r∈bT s vars,∀n∈r,-50≤n∧n≤50)(len:∀r∈bT s vars,r.length≤101):
  ∀(d:Nat) (m a:KV) (i:Int),left turn a≤d→IB (bT s vars) m→Z5 turn a→0≤i→i<vars.length→
   ∃b m' a',cV vY [.ptr 1000 0,dI i] (hpF s vars turn m a) (.bool b) (hpF s vars turn m' a')∧zlm s vars turn i m a b m' a':=by
 intro d
 induction d with
 |zero=>
  intro m a i hd hm ha h0 h1;obtain⟨b,m',a',n,h2,h3⟩:=AR ht hm ⟨h0,h1⟩ near len (a0:=a) (λa k hl _ _ _=>absurd hl (by omega)) _ 0 (Nat.zero_add _) a (AJ ha)
  refine⟨b,m',a',Zn s vars turn m a i λ_ _=> ?_,h3⟩
  rw[Z9];exact⟨vC.2 (by omega),vC.2 (by have:=hv (zG .int vars i.toNat) (by rw[atN (t:=.int) (show i.toNat<vars.length by omega)];exact List.getElem_mem _);omega),n,h2⟩
 |succ d ih=>
  intro m a i hd hm ha h0 h1;obtain⟨b,m',a',n,h2,h3⟩:=AR ht hm ⟨h0,h1⟩ near len (a0:=a) (λa' k hl hok hk0 hk1=>ih m a' k (by omega) hm hok hk0 hk1) _ 0 (Nat.zero_add _) a (AJ ha)
  refine⟨b,m',a',Zn s vars turn m a i λ_ _=> ?_,h3⟩
  rw[Z9];exact⟨vC.2 (by omega),vC.2 (by have:=hv (zG .int vars i.toNat) (by rw[atN (t:=.int) (show i.toNat<vars.length by omega)];exact List.getElem_mem _);omega),n,h2⟩
theorem zdt{α:Type}{l:List α}(h:l.Nodup){i j:Nat}(hi:i<l.length)(hj:j<l.length)(e:l[i]=l[j]):i=j:=by
 rcases Nat.lt_trichotomy i j with h1|h1|h1
 ·exact absurd e (List.pairwise_iff_getElem.1 h i j hi hj h1)
 ·exact h1
 ·exact absurd e.symm (List.pairwise_iff_getElem.1 h j i hj hi h1)
theorem Ko{c:zQ}(hk:c.kind=4){vs:List Int}:xD c vs=decide (yD c vs).Nodup:=by
 rw[xD];simp[hk]
theorem ze9{c:zQ}{s:List (List Int)}(hc:uO c s.length)(hk:c.kind=4)(hnd:c.vars.Nodup)(hf:zY s=false){v n:Int}(hv:v∈c.vars)(hn:n∈s.getD v.toNat []):
  May (xD c) s v.toNat n↔∃σ:Nat→Int,(∀j,j<c.vars.length→σ j∈(bT (s.set v.toNat [n]) c.vars).getD j [])∧∀j k,j<c.vars.length→k<c.vars.length→σ j=σ k→j=k:=by
 have hvv:=hc.vars v hv;have hvl:v.toNat<s.length:=by omega
 have hset:∀u:Nat,(s.set v.toNat [n]).getD u []=if u=v.toNat then[n]else s.getD u []:=λu=>by
  rw[List.getD_eq_getElem?_getD,List.getD_eq_getElem?_getD,List.getElem?_set]
  by_cases e:u=v.toNat
  ·rw[if_pos e.symm,if_pos e,if_pos (by omega)];rfl
  ·rw[if_neg (λx=>e x.symm),if_neg e]
 have hrow:∀(j:Nat) (hj:j<c.vars.length),(bT (s.set v.toNat [n]) c.vars).getD j []=if c.vars[j].toNat=v.toNat then[n]else s.getD c.vars[j].toNat []:=λj hj=>by
  rw[Cl hj,hset,yN _ hj]
 constructor
 ·rintro⟨vs,h1,h2,h3⟩
  refine⟨λj=>vs.getD (c.vars.getD j 0).toNat 0,λj hj=> ?_,λj k hj hk2 e=> ?_⟩
  ·rw[hrow j hj]
   show vs.getD (c.vars.getD j 0).toNat 0∈_
   rw[yN _ hj];split
   ·rename_i e;rw[e,h2];exact List.mem_singleton.2 rfl
   ·have:=hc.vars _ (List.getElem_mem hj)
    exact h1.2 _ (by omega)
  ·rw[Ko hk]at h3
   have h4:=of_decide_eq_true h3;refine zdt h4 (by rw[kY];exact hj) (by rw[kY];exact hk2) ?_
   rw[Td hj,Td hk2];simpa only[yN _ hj,yN _ hk2]using e
 ·rintro⟨σ,h1,h2⟩
  obtain⟨ps,hp⟩:=Pi hf;have hg:∀u:Nat,u<s.length→((List.range s.length).map λu:Nat=>if(u:Int)∈c.vars then σ (c.vars.idxOf (u:Int))else ps.getD u 0).getD u 0=if(u:Int)∈c.vars then σ (c.vars.idxOf (u:Int))else ps.getD u 0:=λu hu=>SD hu
  have hix:∀(j:Nat) (hj:j<c.vars.length),c.vars.idxOf c.vars[j]=j:=λj hj=>by
   have h5:c.vars.idxOf c.vars[j]<c.vars.length:=List.idxOf_lt_length_of_mem (List.getElem_mem hj);exact zdt hnd h5 hj (List.getElem_idxOf h5)
  have hat:∀(j:Nat) (hj:j<c.vars.length),((List.range s.length).map λu:Nat=>if(u:Int)∈c.vars then σ (c.vars.idxOf (u:Int))else ps.getD u 0).getD c.vars[j].toNat 0=σ j:=λj hj=>by
   have:=hc.vars _ (List.getElem_mem hj);rw[hg _ (by omega),Int.toNat_of_nonneg this.1,if_pos (List.getElem_mem hj),hix j hj]
  refine⟨(List.range s.length).map λu:Nat=>if(u:Int)∈c.vars then σ (c.vars.idxOf (u:Int))else ps.getD u 0,⟨by simp,λu hu=> ?_⟩,?_,?_⟩
  ·rw[hg u hu]
   split
   ·rename_i e
    obtain⟨j,hj,e2⟩:=List.getElem_of_mem e;rw[←e2,hix j hj];have h5:=h1 j hj;rw[hrow j hj,e2,Int.toNat_natCast]at h5
    split at h5
    ·rename_i e3;rw[List.mem_singleton.1 h5,e3];exact hn
    ·exact h5
   ·exact hp.2 u hu
  ·obtain⟨j,hj,rfl⟩:=List.getElem_of_mem hv
   rw[hat j hj];have h5:=h1 j hj;rw[hrow j hj,if_pos rfl]at h5
   exact List.mem_singleton.1 h5
  ·rw[Ko hk]
   refine decide_eq_true (List.pairwise_iff_getElem.2 λi j hi hj hij e=> ?_)
   rw[kY]at hi hj
   rw[Td hi,Td hj,hat i hi,hat j hj]at e
   have:=h2 i j hi hj e;omega
theorem zdu(s:List (List Int)):cV vQ [dS s] [] (.own 3000) [(3000,.row 62 (.list .int) s)]:=
 Yz s λok _=>by
  rw[Xg];intro b hb;refine zA (λe=> ?_) λe=>⟨?_,?_⟩
  ·rw[hb e];exact⟨rfl,rfl⟩
  ·refine xR (t:=.list .int) ?_
   have:=(mC (t:=.list .int) (WD ok)).1;show(0+s.length)*24≤_
   have h8:s.length*24≤140737488355328:=this;omega
  ·exact⟨rfl,rfl⟩
theorem Tt(c:zQ)(s:List (List Int)):cV nO [dC c,dS s] [] (.clo tN none [.iptr [dS s] 0,.iptr [.int .i64 c.kind,.sl .int c.vars,.sl .int c.consts,.int .i64 c.n,.sl (.list .int) c.rows,.sl .lit c.lits] 0]) []:=
 Kh c s λ_ _=>by
  rw[IF];exact⟨rfl,rfl⟩
theorem WV{c:zQ}{s:List (List Int)}(hc:uO c s.length)(hk:c.kind=4)(hnd:c.vars.Nodup)(hs:iF s s.length)(hf:zY s=false){v n:Int}(hv:v∈c.vars)(hn:n∈s.getD v.toNat []):
  wO tN [dI v,dI n,.iptr [dS s] 0,.iptr [.int .i64 c.kind,.sl .int c.vars,.sl .int c.consts,.int .i64 c.n,.sl (.list .int) c.rows,.sl .lit c.lits] 0] (dB (mayB (xD c) s v.toNat n)):=
 Nn v n s c λok=>by
  have hvv:=hc.vars v hv;have hm4:=hc.many;have hmay:=ze9 hc hk hnd hf hv hn
  have hset:∀u:Nat,(s.set v.toNat [n]).getD u []=if u=v.toNat then[n]else s.getD u []:=λu=>by
   rw[List.getD_eq_getElem?_getD,List.getD_eq_getElem?_getD,List.getElem?_set]
   by_cases e:u=v.toNat
   ·rw[if_pos e.symm,if_pos e,if_pos (by omega)];rfl
   ·rw[if_neg (λx=>e x.symm),if_neg e]
  have near:∀r∈bT (s.set v.toNat [n]) c.vars,∀x∈r,-50≤x∧x≤50:=λr hr x hx=>by
   obtain⟨u,hu,rfl⟩:=List.mem_map.1 hr;rw[hset]at hx
   split at hx
   ·rw[List.mem_singleton.1 hx];exact hs.near _ n hn
   ·exact hs.near _ x hx
  have len:∀r∈bT (s.set v.toNat [n]) c.vars,r.length≤101:=λr hr=>by
   obtain⟨u,hu,rfl⟩:=List.mem_map.1 hr;rw[hset];split
   ·show 1≤101;decide
   ·exact hs.row _
  have hv2:∀u∈c.vars,0≤u∧u<(s.set v.toNat [n]).length:=λu hu=>by rw[List.length_set];exact hc.vars u hu
  rw[MJ];refine⟨s,zdu s,vC.2 hvv,?_⟩;show∃n0,pU c _ n0 0 ([]:KV) ([]:KV) (s.set v.toNat [n]) c.vars 0
  refine up (I:=λn0 u (a:KV×KV)=>pU c _ n0 u a.1 a.2 (s.set v.toNat [n]) c.vars u) (a:=(([]:KV),([]:KV))) 0 c.vars.length rfl (Nat.zero_le _) (by omega)
   (λk a=>IB (bT (s.set v.toNat [n]) c.vars) a.1∧(a.1.map Prod.snd).Perm (upI k)∧Z5 (k:Int) a.2) ⟨zli,List.Perm.refl _,zi7⟩ λn0 k a _ hk2 ha hnx=> ?_
  obtain⟨m,a⟩:=a;obtain⟨h1,h2,h3⟩:=ha;show pU c _ (n0+1) (k:Int) m a (s.set v.toNat [n]) c.vars (k:Int)
  rw[R4]
  by_cases h:k<c.vars.length
  ·rw[zR h]
   have hw:xF ((k:Int)+1)=((k+1:Nat):Int):=V7 (by omega)
   have h3':Z5 ((k+1:Nat):Int) a:=h3.later (by omega)
   obtain⟨b,m',a',q1,q2,q3⟩:=SG (turn:=((k+1:Nat):Int)) (by omega) hv2 near len _ m a (k:Int) (Nat.le_refl _) h1 h3' (by omega) (by omega)
   rw[hw];refine⟨b,m',a',q1,?_⟩;cases b with
   |false=>
    refine bnt rfl ?_;obtain⟨_,htr⟩:=q3 rfl;rw[Int.toNat_natCast]at htr
    have hno:=ze3 h1 h2 (h3.none (by omega) (by omega)) htr
    rw[zeW.2];intro hy;obtain⟨σ,y1,y2⟩:=hmay.1 hy;exact hno ⟨σ,λj hj=>y1 j (by omega),λj k2 hj hk3=>y2 j k2 (by omega) (by omega)⟩
   |true=>
    refine Ay rfl ?_;have hfd:=q2 rfl;have:=hnx h (m',a') ⟨hfd.ok,hfd.vals.trans ((h2.cons _).trans zlj),hfd.ask⟩;rw[hw]at this
    exact this
  ·have hk':k=c.vars.length:=by omega
   subst hk';rw[zO,nY.2];have hall:=zlk h1 (by rw[Wq];exact h2)
   rw[Wq]at hall
   exact hmay.2 hall
end Go.Proofs.YteimklbiapnfhaaGreat
namespace Go.Proofs.YteimklbiapnfhaaGreat
open Go.RowKit
set_option linter.unusedVariables false
set_option linter.unusedSimpArgs false
variable[Lo]
abbrev MV:=List ((Int×Int)×Int)
structure VU (nv:Nat)(m:MV):Prop where
 nodup:(m.map Prod.fst).Nodup
 near:∀x∈m.map Prod.fst,(0≤x.1∧x.1<(nv:Int))∧-50≤x.2∧x.2≤50
 one:∀(x:Int×Int) (k:Int),pH (.pr .int .int) .int x m=some k→k=1
theorem zje{nv:Nat}:VU nv []:=⟨List.nodup_nil,λn hn=>(by cases hn),λn t h=>(by cases h)⟩
theorem VU.length{nv:Nat}{m:MV}(h:VU nv m):m.length≤nv*101:=by
 have h1:((m.map Prod.fst).map λx=>x.1*101+x.2+50).Nodup:=Tp h.nodup λx hx y hy e=>by
  have a:=h.near x hx;have b:=h.near y hy;have e1:x.1=y.1:=by omega
  exact Prod.ext e1 (by omega)
 have:=eS h1 (lo:=0) (n:=nv*101) λx hx=>by
  obtain⟨y,hy,rfl⟩:=List.mem_map.1 hx;have a:=h.near y hy;omega
 rwa[List.length_map,List.length_map]at this
theorem VU.put{nv:Nat}{m:MV}(h:VU nv m){x:Int×Int}(hx:(0≤x.1∧x.1<(nv:Int))∧-50≤x.2∧x.2≤50):VU nv (oa (.pr .int .int) .int x 1 m):=by
 refine⟨DZ (kt:=.pr .int .int) (vt:=.int) Og h.nodup,λy hy=> ?_,λy k hy=> ?_⟩
 ·rcases(D0 (kt:=.pr .int .int) (vt:=.int) Og m).1 hy with rfl|hy
  ·exact hx
  ·exact h.near y hy
 ·by_cases e:y=x
  ·subst e
   rw[To (kt:=.pr .int .int) (vt:=.int) Og]at hy
   exact(Option.some.inj hy).symm
  ·rw[WT (kt:=.pr .int .int) (vt:=.int) Og e]at hy;exact h.one y k hy
def Ut(vars vs:List Int)(m:MV):MV:=vars.foldl (λm v=>oa (.pr .int .int) .int (v,vs.getD v.toNat 0) 1 m) m
theorem Pt{vars vs:List Int}{m:MV}{v:Int}:Ut (vars++[v]) vs m=oa (.pr .int .int) .int (v,vs.getD v.toNat 0) 1 (Ut vars vs m):=by rw[Ut,List.foldl_append];rfl
theorem zfa{vs:List Int}{m:MV}{x:Int×Int}(vars:List Int):x∈(Ut vars vs m).map Prod.fst↔x∈m.map Prod.fst∨∃v∈vars,x=(v,vs.getD v.toNat 0):=by
 refine gZ (C:=λvars=>x∈(Ut vars vs m).map Prod.fst↔x∈m.map Prod.fst∨∃v∈vars,x=(v,vs.getD v.toNat 0)) (by simp[Ut]) (λl a ih=> ?_) vars
 rw[Pt,D0 (kt:=.pr .int .int) (vt:=.int) Og,ih];constructor
 ·rintro(h|h|⟨v,hv,h⟩)
  ·exact .inr ⟨a,by simp,h⟩
  ·exact .inl h
  ·exact .inr ⟨v,by simp[hv],h⟩
 ·rintro(h|⟨v,hv,h⟩)
  ·exact .inr (.inl h)
  ·rcases List.mem_append.1 hv with hv|hv
   ·exact .inr (.inr ⟨v,hv,h⟩)
   ·rw[List.mem_singleton.1 hv]at h;exact .inl h
theorem AS{nv:Nat}{vs:List Int}{m:MV}(h:VU nv m)(hn:∀u:Nat,-50≤vs.getD u 0∧vs.getD u 0≤50)(vars:List Int):(∀v∈vars,0≤v∧v<(nv:Int))→VU nv (Ut vars vs m):=by
 refine gZ (C:=λvars=>(∀v∈vars,0≤v∧v<(nv:Int))→VU nv (Ut vars vs m)) (λ_=>h) (λl a ih hv=> ?_) vars
 rw[Pt];exact(ih λv h=>hv v (by simp[h])).put ⟨hv a (by simp),hn _⟩
abbrev hpW(c:zQ)(s:List (List Int))(vars vs:List Int)(m:MV):List (Nat×wT):=[(1000,.cells [.int .i64 c.kind,.sl .int c.vars,.sl .int c.consts,.int .i64 c.n,.sl (.list .int) c.rows,.sl .lit c.lits,dS s,.sl .int vars,.own 2000,.own 1001]),(2000,.row 3 .int vs),(1001,.mp (.pr .int .int) .int m)]
structure zln (c:zQ)(s:List (List Int))(vars r vs:List Int)(m:MV)(vs':List Int)(m':MV):Prop where
 len:vs'.length=vs.length
 near:∀u:Nat,-50≤vs'.getD u 0∧vs'.getD u 0≤50
 same:∀u:Nat,(∀v∈r,v.toNat≠u)→vs'.getD u 0=vs.getD u 0
 ok:VU s.length m'
 mem:∀x:Int×Int,x∈m'.map Prod.fst↔x∈m.map Prod.fst∨Kc c s vars r vs x
theorem zjf{c:zQ}{s:List (List Int)}{vars:List Int}(hs:iF s s.length)(hnv:s.length≤6)(hv:∀v∈vars,0≤v∧v<s.length)(hnd:vars.Nodup){i:Nat}(hi:i<vars.length){vs0:List Int}{m0:MV}(hl0:vs0.length=s.length)
  (rec:∀(vs:List Int) (m:MV),vs.length=s.length→(∀u:Nat,-50≤vs.getD u 0∧vs.getD u 0≤50)→VU s.length m→∃vs' m',cV yW [.ptr 1000 0,dI ((i+1:Nat):Int)] (hpW c s vars vs m) (.tup []) (hpW c s vars vs' m')∧zln c s vars (vars.drop (i+1)) vs m vs' m'):
  ∀(e j:Nat),j+e=(s.getD vars[i].toNat []).length→∀(vs:List Int) (m:MV),vs.length=s.length→(∀u:Nat,-50≤vs.getD u 0∧vs.getD u 0≤50)→(∀u:Nat,(∀v∈vars.drop i,v.toNat≠u)→vs.getD u 0=vs0.getD u 0)→VU s.length m→
   (∀x:Int×Int,x∈m.map Prod.fst↔x∈m0.map Prod.fst∨∃n∈(s.getD vars[i].toNat []).take j,Kc c s vars (vars.drop (i+1)) (vs0.set vars[i].toNat n) x)→
   ∃vs' m' n,kA s vars (i:Int) (λd h1=>d=.tup []∧h1=hpW c s vars vs' m') n (j:Int) c.kind c.vars c.consts c.n c.rows c.lits s vars m vs∧zln c s vars (vars.drop i) vs0 m0 vs' m':=by
 have hvi:=hv _ (List.getElem_mem hi);have hdr:vars.drop i=vars[i]::vars.drop (i+1):=List.drop_eq_getElem_cons hi;have hnd2:(vars[i]::vars.drop (i+1)).Nodup:=by rw[←hdr];exact hnd.sublist (List.drop_sublist ..)
 rw[List.nodup_cons]at hnd2
 have hrow:=hs.row vars[i].toNat;have hnr:=hs.near vars[i].toNat;have hat:zG (.list .int) s ((zG .int vars (i:Int).toNat).toNat)=s.getD vars[i].toNat []:=by rw[zP (t:=.int) hi];rfl
 have hpc:∀x,Kc c s vars (vars.drop i) vs0 x↔∃n∈s.getD vars[i].toNat [],Kc c s vars (vars.drop (i+1)) (vs0.set vars[i].toNat n) x:=λx=>by
  rw[hdr];exact zja hvi.1 (by omega) (λu hu=>(hv u (List.mem_of_mem_drop hu)).1) hnd2.1
 generalize hR:s.getD vars[i].toNat []=row at hrow hnr hat hpc
 intro e
 induction e with
 |zero=>
  intro j hj vs m hl hnear hsame hok hmem;refine⟨vs,m,1,?_,hl.trans hl0.symm,hnear,hsame,hok,λx=> ?_⟩
  ·rw[bS,hat,show j=row.length by omega,zO]
   exact⟨rfl,rfl⟩
  ·rw[hmem x,show j=row.length by omega,List.take_length,hpc x]
 |succ e ih=>
  intro j hj vs m hl hnear hsame hok hmem;have hjl:j<row.length:=by omega
  have hvl:vars[i].toNat<vs.length:=by omega
  have hw:xF ((j:Int)+1)=((j+1:Nat):Int):=V7 (by omega)
  have hwi:xF ((i:Int)+1)=((i+1:Nat):Int):=V7 (by
   have:=eS hnd (lo:=0) (n:=s.length) λx hx=>by have:=hv x hx;omega
   omega)
  have hset:∀u:Nat,(vs.set vars[i].toNat row[j]).getD u 0=if u=vars[i].toNat then row[j]else vs.getD u 0:=λu=>tF hvl
  obtain⟨vs1,m1,h1,h2⟩:=rec (vs.set vars[i].toNat row[j]) m (by rw[List.length_set];exact hl) (λu=>by
   rw[hset u];split
   ·exact hnr _ (List.getElem_mem hjl)
   ·exact hnear u) hok
  obtain⟨vs',m',n,h3,h4⟩:=ih (j+1) (by omega) vs1 m1 (by rw[h2.len,List.length_set];exact hl) h2.near (λu hu=>by
   rw[h2.same u λv hv=>hu v (by rw[hdr];exact List.mem_cons_of_mem _ hv),hset u,if_neg λe=>hu vars[i] (by rw[hdr];exact List.mem_cons_self ..) e.symm]
   exact hsame u hu) h2.ok λx=>by
    have hp:Kc c s vars (vars.drop (i+1)) (vs.set vars[i].toNat row[j]) x↔Kc c s vars (vars.drop (i+1)) (vs0.set vars[i].toNat row[j]) x:=by
     refine ze8 (by rw[List.length_set,List.length_set,hl,hl0]) λu hu=> ?_
     rw[hset u,tF (by omega)]
     split
     ·rfl
     ·rename_i e
      refine hsame u λv hv=> ?_
      rw[hdr]at hv
      rcases List.mem_cons.1 hv with rfl|hv
      ·exact λe2=>e e2.symm
      ·exact hu v hv
    rw[h2.mem x,hmem x,hp,←List.take_append_getElem hjl];simp only[List.mem_append,List.mem_singleton];constructor
    ·rintro((h|⟨n,hn,h⟩)|h)
     ·exact .inl h
     ·exact .inr ⟨n,.inl hn,h⟩
     ·exact .inr ⟨_,.inr rfl,h⟩
    ·rintro(h|⟨n,hn|hn,h⟩)
     ·exact .inl (.inl h)
     ·exact .inl (.inr ⟨n,hn,h⟩)
     ·rw[hn]at h;exact .inr h
  refine⟨vs',m',n+1,?_,h4⟩;rw[bS,hat,zR hjl,zP (t:=.int) hi,zP (t:=.int) hjl,hwi,hw];exact⟨zI hjl,zI hi,vC.2 (by omega),vs1,m1,h1,h3⟩
theorem R5{c:zQ}{s:List (List Int)}{vars:List Int}(hc:uO c s.length)(hs:iF s s.length)(hv:∀v∈vars,0≤v∧v<s.length)(hnd:vars.Nodup):
  ∀(d i:Nat),i+d=vars.length→∀(vs:List Int) (m:MV),vs.length=s.length→(∀u:Nat,-50≤vs.getD u 0∧vs.getD u 0≤50)→VU s.length m→∃vs' m',cV yW [.ptr 1000 0,dI (i:Int)] (hpW c s vars vs m) (.tup []) (hpW c s vars vs' m')∧zln c s vars (vars.drop i) vs m vs' m':=by
 have hnv:=hc.nv6
 have hvl:vars.length≤6:=by
  have:=eS hnd (lo:=0) (n:=s.length) λx hx=>by have:=hv x hx;omega
  omega
 intro d
 induction d with
 |zero=>
  intro i hi vs m hl hnear hok
  have hgv:QX vs s.length:=⟨hl,λn hn=>by
   obtain⟨u,hu,rfl⟩:=List.getElem_of_mem hn;have:=hnear u
   rwa[yN _ hu]at this⟩
  have hd:vars.drop i=[]:=List.drop_eq_nil_of_le (by omega)
  have hpn:∀x,Kc c s vars (vars.drop i) vs x↔xD c vs=true∧∃v∈vars,x=(v,vs.getD v.toNat 0):=λx=>by rw[hd];exact zll
  cases ht:xD c vs with
  |false=>
   refine⟨vs,m,gF c.kind c.vars c.consts c.n c.rows c.lits s vars vs m (i:Int) λ_ _=> ?_,rfl,hnear,λ_ _=>rfl,hok,λx=> ?_⟩
   ·rw[fo]
    refine dt (by omega) (zE (Y0 hc hgv) (bf ht ?_))
    exact⟨rfl,rfl⟩
   ·rw[hpn,ht];simp
  |true=>
   refine⟨vs,Ut vars vs m,gF c.kind c.vars c.consts c.n c.rows c.lits s vars vs m (i:Int) λ_ _=> ?_,rfl,hnear,λ_ _=>rfl,AS hok hnear vars hv,λx=> ?_⟩
   ·rw[fo]
    refine dt (by omega) (zE (Y0 hc hgv) (bt ht ?_))
    refine up (I:=λn v a=>lZ c.kind c.vars c.consts c.n c.rows c.lits s vars vs _ n v a) 0 vars.length rfl (Nat.zero_le _) (by omega) (λk a=>a=Ut (vars.take k) vs m) rfl λn k a _ hk ha hn=> ?_
    subst ha;rw[Us]
    by_cases h:k<vars.length
    ·have hvk:=hv _ (List.getElem_mem h)
     have hml:=(AS hok hnear (vars.take k) λv hv2=>hv v (List.mem_of_mem_take hv2)).length
     rw[zR h,zP (t:=.int) h];refine⟨zI h,vC.2 (by omega),decide_eq_true (by omega),hn h _ ?_⟩
     rw[←List.take_append_getElem h,Pt];rfl
    ·have hk':k=vars.length:=by omega
     subst hk';rw[zO,List.take_length];exact⟨rfl,rfl⟩
   ·rw[hpn,ht,zfa];simp
 |succ d ih=>
  intro i hi vs m hl hnear hok;have hil:i<vars.length:=by omega
  have hvi:=hv _ (List.getElem_mem hil);obtain⟨vs',m',n,h1,h2⟩:=zjf (c:=c) (m0:=m) hs hnv hv hnd hil hl (λvs m a b c=>ih (i+1) (by omega) vs m a b c) _ 0 (Nat.zero_add _) vs m hl hnear (λ_ _=>rfl) hok λx=>by simp
  refine⟨vs',m',gF c.kind c.vars c.consts c.n c.rows c.lits s vars vs m (i:Int) λ_ _=> ?_,h2⟩
  rw[fo];refine df (by omega) ⟨zI hil,?_,n,h1⟩
  rw[zP (t:=.int) hil];exact vC.2 hvi
def zlo(c:zQ)(s:List (List Int))(m:MV):Prop:=VU s.length m∧∀v n:Int,(v,n)∈m.map Prod.fst↔v∈yA c s.length∧May (xD c) s v.toNat n
theorem Pu{c:zQ}{s:List (List Int)}(hc:uO c s.length)(hs:iF s s.length)(hf:zY s=false):
  ∃vs m,zlo c s m∧cV rD [dC c,dS s] [] (.clo yJ none [.iptr [.iptr [.int .i64 c.kind,.sl .int c.vars,.sl .int c.consts,.int .i64 c.n,.sl (.list .int) c.rows,.sl .lit c.lits,dS s,.sl .int (yA c s.length),.sl .int vs,.mp (.pr .int .int) .int m] 0] 0]) []:=by
 have hnv:=hc.nv6
 have hz:∀u:Nat,(List.replicate s.length (0:Int)).getD u 0=0:=λu=>by
  by_cases h:u<s.length
  ·rw[yN _ (by rw[List.length_replicate];exact h),List.getElem_replicate]
  ·exact pR (by rw[List.length_replicate];omega)
 obtain⟨vs,m,h1,h2⟩:=R5 (c:=c) (s:=s) (vars:=yA c s.length) hc hs (λv hv=>qO v hv) Xq _ 0 (Nat.zero_add _) (List.replicate s.length 0) [] (List.length_replicate ..) (λu=>by rw[hz u];decide) zje
 refine⟨vs,m,⟨h2.ok,λv n=> ?_⟩,GZ c s λok _=> ?_⟩
 ·rw[h2.mem,List.drop_zero,Cb hc hf (List.length_replicate ..)];simp
 ·rw[Cd]
  refine zE (bR hc) ?_;rw[Int.toNat_natCast];have hr:zL .int s.length=true:=xR (t:=.int) (by show _*8≤_;omega)
  have h0:(0:Int)≤(s.length:Int):=by omega
  have hE:∃w2:List Int,∃w3:List ((Int×Int)×Int),cV yW [.ptr 1000 0,dI 0] [(1000,.cells [.int .i64 c.kind,.sl .int c.vars,.sl .int c.consts,.int .i64 c.n,.sl (.list .int) c.rows,.sl .lit c.lits,.sl (.list .int) s,.sl .int (yA c s.length),.own 2000,.own 1001]),(2000,.row 3 .int (List.replicate s.length (Ty.dflt .int))),(1001,.mp (.pr .int .int) .int ([]:List ((Int×Int)×Int)))] (.tup []) [(1000,.cells [.int .i64 c.kind,.sl .int c.vars,.sl .int c.consts,.int .i64 c.n,.sl (.list .int) c.rows,.sl .lit c.lits,.sl (.list .int) s,.sl .int (yA c s.length),.own 2000,.own 1001]),(2000,.row 3 .int w2),(1001,.mp (.pr .int .int) .int w3)]∧
    (D.clo yJ none [.iptr [.iptr [.int .i64 c.kind,.sl .int c.vars,.sl .int c.consts,.int .i64 c.n,.sl (.list .int) c.rows,.sl .lit c.lits,.sl (.list .int) s,.sl .int (yA c s.length),.sl .int w2,.mp (.pr .int .int) .int w3] 0] 0]=D.clo yJ none [.iptr [.iptr [.int .i64 c.kind,.sl .int c.vars,.sl .int c.consts,.int .i64 c.n,.sl (.list .int) c.rows,.sl .lit c.lits,dS s,.sl .int (yA c s.length),.sl .int vs,.mp (.pr .int .int) .int m] 0] 0]∧([]:List (Nat×wT))=[]):=⟨vs,m,h1,rfl,rfl⟩
  repeat'(first|exact hE|exact hr|exact h0|exact rfl|apply And.intro)
theorem Tu{c:zQ}{s:List (List Int)}{vs:List Int}{m:MV}(h:zlo c s m){v n:Int}(hv:v∈yA c s.length){ks:List D}:
  wO yJ [dI v,dI n,.iptr [.iptr [.int .i64 c.kind,.sl .int c.vars,.sl .int c.consts,.int .i64 c.n,.sl (.list .int) c.rows,.sl .lit c.lits,dS s,.sl .int (yA c s.length),.sl .int vs,.mp (.pr .int .int) .int m] 0] 0] (dB (mayB (xD c) s v.toNat n)):=
 Ki v n c s (yA c s.length) vs m λok=>by
  rw[IH];show dB _=dB _
  congr 1
  have hg:cD (.pr .int .int) .int (v,n) m=1↔(v,n)∈m.map Prod.fst:=by
   rw[Xp (kt:=.pr .int .int) (vt:=.int) Og];constructor
   ·intro e
    rw[cD]at e
    cases e2:pH (.pr .int .int) .int (v,n) m with
    |none=>rw[e2]at e;exact absurd e (by decide)
    |some k=>exact⟨k,rfl⟩
   ·rintro⟨k,e⟩
    rw[cD,e,h.1.one _ _ e];rfl
  rw[Bool.eq_iff_iff,decide_eq_true_iff,nY];exact hg.trans ((h.2 v n).trans ⟨λh=>h.2,λh=>⟨hv,h⟩⟩)
end Go.Proofs.YteimklbiapnfhaaGreat
namespace Go.Proofs.YteimklbiapnfhaaGreat
open Go.RowKit
set_option linter.unusedVariables false
set_option linter.unusedSimpArgs false
variable[Lo]
theorem zdv:∀ {l l':List Int},l'.Nodup→l'⊆l→¬l.Nodup→l'.length<l.length
 |[],l',_,_,h=>absurd List.nodup_nil h
 |x::l,l',h1,h2,h3=>by
  by_cases hx:x∈l
  ·have:l'.length≤l.length:=h1.length_le_of_subset λy hy=>by
    rcases List.mem_cons.1 (h2 hy)with rfl|h
    ·exact hx
    ·exact h
   rw[List.length_cons];omega
  ·have h4:¬l.Nodup:=λh=>h3 (List.nodup_cons.2 ⟨hx,h⟩)
   have h5:=zdv (l:=l) (l':=l'.erase x) (h1.erase x) (λy hy=>by
    have hy2:=List.mem_of_mem_erase hy;rcases List.mem_cons.1 (h2 hy2)with rfl|h
    ·exact absurd hy (by rw[h1.mem_erase_iff];exact λe=>e.1 rfl)
    ·exact h) h4
   have h6:l'.length≤(l'.erase x).length+1:=by rw[List.length_erase];split<;>omega
   rw[List.length_cons];omega
theorem BC{l:List Int}:decide ((Lib.compact (Z3 l)).length<l.length)= !decide l.Nodup:=by
 have hs:=Pf (zhE l);have hn:(Lib.compact (Z3 l)).Nodup:=hs.imp fun {a b} h=>by omega
 have hm:∀x,x∈Lib.compact (Z3 l)↔x∈l:=λx=>by rw[Pe];exact(List.mergeSort_perm _ _).mem_iff
 by_cases h:l.Nodup
 ·rw[decide_eq_true h]
  exact decide_eq_false (by have:=h.length_le_of_subset λx hx=>(hm x).2 hx;omega)
 ·rw[decide_eq_false h]
  exact decide_eq_true (zdv hn (λx hx=>(hm x).1 hx) h)
theorem Ru(l:List Int):wO jY [.sl .int l] (dB (!decide l.Nodup)):=
 IE l λok=>by
  rw[G0];refine⟨_,Ms l,_,Iv _,_,Sz _,?_⟩;rw[E6,BC]
theorem Rv{v n:Int}{sc:List Int}{g:FuncId}{caps:List D}(he:aD g){b:Bool}(hg:pP sc v=true→wO g (dI v::dI n::caps) (dB b))(hb:pP sc v=false→b=true):
  wO vN [dI v,dI n,.iptr [.sl .int sc] 0,.iptr [.clo g none caps] 0] (dB b):=
 mB.iclo (pre:=[_,_,_]) (IG v n sc g caps λok=>by
  rw[G1];refine zE (yS (a:=v)) ?_;show zN (!pP sc v) _ _
  refine zA (λe=> ?_) λe=>⟨he,?_⟩
  ·rw[hb (by simpa using e)]
  ·exact zE (hg (by simpa using e)) rfl)
theorem WW{c:zQ}{nv v:Nat}(hv:v<nv):pP (yA c nv) (v:Int)=SB c v:=by
 rw[Bool.eq_iff_iff,kX,pT];exact⟨λh=>h.2,λh=>⟨by omega,h⟩⟩
theorem SH{c:zQ}{nv:Nat}(hc:uO c nv)(hl:c.lits=[]){v:Int}(h:v∈yA c nv):v∈c.vars:=by
 rcases zlg (pT.1 h).2 with h|⟨l,h,_⟩
 ·exact h
 ·rw[hl]at h;cases h
theorem Pv{c:zQ}{nv:Nat}(hc:uO c nv)(hk:c.kind≤8):c.lits=[]:=by
 have hf:=hc.form;have h1:=hc.kind.1;have:c.kind=1∨c.kind=2∨c.kind=3∨c.kind=4∨c.kind=5∨c.kind=6∨c.kind=7∨c.kind=8:=by omega
 rcases this with e|e|e|e|e|e|e|e<;>simp[fP,e]at hf<;>simp_all
theorem H1{c:zQ}{nv:Nat}(hc:uO c nv)(h:yA c nv=[]):uO c 0∧c.vars=[]∧c.lits=[]:=by
 have hv:c.vars=[]:=List.eq_nil_iff_forall_not_mem.2 λv hv=>by
  have h1:=hc.vars v hv;have:v∈yA c nv:=pT.2 ⟨h1,zhF hv⟩;rw[h]at this;cases this
 have hl:c.lits=[]:=List.eq_nil_iff_forall_not_mem.2 λl hl=>by
  have h1:=(tS.1 (hc.lits l hl)).1;have:l.var∈yA c nv:=pT.2 ⟨h1,zhG hl⟩;rw[h]at this;cases this
 exact⟨⟨Nat.zero_le _,hc.kind,hc.many,hc.form,λv h=>(by rw[hv]at h;cases h),hc.consts,hc.n,hc.rows,λl h=>(by rw[hl]at h;cases h)⟩,hv,hl⟩
theorem fb{c:zQ}{s:List (List Int)}(hc:uO c s.length)(hs:iF s s.length):wO vR [dC c,dS s] (dS (yG c s)):=
 Cc c s λok=>by
  rw[BB];refine zE (yK s) (zA (λe=> ?_) λe=> ?_)
  ·rw[yG,if_pos e]
   exact zE (ZY s) rfl
  have hf:zY s=false:=e;rw[yG,if_neg (by rw[hf];decide)]
  refine zE (bR hc) ?_
  by_cases h0:yA c s.length=[]
  ·obtain⟨hc0,_⟩:=H1 hc h0
   refine dt (by rw[h0];rfl) (zE (Y0 (vs:=[]) hc0 ⟨rfl,λn hn=>(by cases hn)⟩) (zA (λe=> ?_) λe=> ?_))
   ·rw[if_pos h0,if_pos e];exact zE (ZY s) rfl
   ·rw[if_pos h0,if_neg (by rw[e];decide)];exact zE (dT s) rfl
  refine df (by
   have:(yA c s.length).length≠0:=λe=>h0 (List.length_eq_zero_iff.1 e)
   omega) ?_
  rw[if_neg h0]
  have key:∀ {g:FuncId} {caps:List D},aD g→(∀(v n:Int),v∈yA c s.length→n∈s.getD v.toNat []→wO g (dI v::dI n::caps) (dB (mayB (xD c) s v.toNat n)))→
    wO xV [dS s,.clo vN none [.iptr [.sl .int (yA c s.length)] 0,.iptr [.clo g none caps] 0]] (dS (pZ (λv n=> !SB c v||mayB (xD c) s v n) s)):=fun {g caps} he hg=>by
   refine bO (f:=λv n=> !SB c v||mayB (xD c) s v n) U4 λv hv n hn=> ?_
   refine Rv he (λh=> ?_) λh=> ?_
   ·have h1:=kX.1 h
    rw[WW hv]at h
    have h2:=hg v n h1 (by rw[Int.toNat_natCast,yN _ hv];exact hn)
    rw[Int.toNat_natCast]at h2
    rw[h];exact h2
   ·rw[WW hv]at h
    rw[h];rfl
  have hEach:∃e21:zQ,∃e22:List (List Int),∃e23:List Int,∃e24:List Int,∃e25:List ((Int×Int)×Int),cV rD [dC c,dS s] [] (.clo yJ none [.iptr [.iptr [.int .i64 e21.kind,.sl .int e21.vars,.sl .int e21.consts,.int .i64 e21.n,.sl (.list .int) e21.rows,.sl .lit e21.lits,.sl (.list .int) e22,.sl .int e23,.sl .int e24,.mp (.pr .int .int) .int e25] 0] 0]) []∧
    zX xV [dS s,.clo vN none [.iptr [.sl .int (yA c s.length)] 0,.iptr [.clo yJ none [.iptr [.iptr [.int .i64 e21.kind,.sl .int e21.vars,.sl .int e21.consts,.int .i64 e21.n,.sl (.list .int) e21.rows,.sl .lit e21.lits,.sl (.list .int) e22,.sl .int e23,.sl .int e24,.mp (.pr .int .int) .int e25] 0] 0]] 0]] (.list (.list .int)) λs26=>D.sl (.list .int) s26=dS (pZ (λv n=> !SB c v||mayB (xD c) s v n) s):=by
   obtain⟨vs,m,h1,h2⟩:=Pu hc hs hf;exact⟨c,s,yA c s.length,vs,m,h2,zE (key VL λv n hv hn=>Tu (ks:=[]) h1 hv) rfl⟩
  refine zA (λe=> ?_) λe=>zA (λe2=> ?_) λe2=> ?_
  ·have hk:c.kind≤3:=of_decide_eq_true e
   exact⟨vJ c,IJ s (vJ c),c,Ts hc hk hs,zE (key XI λv n hv hn=>WU hc hk hs hf (SH hc (Pv hc (by omega)) hv) hn) rfl⟩
  ·have hk:c.kind=4:=of_decide_eq_true e2
   refine zE (Ru c.vars) (zA (λe3=> ?_) λe3=>hEach)
   have hnd:c.vars.Nodup:=by simpa using e3
   exact⟨s,c,Tt c s,zE (key XJ λv n hv hn=>WV hc hk hnd hs hf (SH hc (Pv hc (by omega)) hv) hn) rfl⟩
  ·exact hEach
def iO(m:zF)(con:Int)(s:List (List Int)):Int:=if vB m [s]≠0 then vB m [s]else if con<0∨(m.cons.length:Int)≤con then 5 else 0
theorem FG{m:zF}{con:Int}{s:List (List Int)}(h:vB m [s]≠0):iO m con s=vB m [s]:=if_pos h
theorem SI{m:zF}{con:Int}{s:List (List Int)}(h:vB m [s]=0)(h2:con<0∨(m.cons.length:Int)≤con):iO m con s=5:=by rw[iO,if_neg (not_not_intro h),if_pos h2]
theorem FI{m:zF}{con:Int}{s:List (List Int)}(h:vB m [s]=0)(h2:0≤con∧con<(m.cons.length:Int)):iO m con s=0:=by rw[iO,if_neg (not_not_intro h),if_neg (by omega)]
theorem zfb{m:zF}{con:Int}{s:List (List Int)}(h:iO m con s=0):vB m [s]=0∧0≤con∧con<(m.cons.length:Int):=by
 by_cases h1:vB m [s]=0
 ·by_cases h2:con<0∨(m.cons.length:Int)≤con
  ·rw[SI h1 h2]at h;exact absurd h (by decide)
  ·exact⟨h1,by omega⟩
 ·rw[FG h1]at h;exact absurd h h1
theorem Uu{m:zF}{con:Int}(h:wN m=0)(h2:0≤con∧con<(m.cons.length:Int)):MC m con=0:=by rw[MC,if_neg (not_not_intro h),if_neg (by omega)]
theorem IK(m:zF)(con:Int)(s:List (List Int)):wO rK [dM m,dI con,dS s] (.tup [dS (Od (iO m con s) (yG (zZ m con) s)),dI (iO m con s)]):=
 Ke m con s λok=>by
  rw[IC];refine zE (jZ m s) (zA (λe=> ?_) λe=> ?_)
  ·rw[FG (xO e),J5 (xO e)]
  have e:=zU e;obtain⟨h1,h2⟩:=Ax e;have hr:=oT (iM e);refine zA (λf=> ?_) λf=>zA (λg=> ?_) λg=> ?_
  ·rw[SI e (.inl (of_decide_eq_true f))];rfl
  ·rw[SI e (.inr (of_decide_eq_true g))];rfl
  ·have f:=of_decide_eq_false f
   have g:=of_decide_eq_false g;have hz:=FI (con:=con) e (by omega)
   rw[hz];have hc:=tI (Uu (iM e) (con:=con) (by omega))
   have hs:=jB hr (by rw[bP (not_not_intro (iM e)),eO]at e;exact e)
   have hl:=hs.len;rw[←hl]at hc hs
   exact⟨vC.2 (by omega),zE (fb hc hs) rfl⟩
end Go.Proofs.YteimklbiapnfhaaGreat
namespace Go.Proofs.YteimklbiapnfhaaGreat
open Go.RowKit
set_option linter.unusedVariables false
set_option linter.unusedSimpArgs false
variable[Lo]
theorem Kp{s:List (List Int)}{nv:Nat}(hs:iF s nv):∀(r vs:List Int) (n:Nat),(∀v∈r,v.toNat<vs.length)→(∀u:Nat,-50≤vs.getD u 0∧vs.getD u 0≤50)→∀u:Nat,-50≤(vI s r vs n).1.getD u 0∧(vI s r vs n).1.getD u 0≤50
 |[],vs,n,_,h,u=>h u
 |v::r,vs,n,hl,h,u=>by
  rw[vI];refine Kp hs r _ _ (λw hw=>by rw[List.length_set];exact hl w (List.mem_cons_of_mem _ hw)) (λw=> ?_) u
  rw[tF (hl v (List.mem_cons_self ..))];split
  ·by_cases hx:n%(s.getD v.toNat []).length<(s.getD v.toNat []).length
   ·rw[yN _ hx];exact hs.near _ _ (List.getElem_mem hx)
   ·rw[pR (by omega)];decide
  ·exact h w
theorem Np{s:List (List Int)}{vars vs:List Int}{n:Nat}(hv:∀v∈vars,0≤v∧v<s.length∧s.getD v.toNat []≠[])(hl:vs.length=s.length)(hn:n≤1000000000000000)(hvl:vars.length≤6):
  cV hU [dS s,.sl .int vars,.own 1000,dI (n:Int)] [(1000,.row 3 .int vs)] (.bool (decide ((vI s vars vs n).2=0))) [(1000,.row 3 .int (vI s vars vs n).1)]:=
 QL s vars vs n λ_ _=>by
  rw[O7];refine up (I:=λk v (a:Nat×List Int)=>nX s vars _ k (a.1:Int) v a.2) (a:=(n,vs)) 0 vars.length rfl (Nat.zero_le _) (by omega) (λk a=>vI s (vars.drop k) a.2 a.1=vI s vars vs n∧a.1≤1000000000000000∧a.2.length=s.length) ⟨by rw[List.drop_zero],hn,hl⟩ λk i a _ hk ha hx=> ?_
  obtain⟨n1,l3⟩:=a;obtain⟨h1,h2,h3⟩:=ha;have h3:l3.length=s.length:=h3;show nX s vars _ (k+1) (n1:Int) (i:Int) l3
  rw[Sn]
  by_cases h:i<vars.length
  ·obtain⟨q1,q2,q3⟩:=hv _ (List.getElem_mem h)
   have hat:zG (.list .int) s vars[i].toNat=s.getD vars[i].toNat []:=rfl;rw[zR h,zP (t:=.int) h,hat];rw[List.drop_eq_getElem_cons h,vI]at h1
   have hne:(s.getD vars[i].toNat []).length≠0:=λe=>q3 (List.length_eq_zero_iff.1 e)
   have hok:=hx h (n1/(s.getD vars[i].toNat []).length,l3.set vars[i].toNat ((s.getD vars[i].toNat []).getD (n1%(s.getD vars[i].toNat []).length) 0)) ⟨h1,Nat.le_trans (Nat.div_le_self ..) h2,by rw[List.length_set];exact h3⟩
   generalize s.getD vars[i].toNat []=row at hne hok⊢
   have hm:=Nat.mod_lt n1 (Nat.pos_of_ne_zero hne);have hd:n1/row.length≤1000000000000000:=Nat.le_trans (Nat.div_le_self ..) h2;rw[←Int.ofNat_tmod,←Int.ofNat_tdiv,Int.toNat_natCast];generalize n1/row.length=dq at hd hok⊢
   generalize n1%row.length=mq at hm hok⊢
   rw[tR (n:=(dq:Int)) (by omega) (by omega)]
   exact⟨zI h,vC.2 ⟨q1,q2⟩,df (by omega) ⟨zI h,by omega,zI hm,vC.2 (by omega),by omega,hok⟩⟩
  ·have hi:i=vars.length:=by omega
   subst hi;rw[List.drop_length,vI]at h1
   rw[zO,←h1];refine⟨?_,rfl⟩;show D.bool _=D.bool _
   congr 1
   exact decide_eq_decide.2 ⟨λe=>by omega,λe=>by omega⟩
theorem XP(l:List zC)(x:zC):wO uT [.sl .lit l,dL x] (dB (l.any λy=>decide (y=x))):=
 QM l x λok=>by
  rw[O8];refine OZ (I:=λn v=>jS l x _ n v) l (λy=>decide (y=x)) (fq (t:=.lit) (WD ok)) (X:=dB true=dB (l.any λy=>decide (y=x))) (Y:=dB false=dB (l.any λy=>decide (y=x))) zkO (λi k h h1 h2=> ?_) λi h=> ?_
  ·rw[ZP,zR h,zP (t:=.lit) h]
   exact⟨zI h,zA h1 h2⟩
  ·rw[ZP,zO];exact h
theorem ML{l:List zC}{x:zC}:(l.any λy=>decide (y=x))=true↔x∈l:=by
 rw[List.any_eq_true];exact⟨λ⟨y,hy,e⟩=>by rw[←of_decide_eq_true e];exact hy,λh=>⟨x,h,decide_eq_true rfl⟩⟩
structure Met (c:zQ)(s:List (List Int))(zs:List Int)(k:Nat)(met:List zC):Prop where
 nodup:met.Nodup
 near:∀x∈met,(0≤x.var∧x.var<6)∧x.op=0∧-50≤x.n∧x.n≤50
 mem:∀x,x∈met↔∃j,j<k∧xD c (vI s (yA c s.length) zs j).1=true∧∃v∈yA c s.length,x=⟨v,0,(vI s (yA c s.length) zs j).1.getD v.toNat 0⟩
theorem zjg{met:List zC}(h:met.Nodup)(hn:∀x∈met,(0≤x.var∧x.var<6)∧x.op=0∧-50≤x.n∧x.n≤50):met.length≤606:=by
 have h1:(met.map λx=>x.var*101+x.n+50).Nodup:=Tp h λx hx y hy e=>by
  have a:=hn x hx;have b:=hn y hy;obtain⟨xv,xo,xn⟩:=x;obtain⟨yv,yo,yn⟩:=y;simp only at a b e
  have e1:xv=yv:=by omega
  have e2:xn=yn:=by omega
  have e3:xo=yo:=by omega
  rw[e1,e2,e3]
 have:=eS h1 (lo:=0) (n:=606) λx hx=>by
  obtain⟨y,hy,rfl⟩:=List.mem_map.1 hx;have a:=hn y hy;omega
 rwa[List.length_map]at this
theorem R6{m:zF}{con:Int}{s:List (List Int)}(hat:MC m con=0)(hst:rH m s=0):wO rU [dM m,dI con,dS s] (dS (yG (zZ m con) s)):=
 Sc m con s λok=>by
  obtain⟨hm,hcon⟩:=lI hat;have hc:=tI hat;have hs:=jB hm hst;have hl:=hs.len;rw[←hl]at hs
  have hc2:uO (zZ m con) s.length:=by rw[hl];exact hc
  have hnv:=hc2.nv6;have hpos:0<s.length:=by have:=hm.some;omega
  rw[RE];refine zE (vG s) (zA (λe=> ?_) λe=> ?_)
  ·rw[yG,if_pos e]
  have hf:zY s=false:=e;rw[yG,if_neg (by rw[hf];decide)]
  refine⟨vC.2 hcon,?_⟩;show zX nT [dM m,dC (zZ m con)] (.list .int) λc2=>_
  refine zE (Pg m hc) ?_;rw[←hl];refine⟨rfl,by omega,xR (t:=.int) (by rw[Int.toNat_natCast];show _*8≤_;omega),?_⟩
  rw[Int.toNat_natCast]
  have hz:∀u:Nat,(List.replicate s.length (0:Int)).getD u 0=0:=λu=>by
   by_cases h:u<s.length
   ·rw[yN _ (by rw[List.length_replicate];exact h),List.getElem_replicate]
   ·exact pR (by rw[List.length_replicate];omega)
  have hzl:(List.replicate s.length (0:Int)).length=s.length:=List.length_replicate ..;have hzn:∀u:Nat,-50≤(List.replicate s.length (0:Int)).getD u 0∧(List.replicate s.length (0:Int)).getD u 0≤50:=λu=>by rw[hz u];decide
  have goodV:∀ {vs:List Int},vs.length=s.length→(∀u:Nat,-50≤vs.getD u 0∧vs.getD u 0≤50)→QX vs m.vars.length:=fun {vs} h1 h2=>⟨by omega,λn hn=>by
   obtain⟨u,hu,rfl⟩:=List.getElem_of_mem hn;have:=h2 u
   rwa[yN _ hu]at this⟩
  by_cases h0:yA (zZ m con) s.length=[]
  ·refine dt (by rw[h0];rfl) ?_
   have ht:xD (zZ m con) (List.replicate s.length 0)=xD (zZ m con) []:=mZ hc2 λv h1 h2=>by rw[IA h0 h1]at h2;cases h2
   refine zE (Yn hc (goodV hzl hzn)) (zA (λe=> ?_) λe=> ?_)
   ·rw[if_pos h0,if_pos (ht.symm.trans e)]
   ·rw[if_pos h0,if_neg (by rw[←ht];show¬_=true;rw[show xD (zZ m con) (List.replicate s.length 0)=false from e];decide)]
    exact zE (fm (by omega)) rfl
  refine df (by
   have:(yA (zZ m con) s.length).length≠0:=λe=>h0 (List.length_eq_zero_iff.1 e)
   omega) ?_
  rw[if_neg h0];show∃n0,tK s _ (yA (zZ m con) s.length) n0 0 (zZ m con).kind (zZ m con).vars (zZ m con).consts (zZ m con).n (zZ m con).rows (zZ m con).lits ([]:List zC) (List.replicate s.length 0)
  have hscv:∀v∈yA (zZ m con) s.length,0≤v∧v<s.length∧s.getD v.toNat []≠[]:=λv hv=>by
   have:=qO v hv;exact⟨this.1,this.2,oW.1 hf _ (by omega)⟩
  have hscl:(yA (zZ m con) s.length).length≤6:=by
   have:=eS (Xq (c:=zZ m con) (nv:=s.length)) (lo:=0) (n:=s.length) λx hx=>by have:=qO x hx;omega
   omega
  have hK:Ym s (yA (zZ m con) s.length)≤101^6:=Nat.le_trans (zds hs.row _) (Nat.pow_le_pow_right (by decide) hscl)
  have hK1:(101:Nat)^6≤1000000000000000:=by decide
  have hKp:0<Ym s (yA (zZ m con) s.length):=AO _ λv hv=>(hscv v hv).2.2
  have hpart:∀v n:Int,(∃j,j<Ym s (yA (zZ m con) s.length)∧xD (zZ m con) (vI s (yA (zZ m con) s.length) (List.replicate s.length 0) j).1=true∧∃u∈yA (zZ m con) s.length,(⟨v,0,n⟩:zC)=⟨u,0,(vI s (yA (zZ m con) s.length) (List.replicate s.length 0) j).1.getD u.toNat 0⟩)↔v∈yA (zZ m con) s.length∧May (xD (zZ m con)) s v.toNat n:=λv n=>by
   rw[←Cb hc2 hf hzl,HZ hc2 hf hzl];constructor
   ·rintro⟨j,h1,h2,u,h3,h4⟩
    injection h4 with h5 h6 h7
    exact⟨j,h1,h2,u,h3,by rw[h5,h7]⟩
   ·rintro⟨j,h1,h2,u,h3,h4⟩
    injection h4 with h5 h7
    exact⟨j,h1,h2,u,h3,by rw[h5,h7]⟩
  generalize hcc:zZ m con=c at*
  generalize hsc:yA c s.length=sc at*
  refine up (I:=λn v (a:List zC×List Int)=>tK s _ sc n v c.kind c.vars c.consts c.n c.rows c.lits a.1 a.2) (a:=(([]:List zC),List.replicate s.length (0:Int))) 0 (Ym s sc) rfl (Nat.zero_le _) (by omega)
   (λk a=>Met c s (List.replicate s.length 0) k a.1∧a.2.length=s.length∧∀u:Nat,-50≤a.2.getD u 0∧a.2.getD u 0≤50) ⟨⟨List.nodup_nil,λx hx=>(by cases hx),λx=>⟨λh=>(by cases h),λ⟨j,h,_⟩=>absurd h (Nat.not_lt_zero _)⟩⟩,hzl,hzn⟩ λn k a _ hk ha hn=> ?_
  obtain⟨met,vs⟩:=a;obtain⟨h1,h2,h3⟩:=ha;have h1:Met c s (List.replicate s.length 0) k met:=h1;have h2:vs.length=s.length:=h2;have h3:∀u:Nat,-50≤vs.getD u 0∧vs.getD u 0≤50:=h3;show tK s _ sc (n+1) (k:Int) c.kind c.vars c.consts c.n c.rows c.lits met vs
  rw[Ue];have hch:=Np (vars:=sc) (vs:=vs) (n:=k) hscv h2 (by omega) hscl
  rw[Kb]at hch
  refine⟨_,_,hch,?_⟩
  by_cases h:k<Ym s sc
  ·refine dt (Nat.div_eq_of_lt h) ?_
   have hws:(vI s sc vs k).1.length=s.length:=(Pm _ _ _).trans h2;have hwn:=Kp hs sc vs k (λv hv=>by have:=hscv v hv;omega) h3
   have hsame:∀v∈sc,(vI s sc vs k).1.getD v.toNat 0=(vI s sc (List.replicate s.length 0) k).1.getD v.toNat 0:=λv hv=>Kd sc _ _ _ (by rw[h2,hzl]) v hv (by have:=hscv v hv;rw[hzl];omega)
   have ht:xD c (vI s sc vs k).1=xD c (vI s sc (List.replicate s.length 0) k).1:=mZ hc2 λv q1 q2=>by
    have:=hsame (v:Int) (by rw[←hsc];exact pT.2 ⟨by omega,q2⟩)
    simpa using this
   generalize hw:(vI s sc vs k).1=ws at hws hwn hsame ht
   refine zE (Yn hc (goodV hws hwn)) (zA (λe=> ?_) λe=> ?_)
   ·have e:xD c ws=false:=by simpa using e
    refine hn h (met,ws) ⟨⟨h1.nodup,h1.near,λx=> ?_⟩,hws,hwn⟩
    rw[h1.mem x,hsc];constructor
    ·rintro⟨j,q1,q2⟩;exact⟨j,by omega,q2⟩
    ·rintro⟨j,q1,q2,q3⟩
     by_cases hj:j=k
     ·subst hj;rw[←ht,e]at q2;cases q2
     ·exact⟨j,by omega,q2,q3⟩
   ·have e:xD c ws=true:=by simpa using e
    refine up (I:=λn2 v (a:List zC)=>wA s _ sc n (k:Int) n2 v c.kind c.vars c.consts c.n c.rows c.lits a ws) 0 sc.length rfl (Nat.zero_le _) (by omega)
     (λi a=>a.Nodup∧(∀x∈a,(0≤x.var∧x.var<6)∧x.op=0∧-50≤x.n∧x.n≤50)∧∀x,x∈a↔x∈met∨∃v∈sc.take i,x=⟨v,0,ws.getD v.toNat 0⟩) ⟨h1.nodup,h1.near,λx=>by simp⟩ λn2 i a _ hi ha2 hn2=> ?_
    obtain⟨p1,p2,p3⟩:=ha2;rw[Ub]
    by_cases hi2:i<sc.length
    ·have hsv:=hscv _ (List.getElem_mem hi2)
     have hgl:sc[i].toNat<ws.length:=by omega
     have hvi:zG .int ws sc[i].toNat=ws.getD sc[i].toNat 0:=rfl;rw[zR hi2,zP (t:=.int) hi2,hvi];have hin:wC sc[i] ws.length=true:=vC.2 (by omega)
     have hX:zX uT [.sl .lit a,.agg [.int .i64 sc[i],.int .i64 0,.int .i64 (ws.getD sc[i].toNat 0)]] .bool λc26=>zN (!c26)
       (zL .lit (a.length+([(⟨sc[i],0,ws.getD sc[i].toNat 0⟩:zC)]).length)=true∧wA s (λd=>d=dS (pZ (λv n=> !SB c v||mayB (xD c) s v n) s)) sc n (k:Int) n2 (xF ((i:Int)+1)) c.kind c.vars c.consts c.n c.rows c.lits (a++[(⟨sc[i],0,ws.getD sc[i].toNat 0⟩:zC)]) ws)
       (wA s (λd=>d=dS (pZ (λv n=> !SB c v||mayB (xD c) s v n) s)) sc n (k:Int) n2 (xF ((i:Int)+1)) c.kind c.vars c.consts c.n c.rows c.lits a ws):=by
      refine zE (XP a ⟨sc[i],0,ws.getD sc[i].toNat 0⟩) ?_
      have hmem:∀x,(x∈a∨x=(⟨sc[i],0,ws.getD sc[i].toNat 0⟩:zC))↔x∈met∨∃v∈sc.take (i+1),x=⟨v,0,ws.getD v.toNat 0⟩:=λx=>by
       rw[p3 x,←List.take_append_getElem hi2];simp only[List.mem_append,List.mem_singleton];constructor
       ·rintro((q|⟨v,q1,q2⟩)|q)
        ·exact .inl q
        ·exact .inr ⟨v,.inl q1,q2⟩
        ·exact .inr ⟨_,.inr rfl,q⟩
       ·rintro(q|⟨v,q1|q1,q2⟩)
        ·exact .inl (.inl q)
        ·exact .inl (.inr ⟨v,q1,q2⟩)
        ·rw[q1]at q2;exact .inr q2
      refine zA (λf=>⟨xR (t:=.lit) ?_,hn2 hi2 _ ⟨?_,λx hx=> ?_,λx=> ?_⟩⟩) λf=>hn2 hi2 _ ⟨p1,p2,λx=> ?_⟩
      ·have:=zjg p1 p2
       show(_+1)*24≤_;omega
      ·rw[List.nodup_append]
       refine⟨p1,by simp,λx hx y hy e2=> ?_⟩
       rw[List.mem_singleton]at hy
       have f:(a.any λy=>decide (y=(⟨sc[i],0,ws.getD sc[i].toNat 0⟩:zC)))=false:=by simpa using f
       rw[ML.2 (by rw[←hy,←e2];exact hx)]at f
       cases f
      ·rcases List.mem_append.1 hx with hx|hx
       ·exact p2 x hx
       ·rw[List.mem_singleton.1 hx];exact⟨by show 0≤sc[i]∧sc[i]<6;omega,rfl,hwn _⟩
      ·rw[←hmem x,List.mem_append,List.mem_singleton]
      ·have f:(a.any λy=>decide (y=(⟨sc[i],0,ws.getD sc[i].toNat 0⟩:zC)))=true:=by simpa using f
       rw[←hmem x];exact⟨.inl,λq=>q.elim id λq=>by rw[q];exact ML.1 f⟩
     repeat'(first|exact hX|exact hin|exact zI hi2|apply And.intro)
    ·have hi':i=sc.length:=by omega
     subst hi';rw[zO];refine hn h (a,ws) ⟨⟨p1,p2,λx=> ?_⟩,hws,hwn⟩
     rw[p3 x,h1.mem x,List.take_length,hsc];constructor
     ·rintro(⟨j,q1,q2⟩|⟨v,q1,q2⟩)
      ·exact⟨j,by omega,q2⟩
      ·exact⟨k,by omega,by rw[←ht];exact e,v,q1,by rw[q2,hsame v q1]⟩
     ·rintro⟨j,q1,q2,v,q3,q4⟩
      by_cases hj:j=k
      ·subst hj;exact .inr ⟨v,q3,by rw[q4,hsame v q3]⟩
      ·exact .inl ⟨j,by omega,q2,v,q3,q4⟩
  ·have hk':k=Ym s sc:=by omega
   subst hk';refine df (by rw[Nat.div_self hKp];decide) ?_
   have hmet:∀v n:Int,(⟨v,0,n⟩:zC)∈met↔v∈sc∧May (xD c) s v.toNat n:=λv n=>by
    rw[h1.mem,←hpart v n,hsc]
   refine up (I:=λn4 v (a:List (List Int))=>pO s _ sc n4 v met a) 0 s.length rfl (Nat.zero_le _) (by omega) (λi a=>a=(s.take i).mapIdx λv l=>l.filter λn=> !SB c v||mayB (xD c) s v n) rfl λn4 i a _ hi ha4 hn4=> ?_
   subst ha4;rw[Ud]
   by_cases hi2:i<s.length
   ·have hrow:=hs.row i
    rw[yN _ hi2]at hrow
    have hroom:zL (.list .int) (((s.take i).mapIdx λv l=>l.filter λn=> !SB c v||mayB (xD c) s v n).length+1)=true:=xR (t:=.list .int) (by rw[List.length_mapIdx,List.length_take];show(_+1)*24≤_;omega)
    have hhs:pP sc (i:Int)=SB c i:=by rw[←hsc];exact WW hi2
    rw[zR hi2];refine zE (XL _ _) (zA (λe=>⟨zI hi2,hroom,hn4 hi2 _ ?_⟩) λe=> ?_)
    ·rw[hhs]at e
     rw[UO _ hi2,zP (t:=.list .int) hi2]
     congr 1
     congr 1
     symm
     exact List.filter_eq_self.2 λn _=>by rw[e];rfl
    ·rw[hhs]at e
     have e:SB c i=true:=by simpa using e
     refine up (I:=λn6 v (a:List Int)=>pN s _ sc n4 (i:Int) n6 v met _ a) 0 s[i].length rfl (Nat.zero_le _) (by omega) (λj a=>a=(s[i].take j).filter λn=> !SB c i||mayB (xD c) s i n) rfl λn6 j a _ hj ha6 hn6=> ?_
     subst ha6;rw[Uc,zP (t:=.list .int) hi2];refine⟨zI hi2,?_⟩
     by_cases hj2:j<s[i].length
     ·rw[zR hj2,zP (t:=.int) hj2]
      have hb:(met.any λy=>decide (y=(⟨(i:Int),0,s[i][j]⟩:zC)))=(!SB c i||mayB (xD c) s i s[i][j]):=by
       rw[e,Bool.not_true,Bool.false_or,Bool.eq_iff_iff,ML,hmet,nY,Int.toNat_natCast];exact⟨λq=>q.2,λq=>⟨by rw[←hsc];exact pT.2 ⟨by omega,e⟩,q⟩⟩
      refine⟨zI hi2,zI hj2,zE (XP met ⟨(i:Int),0,s[i][j]⟩) ?_⟩;rw[hb];refine zA (λf=>⟨zI hi2,zI hj2,xR (t:=.int) ?_,hn6 hj2 _ ?_⟩) λf=>hn6 hj2 _ ?_
      ·have:=List.length_filter_le (λn=> !SB c i||mayB (xD c) s i n) (s[i].take j)
       rw[List.length_take]at this
       show(_+1)*8≤_
       omega
      ·rw[oK _ hj2,if_pos f]
      ·rw[oK _ hj2,if_neg (by rw[f];exact Bool.false_ne_true)]
     ·have hj':j=s[i].length:=by omega
      subst hj';rw[zO,List.take_length];exact⟨hroom,hn4 hi2 _ (UO _ hi2).symm⟩
   ·have hi':i=s.length:=by omega
    subst hi';rw[zO,List.take_length];rfl
end Go.Proofs.YteimklbiapnfhaaGreat
namespace Go.Proofs.YteimklbiapnfhaaGreat
open Go.RowKit
set_option linter.unusedVariables false
set_option linter.unusedSimpArgs false
variable[Lo]
def partB(c:zQ)(s:List (List Int))(v:Nat)(n:Int):Bool:=
 (List.range (Ym s (yA c s.length))).any λk=>xD c (vI s (yA c s.length) (List.replicate s.length 0) k).1&&decide ((vI s (yA c s.length) (List.replicate s.length 0) k).1.getD v 0=n)
def VV(c:zQ)(s:List (List Int)):List (List Int):=
 if zY s=true then s else if yA c s.length=[]then(if xD c []=true then s else iN s)else pZ (λv n=> !SB c v||partB c s v n) s
theorem zjh{c:zQ}{s:List (List Int)}(hc:uO c s.length)(hf:zY s=false){v:Nat}{n:Int}(hv:v<s.length)(hi:SB c v=true):partB c s v n=mayB (xD c) s v n:=by
 have hz:(List.replicate s.length (0:Int)).length=s.length:=List.length_replicate ..;have hm:(v:Int)∈yA c s.length:=pT.2 ⟨by omega,hi⟩
 rw[Bool.eq_iff_iff,nY,partB,List.any_eq_true];have h:=Cb hc hf hz (v:=(v:Int)) (n:=n);rw[HZ hc hf hz,Int.toNat_natCast]at h
 constructor
 ·rintro⟨k,hk,e⟩
  rw[Bool.and_eq_true,decide_eq_true_iff]at e
  exact(h.1 ⟨k,List.mem_range.1 hk,e.1,(v:Int),hm,by rw[Int.toNat_natCast,e.2]⟩).2
 ·intro hy
  obtain⟨k,hk,e1,u,hu,e2⟩:=h.2 ⟨hm,hy⟩;injection e2 with e3 e4
  refine⟨k,List.mem_range.2 hk,?_⟩;rw[Bool.and_eq_true,decide_eq_true_iff];refine⟨e1,?_⟩;rw[e4,←e3,Int.toNat_natCast]
theorem Tv{c:zQ}{s:List (List Int)}(hc:uO c s.length):yG c s=VV c s:=by
 rw[yG,VV];split
 ·rfl
 rename_i hf;split
 ·rfl
 refine VR λv n hn=> ?_
 have hv:v<s.length:=by
  apply Classical.byContradiction;intro h;rw[pR (by omega)]at hn;cases hn
 cases hi:SB c v
 ·rfl
 ·rw[zjh hc (by simpa using hf) hv hi]
theorem Oh{m:zF}{s t:List (List Int)}(h:rH m s=0)(hl:Z4 t s):rH m t=0:=by
 obtain⟨h1,h2,h3⟩:=VN.1 h;refine VN.2 ⟨hl.1.trans h1,λv n hn=>h2 v n ((hl.2 v).subset hn),λl hm=> ?_⟩
 obtain⟨i,hi,rfl⟩:=List.getElem_of_mem hm;have:=hl.2 i;rw[yN _ hi,yN _ (show i<s.length by rw[←hl.1];exact hi)]at this
 exact(h3 _ (List.getElem_mem _)).sublist this
theorem zdw{m:zF}{s:List (List Int)}(h:vB m [s]=0):wN m=0∧rH m s=0:=by
 have h1:=iM h;rw[bP (not_not_intro h1),eO]at h
 exact⟨h1,h⟩
structure AU (m:zF)(con:Int)(s:List (List Int)):Prop where
 chk:wN m=0
 st:rH m s=0
 cn:0≤con∧con<(m.cons.length:Int)
 right:uO (zZ m con) m.vars.length
 len:s.length=m.vars.length
 pos:0<m.vars.length
 op:WS m.vars.length (yG (zZ m con)) (xD (zZ m con))
theorem Pw{m:zF}{con:Int}{s:List (List Int)}(h:iO m con s=0):AU m con s:=by
 obtain⟨h1,h2⟩:=zfb h;obtain⟨h3,h4⟩:=zdw h1;have hr:=oT h3;have hc:=tI (Uu h3 h2);have hp:0<m.vars.length:=by have:=hr.some;omega
 exact⟨h3,h4,h2,hc,aY h4,hp,Tn hc hp⟩
theorem zfc:wO rK [dM tQ,dI 0,dS [[0,1,2],[0,1,2]]] (.tup [dS [[0,1],[1,2]],dI 0]):=by
 have h:=IK tQ 0 [[0,1,2],[0,1,2]];have e:iO tQ 0 [[0,1,2],[0,1,2]]=0:=by kernel_rfl
 rw[e,Mm rfl,Tv (Pw e).right]at h
 rwa[show VV (zZ tQ 0) [[0,1,2],[0,1,2]]=[[0,1],[1,2]] by kernel_rfl]at h
theorem Uv:wO o3 [] (dB true):=
 Vh λok=>by
  rw[Uk];exact zE xS (kH (t:=.list (.list .int)) (u:=.int) zfc (zE (xC _ _) rfl))
end Go.Proofs.YteimklbiapnfhaaGreat
namespace Go.Proofs.YteimklbiapnfhaaGreat
open Go.RowKit
set_option linter.unusedVariables false
set_option linter.unusedSimpArgs false
set_option maxRecDepth 100000
variable[Lo]
def Cn:xJ:= {own:=[],live:=[],n:=20}
theorem zdx(a:zF)(b:List (List Int))(c:List (List zC))(R:yC):FD Cn Tryz.f21 [dM a,dS b,.sl (.list .lit) c] R=
 (zX kM [dM a,dS b,.sl (.list .lit) c] .int λd=>
 zN (!decide (d=0))
 (R (.tup [dS ([]:List (List Int)),dI d]))
 (zX sX [dM a,dS b,dB true,.sl (.list .lit) c] (.list (.list .int)) λe=>
 R (.tup [dS e,dI 0]))):=by kernel_rfl
theorem zbq(a:zF)(b:List (List Int))(c:List (List zC)):yY Cn Tryz.f21 iZ [dM a,dS b,.sl (.list .lit) c]:=xA Tryz.func21 (by kernel_rfl) Tryz.ntmps21 rfl
def Co:xJ:= {own:=[],live:=[],n:=16}
theorem zdy(a:zF)(b:List (List Int))(R:yC):FD Co Tryz.f22 [dM a,dS b] R=
 (zX kM [dM a,dS b,.sl (.list .lit) ([]:List (List zC))] .int λc=>
 zN (!decide (c=0))
 (R (.tup [dS ([]:List (List Int)),dI c]))
 (zX sX [dM a,dS b,dB true,.sl (.list .lit) ([]:List (List zC))] (.list (.list .int)) λd=>
 R (.tup [dS d,dI 0]))):=by kernel_rfl
theorem zbr(a:zF)(b:List (List Int)):yY Co Tryz.f22 hD [dM a,dS b]:=xA Tryz.func22 (by kernel_rfl) Tryz.ntmps22 rfl
def H3:xJ:= {own:=[],live:=[],n:=20}
theorem zbs(a:zF)(b:List (List Int))(c:List (List zC))(R:yC):FD H3 Tryz.f39 [dM a,dS b,.sl (.list .lit) c] R=
 (zX kM [dM a,dS b,.sl (.list .lit) c] .int λd=>
 zN (!decide (d=0))
 (R (.tup [dS ([]:List (List Int)),dI d]))
 (zX sX [dM a,dS b,dB false,.sl (.list .lit) c] (.list (.list .int)) λe=>
 R (.tup [dS e,dI 0]))):=by kernel_rfl
theorem BD(a:zF)(b:List (List Int))(c:List (List zC)):yY H3 Tryz.f39 Xc [dM a,dS b,.sl (.list .lit) c]:=xA Tryz.func39 (by kernel_rfl) Tryz.ntmps39 rfl
def H4:xJ:= {own:=[],live:=[],n:=17}
theorem zbt(a:zF)(b:List (List Int))(c:List (List zC))(R:yC):FD H4 Tryz.f58 [dM a,dS b,.sl (.list .lit) c] R=
 (zX rB [dM a,dS b] .int λd=>
 zN (!decide (d=0))
 (R (dI d))
 (zX ZC [dM a,.sl (.list .lit) c] .int λe=>
 R (dI e))):=by kernel_rfl
theorem BE(a:zF)(b:List (List Int))(c:List (List zC)):yY H4 Tryz.f58 kM [dM a,dS b,.sl (.list .lit) c]:=xA Tryz.func58 (by kernel_rfl) Tryz.ntmps58 rfl
def pV:xJ:= {own:=[],live:=[(0,([1,2,3,4],[])),(2,([1,2,3,4,9,10],[])),(4,([1,2,3,4,9,11],[]))],n:=62}
def WX(a:zF)(b:Bool)(c:List (List zC))(R:yC)(d:Nat)(e:List (List Int))(f:Nat)(g:List (List Int))(h:Int):Prop:=LP pV Tryz.f59 [1,1,0,0,0,1,1,0,1,0,0] 4 f ⟨[(1,dS g),(2,dB b),(3,.sl (.list .lit) c),(4,.iptr (aS a []) 0),(9,dS e),(11,dI h)],[]⟩ (zH 4 (sK pV Tryz.f59 [1,1,0,0,0,1,1,1] 1 (zH 1 (iK pV Tryz.f59 [1,1,0,0] 0 d (zH 0 (eK Tryz.f59 R))))))
def Ya(a:zF)(b:Bool)(c:List (List zC))(R:yC)(d:Nat)(e:List (List Int))(f:Nat)(g:List (List Int))(h:Int):Prop:=LP pV Tryz.f59 [1,1,0,0,0,1,1,0,1,0,0] 4 f ⟨[(1,dS g),(2,dB b),(3,.sl (.list .lit) c),(4,.iptr (aS a []) 0),(9,dS e),(11,dI h)],[]⟩ (zH 4 (sK pV Tryz.f59 [1,1,0,0,0,1,1,1] 1 (zH 1 (iK pV Tryz.f59 [1,1,0,0] 0 d (zH 0 (eK Tryz.f59 R))))))
def Wb(a:zF)(b:Bool)(c:List (List zC))(R:yC)(d:Nat)(e:List (List Int))(f:Nat)(g:List (List Int))(h:Int):Prop:=LP pV Tryz.f59 [1,1,0,0,0,1,1,0,1,0,0] 4 f ⟨[(1,dS g),(2,dB b),(3,.sl (.list .lit) c),(4,.iptr (aS a []) 0),(9,dS e),(11,dI h)],[]⟩ (zH 4 (sK pV Tryz.f59 [1,1,0,0,0,1,1,1] 1 (zH 1 (iK pV Tryz.f59 [1,1,0,0] 0 d (zH 0 (eK Tryz.f59 R))))))
def Za(a:zF)(b:Bool)(c:List (List zC))(R:yC)(d:Nat)(e:List (List Int))(f:Nat)(g:List (List Int))(h:Int):Prop:=LP pV Tryz.f59 [1,1,0,0,0,1,0,1,0,0] 2 f ⟨[(1,dS g),(2,dB b),(3,.sl (.list .lit) c),(4,.iptr (aS a []) 0),(9,dS e),(10,dI h)],[]⟩ (zH 2 (sK pV Tryz.f59 [1,1,0,0,0,1,1] 1 (zH 1 (iK pV Tryz.f59 [1,1,0,0] 0 d (zH 0 (eK Tryz.f59 R))))))
def qQ(a:zF)(b:Bool)(c:List (List zC))(R:yC)(d:Nat)(e:List (List Int)):Prop:=LP pV Tryz.f59 [1,1,0,0] 0 d ⟨[(1,dS e),(2,dB b),(3,.sl (.list .lit) c),(4,.iptr (aS a []) 0)],[]⟩ (zH 0 (eK Tryz.f59 R))
theorem BF(d:zF)(e:Bool)(b:List (List zC))(R:yC)(f:Nat)(g:List (List Int))(h:Nat)(a:List (List Int))(c:Int):WX d e b R f g (h+1) a c=
 (zN (decide (c<(b.length:Int)))
 (zX zS [dS a] .bool λi=>
 zN (!i)
 (wC c b.length=true∧
 zX uA [dS a,.sl .lit (zG (.list .lit) b c.toNat)] (.list (.list .int)) λj=>
 WX d e b R f g h j (xF (c+1)))
 (zX zS [dS a] .bool λk=>
 zN k
 (zX yM [dS a] (.list (.list .int)) λl=>
 R (dS l))
 (zX tJ [dS a,dS g] .bool λm=>
 zN m
 (R (dS a))
 (qQ d e b R f a))))
 (zX zS [dS a] .bool λn=>
 zN n
 (zX yM [dS a] (.list (.list .int)) λo=>
 R (dS o))
 (zX tJ [dS a,dS g] .bool λp=>
 zN p
 (R (dS a))
 (qQ d e b R f a)))):=by kernel_rfl
theorem G5(d:zF)(e:Bool)(b:List (List zC))(R:yC)(f:Nat)(g:List (List Int))(h:Nat)(a:List (List Int))(c:Int):Ya d e b R f g (h+1) a c=
 (zN (decide (c<(b.length:Int)))
 (zX zS [dS a] .bool λi=>
 zN (!i)
 (wC c b.length=true∧
 zX uA [dS a,.sl .lit (zG (.list .lit) b c.toNat)] (.list (.list .int)) λj=>
 Ya d e b R f g h j (xF (c+1)))
 (zX zS [dS a] .bool λk=>
 zN k
 (zX yM [dS a] (.list (.list .int)) λl=>
 R (dS l))
 (zX tJ [dS a,dS g] .bool λm=>
 zN m
 (R (dS a))
 (qQ d e b R f a))))
 (zX zS [dS a] .bool λn=>
 zN n
 (zX yM [dS a] (.list (.list .int)) λo=>
 R (dS o))
 (zX tJ [dS a,dS g] .bool λp=>
 zN p
 (R (dS a))
 (qQ d e b R f a)))):=by kernel_rfl
theorem G6(d:zF)(e:Bool)(b:List (List zC))(R:yC)(f:Nat)(g:List (List Int))(h:Nat)(a:List (List Int))(c:Int):Wb d e b R f g (h+1) a c=
 (zN (decide (c<(b.length:Int)))
 (zX zS [dS a] .bool λi=>
 zN (!i)
 (wC c b.length=true∧
 zX uA [dS a,.sl .lit (zG (.list .lit) b c.toNat)] (.list (.list .int)) λj=>
 Wb d e b R f g h j (xF (c+1)))
 (zX zS [dS a] .bool λk=>
 zN k
 (zX yM [dS a] (.list (.list .int)) λl=>
 R (dS l))
 (zX tJ [dS a,dS g] .bool λm=>
 zN m
 (R (dS a))
 (qQ d e b R f a))))
 (zX zS [dS a] .bool λn=>
 zN n
 (zX yM [dS a] (.list (.list .int)) λo=>
 R (dS o))
 (zX tJ [dS a,dS g] .bool λp=>
 zN p
 (R (dS a))
 (qQ d e b R f a)))):=by kernel_rfl
theorem Y1(a:zF)(b:Bool)(d:List (List zC))(R:yC)(e:Nat)(f:List (List Int))(h:Nat)(c:List (List Int))(g:Int):Za a b d R e f (h+1) c g=
 (zN b
 (zN (decide (g<(a.cons.length:Int)))
 (zX zS [dS c] .bool λi=>
 zN (!i)
 (wC g a.cons.length=true∧
 zX vR [dC (zG .con a.cons g.toNat),dS c] (.list (.list .int)) λj=>
 Za a b d R e f h j (xF (g+1)))
 (∃n4,WX a b d R e f n4 c 0))
 (∃n4_2,Ya a b d R e f n4_2 c 0))
 (∃n4_3,Wb a b d R e f n4_3 c 0)):=by kernel_rfl
theorem BG(b:zF)(c:Bool)(d:List (List zC))(R:yC)(e:Nat)(a:List (List Int)):qQ b c d R (e+1) a=
 (∃n2,Za b c d R e a n2 a 0):=by kernel_rfl
theorem zfd(a:zF)(b:List (List Int))(c:Bool)(d:List (List zC))(R:yC):FD pV Tryz.f59 [dM a,dS b,dB c,.sl (.list .lit) d] R=
 (zX tG [dS b] (.list (.list .int)) λe=>
 ∃n0,qQ a c d R n0 e):=by kernel_rfl
theorem zdz(a:zF)(b:List (List Int))(c:Bool)(d:List (List zC)):yY pV Tryz.f59 sX [dM a,dS b,dB c,.sl (.list .lit) d]:=xA Tryz.func59 (by kernel_rfl) Tryz.ntmps59 rfl
def Wc:xJ:= {own:=[],live:=[(0,([2,11,12,13],[]))],n:=24}
def Y2(a:zF)(b:List (List zC))(R:yC)(c:Nat)(d:Int):Prop:=LP Wc Tryz.f109 [1,1,0,1,0,0] 0 c ⟨[(2,.iptr (aS a []) 0),(11,.sl (.list .lit) b),(12,dI (b.length:Int)),(13,dI d)],[]⟩ (zH 0 (sK Wc Tryz.f109 [1,1,1] 0 (eK Tryz.f109 R)))
theorem Tw(c:zF)(a:List (List zC))(R:yC)(d:Nat)(b:Int):Y2 c a R (d+1) b=
 (zN (decide (b<(a.length:Int)))
 (wC b a.length=true∧
 zX lB [dM c,.sl .lit (zG (.list .lit) a b.toNat)] .int λe=>
 zN (!decide (e=0))
 (R (dI e))
 (Y2 c a R d (xF (b+1))))
 (R (dI 0))):=by kernel_rfl
theorem BH(b:zF)(a:List (List zC))(R:yC):FD Wc Tryz.f109 [dM b,.sl (.list .lit) a] R=
 (zN (decide (600<(a.length:Int)))
 (R (dI 2))
 (∃n0,Y2 b a R n0 0)):=by kernel_rfl
theorem Cp(a:zF)(b:List (List zC)):yY Wc Tryz.f109 ZC [dM a,.sl (.list .lit) b]:=xA Tryz.func109 (by kernel_rfl) Tryz.ntmps109 rfl
def Cq:xJ:= {own:=[],live:=[],n:=8}
theorem zdA(a b:List (List Int))(R:yC):FD Cq Tryz.f110 [dS a,dS b] R=
 (zX zT [dS a,dS b,.clo dF none []] .bool λc=>
 R (dB c)):=by kernel_rfl
theorem zbu(a b:List (List Int)):yY Cq Tryz.f110 tJ [dS a,dS b]:=xA Tryz.func110 (by kernel_rfl) Tryz.ntmps110 rfl
def Kq:xJ:= {own:=[],live:=[],n:=10}
theorem BI(a b:List Int)(R:yC):FD Kq Tryz.f160 [.sl .int a,.sl .int b] R=
 (R (dB (decide ((a.length:Int)=(b.length:Int))))):=by kernel_rfl
theorem Cr(a b:List Int):yY Kq Tryz.f160 dF [.sl .int a,.sl .int b]:=xA Tryz.func160 (by kernel_rfl) Tryz.ntmps160 rfl
end Go.Proofs.YteimklbiapnfhaaGreat
namespace Go.Proofs.YteimklbiapnfhaaGreat
open Go.RowKit
set_option linter.unusedVariables false
set_option linter.unusedSimpArgs false
variable[Lo]
noncomputable def FJ (m:zF):List Op:=m.cons.map yG
def SJ(l:List (List zC)):List Op:=l.map λc s=>kC s c
noncomputable def sF (m:zF)(cons:Bool)(l:List (List zC)):List Op:=(if cons=true then FJ m else[])++SJ l
noncomputable def sD (m:zF)(cons:Bool)(l:List (List zC))(s:List (List Int)):List (List Int):=zlf (sF m cons l) s
structure sW (m:zF)(l:List (List zC)):Prop where
 right:Right m
 cons:∀c∈m.cons,uO c m.vars.length
 lits:∀c∈l,∀x∈c,0≤x.var∧x.var<(m.vars.length:Int)
theorem sW.pos{m:zF}{l:List (List zC)}(h:sW m l):0<m.vars.length:=by have:=h.right.some;omega
theorem Cs{m:zF}{l:List (List zC)}(h:wN m=0)(hl:∀c∈l,∀x∈c,jF m.vars.length x=0):sW m l:=by
 refine⟨oT h,λc hc=> ?_,λc hc x hx=>(tS.1 (hl c hc x hx)).1⟩
 obtain⟨i,hi,rfl⟩:=List.getElem_of_mem hc;have:=tI (Uu h (con:=(i:Int)) (by omega))
 rwa[zZ,Int.toNat_natCast,yN _ hi]at this
theorem Ct{m:zF}{l:List (List zC)}(h:sW m l){c:zQ}(hc:c∈m.cons):WS m.vars.length (yG c) (xD c):=Tn (h.cons c hc) h.pos
theorem Cu{m:zF}{l:List (List zC)}(h:sW m l){c:List zC}(hc:c∈l):WS m.vars.length (λs=>kC s c) (Mu c):=zhH (h.lits c hc) h.pos
theorem jC{m:zF}{cons:Bool}{l:List (List zC)}{op:Op}:op∈sF m cons l↔(cons=true∧∃c∈m.cons,yG c=op)∨∃c∈l,(λs=>kC s c)=op:=by
 rw[sF,List.mem_append,SJ,List.mem_map];cases cons
 ·simp
 ·simp[FJ]
theorem Uw{m:zF}{cons:Bool}{l:List (List zC)}(h:sW m l):HM m.vars.length (sF m cons l):=λop hm=>by
 rcases jC.1 hm with⟨_,c,hc,rfl⟩|⟨c,hc,rfl⟩
 ·exact⟨_,Ct h hc⟩
 ·exact⟨_,Cu h hc⟩
theorem IL{m:zF}{cons:Bool}{l:List (List zC)}(h:sW m l){s:List (List Int)}(hs:s.length=m.vars.length):Vl (sF m cons l) s (sD m cons l s):=zi4 (Uw h) hs
theorem Wd{m:zF}{cons:Bool}{l:List (List zC)}(h:sW m l){s r:List (List Int)}(hs:s.length=m.vars.length)(hr:Vl (sF m cons l) s r):sD m cons l s=r:=zmK (by have:=h.pos;omega) hr
structure NN (ops:List Op)(was s:List (List Int))(done:List Op):Prop where
 le:Z4 s was
 stab:s=was→∀op∈done,op was=was
theorem NN.step{nv:Nat}{ops done:List Op}{was s:List (List Int)}(h:NN ops was s done){op:Op}{Q:List Int→Bool}(ho:WS nv op Q)(hs:s.length=nv):NN ops was (op s) (done++[op]):=by
 have hle:=ho.le hs;refine⟨hle.trans h.le,λe op' hm=> ?_⟩
 have e2:s=was:=h.le.antisymm (by rw[←e];exact hle)
 rcases List.mem_append.1 hm with hm|hm
 ·exact h.stab e2 op' hm
 ·rw[List.mem_singleton.1 hm];rw[e2]at e;exact e
theorem AV:∀ {s t:List (List Int)},s.length=t.length→((s.zip t).any λx=> !decide (x.1.length=x.2.length))=false→(∀v:Nat,(s.getD v []).Sublist (t.getD v []))→s=t
 |[],[],_,_,_=>rfl
 |a::s,b::t,hl,h,hs=>by
  rw[List.zip_cons_cons,List.any_cons,Bool.or_eq_false_iff]at h
  have h1:a.length=b.length:=by simpa using h.1
  have h0:a.Sublist b:=hs 0;rw[h0.eq_of_length h1,AV (by simpa using hl) h.2 λv=>hs (v+1)]
 |[],_::_,hl,_,_=>by simp at hl
 |_::_,[],hl,_,_=>by simp at hl
def H5(s t:List (List Int)):Bool:=decide (s.length=t.length)&& !((s.zip t).any λx=> !decide (x.1.length=x.2.length))
theorem Oi{s t:List (List Int)}(h:Z4 s t):H5 s t=true↔s=t:=by
 rw[H5,Bool.and_eq_true,decide_eq_true_iff,Bool.not_eq_true'];constructor
 ·rintro⟨h1,h2⟩;exact AV h1 h2 h.2
 ·rintro rfl
  refine⟨rfl,List.any_eq_false.2 λx hx=> ?_⟩
  obtain⟨i,hi,rfl⟩:=List.getElem_of_mem hx;rw[List.getElem_zip];simp
theorem BJ(a b:List Int):wO dF [.sl .int a,.sl .int b] (dB (decide (a.length=b.length))):=
 Cr a b λok=>by
  rw[BI];show D.bool _=D.bool _
  congr 1
  exact decide_eq_decide.2 ⟨λe=>by omega,λe=>by omega⟩
theorem H6(s t:List (List Int)):wO tJ [dS s,dS t] (dB (H5 s t)):=
 zbu s t λok=>by
  rw[zdA];refine zE (x:=H5 s t) ?_ rfl;refine mB.clo (pre:=[_,_]) (slices_EqualFunc_api_Store_api_Store_int_int_sat s t dF [] λok=> ?_)
  have hs:fz s:=mC (WD ok);have hsl:=dQ hs;rw[sU];refine zA (λe=> ?_) λe=> ?_
  ·rw[H5,decide_eq_false (by simp at e;omega)];rfl
  have e:s.length=t.length:=by simp at e;omega
  have hz:(s.zip t).length=s.length:=by rw[List.length_zip];omega
  refine OZ (I:=λn v=>xW s t dF [] _ n v) (s.zip t) (λx=> !decide (x.1.length=x.2.length)) (by omega) (X:=dB false=dB (H5 s t)) (Y:=dB true=dB (H5 s t)) (by rw[H5,decide_eq_true e];cases(s.zip t).any λx=> !decide (x.1.length=x.2.length)<;>rfl) (λn k h hX hn=> ?_) λn hY=> ?_
  ·have hk:k<s.length:=by omega
   rw[List.getElem_zip]at hX hn
   rw[wJ,zR hk,zP (t:=.list .int) hk,zP (t:=.list .int) (show k<t.length by omega)]
   exact⟨zI hk,zI (by omega),Dq,zE (BJ _ _) (zA hX hn)⟩
  ·rw[hz,wJ,zO];exact hY
theorem Cv{nv:Nat}{ops:List Op}{s0 s:List (List Int)}(h:vW ops s0 s)(hg:iF s0 nv):iF s nv:=by
 refine⟨h.le.1.trans hg.len,λv n hn=>hg.near v n ((h.le.2 v).subset hn),λl hl=> ?_⟩
 obtain⟨i,hi,rfl⟩:=List.getElem_of_mem hl;have:=h.le.2 i;rw[yN _ hi,yN _ (show i<s0.length by rw[←h.le.1];exact hi)]at this
 exact(hg.rise _ (List.getElem_mem _)).sublist this
theorem zhM{nv:Nat}{ops pre:List Op}{s0 was:List (List Int)}(ho:HM nv ops)(h0:s0.length=nv){A:Type}(xs:List A)(f:A→Op)(hf:∀x∈xs,f x∈ops)
  {I:Nat→Int→List (List Int)→Prop} {X:List (List Int)→Prop} {s:List (List Int)} (hl:xs.length≤9223372036854775807) (hr:vW ops s0 s) (hw:zY s=true∨NN ops was s pre)
  (hout:∀s,vW ops s0 s→(zY s=true∨NN ops was s (pre++xs.map f))→X s)
  (hin:∀n (k:Nat) (h:k<xs.length) s,vW ops s0 s→zY s=false→I n (xF ((k:Int)+1)) (f xs[k] s)→I (n+1) (k:Int) s)
  (hend:∀n s,X s→I (n+1) (xs.length:Int) s) (hfail:∀n (k:Nat) s,k<xs.length→zY s=true→X s→I (n+1) (k:Int) s):∃n,I n 0 s:=by
 refine up (I:=I) 0 xs.length rfl (Nat.zero_le _) hl (λk s=>vW ops s0 s∧(zY s=true∨NN ops was s (pre++(xs.take k).map f))) ⟨hr,by simpa using hw⟩ λn k s _ hk ha hn=> ?_
 obtain⟨h1,h2⟩:=ha
 by_cases h:k<xs.length
 ·cases hfl:zY s with
  |true=>exact hfail n k s h hfl (hout s h1 (.inl hfl))
  |false=>
   obtain⟨Q,hq⟩:=ho _ (hf _ (List.getElem_mem h));have h2:=h2.resolve_left (by rw[hfl];decide)
   refine hin n k h s h1 hfl (hn h _ ⟨h1.step ho h0 (hf _ (List.getElem_mem h)),.inr ?_⟩);rw[Qs _ h,←List.append_assoc];exact h2.step hq (h1.le.1.trans h0)
 ·have hk':k=xs.length:=by omega
  subst hk';refine hend n s (hout s h1 ?_)
  rwa[List.take_length]at h2
def zmP(m:zF)(cons:Bool)(l:List (List zC))(s0:List (List Int))(n0:Nat)(was s:List (List Int)):Prop:=
 zX zS [dS s] .bool λs11=>zN s11
  (zX yM [dS s] (.list (.list .int)) λs12=>D.sl (.list .int) s12=dS (sD m cons l s0))
  (zX tJ [dS s,dS was] .bool λf13=>zN f13 (D.sl (.list .int) s=dS (sD m cons l s0)) (qQ m cons l (λd=>d=dS (sD m cons l s0)) n0 s))
theorem zmQ{m:zF}{cons:Bool}{l:List (List zC)}{s0:List (List Int)}(h:sW m l)(hs:s0.length=m.vars.length){n0:Nat}{was:List (List Int)}
  (ih:∀s,vW (sF m cons l) s0 s→wH s<wH was→qQ m cons l (λd=>d=dS (sD m cons l s0)) n0 s) {s:List (List Int)} (hr:vW (sF m cons l) s0 s) (hx:zY s=true∨NN (sF m cons l) was s (sF m cons l)):zmP m cons l s0 n0 was s:=by
 refine zE (yK s) (zA (λe=> ?_) λe=> ?_)
 ·have e:zY s=true:=e
  refine zE (dT s) ?_;rw[Wd h hs (hr.dead e),L5 hr.le.1]
 ·have e:zY s=false:=e
  have hrd:=hx.resolve_left (by rw[e];decide)
  refine zE (H6 s was) (zA (λf=> ?_) λf=> ?_)
  ·have f2:=(Oi hrd.le).1 f
   rw[Wd h hs (hr.stop e λop hm=> ?_)]
   rw[f2];exact hrd.stab f2 op hm
  ·exact ih s hr (hrd.le.size_lt λf2=>by rw[(Oi hrd.le).2 f2]at f;cases f)
theorem Cw{m:zF}{cons:Bool}{l:List (List zC)}{s0:List (List Int)}(h:sW m l)(hs:s0.length=m.vars.length)(hll:l.length≤1000000000){n0:Nat}{was:List (List Int)}
  (ih:∀s,vW (sF m cons l) s0 s→wH s<wH was→qQ m cons l (λd=>d=dS (sD m cons l s0)) n0 s)
  {I:Nat→Int→List (List Int)→Prop}
  (heq:∀n (i:Int) s,I (n+1) i s=zN (decide (i<(l.length:Int)))
   (zX zS [dS s] .bool λs9=>zN (!s9)
    (wC i l.length=true∧zX uA [dS s,.sl .lit (zG (.list .lit) l i.toNat)] (.list (.list .int)) λc10=>I n (xF (i+1)) c10)
    (zmP m cons l s0 n0 was s))
   (zmP m cons l s0 n0 was s))
  {s:List (List Int)} (hr:vW (sF m cons l) s0 s) (hw:zY s=true∨NN (sF m cons l) was s (if cons=true then FJ m else[])):∃n,I n 0 s:=by
 refine zhM (Uw h) hs l (λc s=>kC s c) (λc hc=>jC.2 (.inr ⟨c,hc,rfl⟩)) (by omega) hr hw (X:=zmP m cons l s0 n0 was) (λs h1 h2=>zmQ h hs ih h1 h2) (λn k hk s h1 hf hi=> ?_) (λn s hx=> ?_) λn k s hk hf hx=> ?_
 ·rw[heq,zR hk,zP (t:=.list .lit) hk]
  refine zE (yK s) (bnt hf ⟨zI hk,zE (NI λx hx=> ?_) hi⟩)
  have:=h.lits _ (List.getElem_mem hk) x hx;rw[h1.le.1,hs];exact this
 ·rw[heq,zO];exact hx
 ·rw[heq,zR hk]
  exact zE (yK s) (Ay hf hx)
theorem WY{m:zF}{cons:Bool}{l:List (List zC)}{s0:List (List Int)}(h:sW m l)(hs:iF s0 m.vars.length)(hll:l.length≤1000000000):wO sX [dM m,dS s0,dB cons,.sl (.list .lit) l] (dS (sD m cons l s0)):=
 zdz m s0 cons l λok=>by
  have ho:=Uw (cons:=cons) h;have hcl:=h.right.cons;rw[zfd];refine zE (ZY s0) ?_
  have step:∀(n0:Nat) (was:List (List Int)),vW (sF m cons l) s0 was→(∀s,vW (sF m cons l) s0 s→wH s<wH was→qQ m cons l (λd=>d=dS (sD m cons l s0)) n0 s)→qQ m cons l (λd=>d=dS (sD m cons l s0)) (n0+1) was:=by
   intro n0 was hw ih;rw[BG];cases cons with
   |false=>
    refine⟨1,?_⟩;rw[Y1];refine bf rfl ?_;exact Cw h hs.len hll ih (I:=λn i s=>Wb m false l _ n0 was n s i) (λn i s=>by rw[G6];rfl) hw (.inr ⟨Z4.refl _,λ_ op hm=>(by cases hm)⟩)
   |true=>
    refine zhM ho hs.len m.cons yG (λc hc=>jC.2 (.inl ⟨rfl,c,hc,rfl⟩)) (by omega) hw (was:=was) (pre:=[]) (.inr ⟨Z4.refl _,λ_ op hm=>(by cases hm)⟩) (I:=λn i s=>Za m true l _ n0 was n s i)
     (X:=λs=>(∃n4,WX m true l (λd=>d=dS (sD m true l s0)) n0 was n4 s 0)∧∃n4_2,Ya m true l (λd=>d=dS (sD m true l s0)) n0 was n4_2 s 0) (λs h1 h2=> ?_) (λn k hk s h1 hf hi=> ?_) (λn s hx=> ?_) λn k s hk hf hx=> ?_
    ·exact⟨Cw h hs.len hll ih (I:=λn i s=>WX m true l _ n0 was n s i) (λn i s=>by rw[BF];rfl) h1 h2,Cw h hs.len hll ih (I:=λn i s=>Ya m true l _ n0 was n s i) (λn i s=>by rw[G5];rfl) h1 h2⟩
    ·show Za m true l _ n0 was (n+1) s (k:Int)
     rw[Y1];refine bt rfl ?_;rw[zR hk,zP (t:=.con) hk];have hg:=Cv h1 hs;have hl:=hg.len;refine zE (yK s) (bnt hf ⟨zI hk,zE (fb (c:=m.cons[k]) (by rw[hl];exact h.cons _ (List.getElem_mem hk)) (by rw[hl];exact hg)) hi⟩)
    ·show Za m true l _ n0 was (n+1) s (m.cons.length:Int)
     rw[Y1];refine bt rfl ?_;rw[zO];exact hx.2
    ·show Za m true l _ n0 was (n+1) s (k:Int)
     rw[Y1];refine bt rfl ?_;rw[zR hk];exact zE (yK s) (Ay hf hx.1)
  suffices H:∀(d:Nat) (was:List (List Int)),wH was≤d→vW (sF m cons l) s0 was→qQ m cons l (λd=>d=dS (sD m cons l s0)) (d+1) was from⟨_,H _ s0 (Nat.le_refl _) (vW.refl _ _)⟩
  intro d
  induction d with
  |zero=>exact λwas hd hw=>step 0 was hw λs _ hlt=>absurd hlt (by omega)
  |succ d ih=>exact λwas hd hw=>step (d+1) was hw λs h1 hlt=>ih s (by omega) h1
end Go.Proofs.YteimklbiapnfhaaGreat
namespace Go.Proofs.YteimklbiapnfhaaGreat
open Go.RowKit
set_option linter.unusedVariables false
set_option linter.unusedSimpArgs false
variable[Lo]
def Y3(nv:Nat)(l:List (List zC)):Int:=if 600<l.length then 2 else wL (λ_ c=>vH nv c) 0 l
theorem Kr{nv:Nat}{l:List (List zC)}(h:Y3 nv l=0):l.length≤600∧∀c∈l,vH nv c=0:=by
 unfold Y3 at h
 split at h
 ·exact absurd h (by decide)
 rename_i h1;refine⟨by omega,λl hl=> ?_⟩
 obtain⟨i,hi,rfl⟩:=List.getElem_of_mem hl;exact YB h hi
theorem NO(m:zF)(l:List (List zC)):wO ZC [dM m,.sl (.list .lit) l] (dI (Y3 m.vars.length l)):=
 Cp m l λok=>by
  rw[BH];refine zA (λe=> ?_) λe=> ?_
  ·exact wG (if_pos (by simp at e;omega))
  have e:¬600<l.length:=by simp at e;omega
  rw[show Y3 m.vars.length l=wL (λ_ c=>vH m.vars.length c) 0 l from if_neg e]
  refine C8 (I:=λn v=>Y2 m l _ n v) l (λ_ c=>vH m.vars.length c) (by omega) (X:=λx=>D.int .i64 x=dI (wL (λ_ c=>vH m.vars.length c) 0 l)) (Y:=D.int .i64 0=dI (wL (λ_ c=>vH m.vars.length c) 0 l)) (λ_=>rfl) (λe=>wG e) (λn k h _ hX hn=> ?_) λn hY=> ?_
  ·rw[Tw,zR h,zP (t:=.list .lit) h]
   exact⟨zI h,zE (aI m _) (zA (λe=>hX (xO e)) λe=>hn (zU e))⟩
  ·rw[Tw,zO];exact hY
theorem Vm{m:zF}(h:wN m=0)(l:List (List zC)):wO oh [dM m,.sl (.list .lit) l] (dI (Y3 m.vars.length l)):=
 WI m l λok=>by
  rw[Vf];refine zA (λe=> ?_) λe=> ?_
  ·exact wG (if_pos (by simp at e;omega))
  have e:¬600<l.length:=by simp at e;omega
  rw[show Y3 m.vars.length l=wL (λ_ c=>vH m.vars.length c) 0 l from if_neg e]
  refine C8 (I:=λn v=>pE m l _ n v) l (λ_ c=>vH m.vars.length c) (by omega) (X:=λx=>D.int .i64 x=dI (wL (λ_ c=>vH m.vars.length c) 0 l)) (Y:=D.int .i64 0=dI (wL (λ_ c=>vH m.vars.length c) 0 l)) (λ_=>rfl) (λe=>wG e) (λn k hk _ hX hn=> ?_) λn hY=> ?_
  ·rw[gN,zR hk,zP (t:=.list .lit) hk]
   exact⟨zI hk,zE (Uq h _) (zA (λe=>hX (xO e)) λe=>hn (zU e))⟩
  ·rw[gN,zO];exact hY
def Px(m:zF)(s:List (List Int))(l:List (List zC)):Int:=if vB m [s]≠0 then vB m [s]else Y3 m.vars.length l
theorem zbv{m:zF}{s:List (List Int)}{l:List (List zC)}(h:vB m [s]≠0):Px m s l=vB m [s]:=if_pos h
theorem IM{m:zF}{s:List (List Int)}{l:List (List zC)}(h:vB m [s]=0):Px m s l=Y3 m.vars.length l:=if_neg (not_not_intro h)
theorem Py{m:zF}{s:List (List Int)}:Px m s []=vB m [s]:=by
 by_cases h:vB m [s]=0
 ·rw[IM h,h];rfl
 ·exact zbv h
structure znp (m:zF)(s:List (List Int))(l:List (List zC)):Prop where
 chk:wN m=0
 st:rH m s=0
 len:l.length≤1000000
 cl:∀c∈l,vH m.vars.length c=0
 mc:sW m l
 good:iF s m.vars.length
theorem SK{m:zF}{l:List (List zC)}(h:wN m=0)(hl:∀c∈l,vH m.vars.length c=0):sW m l:=Cs h λc hc x hx=>(kZ (hl c hc)).2 x hx
theorem WZ{m:zF}{s:List (List Int)}{l:List (List zC)}(h:Px m s l=0):znp m s l:=by
 by_cases h1:vB m [s]=0
 ·rw[IM h1]at h
  obtain⟨h2,h3⟩:=zdw h1;obtain⟨h4,h5⟩:=Kr h;exact⟨h2,h3,by omega,h5,SK h2 h5,jB (oT h2) h3⟩
 ·rw[zbv h1]at h;exact absurd h h1
theorem zdB{m:zF}(h:wN m=0):sW m []:=Cs h λc hc=>by cases hc
theorem Yb(m:zF)(s:List (List Int))(l:List (List zC)):wO kM [dM m,dS s,.sl (.list .lit) l] (dI (Px m s l)):=
 BE m s l λok=>by
  rw[zbt];refine zE (jZ m s) (zA (λe=> ?_) λe=> ?_)
  ·exact wG (zbv (xO e))
  ·exact zE (NO m l) (wG (IM (zU e)))
theorem zdC(m:zF)(s:List (List Int)):wO hD [dM m,dS s] (.tup [dS (Od (vB m [s]) (sD m true [] s)),dI (vB m [s])]):=
 zbr m s λok=>by
  rw[zdy];refine zE (Yb m s []) ?_;rw[Py];refine zA (λe=> ?_) λe=> ?_
  ·rw[J5 (xO e)]
  ·have h:=WZ (m:=m) (s:=s) (l:=[]) (by rw[Py];exact zU e)
   rw[Mm (zU e),zU e];exact zE (WY h.mc h.good (by decide)) rfl
theorem zbw(m:zF)(s:List (List Int))(l:List (List zC)):wO Xc [dM m,dS s,.sl (.list .lit) l] (.tup [dS (Od (Px m s l) (sD m false l s)),dI (Px m s l)]):=
 BD m s l λok=>by
  rw[zbs];refine zE (Yb m s l) (zA (λe=> ?_) λe=> ?_)
  ·rw[J5 (xO e)]
  ·have h:=WZ (zU e)
   rw[Mm (zU e),zU e];exact zE (WY h.mc h.good (by have:=h.len;omega)) rfl
theorem zdD(m:zF)(s:List (List Int))(l:List (List zC)):wO iZ [dM m,dS s,.sl (.list .lit) l] (.tup [dS (Od (Px m s l) (sD m true l s)),dI (Px m s l)]):=
 zbq m s l λok=>by
  rw[zdx];refine zE (Yb m s l) (zA (λe=> ?_) λe=> ?_)
  ·rw[J5 (xO e)]
  ·have h:=WZ (zU e)
   rw[Mm (zU e),zU e];exact zE (WY h.mc h.good (by have:=h.len;omega)) rfl
theorem zpf{α:Type}{I:Nat→Int→α→Prop}(m:Nat)(hm:m≤9223372036854775807)(Inv:Nat→α→Prop){a:α}(h0:Inv m a)
  (hs:∀n (k:Nat) a,k≤m→Inv k a→(∀j:Nat,k=j+1→∀a',Inv j a'→I n (xF ((j:Int)-1)) a')→I (n+1) ((k:Int)-1) a):∃n,I n (xF ((m:Int)-1)) a:=by
 suffices H:∀k,k≤m→∀a,Inv k a→I (k+1) ((k:Int)-1) a from⟨m+1,by rw[tR (by omega) (by omega)];exact H m (Nat.le_refl _) a h0⟩
 intro k
 induction k with
 |zero=>exact λhk a ha=>hs 0 0 a hk ha λj e=>absurd e (by omega)
 |succ k ih=>
  intro hk a ha;refine hs (k+1) (k+1) a hk ha λj e a' ha'=> ?_
  obtain rfl:k=j:=by omega
  rw[tR (by omega) (by omega)]
  exact ih (by omega) a' ha'
structure Cx (ops:List Op)(s0 was:List (List Int))(done:List Op)(s:List (List Int))(ch:Bool):Prop where
 reach:vW ops s0 s
 st:zY s=true∨(ch=false∧s=was∧∀op∈done,op was=was)∨(ch=true∧wH s<wH was)
theorem zhN{nv:Nat}{ops pre:List Op}{s0 was:List (List Int)}(ho:HM nv ops)(h0:s0.length=nv){A:Type}(xs:List A)(f:A→Op)(hf:∀x∈xs,f x∈ops)
  {I:Nat→Int→List (List Int)×Bool→Prop} {X:List (List Int)×Bool→Prop} {s:List (List Int)} {ch:Bool} (hl:xs.length≤9223372036854775807) (hr:Cx ops s0 was pre s ch)
  (hout:∀s ch,Cx ops s0 was (xs.map f++pre) s ch→X (s,ch))
  (hin:∀n (k:Nat) (h:k<xs.length) s ch,vW ops s0 s→zY s=false→(f xs[k] s≠s→I n (xF ((k:Int)-1)) (f xs[k] s,true))→(f xs[k] s=s→I n (xF ((k:Int)-1)) (s,ch))→I (n+1) (k:Int) (s,ch))
  (hend:∀n a,X a→I (n+1) (-1) a) (hfail:∀n (k:Nat) s ch,k<xs.length→zY s=true→X (s,ch)→I (n+1) (k:Int) (s,ch)):∃n,I n (xF ((xs.length:Int)-1)) (s,ch):=by
 refine zpf (I:=I) xs.length hl (λk a=>Cx ops s0 was ((xs.drop k).map f++pre) a.1 a.2) (by rw[List.drop_length];exact hr) λn k a hk ha hn=> ?_
 obtain⟨s,ch⟩:=a;have ha:Cx ops s0 was ((xs.drop k).map f++pre) s ch:=ha;cases k with
 |zero=>
  rw[List.drop_zero]at ha
  exact hend n _ (hout s ch ha)
 |succ j=>
  have hj:j<xs.length:=by omega
  rw[show(((j+1:Nat):Int)-1)=(j:Int) by omega]
  cases hfl:zY s with
  |true=>exact hfail n j s ch hj hfl (hout s ch ⟨ha.reach,.inl hfl⟩)
  |false=>
   obtain⟨Q,hq⟩:=ho _ (hf _ (List.getElem_mem hj));have hs:s.length=nv:=ha.reach.le.1.trans h0;have hst:=ha.st.resolve_left (by rw[hfl];decide)
   have hle:wH s≤wH was:=by
    rcases hst with⟨_,rfl,_⟩|⟨_,h⟩
    ·exact Nat.le_refl _
    ·omega
   refine hin n j hj s ch ha.reach hfl (λhne=> ?_) λe=> ?_
   ·refine hn j rfl _ ⟨ha.reach.step ho h0 (hf _ (List.getElem_mem hj)),.inr (.inr ⟨rfl,?_⟩)⟩
    exact Nat.lt_of_lt_of_le ((hq.le hs).size_lt hne) hle
   ·refine hn j rfl _ ⟨ha.reach,.inr ?_⟩
    rcases hst with⟨h1,h2,h3⟩|h
    ·refine .inl ⟨h1,h2,λop hm=> ?_⟩
     rw[List.drop_eq_getElem_cons hj,List.map_cons,List.cons_append]at hm
     rcases List.mem_cons.1 hm with rfl|hm
     ·rw[h2]at e;exact e
     ·exact h3 op hm
    ·exact .inr h
theorem MM{m:zF}{s0:List (List Int)}{l:List (List zC)}(cons:Bool)(hF:znp m s0 l):wO kL [dM m,dS s0,dB cons,.sl (.list .lit) l] (dS (sD m cons l s0)):=
 O3 m s0 cons l λok=>by
  have h:=hF.mc;have hs:=hF.good;have ho:=Uw (cons:=cons) h;have hcl:=h.right.cons;have hll:=hF.len;rw[Mg]
  have ans:∀s,vW (sF m cons l) s0 s→(zY s=true∨Ix (sF m cons l) s)→zX xY [dS s] .bool λc22=>zN c22 (zX uQ [dI s.length] (.list (.list .int)) λc23=>D.sl (.list .int) c23=dS (sD m cons l s0)) (D.sl (.list .int) s=dS (sD m cons l s0)):=λs hr hx=>by
   refine zE (vG s) (zA (λe=> ?_) λe=> ?_)
   ·have e:zY s=true:=e
    refine zE (fm (by have:=hr.le.1;have:=hs.len;have:=h.right.vars;omega)) ?_
    rw[Wd h hs.len (hr.dead e),L5 hr.le.1]
   ·have e:zY s=false:=e
    rw[Wd h hs.len (hr.stop e (hx.resolve_left (by rw[e];decide)))]
  have stop:∀(n:Nat) s ch,vW (sF m cons l) s0 s→(zY s=true∨(ch=false∧Ix (sF m cons l) s))→xP m cons l (λd=>d=dS (sD m cons l s0)) (n+1) s ch:=λn s ch hr hx=>by
   rw[Yj];cases ch with
   |false=>exact bf rfl (ans s hr (hx.imp id λh=>h.2))
   |true=>
    have hfl:=hx.resolve_right λh=>by cases h.1
    exact bt rfl (zE (vG s) (Ay hfl (ans s hr (.inl hfl))))
  have step:∀(n0:Nat) (was:List (List Int)),vW (sF m cons l) s0 was→(∀s,vW (sF m cons l) s0 s→wH s<wH was→xP m cons l (λd=>d=dS (sD m cons l s0)) (n0+1) s true)→xP m cons l (λd=>d=dS (sD m cons l s0)) (n0+1+1) was true:=by
   intro n0 was hw ih;cases hfw:zY was with
   |true=>exact stop _ _ _ hw (.inl hfw)
   |false=>
   rw[Yj];refine bt rfl (zE (vG was) (bnt hfw ?_))
   have hX:∀s ch,Cx (sF m cons l) s0 was (sF m cons l) s ch→xP m cons l (λd=>d=dS (sD m cons l s0)) (n0+1) s ch:=λs ch hd=>by
    rcases hd.st with h1|⟨h1,h2,h3⟩|⟨h1,h2⟩
    ·exact stop _ _ _ hd.reach (.inl h1)
    ·exact stop _ _ _ hd.reach (.inr ⟨h1,by rw[h2];exact h3⟩)
    ·rw[h1];exact ih s hd.reach h2
   have consDown:∀(I:Nat→Int→List (List Int)×Bool→Prop),(∀n (i:Int) a,I (n+1) i a=zN (decide (0≤i)) (zN cons (zX xY [dS a.1] .bool λc13=>zN (!c13)
      (zX rU [dM m,dI i,dS a.1] (.list (.list .int)) λc14=>zX yI [dS a.1,dS c14] .bool λc15=>zN (!c15) (I n (xF (i-1)) (c14,true)) (I n (xF (i-1)) a))
      (xP m cons l (λd=>d=dS (sD m cons l s0)) (n0+1) a.1 a.2)) (xP m cons l (λd=>d=dS (sD m cons l s0)) (n0+1) a.1 a.2)) (xP m cons l (λd=>d=dS (sD m cons l s0)) (n0+1) a.1 a.2))→
     ∀s ch,Cx (sF m cons l) s0 was (SJ l) s ch→∃n,I n (xF ((m.cons.length:Int)-1)) (s,ch):=by
    intro I heq s ch hd;cases cons with
    |false=>
     refine⟨1,?_⟩;rw[heq];refine zA (λ_=>bf rfl ?_) λ_=> ?_
     ·exact hX s ch hd
     ·exact hX s ch hd
    |true=>
     refine zhN ho hs.len m.cons yG (λc hc=>jC.2 (.inl ⟨rfl,c,hc,rfl⟩)) (by omega) hd (X:=λa=>xP m true l (λd=>d=dS (sD m true l s0)) (n0+1) a.1 a.2) (λs ch hd=>hX s ch hd) (λn k hk s ch h1 hf h2 h3=> ?_) (λn a hx=> ?_) λn k s ch hk hf hx=> ?_
     ·rw[heq]
      refine dt (by omega) (bt rfl (zE (vG s) (bnt hf ?_)))
      have hc:=R6 (m:=m) (con:=(k:Int)) (s:=s) (Uu hF.chk (by omega)) (Oh hF.st h1.le)
      have e:zZ m (k:Int)=m.cons[k]:=by rw[zZ,Int.toNat_natCast,yN _ hk]
      rw[e]at hc
      refine zE hc (zE (xC _ _) (zA (λf=>h2 λe=> ?_) λf=>h3 ?_))
      ·rw[e]at f;simp at f
      ·exact(of_decide_eq_true (by simpa using f):s=_).symm
     ·rw[heq];exact df (by decide) hx
     ·rw[heq];exact dt (by omega) (bt rfl (zE (vG s) (Ay hf hx)))
   refine zhN ho hs.len l (λc s=>kC s c) (λc hc=>jC.2 (.inr ⟨c,hc,rfl⟩)) (by omega) (was:=was) (pre:=[]) ⟨hw,.inr (.inl ⟨rfl,rfl,λop hm=>(by cases hm)⟩)⟩ (I:=λn i a=>tZ m cons l _ (n0+1) n a.1 a.2 i)
    (X:=λa=>(∃n4,pS m cons l (λd=>d=dS (sD m cons l s0)) (n0+1) n4 a.1 a.2 (xF ((m.cons.length:Int)-1)))∧∃n4,rX m cons l (λd=>d=dS (sD m cons l s0)) (n0+1) n4 a.1 a.2 (xF ((m.cons.length:Int)-1))) (λs ch hd=> ?_) (λn k hk s ch h1 hf h2 h3=> ?_) (λn a hx=> ?_) λn k s ch hk hf hx=> ?_
   ·have hd:Cx (sF m cons l) s0 was (SJ l) s ch:=by rw[List.append_nil]at hd;exact hd
    exact⟨consDown (λn i a=>pS m cons l _ (n0+1) n a.1 a.2 i) (λn i a=>by rw[RD]) s ch hd,consDown (λn i a=>rX m cons l _ (n0+1) n a.1 a.2 i) (λn i a=>by rw[US]) s ch hd⟩
   ·show tZ m cons l _ (n0+1) (n+1) s ch (k:Int)
    rw[fk,zP (t:=.list .lit) hk];refine dt (by omega) (zE (vG s) (bnt hf ⟨zI hk,?_⟩))
    obtain⟨q1,q2⟩:=kZ (hF.cl _ (List.getElem_mem hk));refine zE (Nj q2 (h1.le.1.trans hs.len) h.right.vars q1) (zE (xC _ _) (zA (λf=>h2 λe=> ?_) λf=>h3 ?_))
    ·have e:kC s l[k]=s:=e
     rw[e]at f;simp at f
    ·exact(of_decide_eq_true (by simpa using f):s=_).symm
   ·show tZ m cons l _ (n0+1) (n+1) a.1 a.2 (-1)
    rw[fk];exact df (by decide) hx.2
   ·show tZ m cons l _ (n0+1) (n+1) s ch (k:Int)
    rw[fk];exact dt (by omega) (zE (vG s) (Ay hf hx.1))
  suffices H:∀(d:Nat) (was:List (List Int)),wH was≤d→vW (sF m cons l) s0 was→xP m cons l (λd=>d=dS (sD m cons l s0)) (d+1+1) was true from⟨_,H _ s0 (Nat.le_refl _) (vW.refl _ _)⟩
  intro d
  induction d with
  |zero=>exact λwas hd hw=>step 0 was hw λs _ hlt=>absurd hlt (by omega)
  |succ d ih=>exact λwas hd hw=>step (d+1) was hw λs h1 hlt=>ih s (by omega) h1
end Go.Proofs.YteimklbiapnfhaaGreat
namespace Go.Proofs.YteimklbiapnfhaaGreat
open Go.RowKit
set_option linter.unusedVariables false
set_option linter.unusedSimpArgs false
variable[Lo]
def zmR(m:zF)(cons:Bool)(l:List (List zC)):List Op:=(if cons=true then m.cons.map VV else[])++SJ l
def Cy(ops:List Op)(s:List (List Int)):List (List Int):=ops.foldl (λs op=>op s) s
def itO(ops:List Op):Nat→List (List Int)→List (List Int)
 |0,s=>s
 |k+1,s=>itO ops k (Cy ops s)
theorem MN{op:Op}{ops:List Op}{s:List (List Int)}:Cy (op::ops) s=Cy ops (op s):=rfl
theorem Cz{nv:Nat}{ops:List Op}(ho:HM nv ops){s0:List (List Int)}(h0:s0.length=nv):∀(us:List Op) (s:List (List Int)),(∀op∈us,op∈ops)→vW ops s0 s→vW ops s0 (Cy us s)
 |[],s,_,h=>h
 |op::us,s,hs,h=>by
  rw[MN];exact Cz ho h0 us _ (λop h=>hs op (List.mem_cons_of_mem _ h)) (h.step ho h0 (hs op (List.mem_cons_self ..)))
theorem CA{nv:Nat}{ops:List Op}(ho:HM nv ops){s0:List (List Int)}(h0:s0.length=nv):∀(k:Nat) (s:List (List Int)),vW ops s0 s→vW ops s0 (itO ops k s)
 |0,s,h=>h
 |k+1,s,h=>by rw[itO];exact CA ho h0 k _ (Cz ho h0 ops s (λop h=>h) h)
theorem H7{nv:Nat}:∀ {a b:List Op},xH (λf g=>∀s,s.length=nv→f s=g s∧(f s).length=nv) a b→∀s,s.length=nv→Cy a s=Cy b s∧(Cy a s).length=nv
 |_,_,.nil,s,h=>⟨rfl,h⟩
 |f::a,g::b,.cons h hs,s,hl=>by
  obtain⟨h1,h2⟩:=h s hl;rw[MN,MN,←h1];exact H7 hs _ h2
theorem IP{nv:Nat}{a b:List Op}(h:xH (λf g=>∀s,s.length=nv→f s=g s∧(f s).length=nv) a b):∀(k:Nat) (s:List (List Int)),s.length=nv→itO a k s=itO b k s
 |0,s,_=>rfl
 |k+1,s,hl=>by
  obtain⟨h1,h2⟩:=H7 h s hl;rw[itO,itO,←h1];exact IP h k _ h2
theorem CB{α β γ:Type}{R:β→γ→Prop}{f:α→β}{g:α→γ}:∀ {l:List α},(∀x∈l,R (f x) (g x))→xH R (l.map f) (l.map g)
 |[],_=> .nil
 |x::l,h=> .cons (h x (List.mem_cons_self ..)) (CB λy hy=>h y (List.mem_cons_of_mem _ hy))
theorem zhO{m:zF}{cons:Bool}{l:List (List zC)}(h:sW m l):xH (λf g=>∀s,s.length=m.vars.length→f s=g s∧(f s).length=m.vars.length) (sF m cons l) (zmR m cons l):=by
 have hu:xH (λ(f g:Op)=>∀s,s.length=m.vars.length→f s=g s∧(f s).length=m.vars.length) (SJ l) (SJ l):=CB λc hc s hs=>⟨rfl,(Cu h hc).len hs⟩
 cases cons with
 |false=>exact hu
 |true=>exact xH.append (CB λc hc s hs=>⟨Tv (by rw[hs];exact h.cons c hc),(Ct h hc).len hs⟩) hu
theorem zdE{α β:Type}{R:α→β→Prop}:∀ {a:List α} {b:List β},xH R a b→∀x∈a,∃y∈b,R x y
 |_,_,.nil,x,h=>by cases h
 |u::a,v::b,.cons h hs,x,hx=>by
  rcases List.mem_cons.1 hx with rfl|hx
  ·exact⟨v,List.mem_cons_self ..,h⟩
  ·obtain⟨y,h1,h2⟩:=zdE hs x hx
   exact⟨y,List.mem_cons_of_mem _ h1,h2⟩
theorem zbx{m:zF}{cons:Bool}{l:List (List zC)}(h:sW m l){s r:List (List Int)}(hs:s.length=m.vars.length)(k:Nat)(e:itO (zmR m cons l) k s=r)(hf:zY r=false)(hst:((zmR m cons l).all λop=>decide (op r=r))=true):sD m cons l s=r:=by
 have ho:=zhO (cons:=cons) h;rw[←IP ho k s hs]at e
 have hr:=CA (Uw (cons:=cons) h) hs k s (vW.refl _ _);rw[e]at hr
 refine Wd h hs (hr.stop hf λop hm=> ?_)
 obtain⟨g,hg,h2⟩:=zdE ho op hm;rw[(h2 r (hr.le.1.trans hs)).1];exact of_decide_eq_true (List.all_eq_true.1 hst g hg)
theorem zmT{m:zF}{cons:Bool}{l:List (List zC)}(h:sW m l){s:List (List Int)}(hs:s.length=m.vars.length)(k:Nat)(hf:zY (itO (zmR m cons l) k s)=true):sD m cons l s=iN s:=by
 have ho:=zhO (cons:=cons) h;rw[←IP ho k s hs]at hf
 exact Wd h hs ((CA (Uw (cons:=cons) h) hs k s (vW.refl _ _)).dead hf)
theorem zby:sW tQ []:=zdB (by kernel_rfl)
theorem zhP:sW tQ [[⟨1,1,1⟩]]:=SK (by kernel_rfl) λc hc=>by rw[List.mem_singleton.1 hc];kernel_rfl
theorem zlp:wO hD [dM tQ,dS [[0,1,2],[0,1,2]]] (.tup [dS [[0,1],[1,2]],dI 0]):=by
 have h:=zdC tQ [[0,1,2],[0,1,2]];rw[show vB tQ [[[0,1,2],[0,1,2]]]=0 by kernel_rfl,Mm rfl]at h
 rwa[zbx zby rfl 1 (r:=[[0,1],[1,2]]) (by kernel_rfl) (by kernel_rfl) (by kernel_rfl)]at h
theorem zji:wO Xc [dM tQ,dS [[0,1,2],[0,1,2]],.sl (.list .lit) [[⟨1,1,1⟩]]] (.tup [dS [[0,1,2],[0,1]],dI 0]):=by
 have h:=zbw tQ [[0,1,2],[0,1,2]] [[⟨1,1,1⟩]];rw[show Px tQ [[0,1,2],[0,1,2]] [[⟨1,1,1⟩]]=0 by kernel_rfl,Mm rfl]at h
 rwa[zbx zhP rfl 1 (r:=[[0,1,2],[0,1]]) (by kernel_rfl) (by kernel_rfl) (by kernel_rfl)]at h
theorem zlq:wO iZ [dM tQ,dS [[0,1,2],[0,1,2]],.sl (.list .lit) [[⟨1,1,1⟩]]] (.tup [dS [[0],[1]],dI 0]):=by
 have h:=zdD tQ [[0,1,2],[0,1,2]] [[⟨1,1,1⟩]];rw[show Px tQ [[0,1,2],[0,1,2]] [[⟨1,1,1⟩]]=0 by kernel_rfl,Mm rfl]at h
 rwa[zbx zhP rfl 2 (r:=[[0],[1]]) (by kernel_rfl) (by kernel_rfl) (by kernel_rfl)]at h
theorem R7:wO kK [] (dB true):=
 Ss λok=>by
  rw[RU];exact zE xS (kH (t:=.list (.list .int)) (u:=.int) zlp (zE xS (kH (t:=.list (.list .int)) (u:=.int) zji (zE xS (kH (t:=.list (.list .int)) (u:=.int) zlq (zE (xC _ _) (zE (xC _ _) (zE (xC _ _) rfl))))))))
theorem zn6{a:List (List Int)}{e c:Int}{x:List (List Int)}(h:e=c)(h2:c=0→a=x):isS (Od e a) e c x=true:=by
 refine zk3 h ?_;rw[h]
 by_cases hc:c=0
 ·rw[Mm hc,Mm hc,h2 hc]
 ·rw[J5 hc,J5 hc]
end Go.Proofs.YteimklbiapnfhaaGreat
namespace Go.Proofs.YteimklbiapnfhaaGreat
open Go.RowKit
set_option linter.unusedVariables false
set_option linter.unusedSimpArgs false
set_option maxRecDepth 100000
variable[Lo]
def NP:xJ:= {own:=[],live:=[],n:=20}
theorem CC(a:zF)(b:Int)(c:List zC)(R:yC):FD NP Tryz.f162 [dM a,dI b,.sl .lit c] R=
 (zX rL [dM a] (.list (.list .int)) λd=>
 zX sI [dS d,.sl .lit c] (.list (.list .int)) λe=>
 wC b a.cons.length=true∧
 zX vR [dC (zG .con a.cons b.toNat),dS e] (.list (.list .int)) λf=>
 zX zS [dS f] .bool λg=>
 R (dB g)):=by kernel_rfl
theorem G7(a:zF)(b:Int)(c:List zC):yY NP Tryz.f162 gX [dM a,dI b,.sl .lit c]:=xA Tryz.func162 (by kernel_rfl) Tryz.ntmps162 rfl
end Go.Proofs.YteimklbiapnfhaaGreat
namespace Go.Proofs.YteimklbiapnfhaaGreat
open Go.RowKit
set_option linter.unusedVariables false
set_option linter.unusedSimpArgs false
variable[Lo]
noncomputable def iG (m:zF)(con:Int)(c:List zC):Bool:=zY (yG (zZ m con) (fA (sE m) c))
noncomputable def zfe (m:zF)(l:List (List zC))(c:List zC):Bool:=zY (sD m false l (fA (sE m) c))
noncomputable def zlr (m:zF)(all:List (List zC))(st:xN):Bool:=if st.kind=1 then iG m st.con st.clause else if st.kind=2 then decide (st.con=0)&&zfe m all st.clause else false
noncomputable def XA (m:zF):List (List zC)→List xN→Bool
 |_,[]=>true
 |all,st::l=>zlr m all st&&XA m (all++[st.clause]) l
theorem kF{m:zF}:(sE m).length=m.vars.length:=List.length_map ..
theorem Pz{m:zF}{v:Nat}(hv:v<m.vars.length):(sE m).getD v []=ZU m.vars[v]:=by
 rw[yN _ (by rw[kF];exact hv)];simp[sE]
theorem AW{v:vF}{n:Int}:n∈ZU v↔v.lo≤n∧n≤v.hi:=by rw[ZU,SA];omega
theorem PA{m:zF}:rH m (sE m)=0:=by
 refine VN.2 ⟨kF,λv n hn=> ?_,λl hl=> ?_⟩
 ·by_cases hv:v<m.vars.length
  ·rw[Pz hv,AW]at hn
   rw[yN _ hv];exact hn
  ·rw[pR (by rw[kF];omega)]at hn;cases hn
 ·obtain⟨v,hv,rfl⟩:=List.mem_map.1 hl
  exact MB
theorem Oj{s:List (List Int)}{c:List zC}:Z4 (fA s c) s:=L4
theorem zdF{m:zF}{c:List zC}:rH m (fA (sE m) c)=0:=Oh PA Oj
theorem zjj{m:zF}(h:Right m){c:List zC}:iF (fA (sE m) c) m.vars.length:=jB h zdF
theorem zhQ{m:zF}(hr:Right m):wO rL [dM m] (dS (sE m)):=NF hr.lohi hr.vars
theorem PB{m:zF}{con:Int}{c:List zC}(h:MC m con=0):wO gX [dM m,dI con,.sl .lit c] (dB (iG m con c)):=
 G7 m con c λok=>by
  obtain⟨hr,hc⟩:=lI h;have hg:=zjj hr (c:=c);have hl:=hg.len;rw[CC];refine zE (zhQ hr) (zE (VO _ _) ⟨vC.2 hc,zE (fb (c:=zZ m con) (by rw[hl];exact tI h) (by rw[hl];exact hg)) (zE (yK _) rfl)⟩)
theorem CD{a b:Int}(h:or0 a b=0):a=0∧b=0:=by
 by_cases e:a=0
 ·rw[za0 e]at h;exact⟨e,h⟩
 ·rw[zaZ e]at h;exact absurd h e
structure zo7 (m:zF)(given:List (List zC))(l:List xN):Prop where
 chk:wN m=0
 glen:given.length≤600
 slen:l.length≤6000
 gcl:∀c∈given,vH m.vars.length c=0
 scl:∀s∈l,vH m.vars.length s.clause=0
 con:∀s∈l,s.kind=1→0≤s.con∧s.con<(m.cons.length:Int)
theorem zmU{l:List xN}(h:0<l.length):zG .step l ((xF ((l.length:Int)-1)).toNat)=l.getD (l.length-1) ⟨0,0,[]⟩∧wC (xF ((l.length:Int)-1)) l.length=true∨9223372036854775807<l.length:=by
 by_cases hb:l.length≤9223372036854775807
 ·rw[tR (by omega) (by omega),show((l.length:Int)-1).toNat=l.length-1 by omega]
  exact .inl ⟨rfl,vC.2 (by omega)⟩
 ·exact .inr (by omega)
end Go.Proofs.YteimklbiapnfhaaGreat
namespace Go.Proofs.YteimklbiapnfhaaGreat
open Go.RowKit
set_option linter.unusedVariables false
set_option linter.unusedSimpArgs false
variable[Lo]
theorem zmV{m:zF}{con:Int}{c:List zC}(h:MC m con=0):iG m con c=zY (VV (zZ m con) (fA (sE m) c)):=by
 rw[iG,Tv];rw[Oj.1,kF];exact tI h
theorem CE:MC tQ 0=0:=by kernel_rfl
end Go.Proofs.YteimklbiapnfhaaGreat
namespace Go.Proofs.YteimklbiapnfhaaGreat
open Go.RowKit
set_option linter.unusedVariables false
set_option linter.unusedSimpArgs false
set_option maxRecDepth 100000
variable[Lo]
def Tx:xJ:= {own:=[],live:=[],n:=28}
theorem Ks(a:zF)(b:Int)(c:List (List Int))(R:yC):FD Tx Tryz.f23 [dM a,dI b,dS c] R=
 (zX nM [dM a,dI b,dS c] .int λd=>
 zN (!decide (d=0))
 (R (.tup [.sl .lit ([]:List zC),dB false,dI d]))
 (Lq sC [dM a,dI b,dS c] (.list .lit) .bool λe f=>
 R (.tup [.sl .lit e,dB f,dI 0]))):=by kernel_rfl
theorem MO(a:zF)(b:Int)(c:List (List Int)):yY Tx Tryz.f23 sH [dM a,dI b,dS c]:=xA Tryz.func23 (by kernel_rfl) Tryz.ntmps23 rfl
def VW:xJ:= {own:=[],live:=[],n:=39}
theorem MP(a:zF)(b:Int)(c:List (List Int))(d e:Int)(R:yC):FD VW Tryz.f40 [dM a,dI b,dS c,dI d,dI e] R=
 (zX nM [dM a,dI b,dS c] .int λf=>
 zN (!decide (f=0))
 (R (.tup [.sl .lit ([]:List zC),dB false,dI f]))
 (zX Ze [dM a,.agg [dI d,dI 3,dI 0]] .int λg=>
 zN (!decide (g=0))
 (R (.tup [.sl .lit ([]:List zC),dB false,dI 5]))
 (Lq qH [dM a,dI b,dS c,dI d,dI e] (.list .lit) .bool λh i=>
 R (.tup [.sl .lit h,dB i,dI 0])))):=by kernel_rfl
theorem Nq(a:zF)(b:Int)(c:List (List Int))(d e:Int):yY VW Tryz.f40 qG [dM a,dI b,dS c,dI d,dI e]:=xA Tryz.func40 (by kernel_rfl) Tryz.ntmps40 rfl
def Rw:xJ:= {own:=[],live:=[],n:=23}
theorem IQ(a:zF)(b:Int)(c:List (List Int))(R:yC):FD Rw Tryz.f60 [dM a,dI b,dS c] R=
 (zX rB [dM a,dS c] .int λd=>
 zN (!decide (d=0))
 (R (dI d))
 (zN (decide (b<0))
 (R (dI 5))
 (zN (decide ((a.cons.length:Int)≤b))
 (R (dI 5))
 (R (dI 0))))):=by kernel_rfl
theorem Kt(a:zF)(b:Int)(c:List (List Int)):yY Rw Tryz.f60 nM [dM a,dI b,dS c]:=xA Tryz.func60 (by kernel_rfl) Tryz.ntmps60 rfl
def Rx:xJ:= {own:=[],live:=[],n:=28}
theorem IR(a:zF)(b:Int)(c:List (List Int))(R:yC):FD Rx Tryz.f61 [dM a,dI b,dS c] R=
 (zX zS [dS c] .bool λd=>
 zN d
 (R (.tup [.sl .lit ([]:List zC),dB false]))
 (wC b a.cons.length=true∧
 zX vR [dC (zG .con a.cons b.toNat),dS c] (.list (.list .int)) λe=>
 zX zS [dS e] .bool λf=>
 zN (!f)
 (R (.tup [.sl .lit ([]:List zC),dB false]))
 (zX rE [dM a,dI b,dS c] (.list .lit) λg=>
 zX tE [dM a,dI b,.sl .lit ([]:List zC),.sl .lit g] (.list .lit) λh=>
 R (.tup [.sl .lit h,dB true])))):=by kernel_rfl
theorem Ku(a:zF)(b:Int)(c:List (List Int)):yY Rx Tryz.f61 sC [dM a,dI b,dS c]:=xA Tryz.func61 (by kernel_rfl) Tryz.ntmps61 rfl
def PC:xJ:= {own:=[],live:=[],n:=48}
theorem G8(c:zF)(d:Int)(a:List (List Int))(b e:Int)(R:yC):FD PC Tryz.f77 [dM c,dI d,dS a,dI b,dI e] R=
 (zX zS [dS a] .bool λg=>
 zN g
 (R (.tup [.sl .lit ([]:List zC),dB false]))
 (wC b a.length=true∧
 zX yH [.sl .int (zG (.list .int) a b.toNat),dI e] .bool λh=>
 zN (!h)
 (R (.tup [.sl .lit ([]:List zC),dB false]))
 (wC d c.cons.length=true∧
 zX vR [dC (zG .con c.cons d.toNat),dS a] (.list (.list .int)) λf=>
 wC b f.length=true∧
 zX yH [.sl .int (zG (.list .int) f b.toNat),dI e] .bool λi=>
 zN i
 (R (.tup [.sl .lit ([]:List zC),dB false]))
 (zX rE [dM c,dI d,dS a] (.list .lit) λj=>
 zX tE [dM c,dI d,.sl .lit ([(⟨b,4,e⟩:zC)]),.sl .lit j] (.list .lit) λk=>
 R (.tup [.sl .lit k,dB true]))))):=by kernel_rfl
theorem IU(a:zF)(b:Int)(c:List (List Int))(d e:Int):yY PC Tryz.f77 qH [dM a,dI b,dS c,dI d,dI e]:=xA Tryz.func77 (by kernel_rfl) Tryz.ntmps77 rfl
def dZ:xJ:= {own:=[],live:=[(0,([1,2,3,4,9],[]))],n:=38}
def jD(a:zF)(b:Int)(c:List zC)(R:yC)(d:Nat)(e:List zC)(f:Int):Prop:=LP dZ Tryz.f111 [1,0,1,0,0] 0 d ⟨[(1,dI b),(2,.sl .lit c),(3,.sl .lit e),(4,.iptr (aS a []) 0),(9,dI f)],[]⟩ (zH 0 (sK dZ Tryz.f111 [1,1] 0 (eK Tryz.f111 R)))
theorem Xr(d:zF)(e:Int)(c:List zC)(R:yC)(f:Nat)(a:List zC)(b:Int):jD d e c R (f+1) a b=
 (zN (decide (b<(a.length:Int)))
 (OY 0 b a.length=true∧
 OY (xF (b+1)) (a.length:Int) a.length=true∧
 zX yF [.sl (.list .lit) ([(a.take b.toNat).drop 0,(a.take (a.length:Int).toNat).drop (xF (b+1)).toNat])] (.list .lit) λg=>
 zX yF [.sl (.list .lit) ([c,g])] (.list .lit) λh=>
 zX gX [dM d,dI e,.sl .lit h] .bool λi=>
 zN i
 (jD d e c R f g b)
 (jD d e c R f a (xF (b+1))))
 (zX yF [.sl (.list .lit) ([c,a])] (.list .lit) λj=>
 R (.sl .lit j))):=by kernel_rfl
theorem Kv(a:zF)(b:Int)(c d:List zC)(R:yC):FD dZ Tryz.f111 [dM a,dI b,.sl .lit c,.sl .lit d] R=
 (∃n0,jD a b c R n0 d 0):=by kernel_rfl
theorem MQ(a:zF)(b:Int)(c d:List zC):yY dZ Tryz.f111 tE [dM a,dI b,.sl .lit c,.sl .lit d]:=xA Tryz.func111 (by kernel_rfl) Tryz.ntmps111 rfl
def oX:xJ:= {own:=[7,50],live:=[(0,([2,3,7,16,17,18],[7])),(2,([2,3,7,9,10,16,17,18],[7]))],n:=53}
def gS(a:zF)(d:List (List Int))(R:yC)(b:List Int)(e:Nat)(c:Int)(f:Nat)(g:Int)(h:List zC):Prop:=LP oX Tryz.f112 [1,1,0,1,0,0,1,1,0,0,1,1,0,0] 2 f ⟨[(2,dS d),(3,.iptr (aS a []) 0),(7,.own 7),(9,dI (zG .int b c.toNat)),(10,dI g),(16,.sl .int b),(17,dI (b.length:Int)),(18,dI c)],[(7,.row 67 .lit h)]⟩ (zH 2 (zH 1 (sK oX Tryz.f112 [1,1,0,1,0,0,1,1,1] 0 (iK oX Tryz.f112 [1,1,0,1,0,0] 0 e (zH 0 (sK oX Tryz.f112 [1,1,1] 0 (eK Tryz.f112 R)))))))
def aL(a:zF)(c:List (List Int))(R:yC)(b:List Int)(d:Nat)(e:Int)(f:List zC):Prop:=LP oX Tryz.f112 [1,1,0,1,0,0] 0 d ⟨[(2,dS c),(3,.iptr (aS a []) 0),(7,.own 7),(16,.sl .int b),(17,dI (b.length:Int)),(18,dI e)],[(7,.row 67 .lit f)]⟩ (zH 0 (sK oX Tryz.f112 [1,1,1] 0 (eK Tryz.f112 R)))
theorem MR(d:zF)(e:List (List Int))(R:yC)(a:List Int)(g:Nat)(b:Int)(h:Nat)(c:Int)(f:List zC):gS d e R a g b (h+1) c f=
 (wC (zG .int a b.toNat) d.vars.length=true∧
 zN (decide (c≤((zG .var d.vars ((zG .int a b.toNat).toNat)).hi)))
 (wC (zG .int a b.toNat) e.length=true∧
 zX yH [.sl .int (zG (.list .int) e ((zG .int a b.toNat).toNat)),dI c] .bool λi=>
 zN (!i)
 (zL .lit (f.length+([(⟨zG .int a b.toNat,3,c⟩:zC)]).length)=true∧
 gS d e R a g b h (xF (c+1)) (f++([(⟨zG .int a b.toNat,3,c⟩:zC)])))
 (gS d e R a g b h (xF (c+1)) f))
 (aL d e R a g (xF (b+1)) f)):=by kernel_rfl
theorem MS(c:zF)(e:List (List Int))(R:yC)(a:List Int)(f:Nat)(b:Int)(d:List zC):aL c e R a (f+1) b d=
 (zN (decide (b<(a.length:Int)))
 (wC b a.length=true∧
 wC (zG .int a b.toNat) c.vars.length=true∧
 ∃n2,gS c e R a f b n2 ((zG .var c.vars ((zG .int a b.toNat).toNat)).lo) d)
 (R (.sl .lit d))):=by kernel_rfl
theorem G9(a:zF)(b:Int)(c:List (List Int))(R:yC):FD oX Tryz.f112 [dM a,dI b,dS c] R=
 (wC b a.cons.length=true∧
 zX qI [dC (zG .con a.cons b.toNat)] (.list .int) λd=>
 ∃n0,aL a c R d n0 0 ([]:List zC)):=by kernel_rfl
theorem IV(a:zF)(b:Int)(c:List (List Int)):yY oX Tryz.f112 rE [dM a,dI b,dS c]:=xA Tryz.func112 (by kernel_rfl) Tryz.ntmps112 rfl
end Go.Proofs.YteimklbiapnfhaaGreat
namespace Go.Proofs.YteimklbiapnfhaaGreat
open Go.RowKit
set_option linter.unusedVariables false
set_option linter.unusedSimpArgs false
theorem AX(w:World):Calls Tryz.prog 180 #[.slice none 0 0,.int .i64 0] w λe w'=>e=.returned (.slice none 0 0)∧w=w':=by
 go_enter Tryz.func180,Tryz.ntmps180
 go_wp2
 all_goals go_ret
 all_goals exact⟨rfl,rfl⟩
set_option maxRecDepth 100000 in
theorem AY(n:Nat)(h0:0<n)(h:n*24≤140737488355328)(w:World):Calls Tryz.prog 180 #[.slice none 0 0,.int .i64 n] w λe w'=>∃cap cells,e=.returned (.slice (some ⟨w.heap.size,0,none⟩) 0 cap)∧w'.heap[w.heap.size]? =some (.cells cells 67 (0,0))∧cells.size=cap*3∧cap≤maxLen∧w'.heap.size=w.heap.size+1∧Below w.heap.size w w':=by
 go_enter Tryz.func180,Tryz.ntmps180
 have happ:=Lib.run_append_nil_zeros (P:=Tryz.prog) w 45 3 45 67 Tryz.t67 (.agg #[.int .i64 0,.int .i64 0,.int .i64 0]) .i64 .i64 Tryz.underlying45 Tryz.underlying3 (by kernel_rfl) (by kernel_rfl) n h0 (by decide) (by omega) (by show n*24≤_;omega)
 have hcap:=grownCap_le_maxLen w n 0 67 (by unfold maxLen;omega)
 have hge:=grownCap_ge w n 0 67;generalize grownCap w n 0 67=cap at happ hcap hge
 have hZs:(Builtin.zeroCells (Value.agg #[.int .i64 0,.int .i64 0,.int .i64 0]).cells n++Builtin.zeroCells (Value.agg #[.int .i64 0,.int .i64 0,.int .i64 0]).cells (cap-n)).size=cap*3:=by
  simp[size_zeroCells,Value.cells];omega
 generalize Builtin.zeroCells (Value.agg #[.int .i64 0,.int .i64 0,.int .i64 0]).cells n++Builtin.zeroCells (Value.agg #[.int .i64 0,.int .i64 0,.int .i64 0]).cells (cap-n)=Z at happ hZs
 go_wp2_with (at_builtin;refine Lib.wpList_append_run _ rfl _ _ _ _ rfl _ _ rfl rfl _ _ happ ?_)
 go_ret
 exact⟨cap,Z,rfl,heap_alloc_new w _,hZs,hcap,by simp,⟨rfl,rfl,rfl,by simp,λk hk=>Below.heap_alloc w _ k hk⟩⟩
end Go.Proofs.YteimklbiapnfhaaGreat
namespace Go.Proofs.YteimklbiapnfhaaGreat
open Go.RowKit
set_option linter.unusedVariables false
set_option linter.unusedSimpArgs false
variable[Lo]
theorem Ok{w w':World}{S:Nat→Prop}{pl:Nat→Value}{v:Value}{e:TypeId}{t:Ty}{xs:List t.den}(hS:∀b,S b→b<w.heap.size)(hob:∀pl',cO w' S pl' v (.row e t xs))(hb:∀b,nQ v=some b→w.heap.size≤b∧b<w'.heap.size)(hw:Below w.heap.size w w'):
  ∃v' S' pl',Ending.returned v=.returned v'∧Rd w' S' pl' v' (.own 3000)∧HOk w' S' pl' [(3000,.row e t xs)]∧(∀b,S' b→b<w'.heap.size)∧(∀b,S' b→S b∨fM pl [] b∨w.heap.size≤b)∧
   (∀b,fM pl' [(3000,.row e t xs)] b→fM pl [] b∨w.heap.size≤b)∧(∀k,stabK k=true→pl' k=pl k)∧nK w.heap.size (fM pl []) w w':=by
 have hlook:∀k o,yB k [(3000,wT.row e t xs)]=some o→k=3000∧o=.row e t xs:=λk o h=>by
  rw[xX]at h
  split at h
  ·rename_i hk;injection h with h;exact⟨hk.symm,h.symm⟩
  ·cases h
 refine⟨v,S,λj=>if j=3000 then v else pl j,rfl,(if_pos rfl).symm,⟨λk o h=> ?_,λk o b h hb2=> ?_,λk k' o o' b h h' _ _=> ?_⟩,λb h=>Nat.lt_of_lt_of_le (hS b h) hw.size,λb h=> .inl h,λb h=> ?_,λk hk=>if_neg (λe=>by rw[e]at hk;cases hk),.of hw⟩
 ·obtain⟨rfl,rfl⟩:=hlook k o h
  exact hob _
 ·obtain⟨rfl,rfl⟩:=hlook k o h
  have hb2:nQ v=some b:=hb2;exact⟨(hb b hb2).2,λhs=>by have:=hS b hs;have:=(hb b hb2).1;omega⟩
 ·rw[(hlook k o h).1,(hlook k' o' h').1]
 ·obtain⟨k,o,h1,h2⟩:=h
  obtain⟨rfl,rfl⟩:=hlook k o h1;have h2:nQ v=some b:=h2;exact .inr (hb b h2).1
theorem CF(n:Nat)(hn:n*24≤140737488355328):cV wI [.nil,dI n] [] (.own 3000) [(3000,.row 67 .lit [])]:=by
 intro w S vs pl hS hl hv hh _;have e0:vs.getD 0 undef=.slice none 0 0:=Rp.nil_inv (hv 0 _ rfl);have e1:vs.getD 1 undef=.int .i64 n:=(Rp.int_inv (hv 1 _ rfl)).1
 have ev:vs= #[.slice none 0 0,.int .i64 n]:=by
  have hl2:vs.size=2:=hl;apply Array.ext (by simp[hl2])
  intro i h1 h2;simp[Array.getD_eq_getD_getElem?]at e0 e1
  match i,h1 with
  |0,h1=>rw[Array.getElem?_eq_getElem h1]at e0;simpa using e0
  |1,h1=>rw[Array.getElem?_eq_getElem h1]at e1;simpa using e1
  |i+2,h1=>exact absurd h1 (by omega)
 subst ev
 by_cases h0:n=0
 ·subst h0
  refine(AX w).mono λe w' ⟨he,hw⟩=> ?_
  subst he hw;exact Ok (t:=.lit) (xs:=[]) hS (λpl'=>⟨by show 0*24≤lim;exact Nat.le_of_ble_eq_true rfl,[],rfl,⟨rfl,.inl ⟨rfl,rfl⟩⟩,λcs h=>(by cases h),λi x cs h=>(by cases h)⟩) (λb h=>by cases h) (Below.refl _ _)
 ·refine(AY n (by omega) hn w).mono λe w' ⟨cap,cells,he,h1,h2,h3,h4,h5⟩=> ?_
  subst he;refine Ok (t:=.lit) (xs:=[]) hS (λpl'=>⟨by show 0*24≤lim;exact Nat.le_of_ble_eq_true rfl,[],rfl,⟨rfl,.inr ⟨w.heap.size,cap,cells,rfl,Nat.zero_le _,h1,Nat.zero_le _,h3,h2,rfl⟩⟩,λcs h=>(by cases h),λi x cs h=>(by cases h)⟩) (λb h=> ?_) h5
  have:w.heap.size=b:=by injection h
  omega
theorem cA{ls:List (List zC)}(hl:ls.length≤1000)(hr:∀l∈ls,l.length≤1000000):wO yF [.sl (.list .lit) ls] (.sl .lit ls.flatten):=
 cS ls λok=>by
  have flat:∀k,((ls.take k).flatten).length≤k*1000000:=λk=>by
   have h1:∀xs:List (List zC),(∀l∈xs,l.length≤1000000)→xs.flatten.length≤xs.length*1000000:=λxs=>by
    induction xs with
    |nil=>exact λ_=>Nat.le_refl _
    |cons a xs ih=>
     intro h;have h1:=h a (List.mem_cons_self ..);have h2:=ih λl hl=>h l (List.mem_cons_of_mem _ hl)
     rw[List.flatten_cons,List.length_append,List.length_cons];omega
   have:=h1 (ls.take k) λl hl=>hr l (List.mem_of_mem_take hl)
   rw[List.length_take]at this
   exact Nat.le_trans this (Nat.mul_le_mul_right _ (Nat.min_le_left ..))
  have ftake:∀(k:Nat) (h:k<ls.length),(ls.take (k+1)).flatten=(ls.take k).flatten++ls[k]:=λk h=>by
   rw[←List.take_append_getElem h,List.flatten_append];simp
  rw[bF];refine up (I:=λn v (a:Int)=>uN ls _ n a v) 0 ls.length rfl (Nat.zero_le _) (by omega) (λk a=>a=(((ls.take k).flatten).length:Int)) rfl λn k a _ hk ha hn=> ?_
  subst ha;rw[fY];have hf:=flat k
  by_cases h:k<ls.length
  ·have hm:=hr _ (List.getElem_mem h)
   rw[zR h,zP (t:=.list .lit) h,tR (by omega) (by omega)]
   refine⟨zI h,df (by omega) (hn h _ ?_)⟩
   rw[ftake k h,List.length_append];omega
  ·have hk':k=ls.length:=by omega
   subst hk';rw[zO];refine⟨[],CF _ (by omega),?_⟩
   refine up (I:=λn v (a:List zC)=>uM ls _ n v a) 0 ls.length rfl (Nat.zero_le _) (by omega) (λk a=>a=(ls.take k).flatten) rfl λn k a _ hk ha hn=> ?_
   subst ha;rw[fX];have hf:=flat k
   by_cases h:k<ls.length
   ·have hm:=hr _ (List.getElem_mem h)
    rw[zR h,zP (t:=.list .lit) h];refine⟨zI h,xR (t:=.lit) ?_,hn h _ (ftake k h).symm⟩;show(_+_)*24≤_
    omega
   ·have hk':k=ls.length:=by omega
    subst hk';rw[zO,List.take_length]
end Go.Proofs.YteimklbiapnfhaaGreat
namespace Go.Proofs.YteimklbiapnfhaaGreat
open Go.RowKit
set_option linter.unusedVariables false
set_option linter.unusedSimpArgs false
variable[Lo]
def Tz(s:List (List Int))(v:Int)(l:List Int):List zC:=(l.filter λn=> !pP (s.getD v.toNat []) n).map λn=>⟨v,3,n⟩
def lJ(m:zF)(s:List (List Int))(sc:List Int):List zC:=sc.flatMap λv=>Tz s v (sE m|>.getD v.toNat [])
def XB(p:List zC→Bool):Nat→List zC→Nat→List zC
 |0,l,_=>l
 |k+1,l,i=>if i<l.length then(if p (l.eraseIdx i)=true then XB p k (l.eraseIdx i) i else XB p k l (i+1))else l
def BK(p:List zC→Bool)(l:List zC):List zC:=XB p l.length l 0
noncomputable def VX (m:zF)(con:Int)(must l:List zC):List zC:=must++BK (λl=>iG m con (must++l)) l
theorem Kw(p:List zC→Bool):∀(k:Nat) (l:List zC) (i:Nat),(XB p k l i).Sublist l
 |0,l,i=>List.Sublist.refl _
 |k+1,l,i=>by
  rw[XB];split
  ·split
   ·exact(Kw p k _ i).trans (List.eraseIdx_sublist ..)
   ·exact Kw p k l (i+1)
  ·exact List.Sublist.refl _
theorem IW(p:List zC→Bool):∀(k:Nat) (l:List zC) (i:Nat),p l=true→p (XB p k l i)=true
 |0,l,i,h=>h
 |k+1,l,i,h=>by
  rw[XB];split
  ·split
   ·rename_i e;exact IW p k _ i e
   ·exact IW p k l (i+1) h
  ·exact h
theorem Fa{l:List zC}{i j:Nat}{x:zC}(h:j<i)(hx:x∈(l.eraseIdx i).eraseIdx j):x∈l.eraseIdx j:=by
 induction l generalizing i j with
 |nil=>cases i<;>cases hx
 |cons a l ih=>
  cases i with
  |zero=>exact absurd h (Nat.not_lt_zero _)
  |succ i=>
   rw[List.eraseIdx_cons_succ]at hx
   cases j with
   |zero=>
    rw[List.eraseIdx_cons_zero]at hx⊢
    exact(List.eraseIdx_sublist ..).subset hx
   |succ j=>
    rw[List.eraseIdx_cons_succ]at hx⊢
    rcases List.mem_cons.1 hx with rfl|hx
    ·exact List.mem_cons_self ..
    ·exact List.mem_cons_of_mem _ (ih (by omega) hx)
theorem CG(p:List zC→Bool)(hp:∀a b:List zC,(∀x∈a,x∈b)→p a=true→p b=true):∀(k:Nat) (l:List zC) (i:Nat),l.length≤k+i→(∀j,j<i→j<l.length→p (l.eraseIdx j)=false)→∀j,j<(XB p k l i).length→p ((XB p k l i).eraseIdx j)=false
 |0,l,i,hk,h,j,hj=>h j (by have:(XB p 0 l i).length=l.length:=rfl;omega) hj
 |k+1,l,i,hk,h,j,hj=>by
  rw[XB]at hj⊢
  by_cases h1:i<l.length
  ·rw[if_pos h1]at hj⊢
   by_cases h2:p (l.eraseIdx i)=true
   ·rw[if_pos h2]at hj⊢
    have hl:(l.eraseIdx i).length=l.length-1:=List.length_eraseIdx_of_lt h1;refine CG p hp k _ i (by omega) (λj' h3 h4=> ?_) j hj
    cases e:p ((l.eraseIdx i).eraseIdx j')
    ·rfl
    ·have h5:=h j' h3 (by omega)
     rw[hp _ (l.eraseIdx j') (λx hx=>Fa h3 hx) e]at h5
     cases h5
   ·rw[if_neg h2]at hj⊢
    refine CG p hp k l (i+1) (by omega) (λj' h3 h4=> ?_) j hj
    by_cases e:j'=i
    ·subst e;simpa using h2
    ·exact h j' (by omega) h4
  ·rw[if_neg h1]at hj⊢
   exact h j (by omega) hj
theorem zls(p:List zC→Bool)(hp:∀a b:List zC,(∀x∈a,x∈b)→p a=true→p b=true)(l:List zC):∀j,j<(BK p l).length→p ((BK p l).eraseIdx j)=false:=
 CG p hp l.length l 0 (Nat.le_refl _) λj h=>absurd h (Nat.not_lt_zero _)
theorem zjk{s:List (List Int)}{c c':List zC}(h:∀x∈c,x∈c'):Z4 (fA s c') (fA s c):=
 MD (Z4.refl s) λv n _ e=>by
  rw[Bool.not_eq_true']at e⊢
  cases e2:atC c v n
  ·rfl
  ·obtain⟨l,h1,h2,h3⟩:=Pj.1 e2
   rw[Pj.2 ⟨l,h l h1,h2,h3⟩]at e;cases e
theorem zff{m:zF}{con:Int}(hat:MC m con=0){c c':List zC}(h:∀x∈c,x∈c')(hb:iG m con c=true):iG m con c'=true:=by
 obtain⟨hr,_⟩:=lI hat;have hop:=Tn (tI hat) (by have:=hr.some;omega)
 have hl:(fA (sE m) c).length=m.vars.length:=Oj.1.trans kF;cases e:iG m con c' with
 |true=>rfl
 |false=>
  have h2:=(hop.mono hl (zjk h) e).fail e;rw[iG,h2]at hb;cases hb
theorem zlt{m:zF}{con:Int}(hat:MC m con=0)(must:List zC):∀a b:List zC,(∀x∈a,x∈b)→iG m con (must++a)=true→iG m con (must++b)=true:=λa b h=>zff hat λx hx=>by
 rcases List.mem_append.1 hx with hx|hx
 ·exact List.mem_append_left _ hx
 ·exact List.mem_append_right _ (h x hx)
theorem AZ{m:zF}{s:List (List Int)}{sc:List Int}{x:zC}:x∈lJ m s sc↔x.var∈sc∧x.op=3∧x.n∈(sE m).getD x.var.toNat []∧x.n∉s.getD x.var.toNat []:=by
 rw[lJ,List.mem_flatMap];constructor
 ·rintro⟨v,hv,h⟩
  obtain⟨n,hn,rfl⟩:=List.mem_map.1 h;obtain⟨h1,h2⟩:=List.mem_filter.1 hn;refine⟨hv,rfl,h1,λh3=> ?_⟩
  rw[kX.2 h3]at h2;cases h2
 ·rintro⟨h1,h2,h3,h4⟩
  refine⟨x.var,h1,List.mem_map.2 ⟨x.n,List.mem_filter.2 ⟨h3,?_⟩,by cases x;simp only at h2;rw[h2]⟩⟩
  cases e:pP (s.getD x.var.toNat []) x.n
  ·rfl
  ·exact absurd (kX.1 e) h4
theorem zjl{m:zF}{s:List (List Int)}{sc:List Int}(must:List zC){v:Nat}(hv:(v:Int)∈sc){n:Int}(hn:n∈(fA (sE m) (must++lJ m s sc)).getD v []):n∈s.getD v []:=by
 rw[fA,qN,List.mem_filter]at hn
 apply Classical.byContradiction;intro h;have h2:=hn.2;rw[Pj.2 ⟨⟨v,3,n⟩,List.mem_append_right _ (AZ.2 ⟨hv,rfl,by rw[Int.toNat_natCast];exact hn.1,by rw[Int.toNat_natCast];exact h⟩),rfl,by simp[holdsL]⟩]at h2
 cases h2
theorem zhR{m:zF}{con:Int}{s:List (List Int)}(hat:MC m con=0)(hl:s.length=m.vars.length)(hf:zY s=false)(must:List zC){vs:List Int}(hv:Ji vs (fA (sE m) (must++lJ m s (yA (zZ m con) m.vars.length))))(ht:xD (zZ m con) vs=true):
  ∃us,Ji us s∧xD (zZ m con) us=true∧∀v:Nat,(v:Int)∈yA (zZ m con) m.vars.length→us.getD v 0=vs.getD v 0:=by
 have hc:=tI hat;obtain⟨ps,hp⟩:=Pi hf;have hdl:(fA (sE m) (must++lJ m s (yA (zZ m con) m.vars.length))).length=m.vars.length:=Oj.1.trans kF;have hg:∀u:Nat,u<s.length→((List.range s.length).map λu:Nat=>if(u:Int)∈yA (zZ m con) m.vars.length then vs.getD u 0 else ps.getD u 0).getD u 0=if(u:Int)∈yA (zZ m con) m.vars.length then vs.getD u 0 else ps.getD u 0:=λu hu=>SD hu
 have hs:∀v:Nat,(v:Int)∈yA (zZ m con) m.vars.length→v<s.length:=λv h=>by have:=qO _ h;omega
 refine⟨(List.range s.length).map λu:Nat=>if(u:Int)∈yA (zZ m con) m.vars.length then vs.getD u 0 else ps.getD u 0,⟨by simp,λu hu=> ?_⟩,?_,λv h=> ?_⟩
 ·rw[hg u hu]
  split
  ·rename_i e
   exact zjl must e (hv.2 u (by rw[hdl];omega))
  ·exact hp.2 u hu
 ·rw[←ht]
  exact mZ hc λw h5 h6=>by rw[hg w (by omega),if_pos (pT.2 ⟨by omega,h6⟩)]
 ·rw[hg v (hs v h),if_pos h]
theorem zbz{m:zF}{con:Int}{s:List (List Int)}(hat:MC m con=0)(hl:s.length=m.vars.length)(hf:zY s=false){v:Nat}{n:Int}(hv:v<s.length)(hn:n∈s.getD v [])(hg:n∉(yG (zZ m con) s).getD v []):
  iG m con ([⟨v,4,n⟩]++lJ m s (yA (zZ m con) m.vars.length))=true:=by
 have hc:=tI hat;obtain⟨hr,_⟩:=lI hat;have hop:=Tn hc (by have:=hr.some;omega)
 have hdl:(fA (sE m) ([⟨(v:Int),4,n⟩]++lJ m s (yA (zZ m con) m.vars.length))).length=m.vars.length:=Oj.1.trans kF;cases e:iG m con ([⟨v,4,n⟩]++lJ m s (yA (zZ m con) m.vars.length))with
 |true=>rfl
 |false=>
  obtain⟨vs,h1,h2⟩:=(hop.nofail hdl).1 e;obtain⟨us,h3,h4,h5⟩:=zhR hat hl hf _ h1 h2
  have hvn:vs.getD v 0=n:=by
   have h6:=h1.2 v (by rw[hdl];omega)
   rw[fA,qN,List.mem_filter,Bool.not_eq_true']at h6
   apply Classical.byContradiction;intro h7;have h8:=h6.2;rw[Pj.2 ⟨⟨v,4,n⟩,List.mem_append_left _ (List.mem_singleton.2 rfl),rfl,by generalize vs.getD v 0=z at h7;simp[holdsL,h7]⟩]at h8
   cases h8
  have h6:=hop.keeps hl (h3.set hn hv) (by
   rw[←h4];refine mZ hc λw h7 h8=> ?_
   rw[tF (by rw[h3.1];exact hv)]
   split
   ·rename_i e;subst e;rw[h5 w (pT.2 ⟨by omega,h8⟩),hvn]
   ·rfl)
  have h7:=h6.2 v (by rw[hop.len hl];omega)
  rw[tF (by rw[h3.1];exact hv),if_pos rfl]at h7
  exact absurd h7 hg
theorem zdG{m:zF}{con:Int}{s:List (List Int)}(hat:MC m con=0)(hl:s.length=m.vars.length)(hf:zY s=false)(hg:zY (yG (zZ m con) s)=true):iG m con ([]++lJ m s (yA (zZ m con) m.vars.length))=true:=by
 have hc:=tI hat;obtain⟨hr,_⟩:=lI hat;have hop:=Tn hc (by have:=hr.some;omega)
 have hdl:(fA (sE m) ([]++lJ m s (yA (zZ m con) m.vars.length))).length=m.vars.length:=Oj.1.trans kF;cases e:iG m con ([]++lJ m s (yA (zZ m con) m.vars.length))with
 |true=>rfl
 |false=>
  obtain⟨vs,h1,h2⟩:=(hop.nofail hdl).1 e;obtain⟨us,h3,h4,h5⟩:=zhR hat hl hf _ h1 h2;rw[(hop.nofail hl).2 ⟨us,h3,h4⟩]at hg;cases hg
theorem IX{c:zQ}{nv:Nat}(hc:uO c nv):(yA c nv).length≤4:=by
 have hm:=hc.many
 have hsub:∀x∈yA c nv,x∈c.vars++c.lits.map λl=>l.var:=λx hx=>by
  rcases zlg (pT.1 hx).2 with h|⟨l,h,e⟩
  ·exact List.mem_append_left _ h
  ·exact List.mem_append_right _ (List.mem_map.2 ⟨l,h,e⟩)
 have h1:=(Xq (c:=c) (nv:=nv)).length_le_of_subset hsub;rw[List.length_append,List.length_map]at h1
 by_cases h8:c.kind≤8
 ·have:=Pv hc h8
  rw[this,List.length_nil]at h1;omega
 ·have hk:=hc.kind
  by_cases h9:c.kind=9
  ·have:=hc.formC.clause h9;omega
  ·have:=hc.formC.iff (by omega);omega
theorem Kx{m:zF}(hr:Right m)(v:Nat):((sE m).getD v []).length≤6:=by
 by_cases hv:v<m.vars.length
 ·have:=hr.var _ (List.getElem_mem hv)
  rw[Pz hv,ZU,aX];omega
 ·rw[pR (by rw[kF];omega)];exact Nat.zero_le _
theorem IY{s:List (List Int)}{v:Int}{l:List Int}:(Tz s v l).length≤l.length:=by rw[Tz,List.length_map];exact List.length_filter_le ..
theorem IZ{m:zF}(hr:Right m){s:List (List Int)}(sc:List Int):(lJ m s sc).length≤sc.length*6:=VT λv _=>Nat.le_trans IY (Kx hr _)
theorem Ry{m:zF}{con:Int}{s:List (List Int)}(hat:MC m con=0)(hl:s.length=m.vars.length):wO rE [dM m,dI con,dS s] (.sl .lit (lJ m s (yA (zZ m con) m.vars.length))):=
 IV m con s λok=>by
  obtain⟨hr,hcon⟩:=lI hat;have hc:=tI hat;rw[G9];refine⟨vC.2 hcon,?_⟩;show zX qI [dC (zZ m con)] (.list .int) λm1=>_
  refine zE (bR hc) ?_;have hsl:=IX hc;have hsv:∀v∈yA (zZ m con) m.vars.length,0≤v∧v<m.vars.length:=λv hv=>qO v hv
  generalize yA (zZ m con) m.vars.length=sc at hsl hsv⊢
  refine up (I:=λn v a=>aL m s _ sc n v a) 0 sc.length rfl (Nat.zero_le _) (by omega) (λk a=>a=lJ m s (sc.take k)) rfl λn k a _ hk ha hn=> ?_
  subst ha;rw[MS]
  by_cases h:k<sc.length
  ·have hvk:=hsv _ (List.getElem_mem h)
   have hvl:sc[k].toNat<m.vars.length:=by omega
   rw[zR h,zP (t:=.int) h];refine⟨zI h,vC.2 hvk,?_⟩;have hat2:zG .var m.vars sc[k].toNat=m.vars[sc[k].toNat]:=atN (t:=.var) hvl;have hvr:=hr.var _ (List.getElem_mem hvl);have hfull:(sE m).getD sc[k].toNat []=ZU m.vars[sc[k].toNat]:=Pz hvl;have hstep:lJ m s (sc.take (k+1))=lJ m s (sc.take k)++Tz s sc[k] (ZU m.vars[sc[k].toNat]):=by rw[lJ,SE _ h,hfull];rfl
   have hgl:=IZ hr (s:=s) (sc.take k);rw[List.length_take]at hgl
   generalize lJ m s (sc.take k)=pre at hstep hgl⊢
   rw[hat2];refine upto (I:=λn2 v a=>gS m s _ sc n (k:Int) n2 v a) (m.vars[sc[k].toNat]).lo (m.vars[sc[k].toNat]).hi (by omega) (by omega) (λj a=>a=pre++Tz s sc[k] (Jg (m.vars[sc[k].toNat]).lo (j-(m.vars[sc[k].toNat]).lo).toNat)∧j≤(m.vars[sc[k].toNat]).hi+1) ⟨by rw[Int.sub_self];exact(List.append_nil _).symm,by omega⟩ λn2 j a hj hi hn2=> ?_
   obtain⟨rfl,hjm⟩:=hi;rw[MR,zP (t:=.int) h,hat2];have hgv:=IY (s:=s) (v:=sc[k]) (l:=Jg (m.vars[sc[k].toNat]).lo (j-(m.vars[sc[k].toNat]).lo).toNat);rw[aX]at hgv
   refine⟨vC.2 hvk,zA (λe=> ?_) λe=> ?_⟩
   ·have e:=of_decide_eq_true e
    have hgs:∀b,pP (s.getD sc[k].toNat []) j=b→Tz s sc[k] (Jg (m.vars[sc[k].toNat]).lo (j+1-(m.vars[sc[k].toNat]).lo).toNat)=Tz s sc[k] (Jg (m.vars[sc[k].toNat]).lo (j-(m.vars[sc[k].toNat]).lo).toNat)++(if b=true then[]else[(⟨sc[k],3,j⟩:zC)]):=λb hb=>by
     rw[LE hj,Tz,List.filter_append,List.map_append,List.filter_cons,hb];cases b<;>rfl
    refine⟨vC.2 (by omega),zE (yS (a:=j)) ?_⟩
    show zN (!pP (s.getD sc[k].toNat []) j) _ _
    refine zA (λf=>⟨xR (t:=.lit) ?_,hn2 e _ ⟨?_,by omega⟩⟩) λf=>hn2 e _ ⟨?_,by omega⟩
    ·rw[List.length_append];show(_+_+1)*24≤_;omega
    ·rw[hgs false (by simpa using f),List.append_assoc];rfl
    ·rw[hgs true (by simpa using f)];simp
   ·have e:=of_decide_eq_false e
    refine hn h _ ?_;rw[hstep,ZU,show j=(m.vars[sc[k].toNat]).hi+1 by omega]
  ·have hk':k=sc.length:=by omega
   subst hk';rw[zO,List.take_length]
theorem Ol{lo hi:Int}{n:Nat}(h1:0≤lo)(h2:lo≤hi)(h3:hi≤n):OY lo hi n=true:=by
 unfold OY;simp;omega
theorem VY{m:zF}{con:Int}{must l:List zC}(hat:MC m con=0)(hm:must.length≤1000000)(hl:l.length≤1000000):wO tE [dM m,dI con,.sl .lit must,.sl .lit l] (.sl .lit (VX m con must l)):=
 MQ m con must l λok=>by
  rw[Kv,VX,BK]
  suffices H:∀(k:Nat) (l':List zC) (i:Nat),l'.length≤k+i→i≤l'.length→l'.length≤1000000→∀r,r=must++XB (λl=>iG m con (must++l)) k l' i→jD m con must (λd=>d=.sl .lit r) (k+1) l' (i:Int)from⟨_,H l.length l 0 (Nat.le_refl _) (Nat.zero_le _) hl _ rfl⟩
  intro k
  induction k with
  |zero=>
   intro l' i h1 h2 h3 r hr;have hi:i=l'.length:=by omega
   subst hi;rw[Xr,zO];refine zE (cA (ls:=[must,l']) (by show 2≤1000;decide) λx hx=> ?_) ?_
   ·rcases List.mem_cons.1 hx with rfl|hx
    ·exact hm
    ·rw[List.mem_singleton.1 hx];exact h3
   ·rw[hr,XB];simp
  |succ k ih=>
   intro l' i h1 h2 h3 r hr;rw[Xr]
   by_cases h:i<l'.length
   ·have hw:xF ((i:Int)+1)=((i+1:Nat):Int):=V7 (by omega)
    rw[XB,if_pos h]at hr
    have hel:(l'.eraseIdx i).length=l'.length-1:=List.length_eraseIdx_of_lt h;rw[zR h,hw,Int.toNat_natCast,Int.toNat_natCast,Int.toNat_natCast,List.drop_zero,List.take_length]
    have hcat:=cA (ls:=[l'.take i,l'.drop (i+1)]) (by show 2≤1000;decide) λx hx=>by
     rcases List.mem_cons.1 hx with rfl|hx
     ·rw[List.length_take];omega
     ·rw[List.mem_singleton.1 hx,List.length_drop];omega
    have he:[l'.take i,l'.drop (i+1)].flatten=l'.eraseIdx i:=by rw[List.eraseIdx_eq_take_drop_succ];simp
    rw[he]at hcat
    refine⟨Ol (Int.le_refl _) (by omega) (by omega),Ol (by omega) (by omega) (Int.le_refl _),zE hcat ?_⟩
    have hcat2:=cA (ls:=[must,l'.eraseIdx i]) (by show 2≤1000;decide) λx hx=>by
     rcases List.mem_cons.1 hx with rfl|hx
     ·exact hm
     ·rw[List.mem_singleton.1 hx];omega
    have he2:[must,l'.eraseIdx i].flatten=must++l'.eraseIdx i:=by simp
    rw[he2]at hcat2
    refine zE hcat2 (zE (PB hat) (zA (λe=> ?_) λe=> ?_))
    ·rw[if_pos e]at hr
     exact ih _ i (by omega) (by omega) (by omega) r hr
    ·rw[if_neg (by rw[e];decide)]at hr
     exact ih l' (i+1) (by omega) (by omega) h3 r hr
   ·have hi:i=l'.length:=by omega
    subst hi;rw[XB,if_neg (Nat.lt_irrefl _)]at hr
    rw[zO];refine zE (cA (ls:=[must,l']) (by show 2≤1000;decide) λx hx=> ?_) ?_
    ·rcases List.mem_cons.1 hx with rfl|hx
     ·exact hm
     ·rw[List.mem_singleton.1 hx];exact h3
    ·rw[hr];simp
noncomputable def bU (m:zF)(con:Int)(s:List (List Int))(v n:Int):Bool:= !zY s&&(pP (s.getD v.toNat []) n&& !pP ((yG (zZ m con) s).getD v.toNat []) n)
noncomputable def eU (m:zF)(con:Int)(s:List (List Int)):Bool:= !zY s&&zY (yG (zZ m con) s)
noncomputable def Zp (m:zF)(con:Int)(s:List (List Int))(v n:Int):List zC:=if bU m con s v n=true then VX m con [⟨v,4,n⟩] (lJ m s (yA (zZ m con) m.vars.length))else[]
noncomputable def mT (m:zF)(con:Int)(s:List (List Int)):List zC:=if eU m con s=true then VX m con [] (lJ m s (yA (zZ m con) m.vars.length))else[]
theorem Xs{m:zF}{con:Int}(hat:MC m con=0){s:List (List Int)}:(lJ m s (yA (zZ m con) m.vars.length)).length≤24:=by
 have h1:=IZ (lI hat).1 (s:=s) (yA (zZ m con) m.vars.length);have h2:=IX (tI hat);omega
theorem Rz{m:zF}{con:Int}{s:List (List Int)}{v n:Int}(hr:AU m con s)(hv:0≤v∧v<s.length):wO qH [dM m,dI con,dS s,dI v,dI n] (.tup [.sl .lit (Zp m con s v n),dB (bU m con s v n)]):=
 IU m con s v n λok=>by
  have hat:=Uu hr.chk hr.cn;have hs:=jB (oT hr.chk) hr.st;have hl:=hs.len;rw[G8];refine zE (yK s) (zA (λe=> ?_) λe=> ?_)
  ·have e:zY s=true:=e
   rw[Zp,bU,e];rfl
  have e:zY s=false:=e;refine⟨vC.2 hv,zE (yS (a:=n)) ?_⟩;show zN (!pP (s.getD v.toNat []) n) _ _
  refine zA (λf=> ?_) λf=> ?_
  ·have f:pP (s.getD v.toNat []) n=false:=by simpa using f
   rw[Zp,bU,e,f];rfl
  have f:pP (s.getD v.toNat []) n=true:=by simpa using f
  refine⟨vC.2 hr.cn,zE (fb (c:=zZ m con) (by rw[hl];exact hr.right) (by rw[hl];exact hs)) ⟨vC.2 (by rw[hr.op.len hl];omega),zE (yS (a:=n)) ?_⟩⟩
  show zN (pP ((yG (zZ m con) s).getD v.toNat []) n) _ _
  refine zA (λg=> ?_) λg=> ?_
  ·rw[Zp,bU,e,f,g];rfl
  ·have hb:bU m con s v n=true:=by rw[bU,e,f,g];rfl
   rw[Zp,if_pos hb,hb];have:=Xs hat (s:=s);exact zE (Ry hat hl) (zE (VY hat (by show 1≤1000000;decide) (by omega)) rfl)
theorem TA{m:zF}{con:Int}{s:List (List Int)}(hr:AU m con s):wO sC [dM m,dI con,dS s] (.tup [.sl .lit (mT m con s),dB (eU m con s)]):=
 Ku m con s λok=>by
  have hat:=Uu hr.chk hr.cn;have hs:=jB (oT hr.chk) hr.st;have hl:=hs.len;rw[IR];refine zE (yK s) (zA (λe=> ?_) λe=> ?_)
  ·have e:zY s=true:=e
   rw[mT,eU,e];rfl
  have e:zY s=false:=e;refine⟨vC.2 hr.cn,zE (fb (c:=zZ m con) (by rw[hl];exact hr.right) (by rw[hl];exact hs)) (zE (yK _) ?_)⟩
  refine zA (λg=> ?_) λg=> ?_
  ·have g:zY (yG (zZ m con) s)=false:=by simpa using g
   rw[mT,eU,e,g];rfl
  ·have g:zY (yG (zZ m con) s)=true:=by simpa using g
   have hb:eU m con s=true:=by rw[eU,e,g];rfl
   rw[mT,if_pos hb,hb];have:=Xs hat (s:=s);exact zE (Ry hat hl) (zE (VY hat (by decide) (by omega)) rfl)
theorem YC(m:zF)(con:Int)(s:List (List Int)):wO nM [dM m,dI con,dS s] (dI (iO m con s)):=
 Kt m con s λok=>by
  rw[IQ];refine zE (jZ m s) (zA (λe=> ?_) λe=> ?_)
  ·exact wG (FG (xO e))
  have e:=zU e;refine zA (λf=> ?_) λf=>zA (λg=> ?_) λg=> ?_
  ·exact wG (SI e (.inl (of_decide_eq_true f)))
  ·exact wG (SI e (.inr (of_decide_eq_true g)))
  ·have f:=of_decide_eq_false f
   have g:=of_decide_eq_false g;exact wG (FI e (by omega))
def BM(m:zF)(con:Int)(s:List (List Int))(v:Int):Int:=if iO m con s≠0 then iO m con s else if v<0∨(m.vars.length:Int)≤v then 5 else 0
theorem zn7{m:zF}{con:Int}{s:List (List Int)}{v:Int}(h:iO m con s≠0):BM m con s v=iO m con s:=if_pos h
theorem zn8{m:zF}{con:Int}{s:List (List Int)}{v:Int}(h:iO m con s=0)(h2:v<0∨(m.vars.length:Int)≤v):BM m con s v=5:=by rw[BM,if_neg (not_not_intro h),if_pos h2]
theorem zn9{m:zF}{con:Int}{s:List (List Int)}{v:Int}(h:iO m con s=0)(h2:0≤v∧v<(m.vars.length:Int)):BM m con s v=0:=by rw[BM,if_neg (not_not_intro h),if_neg (by omega)]
noncomputable def zlu (e:Int)(l:List zC):List zC:=if e=0 then l else[]
theorem A3{e:Int}{l:List zC}(h:e=0):zlu e l=l:=if_pos h
theorem zlv{e:Int}{l:List zC}(h:e≠0):zlu e l=[]:=if_neg h
theorem W0(m:zF)(con:Int)(s:List (List Int))(v n:Int):wO qG [dM m,dI con,dS s,dI v,dI n] (.tup [.sl .lit (zlu (BM m con s v) (Zp m con s v n)),dB (orB (BM m con s v) (bU m con s v n)),dI (BM m con s v)]):=
 Nq m con s v n λok=>by
  rw[MP];refine zE (YC m con s) (zA (λe=> ?_) λe=> ?_)
  ·have e:=xO e
   rw[zn7 e,zlv e,zc8 e]
  have e:=zU e;have hr:=Pw e;refine zE (Sv m ⟨v,3,0⟩) (zA (λf=> ?_) λf=> ?_)
  ·have f:=xO f
   have hv:v<0∨(m.vars.length:Int)≤v:=by
    apply Classical.byContradiction;intro h;exact f (tS.2 ⟨by show 0≤v∧v<(m.vars.length:Int);omega,by show(1:Int)≤3∧(3:Int)≤4;decide,by show(-1000:Int)≤0∧(0:Int)≤1000;decide⟩)
   rw[zn8 e hv];rfl
  ·have f:=(tS.1 (zU f)).1
   have f:0≤v∧v<(m.vars.length:Int):=f;rw[zn9 e f,A3 rfl,J6 rfl];exact kH (t:=.list .lit) (u:=.bool) (Rz hr (by rw[hr.len];exact f)) rfl
theorem Ky(m:zF)(con:Int)(s:List (List Int)):wO sH [dM m,dI con,dS s] (.tup [.sl .lit (zlu (iO m con s) (mT m con s)),dB (orB (iO m con s) (eU m con s)),dI (iO m con s)]):=
 MO m con s λok=>by
  rw[Ks];refine zE (YC m con s) (zA (λe=> ?_) λe=> ?_)
  ·have e:=xO e
   rw[zlv e,zc8 e]
  ·have e:=zU e
   rw[e,A3 rfl,J6 rfl];exact kH (t:=.list .lit) (u:=.bool) (TA (Pw e)) rfl
end Go.Proofs.YteimklbiapnfhaaGreat
namespace Go.Proofs.YteimklbiapnfhaaGreat
open Go.RowKit
set_option linter.unusedVariables false
set_option linter.unusedSimpArgs false
variable[Lo]
structure TB (m:zF)(con:Int)(s:List (List Int))(must r:List zC):Prop where
 says:iG m con (must++r)=true
 few:∀j,j<r.length→iG m con (must++r.eraseIdx j)=false
 told:∀x∈r,x.op=3∧ZV s x= -1∧jF m.vars.length x=0
 len:r.length≤24
theorem zjm{s:List (List Int)}{x:zC}(h:∀n∈s.getD x.var.toNat [],holdsL x n=false):ZV s x= -1:=by
 rw[ZV,Hz,if_pos];rw[List.any_eq_false];exact λn hn=>by rw[h n hn];decide
theorem zdH{m:zF}(hr:Right m){x:zC}(hv:0≤x.var∧x.var<(m.vars.length:Int))(ho:1≤x.op∧x.op≤4)(hn:x.n∈(sE m).getD x.var.toNat []):jF m.vars.length x=0:=by
 have hvl:x.var.toNat<m.vars.length:=by omega
 rw[Pz hvl,AW]at hn
 have:=hr.var _ (List.getElem_mem hvl);exact tS.2 ⟨hv,ho,by omega⟩
theorem A4{m:zF}{con:Int}{s:List (List Int)}(hat:MC m con=0){must:List zC}(h:iG m con (must++lJ m s (yA (zZ m con) m.vars.length))=true):
  TB m con s must (BK (λl=>iG m con (must++l)) (lJ m s (yA (zZ m con) m.vars.length))):=by
 have hsub:=Kw (λl=>iG m con (must++l)) (lJ m s (yA (zZ m con) m.vars.length)).length (lJ m s (yA (zZ m con) m.vars.length)) 0
 refine⟨IW (λl=>iG m con (must++l)) _ _ 0 h,λj hj=>zls _ (zlt hat must) _ j hj,λx hx=> ?_,Nat.le_trans hsub.length_le (Xs hat)⟩
 obtain⟨h1,h2,h3,h4⟩:=AZ.1 (hsub.subset hx);have hv:=qO _ h1;refine⟨h2,zjm λn hn=> ?_,zdH (lI hat).1 hv (by omega) h3⟩
 have hne:n≠x.n:=λe=>h4 (by rw[←e];exact hn)
 obtain⟨xv,xo,xn⟩:=x;simp only at h2 hne
 subst h2;simp[holdsL,hne]
theorem CH{nv:Nat}{c:List zC}(hl:c.length≤40)(h:∀x∈c,jF nv x=0):vH nv c=0:=by
 rw[vH,if_neg (by omega)]
 have:∀(xs:List zC) (i:Nat),(∀x∈xs,jF nv x=0)→wL (λ_ l=>jF nv l) i xs=0:=λxs=>by
  induction xs with
  |nil=>exact λ_ _=>rfl
  |cons a xs ih=>
   intro i h;rw[wL,if_pos (h a (List.mem_cons_self ..))];exact ih _ λx hx=>h x (List.mem_cons_of_mem _ hx)
 exact this c 0 h
theorem TB.clause{m:zF}{con:Int}{s:List (List Int)}{must r:List zC}(h:TB m con s must r)(hm:must.length≤1)(hml:∀x∈must,jF m.vars.length x=0):vH m.vars.length (must++r)=0:=
 CH (by rw[List.length_append];have:=h.len;omega) λx hx=>by
  rcases List.mem_append.1 hx with hx|hx
  ·exact hml x hx
  ·exact(h.told x hx).2.2
def zlw(m:zF)(con:Int)(c:List zC):Bool:=zY (VV (zZ m con) (fA (sE m) c))
def zdI(m:zF)(con:Int)(must l:List zC):List zC:=must++BK (λl=>zlw m con (must++l)) l
theorem A5{m:zF}{con:Int}(h:MC m con=0)(must l:List zC):VX m con must l=zdI m con must l:=by
 have:(λl=>iG m con (must++l))=λl=>zlw m con (must++l):=funext λl=>zmV h
 rw[VX,zdI,this]
def zbA(m:zF)(con:Int)(s:List (List Int))(v n:Int):Bool:= !zY s&&(pP (s.getD v.toNat []) n&& !pP ((VV (zZ m con) s).getD v.toNat []) n)
def zbB(m:zF)(con:Int)(s:List (List Int)):Bool:= !zY s&&zY (VV (zZ m con) s)
theorem zhS{m:zF}{con:Int}{s:List (List Int)}(h:MC m con=0)(hl:s.length=m.vars.length)(v n:Int):bU m con s v n=zbA m con s v n:=by
 rw[bU,zbA,Tv (by rw[hl];exact tI h)]
theorem zlx{m:zF}{con:Int}{s:List (List Int)}(h:MC m con=0)(hl:s.length=m.vars.length):eU m con s=zbB m con s:=by
 rw[eU,zbB,Tv (by rw[hl];exact tI h)]
theorem zbC:∃c,c.length=2∧wO qG [dM tQ,dI 0,dS [[0,1,2],[0,1]],dI 0,dI 1] (.tup [.sl .lit c,dB true,dI 0]):=by
 have h:=W0 tQ 0 [[0,1,2],[0,1]] 0 1;rw[show BM tQ 0 [[0,1,2],[0,1]] 0=0 by kernel_rfl,A3 rfl,J6 rfl,Zp,zhS CE rfl,show zbA tQ 0 [[0,1,2],[0,1]] 0 1=true by kernel_rfl,if_pos rfl,A5 CE]at h
 exact⟨_,by kernel_rfl,h⟩
theorem zbD:∃c,wO qG [dM tQ,dI 0,dS [[0,1,2],[0,1]],dI 0,dI 0] (.tup [.sl .lit c,dB false,dI 0]):=by
 have h:=W0 tQ 0 [[0,1,2],[0,1]] 0 0;rw[show BM tQ 0 [[0,1,2],[0,1]] 0=0 by kernel_rfl,A3 rfl,J6 rfl,Zp,zhS CE rfl,show zbA tQ 0 [[0,1,2],[0,1]] 0 0=false by kernel_rfl]at h
 exact⟨_,h⟩
theorem zdJ:∃c,0<c.length∧wO sH [dM tQ,dI 0,dS [[2],[0]]] (.tup [.sl .lit c,dB true,dI 0]):=by
 have h:=Ky tQ 0 [[2],[0]];rw[show iO tQ 0 [[2],[0]]=0 by kernel_rfl,A3 rfl,J6 rfl,mT,zlx CE rfl,show zbB tQ 0 [[2],[0]]=true by kernel_rfl,if_pos rfl,A5 CE]at h
 exact⟨_,Nat.le_of_ble_eq_true (by kernel_rfl),h⟩
theorem Vn:wO og [] (dB true):=
 WN λok=>by
  rw[Vj];obtain⟨c1,h1,h2⟩:=zbC;obtain⟨c2,h3⟩:=zbD;obtain⟨c3,h4,h5⟩:=zdJ;refine zE xS (Lm (t:=.list .lit) (u:=.bool) (v:=.int) h2 (zE xS (Lm (t:=.list .lit) (u:=.bool) (v:=.int) h3 (zE xS (Lm (t:=.list .lit) (u:=.bool) (v:=.int) h5 ?_)))));refine dt rfl (dt rfl (dt rfl (bt rfl (bnt rfl (bt rfl (dt (by omega) ?_))))))
  rw[decide_eq_true (by omega)]
end Go.Proofs.YteimklbiapnfhaaGreat
namespace Go.Proofs.YteimklbiapnfhaaGreat
open Go.RowKit
set_option linter.unusedVariables false
set_option linter.unusedSimpArgs false
variable[Lo]
end Go.Proofs.YteimklbiapnfhaaGreat
namespace Go.Proofs.YteimklbiapnfhaaGreat
open Go.RowKit
set_option linter.unusedVariables false
set_option linter.unusedSimpArgs false
set_option maxRecDepth 100000
variable[Lo]
def NQ:xJ:= {own:=[],live:=[],n:=30}
theorem CI(a:zF)(b:List (List zC))(c:List zC)(R:yC):FD NQ Tryz.f24 [dM a,.sl (.list .lit) b,.sl .lit c] R=
 (zX mV [dM a,.sl (.list .lit) b,.sl .lit c] .int λd=>
 zN (!decide (d=0))
 (R (.tup [.sl .lit ([]:List zC),dB false,dI d]))
 (Lq oM [dM a,.sl (.list .lit) b,.sl .lit c] (.list .lit) .bool λe f=>
 zN (!f)
 (R (.tup [.sl .lit ([]:List zC),dB false,dI 0]))
 (zX rC [.sl .lit e] (.list .lit) λg=>
 R (.tup [.sl .lit g,dB true,dI 0])))):=by kernel_rfl
theorem Fb(a:zF)(b:List (List zC))(c:List zC):yY NQ Tryz.f24 rA [dM a,.sl (.list .lit) b,.sl .lit c]:=xA Tryz.func24 (by kernel_rfl) Tryz.ntmps24 rfl
def NR:xJ:= {own:=[],live:=[],n:=32}
theorem CJ(a:zF)(b:List (List zC))(c:List zC)(R:yC):FD NR Tryz.f25 [dM a,.sl (.list .lit) b,.sl .lit c] R=
 (zX mV [dM a,.sl (.list .lit) b,.sl .lit c] .int λd=>
 zN (!decide (d=0))
 (R (.tup [.sl .step ([]:List xN),dB false,dI d]))
 (Lq oM [dM a,.sl (.list .lit) b,.sl .lit c] (.list .lit) .bool λe f=>
 zN (!f)
 (R (.tup [.sl .step ([]:List xN),dB false,dI 0]))
 (zX mW [dM a,.sl (.list .lit) b,.sl .lit e] (.list .step) λg=>
 R (.tup [.sl .step g,dB true,dI 0])))):=by kernel_rfl
theorem Fc(a:zF)(b:List (List zC))(c:List zC):yY NR Tryz.f25 oq [dM a,.sl (.list .lit) b,.sl .lit c]:=xA Tryz.func25 (by kernel_rfl) Tryz.ntmps25 rfl
def Y4:xJ:= {own:=[11],live:=[(0,([3,30,31,32],[]))],n:=43}
def Yc(a:zF)(b:List zC)(R:yC)(c:Nat)(d:Int):Prop:=LP Y4 Tryz.f62 [1,1,1,1,0,1,0,0] 0 c ⟨[(3,.iptr (aS a []) 0),(30,.sl .lit b),(31,dI (b.length:Int)),(32,dI d)],[]⟩ (zH 0 (sK Y4 Tryz.f62 [1,1,1,1,1] 0 (eK Tryz.f62 R)))
theorem VZ(c:zF)(a:List zC)(R:yC)(d:Nat)(b:Int):Yc c a R (d+1) b=
 (zN (decide (b<(a.length:Int)))
 (wC b a.length=true∧
 zX VC [dM c,dL (zG .lit a b.toNat)] .int λe=>
 zN (!decide (e=0))
 (R (dI e))
 (Yc c a R d (xF (b+1))))
 (R (dI 0))):=by kernel_rfl
theorem CK(a:zF)(c:List (List zC))(b:List zC)(R:yC):FD Y4 Tryz.f62 [dM a,.sl (.list .lit) c,.sl .lit b] R=
 (zX ot [dM a] .int λd=>
 zN (!decide (d=0))
 (R (dI d))
 (zX ZC [dM a,.sl (.list .lit) c] .int λe=>
 zN (!decide (e=0))
 (R (dI e))
 (zX lB [dM a,.sl .lit b] .int λf=>
 zN (!decide (f=0))
 (R (dI f))
 (∃n0,Yc a b R n0 0)))):=by kernel_rfl
theorem Fd(a:zF)(b:List (List zC))(c:List zC):yY Y4 Tryz.f62 mV [dM a,.sl (.list .lit) b,.sl .lit c]:=xA Tryz.func62 (by kernel_rfl) Tryz.ntmps62 rfl
def Yd:xJ:= {own:=[],live:=[(0,([1,3,8,9],[]))],n:=39,nils:=[],pubs:=[(31088,999999)]}
def gT(a:zF)(b:List (List zC))(R:yC)(c:Nat)(d:List zC)(e:Int):Prop:=LP Yd Tryz.f63 [1,1,1,0,1,0,0] 0 c ⟨[(1,.sl (.list .lit) b),(3,.iptr (aS a []) 0),(8,.sl .lit d),(9,dI e)],[]⟩ (zH 0 (sK Yd Tryz.f63 [1,1,1,1] 0 (eK Tryz.f63 R)))
theorem W1(c:zF)(d:List (List zC))(R:yC)(e:Nat)(a:List zC)(b:Int):gT c d R (e+1) a b=
 (zN (decide (b<(a.length:Int)))
 (OY 0 b a.length=true∧
 OY (xF (b+1)) (a.length:Int) a.length=true∧
 zX tC [.sl (.list .lit) ([(a.take b.toNat).drop 0,(a.take (a.length:Int).toNat).drop (xF (b+1)).toNat])] (.list .lit) λf=>
 zX cZ [dM c,.sl (.list .lit) d,.sl .lit f] .bool λg=>
 zN g
 (gT c d R e f b)
 (gT c d R e a (xF (b+1))))
 (R (.tup [.sl .lit a,dB true]))):=by kernel_rfl
theorem Fe(a:zF)(b:List (List zC))(c:List zC)(R:yC):FD Yd Tryz.f63 [dM a,.sl (.list .lit) b,.sl .lit c] R=
 (zX cZ [dM a,.sl (.list .lit) b,.sl .lit c] .bool λe=>
 zN (!e)
 (R (.tup [.sl .lit ([]:List zC),dB false]))
 (∃d:List zC,cV wY [.sl .lit c] [] (.own 3000) [(3000,.row 67 .lit d)]∧
 ∃n0,gT a b R n0 d 0)):=by kernel_rfl
theorem I0(a:zF)(b:List (List zC))(c:List zC):yY Yd Tryz.f63 oM [dM a,.sl (.list .lit) b,.sl .lit c]:=xA Tryz.func63 (by kernel_rfl) Tryz.ntmps63 rfl
def Ye:xJ:= {own:=[3,5,16],live:=[(0,([3,6,7,8],[3]))],n:=19}
def aM(a:List zC)(R:yC)(b:Nat)(c:Int)(d:List zC):Prop:=LP Ye Tryz.f64 [1,1,0,1,0,0] 0 b ⟨[(3,.own 3),(6,.sl .lit a),(7,dI (a.length:Int)),(8,dI c)],[(3,.row 67 .lit d)]⟩ (zH 0 (sK Ye Tryz.f64 [1,1,1] 0 (eK Tryz.f64 R)))
theorem MT(a:List zC)(R:yC)(d:Nat)(b:Int)(c:List zC):aM a R (d+1) b c=
 (zN (decide (b<(a.length:Int)))
 (wC b a.length=true∧
 zX lF [dL (zG .lit a b.toNat)] .lit λe=>
 zL .lit (c.length+([e]).length)=true∧
 aM a R d (xF (b+1)) (c++([e])))
 (R (.sl .lit c))):=by kernel_rfl
theorem Ff(a:List zC)(R:yC):FD Ye Tryz.f64 [.sl .lit a] R=
 (∃n0,aM a R n0 0 ([]:List zC)):=by kernel_rfl
theorem I1(a:List zC):yY Ye Tryz.f64 rC [.sl .lit a]:=xA Tryz.func64 (by kernel_rfl) Tryz.ntmps64 rfl
def NS:xJ:= {own:=[14,25],live:=[],n:=26,nils:=[(14,(6,(72,.step)))],pubs:=[]}
theorem CL(a:zF)(b:List (List zC))(c:List zC)(R:yC):FD NS Tryz.f65 [dM a,.sl (.list .lit) b,.sl .lit c] R=
 (zX kQ [dM a,.sl .lit c] (.list (.list .int)) λg=>
 ∃f:List (List Int),∃d:List xN,cV uU [.ptr 1000 0] [(1000,.cells (aS a [.sl (.list .lit) b,dS g,.own 2000])),(2000,.row 72 .step ([]:List xN))] (.tup []) [(1000,.cells (aS a [.sl (.list .lit) b,dS f,.own 2000])),(2000,.row 72 .step d)]∧
 zX rC [.sl .lit c] (.list .lit) λe=>
 zL .step (d.length+([(⟨2,0,e⟩:xN)]).length)=true∧
 R (.sl .step (d++([(⟨2,0,e⟩:xN)])))):=by kernel_rfl
theorem Fg(a:zF)(b:List (List zC))(c:List zC):yY NS Tryz.f65 mW [dM a,.sl (.list .lit) b,.sl .lit c]:=xA Tryz.func65 (by kernel_rfl) Tryz.ntmps65 rfl
def NT:xJ:= {own:=[],live:=[],n:=14}
theorem CM(a:zF)(b:List (List zC))(c:List zC)(R:yC):FD NT Tryz.f114 [dM a,.sl (.list .lit) b,.sl .lit c] R=
 (zX kQ [dM a,.sl .lit c] (.list (.list .int)) λd=>
 zX sX [dM a,dS d,dB true,.sl (.list .lit) b] (.list (.list .int)) λe=>
 zX zS [dS e] .bool λf=>
 R (dB f)):=by kernel_rfl
theorem Fh(a:zF)(b:List (List zC))(c:List zC):yY NT Tryz.f114 cZ [dM a,.sl (.list .lit) b,.sl .lit c]:=xA Tryz.func114 (by kernel_rfl) Tryz.ntmps114 rfl
def V0:xJ:= {own:=[7],live:=[(0,([5,10,11,12],[]))],n:=21}
def We(a:List zC)(R:yC)(b:Nat)(c:List (List Int))(d:Int):Prop:=LP V0 Tryz.f118 [1,1,0,1,0,0] 0 b ⟨[(5,dS c),(10,.sl .lit a),(11,dI (a.length:Int)),(12,dI d)],[]⟩ (zH 0 (sK V0 Tryz.f118 [1,1,1] 0 (eK Tryz.f118 R)))
theorem Fi(a:List zC)(R:yC)(d:Nat)(c:List (List Int))(b:Int):We a R (d+1) c b=
 (zN (decide (b<(a.length:Int)))
 (wC b a.length=true∧
 zX Zf [dS c,dL (zG .lit a b.toNat)] (.list (.list .int)) λe=>
 We a R d e (xF (b+1)))
 (R (dS c))):=by kernel_rfl
theorem zbE(a:zF)(b:List zC)(R:yC):FD V0 Tryz.f118 [dM a,.sl .lit b] R=
 (zX rL [dM a] (.list (.list .int)) λc=>
 ∃n0,We b R n0 c 0):=by kernel_rfl
theorem BN(a:zF)(b:List zC):yY V0 Tryz.f118 kQ [dM a,.sl .lit b]:=xA Tryz.func118 (by kernel_rfl) Tryz.ntmps118 rfl
def pW:xJ:= {own:=[],live:=[(0,([0,2],[1000,2000])),(2,([0,2,3],[1000,2000]))],n:=59}
def nZ(R:VD)(a b:Nat)(c:Bool)(d:Int)(e:List vF)(f:List zQ)(g h:Int)(i:List (List zC))(j:List (List Int))(k:List xN):Prop:=LP pW Tryz.f119 [1,0,0,1,0,1,0,1,0,0] 2 b ⟨[(0,.ptr 1000 0),(2,dB c),(3,dI d)],[(1000,.cells [.sl .var e,.sl .con f,dI g,dI h,.sl (.list .lit) i,dS j,.own 2000]),(2000,.row 72 .step k)]⟩ (zH 2 (sK pW Tryz.f119 [1,0,0,1,0,1,1] 1 (zH 1 (iK pW Tryz.f119 [1,0,0] 0 a (zH 0 (eH Tryz.f119 [.ptr 1000 0] false R))))))
def vD(R:VD)(a:Nat)(b:Bool)(c:List vF)(d:List zQ)(e f:Int)(g:List (List zC))(h:List (List Int))(i:List xN):Prop:=LP pW Tryz.f119 [1,0,0] 0 a ⟨[(0,.ptr 1000 0),(2,dB b)],[(1000,.cells [.sl .var c,.sl .con d,dI e,dI f,.sl (.list .lit) g,dS h,.own 2000]),(2000,.row 72 .step i)]⟩ (zH 0 (eH Tryz.f119 [.ptr 1000 0] false R))
theorem Yf(R:VD)(f k:Nat)(j:Bool)(i:Int)(b:List vF)(a:List zQ)(c d:Int)(e:List (List zC))(g:List (List Int))(h:List xN):nZ R f (k+1) j i b a c d e g h=
 (zN (decide (i<(a.length:Int)))
 (zX zS [dS g] .bool λq=>
 zN (!q)
 (∃p:Bool,∃l:List (List Int),∃m:List xN,cV uV [.ptr 1000 0,dI i] [(1000,.cells [.sl .var b,.sl .con a,dI c,dI d,.sl (.list .lit) e,dS g,.own 2000]),(2000,.row 72 .step h)] (dB p) [(1000,.cells [.sl .var b,.sl .con a,dI c,dI d,.sl (.list .lit) e,dS l,.own 2000]),(2000,.row 72 .step m)]∧
 zN p
 (nZ R f k true (xF (i+1)) b a c d e l m)
 (nZ R f k j (xF (i+1)) b a c d e l m))
 (zX sX [.agg [.sl .var b,.sl .con a,dI c,dI d],dS g,dB false,.sl (.list .lit) e] (.list (.list .int)) λn=>
 zX zT [dS n,dS g,.clo yR none []] .bool λr=>
 zN (!r)
 (vD R f true b a c d e n h)
 (vD R f j b a c d e n h)))
 (zX sX [.agg [.sl .var b,.sl .con a,dI c,dI d],dS g,dB false,.sl (.list .lit) e] (.list (.list .int)) λo=>
 zX zT [dS o,dS g,.clo yR none []] .bool λs=>
 zN (!s)
 (vD R f true b a c d e o h)
 (vD R f j b a c d e o h))):=by kernel_rfl
theorem Yg(R:VD)(h:Nat)(i:Bool)(b:List vF)(c:List zQ)(d e:Int)(f:List (List zC))(a:List (List Int))(g:List xN):vD R (h+1) i b c d e f a g=
 (zN i
 (zX zS [dS a] .bool λj=>
 zN (!j)
 (∃n2,nZ R h n2 false 0 b c d e f a g)
 (R (.tup []) [(1000,.cells [.sl .var b,.sl .con c,dI d,dI e,.sl (.list .lit) f,dS a,.own 2000]),(2000,.row 72 .step g)]))
 (R (.tup []) [(1000,.cells [.sl .var b,.sl .con c,dI d,dI e,.sl (.list .lit) f,dS a,.own 2000]),(2000,.row 72 .step g)])):=by kernel_rfl
theorem Nr(a:List vF)(b:List zQ)(c d:Int)(e:List (List zC))(f:List (List Int))(g:List xN)(R:VD):FH pW Tryz.f119 [.ptr 1000 0] [(1000,.cells [.sl .var a,.sl .con b,dI c,dI d,.sl (.list .lit) e,dS f,.own 2000]),(2000,.row 72 .step g)] [.ptr 1000 0] false R=
 (∃n0,vD R n0 true a b c d e f g):=by kernel_rfl
theorem PD(a:List vF)(b:List zQ)(c d:Int)(e:List (List zC))(f:List (List Int))(g:List xN):Rb pW Tryz.f119 uU [.ptr 1000 0] [(1000,.cells [.sl .var a,.sl .con b,dI c,dI d,.sl (.list .lit) e,dS f,.own 2000]),(2000,.row 72 .step g)] [.ptr 1000 0] false:=Qv Tryz.func119 (by kernel_rfl) Tryz.ntmps119 rfl
def sB:xJ:= {own:=[52,109],live:=[(0,([0,1,5,8,66,67,68],[1000,2000])),(2,([0,1,5,8,9,66,67,68,73,74,75],[1000,2000]))],n:=119}
def qW(a:List (List Int))(c:Int)(R:VD)(d:List (List Int))(e:Nat)(b:Int)(f:Nat)(g:Bool)(h:Int)(i:List vF)(j:List zQ)(k l:Int)(m:List (List zC))(n:List (List Int))(o:List xN):Prop:=LP sB Tryz.f165 [1,1,1,1,0,1,0,0,1,1,0,0,1,1,0,0] 2 f ⟨[(0,.ptr 1000 0),(1,dI c),(5,dS d),(8,dB g),(9,dI b),(66,dS a),(67,dI (a.length:Int)),(68,dI b),(73,.sl .int (zG (.list .int) a b.toNat)),(74,dI ((zG (.list .int) a b.toNat).length:Int)),(75,dI h)],[(1000,.cells [.sl .var i,.sl .con j,dI k,dI l,.sl (.list .lit) m,dS n,.own 2000]),(2000,.row 72 .step o)]⟩ (zH 2 (zH 1 (sK sB Tryz.f165 [1,1,1,1,0,1,0,0,1,1,1] 0 (iK sB Tryz.f165 [1,1,1,1,0,1,0,0] 0 e (zH 0 (sK sB Tryz.f165 [1,1,1,1,1] 0 (eH Tryz.f165 [.ptr 1000 0] false R)))))))
def mA(a:List (List Int))(b:Int)(R:VD)(c:List (List Int))(d:Nat)(e:Bool)(f:Int)(g:List vF)(h:List zQ)(i j:Int)(k:List (List zC))(l:List (List Int))(m:List xN):Prop:=LP sB Tryz.f165 [1,1,1,1,0,1,0,0] 0 d ⟨[(0,.ptr 1000 0),(1,dI b),(5,dS c),(8,dB e),(66,dS a),(67,dI (a.length:Int)),(68,dI f)],[(1000,.cells [.sl .var g,.sl .con h,dI i,dI j,.sl (.list .lit) k,dS l,.own 2000]),(2000,.row 72 .step m)]⟩ (zH 0 (sK sB Tryz.f165 [1,1,1,1,1] 0 (eH Tryz.f165 [.ptr 1000 0] false R)))
theorem SL(b:List (List Int))(c:Int)(R:VD)(e:List (List Int))(l:Nat)(a:Int)(n:Nat)(o:Bool)(d:Int)(f:List vF)(g:List zQ)(h i:Int)(m:List (List zC))(j:List (List Int))(k:List xN):qW b c R e l a (n+1) o d f g h i m j k=
 (zN (decide (d<((zG (.list .int) b a.toNat).length:Int)))
 (wC d (zG (.list .int) b a.toNat).length=true∧
 wC a e.length=true∧
 zX yH [.sl .int (zG (.list .int) e a.toNat),dI (zG .int (zG (.list .int) b a.toNat) d.toNat)] .bool λq=>
 zN q
 (qW b c R e l a n o (xF (d+1)) f g h i m j k)
 (Lq qH [.agg [.sl .var f,.sl .con g,dI h,dI i],dI c,dS j,dI a,dI (zG .int (zG (.list .int) b a.toNat) d.toNat)] (.list .lit) .bool λp r=>
 zL .step (k.length+([(⟨1,c,p⟩:xN)]).length)=true∧
 qW b c R e l a n true (xF (d+1)) f g h i m j (k++([(⟨1,c,p⟩:xN)]))))
 (mA b c R e l o (xF (a+1)) f g h i m j k)):=by kernel_rfl
theorem SM(a:List (List Int))(k:Int)(R:VD)(c:List (List Int))(l:Nat)(d:Bool)(b:Int)(e:List vF)(f:List zQ)(g h:Int)(i:List (List zC))(m:List (List Int))(j:List xN):mA a k R c (l+1) d b e f g h i m j=
 (zN (decide (b<(a.length:Int)))
 (wC b a.length=true∧
 ∃n2,qW a k R c l b n2 d 0 e f g h i m j)
 (R (dB d) [(1000,.cells [.sl .var e,.sl .con f,dI g,dI h,.sl (.list .lit) i,dS c,.own 2000]),(2000,.row 72 .step j)])):=by kernel_rfl
theorem Ns(d:List vF)(b:List zQ)(e f:Int)(h:List (List zC))(c:List (List Int))(g:List xN)(a:Int)(R:VD):FH sB Tryz.f165 [.ptr 1000 0,dI a] [(1000,.cells [.sl .var d,.sl .con b,dI e,dI f,.sl (.list .lit) h,dS c,.own 2000]),(2000,.row 72 .step g)] [.ptr 1000 0] false R=
 (wC a b.length=true∧
 zX vR [dC (zG .con b a.toNat),dS c] (.list (.list .int)) λi=>
 zX zS [dS i] .bool λk=>
 zN k
 (Lq sC [.agg [.sl .var d,.sl .con b,dI e,dI f],dI a,dS c] (.list .lit) .bool λj m=>
 zL .step (g.length+([(⟨1,a,j⟩:xN)]).length)=true∧
 zX yM [dS c] (.list (.list .int)) λl=>
 R (dB true) [(1000,.cells [.sl .var d,.sl .con b,dI e,dI f,.sl (.list .lit) h,dS l,.own 2000]),(2000,.row 72 .step (g++([(⟨1,a,j⟩:xN)])))])
 (∃n0,mA c a R i n0 false 0 d b e f h c g)):=by kernel_rfl
theorem PE(a:List vF)(b:List zQ)(c d:Int)(e:List (List zC))(f:List (List Int))(g:List xN)(h:Int):Rb sB Tryz.f165 uV [.ptr 1000 0,dI h] [(1000,.cells [.sl .var a,.sl .con b,dI c,dI d,.sl (.list .lit) e,dS f,.own 2000]),(2000,.row 72 .step g)] [.ptr 1000 0] false:=Qv Tryz.func165 (by kernel_rfl) Tryz.ntmps165 rfl
end Go.Proofs.YteimklbiapnfhaaGreat
namespace Go.Proofs.YteimklbiapnfhaaGreat
open Go.RowKit
set_option linter.unusedVariables false
set_option linter.unusedSimpArgs false
theorem zfg(w:World):Calls Tryz.prog 163 #[.slice none 0 0,.int .i64 0] w λe w'=>e=.returned (.slice none 0 0)∧w=w':=by
 go_enter Tryz.func163,Tryz.ntmps163
 go_wp2
 all_goals go_ret
 all_goals exact⟨rfl,rfl⟩
set_option maxRecDepth 100000 in
theorem zfh(n:Nat)(h0:0<n)(h:n*24≤140737488355328)(w:World):Calls Tryz.prog 163 #[.slice none 0 0,.int .i64 n] w λe w'=>∃cap cells,e=.returned (.slice (some ⟨w.heap.size,0,none⟩) 0 cap)∧w'.heap[w.heap.size]? =some (.cells cells 67 (0,0))∧cells.size=cap*3∧cap≤maxLen∧w'.heap.size=w.heap.size+1∧Below w.heap.size w w':=by
 go_enter Tryz.func163,Tryz.ntmps163
 have happ:=Lib.run_append_nil_zeros (P:=Tryz.prog) w 29 3 29 67 Tryz.t67 (.agg #[.int .i64 0,.int .i64 0,.int .i64 0]) .i64 .i64 Tryz.underlying29 Tryz.underlying3 (by kernel_rfl) (by kernel_rfl) n h0 (by decide) (by omega) (by show n*24≤_;omega)
 have hcap:=grownCap_le_maxLen w n 0 67 (by unfold maxLen;omega)
 have hge:=grownCap_ge w n 0 67;generalize grownCap w n 0 67=cap at happ hcap hge
 have hZs:(Builtin.zeroCells (Value.agg #[.int .i64 0,.int .i64 0,.int .i64 0]).cells n++Builtin.zeroCells (Value.agg #[.int .i64 0,.int .i64 0,.int .i64 0]).cells (cap-n)).size=cap*3:=by
  simp[size_zeroCells,Value.cells];omega
 generalize Builtin.zeroCells (Value.agg #[.int .i64 0,.int .i64 0,.int .i64 0]).cells n++Builtin.zeroCells (Value.agg #[.int .i64 0,.int .i64 0,.int .i64 0]).cells (cap-n)=Z at happ hZs
 go_wp2_with (at_builtin;refine Lib.wpList_append_run _ rfl _ _ _ _ rfl _ _ rfl rfl _ _ happ ?_)
 go_ret
 exact⟨cap,Z,rfl,heap_alloc_new w _,hZs,hcap,by simp,⟨rfl,rfl,rfl,by simp,λk hk=>Below.heap_alloc w _ k hk⟩⟩
end Go.Proofs.YteimklbiapnfhaaGreat
namespace Go.Proofs.YteimklbiapnfhaaGreat
open Go.RowKit
set_option linter.unusedVariables false
set_option linter.unusedSimpArgs false
variable[Lo]
theorem zfi(l:List zC):cV wY [.sl .lit l] [] (.own 3000) [(3000,.row 67 .lit l)]:=
 aT l λok _=>by
  rw[Zt];intro b hb;refine zA (λe=> ?_) λe=>⟨?_,?_⟩
  ·rw[hb e];exact⟨rfl,rfl⟩
  ·refine xR (t:=.lit) ?_
   have:=(mC (t:=.lit) (WD ok)).1;show(0+l.length)*24≤_
   have h8:l.length*24≤140737488355328:=this;omega
  ·exact⟨rfl,rfl⟩
theorem Fj(n:Nat)(hn:n*24≤140737488355328):cV vV [.nil,dI n] [] (.own 3000) [(3000,.row 67 .lit [])]:=by
 intro w S vs pl hS hl hv hh _;have e0:vs.getD 0 undef=.slice none 0 0:=Rp.nil_inv (hv 0 _ rfl);have e1:vs.getD 1 undef=.int .i64 n:=(Rp.int_inv (hv 1 _ rfl)).1
 have ev:vs= #[.slice none 0 0,.int .i64 n]:=by
  have hl2:vs.size=2:=hl;apply Array.ext (by simp[hl2])
  intro i h1 h2;simp[Array.getD_eq_getD_getElem?]at e0 e1
  match i,h1 with
  |0,h1=>rw[Array.getElem?_eq_getElem h1]at e0;simpa using e0
  |1,h1=>rw[Array.getElem?_eq_getElem h1]at e1;simpa using e1
  |i+2,h1=>exact absurd h1 (by omega)
 subst ev
 by_cases h0:n=0
 ·subst h0
  refine(zfg w).mono λe w' ⟨he,hw⟩=> ?_
  subst he hw;exact Ok (t:=.lit) (xs:=[]) hS (λpl'=>⟨by show 0*24≤lim;exact Nat.le_of_ble_eq_true rfl,[],rfl,⟨rfl,.inl ⟨rfl,rfl⟩⟩,λcs h=>(by cases h),λi x cs h=>(by cases h)⟩) (λb h=>by cases h) (Below.refl _ _)
 ·refine(zfh n (by omega) hn w).mono λe w' ⟨cap,cells,he,h1,h2,h3,h4,h5⟩=> ?_
  subst he;refine Ok (t:=.lit) (xs:=[]) hS (λpl'=>⟨by show 0*24≤lim;exact Nat.le_of_ble_eq_true rfl,[],rfl,⟨rfl,.inr ⟨w.heap.size,cap,cells,rfl,Nat.zero_le _,h1,Nat.zero_le _,h3,h2,rfl⟩⟩,λcs h=>(by cases h),λi x cs h=>(by cases h)⟩) (λb h=> ?_) h5
  have:w.heap.size=b:=by injection h
  omega
theorem Kz{ls:List (List zC)}(hl:ls.length≤1000)(hr:∀l∈ls,l.length≤1000000):wO tC [.sl (.list .lit) ls] (.sl .lit ls.flatten):=
 bC ls λok=>by
  have flat:∀k,((ls.take k).flatten).length≤k*1000000:=λk=>by
   have h1:∀xs:List (List zC),(∀l∈xs,l.length≤1000000)→xs.flatten.length≤xs.length*1000000:=λxs=>by
    induction xs with
    |nil=>exact λ_=>Nat.le_refl _
    |cons a xs ih=>
     intro h;have h1:=h a (List.mem_cons_self ..);have h2:=ih λl hl=>h l (List.mem_cons_of_mem _ hl)
     rw[List.flatten_cons,List.length_append,List.length_cons];omega
   have:=h1 (ls.take k) λl hl=>hr l (List.mem_of_mem_take hl)
   rw[List.length_take]at this
   exact Nat.le_trans this (Nat.mul_le_mul_right _ (Nat.min_le_left ..))
  have ftake:∀(k:Nat) (h:k<ls.length),(ls.take (k+1)).flatten=(ls.take k).flatten++ls[k]:=λk h=>by
   rw[←List.take_append_getElem h,List.flatten_append];simp
  rw[aU];refine up (I:=λn v (a:Int)=>uX ls _ n a v) 0 ls.length rfl (Nat.zero_le _) (by omega) (λk a=>a=(((ls.take k).flatten).length:Int)) rfl λn k a _ hk ha hn=> ?_
  subst ha;rw[dJ];have hf:=flat k
  by_cases h:k<ls.length
  ·have hm:=hr _ (List.getElem_mem h)
   rw[zR h,zP (t:=.list .lit) h,tR (by omega) (by omega)]
   refine⟨zI h,df (by omega) (hn h _ ?_)⟩
   rw[ftake k h,List.length_append];omega
  ·have hk':k=ls.length:=by omega
   subst hk';rw[zO];refine⟨[],Fj _ (by omega),?_⟩
   refine up (I:=λn v (a:List zC)=>uW ls _ n v a) 0 ls.length rfl (Nat.zero_le _) (by omega) (λk a=>a=(ls.take k).flatten) rfl λn k a _ hk ha hn=> ?_
   subst ha;rw[dH];have hf:=flat k
   by_cases h:k<ls.length
   ·have hm:=hr _ (List.getElem_mem h)
    rw[zR h,zP (t:=.list .lit) h];refine⟨zI h,xR (t:=.lit) ?_,hn h _ (ftake k h).symm⟩;show(_+_)*24≤_
    omega
   ·have hk':k=ls.length:=by omega
    subst hk';rw[zO,List.take_length]
end Go.Proofs.YteimklbiapnfhaaGreat
namespace Go.Proofs.YteimklbiapnfhaaGreat
open Go.RowKit
set_option linter.unusedVariables false
set_option linter.unusedSimpArgs false
variable[Lo]
def cU(m:zF)(d:List zC):List (List Int):=d.foldl zc9 (sE m)
noncomputable def oY (m:zF)(l:List (List zC))(d:List zC):Bool:=zY (sD m true l (cU m d))
def zly(m:zF)(d:List zC):Int:=wL (λ_ x=>jF m.vars.length (X3 x)) 0 d
def XC(m:zF)(l:List (List zC))(d:List zC):Int:=or0 (wN m) (or0 (Y3 m.vars.length l) (or0 (vH m.vars.length d) (zly m d)))
noncomputable def fewest (m:zF)(l:List (List zC))(d:List zC):List zC:=BK (oY m l) d
theorem zdK:∀(d:List zC) (s:List (List Int)),d.foldl zc9 s=pZ (λv n=>d.all λx=> !decide ((v:Int)=x.var)||holdsL x n) s
 |[],s=>(Wp λv n _=>rfl).symm
 |x::d,s=>by
  rw[List.foldl_cons,zdK d (zc9 s x),zc9,zi3];rfl
theorem A6{m:zF}{d:List zC}:cU m d=pZ (λv n=>d.all λx=> !decide ((v:Int)=x.var)||holdsL x n) (sE m):=zdK d _
theorem KA{m:zF}{d:List zC}:Z4 (cU m d) (sE m):=by rw[A6];exact L4
theorem zfj{m:zF}{d:List zC}:rH m (cU m d)=0:=Oh PA KA
theorem zlz{m:zF}(h:Right m){d:List zC}:iF (cU m d) m.vars.length:=jB h zfj
theorem zlA{m:zF}{d:List zC}(h:∀x∈d,1≤x.op∧x.op≤4):cU m d=fA (sE m) (d.map X3):=by
 rw[A6,fA];refine VR λv n _=> ?_
 induction d with
 |nil=>rfl
 |cons x d ih=>
  have ih:=ih λy hy=>h y (List.mem_cons_of_mem _ hy)
  have hx:=zi0 (h x (List.mem_cons_self ..)) n;rw[List.all_cons,ih,List.map_cons,atC,atC,List.any_cons,zmG,hx]
  by_cases e:x.var=(v:Int)
  ·rw[if_pos e,decide_eq_true e.symm];cases holdsL x n<;>rfl
  ·rw[if_neg e,decide_eq_false λx=>e x.symm];rfl
structure vP (m:zF)(l:List (List zC))(d:List zC):Prop where
 chk:wN m=0
 len:l.length≤600
 cl:∀c∈l,vH m.vars.length c=0
 dl:d.length≤40
 dr:∀x∈d,jF m.vars.length x=0
 turn:∀x∈d,jF m.vars.length (X3 x)=0
theorem vP.mc{m:zF}{l:List (List zC)}{d:List zC}(h:vP m l d):sW m l:=SK h.chk h.cl
theorem vP.ops{m:zF}{l:List (List zC)}{d:List zC}(h:vP m l d):∀x∈d,1≤x.op∧x.op≤4:=λx hx=>(tS.1 (h.dr x hx)).2.1
theorem vP.sub{m:zF}{l:List (List zC)}{d d':List zC}(h:vP m l d)(hs:d'.Sublist d):vP m l d':=⟨h.chk,h.len,h.cl,Nat.le_trans hs.length_le h.dl,λx hx=>h.dr x (hs.subset hx),λx hx=>h.turn x (hs.subset hx)⟩
theorem W2{m:zF}{l:List (List zC)}{d:List zC}(h:XC m l d=0):vP m l d:=by
 obtain⟨h1,h⟩:=CD h;obtain⟨h2,h⟩:=CD h;obtain⟨h3,h4⟩:=CD h;obtain⟨a,b⟩:=Kr h2;obtain⟨c,e⟩:=kZ h3;refine⟨h1,a,b,c,e,λx hx=> ?_⟩
 obtain⟨i,hi,rfl⟩:=List.getElem_of_mem hx;exact YB (f:=λ_ x=>jF m.vars.length (X3 x)) h4 hi
theorem SN{m:zF}{l:List (List zC)}{d:List zC}:(fewest m l d).Sublist d:=Kw ..
theorem zjn{m:zF}{l:List (List zC)}{d:List zC}(h:vP m l d):vH m.vars.length (d.map X3)=0:=CH (by rw[List.length_map];exact h.dl) λx hx=>by
 obtain⟨y,hy,rfl⟩:=List.mem_map.1 hx;exact h.turn y hy
noncomputable def I2 (m:zF)(l:List (List zC))(d:List zC):List zC:=if XC m l d=0 then(if oY m l d=true then(fewest m l d).map X3 else[])else[]
noncomputable def W3 (m:zF)(l:List (List zC))(d:List zC):Bool:=orB (XC m l d) (oY m l d)
theorem vP.near{m:zF}{l:List (List zC)}{d:List zC}(h:vP m l d):∀x∈d,-1000000≤x.n∧x.n≤1000000:=λx hx=>by have:=tS.1 (h.dr x hx);omega
end Go.Proofs.YteimklbiapnfhaaGreat
namespace Go.Proofs.YteimklbiapnfhaaGreat
open Go.RowKit
set_option linter.unusedVariables false
set_option linter.unusedSimpArgs false
variable[Lo]
theorem KB{m:zF}(hr:Right m)(d:List zC):wO kQ [dM m,.sl .lit d] (dS (cU m d)):=
 BN m d λok=>by
  have hl:=(mC (t:=.lit) (WD (okR ok))).1;have hl:d.length*24≤140737488355328:=hl;rw[zbE];refine zE (zhQ hr) ?_;refine up (I:=λn v a=>We d _ n a v) 0 d.length rfl (Nat.zero_le _) (by omega) (λk a=>a=(d.take k).foldl zc9 (sE m)) rfl λn k a _ hk ha hn=> ?_
  subst ha;rw[Fi]
  by_cases h:k<d.length
  ·rw[zR h,zP (t:=.lit) h]
   refine⟨zI h,zE (zeS _ _) (hn h _ ?_)⟩;rw[←List.take_append_getElem h,List.foldl_append];rfl
  ·have hk':k=d.length:=by omega
   subst hk';rw[zO,List.take_length];rfl
theorem PF{m:zF}{l:List (List zC)}{d:List zC}(hl:sW m l)(hll:l.length≤1000000000):wO cZ [dM m,.sl (.list .lit) l,.sl .lit d] (dB (oY m l d)):=
 Fh m l d λok=>by
  rw[CM];exact zE (KB hl.right d) (zE (WY hl (zlz hl.right) hll) (zE (yK _) rfl))
theorem RA{d:List zC}(hd:d.length≤1000000)(h:∀x∈d,-1000000≤x.n∧x.n≤1000000):wO rC [.sl .lit d] (.sl .lit (d.map X3)):=
 I1 d λok=>by
  rw[Ff];refine up (I:=λn v a=>aM d _ n v a) 0 d.length rfl (Nat.zero_le _) (by omega) (λk a=>a=(d.take k).map X3) rfl λn k a _ hk ha hn=> ?_
  subst ha;rw[MT]
  by_cases hk2:k<d.length
  ·rw[zR hk2,zP (t:=.lit) hk2]
   refine⟨zI hk2,zE (Xz _ (h _ (List.getElem_mem hk2))) ⟨xR (t:=.lit) ?_,hn hk2 _ ?_⟩⟩
   ·rw[List.length_map,List.length_take];show(_+1)*24≤_;omega
   ·rw[←List.take_append_getElem hk2,List.map_append];rfl
  ·have hk':k=d.length:=by omega
   subst hk';rw[zO,List.take_length]
theorem aN{m:zF}{l:List (List zC)}{d:List zC}(hl:sW m l)(hll:l.length≤1000000000)(hd:d.length≤1000000):wO oM [dM m,.sl (.list .lit) l,.sl .lit d] (.tup [.sl .lit (if oY m l d=true then fewest m l d else[]),dB (oY m l d)]):=
 I0 m l d λok=>by
  rw[Fe];refine zE (PF hl hll) (zA (λe=> ?_) λe=> ?_)
  ·have e:oY m l d=false:=by simpa using e
   rw[e];rfl
  have e:oY m l d=true:=by simpa using e
  rw[if_pos e,e];refine⟨d,zfi d,?_⟩;rw[fewest,BK]
  suffices H:∀(k:Nat) (l':List zC) (i:Nat),l'.length≤k+i→i≤l'.length→l'.length≤1000000→∀r,r=XB (oY m l) k l' i→gT m l (λd=>d=.tup [.sl .lit r,dB true]) (k+1) l' (i:Int)from⟨_,H d.length d 0 (Nat.le_refl _) (Nat.zero_le _) hd _ rfl⟩
  intro k
  induction k with
  |zero=>
   intro l' i h1 h2 h3 r hr;have hi:i=l'.length:=by omega
   subst hi;rw[W1,zO,hr,XB]
  |succ k ih=>
   intro l' i h1 h2 h3 r hr;rw[W1]
   by_cases h:i<l'.length
   ·have hw:xF ((i:Int)+1)=((i+1:Nat):Int):=V7 (by omega)
    rw[XB,if_pos h]at hr
    have hel:(l'.eraseIdx i).length=l'.length-1:=List.length_eraseIdx_of_lt h;rw[zR h,hw,Int.toNat_natCast,Int.toNat_natCast,Int.toNat_natCast,List.drop_zero,List.take_length]
    have hcat:=Kz (ls:=[l'.take i,l'.drop (i+1)]) (by show 2≤1000;decide) λx hx=>by
     rcases List.mem_cons.1 hx with rfl|hx
     ·rw[List.length_take];omega
     ·rw[List.mem_singleton.1 hx,List.length_drop];omega
    have he:[l'.take i,l'.drop (i+1)].flatten=l'.eraseIdx i:=by rw[List.eraseIdx_eq_take_drop_succ];simp
    rw[he]at hcat
    refine⟨Ol (Int.le_refl _) (by omega) (by omega),Ol (by omega) (by omega) (Int.le_refl _),zE hcat ?_⟩
    refine zE (PF hl hll) (zA (λe=> ?_) λe=> ?_)
    ·rw[if_pos e]at hr
     exact ih _ i (by omega) (by omega) (by omega) r hr
    ·rw[if_neg (by rw[e];decide)]at hr
     exact ih l' (i+1) (by omega) (by omega) h3 r hr
   ·have hi:i=l'.length:=by omega
    subst hi;rw[XB,if_neg (Nat.lt_irrefl _)]at hr
    rw[zO,hr]
theorem Yh(m:zF)(l:List (List zC))(d:List zC):wO mV [dM m,.sl (.list .lit) l,.sl .lit d] (dI (XC m l d)):=
 Fd m l d λok=>by
  rw[CK];refine zE (eM m) (zA (λe=> ?_) λe=> ?_)
  ·exact wG (zaZ (xO e))
  have e:=zU e;rw[XC,za0 e];refine zE (NO m l) (zA (λf=> ?_) λf=> ?_)
  ·exact wG (zaZ (xO f))
  rw[za0 (zU f)];refine zE (aI m d) (zA (λg=> ?_) λg=> ?_)
  ·exact wG (zaZ (xO g))
  have g:=zU g;rw[za0 g];obtain⟨q1,q2⟩:=kZ g;refine C8 (I:=λn v=>Yc m d _ n v) d (λ_ x=>jF m.vars.length (X3 x)) (by omega) (X:=λx=>D.int .i64 x=dI (zly m d)) (Y:=D.int .i64 0=dI (zly m d)) (λ_=>rfl) (λe=>wG e) (λn k h _ hX hn=> ?_) λn hY=> ?_
  ·rw[VZ,zR h,zP (t:=.lit) h]
   have:=tS.1 (q2 _ (List.getElem_mem h));exact⟨zI h,zE (zbi m _ (by omega)) (zA (λe=>hX (xO e)) λe=>hn (zU e))⟩
  ·rw[VZ,zO];exact hY
theorem PG(m:zF)(l:List (List zC))(d:List zC):wO rA [dM m,.sl (.list .lit) l,.sl .lit d] (.tup [.sl .lit (I2 m l d),dB (W3 m l d),dI (XC m l d)]):=
 Fb m l d λok=>by
  rw[CI,I2,W3];refine zE (Yh m l d) (zA (λe=> ?_) λe=> ?_)
  ·have e:=xO e
   rw[if_neg e,zc8 e]
  have e:=zU e;have hk:=W2 e;rw[if_pos e,J6 e,e];refine kH (t:=.list .lit) (u:=.bool) (aN hk.mc (by have:=hk.len;omega) (by have:=hk.dl;omega)) (zA (λf=> ?_) λf=> ?_)
  ·have f:oY m l d=false:=by simpa using f
   rw[f];rfl
  ·have f:oY m l d=true:=by simpa using f
   rw[if_pos f,f];have hf:=hk.sub (SN (m:=m) (l:=l) (d:=d));exact zE (RA (by have:=hf.dl;omega) hf.near) (by rw[if_pos rfl])
end Go.Proofs.YteimklbiapnfhaaGreat
namespace Go.Proofs.YteimklbiapnfhaaGreat
open Go.RowKit
set_option linter.unusedVariables false
set_option linter.unusedSimpArgs false
variable[Lo]
theorem KC{m:zF}{con:Int}{s:List (List Int)}{must r:List zC}(h:TB m con s must r)(hp:0<m.vars.length)(hcl:vH m.vars.length (must++r)=0)
  {u:List (List Int)} (hu:Z4 u s) (hf:zY u=false) (hlen:u.length=m.vars.length) (hst:kC u (must++r)=u) {v:Nat} {n:Int} (hn:n∈u.getD v []):∃us,Ji us u∧us.getD v 0=n∧Mu must us=true:=by
 have hl:=(kZ hcl).2;have hv:∀x∈must++r,0≤x.var∧x.var<(m.vars.length:Int):=λx hx=>(tS.1 (hl x hx)).1
 have op:=zhH (c:=must++r) (nv:=m.vars.length) hv hp;obtain⟨us,h1,h2,h3⟩:=WS.congr (Q':=λ_=>true) (vs:=[]) op hlen hst hf v n hn
 refine⟨us,h1,h2,?_⟩;obtain⟨x,hx,hh⟩:=eR.1 h3;rcases List.mem_append.1 hx with hm|hm
 ·exact eR.2 ⟨x,hm,hh⟩
 ·have ht:=(h.told x hm).2.1
  have hb:=hv x hx;have hin:=(hu.2 x.var.toNat).subset (h1.2 x.var.toNat (by omega))
  have:=ME.2 ⟨_,hin,hh⟩;omega
def bV(l:List xN):List (List zC):=l.map λst=>st.clause
noncomputable def R8 (m:zF)(l:List (List zC))(d:List zC)(steps:List xN):List (List Int):=sD m false (l++bV steps) (cU m d)
structure V1 (m:zF)(st:xN):Prop where
 kind:st.kind=1
 con:0≤st.con∧st.con<(m.cons.length:Int)
 by':iG m st.con st.clause=true
 cl:vH m.vars.length st.clause=0
section
variable {m:zF}{l:List (List zC)}{d:List zC}{steps more:List xN}{s x:List (List Int)}
theorem W4:bV (steps++more)=bV steps++bV more:=List.map_append
theorem Y5:(cU m d).length=m.vars.length:=KA.1.trans kF
theorem zfk(h:vP m l d)(hs:∀st∈steps,V1 m st):sW m (l++bV steps):=SK h.chk λc hc=>by
 rcases List.mem_append.1 hc with hc|hc
 ·exact h.cl c hc
 ·obtain⟨st,h1,rfl⟩:=List.mem_map.1 hc
  exact(hs st h1).cl
theorem PH(h:vP m l d)(hs:∀st∈steps,V1 m st):Vl (sF m false (l++bV steps)) (cU m d) (R8 m l d steps):=IL (zfk h hs) Y5
theorem zhT(h:vP m l d)(hs:∀st∈steps,V1 m st):(R8 m l d steps).length=m.vars.length:=(PH h hs).le.1.trans Y5
theorem CN(h:vP m l d)(hs:∀st∈steps,V1 m st)(hf:zY (R8 m l d steps)=false){c:List zC}(hc:c∈l++bV steps):kC (R8 m l d steps) c=R8 m l d steps:=by
 rcases(PH h hs).out with⟨_,h2⟩|h2
 ·exact h2 (λs=>kC s c) (jC.2 (.inr ⟨c,hc,rfl⟩))
 ·rw[h2,aZ (by rw[Y5];exact(zfk h hs).pos)]at hf;cases hf
theorem zdL(h:vP m l d)(h1:∀st∈steps,V1 m st)(h2:∀st∈steps++more,V1 m st):Z4 (R8 m l d (steps++more)) (R8 m l d steps):=
 (PH h h2).mono (by rw[Y5];exact(zfk h h1).pos) (PH h h1) (Z4.refl _) λop ho=>by
  rcases jC.1 ho with⟨hc,_⟩|⟨c,hc,rfl⟩
  ·cases hc
  ·refine jC.2 (.inr ⟨c,?_,rfl⟩)
   rw[W4];rcases List.mem_append.1 hc with hc|hc
   ·exact List.mem_append_left _ hc
   ·exact List.mem_append_right _ (List.mem_append_left _ hc)
def Sim(m:zF)(l:List (List zC))(d:List zC)(steps:List xN)(s:List (List Int)):Prop:=zY (R8 m l d steps)=true∨Z4 (R8 m l d steps) s
theorem Sim.grow(hs:Sim m l d steps s)(h:vP m l d)(h1:∀st∈steps,V1 m st)(h2:∀st∈steps++more,V1 m st):Sim m l d (steps++more) s:=by
 rcases hs with hs|hs
 ·exact .inl ((zdL h h1 h2).failed hs)
 ·exact .inr ((zdL h h1 h2).trans hs)
theorem H8{i:Int}{v:Nat}{n:Int}(hat:MC m i=0)(hl:s.length=m.vars.length)(hle:Z4 s (sE m))(hg:bU m i s v n=true):(v<m.vars.length∧n∈s.getD v [])∧∃r,Zp m i s v n=[⟨v,4,n⟩]++r∧TB m i s [⟨v,4,n⟩] r∧vH m.vars.length ([⟨v,4,n⟩]++r)=0:=by
 have hg':=hg;rw[bU,Bool.and_eq_true,Bool.and_eq_true,Int.toNat_natCast]at hg'
 obtain⟨a,b,c⟩:=hg';have a:zY s=false:=by simpa using a
 have b:=kX.1 b;have c:n∉(yG (zZ m i) s).getD v []:=λh=>by rw[kX.2 h]at c;cases c
 have hv:v<s.length:=Classical.byContradiction λh=>by rw[pR (by omega)]at b;cases b
 have hr:=A4 (must:=[⟨v,4,n⟩]) hat (zbz hat hl a hv b c);refine⟨⟨by omega,b⟩,_,?_,hr,hr.clause (Nat.le_refl 1) λx hx=> ?_⟩
 ·rw[Zp,if_pos hg];rfl
 ·rw[List.mem_singleton.1 hx]
  exact zdH (lI hat).1 (show 0≤(v:Int)∧(v:Int)<_ by omega) (show 1≤(4:Int)∧(4:Int)≤4 by decide) (by
   show n∈(sE m).getD ((v:Int).toNat) []
   rw[Int.toNat_natCast];exact(hle.2 v).subset b)
theorem zjo{i:Int}{v:Nat}{n:Int}(hat:MC m i=0)(hl:s.length=m.vars.length)(hle:Z4 s (sE m))(hg:bU m i s v n=true):V1 m ⟨1,i,Zp m i s v n⟩:=by
 obtain⟨_,r,e,hr,hc⟩:=H8 hat hl hle hg;have hi:=(lI hat).2;exact⟨rfl,hi,by show iG m i (Zp m i s v n)=true;rw[e];exact hr.says,by show vH _ (Zp m i s v n)=0;rw[e];exact hc⟩
theorem KD{i:Int}(hat:MC m i=0)(hl:s.length=m.vars.length)(hf:zY s=false)(hg:zY (yG (zZ m i) s)=true):∃r,mT m i s=[]++r∧TB m i s [] r∧vH m.vars.length ([]++r)=0:=by
 have hr:=A4 (must:=[]) hat (zdG hat hl hf hg);refine⟨_,?_,hr,hr.clause (Nat.zero_le _) λx hx=>(by cases hx)⟩
 have hb:eU m i s=true:=by rw[eU,hf,hg];rfl
 rw[mT,if_pos hb];rfl
theorem zfl{i:Int}(hat:MC m i=0)(hl:s.length=m.vars.length)(hf:zY s=false)(hg:zY (yG (zZ m i) s)=true):V1 m ⟨1,i,mT m i s⟩:=by
 obtain⟨r,e,hr,hc⟩:=KD hat hl hf hg;have hi:=(lI hat).2;exact⟨rfl,hi,by show iG m i (mT m i s)=true;rw[e];exact hr.says,by show vH _ (mT m i s)=0;rw[e];exact hc⟩
noncomputable def bW (m:zF)(i:Int)(s:List (List Int))(v:Nat)(n:Int):xN:=⟨1,i,Zp m i s v n⟩
noncomputable def PI (m:zF)(i:Int)(s x:List (List Int))(v:Nat):List xN:=((s.getD v []).filter λn=> !pP (x.getD v []) n).map (bW m i s v)
noncomputable def xK (m:zF)(i:Int)(s x:List (List Int))(k:Nat):List xN:=(List.range k).flatMap (PI m i s x)
theorem bX{i:Int}{k:Nat}:xK m i s x (k+1)=xK m i s x k++PI m i s x k:=by
 rw[xK,List.range_succ,List.flatMap_append];simp[xK]
theorem SO{i:Int}{k:Nat}{st:xN}:st∈xK m i s x k↔∃v n,v<k∧n∈s.getD v []∧n∉x.getD v []∧st=bW m i s v n:=by
 rw[xK,List.mem_flatMap];constructor
 ·rintro⟨v,hv,h⟩
  obtain⟨n,h1,h2⟩:=List.mem_map.1 h;obtain⟨h3,h4⟩:=List.mem_filter.1 h1;exact⟨v,n,List.mem_range.1 hv,h3,(λe=>by rw[kX.2 e]at h4;cases h4),h2.symm⟩
 ·rintro⟨v,n,h1,h2,h3,rfl⟩
  refine⟨v,List.mem_range.2 h1,List.mem_map.2 ⟨n,List.mem_filter.2 ⟨h2,?_⟩,rfl⟩⟩;cases e:pP (x.getD v []) n
  ·rfl
  ·exact absurd (kX.1 e) h3
theorem zlB{a b:List Int}(h:a.Sublist b):(b.filter λn=> !pP a n).length+a.length≤b.length:=by
 have h1:=LJ (p:=pP a) (r:=b);have h2:(a.filter (pP a))=a:=List.filter_eq_self.2 λn hn=>kX.2 hn
 have h3:=(h.filter (pP a)).length_le;rw[h2]at h3
 omega
theorem I3{a:List (List Int)}{k:Nat}(h:k<a.length):wH (a.take (k+1))=wH (a.take k)+a[k].length:=by
 have:=congrArg wH (List.take_append_getElem h);rw[←this,wH,List.map_append,List.sum_append];simp[wH]
theorem BO{i:Int}(h:Z4 x s):∀k,k≤s.length→(xK m i s x k).length+wH (x.take k)≤wH (s.take k):=by
 intro k
 induction k with
 |zero=>intro _;exact Nat.le_refl _
 |succ k ih=>
  intro hk;have ih:=ih (by omega)
  have hx:k<x.length:=by rw[h.1];omega
  have e1:wH (x.take (k+1))=wH (x.take k)+(x.getD k []).length:=by rw[yN _ hx,I3 hx]
  have e2:wH (s.take (k+1))=wH (s.take k)+(s.getD k []).length:=by rw[yN _ hk,I3 hk]
  have:=zlB (h.2 k);rw[bX,List.length_append,e1,e2,PI,List.length_map];omega
structure Tr (m:zF)(l:List (List zC))(d:List zC)(steps:List xN)(s:List (List Int)):Prop where
 reach:vW (sF m true l) (cU m d) s
 sim:Sim m l d steps s
 ok:∀st∈steps,V1 m st
 size:steps.length+wH s≤36
 size2:steps.length+wH s≤wH (sE m)
theorem Tr.len(h:Tr m l d steps s):s.length=m.vars.length:=h.reach.le.1.trans Y5
theorem Tr.le(h:Tr m l d steps s):Z4 s (sE m):=h.reach.le.trans KA
theorem Tr.store(h:Tr m l d steps s):rH m s=0:=Oh PA h.le
theorem Tr.filtR(h:Tr m l d steps s)(hk:vP m l d){i:Int}(hi:0≤i∧i<(m.cons.length:Int)):AU m i s:=by
 refine Pw (FI ?_ hi);rw[bP (by rw[hk.chk];decide),eO];exact h.store
theorem zjp(hr:Right m):wH (sE m)≤36:=by
 have h1:∀k,k≤m.vars.length→wH ((sE m).take k)≤k*6:=by
  intro k
  induction k with
  |zero=>intro _;exact Nat.le_refl _
  |succ k ih=>
   intro hk;have hx:k<(sE m).length:=by rw[kF];exact hk
   have:=ih (by omega)
   have h6:=Kx hr k;rw[yN _ hx]at h6
   have e1:wH ((sE m).take (k+1))=wH ((sE m).take k)+((sE m)[k]).length:=I3 hx;omega
 have h2:=h1 _ (Nat.le_refl _);rw[List.take_of_length_le (by rw[kF];exact Nat.le_refl _)]at h2
 have:=hr.vars;omega
theorem Tr.begin(h:vP m l d):Tr m l d [] (cU m d):=
 ⟨vW.refl _ _,.inr (PH h λ_ hx=>(by cases hx)).le,λ_ hx=>(by cases hx),by
  have:=(KA (m:=m) (d:=d)).size;have:=zjp h.mc.right;show 0+_≤_
  omega,by
  have:=(KA (m:=m) (d:=d)).size;show 0+_≤_
  omega⟩
theorem zhU{i:Int}(hat:MC m i=0):zZ m i∈m.cons:=by
 have h:=(lI hat).2;have hi:i.toNat<m.cons.length:=by omega
 rw[zZ,yN _ hi];exact List.getElem_mem hi
theorem KE(hp:0<s.length)(hf:zY s=false):0<wH s:=by
 have:=oW.1 hf 0 hp;cases s with
 |nil=>cases hp
 |cons a s=>
  have:a≠[]:=this;have:0<a.length:=List.length_pos_iff.2 this;show 0<a.length+_
  omega
theorem I4:wH (iN s)=0:=by
 rw[iN,wH,List.map_replicate,List.sum_replicate_nat];rfl
theorem vW.none{ops:List Op}{s0 r t:List (List Int)}(h:vW ops s0 r)(hf:zY r=true)(hl:t.length=s0.length):vW ops s0 (iN t):=
 ⟨Ph hl,λt h1 h2 h3=>by have:=(h.all t h1 h2 h3).fail h2;rw[hf]at this;cases this⟩
theorem Tr.empty(h:Tr m l d steps s)(hk:vP m l d){i:Int}(hat:MC m i=0)(hf:zY s=false)(hg:zY (yG (zZ m i) s)=true):
  Tr m l d (steps++[⟨1,i,mT m i s⟩]) (iN s)∧wH (iN s)<wH s:=by
 have hp:0<s.length:=by rw[h.len];exact hk.mc.pos
 have hpos:=KE hp hf
 have hok:∀st∈steps++[⟨1,i,mT m i s⟩],V1 m st:=λst hs=>by
  rcases List.mem_append.1 hs with hs|hs
  ·exact h.ok st hs
  ·rw[List.mem_singleton.1 hs];exact zfl hat h.len hf hg
 have hs:=h.sim.grow hk h.ok hok;refine⟨⟨?_,?_,hok,?_,?_⟩,by rw[I4];exact hpos⟩
 ·refine vW.none (r:=yG (zZ m i) s) ?_ hg (h.len.trans Y5.symm)
  exact h.reach.step (Uw hk.mc) Y5 (jC.2 (.inl ⟨rfl,_,zhU hat,rfl⟩))
 ·refine .inl ?_
  rcases hs with hs|hs
  ·exact hs
  ·cases hu:zY (R8 m l d (steps++[⟨1,i,mT m i s⟩]))
   ·obtain⟨r,e,hr,hc⟩:=KD hat h.len hf hg
    have hl:=zhT hk hok;have hst:=CN hk hok hu (c:=mT m i s) (by rw[W4];exact List.mem_append_right _ (List.mem_append_right _ (List.mem_singleton.2 rfl)))
    have hst:kC (R8 m l d (steps++[⟨1,i,mT m i s⟩])) ([]++r)=R8 m l d (steps++[⟨1,i,mT m i s⟩]):=by rw[←e];exact hst
    have h0:=oW.1 hu 0 (by rw[hl];exact hk.mc.pos)
    obtain⟨n,hn⟩:=List.exists_mem_of_ne_nil _ h0;obtain⟨us,_,_,h3⟩:=KC hr hk.mc.pos hc hs hu hl hst hn;cases h3
   ·rfl
 ·have:=h.size
  rw[List.length_append,I4,List.length_singleton];omega
 ·have:=h.size2
  rw[List.length_append,I4,List.length_singleton];omega
theorem Tr.con(h:Tr m l d steps s)(hk:vP m l d){i:Int}(hat:MC m i=0)(hf:zY s=false)(hg:zY (yG (zZ m i) s)=false):
  Tr m l d (steps++xK m i s (yG (zZ m i) s) s.length) (yG (zZ m i) s)∧(xK m i s (yG (zZ m i) s) s.length=[]→yG (zZ m i) s=s)∧(xK m i s (yG (zZ m i) s) s.length≠[]→wH (yG (zZ m i) s)<wH s):=by
 have hop:=(h.filtR hk (lI hat).2).op;have hle:=hop.le h.len;have hk':yG (zZ m i) s=pZ (mayB (xD (zZ m i)) s) s:=hop.some s h.len hf ((hop.nofail h.len).1 hg)
 have hgone:∀v n,n∈s.getD v []→n∉(yG (zZ m i) s).getD v []→bU m i s v n=true:=λv n h1 h2=>by
  rw[bU,Int.toNat_natCast,hf,kX.2 h1];cases e:pP ((yG (zZ m i) s).getD v []) n
  ·rfl
  ·exact absurd (kX.1 e) h2
 have hok:∀st∈steps++xK m i s (yG (zZ m i) s) s.length,V1 m st:=λst hs=>by
  rcases List.mem_append.1 hs with hs|hs
  ·exact h.ok st hs
  ·obtain⟨v,n,h1,h2,h3,rfl⟩:=SO.1 hs
   exact zjo hat h.len h.le (hgone v n h2 h3)
 have hs:=h.sim.grow hk h.ok hok;have hsz:=BO (m:=m) (i:=i) hle s.length (Nat.le_refl _);rw[List.take_length,List.take_of_length_le (by rw[hle.1];exact Nat.le_refl _)]at hsz
 refine⟨⟨?_,?_,hok,?_,?_⟩,λe=> ?_,λe=> ?_⟩
 ·exact h.reach.step (Uw hk.mc) Y5 (jC.2 (.inl ⟨rfl,_,zhU hat,rfl⟩))
 ·rcases hs with hs|hs
  ·exact .inl hs
  ·cases hu:zY (R8 m l d (steps++xK m i s (yG (zZ m i) s) s.length))
   ·refine .inr ?_
    have hl:=zhT hk hok
    have hall:∀(v:Nat) (n:Int),n∈(R8 m l d (steps++xK m i s (yG (zZ m i) s) s.length)).getD v []→mayB (xD (zZ m i)) s v n=true:=λv n hn=>by
     have hns:=(hs.2 v).subset hn;cases hm:mayB (xD (zZ m i)) s v n
     ·have hn2:n∉(yG (zZ m i) s).getD v []:=λe=>by
       rw[hk',qN]at e
       rw[(List.mem_filter.1 e).2]at hm;cases hm
      have hg:=hgone v n hns hn2;obtain⟨⟨hv,_⟩,r,e,hr,hc⟩:=H8 hat h.len h.le hg
      have hst:=CN hk hok hu (c:=Zp m i s v n) (by
       rw[W4];refine List.mem_append_right _ (List.mem_append_right _ (List.mem_map.2 ⟨bW m i s v n,SO.2 ⟨v,n,by rw[h.len];exact hv,hns,hn2,rfl⟩,rfl⟩)))
      have hst:kC (R8 m l d (steps++xK m i s (yG (zZ m i) s) s.length)) ([⟨v,4,n⟩]++r)=R8 m l d (steps++xK m i s (yG (zZ m i) s) s.length):=by rw[←e];exact hst
      obtain⟨us,_,h2,h3⟩:=KC hr hk.mc.pos hc hs hu hl hst hn;obtain⟨x,hx,hh⟩:=eR.1 h3;rw[List.mem_singleton.1 hx]at hh
      have h2':us.getD ((v:Int).toNat) 0=n:=by rw[Int.toNat_natCast];exact h2
      simp[holdsL,h2']at hh
      exact absurd (by simpa using h2) hh
     ·rfl
    have h2:=MD (f:=mayB (xD (zZ m i)) s) (g:=mayB (xD (zZ m i)) s) hs λv n hn e=>e
    rw[Wp hall,←hk']at h2
    exact h2
   ·exact .inl hu
 ·have:=h.size
  rw[List.length_append];omega
 ·have:=h.size2
  rw[List.length_append];omega
 ·have:∀(v:Nat) (n:Int),n∈s.getD v []→mayB (xD (zZ m i)) s v n=true:=λv n hn=>by
   cases hm:mayB (xD (zZ m i)) s v n
   ·have hn2:n∉(yG (zZ m i) s).getD v []:=λe=>by
     rw[hk',qN]at e
     rw[(List.mem_filter.1 e).2]at hm;cases hm
    have hv:v<s.length:=Classical.byContradiction λh=>by rw[pR (by omega)]at hn;cases hn
    have:=(SO (m:=m) (i:=i)).2 ⟨v,n,hv,hn,hn2,rfl⟩;rw[e]at this;cases this
   ·rfl
  rw[hk',Wp this]
 ·have:0<(xK m i s (yG (zZ m i) s) s.length).length:=List.length_pos_iff.2 e
  omega
theorem Tr.units(h:Tr m l d steps s)(hk:vP m l d):Tr m l d steps (sD m false l s)∧Z4 (sD m false l s) s:=by
 have hr:=IL (cons:=false) hk.mc h.len
 have hsub:∀op∈sF m false l,op∈sF m true l:=λop ho=>by
  rcases jC.1 ho with⟨hc,_⟩|hc
  ·cases hc
  ·exact jC.2 (.inr hc)
 refine⟨⟨⟨hr.le.trans h.reach.le,λt h1 h2 h3=>hr.all t (h.reach.all t h1 h2 h3) h2 λop ho=>h3 op (hsub op ho)⟩,?_,h.ok,?_,?_⟩,hr.le⟩
 ·rcases h.sim with hs|hs
  ·exact .inl hs
  ·cases hu:zY (R8 m l d steps)
   ·refine .inr (hr.all _ hs hu λop ho=> ?_)
    rcases jC.1 ho with⟨hc,_⟩|⟨c,hc,rfl⟩
    ·cases hc
    ·exact CN hk h.ok hu (List.mem_append_left _ hc)
   ·exact .inl hu
 ·have:=h.size
  have:=hr.le.size;omega
 ·have:=h.size2
  have:=hr.le.size;omega
theorem Tr.done(h:Tr m l d steps s)(hk:vP m l d)(hf:oY m l d=true)(he:zY s=true∨Ix (sF m true l) s):zY (R8 m l d steps)=true:=by
 have hs:zY s=true:=by
  cases e:zY s
  ·rcases he with he|he
   ·rw[e]at he;cases he
   ·have:=Wd hk.mc Y5 (h.reach.stop e he)
    rw[oY,this,e]at hf;cases hf
  ·rfl
 rcases h.sim with h1|h1
 ·exact h1
 ·exact h1.failed hs
end
def zdM(d:List zC):xN:=⟨2,0,d.map X3⟩
theorem KF{m:zF}:∀(a b:List xN) (all:List (List zC)),XA m all (a++b)=(XA m all a&&XA m (all++bV a) b)
 |[],b,all=>by
  show XA m all b=(XA m all []&&XA m (all++[]) b)
  rw[List.append_nil];rfl
 |x::a,b,all=>by
  rw[List.cons_append,XA,KF a b,XA,Bool.and_assoc,List.append_assoc];rfl
theorem CO{m:zF}:∀(a:List xN) (all:List (List zC)),(∀st∈a,V1 m st)→XA m all a=true
 |[],all,_=>rfl
 |x::a,all,h=>by
  have hx:=h x (List.mem_cons_self ..);rw[XA,CO a _ λst hs=>h st (List.mem_cons_of_mem _ hs),zlr,if_pos hx.kind,hx.by'];rfl
structure zfm (m:zF)(l:List (List zC))(d:List zC)(t:List xN):Prop where
 right:XA m l t=true
 len:0<t.length∧t.length≤37
 len2:t.length≤wH (sE m)+1
 cl:∀st∈t,vH m.vars.length st.clause=0
 con:∀st∈t,st.kind=1→0≤st.con∧st.con<(m.cons.length:Int)
 last:(t.getD (t.length-1) ⟨0,0,[]⟩).clause=d.map X3
theorem Tr.trace{m:zF}{l:List (List zC)}{d:List zC}{steps:List xN}{s:List (List Int)}(h:Tr m l d steps s)(hk:vP m l d)(hf:oY m l d=true)(he:zY s=true∨Ix (sF m true l) s):zfm m l d (steps++[zdM d]):=by
 refine⟨?_,?_,?_,λst hs=> ?_,λst hs e=> ?_,?_⟩
 ·rw[KF,CO _ _ h.ok,Bool.true_and]
  show(zlr m (l++bV steps) (zdM d)&&true)=true
  rw[Bool.and_true];show(decide ((0:Int)=0)&&zfe m (l++bV steps) (d.map X3))=true
  rw[zfe,←zlA hk.ops];exact h.done hk hf he
 ·have:=h.size
  rw[List.length_append,List.length_singleton];omega
 ·have:=h.size2
  rw[List.length_append,List.length_singleton];omega
 ·rcases List.mem_append.1 hs with hs|hs
  ·exact(h.ok st hs).cl
  ·rw[List.mem_singleton.1 hs];exact zjn hk
 ·rcases List.mem_append.1 hs with hs|hs
  ·exact(h.ok st hs).con
  ·rw[List.mem_singleton.1 hs]at e;cases e
 ·rw[List.length_append,List.length_singleton,Nat.add_sub_cancel,yN _ (show steps.length<(steps++[zdM d]).length by rw[List.length_append,List.length_singleton];omega),List.getElem_append_right (Nat.le_refl _)]
  simp[zdM]
abbrev FK:Type:=List xN×List (List Int)
noncomputable def Xt (m:zF)(i:Int)(p:FK):FK×Bool:=if zY (yG (zZ m i) p.2)=true then((p.1++[⟨1,i,mT m i p.2⟩],iN p.2),true)
 else((p.1++xK m i p.2 (yG (zZ m i) p.2) p.2.length,yG (zZ m i) p.2),!(xK m i p.2 (yG (zZ m i) p.2) p.2.length).isEmpty)
noncomputable def iP (m:zF):Nat→Nat→FK→Bool→FK×Bool
 |0,_,p,c=>(p,c)
 |k+1,i,p,c=>if zY p.2=true then(p,c)else iP m k (i+1) (Xt m i p).1 ((Xt m i p).2||c)
noncomputable def jH (m:zF)(l:List (List zC))(p:FK):FK×Bool:=
 (((iP m m.cons.length 0 p false).1.1,sD m false l (iP m m.cons.length 0 p false).1.2),if sD m false l (iP m m.cons.length 0 p false).1.2=(iP m m.cons.length 0 p false).1.2 then(iP m m.cons.length 0 p false).2 else true)
noncomputable def TC (m:zF)(l:List (List zC)):Nat→FK→FK
 |0,p=>p
 |k+1,p=>if zY p.2=true then p else if(jH m l p).2=true then TC m l k (jH m l p).1 else(jH m l p).1
noncomputable def I5 (m:zF)(l:List (List zC))(d:List zC):List xN:=(TC m l 37 ([],cU m d)).1++[zdM d]
section
variable {m:zF}{l:List (List zC)}{d:List zC}
theorem zfn(h:vP m l d){i:Nat}(hi:i<m.cons.length):MC m i=0:=Uu h.chk (by omega)
theorem I6{p:FK}(h:Tr m l d p.1 p.2)(hk:vP m l d){i:Nat}(hi:i<m.cons.length)(hf:zY p.2=false):
  Tr m l d (Xt m i p).1.1 (Xt m i p).1.2∧((Xt m i p).2=true→wH (Xt m i p).1.2<wH p.2)∧((Xt m i p).2=false→(Xt m i p).1.2=p.2∧yG (zZ m i) p.2=p.2):=by
 have hat:=zfn hk hi;cases hg:zY (yG (zZ m i) p.2)
 ·obtain⟨h1,h2,h3⟩:=h.con hk hat hf hg
  have e:Xt m i p=((p.1++xK m i p.2 (yG (zZ m i) p.2) p.2.length,yG (zZ m i) p.2),!(xK m i p.2 (yG (zZ m i) p.2) p.2.length).isEmpty):=by
   rw[Xt,if_neg (by rw[hg];decide)]
  rw[e];refine⟨h1,λx=>h3 λe=> ?_,λx=> ?_⟩
  ·rw[e]at x;cases x
  ·have:=h2 (List.isEmpty_iff.1 (by simpa using x))
   exact⟨this,this⟩
 ·obtain⟨h1,h2⟩:=h.empty hk hat hf hg
  have e:Xt m i p=((p.1++[⟨1,i,mT m i p.2⟩],iN p.2),true):=by rw[Xt,if_pos hg]
  rw[e];exact⟨h1,λ_=>h2,λx=>by cases x⟩
theorem CP(hk:vP m l d):∀(k i:Nat) (p:FK) (c:Bool),i+k=m.cons.length→Tr m l d p.1 p.2→
  Tr m l d (iP m k i p c).1.1 (iP m k i p c).1.2∧wH (iP m k i p c).1.2≤wH p.2∧((iP m k i p c).2=true→c=true∨wH (iP m k i p c).1.2<wH p.2)∧
   ((iP m k i p c).2=false→c=false∧(iP m k i p c).1.2=p.2∧(zY p.2=true∨∀j,i≤j→j<m.cons.length→yG (zZ m j) p.2=p.2))
 |0,i,p,c,hi,h=>⟨h,Nat.le_refl _,λe=> .inl e,λe=>⟨e,rfl,.inr λj h1 h2=>by omega⟩⟩
 |k+1,i,p,c,hi,h=>by
  cases hf:zY p.2
  ·obtain⟨h1,h2,h3⟩:=I6 h hk (i:=i) (by omega) hf
   obtain⟨i1,i2,i3,i4⟩:=CP hk k (i+1) (Xt m i p).1 ((Xt m i p).2||c) (by omega) h1
   rw[iP,if_neg (by rw[hf];decide)]
   have hle:wH (Xt m i p).1.2≤wH p.2:=by
    cases e:(Xt m i p).2
    ·rw[(h3 e).1];exact Nat.le_refl _
    ·exact Nat.le_of_lt (h2 e)
   refine⟨i1,Nat.le_trans i2 hle,λe=> ?_,λe=> ?_⟩
   ·rcases i3 e with e|e
    ·rcases Bool.or_eq_true _ _▸e with e|e
     ·exact .inr (Nat.lt_of_le_of_lt i2 (h2 e))
     ·exact .inl e
    ·exact .inr (Nat.lt_of_lt_of_le e hle)
   ·obtain⟨a,b,g⟩:=i4 e
    rw[Bool.or_eq_false_iff]at a
    obtain⟨e1,e2⟩:=h3 a.1;rw[e1]at b g
    refine⟨a.2,b,.inr λj q1 q2=> ?_⟩
    by_cases hj:j=i
    ·rw[hj];exact e2
    ·rcases g with g|g
     ·rw[hf]at g;cases g
     ·exact g j (by omega) q2
  ·rw[iP,if_pos hf]
   exact⟨h,Nat.le_refl _,λe=> .inl e,λe=>⟨e,rfl,.inl rfl⟩⟩
theorem PJ{p:FK}(h:Tr m l d p.1 p.2)(hk:vP m l d)(hf:zY p.2=false):
  Tr m l d (jH m l p).1.1 (jH m l p).1.2∧((jH m l p).2=true→wH (jH m l p).1.2<wH p.2)∧((jH m l p).2=false→Ix (sF m true l) (jH m l p).1.2):=by
 obtain⟨i1,i2,i3,i4⟩:=CP hk m.cons.length 0 p false (Nat.zero_add _) h;obtain⟨j1,j2⟩:=i1.units hk;rw[jH];generalize iP m m.cons.length 0 p false=r at i1 i2 i3 i4 j1 j2⊢
 refine⟨j1,λe=> ?_,λe=> ?_⟩
 ·by_cases hx:sD m false l r.1.2=r.1.2
  ·have e:r.2=true:=by simpa[hx]using e
   show wH (sD m false l r.1.2)<_
   rw[hx];rcases i3 e with e|e
   ·cases e
   ·exact e
  ·exact Nat.lt_of_lt_of_le (j2.size_lt hx) i2
 ·by_cases hx:sD m false l r.1.2=r.1.2
  ·have e:r.2=false:=by simpa[hx]using e
   obtain⟨_,b,g⟩:=i4 e;show Ix _ (sD m false l r.1.2)
   rw[hx,b];rw[b]at hx
   rcases g with g|g
   ·rw[hf]at g;cases g
   intro op ho;rcases jC.1 ho with⟨_,c,hc,rfl⟩|⟨c,hc,rfl⟩
   ·obtain⟨j,hj,rfl⟩:=List.getElem_of_mem hc
    have:=g j (Nat.zero_le _) hj
    rwa[zZ,Int.toNat_natCast,yN _ hj]at this
   ·have hr:=IL (cons:=false) hk.mc h.len
    rw[hx]at hr
    rcases hr.out with⟨_,h2⟩|h2
    ·exact h2 _ (jC.2 (.inr ⟨c,hc,rfl⟩))
    ·rw[h2,aZ (by rw[h.len];exact hk.mc.pos)]at hf;cases hf
  ·simp[hx]at e
theorem Om(hk:vP m l d):∀(k:Nat) (p:FK),Tr m l d p.1 p.2→wH p.2≤k→Tr m l d (TC m l (k+1) p).1 (TC m l (k+1) p).2∧(zY (TC m l (k+1) p).2=true∨Ix (sF m true l) (TC m l (k+1) p).2)
 |k,p,h,hs=>by
  cases hf:zY p.2
  ·obtain⟨h1,h2,h3⟩:=PJ h hk hf
   rw[TC,if_neg (by rw[hf];decide)]
   have hp:=KE (by rw[h.len];exact hk.mc.pos) hf
   cases e:(jH m l p).2
   ·rw[if_neg (by decide)];exact⟨h1,.inr (h3 e)⟩
   ·rw[if_pos rfl]
    have:=h2 e
    match k,hs with
    |0,hs=>omega
    |k+1,hs=>exact Om hk k _ h1 (by omega)
  ·rw[TC,if_pos hf];exact⟨h,.inl hf⟩
theorem zdN(hk:vP m l d)(hf:oY m l d=true):zfm m l d (I5 m l d):=by
 have hb:=Tr.begin hk;obtain⟨h1,h2⟩:=Om hk 36 ([],cU m d) hb (by have:=hb.size;simpa using this)
 exact h1.trace hk hf h2
end
end Go.Proofs.YteimklbiapnfhaaGreat
namespace Go.Proofs.YteimklbiapnfhaaGreat
open Go.RowKit
set_option linter.unusedVariables false
set_option linter.unusedSimpArgs false
variable[Lo]
abbrev hpT(m:zF)(l:List (List zC))(p:FK):List (Nat×wT):=[(1000,.cells [.sl .var m.vars,.sl .con m.cons,dI m.goal,dI m.var,.sl (.list .lit) l,dS p.2,.own 2000]),(2000,.row 72 .step p.1)]
theorem zoV{b:Bool}:zN (!b) (D.bool false=dB b) (D.bool true=dB b):=by cases b<;>rfl
theorem zjq:aD yR:=λargs w=>Tryz.call147 args w
theorem A7(s t:List (List Int)):wO zT [dS s,dS t,.clo yR none []] (dB (decide (s=t))):=
 mB.clo (pre:=[dS s,dS t]) (post:=[]) (rs:=some [.bool])<|slices_EqualFunc_api_Store_api_Store_int_int_sat s t yR [] λok=>by
  rw[sU];refine zA (λe=> ?_) λe=> ?_
  ·have e:s.length≠t.length:=by simp at e;omega
   rw[decide_eq_false λh=>e (by rw[h])]
  have e:s.length=t.length:=by simp at e;omega
  have hz:=gP s t e;refine OZ (I:=λn v=>xW s t yR [] _ n v) (s.zip t) (λx=> !decide (x.1=x.2)) ?_ (X:=D.bool false=dB (decide (s=t))) (Y:=D.bool true=dB (decide (s=t))) ?_ (λn k h hX hn=> ?_) λn hY=> ?_
  ·have:=fq (WD ok)
   rw[List.length_zip];have:s.length≤9223372036854775807:=this;omega
  ·rw[hz];exact zoV
  ·rw[List.length_zip]at h
   have h1:k<s.length:=by omega
   have h2:k<t.length:=by omega
   rw[wJ,zR h1,zP (t:=.list .int) h1,zP (t:=.list .int) h2];refine⟨zI h1,zI h2,zjq,zE (cM _ _) ?_⟩;rw[List.getElem_zip]at hX hn
   exact zA (λe=>hX e) λe=>hn e
  ·have hl:(s.zip t).length=s.length:=by rw[List.length_zip];omega
   rw[hl,wJ,zO];exact hY
theorem zdO{m:zF}{i:Int}{s x:List (List Int)}{v k:Nat}(h:k<(s.getD v []).length):(((s.getD v []).take (k+1)).filter λn=> !pP (x.getD v []) n).map (bW m i s v)=(((s.getD v []).take k).filter λn=> !pP (x.getD v []) n).map (bW m i s v)++if pP (x.getD v []) (s.getD v [])[k]=true then[]else[bW m i s v (s.getD v [])[k]]:=by
 rw[oK _ h];cases pP (x.getD v []) (s.getD v [])[k]<;>simp
theorem W5{α:Type}{a b:List α}{x:α}:(!(a++(b++[x])).isEmpty)=true:=by
 cases a<;>cases b<;>rfl
theorem Nt{m:zF}{l:List (List zC)}{d:List zC}{p:FK}(h:Tr m l d p.1 p.2)(hk:vP m l d){i:Nat}(hi:i<m.cons.length)(hf:zY p.2=false):
  cV uV [.ptr 1000 0,dI i] (hpT m l p) (dB (Xt m i p).2) (hpT m l (Xt m i p).1):=by
 obtain⟨st,s⟩:=p;have h:Tr m l d st s:=h;have hf:zY s=false:=hf;refine PE m.vars m.cons m.goal m.var l s st i λok ok2=> ?_
 have hat:=zfn hk hi;have hr:=h.filtR hk (i:=(i:Int)) (by omega)
 have hs:=jB (oT hr.chk) hr.st;have hl:=hr.len;have hsz:=h.size;have hsl:s.length≤6:=by rw[hl];exact hk.mc.right.vars
 rw[Ns];have hc:zG .con m.cons (i:Int).toNat=zZ m i:=by rw[zZ,zP hi,Int.toNat_natCast,yN _ hi]
 rw[hc];refine⟨zI hi,zE (fb (c:=zZ m i) (by rw[hl];exact hr.right) (by rw[hl];exact hs)) (zE (yK _) (zA (λe=> ?_) λe=> ?_))⟩
 ·have e:zY (yG (zZ m i) s)=true:=e
  refine kH (t:=.list .lit) (u:=.bool) (TA hr) ⟨xR (t:=.step) ?_,zE (dT _) ?_⟩
  ·show(st.length+1)*40≤_;omega
  ·rw[Xt,if_pos e];exact⟨rfl,rfl⟩
 ·have e:zY (yG (zZ m i) s)=false:=e
  have hcon:Xt m i (st,s)=((st++xK m i s (yG (zZ m i) s) s.length,yG (zZ m i) s),!(xK m i s (yG (zZ m i) s) s.length).isEmpty):=by
   rw[Xt,if_neg (by rw[e];decide)]
  rw[hcon];have hxl:(yG (zZ m i) s).length=s.length:=(hr.op.len hl).trans hl.symm;generalize yG (zZ m i) s=x at e hxl hcon⊢
  have hrow:∀k,(s.getD k []).length≤6:=λk=>Nat.le_trans (h.le.2 k).length_le (Kx hk.mc.right k)
  have hlen:∀k,(xK m i s x k).length≤k*6:=λk=>by
   induction k with
   |zero=>exact Nat.le_refl _
   |succ k ih=>
    have h1:=List.length_filter_le (λn=> !pP (x.getD k []) n) (s.getD k [])
    have h2:=hrow k;rw[bX,List.length_append,PI,List.length_map];omega
  refine up (I:=λn v (a:Bool×List xN)=>mA s i _ x n a.1 v m.vars m.cons m.goal m.var l s a.2) (a:=(false,st)) 0 s.length rfl (Nat.zero_le _) (by omega) (λk a=>a=(!(xK m i s x k).isEmpty,st++xK m i s x k)) (by show _=(!true,st++[]);rw[List.append_nil];rfl) λn k a _ hkl ha hn=> ?_
  subst ha;show mA _ _ _ _ _ (!(xK m i s x k).isEmpty) _ _ _ _ _ _ _ (st++xK m i s x k)
  rw[SM]
  by_cases hks:k<s.length
  ·have hkx:k<x.length:=by omega
   rw[zR hks];refine⟨zI hks,?_⟩;have hg:s.getD k []=s[k]:=yN _ hks;have hgx:x.getD k []=x[k]:=yN _ hkx;have hrk:=hrow k
   refine up (I:=λn v (a:Bool×List xN)=>qW s i _ x _ k n a.1 v m.vars m.cons m.goal m.var l s a.2) (a:=(!(xK m i s x k).isEmpty,st++xK m i s x k)) 0 (s.getD k []).length rfl (Nat.zero_le _) (by omega)
    (λj a=>a=(!(xK m i s x k++(((s.getD k []).take j).filter λn=> !pP (x.getD k []) n).map (bW m i s k)).isEmpty,st++(xK m i s x k++(((s.getD k []).take j).filter λn=> !pP (x.getD k []) n).map (bW m i s k)))) (by simp) λn2 j a _ hjl ha hn2=> ?_
   subst ha;show qW _ _ _ _ _ _ _ (!(xK m i s x k++_).isEmpty) _ _ _ _ _ _ _ (st++(xK m i s x k++_))
   rw[SL,zP (t:=.list .int) hks,zP (t:=.list .int) hkx,←hg,←hgx]
   by_cases hj:j<(s.getD k []).length
   ·rw[zR hj,zP (t:=.int) hj]
    refine⟨zI hj,zI hkx,zE (yS (a:=(s.getD k [])[j])) ?_⟩;have ht:=zdO (m:=m) (i:=(i:Int)) (x:=x) hj;show zN (pP (x.getD k []) (s.getD k [])[j]) _ _
    refine zA (λf=> ?_) λf=> ?_
    ·rw[if_pos f,List.append_nil]at ht
     exact hn2 hj (_,_) (by rw[ht];rfl)
    ·rw[if_neg (by rw[f];decide)]at ht
     refine kH (t:=.list .lit) (u:=.bool) (Rz hr (by omega)) ⟨xR (t:=.step) ?_,?_⟩
     ·have h1:=hlen k
      have h2:=List.length_filter_le (λn=> !pP (x.getD k []) n) ((s.getD k []).take j)
      rw[List.length_take]at h2
      rw[List.length_append,List.length_append,List.length_map];show(_+1)*40≤_
      omega
     ·refine hn2 hj (_,_) ?_
      rw[ht,W5,List.append_assoc st,List.append_assoc (xK m i s x k)];rfl
   ·have hj':j=(s.getD k []).length:=by omega
    subst hj';rw[zO,List.take_length];exact hn hks (_,_) (by rw[bX];rfl)
  ·have hk':k=s.length:=by omega
   subst hk';rw[zO];exact⟨rfl,rfl⟩
theorem Nu{m:zF}{l:List (List zC)}{d:List zC}(hk:vP m l d)(hb:wH (cU m d)≤36):
  cV uU [.ptr 1000 0] (hpT m l ([],cU m d)) (.tup []) (hpT m l (TC m l 37 ([],cU m d))):=by
 refine PD m.vars m.cons m.goal m.var l (cU m d) [] λok ok2=> ?_
 rw[Nr];have hll:=hk.len;have hcl:=hk.mc.right.cons
 suffices H:∀(k:Nat) (p:FK),Tr m l d p.1 p.2→wH p.2≤k→∀q,q=TC m l (k+1) p→vD (λd h1=>d=D.tup []∧h1=hpT m l q) (k+2) true m.vars m.cons m.goal m.var l p.2 p.1 from⟨_,H 36 _ (Tr.begin hk) hb _ rfl⟩
 intro k
 induction k using Nat.strongRecOn with
 |ind k ih=>
  intro p h hsz q hq
  have out:∀(n:Nat) (p:FK),vD (λd h1=>d=D.tup []∧h1=hpT m l p) (n+1) false m.vars m.cons m.goal m.var l p.2 p.1:=λn p=>by
   rw[Yg];exact⟨rfl,rfl⟩
  rw[Yg];refine zE (yK _) (zA (λf=> ?_) λf=> ?_)
  ·have f:zY p.2=false:=by simpa using f
   rw[TC,if_neg (by rw[f];decide)]at hq
   obtain⟨j1,j2,j3⟩:=PJ h hk f;have hpos:=KE (by rw[h.len];exact hk.mc.pos) f
   have fin:∀(r:FK×Bool),Tr m l d r.1.1 r.1.2→r=iP m m.cons.length 0 p false→
     zX sX [.agg [.sl .var m.vars,.sl .con m.cons,dI m.goal,dI m.var],dS r.1.2,dB false,.sl (.list .lit) l] (.list (.list .int)) λf23=>
      zX zT [dS f23,dS r.1.2,.clo yR none []] .bool λs24=>
       zN (!s24) (vD (λd h1=>d=D.tup []∧h1=hpT m l q) (k+1) true m.vars m.cons m.goal m.var l f23 r.1.1)
        (vD (λd h1=>d=D.tup []∧h1=hpT m l q) (k+1) r.2 m.vars m.cons m.goal m.var l f23 r.1.1):=λr hr e=>by
    have hrd:jH m l p=((r.1.1,sD m false l r.1.2),if sD m false l r.1.2=r.1.2 then r.2 else true):=by rw[jH,←e]
    refine zE (WY hk.mc (jB hk.mc.right hr.store) (by omega)) (zE (A7 _ _) ?_)
    have nxt:(jH m l p).2=true→vD (λd h1=>d=D.tup []∧h1=hpT m l q) (k+1) true m.vars m.cons m.goal m.var l (sD m false l r.1.2) r.1.1:=λe2=>by
     rw[if_pos e2]at hq
     have:=j2 e2
     match k,ih,hsz,hq with
     |0,ih,hsz,hq=>omega
     |k+1,ih,hsz,hq=>
      have:=ih k (by omega) (jH m l p).1 j1 (by omega) q hq
      rw[hrd]at this
      exact this
    refine zA (λg=> ?_) λg=> ?_
    ·have g:sD m false l r.1.2≠r.1.2:=by simpa using g
     exact nxt (by rw[hrd];exact if_neg g)
    ·have g:sD m false l r.1.2=r.1.2:=by simpa using g
     have g2:(jH m l p).2=r.2:=by rw[hrd];exact if_pos g
     cases e2:r.2
     ·rw[g2,e2,if_neg (by decide)]at hq
      have:=out k q;rw[hq,hrd]at this
      rw[hq,hrd];exact this
     ·exact nxt (g2.trans e2)
   suffices H2:∀(j i:Nat) (p2:FK) (c:Bool),i+j=m.cons.length→Tr m l d p2.1 p2.2→iP m j i p2 c=iP m m.cons.length 0 p false→nZ (λd h1=>d=D.tup []∧h1=hpT m l q) (k+1) (j+1) c (i:Int) m.vars m.cons m.goal m.var l p2.2 p2.1 from⟨_,H2 m.cons.length 0 p false (Nat.zero_add _) h rfl⟩
   intro j
   induction j with
   |zero=>
    intro i p2 c hij h2 he;have hi:i=m.cons.length:=by omega
    subst hi;rw[Yf,zO];exact fin (p2,c) h2 he
   |succ j ihj=>
    intro i p2 c hij h2 he;have hi:i<m.cons.length:=by omega
    rw[Yf,zR hi];refine zE (yK _) (zA (λg=> ?_) λg=> ?_)
    ·have g:zY p2.2=false:=by simpa using g
     rw[iP,if_neg (by rw[g];decide)]at he
     obtain⟨t1,t2,t3⟩:=I6 h2 hk hi g;refine⟨_,_,_,Nt h2 hk hi g,?_⟩;have hw:xF ((i:Int)+1)=((i+1:Nat):Int):=V7 (by omega)
     rw[hw];refine zA (λe=> ?_) λe=> ?_
     ·rw[e]at he;exact ihj (i+1) _ true (by omega) t1 he
     ·rw[e]at he;exact ihj (i+1) _ c (by omega) t1 he
    ·have g:zY p2.2=true:=by simpa using g
     rw[iP,if_pos g]at he
     exact fin (p2,c) h2 he
  ·have f:zY p.2=true:=by simpa using f
   rw[TC,if_pos f]at hq
   rw[hq];exact⟨rfl,rfl⟩
theorem CQ{m:zF}{l:List (List zC)}{d:List zC}(hk:vP m l d):wO mW [dM m,.sl (.list .lit) l,.sl .lit d] (.sl .step (I5 m l d)):=
 Fg m l d λok=>by
  rw[CL];have hb:=Tr.begin hk;have hsz:wH (cU m d)≤36:=by have:=hb.size;simpa using this
  have hr:(TC m l 37 ([],cU m d)).1.length+wH (TC m l 37 ([],cU m d)).2≤36:=(Om hk 36 ([],cU m d) hb hsz).1.size;refine zE (KB hk.mc.right d) ⟨_,_,Nu hk hsz,zE (RA (by have:=hk.dl;omega) hk.near) ⟨xR (t:=.step) ?_,rfl⟩⟩
  show(_+1)*40≤_
  omega
noncomputable def CR (m:zF)(l:List (List zC))(d:List zC):List xN:=if XC m l d=0 then(if oY m l d=true then I5 m l (fewest m l d)else[])else[]
theorem CS(m:zF)(l:List (List zC))(d:List zC):wO oq [dM m,.sl (.list .lit) l,.sl .lit d] (.tup [.sl .step (CR m l d),dB (W3 m l d),dI (XC m l d)]):=
 Fc m l d λok=>by
  rw[CJ,CR,W3];refine zE (Yh m l d) (zA (λe=> ?_) λe=> ?_)
  ·have e:=xO e
   rw[if_neg e,zc8 e]
  have e:=zU e;have hk:=W2 e;rw[if_pos e,J6 e,e];refine kH (t:=.list .lit) (u:=.bool) (aN hk.mc (by have:=hk.len;omega) (by have:=hk.dl;omega)) (zA (λf=> ?_) λf=> ?_)
  ·have f:oY m l d=false:=by simpa using f
   rw[f];rfl
  ·have f:oY m l d=true:=by simpa using f
   rw[if_pos f,f];exact zE (CQ (hk.sub SN)) (by rw[if_pos rfl])
theorem nI(a b:List zC):wO wR [.sl .lit a,.sl .lit b] (dB (decide (a=b))):=
 bG a b λok=>by
  rw[Zg];refine zA (λe=> ?_) λe=> ?_
  ·have e:a.length≠b.length:=by simp at e;omega
   rw[decide_eq_false λh=>e (by rw[h])]
  have e:a.length=b.length:=by simp at e;omega
  have hz:=gP a b e;refine OZ (I:=λn v=>rY a b _ n v) (a.zip b) (λx=> !decide (x.1=x.2)) ?_ (X:=D.bool false=dB (decide (a=b))) (Y:=D.bool true=dB (decide (a=b))) ?_ (λn k h hX hn=> ?_) λn hY=> ?_
  ·have:a.length≤9223372036854775807:=fq (WD ok)
   rw[List.length_zip];omega
  ·rw[hz];exact zoV
  ·rw[List.length_zip]at h
   have h1:k<a.length:=by omega
   have h2:k<b.length:=by omega
   rw[qL,zR h1,zP (t:=.lit) h1,zP (t:=.lit) h2];rw[List.getElem_zip]at hX hn
   exact⟨zI h1,zI h2,zA (λe=>hX e) λe=>hn e⟩
  ·have hl:(a.zip b).length=a.length:=by rw[List.length_zip];omega
   rw[hl,qL,zO];exact hY
end Go.Proofs.YteimklbiapnfhaaGreat
namespace Go.Proofs.YteimklbiapnfhaaGreat
open Go.RowKit
set_option linter.unusedVariables false
set_option linter.unusedSimpArgs false
variable[Lo]
theorem TD:oY tQ [] [⟨1,1,0⟩]=true:=by
 have h:=zmT (cons:=true) zby (s:=cU tQ [⟨1,1,0⟩]) (by kernel_rfl) 2 (by kernel_rfl)
 rw[oY,h];exact aZ (by rw[Y5];exact zby.pos)
theorem CT:oY tQ [] []=false:=by
 have h:=zbx (cons:=true) zby (s:=cU tQ []) (by kernel_rfl) 1 (r:=[[0,1],[1,2]]) (by kernel_rfl) (by kernel_rfl) (by kernel_rfl)
 exact(congrArg zY h).trans (by kernel_rfl)
theorem zhV:fewest tQ [] [⟨1,1,0⟩]=[⟨1,1,0⟩]:=by
 rw[fewest,BK];show XB _ 1 _ 0=_
 rw[XB,if_pos (by decide)]
 show(if oY tQ [] []=true then _ else _)=_
 rw[CT,if_neg (by decide)];rfl
theorem MU:XC tQ [] [⟨1,1,0⟩]=0:=by kernel_rfl
theorem zjr:wO rA [dM tQ,.sl (.list .lit) [],.sl .lit [⟨1,1,0⟩]] (.tup [.sl .lit [⟨1,2,1⟩],dB true,dI 0]):=by
 have h:=PG tQ [] [⟨1,1,0⟩]
 rwa[I2,W3,MU,if_pos rfl,if_pos TD,zhV,J6 rfl,TD]at h
theorem zfo:wO rA [dM tQ,.sl (.list .lit) [],.sl .lit []] (.tup [.sl .lit [],dB false,dI 0]):=by
 have h:=PG tQ [] []
 rwa[I2,W3,show XC tQ [] []=0 by kernel_rfl,if_pos rfl,CT,if_neg (by decide),J6 rfl]at h
theorem zjs:zfm tQ [] [⟨1,1,0⟩] (I5 tQ [] [⟨1,1,0⟩]):=zdN (W2 MU) TD
theorem zjt:wO oq [dM tQ,.sl (.list .lit) [],.sl .lit [⟨1,1,0⟩]] (.tup [.sl .step (I5 tQ [] [⟨1,1,0⟩]),dB true,dI 0]):=by
 have h:=CS tQ [] [⟨1,1,0⟩]
 rwa[CR,W3,MU,if_pos rfl,if_pos TD,zhV,J6 rfl,TD]at h
theorem zdP{t:List xN}{c:List zC}(h:0<t.length)(h2:t.length≤10000)(hc:(t.getD (t.length-1) ⟨0,0,[]⟩).clause=c):wC (xF ((t.length:Int)-1)) t.length=true∧(zG .step t ((xF ((t.length:Int)-1)).toNat)).clause=c:=by
 rcases zmU h with⟨h3,h4⟩|h3
 ·rw[h3];exact⟨h4,hc⟩
 ·omega
theorem TF:wO mE [] (dB true):=
 Um λok=>by
  rw[U8];have ht:=zjs;obtain⟨q1,q2⟩:=zdP ht.len.1 (by have:=ht.len;omega) ht.last
  refine zE (t:=.mdl) xS (Lm (t:=.list .lit) (u:=.bool) (v:=.int) zjr (zE (t:=.mdl) xS (Lm (t:=.list .lit) (u:=.bool) (v:=.int) zfo (zE (t:=.mdl) xS (Lm (t:=.list .step) (u:=.bool) (v:=.int) zjt ?_)))));refine dt rfl (dt rfl (dt rfl (bt rfl (bnt rfl (bt rfl (zE (nI _ _) (dt rfl (dt (by have:=ht.len;omega) ⟨q1,zE (nI _ _) ?_⟩))))))))
  rw[q2];rfl
end Go.Proofs.YteimklbiapnfhaaGreat
namespace Go.Proofs.YteimklbiapnfhaaGreat
open Go.RowKit
set_option linter.unusedVariables false
set_option linter.unusedSimpArgs false
set_option maxRecDepth 100000
variable[Lo]
def BP:TE where
 zs:=[(3,(false,[dI 0])),(25,(true,[.sl .var ([]:List vF),.sl .con ([]:List zQ),dI 0,dI 0])),(27,(false,[.nil])),(45,(false,[.nil])),(62,(false,[.nil]))]
 sl:=[(22,(97,.var)),(23,(74,.con)),(26,(62,.fr (.list .int))),(27,(62,.fr (.list .int))),(28,(45,.list .lit)),(29,(67,.fr .lit)),(45,(67,.fr .lit)),(49,(72,.fr .step)),(56,(27,.fr (.list (.list .int)))),(62,(3,.fr .int)),(151,(155,.term)),(165,(29,.list .lit)),(171,(9,.str)),(198,(202,.tok))]
 fld:=[(67,[(0,1),(1,1),(2,1)]),(72,[(0,1),(1,1),(2,1)])]
 strs:=[]
 ints:=[(2,.i64),(3,.i64),(5,.u8),(6,.u8),(34,.i64),(188,.i64),(229,.u8),(230,.u8)]
 bools:=[]
 sig:=[(ol,[.fr (.list (.list .int)),.int]),(mG,[.fr (.list (.list .int)),.int]),(rK,[.fr (.list (.list .int)),.int]),(om,[.fr (.list (.list .int)),.int]),(oo,[.fr (.list (.list .int)),.int]),(iZ,[.fr (.list (.list .int)),.int]),(hD,[.fr (.list (.list .int)),.int]),(sH,[.fr (.list .lit),.bool,.int]),(rA,[.fr (.list .lit),.bool,.int]),(oq,[.fr (.list .step),.bool,.int]),(pI,[.bool]),(yI,[.bool]),(wR,[.bool]),(nS,[.bool])]
 mps:=[]
 sts:=[]
 hsig:=[(rD,{tys:=[.con,.list (.list .int),.list .int,.list .int,.list (.pr (.pr .int .int) .int)],nils:=[],datas:=[],res:=λxs _=>match xs with|[.agg y0,y1,y2,y3,.sl (.pr (.pr .int .int) .int) y4]=>some (.clo 149 none [.iptr [.iptr (y0++[y1,y2,y3,.mp (.pr .int .int) .int y4]) 0] 0],[])|_=>none}),
  (nN,{tys:=[.list .term,.list (.pr .int (.list .int)),.con],nils:=[],datas:=[],res:=λxs _=>match xs with|[y0,.sl (.pr .int (.list .int)) y1,.agg y2]=>some (.clo 152 none [.iptr [y0] 0,.iptr [.mp .int (.list .int) y1] 0,.iptr y2 0],[])|_=>none}),
  (nO,{tys:=[.list (.list .int),.con],nils:=[],datas:=[],res:=λxs _=>match xs with|[y0,.agg y1]=>some (.clo 156 none [.iptr [y0] 0,.iptr y1 0],[])|_=>none}),
  (wY,{tys:=[.list (.fr .lit)],nils:=[],datas:=[],res:=λxs ob=>match xs with|[.sl (.fr .lit) y0]=>some (.own 3000,[(3000,.row 67 (.fr .lit) y0)])|_=>none}),
  (uU,{tys:=[.list (.fr (.list .int)),.list (.fr .step)],nils:=[(0,(6,(72,.fr .step)))],datas:=[],res:=λxs ob=>match xs,ob 1000,ob 2000 with|[y0,.sl (.fr .step) y1],some (.cells o1000),some o2000=>some (.tup [],[(1000,.cells (o1000.set 5 y0)),(2000,.row 72 (.fr .step) y1)])|_,_,_=>none}),
  (wB,{tys:=[.list (.fr .int)],nils:=[],datas:=[],res:=λxs ob=>match xs with|[.sl (.fr .int) y0]=>some (.own 3000,[(3000,.row 3 (.fr .int) y0)])|_=>none}),
  (vQ,{tys:=[.list (.fr (.list .int))],nils:=[],datas:=[],res:=λxs ob=>match xs with|[.sl (.fr (.list .int)) y0]=>some (.own 3000,[(3000,.row 62 (.fr (.list .int)) y0)])|_=>none}),
  (vY,{tys:=[.bool,.list (.pr .int .int),.list (.pr .int .int)],nils:=[],datas:=[(0,0)],res:=λxs ob=>match xs,ob 1000,ob 1001,ob 1002 with|[y0,.sl (.pr .int .int) y1,.sl (.pr .int .int) y2],some o1000,some o1001,some o1002=>some (y0,[(1000,o1000),(1001,.mp .int .int y1),(1002,.mp .int .int y2)])|_,_,_,_=>none}),
  (vV,{tys:=[.list (.fr .lit)],nils:=[],datas:=[],res:=λxs ob=>match xs with|[.sl (.fr .lit) y0]=>some (.own 3000,[(3000,.row 67 (.fr .lit) y0)])|_=>none,raw:=true}),
  (uV,{tys:=[.bool,.list (.fr (.list .int)),.list (.fr .step)],nils:=[(0,(6,(72,.fr .step)))],datas:=[],res:=λxs ob=>match xs,ob 1000,ob 2000 with|[y0,y1,.sl (.fr .step) y2],some (.cells o1000),some o2000=>some (y0,[(1000,.cells (o1000.set 5 y1)),(2000,.row 72 (.fr .step) y2)])|_,_,_=>none}),
  (wI,{tys:=[.list (.fr .lit)],nils:=[],datas:=[],res:=λxs ob=>match xs with|[.sl (.fr .lit) y0]=>some (.own 3000,[(3000,.row 67 (.fr .lit) y0)])|_=>none,raw:=true})]
 vals:=[130,148,161]
 arr:=[]
 thr:=[]
 sp:=[(qE,.list .int),(uJ,.lit),(qF,.step),(pJ,.int)]
theorem zoa:BP.chk Tryz.prog=true:=by kernel_rfl
theorem zob:∀x∈BP.sig,∀args w,(callFunc x.1 args).run Tryz.prog w=.ok (.enter x.1 args) w:=by
 intro x hx args w;simp only[BP,List.mem_cons,List.not_mem_nil,or_false]at hx
 rcases hx with rfl|rfl|rfl|rfl|rfl|rfl|rfl|rfl|rfl|rfl|rfl|rfl|rfl|rfl
 ·exact Tryz.call16 args w
 ·exact Tryz.call17 args w
 ·exact Tryz.call18 args w
 ·exact Tryz.call19 args w
 ·exact Tryz.call20 args w
 ·exact Tryz.call21 args w
 ·exact Tryz.call22 args w
 ·exact Tryz.call23 args w
 ·exact Tryz.call24 args w
 ·exact Tryz.call25 args w
 ·exact Tryz.call26 args w
 ·exact Tryz.call27 args w
 ·exact Tryz.call28 args w
 ·exact Tryz.call29 args w
theorem zmW:BP.chk2 Tryz.prog=true:=by kernel_rfl
theorem zmX:∀x∈BP.hsig,aD x.1:=by
 intro x hx args w;simp only[BP,List.mem_cons,List.not_mem_nil,or_false]at hx
 rcases hx with rfl|rfl|rfl|rfl|rfl|rfl|rfl|rfl|rfl|rfl|rfl
 ·exact Tryz.call98 args w
 ·exact Tryz.call99 args w
 ·exact Tryz.call101 args w
 ·exact Tryz.call115 args w
 ·exact Tryz.call119 args w
 ·exact Tryz.call140 args w
 ·exact Tryz.call157 args w
 ·exact Tryz.call158 args w
 ·exact Tryz.call163 args w
 ·exact Tryz.call165 args w
 ·exact Tryz.call180 args w
theorem PK:vM Tryz.prog BP:=EV (by kernel_rfl) zoa zmW zob zmX
theorem zdQ:∀f t,yB f BP.sp=some t→aD f:=λf t h=>by
 refine Hp ?_ h;intro x hx args w;simp only[BP,List.mem_cons,List.not_mem_nil,or_false]at hx
 rcases hx with rfl|rfl|rfl|rfl
 ·exact Tryz.call30 args w
 ·exact Tryz.call31 args w
 ·exact Tryz.call32 args w
 ·exact Tryz.call68 args w
abbrev LS(A:xJ)(fn:Func)(path:List Nat)(cur n:Nat)(σ:St)(K:Ex→St→Prop):Prop:=zaG (RB Tryz.prog BP A (sub path (sQ fn)) cur) A (V5 A cur) n σ K
abbrev sS(A:xJ)(fn:Func)(path:List Nat)(cur:Nat)(K:Ex→St→Prop):=zpe Tryz.prog BP A (sub path (sQ fn)) cur K
abbrev iS(A:xJ)(fn:Func)(path:List Nat)(cur n:Nat)(K:Ex→St→Prop):=zkq (RB Tryz.prog BP A (sub path (sQ fn)) cur) A (V5 A cur) n K
def gG:xJ:= {own:=[],live:=[(0,([0,2],[]))],n:=12,keep:=([0,2],[])}
def nJ(a:Nat)(b:List Int)(c:Int):Prop:=LS gG Tryz.f68 [1,0,0] 0 a ⟨[(0,.sl (.fr .int) b),(2,dI c)],[]⟩ (WC 0 zkE)
theorem W6(c:Nat)(a:List Int)(b:Int):nJ (c+1) a b=
 (zN (decide (b<(a.length:Int)))
 (wC b a.length=true∧
 ∀d:List Int,d.length=a.length→
 nJ c d (xF (b+1)))
 (True)):=by kernel_rfl
theorem TG(a:List Int):fnS Tryz.prog BP gG (sQ Tryz.f68) [.sl (.fr .int) a]=
 (∃n0,nJ n0 a 0):=by kernel_rfl
theorem TH(h:∀a:List Int,M0 (.list .int) a→fnS Tryz.prog BP gG (sQ Tryz.f68) [.sl (.fr .int) a]):SpP Tryz.prog pJ .int:=zaU PK zdQ Tryz.func68 (by kernel_rfl) (by kernel_rfl) (by rw[Tryz.ntmps68];rfl) (by rw[Tryz.ntmps68];decide) h
def iH:xJ:= {own:=[],live:=[(0,([0,2],[]))],n:=14,keep:=([0,2],[])}
def oG(a:Nat)(b:List (List Int))(c:Int):Prop:=LS iH Tryz.f30 [1,0,0] 0 a ⟨[(0,.sl (.fr (.list .int)) b),(2,dI c)],[]⟩ (WC 0 zkE)
theorem Wf(c:Nat)(a:List (List Int))(b:Int):oG (c+1) a b=
 (zN (decide (b<(a.length:Int)))
 (wC b a.length=true∧
 SpP Tryz.prog pJ .int∧
 ∀d:List (List Int),d.length=a.length→
 oG c d (xF (b+1)))
 (True)):=by kernel_rfl
theorem Ux(a:List (List Int)):fnS Tryz.prog BP iH (sQ Tryz.f30) [.sl (.fr (.list .int)) a]=
 (∃n0,oG n0 a 0):=by kernel_rfl
theorem Uy(h:∀a:List (List Int),M0 (.list (.list .int)) a→fnS Tryz.prog BP iH (sQ Tryz.f30) [.sl (.fr (.list .int)) a]):SpP Tryz.prog qE (.list .int):=zaU PK zdQ Tryz.func30 (by kernel_rfl) (by kernel_rfl) (by rw[Tryz.ntmps30];rfl) (by rw[Tryz.ntmps30];decide) h
def jI:xJ:= {own:=[],live:=[(0,([0,2],[]))],n:=13,keep:=([0,2],[])}
def pG(a:Nat)(b:List zC)(c:Int):Prop:=LS jI Tryz.f31 [1,0,0] 0 a ⟨[(0,.sl (.fr .lit) b),(2,dI c)],[]⟩ (WC 0 zkE)
theorem XD(c:Nat)(a:List zC)(b:Int):pG (c+1) a b=
 (zN (decide (b<(a.length:Int)))
 (wC b a.length=true∧
 ∀d:List zC,d.length=a.length→
 pG c d (xF (b+1)))
 (True)):=by kernel_rfl
theorem Vo(a:List zC):fnS Tryz.prog BP jI (sQ Tryz.f31) [.sl (.fr .lit) a]=
 (∃n0,pG n0 a 0):=by kernel_rfl
theorem Vp(h:∀a:List zC,M0 (.list .lit) a→fnS Tryz.prog BP jI (sQ Tryz.f31) [.sl (.fr .lit) a]):SpP Tryz.prog uJ .lit:=zaU PK zdQ Tryz.func31 (by kernel_rfl) (by kernel_rfl) (by rw[Tryz.ntmps31];rfl) (by rw[Tryz.ntmps31];decide) h
def iI:xJ:= {own:=[],live:=[(0,([0,2],[]))],n:=19,keep:=([0,2],[])}
def oH(a:Nat)(b:List xN)(c:Int):Prop:=LS iI Tryz.f32 [1,0,0] 0 a ⟨[(0,.sl (.fr .step) b),(2,dI c)],[]⟩ (WC 0 zkE)
theorem Wg(d:Nat)(b:List xN)(a:Int):oH (d+1) b a=
 (zN (decide (a<(b.length:Int)))
 (wC a b.length=true∧
 SpP Tryz.prog uJ .lit∧
 ∀c:List xN,c.length=b.length→
 wC a c.length=true∧
 ∀e:List xN,e.length=c.length→
 oH d e (xF (a+1)))
 (True)):=by kernel_rfl
theorem Uz(a:List xN):fnS Tryz.prog BP iI (sQ Tryz.f32) [.sl (.fr .step) a]=
 (∃n0,oH n0 a 0):=by kernel_rfl
theorem UA(h:∀a:List xN,M0 (.list .step) a→fnS Tryz.prog BP iI (sQ Tryz.f32) [.sl (.fr .step) a]):SpP Tryz.prog qF .step:=zaU PK zdQ Tryz.func32 (by kernel_rfl) (by kernel_rfl) (by rw[Tryz.ntmps32];rfl) (by rw[Tryz.ntmps32];decide) h
def Zq:xJ:= {own:=[6,13,77,79],live:=[],n:=239}
theorem UB(m:zF)(con:Int)(s t:List (List Int))(l:List (List zC))(d:List zC)(Q:St→Prop):den Tryz.prog Ev Zq (zkP 7 (sQ Tryz.f3)) 0 (St.init [dM m,dI con,dS s,dS t,.sl (.list .lit) l,.sl .lit d]) (znV [(77,999999)] ([1,2,3,4,5,6,13,14,15,16,17,18,19],[6,13]) Q)=
 (zX mD [] .bool λh=>
 zN (!h)
 (False)
 (zX o3 [] .bool λi=>
 zN (!i)
 (False)
 (zX o4 [] .bool λj=>
 zN (!j)
 (False)
 (zX kK [] .bool λk=>
 zN (!k)
 (False)
 (zX og [] .bool λn=>
 zN (!n)
 (False)
 (zX mE [] .bool λo=>
 zN (!o)
 (False)
 (zX rS [dM m] .mdl λa=>
 zX rT [dS s] (.list (.list .int)) λb=>
 zX rT [dS t] (.list (.list .int)) λc=>
 zX pC [.sl (.list .lit) l] (.list (.list .lit)) λe=>
 zL .lit (([]:List zC).length+d.length)=true∧
 zX mF [dM m,dS s] .int λf=>
 zN (decide (f=0))
 (zX oh [dM m,.sl (.list .lit) l] .int λg=>
 zN (decide (g=0))
 (zX kL [dM m,dS s,dB true,.sl (.list .lit) l] (.list (.list .int)) λp=>
 Q ⟨[(1,dI con),(2,dS s),(3,dS t),(4,.sl (.list .lit) l),(5,.sl .lit d),(6,.ptr 6 0),(13,.ptr 13 0),(14,dS b),(15,dS c),(16,.sl (.list .lit) e),(17,.sl .lit (([]:List zC)++d)),(18,dI g),(19,dS p)],[(6,.cells (aS m [])),(13,.cells (aS a []))]⟩)
 (Q ⟨[(1,dI con),(2,dS s),(3,dS t),(4,.sl (.list .lit) l),(5,.sl .lit d),(6,.ptr 6 0),(13,.ptr 13 0),(14,dS b),(15,dS c),(16,.sl (.list .lit) e),(17,.sl .lit (([]:List zC)++d)),(18,dI g),(19,dS ([]:List (List Int)))],[(6,.cells (aS m [])),(13,.cells (aS a []))]⟩))
 (zN (decide (f=0))
 (zX kL [dM m,dS s,dB true,.sl (.list .lit) l] (.list (.list .int)) λq=>
 Q ⟨[(1,dI con),(2,dS s),(3,dS t),(4,.sl (.list .lit) l),(5,.sl .lit d),(6,.ptr 6 0),(13,.ptr 13 0),(14,dS b),(15,dS c),(16,.sl (.list .lit) e),(17,.sl .lit (([]:List zC)++d)),(18,dI f),(19,dS q)],[(6,.cells (aS m [])),(13,.cells (aS a []))]⟩)
 (Q ⟨[(1,dI con),(2,dS s),(3,dS t),(4,.sl (.list .lit) l),(5,.sl .lit d),(6,.ptr 6 0),(13,.ptr 13 0),(14,dS b),(15,dS c),(16,.sl (.list .lit) e),(17,.sl .lit (([]:List zC)++d)),(18,dI f),(19,dS ([]:List (List Int)))],[(6,.cells (aS m [])),(13,.cells (aS a []))]⟩))))))))):=by kernel_rfl
def yU:xJ:= {own:=[6,13,77,79],live:=[(0,([1,2,3,4,5,6,13,14,15,16,17,18,19,20],[6,13])),(2,([1,2,3,4,5,6,13,14,15,16,17,18,19,20,21,23,25,27,29,31,33,35,38,41,44],[6,13])),(4,([1,2,3,4,5,6,13,14,15,16,17,18,19,20,35,38,41,45,46],[6,13]))],n:=239,keep:=([1,2,3,4,5,6,13,14,15,16,17,18,19,20,35,38,41,45,46],[6,13,45])}
def rI(m:zF)(con:Int)(s t:List (List Int))(l:List (List zC))(d:List zC)(w:Int)(want:List (List Int))(a:Nat)(b:Int)(c:Nat)(e f:List zC)(g:List xN)(h:List (List (List Int)))(i:Int):Prop:=LS yU Tryz.f3 [1,1,1,1,1,1,1,0,1,0,0,1,0,0,1,1,1,1,1,1,1,1,1,1,1,1,1,0,1,0,0] 4 c ⟨[(1,dI con),(2,.sl (.od (.list .int)) s),(3,.sl (.od (.list .int)) t),(4,.sl (.od (.list .lit)) l),(5,.sl (.od .lit) d),(6,.ptr 6 0),(13,.ptr 13 0),(14,.sl (.od (.list .int)) s),(15,.sl (.od (.list .int)) t),(16,.sl (.od (.list .lit)) l),(17,.sl (.od .lit) d),(18,dI w),(19,.sl (.od (.list .int)) want),(20,dI b),(35,.sl (.fr .lit) e),(38,.sl (.fr .lit) f),(41,.sl (.fr .step) g),(45,.sl (.fr (.list (.list .int))) h),(46,dI i)],[(6,.cells [.sl (.od .var) m.vars,.sl (.od .con) m.cons,dI m.goal,dI m.var]),(13,.cells [.sl (.od .var) m.vars,.sl (.od .con) m.cons,dI m.goal,dI m.var])]⟩ (WC 4 (sS yU Tryz.f3 [1,1,1,1,1,1,1,0,1,0,0,1,0,0,1,1,1,1,1,1,1,1,1,1,1,1,1,1] 1 (WC 1 (sS yU Tryz.f3 [1,1,1,1,1,1,1,0,1,0,0,1,1] 0 (iS yU Tryz.f3 [1,1,1,1,1,1,1,0,1,0,0] 0 a (WC 0 (sS yU Tryz.f3 [1,1,1,1,1,1,1,1] 0 (ziR 12))))))))
def rJ(m:zF)(con:Int)(s t:List (List Int))(l:List (List zC))(d:List zC)(w:Int)(want:List (List Int))(a:Nat)(b:Int)(c e f g h i j:List (List Int))(k n:List zC)(o:List xN)(p:Nat)(q:Int):Prop:=LS yU Tryz.f3 [1,1,1,1,1,1,1,0,1,0,0,1,0,0,1,1,1,1,1,1,1,1,1,1,1,0,1,0,0] 2 p ⟨[(1,dI con),(2,.sl (.od (.list .int)) s),(3,.sl (.od (.list .int)) t),(4,.sl (.od (.list .lit)) l),(5,.sl (.od .lit) d),(6,.ptr 6 0),(13,.ptr 13 0),(14,.sl (.od (.list .int)) s),(15,.sl (.od (.list .int)) t),(16,.sl (.od (.list .lit)) l),(17,.sl (.od .lit) d),(18,dI w),(19,.sl (.od (.list .int)) want),(20,dI b),(21,.sl (.fr (.list .int)) c),(23,.sl (.fr (.list .int)) e),(25,.sl (.fr (.list .int)) f),(27,.sl (.fr (.list .int)) g),(29,.sl (.fr (.list .int)) h),(31,.sl (.fr (.list .int)) i),(33,.sl (.fr (.list .int)) j),(35,.sl (.fr .lit) k),(38,.sl (.fr .lit) n),(41,.sl (.fr .step) o),(44,dI q)],[(6,.cells [.sl (.od .var) m.vars,.sl (.od .con) m.cons,dI m.goal,dI m.var]),(13,.cells [.sl (.od .var) m.vars,.sl (.od .con) m.cons,dI m.goal,dI m.var])]⟩ (WC 2 (sS yU Tryz.f3 [1,1,1,1,1,1,1,0,1,0,0,1,0,0,1,1,1,1,1,1,1,1,1,1,1,1] 1 (WC 1 (sS yU Tryz.f3 [1,1,1,1,1,1,1,0,1,0,0,1,1] 0 (iS yU Tryz.f3 [1,1,1,1,1,1,1,0,1,0,0] 0 a (WC 0 (sS yU Tryz.f3 [1,1,1,1,1,1,1,1] 0 (ziR 12))))))))
def vS(m:zF)(con:Int)(s t:List (List Int))(l:List (List zC))(d:List zC)(w:Int)(want:List (List Int))(a:Nat)(b:Int):Prop:=LS yU Tryz.f3 [1,1,1,1,1,1,1,0,1,0,0] 0 a ⟨[(1,dI con),(2,.sl (.od (.list .int)) s),(3,.sl (.od (.list .int)) t),(4,.sl (.od (.list .lit)) l),(5,.sl (.od .lit) d),(6,.ptr 6 0),(13,.ptr 13 0),(14,.sl (.od (.list .int)) s),(15,.sl (.od (.list .int)) t),(16,.sl (.od (.list .lit)) l),(17,.sl (.od .lit) d),(18,dI w),(19,.sl (.od (.list .int)) want),(20,dI b)],[(6,.cells [.sl (.od .var) m.vars,.sl (.od .con) m.cons,dI m.goal,dI m.var]),(13,.cells [.sl (.od .var) m.vars,.sl (.od .con) m.cons,dI m.goal,dI m.var])]⟩ (WC 0 (sS yU Tryz.f3 [1,1,1,1,1,1,1,1] 0 (ziR 12)))
theorem Wh(m:zF)(con:Int)(s t:List (List Int))(l:List (List zC))(d:List zC)(w:Int)(want:List (List Int))(c:Nat)(e:Int)(i:Nat)(f g:List zC)(h:List xN)(a:List (List (List Int)))(b:Int):rI m con s t l d w want c e (i+1) f g h a b=
 (zN (decide (b<(a.length:Int)))
 (wC b a.length=true∧
 SpP Tryz.prog qE (.list .int)∧
 ∀j:List zC,j.length=f.length→∀k:List zC,k.length=g.length→∀n:List xN,n.length=h.length→∀o:List (List (List Int)),o.length=a.length→
 rI m con s t l d w want c e i j k n o (xF (b+1)))
 (SpP Tryz.prog uJ .lit∧
 ∀p:List zC,p.length=f.length→∀q:List zC,q.length=g.length→∀r:List xN,r.length=h.length→∀u:List (List (List Int)),u.length=a.length→
 SpP Tryz.prog uJ .lit∧
 ∀v:List zC,v.length=p.length→∀x:List zC,x.length=q.length→∀y:List xN,y.length=r.length→∀z:List (List (List Int)),z.length=u.length→
 SpP Tryz.prog qF .step∧
 ∀aa:List zC,aa.length=v.length→∀ab:List zC,ab.length=x.length→∀ac:List xN,ac.length=y.length→∀ad:List (List (List Int)),ad.length=z.length→
 vS m con s t l d w want c (xF (e+1)))):=by kernel_rfl
theorem Wi(m:zF)(con:Int)(s t:List (List Int))(l:List (List zC))(d:List zC)(w:Int)(want:List (List Int))(b:Nat)(c:Int)(e f g h i j k:List (List Int))(n o:List zC)(p:List xN)(q:Nat)(a:Int):rJ m con s t l d w want b c e f g h i j k n o p (q+1) a=
 (zN (decide (a<(l.length:Int)))
 (wC a l.length=true∧
 wC a l.length=true∧
 zX wR [.sl (.od .lit) (zG (.od (.list .lit)) l a.toNat),.sl (.od .lit) (zG (.od (.list .lit)) l a.toNat)] .bool λr=>
 zN (!r)
 (dB false=dB true)
 (rJ m con s t l d w want b c e f g h i j k n o p q (xF (a+1))))
 (∃n4,rI m con s t l d w want b c n4 n o p ([e,f,g,h,i,j,k]) 0)):=by kernel_rfl
theorem Wj(m:zF)(con:Int)(s t:List (List Int))(l:List (List zC))(d:List zC)(w:Int)(want:List (List Int))(b:Nat)(a:Int):vS m con s t l d w want (b+1) a=
 (zN (decide (a<2))
 (Lq ol [.agg [.sl (.od .var) m.vars,.sl (.od .con) m.cons,dI m.goal,dI m.var]] (.fr (.list (.list .int))) .int λe y=>
 Lq mG [.agg [.sl (.od .var) m.vars,.sl (.od .con) m.cons,dI m.goal,dI m.var],.sl (.od (.list .int)) s,.sl (.od (.list .int)) t] (.fr (.list (.list .int))) .int λf z=>
 Lq rK [.agg [.sl (.od .var) m.vars,.sl (.od .con) m.cons,dI m.goal,dI m.var],dI con,.sl (.od (.list .int)) s] (.fr (.list (.list .int))) .int λg f7=>
 Lq om [.agg [.sl (.od .var) m.vars,.sl (.od .con) m.cons,dI m.goal,dI m.var],.sl (.od (.list .int)) s,.sl (.od .lit) d] (.fr (.list (.list .int))) .int λh c9=>
 Lq oo [.agg [.sl (.od .var) m.vars,.sl (.od .con) m.cons,dI m.goal,dI m.var],.sl (.od (.list .int)) s,.sl (.od .lit) d] (.fr (.list (.list .int))) .int λi ac=>
 Lq iZ [.agg [.sl (.od .var) m.vars,.sl (.od .con) m.cons,dI m.goal,dI m.var],.sl (.od (.list .int)) s,.sl (.od (.list .lit)) l] (.fr (.list (.list .int))) .int λc j=>
 Lq hD [.agg [.sl (.od .var) m.vars,.sl (.od .con) m.cons,dI m.goal,dI m.var],.sl (.od (.list .int)) s] (.fr (.list (.list .int))) .int λk ad=>
 c3Q sH [.agg [.sl (.od .var) m.vars,.sl (.od .con) m.cons,dI m.goal,dI m.var],dI con,.sl (.od (.list .int)) s] (.fr (.list .lit)) .bool .int λn ae af=>
 c3Q rA [.agg [.sl (.od .var) m.vars,.sl (.od .con) m.cons,dI m.goal,dI m.var],.sl (.od (.list .lit)) l,.sl (.od .lit) d] (.fr (.list .lit)) .bool .int λo ag ah=>
 c3Q oq [.agg [.sl (.od .var) m.vars,.sl (.od .con) m.cons,dI m.goal,dI m.var],.sl (.od (.list .lit)) l,.sl (.od .lit) d] (.fr (.list .step)) .bool .int λp ai aj=>
 zX pI [.agg [.sl (.od .var) m.vars,.sl (.od .con) m.cons,dI m.goal,dI m.var],.agg [.sl (.od .var) m.vars,.sl (.od .con) m.cons,dI m.goal,dI m.var]] .bool λq=>
 zN (!q)
 (dB false=dB true)
 (zX yI [.sl (.od (.list .int)) s,.sl (.od (.list .int)) s] .bool λr=>
 zN (!r)
 (dB false=dB true)
 (zX yI [.sl (.od (.list .int)) t,.sl (.od (.list .int)) t] .bool λu=>
 zN (!u)
 (dB false=dB true)
 (zX wR [.sl (.od .lit) d,.sl (.od .lit) d] .bool λv=>
 zN (!v)
 (dB false=dB true)
 (zX nS [.sl (.fr (.list .int)) c,dI j,dI w,.sl (.od (.list .int)) want] .bool λx=>
 zN (!x)
 (dB false=dB true)
 (∃n2,rJ m con s t l d w want b a e f g h i c k n o p n2 0))))))
 (dB true=dB true)):=by kernel_rfl
theorem UC(m:zF)(con:Int)(s t:List (List Int))(l:List (List zC))(d:List zC)(w:Int)(want:List (List Int)):RB Tryz.prog BP yU (zcS 7 (sQ Tryz.f3)) 0 ⟨[(1,dI con),(2,.sl (.od (.list .int)) s),(3,.sl (.od (.list .int)) t),(4,.sl (.od (.list .lit)) l),(5,.sl (.od .lit) d),(6,.ptr 6 0),(13,.ptr 13 0),(14,.sl (.od (.list .int)) s),(15,.sl (.od (.list .int)) t),(16,.sl (.od (.list .lit)) l),(17,.sl (.od .lit) d),(18,dI w),(19,.sl (.od (.list .int)) want)],[(6,.cells [.sl (.od .var) m.vars,.sl (.od .con) m.cons,dI m.goal,dI m.var]),(13,.cells [.sl (.od .var) m.vars,.sl (.od .con) m.cons,dI m.goal,dI m.var])]⟩ (ziR 12)=
 (∃n0,vS m con s t l d w want n0 0):=by kernel_rfl
end Go.Proofs.YteimklbiapnfhaaGreat
namespace Go.Proofs.YteimklbiapnfhaaGreat
open Go.RowKit
set_option linter.unusedVariables false
set_option linter.unusedSimpArgs false
variable[Lo]
theorem CU(a b:List zC):wO wR [.sl .lit a,.sl .lit b] (dB (decide (a=b))):=
 bG a b λok=>by
  rw[Zg];refine zA (λe=> ?_) λe=> ?_
  ·have e:a.length≠b.length:=by simp at e;omega
   rw[decide_eq_false λh=>e (by rw[h])]
  have e:a.length=b.length:=by simp at e;omega
  have hz:=gP a b e;refine OZ (I:=λn v=>rY a b _ n v) (a.zip b) (λx=> !decide (x.1=x.2)) ?_ (X:=D.bool false=dB (decide (a=b))) (Y:=D.bool true=dB (decide (a=b))) ?_ (λn k h hX hn=> ?_) λn hY=> ?_
  ·have:a.length≤9223372036854775807:=fq (WD ok)
   rw[List.length_zip];omega
  ·rw[hz];cases decide (a=b)<;>rfl
  ·rw[List.length_zip]at h
   have h1:k<a.length:=by omega
   have h2:k<b.length:=by omega
   rw[qL,zR h1,zP (t:=.lit) h1,zP (t:=.lit) h2];rw[List.getElem_zip]at hX hn
   exact⟨zI h1,zI h2,zA (λe=>hX e) λe=>hn e⟩
  ·have hl:(a.zip b).length=a.length:=by rw[List.length_zip];omega
   rw[hl,qL,zO];exact hY
theorem BQ(a b:List (List Int)):wO lK [dS a,dS b] (dB (decide (a=b))):=
 U1 a b λok=>by
  have hl:a.length≤9223372036854775807:=fq (t:=.list .int) (WD ok);rw[So];refine zA (λe=> ?_) λe=> ?_
  ·rw[decide_eq_false (p:=a=b) λh=>by subst h;simp at e]
  have e:a.length=b.length:=by simp at e;omega
  have hz:(a.zip b).length=a.length:=by rw[List.length_zip];omega
  refine OZ (I:=λn v=>mR a b _ n v) (a.zip b) (λx=> !decide (x.1=x.2)) (by omega) (X:=dB false=dB (decide (a=b))) (Y:=dB true=dB (decide (a=b))) (by rw[gP a b e];cases decide (a=b)<;>rfl) (λn k h hX hn=> ?_) λn hY=> ?_
  ·have hk:k<a.length:=by omega
   rw[List.getElem_zip]at hX hn
   rw[cK,zR hk,zP (t:=.list .int) hk,zP (t:=.list .int) (show k<b.length by omega)]
   exact⟨zI hk,zI (by omega),zE (pQ _ _) (zA hX hn)⟩
  ·rw[hz,cK,zO];exact hY
theorem zlC{a b:Int}(e:(!decide (a=b))=true):a≠b:=by simpa using e
theorem zdR(a b:zQ):wO jN [dC a,dC b] (dB (decide (a=b))):=
 RG a b λok=>by
  rw[QF];have no:∀ {p:Prop},¬p→(a=b→p)→dB false=dB (decide (a=b)):=λh f=>by rw[decide_eq_false λe=>h (f e)]
  refine zA (λe1=> ?_) λe1=>no (of_decide_eq_false e1) λh=>by rw[h]
  refine zE (t:=.bool) (pQ _ _) (zA (λe2=> ?_) λe2=>no (of_decide_eq_false e2) λh=>by rw[h])
  refine zE (t:=.bool) (pQ _ _) (zA (λe3=> ?_) λe3=>no (of_decide_eq_false e3) λh=>by rw[h])
  refine zA (λe4=> ?_) λe4=>no (of_decide_eq_false e4) λh=>by rw[h]
  refine zE (t:=.bool) (BQ _ _) (zA (λe5=> ?_) λe5=>no (of_decide_eq_false e5) λh=>by rw[h])
  refine zE (t:=.bool) (CU _ _) ?_;have h1:=of_decide_eq_true e1;have h2:=of_decide_eq_true e2;have h3:=of_decide_eq_true e3;have h4:=of_decide_eq_true e4;have h5:=of_decide_eq_true e5;cases a;cases b;simp only at h1 h2 h3 h4 h5
  subst h1 h2 h3 h4 h5;simp
theorem SP(a b:zF):wO pI [dM a,dM b] (dB (decide (a=b))):=
 UT a b λok=>by
  have hm:=WD ok;have hl:a.vars.length≤9223372036854775807:=za1 (t:=.var) (okA (i:=0) hm rfl);have hl2:a.cons.length≤9223372036854775807:=za1 (t:=.con) (okA (i:=1) hm rfl);rw[T5];have no:∀ {p:Prop},¬p→(a=b→p)→dB false=dB (decide (a=b)):=λh f=>by rw[decide_eq_false λe=>h (f e)]
  refine zA (λe=>no (p:=a.vars.length=b.vars.length) (by simp at e;omega) λh=>by rw[h]) λe1=> ?_
  refine zA (λe=>no (p:=a.cons.length=b.cons.length) (by simp at e;omega) λh=>by rw[h]) λe2=> ?_
  refine zA (λe=>no (p:=a.goal=b.goal) (zlC e) λh=>by rw[h]) λe3=> ?_
  refine zA (λe=>no (p:=a.var=b.var) (zlC e) λh=>by rw[h]) λe4=> ?_
  have e1:a.vars.length=b.vars.length:=by simp at e1;omega
  have e2:a.cons.length=b.cons.length:=by simp at e2;omega
  have e3:a.goal=b.goal:=by simpa using e3
  have e4:a.var=b.var:=by simpa using e4
  have hz:(a.vars.zip b.vars).length=a.vars.length:=by rw[List.length_zip];omega
  have hz2:(a.cons.zip b.cons).length=a.cons.length:=by rw[List.length_zip];omega
  refine Jz (I:=λn v=>mM a b _ n v) (a.vars.zip b.vars) (λx=> !decide (x.1=x.2)) (by omega) (X:=dB false=dB (decide (a=b))) (λh=> ?_) (λn k h hX hn=> ?_) λhv n=> ?_
  ·rw[gP _ _ e1]at h
   exact no (p:=a.vars=b.vars) (by simpa using h) λh=>by rw[h]
  ·have hk:k<a.vars.length:=by omega
   rw[List.getElem_zip]at hX hn
   rw[cG,zR hk,zP (t:=.var) hk,zP (t:=.var) (show k<b.vars.length by omega)]
   exact⟨zI hk,zI (by omega),zA hX hn⟩
  ·rw[gP _ _ e1]at hv
   have hv:a.vars=b.vars:=by simpa using hv
   rw[hz,cG,zO];refine Jz (I:=λn v=>mL a b _ n v) (a.cons.zip b.cons) (λx=> !decide (x.1=x.2)) (by omega) (X:=dB false=dB (decide (a=b))) (λh=> ?_) (λn k h hX hn=> ?_) λhc n=> ?_
   ·rw[gP _ _ e2]at h
    exact no (p:=a.cons=b.cons) (by simpa using h) λh=>by rw[h]
   ·have hk:k<a.cons.length:=by omega
    rw[List.getElem_zip]at hX hn
    rw[cF,zR hk,zP (t:=.con) hk,zP (t:=.con) (show k<b.cons.length by omega)]
    exact⟨zI hk,zI (by omega),zE (t:=.bool) (zdR _ _) (zA hX hn)⟩
   ·rw[gP _ _ e2]at hc
    have hc:a.cons=b.cons:=by simpa using hc
    rw[hz2,cF,zO];have:a=b:=by cases a;cases b;simp_all
    rw[decide_eq_true this]
end Go.Proofs.YteimklbiapnfhaaGreat
