/- Texts of this proof, one behind the other: nothing is handed in but what is proved here; no condition. -/
import Derived.Lib.AtoiErrMem
import Derived.Lib.ItoaNum
import Derived.Lib.Join
import Derived.Shelf.Strings.Builder1
import Derived.Lib.AppendIntMem
import Derived.Lib.ItoaLen
import Derived.Test.YtogdmcebojiojaaGreatDoorZC
namespace Go.Proofs.YtogdmcebojiojaaGreatDoor
open Go.RowKit
set_option linter.unusedVariables false
set_option linter.unusedSimpArgs false
set_option maxRecDepth 100000
theorem f8{xs:List zE}{g:FuncId}{rs:Option (List Ty)}{cap:List D}{p:zE→Bool}(he:ZF g)(hp:∀x∈xs,tU g (dC x::cap) (.bool (p x))):tU uN [.sl .con xs,.clo g rs cap] (.int .i64 (PL p xs 0)):=
 XJ.clo (pre:=[_]) (fR _ _ _ λok=>by
  rw[eS];refine E1 (t:=.con) (p:=p) (R:=λd=>d=.int .i64 (PL p xs 0)) (cM (t:=.con) (L5 ok)) rfl (λn k h h1 h2=> ?_) λn hR=> ?_
  ·rw[pS,yC h,zY h]
   exact⟨zM h,he,zH (hp _ (List.getElem_mem h)) (zA h1 h2)⟩
  ·rw[pS,zX];exact hR)
theorem YB{xs:List Int}{g:FuncId}{rs:Option (List Ty)}{cap:List D}{p:Int→Bool}(he:ZF g)(hp:∀x∈xs,tU g (dI x::cap) (.bool (p x))):tU rT [.sl .int xs,.clo g rs cap] (.int .i64 (PL p xs 0)):=
 XJ.clo (pre:=[_]) (Yz _ _ _ λok=>by
  rw[Xn];refine E1 (t:=.int) (p:=p) (R:=λd=>d=.int .i64 (PL p xs 0)) (cM (t:=.int) (L5 ok)) rfl (λn k h h1 h2=> ?_) λn hR=> ?_
  ·rw[lJ,yC h,zY h]
   exact⟨zM h,he,zH (hp _ (List.getElem_mem h)) (zA h1 h2)⟩
  ·rw[lJ,zX];exact hR)
theorem f9{xs:List zN}{g:FuncId}{rs:Option (List Ty)}{cap:List D}{p:zN→Bool}(he:ZF g)(hp:∀x∈xs,tU g (dV x::cap) (.bool (p x))):tU uP [.sl .var xs,.clo g rs cap] (.int .i64 (PL p xs 0)):=
 XJ.clo (pre:=[_]) (fS _ _ _ λok=>by
  rw[eY];refine E1 (t:=.var) (p:=p) (R:=λd=>d=.int .i64 (PL p xs 0)) (cM (t:=.var) (L5 ok)) rfl (λn k h h1 h2=> ?_) λn hR=> ?_
  ·rw[pT,yC h,zY h]
   exact⟨zM h,he,zH (hp _ (List.getElem_mem h)) (zA h1 h2)⟩
  ·rw[pT,zX];exact hR)
theorem eA{xs:List zC}{g:FuncId}{rs:Option (List Ty)}{cap:List D}{p:zC→Bool}(he:ZF g)(hp:∀x∈xs,tU g (dL x::cap) (.bool (p x))):tU uQ [.sl .lit xs,.clo g rs cap] (.int .i64 (PL p xs 0)):=
 XJ.clo (pre:=[_]) (fT _ _ _ λok=>by
  rw[eZ];refine E1 (t:=.lit) (p:=p) (R:=λd=>d=.int .i64 (PL p xs 0)) (cM (t:=.lit) (L5 ok)) rfl (λn k h h1 h2=> ?_) λn hR=> ?_
  ·rw[pU,yC h,zY h]
   exact⟨zM h,he,zH (hp _ (List.getElem_mem h)) (zA h1 h2)⟩
  ·rw[pU,zX];exact hR)
theorem Zo{xs:List (List Int)}{g:FuncId}{rs:Option (List Ty)}{cap:List D}{p:(List Int)→Bool}(he:ZF g)(hp:∀x∈xs,tU g (.sl .int x::cap) (.bool (p x))):tU sL [.sl (.list .int) xs,.clo g rs cap] (.int .i64 (PL p xs 0)):=
 XJ.clo (pre:=[_]) (Zm _ _ _ λok=>by
  rw[ZH];refine E1 (t:=(.list .int)) (p:=p) (R:=λd=>d=.int .i64 (PL p xs 0)) (cM (t:=(.list .int)) (L5 ok)) rfl (λn k h h1 h2=> ?_) λn hR=> ?_
  ·rw[nM,yC h,zY h]
   exact⟨zM h,he,zH (hp _ (List.getElem_mem h)) (zA h1 h2)⟩
  ·rw[nM,zX];exact hR)
theorem aJ{xs:List (List Int)}{g:FuncId}{rs:Option (List Ty)}{cap:List D}{p:(List Int)→Bool}(he:ZF g)(hp:∀x∈xs,tU g (.sl .int x::cap) (.bool (p x))):tU sB [.sl (.list .int) xs,.clo g rs cap] (.int .i64 (PL p xs 0)):=
 XJ.clo (pre:=[_]) (aI _ _ _ λok=>by
  rw[Zn];refine E1 (t:=(.list .int)) (p:=p) (R:=λd=>d=.int .i64 (PL p xs 0)) (cM (t:=(.list .int)) (L5 ok)) rfl (λn k h h1 h2=> ?_) λn hR=> ?_
  ·rw[oU,yC h,zY h]
   exact⟨zM h,he,zH (hp _ (List.getElem_mem h)) (zA h1 h2)⟩
  ·rw[oU,zX];exact hR)
theorem fF{xs:List zC}{g:FuncId}{rs:Option (List Ty)}{cap:List D}{p:zC→Bool}(he:ZF g)(hp:∀x∈xs,tU g (dL x::cap) (.bool (p x))):tU uJ [.sl .lit xs,.clo g rs cap] (.int .i64 (PL p xs 0)):=
 XJ.clo (pre:=[_]) (fE _ _ _ λok=>by
  rw[fU];refine E1 (t:=.lit) (p:=p) (R:=λd=>d=.int .i64 (PL p xs 0)) (cM (t:=.lit) (L5 ok)) rfl (λn k h h1 h2=> ?_) λn hR=> ?_
  ·rw[pI,yC h,zY h]
   exact⟨zM h,he,zH (hp _ (List.getElem_mem h)) (zA h1 h2)⟩
  ·rw[pI,zX];exact hR)
theorem rR{xs:List xE}{g:FuncId}{rs:Option (List Ty)}{cap:List D}{p:xE→Bool}(he:ZF g)(hp:∀x∈xs,tU g (.agg [dI x.v,dI x.times]::cap) (.bool (p x))):tU xT [.sl .term xs,.clo g rs cap] (.int .i64 (PL p xs 0)):=
 XJ.clo (pre:=[_]) (kD _ _ _ λok=>by
  rw[kO];refine E1 (t:=.term) (p:=p) (R:=λd=>d=.int .i64 (PL p xs 0)) (cM (t:=.term) (L5 ok)) rfl (λn k h h1 h2=> ?_) λn hR=> ?_
  ·rw[rE,yC h,zY h]
   exact⟨zM h,he,zH (hp _ (List.getElem_mem h)) (zA h1 h2)⟩
  ·rw[rE,zX];exact hR)
theorem W0{xs:List Int}{a:Int}:tU ou [.sl .int xs,dI a] (.int .i64 (PL (λx=>decide (a=x)) xs 0)):=
 WW _ _ λok=>by
  rw[VB];refine E1 (t:=.int) (p:=λx=>decide (a=x)) (R:=λd=>d=.int .i64 (PL (λx=>decide (a=x)) xs 0)) (cM (t:=.int) (L5 ok)) rfl (λn k h h1 h2=> ?_) λn hR=> ?_
  ·rw[gE,yC h,zY h]
   exact⟨zM h,zA h1 h2⟩
  ·rw[gE,zX];exact hR
theorem gF{xs:List zE}{g:FuncId}{rs:Option (List Ty)}{cap:List D}{p:zE→Bool}(he:ZF g)(hp:∀x∈xs,tU g (dC x::cap) (.bool (p x))):tU uB [.sl .con xs,.clo g rs cap] (.bool (xs.any p)):=
 XJ.clo (pre:=[_]) (hU _ _ _ λok=>by
  rw[fc];refine zH (f8 he hp) ?_;rw[jZ _ _ (Int.le_refl 0)])
theorem tR{xs:List Int}{g:FuncId}{rs:Option (List Ty)}{cap:List D}{p:Int→Bool}(he:ZF g)(hp:∀x∈xs,tU g (dI x::cap) (.bool (p x))):tU wO [.sl .int xs,.clo g rs cap] (.bool (xs.any p)):=
 XJ.clo (pre:=[_]) (Zk _ _ _ λok=>by
  rw[ZG];refine zH (YB he hp) ?_;rw[jZ _ _ (Int.le_refl 0)])
theorem gG{xs:List zN}{g:FuncId}{rs:Option (List Ty)}{cap:List D}{p:zN→Bool}(he:ZF g)(hp:∀x∈xs,tU g (dV x::cap) (.bool (p x))):tU uC [.sl .var xs,.clo g rs cap] (.bool (xs.any p)):=
 XJ.clo (pre:=[_]) (hZ _ _ _ λok=>by
  rw[fe];refine zH (f9 he hp) ?_;rw[jZ _ _ (Int.le_refl 0)])
theorem pJ{xs:List zC}{g:FuncId}{rs:Option (List Ty)}{cap:List D}{p:zC→Bool}(he:ZF g)(hp:∀x∈xs,tU g (dL x::cap) (.bool (p x))):tU xR [.sl .lit xs,.clo g rs cap] (.bool (xs.any p)):=
 XJ.clo (pre:=[_]) (gA _ _ _ λok=>by
  rw[ff];refine zH (eA he hp) ?_;rw[jZ _ _ (Int.le_refl 0)])
theorem rI{xs:List (List Int)}{g:FuncId}{rs:Option (List Ty)}{cap:List D}{p:(List Int)→Bool}(he:ZF g)(hp:∀x∈xs,tU g (.sl .int x::cap) (.bool (p x))):tU yF [.sl (.list .int) xs,.clo g rs cap] (.bool (xs.any p)):=
 XJ.clo (pre:=[_]) (cC _ _ _ λok=>by
  rw[cT];refine zH (Zo he hp) ?_;rw[jZ _ _ (Int.le_refl 0)])
theorem dA{xs:List (List Int)}{g:FuncId}{rs:Option (List Ty)}{cap:List D}{p:(List Int)→Bool}(he:ZF g)(hp:∀x∈xs,tU g (.sl .int x::cap) (.bool (p x))):tU tB [.sl (.list .int) xs,.clo g rs cap] (.bool (xs.any p)):=
 XJ.clo (pre:=[_]) (eW _ _ _ λok=>by
  rw[cD];refine zH (aJ he hp) ?_;rw[jZ _ _ (Int.le_refl 0)])
theorem qY{xs:List zC}{g:FuncId}{rs:Option (List Ty)}{cap:List D}{p:zC→Bool}(he:ZF g)(hp:∀x∈xs,tU g (dL x::cap) (.bool (p x))):tU wS [.sl .lit xs,.clo g rs cap] (.bool (xs.any p)):=
 XJ.clo (pre:=[_]) (iG _ _ _ λok=>by
  rw[gC];refine zH (fF he hp) ?_;rw[jZ _ _ (Int.le_refl 0)])
theorem tF{xs:List Int}{a:Int}:tU wU [.sl .int xs,dI a] (.bool (xs.any λx=>decide (a=x))):=
 Xo _ _ λok=>by
  rw[XL];refine zH (W0 (a:=a)) ?_;rw[jZ _ _ (Int.le_refl 0)]
theorem MR:ZF bO:=λargs w=>Tryz.call119 args w
theorem Kz:ZF Zy:=λargs w=>Tryz.call163 args w
theorem SI:ZF cQ:=λargs w=>Tryz.call164 args w
theorem SJ:ZF oq:=λargs w=>Tryz.call165 args w
theorem IJ:ZF YR:=λargs w=>Tryz.call168 args w
theorem IK:ZF YS:=λargs w=>Tryz.call170 args w
theorem KA:ZF qQ:=λargs w=>Tryz.call177 args w
theorem KB:ZF Zz:=λargs w=>Tryz.call180 args w
theorem W1:ZF ot:=λargs w=>Tryz.call191 args w
theorem MS:ZF bP:=λargs w=>Tryz.call204 args w
theorem KC:ZF oz:=λargs w=>Tryz.call224 args w
theorem Qj:ZF iE:=λargs w=>Tryz.call239 args w
theorem Se:ZF lI:=λargs w=>Tryz.call241 args w
theorem KD:ZF qR:=λargs w=>Tryz.call246 args w
theorem KE:ZF kY:=λargs w=>Tryz.call253 args w
theorem Ny:ZF eP:=λargs w=>Tryz.call254 args w
theorem KF:ZF ZC:=λargs w=>Tryz.call255 args w
theorem G2:ZF eQ:=λargs w=>Tryz.call256 args w
theorem MT:ZF xC:=λargs w=>Tryz.call282 args w
theorem PX:ZF qS:=λargs w=>Tryz.call285 args w
theorem Rj:ZF kR:=λargs w=>Tryz.call287 args w
theorem Rk:ZF kS:=λargs w=>Tryz.call288 args w
theorem PY:ZF qT:=λargs w=>Tryz.call289 args w
theorem Df:ZF VV:=λargs w=>Tryz.call293 args w
theorem Nz:ZF eR:=λargs w=>Tryz.call310 args w
end Go.Proofs.YtogdmcebojiojaaGreatDoor
namespace Go.Proofs.YtogdmcebojiojaaGreatDoor
open Go.RowKit
set_option linter.unusedVariables false
set_option linter.unusedSimpArgs false
end Go.Proofs.YtogdmcebojiojaaGreatDoor
namespace Go.Proofs.YtogdmcebojiojaaGreatDoor
open Go.RowKit
set_option linter.unusedVariables false
set_option linter.unusedSimpArgs false
theorem MU{P:Program}{f:FuncId}{s:ByteArray}{b:Bool}(h:s.size≤140737488355328→∀w,Calls P f #[.string s] w λe w'=>e=.returned (.bool b)∧Below w.heap.size w w'):XJ P f [.str s] (.bool b):=by
 intro w S vs hS hl hv _;obtain⟨e0,hz⟩:=(hv 0 _ rfl).str_inv
 have e:vs= #[.string s]:=by
  have hl:vs.size=1:=hl;apply Array.ext
  ·simpa using hl
  ·intro i h1 h2
   have:i=0:=by omega
   subst this;simpa[Array.getD_eq_getD_getElem?,h1]using e0
 subst e;exact(h hz w).mono λe w' ⟨he,hb⟩=>⟨_,he,.bool b,hb⟩
theorem OJ(s:ByteArray):tU X9 [.str s] (.bool (zD s)):=MU λ_ w=>zhq s w
theorem oV(s:ByteArray):tU nY [.str s] (.bool (zD s)):=MU λhz w=>zcR s w hz
end Go.Proofs.YtogdmcebojiojaaGreatDoor
namespace Go.Proofs.YtogdmcebojiojaaGreatDoor
open Go.RowKit
set_option linter.unusedVariables false
set_option linter.unusedSimpArgs false
theorem pK(n a b:Int):tU tO [dI n,dI a,dI b] (dB (kK n a b)):=
 Kn n a b λok=>by rw[Iz];(repeat'(refine zA (λ_=> ?_) (λ_=> ?_)))<;>simp_all[kK]<;>omega
theorem vC(n a b:Int):tU xM [dI n,dI a,dI b] (dB (kK n a b)):=
 Re n a b λok=>by rw[Qg];(repeat'(refine zA (λ_=> ?_) (λ_=> ?_)))<;>simp_all[kK]<;>omega
theorem lN(n:Int):tU rH [dI n] (dB (kK n (-1000) 1000)):=
 Rh n λok=>by rw[Qi];exact zH (vC _ _ _) rfl
theorem ZM(n:Int):tU oq [dI n] (dB (farB n)):=
 IC n λok=>by rw[GW];exact zH (pK _ _ _) rfl
theorem Qk(n:Int)(m:zG)(h:m.vars.length≤9223372036854775807):tU cQ [dI n,.iptr [.sl .var m.vars,.sl .con m.cons,.int .i64 m.goal,.int .i64 m.var] 0] (dB (rP m.vars.length n)):=
 IB n m λok=>by
  rw[GV,wL (by omega) (by omega)];exact zH (pK _ _ _) rfl
theorem G3(l:zC){g:FuncId}{cap:List D}{b:Bool}(he:ZF g)(h:tU g (dI l.var::cap) (dB b)):tU YR [dL l,.iptr [.clo g none cap] 0] (dB b):=
 XJ.iclo (pre:=[_]) (ID l g cap λok=>by rw[GY];exact⟨he,zH h rfl⟩)
theorem G4(l:List Int){g:FuncId}{cap:List D}{p:Int→Bool}(he:ZF g)(h:∀x∈l,tU g (dI x::cap) (dB (p x))):tU YS [.sl .int l,.iptr [.clo g none cap] 0] (dB (l.any p)):=
 XJ.iclo (pre:=[_]) (IE l g cap λok=>by rw[GZ];exact zH (tR he h) rfl)
theorem IL(l:List Int)(c:zE):tU oz [.sl .int l,.iptr [.int .i64 c.kind,.sl .int c.vars,.sl .int c.consts,.int .i64 c.n,.sl (.list .int) c.rows,.sl .lit c.lits] 0] (dB (!decide (l.length=c.vars.length))):=
 Ky l c λok=>by rw[II];congr 2;exact decide_eq_decide.2 (by omega)
theorem Ql(a b:Int):tU Yx [dI a,dI b] (dB (decide (b= -1)||decide (a=b))):=
 Aa a b λok=>by rw[zaK];(repeat'(refine zA (λ_=> ?_) (λ_=> ?_)))<;>simp_all
def V0(c:zE):Int×Int×Int×Int×Int:=
 if c.kind=1∨c.kind=2∨c.kind=3 then(1,4,c.vars.length,0,0)else if c.kind=4 then(1,4,0,0,0)else if c.kind=5 then(2,2,-1,0,0)
 else if c.kind=6 then(1,4,0,-1,0)else if c.kind=7 then(3,3,0,0,0)else if c.kind=8 then(2,4,0,0,0)else if c.kind=9 then(0,0,0,0,-1)else(1,1,0,0,1)
theorem zaL(c:zE):tU T4 [dC c] (XH (.pr .int (.pr .int (.pr .int (.pr .int .int)))) (V0 c)):=
 B9 c λok=>by
  rw[zaJ];unfold V0
  (repeat'(refine zA (λ_=> ?_) (λ_=> ?_)))<;>simp_all<;>rfl
def isB(a b:Int):Bool:=decide (b= -1)||decide (a=b)
def MW(c:zE):Bool:=
 kK c.vars.length (V0 c).1 (V0 c).2.1&&isB c.consts.length (V0 c).2.2.1&&isB c.rows.length (V0 c).2.2.2.1&&isB c.lits.length (V0 c).2.2.2.2&&
 !(decide (c.kind=5)&&decide ((c.consts.length:Int)=0))&& !(decide (3<c.kind)&& !decide (c.n=0))&& !(c.rows.any λr=> !decide (r.length=c.vars.length))
theorem Dg(c:zE):tU Wa [dC c] (dB (MW c)):=
 GX c λok=>by
  rw[Dc];refine zH (zaL c) (zH (pK _ _ _) (zA (λe1=> ?_) λe1=>zH (Ql _ _) (zA (λe2=> ?_) λe2=>zH (Ql _ _) (zA (λe3=> ?_) λe3=>zH (Ql _ _) (zA (λe4=> ?_) λe4=> ?_)))))
  all_goals try simp only[Bool.not_eq_eq_eq_not,Bool.not_true,Bool.not_false]at*
  ·simp only[MW,isB,e1,Bool.false_and]
  ·simp only[MW,isB,e2,Bool.false_and,Bool.and_false]
  ·simp only[MW,isB,e3,Bool.false_and,Bool.and_false]
  ·simp only[MW,isB,e4,Bool.false_and,Bool.and_false]
  have hr:tU yF [.sl (.list .int) c.rows,.clo oz none [.iptr [.int .i64 c.kind,.sl .int c.vars,.sl .int c.consts,.int .i64 c.n,.sl (.list .int) c.rows,.sl .lit c.lits] 0]] (dB (c.rows.any λr=> !decide (r.length=c.vars.length))):=rI KC λx _=>IL x c
  (repeat'(refine zA (λ_=> ?_) (λ_=> ?_)))
  all_goals first|(refine zH hr ?_;simp only[MW,isB, *,Bool.true_and,Bool.and_true,Bool.not_true,Bool.not_false,Bool.and_false,Bool.false_and];done)|(simp only[MW,isB, *,Bool.true_and,Bool.and_true,Bool.not_true,Bool.not_false,Bool.and_false,Bool.false_and];done)
theorem zhu(c:zE)(h1:1≤c.kind)(h2:c.kind≤10)(h3:c.vars.length≤4):MW c=fM c:=by
 have hk:c.kind=1∨c.kind=2∨c.kind=3∨c.kind=4∨c.kind=5∨c.kind=6∨c.kind=7∨c.kind=8∨c.kind=9∨c.kind=10:=by omega
 have ha:(c.rows.any λr=> !decide (r.length=c.vars.length))= !(c.rows.all λr=>decide (r.length=c.vars.length)):=by
  rw[List.all_eq_not_any_not,Bool.not_not]
 have hq:c.rows.length=0→(c.rows.all λr=>decide (r.length=c.vars.length))=true:=λh=>by rw[List.length_eq_zero_iff.1 h];rfl
 unfold MW fM V0;rw[ha]
 dsimp only
 revert hq;generalize(c.rows.all λr=>decide (r.length=c.vars.length))=q
 generalize c.vars.length=v at*
 generalize c.consts.length=k;generalize c.rows.length=rr;generalize c.lits.length=l;rcases hk with h|h|h|h|h|h|h|h|h|h<;>simp only[h,isB,kK]<;>rw[Bool.eq_iff_iff]<;>intro hq<;>cases q<;>simp_all<;>first|omega|(rw[Bool.eq_iff_iff];simp;omega)
theorem Ab{nv:Nat}{c:zE}(h:kK c.kind 1 10=false):Yv nv c=7:=by rw[Yv,if_pos h]
theorem zcX{nv:Nat}{c:zE}(h1:¬kK c.kind 1 10=false)(h:VS c=true):Yv nv c=2:=by rw[Yv,if_neg h1,if_pos h]
theorem zcY{nv:Nat}{c:zE}(h1:¬kK c.kind 1 10=false)(h2:¬VS c=true)(h:fM c=false):Yv nv c=1:=by rw[Yv,if_neg h1,if_neg h2,if_pos h]
theorem G5{nv:Nat}{c:zE}(h1:¬kK c.kind 1 10=false)(h2:¬VS c=true)(h3:¬fM c=false)(h:(c.vars.any (rP nv)||c.lits.any λl=>rP nv l.var)=true):Yv nv c=5:=by rw[Yv,if_neg h1,if_neg h2,if_neg h3,if_pos h]
theorem NA{nv:Nat}{c:zE}(h1:¬kK c.kind 1 10=false)(h2:¬VS c=true)(h3:¬fM c=false)(h4:¬(c.vars.any (rP nv)||c.lits.any λl=>rP nv l.var)=true)(h:(c.consts.any farB||farB c.n||c.rows.any λr=>r.any farB)=true):Yv nv c=3:=by rw[Yv,if_neg h1,if_neg h2,if_neg h3,if_neg h4,if_pos h]
theorem zcZ{nv:Nat}{c:zE}(h1:¬kK c.kind 1 10=false)(h2:¬VS c=true)(h3:¬fM c=false)(h4:¬(c.vars.any (rP nv)||c.lits.any λl=>rP nv l.var)=true)(h5:¬(c.consts.any farB||farB c.n||c.rows.any λr=>r.any farB)=true):Yv nv c=wK (λ_ l=>opE l) 0 c.lits:=by rw[Yv,if_neg h1,if_neg h2,if_neg h3,if_neg h4,if_neg h5]
theorem tE{a b:Int}(h:b=a):D.int .i64 a=dI b:=by rw[h]
theorem Ac(m:zG)(c:zE)(hm:m.vars.length≤6):tU VT [dM m,dC c] (dI (Yv m.vars.length c)):=
 Da m c λok=>by
  have hm':m.vars.length≤9223372036854775807:=by omega
  rw[B6];refine zA (λe=> ?_) λe1=>zA (λe=> ?_) λe2=> ?_
  ·exact tE (Ab (qD.2 (.inl (of_decide_eq_true e))))
  ·exact tE (Ab (qD.2 (.inr (of_decide_eq_true e))))
  simp at e1 e2
  have k1:¬kK c.kind 1 10=false:=by rw[qD];omega
  refine zA (λe=> ?_) λe3=>zA (λe=> ?_) λe4=>zA (λe=> ?_) λe5=>zA (λe=> ?_) λe6=> ?_
  iterate 4 (exact tE (zcX k1 (by simp at e;simp[VS];omega)))
  simp at e3 e4 e5 e6
  have k2:¬VS c=true:=by simp[VS];omega
  refine zH (Dg c) ?_;rw[zhu c e1 e2 (by omega)]
  refine zA (λe=> ?_) λe=> ?_
  ·exact tE (zcY k1 k2 (by simpa using e))
  have k3:¬fM c=false:=by simpa using e
  refine zH (tR (p:=rP m.vars.length) SI λx _=>Qk x m hm') (zA (λe=> ?_) λe7=> ?_)
  ·exact tE (G5 k1 k2 k3 (by rw[e];rfl))
  refine zH (pJ (p:=λl=>rP m.vars.length l.var) IJ λx _=>G3 x SI (Qk x.var m hm')) (zA (λe=> ?_) λe8=> ?_)
  ·exact tE (G5 k1 k2 k3 (by rw[e,Bool.or_true]))
  have k4:¬(c.vars.any (rP m.vars.length)||c.lits.any λl=>rP m.vars.length l.var)=true:=by rw[e7,e8];decide
  refine zH (tR (p:=farB) SJ λx _=>ZM x) (zA (λe=> ?_) λe9=> ?_)
  ·exact tE (NA k1 k2 k3 k4 (by rw[e];rfl))
  refine zH (ZM _) (zA (λe=> ?_) λe10=> ?_)
  ·exact tE (NA k1 k2 k3 k4 (by rw[e,Bool.or_true];rfl))
  refine zH (rI (p:=λr=>r.any farB) IK λx _=>G4 x SJ λn _=>ZM n) (zA (λe=> ?_) λe11=> ?_)
  ·exact tE (NA k1 k2 k3 k4 (by rw[e,Bool.or_true]))
  have k5:¬(c.consts.any farB||farB c.n||c.rows.any λr=>r.any farB)=true:=by rw[e9,e10,e11];decide
  rw[zcZ k1 k2 k3 k4 k5];refine zcV (I:=λn v=>We c _ n v) c.lits (λ_ l=>opE l) (by omega) (X:=λx=>D.int .i64 x=dI (wK (λ_ l=>opE l) 0 c.lits)) (Y:=D.int .i64 0=dI (wK (λ_ l=>opE l) 0 c.lits)) (λ_=>rfl) (λe=>tE e) (λn k h _ hX hn=> ?_) λn hY=> ?_
  ·rw[SG,yC h,zY (t:=.lit) h]
   unfold opE at hX hn
   refine⟨zM h,zA (λe=> ?_) λe1=>zA (λe=> ?_) λe2=>zH (ZM _) (zA (λe=> ?_) λe=> ?_)⟩
   ·have i:kK c.lits[k].op 1 4=false:=qD.2 (.inl (of_decide_eq_true e))
    rw[if_pos i]at hX;exact hX (by decide)
   ·have i:kK c.lits[k].op 1 4=false:=qD.2 (.inr (of_decide_eq_true e))
    rw[if_pos i]at hX;exact hX (by decide)
   ·have i:¬kK c.lits[k].op 1 4=false:=by rw[qD];simp at e1 e2;omega
    rw[if_neg i,if_pos e]at hX;exact hX (by decide)
   ·have i:¬kK c.lits[k].op 1 4=false:=by rw[qD];simp at e1 e2;omega
    rw[if_neg i,if_neg (by rw[e];decide)]at hn;exact hn rfl
  ·rw[SG,zX];exact hY
end Go.Proofs.YtogdmcebojiojaaGreatDoor
namespace Go.Proofs.YtogdmcebojiojaaGreatDoor
open Go.RowKit
set_option linter.unusedVariables false
set_option linter.unusedSimpArgs false
theorem IM(u v:zN):tU Zy [dV u,.iptr [.str v.name,.int .i64 v.lo,.int .i64 v.hi] 0] (dB (u.name.toList==v.name.toList)):=
 Ku u v λok=>by rw[IA,TP]
def MX(v:zN):Int:=if(!kK v.lo (-50) 50|| !kK v.hi (-50) 50||decide (v.hi<v.lo))=true then 3 else if 6≤v.hi-v.lo then 2 else 0
theorem zhv{a:List zN}{v:zN}(h:zD v.name=false):GI a v=1:=by rw[GI,if_pos h]
theorem zhw{a:List zN}{v:zN}(h1:¬zD v.name=false)(h:(a.any λu=>u.name.toList==v.name.toList)=true):GI a v=6:=by rw[GI,if_neg h1,if_pos h]
theorem zhx{a:List zN}{v:zN}(h1:¬zD v.name=false)(h2:¬(a.any λu=>u.name.toList==v.name.toList)=true):GI a v=MX v:=by rw[GI,if_neg h1,if_neg h2];rfl
theorem zhy{v:zN}(h:(!kK v.lo (-50) 50)=true):MX v=3:=by rw[MX,h];rfl
theorem zhz{v:zN}(h:(!kK v.hi (-50) 50)=true):MX v=3:=by rw[MX,h,Bool.or_true];rfl
theorem zhA{v:zN}(h:decide (v.hi<v.lo)=true):MX v=3:=by rw[MX,h,Bool.or_true];rfl
theorem zhB{v:zN}(h1:(!kK v.lo (-50) 50)=false)(h2:(!kK v.hi (-50) 50)=false)(h3:decide (v.hi<v.lo)=false):MX v=if 6≤v.hi-v.lo then 2 else 0:=by rw[MX,h1,h2,h3];rfl
theorem Dh(l:List zN):tU X6 [.sl .var l] (dI (UP l)):=
 GT l λok=>by
  rw[E9];refine zcV (I:=λn v=>YX l _ n v) l (λi v=>GI (l.take i) v) (cM (t:=.var) (L5 ok)) (X:=λx=>D.int .i64 x=dI (UP l)) (Y:=D.int .i64 0=dI (UP l)) (λ_=>rfl) (λe=>tE e) (λn k h _ hX hn=> ?_) λn hY=> ?_
  ·rw[UZ,yC h,zY (t:=.var) h]
   refine⟨zM h,zH (OJ _) (zA (λe=> ?_) λe=> ?_)⟩
   ·rw[zhv (by simpa using e)]at hX;exact hX (by decide)
   have k1:¬zD l[k].name=false:=by simpa using e
   refine⟨by unfold Mn;simp;omega,?_⟩
   rw[show((l.take (k:Int).toNat).drop 0)=l.take k by rw[Int.toNat_natCast,List.drop_zero]]
   refine zH (gG (p:=λu=>u.name.toList==l[k].name.toList) Kz λx _=>IM x _) (zA (λe=> ?_) λe=> ?_)
   ·rw[zhw k1 e]at hX;exact hX (by decide)
   rw[zhx k1 (by rw[e];decide)]at hX hn
   refine zH (pK _ _ _) (zA (λe=> ?_) λe1=>zH (pK _ _ _) (zA (λe=> ?_) λe2=>(zA (λe=> ?_) λe3=> ?_)))
   ·rw[zhy e]at hX;exact hX (by decide)
   ·rw[zhz e]at hX;exact hX (by decide)
   ·rw[zhA e]at hX;exact hX (by decide)
   rw[zhB e1 e2 e3]at hX hn
   simp[kK]at e1 e2
   rw[wL (by omega) (by omega)]
   refine zA (λe=> ?_) λe=> ?_
   ·rw[if_pos (of_decide_eq_true e)]at hX;exact hX (by decide)
   ·exact hn (if_neg (of_decide_eq_false e))
  ·rw[UZ,zX];exact hY
theorem zaM{m:zG}(h:m.vars.length=0):xL m=1:=by rw[xL,if_pos h]
theorem MY{m:zG}(h1:¬m.vars.length=0)(h:6<m.vars.length∨8<m.cons.length):xL m=2:=by rw[xL,if_neg h1,if_pos h]
theorem zaN{m:zG}(h1:¬m.vars.length=0)(h2:¬(6<m.vars.length∨8<m.cons.length))(h:UP m.vars≠0):xL m=UP m.vars:=by rw[xL,if_neg h1,if_neg h2,if_pos h]
theorem zaO{m:zG}(h1:¬m.vars.length=0)(h2:¬(6<m.vars.length∨8<m.cons.length))(h3:¬UP m.vars≠0)(h:wK (λ_ c=>Yv m.vars.length c) 0 m.cons≠0):xL m=wK (λ_ c=>Yv m.vars.length c) 0 m.cons:=by rw[xL,if_neg h1,if_neg h2,if_neg h3,if_pos h]
theorem zaP{m:zG}(h1:¬m.vars.length=0)(h2:¬(6<m.vars.length∨8<m.cons.length))(h3:¬UP m.vars≠0)(h:¬wK (λ_ c=>Yv m.vars.length c) 0 m.cons≠0):xL m=WR m:=by rw[xL,if_neg h1,if_neg h2,if_neg h3,if_neg h]
theorem Ad{m:zG}(h:kK m.goal 0 2=false):WR m=7:=by rw[WR,if_pos h]
theorem zex{m:zG}(h1:¬kK m.goal 0 2=false)(h:m.goal=0)(h2:m.var≠0):WR m=1:=by rw[WR,if_neg h1,if_pos ⟨h,h2⟩]
theorem zey{m:zG}(h1:¬kK m.goal 0 2=false)(h:m.goal=0)(h2:¬m.var≠0):WR m=0:=by rw[WR,if_neg h1,if_neg (λx=>h2 x.2),if_neg (λx=>x.1 h)]
theorem zez{m:zG}(h1:¬kK m.goal 0 2=false)(h:¬m.goal=0)(h2:rP m.vars.length m.var=true):WR m=5:=by rw[WR,if_neg h1,if_neg (λx=>h x.1),if_pos ⟨h,h2⟩]
theorem zeA{m:zG}(h1:¬kK m.goal 0 2=false)(h:¬m.goal=0)(h2:¬rP m.vars.length m.var=true):WR m=0:=by rw[WR,if_neg h1,if_neg (λx=>h x.1),if_neg (λx=>h2 x.2)]
theorem ZN(m:zG):tU kB [dM m] (dI (xL m)):=
 Ix m λok=>by
  rw[GQ];refine zA (λe=> ?_) λe1=>zA (λe=> ?_) λe2=>zA (λe=> ?_) λe3=> ?_
  ·exact tE (zaM (by simp at e;simp[e]))
  ·simp at e1 e;exact tE (MY (by simp[e1]) (.inl (by omega)))
  ·simp at e1 e;exact tE (MY (by simp[e1]) (.inr (by omega)))
  simp at e1 e2 e3
  have k1:¬m.vars.length=0:=by simp[e1]
  have k2:¬(6<m.vars.length∨8<m.cons.length):=by omega
  refine zH (Dh _) (zA (λe=> ?_) λe=> ?_)
  ·exact tE (zaN k1 k2 (lA e))
  have k3:¬UP m.vars≠0:=not_not_intro (oF e);refine zcV (I:=λn v=>ZI m _ n v) m.cons (λ_ c=>Yv m.vars.length c) (by omega) (X:=λx=>D.int .i64 x=dI (xL m)) (Y:=D.int .i64 (WR m)=dI (xL m)) (λh=>tE (zaO k1 k2 k3 h)) (λe=>tE (zaP k1 k2 k3 (not_not_intro e))) (λn k h _ hX hn=> ?_) λn hY=> ?_
  ·rw[VX,yC h,zY (t:=.con) h]
   exact⟨zM h,zH (Ac m _ (by omega)) (zA (λe=>hX (lA e)) λe=>hn (oF e))⟩
  ·rw[VX,zX,←hY]
   rw[wL (by omega) (by omega)]
   refine zA (λe=> ?_) λe1=>zA (λe=> ?_) λe2=> ?_
   ·rw[Ad (qD.2 (.inl (of_decide_eq_true e)))]
   ·rw[Ad (qD.2 (.inr (of_decide_eq_true e)))]
   have k4:¬kK m.goal 0 2=false:=by rw[qD];simp at e1 e2;omega
   refine zA (λe=>zA (λf=> ?_) λf=> ?_) λe=> ?_
   ·rw[zex k4 (by simpa using e) (by simpa using f)]
   ·have e':m.goal=0:=by simpa using e
    rw[e'];rw[zey k4 e' (by simpa using f)];exact rfl
   ·have e':¬m.goal=0:=by simpa using e
    rw[e];refine zH (pK _ _ _) (zA (λf=> ?_) λf=> ?_)
    ·rw[zez k4 e' f]
    ·rw[zeA k4 e' (by show¬(!kK _ _ _)=true;rw[f];decide)]
end Go.Proofs.YtogdmcebojiojaaGreatDoor
namespace Go.Proofs.YtogdmcebojiojaaGreatDoor
open Go.RowKit
set_option linter.unusedVariables false
set_option linter.unusedSimpArgs false
theorem Rl(m:zG)(l:zC)(hm:m.vars.length≤1000):tU lG [dM m,dL l] (dI (eN m.vars.length l)):=
 Sd m l λok=>by
  rw[Ri,wL (by omega) (by omega)]
  refine zH (vC _ _ _) (zA (λe=> ?_) λe1=>zH (vC _ _ _) (zA (λe=> ?_) λe2=>zH (lN _) (zA (λe=> ?_) λe3=> ?_)))
  ·exact tE (by rw[eN,if_pos (show rP m.vars.length l.var=true from e)])
  ·have h1:¬rP m.vars.length l.var=true:=by show¬(!kK _ _ _)=true;rw[e1];decide
   exact tE (by rw[eN,if_neg h1,if_pos (by simpa using e)])
  all_goals
   have h1:¬rP m.vars.length l.var=true:=by show¬(!kK _ _ _)=true;rw[e1];decide
   have h2:¬kK l.op 1 4=false:=by simpa using e2
  ·exact tE (by rw[eN,if_neg h1,if_neg h2,if_pos (show farB l.n=true from e)])
  ·exact tE (by rw[eN,if_neg h1,if_neg h2,if_neg (by show¬(!kK _ _ _)=true;rw[e3];decide)])
theorem Di(c:zE)(h:c.kind=6)(hn:c.n=0)(b:Bool)(hb:(c.rows.all λr=>decide (r.length=c.vars.length))=b):fM c=(b&&decide (1≤c.vars.length)&&decide (c.consts.length=0)&&decide (c.lits.length=0)):=by
 simp[fM,h,hn,hb]
theorem Sf(c:zE)(h1:1≤c.kind)(h2:c.kind≤10):tU mE [dC c] (dB (fM c)):=
 U7 c λok=>by
  have okr:c.rows.length≤9223372036854775807:=zht (t:=.list .int) (okA (i:=4) (L5 ok) rfl);rw[Sc];have hk:c.kind=1∨c.kind=2∨c.kind=3∨c.kind=4∨c.kind=5∨c.kind=6∨c.kind=7∨c.kind=8∨c.kind=9∨c.kind=10:=by omega
  rcases hk with h|h|h|h|h|h|h|h|h|h
  case inr.inr.inr.inr.inr.inl=>
   simp only[h,Int.reduceLT,Int.reduceEq,decide_true,decide_false,zar,Cf];refine zA (λe=> ?_) λe=> ?_
   ·simp at e;simp[fM,h,e]
   have e:c.n=0:=by simpa using e
   refine zcT (I:=λn v=>nG c _ n v) c.rows (λr=> !decide ((r.length:Int)=(c.vars.length:Int))) okr (X:=D.bool false=dB (fM c)) (Y:=zP (decide (1≤(c.vars.length:Int))) (zP (decide ((c.consts.length:Int)=0)) (D.bool (decide ((c.lits.length:Int)=0))=dB (fM c)) (D.bool false=dB (fM c))) (D.bool false=dB (fM c))) ?_ (λn k hk hX hn=> ?_) λn hY=> ?_
   ·have ha:(c.rows.all λr=>decide (r.length=c.vars.length))= !(c.rows.any λr=> !decide ((r.length:Int)=(c.vars.length:Int))):=by
     rw[List.all_eq_not_any_not];congr 2;funext r;congr 1;exact decide_eq_decide.2 (by omega)
    rw[Di c h e _ ha];refine zA (λe=> ?_) λe=> ?_
    ·rw[e];rfl
    ·rw[e];(repeat'(refine zA (λ_=> ?_) (λ_=> ?_)))<;>simp_all<;>omega
   ·rw[dU,yC hk,zY (t:=.list .int) hk]
    exact⟨zM hk,zA hX hn⟩
   ·rw[dU,zX];exact hY
  all_goals
   simp only[h,Int.reduceLT,Int.reduceEq,decide_true,decide_false,zar,Cf]
   (repeat'(refine zA (λ_=> ?_) (λ_=> ?_)))<;>simp_all[fM]<;>first|omega|(rw[Bool.eq_iff_iff];simp;omega)
theorem zeB{nv:Nat}{l:zC}(h:rP nv l.var=false):eN nv l=opE l:=by rw[eN,if_neg (by rw[h];decide)];rfl
theorem Ci{α:Type}{p:α→Bool}{l:List α}(h:l.any p=false){k:Nat}(hk:k<l.length):p l[k]=false:=by
 rw[List.any_eq_false]at h
 simpa using h _ (List.getElem_mem hk)
theorem Rm(m:zG)(c:zE)(hm:m.vars.length≤6):tU lC [dM m,dC c] (dI (Yv m.vars.length c)):=
 T9 m c λok=>by
  have hm':m.vars.length≤9223372036854775807:=by omega
  have okr:c.rows.length≤9223372036854775807:=zht (t:=.list .int) (okA (i:=4) (L5 (okR ok)) rfl);have okr2:∀k (h:k<c.rows.length),c.rows[k].length≤9223372036854775807:=λk h=>cM (t:=.int) ((YN (t:=.list .int) (okA (i:=4) (L5 (okR ok)) rfl)).2 _ (List.getElem_mem h))
  rw[Rf];refine zH (vC _ _ _) (zA (λe=> ?_) λe1=> ?_)
  ·exact tE (Ab (by simpa using e))
  have k1:¬kK c.kind 1 10=false:=by simpa using e1
  obtain⟨h1,h2⟩:1≤c.kind∧c.kind≤10:=by simpa[kK]using e1
  refine zA (λe=> ?_) λe3=>zA (λe=> ?_) λe4=>zA (λe=> ?_) λe5=>zA (λe=> ?_) λe6=> ?_
  iterate 4 (exact tE (zcX k1 (by simp at e;simp[VS];omega)))
  simp at e3 e4 e5 e6
  have k2:¬VS c=true:=by simp[VS];omega
  refine zH (Sf c h1 h2) (zA (λe=> ?_) λe=> ?_)
  ·exact tE (zcY k1 k2 (by simpa using e))
  have k3:¬fM c=false:=by simpa using e
  refine zcU (I:=λn v=>mL m c _ n v) c.vars (rP m.vars.length) (by omega) (X:=D.int .i64 5=dI (Yv m.vars.length c)) (λe=>tE (G5 k1 k2 k3 (by rw[e];rfl))) (λn k h hX hn=> ?_) λe7 n=> ?_
  ·rw[bC,yC h,zY (t:=.int) h,wL (by omega) (by omega)]
   exact⟨zM h,zH (vC _ _ _) (zA hX hn)⟩
  rw[bC,zX];refine zcU (I:=λn v=>mK m c _ n v) c.lits (λl=>rP m.vars.length l.var) (by omega) (X:=D.int .i64 5=dI (Yv m.vars.length c)) (λe=>tE (G5 k1 k2 k3 (by rw[e,Bool.or_true]))) (λn k h hX hn=> ?_) λe8 n=> ?_
  ·rw[bB,yC h,zY (t:=.lit) h,wL (by omega) (by omega)]
   exact⟨zM h,zH (vC _ _ _) (zA hX hn)⟩
  rw[bB,zX];have k4:¬(c.vars.any (rP m.vars.length)||c.lits.any λl=>rP m.vars.length l.var)=true:=by rw[e7,e8];decide
  refine zcU (I:=λn v=>mJ m c _ n v) c.consts farB (by omega) (X:=D.int .i64 3=dI (Yv m.vars.length c)) (λe=>tE (NA k1 k2 k3 k4 (by rw[e];rfl))) (λn k h hX hn=> ?_) λe9 n=> ?_
  ·rw[bA,yC h,zY (t:=.int) h]
   exact⟨zM h,zH (lN _) (zA hX hn)⟩
  rw[bA,zX];refine zH (lN _) (zA (λe=> ?_) λe10=> ?_)
  ·exact tE (NA k1 k2 k3 k4 (by rw[show farB c.n=true from e,Bool.or_true];rfl))
  refine zcU (I:=λn v=>mI m c _ n v) c.rows (λr=>r.any farB) okr (X:=D.int .i64 3=dI (Yv m.vars.length c)) (λe=>tE (NA k1 k2 k3 k4 (by rw[e,Bool.or_true]))) (λn k h hX hn=> ?_) λe11 n=> ?_
  ·rw[cZ,yC h]
   refine zcU (I:=λn2 v=>mH m c _ n k n2 v) c.rows[k] farB (okr2 k h) hX (λn2 j hj hX2 hn2=> ?_) λe n2=> ?_
   ·rw[cY,zY (t:=.list .int) h,yC hj,zY (t:=.int) hj]
    exact⟨zM h,zM h,zM hj,zH (lN _) (zA hX2 hn2)⟩
   ·rw[cY,zY (t:=.list .int) h,zX]
    exact⟨zM h,hn e⟩
  rw[cZ,zX];have k5:¬(c.consts.any farB||farB c.n||c.rows.any λr=>r.any farB)=true:=by rw[e9,e11,show farB c.n=false from e10];decide
  rw[zcZ k1 k2 k3 k4 k5];refine zcV (I:=λn v=>nE m c _ n v) c.lits (λ_ l=>opE l) (by omega) (X:=λx=>D.int .i64 x=dI (wK (λ_ l=>opE l) 0 c.lits)) (Y:=D.int .i64 0=dI (wK (λ_ l=>opE l) 0 c.lits)) (λ_=>rfl) (λe=>tE e) (λn k h _ hX hn=> ?_) λn hY=> ?_
  ·rw[dP,yC h,zY (t:=.lit) h]
   have:=Rl m c.lits[k] (by omega)
   rw[zeB (Ci e8 h)]at this
   exact⟨zM h,zH this (zA (λe=>hX (lA e)) λe=>hn (oF e))⟩
  ·rw[dP,zX];exact hY
theorem aX(m:zG):tU vO [dM m] (dI (xL m)):=
 Uo m λok=>by
  rw[U0];refine zA (λe=> ?_) λe1=>zA (λe=> ?_) λe2=>zA (λe=> ?_) λe3=> ?_
  ·exact tE (zaM (by simp at e;simp[e]))
  ·simp at e1 e;exact tE (MY (by simp[e1]) (.inl (by omega)))
  ·simp at e1 e;exact tE (MY (by simp[e1]) (.inr (by omega)))
  simp at e1 e2 e3
  have k1:¬m.vars.length=0:=by simp[e1]
  have k2:¬(6<m.vars.length∨8<m.cons.length):=by omega
  refine zkl (I:=λn v=>oL m _ n v) m.vars (λi v=>GI (m.vars.take i) v) (by omega) (X:=λx=>D.int .i64 x=dI (xL m)) (λh=>tE (zaN k1 k2 h)) (λn k h _ hX hn=> ?_) λe n=> ?_
  ·rw[fZ,yC h,zY (t:=.var) h]
   refine⟨zM h,zH (oV _) (zA (λe=> ?_) λe=> ?_)⟩
   ·rw[zhv (by simpa using e)]at hX;exact hX (by decide)
   have k3:¬zD m.vars[k].name=false:=by simpa using e
   have hl:(m.vars.take k).length=k:=by rw[List.length_take];omega
   refine zcU (I:=λn2 v=>oJ m _ n k n2 v) (m.vars.take k) (λu=>u.name.toList==m.vars[k].name.toList) (by omega) (X:=D.int .i64 6=dI (xL m)) (λe=> ?_) (λn2 j hj hX2 hn2=> ?_) λe n2=> ?_
   ·rw[zhw k3 e]at hX;exact hX (by decide)
   ·rw[hl]at hj
    rw[fX,yC hj,zY (t:=.var) h,zY (t:=.var) (show j<m.vars.length by omega),←TP]
    rw[List.getElem_take]at hX2 hn2
    exact⟨zM (by omega),zA hX2 hn2⟩
   rw[hl,fX,zX,zY (t:=.var) h];rw[zhx k3 (by rw[e];decide)]at hX hn
   refine zH (vC _ _ _) (zA (λe=> ?_) λe1=>zH (vC _ _ _) (zA (λe=> ?_) λe2=>(zA (λe=> ?_) λe3=> ?_)))
   ·rw[zhy e]at hX;exact hX (by decide)
   ·rw[zhz e]at hX;exact hX (by decide)
   ·rw[zhA e]at hX;exact hX (by decide)
   rw[zhB e1 e2 e3]at hX hn
   simp[kK]at e1 e2
   rw[wL (n:=m.vars[k].hi-m.vars[k].lo) (by omega) (by omega),wL (n:=_+1) (by omega) (by omega)]
   refine zA (λe=> ?_) λe=> ?_
   ·rw[if_pos (by have:=of_decide_eq_true e;omega)]at hX;exact hX (by decide)
   ·exact hn (if_neg (by have:=of_decide_eq_false e;omega))
  rw[fZ,zX];have k3:¬UP m.vars≠0:=not_not_intro e;refine zkl (I:=λn v=>oK m _ n v) m.cons (λ_ c=>Yv m.vars.length c) (by omega) (X:=λx=>D.int .i64 x=dI (xL m)) (λh=>tE (zaO k1 k2 k3 h)) (λn k h _ hX hn=> ?_) λe n=> ?_
  ·rw[fY,yC h,zY (t:=.con) h]
   exact⟨zM h,zH (Rm m _ (by omega)) (zA (λe=>hX (lA e)) λe=>hn (oF e))⟩
  rw[fY,zX,zaP k1 k2 k3 (not_not_intro e),wL (by omega) (by omega)]
  refine zH (vC _ _ _) (zA (λe=> ?_) λe=> ?_)
  ·rw[Ad (by simpa using e)]
  have k4:¬kK m.goal 0 2=false:=by simpa using e
  refine zA (λe=>zA (λf=> ?_) λf=> ?_) λe=> ?_
  ·rw[zex k4 (by simpa using e) (by simpa using f)]
  ·have e':m.goal=0:=by simpa using e
   rw[e'];rw[zey k4 e' (by simpa using f)];exact rfl
  ·have e':¬m.goal=0:=by simpa using e
   rw[e];refine zH (vC _ _ _) (zA (λf=> ?_) λf=> ?_)
   ·rw[zez k4 e' f]
   ·rw[zeA k4 e' (by show¬(!kK _ _ _)=true;rw[f];decide)]
end Go.Proofs.YtogdmcebojiojaaGreatDoor
namespace Go.Proofs.YtogdmcebojiojaaGreatDoor
open Go.RowKit
set_option linter.unusedVariables false
set_option linter.unusedSimpArgs false
variable {w:World}{S:Nat→Prop}{v:Value}
theorem zjf{n:Int}(h:yJ n):Rp w S (.int .i64 n) (.int .i64 n):=.int .i64 n h
theorem zjg{s:ByteArray}(h:s.size≤140737488355328):Rp w S (.string s) (.str s):=.str s h
theorem zjh{P:Program}{w:World}(h:Lib.TabIs P w "internal/strconv.uint64pow10" .u64 Lib.pow10Tab):DT P w λ_=>False:=λg hg=>⟨h,id⟩
theorem XJ.calls{P:Program}{f:FuncId}{args:List D}{b:Bool}(h:XJ P f args (.bool b))(W:World){vl:List Value}(hv:xP (Rp W λb=>b<W.heap.size) vl args)(hg:DT P W λ_=>False):
  Calls P f vl.toArray W λe W'=>e=.returned (.bool b)∧Below W.heap.size W W':=by
 have h1:=hv.len;have h2:=λi d hd=>hv.at (i:=i) (b:=d) hd
 refine(h W _ vl.toArray (λ_ h=>h) (by simpa using h1) (λi d hd=> ?_) hg).mono λe w' ⟨v,he,hr,hb⟩=> ?_
 ·obtain⟨u,hu,hr⟩:=h2 i d hd
  have:vl.toArray.getD i Go.undef=u:=by simp[Array.getD_eq_getD_getElem?,hu]
  rw[this];exact hr
 ·cases hr
  exact⟨he,hb⟩
end Go.Proofs.YtogdmcebojiojaaGreatDoor
namespace Go.Proofs.YtogdmcebojiojaaGreatDoor
open Go.RowKit
set_option maxRecDepth 100000
set_option linter.unusedVariables false
set_option linter.unusedSimpArgs false
def nH:wA:= {own:=[3,5,6,26,30],live:=[(0,([3,9,10,11],[3])),(2,([3,5,6,7,9,10,11],[3,5,6]))],n:=33}
def Y2(a:zG)(R:xO)(c:Nat)(b:Int)(d:Nat)(e:Int)(f:List (List Int))(g:List Int):Prop:=LP nH Tryz.f85 [1,1,0,1,0,0,1,1,0,0,1,1,0,1,0,0] 2 d ⟨[(3,.own 3),(5,.ptr 5 0),(6,.own 6),(7,dI e),(9,.sl .var a.vars),(10,dI (a.vars.length:Int)),(11,dI b)],[(3,.row 40 (.list .int) f),(5,.cells [.str ((yO .var a.vars b.toNat).name),dI ((yO .var a.vars b.toNat).lo),dI ((yO .var a.vars b.toNat).hi)]),(6,.row 3 .int g)]⟩ (zQ 2 (sK nH Tryz.f85 [1,1,0,1,0,0,1,1,0,0,1,1,1] 1 (zQ 1 (sK nH Tryz.f85 [1,1,0,1,0,0,1,1,1] 0 (iK nH Tryz.f85 [1,1,0,1,0,0] 0 c (zQ 0 (sK nH Tryz.f85 [1,1,1] 0 (eK Tryz.f85 R))))))))
def Y3(a:zG)(R:xO)(b:Nat)(c:Int)(d:List (List Int)):Prop:=LP nH Tryz.f85 [1,1,0,1,0,0] 0 b ⟨[(3,.own 3),(9,.sl .var a.vars),(10,dI (a.vars.length:Int)),(11,dI c)],[(3,.row 40 (.list .int) d)]⟩ (zQ 0 (sK nH Tryz.f85 [1,1,1] 0 (eK Tryz.f85 R)))
theorem KG(c:zG)(R:xO)(f:Nat)(d:Int)(g:Nat)(a:Int)(e:List (List Int))(b:List Int):Y2 c R f d (g+1) a e b=
 (zP (decide (a≤((yO .var c.vars d.toNat).hi)))
 (wN .int (b.length+([a]).length)=true∧
 Y2 c R f d g (yU (a+1)) e (b++([a])))
 (wN (.list .int) (e.length+([b]).length)=true∧
 Y3 c R f (yU (d+1)) (e++([b])))):=by kernel_rfl
theorem KH(a:zG)(R:xO)(d:Nat)(b:Int)(c:List (List Int)):Y3 a R (d+1) b c=
 (zP (decide (b<(a.vars.length:Int)))
 (vW b a.vars.length=true∧
 ∃n2,Y2 a R d b n2 ((yO .var a.vars b.toNat).lo) c ([]:List Int))
 (R (dS c))):=by kernel_rfl
theorem Dj(a:zG)(R:xO):FD nH Tryz.f85 [dM a] R=
 (∃n0,Y3 a R n0 0 ([]:List (List Int))):=by kernel_rfl
theorem G6(a:zG):wC nH Tryz.f85 lE [dM a]:=wJ Tryz.func85 (by kernel_rfl) Tryz.ntmps85 rfl
def OK:wA:= {own:=[],live:=[],n:=5}
theorem G7(a:List (List Int))(R:xO):FD OK Tryz.f137 [dS a] R=
 (xK tB [dS a,.clo bP none []] .bool λb=>
 R (dB b)):=by kernel_rfl
theorem IP(a:List (List Int)):wC OK Tryz.f137 yX [dS a]:=wJ Tryz.func137 (by kernel_rfl) Tryz.ntmps137 rfl
def nI:wA:= {own:=[5,8,31,36],live:=[(0,([1,5,11,12,13],[5])),(2,([1,5,6,8,11,12,13,18,19,20],[5,8]))],n:=39}
def bE(a:List (List Int))(c:FuncId)(d:List D)(R:xO)(e:Nat)(b:Int)(f:Nat)(g:Int)(h:List (List Int))(i:List Int):Prop:=LP nI Tryz.f139 [1,1,0,1,0,0,1,1,0,0,1,1,0,1,0,0] 2 f ⟨[(1,.clo c (some [.bool]) d),(5,.own 5),(6,dI b),(8,.own 8),(11,dS a),(12,dI (a.length:Int)),(13,dI b),(18,.sl .int (yO (.list .int) a b.toNat)),(19,dI ((yO (.list .int) a b.toNat).length:Int)),(20,dI g)],[(5,.row 40 (.list .int) h),(8,.row 3 .int i)]⟩ (zQ 2 (sK nI Tryz.f139 [1,1,0,1,0,0,1,1,0,0,1,1,1] 1 (zQ 1 (sK nI Tryz.f139 [1,1,0,1,0,0,1,1,1] 0 (iK nI Tryz.f139 [1,1,0,1,0,0] 0 e (zQ 0 (sK nI Tryz.f139 [1,1,1] 0 (eK Tryz.f139 R))))))))
def Y4(a:List (List Int))(b:FuncId)(c:List D)(R:xO)(d:Nat)(e:Int)(f:List (List Int)):Prop:=LP nI Tryz.f139 [1,1,0,1,0,0] 0 d ⟨[(1,.clo b (some [.bool]) c),(5,.own 5),(11,dS a),(12,dI (a.length:Int)),(13,dI e)],[(5,.row 40 (.list .int) f)]⟩ (zQ 0 (sK nI Tryz.f139 [1,1,1] 0 (eK Tryz.f139 R)))
theorem KI(b:List (List Int))(d:FuncId)(f:List D)(R:xO)(h:Nat)(a:Int)(i:Nat)(c:Int)(g:List (List Int))(e:List Int):bE b d f R h a (i+1) c g e=
 (zP (decide (c<((yO (.list .int) b a.toNat).length:Int)))
 (vW c (yO (.list .int) b a.toNat).length=true∧
 ZF d∧
 xK d ([dI a,dI (yO .int (yO (.list .int) b a.toNat) c.toNat)]++f) .bool λj=>
 zP j
 (wN .int (e.length+([yO .int (yO (.list .int) b a.toNat) c.toNat]).length)=true∧
 bE b d f R h a i (yU (c+1)) g (e++([yO .int (yO (.list .int) b a.toNat) c.toNat])))
 (bE b d f R h a i (yU (c+1)) g e))
 (wN (.list .int) (g.length+([e]).length)=true∧
 Y4 b d f R h (yU (a+1)) (g++([e])))):=by kernel_rfl
theorem KJ(a:List (List Int))(d:FuncId)(e:List D)(R:xO)(f:Nat)(b:Int)(c:List (List Int)):Y4 a d e R (f+1) b c=
 (zP (decide (b<(a.length:Int)))
 (vW b a.length=true∧
 ∃n2,bE a d e R f b n2 0 c ([]:List Int))
 (R (dS c))):=by kernel_rfl
theorem Dk(a:List (List Int))(b:FuncId)(c:List D)(R:xO):FD nI Tryz.f139 [dS a,.clo b (some [.bool]) c] R=
 (∃n0,Y4 a b c R n0 0 ([]:List (List Int))):=by kernel_rfl
theorem G8(a:List (List Int))(b:FuncId)(c:List D):wC nI Tryz.f139 tY [dS a,.clo b (some [.bool]) c]:=wJ Tryz.func139 (by kernel_rfl) Tryz.ntmps139 rfl
def V1:wA:= {own:=[3,16],live:=[(0,([3,6,7,8],[3]))],n:=19}
def Wg(a:List (List Int))(R:xO)(b:Nat)(c:Int)(d:List (List Int)):Prop:=LP V1 Tryz.f199 [1,1,0,1,0,0] 0 b ⟨[(3,.own 3),(6,dS a),(7,dI (a.length:Int)),(8,dI c)],[(3,.row 40 (.list .int) d)]⟩ (zQ 0 (sK V1 Tryz.f199 [1,1,1] 0 (eK Tryz.f199 R)))
theorem IQ(a:List (List Int))(R:xO)(e:Nat)(b:Int)(c:List (List Int)):Wg a R (e+1) b c=
 (zP (decide (b<(a.length:Int)))
 (vW b a.length=true∧
 ∃d:List Int,yH tS [.sl .int (yO (.list .int) a b.toNat)] [] (.own 3000) [(3000,.row 3 .int d)]∧
 wN (.list .int) (c.length+([d]).length)=true∧
 Wg a R e (yU (b+1)) (c++([d])))
 (R (dS c))):=by kernel_rfl
theorem Ae(a:List (List Int))(R:xO):FD V1 Tryz.f199 [dS a] R=
 (∃n0,Wg a R n0 0 ([]:List (List Int))):=by kernel_rfl
theorem Dl(a:List (List Int)):wC V1 Tryz.f199 jO [dS a]:=wJ Tryz.func199 (by kernel_rfl) Tryz.ntmps199 rfl
def SK:wA:= {own:=[],live:=[],n:=6}
theorem KK(a:List (List Int))(R:xO):FD SK Tryz.f201 [dS a] R=
 ((a.length:Int)=(a.length:Int)∧
 0≤(a.length:Int)∧
 wN (.list .int) ((a.length:Int).toNat)=true∧
 R (dS (List.replicate ((a.length:Int).toNat) (Ty.dflt (.list .int))))):=by kernel_rfl
theorem MZ(a:List (List Int)):wC SK Tryz.f201 uD [dS a]:=wJ Tryz.func201 (by kernel_rfl) Tryz.ntmps201 rfl
def SL:wA:= {own:=[],live:=[],n:=6}
theorem KL(a:List Int)(R:xO):FD SL Tryz.f204 [.sl .int a] R=
 (R (dB (decide ((a.length:Int)=0)))):=by kernel_rfl
theorem M0(a:List Int):wC SL Tryz.f204 bP [.sl .int a]:=wJ Tryz.func204 (by kernel_rfl) Tryz.ntmps204 rfl
def dW:wA:= {own:=[7,10],live:=[],n:=81}
theorem W2(d:ByteArray)(a:Int)(R:xO):FD dW Tryz.f6 [.str d,dI a] R=
 (c2Q hJ [.str d,dI a] .str .int λb c=>
 xK oG [] .bool λh=>
 zP (!h)
 (R (dB false))
 (xK mD [] .bool λi=>
 zP (!i)
 (R (dB false))
 (zP (decide (4000<(d.size:Int)))
 (zP (decide (c=2))
 (R (dB (decide (b=(⟨#[]⟩:ByteArray)))))
 (R (dB false)))
 (zP (decide (a<0))
 (zP (decide (c=3))
 (R (dB (decide (b=(⟨#[]⟩:ByteArray)))))
 (R (dB false)))
 (zP (decide (300<a))
 (zP (decide (c=3))
 (R (dB (decide (b=(⟨#[]⟩:ByteArray)))))
 (R (dB false)))
 (c3Q kQ [.str d] .mdl .int .int λg j k=>
 zP (!decide (k=0))
 (zP (decide (c=0))
 (xK wV [dI j] .str λe=>
 (⟨#[116,101,120,116,32]⟩:ByteArray).size+e.size≤140737488355328∧
 ((⟨#[116,101,120,116,32]⟩:ByteArray)++e).size+(⟨#[10]⟩:ByteArray).size≤140737488355328∧
 R (dB (decide (b=(((⟨#[116,101,120,116,32]⟩:ByteArray)++e)++(⟨#[10]⟩:ByteArray))))))
 (R (dB false)))
 (c2Q fN [dM g,dI a] .ans .int λf l=>
 zP (decide (l=0))
 (zP (decide (c=0))
 (xK o8 [dM g,.agg [dI f.verdict,.sl .int f.values,.sl .step f.proof]] .str λm=>
 R (dB (decide (b=m))))
 (R (dB false)))
 (R (dB false))))))))):=by kernel_rfl
theorem Wh(a:ByteArray)(b:Int):wC dW Tryz.f6 dO [.str a,dI b]:=wJ Tryz.func6 (by kernel_rfl) Tryz.ntmps6 rfl
def aY:wA:= {own:=[3],live:=[],n:=58}
theorem Uy(R:xO):FD aY Tryz.f18 [] R=
 (c2Q hJ [.str (⟨#[118,97,114,32,120,58,32,48,46,46,50,59,10,118,97,114,32,121,58,32,48,46,46,50,59,10,99,111,110,32,108,101,32,91,49,44,32,45,49,93,32,91,120,44,32,121,93,32,45,49,59,10,115,111,108,118,101,32,108,101,97,115,116,32,121,59,10]⟩:ByteArray),dI 20] .str .int λb c=>
 xK oS [] .mdl λd=>
 c2Q fN [dM d,dI 20] .ans .int λa e=>
 c2Q hM [.str (⟨#[118,97,114,32,120,58,32,48,46,46,50,59,10,118,97,114,32,121,58,32,48,46,46,50,59,10,99,111,110,32,108,101,32,91,49,44,32,45,49,93,32,91,120,44,32,121,93,32,45,49,59,10,115,111,108,118,101,32,108,101,97,115,116,32,121,59,10]⟩:ByteArray),.sl .int a.values,.sl .step a.proof] .bool .int λf g=>
 c2Q hM [.str (⟨#[118,97,114,32,120,58,32,48,46,46,50,59,10,118,97,114,32,121,58,32,48,46,46,50,59,10,99,111,110,32,108,101,32,91,49,44,32,45,49,93,32,91,120,44,32,121,93,32,45,49,59,10,115,111,108,118,101,32,108,101,97,115,116,32,121,59,10]⟩:ByteArray),.sl .int ([0,2]),.sl .step a.proof] .bool .int λh i=>
 zP (decide (c=0))
 (zP (decide (e=0))
 (zP (decide (g=0))
 (zP (decide (i=0))
 (zP (decide (b=(⟨#[98,101,115,116,10,120,32,61,32,48,10,121,32,61,32,49,10]⟩:ByteArray)))
 (zP f
 (R (dB (!h)))
 (R (dB false)))
 (R (dB false)))
 (R (dB false)))
 (R (dB false)))
 (R (dB false)))
 (R (dB false))):=by kernel_rfl
theorem VH:wC aY Tryz.f18 oG []:=wJ Tryz.func18 (by kernel_rfl) Tryz.ntmps18 rfl
def Yf:wA:= {own:=[3],live:=[],n:=45}
theorem Sg(R:xO):FD Yf Tryz.f19 [] R=
 (xK oS [] .mdl λb=>
 c2Q gQ [dM b,.sl .int ([0,2])] (.list .lit) .int λc d=>
 xK oS [] .mdl λe=>
 c2Q fN [dM e,dI 20] .ans .int λa f=>
 zP (decide (d=0))
 (zP (decide (f=0))
 (xK nA [.sl .lit c,.sl .lit ([(⟨1,1,1⟩:zC)])] .bool λg=>
 zP g
 (zP (decide (a.verdict=1))
 (xK lB [.sl .int a.values,.sl .int ([0,1])] .bool λh=>
 zP h
 (R (dB (decide (0<(a.proof.length:Int)))))
 (R (dB false)))
 (R (dB false)))
 (R (dB false)))
 (R (dB false)))
 (R (dB false))):=by kernel_rfl
theorem U8:wC Yf Tryz.f19 mD []:=wJ Tryz.func19 (by kernel_rfl) Tryz.ntmps19 rfl
def uF:wA:= {own:=[],live:=[(1,([2,3,5,6],[]))],n:=48}
def qI(a:zG)(b:O5)(R:xO)(c:Nat)(d:ByteArray)(e:Int):Prop:=LP uF Tryz.f22 [1,0,1,0,1,0,1,1,0,1,0,0] 1 c ⟨[(2,.iptr (TL a []) 0),(3,.iptr [dI b.verdict,.sl .int b.values,.sl .step b.proof] 0),(5,.str d),(6,dI e)],[]⟩ (zQ 1 (sK uF Tryz.f22 [1,0,1,0,1,0,1,1,1] 0 (zQ 0 (sK uF Tryz.f22 [1,1] 0 (eK Tryz.f22 R)))))
def rF(a:zG)(b:O5)(R:xO)(c:Nat)(d:ByteArray)(e:Int):Prop:=LP uF Tryz.f22 [1,0,1,0,1,0,1,1,0,1,0,0] 1 c ⟨[(2,.iptr (TL a []) 0),(3,.iptr [dI b.verdict,.sl .int b.values,.sl .step b.proof] 0),(5,.str d),(6,dI e)],[]⟩ (zQ 1 (sK uF Tryz.f22 [1,0,1,0,1,0,1,1,1] 0 (zQ 0 (sK uF Tryz.f22 [1,1] 0 (eK Tryz.f22 R)))))
theorem W3(b:zG)(c:O5)(R:xO)(f:Nat)(d:ByteArray)(a:Int):qI b c R (f+1) d a=
 (zP (decide (a<(c.values.length:Int)))
 (zP (decide (a<(b.vars.length:Int)))
 (vW a b.vars.length=true∧
 ((yO .var b.vars a.toNat).name).size+(⟨#[32,61,32]⟩:ByteArray).size≤140737488355328∧
 vW a c.values.length=true∧
 xK wV [dI (yO .int c.values a.toNat)] .str λe=>
 (((yO .var b.vars a.toNat).name)++(⟨#[32,61,32]⟩:ByteArray)).size+e.size≤140737488355328∧
 ((((yO .var b.vars a.toNat).name)++(⟨#[32,61,32]⟩:ByteArray))++e).size+(⟨#[10]⟩:ByteArray).size≤140737488355328∧
 d.size+(((((yO .var b.vars a.toNat).name)++(⟨#[32,61,32]⟩:ByteArray))++e)++(⟨#[10]⟩:ByteArray)).size≤140737488355328∧
 qI b c R f (d++(((((yO .var b.vars a.toNat).name)++(⟨#[32,61,32]⟩:ByteArray))++e)++(⟨#[10]⟩:ByteArray))) (yU (a+1)))
 (R (.str d)))
 (R (.str d))):=by kernel_rfl
theorem XM(b:zG)(c:O5)(R:xO)(f:Nat)(d:ByteArray)(a:Int):rF b c R (f+1) d a=
 (zP (decide (a<(c.values.length:Int)))
 (zP (decide (a<(b.vars.length:Int)))
 (vW a b.vars.length=true∧
 ((yO .var b.vars a.toNat).name).size+(⟨#[32,61,32]⟩:ByteArray).size≤140737488355328∧
 vW a c.values.length=true∧
 xK wV [dI (yO .int c.values a.toNat)] .str λe=>
 (((yO .var b.vars a.toNat).name)++(⟨#[32,61,32]⟩:ByteArray)).size+e.size≤140737488355328∧
 ((((yO .var b.vars a.toNat).name)++(⟨#[32,61,32]⟩:ByteArray))++e).size+(⟨#[10]⟩:ByteArray).size≤140737488355328∧
 d.size+(((((yO .var b.vars a.toNat).name)++(⟨#[32,61,32]⟩:ByteArray))++e)++(⟨#[10]⟩:ByteArray)).size≤140737488355328∧
 rF b c R f (d++(((((yO .var b.vars a.toNat).name)++(⟨#[32,61,32]⟩:ByteArray))++e)++(⟨#[10]⟩:ByteArray))) (yU (a+1)))
 (R (.str d)))
 (R (.str d))):=by kernel_rfl
theorem U9(b:zG)(a:O5)(R:xO):FD uF Tryz.f22 [dM b,.agg [dI a.verdict,.sl .int a.values,.sl .step a.proof]] R=
 (zP (decide (a.verdict=1))
 (zP (decide (b.goal=0))
 (∃n1,qI b a R n1 (⟨#[102,111,117,110,100,10]⟩:ByteArray) 0)
 (∃n1_2,rF b a R n1_2 (⟨#[98,101,115,116,10]⟩:ByteArray) 0))
 (zP (decide (a.verdict=2))
 (R (.str (⟨#[110,111,110,101,10]⟩:ByteArray)))
 (R (.str (⟨#[117,110,107,110,111,119,110,10]⟩:ByteArray))))):=by kernel_rfl
theorem Uz(b:zG)(a:O5):wC uF Tryz.f22 o8 [dM b,.agg [dI a.verdict,.sl .int a.values,.sl .step a.proof]]:=wJ Tryz.func22 (by kernel_rfl) Tryz.ntmps22 rfl
def SM:wA:= {own:=[0],live:=[],n:=9}
theorem Ta(R:xO):FD SM Tryz.f54 [] R=
 (R (.agg [.sl .var ([(⟨(⟨#[120]⟩:ByteArray),0,2⟩:zN),(⟨(⟨#[121]⟩:ByteArray),0,2⟩:zN)]),.sl .con ([(⟨1,[0,1],[1,-1],-1,([]:List (List Int)),([]:List zC)⟩:zE)]),dI 1,dI 1])):=by kernel_rfl
theorem V2:wC SM Tryz.f54 oS []:=wJ Tryz.func54 (by kernel_rfl) Tryz.ntmps54 rfl
def JW:wA:= {own:=[],live:=[],n:=35}
theorem Af(b:zG)(a:zC)(R:xO):FD JW Tryz.f188 [dM b,dL a] R=
 (zP (decide (a.var<0))
 (R (dI 5))
 (zP (decide ((b.vars.length:Int)≤a.var))
 (R (dI 5))
 (zP (decide (a.op<1))
 (R (dI 7))
 (zP (decide (4<a.op))
 (R (dI 7))
 (zP (decide (a.n<(-1000)))
 (R (dI 3))
 (zP (decide (1000<a.n))
 (R (dI 3))
 (R (dI 0)))))))):=by kernel_rfl
theorem Dm(a:zG)(b:zC):wC JW Tryz.f188 VU [dM a,dL b]:=wJ Tryz.func188 (by kernel_rfl) Tryz.ntmps188 rfl
def Qm:wA:= {own:=[2],live:=[],n:=33}
theorem IR(a:zC)(R:xO):FD Qm Tryz.f198 [dL a] R=
 (zP (decide (a.op=1))
 (R (.agg [dI a.var,dI 2,dI (yU (a.n+1))]))
 (zP (decide (a.op=2))
 (R (.agg [dI a.var,dI 1,dI (yU (a.n-1))]))
 (zP (decide (a.op=3))
 (R (.agg [dI a.var,dI 4,dI a.n]))
 (R (.agg [dI a.var,dI 3,dI a.n]))))):=by kernel_rfl
theorem KM(a:zC):wC Qm Tryz.f198 ZA [dL a]:=wJ Tryz.func198 (by kernel_rfl) Tryz.ntmps198 rfl
def Cj:wA:= {own:=[],live:=[],n:=8}
theorem zc0(b:List (List Int))(a:zC)(R:xO):FD Cj Tryz.f249 [dS b,dL a] R=
 (xK tY [dS b,.clo VV none [.iptr [dI a.var,dI a.op,dI a.n] 0]] (.list (.list .int)) λc=>
 R (dS c)):=by kernel_rfl
theorem zaQ(a:List (List Int))(b:zC):wC Cj Tryz.f249 Pt [dS a,dL b]:=wJ Tryz.func249 (by kernel_rfl) Tryz.ntmps249 rfl
def Sh:wA:= {own:=[],live:=[(0,([0,3,5,12,13,14],[]))],n:=35}
def Xs(b:List (List Int))(a:zC)(R:xO)(c:Nat)(d e:Int):Prop:=LP Sh Tryz.f252 [1,1,0,1,0,0] 0 c ⟨[(0,dS b),(3,.iptr [dI a.var,dI a.op,dI a.n] 0),(5,dI d),(12,.sl .int (yO (.list .int) b a.var.toNat)),(13,dI ((yO (.list .int) b a.var.toNat).length:Int)),(14,dI e)],[]⟩ (zQ 0 (sK Sh Tryz.f252 [1,1,1] 0 (eK Tryz.f252 R)))
theorem G9(b:List (List Int))(a:zC)(R:xO)(e:Nat)(d c:Int):Xs b a R (e+1) d c=
 (zP (decide (c<((yO (.list .int) b a.var.toNat).length:Int)))
 (vW c (yO (.list .int) b a.var.toNat).length=true∧
 xK jM [dL a,dI (yO .int (yO (.list .int) b a.var.toNat) c.toNat)] .bool λf=>
 zP f
 (Xs b a R e (yU (d+1)) (yU (c+1)))
 (Xs b a R e d (yU (c+1))))
 (zP (decide (d=0))
 (R (dI (-1)))
 (vW a.var b.length=true∧
 zP (decide (d=((yO (.list .int) b a.var.toNat).length:Int)))
 (R (dI 1))
 (R (dI 0))))):=by kernel_rfl
theorem zaR(a:List (List Int))(b:zC)(R:xO):FD Sh Tryz.f252 [dS a,dL b] R=
 (vW b.var a.length=true∧
 ∃n0,Xs a b R n0 0 0):=by kernel_rfl
theorem Ag(a:List (List Int))(b:zC):wC Sh Tryz.f252 T5 [dS a,dL b]:=wJ Tryz.func252 (by kernel_rfl) Tryz.ntmps252 rfl
def JX:wA:= {own:=[],live:=[],n:=15}
theorem Ah(b c:Int)(a:zC)(R:xO):FD JX Tryz.f293 [dI b,dI c,.iptr [dI a.var,dI a.op,dI a.n] 0] R=
 (zP (!decide (b=a.var))
 (R (dB true))
 (xK jM [dL a,dI c] .bool λd=>
 R (dB d))):=by kernel_rfl
theorem Dn(b c:Int)(a:zC):wC JX Tryz.f293 VV [dI b,dI c,.iptr [dI a.var,dI a.op,dI a.n] 0]:=wJ Tryz.func293 (by kernel_rfl) Tryz.ntmps293 rfl
def Ck(lo:Int):Nat→List Int
 |0=>[]
 |n+1=>Ck lo n++[lo+n]
theorem W4(lo:Int):∀n,(Ck lo n).length=n
 |0=>rfl
 |n+1=>by rw[Ck,List.length_append,W4 lo n];rfl
def Tb(v:zN):List Int:=Ck v.lo (v.hi+1-v.lo).toNat
def wT(m:zG):List (List Int):=m.vars.map Tb
def eB(l:List Int)(n:Int):Bool:=l.any λk=>decide (n=k)
def pL(f:Nat→Int→Bool)(s:List (List Int)):List (List Int):=s.mapIdx λv l=>l.filter (f v)
def zko(v:zN)(n:Int):Bool:=decide (n<v.lo)||decide (v.hi<n)
def zji(m:zG)(s:List (List Int)):Bool:=(s.zip m.vars).any λx=>x.1.any (zko x.2)
def disL(l:List Int):Bool:=(l.zip l.tail).any λx=>decide (x.2≤x.1)
def fg(m:zG)(s:List (List Int)):Int:=
 if s.length≠m.vars.length then 1 else if zji m s=true then 3 else if s.any disL=true then 4 else 0
def zT(s:List (List Int)):Bool:=s.any λl=>decide (l.length=0)
def Si(s:List (List Int)):Prop:=okL 24 (okL 8 yJ) s
theorem Pv{s:List (List Int)}(h:Si s):s.length≤5864062014805:=by have:=h.1;omega
theorem Cl{s:List (List Int)}(h:Si s){k:Nat}(hk:k<s.length):s[k].length≤17592186044416:=by have:=(h.2 _ (List.getElem_mem hk)).1;omega
theorem zaS{lo:Int}{k:Int}(h:lo≤k):Ck lo (k+1-lo).toNat=Ck lo (k-lo).toNat++[k]:=by
 obtain⟨d,rfl⟩:∃d:Nat,k=lo+d:=⟨(k-lo).toNat,by omega⟩
 rw[show(lo+(d:Int)+1-lo).toNat=d+1 by omega,show(lo+(d:Int)-lo).toNat=d by omega];rfl
theorem Do{m:zG}(hm:∀v∈m.vars,-50≤v.lo∧v.hi≤50)(hl:m.vars.length≤6):tU lE [dM m] (dS (wT m)):=
 G6 m λok=>by
  rw[Dj];refine up (I:=λn v a=>Y3 m _ n v a) 0 m.vars.length rfl (Nat.zero_le _) (by omega) (λk a=>a=(m.vars.take k).map Tb) rfl λn k a _ hk ha hn=> ?_
  subst ha;rw[KH]
  by_cases h:k<m.vars.length
  ·rw[yC h,zY (t:=.var) h]
   have hv:=hm _ (List.getElem_mem h);refine⟨zM h,?_⟩;refine upto (I:=λn v a=>Y2 m _ _ (k:Int) n v _ a) (m.vars[k]).lo (m.vars[k]).hi (by omega) (by omega) (λj a=>a=Ck (m.vars[k]).lo (j-(m.vars[k]).lo).toNat∧j≤max (m.vars[k]).lo ((m.vars[k]).hi+1)) ⟨by rw[Int.sub_self];rfl,by omega⟩ λn2 j a hj hi hn2=> ?_
   obtain⟨rfl,hjm⟩:=hi;rw[KG,zY (t:=.var) h];refine zA (λe=> ?_) λe=> ?_
   ·have e:=of_decide_eq_true e
    refine⟨xY (t:=.int) ?_,hn2 e _ ⟨(zaS hj).symm,by omega⟩⟩
    rw[W4];show(_+1)*8≤_
    omega
   ·have e:=of_decide_eq_false e
    have el:Ck (m.vars[k]).lo (j-(m.vars[k]).lo).toNat=Tb m.vars[k]:=by
     rw[Tb]
     by_cases hlh:(m.vars[k]).lo≤(m.vars[k]).hi+1
     ·rw[show j=(m.vars[k]).hi+1 by omega]
     ·rw[show j=(m.vars[k]).lo by omega,show((m.vars[k]).lo-(m.vars[k]).lo).toNat=0 by omega,show((m.vars[k]).hi+1-(m.vars[k]).lo).toNat=0 by omega]
    rw[el];refine⟨xY (t:=.list .int) ?_,hn h _ (ML Tb h).symm⟩;rw[List.length_map,List.length_take];show(_+1)*24≤_
    omega
  ·have hk':k=m.vars.length:=by omega
   subst hk';rw[zX,List.take_length];rfl
theorem bF{s:List (List Int)}{g:FuncId}{rs:Option (List Ty)}{cap:List D}{f:Nat→Int→Bool}(he:ZF g)
  (hf:∀(v:Nat) (h:v<s.length),∀n∈s[v],tU g (dI v::dI n::cap) (dB (f v n))):tU tY [dS s,.clo g rs cap] (dS (pL f s)):=
 XJ.clo (pre:=[_]) (G8 s g cap λok=>by
  have hs:Si s:=YN (L5 ok);have hsl:=Pv hs;rw[Dk];refine up (I:=λn v a=>Y4 s g cap _ n v a) 0 s.length rfl (Nat.zero_le _) (by omega) (λk a=>a=(s.take k).mapIdx λv l=>l.filter (f v)) rfl λn k a _ hk ha hn=> ?_
  subst ha;rw[KJ]
  by_cases h:k<s.length
  ·rw[yC h]
   have hr:=Cl hs h;refine⟨zM h,?_⟩;refine up (I:=λn v a=>bE s g cap _ _ (k:Int) n v _ a) 0 s[k].length rfl (Nat.zero_le _) (by omega) (λj a=>a=(s[k].take j).filter (f k)) rfl λn2 j a _ hj hi hn2=> ?_
   subst hi;rw[KI,zY (t:=.list .int) h]
   by_cases hj':j<s[k].length
   ·rw[yC hj',zY (t:=.int) hj']
    refine⟨zM hj',he,zH (hf k h _ (List.getElem_mem hj')) (zA (λe=>⟨xY (t:=.int) ?_,hn2 hj' _ ?_⟩) λe=>hn2 hj' _ ?_)⟩
    ·have:=List.length_filter_le (f k) (s[k].take j)
     rw[List.length_take]at this
     show(_+1)*8≤_
     omega
    ·rw[Xl _ hj',if_pos e]
    ·rw[Xl _ hj',if_neg (by rw[e];exact Bool.false_ne_true)]
   ·have hj2:j=s[k].length:=by omega
    subst hj2;rw[zX,List.take_length];refine⟨xY (t:=.list .int) ?_,hn h _ (zaF _ h).symm⟩;rw[List.length_mapIdx,List.length_take];show(_+1)*24≤_
    omega
  ·have hk':k=s.length:=by omega
   subst hk';rw[zX,List.take_length];rfl)
theorem aK{α:Type}{f:Nat→α→Int}{xs:List α}(h:wK f 0 xs=0){j:Nat}(hj:j<xs.length):f j xs[j]=0:=by
 have:=RU xs 0 h j hj
 rwa[Nat.zero_add]at this
structure Right (m:zG):Prop where
 vars:m.vars.length≤6
 some:m.vars.length≠0
 cons:m.cons.length≤8
 var:∀v∈m.vars,-50≤v.lo∧v.hi≤50∧v.lo≤v.hi∧v.hi-v.lo<6
 con:∀c∈m.cons,Yv m.vars.length c=0
 goal:WR m=0
theorem lO{m:zG}(h:xL m=0):Right m:=by
 unfold xL at h
 split at h
 ·exact absurd h (by decide)
 rename_i h1;split at h
 ·exact absurd h (by decide)
 rename_i h2;split at h
 ·rename_i h3;exact absurd h h3
 rename_i h3;split at h
 ·rename_i h4;exact absurd h h4
 rename_i h4;have h3:=Decidable.not_not.1 h3;have h4:=Decidable.not_not.1 h4;refine⟨by omega,h1,by omega,λv hv=> ?_,λc hc=> ?_,h⟩
 ·obtain⟨i,hi,rfl⟩:=List.getElem_of_mem hv
  have e:=aK h3 hi;unfold GI at e
  split at e
  ·exact absurd e (by decide)
  split at e
  ·exact absurd e (by decide)
  split at e
  ·exact absurd e (by decide)
  split at e
  ·exact absurd e (by decide)
  rename_i h5 h6;simp[kK]at h5
  omega
 ·obtain⟨i,hi,rfl⟩:=List.getElem_of_mem hc
  exact aK h4 hi
theorem zhC{m:zG}{s:List (List Int)}(h1:¬s.length≠m.vars.length)(h2:¬zji m s=true)(h:¬s.any disL=true):fg m s=0:=by rw[fg,if_neg h1,if_neg h2,if_neg h]
theorem Fa{m:zG}{s:List (List Int)}(h:fg m s=0):s.length=m.vars.length:=by
 unfold fg at h
 split at h
 ·exact absurd h (by decide)
 ·omega
def XN(m:zG)(ss:List (List (List Int))):Int:=if xL m≠0 then xL m else wK (λ_ s=>fg m s) 0 ss
theorem zhD{m:zG}{ss:List (List (List Int))}(h:xL m≠0):XN m ss=xL m:=if_pos h
theorem zaT{m:zG}{ss:List (List (List Int))}(h:¬xL m≠0):XN m ss=wK (λ_ s=>fg m s) 0 ss:=if_neg h
theorem Fb{α:Type}{f:Nat→α→Int}{a:α}{i:Nat}:wK f i [a]=f i a:=by
 unfold wK;split
 ·rename_i h;rw[h];rfl
 ·rfl
theorem Right.lohi{m:zG}(h:Right m):∀v∈m.vars,-50≤v.lo∧v.hi≤50:=λv hv=>by have:=h.var v hv;omega
def orS(e:Int)(s:List (List Int)):List (List Int):=if e=0 then s else[]
def orB(e:Int)(b:Bool):Bool:=if e=0 then b else false
theorem yE{α:Type}{t:List α}{k:Nat}(d:α)(h:k<t.length):t.getD k d=t[k]:=by rw[List.getD_eq_getElem?_getD,List.getElem?_eq_getElem h];rfl
theorem zlo{l:List Int}:decide ((l.length:Int)=0)=decide (l.length=0):=decide_eq_decide.2 (by omega)
theorem KN(l:List Int):tU bP [.sl .int l] (dB (decide (l.length=0))):=
 M0 l λok=>by rw[KL,zlo]
theorem vD(s:List (List Int)):tU yX [dS s] (dB (zT s)):=
 IP s λok=>by rw[G7];exact zH (dA MS λx _=>KN x) rfl
theorem Qn{α:Type}[DecidableEq α]:∀(a b:List α),a.length=b.length→((a.zip b).any λx=> !decide (x.1=x.2))= !decide (a=b)
 |[],[],_=>rfl
 |[],_::_,h=>by simp at h
 |_::_,[],h=>by simp at h
 |x::a,y::b,h=>by
  rw[List.zip_cons_cons,List.any_cons,Qn a b (by simpa using h)]
  by_cases h1:x=y<;>by_cases h2:a=b<;>simp[h1,h2]
theorem Rn(a b:List Int):tU lB [.sl .int a,.sl .int b] (dB (decide (a=b))):=
 T6 a b λok=>by
  have hl:a.length≤9223372036854775807:=cM (t:=.int) (L5 ok);rw[Ra];refine zA (λe=> ?_) λe=> ?_
  ·rw[decide_eq_false (p:=a=b) λh=>by subst h;simp at e]
  have e:a.length=b.length:=by simp at e;omega
  have hz:(a.zip b).length=a.length:=by rw[List.length_zip];omega
  refine zcT (I:=λn v=>mF a b _ n v) (a.zip b) (λx=> !decide (x.1=x.2)) (by omega) (X:=dB false=dB (decide (a=b))) (Y:=dB true=dB (decide (a=b))) (by rw[Qn a b e];cases decide (a=b)<;>rfl) (λn k h hX hn=> ?_) λn hY=> ?_
  ·have hk:k<a.length:=by omega
   rw[List.getElem_zip]at hX hn
   rw[cW,yC hk,zY (t:=.int) hk,zY (t:=.int) (show k<b.length by omega)]
   exact⟨zM hk,zM (by omega),zA hX hn⟩
  ·rw[hz,cW,zX];exact hY
def vT:zG:=⟨[⟨⟨#[120]⟩,0,2⟩,⟨⟨#[121]⟩,0,2⟩],[⟨1,[0,1],[1,-1],-1,[],[]⟩],1,1⟩
theorem Tc:tU oS [] (XH .mdl vT):=
 V2 λok=>by rw[Ta];exact rfl
def isS(a:List (List Int))(e1 e2:Int)(b:List (List Int)):Bool:=decide (e1=e2)&&decide (a=orS e2 b)
theorem zaU{m:zG}{ss:List (List (List Int))}(h:XN m ss=0):xL m=0:=by
 by_cases h1:xL m=0
 ·exact h1
 ·rw[zhD h1]at h;exact absurd h h1
theorem dt{p:Prop}[Decidable p]{X Y:Prop}(h:p)(hx:X):zP (decide p) X Y:=by rw[decide_eq_true h];exact hx
theorem df{p:Prop}[Decidable p]{X Y:Prop}(h:¬p)(hy:Y):zP (decide p) X Y:=by rw[decide_eq_false h];exact hy
theorem NB{p:Prop}[Decidable p]{X Y:Prop}(h:¬p)(hx:X):zP (!decide p) X Y:=by rw[decide_eq_false h];exact hx
theorem Ai{p:Prop}[Decidable p]{X Y:Prop}(h:p)(hy:Y):zP (!decide p) X Y:=by rw[decide_eq_true h];exact hy
theorem zkp{b:Bool}{e:Int}(h:e=0):orB e b=b:=if_pos h
theorem zlp{b:Bool}{e:Int}(h:e≠0):orB e b=false:=if_neg h
theorem jA{l:List Int}{n:Int}:eB l n=true↔n∈l:=by
 rw[eB,List.any_eq_true];exact⟨λ⟨k,hk,e⟩=>by rw[of_decide_eq_true e];exact hk,λh=>⟨n,h,decide_eq_true rfl⟩⟩
theorem tK{f:Nat→Int→Bool}{s:List (List Int)}{v:Nat}:(pL f s).getD v []=(s.getD v []).filter (f v):=by
 rw[pL,List.getD_eq_getElem?_getD,List.getD_eq_getElem?_getD,List.getElem?_mapIdx];cases s[v]? <;>rfl
theorem tL{f:Nat→Int→Bool}{s:List (List Int)}:(pL f s).length=s.length:=List.length_mapIdx
theorem zfz{a b:Int}{l:List Int}:disL (a::b::l)=(decide (b≤a)||disL (b::l)):=rfl
theorem zc1:∀ {l:List Int},disL l=false↔l.Pairwise (·<·)
 |[]=>by simp[disL]
 |[a]=>by simp[disL]
 |a::b::l=>by
  rw[zfz,Bool.or_eq_false_iff,zc1,List.pairwise_cons (a:=a) (l:=b::l)];constructor
  ·rintro⟨h1,h2⟩
   have h1:=of_decide_eq_false h1;refine⟨λx hx=> ?_,h2⟩
   rcases List.mem_cons.1 hx with rfl|hx
   ·omega
   ·have:=(List.pairwise_cons.1 h2).1 x hx;omega
  ·rintro⟨h1,h2⟩
   exact⟨decide_eq_false (by have:=h1 b (List.mem_cons_self ..);omega),h2⟩
theorem V3{m:zG}{s:List (List Int)}:fg m s=0↔s.length=m.vars.length∧(∀v,∀n∈s.getD v [],(m.vars.getD v ⟨⟨#[]⟩,0,0⟩).lo≤n∧n≤(m.vars.getD v ⟨⟨#[]⟩,0,0⟩).hi)∧∀l∈s,l.Pairwise (·<·):=by
 constructor
 ·intro h
  have hl:=Fa h;unfold fg at h
  rw[if_neg (not_not_intro hl)]at h
  split at h
  ·exact absurd h (by decide)
  rename_i h1;split at h
  ·exact absurd h (by decide)
  rename_i h2;refine⟨hl,λv n hn=> ?_,λl hl=>zc1.1 ?_⟩
  ·by_cases hv:v<s.length
   ·have hz:v<(s.zip m.vars).length:=by rw[List.length_zip];omega
    rw[yE _ hv]at hn
    rw[yE _ (show v<m.vars.length by omega)]
    rw[Bool.not_eq_true,zji,List.any_eq_false]at h1
    have:=h1 _ (List.getElem_mem hz);rw[List.getElem_zip,Bool.not_eq_true,List.any_eq_false]at this
    have:=this n hn;simp[zko]at this
    omega
   ·rw[List.getD_eq_getElem?_getD,List.getElem?_eq_none (by omega)]at hn
    simp at hn
  ·rw[Bool.not_eq_true,List.any_eq_false]at h2
   simpa using h2 l hl
 ·rintro⟨hl,h1,h2⟩
  refine zhC (not_not_intro hl) ?_ ?_
  ·rw[zji,List.any_eq_true]
   rintro⟨x,hx,hp⟩;obtain⟨i,hi,rfl⟩:=List.getElem_of_mem hx;rw[List.length_zip]at hi
   rw[List.getElem_zip,List.any_eq_true]at hp
   obtain⟨n,hn,e⟩:=hp;have:=h1 i n (by rw[yE _ (by omega)];exact hn)
   rw[yE _ (show i<m.vars.length by omega)]at this
   simp[zko]at e
   omega
  ·rw[List.any_eq_true]
   rintro⟨l,hl,e⟩;rw[zc1.2 (h2 l hl)]at e
   exact absurd e (by decide)
theorem bt{b:Bool}{X Y:Prop}(h:b=true)(hx:X):zP b X Y:=by rw[h];exact hx
theorem bnf{b:Bool}{X Y:Prop}(h:b=true)(hy:Y):zP (!b) X Y:=by rw[h];exact hy
theorem bf{b:Bool}{X Y:Prop}(h:b=false)(hy:Y):zP b X Y:=by rw[h];exact hy
theorem bnt{b:Bool}{X Y:Prop}(h:b=false)(hx:X):zP (!b) X Y:=by rw[h];exact hx
def holdsL(l:zC)(n:Int):Bool:=if l.op=1 then decide (n≤l.n)else if l.op=2 then decide (l.n≤n)else if l.op=3 then decide (n=l.n)else !decide (n=l.n)
theorem ZO(l:zC)(n:Int):tU jM [dL l,dI n] (dB (holdsL l n)):=
 Dd l n λok=>by
  rw[B7];refine zA (λe1=> ?_) λe1=>zA (λe2=> ?_) λe2=>zA (λe3=> ?_) λe3=> ?_<;>simp at* <;>simp[holdsL, *]
theorem zc2{nv:Nat}{l:zC}(h:rP nv l.var=true):eN nv l=5:=if_pos h
theorem zc3{nv:Nat}{l:zC}(h1:¬rP nv l.var=true)(h:kK l.op 1 4=false):eN nv l=7:=by rw[eN,if_neg h1,if_pos h]
theorem zc4{nv:Nat}{l:zC}(h1:¬rP nv l.var=true)(h2:¬kK l.op 1 4=false)(h:farB l.n=true):eN nv l=3:=by rw[eN,if_neg h1,if_neg h2,if_pos h]
theorem zhE{nv:Nat}{l:zC}(h1:¬rP nv l.var=true)(h2:¬kK l.op 1 4=false)(h:¬farB l.n=true):eN nv l=0:=by rw[eN,if_neg h1,if_neg h2,if_neg h]
theorem nT{nv:Nat}{l:zC}:eN nv l=0↔(0≤l.var∧l.var<nv)∧(1≤l.op∧l.op≤4)∧-1000≤l.n∧l.n≤1000:=by
 by_cases h1:rP nv l.var=true
 ·rw[zc2 h1]
  simp[rP,kK]at h1
  exact⟨λh=>absurd h (by decide),λh=>by omega⟩
 by_cases h2:kK l.op 1 4=false
 ·rw[zc3 h1 h2]
  rw[qD]at h2
  exact⟨λh=>absurd h (by decide),λh=>by omega⟩
 by_cases h3:farB l.n=true
 ·rw[zc4 h1 h2 h3]
  simp[farB,kK]at h3
  exact⟨λh=>absurd h (by decide),λh=>by omega⟩
 ·rw[zhE h1 h2 h3]
  simp[rP,farB,kK]at h1 h2 h3
  exact⟨λ_=>by omega,λ_=>rfl⟩
theorem Aj(m:zG)(l:zC):tU VU [dM m,dL l] (dI (eN m.vars.length l)):=
 Dm m l λok=>by
  rw[Af];refine zA (λe=> ?_) λe1=>zA (λe=> ?_) λe2=> ?_
  ·exact tE (zc2 (by simp at e;simp[rP,kK];omega))
  ·exact tE (zc2 (by simp at e;simp[rP,kK];omega))
  have h1:¬rP m.vars.length l.var=true:=by simp at e1 e2;simp[rP,kK];omega
  refine zA (λe=> ?_) λe1=>zA (λe=> ?_) λe2=> ?_
  ·exact tE (zc3 h1 (qD.2 (.inl (of_decide_eq_true e))))
  ·exact tE (zc3 h1 (qD.2 (.inr (of_decide_eq_true e))))
  have h2:¬kK l.op 1 4=false:=by rw[qD];simp at e1 e2;omega
  refine zA (λe=> ?_) λe1=>zA (λe=> ?_) λe2=> ?_
  ·exact tE (zc4 h1 h2 (by simp at e;simp[farB,kK];omega))
  ·exact tE (zc4 h1 h2 (by simp at e;simp[farB,kK];omega))
  ·exact tE (zhE h1 h2 (by simp at e1 e2;simp[farB,kK];omega))
def fG(l:zC):zC:=if l.op=1 then⟨l.var,2,l.n+1⟩else if l.op=2 then⟨l.var,1,l.n-1⟩else if l.op=3 then⟨l.var,4,l.n⟩else⟨l.var,3,l.n⟩
theorem IU(l:zC)(h: -1000000≤l.n∧l.n≤1000000):tU ZA [dL l] (XH .lit (fG l)):=
 KM l λok=>by
  rw[IR,wL (by omega) (by omega),wL (by omega) (by omega)]
  refine zA (λe1=> ?_) λe1=>zA (λe2=> ?_) λe2=>zA (λe3=> ?_) λe3=> ?_<;>simp at e1
  ·simp only[fG,e1,if_true];rfl
  all_goals simp at e2
  ·simp only[fG,e1,e2,if_true,if_false];rfl
  all_goals simp at e3
  ·simp only[fG,e1,e2,e3,if_true,if_false];rfl
  ·simp only[fG,e1,e2,e3,if_true,if_false];rfl
def Cm(l:zC)(r:List Int):Int:=if r.any (holdsL l)=false then -1 else if r.all (holdsL l)=true then 1 else 0
def V4(s:List (List Int))(l:zC):Int:=Cm l (s.getD l.var.toNat [])
def zaV(s:List (List Int))(l:zC):List (List Int):=pL (λv n=> !decide ((v:Int)=l.var)||holdsL l n) s
theorem NC{α:Type}{p:α→Bool}{r:List α}:(r.filter p).length=0↔r.any p=false:=by
 rw[List.length_eq_zero_iff,List.filter_eq_nil_iff,List.any_eq_false]
theorem Fc{α:Type}{p:α→Bool}{r:List α}:(r.filter p).length=r.length↔r.all p=true:=by
 rw[List.length_filter_eq_length_iff,List.all_eq_true]
theorem zaW{s:List (List Int)}{l:zC}(h:0≤l.var∧l.var<s.length):tU T5 [dS s,dL l] (dI (V4 s l)):=
 Ag s l λok=>by
  have hs:Si s:=YN (L5 ok);rw[zaR];obtain⟨v,hv⟩:∃v:Nat,l.var=v:=⟨l.var.toNat,by omega⟩
  have hvl:v<s.length:=by omega
  have hr:=Cl hs hvl;have ht:V4 s l=Cm l s[v]:=by rw[V4,hv,Int.toNat_natCast,yE _ hvl]
  refine⟨by rw[hv];exact zM hvl,?_⟩
  refine up (I:=λn v a=>Xs s l _ n a v) 0 s[v].length rfl (Nat.zero_le _) (by omega) (λk a=>a=(((s[v].take k).filter (holdsL l)).length:Int)) rfl λn k a _ hk ha hn=> ?_
  subst ha;rw[G9,hv,zY (t:=.list .int) hvl];have hf:=List.length_filter_le (holdsL l) (s[v].take k);rw[List.length_take]at hf
  by_cases h:k<s[v].length
  ·rw[yC h,zY (t:=.int) h]
   refine⟨zM h,?_⟩;refine zH (ZO l s[v][k]) (zA (λe=>hn h _ ?_) λe=>hn h _ ?_)
   ·rw[Xl _ h,if_pos e,List.length_append,wL (by omega) (by omega)];rfl
   ·rw[Xl _ h,if_neg (by rw[e];exact Bool.false_ne_true)]
  ·have hk':k=s[v].length:=by omega
   subst hk';rw[zX,List.take_length,ht];refine zA (λe=> ?_) λe=>⟨zM hvl,zA (λf=> ?_) λf=> ?_⟩
   ·have e:=of_decide_eq_true e
    exact tE (if_pos (NC.1 (by omega)))
   ·have e:=of_decide_eq_false e
    have f:=of_decide_eq_true f;exact tE (by rw[Cm,if_neg (λh=>e (by have:=NC.2 h;omega)),if_pos (Fc.1 (by omega))])
   ·have e:=of_decide_eq_false e
    have f:=of_decide_eq_false f;exact tE (by rw[Cm,if_neg (λh=>e (by have:=NC.2 h;omega)),if_neg (λh=>f (by have:=Fc.2 h;omega))])
theorem Ak(v:Nat)(n:Int)(l:zC):tU VV [dI v,dI n,.iptr [.int .i64 l.var,.int .i64 l.op,.int .i64 l.n] 0] (dB (!decide ((v:Int)=l.var)||holdsL l n)):=
 Dn v n l λok=>by
  rw[Ah];refine zA (λe=> ?_) λe=>zH (ZO l n) ?_
  ·rw[e];rfl
  ·rw[e];rfl
theorem zc5(s:List (List Int))(l:zC):tU Pt [dS s,dL l] (dS (zaV s l)):=
 zaQ s l λok=>by
  rw[zc0];exact zH (bF (f:=λv n=> !decide ((v:Int)=l.var)||holdsL l n) Df λv hv n hn=>Ak v n l) rfl
def sD(c:zE)(vs:List Int):List Int:=c.vars.map λv=>vs.getD v.toNat 0
def PZ(z:List (Int×Int)):Int:=(z.map λx=>x.1*x.2).sum
def zhF(a:Int)(l:List Int):Int:=l.foldl (λa x=>if x>a then x else a) a
def vH(c:zE)(vs:List Int):Bool:=
 let x:=sD c vs
 if c.kind=1 then decide (PZ (c.consts.zip x)≤c.n)
 else if c.kind=2 then decide (PZ (c.consts.zip x)=c.n)
 else if c.kind=3 then !decide (PZ (c.consts.zip x)=c.n)
 else if c.kind=4 then decide x.Nodup
 else if c.kind=5 then decide (0≤x.getD 0 0)&&decide (x.getD 0 0<c.consts.length)&&decide (c.consts.getD (x.getD 0 0).toNat 0=x.getD 1 0)
 else if c.kind=6 then c.rows.any λr=>decide (r=x)
 else if c.kind=7 then decide (x.getD 0 0*x.getD 1 0=x.getD 2 0)
 else if c.kind=8 then decide (x.getD 0 0=zhF (x.getD 1 0) (x.drop 1))
 else if c.kind=9 then c.lits.any λl=>holdsL l (vs.getD l.var.toNat 0)
 else(c.lits.take 1).any (λl=>holdsL l (vs.getD l.var.toNat 0))&&decide (x.getD 0 0=1)|| !(c.lits.take 1).any (λl=>holdsL l (vs.getD l.var.toNat 0))&&decide (x.getD 0 0=0)
structure tP (c:zE)(nv:Nat):Prop where
 nv6:nv≤6
 kind:1≤c.kind∧c.kind≤10
 many:c.vars.length≤4∧c.lits.length≤4∧c.consts.length≤8∧c.rows.length≤20
 form:fM c=true
 vars:∀v∈c.vars,0≤v∧v<nv
 consts:∀n∈c.consts,-1000≤n∧n≤1000
 n: -1000≤c.n∧c.n≤1000
 rows:∀r∈c.rows,∀n∈r,-1000≤n∧n≤1000
 lits:∀l∈c.lits,eN nv l=0
theorem KO{nv:Nat}{c:zE}(hnv:nv≤6)(h:Yv nv c=0):tP c nv:=by
 by_cases h1:kK c.kind 1 10=false
 ·rw[Ab h1]at h;exact absurd h (by decide)
 by_cases h2:VS c=true
 ·rw[zcX h1 h2]at h;exact absurd h (by decide)
 by_cases h3:fM c=false
 ·rw[zcY h1 h2 h3]at h;exact absurd h (by decide)
 by_cases h4:(c.vars.any (rP nv)||c.lits.any λl=>rP nv l.var)=true
 ·rw[G5 h1 h2 h3 h4]at h;exact absurd h (by decide)
 by_cases h5:(c.consts.any farB||farB c.n||c.rows.any λr=>r.any farB)=true
 ·rw[NA h1 h2 h3 h4 h5]at h;exact absurd h (by decide)
 rw[zcZ h1 h2 h3 h4 h5]at h
 rw[Bool.not_eq_true,Bool.or_eq_false_iff]at h4
 rw[Bool.not_eq_true,Bool.or_eq_false_iff,Bool.or_eq_false_iff]at h5
 have hfar:∀n,farB n=false→-1000≤n∧n≤1000:=λn h=>by simp[farB,kK]at h;exact h
 have hnone:∀v,rP nv v=false→0≤v∧v<nv:=λv h=>by simp[rP,kK]at h;omega
 refine⟨hnv,?_,?_,by simpa using h3,λv hv=>hnone v ?_,λn hn=>hfar n ?_,hfar _ h5.1.2,λr hr n hn=>hfar n ?_,λl hl=> ?_⟩
 ·rw[qD]at h1;omega
 ·simp[VS]at h2;omega
 ·have:=List.any_eq_false.1 h4.1 v hv;simpa using this
 ·have:=List.any_eq_false.1 h5.1.1 n hn;simpa using this
 ·have:=List.any_eq_false.1 h5.2 r hr
  rw[Bool.not_eq_true]at this
  have:=List.any_eq_false.1 this n hn;simpa using this
 ·obtain⟨i,hi,rfl⟩:=List.getElem_of_mem hl
  have e:=aK h hi;rw[zeB]
  ·exact e
  ·have:=List.any_eq_false.1 h4.2 _ (List.getElem_mem hi);simpa using this
structure zkZ (c:zE):Prop where
 sums:c.kind≤3→1≤c.vars.length∧c.consts.length=c.vars.length
 differ:c.kind=4→1≤c.vars.length
 element:c.kind=5→c.vars.length=2∧1≤c.consts.length
 table:c.kind=6→1≤c.vars.length∧∀r∈c.rows,r.length=c.vars.length
 times:c.kind=7→c.vars.length=3
 max:c.kind=8→2≤c.vars.length
 clause:c.kind=9→c.vars.length=0
 iff:c.kind=10→c.vars.length=1∧c.lits.length=1
theorem tP.formC{c:zE}{nv:Nat}(h:tP c nv):zkZ c:=by
 have hf:=h.form;obtain⟨h1,h2⟩:=h.kind;constructor<;>intro hk
 ·have:c.kind=1∨c.kind=2∨c.kind=3:=by omega
  rcases this with e|e|e<;>simp[fM,e]at hf<;>omega
 all_goals simp[fM,hk]at hf
 all_goals first|omega|(simp_all;done)|(simp_all;omega)
structure Qo (vs:List Int)(nv:Nat):Prop where
 len:vs.length=nv
 near:∀n∈vs,-50≤n∧n≤50
theorem Qo.at{vs:List Int}{nv:Nat}(h:Qo vs nv)(i:Nat): -50≤vs.getD i 0∧vs.getD i 0≤50:=by
 by_cases hi:i<vs.length
 ·rw[yE _ hi];exact h.near _ (List.getElem_mem hi)
 ·rw[List.getD_eq_getElem?_getD,List.getElem?_eq_none (by omega)];decide
theorem iH{c:zE}{vs:List Int}:(sD c vs).length=c.vars.length:=List.length_map ..
theorem ND{c:zE}{vs:List Int}{nv:Nat}(h:Qo vs nv):∀n∈sD c vs,-50≤n∧n≤50:=λn hn=>by
 obtain⟨v,_,rfl⟩:=List.mem_map.1 hn;exact h.at _
theorem Qp{c:zE}{vs:List Int}{k:Nat}(hk:k<c.vars.length):(sD c vs)[k]'(by rw[iH];exact hk)=vs.getD c.vars[k].toNat 0:=by simp[sD]
theorem Fd{a b:Int}(h1: -1000≤a∧a≤1000)(h2: -50≤b∧b≤50): -50000≤a*b∧a*b≤50000:=by
 have:(a*b).natAbs≤1000*50:=by rw[Int.natAbs_mul];exact Nat.mul_le_mul (by omega) (by omega)
 omega
theorem zhG{z:List (Int×Int)}(h:∀x∈z,(-1000≤x.1∧x.1≤1000)∧-50≤x.2∧x.2≤50): -50000*(z.length:Int)≤PZ z∧PZ z≤50000*(z.length:Int):=by
 induction z with
 |nil=>exact⟨by decide,by decide⟩
 |cons x z ih=>
  have h1:=ih λy hy=>h y (List.mem_cons_of_mem _ hy)
  have h2:=h x (List.mem_cons_self ..);have h3:=Fd h2.1 h2.2;have e:PZ (x::z)=x.1*x.2+PZ z:=by rw[PZ,List.map_cons,List.sum_cons];rfl
  rw[e,List.length_cons];omega
theorem zfA{z:List (Int×Int)}{k:Nat}(h:k<z.length):PZ (z.take (k+1))=PZ (z.take k)+z[k].1*z[k].2:=by
 rw[←List.take_append_getElem h,PZ,List.map_append,List.sum_append];simp[PZ]
theorem uU{c:zE}{vs:List Int}{nv:Nat}(hc:tP c nv)(hv:Qo vs nv){k:Nat}(hk:k<c.vars.length):tU yL [dI k,.iptr [.sl .int vs] 0,.iptr [.int .i64 c.kind,.sl .int c.vars,.sl .int c.consts,.int .i64 c.n,.sl (.list .int) c.rows,.sl .lit c.lits] 0] (dI ((sD c vs)[k]'(by rw[iH];exact hk))):=
 Kv k vs c λok=>by
  have hv1:=hc.vars _ (List.getElem_mem hk);rw[IF,zY (t:=.int) hk,Qp hk];exact⟨zM hk,rS.2 (by rw[hv.len];omega),rfl⟩
theorem SN{l:zC}{vs:List Int}{nv:Nat}(hl:eN nv l=0)(hv:Qo vs nv):tU qQ [dL l,.iptr [.sl .int vs] 0] (dB (holdsL l (vs.getD l.var.toNat 0))):=
 Kw l vs λok=>by
  rw[IG];exact⟨rS.2 (by rw[hv.len];exact(nT.1 hl).1),zH (ZO l _) rfl⟩
theorem M1(c:zE)(n:Int):tU jN [dC c,dI n] (dB (if c.kind=1 then decide (n≤c.n)else if c.kind=2 then decide (n=c.n)else !decide (n=c.n))):=
 De c n λok=>by
  rw[B8];refine zA (λe1=> ?_) λe1=>zA (λe2=> ?_) λe2=> ?_<;>simp at* <;>simp[*]
theorem dX(a b:List Int):tU xQ [.sl .int a,.sl .int b] (dB (decide (a=b))):=
 WV a b λok=>by
  have hl:a.length≤9223372036854775807:=cM (t:=.int) (L5 ok);rw[VA];refine zA (λe=> ?_) λe=> ?_
  ·rw[decide_eq_false (p:=a=b) λh=>by subst h;simp at e]
  have e:a.length=b.length:=by simp at e;omega
  have hz:(a.zip b).length=a.length:=by rw[List.length_zip];omega
  refine zcT (I:=λn v=>pQ a b _ n v) (a.zip b) (λx=> !decide (x.1=x.2)) (by omega) (X:=dB false=dB (decide (a=b))) (Y:=dB true=dB (decide (a=b))) (by rw[Qn a b e];cases decide (a=b)<;>rfl) (λn k h hX hn=> ?_) λn hY=> ?_
  ·have hk:k<a.length:=by omega
   rw[List.getElem_zip]at hX hn
   rw[gB,yC hk,zY (t:=.int) hk,zY (t:=.int) (show k<b.length by omega)]
   exact⟨zM hk,zM (by omega),zA hX hn⟩
  ·rw[hz,gB,zX];exact hY
theorem IV(r x:List Int):tU Zz [.sl .int r,.iptr [.sl .int x] 0] (dB (decide (r=x))):=
 Kx r x λok=>by rw[IH];exact zH (dX r x) rfl
theorem Cn{x y:Int}:∀(m:List (Int×Int)),(rD .int .int x y m).map (λe=>e.1)=if x∈m.map (λe=>e.1)then m.map (λe=>e.1)else m.map (λe=>e.1)++[x]
 |[]=>rfl
 |(a,b)::m=>by
  rw[rD,show O8 .int x a=decide (x=a)from rfl]
  by_cases h:x=a
  ·rw[decide_eq_true h,cond_true,if_pos (by rw[h];exact List.mem_cons_self ..)];rfl
  ·rw[decide_eq_false h,cond_false,List.map_cons,Cn m]
   simp only[List.map_cons,List.mem_cons,h,false_or];split<;>rfl
def aL:List Int→List Int→List Int
 |ks,[]=>ks
 |ks,x::xs=>aL (if x∈ks then ks else ks++[x]) xs
theorem zaX{l:List Int}{k:Nat}(h:k<l.length):∀ks,aL ks (l.take (k+1))=if l[k]∈aL ks (l.take k)then aL ks (l.take k)else aL ks (l.take k)++[l[k]]:=by
 induction l generalizing k with
 |nil=>exact absurd h (Nat.not_lt_zero _)
 |cons a l ih=>
  intro ks;cases k with
  |zero=>rfl
  |succ k=>rw[List.take_succ_cons,List.take_succ_cons,aL,aL];exact ih (by simpa using h) _
theorem NF:∀(xs ks:List Int),(aL ks xs).length≤ks.length+xs.length
 |[],ks=>by simp[aL]
 |x::xs,ks=>by
  rw[aL];have:=NF xs (if x∈ks then ks else ks++[x])
  rw[List.length_cons];split at this<;>simp at this⊢<;>simp_all<;>omega
theorem M2:∀(xs ks:List Int),(aL ks xs).length=ks.length+xs.length↔xs.Nodup∧∀x∈xs,x∉ks
 |[],ks=>by simp[aL]
 |x::xs,ks=>by
  rw[aL,List.nodup_cons,List.length_cons]
  by_cases h:x∈ks
  ·rw[if_pos h]
   have:=NF xs ks;exact⟨λe=>by omega,λe=>absurd h (e.2 x (List.mem_cons_self ..))⟩
  ·rw[if_neg h]
   have ih:=M2 xs (ks++[x]);rw[List.length_append,List.length_cons,List.length_nil]at ih
   rw[show ks.length+(xs.length+1)=ks.length+(0+1)+xs.length by omega,ih]
   simp only[List.mem_append,List.mem_cons,List.not_mem_nil,or_false];constructor
   ·rintro⟨h1,h2⟩
    exact⟨⟨λhx=>h2 x hx (.inr rfl),h1⟩,λy hy=>by
     rcases hy with rfl|hy
     ·exact h
     ·exact λhk=>h2 y hy (.inl hk)⟩
   ·rintro⟨⟨h1,h2⟩,h3⟩
    exact⟨h2,λy hy hk=>by
     rcases hk with hk|rfl
     ·exact h3 y (.inr hy) hk
     ·exact h1 hy⟩
def M3:wA:= {own:=[2,8,24,26],live:=[],n:=41,nils:=[(26,(3,(72,.var))),(26,(4,(74,.con)))],pubs:=[],first:=true}
theorem Dp(c:ByteArray)(R:xO):FD M3 Tryz.f10 [.str c] R=
 (c3Q T1 [.str c] (.list .tok) .int .int λg h e=>
 zP (!decide (e=0))
 (R (.tup [.agg [.sl .var ([]:List zN),.sl .con ([]:List zE),dI 0,dI 0],dI h,dI e]))
 (∃a:zG,∃d:Int,∃b:Int,yH T2 [.ptr 1000 0] (zF g 0 (c.size:Int) 0 0 ([]:List zN) ([]:List zE) ([]:List (ByteArray×Int))) (.tup [dM a,dI d,dI b]) []∧
 zP (decide (b=0))
 (xK kB [dM a] .int λf=>
 zP (!decide (f=0))
 (R (.tup [.agg [.sl .var ([]:List zN),.sl .con ([]:List zE),dI 0,dI 0],dI d,dI f]))
 (R (.tup [dM a,dI 0,dI 0])))
 (zP (!decide (b=0))
 (R (.tup [.agg [.sl .var ([]:List zN),.sl .con ([]:List zE),dI 0,dI 0],dI d,dI b]))
 (R (.tup [dM a,dI 0,dI 0]))))):=by kernel_rfl
theorem Fe(a:ByteArray):wC M3 Tryz.f10 Zt [.str a]:=wJ Tryz.func10 (by kernel_rfl) Tryz.ntmps10 rfl
def tV:wA:= {own:=[2,5,65,84],live:=[(0,([0],[1000,1001,2000,2001])),(2,([0],[1000,1001,2000,2001]))],n:=135,first:=true}
def oB(R:pR)(T:Pu)(a:Nat)(b:List vL)(c d e f:Int)(g:List (ByteArray×Int))(h:List zN)(i:List zE):Prop:=LP tV Tryz.f94 [1,0,0,0] 2 a ⟨[(0,.ptr 1000 0)],[(1000,.cells [.sl .tok b,dI c,dI d,.own 2000,.own 2001,dI e,dI f,.own 1001]),(1001,.mp .str .int g),(2000,.row 72 .var h),(2001,.row 74 .con i)]⟩ (zQ 2 (sK tV Tryz.f94 [1,1] 0 (eX Tryz.f94 [.ptr 1000 0] false R T)))
def tG(R:pR)(T:Pu)(a:Nat)(b:List vL)(c d e f:Int)(g:List (ByteArray×Int))(h:List zN)(i:List zE):Prop:=LP tV Tryz.f94 [0,0,0] 0 a ⟨[(0,.ptr 1000 0)],[(1000,.cells [.sl .tok b,dI c,dI d,.own 2000,.own 2001,dI e,dI f,.own 1001]),(1001,.mp .str .int g),(2000,.row 72 .var h),(2001,.row 74 .con i)]⟩ (zQ 0 (sK tV Tryz.f94 [1] 0 (eX Tryz.f94 [.ptr 1000 0] false R T)))
theorem oO(R:pR)(T:Pu)(v:Nat)(a:List vL)(w c g f:Int)(d:List (ByteArray×Int))(e:List zN)(b:List zE):oB R T (v+1) a w c g f d e b=
 (∃m:Int,∃x:Bool,yH yT [.ptr 1000 0,.str (⟨#[99,111,110]⟩:ByteArray)] (zF a w c g f e b d) (dB x) (zF a m c g f e b d)∧
 zP x
 (((∃p:Int,∃q:zE,yH qP [.ptr 1000 0] (zF a m c g f e b d) (dC q) (zF a p c g f e b d)∧
 ((∃y:Int,yH zI [.ptr 1000 0,.sl .str ([(⟨#[59]⟩:ByteArray)])] (zF a p c g f e b d) (.tup []) (zF a y c g f e b d)∧
 wN .con (b.length+([q]).length)=true∧oB R T v a y c g f d e (b++([q])))∨
 ∃u,nK zI [.ptr 1000 0,.sl .str ([(⟨#[59]⟩:ByteArray)])] (zF a p c g f e b d) u∧T u))∨
 ∃u,nK qP [.ptr 1000 0] (zF a m c g f e b d) u∧T u))
 (((∃z:Int,yH zI [.ptr 1000 0,.sl .str ([(⟨#[115,111,108,118,101]⟩:ByteArray)])] (zF a m c g f e b d) (.tup []) (zF a z c g f e b d)∧
 ∃o:Int,∃aa:Bool,yH yT [.ptr 1000 0,.str (⟨#[97,110,121]⟩:ByteArray)] (zF a z c g f e b d) (dB aa) (zF a o c g f e b d)∧
 zP aa
 (((∃j:Int,yH zI [.ptr 1000 0,.sl .str ([(⟨#[59]⟩:ByteArray)])] (zF a o c g f e b d) (.tup []) (zF a j c g f e b d)∧
 zP (decide (j<(a.length:Int)))
 (((yH zO [.ptr 1000 0,dI 1] (zF a j c g f e b d) (.tup []) (zF a j c g f e b d)∧
 R (.tup []) (zF a j c g f e b d))∨
 ∃u,nK zO [.ptr 1000 0,dI 1] (zF a j c g f e b d) u∧T u))
 (R (.tup []) (zF a j c g f e b d)))∨
 ∃u,nK zI [.ptr 1000 0,.sl .str ([(⟨#[59]⟩:ByteArray)])] (zF a o c g f e b d) u∧T u))
 (∃n:Int,∃ab:Bool,yH yT [.ptr 1000 0,.str (⟨#[108,101,97,115,116]⟩:ByteArray)] (zF a o c g f e b d) (dB ab) (zF a n c g f e b d)∧
 zP ab
 (((∃r:Int,∃h:Int,yH zK [.ptr 1000 0] (zF a n c 1 f e b d) (dI h) (zF a r c 1 f e b d)∧
 ((∃k:Int,yH zI [.ptr 1000 0,.sl .str ([(⟨#[59]⟩:ByteArray)])] (zF a r c 1 h e b d) (.tup []) (zF a k c 1 h e b d)∧
 zP (decide (k<(a.length:Int)))
 (((yH zO [.ptr 1000 0,dI 1] (zF a k c 1 h e b d) (.tup []) (zF a k c 1 h e b d)∧
 R (.tup []) (zF a k c 1 h e b d))∨
 ∃u,nK zO [.ptr 1000 0,dI 1] (zF a k c 1 h e b d) u∧T u))
 (R (.tup []) (zF a k c 1 h e b d)))∨
 ∃u,nK zI [.ptr 1000 0,.sl .str ([(⟨#[59]⟩:ByteArray)])] (zF a r c 1 h e b d) u∧T u))∨
 ∃u,nK zK [.ptr 1000 0] (zF a n c 1 f e b d) u∧T u))
 (((∃s:Int,yH zI [.ptr 1000 0,.sl .str ([(⟨#[109,111,115,116]⟩:ByteArray)])] (zF a n c g f e b d) (.tup []) (zF a s c g f e b d)∧
 ((∃t:Int,∃i:Int,yH zK [.ptr 1000 0] (zF a s c 2 f e b d) (dI i) (zF a t c 2 f e b d)∧
 ((∃l:Int,yH zI [.ptr 1000 0,.sl .str ([(⟨#[59]⟩:ByteArray)])] (zF a t c 2 i e b d) (.tup []) (zF a l c 2 i e b d)∧
 zP (decide (l<(a.length:Int)))
 (((yH zO [.ptr 1000 0,dI 1] (zF a l c 2 i e b d) (.tup []) (zF a l c 2 i e b d)∧
 R (.tup []) (zF a l c 2 i e b d))∨
 ∃u,nK zO [.ptr 1000 0,dI 1] (zF a l c 2 i e b d) u∧T u))
 (R (.tup []) (zF a l c 2 i e b d)))∨
 ∃u,nK zI [.ptr 1000 0,.sl .str ([(⟨#[59]⟩:ByteArray)])] (zF a t c 2 i e b d) u∧T u))∨
 ∃u,nK zK [.ptr 1000 0] (zF a s c 2 f e b d) u∧T u))∨
 ∃u,nK zI [.ptr 1000 0,.sl .str ([(⟨#[109,111,115,116]⟩:ByteArray)])] (zF a n c g f e b d) u∧T u))))∨
 ∃u,nK zI [.ptr 1000 0,.sl .str ([(⟨#[115,111,108,118,101]⟩:ByteArray)])] (zF a m c g f e b d) u∧T u))):=by kernel_rfl
theorem aZ(R:pR)(T:Pu)(l:Nat)(c:List vL)(r d e f:Int)(b:List (ByteArray×Int))(a:List zN)(g:List zE):tG R T (l+1) c r d e f b a g=
 (∃h:Int,∃s:Bool,yH yT [.ptr 1000 0,.str (⟨#[118,97,114]⟩:ByteArray)] (zF c r d e f a g b) (dB s) (zF c h d e f a g b)∧
 zP s
 (((∃i:ByteArray,yH uI [.ptr 1000 0] (zF c h d e f a g b) (.str i) (zF c h d e f a g b)∧
 ((∃m:Int,yH zI [.ptr 1000 0,.sl .str ([(⟨#[58]⟩:ByteArray)])] (zF c (yU (h+1)) d e f a g b) (.tup []) (zF c m d e f a g b)∧
 ((∃n:Int,∃j:Int,yH zJ [.ptr 1000 0] (zF c m d e f a g b) (dI j) (zF c n d e f a g b)∧
 ((∃o:Int,yH zI [.ptr 1000 0,.sl .str ([(⟨#[46,46]⟩:ByteArray)])] (zF c n d e f a g b) (.tup []) (zF c o d e f a g b)∧
 ((∃p:Int,∃k:Int,yH zJ [.ptr 1000 0] (zF c o d e f a g b) (dI k) (zF c p d e f a g b)∧
 ((∃q:Int,yH zI [.ptr 1000 0,.sl .str ([(⟨#[59]⟩:ByteArray)])] (zF c p d e f a g b) (.tup []) (zF c q d e f a g b)∧
 zP (!(PK .str .int i b))
 (Mo (b.length+1)=true∧wN .var (a.length+([(⟨i,j,k⟩:zN)]).length)=true∧tG R T l c q d e f (rD .str .int i (a.length:Int) b) (a++([(⟨i,j,k⟩:zN)])) g)
 (wN .var (a.length+([(⟨i,j,k⟩:zN)]).length)=true∧tG R T l c q d e f b (a++([(⟨i,j,k⟩:zN)])) g))∨
 ∃u,nK zI [.ptr 1000 0,.sl .str ([(⟨#[59]⟩:ByteArray)])] (zF c p d e f a g b) u∧T u))∨
 ∃u,nK zJ [.ptr 1000 0] (zF c o d e f a g b) u∧T u))∨
 ∃u,nK zI [.ptr 1000 0,.sl .str ([(⟨#[46,46]⟩:ByteArray)])] (zF c n d e f a g b) u∧T u))∨
 ∃u,nK zJ [.ptr 1000 0] (zF c m d e f a g b) u∧T u))∨
 ∃u,nK zI [.ptr 1000 0,.sl .str ([(⟨#[58]⟩:ByteArray)])] (zF c (yU (h+1)) d e f a g b) u∧T u))∨
 ∃u,nK uI [.ptr 1000 0] (zF c h d e f a g b) u∧T u))
 (∃n2,oB R T n2 c h d e f b a g)):=by kernel_rfl
theorem Qq(a:List vL)(b c d e:Int)(f:List zN)(g:List zE)(h:List (ByteArray×Int))(R:pR)(T:Pu):FX tV Tryz.f94 [.ptr 1000 0] (zF a b c d e f g h) [.ptr 1000 0] false R T=
 (∃n0,tG R T n0 a b c d e h f g):=by kernel_rfl
theorem Ro(a:List vL)(b c d e:Int)(f:List zN)(g:List zE)(h:List (ByteArray×Int)):WT tV Tryz.f94 pD [.ptr 1000 0] (zF a b c d e f g h) [.ptr 1000 0] false:=UY Tryz.func94 (by kernel_rfl) Tryz.ntmps94 rfl
theorem Rq(a:List vL)(b c d e:Int)(f:List zN)(g:List zE)(h:List (ByteArray×Int)):XR tV Tryz.f94 pD [.ptr 1000 0] (zF a b c d e f g h) [.ptr 1000 0] false:=VW Tryz.func94 (by kernel_rfl) Tryz.ntmps94 rfl
def M4:wA:= {own:=[],live:=[],n:=2,first:=true}
theorem Dq(R:xO):FD M4 Tryz.f110 [] R=
 (R (.sl .str ([(⟨#[108,101]⟩:ByteArray),(⟨#[101,113]⟩:ByteArray),(⟨#[110,101]⟩:ByteArray),(⟨#[100,105,102,102,101,114]⟩:ByteArray),(⟨#[101,108,101,109,101,110,116]⟩:ByteArray),(⟨#[116,97,98,108,101]⟩:ByteArray),(⟨#[116,105,109,101,115]⟩:ByteArray),(⟨#[109,97,120]⟩:ByteArray),(⟨#[99,108,97,117,115,101]⟩:ByteArray),(⟨#[105,102,102]⟩:ByteArray)]))):=by kernel_rfl
theorem Ff:wC M4 Tryz.f110 X7 []:=wJ Tryz.func110 (by kernel_rfl) Tryz.ntmps110 rfl
def W5:wA:= {own:=[],live:=[],n:=37,first:=true}
theorem P0(a:List vL)(b c d e:Int)(f:List zN)(g:List zE)(h:List (ByteArray×Int))(i:ByteArray)(R:pR):FH W5 Tryz.f154 [.ptr 1000 0,.str i] (zF a b c d e f g h) [.ptr 1000 0] false R=
 (zP (decide ((a.length:Int)≤b))
 (R (dB false) (zF a b c d e f g h))
 (vW b a.length=true∧zP (!decide (((yO .tok a b.toNat).text)=i))
 (R (dB false) (zF a b c d e f g h))
 (R (dB true) (zF a (yU (b+1)) c d e f g h)))):=by kernel_rfl
theorem Qr(a:List vL)(b c d e:Int)(f:List zN)(g:List zE)(h:List (ByteArray×Int))(i:ByteArray):oH W5 Tryz.f154 yT [.ptr 1000 0,.str i] (zF a b c d e f g h) [.ptr 1000 0] false:=oT Tryz.func154 (by kernel_rfl) Tryz.ntmps154 rfl
def aM:wA:= {own:=[],live:=[],n:=41,first:=true}
theorem P1(a:List vL)(b c d e:Int)(f:List zN)(g:List zE)(h:List (ByteArray×Int))(R:pR)(T:Pu):FX aM Tryz.f155 [.ptr 1000 0] (zF a b c d e f g h) [.ptr 1000 0] false R T=
 (zP (decide ((a.length:Int)≤b))
 (((yH zO [.ptr 1000 0,dI 1] (zF a b c d e f g h) (.tup []) (zF a b c d e f g h)∧
 vW b a.length=true∧R (.str ((yO .tok a b.toNat).text)) (zF a b c d e f g h))∨
 ∃u,nK zO [.ptr 1000 0,dI 1] (zF a b c d e f g h) u∧T u))
 (vW b a.length=true∧xK X9 [.str ((yO .tok a b.toNat).text)] .bool λi=>
 zP (!i)
 (((yH zO [.ptr 1000 0,dI 1] (zF a b c d e f g h) (.tup []) (zF a b c d e f g h)∧
 vW b a.length=true∧R (.str ((yO .tok a b.toNat).text)) (zF a b c d e f g h))∨
 ∃u,nK zO [.ptr 1000 0,dI 1] (zF a b c d e f g h) u∧T u))
 (vW b a.length=true∧R (.str ((yO .tok a b.toNat).text)) (zF a b c d e f g h)))):=by kernel_rfl
theorem Qs(a:List vL)(b c d e:Int)(f:List zN)(g:List zE)(h:List (ByteArray×Int)):WT aM Tryz.f155 uI [.ptr 1000 0] (zF a b c d e f g h) [.ptr 1000 0] false:=UY Tryz.func155 (by kernel_rfl) Tryz.ntmps155 rfl
theorem Qt(a:List vL)(b c d e:Int)(f:List zN)(g:List zE)(h:List (ByteArray×Int)):XR aM Tryz.f155 uI [.ptr 1000 0] (zF a b c d e f g h) [.ptr 1000 0] false:=VW Tryz.func155 (by kernel_rfl) Tryz.ntmps155 rfl
def iI:wA:= {own:=[],live:=[(0,([0,6,7,8],[1000,1001,2000,2001]))],n:=19,first:=true}
def oW(a:List ByteArray)(R:pR)(T:Pu)(b:Nat)(c:Int)(d:List vL)(e f g h:Int)(i:List (ByteArray×Int))(j:List zN)(k:List zE):Prop:=LP iI Tryz.f156 [1,0,0] 0 b ⟨[(0,.ptr 1000 0),(6,.sl .str a),(7,dI (a.length:Int)),(8,dI c)],[(1000,.cells [.sl .tok d,dI e,dI f,.own 2000,.own 2001,dI g,dI h,.own 1001]),(1001,.mp .str .int i),(2000,.row 72 .var j),(2001,.row 74 .con k)]⟩ (zQ 0 (eX Tryz.f156 [.ptr 1000 0] false R T))
theorem Sj(h:List ByteArray)(R:pR)(T:Pu)(k:Nat)(i:Int)(a:List vL)(l b c d:Int)(e:List (ByteArray×Int))(f:List zN)(g:List zE):oW h R T (k+1) i a l b c d e f g=
 (zP (decide (i<(h.length:Int)))
 (vW i h.length=true∧∃j:Int,∃m:Bool,yH yT [.ptr 1000 0,.str (yO .str h i.toNat)] (zF a l b c d f g e) (dB m) (zF a j b c d f g e)∧
 zP (!m)
 (((yH zO [.ptr 1000 0,dI 1] (zF a j b c d f g e) (.tup []) (zF a j b c d f g e)∧
 oW h R T k (yU (i+1)) a j b c d e f g)∨
 ∃u,nK zO [.ptr 1000 0,dI 1] (zF a j b c d f g e) u∧T u))
 (oW h R T k (yU (i+1)) a j b c d e f g))
 (R (.tup []) (zF a l b c d f g e))):=by kernel_rfl
theorem P2(a:List vL)(b c d e:Int)(f:List zN)(g:List zE)(h:List (ByteArray×Int))(i:List ByteArray)(R:pR)(T:Pu):FX iI Tryz.f156 [.ptr 1000 0,.sl .str i] (zF a b c d e f g h) [.ptr 1000 0] false R T=
 (∃n0,oW i R T n0 0 a b c d e h f g):=by kernel_rfl
theorem Qu(a:List vL)(b c d e:Int)(f:List zN)(g:List zE)(h:List (ByteArray×Int))(i:List ByteArray):WT iI Tryz.f156 zI [.ptr 1000 0,.sl .str i] (zF a b c d e f g h) [.ptr 1000 0] false:=UY Tryz.func156 (by kernel_rfl) Tryz.ntmps156 rfl
theorem Qv(a:List vL)(b c d e:Int)(f:List zN)(g:List zE)(h:List (ByteArray×Int))(i:List ByteArray):XR iI Tryz.f156 zI [.ptr 1000 0,.sl .str i] (zF a b c d e f g h) [.ptr 1000 0] false:=VW Tryz.func156 (by kernel_rfl) Tryz.ntmps156 rfl
def XO:wA:= {own:=[],live:=[],n:=77,first:=true}
theorem KP(a:List vL)(i c d e:Int)(f:List zN)(g:List zE)(h:List (ByteArray×Int))(R:pR)(T:Pu):FX XO Tryz.f157 [.ptr 1000 0] (zF a i c d e f g h) [.ptr 1000 0] false R T=
 (∃b:Int,∃j:Bool,yH yT [.ptr 1000 0,.str (⟨#[45]⟩:ByteArray)] (zF a i c d e f g h) (dB j) (zF a b c d e f g h)∧
 zP j
 (zP (decide ((a.length:Int)≤b))
 (((yH zO [.ptr 1000 0,dI 1] (zF a b c d e f g h) (.tup []) (zF a b c d e f g h)∧
 (λp:Prop=>((vW b a.length=true∧p)∧vW b a.length=true∧p))
 (∃k:Int,yH vV [.str ((yO .tok a b.toNat).text)] [] (.tup [dI k,.undef]) []∧
 R (dI (yU ((-1)*k))) (zF a (yU (b+1)) c d e f g h)))∨
 ∃u,nK zO [.ptr 1000 0,dI 1] (zF a b c d e f g h) u∧T u))
 (vW b a.length=true∧zP (!decide (((yO .tok a b.toNat).kind)=2))
 (((yH zO [.ptr 1000 0,dI 1] (zF a b c d e f g h) (.tup []) (zF a b c d e f g h)∧
 (λp:Prop=>((vW b a.length=true∧p)∧vW b a.length=true∧p))
 (∃l:Int,yH vV [.str ((yO .tok a b.toNat).text)] [] (.tup [dI l,.undef]) []∧
 R (dI (yU ((-1)*l))) (zF a (yU (b+1)) c d e f g h)))∨
 ∃u,nK zO [.ptr 1000 0,dI 1] (zF a b c d e f g h) u∧T u))
 (zP (decide ((-1:Int)<0))
 (vW b a.length=true∧zP (decide (((yO .tok a b.toNat).text)=(⟨#[48]⟩:ByteArray)))
 (((yH zO [.ptr 1000 0,dI 1] (zF a b c d e f g h) (.tup []) (zF a b c d e f g h)∧
 (λp:Prop=>((vW b a.length=true∧p)∧vW b a.length=true∧p))
 (∃m:Int,yH vV [.str ((yO .tok a b.toNat).text)] [] (.tup [dI m,.undef]) []∧
 R (dI (yU ((-1)*m))) (zF a (yU (b+1)) c d e f g h)))∨
 ∃u,nK zO [.ptr 1000 0,dI 1] (zF a b c d e f g h) u∧T u))
 ((λp:Prop=>((vW b a.length=true∧p)∧vW b a.length=true∧p))
 (∃n:Int,yH vV [.str ((yO .tok a b.toNat).text)] [] (.tup [dI n,.undef]) []∧
 R (dI (yU ((-1)*n))) (zF a (yU (b+1)) c d e f g h))))
 ((λp:Prop=>((vW b a.length=true∧p)∧vW b a.length=true∧p))
 (∃o:Int,yH vV [.str ((yO .tok a b.toNat).text)] [] (.tup [dI o,.undef]) []∧
 R (dI (yU ((-1)*o))) (zF a (yU (b+1)) c d e f g h))))))
 (zP (decide ((a.length:Int)≤b))
 (((yH zO [.ptr 1000 0,dI 1] (zF a b c d e f g h) (.tup []) (zF a b c d e f g h)∧
 (λp:Prop=>((vW b a.length=true∧p)∧vW b a.length=true∧p))
 (∃q:Int,yH vV [.str ((yO .tok a b.toNat).text)] [] (.tup [dI q,.undef]) []∧
 R (dI (yU (1*q))) (zF a (yU (b+1)) c d e f g h)))∨
 ∃u,nK zO [.ptr 1000 0,dI 1] (zF a b c d e f g h) u∧T u))
 (vW b a.length=true∧zP (!decide (((yO .tok a b.toNat).kind)=2))
 (((yH zO [.ptr 1000 0,dI 1] (zF a b c d e f g h) (.tup []) (zF a b c d e f g h)∧
 (λp:Prop=>((vW b a.length=true∧p)∧vW b a.length=true∧p))
 (∃r:Int,yH vV [.str ((yO .tok a b.toNat).text)] [] (.tup [dI r,.undef]) []∧
 R (dI (yU (1*r))) (zF a (yU (b+1)) c d e f g h)))∨
 ∃u,nK zO [.ptr 1000 0,dI 1] (zF a b c d e f g h) u∧T u))
 (zP (decide ((1:Int)<0))
 (vW b a.length=true∧zP (decide (((yO .tok a b.toNat).text)=(⟨#[48]⟩:ByteArray)))
 (((yH zO [.ptr 1000 0,dI 1] (zF a b c d e f g h) (.tup []) (zF a b c d e f g h)∧
 (λp:Prop=>((vW b a.length=true∧p)∧vW b a.length=true∧p))
 (∃s:Int,yH vV [.str ((yO .tok a b.toNat).text)] [] (.tup [dI s,.undef]) []∧
 R (dI (yU (1*s))) (zF a (yU (b+1)) c d e f g h)))∨
 ∃u,nK zO [.ptr 1000 0,dI 1] (zF a b c d e f g h) u∧T u))
 ((λp:Prop=>((vW b a.length=true∧p)∧vW b a.length=true∧p))
 (∃t:Int,yH vV [.str ((yO .tok a b.toNat).text)] [] (.tup [dI t,.undef]) []∧
 R (dI (yU (1*t))) (zF a (yU (b+1)) c d e f g h))))
 ((λp:Prop=>((vW b a.length=true∧p)∧vW b a.length=true∧p))
 (∃v:Int,yH vV [.str ((yO .tok a b.toNat).text)] [] (.tup [dI v,.undef]) []∧
 R (dI (yU (1*v))) (zF a (yU (b+1)) c d e f g h))))))):=by kernel_rfl
theorem M5(a:List vL)(b c d e:Int)(f:List zN)(g:List zE)(h:List (ByteArray×Int)):WT XO Tryz.f157 zJ [.ptr 1000 0] (zF a b c d e f g h) [.ptr 1000 0] false:=UY Tryz.func157 (by kernel_rfl) Tryz.ntmps157 rfl
theorem M6(a:List vL)(b c d e:Int)(f:List zN)(g:List zE)(h:List (ByteArray×Int)):XR XO Tryz.f157 zJ [.ptr 1000 0] (zF a b c d e f g h) [.ptr 1000 0] false:=VW Tryz.func157 (by kernel_rfl) Tryz.ntmps157 rfl
def lP:wA:= {own:=[1,2,3,7,83,88],live:=[(0,([0,1,2,3,8,9,10],[1,2,3,1000,1001,2000,2001]))],n:=108,first:=true,clp:=true}
def iJ(R:pR)(T:Pu)(a:List ByteArray)(b:Nat)(c d:Int)(e f:List Int)(g:Int)(h:List (List Int))(i:List zC)(j:Int)(k l:List Int)(m:Int)(n:List (List Int))(o:List zC)(p:List vL)(q r s t:Int)(u:List (ByteArray×Int))(v:List zN)(w:List zE):Prop:=LP lP Tryz.f158 [1,1,0,1,0,0] 0 b ⟨[(0,.ptr 1000 0),(1,.ptr 1 0),(2,.ptr 2 0),(3,.ptr 3 0),(8,.sl .str a),(9,dI (a.length:Int)),(10,dI c)],[(1,.cells [.ptr 1000 0]),(2,.cells [dI d,.sl .int e,.sl .int f,dI g,dS h,.sl .lit i]),(3,.cells [dI j,.sl .int k,.sl .int l,dI m,dS n,.sl .lit o]),(1000,.cells [.sl .tok p,dI q,dI r,.own 2000,.own 2001,dI s,dI t,.own 1001]),(1001,.mp .str .int u),(2000,.row 72 .var v),(2001,.row 74 .con w)]⟩ (zQ 0 (sK lP Tryz.f158 [1,1,1] 0 (eX Tryz.f158 [.ptr 1000 0] false R T)))
theorem fh(R:pR)(T:Pu)(q:List ByteArray)(n0:Nat)(h c3:Int)(c4 c5:List Int)(c6:Int)(c7:List (List Int))(c8:List zC)(k:Int)(p o:List Int)(n:Int)(l:List (List Int))(m:List zC)(a:List vL)(i b c d:Int)(e:List (ByteArray×Int))(f:List zN)(g:List zE):iJ R T q (n0+1) h c3 c4 c5 c6 c7 c8 k p o n l m a i b c d e f g=
 (zP (decide (h<(q.length:Int)))
 (vW h q.length=true∧∃j:Int,∃az:Bool,yH yT [.ptr 1000 0,.str (yO .str q h.toNat)] (zF a i b c d f g e) (dB az) (zF a j b c d f g e)∧
 zP az
 (zP (decide ((yU (1+h))=0))
 (((yH zO [.ptr 1000 0,dI 1] (zF a j b c d f g e) (.tup []) (zF a j b c d f g e)∧
 R (.agg [dI (yU (1+h)),.sl .int p,.sl .int o,dI n,dS l,.sl .lit m]) (zF a j b c d f g e))∨
 ∃u,nK zO [.ptr 1000 0,dI 1] (zF a j b c d f g e) u∧T u))
 (zP (decide ((yU (1+h))=1))
 (((∃r:Int,∃ba:List Int,yH zL [.ptr 1000 0,.clp zJ true 1000 0] (zF a j b c d f g e) (.sl .int ba) (zF a r b c d f g e)∧
 ((∃s:Int,∃bb:List Int,yH zL [.ptr 1000 0,.clp zK true 1000 0] (zF a r b c d f g e) (.sl .int bb) (zF a s b c d f g e)∧
 ((∃bc:Int,∃bd:Int,yH zJ [.ptr 1000 0] (zF a s b c d f g e) (dI bd) (zF a bc b c d f g e)∧
 R (.agg [dI (yU (1+h)),.sl .int bb,.sl .int ba,dI bd,dS l,.sl .lit m]) (zF a bc b c d f g e))∨
 ∃u,nK zJ [.ptr 1000 0] (zF a s b c d f g e) u∧T u))∨
 ∃u,nK zL [.ptr 1000 0,.clp zK true 1000 0] (zF a r b c d f g e) u∧T u))∨
 ∃u,nK zL [.ptr 1000 0,.clp zJ true 1000 0] (zF a j b c d f g e) u∧T u))
 (zP (decide ((yU (1+h))=2))
 (((∃t:Int,∃be:List Int,yH zL [.ptr 1000 0,.clp zJ true 1000 0] (zF a j b c d f g e) (.sl .int be) (zF a t b c d f g e)∧
 ((∃v:Int,∃bf:List Int,yH zL [.ptr 1000 0,.clp zK true 1000 0] (zF a t b c d f g e) (.sl .int bf) (zF a v b c d f g e)∧
 ((∃bg:Int,∃bh:Int,yH zJ [.ptr 1000 0] (zF a v b c d f g e) (dI bh) (zF a bg b c d f g e)∧
 R (.agg [dI (yU (1+h)),.sl .int bf,.sl .int be,dI bh,dS l,.sl .lit m]) (zF a bg b c d f g e))∨
 ∃u,nK zJ [.ptr 1000 0] (zF a v b c d f g e) u∧T u))∨
 ∃u,nK zL [.ptr 1000 0,.clp zK true 1000 0] (zF a t b c d f g e) u∧T u))∨
 ∃u,nK zL [.ptr 1000 0,.clp zJ true 1000 0] (zF a j b c d f g e) u∧T u))
 (zP (decide ((yU (1+h))=3))
 (((∃w:Int,∃bi:List Int,yH zL [.ptr 1000 0,.clp zJ true 1000 0] (zF a j b c d f g e) (.sl .int bi) (zF a w b c d f g e)∧
 ((∃x:Int,∃bj:List Int,yH zL [.ptr 1000 0,.clp zK true 1000 0] (zF a w b c d f g e) (.sl .int bj) (zF a x b c d f g e)∧
 ((∃bk:Int,∃bl:Int,yH zJ [.ptr 1000 0] (zF a x b c d f g e) (dI bl) (zF a bk b c d f g e)∧
 R (.agg [dI (yU (1+h)),.sl .int bj,.sl .int bi,dI bl,dS l,.sl .lit m]) (zF a bk b c d f g e))∨
 ∃u,nK zJ [.ptr 1000 0] (zF a x b c d f g e) u∧T u))∨
 ∃u,nK zL [.ptr 1000 0,.clp zK true 1000 0] (zF a w b c d f g e) u∧T u))∨
 ∃u,nK zL [.ptr 1000 0,.clp zJ true 1000 0] (zF a j b c d f g e) u∧T u))
 (zP (decide ((yU (1+h))=4))
 (((∃bm:Int,∃bn:List Int,yH zL [.ptr 1000 0,.clp zK true 1000 0] (zF a j b c d f g e) (.sl .int bn) (zF a bm b c d f g e)∧
 R (.agg [dI (yU (1+h)),.sl .int bn,.sl .int o,dI n,dS l,.sl .lit m]) (zF a bm b c d f g e))∨
 ∃u,nK zL [.ptr 1000 0,.clp zK true 1000 0] (zF a j b c d f g e) u∧T u))
 (zP (decide ((yU (1+h))=5))
 (((∃y:Int,∃bo:List Int,yH zL [.ptr 1000 0,.clp zJ true 1000 0] (zF a j b c d f g e) (.sl .int bo) (zF a y b c d f g e)∧
 ((∃bp:Int,∃bq:List Int,yH xI [.ptr 1000 0,dI 2] (zF a y b c d f g e) (.sl .int bq) (zF a bp b c d f g e)∧
 R (.agg [dI (yU (1+h)),.sl .int bq,.sl .int bo,dI n,dS l,.sl .lit m]) (zF a bp b c d f g e))∨
 ∃u,nK xI [.ptr 1000 0,dI 2] (zF a y b c d f g e) u∧T u))∨
 ∃u,nK zL [.ptr 1000 0,.clp zJ true 1000 0] (zF a j b c d f g e) u∧T u))
 (zP (decide ((yU (1+h))=6))
 (((∃z:Int,∃br:List Int,yH zL [.ptr 1000 0,.clp zK true 1000 0] (zF a j b c d f g e) (.sl .int br) (zF a z b c d f g e)∧
 ((∃bs:Int,∃bt:List (List Int),yH sA [.ptr 1000 0,.clp yS false 1002 0] [(1000,.cells [.sl .tok a,dI z,dI b,.own 2000,.own 2001,dI c,dI d,.own 1001]),(2000,.row 72 .var f),(2001,.row 74 .con g),(1001,.mp .str .int e),(1002,.cells [.ptr 1000 0])] (dS bt) [(1000,.cells [.sl .tok a,dI bs,dI b,.own 2000,.own 2001,dI c,dI d,.own 1001]),(2000,.row 72 .var f),(2001,.row 74 .con g),(1001,.mp .str .int e),(1002,.cells [.ptr 1000 0])]∧
 R (.agg [dI (yU (1+h)),.sl .int br,.sl .int o,dI n,dS bt,.sl .lit m]) (zF a bs b c d f g e))∨
 ∃u,nK sA [.ptr 1000 0,.clp yS false 1002 0] [(1000,.cells [.sl .tok a,dI z,dI b,.own 2000,.own 2001,dI c,dI d,.own 1001]),(2000,.row 72 .var f),(2001,.row 74 .con g),(1001,.mp .str .int e),(1002,.cells [.ptr 1000 0])] u∧T u))∨
 ∃u,nK zL [.ptr 1000 0,.clp zK true 1000 0] (zF a j b c d f g e) u∧T u))
 (zP (decide ((yU (1+h))=7))
 (((∃bu:Int,∃bv:List Int,yH xI [.ptr 1000 0,dI 3] (zF a j b c d f g e) (.sl .int bv) (zF a bu b c d f g e)∧
 R (.agg [dI (yU (1+h)),.sl .int bv,.sl .int o,dI n,dS l,.sl .lit m]) (zF a bu b c d f g e))∨
 ∃u,nK xI [.ptr 1000 0,dI 3] (zF a j b c d f g e) u∧T u))
 (zP (decide ((yU (1+h))=8))
 (((∃aa:Int,∃ab:Int,yH zK [.ptr 1000 0] (zF a j b c d f g e) (dI ab) (zF a aa b c d f g e)∧
 ((∃bw:Int,∃ac:List Int,yH zL [.ptr 1000 0,.clp zK true 1000 0] (zF a aa b c d f g e) (.sl .int ac) (zF a bw b c d f g e)∧
 wN .int (([ab]).length+ac.length)=true∧R (.agg [dI (yU (1+h)),.sl .int (([ab])++ac),.sl .int o,dI n,dS l,.sl .lit m]) (zF a bw b c d f g e))∨
 ∃u,nK zL [.ptr 1000 0,.clp zK true 1000 0] (zF a aa b c d f g e) u∧T u))∨
 ∃u,nK zK [.ptr 1000 0] (zF a j b c d f g e) u∧T u))
 (zP (decide ((yU (1+h))=9))
 (((∃bx:Int,∃bz:List zC,yH uO [.ptr 1000 0,.clp yI true 1000 0] (zF a j b c d f g e) (.sl .lit bz) (zF a bx b c d f g e)∧
 R (.agg [dI (yU (1+h)),.sl .int p,.sl .int o,dI n,dS l,.sl .lit bz]) (zF a bx b c d f g e))∨
 ∃u,nK uO [.ptr 1000 0,.clp yI true 1000 0] (zF a j b c d f g e) u∧T u))
 (zP (decide ((yU (1+h))=10))
 (((∃ad:Int,∃ca:List Int,yH xI [.ptr 1000 0,dI 1] (zF a j b c d f g e) (.sl .int ca) (zF a ad b c d f g e)∧
 ((∃cb:Int,∃cc:zC,yH yI [.ptr 1000 0] (zF a ad b c d f g e) (dL cc) (zF a cb b c d f g e)∧
 R (.agg [dI (yU (1+h)),.sl .int ca,.sl .int o,dI n,dS l,.sl .lit ([cc])]) (zF a cb b c d f g e))∨
 ∃u,nK yI [.ptr 1000 0] (zF a ad b c d f g e) u∧T u))∨
 ∃u,nK xI [.ptr 1000 0,dI 1] (zF a j b c d f g e) u∧T u))
 (R (.agg [dI (yU (1+h)),.sl .int p,.sl .int o,dI n,dS l,.sl .lit m]) (zF a j b c d f g e)))))))))))))
 (iJ R T q n0 (yU (h+1)) c3 c4 c5 c6 c7 c8 k p o n l m a j b c d e f g))
 (zP (decide (k=0))
 (((yH zO [.ptr 1000 0,dI 1] (zF a i b c d f g e) (.tup []) (zF a i b c d f g e)∧
 R (.agg [dI k,.sl .int p,.sl .int o,dI n,dS l,.sl .lit m]) (zF a i b c d f g e))∨
 ∃u,nK zO [.ptr 1000 0,dI 1] (zF a i b c d f g e) u∧T u))
 (zP (decide (k=1))
 (((∃ae:Int,∃cd:List Int,yH zL [.ptr 1000 0,.clp zJ true 1000 0] (zF a i b c d f g e) (.sl .int cd) (zF a ae b c d f g e)∧
 ((∃af:Int,∃ce:List Int,yH zL [.ptr 1000 0,.clp zK true 1000 0] (zF a ae b c d f g e) (.sl .int ce) (zF a af b c d f g e)∧
 ((∃cf:Int,∃cg:Int,yH zJ [.ptr 1000 0] (zF a af b c d f g e) (dI cg) (zF a cf b c d f g e)∧
 R (.agg [dI k,.sl .int ce,.sl .int cd,dI cg,dS l,.sl .lit m]) (zF a cf b c d f g e))∨
 ∃u,nK zJ [.ptr 1000 0] (zF a af b c d f g e) u∧T u))∨
 ∃u,nK zL [.ptr 1000 0,.clp zK true 1000 0] (zF a ae b c d f g e) u∧T u))∨
 ∃u,nK zL [.ptr 1000 0,.clp zJ true 1000 0] (zF a i b c d f g e) u∧T u))
 (zP (decide (k=2))
 (((∃ag:Int,∃ch:List Int,yH zL [.ptr 1000 0,.clp zJ true 1000 0] (zF a i b c d f g e) (.sl .int ch) (zF a ag b c d f g e)∧
 ((∃ah:Int,∃ci:List Int,yH zL [.ptr 1000 0,.clp zK true 1000 0] (zF a ag b c d f g e) (.sl .int ci) (zF a ah b c d f g e)∧
 ((∃cj:Int,∃ck:Int,yH zJ [.ptr 1000 0] (zF a ah b c d f g e) (dI ck) (zF a cj b c d f g e)∧
 R (.agg [dI k,.sl .int ci,.sl .int ch,dI ck,dS l,.sl .lit m]) (zF a cj b c d f g e))∨
 ∃u,nK zJ [.ptr 1000 0] (zF a ah b c d f g e) u∧T u))∨
 ∃u,nK zL [.ptr 1000 0,.clp zK true 1000 0] (zF a ag b c d f g e) u∧T u))∨
 ∃u,nK zL [.ptr 1000 0,.clp zJ true 1000 0] (zF a i b c d f g e) u∧T u))
 (zP (decide (k=3))
 (((∃ai:Int,∃cl:List Int,yH zL [.ptr 1000 0,.clp zJ true 1000 0] (zF a i b c d f g e) (.sl .int cl) (zF a ai b c d f g e)∧
 ((∃aj:Int,∃cm:List Int,yH zL [.ptr 1000 0,.clp zK true 1000 0] (zF a ai b c d f g e) (.sl .int cm) (zF a aj b c d f g e)∧
 ((∃cn:Int,∃co:Int,yH zJ [.ptr 1000 0] (zF a aj b c d f g e) (dI co) (zF a cn b c d f g e)∧
 R (.agg [dI k,.sl .int cm,.sl .int cl,dI co,dS l,.sl .lit m]) (zF a cn b c d f g e))∨
 ∃u,nK zJ [.ptr 1000 0] (zF a aj b c d f g e) u∧T u))∨
 ∃u,nK zL [.ptr 1000 0,.clp zK true 1000 0] (zF a ai b c d f g e) u∧T u))∨
 ∃u,nK zL [.ptr 1000 0,.clp zJ true 1000 0] (zF a i b c d f g e) u∧T u))
 (zP (decide (k=4))
 (((∃cp:Int,∃cq:List Int,yH zL [.ptr 1000 0,.clp zK true 1000 0] (zF a i b c d f g e) (.sl .int cq) (zF a cp b c d f g e)∧
 R (.agg [dI k,.sl .int cq,.sl .int o,dI n,dS l,.sl .lit m]) (zF a cp b c d f g e))∨
 ∃u,nK zL [.ptr 1000 0,.clp zK true 1000 0] (zF a i b c d f g e) u∧T u))
 (zP (decide (k=5))
 (((∃ak:Int,∃cr:List Int,yH zL [.ptr 1000 0,.clp zJ true 1000 0] (zF a i b c d f g e) (.sl .int cr) (zF a ak b c d f g e)∧
 ((∃cs:Int,∃ct:List Int,yH xI [.ptr 1000 0,dI 2] (zF a ak b c d f g e) (.sl .int ct) (zF a cs b c d f g e)∧
 R (.agg [dI k,.sl .int ct,.sl .int cr,dI n,dS l,.sl .lit m]) (zF a cs b c d f g e))∨
 ∃u,nK xI [.ptr 1000 0,dI 2] (zF a ak b c d f g e) u∧T u))∨
 ∃u,nK zL [.ptr 1000 0,.clp zJ true 1000 0] (zF a i b c d f g e) u∧T u))
 (zP (decide (k=6))
 (((∃al:Int,∃cu:List Int,yH zL [.ptr 1000 0,.clp zK true 1000 0] (zF a i b c d f g e) (.sl .int cu) (zF a al b c d f g e)∧
 ((∃cv:Int,∃cw:List (List Int),yH sA [.ptr 1000 0,.clp yS false 1002 0] [(1000,.cells [.sl .tok a,dI al,dI b,.own 2000,.own 2001,dI c,dI d,.own 1001]),(2000,.row 72 .var f),(2001,.row 74 .con g),(1001,.mp .str .int e),(1002,.cells [.ptr 1000 0])] (dS cw) [(1000,.cells [.sl .tok a,dI cv,dI b,.own 2000,.own 2001,dI c,dI d,.own 1001]),(2000,.row 72 .var f),(2001,.row 74 .con g),(1001,.mp .str .int e),(1002,.cells [.ptr 1000 0])]∧
 R (.agg [dI k,.sl .int cu,.sl .int o,dI n,dS cw,.sl .lit m]) (zF a cv b c d f g e))∨
 ∃u,nK sA [.ptr 1000 0,.clp yS false 1002 0] [(1000,.cells [.sl .tok a,dI al,dI b,.own 2000,.own 2001,dI c,dI d,.own 1001]),(2000,.row 72 .var f),(2001,.row 74 .con g),(1001,.mp .str .int e),(1002,.cells [.ptr 1000 0])] u∧T u))∨
 ∃u,nK zL [.ptr 1000 0,.clp zK true 1000 0] (zF a i b c d f g e) u∧T u))
 (zP (decide (k=7))
 (((∃cx:Int,∃cy:List Int,yH xI [.ptr 1000 0,dI 3] (zF a i b c d f g e) (.sl .int cy) (zF a cx b c d f g e)∧
 R (.agg [dI k,.sl .int cy,.sl .int o,dI n,dS l,.sl .lit m]) (zF a cx b c d f g e))∨
 ∃u,nK xI [.ptr 1000 0,dI 3] (zF a i b c d f g e) u∧T u))
 (zP (decide (k=8))
 (((∃am:Int,∃an:Int,yH zK [.ptr 1000 0] (zF a i b c d f g e) (dI an) (zF a am b c d f g e)∧
 ((∃cz:Int,∃ao:List Int,yH zL [.ptr 1000 0,.clp zK true 1000 0] (zF a am b c d f g e) (.sl .int ao) (zF a cz b c d f g e)∧
 wN .int (([an]).length+ao.length)=true∧R (.agg [dI k,.sl .int (([an])++ao),.sl .int o,dI n,dS l,.sl .lit m]) (zF a cz b c d f g e))∨
 ∃u,nK zL [.ptr 1000 0,.clp zK true 1000 0] (zF a am b c d f g e) u∧T u))∨
 ∃u,nK zK [.ptr 1000 0] (zF a i b c d f g e) u∧T u))
 (zP (decide (k=9))
 (((∃da:Int,∃db:List zC,yH uO [.ptr 1000 0,.clp yI true 1000 0] (zF a i b c d f g e) (.sl .lit db) (zF a da b c d f g e)∧
 R (.agg [dI k,.sl .int p,.sl .int o,dI n,dS l,.sl .lit db]) (zF a da b c d f g e))∨
 ∃u,nK uO [.ptr 1000 0,.clp yI true 1000 0] (zF a i b c d f g e) u∧T u))
 (zP (decide (k=10))
 (((∃ap:Int,∃dc:List Int,yH xI [.ptr 1000 0,dI 1] (zF a i b c d f g e) (.sl .int dc) (zF a ap b c d f g e)∧
 ((∃dd:Int,∃de:zC,yH yI [.ptr 1000 0] (zF a ap b c d f g e) (dL de) (zF a dd b c d f g e)∧
 R (.agg [dI k,.sl .int dc,.sl .int o,dI n,dS l,.sl .lit ([de])]) (zF a dd b c d f g e))∨
 ∃u,nK yI [.ptr 1000 0] (zF a ap b c d f g e) u∧T u))∨
 ∃u,nK xI [.ptr 1000 0,dI 1] (zF a i b c d f g e) u∧T u))
 (R (.agg [dI k,.sl .int p,.sl .int o,dI n,dS l,.sl .lit m]) (zF a i b c d f g e)))))))))))))):=by kernel_rfl
theorem NG(a:List vL)(b c d e:Int)(f:List zN)(g:List zE)(h:List (ByteArray×Int))(R:pR)(T:Pu):FX lP Tryz.f158 [.ptr 1000 0] (zF a b c d e f g h) [.ptr 1000 0] false R T=
 (xK X7 [] (.list .str) λi=>
 ∃n0,iJ R T i n0 0 0 ([]:List Int) ([]:List Int) 0 ([]:List (List Int)) ([]:List zC) 0 ([]:List Int) ([]:List Int) 0 ([]:List (List Int)) ([]:List zC) a b c d e h f g):=by kernel_rfl
theorem P3(a:List vL)(b c d e:Int)(f:List zN)(g:List zE)(h:List (ByteArray×Int)):WT lP Tryz.f158 qP [.ptr 1000 0] (zF a b c d e f g h) [.ptr 1000 0] false:=UY Tryz.func158 (by kernel_rfl) Tryz.ntmps158 rfl
theorem P4(a:List vL)(b c d e:Int)(f:List zN)(g:List zE)(h:List (ByteArray×Int)):XR lP Tryz.f158 qP [.ptr 1000 0] (zF a b c d e f g h) [.ptr 1000 0] false:=VW Tryz.func158 (by kernel_rfl) Tryz.ntmps158 rfl
def XP:wA:= {own:=[],live:=[],n:=27,first:=true,tdraw:=true}
theorem KQ(b:List vL)(c d e f:Int)(g:List zN)(h:List zE)(a:List (ByteArray×Int))(R:pR)(T:Pu):FX XP Tryz.f159 [.ptr 1000 0] (zF b c d e f g h a) [.ptr 1000 0] false R T=
 ((λp:Prop=>((p)∧p))
 (((∃i:ByteArray,yH uI [.ptr 1000 0] (zF b c d e f g h a) (.str i) (zF b c d e f g h a)∧
 (λp:Prop=>((((p)∧p))∧p))
 (zP (!(PK .str .int i a))
 (((yH zO [.ptr 1000 0,dI 5] (zF b c d e f g h a) (.tup []) (zF b c d e f g h a)∧
 R (dI (kJ .str .int i a)) (zF b (yU (c+1)) d e f g h a))∨
 ∃u,nK zO [.ptr 1000 0,dI 5] (zF b c d e f g h a) u∧T u))
 (R (dI (kJ .str .int i a)) (zF b (yU (c+1)) d e f g h a))))∨
 ∃u,nK uI [.ptr 1000 0] (zF b c d e f g h a) u∧T u))):=by kernel_rfl
theorem M7(a:List vL)(b c d e:Int)(f:List zN)(g:List zE)(h:List (ByteArray×Int)):WT XP Tryz.f159 zK [.ptr 1000 0] (zF a b c d e f g h) [.ptr 1000 0] false:=UY Tryz.func159 (by kernel_rfl) Tryz.ntmps159 rfl
theorem M8(a:List vL)(b c d e:Int)(f:List zN)(g:List zE)(h:List (ByteArray×Int)):XR XP Tryz.f159 zK [.ptr 1000 0] (zF a b c d e f g h) [.ptr 1000 0] false:=VW Tryz.func159 (by kernel_rfl) Tryz.ntmps159 rfl
def W6:wA:= {own:=[],live:=[],n:=9,first:=true}
theorem P5(a:List vL)(b c d e:Int)(f:List zN)(g:List zE)(h:List (ByteArray×Int))(i:Int)(R:pR)(T:Pu):FX W6 Tryz.f160 [.ptr 1000 0,dI i] (zF a b c d e f g h) [.ptr 1000 0] false R T=
 (∃j:Int,yH iD [.ptr 1000 0] (zF a b c d e f g h) (dI j) (zF a b c d e f g h)∧
 T (.iface 158 (.agg [.int .i64 j,.int .i64 i].toArray))):=by kernel_rfl
theorem Qw(a:List vL)(b c d e:Int)(f:List zN)(g:List zE)(h:List (ByteArray×Int))(i:Int):XR W6 Tryz.f160 zO [.ptr 1000 0,dI i] (zF a b c d e f g h) [.ptr 1000 0] false:=VW Tryz.func160 (by kernel_rfl) Tryz.ntmps160 rfl
def lQ:wA:= {own:=[14,22],live:=[(0,([0,1,5],[14,1000,1001,2000,2001]))],n:=27,first:=true,clp:=true}
def iL(R:pR)(T:Pu)(a:Nat)(b:List Int)(c:List vL)(d e f g:Int)(h:List (ByteArray×Int))(i:List zN)(j:List zE):Prop:=LP lQ Tryz.f211 [1,1,1,1,0,0,0] 0 a ⟨[(0,.ptr 1000 0),(1,.clp zJ true 1000 0),(5,.own 14)],[(14,.row 3 .int b),(1000,.cells [.sl .tok c,dI d,dI e,.own 2000,.own 2001,dI f,dI g,.own 1001]),(1001,.mp .str .int h),(2000,.row 72 .var i),(2001,.row 74 .con j)]⟩ (zQ 0 (sK lQ Tryz.f211 [1,1,1,1,1] 0 (eX Tryz.f211 [.ptr 1000 0] false R T)))
theorem fi(R:pR)(T:Pu)(k:Nat)(i:List Int)(a:List vL)(l b c d:Int)(e:List (ByteArray×Int))(f:List zN)(g:List zE):iL R T (k+1) i a l b c d e f g=
 (∃h:Int,∃m:Bool,yH yT [.ptr 1000 0,.str (⟨#[44]⟩:ByteArray)] (zF a l b c d f g e) (dB m) (zF a h b c d f g e)∧
 zP m
 (((∃n:Int,∃j:Int,yH zJ [.ptr 1000 0] (zF a h b c d f g e) (dI j) (zF a n b c d f g e)∧
 wN .int (i.length+([j]).length)=true∧iL R T k (i++([j])) a n b c d e f g)∨
 ∃u,nK zJ [.ptr 1000 0] (zF a h b c d f g e) u∧T u))
 (((∃o:Int,yH zI [.ptr 1000 0,.sl .str ([(⟨#[93]⟩:ByteArray)])] (zF a h b c d f g e) (.tup []) (zF a o b c d f g e)∧
 R (.sl .int i) (zF a o b c d f g e))∨
 ∃u,nK zI [.ptr 1000 0,.sl .str ([(⟨#[93]⟩:ByteArray)])] (zF a h b c d f g e) u∧T u))):=by kernel_rfl
theorem NH(a:List vL)(i b c d:Int)(e:List zN)(f:List zE)(g:List (ByteArray×Int))(R:pR)(T:Pu):FX lQ Tryz.f211 [.ptr 1000 0,.clp zJ true 1000 0] (zF a i b c d e f g) [.ptr 1000 0] false R T=
 (((∃j:Int,yH zI [.ptr 1000 0,.sl .str ([(⟨#[91]⟩:ByteArray)])] (zF a i b c d e f g) (.tup []) (zF a j b c d e f g)∧
 ∃h:Int,∃k:Bool,yH yT [.ptr 1000 0,.str (⟨#[93]⟩:ByteArray)] (zF a j b c d e f g) (dB k) (zF a h b c d e f g)∧
 zP k
 (R (.sl .int ([]:List Int)) (zF a h b c d e f g))
 (((∃l:Int,∃m:Int,yH zJ [.ptr 1000 0] (zF a h b c d e f g) (dI m) (zF a l b c d e f g)∧
 ∃n0,iL R T n0 ([m]) a l b c d g e f)∨
 ∃u,nK zJ [.ptr 1000 0] (zF a h b c d e f g) u∧T u)))∨
 ∃u,nK zI [.ptr 1000 0,.sl .str ([(⟨#[91]⟩:ByteArray)])] (zF a i b c d e f g) u∧T u)):=by kernel_rfl
theorem P6(a:List vL)(b c d e:Int)(f:List zN)(g:List zE)(h:List (ByteArray×Int)):WT lQ Tryz.f211 zL [.ptr 1000 0,.clp zJ true 1000 0] (zF a b c d e f g h) [.ptr 1000 0] false:=UY Tryz.func211 (by kernel_rfl) Tryz.ntmps211 rfl
theorem P7(a:List vL)(b c d e:Int)(f:List zN)(g:List zE)(h:List (ByteArray×Int)):XR lQ Tryz.f211 zL [.ptr 1000 0,.clp zJ true 1000 0] (zF a b c d e f g h) [.ptr 1000 0] false:=VW Tryz.func211 (by kernel_rfl) Tryz.ntmps211 rfl
def lR:wA:= {own:=[14,22],live:=[(0,([0,1,5],[14,1000,1001,2000,2001]))],n:=27,first:=true,clp:=true}
def iM(R:pR)(T:Pu)(a:Nat)(b:List Int)(c:List vL)(d e f g:Int)(h:List (ByteArray×Int))(i:List zN)(j:List zE):Prop:=LP lR Tryz.f211 [1,1,1,1,0,0,0] 0 a ⟨[(0,.ptr 1000 0),(1,.clp zK true 1000 0),(5,.own 14)],[(14,.row 3 .int b),(1000,.cells [.sl .tok c,dI d,dI e,.own 2000,.own 2001,dI f,dI g,.own 1001]),(1001,.mp .str .int h),(2000,.row 72 .var i),(2001,.row 74 .con j)]⟩ (zQ 0 (sK lR Tryz.f211 [1,1,1,1,1] 0 (eX Tryz.f211 [.ptr 1000 0] false R T)))
theorem fj(R:pR)(T:Pu)(k:Nat)(i:List Int)(a:List vL)(l b c d:Int)(e:List (ByteArray×Int))(f:List zN)(g:List zE):iM R T (k+1) i a l b c d e f g=
 (∃h:Int,∃m:Bool,yH yT [.ptr 1000 0,.str (⟨#[44]⟩:ByteArray)] (zF a l b c d f g e) (dB m) (zF a h b c d f g e)∧
 zP m
 (((∃n:Int,∃j:Int,yH zK [.ptr 1000 0] (zF a h b c d f g e) (dI j) (zF a n b c d f g e)∧
 wN .int (i.length+([j]).length)=true∧iM R T k (i++([j])) a n b c d e f g)∨
 ∃u,nK zK [.ptr 1000 0] (zF a h b c d f g e) u∧T u))
 (((∃o:Int,yH zI [.ptr 1000 0,.sl .str ([(⟨#[93]⟩:ByteArray)])] (zF a h b c d f g e) (.tup []) (zF a o b c d f g e)∧
 R (.sl .int i) (zF a o b c d f g e))∨
 ∃u,nK zI [.ptr 1000 0,.sl .str ([(⟨#[93]⟩:ByteArray)])] (zF a h b c d f g e) u∧T u))):=by kernel_rfl
theorem NI(a:List vL)(i b c d:Int)(e:List zN)(f:List zE)(g:List (ByteArray×Int))(R:pR)(T:Pu):FX lR Tryz.f211 [.ptr 1000 0,.clp zK true 1000 0] (zF a i b c d e f g) [.ptr 1000 0] false R T=
 (((∃j:Int,yH zI [.ptr 1000 0,.sl .str ([(⟨#[91]⟩:ByteArray)])] (zF a i b c d e f g) (.tup []) (zF a j b c d e f g)∧
 ∃h:Int,∃k:Bool,yH yT [.ptr 1000 0,.str (⟨#[93]⟩:ByteArray)] (zF a j b c d e f g) (dB k) (zF a h b c d e f g)∧
 zP k
 (R (.sl .int ([]:List Int)) (zF a h b c d e f g))
 (((∃l:Int,∃m:Int,yH zK [.ptr 1000 0] (zF a h b c d e f g) (dI m) (zF a l b c d e f g)∧
 ∃n0,iM R T n0 ([m]) a l b c d g e f)∨
 ∃u,nK zK [.ptr 1000 0] (zF a h b c d e f g) u∧T u)))∨
 ∃u,nK zI [.ptr 1000 0,.sl .str ([(⟨#[91]⟩:ByteArray)])] (zF a i b c d e f g) u∧T u)):=by kernel_rfl
theorem P8(a:List vL)(b c d e:Int)(f:List zN)(g:List zE)(h:List (ByteArray×Int)):WT lR Tryz.f211 zL [.ptr 1000 0,.clp zK true 1000 0] (zF a b c d e f g h) [.ptr 1000 0] false:=UY Tryz.func211 (by kernel_rfl) Tryz.ntmps211 rfl
theorem P9(a:List vL)(b c d e:Int)(f:List zN)(g:List zE)(h:List (ByteArray×Int)):XR lR Tryz.f211 zL [.ptr 1000 0,.clp zK true 1000 0] (zF a b c d e f g h) [.ptr 1000 0] false:=VW Tryz.func211 (by kernel_rfl) Tryz.ntmps211 rfl
def mA:wA:= {own:=[5,15],live:=[(0,([0,5,7,8],[5,1000,1001,2000,2001]))],n:=18,first:=true}
def kU(a:Int)(R:pR)(T:Pu)(b:Nat)(c:Int)(d:List Int)(e:List vL)(f g h i:Int)(j:List (ByteArray×Int))(k:List zN)(l:List zE):Prop:=LP mA Tryz.f212 [1,1,0,1,0,0] 0 b ⟨[(0,.ptr 1000 0),(5,.own 5),(7,dI a),(8,dI c)],[(5,.row 3 .int d),(1000,.cells [.sl .tok e,dI f,dI g,.own 2000,.own 2001,dI h,dI i,.own 1001]),(1001,.mp .str .int j),(2000,.row 72 .var k),(2001,.row 74 .con l)]⟩ (zQ 0 (sK mA Tryz.f212 [1,1,1] 0 (eX Tryz.f212 [.ptr 1000 0] false R T)))
theorem iN(j:Int)(R:pR)(T:Pu)(m:Nat)(k:Int)(h:List Int)(a:List vL)(i b c d:Int)(e:List (ByteArray×Int))(f:List zN)(g:List zE):kU j R T (m+1) k h a i b c d e f g=
 (zP (decide (k<j))
 (((∃n:Int,∃l:Int,yH zK [.ptr 1000 0] (zF a i b c d f g e) (dI l) (zF a n b c d f g e)∧
 wN .int (h.length+([l]).length)=true∧kU j R T m (yU (k+1)) (h++([l])) a n b c d e f g)∨
 ∃u,nK zK [.ptr 1000 0] (zF a i b c d f g e) u∧T u))
 (R (.sl .int h) (zF a i b c d f g e))):=by kernel_rfl
theorem Oa(a:List vL)(b c d e:Int)(f:List zN)(g:List zE)(h:List (ByteArray×Int))(i:Int)(R:pR)(T:Pu):FX mA Tryz.f212 [.ptr 1000 0,dI i] (zF a b c d e f g h) [.ptr 1000 0] false R T=
 (∃n0,kU i R T n0 0 ([]:List Int) a b c d e h f g):=by kernel_rfl
theorem Qx(a:List vL)(b c d e:Int)(f:List zN)(g:List zE)(h:List (ByteArray×Int))(i:Int):WT mA Tryz.f212 xI [.ptr 1000 0,dI i] (zF a b c d e f g h) [.ptr 1000 0] false:=UY Tryz.func212 (by kernel_rfl) Tryz.ntmps212 rfl
theorem Qy(a:List vL)(b c d e:Int)(f:List zN)(g:List zE)(h:List (ByteArray×Int))(i:Int):XR mA Tryz.f212 xI [.ptr 1000 0,dI i] (zF a b c d e f g h) [.ptr 1000 0] false:=VW Tryz.func212 (by kernel_rfl) Tryz.ntmps212 rfl
def lS:wA:= {own:=[14,22],live:=[(0,([0,1,5],[14,1000,1001,1002,2000,2001]))],n:=27,first:=true,clp:=true}
def iO(R:pR)(T:Pu)(a:Nat)(b:List (List Int))(c:List vL)(d e f g:Int)(h:List (ByteArray×Int))(i:List zN)(j:List zE):Prop:=LP lS Tryz.f213 [1,1,1,1,0,0,0] 0 a ⟨[(0,.ptr 1000 0),(1,.clp yS false 1002 0),(5,.own 14)],[(14,.row 40 (.list .int) b),(1000,.cells [.sl .tok c,dI d,dI e,.own 2000,.own 2001,dI f,dI g,.own 1001]),(1001,.mp .str .int h),(1002,.cells [.ptr 1000 0]),(2000,.row 72 .var i),(2001,.row 74 .con j)]⟩ (zQ 0 (sK lS Tryz.f213 [1,1,1,1,1] 0 (eX Tryz.f213 [.ptr 1000 0,.ptr 1002 0] false R T)))
theorem fk(R:pR)(T:Pu)(k:Nat)(i:List (List Int))(a:List vL)(l b c d:Int)(e:List (ByteArray×Int))(f:List zN)(g:List zE):iO R T (k+1) i a l b c d e f g=
 (∃h:Int,∃m:Bool,yH yT [.ptr 1000 0,.str (⟨#[44]⟩:ByteArray)] (zF a l b c d f g e) (dB m) (zF a h b c d f g e)∧
 zP m
 (((∃n:Int,∃j:List Int,yH yS [.ptr 1000 0] [(1000,.cells [.ptr 1001 0]),(1001,.cells [.sl .tok a,dI h,dI b,.own 2000,.own 2001,dI c,dI d,.own 1002]),(2000,.row 72 .var f),(2001,.row 74 .con g),(1002,.mp .str .int e)] (.sl .int j) [(1000,.cells [.ptr 1001 0]),(1001,.cells [.sl .tok a,dI n,dI b,.own 2000,.own 2001,dI c,dI d,.own 1002]),(2000,.row 72 .var f),(2001,.row 74 .con g),(1002,.mp .str .int e)]∧
 wN (.list .int) (i.length+([j]).length)=true∧iO R T k (i++([j])) a n b c d e f g)∨
 ∃u,nK yS [.ptr 1000 0] [(1000,.cells [.ptr 1001 0]),(1001,.cells [.sl .tok a,dI h,dI b,.own 2000,.own 2001,dI c,dI d,.own 1002]),(2000,.row 72 .var f),(2001,.row 74 .con g),(1002,.mp .str .int e)] u∧T u))
 (((∃o:Int,yH zI [.ptr 1000 0,.sl .str ([(⟨#[93]⟩:ByteArray)])] (zF a h b c d f g e) (.tup []) (zF a o b c d f g e)∧
 R (dS i) [(1000,.cells [.sl .tok a,dI o,dI b,.own 2000,.own 2001,dI c,dI d,.own 1001]),(2000,.row 72 .var f),(2001,.row 74 .con g),(1001,.mp .str .int e),(1002,.cells [.ptr 1000 0])])∨
 ∃u,nK zI [.ptr 1000 0,.sl .str ([(⟨#[93]⟩:ByteArray)])] (zF a h b c d f g e) u∧T u))):=by kernel_rfl
theorem NJ(a:List vL)(i b c d:Int)(e:List zN)(f:List zE)(g:List (ByteArray×Int))(R:pR)(T:Pu):FX lS Tryz.f213 [.ptr 1000 0,.clp yS false 1002 0] [(1000,.cells [.sl .tok a,dI i,dI b,.own 2000,.own 2001,dI c,dI d,.own 1001]),(2000,.row 72 .var e),(2001,.row 74 .con f),(1001,.mp .str .int g),(1002,.cells [.ptr 1000 0])] [.ptr 1000 0,.ptr 1002 0] false R T=
 (((∃j:Int,yH zI [.ptr 1000 0,.sl .str ([(⟨#[91]⟩:ByteArray)])] (zF a i b c d e f g) (.tup []) (zF a j b c d e f g)∧
 ∃h:Int,∃k:Bool,yH yT [.ptr 1000 0,.str (⟨#[93]⟩:ByteArray)] (zF a j b c d e f g) (dB k) (zF a h b c d e f g)∧
 zP k
 (R (dS ([]:List (List Int))) [(1000,.cells [.sl .tok a,dI h,dI b,.own 2000,.own 2001,dI c,dI d,.own 1001]),(2000,.row 72 .var e),(2001,.row 74 .con f),(1001,.mp .str .int g),(1002,.cells [.ptr 1000 0])])
 (((∃l:Int,∃m:List Int,yH yS [.ptr 1000 0] [(1000,.cells [.ptr 1001 0]),(1001,.cells [.sl .tok a,dI h,dI b,.own 2000,.own 2001,dI c,dI d,.own 1002]),(2000,.row 72 .var e),(2001,.row 74 .con f),(1002,.mp .str .int g)] (.sl .int m) [(1000,.cells [.ptr 1001 0]),(1001,.cells [.sl .tok a,dI l,dI b,.own 2000,.own 2001,dI c,dI d,.own 1002]),(2000,.row 72 .var e),(2001,.row 74 .con f),(1002,.mp .str .int g)]∧
 ∃n0,iO R T n0 ([m]) a l b c d g e f)∨
 ∃u,nK yS [.ptr 1000 0] [(1000,.cells [.ptr 1001 0]),(1001,.cells [.sl .tok a,dI h,dI b,.own 2000,.own 2001,dI c,dI d,.own 1002]),(2000,.row 72 .var e),(2001,.row 74 .con f),(1002,.mp .str .int g)] u∧T u)))∨
 ∃u,nK zI [.ptr 1000 0,.sl .str ([(⟨#[91]⟩:ByteArray)])] (zF a i b c d e f g) u∧T u)):=by kernel_rfl
theorem Ob(a:List vL)(b c d e:Int)(f:List zN)(g:List zE)(h:List (ByteArray×Int)):WT lS Tryz.f213 sA [.ptr 1000 0,.clp yS false 1002 0] [(1000,.cells [.sl .tok a,dI b,dI c,.own 2000,.own 2001,dI d,dI e,.own 1001]),(2000,.row 72 .var f),(2001,.row 74 .con g),(1001,.mp .str .int h),(1002,.cells [.ptr 1000 0])] [.ptr 1000 0,.ptr 1002 0] false:=UY Tryz.func213 (by kernel_rfl) Tryz.ntmps213 rfl
theorem Oc(a:List vL)(b c d e:Int)(f:List zN)(g:List zE)(h:List (ByteArray×Int)):XR lS Tryz.f213 sA [.ptr 1000 0,.clp yS false 1002 0] [(1000,.cells [.sl .tok a,dI b,dI c,.own 2000,.own 2001,dI d,dI e,.own 1001]),(2000,.row 72 .var f),(2001,.row 74 .con g),(1001,.mp .str .int h),(1002,.cells [.ptr 1000 0])] [.ptr 1000 0,.ptr 1002 0] false:=VW Tryz.func213 (by kernel_rfl) Tryz.ntmps213 rfl
def cF:wA:= {own:=[],live:=[],n:=6,first:=true,clp:=true}
theorem Qz(a:List vL)(h b c d:Int)(e:List zN)(f:List zE)(g:List (ByteArray×Int))(R:pR)(T:Pu):FX cF Tryz.f214 [.ptr 1000 0] [(1000,.cells [.ptr 1001 0]),(1001,.cells [.sl .tok a,dI h,dI b,.own 2000,.own 2001,dI c,dI d,.own 1002]),(2000,.row 72 .var e),(2001,.row 74 .con f),(1002,.mp .str .int g)] [.ptr 1000 0] false R T=
 (((∃i:Int,∃j:List Int,yH zL [.ptr 1000 0,.clp zJ true 1000 0] (zF a h b c d e f g) (.sl .int j) (zF a i b c d e f g)∧
 R (.sl .int j) [(1000,.cells [.ptr 1001 0]),(1001,.cells [.sl .tok a,dI i,dI b,.own 2000,.own 2001,dI c,dI d,.own 1002]),(2000,.row 72 .var e),(2001,.row 74 .con f),(1002,.mp .str .int g)])∨
 ∃u,nK zL [.ptr 1000 0,.clp zJ true 1000 0] (zF a h b c d e f g) u∧T u)):=by kernel_rfl
theorem Rr(a:List vL)(b c d e:Int)(f:List zN)(g:List zE)(h:List (ByteArray×Int)):WT cF Tryz.f214 yS [.ptr 1000 0] [(1000,.cells [.ptr 1001 0]),(1001,.cells [.sl .tok a,dI b,dI c,.own 2000,.own 2001,dI d,dI e,.own 1002]),(2000,.row 72 .var f),(2001,.row 74 .con g),(1002,.mp .str .int h)] [.ptr 1000 0] false:=UY Tryz.func214 (by kernel_rfl) Tryz.ntmps214 rfl
theorem Rs(a:List vL)(b c d e:Int)(f:List zN)(g:List zE)(h:List (ByteArray×Int)):XR cF Tryz.f214 yS [.ptr 1000 0] [(1000,.cells [.ptr 1001 0]),(1001,.cells [.sl .tok a,dI b,dI c,.own 2000,.own 2001,dI d,dI e,.own 1002]),(2000,.row 72 .var f),(2001,.row 74 .con g),(1002,.mp .str .int h)] [.ptr 1000 0] false:=VW Tryz.func214 (by kernel_rfl) Tryz.ntmps214 rfl
def oX:wA:= {own:=[6,14,22],live:=[(0,([0,1,5],[14,1000,1001,2000,2001]))],n:=27,first:=true,clp:=true}
def lT(R:pR)(T:Pu)(a:Nat)(b:List zC)(c:List vL)(d e f g:Int)(h:List (ByteArray×Int))(i:List zN)(j:List zE):Prop:=LP oX Tryz.f215 [1,1,1,1,0,0,0] 0 a ⟨[(0,.ptr 1000 0),(1,.clp yI true 1000 0),(5,.own 14)],[(14,.row 114 .lit b),(1000,.cells [.sl .tok c,dI d,dI e,.own 2000,.own 2001,dI f,dI g,.own 1001]),(1001,.mp .str .int h),(2000,.row 72 .var i),(2001,.row 74 .con j)]⟩ (zQ 0 (sK oX Tryz.f215 [1,1,1,1,1] 0 (eX Tryz.f215 [.ptr 1000 0] false R T)))
theorem jB(R:pR)(T:Pu)(k:Nat)(i:List zC)(a:List vL)(l b c d:Int)(e:List (ByteArray×Int))(f:List zN)(g:List zE):lT R T (k+1) i a l b c d e f g=
 (∃h:Int,∃m:Bool,yH yT [.ptr 1000 0,.str (⟨#[44]⟩:ByteArray)] (zF a l b c d f g e) (dB m) (zF a h b c d f g e)∧
 zP m
 (((∃n:Int,∃j:zC,yH yI [.ptr 1000 0] (zF a h b c d f g e) (dL j) (zF a n b c d f g e)∧
 wN .lit (i.length+([j]).length)=true∧lT R T k (i++([j])) a n b c d e f g)∨
 ∃u,nK yI [.ptr 1000 0] (zF a h b c d f g e) u∧T u))
 (((∃o:Int,yH zI [.ptr 1000 0,.sl .str ([(⟨#[93]⟩:ByteArray)])] (zF a h b c d f g e) (.tup []) (zF a o b c d f g e)∧
 R (.sl .lit i) (zF a o b c d f g e))∨
 ∃u,nK zI [.ptr 1000 0,.sl .str ([(⟨#[93]⟩:ByteArray)])] (zF a h b c d f g e) u∧T u))):=by kernel_rfl
theorem QA(a:List vL)(i b c d:Int)(e:List zN)(f:List zE)(g:List (ByteArray×Int))(R:pR)(T:Pu):FX oX Tryz.f215 [.ptr 1000 0,.clp yI true 1000 0] (zF a i b c d e f g) [.ptr 1000 0] false R T=
 (((∃j:Int,yH zI [.ptr 1000 0,.sl .str ([(⟨#[91]⟩:ByteArray)])] (zF a i b c d e f g) (.tup []) (zF a j b c d e f g)∧
 ∃h:Int,∃k:Bool,yH yT [.ptr 1000 0,.str (⟨#[93]⟩:ByteArray)] (zF a j b c d e f g) (dB k) (zF a h b c d e f g)∧
 zP k
 (R (.sl .lit ([]:List zC)) (zF a h b c d e f g))
 (((∃l:Int,∃m:zC,yH yI [.ptr 1000 0] (zF a h b c d e f g) (dL m) (zF a l b c d e f g)∧
 ∃n0,lT R T n0 ([m]) a l b c d g e f)∨
 ∃u,nK yI [.ptr 1000 0] (zF a h b c d e f g) u∧T u)))∨
 ∃u,nK zI [.ptr 1000 0,.sl .str ([(⟨#[91]⟩:ByteArray)])] (zF a i b c d e f g) u∧T u)):=by kernel_rfl
theorem Rt(a:List vL)(b c d e:Int)(f:List zN)(g:List zE)(h:List (ByteArray×Int)):WT oX Tryz.f215 uO [.ptr 1000 0,.clp yI true 1000 0] (zF a b c d e f g h) [.ptr 1000 0] false:=UY Tryz.func215 (by kernel_rfl) Tryz.ntmps215 rfl
theorem Ru(a:List vL)(b c d e:Int)(f:List zN)(g:List zE)(h:List (ByteArray×Int)):XR oX Tryz.f215 uO [.ptr 1000 0,.clp yI true 1000 0] (zF a b c d e f g h) [.ptr 1000 0] false:=VW Tryz.func215 (by kernel_rfl) Tryz.ntmps215 rfl
def lU:wA:= {own:=[2,3],live:=[(0,([0,2,3,9,10,11],[2,3,1000,1001,2000,2001]))],n:=30,first:=true}
def iP(R:pR)(T:Pu)(a:Nat)(b c d e f g h:Int)(i:List vL)(j k l m:Int)(n:List (ByteArray×Int))(o:List zN)(p:List zE):Prop:=LP lU Tryz.f216 [1,1,0,1,0,0] 0 a ⟨[(0,.ptr 1000 0),(2,.ptr 2 0),(3,.ptr 3 0),(9,.sl .str ([(⟨#[60,61]⟩:ByteArray),(⟨#[62,61]⟩:ByteArray),(⟨#[61,61]⟩:ByteArray),(⟨#[33,61]⟩:ByteArray)])),(10,dI (([(⟨#[60,61]⟩:ByteArray),(⟨#[62,61]⟩:ByteArray),(⟨#[61,61]⟩:ByteArray),(⟨#[33,61]⟩:ByteArray)]).length:Int)),(11,dI b)],[(2,.cells [dI c,dI d,dI e]),(3,.cells [dI f,dI g,dI h]),(1000,.cells [.sl .tok i,dI j,dI k,.own 2000,.own 2001,dI l,dI m,.own 1001]),(1001,.mp .str .int n),(2000,.row 72 .var o),(2001,.row 74 .con p)]⟩ (zQ 0 (sK lU Tryz.f216 [1,1,1] 0 (eX Tryz.f216 [.ptr 1000 0] false R T)))
theorem fl(R:pR)(T:Pu)(n:Nat)(h o p q j l m:Int)(a:List vL)(i b c d:Int)(e:List (ByteArray×Int))(f:List zN)(g:List zE):iP R T (n+1) h o p q j l m a i b c d e f g=
 (zP (decide (h<(([(⟨#[60,61]⟩:ByteArray),(⟨#[62,61]⟩:ByteArray),(⟨#[61,61]⟩:ByteArray),(⟨#[33,61]⟩:ByteArray)]).length:Int)))
 (vW h ([(⟨#[60,61]⟩:ByteArray),(⟨#[62,61]⟩:ByteArray),(⟨#[61,61]⟩:ByteArray),(⟨#[33,61]⟩:ByteArray)]).length=true∧∃k:Int,∃r:Bool,yH yT [.ptr 1000 0,.str (yO .str ([(⟨#[60,61]⟩:ByteArray),(⟨#[62,61]⟩:ByteArray),(⟨#[61,61]⟩:ByteArray),(⟨#[33,61]⟩:ByteArray)]) h.toNat)] (zF a i b c d f g e) (dB r) (zF a k b c d f g e)∧
 zP r
 (((∃s:Int,∃t:Int,yH zJ [.ptr 1000 0] (zF a k b c d f g e) (dI t) (zF a s b c d f g e)∧
 R (.agg [dI j,dI (yU (1+h)),dI t]) (zF a s b c d f g e))∨
 ∃u,nK zJ [.ptr 1000 0] (zF a k b c d f g e) u∧T u))
 (iP R T n (yU (h+1)) o p q j l m a k b c d e f g))
 (((yH zO [.ptr 1000 0,dI 1] (zF a i b c d f g e) (.tup []) (zF a i b c d f g e)∧
 R (.agg [dI j,dI l,dI m]) (zF a i b c d f g e))∨
 ∃u,nK zO [.ptr 1000 0,dI 1] (zF a i b c d f g e) u∧T u))):=by kernel_rfl
theorem NK(a:List vL)(h b c d:Int)(e:List zN)(f:List zE)(g:List (ByteArray×Int))(R:pR)(T:Pu):FX lU Tryz.f216 [.ptr 1000 0] (zF a h b c d e f g) [.ptr 1000 0] false R T=
 (((∃i:Int,∃j:Int,yH zK [.ptr 1000 0] (zF a h b c d e f g) (dI j) (zF a i b c d e f g)∧
 ∃n0,iP R T n0 0 0 0 0 j 0 0 a i b c d g e f)∨
 ∃u,nK zK [.ptr 1000 0] (zF a h b c d e f g) u∧T u)):=by kernel_rfl
theorem Od(a:List vL)(b c d e:Int)(f:List zN)(g:List zE)(h:List (ByteArray×Int)):WT lU Tryz.f216 yI [.ptr 1000 0] (zF a b c d e f g h) [.ptr 1000 0] false:=UY Tryz.func216 (by kernel_rfl) Tryz.ntmps216 rfl
theorem Oe(a:List vL)(b c d e:Int)(f:List zN)(g:List zE)(h:List (ByteArray×Int)):XR lU Tryz.f216 yI [.ptr 1000 0] (zF a b c d e f g h) [.ptr 1000 0] false:=VW Tryz.func216 (by kernel_rfl) Tryz.ntmps216 rfl
def W7:wA:= {own:=[],live:=[],n:=28,first:=true}
theorem Og(a:List vL)(b c d e:Int)(f:List zN)(g:List zE)(h:List (ByteArray×Int))(R:pR):FH W7 Tryz.f217 [.ptr 1000 0] (zF a b c d e f g h) [.ptr 1000 0] false R=
 (zP (decide (b<(a.length:Int)))
 (vW b a.length=true∧R (dI ((yO .tok a b.toNat).at_)) (zF a b c d e f g h))
 (R (dI c) (zF a b c d e f g h))):=by kernel_rfl
theorem QB(a:List vL)(b c d e:Int)(f:List zN)(g:List zE)(h:List (ByteArray×Int)):oH W7 Tryz.f217 iD [.ptr 1000 0] (zF a b c d e f g h) [.ptr 1000 0] false:=oT Tryz.func217 (by kernel_rfl) Tryz.ntmps217 rfl
inductive Pr (α:Type)|ok (x:α)(j:Nat)|err (j:Nat)(e:Int)
def Pr.on{α:Type}(r:Pr α)(K:α→Nat→Prop)(T:Nat→Int→Prop):Prop:=match r with
 | .ok x j=>K x j
 | .err j e=>T j e
def Pr.bind{α β:Type}(r:Pr α)(f:α→Nat→Pr β):Pr β:=match r with
 | .ok x j=>f x j
 | .err j e=> .err j e
theorem Pr.on_bind{α β:Type}{r:Pr α}{f:α→Nat→Pr β}{K:β→Nat→Prop}{T:Nat→Int→Prop}:(r.bind f).on K T↔r.on (λx j=>(f x j).on K T) T:=by cases r<;>rfl
theorem Pr.on_mono{α:Type}{r:Pr α}{K K':α→Nat→Prop}{T T':Nat→Int→Prop}(h:r.on K T)(hK:∀x j,K x j→K' x j)(hT:∀j e,T j e→T' j e):r.on K' T':=by
 cases r
 ·exact hK _ _ h
 ·exact hT _ _ h
section
variable(isName:ByteArray→Bool)(yB:ByteArray→Int)(names:List (ByteArray×Int))(l:List vL)
def rW(j:Nat):vL:=l.getD j Ty.tok.dflt
def uX(en:Int)(j:Nat):Int:=if j<l.length then(rW l j).at_ else en
def xJ(s:ByteArray)(j:Nat):Bool:=decide (j<l.length)&&decide ((rW l j).text=s)
def oh(s:ByteArray)(j:Nat):Nat:=if xJ l s j=true then j+1 else j
def xD:List ByteArray→Nat→Pr Unit
 |[],j=> .ok () j
 |s::r,j=>if xJ l s j=true then xD r (j+1)else .err j 1
def ZP(j:Nat):Pr ByteArray:=if j<l.length∧isName (rW l j).text=true then .ok (rW l j).text j else .err j 1
def vP(j:Nat):Pr Int:=(ZP isName l j).bind λs _=>match uH .str .int s names with
 |some n=> .ok n (j+1)
 |none=> .err j 5
def Dr(sg:Int)(j:Nat):Pr Int:=if j<l.length∧(rW l j).kind=2∧¬(sg<0∧(rW l j).text=⟨#[48]⟩)then .ok (sg*yB (rW l j).text) (j+1)else .err j 1
def kP(j:Nat):Pr Int:=if xJ l ⟨#[45]⟩ j=true then Dr yB l (-1) (j+1)else Dr yB l 1 j
def uG{α:Type}(f:Nat→Pr α):Nat→List α→Nat→Pr (List α)
 |0,acc,j=> .err j 1
 |n+1,acc,j=>if xJ l ⟨#[44]⟩ j=true then(f (j+1)).bind λx j=>uG f n (acc++[x]) j else(xD l [⟨#[93]⟩] j).bind λ_ j=> .ok acc j
def wH{α:Type}(f:Nat→Pr α)(j:Nat):Pr (List α):=(xD l [⟨#[91]⟩] j).bind λ_ j=>
 if xJ l ⟨#[93]⟩ j=true then .ok [] (j+1)else(f j).bind λx j=>uG l f (l.length+1) [x] j
def Yg:Nat→List Int→Nat→Pr (List Int)
 |0,acc,j=> .ok acc j
 |n+1,acc,j=>(vP isName names l j).bind λx j=>Yg n (acc++[x]) j
def opW:List ByteArray:=[⟨#[60,61]⟩,⟨#[62,61]⟩,⟨#[61,61]⟩,⟨#[33,61]⟩]
def lV:List ByteArray→Int→Nat→Option Int
 |[],_,_=>none
 |s::r,i,j=>if xJ l s j=true then some i else lV r (i+1) j
def iQ(j:Nat):Pr zC:=(vP isName names l j).bind λv j=>match lV l opW 1 j with
 |some o=>(kP yB l (j+1)).bind λn j=> .ok ⟨v,o,n⟩ j
 |none=> .err j 1
def M9:List ByteArray:=[⟨#[108,101]⟩,⟨#[101,113]⟩,⟨#[110,101]⟩,⟨#[100,105,102,102,101,114]⟩,⟨#[101,108,101,109,101,110,116]⟩,⟨#[116,97,98,108,101]⟩,⟨#[116,105,109,101,115]⟩,⟨#[109,97,120]⟩,⟨#[99,108,97,117,115,101]⟩,⟨#[105,102,102]⟩]
def jJ(o:Int)(j:Nat):Pr zE:=
 if o≤3 then(wH l (kP yB l) j).bind λcs j=>(wH l (vP isName names l) j).bind λvs j=>(kP yB l j).bind λn j=> .ok ⟨o,vs,cs,n,[],[]⟩ j
 else if o=4 then(wH l (vP isName names l) j).bind λvs j=> .ok ⟨o,vs,[],0,[],[]⟩ j
 else if o=5 then(wH l (kP yB l) j).bind λcs j=>(Yg isName names l 2 [] j).bind λvs j=> .ok ⟨o,vs,cs,0,[],[]⟩ j
 else if o=6 then(wH l (vP isName names l) j).bind λvs j=>(wH l (wH l (kP yB l)) j).bind λrs j=> .ok ⟨o,vs,[],0,rs,[]⟩ j
 else if o=7 then(Yg isName names l 3 [] j).bind λvs j=> .ok ⟨o,vs,[],0,[],[]⟩ j
 else if o=8 then(vP isName names l j).bind λv j=>(wH l (vP isName names l) j).bind λvs j=> .ok ⟨o,v::vs,[],0,[],[]⟩ j
 else if o=9 then(wH l (iQ isName yB names l) j).bind λls j=> .ok ⟨o,[],[],0,[],ls⟩ j
 else(Yg isName names l 1 [] j).bind λvs j=>(iQ isName yB names l j).bind λx j=> .ok ⟨o,vs,[],0,[],[x]⟩ j
def Rv(j:Nat):Pr zE:=match lV l M9 1 j with
 |some o=>jJ isName yB names l o (j+1)
 |none=> .err j 1
end
theorem uA{l:List vL}{s:ByteArray}{j:Nat}(h:xJ l s j=true):j<l.length:=by
 simp only[xJ,Bool.and_eq_true,decide_eq_true_eq]at h;exact h.1
abbrev Yh(l:List vL)(en goal mvar:Int)(pv:List zN)(pc:List zE)(names:List (ByteArray×Int))(j:Nat):List (Nat×yD):=
 [(1000,.cells [.sl .tok l,dI j,dI en,.own 2000,.own 2001,dI goal,dI mvar,.own 1001]),(2000,.row 72 .var pv),(2001,.row 74 .con pc),(1001,.mp .str .int names)]
abbrev zaY(l:List vL)(en goal mvar:Int)(pv:List zN)(pc:List zE)(names:List (ByteArray×Int))(j:Int):List (Nat×yD):=
 [(1000,.cells [.sl .tok l,dI j,dI en,.own 2000,.own 2001,dI goal,dI mvar,.own 1001]),(2000,.row 72 .var pv),(2001,.row 74 .con pc),(1001,.mp .str .int names)]
abbrev Al(a e:Int):Value:=.iface 158 (.agg [.int .i64 a,.int .i64 e].toArray)
def NL{α:Type}(f:FuncId)(args:List D)(h:Nat→List (Nat×yD))(hr:Nat→Int)(j:Nat)(d:α→D)(r:Pr α):Prop:=match r with
 | .ok x j'=>yH f args (h j) (d x) (h j')
 | .err j' e=>nK f args (h j) (Al (hr j') e)
theorem NL.call{α:Type}{f:FuncId}{args:List D}{h:Nat→List (Nat×yD)}{hr:Nat→Int}{j:Nat}{d:α→D}{r:Pr α}{X:α→Nat→Prop}{Y:Nat→Int→Prop}{G:Prop}(hs:NL f args h hr j d r)
  (hok:∀x j',yH f args (h j) (d x) (h j')→X x j'→G) (herr:∀j' e,nK f args (h j) (Al (hr j') e)→Y j' e→G) (hk:r.on X Y):G:=by
 cases r with
 |ok x j'=>exact hok x j' hs hk
 |err j' e=>exact herr j' e hs hk
theorem bV{α:Type}{A:wA}{fn:Func}{f:FuncId}{args roots:List D}{own:Bool}{h:Nat→List (Nat×yD)}{hr:Nat→Int}{j:Nat}{d:α→D}{r:Pr α}(hs:WT A fn f args (h j) roots own)(ht:XR A fn f args (h j) roots own)
  (hx:(∀x∈args,EX x)→(∀k o,zZ k (h j)=some o→okO o)→∀(R:D→List (Nat×yD)→Prop) (T:Value→Prop),r.on (λx j'=>R (d x) (h j')) (λj' e=>T (Al (hr j') e))→FX A fn args (h j) roots own R T):NL f args h hr j d r:=by
 cases r with
 |ok x j'=>exact hs λh1 h2=>hx h1 h2 _ _ ⟨rfl,rfl⟩
 |err j' e=>exact ht λh1 h2=>hx h1 h2 _ _ rfl
section
variable {l:List vL}{en goal mvar:Int}{pv:List zN}{pc:List zE}{names:List (ByteArray×Int)}
theorem V5{j:Nat}(h:∀k o,zZ k (Yh l en goal mvar pv pc names j)=some o→okO o):l.length*32≤140737488355328:=by
 have:=h 1000 _ rfl (.sl .tok l) (by simp)
 exact this.1
theorem NM(j:Nat):yO .tok l (j:Int).toNat=rW l j:=by rw[Int.toNat_natCast];rfl
theorem Am(j:Nat):yH iD [.ptr 1000 0] (Yh l en goal mvar pv pc names j) (dI (uX l en j)) (Yh l en goal mvar pv pc names j):=
 QB _ _ _ _ _ _ _ _ λok ok2=>by
  rw[Og,uX,NM]
  by_cases h:j<l.length
  ·rw[if_pos h]
   exact dt (by omega) ⟨zM h,rfl,rfl⟩
  ·rw[if_neg h]
   exact df (by omega) ⟨rfl,rfl⟩
theorem rX(j:Nat)(e:Int):nK zO [.ptr 1000 0,dI e] (Yh l en goal mvar pv pc names j) (Al (uX l en j) e):=
 Qw _ _ _ _ _ _ _ _ _ λok ok2=>by
  rw[P5];exact⟨_,Am j,rfl⟩
theorem xF(j:Nat)(s:ByteArray):yH yT [.ptr 1000 0,.str s] (Yh l en goal mvar pv pc names j) (dB (xJ l s j)) (Yh l en goal mvar pv pc names (oh l s j)):=
 Qr _ _ _ _ _ _ _ _ _ λok ok2=>by
  have hl:=V5 ok2;rw[P0,NM,oh,xJ]
  by_cases h:j<l.length
  ·refine df (by omega) ⟨zM h,?_⟩
   rw[decide_eq_true h,Bool.true_and]
   by_cases e:(rW l j).text=s
   ·rw[decide_eq_true e,if_pos rfl]
    refine(show zP (!true) _ _ from⟨rfl,?_⟩)
    rw[nX (by omega)]
   ·rw[decide_eq_false e,if_neg (by decide)]
    exact⟨rfl,rfl⟩
  ·rw[decide_eq_false h,Bool.false_and,if_neg (by decide)]
   exact dt (by omega) ⟨rfl,rfl⟩
theorem tM(j:Nat)(ss:List ByteArray):NL zI [.ptr 1000 0,.sl .str ss] (Yh l en goal mvar pv pc names) (uX l en) j (λ_=> .tup []) (xD l ss j):=
 bV (Qu _ _ _ _ _ _ _ _ _) (Qv _ _ _ _ _ _ _ _ _) λok ok2 R T hx=>by
  have hl:ss.length≤9223372036854775807:=cM (t:=.str) (ok _ (by simp))
  rw[P2]
  refine up (I:=λn v (a:Nat)=>oW ss R T n v l (a:Int) en goal mvar names pv pc) (a:=j) 0 ss.length rfl (Nat.zero_le _) hl
   (λk a=>(xD l (ss.drop k) a).on (λ_ j'=>R (.tup []) (Yh l en goal mvar pv pc names j')) (λj' e=>T (Al (uX l en j') e))) (by simpa using hx) λn k a _ hk ha hn=> ?_
  rw[Sj]
  by_cases h:k<ss.length
  ·rw[yC h,zY (t:=.str) h]
   rw[List.drop_eq_getElem_cons h,xD]at ha
   refine⟨zM h,_,_,xF a _,?_⟩;unfold oh;cases hb:xJ l ss[k] a with
   |true=>
    rw[hb,if_pos rfl]at ha
    rw[if_pos rfl];exact bnf rfl (hn h (a+1) ha)
   |false=>
    rw[hb,if_neg (by decide)]at ha
    rw[if_neg (by decide)]
    exact bnt rfl (.inr ⟨_,rX a 1,ha⟩)
  ·have hk':k=ss.length:=by omega
   subst hk';rw[zX];rw[List.drop_of_length_le (Nat.le_refl _),xD]at ha
   exact ha
theorem La(j:Nat):NL uI [.ptr 1000 0] (Yh l en goal mvar pv pc names) (uX l en) j .str (ZP zD l j):=
 bV (Qs _ _ _ _ _ _ _ _) (Qt _ _ _ _ _ _ _ _) λok ok2 R T hx=>by
  rw[P1,NM];rw[ZP]at hx
  by_cases h:j<l.length
  ·refine df (by omega) ⟨zM h,zH (t:=.bool) (OJ _) ?_⟩
   cases hb:zD (rW l j).text with
   |true=>
    rw[if_pos ⟨h,hb⟩]at hx
    exact bnf rfl ⟨zM h,hx⟩
   |false=>
    rw[if_neg (by rw[hb];rintro⟨_,h⟩;cases h)]at hx
    exact bnt rfl (.inr ⟨_,rX j 1,hx⟩)
  ·rw[if_neg λx=>h x.1]at hx
   exact dt (by omega) (.inr ⟨_,rX j 1,hx⟩)
end
def yB(s:ByteArray):Int:=(Lib.atoi s.data.toList).getD 0
def Za(l:List vL):Prop:=∀t∈l,t.kind=2→t.text.size≤18∧∃n,Lib.atoi t.text.data.toList=some n∧0≤n∧n≤1000000
theorem zjj{s:ByteArray}{n:Int}(hl:s.size≤18)(h:Lib.atoi s.data.toList=some n)(hn:yJ n):yH vV [.str s] [] (.tup [dI n,.undef]) []:=by
 intro w S vs pl hS hsz hv hh hg;have e0:=((hv 0 _ rfl).flat (d:=.str s) rfl).str_inv.1
 have e:vs= #[.string s]:=by
  have hl:vs.size=1:=hsz;apply Array.ext
  ·simpa using hl
  ·intro i h1 h2
   have:i=0:=by omega
   subst this;simpa[Array.getD_eq_getD_getElem?,h1]using e0
 subst e;refine(Tryz.strconv_Atoi s n hl h w).mono λe w' ⟨he,t,hw⟩=> ?_
 subst hw;refine⟨_,λ_=>False,pl,he,Rp.rd (.tup _ _ rfl λi d hd=> ?_),⟨λk o h=>(by cases h),λk o b h=>(by cases h),λk k' o o' b h=>(by cases h)⟩,λb h=>h.elim,λb h=>h.elim,λb ⟨k,o,h,_⟩=>(by cases h),λ_ _=>rfl,.of (Lib.bytesWorld_below _ _ _)⟩
 match i,hd with
 |0,hd=>injection hd with hd;subst hd;exact .int_mk hn
 |1,hd=>injection hd with hd;subst hd;exact .undef _
theorem zhH{l:List vL}(hd:Za l){j:Nat}(hj:j<l.length)(hk:(rW l j).kind=2):yH vV [.str (rW l j).text] [] (.tup [dI (yB (rW l j).text),.undef]) []∧0≤yB (rW l j).text∧yB (rW l j).text≤1000000:=by
 have hm:rW l j∈l:=by
  unfold rW;rw[List.getD_eq_getElem?_getD,List.getElem?_eq_getElem hj];exact List.getElem_mem hj
 obtain⟨h1,n,h2,h3,h4⟩:=hd _ hm hk;have e:yB (rW l j).text=n:=by rw[yB,h2];rfl
 rw[e];exact⟨zjj h1 h2 (by unfold yJ;omega),h3,h4⟩
section
variable {l:List vL}{en goal mvar:Int}{pv:List zN}{pc:List zE}{names:List (ByteArray×Int)}
theorem Zb(hd:Za l)(j:Nat):NL zJ [.ptr 1000 0] (Yh l en goal mvar pv pc names) (uX l en) j (λn:Int=>dI n) (kP yB l j):=
 bV (M5 _ _ _ _ _ _ _ _) (M6 _ _ _ _ _ _ _ _) λok ok2 R T hx=>by
  have hl:=V5 ok2;rw[KP];refine⟨_,_,xF j _,?_⟩;rw[kP]at hx
  unfold oh;cases hb:xJ l ⟨#[45]⟩ j with
  |true=>
   rw[hb,if_pos rfl]at hx
   rw[if_pos rfl];refine bt rfl ?_;generalize j+1=i at hx⊢
   rw[Dr]at hx
   by_cases h:i<l.length
   ·refine df (by omega) ⟨zM h,?_⟩
    rw[NM]
    by_cases hk:(rW l i).kind=2
    ·refine Ai hk (dt (by decide) ⟨zM h,?_⟩)
     by_cases h0:(rW l i).text=⟨#[48]⟩
     ·rw[if_neg λx=>x.2.2 ⟨by decide,h0⟩]at hx
      exact dt h0 (.inr ⟨_,rX i 1,hx⟩)
     ·rw[if_pos ⟨h,hk,λx=>h0 x.2⟩]at hx
      obtain⟨q1,q2,q3⟩:=zhH hd h hk;have hX:=(⟨_,q1,by rw[wL (by omega) (by omega),nX (by omega)];exact hx⟩:∃a:Int,yH vV [.str (rW l i).text] [] (.tup [dI a,.undef]) []∧R (dI (yU ((-1)*a))) (zaY l en goal mvar pv pc names (yU ((i:Int)+1))))
      exact df h0 ⟨⟨zM h,hX⟩,zM h,hX⟩
    ·rw[if_neg λx=>hk x.2.1]at hx
     exact NB hk (.inr ⟨_,rX i 1,hx⟩)
   ·rw[if_neg λx=>h x.1]at hx
    exact dt (by omega) (.inr ⟨_,rX i 1,hx⟩)
  |false=>
   rw[hb,if_neg (by decide)]at hx
   rw[if_neg (by decide)]
   refine bf rfl ?_;rw[Dr]at hx
   by_cases h:j<l.length
   ·refine df (by omega) ⟨zM h,?_⟩
    rw[NM]
    by_cases hk:(rW l j).kind=2
    ·refine Ai hk (df (by decide) ?_)
     rw[if_pos ⟨h,hk,λx=>absurd x.1 (by decide)⟩]at hx
     obtain⟨q1,q2,q3⟩:=zhH hd h hk;have hX:=(⟨_,q1,by rw[wL (by omega) (by omega),nX (by omega)];exact hx⟩:∃a:Int,yH vV [.str (rW l j).text] [] (.tup [dI a,.undef]) []∧R (dI (yU (1*a))) (zaY l en goal mvar pv pc names (yU ((j:Int)+1))))
     exact⟨⟨zM h,hX⟩,zM h,hX⟩
    ·rw[if_neg λx=>hk x.2.1]at hx
     exact NB hk (.inr ⟨_,rX j 1,hx⟩)
   ·rw[if_neg λx=>h x.1]at hx
    exact dt (by omega) (.inr ⟨_,rX j 1,hx⟩)
theorem zfB{s:ByteArray}{es:List (ByteArray×Int)}{n:Int}(h:uH .str .int s es=some n):PK .str .int s es=true∧kJ .str .int s es=n:=by
 unfold PK kJ;rw[h];exact⟨rfl,rfl⟩
theorem zfC{s:ByteArray}{es:List (ByteArray×Int)}(h:uH .str .int s es=none):PK .str .int s es=false:=by
 unfold PK;rw[h];rfl
theorem YC(j:Nat):NL zK [.ptr 1000 0] (Yh l en goal mvar pv pc names) (uX l en) j (λn:Int=>dI n) (vP zD names l j):=
 bV (M7 _ _ _ _ _ _ _ _) (M8 _ _ _ _ _ _ _ _) λok ok2 R T hx=>by
  have hl:=V5 ok2;rw[KQ];have hs:=La (l:=l) (en:=en) (goal:=goal) (mvar:=mvar) (pv:=pv) (pc:=pc) (names:=names) j;rw[vP,ZP]at hx
  rw[ZP]at hs
  by_cases h:j<l.length∧zD (rW l j).text=true
  ·rw[if_pos h]at hs hx
   have hs:yH uI [.ptr 1000 0] (Yh l en goal mvar pv pc names j) (.str (rW l j).text) (Yh l en goal mvar pv pc names j):=hs;refine(λh=>⟨h,h⟩) (.inl ⟨_,hs,?_⟩)
   refine(λh=>⟨⟨h,h⟩,h⟩) ?_
   have hx:Pr.on (match uH .str .int (rW l j).text names with|some n=>Pr.ok n (j+1)|none=> .err j 5) _ _:=hx
   cases hm:uH .str .int (rW l j).text names with
   |some n=>
    rw[hm]at hx
    obtain⟨h1,h2⟩:=zfB hm;rw[h1,h2];refine bnf rfl ?_;rw[nX (by omega)];exact hx
   |none=>
    rw[hm]at hx
    rw[zfC hm];exact bnt rfl (.inr ⟨_,rX j 5,hx⟩)
  ·rw[if_neg h]at hs hx
   exact(λh=>⟨h,h⟩) (.inr ⟨_,hs,hx⟩)
end
section
variable(isName:ByteArray→Bool)(yB:ByteArray→Int)(l:List vL)
def Lb(j:Nat):Pr zN:=(ZP isName l j).bind λs j=>(xD l [⟨#[58]⟩] (j+1)).bind λ_ j=>(kP yB l j).bind λa j=>(xD l [⟨#[46,46]⟩] j).bind λ_ j=>(kP yB l j).bind λb j=>(xD l [⟨#[59]⟩] j).bind λ_ j=> .ok ⟨s,a,b⟩ j
def bW(names:List (ByteArray×Int))(s:ByteArray)(i:Int):List (ByteArray×Int):=if PK .str .int s names=true then names else rD .str .int s i names
def OL:Nat→List zN→List (ByteArray×Int)→Nat→Pr (List zN×List (ByteArray×Int))
 |0,vs,ns,j=> .err j 1
 |n+1,vs,ns,j=>if xJ l ⟨#[118,97,114]⟩ j=true then(Lb isName yB l (j+1)).bind λv j=>OL n (vs++[v]) (bW ns v.name vs.length) j else .ok (vs,ns) j
def XW(ns:List (ByteArray×Int)):Nat→List zE→Nat→Pr (List zE)
 |0,cs,j=> .err j 1
 |n+1,cs,j=>if xJ l ⟨#[99,111,110]⟩ j=true then(Rv isName yB ns l (j+1)).bind λc j=>(xD l [⟨#[59]⟩] j).bind λ_ j=>XW ns n (cs++[c]) j else .ok cs j
def Yi{α:Type}(x:α)(j:Nat):Pr α:=(xD l [⟨#[59]⟩] j).bind λ_ j=>if j<l.length then .err j 1 else .ok x j
def Yj(ns:List (ByteArray×Int))(j:Nat):Pr (Int×Int):=(xD l [⟨#[115,111,108,118,101]⟩] j).bind λ_ j=>
 if xJ l ⟨#[97,110,121]⟩ j=true then Yi l (0,0) (j+1)
 else if xJ l ⟨#[108,101,97,115,116]⟩ j=true then(vP isName ns l (j+1)).bind λv j=>Yi l (1,v) j
 else(xD l [⟨#[109,111,115,116]⟩] j).bind λ_ j=>(vP isName ns l j).bind λv j=>Yi l (2,v) j
def eC:Pr (zG×List (ByteArray×Int)):=(OL isName yB l (l.length+1) [] [] 0).bind λx j=>(XW isName yB l x.2 (l.length+1) [] j).bind λcs j=>(Yj isName l x.2 j).bind λg j=> .ok (⟨x.1,cs,g.1,g.2⟩,x.2) j
end
def Adv{α:Type}(l:List vL)(f:Nat→Pr α):Prop:=∀i x j,f i=.ok x j→i<j∧j≤l.length
theorem Td{isN:ByteArray→Bool}{names:List (ByteArray×Int)}{l:List vL}:Adv l (vP isN names l):=λi x j h=>by
 unfold vP ZP at h
 split at h
 ·rename_i hc
  simp only[Pr.bind]at h
  split at h
  ·injection h with h1 h2;omega
  ·cases h
 ·cases h
theorem zeD{nv:ByteArray→Int}{l:List vL}{sg:Int}{i:Nat}{x:Int}{j:Nat}(h:Dr nv l sg i=.ok x j):i<j∧j≤l.length:=by
 unfold Dr at h
 split at h
 ·rename_i hc;injection h with h1 h2;omega
 ·cases h
theorem W8{nv:ByteArray→Int}{l:List vL}:Adv l (kP nv l):=λi x j h=>by
 unfold kP at h
 split at h
 ·have:=zeD h;omega
 ·exact zeD h
section
variable {l:List vL}{en goal mvar:Int}{pv:List zN}{pc:List zE}{names:List (ByteArray×Int)}
theorem SO(hd:Za l){R:D→List (Nat×yD)→Prop}{T:Value→Prop}(hl:l.length*32≤140737488355328):∀(fuel:Nat) (acc:List Int) (j:Nat),j≤l.length→l.length<j+fuel→acc.length≤j→
  (uG l (kP yB l) fuel acc j).on (λxs j'=>R (.sl .int xs) (Yh l en goal mvar pv pc names j')) (λj' e=>T (Al (uX l en j') e))→∃n,iL R T n acc l (j:Int) en goal mvar names pv pc
 |0,acc,j,h1,h2,_,_=>by omega
 |fuel+1,acc,j,h1,h2,h3,hx=>by
  rw[uG]at hx
  cases hb:xJ l ⟨#[44]⟩ j with
  |true=>
   rw[hb,if_pos rfl]at hx
   have hlt:=uA hb;have hs:=Zb (l:=l) (en:=en) (goal:=goal) (mvar:=mvar) (pv:=pv) (pc:=pc) (names:=names) hd (j+1);cases hf:kP yB l (j+1)with
   |ok x j'=>
    rw[hf]at hs hx
    have ha:=W8 _ _ _ hf;obtain⟨n,hn⟩:=SO hd hl fuel (acc++[x]) j' ha.2 (by omega) (by rw[List.length_append];show _+1≤_;omega) hx
    refine⟨n+1,?_⟩;rw[fi];refine⟨_,_,xF j _,?_⟩;rw[oh,hb,if_pos rfl];exact bt rfl (.inl ⟨_,_,hs,xY (t:=.int) (by show(acc.length+1)*8≤_;omega),hn⟩)
   |err j' e=>
    rw[hf]at hs hx
    refine⟨1,?_⟩;rw[fi];refine⟨_,_,xF j _,?_⟩;rw[oh,hb,if_pos rfl];exact bt rfl (.inr ⟨_,hs,hx⟩)
  |false=>
   rw[hb,if_neg (by decide)]at hx
   refine⟨1,?_⟩;rw[fi];refine⟨_,_,xF j _,?_⟩;rw[oh,hb,if_neg (by decide)]
   rw[Pr.on_bind]at hx
   exact bf rfl ((tM j _).call (λ_ j' hs hk=> .inl ⟨_,hs,hk⟩) (λj' e hs hy=> .inr ⟨_,hs,hy⟩) hx)
theorem eD(hd:Za l)(j:Nat):NL zL [.ptr 1000 0,.clp zJ true 1000 0] (Yh l en goal mvar pv pc names) (uX l en) j (λxs=> .sl .int xs) (wH l (kP yB l) j):=
 bV (P6 _ _ _ _ _ _ _ _) (P7 _ _ _ _ _ _ _ _) λok ok2 R T hx=>by
  have hl:=V5 ok2;rw[NH];rw[wH,Pr.on_bind]at hx
  have hs:=tM (l:=l) (en:=en) (goal:=goal) (mvar:=mvar) (pv:=pv) (pc:=pc) (names:=names) j [⟨#[91]⟩];rw[xD,xD]at hs hx
  cases hb:xJ l ⟨#[91]⟩ j with
  |false=>
   rw[hb,if_neg (by decide)]at hs hx
   exact .inr ⟨_,hs,hx⟩
  |true=>
   rw[hb,if_pos rfl]at hs hx
   have h0:=uA hb;refine .inl ⟨_,hs,_,_,xF (j+1) _,?_⟩;have hx:Pr.on (if xJ l ⟨#[93]⟩ (j+1)=true then _ else _) _ _:=hx
   cases hc:xJ l ⟨#[93]⟩ (j+1)with
   |true=>
    rw[hc,if_pos rfl]at hx
    rw[oh,hc,if_pos rfl];exact bt rfl hx
   |false=>
    rw[hc,if_neg (by decide)]at hx
    rw[oh,hc,if_neg (by decide)]
    have hq:=Zb (l:=l) (en:=en) (goal:=goal) (mvar:=mvar) (pv:=pv) (pc:=pc) (names:=names) hd (j+1);refine bf rfl ?_;cases hf:kP yB l (j+1)with
    |ok x j'=>
     rw[hf]at hq hx
     have ha:=W8 _ _ _ hf;exact .inl ⟨_,_,hq,SO hd hl (l.length+1) [x] j' ha.2 (by omega) (by show 1≤_;omega) hx⟩
    |err j' e=>
     rw[hf]at hq hx
     exact .inr ⟨_,hq,hx⟩
theorem SP{R:D→List (Nat×yD)→Prop}{T:Value→Prop}(hl:l.length*32≤140737488355328):∀(fuel:Nat) (acc:List Int) (j:Nat),j≤l.length→l.length<j+fuel→acc.length≤j→
  (uG l (vP zD names l) fuel acc j).on (λxs j'=>R (.sl .int xs) (Yh l en goal mvar pv pc names j')) (λj' e=>T (Al (uX l en j') e))→∃n,iM R T n acc l (j:Int) en goal mvar names pv pc
 |0,acc,j,h1,h2,_,_=>by omega
 |fuel+1,acc,j,h1,h2,h3,hx=>by
  rw[uG]at hx
  cases hb:xJ l ⟨#[44]⟩ j with
  |true=>
   rw[hb,if_pos rfl]at hx
   have hlt:=uA hb;have hs:=YC (l:=l) (en:=en) (goal:=goal) (mvar:=mvar) (pv:=pv) (pc:=pc) (names:=names) (j+1);cases hf:vP zD names l (j+1)with
   |ok x j'=>
    rw[hf]at hs hx
    have ha:=Td _ _ _ hf;obtain⟨n,hn⟩:=SP hl fuel (acc++[x]) j' ha.2 (by omega) (by rw[List.length_append];show _+1≤_;omega) hx
    refine⟨n+1,?_⟩;rw[fj];refine⟨_,_,xF j _,?_⟩;rw[oh,hb,if_pos rfl];exact bt rfl (.inl ⟨_,_,hs,xY (t:=.int) (by show(acc.length+1)*8≤_;omega),hn⟩)
   |err j' e=>
    rw[hf]at hs hx
    refine⟨1,?_⟩;rw[fj];refine⟨_,_,xF j _,?_⟩;rw[oh,hb,if_pos rfl];exact bt rfl (.inr ⟨_,hs,hx⟩)
  |false=>
   rw[hb,if_neg (by decide)]at hx
   refine⟨1,?_⟩;rw[fj];refine⟨_,_,xF j _,?_⟩;rw[oh,hb,if_neg (by decide)]
   rw[Pr.on_bind]at hx
   exact bf rfl ((tM j _).call (λ_ j' hs hk=> .inl ⟨_,hs,hk⟩) (λj' e hs hy=> .inr ⟨_,hs,hy⟩) hx)
theorem jC(j:Nat):NL zL [.ptr 1000 0,.clp zK true 1000 0] (Yh l en goal mvar pv pc names) (uX l en) j (λxs=> .sl .int xs) (wH l (vP zD names l) j):=
 bV (P8 _ _ _ _ _ _ _ _) (P9 _ _ _ _ _ _ _ _) λok ok2 R T hx=>by
  have hl:=V5 ok2;rw[NI];rw[wH,Pr.on_bind]at hx
  have hs:=tM (l:=l) (en:=en) (goal:=goal) (mvar:=mvar) (pv:=pv) (pc:=pc) (names:=names) j [⟨#[91]⟩];rw[xD,xD]at hs hx
  cases hb:xJ l ⟨#[91]⟩ j with
  |false=>
   rw[hb,if_neg (by decide)]at hs hx
   exact .inr ⟨_,hs,hx⟩
  |true=>
   rw[hb,if_pos rfl]at hs hx
   have h0:=uA hb;refine .inl ⟨_,hs,_,_,xF (j+1) _,?_⟩;have hx:Pr.on (if xJ l ⟨#[93]⟩ (j+1)=true then _ else _) _ _:=hx
   cases hc:xJ l ⟨#[93]⟩ (j+1)with
   |true=>
    rw[hc,if_pos rfl]at hx
    rw[oh,hc,if_pos rfl];exact bt rfl hx
   |false=>
    rw[hc,if_neg (by decide)]at hx
    rw[oh,hc,if_neg (by decide)]
    have hq:=YC (l:=l) (en:=en) (goal:=goal) (mvar:=mvar) (pv:=pv) (pc:=pc) (names:=names) (j+1);refine bf rfl ?_;cases hf:vP zD names l (j+1)with
    |ok x j'=>
     rw[hf]at hq hx
     have ha:=Td _ _ _ hf;exact .inl ⟨_,_,hq,SP hl (l.length+1) [x] j' ha.2 (by omega) (by show 1≤_;omega) hx⟩
    |err j' e=>
     rw[hf]at hq hx
     exact .inr ⟨_,hq,hx⟩
end
section
variable {l:List vL}{en goal mvar:Int}{pv:List zN}{pc:List zE}{names:List (ByteArray×Int)}
theorem Fg{isN:ByteArray→Bool}:∀(n:Nat) (acc:List Int) (j:Nat) (xs:List Int) (j':Nat),Yg isN names l n acc j=.ok xs j'→j≤j'∧(1≤n→j'≤l.length)
 |0,acc,j,xs,j',h=>by injection h with h1 h2;omega
 |n+1,acc,j,xs,j',h=>by
  unfold Yg at h
  cases hv:vP isN names l j with
  |ok x i=>
   rw[hv]at h
   have:=Td _ _ _ hv;have:=Fg n _ i xs j' h;cases n with
   |zero=>injection h with h1 h2;omega
   |succ n=>omega
  |err i e=>rw[hv]at h;cases h
theorem Sk(many:Nat)(hm:many≤6)(j:Nat):NL xI [.ptr 1000 0,dI many] (Yh l en goal mvar pv pc names) (uX l en) j (λxs=> .sl .int xs) (Yg zD names l many [] j):=
 bV (Qx _ _ _ _ _ _ _ _ _) (Qy _ _ _ _ _ _ _ _ _) λok ok2 R T hx=>by
  rw[Oa]
  suffices H:∀(d k:Nat) (acc:List Int) (j:Nat),k+d=many→acc.length=k→(Yg zD names l d acc j).on (λxs j'=>R (.sl .int xs) (Yh l en goal mvar pv pc names j')) (λj' e=>T (Al (uX l en j') e))→
    ∃n,kU (many:Int) R T n (k:Int) acc l (j:Int) en goal mvar names pv pc from H many 0 [] j (by omega) rfl hx
  intro d
  induction d with
  |zero=>
   intro k acc j hk ha hx;refine⟨1,?_⟩;rw[iN];exact df (by omega) hx
  |succ d ih=>
   intro k acc j hk ha hx;rw[Yg]at hx
   have hq:=YC (l:=l) (en:=en) (goal:=goal) (mvar:=mvar) (pv:=pv) (pc:=pc) (names:=names) j;cases hv:vP zD names l j with
   |ok x i=>
    rw[hv]at hq hx
    obtain⟨n,hn⟩:=ih (k+1) (acc++[x]) i (by omega) (by rw[List.length_append,ha];rfl) hx
    refine⟨n+1,?_⟩;rw[iN];refine dt (by omega) (.inl ⟨_,_,hq,xY (t:=.int) (by show(acc.length+1)*8≤_;omega),?_⟩)
    rw[nX (by omega)];exact hn
   |err i e=>
    rw[hv]at hq hx
    refine⟨1,?_⟩;rw[iN];exact dt (by omega) (.inr ⟨_,hq,hx⟩)
theorem Lc{isN:ByteArray→Bool}{nv:ByteArray→Int}:Adv l (iQ isN nv names l):=λi x j h=>by
 unfold iQ at h
 cases hv:vP isN names l i with
 |ok v i1=>
  rw[hv]at h
  have h1:=Td _ _ _ hv;simp only[Pr.bind]at h
  split at h
  ·cases hk:kP nv l (i1+1)with
   |ok n i2=>
    rw[hk]at h
    have h2:=W8 _ _ _ hk;injection h with h3 h4;omega
   |err i2 e=>rw[hk]at h;cases h
  ·cases h
 |err i1 e=>rw[hv]at h;cases h
theorem Ld(hd:Za l){R:D→List (Nat×yD)→Prop}{T:Value→Prop}(v:Int):∀(r pre:List ByteArray) (j:Nat),opW=pre++r→
  ((match lV l r ((pre.length:Int)+1) j with|some o=>(kP yB l (j+1)).bind λn j=> .ok (⟨v,o,n⟩:zC) j|none=> .err j 1).on (λx j'=>R (dL x) (Yh l en goal mvar pv pc names j')) λj' e=>T (Al (uX l en j') e))→
  ∃n,iP R T n (pre.length:Int) 0 0 0 v 0 0 l (j:Int) en goal mvar names pv pc
 |[],pre,j,hw,hx=>by
  refine⟨1,?_⟩;rw[fl];have hl:pre.length=4:=by have:=congrArg List.length hw;simpa[opW]using this.symm
  refine df (by rw[hl];decide) (.inr ⟨_,rX j 1,hx⟩)
 |s::r,pre,j,hw,hx=>by
  have hl:pre.length<opW.length:=by rw[hw,List.length_append,List.length_cons];omega
  have hl4:pre.length<4:=hl
  have hat:yO .str opW (pre.length:Int).toNat=s:=by
   rw[Int.toNat_natCast];show opW.getD _ _=_
   rw[hw,List.getD_eq_getElem?_getD,List.getElem?_append_right (Nat.le_refl _),Nat.sub_self];rfl
  have hs:=xF (l:=l) (en:=en) (goal:=goal) (mvar:=mvar) (pv:=pv) (pc:=pc) (names:=names) j s;rw[←hat]at hs
  rw[lV]at hx
  cases hb:xJ l s j with
  |true=>
   rw[hb,if_pos rfl]at hx
   refine⟨1,?_⟩;rw[fl];refine dt (by show(pre.length:Int)<(4:Nat);omega) ⟨zM hl4,_,_,hs,?_⟩
   rw[hat,oh,hb,if_pos rfl];rw[wL (by omega) (by omega),show(1:Int)+pre.length=(pre.length:Int)+1 by omega]
   have hx:Pr.on ((kP yB l (j+1)).bind _) _ _:=hx;rw[Pr.on_bind]at hx
   exact bt rfl ((Zb hd (j+1)).call (λ_ j' hs hk=> .inl ⟨_,_,hs,hk⟩) (λj' e hs hy=> .inr ⟨_,hs,hy⟩) hx)
  |false=>
   rw[hb,if_neg (by decide)]at hx
   obtain⟨n,hn⟩:=Ld hd v r (pre++[s]) j (by rw[hw,List.append_assoc];rfl) (by rw[List.length_append];show Pr.on (match lV l r (((pre.length+1:Nat):Int)+1) j with|some o=>_|none=>_) _ _;rw[show((pre.length+1:Nat):Int)=(pre.length:Int)+1 by omega];exact hx)
   refine⟨n+1,?_⟩;rw[fl];refine dt (by show(pre.length:Int)<(4:Nat);omega) ⟨zM hl4,_,_,hs,?_⟩
   rw[hat,oh,hb,if_neg (by decide),nX (by omega)]
   rw[List.length_append]at hn
   exact bf rfl hn
theorem QC(hd:Za l)(j:Nat):NL yI [.ptr 1000 0] (Yh l en goal mvar pv pc names) (uX l en) j (λx=>dL x) (iQ zD yB names l j):=
 bV (Od _ _ _ _ _ _ _ _) (Oe _ _ _ _ _ _ _ _) λok ok2 R T hx=>by
  rw[NK];rw[iQ,Pr.on_bind]at hx
  exact(YC j).call (λv j' hs hk=> .inl ⟨_,_,hs,Ld hd v opW [] j' rfl hk⟩) (λj' e hs hy=> .inr ⟨_,hs,hy⟩) hx
theorem V6(hd:Za l){R:D→List (Nat×yD)→Prop}{T:Value→Prop}(hl:l.length*32≤140737488355328):∀(fuel:Nat) (acc:List zC) (j:Nat),j≤l.length→l.length<j+fuel→acc.length≤j→
  (uG l (iQ zD yB names l) fuel acc j).on (λxs j'=>R (.sl .lit xs) (Yh l en goal mvar pv pc names j')) (λj' e=>T (Al (uX l en j') e))→∃n,lT R T n acc l (j:Int) en goal mvar names pv pc
 |0,acc,j,h1,h2,_,_=>by omega
 |fuel+1,acc,j,h1,h2,h3,hx=>by
  rw[uG]at hx
  cases hb:xJ l ⟨#[44]⟩ j with
  |true=>
   rw[hb,if_pos rfl]at hx
   have hlt:=uA hb;have hs:=QC (l:=l) (en:=en) (goal:=goal) (mvar:=mvar) (pv:=pv) (pc:=pc) (names:=names) hd (j+1);cases hf:iQ zD yB names l (j+1)with
   |ok x j'=>
    rw[hf]at hs hx
    have ha:=Lc _ _ _ hf;obtain⟨n,hn⟩:=V6 hd hl fuel (acc++[x]) j' ha.2 (by omega) (by rw[List.length_append];show _+1≤_;omega) hx
    refine⟨n+1,?_⟩;rw[jB];refine⟨_,_,xF j _,?_⟩;rw[oh,hb,if_pos rfl];exact bt rfl (.inl ⟨_,_,hs,xY (t:=.lit) (by show(acc.length+1)*24≤_;omega),hn⟩)
   |err j' e=>
    rw[hf]at hs hx
    refine⟨1,?_⟩;rw[jB];refine⟨_,_,xF j _,?_⟩;rw[oh,hb,if_pos rfl];exact bt rfl (.inr ⟨_,hs,hx⟩)
  |false=>
   rw[hb,if_neg (by decide)]at hx
   refine⟨1,?_⟩;rw[jB];refine⟨_,_,xF j _,?_⟩;rw[oh,hb,if_neg (by decide)]
   rw[Pr.on_bind]at hx
   exact bf rfl ((tM j _).call (λ_ j' hs hk=> .inl ⟨_,hs,hk⟩) (λj' e hs hy=> .inr ⟨_,hs,hy⟩) hx)
theorem KR(hd:Za l)(j:Nat):NL uO [.ptr 1000 0,.clp yI true 1000 0] (Yh l en goal mvar pv pc names) (uX l en) j (λxs=> .sl .lit xs) (wH l (iQ zD yB names l) j):=
 bV (Rt _ _ _ _ _ _ _ _) (Ru _ _ _ _ _ _ _ _) λok ok2 R T hx=>by
  have hl:=V5 ok2;rw[QA];rw[wH,Pr.on_bind]at hx
  have hs:=tM (l:=l) (en:=en) (goal:=goal) (mvar:=mvar) (pv:=pv) (pc:=pc) (names:=names) j [⟨#[91]⟩];rw[xD,xD]at hs hx
  cases hb:xJ l ⟨#[91]⟩ j with
  |false=>
   rw[hb,if_neg (by decide)]at hs hx
   exact .inr ⟨_,hs,hx⟩
  |true=>
   rw[hb,if_pos rfl]at hs hx
   have h0:=uA hb;refine .inl ⟨_,hs,_,_,xF (j+1) _,?_⟩;have hx:Pr.on (if xJ l ⟨#[93]⟩ (j+1)=true then _ else _) _ _:=hx
   cases hc:xJ l ⟨#[93]⟩ (j+1)with
   |true=>
    rw[hc,if_pos rfl]at hx
    rw[oh,hc,if_pos rfl];exact bt rfl hx
   |false=>
    rw[hc,if_neg (by decide)]at hx
    rw[oh,hc,if_neg (by decide)]
    have hq:=QC (l:=l) (en:=en) (goal:=goal) (mvar:=mvar) (pv:=pv) (pc:=pc) (names:=names) hd (j+1);refine bf rfl ?_;cases hf:iQ zD yB names l (j+1)with
    |ok x j'=>
     rw[hf]at hq hx
     have ha:=Lc _ _ _ hf;exact .inl ⟨_,_,hq,V6 hd hl (l.length+1) [x] j' ha.2 (by omega) (by show 1≤_;omega) hx⟩
    |err j' e=>
     rw[hf]at hq hx
     exact .inr ⟨_,hq,hx⟩
end
section
variable {l:List vL}{en goal mvar:Int}{pv:List zN}{pc:List zE}{names:List (ByteArray×Int)}
theorem Co{α:Type}{f:Nat→Pr α}(hf:Adv l f):∀(fuel:Nat) (acc:List α) (j:Nat) (xs:List α) (j':Nat),uG l f fuel acc j=.ok xs j'→j<j'∧j'≤l.length
 |0,acc,j,xs,j',h=>by cases h
 |fuel+1,acc,j,xs,j',h=>by
  unfold uG at h
  split at h
  ·rename_i hb
   have hlt:=uA hb;cases hv:f (j+1)with
   |ok x i=>
    rw[hv]at h
    have h1:=hf _ _ _ hv;have h2:=Co hf fuel _ i xs j' h;omega
   |err i e=>rw[hv]at h;cases h
  ·rw[xD,xD]at h
   split at h
   ·rename_i hb
    have hlt:=uA hb;injection h with h1 h2;omega
   ·cases h
theorem jD{α:Type}{f:Nat→Pr α}(hf:Adv l f):Adv l (wH l f):=λi x j h=>by
 unfold wH at h
 rw[xD,xD]at h
 split at h
 ·rename_i hb
  have h0:=uA hb;simp only[Pr.bind]at h
  split at h
  ·rename_i hc
   have:=uA hc;injection h with h1 h2;omega
  ·cases hv:f (i+1)with
   |ok y k=>
    rw[hv]at h
    have h1:=hf _ _ _ hv;have h2:=Co hf _ _ _ _ _ h;omega
   |err k e=>rw[hv]at h;cases h
 ·cases h
abbrev zlq(l:List vL)(en goal mvar:Int)(pv:List zN)(pc:List zE)(names:List (ByteArray×Int))(j:Nat):List (Nat×yD):=
 [(1000,.cells [.ptr 1001 0]),(1001,.cells [.sl .tok l,dI j,dI en,.own 2000,.own 2001,dI goal,dI mvar,.own 1002]),(2000,.row 72 .var pv),(2001,.row 74 .con pc),(1002,.mp .str .int names)]
abbrev hpQ(l:List vL)(en goal mvar:Int)(pv:List zN)(pc:List zE)(names:List (ByteArray×Int))(j:Nat):List (Nat×yD):=
 [(1000,.cells [.sl .tok l,dI j,dI en,.own 2000,.own 2001,dI goal,dI mvar,.own 1001]),(2000,.row 72 .var pv),(2001,.row 74 .con pc),(1001,.mp .str .int names),(1002,.cells [.ptr 1000 0])]
theorem Le(hd:Za l)(j:Nat):NL yS [.ptr 1000 0] (zlq l en goal mvar pv pc names) (uX l en) j (λxs=> .sl .int xs) (wH l (kP yB l) j):=
 bV (Rr _ _ _ _ _ _ _ _) (Rs _ _ _ _ _ _ _ _) λok ok2 R T hx=>by
  rw[Qz];exact(eD hd j).call (λ_ j' hs hk=> .inl ⟨_,_,hs,hk⟩) (λj' e hs hy=> .inr ⟨_,hs,hy⟩) hx
theorem W9(hd:Za l){R:D→List (Nat×yD)→Prop}{T:Value→Prop}(hl:l.length*32≤140737488355328):∀(fuel:Nat) (acc:List (List Int)) (j:Nat),j≤l.length→l.length<j+fuel→acc.length≤j→
  (uG l (wH l (kP yB l)) fuel acc j).on (λxs j'=>R (dS xs) (hpQ l en goal mvar pv pc names j')) (λj' e=>T (Al (uX l en j') e))→∃n,iO R T n acc l (j:Int) en goal mvar names pv pc
 |0,acc,j,h1,h2,_,_=>by omega
 |fuel+1,acc,j,h1,h2,h3,hx=>by
  rw[uG]at hx
  cases hb:xJ l ⟨#[44]⟩ j with
  |true=>
   rw[hb,if_pos rfl]at hx
   have hlt:=uA hb;have hs:=Le (l:=l) (en:=en) (goal:=goal) (mvar:=mvar) (pv:=pv) (pc:=pc) (names:=names) hd (j+1);cases hf:wH l (kP yB l) (j+1)with
   |ok x j'=>
    rw[hf]at hs hx
    have ha:=(jD W8) _ _ _ hf;obtain⟨n,hn⟩:=W9 hd hl fuel (acc++[x]) j' ha.2 (by omega) (by rw[List.length_append];show _+1≤_;omega) hx
    refine⟨n+1,?_⟩;rw[fk];refine⟨_,_,xF j _,?_⟩;rw[oh,hb,if_pos rfl];exact bt rfl (.inl ⟨_,_,hs,xY (t:=.list .int) (by show(acc.length+1)*24≤_;omega),hn⟩)
   |err j' e=>
    rw[hf]at hs hx
    refine⟨1,?_⟩;rw[fk];refine⟨_,_,xF j _,?_⟩;rw[oh,hb,if_pos rfl];exact bt rfl (.inr ⟨_,hs,hx⟩)
  |false=>
   rw[hb,if_neg (by decide)]at hx
   refine⟨1,?_⟩;rw[fk];refine⟨_,_,xF j _,?_⟩;rw[oh,hb,if_neg (by decide)]
   rw[Pr.on_bind]at hx
   exact bf rfl ((tM j _).call (λ_ j' hs hk=> .inl ⟨_,hs,hk⟩) (λj' e hs hy=> .inr ⟨_,hs,hy⟩) hx)
theorem Lf(hd:Za l)(j:Nat):NL sA [.ptr 1000 0,.clp yS false 1002 0] (hpQ l en goal mvar pv pc names) (uX l en) j (λxs=>dS xs) (wH l (wH l (kP yB l)) j):=
 bV (Ob _ _ _ _ _ _ _ _) (Oc _ _ _ _ _ _ _ _) λok ok2 R T hx=>by
  have hl:l.length*32≤140737488355328:=(ok2 1000 _ rfl (.sl .tok l) (by simp)).1
  rw[NJ];rw[wH,Pr.on_bind]at hx
  have hs:=tM (l:=l) (en:=en) (goal:=goal) (mvar:=mvar) (pv:=pv) (pc:=pc) (names:=names) j [⟨#[91]⟩];rw[xD,xD]at hs hx
  cases hb:xJ l ⟨#[91]⟩ j with
  |false=>
   rw[hb,if_neg (by decide)]at hs hx
   exact .inr ⟨_,hs,hx⟩
  |true=>
   rw[hb,if_pos rfl]at hs hx
   have h0:=uA hb;refine .inl ⟨_,hs,_,_,xF (j+1) _,?_⟩;have hx:Pr.on (if xJ l ⟨#[93]⟩ (j+1)=true then _ else _) _ _:=hx
   cases hc:xJ l ⟨#[93]⟩ (j+1)with
   |true=>
    rw[hc,if_pos rfl]at hx
    rw[oh,hc,if_pos rfl];exact bt rfl hx
   |false=>
    rw[hc,if_neg (by decide)]at hx
    rw[oh,hc,if_neg (by decide)]
    have hq:=Le (l:=l) (en:=en) (goal:=goal) (mvar:=mvar) (pv:=pv) (pc:=pc) (names:=names) hd (j+1);refine bf rfl ?_;cases hf:wH l (kP yB l) (j+1)with
    |ok x j'=>
     rw[hf]at hq hx
     have ha:=(jD W8) _ _ _ hf;exact .inl ⟨_,_,hq,W9 hd hl (l.length+1) [x] j' ha.2 (by omega) (by show 1≤_;omega) hx⟩
    |err j' e=>
     rw[hf]at hq hx
     exact .inr ⟨_,hq,hx⟩
end
section
variable {l:List vL}{en goal mvar:Int}{pv:List zN}{pc:List zE}{names:List (ByteArray×Int)}
theorem Cp{α:Type}{f:Nat→Pr α}(hf:Adv l f):∀(fuel:Nat) (acc:List α) (j:Nat) (xs:List α) (j':Nat),acc.length≤j→uG l f fuel acc j=.ok xs j'→xs.length≤j'
 |0,acc,j,xs,j',_,h=>by cases h
 |fuel+1,acc,j,xs,j',ha,h=>by
  unfold uG at h
  split at h
  ·cases hv:f (j+1)with
   |ok x i=>
    rw[hv]at h
    have h1:=hf _ _ _ hv;exact Cp hf fuel (acc++[x]) i xs j' (by rw[List.length_append];show _+1≤_;omega) h
   |err i e=>rw[hv]at h;cases h
  ·rw[xD,xD]at h
   split at h
   ·injection h with h1 h2;subst h1;omega
   ·cases h
theorem zfD{α:Type}{f:Nat→Pr α}(hf:Adv l f){i j:Nat}{xs:List α}(h:wH l f i=.ok xs j):xs.length≤j:=by
 unfold wH at h
 rw[xD,xD]at h
 split at h
 ·simp only[Pr.bind]at h
  split at h
  ·injection h with h1 h2;subst h1;exact Nat.zero_le _
  ·cases hv:f (i+1)with
   |ok y k=>
    rw[hv]at h
    have h1:=hf _ _ _ hv;exact Cp hf _ [y] k _ _ (by show 1≤k;omega) h
   |err k e=>rw[hv]at h;cases h
 ·cases h
theorem Ds:tU X7 [] (.sl .str M9):=
 Ff λok=>by
  rw[Dq];rfl
theorem Lg(hd:Za l)(hl:l.length*32≤140737488355328){R:D→List (Nat×yD)→Prop}{T:Value→Prop}:∀(r pre:List ByteArray) (j:Nat),M9=pre++r→
  ((match lV l r ((pre.length:Int)+1) j with|some o=>jJ zD yB names l o (j+1)|none=> .err j 1).on (λx j'=>R (dC x) (Yh l en goal mvar pv pc names j')) λj' e=>T (Al (uX l en j') e))→
  ∃n,iJ R T M9 n (pre.length:Int) 0 [] [] 0 [] [] 0 [] [] 0 [] [] l (j:Int) en goal mvar names pv pc
 |[],pre,j,hw,hx=>by
  refine⟨1,?_⟩;rw[fh];have hl:pre.length=10:=by have:=congrArg List.length hw;simpa[M9]using this.symm
  refine df (by rw[hl];decide) (dt rfl (.inr ⟨_,rX j 1,hx⟩))
 |s::r,pre,j,hw,hx=>by
  have hl4:pre.length<M9.length:=by rw[hw,List.length_append,List.length_cons];omega
  have hl10:pre.length<10:=hl4
  have hat:yO .str M9 (pre.length:Int).toNat=s:=by
   rw[Int.toNat_natCast];show M9.getD _ _=_
   rw[hw,List.getD_eq_getElem?_getD,List.getElem?_append_right (Nat.le_refl _),Nat.sub_self];rfl
  have hs:=xF (l:=l) (en:=en) (goal:=goal) (mvar:=mvar) (pv:=pv) (pc:=pc) (names:=names) j s;rw[←hat]at hs
  rw[lV]at hx
  cases hb:xJ l s j with
  |true=>
   rw[hb,if_pos rfl]at hx
   refine⟨1,?_⟩;rw[fh];refine yC hl4▸⟨zM hl4,_,_,hs,?_⟩;rw[hat,oh,hb,if_pos rfl];refine bt rfl ?_;rw[wL (by omega) (by omega)]
   have hx:Pr.on (jJ zD yB names l ((pre.length:Int)+1) (j+1)) _ _:=hx;rw[show(pre.length:Int)+1=1+pre.length by omega]at hx
   refine df (by omega) ?_
   by_cases e1:(1:Int)+pre.length=1
   ·refine dt e1 ?_
    rw[jJ,if_pos (by omega)]at hx
    exact(eD hd _).call (λ_ _ hs hk=> .inl ⟨_,_,hs,(jC _).call (λ_ _ hs hk=> .inl ⟨_,_,hs,(Zb hd _).call (λ_ _ hs hk=> .inl ⟨_,_,hs,hk⟩) (λ_ _ hs hy=> .inr ⟨_,hs,hy⟩) (Pr.on_bind.1 hk)⟩) (λ_ _ hs hy=> .inr ⟨_,hs,hy⟩) (Pr.on_bind.1 hk)⟩) (λ_ _ hs hy=> .inr ⟨_,hs,hy⟩) (Pr.on_bind.1 hx)
   refine df e1 ?_
   by_cases e2:(1:Int)+pre.length=2
   ·refine dt e2 ?_
    rw[jJ,if_pos (by omega)]at hx
    exact(eD hd _).call (λ_ _ hs hk=> .inl ⟨_,_,hs,(jC _).call (λ_ _ hs hk=> .inl ⟨_,_,hs,(Zb hd _).call (λ_ _ hs hk=> .inl ⟨_,_,hs,hk⟩) (λ_ _ hs hy=> .inr ⟨_,hs,hy⟩) (Pr.on_bind.1 hk)⟩) (λ_ _ hs hy=> .inr ⟨_,hs,hy⟩) (Pr.on_bind.1 hk)⟩) (λ_ _ hs hy=> .inr ⟨_,hs,hy⟩) (Pr.on_bind.1 hx)
   refine df e2 ?_
   by_cases e3:(1:Int)+pre.length=3
   ·refine dt e3 ?_
    rw[jJ,if_pos (by omega)]at hx
    exact(eD hd _).call (λ_ _ hs hk=> .inl ⟨_,_,hs,(jC _).call (λ_ _ hs hk=> .inl ⟨_,_,hs,(Zb hd _).call (λ_ _ hs hk=> .inl ⟨_,_,hs,hk⟩) (λ_ _ hs hy=> .inr ⟨_,hs,hy⟩) (Pr.on_bind.1 hk)⟩) (λ_ _ hs hy=> .inr ⟨_,hs,hy⟩) (Pr.on_bind.1 hk)⟩) (λ_ _ hs hy=> .inr ⟨_,hs,hy⟩) (Pr.on_bind.1 hx)
   refine df e3 ?_
   by_cases e4:(1:Int)+pre.length=4
   ·refine dt e4 ?_
    rw[jJ,if_neg (by omega),if_pos (by omega)]at hx
    exact(jC _).call (λ_ _ hs hk=> .inl ⟨_,_,hs,hk⟩) (λ_ _ hs hy=> .inr ⟨_,hs,hy⟩) (Pr.on_bind.1 hx)
   refine df e4 ?_
   by_cases e5:(1:Int)+pre.length=5
   ·refine dt e5 ?_
    rw[jJ,if_neg (by omega),if_neg (by omega),if_pos (by omega)]at hx
    exact(eD hd _).call (λ_ _ hs hk=> .inl ⟨_,_,hs,(Sk 2 (by decide) _).call (λ_ _ hs hk=> .inl ⟨_,_,hs,hk⟩) (λ_ _ hs hy=> .inr ⟨_,hs,hy⟩) (Pr.on_bind.1 hk)⟩) (λ_ _ hs hy=> .inr ⟨_,hs,hy⟩) (Pr.on_bind.1 hx)
   refine df e5 ?_
   by_cases e6:(1:Int)+pre.length=6
   ·refine dt e6 ?_
    rw[jJ,if_neg (by omega),if_neg (by omega),if_neg (by omega),if_pos (by omega)]at hx
    exact(jC _).call (λ_ _ hs hk=> .inl ⟨_,_,hs,(Lf hd _).call (λ_ _ hs hk=> .inl ⟨_,_,hs,hk⟩) (λ_ _ hs hy=> .inr ⟨_,hs,hy⟩) (Pr.on_bind.1 hk)⟩) (λ_ _ hs hy=> .inr ⟨_,hs,hy⟩) (Pr.on_bind.1 hx)
   refine df e6 ?_
   by_cases e7:(1:Int)+pre.length=7
   ·refine dt e7 ?_
    rw[jJ,if_neg (by omega),if_neg (by omega),if_neg (by omega),if_neg (by omega),if_pos (by omega)]at hx
    exact(Sk 3 (by decide) _).call (λ_ _ hs hk=> .inl ⟨_,_,hs,hk⟩) (λ_ _ hs hy=> .inr ⟨_,hs,hy⟩) (Pr.on_bind.1 hx)
   refine df e7 ?_
   by_cases e8:(1:Int)+pre.length=8
   ·refine dt e8 ?_
    rw[jJ,if_neg (by omega),if_neg (by omega),if_neg (by omega),if_neg (by omega),if_neg (by omega),if_pos (by omega)]at hx
    refine(YC _).call (λv j1 hs hk=> .inl ⟨_,_,hs,?_⟩) (λ_ _ hs hy=> .inr ⟨_,hs,hy⟩) (Pr.on_bind.1 hx)
    have hk:Pr.on ((wH l (vP zD names l) j1).bind λvs j=>Pr.ok (⟨_,v::vs,[],0,[],[]⟩:zE) j) _ _:=hk
    have hq:=jC (l:=l) (en:=en) (goal:=goal) (mvar:=mvar) (pv:=pv) (pc:=pc) (names:=names) j1;cases hv:wH l (vP zD names l) j1 with
    |ok vs j2=>
     rw[hv]at hq hk
     have h1:=zfD Td hv;have h2:=jD Td _ _ _ hv;exact .inl ⟨_,_,hq,xY (t:=.int) (by show(1+vs.length)*8≤_;omega),hk⟩
    |err j2 e=>
     rw[hv]at hq hk
     exact .inr ⟨_,hq,hk⟩
   refine df e8 ?_
   by_cases e9:(1:Int)+pre.length=9
   ·refine dt e9 ?_
    rw[jJ,if_neg (by omega),if_neg (by omega),if_neg (by omega),if_neg (by omega),if_neg (by omega),if_neg (by omega),if_pos (by omega)]at hx
    exact(KR hd _).call (λ_ _ hs hk=> .inl ⟨_,_,hs,hk⟩) (λ_ _ hs hy=> .inr ⟨_,hs,hy⟩) (Pr.on_bind.1 hx)
   refine df e9 ?_
   by_cases e10:(1:Int)+pre.length=10
   ·refine dt e10 ?_
    rw[jJ,if_neg (by omega),if_neg (by omega),if_neg (by omega),if_neg (by omega),if_neg (by omega),if_neg (by omega),if_neg (by omega)]at hx
    exact(Sk 1 (by decide) _).call (λ_ _ hs hk=> .inl ⟨_,_,hs,(QC hd _).call (λ_ _ hs hk=> .inl ⟨_,_,hs,hk⟩) (λ_ _ hs hy=> .inr ⟨_,hs,hy⟩) (Pr.on_bind.1 hk)⟩) (λ_ _ hs hy=> .inr ⟨_,hs,hy⟩) (Pr.on_bind.1 hx)
   refine df e10 ?_;omega
  |false=>
   rw[hb,if_neg (by decide)]at hx
   obtain⟨n,hn⟩:=Lg hd hl r (pre++[s]) j (by rw[hw,List.append_assoc];rfl) (by rw[List.length_append];show Pr.on (match lV l r (((pre.length+1:Nat):Int)+1) j with|some o=>_|none=>_) _ _;rw[show((pre.length+1:Nat):Int)=(pre.length:Int)+1 by omega];exact hx)
   refine⟨n+1,?_⟩;rw[fh];refine yC hl4▸⟨zM hl4,_,_,hs,?_⟩;rw[hat,oh,hb,if_neg (by decide),nX (by omega)]
   rw[List.length_append]at hn
   exact bf rfl hn
theorem zaZ(hd:Za l)(j:Nat):NL qP [.ptr 1000 0] (Yh l en goal mvar pv pc names) (uX l en) j (λx=>dC x) (Rv zD yB names l j):=
 bV (P3 _ _ _ _ _ _ _ _) (P4 _ _ _ _ _ _ _ _) λok ok2 R T hx=>by
  rw[NG];exact zH (t:=.list .str) Ds (Lg hd (V5 ok2) M9 [] j rfl hx)
end
section
variable {l:List vL}{en:Int}
theorem Sl{pv:List zN}{pc:List zE}{names:List (ByteArray×Int)}{R:D→List (Nat×yD)→Prop}{T:Value→Prop}{x:Int×Int}{j:Nat}
  (hx:(Yi l x j).on (λg j'=>R (.tup []) (Yh l en g.1 g.2 pv pc names j')) λj' e=>T (Al (uX l en j') e)):
  (∃n35:Int,yH zI [.ptr 1000 0,.sl .str ([(⟨#[59]⟩:ByteArray)])] (Yh l en x.1 x.2 pv pc names j) (.tup []) (zaY l en x.1 x.2 pv pc names n35)∧zP (decide (n35<(l.length:Int)))
   ((yH zO [.ptr 1000 0,dI 1] (zaY l en x.1 x.2 pv pc names n35) (.tup []) (zaY l en x.1 x.2 pv pc names n35)∧R (.tup []) (zaY l en x.1 x.2 pv pc names n35))∨
    ∃u,nK zO [.ptr 1000 0,dI 1] (zaY l en x.1 x.2 pv pc names n35) u∧T u) (R (.tup []) (zaY l en x.1 x.2 pv pc names n35)))∨
  ∃u,nK zI [.ptr 1000 0,.sl .str ([(⟨#[59]⟩:ByteArray)])] (Yh l en x.1 x.2 pv pc names j) u∧T u:=by
 rw[Yi,Pr.on_bind]at hx
 refine(tM j _).call (λ_ j' hs hk=> .inl ⟨_,hs,?_⟩) (λ_ _ hs hy=> .inr ⟨_,hs,hy⟩) hx
 by_cases h:j'<l.length
 ·rw[if_pos h]at hk
  exact dt (by omega) (.inr ⟨_,rX j' 1,hk⟩)
 ·rw[if_neg h]at hk
  exact df (by omega) hk
theorem Ao(hd:Za l){pv:List zN}{pc:List zE}{names:List (ByteArray×Int)}{R:D→List (Nat×yD)→Prop}{T:Value→Prop}(j:Nat)(hb:xJ l ⟨#[99,111,110]⟩ j=false)
  (hx:(Yj zD l names j).on (λg j'=>R (.tup []) (Yh l en g.1 g.2 pv pc names j')) λj' e=>T (Al (uX l en j') e)):oB R T 1 l (j:Int) en 0 0 names pv pc:=by
 rw[oO];refine⟨_,_,xF j _,?_⟩;rw[oh,hb,if_neg (by decide)]
 refine bf rfl ?_;rw[Yj,Pr.on_bind]at hx
 refine(tM j _).call (λ_ j1 hs hk=> .inl ⟨_,hs,_,_,xF j1 _,?_⟩) (λ_ _ hs hy=> .inr ⟨_,hs,hy⟩) hx
 rw[oh];cases h1:xJ l ⟨#[97,110,121]⟩ j1 with
 |true=>
  rw[h1,if_pos rfl]at hk
  rw[if_pos rfl];exact bt rfl (Sl (x:=(0,0)) hk)
 |false=>
  rw[h1,if_neg (by decide)]at hk
  rw[if_neg (by decide)]
  refine bf rfl ⟨_,_,xF j1 _,?_⟩;rw[oh];cases h2:xJ l ⟨#[108,101,97,115,116]⟩ j1 with
  |true=>
   rw[h2,if_pos rfl]at hk
   rw[if_pos rfl];exact bt rfl ((YC (j1+1)).call (λv _ hs hk=> .inl ⟨_,_,hs,Sl (x:=(1,v)) hk⟩) (λ_ _ hs hy=> .inr ⟨_,hs,hy⟩) (Pr.on_bind.1 hk))
  |false=>
   rw[h2,if_neg (by decide)]at hk
   rw[if_neg (by decide)]
   exact bf rfl ((tM j1 _).call (λ_ j2 hs hk=> .inl ⟨_,hs,(YC j2).call (λv _ hs hk=> .inl ⟨_,_,hs,Sl (x:=(2,v)) hk⟩) (λ_ _ hs hy=> .inr ⟨_,hs,hy⟩) (Pr.on_bind.1 hk)⟩) (λ_ _ hs hy=> .inr ⟨_,hs,hy⟩) (Pr.on_bind.1 hk))
theorem sN{α β:Type}{r:Pr α}{f:α→Nat→Pr β}{x:β}{j:Nat}(h:r.bind f=.ok x j):∃y k,r=.ok y k∧f y k=.ok x j:=by
 cases r
 ·exact⟨_,_,rfl,h⟩
 ·cases h
theorem za0:∀ {r:List ByteArray} {i:Int} {j:Nat} {o:Int},lV l r i j=some o→j<l.length
 |[],i,j,o,h=>by cases h
 |s::r,i,j,o,h=>by
  unfold lV at h
  split at h
  ·rename_i hb;exact uA hb
  ·exact za0 h
theorem KS{isN:ByteArray→Bool}{names:List (ByteArray×Int)}{n:Nat}{acc:List Int}{j:Nat}{xs:List Int}{j':Nat}(h:Yg isN names l (n+1) acc j=.ok xs j'):j<j'∧j'≤l.length:=by
 have h1:=Fg _ _ _ _ _ h;unfold Yg at h
 obtain⟨x,k,h2,h3⟩:=sN h;have:=Td _ _ _ h2;have:=Fg _ _ _ _ _ h3;omega
theorem zhI{isN:ByteArray→Bool}{nv:ByteArray→Int}{names:List (ByteArray×Int)}{o:Int}{i j:Nat}{x:zE}(h:jJ isN nv names l o i=.ok x j):i<j∧j≤l.length:=by
 unfold jJ at h
 split at h
 ·obtain⟨_,_,h1,h⟩:=sN h;obtain⟨_,_,h2,h⟩:=sN h;obtain⟨_,_,h3,h⟩:=sN h
  injection h with _ h
  have:=jD W8 _ _ _ h1;have:=jD Td _ _ _ h2;have:=W8 _ _ _ h3;omega
 split at h
 ·obtain⟨_,_,h1,h⟩:=sN h
  injection h with _ h
  have:=jD Td _ _ _ h1;omega
 split at h
 ·obtain⟨_,_,h1,h⟩:=sN h;obtain⟨_,_,h2,h⟩:=sN h
  injection h with _ h
  have:=jD W8 _ _ _ h1;have:=KS h2;omega
 split at h
 ·obtain⟨_,_,h1,h⟩:=sN h;obtain⟨_,_,h2,h⟩:=sN h
  injection h with _ h
  have:=jD Td _ _ _ h1;have:=jD (jD W8) _ _ _ h2;omega
 split at h
 ·obtain⟨_,_,h1,h⟩:=sN h
  injection h with _ h
  have:=KS h1;omega
 split at h
 ·obtain⟨_,_,h1,h⟩:=sN h;obtain⟨_,_,h2,h⟩:=sN h
  injection h with _ h
  have:=Td _ _ _ h1;have:=jD Td _ _ _ h2;omega
 split at h
 ·obtain⟨_,_,h1,h⟩:=sN h
  injection h with _ h
  have:=jD Lc _ _ _ h1;omega
 ·obtain⟨_,_,h1,h⟩:=sN h;obtain⟨_,_,h2,h⟩:=sN h
  injection h with _ h
  have:=KS h1;have:=Lc _ _ _ h2;omega
theorem zeE{isN:ByteArray→Bool}{nv:ByteArray→Int}{names:List (ByteArray×Int)}{i j:Nat}{x:zE}(h:Rv isN nv names l i=.ok x j):i+2≤j∧j≤l.length:=by
 unfold Rv at h
 split at h
 ·rename_i o ho
  have:=za0 ho;have:=zhI h;omega
 ·cases h
theorem OM(hd:Za l)(hl:l.length*32≤140737488355328){pv:List zN}{names:List (ByteArray×Int)}{R:D→List (Nat×yD)→Prop}{T:Value→Prop}:∀(fuel:Nat) (cs:List zE) (j:Nat),j≤l.length→l.length<j+fuel→cs.length*4≤j→
  (((XW zD yB l names fuel cs j).bind λcs j=>(Yj zD l names j).bind λg j=> .ok (cs,g) j).on (λx j'=>R (.tup []) (Yh l en x.2.1 x.2.2 pv x.1 names j')) λj' e=>T (Al (uX l en j') e))→
  ∃n,oB R T n l (j:Int) en 0 0 names pv cs
 |0,cs,j,h1,h2,_,_=>by omega
 |fuel+1,cs,j,h1,h2,h3,hx=>by
  rw[XW]at hx
  cases hb:xJ l ⟨#[99,111,110]⟩ j with
  |false=>
   rw[hb,if_neg (by decide)]at hx
   have hx:((Yj zD l names j).bind λg j=>Pr.ok (cs,g) j).on _ _:=hx
   rw[Pr.on_bind]at hx
   exact⟨1,Ao hd j hb hx⟩
  |true=>
   rw[hb,if_pos rfl]at hx
   have hlt:=uA hb;have hq:=zaZ (l:=l) (en:=en) (goal:=0) (mvar:=0) (pv:=pv) (pc:=cs) (names:=names) hd (j+1);cases hc:Rv zD yB names l (j+1)with
   |err i e=>
    rw[hc]at hq hx
    refine⟨1,?_⟩;rw[oO];refine⟨_,_,xF j _,?_⟩;rw[oh,hb,if_pos rfl];exact bt rfl (.inr ⟨_,hq,hx⟩)
   |ok c i=>
    rw[hc]at hq hx
    have ha:=zeE hc;have hn:=tM (l:=l) (en:=en) (goal:=0) (mvar:=0) (pv:=pv) (pc:=cs) (names:=names) i [⟨#[59]⟩];have hx:(((xD l [⟨#[59]⟩] i).bind λ_ j=>XW zD yB l names fuel (cs++[c]) j).bind λcs j=>(Yj zD l names j).bind λg j=>Pr.ok (cs,g) j).on _ _:=hx
    rw[xD,xD]at hn hx
    cases hs:xJ l ⟨#[59]⟩ i with
    |false=>
     rw[hs,if_neg (by decide)]at hn hx
     refine⟨1,?_⟩;rw[oO];refine⟨_,_,xF j _,?_⟩;rw[oh,hb,if_pos rfl];exact bt rfl (.inl ⟨_,_,hq,.inr ⟨_,hn,hx⟩⟩)
    |true=>
     rw[hs,if_pos rfl]at hn hx
     have hi:=uA hs;obtain⟨n,hr⟩:=OM hd hl fuel (cs++[c]) (i+1) (by omega) (by omega) (by rw[List.length_append];show(_+1)*4≤_;omega) hx
     refine⟨n+1,?_⟩;rw[oO];refine⟨_,_,xF j _,?_⟩;rw[oh,hb,if_pos rfl];exact bt rfl (.inl ⟨_,_,hq,.inl ⟨_,hn,xY (t:=.con) (by show(cs.length+1)*112≤_;omega),hr⟩⟩)
end
section
variable {l:List vL}{en:Int}
theorem Va{s:ByteArray}{j k:Nat}{u:Unit}(h:xD l [s] j=.ok u k):k=j+1∧j<l.length:=by
 rw[xD,xD]at h
 split at h
 ·rename_i hb
  have:=uA hb;injection h with _ h
  omega
 ·cases h
theorem zjk{isN:ByteArray→Bool}{j k:Nat}{s:ByteArray}(h:ZP isN l j=.ok s k):k=j∧j<l.length:=by
 unfold ZP at h
 split at h
 ·rename_i hc;injection h with _ h;exact⟨h.symm,hc.1⟩
 ·cases h
theorem zjl{isN:ByteArray→Bool}{nv:ByteArray→Int}{i j:Nat}{x:zN}(h:Lb isN nv l i=.ok x j):i<j∧j≤l.length:=by
 unfold Lb at h
 obtain⟨_,_,h1,h⟩:=sN h;obtain⟨_,_,h2,h⟩:=sN h;obtain⟨_,_,h3,h⟩:=sN h;obtain⟨_,_,h4,h⟩:=sN h;obtain⟨_,_,h5,h⟩:=sN h;obtain⟨_,_,h6,h⟩:=sN h;injection h with _ h
 have:=zjk h1;have:=Va h2;have:=W8 _ _ _ h3;have:=Va h4;have:=W8 _ _ _ h5;have:=Va h6;omega
theorem za1{s:ByteArray}{i:Int}:∀es:List (ByteArray×Int),(rD .str .int s i es).length≤es.length+1
 |[]=>Nat.le_refl _
 |(a,b)::r=>by
  have ih:=za1 (s:=s) (i:=i) r;unfold rD;cases O8 .str s a with
  |true=>rw[cond_true];simp
  |false=>rw[cond_false];simp only[List.length_cons];omega
theorem za2{s:ByteArray}{i:Int}{es:List (ByteArray×Int)}:(bW es s i).length≤es.length+1:=by
 unfold bW;split
 ·omega
 ·exact za1 es
theorem ON(hd:Za l)(hl:l.length*32≤140737488355328){R:D→List (Nat×yD)→Prop}{T:Value→Prop}:∀(fuel:Nat) (vs:List zN) (ns:List (ByteArray×Int)) (j:Nat),j≤l.length→l.length<j+fuel→vs.length≤j→ns.length≤vs.length→
  (((OL zD yB l fuel vs ns j).bind λx j=>(XW zD yB l x.2 (l.length+1) [] j).bind λcs j=>(Yj zD l x.2 j).bind λg j=> .ok (x,cs,g) j).on (λy j'=>R (.tup []) (Yh l en y.2.2.1 y.2.2.2 y.1.1 y.2.1 y.1.2 j')) λj' e=>T (Al (uX l en j') e))→
  ∃n,tG R T n l (j:Int) en 0 0 ns vs []
 |0,vs,ns,j,h1,h2,_,_,_=>by omega
 |fuel+1,vs,ns,j,h1,h2,h3,h4,hx=>by
  rw[OL]at hx
  cases hb:xJ l ⟨#[118,97,114]⟩ j with
  |false=>
   rw[hb,if_neg (by decide)]at hx
   have hx:((XW zD yB l ns (l.length+1) [] j).bind λcs j=>(Yj zD l ns j).bind λg j=>Pr.ok ((vs,ns),cs,g) j).on _ _:=hx
   refine⟨1,?_⟩;rw[aZ];refine⟨_,_,xF j _,?_⟩;rw[oh,hb,if_neg (by decide)]
   refine bf rfl (OM hd hl (l.length+1) [] j h1 (by omega) (Nat.zero_le _) ?_)
   rw[Pr.on_bind]at hx⊢
   refine Pr.on_mono hx (λcs j' h=> ?_) λ_ _ h=>h
   rw[Pr.on_bind]at h⊢
   exact h
  |true=>
   rw[hb,if_pos rfl]at hx
   have hlt:=uA hb
   obtain⟨n,hn⟩:∃n,∀v i,Lb zD yB l (j+1)=.ok v i→tG R T n l (i:Int) en 0 0 (bW ns v.name vs.length) (vs++[v]) []:=by
    cases hv:Lb zD yB l (j+1)with
    |ok v i=>
     rw[hv]at hx
     have ha:=zjl hv;have:=za2 (s:=v.name) (i:=vs.length) (es:=ns);obtain⟨n,hr⟩:=ON hd hl fuel (vs++[v]) (bW ns v.name vs.length) i ha.2 (by omega) (by rw[List.length_append];show _+1≤_;omega) (by rw[List.length_append];show _≤_+1;omega) hx
     exact⟨n,λv' i' e=>by injection e with e1 e2;subst e1 e2;exact hr⟩
    |err i e=>exact⟨0,λ_ _ e=>by cases e⟩
   have hy:(Lb zD yB l (j+1)).on (λv i=>tG R T n l (i:Int) en 0 0 (bW ns v.name vs.length) (vs++[v]) []) λj' e=>T (Al (uX l en j') e):=by
    cases hv:Lb zD yB l (j+1)with
    |ok v i=>exact hn _ _ hv
    |err i e=>rw[hv]at hx;exact hx
   refine⟨n+1,?_⟩;rw[aZ];refine⟨_,_,xF j _,?_⟩;rw[oh,hb,if_pos rfl];rw[Lb,Pr.on_bind,ZP]at hy
   have hq:=La (l:=l) (en:=en) (goal:=0) (mvar:=0) (pv:=vs) (pc:=[]) (names:=ns) (j+1);rw[ZP]at hq
   refine bt rfl ?_
   by_cases hc:j+1<l.length∧zD (rW l (j+1)).text=true
   ·rw[if_pos hc]at hq hy
    refine .inl ⟨_,hq,?_⟩;rw[nX (by omega)]
    have hy:Pr.on (Pr.bind (xD l [⟨#[58]⟩] (j+1+1)) _) _ _:=hy;refine(tM _ _).call (λ_ _ hs hk=> .inl ⟨_,hs,(Zb hd _).call (λa _ hs hk=> .inl ⟨_,_,hs,(tM _ _).call (λ_ _ hs hk=> .inl ⟨_,hs,(Zb hd _).call (λb _ hs hk=> .inl ⟨_,_,hs,(tM _ _).call (λ_ k hs hk=> .inl ⟨_,hs,?_⟩) (λ_ _ hs hy=> .inr ⟨_,hs,hy⟩) (Pr.on_bind.1 hk)⟩) (λ_ _ hs hy=> .inr ⟨_,hs,hy⟩) (Pr.on_bind.1 hk)⟩) (λ_ _ hs hy=> .inr ⟨_,hs,hy⟩) (Pr.on_bind.1 hk)⟩) (λ_ _ hs hy=> .inr ⟨_,hs,hy⟩) (Pr.on_bind.1 hk)⟩) (λ_ _ hs hy=> .inr ⟨_,hs,hy⟩) (Pr.on_bind.1 hy)
    have hk:tG R T n l (k:Int) en 0 0 (bW ns (rW l (j+1)).text vs.length) (vs++[⟨(rW l (j+1)).text,a,b⟩]) []:=hk;have hr:wN .var (vs.length+[(⟨(rW l (j+1)).text,a,b⟩:zN)].length)=true:=xY (t:=.var) (by show(vs.length+1)*32≤_;omega)
    unfold bW at hk
    cases hm:PK .str .int (rW l (j+1)).text ns with
    |true=>
     rw[hm,if_pos rfl]at hk
     exact bnf rfl ⟨hr,hk⟩
    |false=>
     rw[hm,if_neg (by decide)]at hk
     exact bnt rfl ⟨decide_eq_true (by omega),hr,hk⟩
   ·rw[if_neg hc]at hq hy
    exact .inr ⟨_,hq,hy⟩
theorem Dt(hd:Za l):match eC zD yB l with
  | .ok (m,ns) j=>yH pD [.ptr 1000 0] (Yh l en 0 0 [] [] [] 0) (.tup []) (Yh l en m.goal m.var m.vars m.cons ns j)
  | .err j e=>nK pD [.ptr 1000 0] (Yh l en 0 0 [] [] [] 0) (Al (uX l en j) e):=by
 have hx:∀(R:D→List (Nat×yD)→Prop) (T:Value→Prop),(eC zD yB l).on (λx j'=>R (.tup []) (Yh l en x.1.goal x.1.var x.1.vars x.1.cons x.2 j')) (λj' e=>T (Al (uX l en j') e))→
   (∀k o,zZ k (Yh l en 0 0 [] [] [] 0)=some o→okO o)→FX tV Tryz.f94 [.ptr 1000 0] (Yh l en 0 0 [] [] [] 0) [.ptr 1000 0] false R T:=λR T h ok2=>by
  refine(Qq l 0 en 0 0 [] [] [] R T)▸ ?_;refine ON hd (V5 ok2) (l.length+1) [] [] 0 (Nat.zero_le _) (by omega) (Nat.le_refl _) (Nat.le_refl _) ?_
  rw[eC,Pr.on_bind]at h
  rw[Pr.on_bind];refine Pr.on_mono h (λx j h=> ?_) λ_ _ h=>h
  rw[Pr.on_bind]at h⊢
  refine Pr.on_mono h (λcs j h=> ?_) λ_ _ h=>h
  rw[Pr.on_bind]at h⊢
  exact h
 cases hm:eC zD yB l with
 |ok x j=>
  obtain⟨m,ns⟩:=x;exact Ro _ _ _ _ _ _ _ _ λok ok2=>hx _ _ (by rw[hm];exact⟨rfl,rfl⟩) ok2
 |err j e=>exact Rq _ _ _ _ _ _ _ _ λok ok2=>hx _ _ (by rw[hm];exact rfl) ok2
end
def kM:wA:= {own:=[14],live:=[],n:=19}
theorem ZQ(a:List UInt8)(b:ByteArray)(R:pR):FH kM Tryz.f56 [.ptr 1000 0,.str b] [(1000,.cells [.slf 1000,.own 2000]),(2000,.row 5 .byte a)] [.ptr 1000 0] false R=
 (yH nB [.ptr 1000 0] [(1000,.cells [.slf 1000,.own 2000]),(2000,.row 5 .byte a)] (.tup []) [(1000,.cells [.slf 1000,.own 2000]),(2000,.row 5 .byte a)]∧
 wN .byte (a.length+b.size)=true∧
 R (.tup [dI (b.size:Int),.undef]) [(1000,.cells [.slf 1000,.own 2000]),(2000,.row 5 .byte (a++b.data.toList))]):=by kernel_rfl
theorem Zp(a:List UInt8)(b:ByteArray):oH kM Tryz.f56 vB [.ptr 1000 0,.str b] [(1000,.cells [.slf 1000,.own 2000]),(2000,.row 5 .byte a)] [.ptr 1000 0] false:=oT Tryz.func56 (by kernel_rfl) Tryz.ntmps56 rfl
def SQ:wA:= {own:=[6,9],live:=[],n:=52}
theorem KT(b:ByteArray)(a:Int)(R:xO):FD SQ Tryz.f17 [.str b,dI a] R=
 (zP (decide (4000<(b.size:Int)))
 (R (.tup [.str (⟨#[]⟩:ByteArray),dI 2]))
 (zP (decide (a<0))
 (R (.tup [.str (⟨#[]⟩:ByteArray),dI 3]))
 (zP (decide (300<a))
 (R (.tup [.str (⟨#[]⟩:ByteArray),dI 3]))
 (c3Q Zt [.str b] .mdl .int .int λe g h=>
 zP (!decide (h=0))
 (xK oy [dI g] .str λc=>
 (⟨#[116,101,120,116,32]⟩:ByteArray).size+c.size≤140737488355328∧
 ((⟨#[116,101,120,116,32]⟩:ByteArray)++c).size+(⟨#[10]⟩:ByteArray).size≤140737488355328∧
 R (.tup [.str (((⟨#[116,101,120,116,32]⟩:ByteArray)++c)++(⟨#[10]⟩:ByteArray)),dI 0]))
 (c2Q fN [dM e,dI a] .ans .int λd f=>
 zP (!decide (f=0))
 (R (.tup [.str (⟨#[]⟩:ByteArray),dI f]))
 (zP (decide (d.verdict=1))
 (xK Zu [dM e,.sl .int d.values] .str λi=>
 R (.tup [.str i,dI 0]))
 (zP (decide (d.verdict=2))
 (R (.tup [.str (⟨#[110,111,110,101,10]⟩:ByteArray),dI 0]))
 (R (.tup [.str (⟨#[117,110,107,110,111,119,110,10]⟩:ByteArray),dI 0]))))))))):=by kernel_rfl
theorem Lh(a:ByteArray)(b:Int):wC SQ Tryz.f17 hJ [.str a,dI b]:=wJ Tryz.func17 (by kernel_rfl) Tryz.ntmps17 rfl
def SR:wA:= {own:=[8,11,39],live:=[],n:=61}
theorem KU(d:ByteArray)(a:List Int)(c:List zU)(R:xO):FD SR Tryz.f23 [.str d,.sl .int a,.sl .step c] R=
 (c3Q Zt [.str d] .mdl .int .int λb n e=>
 zP (!decide (e=0))
 (R (.tup [dB false,dI e]))
 (zP (decide (0<(a.length:Int)))
 (c2Q gQ [dM b,.sl .int a] (.list .lit) .int λf g=>
 zP (!decide (g=0))
 (R (.tup [dB false,dI g]))
 (wN (.list .lit) (([]:List (List zC)).length+([f]).length)=true∧
 c2Q cN [dM b,.sl (.list .lit) (([]:List (List zC))++([f])),.sl .step c] .bool .int λj h=>
 zP (!decide (h=0))
 (R (.tup [dB false,dI h]))
 (zP j
 (zP (decide ((a.length:Int)=0))
 (R (.tup [dB true,dI 0]))
 (xK cO [dM b,.sl .int a] .bool λk=>
 R (.tup [dB k,dI 0])))
 (R (.tup [dB false,dI 0])))))
 (c2Q cN [dM b,.sl (.list .lit) ([]:List (List zC)),.sl .step c] .bool .int λl i=>
 zP (!decide (i=0))
 (R (.tup [dB false,dI i]))
 (zP l
 (zP (decide ((a.length:Int)=0))
 (R (.tup [dB true,dI 0]))
 (xK cO [dM b,.sl .int a] .bool λm=>
 R (.tup [dB m,dI 0])))
 (R (.tup [dB false,dI 0])))))):=by kernel_rfl
theorem Li(a:ByteArray)(b:List Int)(c:List zU):wC SR Tryz.f23 hM [.str a,.sl .int b,.sl .step c]:=wJ Tryz.func23 (by kernel_rfl) Tryz.ntmps23 rfl
def jE:wA:= {own:=[5,7],live:=[(0,([1,5,14,15,16],[5,1005001]))],n:=34,nils:=[(5,(0,(5,.byte))),(5,(1,(5,.byte)))],pubs:=[]}
def gH(a:zG)(b:List Int)(R:xO)(c:Nat)(d:Int)(e:List UInt8):Prop:=LP jE Tryz.f67 [1,1,1,0,1,0,0] 0 c ⟨[(1,.sl .int b),(5,.ptr 5 0),(14,.sl .var a.vars),(15,dI (a.vars.length:Int)),(16,dI d)],[(5,.cells [.slf 5,.own 1005001]),(1005001,.row 5 .byte e)]⟩ (zQ 0 (sK jE Tryz.f67 [1,1,1,1] 0 (eK Tryz.f67 R)))
def lW(a:zG)(b:List Int)(R:xO)(c:Nat)(d:Int)(e:List UInt8):Prop:=LP jE Tryz.f67 [1,1,1,0,1,0,0] 0 c ⟨[(1,.sl .int b),(5,.ptr 5 0),(14,.sl .var a.vars),(15,dI (a.vars.length:Int)),(16,dI d)],[(5,.cells [.slf 5,.own 1005001]),(1005001,.row 5 .byte e)]⟩ (zQ 0 (sK jE Tryz.f67 [1,1,1,1] 0 (eK Tryz.f67 R)))
theorem NN(b:zG)(c:List Int)(R:xO)(f:Nat)(a:Int)(d:List UInt8):gH b c R (f+1) a d=
 (zP (decide (a<(b.vars.length:Int)))
 (vW a b.vars.length=true∧
 vW a c.length=true∧
 xK oy [dI (yO .int c a.toNat)] .str λe=>
 ((yO .var b.vars a.toNat).name).size+(⟨#[32,61,32]⟩:ByteArray).size≤140737488355328∧
 (((yO .var b.vars a.toNat).name)++(⟨#[32,61,32]⟩:ByteArray)).size+e.size≤140737488355328∧
 ((((yO .var b.vars a.toNat).name)++(⟨#[32,61,32]⟩:ByteArray))++e).size+(⟨#[10]⟩:ByteArray).size≤140737488355328∧
 ∃i:Int,∃g:List UInt8,yH vB [.ptr 1000 0,.str (((((yO .var b.vars a.toNat).name)++(⟨#[32,61,32]⟩:ByteArray))++e)++(⟨#[10]⟩:ByteArray))] [(1000,.cells [.slf 1000,.own 2000]),(2000,.row 5 .byte d)] (.tup [dI i,.undef]) [(1000,.cells [.slf 1000,.own 2000]),(2000,.row 5 .byte g)]∧
 gH b c R f (yU (a+1)) g)
 (∃h:ByteArray,yH oo [.ptr 1000 0] [(1000,.cells [.slf 1000,.own 2000]),(2000,.row 5 .byte d)] (.str h) []∧
 R (.str h))):=by kernel_rfl
theorem QD(b:zG)(c:List Int)(R:xO)(f:Nat)(a:Int)(d:List UInt8):lW b c R (f+1) a d=
 (zP (decide (a<(b.vars.length:Int)))
 (vW a b.vars.length=true∧
 vW a c.length=true∧
 xK oy [dI (yO .int c a.toNat)] .str λe=>
 ((yO .var b.vars a.toNat).name).size+(⟨#[32,61,32]⟩:ByteArray).size≤140737488355328∧
 (((yO .var b.vars a.toNat).name)++(⟨#[32,61,32]⟩:ByteArray)).size+e.size≤140737488355328∧
 ((((yO .var b.vars a.toNat).name)++(⟨#[32,61,32]⟩:ByteArray))++e).size+(⟨#[10]⟩:ByteArray).size≤140737488355328∧
 ∃i:Int,∃g:List UInt8,yH vB [.ptr 1000 0,.str (((((yO .var b.vars a.toNat).name)++(⟨#[32,61,32]⟩:ByteArray))++e)++(⟨#[10]⟩:ByteArray))] [(1000,.cells [.slf 1000,.own 2000]),(2000,.row 5 .byte d)] (.tup [dI i,.undef]) [(1000,.cells [.slf 1000,.own 2000]),(2000,.row 5 .byte g)]∧
 lW b c R f (yU (a+1)) g)
 (∃h:ByteArray,yH oo [.ptr 1000 0] [(1000,.cells [.slf 1000,.own 2000]),(2000,.row 5 .byte d)] (.str h) []∧
 R (.str h))):=by kernel_rfl
theorem IW(a:zG)(b:List Int)(R:xO):FD jE Tryz.f67 [dM a,.sl .int b] R=
 (zP (decide (a.goal=0))
 (∃e:Int,∃c:List UInt8,yH vB [.ptr 1000 0,.str (⟨#[102,111,117,110,100,10]⟩:ByteArray)] [(1000,.cells [.slf 1000,.own 2000]),(2000,.row 5 .byte ([]:List UInt8))] (.tup [dI e,.undef]) [(1000,.cells [.slf 1000,.own 2000]),(2000,.row 5 .byte c)]∧
 ∃n0,gH a b R n0 0 c)
 (∃f:Int,∃d:List UInt8,yH vB [.ptr 1000 0,.str (⟨#[98,101,115,116,10]⟩:ByteArray)] [(1000,.cells [.slf 1000,.own 2000]),(2000,.row 5 .byte ([]:List UInt8))] (.tup [dI f,.undef]) [(1000,.cells [.slf 1000,.own 2000]),(2000,.row 5 .byte d)]∧
 ∃n0_2,lW a b R n0_2 0 d)):=by kernel_rfl
theorem KW(a:zG)(b:List Int):wC jE Tryz.f67 Zu [dM a,.sl .int b]:=wJ Tryz.func67 (by kernel_rfl) Tryz.ntmps67 rfl
def jP(n:Int):ByteArray:=⟨(Lib.itoa n).toArray⟩
def nmS(vs:List zN)(i:Int):ByteArray:=(yO .var vs i.toNat).name
theorem Du(a:Array UInt8):(⟨a⟩:ByteArray).size=a.size:=rfl
theorem zjm(b:Nat)(w:World)(h0:w.cell? ⟨b,0,none⟩=some (.pointer (some ⟨b,0,none⟩))):
  Calls Tryz.prog 106 #[.pointer (some ⟨b,0,none⟩)] w λe w'=>e=.returned (.tuple #[])∧w'=w:=by
 have u:Tryz.prog.underlying 96=some (.pointer 99):=by kernel_rfl
 obtain⟨j,hj⟩:∃j,Tryz.prog.info? 99=some j:=Option.isSome_iff_exists.1 (by kernel_rfl)
 go_enter Tryz.func106,Tryz.ntmps106
 go_wp2
 rw[Lib.run_neq_ptr_same w _ u hj]
 go_wp2
 go_end0
 exact⟨rfl,rfl⟩
set_option maxRecDepth 100000 in
theorem zhJ(b n:Nat)(T:TypeId)(w:World)(h0:w.cell? ⟨b,0,none⟩=some (.pointer none))(hsh:w.shape? b=some (T,n))(hn:0<n)(hfz:w.frozen? ⟨b,0,none⟩=false)
  (hl:liesAt Tryz.prog Tryz.prog.depth T (n/Tryz.prog.cellsOf T) 0 99 1=true):
  Calls Tryz.prog 106 #[.pointer (some ⟨b,0,none⟩)] w λe w'=>e=.returned (.tuple #[])∧w'=w.setCell ⟨b,0,none⟩ (.pointer (some ⟨b,0,none⟩)):=by
 have u:Tryz.prog.underlying 96=some (.pointer 99):=by kernel_rfl
 have u2:Tryz.prog.underlying 210=some .unsafePointer:=by kernel_rfl
 obtain⟨j,hj⟩:∃j,Tryz.prog.info? 99=some j:=Option.isSome_iff_exists.1 (by kernel_rfl)
 have hjs:j.size=2:=by
  have:(Tryz.prog.info? 99).map (·.size)=some 2:=by kernel_rfl
  rw[hj]at this;simpa using this
 go_enter Tryz.func106,Tryz.ntmps106
 go_wp2
 rw[Lib.run_to_unsafe w ⟨b,0,none⟩ u u2 hj (by rw[hjs];decide) hsh hn]
 simp only[Result.andThen];rw[Oper.upon_value]
 go_wp2
 rw[run_callFunc_extern Tryz.func172 (by kernel_rfl) (by kernel_rfl) (by kernel_rfl) (e:=Extern.AbiNoEscape.same) (by kernel_rfl)]
 rw[Lib.run_noEscape];simp only[Result.andThen];rw[Oper.upon_value]
 go_wp2
 rw[Lib.run_from_unsafe w ⟨b,0,none⟩ u2 u hj hsh hl];simp only[Result.andThen];rw[Oper.upon_value]
 go_wp2
 go_end0
 exact⟨rfl,rfl⟩
theorem za3{w:World}{S:Nat→Prop}{pl:Nat→Value}{vs:Array Value}(hsz:vs.size=1)(hv:Rd w S pl (vs.getD 0 undef) (.ptr 1000 0)):∃b,pl 1000=.pointer (some ⟨b,0,none⟩)∧vs= #[.pointer (some ⟨b,0,none⟩)]:=by
 obtain⟨b,e1,e2⟩:=hv;refine⟨b,e1,?_⟩;apply Array.ext
 ·simpa using hsz
 ·intro i h1 h2
  have:i=0:=by omega
  subst this;rw[Array.getD_eq_getD_getElem?,Array.getElem?_eq_getElem h1]at e2
  simpa using e2
theorem Ap(ds:List D)(buf:List UInt8)(hlies:∀T,memT A5 T (ds.length+1)=true→liesAt Tryz.prog Tryz.prog.depth T ((ds.length+1)/Tryz.prog.cellsOf T) 0 99 1=true):
  yH nB [.ptr 1000 0] [(1000,.cells (.slf 1000::ds)),(2000,.row 5 .byte buf)] (.tup []) [(1000,.cells (.slf 1000::ds)),(2000,.row 5 .byte buf)]:=by
 intro w S vs pl hS hsz hv hh hg;obtain⟨b,e1,rfl⟩:=za3 hsz (hv 0 _ rfl);obtain⟨b',cs,T,eb,mb,zb,rb,tb⟩:=hh.ok 1000 _ rfl;rw[e1]at eb;injection eb with eb;injection eb with eb;injection eb with eb;subst eb
 have hT:memT A5 T (ds.length+1)=true:=tb rfl;have zb:cs.size=ds.length+1:=zb;have h0:=rb 0 _ rfl
 have hc:w.cell? ⟨b,0,none⟩=some (cs.getD 0 undef):=by
  rw[cell_of_row w b 0 cs T (0,0) mb];simp[Array.getD_eq_getD_getElem?,zb]
 have hpr:=hh.priv 1000 _ b rfl (by rw[e1];rfl)
 rcases h0 with h0|⟨b2,h2,h0⟩
 ·rw[h0]at hc
  have hsh:w.shape? b=some (T,cs.size):=by simp[World.shape?,mb]
  refine(zhJ b cs.size T w hc hsh (by omega) (frozen_of_row w b 0 cs T mb) (by rw[zb];exact hlies T hT)).mono λe w' ⟨he,hw⟩=> ?_
  subst hw;have hfar:∀c,c≠b→(w.setCell ⟨b,0,none⟩ (.pointer (some ⟨b,0,none⟩))).heap[c]? =w.heap[c]? :=λc hc=>Below.heap_setCell w ⟨b,0,none⟩ _ c hc
  have hat:wZ (w.setCell ⟨b,0,none⟩ (.pointer (some ⟨b,0,none⟩))) b T (cs.setIfInBounds 0 (.pointer (some ⟨b,0,none⟩))):=wZ.set_ mb 0 _;refine⟨_,S,pl,he,Rp.rd (.tup _ _ rfl λi d hd=>by simp at hd),⟨λk o ho=> ?_,λk o c ho hc=> ?_,hh.inj⟩,λc hc=>by simpa[World.setCell]using hS c hc,λc hc=> .inl hc,λc h=> .inl h,λ_ _=>rfl,⟨rfl,rfl,rfl,by simp[World.setCell],λc _ hn=>hfar c λe=>hn ⟨1000,_,rfl,by rw[e1,e];rfl⟩⟩⟩
  ·by_cases hk:k=1000
   ·subst hk
    have ho:yD.cells (.slf 1000::ds)=o:=by injection ho
    subst ho;refine⟨b,_,T,e1,hat,by simpa using zb,λi d hd=> ?_,λ_=>hT⟩
    cases i with
    |zero=>
     injection hd with hd;subst hd
     refine .inr ⟨b,e1,?_⟩;simp[Array.getD_eq_getD_getElem?,zb]
    |succ i=>
     have h:=rb (i+1) d hd
     have e:(cs.setIfInBounds 0 (.pointer (some ⟨b,0,none⟩))).getD (i+1) undef=cs.getD (i+1) undef:=by
      rw[Array.getD_eq_getD_getElem?,Array.getD_eq_getD_getElem?,Array.getElem?_setIfInBounds_ne (by omega)]
     rw[e];exact h.mono (λc hc=>hfar c λe=>hpr.2 (e▸hc)) (λ_ h=>h) λ_ _=>rfl
   ·refine(hh.ok k o ho).mono (λc hc=>hfar c λe=>hpr.2 (e▸hc)) (λc hcc=>hfar c λe=>hk (hh.inj k 1000 o _ c ho rfl hcc (by rw[e1,e];rfl))) (λ_ h=>h) λ_ _ _ _=>rfl
  ·have:=hh.priv k o c ho hc
   exact⟨by simpa[World.setCell]using this.1,this.2⟩
 ·rw[e1]at h2;injection h2 with h2;injection h2 with h2;injection h2 with h2;subst h2
  rw[h0]at hc
  refine(zjm b w hc).mono λe w' ⟨he,hw⟩=> ?_
  subst hw;exact⟨_,S,pl,he,Rp.rd (.tup _ _ rfl λi d hd=>by simp at hd),hh,hS,λc hc=> .inl hc,λc h=> .inl h,λ_ _=>rfl,⟨rfl,rfl,rfl,Nat.le_refl _,λ_ _ _=>rfl⟩⟩
theorem zc6{w:World}{g n:Nat}{k:Nat}(hk:k≠g):(w.freeze ⟨g,0,none⟩ n).heap[k]? =w.heap[k]? :=by
 unfold World.freeze;split
 ·rfl
 ·simp only[Array.getElem?_modify]
  rw[if_neg (by omega)]
theorem za4{w:World}{g n:Nat}:(w.freeze ⟨g,0,none⟩ n).os=w.os∧(w.freeze ⟨g,0,none⟩ n).tape=w.tape∧(w.freeze ⟨g,0,none⟩ n).output=w.output∧(w.freeze ⟨g,0,none⟩ n).heap.size=w.heap.size:=by
 unfold World.freeze;split
 ·exact⟨rfl,rfl,rfl,rfl⟩
 ·exact⟨rfl,rfl,rfl,by simp⟩
set_option maxHeartbeats 1000000 in
set_option maxRecDepth 100000 in
theorem za5(b g cap:Nat)(l:List UInt8)(cur:Array Value)(w:World)(h0:l≠[])(hc1:w.cell? ⟨b,1,none⟩=some (.slice (some ⟨g,0,none⟩) l.length cap))(hg:w.heap[g]? =some (.cells cur 5 (0,0)))(hcap:cap≠0)(hlen:l.length≤cur.size)(hl:l.length≤9223372036854775807)
  (hcell:∀j x,l[j]? =some x→w.cell? ((⟨g,0,none⟩:Addr).add j)=some (.int .u8 x.toNat)):
  Calls Tryz.prog 60 #[.pointer (some ⟨b,0,none⟩)] w λe w'=>e=.returned (.string ⟨l.toArray⟩)∧w'=w.drew.freeze ⟨g,0,none⟩ l.length:=by
 have c1:w.drew.cell? ⟨b,1,none⟩=some (.slice (some ⟨g,0,none⟩) l.length cap):=hc1;have mixed:Tryz.prog.follows .mixedOrders=true:=by kernel_rfl
 have t174:Tryz.prog.underlying 174=some (.pointer 5):=by kernel_rfl
 have cb:Tryz.prog.cellsOf 5=1:=by kernel_rfl
 have hSD:(Builtin.unsafeSliceData_ #[97] 174 #[.slice (some ⟨g,0,none⟩) l.length cap]).run Tryz.prog w.drew=.ok (.pointer (some ⟨g,0,none⟩)) w.drew:=
  Lib.run_unsafeSliceData_row _ _ _ _ _ _ hcap
 have hUS:(Builtin.unsafeString_ #[174,3] 9 #[.pointer (some ⟨g,0,none⟩),.int .i64 l.length]).run Tryz.prog w.drew=.ok (.string ⟨l.toArray⟩) (w.drew.freeze ⟨g,0,none⟩ l.length):=by
  refine Lib.run_unsafeString_row w.drew 174 3 9 5 t174 cb g cur.size (by have hg':w.drew.heap[g]? =some (.cells cur 5 (0,0)):=hg;simp[World.shape?,hg']) l h0 hlen hl ?_
  exact hcell
 clear hcell hcap
 go_enter Tryz.func60,Tryz.ntmps60
 go_wp2
 go_region_o
 all_goals(go_wp2;go_ret;exact⟨rfl,rfl⟩)
theorem Cq{α β:Type}(f:α→β):∀l:List α,(l.map λx=>[f x]).flatten=l.map f
 |[]=>rfl
 |x::r=>by rw[List.map_cons,List.flatten_cons,Cq f r];rfl
theorem Cr(d0:D)(ds:List D)(buf:List UInt8)(h0:buf≠[])(hw:yJ (buf.length:Int)):yH oo [.ptr 1000 0] [(1000,.cells (d0:: .own 2000::ds)),(2000,.row 5 .byte buf)] (.str ⟨buf.toArray⟩) []:=by
 intro w S vs pl hS hsz hv hh hg;obtain⟨b,e1,rfl⟩:=za3 hsz (hv 0 _ rfl);obtain⟨b',cs,T,eb,mb,zb,rb,tb⟩:=hh.ok 1000 _ rfl;rw[e1]at eb;injection eb with eb;injection eb with eb;injection eb with eb;subst eb
 have zb:cs.size=ds.length+1+1:=zb;have h1:cs.getD 1 undef=pl 2000:=rb 1 _ rfl
 have hc:w.cell? ⟨b,1,none⟩=some (cs.getD 1 undef):=by
  rw[cell_of_row w b 1 cs T (0,0) mb];simp[Array.getD_eq_getD_getElem?,zb]
 obtain⟨hlim,css,l3,h4,h5,h6⟩:=hh.ok 2000 _ rfl;have hlim:buf.length*1≤140737488355328:=hlim
 have hcss:css=buf.map λx=>[Value.int .u8 (x.toNat:Int)]:=by
  apply List.ext_getElem?;intro i;rw[List.getElem?_map];cases hx:buf[i]? with
  |none=>
   have:buf.length≤i:=List.getElem?_eq_none_iff.1 hx;rw[List.getElem?_eq_none (by omega)];rfl
  |some x=>
   have hi:i<buf.length:=(List.getElem?_eq_some_iff.1 hx).1;have hci:css[i]? =some (css[i]'(by omega)):=List.getElem?_eq_getElem (by omega)
   have:css[i]'(by omega)=[Value.int .u8 (x.toNat:Int)]:=h6 i x _ hx hci
   rw[hci,this];rfl
 have hflat:css.flatten=buf.map λx=>Value.int .u8 (x.toNat:Int):=by
  rw[hcss];exact Cq _ buf
 have hpos:0<buf.length:=List.length_pos_iff.2 h0;have hcells:=h4;rcases h4.2 with⟨_,hz⟩|⟨g,cap,cur,e2,_,hgg,hnc,hcm,hcs,_⟩
 ·omega
 rw[h1,e2]at hc
 have hcs:cur.size=cap:=by rw[hcs];exact Nat.mul_one _
 refine(za5 b g cap buf cur w h0 hc hgg (by omega) (by omega) (by unfold yJ at hw;omega) λj x hx=> ?_).mono λe w' ⟨he,hw'⟩=> ?_
 ·exact hcells.cells (g:=g) (by rw[e2];rfl) j _ (by rw[hflat,List.getElem?_map,hx];rfl)
 ·subst hw'
  obtain⟨f1,f2,f3,f4⟩:=za4 (w:=w.drew) (g:=g) (n:=buf.length);have hz:(⟨buf.toArray⟩:ByteArray).size≤140737488355328:=by show buf.toArray.size≤_;rw[List.size_toArray];omega
  refine⟨_,λ_=>False,pl,he,Rp.rd (.str _ hz),⟨λk o h=>(by cases h),λk o b h=>(by cases h),λk k' o o' b h=>(by cases h)⟩,λc h=>h.elim,λc h=>h.elim,λc ⟨k,o,h,_⟩=>(by cases h),λ_ _=>rfl,⟨f1,f2,f3,by rw[f4];exact Nat.le_refl _,λc _ hn=>zc6 λe=>hn ⟨2000,_,rfl,by rw[e2,e];rfl⟩⟩⟩
theorem zjn(T:TypeId)(n:Nat)(h:memT A5 T n=true):n=2∧T=99∨n=6∧T=101:=by
 unfold A5 memT at h
 cases h1:Nat.beq 99 T&&Nat.beq 2 n with
 |true=>
  rw[Bool.and_eq_true]at h1
  exact .inl ⟨(Nat.eq_of_beq_eq_true h1.2).symm,(Nat.eq_of_beq_eq_true h1.1).symm⟩
 |false=>
  simp only[h1,cond_false]at h
  unfold memT at h
  cases h2:Nat.beq 101 T&&Nat.beq 6 n with
  |true=>
   rw[Bool.and_eq_true]at h2
   exact .inr ⟨(Nat.eq_of_beq_eq_true h2.2).symm,(Nat.eq_of_beq_eq_true h2.1).symm⟩
  |false=>simp only[h2,cond_false]at h;cases h
theorem zk0(T:TypeId)(n:Nat)(h:memT A5 T n=true):liesAt Tryz.prog Tryz.prog.depth T (n/Tryz.prog.cellsOf T) 0 99 1=true:=by
 rcases zjn T n h with⟨rfl,rfl⟩|⟨rfl,rfl⟩<;>kernel_rfl
theorem mB{n:Int}(h:yJ n):(jP n).size≤21:=by
 have:=Lib.itoa_length_le n h.1 h.2;simpa[jP,ByteArray.size]using this
theorem za6:∃g,Tryz.prog.globalNamed "internal/strconv.uint64pow10" =some g:=Option.isSome_iff_exists.1 (by kernel_rfl)
theorem Pw{n:Int}(h:yJ n):tU oy [dI n] (.str (jP n)):=by
 intro w S vs hS hl hv hg;obtain⟨g,hgn⟩:=za6;have htab:=(hg g hgn).1;obtain⟨e0,hz⟩:=(hv 0 _ rfl).int_inv
 have e:vs= #[.int .i64 n]:=by
  have hl:vs.size=1:=hl;apply Array.ext
  ·simpa using hl
  ·intro i h1 h2
   have:i=0:=by omega
   subst this;simpa[Array.getD_eq_getD_getElem?,h1]using e0
 subst e;refine(Tryz.strconv_Itoa n h.1 h.2 w htab).mono λe w' ⟨he,k,os,hw⟩=> ?_
 subst hw;exact⟨_,he,.str (jP n) (Nat.le_trans (mB h) (by decide)),Lib.below_grow _ w (Nat.le_refl _) k os⟩
theorem zc7{s:ByteArray}(h:dN 1 s.data.toList=true):s.size≤12:=by
 have hz:s.size=s.data.toList.length:=rfl;rw[hz];cases hd:s.data.toList with
 |nil=>simp
 |cons c r=>
  rw[hd]at h
  simp only[dN,Bool.and_eq_true,decide_eq_true_eq]at h
  obtain⟨⟨⟨_,h1⟩,h2⟩,h3⟩:=h;have h1:(zW (c::r)).1=1:=by omega
  rw[h1,h2]at h3
  unfold vY at h3
  rw[if_neg (by decide)]at h3
  by_cases h4:(c::r).length>12
  ·rw[if_pos (.inl ⟨rfl,h4⟩)]at h3;cases h3
  ·omega
theorem zfE{s:ByteArray}(h:zD s=true):s.size≤12:=by
 unfold zD at h
 rw[Bool.and_eq_true]at h
 exact zc7 h.1
structure zjo (m:zG):Prop where
 right:Right m
 names:∀v∈m.vars,v.name.size≤12
 cons:∀c∈m.cons,tP c m.vars.length
theorem za7{vs:List zN}(h:UP vs=0):∀v∈vs,zD v.name=true:=λv hv=>by
 obtain⟨i,hi,rfl⟩:=List.getElem_of_mem hv;have:=RU vs 0 h i hi;unfold GI at this
 split at this
 ·exact absurd this (by decide)
 ·rename_i h;cases hb:zD vs[i].name with
  |true=>rfl
  |false=>exact absurd hb h
theorem za8{m:zG}(h:xL m=0):UP m.vars=0:=by
 unfold xL at h
 split at h
 ·exact absurd h (by decide)
 split at h
 ·exact absurd h (by decide)
 split at h
 ·rename_i h1;exact absurd h h1
 ·rename_i h1;exact Decidable.of_not_not h1
theorem zk1{m:zG}(h:xL m=0):zjo m:=
 ⟨lO h,λv hv=>zfE (za7 (za8 h) v hv),λc hc=>KO (lO h).vars ((lO h).con c hc)⟩
theorem KX{n:Int}(h: -1000≤n∧n≤1000):yJ n:=by unfold yJ;omega
theorem Lj{n:Int}(h: -1000≤n∧n≤1000):(jP n).size≤21:=mB (KX h)
theorem Aq(a b:List UInt8):(⟨(a++b).toArray⟩:ByteArray)=⟨a.toArray⟩++⟨b.toArray⟩:=by
 apply ByteArray.ext;rw[ByteArray.data_append];simp
theorem zeF(x:ByteArray):(⟨x.data.toList.toArray⟩:ByteArray)=x:=by cases x;rfl
theorem Fh{n:Int}(h:0≤n∧n<10):jP n=⟨#[UInt8.ofNat (48+n.toNat)]⟩:=by
 unfold jP Lib.itoa;rw[if_neg (by omega),Lib.decDigits_one (by omega)]
theorem za9{n:Int}(h:n<0):jP n=⟨#[45]⟩++jP (-n):=by
 unfold jP Lib.itoa;rw[if_pos h,if_neg (by omega),show n.natAbs=(-n).toNat by omega]
 exact Aq [45] _
theorem zba{n:Int}(h:10≤n):jP n=jP (n/10)++jP (n%10):=by
 rw[Fh (n:=n%10) (by omega)]
 unfold jP Lib.itoa;rw[if_neg (by omega),if_neg (by omega),Lib.decDigits,dif_neg (by omega),show n.toNat/10=(n/10).toNat by omega,show n.toNat%10=(n%10).toNat by omega]
 exact Aq _ _
theorem KY:∀(k:Nat) (n:Int),n.natAbs≤k→-1000000≤n∧n≤1000000→tU wV [dI n] (XH .str (jP n))
 |k,n,hk,hb=>Xq n λok=>by
  have hsz:∀m:Int,-1000000≤m∧m≤1000000→(jP m).size≤21:=λm hm=>mB (by unfold yJ;omega)
  rw[XS]
  by_cases h0:n<0
  ·refine dt h0 ?_
   by_cases h1: -10<n
   ·refine dt h1 ?_
    rw[wL (by omega) (by omega),Int.zero_sub]
    cases k with
    |zero=>omega
    |succ k=>
     have z:=hsz (-n) (by omega)
     refine zH (t:=.str) (digits_small (-n) (by omega)) ⟨?_,?_⟩
     ·simp only[Du,List.size_toArray,List.length_cons,List.length_nil];omega
     ·rw[←za9 h0];rfl
   ·refine df h1 ⟨by decide,?_⟩
    have e1:n.tdiv 10= -((-n)/10):=by
     rw[show n= -(-n) by omega,Int.neg_tdiv,Int.tdiv_eq_ediv_of_nonneg (by omega)];simp
    have e2:n.tmod 10= -((-n)%10):=by
     rw[show n= -(-n) by omega,Int.neg_tmod,Int.tmod_eq_emod_of_nonneg (by omega)];simp
    rw[e1,e2,wL (n:= -((-n)/10)) (by omega) (by omega),wL (n:=0- -((-n)/10)) (by omega) (by omega),wL (n:=0- -((-n)%10)) (by omega) (by omega),Int.zero_sub,Int.zero_sub,Int.neg_neg,Int.neg_neg]
    cases k with
    |zero=>omega
    |succ k=>
     have z1:=hsz ((-n)/10) (by omega);have z2:=hsz ((-n)%10) (by omega)
     refine zH (t:=.str) (KY k ((-n)/10) (by omega) (by omega)) ⟨?_,by decide,zH (t:=.str) (digits_small ((-n)%10) (by omega)) ⟨?_,?_⟩⟩
     ·simp only[Du,List.size_toArray,List.length_cons,List.length_nil];omega
     ·simp only[ByteArray.size_append,Du,List.size_toArray,List.length_cons,List.length_nil];omega
     ·rw[za9 h0,zba (n:= -n) (by omega),ByteArray.append_assoc];rfl
  ·refine df h0 ?_
   by_cases h1:n<10
   ·refine dt h1 ?_
    rw[Fh (by omega)]
    exact digit_val (by omega)
   ·refine df h1 ⟨by decide,?_⟩
    have e1:n.tdiv 10=n/10:=Int.tdiv_eq_ediv_of_nonneg (by omega)
    have e2:n.tmod 10=n%10:=Int.tmod_eq_emod_of_nonneg (by omega)
    rw[e1,e2,wL (by omega) (by omega)]
    cases k with
    |zero=>omega
    |succ k=>
     have z1:=hsz (n/10) (by omega);have z2:=hsz (n%10) (by omega)
     refine zH (t:=.str) (KY k (n/10) (by omega) (by omega)) ⟨by decide,zH (t:=.str) (digits_small (n%10) (by omega)) ⟨?_,?_⟩⟩
     ·omega
     ·rw[zba (n:=n) (by omega)];rfl
 where
 digit_val {n:Int} (h:0≤n∧n<10):D.str ⟨([UInt8.ofNat ((IntKind.u8.wrap (yU (48+n))).toNat)]).toArray⟩=XH .str ⟨#[UInt8.ofNat (48+n.toNat)]⟩:=by
  rw[wL (by omega) (by omega)]
  have e:(IntKind.u8.wrap (48+n)).toNat=48+n.toNat:=by rw[IntKind.wrap_u8];omega
  rw[e];rfl
 digits_small (n:Int) (h:0≤n∧n<10):tU wV [dI n] (XH .str (jP n)):=Xq n λok=>by
  rw[XS];refine df (by omega) (dt (by omega) ?_)
  rw[Fh h];exact digit_val h
theorem cG{n:Int}(h: -1000000≤n∧n≤1000000):tU wV [dI n] (XH .str (jP n)):=KY _ n (Nat.le_refl _) h
theorem zeG(l:List UInt8):(⟨l.toArray⟩:ByteArray).size=l.length:=by rw[Du,List.size_toArray]

theorem Ar{l:zC}:(fG l).var=l.var:=by
 unfold fG;split
 ·rfl
 split
 ·rfl
 split<;>rfl
theorem Cs{l:zC}(h:1≤l.op∧l.op≤4)(n:Int):holdsL (fG l) n= !holdsL l n:=by
 have h3:l.op=1∨l.op=2∨l.op=3∨l.op=4:=by omega
 rcases h3 with h|h|h|h<;>simp[fG,holdsL,h]<;>first|rfl|(rw[←decide_not];exact decide_eq_decide.2 (by omega))|(exact decide_eq_decide.2 (by omega))|omega
theorem Lk{α:Type}{p:α→Bool}:∀ {r:List α},(r.filter p).length+(r.filter λx=> !p x).length=r.length
 |[]=>rfl
 |a::r=>by
  have:=Lk (p:=p) (r:=r);rw[List.filter_cons,List.filter_cons];cases p a<;>simp<;>omega
def ZR:wA:= {own:=[6],live:=[(0,([2,11,12,13],[]))],n:=24}
def bX(a:zG)(b:List zC)(R:xO)(c:Nat)(d:Int):Prop:=LP ZR Tryz.f126 [1,1,0,1,0,0] 0 c ⟨[(2,.iptr (TL a []) 0),(11,.sl .lit b),(12,dI (b.length:Int)),(13,dI d)],[]⟩ (zQ 0 (sK ZR Tryz.f126 [1,1,1] 0 (eK Tryz.f126 R)))
theorem Vb(c:zG)(a:List zC)(R:xO)(d:Nat)(b:Int):bX c a R (d+1) b=
 (zP (decide (b<(a.length:Int)))
 (vW b a.length=true∧
 xK VU [dM c,dL (yO .lit a b.toNat)] .int λe=>
 zP (!decide (e=0))
 (R (dI e))
 (bX c a R d (yU (b+1))))
 (R (dI 0))):=by kernel_rfl
theorem IX(b:zG)(a:List zC)(R:xO):FD ZR Tryz.f126 [dM b,.sl .lit a] R=
 (zP (decide (40<(a.length:Int)))
 (R (dI 2))
 (∃n0,bX b a R n0 0)):=by kernel_rfl
theorem KZ(a:zG)(b:List zC):wC ZR Tryz.f126 fO [dM a,.sl .lit b]:=wJ Tryz.func126 (by kernel_rfl) Tryz.ntmps126 rfl
def Te:wA:= {own:=[],live:=[],n:=8}
theorem Ll(a:List (List Int))(b:List zC)(R:xO):FD Te Tryz.f189 [dS a,.sl .lit b] R=
 (xK tY [dS a,.clo iE none [.iptr [.sl .lit b] 0]] (.list (.list .int)) λc=>
 R (dS c)):=by kernel_rfl
theorem NO(a:List (List Int))(b:List zC):wC Te Tryz.f189 kX [dS a,.sl .lit b]:=wJ Tryz.func189 (by kernel_rfl) Tryz.ntmps189 rfl
def Wi:wA:= {own:=[5,7,8],live:=[(0,([0,3,5,13,14,15],[5]))],n:=44}
def gT(b:List (List Int))(a:List zC)(R:xO)(c:Nat)(d e:Int):Prop:=LP Wi Tryz.f200 [1,1,1,0,1,0,0] 0 c ⟨[(0,dS b),(3,.iptr [.sl .lit a] 0),(5,.ptr 5 0),(13,.sl .lit a),(14,dI (a.length:Int)),(15,dI d)],[(5,.cells [dI e])]⟩ (zQ 0 (sK Wi Tryz.f200 [1,1,1,1] 0 (eK Tryz.f200 R)))
theorem K0(c:List (List Int))(a:List zC)(R:xO)(e:Nat)(b d:Int):gT c a R (e+1) b d=
 (zP (decide (b<(a.length:Int)))
 (vW b a.length=true∧
 xK T5 [dS c,dL (yO .lit a b.toNat)] .int λf=>
 zP (decide (f<0))
 (gT c a R e (yU (b+1)) d)
 (zP (decide (0≤d))
 (zP (!decide (d=((yO .lit a b.toNat).var)))
 (xK jO [dS c] (.list (.list .int)) λg=>
 R (dS g))
 (gT c a R e (yU (b+1)) ((yO .lit a b.toNat).var)))
 (gT c a R e (yU (b+1)) ((yO .lit a b.toNat).var))))
 (zP (decide (d<0))
 (xK uD [dS c] (.list (.list .int)) λh=>
 R (dS h))
 (xK tY [dS c,.clo ZC none [.iptr [dI d] 0,.iptr [.clo kY none [.iptr [.sl .lit a] 0,.iptr [dI d] 0]] 0]] (.list (.list .int)) λi=>
 R (dS i)))):=by kernel_rfl
theorem Dv(a:List (List Int))(b:List zC)(R:xO):FD Wi Tryz.f200 [dS a,.sl .lit b] R=
 (xK yX [dS a] .bool λc=>
 zP c
 (xK jO [dS a] (.list (.list .int)) λd=>
 R (dS d))
 (∃n0,gT a b R n0 0 (-1))):=by kernel_rfl
theorem Fi(a:List (List Int))(b:List zC):wC Wi Tryz.f200 iC [dS a,.sl .lit b]:=wJ Tryz.func200 (by kernel_rfl) Tryz.ntmps200 rfl
def Vc:wA:= {own:=[],live:=[],n:=10}
theorem Oh(a b:Int)(c:List zC)(R:xO):FD Vc Tryz.f239 [dI a,dI b,.iptr [.sl .lit c] 0] R=
 (xK wS [.sl .lit c,.clo lI none [.iptr [dI a] 0,.iptr [dI b] 0]] .bool λd=>
 R (dB (!d))):=by kernel_rfl
theorem QE(a b:Int)(c:List zC):wC Vc Tryz.f239 iE [dI a,dI b,.iptr [.sl .lit c] 0]:=wJ Tryz.func239 (by kernel_rfl) Tryz.ntmps239 rfl
def Xt:wA:= {own:=[],live:=[],n:=14}
theorem Rw(a:zC)(b c:Int)(R:xO):FD Xt Tryz.f241 [dL a,.iptr [dI b] 0,.iptr [dI c] 0] R=
 (zP (decide (a.var=b))
 (xK jM [dL a,dI c] .bool λd=>
 R (dB d))
 (R (dB false))):=by kernel_rfl
theorem Sm(a:zC)(b c:Int):wC Xt Tryz.f241 lI [dL a,.iptr [dI b] 0,.iptr [dI c] 0]:=wJ Tryz.func241 (by kernel_rfl) Tryz.ntmps241 rfl
def QF:wA:= {own:=[],live:=[],n:=8}
theorem IY(a:Int)(b:List zC)(c:Int)(R:xO):FD QF Tryz.f253 [dI a,.iptr [.sl .lit b] 0,.iptr [dI c] 0] R=
 (xK wS [.sl .lit b,.clo eP none [.iptr [dI c] 0,.iptr [dI a] 0]] .bool λd=>
 R (dB d)):=by kernel_rfl
theorem K1(a:Int)(b:List zC)(c:Int):wC QF Tryz.f253 kY [dI a,.iptr [.sl .lit b] 0,.iptr [dI c] 0]:=wJ Tryz.func253 (by kernel_rfl) Tryz.ntmps253 rfl
def Tf:wA:= {own:=[],live:=[],n:=14}
theorem Lm(a:zC)(b c:Int)(R:xO):FD Tf Tryz.f254 [dL a,.iptr [dI b] 0,.iptr [dI c] 0] R=
 (zP (decide (a.var=b))
 (xK jM [dL a,dI c] .bool λd=>
 R (dB d))
 (R (dB false))):=by kernel_rfl
theorem NP(a:zC)(b c:Int):wC Tf Tryz.f254 eP [dL a,.iptr [dI b] 0,.iptr [dI c] 0]:=wJ Tryz.func254 (by kernel_rfl) Tryz.ntmps254 rfl
def QG:wA:= {own:=[],live:=[],n:=15}
theorem IZ(b c d:Int)(a:FuncId)(e:List D)(R:xO):FD QG Tryz.f255 [dI b,dI c,.iptr [dI d] 0,.iptr [.clo a (some [.bool]) e] 0] R=
 (zP (!decide (b=d))
 (R (dB true))
 (ZF a∧
 xK a ([dI c]++e) .bool λf=>
 R (dB f))):=by kernel_rfl
theorem K2(a b c:Int)(d:FuncId)(e:List D):wC QG Tryz.f255 ZC [dI a,dI b,.iptr [dI c] 0,.iptr [.clo d (some [.bool]) e] 0]:=wJ Tryz.func255 (by kernel_rfl) Tryz.ntmps255 rfl
theorem NQ(l:List Int):yH tS [.sl .int l] [] (.own 3000) [(3000,.row 3 .int l)]:=
 WU l λok _=>by
  rw[Vz];intro b hb;refine zA (λe=> ?_) λe=>⟨?_,?_⟩
  ·rw[hb e];exact⟨rfl,rfl⟩
  ·refine xY (t:=.int) ?_
   have:=(YN (t:=.int) (L5 ok)).1;show(0+l.length)*8≤_
   have h8:l.length*8≤140737488355328:=this;omega
  ·exact⟨rfl,rfl⟩
theorem ZS(s:List (List Int)):tU jO [dS s] (dS s):=
 Dl s λok=>by
  have hs:Si s:=YN (L5 ok);have hsl:=Pv hs;rw[Ae];refine up (I:=λn v a=>Wg s _ n v a) 0 s.length rfl (Nat.zero_le _) (by omega) (λk a=>a=s.take k) rfl λn k a _ hk ha hn=> ?_
  subst ha;rw[IQ]
  by_cases h:k<s.length
  ·rw[yC h,zY (t:=.list .int) h]
   refine⟨zM h,_,NQ _,xY (t:=.list .int) ?_,hn h _ (List.take_append_getElem h)⟩;rw[List.length_take];show(_+1)*24≤_
   omega
  ·have hk':k=s.length:=by omega
   subst hk';rw[zX,List.take_length]
def gI(s:List (List Int)):List (List Int):=List.replicate s.length []
theorem dD(s:List (List Int)):tU uD [dS s] (dS (gI s)):=
 MZ s λok=>by
  have hs:Si s:=YN (L5 ok);have hsl:=Pv hs;rw[KK];refine⟨rfl,by omega,xY (t:=.list .int) ?_,rfl⟩
  rw[Int.toNat_natCast];show _*24≤_
  omega
def yP(nv:Nat)(c:List zC):Int:=if 40<c.length then 2 else wK (λ_ l=>eN nv l) 0 c
theorem SS(m:zG)(c:List zC):tU fO [dM m,.sl .lit c] (dI (yP m.vars.length c)):=
 KZ m c λok=>by
  rw[IX];refine zA (λe=> ?_) λe=> ?_
  ·exact tE (if_pos (by simp at e;omega))
  have e:¬40<c.length:=by simp at e;omega
  rw[show yP m.vars.length c=wK (λ_ l=>eN m.vars.length l) 0 c from if_neg e]
  refine zcV (I:=λn v=>bX m c _ n v) c (λ_ l=>eN m.vars.length l) (by omega) (X:=λx=>D.int .i64 x=dI (wK (λ_ l=>eN m.vars.length l) 0 c)) (Y:=D.int .i64 0=dI (wK (λ_ l=>eN m.vars.length l) 0 c)) (λ_=>rfl) (λe=>tE e) (λn k h _ hX hn=> ?_) λn hY=> ?_
  ·rw[Vb,yC h,zY (t:=.lit) h]
   exact⟨zM h,zH (Aj m _) (zA (λe=>hX (lA e)) λe=>hn (oF e))⟩
  ·rw[Vb,zX];exact hY
theorem ZT{nv:Nat}{c:List zC}(h:yP nv c=0):c.length≤40∧∀l∈c,eN nv l=0:=by
 unfold yP at h
 split at h
 ·exact absurd h (by decide)
 rename_i h1;refine⟨by omega,λl hl=> ?_⟩
 obtain⟨i,hi,rfl⟩:=List.getElem_of_mem hl;exact aK h hi
def qZ(c:List zC)(vs:List Int):Bool:=c.any λl=>holdsL l (vs.getD l.var.toNat 0)
def atC(c:List zC)(v n:Int):Bool:=c.any λl=>if l.var=v then holdsL l n else false
theorem Ln(l:zC)(v n:Int):tU eP [dL l,.iptr [dI v] 0,.iptr [dI n] 0] (dB (if l.var=v then holdsL l n else false)):=
 NP l v n λok=>by
  rw[Lm];refine zA (λe=> ?_) λe=> ?_
  ·rw[if_pos (of_decide_eq_true e)];exact zH (ZO l n) rfl
  ·rw[if_neg (of_decide_eq_false e)]
theorem I0(n:Int)(c:List zC)(v:Int):tU kY [dI n,.iptr [.sl .lit c] 0,.iptr [dI v] 0] (dB (atC c v n)):=
 K1 n c v λok=>by
  rw[IY];exact zH (qY Ny λl _=>Ln l v n) rfl
theorem I1(w n v:Int)(c:List zC):tU ZC [dI w,dI n,.iptr [dI v] 0,.iptr [.clo kY none [.iptr [.sl .lit c] 0,.iptr [dI v] 0]] 0] (dB (!decide (w=v)||atC c v n)):=
 XJ.iclo (pre:=[_,_,_]) (K2 w n v kY [.iptr [.sl .lit c] 0,.iptr [dI v] 0] λok=>by
  rw[IZ];refine zA (λe=> ?_) λe=>⟨KE,zH (I0 n c v) ?_⟩
  ·rw[e];rfl
  ·rw[e];rfl)
theorem Rx(l:zC)(v n:Int):tU lI [dL l,.iptr [dI v] 0,.iptr [dI n] 0] (dB (if l.var=v then holdsL l n else false)):=
 Sm l v n λok=>by
  rw[Rw];refine zA (λe=> ?_) λe=> ?_
  ·rw[if_pos (of_decide_eq_true e)];exact zH (ZO l n) rfl
  ·rw[if_neg (of_decide_eq_false e)]
theorem Oi(v n:Int)(c:List zC):tU iE [dI v,dI n,.iptr [.sl .lit c] 0] (dB (!atC c v n)):=
 QE v n c λok=>by
  rw[Oh];exact zH (qY Se λl _=>Rx l v n) rfl
def dY(s:List (List Int))(c:List zC):List (List Int):=pL (λv n=> !atC c v n) s
theorem V7(s:List (List Int))(c:List zC):tU kX [dS s,.sl .lit c] (dS (dY s c)):=
 NO s c λok=>by
  rw[Ll];exact zH (bF (f:=λv n=> !atC c v n) Qj λv hv n hn=>Oi v n c) rfl
def zhK(s:List (List Int))(c:List zC)(one:Int):List (List Int):=pL (λv n=> !decide ((v:Int)=one)||atC c one n) s
def K3(s:List (List Int))(c:List zC):List zC→Int→List (List Int)
 |[],one=>if one<0 then gI s else zhK s c one
 |l::ls,one=>if V4 s l<0 then K3 s c ls one else if 0≤one∧one≠l.var then s else K3 s c ls l.var
def Yk(s:List (List Int))(c:List zC):List (List Int):=if zT s=true then s else K3 s c c (-1)
theorem Dw{s:List (List Int)}{c:List zC}(hc:∀l∈c,0≤l.var∧l.var<s.length):tU iC [dS s,.sl .lit c] (dS (Yk s c)):=
 Fi s c λok=>by
  have hl:c.length≤9223372036854775807:=cM (t:=.lit) (L5 (okR ok));rw[Dv];refine zH (vD s) (zA (λe=> ?_) λe=> ?_)
  ·rw[Yk,if_pos e]
   exact zH (ZS s) rfl
  rw[Yk,if_neg (by rw[e];decide)]
  refine up (I:=λn v a=>gT s c _ n v a) 0 c.length rfl (Nat.zero_le _) (by omega) (λk a=>K3 s c (c.drop k) a=K3 s c c (-1)) (by rw[List.drop_zero]) λn k a _ hk ha hn=> ?_
  rw[K0]
  by_cases h:k<c.length
  ·rw[yC h,zY (t:=.lit) h]
   rw[List.drop_eq_getElem_cons h,K3]at ha
   refine⟨zM h,zH (zaW (hc _ (List.getElem_mem h))) (zA (λe=> ?_) λe=> ?_)⟩
   ·rw[if_pos (of_decide_eq_true e)]at ha
    exact hn h _ ha
   rw[if_neg (of_decide_eq_false e)]at ha
   refine zA (λf=>zA (λg=> ?_) λg=> ?_) λf=> ?_
   ·rw[if_pos ⟨of_decide_eq_true f,by simpa using g⟩]at ha
    rw[←ha];exact zH (ZS s) rfl
   ·rw[if_neg (λx=>x.2 (by simpa using g))]at ha
    exact hn h _ ha
   ·rw[if_neg (λx=>of_decide_eq_false f x.1)]at ha
    exact hn h _ ha
  ·have hk':k=c.length:=by omega
   subst hk';rw[List.drop_length,K3]at ha
   rw[zX,←ha];refine zA (λe=> ?_) λe=> ?_
   ·rw[if_pos (of_decide_eq_true e)]
    exact zH (dD s) rfl
   ·rw[if_neg (of_decide_eq_false e)]
    exact zH (bF (f:=λv n=> !decide ((v:Int)=a)||atC c a n) KF λv hv n hn=>I1 v n a c) rfl

theorem Fj{c:zE}{vs:List Int}{nv:Nat}(hc:tP c nv)(hv:Qo vs nv)(hk:c.kind≤3){I:Nat→Int→Int→Prop}{b:Bool}(hb:vH c vs=b)
  (hI:∀n a (k:Nat),I (n+1) a k=zP (decide ((k:Int)<(c.consts.length:Int)))
   (vW (k:Int) c.consts.length=true∧xK yL [dI k,.iptr [.sl .int vs] 0,.iptr [.int .i64 c.kind,.sl .int c.vars,.sl .int c.consts,.int .i64 c.n,.sl (.list .int) c.rows,.sl .lit c.lits] 0] .int λm3=>
    I n (yU (a+(yU ((yO .int c.consts (k:Int).toNat)*m3)))) (yU ((k:Int)+1)))
   (xK jN [dC c,dI a] .bool λm4=>D.bool m4=dB b)):∃n,I n 0 0:=by
 subst hb;have hm:=hc.many;have hfc:=(hc.formC).sums hk;have hxl:(sD c vs).length=c.vars.length:=iH;have hz:(c.consts.zip (sD c vs)).length=c.consts.length:=by rw[List.length_zip];omega
 have hnear:∀x∈c.consts.zip (sD c vs),(-1000≤x.1∧x.1≤1000)∧-50≤x.2∧x.2≤50:=λx hx=>⟨hc.consts _ (List.of_mem_zip hx).1,ND hv _ (List.of_mem_zip hx).2⟩
 refine up (I:=λn v a=>I n a v) 0 c.consts.length rfl (Nat.zero_le _) (by omega) (λk a=>a=PZ ((c.consts.zip (sD c vs)).take k)) (by rw[List.take_zero];rfl) λn k a _ hk2 ha hn=> ?_
 subst ha;rw[hI]
 by_cases h:k<c.consts.length
 ·have hkv:k<c.vars.length:=by omega
  have hkz:k<(c.consts.zip (sD c vs)).length:=by omega
  have h1:=hc.consts _ (List.getElem_mem h);have h2:=ND (c:=c) hv _ (List.getElem_mem (show k<(sD c vs).length by omega))
  have h3:=Fd h1 h2;have h4:=zhG λx hx=>hnear x (List.mem_of_mem_take (i:=k) hx)
  rw[List.length_take]at h4
  rw[yC h,zY (t:=.int) h];refine⟨zM h,zH (uU hc hv hkv) (hn h _ ?_)⟩;rw[zfA hkz,List.getElem_zip,wL (n:=_*_) (by omega) (by omega),wL (by omega) (by omega)]
 ·have hk':k=c.consts.length:=by omega
  subst hk';rw[zX];refine zH (M1 c _) ?_;rw[List.take_of_length_le (by omega)]
  have hkk:=hc.kind;have:c.kind=1∨c.kind=2∨c.kind=3:=by omega
  rcases this with e|e|e<;>simp[vH,e]
theorem zfF{c:zE}{vs:List Int}{nv:Nat}(hc:tP c nv)(hv:Qo vs nv):tU xR [.sl .lit c.lits,.clo qQ none [.iptr [.sl .int vs] 0]] (dB (c.lits.any λl=>holdsL l (vs.getD l.var.toNat 0))):=
 pJ (p:=λl=>holdsL l (vs.getD l.var.toNat 0)) KA λl hl=>SN (hc.lits l hl) hv
theorem Y5{c:zE}{vs:List Int}{nv:Nat}(hc:tP c nv)(hv:Qo vs nv):tU eO [dC c,.sl .int vs] (dB (vH c vs)):=
 GU c vs λok=>by
  obtain⟨hk1,hk2⟩:=hc.kind;have hm:=hc.many;have hf:=hc.formC;have hxl:(sD c vs).length=c.vars.length:=iH;have hnear:=ND (c:=c) hv;have hx:∀ {k:Nat} (h:k<c.vars.length),(sD c vs).getD k 0=(sD c vs)[k]:=λh=>yE _ (by omega)
  rw[Db];refine zA (λe=> ?_) λe1=>zA (λe=> ?_) λe2=>zA (λe=> ?_) λe3=>zA (λe=> ?_) λe4=>zA (λe=> ?_) λe5=>zA (λe=> ?_) λe6=>zA (λe=> ?_) λe7=>zA (λe=> ?_) λe8=>zA (λe=> ?_) λe9=> ?_
  ·have e:=of_decide_eq_true e
   exact Fj hc hv (by omega) (I:=λn a v=>YY c vs _ n a v) rfl λn a k=>by rw[Kp]
  ·have e:=of_decide_eq_true e
   exact Fj hc hv (by omega) (I:=λn a v=>bT c vs _ n a v) rfl λn a k=>by rw[Nw]
  ·have e:=of_decide_eq_true e
   exact Fj hc hv (by omega) (I:=λn a v=>bU c vs _ n a v) rfl λn a k=>by rw[Nx]
  ·have e:=of_decide_eq_true e
   have ht:vH c vs=decide (sD c vs).Nodup:=by simp[vH,e]
   refine up (I:=λn v a=>YZ c vs _ n v a) 0 c.vars.length rfl (Nat.zero_le _) (by omega) (λk a=>a.map (λe=>e.1)=aL [] ((sD c vs).take k)) (by rw[List.take_zero];rfl) λn k a _ hkl ha hn=> ?_
   have hal:a.length=(aL [] ((sD c vs).take k)).length:=by rw[←ha,List.length_map]
   have hle:=NF ((sD c vs).take k) [];rw[List.length_take,List.length_nil]at hle
   rw[Kq]
   by_cases h:k<c.vars.length
   ·rw[yC h]
    refine zH (uU hc hv h) ⟨decide_eq_true (by omega),hn h _ ?_⟩
    rw[Cn,ha,zaX (show k<(sD c vs).length by omega)]
   ·have hk':k=c.vars.length:=by omega
    subst hk';rw[zX,ht]
    congr 1
    rw[List.take_of_length_le (by omega)]at hal
    have hn:=M2 (sD c vs) [];rw[List.length_nil,Nat.zero_add]at hn
    refine decide_eq_decide.2 ⟨λh=>(hn.1 (by omega)).1,λh=> ?_⟩
    have:=hn.2 ⟨h,λx _ hx=>by cases hx⟩
    omega
  ·have e:=of_decide_eq_true e
   obtain⟨h2,h1⟩:=hf.element e;have t0:=uU hc hv (k:=0) (by omega)
   have t1:=uU hc hv (k:=1) (by omega)
   have ht:vH c vs=(decide ((0:Int)≤(sD c vs)[0])&&decide ((sD c vs)[0]<c.consts.length)&&decide (c.consts.getD (sD c vs)[0].toNat 0=(sD c vs)[1])):=by
    rw[←hx (k:=0) (by omega),←hx (k:=1) (by omega)];simp[vH,e]
   refine zH t0 ?_;rw[wL (by omega) (by omega)]
   refine zH (pK _ _ _) (zA (λf=> ?_) λf=> ?_)
   ·obtain⟨f1,f2⟩:=GH.1 f
    have hin:(sD c vs)[0].toNat<c.consts.length:=by omega
    refine zH t0 ⟨rS.2 ⟨f1,by omega⟩,zH t1 ?_⟩
    rw[ht,decide_eq_true f1,decide_eq_true (p:=_<_) (by omega),yE _ hin,atN (t:=.int) hin];rfl
   ·rw[ht]
    rcases qD.1 f with f|f
    ·rw[decide_eq_false (p:=0≤_) (by omega)];rfl
    ·rw[decide_eq_false (p:=_<(c.consts.length:Int)) (by omega),Bool.and_false];rfl
  ·have e:=of_decide_eq_true e
   have ht:vH c vs=c.rows.any λr=>decide (r=sD c vs):=by simp[vH,e]
   refine up (I:=λn v a=>Y0 c vs _ n v a) 0 c.vars.length rfl (Nat.zero_le _) (by omega) (λk a=>a=(sD c vs).take k) (by rw[List.take_zero]) λn k a _ hkl ha hn=> ?_
   subst ha;rw[Kr]
   by_cases h:k<c.vars.length
   ·rw[yC h]
    refine zH (uU hc hv h) ⟨xY (t:=.int) ?_,hn h _ (List.take_append_getElem _)⟩;rw[List.length_take];show(_+1)*8≤_
    omega
   ·have hk':k=c.vars.length:=by omega
    subst hk';rw[zX,List.take_of_length_le (by omega),ht]
    exact zH (rI KB λr _=>IV r _) rfl
  ·have e:=of_decide_eq_true e
   have h3:=hf.times e;refine zH (uU hc hv (k:=0) (by omega)) (zH (uU hc hv (k:=1) (by omega)) (zH (uU hc hv (k:=2) (by omega)) ?_))
   have n0:=hnear _ (List.getElem_mem (show 0<(sD c vs).length by omega))
   have n1:=hnear _ (List.getElem_mem (show 1<(sD c vs).length by omega))
   have:=Fd (a:=(sD c vs)[0]) (b:=(sD c vs)[1]) (by omega) n1
   rw[wL (by omega) (by omega),show vH c vs=decide ((sD c vs).getD 0 0*(sD c vs).getD 1 0=(sD c vs).getD 2 0) by simp[vH,e],hx (k:=0) (by omega),hx (k:=1) (by omega),hx (k:=2) (by omega)]
  ·have e:=of_decide_eq_true e
   have h2:=hf.max e;have hd:((c.vars.take (c.vars.length:Int).toNat).drop 1).length=c.vars.length-1:=by rw[Int.toNat_natCast,List.take_length,List.length_drop]
   refine zH (uU hc hv (k:=1) (by omega)) ⟨by unfold Mn;simp;omega,?_⟩
   refine up (I:=λn v a=>Y1 c vs _ n a v) 0 (c.vars.length-1) rfl (Nat.zero_le _) (by omega) (λk a=>a=zhF (sD c vs)[1] (((sD c vs).drop 1).take k)) (by rw[List.take_zero];rfl) λn k a _ hkl ha hn=> ?_
   subst ha;rw[Kt,hd]
   by_cases h:k<c.vars.length-1
   ·rw[yC h,wL (n:=1+_) (by omega) (by omega),show(1:Int)+(k:Int)=((k+1:Nat):Int) by omega]
    have hk3:k<((sD c vs).drop 1).length:=by rw[List.length_drop];omega
    refine zH (uU hc hv (k:=k+1) (by omega)) (hn h _ ?_)
    rw[←List.take_append_getElem hk3,zhF,zhF,List.foldl_append,List.foldl_cons,List.foldl_nil,List.getElem_drop];simp only[show 1+k=k+1 by omega]
   ·have hk':k=c.vars.length-1:=by omega
    subst hk';rw[zX];refine zH (uU hc hv (k:=0) (by omega)) ?_
    rw[List.take_of_length_le (by rw[List.length_drop];omega),show vH c vs=decide ((sD c vs).getD 0 0=zhF ((sD c vs).getD 1 0) ((sD c vs).drop 1)) by simp[vH,e],hx (k:=0) (by omega),hx (k:=1) (by omega)]
  ·have e:=of_decide_eq_true e
   rw[show vH c vs=c.lits.any λl=>holdsL l (vs.getD l.var.toNat 0) by simp[vH,e]]
   exact zH (zfF hc hv) rfl
  ·have e:c.kind=10:=by simp at e1 e2 e3 e4 e5 e6 e7 e8 e9;omega
   obtain⟨h1,h2⟩:=hf.iff e;have hl0:0<c.lits.length:=by omega
   have t0:=uU hc hv (k:=0) (by omega)
   have l0:=SN (hc.lits _ (List.getElem_mem hl0)) hv
   have ha:(c.lits.take 1).any (λl=>holdsL l (vs.getD l.var.toNat 0))=holdsL c.lits[0] (vs.getD c.lits[0].var.toNat 0):=by
    rw[show c.lits.take 1=[c.lits[0]] by rw[List.take_one,List.head?_eq_getElem?,List.getElem?_eq_getElem hl0];rfl];simp
   have ht:vH c vs=(holdsL c.lits[0] (vs.getD c.lits[0].var.toNat 0)&&decide ((sD c vs)[0]=1)|| !holdsL c.lits[0] (vs.getD c.lits[0].var.toNat 0)&&decide ((sD c vs)[0]=0)):=by
    rw[←hx (k:=0) (by omega),←ha];simp[vH,e]
   have a0:yO .lit c.lits 0=c.lits[0]:=atN (t:=.lit) hl0;have i0:vW 0 c.lits.length=true:=zM hl0;rw[a0,ht];refine⟨i0,zH l0 (zA (λf=>zH t0 (zA (λg=> ?_) λg=>⟨i0,zH l0 (zA (λf2=> ?_) λf2=> ?_)⟩)) λf=>⟨i0,zH l0 (zA (λf2=>zH t0 ?_) λf2=> ?_)⟩)⟩
   ·rw[f,g];rfl
   ·rw[f]at f2;exact absurd f2 (by decide)
   ·rw[f,g];rfl
   ·rw[f];rfl
   ·rw[f]at f2;exact absurd f2 (by decide)
theorem Fk(l:List Int):(l.map λx=>[Value.int .i64 x]).flatten=l.map (Value.int .i64):=by
 induction l with
 |nil=>rfl
 |cons a l ih=>rw[List.map_cons,List.flatten_cons,ih];rfl
theorem zeH{w:World}{S:Nat→Prop}{l:List Int}{css:List (List Value)}(hl:css.length=l.length)(h:∀(i:Nat) (x:Int) (cs:List Value),l[i]? =some x→css[i]? =some cs→vS.rd w S cs x):
  css.flatten=l.map (Value.int .i64)∧∀x∈l,yJ x:=by
 have e:css=l.map λx=>[Value.int .i64 x]:=by
  apply List.ext_getElem (by rw[hl,List.length_map])
  intro i h1 h2;have hi:i<l.length:=by omega
  have:=h i l[i] css[i] (List.getElem?_eq_getElem hi) (List.getElem?_eq_getElem h1);rw[List.getElem_map];exact this.1
 refine⟨by rw[e,Fk],λx hx=> ?_⟩
 obtain⟨i,hi,rfl⟩:=List.getElem_of_mem hx;exact(h i l[i] css[i] (List.getElem?_eq_getElem hi) (List.getElem?_eq_getElem (by omega))).2
theorem zkq{w:World}{S:Nat→Prop}{pl:Nat→Value}{l:List Int}{g cap:Nat}{cur:Array Value}{e:TypeId}(hb:l.length*8≤140737488355328)(hh:w.heap[g]? =some (.cells cur e (0,0)))(h1:l.length≤cap)(h2:cap≤maxLen)(h3:cur.size=cap)(h4:cur.toList.take l.length=l.map (Value.int .i64))(hi:∀x∈l,yJ x):
  Xf w S pl (.slice (some ⟨g,0,none⟩) l.length cap) (.row e .int l):=by
 refine⟨hb,l.map λx=>[Value.int .i64 x],by rw[List.length_map],⟨?_,.inr ⟨g,cap,cur,rfl,Nat.zero_le _,hh,h1,h2,?_,?_⟩⟩,?_,?_⟩
 ·rw[Fk,List.length_map];exact(Nat.mul_one _).symm
 ·rw[h3];exact(Nat.mul_one _).symm
 ·rw[Fk,←h4];congr 1;exact Nat.mul_one _
 ·intro cs hcs
  obtain⟨x,_,rfl⟩:=List.mem_map.1 hcs;rfl
 ·intro i x cs hx hcs
  rw[List.getElem?_map,hx]at hcs
  cases hcs;exact⟨rfl,hi _ (List.mem_of_getElem? hx)⟩
theorem zbb{d:Array Int}{cur:Array Value}(h:d.size≤cur.size):(Sort.putCells (Value.int .i64) 0 d cur).toList.take d.size=d.toList.map (Value.int .i64):=by
 apply List.ext_getElem
 ·simp[Sort.putCells];omega
 ·intro i h1 h2
  have hi:i<d.size:=by simpa using h2
  simp[Sort.putCells,hi]
theorem Ct{w:World}{l:List Int}{g cap:Nat}{cur:Array Value}{e:TypeId}(hh:w.heap[g]? =some (.cells cur e (0,0)))(h4:cur.toList.take l.length=l.map (Value.int .i64)):Sort.Holds (Value.int .i64) w g 0 l.toArray:=by
 intro j hj;have hj:j<l.length:=by simpa using hj
 rw[Nat.zero_add];refine⟨?_,frozen_of_row w g j cur e hh⟩;rw[cell_of_row w g j cur e (0,0) hh];have e2:(cur.toList.take l.length)[j]? =some (.int .i64 l[j]):=by rw[h4,List.getElem?_map,List.getElem?_eq_getElem hj];rfl
 rw[List.getElem?_take,if_pos hj]at e2
 rw[←Array.getElem?_toList,e2];simp[hj]
theorem zbc{w:World}{g:Nat}{cur:Array Value}{e:TypeId}(d:Array Int)(n:Nat)(hh:w.heap[g]? =some (.cells cur e (0,0))):(Sort.putRow (Value.int .i64) (Sort.ahead w n) g 0 d).heap[g]? =some (.cells (Sort.putCells (Value.int .i64) 0 d cur) e (0,0)):=by
 simp[Sort.putRow,Sort.mapBlock,Array.getElem?_modify,hh,Sort.onCells]
theorem Cu{w:World}{g k:Nat}(d:Array Int)(n:Nat)(hk:k≠g):(Sort.putRow (Value.int .i64) (Sort.ahead w n) g 0 d).heap[k]? =w.heap[k]? :=by
 simp[Sort.putRow,Sort.mapBlock,Array.getElem?_modify,Ne.symm hk]
theorem zbd{k n:Nat}{o o':yD}(h:zZ k [(n,o)]=some o'):k=n∧o'=o:=by
 rw[xX]at h
 split at h
 ·rename_i e;exact⟨e.symm,(Option.some.inj h).symm⟩
 ·cases h
theorem zeI{w:World}{S:Nat→Prop}{pl:Nat→Value}:Bs w S pl []:=
 ⟨λk o h=>(Option.some_ne_none _ h.symm).elim,λk o b h=>(Option.some_ne_none _ h.symm).elim,λk k' o o' b h=>(Option.some_ne_none _ h.symm).elim⟩
theorem zbe{vs:Array Value}{v:Value}(h:vs.size=1)(e:vs.getD 0 Go.undef=v):vs= #[v]:=by
 apply Array.ext
 ·simpa using h
 ·intro i h1 h2
  have:i=0:=by omega
  subst this;simpa[Array.getD_eq_getD_getElem?,h1]using e
theorem Fl(l:List Int):(Lib.compact l).length≤l.length:=by
 unfold Lib.compact Lib.compactUpTo;rw[List.length_map];have:=List.length_filter_le (Lib.keeps l.toArray) (List.range l.length)
 rwa[List.length_range]at this
theorem JY{l:List Int}{x:Int}(h:x∈Lib.compact l):x∈l:=by
 unfold Lib.compact Lib.compactUpTo at h
 obtain⟨i,hi,rfl⟩:=List.mem_map.1 h;have hi:=List.mem_range.1 (List.mem_filter.1 hi).1;rw[getElem!_pos l.toArray i (by simpa using hi)]
 simp
abbrev ZU(l:List Int):List Int:=l.mergeSort λx y=>decide (x≤y)
theorem K4(l:List Int):yH qE [.own 1000] [(1000,.row 3 .int l)] (.tup []) [(1000,.row 3 .int (ZU l))]:=by
 intro w S vs pl hS hl hv hH _;have e0:vs= #[pl 1000]:=zbe hl (hv 0 _ rfl);subst e0;obtain⟨hb,css,hcl,hown,hcs,hrd⟩:=hH.ok 1000 _ rfl;obtain⟨hf,hin⟩:=zeH hcl hrd;have hb8:l.length*8≤140737488355328:=hb;have hsl:(ZU l).length=l.length:=List.length_mergeSort l;have hsin:∀x∈ZU l,yJ x:=λx hx=>hin x ((List.mergeSort_perm l _).mem_iff.1 hx)
 rcases hown.2 with⟨hp,hn⟩|⟨g,cap,cur,hp,_,hh,hc1,hc2,hc3,hc4⟩
 ·obtain rfl:l=[]:=List.length_eq_zero_iff.1 hn
  rw[hp];refine(Tryz.slices_Sort_int_none none 0 w).mono λe w' ⟨he,hw⟩=> ?_
  subst hw;rw[show ZU []=[]from List.length_eq_zero_iff.1 hsl]
  refine⟨_,S,pl,he,?_,hH,hS,λb h=> .inl h,λb h=> .inl h,λ_ _=>rfl,.of (Below.refl _ _)⟩
  exact Rp.tup #[] [] rfl λi d h=>by simp at h
 ·have hc3':cur.size=cap:=hc3.trans (Nat.mul_one _)
  have hc4':cur.toList.take l.length=l.map (Value.int .i64):=by rw[←hf,←hc4];congr 1;exact(Nat.mul_one _).symm
  have hg:g<w.heap.size:=(Array.getElem?_eq_some_iff.1 hh).1;rw[hp];refine(Tryz.slices_Sort_int g 0 cap l w (Ct (cap:=cap) hh hc4') hg (by omega)).mono λe w' ⟨he,n,os,hw⟩=> ?_
  subst hw;have hsz:(Sort.putRow (Value.int .i64) (Sort.ahead w n) g 0 (ZU l).toArray).heap.size=w.heap.size:=by simp
  have hG:∀k,k<w.heap.size→(Sort.grow (Sort.putRow (Value.int .i64) (Sort.ahead w n) g 0 (ZU l).toArray) os).heap[k]? =(Sort.putRow (Value.int .i64) (Sort.ahead w n) g 0 (ZU l).toArray).heap[k]? :=λk hk=>by
   show(_++os)[k]? =_
   rw[Array.getElem?_append_left (by omega)]
  have hgs:(Sort.grow (Sort.putRow (Value.int .i64) (Sort.ahead w n) g 0 (ZU l).toArray) os).heap.size=w.heap.size+os.size:=by simp
  have hpb:pY (pl 1000)=some g:=by rw[hp];rfl
  refine⟨_,S,pl,he,?_,?_,λb h=>by rw[hgs];have:=hS b h;omega,λb h=> .inl h,λb ⟨k,o,h1,h2⟩=> ?_,λ_ _=>rfl,?_⟩
  ·exact Rp.tup #[] [] rfl λi d h=>by simp at h
  ·have look1:∀k o,zZ k [(1000,yD.row 3 .int (ZU l))]=some o→k=1000∧o=.row 3 .int (ZU l):=λk o h=>zbd h
   refine⟨λk o h=> ?_,λk o b h1 h2=> ?_,λk k' o o' b h1 h2 _ _=>by rw[(look1 _ _ h1).1,(look1 _ _ h2).1]⟩
   ·obtain⟨rfl,rfl⟩:=look1 _ _ h
    rw[hp,show l.length=(ZU l).length from hsl.symm]
    refine zkq (by omega) ((hG g hg).trans (zbc _ n hh)) (by omega) hc2 (by simp[Sort.putCells,hc3']) ?_ hsin
    have:=zbb (d:=(ZU l).toArray) (cur:=cur) (by simp only[List.size_toArray];omega)
    simpa using this
   ·obtain⟨rfl,rfl⟩:=look1 _ _ h1
    have:=hH.priv 1000 _ b rfl h2;exact⟨by rw[hgs];omega,this.2⟩
  ·have:k=1000:=(zbd h1).1
   subst this;exact .inl ⟨1000,_,rfl,h2⟩
  ·refine⟨rfl,rfl,rfl,by rw[hgs];omega,λk hk hO=> ?_⟩
   rw[hG k hk];refine Cu _ _ λe=>hO ?_
   subst e;exact⟨1000,_,rfl,hpb⟩
theorem Sn(l:List Int):yH sQ [.own 1000] [(1000,.row 3 .int l)] (.sl .int (Lib.compact l)) []:=by
 intro w S vs pl hS hl hv hH _;have e0:vs= #[pl 1000]:=zbe hl (hv 0 _ rfl);subst e0;obtain⟨hb,css,hcl,hown,hcs,hrd⟩:=hH.ok 1000 _ rfl;obtain⟨hf,hin⟩:=zeH hcl hrd;have hb8:l.length*8≤140737488355328:=hb;have hcle:=Fl l;have hcin:∀x∈Lib.compact l,yJ x:=λx hx=>hin x (JY hx)
 rcases hown.2 with⟨hp,hn⟩|⟨g,cap,cur,hp,_,hh,hc1,hc2,hc3,hc4⟩
 ·obtain rfl:l=[]:=List.length_eq_zero_iff.1 hn
  rw[hp];refine(Tryz.slices_Compact_int_empty none 0 w).mono λe w' ⟨he,hw⟩=> ?_
  subst hw;refine⟨_,S,pl,he,?_,zeI,hS,λb h=> .inl h,λb ⟨k,o,h,_⟩=>(Option.some_ne_none _ h.symm).elim,λ_ _=>rfl,.of (Below.refl _ _)⟩
  have:Lib.compact ([]:List Int)=[]:=List.length_eq_zero_iff.1 (by have:=hcle;simpa using this)
  rw[this];exact Rp.sl .int [] _ ⟨_,rfl,none,0,rfl,by simp,by simp,by simp,λ_=>rfl,λh=>by simp at h⟩
 ·have hc3':cur.size=cap:=hc3.trans (Nat.mul_one _)
  have hc4':cur.toList.take l.length=l.map (Value.int .i64):=by rw[←hf,←hc4];congr 1;exact(Nat.mul_one _).symm
  have hg:g<w.heap.size:=(Array.getElem?_eq_some_iff.1 hh).1;rw[hp];refine(Tryz.slices_Compact_int g 0 cap l w (Ct (cap:=cap) hh hc4') (by omega) hc1).mono λe w' ⟨he,n,hw⟩=> ?_
  subst hw;have hsz:(Sort.putRow (Value.int .i64) (Sort.ahead w n) g 0 (Lib.compact l++List.replicate (l.length-(Lib.compact l).length) 0).toArray).heap.size=w.heap.size:=by simp
  have hpb:pY (pl 1000)=some g:=by rw[hp];rfl
  refine⟨_,λb=>S b∨b=g,pl,he,?_,zeI,λb h=> ?_,λb h=> ?_,λb ⟨k,o,h,_⟩=>(Option.some_ne_none _ h.symm).elim,λ_ _=>rfl,?_⟩
  ·refine Rp.sl .int _ _ ⟨_,rfl,some ⟨g,0,none⟩,cap,rfl,by show _*8≤_;omega,by omega,hc2,(λh=>by cases h),λ_=>⟨g,0,rfl,.inr rfl,λi x hx=>⟨[.int .i64 x],⟨rfl,hcin _ (List.mem_of_getElem? hx)⟩,λj u hu=> ?_⟩⟩⟩
   have hj:j=0:=by
    cases j with
    |zero=>rfl
    |succ j=>simp at hu
   subst hj;cases hu;rw[cell_of_row _ g _ _ _ (0,0) (zbc _ n hh)];have hi:i<(Lib.compact l).length:=(List.getElem?_eq_some_iff.1 hx).1;have:=zbb (d:=(Lib.compact l++List.replicate (l.length-(Lib.compact l).length) 0).toArray) (cur:=cur) (by simp;omega)
   rw[show 0+i*vS.size Int+0=i from by show 0+i*1+0=i;omega]
   rw[←Array.getElem?_toList];have h5:=congrArg (λz:List Value=>z[i]?) this
   simp only[List.getElem?_take,List.getElem?_map,List.toList_toArray]at h5
   rw[if_pos (by simp;omega),List.getElem?_append_left hi,hx]at h5
   exact h5
  ·rw[hsz]
   rcases h with h|rfl
   ·exact hS b h
   ·exact hg
  ·rcases h with h|rfl
   ·exact .inl h
   ·exact .inr (.inl ⟨1000,_,rfl,hpb⟩)
  ·refine⟨rfl,rfl,rfl,by rw[hsz];exact Nat.le_refl _,λk hk hO=>Cu _ _ λe=>hO ?_⟩
   subst e;exact⟨1000,_,rfl,hpb⟩
theorem Fm:∀ {a b:List Int},a.Pairwise (·<·)→b.Pairwise (·<·)→(∀x,x∈a↔x∈b)→a=b
 |[],[],_,_,_=>rfl
 |[],y::b,_,_,h=>absurd ((h y).2 (List.mem_cons_self ..)) (by simp)
 |x::a,[],_,_,h=>absurd ((h x).1 (List.mem_cons_self ..)) (by simp)
 |x::a,y::b,ha,hb,h=>by
  obtain⟨ha1,ha2⟩:=List.pairwise_cons.1 ha;obtain⟨hb1,hb2⟩:=List.pairwise_cons.1 hb
  have e:x=y:=by
   have h1:=(h x).1 (List.mem_cons_self ..);have h2:=(h y).2 (List.mem_cons_self ..);rcases List.mem_cons.1 h1 with h1|h1
   ·exact h1
   rcases List.mem_cons.1 h2 with h2|h2
   ·exact h2.symm
   have:=hb1 x h1;have:=ha1 y h2;omega
  subst e;rw[Fm ha2 hb2 λz=>⟨λhz=> ?_,λhz=> ?_⟩]
  ·rcases List.mem_cons.1 ((h z).1 (List.mem_cons_of_mem _ hz))with rfl|hz'
   ·have:=ha1 z hz;omega
   ·exact hz'
  ·rcases List.mem_cons.1 ((h z).2 (List.mem_cons_of_mem _ hz))with rfl|hz'
   ·have:=hb1 z hz;omega
   ·exact hz'
theorem QH{l:List Int}{x:Int}:x∈Lib.compact l↔x∈l:=by
 refine⟨JY,λh=> ?_⟩
 obtain⟨i,hi,rfl⟩:=List.getElem_of_mem h
 suffices H:∀i,i<l.length→l.toArray[i]! ∈Lib.compact l by
  have:=H i hi
  rwa[getElem!_pos l.toArray i (by simpa using hi),List.getElem_toArray]at this
 intro i
 induction i with
 |zero=>exact λhi=>List.mem_map.2 ⟨0,List.mem_filter.2 ⟨List.mem_range.2 hi,by simp[Lib.keeps]⟩,rfl⟩
 |succ i ih=>
  intro hi
  by_cases hk:Lib.keeps l.toArray (i+1)=true
  ·exact List.mem_map.2 ⟨i+1,List.mem_filter.2 ⟨List.mem_range.2 hi,hk⟩,rfl⟩
  ·have e:l.toArray[i+1]! =l.toArray[i]! :=by
    unfold Lib.keeps at hk
    rw[decide_eq_true_iff,not_or]at hk
    exact Decidable.not_not.1 hk.2
   rw[e];exact ih (by omega)
theorem QI{l:List Int}(h:l.Pairwise (·≤·)):(Lib.compact l).Pairwise (·<·):=by
 unfold Lib.compact Lib.compactUpTo;rw[List.pairwise_map];have hr:((List.range l.length).filter (Lib.keeps l.toArray)).Pairwise (·<·):=(List.pairwise_lt_range).filter _;refine hr.imp_of_mem fun {i j} hi hj hij=> ?_
 have hj1:=List.mem_range.1 (List.mem_filter.1 hj).1;have hj2:=(List.mem_filter.1 hj).2;unfold Lib.keeps at hj2
 have hj3:=(of_decide_eq_true hj2).resolve_left (by omega)
 have le:∀p q,p≤q→q<l.length→l.toArray[p]! ≤l.toArray[q]! :=λp q hpq hq=>by
  rw[getElem!_pos l.toArray p (by simp;omega),getElem!_pos l.toArray q (by simpa using hq)]
  by_cases hpe:p=q
  ·subst hpe;exact Int.le_refl _
  ·have:=List.pairwise_iff_getElem.1 h p q (by omega) hq (by omega)
   simpa using this
 have h1:=le i (j-1) (by omega) (by omega)
 have h2:=le (j-1) j (by omega) hj1
 omega
theorem zeJ(l:List Int):(ZU l).Pairwise (·≤·):=by
 have:=List.pairwise_mergeSort (le:=λx y:Int=>decide (x≤y)) (λa b c h1 h2=>by simp at*;omega) (λa b=>by simp;omega) l
 exact this.imp λh=>of_decide_eq_true h
theorem So{lo:Int}{x:Int}:∀ {n:Nat},x∈Ck lo n↔lo≤x∧x<lo+n
 |0=>by simp[Ck]
 |n+1=>by rw[Ck,List.mem_append,So (n:=n),List.mem_singleton];omega
theorem NR{lo:Int}:∀ {n:Nat},(Ck lo n).Pairwise (·<·)
 |0=> .nil
 |n+1=>by
  rw[Ck,List.pairwise_append];refine⟨NR,List.pairwise_singleton _ _,λa ha b hb=> ?_⟩
  rw[List.mem_singleton]at hb
  have:=(So.1 ha).2;omega
def ET(c:zE)(v:Int):Bool:=(c.vars.any λx=>decide (x=v))||c.lits.any λl=>decide (l.var=v)
def yM(c:zE)(nv:Nat):List Int:=(Ck 0 nv).filter (ET c)
theorem zhL{c:zE}{nv:Nat}(hc:tP c nv):Lib.compact (ZU (c.vars++c.lits.map λl=>l.var))=yM c nv:=by
 refine Fm (QI (zeJ _)) (NR.filter _) λx=> ?_
 rw[QH,(List.mergeSort_perm _ _).mem_iff,yM,List.mem_filter,So,ET,Bool.or_eq_true,List.any_eq_true,List.any_eq_true,List.mem_append,List.mem_map];constructor
 ·rintro(h|⟨l,hl,rfl⟩)
  ·exact⟨by have:=hc.vars x h;omega,.inl ⟨x,h,decide_eq_true rfl⟩⟩
  ·exact⟨by have:=(nT.1 (hc.lits l hl)).1;omega,.inr ⟨l,hl,decide_eq_true rfl⟩⟩
 ·rintro⟨_,⟨y,hy,e⟩|⟨l,hl,e⟩⟩
  ·rw[←of_decide_eq_true e];exact .inl hy
  ·exact .inr ⟨l,hl,of_decide_eq_true e⟩
theorem UA{c:zE}{nv:Nat}(hc:tP c nv):tU iA [dC c] (.sl .int (yM c nv)):=
 GS c λok=>by
  have hm:=hc.many;rw[E8];refine⟨_,NQ c.vars,?_⟩;refine up (I:=λn v a=>YW c _ n v a) 0 c.lits.length rfl (Nat.zero_le _) (by omega) (λk a=>a=c.vars++(c.lits.take k).map λl=>l.var) (by simp) λn k a _ hk ha hn=> ?_
  subst ha;rw[Km]
  by_cases h:k<c.lits.length
  ·rw[yC h,zY (t:=.lit) h]
   refine⟨zM h,xY (t:=.int) ?_,hn h _ ?_⟩
   ·rw[List.length_append,List.length_map,List.length_take]
    show(_+1)*8≤_
    omega
   ·rw[ML _ h,List.append_assoc]
  ·have hk':k=c.lits.length:=by omega
   subst hk';rw[zX,List.take_length];refine⟨_,K4 _,_,Sn _,?_⟩;rw[zhL hc]
def HX(m:zG)(con:Int):Int:=if xL m≠0 then xL m else if con<0∨(m.cons.length:Int)≤con then 5 else 0
theorem lX{m:zG}{con:Int}(h:HX m con=0):Right m∧0≤con∧con<m.cons.length:=by
 unfold HX at h
 split at h
 ·rename_i h1;exact absurd h h1
 rename_i h1;split at h
 ·exact absurd h (by decide)
 rename_i h2;exact⟨lO (Decidable.not_not.1 h1),by omega,by omega⟩
def yW(m:zG)(con:Int):zE:=m.cons.getD con.toNat (Ty.dflt .con)
theorem nN{m:zG}{con:Int}(h:HX m con=0):tP (yW m con) m.vars.length:=by
 obtain⟨h1,h2,h3⟩:=lX h;refine KO h1.vars (h1.con _ ?_);rw[yW,yE _ (show con.toNat<m.cons.length by omega)]
 exact List.getElem_mem _
def wholeM(m:zG)(vs:List Int):Bool:= !((m.vars.zip vs).any λx=> !kK x.2 x.1.lo x.1.hi)&& !m.cons.any λc=> !vH c vs
theorem zc8{m:zG}(hr:Right m){vs:List Int}(hl:vs.length=m.vars.length)(h:((m.vars.zip vs).any λx=> !kK x.2 x.1.lo x.1.hi)=false):Qo vs m.vars.length:=by
 refine⟨hl,λn hn=> ?_⟩
 obtain⟨i,hi,rfl⟩:=List.getElem_of_mem hn;have hz:i<(m.vars.zip vs).length:=by rw[List.length_zip];omega
 have:=Ci h hz;rw[List.getElem_zip]at this
 have hv:=hr.var _ (List.getElem_mem (show i<m.vars.length by omega))
 simp[kK]at this
 omega
theorem K5{c:zE}{vs:List Int}{nv:Nat}(hc:tP c nv)(hv:Qo vs nv):tU bO [dC c,.iptr [.sl .int vs] 0] (dB (!vH c vs)):=
 MP c vs λok=>by rw[Ko];exact zH (Y5 hc hv) rfl
theorem Fo{m:zG}(hr:Right m){vs:List Int}(hl:vs.length=m.vars.length):tU cO [dM m,.sl .int vs] (dB (wholeM m vs)):=
 Iy m vs λok=>by
  have hv:=hr.vars;have hz:(m.vars.zip vs).length=m.vars.length:=by rw[List.length_zip];omega
  rw[GR];refine zcU (I:=λn v=>ZJ m vs _ n v) (m.vars.zip vs) (λx=> !kK x.2 x.1.lo x.1.hi) (by omega) (X:=dB false=dB (wholeM m vs)) (λe=>by rw[wholeM,e];rfl) (λn k h hX hn=> ?_) λe n=> ?_
  ·have hk:k<m.vars.length:=by omega
   have hk2:k<vs.length:=by omega
   rw[List.getElem_zip]at hX hn
   rw[VY,yC hk,zY (t:=.var) hk,zY (t:=.int) hk2];exact⟨zM hk,zM hk2,zH (pK _ _ _) (zA hX hn)⟩
  ·rw[hz,VY,zX]
   refine zH (gF (p:=λc=> !vH c vs) MR λc hc=>K5 (KO hr.vars (hr.con c hc)) (zc8 hr hl e)) ?_
   rw[wholeM,e];rfl
def ZV(s:List (List Int))(c:List zC):List Int:=(c.filter λl=>decide (0≤V4 s l)).map λl=>l.var
theorem Cv{s:List (List Int)}{l:zC}{ls:List zC}(h:V4 s l<0):ZV s (l::ls)=ZV s ls:=by
 rw[ZV,List.filter_cons_of_neg (by rw[decide_eq_true_iff];omega)];rfl
theorem Cw{s:List (List Int)}{l:zC}{ls:List zC}(h:¬V4 s l<0):ZV s (l::ls)=l.var::ZV s ls:=by
 rw[ZV,List.filter_cons_of_pos (by rw[decide_eq_true_iff];omega)];rfl
theorem K6{s:List (List Int)}{c:List zC}{v:Int}(hv:0≤v):∀ls:List zC,K3 s c ls v=if(ZV s ls).all (λu=>decide (u=v))=true then zhK s c v else s
 |[]=>by rw[K3,if_neg (by omega)];rfl
 |l::ls=>by
  rw[K3]
  by_cases h:V4 s l<0
  ·rw[if_pos h,Cv h,K6 hv ls]
  ·rw[if_neg h,Cw h,List.all_cons]
   by_cases e:l.var=v
   ·rw[if_neg (λx=>x.2 e.symm),e,K6 hv ls,decide_eq_true rfl,Bool.true_and]
   ·rw[if_pos ⟨hv,λx=>e x.symm⟩,decide_eq_false e,Bool.false_and,if_neg (by decide)]
theorem K7{s:List (List Int)}{c:List zC}:∀ls:List zC,(∀l∈ls,0≤l.var)→K3 s c ls (-1)=match ZV s ls with|[]=>gI s|v::vs=>if vs.all (λu=>decide (u=v))=true then zhK s c v else s
 |[],_=>by rw[K3,if_pos (by decide)];rfl
 |l::ls,hl=>by
  rw[K3]
  by_cases h:V4 s l<0
  ·rw[if_pos h,Cv h,K7 ls λl hl'=>hl l (List.mem_cons_of_mem _ hl')]
  ·rw[if_neg h,Cw h,if_neg (by omega),K6 (hl l (List.mem_cons_self ..)) ls]
theorem zfG{f g:Nat→Int→Bool}{s:List (List Int)}:pL g (pL f s)=pL (λv n=>f v n&&g v n) s:=by
 rw[pL,pL,pL,List.mapIdx_mapIdx]
 congr 1;funext v l
 show List.filter (g v) (List.filter (f v) l)=_
 rw[List.filter_filter]
 congr 1;funext n;exact Bool.and_comm _ _
end Go.Proofs.YtogdmcebojiojaaGreatDoor
