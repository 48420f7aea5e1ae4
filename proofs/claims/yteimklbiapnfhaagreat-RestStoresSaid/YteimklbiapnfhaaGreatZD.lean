/- Texts of this proof, one behind the other: nothing is handed in but what is proved here; no condition. -/
import Derived.Test.YteimklbiapnfhaaGreatZC
set_option linter.unusedSectionVars false
namespace Go.Proofs.YteimklbiapnfhaaGreat
open Go.RowKit
set_option linter.unusedVariables false
set_option linter.unusedSimpArgs false
set_option maxRecDepth 100000
variable[Lo]
theorem WM{xs:List Int}{a:Int}:wO ov [.sl .int xs,dI a] (.int .i64 (Jy (λx=>decide (a=x)) xs 0)):=
 WF _ _ λok=>by
  rw[Vc];refine zcR (t:=.int) (p:=λx=>decide (a=x)) (R:=λd=>d=.int .i64 (Jy (λx=>decide (a=x)) xs 0)) (fq (t:=.int) (WD ok)) rfl (λn k h h1 h2=> ?_) λn hR=> ?_
  ·rw[gI,zR h,zP h]
   exact⟨zI h,zA h1 h2⟩
  ·rw[gI,zO];exact hR
theorem YA{xs:List Int}{g:FuncId}{rs:Option (List Ty)}{cap:List D}{p:Int→Bool}(he:aD g)(hp:∀x∈xs,wO g (dI x::cap) (.bool (p x))):wO rM [.sl .int xs,.clo g rs cap] (.int .i64 (Jy p xs 0)):=
 mB.clo (pre:=[_]) (Yy _ _ _ λok=>by
  rw[Xf];refine zcR (t:=.int) (p:=p) (R:=λd=>d=.int .i64 (Jy p xs 0)) (fq (t:=.int) (WD ok)) rfl (λn k h h1 h2=> ?_) λn hR=> ?_
  ·rw[kS,zR h,zP h]
   exact⟨zI h,he,zE (hp _ (List.getElem_mem h)) (zA h1 h2)⟩
  ·rw[kS,zO];exact hR)
theorem fG{xs:List zC}{g:FuncId}{rs:Option (List Ty)}{cap:List D}{p:zC→Bool}(he:aD g)(hp:∀x∈xs,wO g (dL x::cap) (.bool (p x))):wO vT [.sl .lit xs,.clo g rs cap] (.int .i64 (Jy p xs 0)):=
 mB.clo (pre:=[_]) (fF _ _ _ λok=>by
  rw[fW];refine zcR (t:=.lit) (p:=p) (R:=λd=>d=.int .i64 (Jy p xs 0)) (fq (t:=.lit) (WD ok)) rfl (λn k h h1 h2=> ?_) λn hR=> ?_
  ·rw[qY,zR h,zP h]
   exact⟨zI h,he,zE (hp _ (List.getElem_mem h)) (zA h1 h2)⟩
  ·rw[qY,zO];exact hR)
theorem rG{xs:List xI}{g:FuncId}{rs:Option (List Ty)}{cap:List D}{p:xI→Bool}(he:aD g)(hp:∀x∈xs,wO g (.agg [dI x.v,dI x.times]::cap) (.bool (p x))):wO wF [.sl .term xs,.clo g rs cap] (.int .i64 (Jy p xs 0)):=
 mB.clo (pre:=[_]) (jG _ _ _ λok=>by
  rw[jM];refine zcR (t:=.term) (p:=p) (R:=λd=>d=.int .i64 (Jy p xs 0)) (fq (t:=.term) (WD ok)) rfl (λn k h h1 h2=> ?_) λn hR=> ?_
  ·rw[sO,zR h,zP h]
   exact⟨zI h,he,zE (hp _ (List.getElem_mem h)) (zA h1 h2)⟩
  ·rw[sO,zO];exact hR)
theorem aW{xs:List (List Int)}{g:FuncId}{rs:Option (List Ty)}{cap:List D}{p:(List Int)→Bool}(he:aD g)(hp:∀x∈xs,wO g (.sl .int x::cap) (.bool (p x))):wO tO [.sl (.list .int) xs,.clo g rs cap] (.int .i64 (Jy p xs 0)):=
 mB.clo (pre:=[_]) (aV _ _ _ λok=>by
  rw[Zu];refine zcR (t:=(.list .int)) (p:=p) (R:=λd=>d=.int .i64 (Jy p xs 0)) (fq (t:=(.list .int)) (WD ok)) rfl (λn k h h1 h2=> ?_) λn hR=> ?_
  ·rw[nU,zR h,zP h]
   exact⟨zI h,he,zE (hp _ (List.getElem_mem h)) (zA h1 h2)⟩
  ·rw[nU,zO];exact hR)
theorem eJ{xs:List vF}{g:FuncId}{rs:Option (List Ty)}{cap:List D}{p:vF→Bool}(he:aD g)(hp:∀x∈xs,wO g (dV x::cap) (.bool (p x))):wO uB [.sl .var xs,.clo g rs cap] (.int .i64 (Jy p xs 0)):=
 mB.clo (pre:=[_]) (fZ _ _ _ λok=>by
  rw[dN];refine zcR (t:=.var) (p:=p) (R:=λd=>d=.int .i64 (Jy p xs 0)) (fq (t:=.var) (WD ok)) rfl (λn k h h1 h2=> ?_) λn hR=> ?_
  ·rw[pL,zR h,zP h]
   exact⟨zI h,he,zE (hp _ (List.getElem_mem h)) (zA h1 h2)⟩
  ·rw[pL,zO];exact hR)
theorem eL{xs:List zC}{g:FuncId}{rs:Option (List Ty)}{cap:List D}{p:zC→Bool}(he:aD g)(hp:∀x∈xs,wO g (dL x::cap) (.bool (p x))):wO uC [.sl .lit xs,.clo g rs cap] (.int .i64 (Jy p xs 0)):=
 mB.clo (pre:=[_]) (eA _ _ _ λok=>by
  rw[dO];refine zcR (t:=.lit) (p:=p) (R:=λd=>d=.int .i64 (Jy p xs 0)) (fq (t:=.lit) (WD ok)) rfl (λn k h h1 h2=> ?_) λn hR=> ?_
  ·rw[pM,zR h,zP h]
   exact⟨zI h,he,zE (hp _ (List.getElem_mem h)) (zA h1 h2)⟩
  ·rw[pM,zO];exact hR)
theorem Zw{xs:List (List Int)}{g:FuncId}{rs:Option (List Ty)}{cap:List D}{p:(List Int)→Bool}(he:aD g)(hp:∀x∈xs,wO g (.sl .int x::cap) (.bool (p x))):wO tT [.sl (.list .int) xs,.clo g rs cap] (.int .i64 (Jy p xs 0)):=
 mB.clo (pre:=[_]) (Zv _ _ _ λok=>by
  rw[ZM];refine zcR (t:=(.list .int)) (p:=p) (R:=λd=>d=.int .i64 (Jy p xs 0)) (fq (t:=(.list .int)) (WD ok)) rfl (λn k h h1 h2=> ?_) λn hR=> ?_
  ·rw[mY,zR h,zP h]
   exact⟨zI h,he,zE (hp _ (List.getElem_mem h)) (zA h1 h2)⟩
  ·rw[mY,zO];exact hR)
theorem yS{xs:List Int}{a:Int}:wO yH [.sl .int xs,dI a] (.bool (xs.any λx=>decide (a=x))):=
 Xe _ _ λok=>by
  rw[Xy];refine zE (WM (a:=a)) ?_;rw[fQ _ _ (Int.le_refl 0)]
theorem wV{xs:List Int}{g:FuncId}{rs:Option (List Ty)}{cap:List D}{p:Int→Bool}(he:aD g)(hp:∀x∈xs,wO g (dI x::cap) (.bool (p x))):wO xM [.sl .int xs,.clo g rs cap] (.bool (xs.any p)):=
 mB.clo (pre:=[_]) (Zs _ _ _ λok=>by
  rw[ZL];refine zE (YA he hp) ?_;rw[fQ _ _ (Int.le_refl 0)])
theorem uY{xs:List zC}{g:FuncId}{rs:Option (List Ty)}{cap:List D}{p:zC→Bool}(he:aD g)(hp:∀x∈xs,wO g (dL x::cap) (.bool (p x))):wO xZ [.sl .lit xs,.clo g rs cap] (.bool (xs.any p)):=
 mB.clo (pre:=[_]) (gA _ _ _ λok=>by
  rw[gH];refine zE (fG he hp) ?_;rw[fQ _ _ (Int.le_refl 0)])
theorem dP{xs:List (List Int)}{g:FuncId}{rs:Option (List Ty)}{cap:List D}{p:(List Int)→Bool}(he:aD g)(hp:∀x∈xs,wO g (.sl .int x::cap) (.bool (p x))):wO uL [.sl (.list .int) xs,.clo g rs cap] (.bool (xs.any p)):=
 mB.clo (pre:=[_]) (dK _ _ _ λok=>by
  rw[cQ];refine zE (aW he hp) ?_;rw[fQ _ _ (Int.le_refl 0)])
theorem gO{xs:List vF}{g:FuncId}{rs:Option (List Ty)}{cap:List D}{p:vF→Bool}(he:aD g)(hp:∀x∈xs,wO g (dV x::cap) (.bool (p x))):wO vO [.sl .var xs,.clo g rs cap] (.bool (xs.any p)):=
 mB.clo (pre:=[_]) (gJ _ _ _ λok=>by
  rw[fi];refine zE (eJ he hp) ?_;rw[fQ _ _ (Int.le_refl 0)])
theorem qZ{xs:List zC}{g:FuncId}{rs:Option (List Ty)}{cap:List D}{p:zC→Bool}(he:aD g)(hp:∀x∈xs,wO g (dL x::cap) (.bool (p x))):wO wD [.sl .lit xs,.clo g rs cap] (.bool (xs.any p)):=
 mB.clo (pre:=[_]) (gK _ _ _ λok=>by
  rw[fj];refine zE (eL he hp) ?_;rw[fQ _ _ (Int.le_refl 0)])
theorem sT{xs:List (List Int)}{g:FuncId}{rs:Option (List Ty)}{cap:List D}{p:(List Int)→Bool}(he:aD g)(hp:∀x∈xs,wO g (.sl .int x::cap) (.bool (p x))):wO yL [.sl (.list .int) xs,.clo g rs cap] (.bool (xs.any p)):=
 mB.clo (pre:=[_]) (cR _ _ _ λok=>by
  rw[bD];refine zE (Zw he hp) ?_;rw[fQ _ _ (Int.le_refl 0)])
theorem U3:aD fU:=λargs w=>Tryz.call52 args w
theorem Mh:aD dA:=λargs w=>Tryz.call70 args w
theorem Mi:aD dD:=λargs w=>Tryz.call73 args w
theorem U4:aD vN:=λargs w=>Tryz.call102 args w
theorem JV:aD lD:=λargs w=>Tryz.call104 args w
theorem Mj:aD dE:=λargs w=>Tryz.call105 args w
theorem U5:aD fV:=λargs w=>Tryz.call106 args w
theorem Xj:aD lE:=λargs w=>Tryz.call107 args w
theorem Sq:aD kP:=λargs w=>Tryz.call108 args w
theorem Lx:aD aB:=λargs w=>Tryz.call123 args w
theorem JW:aD ZD:=λargs w=>Tryz.call131 args w
theorem Ri:aD bA:=λargs w=>Tryz.call132 args w
theorem Rj:aD ow:=λargs w=>Tryz.call133 args w
theorem Gw:aD YI:=λargs w=>Tryz.call136 args w
theorem Gx:aD YJ:=λargs w=>Tryz.call138 args w
theorem Ly:aD aC:=λargs w=>Tryz.call139 args w
theorem JX:aD qJ:=λargs w=>Tryz.call144 args w
theorem JY:aD ZE:=λargs w=>Tryz.call146 args w
theorem VL:aD yJ:=λargs w=>Tryz.call149 args w
theorem XI:aD tM:=λargs w=>Tryz.call152 args w
theorem RR:aD jO:=λargs w=>Tryz.call154 args w
theorem RS:aD jP:=λargs w=>Tryz.call155 args w
theorem XJ:aD tN:=λargs w=>Tryz.call156 args w
theorem Dq:aD dF:=λargs w=>Tryz.call160 args w
theorem JZ:aD oO:=λargs w=>Tryz.call174 args w
theorem Mk:aD dG:=λargs w=>Tryz.call179 args w
theorem NE:aD Xd:=λargs w=>Tryz.call181 args w
end Go.Proofs.YteimklbiapnfhaaGreat
namespace Go.Proofs.YteimklbiapnfhaaGreat
open Go.RowKit
set_option linter.unusedVariables false
set_option linter.unusedSimpArgs false
variable[Lo]
end Go.Proofs.YteimklbiapnfhaaGreat
namespace Go.Proofs.YteimklbiapnfhaaGreat
open Go.RowKit
set_option linter.unusedVariables false
set_option linter.unusedSimpArgs false
variable[Lo]
theorem Lz{P:Program}{f:FuncId}{s:ByteArray}{b:Bool}(h:s.size≤140737488355328→∀w,Calls P f #[.string s] w λe w'=>e=.returned (.bool b)∧Below w.heap.size w w'):mB P f [.str s] (.bool b):=by
 intro w S vs hS hl hv _;obtain⟨e0,hz⟩:=(hv 0 _ rfl).str_inv
 have e:vs= #[.string s]:=by
  have hl:vs.size=1:=hl;apply Array.ext
  ·simpa using hl
  ·intro i h1 h2
   have:i=0:=by omega
   subst this;simpa[Array.getD_eq_getD_getElem?,h1]using e0
 subst e;exact(h hz w).mono λe w' ⟨he,hb⟩=>⟨_,he,.bool b,hb⟩
theorem Bl(s:ByteArray):wO T3 [.str s] (.bool (aA s)):=Lz λ_ w=>zkL s w
theorem O9(s:ByteArray):wO aQ [.str s] (.bool (aA s)):=Lz λhz w=>zeE s w hz
end Go.Proofs.YteimklbiapnfhaaGreat
namespace Go.Proofs.YteimklbiapnfhaaGreat
open Go.RowKit
set_option linter.unusedVariables false
set_option linter.unusedSimpArgs false
variable[Lo]
theorem nP(n a b:Int):wO tW [dI n,dI a,dI b] (dB (fh n a b)):=
 JK n a b λok=>by rw[Gl];(repeat'(refine zA (λ_=> ?_) (λ_=> ?_)))<;>simp_all[fh]<;>omega
theorem wW(n a b:Int):wO xU [dI n,dI a,dI b] (dB (fh n a b)):=
 RI n a b λok=>by rw[QG];(repeat'(refine zA (λ_=> ?_) (λ_=> ?_)))<;>simp_all[fh]<;>omega
theorem kW(n:Int):wO sR [dI n] (dB (fh n (-1000) 1000)):=
 RQ n λok=>by rw[QO];exact zE (wW _ _ _) rfl
theorem ZQ(n:Int):wO ow [dI n] (dB (farB n)):=
 Gp n λok=>by rw[Dk];exact zE (nP _ _ _) rfl
theorem QP(n:Int)(m:zF)(h:m.vars.length≤9223372036854775807):wO bA [dI n,.iptr [.sl .var m.vars,.sl .con m.cons,.int .i64 m.goal,.int .i64 m.var] 0] (dB (qC m.vars.length n)):=
 Gn n m λok=>by
  rw[Dj,tR (by omega) (by omega)];exact zE (nP _ _ _) rfl
theorem Dr(l:zC){g:FuncId}{cap:List D}{b:Bool}(he:aD g)(h:wO g (dI l.var::cap) (dB b)):wO YI [dL l,.iptr [.clo g none cap] 0] (dB b):=
 mB.iclo (pre:=[_]) (Gq l g cap λok=>by rw[Dm];exact⟨he,zE h rfl⟩)
theorem Ds(l:List Int){g:FuncId}{cap:List D}{p:Int→Bool}(he:aD g)(h:∀x∈l,wO g (dI x::cap) (dB (p x))):wO YJ [.sl .int l,.iptr [.clo g none cap] 0] (dB (l.any p)):=
 mB.iclo (pre:=[_]) (Gr l g cap λok=>by rw[Dn];exact zE (wV he h) rfl)
theorem Gy(l:List Int)(c:zQ):wO oO [.sl .int l,.iptr [.int .i64 c.kind,.sl .int c.vars,.sl .int c.consts,.int .i64 c.n,.sl (.list .int) c.rows,.sl .lit c.lits] 0] (dB (!decide (l.length=c.vars.length))):=
 JU l c λok=>by rw[Gv];congr 2;exact decide_eq_decide.2 (by omega)
theorem QQ(a b:Int):wO Yw [dI a,dI b] (dB (decide (b= -1)||decide (a=b))):=
 zba a b λok=>by rw[zcW];(repeat'(refine zA (λ_=> ?_) (λ_=> ?_)))<;>simp_all
def VM(c:zQ):Int×Int×Int×Int×Int:=
 if c.kind=1∨c.kind=2∨c.kind=3 then(1,4,c.vars.length,0,0)else if c.kind=4 then(1,4,0,0,0)else if c.kind=5 then(2,2,-1,0,0)
 else if c.kind=6 then(1,4,0,-1,0)else if c.kind=7 then(3,3,0,0,0)else if c.kind=8 then(2,4,0,0,0)else if c.kind=9 then(0,0,0,0,-1)else(1,1,0,0,1)
theorem zcX(c:zQ):wO T4 [dC c] (M4 (.pr .int (.pr .int (.pr .int (.pr .int .int)))) (VM c)):=
 za9 c λok=>by
  rw[zcV];unfold VM
  (repeat'(refine zA (λ_=> ?_) (λ_=> ?_)))<;>simp_all<;>rfl
def isB(a b:Int):Bool:=decide (b= -1)||decide (a=b)
def LA(c:zQ):Bool:=
 fh c.vars.length (VM c).1 (VM c).2.1&&isB c.consts.length (VM c).2.2.1&&isB c.rows.length (VM c).2.2.2.1&&isB c.lits.length (VM c).2.2.2.2&&
 !(decide (c.kind=5)&&decide ((c.consts.length:Int)=0))&& !(decide (3<c.kind)&& !decide (c.n=0))&& !(c.rows.any λr=> !decide (r.length=c.vars.length))
theorem Bm(c:zQ):wO XV [dC c] (dB (LA c)):=
 Dl c λok=>by
  rw[Bj];refine zE (zcX c) (zE (nP _ _ _) (zA (λe1=> ?_) λe1=>zE (QQ _ _) (zA (λe2=> ?_) λe2=>zE (QQ _ _) (zA (λe3=> ?_) λe3=>zE (QQ _ _) (zA (λe4=> ?_) λe4=> ?_)))))
  all_goals try simp only[Bool.not_eq_eq_eq_not,Bool.not_true,Bool.not_false]at*
  ·simp only[LA,isB,e1,Bool.false_and]
  ·simp only[LA,isB,e2,Bool.false_and,Bool.and_false]
  ·simp only[LA,isB,e3,Bool.false_and,Bool.and_false]
  ·simp only[LA,isB,e4,Bool.false_and,Bool.and_false]
  have hr:wO yL [.sl (.list .int) c.rows,.clo oO none [.iptr [.int .i64 c.kind,.sl .int c.vars,.sl .int c.consts,.int .i64 c.n,.sl (.list .int) c.rows,.sl .lit c.lits] 0]] (dB (c.rows.any λr=> !decide (r.length=c.vars.length))):=sT JZ λx _=>Gy x c
  (repeat'(refine zA (λ_=> ?_) (λ_=> ?_)))
  all_goals first|(refine zE hr ?_;simp only[LA,isB, *,Bool.true_and,Bool.and_true,Bool.not_true,Bool.not_false,Bool.and_false,Bool.false_and];done)|(simp only[LA,isB, *,Bool.true_and,Bool.and_true,Bool.not_true,Bool.not_false,Bool.and_false,Bool.false_and];done)
theorem zkT(c:zQ)(h1:1≤c.kind)(h2:c.kind≤10)(h3:c.vars.length≤4):LA c=fP c:=by
 have hk:c.kind=1∨c.kind=2∨c.kind=3∨c.kind=4∨c.kind=5∨c.kind=6∨c.kind=7∨c.kind=8∨c.kind=9∨c.kind=10:=by omega
 have ha:(c.rows.any λr=> !decide (r.length=c.vars.length))= !(c.rows.all λr=>decide (r.length=c.vars.length)):=by
  rw[List.all_eq_not_any_not,Bool.not_not]
 have hq:c.rows.length=0→(c.rows.all λr=>decide (r.length=c.vars.length))=true:=λh=>by rw[List.length_eq_zero_iff.1 h];rfl
 unfold LA fP VM;rw[ha]
 dsimp only
 revert hq;generalize(c.rows.all λr=>decide (r.length=c.vars.length))=q
 generalize c.vars.length=v at*
 generalize c.consts.length=k;generalize c.rows.length=rr;generalize c.lits.length=l;rcases hk with h|h|h|h|h|h|h|h|h|h<;>simp only[h,isB,fh]<;>rw[Bool.eq_iff_iff]<;>intro hq<;>cases q<;>simp_all<;>first|omega|(rw[Bool.eq_iff_iff];simp;omega)
theorem zbb{nv:Nat}{c:zQ}(h:fh c.kind 1 10=false):Yu nv c=7:=by rw[Yu,if_pos h]
theorem zeG{nv:Nat}{c:zQ}(h1:¬fh c.kind 1 10=false)(h:Vz c=true):Yu nv c=2:=by rw[Yu,if_neg h1,if_pos h]
theorem zeH{nv:Nat}{c:zQ}(h1:¬fh c.kind 1 10=false)(h2:¬Vz c=true)(h:fP c=false):Yu nv c=1:=by rw[Yu,if_neg h1,if_neg h2,if_pos h]
theorem Dt{nv:Nat}{c:zQ}(h1:¬fh c.kind 1 10=false)(h2:¬Vz c=true)(h3:¬fP c=false)(h:(c.vars.any (qC nv)||c.lits.any λl=>qC nv l.var)=true):Yu nv c=5:=by rw[Yu,if_neg h1,if_neg h2,if_neg h3,if_pos h]
theorem Ml{nv:Nat}{c:zQ}(h1:¬fh c.kind 1 10=false)(h2:¬Vz c=true)(h3:¬fP c=false)(h4:¬(c.vars.any (qC nv)||c.lits.any λl=>qC nv l.var)=true)(h:(c.consts.any farB||farB c.n||c.rows.any λr=>r.any farB)=true):Yu nv c=3:=by rw[Yu,if_neg h1,if_neg h2,if_neg h3,if_neg h4,if_pos h]
theorem zeI{nv:Nat}{c:zQ}(h1:¬fh c.kind 1 10=false)(h2:¬Vz c=true)(h3:¬fP c=false)(h4:¬(c.vars.any (qC nv)||c.lits.any λl=>qC nv l.var)=true)(h5:¬(c.consts.any farB||farB c.n||c.rows.any λr=>r.any farB)=true):Yu nv c=wL (λ_ l=>opE l) 0 c.lits:=by rw[Yu,if_neg h1,if_neg h2,if_neg h3,if_neg h4,if_neg h5]
theorem wG{a b:Int}(h:b=a):D.int .i64 a=dI b:=by rw[h]
theorem zbc(m:zF)(c:zQ)(hm:m.vars.length≤6):wO VB [dM m,dC c] (dI (Yu m.vars.length c)):=
 Bg m c λok=>by
  have hm':m.vars.length≤9223372036854775807:=by omega
  rw[za7];refine zA (λe=> ?_) λe1=>zA (λe=> ?_) λe2=> ?_
  ·exact wG (zbb (qS.2 (.inl (of_decide_eq_true e))))
  ·exact wG (zbb (qS.2 (.inr (of_decide_eq_true e))))
  simp at e1 e2
  have k1:¬fh c.kind 1 10=false:=by rw[qS];omega
  refine zA (λe=> ?_) λe3=>zA (λe=> ?_) λe4=>zA (λe=> ?_) λe5=>zA (λe=> ?_) λe6=> ?_
  iterate 4 (exact wG (zeG k1 (by simp at e;simp[Vz];omega)))
  simp at e3 e4 e5 e6
  have k2:¬Vz c=true:=by simp[Vz];omega
  refine zE (Bm c) ?_;rw[zkT c e1 e2 (by omega)]
  refine zA (λe=> ?_) λe=> ?_
  ·exact wG (zeH k1 k2 (by simpa using e))
  have k3:¬fP c=false:=by simpa using e
  refine zE (wV (p:=qC m.vars.length) Ri λx _=>QP x m hm') (zA (λe=> ?_) λe7=> ?_)
  ·exact wG (Dt k1 k2 k3 (by rw[e];rfl))
  refine zE (qZ (p:=λl=>qC m.vars.length l.var) Gw λx _=>Dr x Ri (QP x.var m hm')) (zA (λe=> ?_) λe8=> ?_)
  ·exact wG (Dt k1 k2 k3 (by rw[e,Bool.or_true]))
  have k4:¬(c.vars.any (qC m.vars.length)||c.lits.any λl=>qC m.vars.length l.var)=true:=by rw[e7,e8];decide
  refine zE (wV (p:=farB) Rj λx _=>ZQ x) (zA (λe=> ?_) λe9=> ?_)
  ·exact wG (Ml k1 k2 k3 k4 (by rw[e];rfl))
  refine zE (ZQ _) (zA (λe=> ?_) λe10=> ?_)
  ·exact wG (Ml k1 k2 k3 k4 (by rw[e,Bool.or_true];rfl))
  refine zE (sT (p:=λr=>r.any farB) Gx λx _=>Ds x Rj λn _=>ZQ n) (zA (λe=> ?_) λe11=> ?_)
  ·exact wG (Ml k1 k2 k3 k4 (by rw[e,Bool.or_true]))
  have k5:¬(c.consts.any farB||farB c.n||c.rows.any λr=>r.any farB)=true:=by rw[e9,e10,e11];decide
  rw[zeI k1 k2 k3 k4 k5];refine C8 (I:=λn v=>XY c _ n v) c.lits (λ_ l=>opE l) (by omega) (X:=λx=>D.int .i64 x=dI (wL (λ_ l=>opE l) 0 c.lits)) (Y:=D.int .i64 0=dI (wL (λ_ l=>opE l) 0 c.lits)) (λ_=>rfl) (λe=>wG e) (λn k h _ hX hn=> ?_) λn hY=> ?_
  ·rw[Rh,zR h,zP (t:=.lit) h]
   unfold opE at hX hn
   refine⟨zI h,zA (λe=> ?_) λe1=>zA (λe=> ?_) λe2=>zE (ZQ _) (zA (λe=> ?_) λe=> ?_)⟩
   ·have i:fh c.lits[k].op 1 4=false:=qS.2 (.inl (of_decide_eq_true e))
    rw[if_pos i]at hX;exact hX (by decide)
   ·have i:fh c.lits[k].op 1 4=false:=qS.2 (.inr (of_decide_eq_true e))
    rw[if_pos i]at hX;exact hX (by decide)
   ·have i:¬fh c.lits[k].op 1 4=false:=by rw[qS];simp at e1 e2;omega
    rw[if_neg i,if_pos e]at hX;exact hX (by decide)
   ·have i:¬fh c.lits[k].op 1 4=false:=by rw[qS];simp at e1 e2;omega
    rw[if_neg i,if_neg (by rw[e];decide)]at hn;exact hn rfl
  ·rw[Rh,zO];exact hY
end Go.Proofs.YteimklbiapnfhaaGreat
namespace Go.Proofs.YteimklbiapnfhaaGreat
open Go.RowKit
set_option linter.unusedVariables false
set_option linter.unusedSimpArgs false
variable[Lo]
theorem Gz(u v:vF):wO ZD [dV u,.iptr [.str v.name,.int .i64 v.lo,.int .i64 v.hi] 0] (dB (u.name.toList==v.name.toList)):=
 JQ u v λok=>by rw[Gm,TX]
def LB(v:vF):Int:=if(!fh v.lo (-50) 50|| !fh v.hi (-50) 50||decide (v.hi<v.lo))=true then 3 else if 6≤v.hi-v.lo then 2 else 0
theorem zkU{a:List vF}{v:vF}(h:aA v.name=false):C4 a v=1:=by rw[C4,if_pos h]
theorem zkV{a:List vF}{v:vF}(h1:¬aA v.name=false)(h:(a.any λu=>u.name.toList==v.name.toList)=true):C4 a v=6:=by rw[C4,if_neg h1,if_pos h]
theorem zkW{a:List vF}{v:vF}(h1:¬aA v.name=false)(h2:¬(a.any λu=>u.name.toList==v.name.toList)=true):C4 a v=LB v:=by rw[C4,if_neg h1,if_neg h2];rfl
theorem zkX{v:vF}(h:(!fh v.lo (-50) 50)=true):LB v=3:=by rw[LB,h];rfl
theorem zkY{v:vF}(h:(!fh v.hi (-50) 50)=true):LB v=3:=by rw[LB,h,Bool.or_true];rfl
theorem zkZ{v:vF}(h:decide (v.hi<v.lo)=true):LB v=3:=by rw[LB,h,Bool.or_true];rfl
theorem zk0{v:vF}(h1:(!fh v.lo (-50) 50)=false)(h2:(!fh v.hi (-50) 50)=false)(h3:decide (v.hi<v.lo)=false):LB v=if 6≤v.hi-v.lo then 2 else 0:=by rw[LB,h1,h2,h3];rfl
theorem Bn(l:List vF):wO XU [.sl .var l] (dI (Qp l)):=
 Dg l λok=>by
  rw[Bf];refine C8 (I:=λn v=>YQ l _ n v) l (λi v=>C4 (l.take i) v) (fq (t:=.var) (WD ok)) (X:=λx=>D.int .i64 x=dI (Qp l)) (Y:=D.int .i64 0=dI (Qp l)) (λ_=>rfl) (λe=>wG e) (λn k h _ hX hn=> ?_) λn hY=> ?_
  ·rw[UR,zR h,zP (t:=.var) h]
   refine⟨zI h,zE (Bl _) (zA (λe=> ?_) λe=> ?_)⟩
   ·rw[zkU (by simpa using e)]at hX;exact hX (by decide)
   have k1:¬aA l[k].name=false:=by simpa using e
   refine⟨by unfold OY;simp;omega,?_⟩
   rw[show((l.take (k:Int).toNat).drop 0)=l.take k by rw[Int.toNat_natCast,List.drop_zero]]
   refine zE (gO (p:=λu=>u.name.toList==l[k].name.toList) JW λx _=>Gz x _) (zA (λe=> ?_) λe=> ?_)
   ·rw[zkV k1 e]at hX;exact hX (by decide)
   rw[zkW k1 (by rw[e];decide)]at hX hn
   refine zE (nP _ _ _) (zA (λe=> ?_) λe1=>zE (nP _ _ _) (zA (λe=> ?_) λe2=>(zA (λe=> ?_) λe3=> ?_)))
   ·rw[zkX e]at hX;exact hX (by decide)
   ·rw[zkY e]at hX;exact hX (by decide)
   ·rw[zkZ e]at hX;exact hX (by decide)
   rw[zk0 e1 e2 e3]at hX hn
   simp[fh]at e1 e2
   rw[tR (by omega) (by omega)]
   refine zA (λe=> ?_) λe=> ?_
   ·rw[if_pos (of_decide_eq_true e)]at hX;exact hX (by decide)
   ·exact hn (if_neg (of_decide_eq_false e))
  ·rw[UR,zO];exact hY
theorem zcY{m:zF}(h:m.vars.length=0):wN m=1:=by rw[wN,if_pos h]
theorem LC{m:zF}(h1:¬m.vars.length=0)(h:6<m.vars.length∨8<m.cons.length):wN m=2:=by rw[wN,if_neg h1,if_pos h]
theorem zcZ{m:zF}(h1:¬m.vars.length=0)(h2:¬(6<m.vars.length∨8<m.cons.length))(h:Qp m.vars≠0):wN m=Qp m.vars:=by rw[wN,if_neg h1,if_neg h2,if_pos h]
theorem zc0{m:zF}(h1:¬m.vars.length=0)(h2:¬(6<m.vars.length∨8<m.cons.length))(h3:¬Qp m.vars≠0)(h:wL (λ_ c=>Yu m.vars.length c) 0 m.cons≠0):wN m=wL (λ_ c=>Yu m.vars.length c) 0 m.cons:=by rw[wN,if_neg h1,if_neg h2,if_neg h3,if_pos h]
theorem zc1{m:zF}(h1:¬m.vars.length=0)(h2:¬(6<m.vars.length∨8<m.cons.length))(h3:¬Qp m.vars≠0)(h:¬wL (λ_ c=>Yu m.vars.length c) 0 m.cons≠0):wN m=VA m:=by rw[wN,if_neg h1,if_neg h2,if_neg h3,if_neg h]
theorem zbd{m:zF}(h:fh m.goal 0 2=false):VA m=7:=by rw[VA,if_pos h]
theorem zhw{m:zF}(h1:¬fh m.goal 0 2=false)(h:m.goal=0)(h2:m.var≠0):VA m=1:=by rw[VA,if_neg h1,if_pos ⟨h,h2⟩]
theorem zhx{m:zF}(h1:¬fh m.goal 0 2=false)(h:m.goal=0)(h2:¬m.var≠0):VA m=0:=by rw[VA,if_neg h1,if_neg (λx=>h2 x.2),if_neg (λx=>x.1 h)]
theorem zhy{m:zF}(h1:¬fh m.goal 0 2=false)(h:¬m.goal=0)(h2:qC m.vars.length m.var=true):VA m=5:=by rw[VA,if_neg h1,if_neg (λx=>h x.1),if_pos ⟨h,h2⟩]
theorem zhz{m:zF}(h1:¬fh m.goal 0 2=false)(h:¬m.goal=0)(h2:¬qC m.vars.length m.var=true):VA m=0:=by rw[VA,if_neg h1,if_neg (λx=>h x.1),if_neg (λx=>h2 x.2)]
theorem eM(m:zF):wO ot [dM m] (dI (wN m)):=
 Gk m λok=>by
  rw[Df];refine zA (λe=> ?_) λe1=>zA (λe=> ?_) λe2=>zA (λe=> ?_) λe3=> ?_
  ·exact wG (zcY (by simp at e;simp[e]))
  ·simp at e1 e;exact wG (LC (by simp[e1]) (.inl (by omega)))
  ·simp at e1 e;exact wG (LC (by simp[e1]) (.inr (by omega)))
  simp at e1 e2 e3
  have k1:¬m.vars.length=0:=by simp[e1]
  have k2:¬(6<m.vars.length∨8<m.cons.length):=by omega
  refine zE (Bn _) (zA (λe=> ?_) λe=> ?_)
  ·exact wG (zcZ k1 k2 (xO e))
  have k3:¬Qp m.vars≠0:=not_not_intro (zU e);refine C8 (I:=λn v=>ZN m _ n v) m.cons (λ_ c=>Yu m.vars.length c) (by omega) (X:=λx=>D.int .i64 x=dI (wN m)) (Y:=D.int .i64 (VA m)=dI (wN m)) (λh=>wG (zc0 k1 k2 k3 h)) (λe=>wG (zc1 k1 k2 k3 (not_not_intro e))) (λn k h _ hX hn=> ?_) λn hY=> ?_
  ·rw[VJ,zR h,zP (t:=.con) h]
   exact⟨zI h,zE (zbc m _ (by omega)) (zA (λe=>hX (xO e)) λe=>hn (zU e))⟩
  ·rw[VJ,zO,←hY]
   rw[tR (by omega) (by omega)]
   refine zA (λe=> ?_) λe1=>zA (λe=> ?_) λe2=> ?_
   ·rw[zbd (qS.2 (.inl (of_decide_eq_true e)))]
   ·rw[zbd (qS.2 (.inr (of_decide_eq_true e)))]
   have k4:¬fh m.goal 0 2=false:=by rw[qS];simp at e1 e2;omega
   refine zA (λe=>zA (λf=> ?_) λf=> ?_) λe=> ?_
   ·rw[zhw k4 (by simpa using e) (by simpa using f)]
   ·have e':m.goal=0:=by simpa using e
    rw[e'];rw[zhx k4 e' (by simpa using f)];exact rfl
   ·have e':¬m.goal=0:=by simpa using e
    rw[e];refine zE (nP _ _ _) (zA (λf=> ?_) λf=> ?_)
    ·rw[zhy k4 e' f]
    ·rw[zhz k4 e' (by show¬(!fh _ _ _)=true;rw[f];decide)]
end Go.Proofs.YteimklbiapnfhaaGreat
namespace Go.Proofs.YteimklbiapnfhaaGreat
open Go.RowKit
set_option linter.unusedVariables false
set_option linter.unusedSimpArgs false
variable[Lo]
theorem Yk(m:zF)(l:zC)(hm:m.vars.length≤1000):wO rV [dM m,dL l] (dI (jF m.vars.length l)):=
 Sg m l λok=>by
  rw[RK,tR (by omega) (by omega)]
  refine zE (wW _ _ _) (zA (λe=> ?_) λe1=>zE (wW _ _ _) (zA (λe=> ?_) λe2=>zE (kW _) (zA (λe=> ?_) λe3=> ?_)))
  ·exact wG (by rw[jF,if_pos (show qC m.vars.length l.var=true from e)])
  ·have h1:¬qC m.vars.length l.var=true:=by show¬(!fh _ _ _)=true;rw[e1];decide
   exact wG (by rw[jF,if_neg h1,if_pos (by simpa using e)])
  all_goals
   have h1:¬qC m.vars.length l.var=true:=by show¬(!fh _ _ _)=true;rw[e1];decide
   have h2:¬fh l.op 1 4=false:=by simpa using e2
  ·exact wG (by rw[jF,if_neg h1,if_neg h2,if_pos (show farB l.n=true from e)])
  ·exact wG (by rw[jF,if_neg h1,if_neg h2,if_neg (by show¬(!fh _ _ _)=true;rw[e3];decide)])
theorem Bo(c:zQ)(h:c.kind=6)(hn:c.n=0)(b:Bool)(hb:(c.rows.all λr=>decide (r.length=c.vars.length))=b):fP c=(b&&decide (1≤c.vars.length)&&decide (c.consts.length=0)&&decide (c.lits.length=0)):=by
 simp[fP,h,hn,hb]
theorem Sr(c:zQ)(h1:1≤c.kind)(h2:c.kind≤10):wO lL [dC c] (dB (fP c)):=
 U2 c λok=>by
  have okr:c.rows.length≤9223372036854775807:=za1 (t:=.list .int) (okA (i:=4) (WD ok) rfl);rw[Sp];have hk:c.kind=1∨c.kind=2∨c.kind=3∨c.kind=4∨c.kind=5∨c.kind=6∨c.kind=7∨c.kind=8∨c.kind=9∨c.kind=10:=by omega
  rcases hk with h|h|h|h|h|h|h|h|h|h
  case inr.inr.inr.inr.inr.inl=>
   simp only[h,Int.reduceLT,Int.reduceEq,decide_true,decide_false,EW,Jt];refine zA (λe=> ?_) λe=> ?_
   ·simp at e;simp[fP,h,e]
   have e:c.n=0:=by simpa using e
   refine OZ (I:=λn v=>mS c _ n v) c.rows (λr=> !decide ((r.length:Int)=(c.vars.length:Int))) okr (X:=D.bool false=dB (fP c)) (Y:=zN (decide (1≤(c.vars.length:Int))) (zN (decide ((c.consts.length:Int)=0)) (D.bool (decide ((c.lits.length:Int)=0))=dB (fP c)) (D.bool false=dB (fP c))) (D.bool false=dB (fP c))) ?_ (λn k hk hX hn=> ?_) λn hY=> ?_
   ·have ha:(c.rows.all λr=>decide (r.length=c.vars.length))= !(c.rows.any λr=> !decide ((r.length:Int)=(c.vars.length:Int))):=by
     rw[List.all_eq_not_any_not];congr 2;funext r;congr 1;exact decide_eq_decide.2 (by omega)
    rw[Bo c h e _ ha];refine zA (λe=> ?_) λe=> ?_
    ·rw[e];rfl
    ·rw[e];(repeat'(refine zA (λ_=> ?_) (λ_=> ?_)))<;>simp_all<;>omega
   ·rw[cL,zR hk,zP (t:=.list .int) hk]
    exact⟨zI hk,zA hX hn⟩
   ·rw[cL,zO];exact hY
  all_goals
   simp only[h,Int.reduceLT,Int.reduceEq,decide_true,decide_false,EW,Jt]
   (repeat'(refine zA (λ_=> ?_) (λ_=> ?_)))<;>simp_all[fP]<;>first|omega|(rw[Bool.eq_iff_iff];simp;omega)
theorem zhA{nv:Nat}{l:zC}(h:qC nv l.var=false):jF nv l=opE l:=by rw[jF,if_neg (by rw[h];decide)];rfl
theorem ziU{α:Type}{p:α→Bool}{l:List α}(h:l.any p=false){k:Nat}(hk:k<l.length):p l[k]=false:=by
 rw[List.any_eq_false]at h
 simpa using h _ (List.getElem_mem hk)
theorem RT(m:zF)(c:zQ)(hm:m.vars.length≤6):wO kO [dM m,dC c] (dI (Yu m.vars.length c)):=
 Sf m c λok=>by
  have hm':m.vars.length≤9223372036854775807:=by omega
  have okr:c.rows.length≤9223372036854775807:=za1 (t:=.list .int) (okA (i:=4) (WD (okR ok)) rfl);have okr2:∀k (h:k<c.rows.length),c.rows[k].length≤9223372036854775807:=λk h=>fq (t:=.int) ((mC (t:=.list .int) (okA (i:=4) (WD (okR ok)) rfl)).2 _ (List.getElem_mem h))
  rw[RJ];refine zE (wW _ _ _) (zA (λe=> ?_) λe1=> ?_)
  ·exact wG (zbb (by simpa using e))
  have k1:¬fh c.kind 1 10=false:=by simpa using e1
  obtain⟨h1,h2⟩:1≤c.kind∧c.kind≤10:=by simpa[fh]using e1
  refine zA (λe=> ?_) λe3=>zA (λe=> ?_) λe4=>zA (λe=> ?_) λe5=>zA (λe=> ?_) λe6=> ?_
  iterate 4 (exact wG (zeG k1 (by simp at e;simp[Vz];omega)))
  simp at e3 e4 e5 e6
  have k2:¬Vz c=true:=by simp[Vz];omega
  refine zE (Sr c h1 h2) (zA (λe=> ?_) λe=> ?_)
  ·exact wG (zeH k1 k2 (by simpa using e))
  have k3:¬fP c=false:=by simpa using e
  refine Jz (I:=λn v=>lU m c _ n v) c.vars (qC m.vars.length) (by omega) (X:=D.int .i64 5=dI (Yu m.vars.length c)) (λe=>wG (Dt k1 k2 k3 (by rw[e];rfl))) (λn k h hX hn=> ?_) λe7 n=> ?_
  ·rw[bM,zR h,zP (t:=.int) h,tR (by omega) (by omega)]
   exact⟨zI h,zE (wW _ _ _) (zA hX hn)⟩
  rw[bM,zO];refine Jz (I:=λn v=>lT m c _ n v) c.lits (λl=>qC m.vars.length l.var) (by omega) (X:=D.int .i64 5=dI (Yu m.vars.length c)) (λe=>wG (Dt k1 k2 k3 (by rw[e,Bool.or_true]))) (λn k h hX hn=> ?_) λe8 n=> ?_
  ·rw[bL,zR h,zP (t:=.lit) h,tR (by omega) (by omega)]
   exact⟨zI h,zE (wW _ _ _) (zA hX hn)⟩
  rw[bL,zO];have k4:¬(c.vars.any (qC m.vars.length)||c.lits.any λl=>qC m.vars.length l.var)=true:=by rw[e7,e8];decide
  refine Jz (I:=λn v=>lS m c _ n v) c.consts farB (by omega) (X:=D.int .i64 3=dI (Yu m.vars.length c)) (λe=>wG (Ml k1 k2 k3 k4 (by rw[e];rfl))) (λn k h hX hn=> ?_) λe9 n=> ?_
  ·rw[bK,zR h,zP (t:=.int) h]
   exact⟨zI h,zE (kW _) (zA hX hn)⟩
  rw[bK,zO];refine zE (kW _) (zA (λe=> ?_) λe10=> ?_)
  ·exact wG (Ml k1 k2 k3 k4 (by rw[show farB c.n=true from e,Bool.or_true];rfl))
  refine Jz (I:=λn v=>lR m c _ n v) c.rows (λr=>r.any farB) okr (X:=D.int .i64 3=dI (Yu m.vars.length c)) (λe=>wG (Ml k1 k2 k3 k4 (by rw[e,Bool.or_true]))) (λn k h hX hn=> ?_) λe11 n=> ?_
  ·rw[bJ,zR h]
   refine Jz (I:=λn2 v=>lQ m c _ n k n2 v) c.rows[k] farB (okr2 k h) hX (λn2 j hj hX2 hn2=> ?_) λe n2=> ?_
   ·rw[bI,zP (t:=.list .int) h,zR hj,zP (t:=.int) hj]
    exact⟨zI h,zI h,zI hj,zE (kW _) (zA hX2 hn2)⟩
   ·rw[bI,zP (t:=.list .int) h,zO]
    exact⟨zI h,hn e⟩
  rw[bJ,zO];have k5:¬(c.consts.any farB||farB c.n||c.rows.any λr=>r.any farB)=true:=by rw[e9,e11,show farB c.n=false from e10];decide
  rw[zeI k1 k2 k3 k4 k5];refine C8 (I:=λn v=>mQ m c _ n v) c.lits (λ_ l=>opE l) (by omega) (X:=λx=>D.int .i64 x=dI (wL (λ_ l=>opE l) 0 c.lits)) (Y:=D.int .i64 0=dI (wL (λ_ l=>opE l) 0 c.lits)) (λ_=>rfl) (λe=>wG e) (λn k h _ hX hn=> ?_) λn hY=> ?_
  ·rw[cJ,zR h,zP (t:=.lit) h]
   have:=Yk m c.lits[k] (by omega)
   rw[zhA (ziU e8 h)]at this
   exact⟨zI h,zE this (zA (λe=>hX (xO e)) λe=>hn (zU e))⟩
  ·rw[cJ,zO];exact hY
theorem U6(m:zF):wO mH [dM m] (dI (wN m)):=
 V8 m λok=>by
  rw[UV];refine zA (λe=> ?_) λe1=>zA (λe=> ?_) λe2=>zA (λe=> ?_) λe3=> ?_
  ·exact wG (zcY (by simp at e;simp[e]))
  ·simp at e1 e;exact wG (LC (by simp[e1]) (.inl (by omega)))
  ·simp at e1 e;exact wG (LC (by simp[e1]) (.inr (by omega)))
  simp at e1 e2 e3
  have k1:¬m.vars.length=0:=by simp[e1]
  have k2:¬(6<m.vars.length∨8<m.cons.length):=by omega
  refine zoJ (I:=λn v=>o8 m _ n v) m.vars (λi v=>C4 (m.vars.take i) v) (by omega) (X:=λx=>D.int .i64 x=dI (wN m)) (λh=>wG (zcZ k1 k2 h)) (λn k h _ hX hn=> ?_) λe n=> ?_
  ·rw[eD,zR h,zP (t:=.var) h]
   refine⟨zI h,zE (O9 _) (zA (λe=> ?_) λe=> ?_)⟩
   ·rw[zkU (by simpa using e)]at hX;exact hX (by decide)
   have k3:¬aA m.vars[k].name=false:=by simpa using e
   have hl:(m.vars.take k).length=k:=by rw[List.length_take];omega
   refine Jz (I:=λn2 v=>o6 m _ n k n2 v) (m.vars.take k) (λu=>u.name.toList==m.vars[k].name.toList) (by omega) (X:=D.int .i64 6=dI (wN m)) (λe=> ?_) (λn2 j hj hX2 hn2=> ?_) λe n2=> ?_
   ·rw[zkV k3 e]at hX;exact hX (by decide)
   ·rw[hl]at hj
    rw[eB,zR hj,zP (t:=.var) h,zP (t:=.var) (show j<m.vars.length by omega),←TX]
    rw[List.getElem_take]at hX2 hn2
    exact⟨zI (by omega),zA hX2 hn2⟩
   rw[hl,eB,zO,zP (t:=.var) h];rw[zkW k3 (by rw[e];decide)]at hX hn
   refine zE (wW _ _ _) (zA (λe=> ?_) λe1=>zE (wW _ _ _) (zA (λe=> ?_) λe2=>(zA (λe=> ?_) λe3=> ?_)))
   ·rw[zkX e]at hX;exact hX (by decide)
   ·rw[zkY e]at hX;exact hX (by decide)
   ·rw[zkZ e]at hX;exact hX (by decide)
   rw[zk0 e1 e2 e3]at hX hn
   simp[fh]at e1 e2
   rw[tR (n:=m.vars[k].hi-m.vars[k].lo) (by omega) (by omega),tR (n:=_+1) (by omega) (by omega)]
   refine zA (λe=> ?_) λe=> ?_
   ·rw[if_pos (by have:=of_decide_eq_true e;omega)]at hX;exact hX (by decide)
   ·exact hn (if_neg (by have:=of_decide_eq_false e;omega))
  rw[eD,zO];have k3:¬Qp m.vars≠0:=not_not_intro e;refine zoJ (I:=λn v=>o7 m _ n v) m.cons (λ_ c=>Yu m.vars.length c) (by omega) (X:=λx=>D.int .i64 x=dI (wN m)) (λh=>wG (zc0 k1 k2 k3 h)) (λn k h _ hX hn=> ?_) λe n=> ?_
  ·rw[eC,zR h,zP (t:=.con) h]
   exact⟨zI h,zE (RT m _ (by omega)) (zA (λe=>hX (xO e)) λe=>hn (zU e))⟩
  rw[eC,zO,zc1 k1 k2 k3 (not_not_intro e),tR (by omega) (by omega)]
  refine zE (wW _ _ _) (zA (λe=> ?_) λe=> ?_)
  ·rw[zbd (by simpa using e)]
  have k4:¬fh m.goal 0 2=false:=by simpa using e
  refine zA (λe=>zA (λf=> ?_) λf=> ?_) λe=> ?_
  ·rw[zhw k4 (by simpa using e) (by simpa using f)]
  ·have e':m.goal=0:=by simpa using e
   rw[e'];rw[zhx k4 e' (by simpa using f)];exact rfl
  ·have e':¬m.goal=0:=by simpa using e
   rw[e];refine zE (wW _ _ _) (zA (λf=> ?_) λf=> ?_)
   ·rw[zhy k4 e' f]
   ·rw[zhz k4 e' (by show¬(!fh _ _ _)=true;rw[f];decide)]
end Go.Proofs.YteimklbiapnfhaaGreat
namespace Go.Proofs.YteimklbiapnfhaaGreat
open Go.RowKit
set_option linter.unusedVariables false
set_option linter.unusedSimpArgs false
variable[Lo]
variable {w:World}{S:Nat→Prop}{v:Value}
theorem zmC{t:Ty}{x:t.den}(hn:(cells t x).length≠1)(h:cB w S v x):Rp w S v (.agg (cells t x)):=by
 obtain⟨cs,rfl,h⟩:=h;have a1:=(cW t h).len;have a2:=λi d hd=>(cW t h).at (i:=i) (b:=d) hd
 have e:vOf cs=.agg cs.toArray:=by
  match cs,a1 with
  |[],_=>rfl
  |[u],a1=>exact absurd a1.symm hn
  |a::b::l,_=>rfl
 rw[e];refine .agg _ _ (by simpa using a1) λi d hd=> ?_
 obtain⟨u,hu,hr⟩:=a2 i d hd;have:cs.toArray.getD i Go.undef=u:=by simp[Array.getD_eq_getD_getElem?,hu]
 rw[this];exact hr
theorem zmD{m:zF}(h:Rds w v m):Rp w (λb=>b<w.heap.size) v (dM m):=zmC (t:=.mdl) (x:=m) (by show 4≠1;decide) h
theorem Av{s:List (List Int)}(h:Rds w v s):Rp w (λb=>b<w.heap.size) v (dS s):=.sl (.list .int) s v h
theorem zeJ{s:List zC}(h:Rds w v s):Rp w (λb=>b<w.heap.size) v (.sl .lit s):=.sl .lit s v h
theorem zc2{s:List (List zC)}(h:Rds w v s):Rp w (λb=>b<w.heap.size) v (.sl (.list .lit) s):=.sl (.list .lit) s v h
theorem zmE{n:Int}(h:vK n):Rp w S (.int .i64 n) (.int .i64 n):=.int .i64 n h
theorem zk1{P:Program}(h:P.globalNamed "internal/strconv.uint64pow10" =none){w:World}{O:Nat→Prop}(hl:∀b,w.heap.size≤b→Lo.new b)(ho:∀b,O b→Lo.new b):GOk P w O:=⟨λg hg=>(by rw[h]at hg;cases hg),hl,ho⟩
theorem mB.calls{P:Program}{f:FuncId}{args:List D}{b:Bool}(h:mB P f args (.bool b))(W:World){vl:List Value}(hv:xH (Rp W λb=>b<W.heap.size) vl args)(hg:GOk P W λ_=>False):
  Calls P f vl.toArray W λe W'=>e=.returned (.bool b)∧Below W.heap.size W W':=by
 have h1:=hv.len;have h2:=λi d hd=>hv.at (i:=i) (b:=d) hd
 refine(h W _ vl.toArray (λ_ h=>h) (by simpa using h1) (λi d hd=> ?_) hg).mono λe w' ⟨v,he,hr,hb⟩=> ?_
 ·obtain⟨u,hu,hr⟩:=h2 i d hd
  have:vl.toArray.getD i Go.undef=u:=by simp[Array.getD_eq_getD_getElem?,hu]
  rw[this];exact hr
 ·cases hr
  exact⟨he,hb⟩
end Go.Proofs.YteimklbiapnfhaaGreat
namespace Go.Proofs.YteimklbiapnfhaaGreat
open Go.RowKit
set_option linter.unusedVariables false
set_option linter.unusedSimpArgs false
set_option maxRecDepth 100000
variable[Lo]
def ZR:xJ:= {own:=[],live:=[],n:=77}
theorem U7(R:yC):FD ZR Tryz.f4 [] R=
 (zX xG [] .mdl λc=>
 Lq ol [dM c] (.list (.list .int)) .int λa d=>
 zX xG [] .mdl λe=>
 Lq mG [dM e,dS a,dS ([[1],[0,2]])] (.list (.list .int)) .int λb f=>
 zX xG [] .mdl λg=>
 Lq fR [dM g,dS b,dS a] .bool .int λh i=>
 zX xG [] .mdl λj=>
 Lq fS [dM j,dS a] .bool .int λk l=>
 zN (decide (d=0))
 (zN (decide (f=0))
 (zN (decide (i=0))
 (zN (decide (l=0))
 (zX yI [dS a,dS ([[0,1,2],[0,1,2]])] .bool λm=>
 zN m
 (zX yI [dS b,dS ([[1],[0,2]])] .bool λn=>
 zN n
 (zN h
 (zN (!k)
 (zX xG [] .mdl λo=>
 zX rB [dM o,dS b] .int λp=>
 R (dB (decide (p=0))))
 (R (dB false)))
 (R (dB false)))
 (R (dB false)))
 (R (dB false)))
 (R (dB false)))
 (R (dB false)))
 (R (dB false)))
 (R (dB false))):=by kernel_rfl
theorem Uj:yY ZR Tryz.f4 mD []:=xA Tryz.func4 (by kernel_rfl) Tryz.ntmps4 rfl
def Zh:xJ:= {own:=[],live:=[],n:=20}
theorem Uk(R:yC):FD Zh Tryz.f5 [] R=
 (zX xG [] .mdl λa=>
 Lq rK [dM a,dI 0,dS ([[0,1,2],[0,1,2]])] (.list (.list .int)) .int λb c=>
 zN (decide (c=0))
 (zX yI [dS b,dS ([[0,1],[1,2]])] .bool λd=>
 R (dB d))
 (R (dB false))):=by kernel_rfl
theorem Vh:yY Zh Tryz.f5 o3 []:=xA Tryz.func5 (by kernel_rfl) Tryz.ntmps5 rfl
def Zi:xJ:= {own:=[],live:=[],n:=69}
theorem Ul(R:yC):FD Zi Tryz.f6 [] R=
 (zX xG [] .mdl λa=>
 Lq fT [dM a,.sl .lit ([(⟨0,3,2⟩:zC),(⟨1,2,1⟩:zC)]),.sl .int ([0,1])] .bool .int λb c=>
 zX xG [] .mdl λd=>
 Lq om [dM d,dS ([[0,1],[0,1,2]]),.sl .lit ([(⟨0,3,2⟩:zC),(⟨1,2,1⟩:zC)])] (.list (.list .int)) .int λe f=>
 zX xG [] .mdl λg=>
 Lq oo [dM g,dS ([[0,1],[0,1,2]]),.sl .lit ([(⟨0,3,2⟩:zC),(⟨1,2,1⟩:zC)])] (.list (.list .int)) .int λh i=>
 zX xG [] .mdl λj=>
 zX jX [dM j,.sl .lit ([(⟨0,3,2⟩:zC),(⟨1,2,1⟩:zC)])] .int λk=>
 zN (decide (k=0))
 (zN (decide (c=0))
 (zN (decide (f=0))
 (zN (decide (i=0))
 (zN b
 (zX yI [dS e,dS ([[0,1],[1,2]])] .bool λl=>
 zN l
 (zX yI [dS h,dS ([[0,1],[0]])] .bool λm=>
 R (dB m))
 (R (dB false)))
 (R (dB false)))
 (R (dB false)))
 (R (dB false)))
 (R (dB false)))
 (R (dB false))):=by kernel_rfl
theorem Vi:yY Zi Tryz.f6 o4 []:=xA Tryz.func6 (by kernel_rfl) Tryz.ntmps6 rfl
def Xk:xJ:= {own:=[],live:=[],n:=66}
theorem RU(R:yC):FD Xk Tryz.f7 [] R=
 (zX xG [] .mdl λa=>
 Lq hD [dM a,dS ([[0,1,2],[0,1,2]])] (.list (.list .int)) .int λb c=>
 zX xG [] .mdl λd=>
 Lq Xc [dM d,dS ([[0,1,2],[0,1,2]]),.sl (.list .lit) ([[(⟨1,1,1⟩:zC)]])] (.list (.list .int)) .int λe f=>
 zX xG [] .mdl λg=>
 Lq iZ [dM g,dS ([[0,1,2],[0,1,2]]),.sl (.list .lit) ([[(⟨1,1,1⟩:zC)]])] (.list (.list .int)) .int λh i=>
 zN (decide (c=0))
 (zN (decide (f=0))
 (zN (decide (i=0))
 (zX yI [dS b,dS ([[0,1],[1,2]])] .bool λj=>
 zN j
 (zX yI [dS e,dS ([[0,1,2],[0,1]])] .bool λk=>
 zN k
 (zX yI [dS h,dS ([[0],[1]])] .bool λl=>
 R (dB l))
 (R (dB false)))
 (R (dB false)))
 (R (dB false)))
 (R (dB false)))
 (R (dB false))):=by kernel_rfl
theorem Ss:yY Xk Tryz.f7 kK []:=xA Tryz.func7 (by kernel_rfl) Tryz.ntmps7 rfl
def bN:xJ:= {own:=[],live:=[],n:=67}
theorem Vj(R:yC):FD bN Tryz.f8 [] R=
 (zX xG [] .mdl λa=>
 c3Q qG [dM a,dI 0,dS ([[0,1,2],[0,1]]),dI 0,dI 1] (.list .lit) .bool .int λb c d=>
 zX xG [] .mdl λe=>
 c3Q qG [dM e,dI 0,dS ([[0,1,2],[0,1]]),dI 0,dI 0] (.list .lit) .bool .int λl f g=>
 zX xG [] .mdl λh=>
 c3Q sH [dM h,dI 0,dS ([[2],[0]])] (.list .lit) .bool .int λi j k=>
 zN (decide (d=0))
 (zN (decide (g=0))
 (zN (decide (k=0))
 (zN c
 (zN (!f)
 (zN j
 (zN (decide ((b.length:Int)=2))
 (R (dB (decide (0<(i.length:Int)))))
 (R (dB false)))
 (R (dB false)))
 (R (dB false)))
 (R (dB false)))
 (R (dB false)))
 (R (dB false)))
 (R (dB false))):=by kernel_rfl
theorem WN:yY bN Tryz.f8 og []:=xA Tryz.func8 (by kernel_rfl) Tryz.ntmps8 rfl
def ZS:xJ:= {own:=[],live:=[],n:=75}
theorem U8(R:yC):FD ZS Tryz.f9 [] R=
 (zX xG [] .mdl λc=>
 c3Q rA [dM c,.sl (.list .lit) ([]:List (List zC)),.sl .lit ([(⟨1,1,0⟩:zC)])] (.list .lit) .bool .int λb d e=>
 zX xG [] .mdl λf=>
 c3Q rA [dM f,.sl (.list .lit) ([]:List (List zC)),.sl .lit ([]:List zC)] (.list .lit) .bool .int λn g h=>
 zX xG [] .mdl λi=>
 c3Q oq [dM i,.sl (.list .lit) ([]:List (List zC)),.sl .lit ([(⟨1,1,0⟩:zC)])] (.list .step) .bool .int λa j k=>
 zN (decide (e=0))
 (zN (decide (h=0))
 (zN (decide (k=0))
 (zN d
 (zN (!g)
 (zN j
 (zX wR [.sl .lit b,.sl .lit ([(⟨1,2,1⟩:zC)])] .bool λl=>
 zN l
 (zN (decide (0<(a.length:Int)))
 (wC (xF ((a.length:Int)-1)) a.length=true∧
 zX wR [.sl .lit ((zG .step a ((xF ((a.length:Int)-1)).toNat)).clause),.sl .lit b] .bool λm=>
 R (dB m))
 (R (dB false)))
 (R (dB false)))
 (R (dB false)))
 (R (dB false)))
 (R (dB false)))
 (R (dB false)))
 (R (dB false)))
 (R (dB false))):=by kernel_rfl
theorem Um:yY ZS Tryz.f9 mE []:=xA Tryz.func9 (by kernel_rfl) Tryz.ntmps9 rfl
def nH:xJ:= {own:=[3,12,17,19],live:=[(0,([0,3,4],[3]))],n:=21}
def oD(a:List (List Int))(R:yC)(b:Nat)(c:Int)(d:List (List Int)):Prop:=LP nH Tryz.f11 [1,1,0,1,0,0] 0 b ⟨[(0,dS a),(3,.own 3),(4,dI c)],[(3,.row 62 (.list .int) d)]⟩ (zH 0 (sK nH Tryz.f11 [1,1,1] 0 (eK Tryz.f11 R)))
theorem X1(a:List (List Int))(R:yC)(d:Nat)(b:Int)(c:List (List Int)):oD a R (d+1) b c=
 (zN (decide (b<(a.length:Int)))
 (wC b a.length=true∧
 zL .int (([]:List Int).length+(zG (.list .int) a b.toNat).length)=true∧
 zL (.list .int) (c.length+([([]:List Int)++(zG (.list .int) a b.toNat)]).length)=true∧
 oD a R d (xF (b+1)) (c++([([]:List Int)++(zG (.list .int) a b.toNat)])))
 (R (dS c))):=by kernel_rfl
theorem Un(a:List (List Int))(R:yC):FD nH Tryz.f11 [dS a] R=
 (∃n0,oD a R n0 0 ([]:List (List Int))):=by kernel_rfl
theorem Vk(a:List (List Int)):yY nH Tryz.f11 rT [dS a]:=xA Tryz.func11 (by kernel_rfl) Tryz.ntmps11 rfl
def pF:xJ:= {own:=[3,12,17,19],live:=[(0,([0,3,4],[3]))],n:=21}
def qM(a:List (List zC))(R:yC)(b:Nat)(c:Int)(d:List (List zC)):Prop:=LP pF Tryz.f12 [1,1,0,1,0,0] 0 b ⟨[(0,.sl (.list .lit) a),(3,.own 3),(4,dI c)],[(3,.row 45 (.list .lit) d)]⟩ (zH 0 (sK pF Tryz.f12 [1,1,1] 0 (eK Tryz.f12 R)))
theorem Xl(a:List (List zC))(R:yC)(d:Nat)(b:Int)(c:List (List zC)):qM a R (d+1) b c=
 (zN (decide (b<(a.length:Int)))
 (wC b a.length=true∧
 zL .lit (([]:List zC).length+(zG (.list .lit) a b.toNat).length)=true∧
 zL (.list .lit) (c.length+([([]:List zC)++(zG (.list .lit) a b.toNat)]).length)=true∧
 qM a R d (xF (b+1)) (c++([([]:List zC)++(zG (.list .lit) a b.toNat)])))
 (R (.sl (.list .lit) c))):=by kernel_rfl
theorem WO(a:List (List zC))(R:yC):FD pF Tryz.f12 [.sl (.list .lit) a] R=
 (∃n0,qM a R n0 0 ([]:List (List zC))):=by kernel_rfl
theorem X2(a:List (List zC)):yY pF Tryz.f12 pC [.sl (.list .lit) a]:=xA Tryz.func12 (by kernel_rfl) Tryz.ntmps12 rfl
def ZT:xJ:= {own:=[],live:=[],n:=14}
theorem U9(a:zF)(b:List (List Int))(R:yC):FD ZT Tryz.f13 [dM a,dS b] R=
 (zX mH [dM a] .int λc=>
 zN (decide (c=0))
 (zX mI [dM a,dS b] .int λd=>
 R (dI d))
 (R (dI c))):=by kernel_rfl
theorem Uo(a:zF)(b:List (List Int)):yY ZT Tryz.f13 mF [dM a,dS b]:=xA Tryz.func13 (by kernel_rfl) Tryz.ntmps13 rfl
def XK:xJ:= {own:=[],live:=[],n:=19}
theorem QR(b:List (List Int))(c a:Int)(d:List (List Int))(R:yC):FD XK Tryz.f29 [dS b,dI c,dI a,dS d] R=
 (zN (!decide (a=0))
 (zN (decide (c=a))
 (zX yI [dS b,dS ([]:List (List Int))] .bool λe=>
 R (dB e))
 (R (dB false)))
 (zN (decide (c=a))
 (zX yI [dS b,dS d] .bool λf=>
 R (dB f))
 (R (dB false)))):=by kernel_rfl
theorem RV(a:List (List Int))(b c:Int)(d:List (List Int)):yY XK Tryz.f29 nS [dS a,dI b,dI c,dS d]:=xA Tryz.func29 (by kernel_rfl) Tryz.ntmps29 rfl
def Rk:xJ:= {own:=[0],live:=[],n:=9}
theorem J0(R:yC):FD Rk Tryz.f33 [] R=
 (R (.agg [.sl .var ([(⟨(⟨#[120]⟩:ByteArray),0,2⟩:vF),(⟨(⟨#[121]⟩:ByteArray),0,2⟩:vF)]),.sl .con ([(⟨1,[0,1],[1,-1],-1,([]:List (List Int)),([]:List zC)⟩:zQ)]),dI 1,dI 1])):=by kernel_rfl
theorem LD:yY Rk Tryz.f33 xG []:=xA Tryz.func33 (by kernel_rfl) Tryz.ntmps33 rfl
end Go.Proofs.YteimklbiapnfhaaGreat
namespace Go.Proofs.YteimklbiapnfhaaGreat
open Go.RowKit
set_option linter.unusedVariables false
set_option linter.unusedSimpArgs false
set_option maxRecDepth 100000
variable[Lo]
def Hw:xJ:= {own:=[],live:=[],n:=35}
theorem zbe(b:zF)(a:zC)(R:yC):FD Hw Tryz.f76 [dM b,dL a] R=
 (zN (decide (a.var<0))
 (R (dI 5))
 (zN (decide ((b.vars.length:Int)≤a.var))
 (R (dI 5))
 (zN (decide (a.op<1))
 (R (dI 7))
 (zN (decide (4<a.op))
 (R (dI 7))
 (zN (decide (a.n<(-1000)))
 (R (dI 3))
 (zN (decide (1000<a.n))
 (R (dI 3))
 (R (dI 0)))))))):=by kernel_rfl
theorem Bp(a:zF)(b:zC):yY Hw Tryz.f76 Ze [dM a,dL b]:=xA Tryz.func76 (by kernel_rfl) Tryz.ntmps76 rfl
def Su:xJ:= {own:=[],live:=[(0,([0,3,5,12,13,14],[]))],n:=35}
def Xm(b:List (List Int))(a:zC)(R:yC)(c:Nat)(d e:Int):Prop:=LP Su Tryz.f103 [1,1,0,1,0,0] 0 c ⟨[(0,dS b),(3,.iptr [dI a.var,dI a.op,dI a.n] 0),(5,dI d),(12,.sl .int (zG (.list .int) b a.var.toNat)),(13,dI ((zG (.list .int) b a.var.toNat).length:Int)),(14,dI e)],[]⟩ (zH 0 (sK Su Tryz.f103 [1,1,1] 0 (eK Tryz.f103 R)))
theorem Du(b:List (List Int))(a:zC)(R:yC)(e:Nat)(d c:Int):Xm b a R (e+1) d c=
 (zN (decide (c<((zG (.list .int) b a.var.toNat).length:Int)))
 (wC c (zG (.list .int) b a.var.toNat).length=true∧
 zX kN [dL a,dI (zG .int (zG (.list .int) b a.var.toNat) c.toNat)] .bool λf=>
 zN f
 (Xm b a R e (xF (d+1)) (xF (c+1)))
 (Xm b a R e d (xF (c+1))))
 (zN (decide (d=0))
 (R (dI (-1)))
 (wC a.var b.length=true∧
 zN (decide (d=((zG (.list .int) b a.var.toNat).length:Int)))
 (R (dI 1))
 (R (dI 0))))):=by kernel_rfl
theorem zc3(a:List (List Int))(b:zC)(R:yC):FD Su Tryz.f103 [dS a,dL b] R=
 (wC b.var a.length=true∧
 ∃n0,Xm a b R n0 0 0):=by kernel_rfl
theorem zbf(a:List (List Int))(b:zC):yY Su Tryz.f103 Yv [dS a,dL b]:=xA Tryz.func103 (by kernel_rfl) Tryz.ntmps103 rfl
def Hx:xJ:= {own:=[],live:=[],n:=9}
theorem zbg(a:zF)(b:zC)(R:yC):FD Hx Tryz.f113 [dM a,dL b] R=
 (zX lF [dL b] .lit λc=>
 zX Ze [dM a,dL c] .int λd=>
 R (dI d)):=by kernel_rfl
theorem Bq(a:zF)(b:zC):yY Hx Tryz.f113 VC [dM a,dL b]:=xA Tryz.func113 (by kernel_rfl) Tryz.ntmps113 rfl
def QT:xJ:= {own:=[2],live:=[],n:=33}
theorem GA(a:zC)(R:yC):FD QT Tryz.f117 [dL a] R=
 (zN (decide (a.op=1))
 (R (.agg [dI a.var,dI 2,dI (xF (a.n+1))]))
 (zN (decide (a.op=2))
 (R (.agg [dI a.var,dI 1,dI (xF (a.n-1))]))
 (zN (decide (a.op=3))
 (R (.agg [dI a.var,dI 4,dI a.n]))
 (R (.agg [dI a.var,dI 3,dI a.n]))))):=by kernel_rfl
theorem J1(a:zC):yY QT Tryz.f117 lF [dL a]:=xA Tryz.func117 (by kernel_rfl) Tryz.ntmps117 rfl
def Aw:xJ:= {own:=[],live:=[],n:=8}
theorem zeK(b:List (List Int))(a:zC)(R:yC):FD Aw Tryz.f164 [dS b,dL a] R=
 (zX xV [dS b,.clo Xd none [.iptr [dI a.var,dI a.op,dI a.n] 0]] (.list (.list .int)) λc=>
 R (dS c)):=by kernel_rfl
theorem zc4(a:List (List Int))(b:zC):yY Aw Tryz.f164 Zf [dS a,dL b]:=xA Tryz.func164 (by kernel_rfl) Tryz.ntmps164 rfl
def Hy:xJ:= {own:=[],live:=[],n:=15}
theorem zbh(b c:Int)(a:zC)(R:yC):FD Hy Tryz.f181 [dI b,dI c,.iptr [dI a.var,dI a.op,dI a.n] 0] R=
 (zN (!decide (b=a.var))
 (R (dB true))
 (zX kN [dL a,dI c] .bool λd=>
 R (dB d))):=by kernel_rfl
theorem Br(b c:Int)(a:zC):yY Hy Tryz.f181 Xd [dI b,dI c,.iptr [dI a.var,dI a.op,dI a.n] 0]:=xA Tryz.func181 (by kernel_rfl) Tryz.ntmps181 rfl
end Go.Proofs.YteimklbiapnfhaaGreat
namespace Go.Proofs.YteimklbiapnfhaaGreat
open Go.RowKit
set_option linter.unusedVariables false
set_option linter.unusedSimpArgs false
variable[Lo]
def Jg(lo:Int):Nat→List Int
 |0=>[]
 |n+1=>Jg lo n++[lo+n]
theorem aX(lo:Int):∀n,(Jg lo n).length=n
 |0=>rfl
 |n+1=>by rw[Jg,List.length_append,aX lo n];rfl
def ZU(v:vF):List Int:=Jg v.lo (v.hi+1-v.lo).toNat
def sE(m:zF):List (List Int):=m.vars.map ZU
def pP(l:List Int)(n:Int):Bool:=l.any λk=>decide (n=k)
def pZ(f:Nat→Int→Bool)(s:List (List Int)):List (List Int):=s.mapIdx λv l=>l.filter (f v)
def zk2(s t:List (List Int)):List (List Int):=pZ (λv n=>pP (t.getD v []) n) s
def Dv(v:vF)(n:Int):Bool:=decide (n<v.lo)||decide (v.hi<n)
def Bs(m:zF)(s:List (List Int)):Bool:=(s.zip m.vars).any λx=>x.1.any (Dv x.2)
def disL(l:List Int):Bool:=(l.zip l.tail).any λx=>decide (x.2≤x.1)
def rH(m:zF)(s:List (List Int)):Int:=
 if s.length≠m.vars.length then 1 else if Bs m s=true then 3 else if s.any disL=true then 4 else 0
def zY(s:List (List Int)):Bool:=s.any λl=>decide (l.length=0)
def Oc(s t:List (List Int)):Bool:= !(s.zip t).any λx=>x.1.any λn=> !pP x.2 n
def fz(s:List (List Int)):Prop:=okL 24 (okL 8 vK) s
theorem dQ{s:List (List Int)}(h:fz s):s.length≤5864062014805:=by have:=h.1;omega
theorem Zj{s:List (List Int)}(h:fz s){k:Nat}(hk:k<s.length):s[k].length≤17592186044416:=by have:=(h.2 _ (List.getElem_mem hk)).1;omega
theorem LE{lo:Int}{k:Int}(h:lo≤k):Jg lo (k+1-lo).toNat=Jg lo (k-lo).toNat++[k]:=by
 obtain⟨d,rfl⟩:∃d:Nat,k=lo+d:=⟨(k-lo).toNat,by omega⟩
 rw[show(lo+(d:Int)+1-lo).toNat=d+1 by omega,show(lo+(d:Int)-lo).toNat=d by omega];rfl
theorem NF{m:zF}(hm:∀v∈m.vars,-50≤v.lo∧v.hi≤50)(hl:m.vars.length≤6):wO rL [dM m] (dS (sE m)):=
 Da m λok=>by
  rw[Bb];refine up (I:=λn v a=>YM m _ n v a) 0 m.vars.length rfl (Nat.zero_le _) (by omega) (λk a=>a=(m.vars.take k).map ZU) rfl λn k a _ hk ha hn=> ?_
  subst ha;rw[JD]
  by_cases h:k<m.vars.length
  ·rw[zR h,zP (t:=.var) h]
   have hv:=hm _ (List.getElem_mem h);refine⟨zI h,?_⟩;refine upto (I:=λn v a=>YL m _ _ (k:Int) n v _ a) (m.vars[k]).lo (m.vars[k]).hi (by omega) (by omega) (λj a=>a=Jg (m.vars[k]).lo (j-(m.vars[k]).lo).toNat∧j≤max (m.vars[k]).lo ((m.vars[k]).hi+1)) ⟨by rw[Int.sub_self];rfl,by omega⟩ λn2 j a hj hi hn2=> ?_
   obtain⟨rfl,hjm⟩:=hi;rw[JC,zP (t:=.var) h];refine zA (λe=> ?_) λe=> ?_
   ·have e:=of_decide_eq_true e
    refine⟨xR (t:=.int) ?_,hn2 e _ ⟨(LE hj).symm,by omega⟩⟩
    rw[aX];show(_+1)*8≤_
    omega
   ·have e:=of_decide_eq_false e
    have el:Jg (m.vars[k]).lo (j-(m.vars[k]).lo).toNat=ZU m.vars[k]:=by
     rw[ZU]
     by_cases hlh:(m.vars[k]).lo≤(m.vars[k]).hi+1
     ·rw[show j=(m.vars[k]).hi+1 by omega]
     ·rw[show j=(m.vars[k]).lo by omega,show((m.vars[k]).lo-(m.vars[k]).lo).toNat=0 by omega,show((m.vars[k]).hi+1-(m.vars[k]).lo).toNat=0 by omega]
    rw[el];refine⟨xR (t:=.list .int) ?_,hn h _ (Qs ZU h).symm⟩;rw[List.length_map,List.length_take];show(_+1)*24≤_
    omega
  ·have hk':k=m.vars.length:=by omega
   subst hk';rw[zO,List.take_length];rfl
theorem bO{s:List (List Int)}{g:FuncId}{rs:Option (List Ty)}{cap:List D}{f:Nat→Int→Bool}(he:aD g)
  (hf:∀(v:Nat) (h:v<s.length),∀n∈s[v],wO g (dI v::dI n::cap) (dB (f v n))):wO xV [dS s,.clo g rs cap] (dS (pZ f s)):=
 mB.clo (pre:=[_]) (Dc s g cap λok=>by
  have hs:fz s:=mC (WD ok);have hsl:=dQ hs;rw[Bc];refine up (I:=λn v a=>YO s g cap _ n v a) 0 s.length rfl (Nat.zero_le _) (by omega) (λk a=>a=(s.take k).mapIdx λv l=>l.filter (f v)) rfl λn k a _ hk ha hn=> ?_
  subst ha;rw[JF]
  by_cases h:k<s.length
  ·rw[zR h]
   have hr:=Zj hs h;refine⟨zI h,?_⟩;refine up (I:=λn v a=>bB s g cap _ _ (k:Int) n v _ a) 0 s[k].length rfl (Nat.zero_le _) (by omega) (λj a=>a=(s[k].take j).filter (f k)) rfl λn2 j a _ hj hi hn2=> ?_
   subst hi;rw[JE,zP (t:=.list .int) h]
   by_cases hj':j<s[k].length
   ·rw[zR hj',zP (t:=.int) hj']
    refine⟨zI hj',he,zE (hf k h _ (List.getElem_mem hj')) (zA (λe=>⟨xR (t:=.int) ?_,hn2 hj' _ ?_⟩) λe=>hn2 hj' _ ?_)⟩
    ·have:=List.length_filter_le (f k) (s[k].take j)
     rw[List.length_take]at this
     show(_+1)*8≤_
     omega
    ·rw[oK _ hj',if_pos e]
    ·rw[oK _ hj',if_neg (by rw[e];exact Bool.false_ne_true)]
   ·have hj2:j=s[k].length:=by omega
    subst hj2;rw[zO,List.take_length];refine⟨xR (t:=.list .int) ?_,hn h _ (UO _ h).symm⟩;rw[List.length_mapIdx,List.length_take];show(_+1)*24≤_
    omega
  ·have hk':k=s.length:=by omega
   subst hk';rw[zO,List.take_length];rfl)
theorem XL(l:List Int)(n:Int):wO lC [.sl .int l,dI n] (dB (pP l n)):=
 QI l n λok=>by
  rw[O6];refine OZ (I:=λn0 v=>jR l n _ n0 v) l (λk=>decide (n=k)) (fq (t:=.int) (WD ok)) (X:=dB true=dB (pP l n)) (Y:=dB false=dB (pP l n)) zkO (λi k h h1 h2=> ?_) λi h=> ?_
  ·rw[ZO,zR h,zP (t:=.int) h,show decide (l[k]=n)=decide (n=l[k])from decide_eq_decide.2 eq_comm]
   exact⟨zI h,zA h1 h2⟩
  ·rw[ZO,zO];exact h
theorem Rl{t:List (List Int)}{v:Nat}(hv:v<t.length)(n:Int):wO fU [dI v,dI n,.iptr [dS t] 0] (dB (pP (t.getD v []) n)):=
 JG v n t λok=>by
  rw[Gg,zP (t:=.list .int) hv];refine⟨zI hv,zE (yS (a:=n)) ?_⟩;rw[List.getD_eq_getElem?_getD,List.getElem?_eq_getElem hv];rfl
end Go.Proofs.YteimklbiapnfhaaGreat
namespace Go.Proofs.YteimklbiapnfhaaGreat
open Go.RowKit
set_option linter.unusedVariables false
set_option linter.unusedSimpArgs false
variable[Lo]
theorem YB{α:Type}{f:Nat→α→Int}{xs:List α}(h:wL f 0 xs=0){j:Nat}(hj:j<xs.length):f j xs[j]=0:=by
 have:=Hr xs 0 h j hj
 rwa[Nat.zero_add]at this
structure Right (m:zF):Prop where
 vars:m.vars.length≤6
 some:m.vars.length≠0
 cons:m.cons.length≤8
 var:∀v∈m.vars,-50≤v.lo∧v.hi≤50∧v.lo≤v.hi∧v.hi-v.lo<6
 con:∀c∈m.cons,Yu m.vars.length c=0
 goal:VA m=0
theorem oT{m:zF}(h:wN m=0):Right m:=by
 unfold wN at h
 split at h
 ·exact absurd h (by decide)
 rename_i h1;split at h
 ·exact absurd h (by decide)
 rename_i h2;split at h
 ·rename_i h3;exact absurd h h3
 rename_i h3;split at h
 ·rename_i h4;exact absurd h h4
 rename_i h4;have h3:=Decidable.not_not.1 h3;have h4:=Decidable.not_not.1 h4;refine⟨by omega,h1,by omega,λv hv=> ?_,λc hc=> ?_,h⟩
 ·obtain⟨i,hi,rfl⟩:=List.getElem_of_mem hv
  have e:=YB h3 hi;unfold C4 at e
  split at e
  ·exact absurd e (by decide)
  split at e
  ·exact absurd e (by decide)
  split at e
  ·exact absurd e (by decide)
  split at e
  ·exact absurd e (by decide)
  rename_i h5 h6;simp[fh]at h5
  omega
 ·obtain⟨i,hi,rfl⟩:=List.getElem_of_mem hc
  exact YB h4 hi
theorem znn{I:Nat→Int→Prop}(l:List Int)(hl:l.length≤9223372036854775806){X:Prop}(hX:disL l=true→X)
  (hin:∀n (k:Nat) (h:k+1<l.length),(decide (l[k+1]≤l[k])=true→X)→(decide (l[k+1]≤l[k])=false→I n (xF (((k+1:Nat):Int)+1)))→I (n+1) ((k+1:Nat):Int))
  (hout:disL l=false→∀n (k:Nat),l.length≤k→I (n+1) (k:Int)):∃n,I n 1:=by
 have hz:(l.zip l.tail).length=l.length-1:=by rw[List.length_zip,List.length_tail];omega
 refine znl (I:=I) 1 (l.zip l.tail) (λx=>decide (x.2≤x.1)) rfl (by omega) (X:=X) (Y:=disL l=false) (zA hX id) (λn k h h1 h2=> ?_) λn h=>hout h n _ (by omega)
 have hk:k+1<l.length:=by omega
 have e:(l.zip l.tail)[k]=(l[k],l[k+1]):=by rw[List.getElem_zip,List.getElem_tail]
 rw[e]at h1 h2
 exact hin n k hk h1 h2
theorem J2(n:Int)(v:vF):wO aC [dI n,.iptr [.str v.name,.int .i64 v.lo,.int .i64 v.hi] 0] (dB (Dv v n)):=
 Lv n v λok=>by
  rw[JJ];refine zA (λe=> ?_) λe=> ?_
  ·rw[Dv,e];rfl
  ·rw[Dv,e];rfl
theorem zc5{m:zF}{s:List (List Int)}(h:s.length≠m.vars.length):rH m s=1:=if_pos h
theorem zc6{m:zF}{s:List (List Int)}(h1:¬s.length≠m.vars.length)(h:Bs m s=true):rH m s=3:=by rw[rH,if_neg h1,if_pos h]
theorem zc7{m:zF}{s:List (List Int)}(h1:¬s.length≠m.vars.length)(h2:¬Bs m s=true)(h:s.any disL=true):rH m s=4:=by rw[rH,if_neg h1,if_neg h2,if_pos h]
theorem Dw{m:zF}{s:List (List Int)}(h1:¬s.length≠m.vars.length)(h2:¬Bs m s=true)(h:¬s.any disL=true):rH m s=0:=by rw[rH,if_neg h1,if_neg h2,if_neg h]
theorem aY{m:zF}{s:List (List Int)}(h:rH m s=0):s.length=m.vars.length:=by
 unfold rH at h
 split at h
 ·exact absurd h (by decide)
 ·omega
theorem Dx(m:zF)(s:List (List Int)):wO YH [dM m,dS s] (dI (rH m s)):=
 Gi m s λok=>by
  have hs:fz s:=mC (WD (okR ok));have hsl:=dQ hs;rw[De];refine zA (λe=> ?_) λe=> ?_
  ·exact wG (zc5 (by simp at e;omega))
  have k1:s.length=m.vars.length:=by simp at e;omega
  have k1':=not_not_intro k1;have hz:(s.zip m.vars).length=s.length:=by rw[List.length_zip];omega
  refine Jz (I:=λn v=>ZK m s _ n v) (s.zip m.vars) (λx=>x.1.any (Dv x.2)) (by omega) (X:=D.int .i64 3=dI (rH m s)) (λe=>wG (zc6 k1' e)) (λn k h hX hn=> ?_) λe n=> ?_
  ·have hk:k<s.length:=by omega
   rw[List.getElem_zip]at hX hn
   rw[VH,zR hk,zP (t:=.list .int) hk,zP (t:=.var) (show k<m.vars.length by omega)]
   exact⟨zI hk,zI (by omega),zE (wV Ly λx _=>J2 x _) (zA hX hn)⟩
  rw[hz,VH,zO];have k2:¬Bs m s=true:=by rw[Bs,e];decide
  refine Jz (I:=λn v=>ZJ s _ n v) s disL (by omega) (X:=D.int .i64 4=dI (rH m s)) (λe=>wG (zc7 k1' k2 e)) (λn k h hX hn=> ?_) λe n=> ?_
  ·have hr:=Zj hs h
   rw[VG,zR h];refine⟨zI h,znn (I:=λn2 v=>ZI s _ n k n2 v) s[k] (by omega) hX (λn2 j hj h1 h2=> ?_) λe n2 j hj=> ?_⟩
   ·rw[VF,zP (t:=.list .int) h,zR hj,tR (by omega) (by omega),show(((j+1:Nat):Int)-1)=(j:Int) by omega,zP (t:=.int) hj,zP (t:=.int) (show j<s[k].length by omega)]
    exact⟨zI hj,zI (by omega),zA h1 h2⟩
   ·rw[VF,zP (t:=.list .int) h,E6,decide_eq_false (by omega)]
    exact hn e
  rw[VG,zO];exact wG (Dw k1' k2 (by rw[e];decide))
theorem Ta(m:zF)(s:List (List Int)):wO mI [dM m,dS s] (dI (rH m s)):=
 V9 m s λok=>by
  have hs:fz s:=mC (WD (okR ok));have hsl:=dQ hs;rw[UW];refine zA (λe=> ?_) λe=> ?_
  ·exact wG (zc5 (by simp at e;omega))
  have k1:s.length=m.vars.length:=by simp at e;omega
  have k1':=not_not_intro k1;have hz:(s.zip m.vars).length=s.length:=by rw[List.length_zip];omega
  refine Jz (I:=λn v=>nC m s _ n v) (s.zip m.vars) (λx=>x.1.any (Dv x.2)) (by omega) (X:=D.int .i64 3=dI (rH m s)) (λe=>wG (zc6 k1' e)) (λn k h hX hn=> ?_) λe n=> ?_
  ·have hk:k<s.length:=by omega
   have hkv:k<m.vars.length:=by omega
   have hr:=Zj hs hk;rw[List.getElem_zip]at hX hn
   rw[eI,zR hk];refine Jz (I:=λn2 v=>o9 m s _ n k n2 v) s[k] (Dv m.vars[k]) (by omega) hX (λn2 j hj hX2 hn2=> ?_) λe n2=> ?_
   ·rw[eE,zP (t:=.list .int) hk,zR hj,zP (t:=.int) hj,zP (t:=.var) hkv]
    have ho:∀v n,Dv v n= !fh n v.lo v.hi:=λv n=>by unfold Dv fh;by_cases h1:n<v.lo<;>by_cases h2:v.hi<n<;>simp[h1,h2]<;>omega
    rw[ho]at hX2 hn2
    exact⟨zI hk,zI hk,zI hj,zI hkv,zI hkv,zE (wW _ _ _) (zA hX2 hn2)⟩
   ·rw[eE,zP (t:=.list .int) hk,zO]
    exact⟨zI hk,hn e⟩
  rw[hz,eI,zO];have k2:¬Bs m s=true:=by rw[Bs,e];decide
  refine Jz (I:=λn v=>nB s _ n v) s disL (by omega) (X:=D.int .i64 4=dI (rH m s)) (λe=>wG (zc7 k1' k2 e)) (λn k h hX hn=> ?_) λe n=> ?_
  ·have hr:=Zj hs h
   rw[eG,zR h];refine znn (I:=λn2 v=>nA s _ n k n2 v) s[k] (by omega) hX (λn2 j hj h1 h2=> ?_) λe n2 j hj=> ?_
   ·rw[eF,zP (t:=.list .int) h,zR hj,tR (by omega) (by omega),show(((j+1:Nat):Int)-1)=(j:Int) by omega,zP (t:=.int) hj,zP (t:=.int) (show j<s[k].length by omega)]
    exact⟨zI h,zI h,zI hj,zI h,zI (by omega),zA h1 h2⟩
   ·rw[eF,zP (t:=.list .int) h,E6,decide_eq_false (by omega)]
    exact⟨zI h,hn e⟩
  rw[eG,zO];exact wG (Dw k1' k2 (by rw[e];decide))
end Go.Proofs.YteimklbiapnfhaaGreat
namespace Go.Proofs.YteimklbiapnfhaaGreat
open Go.RowKit
set_option linter.unusedVariables false
set_option linter.unusedSimpArgs false
variable[Lo]
def vB(m:zF)(ss:List (List (List Int))):Int:=if wN m≠0 then wN m else wL (λ_ s=>rH m s) 0 ss
theorem QU{m:zF}{ss:List (List (List Int))}(h:wN m≠0):vB m ss=wN m:=if_pos h
theorem bP{m:zF}{ss:List (List (List Int))}(h:¬wN m≠0):vB m ss=wL (λ_ s=>rH m s) 0 ss:=if_neg h
theorem eN(m:zF)(ss:List (List (List Int))):wO ou [dM m,.sl (.list (.list .int)) ss] (dI (vB m ss)):=
 Gf m ss λok=>by
  rw[Db];refine zE (eM m) (zA (λe=> ?_) λe=> ?_)
  ·exact wG (QU (xO e))
  have k1:=not_not_intro (zU e);refine C8 (I:=λn v=>ZH m ss _ n v) ss (λ_ s=>rH m s) (fq (t:=.list (.list .int)) (WD (okR ok))) (X:=λx=>D.int .i64 x=dI (vB m ss)) (Y:=D.int .i64 0=dI (vB m ss)) (λe=>wG (bP k1)) (λe=>wG ((bP k1).trans e)) (λn k h _ hX hn=> ?_) λn hY=> ?_
  ·rw[VE,zR h,zP (t:=.list (.list .int)) h]
   exact⟨zI h,zE (Dx m _) (zA (λe=>hX (xO e)) λe=>hn (zU e))⟩
  ·rw[VE,zO];exact hY
theorem eO{α:Type}{f:Nat→α→Int}{a:α}{i:Nat}:wL f i [a]=f i a:=by
 unfold wL;split
 ·rename_i h;rw[h];rfl
 ·rfl
theorem zeL{α:Type}{f:α→Int}{a b:α}:wL (λ_=>f) 0 [a,b]=if f a=0 then f b else f a:=by
 unfold wL;split
 ·rename_i h;exact eO
 ·rfl
theorem J3{m:zF}{s t:List (List Int)}(h:vB m [s,t]=0):Right m∧s.length=m.vars.length∧t.length=m.vars.length:=by
 by_cases h1:wN m=0
 ·rw[bP (not_not_intro h1),zeL]at h
  split at h
  ·rename_i h2;exact⟨oT h1,aY h2,aY h⟩
  ·rename_i h2;exact absurd h h2
 ·rw[QU h1]at h;exact absurd h h1
theorem Ax{m:zF}{s:List (List Int)}(h:vB m [s]=0):Right m∧s.length=m.vars.length:=by
 by_cases h1:wN m=0
 ·rw[bP (not_not_intro h1),eO]at h
  exact⟨oT h1,aY h⟩
 ·rw[QU h1]at h;exact absurd h h1
theorem Right.lohi{m:zF}(h:Right m):∀v∈m.vars,-50≤v.lo∧v.hi≤50:=λv hv=>by have:=h.var v hv;omega
def Od(e:Int)(s:List (List Int)):List (List Int):=if e=0 then s else[]
def orB(e:Int)(b:Bool):Bool:=if e=0 then b else false
theorem Dy(m:zF):wO ol [dM m] (.tup [dS (Od (wN m) (sE m)),dI (wN m)]):=
 Gb m λok=>by
  rw[E7];refine zE (eM m) (zA (λe=> ?_) λe=> ?_)
  ·rw[Od,if_neg (xO e)]
  ·have h:=oT (zU e)
   rw[Od,if_pos (zU e),zU e];exact zE (NF h.lohi h.vars) rfl
theorem Bt(m:zF)(s t:List (List Int)):wO mG [dM m,dS s,dS t] (.tup [dS (Od (vB m [s,t]) (zk2 s t)),dI (vB m [s,t])]):=
 E8 m s t λok=>by
  rw[Ba];refine zE (eN m _) (zA (λe=> ?_) λe=> ?_)
  ·rw[Od,if_neg (xO e)]
  ·obtain⟨h,h1,h2⟩:=J3 (zU e)
   rw[Od,if_pos (zU e),zU e];refine zE (bO (f:=λv n=>pP (t.getD v []) n) U3 λv hv n hn=>Rl (by omega) n) rfl
theorem yN{α:Type}{t:List α}{k:Nat}(d:α)(h:k<t.length):t.getD k d=t[k]:=by rw[List.getD_eq_getElem?_getD,List.getElem?_eq_getElem h];rfl
theorem LF{t:List (List Int)}{v:Nat}(hv:v<t.length)(n:Int):wO dA [dI n,.iptr [dS t] 0,.iptr [dI v] 0] (dB (!pP t[v] n)):=
 Md n t v λok=>by
  rw[Ls,zP (t:=.list .int) hv];exact⟨zI hv,zE (yS (a:=n)) rfl⟩
theorem GB(m:zF)(s t:List (List Int)):wO fR [dM m,dS s,dS t] (.tup [dB (orB (vB m [s,t]) (Oc s t)),dI (vB m [s,t])]):=
 JA m s t λok=>by
  rw[Gc];refine zE (eN m _) (zA (λe=> ?_) λe=> ?_)
  ·rw[orB,if_neg (xO e)]
  ·obtain⟨h,h1,h2⟩:=J3 (zU e)
   have hv:=h.vars;have hz:(s.zip t).length=s.length:=by rw[List.length_zip];omega
   rw[orB,if_pos (zU e),zU e];refine OZ (I:=λn v=>aE s t _ n v) (s.zip t) (λx=>x.1.any λn=> !pP x.2 n) (by omega) (X:=D.tup [.bool false,.int .i64 0]=.tup [dB (Oc s t),dI 0]) (Y:=D.tup [.bool true,.int .i64 0]=.tup [dB (Oc s t),dI 0]) (zA (λe=> ?_) λe=> ?_) (λn k h hX hn=> ?_) λn hY=> ?_
   ·rw[Oc,e];rfl
   ·rw[Oc,e];rfl
   ·have hk:k<s.length:=by omega
    rw[List.getElem_zip]at hX hn
    rw[WE,zR hk,zP (t:=.list .int) hk];exact⟨zI hk,zE (wV Mh λx _=>LF (show k<t.length by omega) x) (zA hX hn)⟩
   ·rw[hz,WE,zO];exact hY
theorem zoR{l:List Int}:decide ((l.length:Int)=0)=decide (l.length=0):=decide_eq_decide.2 (by omega)
theorem J4(l:List Int):wO aB [.sl .int l] (dB (decide (l.length=0))):=
 Lu l λok=>by rw[JI,zoR]
theorem yK(s:List (List Int)):wO zS [dS s] (dB (zY s)):=
 Gh s λok=>by rw[Dd];exact zE (dP Lx λx _=>J4 x) rfl
theorem GC(m:zF)(s:List (List Int)):wO fS [dM m,dS s] (.tup [dB (orB (vB m [s]) (zY s)),dI (vB m [s])]):=
 JB m s λok=>by
  rw[Gd];refine zE (eN m _) (zA (λe=> ?_) λe=> ?_)
  ·rw[orB,if_neg (xO e)]
  ·rw[orB,if_pos (zU e),zU e]
   exact zE (yK s) rfl
theorem jZ(m:zF)(s:List (List Int)):wO rB [dM m,dS s] (dI (vB m [s])):=
 Ge m s λok=>by rw[E9];exact zE (eN m _) rfl
theorem vG(s:List (List Int)):wO xY [dS s] (dB (zY s)):=
 UX s λok=>by
  rw[T7];refine OZ (I:=λn v=>mP s _ n v) s (λl=>decide (l.length=0)) (fq (t:=.list .int) (WD ok)) (X:=dB true=dB (zY s)) (Y:=dB false=dB (zY s)) zkO (λn k h hX hn=> ?_) λn hY=> ?_
  ·rw[cI,zR h,zP (t:=.list .int) h,zoR]
   exact⟨zI h,zA hX hn⟩
  ·rw[cI,zO];exact hY
theorem gP{α:Type}[DecidableEq α]:∀(a b:List α),a.length=b.length→((a.zip b).any λx=> !decide (x.1=x.2))= !decide (a=b)
 |[],[],_=>rfl
 |[],_::_,h=>by simp at h
 |_::_,[],h=>by simp at h
 |x::a,y::b,h=>by
  rw[List.zip_cons_cons,List.any_cons,gP a b (by simpa using h)]
  by_cases h1:x=y<;>by_cases h2:a=b<;>simp[h1,h2]
theorem pQ(a b:List Int):wO uR [.sl .int a,.sl .int b] (dB (decide (a=b))):=
 Se a b λok=>by
  have hl:a.length≤9223372036854775807:=fq (t:=.int) (WD ok);rw[RH];refine zA (λe=> ?_) λe=> ?_
  ·rw[decide_eq_false (p:=a=b) λh=>by subst h;simp at e]
  have e:a.length=b.length:=by simp at e;omega
  have hz:(a.zip b).length=a.length:=by rw[List.length_zip];omega
  refine OZ (I:=λn v=>lP a b _ n v) (a.zip b) (λx=> !decide (x.1=x.2)) (by omega) (X:=dB false=dB (decide (a=b))) (Y:=dB true=dB (decide (a=b))) (by rw[gP a b e];cases decide (a=b)<;>rfl) (λn k h hX hn=> ?_) λn hY=> ?_
  ·have hk:k<a.length:=by omega
   rw[List.getElem_zip]at hX hn
   rw[bH,zR hk,zP (t:=.int) hk,zP (t:=.int) (show k<b.length by omega)]
   exact⟨zI hk,zI (by omega),zA hX hn⟩
  ·rw[hz,bH,zO];exact hY
theorem xC(a b:List (List Int)):wO yI [dS a,dS b] (dB (decide (a=b))):=
 UU a b λok=>by
  have hl:a.length≤9223372036854775807:=fq (t:=.list .int) (WD ok);rw[T6];refine zA (λe=> ?_) λe=> ?_
  ·rw[decide_eq_false (p:=a=b) λh=>by subst h;simp at e]
  have e:a.length=b.length:=by simp at e;omega
  have hz:(a.zip b).length=a.length:=by rw[List.length_zip];omega
  refine OZ (I:=λn v=>mN a b _ n v) (a.zip b) (λx=> !decide (x.1=x.2)) (by omega) (X:=dB false=dB (decide (a=b))) (Y:=dB true=dB (decide (a=b))) (by rw[gP a b e];cases decide (a=b)<;>rfl) (λn k h hX hn=> ?_) λn hY=> ?_
  ·have hk:k<a.length:=by omega
   rw[List.getElem_zip]at hX hn
   rw[cH,zR hk,zP (t:=.list .int) hk,zP (t:=.list .int) (show k<b.length by omega)]
   exact⟨zI hk,zI (by omega),zE (pQ _ _) (zA hX hn)⟩
  ·rw[hz,cH,zO];exact hY
end Go.Proofs.YteimklbiapnfhaaGreat
namespace Go.Proofs.YteimklbiapnfhaaGreat
open Go.RowKit
set_option linter.unusedVariables false
set_option linter.unusedSimpArgs false
variable[Lo]
def tQ:zF:=⟨[⟨⟨#[120]⟩,0,2⟩,⟨⟨#[121]⟩,0,2⟩],[⟨1,[0,1],[1,-1],-1,[],[]⟩],1,1⟩
theorem xS:wO xG [] (M4 .mdl tQ):=
 LD λok=>by rw[J0];exact rfl
theorem Tb(m:zF)(s:List (List Int)):wO mF [dM m,dS s] (dI (vB m [s])):=
 Uo m s λok=>by
  rw[U9];refine zE (U6 m) (zA (λe=> ?_) λe=> ?_)
  ·refine zE (Ta m s) (wG ?_)
   rw[bP (not_not_intro (of_decide_eq_true e)),eO]
  ·exact wG (QU (of_decide_eq_false e))
def isS(a:List (List Int))(e1 e2:Int)(b:List (List Int)):Bool:=decide (e1=e2)&&decide (a=Od e2 b)
theorem QV(a:List (List Int))(e1 e2:Int)(b:List (List Int)):wO nS [dS a,dI e1,dI e2,dS b] (dB (isS a e1 e2 b)):=
 RV a e1 e2 b λok=>by
  rw[QR];refine zA (λe=> ?_) λe=>zA (λf=>zE (xC _ _) ?_) λf=> ?_
  ·refine zA (λf=>zE (xC _ _) ?_) λf=> ?_
   ·rw[isS,f,Od,if_neg (xO e)];rfl
   ·rw[isS,f];rfl
  ·rw[isS,f,Od,if_pos (zU e)];rfl
  ·rw[isS,f];rfl
theorem zk3{a:List (List Int)}{e1 e2:Int}{b:List (List Int)}(h1:e1=e2)(h2:a=Od e2 b):isS a e1 e2 b=true:=by rw[isS,decide_eq_true h1,decide_eq_true h2];rfl
theorem ziV:wO ol [dM tQ] (.tup [dS [[0,1,2],[0,1,2]],dI 0]):=by
 have h:=Dy tQ
 rwa[show wN tQ=0 by kernel_rfl,show Od 0 (sE tQ)=[[0,1,2],[0,1,2]] by kernel_rfl]at h
theorem zk4:wO mG [dM tQ,dS [[0,1,2],[0,1,2]],dS [[1],[0,2]]] (.tup [dS [[1],[0,2]],dI 0]):=by
 have h:=Bt tQ [[0,1,2],[0,1,2]] [[1],[0,2]]
 rwa[show vB tQ [[[0,1,2],[0,1,2]],[[1],[0,2]]]=0 by kernel_rfl,show Od 0 (zk2 [[0,1,2],[0,1,2]] [[1],[0,2]])=[[1],[0,2]] by kernel_rfl]at h
theorem zeM:wO fR [dM tQ,dS [[1],[0,2]],dS [[0,1,2],[0,1,2]]] (.tup [dB true,dI 0]):=by
 have h:=GB tQ [[1],[0,2]] [[0,1,2],[0,1,2]]
 rwa[show vB tQ [[[1],[0,2]],[[0,1,2],[0,1,2]]]=0 by kernel_rfl,show orB 0 (Oc [[1],[0,2]] [[0,1,2],[0,1,2]])=true by kernel_rfl]at h
theorem zeN:wO fS [dM tQ,dS [[0,1,2],[0,1,2]]] (.tup [dB false,dI 0]):=by
 have h:=GC tQ [[0,1,2],[0,1,2]]
 rwa[show vB tQ [[[0,1,2],[0,1,2]]]=0 by kernel_rfl,show orB 0 (zY [[0,1,2],[0,1,2]])=false by kernel_rfl]at h
theorem ziW:wO rB [dM tQ,dS [[1],[0,2]]] (dI 0):=by
 have h:=jZ tQ [[1],[0,2]]
 rwa[show vB tQ [[[1],[0,2]]]=0 by kernel_rfl]at h
theorem Tc:wO mD [] (dB true):=
 Uj λok=>by
  rw[U7];refine zE xS (kH (t:=.list (.list .int)) (u:=.int) ziV (zE xS (kH (t:=.list (.list .int)) (u:=.int) zk4 (zE xS (kH (t:=.bool) (u:=.int) zeM (zE xS (kH (t:=.bool) (u:=.int) zeN ?_)))))));refine zE (xC _ _) (zE (xC _ _) (zE xS (zE ziW rfl)))
theorem iM{m:zF}{ss:List (List (List Int))}(h:vB m ss=0):wN m=0:=by
 by_cases h1:wN m=0
 ·exact h1
 ·rw[QU h1]at h;exact absurd h h1
theorem dt{p:Prop}[Decidable p]{X Y:Prop}(h:p)(hx:X):zN (decide p) X Y:=by rw[decide_eq_true h];exact hx
theorem df{p:Prop}[Decidable p]{X Y:Prop}(h:¬p)(hy:Y):zN (decide p) X Y:=by rw[decide_eq_false h];exact hy
theorem dnt{p:Prop}[Decidable p]{X Y:Prop}(h:¬p)(hx:X):zN (!decide p) X Y:=by rw[decide_eq_false h];exact hx
theorem dnf{p:Prop}[Decidable p]{X Y:Prop}(h:p)(hy:Y):zN (!decide p) X Y:=by rw[decide_eq_true h];exact hy
theorem Mm{s:List (List Int)}{e:Int}(h:e=0):Od e s=s:=if_pos h
theorem J5{s:List (List Int)}{e:Int}(h:e≠0):Od e s=[]:=if_neg h
theorem J6{b:Bool}{e:Int}(h:e=0):orB e b=b:=if_pos h
theorem zc8{b:Bool}{e:Int}(h:e≠0):orB e b=false:=if_neg h
end Go.Proofs.YteimklbiapnfhaaGreat
namespace Go.Proofs.YteimklbiapnfhaaGreat
open Go.RowKit
set_option linter.unusedVariables false
set_option linter.unusedSimpArgs false
variable[Lo]
theorem kX{l:List Int}{n:Int}:pP l n=true↔n∈l:=by
 rw[pP,List.any_eq_true];exact⟨λ⟨k,hk,e⟩=>by rw[of_decide_eq_true e];exact hk,λh=>⟨n,h,decide_eq_true rfl⟩⟩
theorem qN{f:Nat→Int→Bool}{s:List (List Int)}{v:Nat}:(pZ f s).getD v []=(s.getD v []).filter (f v):=by
 rw[pZ,List.getD_eq_getElem?_getD,List.getD_eq_getElem?_getD,List.getElem?_mapIdx];cases s[v]? <;>rfl
theorem rO{f:Nat→Int→Bool}{s:List (List Int)}:(pZ f s).length=s.length:=List.length_mapIdx
theorem ziX{a b:Int}{l:List Int}:disL (a::b::l)=(decide (b≤a)||disL (b::l)):=rfl
theorem zeO:∀ {l:List Int},disL l=false↔l.Pairwise (·<·)
 |[]=>by simp[disL]
 |[a]=>by simp[disL]
 |a::b::l=>by
  rw[ziX,Bool.or_eq_false_iff,zeO,List.pairwise_cons (a:=a) (l:=b::l)];constructor
  ·rintro⟨h1,h2⟩
   have h1:=of_decide_eq_false h1;refine⟨λx hx=> ?_,h2⟩
   rcases List.mem_cons.1 hx with rfl|hx
   ·omega
   ·have:=(List.pairwise_cons.1 h2).1 x hx;omega
  ·rintro⟨h1,h2⟩
   exact⟨decide_eq_false (by have:=h1 b (List.mem_cons_self ..);omega),h2⟩
theorem VN{m:zF}{s:List (List Int)}:rH m s=0↔s.length=m.vars.length∧(∀v,∀n∈s.getD v [],(m.vars.getD v ⟨⟨#[]⟩,0,0⟩).lo≤n∧n≤(m.vars.getD v ⟨⟨#[]⟩,0,0⟩).hi)∧∀l∈s,l.Pairwise (·<·):=by
 constructor
 ·intro h
  have hl:=aY h;unfold rH at h
  rw[if_neg (not_not_intro hl)]at h
  split at h
  ·exact absurd h (by decide)
  rename_i h1;split at h
  ·exact absurd h (by decide)
  rename_i h2;refine⟨hl,λv n hn=> ?_,λl hl=>zeO.1 ?_⟩
  ·by_cases hv:v<s.length
   ·have hz:v<(s.zip m.vars).length:=by rw[List.length_zip];omega
    rw[yN _ hv]at hn
    rw[yN _ (show v<m.vars.length by omega)]
    rw[Bool.not_eq_true,Bs,List.any_eq_false]at h1
    have:=h1 _ (List.getElem_mem hz);rw[List.getElem_zip,Bool.not_eq_true,List.any_eq_false]at this
    have:=this n hn;simp[Dv]at this
    omega
   ·rw[List.getD_eq_getElem?_getD,List.getElem?_eq_none (by omega)]at hn
    simp at hn
  ·rw[Bool.not_eq_true,List.any_eq_false]at h2
   simpa using h2 l hl
 ·rintro⟨hl,h1,h2⟩
  refine Dw (not_not_intro hl) ?_ ?_
  ·rw[Bs,List.any_eq_true]
   rintro⟨x,hx,hp⟩;obtain⟨i,hi,rfl⟩:=List.getElem_of_mem hx;rw[List.length_zip]at hi
   rw[List.getElem_zip,List.any_eq_true]at hp
   obtain⟨n,hn,e⟩:=hp;have:=h1 i n (by rw[yN _ (by omega)];exact hn)
   rw[yN _ (show i<m.vars.length by omega)]at this
   simp[Dv]at e
   omega
  ·rw[List.any_eq_true]
   rintro⟨l,hl,e⟩;rw[zeO.2 (h2 l hl)]at e
   exact absurd e (by decide)
theorem bt{b:Bool}{X Y:Prop}(h:b=true)(hx:X):zN b X Y:=by rw[h];exact hx
theorem Ay{b:Bool}{X Y:Prop}(h:b=true)(hy:Y):zN (!b) X Y:=by rw[h];exact hy
theorem bf{b:Bool}{X Y:Prop}(h:b=false)(hy:Y):zN b X Y:=by rw[h];exact hy
theorem bnt{b:Bool}{X Y:Prop}(h:b=false)(hx:X):zN (!b) X Y:=by rw[h];exact hx
end Go.Proofs.YteimklbiapnfhaaGreat
namespace Go.Proofs.YteimklbiapnfhaaGreat
open Go.RowKit
set_option linter.unusedVariables false
set_option linter.unusedSimpArgs false
variable[Lo]
def holdsL(l:zC)(n:Int):Bool:=if l.op=1 then decide (n≤l.n)else if l.op=2 then decide (l.n≤n)else if l.op=3 then decide (n=l.n)else !decide (n=l.n)
theorem dR(l:zC)(n:Int):wO kN [dL l,dI n] (dB (holdsL l n)):=
 Be l n λok=>by
  rw[za6];refine zA (λe1=> ?_) λe1=>zA (λe2=> ?_) λe2=>zA (λe3=> ?_) λe3=> ?_<;>simp at* <;>simp[holdsL, *]
theorem lY(l:zC)(n:Int)(h:fh l.op 1 4=true):wO uS [dL l,dI n] (dB (holdsL l n)):=
 Si l n λok=>by
  rw[RL];obtain⟨h1,h2⟩:=UM.1 h;have h3:l.op=1∨l.op=2∨l.op=3∨l.op=4:=by omega
  rcases h3 with h|h|h|h<;>simp only[h,holdsL,Int.reduceEq,if_true,if_false,decide_true,decide_false,EW,Jt]<;>(repeat'(refine zA (λ_=> ?_) (λ_=> ?_)))<;>simp_all
theorem zeP{nv:Nat}{l:zC}(h:qC nv l.var=true):jF nv l=5:=if_pos h
theorem zeQ{nv:Nat}{l:zC}(h1:¬qC nv l.var=true)(h:fh l.op 1 4=false):jF nv l=7:=by rw[jF,if_neg h1,if_pos h]
theorem zeR{nv:Nat}{l:zC}(h1:¬qC nv l.var=true)(h2:¬fh l.op 1 4=false)(h:farB l.n=true):jF nv l=3:=by rw[jF,if_neg h1,if_neg h2,if_pos h]
theorem zk5{nv:Nat}{l:zC}(h1:¬qC nv l.var=true)(h2:¬fh l.op 1 4=false)(h:¬farB l.n=true):jF nv l=0:=by rw[jF,if_neg h1,if_neg h2,if_neg h]
theorem tS{nv:Nat}{l:zC}:jF nv l=0↔(0≤l.var∧l.var<nv)∧(1≤l.op∧l.op≤4)∧-1000≤l.n∧l.n≤1000:=by
 by_cases h1:qC nv l.var=true
 ·rw[zeP h1]
  simp[qC,fh]at h1
  exact⟨λh=>absurd h (by decide),λh=>by omega⟩
 by_cases h2:fh l.op 1 4=false
 ·rw[zeQ h1 h2]
  rw[qS]at h2
  exact⟨λh=>absurd h (by decide),λh=>by omega⟩
 by_cases h3:farB l.n=true
 ·rw[zeR h1 h2 h3]
  simp[farB,fh]at h3
  exact⟨λh=>absurd h (by decide),λh=>by omega⟩
 ·rw[zk5 h1 h2 h3]
  simp[qC,farB,fh]at h1 h2 h3
  exact⟨λ_=>by omega,λ_=>rfl⟩
theorem Sv(m:zF)(l:zC):wO Ze [dM m,dL l] (dI (jF m.vars.length l)):=
 Bp m l λok=>by
  rw[zbe];refine zA (λe=> ?_) λe1=>zA (λe=> ?_) λe2=> ?_
  ·exact wG (zeP (by simp at e;simp[qC,fh];omega))
  ·exact wG (zeP (by simp at e;simp[qC,fh];omega))
  have h1:¬qC m.vars.length l.var=true:=by simp at e1 e2;simp[qC,fh];omega
  refine zA (λe=> ?_) λe1=>zA (λe=> ?_) λe2=> ?_
  ·exact wG (zeQ h1 (qS.2 (.inl (of_decide_eq_true e))))
  ·exact wG (zeQ h1 (qS.2 (.inr (of_decide_eq_true e))))
  have h2:¬fh l.op 1 4=false:=by rw[qS];simp at e1 e2;omega
  refine zA (λe=> ?_) λe1=>zA (λe=> ?_) λe2=> ?_
  ·exact wG (zeR h1 h2 (by simp at e;simp[farB,fh];omega))
  ·exact wG (zeR h1 h2 (by simp at e;simp[farB,fh];omega))
  ·exact wG (zk5 h1 h2 (by simp at e1 e2;simp[farB,fh];omega))
def X3(l:zC):zC:=if l.op=1 then⟨l.var,2,l.n+1⟩else if l.op=2 then⟨l.var,1,l.n-1⟩else if l.op=3 then⟨l.var,4,l.n⟩else⟨l.var,3,l.n⟩
theorem Xz(l:zC)(h: -1000000≤l.n∧l.n≤1000000):wO lF [dL l] (M4 .lit (X3 l)):=
 J1 l λok=>by
  rw[GA,tR (by omega) (by omega),tR (by omega) (by omega)]
  refine zA (λe1=> ?_) λe1=>zA (λe2=> ?_) λe2=>zA (λe3=> ?_) λe3=> ?_<;>simp at e1
  ·simp only[X3,e1,if_true];rfl
  all_goals simp at e2
  ·simp only[X3,e1,e2,if_true,if_false];rfl
  all_goals simp at e3
  ·simp only[X3,e1,e2,e3,if_true,if_false];rfl
  ·simp only[X3,e1,e2,e3,if_true,if_false];rfl
theorem zbi(m:zF)(l:zC)(h: -1000000≤l.n∧l.n≤1000000):wO VC [dM m,dL l] (dI (jF m.vars.length (X3 l))):=
 Bq m l λok=>by
  rw[zbg];exact zE (Xz l h) (zE (Sv m _) rfl)
def Hz(l:zC)(r:List Int):Int:=if r.any (holdsL l)=false then -1 else if r.all (holdsL l)=true then 1 else 0
def ZV(s:List (List Int))(l:zC):Int:=Hz l (s.getD l.var.toNat [])
def zc9(s:List (List Int))(l:zC):List (List Int):=pZ (λv n=> !decide ((v:Int)=l.var)||holdsL l n) s
theorem Mn{α:Type}{p:α→Bool}{r:List α}:(r.filter p).length=0↔r.any p=false:=by
 rw[List.length_eq_zero_iff,List.filter_eq_nil_iff,List.any_eq_false]
theorem Dz{α:Type}{p:α→Bool}{r:List α}:(r.filter p).length=r.length↔r.all p=true:=by
 rw[List.length_filter_eq_length_iff,List.all_eq_true]
theorem HA{s:List (List Int)}{l:zC}(h:0≤l.var∧l.var<s.length):wO Yv [dS s,dL l] (dI (ZV s l)):=
 zbf s l λok=>by
  have hs:fz s:=mC (WD ok);rw[zc3];obtain⟨v,hv⟩:∃v:Nat,l.var=v:=⟨l.var.toNat,by omega⟩
  have hvl:v<s.length:=by omega
  have hr:=Zj hs hvl;have ht:ZV s l=Hz l s[v]:=by rw[ZV,hv,Int.toNat_natCast,yN _ hvl]
  refine⟨by rw[hv];exact zI hvl,?_⟩
  refine up (I:=λn v a=>Xm s l _ n a v) 0 s[v].length rfl (Nat.zero_le _) (by omega) (λk a=>a=(((s[v].take k).filter (holdsL l)).length:Int)) rfl λn k a _ hk ha hn=> ?_
  subst ha;rw[Du,hv,zP (t:=.list .int) hvl];have hf:=List.length_filter_le (holdsL l) (s[v].take k);rw[List.length_take]at hf
  by_cases h:k<s[v].length
  ·rw[zR h,zP (t:=.int) h]
   refine⟨zI h,?_⟩;refine zE (dR l s[v][k]) (zA (λe=>hn h _ ?_) λe=>hn h _ ?_)
   ·rw[oK _ h,if_pos e,List.length_append,tR (by omega) (by omega)];rfl
   ·rw[oK _ h,if_neg (by rw[e];exact Bool.false_ne_true)]
  ·have hk':k=s[v].length:=by omega
   subst hk';rw[zO,List.take_length,ht];refine zA (λe=> ?_) λe=>⟨zI hvl,zA (λf=> ?_) λf=> ?_⟩
   ·have e:=of_decide_eq_true e
    exact wG (if_pos (Mn.1 (by omega)))
   ·have e:=of_decide_eq_false e
    have f:=of_decide_eq_true f;exact wG (by rw[Hz,if_neg (λh=>e (by have:=Mn.2 h;omega)),if_pos (Dz.1 (by omega))])
   ·have e:=of_decide_eq_false e
    have f:=of_decide_eq_false f;exact wG (by rw[Hz,if_neg (λh=>e (by have:=Mn.2 h;omega)),if_neg (λh=>f (by have:=Dz.2 h;omega))])
end Go.Proofs.YteimklbiapnfhaaGreat
namespace Go.Proofs.YteimklbiapnfhaaGreat
open Go.RowKit
set_option linter.unusedVariables false
set_option linter.unusedSimpArgs false
variable[Lo]
theorem LG(v:Nat)(n:Int)(l:zC):wO Xd [dI v,dI n,.iptr [.int .i64 l.var,.int .i64 l.op,.int .i64 l.n] 0] (dB (!decide ((v:Int)=l.var)||holdsL l n)):=
 Br v n l λok=>by
  rw[zbh];refine zA (λe=> ?_) λe=>zE (dR l n) ?_
  ·rw[e];rfl
  ·rw[e];rfl
theorem zeS(s:List (List Int))(l:zC):wO Zf [dS s,dL l] (dS (zc9 s l)):=
 zc4 s l λok=>by
  rw[zeK];exact zE (bO (f:=λv n=> !decide ((v:Int)=l.var)||holdsL l n) NE λv hv n hn=>LG v n l) rfl
theorem ZW{α:Type}(p:α→Bool){xs:List α}{k:Nat}(h:k<xs.length):(xs.take (k+1)).any p=((xs.take k).any p||p xs[k]):=by
 rw[←List.take_append_getElem h,List.any_append];simp
theorem zmF{α:Type}{p:α→Bool}{r:List α}:r.all p= !(r.any λx=> !p x):=by rw[List.all_eq_not_any_not]
theorem Na{s:List (List Int)}{l:zC}(h:0≤l.var∧l.var<s.length)(ho:fh l.op 1 4=true):wO hM [dS s,dL l] (dI (ZV s l)):=
 QH s l λok=>by
  have hs:fz s:=mC (WD ok);rw[O5];obtain⟨v,hv⟩:∃v:Nat,l.var=v:=⟨l.var.toNat,by omega⟩
  have hvl:v<s.length:=by omega
  have hr:=Zj hs hvl;have ht:ZV s l=Hz l s[v]:=by rw[ZV,hv,Int.toNat_natCast,yN _ hvl]
  refine up (I:=λn k (a:Bool×Bool)=>nW s l _ n a.1 a.2 k) 0 s[v].length rfl (Nat.zero_le _) (by omega) (λk a=>a=((s[v].take k).any (holdsL l),(s[v].take k).any λn=> !holdsL l n)) (a:=(false,false)) rfl λn k a _ hk ha hn=> ?_
  subst ha;rw[Sh,hv,zP (t:=.list .int) hvl];refine⟨zI hvl,?_⟩
  by_cases h:k<s[v].length
  ·rw[zR h,zP (t:=.int) h]
   refine⟨zI hvl,zI h,?_⟩;have:=lY l s[v][k] ho;refine zE this (zA (λe=>hn h (true,_) ?_) λe=>hn h (_,true) ?_)
   ·rw[ZW _ h,ZW _ h,e];simp
   ·rw[ZW _ h,ZW _ h,e];simp
  ·have hk':k=s[v].length:=by omega
   subst hk';rw[zO,List.take_length,ht];unfold Hz;rw[zmF];cases s[v].any (holdsL l)<;>cases s[v].any (λn=> !holdsL l n)<;>rfl
end Go.Proofs.YteimklbiapnfhaaGreat
namespace Go.Proofs.YteimklbiapnfhaaGreat
open Go.RowKit
set_option linter.unusedVariables false
set_option linter.unusedSimpArgs false
variable[Lo]
def yD(c:zQ)(vs:List Int):List Int:=c.vars.map λv=>vs.getD v.toNat 0
def QW(z:List (Int×Int)):Int:=(z.map λx=>x.1*x.2).sum
def Mo(a:Int)(l:List Int):Int:=l.foldl (λa x=>if x>a then x else a) a
def xD(c:zQ)(vs:List Int):Bool:=
 let x:=yD c vs
 if c.kind=1 then decide (QW (c.consts.zip x)≤c.n)
 else if c.kind=2 then decide (QW (c.consts.zip x)=c.n)
 else if c.kind=3 then !decide (QW (c.consts.zip x)=c.n)
 else if c.kind=4 then decide x.Nodup
 else if c.kind=5 then decide (0≤x.getD 0 0)&&decide (x.getD 0 0<c.consts.length)&&decide (c.consts.getD (x.getD 0 0).toNat 0=x.getD 1 0)
 else if c.kind=6 then c.rows.any λr=>decide (r=x)
 else if c.kind=7 then decide (x.getD 0 0*x.getD 1 0=x.getD 2 0)
 else if c.kind=8 then decide (x.getD 0 0=Mo (x.getD 1 0) (x.drop 1))
 else if c.kind=9 then c.lits.any λl=>holdsL l (vs.getD l.var.toNat 0)
 else(c.lits.take 1).any (λl=>holdsL l (vs.getD l.var.toNat 0))&&decide (x.getD 0 0=1)|| !(c.lits.take 1).any (λl=>holdsL l (vs.getD l.var.toNat 0))&&decide (x.getD 0 0=0)
structure uO (c:zQ)(nv:Nat):Prop where
 nv6:nv≤6
 kind:1≤c.kind∧c.kind≤10
 many:c.vars.length≤4∧c.lits.length≤4∧c.consts.length≤8∧c.rows.length≤20
 form:fP c=true
 vars:∀v∈c.vars,0≤v∧v<nv
 consts:∀n∈c.consts,-1000≤n∧n≤1000
 n: -1000≤c.n∧c.n≤1000
 rows:∀r∈c.rows,∀n∈r,-1000≤n∧n≤1000
 lits:∀l∈c.lits,jF nv l=0
theorem ziY{nv:Nat}{c:zQ}(hnv:nv≤6)(h:Yu nv c=0):uO c nv:=by
 by_cases h1:fh c.kind 1 10=false
 ·rw[zbb h1]at h;exact absurd h (by decide)
 by_cases h2:Vz c=true
 ·rw[zeG h1 h2]at h;exact absurd h (by decide)
 by_cases h3:fP c=false
 ·rw[zeH h1 h2 h3]at h;exact absurd h (by decide)
 by_cases h4:(c.vars.any (qC nv)||c.lits.any λl=>qC nv l.var)=true
 ·rw[Dt h1 h2 h3 h4]at h;exact absurd h (by decide)
 by_cases h5:(c.consts.any farB||farB c.n||c.rows.any λr=>r.any farB)=true
 ·rw[Ml h1 h2 h3 h4 h5]at h;exact absurd h (by decide)
 rw[zeI h1 h2 h3 h4 h5]at h
 rw[Bool.not_eq_true,Bool.or_eq_false_iff]at h4
 rw[Bool.not_eq_true,Bool.or_eq_false_iff,Bool.or_eq_false_iff]at h5
 have hfar:∀n,farB n=false→-1000≤n∧n≤1000:=λn h=>by simp[farB,fh]at h;exact h
 have hnone:∀v,qC nv v=false→0≤v∧v<nv:=λv h=>by simp[qC,fh]at h;omega
 refine⟨hnv,?_,?_,by simpa using h3,λv hv=>hnone v ?_,λn hn=>hfar n ?_,hfar _ h5.1.2,λr hr n hn=>hfar n ?_,λl hl=> ?_⟩
 ·rw[qS]at h1;omega
 ·simp[Vz]at h2;omega
 ·have:=List.any_eq_false.1 h4.1 v hv;simpa using this
 ·have:=List.any_eq_false.1 h5.1.1 n hn;simpa using this
 ·have:=List.any_eq_false.1 h5.2 r hr
  rw[Bool.not_eq_true]at this
  have:=List.any_eq_false.1 this n hn;simpa using this
 ·obtain⟨i,hi,rfl⟩:=List.getElem_of_mem hl
  have e:=YB h hi;rw[zhA]
  ·exact e
  ·have:=List.any_eq_false.1 h4.2 _ (List.getElem_mem hi);simpa using this
structure zoS (c:zQ):Prop where
 sums:c.kind≤3→1≤c.vars.length∧c.consts.length=c.vars.length
 differ:c.kind=4→1≤c.vars.length
 element:c.kind=5→c.vars.length=2∧1≤c.consts.length
 table:c.kind=6→1≤c.vars.length∧∀r∈c.rows,r.length=c.vars.length
 times:c.kind=7→c.vars.length=3
 max:c.kind=8→2≤c.vars.length
 clause:c.kind=9→c.vars.length=0
 iff:c.kind=10→c.vars.length=1∧c.lits.length=1
theorem uO.formC{c:zQ}{nv:Nat}(h:uO c nv):zoS c:=by
 have hf:=h.form;obtain⟨h1,h2⟩:=h.kind;constructor<;>intro hk
 ·have:c.kind=1∨c.kind=2∨c.kind=3:=by omega
  rcases this with e|e|e<;>simp[fP,e]at hf<;>omega
 all_goals simp[fP,hk]at hf
 all_goals first|omega|(simp_all;done)|(simp_all;omega)
structure QX (vs:List Int)(nv:Nat):Prop where
 len:vs.length=nv
 near:∀n∈vs,-50≤n∧n≤50
theorem QX.at{vs:List Int}{nv:Nat}(h:QX vs nv)(i:Nat): -50≤vs.getD i 0∧vs.getD i 0≤50:=by
 by_cases hi:i<vs.length
 ·rw[yN _ hi];exact h.near _ (List.getElem_mem hi)
 ·rw[List.getD_eq_getElem?_getD,List.getElem?_eq_none (by omega)];decide
theorem kY{c:zQ}{vs:List Int}:(yD c vs).length=c.vars.length:=List.length_map ..
theorem Sw{c:zQ}{vs:List Int}{nv:Nat}(h:QX vs nv):∀n∈yD c vs,-50≤n∧n≤50:=λn hn=>by
 obtain⟨v,_,rfl⟩:=List.mem_map.1 hn;exact h.at _
theorem Td{c:zQ}{vs:List Int}{k:Nat}(hk:k<c.vars.length):(yD c vs)[k]'(by rw[kY];exact hk)=vs.getD c.vars[k].toNat 0:=by simp[yD]
theorem QY{a b:Int}(h1: -1000≤a∧a≤1000)(h2: -50≤b∧b≤50): -50000≤a*b∧a*b≤50000:=by
 have:(a*b).natAbs≤1000*50:=by rw[Int.natAbs_mul];exact Nat.mul_le_mul (by omega) (by omega)
 omega
theorem zda{z:List (Int×Int)}(h:∀x∈z,(-1000≤x.1∧x.1≤1000)∧-50≤x.2∧x.2≤50): -50000*(z.length:Int)≤QW z∧QW z≤50000*(z.length:Int):=by
 induction z with
 |nil=>exact⟨by decide,by decide⟩
 |cons x z ih=>
  have h1:=ih λy hy=>h y (List.mem_cons_of_mem _ hy)
  have h2:=h x (List.mem_cons_self ..);have h3:=QY h2.1 h2.2;have e:QW (x::z)=x.1*x.2+QW z:=by rw[QW,List.map_cons,List.sum_cons];rfl
  rw[e,List.length_cons];omega
theorem Az{z:List (Int×Int)}{k:Nat}(h:k<z.length):QW (z.take (k+1))=QW (z.take k)+z[k].1*z[k].2:=by
 rw[←List.take_append_getElem h,QW,List.map_append,List.sum_append];simp[QW]
theorem uH{c:zQ}{vs:List Int}{nv:Nat}(hc:uO c nv)(hv:QX vs nv){k:Nat}(hk:k<c.vars.length):wO yO [dI k,.iptr [.sl .int vs] 0,.iptr [.int .i64 c.kind,.sl .int c.vars,.sl .int c.consts,.int .i64 c.n,.sl (.list .int) c.rows,.sl .lit c.lits] 0] (dI ((yD c vs)[k]'(by rw[kY];exact hk))):=
 JR k vs c λok=>by
  have hv1:=hc.vars _ (List.getElem_mem hk);rw[Gs,zP (t:=.int) hk,Td hk];exact⟨zI hk,vC.2 (by rw[hv.len];omega),rfl⟩
theorem Rm{l:zC}{vs:List Int}{nv:Nat}(hl:jF nv l=0)(hv:QX vs nv):wO qJ [dL l,.iptr [.sl .int vs] 0] (dB (holdsL l (vs.getD l.var.toNat 0))):=
 JS l vs λok=>by
  rw[Gt];exact⟨vC.2 (by rw[hv.len];exact(tS.1 hl).1),zE (dR l _) rfl⟩
theorem LH(c:zQ)(n:Int):wO iL [dC c,dI n] (dB (if c.kind=1 then decide (n≤c.n)else if c.kind=2 then decide (n=c.n)else !decide (n=c.n))):=
 Bk c n λok=>by
  rw[za8];refine zA (λe1=> ?_) λe1=>zA (λe2=> ?_) λe2=> ?_<;>simp at* <;>simp[*]
theorem cM(a b:List Int):wO yR [.sl .int a,.sl .int b] (dB (decide (a=b))):=
 WH a b λok=>by
  have hl:a.length≤9223372036854775807:=fq (t:=.int) (WD ok);rw[Ve];refine zA (λe=> ?_) λe=> ?_
  ·rw[decide_eq_false (p:=a=b) λh=>by subst h;simp at e]
  have e:a.length=b.length:=by simp at e;omega
  have hz:(a.zip b).length=a.length:=by rw[List.length_zip];omega
  refine OZ (I:=λn v=>pD a b _ n v) (a.zip b) (λx=> !decide (x.1=x.2)) (by omega) (X:=dB false=dB (decide (a=b))) (Y:=dB true=dB (decide (a=b))) (by rw[gP a b e];cases decide (a=b)<;>rfl) (λn k h hX hn=> ?_) λn hY=> ?_
  ·have hk:k<a.length:=by omega
   rw[List.getElem_zip]at hX hn
   rw[gL,zR hk,zP (t:=.int) hk,zP (t:=.int) (show k<b.length by omega)]
   exact⟨zI hk,zI (by omega),zA hX hn⟩
  ·rw[hz,gL,zO];exact hY
theorem GD(r x:List Int):wO ZE [.sl .int r,.iptr [.sl .int x] 0] (dB (decide (r=x))):=
 JT r x λok=>by rw[Gu];exact zE (cM r x) rfl
theorem AA{x y:Int}:∀(m:List (Int×Int)),(oa .int .int x y m).map (λe=>e.1)=if x∈m.map (λe=>e.1)then m.map (λe=>e.1)else m.map (λe=>e.1)++[x]
 |[]=>rfl
 |(a,b)::m=>by
  rw[oa,show Je .int x a=decide (x=a)from rfl]
  by_cases h:x=a
  ·rw[decide_eq_true h,cond_true,if_pos (by rw[h];exact List.mem_cons_self ..)];rfl
  ·rw[decide_eq_false h,cond_false,List.map_cons,AA m]
   simp only[List.map_cons,List.mem_cons,h,false_or];split<;>rfl
def sA:List Int→List Int→List Int
 |ks,[]=>ks
 |ks,x::xs=>sA (if x∈ks then ks else ks++[x]) xs
theorem zdb{l:List Int}{k:Nat}(h:k<l.length):∀ks,sA ks (l.take (k+1))=if l[k]∈sA ks (l.take k)then sA ks (l.take k)else sA ks (l.take k)++[l[k]]:=by
 induction l generalizing k with
 |nil=>exact absurd h (Nat.not_lt_zero _)
 |cons a l ih=>
  intro ks;cases k with
  |zero=>rfl
  |succ k=>rw[List.take_succ_cons,List.take_succ_cons,sA,sA];exact ih (by simpa using h) _
theorem Sx:∀(xs ks:List Int),(sA ks xs).length≤ks.length+xs.length
 |[],ks=>by simp[sA]
 |x::xs,ks=>by
  rw[sA];have:=Sx xs (if x∈ks then ks else ks++[x])
  rw[List.length_cons];split at this<;>simp at this⊢<;>simp_all<;>omega
theorem LI:∀(xs ks:List Int),(sA ks xs).length=ks.length+xs.length↔xs.Nodup∧∀x∈xs,x∉ks
 |[],ks=>by simp[sA]
 |x::xs,ks=>by
  rw[sA,List.nodup_cons,List.length_cons]
  by_cases h:x∈ks
  ·rw[if_pos h]
   have:=Sx xs ks;exact⟨λe=>by omega,λe=>absurd h (e.2 x (List.mem_cons_self ..))⟩
  ·rw[if_neg h]
   have ih:=LI xs (ks++[x]);rw[List.length_append,List.length_cons,List.length_nil]at ih
   rw[show ks.length+(xs.length+1)=ks.length+(0+1)+xs.length by omega,ih]
   simp only[List.mem_append,List.mem_cons,List.not_mem_nil,or_false];constructor
   ·rintro⟨h1,h2⟩
    exact⟨⟨λhx=>h2 x hx (.inr rfl),h1⟩,λy hy=>by
     rcases hy with rfl|hy
     ·exact h
     ·exact λhk=>h2 y hy (.inl hk)⟩
   ·rintro⟨⟨h1,h2⟩,h3⟩
    exact⟨h2,λy hy hk=>by
     rcases hk with hk|rfl
     ·exact h3 y (.inr hy) hk
     ·exact h1 hy⟩
end Go.Proofs.YteimklbiapnfhaaGreat
namespace Go.Proofs.YteimklbiapnfhaaGreat
open Go.RowKit
set_option linter.unusedVariables false
set_option linter.unusedSimpArgs false
variable[Lo]
theorem ziZ{m:zF}{l:zC}(h:wN m=0):wO rV [dM m,dL l] (dI (jF m.vars.length l)):=Yk m l (by have:=(oT h).vars;omega)
end Go.Proofs.YteimklbiapnfhaaGreat
namespace Go.Proofs.YteimklbiapnfhaaGreat
open Go.RowKit
set_option linter.unusedVariables false
set_option linter.unusedSimpArgs false
variable[Lo]
theorem zmG{l:zC}:(X3 l).var=l.var:=by
 unfold X3;split
 ·rfl
 split
 ·rfl
 split<;>rfl
theorem zi0{l:zC}(h:1≤l.op∧l.op≤4)(n:Int):holdsL (X3 l) n= !holdsL l n:=by
 have h3:l.op=1∨l.op=2∨l.op=3∨l.op=4:=by omega
 rcases h3 with h|h|h|h<;>simp[X3,holdsL,h]<;>first|rfl|(rw[←decide_not];exact decide_eq_decide.2 (by omega))|(exact decide_eq_decide.2 (by omega))|omega
theorem LJ{α:Type}{p:α→Bool}:∀ {r:List α},(r.filter p).length+(r.filter λx=> !p x).length=r.length
 |[]=>rfl
 |a::r=>by
  have:=LJ (p:=p) (r:=r);rw[List.filter_cons,List.filter_cons];cases p a<;>simp<;>omega
end Go.Proofs.YteimklbiapnfhaaGreat
namespace Go.Proofs.YteimklbiapnfhaaGreat
open Go.RowKit
set_option linter.unusedVariables false
set_option linter.unusedSimpArgs false
set_option maxRecDepth 100000
variable[Lo]
def NG:xJ:= {own:=[],live:=[],n:=19}
theorem DA(c:zF)(a:List (List Int))(b:List zC)(R:yC):FD NG Tryz.f19 [dM c,dS a,.sl .lit b] R=
 (zX oL [dM c,dS a,.sl .lit b] .int λd=>
 zN (!decide (d=0))
 (R (.tup [dS ([]:List (List Int)),dI d]))
 (zX uA [dS a,.sl .lit b] (.list (.list .int)) λe=>
 R (.tup [dS e,dI 0]))):=by kernel_rfl
theorem GE(a:zF)(b:List (List Int))(c:List zC):yY NG Tryz.f19 om [dM a,dS b,.sl .lit c]:=xA Tryz.func19 (by kernel_rfl) Tryz.ntmps19 rfl
def NH:xJ:= {own:=[],live:=[],n:=19}
theorem DB(c:zF)(a:List (List Int))(b:List zC)(R:yC):FD NH Tryz.f20 [dM c,dS a,.sl .lit b] R=
 (zX oL [dM c,dS a,.sl .lit b] .int λd=>
 zN (!decide (d=0))
 (R (.tup [dS ([]:List (List Int)),dI d]))
 (zX sI [dS a,.sl .lit b] (.list (.list .int)) λe=>
 R (.tup [dS e,dI 0]))):=by kernel_rfl
theorem GF(a:zF)(b:List (List Int))(c:List zC):yY NH Tryz.f20 oo [dM a,dS b,.sl .lit c]:=xA Tryz.func20 (by kernel_rfl) Tryz.ntmps20 rfl
def QZ:xJ:= {own:=[],live:=[],n:=24}
theorem GG(a:zF)(b:List zC)(c:List Int)(R:yC):FD QZ Tryz.f37 [dM a,.sl .lit b,.sl .int c] R=
 (zX jX [dM a,.sl .lit b] .int λd=>
 zN (!decide (d=0))
 (R (.tup [dB false,dI d]))
 (zN (!decide ((c.length:Int)=(a.vars.length:Int)))
 (R (.tup [dB false,dI 1]))
 (zX xZ [.sl .lit b,.clo dD none [.iptr [.sl .int c] 0]] .bool λe=>
 R (.tup [dB e,dI 0])))):=by kernel_rfl
theorem J7(a:zF)(b:List zC)(c:List Int):yY QZ Tryz.f37 fT [dM a,.sl .lit b,.sl .int c]:=xA Tryz.func37 (by kernel_rfl) Tryz.ntmps37 rfl
def Q0:xJ:= {own:=[],live:=[],n:=14}
theorem GH(a:zF)(b:List zC)(R:yC):FD Q0 Tryz.f38 [dM a,.sl .lit b] R=
 (zX ot [dM a] .int λc=>
 zN (!decide (c=0))
 (R (dI c))
 (zX lB [dM a,.sl .lit b] .int λd=>
 R (dI d))):=by kernel_rfl
theorem J8(a:zF)(b:List zC):yY Q0 Tryz.f38 jX [dM a,.sl .lit b]:=xA Tryz.func38 (by kernel_rfl) Tryz.ntmps38 rfl
def Q1:xJ:= {own:=[],live:=[],n:=17}
theorem GI(a:zF)(b:List (List Int))(c:List zC)(R:yC):FD Q1 Tryz.f55 [dM a,dS b,.sl .lit c] R=
 (zX rB [dM a,dS b] .int λd=>
 zN (!decide (d=0))
 (R (dI d))
 (zX lB [dM a,.sl .lit c] .int λe=>
 R (dI e))):=by kernel_rfl
theorem J9(a:zF)(b:List (List Int))(c:List zC):yY Q1 Tryz.f55 oL [dM a,dS b,.sl .lit c]:=xA Tryz.func55 (by kernel_rfl) Tryz.ntmps55 rfl
def X4:xJ:= {own:=[5,7,8],live:=[(0,([0,3,5,13,14,15],[5]))],n:=44}
def gY(b:List (List Int))(a:List zC)(R:yC)(c:Nat)(d e:Int):Prop:=LP X4 Tryz.f56 [1,1,1,0,1,0,0] 0 c ⟨[(0,dS b),(3,.iptr [.sl .lit a] 0),(5,.ptr 5 0),(13,.sl .lit a),(14,dI (a.length:Int)),(15,dI d)],[(5,.cells [dI e])]⟩ (zH 0 (sK X4 Tryz.f56 [1,1,1,1] 0 (eK Tryz.f56 R)))
theorem Ia(c:List (List Int))(a:List zC)(R:yC)(e:Nat)(b d:Int):gY c a R (e+1) b d=
 (zN (decide (b<(a.length:Int)))
 (wC b a.length=true∧
 zX Yv [dS c,dL (zG .lit a b.toNat)] .int λf=>
 zN (decide (f<0))
 (gY c a R e (xF (b+1)) d)
 (zN (decide (0≤d))
 (zN (!decide (d=((zG .lit a b.toNat).var)))
 (zX tG [dS c] (.list (.list .int)) λg=>
 R (dS g))
 (gY c a R e (xF (b+1)) ((zG .lit a b.toNat).var)))
 (gY c a R e (xF (b+1)) ((zG .lit a b.toNat).var))))
 (zN (decide (d<0))
 (zX yM [dS c] (.list (.list .int)) λh=>
 R (dS h))
 (zX xV [dS c,.clo fV none [.iptr [dI d] 0,.iptr [.clo lD none [.iptr [.sl .lit a] 0,.iptr [dI d] 0]] 0]] (.list (.list .int)) λi=>
 R (dS i)))):=by kernel_rfl
theorem Bu(a:List (List Int))(b:List zC)(R:yC):FD X4 Tryz.f56 [dS a,.sl .lit b] R=
 (zX zS [dS a] .bool λc=>
 zN c
 (zX tG [dS a] (.list (.list .int)) λd=>
 R (dS d))
 (∃n0,gY a b R n0 0 (-1))):=by kernel_rfl
theorem DC(a:List (List Int))(b:List zC):yY X4 Tryz.f56 uA [dS a,.sl .lit b]:=xA Tryz.func56 (by kernel_rfl) Tryz.ntmps56 rfl
def Te:xJ:= {own:=[],live:=[],n:=8}
theorem LK(a:List (List Int))(b:List zC)(R:yC):FD Te Tryz.f57 [dS a,.sl .lit b] R=
 (zX xV [dS a,.clo lE none [.iptr [.sl .lit b] 0]] (.list (.list .int)) λc=>
 R (dS c)):=by kernel_rfl
theorem Mp(a:List (List Int))(b:List zC):yY Te Tryz.f57 sI [dS a,.sl .lit b]:=xA Tryz.func57 (by kernel_rfl) Tryz.ntmps57 rfl
def Tf:xJ:= {own:=[],live:=[],n:=11}
theorem LL(a:zC)(b:List Int)(R:yC):FD Tf Tryz.f73 [dL a,.iptr [.sl .int b] 0] R=
 (wC a.var b.length=true∧
 zX kN [dL a,dI (zG .int b a.var.toNat)] .bool λc=>
 R (dB c)):=by kernel_rfl
theorem Mq(a:zC)(b:List Int):yY Tf Tryz.f73 dD [dL a,.iptr [.sl .int b] 0]:=xA Tryz.func73 (by kernel_rfl) Tryz.ntmps73 rfl
def ZX:xJ:= {own:=[6],live:=[(0,([2,11,12,13],[]))],n:=24}
def aH(a:zF)(b:List zC)(R:yC)(c:Nat)(d:Int):Prop:=LP ZX Tryz.f75 [1,1,0,1,0,0] 0 c ⟨[(2,.iptr (aS a []) 0),(11,.sl .lit b),(12,dI (b.length:Int)),(13,dI d)],[]⟩ (zH 0 (sK ZX Tryz.f75 [1,1,1] 0 (eK Tryz.f75 R)))
theorem WP(c:zF)(a:List zC)(R:yC)(d:Nat)(b:Int):aH c a R (d+1) b=
 (zN (decide (b<(a.length:Int)))
 (wC b a.length=true∧
 zX Ze [dM c,dL (zG .lit a b.toNat)] .int λe=>
 zN (!decide (e=0))
 (R (dI e))
 (aH c a R d (xF (b+1))))
 (R (dI 0))):=by kernel_rfl
theorem GJ(b:zF)(a:List zC)(R:yC):FD ZX Tryz.f75 [dM b,.sl .lit a] R=
 (zN (decide (40<(a.length:Int)))
 (R (dI 2))
 (∃n0,aH b a R n0 0)):=by kernel_rfl
theorem Ib(a:zF)(b:List zC):yY ZX Tryz.f75 lB [dM a,.sl .lit b]:=xA Tryz.func75 (by kernel_rfl) Tryz.ntmps75 rfl
def Q2:xJ:= {own:=[],live:=[],n:=8}
theorem GK(a:Int)(b:List zC)(c:Int)(R:yC):FD Q2 Tryz.f104 [dI a,.iptr [.sl .lit b] 0,.iptr [dI c] 0] R=
 (zX xZ [.sl .lit b,.clo dE none [.iptr [dI c] 0,.iptr [dI a] 0]] .bool λd=>
 R (dB d)):=by kernel_rfl
theorem Ic(a:Int)(b:List zC)(c:Int):yY Q2 Tryz.f104 lD [dI a,.iptr [.sl .lit b] 0,.iptr [dI c] 0]:=xA Tryz.func104 (by kernel_rfl) Tryz.ntmps104 rfl
def Tg:xJ:= {own:=[],live:=[],n:=14}
theorem LM(a:zC)(b c:Int)(R:yC):FD Tg Tryz.f105 [dL a,.iptr [dI b] 0,.iptr [dI c] 0] R=
 (zN (decide (a.var=b))
 (zX kN [dL a,dI c] .bool λd=>
 R (dB d))
 (R (dB false))):=by kernel_rfl
theorem Mr(a:zC)(b c:Int):yY Tg Tryz.f105 dE [dL a,.iptr [dI b] 0,.iptr [dI c] 0]:=xA Tryz.func105 (by kernel_rfl) Tryz.ntmps105 rfl
def Q3:xJ:= {own:=[],live:=[],n:=15}
theorem GL(b c d:Int)(a:FuncId)(e:List D)(R:yC):FD Q3 Tryz.f106 [dI b,dI c,.iptr [dI d] 0,.iptr [.clo a (some [.bool]) e] 0] R=
 (zN (!decide (b=d))
 (R (dB true))
 (aD a∧
 zX a ([dI c]++e) .bool λf=>
 R (dB f))):=by kernel_rfl
theorem Id(a b c:Int)(d:FuncId)(e:List D):yY Q3 Tryz.f106 fV [dI a,dI b,.iptr [dI c] 0,.iptr [.clo d (some [.bool]) e] 0]:=xA Tryz.func106 (by kernel_rfl) Tryz.ntmps106 rfl
def WQ:xJ:= {own:=[],live:=[],n:=10}
theorem Nb(a b:Int)(c:List zC)(R:yC):FD WQ Tryz.f107 [dI a,dI b,.iptr [.sl .lit c] 0] R=
 (zX xZ [.sl .lit c,.clo kP none [.iptr [dI a] 0,.iptr [dI b] 0]] .bool λd=>
 R (dB (!d))):=by kernel_rfl
theorem Q4(a b:Int)(c:List zC):yY WQ Tryz.f107 lE [dI a,dI b,.iptr [.sl .lit c] 0]:=xA Tryz.func107 (by kernel_rfl) Tryz.ntmps107 rfl
def Xn:xJ:= {own:=[],live:=[],n:=14}
theorem RW(a:zC)(b c:Int)(R:yC):FD Xn Tryz.f108 [dL a,.iptr [dI b] 0,.iptr [dI c] 0] R=
 (zN (decide (a.var=b))
 (zX kN [dL a,dI c] .bool λd=>
 R (dB d))
 (R (dB false))):=by kernel_rfl
theorem Sy(a:zC)(b c:Int):yY Xn Tryz.f108 kP [dL a,.iptr [dI b] 0,.iptr [dI c] 0]:=xA Tryz.func108 (by kernel_rfl) Tryz.ntmps108 rfl
end Go.Proofs.YteimklbiapnfhaaGreat
namespace Go.Proofs.YteimklbiapnfhaaGreat
open Go.RowKit
set_option linter.unusedVariables false
set_option linter.unusedSimpArgs false
variable[Lo]
theorem Ms(l:List Int):cV wB [.sl .int l] [] (.own 3000) [(3000,.row 3 .int l)]:=
 WG l λok _=>by
  rw[Vd];intro b hb;refine zA (λe=> ?_) λe=>⟨?_,?_⟩
  ·rw[hb e];exact⟨rfl,rfl⟩
  ·refine xR (t:=.int) ?_
   have:=(mC (t:=.int) (WD ok)).1;show(0+l.length)*8≤_
   have h8:l.length*8≤140737488355328:=this;omega
  ·exact⟨rfl,rfl⟩
theorem ZY(s:List (List Int)):wO tG [dS s] (dS s):=
 Bd s λok=>by
  have hs:fz s:=mC (WD ok);have hsl:=dQ hs;rw[za5];refine up (I:=λn v a=>XW s _ n v a) 0 s.length rfl (Nat.zero_le _) (by omega) (λk a=>a=s.take k) rfl λn k a _ hk ha hn=> ?_
  subst ha;rw[Gj]
  by_cases h:k<s.length
  ·rw[zR h,zP (t:=.list .int) h]
   refine⟨zI h,_,Ms _,xR (t:=.list .int) ?_,hn h _ (List.take_append_getElem h)⟩;rw[List.length_take];show(_+1)*24≤_
   omega
  ·have hk':k=s.length:=by omega
   subst hk';rw[zO,List.take_length]
def iN(s:List (List Int)):List (List Int):=List.replicate s.length []
theorem dT(s:List (List Int)):wO yM [dS s] (dS (iN s)):=
 Lt s λok=>by
  have hs:fz s:=mC (WD ok);have hsl:=dQ hs;rw[JH];refine⟨rfl,by omega,xR (t:=.list .int) ?_,rfl⟩
  rw[Int.toNat_natCast];show _*24≤_
  omega
def vH(nv:Nat)(c:List zC):Int:=if 40<c.length then 2 else wL (λ_ l=>jF nv l) 0 c
theorem aI(m:zF)(c:List zC):wO lB [dM m,.sl .lit c] (dI (vH m.vars.length c)):=
 Ib m c λok=>by
  rw[GJ];refine zA (λe=> ?_) λe=> ?_
  ·exact wG (if_pos (by simp at e;omega))
  have e:¬40<c.length:=by simp at e;omega
  rw[show vH m.vars.length c=wL (λ_ l=>jF m.vars.length l) 0 c from if_neg e]
  refine C8 (I:=λn v=>aH m c _ n v) c (λ_ l=>jF m.vars.length l) (by omega) (X:=λx=>D.int .i64 x=dI (wL (λ_ l=>jF m.vars.length l) 0 c)) (Y:=D.int .i64 0=dI (wL (λ_ l=>jF m.vars.length l) 0 c)) (λ_=>rfl) (λe=>wG e) (λn k h _ hX hn=> ?_) λn hY=> ?_
  ·rw[WP,zR h,zP (t:=.lit) h]
   exact⟨zI h,zE (Sv m _) (zA (λe=>hX (xO e)) λe=>hn (zU e))⟩
  ·rw[WP,zO];exact hY
theorem kZ{nv:Nat}{c:List zC}(h:vH nv c=0):c.length≤40∧∀l∈c,jF nv l=0:=by
 unfold vH at h
 split at h
 ·exact absurd h (by decide)
 rename_i h1;refine⟨by omega,λl hl=> ?_⟩
 obtain⟨i,hi,rfl⟩:=List.getElem_of_mem hl;exact YB h hi
def zdc(m:zF)(c:List zC):Int:=if wN m≠0 then wN m else vH m.vars.length c
theorem zk6{m:zF}{c:List zC}(h:wN m≠0):zdc m c=wN m:=if_pos h
theorem zk7{m:zF}{c:List zC}(h:wN m=0):zdc m c=vH m.vars.length c:=if_neg (not_not_intro h)
theorem zi1{m:zF}{c:List zC}(h:zdc m c=0):wN m=0∧vH m.vars.length c=0:=by
 by_cases h1:wN m=0
 ·exact⟨h1,by rw[zk7 h1]at h;exact h⟩
 ·rw[zk6 h1]at h;exact absurd h h1
theorem Rn(m:zF)(c:List zC):wO jX [dM m,.sl .lit c] (dI (zdc m c)):=
 J8 m c λok=>by
  rw[GH];refine zE (eM m) (zA (λe=> ?_) λe=> ?_)
  ·exact wG (zk6 (xO e))
  ·exact zE (aI m c) (wG (zk7 (zU e)))
def Mu(c:List zC)(vs:List Int):Bool:=c.any λl=>holdsL l (vs.getD l.var.toNat 0)
theorem LN{l:zC}{vs:List Int}(h:0≤l.var∧l.var<vs.length):wO dD [dL l,.iptr [.sl .int vs] 0] (dB (holdsL l (vs.getD l.var.toNat 0))):=
 Mq l vs λok=>by
  rw[LL];exact⟨vC.2 (by omega),zE (dR l _) rfl⟩
def HD(m:zF)(c:List zC)(vs:List Int):Int:=if zdc m c≠0 then zdc m c else if vs.length≠m.vars.length then 1 else 0
theorem GM(m:zF)(c:List zC)(vs:List Int):wO fT [dM m,.sl .lit c,.sl .int vs] (.tup [dB (orB (HD m c vs) (Mu c vs)),dI (HD m c vs)]):=
 J7 m c vs λok=>by
  rw[GG];refine zE (Rn m c) (zA (λe=> ?_) λe=> ?_)
  ·have e:=xO e
   rw[show HD m c vs=zdc m c from if_pos e,zc8 e]
  have e:=zU e;obtain⟨h1,h2⟩:=zi1 e;have h3:=(kZ h2).2;refine zA (λf=> ?_) λf=> ?_
  ·have:HD m c vs=1:=by rw[HD,if_neg (not_not_intro e),if_pos (by simp at f;omega)]
   rw[this];rfl
  ·have fl:vs.length=m.vars.length:=by simp at f;omega
   have:HD m c vs=0:=by rw[HD,if_neg (not_not_intro e),if_neg (not_not_intro fl)]
   rw[this];exact zE (uY (p:=λl=>holdsL l (vs.getD l.var.toNat 0)) Mi λl hl=>LN (by have:=(tS.1 (h3 l hl)).1;omega)) rfl
def LO(m:zF)(s:List (List Int))(c:List zC):Int:=if vB m [s]≠0 then vB m [s]else vH m.vars.length c
theorem zk8{m:zF}{s:List (List Int)}{c:List zC}(h:vB m [s]≠0):LO m s c=vB m [s]:=if_pos h
theorem zk9{m:zF}{s:List (List Int)}{c:List zC}(h:vB m [s]=0):LO m s c=vH m.vars.length c:=if_neg (not_not_intro h)
theorem AB{m:zF}{s:List (List Int)}{c:List zC}(h:LO m s c=0):wN m=0∧rH m s=0∧vH m.vars.length c=0:=by
 by_cases h1:vB m [s]=0
 ·rw[zk9 h1]at h
  have h2:=iM h1;rw[bP (not_not_intro h2),eO]at h1
  exact⟨h2,h1,h⟩
 ·rw[zk8 h1]at h;exact absurd h h1
theorem aJ(m:zF)(s:List (List Int))(c:List zC):wO oL [dM m,dS s,.sl .lit c] (dI (LO m s c)):=
 J9 m s c λok=>by
  rw[GI];refine zE (jZ m s) (zA (λe=> ?_) λe=> ?_)
  ·exact wG (zk8 (xO e))
  ·exact zE (aI m c) (wG (zk9 (zU e)))
def atC(c:List zC)(v n:Int):Bool:=c.any λl=>if l.var=v then holdsL l n else false
theorem LQ(l:zC)(v n:Int):wO dE [dL l,.iptr [dI v] 0,.iptr [dI n] 0] (dB (if l.var=v then holdsL l n else false)):=
 Mr l v n λok=>by
  rw[LM];refine zA (λe=> ?_) λe=> ?_
  ·rw[if_pos (of_decide_eq_true e)];exact zE (dR l n) rfl
  ·rw[if_neg (of_decide_eq_false e)]
theorem GN(n:Int)(c:List zC)(v:Int):wO lD [dI n,.iptr [.sl .lit c] 0,.iptr [dI v] 0] (dB (atC c v n)):=
 Ic n c v λok=>by
  rw[GK];exact zE (uY Mj λl _=>LQ l v n) rfl
theorem Ro(w n v:Int)(c:List zC):wO fV [dI w,dI n,.iptr [dI v] 0,.iptr [.clo lD none [.iptr [.sl .lit c] 0,.iptr [dI v] 0]] 0] (dB (!decide (w=v)||atC c v n)):=
 mB.iclo (pre:=[_,_,_]) (Id w n v lD [.iptr [.sl .lit c] 0,.iptr [dI v] 0] λok=>by
  rw[GL];refine zA (λe=> ?_) λe=>⟨JV,zE (GN n c v) ?_⟩
  ·rw[e];rfl
  ·rw[e];rfl)
theorem RX(l:zC)(v n:Int):wO kP [dL l,.iptr [dI v] 0,.iptr [dI n] 0] (dB (if l.var=v then holdsL l n else false)):=
 Sy l v n λok=>by
  rw[RW];refine zA (λe=> ?_) λe=> ?_
  ·rw[if_pos (of_decide_eq_true e)];exact zE (dR l n) rfl
  ·rw[if_neg (of_decide_eq_false e)]
theorem XM(v n:Int)(c:List zC):wO lE [dI v,dI n,.iptr [.sl .lit c] 0] (dB (!atC c v n)):=
 Q4 v n c λok=>by
  rw[Nb];exact zE (uY Sq λl _=>RX l v n) rfl
def fA(s:List (List Int))(c:List zC):List (List Int):=pZ (λv n=> !atC c v n) s
theorem VO(s:List (List Int))(c:List zC):wO sI [dS s,.sl .lit c] (dS (fA s c)):=
 Mp s c λok=>by
  rw[LK];exact zE (bO (f:=λv n=> !atC c v n) Xj λv hv n hn=>XM v n c) rfl
def zla(s:List (List Int))(c:List zC)(one:Int):List (List Int):=pZ (λv n=> !decide ((v:Int)=one)||atC c one n) s
def Q5(s:List (List Int))(c:List zC):List zC→Int→List (List Int)
 |[],one=>if one<0 then iN s else zla s c one
 |l::ls,one=>if ZV s l<0 then Q5 s c ls one else if 0≤one∧one≠l.var then s else Q5 s c ls l.var
def kC(s:List (List Int))(c:List zC):List (List Int):=if zY s=true then s else Q5 s c c (-1)
theorem NI{s:List (List Int)}{c:List zC}(hc:∀l∈c,0≤l.var∧l.var<s.length):wO uA [dS s,.sl .lit c] (dS (kC s c)):=
 DC s c λok=>by
  have hl:c.length≤9223372036854775807:=fq (t:=.lit) (WD (okR ok));rw[Bu];refine zE (yK s) (zA (λe=> ?_) λe=> ?_)
  ·rw[kC,if_pos e]
   exact zE (ZY s) rfl
  rw[kC,if_neg (by rw[e];decide)]
  refine up (I:=λn v a=>gY s c _ n v a) 0 c.length rfl (Nat.zero_le _) (by omega) (λk a=>Q5 s c (c.drop k) a=Q5 s c c (-1)) (by rw[List.drop_zero]) λn k a _ hk ha hn=> ?_
  rw[Ia]
  by_cases h:k<c.length
  ·rw[zR h,zP (t:=.lit) h]
   rw[List.drop_eq_getElem_cons h,Q5]at ha
   refine⟨zI h,zE (HA (hc _ (List.getElem_mem h))) (zA (λe=> ?_) λe=> ?_)⟩
   ·rw[if_pos (of_decide_eq_true e)]at ha
    exact hn h _ ha
   rw[if_neg (of_decide_eq_false e)]at ha
   refine zA (λf=>zA (λg=> ?_) λg=> ?_) λf=> ?_
   ·rw[if_pos ⟨of_decide_eq_true f,by simpa using g⟩]at ha
    rw[←ha];exact zE (ZY s) rfl
   ·rw[if_neg (λx=>x.2 (by simpa using g))]at ha
    exact hn h _ ha
   ·rw[if_neg (λx=>of_decide_eq_false f x.1)]at ha
    exact hn h _ ha
  ·have hk':k=c.length:=by omega
   subst hk';rw[List.drop_length,Q5]at ha
   rw[zO,←ha];refine zA (λe=> ?_) λe=> ?_
   ·rw[if_pos (of_decide_eq_true e)]
    exact zE (dT s) rfl
   ·rw[if_neg (of_decide_eq_false e)]
    exact zE (bO (f:=λv n=> !decide ((v:Int)=a)||atC c a n) U5 λv hv n hn=>Ro v n a c) rfl
theorem DD(m:zF)(s:List (List Int))(c:List zC):wO om [dM m,dS s,.sl .lit c] (.tup [dS (Od (LO m s c) (kC s c)),dI (LO m s c)]):=
 GE m s c λok=>by
  rw[DA];refine zE (aJ m s c) (zA (λe=> ?_) λe=> ?_)
  ·rw[J5 (xO e)]
  ·have h:=AB (zU e)
   have hl:=aY h.2.1;rw[Mm (zU e),zU e];exact zE (NI λl hl=>by have:=(tS.1 ((kZ h.2.2).2 l hl)).1;omega) rfl
theorem DE(m:zF)(s:List (List Int))(c:List zC):wO oo [dM m,dS s,.sl .lit c] (.tup [dS (Od (LO m s c) (fA s c)),dI (LO m s c)]):=
 GF m s c λok=>by
  rw[DB];refine zE (aJ m s c) (zA (λe=> ?_) λe=> ?_)
  ·rw[J5 (xO e)]
  ·rw[Mm (zU e),zU e]
   exact zE (VO s c) rfl
end Go.Proofs.YteimklbiapnfhaaGreat
namespace Go.Proofs.YteimklbiapnfhaaGreat
open Go.RowKit
set_option linter.unusedVariables false
set_option linter.unusedSimpArgs false
variable[Lo]
theorem zeT:wO fT [dM tQ,.sl .lit [⟨0,3,2⟩,⟨1,2,1⟩],.sl .int [0,1]] (.tup [dB true,dI 0]):=by
 have h:=GM tQ [⟨0,3,2⟩,⟨1,2,1⟩] [0,1]
 rwa[show HD tQ [⟨0,3,2⟩,⟨1,2,1⟩] [0,1]=0 by kernel_rfl,show orB 0 (Mu [⟨0,3,2⟩,⟨1,2,1⟩] [0,1])=true by kernel_rfl]at h
theorem zlb:wO om [dM tQ,dS [[0,1],[0,1,2]],.sl .lit [⟨0,3,2⟩,⟨1,2,1⟩]] (.tup [dS [[0,1],[1,2]],dI 0]):=by
 have h:=DD tQ [[0,1],[0,1,2]] [⟨0,3,2⟩,⟨1,2,1⟩]
 rwa[show LO tQ [[0,1],[0,1,2]] [⟨0,3,2⟩,⟨1,2,1⟩]=0 by kernel_rfl,show Od 0 (kC [[0,1],[0,1,2]] [⟨0,3,2⟩,⟨1,2,1⟩])=[[0,1],[1,2]] by kernel_rfl]at h
theorem zlc:wO oo [dM tQ,dS [[0,1],[0,1,2]],.sl .lit [⟨0,3,2⟩,⟨1,2,1⟩]] (.tup [dS [[0,1],[0]],dI 0]):=by
 have h:=DE tQ [[0,1],[0,1,2]] [⟨0,3,2⟩,⟨1,2,1⟩]
 rwa[show LO tQ [[0,1],[0,1,2]] [⟨0,3,2⟩,⟨1,2,1⟩]=0 by kernel_rfl,show Od 0 (fA [[0,1],[0,1,2]] [⟨0,3,2⟩,⟨1,2,1⟩])=[[0,1],[0]] by kernel_rfl]at h
theorem zeU:wO jX [dM tQ,.sl .lit [⟨0,3,2⟩,⟨1,2,1⟩]] (dI 0):=by
 have h:=Rn tQ [⟨0,3,2⟩,⟨1,2,1⟩]
 rwa[show zdc tQ [⟨0,3,2⟩,⟨1,2,1⟩]=0 by kernel_rfl]at h
theorem Up:wO o4 [] (dB true):=
 Vi λok=>by
  rw[Ul];exact zE xS (kH (t:=.bool) (u:=.int) zeT (zE xS (kH (t:=.list (.list .int)) (u:=.int) zlb (zE xS (kH (t:=.list (.list .int)) (u:=.int) zlc (zE xS (zE zeU (zE (xC _ _) (zE (xC _ _) rfl)))))))))
end Go.Proofs.YteimklbiapnfhaaGreat
namespace Go.Proofs.YteimklbiapnfhaaGreat
open Go.RowKit
set_option linter.unusedVariables false
set_option linter.unusedSimpArgs false
set_option maxRecDepth 100000
variable[Lo]
def EvF:TE where
 zs:=[(3,(false,[dI 0])),(9,(false,[.str (⟨#[]⟩)])),(22,(false,[.nil])),(23,(false,[.nil])),(25,(true,[.sl .var ([]:List vF),.sl .con ([]:List zQ),dI 0,dI 0])),(27,(false,[.nil])),(28,(false,[.nil])),(29,(false,[.nil])),(45,(false,[.nil])),(49,(false,[.nil])),(62,(false,[.nil])),(67,(true,[dI 0,dI 0,dI 0])),(72,(true,[dI 0,dI 0,.sl .lit ([]:List zC)])),(74,(true,[dI 0,.sl .int ([]:List Int),.sl .int ([]:List Int),dI 0,dS ([]:List (List Int)),.sl .lit ([]:List zC)])),(84,(false,[.undef])),(97,(true,[.str (⟨#[]⟩),dI 0,dI 0])),(102,(false,[.undef])),(130,(true,[.sl .var ([]:List vF),.sl .con ([]:List zQ),dI 0,dI 0,.sl (.list .lit) ([]:List (List zC)),dS ([]:List (List Int)),.nil]))]
 sl:=[(22,(97,.var)),(23,(74,.con)),(26,(62,.fr (.list .int))),(27,(62,.fr (.list .int))),(28,(45,.list .lit)),(29,(67,.fr .lit)),(45,(67,.fr .lit)),(49,(72,.fr .step)),(56,(27,.list (.list .int))),(62,(3,.fr .int)),(151,(155,.term)),(165,(29,.list .lit)),(171,(9,.str)),(198,(202,.tok))]
 fld:=[(25,[(0,1),(1,1),(2,1),(3,1)]),(67,[(0,1),(1,1),(2,1)]),(72,[(0,1),(1,1),(2,1)]),(74,[(0,1),(1,1),(2,1),(3,1),(4,1),(5,1)]),(97,[(0,1),(1,1),(2,1)]),(130,[(0,4),(4,1),(5,1),(6,1)])]
 strs:=[]
 ints:=[(2,.i64),(3,.i64),(5,.u8),(6,.u8),(34,.i64),(188,.i64),(229,.u8),(230,.u8)]
 bools:=[]
 sig:=[(rB,[.int]),(ot,[.int]),(rL,[.fr (.list (.list .int))]),(ou,[.int]),(xV,[.fr (.list (.list .int))]),(yH,[.bool]),(vR,[.fr (.list (.list .int))]),(oL,[.int]),(uA,[.fr (.list (.list .int))]),(sI,[.fr (.list (.list .int))]),(kM,[.int]),(sX,[.fr (.list (.list .int))]),(nM,[.int]),(sC,[.fr (.list .lit),.bool]),(mV,[.int]),(oM,[.list .lit,.bool]),(rC,[.fr (.list .lit)]),(mW,[.fr (.list .step)]),(zS,[.bool]),(qH,[.fr (.list .lit),.bool]),(tG,[.fr (.list (.list .int))]),(qI,[.list .int]),(hZ,[.bool]),(yM,[.fr (.list (.list .int))]),(jY,[.bool]),(Yv,[.int]),(tJ,[.bool]),(tE,[.fr (.list .lit)]),(rE,[.fr (.list .lit)]),(lF,[.lit]),(kQ,[.fr (.list (.list .int))]),(zT,[.bool]),(yF,[.fr (.list .lit)]),(gX,[.bool]),(Zf,[.fr (.list (.list .int))])]
 mps:=[]
 sts:=[]
 hsig:=[(rD,{tys:=[.con,.list (.list .int),.list .int,.list .int,.list (.pr (.pr .int .int) .int)],nils:=[],datas:=[],res:=λxs _=>match xs with|[.agg y0,y1,y2,y3,.sl (.pr (.pr .int .int) .int) y4]=>some (.clo 149 none [.iptr [.iptr (y0++[y1,y2,y3,.mp (.pr .int .int) .int y4]) 0] 0],[])|_=>none}),
  (nN,{tys:=[.list .term,.list (.pr .int (.list .int)),.con],nils:=[],datas:=[],res:=λxs _=>match xs with|[y0,.sl (.pr .int (.list .int)) y1,.agg y2]=>some (.clo 152 none [.iptr [y0] 0,.iptr [.mp .int (.list .int) y1] 0,.iptr y2 0],[])|_=>none}),
  (nO,{tys:=[.list (.list .int),.con],nils:=[],datas:=[],res:=λxs _=>match xs with|[y0,.agg y1]=>some (.clo 156 none [.iptr [y0] 0,.iptr y1 0],[])|_=>none}),
  (wY,{tys:=[.list (.fr .lit)],nils:=[],datas:=[],res:=λxs ob=>match xs with|[.sl (.fr .lit) y0]=>some (.own 3000,[(3000,.row 67 (.fr .lit) y0)])|_=>none}),
  (uU,{tys:=[.list (.fr (.list .int)),.list (.fr .step)],nils:=[(0,(6,(72,.fr .step)))],datas:=[],res:=λxs ob=>match xs,ob 1000,ob 2000 with|[y0,.sl (.fr .step) y1],some (.cells o1000),some o2000=>some (.tup [],[(1000,.cells (o1000.set 5 y0)),(2000,.row 72 (.fr .step) y1)])|_,_,_=>none}),
  (wB,{tys:=[.list (.fr .int)],nils:=[],datas:=[],res:=λxs ob=>match xs with|[.sl (.fr .int) y0]=>some (.own 3000,[(3000,.row 3 (.fr .int) y0)])|_=>none}),
  (vQ,{tys:=[.list (.fr (.list .int))],nils:=[],datas:=[],res:=λxs ob=>match xs with|[.sl (.fr (.list .int)) y0]=>some (.own 3000,[(3000,.row 62 (.fr (.list .int)) y0)])|_=>none}),
  (vY,{tys:=[.bool,.list (.pr .int .int),.list (.pr .int .int)],nils:=[],datas:=[(0,0)],res:=λxs ob=>match xs,ob 1000,ob 1001,ob 1002 with|[y0,.sl (.pr .int .int) y1,.sl (.pr .int .int) y2],some o1000,some o1001,some o1002=>some (y0,[(1000,o1000),(1001,.mp .int .int y1),(1002,.mp .int .int y2)])|_,_,_,_=>none}),
  (vV,{tys:=[.list (.fr .lit)],nils:=[],datas:=[],res:=λxs ob=>match xs with|[.sl (.fr .lit) y0]=>some (.own 3000,[(3000,.row 67 (.fr .lit) y0)])|_=>none,raw:=true}),
  (uV,{tys:=[.bool,.list (.fr (.list .int)),.list (.fr .step)],nils:=[(0,(6,(72,.fr .step)))],datas:=[],res:=λxs ob=>match xs,ob 1000,ob 2000 with|[y0,y1,.sl (.fr .step) y2],some (.cells o1000),some o2000=>some (y0,[(1000,.cells (o1000.set 5 y1)),(2000,.row 72 (.fr .step) y2)])|_,_,_=>none}),
  (wI,{tys:=[.list (.fr .lit)],nils:=[],datas:=[],res:=λxs ob=>match xs with|[.sl (.fr .lit) y0]=>some (.own 3000,[(3000,.row 67 (.fr .lit) y0)])|_=>none,raw:=true})]
 vals:=[130,148,161]
 arr:=[]
 thr:=[]
theorem znZ:EvF.chk Tryz.prog=true:=by kernel_rfl
theorem zn0:∀x∈EvF.sig,∀args w,(callFunc x.1 args).run Tryz.prog w=.ok (.enter x.1 args) w:=by
 intro x hx args w;simp only[EvF,List.mem_cons,List.not_mem_nil,or_false]at hx
 rcases hx with rfl|rfl|rfl|rfl|rfl|rfl|rfl|rfl|rfl|rfl|rfl|rfl|rfl|rfl|rfl|rfl|rfl|rfl|rfl|rfl|rfl|rfl|rfl|rfl|rfl|rfl|rfl|rfl|rfl|rfl|rfl|rfl|rfl|rfl|rfl
 ·exact Tryz.call36 args w
 ·exact Tryz.call48 args w
 ·exact Tryz.call49 args w
 ·exact Tryz.call50 args w
 ·exact Tryz.call51 args w
 ·exact Tryz.call53 args w
 ·exact Tryz.call54 args w
 ·exact Tryz.call55 args w
 ·exact Tryz.call56 args w
 ·exact Tryz.call57 args w
 ·exact Tryz.call58 args w
 ·exact Tryz.call59 args w
 ·exact Tryz.call60 args w
 ·exact Tryz.call61 args w
 ·exact Tryz.call62 args w
 ·exact Tryz.call63 args w
 ·exact Tryz.call64 args w
 ·exact Tryz.call65 args w
 ·exact Tryz.call71 args w
 ·exact Tryz.call77 args w
 ·exact Tryz.call94 args w
 ·exact Tryz.call95 args w
 ·exact Tryz.call96 args w
 ·exact Tryz.call97 args w
 ·exact Tryz.call100 args w
 ·exact Tryz.call103 args w
 ·exact Tryz.call110 args w
 ·exact Tryz.call111 args w
 ·exact Tryz.call112 args w
 ·exact Tryz.call117 args w
 ·exact Tryz.call118 args w
 ·exact Tryz.call159 args w
 ·exact Tryz.call161 args w
 ·exact Tryz.call162 args w
 ·exact Tryz.call164 args w
theorem zmH:EvF.chk2 Tryz.prog=true:=by kernel_rfl
theorem zmI:∀x∈EvF.hsig,aD x.1:=by
 intro x hx args w;simp only[EvF,List.mem_cons,List.not_mem_nil,or_false]at hx
 rcases hx with rfl|rfl|rfl|rfl|rfl|rfl|rfl|rfl|rfl|rfl|rfl
 ·exact Tryz.call98 args w
 ·exact Tryz.call99 args w
 ·exact Tryz.call101 args w
 ·exact Tryz.call115 args w
 ·exact Tryz.call119 args w
 ·exact Tryz.call140 args w
 ·exact Tryz.call157 args w
 ·exact Tryz.call158 args w
 ·exact Tryz.call163 args w
 ·exact Tryz.call165 args w
 ·exact Tryz.call180 args w
theorem zdd:vM Tryz.prog EvF:=EV (by kernel_rfl) znZ zmH zn0 zmI
abbrev Jh(A:xJ)(fn:Func)(ds:List D)(R:yC):Prop:=fnD Tryz.prog EvF A fn.results.toList (sQ fn) ds R
abbrev FHF(A:xJ)(fn:Func)(ds:List D)(hp:List (Nat×wT))(roots:List D)(own:Bool)(R:VD):Prop:=fnH Tryz.prog EvF A fn.results.toList (sQ fn) ds hp roots own R
def jL(A:xJ)(fn:Func)(f:FuncId)(ds:List D):Prop:=∀ {r:D},((∀d∈ds,Hn d)→Jh A fn ds λd=>d=r)→wO f ds r
def zbj(A:xJ)(fn:Func)(f:FuncId)(ds:List D)(hp:List (Nat×wT))(roots:List D)(own:Bool):Prop:=∀ {r:D} {h0:List (Nat×wT)},((∀d∈ds,Hn d)→(∀k o,yB k hp=some o→okO o)→FHF A fn ds hp roots own λd h1=>d=r∧h1=h0)→cV f ds hp r h0
theorem iA{A:xJ}{fn:Func}{f:FuncId}{ds:List D}(hf:Tryz.prog.funcs[f]? =some fn)(hb:fn.body=some (sQ fn))(hn:fn.ntmps=A.n)(hl:Nat.ble ds.length A.n=true):jL A fn f ds:=λh=>zkw zdd hf hb hn.symm (by rw[hn];exact Nat.le_of_ble_eq_true hl) h
theorem zeV{A:xJ}{fn:Func}{f:FuncId}{ds:List D}{hp:List (Nat×wT)}{roots:List D}{own:Bool}(hf:Tryz.prog.funcs[f]? =some fn)(hb:fn.body=some (sQ fn))(hn:fn.ntmps=A.n)(hl:Nat.ble ds.length A.n=true):zbj A fn f ds hp roots own:=λh=>zhh zdd hf hb hn.symm (by rw[hn];exact Nat.le_of_ble_eq_true hl) h
abbrev CZ(A:xJ)(fn:Func)(path:List Nat)(cur n:Nat)(σ:St)(K:Ex→St→Prop):Prop:=zaG (den Tryz.prog EvF A (sub path (sQ fn)) cur) A (V5 A cur) n σ K
abbrev HE(A:xJ)(fn:Func)(path:List Nat)(cur:Nat)(K:Ex→St→Prop):=zoB Tryz.prog EvF A (sub path (sQ fn)) cur K
abbrev iKF(A:xJ)(fn:Func)(path:List Nat)(cur n:Nat)(K:Ex→St→Prop):=zkq (den Tryz.prog EvF A (sub path (sQ fn)) cur) A (V5 A cur) n K
abbrev eKF(fn:Func)(R:yC):=znL EvF fn.results.toList R
abbrev eHF(fn:Func)(roots:List D)(own:Bool)(R:VD):=Ma EvF fn.results.toList roots own R
end Go.Proofs.YteimklbiapnfhaaGreat
namespace Go.Proofs.YteimklbiapnfhaaGreat
open Go.RowKit
set_option linter.unusedVariables false
set_option linter.unusedSimpArgs false
set_option maxRecDepth 100000
variable[Lo]
def Q6:xJ:= {own:=[],live:=[],n:=32}
theorem GO(a:zF)(b:List (List zC))(c:List zC)(R:yC):Jh Q6 Tryz.f25 [dM a,.sl (.list .lit) b,.sl .lit c] R=
 (zX mV [dM a,.sl (.list .lit) b,.sl .lit c] .int λd=>
 zN (!decide (d=0))
 (R (.tup [.sl (.fr .step) ([]:List (xN)),dB false,dI d]))
 (Lq oM [dM a,.sl (.list .lit) b,.sl .lit c] (.list .lit) .bool λe f=>
 zN (!f)
 (R (.tup [.sl (.fr .step) ([]:List (xN)),dB false,dI 0]))
 (zX mW [dM a,.sl (.list .lit) b,.sl .lit e] (.fr (.list .step)) λg=>
 R (.tup [.sl (.fr .step) g,dB true,dI 0])))):=by kernel_rfl
theorem Ie(a:zF)(b:List (List zC))(c:List zC):jL Q6 Tryz.f25 oq [dM a,.sl (.list .lit) b,.sl .lit c]:=iA Tryz.func25 (by kernel_rfl) Tryz.ntmps25 rfl
def wM:xJ:= {own:=[33],live:=[(0,([0,3,9,10,11],[])),(2,([6,25,26,27],[31536]))],n:=36}
def uF(a:List (List zC))(R:yC)(b:Nat)(c:Int)(d:List zC):Prop:=CZ wM Tryz.f161 [1,1,1,1,0,1,0,0] 2 b ⟨[(6,.own 31536),(25,.sl (.list .lit) a),(26,dI (a.length:Int)),(27,dI c)],[(31536,.row 67 (.fr .lit) d)]⟩ (zH 2 (HE wM Tryz.f161 [1,1,1,1,1] 0 (eKF Tryz.f161 R)))
def uG(a:List (List zC))(R:yC)(b:Nat)(c d:Int):Prop:=CZ wM Tryz.f161 [1,1,0,1,0,0] 0 b ⟨[(0,.sl (.list .lit) a),(3,dI c),(9,.sl (.list .lit) a),(10,dI (a.length:Int)),(11,dI d)],[]⟩ (zH 0 (HE wM Tryz.f161 [1,1,1] 0 (eKF Tryz.f161 R)))
theorem fH(a:List (List zC))(R:yC)(d:Nat)(b:Int)(c:List zC):uF a R (d+1) b c=
 (zN (decide (b<(a.length:Int)))
 (wC b a.length=true∧
 zL (.fr .lit) (c.length+(zG (.list .lit) a b.toNat).length)=true∧
 uF a R d (xF (b+1)) (c++(zG (.list .lit) a b.toNat)))
 (R (.sl (.fr .lit) c))):=by kernel_rfl
theorem fI(a:List (List zC))(R:yC)(d:Nat)(c b:Int):uG a R (d+1) c b=
 (zN (decide (b<(a.length:Int)))
 (wC b a.length=true∧
 zN (decide ((xF (c+((zG (.list .lit) a b.toNat).length:Int)))<0))
 (False)
 (uG a R d (xF (c+((zG (.list .lit) a b.toNat).length:Int))) (xF (b+1))))
 (∃e:List zC,cV wI [.nil,dI c] [] (.own 3000) [(3000,.row 67 (.fr .lit) e)]∧
 ∃n2,uF a R n2 0 e)):=by kernel_rfl
theorem cT(a:List (List zC))(R:yC):Jh wM Tryz.f161 [.sl (.list .lit) a] R=
 (∃n0,uG a R n0 0 0):=by kernel_rfl
theorem dU(a:List (List zC)):jL wM Tryz.f161 yF [.sl (.list .lit) a]:=iA Tryz.func161 (by kernel_rfl) Tryz.ntmps161 rfl
def Q7:xJ:= {own:=[],live:=[],n:=19}
theorem GP(c:zF)(a:List (List Int))(b:List zC)(R:yC):Jh Q7 Tryz.f20 [dM c,dS a,.sl .lit b] R=
 (zX oL [dM c,dS a,.sl .lit b] .int λd=>
 zN (!decide (d=0))
 (R (.tup [.sl (.fr (.list .int)) ([]:List (List Int)),dI d]))
 (zX sI [dS a,.sl .lit b] (.fr (.list (.list .int))) λe=>
 R (.tup [.sl (.fr (.list .int)) e,dI 0]))):=by kernel_rfl
theorem Ig(a:zF)(b:List (List Int))(c:List zC):jL Q7 Tryz.f20 oo [dM a,dS b,.sl .lit c]:=iA Tryz.func20 (by kernel_rfl) Tryz.ntmps20 rfl
def pA:xJ:= {own:=[7,50],live:=[(0,([2,3,7,16,17,18],[7])),(2,([2,3,7,9,10,16,17,18],[7]))],n:=53}
def iB(a:zF)(d:List (List Int))(R:yC)(b:List Int)(e:Nat)(c:Int)(f:Nat)(g:Int)(h:List zC):Prop:=CZ pA Tryz.f112 [1,1,0,1,0,0,1,1,0,0,1,1,0,0] 2 f ⟨[(2,dS d),(3,.iptr (aS a []) 0),(7,.own 7),(9,dI (zG .int b c.toNat)),(10,dI g),(16,.sl .int b),(17,dI (b.length:Int)),(18,dI c)],[(7,.row 67 (.fr .lit) h)]⟩ (zH 2 (zH 1 (HE pA Tryz.f112 [1,1,0,1,0,0,1,1,1] 0 (iKF pA Tryz.f112 [1,1,0,1,0,0] 0 e (zH 0 (HE pA Tryz.f112 [1,1,1] 0 (eKF Tryz.f112 R)))))))
def dW(a:zF)(c:List (List Int))(R:yC)(b:List Int)(d:Nat)(e:Int)(f:List zC):Prop:=CZ pA Tryz.f112 [1,1,0,1,0,0] 0 d ⟨[(2,dS c),(3,.iptr (aS a []) 0),(7,.own 7),(16,.sl .int b),(17,dI (b.length:Int)),(18,dI e)],[(7,.row 67 (.fr .lit) f)]⟩ (zH 0 (HE pA Tryz.f112 [1,1,1] 0 (eKF Tryz.f112 R)))
theorem Nc(d:zF)(e:List (List Int))(R:yC)(a:List Int)(g:Nat)(b:Int)(h:Nat)(c:Int)(f:List zC):iB d e R a g b (h+1) c f=
 (wC (zG .int a b.toNat) d.vars.length=true∧
 zN (decide (c≤((zG .var d.vars ((zG .int a b.toNat).toNat)).hi)))
 (wC (zG .int a b.toNat) e.length=true∧
 zX yH [.sl .int (zG (.list .int) e ((zG .int a b.toNat).toNat)),dI c] .bool λi=>
 zN (!i)
 (zL (.fr .lit) (f.length+([(⟨zG .int a b.toNat,3,c⟩:zC)]).length)=true∧
 iB d e R a g b h (xF (c+1)) (f++([(⟨zG .int a b.toNat,3,c⟩:zC)])))
 (iB d e R a g b h (xF (c+1)) f))
 (dW d e R a g (xF (b+1)) f)):=by kernel_rfl
theorem Nd(c:zF)(e:List (List Int))(R:yC)(a:List Int)(f:Nat)(b:Int)(d:List zC):dW c e R a (f+1) b d=
 (zN (decide (b<(a.length:Int)))
 (wC b a.length=true∧
 wC (zG .int a b.toNat) c.vars.length=true∧
 ∃n2,iB c e R a f b n2 ((zG .var c.vars ((zG .int a b.toNat).toNat)).lo) d)
 (R (.sl (.fr .lit) d))):=by kernel_rfl
theorem Ih(a:zF)(b:Int)(c:List (List Int))(R:yC):Jh pA Tryz.f112 [dM a,dI b,dS c] R=
 (wC b a.cons.length=true∧
 zX qI [dC (zG .con a.cons b.toNat)] (.list .int) λd=>
 ∃n0,dW a c R d n0 0 ([]:List (zC))):=by kernel_rfl
theorem LR(a:zF)(b:Int)(c:List (List Int)):jL pA Tryz.f112 rE [dM a,dI b,dS c]:=iA Tryz.func112 (by kernel_rfl) Tryz.ntmps112 rfl
def rR:xJ:= {own:=[],live:=[(0,([1,2,3,4],[])),(2,([1,2,3,4,9,10],[])),(4,([1,2,3,4,9,11],[]))],n:=62}
def Xo(a:zF)(b:Bool)(c:List (List zC))(R:yC)(d:Nat)(e:List (List Int))(f:Nat)(g:List (List Int))(h:Int):Prop:=CZ rR Tryz.f59 [1,1,0,0,0,1,1,0,1,0,0] 4 f ⟨[(1,.sl (.fr (.list .int)) g),(2,dB b),(3,.sl (.list .lit) c),(4,.iptr (aS a []) 0),(9,.sl (.fr (.list .int)) e),(11,dI h)],[]⟩ (zH 4 (HE rR Tryz.f59 [1,1,0,0,0,1,1,1] 1 (zH 1 (iKF rR Tryz.f59 [1,1,0,0] 0 d (zH 0 (eKF Tryz.f59 R))))))
def bQ(a:zF)(b:Bool)(c:List (List zC))(R:yC)(d:Nat)(e:List (List Int))(f:Nat)(g:List (List Int))(h:Int):Prop:=CZ rR Tryz.f59 [1,1,0,0,0,1,1,0,1,0,0] 4 f ⟨[(1,.sl (.fr (.list .int)) g),(2,dB b),(3,.sl (.list .lit) c),(4,.iptr (aS a []) 0),(9,.sl (.fr (.list .int)) e),(11,dI h)],[]⟩ (zH 4 (HE rR Tryz.f59 [1,1,0,0,0,1,1,1] 1 (zH 1 (iKF rR Tryz.f59 [1,1,0,0] 0 d (zH 0 (eKF Tryz.f59 R))))))
def YW(a:zF)(b:Bool)(c:List (List zC))(R:yC)(d:Nat)(e:List (List Int))(f:Nat)(g:List (List Int))(h:Int):Prop:=CZ rR Tryz.f59 [1,1,0,0,0,1,1,0,1,0,0] 4 f ⟨[(1,.sl (.fr (.list .int)) g),(2,dB b),(3,.sl (.list .lit) c),(4,.iptr (aS a []) 0),(9,.sl (.fr (.list .int)) e),(11,dI h)],[]⟩ (zH 4 (HE rR Tryz.f59 [1,1,0,0,0,1,1,1] 1 (zH 1 (iKF rR Tryz.f59 [1,1,0,0] 0 d (zH 0 (eKF Tryz.f59 R))))))
def eP(a:zF)(b:Bool)(c:List (List zC))(R:yC)(d:Nat)(e:List (List Int))(f:Nat)(g:List (List Int))(h:Int):Prop:=CZ rR Tryz.f59 [1,1,0,0,0,1,0,1,0,0] 2 f ⟨[(1,.sl (.fr (.list .int)) g),(2,dB b),(3,.sl (.list .lit) c),(4,.iptr (aS a []) 0),(9,.sl (.fr (.list .int)) e),(10,dI h)],[]⟩ (zH 2 (HE rR Tryz.f59 [1,1,0,0,0,1,1] 1 (zH 1 (iKF rR Tryz.f59 [1,1,0,0] 0 d (zH 0 (eKF Tryz.f59 R))))))
def sV(a:zF)(b:Bool)(c:List (List zC))(R:yC)(d:Nat)(e:List (List Int)):Prop:=CZ rR Tryz.f59 [1,1,0,0] 0 d ⟨[(1,.sl (.fr (.list .int)) e),(2,dB b),(3,.sl (.list .lit) c),(4,.iptr (aS a []) 0)],[]⟩ (zH 0 (eKF Tryz.f59 R))
theorem DF(d:zF)(e:Bool)(b:List (List zC))(R:yC)(f:Nat)(g:List (List Int))(h:Nat)(a:List (List Int))(c:Int):Xo d e b R f g (h+1) a c=
 (zN (decide (c<(b.length:Int)))
 (zX zS [.sl (.fr (.list .int)) a] .bool λi=>
 zN (!i)
 (wC c b.length=true∧
 zX uA [.sl (.fr (.list .int)) a,.sl .lit (zG (.list .lit) b c.toNat)] (.fr (.list (.list .int))) λj=>
 Xo d e b R f g h j (xF (c+1)))
 (zX zS [.sl (.fr (.list .int)) a] .bool λk=>
 zN k
 (zX yM [.sl (.fr (.list .int)) a] (.fr (.list (.list .int))) λl=>
 R (.sl (.fr (.list .int)) l))
 (zX tJ [.sl (.fr (.list .int)) a,.sl (.fr (.list .int)) g] .bool λm=>
 zN m
 (R (.sl (.fr (.list .int)) a))
 (sV d e b R f a))))
 (zX zS [.sl (.fr (.list .int)) a] .bool λn=>
 zN n
 (zX yM [.sl (.fr (.list .int)) a] (.fr (.list (.list .int))) λo=>
 R (.sl (.fr (.list .int)) o))
 (zX tJ [.sl (.fr (.list .int)) a,.sl (.fr (.list .int)) g] .bool λp=>
 zN p
 (R (.sl (.fr (.list .int)) a))
 (sV d e b R f a)))):=by kernel_rfl
theorem Ii(d:zF)(e:Bool)(b:List (List zC))(R:yC)(f:Nat)(g:List (List Int))(h:Nat)(a:List (List Int))(c:Int):bQ d e b R f g (h+1) a c=
 (zN (decide (c<(b.length:Int)))
 (zX zS [.sl (.fr (.list .int)) a] .bool λi=>
 zN (!i)
 (wC c b.length=true∧
 zX uA [.sl (.fr (.list .int)) a,.sl .lit (zG (.list .lit) b c.toNat)] (.fr (.list (.list .int))) λj=>
 bQ d e b R f g h j (xF (c+1)))
 (zX zS [.sl (.fr (.list .int)) a] .bool λk=>
 zN k
 (zX yM [.sl (.fr (.list .int)) a] (.fr (.list (.list .int))) λl=>
 R (.sl (.fr (.list .int)) l))
 (zX tJ [.sl (.fr (.list .int)) a,.sl (.fr (.list .int)) g] .bool λm=>
 zN m
 (R (.sl (.fr (.list .int)) a))
 (sV d e b R f a))))
 (zX zS [.sl (.fr (.list .int)) a] .bool λn=>
 zN n
 (zX yM [.sl (.fr (.list .int)) a] (.fr (.list (.list .int))) λo=>
 R (.sl (.fr (.list .int)) o))
 (zX tJ [.sl (.fr (.list .int)) a,.sl (.fr (.list .int)) g] .bool λp=>
 zN p
 (R (.sl (.fr (.list .int)) a))
 (sV d e b R f a)))):=by kernel_rfl
theorem Ij(d:zF)(e:Bool)(b:List (List zC))(R:yC)(f:Nat)(g:List (List Int))(h:Nat)(a:List (List Int))(c:Int):YW d e b R f g (h+1) a c=
 (zN (decide (c<(b.length:Int)))
 (zX zS [.sl (.fr (.list .int)) a] .bool λi=>
 zN (!i)
 (wC c b.length=true∧
 zX uA [.sl (.fr (.list .int)) a,.sl .lit (zG (.list .lit) b c.toNat)] (.fr (.list (.list .int))) λj=>
 YW d e b R f g h j (xF (c+1)))
 (zX zS [.sl (.fr (.list .int)) a] .bool λk=>
 zN k
 (zX yM [.sl (.fr (.list .int)) a] (.fr (.list (.list .int))) λl=>
 R (.sl (.fr (.list .int)) l))
 (zX tJ [.sl (.fr (.list .int)) a,.sl (.fr (.list .int)) g] .bool λm=>
 zN m
 (R (.sl (.fr (.list .int)) a))
 (sV d e b R f a))))
 (zX zS [.sl (.fr (.list .int)) a] .bool λn=>
 zN n
 (zX yM [.sl (.fr (.list .int)) a] (.fr (.list (.list .int))) λo=>
 R (.sl (.fr (.list .int)) o))
 (zX tJ [.sl (.fr (.list .int)) a,.sl (.fr (.list .int)) g] .bool λp=>
 zN p
 (R (.sl (.fr (.list .int)) a))
 (sV d e b R f a)))):=by kernel_rfl
theorem ZZ(a:zF)(b:Bool)(d:List (List zC))(R:yC)(e:Nat)(f:List (List Int))(h:Nat)(c:List (List Int))(g:Int):eP a b d R e f (h+1) c g=
 (zN b
 (zN (decide (g<(a.cons.length:Int)))
 (zX zS [.sl (.fr (.list .int)) c] .bool λi=>
 zN (!i)
 (wC g a.cons.length=true∧
 zX vR [dC (zG .con a.cons g.toNat),.sl (.fr (.list .int)) c] (.fr (.list (.list .int))) λj=>
 eP a b d R e f h j (xF (g+1)))
 (∃n4,Xo a b d R e f n4 c 0))
 (∃n4_2,bQ a b d R e f n4_2 c 0))
 (∃n4_3,YW a b d R e f n4_3 c 0)):=by kernel_rfl
theorem DG(b:zF)(c:Bool)(d:List (List zC))(R:yC)(e:Nat)(a:List (List Int)):sV b c d R (e+1) a=
 (∃n2,eP b c d R e a n2 a 0):=by kernel_rfl
theorem zde(a:zF)(b:List (List Int))(c:Bool)(d:List (List zC))(R:yC):Jh rR Tryz.f59 [dM a,dS b,dB c,.sl (.list .lit) d] R=
 (zX tG [dS b] (.fr (.list (.list .int))) λe=>
 ∃n0,sV a c d R n0 e):=by kernel_rfl
theorem zbk(a:zF)(b:List (List Int))(c:Bool)(d:List (List zC)):jL rR Tryz.f59 sX [dM a,dS b,dB c,.sl (.list .lit) d]:=iA Tryz.func59 (by kernel_rfl) Tryz.ntmps59 rfl
def Q8:xJ:= {own:=[],live:=[],n:=19}
theorem GQ(c:zF)(a:List (List Int))(b:List zC)(R:yC):Jh Q8 Tryz.f19 [dM c,dS a,.sl .lit b] R=
 (zX oL [dM c,dS a,.sl .lit b] .int λd=>
 zN (!decide (d=0))
 (R (.tup [.sl (.fr (.list .int)) ([]:List (List Int)),dI d]))
 (zX uA [dS a,.sl .lit b] (.fr (.list (.list .int))) λe=>
 R (.tup [.sl (.fr (.list .int)) e,dI 0]))):=by kernel_rfl
theorem Ik(a:zF)(b:List (List Int))(c:List zC):jL Q8 Tryz.f19 om [dM a,dS b,.sl .lit c]:=iA Tryz.func19 (by kernel_rfl) Tryz.ntmps19 rfl
def Q9:xJ:= {own:=[14,25],live:=[],n:=26,nils:=[(14,(6,(72,.fr .step)))],pubs:=[]}
theorem GR(a:zF)(b:List (List zC))(c:List zC)(R:yC):Jh Q9 Tryz.f65 [dM a,.sl (.list .lit) b,.sl .lit c] R=
 (zX kQ [dM a,.sl .lit c] (.fr (.list (.list .int))) λg=>
 ∃f:List (List Int),∃d:List xN,cV uU [.ptr 1000 0] [(1000,.cells (aS a [.sl (.list .lit) b,.sl (.fr (.list .int)) g,.own 2000])),(2000,.row 72 (.fr .step) ([]:List (xN)))] (.tup []) [(1000,.cells (aS a [.sl (.list .lit) b,.sl (.fr (.list .int)) f,.own 2000])),(2000,.row 72 (.fr .step) d)]∧
 zX rC [.sl .lit c] (.fr (.list .lit)) λe=>
 zL (.fr .step) (d.length+([(⟨2,0,e⟩:xN)]).length)=true∧
 R (.sl (.fr .step) (d++([(⟨2,0,e⟩:xN)])))):=by kernel_rfl
theorem Il(a:zF)(b:List (List zC))(c:List zC):jL Q9 Tryz.f65 mW [dM a,.sl (.list .lit) b,.sl .lit c]:=iA Tryz.func65 (by kernel_rfl) Tryz.ntmps65 rfl
def aK:xJ:= {own:=[3,5,16],live:=[(0,([3,6,7,8],[3]))],n:=19}
def dX(a:List zC)(R:yC)(b:Nat)(c:Int)(d:List zC):Prop:=CZ aK Tryz.f64 [1,1,0,1,0,0] 0 b ⟨[(3,.own 3),(6,.sl .lit a),(7,dI (a.length:Int)),(8,dI c)],[(3,.row 67 (.fr .lit) d)]⟩ (zH 0 (HE aK Tryz.f64 [1,1,1] 0 (eKF Tryz.f64 R)))
theorem Nf(a:List zC)(R:yC)(d:Nat)(b:Int)(c:List zC):dX a R (d+1) b c=
 (zN (decide (b<(a.length:Int)))
 (wC b a.length=true∧
 zX lF [dL (zG .lit a b.toNat)] .lit λe=>
 zL (.fr .lit) (c.length+([e]).length)=true∧
 dX a R d (xF (b+1)) (c++([e])))
 (R (.sl (.fr .lit) c))):=by kernel_rfl
theorem Im(a:List zC)(R:yC):Jh aK Tryz.f64 [.sl .lit a] R=
 (∃n0,dX a R n0 0 ([]:List (zC))):=by kernel_rfl
theorem LT(a:List zC):jL aK Tryz.f64 rC [.sl .lit a]:=iA Tryz.func64 (by kernel_rfl) Tryz.ntmps64 rfl
def Pa:xJ:= {own:=[],live:=[],n:=30}
theorem GS(a:zF)(b:List (List zC))(c:List zC)(R:yC):Jh Pa Tryz.f24 [dM a,.sl (.list .lit) b,.sl .lit c] R=
 (zX mV [dM a,.sl (.list .lit) b,.sl .lit c] .int λd=>
 zN (!decide (d=0))
 (R (.tup [.sl (.fr .lit) ([]:List (zC)),dB false,dI d]))
 (Lq oM [dM a,.sl (.list .lit) b,.sl .lit c] (.list .lit) .bool λe f=>
 zN (!f)
 (R (.tup [.sl (.fr .lit) ([]:List (zC)),dB false,dI 0]))
 (zX rC [.sl .lit e] (.fr (.list .lit)) λg=>
 R (.tup [.sl (.fr .lit) g,dB true,dI 0])))):=by kernel_rfl
theorem Io(a:zF)(b:List (List zC))(c:List zC):jL Pa Tryz.f24 rA [dM a,.sl (.list .lit) b,.sl .lit c]:=iA Tryz.func24 (by kernel_rfl) Tryz.ntmps24 rfl
def Th:xJ:= {own:=[],live:=[],n:=28}
theorem LU(a:zF)(b:Int)(c:List (List Int))(R:yC):Jh Th Tryz.f61 [dM a,dI b,dS c] R=
 (zX zS [dS c] .bool λd=>
 zN d
 (R (.tup [.sl (.fr .lit) ([]:List (zC)),dB false]))
 (wC b a.cons.length=true∧
 zX vR [dC (zG .con a.cons b.toNat),dS c] (.fr (.list (.list .int))) λe=>
 zX zS [.sl (.fr (.list .int)) e] .bool λf=>
 zN (!f)
 (R (.tup [.sl (.fr .lit) ([]:List (zC)),dB false]))
 (zX rE [dM a,dI b,dS c] (.fr (.list .lit)) λg=>
 zX tE [dM a,dI b,.sl (.fr .lit) ([]:List (zC)),.sl (.fr .lit) g] (.fr (.list .lit)) λh=>
 R (.tup [.sl (.fr .lit) h,dB true])))):=by kernel_rfl
theorem Mv(a:zF)(b:Int)(c:List (List Int)):jL Th Tryz.f61 sC [dM a,dI b,dS c]:=iA Tryz.func61 (by kernel_rfl) Tryz.ntmps61 rfl
def Ti:xJ:= {own:=[],live:=[],n:=6}
theorem LV(a:List (List Int))(R:yC):Jh Ti Tryz.f97 [dS a] R=
 ((a.length:Int)=(a.length:Int)∧
 0≤(a.length:Int)∧
 zL (.fr (.list .int)) ((a.length:Int).toNat)=true∧
 R (.sl (.fr (.list .int)) (List.replicate ((a.length:Int).toNat) (Ty.dflt (.fr (.list .int)))))):=by kernel_rfl
theorem Mw(a:List (List Int)):jL Ti Tryz.f97 yM [dS a]:=iA Tryz.func97 (by kernel_rfl) Tryz.ntmps97 rfl
def oE:xJ:= {own:=[5,8,31,36],live:=[(0,([1,5,11,12,13],[5])),(2,([1,5,6,8,11,12,13,18,19,20],[5,8]))],n:=39}
def eQ(a:List (List Int))(c:FuncId)(d:List D)(R:yC)(e:Nat)(b:Int)(f:Nat)(g:Int)(h:List (List Int))(i:List Int):Prop:=CZ oE Tryz.f51 [1,1,0,1,0,0,1,1,0,0,1,1,0,1,0,0] 2 f ⟨[(1,.clo c (some [.bool]) d),(5,.own 5),(6,dI b),(8,.own 8),(11,dS a),(12,dI (a.length:Int)),(13,dI b),(18,.sl .int (zG (.list .int) a b.toNat)),(19,dI ((zG (.list .int) a b.toNat).length:Int)),(20,dI g)],[(5,.row 62 (.fr (.list .int)) h),(8,.row 3 (.fr .int) i)]⟩ (zH 2 (HE oE Tryz.f51 [1,1,0,1,0,0,1,1,0,0,1,1,1] 1 (zH 1 (HE oE Tryz.f51 [1,1,0,1,0,0,1,1,1] 0 (iKF oE Tryz.f51 [1,1,0,1,0,0] 0 e (zH 0 (HE oE Tryz.f51 [1,1,1] 0 (eKF Tryz.f51 R))))))))
def Z0(a:List (List Int))(b:FuncId)(c:List D)(R:yC)(d:Nat)(e:Int)(f:List (List Int)):Prop:=CZ oE Tryz.f51 [1,1,0,1,0,0] 0 d ⟨[(1,.clo b (some [.bool]) c),(5,.own 5),(11,dS a),(12,dI (a.length:Int)),(13,dI e)],[(5,.row 62 (.fr (.list .int)) f)]⟩ (zH 0 (HE oE Tryz.f51 [1,1,1] 0 (eKF Tryz.f51 R)))
theorem LW(b:List (List Int))(d:FuncId)(f:List D)(R:yC)(h:Nat)(a:Int)(i:Nat)(c:Int)(g:List (List Int))(e:List Int):eQ b d f R h a (i+1) c g e=
 (zN (decide (c<((zG (.list .int) b a.toNat).length:Int)))
 (wC c (zG (.list .int) b a.toNat).length=true∧
 aD d∧
 zX d ([dI a,dI (zG .int (zG (.list .int) b a.toNat) c.toNat)]++f) .bool λj=>
 zN j
 (zL (.fr .int) (e.length+([zG .int (zG (.list .int) b a.toNat) c.toNat]).length)=true∧
 eQ b d f R h a i (xF (c+1)) g (e++([zG .int (zG (.list .int) b a.toNat) c.toNat])))
 (eQ b d f R h a i (xF (c+1)) g e))
 (zL (.fr (.list .int)) (g.length+([e]).length)=true∧
 Z0 b d f R h (xF (a+1)) (g++([e])))):=by kernel_rfl
theorem LX(a:List (List Int))(d:FuncId)(e:List D)(R:yC)(f:Nat)(b:Int)(c:List (List Int)):Z0 a d e R (f+1) b c=
 (zN (decide (b<(a.length:Int)))
 (wC b a.length=true∧
 ∃n2,eQ a d e R f b n2 0 c ([]:List (Int)))
 (R (.sl (.fr (.list .int)) c))):=by kernel_rfl
theorem DH(a:List (List Int))(b:FuncId)(c:List D)(R:yC):Jh oE Tryz.f51 [dS a,.clo b (some [.bool]) c] R=
 (∃n0,Z0 a b c R n0 0 ([]:List (List Int))):=by kernel_rfl
theorem GT(a:List (List Int))(b:FuncId)(c:List D):jL oE Tryz.f51 xV [dS a,.clo b (some [.bool]) c]:=iA Tryz.func51 (by kernel_rfl) Tryz.ntmps51 rfl
def X5:xJ:= {own:=[7],live:=[(0,([5,10,11,12],[]))],n:=21}
def YX(a:List zC)(R:yC)(b:Nat)(c:List (List Int))(d:Int):Prop:=CZ X5 Tryz.f118 [1,1,0,1,0,0] 0 b ⟨[(5,.sl (.fr (.list .int)) c),(10,.sl .lit a),(11,dI (a.length:Int)),(12,dI d)],[]⟩ (zH 0 (HE X5 Tryz.f118 [1,1,1] 0 (eKF Tryz.f118 R)))
theorem Ip(a:List zC)(R:yC)(d:Nat)(c:List (List Int))(b:Int):YX a R (d+1) c b=
 (zN (decide (b<(a.length:Int)))
 (wC b a.length=true∧
 zX Zf [.sl (.fr (.list .int)) c,dL (zG .lit a b.toNat)] (.fr (.list (.list .int))) λe=>
 YX a R d e (xF (b+1)))
 (R (.sl (.fr (.list .int)) c))):=by kernel_rfl
theorem Bv(a:zF)(b:List zC)(R:yC):Jh X5 Tryz.f118 [dM a,.sl .lit b] R=
 (zX rL [dM a] (.fr (.list (.list .int))) λc=>
 ∃n0,YX b R n0 c 0):=by kernel_rfl
theorem DI(a:zF)(b:List zC):jL X5 Tryz.f118 kQ [dM a,.sl .lit b]:=iA Tryz.func118 (by kernel_rfl) Tryz.ntmps118 rfl
def fB:xJ:= {own:=[],live:=[(0,([1,2,3,4,9],[]))],n:=38}
def lH(a:zF)(b:Int)(c:List zC)(R:yC)(d:Nat)(e:List zC)(f:Int):Prop:=CZ fB Tryz.f111 [1,0,1,0,0] 0 d ⟨[(1,dI b),(2,.sl (.fr .lit) c),(3,.sl (.fr .lit) e),(4,.iptr (aS a []) 0),(9,dI f)],[]⟩ (zH 0 (HE fB Tryz.f111 [1,1] 0 (eKF Tryz.f111 R)))
theorem Yl(d:zF)(e:Int)(c:List zC)(R:yC)(f:Nat)(a:List zC)(b:Int):lH d e c R (f+1) a b=
 (zN (decide (b<(a.length:Int)))
 (OY 0 b a.length=true∧
 OY (xF (b+1)) (a.length:Int) a.length=true∧
 zX yF [.sl (.list .lit) ([(a.take b.toNat).drop 0,(a.take (a.length:Int).toNat).drop (xF (b+1)).toNat])] (.fr (.list .lit)) λg=>
 zX yF [.sl (.list .lit) ([c,g])] (.fr (.list .lit)) λh=>
 zX gX [dM d,dI e,.sl (.fr .lit) h] .bool λi=>
 zN i
 (lH d e c R f g b)
 (lH d e c R f a (xF (b+1))))
 (zX yF [.sl (.list .lit) ([c,a])] (.fr (.list .lit)) λj=>
 R (.sl (.fr .lit) j))):=by kernel_rfl
theorem Mx(a:zF)(b:Int)(c d:List zC)(R:yC):Jh fB Tryz.f111 [dM a,dI b,.sl (.fr .lit) c,.sl (.fr .lit) d] R=
 (∃n0,lH a b c R n0 d 0):=by kernel_rfl
theorem Ng(a:zF)(b:Int)(c d:List zC):jL fB Tryz.f111 tE [dM a,dI b,.sl (.fr .lit) c,.sl (.fr .lit) d]:=iA Tryz.func111 (by kernel_rfl) Tryz.ntmps111 rfl
def NJ:xJ:= {own:=[5,7],live:=[],n:=44}
theorem DJ(f:zQ)(a:List (List Int))(R:yC):Jh NJ Tryz.f54 [dC f,dS a] R=
 (zX zS [dS a] .bool λs=>
 zN s
 (zX tG [dS a] (.fr (.list (.list .int))) λt=>
 R (.sl (.fr (.list .int)) t))
 (zX qI [dC f] (.list .int) λg=>
 zN (decide ((g.length:Int)=0))
 (zX hZ [dC f,.sl (.fr .int) ([]:List (Int))] .bool λu=>
 zN u
 (zX tG [dS a] (.fr (.list (.list .int))) λv=>
 R (.sl (.fr (.list .int)) v))
 (zX yM [dS a] (.fr (.list (.list .int))) λw=>
 R (.sl (.fr (.list .int)) w)))
 (zN (decide (f.kind≤3))
 (∃h:List xI,∃i:List (Int×(List Int)),∃b:zQ,cV nN [dC f,dS a] [] (.clo tM none [.iptr [.sl .term h] 0,.iptr [.mp .int (.list .int) i] 0,.iptr (pB b []) 0]) []∧
 zX xV [dS a,.clo vN none [.iptr [.sl .int g] 0,.iptr [.clo tM none [.iptr [.sl .term h] 0,.iptr [.mp .int (.list .int) i] 0,.iptr (pB b []) 0]] 0]] (.fr (.list (.list .int))) λx=>
 R (.sl (.fr (.list .int)) x))
 (zN (decide (f.kind=4))
 (zX jY [.sl .int f.vars] .bool λy=>
 zN (!y)
 (∃j:List (List Int),∃c:zQ,cV nO [dC f,dS a] [] (.clo tN none [.iptr [dS j] 0,.iptr (pB c []) 0]) []∧
 zX xV [dS a,.clo vN none [.iptr [.sl .int g] 0,.iptr [.clo tN none [.iptr [dS j] 0,.iptr (pB c []) 0]] 0]] (.fr (.list (.list .int))) λz=>
 R (.sl (.fr (.list .int)) z))
 (∃d:zQ,∃k:List (List Int),∃l:List Int,∃m:List Int,∃n:List ((Int×Int)×Int),cV rD [dC f,dS a] [] (.clo yJ none [.iptr [.iptr (pB d [dS k,.sl .int l,.sl .int m,.mp (.pr .int .int) .int n]) 0] 0]) []∧
 zX xV [dS a,.clo vN none [.iptr [.sl .int g] 0,.iptr [.clo yJ none [.iptr [.iptr (pB d [dS k,.sl .int l,.sl .int m,.mp (.pr .int .int) .int n]) 0] 0]] 0]] (.fr (.list (.list .int))) λaa=>
 R (.sl (.fr (.list .int)) aa)))
 (∃e:zQ,∃o:List (List Int),∃p:List Int,∃q:List Int,∃r:List ((Int×Int)×Int),cV rD [dC f,dS a] [] (.clo yJ none [.iptr [.iptr (pB e [dS o,.sl .int p,.sl .int q,.mp (.pr .int .int) .int r]) 0] 0]) []∧
 zX xV [dS a,.clo vN none [.iptr [.sl .int g] 0,.iptr [.clo yJ none [.iptr [.iptr (pB e [dS o,.sl .int p,.sl .int q,.mp (.pr .int .int) .int r]) 0] 0]] 0]] (.fr (.list (.list .int))) λab=>
 R (.sl (.fr (.list .int)) ab)))))):=by kernel_rfl
theorem GU(a:zQ)(b:List (List Int)):jL NJ Tryz.f54 vR [dC a,dS b]:=iA Tryz.func54 (by kernel_rfl) Tryz.ntmps54 rfl
def Pb:xJ:= {own:=[],live:=[],n:=12}
theorem GV(a:zF)(R:yC):Jh Pb Tryz.f16 [dM a] R=
 (zX ot [dM a] .int λb=>
 zN (!decide (b=0))
 (R (.tup [.sl (.fr (.list .int)) ([]:List (List Int)),dI b]))
 (zX rL [dM a] (.fr (.list (.list .int))) λc=>
 R (.tup [.sl (.fr (.list .int)) c,dI 0]))):=by kernel_rfl
theorem Iq(a:zF):jL Pb Tryz.f16 ol [dM a]:=iA Tryz.func16 (by kernel_rfl) Tryz.ntmps16 rfl
def HG:xJ:= {own:=[],live:=[],n:=20}
theorem zbl(a:zF)(b:List (List Int))(c:List (List zC))(R:yC):Jh HG Tryz.f21 [dM a,dS b,.sl (.list .lit) c] R=
 (zX kM [dM a,dS b,.sl (.list .lit) c] .int λd=>
 zN (!decide (d=0))
 (R (.tup [.sl (.fr (.list .int)) ([]:List (List Int)),dI d]))
 (zX sX [dM a,dS b,dB true,.sl (.list .lit) c] (.fr (.list (.list .int))) λe=>
 R (.tup [.sl (.fr (.list .int)) e,dI 0]))):=by kernel_rfl
theorem Bw(a:zF)(b:List (List Int))(c:List (List zC)):jL HG Tryz.f21 iZ [dM a,dS b,.sl (.list .lit) c]:=iA Tryz.func21 (by kernel_rfl) Tryz.ntmps21 rfl
def X6:xJ:= {own:=[3,16],live:=[(0,([3,6,7,8],[3]))],n:=19}
def YY(a:List (List Int))(R:yC)(b:Nat)(c:Int)(d:List (List Int)):Prop:=CZ X6 Tryz.f94 [1,1,0,1,0,0] 0 b ⟨[(3,.own 3),(6,dS a),(7,dI (a.length:Int)),(8,dI c)],[(3,.row 62 (.fr (.list .int)) d)]⟩ (zH 0 (HE X6 Tryz.f94 [1,1,1] 0 (eKF Tryz.f94 R)))
theorem Ir(a:List (List Int))(R:yC)(e:Nat)(b:Int)(c:List (List Int)):YY a R (e+1) b c=
 (zN (decide (b<(a.length:Int)))
 (wC b a.length=true∧
 ∃d:List Int,cV wB [.sl .int (zG (.list .int) a b.toNat)] [] (.own 3000) [(3000,.row 3 (.fr .int) d)]∧
 zL (.fr (.list .int)) (c.length+([d]).length)=true∧
 YY a R e (xF (b+1)) (c++([d])))
 (R (.sl (.fr (.list .int)) c))):=by kernel_rfl
theorem Bx(a:List (List Int))(R:yC):Jh X6 Tryz.f94 [dS a] R=
 (∃n0,YY a R n0 0 ([]:List (List Int))):=by kernel_rfl
theorem DK(a:List (List Int)):jL X6 Tryz.f94 tG [dS a]:=iA Tryz.func94 (by kernel_rfl) Tryz.ntmps94 rfl
def cN:xJ:= {own:=[2,5,7],live:=[],n:=8}
theorem WR(a:List Int)(R:VD):FHF cN Tryz.f140 [.sl .int a] [] [] true R=
 (∀b:Bool,(b=true→a=[])→
 zN b
 (R (.own 3000) [(3000,.row 3 (.fr .int) ([]:List (Int)))])
 (zL (.fr .int) (([]:List (Int)).length+a.length)=true∧
 R (.own 3000) [(3000,.row 3 (.fr .int) (([]:List (Int))++a))])):=by kernel_rfl
theorem X7(a:List Int):zbj cN Tryz.f140 wB [.sl .int a] [] [] true:=zeV Tryz.func140 (by kernel_rfl) Tryz.ntmps140 rfl
def YZ:xJ:= {own:=[5,7,8],live:=[(0,([0,3,5,13,14,15],[5]))],n:=44}
def iC(b:List (List Int))(a:List zC)(R:yC)(c:Nat)(d e:Int):Prop:=CZ YZ Tryz.f56 [1,1,1,0,1,0,0] 0 c ⟨[(0,dS b),(3,.iptr [.sl .lit a] 0),(5,.ptr 5 0),(13,.sl .lit a),(14,dI (a.length:Int)),(15,dI d)],[(5,.cells [dI e])]⟩ (zH 0 (HE YZ Tryz.f56 [1,1,1,1] 0 (eKF Tryz.f56 R)))
theorem LY(c:List (List Int))(a:List zC)(R:yC)(e:Nat)(b d:Int):iC c a R (e+1) b d=
 (zN (decide (b<(a.length:Int)))
 (wC b a.length=true∧
 zX Yv [dS c,dL (zG .lit a b.toNat)] .int λf=>
 zN (decide (f<0))
 (iC c a R e (xF (b+1)) d)
 (zN (decide (0≤d))
 (zN (!decide (d=((zG .lit a b.toNat).var)))
 (zX tG [dS c] (.fr (.list (.list .int))) λg=>
 R (.sl (.fr (.list .int)) g))
 (iC c a R e (xF (b+1)) ((zG .lit a b.toNat).var)))
 (iC c a R e (xF (b+1)) ((zG .lit a b.toNat).var))))
 (zN (decide (d<0))
 (zX yM [dS c] (.fr (.list (.list .int))) λh=>
 R (.sl (.fr (.list .int)) h))
 (zX xV [dS c,.clo fV none [.iptr [dI d] 0,.iptr [.clo lD none [.iptr [.sl .lit a] 0,.iptr [dI d] 0]] 0]] (.fr (.list (.list .int))) λi=>
 R (.sl (.fr (.list .int)) i)))):=by kernel_rfl
theorem DL(a:List (List Int))(b:List zC)(R:yC):Jh YZ Tryz.f56 [dS a,.sl .lit b] R=
 (zX zS [dS a] .bool λc=>
 zN c
 (zX tG [dS a] (.fr (.list (.list .int))) λd=>
 R (.sl (.fr (.list .int)) d))
 (∃n0,iC a b R n0 0 (-1))):=by kernel_rfl
theorem GW(a:List (List Int))(b:List zC):jL YZ Tryz.f56 uA [dS a,.sl .lit b]:=iA Tryz.func56 (by kernel_rfl) Tryz.ntmps56 rfl
def VP:xJ:= {own:=[],live:=[],n:=28}
theorem My(a:zF)(b:Int)(c:List (List Int))(R:yC):Jh VP Tryz.f23 [dM a,dI b,dS c] R=
 (zX nM [dM a,dI b,dS c] .int λd=>
 zN (!decide (d=0))
 (R (.tup [.sl (.fr .lit) ([]:List (zC)),dB false,dI d]))
 (Lq sC [dM a,dI b,dS c] (.fr (.list .lit)) .bool λe f=>
 R (.tup [.sl (.fr .lit) e,dB f,dI 0]))):=by kernel_rfl
theorem Nh(a:zF)(b:Int)(c:List (List Int)):jL VP Tryz.f23 sH [dM a,dI b,dS c]:=iA Tryz.func23 (by kernel_rfl) Tryz.ntmps23 rfl
def DM:xJ:= {own:=[],live:=[],n:=8}
theorem zdf(b:List (List Int))(a:zC)(R:yC):Jh DM Tryz.f164 [dS b,dL a] R=
 (zX xV [dS b,.clo Xd none [.iptr [dI a.var,dI a.op,dI a.n] 0]] (.fr (.list (.list .int))) λc=>
 R (.sl (.fr (.list .int)) c)):=by kernel_rfl
theorem zbm(a:List (List Int))(b:zC):jL DM Tryz.f164 Zf [dS a,dL b]:=iA Tryz.func164 (by kernel_rfl) Tryz.ntmps164 rfl
def Rq:xJ:= {own:=[],live:=[],n:=48}
theorem Iu(c:zF)(d:Int)(a:List (List Int))(b e:Int)(R:yC):Jh Rq Tryz.f77 [dM c,dI d,dS a,dI b,dI e] R=
 (zX zS [dS a] .bool λg=>
 zN g
 (R (.tup [.sl (.fr .lit) ([]:List (zC)),dB false]))
 (wC b a.length=true∧
 zX yH [.sl .int (zG (.list .int) a b.toNat),dI e] .bool λh=>
 zN (!h)
 (R (.tup [.sl (.fr .lit) ([]:List (zC)),dB false]))
 (wC d c.cons.length=true∧
 zX vR [dC (zG .con c.cons d.toNat),dS a] (.fr (.list (.list .int))) λf=>
 wC b f.length=true∧
 zX yH [.sl (.fr .int) (zG (.fr (.list .int)) f b.toNat),dI e] .bool λi=>
 zN i
 (R (.tup [.sl (.fr .lit) ([]:List (zC)),dB false]))
 (zX rE [dM c,dI d,dS a] (.fr (.list .lit)) λj=>
 zX tE [dM c,dI d,.sl (.fr .lit) ([(⟨b,4,e⟩:zC)]),.sl (.fr .lit) j] (.fr (.list .lit)) λk=>
 R (.tup [.sl (.fr .lit) k,dB true]))))):=by kernel_rfl
theorem LZ(a:zF)(b:Int)(c:List (List Int))(d e:Int):jL Rq Tryz.f77 qH [dM a,dI b,dS c,dI d,dI e]:=iA Tryz.func77 (by kernel_rfl) Tryz.ntmps77 rfl
def Tj:xJ:= {own:=[],live:=[],n:=31}
theorem L0(a:zF)(b:Int)(c:List (List Int))(R:yC):Jh Tj Tryz.f18 [dM a,dI b,dS c] R=
 (zX rB [dM a,dS c] .int λd=>
 zN (!decide (d=0))
 (R (.tup [.sl (.fr (.list .int)) ([]:List (List Int)),dI d]))
 (zN (decide (b<0))
 (R (.tup [.sl (.fr (.list .int)) ([]:List (List Int)),dI 5]))
 (zN (decide ((a.cons.length:Int)≤b))
 (R (.tup [.sl (.fr (.list .int)) ([]:List (List Int)),dI 5]))
 (wC b a.cons.length=true∧
 zX vR [dC (zG .con a.cons b.toNat),dS c] (.fr (.list (.list .int))) λe=>
 R (.tup [.sl (.fr (.list .int)) e,dI 0]))))):=by kernel_rfl
theorem Mz(a:zF)(b:Int)(c:List (List Int)):jL Tj Tryz.f18 rK [dM a,dI b,dS c]:=iA Tryz.func18 (by kernel_rfl) Tryz.ntmps18 rfl
def oF:xJ:= {own:=[3,5,6,26,30],live:=[(0,([3,9,10,11],[3])),(2,([3,5,6,7,9,10,11],[3,5,6]))],n:=33}
def Z1(a:zF)(R:yC)(c:Nat)(b:Int)(d:Nat)(e:Int)(f:List (List Int))(g:List Int):Prop:=CZ oF Tryz.f49 [1,1,0,1,0,0,1,1,0,0,1,1,0,1,0,0] 2 d ⟨[(3,.own 3),(5,.ptr 5 0),(6,.own 6),(7,dI e),(9,.sl .var a.vars),(10,dI (a.vars.length:Int)),(11,dI b)],[(3,.row 62 (.fr (.list .int)) f),(5,.cells [.str ((zG .var a.vars b.toNat).name),dI ((zG .var a.vars b.toNat).lo),dI ((zG .var a.vars b.toNat).hi)]),(6,.row 3 (.fr .int) g)]⟩ (zH 2 (HE oF Tryz.f49 [1,1,0,1,0,0,1,1,0,0,1,1,1] 1 (zH 1 (HE oF Tryz.f49 [1,1,0,1,0,0,1,1,1] 0 (iKF oF Tryz.f49 [1,1,0,1,0,0] 0 c (zH 0 (HE oF Tryz.f49 [1,1,1] 0 (eKF Tryz.f49 R))))))))
def Z2(a:zF)(R:yC)(b:Nat)(c:Int)(d:List (List Int)):Prop:=CZ oF Tryz.f49 [1,1,0,1,0,0] 0 b ⟨[(3,.own 3),(9,.sl .var a.vars),(10,dI (a.vars.length:Int)),(11,dI c)],[(3,.row 62 (.fr (.list .int)) d)]⟩ (zH 0 (HE oF Tryz.f49 [1,1,1] 0 (eKF Tryz.f49 R)))
theorem L1(c:zF)(R:yC)(f:Nat)(d:Int)(g:Nat)(a:Int)(e:List (List Int))(b:List Int):Z1 c R f d (g+1) a e b=
 (zN (decide (a≤((zG .var c.vars d.toNat).hi)))
 (zL (.fr .int) (b.length+([a]).length)=true∧
 Z1 c R f d g (xF (a+1)) e (b++([a])))
 (zL (.fr (.list .int)) (e.length+([b]).length)=true∧
 Z2 c R f (xF (d+1)) (e++([b])))):=by kernel_rfl
theorem L2(a:zF)(R:yC)(d:Nat)(b:Int)(c:List (List Int)):Z2 a R (d+1) b c=
 (zN (decide (b<(a.vars.length:Int)))
 (wC b a.vars.length=true∧
 ∃n2,Z1 a R d b n2 ((zG .var a.vars b.toNat).lo) c ([]:List (Int)))
 (R (.sl (.fr (.list .int)) c))):=by kernel_rfl
theorem DN(a:zF)(R:yC):Jh oF Tryz.f49 [dM a] R=
 (∃n0,Z2 a R n0 0 ([]:List (List Int))):=by kernel_rfl
theorem GX(a:zF):jL oF Tryz.f49 rL [dM a]:=iA Tryz.func49 (by kernel_rfl) Tryz.ntmps49 rfl
def VQ:xJ:= {own:=[],live:=[],n:=8}
theorem MA(a:List (List Int))(b:List zC)(R:yC):Jh VQ Tryz.f57 [dS a,.sl .lit b] R=
 (zX xV [dS a,.clo lE none [.iptr [.sl .lit b] 0]] (.fr (.list (.list .int))) λc=>
 R (.sl (.fr (.list .int)) c)):=by kernel_rfl
theorem Ni(a:List (List Int))(b:List zC):jL VQ Tryz.f57 sI [dS a,.sl .lit b]:=iA Tryz.func57 (by kernel_rfl) Tryz.ntmps57 rfl
def NK:xJ:= {own:=[],live:=[],n:=20}
theorem DO(c:zF)(a b:List (List Int))(R:yC):Jh NK Tryz.f17 [dM c,dS a,dS b] R=
 (zX ou [dM c,.sl (.list (.list .int)) ([a,b])] .int λd=>
 zN (!decide (d=0))
 (R (.tup [.sl (.fr (.list .int)) ([]:List (List Int)),dI d]))
 (zX xV [dS a,.clo fU none [.iptr [dS b] 0]] (.fr (.list (.list .int))) λe=>
 R (.tup [.sl (.fr (.list .int)) e,dI 0]))):=by kernel_rfl
theorem GY(a:zF)(b c:List (List Int)):jL NK Tryz.f17 mG [dM a,dS b,dS c]:=iA Tryz.func17 (by kernel_rfl) Tryz.ntmps17 rfl
def HH:xJ:= {own:=[],live:=[],n:=16}
theorem zbn(a:zF)(b:List (List Int))(R:yC):Jh HH Tryz.f22 [dM a,dS b] R=
 (zX kM [dM a,dS b,.sl (.list .lit) ([]:List (List zC))] .int λc=>
 zN (!decide (c=0))
 (R (.tup [.sl (.fr (.list .int)) ([]:List (List Int)),dI c]))
 (zX sX [dM a,dS b,dB true,.sl (.list .lit) ([]:List (List zC))] (.fr (.list (.list .int))) λd=>
 R (.tup [.sl (.fr (.list .int)) d,dI 0]))):=by kernel_rfl
theorem Bz(a:zF)(b:List (List Int)):jL HH Tryz.f22 hD [dM a,dS b]:=iA Tryz.func22 (by kernel_rfl) Tryz.ntmps22 rfl
def tH:xJ:= {own:=[52,109],live:=[(0,([0,1,5,8,66,67,68],[1000,2000])),(2,([0,1,5,8,9,66,67,68,73,74,75],[1000,2000]))],n:=119}
def rZ(a:List (List Int))(c:Int)(R:VD)(d:List (List Int))(e:Nat)(b:Int)(f:Nat)(g:Bool)(h:Int)(i:List vF)(j:List zQ)(k l:Int)(m:List (List zC))(n:List (List Int))(o:List xN):Prop:=CZ tH Tryz.f165 [1,1,1,1,0,1,0,0,1,1,0,0,1,1,0,0] 2 f ⟨[(0,.ptr 1000 0),(1,dI c),(5,.sl (.fr (.list .int)) d),(8,dB g),(9,dI b),(66,.sl (.fr (.list .int)) a),(67,dI (a.length:Int)),(68,dI b),(73,.sl (.fr .int) (zG (.fr (.list .int)) a b.toNat)),(74,dI ((zG (.fr (.list .int)) a b.toNat).length:Int)),(75,dI h)],[(1000,.cells [.sl .var i,.sl .con j,dI k,dI l,.sl (.list .lit) m,.sl (.fr (.list .int)) n,.own 2000]),(2000,.row 72 (.fr .step) o)]⟩ (zH 2 (zH 1 (HE tH Tryz.f165 [1,1,1,1,0,1,0,0,1,1,1] 0 (iKF tH Tryz.f165 [1,1,1,1,0,1,0,0] 0 e (zH 0 (HE tH Tryz.f165 [1,1,1,1,1] 0 (eHF Tryz.f165 [.ptr 1000 0] false R)))))))
def oU(a:List (List Int))(b:Int)(R:VD)(c:List (List Int))(d:Nat)(e:Bool)(f:Int)(g:List vF)(h:List zQ)(i j:Int)(k:List (List zC))(l:List (List Int))(m:List xN):Prop:=CZ tH Tryz.f165 [1,1,1,1,0,1,0,0] 0 d ⟨[(0,.ptr 1000 0),(1,dI b),(5,.sl (.fr (.list .int)) c),(8,dB e),(66,.sl (.fr (.list .int)) a),(67,dI (a.length:Int)),(68,dI f)],[(1000,.cells [.sl .var g,.sl .con h,dI i,dI j,.sl (.list .lit) k,.sl (.fr (.list .int)) l,.own 2000]),(2000,.row 72 (.fr .step) m)]⟩ (zH 0 (HE tH Tryz.f165 [1,1,1,1,1] 0 (eHF Tryz.f165 [.ptr 1000 0] false R)))
theorem Tk(b:List (List Int))(c:Int)(R:VD)(e:List (List Int))(l:Nat)(a:Int)(n:Nat)(o:Bool)(d:Int)(f:List vF)(g:List zQ)(h i:Int)(m:List (List zC))(j:List (List Int))(k:List xN):rZ b c R e l a (n+1) o d f g h i m j k=
 (zN (decide (d<((zG (.fr (.list .int)) b a.toNat).length:Int)))
 (wC d (zG (.fr (.list .int)) b a.toNat).length=true∧
 wC a e.length=true∧
 zX yH [.sl (.fr .int) (zG (.fr (.list .int)) e a.toNat),dI (zG (.fr .int) (zG (.fr (.list .int)) b a.toNat) d.toNat)] .bool λq=>
 zN q
 (rZ b c R e l a n o (xF (d+1)) f g h i m j k)
 (Lq qH [.agg [.sl .var f,.sl .con g,dI h,dI i],dI c,.sl (.fr (.list .int)) j,dI a,dI (zG (.fr .int) (zG (.fr (.list .int)) b a.toNat) d.toNat)] (.fr (.list .lit)) .bool λp r=>
 zL (.fr .step) (k.length+([(⟨1,c,p⟩:xN)]).length)=true∧
 rZ b c R e l a n true (xF (d+1)) f g h i m j (k++([(⟨1,c,p⟩:xN)]))))
 (oU b c R e l o (xF (a+1)) f g h i m j k)):=by kernel_rfl
theorem Tl(a:List (List Int))(k:Int)(R:VD)(c:List (List Int))(l:Nat)(d:Bool)(b:Int)(e:List vF)(f:List zQ)(g h:Int)(i:List (List zC))(m:List (List Int))(j:List xN):oU a k R c (l+1) d b e f g h i m j=
 (zN (decide (b<(a.length:Int)))
 (wC b a.length=true∧
 ∃n2,rZ a k R c l b n2 d 0 e f g h i m j)
 (R (dB d) [(1000,.cells [.sl .var e,.sl .con f,dI g,dI h,.sl (.list .lit) i,.sl (.fr (.list .int)) c,.own 2000]),(2000,.row 72 (.fr .step) j)])):=by kernel_rfl
theorem Pc(d:List vF)(b:List zQ)(e f:Int)(h:List (List zC))(c:List (List Int))(g:List xN)(a:Int)(R:VD):FHF tH Tryz.f165 [.ptr 1000 0,dI a] [(1000,.cells [.sl .var d,.sl .con b,dI e,dI f,.sl (.list .lit) h,.sl (.fr (.list .int)) c,.own 2000]),(2000,.row 72 (.fr .step) g)] [.ptr 1000 0] false R=
 (wC a b.length=true∧
 zX vR [dC (zG .con b a.toNat),.sl (.fr (.list .int)) c] (.fr (.list (.list .int))) λi=>
 zX zS [.sl (.fr (.list .int)) i] .bool λk=>
 zN k
 (Lq sC [.agg [.sl .var d,.sl .con b,dI e,dI f],dI a,.sl (.fr (.list .int)) c] (.fr (.list .lit)) .bool λj m=>
 zL (.fr .step) (g.length+([(⟨1,a,j⟩:xN)]).length)=true∧
 zX yM [.sl (.fr (.list .int)) c] (.fr (.list (.list .int))) λl=>
 R (dB true) [(1000,.cells [.sl .var d,.sl .con b,dI e,dI f,.sl (.list .lit) h,.sl (.fr (.list .int)) l,.own 2000]),(2000,.row 72 (.fr .step) (g++([(⟨1,a,j⟩:xN)])))])
 (∃n0,oU c a R i n0 false 0 d b e f h c g)):=by kernel_rfl
theorem RY(a:List vF)(b:List zQ)(c d:Int)(e:List (List zC))(f:List (List Int))(g:List xN)(h:Int):zbj tH Tryz.f165 uV [.ptr 1000 0,dI h] [(1000,.cells [.sl .var a,.sl .con b,dI c,dI d,.sl (.list .lit) e,.sl (.fr (.list .int)) f,.own 2000]),(2000,.row 72 (.fr .step) g)] [.ptr 1000 0] false:=zeV Tryz.func165 (by kernel_rfl) Tryz.ntmps165 rfl
def qV:xJ:= {own:=[],live:=[(0,([0,2],[1000,2000])),(2,([0,2,3],[1000,2000]))],n:=59}
def oV(R:VD)(a b:Nat)(c:Bool)(d:Int)(e:List vF)(f:List zQ)(g h:Int)(i:List (List zC))(j:List (List Int))(k:List xN):Prop:=CZ qV Tryz.f119 [1,0,0,1,0,1,0,1,0,0] 2 b ⟨[(0,.ptr 1000 0),(2,dB c),(3,dI d)],[(1000,.cells [.sl .var e,.sl .con f,dI g,dI h,.sl (.list .lit) i,.sl (.fr (.list .int)) j,.own 2000]),(2000,.row 72 (.fr .step) k)]⟩ (zH 2 (HE qV Tryz.f119 [1,0,0,1,0,1,1] 1 (zH 1 (iKF qV Tryz.f119 [1,0,0] 0 a (zH 0 (eHF Tryz.f119 [.ptr 1000 0] false R))))))
def wX(R:VD)(a:Nat)(b:Bool)(c:List vF)(d:List zQ)(e f:Int)(g:List (List zC))(h:List (List Int))(i:List xN):Prop:=CZ qV Tryz.f119 [1,0,0] 0 a ⟨[(0,.ptr 1000 0),(2,dB b)],[(1000,.cells [.sl .var c,.sl .con d,dI e,dI f,.sl (.list .lit) g,.sl (.fr (.list .int)) h,.own 2000]),(2000,.row 72 (.fr .step) i)]⟩ (zH 0 (eHF Tryz.f119 [.ptr 1000 0] false R))
theorem Zk(R:VD)(f k:Nat)(j:Bool)(i:Int)(b:List vF)(a:List zQ)(c d:Int)(e:List (List zC))(g:List (List Int))(h:List xN):oV R f (k+1) j i b a c d e g h=
 (zN (decide (i<(a.length:Int)))
 (zX zS [.sl (.fr (.list .int)) g] .bool λq=>
 zN (!q)
 (∃p:Bool,∃l:List (List Int),∃m:List xN,cV uV [.ptr 1000 0,dI i] [(1000,.cells [.sl .var b,.sl .con a,dI c,dI d,.sl (.list .lit) e,.sl (.fr (.list .int)) g,.own 2000]),(2000,.row 72 (.fr .step) h)] (dB p) [(1000,.cells [.sl .var b,.sl .con a,dI c,dI d,.sl (.list .lit) e,.sl (.fr (.list .int)) l,.own 2000]),(2000,.row 72 (.fr .step) m)]∧
 zN p
 (oV R f k true (xF (i+1)) b a c d e l m)
 (oV R f k j (xF (i+1)) b a c d e l m))
 (zX sX [.agg [.sl .var b,.sl .con a,dI c,dI d],.sl (.fr (.list .int)) g,dB false,.sl (.list .lit) e] (.fr (.list (.list .int))) λn=>
 zX zT [.sl (.fr (.list .int)) n,.sl (.fr (.list .int)) g,.clo yR none []] .bool λr=>
 zN (!r)
 (wX R f true b a c d e n h)
 (wX R f j b a c d e n h)))
 (zX sX [.agg [.sl .var b,.sl .con a,dI c,dI d],.sl (.fr (.list .int)) g,dB false,.sl (.list .lit) e] (.fr (.list (.list .int))) λo=>
 zX zT [.sl (.fr (.list .int)) o,.sl (.fr (.list .int)) g,.clo yR none []] .bool λs=>
 zN (!s)
 (wX R f true b a c d e o h)
 (wX R f j b a c d e o h))):=by kernel_rfl
theorem Zl(R:VD)(h:Nat)(i:Bool)(b:List vF)(c:List zQ)(d e:Int)(f:List (List zC))(a:List (List Int))(g:List xN):wX R (h+1) i b c d e f a g=
 (zN i
 (zX zS [.sl (.fr (.list .int)) a] .bool λj=>
 zN (!j)
 (∃n2,oV R h n2 false 0 b c d e f a g)
 (R (.tup []) [(1000,.cells [.sl .var b,.sl .con c,dI d,dI e,.sl (.list .lit) f,.sl (.fr (.list .int)) a,.own 2000]),(2000,.row 72 (.fr .step) g)]))
 (R (.tup []) [(1000,.cells [.sl .var b,.sl .con c,dI d,dI e,.sl (.list .lit) f,.sl (.fr (.list .int)) a,.own 2000]),(2000,.row 72 (.fr .step) g)])):=by kernel_rfl
theorem Pd(a:List vF)(b:List zQ)(c d:Int)(e:List (List zC))(f:List (List Int))(g:List xN)(R:VD):FHF qV Tryz.f119 [.ptr 1000 0] [(1000,.cells [.sl .var a,.sl .con b,dI c,dI d,.sl (.list .lit) e,.sl (.fr (.list .int)) f,.own 2000]),(2000,.row 72 (.fr .step) g)] [.ptr 1000 0] false R=
 (∃n0,wX R n0 true a b c d e f g):=by kernel_rfl
theorem RZ(a:List vF)(b:List zQ)(c d:Int)(e:List (List zC))(f:List (List Int))(g:List xN):zbj qV Tryz.f119 uU [.ptr 1000 0] [(1000,.cells [.sl .var a,.sl .con b,dI c,dI d,.sl (.list .lit) e,.sl (.fr (.list .int)) f,.own 2000]),(2000,.row 72 (.fr .step) g)] [.ptr 1000 0] false:=zeV Tryz.func119 (by kernel_rfl) Tryz.ntmps119 rfl
end Go.Proofs.YteimklbiapnfhaaGreat
namespace Go.Proofs.YteimklbiapnfhaaGreat
open Go.RowKit
set_option linter.unusedVariables false
set_option linter.unusedSimpArgs false
variable[Lo]
theorem DP{c:zQ}{vs:List Int}{nv:Nat}(hc:uO c nv)(hv:QX vs nv)(hk:c.kind≤3){I:Nat→Int→Int→Prop}{b:Bool}(hb:xD c vs=b)
  (hI:∀n a (k:Nat),I (n+1) a k=zN (decide ((k:Int)<(c.consts.length:Int)))
   (wC (k:Int) c.consts.length=true∧zX yO [dI k,.iptr [.sl .int vs] 0,.iptr [.int .i64 c.kind,.sl .int c.vars,.sl .int c.consts,.int .i64 c.n,.sl (.list .int) c.rows,.sl .lit c.lits] 0] .int λm3=>
    I n (xF (a+(xF ((zG .int c.consts (k:Int).toNat)*m3)))) (xF ((k:Int)+1)))
   (zX iL [dC c,dI a] .bool λm4=>D.bool m4=dB b)):∃n,I n 0 0:=by
 subst hb;have hm:=hc.many;have hfc:=(hc.formC).sums hk;have hxl:(yD c vs).length=c.vars.length:=kY;have hz:(c.consts.zip (yD c vs)).length=c.consts.length:=by rw[List.length_zip];omega
 have hnear:∀x∈c.consts.zip (yD c vs),(-1000≤x.1∧x.1≤1000)∧-50≤x.2∧x.2≤50:=λx hx=>⟨hc.consts _ (List.of_mem_zip hx).1,Sw hv _ (List.of_mem_zip hx).2⟩
 refine up (I:=λn v a=>I n a v) 0 c.consts.length rfl (Nat.zero_le _) (by omega) (λk a=>a=QW ((c.consts.zip (yD c vs)).take k)) (by rw[List.take_zero];rfl) λn k a _ hk2 ha hn=> ?_
 subst ha;rw[hI]
 by_cases h:k<c.consts.length
 ·have hkv:k<c.vars.length:=by omega
  have hkz:k<(c.consts.zip (yD c vs)).length:=by omega
  have h1:=hc.consts _ (List.getElem_mem h);have h2:=Sw (c:=c) hv _ (List.getElem_mem (show k<(yD c vs).length by omega))
  have h3:=QY h1 h2;have h4:=zda λx hx=>hnear x (List.mem_of_mem_take (i:=k) hx)
  rw[List.length_take]at h4
  rw[zR h,zP (t:=.int) h];refine⟨zI h,zE (uH hc hv hkv) (hn h _ ?_)⟩;rw[Az hkz,List.getElem_zip,tR (n:=_*_) (by omega) (by omega),tR (by omega) (by omega)]
 ·have hk':k=c.consts.length:=by omega
  subst hk';rw[zO];refine zE (LH c _) ?_;rw[List.take_of_length_le (by omega)]
  have hkk:=hc.kind;have:c.kind=1∨c.kind=2∨c.kind=3:=by omega
  rcases this with e|e|e<;>simp[xD,e]
theorem zi2{c:zQ}{vs:List Int}{nv:Nat}(hc:uO c nv)(hv:QX vs nv):wO wD [.sl .lit c.lits,.clo qJ none [.iptr [.sl .int vs] 0]] (dB (c.lits.any λl=>holdsL l (vs.getD l.var.toNat 0))):=
 qZ (p:=λl=>holdsL l (vs.getD l.var.toNat 0)) JX λl hl=>Rm (hc.lits l hl) hv
theorem Y0{c:zQ}{vs:List Int}{nv:Nat}(hc:uO c nv)(hv:QX vs nv):wO hZ [dC c,.sl .int vs] (dB (xD c vs)):=
 Di c vs λok=>by
  obtain⟨hk1,hk2⟩:=hc.kind;have hm:=hc.many;have hf:=hc.formC;have hxl:(yD c vs).length=c.vars.length:=kY;have hnear:=Sw (c:=c) hv;have hx:∀ {k:Nat} (h:k<c.vars.length),(yD c vs).getD k 0=(yD c vs)[k]:=λh=>yN _ (by omega)
  rw[Bi];refine zA (λe=> ?_) λe1=>zA (λe=> ?_) λe2=>zA (λe=> ?_) λe3=>zA (λe=> ?_) λe4=>zA (λe=> ?_) λe5=>zA (λe=> ?_) λe6=>zA (λe=> ?_) λe7=>zA (λe=> ?_) λe8=>zA (λe=> ?_) λe9=> ?_
  ·have e:=of_decide_eq_true e
   exact DP hc hv (by omega) (I:=λn a v=>YS c vs _ n a v) rfl λn a k=>by rw[JM]
  ·have e:=of_decide_eq_true e
   exact DP hc hv (by omega) (I:=λn a v=>aF c vs _ n a v) rfl λn a k=>by rw[Me]
  ·have e:=of_decide_eq_true e
   exact DP hc hv (by omega) (I:=λn a v=>aG c vs _ n a v) rfl λn a k=>by rw[Mf]
  ·have e:=of_decide_eq_true e
   have ht:xD c vs=decide (yD c vs).Nodup:=by simp[xD,e]
   refine up (I:=λn v a=>YT c vs _ n v a) 0 c.vars.length rfl (Nat.zero_le _) (by omega) (λk a=>a.map (λe=>e.1)=sA [] ((yD c vs).take k)) (by rw[List.take_zero];rfl) λn k a _ hkl ha hn=> ?_
   have hal:a.length=(sA [] ((yD c vs).take k)).length:=by rw[←ha,List.length_map]
   have hle:=Sx ((yD c vs).take k) [];rw[List.length_take,List.length_nil]at hle
   rw[JN]
   by_cases h:k<c.vars.length
   ·rw[zR h]
    refine zE (uH hc hv h) ⟨decide_eq_true (by omega),hn h _ ?_⟩
    rw[AA,ha,zdb (show k<(yD c vs).length by omega)]
   ·have hk':k=c.vars.length:=by omega
    subst hk';rw[zO,ht]
    congr 1
    rw[List.take_of_length_le (by omega)]at hal
    have hn:=LI (yD c vs) [];rw[List.length_nil,Nat.zero_add]at hn
    refine decide_eq_decide.2 ⟨λh=>(hn.1 (by omega)).1,λh=> ?_⟩
    have:=hn.2 ⟨h,λx _ hx=>by cases hx⟩
    omega
  ·have e:=of_decide_eq_true e
   obtain⟨h2,h1⟩:=hf.element e;have t0:=uH hc hv (k:=0) (by omega)
   have t1:=uH hc hv (k:=1) (by omega)
   have ht:xD c vs=(decide ((0:Int)≤(yD c vs)[0])&&decide ((yD c vs)[0]<c.consts.length)&&decide (c.consts.getD (yD c vs)[0].toNat 0=(yD c vs)[1])):=by
    rw[←hx (k:=0) (by omega),←hx (k:=1) (by omega)];simp[xD,e]
   refine zE t0 ?_;rw[tR (by omega) (by omega)]
   refine zE (nP _ _ _) (zA (λf=> ?_) λf=> ?_)
   ·obtain⟨f1,f2⟩:=UM.1 f
    have hin:(yD c vs)[0].toNat<c.consts.length:=by omega
    refine zE t0 ⟨vC.2 ⟨f1,by omega⟩,zE t1 ?_⟩
    rw[ht,decide_eq_true f1,decide_eq_true (p:=_<_) (by omega),yN _ hin,atN (t:=.int) hin];rfl
   ·rw[ht]
    rcases qS.1 f with f|f
    ·rw[decide_eq_false (p:=0≤_) (by omega)];rfl
    ·rw[decide_eq_false (p:=_<(c.consts.length:Int)) (by omega),Bool.and_false];rfl
  ·have e:=of_decide_eq_true e
   have ht:xD c vs=c.rows.any λr=>decide (r=yD c vs):=by simp[xD,e]
   refine up (I:=λn v a=>YU c vs _ n v a) 0 c.vars.length rfl (Nat.zero_le _) (by omega) (λk a=>a=(yD c vs).take k) (by rw[List.take_zero]) λn k a _ hkl ha hn=> ?_
   subst ha;rw[JO]
   by_cases h:k<c.vars.length
   ·rw[zR h]
    refine zE (uH hc hv h) ⟨xR (t:=.int) ?_,hn h _ (List.take_append_getElem _)⟩;rw[List.length_take];show(_+1)*8≤_
    omega
   ·have hk':k=c.vars.length:=by omega
    subst hk';rw[zO,List.take_of_length_le (by omega),ht]
    exact zE (sT JY λr _=>GD r _) rfl
  ·have e:=of_decide_eq_true e
   have h3:=hf.times e;refine zE (uH hc hv (k:=0) (by omega)) (zE (uH hc hv (k:=1) (by omega)) (zE (uH hc hv (k:=2) (by omega)) ?_))
   have n0:=hnear _ (List.getElem_mem (show 0<(yD c vs).length by omega))
   have n1:=hnear _ (List.getElem_mem (show 1<(yD c vs).length by omega))
   have:=QY (a:=(yD c vs)[0]) (b:=(yD c vs)[1]) (by omega) n1
   rw[tR (by omega) (by omega),show xD c vs=decide ((yD c vs).getD 0 0*(yD c vs).getD 1 0=(yD c vs).getD 2 0) by simp[xD,e],hx (k:=0) (by omega),hx (k:=1) (by omega),hx (k:=2) (by omega)]
  ·have e:=of_decide_eq_true e
   have h2:=hf.max e;have hd:((c.vars.take (c.vars.length:Int).toNat).drop 1).length=c.vars.length-1:=by rw[Int.toNat_natCast,List.take_length,List.length_drop]
   refine zE (uH hc hv (k:=1) (by omega)) ⟨by unfold OY;simp;omega,?_⟩
   refine up (I:=λn v a=>YV c vs _ n a v) 0 (c.vars.length-1) rfl (Nat.zero_le _) (by omega) (λk a=>a=Mo (yD c vs)[1] (((yD c vs).drop 1).take k)) (by rw[List.take_zero];rfl) λn k a _ hkl ha hn=> ?_
   subst ha;rw[JP,hd]
   by_cases h:k<c.vars.length-1
   ·rw[zR h,tR (n:=1+_) (by omega) (by omega),show(1:Int)+(k:Int)=((k+1:Nat):Int) by omega]
    have hk3:k<((yD c vs).drop 1).length:=by rw[List.length_drop];omega
    refine zE (uH hc hv (k:=k+1) (by omega)) (hn h _ ?_)
    rw[←List.take_append_getElem hk3,Mo,Mo,List.foldl_append,List.foldl_cons,List.foldl_nil,List.getElem_drop];simp only[show 1+k=k+1 by omega]
   ·have hk':k=c.vars.length-1:=by omega
    subst hk';rw[zO];refine zE (uH hc hv (k:=0) (by omega)) ?_
    rw[List.take_of_length_le (by rw[List.length_drop];omega),show xD c vs=decide ((yD c vs).getD 0 0=Mo ((yD c vs).getD 1 0) ((yD c vs).drop 1)) by simp[xD,e],hx (k:=0) (by omega),hx (k:=1) (by omega)]
  ·have e:=of_decide_eq_true e
   rw[show xD c vs=c.lits.any λl=>holdsL l (vs.getD l.var.toNat 0) by simp[xD,e]]
   exact zE (zi2 hc hv) rfl
  ·have e:c.kind=10:=by simp at e1 e2 e3 e4 e5 e6 e7 e8 e9;omega
   obtain⟨h1,h2⟩:=hf.iff e;have hl0:0<c.lits.length:=by omega
   have t0:=uH hc hv (k:=0) (by omega)
   have l0:=Rm (hc.lits _ (List.getElem_mem hl0)) hv
   have ha:(c.lits.take 1).any (λl=>holdsL l (vs.getD l.var.toNat 0))=holdsL c.lits[0] (vs.getD c.lits[0].var.toNat 0):=by
    rw[show c.lits.take 1=[c.lits[0]] by rw[List.take_one,List.head?_eq_getElem?,List.getElem?_eq_getElem hl0];rfl];simp
   have ht:xD c vs=(holdsL c.lits[0] (vs.getD c.lits[0].var.toNat 0)&&decide ((yD c vs)[0]=1)|| !holdsL c.lits[0] (vs.getD c.lits[0].var.toNat 0)&&decide ((yD c vs)[0]=0)):=by
    rw[←hx (k:=0) (by omega),←ha];simp[xD,e]
   have a0:zG .lit c.lits 0=c.lits[0]:=atN (t:=.lit) hl0;have i0:wC 0 c.lits.length=true:=zI hl0;rw[a0,ht];refine⟨i0,zE l0 (zA (λf=>zE t0 (zA (λg=> ?_) λg=>⟨i0,zE l0 (zA (λf2=> ?_) λf2=> ?_)⟩)) λf=>⟨i0,zE l0 (zA (λf2=>zE t0 ?_) λf2=> ?_)⟩)⟩
   ·rw[f,g];rfl
   ·rw[f]at f2;exact absurd f2 (by decide)
   ·rw[f,g];rfl
   ·rw[f];rfl
   ·rw[f]at f2;exact absurd f2 (by decide)
end Go.Proofs.YteimklbiapnfhaaGreat
namespace Go.Proofs.YteimklbiapnfhaaGreat
open Go.RowKit
set_option linter.unusedVariables false
set_option linter.unusedSimpArgs false
variable[Lo]
theorem DQ(l:List Int):(l.map λx=>[Value.int .i64 x]).flatten=l.map (Value.int .i64):=by
 induction l with
 |nil=>rfl
 |cons a l ih=>rw[List.map_cons,List.flatten_cons,ih];rfl
theorem zhC{w:World}{S:Nat→Prop}{l:List Int}{css:List (List Value)}(hl:css.length=l.length)(h:∀(i:Nat) (x:Int) (cs:List Value),l[i]? =some x→css[i]? =some cs→xT.rd w S cs x):
  css.flatten=l.map (Value.int .i64)∧∀x∈l,vK x:=by
 have e:css=l.map λx=>[Value.int .i64 x]:=by
  apply List.ext_getElem (by rw[hl,List.length_map])
  intro i h1 h2;have hi:i<l.length:=by omega
  have:=h i l[i] css[i] (List.getElem?_eq_getElem hi) (List.getElem?_eq_getElem h1);rw[List.getElem_map];exact this.1
 refine⟨by rw[e,DQ],λx hx=> ?_⟩
 obtain⟨i,hi,rfl⟩:=List.getElem_of_mem hx;exact(h i l[i] css[i] (List.getElem?_eq_getElem hi) (List.getElem?_eq_getElem (by omega))).2
theorem zn1{w:World}{S:Nat→Prop}{pl:Nat→Value}{l:List Int}{g cap:Nat}{cur:Array Value}{e:TypeId}(hb:l.length*8≤140737488355328)(hh:w.heap[g]? =some (.cells cur e (0,0)))(h1:l.length≤cap)(h2:cap≤maxLen)(h3:cur.size=cap)(h4:cur.toList.take l.length=l.map (Value.int .i64))(hi:∀x∈l,vK x):
  cO w S pl (.slice (some ⟨g,0,none⟩) l.length cap) (.row e .int l):=by
 refine⟨hb,l.map λx=>[Value.int .i64 x],by rw[List.length_map],⟨?_,.inr ⟨g,cap,cur,rfl,Nat.zero_le _,hh,h1,h2,?_,?_⟩⟩,?_,?_⟩
 ·rw[DQ,List.length_map];exact(Nat.mul_one _).symm
 ·rw[h3];exact(Nat.mul_one _).symm
 ·rw[DQ,←h4];congr 1;exact Nat.mul_one _
 ·intro cs hcs
  obtain⟨x,_,rfl⟩:=List.mem_map.1 hcs;rfl
 ·intro i x cs hx hcs
  rw[List.getElem?_map,hx]at hcs
  cases hcs;exact⟨rfl,hi _ (List.mem_of_getElem? hx)⟩
theorem zdg{d:Array Int}{cur:Array Value}(h:d.size≤cur.size):(Sort.putCells (Value.int .i64) 0 d cur).toList.take d.size=d.toList.map (Value.int .i64):=by
 apply List.ext_getElem
 ·simp[Sort.putCells];omega
 ·intro i h1 h2
  have hi:i<d.size:=by simpa using h2
  simp[Sort.putCells,hi]
theorem AC{w:World}{l:List Int}{g cap:Nat}{cur:Array Value}{e:TypeId}(hh:w.heap[g]? =some (.cells cur e (0,0)))(h4:cur.toList.take l.length=l.map (Value.int .i64)):Sort.Holds (Value.int .i64) w g 0 l.toArray:=by
 intro j hj;have hj:j<l.length:=by simpa using hj
 rw[Nat.zero_add];refine⟨?_,frozen_of_row w g j cur e hh⟩;rw[cell_of_row w g j cur e (0,0) hh];have e2:(cur.toList.take l.length)[j]? =some (.int .i64 l[j]):=by rw[h4,List.getElem?_map,List.getElem?_eq_getElem hj];rfl
 rw[List.getElem?_take,if_pos hj]at e2
 rw[←Array.getElem?_toList,e2];simp[hj]
theorem zdh{w:World}{g:Nat}{cur:Array Value}{e:TypeId}(d:Array Int)(n:Nat)(hh:w.heap[g]? =some (.cells cur e (0,0))):(Sort.putRow (Value.int .i64) (Sort.ahead w n) g 0 d).heap[g]? =some (.cells (Sort.putCells (Value.int .i64) 0 d cur) e (0,0)):=by
 simp[Sort.putRow,Sort.mapBlock,Array.getElem?_modify,hh,Sort.onCells]
theorem AD{w:World}{g k:Nat}(d:Array Int)(n:Nat)(hk:k≠g):(Sort.putRow (Value.int .i64) (Sort.ahead w n) g 0 d).heap[k]? =w.heap[k]? :=by
 simp[Sort.putRow,Sort.mapBlock,Array.getElem?_modify,Ne.symm hk]
theorem zdi{k n:Nat}{o o':wT}(h:yB k [(n,o)]=some o'):k=n∧o'=o:=by
 rw[xX]at h
 split at h
 ·rename_i e;exact⟨e.symm,(Option.some.inj h).symm⟩
 ·cases h
theorem zhD{w:World}{S:Nat→Prop}{pl:Nat→Value}:HOk w S pl []:=
 ⟨λk o h=>(Option.some_ne_none _ h.symm).elim,λk o b h=>(Option.some_ne_none _ h.symm).elim,λk k' o o' b h=>(Option.some_ne_none _ h.symm).elim⟩
theorem zdj{vs:Array Value}{v:Value}(h:vs.size=1)(e:vs.getD 0 Go.undef=v):vs= #[v]:=by
 apply Array.ext
 ·simpa using h
 ·intro i h1 h2
  have:i=0:=by omega
  subst this;simpa[Array.getD_eq_getD_getElem?,h1]using e
theorem DR(l:List Int):(Lib.compact l).length≤l.length:=by
 unfold Lib.compact Lib.compactUpTo;rw[List.length_map];have:=List.length_filter_le (Lib.keeps l.toArray) (List.range l.length)
 rwa[List.length_range]at this
theorem HJ{l:List Int}{x:Int}(h:x∈Lib.compact l):x∈l:=by
 unfold Lib.compact Lib.compactUpTo at h
 obtain⟨i,hi,rfl⟩:=List.mem_map.1 h;have hi:=List.mem_range.1 (List.mem_filter.1 hi).1;rw[getElem!_pos l.toArray i (by simpa using hi)]
 simp
abbrev Z3(l:List Int):List Int:=l.mergeSort λx y=>decide (x≤y)
theorem Iv(l:List Int):cV rW [.own 1000] [(1000,.row 3 .int l)] (.tup []) [(1000,.row 3 .int (Z3 l))]:=by
 intro w S vs pl hS hl hv hH _;have e0:vs= #[pl 1000]:=zdj hl (hv 0 _ rfl);subst e0;obtain⟨hb,css,hcl,hown,hcs,hrd⟩:=hH.ok 1000 _ rfl;obtain⟨hf,hin⟩:=zhC hcl hrd;have hb8:l.length*8≤140737488355328:=hb;have hsl:(Z3 l).length=l.length:=List.length_mergeSort l;have hsin:∀x∈Z3 l,vK x:=λx hx=>hin x ((List.mergeSort_perm l _).mem_iff.1 hx)
 rcases hown.2 with⟨hp,hn⟩|⟨g,cap,cur,hp,_,hh,hc1,hc2,hc3,hc4⟩
 ·obtain rfl:l=[]:=List.length_eq_zero_iff.1 hn
  rw[hp];refine(Tryz.slices_Sort_int_none none 0 w).mono λe w' ⟨he,hw⟩=> ?_
  subst hw;rw[show Z3 []=[]from List.length_eq_zero_iff.1 hsl]
  refine⟨_,S,pl,he,?_,hH,hS,λb h=> .inl h,λb h=> .inl h,λ_ _=>rfl,.of (Below.refl _ _)⟩
  exact Rp.tup #[] [] rfl λi d h=>by simp at h
 ·have hc3':cur.size=cap:=hc3.trans (Nat.mul_one _)
  have hc4':cur.toList.take l.length=l.map (Value.int .i64):=by rw[←hf,←hc4];congr 1;exact(Nat.mul_one _).symm
  have hg:g<w.heap.size:=(Array.getElem?_eq_some_iff.1 hh).1;rw[hp];refine(Tryz.slices_Sort_int g 0 cap l w (AC (cap:=cap) hh hc4') hg (by omega)).mono λe w' ⟨he,n,os,hw⟩=> ?_
  subst hw;have hsz:(Sort.putRow (Value.int .i64) (Sort.ahead w n) g 0 (Z3 l).toArray).heap.size=w.heap.size:=by simp
  have hG:∀k,k<w.heap.size→(Sort.grow (Sort.putRow (Value.int .i64) (Sort.ahead w n) g 0 (Z3 l).toArray) os).heap[k]? =(Sort.putRow (Value.int .i64) (Sort.ahead w n) g 0 (Z3 l).toArray).heap[k]? :=λk hk=>by
   show(_++os)[k]? =_
   rw[Array.getElem?_append_left (by omega)]
  have hgs:(Sort.grow (Sort.putRow (Value.int .i64) (Sort.ahead w n) g 0 (Z3 l).toArray) os).heap.size=w.heap.size+os.size:=by simp
  have hpb:nQ (pl 1000)=some g:=by rw[hp];rfl
  refine⟨_,S,pl,he,?_,?_,λb h=>by rw[hgs];have:=hS b h;omega,λb h=> .inl h,λb ⟨k,o,h1,h2⟩=> ?_,λ_ _=>rfl,?_⟩
  ·exact Rp.tup #[] [] rfl λi d h=>by simp at h
  ·have look1:∀k o,yB k [(1000,wT.row 3 .int (Z3 l))]=some o→k=1000∧o=.row 3 .int (Z3 l):=λk o h=>zdi h
   refine⟨λk o h=> ?_,λk o b h1 h2=> ?_,λk k' o o' b h1 h2 _ _=>by rw[(look1 _ _ h1).1,(look1 _ _ h2).1]⟩
   ·obtain⟨rfl,rfl⟩:=look1 _ _ h
    rw[hp,show l.length=(Z3 l).length from hsl.symm]
    refine zn1 (by omega) ((hG g hg).trans (zdh _ n hh)) (by omega) hc2 (by simp[Sort.putCells,hc3']) ?_ hsin
    have:=zdg (d:=(Z3 l).toArray) (cur:=cur) (by simp only[List.size_toArray];omega)
    simpa using this
   ·obtain⟨rfl,rfl⟩:=look1 _ _ h1
    have:=hH.priv 1000 _ b rfl h2;exact⟨by rw[hgs];omega,this.2⟩
  ·have:k=1000:=(zdi h1).1
   subst this;exact .inl ⟨1000,_,rfl,h2⟩
  ·refine⟨rfl,rfl,rfl,by rw[hgs];omega,λk hk hO=> ?_⟩
   rw[hG k hk];refine AD _ _ λe=>hO ?_
   subst e;exact⟨1000,_,rfl,hpb⟩
theorem Sz(l:List Int):cV tX [.own 1000] [(1000,.row 3 .int l)] (.sl .int (Lib.compact l)) []:=by
 intro w S vs pl hS hl hv hH _;have e0:vs= #[pl 1000]:=zdj hl (hv 0 _ rfl);subst e0;obtain⟨hb,css,hcl,hown,hcs,hrd⟩:=hH.ok 1000 _ rfl;obtain⟨hf,hin⟩:=zhC hcl hrd;have hb8:l.length*8≤140737488355328:=hb;have hcle:=DR l;have hcin:∀x∈Lib.compact l,vK x:=λx hx=>hin x (HJ hx)
 rcases hown.2 with⟨hp,hn⟩|⟨g,cap,cur,hp,_,hh,hc1,hc2,hc3,hc4⟩
 ·obtain rfl:l=[]:=List.length_eq_zero_iff.1 hn
  rw[hp];refine(Tryz.slices_Compact_int_empty none 0 w).mono λe w' ⟨he,hw⟩=> ?_
  subst hw;refine⟨_,S,pl,he,?_,zhD,hS,λb h=> .inl h,λb ⟨k,o,h,_⟩=>(Option.some_ne_none _ h.symm).elim,λ_ _=>rfl,.of (Below.refl _ _)⟩
  have:Lib.compact ([]:List Int)=[]:=List.length_eq_zero_iff.1 (by have:=hcle;simpa using this)
  rw[this];exact Rp.sl .int [] _ ⟨_,rfl,none,0,rfl,by simp,by simp,by simp,λ_=>rfl,λh=>by simp at h⟩
 ·have hc3':cur.size=cap:=hc3.trans (Nat.mul_one _)
  have hc4':cur.toList.take l.length=l.map (Value.int .i64):=by rw[←hf,←hc4];congr 1;exact(Nat.mul_one _).symm
  have hg:g<w.heap.size:=(Array.getElem?_eq_some_iff.1 hh).1;rw[hp];refine(Tryz.slices_Compact_int g 0 cap l w (AC (cap:=cap) hh hc4') (by omega) hc1).mono λe w' ⟨he,n,hw⟩=> ?_
  subst hw;have hsz:(Sort.putRow (Value.int .i64) (Sort.ahead w n) g 0 (Lib.compact l++List.replicate (l.length-(Lib.compact l).length) 0).toArray).heap.size=w.heap.size:=by simp
  have hpb:nQ (pl 1000)=some g:=by rw[hp];rfl
  refine⟨_,λb=>S b∨b=g,pl,he,?_,zhD,λb h=> ?_,λb h=> ?_,λb ⟨k,o,h,_⟩=>(Option.some_ne_none _ h.symm).elim,λ_ _=>rfl,?_⟩
  ·refine Rp.sl .int _ _ ⟨_,rfl,some ⟨g,0,none⟩,cap,rfl,by show _*8≤_;omega,by omega,hc2,(λh=>by cases h),λ_=>⟨g,0,rfl,.inr rfl,λi x hx=>⟨[.int .i64 x],⟨rfl,hcin _ (List.mem_of_getElem? hx)⟩,λj u hu=> ?_⟩⟩⟩
   have hj:j=0:=by
    cases j with
    |zero=>rfl
    |succ j=>simp at hu
   subst hj;cases hu;rw[cell_of_row _ g _ _ _ (0,0) (zdh _ n hh)];have hi:i<(Lib.compact l).length:=(List.getElem?_eq_some_iff.1 hx).1;have:=zdg (d:=(Lib.compact l++List.replicate (l.length-(Lib.compact l).length) 0).toArray) (cur:=cur) (by simp;omega)
   rw[show 0+i*xT.size Int+0=i from by show 0+i*1+0=i;omega]
   rw[←Array.getElem?_toList];have h5:=congrArg (λz:List Value=>z[i]?) this
   simp only[List.getElem?_take,List.getElem?_map,List.toList_toArray]at h5
   rw[if_pos (by simp;omega),List.getElem?_append_left hi,hx]at h5
   exact h5
  ·rw[hsz]
   rcases h with h|rfl
   ·exact hS b h
   ·exact hg
  ·rcases h with h|rfl
   ·exact .inl h
   ·exact .inr (.inl ⟨1000,_,rfl,hpb⟩)
  ·refine⟨rfl,rfl,rfl,by rw[hsz];exact Nat.le_refl _,λk hk hO=>AD _ _ λe=>hO ?_⟩
   subst e;exact⟨1000,_,rfl,hpb⟩
end Go.Proofs.YteimklbiapnfhaaGreat
namespace Go.Proofs.YteimklbiapnfhaaGreat
open Go.RowKit
set_option linter.unusedVariables false
set_option linter.unusedSimpArgs false
variable[Lo]
theorem DS:∀ {a b:List Int},a.Pairwise (·<·)→b.Pairwise (·<·)→(∀x,x∈a↔x∈b)→a=b
 |[],[],_,_,_=>rfl
 |[],y::b,_,_,h=>absurd ((h y).2 (List.mem_cons_self ..)) (by simp)
 |x::a,[],_,_,h=>absurd ((h x).1 (List.mem_cons_self ..)) (by simp)
 |x::a,y::b,ha,hb,h=>by
  obtain⟨ha1,ha2⟩:=List.pairwise_cons.1 ha;obtain⟨hb1,hb2⟩:=List.pairwise_cons.1 hb
  have e:x=y:=by
   have h1:=(h x).1 (List.mem_cons_self ..);have h2:=(h y).2 (List.mem_cons_self ..);rcases List.mem_cons.1 h1 with h1|h1
   ·exact h1
   rcases List.mem_cons.1 h2 with h2|h2
   ·exact h2.symm
   have:=hb1 x h1;have:=ha1 y h2;omega
  subst e;rw[DS ha2 hb2 λz=>⟨λhz=> ?_,λhz=> ?_⟩]
  ·rcases List.mem_cons.1 ((h z).1 (List.mem_cons_of_mem _ hz))with rfl|hz'
   ·have:=ha1 z hz;omega
   ·exact hz'
  ·rcases List.mem_cons.1 ((h z).2 (List.mem_cons_of_mem _ hz))with rfl|hz'
   ·have:=hb1 z hz;omega
   ·exact hz'
theorem Pe{l:List Int}{x:Int}:x∈Lib.compact l↔x∈l:=by
 refine⟨HJ,λh=> ?_⟩
 obtain⟨i,hi,rfl⟩:=List.getElem_of_mem h
 suffices H:∀i,i<l.length→l.toArray[i]! ∈Lib.compact l by
  have:=H i hi
  rwa[getElem!_pos l.toArray i (by simpa using hi),List.getElem_toArray]at this
 intro i
 induction i with
 |zero=>exact λhi=>List.mem_map.2 ⟨0,List.mem_filter.2 ⟨List.mem_range.2 hi,by simp[Lib.keeps]⟩,rfl⟩
 |succ i ih=>
  intro hi
  by_cases hk:Lib.keeps l.toArray (i+1)=true
  ·exact List.mem_map.2 ⟨i+1,List.mem_filter.2 ⟨List.mem_range.2 hi,hk⟩,rfl⟩
  ·have e:l.toArray[i+1]! =l.toArray[i]! :=by
    unfold Lib.keeps at hk
    rw[decide_eq_true_iff,not_or]at hk
    exact Decidable.not_not.1 hk.2
   rw[e];exact ih (by omega)
theorem Pf{l:List Int}(h:l.Pairwise (·≤·)):(Lib.compact l).Pairwise (·<·):=by
 unfold Lib.compact Lib.compactUpTo;rw[List.pairwise_map];have hr:((List.range l.length).filter (Lib.keeps l.toArray)).Pairwise (·<·):=(List.pairwise_lt_range).filter _;refine hr.imp_of_mem fun {i j} hi hj hij=> ?_
 have hj1:=List.mem_range.1 (List.mem_filter.1 hj).1;have hj2:=(List.mem_filter.1 hj).2;unfold Lib.keeps at hj2
 have hj3:=(of_decide_eq_true hj2).resolve_left (by omega)
 have le:∀p q,p≤q→q<l.length→l.toArray[p]! ≤l.toArray[q]! :=λp q hpq hq=>by
  rw[getElem!_pos l.toArray p (by simp;omega),getElem!_pos l.toArray q (by simpa using hq)]
  by_cases hpe:p=q
  ·subst hpe;exact Int.le_refl _
  ·have:=List.pairwise_iff_getElem.1 h p q (by omega) hq (by omega)
   simpa using this
 have h1:=le i (j-1) (by omega) (by omega)
 have h2:=le (j-1) j (by omega) hj1
 omega
theorem zhE(l:List Int):(Z3 l).Pairwise (·≤·):=by
 have:=List.pairwise_mergeSort (le:=λx y:Int=>decide (x≤y)) (λa b c h1 h2=>by simp at*;omega) (λa b=>by simp;omega) l
 exact this.imp λh=>of_decide_eq_true h
theorem SA{lo:Int}{x:Int}:∀ {n:Nat},x∈Jg lo n↔lo≤x∧x<lo+n
 |0=>by simp[Jg]
 |n+1=>by rw[Jg,List.mem_append,SA (n:=n),List.mem_singleton];omega
theorem MB{lo:Int}:∀ {n:Nat},(Jg lo n).Pairwise (·<·)
 |0=> .nil
 |n+1=>by
  rw[Jg,List.pairwise_append];refine⟨MB,List.pairwise_singleton _ _,λa ha b hb=> ?_⟩
  rw[List.mem_singleton]at hb
  have:=(SA.1 ha).2;omega
def SB(c:zQ)(v:Int):Bool:=(c.vars.any λx=>decide (x=v))||c.lits.any λl=>decide (l.var=v)
def yA(c:zQ)(nv:Nat):List Int:=(Jg 0 nv).filter (SB c)
theorem zld{c:zQ}{nv:Nat}(hc:uO c nv):Lib.compact (Z3 (c.vars++c.lits.map λl=>l.var))=yA c nv:=by
 refine DS (Pf (zhE _)) (MB.filter _) λx=> ?_
 rw[Pe,(List.mergeSort_perm _ _).mem_iff,yA,List.mem_filter,SA,SB,Bool.or_eq_true,List.any_eq_true,List.any_eq_true,List.mem_append,List.mem_map];constructor
 ·rintro(h|⟨l,hl,rfl⟩)
  ·exact⟨by have:=hc.vars x h;omega,.inl ⟨x,h,decide_eq_true rfl⟩⟩
  ·exact⟨by have:=(tS.1 (hc.lits l hl)).1;omega,.inr ⟨l,hl,decide_eq_true rfl⟩⟩
 ·rintro⟨_,⟨y,hy,e⟩|⟨l,hl,e⟩⟩
  ·rw[←of_decide_eq_true e];exact .inl hy
  ·exact .inr ⟨l,hl,of_decide_eq_true e⟩
theorem bR{c:zQ}{nv:Nat}(hc:uO c nv):wO qI [dC c] (.sl .int (yA c nv)):=
 Dh c λok=>by
  have hm:=hc.many;rw[Bh];refine⟨_,Ms c.vars,?_⟩;refine up (I:=λn v a=>YR c _ n v a) 0 c.lits.length rfl (Nat.zero_le _) (by omega) (λk a=>a=c.vars++(c.lits.take k).map λl=>l.var) (by simp) λn k a _ hk ha hn=> ?_
  subst ha;rw[JL]
  by_cases h:k<c.lits.length
  ·rw[zR h,zP (t:=.lit) h]
   refine⟨zI h,xR (t:=.int) ?_,hn h _ ?_⟩
   ·rw[List.length_append,List.length_map,List.length_take]
    show(_+1)*8≤_
    omega
   ·rw[Qs _ h,List.append_assoc]
  ·have hk':k=c.lits.length:=by omega
   subst hk';rw[zO,List.take_length];refine⟨_,Iv _,_,Sz _,?_⟩;rw[zld hc]
theorem Pg(m:zF){c:zQ}(hc:uO c m.vars.length):wO nT [dM m,dC c] (.sl .int (yA c m.vars.length)):=
 RM m c λok=>by
  have hm:=hc.many;have hnv:=hc.nv6;rw[QJ];refine up (I:=λn v a=>oS m c _ n v a) 0 m.vars.length rfl (Nat.zero_le _) (by omega) (λk a=>a=yA c k) rfl λn k a _ hk ha hn=> ?_
  subst ha;rw[U0]
  by_cases h:k<m.vars.length
  ·rw[zR h]
   refine up (I:=λn2 v a=>oR m c _ n k _ n2 a v) 0 c.vars.length rfl (Nat.zero_le _) (by omega) (λj a=>a=(c.vars.take j).any λx=>decide (x=(k:Int))) rfl λn2 j a _ hj ha hn2=> ?_
   subst ha;rw[UZ]
   by_cases h2:j<c.vars.length
   ·rw[zR h2,zP (t:=.int) h2]
    refine zA (λe=>hn2 h2 _ ?_) λe=>⟨zI h2,hn2 h2 _ ?_⟩
    ·rw[ZW _ h2,e];rfl
    ·rw[ZW _ h2,e];rfl
   ·have hj':j=c.vars.length:=by omega
    subst hj';rw[zO,List.take_length];refine up (I:=λn4 v a=>oQ m c _ n k _ n4 a v) 0 c.lits.length rfl (Nat.zero_le _) (by omega) (λj a=>a=((c.vars.any λx=>decide (x=(k:Int)))||(c.lits.take j).any λl=>decide (l.var=(k:Int)))) (by simp) λn4 j a _ hj ha hn4=> ?_
    subst ha;rw[UY]
    by_cases h4:j<c.lits.length
    ·rw[zR h4,zP (t:=.lit) h4]
     refine zA (λe=>hn4 h4 _ ?_) λe=>⟨zI h4,hn4 h4 _ ?_⟩
     ·rw[ZW _ h4,←Bool.or_assoc,e];rfl
     ·rw[ZW _ h4,←Bool.or_assoc,e];rfl
    ·have hj':j=c.lits.length:=by omega
     subst hj';rw[zO,List.take_length]
     have hs:yA c (k+1)=if SB c k=true then yA c k++[(k:Int)]else yA c k:=by
      rw[yA,Jg,List.filter_append,Int.zero_add]
      by_cases e:SB c k=true
      ·rw[if_pos e,List.filter_cons,if_pos e];rfl
      ·rw[if_neg e,List.filter_cons,if_neg e,List.filter_nil,List.append_nil];rfl
     refine zA (λe=>⟨xR (t:=.int) ?_,hn h _ ?_⟩) λe=>hn h _ ?_
     ·have:=List.length_filter_le (SB c) (Jg 0 k)
      rw[aX]at this
      show((yA c k).length+1)*8≤_
      rw[yA];omega
     ·rw[hs,if_pos (show SB c k=true from e)]
     ·rw[hs,if_neg (by rw[show SB c k=false from e];decide)]
  ·have hk':k=m.vars.length:=by omega
   subst hk';rw[zO]
def MC(m:zF)(con:Int):Int:=if wN m≠0 then wN m else if con<0∨(m.cons.length:Int)≤con then 5 else 0
theorem lI{m:zF}{con:Int}(h:MC m con=0):Right m∧0≤con∧con<m.cons.length:=by
 unfold MC at h
 split at h
 ·rename_i h1;exact absurd h h1
 rename_i h1;split at h
 ·exact absurd h (by decide)
 rename_i h2;exact⟨oT (Decidable.not_not.1 h1),by omega,by omega⟩
def zZ(m:zF)(con:Int):zQ:=m.cons.getD con.toNat (Ty.dflt .con)
theorem tI{m:zF}{con:Int}(h:MC m con=0):uO (zZ m con) m.vars.length:=by
 obtain⟨h1,h2,h3⟩:=lI h;refine ziY h1.vars (h1.con _ ?_);rw[zZ,yN _ (show con.toNat<m.cons.length by omega)]
 exact List.getElem_mem _
end Go.Proofs.YteimklbiapnfhaaGreat
namespace Go.Proofs.YteimklbiapnfhaaGreat
open Go.RowKit
set_option linter.unusedVariables false
set_option linter.unusedSimpArgs false
variable[Lo]
theorem Uq{m:zF}(h:wN m=0)(c:List zC):wO o5 [dM m,.sl .lit c] (dI (vH m.vars.length c)):=
 Vg m c λok=>by
  rw[Ua];refine zA (λe=> ?_) λe=> ?_
  ·exact wG (if_pos (by simp at e;omega))
  have e:¬40<c.length:=by simp at e;omega
  rw[show vH m.vars.length c=wL (λ_ l=>jF m.vars.length l) 0 c from if_neg e]
  refine C8 (I:=λn v=>oA m c _ n v) c (λ_ l=>jF m.vars.length l) (by omega) (X:=λx=>D.int .i64 x=dI (wL (λ_ l=>jF m.vars.length l) 0 c)) (Y:=D.int .i64 0=dI (wL (λ_ l=>jF m.vars.length l) 0 c)) (λ_=>rfl) (λe=>wG e) (λn k hk _ hX hn=> ?_) λn hY=> ?_
  ·rw[fw,zR hk,zP (t:=.lit) hk]
   exact⟨zI hk,zE (ziZ h) (zA (λe=>hX (xO e)) λe=>hn (zU e))⟩
  ·rw[fw,zO];exact hY
theorem fm{s:List (List Int)}(hs:s.length≤5000000000000):wO uQ [dI s.length] (dS (iN s)):=
 Sd _ λok=>by
  rw[RF];refine up (I:=λn v a=>lO (s.length:Int) _ n v a) 0 s.length rfl (Nat.zero_le _) (by omega) (λk a=>a=List.replicate k []) rfl λn k a _ hk ha hn=> ?_
  subst ha;rw[Uf]
  by_cases h:k<s.length
  ·rw[zR h]
   refine⟨xR (t:=.list .int) ?_,hn h _ ?_⟩
   ·rw[List.length_replicate];show(_+1)*24≤_;omega
   ·rw[List.replicate_succ']
  ·have hk':k=s.length:=by omega
   subst hk';rw[zO];rfl
def jA(s:List (List Int))(c:List zC):List Int:=(c.filter λl=>decide (0≤ZV s l)).map λl=>l.var
theorem AE{s:List (List Int)}{l:zC}{ls:List zC}(h:ZV s l<0):jA s (l::ls)=jA s ls:=by
 rw[jA,List.filter_cons_of_neg (by rw[decide_eq_true_iff];omega)];rfl
theorem AF{s:List (List Int)}{l:zC}{ls:List zC}(h:¬ZV s l<0):jA s (l::ls)=l.var::jA s ls:=by
 rw[jA,List.filter_cons_of_pos (by rw[decide_eq_true_iff];omega)];rfl
theorem Iw{s:List (List Int)}{c:List zC}{v:Int}(hv:0≤v):∀ls:List zC,Q5 s c ls v=if(jA s ls).all (λu=>decide (u=v))=true then zla s c v else s
 |[]=>by rw[Q5,if_neg (by omega)];rfl
 |l::ls=>by
  rw[Q5]
  by_cases h:ZV s l<0
  ·rw[if_pos h,AE h,Iw hv ls]
  ·rw[if_neg h,AF h,List.all_cons]
   by_cases e:l.var=v
   ·rw[if_neg (λx=>x.2 e.symm),e,Iw hv ls,decide_eq_true rfl,Bool.true_and]
   ·rw[if_pos ⟨hv,λx=>e x.symm⟩,decide_eq_false e,Bool.false_and,if_neg (by decide)]
theorem Oe{s:List (List Int)}{c:List zC}:∀ls:List zC,(∀l∈ls,0≤l.var)→Q5 s c ls (-1)=match jA s ls with|[]=>iN s|v::vs=>if vs.all (λu=>decide (u=v))=true then zla s c v else s
 |[],_=>by rw[Q5,if_pos (by decide)];rfl
 |l::ls,hl=>by
  rw[Q5]
  by_cases h:ZV s l<0
  ·rw[if_pos h,AE h,Oe ls λl hl'=>hl l (List.mem_cons_of_mem _ hl')]
  ·rw[if_neg h,AF h,if_neg (by omega),Iw (hl l (List.mem_cons_self ..)) ls]
theorem zle{s:List (List Int)}{c:List zC}(hc:∀l∈c,0≤l.var∧l.var<s.length):∀v∈jA s c,0≤v∧v<s.length:=λv hv=>by
 obtain⟨l,hl,rfl⟩:=List.mem_map.1 hv;exact hc l (List.mem_filter.1 hl).1
theorem DT:∀(xs:List Int) (v:Int),sA [v] xs=[v]∨1<(sA [v] xs).length
 |[],v=> .inl rfl
 |x::xs,v=>by
  rw[sA]
  by_cases h:x∈[v]
  ·rw[if_pos h];exact DT xs v
  ·rw[if_neg h]
   refine .inr ?_
   have:∀(xs ks:List Int),ks.length≤(sA ks xs).length:=by
    intro xs
    induction xs with
    |nil=>exact λks=>Nat.le_refl _
    |cons x xs ih=>intro ks;rw[sA];refine Nat.le_trans ?_ (ih _);split<;>simp
   have:=this xs ([v]++[x]);simp at this⊢
   omega
theorem DU:∀(xs:List Int) (v:Int),sA [v] xs=[v]↔xs.all (λu=>decide (u=v))=true
 |[],v=>by simp[sA]
 |x::xs,v=>by
  rw[sA,List.all_cons]
  by_cases h:x=v
  ·rw[if_pos (by rw[h];exact List.mem_singleton.2 rfl),decide_eq_true h,Bool.true_and];exact DU xs v
  ·rw[if_neg (by rw[List.mem_singleton];exact h),decide_eq_false h,Bool.false_and]
   have:∀(xs ks:List Int),ks.length≤(sA ks xs).length:=by
    intro xs
    induction xs with
    |nil=>exact λks=>Nat.le_refl _
    |cons x xs ih=>intro ks;rw[sA];refine Nat.le_trans ?_ (ih _);split<;>simp
   have h2:=this xs ([v]++[x]);exact⟨λe=>by rw[e]at h2;simp at h2,λe=>by cases e⟩
theorem Nj{nv:Nat}{s:List (List Int)}{c:List zC}(hc:∀l∈c,jF nv l=0)(hs0:s.length=nv)(hnv:nv≤6)(hcl:c.length≤40):wO hJ [dS s,.sl .lit c] (dS (kC s c)):=
 QE s c λok=>by
  have hs:fz s:=mC (WD ok);have hlv:∀l∈c,0≤l.var∧l.var<s.length:=λl hl=>by have:=(tS.1 (hc l hl)).1;omega
  rw[O4];refine zE (vG s) (zA (λe=> ?_) λe=> ?_)
  ·rw[kC,if_pos e]
  rw[kC,if_neg (by rw[e];decide)]
  refine up (I:=λn v a=>qU s c _ n v a) 0 c.length rfl (Nat.zero_le _) (by omega) (λk a=>a=sA [] (jA s (c.take k))) rfl λn k a _ hk ha hn=> ?_
  subst ha;rw[Sb]
  by_cases h:k<c.length
  ·rw[zR h,zP (t:=.lit) h]
   have hl:=tS.1 (hc _ (List.getElem_mem h))
   have hlen:(sA [] (jA s (c.take k))).length≤k:=by
    have h1:=Sx (jA s (c.take k)) [];have h2:(jA s (c.take k)).length≤(c.take k).length:=by rw[jA,List.length_map];exact List.length_filter_le _ _
    rw[List.length_nil]at h1
    rw[List.length_take]at h2
    omega
   have kapp:∀(xs ys ks:List Int),sA ks (xs++ys)=sA (sA ks xs) ys:=by
    intro xs
    induction xs with
    |nil=>exact λys ks=>rfl
    |cons x xs ih=>exact λys ks=>ih ys _
   have hst:jA s (c.take (k+1))=jA s (c.take k)++if 0≤ZV s c[k]then[c[k].var]else[]:=by
    rw[jA,←List.take_append_getElem h,List.filter_append,List.map_append]
    congr 1
    by_cases e:0≤ZV s c[k]
    ·rw[if_pos e,List.filter_cons,if_pos (decide_eq_true e)];rfl
    ·rw[if_neg e,List.filter_cons,if_neg (by rw[decide_eq_false e];decide)];rfl
   refine⟨zI h,zE (Na (hlv _ (List.getElem_mem h)) (UM.2 hl.2.1)) (zA (λe=>⟨zI h,zE (XL _ _) (zA (λf=>⟨zI h,xR (t:=.int) ?_,hn h _ ?_⟩) λf=>hn h _ ?_)⟩) λe=>hn h _ ?_)⟩
   ·show(_+1)*8≤_;omega
   ·rw[hst,if_pos (of_decide_eq_true e),kapp,sA,if_neg (λx=>by rw[kX.2 x]at f;exact absurd f (by decide))];rfl
   ·rw[hst,if_pos (of_decide_eq_true e),kapp,sA,if_pos (kX.1 (by simpa using f))];rfl
   ·rw[hst,if_neg (of_decide_eq_false e),List.append_nil]
  ·have hk':k=c.length:=by omega
   subst hk';rw[zO,List.take_length,Oe c λl hl=>(hlv l hl).1]
   have hpos:=zle hlv;cases hL:jA s c with
   |nil=>
    refine zA (λe=>zE (fm (by omega)) rfl) λe=>absurd e (by simp[sA])
   |cons v vs=>
    have hv:=hpos v (by rw[hL];exact List.mem_cons_self ..)
    have hk:sA [] (v::vs)=sA [v] vs:=rfl;rw[hk]
    refine df (by
     rcases DT vs v with h|h
     ·rw[h];simp
     ·omega) ?_
    by_cases ha:vs.all (λu=>decide (u=v))=true
    ·have e1:=(DU vs v).2 ha
     simp only[ha,if_true];rw[e1];refine df (by simp) ?_
     refine up (I:=λn2 u a=>jQ s c _ n2 u [v] a) 0 s.length rfl (Nat.zero_le _) (by omega) (λk a=>a=pZ (λw n=> !decide ((w:Int)=v)||atC c v n) (s.take k)) rfl λn2 k a _ hk ha2 hn2=> ?_
     subst ha2;rw[Sa]
     by_cases h:k<s.length
     ·have hr:=Zj hs h
      rw[zR h];refine up (I:=λn4 u a=>nV s c _ n2 k n4 u [v] _ a) 0 s[k].length rfl (Nat.zero_le _) (by omega) (λj a=>a=(s[k].take j).filter λn=> !decide ((k:Int)=v)||atC c v n) rfl λn4 j a _ hj ha4 hn4=> ?_
      subst ha4;rw[T9,zP (t:=.list .int) h];refine⟨zI h,?_⟩
      by_cases hj':j<s[k].length
      ·rw[zR hj']
       refine⟨rfl,?_⟩;refine up (I:=λn6 u a=>qT s c _ n2 k n4 j [v] _ _ n6 a u) 0 c.length rfl (Nat.zero_le _) (by omega) (λi a=>a=(!decide ((k:Int)=v)||atC (c.take i) v s[k][j])) (by rw[List.take_zero];show _=(_||false);rw[Bool.or_false];rfl) λn6 i a _ hi ha6 hn6=> ?_
       subst ha6;rw[T8,zP (t:=.list .int) h,zP (t:=.int) hj']
       by_cases hi':i<c.length
       ·have hl:=tS.1 (hc _ (List.getElem_mem hi'))
        have hat:atC (c.take (i+1)) v s[k][j]=(atC (c.take i) v s[k][j]||if c[i].var=v then holdsL c[i] s[k][j]else false):=by rw[atC,ZW _ hi'];rfl
        rw[zR hi',zP (t:=.lit) hi'];refine zA (λe=>hn6 hi' _ ?_) λe=>⟨zI hi',zA (λf=>⟨zI hi',zI h,zI hj',zE (lY _ _ (UM.2 hl.2.1)) (hn6 hi' _ ?_)⟩) λf=>hn6 hi' _ ?_⟩
        ·rw[hat,←Bool.or_assoc,e];rfl
        ·obtain⟨e1,e2⟩:=Bool.or_eq_false_iff.1 e
         have hkv:(k:Int)=v:=by simpa using e1
         rw[hat,←Bool.or_assoc,e,if_pos (by rw[of_decide_eq_true f,hkv])];rfl
        ·obtain⟨e1,e2⟩:=Bool.or_eq_false_iff.1 e
         have hkv:(k:Int)=v:=by simpa using e1
         rw[hat,←Bool.or_assoc,e,if_neg (by rw[←hkv];exact of_decide_eq_false f)];rfl
       ·have hi2:i=c.length:=by omega
        subst hi2;rw[zO,List.take_length];refine zA (λe=>⟨zI h,zI hj',xR (t:=.int) ?_,hn4 hj' _ ?_⟩) λe=>hn4 hj' _ ?_
        ·have:=List.length_filter_le (λn=> !decide ((k:Int)=v)||atC c v n) (s[k].take j)
         rw[List.length_take]at this
         show(_+1)*8≤_
         omega
        ·rw[oK _ hj',if_pos e]
        ·rw[oK _ hj',if_neg (by rw[e];decide)]
      ·have hj2:j=s[k].length:=by omega
       subst hj2;rw[zO,List.take_length];refine⟨xR (t:=.list .int) ?_,hn2 h _ (UO _ h).symm⟩;rw[rO,List.length_take];show(_+1)*24≤_
       omega
     ·have hk':k=s.length:=by omega
      subst hk';rw[zO,List.take_length];rfl
    ·simp only[ha]
     have h1:=(DT vs v).resolve_left λe=>ha ((DU vs v).1 e)
     exact dt (by omega) rfl
theorem zi3{f g:Nat→Int→Bool}{s:List (List Int)}:pZ g (pZ f s)=pZ (λv n=>f v n&&g v n) s:=by
 rw[pZ,pZ,pZ,List.mapIdx_mapIdx]
 congr 1;funext v l
 show List.filter (g v) (List.filter (f v) l)=_
 rw[List.filter_filter]
 congr 1;funext n;exact Bool.and_comm _ _
end Go.Proofs.YteimklbiapnfhaaGreat
namespace Go.Proofs.YteimklbiapnfhaaGreat
set_option linter.unusedVariables false
set_option linter.unusedSimpArgs false
variable[Lo]
def Z4(t s:List (List Int)):Prop:=t.length=s.length∧∀v:Nat,(t.getD v []).Sublist (s.getD v [])
def Ji(vs:List Int)(s:List (List Int)):Prop:=vs.length=s.length∧∀v:Nat,v<s.length→vs.getD v 0∈s.getD v []
theorem Z4.refl(s:List (List Int)):Z4 s s:=⟨rfl,λv=>List.Sublist.refl _⟩
theorem Z4.trans{a b c:List (List Int)}(h:Z4 a b)(h':Z4 b c):Z4 a c:=⟨h.1.trans h'.1,λv=>(h.2 v).trans (h'.2 v)⟩
theorem L3{α:Type}{d:α}{a b:List α}(hl:a.length=b.length)(h:∀v:Nat,a.getD v d=b.getD v d):a=b:=by
 apply List.ext_getElem hl;intro i h1 h2;have:=h i
 rwa[yN _ h1,yN _ h2]at this
theorem pR{α:Type}{d:α}{a:List α}{v:Nat}(h:a.length≤v):a.getD v d=d:=by
 rw[List.getD_eq_getElem?_getD,List.getElem?_eq_none h];rfl
theorem Z4.antisymm{a b:List (List Int)}(h:Z4 a b)(h':Z4 b a):a=b:=
 L3 h.1 λv=>(h.2 v).eq_of_length (Nat.le_antisymm (h.2 v).length_le (h'.2 v).length_le)
theorem L4{f:Nat→Int→Bool}{s:List (List Int)}:Z4 (pZ f s) s:=⟨rO,λv=>by rw[qN];exact List.filter_sublist⟩
theorem Wp{f:Nat→Int→Bool}{s:List (List Int)}(h:∀(v:Nat) (n:Int),n∈s.getD v []→f v n=true):pZ f s=s:=
 L3 rO λv=>by rw[qN];exact List.filter_eq_self.2 λn hn=>h v n hn
theorem MD{f g:Nat→Int→Bool}{t s:List (List Int)}(h:Z4 t s)(hf:∀(v:Nat) (n:Int),n∈t.getD v []→f v n=true→g v n=true):Z4 (pZ f t) (pZ g s):=by
 refine⟨by rw[rO,rO];exact h.1,λv=> ?_⟩
 rw[qN,qN];refine List.Sublist.trans ?_ ((h.2 v).filter (g v))
 have e:(t.getD v []).filter (f v)=((t.getD v []).filter (g v)).filter (f v):=by
  rw[List.filter_filter];refine List.filter_congr λn hn=> ?_
  cases hc:f v n
  ·rfl
  ·rw[hf v n hn hc];rfl
 rw[e];exact List.filter_sublist
theorem oW{s:List (List Int)}:zY s=false↔∀v:Nat,v<s.length→s.getD v []≠[]:=by
 rw[zY,List.any_eq_false];constructor
 ·intro h v hv e
  rw[yN _ hv]at e
  exact h _ (List.getElem_mem hv) (by rw[e];rfl)
 ·intro h l hl e
  obtain⟨i,hi,rfl⟩:=List.getElem_of_mem hl;refine h i hi ?_;rw[yN _ hi];exact List.length_eq_zero_iff.1 (of_decide_eq_true e)
theorem DV{s:List (List Int)}:zY s=true↔∃v:Nat,v<s.length∧s.getD v []=[]:=by
 constructor
 ·intro h
  apply Classical.byContradiction;intro hn;rw[oW.2 λv hv e=>hn ⟨v,hv,e⟩]at h
  cases h
 ·rintro⟨v,hv,e⟩
  cases h:zY s
  ·exact absurd e (oW.1 h v hv)
  ·rfl
theorem Z4.fail{t s:List (List Int)}(h:Z4 t s)(hf:zY t=false):zY s=false:=
 oW.2 λv hv e=>oW.1 hf v (by rw[h.1];exact hv) (by have:=h.2 v;rw[e]at this;exact List.sublist_nil.1 this)
theorem Z4.failed{t s:List (List Int)}(h:Z4 t s)(hf:zY s=true):zY t=true:=by
 cases e:zY t
 ·rw[h.fail e]at hf;cases hf
 ·rfl
theorem Ji.mono{vs:List Int}{t s:List (List Int)}(h:Ji vs t)(hl:Z4 t s):Ji vs s:=⟨h.1.trans hl.1,λv hv=>(hl.2 v).subset (h.2 v (by rw[hl.1];exact hv))⟩
theorem Ji.fail{vs:List Int}{s:List (List Int)}(h:Ji vs s):zY s=false:=oW.2 λv hv e=>by
 have:=h.2 v hv;rw[e]at this;cases this
theorem X8{s:List (List Int)}:(iN s).length=s.length:=List.length_replicate ..
theorem DW{s:List (List Int)}{v:Nat}:(iN s).getD v []=[]:=by
 by_cases h:v<s.length
 ·rw[yN _ (by rw[X8];exact h)];exact List.getElem_replicate ..
 ·exact pR (by rw[X8];omega)
theorem Ph{s t:List (List Int)}(h:s.length=t.length):Z4 (iN s) t:=⟨X8.trans h,λv=>by rw[DW];exact List.nil_sublist _⟩
theorem aZ{s:List (List Int)}(h:0<s.length):zY (iN s)=true:=DV.2 ⟨0,by rw[X8];exact h,DW⟩
theorem L5{s t:List (List Int)}(h:s.length=t.length):iN s=iN t:=by rw[iN,iN,h]
theorem pick{s:List (List Int)}(hf:zY s=false){v:Nat}{n:Int}(hn:n∈s.getD v []):∃vs,Ji vs s∧vs.getD v 0=n:=by
 refine⟨s.mapIdx λu l=>if u=v then n else l.headD 0,⟨List.length_mapIdx,λu hu=> ?_⟩,?_⟩
 ·rw[yN _ (show u<(s.mapIdx λu l=>if u=v then n else l.headD 0).length by rw[List.length_mapIdx];exact hu),List.getElem_mapIdx]
  by_cases e:u=v
  ·rw[if_pos e,e];exact hn
  ·rw[if_neg e,yN _ hu]
   have h1:=oW.1 hf u hu;rw[yN _ hu]at h1
   cases h:s[u]with
   |nil=>exact absurd h h1
   |cons a l=>exact List.mem_cons_self ..
 ·have hv:v<s.length:=by
   apply Classical.byContradiction;intro h;rw[pR (by omega)]at hn;cases hn
  rw[yN _ (show v<(s.mapIdx λu l=>if u=v then n else l.headD 0).length by rw[List.length_mapIdx];exact hv),List.getElem_mapIdx,if_pos rfl]
theorem Pi{s:List (List Int)}(hf:zY s=false):∃vs,Ji vs s:=by
 cases s with
 |nil=>exact⟨[],rfl,λv hv=>absurd hv (Nat.not_lt_zero _)⟩
 |cons a s=>
  have h1:=oW.1 hf 0 (Nat.zero_lt_succ _);cases a with
  |nil=>exact absurd rfl h1
  |cons x a=>
   obtain⟨vs,h,_⟩:=pick hf (v:=0) (n:=x) (List.mem_cons_self ..);exact⟨vs,h⟩
theorem tF{vs:List Int}{u v:Nat}{n:Int}(hv:v<vs.length):(vs.set v n).getD u 0=if u=v then n else vs.getD u 0:=by
 rw[List.getD_eq_getElem?_getD,List.getD_eq_getElem?_getD,List.getElem?_set]
 by_cases e:u=v
 ·rw[if_pos e.symm,if_pos e,if_pos (by omega)];rfl
 ·rw[if_neg (λx=>e x.symm),if_neg e]
theorem Ji.set{vs:List Int}{s:List (List Int)}(h:Ji vs s){v:Nat}{n:Int}(hn:n∈s.getD v [])(hv:v<s.length):Ji (vs.set v n) s:=by
 refine⟨by rw[List.length_set];exact h.1,λu hu=> ?_⟩
 rw[tF (by rw[h.1];exact hv)]
 split
 ·rename_i e;rw[e];exact hn
 ·exact h.2 u hu
def May(Q:List Int→Bool)(s:List (List Int))(v:Nat)(n:Int):Prop:=∃vs,Ji vs s∧vs.getD v 0=n∧Q vs=true
open Classical in
noncomputable def mayB (Q:List Int→Bool)(s:List (List Int))(v:Nat)(n:Int):Bool:=decide (May Q s v n)
open Classical in
theorem nY{Q:List Int→Bool}{s:List (List Int)}{v:Nat}{n:Int}:mayB Q s v n=true↔May Q s v n:=by rw[mayB];exact decide_eq_true_iff
open Classical in
theorem zeW{Q:List Int→Bool}{s:List (List Int)}{v:Nat}{n:Int}:mayB Q s v n=false↔¬May Q s v n:=by rw[mayB];exact decide_eq_false_iff_not
theorem May.mono{Q:List Int→Bool}{t s:List (List Int)}{v:Nat}{n:Int}(h:May Q t v n)(hl:Z4 t s):May Q s v n:=let⟨vs,a,b,c⟩:=h;⟨vs,a.mono hl,b,c⟩
abbrev Op:=List (List Int)→List (List Int)
structure WS (nv:Nat)(op:Op)(Q:List Int→Bool):Prop where
 fail:∀s,s.length=nv→zY s=true→op s=s
 none:∀s,s.length=nv→zY s=false→(¬∃vs,Ji vs s∧Q vs=true)→zY (op s)=true∧Z4 (op s) s
 some:∀s,s.length=nv→zY s=false→(∃vs,Ji vs s∧Q vs=true)→op s=pZ (mayB Q s) s
section
variable {nv:Nat}{op:Op}{Q:List Int→Bool}{s t:List (List Int)}
theorem WS.le(h:WS nv op Q)(hl:s.length=nv):Z4 (op s) s:=by
 cases hf:zY s
 ·by_cases he:∃vs,Ji vs s∧Q vs=true
  ·rw[h.some s hl hf he];exact L4
  ·exact(h.none s hl hf he).2
 ·rw[h.fail s hl hf];exact Z4.refl s
theorem WS.len(h:WS nv op Q)(hl:s.length=nv):(op s).length=nv:=(h.le hl).1.trans hl
theorem WS.keeps(h:WS nv op Q)(hl:s.length=nv){vs:List Int}(hv:Ji vs s)(hq:Q vs=true):Ji vs (op s):=by
 rw[h.some s hl hv.fail ⟨vs,hv,hq⟩];refine⟨hv.1.trans rO.symm,λv hv'=> ?_⟩
 rw[qN,List.mem_filter];rw[rO]at hv'
 exact⟨hv.2 v hv',nY.2 ⟨vs,hv,rfl,hq⟩⟩
theorem WS.nofail(h:WS nv op Q)(hl:s.length=nv):zY (op s)=false↔∃vs,Ji vs s∧Q vs=true:=by
 constructor
 ·intro hf
  have hs:=(h.le hl).fail hf;apply Classical.byContradiction;intro he;rw[(h.none s hl hs he).1]at hf;cases hf
 ·rintro⟨vs,h1,h2⟩
  exact(h.keeps hl h1 h2).fail
theorem WS.mono(h:WS nv op Q)(hl:s.length=nv)(hts:Z4 t s)(hf:zY (op t)=false):Z4 (op t) (op s):=by
 have hlt:t.length=nv:=hts.1.trans hl;have he:=(h.nofail hlt).1 hf;obtain⟨vs,h1,h2⟩:=he;rw[h.some t hlt h1.fail ⟨vs,h1,h2⟩,h.some s hl (h1.mono hts).fail ⟨vs,h1.mono hts,h2⟩];exact MD hts λv n _ hm=>nY.2 ((nY.1 hm).mono hts)
theorem WS.congr{Q':List Int→Bool}(h:WS nv op Q)(hl:s.length=nv){vs:List Int}(hst:op s=s)(hf:zY s=false)(v:Nat)(n:Int)(hn:n∈s.getD v []):∃us,Ji us s∧us.getD v 0=n∧Q us=true:=by
 have:=(h.nofail hl).1 (by rw[hst];exact hf)
 have e:=h.some s hl hf this;rw[hst]at e
 rw[e,qN,List.mem_filter]at hn
 exact nY.1 hn.2
end
def Ix(ops:List Op)(s:List (List Int)):Prop:=∀op∈ops,op s=s
def HM(nv:Nat)(ops:List Op):Prop:=∀op∈ops,∃Q,WS nv op Q
structure vW (ops:List Op)(s r:List (List Int)):Prop where
 le:Z4 r s
 all:∀t,Z4 t s→zY t=false→Ix ops t→Z4 t r
theorem vW.refl(ops:List Op)(s:List (List Int)):vW ops s s:=⟨Z4.refl s,λt h _ _=>h⟩
theorem vW.step{nv:Nat}{ops:List Op}{s r:List (List Int)}(ho:HM nv ops)(hl:s.length=nv)(h:vW ops s r){op:Op}(hm:op∈ops):vW ops s (op r):=by
 obtain⟨Q,hq⟩:=ho op hm;have hr:r.length=nv:=h.le.1.trans hl;refine⟨(hq.le hr).trans h.le,λt h1 h2 h3=> ?_⟩
 have e:=h3 op hm;have:=hq.mono hr (h.all t h1 h2 h3) (by rw[e];exact h2)
 rwa[e]at this
structure Vl (ops:List Op)(s r:List (List Int)):Prop where
 le:Z4 r s
 all:∀t,Z4 t s→zY t=false→Ix ops t→Z4 t r
 out:(zY r=false∧Ix ops r)∨r=iN s
theorem Vl.unique{ops:List Op}{s r r':List (List Int)}(hs:0<s.length)(h:Vl ops s r)(h':Vl ops s r'):r=r':=by
 rcases h.out with⟨h1,h2⟩|h1<;>rcases h'.out with⟨k1,k2⟩|k1
 ·exact(h'.all r h.le h1 h2).antisymm (h.all r' h'.le k1 k2)
 ·have:=(h'.all r h.le h1 h2).fail h1
  rw[k1,aZ hs]at this;cases this
 ·have:=(h.all r' h'.le k1 k2).fail k1
  rw[h1,aZ hs]at this;cases this
 ·rw[h1,k1]
theorem vW.stop{ops:List Op}{s r:List (List Int)}(h:vW ops s r)(hf:zY r=false)(hst:Ix ops r):Vl ops s r:=⟨h.le,h.all,.inl ⟨hf,hst⟩⟩
theorem vW.dead{ops:List Op}{s r:List (List Int)}(h:vW ops s r)(hf:zY r=true):Vl ops s (iN s):=
 ⟨Ph rfl,λt h1 h2 h3=>(by have:=(h.all t h1 h2 h3).fail h2;rw[hf]at this;cases this),.inr rfl⟩
theorem vW.trans{ops:List Op}{s r q:List (List Int)}(h:vW ops s r)(h':Vl ops r q):Vl ops s q:=
 ⟨h'.le.trans h.le,λt h1 h2 h3=>h'.all t (h.all t h1 h2 h3) h2 h3,h'.out.imp id λe=>e.trans (L5 h.le.1)⟩
def wH(s:List (List Int)):Nat:=(s.map List.length).sum
theorem Iy:∀ {a b:List (List Int)},a.length=b.length→(∀v:Nat,(a.getD v []).Sublist (b.getD v []))→wH a≤wH b∧(wH a=wH b→a=b)
 |[],[],_,_=>⟨Nat.le_refl _,λ_=>rfl⟩
 |x::a,y::b,hl,h=>by
  have h0:x.Sublist y:=h 0;obtain⟨i1,i2⟩:=Iy (a:=a) (b:=b) (by simpa using hl) λv=>h (v+1)
  have e1:wH (x::a)=x.length+wH a:=rfl;have e2:wH (y::b)=y.length+wH b:=rfl;have:=h0.length_le;refine⟨by omega,λe=> ?_⟩
  rw[h0.eq_of_length (by omega),i2 (by omega)]
 |[],_::_,hl,_=>by simp at hl
 |_::_,[],hl,_=>by simp at hl
theorem Z4.size{t s:List (List Int)}(h:Z4 t s):wH t≤wH s:=(Iy h.1 h.2).1
theorem Z4.size_lt{t s:List (List Int)}(h:Z4 t s)(hn:t≠s):wH t<wH s:=Nat.lt_of_le_of_ne h.size λe=>hn ((Iy h.1 h.2).2 e)
theorem zeX{nv:Nat}{ops:List Op}(ho:HM nv ops):∀(k:Nat) (s:List (List Int)),s.length=nv→wH s≤k→∃r,Vl ops s r:=by
 intro k
 induction k with
 |zero=>
  intro s hl hk;cases hf:zY s
  ·by_cases hst:Ix ops s
   ·exact⟨s,(vW.refl ops s).stop hf hst⟩
   ·refine absurd (λop hm=> ?_) hst
    obtain⟨Q,hq⟩:=ho op hm;apply Classical.byContradiction;intro hn;have:=(hq.le hl).size_lt hn;omega
  ·exact⟨_,(vW.refl ops s).dead hf⟩
 |succ k ih=>
  intro s hl hk;cases hf:zY s
  ·by_cases hst:Ix ops s
   ·exact⟨s,(vW.refl ops s).stop hf hst⟩
   ·obtain⟨op,hm,hn⟩:∃op,op∈ops∧op s≠s:=by
     apply Classical.byContradiction;intro h;exact hst λop hm=>Classical.byContradiction λhn=>h ⟨op,hm,hn⟩
    obtain⟨Q,hq⟩:=ho op hm;have:=(hq.le hl).size_lt hn;obtain⟨r,hr⟩:=ih (op s) (hq.len hl) (by omega)
    exact⟨r,((vW.refl ops s).step ho hl hm).trans hr⟩
  ·exact⟨_,(vW.refl ops s).dead hf⟩
open Classical in
noncomputable def zlf (ops:List Op)(s:List (List Int)):List (List Int):=if h:∃r,Vl ops s r then Classical.choose h else s
theorem zi4{nv:Nat}{ops:List Op}{s:List (List Int)}(ho:HM nv ops)(hl:s.length=nv):Vl ops s (zlf ops s):=by
 have h:=zeX ho _ s hl (Nat.le_refl _);rw[zlf,dif_pos h];exact Classical.choose_spec h
theorem zmK{ops:List Op}{s r:List (List Int)}(hs:0<s.length)(h:Vl ops s r):zlf ops s=r:=by
 have h':∃r,Vl ops s r:=⟨r,h⟩;rw[zlf,dif_pos h'];exact(Classical.choose_spec h').unique hs h
section
variable {nv:Nat}{ops:List Op}{s t r:List (List Int)}
theorem zi5{vs:List Int}(h:Ji vs s):Z4 (vs.map λn=>[n]) s:=by
 refine⟨by rw[List.length_map];exact h.1,λv=> ?_⟩
 by_cases hv:v<s.length
 ·rw[yN _ (show v<(vs.map λn=>[n]).length by rw[List.length_map,h.1];exact hv),List.getElem_map,List.singleton_sublist]
  have:=h.2 v hv
  rwa[yN _ (show v<vs.length by rw[h.1];exact hv)]at this
 ·rw[pR (by rw[List.length_map,h.1];omega)];exact List.nil_sublist _
theorem Tm(vs:List Int):Ji vs (vs.map λn=>[n]):=⟨by rw[List.length_map],λv hv=>by
 rw[yN _ hv,List.getElem_map,List.mem_singleton,yN]⟩
theorem WS.single{op:Op}{Q:List Int→Bool}(h:WS nv op Q){vs:List Int}(hl:vs.length=nv)(hq:Q vs=true):op (vs.map λn=>[n])=vs.map λn=>[n]:=by
 have hs:(vs.map λn=>[n]).length=nv:=by rw[List.length_map];exact hl
 rw[h.some _ hs (Tm vs).fail ⟨vs,Tm vs,hq⟩];refine Wp λv n hn=>nY.2 ⟨vs,Tm vs,?_,hq⟩
 by_cases hv:v<vs.length
 ·rw[yN _ (show v<(vs.map λn=>[n]).length by rw[List.length_map];exact hv),List.getElem_map,List.mem_singleton]at hn
  rw[yN _ hv,hn]
 ·rw[pR (by rw[List.length_map];omega)]at hn;cases hn
theorem Vl.keeps(h:Vl ops s r)(hl:s.length=nv){vs:List Int}(hv:Ji vs s)(hq:∀op∈ops,∃Q,WS nv op Q∧Q vs=true):Ji vs r:=by
 have h1:=h.all (vs.map λn=>[n]) (zi5 hv) (Tm vs).fail λop hm=>by
  obtain⟨Q,h1,h2⟩:=hq op hm;exact h1.single (hv.1.trans hl) h2
 exact(Tm vs).mono h1
theorem Vl.mono{ops':List Op}{s' r':List (List Int)}(hs:0<s.length)(h:Vl ops s r)(h':Vl ops' s' r')(hle:Z4 s s')(hsub:∀op∈ops',op∈ops):Z4 r r':=by
 rcases h.out with⟨h1,h2⟩|h1
 ·exact h'.all r (h.le.trans hle) h1 λop hm=>h2 op (hsub op hm)
 ·rw[h1];exact Ph (hle.1.trans h'.le.1.symm)
theorem Vl.failed(h:Vl ops s r)(hf:zY s=true):r=iN s:=by
 rcases h.out with⟨h1,_⟩|h1
 ·have:=h.le.fail h1;rw[hf]at this;cases this
 ·exact h1
end
end Go.Proofs.YteimklbiapnfhaaGreat
namespace Go.Proofs.YteimklbiapnfhaaGreat
set_option linter.unusedVariables false
set_option linter.unusedSimpArgs false
variable[Lo]
theorem Iz{α:Type}{p q:α→Bool}:∀ {l:List α},(∀x∈l,p x=q x)→l.any p=l.any q
 |[],_=>rfl
 |x::l,h=>by rw[List.any_cons,List.any_cons,h x (List.mem_cons_self ..),Iz λy hy=>h y (List.mem_cons_of_mem _ hy)]
theorem zhF{c:zQ}{v:Int}(h:v∈c.vars):SB c v=true:=by
 rw[SB,Bool.or_eq_true];exact .inl (List.any_eq_true.2 ⟨v,h,decide_eq_true rfl⟩)
theorem zhG{c:zQ}{l:zC}(h:l∈c.lits):SB c l.var=true:=by
 rw[SB,Bool.or_eq_true];exact .inr (List.any_eq_true.2 ⟨l,h,decide_eq_true rfl⟩)
theorem zlg{c:zQ}{v:Int}(h:SB c v=true):v∈c.vars∨∃l∈c.lits,l.var=v:=by
 rw[SB,Bool.or_eq_true,List.any_eq_true,List.any_eq_true]at h
 rcases h with⟨x,hx,e⟩|⟨l,hl,e⟩
 ·rw[←of_decide_eq_true e];exact .inl hx
 ·exact .inr ⟨l,hl,of_decide_eq_true e⟩
theorem zdk{c:zQ}{nv:Nat}(hc:uO c nv){vs us:List Int}(h:∀v:Nat,v<nv→SB c v=true→vs.getD v 0=us.getD v 0):yD c vs=yD c us:=by
 unfold yD;refine List.map_congr_left λv hv=> ?_
 have h1:=hc.vars v hv;refine h v.toNat (by omega) ?_
 rw[Int.toNat_of_nonneg h1.1];exact zhF hv
theorem mZ{c:zQ}{nv:Nat}(hc:uO c nv){vs us:List Int}(h:∀v:Nat,v<nv→SB c v=true→vs.getD v 0=us.getD v 0):xD c vs=xD c us:=by
 have h1:=zdk hc h
 have h2:∀l∈c.lits,holdsL l (vs.getD l.var.toNat 0)=holdsL l (us.getD l.var.toNat 0):=λl hl=>by
  have h1:=(tS.1 (hc.lits l hl)).1;rw[h l.var.toNat (by omega) (by rw[Int.toNat_of_nonneg h1.1];exact zhG hl)]
 have h3:(c.lits.any λl=>holdsL l (vs.getD l.var.toNat 0))=c.lits.any λl=>holdsL l (us.getD l.var.toNat 0):=Iz h2
 have h4:((c.lits.take 1).any λl=>holdsL l (vs.getD l.var.toNat 0))=(c.lits.take 1).any λl=>holdsL l (us.getD l.var.toNat 0):=Iz λl hl=>h2 l (List.mem_of_mem_take hl)
 unfold xD;rw[h1,h3,h4]
theorem VR{f g:Nat→Int→Bool}{s:List (List Int)}(h:∀(v:Nat) (n:Int),n∈s.getD v []→f v n=g v n):pZ f s=pZ g s:=
 L3 (d:=[]) (by rw[rO,rO]) λv=>by rw[qN,qN];exact List.filter_congr λn hn=>h v n hn
theorem IA{c:zQ}{nv:Nat}(h:yA c nv=[]){v:Nat}(hv:v<nv):SB c v=false:=by
 cases e:SB c v
 ·rfl
 ·have:(v:Int)∈yA c nv:=List.mem_filter.2 ⟨SA.2 (by omega),e⟩
  rw[h]at this;cases this
theorem pT{c:zQ}{nv:Nat}{v:Int}:v∈yA c nv↔(0≤v∧v<nv)∧SB c v=true:=by
 rw[yA,List.mem_filter,SA];constructor
 ·rintro⟨h1,h2⟩;exact⟨by omega,h2⟩
 ·rintro⟨h1,h2⟩;exact⟨by omega,h2⟩
noncomputable def yG (c:zQ)(s:List (List Int)):List (List Int):=
 if zY s=true then s else if yA c s.length=[]then(if xD c []=true then s else iN s)else pZ (λv n=> !SB c v||mayB (xD c) s v n) s
theorem Tn{c:zQ}{nv:Nat}(hc:uO c nv)(h0:0<nv):WS nv (yG c) (xD c):=by
 refine⟨λs hl hf=>if_pos hf,λs hl hf he=> ?_,λs hl hf he=> ?_⟩
 ·rw[yG,if_neg (by rw[hf];decide)]
  by_cases hs:yA c s.length=[]
  ·rw[if_pos hs,if_neg]
   ·exact⟨aZ (by omega),Ph rfl⟩
   ·intro ht
    obtain⟨vs,hv⟩:=Pi hf;refine he ⟨vs,hv,?_⟩;rw[←ht];exact mZ hc λv h1 h2=>by rw[hl]at hs;rw[IA hs h1]at h2;cases h2
  ·rw[if_neg hs]
   refine⟨?_,L4⟩;obtain⟨v,hv⟩:=List.exists_mem_of_ne_nil _ hs;obtain⟨h1,h2⟩:=pT.1 hv;refine DV.2 ⟨v.toNat,by rw[rO];omega,?_⟩
   rw[qN,List.filter_eq_nil_iff];intro n hn hx;rw[Int.toNat_of_nonneg h1.1,h2,Bool.not_true,Bool.false_or]at hx
   obtain⟨vs,a,_,b⟩:=nY.1 hx;exact he ⟨vs,a,b⟩
 ·obtain⟨vs,hv,ht⟩:=he
  rw[yG,if_neg (by rw[hf];decide)]
  by_cases hs:yA c s.length=[]
  ·have hn:∀us,xD c us=true:=λus=>by
    rw[←ht];exact mZ hc λv h1 h2=>by rw[hl]at hs;rw[IA hs h1]at h2;cases h2
   rw[if_pos hs,if_pos (hn []),Wp λv n hm=>nY.2 ?_]
   obtain⟨us,h1,h2⟩:=pick hf hm;exact⟨us,h1,h2,hn us⟩
  ·rw[if_neg hs]
   refine VR λv n hn=> ?_
   cases hi:SB c v
   ·rw[Bool.not_false,Bool.true_or]
    have hvl:v<s.length:=by
     apply Classical.byContradiction;intro h;rw[pR (by omega)]at hn;cases hn
    refine(nY.2 ⟨vs.set v n,hv.set hn hvl,?_,?_⟩).symm
    ·rw[tF (by rw[hv.1];exact hvl),if_pos rfl]
    ·rw[←ht]
     refine mZ hc λu h1 h2=> ?_
     rw[tF (by rw[hv.1];exact hvl),if_neg]
     intro e;rw[e,hi]at h2;cases h2
   ·rw[Bool.not_true,Bool.false_or]
theorem ME{s:List (List Int)}{l:zC}:0≤ZV s l↔∃n∈s.getD l.var.toNat [],holdsL l n=true:=by
 rw[ZV,Hz];split
 ·rename_i h
  rw[List.any_eq_false]at h
  exact⟨λe=>absurd e (by decide),λ⟨n,h1,h2⟩=>absurd h2 (h n h1)⟩
 ·rename_i h
  rw[Bool.not_eq_false,List.any_eq_true]at h
  refine⟨λ_=>h,λ_=> ?_⟩
  split<;>decide
theorem DX{s:List (List Int)}{c:List zC}{v:Int}:v∈jA s c↔∃l∈c,l.var=v∧∃n∈s.getD v.toNat [],holdsL l n=true:=by
 rw[jA,List.mem_map];constructor
 ·rintro⟨l,hl,rfl⟩
  obtain⟨h1,h2⟩:=List.mem_filter.1 hl;exact⟨l,h1,rfl,ME.1 (of_decide_eq_true h2)⟩
 ·rintro⟨l,h1,rfl,h2⟩
  exact⟨l,List.mem_filter.2 ⟨h1,decide_eq_true (ME.2 h2)⟩,rfl⟩
theorem eR{c:List zC}{vs:List Int}:Mu c vs=true↔∃l∈c,holdsL l (vs.getD l.var.toNat 0)=true:=List.any_eq_true
theorem Pj{c:List zC}{v n:Int}:atC c v n=true↔∃l∈c,l.var=v∧holdsL l n=true:=by
 rw[atC,List.any_eq_true];constructor
 ·rintro⟨l,hl,h⟩
  split at h
  ·rename_i e;exact⟨l,hl,e,h⟩
  ·cases h
 ·rintro⟨l,hl,h1,h2⟩
  exact⟨l,hl,by rw[if_pos h1];exact h2⟩
theorem zhH{c:List zC}{nv:Nat}(hc:∀l∈c,0≤l.var∧l.var<nv)(h0:0<nv):WS nv (λs=>kC s c) (Mu c):=by
 have lives:∀ {s:List (List Int)} {vs:List Int} {l:zC},s.length=nv→Ji vs s→l∈c→holdsL l (vs.getD l.var.toNat 0)=true→l.var∈jA s c:=fun {s vs l} hl hv hm hh=>by
  have:=hc l hm;exact DX.2 ⟨l,hm,rfl,_,hv.2 _ (by omega),hh⟩
 have holds:∀ {s:List (List Int)},s.length=nv→zY s=false→∀ {v:Int},v∈jA s c→∀(w:Nat) (n:Int),n∈s.getD w []→(w:Int)≠v→∃vs,Ji vs s∧vs.getD w 0=n∧Mu c vs=true:=fun {s} hl hf {v} hm w n hn hw=>by
  obtain⟨l,h1,h2,k,h3,h4⟩:=DX.1 hm;have hr:=hc l h1;obtain⟨vs,hv,e⟩:=pick hf h3
  have hwl:w<s.length:=by
   apply Classical.byContradiction;intro h;rw[pR (by omega)]at hn;cases hn
  refine⟨vs.set w n,hv.set hn hwl,by rw[tF (by rw[hv.1];exact hwl),if_pos rfl],eR.2 ⟨l,h1,?_⟩⟩
  rw[tF (by rw[hv.1];exact hwl),if_neg (by omega),h2,e];exact h4
 refine⟨λs hl hf=>if_pos hf,λs hl hf he=> ?_,λs hl hf he=> ?_⟩
 ·have hL:jA s c=[]:=by
   cases h:jA s c with
   |nil=>rfl
   |cons v vs=>
    obtain⟨l,h1,h2,n,h3,h4⟩:=DX.1 (show v∈jA s c by rw[h];exact List.mem_cons_self ..)
    obtain⟨us,hu,e⟩:=pick hf h3;exact absurd ⟨us,hu,eR.2 ⟨l,h1,by rw[h2,e];exact h4⟩⟩ he
  show zY (kC s c)=true∧Z4 (kC s c) s
  rw[kC,if_neg (by rw[hf];decide),Oe c λl hl=>(hc l hl).1,hL]
  exact⟨aZ (by omega),Ph rfl⟩
 ·obtain⟨vs,hv,ht⟩:=he
  obtain⟨l,hlm,hlh⟩:=eR.1 ht;have hlv:=lives hl hv hlm hlh;show kC s c=_
  rw[kC,if_neg (by rw[hf];decide),Oe c λl hl=>(hc l hl).1]
  cases hL:jA s c with
  |nil=>rw[hL]at hlv;cases hlv
  |cons u us=>
   have hum:u∈jA s c:=by rw[hL];exact List.mem_cons_self ..
   by_cases ha:us.all (λx=>decide (x=u))=true
   ·simp only[ha,if_true]
    have hall:∀x∈jA s c,x=u:=λx hx=>by
     rw[hL]at hx
     rcases List.mem_cons.1 hx with h|h
     ·exact h
     ·exact of_decide_eq_true (List.all_eq_true.1 ha x h)
    refine VR λw n hn=> ?_
    by_cases hw:(w:Int)=u
    ·rw[decide_eq_true hw,Bool.not_true,Bool.false_or]
     apply Bool.eq_iff_iff.2;rw[Pj,nY];constructor
     ·rintro⟨l,h1,h2,h3⟩
      obtain⟨x,hx,e⟩:=pick hf hn;refine⟨x,hx,e,eR.2 ⟨l,h1,?_⟩⟩;rw[show l.var.toNat=w by omega,e];exact h3
     ·rintro⟨x,hx,e,hh⟩
      obtain⟨l,h1,h2⟩:=eR.1 hh;have h3:=hall _ (lives hl hx h1 h2);refine⟨l,h1,h3,?_⟩
      rwa[show l.var.toNat=w by omega,e]at h2
    ·rw[decide_eq_false hw,Bool.not_false,Bool.true_or]
     exact(nY.2 (holds hl hf hum w n hn hw)).symm
   ·simp only[ha]
    have hx:∃x∈us,x≠u:=by
     apply Classical.byContradiction;intro hn;exact ha (List.all_eq_true.2 λx hx=>decide_eq_true (Classical.byContradiction λe=>hn ⟨x,hx,e⟩))
    obtain⟨x,hx,hxu⟩:=hx;have hxm:x∈jA s c:=by rw[hL];exact List.mem_cons_of_mem _ hx
    refine(Wp λw n hn=>nY.2 ?_).symm
    by_cases hw:(w:Int)=u
    ·exact holds hl hf hxm w n hn (by omega)
    ·exact holds hl hf hum w n hn hw
end Go.Proofs.YteimklbiapnfhaaGreat
namespace Go.Proofs.YteimklbiapnfhaaGreat
set_option linter.unusedVariables false
set_option linter.unusedSimpArgs false
variable[Lo]
def L6(kt:Ty):Prop:=∀a b:kt.den,Je kt a b=true↔a=b
theorem gQ:L6 .int:=λa b=>decide_eq_true_iff
theorem Og:L6 (.pr .int .int):=λa b=>by
 show(decide (a.1=b.1)&&decide (a.2=b.2))=true↔a=b
 rw[Bool.and_eq_true,decide_eq_true_iff,decide_eq_true_iff];exact⟨λh=>Prod.ext h.1 h.2,λh=>by rw[h];exact⟨rfl,rfl⟩⟩
section
variable {kt vt:Ty}
theorem DY(hk:L6 kt)(x:kt.den):Je kt x x=true:=(hk x x).2 rfl
theorem zeY(hk:L6 kt){x y:kt.den}(h:x≠y):Je kt x y=false:=by
 cases e:Je kt x y
 ·rfl
 ·exact absurd ((hk x y).1 e) h
theorem To(hk:L6 kt){x:kt.den}{y:vt.den}:∀es:List (kt.den×vt.den),pH kt vt x (oa kt vt x y es)=some y
 |[]=>by rw[oa,pH,DY hk];rfl
 |(a,b)::es=>by
  rw[oa];cases e:Je kt x a
  ·rw[cond_false,pH,e,cond_false];exact To hk es
  ·rw[cond_true,pH,e];rfl
theorem WT(hk:L6 kt){x z:kt.den}{y:vt.den}(h:z≠x):∀es:List (kt.den×vt.den),pH kt vt z (oa kt vt x y es)=pH kt vt z es
 |[]=>by rw[oa,pH,pH,zeY hk h];rfl
 |(a,b)::es=>by
  rw[oa];cases e:Je kt x a
  ·rw[cond_false,pH,pH]
   cases Je kt z a
   ·rw[cond_false,cond_false];exact WT hk h es
   ·rfl
  ·have:=(hk x a).1 e
   subst this;rw[cond_true,pH,pH,zeY hk h,cond_false,cond_false]
theorem L7(hk:L6 kt){x:kt.den}{y:vt.den}:∀es:List (kt.den×vt.den),pH kt vt x es=none→oa kt vt x y es=es++[(x,y)]
 |[],_=>rfl
 |(a,b)::es,h=>by
  rw[pH]at h
  cases e:Je kt x a
  ·rw[e,cond_false]at h
   rw[oa,e,cond_false,L7 hk es h];rfl
  ·rw[e]at h;cases h
theorem AG(hk:L6 kt){x:kt.den}{y k:vt.den}:∀es:List (kt.den×vt.den),pH kt vt x es=some k→(k::(oa kt vt x y es).map Prod.snd).Perm (y::es.map Prod.snd)
 |[],h=>by cases h
 |(a,b)::es,h=>by
  rw[pH]at h
  cases e:Je kt x a
  ·rw[e,cond_false]at h
   rw[oa,e,cond_false,List.map_cons,List.map_cons];exact(List.Perm.swap _ _ _).trans (((AG hk es h).cons b).trans (List.Perm.swap _ _ _))
  ·rw[e,cond_true]at h
   obtain rfl:b=k:=by cases h;rfl
   rw[oa,e,cond_true,List.map_cons,List.map_cons];exact List.Perm.swap _ _ _
theorem L8(hk:L6 kt){x:kt.den}{y k:vt.den}:∀es:List (kt.den×vt.den),pH kt vt x es=some k→(oa kt vt x y es).map Prod.fst=es.map Prod.fst
 |[],h=>by cases h
 |(a,b)::es,h=>by
  rw[pH]at h
  cases e:Je kt x a
  ·rw[e,cond_false]at h
   rw[oa,e,cond_false,List.map_cons,List.map_cons,L8 hk es h]
  ·rw[oa,e,cond_true];rfl
theorem Xp(hk:L6 kt){x:kt.den}:∀es:List (kt.den×vt.den),x∈es.map Prod.fst↔∃k,pH kt vt x es=some k
 |[]=>⟨λh=>(by cases h),λ⟨k,h⟩=>(by cases h)⟩
 |(a,b)::es=>by
  rw[List.map_cons,List.mem_cons,pH];cases e:Je kt x a
  ·rw[cond_false]
   have hn:x≠a:=λh=>by subst h;rw[DY hk]at e;cases e
   exact⟨λh=>(Xp hk es).1 (h.resolve_left hn),λh=> .inr ((Xp hk es).2 h)⟩
  ·exact⟨λ_=>⟨b,rfl⟩,λ_=> .inl ((hk x a).1 e)⟩
theorem zdl(hk:L6 kt){x:kt.den}{k:vt.den}:∀es:List (kt.den×vt.den),pH kt vt x es=some k→(x,k)∈es
 |[],h=>by cases h
 |(a,b)::es,h=>by
  rw[pH]at h
  cases e:Je kt x a
  ·rw[e,cond_false]at h;exact List.mem_cons_of_mem _ (zdl hk es h)
  ·rw[e,cond_true]at h
   obtain rfl:b=k:=by cases h;rfl
   rw[(hk x a).1 e];exact List.mem_cons_self ..
theorem zbo(hk:L6 kt){x:kt.den}{k:vt.den}:∀es:List (kt.den×vt.den),(es.map Prod.fst).Nodup→(x,k)∈es→pH kt vt x es=some k
 |[],_,h=>by cases h
 |(a,b)::es,hn,h=>by
  rw[List.map_cons,List.nodup_cons]at hn
  rw[pH];rcases List.mem_cons.1 h with h|h
  ·obtain⟨rfl,rfl⟩:x=a∧k=b:=by cases h;exact⟨rfl,rfl⟩
   rw[DY hk];rfl
  ·rw[zeY hk λe=>hn.1 (by rw[←e];exact List.mem_map.2 ⟨_,h,rfl⟩),cond_false]
   exact zbo hk es hn.2 h
theorem DZ(hk:L6 kt){x:kt.den}{y:vt.den}{es:List (kt.den×vt.den)}(h:(es.map Prod.fst).Nodup):((oa kt vt x y es).map Prod.fst).Nodup:=by
 cases e:pH kt vt x es with
 |none=>
  rw[L7 hk es e,List.map_append,List.nodup_append];refine⟨h,by simp,λa ha b hb=> ?_⟩
  rintro rfl;obtain rfl:a=x:=by simpa using hb
  obtain⟨k,h2⟩:=(Xp hk es).1 ha;rw[e]at h2;cases h2
 |some k=>rw[L8 hk es e];exact h
theorem D0(hk:L6 kt){x z:kt.den}{y:vt.den}(es:List (kt.den×vt.den)):z∈(oa kt vt x y es).map Prod.fst↔z=x∨z∈es.map Prod.fst:=by
 rw[Xp hk,Xp hk];constructor
 ·rintro⟨k,h⟩
  apply Classical.byContradiction;intro hn;rw[WT hk (λe=>hn (.inl e))]at h
  exact hn (.inr ⟨k,h⟩)
 ·rintro(rfl|⟨k,h⟩)
  ·exact⟨y,To hk es⟩
  ·apply Classical.byContradiction
   intro hn
   by_cases e:z=x
   ·subst e;exact hn ⟨y,To hk es⟩
   ·exact hn ⟨k,by rw[WT hk e];exact h⟩
end
theorem zlh{α:Type}{t:List α}{k:Nat}(d:α)(h:k<t.length):t.getD k d=t[k]:=by rw[List.getD_eq_getElem?_getD,List.getElem?_eq_getElem h];rfl
theorem zhI{lo:Int}:∀ {n:Nat} {k:Int},k∈(List.range n).map (λi:Nat=>lo+i)↔lo≤k∧k<lo+n:=fun {n k}=>by
 rw[List.mem_map];constructor
 ·rintro⟨i,hi,rfl⟩;have:=List.mem_range.1 hi;omega
 ·rintro⟨h1,h2⟩;exact⟨(k-lo).toNat,List.mem_range.2 (by omega),by omega⟩
theorem eS{l:List Int}(h:l.Nodup){lo:Int}{n:Nat}(hl:∀x∈l,lo≤x∧x<lo+n):l.length≤n:=by
 have:=h.length_le_of_subset (l₂:=(List.range n).map λi:Nat=>lo+i) λx hx=>zhI.2 (hl x hx)
 rwa[List.length_map,List.length_range]at this
theorem Tp{α β:Type}{f:α→β}:∀ {l:List α},l.Nodup→(∀a∈l,∀b∈l,f a=f b→a=b)→(l.map f).Nodup
 |[],_,_=>List.nodup_nil
 |a::l,h,hi=>by
  rw[List.nodup_cons]at h
  rw[List.map_cons,List.nodup_cons];refine⟨λhm=> ?_,Tp h.2 λx hx y hy=>hi x (List.mem_cons_of_mem _ hx) y (List.mem_cons_of_mem _ hy)⟩
  obtain⟨b,hb,e⟩:=List.mem_map.1 hm;exact h.1 (by rw[←hi b (List.mem_cons_of_mem _ hb) a (List.mem_cons_self ..) e];exact hb)
theorem AH{α:Type}{p q:α→Bool}:∀ {l:List α},(∀x∈l,p x=true→q x=true)→(∃x∈l,q x=true∧p x=false)→l.countP p<l.countP q
 |[],_,⟨x,h,_⟩=>by cases h
 |a::l,h1,⟨x,hx,h2,h3⟩=>by
  have hle:l.countP p≤l.countP q:=List.countP_mono_left λx hx=>h1 x (List.mem_cons_of_mem _ hx)
  rw[List.countP_cons,List.countP_cons];rcases List.mem_cons.1 hx with rfl|hx
  ·rw[if_pos h2,if_neg (by rw[h3];decide)];omega
  ·have:=AH (λx hx=>h1 x (List.mem_cons_of_mem _ hx)) ⟨x,hx,h2,h3⟩
   by_cases hp:p a=true
   ·rw[if_pos hp,if_pos (h1 a (List.mem_cons_self ..) hp)];omega
   ·rw[if_neg hp];split<;>omega
abbrev KV:=List (Int×Int)
section
variable {x y z k:Int}{m:KV}
theorem zbp:pH .int .int x (oa .int .int x y m)=some y:=To (kt:=.int) (vt:=.int) gQ m
theorem Pk(h:z≠x):pH .int .int z (oa .int .int x y m)=pH .int .int z m:=WT (kt:=.int) (vt:=.int) gQ h m
theorem zn2(h:pH .int .int x m=none):oa .int .int x y m=m++[(x,y)]:=L7 (kt:=.int) (vt:=.int) gQ m h
theorem zmL(h:pH .int .int x m=some k):(k::(oa .int .int x y m).map Prod.snd).Perm (y::m.map Prod.snd):=AG (kt:=.int) (vt:=.int) gQ m h
theorem zn3:x∈m.map Prod.fst↔∃k,pH .int .int x m=some k:=Xp (kt:=.int) (vt:=.int) gQ m
theorem zn4(h:pH .int .int x m=some k):(x,k)∈m:=zdl (kt:=.int) (vt:=.int) gQ m h
theorem zno(h:(m.map Prod.fst).Nodup)(h2:(x,k)∈m):pH .int .int x m=some k:=zbo (kt:=.int) (vt:=.int) gQ m h h2
theorem zdm(h:(m.map Prod.fst).Nodup):((oa .int .int x y m).map Prod.fst).Nodup:=DZ (kt:=.int) (vt:=.int) gQ h
theorem zn5:z∈(oa .int .int x y m).map Prod.fst↔z=x∨z∈m.map Prod.fst:=D0 (kt:=.int) (vt:=.int) gQ m
end
def NL(turn:Int)(a:KV)(n:Int):Prop:=cD .int .int n a=turn
structure Z5 (turn:Int)(a:KV):Prop where
 nodup:(a.map Prod.fst).Nodup
 near:∀n∈a.map Prod.fst,-50≤n∧n≤50
 turns:∀n t:Int,pH .int .int n a=some t→1≤t∧t≤turn
structure IB (rows:List (List Int))(m:KV):Prop where
 nodup:(m.map Prod.fst).Nodup
 ok:∀n k:Int,pH .int .int n m=some k→0≤k∧k<rows.length∧n∈rows.getD k.toNat []
def left(turn:Int)(a:KV):Nat:=((List.range 101).map λi:Nat=>(-50:Int)+i).countP λn=> !decide (cD .int .int n a=turn)
instance {turn n:Int}{a:KV}:Decidable (NL turn a n):=inferInstanceAs (Decidable (_=_))
theorem X9{turn n:Int}(a:KV):NL turn (oa .int .int n turn a) n:=by rw[NL,cD,zbp];rfl
theorem BA{turn n x:Int}{a:KV}(h:x≠n):NL turn (oa .int .int n turn a) x↔NL turn a x:=by rw[NL,NL,cD,cD,Pk h]
theorem FF{turn n x:Int}{a:KV}:NL turn (oa .int .int n turn a) x↔x=n∨NL turn a x:=by
 by_cases h:x=n
 ·subst h;exact⟨λ_=> .inl rfl,λ_=>X9 a⟩
 ·rw[BA h];exact⟨.inr,λh'=>h'.resolve_left h⟩
theorem zi6{turn:Int}{a b:KV}(h:∀n,NL turn a n→NL turn b n):left turn b≤left turn a:=
 List.countP_mono_left λn _ hn=>by
  simp only[Bool.not_eq_true',decide_eq_false_iff_not]at hn⊢
  exact λe=>hn (h n e)
theorem zmM{turn n:Int}{a:KV}(hn: -50≤n∧n≤50)(h:¬NL turn a n):left turn (oa .int .int n turn a)<left turn a:=
 AH (λx _ hx=>by
  simp only[Bool.not_eq_true',decide_eq_false_iff_not]at hx⊢
  exact λe=>hx (FF.2 (.inr e))) ⟨n,zhI.2 (by omega),by simp only[Bool.not_eq_true',decide_eq_false_iff_not];exact h,by simp only[Bool.not_eq_false',decide_eq_true_iff];exact X9 a⟩
theorem Z5.put{turn n:Int}{a:KV}(h:Z5 turn a)(hn: -50≤n∧n≤50)(ht:1≤turn):Z5 turn (oa .int .int n turn a):=by
 refine⟨zdm h.nodup,λx hx=> ?_,λx t hx=> ?_⟩
 ·rcases zn5.1 hx with rfl|hx
  ·exact hn
  ·exact h.near x hx
 ·by_cases e:x=n
  ·subst e;rw[zbp]at hx;cases hx;omega
  ·rw[Pk e]at hx;exact h.turns x t hx
theorem Z5.length{turn:Int}{a:KV}(h:Z5 turn a):a.length≤101:=by
 have:=eS h.nodup (lo:= -50) (n:=101) λx hx=>by have:=h.near x hx;omega
 rwa[List.length_map]at this
theorem Z5.none{turn:Int}{a:KV}(h:Z5 turn a)(h0:0≤turn){t:Int}(ht:turn<t)(n:Int):¬NL t a n:=by
 rw[NL,cD];cases e:pH .int .int n a with
 |none=>show¬(0:Int)=t;omega
 |some k=>
  intro(hh:(k:Int)=t);have h2:=h.turns n k e;rw[hh]at h2;omega
theorem Z5.later{turn:Int}{a:KV}(h:Z5 turn a){t:Int}(ht:turn≤t):Z5 t a:=⟨h.nodup,h.near,λn k e=>by have:=h.turns n k e;omega⟩
theorem zi7:Z5 0 []:=⟨List.nodup_nil,λn hn=>(by cases hn),λn t h=>(by cases h)⟩
theorem zli{rows:List (List Int)}:IB rows []:=⟨List.nodup_nil,λn t h=>(by cases h)⟩
theorem IB.length{rows:List (List Int)}{m:KV}(h:IB rows m)(hr:∀r∈rows,∀n∈r,-50≤n∧n≤50):m.length≤101:=by
 have:=eS h.nodup (lo:= -50) (n:=101) λx hx=>by
  obtain⟨k,hk⟩:=zn3.1 hx;obtain⟨h1,h2,h3⟩:=h.ok x k hk;have hl:k.toNat<rows.length:=by omega
  rw[zlh _ hl]at h3
  have:=hr _ (List.getElem_mem hl) x h3;omega
 rwa[List.length_map]at this
structure D1 (rows:List (List Int))(turn i:Int)(m a m' a':KV):Prop where
 ok:IB rows m'
 ask:Z5 turn a'
 vals:(m'.map Prod.snd).Perm (i::m.map Prod.snd)
 same:∀n:Int,NL turn a n→pH .int .int n m'=pH .int .int n m
structure L9 (rows:List (List Int))(turn:Int)(m a:KV)(pre:List Int)(a':KV):Prop where
 ask:Z5 turn a'
 more:∀n,NL turn a n→NL turn a' n
 row:∀n∈pre,NL turn a' n
 closed:∀n,NL turn a' n→NL turn a n∨∃k:Int,pH .int .int n m=some k∧∀x∈rows.getD k.toNat [],NL turn a' x
section
variable {rows:List (List Int)}{turn i k n:Int}{m a a1 a2 m2:KV}{pre:List Int}
theorem IB.put(h:IB rows m)(hi:0≤i∧i<rows.length∧n∈rows.getD i.toNat []):IB rows (oa .int .int n i m):=by
 refine⟨zdm h.nodup,λx k hx=> ?_⟩
 by_cases e:x=n
 ·subst e;rw[zbp]at hx;cases hx;exact hi
 ·rw[Pk e]at hx;exact h.ok x k hx
theorem zeZ(h:IB rows m)(ha:Z5 turn a)(ht:1≤turn)(hn: -50≤n∧n≤50)(hi:0≤i∧i<rows.length∧n∈rows.getD i.toNat [])(hna:¬NL turn a n)(hm:pH .int .int n m=none):D1 rows turn i m a (oa .int .int n i m) (oa .int .int n turn a):=by
 refine⟨h.put hi,ha.put hn ht,?_,λx hx=>Pk (λe=>hna (by rw[←e];exact hx))⟩
 rw[zn2 hm,List.map_append];exact List.perm_append_comm
theorem ze0(hi:0≤i∧i<rows.length∧n∈rows.getD i.toNat [])(hna:¬NL turn a n)(hm:pH .int .int n m=some k)(h:D1 rows turn k m (oa .int .int n turn a) m2 a2):D1 rows turn i m a (oa .int .int n i m2) a2:=by
 have h2:pH .int .int n m2=some k:=(h.same n (X9 a)).trans hm;refine⟨h.ok.put hi,h.ask,?_,λx hx=> ?_⟩
 ·have h3:=zmL (y:=i) h2
  exact List.Perm.cons_inv (h3.trans ((h.vals.cons i).trans (List.Perm.swap _ _ _)))
 ·rw[Pk (λe=>hna (by rw[←e];exact hx))]
  exact h.same x (FF.2 (.inr hx))
theorem D1.start(h:D1 rows turn i m a1 m2 a2)(hm:∀n,NL turn a n→NL turn a1 n):D1 rows turn i m a m2 a2:=⟨h.ok,h.ask,h.vals,λn hn=>h.same n (hm n hn)⟩
theorem AJ(h:Z5 turn a):L9 rows turn m a [] a:=⟨h,λ_ h=>h,λn hn=>(by cases hn),λ_ h=> .inl h⟩
theorem ze1(h:L9 rows turn m a pre a1)(hn:NL turn a1 n):L9 rows turn m a (pre++[n]) a1:=⟨h.ask,h.more,λx hx=>by
 rcases List.mem_append.1 hx with hx|hx
 ·exact h.row x hx
 ·rw[List.mem_singleton.1 hx];exact hn,h.closed⟩
theorem ze2(h:L9 rows turn m a pre a1)(hm:pH .int .int n m=some k)(h2:L9 rows turn m (oa .int .int n turn a1) (rows.getD k.toNat []) a2):L9 rows turn m a (pre++[n]) a2:=by
 have up:∀x,NL turn a1 x→NL turn a2 x:=λx hx=>h2.more x (FF.2 (.inr hx))
 refine⟨h2.ask,λx hx=>up x (h.more x hx),λx hx=> ?_,λx hx=> ?_⟩
 ·rcases List.mem_append.1 hx with hx|hx
  ·exact up x (h.row x hx)
  ·rw[List.mem_singleton.1 hx];exact h2.more n (X9 a1)
 ·rcases h2.closed x hx with h3|h3
  ·rcases FF.1 h3 with rfl|h3
   ·exact .inr ⟨k,hm,h2.row⟩
   ·rcases h.closed x h3 with h4|⟨j,h4,h5⟩
    ·exact .inl h4
    ·exact .inr ⟨j,h4,λy hy=>up y (h5 y hy)⟩
  ·exact .inr h3
def upI(n:Nat):List Int:=(List.range n).map λi:Nat=>(i:Int)
theorem zhJ{n:Nat}{k:Int}:k∈upI n↔0≤k∧k<n:=by
 rw[upI,List.mem_map];constructor
 ·rintro⟨i,hi,rfl⟩;have:=List.mem_range.1 hi;omega
 ·rintro⟨h1,h2⟩;exact⟨k.toNat,List.mem_range.2 (by omega),by omega⟩
theorem zi8(n:Nat):(upI n).Nodup:=Tp List.nodup_range λa _ b _ h=>Int.ofNat.inj h
theorem zlj{n:Nat}:((n:Int)::upI n).Perm (upI (n+1)):=by
 rw[upI,upI,List.range_succ,List.map_append];exact List.perm_append_comm (l₁:=[(n:Int)])
theorem ze3{i:Nat}{a':KV}(h:IB rows m)(hv:(m.map Prod.snd).Perm (upI i))(ha:∀n,¬NL turn a n)(ht:L9 rows turn m a (rows.getD i []) a'):¬∃σ:Nat→Int,(∀j,j≤i→σ j∈rows.getD j [])∧∀j k,j≤i→k≤i→σ j=σ k→j=k:=by
 rintro⟨σ,h1,h2⟩
 let E:=m.filter λe=>decide (NL turn a' e.1)
 have hE:∀n,NL turn a' n→n∈E.map Prod.fst:=λn hn=>by
  rcases ht.closed n hn with h3|⟨k,h3,_⟩
  ·exact absurd h3 (ha n)
  ·exact List.mem_map.2 ⟨(n,k),List.mem_filter.2 ⟨zn4 h3,decide_eq_true hn⟩,rfl⟩
 have hX:∀x∈E.map Prod.snd,0≤x∧x<(i:Int):=λx hx=>by
  obtain⟨e,he,rfl⟩:=List.mem_map.1 hx;exact zhJ.1 (hv.subset (List.mem_map.2 ⟨e,(List.mem_filter.1 he).1,rfl⟩))
 have nd:((i:Int)::E.map Prod.snd).Nodup:=by
  rw[List.nodup_cons];refine⟨λhx=>by have:=hX _ hx;omega,?_⟩
  exact((hv.nodup_iff.2 (zi8 i))).sublist (List.filter_sublist.map Prod.snd)
 have nd2:(((i:Int)::E.map Prod.snd).map λx=>σ x.toNat).Nodup:=Tp nd λx hx y hy e=>by
  have b:∀z,z∈((i:Int)::E.map Prod.snd)→0≤z∧z≤(i:Int):=λz hz=>by
   rcases List.mem_cons.1 hz with rfl|hz
   ·omega
   ·have:=hX z hz;omega
  have:=h2 x.toNat y.toNat (by have:=b x hx;omega) (by have:=b y hy;omega) e
  have:=b x hx;have:=b y hy;omega
 have sub:(((i:Int)::E.map Prod.snd).map λx=>σ x.toNat)⊆E.map Prod.fst:=λy hy=>by
  obtain⟨x,hx,rfl⟩:=List.mem_map.1 hy;refine hE _ ?_;rcases List.mem_cons.1 hx with rfl|hx
  ·exact ht.row _ (h1 i (Nat.le_refl _))
  ·have hb:=hX x hx
   obtain⟨e,he,rfl⟩:=List.mem_map.1 hx;obtain⟨he1,he2⟩:=List.mem_filter.1 he;have he2:=of_decide_eq_true he2;rcases ht.closed e.1 he2 with h3|⟨k,h3,h4⟩
   ·exact absurd h3 (ha _)
   ·have:=zno h.nodup (show(e.1,e.2)∈m from he1)
    rw[h3]at this
    obtain rfl:k=e.2:=by cases this;rfl
    exact h4 _ (h1 _ (by omega))
 have:=nd2.length_le_of_subset sub;simp only[List.length_map,List.length_cons]at this
 omega
theorem zlk(h:IB rows m)(hv:(m.map Prod.snd).Perm (upI rows.length)):∃σ:Nat→Int,(∀j,j<rows.length→σ j∈rows.getD j [])∧∀j k,j<rows.length→k<rows.length→σ j=σ k→j=k:=by
 have hx:∀j:Nat,j<rows.length→∃n,pH .int .int n m=some (j:Int):=λj hj=>by
  obtain⟨e,he,h1⟩:=List.mem_map.1 (hv.symm.subset (zhJ.2 (show 0≤(j:Int)∧(j:Int)<rows.length by omega)))
  exact⟨e.1,zno h.nodup (by rw[←h1];exact he)⟩
 refine⟨λj=>if hj:j<rows.length then Classical.choose (hx j hj)else 0,λj hj=> ?_,λj k hj hk e=> ?_⟩
 ·simp only[dif_pos hj]
  have:=h.ok _ _ (Classical.choose_spec (hx j hj));simpa using this.2.2
 ·simp only[dif_pos hj,dif_pos hk]at e
  have h1:=Classical.choose_spec (hx j hj);have h2:=Classical.choose_spec (hx k hk);rw[e,h2]at h1
  have:(k:Int)=j:=by injection h1
  omega
end
end Go.Proofs.YteimklbiapnfhaaGreat
namespace Go.Proofs.YteimklbiapnfhaaGreat
set_option linter.unusedVariables false
set_option linter.unusedSimpArgs false
variable[Lo]
theorem D2{α:Type}(p:α→Bool):∀(xs:List α) (i:Int),(Jy p xs i= -1∧∀x∈xs,p x=false)∨∃(k:Nat) (h:k<xs.length),Jy p xs i=i+k∧p xs[k]=true∧∀(j:Nat) (hj:j<k),p (xs[j]'(by omega))=false
 |[],i=> .inl ⟨rfl,λx hx=>(by cases hx)⟩
 |x::xs,i=>by
  rw[Jy];cases e:p x
  ·rw[cond_false]
   rcases D2 p xs (i+1)with⟨h1,h2⟩|⟨k,h,h1,h2,h3⟩
   ·refine .inl ⟨h1,λy hy=> ?_⟩
    rcases List.mem_cons.1 hy with rfl|hy
    ·exact e
    ·exact h2 y hy
   ·refine .inr ⟨k+1,by simpa using h,by rw[h1];omega,by simpa using h2,λj hj=> ?_⟩
    cases j with
    |zero=>exact e
    |succ j=>simpa using h3 j (by omega)
  ·exact .inr ⟨0,Nat.zero_lt_succ _,by rw[cond_true];omega,e,λj hj=>absurd hj (by omega)⟩
def Wa:List xI→Int→Int→List xI
 |[],v,n=>[⟨v,n⟩]
 |t::r,v,n=>if t.v=v then⟨t.v,t.times+n⟩::r else t::Wa r v n
def iD(z:List (Int×Int)):List xI:=z.foldl (λo x=>Wa o x.1 x.2) []
def Ur(f:Int→Int)(ts:List xI):Int:=(ts.map λt=>t.times*f t.v).sum
theorem D3{f:Int→Int}:Ur f []=0:=rfl
theorem kE{f:Int→Int}{t:xI}{ts:List xI}:Ur f (t::ts)=t.times*f t.v+Ur f ts:=by rw[Ur,List.map_cons,List.sum_cons];rfl
theorem HU{f:Int→Int}{ts us:List xI}:Ur f (ts++us)=Ur f ts+Ur f us:=by rw[Ur,List.map_append,List.sum_append];rfl
theorem AK{f:Int→Int}{v n:Int}:∀ {o:List xI},Ur f (Wa o v n)=Ur f o+n*f v
 |[]=>by rw[Wa,kE,D3];simp
 |t::r=>by
  rw[Wa];split
  ·rename_i h
   rw[kE,kE,Int.add_mul,h];omega
  ·rw[kE,kE,AK];omega
theorem zdn{v n:Int}:∀ {o:List xI},(∀t∈o,t.v≠v)→Wa o v n=o++[⟨v,n⟩]
 |[],_=>rfl
 |t::r,h=>by
  rw[Wa,if_neg (h t (List.mem_cons_self ..)),zdn λt ht=>h t (List.mem_cons_of_mem _ ht)];rfl
theorem zdo{v n:Int}:∀ {o:List xI} {k:Nat} (hk:k<o.length),o[k].v=v→(∀(j:Nat) (hj:j<k),(o[j]'(by omega)).v≠v)→Wa o v n=o.set k ⟨o[k].v,o[k].times+n⟩
 |[],k,hk,_,_=>absurd hk (Nat.not_lt_zero _)
 |t::r,0,_,h,_=>by rw[Wa,if_pos (show t.v=v from h)];rfl
 |t::r,k+1,hk,h,hj=>by
  rw[Wa,if_neg (show¬t.v=v from hj 0 (Nat.zero_lt_succ _)),List.set_cons_succ,zdo (k:=k) (by simpa using hk) (by simpa using h) λj h2=>by simpa using hj (j+1) (by omega)]
  rfl
theorem D4{v n x:Int}:∀ {o:List xI},(x∈(Wa o v n).map xI.v)↔x∈o.map xI.v∨x=v
 |[]=>by rw[Wa];simp
 |t::r=>by
  rw[Wa];split
  ·rename_i h
   simp only[List.map_cons,List.mem_cons];exact⟨λe=> .inl e,λe=>e.elim id λe=> .inl (e.trans h.symm)⟩
  ·simp only[List.map_cons,List.mem_cons]
   rw[D4];exact⟨λe=>e.elim (λe=> .inl (.inl e)) λe=>e.elim (λe=> .inl (.inr e)) .inr,λe=>e.elim (λe=>e.elim .inl λe=> .inr (.inl e)) λe=> .inr (.inr e)⟩
theorem D5{v n:Int}:∀ {o:List xI},(o.map xI.v).Nodup→((Wa o v n).map xI.v).Nodup
 |[],_=>by rw[Wa];simp
 |t::r,h=>by
  rw[Wa];rw[List.map_cons,List.nodup_cons]at h
  split
  ·rw[List.map_cons,List.nodup_cons];exact h
  ·rename_i hn
   rw[List.map_cons,List.nodup_cons];refine⟨λhm=> ?_,D5 h.2⟩
   rcases D4.1 hm with hm|hm
   ·exact h.1 hm
   ·exact hn hm
theorem zdp{v n:Int}:∀ {o:List xI},(Wa o v n).length≤o.length+1
 |[]=>by rw[Wa];simp
 |t::r=>by
  rw[Wa];split
  ·simp
  ·have:=zdp (v:=v) (n:=n) (o:=r);simp;omega
theorem D6{v n:Int}(hn: -1000≤n∧n≤1000){b:Nat}:∀ {o:List xI},(∀t∈o,-1000*(b:Int)≤t.times∧t.times≤1000*(b:Int))→∀t∈Wa o v n,-1000*((b+1:Nat):Int)≤t.times∧t.times≤1000*((b+1:Nat):Int)
 |[],_,t,ht=>by
  rw[Wa,List.mem_singleton]at ht
  subst ht;show -1000*((b+1:Nat):Int)≤n∧n≤1000*((b+1:Nat):Int)
  omega
 |u::r,h,t,ht=>by
  rw[Wa]at ht
  split at ht
  ·rcases List.mem_cons.1 ht with rfl|ht
   ·have:=h u (List.mem_cons_self ..)
    show -1000*((b+1:Nat):Int)≤u.times+n∧u.times+n≤1000*((b+1:Nat):Int)
    omega
   ·have:=h t (List.mem_cons_of_mem _ ht);omega
  ·rcases List.mem_cons.1 ht with rfl|ht
   ·have:=h _ (List.mem_cons_self ..);omega
   ·exact D6 hn (λt ht=>h t (List.mem_cons_of_mem _ ht)) t ht
theorem Zm{z:List (Int×Int)}{x:Int×Int}:iD (z++[x])=Wa (iD z) x.1 x.2:=by rw[iD,List.foldl_append];rfl
theorem gZ{α:Type}{C:List α→Prop}(h0:C [])(h1:∀l a,C l→C (l++[a]))(l:List α):C l:=by
 have:∀n (l:List α),l.length=n→C l:=λn=>by
  induction n with
  |zero=>exact λl hl=>by rw[List.length_eq_zero_iff.1 hl];exact h0
  |succ n ih=>
   intro l hl;have hn:l≠[]:=λe=>by rw[e]at hl;cases hl
   rw[←List.dropLast_concat_getLast hn];exact h1 _ _ (ih _ (by rw[List.length_dropLast];omega))
 exact this _ l rfl
theorem SC(z:List (Int×Int)):((iD z).map xI.v).Nodup:=
 gZ (C:=λz=>((iD z).map xI.v).Nodup) List.nodup_nil (λl a h=>by rw[Zm];exact D5 h) z
theorem D7{x:Int}(z:List (Int×Int)):(x∈(iD z).map xI.v)↔x∈z.map Prod.fst:=
 gZ (C:=λz=>(x∈(iD z).map xI.v)↔x∈z.map Prod.fst) (by simp[iD]) (λl a h=>by rw[Zm,D4,h,List.map_append,List.mem_append];simp) z
theorem D8(z:List (Int×Int)):(iD z).length≤z.length:=
 gZ (C:=λz=>(iD z).length≤z.length) (Nat.le_refl _) (λl a h=>by rw[Zm,List.length_append];exact Nat.le_trans zdp (Nat.succ_le_succ h)) z
theorem Ka(z:List (Int×Int)):(∀x∈z,-1000≤x.2∧x.2≤1000)→∀t∈iD z,-1000*(z.length:Int)≤t.times∧t.times≤1000*(z.length:Int):=
 gZ (C:=λz=>(∀x∈z,-1000≤x.2∧x.2≤1000)→∀t∈iD z,-1000*(z.length:Int)≤t.times∧t.times≤1000*(z.length:Int)) (λ_ t ht=>(by cases ht)) (λl a h hz t ht=>by
  rw[Zm]at ht
  rw[List.length_append];exact D6 (hz a (by simp)) (h λx hx=>hz x (by simp[hx])) t ht) z
theorem ze4{f:Int→Int}(z:List (Int×Int)):Ur f (iD z)=(z.map λx=>x.2*f x.1).sum:=
 gZ (C:=λz=>Ur f (iD z)=(z.map λx=>x.2*f x.1).sum) rfl (λl a h=>by rw[Zm,AK,h,List.map_append,List.sum_append];simp) z
def vJ(c:zQ):List xI:=iD (c.vars.zip c.consts)
theorem AL:∀(ks vs:List Int) (f:Int→Int),QW (ks.zip (vs.map f))=((vs.zip ks).map λx=>x.2*f x.1).sum
 |[],vs,f=>by cases vs<;>rfl
 |k::ks,[],f=>rfl
 |k::ks,v::vs,f=>by
  rw[List.map_cons,List.zip_cons_cons,List.zip_cons_cons,QW,List.map_cons,List.sum_cons,List.map_cons,List.sum_cons,←AL ks vs f];rfl
theorem ze5{c:zQ}{vs:List Int}:Ur (λv=>vs.getD v.toNat 0) (vJ c)=QW (c.consts.zip (yD c vs)):=by
 rw[vJ,ze4,yD,AL]
def HW(ts:List xI)(s:List (List Int))(x:Int):Prop:=∃vs,Ji vs s∧x=Ur (λv=>vs.getD v.toNat 0) ts
theorem zi9{s:List (List Int)}(hf:zY s=false){x:Int}:HW [] s x↔x=0:=by
 constructor
 ·rintro⟨vs,_,h⟩;exact h
 ·intro h
  obtain⟨vs,hv⟩:=Pi hf;exact⟨vs,hv,h⟩
theorem D9{f g:Int→Int}:∀ {ts:List xI},(∀t∈ts,f t.v=g t.v)→Ur f ts=Ur g ts
 |[],_=>rfl
 |t::ts,h=>by rw[kE,kE,h t (List.mem_cons_self ..),D9 λt ht=>h t (List.mem_cons_of_mem _ ht)]
theorem zdq{ts:List xI}{vs:List Int}{v n:Int}(hv:0≤v)(hl:v.toNat<vs.length)(hts:∀t∈ts,0≤t.v)(hn:v∉ts.map xI.v):Ur (λu=>(vs.set v.toNat n).getD u.toNat 0) ts=Ur (λu=>vs.getD u.toNat 0) ts:=
 D9 λt ht=>by
  have h1:=hts t ht;rw[tF hl,if_neg];intro e;exact hn (List.mem_map.2 ⟨t,ht,by omega⟩)
theorem ze6{ts:List xI}{t:xI}{s:List (List Int)}(ht:0≤t.v)(hl:t.v.toNat<s.length)(hts:∀t∈ts,0≤t.v)(hn:t.v∉ts.map xI.v){x:Int}:HW (ts++[t]) s x↔∃a,HW ts s a∧∃n∈s.getD t.v.toNat [],x=a+t.times*n:=by
 constructor
 ·rintro⟨vs,hv,rfl⟩
  refine⟨_,⟨vs,hv,rfl⟩,vs.getD t.v.toNat 0,hv.2 _ hl,?_⟩;rw[HU,kE,D3,Int.add_zero]
 ·rintro⟨a,⟨vs,hv,rfl⟩,n,hm,rfl⟩
  have hl2:t.v.toNat<vs.length:=by rw[hv.1];exact hl
  refine⟨vs.set t.v.toNat n,hv.set hm hl,?_⟩;rw[HU,kE,D3,Int.add_zero,zdq ht hl2 hts hn,tF hl2,if_pos rfl]
def zdr(c:zQ)(n:Int):Bool:=if c.kind=1 then decide (n≤c.n)else if c.kind=2 then decide (n=c.n)else !decide (n=c.n)
theorem AM{c:zQ}(h:1≤c.kind∧c.kind≤3){vs:List Int}:xD c vs=zdr c (Ur (λv=>vs.getD v.toNat 0) (vJ c)):=by
 rw[ze5,xD,zdr];have:c.kind=1∨c.kind=2∨c.kind=3:=by omega
 rcases this with e|e|e<;>simp[e]
theorem MF{f:Int→Int}:∀ {ts:List xI} {i:Nat} (hi:i<ts.length),Ur f ts=Ur f (ts.eraseIdx i)+ts[i].times*f ts[i].v
 |[],i,hi=>absurd hi (Nat.not_lt_zero _)
 |t::ts,0,_=>by rw[List.eraseIdx_cons_zero,kE,Int.add_comm];rfl
 |t::ts,i+1,hi=>by
  rw[List.eraseIdx_cons_succ,kE,kE,MF (i:=i) (by simpa using hi)]
  simp only[List.getElem_cons_succ];omega
theorem HX{α:Type}:∀ {l:List α} {i:Nat} (hi:i<l.length),l.Nodup→l[i]∉l.eraseIdx i
 |[],i,hi,_=>absurd hi (Nat.not_lt_zero _)
 |a::l,0,_,h=>by rw[List.eraseIdx_cons_zero];exact(List.nodup_cons.1 h).1
 |a::l,i+1,hi,h=>by
  rw[List.nodup_cons]at h
  rw[List.eraseIdx_cons_succ,List.mem_cons];simp only[List.getElem_cons_succ];rintro(e|e)
  ·exact h.1 (e▸List.getElem_mem (by simpa using hi))
  ·exact HX (by simpa using hi) h.2 e
theorem AN{α β:Type}{f:α→β}:∀ {l:List α} {i:Nat},(l.map f).eraseIdx i=(l.eraseIdx i).map f
 |[],_=>rfl
 |a::l,0=>rfl
 |a::l,i+1=>by rw[List.map_cons,List.eraseIdx_cons_succ,List.eraseIdx_cons_succ,List.map_cons,AN]
theorem MG{c:zQ}{nv:Nat}(hc:uO c nv):∀t∈vJ c,0≤t.v∧t.v<nv:=λt ht=>by
 have:=(D7 (x:=t.v) (c.vars.zip c.consts)).1 (List.mem_map.2 ⟨t,ht,rfl⟩);obtain⟨x,hx,e⟩:=List.mem_map.1 this;exact hc.vars t.v (by rw[←e];exact(List.of_mem_zip hx).1)
theorem zmN{c:zQ}{s:List (List Int)}(hc:uO c s.length)(hk:c.kind≤3){i:Nat}(hi:i<(vJ c).length){n:Int}(hn:n∈s.getD (vJ c)[i].v.toNat []):
  May (xD c) s (vJ c)[i].v.toNat n↔∃a,HW ((vJ c).eraseIdx i) s a∧zdr c (a+(vJ c)[i].times*n)=true:=by
 have hk1:=hc.kind.1;have hv:=MG hc;have h1:=hv _ (List.getElem_mem hi);have hl:(vJ c)[i].v.toNat<s.length:=by omega
 have hne:(vJ c)[i].v∉((vJ c).eraseIdx i).map xI.v:=by
  have:=HX (l:=(vJ c).map xI.v) (i:=i) (by rw[List.length_map];exact hi) (SC _)
  rw[List.getElem_map]at this
  rwa[AN]at this
 constructor
 ·rintro⟨vs,h2,h3,h4⟩
  refine⟨_,⟨vs,h2,rfl⟩,?_⟩;rw[AM ⟨hk1,hk⟩,MF hi,h3]at h4
  exact h4
 ·rintro⟨a,⟨vs,h2,rfl⟩,h4⟩
  have hl2:(vJ c)[i].v.toNat<vs.length:=by rw[h2.1];exact hl
  refine⟨vs.set (vJ c)[i].v.toNat n,h2.set hn hl,by rw[tF hl2,if_pos rfl],?_⟩
  rw[AM ⟨hk1,hk⟩,MF hi,zdq h1.1 hl2 (λt ht=>(hv t (List.mem_of_mem_eraseIdx ht)).1) hne,tF hl2,if_pos rfl]
  exact h4
theorem ze7{α:Type}{l:List α}{i k:Nat}(hk:k<l.length):(l.take (k+1)).eraseIdx i=if k=i then(l.take k).eraseIdx i else(l.take k).eraseIdx i++[l[k]]:=by
 have hl:(l.take k).length=k:=by rw[List.length_take];omega
 rw[←List.take_append_getElem hk];split
 ·rename_i e
  subst e;rw[List.eraseIdx_append_of_length_le (by omega),hl,Nat.sub_self,List.eraseIdx_cons_zero,List.append_nil,List.eraseIdx_of_length_le (by omega)]
 ·rename_i e
  by_cases h:k<i
  ·rw[List.eraseIdx_of_length_le (l:=l.take k) (by omega),List.eraseIdx_of_length_le (by rw[List.length_append,hl];simp;omega)]
  ·rw[List.eraseIdx_append_of_lt_length (by omega)]
def vI(s:List (List Int)):List Int→List Int→Nat→List Int×Nat
 |[],vs,n=>(vs,n)
 |v::r,vs,n=>vI s r (vs.set v.toNat ((s.getD v.toNat []).getD (n%(s.getD v.toNat []).length) 0)) (n/(s.getD v.toNat []).length)
def Ym(s:List (List Int)):List Int→Nat
 |[]=>1
 |v::r=>(s.getD v.toNat []).length*Ym s r
theorem Kb{s:List (List Int)}:∀(r vs:List Int) (n:Nat),(vI s r vs n).2=n/Ym s r
 |[],vs,n=>by rw[vI,Ym,Nat.div_one]
 |v::r,vs,n=>by rw[vI,Kb r,Ym,Nat.div_div_eq_div_mul]
theorem Pm{s:List (List Int)}:∀(r vs:List Int) (n:Nat),(vI s r vs n).1.length=vs.length
 |[],vs,n=>rfl
 |v::r,vs,n=>by rw[vI,Pm r,List.length_set]
theorem fa{s:List (List Int)}{u:Nat}:∀(r vs:List Int) (n:Nat),(∀v∈r,v.toNat≠u)→(vI s r vs n).1.getD u 0=vs.getD u 0
 |[],vs,n,_=>rfl
 |v::r,vs,n,h=>by
  rw[vI,fa r _ _ λv hv=>h v (List.mem_cons_of_mem _ hv),List.getD_eq_getElem?_getD,List.getElem?_set_ne (h v (List.mem_cons_self ..)),←List.getD_eq_getElem?_getD]
theorem Ca{s:List (List Int)}:∀(r vs:List Int) (n:Nat),r.Nodup→(∀v∈r,0≤v∧v.toNat<vs.length∧s.getD v.toNat []≠[])→∀v∈r,(vI s r vs n).1.getD v.toNat 0∈s.getD v.toNat []
 |[],vs,n,_,_,v,hv=>by cases hv
 |u::r,vs,n,hd,h,v,hv=>by
  rw[List.nodup_cons]at hd
  have hu:=h u (List.mem_cons_self ..);rw[vI];rcases List.mem_cons.1 hv with rfl|hv
  ·rw[fa r _ _ λw hw=> ?_,tF hu.2.1,if_pos rfl]
   ·have hp:0<(s.getD v.toNat []).length:=List.length_pos_iff.2 hu.2.2
    have hm:=Nat.mod_lt n hp;rw[yN _ hm];exact List.getElem_mem hm
   ·have h1:=(h w (List.mem_cons_of_mem _ hw)).1
    intro e;exact hd.1 (by rw[show v=w by omega];exact hw)
  ·exact Ca r _ _ hd.2 (λw hw=>by rw[List.length_set];exact h w (List.mem_cons_of_mem _ hw)) v hv
theorem HY{s:List (List Int)}{us:List Int}:∀(r:List Int),r.Nodup→∀(vs:List Int),(∀v∈r,0≤v∧v.toNat<vs.length∧us.getD v.toNat 0∈s.getD v.toNat [])→∃n,n<Ym s r∧∀v∈r,(vI s r vs n).1.getD v.toNat 0=us.getD v.toNat 0
 |[],_,vs,_=>⟨0,Nat.one_pos,λv hv=>(by cases hv)⟩
 |u::r,hd,vs,h=>by
  rw[List.nodup_cons]at hd
  have hu:=h u (List.mem_cons_self ..);obtain⟨d,hd1,hd2⟩:=List.getElem_of_mem hu.2.2;obtain⟨n,hn1,hn2⟩:=HY r hd.2 (vs.set u.toNat (us.getD u.toNat 0)) λv hv=>by rw[List.length_set];exact h v (List.mem_cons_of_mem _ hv)
  have hp:0<(s.getD u.toNat []).length:=by omega
  have e1:(d+(s.getD u.toNat []).length*n)%(s.getD u.toNat []).length=d:=by rw[Nat.add_mul_mod_self_left,Nat.mod_eq_of_lt hd1]
  have e2:(d+(s.getD u.toNat []).length*n)/(s.getD u.toNat []).length=n:=by rw[Nat.add_mul_div_left _ _ hp,Nat.div_eq_of_lt hd1,Nat.zero_add]
  refine⟨d+(s.getD u.toNat []).length*n,?_,λv hv=> ?_⟩
  ·rw[Ym]
   have:(s.getD u.toNat []).length*(n+1)≤(s.getD u.toNat []).length*Ym s r:=Nat.mul_le_mul_left _ hn1;rw[Nat.mul_add,Nat.mul_one]at this
   omega
  ·rw[vI,e1,e2,yN _ hd1,hd2]
   rcases List.mem_cons.1 hv with rfl|hv
   ·rw[fa r _ _ λw hw=> ?_,tF hu.2.1,if_pos rfl]
    have h1:=(h w (List.mem_cons_of_mem _ hw)).1;intro e;exact hd.1 (by rw[show v=w by omega];exact hw)
   ·exact hn2 v hv
theorem AO{s:List (List Int)}:∀(r:List Int),(∀v∈r,s.getD v.toNat []≠[])→0<Ym s r
 |[],_=>Nat.one_pos
 |v::r,h=>Nat.mul_pos (List.length_pos_iff.2 (h v (List.mem_cons_self ..))) (AO r λv hv=>h v (List.mem_cons_of_mem _ hv))
theorem zds{s:List (List Int)}{b:Nat}(hb:∀v:Nat,(s.getD v []).length≤b):∀(r:List Int),Ym s r≤b^r.length
 |[]=>Nat.le_refl _
 |v::r=>by rw[Ym,List.length_cons,Nat.pow_succ,Nat.mul_comm (b^_)];exact Nat.mul_le_mul (hb _) (zds hb r)
end Go.Proofs.YteimklbiapnfhaaGreat
namespace Go.Proofs.YteimklbiapnfhaaGreat
set_option linter.unusedVariables false
set_option linter.unusedSimpArgs false
variable[Lo]
def Kc(c:zQ)(s:List (List Int))(all r vs:List Int)(x:Int×Int):Prop:=
 ∃us:List Int,us.length=vs.length∧(∀u:Nat,(∀v∈r,v.toNat≠u)→us.getD u 0=vs.getD u 0)∧(∀v∈r,us.getD v.toNat 0∈s.getD v.toNat [])∧xD c us=true∧∃v∈all,x=(v,us.getD v.toNat 0)
section
variable {c:zQ}{s:List (List Int)}{all r vs ws:List Int}{x:Int×Int}
theorem zll:Kc c s all [] vs x↔xD c vs=true∧∃v∈all,x=(v,vs.getD v.toNat 0):=by
 constructor
 ·rintro⟨us,h1,h2,_,h3,h4⟩
  obtain rfl:us=vs:=L3 (d:=0) h1 λu=>h2 u λv hv=>by cases hv
  exact⟨h3,h4⟩
 ·rintro⟨h3,h4⟩
  exact⟨vs,rfl,λ_ _=>rfl,λv hv=>(by cases hv),h3,h4⟩
theorem ze8(hl:ws.length=vs.length)(h:∀u:Nat,(∀v∈r,v.toNat≠u)→ws.getD u 0=vs.getD u 0):Kc c s all r ws x↔Kc c s all r vs x:=by
 constructor
 ·rintro⟨us,h1,h2,h3⟩;exact⟨us,h1.trans hl,λu hu=>(h2 u hu).trans (h u hu),h3⟩
 ·rintro⟨us,h1,h2,h3⟩;exact⟨us,h1.trans hl.symm,λu hu=>(h2 u hu).trans (h u hu).symm,h3⟩
theorem zja{v:Int}(hv:0≤v)(hl:v.toNat<vs.length)(hr:∀u∈r,0≤u)(hn:v∉r):Kc c s all (v::r) vs x↔∃n∈s.getD v.toNat [],Kc c s all r (vs.set v.toNat n) x:=by
 have hne:∀u∈r,u.toNat≠v.toNat:=λu hu e=>hn (by have:=hr u hu;rw[show v=u by omega];exact hu)
 constructor
 ·rintro⟨us,h1,h2,h3,h4⟩
  refine⟨_,h3 v (List.mem_cons_self ..),us,by rw[List.length_set];exact h1,λu hu=> ?_,λu hu=>h3 u (List.mem_cons_of_mem _ hu),h4⟩
  rw[tF hl];split
  ·rename_i e;rw[e]
  ·rename_i e
   refine h2 u λw hw=> ?_
   rcases List.mem_cons.1 hw with rfl|hw
   ·exact λe2=>e e2.symm
   ·exact hu w hw
 ·rintro⟨n,hn2,us,h1,h2,h3,h4⟩
  have e:us.getD v.toNat 0=n:=by rw[h2 v.toNat hne,tF hl,if_pos rfl]
  refine⟨us,by rw[List.length_set]at h1;exact h1,λu hu=> ?_,λu hu=> ?_,h4⟩
  ·rw[h2 u λw hw=>hu w (List.mem_cons_of_mem _ hw),tF hl,if_neg λe=>hu v (List.mem_cons_self ..) e.symm]
  ·rcases List.mem_cons.1 hu with rfl|hu
   ·rw[e];exact hn2
   ·exact h3 u hu
end
theorem SD{n u:Nat}{f:Nat→Int}(h:u<n):((List.range n).map f).getD u 0=f u:=by
 rw[yN _ (show u<((List.range n).map f).length by simpa using h)];simp
theorem qO{c:zQ}{nv:Nat}:∀v∈yA c nv,0≤v∧v<nv:=λv hv=>(pT.1 hv).1
theorem Cb{c:zQ}{s:List (List Int)}(hc:uO c s.length)(hf:zY s=false){ws:List Int}(hw:ws.length=s.length){v n:Int}:
  Kc c s (yA c s.length) (yA c s.length) ws (v,n)↔v∈yA c s.length∧May (xD c) s v.toNat n:=by
 constructor
 ·rintro⟨us,h1,h2,h3,h4,u,hu,e⟩
  obtain⟨rfl,rfl⟩:v=u∧n=us.getD u.toNat 0:=by cases e;exact⟨rfl,rfl⟩
  refine⟨hu,?_⟩;obtain⟨ps,hp⟩:=Pi hf;have hg:∀u:Nat,u<s.length→((List.range s.length).map λu:Nat=>if(u:Int)∈yA c s.length then us.getD u 0 else ps.getD u 0).getD u 0=if(u:Int)∈yA c s.length then us.getD u 0 else ps.getD u 0:=λu hu=>SD hu
  have hv:=qO v hu;refine⟨(List.range s.length).map λu:Nat=>if(u:Int)∈yA c s.length then us.getD u 0 else ps.getD u 0,⟨by simp,λu hu=> ?_⟩,?_,?_⟩
  ·rw[hg u hu]
   split
   ·rename_i e;simpa using h3 u e
   ·exact hp.2 u hu
  ·rw[hg _ (by omega),if_pos (by rw[Int.toNat_of_nonneg hv.1];exact hu)]
  ·rw[←h4]
   exact mZ hc λw h5 h6=>by rw[hg w h5,if_pos (pT.2 ⟨by omega,h6⟩)]
 ·rintro⟨hv,vs,h1,h2,h3⟩
  have hg:∀u:Nat,u<s.length→((List.range s.length).map λu:Nat=>if(u:Int)∈yA c s.length then vs.getD u 0 else ws.getD u 0).getD u 0=if(u:Int)∈yA c s.length then vs.getD u 0 else ws.getD u 0:=λu hu=>SD hu
  have hv2:=qO v hv;refine⟨(List.range s.length).map λu:Nat=>if(u:Int)∈yA c s.length then vs.getD u 0 else ws.getD u 0,by simp[hw],λu hu=> ?_,λu hu=> ?_,?_,v,hv,?_⟩
  ·by_cases hl:u<s.length
   ·rw[hg u hl,if_neg λe=>hu _ e (by omega)]
   ·rw[pR (by simp;omega),pR (by omega)]
  ·have:=qO u hu
   rw[hg _ (by omega),if_pos (by rw[Int.toNat_of_nonneg this.1];exact hu)]
   exact h1.2 _ (by omega)
  ·rw[←h3]
   exact mZ hc λw h5 h6=>by rw[hg w h5,if_pos (pT.2 ⟨by omega,h6⟩)]
  ·rw[hg _ (by omega),if_pos (by rw[Int.toNat_of_nonneg hv2.1];exact hv),h2]
theorem AP(lo:Int):∀n,(Jg lo n).Nodup
 |0=>List.nodup_nil
 |n+1=>by
  rw[Jg,List.nodup_append];refine⟨AP lo n,by simp,λa ha b hb=> ?_⟩
  have h1:=SA.1 ha;rw[List.mem_singleton]at hb
  omega
theorem Xq{c:zQ}{nv:Nat}:(yA c nv).Nodup:=(AP 0 nv).sublist List.filter_sublist
theorem HZ{c:zQ}{s:List (List Int)}(hc:uO c s.length)(hf:zY s=false){ws:List Int}(hw:ws.length=s.length){x:Int×Int}:
  Kc c s (yA c s.length) (yA c s.length) ws x↔∃n,n<Ym s (yA c s.length)∧xD c (vI s (yA c s.length) ws n).1=true∧∃v∈yA c s.length,x=(v,(vI s (yA c s.length) ws n).1.getD v.toNat 0):=by
 have hne:∀v∈yA c s.length,0≤v∧v.toNat<ws.length∧s.getD v.toNat []≠[]:=λv hv=>by
  have h:=qO v hv;exact⟨h.1,by omega,oW.1 hf _ (by omega)⟩
 constructor
 ·rintro⟨us,h1,h2,h3,h4,v,hv,rfl⟩
  obtain⟨n,hn1,hn2⟩:=HY (s:=s) (us:=us) _ Xq ws λv hv=>⟨(hne v hv).1,(hne v hv).2.1,h3 v hv⟩
  refine⟨n,hn1,?_,v,hv,by rw[hn2 v hv]⟩
  rw[←h4];refine mZ hc λu h5 h6=> ?_
  have:=hn2 (u:Int) (pT.2 ⟨by omega,h6⟩)
  simpa using this
 ·rintro⟨n,hn1,hn2,v,hv,rfl⟩
  exact⟨_,Pm _ _ _,λu hu=>fa _ _ _ hu,λv hv=>Ca _ _ _ Xq hne v hv,hn2,v,hv,rfl⟩
theorem Kd{s:List (List Int)}:∀(r:List Int) (vs ws:List Int) (n:Nat),vs.length=ws.length→∀v∈r,v.toNat<ws.length→(vI s r vs n).1.getD v.toNat 0=(vI s r ws n).1.getD v.toNat 0
 |[],vs,ws,n,_,v,hv,_=>by cases hv
 |u::r,vs,ws,n,hl,v,hv,hlt=>by
  rw[vI,vI]
  by_cases hm:∃w∈r,w.toNat=v.toNat
  ·obtain⟨w,hw,e⟩:=hm
   rw[←e];exact Kd r _ _ _ (by rw[List.length_set,List.length_set,hl]) w hw (by rw[List.length_set];omega)
  ·have hn:∀w∈r,w.toNat≠v.toNat:=λw hw e=>hm ⟨w,hw,e⟩
   rw[fa r _ _ hn,fa r _ _ hn];rcases List.mem_cons.1 hv with rfl|hv
   ·rw[tF (by omega),tF hlt,if_pos rfl,if_pos rfl]
   ·exact absurd rfl (hn v hv)
end Go.Proofs.YteimklbiapnfhaaGreat
namespace Go.Proofs.YteimklbiapnfhaaGreat
open Go.RowKit
set_option linter.unusedVariables false
set_option linter.unusedSimpArgs false
set_option maxRecDepth 100000
variable[Lo]
def Rr:xJ:= {own:=[],live:=[],n:=31}
theorem IC(a:zF)(b:Int)(c:List (List Int))(R:yC):FD Rr Tryz.f18 [dM a,dI b,dS c] R=
 (zX rB [dM a,dS c] .int λd=>
 zN (!decide (d=0))
 (R (.tup [dS ([]:List (List Int)),dI d]))
 (zN (decide (b<0))
 (R (.tup [dS ([]:List (List Int)),dI 5]))
 (zN (decide ((a.cons.length:Int)≤b))
 (R (.tup [dS ([]:List (List Int)),dI 5]))
 (wC b a.cons.length=true∧
 zX vR [dC (zG .con a.cons b.toNat),dS c] (.list (.list .int)) λe=>
 R (.tup [dS e,dI 0]))))):=by kernel_rfl
theorem Ke(a:zF)(b:Int)(c:List (List Int)):yY Rr Tryz.f18 rK [dM a,dI b,dS c]:=xA Tryz.func18 (by kernel_rfl) Tryz.ntmps18 rfl
def Kf:xJ:= {own:=[5,7],live:=[],n:=44}
theorem BB(f:zQ)(a:List (List Int))(R:yC):FD Kf Tryz.f54 [dC f,dS a] R=
 (zX zS [dS a] .bool λs=>
 zN s
 (zX tG [dS a] (.list (.list .int)) λt=>
 R (dS t))
 (zX qI [dC f] (.list .int) λg=>
 zN (decide ((g.length:Int)=0))
 (zX hZ [dC f,.sl .int ([]:List Int)] .bool λu=>
 zN u
 (zX tG [dS a] (.list (.list .int)) λv=>
 R (dS v))
 (zX yM [dS a] (.list (.list .int)) λw=>
 R (dS w)))
 (zN (decide (f.kind≤3))
 (∃h:List xI,∃i:List (Int×(List Int)),∃b:zQ,cV nN [dC f,dS a] [] (.clo tM none [.iptr [.sl .term h] 0,.iptr [.mp .int (.list .int) i] 0,.iptr (pB b []) 0]) []∧
 zX xV [dS a,.clo vN none [.iptr [.sl .int g] 0,.iptr [.clo tM none [.iptr [.sl .term h] 0,.iptr [.mp .int (.list .int) i] 0,.iptr (pB b []) 0]] 0]] (.list (.list .int)) λx=>
 R (dS x))
 (zN (decide (f.kind=4))
 (zX jY [.sl .int f.vars] .bool λy=>
 zN (!y)
 (∃j:List (List Int),∃c:zQ,cV nO [dC f,dS a] [] (.clo tN none [.iptr [dS j] 0,.iptr (pB c []) 0]) []∧
 zX xV [dS a,.clo vN none [.iptr [.sl .int g] 0,.iptr [.clo tN none [.iptr [dS j] 0,.iptr (pB c []) 0]] 0]] (.list (.list .int)) λz=>
 R (dS z))
 (∃d:zQ,∃k:List (List Int),∃l:List Int,∃m:List Int,∃n:List ((Int×Int)×Int),cV rD [dC f,dS a] [] (.clo yJ none [.iptr [.iptr (pB d [dS k,.sl .int l,.sl .int m,.mp (.pr .int .int) .int n]) 0] 0]) []∧
 zX xV [dS a,.clo vN none [.iptr [.sl .int g] 0,.iptr [.clo yJ none [.iptr [.iptr (pB d [dS k,.sl .int l,.sl .int m,.mp (.pr .int .int) .int n]) 0] 0]] 0]] (.list (.list .int)) λaa=>
 R (dS aa)))
 (∃e:zQ,∃o:List (List Int),∃p:List Int,∃q:List Int,∃r:List ((Int×Int)×Int),cV rD [dC f,dS a] [] (.clo yJ none [.iptr [.iptr (pB e [dS o,.sl .int p,.sl .int q,.mp (.pr .int .int) .int r]) 0] 0]) []∧
 zX xV [dS a,.clo vN none [.iptr [.sl .int g] 0,.iptr [.clo yJ none [.iptr [.iptr (pB e [dS o,.sl .int p,.sl .int q,.mp (.pr .int .int) .int r]) 0] 0]] 0]] (.list (.list .int)) λab=>
 R (dS ab)))))):=by kernel_rfl
theorem Cc(a:zQ)(b:List (List Int)):yY Kf Tryz.f54 vR [dC a,dS b]:=xA Tryz.func54 (by kernel_rfl) Tryz.ntmps54 rfl
def NM:xJ:= {own:=[5,12,13,15],live:=[],n:=19}
theorem Cd(a:zQ)(b:List (List Int))(R:VD):FH NM Tryz.f98 [dC a,dS b] [] [] false R=
 (zX qI [dC a] (.list .int) λc=>
 ((b.length:Int)=(b.length:Int)∧
 0≤(b.length:Int)∧
 zL .int ((b.length:Int).toNat)=true∧
 (((∃d:List Int,∃e:List ((Int×Int)×Int),cV yW [.ptr 1000 0,dI 0] [(1000,.cells (pB a [dS b,.sl .int c,.own 2000,.own 1001])),(2000,.row 3 .int (List.replicate ((b.length:Int).toNat) (Ty.dflt .int))),(1001,.mp (.pr .int .int) .int ([]:List ((Int×Int)×Int)))] (.tup []) [(1000,.cells (pB a [dS b,.sl .int c,.own 2000,.own 1001])),(2000,.row 3 .int d),(1001,.mp (.pr .int .int) .int e)]∧
 R (.clo yJ none [.iptr [.iptr (pB a [dS b,.sl .int c,.sl .int d,.mp (.pr .int .int) .int e]) 0] 0]) [])∧
 ∃f:List Int,∃g:List ((Int×Int)×Int),cV yW [.ptr 1000 0,dI 0] [(1000,.cells (pB a [dS b,.sl .int c,.own 2000,.own 1001])),(2000,.row 3 .int (List.replicate ((b.length:Int).toNat) (Ty.dflt .int))),(1001,.mp (.pr .int .int) .int ([]:List ((Int×Int)×Int)))] (.tup []) [(1000,.cells (pB a [dS b,.sl .int c,.own 2000,.own 1001])),(2000,.row 3 .int f),(1001,.mp (.pr .int .int) .int g)]∧
 R (.clo yJ none [.iptr [.iptr (pB a [dS b,.sl .int c,.sl .int f,.mp (.pr .int .int) .int g]) 0] 0]) [])∧
 ∃h:List Int,∃i:List ((Int×Int)×Int),cV yW [.ptr 1000 0,dI 0] [(1000,.cells (pB a [dS b,.sl .int c,.own 2000,.own 1001])),(2000,.row 3 .int (List.replicate ((b.length:Int).toNat) (Ty.dflt .int))),(1001,.mp (.pr .int .int) .int ([]:List ((Int×Int)×Int)))] (.tup []) [(1000,.cells (pB a [dS b,.sl .int c,.own 2000,.own 1001])),(2000,.row 3 .int h),(1001,.mp (.pr .int .int) .int i)]∧
 R (.clo yJ none [.iptr [.iptr (pB a [dS b,.sl .int c,.sl .int h,.mp (.pr .int .int) .int i]) 0] 0]) [])∧
 ∃j:List Int,∃k:List ((Int×Int)×Int),cV yW [.ptr 1000 0,dI 0] [(1000,.cells (pB a [dS b,.sl .int c,.own 2000,.own 1001])),(2000,.row 3 .int (List.replicate ((b.length:Int).toNat) (Ty.dflt .int))),(1001,.mp (.pr .int .int) .int ([]:List ((Int×Int)×Int)))] (.tup []) [(1000,.cells (pB a [dS b,.sl .int c,.own 2000,.own 1001])),(2000,.row 3 .int j),(1001,.mp (.pr .int .int) .int k)]∧
 R (.clo yJ none [.iptr [.iptr (pB a [dS b,.sl .int c,.sl .int j,.mp (.pr .int .int) .int k]) 0] 0]) [])∧
 (((b.length:Int)=(b.length:Int)∧
 0≤(b.length:Int)∧
 zL .int ((b.length:Int).toNat)=true∧
 ((∃l:List Int,∃m:List ((Int×Int)×Int),cV yW [.ptr 1000 0,dI 0] [(1000,.cells (pB a [dS b,.sl .int c,.own 2000,.own 1001])),(2000,.row 3 .int (List.replicate ((b.length:Int).toNat) (Ty.dflt .int))),(1001,.mp (.pr .int .int) .int ([]:List ((Int×Int)×Int)))] (.tup []) [(1000,.cells (pB a [dS b,.sl .int c,.own 2000,.own 1001])),(2000,.row 3 .int l),(1001,.mp (.pr .int .int) .int m)]∧
 R (.clo yJ none [.iptr [.iptr (pB a [dS b,.sl .int c,.sl .int l,.mp (.pr .int .int) .int m]) 0] 0]) [])∧
 ∃n:List Int,∃o:List ((Int×Int)×Int),cV yW [.ptr 1000 0,dI 0] [(1000,.cells (pB a [dS b,.sl .int c,.own 2000,.own 1001])),(2000,.row 3 .int (List.replicate ((b.length:Int).toNat) (Ty.dflt .int))),(1001,.mp (.pr .int .int) .int ([]:List ((Int×Int)×Int)))] (.tup []) [(1000,.cells (pB a [dS b,.sl .int c,.own 2000,.own 1001])),(2000,.row 3 .int n),(1001,.mp (.pr .int .int) .int o)]∧
 R (.clo yJ none [.iptr [.iptr (pB a [dS b,.sl .int c,.sl .int n,.mp (.pr .int .int) .int o]) 0] 0]) [])∧
 ∃p:List Int,∃q:List ((Int×Int)×Int),cV yW [.ptr 1000 0,dI 0] [(1000,.cells (pB a [dS b,.sl .int c,.own 2000,.own 1001])),(2000,.row 3 .int (List.replicate ((b.length:Int).toNat) (Ty.dflt .int))),(1001,.mp (.pr .int .int) .int ([]:List ((Int×Int)×Int)))] (.tup []) [(1000,.cells (pB a [dS b,.sl .int c,.own 2000,.own 1001])),(2000,.row 3 .int p),(1001,.mp (.pr .int .int) .int q)]∧
 R (.clo yJ none [.iptr [.iptr (pB a [dS b,.sl .int c,.sl .int p,.mp (.pr .int .int) .int q]) 0] 0]) [])∧
 (b.length:Int)=(b.length:Int)∧
 0≤(b.length:Int)∧
 zL .int ((b.length:Int).toNat)=true∧
 ∃r:List Int,∃s:List ((Int×Int)×Int),cV yW [.ptr 1000 0,dI 0] [(1000,.cells (pB a [dS b,.sl .int c,.own 2000,.own 1001])),(2000,.row 3 .int (List.replicate ((b.length:Int).toNat) (Ty.dflt .int))),(1001,.mp (.pr .int .int) .int ([]:List ((Int×Int)×Int)))] (.tup []) [(1000,.cells (pB a [dS b,.sl .int c,.own 2000,.own 1001])),(2000,.row 3 .int r),(1001,.mp (.pr .int .int) .int s)]∧
 R (.clo yJ none [.iptr [.iptr (pB a [dS b,.sl .int c,.sl .int r,.mp (.pr .int .int) .int s]) 0] 0]) [])∧
 ((b.length:Int)=(b.length:Int)∧
 0≤(b.length:Int)∧
 zL .int ((b.length:Int).toNat)=true∧
 ∃t:List Int,∃u:List ((Int×Int)×Int),cV yW [.ptr 1000 0,dI 0] [(1000,.cells (pB a [dS b,.sl .int c,.own 2000,.own 1001])),(2000,.row 3 .int (List.replicate ((b.length:Int).toNat) (Ty.dflt .int))),(1001,.mp (.pr .int .int) .int ([]:List ((Int×Int)×Int)))] (.tup []) [(1000,.cells (pB a [dS b,.sl .int c,.own 2000,.own 1001])),(2000,.row 3 .int t),(1001,.mp (.pr .int .int) .int u)]∧
 R (.clo yJ none [.iptr [.iptr (pB a [dS b,.sl .int c,.sl .int t,.mp (.pr .int .int) .int u]) 0] 0]) [])∧
 (b.length:Int)=(b.length:Int)∧
 0≤(b.length:Int)∧
 zL .int ((b.length:Int).toNat)=true∧
 ∃v:List Int,∃w:List ((Int×Int)×Int),cV yW [.ptr 1000 0,dI 0] [(1000,.cells (pB a [dS b,.sl .int c,.own 2000,.own 1001])),(2000,.row 3 .int (List.replicate ((b.length:Int).toNat) (Ty.dflt .int))),(1001,.mp (.pr .int .int) .int ([]:List ((Int×Int)×Int)))] (.tup []) [(1000,.cells (pB a [dS b,.sl .int c,.own 2000,.own 1001])),(2000,.row 3 .int v),(1001,.mp (.pr .int .int) .int w)]∧
 R (.clo yJ none [.iptr [.iptr (pB a [dS b,.sl .int c,.sl .int v,.mp (.pr .int .int) .int w]) 0] 0]) []):=by kernel_rfl
theorem GZ(a:zQ)(b:List (List Int)):Rb NM Tryz.f98 rD [dC a,dS b] [] [] false:=Qv Tryz.func98 (by kernel_rfl) Tryz.ntmps98 rfl
def rP:xJ:= {own:=[5,6,8,11,14],live:=[(0,([1,2,5,6,15,16,17],[5,6,14])),(2,([1,2,5,6,7,8,9,15,16,17,23,24,25],[5,6,8,14]))],n:=44}
def iE(a:zQ)(e:List (List Int))(R:VD)(b:List xI)(f:Nat)(c:Int)(d:List xI)(g:List (Int×(List Int)))(h:Nat)(i:List Int)(j:Int)(k:List xI)(l m:Int):Prop:=LP rP Tryz.f99 [1,1,1,0,1,0,0,1,1,0,0,1,1,0,1,0,0] 2 h ⟨[(1,dS e),(2,.iptr (pB a []) 0),(5,.ptr 5 0),(6,.ptr 6 0),(7,dI c),(8,.ptr 8 0),(9,.sl .int i),(15,.sl .term b),(16,dI (b.length:Int)),(17,dI c),(23,.sl .term d),(24,dI (d.length:Int)),(25,dI j)],[(5,.cells [.sl .term k]),(6,.cells [.own 14]),(8,.cells [dI l,dI m]),(14,.mp .int (.list .int) g)]⟩ (zH 2 (sK rP Tryz.f99 [1,1,1,0,1,0,0,1,1,0,0,1,1,1] 1 (zH 1 (sK rP Tryz.f99 [1,1,1,0,1,0,0,1,1,1] 0 (iK rP Tryz.f99 [1,1,1,0,1,0,0] 0 f (zH 0 (sK rP Tryz.f99 [1,1,1,1] 0 (eH Tryz.f99 [] false R))))))))
def dY(a:zQ)(c:List (List Int))(R:VD)(b:List xI)(d:Nat)(e:Int)(f:List xI)(g:List (Int×(List Int))):Prop:=LP rP Tryz.f99 [1,1,1,0,1,0,0] 0 d ⟨[(1,dS c),(2,.iptr (pB a []) 0),(5,.ptr 5 0),(6,.ptr 6 0),(15,.sl .term b),(16,dI (b.length:Int)),(17,dI e)],[(5,.cells [.sl .term f]),(6,.cells [.own 14]),(14,.mp .int (.list .int) g)]⟩ (zH 0 (sK rP Tryz.f99 [1,1,1,1] 0 (eH Tryz.f99 [] false R)))
theorem Nk(f:zQ)(c:List (List Int))(R:VD)(g:List xI)(h:Nat)(d:Int)(b:List xI)(e:List (Int×(List Int)))(l:Nat)(i:List Int)(a:Int)(j:List xI)(k m:Int):iE f c R g h d b e (l+1) i a j k m=
 (zN (decide (a<(b.length:Int)))
 (wC a b.length=true∧
 zN (!decide (a=d))
 (zX YK [.sl .int i,dS c,.agg [dI ((zG .term b a.toNat).v),dI ((zG .term b a.toNat).times)]] (.list .int) λn=>
 iE f c R g h d b e l n (xF (a+1)) j k m)
 (iE f c R g h d b e l i (xF (a+1)) j k m))
 (Es (e.length+1)=true∧
 dY f c R g h (xF (d+1)) j (oa .int (.list .int) k i e))):=by kernel_rfl
theorem Nl(a:zQ)(f:List (List Int))(R:VD)(b:List xI)(g:Nat)(c:Int)(d:List xI)(e:List (Int×(List Int))):dY a f R b (g+1) c d e=
 (zN (decide (c<(b.length:Int)))
 (wC c b.length=true∧
 ∃n2,iE a f R b g c d e n2 ([0]) 0 d ((zG .term b c.toNat).v) ((zG .term b c.toNat).times))
 (R (.clo tM none [.iptr [.sl .term d] 0,.iptr [.mp .int (.list .int) e] 0,.iptr (pB a []) 0]) [])):=by kernel_rfl
theorem ID(a:zQ)(b:List (List Int))(R:VD):FH rP Tryz.f99 [dC a,dS b] [] [] false R=
 (zX ZF [dC a] (.list .term) λc=>
 ∃n0,dY a b R c n0 0 c ([]:List (Int×(List Int)))):=by kernel_rfl
theorem Kg(a:zQ)(b:List (List Int)):Rb rP Tryz.f99 nN [dC a,dS b] [] [] false:=Qv Tryz.func99 (by kernel_rfl) Tryz.ntmps99 rfl
def Pn:xJ:= {own:=[],live:=[],n:=14}
theorem G0(a:List Int)(R:yC):FD Pn Tryz.f100 [.sl .int a] R=
 (∃b:List Int,cV wB [.sl .int a] [] (.own 3000) [(3000,.row 3 .int b)]∧
 ∃c:List Int,cV rW [.own 1000] [(1000,.row 3 .int b)] (.tup []) [(1000,.row 3 .int c)]∧
 ∃d:List Int,cV tX [.own 1000] [(1000,.row 3 .int c)] (.sl .int d) []∧
 R (dB (decide ((d.length:Int)<(a.length:Int))))):=by kernel_rfl
theorem IE(a:List Int):yY Pn Tryz.f100 jY [.sl .int a]:=xA Tryz.func100 (by kernel_rfl) Tryz.ntmps100 rfl
def Rs:xJ:= {own:=[],live:=[],n:=6}
theorem IF(a:zQ)(b:List (List Int))(R:VD):FH Rs Tryz.f101 [dC a,dS b] [] [] false R=
 (R (.clo tN none [.iptr [dS b] 0,.iptr (pB a []) 0]) []):=by kernel_rfl
theorem Kh(a:zQ)(b:List (List Int)):Rb Rs Tryz.f101 nO [dC a,dS b] [] [] false:=Qv Tryz.func101 (by kernel_rfl) Tryz.ntmps101 rfl
def Po:xJ:= {own:=[],live:=[],n:=17}
theorem G1(a c:Int)(d:List Int)(b:FuncId)(e:List D)(R:yC):FD Po Tryz.f102 [dI a,dI c,.iptr [.sl .int d] 0,.iptr [.clo b (some [.bool]) e] 0] R=
 (zX yH [.sl .int d,dI a] .bool λf=>
 zN (!f)
 (R (dB true))
 (aD b∧
 zX b ([dI a,dI c]++e) .bool λg=>
 R (dB g))):=by kernel_rfl
theorem IG(a b:Int)(c:List Int)(d:FuncId)(e:List D):yY Po Tryz.f102 vN [dI a,dI b,.iptr [.sl .int c] 0,.iptr [.clo d (some [.bool]) e] 0]:=xA Tryz.func102 (by kernel_rfl) Tryz.ntmps102 rfl
def qA:xJ:= {own:=[],live:=[(0,([0,27,28,29],[1000,1001,2000])),(2,([0,1,59,60,61],[1000,1001,2000]))],n:=83}
def lZ(b:Int)(c d:List Int)(e:Int)(f:List (List Int))(g:List zC)(h:List (List Int))(a i:List Int)(R:VD)(j:Nat)(k:Int)(l:List ((Int×Int)×Int)):Prop:=LP qA Tryz.f148 [0,1,0,0,1,0,1,0,0] 0 j ⟨[(0,.ptr 1000 0),(27,.sl .int a),(28,dI (a.length:Int)),(29,dI k)],[(1000,.cells [dI b,.sl .int c,.sl .int d,dI e,dS f,.sl .lit g,dS h,.sl .int a,.own 2000,.own 1001]),(1001,.mp (.pr .int .int) .int l),(2000,.row 3 .int i)]⟩ (zH 0 (sK qA Tryz.f148 [0,1,0,1] 0 (sK qA Tryz.f148 [1] 0 (eH Tryz.f148 [.ptr 1000 0] false R))))
def kA(b:List (List Int))(c:List Int)(a:Int)(R:VD)(d:Nat)(e f:Int)(g h:List Int)(i:Int)(j:List (List Int))(k:List zC)(l:List (List Int))(m:List Int)(n:List ((Int×Int)×Int))(o:List Int):Prop:=LP qA Tryz.f148 [1,1,0,0] 2 d ⟨[(0,.ptr 1000 0),(1,dI a),(59,.sl .int (zG (.list .int) b ((zG .int c a.toNat).toNat))),(60,dI ((zG (.list .int) b ((zG .int c a.toNat).toNat)).length:Int)),(61,dI e)],[(1000,.cells [dI f,.sl .int g,.sl .int h,dI i,dS j,.sl .lit k,dS l,.sl .int m,.own 2000,.own 1001]),(1001,.mp (.pr .int .int) .int n),(2000,.row 3 .int o)]⟩ (zH 2 (eH Tryz.f148 [.ptr 1000 0] false R))
theorem Us(e:Int)(f g:List Int)(h:Int)(i:List (List Int))(j:List zC)(k:List (List Int))(a c:List Int)(R:VD)(l:Nat)(b:Int)(d:List ((Int×Int)×Int)):lZ e f g h i j k a c R (l+1) b d=
 (zN (decide (b<(a.length:Int)))
 (wC b a.length=true∧
 wC (zG .int a b.toNat) c.length=true∧
 Es (d.length+1)=true∧
 lZ e f g h i j k a c R l (xF (b+1)) (oa (.pr .int .int) .int (zG .int a b.toNat,zG .int c ((zG .int a b.toNat).toNat)) 1 d))
 (R (.tup []) [(1000,.cells [dI e,.sl .int f,.sl .int g,dI h,dS i,.sl .lit j,dS k,.sl .int a,.own 2000,.own 1001]),(2000,.row 3 .int c),(1001,.mp (.pr .int .int) .int d)])):=by kernel_rfl
theorem bS(c:List (List Int))(d:List Int)(a:Int)(R:VD)(o:Nat)(e f:Int)(g h:List Int)(i:Int)(j:List (List Int))(k:List zC)(l:List (List Int))(b:List Int)(n:List ((Int×Int)×Int))(m:List Int):kA c d a R (o+1) e f g h i j k l b n m=
 (zN (decide (e<((zG (.list .int) c ((zG .int d a.toNat).toNat)).length:Int)))
 (wC e (zG (.list .int) c ((zG .int d a.toNat).toNat)).length=true∧
 wC a b.length=true∧
 wC (zG .int b a.toNat) m.length=true∧
 ∃p:List Int,∃q:List ((Int×Int)×Int),cV yW [.ptr 1000 0,dI (xF (a+1))] [(1000,.cells [dI f,.sl .int g,.sl .int h,dI i,dS j,.sl .lit k,dS l,.sl .int b,.own 2000,.own 1001]),(2000,.row 3 .int (m.set ((zG .int b a.toNat).toNat) (zG .int (zG (.list .int) c ((zG .int d a.toNat).toNat)) e.toNat))),(1001,.mp (.pr .int .int) .int n)] (.tup []) [(1000,.cells [dI f,.sl .int g,.sl .int h,dI i,dS j,.sl .lit k,dS l,.sl .int b,.own 2000,.own 1001]),(2000,.row 3 .int p),(1001,.mp (.pr .int .int) .int q)]∧
 kA c d a R o (xF (e+1)) f g h i j k l b q p)
 (R (.tup []) [(1000,.cells [dI f,.sl .int g,.sl .int h,dI i,dS j,.sl .lit k,dS l,.sl .int b,.own 2000,.own 1001]),(2000,.row 3 .int m),(1001,.mp (.pr .int .int) .int n)])):=by kernel_rfl
theorem fo(c:Int)(d e:List Int)(f:Int)(g:List (List Int))(h:List zC)(b:List (List Int))(a i:List Int)(k:List ((Int×Int)×Int))(j:Int)(R:VD):FH qA Tryz.f148 [.ptr 1000 0,dI j] [(1000,.cells [dI c,.sl .int d,.sl .int e,dI f,dS g,.sl .lit h,dS b,.sl .int a,.own 2000,.own 1001]),(2000,.row 3 .int i),(1001,.mp (.pr .int .int) .int k)] [.ptr 1000 0] false R=
 (zN (decide (j=(a.length:Int)))
 (zX hZ [.agg [dI c,.sl .int d,.sl .int e,dI f,dS g,.sl .lit h],.sl .int i] .bool λl=>
 zN l
 (∃n0,lZ c d e f g h b a i R n0 0 k)
 (R (.tup []) [(1000,.cells [dI c,.sl .int d,.sl .int e,dI f,dS g,.sl .lit h,dS b,.sl .int a,.own 2000,.own 1001]),(2000,.row 3 .int i),(1001,.mp (.pr .int .int) .int k)]))
 (wC j a.length=true∧
 wC (zG .int a j.toNat) b.length=true∧
 ∃n2,kA b a j R n2 0 c d e f g h b a k i)):=by kernel_rfl
theorem gF(a:Int)(b c:List Int)(d:Int)(e:List (List Int))(f:List zC)(g:List (List Int))(h i:List Int)(j:List ((Int×Int)×Int))(k:Int):Rb qA Tryz.f148 yW [.ptr 1000 0,dI k] [(1000,.cells [dI a,.sl .int b,.sl .int c,dI d,dS e,.sl .lit f,dS g,.sl .int h,.own 2000,.own 1001]),(2000,.row 3 .int i),(1001,.mp (.pr .int .int) .int j)] [.ptr 1000 0] false:=Qv Tryz.func148 (by kernel_rfl) Tryz.ntmps148 rfl
def Rt:xJ:= {own:=[],live:=[],n:=15}
theorem IH(b c:Int)(a:zQ)(e:List (List Int))(f g:List Int)(d:List ((Int×Int)×Int))(R:yC):FD Rt Tryz.f149 [dI b,dI c,.iptr [.iptr (pB a [dS e,.sl .int f,.sl .int g,.mp (.pr .int .int) .int d]) 0] 0] R=
 (R (dB (decide ((cD (.pr .int .int) .int (b,c) d)=1)))):=by kernel_rfl
theorem Ki(b c:Int)(a:zQ)(d:List (List Int))(e f:List Int)(g:List ((Int×Int)×Int)):yY Rt Tryz.f149 yJ [dI b,dI c,.iptr [.iptr (pB a [dS d,.sl .int e,.sl .int f,.mp (.pr .int .int) .int g]) 0] 0]:=xA Tryz.func149 (by kernel_rfl) Tryz.ntmps149 rfl
def Z6:xJ:= {own:=[3,5,29],live:=[(0,([1,3,8,9,10],[3]))],n:=45}
def gR(a:zQ)(R:yC)(b:Nat)(c:Int)(d:List xI):Prop:=LP Z6 Tryz.f150 [1,1,0,1,0,0] 0 b ⟨[(1,.iptr (pB a []) 0),(3,.own 3),(8,.sl .int a.vars),(9,dI (a.vars.length:Int)),(10,dI c)],[(3,.row 155 .term d)]⟩ (zH 0 (sK Z6 Tryz.f150 [1,1,1] 0 (eK Tryz.f150 R)))
theorem MH(a:zQ)(R:yC)(e:Nat)(b:Int)(c:List xI):gR a R (e+1) b c=
 (zN (decide (b<(a.vars.length:Int)))
 (wC b a.vars.length=true∧
 zX wF [.sl .term c,.clo dG none [.iptr [dI (zG .int a.vars b.toNat)] 0]] .int λd=>
 zN (decide (d<0))
 (wC b a.consts.length=true∧
 zL .term (c.length+([(⟨zG .int a.vars b.toNat,zG .int a.consts b.toNat⟩:xI)]).length)=true∧
 gR a R e (xF (b+1)) (c++([(⟨zG .int a.vars b.toNat,zG .int a.consts b.toNat⟩:xI)])))
 (wC d c.length=true∧
 wC b a.consts.length=true∧
 wC d c.length=true∧
 gR a R e (xF (b+1)) (c.set d.toNat (⟨(zG .term c d.toNat).v,xF (((zG .term c d.toNat).times)+(zG .int a.consts b.toNat))⟩:xI))))
 (R (.sl .term c))):=by kernel_rfl
theorem G2(a:zQ)(R:yC):FD Z6 Tryz.f150 [dC a] R=
 (∃n0,gR a R n0 0 ([]:List xI)):=by kernel_rfl
theorem II(a:zQ):yY Z6 Tryz.f150 ZF [dC a]:=xA Tryz.func150 (by kernel_rfl) Tryz.ntmps150 rfl
def lA:xJ:= {own:=[7,36],live:=[(0,([1,5,7,12,13,14],[7])),(2,([1,5,7,9,12,13,14,22,23,24],[7]))],n:=43}
def Z7(b:List Int)(c:List (List Int))(a:xI)(R:yC)(e:Nat)(d:Int)(f:Nat)(g:Int)(h:List Int):Prop:=LP lA Tryz.f151 [1,1,0,1,0,0,1,1,0,0,1,1,0,0] 2 f ⟨[(1,dS c),(5,.iptr [dI a.v,dI a.times] 0),(7,.own 7),(9,dI (zG .int b d.toNat)),(12,.sl .int b),(13,dI (b.length:Int)),(14,dI d),(22,.sl .int (zG (.list .int) c a.v.toNat)),(23,dI ((zG (.list .int) c a.v.toNat).length:Int)),(24,dI g)],[(7,.row 3 .int h)]⟩ (zH 2 (zH 1 (sK lA Tryz.f151 [1,1,0,1,0,0,1,1,1] 0 (iK lA Tryz.f151 [1,1,0,1,0,0] 0 e (zH 0 (sK lA Tryz.f151 [1,1,1] 0 (eK Tryz.f151 R)))))))
def Z8(a:List Int)(c:List (List Int))(b:xI)(R:yC)(d:Nat)(e:Int)(f:List Int):Prop:=LP lA Tryz.f151 [1,1,0,1,0,0] 0 d ⟨[(1,dS c),(5,.iptr [dI b.v,dI b.times] 0),(7,.own 7),(12,.sl .int a),(13,dI (a.length:Int)),(14,dI e)],[(7,.row 3 .int f)]⟩ (zH 0 (sK lA Tryz.f151 [1,1,1] 0 (eK Tryz.f151 R)))
theorem Kj(d:List Int)(b:List (List Int))(a:xI)(R:yC)(g:Nat)(e:Int)(h:Nat)(c:Int)(f:List Int):Z7 d b a R g e (h+1) c f=
 (zN (decide (c<((zG (.list .int) b a.v.toNat).length:Int)))
 (wC c (zG (.list .int) b a.v.toNat).length=true∧
 zL .int (f.length+([xF ((zG .int d e.toNat)+(xF (a.times*(zG .int (zG (.list .int) b a.v.toNat) c.toNat))))]).length)=true∧
 Z7 d b a R g e h (xF (c+1)) (f++([xF ((zG .int d e.toNat)+(xF (a.times*(zG .int (zG (.list .int) b a.v.toNat) c.toNat))))])))
 (Z8 d b a R g (xF (e+1)) f)):=by kernel_rfl
theorem Kk(a:List Int)(c:List (List Int))(d:xI)(R:yC)(f:Nat)(b:Int)(e:List Int):Z8 a c d R (f+1) b e=
 (zN (decide (b<(a.length:Int)))
 (wC b a.length=true∧
 wC d.v c.length=true∧
 ∃n2,Z7 a c d R f b n2 0 e)
 (∃g:List Int,cV rW [.own 1000] [(1000,.row 3 .int e)] (.tup []) [(1000,.row 3 .int g)]∧
 ∃h:List Int,cV tX [.own 1000] [(1000,.row 3 .int g)] (.sl .int h) []∧
 R (.sl .int h))):=by kernel_rfl
theorem Ce(b:List Int)(c:List (List Int))(a:xI)(R:yC):FD lA Tryz.f151 [.sl .int b,dS c,.agg [dI a.v,dI a.times]] R=
 (∃n0,Z8 b c a R n0 0 ([]:List Int)):=by kernel_rfl
theorem G3(b:List Int)(c:List (List Int))(a:xI):yY lA Tryz.f151 YK [.sl .int b,dS c,.agg [dI a.v,dI a.times]]:=xA Tryz.func151 (by kernel_rfl) Tryz.ntmps151 rfl
def VS:xJ:= {own:=[8],live:=[],n:=20}
theorem MI(c e:Int)(b:List xI)(f:List (Int×(List Int)))(a:zQ)(R:yC):FD VS Tryz.f152 [dI c,dI e,.iptr [.sl .term b] 0,.iptr [.mp .int (.list .int) f] 0,.iptr (pB a []) 0] R=
 (zX wF [.sl .term b,.clo jO none [.iptr [dI c] 0]] .int λd=>
 wC d b.length=true∧
 zX xM [.sl .int (cD .int (.list .int) c f),.clo jP none [.iptr (pB a []) 0,.iptr [dI ((zG .term b d.toNat).v),dI ((zG .term b d.toNat).times)] 0,.iptr [dI e] 0]] .bool λg=>
 R (dB g)):=by kernel_rfl
theorem Nm(b c:Int)(d:List xI)(e:List (Int×(List Int)))(a:zQ):yY VS Tryz.f152 tM [dI b,dI c,.iptr [.sl .term d] 0,.iptr [.mp .int (.list .int) e] 0,.iptr (pB a []) 0]:=xA Tryz.func152 (by kernel_rfl) Tryz.ntmps152 rfl
def XN:xJ:= {own:=[],live:=[],n:=8}
theorem Pp(a:xI)(b:Int)(R:yC):FD XN Tryz.f154 [.agg [dI a.v,dI a.times],.iptr [dI b] 0] R=
 (R (dB (decide (a.v=b)))):=by kernel_rfl
theorem R0(a:xI)(b:Int):yY XN Tryz.f154 jO [.agg [dI a.v,dI a.times],.iptr [dI b] 0]:=xA Tryz.func154 (by kernel_rfl) Tryz.ntmps154 rfl
def XO:xJ:= {own:=[],live:=[],n:=14}
theorem Pq(c:Int)(a:zQ)(b:xI)(d:Int)(R:yC):FD XO Tryz.f155 [dI c,.iptr (pB a []) 0,.iptr [dI b.v,dI b.times] 0,.iptr [dI d] 0] R=
 (zX iL [dC a,dI (xF (c+(xF (b.times*d))))] .bool λe=>
 R (dB e)):=by kernel_rfl
theorem R3(c:Int)(a:zQ)(b:xI)(d:Int):yY XO Tryz.f155 jP [dI c,.iptr (pB a []) 0,.iptr [dI b.v,dI b.times] 0,.iptr [dI d] 0]:=xA Tryz.func155 (by kernel_rfl) Tryz.ntmps155 rfl
def fC:xJ:= {own:=[20,21,23],live:=[(0,([8,26,27],[20,21,23]))],n:=40,nils:=[],pubs:=[(23,0)]}
def pU(a:zQ)(R:yC)(b:Nat)(c:Int)(d e:List (Int×Int))(f:List (List Int))(g:List Int)(h:Int):Prop:=LP fC Tryz.f156 [1,1,1,1,0,1,0,0] 0 b ⟨[(8,.ptr 23 0),(26,dI (a.vars.length:Int)),(27,dI c)],[(20,.mp .int .int d),(21,.mp .int .int e),(23,.cells [dS f,.sl .int g,.own 20,.own 21,dI h])]⟩ (zH 0 (sK fC Tryz.f156 [1,1,1,1,1] 0 (eK Tryz.f156 R)))
theorem R4(d:zQ)(R:yC)(e:Nat)(a:Int)(f g:List (Int×Int))(b:List (List Int))(c:List Int)(k:Int):pU d R (e+1) a f g b c k=
 (zN (decide (a<(d.vars.length:Int)))
 (∃h:Bool,∃i:List (Int×Int),∃j:List (Int×Int),cV vY [.ptr 1000 0,dI a] [(1000,.cells [dS b,.sl .int c,.own 1001,.own 1002,dI (xF (a+1))]),(1001,.mp .int .int f),(1002,.mp .int .int g)] (dB h) [(1000,.cells [dS b,.sl .int c,.own 1001,.own 1002,dI (xF (a+1))]),(1001,.mp .int .int i),(1002,.mp .int .int j)]∧
 zN (!h)
 (R (dB false))
 (pU d R e (xF (a+1)) i j b c (xF (a+1))))
 (R (dB true))):=by kernel_rfl
theorem MJ(b d:Int)(e:List (List Int))(a:zQ)(R:yC):FD fC Tryz.f156 [dI b,dI d,.iptr [dS e] 0,.iptr (pB a []) 0] R=
 (∃c:List (List Int),cV vQ [dS e] [] (.own 3000) [(3000,.row 62 (.list .int) c)]∧
 wC b c.length=true∧
 ∃n0,pU a R n0 0 ([]:List (Int×Int)) ([]:List (Int×Int)) (c.set b.toNat ([d])) a.vars 0):=by kernel_rfl
theorem Nn(b c:Int)(d:List (List Int))(a:zQ):yY fC Tryz.f156 tN [dI b,dI c,.iptr [dS d] 0,.iptr (pB a []) 0]:=xA Tryz.func156 (by kernel_rfl) Tryz.ntmps156 rfl
def kB:xJ:= {own:=[],live:=[(0,([0,1,21,22,23],[1000,1001,1002]))],n:=70}
def qP(b:List (List Int))(c:List Int)(a:Int)(R:VD)(d:Nat)(e:Int)(f:List (List Int))(g:List Int)(h:Int)(i j:List (Int×Int)):Prop:=LP kB Tryz.f158 [1,0,1,0,0] 0 d ⟨[(0,.ptr 1000 0),(1,dI a),(21,.sl .int (zG (.list .int) b ((zG .int c a.toNat).toNat))),(22,dI ((zG (.list .int) b ((zG .int c a.toNat).toNat)).length:Int)),(23,dI e)],[(1000,.cells [dS f,.sl .int g,.own 1001,.own 1002,dI h]),(1001,.mp .int .int i),(1002,.mp .int .int j)]⟩ (zH 0 (sK kB Tryz.f158 [1,1] 0 (eH Tryz.f158 [.ptr 1000 0] false R)))
theorem sP(b:List (List Int))(c:List Int)(a:Int)(R:VD)(k:Nat)(d:Int)(f:List (List Int))(g:List Int)(e:Int)(h i:List (Int×Int)):qP b c a R (k+1) d f g e h i=
 (zN (decide (d<((zG (.list .int) b ((zG .int c a.toNat).toNat)).length:Int)))
 (wC d (zG (.list .int) b ((zG .int c a.toNat).toNat)).length=true∧
 zN (decide ((cD .int .int (zG .int (zG (.list .int) b ((zG .int c a.toNat).toNat)) d.toNat) i)=e))
 (qP b c a R k (xF (d+1)) f g e h i)
 (Es (i.length+1)=true∧
 zN (!(zd4 .int .int (zG .int (zG (.list .int) b ((zG .int c a.toNat).toNat)) d.toNat) h))
 (Es (h.length+1)=true∧
 R (dB true) [(1000,.cells [dS f,.sl .int g,.own 1001,.own 1002,dI e]),(1001,.mp .int .int (oa .int .int (zG .int (zG (.list .int) b ((zG .int c a.toNat).toNat)) d.toNat) a h)),(1002,.mp .int .int (oa .int .int (zG .int (zG (.list .int) b ((zG .int c a.toNat).toNat)) d.toNat) e i))])
 (∃m:Bool,∃j:List (Int×Int),∃l:List (Int×Int),cV vY [.ptr 1000 0,dI (cD .int .int (zG .int (zG (.list .int) b ((zG .int c a.toNat).toNat)) d.toNat) h)] [(1000,.cells [dS f,.sl .int g,.own 1001,.own 1002,dI e]),(1001,.mp .int .int h),(1002,.mp .int .int (oa .int .int (zG .int (zG (.list .int) b ((zG .int c a.toNat).toNat)) d.toNat) e i))] (dB m) [(1000,.cells [dS f,.sl .int g,.own 1001,.own 1002,dI e]),(1001,.mp .int .int j),(1002,.mp .int .int l)]∧
 zN m
 (Es (j.length+1)=true∧
 R (dB true) [(1000,.cells [dS f,.sl .int g,.own 1001,.own 1002,dI e]),(1001,.mp .int .int (oa .int .int (zG .int (zG (.list .int) b ((zG .int c a.toNat).toNat)) d.toNat) a j)),(1002,.mp .int .int l)])
 (qP b c a R k (xF (d+1)) f g e j l))))
 (R (dB false) [(1000,.cells [dS f,.sl .int g,.own 1001,.own 1002,dI e]),(1001,.mp .int .int h),(1002,.mp .int .int i)])):=by kernel_rfl
theorem Z9(b:List (List Int))(a:List Int)(d:Int)(e f:List (Int×Int))(c:Int)(R:VD):FH kB Tryz.f158 [.ptr 1000 0,dI c] [(1000,.cells [dS b,.sl .int a,.own 1001,.own 1002,dI d]),(1001,.mp .int .int e),(1002,.mp .int .int f)] [.ptr 1000 0] false R=
 (wC c a.length=true∧
 wC (zG .int a c.toNat) b.length=true∧
 ∃n0,qP b a c R n0 0 b a d e f):=by kernel_rfl
theorem Zn(a:List (List Int))(b:List Int)(c:Int)(d e:List (Int×Int))(f:Int):Rb kB Tryz.f158 vY [.ptr 1000 0,dI f] [(1000,.cells [dS a,.sl .int b,.own 1001,.own 1002,dI c]),(1001,.mp .int .int d),(1002,.mp .int .int e)] [.ptr 1000 0] false:=Qv Tryz.func158 (by kernel_rfl) Tryz.ntmps158 rfl
def Tq:xJ:= {own:=[],live:=[],n:=8}
theorem Kl(a:xI)(b:Int)(R:yC):FD Tq Tryz.f179 [.agg [dI a.v,dI a.times],.iptr [dI b] 0] R=
 (R (dB (decide (a.v=b)))):=by kernel_rfl
theorem MK(a:xI)(b:Int):yY Tq Tryz.f179 dG [.agg [dI a.v,dI a.times],.iptr [dI b] 0]:=xA Tryz.func179 (by kernel_rfl) Tryz.ntmps179 rfl
end Go.Proofs.YteimklbiapnfhaaGreat
