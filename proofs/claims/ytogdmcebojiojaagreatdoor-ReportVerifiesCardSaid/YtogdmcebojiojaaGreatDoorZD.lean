/- Texts of this proof, one behind the other: nothing is handed in but what is proved here; no condition. -/
import Derived.Lib.AtoiErrMem
import Derived.Lib.ItoaNum
import Derived.Lib.Join
import Derived.Shelf.Strings.Builder1
import Derived.Lib.AppendIntMem
import Derived.Lib.ItoaLen
import Derived.Test.YtogdmcebojiojaaGreatDoorZC
set_option linter.unusedVariables false
set_option linter.unusedSimpArgs false
namespace Go.Proofs.YtogdmcebojiojaaGreatDoor
open Go.Proofs.Tryz
open Go.RowKit
set_option maxRecDepth 100000
def oB:wG:= {own:=[2,8,9,10,11,50,64],live:=[(0,([2,5,8,9],[2,8,9,1008004,1008005])),(2,([2,5,8],[2,8,9,1008005]))],n:=108,nils:=[(8,(4,(72,.var))),(8,(5,(74,.con)))],pubs:=[],first:=true}
def pN(R:yL)(a:AcR)(b:Nat)(c:AcP)(d:AcQ)(e f:Int)(g:AcR)(h i j k l:Int)(m:AcP)(n:AcQ):Prop:=LP oB f11 [1,1,1,1,1,1,1,0,0,0] 2 b ⟨[(2,.ptr 2 0),(5,.sl .tok a),(8,.ptr 8 0)],[(2,.cells [.sl .var c,.sl .con d,dI e,dI f]),(8,.cells [.sl .tok g,dI h,dI i,dI j,.own 9,.own 1008005,dI k,dI l]),(9,.row 72 .var m),(1008005,.row 74 .con n)]⟩ (zH 2 (sK oB f11 [1,1,1,1,1,1,1,1] 0 (eK f11 R)))
def rT(R:yL)(a:AcR)(b:Nat)(c:AcP)(d:AcQ)(e f:Int)(g:AcR)(h i j k l:Int)(m n:AcP)(o:AcQ):Prop:=LP oB f11 [1,1,1,1,1,0,0,0] 0 b ⟨[(2,.ptr 2 0),(5,.sl .tok a),(8,.ptr 8 0),(9,.own 9)],[(2,.cells [.sl .var c,.sl .con d,dI e,dI f]),(8,.cells [.sl .tok g,dI h,dI i,dI j,.own 1008004,.own 1008005,dI k,dI l]),(9,.row 72 .var m),(1008004,.row 72 .var n),(1008005,.row 74 .con o)]⟩ (zH 0 (sK oB f11 [1,1,1,1,1,1] 0 (eK f11 R)))
theorem mK(R:yL)(s:AcR)(n2:Nat)(al:AcP)(am:AcQ)(an ao:Int)(c:AcR)(t d u h f:Int)(b:AcP)(a:AcQ):pN R s (n2+1) al am an ao c t d u h f b a=
 (∃ap:AcG,yQ xD [AcY] (zU c t d u h f b a) (.str ap) (zU c t d u h f b a)/\
 zJ (decide (ap=(⟨#[99,111,110]⟩:AcG)))
 (∃aq:Int,∃ar:Int,yQ zV [AcY,.str (⟨#[99,111,110]⟩:AcG)] (zU c t d u h f b a) (.tup []) (zU c aq d ar h f b a)/\
 ∃au:Int,∃av:Int,∃ad:zF,yQ lL [AcY] (zU c aq d ar h f b a) (dC ad) (zU c au d av h f b a)/\
 ∃aw:Int,∃ax:Int,yQ zV [AcY,.str (⟨#[59]⟩:AcG)] (zU c au d av h f b a) (.tup []) (zU c aw d ax h f b a)/\
 xQ .con (a.length+([ad]).length)=true/\pN R s n2 al am an ao c aw d ax h f b (a++([ad])))
 (∃ay:Int,∃az:Int,yQ zV [AcY,.str (⟨#[115,111,108,118,101]⟩:AcG)] (zU c t d u h f b a) (.tup []) (zU c ay d az h f b a)/\
 ∃ac:Int,∃v:Int,∃e:Int,yQ tQ [AcY,.sl .str ([(⟨#[97,110,121]⟩:AcG),(⟨#[108,101,97,115,116]⟩:AcG),(⟨#[109,111,115,116]⟩:AcG)])] (zU c ay d az h f b a) (dI e) (zU c ac d v h f b a)/\
 zJ (decide (v=0))
 (zJ (!decide (e=0))
 (∃ba:Int,∃bb:Int,∃g:Int,yQ xT [AcY] (zU c ac d v e f b a) (dI g) (zU c ba d bb e f b a)/\
 ∃i:Int,∃l:Int,yQ zV [AcY,.str (⟨#[59]⟩:AcG)] (zU c ba d bb e g b a) (.tup []) (zU c i d l e g b a)/\
 zJ (decide (i<(s.length:Int)))
 (∃o:Int,yQ yC [AcY,dI 1] (zU c i d l e g b a) (.tup []) (zU c i d o e g b a)/\
 zJ (!decide (o=0))
 ((∃w:Int,yQ yT [AcY] (zU c i d o e g b a) (dI w) (zU c i d o e g b a)/\
 (λp:Prop=>((p)/\p))
 (R (.tup [.agg [.sl .var ([]:AcP),.sl .con ([]:AcQ),dI 0,dI 0],dI w,dI o])))/\
 ∃w:Int,yQ yT [AcY] (zU c i d o e g b a) (dI w) (zU c i d o e g b a)/\
 R (.tup [.agg [.sl .var ([]:AcP),.sl .con ([]:AcQ),dI 0,dI 0],dI w,dI o]))
 (yM vN [.agg [.sl .var b,.sl .con a,dI e,dI g]] .int λae=>
 zJ (!decide (ae=0))
 (R (.tup [.agg [.sl .var ([]:AcP),.sl .con ([]:AcQ),dI 0,dI 0],dI 0,dI ae]))
 (R (.tup [.agg [.sl .var b,.sl .con a,dI e,dI g],dI 0,dI ae]))))
 (zJ (!decide (l=0))
 ((∃x:Int,yQ yT [AcY] (zU c i d l e g b a) (dI x) (zU c i d l e g b a)/\
 (λp:Prop=>((p)/\p))
 (R (.tup [.agg [.sl .var ([]:AcP),.sl .con ([]:AcQ),dI 0,dI 0],dI x,dI l])))/\
 ∃x:Int,yQ yT [AcY] (zU c i d l e g b a) (dI x) (zU c i d l e g b a)/\
 R (.tup [.agg [.sl .var ([]:AcP),.sl .con ([]:AcQ),dI 0,dI 0],dI x,dI l]))
 (yM vN [.agg [.sl .var b,.sl .con a,dI e,dI g]] .int λaf=>
 zJ (!decide (af=0))
 (R (.tup [.agg [.sl .var ([]:AcP),.sl .con ([]:AcQ),dI 0,dI 0],dI 0,dI af]))
 (R (.tup [.agg [.sl .var b,.sl .con a,dI e,dI g],dI 0,dI af])))))
 (∃j:Int,∃m:Int,yQ zV [AcY,.str (⟨#[59]⟩:AcG)] (zU c ac d v e f b a) (.tup []) (zU c j d m e f b a)/\
 zJ (decide (j<(s.length:Int)))
 (∃q:Int,yQ yC [AcY,dI 1] (zU c j d m e f b a) (.tup []) (zU c j d q e f b a)/\
 zJ (!decide (q=0))
 ((∃y:Int,yQ yT [AcY] (zU c j d q e f b a) (dI y) (zU c j d q e f b a)/\
 (λp:Prop=>((p)/\p))
 (R (.tup [.agg [.sl .var ([]:AcP),.sl .con ([]:AcQ),dI 0,dI 0],dI y,dI q])))/\
 ∃y:Int,yQ yT [AcY] (zU c j d q e f b a) (dI y) (zU c j d q e f b a)/\
 R (.tup [.agg [.sl .var ([]:AcP),.sl .con ([]:AcQ),dI 0,dI 0],dI y,dI q]))
 (yM vN [.agg [.sl .var b,.sl .con a,dI e,dI f]] .int λag=>
 zJ (!decide (ag=0))
 (R (.tup [.agg [.sl .var ([]:AcP),.sl .con ([]:AcQ),dI 0,dI 0],dI 0,dI ag]))
 (R (.tup [.agg [.sl .var b,.sl .con a,dI e,dI f],dI 0,dI ag]))))
 (zJ (!decide (m=0))
 ((∃z:Int,yQ yT [AcY] (zU c j d m e f b a) (dI z) (zU c j d m e f b a)/\
 (λp:Prop=>((p)/\p))
 (R (.tup [.agg [.sl .var ([]:AcP),.sl .con ([]:AcQ),dI 0,dI 0],dI z,dI m])))/\
 ∃z:Int,yQ yT [AcY] (zU c j d m e f b a) (dI z) (zU c j d m e f b a)/\
 R (.tup [.agg [.sl .var ([]:AcP),.sl .con ([]:AcQ),dI 0,dI 0],dI z,dI m]))
 (yM vN [.agg [.sl .var b,.sl .con a,dI e,dI f]] .int λah=>
 zJ (!decide (ah=0))
 (R (.tup [.agg [.sl .var ([]:AcP),.sl .con ([]:AcQ),dI 0,dI 0],dI 0,dI ah]))
 (R (.tup [.agg [.sl .var b,.sl .con a,dI e,dI f],dI 0,dI ah]))))))
 (∃k:Int,∃n:Int,yQ zV [AcY,.str (⟨#[59]⟩:AcG)] (zU c ac d v e f b a) (.tup []) (zU c k d n e f b a)/\
 zJ (decide (k<(s.length:Int)))
 (∃r:Int,yQ yC [AcY,dI 1] (zU c k d n e f b a) (.tup []) (zU c k d r e f b a)/\
 zJ (!decide (r=0))
 ((∃aa:Int,yQ yT [AcY] (zU c k d r e f b a) (dI aa) (zU c k d r e f b a)/\
 (λp:Prop=>((p)/\p))
 (R (.tup [.agg [.sl .var ([]:AcP),.sl .con ([]:AcQ),dI 0,dI 0],dI aa,dI r])))/\
 ∃aa:Int,yQ yT [AcY] (zU c k d r e f b a) (dI aa) (zU c k d r e f b a)/\
 R (.tup [.agg [.sl .var ([]:AcP),.sl .con ([]:AcQ),dI 0,dI 0],dI aa,dI r]))
 (yM vN [.agg [.sl .var b,.sl .con a,dI e,dI f]] .int λai=>
 zJ (!decide (ai=0))
 (R (.tup [.agg [.sl .var ([]:AcP),.sl .con ([]:AcQ),dI 0,dI 0],dI 0,dI ai]))
 (R (.tup [.agg [.sl .var b,.sl .con a,dI e,dI f],dI 0,dI ai]))))
 (zJ (!decide (n=0))
 ((∃ab:Int,yQ yT [AcY] (zU c k d n e f b a) (dI ab) (zU c k d n e f b a)/\
 (λp:Prop=>((p)/\p))
 (R (.tup [.agg [.sl .var ([]:AcP),.sl .con ([]:AcQ),dI 0,dI 0],dI ab,dI n])))/\
 ∃ab:Int,yQ yT [AcY] (zU c k d n e f b a) (dI ab) (zU c k d n e f b a)/\
 R (.tup [.agg [.sl .var ([]:AcP),.sl .con ([]:AcQ),dI 0,dI 0],dI ab,dI n]))
 (yM vN [.agg [.sl .var b,.sl .con a,dI e,dI f]] .int λaj=>
 zJ (!decide (aj=0))
 (R (.tup [.agg [.sl .var ([]:AcP),.sl .con ([]:AcQ),dI 0,dI 0],dI 0,dI aj]))
 (R (.tup [.agg [.sl .var b,.sl .con a,dI e,dI f],dI 0,dI aj]))))))):=by kernel_rfl
theorem pO(R:yL)(m:AcR)(r:Nat)(n:AcP)(o:AcQ)(p q:Int)(a:AcR)(j b k c d:Int)(h f:AcP)(e:AcQ):rT R m (r+1) n o p q a j b k c d h f e=
 (∃w:AcG,yQ xD [AcY] (zU a j b k c d f e) (.str w) (zU a j b k c d f e)/\
 zJ (decide (w=(⟨#[118,97,114]⟩:AcG)))
 (∃g:Int,∃l:Int,yQ zV [AcY,.str (⟨#[118,97,114]⟩:AcG)] (zU a j b k c d f e) (.tup []) (zU a g b l c d f e)/\
 ∃i:AcG,yQ xD [AcY] (zU a g b l c d f e) (.str i) (zU a g b l c d f e)/\
 yM kJ [.str i] .bool λau=>
 zJ au
 (∃x:Int,∃y:Int,yQ zV [AcY,.str (⟨#[58]⟩:AcG)] (zU a (yF (g+1)) b l c d f e) (.tup []) (zU a x b y c d f e)/\
 ∃z:Int,∃aa:Int,∃s:Int,yQ xH [AcY] (zU a x b y c d f e) (dI s) (zU a z b aa c d f e)/\
 ∃ab:Int,∃ac:Int,yQ zV [AcY,.str (⟨#[46,46]⟩:AcG)] (zU a z b aa c d f e) (.tup []) (zU a ab b ac c d f e)/\
 ∃ad:Int,∃ae:Int,∃t:Int,yQ xH [AcY] (zU a ab b ac c d f e) (dI t) (zU a ad b ae c d f e)/\
 ∃af:Int,∃ag:Int,yQ zV [AcY,.str (⟨#[59]⟩:AcG)] (zU a ad b ae c d f e) (.tup []) (zU a af b ag c d f e)/\
 xQ .var (h.length+([(⟨i,s,t⟩:zQ)]).length)=true/\rT R m r n o p q a af b ag c d (h++([(⟨i,s,t⟩:zQ)])) f e)
 (∃ah:Int,yQ yC [AcY,dI 1] (zU a g b l c d f e) (.tup []) (zU a g b ah c d f e)/\
 ∃ai:Int,∃aj:Int,yQ zV [AcY,.str (⟨#[58]⟩:AcG)] (zU a g b ah c d f e) (.tup []) (zU a ai b aj c d f e)/\
 ∃ak:Int,∃al:Int,∃u:Int,yQ xH [AcY] (zU a ai b aj c d f e) (dI u) (zU a ak b al c d f e)/\
 ∃am:Int,∃an:Int,yQ zV [AcY,.str (⟨#[46,46]⟩:AcG)] (zU a ak b al c d f e) (.tup []) (zU a am b an c d f e)/\
 ∃ao:Int,∃ap:Int,∃v:Int,yQ xH [AcY] (zU a am b an c d f e) (dI v) (zU a ao b ap c d f e)/\
 ∃aq:Int,∃ar:Int,yQ zV [AcY,.str (⟨#[59]⟩:AcG)] (zU a ao b ap c d f e) (.tup []) (zU a aq b ar c d f e)/\
 xQ .var (h.length+([(⟨i,u,v⟩:zQ)]).length)=true/\rT R m r n o p q a aq b ar c d (h++([(⟨i,u,v⟩:zQ)])) f e))
 (∃n2,pN R m n2 n o p q a j b k c d h e)):=by kernel_rfl
theorem Nf(a:AcG)(R:yL):FD oB f11 [.str a] R=
 (c3Q Ys [.str a] (.list .tok) .int .int λb d c=>
 zJ (!decide (c=0))
 (R (.tup [.agg [.sl .var ([]:AcP),.sl .con ([]:AcQ),dI 0,dI 0],dI d,dI c]))
 (∃n0,rT R b n0 ([]:AcP) ([]:AcQ) 0 0 b 0 (a.size:Int) 0 0 0 ([]:AcP) ([]:AcP) ([]:AcQ))):=by kernel_rfl
theorem PT(a:AcG):xZ oB f11 gL [.str a]:=wA func11 (by kernel_rfl) ntmps11 rfl
def wV:wG:= {own:=[5],live:=[(0,([1,3,4],[])),(2,([1,3,4,5,6],[5])),(4,([1,3,7],[]))],n:=114}
def mL(a:zG)(R:yL)(c:Nat)(b:Int)(d:Nat)(e:Int):Prop:=LP wV f15 [1,1,1,1,0,1,0,0,1,0,0,1,1,0,1,0,0] 2 d ⟨[(1,.iptr (WG a []) 0),(3,dI (a.vars.length:Int)),(4,dI b),(5,.ptr 5 0),(6,dI e)],[(5,.cells [.str ((zW .var a.vars b.toNat).name),dI ((zW .var a.vars b.toNat).lo),dI ((zW .var a.vars b.toNat).hi)])]⟩ (zH 2 (sK wV f15 [1,1,1,1,0,1,0,0,1,0,0,1,1,1] 1 (zH 1 (sK wV f15 [1,1,1,1,0,1,0,0,1,1] 0 (iK wV f15 [1,1,1,1,0,1,0,0] 0 c (zH 0 (sK wV f15 [1,1,1,1,1] 0 (eK f15 R))))))))
def mM(a:zG)(R:yL)(b:Nat)(c:Int):Prop:=LP wV f15 [1,1,1,1,1,0,1,0,0] 4 b ⟨[(1,.iptr (WG a []) 0),(3,dI (a.vars.length:Int)),(7,dI c)],[]⟩ (zH 4 (sK wV f15 [1,1,1,1,1,1] 0 (eK f15 R)))
def mN(a:zG)(R:yL)(b:Nat)(c:Int):Prop:=LP wV f15 [1,1,1,1,0,1,0,0] 0 b ⟨[(1,.iptr (WG a []) 0),(3,dI (a.vars.length:Int)),(4,dI c)],[]⟩ (zH 0 (sK wV f15 [1,1,1,1,1] 0 (eK f15 R)))
theorem aA(a:zG)(R:yL)(d:Nat)(b:Int)(e:Nat)(c:Int):mL a R d b (e+1) c=
 (zJ (decide (c<b))
 (xM c a.vars.length=true/\
 zJ (decide (((zW .var a.vars c.toNat).name)=((zW .var a.vars b.toNat).name)))
 (R (dI 6))
 (mL a R d b e (yF (c+1))))
 (yM xI [dI ((zW .var a.vars b.toNat).lo),dI (-50),dI 50] .bool λf=>
 zJ (!f)
 (R (dI 3))
 (yM xI [dI ((zW .var a.vars b.toNat).hi),dI (-50),dI 50] .bool λg=>
 zJ (!g)
 (R (dI 3))
 (zJ (decide (((zW .var a.vars b.toNat).hi)<((zW .var a.vars b.toNat).lo)))
 (R (dI 3))
 (zJ (decide (6<(yF ((yF (((zW .var a.vars b.toNat).hi)-((zW .var a.vars b.toNat).lo)))+1))))
 (R (dI 2))
 (mN a R d (yF (b+1)))))))):=by kernel_rfl
theorem aB(a:zG)(R:yL)(c:Nat)(b:Int):mM a R (c+1) b=
 (zJ (decide (b<(a.cons.length:Int)))
 (xM b a.cons.length=true/\
 yM iA [dM a,dC (zW .con a.cons b.toNat)] .int λd=>
 zJ (!decide (d=0))
 (R (dI d))
 (mM a R c (yF (b+1))))
 (yM xI [dI a.goal,dI 0,dI 2] .bool λe=>
 zJ (!e)
 (R (dI 7))
 (zJ (decide (a.goal=0))
 (zJ (!decide (a.var=0))
 (R (dI 1))
 (zJ (!decide (a.goal=0))
 (yM xI [dI a.var,dI 0,dI (yF ((a.vars.length:Int)-1))] .bool λf=>
 zJ (!f)
 (R (dI 5))
 (R (dI 0)))
 (R (dI 0))))
 (zJ (!decide (a.goal=0))
 (yM xI [dI a.var,dI 0,dI (yF ((a.vars.length:Int)-1))] .bool λg=>
 zJ (!g)
 (R (dI 5))
 (R (dI 0)))
 (R (dI 0)))))):=by kernel_rfl
theorem aC(a:zG)(R:yL)(c:Nat)(b:Int):mN a R (c+1) b=
 (zJ (decide (b<(a.vars.length:Int)))
 (xM b a.vars.length=true/\
 yM kJ [.str ((zW .var a.vars b.toNat).name)] .bool λd=>
 zJ (!d)
 (R (dI 1))
 (∃n2,mL a R c b n2 0))
 (∃n4,mM a R n4 0)):=by kernel_rfl
theorem Rq(a:zG)(R:yL):FD wV f15 [dM a] R=
 (zJ (decide ((a.vars.length:Int)=0))
 (R (dI 1))
 (zJ (decide (6<(a.vars.length:Int)))
 (R (dI 2))
 (zJ (decide (8<(a.cons.length:Int)))
 (R (dI 2))
 (∃n0,mN a R n0 0)))):=by kernel_rfl
theorem Sy(a:zG):xZ wV f15 vN [dM a]:=wA func15 (by kernel_rfl) ntmps15 rfl
def Ve:wG:= {own:=[],live:=[],n:=31}
theorem PU(a:zG)(b:AcK)(R:yL):FD Ve f25 [dM a,.sl .int b] R=
 (zJ (decide (a.goal=1))
 (xM a.var b.length=true/\
 R (.sl .lit ([(⟨a.var,1,yF ((zW .int b a.var.toNat)-1)⟩:zC)])))
 (zJ (decide (a.goal=2))
 (xM a.var b.length=true/\
 R (.sl .lit ([(⟨a.var,2,yF ((zW .int b a.var.toNat)+1)⟩:zC)])))
 (R (.sl .lit ([]:AcM))))):=by kernel_rfl
theorem QB(a:zG)(b:AcK):xZ Ve f25 jZ [dM a,.sl .int b]:=wA func25 (by kernel_rfl) ntmps25 rfl
def qC:wG:= {own:=[],live:=[(0,([2,3,8],[])),(2,([2,3,9],[]))],n:=65}
def pP(a:zG)(b:AcS)(R:yL)(c:Nat)(d:Int):Prop:=LP qC f26 [1,1,1,1,1,0,1,0,0] 2 c ⟨[(2,.sl .step b),(3,.iptr (WG a []) 0),(9,dI d)],[]⟩ (zH 2 (sK qC f26 [1,1,1,1,1,1] 0 (eK f26 R)))
def mO(a:zG)(b:AcS)(R:yL)(c:Nat)(d:Int):Prop:=LP qC f26 [1,1,1,1,0,1,0,0] 0 c ⟨[(2,.sl .step b),(3,.iptr (WG a []) 0),(8,dI d)],[]⟩ (zH 0 (sK qC f26 [1,1,1,1,1] 0 (eK f26 R)))
theorem aD(c:zG)(a:AcS)(R:yL)(d:Nat)(b:Int):pP c a R (d+1) b=
 (zJ (decide (b<(a.length:Int)))
 (xM b a.length=true/\
 zJ (decide (((zW .step a b.toNat).kind)=1))
 (xM b a.length=true/\
 yM xI [dI ((zW .step a b.toNat).con),dI 0,dI (yF ((c.cons.length:Int)-1))] .bool λe=>
 zJ (!e)
 (R (dI 5))
 (pP c a R d (yF (b+1))))
 (pP c a R d (yF (b+1))))
 (R (dI 0))):=by kernel_rfl
theorem aE(c:zG)(a:AcS)(R:yL)(d:Nat)(b:Int):mO c a R (d+1) b=
 (zJ (decide (b<(a.length:Int)))
 (xM b a.length=true/\
 yM pI [dM c,.sl .lit ((zW .step a b.toNat).clause)] .int λe=>
 zJ (!decide (e=0))
 (R (dI e))
 (mO c a R d (yF (b+1))))
 (∃n2,pP c a R n2 0)):=by kernel_rfl
theorem Rr(a:zG)(b:AcN)(c:AcS)(R:yL):FD qC f26 [dM a,.sl (.list .lit) b,.sl .step c] R=
 (zJ (decide (600<(b.length:Int)))
 (R (dI 2))
 (zJ (decide (6000<(c.length:Int)))
 (R (dI 2))
 (yM nH [dM a,.sl (.list .lit) b] .int λd=>
 zJ (!decide (d=0))
 (R (dI d))
 (∃n0,mO a c R n0 0)))):=by kernel_rfl
theorem Sz(a:zG)(b:AcN)(c:AcS):xZ qC f26 sD [dM a,.sl (.list .lit) b,.sl .step c]:=wA func26 (by kernel_rfl) ntmps26 rfl
def VJ:wG:= {own:=[],live:=[],n:=27}
theorem Ng(b:zG)(c:AcN)(a:AcS)(R:yL):FD VJ f27 [dM b,.sl (.list .lit) c,.sl .step a] R=
 (zJ (decide (0<(a.length:Int)))
 (xM (yF ((a.length:Int)-1)) a.length=true/\
 zJ (decide ((((zW .step a ((yF ((a.length:Int)-1)).toNat)).clause).length:Int)=0))
 (yM lM [dM b,.sl (.list .lit) c,.sl .step a] .bool λd=>
 R (dB d))
 (R (dB false)))
 (R (dB false))):=by kernel_rfl
theorem PV(a:zG)(b:AcN)(c:AcS):xZ VJ f27 uD [dM a,.sl (.list .lit) b,.sl .step c]:=wA func27 (by kernel_rfl) ntmps27 rfl
def oC:wG:= {own:=[],live:=[(0,([1,2,5],[])),(2,([1,2,6],[]))],n:=47}
def iM(a:zG)(b:AcK)(R:yL)(c:Nat)(d:Int):Prop:=LP oC f28 [1,1,0,1,0,0] 2 c ⟨[(1,.sl .int b),(2,.iptr (WG a []) 0),(6,dI d)],[]⟩ (zH 2 (sK oC f28 [1,1,1] 0 (eK f28 R)))
def iN(a:zG)(b:AcK)(R:yL)(c:Nat)(d:Int):Prop:=LP oC f28 [1,0,1,0,0] 0 c ⟨[(1,.sl .int b),(2,.iptr (WG a []) 0),(5,dI d)],[]⟩ (zH 0 (sK oC f28 [1,1] 0 (eK f28 R)))
theorem YG(a:zG)(c:AcK)(R:yL)(d:Nat)(b:Int):iM a c R (d+1) b=
 (zJ (decide (b<(a.cons.length:Int)))
 (xM b a.cons.length=true/\
 yM pJ [dC (zW .con a.cons b.toNat),.sl .int c] .bool λe=>
 zJ (!e)
 (R (dB false))
 (iM a c R d (yF (b+1))))
 (R (dB true))):=by kernel_rfl
theorem YH(b:zG)(c:AcK)(R:yL)(d:Nat)(a:Int):iN b c R (d+1) a=
 (zJ (decide (a<(b.vars.length:Int)))
 (xM a c.length=true/\
 xM a b.vars.length=true/\
 xM a b.vars.length=true/\
 yM xI [dI (zW .int c a.toNat),dI ((zW .var b.vars a.toNat).lo),dI ((zW .var b.vars a.toNat).hi)] .bool λe=>
 zJ (!e)
 (R (dB false))
 (iN b c R d (yF (a+1))))
 (∃n2,iM b c R n2 0)):=by kernel_rfl
theorem Nh(a:zG)(b:AcK)(R:yL):FD oC f28 [dM a,.sl .int b] R=
 (∃n0,iN a b R n0 0):=by kernel_rfl
theorem PW(a:zG)(b:AcK):xZ oC f28 uE [dM a,.sl .int b]:=wA func28 (by kernel_rfl) ntmps28 rfl
def iO:wG:= {own:=[],live:=[(0,([0,1,5],[]))],n:=26}
def kZ(a b:AcK)(R:yL)(c:Nat)(d:Int):Prop:=LP iO f38 [1,1,0,1,0,0] 0 c ⟨[(0,.sl .int a),(1,.sl .int b),(5,dI d)],[]⟩ (zH 0 (sK iO f38 [1,1,1] 0 (eK f38 R)))
theorem ZR(b c:AcK)(R:yL)(d:Nat)(a:Int):kZ b c R (d+1) a=
 (zJ (decide (a<(b.length:Int)))
 (xM a b.length=true/\
 xM a c.length=true/\
 zJ (!decide ((zW .int b a.toNat)=(zW .int c a.toNat)))
 (R (dB false))
 (kZ b c R d (yF (a+1))))
 (R (dB true))):=by kernel_rfl
theorem PX(a b:AcK)(R:yL):FD iO f38 [.sl .int a,.sl .int b] R=
 (zJ (!decide ((a.length:Int)=(b.length:Int)))
 (R (dB false))
 (∃n0,kZ a b R n0 0)):=by kernel_rfl
theorem QC(a b:AcK):xZ iO f38 nS [.sl .int a,.sl .int b]:=wA func38 (by kernel_rfl) ntmps38 rfl
def YI:wG:= {own:=[],live:=[],n:=31,first:=true}
theorem SA(a:AcR)(b d c e f:Int)(g:AcP)(h:AcQ)(R:oG):FH YI f45 [AcY] (zU a b d c e f g h) [AcY] false R=
 (zJ (!decide (c=0))
 (R (.str (⟨#[]⟩:AcG)) (zU a b d c e f g h))
 (zJ (decide ((a.length:Int)<=b))
 (R (.str (⟨#[]⟩:AcG)) (zU a b d c e f g h))
 (xM b a.length=true/\R (.str ((zW .tok a b.toNat).text)) (zU a b d c e f g h)))):=by kernel_rfl
theorem TC(a:AcR)(b c d e f:Int)(g:AcP)(h:AcQ):nW YI f45 xD [AcY] (zU a b c d e f g h) [AcY] false:=mJ func45 (by kernel_rfl) ntmps45 rfl
def YJ:wG:= {own:=[],live:=[],n:=24,first:=true}
theorem SB(a:AcR)(b c h d e:Int)(f:AcP)(g:AcQ)(i:AcG)(R:oG):FH YJ f46 [AcY,.str i] (zU a b c h d e f g) [AcY] false R=
 (zJ (decide (h=0))
 (∃j:AcG,yQ xD [AcY] (zU a b c h d e f g) (.str j) (zU a b c h d e f g)/\
 zJ (decide (j=i))
 (R (.tup []) (zU a (yF (b+1)) c h d e f g))
 (∃k:Int,yQ yC [AcY,dI 1] (zU a b c h d e f g) (.tup []) (zU a b c k d e f g)/\
 R (.tup []) (zU a b c k d e f g)))
 (∃l:Int,yQ yC [AcY,dI 1] (zU a b c h d e f g) (.tup []) (zU a b c l d e f g)/\
 R (.tup []) (zU a b c l d e f g))):=by kernel_rfl
theorem TD(a:AcR)(b c d e f:Int)(g:AcP)(h:AcQ)(i:AcG):nW YJ f46 zV [AcY,.str i] (zU a b c d e f g h) [AcY] false:=mJ func46 (by kernel_rfl) ntmps46 rfl
def ZS:wG:= {own:=[],live:=[],n:=13,first:=true}
theorem TF(a:AcR)(b c d e f:Int)(g:AcP)(h:AcQ)(i:Int)(R:oG):FH ZS f48 [AcY,dI i] (zU a b c d e f g h) [AcY] false R=
 (zJ (decide (d=0))
 (R (.tup []) (zU a b c i e f g h))
 (R (.tup []) (zU a b c d e f g h))):=by kernel_rfl
theorem UT(a:AcR)(b c d e f:Int)(g:AcP)(h:AcQ)(i:Int):nW ZS f48 yC [AcY,dI i] (zU a b c d e f g h) [AcY] false:=mJ func48 (by kernel_rfl) ntmps48 rfl
def uI:wG:= {own:=[],live:=[(0,([0,3,4,5,6],[1000,2000,2001]))],n:=56,first:=true}
def oV(a:AcR)(b c d:Int)(e:AcP)(f:AcQ)(R:oG)(g h:Int)(i:AcG)(j:Nat)(k l:Int):Prop:=LP uI f49 [1,1,1,1,1,1,0,1,0,0] 0 j ⟨[(0,AcY),(3,dI (-1)),(4,.str i),(5,dI k),(6,dI l)],(zU a g b h c d e f)⟩ (zH 0 (sK uI f49 [1,1,1,1,1,1,1] 0 (eH f49 [AcY] false R)))
def Rs(a:AcR)(b c d:Int)(e:AcP)(f:AcQ)(R:oG)(g h:Int)(i:AcG)(j:Nat)(k l:Int):Prop:=LP uI f49 [1,1,1,1,1,1,0,1,0,0] 0 j ⟨[(0,AcY),(3,dI (-1)),(4,.str i),(5,dI k),(6,dI l)],(zU a g b h c d e f)⟩ (zH 0 (sK uI f49 [1,1,1,1,1,1,1] 0 (eH f49 [AcY] false R)))
def Rt(a:AcR)(b c d e f:Int)(g:AcP)(h:AcQ)(R:oG)(i:AcG)(j:Nat)(k l:Int):Prop:=LP uI f49 [1,1,1,1,1,1,0,1,0,0] 0 j ⟨[(0,AcY),(3,dI 1),(4,.str i),(5,dI k),(6,dI l)],(zU a b c d e f g h)⟩ (zH 0 (sK uI f49 [1,1,1,1,1,1,1] 0 (eH f49 [AcY] false R)))
def pQ(a:AcR)(b c d e f:Int)(g:AcP)(h:AcQ)(R:oG)(i:AcG)(j:Nat)(k l:Int):Prop:=LP uI f49 [1,1,1,1,1,1,0,1,0,0] 0 j ⟨[(0,AcY),(3,dI 1),(4,.str i),(5,dI k),(6,dI l)],(zU a b c d e f g h)⟩ (zH 0 (sK uI f49 [1,1,1,1,1,1,1] 0 (eH f49 [AcY] false R)))
theorem SC(c:AcR)(d e f:Int)(g:AcP)(h:AcQ)(R:oG)(i j:Int)(a:AcG)(l:Nat)(k b:Int):oV c d e f g h R i j a (l+1) k b=
 (zJ (decide (b<(a.size:Int)))
 (xM b a.size=true/\oV c d e f g h R i j a l (yF ((yF ((yF (10*k))+(yF (rO a b.toNat))))-48)) (yF (b+1)))
 (R (dI (yF ((-1)*k))) (zU c (yF (i+1)) d j e f g h))):=by kernel_rfl
theorem UU(c:AcR)(d e f g h:Int)(i:AcP)(j:AcQ)(R:oG)(a:AcG)(l:Nat)(k b:Int):pQ c d e f g h i j R a (l+1) k b=
 (zJ (decide (b<(a.size:Int)))
 (xM b a.size=true/\pQ c d e f g h i j R a l (yF ((yF ((yF (10*k))+(yF (rO a b.toNat))))-48)) (yF (b+1)))
 (R (dI (yF (1*k))) (zU c (yF (d+1)) e f g h i j))):=by kernel_rfl
theorem XZ(a:AcR)(g b i c d:Int)(e:AcP)(f:AcQ)(R:oG):FH uI f49 [AcY] (zU a g b i c d e f) [AcY] false R=
 (∃m:AcG,yQ xD [AcY] (zU a g b i c d e f) (.str m) (zU a g b i c d e f)/\
 zJ (decide (m=(⟨#[45]⟩:AcG)))
 (∃h:Int,∃j:Int,yQ zV [AcY,.str (⟨#[45]⟩:AcG)] (zU a g b i c d e f) (.tup []) (zU a h b j c d e f)/\
 ∃k:AcG,yQ xD [AcY] (zU a h b j c d e f) (.str k) (zU a h b j c d e f)/\
 zJ (decide (k=(⟨#[]⟩:AcG)))
 (∃n:Int,yQ yC [AcY,dI 1] (zU a h b j c d e f) (.tup []) (zU a h b n c d e f)/\
 R (dI 0) (zU a h b n c d e f))
 (xM 0 k.size=true/\yM ox [.int .u8 (rO k 0)] .bool λt=>
 zJ (!t)
 (∃o:Int,yQ yC [AcY,dI 1] (zU a h b j c d e f) (.tup []) (zU a h b o c d e f)/\
 R (dI 0) (zU a h b o c d e f))
 (zJ (decide ((-1:Int)<0))
 (zJ (decide (k=(⟨#[48]⟩:AcG)))
 (∃p:Int,yQ yC [AcY,dI 1] (zU a h b j c d e f) (.tup []) (zU a h b p c d e f)/\
 R (dI 0) (zU a h b p c d e f))
 (∃n0,oV a b c d e f R h j k n0 0 0))
 (∃n0_2,Rs a b c d e f R h j k n0_2 0 0))))
 (∃l:AcG,yQ xD [AcY] (zU a g b i c d e f) (.str l) (zU a g b i c d e f)/\
 zJ (decide (l=(⟨#[]⟩:AcG)))
 (∃q:Int,yQ yC [AcY,dI 1] (zU a g b i c d e f) (.tup []) (zU a g b q c d e f)/\
 R (dI 0) (zU a g b q c d e f))
 (xM 0 l.size=true/\yM ox [.int .u8 (rO l 0)] .bool λu=>
 zJ (!u)
 (∃r:Int,yQ yC [AcY,dI 1] (zU a g b i c d e f) (.tup []) (zU a g b r c d e f)/\
 R (dI 0) (zU a g b r c d e f))
 (zJ (decide ((1:Int)<0))
 (zJ (decide (l=(⟨#[48]⟩:AcG)))
 (∃s:Int,yQ yC [AcY,dI 1] (zU a g b i c d e f) (.tup []) (zU a g b s c d e f)/\
 R (dI 0) (zU a g b s c d e f))
 (∃n0_3,Rt a g b i c d e f R l n0_3 0 0))
 (∃n0_4,pQ a g b i c d e f R l n0_4 0 0))))):=by kernel_rfl
theorem Xr(a:AcR)(b c d e f:Int)(g:AcP)(h:AcQ):nW uI f49 xH [AcY] (zU a b c d e f g h) [AcY] false:=mJ func49 (by kernel_rfl) ntmps49 rfl
def qD:wG:= {own:=[2,3,66,86,89,103,117],live:=[(1,([0,2,3,6],[2,3,1000,2000,2001,1003004,1003005])),(3,([0,2,3,11],[2,3,1000,2000,2001,1003004,1003005]))],n:=120,first:=true,nz:=[(3,(4,(40,.list .int))),(3,(5,(114,.lit)))]}
def rH(R:oG)(a:Nat)(b:Bool)(c:Int)(d e:AcK)(f:Int)(g:AcL)(h:AcM)(i:Int)(j k:AcK)(l:Int)(m:AcR)(n o p q r:Int)(s:AcP)(t:AcQ)(u:AcL)(v:AcM):Prop:=LP qD f50 [1,1,1,0,1,0,1,1,1,1,1,1,1,0,1,1,0,0] 1 a ⟨[(0,AcY),(2,.ptr 2 0),(3,.ptr 3 0),(6,dB b)],[(2,.cells [dI c,.sl .int d,.sl .int e,dI f,dS g,.sl .lit h]),(3,.cells [dI i,.sl .int j,.sl .int k,dI l,.own 1003004,.own 1003005]),(1000,.cells [.sl .tok m,dI n,dI o,dI p,.own 2000,.own 2001,dI q,dI r]),(2000,.row 72 .var s),(2001,.row 74 .con t),(1003004,.row 40 (.list .int) u),(1003005,.row 114 .lit v)]⟩ (zH 1 (zH 0 (sK qD f50 [1,1,1,1] 0 (eH f50 [AcY] false R))))
def rI(R:oG)(a:Nat)(b:Bool)(c:Int)(d e:AcK)(f:Int)(g:AcL)(h:AcM)(i:Int)(j k:AcK)(l:Int)(m:AcR)(n o p q r:Int)(s:AcP)(t:AcQ)(u:AcL)(v:AcM):Prop:=LP qD f50 [1,1,1,0,1,0,1,1,1,1,1,1,1,1,1,1,1,1,1,0,1,0,0] 3 a ⟨[(0,AcY),(2,.ptr 2 0),(3,.ptr 3 0),(11,dB b)],[(2,.cells [dI c,.sl .int d,.sl .int e,dI f,dS g,.sl .lit h]),(3,.cells [dI i,.sl .int j,.sl .int k,dI l,.own 1003004,.own 1003005]),(1000,.cells [.sl .tok m,dI n,dI o,dI p,.own 2000,.own 2001,dI q,dI r]),(2000,.row 72 .var s),(2001,.row 74 .con t),(1003004,.row 40 (.list .int) u),(1003005,.row 114 .lit v)]⟩ (zH 3 (zH 0 (sK qD f50 [1,1,1,1] 0 (eH f50 [AcY] false R))))
theorem wW(R:oG)(q:Nat)(r:Bool)(s:Int)(t u:AcK)(v:Int)(w:AcL)(x:AcM)(h:Int)(i j:AcK)(k:Int)(a:AcR)(l b m c d:Int)(e:AcP)(f:AcQ)(g:AcL)(n:AcM):rH R (q+1) r s t u v w x h i j k a l b m c d e f g n=
 (zJ r
 ((λp:Prop=>((p)/\p))
 (∃y:Int,∃z:Int,∃o:AcK,yQ wQ [AcY] (zU a l b m c d e f) (.sl .int o) (zU a y b z c d e f)/\
 xQ (.list .int) (g.length+([o]).length)=true/\∃aa:Int,∃ab:Int,∃ac:Bool,yQ yH [AcY,dB false] (zU a y b z c d e f) (dB ac) (zU a aa b ab c d e f)/\
 rH R q ac s t u v w x h i j k a aa b ab c d e f (g++([o])) n))
 (R (.agg [dI h,.sl .int i,.sl .int j,dI k,dS g,.sl .lit n]) (zU a l b m c d e f))):=by kernel_rfl
theorem wX(R:oG)(q:Nat)(r:Bool)(s:Int)(t u:AcK)(v:Int)(w:AcL)(x:AcM)(h:Int)(i j:AcK)(k:Int)(a:AcR)(l b m c d:Int)(e:AcP)(f:AcQ)(n:AcL)(g:AcM):rI R (q+1) r s t u v w x h i j k a l b m c d e f n g=
 (zJ r
 ((λp:Prop=>((p)/\p))
 (∃y:Int,∃z:Int,∃o:zC,yQ sE [AcY] (zU a l b m c d e f) (dL o) (zU a y b z c d e f)/\
 xQ .lit (g.length+([o]).length)=true/\∃aa:Int,∃ab:Int,∃ac:Bool,yQ yH [AcY,dB false] (zU a y b z c d e f) (dB ac) (zU a aa b ab c d e f)/\
 rI R q ac s t u v w x h i j k a aa b ab c d e f n (g++([o]))))
 (R (.agg [dI h,.sl .int i,.sl .int j,dI k,dS n,.sl .lit g]) (zU a l b m c d e f))):=by kernel_rfl
theorem vE(a:AcR)(m b n c d:Int)(e:AcP)(f:AcQ)(R:oG):FH qD f50 [AcY] (zU a m b n c d e f) [AcY] false R=
 (∃h:Int,∃i:Int,∃g:Int,yQ tQ [AcY,.sl .str ([(⟨#[108,101]⟩:AcG),(⟨#[101,113]⟩:AcG),(⟨#[110,101]⟩:AcG),(⟨#[100,105,102,102,101,114]⟩:AcG),(⟨#[101,108,101,109,101,110,116]⟩:AcG),(⟨#[116,97,98,108,101]⟩:AcG),(⟨#[116,105,109,101,115]⟩:AcG),(⟨#[109,97,120]⟩:AcG),(⟨#[99,108,97,117,115,101]⟩:AcG),(⟨#[105,102,102]⟩:AcG)])] (zU a m b n c d e f) (dI g) (zU a h b i c d e f)/\
 zJ (decide ((yF (1+g))=1))
 (∃o:Int,∃q:Int,∃r:AcK,yQ wQ [AcY] (zU a h b i c d e f) (.sl .int r) (zU a o b q c d e f)/\
 ∃s:Int,∃t:Int,∃u:AcK,yQ vZ [AcY] (zU a o b q c d e f) (.sl .int u) (zU a s b t c d e f)/\
 ∃v:Int,∃w:Int,∃x:Int,yQ xH [AcY] (zU a s b t c d e f) (dI x) (zU a v b w c d e f)/\
 R (.agg [dI (yF (1+g)),.sl .int u,.sl .int r,dI x,dS ([]:AcL),.sl .lit ([]:AcM)]) (zU a v b w c d e f))
 (zJ (decide ((yF (1+g))=2))
 (∃y:Int,∃z:Int,∃aa:AcK,yQ wQ [AcY] (zU a h b i c d e f) (.sl .int aa) (zU a y b z c d e f)/\
 ∃ab:Int,∃ac:Int,∃ad:AcK,yQ vZ [AcY] (zU a y b z c d e f) (.sl .int ad) (zU a ab b ac c d e f)/\
 ∃ae:Int,∃af:Int,∃ag:Int,yQ xH [AcY] (zU a ab b ac c d e f) (dI ag) (zU a ae b af c d e f)/\
 R (.agg [dI (yF (1+g)),.sl .int ad,.sl .int aa,dI ag,dS ([]:AcL),.sl .lit ([]:AcM)]) (zU a ae b af c d e f))
 (zJ (decide ((yF (1+g))=3))
 (∃ah:Int,∃ai:Int,∃aj:AcK,yQ wQ [AcY] (zU a h b i c d e f) (.sl .int aj) (zU a ah b ai c d e f)/\
 ∃ak:Int,∃al:Int,∃am:AcK,yQ vZ [AcY] (zU a ah b ai c d e f) (.sl .int am) (zU a ak b al c d e f)/\
 ∃an:Int,∃ao:Int,∃ap:Int,yQ xH [AcY] (zU a ak b al c d e f) (dI ap) (zU a an b ao c d e f)/\
 R (.agg [dI (yF (1+g)),.sl .int am,.sl .int aj,dI ap,dS ([]:AcL),.sl .lit ([]:AcM)]) (zU a an b ao c d e f))
 (zJ (decide ((yF (1+g))=4))
 (∃aq:Int,∃ar:Int,∃au:AcK,yQ vZ [AcY] (zU a h b i c d e f) (.sl .int au) (zU a aq b ar c d e f)/\
 R (.agg [dI (yF (1+g)),.sl .int au,.sl .int ([]:AcK),dI 0,dS ([]:AcL),.sl .lit ([]:AcM)]) (zU a aq b ar c d e f))
 (zJ (decide ((yF (1+g))=5))
 (∃av:Int,∃aw:Int,∃ax:AcK,yQ wQ [AcY] (zU a h b i c d e f) (.sl .int ax) (zU a av b aw c d e f)/\
 ∃ay:Int,∃az:Int,∃ba:Int,yQ xT [AcY] (zU a av b aw c d e f) (dI ba) (zU a ay b az c d e f)/\
 ∃bb:Int,∃bc:Int,∃bd:Int,yQ xT [AcY] (zU a ay b az c d e f) (dI bd) (zU a bb b bc c d e f)/\
 R (.agg [dI (yF (1+g)),.sl .int ([ba,bd]),.sl .int ax,dI 0,dS ([]:AcL),.sl .lit ([]:AcM)]) (zU a bb b bc c d e f))
 (zJ (decide ((yF (1+g))=6))
 (∃be:Int,∃bf:Int,∃bg:AcK,yQ vZ [AcY] (zU a h b i c d e f) (.sl .int bg) (zU a be b bf c d e f)/\
 ∃bh:Int,∃bi:Int,∃bj:Bool,yQ yH [AcY,dB true] (zU a be b bf c d e f) (dB bj) (zU a bh b bi c d e f)/\
 ∃n1,rH R n1 bj 0 ([]:AcK) ([]:AcK) 0 ([]:AcL) ([]:AcM) (yF (1+g)) bg ([]:AcK) 0 a bh b bi c d e f ([]:AcL) ([]:AcM))
 (zJ (decide ((yF (1+g))=7))
 (∃bk:Int,∃bl:Int,∃bm:Int,yQ xT [AcY] (zU a h b i c d e f) (dI bm) (zU a bk b bl c d e f)/\
 ∃bn:Int,∃bo:Int,∃bp:Int,yQ xT [AcY] (zU a bk b bl c d e f) (dI bp) (zU a bn b bo c d e f)/\
 ∃bq:Int,∃br:Int,∃bs:Int,yQ xT [AcY] (zU a bn b bo c d e f) (dI bs) (zU a bq b br c d e f)/\
 R (.agg [dI (yF (1+g)),.sl .int ([bm,bp,bs]),.sl .int ([]:AcK),dI 0,dS ([]:AcL),.sl .lit ([]:AcM)]) (zU a bq b br c d e f))
 (zJ (decide ((yF (1+g))=8))
 (∃bt:Int,∃bu:Int,∃j:Int,yQ xT [AcY] (zU a h b i c d e f) (dI j) (zU a bt b bu c d e f)/\
 ∃bv:Int,∃bw:Int,∃k:AcK,yQ vZ [AcY] (zU a bt b bu c d e f) (.sl .int k) (zU a bv b bw c d e f)/\
 xQ .int (([j]).length+k.length)=true/\R (.agg [dI (yF (1+g)),.sl .int (([j])++k),.sl .int ([]:AcK),dI 0,dS ([]:AcL),.sl .lit ([]:AcM)]) (zU a bv b bw c d e f))
 (zJ (decide ((yF (1+g))=9))
 (∃bx:Int,∃bz:Int,∃ca:Bool,yQ yH [AcY,dB true] (zU a h b i c d e f) (dB ca) (zU a bx b bz c d e f)/\
 ∃n3,rI R n3 ca 0 ([]:AcK) ([]:AcK) 0 ([]:AcL) ([]:AcM) (yF (1+g)) ([]:AcK) ([]:AcK) 0 a bx b bz c d e f ([]:AcL) ([]:AcM))
 (zJ (decide ((yF (1+g))=10))
 (∃cb:Int,∃cc:Int,∃cd:Int,yQ xT [AcY] (zU a h b i c d e f) (dI cd) (zU a cb b cc c d e f)/\
 (λp:Prop=>((p)/\p))
 (∃ce:Int,∃cf:Int,∃l:zC,yQ sE [AcY] (zU a cb b cc c d e f) (dL l) (zU a ce b cf c d e f)/\
 xQ .lit (([]:AcM).length+([l]).length)=true/\R (.agg [dI (yF (1+g)),.sl .int ([cd]),.sl .int ([]:AcK),dI 0,dS ([]:AcL),.sl .lit (([]:AcM)++([l]))]) (zU a ce b cf c d e f)))
 (R (.agg [dI (yF (1+g)),.sl .int ([]:AcK),.sl .int ([]:AcK),dI 0,dS ([]:AcL),.sl .lit ([]:AcM)]) (zU a h b i c d e f)))))))))))):=by kernel_rfl
theorem wT(a:AcR)(b c d e f:Int)(g:AcP)(h:AcQ):nW qD f50 lL [AcY] (zU a b c d e f g h) [AcY] false:=mJ func50 (by kernel_rfl) ntmps50 rfl
def mP:wG:= {own:=[],live:=[(0,([0,1,5],[1000,2000,2001]))],n:=36,first:=true}
def qW(a:AcX)(R:oG)(b:Nat)(c:Int)(d:AcR)(e f g h i:Int)(j:AcP)(k:AcQ):Prop:=LP mP f51 [1,0,1,0,0] 0 b ⟨[(0,AcY),(1,.sl .str a),(5,dI c)],(zU d e f g h i j k)⟩ (zH 0 (sK mP f51 [1,1] 0 (eH f51 [AcY] false R)))
theorem Ub(j:AcX)(R:oG)(k:Nat)(i:Int)(a:AcR)(b c h d e:Int)(f:AcP)(g:AcQ):qW j R (k+1) i a b c h d e f g=
 (zJ (decide (i<(j.length:Int)))
 (zJ (decide (h=0))
 (xM i j.length=true/\∃l:AcG,yQ xD [AcY] (zU a b c h d e f g) (.str l) (zU a b c h d e f g)/\
 zJ (decide (l=(zW .str j i.toNat)))
 (R (dI i) (zU a (yF (b+1)) c h d e f g))
 (qW j R k (yF (i+1)) a b c h d e f g))
 (qW j R k (yF (i+1)) a b c h d e f g))
 (∃m:Int,yQ yC [AcY,dI 1] (zU a b c h d e f g) (.tup []) (zU a b c m d e f g)/\
 R (dI 0) (zU a b c m d e f g))):=by kernel_rfl
theorem SD(a:AcR)(b c d e f:Int)(g:AcP)(h:AcQ)(i:AcX)(R:oG):FH mP f51 [AcY,.sl .str i] (zU a b c d e f g h) [AcY] false R=
 (∃n0,qW i R n0 0 a b c d e f g h):=by kernel_rfl
theorem TG(a:AcR)(b c d e f:Int)(g:AcP)(h:AcQ)(i:AcX):nW mP f51 tQ [AcY,.sl .str i] (zU a b c d e f g h) [AcY] false:=mJ func51 (by kernel_rfl) ntmps51 rfl
def iP:wG:= {own:=[],live:=[(0,([0,3,4],[1000,2000,2001]))],n:=43,first:=true}
def jA(R:oG)(a:AcG)(b:Nat)(c:Int)(d:AcR)(e f g h i:Int)(j:AcP)(k:AcQ):Prop:=LP iP f52 [1,1,1,0,1,0,0] 0 b ⟨[(0,AcY),(3,.str a),(4,dI c)],(zU d e f g h i j k)⟩ (zH 0 (sK iP f52 [1,1,1,1] 0 (eH f52 [AcY] false R)))
theorem SE(R:oG)(j:AcG)(k:Nat)(b:Int)(c:AcR)(d e i f g:Int)(a:AcP)(h:AcQ):jA R j (k+1) b c d e i f g a h=
 (zJ (decide (b<(a.length:Int)))
 (xM b a.length=true/\zJ (decide (((zW .var a b.toNat).name)=j))
 (R (dI b) (zU c (yF (d+1)) e i f g a h))
 (jA R j k (yF (b+1)) c d e i f g a h))
 (∃l:Int,yQ yC [AcY,dI 5] (zU c d e i f g a h) (.tup []) (zU c d e l f g a h)/\
 R (dI 0) (zU c d e l f g a h))):=by kernel_rfl
theorem PY(a:AcR)(b c h d e:Int)(f:AcP)(g:AcQ)(R:oG):FH iP f52 [AcY] (zU a b c h d e f g) [AcY] false R=
 (∃i:AcG,yQ xD [AcY] (zU a b c h d e f g) (.str i) (zU a b c h d e f g)/\
 yM kJ [.str i] .bool λk=>
 zJ (!k)
 (∃j:Int,yQ yC [AcY,dI 1] (zU a b c h d e f g) (.tup []) (zU a b c j d e f g)/\
 R (dI 0) (zU a b c j d e f g))
 (∃n0,jA R i n0 0 a b c h d e f g)):=by kernel_rfl
theorem QD(a:AcR)(b c d e f:Int)(g:AcP)(h:AcQ):nW iP f52 xT [AcY] (zU a b c d e f g h) [AcY] false:=mJ func52 (by kernel_rfl) ntmps52 rfl
def YK:wG:= {own:=[],live:=[],n:=28,first:=true}
theorem SF(a:AcR)(b c d e f:Int)(g:AcP)(h:AcQ)(R:oG):FH YK f53 [AcY] (zU a b c d e f g h) [AcY] false R=
 (zJ (decide (b<(a.length:Int)))
 (xM b a.length=true/\R (dI ((zW .tok a b.toNat).at_)) (zU a b c d e f g h))
 (R (dI c) (zU a b c d e f g h))):=by kernel_rfl
theorem TH(a:AcR)(b c d e f:Int)(g:AcP)(h:AcQ):nW YK f53 yT [AcY] (zU a b c d e f g h) [AcY] false:=mJ func53 (by kernel_rfl) ntmps53 rfl
def VK:wG:= {own:=[],live:=[],n:=15}
theorem Ni(a b c:Int)(R:yL):FD VK f61 [dI a,dI b,dI c] R=
 (zJ (decide (b<=a))
 (R (dB (decide (a<=c))))
 (R (dB false))):=by kernel_rfl
theorem PZ(a b c:Int):xZ VK f61 xI [dI a,dI b,dI c]:=wA func61 (by kernel_rfl) ntmps61 rfl
def xK:wG:= {own:=[],live:=[(0,([2,3,5],[])),(2,([2,3,6],[])),(4,([2,3,7],[])),(6,([2,3,8],[])),(8,([2,3,8,9],[])),(10,([2,3,10],[]))],n:=140}
def jB(b:zG)(a:zF)(R:yL)(c:Nat)(d:Int)(e:Nat)(f:Int):Prop:=LP xK f62 [1,1,1,1,1,1,1,1,0,1,0,0,1,0,0,1,0,0] 8 e ⟨[(2,.iptr (WG b []) 0),(3,.iptr (nX a []) 0),(8,dI d),(9,dI f)],[]⟩ (zH 8 (zH 7 (sK xK f62 [1,1,1,1,1,1,1,1,0,1,0,0,1,1] 6 (iK xK f62 [1,1,1,1,1,1,1,1,0,1,0,0] 6 c (zH 6 (sK xK f62 [1,1,1,1,1,1,1,1,1] 0 (eK f62 R)))))))
def lS(b:zG)(a:zF)(R:yL)(c:Nat)(d:Int):Prop:=LP xK f62 [1,1,1,1,1,1,1,1,1,0,1,0,0] 10 c ⟨[(2,.iptr (WG b []) 0),(3,.iptr (nX a []) 0),(10,dI d)],[]⟩ (zH 10 (sK xK f62 [1,1,1,1,1,1,1,1,1,1] 0 (eK f62 R)))
def jC(b:zG)(a:zF)(R:yL)(c:Nat)(d:Int):Prop:=LP xK f62 [1,1,1,1,1,1,1,1,0,1,0,0] 6 c ⟨[(2,.iptr (WG b []) 0),(3,.iptr (nX a []) 0),(8,dI d)],[]⟩ (zH 6 (sK xK f62 [1,1,1,1,1,1,1,1,1] 0 (eK f62 R)))
def jD(b:zG)(a:zF)(R:yL)(c:Nat)(d:Int):Prop:=LP xK f62 [1,1,1,1,1,1,0,1,0,0] 4 c ⟨[(2,.iptr (WG b []) 0),(3,.iptr (nX a []) 0),(7,dI d)],[]⟩ (zH 4 (sK xK f62 [1,1,1,1,1,1,1] 0 (eK f62 R)))
def jE(b:zG)(a:zF)(R:yL)(c:Nat)(d:Int):Prop:=LP xK f62 [1,1,1,1,1,0,1,0,0] 2 c ⟨[(2,.iptr (WG b []) 0),(3,.iptr (nX a []) 0),(6,dI d)],[]⟩ (zH 2 (sK xK f62 [1,1,1,1,1,1] 0 (eK f62 R)))
def jF(b:zG)(a:zF)(R:yL)(c:Nat)(d:Int):Prop:=LP xK f62 [1,1,1,1,0,1,0,0] 0 c ⟨[(2,.iptr (WG b []) 0),(3,.iptr (nX a []) 0),(5,dI d)],[]⟩ (zH 0 (sK xK f62 [1,1,1,1,1] 0 (eK f62 R)))
theorem ZT(d:zG)(a:zF)(R:yL)(e:Nat)(b:Int)(f:Nat)(c:Int):jB d a R e b (f+1) c=
 (xM b a.rows.length=true/\
 zJ (decide (c<((zW (.list .int) a.rows b.toNat).length:Int)))
 (xM b a.rows.length=true/\
 xM c (zW (.list .int) a.rows b.toNat).length=true/\
 yM qL [dI (zW .int (zW (.list .int) a.rows b.toNat) c.toNat)] .bool λg=>
 zJ (!g)
 (R (dI 3))
 (jB d a R e b f (yF (c+1))))
 (jC d a R e (yF (b+1)))):=by kernel_rfl
theorem Zq(c:zG)(a:zF)(R:yL)(d:Nat)(b:Int):lS c a R (d+1) b=
 (zJ (decide (b<(a.lits.length:Int)))
 (xM b a.lits.length=true/\
 yM pK [dM c,dL (zW .lit a.lits b.toNat)] .int λe=>
 zJ (!decide (e=0))
 (R (dI e))
 (lS c a R d (yF (b+1))))
 (R (dI 0))):=by kernel_rfl
theorem ZU(b:zG)(a:zF)(R:yL)(d:Nat)(c:Int):jC b a R (d+1) c=
 (zJ (decide (c<(a.rows.length:Int)))
 (∃n8,jB b a R d c n8 0)
 (∃n10,lS b a R n10 0)):=by kernel_rfl
theorem ZV(c:zG)(a:zF)(R:yL)(d:Nat)(b:Int):jD c a R (d+1) b=
 (zJ (decide (b<(a.consts.length:Int)))
 (xM b a.consts.length=true/\
 yM qL [dI (zW .int a.consts b.toNat)] .bool λe=>
 zJ (!e)
 (R (dI 3))
 (jD c a R d (yF (b+1))))
 (yM qL [dI a.n] .bool λf=>
 zJ (!f)
 (R (dI 3))
 (∃n6,jC c a R n6 0))):=by kernel_rfl
theorem ZW(c:zG)(a:zF)(R:yL)(d:Nat)(b:Int):jE c a R (d+1) b=
 (zJ (decide (b<(a.lits.length:Int)))
 (xM b a.lits.length=true/\
 yM xI [dI ((zW .lit a.lits b.toNat).var),dI 0,dI (yF ((c.vars.length:Int)-1))] .bool λe=>
 zJ (!e)
 (R (dI 5))
 (jE c a R d (yF (b+1))))
 (∃n4,jD c a R n4 0)):=by kernel_rfl
theorem ZX(c:zG)(a:zF)(R:yL)(d:Nat)(b:Int):jF c a R (d+1) b=
 (zJ (decide (b<(a.vars.length:Int)))
 (xM b a.vars.length=true/\
 yM xI [dI (zW .int a.vars b.toNat),dI 0,dI (yF ((c.vars.length:Int)-1))] .bool λe=>
 zJ (!e)
 (R (dI 5))
 (jF c a R d (yF (b+1))))
 (∃n2,jE c a R n2 0)):=by kernel_rfl
theorem P0(b:zG)(a:zF)(R:yL):FD xK f62 [dM b,dC a] R=
 (yM xI [dI a.kind,dI 1,dI 10] .bool λc=>
 zJ (!c)
 (R (dI 7))
 (zJ (decide (4<(a.vars.length:Int)))
 (R (dI 2))
 (zJ (decide (4<(a.lits.length:Int)))
 (R (dI 2))
 (zJ (decide (8<(a.consts.length:Int)))
 (R (dI 2))
 (zJ (decide (20<(a.rows.length:Int)))
 (R (dI 2))
 (yM kV [dC a] .bool λd=>
 zJ (!d)
 (R (dI 1))
 (∃n0,jF b a R n0 0))))))):=by kernel_rfl
theorem QE(a:zG)(b:zF):xZ xK f62 iA [dM a,dC b]:=wA func62 (by kernel_rfl) ntmps62 rfl
def nN:wG:= {own:=[],live:=[(0,([1,2,5],[]))],n:=25}
def oN(a:zG)(b:AcN)(R:yL)(c:Nat)(d:Int):Prop:=LP nN f75 [1,1,0,1,0,0] 0 c ⟨[(1,.sl (.list .lit) b),(2,.iptr (WG a []) 0),(5,dI d)],[]⟩ (zH 0 (sK nN f75 [1,1,1] 0 (eK f75 R)))
theorem eW(c:zG)(a:AcN)(R:yL)(d:Nat)(b:Int):oN c a R (d+1) b=
 (zJ (decide (b<(a.length:Int)))
 (xM b a.length=true/\
 yM pI [dM c,.sl .lit (zW (.list .lit) a b.toNat)] .int λe=>
 zJ (!decide (e=0))
 (R (dI e))
 (oN c a R d (yF (b+1))))
 (R (dI 0))):=by kernel_rfl
theorem TI(b:zG)(a:AcN)(R:yL):FD nN f75 [dM b,.sl (.list .lit) a] R=
 (zJ (decide (600<(a.length:Int)))
 (R (dI 2))
 (∃n0,oN b a R n0 0)):=by kernel_rfl
theorem UV(a:zG)(b:AcN):xZ nN f75 nH [dM a,.sl (.list .lit) b]:=wA func75 (by kernel_rfl) ntmps75 rfl
def mQ:wG:= {own:=[],live:=[(0,([1,2,5],[]))],n:=25}
def nO(a:zG)(b:AcM)(R:yL)(c:Nat)(d:Int):Prop:=LP mQ f76 [1,1,0,1,0,0] 0 c ⟨[(1,.sl .lit b),(2,.iptr (WG a []) 0),(5,dI d)],[]⟩ (zH 0 (sK mQ f76 [1,1,1] 0 (eK f76 R)))
theorem bA(c:zG)(a:AcM)(R:yL)(d:Nat)(b:Int):nO c a R (d+1) b=
 (zJ (decide (b<(a.length:Int)))
 (xM b a.length=true/\
 yM pK [dM c,dL (zW .lit a b.toNat)] .int λe=>
 zJ (!decide (e=0))
 (R (dI e))
 (nO c a R d (yF (b+1))))
 (R (dI 0))):=by kernel_rfl
theorem SG(b:zG)(a:AcM)(R:yL):FD mQ f76 [dM b,.sl .lit a] R=
 (zJ (decide (40<(a.length:Int)))
 (R (dI 2))
 (∃n0,nO b a R n0 0)):=by kernel_rfl
theorem TJ(a:zG)(b:AcM):xZ mQ f76 pI [dM a,.sl .lit b]:=wA func76 (by kernel_rfl) ntmps76 rfl
def lT:wG:= {own:=[9,11,13,58],live:=[(0,([2,3,7,8],[11]))],n:=59}
def tR(a:zG)(b:AcS)(R:yL)(c:Nat)(d:Int)(e:AcN):Prop:=LP lT f77 [1,1,0,1,0,0] 0 c ⟨[(2,.sl .step b),(3,.iptr (WG a []) 0),(7,.own 11),(8,dI d)],[(11,.row 53 (.list .lit) e)]⟩ (zH 0 (sK lT f77 [1,1,1] 0 (eK f77 R)))
theorem UW(d:zG)(a:AcS)(R:yL)(e:Nat)(b:Int)(c:AcN):tR d a R (e+1) b c=
 (zJ (decide (b<(a.length:Int)))
 (xM b a.length=true/\
 zJ (decide (((zW .step a b.toNat).kind)=1))
 (yM gM [dM d,dI ((zW .step a b.toNat).con),.sl .lit ((zW .step a b.toNat).clause)] .bool λf=>
 zJ f
 (xQ (.list .lit) (c.length+([(zW .step a b.toNat).clause]).length)=true/\
 tR d a R e (yF (b+1)) (c++([(zW .step a b.toNat).clause])))
 (zJ (decide (((zW .step a b.toNat).kind)=2))
 (zJ (decide (((zW .step a b.toNat).con)=0))
 (yM nU [dM d,.sl (.list .lit) c,.sl .lit ((zW .step a b.toNat).clause)] .bool λg=>
 zJ (!g)
 (R (dB false))
 (xQ (.list .lit) (c.length+([(zW .step a b.toNat).clause]).length)=true/\
 tR d a R e (yF (b+1)) (c++([(zW .step a b.toNat).clause]))))
 (R (dB false)))
 (R (dB false))))
 (zJ (decide (((zW .step a b.toNat).kind)=2))
 (zJ (decide (((zW .step a b.toNat).con)=0))
 (yM nU [dM d,.sl (.list .lit) c,.sl .lit ((zW .step a b.toNat).clause)] .bool λh=>
 zJ (!h)
 (R (dB false))
 (xQ (.list .lit) (c.length+([(zW .step a b.toNat).clause]).length)=true/\
 tR d a R e (yF (b+1)) (c++([(zW .step a b.toNat).clause]))))
 (R (dB false)))
 (R (dB false))))
 (R (dB true))):=by kernel_rfl
theorem Ru(b:zG)(a:AcN)(c:AcS)(R:yL):FD lT f77 [dM b,.sl (.list .lit) a,.sl .step c] R=
 (xQ (.list .lit) (([]:AcN).length+a.length)=true/\
 ∃n0,tR b c R n0 0 (([]:AcN)++a)):=by kernel_rfl
theorem SH(a:zG)(b:AcN)(c:AcS):xZ lT f77 lM [dM a,.sl (.list .lit) b,.sl .step c]:=wA func77 (by kernel_rfl) ntmps77 rfl
def zL:wG:= {own:=[5,33],live:=[(0,([1,2,5,6],[5])),(2,([1,2,5,7,8],[5])),(5,([5,9],[5])),(7,([5,9,10],[5])),(9,([2,5,11],[5])),(11,([2,5,12],[5])),(13,([5,13,14],[5])),(15,([1,2,15],[]))],n:=222}
def P1(R:yL)(a:AcK)(b:Nat)(c:Int):Prop:=LP zL f78 [1,1,1,1,1,0,1,0,1,1,1,1,1,1,1,0,0,1,0,0] 5 b ⟨[(5,.own 5),(9,dI c)],[(5,.row 3 .int a)]⟩ (zH 5 (sK zL f78 [1,1,1,1,1,0,1,0,1,1,1,1,1,1,1,0,1] 4 (zH 4 (sK zL f78 [1,1,1,1,1,1] 0 (eK f78 R)))))
def P2(a:zF)(R:yL)(b:AcK)(c:Nat)(d:Int):Prop:=LP zL f78 [1,1,1,1,1,0,1,0,1,1,1,1,1,1,1,1,1,0,0,1,0,0] 9 c ⟨[(2,.iptr (nX a []) 0),(5,.own 5),(11,dI d)],[(5,.row 3 .int b)]⟩ (zH 9 (sK zL f78 [1,1,1,1,1,0,1,0,1,1,1,1,1,1,1,1,1,0,1] 4 (zH 4 (sK zL f78 [1,1,1,1,1,1] 0 (eK f78 R)))))
def QF(a:zF)(R:yL)(b:AcK)(c:Nat)(d:Int):Prop:=LP zL f78 [1,1,1,1,1,0,1,0,1,1,1,1,1,1,1,1,1,1,1,0,0,1,0,0] 11 c ⟨[(2,.iptr (nX a []) 0),(5,.own 5),(12,dI d)],[(5,.row 3 .int b)]⟩ (zH 11 (sK zL f78 [1,1,1,1,1,0,1,0,1,1,1,1,1,1,1,1,1,1,1,0,1] 4 (zH 4 (sK zL f78 [1,1,1,1,1,1] 0 (eK f78 R)))))
def QG(R:yL)(a:AcK)(b:Nat)(c:Bool)(d:Int):Prop:=LP zL f78 [1,1,1,1,1,0,1,0,1,1,1,1,1,1,1,1,1,1,1,1,1,1,1,0,1,0,1,0,0] 13 b ⟨[(5,.own 5),(13,dB c),(14,dI d)],[(5,.row 3 .int a)]⟩ (zH 13 (sK zL f78 [1,1,1,1,1,0,1,0,1,1,1,1,1,1,1,1,1,1,1,1,1,1,1,0,1,1] 4 (zH 4 (sK zL f78 [1,1,1,1,1,1] 0 (eK f78 R)))))
def QH(a:zF)(b:AcK)(R:yL)(c:Nat)(d:Int):Prop:=LP zL f78 [1,1,1,1,1,0,1,0,1,1,1,1,1,1,1,1,1,1,1,1,1,1,1,1,1,0,0,1,0,0] 15 c ⟨[(1,.sl .int b),(2,.iptr (nX a []) 0),(15,dI d)],[]⟩ (zH 15 (sK zL f78 [1,1,1,1,1,0,1,0,1,1,1,1,1,1,1,1,1,1,1,1,1,1,1,1,1,0,1] 4 (zH 4 (sK zL f78 [1,1,1,1,1,1] 0 (eK f78 R)))))
def jG(a:zF)(b:AcK)(R:yL)(c:AcK)(d:Nat)(e f:Int):Prop:=LP zL f78 [1,1,1,1,0,1,0,1,0,0] 2 d ⟨[(1,.sl .int b),(2,.iptr (nX a []) 0),(5,.own 5),(7,dI e),(8,dI f)],[(5,.row 3 .int c)]⟩ (zH 2 (sK zL f78 [1,1,1,1,1] 0 (eK f78 R)))
def mR(R:yL)(a:AcK)(b:Nat)(c:Int)(d:Nat)(e:Int):Prop:=LP zL f78 [1,1,1,1,1,0,1,0,1,1,1,1,1,1,1,0,0,1,0,0,1,0,0,1,0,0] 7 d ⟨[(5,.own 5),(9,dI c),(10,dI e)],[(5,.row 3 .int a)]⟩ (zH 7 (zH 6 (sK zL f78 [1,1,1,1,1,0,1,0,1,1,1,1,1,1,1,0,0,1,0,0,1,1] 5 (iK zL f78 [1,1,1,1,1,0,1,0,1,1,1,1,1,1,1,0,0,1,0,0] 5 b (zH 5 (sK zL f78 [1,1,1,1,1,0,1,0,1,1,1,1,1,1,1,0,1] 4 (zH 4 (sK zL f78 [1,1,1,1,1,1] 0 (eK f78 R)))))))))
def mS(R:yL)(a:AcK)(b:Nat)(c:Int):Prop:=LP zL f78 [1,1,1,1,1,0,1,0,1,1,1,1,1,1,1,0,0,1,0,0] 5 b ⟨[(5,.own 5),(9,dI c)],[(5,.row 3 .int a)]⟩ (zH 5 (sK zL f78 [1,1,1,1,1,0,1,0,1,1,1,1,1,1,1,0,1] 4 (zH 4 (sK zL f78 [1,1,1,1,1,1] 0 (eK f78 R)))))
def mT(a:zF)(R:yL)(b:AcK)(c:Nat)(d:Int):Prop:=LP zL f78 [1,1,1,1,1,0,1,0,1,1,1,1,1,1,1,1,1,0,0,1,0,0] 9 c ⟨[(2,.iptr (nX a []) 0),(5,.own 5),(11,dI d)],[(5,.row 3 .int b)]⟩ (zH 9 (sK zL f78 [1,1,1,1,1,0,1,0,1,1,1,1,1,1,1,1,1,0,1] 4 (zH 4 (sK zL f78 [1,1,1,1,1,1] 0 (eK f78 R)))))
def nP(a:zF)(R:yL)(b:AcK)(c:Nat)(d:Int):Prop:=LP zL f78 [1,1,1,1,1,0,1,0,1,1,1,1,1,1,1,1,1,1,1,0,0,1,0,0] 11 c ⟨[(2,.iptr (nX a []) 0),(5,.own 5),(12,dI d)],[(5,.row 3 .int b)]⟩ (zH 11 (sK zL f78 [1,1,1,1,1,0,1,0,1,1,1,1,1,1,1,1,1,1,1,0,1] 4 (zH 4 (sK zL f78 [1,1,1,1,1,1] 0 (eK f78 R)))))
def qX(R:yL)(a:AcK)(b:Nat)(c:Bool)(d:Int):Prop:=LP zL f78 [1,1,1,1,1,0,1,0,1,1,1,1,1,1,1,1,1,1,1,1,1,1,1,0,1,0,1,0,0] 13 b ⟨[(5,.own 5),(13,dB c),(14,dI d)],[(5,.row 3 .int a)]⟩ (zH 13 (sK zL f78 [1,1,1,1,1,0,1,0,1,1,1,1,1,1,1,1,1,1,1,1,1,1,1,0,1,1] 4 (zH 4 (sK zL f78 [1,1,1,1,1,1] 0 (eK f78 R)))))
def nQ(a:zF)(b:AcK)(R:yL)(c:Nat)(d:Int):Prop:=LP zL f78 [1,1,1,1,1,0,1,0,1,1,1,1,1,1,1,1,1,1,1,1,1,1,1,1,1,0,0,1,0,0] 15 c ⟨[(1,.sl .int b),(2,.iptr (nX a []) 0),(15,dI d)],[]⟩ (zH 15 (sK zL f78 [1,1,1,1,1,0,1,0,1,1,1,1,1,1,1,1,1,1,1,1,1,1,1,1,1,0,1] 4 (zH 4 (sK zL f78 [1,1,1,1,1,1] 0 (eK f78 R)))))
def jH(a:zF)(b:AcK)(R:yL)(c:Nat)(d:Int)(e:AcK):Prop:=LP zL f78 [1,1,0,1,0,0] 0 c ⟨[(1,.sl .int b),(2,.iptr (nX a []) 0),(5,.own 5),(6,dI d)],[(5,.row 3 .int e)]⟩ (zH 0 (sK zL f78 [1,1,1] 0 (eK f78 R)))
theorem SI(a:zF)(d:AcK)(R:yL)(b:AcK)(f:Nat)(e c:Int):jG a d R b (f+1) e c=
 (zJ (decide (c<(b.length:Int)))
 (xM c b.length=true/\
 xM c a.consts.length=true/\
 jG a d R b f (yF (e+(yF ((zW .int b c.toNat)*(zW .int a.consts c.toNat))))) (yF (c+1)))
 (zJ (decide (a.kind=1))
 (R (dB (decide (e<=a.n))))
 (zJ (decide (a.kind=2))
 (R (dB (decide (e=a.n))))
 (zJ (decide (a.kind=3))
 (R (dB (!decide (e=a.n))))
 (zJ (decide (a.kind=4))
 (∃n5,P1 R b n5 0)
 (zJ (decide (a.kind=5))
 (∃n9,P2 a R b n9 0)
 (zJ (decide (a.kind=6))
 (∃n11,QF a R b n11 0)
 (zJ (decide (a.kind=7))
 (xM 0 b.length=true/\
 xM 1 b.length=true/\
 xM 2 b.length=true/\
 R (dB (decide ((yF ((zW .int b 0)*(zW .int b 1)))=(zW .int b 2)))))
 (zJ (decide (a.kind=8))
 (∃n13,QG R b n13 false 1)
 (zJ (decide (a.kind=9))
 (∃n15,QH a d R n15 0)
 (xM 0 a.lits.length=true/\
 xM 0 a.lits.length=true/\
 xM ((zW .lit a.lits 0).var) d.length=true/\
 yM uX [dL (zW .lit a.lits 0),dI (zW .int d (((zW .lit a.lits 0).var).toNat))] .bool λg=>
 zJ g
 (xM 0 b.length=true/\
 R (dB (decide ((zW .int b 0)=1))))
 (xM 0 b.length=true/\
 R (dB (decide ((zW .int b 0)=0))))))))))))))):=by kernel_rfl
theorem UX(R:yL)(a:AcK)(d:Nat)(b:Int)(e:Nat)(c:Int):mR R a d b (e+1) c=
 (zJ (decide (c<b))
 (xM b a.length=true/\
 xM c a.length=true/\
 zJ (decide ((zW .int a b.toNat)=(zW .int a c.toNat)))
 (R (dB false))
 (mR R a d b e (yF (c+1))))
 (mS R a d (yF (b+1)))):=by kernel_rfl
theorem UY(R:yL)(a:AcK)(c:Nat)(b:Int):mS R a (c+1) b=
 (zJ (decide (b<(a.length:Int)))
 (∃n7_2,mR R a c b n7_2 0)
 (R (dB true))):=by kernel_rfl
theorem UZ(c:zF)(R:yL)(a:AcK)(d:Nat)(b:Int):mT c R a (d+1) b=
 (zJ (decide (b<(c.consts.length:Int)))
 (xM 0 a.length=true/\
 zJ (decide ((zW .int a 0)=b))
 (xM b c.consts.length=true/\
 xM 1 a.length=true/\
 R (dB (decide ((zW .int c.consts b.toNat)=(zW .int a 1)))))
 (mT c R a d (yF (b+1))))
 (R (dB false))):=by kernel_rfl
theorem bB(a:zF)(R:yL)(c:AcK)(d:Nat)(b:Int):nP a R c (d+1) b=
 (zJ (decide (b<(a.rows.length:Int)))
 (xM b a.rows.length=true/\
 yM nS [.sl .int (zW (.list .int) a.rows b.toNat),.sl .int c] .bool λe=>
 zJ e
 (R (dB true))
 (nP a R c d (yF (b+1))))
 (R (dB false))):=by kernel_rfl
theorem Uc(R:yL)(a:AcK)(c:Nat)(d:Bool)(b:Int):qX R a (c+1) d b=
 (zJ (decide (b<(a.length:Int)))
 (xM b a.length=true/\
 xM 0 a.length=true/\
 zJ (decide ((zW .int a 0)<(zW .int a b.toNat)))
 (R (dB false))
 (zJ d
 (qX R a c true (yF (b+1)))
 (xM b a.length=true/\
 xM 0 a.length=true/\
 qX R a c (decide ((zW .int a b.toNat)=(zW .int a 0))) (yF (b+1)))))
 (R (dB d))):=by kernel_rfl
theorem bC(a:zF)(c:AcK)(R:yL)(d:Nat)(b:Int):nQ a c R (d+1) b=
 (zJ (decide (b<(a.lits.length:Int)))
 (xM b a.lits.length=true/\
 xM b a.lits.length=true/\
 xM ((zW .lit a.lits b.toNat).var) c.length=true/\
 yM uX [dL (zW .lit a.lits b.toNat),dI (zW .int c (((zW .lit a.lits b.toNat).var).toNat))] .bool λe=>
 zJ e
 (R (dB true))
 (nQ a c R d (yF (b+1))))
 (R (dB false))):=by kernel_rfl
theorem SJ(a:zF)(c:AcK)(R:yL)(e:Nat)(d:Int)(b:AcK):jH a c R (e+1) d b=
 (zJ (decide (d<(a.vars.length:Int)))
 (xM d a.vars.length=true/\
 xM (zW .int a.vars d.toNat) c.length=true/\
 xQ .int (b.length+([zW .int c ((zW .int a.vars d.toNat).toNat)]).length)=true/\
 jH a c R e (yF (d+1)) (b++([zW .int c ((zW .int a.vars d.toNat).toNat)])))
 (zJ (decide (a.kind<=3))
 (∃n2,jG a c R b n2 0 0)
 (zJ (decide (a.kind=1))
 (R (dB (decide (0<=a.n))))
 (zJ (decide (a.kind=2))
 (R (dB (decide (0=a.n))))
 (zJ (decide (a.kind=3))
 (R (dB (!decide (0=a.n))))
 (zJ (decide (a.kind=4))
 (∃n5_2,mS R b n5_2 0)
 (zJ (decide (a.kind=5))
 (∃n9_2,mT a R b n9_2 0)
 (zJ (decide (a.kind=6))
 (∃n11_2,nP a R b n11_2 0)
 (zJ (decide (a.kind=7))
 (xM 0 b.length=true/\
 xM 1 b.length=true/\
 xM 2 b.length=true/\
 R (dB (decide ((yF ((zW .int b 0)*(zW .int b 1)))=(zW .int b 2)))))
 (zJ (decide (a.kind=8))
 (∃n13_2,qX R b n13_2 false 1)
 (zJ (decide (a.kind=9))
 (∃n15_2,nQ a c R n15_2 0)
 (xM 0 a.lits.length=true/\
 xM 0 a.lits.length=true/\
 xM ((zW .lit a.lits 0).var) c.length=true/\
 yM uX [dL (zW .lit a.lits 0),dI (zW .int c (((zW .lit a.lits 0).var).toNat))] .bool λf=>
 zJ f
 (xM 0 b.length=true/\
 R (dB (decide ((zW .int b 0)=1))))
 (xM 0 b.length=true/\
 R (dB (decide ((zW .int b 0)=0)))))))))))))))):=by kernel_rfl
theorem P3(a:zF)(b:AcK)(R:yL):FD zL f78 [dC a,.sl .int b] R=
 (∃n0,jH a b R n0 0 ([]:AcK)):=by kernel_rfl
theorem QI(a:zF)(b:AcK):xZ zL f78 pJ [dC a,.sl .int b]:=wA func78 (by kernel_rfl) ntmps78 rfl
def VL:wG:= {own:=[],live:=[],n:=6}
theorem Nj(a:UInt8)(R:yL):FD VL f101 [.int .u8 (a.toNat:Int)] R=
 (yM xI [dI (yF (a.toNat:Int)),dI 48,dI 57] .bool λb=>
 R (dB b)):=by kernel_rfl
theorem P4(a:UInt8):xZ VL f101 ox [.int .u8 (a.toNat:Int)]:=wA func101 (by kernel_rfl) ntmps101 rfl
def jI:wG:= {own:=[3,14],live:=[(0,([0,3,4],[3,1000,2000,2001]))],n:=16,first:=true}
def oh(R:oG)(a:Nat)(b:Bool)(c:AcK)(d:AcR)(e f g h i:Int)(j:AcP)(k:AcQ):Prop:=LP jI f102 [1,1,0,1,0,0] 0 a ⟨[(0,AcY),(3,.own 3),(4,dB b)],[(3,.row 3 .int c),(1000,.cells [.sl .tok d,dI e,dI f,dI g,.own 2000,.own 2001,dI h,dI i]),(2000,.row 72 .var j),(2001,.row 74 .con k)]⟩ (zH 0 (sK jI f102 [1,1,1] 0 (eH f102 [AcY] false R)))
theorem vF(R:oG)(k:Nat)(l:Bool)(g:AcK)(a:AcR)(h b i c d:Int)(e:AcP)(f:AcQ):oh R (k+1) l g a h b i c d e f=
 (zJ l
 (∃m:Int,∃n:Int,∃j:Int,yQ xH [AcY] (zU a h b i c d e f) (dI j) (zU a m b n c d e f)/\
 xQ .int (g.length+([j]).length)=true/\∃o:Int,∃p:Int,∃q:Bool,yQ yH [AcY,dB false] (zU a m b n c d e f) (dB q) (zU a o b p c d e f)/\
 oh R k q (g++([j])) a o b p c d e f)
 (R (.sl .int g) (zU a h b i c d e f))):=by kernel_rfl
theorem QJ(a:AcR)(g b h c d:Int)(e:AcP)(f:AcQ)(R:oG):FH jI f102 [AcY] (zU a g b h c d e f) [AcY] false R=
 (∃i:Int,∃j:Int,∃k:Bool,yQ yH [AcY,dB true] (zU a g b h c d e f) (dB k) (zU a i b j c d e f)/\
 ∃n0,oh R n0 k ([]:AcK) a i b j c d e f):=by kernel_rfl
theorem Rv(a:AcR)(b c d e f:Int)(g:AcP)(h:AcQ):nW jI f102 wQ [AcY] (zU a b c d e f g h) [AcY] false:=mJ func102 (by kernel_rfl) ntmps102 rfl
def jJ:wG:= {own:=[3,14],live:=[(0,([0,3,4],[3,1000,2000,2001]))],n:=16,first:=true}
def ol(R:oG)(a:Nat)(b:Bool)(c:AcK)(d:AcR)(e f g h i:Int)(j:AcP)(k:AcQ):Prop:=LP jJ f103 [1,1,0,1,0,0] 0 a ⟨[(0,AcY),(3,.own 3),(4,dB b)],[(3,.row 3 .int c),(1000,.cells [.sl .tok d,dI e,dI f,dI g,.own 2000,.own 2001,dI h,dI i]),(2000,.row 72 .var j),(2001,.row 74 .con k)]⟩ (zH 0 (sK jJ f103 [1,1,1] 0 (eH f103 [AcY] false R)))
theorem vG(R:oG)(k:Nat)(l:Bool)(g:AcK)(a:AcR)(h b i c d:Int)(e:AcP)(f:AcQ):ol R (k+1) l g a h b i c d e f=
 (zJ l
 (∃m:Int,∃n:Int,∃j:Int,yQ xT [AcY] (zU a h b i c d e f) (dI j) (zU a m b n c d e f)/\
 xQ .int (g.length+([j]).length)=true/\∃o:Int,∃p:Int,∃q:Bool,yQ yH [AcY,dB false] (zU a m b n c d e f) (dB q) (zU a o b p c d e f)/\
 ol R k q (g++([j])) a o b p c d e f)
 (R (.sl .int g) (zU a h b i c d e f))):=by kernel_rfl
theorem QL(a:AcR)(g b h c d:Int)(e:AcP)(f:AcQ)(R:oG):FH jJ f103 [AcY] (zU a g b h c d e f) [AcY] false R=
 (∃i:Int,∃j:Int,∃k:Bool,yQ yH [AcY,dB true] (zU a g b h c d e f) (dB k) (zU a i b j c d e f)/\
 ∃n0,ol R n0 k ([]:AcK) a i b j c d e f):=by kernel_rfl
theorem Rw(a:AcR)(b c d e f:Int)(g:AcP)(h:AcQ):nW jJ f103 vZ [AcY] (zU a b c d e f g h) [AcY] false:=mJ func103 (by kernel_rfl) ntmps103 rfl
def YL:wG:= {own:=[],live:=[],n:=25,first:=true}
theorem ZY(a:AcR)(g b h c d:Int)(e:AcP)(f:AcQ)(k:Bool)(R:oG):FH YL f104 [AcY,dB k] (zU a g b h c d e f) [AcY] false R=
 (zJ k
 (∃j:Int,∃i:Int,yQ zV [AcY,.str (⟨#[91]⟩:AcG)] (zU a g b h c d e f) (.tup []) (zU a j b i c d e f)/\
 ∃l:AcG,yQ xD [AcY] (zU a j b i c d e f) (.str l) (zU a j b i c d e f)/\
 zJ (decide (l=(⟨#[93]⟩:AcG)))
 (∃m:Int,∃n:Int,yQ zV [AcY,.str (⟨#[93]⟩:AcG)] (zU a j b i c d e f) (.tup []) (zU a m b n c d e f)/\
 R (dB false) (zU a m b n c d e f))
 (R (dB (decide (i=0))) (zU a j b i c d e f)))
 (∃o:AcG,yQ xD [AcY] (zU a g b h c d e f) (.str o) (zU a g b h c d e f)/\
 zJ (decide (o=(⟨#[44]⟩:AcG)))
 (∃p:Int,∃q:Int,yQ zV [AcY,.str (⟨#[44]⟩:AcG)] (zU a g b h c d e f) (.tup []) (zU a p b q c d e f)/\
 R (dB true) (zU a p b q c d e f))
 (∃r:Int,∃s:Int,yQ zV [AcY,.str (⟨#[93]⟩:AcG)] (zU a g b h c d e f) (.tup []) (zU a r b s c d e f)/\
 R (dB false) (zU a r b s c d e f)))):=by kernel_rfl
theorem Zr(a:AcR)(b c d e f:Int)(g:AcP)(h:AcQ)(i:Bool):nW YL f104 yH [AcY,dB i] (zU a b c d e f g h) [AcY] false:=mJ func104 (by kernel_rfl) ntmps104 rfl
def Xs:wG:= {own:=[2,3],live:=[],n:=17,first:=true}
theorem Rx(a:AcR)(g b h c d:Int)(e:AcP)(f:AcQ)(R:oG):FH Xs f105 [AcY] (zU a g b h c d e f) [AcY] false R=
 (∃i:Int,∃j:Int,∃k:Int,yQ xT [AcY] (zU a g b h c d e f) (dI k) (zU a i b j c d e f)/\
 ∃l:Int,∃m:Int,∃n:Int,yQ tQ [AcY,.sl .str ([(⟨#[60,61]⟩:AcG),(⟨#[62,61]⟩:AcG),(⟨#[61,61]⟩:AcG),(⟨#[33,61]⟩:AcG)])] (zU a i b j c d e f) (dI n) (zU a l b m c d e f)/\
 ∃o:Int,∃p:Int,∃q:Int,yQ xH [AcY] (zU a l b m c d e f) (dI q) (zU a o b p c d e f)/\
 R (.agg [dI k,dI (yF (1+n)),dI q]) (zU a o b p c d e f)):=by kernel_rfl
theorem SK(a:AcR)(b c d e f:Int)(g:AcP)(h:AcQ):nW Xs f105 sE [AcY] (zU a b c d e f g h) [AcY] false:=mJ func105 (by kernel_rfl) ntmps105 rfl
def tE:wG:= {own:=[],live:=[(1,([1,3,4,5,6,7],[]))],n:=164}
def lU(a:zF)(R:yL)(b:Nat)(c:Int):Prop:=LP tE f114 [1,1,1,0,1,0,1,1,1,1,1,1,1,0,0,1,0,0] 1 b ⟨[(1,.iptr (nX a []) 0),(3,dI (a.vars.length:Int)),(4,dI (a.consts.length:Int)),(5,dI (a.rows.length:Int)),(6,dI (a.lits.length:Int)),(7,dI c)],[]⟩ (zH 1 (sK tE f114 [1,1,1,0,1,0,1,1,1,1,1,1,1,0,1] 0 (zH 0 (sK tE f114 [1,1,1,1] 0 (eK f114 R)))))
def SL(a:zF)(R:yL)(b:Nat)(c:Int):Prop:=LP tE f114 [1,1,1,0,1,0,1,1,1,1,1,1,1,0,0,1,0,0] 1 b ⟨[(1,.iptr (nX a []) 0),(3,dI (a.vars.length:Int)),(4,dI (a.consts.length:Int)),(5,dI (a.rows.length:Int)),(6,dI (a.lits.length:Int)),(7,dI c)],[]⟩ (zH 1 (sK tE f114 [1,1,1,0,1,0,1,1,1,1,1,1,1,0,1] 0 (zH 0 (sK tE f114 [1,1,1,1] 0 (eK f114 R)))))
theorem Zs(a:zF)(R:yL)(c:Nat)(b:Int):lU a R (c+1) b=
 (zJ (decide (b<(a.rows.length:Int)))
 (xM b a.rows.length=true/\
 zJ (!decide (((zW (.list .int) a.rows b.toNat).length:Int)=(a.vars.length:Int)))
 (R (dB false))
 (lU a R c (yF (b+1))))
 (zJ (decide (1<=(a.vars.length:Int)))
 (zJ (decide ((a.consts.length:Int)=0))
 (R (dB (decide ((a.lits.length:Int)=0))))
 (R (dB false)))
 (R (dB false)))):=by kernel_rfl
theorem QM(a:zF)(R:yL):FD tE f114 [dC a] R=
 (zJ (decide (3<a.kind))
 (zJ (!decide (a.n=0))
 (R (dB false))
 (zJ (decide (a.kind=1))
 (zJ (decide (1<=(a.vars.length:Int)))
 (zJ (decide ((a.consts.length:Int)=(a.vars.length:Int)))
 (zJ (decide ((a.rows.length:Int)=0))
 (R (dB (decide ((a.lits.length:Int)=0))))
 (R (dB false)))
 (R (dB false)))
 (R (dB false)))
 (zJ (decide (a.kind=2))
 (zJ (decide (1<=(a.vars.length:Int)))
 (zJ (decide ((a.consts.length:Int)=(a.vars.length:Int)))
 (zJ (decide ((a.rows.length:Int)=0))
 (R (dB (decide ((a.lits.length:Int)=0))))
 (R (dB false)))
 (R (dB false)))
 (R (dB false)))
 (zJ (decide (a.kind=3))
 (zJ (decide (1<=(a.vars.length:Int)))
 (zJ (decide ((a.consts.length:Int)=(a.vars.length:Int)))
 (zJ (decide ((a.rows.length:Int)=0))
 (R (dB (decide ((a.lits.length:Int)=0))))
 (R (dB false)))
 (R (dB false)))
 (R (dB false)))
 (zJ (decide (a.kind=4))
 (zJ (decide (1<=(a.vars.length:Int)))
 (zJ (decide ((a.consts.length:Int)=0))
 (zJ (decide ((a.rows.length:Int)=0))
 (R (dB (decide ((a.lits.length:Int)=0))))
 (R (dB false)))
 (R (dB false)))
 (R (dB false)))
 (zJ (decide (a.kind=5))
 (zJ (decide ((a.vars.length:Int)=2))
 (zJ (decide (1<=(a.consts.length:Int)))
 (zJ (decide ((a.rows.length:Int)=0))
 (R (dB (decide ((a.lits.length:Int)=0))))
 (R (dB false)))
 (R (dB false)))
 (R (dB false)))
 (zJ (decide (a.kind=6))
 (∃n1,lU a R n1 0)
 (zJ (decide (a.kind=7))
 (zJ (decide ((a.vars.length:Int)=3))
 (zJ (decide ((a.consts.length:Int)=0))
 (zJ (decide ((a.rows.length:Int)=0))
 (R (dB (decide ((a.lits.length:Int)=0))))
 (R (dB false)))
 (R (dB false)))
 (R (dB false)))
 (zJ (decide (a.kind=8))
 (zJ (decide (2<=(a.vars.length:Int)))
 (zJ (decide ((a.consts.length:Int)=0))
 (zJ (decide ((a.rows.length:Int)=0))
 (R (dB (decide ((a.lits.length:Int)=0))))
 (R (dB false)))
 (R (dB false)))
 (R (dB false)))
 (zJ (decide (a.kind=9))
 (zJ (decide ((a.vars.length:Int)=0))
 (zJ (decide ((a.consts.length:Int)=0))
 (R (dB (decide ((a.rows.length:Int)=0))))
 (R (dB false)))
 (R (dB false)))
 (zJ (decide ((a.vars.length:Int)=1))
 (zJ (decide ((a.consts.length:Int)=0))
 (zJ (decide ((a.rows.length:Int)=0))
 (R (dB (decide ((a.lits.length:Int)=1))))
 (R (dB false)))
 (R (dB false)))
 (R (dB false)))))))))))))
 (zJ (decide (a.kind=1))
 (zJ (decide (1<=(a.vars.length:Int)))
 (zJ (decide ((a.consts.length:Int)=(a.vars.length:Int)))
 (zJ (decide ((a.rows.length:Int)=0))
 (R (dB (decide ((a.lits.length:Int)=0))))
 (R (dB false)))
 (R (dB false)))
 (R (dB false)))
 (zJ (decide (a.kind=2))
 (zJ (decide (1<=(a.vars.length:Int)))
 (zJ (decide ((a.consts.length:Int)=(a.vars.length:Int)))
 (zJ (decide ((a.rows.length:Int)=0))
 (R (dB (decide ((a.lits.length:Int)=0))))
 (R (dB false)))
 (R (dB false)))
 (R (dB false)))
 (zJ (decide (a.kind=3))
 (zJ (decide (1<=(a.vars.length:Int)))
 (zJ (decide ((a.consts.length:Int)=(a.vars.length:Int)))
 (zJ (decide ((a.rows.length:Int)=0))
 (R (dB (decide ((a.lits.length:Int)=0))))
 (R (dB false)))
 (R (dB false)))
 (R (dB false)))
 (zJ (decide (a.kind=4))
 (zJ (decide (1<=(a.vars.length:Int)))
 (zJ (decide ((a.consts.length:Int)=0))
 (zJ (decide ((a.rows.length:Int)=0))
 (R (dB (decide ((a.lits.length:Int)=0))))
 (R (dB false)))
 (R (dB false)))
 (R (dB false)))
 (zJ (decide (a.kind=5))
 (zJ (decide ((a.vars.length:Int)=2))
 (zJ (decide (1<=(a.consts.length:Int)))
 (zJ (decide ((a.rows.length:Int)=0))
 (R (dB (decide ((a.lits.length:Int)=0))))
 (R (dB false)))
 (R (dB false)))
 (R (dB false)))
 (zJ (decide (a.kind=6))
 (∃n1_2,SL a R n1_2 0)
 (zJ (decide (a.kind=7))
 (zJ (decide ((a.vars.length:Int)=3))
 (zJ (decide ((a.consts.length:Int)=0))
 (zJ (decide ((a.rows.length:Int)=0))
 (R (dB (decide ((a.lits.length:Int)=0))))
 (R (dB false)))
 (R (dB false)))
 (R (dB false)))
 (zJ (decide (a.kind=8))
 (zJ (decide (2<=(a.vars.length:Int)))
 (zJ (decide ((a.consts.length:Int)=0))
 (zJ (decide ((a.rows.length:Int)=0))
 (R (dB (decide ((a.lits.length:Int)=0))))
 (R (dB false)))
 (R (dB false)))
 (R (dB false)))
 (zJ (decide (a.kind=9))
 (zJ (decide ((a.vars.length:Int)=0))
 (zJ (decide ((a.consts.length:Int)=0))
 (R (dB (decide ((a.rows.length:Int)=0))))
 (R (dB false)))
 (R (dB false)))
 (zJ (decide ((a.vars.length:Int)=1))
 (zJ (decide ((a.consts.length:Int)=0))
 (zJ (decide ((a.rows.length:Int)=0))
 (R (dB (decide ((a.lits.length:Int)=1))))
 (R (dB false)))
 (R (dB false)))
 (R (dB false))))))))))))):=by kernel_rfl
theorem Ry(a:zF):xZ tE f114 kV [dC a]:=wA func114 (by kernel_rfl) ntmps114 rfl
def VM:wG:= {own:=[],live:=[],n:=5}
theorem Nk(a:Int)(R:yL):FD VM f115 [dI a] R=
 (yM xI [dI a,dI (-1000),dI 1000] .bool λb=>
 R (dB b)):=by kernel_rfl
theorem P5(a:Int):xZ VM f115 qL [dI a]:=wA func115 (by kernel_rfl) ntmps115 rfl
def Vf:wG:= {own:=[],live:=[],n:=21}
theorem P6(b:zG)(a:zC)(R:yL):FD Vf f116 [dM b,dL a] R=
 (yM xI [dI a.var,dI 0,dI (yF ((b.vars.length:Int)-1))] .bool λc=>
 zJ (!c)
 (R (dI 5))
 (yM xI [dI a.op,dI 1,dI 4] .bool λd=>
 zJ (!d)
 (R (dI 7))
 (yM qL [dI a.n] .bool λe=>
 zJ (!e)
 (R (dI 3))
 (R (dI 0))))):=by kernel_rfl
theorem QO(a:zG)(b:zC):xZ Vf f116 pK [dM a,dL b]:=wA func116 (by kernel_rfl) ntmps116 rfl
def VN:wG:= {own:=[],live:=[],n:=15}
theorem Nl(a:zG)(b:Int)(c:AcM)(R:yL):FD VN f121 [dM a,dI b,.sl .lit c] R=
 (yM mY [dM a] (.list (.list .int)) λd=>
 yM kK [dS d,.sl .lit c] (.list (.list .int)) λe=>
 yM rQ [dM a,dI b,dS e] (.list (.list .int)) λf=>
 yM xL [dS f] .bool λg=>
 R (dB g)):=by kernel_rfl
theorem P7(a:zG)(b:Int)(c:AcM):xZ VN f121 gM [dM a,dI b,.sl .lit c]:=wA func121 (by kernel_rfl) ntmps121 rfl
def Vg:wG:= {own:=[],live:=[],n:=15}
theorem P8(a:zG)(b:AcN)(c:AcM)(R:yL):FD Vg f122 [dM a,.sl (.list .lit) b,.sl .lit c] R=
 (yM mY [dM a] (.list (.list .int)) λd=>
 yM kK [dS d,.sl .lit c] (.list (.list .int)) λe=>
 yM cY [dM a,dS e,dB false,.sl (.list .lit) b] (.list (.list .int)) λf=>
 yM xL [dS f] .bool λg=>
 R (dB g)):=by kernel_rfl
theorem QP(a:zG)(b:AcN)(c:AcM):xZ Vg f122 nU [dM a,.sl (.list .lit) b,.sl .lit c]:=wA func122 (by kernel_rfl) ntmps122 rfl
section
open Go.RowKit
set_option maxRecDepth 100000
theorem aF{xs:AcQ}{g:AcH}{rs:Option AcW}{cap:AcO}{p:zF->Bool}(he:Xk g)(hp:∀x∈xs,tJ g (dC x::cap) (.bool (p x))):tJ tF [.sl .con xs,.clo g rs cap] (.int .i64 (MW p xs 0)):=
 VA.clo (pre:=[_]) (bU _ _ _ λok=>by
  rw[aZ];refine Ab (t:=.con) (p:=p) (R:=λd=>d=.int .i64 (MW p xs 0)) (cW (t:=.con) (MD ok)) rfl (λn k h h1 h2=> ?_) λn hR=> ?_
  ·rw[oP,zY h,zT h]
   exact⟨zE h,he,zI (hp _ (AS h)) (zA h1 h2)⟩
  ·rw[oP,zS];exact hR)
theorem Wn{xs:AcK}{g:AcH}{rs:Option AcW}{cap:AcO}{p:Int->Bool}(he:Xk g)(hp:∀x∈xs,tJ g (dI x::cap) (.bool (p x))):tJ pA [.sl .int xs,.clo g rs cap] (.int .i64 (MW p xs 0)):=
 VA.clo (pre:=[_]) (Wl _ _ _ λok=>by
  rw[Va];refine Ab (t:=.int) (p:=p) (R:=λd=>d=.int .i64 (MW p xs 0)) (cW (t:=.int) (MD ok)) rfl (λn k h h1 h2=> ?_) λn hR=> ?_
  ·rw[iG,zY h,zT h]
   exact⟨zE h,he,zI (hp _ (AS h)) (zA h1 h2)⟩
  ·rw[iG,zS];exact hR)
theorem aG{xs:AcP}{g:AcH}{rs:Option AcW}{cap:AcO}{p:zQ->Bool}(he:Xk g)(hp:∀x∈xs,tJ g (dV x::cap) (.bool (p x))):tJ tH [.sl .var xs,.clo g rs cap] (.int .i64 (MW p xs 0)):=
 VA.clo (pre:=[_]) (bV _ _ _ λok=>by
  rw[Zd];refine Ab (t:=.var) (p:=p) (R:=λd=>d=.int .i64 (MW p xs 0)) (cW (t:=.var) (MD ok)) rfl (λn k h h1 h2=> ?_) λn hR=> ?_
  ·rw[oQ,zY h,zT h]
   exact⟨zE h,he,zI (hp _ (AS h)) (zA h1 h2)⟩
  ·rw[oQ,zS];exact hR)
theorem aH{xs:AcM}{g:AcH}{rs:Option AcW}{cap:AcO}{p:zC->Bool}(he:Xk g)(hp:∀x∈xs,tJ g (dL x::cap) (.bool (p x))):tJ tI [.sl .lit xs,.clo g rs cap] (.int .i64 (MW p xs 0)):=
 VA.clo (pre:=[_]) (bW _ _ _ λok=>by
  rw[Ze];refine Ab (t:=.lit) (p:=p) (R:=λd=>d=.int .i64 (MW p xs 0)) (cW (t:=.lit) (MD ok)) rfl (λn k h h1 h2=> ?_) λn hR=> ?_
  ·rw[oR,zY h,zT h]
   exact⟨zE h,he,zI (hp _ (AS h)) (zA h1 h2)⟩
  ·rw[oR,zS];exact hR)
theorem Y3{xs:AcL}{g:AcH}{rs:Option AcW}{cap:AcO}{p:(AcK)->Bool}(he:Xk g)(hp:∀x∈xs,tJ g (.sl .int x::cap) (.bool (p x))):tJ rK [.sl (.list .int) xs,.clo g rs cap] (.int .i64 (MW p xs 0)):=
 VA.clo (pre:=[_]) (Y1 _ _ _ λok=>by
  rw[Xm];refine Ab (t:=(.list .int)) (p:=p) (R:=λd=>d=.int .i64 (MW p xs 0)) (cW (t:=(.list .int)) (MD ok)) rfl (λn k h h1 h2=> ?_) λn hR=> ?_
  ·rw[kA,zY h,zT h]
   exact⟨zE h,he,zI (hp _ (AS h)) (zA h1 h2)⟩
  ·rw[kA,zS];exact hR)
theorem Yx{xs:AcL}{g:AcH}{rs:Option AcW}{cap:AcO}{p:(AcK)->Bool}(he:Xk g)(hp:∀x∈xs,tJ g (.sl .int x::cap) (.bool (p x))):tJ rB [.sl (.list .int) xs,.clo g rs cap] (.int .i64 (MW p xs 0)):=
 VA.clo (pre:=[_]) (Yw _ _ _ λok=>by
  rw[Y2];refine Ab (t:=(.list .int)) (p:=p) (R:=λd=>d=.int .i64 (MW p xs 0)) (cW (t:=(.list .int)) (MD ok)) rfl (λn k h h1 h2=> ?_) λn hR=> ?_
  ·rw[lA,zY h,zT h]
   exact⟨zE h,he,zI (hp _ (AS h)) (zA h1 h2)⟩
  ·rw[lA,zS];exact hR)
theorem bI{xs:AcM}{g:AcH}{rs:Option AcW}{cap:AcO}{p:zC->Bool}(he:Xk g)(hp:∀x∈xs,tJ g (dL x::cap) (.bool (p x))):tJ tB [.sl .lit xs,.clo g rs cap] (.int .i64 (MW p xs 0)):=
 VA.clo (pre:=[_]) (bH _ _ _ λok=>by
  rw[bX];refine Ab (t:=.lit) (p:=p) (R:=λd=>d=.int .i64 (MW p xs 0)) (cW (t:=.lit) (MD ok)) rfl (λn k h h1 h2=> ?_) λn hR=> ?_
  ·rw[oH,zY h,zT h]
   exact⟨zE h,he,zI (hp _ (AS h)) (zA h1 h2)⟩
  ·rw[oH,zS];exact hR)
theorem qY{xs:AcV}{g:AcH}{rs:Option AcW}{cap:AcO}{p:xP->Bool}(he:Xk g)(hp:∀x∈xs,tJ g (.agg [dI x.v,dI x.times]::cap) (.bool (p x))):tJ wN [.sl .term xs,.clo g rs cap] (.int .i64 (MW p xs 0)):=
 VA.clo (pre:=[_]) (gC _ _ _ λok=>by
  rw[gK];refine Ab (t:=.term) (p:=p) (R:=λd=>d=.int .i64 (MW p xs 0)) (cW (t:=.term) (MD ok)) rfl (λn k h h1 h2=> ?_) λn hR=> ?_
  ·rw[qI,zY h,zT h]
   exact⟨zE h,he,zI (hp _ (AS h)) (zA h1 h2)⟩
  ·rw[qI,zS];exact hR)
theorem U0{xs:AcK}{a:Int}:tJ nK [.sl .int xs,dI a] (.int .i64 (MW (λx=>decide (a=x)) xs 0)):=
 US _ _ λok=>by
  rw[TB];refine Ab (t:=.int) (p:=λx=>decide (a=x)) (R:=λd=>d=.int .i64 (MW (λx=>decide (a=x)) xs 0)) (cW (t:=.int) (MD ok)) rfl (λn k h h1 h2=> ?_) λn hR=> ?_
  ·rw[eV,zY h,zT h]
   exact⟨zE h,zA h1 h2⟩
  ·rw[eV,zS];exact hR
theorem eY{xs:AcQ}{g:AcH}{rs:Option AcW}{cap:AcO}{p:zF->Bool}(he:Xk g)(hp:∀x∈xs,tJ g (dC x::cap) (.bool (p x))):tJ uR [.sl .con xs,.clo g rs cap] (.bool (xs.any p)):=
 VA.clo (pre:=[_]) (eO _ _ _ λok=>by
  rw[cF];refine zI (aF he hp) ?_;rw[fI _ _ (Aav 0)])
theorem sO{xs:AcK}{g:AcH}{rs:Option AcW}{cap:AcO}{p:Int->Bool}(he:Xk g)(hp:∀x∈xs,tJ g (dI x::cap) (.bool (p x))):tJ vD [.sl .int xs,.clo g rs cap] (.bool (xs.any p)):=
 VA.clo (pre:=[_]) (YZ _ _ _ λok=>by
  rw[Xl];refine zI (Wn he hp) ?_;rw[fI _ _ (Aav 0)])
theorem eZ{xs:AcP}{g:AcH}{rs:Option AcW}{cap:AcO}{p:zQ->Bool}(he:Xk g)(hp:∀x∈xs,tJ g (dV x::cap) (.bool (p x))):tJ uS [.sl .var xs,.clo g rs cap] (.bool (xs.any p)):=
 VA.clo (pre:=[_]) (eP _ _ _ λok=>by
  rw[cG];refine zI (aG he hp) ?_;rw[fI _ _ (Aav 0)])
theorem oI{xs:AcM}{g:AcH}{rs:Option AcW}{cap:AcO}{p:zC->Bool}(he:Xk g)(hp:∀x∈xs,tJ g (dL x::cap) (.bool (p x))):tJ wI [.sl .lit xs,.clo g rs cap] (.bool (xs.any p)):=
 VA.clo (pre:=[_]) (eQ _ _ _ λok=>by
  rw[cH];refine zI (aH he hp) ?_;rw[fI _ _ (Aav 0)])
theorem qM{xs:AcL}{g:AcH}{rs:Option AcW}{cap:AcO}{p:(AcK)->Bool}(he:Xk g)(hp:∀x∈xs,tJ g (.sl .int x::cap) (.bool (p x))):tJ yO [.sl (.list .int) xs,.clo g rs cap] (.bool (xs.any p)):=
 VA.clo (pre:=[_]) (Zx _ _ _ λok=>by
  rw[ZO];refine zI (Y3 he hp) ?_;rw[fI _ _ (Aav 0)])
theorem Zf{xs:AcL}{g:AcH}{rs:Option AcW}{cap:AcO}{p:(AcK)->Bool}(he:Xk g)(hp:∀x∈xs,tJ g (.sl .int x::cap) (.bool (p x))):tJ tX [.sl (.list .int) xs,.clo g rs cap] (.bool (xs.any p)):=
 VA.clo (pre:=[_]) (Zc _ _ _ λok=>by
  rw[Zy];refine zI (Yx he hp) ?_;rw[fI _ _ (Aav 0)])
theorem om{xs:AcM}{g:AcH}{rs:Option AcW}{cap:AcO}{p:zC->Bool}(he:Xk g)(hp:∀x∈xs,tJ g (dL x::cap) (.bool (p x))):tJ vH [.sl .lit xs,.clo g rs cap] (.bool (xs.any p)):=
 VA.clo (pre:=[_]) (fS _ _ _ λok=>by
  rw[eS];refine zI (bI he hp) ?_;rw[fI _ _ (Aav 0)])
theorem sB{xs:AcK}{a:Int}:tJ vJ [.sl .int xs,dI a] (.bool (xs.any λx=>decide (a=x))):=
 Vb _ _ λok=>by
  rw[VC];refine zI (U0 (a:=a)) ?_;rw[fI _ _ (Aav 0)]
theorem JT:Xk Yc:=λargs w=>call119 args w
theorem HX:Xk Xd:=λargs w=>call163 args w
theorem Po:Xk ZL:=λargs w=>call164 args w
theorem Pp:Xk nI:=λargs w=>call165 args w
theorem Ef:Xk WD:=λargs w=>call168 args w
theorem Eg:Xk WE:=λargs w=>call170 args w
theorem HY:Xk pZ:=λargs w=>call177 args w
theorem HZ:Xk Xe:=λargs w=>call180 args w
theorem U1:Xk nJ:=λargs w=>call191 args w
theorem JU:Xk Yd:=λargs w=>call204 args w
theorem H1:Xk nV:=λargs w=>call224 args w
theorem Nm:Xk fP:=λargs w=>call239 args w
theorem QQ:Xk iF:=λargs w=>call241 args w
theorem H3:Xk oa:=λargs w=>call246 args w
theorem H4:Xk gZ:=λargs w=>call253 args w
theorem KB:Xk aW:=λargs w=>call254 args w
theorem H5:Xk Xh:=λargs w=>call255 args w
theorem Cf:Xk aX:=λargs w=>call256 args w
theorem JV:Xk xN:=λargs w=>call282 args w
theorem La:Xk oc:=λargs w=>call285 args w
theorem P9:Xk gN:=λargs w=>call287 args w
theorem Oa:Xk gO:=λargs w=>call288 args w
theorem Lb:Xk od:=λargs w=>call289 args w
theorem Aq:Xk T2:=λargs w=>call293 args w
theorem KC:Xk aY:=λargs w=>call310 args w
end
section
open Go.RowKit
end
section
open Go.RowKit
theorem JW{P:AcJ}{f:AcH}{s:AcG}{b:Bool}(h:s.size<=140737488355328->∀w,Calls P f #[.string s] w λe w'=>e=.returned (.bool b)/\Below w.heap.size w w'):VA P f [.str s] (.bool b):=by
 intro w S vs hS hl hv _;obtain⟨e0,hz⟩:=(hv 0 _ rfl).str_inv
 have e:vs= #[.string s]:=by
  have hl:vs.size=1:=hl;apply Array.ext
  ·simpa using hl
  ·intro i h1 h2
   have:i=0:=by omega
   subst this;simpa[Aae,h1]using e0
 subst e;exact(h hz w).mono λe w' ⟨he,hb⟩=>⟨_,he,.bool b,hb⟩
theorem LS(s:AcG):tJ V5 [.str s] (.bool (zD s)):=JW λ_ w=>zkA s w
theorem lE(s:AcG):tJ kJ [.str s] (.bool (zD s)):=JW λhz w=>zfV s w hz
end
section
open Go.RowKit
theorem oJ(n a b:Int):tJ sL [dI n,dI a,dI b] (dB (jP n a b)):=
 Hy n a b λok=>by rw[F5];(repeat'(refine zA (λ_=> ?_) (λ_=> ?_)))<;>simp_all[jP]<;>omega
theorem wO(n a b:Int):tJ xI [dI n,dI a,dI b] (dB (jP n a b)):=
 PZ n a b λok=>by rw[Ni];(repeat'(refine zA (λ_=> ?_) (λ_=> ?_)))<;>simp_all[jP]<;>omega
theorem iQ(n:Int):tJ qL [dI n] (dB (jP n (-1000) 1000)):=
 P5 n λok=>by rw[Nk];exact zI (wO _ _ _) rfl
theorem Xt(n:Int):tJ nI [dI n] (dB (farB n)):=
 F8 n λok=>by rw[D9];exact zI (oJ _ _ _) rfl
theorem Nn(n:Int)(m:zG)(h:m.vars.length<=9223372036854775807):tJ ZL [dI n,.iptr [.sl .var m.vars,.sl .con m.cons,.int .i64 m.goal,.int .i64 m.var] 0] (dB (qV m.vars.length n)):=
 F7 n m λok=>by
  rw[D8,wL (by omega) (by omega)];exact zI (oJ _ _ _) rfl
theorem Cg(l:zC){g:AcH}{cap:AcO}{b:Bool}(he:Xk g)(h:tJ g (dI l.var::cap) (dB b)):tJ WD [dL l,.iptr [.clo g none cap] 0] (dB b):=
 VA.iclo (pre:=[_]) (F9 l g cap λok=>by rw[Cb];exact⟨he,zI h rfl⟩)
theorem Ch(l:AcK){g:AcH}{cap:AcO}{p:Int->Bool}(he:Xk g)(h:∀x∈l,tJ g (dI x::cap) (dB (p x))):tJ WE [.sl .int l,.iptr [.clo g none cap] 0] (dB (l.any p)):=
 VA.iclo (pre:=[_]) (Ea l g cap λok=>by rw[Cc];exact zI (sO he h) rfl)
theorem Eh(l:AcK)(c:zF):tJ nV [.sl .int l,.iptr [.int .i64 c.kind,.sl .int c.vars,.sl .int c.consts,.int .i64 c.n,.sl (.list .int) c.rows,.sl .lit c.lits] 0] (dB (!decide (l.length=c.vars.length))):=
 HW l c λok=>by rw[Ee];congr 2;exact decide_eq_decide.2 (by omega)
theorem Np(a b:Int):tJ Wj [dI a,dI b] (dB (decide (b= -1)||decide (a=b))):=
 zck a b λok=>by rw[zdL];(repeat'(refine zA (λ_=> ?_) (λ_=> ?_)))<;>simp_all
def T7(c:zF):Int×Int×Int×Int×Int:=
 if c.kind=1\/c.kind=2\/c.kind=3 then(1,4,c.vars.length,0,0)else if c.kind=4 then(1,4,0,0,0)else if c.kind=5 then(2,2,-1,0,0)
 else if c.kind=6 then(1,4,0,-1,0)else if c.kind=7 then(3,3,0,0,0)else if c.kind=8 then(2,4,0,0,0)else if c.kind=9 then(0,0,0,0,-1)else(1,1,0,0,1)
theorem zdM(c:zF):tJ Ql [dC c] (TS (.pr .int (.pr .int (.pr .int (.pr .int .int)))) (T7 c)):=
 zcj c λok=>by
  rw[zdK];unfold T7
  (repeat'(refine zA (λ_=> ?_) (λ_=> ?_)))<;>simp_all<;>rfl
def isB(a b:Int):Bool:=decide (b= -1)||decide (a=b)
def JX(c:zF):Bool:=
 jP c.vars.length (T7 c).1 (T7 c).2.1&&isB c.consts.length (T7 c).2.2.1&&isB c.rows.length (T7 c).2.2.2.1&&isB c.lits.length (T7 c).2.2.2.2&&
 !(decide (c.kind=5)&&decide ((c.consts.length:Int)=0))&& !(decide (3<c.kind)&& !decide (c.n=0))&& !(c.rows.any λr=> !decide (r.length=c.vars.length))
theorem Ar(c:zF):tJ V6 [dC c] (dB (JX c)):=
 Ca c λok=>by
  rw[Am];refine zI (zdM c) (zI (oJ _ _ _) (zA (λe1=> ?_) λe1=>zI (Np _ _) (zA (λe2=> ?_) λe2=>zI (Np _ _) (zA (λe3=> ?_) λe3=>zI (Np _ _) (zA (λe4=> ?_) λe4=> ?_)))))
  all_goals try simp only[Bool.not_eq_eq_eq_not,Abq,AbY]at*
  ·simp only[JX,isB,e1,AaY]
  ·simp only[JX,isB,e2,AaY,Abi]
  ·simp only[JX,isB,e3,AaY,Abi]
  ·simp only[JX,isB,e4,AaY,Abi]
  have hr:tJ yO [.sl (.list .int) c.rows,.clo nV none [.iptr [.int .i64 c.kind,.sl .int c.vars,.sl .int c.consts,.int .i64 c.n,.sl (.list .int) c.rows,.sl .lit c.lits] 0]] (dB (c.rows.any λr=> !decide (r.length=c.vars.length))):=qM H1 λx _=>Eh x c
  (repeat'(refine zA (λ_=> ?_) (λ_=> ?_)))
  all_goals first|(refine zI hr ?_;simp only[JX,isB, *,AaV,AbK,Abq,AbY,Abi,AaY];done)|(simp only[JX,isB, *,AaV,AbK,Abq,AbY,Abi,AaY];done)
theorem zkF(c:zF)(h1:1<=c.kind)(h2:c.kind<=10)(h3:c.vars.length<=4):JX c=bP c:=by
 have hk:c.kind=1\/c.kind=2\/c.kind=3\/c.kind=4\/c.kind=5\/c.kind=6\/c.kind=7\/c.kind=8\/c.kind=9\/c.kind=10:=by omega
 have ha:(c.rows.any λr=> !decide (r.length=c.vars.length))= !(c.rows.all λr=>decide (r.length=c.vars.length)):=by
  rw[AcD,Bool.not_not]
 have hq:c.rows.length=0->(c.rows.all λr=>decide (r.length=c.vars.length))=true:=λh=>by rw[AaS.1 h];rfl
 unfold JX bP T7;rw[ha]
 dsimp only
 revert hq;generalize(c.rows.all λr=>decide (r.length=c.vars.length))=q
 generalize c.vars.length=v at*
 generalize c.consts.length=k;generalize c.rows.length=rr;generalize c.lits.length=l;rcases hk with h|h|h|h|h|h|h|h|h|h<;>simp only[h,isB,jP]<;>rw[Aap]<;>intro hq<;>cases q<;>simp_all<;>first|omega|(rw[Aap];simp;omega)
theorem zcl{nv:Nat}{c:zF}(h:jP c.kind 1 10=false):Wh nv c=7:=by rw[Wh,As h]
theorem zfX{nv:Nat}{c:zF}(h1:¬jP c.kind 1 10=false)(h:TZ c=true):Wh nv c=2:=by rw[Wh,An h1,As h]
theorem zfY{nv:Nat}{c:zF}(h1:¬jP c.kind 1 10=false)(h2:¬TZ c=true)(h:bP c=false):Wh nv c=1:=by rw[Wh,An h1,An h2,As h]
theorem Ci{nv:Nat}{c:zF}(h1:¬jP c.kind 1 10=false)(h2:¬TZ c=true)(h3:¬bP c=false)(h:(c.vars.any (qV nv)||c.lits.any λl=>qV nv l.var)=true):Wh nv c=5:=by rw[Wh,An h1,An h2,An h3,As h]
theorem KD{nv:Nat}{c:zF}(h1:¬jP c.kind 1 10=false)(h2:¬TZ c=true)(h3:¬bP c=false)(h4:¬(c.vars.any (qV nv)||c.lits.any λl=>qV nv l.var)=true)(h:(c.consts.any farB||farB c.n||c.rows.any λr=>r.any farB)=true):Wh nv c=3:=by rw[Wh,An h1,An h2,An h3,An h4,As h]
theorem zfZ{nv:Nat}{c:zF}(h1:¬jP c.kind 1 10=false)(h2:¬TZ c=true)(h3:¬bP c=false)(h4:¬(c.vars.any (qV nv)||c.lits.any λl=>qV nv l.var)=true)(h5:¬(c.consts.any farB||farB c.n||c.rows.any λr=>r.any farB)=true):Wh nv c=wB (λ_ l=>opE l) 0 c.lits:=by rw[Wh,An h1,An h2,An h3,An h4,An h5]
theorem uM{a b:Int}(h:b=a):D.int .i64 a=dI b:=by rw[h]
theorem zcm(m:zG)(c:zF)(hm:m.vars.length<=6):tJ T0 [dM m,dC c] (dI (Wh m.vars.length c)):=
 Ak m c λok=>by
  have hm':m.vars.length<=9223372036854775807:=by omega
  rw[zcg];refine zA (λe=> ?_) λe1=>zA (λe=> ?_) λe2=> ?_
  ·exact uM (zcl (qR.2 (.inl (By e))))
  ·exact uM (zcl (qR.2 (.inr (By e))))
  simp at e1 e2
  have k1:¬jP c.kind 1 10=false:=by rw[qR];omega
  refine zA (λe=> ?_) λe3=>zA (λe=> ?_) λe4=>zA (λe=> ?_) λe5=>zA (λe=> ?_) λe6=> ?_
  iterate 4 (exact uM (zfX k1 (by simp at e;simp[TZ];omega)))
  simp at e3 e4 e5 e6
  have k2:¬TZ c=true:=by simp[TZ];omega
  refine zI (Ar c) ?_;rw[zkF c e1 e2 (by omega)]
  refine zA (λe=> ?_) λe=> ?_
  ·exact uM (zfY k1 k2 (by simpa using e))
  have k3:¬bP c=false:=by simpa using e
  refine zI (sO (p:=qV m.vars.length) Po λx _=>Nn x m hm') (zA (λe=> ?_) λe7=> ?_)
  ·exact uM (Ci k1 k2 k3 (by rw[e];rfl))
  refine zI (oI (p:=λl=>qV m.vars.length l.var) Ef λx _=>Cg x Po (Nn x.var m hm')) (zA (λe=> ?_) λe8=> ?_)
  ·exact uM (Ci k1 k2 k3 (by rw[e,AbA]))
  have k4:¬(c.vars.any (qV m.vars.length)||c.lits.any λl=>qV m.vars.length l.var)=true:=by rw[e7,e8];decide
  refine zI (sO (p:=farB) Pp λx _=>Xt x) (zA (λe=> ?_) λe9=> ?_)
  ·exact uM (KD k1 k2 k3 k4 (by rw[e];rfl))
  refine zI (Xt _) (zA (λe=> ?_) λe10=> ?_)
  ·exact uM (KD k1 k2 k3 k4 (by rw[e,AbA];rfl))
  refine zI (qM (p:=λr=>r.any farB) Eg λx _=>Ch x Pp λn _=>Xt n) (zA (λe=> ?_) λe11=> ?_)
  ·exact uM (KD k1 k2 k3 k4 (by rw[e,AbA]))
  have k5:¬(c.consts.any farB||farB c.n||c.rows.any λr=>r.any farB)=true:=by rw[e9,e10,e11];decide
  rw[zfZ k1 k2 k3 k4 k5];refine Ac (I:=λn v=>Ua c _ n v) c.lits (λ_ l=>opE l) (by omega) (X:=λx=>D.int .i64 x=dI (wB (λ_ l=>opE l) 0 c.lits)) (Y:=D.int .i64 0=dI (wB (λ_ l=>opE l) 0 c.lits)) (λ_=>rfl) (λe=>uM e) (λn k h _ hX hn=> ?_) λn hY=> ?_
  ·rw[Pm,zY h,zT (t:=.lit) h]
   unfold opE at hX hn
   refine⟨zE h,zA (λe=> ?_) λe1=>zA (λe=> ?_) λe2=>zI (Xt _) (zA (λe=> ?_) λe=> ?_)⟩
   ·have i:jP c.lits[k].op 1 4=false:=qR.2 (.inl (By e))
    rw[As i]at hX;exact hX (by decide)
   ·have i:jP c.lits[k].op 1 4=false:=qR.2 (.inr (By e))
    rw[As i]at hX;exact hX (by decide)
   ·have i:¬jP c.lits[k].op 1 4=false:=by rw[qR];simp at e1 e2;omega
    rw[An i,As e]at hX;exact hX (by decide)
   ·have i:¬jP c.lits[k].op 1 4=false:=by rw[qR];simp at e1 e2;omega
    rw[An i,An (by rw[e];decide)]at hn;exact hn rfl
  ·rw[Pm,zS];exact hY
end
section
open Go.RowKit
theorem Ei(u v:zQ):tJ Xd [dV u,.iptr [.str v.name,.int .i64 v.lo,.int .i64 v.hi] 0] (dB (u.name.toList==v.name.toList)):=
 HH u v λok=>by rw[F6,R5]
def JY(v:zQ):Int:=if(!jP v.lo (-50) 50|| !jP v.hi (-50) 50||decide (v.hi<v.lo))=true then 3 else if 6<=v.hi-v.lo then 2 else 0
theorem zkG{a:AcP}{v:zQ}(h:zD v.name=false):DV a v=1:=by rw[DV,As h]
theorem zkH{a:AcP}{v:zQ}(h1:¬zD v.name=false)(h:(a.any λu=>u.name.toList==v.name.toList)=true):DV a v=6:=by rw[DV,An h1,As h]
theorem zkI{a:AcP}{v:zQ}(h1:¬zD v.name=false)(h2:¬(a.any λu=>u.name.toList==v.name.toList)=true):DV a v=JY v:=by rw[DV,An h1,An h2];rfl
theorem zkJ{v:zQ}(h:(!jP v.lo (-50) 50)=true):JY v=3:=by rw[JY,h];rfl
theorem zkK{v:zQ}(h:(!jP v.hi (-50) 50)=true):JY v=3:=by rw[JY,h,AbA];rfl
theorem zkL{v:zQ}(h:decide (v.hi<v.lo)=true):JY v=3:=by rw[JY,h,AbA];rfl
theorem zkM{v:zQ}(h1:(!jP v.lo (-50) 50)=false)(h2:(!jP v.hi (-50) 50)=false)(h3:decide (v.hi<v.lo)=false):JY v=if 6<=v.hi-v.lo then 2 else 0:=by rw[JY,h1,h2,h3];rfl
theorem Au(l:AcP):tJ V2 [.sl .var l] (dI (S5 l)):=
 D6 l λok=>by
  rw[Aj];refine Ac (I:=λn v=>WK l _ n v) l (λi v=>DV (l.take i) v) (cW (t:=.var) (MD ok)) (X:=λx=>D.int .i64 x=dI (S5 l)) (Y:=D.int .i64 0=dI (S5 l)) (λ_=>rfl) (λe=>uM e) (λn k h _ hX hn=> ?_) λn hY=> ?_
  ·rw[Rg,zY h,zT (t:=.var) h]
   refine⟨zE h,zI (LS _) (zA (λe=> ?_) λe=> ?_)⟩
   ·rw[zkG (by simpa using e)]at hX;exact hX (by decide)
   have k1:¬zD l[k].name=false:=by simpa using e
   refine⟨by unfold Js;simp;omega,?_⟩
   rw[show((l.take (k:Int).toNat).drop 0)=l.take k by rw[Aab,Aa4]]
   refine zI (eZ (p:=λu=>u.name.toList==l[k].name.toList) HX λx _=>Ei x _) (zA (λe=> ?_) λe=> ?_)
   ·rw[zkH k1 e]at hX;exact hX (by decide)
   rw[zkI k1 (by rw[e];decide)]at hX hn
   refine zI (oJ _ _ _) (zA (λe=> ?_) λe1=>zI (oJ _ _ _) (zA (λe=> ?_) λe2=>(zA (λe=> ?_) λe3=> ?_)))
   ·rw[zkJ e]at hX;exact hX (by decide)
   ·rw[zkK e]at hX;exact hX (by decide)
   ·rw[zkL e]at hX;exact hX (by decide)
   rw[zkM e1 e2 e3]at hX hn
   simp[jP]at e1 e2
   rw[wL (by omega) (by omega)]
   refine zA (λe=> ?_) λe=> ?_
   ·rw[As (By e)]at hX;exact hX (by decide)
   ·exact hn (An (Aaa e))
  ·rw[Rg,zS];exact hY
theorem zdN{m:zG}(h:m.vars.length=0):xE m=1:=by rw[xE,As h]
theorem JZ{m:zG}(h1:¬m.vars.length=0)(h:6<m.vars.length\/8<m.cons.length):xE m=2:=by rw[xE,An h1,As h]
theorem zdO{m:zG}(h1:¬m.vars.length=0)(h2:¬(6<m.vars.length\/8<m.cons.length))(h:S5 m.vars≠0):xE m=S5 m.vars:=by rw[xE,An h1,An h2,As h]
theorem zdP{m:zG}(h1:¬m.vars.length=0)(h2:¬(6<m.vars.length\/8<m.cons.length))(h3:¬S5 m.vars≠0)(h:wB (λ_ c=>Wh m.vars.length c) 0 m.cons≠0):xE m=wB (λ_ c=>Wh m.vars.length c) 0 m.cons:=by rw[xE,An h1,An h2,An h3,As h]
theorem zdQ{m:zG}(h1:¬m.vars.length=0)(h2:¬(6<m.vars.length\/8<m.cons.length))(h3:¬S5 m.vars≠0)(h:¬wB (λ_ c=>Wh m.vars.length c) 0 m.cons≠0):xE m=UM m:=by rw[xE,An h1,An h2,An h3,An h]
theorem zcn{m:zG}(h:jP m.goal 0 2=false):UM m=7:=by rw[UM,As h]
theorem zhz{m:zG}(h1:¬jP m.goal 0 2=false)(h:m.goal=0)(h2:m.var≠0):UM m=1:=by rw[UM,An h1,As ⟨h,h2⟩]
theorem zhA{m:zG}(h1:¬jP m.goal 0 2=false)(h:m.goal=0)(h2:¬m.var≠0):UM m=0:=by rw[UM,An h1,An (λx=>h2 x.2),An (λx=>x.1 h)]
theorem zhB{m:zG}(h1:¬jP m.goal 0 2=false)(h:¬m.goal=0)(h2:qV m.vars.length m.var=true):UM m=5:=by rw[UM,An h1,An (λx=>h x.1),As ⟨h,h2⟩]
theorem zhC{m:zG}(h1:¬jP m.goal 0 2=false)(h:¬m.goal=0)(h2:¬qV m.vars.length m.var=true):UM m=0:=by rw[UM,An h1,An (λx=>h x.1),An (λx=>h2 x.2)]
theorem Xu(m:zG):tJ gA [dM m] (dI (xE m)):=
 F3 m λok=>by
  rw[D3];refine zA (λe=> ?_) λe1=>zA (λe=> ?_) λe2=>zA (λe=> ?_) λe3=> ?_
  ·exact uM (zdN (by simp at e;simp[e]))
  ·simp at e1 e;exact uM (JZ (by simp[e1]) (.inl (by omega)))
  ·simp at e1 e;exact uM (JZ (by simp[e1]) (.inr (by omega)))
  simp at e1 e2 e3
  have k1:¬m.vars.length=0:=by simp[e1]
  have k2:¬(6<m.vars.length\/8<m.cons.length):=by omega
  refine zI (Au _) (zA (λe=> ?_) λe=> ?_)
  ·exact uM (zdO k1 k2 (oO e))
  have k3:¬S5 m.vars≠0:=not_not_intro (qS e);refine Ac (I:=λn v=>Xn m _ n v) m.cons (λ_ c=>Wh m.vars.length c) (by omega) (X:=λx=>D.int .i64 x=dI (xE m)) (Y:=D.int .i64 (UM m)=dI (xE m)) (λh=>uM (zdP k1 k2 k3 h)) (λe=>uM (zdQ k1 k2 k3 (not_not_intro e))) (λn k h _ hX hn=> ?_) λn hY=> ?_
  ·rw[T4,zY h,zT (t:=.con) h]
   exact⟨zE h,zI (zcm m _ (by omega)) (zA (λe=>hX (oO e)) λe=>hn (qS e))⟩
  ·rw[T4,zS,<-hY]
   rw[wL (by omega) (by omega)]
   refine zA (λe=> ?_) λe1=>zA (λe=> ?_) λe2=> ?_
   ·rw[zcn (qR.2 (.inl (By e)))]
   ·rw[zcn (qR.2 (.inr (By e)))]
   have k4:¬jP m.goal 0 2=false:=by rw[qR];simp at e1 e2;omega
   refine zA (λe=>zA (λf=> ?_) λf=> ?_) λe=> ?_
   ·rw[zhz k4 (by simpa using e) (by simpa using f)]
   ·have e':m.goal=0:=by simpa using e
    rw[e'];rw[zhA k4 e' (by simpa using f)];exact rfl
   ·have e':¬m.goal=0:=by simpa using e
    rw[e];refine zI (oJ _ _ _) (zA (λf=> ?_) λf=> ?_)
    ·rw[zhB k4 e' f]
    ·rw[zhC k4 e' (by show¬(!jP _ _ _)=true;rw[f];decide)]
end
section
open Go.RowKit
theorem X0(m:zG)(l:zC)(hm:m.vars.length<=1000):tJ pK [dM m,dL l] (dI (gX m.vars.length l)):=
 QO m l λok=>by
  rw[P6,wL (by omega) (by omega)]
  refine zI (wO _ _ _) (zA (λe=> ?_) λe1=>zI (wO _ _ _) (zA (λe=> ?_) λe2=>zI (iQ _) (zA (λe=> ?_) λe3=> ?_)))
  ·exact uM (by rw[gX,As (show qV m.vars.length l.var=true from e)])
  ·have h1:¬qV m.vars.length l.var=true:=by show¬(!jP _ _ _)=true;rw[e1];decide
   exact uM (by rw[gX,An h1,As (by simpa using e)])
  all_goals
   have h1:¬qV m.vars.length l.var=true:=by show¬(!jP _ _ _)=true;rw[e1];decide
   have h2:¬jP l.op 1 4=false:=by simpa using e2
  ·exact uM (by rw[gX,An h1,An h2,As (show farB l.n=true from e)])
  ·exact uM (by rw[gX,An h1,An h2,An (by show¬(!jP _ _ _)=true;rw[e3];decide)])
theorem Av(c:zF)(h:c.kind=6)(hn:c.n=0)(b:Bool)(hb:(c.rows.all λr=>decide (r.length=c.vars.length))=b):bP c=(b&&decide (1<=c.vars.length)&&decide (c.consts.length=0)&&decide (c.lits.length=0)):=by
 simp[bP,h,hn,hb]
theorem QR(c:zF)(h1:1<=c.kind)(h2:c.kind<=10):tJ kV [dC c] (dB (bP c)):=
 Ry c λok=>by
  have okr:c.rows.length<=9223372036854775807:=zkE (t:=.list .int) (okA (i:=4) (MD ok) rfl);rw[QM];have hk:c.kind=1\/c.kind=2\/c.kind=3\/c.kind=4\/c.kind=5\/c.kind=6\/c.kind=7\/c.kind=8\/c.kind=9\/c.kind=10:=by omega
  rcases hk with h|h|h|h|h|h|h|h|h|h
  case inr.inr.inr.inr.inr.inl=>
   simp only[h,Int.reduceLT,Int.reduceEq,decide_true,decide_false,DU,Hs];refine zA (λe=> ?_) λe=> ?_
   ·simp at e;simp[bP,h,e]
   have e:c.n=0:=by simpa using e
   refine Hv (I:=λn v=>lU c _ n v) c.rows (λr=> !decide ((r.length:Int)=(c.vars.length:Int))) okr (X:=D.bool false=dB (bP c)) (Y:=zJ (decide (1<=(c.vars.length:Int))) (zJ (decide ((c.consts.length:Int)=0)) (D.bool (decide ((c.lits.length:Int)=0))=dB (bP c)) (D.bool false=dB (bP c))) (D.bool false=dB (bP c))) ?_ (λn k hk hX hn=> ?_) λn hY=> ?_
   ·have ha:(c.rows.all λr=>decide (r.length=c.vars.length))= !(c.rows.any λr=> !decide ((r.length:Int)=(c.vars.length:Int))):=by
     rw[AcD];congr 2;funext r;congr 1;exact decide_eq_decide.2 (by omega)
    rw[Av c h e _ ha];refine zA (λe=> ?_) λe=> ?_
    ·rw[e];rfl
    ·rw[e];(repeat'(refine zA (λ_=> ?_) (λ_=> ?_)))<;>simp_all<;>omega
   ·rw[Zs,zY hk,zT (t:=.list .int) hk]
    exact⟨zE hk,zA hX hn⟩
   ·rw[Zs,zS];exact hY
  all_goals
   simp only[h,Int.reduceLT,Int.reduceEq,decide_true,decide_false,DU,Hs]
   (repeat'(refine zA (λ_=> ?_) (λ_=> ?_)))<;>simp_all[bP]<;>first|omega|(rw[Aap];simp;omega)
theorem zhD{nv:Nat}{l:zC}(h:qV nv l.var=false):gX nv l=opE l:=by rw[gX,An (by rw[h];decide)];rfl
theorem zaz{α:Type}{p:α->Bool}{l:List α}(h:l.any p=false){k:Nat}(hk:k<l.length):p l[k]=false:=by
 rw[AaA]at h
 simpa using h _ (AS hk)
theorem Ob(m:zG)(c:zF)(hm:m.vars.length<=6):tJ iA [dM m,dC c] (dI (Wh m.vars.length c)):=
 QE m c λok=>by
  have hm':m.vars.length<=9223372036854775807:=by omega
  have okr:c.rows.length<=9223372036854775807:=zkE (t:=.list .int) (okA (i:=4) (MD (okR ok)) rfl);have okr2:∀k (h:k<c.rows.length),c.rows[k].length<=9223372036854775807:=λk h=>cW (t:=.int) ((aU (t:=.list .int) (okA (i:=4) (MD (okR ok)) rfl)).2 _ (AS h))
  rw[P0];refine zI (wO _ _ _) (zA (λe=> ?_) λe1=> ?_)
  ·exact uM (zcl (by simpa using e))
  have k1:¬jP c.kind 1 10=false:=by simpa using e1
  obtain⟨h1,h2⟩:1<=c.kind/\c.kind<=10:=by simpa[jP]using e1
  refine zA (λe=> ?_) λe3=>zA (λe=> ?_) λe4=>zA (λe=> ?_) λe5=>zA (λe=> ?_) λe6=> ?_
  iterate 4 (exact uM (zfX k1 (by simp at e;simp[TZ];omega)))
  simp at e3 e4 e5 e6
  have k2:¬TZ c=true:=by simp[TZ];omega
  refine zI (QR c h1 h2) (zA (λe=> ?_) λe=> ?_)
  ·exact uM (zfY k1 k2 (by simpa using e))
  have k3:¬bP c=false:=by simpa using e
  refine zdG (I:=λn v=>jF m c _ n v) c.vars (qV m.vars.length) (by omega) (X:=D.int .i64 5=dI (Wh m.vars.length c)) (λe=>uM (Ci k1 k2 k3 (by rw[e];rfl))) (λn k h hX hn=> ?_) λe7 n=> ?_
  ·rw[ZX,zY h,zT (t:=.int) h,wL (by omega) (by omega)]
   exact⟨zE h,zI (wO _ _ _) (zA hX hn)⟩
  rw[ZX,zS];refine zdG (I:=λn v=>jE m c _ n v) c.lits (λl=>qV m.vars.length l.var) (by omega) (X:=D.int .i64 5=dI (Wh m.vars.length c)) (λe=>uM (Ci k1 k2 k3 (by rw[e,AbA]))) (λn k h hX hn=> ?_) λe8 n=> ?_
  ·rw[ZW,zY h,zT (t:=.lit) h,wL (by omega) (by omega)]
   exact⟨zE h,zI (wO _ _ _) (zA hX hn)⟩
  rw[ZW,zS];have k4:¬(c.vars.any (qV m.vars.length)||c.lits.any λl=>qV m.vars.length l.var)=true:=by rw[e7,e8];decide
  refine zdG (I:=λn v=>jD m c _ n v) c.consts farB (by omega) (X:=D.int .i64 3=dI (Wh m.vars.length c)) (λe=>uM (KD k1 k2 k3 k4 (by rw[e];rfl))) (λn k h hX hn=> ?_) λe9 n=> ?_
  ·rw[ZV,zY h,zT (t:=.int) h]
   exact⟨zE h,zI (iQ _) (zA hX hn)⟩
  rw[ZV,zS];refine zI (iQ _) (zA (λe=> ?_) λe10=> ?_)
  ·exact uM (KD k1 k2 k3 k4 (by rw[show farB c.n=true from e,AbA];rfl))
  refine zdG (I:=λn v=>jC m c _ n v) c.rows (λr=>r.any farB) okr (X:=D.int .i64 3=dI (Wh m.vars.length c)) (λe=>uM (KD k1 k2 k3 k4 (by rw[e,AbA]))) (λn k h hX hn=> ?_) λe11 n=> ?_
  ·rw[ZU,zY h]
   refine zdG (I:=λn2 v=>jB m c _ n k n2 v) c.rows[k] farB (okr2 k h) hX (λn2 j hj hX2 hn2=> ?_) λe n2=> ?_
   ·rw[ZT,zT (t:=.list .int) h,zY hj,zT (t:=.int) hj]
    exact⟨zE h,zE h,zE hj,zI (iQ _) (zA hX2 hn2)⟩
   ·rw[ZT,zT (t:=.list .int) h,zS]
    exact⟨zE h,hn e⟩
  rw[ZU,zS];have k5:¬(c.consts.any farB||farB c.n||c.rows.any λr=>r.any farB)=true:=by rw[e9,e11,show farB c.n=false from e10];decide
  rw[zfZ k1 k2 k3 k4 k5];refine Ac (I:=λn v=>lS m c _ n v) c.lits (λ_ l=>opE l) (by omega) (X:=λx=>D.int .i64 x=dI (wB (λ_ l=>opE l) 0 c.lits)) (Y:=D.int .i64 0=dI (wB (λ_ l=>opE l) 0 c.lits)) (λ_=>rfl) (λe=>uM e) (λn k h _ hX hn=> ?_) λn hY=> ?_
  ·rw[Zq,zY h,zT (t:=.lit) h]
   have:=X0 m c.lits[k] (by omega)
   rw[zhD (zaz e8 h)]at this
   exact⟨zE h,zI this (zA (λe=>hX (oO e)) λe=>hn (qS e))⟩
  ·rw[Zq,zS];exact hY
theorem fb(m:zG):tJ vN [dM m] (dI (xE m)):=
 Sy m λok=>by
  rw[Rq];refine zA (λe=> ?_) λe1=>zA (λe=> ?_) λe2=>zA (λe=> ?_) λe3=> ?_
  ·exact uM (zdN (by simp at e;simp[e]))
  ·simp at e1 e;exact uM (JZ (by simp[e1]) (.inl (by omega)))
  ·simp at e1 e;exact uM (JZ (by simp[e1]) (.inr (by omega)))
  simp at e1 e2 e3
  have k1:¬m.vars.length=0:=by simp[e1]
  have k2:¬(6<m.vars.length\/8<m.cons.length):=by omega
  refine zml (I:=λn v=>mN m _ n v) m.vars (λi v=>DV (m.vars.take i) v) (by omega) (X:=λx=>D.int .i64 x=dI (xE m)) (λh=>uM (zdO k1 k2 h)) (λn k h _ hX hn=> ?_) λe n=> ?_
  ·rw[aC,zY h,zT (t:=.var) h]
   refine⟨zE h,zI (lE _) (zA (λe=> ?_) λe=> ?_)⟩
   ·rw[zkG (by simpa using e)]at hX;exact hX (by decide)
   have k3:¬zD m.vars[k].name=false:=by simpa using e
   have hl:(m.vars.take k).length=k:=by rw[Aaf];omega
   refine zdG (I:=λn2 v=>mL m _ n k n2 v) (m.vars.take k) (λu=>u.name.toList==m.vars[k].name.toList) (by omega) (X:=D.int .i64 6=dI (xE m)) (λe=> ?_) (λn2 j hj hX2 hn2=> ?_) λe n2=> ?_
   ·rw[zkH k3 e]at hX;exact hX (by decide)
   ·rw[hl]at hj
    rw[aA,zY hj,zT (t:=.var) h,zT (t:=.var) (show j<m.vars.length by omega),<-R5]
    rw[List.getElem_take]at hX2 hn2
    exact⟨zE (by omega),zA hX2 hn2⟩
   rw[hl,aA,zS,zT (t:=.var) h];rw[zkI k3 (by rw[e];decide)]at hX hn
   refine zI (wO _ _ _) (zA (λe=> ?_) λe1=>zI (wO _ _ _) (zA (λe=> ?_) λe2=>(zA (λe=> ?_) λe3=> ?_)))
   ·rw[zkJ e]at hX;exact hX (by decide)
   ·rw[zkK e]at hX;exact hX (by decide)
   ·rw[zkL e]at hX;exact hX (by decide)
   rw[zkM e1 e2 e3]at hX hn
   simp[jP]at e1 e2
   rw[wL (n:=m.vars[k].hi-m.vars[k].lo) (by omega) (by omega),wL (n:=_+1) (by omega) (by omega)]
   refine zA (λe=> ?_) λe=> ?_
   ·rw[As (by have:=By e;omega)]at hX;exact hX (by decide)
   ·exact hn (An (by have:=Aaa e;omega))
  rw[aC,zS];have k3:¬S5 m.vars≠0:=not_not_intro e;refine zml (I:=λn v=>mM m _ n v) m.cons (λ_ c=>Wh m.vars.length c) (by omega) (X:=λx=>D.int .i64 x=dI (xE m)) (λh=>uM (zdP k1 k2 k3 h)) (λn k h _ hX hn=> ?_) λe n=> ?_
  ·rw[aB,zY h,zT (t:=.con) h]
   exact⟨zE h,zI (Ob m _ (by omega)) (zA (λe=>hX (oO e)) λe=>hn (qS e))⟩
  rw[aB,zS,zdQ k1 k2 k3 (not_not_intro e),wL (by omega) (by omega)]
  refine zI (wO _ _ _) (zA (λe=> ?_) λe=> ?_)
  ·rw[zcn (by simpa using e)]
  have k4:¬jP m.goal 0 2=false:=by simpa using e
  refine zA (λe=>zA (λf=> ?_) λf=> ?_) λe=> ?_
  ·rw[zhz k4 (by simpa using e) (by simpa using f)]
  ·have e':m.goal=0:=by simpa using e
   rw[e'];rw[zhA k4 e' (by simpa using f)];exact rfl
  ·have e':¬m.goal=0:=by simpa using e
   rw[e];refine zI (wO _ _ _) (zA (λf=> ?_) λf=> ?_)
   ·rw[zhB k4 e' f]
   ·rw[zhC k4 e' (by show¬(!jP _ _ _)=true;rw[f];decide)]
end
section
open Go.RowKit
variable {w:World}{S:Nat->Prop}{v:Value}
theorem zkN{s:AcK}(h:Rds w v s):Rp w (λb=>b<w.heap.size) v (.sl .int s):=.sl .int s v h
theorem ziD{s:AcS}(h:Rds w v s):Rp w (λb=>b<w.heap.size) v (.sl .step s):=.sl .step s v h
theorem zmm{s:AcG}(h:s.size<=140737488355328):Rp w S (.string s) (.str s):=.str s h
theorem zmn{P:AcJ}{w:World}(h:Lib.TabIs P w "internal/strconv.uint64pow10" .u64 Lib.pow10Tab):GOk P w λ_=>False:=λg hg=>⟨h,id⟩
theorem VA.calls{P:AcJ}{f:AcH}{args:AcO}{b:Bool}(h:VA P f args (.bool b))(W:World){vl:List Value}(hv:wF (Rp W λb=>b<W.heap.size) vl args)(hg:GOk P W λ_=>False):
  Calls P f vl.toArray W λe W'=>e=.returned (.bool b)/\Below W.heap.size W W':=by
 have h1:=hv.len;have h2:=λi d hd=>hv.at (i:=i) (b:=d) hd
 refine(h W _ vl.toArray (λ_ h=>h) (by simpa using h1) (λi d hd=> ?_) hg).mono λe w' ⟨v,he,hr,hb⟩=> ?_
 ·obtain⟨u,hu,hr⟩:=h2 i d hd
  have:vl.toArray.getD i Go.undef=u:=by simp[Aae,hu]
  rw[this];exact hr
 ·cases hr
  exact⟨he,hb⟩
end
def lV:wG:= {own:=[3,5,6,26,30],live:=[(0,([3,9,10,11],[3])),(2,([3,5,6,7,9,10,11],[3,5,6]))],n:=33}
def WP(a:zG)(R:yL)(c:Nat)(b:Int)(d:Nat)(e:Int)(f:AcL)(g:AcK):Prop:=LP lV f85 [1,1,0,1,0,0,1,1,0,0,1,1,0,1,0,0] 2 d ⟨[(3,.own 3),(5,.ptr 5 0),(6,.own 6),(7,dI e),(9,.sl .var a.vars),(10,dI (a.vars.length:Int)),(11,dI b)],[(3,.row 40 (.list .int) f),(5,.cells [.str ((zW .var a.vars b.toNat).name),dI ((zW .var a.vars b.toNat).lo),dI ((zW .var a.vars b.toNat).hi)]),(6,.row 3 .int g)]⟩ (zH 2 (sK lV f85 [1,1,0,1,0,0,1,1,0,0,1,1,1] 1 (zH 1 (sK lV f85 [1,1,0,1,0,0,1,1,1] 0 (iK lV f85 [1,1,0,1,0,0] 0 c (zH 0 (sK lV f85 [1,1,1] 0 (eK f85 R))))))))
def WQ(a:zG)(R:yL)(b:Nat)(c:Int)(d:AcL):Prop:=LP lV f85 [1,1,0,1,0,0] 0 b ⟨[(3,.own 3),(9,.sl .var a.vars),(10,dI (a.vars.length:Int)),(11,dI c)],[(3,.row 40 (.list .int) d)]⟩ (zH 0 (sK lV f85 [1,1,1] 0 (eK f85 R)))
theorem H6(c:zG)(R:yL)(f:Nat)(d:Int)(g:Nat)(a:Int)(e:AcL)(b:AcK):WP c R f d (g+1) a e b=
 (zJ (decide (a<=((zW .var c.vars d.toNat).hi)))
 (xQ .int (b.length+([a]).length)=true/\
 WP c R f d g (yF (a+1)) e (b++([a])))
 (xQ (.list .int) (e.length+([b]).length)=true/\
 WQ c R f (yF (d+1)) (e++([b])))):=by kernel_rfl
theorem H7(a:zG)(R:yL)(d:Nat)(b:Int)(c:AcL):WQ a R (d+1) b c=
 (zJ (decide (b<(a.vars.length:Int)))
 (xM b a.vars.length=true/\
 ∃n2,WP a R d b n2 ((zW .var a.vars b.toNat).lo) c ([]:AcK))
 (R (dS c))):=by kernel_rfl
theorem Aw(a:zG)(R:yL):FD lV f85 [dM a] R=
 (∃n0,WQ a R n0 0 ([]:AcL)):=by kernel_rfl
theorem Cj(a:zG):xZ lV f85 iC [dM a]:=wA func85 (by kernel_rfl) ntmps85 rfl
def LT:wG:= {own:=[],live:=[],n:=5}
theorem Ck(a:AcL)(R:yL):FD LT Tryz.f137 [dS a] R=
 (yM tX [dS a,.clo Yd none []] .bool λb=>
 R (dB b)):=by kernel_rfl
theorem Ej(a:AcL):xZ LT Tryz.f137 xF [dS a]:=wA func137 (by kernel_rfl) ntmps137 rfl
def lW:wG:= {own:=[5,8,31,36],live:=[(0,([1,5,11,12,13],[5])),(2,([1,5,6,8,11,12,13,18,19,20],[5,8]))],n:=39}
def ZZ(a:AcL)(c:AcH)(d:AcO)(R:yL)(e:Nat)(b:Int)(f:Nat)(g:Int)(h:AcL)(i:AcK):Prop:=LP lW f139 [1,1,0,1,0,0,1,1,0,0,1,1,0,1,0,0] 2 f ⟨[(1,.clo c (some [.bool]) d),(5,.own 5),(6,dI b),(8,.own 8),(11,dS a),(12,dI (a.length:Int)),(13,dI b),(18,.sl .int (zW (.list .int) a b.toNat)),(19,dI ((zW (.list .int) a b.toNat).length:Int)),(20,dI g)],[(5,.row 40 (.list .int) h),(8,.row 3 .int i)]⟩ (zH 2 (sK lW f139 [1,1,0,1,0,0,1,1,0,0,1,1,1] 1 (zH 1 (sK lW f139 [1,1,0,1,0,0,1,1,1] 0 (iK lW f139 [1,1,0,1,0,0] 0 e (zH 0 (sK lW f139 [1,1,1] 0 (eK f139 R))))))))
def WR(a:AcL)(b:AcH)(c:AcO)(R:yL)(d:Nat)(e:Int)(f:AcL):Prop:=LP lW f139 [1,1,0,1,0,0] 0 d ⟨[(1,.clo b (some [.bool]) c),(5,.own 5),(11,dS a),(12,dI (a.length:Int)),(13,dI e)],[(5,.row 40 (.list .int) f)]⟩ (zH 0 (sK lW f139 [1,1,1] 0 (eK f139 R)))
theorem H8(b:AcL)(d:AcH)(f:AcO)(R:yL)(h:Nat)(a:Int)(i:Nat)(c:Int)(g:AcL)(e:AcK):ZZ b d f R h a (i+1) c g e=
 (zJ (decide (c<((zW (.list .int) b a.toNat).length:Int)))
 (xM c (zW (.list .int) b a.toNat).length=true/\
 Xk d/\
 yM d ([dI a,dI (zW .int (zW (.list .int) b a.toNat) c.toNat)]++f) .bool λj=>
 zJ j
 (xQ .int (e.length+([zW .int (zW (.list .int) b a.toNat) c.toNat]).length)=true/\
 ZZ b d f R h a i (yF (c+1)) g (e++([zW .int (zW (.list .int) b a.toNat) c.toNat])))
 (ZZ b d f R h a i (yF (c+1)) g e))
 (xQ (.list .int) (g.length+([e]).length)=true/\
 WR b d f R h (yF (a+1)) (g++([e])))):=by kernel_rfl
theorem H9(a:AcL)(d:AcH)(e:AcO)(R:yL)(f:Nat)(b:Int)(c:AcL):WR a d e R (f+1) b c=
 (zJ (decide (b<(a.length:Int)))
 (xM b a.length=true/\
 ∃n2,ZZ a d e R f b n2 0 c ([]:AcK))
 (R (dS c))):=by kernel_rfl
theorem Ax(a:AcL)(b:AcH)(c:AcO)(R:yL):FD lW f139 [dS a,.clo b (some [.bool]) c] R=
 (∃n0,WR a b c R n0 0 ([]:AcL)):=by kernel_rfl
theorem Cl(a:AcL)(b:AcH)(c:AcO):xZ lW f139 sY [dS a,.clo b (some [.bool]) c]:=wA func139 (by kernel_rfl) ntmps139 rfl
def T9:wG:= {own:=[3,16],live:=[(0,([3,6,7,8],[3]))],n:=19}
def Ud(a:AcL)(R:yL)(b:Nat)(c:Int)(d:AcL):Prop:=LP T9 f199 [1,1,0,1,0,0] 0 b ⟨[(3,.own 3),(6,dS a),(7,dI (a.length:Int)),(8,dI c)],[(3,.row 40 (.list .int) d)]⟩ (zH 0 (sK T9 f199 [1,1,1] 0 (eK f199 R)))
theorem Ek(a:AcL)(R:yL)(e:Nat)(b:Int)(c:AcL):Ud a R (e+1) b c=
 (zJ (decide (b<(a.length:Int)))
 (xM b a.length=true/\
 ∃d:AcK,yQ sP [.sl .int (zW (.list .int) a b.toNat)] [] (.own 3000) [(3000,.row 3 .int d)]/\
 xQ (.list .int) (c.length+([d]).length)=true/\
 Ud a R e (yF (b+1)) (c++([d])))
 (R (dS c))):=by kernel_rfl
theorem zco(a:AcL)(R:yL):FD T9 f199 [dS a] R=
 (∃n0,Ud a R n0 0 ([]:AcL)):=by kernel_rfl
theorem Ay(a:AcL):xZ T9 f199 fy [dS a]:=wA func199 (by kernel_rfl) ntmps199 rfl
def Pq:wG:= {own:=[],live:=[],n:=6}
theorem Ga(a:AcL)(R:yL):FD Pq f201 [dS a] R=
 ((a.length:Int)=(a.length:Int)/\
 0<=(a.length:Int)/\
 xQ (.list .int) ((a.length:Int).toNat)=true/\
 R (dS (List.replicate ((a.length:Int).toNat) (Ty.dflt (.list .int))))):=by kernel_rfl
theorem J0(a:AcL):xZ Pq f201 uT [dS a]:=wA func201 (by kernel_rfl) ntmps201 rfl
def Ps:wG:= {own:=[],live:=[],n:=6}
theorem Gb(a:AcK)(R:yL):FD Ps f204 [.sl .int a] R=
 (R (dB (decide ((a.length:Int)=0)))):=by kernel_rfl
theorem J1(a:AcK):xZ Ps f204 Yd [.sl .int a]:=wA func204 (by kernel_rfl) ntmps204 rfl
def aI:wG:= {own:=[9,12,43],live:=[],n:=78}
theorem Ue(i:AcG)(c:AcK)(d:AcS)(R:yL):FD aI f7 [.str i,.sl .int c,.sl .step d] R=
 (c2Q jU [.str i,.sl .int c,.sl .step d] .bool .int λa e=>
 c3Q gL [.str i] .mdl .int .int λb c4 f=>
 zJ (decide (f=0))
 (zJ (decide (0<(c.length:Int)))
 (yM mI [dM b,.sl .int c] .int λg=>
 zJ (decide (g=0))
 (yM jZ [dM b,.sl .int c] (.list .lit) λh=>
 xQ (.list .lit) (([]:AcN).length+([h]).length)=true/\
 zJ (decide (g=0))
 (yM sD [dM b,.sl (.list .lit) (([]:AcN)++([h])),.sl .step d] .int λj=>
 yM wM [] .bool λn=>
 zJ n
 (zJ (decide (e=j))
 (zJ (decide (j=0))
 (yM uD [dM b,.sl (.list .lit) (([]:AcN)++([h])),.sl .step d] .bool λo=>
 zJ o
 (zJ (decide ((c.length:Int)=0))
 (R (dB (a==true)))
 (yM uE [dM b,.sl .int c] .bool λp=>
 R (dB (a==p))))
 (R (dB (a==false))))
 (R (dB (a==false))))
 (R (dB false)))
 (R (dB false)))
 (yM wM [] .bool λq=>
 zJ q
 (zJ (decide (e=g))
 (zJ (decide (g=0))
 (yM uD [dM b,.sl (.list .lit) (([]:AcN)++([h])),.sl .step d] .bool λr=>
 zJ r
 (zJ (decide ((c.length:Int)=0))
 (R (dB (a==true)))
 (yM uE [dM b,.sl .int c] .bool λs=>
 R (dB (a==s))))
 (R (dB (a==false))))
 (R (dB (a==false))))
 (R (dB false)))
 (R (dB false))))
 (zJ (decide (g=0))
 (yM sD [dM b,.sl (.list .lit) ([]:AcN),.sl .step d] .int λk=>
 yM wM [] .bool λt=>
 zJ t
 (zJ (decide (e=k))
 (zJ (decide (k=0))
 (yM uD [dM b,.sl (.list .lit) ([]:AcN),.sl .step d] .bool λu=>
 zJ u
 (zJ (decide ((c.length:Int)=0))
 (R (dB (a==true)))
 (yM uE [dM b,.sl .int c] .bool λv=>
 R (dB (a==v))))
 (R (dB (a==false))))
 (R (dB (a==false))))
 (R (dB false)))
 (R (dB false)))
 (yM wM [] .bool λw=>
 zJ w
 (zJ (decide (e=g))
 (zJ (decide (g=0))
 (yM uD [dM b,.sl (.list .lit) ([]:AcN),.sl .step d] .bool λx=>
 zJ x
 (zJ (decide ((c.length:Int)=0))
 (R (dB (a==true)))
 (yM uE [dM b,.sl .int c] .bool λy=>
 R (dB (a==y))))
 (R (dB (a==false))))
 (R (dB (a==false))))
 (R (dB false)))
 (R (dB false)))))
 (zJ (decide (f=0))
 (yM sD [dM b,.sl (.list .lit) ([]:AcN),.sl .step d] .int λl=>
 yM wM [] .bool λz=>
 zJ z
 (zJ (decide (e=l))
 (zJ (decide (l=0))
 (yM uD [dM b,.sl (.list .lit) ([]:AcN),.sl .step d] .bool λaa=>
 zJ aa
 (zJ (decide ((c.length:Int)=0))
 (R (dB (a==true)))
 (yM uE [dM b,.sl .int c] .bool λab=>
 R (dB (a==ab))))
 (R (dB (a==false))))
 (R (dB (a==false))))
 (R (dB false)))
 (R (dB false)))
 (yM wM [] .bool λac=>
 zJ ac
 (zJ (decide (e=f))
 (zJ (decide (f=0))
 (yM uD [dM b,.sl (.list .lit) ([]:AcN),.sl .step d] .bool λad=>
 zJ ad
 (zJ (decide ((c.length:Int)=0))
 (R (dB (a==true)))
 (yM uE [dM b,.sl .int c] .bool λae=>
 R (dB (a==ae))))
 (R (dB (a==false))))
 (R (dB (a==false))))
 (R (dB false)))
 (R (dB false)))))
 (zJ (decide (f=0))
 (yM sD [dM b,.sl (.list .lit) ([]:AcN),.sl .step d] .int λm=>
 yM wM [] .bool λaf=>
 zJ af
 (zJ (decide (e=m))
 (zJ (decide (m=0))
 (yM uD [dM b,.sl (.list .lit) ([]:AcN),.sl .step d] .bool λag=>
 zJ ag
 (zJ (decide ((c.length:Int)=0))
 (R (dB (a==true)))
 (yM uE [dM b,.sl .int c] .bool λah=>
 R (dB (a==ah))))
 (R (dB (a==false))))
 (R (dB (a==false))))
 (R (dB false)))
 (R (dB false)))
 (yM wM [] .bool λai=>
 zJ ai
 (zJ (decide (e=f))
 (zJ (decide (f=0))
 (yM uD [dM b,.sl (.list .lit) ([]:AcN),.sl .step d] .bool λaj=>
 zJ aj
 (zJ (decide ((c.length:Int)=0))
 (R (dB (a==true)))
 (yM uE [dM b,.sl .int c] .bool λak=>
 R (dB (a==ak))))
 (R (dB (a==false))))
 (R (dB (a==false))))
 (R (dB false)))
 (R (dB false))))):=by kernel_rfl
theorem VD(a:AcG)(b:AcK)(c:AcS):xZ aI f7 bQ [.str a,.sl .int b,.sl .step c]:=wA func7 (by kernel_rfl) ntmps7 rfl
def YM:wG:= {own:=[3],live:=[],n:=58}
theorem SM(R:yL):FD YM f18 [] R=
 (c2Q Ya [.str (⟨#[118,97,114,32,120,58,32,48,46,46,50,59,10,118,97,114,32,121,58,32,48,46,46,50,59,10,99,111,110,32,108,101,32,91,49,44,32,45,49,93,32,91,120,44,32,121,93,32,45,49,59,10,115,111,108,118,101,32,108,101,97,115,116,32,121,59,10]⟩:AcG),dI 20] .str .int λb c=>
 yM Yb [] .mdl λd=>
 c2Q W8 [dM d,dI 20] .ans .int λa e=>
 c2Q jU [.str (⟨#[118,97,114,32,120,58,32,48,46,46,50,59,10,118,97,114,32,121,58,32,48,46,46,50,59,10,99,111,110,32,108,101,32,91,49,44,32,45,49,93,32,91,120,44,32,121,93,32,45,49,59,10,115,111,108,118,101,32,108,101,97,115,116,32,121,59,10]⟩:AcG),.sl .int a.values,.sl .step a.proof] .bool .int λf g=>
 c2Q jU [.str (⟨#[118,97,114,32,120,58,32,48,46,46,50,59,10,118,97,114,32,121,58,32,48,46,46,50,59,10,99,111,110,32,108,101,32,91,49,44,32,45,49,93,32,91,120,44,32,121,93,32,45,49,59,10,115,111,108,118,101,32,108,101,97,115,116,32,121,59,10]⟩:AcG),.sl .int ([0,2]),.sl .step a.proof] .bool .int λh i=>
 zJ (decide (c=0))
 (zJ (decide (e=0))
 (zJ (decide (g=0))
 (zJ (decide (i=0))
 (zJ (decide (b=(⟨#[98,101,115,116,10,120,32,61,32,48,10,121,32,61,32,49,10]⟩:AcG)))
 (zJ f
 (R (dB (!h)))
 (R (dB false)))
 (R (dB false)))
 (R (dB false)))
 (R (dB false)))
 (R (dB false)))
 (R (dB false))):=by kernel_rfl
theorem TK:xZ YM f18 wM []:=wA func18 (by kernel_rfl) ntmps18 rfl
def YN:wG:= {own:=[],live:=[],n:=56}
theorem SN(a:zG)(b:AcK)(R:yL):FD YN f24 [dM a,.sl .int b] R=
 (yM vN [dM a] .int λc=>
 zJ (decide (c=0))
 (zJ (!decide ((b.length:Int)=(a.vars.length:Int)))
 (zJ (decide ((1:Int)=0))
 (zJ (!decide (a.goal=0))
 (xM a.var b.length=true/\
 xM a.var a.vars.length=true/\
 zJ (decide ((zW .int b a.var.toNat)<((zW .var a.vars a.var.toNat).lo)))
 (R (dI 3))
 (xM a.var b.length=true/\
 xM a.var a.vars.length=true/\
 zJ (decide (((zW .var a.vars a.var.toNat).hi)<(zW .int b a.var.toNat)))
 (R (dI 3))
 (R (dI 1))))
 (R (dI 1)))
 (R (dI 1)))
 (zJ (decide (c=0))
 (zJ (!decide (a.goal=0))
 (xM a.var b.length=true/\
 xM a.var a.vars.length=true/\
 zJ (decide ((zW .int b a.var.toNat)<((zW .var a.vars a.var.toNat).lo)))
 (R (dI 3))
 (xM a.var b.length=true/\
 xM a.var a.vars.length=true/\
 zJ (decide (((zW .var a.vars a.var.toNat).hi)<(zW .int b a.var.toNat)))
 (R (dI 3))
 (R (dI c))))
 (R (dI c)))
 (R (dI c))))
 (zJ (decide (c=0))
 (zJ (!decide (a.goal=0))
 (xM a.var b.length=true/\
 xM a.var a.vars.length=true/\
 zJ (decide ((zW .int b a.var.toNat)<((zW .var a.vars a.var.toNat).lo)))
 (R (dI 3))
 (xM a.var b.length=true/\
 xM a.var a.vars.length=true/\
 zJ (decide (((zW .var a.vars a.var.toNat).hi)<(zW .int b a.var.toNat)))
 (R (dI 3))
 (R (dI c))))
 (R (dI c)))
 (R (dI c)))):=by kernel_rfl
theorem TL(a:zG)(b:AcK):xZ YN f24 mI [dM a,.sl .int b]:=wA func24 (by kernel_rfl) ntmps24 rfl
def Pt:wG:= {own:=[0],live:=[],n:=9}
theorem Gc(R:yL):FD Pt f54 [] R=
 (R (.agg [.sl .var ([(⟨(⟨#[120]⟩:AcG),0,2⟩:zQ),(⟨(⟨#[121]⟩:AcG),0,2⟩:zQ)]),.sl .con ([(⟨1,[0,1],[1,-1],-1,([]:AcL),([]:AcM)⟩:zF)]),dI 1,dI 1])):=by kernel_rfl
theorem J2:xZ Pt f54 Yb []:=wA func54 (by kernel_rfl) ntmps54 rfl
def Fm:wG:= {own:=[],live:=[],n:=35}
theorem zcp(b:zG)(a:zC)(R:yL):FD Fm f188 [dM b,dL a] R=
 (zJ (decide (a.var<0))
 (R (dI 5))
 (zJ (decide ((b.vars.length:Int)<=a.var))
 (R (dI 5))
 (zJ (decide (a.op<1))
 (R (dI 7))
 (zJ (decide (4<a.op))
 (R (dI 7))
 (zJ (decide (a.n<(-1000)))
 (R (dI 3))
 (zJ (decide (1000<a.n))
 (R (dI 3))
 (R (dI 0)))))))):=by kernel_rfl
theorem Az(a:zG)(b:zC):xZ Fm f188 T1 [dM a,dL b]:=wA func188 (by kernel_rfl) ntmps188 rfl
def Nq:wG:= {own:=[2],live:=[],n:=33}
theorem El(a:zC)(R:yL):FD Nq f198 [dL a] R=
 (zJ (decide (a.op=1))
 (R (.agg [dI a.var,dI 2,dI (yF (a.n+1))]))
 (zJ (decide (a.op=2))
 (R (.agg [dI a.var,dI 1,dI (yF (a.n-1))]))
 (zJ (decide (a.op=3))
 (R (.agg [dI a.var,dI 4,dI a.n]))
 (R (.agg [dI a.var,dI 3,dI a.n]))))):=by kernel_rfl
theorem Gd(a:zC):xZ Nq f198 Xf [dL a]:=wA func198 (by kernel_rfl) ntmps198 rfl
def zaA:wG:= {own:=[],live:=[],n:=8}
theorem zf0(b:AcL)(a:zC)(R:yL):FD zaA f249 [dS b,dL a] R=
 (yM sY [dS b,.clo T2 none [.iptr [dI a.var,dI a.op,dI a.n] 0]] (.list (.list .int)) λc=>
 R (dS c)):=by kernel_rfl
theorem zdR(a:AcL)(b:zC):xZ zaA f249 ME [dS a,dL b]:=wA func249 (by kernel_rfl) ntmps249 rfl
def QS:wG:= {own:=[],live:=[(0,([0,3,5,12,13,14],[]))],n:=35}
def Vh(b:AcL)(a:zC)(R:yL)(c:Nat)(d e:Int):Prop:=LP QS f252 [1,1,0,1,0,0] 0 c ⟨[(0,dS b),(3,.iptr [dI a.var,dI a.op,dI a.n] 0),(5,dI d),(12,.sl .int (zW (.list .int) b a.var.toNat)),(13,dI ((zW (.list .int) b a.var.toNat).length:Int)),(14,dI e)],[]⟩ (zH 0 (sK QS f252 [1,1,1] 0 (eK f252 R)))
theorem Cm(b:AcL)(a:zC)(R:yL)(e:Nat)(d c:Int):Vh b a R (e+1) d c=
 (zJ (decide (c<((zW (.list .int) b a.var.toNat).length:Int)))
 (xM c (zW (.list .int) b a.var.toNat).length=true/\
 yM fw [dL a,dI (zW .int (zW (.list .int) b a.var.toNat) c.toNat)] .bool λf=>
 zJ f
 (Vh b a R e (yF (d+1)) (yF (c+1)))
 (Vh b a R e d (yF (c+1))))
 (zJ (decide (d=0))
 (R (dI (-1)))
 (xM a.var b.length=true/\
 zJ (decide (d=((zW (.list .int) b a.var.toNat).length:Int)))
 (R (dI 1))
 (R (dI 0))))):=by kernel_rfl
theorem zdS(a:AcL)(b:zC)(R:yL):FD QS f252 [dS a,dL b] R=
 (xM b.var a.length=true/\
 ∃n0,Vh a b R n0 0 0):=by kernel_rfl
theorem zcq(a:AcL)(b:zC):xZ QS f252 Qm [dS a,dL b]:=wA func252 (by kernel_rfl) ntmps252 rfl
def Fo:wG:= {own:=[],live:=[],n:=15}
theorem zcr(b c:Int)(a:zC)(R:yL):FD Fo f293 [dI b,dI c,.iptr [dI a.var,dI a.op,dI a.n] 0] R=
 (zJ (!decide (b=a.var))
 (R (dB true))
 (yM fw [dL a,dI c] .bool λd=>
 R (dB d))):=by kernel_rfl
theorem AA(b c:Int)(a:zC):xZ Fo f293 T2 [dI b,dI c,.iptr [dI a.var,dI a.op,dI a.n] 0]:=wA func293 (by kernel_rfl) ntmps293 rfl
def Df(lo:Int):Nat->AcK
 |0=>[]
 |n+1=>Df lo n++[lo+n]
theorem Yy(lo:Int):∀n,(Df lo n).length=n
 |0=>rfl
 |n+1=>by rw[Df,It,Yy lo n];rfl
def Vi(v:zQ):AcK:=Df v.lo (v.hi+1-v.lo).toNat
def vC(m:zG):AcL:=m.vars.map Vi
def fX(l:AcK)(n:Int):Bool:=l.any λk=>decide (n=k)
def qO(f:Nat->Int->Bool)(s:AcL):AcL:=s.mapIdx λv l=>l.filter (f v)
def zny(v:zQ)(n:Int):Bool:=decide (n<v.lo)||decide (v.hi<n)
def zmo(m:zG)(s:AcL):Bool:=(s.zip m.vars).any λx=>x.1.any (zny x.2)
def disL(l:AcK):Bool:=(l.zip l.tail).any λx=>decide (x.2<=x.1)
def fY(m:zG)(s:AcL):Int:=
 if s.length≠m.vars.length then 1 else if zmo m s=true then 3 else if s.any disL=true then 4 else 0
def zZ(s:AcL):Bool:=s.any λl=>decide (l.length=0)
def WS(s:AcL):Prop:=okL 24 (okL 8 yY) s
theorem MG{s:AcL}(h:WS s):s.length<=5864062014805:=by have:=h.1;omega
theorem Rz{s:AcL}(h:WS s){k:Nat}(hk:k<s.length):s[k].length<=17592186044416:=by have:=(h.2 _ (AS hk)).1;omega
theorem Cn{lo:Int}{k:Int}(h:lo<=k):Df lo (k+1-lo).toNat=Df lo (k-lo).toNat++[k]:=by
 obtain⟨d,rfl⟩:∃d:Nat,k=lo+d:=⟨(k-lo).toNat,by omega⟩
 rw[show(lo+(d:Int)+1-lo).toNat=d+1 by omega,show(lo+(d:Int)-lo).toNat=d by omega];rfl
theorem AB{m:zG}(hm:∀v∈m.vars,-50<=v.lo/\v.hi<=50)(hl:m.vars.length<=6):tJ iC [dM m] (dS (vC m)):=
 Cj m λok=>by
  rw[Aw];refine up (I:=λn v a=>WQ m _ n v a) 0 m.vars.length rfl (AT _) (by omega) (λk a=>a=(m.vars.take k).map Vi) rfl λn k a _ hk ha hn=> ?_
  subst ha;rw[H7]
  by_cases h:k<m.vars.length
  ·rw[zY h,zT (t:=.var) h]
   have hv:=hm _ (AS h);refine⟨zE h,?_⟩;refine upto (I:=λn v a=>WP m _ _ (k:Int) n v _ a) (m.vars[k]).lo (m.vars[k]).hi (by omega) (by omega) (λj a=>a=Df (m.vars[k]).lo (j-(m.vars[k]).lo).toNat/\j<=max (m.vars[k]).lo ((m.vars[k]).hi+1)) ⟨by rw[Int.sub_self];rfl,by omega⟩ λn2 j a hj hi hn2=> ?_
   obtain⟨rfl,hjm⟩:=hi;rw[H6,zT (t:=.var) h];refine zA (λe=> ?_) λe=> ?_
   ·have e:=By e
    refine⟨yW (t:=.int) ?_,hn2 e _ ⟨(Cn hj).symm,by omega⟩⟩
    rw[Yy];show(_+1)*8<=_
    omega
   ·have e:=Aaa e
    have el:Df (m.vars[k]).lo (j-(m.vars[k]).lo).toNat=Vi m.vars[k]:=by
     rw[Vi]
     by_cases hlh:(m.vars[k]).lo<=(m.vars[k]).hi+1
     ·rw[show j=(m.vars[k]).hi+1 by omega]
     ·rw[show j=(m.vars[k]).lo by omega,show((m.vars[k]).lo-(m.vars[k]).lo).toNat=0 by omega,show((m.vars[k]).hi+1-(m.vars[k]).lo).toNat=0 by omega]
    rw[el];refine⟨yW (t:=.list .int) ?_,hn h _ (OU Vi h).symm⟩;rw[Aag,Aaf];show(_+1)*24<=_
    omega
  ·have hk':k=m.vars.length:=by omega
   subst hk';rw[zS,Aaj];rfl
theorem Vj{m:zG}(hm:∀v∈m.vars,-50<=v.lo/\v.hi<=50)(hl:m.vars.length<=6):tJ mY [dM m] (dS (vC m)):=
 PP m λok=>by
  rw[O7];refine up (I:=λn v a=>iJ m _ n v a) 0 m.vars.length rfl (AT _) (by omega) (λk a=>a=(m.vars.take k).map Vi) rfl λn k a _ hk ha hn=> ?_
  subst ha;rw[Rj]
  by_cases h:k<m.vars.length
  ·rw[zY h,zT (t:=.var) h]
   have hv:=hm _ (AS h);refine⟨zE h,?_⟩;refine upto (I:=λn v a=>iI m _ _ (k:Int) n v _ a) (m.vars[k]).lo (m.vars[k]).hi (by omega) (by omega) (λj a=>a=Df (m.vars[k]).lo (j-(m.vars[k]).lo).toNat/\j<=max (m.vars[k]).lo ((m.vars[k]).hi+1)) ⟨by rw[Int.sub_self];rfl,by omega⟩ λn2 j a hj hi hn2=> ?_
   obtain⟨rfl,hjm⟩:=hi;rw[Ri,zT (t:=.var) h];refine⟨zE h,zA (λe=> ?_) λe=> ?_⟩
   ·have e:=By e
    refine⟨yW (t:=.int) ?_,hn2 e _ ⟨(Cn hj).symm,by omega⟩⟩
    rw[Yy];show(_+1)*8<=_
    omega
   ·have e:=Aaa e
    have el:Df (m.vars[k]).lo (j-(m.vars[k]).lo).toNat=Vi m.vars[k]:=by
     rw[Vi]
     by_cases hlh:(m.vars[k]).lo<=(m.vars[k]).hi+1
     ·rw[show j=(m.vars[k]).hi+1 by omega]
     ·rw[show j=(m.vars[k]).lo by omega,show((m.vars[k]).lo-(m.vars[k]).lo).toNat=0 by omega,show((m.vars[k]).hi+1-(m.vars[k]).lo).toNat=0 by omega]
    rw[el];refine⟨yW (t:=.list .int) ?_,hn h _ (OU Vi h).symm⟩;rw[Aag,Aaf];show(_+1)*24<=_
    omega
  ·have hk':k=m.vars.length:=by omega
   subst hk';rw[zS,Aaj];rfl
theorem Z0{s:AcL}{g:AcH}{rs:Option AcW}{cap:AcO}{f:Nat->Int->Bool}(he:Xk g)
  (hf:∀(v:Nat) (h:v<s.length),∀n∈s[v],tJ g (dI v::dI n::cap) (dB (f v n))):tJ sY [dS s,.clo g rs cap] (dS (qO f s)):=
 VA.clo (pre:=[_]) (Cl s g cap λok=>by
  have hs:WS s:=aU (MD ok);have hsl:=MG hs;rw[Ax];refine up (I:=λn v a=>WR s g cap _ n v a) 0 s.length rfl (AT _) (by omega) (λk a=>a=(s.take k).mapIdx λv l=>l.filter (f v)) rfl λn k a _ hk ha hn=> ?_
  subst ha;rw[H9]
  by_cases h:k<s.length
  ·rw[zY h]
   have hr:=Rz hs h;refine⟨zE h,?_⟩;refine up (I:=λn v a=>ZZ s g cap _ _ (k:Int) n v _ a) 0 s[k].length rfl (AT _) (by omega) (λj a=>a=(s[k].take j).filter (f k)) rfl λn2 j a _ hj hi hn2=> ?_
   subst hi;rw[H8,zT (t:=.list .int) h]
   by_cases hj':j<s[k].length
   ·rw[zY hj',zT (t:=.int) hj']
    refine⟨zE hj',he,zI (hf k h _ (AS hj')) (zA (λe=>⟨yW (t:=.int) ?_,hn2 hj' _ ?_⟩) λe=>hn2 hj' _ ?_)⟩
    ·have:=AaZ (f k) (s[k].take j)
     rw[Aaf]at this
     show(_+1)*8<=_
     omega
    ·rw[oF _ hj',As e]
    ·rw[oF _ hj',An (by rw[e];exact Bool.false_ne_true)]
   ·have hj2:j=s[k].length:=by omega
    subst hj2;rw[zS,Aaj];refine⟨yW (t:=.list .int) ?_,hn h _ (S8 _ h).symm⟩;rw[AbB,Aaf];show(_+1)*24<=_
    omega
  ·have hk':k=s.length:=by omega
   subst hk';rw[zS,Aaj];rfl)
theorem VO(l:AcK)(n:Int):tJ kL [.sl .int l,dI n] (dB (fX l n)):=
 Nb l n λok=>by
  rw[M7];refine Hv (I:=λn0 v=>gS l n _ n0 v) l (λk=>decide (n=k)) (cW (t:=.int) (MD ok)) (X:=dB true=dB (fX l n)) (Y:=dB false=dB (fX l n)) zkD (λi k h h1 h2=> ?_) λi h=> ?_
  ·rw[Xq,zY h,zT (t:=.int) h,show decide (l[k]=n)=decide (n=l[k])from decide_eq_decide.2 eq_comm]
   exact⟨zE h,zA h1 h2⟩
  ·rw[Xq,zS];exact h
theorem Yz{α:Type}{f:Nat->α->Int}{xs:List α}(h:wB f 0 xs=0){j:Nat}(hj:j<xs.length):f j xs[j]=0:=by
 have:=OR xs 0 h j hj
 rwa[Aas]at this
structure Right (m:zG):Prop where
 vars:m.vars.length<=6
 some:m.vars.length≠0
 cons:m.cons.length<=8
 var:∀v∈m.vars,-50<=v.lo/\v.hi<=50/\v.lo<=v.hi/\v.hi-v.lo<6
 con:∀c∈m.cons,Wh m.vars.length c=0
 goal:UM m=0
theorem pR{m:zG}(h:xE m=0):Right m:=by
 unfold xE at h
 split at h
 ·exact At h (by decide)
 rename_i h1;split at h
 ·exact At h (by decide)
 rename_i h2;split at h
 ·rename_i h3;exact At h h3
 rename_i h3;split at h
 ·rename_i h4;exact At h h4
 rename_i h4;have h3:=Decidable.not_not.1 h3;have h4:=Decidable.not_not.1 h4;refine⟨by omega,h1,by omega,λv hv=> ?_,λc hc=> ?_,h⟩
 ·obtain⟨i,hi,rfl⟩:=Aal hv
  have e:=Yz h3 hi;unfold DV at e
  split at e
  ·exact At e (by decide)
  split at e
  ·exact At e (by decide)
  split at e
  ·exact At e (by decide)
  split at e
  ·exact At e (by decide)
  rename_i h5 h6;simp[jP]at h5
  omega
 ·obtain⟨i,hi,rfl⟩:=Aal hc
  exact Yz h4 hi
theorem zkO{m:zG}{s:AcL}(h1:¬s.length≠m.vars.length)(h2:¬zmo m s=true)(h:¬s.any disL=true):fY m s=0:=by rw[fY,An h1,An h2,An h]
theorem Co{m:zG}{s:AcL}(h:fY m s=0):s.length=m.vars.length:=by
 unfold fY at h
 split at h
 ·exact At h (by decide)
 ·omega
def VE(m:zG)(ss:List AcL):Int:=if xE m≠0 then xE m else wB (λ_ s=>fY m s) 0 ss
theorem zkP{m:zG}{ss:List AcL}(h:xE m≠0):VE m ss=xE m:=As h
theorem zdT{m:zG}{ss:List AcL}(h:¬xE m≠0):VE m ss=wB (λ_ s=>fY m s) 0 ss:=An h
theorem Cp{α:Type}{f:Nat->α->Int}{a:α}{i:Nat}:wB f i [a]=f i a:=by
 unfold wB;split
 ·rename_i h;rw[h];rfl
 ·rfl
theorem Right.lohi{m:zG}(h:Right m):∀v∈m.vars,-50<=v.lo/\v.hi<=50:=λv hv=>by have:=h.var v hv;omega
def orS(e:Int)(s:AcL):AcL:=if e=0 then s else[]
def orB(e:Int)(b:Bool):Bool:=if e=0 then b else false
theorem yI{α:Type}{t:List α}{k:Nat}(d:α)(h:k<t.length):t.getD k d=t[k]:=by rw[Aam,Aac h];rfl
theorem zob{l:AcK}:decide ((l.length:Int)=0)=decide (l.length=0):=decide_eq_decide.2 (by omega)
theorem Ge(l:AcK):tJ Yd [.sl .int l] (dB (decide (l.length=0))):=
 J1 l λok=>by rw[Gb,zob]
theorem vU(s:AcL):tJ xF [dS s] (dB (zZ s)):=
 Ej s λok=>by rw[Ck];exact zI (Zf JU λx _=>Ge x) rfl
theorem wY(s:AcL):tJ xL [dS s] (dB (zZ s)):=
 Rh s λok=>by
  rw[Qo];refine Hv (I:=λn v=>lQ s _ n v) s (λl=>decide (l.length=0)) (cW (t:=.list .int) (MD ok)) (X:=dB true=dB (zZ s)) (Y:=dB false=dB (zZ s)) zkD (λn k h hX hn=> ?_) λn hY=> ?_
  ·rw[Zo,zY h,zT (t:=.list .int) h,zob]
   exact⟨zE h,zA hX hn⟩
  ·rw[Zo,zS];exact hY
theorem Nr{α:Type}[DecidableEq α]:∀(a b:List α),a.length=b.length->((a.zip b).any λx=> !decide (x.1=x.2))= !decide (a=b)
 |[],[],_=>rfl
 |[],_::_,h=>by simp at h
 |_::_,[],h=>by simp at h
 |x::a,y::b,h=>by
  rw[AbZ,Aa3,Nr a b (by simpa using h)]
  by_cases h1:x=y<;>by_cases h2:a=b<;>simp[h1,h2]
theorem X1(a b:AcK):tJ nS [.sl .int a,.sl .int b] (dB (decide (a=b))):=
 QC a b λok=>by
  have hl:a.length<=9223372036854775807:=cW (t:=.int) (MD ok);rw[PX];refine zA (λe=> ?_) λe=> ?_
  ·rw[Aah (p:=a=b) λh=>by subst h;simp at e]
  have e:a.length=b.length:=by simp at e;omega
  have hz:(a.zip b).length=a.length:=by rw[AaC];omega
  refine Hv (I:=λn v=>kZ a b _ n v) (a.zip b) (λx=> !decide (x.1=x.2)) (by omega) (X:=dB false=dB (decide (a=b))) (Y:=dB true=dB (decide (a=b))) (by rw[Nr a b e];cases decide (a=b)<;>rfl) (λn k h hX hn=> ?_) λn hY=> ?_
  ·have hk:k<a.length:=by omega
   rw[AaM]at hX hn
   rw[ZR,zY hk,zT (t:=.int) hk,zT (t:=.int) (show k<b.length by omega)]
   exact⟨zE hk,zE (by omega),zA hX hn⟩
  ·rw[hz,ZR,zS];exact hY
theorem Xv(a b:AcL):tJ sV [dS a,dS b] (dB (decide (a=b))):=
 Ro a b λok=>by
  have hl:a.length<=9223372036854775807:=cW (t:=.list .int) (MD ok);rw[Qz];refine zA (λe=> ?_) λe=> ?_
  ·rw[Aah (p:=a=b) λh=>by subst h;simp at e]
  have e:a.length=b.length:=by simp at e;omega
  have hz:(a.zip b).length=a.length:=by rw[AaC];omega
  refine Hv (I:=λn v=>lR a b _ n v) (a.zip b) (λx=> !decide (x.1=x.2)) (by omega) (X:=dB false=dB (decide (a=b))) (Y:=dB true=dB (decide (a=b))) (by rw[Nr a b e];cases decide (a=b)<;>rfl) (λn k h hX hn=> ?_) λn hY=> ?_
  ·have hk:k<a.length:=by omega
   rw[AaM]at hX hn
   rw[Zp,zY hk,zT (t:=.list .int) hk,zT (t:=.list .int) (show k<b.length by omega)]
   exact⟨zE hk,zE (by omega),zI (X1 _ _) (zA hX hn)⟩
  ·rw[hz,Zp,zS];exact hY
def uU:zG:=⟨[⟨⟨#[120]⟩,0,2⟩,⟨⟨#[121]⟩,0,2⟩],[⟨1,[0,1],[1,-1],-1,[],[]⟩],1,1⟩
def isS(a:AcL)(e1 e2:Int)(b:AcL):Bool:=decide (e1=e2)&&decide (a=orS e2 b)
theorem zdU{m:zG}{ss:List AcL}(h:VE m ss=0):xE m=0:=by
 by_cases h1:xE m=0
 ·exact h1
 ·rw[zkP h1]at h;exact At h h1
theorem dt{p:Prop}[Decidable p]{X Y:Prop}(h:p)(hx:X):zJ (decide p) X Y:=by rw[Or h];exact hx
theorem df{p:Prop}[Decidable p]{X Y:Prop}(h:¬p)(hy:Y):zJ (decide p) X Y:=by rw[Aah h];exact hy
theorem LU{p:Prop}[Decidable p]{X Y:Prop}(h:¬p)(hx:X):zJ (!decide p) X Y:=by rw[Aah h];exact hx
theorem dnf{p:Prop}[Decidable p]{X Y:Prop}(h:p)(hy:Y):zJ (!decide p) X Y:=by rw[Or h];exact hy
theorem znz{b:Bool}{e:Int}(h:e=0):orB e b=b:=As h
theorem zoA{b:Bool}{e:Int}(h:e≠0):orB e b=false:=An h
theorem kN{l:AcK}{n:Int}:fX l n=true↔n∈l:=by
 rw[fX,Aay];exact⟨λ⟨k,hk,e⟩=>by rw[By e];exact hk,λh=>⟨n,h,Or rfl⟩⟩
theorem sI{f:Nat->Int->Bool}{s:AcL}{v:Nat}:(qO f s).getD v []=(s.getD v []).filter (f v):=by
 rw[qO,Aam,Aam,List.getElem?_mapIdx];cases s[v]? <;>rfl
theorem uL{f:Nat->Int->Bool}{s:AcL}:(qO f s).length=s.length:=AbB
theorem ziE{a b:Int}{l:AcK}:disL (a::b::l)=(decide (b<=a)||disL (b::l)):=rfl
theorem zf1:∀ {l:AcK},disL l=false↔l.Pairwise (·<·)
 |[]=>by simp[disL]
 |[a]=>by simp[disL]
 |a::b::l=>by
  rw[ziE,Abd,zf1,Aco (a:=a) (l:=b::l)];constructor
  ·rintro⟨h1,h2⟩
   have h1:=Aaa h1;refine⟨λx hx=> ?_,h2⟩
   rcases OF.1 hx with rfl|hx
   ·omega
   ·have:=(Aco.1 h2).1 x hx;omega
  ·rintro⟨h1,h2⟩
   exact⟨Aah (by have:=h1 b (Ks ..);omega),h2⟩
theorem Sa{m:zG}{s:AcL}:fY m s=0↔s.length=m.vars.length/\(∀v,∀n∈s.getD v [],(m.vars.getD v ⟨⟨#[]⟩,0,0⟩).lo<=n/\n<=(m.vars.getD v ⟨⟨#[]⟩,0,0⟩).hi)/\∀l∈s,l.Pairwise (·<·):=by
 constructor
 ·intro h
  have hl:=Co h;unfold fY at h
  rw[An (not_not_intro hl)]at h
  split at h
  ·exact At h (by decide)
  rename_i h1;split at h
  ·exact At h (by decide)
  rename_i h2;refine⟨hl,λv n hn=> ?_,λl hl=>zf1.1 ?_⟩
  ·by_cases hv:v<s.length
   ·have hz:v<(s.zip m.vars).length:=by rw[AaC];omega
    rw[yI _ hv]at hn
    rw[yI _ (show v<m.vars.length by omega)]
    rw[Abb,zmo,AaA]at h1
    have:=h1 _ (AS hz);rw[AaM,Abb,AaA]at this
    have:=this n hn;simp[zny]at this
    omega
   ·rw[Aam,AbU (by omega)]at hn
    simp at hn
  ·rw[Abb,AaA]at h2
   simpa using h2 l hl
 ·rintro⟨hl,h1,h2⟩
  refine zkO (not_not_intro hl) ?_ ?_
  ·rw[zmo,Aay]
   rintro⟨x,hx,hp⟩;obtain⟨i,hi,rfl⟩:=Aal hx;rw[AaC]at hi
   rw[AaM,Aay]at hp
   obtain⟨n,hn,e⟩:=hp;have:=h1 i n (by rw[yI _ (by omega)];exact hn)
   rw[yI _ (show i<m.vars.length by omega)]at this
   simp[zny]at e
   omega
  ·rw[Aay]
   rintro⟨l,hl,e⟩;rw[zf1.2 (h2 l hl)]at e
   exact At e (by decide)
theorem bt{b:Bool}{X Y:Prop}(h:b=true)(hx:X):zJ b X Y:=by rw[h];exact hx
theorem bnf{b:Bool}{X Y:Prop}(h:b=true)(hy:Y):zJ (!b) X Y:=by rw[h];exact hy
theorem bf{b:Bool}{X Y:Prop}(h:b=false)(hy:Y):zJ b X Y:=by rw[h];exact hy
theorem bnt{b:Bool}{X Y:Prop}(h:b=false)(hx:X):zJ (!b) X Y:=by rw[h];exact hx
def holdsL(l:zC)(n:Int):Bool:=if l.op=1 then decide (n<=l.n)else if l.op=2 then decide (l.n<=n)else if l.op=3 then decide (n=l.n)else !decide (n=l.n)
theorem Xw(l:zC)(n:Int):tJ fw [dL l,dI n] (dB (holdsL l n)):=
 Ao l n λok=>by
  rw[zch];refine zA (λe1=> ?_) λe1=>zA (λe2=> ?_) λe2=>zA (λe3=> ?_) λe3=> ?_<;>simp at* <;>simp[holdsL, *]
theorem oW(l:zC)(n:Int)(h:jP l.op 1 4=true):tJ uX [dL l,dI n] (dB (holdsL l n)):=
 Qn l n λok=>by
  rw[PN];obtain⟨h1,h2⟩:=ZH.1 h;have h3:l.op=1\/l.op=2\/l.op=3\/l.op=4:=by omega
  rcases h3 with h|h|h|h<;>simp only[h,holdsL,Int.reduceEq,if_true,if_false,decide_true,decide_false,DU,Hs]<;>(repeat'(refine zA (λ_=> ?_) (λ_=> ?_)))<;>simp_all
theorem zf2{nv:Nat}{l:zC}(h:qV nv l.var=true):gX nv l=5:=As h
theorem zf3{nv:Nat}{l:zC}(h1:¬qV nv l.var=true)(h:jP l.op 1 4=false):gX nv l=7:=by rw[gX,An h1,As h]
theorem zf4{nv:Nat}{l:zC}(h1:¬qV nv l.var=true)(h2:¬jP l.op 1 4=false)(h:farB l.n=true):gX nv l=3:=by rw[gX,An h1,An h2,As h]
theorem zkQ{nv:Nat}{l:zC}(h1:¬qV nv l.var=true)(h2:¬jP l.op 1 4=false)(h:¬farB l.n=true):gX nv l=0:=by rw[gX,An h1,An h2,An h]
theorem qE{nv:Nat}{l:zC}:gX nv l=0↔(0<=l.var/\l.var<nv)/\(1<=l.op/\l.op<=4)/\-1000<=l.n/\l.n<=1000:=by
 by_cases h1:qV nv l.var=true
 ·rw[zf2 h1]
  simp[qV,jP]at h1
  exact⟨λh=>At h (by decide),λh=>by omega⟩
 by_cases h2:jP l.op 1 4=false
 ·rw[zf3 h1 h2]
  rw[qR]at h2
  exact⟨λh=>At h (by decide),λh=>by omega⟩
 by_cases h3:farB l.n=true
 ·rw[zf4 h1 h2 h3]
  simp[farB,jP]at h3
  exact⟨λh=>At h (by decide),λh=>by omega⟩
 ·rw[zkQ h1 h2 h3]
  simp[qV,farB,jP]at h1 h2 h3
  exact⟨λ_=>by omega,λ_=>rfl⟩
theorem zcs(m:zG)(l:zC):tJ T1 [dM m,dL l] (dI (gX m.vars.length l)):=
 Az m l λok=>by
  rw[zcp];refine zA (λe=> ?_) λe1=>zA (λe=> ?_) λe2=> ?_
  ·exact uM (zf2 (by simp at e;simp[qV,jP];omega))
  ·exact uM (zf2 (by simp at e;simp[qV,jP];omega))
  have h1:¬qV m.vars.length l.var=true:=by simp at e1 e2;simp[qV,jP];omega
  refine zA (λe=> ?_) λe1=>zA (λe=> ?_) λe2=> ?_
  ·exact uM (zf3 h1 (qR.2 (.inl (By e))))
  ·exact uM (zf3 h1 (qR.2 (.inr (By e))))
  have h2:¬jP l.op 1 4=false:=by rw[qR];simp at e1 e2;omega
  refine zA (λe=> ?_) λe1=>zA (λe=> ?_) λe2=> ?_
  ·exact uM (zf4 h1 h2 (by simp at e;simp[farB,jP];omega))
  ·exact uM (zf4 h1 h2 (by simp at e;simp[farB,jP];omega))
  ·exact uM (zkQ h1 h2 (by simp at e1 e2;simp[farB,jP];omega))
def bJ(l:zC):zC:=if l.op=1 then⟨l.var,2,l.n+1⟩else if l.op=2 then⟨l.var,1,l.n-1⟩else if l.op=3 then⟨l.var,4,l.n⟩else⟨l.var,3,l.n⟩
theorem Em(l:zC)(h: -1000000<=l.n/\l.n<=1000000):tJ Xf [dL l] (TS .lit (bJ l)):=
 Gd l λok=>by
  rw[El,wL (by omega) (by omega),wL (by omega) (by omega)]
  refine zA (λe1=> ?_) λe1=>zA (λe2=> ?_) λe2=>zA (λe3=> ?_) λe3=> ?_<;>simp at e1
  ·simp only[bJ,e1,if_true];rfl
  all_goals simp at e2
  ·simp only[bJ,e1,e2,if_true,if_false];rfl
  all_goals simp at e3
  ·simp only[bJ,e1,e2,e3,if_true,if_false];rfl
  ·simp only[bJ,e1,e2,e3,if_true,if_false];rfl
def Fp(l:zC)(r:AcK):Int:=if r.any (holdsL l)=false then -1 else if r.all (holdsL l)=true then 1 else 0
def Xx(s:AcL)(l:zC):Int:=Fp l (s.getD l.var.toNat [])
def zdV(s:AcL)(l:zC):AcL:=qO (λv n=> !decide ((v:Int)=l.var)||holdsL l n) s
theorem KE{α:Type}{p:α->Bool}{r:List α}:(r.filter p).length=0↔r.any p=false:=by
 rw[AaS,List.filter_eq_nil_iff,AaA]
theorem Cq{α:Type}{p:α->Bool}{r:List α}:(r.filter p).length=r.length↔r.all p=true:=by
 rw[List.length_filter_eq_length_iff,Aao]
theorem zdW{s:AcL}{l:zC}(h:0<=l.var/\l.var<s.length):tJ Qm [dS s,dL l] (dI (Xx s l)):=
 zcq s l λok=>by
  have hs:WS s:=aU (MD ok);rw[zdS];obtain⟨v,hv⟩:∃v:Nat,l.var=v:=⟨l.var.toNat,by omega⟩
  have hvl:v<s.length:=by omega
  have hr:=Rz hs hvl;have ht:Xx s l=Fp l s[v]:=by rw[Xx,hv,Aab,yI _ hvl]
  refine⟨by rw[hv];exact zE hvl,?_⟩
  refine up (I:=λn v a=>Vh s l _ n a v) 0 s[v].length rfl (AT _) (by omega) (λk a=>a=(((s[v].take k).filter (holdsL l)).length:Int)) rfl λn k a _ hk ha hn=> ?_
  subst ha;rw[Cm,hv,zT (t:=.list .int) hvl];have hf:=AaZ (holdsL l) (s[v].take k);rw[Aaf]at hf
  by_cases h:k<s[v].length
  ·rw[zY h,zT (t:=.int) h]
   refine⟨zE h,?_⟩;refine zI (Xw l s[v][k]) (zA (λe=>hn h _ ?_) λe=>hn h _ ?_)
   ·rw[oF _ h,As e,It,wL (by omega) (by omega)];rfl
   ·rw[oF _ h,An (by rw[e];exact Bool.false_ne_true)]
  ·have hk':k=s[v].length:=by omega
   subst hk';rw[zS,Aaj,ht];refine zA (λe=> ?_) λe=>⟨zE hvl,zA (λf=> ?_) λf=> ?_⟩
   ·have e:=By e
    exact uM (As (KE.1 (by omega)))
   ·have e:=Aaa e
    have f:=By f;exact uM (by rw[Fp,An (λh=>e (by have:=KE.2 h;omega)),As (Cq.1 (by omega))])
   ·have e:=Aaa e
    have f:=Aaa f;exact uM (by rw[Fp,An (λh=>e (by have:=KE.2 h;omega)),An (λh=>f (by have:=Cq.2 h;omega))])
theorem zct(v:Nat)(n:Int)(l:zC):tJ T2 [dI v,dI n,.iptr [.int .i64 l.var,.int .i64 l.op,.int .i64 l.n] 0] (dB (!decide ((v:Int)=l.var)||holdsL l n)):=
 AA v n l λok=>by
  rw[zcr];refine zA (λe=> ?_) λe=>zI (Xw l n) ?_
  ·rw[e];rfl
  ·rw[e];rfl
theorem zf5(s:AcL)(l:zC):tJ ME [dS s,dL l] (dS (zdV s l)):=
 zdR s l λok=>by
  rw[zf0];exact zI (Z0 (f:=λv n=> !decide ((v:Int)=l.var)||holdsL l n) Aq λv hv n hn=>zct v n l) rfl
theorem Z1{α:Type}(p:α->Bool){xs:List α}{k:Nat}(h:k<xs.length):(xs.take (k+1)).any p=((xs.take k).any p||p xs[k]):=by
 rw[<-Aar h,List.any_append];simp
theorem zmp{α:Type}{p:α->Bool}{r:List α}:r.all p= !(r.any λx=> !p x):=by rw[AcD]
theorem Lc{s:AcL}{l:zC}(h:0<=l.var/\l.var<s.length)(ho:jP l.op 1 4=true):tJ fR [dS s,dL l] (dI (Xx s l)):=
 Nd s l λok=>by
  have hs:WS s:=aU (MD ok);rw[M9];obtain⟨v,hv⟩:∃v:Nat,l.var=v:=⟨l.var.toNat,by omega⟩
  have hvl:v<s.length:=by omega
  have hr:=Rz hs hvl;have ht:Xx s l=Fp l s[v]:=by rw[Xx,hv,Aab,yI _ hvl]
  refine up (I:=λn k (a:Bool×Bool)=>lD s l _ n a.1 a.2 k) 0 s[v].length rfl (AT _) (by omega) (λk a=>a=((s[v].take k).any (holdsL l),(s[v].take k).any λn=> !holdsL l n)) (a:=(false,false)) rfl λn k a _ hk ha hn=> ?_
  subst ha;rw[QA,hv,zT (t:=.list .int) hvl];refine⟨zE hvl,?_⟩
  by_cases h:k<s[v].length
  ·rw[zY h,zT (t:=.int) h]
   refine⟨zE hvl,zE h,?_⟩;have:=oW l s[v][k] ho;refine zI this (zA (λe=>hn h (true,_) ?_) λe=>hn h (_,true) ?_)
   ·rw[Z1 _ h,Z1 _ h,e];simp
   ·rw[Z1 _ h,Z1 _ h,e];simp
  ·have hk':k=s[v].length:=by omega
   subst hk';rw[zS,Aaj,ht];unfold Fp;rw[zmp];cases s[v].any (holdsL l)<;>cases s[v].any (λn=> !holdsL l n)<;>rfl
def yA(c:zF)(vs:AcK):AcK:=c.vars.map λv=>vs.getD v.toNat 0
def Ns(z:List (Int×Int)):Int:=(z.map λx=>x.1*x.2).sum
def KF(a:Int)(l:AcK):Int:=l.foldl (λa x=>if x>a then x else a) a
def yZ(c:zF)(vs:AcK):Bool:=
 let x:=yA c vs
 if c.kind=1 then decide (Ns (c.consts.zip x)<=c.n)
 else if c.kind=2 then decide (Ns (c.consts.zip x)=c.n)
 else if c.kind=3 then !decide (Ns (c.consts.zip x)=c.n)
 else if c.kind=4 then decide x.Nodup
 else if c.kind=5 then decide (0<=x.getD 0 0)&&decide (x.getD 0 0<c.consts.length)&&decide (c.consts.getD (x.getD 0 0).toNat 0=x.getD 1 0)
 else if c.kind=6 then c.rows.any λr=>decide (r=x)
 else if c.kind=7 then decide (x.getD 0 0*x.getD 1 0=x.getD 2 0)
 else if c.kind=8 then decide (x.getD 0 0=KF (x.getD 1 0) (x.drop 1))
 else if c.kind=9 then c.lits.any λl=>holdsL l (vs.getD l.var.toNat 0)
 else(c.lits.take 1).any (λl=>holdsL l (vs.getD l.var.toNat 0))&&decide (x.getD 0 0=1)|| !(c.lits.take 1).any (λl=>holdsL l (vs.getD l.var.toNat 0))&&decide (x.getD 0 0=0)
structure tS (c:zF)(nv:Nat):Prop where
 nv6:nv<=6
 kind:1<=c.kind/\c.kind<=10
 many:c.vars.length<=4/\c.lits.length<=4/\c.consts.length<=8/\c.rows.length<=20
 form:bP c=true
 vars:∀v∈c.vars,0<=v/\v<nv
 consts:∀n∈c.consts,-1000<=n/\n<=1000
 n: -1000<=c.n/\c.n<=1000
 rows:∀r∈c.rows,∀n∈r,-1000<=n/\n<=1000
 lits:∀l∈c.lits,gX nv l=0
theorem MH{nv:Nat}{c:zF}(hnv:nv<=6)(h:Wh nv c=0):tS c nv:=by
 by_cases h1:jP c.kind 1 10=false
 ·rw[zcl h1]at h;exact At h (by decide)
 by_cases h2:TZ c=true
 ·rw[zfX h1 h2]at h;exact At h (by decide)
 by_cases h3:bP c=false
 ·rw[zfY h1 h2 h3]at h;exact At h (by decide)
 by_cases h4:(c.vars.any (qV nv)||c.lits.any λl=>qV nv l.var)=true
 ·rw[Ci h1 h2 h3 h4]at h;exact At h (by decide)
 by_cases h5:(c.consts.any farB||farB c.n||c.rows.any λr=>r.any farB)=true
 ·rw[KD h1 h2 h3 h4 h5]at h;exact At h (by decide)
 rw[zfZ h1 h2 h3 h4 h5]at h
 rw[Abb,Abd]at h4
 rw[Abb,Abd,Abd]at h5
 have hfar:∀n,farB n=false->-1000<=n/\n<=1000:=λn h=>by simp[farB,jP]at h;exact h
 have hnone:∀v,qV nv v=false->0<=v/\v<nv:=λv h=>by simp[qV,jP]at h;omega
 refine⟨hnv,?_,?_,by simpa using h3,λv hv=>hnone v ?_,λn hn=>hfar n ?_,hfar _ h5.1.2,λr hr n hn=>hfar n ?_,λl hl=> ?_⟩
 ·rw[qR]at h1;omega
 ·simp[TZ]at h2;omega
 ·have:=AaA.1 h4.1 v hv;simpa using this
 ·have:=AaA.1 h5.1.1 n hn;simpa using this
 ·have:=AaA.1 h5.2 r hr
  rw[Abb]at this
  have:=AaA.1 this n hn;simpa using this
 ·obtain⟨i,hi,rfl⟩:=Aal hl
  have e:=Yz h hi;rw[zhD]
  ·exact e
  ·have:=AaA.1 h4.2 _ (AS hi);simpa using this
structure zoc (c:zF):Prop where
 sums:c.kind<=3->1<=c.vars.length/\c.consts.length=c.vars.length
 differ:c.kind=4->1<=c.vars.length
 element:c.kind=5->c.vars.length=2/\1<=c.consts.length
 table:c.kind=6->1<=c.vars.length/\∀r∈c.rows,r.length=c.vars.length
 times:c.kind=7->c.vars.length=3
 max:c.kind=8->2<=c.vars.length
 clause:c.kind=9->c.vars.length=0
 iff:c.kind=10->c.vars.length=1/\c.lits.length=1
theorem tS.formC{c:zF}{nv:Nat}(h:tS c nv):zoc c:=by
 have hf:=h.form;obtain⟨h1,h2⟩:=h.kind;constructor<;>intro hk
 ·have:c.kind=1\/c.kind=2\/c.kind=3:=by omega
  rcases this with e|e|e<;>simp[bP,e]at hf<;>omega
 all_goals simp[bP,hk]at hf
 all_goals first|omega|(simp_all;done)|(simp_all;omega)
structure RA (vs:AcK)(nv:Nat):Prop where
 len:vs.length=nv
 near:∀n∈vs,-50<=n/\n<=50
theorem RA.at{vs:AcK}{nv:Nat}(h:RA vs nv)(i:Nat): -50<=vs.getD i 0/\vs.getD i 0<=50:=by
 by_cases hi:i<vs.length
 ·rw[yI _ hi];exact h.near _ (AS hi)
 ·rw[Aam,AbU (by omega)];decide
theorem iR{c:zF}{vs:AcK}:(yA c vs).length=c.vars.length:=Aag ..
theorem QT{c:zF}{vs:AcK}{nv:Nat}(h:RA vs nv):∀n∈yA c vs,-50<=n/\n<=50:=λn hn=>by
 obtain⟨v,_,rfl⟩:=Of.1 hn;exact h.at _
theorem RB{c:zF}{vs:AcK}{k:Nat}(hk:k<c.vars.length):(yA c vs)[k]'(by rw[iR];exact hk)=vs.getD c.vars[k].toNat 0:=by simp[yA]
theorem Nt{a b:Int}(h1: -1000<=a/\a<=1000)(h2: -50<=b/\b<=50): -50000<=a*b/\a*b<=50000:=by
 have:(a*b).natAbs<=1000*50:=by rw[Int.natAbs_mul];exact AbL (by omega) (by omega)
 omega
theorem zdX{z:List (Int×Int)}(h:∀x∈z,(-1000<=x.1/\x.1<=1000)/\-50<=x.2/\x.2<=50): -50000*(z.length:Int)<=Ns z/\Ns z<=50000*(z.length:Int):=by
 induction z with
 |nil=>exact⟨by decide,by decide⟩
 |cons x z ih=>
  have h1:=ih λy hy=>h y (On _ hy)
  have h2:=h x (Ks ..);have h3:=Nt h2.1 h2.2;have e:Ns (x::z)=x.1*x.2+Ns z:=by rw[Ns,Aak,Ab0];rfl
  rw[e,Aad];omega
theorem zaC{z:List (Int×Int)}{k:Nat}(h:k<z.length):Ns (z.take (k+1))=Ns (z.take k)+z[k].1*z[k].2:=by
 rw[<-Aar h,Ns,AaL,List.sum_append];simp[Ns]
theorem tO{c:zF}{vs:AcK}{nv:Nat}(hc:tS c nv)(hv:RA vs nv){k:Nat}(hk:k<c.vars.length):tJ yU [dI k,.iptr [.sl .int vs] 0,.iptr [.int .i64 c.kind,.sl .int c.vars,.sl .int c.consts,.int .i64 c.n,.sl (.list .int) c.rows,.sl .lit c.lits] 0] (dI ((yA c vs)[k]'(by rw[iR];exact hk))):=
 HJ k vs c λok=>by
  have hv1:=hc.vars _ (AS hk);rw[Eb,zT (t:=.int) hk,RB hk];exact⟨zE hk,uW.2 (by rw[hv.len];omega),rfl⟩
theorem Pu{l:zC}{vs:AcK}{nv:Nat}(hl:gX nv l=0)(hv:RA vs nv):tJ pZ [dL l,.iptr [.sl .int vs] 0] (dB (holdsL l (vs.getD l.var.toNat 0))):=
 HM l vs λok=>by
  rw[Ec];exact⟨uW.2 (by rw[hv.len];exact(qE.1 hl).1),zI (Xw l _) rfl⟩
theorem J3(c:zF)(n:Int):tJ fx [dC c,dI n] (dB (if c.kind=1 then decide (n<=c.n)else if c.kind=2 then decide (n=c.n)else !decide (n=c.n))):=
 Ap c n λok=>by
  rw[zci];refine zA (λe1=> ?_) λe1=>zA (λe2=> ?_) λe2=> ?_<;>simp at* <;>simp[*]
theorem Zt(a b:AcK):tJ wH [.sl .int a,.sl .int b] (dB (decide (a=b))):=
 UR a b λok=>by
  have hl:a.length<=9223372036854775807:=cW (t:=.int) (MD ok);rw[TA];refine zA (λe=> ?_) λe=> ?_
  ·rw[Aah (p:=a=b) λh=>by subst h;simp at e]
  have e:a.length=b.length:=by simp at e;omega
  have hz:(a.zip b).length=a.length:=by rw[AaC];omega
  refine Hv (I:=λn v=>oM a b _ n v) (a.zip b) (λx=> !decide (x.1=x.2)) (by omega) (X:=dB false=dB (decide (a=b))) (Y:=dB true=dB (decide (a=b))) (by rw[Nr a b e];cases decide (a=b)<;>rfl) (λn k h hX hn=> ?_) λn hY=> ?_
  ·have hk:k<a.length:=by omega
   rw[AaM]at hX hn
   rw[eR,zY hk,zT (t:=.int) hk,zT (t:=.int) (show k<b.length by omega)]
   exact⟨zE hk,zE (by omega),zA hX hn⟩
  ·rw[hz,eR,zS];exact hY
theorem En(r x:AcK):tJ Xe [.sl .int r,.iptr [.sl .int x] 0] (dB (decide (r=x))):=
 HU r x λok=>by rw[Ed];exact zI (Zt r x) rfl
theorem zaD{x y:Int}:∀(m:List (Int×Int)),(qH .int .int x y m).map (λe=>e.1)=if x∈m.map (λe=>e.1)then m.map (λe=>e.1)else m.map (λe=>e.1)++[x]
 |[]=>rfl
 |(a,b)::m=>by
  rw[qH,show Kg .int x a=decide (x=a)from rfl]
  by_cases h:x=a
  ·rw[Or h,AI,As (by rw[h];exact Ks ..)];rfl
  ·rw[Aah h,Vs,Aak,zaD m]
   simp only[Aak,OF,h,false_or];split<;>rfl
def rU:AcK->AcK->AcK
 |ks,[]=>ks
 |ks,x::xs=>rU (if x∈ks then ks else ks++[x]) xs
theorem zdY{l:AcK}{k:Nat}(h:k<l.length):∀ks,rU ks (l.take (k+1))=if l[k]∈rU ks (l.take k)then rU ks (l.take k)else rU ks (l.take k)++[l[k]]:=by
 induction l generalizing k with
 |nil=>exact At h (AaU _)
 |cons a l ih=>
  intro ks;cases k with
  |zero=>rfl
  |succ k=>rw[Acp,Acp,rU,rU];exact ih (by simpa using h) _
theorem QU:∀(xs ks:AcK),(rU ks xs).length<=ks.length+xs.length
 |[],ks=>by simp[rU]
 |x::xs,ks=>by
  rw[rU];have:=QU xs (if x∈ks then ks else ks++[x])
  rw[Aad];split at this<;>simp at this⊢<;>simp_all<;>omega
theorem J4:∀(xs ks:AcK),(rU ks xs).length=ks.length+xs.length↔xs.Nodup/\∀x∈xs,x∉ks
 |[],ks=>by simp[rU]
 |x::xs,ks=>by
  rw[rU,AaN,Aad]
  by_cases h:x∈ks
  ·rw[As h]
   have:=QU xs ks;exact⟨λe=>by omega,λe=>At h (e.2 x (Ks ..))⟩
  ·rw[An h]
   have ih:=J4 xs (ks++[x]);rw[It,Aad,Aaz]at ih
   rw[show ks.length+(xs.length+1)=ks.length+(0+1)+xs.length by omega,ih]
   simp only[TO,OF,List.not_mem_nil,or_false];constructor
   ·rintro⟨h1,h2⟩
    exact⟨⟨λhx=>h2 x hx (.inr rfl),h1⟩,λy hy=>by
     rcases hy with rfl|hy
     ·exact h
     ·exact λhk=>h2 y hy (.inl hk)⟩
   ·rintro⟨⟨h1,h2⟩,h3⟩
    exact⟨h2,λy hy hk=>by
     rcases hk with hk|rfl
     ·exact h3 y (.inr hy) hk
     ·exact h1 hy⟩
def J5:wG:= {own:=[2,8,24,26],live:=[],n:=41,nils:=[(26,(3,(72,.var))),(26,(4,(74,.con)))],pubs:=[],first:=true}
theorem AC(c:AcG)(R:yL):FD J5 f10 [.str c] R=
 (c3Q Qi [.str c] (.list .tok) .int .int λg h e=>
 zJ (!decide (e=0))
 (R (.tup [.agg [.sl .var ([]:AcP),.sl .con ([]:AcQ),dI 0,dI 0],dI h,dI e]))
 (∃a:zG,∃d:Int,∃b:Int,yQ Qj [AcY] (zK g 0 (c.size:Int) 0 0 ([]:AcP) ([]:AcQ) ([]:List (AcG×Int))) (.tup [dM a,dI d,dI b]) []/\
 zJ (decide (b=0))
 (yM gA [dM a] .int λf=>
 zJ (!decide (f=0))
 (R (.tup [.agg [.sl .var ([]:AcP),.sl .con ([]:AcQ),dI 0,dI 0],dI d,dI f]))
 (R (.tup [dM a,dI 0,dI 0])))
 (zJ (!decide (b=0))
 (R (.tup [.agg [.sl .var ([]:AcP),.sl .con ([]:AcQ),dI 0,dI 0],dI d,dI b]))
 (R (.tup [dM a,dI 0,dI 0]))))):=by kernel_rfl
theorem Cr(a:AcG):xZ J5 f10 Y8 [.str a]:=wA func10 (by kernel_rfl) ntmps10 rfl
def sS:wG:= {own:=[2,5,65,84],live:=[(0,([0],[1000,1001,2000,2001])),(2,([0],[1000,1001,2000,2001]))],n:=135,first:=true}
def mC(R:oG)(T:MF)(a:Nat)(b:AcR)(c d e f:Int)(g:List (AcG×Int))(h:AcP)(i:AcQ):Prop:=LP sS f94 [1,0,0,0] 2 a ⟨[(0,AcY)],[(1000,.cells [.sl .tok b,dI c,dI d,.own 2000,.own 2001,dI e,dI f,.own 1001]),(1001,.mp .str .int g),(2000,.row 72 .var h),(2001,.row 74 .con i)]⟩ (zH 2 (sK sS f94 [1,1] 0 (eX f94 [AcY] false R T)))
def sC(R:oG)(T:MF)(a:Nat)(b:AcR)(c d e f:Int)(g:List (AcG×Int))(h:AcP)(i:AcQ):Prop:=LP sS f94 [0,0,0] 0 a ⟨[(0,AcY)],[(1000,.cells [.sl .tok b,dI c,dI d,.own 2000,.own 2001,dI e,dI f,.own 1001]),(1001,.mp .str .int g),(2000,.row 72 .var h),(2001,.row 74 .con i)]⟩ (zH 0 (sK sS f94 [1] 0 (eX f94 [AcY] false R T)))
theorem mU(R:oG)(T:MF)(v:Nat)(a:AcR)(w c g f:Int)(d:List (AcG×Int))(e:AcP)(b:AcQ):mC R T (v+1) a w c g f d e b=
 (∃m:Int,∃x:Bool,yQ xB [AcY,.str (⟨#[99,111,110]⟩:AcG)] (zK a w c g f e b d) (dB x) (zK a m c g f e b d)/\
 zJ x
 (((∃p:Int,∃q:zF,yQ pY [AcY] (zK a m c g f e b d) (dC q) (zK a p c g f e b d)/\
 ((∃y:Int,yQ zM [AcY,.sl .str ([(⟨#[59]⟩:AcG)])] (zK a p c g f e b d) (.tup []) (zK a y c g f e b d)/\
 xQ .con (b.length+([q]).length)=true/\mC R T v a y c g f d e (b++([q])))\/
 ∃u,lY zM [AcY,.sl .str ([(⟨#[59]⟩:AcG)])] (zK a p c g f e b d) u/\T u))\/
 ∃u,lY pY [AcY] (zK a m c g f e b d) u/\T u))
 (((∃z:Int,yQ zM [AcY,.sl .str ([(⟨#[115,111,108,118,101]⟩:AcG)])] (zK a m c g f e b d) (.tup []) (zK a z c g f e b d)/\
 ∃o:Int,∃aa:Bool,yQ xB [AcY,.str (⟨#[97,110,121]⟩:AcG)] (zK a z c g f e b d) (dB aa) (zK a o c g f e b d)/\
 zJ aa
 (((∃j:Int,yQ zM [AcY,.sl .str ([(⟨#[59]⟩:AcG)])] (zK a o c g f e b d) (.tup []) (zK a j c g f e b d)/\
 zJ (decide (j<(a.length:Int)))
 (((yQ zR [AcY,dI 1] (zK a j c g f e b d) (.tup []) (zK a j c g f e b d)/\
 R (.tup []) (zK a j c g f e b d))\/
 ∃u,lY zR [AcY,dI 1] (zK a j c g f e b d) u/\T u))
 (R (.tup []) (zK a j c g f e b d)))\/
 ∃u,lY zM [AcY,.sl .str ([(⟨#[59]⟩:AcG)])] (zK a o c g f e b d) u/\T u))
 (∃n:Int,∃ab:Bool,yQ xB [AcY,.str (⟨#[108,101,97,115,116]⟩:AcG)] (zK a o c g f e b d) (dB ab) (zK a n c g f e b d)/\
 zJ ab
 (((∃r:Int,∃h:Int,yQ zO [AcY] (zK a n c 1 f e b d) (dI h) (zK a r c 1 f e b d)/\
 ((∃k:Int,yQ zM [AcY,.sl .str ([(⟨#[59]⟩:AcG)])] (zK a r c 1 h e b d) (.tup []) (zK a k c 1 h e b d)/\
 zJ (decide (k<(a.length:Int)))
 (((yQ zR [AcY,dI 1] (zK a k c 1 h e b d) (.tup []) (zK a k c 1 h e b d)/\
 R (.tup []) (zK a k c 1 h e b d))\/
 ∃u,lY zR [AcY,dI 1] (zK a k c 1 h e b d) u/\T u))
 (R (.tup []) (zK a k c 1 h e b d)))\/
 ∃u,lY zM [AcY,.sl .str ([(⟨#[59]⟩:AcG)])] (zK a r c 1 h e b d) u/\T u))\/
 ∃u,lY zO [AcY] (zK a n c 1 f e b d) u/\T u))
 (((∃s:Int,yQ zM [AcY,.sl .str ([(⟨#[109,111,115,116]⟩:AcG)])] (zK a n c g f e b d) (.tup []) (zK a s c g f e b d)/\
 ((∃t:Int,∃i:Int,yQ zO [AcY] (zK a s c 2 f e b d) (dI i) (zK a t c 2 f e b d)/\
 ((∃l:Int,yQ zM [AcY,.sl .str ([(⟨#[59]⟩:AcG)])] (zK a t c 2 i e b d) (.tup []) (zK a l c 2 i e b d)/\
 zJ (decide (l<(a.length:Int)))
 (((yQ zR [AcY,dI 1] (zK a l c 2 i e b d) (.tup []) (zK a l c 2 i e b d)/\
 R (.tup []) (zK a l c 2 i e b d))\/
 ∃u,lY zR [AcY,dI 1] (zK a l c 2 i e b d) u/\T u))
 (R (.tup []) (zK a l c 2 i e b d)))\/
 ∃u,lY zM [AcY,.sl .str ([(⟨#[59]⟩:AcG)])] (zK a t c 2 i e b d) u/\T u))\/
 ∃u,lY zO [AcY] (zK a s c 2 f e b d) u/\T u))\/
 ∃u,lY zM [AcY,.sl .str ([(⟨#[109,111,115,116]⟩:AcG)])] (zK a n c g f e b d) u/\T u))))\/
 ∃u,lY zM [AcY,.sl .str ([(⟨#[115,111,108,118,101]⟩:AcG)])] (zK a m c g f e b d) u/\T u))):=by kernel_rfl
theorem YO(R:oG)(T:MF)(l:Nat)(c:AcR)(r d e f:Int)(b:List (AcG×Int))(a:AcP)(g:AcQ):sC R T (l+1) c r d e f b a g=
 (∃h:Int,∃s:Bool,yQ xB [AcY,.str (⟨#[118,97,114]⟩:AcG)] (zK c r d e f a g b) (dB s) (zK c h d e f a g b)/\
 zJ s
 (((∃i:AcG,yQ tA [AcY] (zK c h d e f a g b) (.str i) (zK c h d e f a g b)/\
 ((∃m:Int,yQ zM [AcY,.sl .str ([(⟨#[58]⟩:AcG)])] (zK c (yF (h+1)) d e f a g b) (.tup []) (zK c m d e f a g b)/\
 ((∃n:Int,∃j:Int,yQ zN [AcY] (zK c m d e f a g b) (dI j) (zK c n d e f a g b)/\
 ((∃o:Int,yQ zM [AcY,.sl .str ([(⟨#[46,46]⟩:AcG)])] (zK c n d e f a g b) (.tup []) (zK c o d e f a g b)/\
 ((∃p:Int,∃k:Int,yQ zN [AcY] (zK c o d e f a g b) (dI k) (zK c p d e f a g b)/\
 ((∃q:Int,yQ zM [AcY,.sl .str ([(⟨#[59]⟩:AcG)])] (zK c p d e f a g b) (.tup []) (zK c q d e f a g b)/\
 zJ (!(MU .str .int i b))
 (Jt (b.length+1)=true/\xQ .var (a.length+([(⟨i,j,k⟩:zQ)]).length)=true/\sC R T l c q d e f (qH .str .int i (a.length:Int) b) (a++([(⟨i,j,k⟩:zQ)])) g)
 (xQ .var (a.length+([(⟨i,j,k⟩:zQ)]).length)=true/\sC R T l c q d e f b (a++([(⟨i,j,k⟩:zQ)])) g))\/
 ∃u,lY zM [AcY,.sl .str ([(⟨#[59]⟩:AcG)])] (zK c p d e f a g b) u/\T u))\/
 ∃u,lY zN [AcY] (zK c o d e f a g b) u/\T u))\/
 ∃u,lY zM [AcY,.sl .str ([(⟨#[46,46]⟩:AcG)])] (zK c n d e f a g b) u/\T u))\/
 ∃u,lY zN [AcY] (zK c m d e f a g b) u/\T u))\/
 ∃u,lY zM [AcY,.sl .str ([(⟨#[58]⟩:AcG)])] (zK c (yF (h+1)) d e f a g b) u/\T u))\/
 ∃u,lY tA [AcY] (zK c h d e f a g b) u/\T u))
 (∃n2,mC R T n2 c h d e f b a g)):=by kernel_rfl
theorem Nu(a:AcR)(b c d e:Int)(f:AcP)(g:AcQ)(h:List (AcG×Int))(R:oG)(T:MF):FX sS f94 [AcY] (zK a b c d e f g h) [AcY] false R T=
 (∃n0,sC R T n0 a b c d e h f g):=by kernel_rfl
theorem Oc(a:AcR)(b c d e:Int)(f:AcP)(g:AcQ)(h:List (AcG×Int)):UP sS f94 ow [AcY] (zK a b c d e f g h) [AcY] false:=Rf func94 (by kernel_rfl) ntmps94 rfl
theorem Od(a:AcR)(b c d e:Int)(f:AcP)(g:AcQ)(h:List (AcG×Int)):VI sS f94 ow [AcY] (zK a b c d e f g h) [AcY] false:=T3 func94 (by kernel_rfl) ntmps94 rfl
def J6:wG:= {own:=[],live:=[],n:=2,first:=true}
theorem AD(R:yL):FD J6 Tryz.f110 [] R=
 (R (.sl .str ([(⟨#[108,101]⟩:AcG),(⟨#[101,113]⟩:AcG),(⟨#[110,101]⟩:AcG),(⟨#[100,105,102,102,101,114]⟩:AcG),(⟨#[101,108,101,109,101,110,116]⟩:AcG),(⟨#[116,97,98,108,101]⟩:AcG),(⟨#[116,105,109,101,115]⟩:AcG),(⟨#[109,97,120]⟩:AcG),(⟨#[99,108,97,117,115,101]⟩:AcG),(⟨#[105,102,102]⟩:AcG)]))):=by kernel_rfl
theorem Cs:xZ J6 Tryz.f110 V3 []:=wA func110 (by kernel_rfl) ntmps110 rfl
def U2:wG:= {own:=[],live:=[],n:=37,first:=true}
theorem Ld(a:AcR)(b c d e:Int)(f:AcP)(g:AcQ)(h:List (AcG×Int))(i:AcG)(R:oG):FH U2 f154 [AcY,.str i] (zK a b c d e f g h) [AcY] false R=
 (zJ (decide ((a.length:Int)<=b))
 (R (dB false) (zK a b c d e f g h))
 (xM b a.length=true/\zJ (!decide (((zW .tok a b.toNat).text)=i))
 (R (dB false) (zK a b c d e f g h))
 (R (dB true) (zK a (yF (b+1)) c d e f g h)))):=by kernel_rfl
theorem Nv(a:AcR)(b c d e:Int)(f:AcP)(g:AcQ)(h:List (AcG×Int))(i:AcG):nW U2 f154 xB [AcY,.str i] (zK a b c d e f g h) [AcY] false:=mJ func154 (by kernel_rfl) ntmps154 rfl
def YA:wG:= {own:=[],live:=[],n:=41,first:=true}
theorem Le(a:AcR)(b c d e:Int)(f:AcP)(g:AcQ)(h:List (AcG×Int))(R:oG)(T:MF):FX YA f155 [AcY] (zK a b c d e f g h) [AcY] false R T=
 (zJ (decide ((a.length:Int)<=b))
 (((yQ zR [AcY,dI 1] (zK a b c d e f g h) (.tup []) (zK a b c d e f g h)/\
 xM b a.length=true/\R (.str ((zW .tok a b.toNat).text)) (zK a b c d e f g h))\/
 ∃u,lY zR [AcY,dI 1] (zK a b c d e f g h) u/\T u))
 (xM b a.length=true/\yM V5 [.str ((zW .tok a b.toNat).text)] .bool λi=>
 zJ (!i)
 (((yQ zR [AcY,dI 1] (zK a b c d e f g h) (.tup []) (zK a b c d e f g h)/\
 xM b a.length=true/\R (.str ((zW .tok a b.toNat).text)) (zK a b c d e f g h))\/
 ∃u,lY zR [AcY,dI 1] (zK a b c d e f g h) u/\T u))
 (xM b a.length=true/\R (.str ((zW .tok a b.toNat).text)) (zK a b c d e f g h)))):=by kernel_rfl
theorem Nw(a:AcR)(b c d e:Int)(f:AcP)(g:AcQ)(h:List (AcG×Int)):UP YA f155 tA [AcY] (zK a b c d e f g h) [AcY] false:=Rf func155 (by kernel_rfl) ntmps155 rfl
theorem Nx(a:AcR)(b c d e:Int)(f:AcP)(g:AcQ)(h:List (AcG×Int)):VI YA f155 tA [AcY] (zK a b c d e f g h) [AcY] false:=T3 func155 (by kernel_rfl) ntmps155 rfl
def fZ:wG:= {own:=[],live:=[(0,([0,6,7,8],[1000,1001,2000,2001]))],n:=19,first:=true}
def lF(a:AcX)(R:oG)(T:MF)(b:Nat)(c:Int)(d:AcR)(e f g h:Int)(i:List (AcG×Int))(j:AcP)(k:AcQ):Prop:=LP fZ f156 [1,0,0] 0 b ⟨[(0,AcY),(6,.sl .str a),(7,dI (a.length:Int)),(8,dI c)],[(1000,.cells [.sl .tok d,dI e,dI f,.own 2000,.own 2001,dI g,dI h,.own 1001]),(1001,.mp .str .int i),(2000,.row 72 .var j),(2001,.row 74 .con k)]⟩ (zH 0 (eX f156 [AcY] false R T))
theorem QV(h:AcX)(R:oG)(T:MF)(k:Nat)(i:Int)(a:AcR)(l b c d:Int)(e:List (AcG×Int))(f:AcP)(g:AcQ):lF h R T (k+1) i a l b c d e f g=
 (zJ (decide (i<(h.length:Int)))
 (xM i h.length=true/\∃j:Int,∃m:Bool,yQ xB [AcY,.str (zW .str h i.toNat)] (zK a l b c d f g e) (dB m) (zK a j b c d f g e)/\
 zJ (!m)
 (((yQ zR [AcY,dI 1] (zK a j b c d f g e) (.tup []) (zK a j b c d f g e)/\
 lF h R T k (yF (i+1)) a j b c d e f g)\/
 ∃u,lY zR [AcY,dI 1] (zK a j b c d f g e) u/\T u))
 (lF h R T k (yF (i+1)) a j b c d e f g))
 (R (.tup []) (zK a l b c d f g e))):=by kernel_rfl
theorem Lf(a:AcR)(b c d e:Int)(f:AcP)(g:AcQ)(h:List (AcG×Int))(i:AcX)(R:oG)(T:MF):FX fZ f156 [AcY,.sl .str i] (zK a b c d e f g h) [AcY] false R T=
 (∃n0,lF i R T n0 0 a b c d e h f g):=by kernel_rfl
theorem Ny(a:AcR)(b c d e:Int)(f:AcP)(g:AcQ)(h:List (AcG×Int))(i:AcX):UP fZ f156 zM [AcY,.sl .str i] (zK a b c d e f g h) [AcY] false:=Rf func156 (by kernel_rfl) ntmps156 rfl
theorem Nz(a:AcR)(b c d e:Int)(f:AcP)(g:AcQ)(h:List (AcG×Int))(i:AcX):VI fZ f156 zM [AcY,.sl .str i] (zK a b c d e f g h) [AcY] false:=T3 func156 (by kernel_rfl) ntmps156 rfl
def VF:wG:= {own:=[],live:=[],n:=77,first:=true}
theorem Gf(a:AcR)(i c d e:Int)(f:AcP)(g:AcQ)(h:List (AcG×Int))(R:oG)(T:MF):FX VF f157 [AcY] (zK a i c d e f g h) [AcY] false R T=
 (∃b:Int,∃j:Bool,yQ xB [AcY,.str (⟨#[45]⟩:AcG)] (zK a i c d e f g h) (dB j) (zK a b c d e f g h)/\
 zJ j
 (zJ (decide ((a.length:Int)<=b))
 (((yQ zR [AcY,dI 1] (zK a b c d e f g h) (.tup []) (zK a b c d e f g h)/\
 (λp:Prop=>((xM b a.length=true/\p)/\xM b a.length=true/\p))
 (∃k:Int,yQ uK [.str ((zW .tok a b.toNat).text)] [] (.tup [dI k,.undef]) []/\
 R (dI (yF ((-1)*k))) (zK a (yF (b+1)) c d e f g h)))\/
 ∃u,lY zR [AcY,dI 1] (zK a b c d e f g h) u/\T u))
 (xM b a.length=true/\zJ (!decide (((zW .tok a b.toNat).kind)=2))
 (((yQ zR [AcY,dI 1] (zK a b c d e f g h) (.tup []) (zK a b c d e f g h)/\
 (λp:Prop=>((xM b a.length=true/\p)/\xM b a.length=true/\p))
 (∃l:Int,yQ uK [.str ((zW .tok a b.toNat).text)] [] (.tup [dI l,.undef]) []/\
 R (dI (yF ((-1)*l))) (zK a (yF (b+1)) c d e f g h)))\/
 ∃u,lY zR [AcY,dI 1] (zK a b c d e f g h) u/\T u))
 (zJ (decide ((-1:Int)<0))
 (xM b a.length=true/\zJ (decide (((zW .tok a b.toNat).text)=(⟨#[48]⟩:AcG)))
 (((yQ zR [AcY,dI 1] (zK a b c d e f g h) (.tup []) (zK a b c d e f g h)/\
 (λp:Prop=>((xM b a.length=true/\p)/\xM b a.length=true/\p))
 (∃m:Int,yQ uK [.str ((zW .tok a b.toNat).text)] [] (.tup [dI m,.undef]) []/\
 R (dI (yF ((-1)*m))) (zK a (yF (b+1)) c d e f g h)))\/
 ∃u,lY zR [AcY,dI 1] (zK a b c d e f g h) u/\T u))
 ((λp:Prop=>((xM b a.length=true/\p)/\xM b a.length=true/\p))
 (∃n:Int,yQ uK [.str ((zW .tok a b.toNat).text)] [] (.tup [dI n,.undef]) []/\
 R (dI (yF ((-1)*n))) (zK a (yF (b+1)) c d e f g h))))
 ((λp:Prop=>((xM b a.length=true/\p)/\xM b a.length=true/\p))
 (∃o:Int,yQ uK [.str ((zW .tok a b.toNat).text)] [] (.tup [dI o,.undef]) []/\
 R (dI (yF ((-1)*o))) (zK a (yF (b+1)) c d e f g h))))))
 (zJ (decide ((a.length:Int)<=b))
 (((yQ zR [AcY,dI 1] (zK a b c d e f g h) (.tup []) (zK a b c d e f g h)/\
 (λp:Prop=>((xM b a.length=true/\p)/\xM b a.length=true/\p))
 (∃q:Int,yQ uK [.str ((zW .tok a b.toNat).text)] [] (.tup [dI q,.undef]) []/\
 R (dI (yF (1*q))) (zK a (yF (b+1)) c d e f g h)))\/
 ∃u,lY zR [AcY,dI 1] (zK a b c d e f g h) u/\T u))
 (xM b a.length=true/\zJ (!decide (((zW .tok a b.toNat).kind)=2))
 (((yQ zR [AcY,dI 1] (zK a b c d e f g h) (.tup []) (zK a b c d e f g h)/\
 (λp:Prop=>((xM b a.length=true/\p)/\xM b a.length=true/\p))
 (∃r:Int,yQ uK [.str ((zW .tok a b.toNat).text)] [] (.tup [dI r,.undef]) []/\
 R (dI (yF (1*r))) (zK a (yF (b+1)) c d e f g h)))\/
 ∃u,lY zR [AcY,dI 1] (zK a b c d e f g h) u/\T u))
 (zJ (decide ((1:Int)<0))
 (xM b a.length=true/\zJ (decide (((zW .tok a b.toNat).text)=(⟨#[48]⟩:AcG)))
 (((yQ zR [AcY,dI 1] (zK a b c d e f g h) (.tup []) (zK a b c d e f g h)/\
 (λp:Prop=>((xM b a.length=true/\p)/\xM b a.length=true/\p))
 (∃s:Int,yQ uK [.str ((zW .tok a b.toNat).text)] [] (.tup [dI s,.undef]) []/\
 R (dI (yF (1*s))) (zK a (yF (b+1)) c d e f g h)))\/
 ∃u,lY zR [AcY,dI 1] (zK a b c d e f g h) u/\T u))
 ((λp:Prop=>((xM b a.length=true/\p)/\xM b a.length=true/\p))
 (∃t:Int,yQ uK [.str ((zW .tok a b.toNat).text)] [] (.tup [dI t,.undef]) []/\
 R (dI (yF (1*t))) (zK a (yF (b+1)) c d e f g h))))
 ((λp:Prop=>((xM b a.length=true/\p)/\xM b a.length=true/\p))
 (∃v:Int,yQ uK [.str ((zW .tok a b.toNat).text)] [] (.tup [dI v,.undef]) []/\
 R (dI (yF (1*v))) (zK a (yF (b+1)) c d e f g h))))))):=by kernel_rfl
theorem J7(a:AcR)(b c d e:Int)(f:AcP)(g:AcQ)(h:List (AcG×Int)):UP VF f157 zN [AcY] (zK a b c d e f g h) [AcY] false:=Rf func157 (by kernel_rfl) ntmps157 rfl
theorem J8(a:AcR)(b c d e:Int)(f:AcP)(g:AcQ)(h:List (AcG×Int)):VI VF f157 zN [AcY] (zK a b c d e f g h) [AcY] false:=T3 func157 (by kernel_rfl) ntmps157 rfl
def iS:wG:= {own:=[1,2,3,7,83,88],live:=[(0,([0,1,2,3,8,9,10],[1,2,3,1000,1001,2000,2001]))],n:=108,first:=true,clp:=true}
def f6(R:oG)(T:MF)(a:AcX)(b:Nat)(c d:Int)(e f:AcK)(g:Int)(h:AcL)(i:AcM)(j:Int)(k l:AcK)(m:Int)(n:AcL)(o:AcM)(p:AcR)(q r s t:Int)(u:List (AcG×Int))(v:AcP)(w:AcQ):Prop:=LP iS f158 [1,1,0,1,0,0] 0 b ⟨[(0,AcY),(1,.ptr 1 0),(2,.ptr 2 0),(3,.ptr 3 0),(8,.sl .str a),(9,dI (a.length:Int)),(10,dI c)],[(1,.cells [AcY]),(2,.cells [dI d,.sl .int e,.sl .int f,dI g,dS h,.sl .lit i]),(3,.cells [dI j,.sl .int k,.sl .int l,dI m,dS n,.sl .lit o]),(1000,.cells [.sl .tok p,dI q,dI r,.own 2000,.own 2001,dI s,dI t,.own 1001]),(1001,.mp .str .int u),(2000,.row 72 .var v),(2001,.row 74 .con w)]⟩ (zH 0 (sK iS f158 [1,1,1] 0 (eX f158 [AcY] false R T)))
theorem cJ(R:oG)(T:MF)(q:AcX)(n0:Nat)(h c3:Int)(c4 c5:AcK)(c6:Int)(c7:AcL)(c8:AcM)(k:Int)(p o:AcK)(n:Int)(l:AcL)(m:AcM)(a:AcR)(i b c d:Int)(e:List (AcG×Int))(f:AcP)(g:AcQ):f6 R T q (n0+1) h c3 c4 c5 c6 c7 c8 k p o n l m a i b c d e f g=
 (zJ (decide (h<(q.length:Int)))
 (xM h q.length=true/\∃j:Int,∃az:Bool,yQ xB [AcY,.str (zW .str q h.toNat)] (zK a i b c d f g e) (dB az) (zK a j b c d f g e)/\
 zJ az
 (zJ (decide ((yF (1+h))=0))
 (((yQ zR [AcY,dI 1] (zK a j b c d f g e) (.tup []) (zK a j b c d f g e)/\
 R (.agg [dI (yF (1+h)),.sl .int p,.sl .int o,dI n,dS l,.sl .lit m]) (zK a j b c d f g e))\/
 ∃u,lY zR [AcY,dI 1] (zK a j b c d f g e) u/\T u))
 (zJ (decide ((yF (1+h))=1))
 (((∃r:Int,∃ba:AcK,yQ zP [AcY,.clp zN true 1000 0] (zK a j b c d f g e) (.sl .int ba) (zK a r b c d f g e)/\
 ((∃s:Int,∃bb:AcK,yQ zP [AcY,.clp zO true 1000 0] (zK a r b c d f g e) (.sl .int bb) (zK a s b c d f g e)/\
 ((∃bc:Int,∃bd:Int,yQ zN [AcY] (zK a s b c d f g e) (dI bd) (zK a bc b c d f g e)/\
 R (.agg [dI (yF (1+h)),.sl .int bb,.sl .int ba,dI bd,dS l,.sl .lit m]) (zK a bc b c d f g e))\/
 ∃u,lY zN [AcY] (zK a s b c d f g e) u/\T u))\/
 ∃u,lY zP [AcY,.clp zO true 1000 0] (zK a r b c d f g e) u/\T u))\/
 ∃u,lY zP [AcY,.clp zN true 1000 0] (zK a j b c d f g e) u/\T u))
 (zJ (decide ((yF (1+h))=2))
 (((∃t:Int,∃be:AcK,yQ zP [AcY,.clp zN true 1000 0] (zK a j b c d f g e) (.sl .int be) (zK a t b c d f g e)/\
 ((∃v:Int,∃bf:AcK,yQ zP [AcY,.clp zO true 1000 0] (zK a t b c d f g e) (.sl .int bf) (zK a v b c d f g e)/\
 ((∃bg:Int,∃bh:Int,yQ zN [AcY] (zK a v b c d f g e) (dI bh) (zK a bg b c d f g e)/\
 R (.agg [dI (yF (1+h)),.sl .int bf,.sl .int be,dI bh,dS l,.sl .lit m]) (zK a bg b c d f g e))\/
 ∃u,lY zN [AcY] (zK a v b c d f g e) u/\T u))\/
 ∃u,lY zP [AcY,.clp zO true 1000 0] (zK a t b c d f g e) u/\T u))\/
 ∃u,lY zP [AcY,.clp zN true 1000 0] (zK a j b c d f g e) u/\T u))
 (zJ (decide ((yF (1+h))=3))
 (((∃w:Int,∃bi:AcK,yQ zP [AcY,.clp zN true 1000 0] (zK a j b c d f g e) (.sl .int bi) (zK a w b c d f g e)/\
 ((∃x:Int,∃bj:AcK,yQ zP [AcY,.clp zO true 1000 0] (zK a w b c d f g e) (.sl .int bj) (zK a x b c d f g e)/\
 ((∃bk:Int,∃bl:Int,yQ zN [AcY] (zK a x b c d f g e) (dI bl) (zK a bk b c d f g e)/\
 R (.agg [dI (yF (1+h)),.sl .int bj,.sl .int bi,dI bl,dS l,.sl .lit m]) (zK a bk b c d f g e))\/
 ∃u,lY zN [AcY] (zK a x b c d f g e) u/\T u))\/
 ∃u,lY zP [AcY,.clp zO true 1000 0] (zK a w b c d f g e) u/\T u))\/
 ∃u,lY zP [AcY,.clp zN true 1000 0] (zK a j b c d f g e) u/\T u))
 (zJ (decide ((yF (1+h))=4))
 (((∃bm:Int,∃bn:AcK,yQ zP [AcY,.clp zO true 1000 0] (zK a j b c d f g e) (.sl .int bn) (zK a bm b c d f g e)/\
 R (.agg [dI (yF (1+h)),.sl .int bn,.sl .int o,dI n,dS l,.sl .lit m]) (zK a bm b c d f g e))\/
 ∃u,lY zP [AcY,.clp zO true 1000 0] (zK a j b c d f g e) u/\T u))
 (zJ (decide ((yF (1+h))=5))
 (((∃y:Int,∃bo:AcK,yQ zP [AcY,.clp zN true 1000 0] (zK a j b c d f g e) (.sl .int bo) (zK a y b c d f g e)/\
 ((∃bp:Int,∃bq:AcK,yQ xU [AcY,dI 2] (zK a y b c d f g e) (.sl .int bq) (zK a bp b c d f g e)/\
 R (.agg [dI (yF (1+h)),.sl .int bq,.sl .int bo,dI n,dS l,.sl .lit m]) (zK a bp b c d f g e))\/
 ∃u,lY xU [AcY,dI 2] (zK a y b c d f g e) u/\T u))\/
 ∃u,lY zP [AcY,.clp zN true 1000 0] (zK a j b c d f g e) u/\T u))
 (zJ (decide ((yF (1+h))=6))
 (((∃z:Int,∃br:AcK,yQ zP [AcY,.clp zO true 1000 0] (zK a j b c d f g e) (.sl .int br) (zK a z b c d f g e)/\
 ((∃bs:Int,∃bt:AcL,yQ rA [AcY,.clp xA false 1002 0] [(1000,.cells [.sl .tok a,dI z,dI b,.own 2000,.own 2001,dI c,dI d,.own 1001]),(2000,.row 72 .var f),(2001,.row 74 .con g),(1001,.mp .str .int e),(1002,.cells [AcY])] (dS bt) [(1000,.cells [.sl .tok a,dI bs,dI b,.own 2000,.own 2001,dI c,dI d,.own 1001]),(2000,.row 72 .var f),(2001,.row 74 .con g),(1001,.mp .str .int e),(1002,.cells [AcY])]/\
 R (.agg [dI (yF (1+h)),.sl .int br,.sl .int o,dI n,dS bt,.sl .lit m]) (zK a bs b c d f g e))\/
 ∃u,lY rA [AcY,.clp xA false 1002 0] [(1000,.cells [.sl .tok a,dI z,dI b,.own 2000,.own 2001,dI c,dI d,.own 1001]),(2000,.row 72 .var f),(2001,.row 74 .con g),(1001,.mp .str .int e),(1002,.cells [AcY])] u/\T u))\/
 ∃u,lY zP [AcY,.clp zO true 1000 0] (zK a j b c d f g e) u/\T u))
 (zJ (decide ((yF (1+h))=7))
 (((∃bu:Int,∃bv:AcK,yQ xU [AcY,dI 3] (zK a j b c d f g e) (.sl .int bv) (zK a bu b c d f g e)/\
 R (.agg [dI (yF (1+h)),.sl .int bv,.sl .int o,dI n,dS l,.sl .lit m]) (zK a bu b c d f g e))\/
 ∃u,lY xU [AcY,dI 3] (zK a j b c d f g e) u/\T u))
 (zJ (decide ((yF (1+h))=8))
 (((∃aa:Int,∃ab:Int,yQ zO [AcY] (zK a j b c d f g e) (dI ab) (zK a aa b c d f g e)/\
 ((∃bw:Int,∃ac:AcK,yQ zP [AcY,.clp zO true 1000 0] (zK a aa b c d f g e) (.sl .int ac) (zK a bw b c d f g e)/\
 xQ .int (([ab]).length+ac.length)=true/\R (.agg [dI (yF (1+h)),.sl .int (([ab])++ac),.sl .int o,dI n,dS l,.sl .lit m]) (zK a bw b c d f g e))\/
 ∃u,lY zP [AcY,.clp zO true 1000 0] (zK a aa b c d f g e) u/\T u))\/
 ∃u,lY zO [AcY] (zK a j b c d f g e) u/\T u))
 (zJ (decide ((yF (1+h))=9))
 (((∃bx:Int,∃bz:AcM,yQ tG [AcY,.clp yR true 1000 0] (zK a j b c d f g e) (.sl .lit bz) (zK a bx b c d f g e)/\
 R (.agg [dI (yF (1+h)),.sl .int p,.sl .int o,dI n,dS l,.sl .lit bz]) (zK a bx b c d f g e))\/
 ∃u,lY tG [AcY,.clp yR true 1000 0] (zK a j b c d f g e) u/\T u))
 (zJ (decide ((yF (1+h))=10))
 (((∃ad:Int,∃ca:AcK,yQ xU [AcY,dI 1] (zK a j b c d f g e) (.sl .int ca) (zK a ad b c d f g e)/\
 ((∃cb:Int,∃cc:zC,yQ yR [AcY] (zK a ad b c d f g e) (dL cc) (zK a cb b c d f g e)/\
 R (.agg [dI (yF (1+h)),.sl .int ca,.sl .int o,dI n,dS l,.sl .lit ([cc])]) (zK a cb b c d f g e))\/
 ∃u,lY yR [AcY] (zK a ad b c d f g e) u/\T u))\/
 ∃u,lY xU [AcY,dI 1] (zK a j b c d f g e) u/\T u))
 (R (.agg [dI (yF (1+h)),.sl .int p,.sl .int o,dI n,dS l,.sl .lit m]) (zK a j b c d f g e)))))))))))))
 (f6 R T q n0 (yF (h+1)) c3 c4 c5 c6 c7 c8 k p o n l m a j b c d e f g))
 (zJ (decide (k=0))
 (((yQ zR [AcY,dI 1] (zK a i b c d f g e) (.tup []) (zK a i b c d f g e)/\
 R (.agg [dI k,.sl .int p,.sl .int o,dI n,dS l,.sl .lit m]) (zK a i b c d f g e))\/
 ∃u,lY zR [AcY,dI 1] (zK a i b c d f g e) u/\T u))
 (zJ (decide (k=1))
 (((∃ae:Int,∃cd:AcK,yQ zP [AcY,.clp zN true 1000 0] (zK a i b c d f g e) (.sl .int cd) (zK a ae b c d f g e)/\
 ((∃af:Int,∃ce:AcK,yQ zP [AcY,.clp zO true 1000 0] (zK a ae b c d f g e) (.sl .int ce) (zK a af b c d f g e)/\
 ((∃cf:Int,∃cg:Int,yQ zN [AcY] (zK a af b c d f g e) (dI cg) (zK a cf b c d f g e)/\
 R (.agg [dI k,.sl .int ce,.sl .int cd,dI cg,dS l,.sl .lit m]) (zK a cf b c d f g e))\/
 ∃u,lY zN [AcY] (zK a af b c d f g e) u/\T u))\/
 ∃u,lY zP [AcY,.clp zO true 1000 0] (zK a ae b c d f g e) u/\T u))\/
 ∃u,lY zP [AcY,.clp zN true 1000 0] (zK a i b c d f g e) u/\T u))
 (zJ (decide (k=2))
 (((∃ag:Int,∃ch:AcK,yQ zP [AcY,.clp zN true 1000 0] (zK a i b c d f g e) (.sl .int ch) (zK a ag b c d f g e)/\
 ((∃ah:Int,∃ci:AcK,yQ zP [AcY,.clp zO true 1000 0] (zK a ag b c d f g e) (.sl .int ci) (zK a ah b c d f g e)/\
 ((∃cj:Int,∃ck:Int,yQ zN [AcY] (zK a ah b c d f g e) (dI ck) (zK a cj b c d f g e)/\
 R (.agg [dI k,.sl .int ci,.sl .int ch,dI ck,dS l,.sl .lit m]) (zK a cj b c d f g e))\/
 ∃u,lY zN [AcY] (zK a ah b c d f g e) u/\T u))\/
 ∃u,lY zP [AcY,.clp zO true 1000 0] (zK a ag b c d f g e) u/\T u))\/
 ∃u,lY zP [AcY,.clp zN true 1000 0] (zK a i b c d f g e) u/\T u))
 (zJ (decide (k=3))
 (((∃ai:Int,∃cl:AcK,yQ zP [AcY,.clp zN true 1000 0] (zK a i b c d f g e) (.sl .int cl) (zK a ai b c d f g e)/\
 ((∃aj:Int,∃cm:AcK,yQ zP [AcY,.clp zO true 1000 0] (zK a ai b c d f g e) (.sl .int cm) (zK a aj b c d f g e)/\
 ((∃cn:Int,∃co:Int,yQ zN [AcY] (zK a aj b c d f g e) (dI co) (zK a cn b c d f g e)/\
 R (.agg [dI k,.sl .int cm,.sl .int cl,dI co,dS l,.sl .lit m]) (zK a cn b c d f g e))\/
 ∃u,lY zN [AcY] (zK a aj b c d f g e) u/\T u))\/
 ∃u,lY zP [AcY,.clp zO true 1000 0] (zK a ai b c d f g e) u/\T u))\/
 ∃u,lY zP [AcY,.clp zN true 1000 0] (zK a i b c d f g e) u/\T u))
 (zJ (decide (k=4))
 (((∃cp:Int,∃cq:AcK,yQ zP [AcY,.clp zO true 1000 0] (zK a i b c d f g e) (.sl .int cq) (zK a cp b c d f g e)/\
 R (.agg [dI k,.sl .int cq,.sl .int o,dI n,dS l,.sl .lit m]) (zK a cp b c d f g e))\/
 ∃u,lY zP [AcY,.clp zO true 1000 0] (zK a i b c d f g e) u/\T u))
 (zJ (decide (k=5))
 (((∃ak:Int,∃cr:AcK,yQ zP [AcY,.clp zN true 1000 0] (zK a i b c d f g e) (.sl .int cr) (zK a ak b c d f g e)/\
 ((∃cs:Int,∃ct:AcK,yQ xU [AcY,dI 2] (zK a ak b c d f g e) (.sl .int ct) (zK a cs b c d f g e)/\
 R (.agg [dI k,.sl .int ct,.sl .int cr,dI n,dS l,.sl .lit m]) (zK a cs b c d f g e))\/
 ∃u,lY xU [AcY,dI 2] (zK a ak b c d f g e) u/\T u))\/
 ∃u,lY zP [AcY,.clp zN true 1000 0] (zK a i b c d f g e) u/\T u))
 (zJ (decide (k=6))
 (((∃al:Int,∃cu:AcK,yQ zP [AcY,.clp zO true 1000 0] (zK a i b c d f g e) (.sl .int cu) (zK a al b c d f g e)/\
 ((∃cv:Int,∃cw:AcL,yQ rA [AcY,.clp xA false 1002 0] [(1000,.cells [.sl .tok a,dI al,dI b,.own 2000,.own 2001,dI c,dI d,.own 1001]),(2000,.row 72 .var f),(2001,.row 74 .con g),(1001,.mp .str .int e),(1002,.cells [AcY])] (dS cw) [(1000,.cells [.sl .tok a,dI cv,dI b,.own 2000,.own 2001,dI c,dI d,.own 1001]),(2000,.row 72 .var f),(2001,.row 74 .con g),(1001,.mp .str .int e),(1002,.cells [AcY])]/\
 R (.agg [dI k,.sl .int cu,.sl .int o,dI n,dS cw,.sl .lit m]) (zK a cv b c d f g e))\/
 ∃u,lY rA [AcY,.clp xA false 1002 0] [(1000,.cells [.sl .tok a,dI al,dI b,.own 2000,.own 2001,dI c,dI d,.own 1001]),(2000,.row 72 .var f),(2001,.row 74 .con g),(1001,.mp .str .int e),(1002,.cells [AcY])] u/\T u))\/
 ∃u,lY zP [AcY,.clp zO true 1000 0] (zK a i b c d f g e) u/\T u))
 (zJ (decide (k=7))
 (((∃cx:Int,∃cy:AcK,yQ xU [AcY,dI 3] (zK a i b c d f g e) (.sl .int cy) (zK a cx b c d f g e)/\
 R (.agg [dI k,.sl .int cy,.sl .int o,dI n,dS l,.sl .lit m]) (zK a cx b c d f g e))\/
 ∃u,lY xU [AcY,dI 3] (zK a i b c d f g e) u/\T u))
 (zJ (decide (k=8))
 (((∃am:Int,∃an:Int,yQ zO [AcY] (zK a i b c d f g e) (dI an) (zK a am b c d f g e)/\
 ((∃cz:Int,∃ao:AcK,yQ zP [AcY,.clp zO true 1000 0] (zK a am b c d f g e) (.sl .int ao) (zK a cz b c d f g e)/\
 xQ .int (([an]).length+ao.length)=true/\R (.agg [dI k,.sl .int (([an])++ao),.sl .int o,dI n,dS l,.sl .lit m]) (zK a cz b c d f g e))\/
 ∃u,lY zP [AcY,.clp zO true 1000 0] (zK a am b c d f g e) u/\T u))\/
 ∃u,lY zO [AcY] (zK a i b c d f g e) u/\T u))
 (zJ (decide (k=9))
 (((∃da:Int,∃db:AcM,yQ tG [AcY,.clp yR true 1000 0] (zK a i b c d f g e) (.sl .lit db) (zK a da b c d f g e)/\
 R (.agg [dI k,.sl .int p,.sl .int o,dI n,dS l,.sl .lit db]) (zK a da b c d f g e))\/
 ∃u,lY tG [AcY,.clp yR true 1000 0] (zK a i b c d f g e) u/\T u))
 (zJ (decide (k=10))
 (((∃ap:Int,∃dc:AcK,yQ xU [AcY,dI 1] (zK a i b c d f g e) (.sl .int dc) (zK a ap b c d f g e)/\
 ((∃dd:Int,∃de:zC,yQ yR [AcY] (zK a ap b c d f g e) (dL de) (zK a dd b c d f g e)/\
 R (.agg [dI k,.sl .int dc,.sl .int o,dI n,dS l,.sl .lit ([de])]) (zK a dd b c d f g e))\/
 ∃u,lY yR [AcY] (zK a ap b c d f g e) u/\T u))\/
 ∃u,lY xU [AcY,dI 1] (zK a i b c d f g e) u/\T u))
 (R (.agg [dI k,.sl .int p,.sl .int o,dI n,dS l,.sl .lit m]) (zK a i b c d f g e)))))))))))))):=by kernel_rfl
theorem KG(a:AcR)(b c d e:Int)(f:AcP)(g:AcQ)(h:List (AcG×Int))(R:oG)(T:MF):FX iS f158 [AcY] (zK a b c d e f g h) [AcY] false R T=
 (yM V3 [] (.list .str) λi=>
 ∃n0,f6 R T i n0 0 0 ([]:AcK) ([]:AcK) 0 ([]:AcL) ([]:AcM) 0 ([]:AcK) ([]:AcK) 0 ([]:AcL) ([]:AcM) a b c d e h f g):=by kernel_rfl
theorem Lg(a:AcR)(b c d e:Int)(f:AcP)(g:AcQ)(h:List (AcG×Int)):UP iS f158 pY [AcY] (zK a b c d e f g h) [AcY] false:=Rf func158 (by kernel_rfl) ntmps158 rfl
theorem Lh(a:AcR)(b c d e:Int)(f:AcP)(g:AcQ)(h:List (AcG×Int)):VI iS f158 pY [AcY] (zK a b c d e f g h) [AcY] false:=T3 func158 (by kernel_rfl) ntmps158 rfl
def VG:wG:= {own:=[],live:=[],n:=27,first:=true,tdraw:=true}
theorem Gg(b:AcR)(c d e f:Int)(g:AcP)(h:AcQ)(a:List (AcG×Int))(R:oG)(T:MF):FX VG f159 [AcY] (zK b c d e f g h a) [AcY] false R T=
 ((λp:Prop=>((p)/\p))
 (((∃i:AcG,yQ tA [AcY] (zK b c d e f g h a) (.str i) (zK b c d e f g h a)/\
 (λp:Prop=>((((p)/\p))/\p))
 (zJ (!(MU .str .int i a))
 (((yQ zR [AcY,dI 5] (zK b c d e f g h a) (.tup []) (zK b c d e f g h a)/\
 R (dI (gH .str .int i a)) (zK b (yF (c+1)) d e f g h a))\/
 ∃u,lY zR [AcY,dI 5] (zK b c d e f g h a) u/\T u))
 (R (dI (gH .str .int i a)) (zK b (yF (c+1)) d e f g h a))))\/
 ∃u,lY tA [AcY] (zK b c d e f g h a) u/\T u))):=by kernel_rfl
theorem J9(a:AcR)(b c d e:Int)(f:AcP)(g:AcQ)(h:List (AcG×Int)):UP VG f159 zO [AcY] (zK a b c d e f g h) [AcY] false:=Rf func159 (by kernel_rfl) ntmps159 rfl
theorem Ia(a:AcR)(b c d e:Int)(f:AcP)(g:AcQ)(h:List (AcG×Int)):VI VG f159 zO [AcY] (zK a b c d e f g h) [AcY] false:=T3 func159 (by kernel_rfl) ntmps159 rfl
def U3:wG:= {own:=[],live:=[],n:=9,first:=true}
theorem Li(a:AcR)(b c d e:Int)(f:AcP)(g:AcQ)(h:List (AcG×Int))(i:Int)(R:oG)(T:MF):FX U3 f160 [AcY,dI i] (zK a b c d e f g h) [AcY] false R T=
 (∃j:Int,yQ fM [AcY] (zK a b c d e f g h) (dI j) (zK a b c d e f g h)/\
 T (.iface 158 (.agg [.int .i64 j,.int .i64 i].toArray))):=by kernel_rfl
theorem NA(a:AcR)(b c d e:Int)(f:AcP)(g:AcQ)(h:List (AcG×Int))(i:Int):VI U3 f160 zR [AcY,dI i] (zK a b c d e f g h) [AcY] false:=T3 func160 (by kernel_rfl) ntmps160 rfl
def iT:wG:= {own:=[14,22],live:=[(0,([0,1,5],[14,1000,1001,2000,2001]))],n:=27,first:=true,clp:=true}
def f8(R:oG)(T:MF)(a:Nat)(b:AcK)(c:AcR)(d e f g:Int)(h:List (AcG×Int))(i:AcP)(j:AcQ):Prop:=LP iT f211 [1,1,1,1,0,0,0] 0 a ⟨[(0,AcY),(1,.clp zN true 1000 0),(5,.own 14)],[(14,.row 3 .int b),(1000,.cells [.sl .tok c,dI d,dI e,.own 2000,.own 2001,dI f,dI g,.own 1001]),(1001,.mp .str .int h),(2000,.row 72 .var i),(2001,.row 74 .con j)]⟩ (zH 0 (sK iT f211 [1,1,1,1,1] 0 (eX f211 [AcY] false R T)))
theorem cK(R:oG)(T:MF)(k:Nat)(i:AcK)(a:AcR)(l b c d:Int)(e:List (AcG×Int))(f:AcP)(g:AcQ):f8 R T (k+1) i a l b c d e f g=
 (∃h:Int,∃m:Bool,yQ xB [AcY,.str (⟨#[44]⟩:AcG)] (zK a l b c d f g e) (dB m) (zK a h b c d f g e)/\
 zJ m
 (((∃n:Int,∃j:Int,yQ zN [AcY] (zK a h b c d f g e) (dI j) (zK a n b c d f g e)/\
 xQ .int (i.length+([j]).length)=true/\f8 R T k (i++([j])) a n b c d e f g)\/
 ∃u,lY zN [AcY] (zK a h b c d f g e) u/\T u))
 (((∃o:Int,yQ zM [AcY,.sl .str ([(⟨#[93]⟩:AcG)])] (zK a h b c d f g e) (.tup []) (zK a o b c d f g e)/\
 R (.sl .int i) (zK a o b c d f g e))\/
 ∃u,lY zM [AcY,.sl .str ([(⟨#[93]⟩:AcG)])] (zK a h b c d f g e) u/\T u))):=by kernel_rfl
theorem KH(a:AcR)(i b c d:Int)(e:AcP)(f:AcQ)(g:List (AcG×Int))(R:oG)(T:MF):FX iT f211 [AcY,.clp zN true 1000 0] (zK a i b c d e f g) [AcY] false R T=
 (((∃j:Int,yQ zM [AcY,.sl .str ([(⟨#[91]⟩:AcG)])] (zK a i b c d e f g) (.tup []) (zK a j b c d e f g)/\
 ∃h:Int,∃k:Bool,yQ xB [AcY,.str (⟨#[93]⟩:AcG)] (zK a j b c d e f g) (dB k) (zK a h b c d e f g)/\
 zJ k
 (R (.sl .int ([]:AcK)) (zK a h b c d e f g))
 (((∃l:Int,∃m:Int,yQ zN [AcY] (zK a h b c d e f g) (dI m) (zK a l b c d e f g)/\
 ∃n0,f8 R T n0 ([m]) a l b c d g e f)\/
 ∃u,lY zN [AcY] (zK a h b c d e f g) u/\T u)))\/
 ∃u,lY zM [AcY,.sl .str ([(⟨#[91]⟩:AcG)])] (zK a i b c d e f g) u/\T u)):=by kernel_rfl
theorem Lj(a:AcR)(b c d e:Int)(f:AcP)(g:AcQ)(h:List (AcG×Int)):UP iT f211 zP [AcY,.clp zN true 1000 0] (zK a b c d e f g h) [AcY] false:=Rf func211 (by kernel_rfl) ntmps211 rfl
theorem Lk(a:AcR)(b c d e:Int)(f:AcP)(g:AcQ)(h:List (AcG×Int)):VI iT f211 zP [AcY,.clp zN true 1000 0] (zK a b c d e f g h) [AcY] false:=T3 func211 (by kernel_rfl) ntmps211 rfl
def iU:wG:= {own:=[14,22],live:=[(0,([0,1,5],[14,1000,1001,2000,2001]))],n:=27,first:=true,clp:=true}
def f9(R:oG)(T:MF)(a:Nat)(b:AcK)(c:AcR)(d e f g:Int)(h:List (AcG×Int))(i:AcP)(j:AcQ):Prop:=LP iU f211 [1,1,1,1,0,0,0] 0 a ⟨[(0,AcY),(1,.clp zO true 1000 0),(5,.own 14)],[(14,.row 3 .int b),(1000,.cells [.sl .tok c,dI d,dI e,.own 2000,.own 2001,dI f,dI g,.own 1001]),(1001,.mp .str .int h),(2000,.row 72 .var i),(2001,.row 74 .con j)]⟩ (zH 0 (sK iU f211 [1,1,1,1,1] 0 (eX f211 [AcY] false R T)))
theorem cL(R:oG)(T:MF)(k:Nat)(i:AcK)(a:AcR)(l b c d:Int)(e:List (AcG×Int))(f:AcP)(g:AcQ):f9 R T (k+1) i a l b c d e f g=
 (∃h:Int,∃m:Bool,yQ xB [AcY,.str (⟨#[44]⟩:AcG)] (zK a l b c d f g e) (dB m) (zK a h b c d f g e)/\
 zJ m
 (((∃n:Int,∃j:Int,yQ zO [AcY] (zK a h b c d f g e) (dI j) (zK a n b c d f g e)/\
 xQ .int (i.length+([j]).length)=true/\f9 R T k (i++([j])) a n b c d e f g)\/
 ∃u,lY zO [AcY] (zK a h b c d f g e) u/\T u))
 (((∃o:Int,yQ zM [AcY,.sl .str ([(⟨#[93]⟩:AcG)])] (zK a h b c d f g e) (.tup []) (zK a o b c d f g e)/\
 R (.sl .int i) (zK a o b c d f g e))\/
 ∃u,lY zM [AcY,.sl .str ([(⟨#[93]⟩:AcG)])] (zK a h b c d f g e) u/\T u))):=by kernel_rfl
theorem KI(a:AcR)(i b c d:Int)(e:AcP)(f:AcQ)(g:List (AcG×Int))(R:oG)(T:MF):FX iU f211 [AcY,.clp zO true 1000 0] (zK a i b c d e f g) [AcY] false R T=
 (((∃j:Int,yQ zM [AcY,.sl .str ([(⟨#[91]⟩:AcG)])] (zK a i b c d e f g) (.tup []) (zK a j b c d e f g)/\
 ∃h:Int,∃k:Bool,yQ xB [AcY,.str (⟨#[93]⟩:AcG)] (zK a j b c d e f g) (dB k) (zK a h b c d e f g)/\
 zJ k
 (R (.sl .int ([]:AcK)) (zK a h b c d e f g))
 (((∃l:Int,∃m:Int,yQ zO [AcY] (zK a h b c d e f g) (dI m) (zK a l b c d e f g)/\
 ∃n0,f9 R T n0 ([m]) a l b c d g e f)\/
 ∃u,lY zO [AcY] (zK a h b c d e f g) u/\T u)))\/
 ∃u,lY zM [AcY,.sl .str ([(⟨#[91]⟩:AcG)])] (zK a i b c d e f g) u/\T u)):=by kernel_rfl
theorem Ll(a:AcR)(b c d e:Int)(f:AcP)(g:AcQ)(h:List (AcG×Int)):UP iU f211 zP [AcY,.clp zO true 1000 0] (zK a b c d e f g h) [AcY] false:=Rf func211 (by kernel_rfl) ntmps211 rfl
theorem Lm(a:AcR)(b c d e:Int)(f:AcP)(g:AcQ)(h:List (AcG×Int)):VI iU f211 zP [AcY,.clp zO true 1000 0] (zK a b c d e f g h) [AcY] false:=T3 func211 (by kernel_rfl) ntmps211 rfl
def kO:wG:= {own:=[5,15],live:=[(0,([0,5,7,8],[5,1000,1001,2000,2001]))],n:=18,first:=true}
def gU(a:Int)(R:oG)(T:MF)(b:Nat)(c:Int)(d:AcK)(e:AcR)(f g h i:Int)(j:List (AcG×Int))(k:AcP)(l:AcQ):Prop:=LP kO f212 [1,1,0,1,0,0] 0 b ⟨[(0,AcY),(5,.own 5),(7,dI a),(8,dI c)],[(5,.row 3 .int d),(1000,.cells [.sl .tok e,dI f,dI g,.own 2000,.own 2001,dI h,dI i,.own 1001]),(1001,.mp .str .int j),(2000,.row 72 .var k),(2001,.row 74 .con l)]⟩ (zH 0 (sK kO f212 [1,1,1] 0 (eX f212 [AcY] false R T)))
theorem eA(j:Int)(R:oG)(T:MF)(m:Nat)(k:Int)(h:AcK)(a:AcR)(i b c d:Int)(e:List (AcG×Int))(f:AcP)(g:AcQ):gU j R T (m+1) k h a i b c d e f g=
 (zJ (decide (k<j))
 (((∃n:Int,∃l:Int,yQ zO [AcY] (zK a i b c d f g e) (dI l) (zK a n b c d f g e)/\
 xQ .int (h.length+([l]).length)=true/\gU j R T m (yF (k+1)) (h++([l])) a n b c d e f g)\/
 ∃u,lY zO [AcY] (zK a i b c d f g e) u/\T u))
 (R (.sl .int h) (zK a i b c d f g e))):=by kernel_rfl
theorem Ln(a:AcR)(b c d e:Int)(f:AcP)(g:AcQ)(h:List (AcG×Int))(i:Int)(R:oG)(T:MF):FX kO f212 [AcY,dI i] (zK a b c d e f g h) [AcY] false R T=
 (∃n0,gU i R T n0 0 ([]:AcK) a b c d e h f g):=by kernel_rfl
theorem NB(a:AcR)(b c d e:Int)(f:AcP)(g:AcQ)(h:List (AcG×Int))(i:Int):UP kO f212 xU [AcY,dI i] (zK a b c d e f g h) [AcY] false:=Rf func212 (by kernel_rfl) ntmps212 rfl
theorem NC(a:AcR)(b c d e:Int)(f:AcP)(g:AcQ)(h:List (AcG×Int))(i:Int):VI kO f212 xU [AcY,dI i] (zK a b c d e f g h) [AcY] false:=T3 func212 (by kernel_rfl) ntmps212 rfl
def iV:wG:= {own:=[14,22],live:=[(0,([0,1,5],[14,1000,1001,1002,2000,2001]))],n:=27,first:=true,clp:=true}
def eB(R:oG)(T:MF)(a:Nat)(b:AcL)(c:AcR)(d e f g:Int)(h:List (AcG×Int))(i:AcP)(j:AcQ):Prop:=LP iV f213 [1,1,1,1,0,0,0] 0 a ⟨[(0,AcY),(1,.clp xA false 1002 0),(5,.own 14)],[(14,.row 40 (.list .int) b),(1000,.cells [.sl .tok c,dI d,dI e,.own 2000,.own 2001,dI f,dI g,.own 1001]),(1001,.mp .str .int h),(1002,.cells [AcY]),(2000,.row 72 .var i),(2001,.row 74 .con j)]⟩ (zH 0 (sK iV f213 [1,1,1,1,1] 0 (eX f213 [AcY,.ptr 1002 0] false R T)))
theorem cM(R:oG)(T:MF)(k:Nat)(i:AcL)(a:AcR)(l b c d:Int)(e:List (AcG×Int))(f:AcP)(g:AcQ):eB R T (k+1) i a l b c d e f g=
 (∃h:Int,∃m:Bool,yQ xB [AcY,.str (⟨#[44]⟩:AcG)] (zK a l b c d f g e) (dB m) (zK a h b c d f g e)/\
 zJ m
 (((∃n:Int,∃j:AcK,yQ xA [AcY] [(1000,.cells [.ptr 1001 0]),(1001,.cells [.sl .tok a,dI h,dI b,.own 2000,.own 2001,dI c,dI d,.own 1002]),(2000,.row 72 .var f),(2001,.row 74 .con g),(1002,.mp .str .int e)] (.sl .int j) [(1000,.cells [.ptr 1001 0]),(1001,.cells [.sl .tok a,dI n,dI b,.own 2000,.own 2001,dI c,dI d,.own 1002]),(2000,.row 72 .var f),(2001,.row 74 .con g),(1002,.mp .str .int e)]/\
 xQ (.list .int) (i.length+([j]).length)=true/\eB R T k (i++([j])) a n b c d e f g)\/
 ∃u,lY xA [AcY] [(1000,.cells [.ptr 1001 0]),(1001,.cells [.sl .tok a,dI h,dI b,.own 2000,.own 2001,dI c,dI d,.own 1002]),(2000,.row 72 .var f),(2001,.row 74 .con g),(1002,.mp .str .int e)] u/\T u))
 (((∃o:Int,yQ zM [AcY,.sl .str ([(⟨#[93]⟩:AcG)])] (zK a h b c d f g e) (.tup []) (zK a o b c d f g e)/\
 R (dS i) [(1000,.cells [.sl .tok a,dI o,dI b,.own 2000,.own 2001,dI c,dI d,.own 1001]),(2000,.row 72 .var f),(2001,.row 74 .con g),(1001,.mp .str .int e),(1002,.cells [AcY])])\/
 ∃u,lY zM [AcY,.sl .str ([(⟨#[93]⟩:AcG)])] (zK a h b c d f g e) u/\T u))):=by kernel_rfl
theorem KJ(a:AcR)(i b c d:Int)(e:AcP)(f:AcQ)(g:List (AcG×Int))(R:oG)(T:MF):FX iV f213 [AcY,.clp xA false 1002 0] [(1000,.cells [.sl .tok a,dI i,dI b,.own 2000,.own 2001,dI c,dI d,.own 1001]),(2000,.row 72 .var e),(2001,.row 74 .con f),(1001,.mp .str .int g),(1002,.cells [AcY])] [AcY,.ptr 1002 0] false R T=
 (((∃j:Int,yQ zM [AcY,.sl .str ([(⟨#[91]⟩:AcG)])] (zK a i b c d e f g) (.tup []) (zK a j b c d e f g)/\
 ∃h:Int,∃k:Bool,yQ xB [AcY,.str (⟨#[93]⟩:AcG)] (zK a j b c d e f g) (dB k) (zK a h b c d e f g)/\
 zJ k
 (R (dS ([]:AcL)) [(1000,.cells [.sl .tok a,dI h,dI b,.own 2000,.own 2001,dI c,dI d,.own 1001]),(2000,.row 72 .var e),(2001,.row 74 .con f),(1001,.mp .str .int g),(1002,.cells [AcY])])
 (((∃l:Int,∃m:AcK,yQ xA [AcY] [(1000,.cells [.ptr 1001 0]),(1001,.cells [.sl .tok a,dI h,dI b,.own 2000,.own 2001,dI c,dI d,.own 1002]),(2000,.row 72 .var e),(2001,.row 74 .con f),(1002,.mp .str .int g)] (.sl .int m) [(1000,.cells [.ptr 1001 0]),(1001,.cells [.sl .tok a,dI l,dI b,.own 2000,.own 2001,dI c,dI d,.own 1002]),(2000,.row 72 .var e),(2001,.row 74 .con f),(1002,.mp .str .int g)]/\
 ∃n0,eB R T n0 ([m]) a l b c d g e f)\/
 ∃u,lY xA [AcY] [(1000,.cells [.ptr 1001 0]),(1001,.cells [.sl .tok a,dI h,dI b,.own 2000,.own 2001,dI c,dI d,.own 1002]),(2000,.row 72 .var e),(2001,.row 74 .con f),(1002,.mp .str .int g)] u/\T u)))\/
 ∃u,lY zM [AcY,.sl .str ([(⟨#[91]⟩:AcG)])] (zK a i b c d e f g) u/\T u)):=by kernel_rfl
theorem Lo(a:AcR)(b c d e:Int)(f:AcP)(g:AcQ)(h:List (AcG×Int)):UP iV f213 rA [AcY,.clp xA false 1002 0] [(1000,.cells [.sl .tok a,dI b,dI c,.own 2000,.own 2001,dI d,dI e,.own 1001]),(2000,.row 72 .var f),(2001,.row 74 .con g),(1001,.mp .str .int h),(1002,.cells [AcY])] [AcY,.ptr 1002 0] false:=Rf func213 (by kernel_rfl) ntmps213 rfl
theorem Lp(a:AcR)(b c d e:Int)(f:AcP)(g:AcQ)(h:List (AcG×Int)):VI iV f213 rA [AcY,.clp xA false 1002 0] [(1000,.cells [.sl .tok a,dI b,dI c,.own 2000,.own 2001,dI d,dI e,.own 1001]),(2000,.row 72 .var f),(2001,.row 74 .con g),(1001,.mp .str .int h),(1002,.cells [AcY])] [AcY,.ptr 1002 0] false:=T3 func213 (by kernel_rfl) ntmps213 rfl
def ZA:wG:= {own:=[],live:=[],n:=6,first:=true,clp:=true}
theorem ND(a:AcR)(h b c d:Int)(e:AcP)(f:AcQ)(g:List (AcG×Int))(R:oG)(T:MF):FX ZA f214 [AcY] [(1000,.cells [.ptr 1001 0]),(1001,.cells [.sl .tok a,dI h,dI b,.own 2000,.own 2001,dI c,dI d,.own 1002]),(2000,.row 72 .var e),(2001,.row 74 .con f),(1002,.mp .str .int g)] [AcY] false R T=
 (((∃i:Int,∃j:AcK,yQ zP [AcY,.clp zN true 1000 0] (zK a h b c d e f g) (.sl .int j) (zK a i b c d e f g)/\
 R (.sl .int j) [(1000,.cells [.ptr 1001 0]),(1001,.cells [.sl .tok a,dI i,dI b,.own 2000,.own 2001,dI c,dI d,.own 1002]),(2000,.row 72 .var e),(2001,.row 74 .con f),(1002,.mp .str .int g)])\/
 ∃u,lY zP [AcY,.clp zN true 1000 0] (zK a h b c d e f g) u/\T u)):=by kernel_rfl
theorem Oe(a:AcR)(b c d e:Int)(f:AcP)(g:AcQ)(h:List (AcG×Int)):UP ZA f214 xA [AcY] [(1000,.cells [.ptr 1001 0]),(1001,.cells [.sl .tok a,dI b,dI c,.own 2000,.own 2001,dI d,dI e,.own 1002]),(2000,.row 72 .var f),(2001,.row 74 .con g),(1002,.mp .str .int h)] [AcY] false:=Rf func214 (by kernel_rfl) ntmps214 rfl
theorem Og(a:AcR)(b c d e:Int)(f:AcP)(g:AcQ)(h:List (AcG×Int)):VI ZA f214 xA [AcY] [(1000,.cells [.ptr 1001 0]),(1001,.cells [.sl .tok a,dI b,dI c,.own 2000,.own 2001,dI d,dI e,.own 1002]),(2000,.row 72 .var f),(2001,.row 74 .con g),(1002,.mp .str .int h)] [AcY] false:=T3 func214 (by kernel_rfl) ntmps214 rfl
def lG:wG:= {own:=[6,14,22],live:=[(0,([0,1,5],[14,1000,1001,2000,2001]))],n:=27,first:=true,clp:=true}
def iW(R:oG)(T:MF)(a:Nat)(b:AcM)(c:AcR)(d e f g:Int)(h:List (AcG×Int))(i:AcP)(j:AcQ):Prop:=LP lG Tryz.f215 [1,1,1,1,0,0,0] 0 a ⟨[(0,AcY),(1,.clp yR true 1000 0),(5,.own 14)],[(14,.row 114 .lit b),(1000,.cells [.sl .tok c,dI d,dI e,.own 2000,.own 2001,dI f,dI g,.own 1001]),(1001,.mp .str .int h),(2000,.row 72 .var i),(2001,.row 74 .con j)]⟩ (zH 0 (sK lG Tryz.f215 [1,1,1,1,1] 0 (eX Tryz.f215 [AcY] false R T)))
theorem fc(R:oG)(T:MF)(k:Nat)(i:AcM)(a:AcR)(l b c d:Int)(e:List (AcG×Int))(f:AcP)(g:AcQ):iW R T (k+1) i a l b c d e f g=
 (∃h:Int,∃m:Bool,yQ xB [AcY,.str (⟨#[44]⟩:AcG)] (zK a l b c d f g e) (dB m) (zK a h b c d f g e)/\
 zJ m
 (((∃n:Int,∃j:zC,yQ yR [AcY] (zK a h b c d f g e) (dL j) (zK a n b c d f g e)/\
 xQ .lit (i.length+([j]).length)=true/\iW R T k (i++([j])) a n b c d e f g)\/
 ∃u,lY yR [AcY] (zK a h b c d f g e) u/\T u))
 (((∃o:Int,yQ zM [AcY,.sl .str ([(⟨#[93]⟩:AcG)])] (zK a h b c d f g e) (.tup []) (zK a o b c d f g e)/\
 R (.sl .lit i) (zK a o b c d f g e))\/
 ∃u,lY zM [AcY,.sl .str ([(⟨#[93]⟩:AcG)])] (zK a h b c d f g e) u/\T u))):=by kernel_rfl
theorem NF(a:AcR)(i b c d:Int)(e:AcP)(f:AcQ)(g:List (AcG×Int))(R:oG)(T:MF):FX lG Tryz.f215 [AcY,.clp yR true 1000 0] (zK a i b c d e f g) [AcY] false R T=
 (((∃j:Int,yQ zM [AcY,.sl .str ([(⟨#[91]⟩:AcG)])] (zK a i b c d e f g) (.tup []) (zK a j b c d e f g)/\
 ∃h:Int,∃k:Bool,yQ xB [AcY,.str (⟨#[93]⟩:AcG)] (zK a j b c d e f g) (dB k) (zK a h b c d e f g)/\
 zJ k
 (R (.sl .lit ([]:AcM)) (zK a h b c d e f g))
 (((∃l:Int,∃m:zC,yQ yR [AcY] (zK a h b c d e f g) (dL m) (zK a l b c d e f g)/\
 ∃n0,iW R T n0 ([m]) a l b c d g e f)\/
 ∃u,lY yR [AcY] (zK a h b c d e f g) u/\T u)))\/
 ∃u,lY zM [AcY,.sl .str ([(⟨#[91]⟩:AcG)])] (zK a i b c d e f g) u/\T u)):=by kernel_rfl
theorem Oh(a:AcR)(b c d e:Int)(f:AcP)(g:AcQ)(h:List (AcG×Int)):UP lG Tryz.f215 tG [AcY,.clp yR true 1000 0] (zK a b c d e f g h) [AcY] false:=Rf func215 (by kernel_rfl) ntmps215 rfl
theorem Oi(a:AcR)(b c d e:Int)(f:AcP)(g:AcQ)(h:List (AcG×Int)):VI lG Tryz.f215 tG [AcY,.clp yR true 1000 0] (zK a b c d e f g h) [AcY] false:=T3 func215 (by kernel_rfl) ntmps215 rfl
def iX:wG:= {own:=[2,3],live:=[(0,([0,2,3,9,10,11],[2,3,1000,1001,2000,2001]))],n:=30,first:=true}
def eC(R:oG)(T:MF)(a:Nat)(b c d e f g h:Int)(i:AcR)(j k l m:Int)(n:List (AcG×Int))(o:AcP)(p:AcQ):Prop:=LP iX Tryz.f216 [1,1,0,1,0,0] 0 a ⟨[(0,AcY),(2,.ptr 2 0),(3,.ptr 3 0),(9,.sl .str ([(⟨#[60,61]⟩:AcG),(⟨#[62,61]⟩:AcG),(⟨#[61,61]⟩:AcG),(⟨#[33,61]⟩:AcG)])),(10,dI (([(⟨#[60,61]⟩:AcG),(⟨#[62,61]⟩:AcG),(⟨#[61,61]⟩:AcG),(⟨#[33,61]⟩:AcG)]).length:Int)),(11,dI b)],[(2,.cells [dI c,dI d,dI e]),(3,.cells [dI f,dI g,dI h]),(1000,.cells [.sl .tok i,dI j,dI k,.own 2000,.own 2001,dI l,dI m,.own 1001]),(1001,.mp .str .int n),(2000,.row 72 .var o),(2001,.row 74 .con p)]⟩ (zH 0 (sK iX Tryz.f216 [1,1,1] 0 (eX Tryz.f216 [AcY] false R T)))
theorem cN(R:oG)(T:MF)(n:Nat)(h o p q j l m:Int)(a:AcR)(i b c d:Int)(e:List (AcG×Int))(f:AcP)(g:AcQ):eC R T (n+1) h o p q j l m a i b c d e f g=
 (zJ (decide (h<(([(⟨#[60,61]⟩:AcG),(⟨#[62,61]⟩:AcG),(⟨#[61,61]⟩:AcG),(⟨#[33,61]⟩:AcG)]).length:Int)))
 (xM h ([(⟨#[60,61]⟩:AcG),(⟨#[62,61]⟩:AcG),(⟨#[61,61]⟩:AcG),(⟨#[33,61]⟩:AcG)]).length=true/\∃k:Int,∃r:Bool,yQ xB [AcY,.str (zW .str ([(⟨#[60,61]⟩:AcG),(⟨#[62,61]⟩:AcG),(⟨#[61,61]⟩:AcG),(⟨#[33,61]⟩:AcG)]) h.toNat)] (zK a i b c d f g e) (dB r) (zK a k b c d f g e)/\
 zJ r
 (((∃s:Int,∃t:Int,yQ zN [AcY] (zK a k b c d f g e) (dI t) (zK a s b c d f g e)/\
 R (.agg [dI j,dI (yF (1+h)),dI t]) (zK a s b c d f g e))\/
 ∃u,lY zN [AcY] (zK a k b c d f g e) u/\T u))
 (eC R T n (yF (h+1)) o p q j l m a k b c d e f g))
 (((yQ zR [AcY,dI 1] (zK a i b c d f g e) (.tup []) (zK a i b c d f g e)/\
 R (.agg [dI j,dI l,dI m]) (zK a i b c d f g e))\/
 ∃u,lY zR [AcY,dI 1] (zK a i b c d f g e) u/\T u))):=by kernel_rfl
theorem KK(a:AcR)(h b c d:Int)(e:AcP)(f:AcQ)(g:List (AcG×Int))(R:oG)(T:MF):FX iX Tryz.f216 [AcY] (zK a h b c d e f g) [AcY] false R T=
 (((∃i:Int,∃j:Int,yQ zO [AcY] (zK a h b c d e f g) (dI j) (zK a i b c d e f g)/\
 ∃n0,eC R T n0 0 0 0 0 j 0 0 a i b c d g e f)\/
 ∃u,lY zO [AcY] (zK a h b c d e f g) u/\T u)):=by kernel_rfl
theorem Lq(a:AcR)(b c d e:Int)(f:AcP)(g:AcQ)(h:List (AcG×Int)):UP iX Tryz.f216 yR [AcY] (zK a b c d e f g h) [AcY] false:=Rf func216 (by kernel_rfl) ntmps216 rfl
theorem Lr(a:AcR)(b c d e:Int)(f:AcP)(g:AcQ)(h:List (AcG×Int)):VI iX Tryz.f216 yR [AcY] (zK a b c d e f g h) [AcY] false:=T3 func216 (by kernel_rfl) ntmps216 rfl
def U4:wG:= {own:=[],live:=[],n:=28,first:=true}
theorem Ls(a:AcR)(b c d e:Int)(f:AcP)(g:AcQ)(h:List (AcG×Int))(R:oG):FH U4 Tryz.f217 [AcY] (zK a b c d e f g h) [AcY] false R=
 (zJ (decide (b<(a.length:Int)))
 (xM b a.length=true/\R (dI ((zW .tok a b.toNat).at_)) (zK a b c d e f g h))
 (R (dI c) (zK a b c d e f g h))):=by kernel_rfl
theorem NG(a:AcR)(b c d e:Int)(f:AcP)(g:AcQ)(h:List (AcG×Int)):nW U4 Tryz.f217 fM [AcY] (zK a b c d e f g h) [AcY] false:=mJ func217 (by kernel_rfl) ntmps217 rfl
inductive Pr (α:Type)|ok (x:α)(j:Nat)|err (j:Nat)(e:Int)
def Pr.on{α:Type}(r:Pr α)(K:α->Nat->Prop)(T:Nat->Int->Prop):Prop:=match r with
 | .ok x j=>K x j
 | .err j e=>T j e
def Pr.bind{α β:Type}(r:Pr α)(f:α->Nat->Pr β):Pr β:=match r with
 | .ok x j=>f x j
 | .err j e=> .err j e
theorem Pr.on_bind{α β:Type}{r:Pr α}{f:α->Nat->Pr β}{K:β->Nat->Prop}{T:Nat->Int->Prop}:(r.bind f).on K T↔r.on (λx j=>(f x j).on K T) T:=by cases r<;>rfl
theorem Pr.on_mono{α:Type}{r:Pr α}{K K':α->Nat->Prop}{T T':Nat->Int->Prop}(h:r.on K T)(hK:∀x j,K x j->K' x j)(hT:∀j e,T j e->T' j e):r.on K' T':=by
 cases r
 ·exact hK _ _ h
 ·exact hT _ _ h
section
variable(isName:AcG->Bool)(yJ:AcG->Int)(names:List (AcG×Int))(l:AcR)
def pD(j:Nat):uB:=l.getD j Ty.tok.dflt
def tT(en:Int)(j:Nat):Int:=if j<l.length then(pD l j).at_ else en
def xY(s:AcG)(j:Nat):Bool:=decide (j<l.length)&&decide ((pD l j).text=s)
def nD(s:AcG)(j:Nat):Nat:=if xY l s j=true then j+1 else j
def xO:AcX->Nat->Pr Unit
 |[],j=> .ok () j
 |s::r,j=>if xY l s j=true then xO r (j+1)else .err j 1
def Xy(j:Nat):Pr AcG:=if j<l.length/\isName (pD l j).text=true then .ok (pD l j).text j else .err j 1
def vP(j:Nat):Pr Int:=(Xy isName l j).bind λs _=>match uZ .str .int s names with
 |some n=> .ok n (j+1)
 |none=> .err j 5
def AE(sg:Int)(j:Nat):Pr Int:=if j<l.length/\(pD l j).kind=2/\¬(sg<0/\(pD l j).text=⟨#[48]⟩)then .ok (sg*yJ (pD l j).text) (j+1)else .err j 1
def kP(j:Nat):Pr Int:=if xY l ⟨#[45]⟩ j=true then AE yJ l (-1) (j+1)else AE yJ l 1 j
def uY{α:Type}(f:Nat->Pr α):Nat->List α->Nat->Pr (List α)
 |0,acc,j=> .err j 1
 |n+1,acc,j=>if xY l ⟨#[44]⟩ j=true then(f (j+1)).bind λx j=>uY f n (acc++[x]) j else(xO l [⟨#[93]⟩] j).bind λ_ j=> .ok acc j
def wZ{α:Type}(f:Nat->Pr α)(j:Nat):Pr (List α):=(xO l [⟨#[91]⟩] j).bind λ_ j=>
 if xY l ⟨#[93]⟩ j=true then .ok [] (j+1)else(f j).bind λx j=>uY l f (l.length+1) [x] j
def X2:Nat->AcK->Nat->Pr AcK
 |0,acc,j=> .ok acc j
 |n+1,acc,j=>(vP isName names l j).bind λx j=>X2 n (acc++[x]) j
def opW:AcX:=[⟨#[60,61]⟩,⟨#[62,61]⟩,⟨#[61,61]⟩,⟨#[33,61]⟩]
def iY:AcX->Int->Nat->Option Int
 |[],_,_=>none
 |s::r,i,j=>if xY l s j=true then some i else iY r (i+1) j
def eD(j:Nat):Pr zC:=(vP isName names l j).bind λv j=>match iY l opW 1 j with
 |some o=>(kP yJ l (j+1)).bind λn j=> .ok ⟨v,o,n⟩ j
 |none=> .err j 1
def Ib:AcX:=[⟨#[108,101]⟩,⟨#[101,113]⟩,⟨#[110,101]⟩,⟨#[100,105,102,102,101,114]⟩,⟨#[101,108,101,109,101,110,116]⟩,⟨#[116,97,98,108,101]⟩,⟨#[116,105,109,101,115]⟩,⟨#[109,97,120]⟩,⟨#[99,108,97,117,115,101]⟩,⟨#[105,102,102]⟩]
def fm(o:Int)(j:Nat):Pr zF:=
 if o<=3 then(wZ l (kP yJ l) j).bind λcs j=>(wZ l (vP isName names l) j).bind λvs j=>(kP yJ l j).bind λn j=> .ok ⟨o,vs,cs,n,[],[]⟩ j
 else if o=4 then(wZ l (vP isName names l) j).bind λvs j=> .ok ⟨o,vs,[],0,[],[]⟩ j
 else if o=5 then(wZ l (kP yJ l) j).bind λcs j=>(X2 isName names l 2 [] j).bind λvs j=> .ok ⟨o,vs,cs,0,[],[]⟩ j
 else if o=6 then(wZ l (vP isName names l) j).bind λvs j=>(wZ l (wZ l (kP yJ l)) j).bind λrs j=> .ok ⟨o,vs,[],0,rs,[]⟩ j
 else if o=7 then(X2 isName names l 3 [] j).bind λvs j=> .ok ⟨o,vs,[],0,[],[]⟩ j
 else if o=8 then(vP isName names l j).bind λv j=>(wZ l (vP isName names l) j).bind λvs j=> .ok ⟨o,v::vs,[],0,[],[]⟩ j
 else if o=9 then(wZ l (eD isName yJ names l) j).bind λls j=> .ok ⟨o,[],[],0,[],ls⟩ j
 else(X2 isName names l 1 [] j).bind λvs j=>(eD isName yJ names l j).bind λx j=> .ok ⟨o,vs,[],0,[],[x]⟩ j
def Oj(j:Nat):Pr zF:=match iY l Ib 1 j with
 |some o=>fm isName yJ names l o (j+1)
 |none=> .err j 1
end
theorem uQ{l:AcR}{s:AcG}{j:Nat}(h:xY l s j=true):j<l.length:=by
 simp only[xY,If,decide_eq_true_eq]at h;exact h.1
abbrev X3(l:AcR)(en goal mvar:Int)(pv:AcP)(pc:AcQ)(names:List (AcG×Int))(j:Nat):List (Nat×yN):=
 [(1000,.cells [.sl .tok l,dI j,dI en,.own 2000,.own 2001,dI goal,dI mvar,.own 1001]),(2000,.row 72 .var pv),(2001,.row 74 .con pc),(1001,.mp .str .int names)]
abbrev zdZ(l:AcR)(en goal mvar:Int)(pv:AcP)(pc:AcQ)(names:List (AcG×Int))(j:Int):List (Nat×yN):=
 [(1000,.cells [.sl .tok l,dI j,dI en,.own 2000,.own 2001,dI goal,dI mvar,.own 1001]),(2000,.row 72 .var pv),(2001,.row 74 .con pc),(1001,.mp .str .int names)]
abbrev flt(a e:Int):Value:=.iface 158 (.agg [.int .i64 a,.int .i64 e].toArray)
def KL{α:Type}(f:AcH)(args:AcO)(h:Nat->List (Nat×yN))(hr:Nat->Int)(j:Nat)(d:α->D)(r:Pr α):Prop:=match r with
 | .ok x j'=>yQ f args (h j) (d x) (h j')
 | .err j' e=>lY f args (h j) (flt (hr j') e)
theorem KL.call{α:Type}{f:AcH}{args:AcO}{h:Nat->List (Nat×yN)}{hr:Nat->Int}{j:Nat}{d:α->D}{r:Pr α}{X:α->Nat->Prop}{Y:Nat->Int->Prop}{G:Prop}(hs:KL f args h hr j d r)
  (hok:∀x j',yQ f args (h j) (d x) (h j')->X x j'->G) (herr:∀j' e,lY f args (h j) (flt (hr j') e)->Y j' e->G) (hk:r.on X Y):G:=by
 cases r with
 |ok x j'=>exact hok x j' hs hk
 |err j' e=>exact herr j' e hs hk
theorem Yj{α:Type}{A:wG}{fn:Func}{f:AcH}{args roots:AcO}{own:Bool}{h:Nat->List (Nat×yN)}{hr:Nat->Int}{j:Nat}{d:α->D}{r:Pr α}(hs:UP A fn f args (h j) roots own)(ht:VI A fn f args (h j) roots own)
  (hx:(∀x∈args,B7 x)->(∀k o,yG k (h j)=some o->okO o)->∀(R:D->List (Nat×yN)->Prop) (T:Value->Prop),r.on (λx j'=>R (d x) (h j')) (λj' e=>T (flt (hr j') e))->FX A fn args (h j) roots own R T):KL f args h hr j d r:=by
 cases r with
 |ok x j'=>exact hs λh1 h2=>hx h1 h2 _ _ ⟨rfl,rfl⟩
 |err j' e=>exact ht λh1 h2=>hx h1 h2 _ _ rfl
section
variable {l:AcR}{en goal mvar:Int}{pv:AcP}{pc:AcQ}{names:List (AcG×Int)}
theorem Sb{j:Nat}(h:∀k o,yG k (X3 l en goal mvar pv pc names j)=some o->okO o):l.length*32<=140737488355328:=by
 have:=h 1000 _ rfl (.sl .tok l) (by simp)
 exact this.1
theorem KM(j:Nat):zW .tok l (j:Int).toNat=pD l j:=by rw[Aab];rfl
theorem zcv(j:Nat):yQ fM [AcY] (X3 l en goal mvar pv pc names j) (dI (tT l en j)) (X3 l en goal mvar pv pc names j):=
 NG _ _ _ _ _ _ _ _ λok ok2=>by
  rw[Ls,tT,KM]
  by_cases h:j<l.length
  ·rw[As h]
   exact dt (by omega) ⟨zE h,rfl,rfl⟩
  ·rw[An h]
   exact df (by omega) ⟨rfl,rfl⟩
theorem pE(j:Nat)(e:Int):lY zR [AcY,dI e] (X3 l en goal mvar pv pc names j) (flt (tT l en j) e):=
 NA _ _ _ _ _ _ _ _ _ λok ok2=>by
  rw[Li];exact⟨_,zcv j,rfl⟩
theorem xR(j:Nat)(s:AcG):yQ xB [AcY,.str s] (X3 l en goal mvar pv pc names j) (dB (xY l s j)) (X3 l en goal mvar pv pc names (nD l s j)):=
 Nv _ _ _ _ _ _ _ _ _ λok ok2=>by
  have hl:=Sb ok2;rw[Ld,KM,nD,xY]
  by_cases h:j<l.length
  ·refine df (by omega) ⟨zE h,?_⟩
   rw[Or h,AaV]
   by_cases e:(pD l j).text=s
   ·rw[Or e,As rfl]
    refine(show zJ (!true) _ _ from⟨rfl,?_⟩)
    rw[kI (by omega)]
   ·rw[Aah e,An (by decide)]
    exact⟨rfl,rfl⟩
  ·rw[Aah h,AaY,An (by decide)]
   exact dt (by omega) ⟨rfl,rfl⟩
theorem sJ(j:Nat)(ss:AcX):KL zM [AcY,.sl .str ss] (X3 l en goal mvar pv pc names) (tT l en) j (λ_=> .tup []) (xO l ss j):=
 Yj (Ny _ _ _ _ _ _ _ _ _) (Nz _ _ _ _ _ _ _ _ _) λok ok2 R T hx=>by
  have hl:ss.length<=9223372036854775807:=cW (t:=.str) (ok _ (by simp))
  rw[Lf]
  refine up (I:=λn v (a:Nat)=>lF ss R T n v l (a:Int) en goal mvar names pv pc) (a:=j) 0 ss.length rfl (AT _) hl
   (λk a=>(xO l (ss.drop k) a).on (λ_ j'=>R (.tup []) (X3 l en goal mvar pv pc names j')) (λj' e=>T (flt (tT l en j') e))) (by simpa using hx) λn k a _ hk ha hn=> ?_
  rw[QV]
  by_cases h:k<ss.length
  ·rw[zY h,zT (t:=.str) h]
   rw[AaF h,xO]at ha
   refine⟨zE h,_,_,xR a _,?_⟩;unfold nD;cases hb:xY l ss[k] a with
   |true=>
    rw[hb,As rfl]at ha
    rw[As rfl];exact bnf rfl (hn h (a+1) ha)
   |false=>
    rw[hb,An (by decide)]at ha
    rw[An (by decide)]
    exact bnt rfl (.inr ⟨_,pE a 1,ha⟩)
  ·have hk':k=ss.length:=by omega
   subst hk';rw[zS];rw[Abt (BY _),xO]at ha
   exact ha
theorem Ic(j:Nat):KL tA [AcY] (X3 l en goal mvar pv pc names) (tT l en) j .str (Xy zD l j):=
 Yj (Nw _ _ _ _ _ _ _ _) (Nx _ _ _ _ _ _ _ _) λok ok2 R T hx=>by
  rw[Le,KM];rw[Xy]at hx
  by_cases h:j<l.length
  ·refine df (by omega) ⟨zE h,zI (t:=.bool) (LS _) ?_⟩
   cases hb:zD (pD l j).text with
   |true=>
    rw[As ⟨h,hb⟩]at hx
    exact bnf rfl ⟨zE h,hx⟩
   |false=>
    rw[An (by rw[hb];rintro⟨_,h⟩;cases h)]at hx
    exact bnt rfl (.inr ⟨_,pE j 1,hx⟩)
  ·rw[An λx=>h x.1]at hx
   exact dt (by omega) (.inr ⟨_,pE j 1,hx⟩)
end
def yJ(s:AcG):Int:=(Lib.atoi s.data.toList).getD 0
def YP(l:AcR):Prop:=∀t∈l,t.kind=2->t.text.size<=18/\∃n,Lib.atoi t.text.data.toList=some n/\0<=n/\n<=1000000
theorem zmq{s:AcG}{n:Int}(hl:s.size<=18)(h:Lib.atoi s.data.toList=some n)(hn:yY n):yQ uK [.str s] [] (.tup [dI n,.undef]) []:=by
 intro w S vs pl hS hsz hv hh hg;have e0:=((hv 0 _ rfl).flat (d:=.str s) rfl).str_inv.1
 have e:vs= #[.string s]:=by
  have hl:vs.size=1:=hsz;apply Array.ext
  ·simpa using hl
  ·intro i h1 h2
   have:i=0:=by omega
   subst this;simpa[Aae,h1]using e0
 subst e;refine(strconv_Atoi s n hl h w).mono λe w' ⟨he,t,hw⟩=> ?_
 subst hw;refine⟨_,λ_=>False,pl,he,Rp.rd (.tup _ _ rfl λi d hd=> ?_),⟨λk o h=>(by cases h),λk o b h=>(by cases h),λk k' o o' b h=>(by cases h)⟩,λb h=>h.elim,λb h=>h.elim,λb ⟨k,o,h,_⟩=>(by cases h),λ_ _=>rfl,.of (Lib.bytesWorld_below _ _ _)⟩
 match i,hd with
 |0,hd=>injection hd with hd;subst hd;exact .int_mk hn
 |1,hd=>injection hd with hd;subst hd;exact .undef _
theorem zkR{l:AcR}(hd:YP l){j:Nat}(hj:j<l.length)(hk:(pD l j).kind=2):yQ uK [.str (pD l j).text] [] (.tup [dI (yJ (pD l j).text),.undef]) []/\0<=yJ (pD l j).text/\yJ (pD l j).text<=1000000:=by
 have hm:pD l j∈l:=by
  unfold pD;rw[Aam,Aac hj];exact AS hj
 obtain⟨h1,n,h2,h3,h4⟩:=hd _ hm hk;have e:yJ (pD l j).text=n:=by rw[yJ,h2];rfl
 rw[e];exact⟨zmq h1 h2 (by unfold yY;omega),h3,h4⟩
section
variable {l:AcR}{en goal mvar:Int}{pv:AcP}{pc:AcQ}{names:List (AcG×Int)}
theorem YQ(hd:YP l)(j:Nat):KL zN [AcY] (X3 l en goal mvar pv pc names) (tT l en) j (λn:Int=>dI n) (kP yJ l j):=
 Yj (J7 _ _ _ _ _ _ _ _) (J8 _ _ _ _ _ _ _ _) λok ok2 R T hx=>by
  have hl:=Sb ok2;rw[Gf];refine⟨_,_,xR j _,?_⟩;rw[kP]at hx
  unfold nD;cases hb:xY l ⟨#[45]⟩ j with
  |true=>
   rw[hb,As rfl]at hx
   rw[As rfl];refine bt rfl ?_;generalize j+1=i at hx⊢
   rw[AE]at hx
   by_cases h:i<l.length
   ·refine df (by omega) ⟨zE h,?_⟩
    rw[KM]
    by_cases hk:(pD l i).kind=2
    ·refine dnf hk (dt (by decide) ⟨zE h,?_⟩)
     by_cases h0:(pD l i).text=⟨#[48]⟩
     ·rw[An λx=>x.2.2 ⟨by decide,h0⟩]at hx
      exact dt h0 (.inr ⟨_,pE i 1,hx⟩)
     ·rw[As ⟨h,hk,λx=>h0 x.2⟩]at hx
      obtain⟨q1,q2,q3⟩:=zkR hd h hk;have hX:=(⟨_,q1,by rw[wL (by omega) (by omega),kI (by omega)];exact hx⟩:∃a:Int,yQ uK [.str (pD l i).text] [] (.tup [dI a,.undef]) []/\R (dI (yF ((-1)*a))) (zdZ l en goal mvar pv pc names (yF ((i:Int)+1))))
      exact df h0 ⟨⟨zE h,hX⟩,zE h,hX⟩
    ·rw[An λx=>hk x.2.1]at hx
     exact LU hk (.inr ⟨_,pE i 1,hx⟩)
   ·rw[An λx=>h x.1]at hx
    exact dt (by omega) (.inr ⟨_,pE i 1,hx⟩)
  |false=>
   rw[hb,An (by decide)]at hx
   rw[An (by decide)]
   refine bf rfl ?_;rw[AE]at hx
   by_cases h:j<l.length
   ·refine df (by omega) ⟨zE h,?_⟩
    rw[KM]
    by_cases hk:(pD l j).kind=2
    ·refine dnf hk (df (by decide) ?_)
     rw[As ⟨h,hk,λx=>At x.1 (by decide)⟩]at hx
     obtain⟨q1,q2,q3⟩:=zkR hd h hk;have hX:=(⟨_,q1,by rw[wL (by omega) (by omega),kI (by omega)];exact hx⟩:∃a:Int,yQ uK [.str (pD l j).text] [] (.tup [dI a,.undef]) []/\R (dI (yF (1*a))) (zdZ l en goal mvar pv pc names (yF ((j:Int)+1))))
     exact⟨⟨zE h,hX⟩,zE h,hX⟩
    ·rw[An λx=>hk x.2.1]at hx
     exact LU hk (.inr ⟨_,pE j 1,hx⟩)
   ·rw[An λx=>h x.1]at hx
    exact dt (by omega) (.inr ⟨_,pE j 1,hx⟩)
theorem ziH{s:AcG}{es:List (AcG×Int)}{n:Int}(h:uZ .str .int s es=some n):MU .str .int s es=true/\gH .str .int s es=n:=by
 unfold MU gH;rw[h];exact⟨rfl,rfl⟩
theorem ziI{s:AcG}{es:List (AcG×Int)}(h:uZ .str .int s es=none):MU .str .int s es=false:=by
 unfold MU;rw[h];rfl
theorem Wo(j:Nat):KL zO [AcY] (X3 l en goal mvar pv pc names) (tT l en) j (λn:Int=>dI n) (vP zD names l j):=
 Yj (J9 _ _ _ _ _ _ _ _) (Ia _ _ _ _ _ _ _ _) λok ok2 R T hx=>by
  have hl:=Sb ok2;rw[Gg];have hs:=Ic (l:=l) (en:=en) (goal:=goal) (mvar:=mvar) (pv:=pv) (pc:=pc) (names:=names) j;rw[vP,Xy]at hx
  rw[Xy]at hs
  by_cases h:j<l.length/\zD (pD l j).text=true
  ·rw[As h]at hs hx
   have hs:yQ tA [AcY] (X3 l en goal mvar pv pc names j) (.str (pD l j).text) (X3 l en goal mvar pv pc names j):=hs;refine(λh=>⟨h,h⟩) (.inl ⟨_,hs,?_⟩)
   refine(λh=>⟨⟨h,h⟩,h⟩) ?_
   have hx:Pr.on (match uZ .str .int (pD l j).text names with|some n=>Pr.ok n (j+1)|none=> .err j 5) _ _:=hx
   cases hm:uZ .str .int (pD l j).text names with
   |some n=>
    rw[hm]at hx
    obtain⟨h1,h2⟩:=ziH hm;rw[h1,h2];refine bnf rfl ?_;rw[kI (by omega)];exact hx
   |none=>
    rw[hm]at hx
    rw[ziI hm];exact bnt rfl (.inr ⟨_,pE j 5,hx⟩)
  ·rw[An h]at hs hx
   exact(λh=>⟨h,h⟩) (.inr ⟨_,hs,hx⟩)
end
section
variable(isName:AcG->Bool)(yJ:AcG->Int)(l:AcR)
def Id(j:Nat):Pr zQ:=(Xy isName l j).bind λs j=>(xO l [⟨#[58]⟩] (j+1)).bind λ_ j=>(kP yJ l j).bind λa j=>(xO l [⟨#[46,46]⟩] j).bind λ_ j=>(kP yJ l j).bind λb j=>(xO l [⟨#[59]⟩] j).bind λ_ j=> .ok ⟨s,a,b⟩ j
def Yk(names:List (AcG×Int))(s:AcG)(i:Int):List (AcG×Int):=if MU .str .int s names=true then names else qH .str .int s i names
def LV:Nat->AcP->List (AcG×Int)->Nat->Pr (AcP×List (AcG×Int))
 |0,vs,ns,j=> .err j 1
 |n+1,vs,ns,j=>if xY l ⟨#[118,97,114]⟩ j=true then(Id isName yJ l (j+1)).bind λv j=>LV n (vs++[v]) (Yk ns v.name vs.length) j else .ok (vs,ns) j
def VP(ns:List (AcG×Int)):Nat->AcQ->Nat->Pr AcQ
 |0,cs,j=> .err j 1
 |n+1,cs,j=>if xY l ⟨#[99,111,110]⟩ j=true then(Oj isName yJ ns l (j+1)).bind λc j=>(xO l [⟨#[59]⟩] j).bind λ_ j=>VP ns n (cs++[c]) j else .ok cs j
def X4{α:Type}(x:α)(j:Nat):Pr α:=(xO l [⟨#[59]⟩] j).bind λ_ j=>if j<l.length then .err j 1 else .ok x j
def X5(ns:List (AcG×Int))(j:Nat):Pr (Int×Int):=(xO l [⟨#[115,111,108,118,101]⟩] j).bind λ_ j=>
 if xY l ⟨#[97,110,121]⟩ j=true then X4 l (0,0) (j+1)
 else if xY l ⟨#[108,101,97,115,116]⟩ j=true then(vP isName ns l (j+1)).bind λv j=>X4 l (1,v) j
 else(xO l [⟨#[109,111,115,116]⟩] j).bind λ_ j=>(vP isName ns l j).bind λv j=>X4 l (2,v) j
def aJ:Pr (zG×List (AcG×Int)):=(LV isName yJ l (l.length+1) [] [] 0).bind λx j=>(VP isName yJ l x.2 (l.length+1) [] j).bind λcs j=>(X5 isName l x.2 j).bind λg j=> .ok (⟨x.1,cs,g.1,g.2⟩,x.2) j
end
def Adv{α:Type}(l:AcR)(f:Nat->Pr α):Prop:=∀i x j,f i=.ok x j->i<j/\j<=l.length
theorem RC{isN:AcG->Bool}{names:List (AcG×Int)}{l:AcR}:Adv l (vP isN names l):=λi x j h=>by
 unfold vP Xy at h
 split at h
 ·rename_i hc
  simp only[Pr.bind]at h
  split at h
  ·injection h with h1 h2;omega
  ·cases h
 ·cases h
theorem zhF{nv:AcG->Int}{l:AcR}{sg:Int}{i:Nat}{x:Int}{j:Nat}(h:AE nv l sg i=.ok x j):i<j/\j<=l.length:=by
 unfold AE at h
 split at h
 ·rename_i hc;injection h with h1 h2;omega
 ·cases h
theorem U5{nv:AcG->Int}{l:AcR}:Adv l (kP nv l):=λi x j h=>by
 unfold kP at h
 split at h
 ·have:=zhF h;omega
 ·exact zhF h
section
variable {l:AcR}{en goal mvar:Int}{pv:AcP}{pc:AcQ}{names:List (AcG×Int)}
theorem Pv(hd:YP l){R:D->List (Nat×yN)->Prop}{T:Value->Prop}(hl:l.length*32<=140737488355328):∀(fuel:Nat) (acc:AcK) (j:Nat),j<=l.length->l.length<j+fuel->acc.length<=j->
  (uY l (kP yJ l) fuel acc j).on (λxs j'=>R (.sl .int xs) (X3 l en goal mvar pv pc names j')) (λj' e=>T (flt (tT l en j') e))->∃n,f8 R T n acc l (j:Int) en goal mvar names pv pc
 |0,acc,j,h1,h2,_,_=>by omega
 |fuel+1,acc,j,h1,h2,h3,hx=>by
  rw[uY]at hx
  cases hb:xY l ⟨#[44]⟩ j with
  |true=>
   rw[hb,As rfl]at hx
   have hlt:=uQ hb;have hs:=YQ (l:=l) (en:=en) (goal:=goal) (mvar:=mvar) (pv:=pv) (pc:=pc) (names:=names) hd (j+1);cases hf:kP yJ l (j+1)with
   |ok x j'=>
    rw[hf]at hs hx
    have ha:=U5 _ _ _ hf;obtain⟨n,hn⟩:=Pv hd hl fuel (acc++[x]) j' ha.2 (by omega) (by rw[It];show _+1<=_;omega) hx
    refine⟨n+1,?_⟩;rw[cK];refine⟨_,_,xR j _,?_⟩;rw[nD,hb,As rfl];exact bt rfl (.inl ⟨_,_,hs,yW (t:=.int) (by show(acc.length+1)*8<=_;omega),hn⟩)
   |err j' e=>
    rw[hf]at hs hx
    refine⟨1,?_⟩;rw[cK];refine⟨_,_,xR j _,?_⟩;rw[nD,hb,As rfl];exact bt rfl (.inr ⟨_,hs,hx⟩)
  |false=>
   rw[hb,An (by decide)]at hx
   refine⟨1,?_⟩;rw[cK];refine⟨_,_,xR j _,?_⟩;rw[nD,hb,An (by decide)]
   rw[Pr.on_bind]at hx
   exact bf rfl ((sJ j _).call (λ_ j' hs hk=> .inl ⟨_,hs,hk⟩) (λj' e hs hy=> .inr ⟨_,hs,hy⟩) hx)
theorem aK(hd:YP l)(j:Nat):KL zP [AcY,.clp zN true 1000 0] (X3 l en goal mvar pv pc names) (tT l en) j (λxs=> .sl .int xs) (wZ l (kP yJ l) j):=
 Yj (Lj _ _ _ _ _ _ _ _) (Lk _ _ _ _ _ _ _ _) λok ok2 R T hx=>by
  have hl:=Sb ok2;rw[KH];rw[wZ,Pr.on_bind]at hx
  have hs:=sJ (l:=l) (en:=en) (goal:=goal) (mvar:=mvar) (pv:=pv) (pc:=pc) (names:=names) j [⟨#[91]⟩];rw[xO,xO]at hs hx
  cases hb:xY l ⟨#[91]⟩ j with
  |false=>
   rw[hb,An (by decide)]at hs hx
   exact .inr ⟨_,hs,hx⟩
  |true=>
   rw[hb,As rfl]at hs hx
   have h0:=uQ hb;refine .inl ⟨_,hs,_,_,xR (j+1) _,?_⟩;have hx:Pr.on (if xY l ⟨#[93]⟩ (j+1)=true then _ else _) _ _:=hx
   cases hc:xY l ⟨#[93]⟩ (j+1)with
   |true=>
    rw[hc,As rfl]at hx
    rw[nD,hc,As rfl];exact bt rfl hx
   |false=>
    rw[hc,An (by decide)]at hx
    rw[nD,hc,An (by decide)]
    have hq:=YQ (l:=l) (en:=en) (goal:=goal) (mvar:=mvar) (pv:=pv) (pc:=pc) (names:=names) hd (j+1);refine bf rfl ?_;cases hf:kP yJ l (j+1)with
    |ok x j'=>
     rw[hf]at hq hx
     have ha:=U5 _ _ _ hf;exact .inl ⟨_,_,hq,Pv hd hl (l.length+1) [x] j' ha.2 (by omega) (by show 1<=_;omega) hx⟩
    |err j' e=>
     rw[hf]at hq hx
     exact .inr ⟨_,hq,hx⟩
theorem Pw{R:D->List (Nat×yN)->Prop}{T:Value->Prop}(hl:l.length*32<=140737488355328):∀(fuel:Nat) (acc:AcK) (j:Nat),j<=l.length->l.length<j+fuel->acc.length<=j->
  (uY l (vP zD names l) fuel acc j).on (λxs j'=>R (.sl .int xs) (X3 l en goal mvar pv pc names j')) (λj' e=>T (flt (tT l en j') e))->∃n,f9 R T n acc l (j:Int) en goal mvar names pv pc
 |0,acc,j,h1,h2,_,_=>by omega
 |fuel+1,acc,j,h1,h2,h3,hx=>by
  rw[uY]at hx
  cases hb:xY l ⟨#[44]⟩ j with
  |true=>
   rw[hb,As rfl]at hx
   have hlt:=uQ hb;have hs:=Wo (l:=l) (en:=en) (goal:=goal) (mvar:=mvar) (pv:=pv) (pc:=pc) (names:=names) (j+1);cases hf:vP zD names l (j+1)with
   |ok x j'=>
    rw[hf]at hs hx
    have ha:=RC _ _ _ hf;obtain⟨n,hn⟩:=Pw hl fuel (acc++[x]) j' ha.2 (by omega) (by rw[It];show _+1<=_;omega) hx
    refine⟨n+1,?_⟩;rw[cL];refine⟨_,_,xR j _,?_⟩;rw[nD,hb,As rfl];exact bt rfl (.inl ⟨_,_,hs,yW (t:=.int) (by show(acc.length+1)*8<=_;omega),hn⟩)
   |err j' e=>
    rw[hf]at hs hx
    refine⟨1,?_⟩;rw[cL];refine⟨_,_,xR j _,?_⟩;rw[nD,hb,As rfl];exact bt rfl (.inr ⟨_,hs,hx⟩)
  |false=>
   rw[hb,An (by decide)]at hx
   refine⟨1,?_⟩;rw[cL];refine⟨_,_,xR j _,?_⟩;rw[nD,hb,An (by decide)]
   rw[Pr.on_bind]at hx
   exact bf rfl ((sJ j _).call (λ_ j' hs hk=> .inl ⟨_,hs,hk⟩) (λj' e hs hy=> .inr ⟨_,hs,hy⟩) hx)
theorem fe(j:Nat):KL zP [AcY,.clp zO true 1000 0] (X3 l en goal mvar pv pc names) (tT l en) j (λxs=> .sl .int xs) (wZ l (vP zD names l) j):=
 Yj (Ll _ _ _ _ _ _ _ _) (Lm _ _ _ _ _ _ _ _) λok ok2 R T hx=>by
  have hl:=Sb ok2;rw[KI];rw[wZ,Pr.on_bind]at hx
  have hs:=sJ (l:=l) (en:=en) (goal:=goal) (mvar:=mvar) (pv:=pv) (pc:=pc) (names:=names) j [⟨#[91]⟩];rw[xO,xO]at hs hx
  cases hb:xY l ⟨#[91]⟩ j with
  |false=>
   rw[hb,An (by decide)]at hs hx
   exact .inr ⟨_,hs,hx⟩
  |true=>
   rw[hb,As rfl]at hs hx
   have h0:=uQ hb;refine .inl ⟨_,hs,_,_,xR (j+1) _,?_⟩;have hx:Pr.on (if xY l ⟨#[93]⟩ (j+1)=true then _ else _) _ _:=hx
   cases hc:xY l ⟨#[93]⟩ (j+1)with
   |true=>
    rw[hc,As rfl]at hx
    rw[nD,hc,As rfl];exact bt rfl hx
   |false=>
    rw[hc,An (by decide)]at hx
    rw[nD,hc,An (by decide)]
    have hq:=Wo (l:=l) (en:=en) (goal:=goal) (mvar:=mvar) (pv:=pv) (pc:=pc) (names:=names) (j+1);refine bf rfl ?_;cases hf:vP zD names l (j+1)with
    |ok x j'=>
     rw[hf]at hq hx
     have ha:=RC _ _ _ hf;exact .inl ⟨_,_,hq,Pw hl (l.length+1) [x] j' ha.2 (by omega) (by show 1<=_;omega) hx⟩
    |err j' e=>
     rw[hf]at hq hx
     exact .inr ⟨_,hq,hx⟩
end
section
variable {l:AcR}{en goal mvar:Int}{pv:AcP}{pc:AcQ}{names:List (AcG×Int)}
theorem Ct{isN:AcG->Bool}:∀(n:Nat) (acc:AcK) (j:Nat) (xs:AcK) (j':Nat),X2 isN names l n acc j=.ok xs j'->j<=j'/\(1<=n->j'<=l.length)
 |0,acc,j,xs,j',h=>by injection h with h1 h2;omega
 |n+1,acc,j,xs,j',h=>by
  unfold X2 at h
  cases hv:vP isN names l j with
  |ok x i=>
   rw[hv]at h
   have:=RC _ _ _ hv;have:=Ct n _ i xs j' h;cases n with
   |zero=>injection h with h1 h2;omega
   |succ n=>omega
  |err i e=>rw[hv]at h;cases h
theorem QW(many:Nat)(hm:many<=6)(j:Nat):KL xU [AcY,dI many] (X3 l en goal mvar pv pc names) (tT l en) j (λxs=> .sl .int xs) (X2 zD names l many [] j):=
 Yj (NB _ _ _ _ _ _ _ _ _) (NC _ _ _ _ _ _ _ _ _) λok ok2 R T hx=>by
  rw[Ln]
  suffices H:∀(d k:Nat) (acc:AcK) (j:Nat),k+d=many->acc.length=k->(X2 zD names l d acc j).on (λxs j'=>R (.sl .int xs) (X3 l en goal mvar pv pc names j')) (λj' e=>T (flt (tT l en j') e))->
    ∃n,gU (many:Int) R T n (k:Int) acc l (j:Int) en goal mvar names pv pc from H many 0 [] j (by omega) rfl hx
  intro d
  induction d with
  |zero=>
   intro k acc j hk ha hx;refine⟨1,?_⟩;rw[eA];exact df (by omega) hx
  |succ d ih=>
   intro k acc j hk ha hx;rw[X2]at hx
   have hq:=Wo (l:=l) (en:=en) (goal:=goal) (mvar:=mvar) (pv:=pv) (pc:=pc) (names:=names) j;cases hv:vP zD names l j with
   |ok x i=>
    rw[hv]at hq hx
    obtain⟨n,hn⟩:=ih (k+1) (acc++[x]) i (by omega) (by rw[It,ha];rfl) hx
    refine⟨n+1,?_⟩;rw[eA];refine dt (by omega) (.inl ⟨_,_,hq,yW (t:=.int) (by show(acc.length+1)*8<=_;omega),?_⟩)
    rw[kI (by omega)];exact hn
   |err i e=>
    rw[hv]at hq hx
    refine⟨1,?_⟩;rw[eA];exact dt (by omega) (.inr ⟨_,hq,hx⟩)
theorem Ie{isN:AcG->Bool}{nv:AcG->Int}:Adv l (eD isN nv names l):=λi x j h=>by
 unfold eD at h
 cases hv:vP isN names l i with
 |ok v i1=>
  rw[hv]at h
  have h1:=RC _ _ _ hv;simp only[Pr.bind]at h
  split at h
  ·cases hk:kP nv l (i1+1)with
   |ok n i2=>
    rw[hk]at h
    have h2:=U5 _ _ _ hk;injection h with h3 h4;omega
   |err i2 e=>rw[hk]at h;cases h
  ·cases h
 |err i1 e=>rw[hv]at h;cases h
theorem Ig(hd:YP l){R:D->List (Nat×yN)->Prop}{T:Value->Prop}(v:Int):∀(r pre:AcX) (j:Nat),opW=pre++r->
  ((match iY l r ((pre.length:Int)+1) j with|some o=>(kP yJ l (j+1)).bind λn j=> .ok (⟨v,o,n⟩:zC) j|none=> .err j 1).on (λx j'=>R (dL x) (X3 l en goal mvar pv pc names j')) λj' e=>T (flt (tT l en j') e))->
  ∃n,eC R T n (pre.length:Int) 0 0 0 v 0 0 l (j:Int) en goal mvar names pv pc
 |[],pre,j,hw,hx=>by
  refine⟨1,?_⟩;rw[cN];have hl:pre.length=4:=by have:=Is List.length hw;simpa[opW]using this.symm
  refine df (by rw[hl];decide) (.inr ⟨_,pE j 1,hx⟩)
 |s::r,pre,j,hw,hx=>by
  have hl:pre.length<opW.length:=by rw[hw,It,Aad];omega
  have hl4:pre.length<4:=hl
  have hat:zW .str opW (pre.length:Int).toNat=s:=by
   rw[Aab];show opW.getD _ _=_
   rw[hw,Aam,AaG (BY _),Nat.sub_self];rfl
  have hs:=xR (l:=l) (en:=en) (goal:=goal) (mvar:=mvar) (pv:=pv) (pc:=pc) (names:=names) j s;rw[<-hat]at hs
  rw[iY]at hx
  cases hb:xY l s j with
  |true=>
   rw[hb,As rfl]at hx
   refine⟨1,?_⟩;rw[cN];refine dt (by show(pre.length:Int)<(4:Nat);omega) ⟨zE hl4,_,_,hs,?_⟩
   rw[hat,nD,hb,As rfl];rw[wL (by omega) (by omega),show(1:Int)+pre.length=(pre.length:Int)+1 by omega]
   have hx:Pr.on ((kP yJ l (j+1)).bind _) _ _:=hx;rw[Pr.on_bind]at hx
   exact bt rfl ((YQ hd (j+1)).call (λ_ j' hs hk=> .inl ⟨_,_,hs,hk⟩) (λj' e hs hy=> .inr ⟨_,hs,hy⟩) hx)
  |false=>
   rw[hb,An (by decide)]at hx
   obtain⟨n,hn⟩:=Ig hd v r (pre++[s]) j (by rw[hw,AaH];rfl) (by rw[It];show Pr.on (match iY l r (((pre.length+1:Nat):Int)+1) j with|some o=>_|none=>_) _ _;rw[show((pre.length+1:Nat):Int)=(pre.length:Int)+1 by omega];exact hx)
   refine⟨n+1,?_⟩;rw[cN];refine dt (by show(pre.length:Int)<(4:Nat);omega) ⟨zE hl4,_,_,hs,?_⟩
   rw[hat,nD,hb,An (by decide),kI (by omega)]
   rw[It]at hn
   exact bf rfl hn
theorem NH(hd:YP l)(j:Nat):KL yR [AcY] (X3 l en goal mvar pv pc names) (tT l en) j (λx=>dL x) (eD zD yJ names l j):=
 Yj (Lq _ _ _ _ _ _ _ _) (Lr _ _ _ _ _ _ _ _) λok ok2 R T hx=>by
  rw[KK];rw[eD,Pr.on_bind]at hx
  exact(Wo j).call (λv j' hs hk=> .inl ⟨_,_,hs,Ig hd v opW [] j' rfl hk⟩) (λj' e hs hy=> .inr ⟨_,hs,hy⟩) hx
theorem Sc(hd:YP l){R:D->List (Nat×yN)->Prop}{T:Value->Prop}(hl:l.length*32<=140737488355328):∀(fuel:Nat) (acc:AcM) (j:Nat),j<=l.length->l.length<j+fuel->acc.length<=j->
  (uY l (eD zD yJ names l) fuel acc j).on (λxs j'=>R (.sl .lit xs) (X3 l en goal mvar pv pc names j')) (λj' e=>T (flt (tT l en j') e))->∃n,iW R T n acc l (j:Int) en goal mvar names pv pc
 |0,acc,j,h1,h2,_,_=>by omega
 |fuel+1,acc,j,h1,h2,h3,hx=>by
  rw[uY]at hx
  cases hb:xY l ⟨#[44]⟩ j with
  |true=>
   rw[hb,As rfl]at hx
   have hlt:=uQ hb;have hs:=NH (l:=l) (en:=en) (goal:=goal) (mvar:=mvar) (pv:=pv) (pc:=pc) (names:=names) hd (j+1);cases hf:eD zD yJ names l (j+1)with
   |ok x j'=>
    rw[hf]at hs hx
    have ha:=Ie _ _ _ hf;obtain⟨n,hn⟩:=Sc hd hl fuel (acc++[x]) j' ha.2 (by omega) (by rw[It];show _+1<=_;omega) hx
    refine⟨n+1,?_⟩;rw[fc];refine⟨_,_,xR j _,?_⟩;rw[nD,hb,As rfl];exact bt rfl (.inl ⟨_,_,hs,yW (t:=.lit) (by show(acc.length+1)*24<=_;omega),hn⟩)
   |err j' e=>
    rw[hf]at hs hx
    refine⟨1,?_⟩;rw[fc];refine⟨_,_,xR j _,?_⟩;rw[nD,hb,As rfl];exact bt rfl (.inr ⟨_,hs,hx⟩)
  |false=>
   rw[hb,An (by decide)]at hx
   refine⟨1,?_⟩;rw[fc];refine⟨_,_,xR j _,?_⟩;rw[nD,hb,An (by decide)]
   rw[Pr.on_bind]at hx
   exact bf rfl ((sJ j _).call (λ_ j' hs hk=> .inl ⟨_,hs,hk⟩) (λj' e hs hy=> .inr ⟨_,hs,hy⟩) hx)
theorem Gh(hd:YP l)(j:Nat):KL tG [AcY,.clp yR true 1000 0] (X3 l en goal mvar pv pc names) (tT l en) j (λxs=> .sl .lit xs) (wZ l (eD zD yJ names l) j):=
 Yj (Oh _ _ _ _ _ _ _ _) (Oi _ _ _ _ _ _ _ _) λok ok2 R T hx=>by
  have hl:=Sb ok2;rw[NF];rw[wZ,Pr.on_bind]at hx
  have hs:=sJ (l:=l) (en:=en) (goal:=goal) (mvar:=mvar) (pv:=pv) (pc:=pc) (names:=names) j [⟨#[91]⟩];rw[xO,xO]at hs hx
  cases hb:xY l ⟨#[91]⟩ j with
  |false=>
   rw[hb,An (by decide)]at hs hx
   exact .inr ⟨_,hs,hx⟩
  |true=>
   rw[hb,As rfl]at hs hx
   have h0:=uQ hb;refine .inl ⟨_,hs,_,_,xR (j+1) _,?_⟩;have hx:Pr.on (if xY l ⟨#[93]⟩ (j+1)=true then _ else _) _ _:=hx
   cases hc:xY l ⟨#[93]⟩ (j+1)with
   |true=>
    rw[hc,As rfl]at hx
    rw[nD,hc,As rfl];exact bt rfl hx
   |false=>
    rw[hc,An (by decide)]at hx
    rw[nD,hc,An (by decide)]
    have hq:=NH (l:=l) (en:=en) (goal:=goal) (mvar:=mvar) (pv:=pv) (pc:=pc) (names:=names) hd (j+1);refine bf rfl ?_;cases hf:eD zD yJ names l (j+1)with
    |ok x j'=>
     rw[hf]at hq hx
     have ha:=Ie _ _ _ hf;exact .inl ⟨_,_,hq,Sc hd hl (l.length+1) [x] j' ha.2 (by omega) (by show 1<=_;omega) hx⟩
    |err j' e=>
     rw[hf]at hq hx
     exact .inr ⟨_,hq,hx⟩
end
section
variable {l:AcR}{en goal mvar:Int}{pv:AcP}{pc:AcQ}{names:List (AcG×Int)}
theorem zaE{α:Type}{f:Nat->Pr α}(hf:Adv l f):∀(fuel:Nat) (acc:List α) (j:Nat) (xs:List α) (j':Nat),uY l f fuel acc j=.ok xs j'->j<j'/\j'<=l.length
 |0,acc,j,xs,j',h=>by cases h
 |fuel+1,acc,j,xs,j',h=>by
  unfold uY at h
  split at h
  ·rename_i hb
   have hlt:=uQ hb;cases hv:f (j+1)with
   |ok x i=>
    rw[hv]at h
    have h1:=hf _ _ _ hv;have h2:=zaE hf fuel _ i xs j' h;omega
   |err i e=>rw[hv]at h;cases h
  ·rw[xO,xO]at h
   split at h
   ·rename_i hb
    have hlt:=uQ hb;injection h with h1 h2;omega
   ·cases h
theorem ff{α:Type}{f:Nat->Pr α}(hf:Adv l f):Adv l (wZ l f):=λi x j h=>by
 unfold wZ at h
 rw[xO,xO]at h
 split at h
 ·rename_i hb
  have h0:=uQ hb;simp only[Pr.bind]at h
  split at h
  ·rename_i hc
   have:=uQ hc;injection h with h1 h2;omega
  ·cases hv:f (i+1)with
   |ok y k=>
    rw[hv]at h
    have h1:=hf _ _ _ hv;have h2:=zaE hf _ _ _ _ _ h;omega
   |err k e=>rw[hv]at h;cases h
 ·cases h
abbrev zoB(l:AcR)(en goal mvar:Int)(pv:AcP)(pc:AcQ)(names:List (AcG×Int))(j:Nat):List (Nat×yN):=
 [(1000,.cells [.ptr 1001 0]),(1001,.cells [.sl .tok l,dI j,dI en,.own 2000,.own 2001,dI goal,dI mvar,.own 1002]),(2000,.row 72 .var pv),(2001,.row 74 .con pc),(1002,.mp .str .int names)]
abbrev hpQ(l:AcR)(en goal mvar:Int)(pv:AcP)(pc:AcQ)(names:List (AcG×Int))(j:Nat):List (Nat×yN):=
 [(1000,.cells [.sl .tok l,dI j,dI en,.own 2000,.own 2001,dI goal,dI mvar,.own 1001]),(2000,.row 72 .var pv),(2001,.row 74 .con pc),(1001,.mp .str .int names),(1002,.cells [AcY])]
theorem Ih(hd:YP l)(j:Nat):KL xA [AcY] (zoB l en goal mvar pv pc names) (tT l en) j (λxs=> .sl .int xs) (wZ l (kP yJ l) j):=
 Yj (Oe _ _ _ _ _ _ _ _) (Og _ _ _ _ _ _ _ _) λok ok2 R T hx=>by
  rw[ND];exact(aK hd j).call (λ_ j' hs hk=> .inl ⟨_,_,hs,hk⟩) (λj' e hs hy=> .inr ⟨_,hs,hy⟩) hx
theorem U6(hd:YP l){R:D->List (Nat×yN)->Prop}{T:Value->Prop}(hl:l.length*32<=140737488355328):∀(fuel:Nat) (acc:AcL) (j:Nat),j<=l.length->l.length<j+fuel->acc.length<=j->
  (uY l (wZ l (kP yJ l)) fuel acc j).on (λxs j'=>R (dS xs) (hpQ l en goal mvar pv pc names j')) (λj' e=>T (flt (tT l en j') e))->∃n,eB R T n acc l (j:Int) en goal mvar names pv pc
 |0,acc,j,h1,h2,_,_=>by omega
 |fuel+1,acc,j,h1,h2,h3,hx=>by
  rw[uY]at hx
  cases hb:xY l ⟨#[44]⟩ j with
  |true=>
   rw[hb,As rfl]at hx
   have hlt:=uQ hb;have hs:=Ih (l:=l) (en:=en) (goal:=goal) (mvar:=mvar) (pv:=pv) (pc:=pc) (names:=names) hd (j+1);cases hf:wZ l (kP yJ l) (j+1)with
   |ok x j'=>
    rw[hf]at hs hx
    have ha:=(ff U5) _ _ _ hf;obtain⟨n,hn⟩:=U6 hd hl fuel (acc++[x]) j' ha.2 (by omega) (by rw[It];show _+1<=_;omega) hx
    refine⟨n+1,?_⟩;rw[cM];refine⟨_,_,xR j _,?_⟩;rw[nD,hb,As rfl];exact bt rfl (.inl ⟨_,_,hs,yW (t:=.list .int) (by show(acc.length+1)*24<=_;omega),hn⟩)
   |err j' e=>
    rw[hf]at hs hx
    refine⟨1,?_⟩;rw[cM];refine⟨_,_,xR j _,?_⟩;rw[nD,hb,As rfl];exact bt rfl (.inr ⟨_,hs,hx⟩)
  |false=>
   rw[hb,An (by decide)]at hx
   refine⟨1,?_⟩;rw[cM];refine⟨_,_,xR j _,?_⟩;rw[nD,hb,An (by decide)]
   rw[Pr.on_bind]at hx
   exact bf rfl ((sJ j _).call (λ_ j' hs hk=> .inl ⟨_,hs,hk⟩) (λj' e hs hy=> .inr ⟨_,hs,hy⟩) hx)
theorem Ii(hd:YP l)(j:Nat):KL rA [AcY,.clp xA false 1002 0] (hpQ l en goal mvar pv pc names) (tT l en) j (λxs=>dS xs) (wZ l (wZ l (kP yJ l)) j):=
 Yj (Lo _ _ _ _ _ _ _ _) (Lp _ _ _ _ _ _ _ _) λok ok2 R T hx=>by
  have hl:l.length*32<=140737488355328:=(ok2 1000 _ rfl (.sl .tok l) (by simp)).1
  rw[KJ];rw[wZ,Pr.on_bind]at hx
  have hs:=sJ (l:=l) (en:=en) (goal:=goal) (mvar:=mvar) (pv:=pv) (pc:=pc) (names:=names) j [⟨#[91]⟩];rw[xO,xO]at hs hx
  cases hb:xY l ⟨#[91]⟩ j with
  |false=>
   rw[hb,An (by decide)]at hs hx
   exact .inr ⟨_,hs,hx⟩
  |true=>
   rw[hb,As rfl]at hs hx
   have h0:=uQ hb;refine .inl ⟨_,hs,_,_,xR (j+1) _,?_⟩;have hx:Pr.on (if xY l ⟨#[93]⟩ (j+1)=true then _ else _) _ _:=hx
   cases hc:xY l ⟨#[93]⟩ (j+1)with
   |true=>
    rw[hc,As rfl]at hx
    rw[nD,hc,As rfl];exact bt rfl hx
   |false=>
    rw[hc,An (by decide)]at hx
    rw[nD,hc,An (by decide)]
    have hq:=Ih (l:=l) (en:=en) (goal:=goal) (mvar:=mvar) (pv:=pv) (pc:=pc) (names:=names) hd (j+1);refine bf rfl ?_;cases hf:wZ l (kP yJ l) (j+1)with
    |ok x j'=>
     rw[hf]at hq hx
     have ha:=(ff U5) _ _ _ hf;exact .inl ⟨_,_,hq,U6 hd hl (l.length+1) [x] j' ha.2 (by omega) (by show 1<=_;omega) hx⟩
    |err j' e=>
     rw[hf]at hq hx
     exact .inr ⟨_,hq,hx⟩
end
section
variable {l:AcR}{en goal mvar:Int}{pv:AcP}{pc:AcQ}{names:List (AcG×Int)}
theorem zaF{α:Type}{f:Nat->Pr α}(hf:Adv l f):∀(fuel:Nat) (acc:List α) (j:Nat) (xs:List α) (j':Nat),acc.length<=j->uY l f fuel acc j=.ok xs j'->xs.length<=j'
 |0,acc,j,xs,j',_,h=>by cases h
 |fuel+1,acc,j,xs,j',ha,h=>by
  unfold uY at h
  split at h
  ·cases hv:f (j+1)with
   |ok x i=>
    rw[hv]at h
    have h1:=hf _ _ _ hv;exact zaF hf fuel (acc++[x]) i xs j' (by rw[It];show _+1<=_;omega) h
   |err i e=>rw[hv]at h;cases h
  ·rw[xO,xO]at h
   split at h
   ·injection h with h1 h2;subst h1;omega
   ·cases h
theorem ziJ{α:Type}{f:Nat->Pr α}(hf:Adv l f){i j:Nat}{xs:List α}(h:wZ l f i=.ok xs j):xs.length<=j:=by
 unfold wZ at h
 rw[xO,xO]at h
 split at h
 ·simp only[Pr.bind]at h
  split at h
  ·injection h with h1 h2;subst h1;exact AT _
  ·cases hv:f (i+1)with
   |ok y k=>
    rw[hv]at h
    have h1:=hf _ _ _ hv;exact zaF hf _ [y] k _ _ (by show 1<=k;omega) h
   |err k e=>rw[hv]at h;cases h
 ·cases h
theorem AF:tJ V3 [] (.sl .str Ib):=
 Cs λok=>by
  rw[AD];rfl
theorem Ij(hd:YP l)(hl:l.length*32<=140737488355328){R:D->List (Nat×yN)->Prop}{T:Value->Prop}:∀(r pre:AcX) (j:Nat),Ib=pre++r->
  ((match iY l r ((pre.length:Int)+1) j with|some o=>fm zD yJ names l o (j+1)|none=> .err j 1).on (λx j'=>R (dC x) (X3 l en goal mvar pv pc names j')) λj' e=>T (flt (tT l en j') e))->
  ∃n,f6 R T Ib n (pre.length:Int) 0 [] [] 0 [] [] 0 [] [] 0 [] [] l (j:Int) en goal mvar names pv pc
 |[],pre,j,hw,hx=>by
  refine⟨1,?_⟩;rw[cJ];have hl:pre.length=10:=by have:=Is List.length hw;simpa[Ib]using this.symm
  refine df (by rw[hl];decide) (dt rfl (.inr ⟨_,pE j 1,hx⟩))
 |s::r,pre,j,hw,hx=>by
  have hl4:pre.length<Ib.length:=by rw[hw,It,Aad];omega
  have hl10:pre.length<10:=hl4
  have hat:zW .str Ib (pre.length:Int).toNat=s:=by
   rw[Aab];show Ib.getD _ _=_
   rw[hw,Aam,AaG (BY _),Nat.sub_self];rfl
  have hs:=xR (l:=l) (en:=en) (goal:=goal) (mvar:=mvar) (pv:=pv) (pc:=pc) (names:=names) j s;rw[<-hat]at hs
  rw[iY]at hx
  cases hb:xY l s j with
  |true=>
   rw[hb,As rfl]at hx
   refine⟨1,?_⟩;rw[cJ];refine zY hl4▸⟨zE hl4,_,_,hs,?_⟩;rw[hat,nD,hb,As rfl];refine bt rfl ?_;rw[wL (by omega) (by omega)]
   have hx:Pr.on (fm zD yJ names l ((pre.length:Int)+1) (j+1)) _ _:=hx;rw[show(pre.length:Int)+1=1+pre.length by omega]at hx
   refine df (by omega) ?_
   by_cases e1:(1:Int)+pre.length=1
   ·refine dt e1 ?_
    rw[fm,As (by omega)]at hx
    exact(aK hd _).call (λ_ _ hs hk=> .inl ⟨_,_,hs,(fe _).call (λ_ _ hs hk=> .inl ⟨_,_,hs,(YQ hd _).call (λ_ _ hs hk=> .inl ⟨_,_,hs,hk⟩) (λ_ _ hs hy=> .inr ⟨_,hs,hy⟩) (Pr.on_bind.1 hk)⟩) (λ_ _ hs hy=> .inr ⟨_,hs,hy⟩) (Pr.on_bind.1 hk)⟩) (λ_ _ hs hy=> .inr ⟨_,hs,hy⟩) (Pr.on_bind.1 hx)
   refine df e1 ?_
   by_cases e2:(1:Int)+pre.length=2
   ·refine dt e2 ?_
    rw[fm,As (by omega)]at hx
    exact(aK hd _).call (λ_ _ hs hk=> .inl ⟨_,_,hs,(fe _).call (λ_ _ hs hk=> .inl ⟨_,_,hs,(YQ hd _).call (λ_ _ hs hk=> .inl ⟨_,_,hs,hk⟩) (λ_ _ hs hy=> .inr ⟨_,hs,hy⟩) (Pr.on_bind.1 hk)⟩) (λ_ _ hs hy=> .inr ⟨_,hs,hy⟩) (Pr.on_bind.1 hk)⟩) (λ_ _ hs hy=> .inr ⟨_,hs,hy⟩) (Pr.on_bind.1 hx)
   refine df e2 ?_
   by_cases e3:(1:Int)+pre.length=3
   ·refine dt e3 ?_
    rw[fm,As (by omega)]at hx
    exact(aK hd _).call (λ_ _ hs hk=> .inl ⟨_,_,hs,(fe _).call (λ_ _ hs hk=> .inl ⟨_,_,hs,(YQ hd _).call (λ_ _ hs hk=> .inl ⟨_,_,hs,hk⟩) (λ_ _ hs hy=> .inr ⟨_,hs,hy⟩) (Pr.on_bind.1 hk)⟩) (λ_ _ hs hy=> .inr ⟨_,hs,hy⟩) (Pr.on_bind.1 hk)⟩) (λ_ _ hs hy=> .inr ⟨_,hs,hy⟩) (Pr.on_bind.1 hx)
   refine df e3 ?_
   by_cases e4:(1:Int)+pre.length=4
   ·refine dt e4 ?_
    rw[fm,An (by omega),As (by omega)]at hx
    exact(fe _).call (λ_ _ hs hk=> .inl ⟨_,_,hs,hk⟩) (λ_ _ hs hy=> .inr ⟨_,hs,hy⟩) (Pr.on_bind.1 hx)
   refine df e4 ?_
   by_cases e5:(1:Int)+pre.length=5
   ·refine dt e5 ?_
    rw[fm,An (by omega),An (by omega),As (by omega)]at hx
    exact(aK hd _).call (λ_ _ hs hk=> .inl ⟨_,_,hs,(QW 2 (by decide) _).call (λ_ _ hs hk=> .inl ⟨_,_,hs,hk⟩) (λ_ _ hs hy=> .inr ⟨_,hs,hy⟩) (Pr.on_bind.1 hk)⟩) (λ_ _ hs hy=> .inr ⟨_,hs,hy⟩) (Pr.on_bind.1 hx)
   refine df e5 ?_
   by_cases e6:(1:Int)+pre.length=6
   ·refine dt e6 ?_
    rw[fm,An (by omega),An (by omega),An (by omega),As (by omega)]at hx
    exact(fe _).call (λ_ _ hs hk=> .inl ⟨_,_,hs,(Ii hd _).call (λ_ _ hs hk=> .inl ⟨_,_,hs,hk⟩) (λ_ _ hs hy=> .inr ⟨_,hs,hy⟩) (Pr.on_bind.1 hk)⟩) (λ_ _ hs hy=> .inr ⟨_,hs,hy⟩) (Pr.on_bind.1 hx)
   refine df e6 ?_
   by_cases e7:(1:Int)+pre.length=7
   ·refine dt e7 ?_
    rw[fm,An (by omega),An (by omega),An (by omega),An (by omega),As (by omega)]at hx
    exact(QW 3 (by decide) _).call (λ_ _ hs hk=> .inl ⟨_,_,hs,hk⟩) (λ_ _ hs hy=> .inr ⟨_,hs,hy⟩) (Pr.on_bind.1 hx)
   refine df e7 ?_
   by_cases e8:(1:Int)+pre.length=8
   ·refine dt e8 ?_
    rw[fm,An (by omega),An (by omega),An (by omega),An (by omega),An (by omega),As (by omega)]at hx
    refine(Wo _).call (λv j1 hs hk=> .inl ⟨_,_,hs,?_⟩) (λ_ _ hs hy=> .inr ⟨_,hs,hy⟩) (Pr.on_bind.1 hx)
    have hk:Pr.on ((wZ l (vP zD names l) j1).bind λvs j=>Pr.ok (⟨_,v::vs,[],0,[],[]⟩:zF) j) _ _:=hk
    have hq:=fe (l:=l) (en:=en) (goal:=goal) (mvar:=mvar) (pv:=pv) (pc:=pc) (names:=names) j1;cases hv:wZ l (vP zD names l) j1 with
    |ok vs j2=>
     rw[hv]at hq hk
     have h1:=ziJ RC hv;have h2:=ff RC _ _ _ hv;exact .inl ⟨_,_,hq,yW (t:=.int) (by show(1+vs.length)*8<=_;omega),hk⟩
    |err j2 e=>
     rw[hv]at hq hk
     exact .inr ⟨_,hq,hk⟩
   refine df e8 ?_
   by_cases e9:(1:Int)+pre.length=9
   ·refine dt e9 ?_
    rw[fm,An (by omega),An (by omega),An (by omega),An (by omega),An (by omega),An (by omega),As (by omega)]at hx
    exact(Gh hd _).call (λ_ _ hs hk=> .inl ⟨_,_,hs,hk⟩) (λ_ _ hs hy=> .inr ⟨_,hs,hy⟩) (Pr.on_bind.1 hx)
   refine df e9 ?_
   by_cases e10:(1:Int)+pre.length=10
   ·refine dt e10 ?_
    rw[fm,An (by omega),An (by omega),An (by omega),An (by omega),An (by omega),An (by omega),An (by omega)]at hx
    exact(QW 1 (by decide) _).call (λ_ _ hs hk=> .inl ⟨_,_,hs,(NH hd _).call (λ_ _ hs hk=> .inl ⟨_,_,hs,hk⟩) (λ_ _ hs hy=> .inr ⟨_,hs,hy⟩) (Pr.on_bind.1 hk)⟩) (λ_ _ hs hy=> .inr ⟨_,hs,hy⟩) (Pr.on_bind.1 hx)
   refine df e10 ?_;omega
  |false=>
   rw[hb,An (by decide)]at hx
   obtain⟨n,hn⟩:=Ij hd hl r (pre++[s]) j (by rw[hw,AaH];rfl) (by rw[It];show Pr.on (match iY l r (((pre.length+1:Nat):Int)+1) j with|some o=>_|none=>_) _ _;rw[show((pre.length+1:Nat):Int)=(pre.length:Int)+1 by omega];exact hx)
   refine⟨n+1,?_⟩;rw[cJ];refine zY hl4▸⟨zE hl4,_,_,hs,?_⟩;rw[hat,nD,hb,An (by decide),kI (by omega)]
   rw[It]at hn
   exact bf rfl hn
theorem zd0(hd:YP l)(j:Nat):KL pY [AcY] (X3 l en goal mvar pv pc names) (tT l en) j (λx=>dC x) (Oj zD yJ names l j):=
 Yj (Lg _ _ _ _ _ _ _ _) (Lh _ _ _ _ _ _ _ _) λok ok2 R T hx=>by
  rw[KG];exact zI (t:=.list .str) AF (Ij hd (Sb ok2) Ib [] j rfl hx)
end
section
variable {l:AcR}{en:Int}
theorem QX{pv:AcP}{pc:AcQ}{names:List (AcG×Int)}{R:D->List (Nat×yN)->Prop}{T:Value->Prop}{x:Int×Int}{j:Nat}
  (hx:(X4 l x j).on (λg j'=>R (.tup []) (X3 l en g.1 g.2 pv pc names j')) λj' e=>T (flt (tT l en j') e)):
  (∃n35:Int,yQ zM [AcY,.sl .str ([(⟨#[59]⟩:AcG)])] (X3 l en x.1 x.2 pv pc names j) (.tup []) (zdZ l en x.1 x.2 pv pc names n35)/\zJ (decide (n35<(l.length:Int)))
   ((yQ zR [AcY,dI 1] (zdZ l en x.1 x.2 pv pc names n35) (.tup []) (zdZ l en x.1 x.2 pv pc names n35)/\R (.tup []) (zdZ l en x.1 x.2 pv pc names n35))\/
    ∃u,lY zR [AcY,dI 1] (zdZ l en x.1 x.2 pv pc names n35) u/\T u) (R (.tup []) (zdZ l en x.1 x.2 pv pc names n35)))\/
  ∃u,lY zM [AcY,.sl .str ([(⟨#[59]⟩:AcG)])] (X3 l en x.1 x.2 pv pc names j) u/\T u:=by
 rw[X4,Pr.on_bind]at hx
 refine(sJ j _).call (λ_ j' hs hk=> .inl ⟨_,hs,?_⟩) (λ_ _ hs hy=> .inr ⟨_,hs,hy⟩) hx
 by_cases h:j'<l.length
 ·rw[As h]at hk
  exact dt (by omega) (.inr ⟨_,pE j' 1,hk⟩)
 ·rw[An h]at hk
  exact df (by omega) hk
theorem zcw(hd:YP l){pv:AcP}{pc:AcQ}{names:List (AcG×Int)}{R:D->List (Nat×yN)->Prop}{T:Value->Prop}(j:Nat)(hb:xY l ⟨#[99,111,110]⟩ j=false)
  (hx:(X5 zD l names j).on (λg j'=>R (.tup []) (X3 l en g.1 g.2 pv pc names j')) λj' e=>T (flt (tT l en j') e)):mC R T 1 l (j:Int) en 0 0 names pv pc:=by
 rw[mU];refine⟨_,_,xR j _,?_⟩;rw[nD,hb,An (by decide)]
 refine bf rfl ?_;rw[X5,Pr.on_bind]at hx
 refine(sJ j _).call (λ_ j1 hs hk=> .inl ⟨_,hs,_,_,xR j1 _,?_⟩) (λ_ _ hs hy=> .inr ⟨_,hs,hy⟩) hx
 rw[nD];cases h1:xY l ⟨#[97,110,121]⟩ j1 with
 |true=>
  rw[h1,As rfl]at hk
  rw[As rfl];exact bt rfl (QX (x:=(0,0)) hk)
 |false=>
  rw[h1,An (by decide)]at hk
  rw[An (by decide)]
  refine bf rfl ⟨_,_,xR j1 _,?_⟩;rw[nD];cases h2:xY l ⟨#[108,101,97,115,116]⟩ j1 with
  |true=>
   rw[h2,As rfl]at hk
   rw[As rfl];exact bt rfl ((Wo (j1+1)).call (λv _ hs hk=> .inl ⟨_,_,hs,QX (x:=(1,v)) hk⟩) (λ_ _ hs hy=> .inr ⟨_,hs,hy⟩) (Pr.on_bind.1 hk))
  |false=>
   rw[h2,An (by decide)]at hk
   rw[An (by decide)]
   exact bf rfl ((sJ j1 _).call (λ_ j2 hs hk=> .inl ⟨_,hs,(Wo j2).call (λv _ hs hk=> .inl ⟨_,_,hs,QX (x:=(2,v)) hk⟩) (λ_ _ hs hy=> .inr ⟨_,hs,hy⟩) (Pr.on_bind.1 hk)⟩) (λ_ _ hs hy=> .inr ⟨_,hs,hy⟩) (Pr.on_bind.1 hk))
theorem rM{α β:Type}{r:Pr α}{f:α->Nat->Pr β}{x:β}{j:Nat}(h:r.bind f=.ok x j):∃y k,r=.ok y k/\f y k=.ok x j:=by
 cases r
 ·exact⟨_,_,rfl,h⟩
 ·cases h
theorem zd1:∀ {r:AcX} {i:Int} {j:Nat} {o:Int},iY l r i j=some o->j<l.length
 |[],i,j,o,h=>by cases h
 |s::r,i,j,o,h=>by
  unfold iY at h
  split at h
  ·rename_i hb;exact uQ hb
  ·exact zd1 h
theorem Gi{isN:AcG->Bool}{names:List (AcG×Int)}{n:Nat}{acc:AcK}{j:Nat}{xs:AcK}{j':Nat}(h:X2 isN names l (n+1) acc j=.ok xs j'):j<j'/\j'<=l.length:=by
 have h1:=Ct _ _ _ _ _ h;unfold X2 at h
 obtain⟨x,k,h2,h3⟩:=rM h;have:=RC _ _ _ h2;have:=Ct _ _ _ _ _ h3;omega
theorem zkS{isN:AcG->Bool}{nv:AcG->Int}{names:List (AcG×Int)}{o:Int}{i j:Nat}{x:zF}(h:fm isN nv names l o i=.ok x j):i<j/\j<=l.length:=by
 unfold fm at h
 split at h
 ·obtain⟨_,_,h1,h⟩:=rM h;obtain⟨_,_,h2,h⟩:=rM h;obtain⟨_,_,h3,h⟩:=rM h
  injection h with _ h
  have:=ff U5 _ _ _ h1;have:=ff RC _ _ _ h2;have:=U5 _ _ _ h3;omega
 split at h
 ·obtain⟨_,_,h1,h⟩:=rM h
  injection h with _ h
  have:=ff RC _ _ _ h1;omega
 split at h
 ·obtain⟨_,_,h1,h⟩:=rM h;obtain⟨_,_,h2,h⟩:=rM h
  injection h with _ h
  have:=ff U5 _ _ _ h1;have:=Gi h2;omega
 split at h
 ·obtain⟨_,_,h1,h⟩:=rM h;obtain⟨_,_,h2,h⟩:=rM h
  injection h with _ h
  have:=ff RC _ _ _ h1;have:=ff (ff U5) _ _ _ h2;omega
 split at h
 ·obtain⟨_,_,h1,h⟩:=rM h
  injection h with _ h
  have:=Gi h1;omega
 split at h
 ·obtain⟨_,_,h1,h⟩:=rM h;obtain⟨_,_,h2,h⟩:=rM h
  injection h with _ h
  have:=RC _ _ _ h1;have:=ff RC _ _ _ h2;omega
 split at h
 ·obtain⟨_,_,h1,h⟩:=rM h
  injection h with _ h
  have:=ff Ie _ _ _ h1;omega
 ·obtain⟨_,_,h1,h⟩:=rM h;obtain⟨_,_,h2,h⟩:=rM h
  injection h with _ h
  have:=Gi h1;have:=Ie _ _ _ h2;omega
theorem zhG{isN:AcG->Bool}{nv:AcG->Int}{names:List (AcG×Int)}{i j:Nat}{x:zF}(h:Oj isN nv names l i=.ok x j):i+2<=j/\j<=l.length:=by
 unfold Oj at h
 split at h
 ·rename_i o ho
  have:=zd1 ho;have:=zkS h;omega
 ·cases h
theorem LW(hd:YP l)(hl:l.length*32<=140737488355328){pv:AcP}{names:List (AcG×Int)}{R:D->List (Nat×yN)->Prop}{T:Value->Prop}:∀(fuel:Nat) (cs:AcQ) (j:Nat),j<=l.length->l.length<j+fuel->cs.length*4<=j->
  (((VP zD yJ l names fuel cs j).bind λcs j=>(X5 zD l names j).bind λg j=> .ok (cs,g) j).on (λx j'=>R (.tup []) (X3 l en x.2.1 x.2.2 pv x.1 names j')) λj' e=>T (flt (tT l en j') e))->
  ∃n,mC R T n l (j:Int) en 0 0 names pv cs
 |0,cs,j,h1,h2,_,_=>by omega
 |fuel+1,cs,j,h1,h2,h3,hx=>by
  rw[VP]at hx
  cases hb:xY l ⟨#[99,111,110]⟩ j with
  |false=>
   rw[hb,An (by decide)]at hx
   have hx:((X5 zD l names j).bind λg j=>Pr.ok (cs,g) j).on _ _:=hx
   rw[Pr.on_bind]at hx
   exact⟨1,zcw hd j hb hx⟩
  |true=>
   rw[hb,As rfl]at hx
   have hlt:=uQ hb;have hq:=zd0 (l:=l) (en:=en) (goal:=0) (mvar:=0) (pv:=pv) (pc:=cs) (names:=names) hd (j+1);cases hc:Oj zD yJ names l (j+1)with
   |err i e=>
    rw[hc]at hq hx
    refine⟨1,?_⟩;rw[mU];refine⟨_,_,xR j _,?_⟩;rw[nD,hb,As rfl];exact bt rfl (.inr ⟨_,hq,hx⟩)
   |ok c i=>
    rw[hc]at hq hx
    have ha:=zhG hc;have hn:=sJ (l:=l) (en:=en) (goal:=0) (mvar:=0) (pv:=pv) (pc:=cs) (names:=names) i [⟨#[59]⟩];have hx:(((xO l [⟨#[59]⟩] i).bind λ_ j=>VP zD yJ l names fuel (cs++[c]) j).bind λcs j=>(X5 zD l names j).bind λg j=>Pr.ok (cs,g) j).on _ _:=hx
    rw[xO,xO]at hn hx
    cases hs:xY l ⟨#[59]⟩ i with
    |false=>
     rw[hs,An (by decide)]at hn hx
     refine⟨1,?_⟩;rw[mU];refine⟨_,_,xR j _,?_⟩;rw[nD,hb,As rfl];exact bt rfl (.inl ⟨_,_,hq,.inr ⟨_,hn,hx⟩⟩)
    |true=>
     rw[hs,As rfl]at hn hx
     have hi:=uQ hs;obtain⟨n,hr⟩:=LW hd hl fuel (cs++[c]) (i+1) (by omega) (by omega) (by rw[It];show(_+1)*4<=_;omega) hx
     refine⟨n+1,?_⟩;rw[mU];refine⟨_,_,xR j _,?_⟩;rw[nD,hb,As rfl];exact bt rfl (.inl ⟨_,_,hq,.inl ⟨_,hn,yW (t:=.con) (by show(cs.length+1)*112<=_;omega),hr⟩⟩)
end
section
variable {l:AcR}{en:Int}
theorem U7{s:AcG}{j k:Nat}{u:Unit}(h:xO l [s] j=.ok u k):k=j+1/\j<l.length:=by
 rw[xO,xO]at h
 split at h
 ·rename_i hb
  have:=uQ hb;injection h with _ h
  omega
 ·cases h
theorem zmr{isN:AcG->Bool}{j k:Nat}{s:AcG}(h:Xy isN l j=.ok s k):k=j/\j<l.length:=by
 unfold Xy at h
 split at h
 ·rename_i hc;injection h with _ h;exact⟨h.symm,hc.1⟩
 ·cases h
theorem zms{isN:AcG->Bool}{nv:AcG->Int}{i j:Nat}{x:zQ}(h:Id isN nv l i=.ok x j):i<j/\j<=l.length:=by
 unfold Id at h
 obtain⟨_,_,h1,h⟩:=rM h;obtain⟨_,_,h2,h⟩:=rM h;obtain⟨_,_,h3,h⟩:=rM h;obtain⟨_,_,h4,h⟩:=rM h;obtain⟨_,_,h5,h⟩:=rM h;obtain⟨_,_,h6,h⟩:=rM h;injection h with _ h
 have:=zmr h1;have:=U7 h2;have:=U5 _ _ _ h3;have:=U7 h4;have:=U5 _ _ _ h5;have:=U7 h6;omega
theorem zd2{s:AcG}{i:Int}:∀es:List (AcG×Int),(qH .str .int s i es).length<=es.length+1
 |[]=>BY _
 |(a,b)::r=>by
  have ih:=zd2 (s:=s) (i:=i) r;unfold qH;cases Kg .str s a with
  |true=>rw[AI];simp
  |false=>rw[Vs];simp only[Aad];omega
theorem zd3{s:AcG}{i:Int}{es:List (AcG×Int)}:(Yk es s i).length<=es.length+1:=by
 unfold Yk;split
 ·omega
 ·exact zd2 es
theorem LX(hd:YP l)(hl:l.length*32<=140737488355328){R:D->List (Nat×yN)->Prop}{T:Value->Prop}:∀(fuel:Nat) (vs:AcP) (ns:List (AcG×Int)) (j:Nat),j<=l.length->l.length<j+fuel->vs.length<=j->ns.length<=vs.length->
  (((LV zD yJ l fuel vs ns j).bind λx j=>(VP zD yJ l x.2 (l.length+1) [] j).bind λcs j=>(X5 zD l x.2 j).bind λg j=> .ok (x,cs,g) j).on (λy j'=>R (.tup []) (X3 l en y.2.2.1 y.2.2.2 y.1.1 y.2.1 y.1.2 j')) λj' e=>T (flt (tT l en j') e))->
  ∃n,sC R T n l (j:Int) en 0 0 ns vs []
 |0,vs,ns,j,h1,h2,_,_,_=>by omega
 |fuel+1,vs,ns,j,h1,h2,h3,h4,hx=>by
  rw[LV]at hx
  cases hb:xY l ⟨#[118,97,114]⟩ j with
  |false=>
   rw[hb,An (by decide)]at hx
   have hx:((VP zD yJ l ns (l.length+1) [] j).bind λcs j=>(X5 zD l ns j).bind λg j=>Pr.ok ((vs,ns),cs,g) j).on _ _:=hx
   refine⟨1,?_⟩;rw[YO];refine⟨_,_,xR j _,?_⟩;rw[nD,hb,An (by decide)]
   refine bf rfl (LW hd hl (l.length+1) [] j h1 (by omega) (AT _) ?_)
   rw[Pr.on_bind]at hx⊢
   refine Pr.on_mono hx (λcs j' h=> ?_) λ_ _ h=>h
   rw[Pr.on_bind]at h⊢
   exact h
  |true=>
   rw[hb,As rfl]at hx
   have hlt:=uQ hb
   obtain⟨n,hn⟩:∃n,∀v i,Id zD yJ l (j+1)=.ok v i->sC R T n l (i:Int) en 0 0 (Yk ns v.name vs.length) (vs++[v]) []:=by
    cases hv:Id zD yJ l (j+1)with
    |ok v i=>
     rw[hv]at hx
     have ha:=zms hv;have:=zd3 (s:=v.name) (i:=vs.length) (es:=ns);obtain⟨n,hr⟩:=LX hd hl fuel (vs++[v]) (Yk ns v.name vs.length) i ha.2 (by omega) (by rw[It];show _+1<=_;omega) (by rw[It];show _<=_+1;omega) hx
     exact⟨n,λv' i' e=>by injection e with e1 e2;subst e1 e2;exact hr⟩
    |err i e=>exact⟨0,λ_ _ e=>by cases e⟩
   have hy:(Id zD yJ l (j+1)).on (λv i=>sC R T n l (i:Int) en 0 0 (Yk ns v.name vs.length) (vs++[v]) []) λj' e=>T (flt (tT l en j') e):=by
    cases hv:Id zD yJ l (j+1)with
    |ok v i=>exact hn _ _ hv
    |err i e=>rw[hv]at hx;exact hx
   refine⟨n+1,?_⟩;rw[YO];refine⟨_,_,xR j _,?_⟩;rw[nD,hb,As rfl];rw[Id,Pr.on_bind,Xy]at hy
   have hq:=Ic (l:=l) (en:=en) (goal:=0) (mvar:=0) (pv:=vs) (pc:=[]) (names:=ns) (j+1);rw[Xy]at hq
   refine bt rfl ?_
   by_cases hc:j+1<l.length/\zD (pD l (j+1)).text=true
   ·rw[As hc]at hq hy
    refine .inl ⟨_,hq,?_⟩;rw[kI (by omega)]
    have hy:Pr.on (Pr.bind (xO l [⟨#[58]⟩] (j+1+1)) _) _ _:=hy;refine(sJ _ _).call (λ_ _ hs hk=> .inl ⟨_,hs,(YQ hd _).call (λa _ hs hk=> .inl ⟨_,_,hs,(sJ _ _).call (λ_ _ hs hk=> .inl ⟨_,hs,(YQ hd _).call (λb _ hs hk=> .inl ⟨_,_,hs,(sJ _ _).call (λ_ k hs hk=> .inl ⟨_,hs,?_⟩) (λ_ _ hs hy=> .inr ⟨_,hs,hy⟩) (Pr.on_bind.1 hk)⟩) (λ_ _ hs hy=> .inr ⟨_,hs,hy⟩) (Pr.on_bind.1 hk)⟩) (λ_ _ hs hy=> .inr ⟨_,hs,hy⟩) (Pr.on_bind.1 hk)⟩) (λ_ _ hs hy=> .inr ⟨_,hs,hy⟩) (Pr.on_bind.1 hk)⟩) (λ_ _ hs hy=> .inr ⟨_,hs,hy⟩) (Pr.on_bind.1 hy)
    have hk:sC R T n l (k:Int) en 0 0 (Yk ns (pD l (j+1)).text vs.length) (vs++[⟨(pD l (j+1)).text,a,b⟩]) []:=hk;have hr:xQ .var (vs.length+[(⟨(pD l (j+1)).text,a,b⟩:zQ)].length)=true:=yW (t:=.var) (by show(vs.length+1)*32<=_;omega)
    unfold Yk at hk
    cases hm:MU .str .int (pD l (j+1)).text ns with
    |true=>
     rw[hm,As rfl]at hk
     exact bnf rfl ⟨hr,hk⟩
    |false=>
     rw[hm,An (by decide)]at hk
     exact bnt rfl ⟨Or (by omega),hr,hk⟩
   ·rw[An hc]at hq hy
    exact .inr ⟨_,hq,hy⟩
theorem AG(hd:YP l):match aJ zD yJ l with
  | .ok (m,ns) j=>yQ ow [AcY] (X3 l en 0 0 [] [] [] 0) (.tup []) (X3 l en m.goal m.var m.vars m.cons ns j)
  | .err j e=>lY ow [AcY] (X3 l en 0 0 [] [] [] 0) (flt (tT l en j) e):=by
 have hx:∀(R:D->List (Nat×yN)->Prop) (T:Value->Prop),(aJ zD yJ l).on (λx j'=>R (.tup []) (X3 l en x.1.goal x.1.var x.1.vars x.1.cons x.2 j')) (λj' e=>T (flt (tT l en j') e))->
   (∀k o,yG k (X3 l en 0 0 [] [] [] 0)=some o->okO o)->FX sS f94 [AcY] (X3 l en 0 0 [] [] [] 0) [AcY] false R T:=λR T h ok2=>by
  refine(Nu l 0 en 0 0 [] [] [] R T)▸ ?_;refine LX hd (Sb ok2) (l.length+1) [] [] 0 (AT _) (by omega) (BY _) (BY _) ?_
  rw[aJ,Pr.on_bind]at h
  rw[Pr.on_bind];refine Pr.on_mono h (λx j h=> ?_) λ_ _ h=>h
  rw[Pr.on_bind]at h⊢
  refine Pr.on_mono h (λcs j h=> ?_) λ_ _ h=>h
  rw[Pr.on_bind]at h⊢
  exact h
 cases hm:aJ zD yJ l with
 |ok x j=>
  obtain⟨m,ns⟩:=x;exact Oc _ _ _ _ _ _ _ _ λok ok2=>hx _ _ (by rw[hm];exact⟨rfl,rfl⟩) ok2
 |err j e=>exact Od _ _ _ _ _ _ _ _ λok ok2=>hx _ _ (by rw[hm];exact rfl) ok2
end
def gJ:wG:= {own:=[14],live:=[],n:=19}
theorem Xz(a:AcT)(b:AcG)(R:oG):FH gJ f56 [AcY,.str b] [(1000,.cells [.slf 1000,.own 2000]),(2000,.row 5 .byte a)] [AcY] false R=
 (yQ lN [AcY] [(1000,.cells [.slf 1000,.own 2000]),(2000,.row 5 .byte a)] (.tup []) [(1000,.cells [.slf 1000,.own 2000]),(2000,.row 5 .byte a)]/\
 xQ .byte (a.length+b.size)=true/\
 R (.tup [dI (b.size:Int),.undef]) [(1000,.cells [.slf 1000,.own 2000]),(2000,.row 5 .byte (a++b.data.toList))]):=by kernel_rfl
theorem Y4(a:AcT)(b:AcG):nW gJ f56 vT [AcY,.str b] [(1000,.cells [.slf 1000,.own 2000]),(2000,.row 5 .byte a)] [AcY] false:=mJ func56 (by kernel_rfl) ntmps56 rfl
def Px:wG:= {own:=[6,9],live:=[],n:=52}
theorem Gj(b:AcG)(a:Int)(R:yL):FD Px f17 [.str b,dI a] R=
 (zJ (decide (4000<(b.size:Int)))
 (R (.tup [.str (⟨#[]⟩:AcG),dI 2]))
 (zJ (decide (a<0))
 (R (.tup [.str (⟨#[]⟩:AcG),dI 3]))
 (zJ (decide (300<a))
 (R (.tup [.str (⟨#[]⟩:AcG),dI 3]))
 (c3Q Y8 [.str b] .mdl .int .int λe g h=>
 zJ (!decide (h=0))
 (yM nT [dI g] .str λc=>
 (⟨#[116,101,120,116,32]⟩:AcG).size+c.size<=140737488355328/\
 ((⟨#[116,101,120,116,32]⟩:AcG)++c).size+(⟨#[10]⟩:AcG).size<=140737488355328/\
 R (.tup [.str (((⟨#[116,101,120,116,32]⟩:AcG)++c)++(⟨#[10]⟩:AcG)),dI 0]))
 (c2Q W8 [dM e,dI a] .ans .int λd f=>
 zJ (!decide (f=0))
 (R (.tup [.str (⟨#[]⟩:AcG),dI f]))
 (zJ (decide (d.verdict=1))
 (yM Y9 [dM e,.sl .int d.values] .str λi=>
 R (.tup [.str i,dI 0]))
 (zJ (decide (d.verdict=2))
 (R (.tup [.str (⟨#[110,111,110,101,10]⟩:AcG),dI 0]))
 (R (.tup [.str (⟨#[117,110,107,110,111,119,110,10]⟩:AcG),dI 0]))))))))):=by kernel_rfl
theorem Ik(a:AcG)(b:Int):xZ Px f17 Ya [.str a,dI b]:=wA func17 (by kernel_rfl) ntmps17 rfl
def Py:wG:= {own:=[8,11,39],live:=[],n:=61}
theorem Gk(d:AcG)(a:AcK)(c:AcS)(R:yL):FD Py Tryz.f23 [.str d,.sl .int a,.sl .step c] R=
 (c3Q Y8 [.str d] .mdl .int .int λb n e=>
 zJ (!decide (e=0))
 (R (.tup [dB false,dI e]))
 (zJ (decide (0<(a.length:Int)))
 (c2Q Wz [dM b,.sl .int a] (.list .lit) .int λf g=>
 zJ (!decide (g=0))
 (R (.tup [dB false,dI g]))
 (xQ (.list .lit) (([]:AcN).length+([f]).length)=true/\
 c2Q ZI [dM b,.sl (.list .lit) (([]:AcN)++([f])),.sl .step c] .bool .int λj h=>
 zJ (!decide (h=0))
 (R (.tup [dB false,dI h]))
 (zJ j
 (zJ (decide ((a.length:Int)=0))
 (R (.tup [dB true,dI 0]))
 (yM ZJ [dM b,.sl .int a] .bool λk=>
 R (.tup [dB k,dI 0])))
 (R (.tup [dB false,dI 0])))))
 (c2Q ZI [dM b,.sl (.list .lit) ([]:AcN),.sl .step c] .bool .int λl i=>
 zJ (!decide (i=0))
 (R (.tup [dB false,dI i]))
 (zJ l
 (zJ (decide ((a.length:Int)=0))
 (R (.tup [dB true,dI 0]))
 (yM ZJ [dM b,.sl .int a] .bool λm=>
 R (.tup [dB m,dI 0])))
 (R (.tup [dB false,dI 0])))))):=by kernel_rfl
theorem Il(a:AcG)(b:AcK)(c:AcS):xZ Py Tryz.f23 jU [.str a,.sl .int b,.sl .step c]:=wA func23 (by kernel_rfl) ntmps23 rfl
def fg:wG:= {own:=[5,7],live:=[(0,([1,5,14,15,16],[5,1005001]))],n:=34,nils:=[(5,(0,(5,.byte))),(5,(1,(5,.byte)))],pubs:=[]}
def dA(a:zG)(b:AcK)(R:yL)(c:Nat)(d:Int)(e:AcT):Prop:=LP fg f67 [1,1,1,0,1,0,0] 0 c ⟨[(1,.sl .int b),(5,.ptr 5 0),(14,.sl .var a.vars),(15,dI (a.vars.length:Int)),(16,dI d)],[(5,.cells [.slf 5,.own 1005001]),(1005001,.row 5 .byte e)]⟩ (zH 0 (sK fg f67 [1,1,1,1] 0 (eK f67 R)))
def iZ(a:zG)(b:AcK)(R:yL)(c:Nat)(d:Int)(e:AcT):Prop:=LP fg f67 [1,1,1,0,1,0,0] 0 c ⟨[(1,.sl .int b),(5,.ptr 5 0),(14,.sl .var a.vars),(15,dI (a.vars.length:Int)),(16,dI d)],[(5,.cells [.slf 5,.own 1005001]),(1005001,.row 5 .byte e)]⟩ (zH 0 (sK fg f67 [1,1,1,1] 0 (eK f67 R)))
theorem KN(b:zG)(c:AcK)(R:yL)(f:Nat)(a:Int)(d:AcT):dA b c R (f+1) a d=
 (zJ (decide (a<(b.vars.length:Int)))
 (xM a b.vars.length=true/\
 xM a c.length=true/\
 yM nT [dI (zW .int c a.toNat)] .str λe=>
 ((zW .var b.vars a.toNat).name).size+(⟨#[32,61,32]⟩:AcG).size<=140737488355328/\
 (((zW .var b.vars a.toNat).name)++(⟨#[32,61,32]⟩:AcG)).size+e.size<=140737488355328/\
 ((((zW .var b.vars a.toNat).name)++(⟨#[32,61,32]⟩:AcG))++e).size+(⟨#[10]⟩:AcG).size<=140737488355328/\
 ∃i:Int,∃g:AcT,yQ vT [AcY,.str (((((zW .var b.vars a.toNat).name)++(⟨#[32,61,32]⟩:AcG))++e)++(⟨#[10]⟩:AcG))] [(1000,.cells [.slf 1000,.own 2000]),(2000,.row 5 .byte d)] (.tup [dI i,.undef]) [(1000,.cells [.slf 1000,.own 2000]),(2000,.row 5 .byte g)]/\
 dA b c R f (yF (a+1)) g)
 (∃h:AcG,yQ nG [AcY] [(1000,.cells [.slf 1000,.own 2000]),(2000,.row 5 .byte d)] (.str h) []/\
 R (.str h))):=by kernel_rfl
theorem NI(b:zG)(c:AcK)(R:yL)(f:Nat)(a:Int)(d:AcT):iZ b c R (f+1) a d=
 (zJ (decide (a<(b.vars.length:Int)))
 (xM a b.vars.length=true/\
 xM a c.length=true/\
 yM nT [dI (zW .int c a.toNat)] .str λe=>
 ((zW .var b.vars a.toNat).name).size+(⟨#[32,61,32]⟩:AcG).size<=140737488355328/\
 (((zW .var b.vars a.toNat).name)++(⟨#[32,61,32]⟩:AcG)).size+e.size<=140737488355328/\
 ((((zW .var b.vars a.toNat).name)++(⟨#[32,61,32]⟩:AcG))++e).size+(⟨#[10]⟩:AcG).size<=140737488355328/\
 ∃i:Int,∃g:AcT,yQ vT [AcY,.str (((((zW .var b.vars a.toNat).name)++(⟨#[32,61,32]⟩:AcG))++e)++(⟨#[10]⟩:AcG))] [(1000,.cells [.slf 1000,.own 2000]),(2000,.row 5 .byte d)] (.tup [dI i,.undef]) [(1000,.cells [.slf 1000,.own 2000]),(2000,.row 5 .byte g)]/\
 iZ b c R f (yF (a+1)) g)
 (∃h:AcG,yQ nG [AcY] [(1000,.cells [.slf 1000,.own 2000]),(2000,.row 5 .byte d)] (.str h) []/\
 R (.str h))):=by kernel_rfl
theorem Eo(a:zG)(b:AcK)(R:yL):FD fg f67 [dM a,.sl .int b] R=
 (zJ (decide (a.goal=0))
 (∃e:Int,∃c:AcT,yQ vT [AcY,.str (⟨#[102,111,117,110,100,10]⟩:AcG)] [(1000,.cells [.slf 1000,.own 2000]),(2000,.row 5 .byte ([]:AcT))] (.tup [dI e,.undef]) [(1000,.cells [.slf 1000,.own 2000]),(2000,.row 5 .byte c)]/\
 ∃n0,dA a b R n0 0 c)
 (∃f:Int,∃d:AcT,yQ vT [AcY,.str (⟨#[98,101,115,116,10]⟩:AcG)] [(1000,.cells [.slf 1000,.own 2000]),(2000,.row 5 .byte ([]:AcT))] (.tup [dI f,.undef]) [(1000,.cells [.slf 1000,.own 2000]),(2000,.row 5 .byte d)]/\
 ∃n0_2,iZ a b R n0_2 0 d)):=by kernel_rfl
theorem Gl(a:zG)(b:AcK):xZ fg f67 Y9 [dM a,.sl .int b]:=wA func67 (by kernel_rfl) ntmps67 rfl
def NJ(n:Int):AcG:=⟨(Lib.itoa n).toArray⟩
def nmS(vs:AcP)(i:Int):AcG:=(zW .var vs i.toNat).name
theorem szA(a:Array UInt8):(⟨a⟩:AcG).size=a.size:=rfl
theorem zmu(b:Nat)(w:World)(h0:w.cell? ⟨b,0,none⟩=some (.pointer (some ⟨b,0,none⟩))):
  Calls prog 106 #[.pointer (some ⟨b,0,none⟩)] w λe w'=>e=.returned (.tuple #[])/\w'=w:=by
 have u:prog.underlying 96=some (.pointer 99):=by kernel_rfl
 obtain⟨j,hj⟩:∃j,prog.info? 99=some j:=Acl.1 (by kernel_rfl)
 go_enter func106,ntmps106
 go_wp2
 rw[Lib.run_neq_ptr_same w _ u hj]
 go_wp2
 go_end0
 exact⟨rfl,rfl⟩
set_option maxRecDepth 100000 in
theorem zkT(b n:Nat)(T:AcI)(w:World)(h0:w.cell? ⟨b,0,none⟩=some (.pointer none))(hsh:w.shape? b=some (T,n))(hn:0<n)(hfz:w.frozen? ⟨b,0,none⟩=false)
  (hl:liesAt prog prog.depth T (n/prog.cellsOf T) 0 99 1=true):
  Calls prog 106 #[.pointer (some ⟨b,0,none⟩)] w λe w'=>e=.returned (.tuple #[])/\w'=w.setCell ⟨b,0,none⟩ (.pointer (some ⟨b,0,none⟩)):=by
 have u:prog.underlying 96=some (.pointer 99):=by kernel_rfl
 have u2:prog.underlying 210=some .unsafePointer:=by kernel_rfl
 obtain⟨j,hj⟩:∃j,prog.info? 99=some j:=Acl.1 (by kernel_rfl)
 have hjs:j.size=2:=by
  have:(prog.info? 99).map (·.size)=some 2:=by kernel_rfl
  rw[hj]at this;simpa using this
 go_enter func106,ntmps106
 go_wp2
 rw[Lib.run_to_unsafe w ⟨b,0,none⟩ u u2 hj (by rw[hjs];decide) hsh hn]
 simp only[Result.andThen];rw[Oper.upon_value]
 go_wp2
 rw[run_callFunc_extern func172 (by kernel_rfl) (by kernel_rfl) (by kernel_rfl) (e:=Extern.AbiNoEscape.same) (by kernel_rfl)]
 rw[Lib.run_noEscape];simp only[Result.andThen];rw[Oper.upon_value]
 go_wp2
 rw[Lib.run_from_unsafe w ⟨b,0,none⟩ u2 u hj hsh hl];simp only[Result.andThen];rw[Oper.upon_value]
 go_wp2
 go_end0
 exact⟨rfl,rfl⟩
theorem zd4{w:World}{S:Nat->Prop}{pl:Nat->Value}{vs:Array Value}(hsz:vs.size=1)(hv:Rd w S pl (vs.getD 0 undef) (AcY)):∃b,pl 1000=.pointer (some ⟨b,0,none⟩)/\vs= #[.pointer (some ⟨b,0,none⟩)]:=by
 obtain⟨b,e1,e2⟩:=hv;refine⟨b,e1,?_⟩;apply Array.ext
 ·simpa using hsz
 ·intro i h1 h2
  have:i=0:=by omega
  subst this;rw[Aae,AaR h1]at e2
  simpa using e2
theorem zcx(ds:AcO)(buf:AcT)(hlies:∀T,memT zc7 T (ds.length+1)=true->liesAt prog prog.depth T ((ds.length+1)/prog.cellsOf T) 0 99 1=true):
  yQ lN [AcY] [(1000,.cells (.slf 1000::ds)),(2000,.row 5 .byte buf)] (.tup []) [(1000,.cells (.slf 1000::ds)),(2000,.row 5 .byte buf)]:=by
 intro w S vs pl hS hsz hv hh hg;obtain⟨b,e1,rfl⟩:=zd4 hsz (hv 0 _ rfl);obtain⟨b',cs,T,eb,mb,zb,rb,tb⟩:=hh.ok 1000 _ rfl;rw[e1]at eb;injection eb with eb;injection eb with eb;injection eb with eb;subst eb
 have hT:memT zc7 T (ds.length+1)=true:=tb rfl;have zb:cs.size=ds.length+1:=zb;have h0:=rb 0 _ rfl
 have hc:w.cell? ⟨b,0,none⟩=some (cs.getD 0 undef):=by
  rw[cell_of_row w b 0 cs T (0,0) mb];simp[Aae,zb]
 have hpr:=hh.priv 1000 _ b rfl (by rw[e1];rfl)
 rcases h0 with h0|⟨b2,h2,h0⟩
 ·rw[h0]at hc
  have hsh:w.shape? b=some (T,cs.size):=by simp[World.shape?,mb]
  refine(zkT b cs.size T w hc hsh (by omega) (frozen_of_row w b 0 cs T mb) (by rw[zb];exact hlies T hT)).mono λe w' ⟨he,hw⟩=> ?_
  subst hw;have hfar:∀c,c≠b->(w.setCell ⟨b,0,none⟩ (.pointer (some ⟨b,0,none⟩))).heap[c]? =w.heap[c]? :=λc hc=>Below.heap_setCell w ⟨b,0,none⟩ _ c hc
  have hat:vR (w.setCell ⟨b,0,none⟩ (.pointer (some ⟨b,0,none⟩))) b T (cs.setIfInBounds 0 (.pointer (some ⟨b,0,none⟩))):=vR.set_ mb 0 _;refine⟨_,S,pl,he,Rp.rd (.tup _ _ rfl λi d hd=>by simp at hd),⟨λk o ho=> ?_,λk o c ho hc=> ?_,hh.inj⟩,λc hc=>by simpa[World.setCell]using hS c hc,λc hc=> .inl hc,λc h=> .inl h,λ_ _=>rfl,⟨rfl,rfl,rfl,by simp[World.setCell],λc _ hn=>hfar c λe=>hn ⟨1000,_,rfl,by rw[e1,e];rfl⟩⟩⟩
  ·by_cases hk:k=1000
   ·subst hk
    have ho:yN.cells (.slf 1000::ds)=o:=by injection ho
    subst ho;refine⟨b,_,T,e1,hat,by simpa using zb,λi d hd=> ?_,λ_=>hT⟩
    cases i with
    |zero=>
     injection hd with hd;subst hd
     refine .inr ⟨b,e1,?_⟩;simp[Aae,zb]
    |succ i=>
     have h:=rb (i+1) d hd
     have e:(cs.setIfInBounds 0 (.pointer (some ⟨b,0,none⟩))).getD (i+1) undef=cs.getD (i+1) undef:=by
      rw[Aae,Aae,Acz (by omega)]
     rw[e];exact h.mono (λc hc=>hfar c λe=>hpr.2 (e▸hc)) (λ_ h=>h) λ_ _=>rfl
   ·refine(hh.ok k o ho).mono (λc hc=>hfar c λe=>hpr.2 (e▸hc)) (λc hcc=>hfar c λe=>hk (hh.inj k 1000 o _ c ho rfl hcc (by rw[e1,e];rfl))) (λ_ h=>h) λ_ _ _ _=>rfl
  ·have:=hh.priv k o c ho hc
   exact⟨by simpa[World.setCell]using this.1,this.2⟩
 ·rw[e1]at h2;injection h2 with h2;injection h2 with h2;injection h2 with h2;subst h2
  rw[h0]at hc
  refine(zmu b w hc).mono λe w' ⟨he,hw⟩=> ?_
  subst hw;exact⟨_,S,pl,he,Rp.rd (.tup _ _ rfl λi d hd=>by simp at hd),hh,hS,λc hc=> .inl hc,λc h=> .inl h,λ_ _=>rfl,⟨rfl,rfl,rfl,BY _,λ_ _ _=>rfl⟩⟩
theorem zf6{w:World}{g n:Nat}{k:Nat}(hk:k≠g):(w.freeze ⟨g,0,none⟩ n).heap[k]? =w.heap[k]? :=by
 unfold World.freeze;split
 ·rfl
 ·simp only[AbS]
  rw[An (by omega)]
theorem zd5{w:World}{g n:Nat}:(w.freeze ⟨g,0,none⟩ n).os=w.os/\(w.freeze ⟨g,0,none⟩ n).tape=w.tape/\(w.freeze ⟨g,0,none⟩ n).output=w.output/\(w.freeze ⟨g,0,none⟩ n).heap.size=w.heap.size:=by
 unfold World.freeze;split
 ·exact⟨rfl,rfl,rfl,rfl⟩
 ·exact⟨rfl,rfl,rfl,by simp⟩
set_option maxHeartbeats 1000000 in
set_option maxRecDepth 100000 in
theorem zd6(b g cap:Nat)(l:AcT)(cur:Array Value)(w:World)(h0:l≠[])(hc1:w.cell? ⟨b,1,none⟩=some (.slice (some ⟨g,0,none⟩) l.length cap))(hg:w.heap[g]? =some (.cells cur 5 (0,0)))(hcap:cap≠0)(hlen:l.length<=cur.size)(hl:l.length<=9223372036854775807)
  (hcell:∀j x,l[j]? =some x->w.cell? ((⟨g,0,none⟩:Addr).add j)=some (.int .u8 x.toNat)):
  Calls prog 60 #[.pointer (some ⟨b,0,none⟩)] w λe w'=>e=.returned (.string ⟨l.toArray⟩)/\w'=w.drew.freeze ⟨g,0,none⟩ l.length:=by
 have c1:w.drew.cell? ⟨b,1,none⟩=some (.slice (some ⟨g,0,none⟩) l.length cap):=hc1;have mixed:prog.follows .mixedOrders=true:=by kernel_rfl
 have t174:prog.underlying 174=some (.pointer 5):=by kernel_rfl
 have cb:prog.cellsOf 5=1:=by kernel_rfl
 have hSD:(Builtin.unsafeSliceData_ #[97] 174 #[.slice (some ⟨g,0,none⟩) l.length cap]).run prog w.drew=.ok (.pointer (some ⟨g,0,none⟩)) w.drew:=
  Lib.run_unsafeSliceData_row _ _ _ _ _ _ hcap
 have hUS:(Builtin.unsafeString_ #[174,3] 9 #[.pointer (some ⟨g,0,none⟩),.int .i64 l.length]).run prog w.drew=.ok (.string ⟨l.toArray⟩) (w.drew.freeze ⟨g,0,none⟩ l.length):=by
  refine Lib.run_unsafeString_row w.drew 174 3 9 5 t174 cb g cur.size (by have hg':w.drew.heap[g]? =some (.cells cur 5 (0,0)):=hg;simp[World.shape?,hg']) l h0 hlen hl ?_
  exact hcell
 clear hcell hcap
 go_enter func60,ntmps60
 go_wp2
 go_region_o
 all_goals(go_wp2;go_ret;exact⟨rfl,rfl⟩)
theorem zaG{α β:Type}(f:α->β):∀l:List α,(l.map λx=>[f x]).flatten=l.map f
 |[]=>rfl
 |x::r=>by rw[Aak,Aa6,zaG f r];rfl
theorem zaH(d0:D)(ds:AcO)(buf:AcT)(h0:buf≠[])(hw:yY (buf.length:Int)):yQ nG [AcY] [(1000,.cells (d0:: .own 2000::ds)),(2000,.row 5 .byte buf)] (.str ⟨buf.toArray⟩) []:=by
 intro w S vs pl hS hsz hv hh hg;obtain⟨b,e1,rfl⟩:=zd4 hsz (hv 0 _ rfl);obtain⟨b',cs,T,eb,mb,zb,rb,tb⟩:=hh.ok 1000 _ rfl;rw[e1]at eb;injection eb with eb;injection eb with eb;injection eb with eb;subst eb
 have zb:cs.size=ds.length+1+1:=zb;have h1:cs.getD 1 undef=pl 2000:=rb 1 _ rfl
 have hc:w.cell? ⟨b,1,none⟩=some (cs.getD 1 undef):=by
  rw[cell_of_row w b 1 cs T (0,0) mb];simp[Aae,zb]
 obtain⟨hlim,css,l3,h4,h5,h6⟩:=hh.ok 2000 _ rfl;have hlim:buf.length*1<=140737488355328:=hlim
 have hcss:css=buf.map λx=>[Value.int .u8 (x.toNat:Int)]:=by
  apply Acd;intro i;rw[Aau];cases hx:buf[i]? with
  |none=>
   have:buf.length<=i:=List.getElem?_eq_none_iff.1 hx;rw[AbU (by omega)];rfl
  |some x=>
   have hi:i<buf.length:=(AaD.1 hx).1;have hci:css[i]? =some (css[i]'(by omega)):=Aac (by omega)
   have:css[i]'(by omega)=[Value.int .u8 (x.toNat:Int)]:=h6 i x _ hx hci
   rw[hci,this];rfl
 have hflat:css.flatten=buf.map λx=>Value.int .u8 (x.toNat:Int):=by
  rw[hcss];exact zaG _ buf
 have hpos:0<buf.length:=AbC.2 h0;have hcells:=h4;rcases h4.2 with⟨_,hz⟩|⟨g,cap,cur,e2,_,hgg,hnc,hcm,hcs,_⟩
 ·omega
 rw[h1,e2]at hc
 have hcs:cur.size=cap:=by rw[hcs];exact Abg _
 refine(zd6 b g cap buf cur w h0 hc hgg (by omega) (by omega) (by unfold yY at hw;omega) λj x hx=> ?_).mono λe w' ⟨he,hw'⟩=> ?_
 ·exact hcells.cells (g:=g) (by rw[e2];rfl) j _ (by rw[hflat,Aau,hx];rfl)
 ·subst hw'
  obtain⟨f1,f2,f3,f4⟩:=zd5 (w:=w.drew) (g:=g) (n:=buf.length);have hz:(⟨buf.toArray⟩:AcG).size<=140737488355328:=by show buf.toArray.size<=_;rw[AaT];omega
  refine⟨_,λ_=>False,pl,he,Rp.rd (.str _ hz),⟨λk o h=>(by cases h),λk o b h=>(by cases h),λk k' o o' b h=>(by cases h)⟩,λc h=>h.elim,λc h=>h.elim,λc ⟨k,o,h,_⟩=>(by cases h),λ_ _=>rfl,⟨f1,f2,f3,by rw[f4];exact BY _,λc _ hn=>zf6 λe=>hn ⟨2000,_,rfl,by rw[e2,e];rfl⟩⟩⟩
theorem zmv(T:AcI)(n:Nat)(h:memT zc7 T n=true):n=2/\T=99\/n=6/\T=101:=by
 unfold zc7 memT at h
 cases h1:Nat.beq 99 T&&Nat.beq 2 n with
 |true=>
  rw[If]at h1
  exact .inl ⟨(Acq h1.2).symm,(Acq h1.1).symm⟩
 |false=>
  simp only[h1,Vs]at h
  unfold memT at h
  cases h2:Nat.beq 101 T&&Nat.beq 6 n with
  |true=>
   rw[If]at h2
   exact .inr ⟨(Acq h2.2).symm,(Acq h2.1).symm⟩
  |false=>simp only[h2,Vs]at h;cases h
theorem zod(T:AcI)(n:Nat)(h:memT zc7 T n=true):liesAt prog prog.depth T (n/prog.cellsOf T) 0 99 1=true:=by
 rcases zmv T n h with⟨rfl,rfl⟩|⟨rfl,rfl⟩<;>kernel_rfl
theorem eE{n:Int}(h:yY n):(NJ n).size<=21:=by
 have:=Lib.itoa_length_le n h.1 h.2;simpa[NJ,ByteArray.size]using this
theorem zd7:∃g,prog.globalNamed "internal/strconv.uint64pow10" =some g:=Acl.1 (by kernel_rfl)
theorem MI{n:Int}(h:yY n):tJ nT [dI n] (.str (NJ n)):=by
 intro w S vs hS hl hv hg;obtain⟨g,hgn⟩:=zd7;have htab:=(hg g hgn).1;obtain⟨e0,hz⟩:=(hv 0 _ rfl).int_inv
 have e:vs= #[.int .i64 n]:=by
  have hl:vs.size=1:=hl;apply Array.ext
  ·simpa using hl
  ·intro i h1 h2
   have:i=0:=by omega
   subst this;simpa[Aae,h1]using e0
 subst e;refine(strconv_Itoa n h.1 h.2 w htab).mono λe w' ⟨he,k,os,hw⟩=> ?_
 subst hw;exact⟨_,he,.str (NJ n) (Aai (eE h) (by decide)),Lib.below_grow _ w (BY _) k os⟩
theorem zf7{s:AcG}(h:Zn 1 s.data.toList=true):s.size<=12:=by
 have hz:s.size=s.data.toList.length:=rfl;rw[hz];cases hd:s.data.toList with
 |nil=>simp
 |cons c r=>
  rw[hd]at h
  simp only[Zn,If,decide_eq_true_eq]at h
  obtain⟨⟨⟨_,h1⟩,h2⟩,h3⟩:=h;have h1:(yD (c::r)).1=1:=by omega
  rw[h1,h2]at h3
  unfold uO at h3
  rw[An (by decide)]at h3
  by_cases h4:(c::r).length>12
  ·rw[As (.inl ⟨rfl,h4⟩)]at h3;cases h3
  ·omega
theorem ziK{s:AcG}(h:zD s=true):s.size<=12:=by
 unfold zD at h
 rw[If]at h
 exact zf7 h.1
structure znA (m:zG):Prop where
 right:Right m
 names:∀v∈m.vars,v.name.size<=12
 cons:∀c∈m.cons,tS c m.vars.length
theorem zd8{vs:AcP}(h:S5 vs=0):∀v∈vs,zD v.name=true:=λv hv=>by
 obtain⟨i,hi,rfl⟩:=Aal hv;have:=OR vs 0 h i hi;unfold DV at this
 split at this
 ·exact At this (by decide)
 ·rename_i h;cases hb:zD vs[i].name with
  |true=>rfl
  |false=>exact At hb h
theorem zd9{m:zG}(h:xE m=0):S5 m.vars=0:=by
 unfold xE at h
 split at h
 ·exact At h (by decide)
 split at h
 ·exact At h (by decide)
 split at h
 ·rename_i h1;exact At h h1
 ·rename_i h1;exact Decidable.of_not_not h1
theorem zoC{m:zG}(h:xE m=0):znA m:=
 ⟨pR h,λv hv=>ziK (zd8 (zd9 h) v hv),λc hc=>MH (pR h).vars ((pR h).con c hc)⟩
theorem Gm{n:Int}(h: -1000<=n/\n<=1000):yY n:=by unfold yY;omega
theorem zcy{n:Int}(h: -1000<=n/\n<=1000):(NJ n).size<=21:=eE (Gm h)
theorem ziL{m:zG}{l:zC}(h:xE m=0):tJ pK [dM m,dL l] (dI (gX m.vars.length l)):=X0 m l (by have:=(pR h).vars;omega)
theorem zcz{l:zC}:(bJ l).var=l.var:=by
 unfold bJ;split
 ·rfl
 split
 ·rfl
 split<;>rfl
theorem zaI{l:zC}(h:1<=l.op/\l.op<=4)(n:Int):holdsL (bJ l) n= !holdsL l n:=by
 have h3:l.op=1\/l.op=2\/l.op=3\/l.op=4:=by omega
 rcases h3 with h|h|h|h<;>simp[bJ,holdsL,h]<;>first|rfl|(rw[<-decide_not];exact decide_eq_decide.2 (by omega))|(exact decide_eq_decide.2 (by omega))|omega
theorem Im{α:Type}{p:α->Bool}:∀ {r:List α},(r.filter p).length+(r.filter λx=> !p x).length=r.length
 |[]=>rfl
 |a::r=>by
  have:=Im (p:=p) (r:=r);rw[Aa7,Aa7];cases p a<;>simp<;>omega
def XA:wG:= {own:=[6],live:=[(0,([2,11,12,13],[]))],n:=24}
def Yl(a:zG)(b:AcM)(R:yL)(c:Nat)(d:Int):Prop:=LP XA f126 [1,1,0,1,0,0] 0 c ⟨[(2,.iptr (WG a []) 0),(11,.sl .lit b),(12,dI (b.length:Int)),(13,dI d)],[]⟩ (zH 0 (sK XA f126 [1,1,1] 0 (eK f126 R)))
theorem U8(c:zG)(a:AcM)(R:yL)(d:Nat)(b:Int):Yl c a R (d+1) b=
 (zJ (decide (b<(a.length:Int)))
 (xM b a.length=true/\
 yM T1 [dM c,dL (zW .lit a b.toNat)] .int λe=>
 zJ (!decide (e=0))
 (R (dI e))
 (Yl c a R d (yF (b+1))))
 (R (dI 0))):=by kernel_rfl
theorem Ep(b:zG)(a:AcM)(R:yL):FD XA f126 [dM b,.sl .lit a] R=
 (zJ (decide (40<(a.length:Int)))
 (R (dI 2))
 (∃n0,Yl b a R n0 0)):=by kernel_rfl
theorem Gn(a:zG)(b:AcM):xZ XA f126 bR [dM a,.sl .lit b]:=wA func126 (by kernel_rfl) ntmps126 rfl
def RD:wG:= {own:=[],live:=[],n:=8}
theorem Io(a:AcL)(b:AcM)(R:yL):FD RD Tryz.f189 [dS a,.sl .lit b] R=
 (yM sY [dS a,.clo fP none [.iptr [.sl .lit b] 0]] (.list (.list .int)) λc=>
 R (dS c)):=by kernel_rfl
theorem KO(a:AcL)(b:AcM):xZ RD Tryz.f189 gY [dS a,.sl .lit b]:=wA func189 (by kernel_rfl) ntmps189 rfl
def Uf:wG:= {own:=[5,7,8],live:=[(0,([0,3,5,13,14,15],[5]))],n:=44}
def dU(b:AcL)(a:AcM)(R:yL)(c:Nat)(d e:Int):Prop:=LP Uf f200 [1,1,1,0,1,0,0] 0 c ⟨[(0,dS b),(3,.iptr [.sl .lit a] 0),(5,.ptr 5 0),(13,.sl .lit a),(14,dI (a.length:Int)),(15,dI d)],[(5,.cells [dI e])]⟩ (zH 0 (sK Uf f200 [1,1,1,1] 0 (eK f200 R)))
theorem Gp(c:AcL)(a:AcM)(R:yL)(e:Nat)(b d:Int):dU c a R (e+1) b d=
 (zJ (decide (b<(a.length:Int)))
 (xM b a.length=true/\
 yM Qm [dS c,dL (zW .lit a b.toNat)] .int λf=>
 zJ (decide (f<0))
 (dU c a R e (yF (b+1)) d)
 (zJ (decide (0<=d))
 (zJ (!decide (d=((zW .lit a b.toNat).var)))
 (yM fy [dS c] (.list (.list .int)) λg=>
 R (dS g))
 (dU c a R e (yF (b+1)) ((zW .lit a b.toNat).var)))
 (dU c a R e (yF (b+1)) ((zW .lit a b.toNat).var))))
 (zJ (decide (d<0))
 (yM uT [dS c] (.list (.list .int)) λh=>
 R (dS h))
 (yM sY [dS c,.clo Xh none [.iptr [dI d] 0,.iptr [.clo gZ none [.iptr [.sl .lit a] 0,.iptr [dI d] 0]] 0]] (.list (.list .int)) λi=>
 R (dS i)))):=by kernel_rfl
theorem AH(a:AcL)(b:AcM)(R:yL):FD Uf f200 [dS a,.sl .lit b] R=
 (yM xF [dS a] .bool λc=>
 zJ c
 (yM fy [dS a] (.list (.list .int)) λd=>
 R (dS d))
 (∃n0,dU a b R n0 0 (-1))):=by kernel_rfl
theorem Cu(a:AcL)(b:AcM):xZ Uf f200 fL [dS a,.sl .lit b]:=wA func200 (by kernel_rfl) ntmps200 rfl
def U9:wG:= {own:=[],live:=[],n:=10}
theorem Lt(a b:Int)(c:AcM)(R:yL):FD U9 f239 [dI a,dI b,.iptr [.sl .lit c] 0] R=
 (yM vH [.sl .lit c,.clo iF none [.iptr [dI a] 0,.iptr [dI b] 0]] .bool λd=>
 R (dB (!d))):=by kernel_rfl
theorem NK(a b:Int)(c:AcM):xZ U9 f239 fP [dI a,dI b,.iptr [.sl .lit c] 0]:=wA func239 (by kernel_rfl) ntmps239 rfl
def Vk:wG:= {own:=[],live:=[],n:=14}
theorem Ok(a:zC)(b c:Int)(R:yL):FD Vk f241 [dL a,.iptr [dI b] 0,.iptr [dI c] 0] R=
 (zJ (decide (a.var=b))
 (yM fw [dL a,dI c] .bool λd=>
 R (dB d))
 (R (dB false))):=by kernel_rfl
theorem QY(a:zC)(b c:Int):xZ Vk f241 iF [dL a,.iptr [dI b] 0,.iptr [dI c] 0]:=wA func241 (by kernel_rfl) ntmps241 rfl
def NL:wG:= {own:=[],live:=[],n:=8}
theorem Er(a:Int)(b:AcM)(c:Int)(R:yL):FD NL f253 [dI a,.iptr [.sl .lit b] 0,.iptr [dI c] 0] R=
 (yM vH [.sl .lit b,.clo aW none [.iptr [dI c] 0,.iptr [dI a] 0]] .bool λd=>
 R (dB d)):=by kernel_rfl
theorem Gq(a:Int)(b:AcM)(c:Int):xZ NL f253 gZ [dI a,.iptr [.sl .lit b] 0,.iptr [dI c] 0]:=wA func253 (by kernel_rfl) ntmps253 rfl
def RE:wG:= {own:=[],live:=[],n:=14}
theorem Ip(a:zC)(b c:Int)(R:yL):FD RE f254 [dL a,.iptr [dI b] 0,.iptr [dI c] 0] R=
 (zJ (decide (a.var=b))
 (yM fw [dL a,dI c] .bool λd=>
 R (dB d))
 (R (dB false))):=by kernel_rfl
theorem KP(a:zC)(b c:Int):xZ RE f254 aW [dL a,.iptr [dI b] 0,.iptr [dI c] 0]:=wA func254 (by kernel_rfl) ntmps254 rfl
def NM:wG:= {own:=[],live:=[],n:=15}
theorem Es(b c d:Int)(a:AcH)(e:AcO)(R:yL):FD NM f255 [dI b,dI c,.iptr [dI d] 0,.iptr [.clo a (some [.bool]) e] 0] R=
 (zJ (!decide (b=d))
 (R (dB true))
 (Xk a/\
 yM a ([dI c]++e) .bool λf=>
 R (dB f))):=by kernel_rfl
theorem Gr(a b c:Int)(d:AcH)(e:AcO):xZ NM f255 Xh [dI a,dI b,.iptr [dI c] 0,.iptr [.clo d (some [.bool]) e] 0]:=wA func255 (by kernel_rfl) ntmps255 rfl
theorem KQ(l:AcK):yQ sP [.sl .int l] [] (.own 3000) [(3000,.row 3 .int l)]:=
 UQ l λok _=>by
  rw[Tz];intro b hb;refine zA (λe=> ?_) λe=>⟨?_,?_⟩
  ·rw[hb e];exact⟨rfl,rfl⟩
  ·refine yW (t:=.int) ?_
   have:=(aU (t:=.int) (MD ok)).1;show(0+l.length)*8<=_
   have h8:l.length*8<=140737488355328:=this;omega
  ·exact⟨rfl,rfl⟩
theorem XB(s:AcL):tJ fy [dS s] (dS s):=
 Ay s λok=>by
  have hs:WS s:=aU (MD ok);have hsl:=MG hs;rw[zco];refine up (I:=λn v a=>Ud s _ n v a) 0 s.length rfl (AT _) (by omega) (λk a=>a=s.take k) rfl λn k a _ hk ha hn=> ?_
  subst ha;rw[Ek]
  by_cases h:k<s.length
  ·rw[zY h,zT (t:=.list .int) h]
   refine⟨zE h,_,KQ _,yW (t:=.list .int) ?_,hn h _ (Aar h)⟩;rw[Aaf];show(_+1)*24<=_
   omega
  ·have hk':k=s.length:=by omega
   subst hk';rw[zS,Aaj]
def fz(s:AcL):AcL:=List.replicate s.length []
theorem Zg(s:AcL):tJ uT [dS s] (dS (fz s)):=
 J0 s λok=>by
  have hs:WS s:=aU (MD ok);have hsl:=MG hs;rw[Ga];refine⟨rfl,by omega,yW (t:=.list .int) ?_,rfl⟩
  rw[Aab];show _*24<=_
  omega
def yK(nv:Nat)(c:AcM):Int:=if 40<c.length then 2 else wB (λ_ l=>gX nv l) 0 c
theorem Pz(m:zG)(c:AcM):tJ bR [dM m,.sl .lit c] (dI (yK m.vars.length c)):=
 Gn m c λok=>by
  rw[Ep];refine zA (λe=> ?_) λe=> ?_
  ·exact uM (As (by simp at e;omega))
  have e:¬40<c.length:=by simp at e;omega
  rw[show yK m.vars.length c=wB (λ_ l=>gX m.vars.length l) 0 c from An e]
  refine Ac (I:=λn v=>Yl m c _ n v) c (λ_ l=>gX m.vars.length l) (by omega) (X:=λx=>D.int .i64 x=dI (wB (λ_ l=>gX m.vars.length l) 0 c)) (Y:=D.int .i64 0=dI (wB (λ_ l=>gX m.vars.length l) 0 c)) (λ_=>rfl) (λe=>uM e) (λn k h _ hX hn=> ?_) λn hY=> ?_
  ·rw[U8,zY h,zT (t:=.lit) h]
   exact⟨zE h,zI (zcs m _) (zA (λe=>hX (oO e)) λe=>hn (qS e))⟩
  ·rw[U8,zS];exact hY
theorem hJ{nv:Nat}{c:AcM}(h:yK nv c=0):c.length<=40/\∀l∈c,gX nv l=0:=by
 unfold yK at h
 split at h
 ·exact At h (by decide)
 rename_i h1;refine⟨by omega,λl hl=> ?_⟩
 obtain⟨i,hi,rfl⟩:=Aal hl;exact Yz h hi
def oo(c:AcM)(vs:AcK):Bool:=c.any λl=>holdsL l (vs.getD l.var.toNat 0)
def atC(c:AcM)(v n:Int):Bool:=c.any λl=>if l.var=v then holdsL l n else false
theorem Iq(l:zC)(v n:Int):tJ aW [dL l,.iptr [dI v] 0,.iptr [dI n] 0] (dB (if l.var=v then holdsL l n else false)):=
 KP l v n λok=>by
  rw[Ip];refine zA (λe=> ?_) λe=> ?_
  ·rw[As (By e)];exact zI (Xw l n) rfl
  ·rw[An (Aaa e)]
theorem Et(n:Int)(c:AcM)(v:Int):tJ gZ [dI n,.iptr [.sl .lit c] 0,.iptr [dI v] 0] (dB (atC c v n)):=
 Gq n c v λok=>by
  rw[Er];exact zI (om KB λl _=>Iq l v n) rfl
theorem Eu(w n v:Int)(c:AcM):tJ Xh [dI w,dI n,.iptr [dI v] 0,.iptr [.clo gZ none [.iptr [.sl .lit c] 0,.iptr [dI v] 0]] 0] (dB (!decide (w=v)||atC c v n)):=
 VA.iclo (pre:=[_,_,_]) (Gr w n v gZ [.iptr [.sl .lit c] 0,.iptr [dI v] 0] λok=>by
  rw[Es];refine zA (λe=> ?_) λe=>⟨H4,zI (Et n c v) ?_⟩
  ·rw[e];rfl
  ·rw[e];rfl)
theorem Ol(l:zC)(v n:Int):tJ iF [dL l,.iptr [dI v] 0,.iptr [dI n] 0] (dB (if l.var=v then holdsL l n else false)):=
 QY l v n λok=>by
  rw[Ok];refine zA (λe=> ?_) λe=> ?_
  ·rw[As (By e)];exact zI (Xw l n) rfl
  ·rw[An (Aaa e)]
theorem Lu(v n:Int)(c:AcM):tJ fP [dI v,dI n,.iptr [.sl .lit c] 0] (dB (!atC c v n)):=
 NK v n c λok=>by
  rw[Lt];exact zI (om QQ λl _=>Ol l v n) rfl
def kQ(s:AcL)(c:AcM):AcL:=qO (λv n=> !atC c v n) s
theorem Sd(s:AcL)(c:AcM):tJ gY [dS s,.sl .lit c] (dS (kQ s c)):=
 KO s c λok=>by
  rw[Io];exact zI (Z0 (f:=λv n=> !atC c v n) Nm λv hv n hn=>Lu v n c) rfl
def zkU(s:AcL)(c:AcM)(one:Int):AcL:=qO (λv n=> !decide ((v:Int)=one)||atC c one n) s
def Gs(s:AcL)(c:AcM):AcM->Int->AcL
 |[],one=>if one<0 then fz s else zkU s c one
 |l::ls,one=>if Xx s l<0 then Gs s c ls one else if 0<=one/\one≠l.var then s else Gs s c ls l.var
def aL(s:AcL)(c:AcM):AcL:=if zZ s=true then s else Gs s c c (-1)
theorem AJ{s:AcL}{c:AcM}(hc:∀l∈c,0<=l.var/\l.var<s.length):tJ fL [dS s,.sl .lit c] (dS (aL s c)):=
 Cu s c λok=>by
  have hl:c.length<=9223372036854775807:=cW (t:=.lit) (MD (okR ok));rw[AH];refine zI (vU s) (zA (λe=> ?_) λe=> ?_)
  ·rw[aL,As e]
   exact zI (XB s) rfl
  rw[aL,An (by rw[e];decide)]
  refine up (I:=λn v a=>dU s c _ n v a) 0 c.length rfl (AT _) (by omega) (λk a=>Gs s c (c.drop k) a=Gs s c c (-1)) (by rw[Aa4]) λn k a _ hk ha hn=> ?_
  rw[Gp]
  by_cases h:k<c.length
  ·rw[zY h,zT (t:=.lit) h]
   rw[AaF h,Gs]at ha
   refine⟨zE h,zI (zdW (hc _ (AS h))) (zA (λe=> ?_) λe=> ?_)⟩
   ·rw[As (By e)]at ha
    exact hn h _ ha
   rw[An (Aaa e)]at ha
   refine zA (λf=>zA (λg=> ?_) λg=> ?_) λf=> ?_
   ·rw[As ⟨By f,by simpa using g⟩]at ha
    rw[<-ha];exact zI (XB s) rfl
   ·rw[An (λx=>x.2 (by simpa using g))]at ha
    exact hn h _ ha
   ·rw[An (λx=>Aaa f x.1)]at ha
    exact hn h _ ha
  ·have hk':k=c.length:=by omega
   subst hk';rw[Ab1,Gs]at ha
   rw[zS,<-ha];refine zA (λe=> ?_) λe=> ?_
   ·rw[As (By e)]
    exact zI (Zg s) rfl
   ·rw[An (Aaa e)]
    exact zI (Z0 (f:=λv n=> !decide ((v:Int)=a)||atC c a n) H5 λv hv n hn=>Eu v n a c) rfl

end Go.Proofs.YtogdmcebojiojaaGreatDoor
