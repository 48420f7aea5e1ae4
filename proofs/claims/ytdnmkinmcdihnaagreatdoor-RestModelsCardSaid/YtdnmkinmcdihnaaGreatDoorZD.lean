/- Texts of this proof, one behind the other: nothing is handed in but what is proved here; no condition. -/
import Derived.Test.YtdnmkinmcdihnaaGreatDoorProg
import Derived.Lib.AppendZeros
import Derived.Test.YtdnmkinmcdihnaaGreatDoorZC
set_option linter.unusedSectionVars false
set_option linter.unusedVariables false
set_option linter.unusedSimpArgs false
namespace Go.Proofs.YtdnmkinmcdihnaaGreatDoor
open Go.Proofs.Tryz
open Go.RowKit
set_option maxRecDepth 100000
variable[Lo]
def bU:xF:= {own:=[3,5,16],live:=[(0,([3,6,7,8],[3]))],n:=19}
def dG(a:AcR)(R:xI)(b:Nat)(c:Int)(d:AcR):Prop:=Ar bU f67 [1,1,0,1,0,0] 0 b ⟨[(3,.own 3),(6,.sl .lit a),(7,dI (a.length:Int)),(8,dI c)],[(3,.row 66 (.fr .lit) d)]⟩ (zP 0 (Gu bU f67 [1,1,1] 0 (eKF f67 R)))
theorem Nq(a:AcR)(R:xI)(d:Nat)(b:Int)(c:AcR):dG a R (d+1) b c=
 (zT (decide (b<(a.length:Int)))
 (wW b a.length=true/\
 yJ kR [dL (zJ .lit a b.toNat)] .lit λe=>
 yX (.fr .lit) (c.length+([e]).length)=true/\
 dG a R d (yU (b+1)) (c++([e])))
 (R (.sl (.fr .lit) c))):=by kernel_rfl
theorem IR(a:AcR)(R:xI):FDF bU f67 [.sl .lit a] R=
 (∃n0,dG a R n0 0 ([]:List (zA))):=by kernel_rfl
theorem Kl(a:AcR):XC bU f67 qX [.sl .lit a]:=X2 func67 (by kernel_rfl) ntmps67 rfl
def Ti:xF:= {own:=[],live:=[],n:=28}
theorem Km(a:zE)(b:Int)(c:AcQ)(R:xI):FDF Ti f218 [dM a,dI b,dS c] R=
 (yJ zV [dS c] .bool λd=>
 zT d
 (R (.tup [.sl (.fr .lit) ([]:List (zA)),dB false]))
 (wW b a.cons.length=true/\
 yJ rX [dC (zJ .con a.cons b.toNat),dS c] (.fr (.list (.list .int))) λe=>
 yJ zV [.sl (.fr (.list .int)) e] .bool λf=>
 zT (!f)
 (R (.tup [.sl (.fr .lit) ([]:List (zA)),dB false]))
 (yJ kU [dM a,dI b,dS c] (.fr (.list .lit)) λg=>
 yJ mD [dM a,dI b,.sl (.fr .lit) ([]:List (zA)),.sl (.fr .lit) g] (.fr (.list .lit)) λh=>
 R (.tup [.sl (.fr .lit) h,dB true])))):=by kernel_rfl
theorem M1(a:zE)(b:Int)(c:AcQ):XC Ti f218 iV [dM a,dI b,dS c]:=X2 func218 (by kernel_rfl) ntmps218 rfl
def fu:xF:= {own:=[],live:=[(0,([1,2,3,4,9],[]))],n:=38}
def mN(a:zE)(b:Int)(c:AcR)(R:xI)(d:Nat)(e:AcR)(f:Int):Prop:=Ar fu f235 [1,0,1,0,0] 0 d ⟨[(1,dI b),(2,.sl (.fr .lit) c),(3,.sl (.fr .lit) e),(4,.iptr (Oy a []) 0),(9,dI f)],[]⟩ (zP 0 (Gu fu f235 [1,1] 0 (eKF f235 R)))
theorem Yj(d:zE)(e:Int)(c:AcR)(R:xI)(f:Nat)(a:AcR)(b:Int):mN d e c R (f+1) a b=
 (zT (decide (b<(a.length:Int)))
 (Nh 0 b a.length=true/\
 Nh (yU (b+1)) (a.length:Int) a.length=true/\
 yJ wA [.sl (.list .lit) ([(a.take b.toNat).drop 0,(a.take (a.length:Int).toNat).drop (yU (b+1)).toNat])] (.fr (.list .lit)) λg=>
 yJ wA [.sl (.list .lit) ([c,g])] (.fr (.list .lit)) λh=>
 yJ lW [dM d,dI e,.sl (.fr .lit) h] .bool λi=>
 zT i
 (mN d e c R f g b)
 (mN d e c R f a (yU (b+1))))
 (yJ wA [.sl (.list .lit) ([c,a])] (.fr (.list .lit)) λj=>
 R (.sl (.fr .lit) j))):=by kernel_rfl
theorem M2(a:zE)(b:Int)(c d:AcR)(R:xI):FDF fu f235 [dM a,dI b,.sl (.fr .lit) c,.sl (.fr .lit) d] R=
 (∃n0,mN a b c R n0 d 0):=by kernel_rfl
theorem Nr(a:zE)(b:Int)(c d:AcR):XC fu f235 mD [dM a,dI b,.sl (.fr .lit) c,.sl (.fr .lit) d]:=X2 func235 (by kernel_rfl) ntmps235 rfl
def pP:xF:= {own:=[7,50],live:=[(0,([2,3,7,16,17,18],[7])),(2,([2,3,7,9,10,16,17,18],[7]))],n:=53}
def kW(a:zE)(d:AcQ)(R:xI)(b:AcP)(e:Nat)(c:Int)(f:Nat)(g:Int)(h:AcR):Prop:=Ar pP f236 [1,1,0,1,0,0,1,1,0,0,1,1,0,0] 2 f ⟨[(2,dS d),(3,.iptr (Oy a []) 0),(7,.own 7),(9,dI (zJ .int b c.toNat)),(10,dI g),(16,.sl .int b),(17,dI (b.length:Int)),(18,dI c)],[(7,.row 66 (.fr .lit) h)]⟩ (zP 2 (zP 1 (Gu pP f236 [1,1,0,1,0,0,1,1,1] 0 (iKF pP f236 [1,1,0,1,0,0] 0 e (zP 0 (Gu pP f236 [1,1,1] 0 (eKF f236 R)))))))
def dH(a:zE)(c:AcQ)(R:xI)(b:AcP)(d:Nat)(e:Int)(f:AcR):Prop:=Ar pP f236 [1,1,0,1,0,0] 0 d ⟨[(2,dS c),(3,.iptr (Oy a []) 0),(7,.own 7),(16,.sl .int b),(17,dI (b.length:Int)),(18,dI e)],[(7,.row 66 (.fr .lit) f)]⟩ (zP 0 (Gu pP f236 [1,1,1] 0 (eKF f236 R)))
theorem Ns(d:zE)(e:AcQ)(R:xI)(a:AcP)(g:Nat)(b:Int)(h:Nat)(c:Int)(f:AcR):kW d e R a g b (h+1) c f=
 (wW (zJ .int a b.toNat) d.vars.length=true/\
 zT (decide (c<=((zJ .var d.vars ((zJ .int a b.toNat).toNat)).hi)))
 (wW (zJ .int a b.toNat) e.length=true/\
 yJ wD [.sl .int (zJ (.list .int) e ((zJ .int a b.toNat).toNat)),dI c] .bool λi=>
 zT (!i)
 (yX (.fr .lit) (f.length+([(⟨zJ .int a b.toNat,3,c⟩:zA)]).length)=true/\
 kW d e R a g b h (yU (c+1)) (f++([(⟨zJ .int a b.toNat,3,c⟩:zA)])))
 (kW d e R a g b h (yU (c+1)) f))
 (dH d e R a g (yU (b+1)) f)):=by kernel_rfl
theorem Nt(c:zE)(e:AcQ)(R:xI)(a:AcP)(f:Nat)(b:Int)(d:AcR):dH c e R a (f+1) b d=
 (zT (decide (b<(a.length:Int)))
 (wW b a.length=true/\
 wW (zJ .int a b.toNat) c.vars.length=true/\
 ∃n2,kW c e R a f b n2 ((zJ .var c.vars ((zJ .int a b.toNat).toNat)).lo) d)
 (R (.sl (.fr .lit) d))):=by kernel_rfl
theorem IU(a:zE)(b:Int)(c:AcQ)(R:xI):FDF pP f236 [dM a,dI b,dS c] R=
 (wW b a.cons.length=true/\
 yJ tT [dC (zJ .con a.cons b.toNat)] (.list .int) λd=>
 ∃n0,dH a c R d n0 0 ([]:List (zA))):=by kernel_rfl
theorem Kn(a:zE)(b:Int)(c:AcQ):XC pP f236 kU [dM a,dI b,dS c]:=X2 func236 (by kernel_rfl) ntmps236 rfl
def Tj:xF:= {own:=[],live:=[],n:=6}
theorem Ko(a:AcQ)(R:xI):FDF Tj f120 [dS a] R=
 ((a.length:Int)=(a.length:Int)/\
 0<=(a.length:Int)/\
 yX (.fr (.list .int)) ((a.length:Int).toNat)=true/\
 R (.sl (.fr (.list .int)) (List.replicate ((a.length:Int).toNat) (Ty.dflt (.fr (.list .int)))))):=by kernel_rfl
theorem M3(a:AcQ):XC Tj f120 yQ [dS a]:=X2 func120 (by kernel_rfl) ntmps120 rfl
def Y8:xF:= {own:=[5,7,8],live:=[(0,([0,3,5,13,14,15],[5]))],n:=44}
def kX(b:AcQ)(a:AcR)(R:xI)(c:Nat)(d e:Int):Prop:=Ar Y8 f119 [1,1,1,0,1,0,0] 0 c ⟨[(0,dS b),(3,.iptr [.sl .lit a] 0),(5,.ptr 5 0),(13,.sl .lit a),(14,dI (a.length:Int)),(15,dI d)],[(5,.cells [dI e])]⟩ (zP 0 (Gu Y8 f119 [1,1,1,1] 0 (eKF f119 R)))
theorem Kp(c:AcQ)(a:AcR)(R:xI)(e:Nat)(b d:Int):kX c a R (e+1) b d=
 (zT (decide (b<(a.length:Int)))
 (wW b a.length=true/\
 yJ Yw [dS c,dL (zJ .lit a b.toNat)] .int λf=>
 zT (decide (f<0))
 (kX c a R e (yU (b+1)) d)
 (zT (decide (0<=d))
 (zT (!decide (d=((zJ .lit a b.toNat).var)))
 (yJ tI [dS c] (.fr (.list (.list .int))) λg=>
 R (.sl (.fr (.list .int)) g))
 (kX c a R e (yU (b+1)) ((zJ .lit a b.toNat).var)))
 (kX c a R e (yU (b+1)) ((zJ .lit a b.toNat).var))))
 (zT (decide (d<0))
 (yJ yQ [dS c] (.fr (.list (.list .int))) λh=>
 R (.sl (.fr (.list .int)) h))
 (yJ xP [dS c,.clo fT none [.iptr [dI d] 0,.iptr [.clo mJ none [.iptr [.sl .lit a] 0,.iptr [dI d] 0]] 0]] (.fr (.list (.list .int))) λi=>
 R (.sl (.fr (.list .int)) i)))):=by kernel_rfl
theorem Co(a:AcQ)(b:AcR)(R:xI):FDF Y8 f119 [dS a,.sl .lit b] R=
 (yJ zV [dS a] .bool λc=>
 zT c
 (yJ tI [dS a] (.fr (.list (.list .int))) λd=>
 R (.sl (.fr (.list .int)) d))
 (∃n0,kX a b R n0 0 (-1))):=by kernel_rfl
theorem Fr(a:AcQ)(b:AcR):XC Y8 f119 tV [dS a,.sl .lit b]:=X2 func119 (by kernel_rfl) ntmps119 rfl
def Wj:xF:= {own:=[3,16],live:=[(0,([3,6,7,8],[3]))],n:=19}
def Y9(a:AcQ)(R:xI)(b:Nat)(c:Int)(d:AcQ):Prop:=Ar Wj f118 [1,1,0,1,0,0] 0 b ⟨[(3,.own 3),(6,dS a),(7,dI (a.length:Int)),(8,dI c)],[(3,.row 28 (.fr (.list .int)) d)]⟩ (zP 0 (Gu Wj f118 [1,1,1] 0 (eKF f118 R)))
theorem IV(a:AcQ)(R:xI)(e:Nat)(b:Int)(c:AcQ):Y9 a R (e+1) b c=
 (zT (decide (b<(a.length:Int)))
 (wW b a.length=true/\
 ∃d:AcP,xT xS [.sl .int (zJ (.list .int) a b.toNat)] [] (.own 3000) [(3000,.row 3 (.fr .int) d)]/\
 yX (.fr (.list .int)) (c.length+([d]).length)=true/\
 Y9 a R e (yU (b+1)) (c++([d])))
 (R (.sl (.fr (.list .int)) c))):=by kernel_rfl
theorem A5(a:AcQ)(R:xI):FDF Wj f118 [dS a] R=
 (∃n0,Y9 a R n0 0 ([]:AcQ)):=by kernel_rfl
theorem Cp(a:AcQ):XC Wj f118 tI [dS a]:=X2 func118 (by kernel_rfl) ntmps118 rfl
def RA:xF:= {own:=[],live:=[],n:=48}
theorem IW(c:zE)(d:Int)(a:AcQ)(b e:Int)(R:xI):FDF RA f219 [dM c,dI d,dS a,dI b,dI e] R=
 (yJ zV [dS a] .bool λg=>
 zT g
 (R (.tup [.sl (.fr .lit) ([]:List (zA)),dB false]))
 (wW b a.length=true/\
 yJ wD [.sl .int (zJ (.list .int) a b.toNat),dI e] .bool λh=>
 zT (!h)
 (R (.tup [.sl (.fr .lit) ([]:List (zA)),dB false]))
 (wW d c.cons.length=true/\
 yJ rX [dC (zJ .con c.cons d.toNat),dS a] (.fr (.list (.list .int))) λf=>
 wW b f.length=true/\
 yJ wD [.sl (.fr .int) (zJ (.fr (.list .int)) f b.toNat),dI e] .bool λi=>
 zT i
 (R (.tup [.sl (.fr .lit) ([]:List (zA)),dB false]))
 (yJ kU [dM c,dI d,dS a] (.fr (.list .lit)) λj=>
 yJ mD [dM c,dI d,.sl (.fr .lit) ([(⟨b,4,e⟩:zA)]),.sl (.fr .lit) j] (.fr (.list .lit)) λk=>
 R (.tup [.sl (.fr .lit) k,dB true]))))):=by kernel_rfl
theorem Kq(a:zE)(b:Int)(c:AcQ)(d e:Int):XC RA f219 fU [dM a,dI b,dS c,dI d,dI e]:=X2 func219 (by kernel_rfl) ntmps219 rfl
def Mb:xF:= {own:=[5,7],live:=[],n:=44}
theorem Cq(f:zF)(a:AcQ)(R:xI):FDF Mb Tryz.f109 [dC f,dS a] R=
 (yJ zV [dS a] .bool λs=>
 zT s
 (yJ tI [dS a] (.fr (.list (.list .int))) λt=>
 R (.sl (.fr (.list .int)) t))
 (yJ tT [dC f] (.list .int) λg=>
 zT (decide ((g.length:Int)=0))
 (yJ nK [dC f,.sl (.fr .int) ([]:List (Int))] .bool λu=>
 zT u
 (yJ tI [dS a] (.fr (.list (.list .int))) λv=>
 R (.sl (.fr (.list .int)) v))
 (yJ yQ [dS a] (.fr (.list (.list .int))) λw=>
 R (.sl (.fr (.list .int)) w)))
 (zT (decide (f.kind<=3))
 (∃h:Ac0,∃i:List (Int×(AcP)),∃b:zF,xT lD [dC f,dS a] [] (.clo tY none [.iptr [.sl .term h] 0,.iptr [.mp .int (.list .int) i] 0,.iptr (gL b []) 0]) []/\
 yJ xP [dS a,.clo vJ none [.iptr [.sl .int g] 0,.iptr [.clo tY none [.iptr [.sl .term h] 0,.iptr [.mp .int (.list .int) i] 0,.iptr (gL b []) 0]] 0]] (.fr (.list (.list .int))) λx=>
 R (.sl (.fr (.list .int)) x))
 (zT (decide (f.kind=4))
 (yJ kS [.sl .int f.vars] .bool λy=>
 zT (!y)
 (∃j:AcQ,∃c:zF,xT lE [dC f,dS a] [] (.clo tZ none [.iptr [dS j] 0,.iptr (gL c []) 0]) []/\
 yJ xP [dS a,.clo vJ none [.iptr [.sl .int g] 0,.iptr [.clo tZ none [.iptr [dS j] 0,.iptr (gL c []) 0]] 0]] (.fr (.list (.list .int))) λz=>
 R (.sl (.fr (.list .int)) z))
 (∃d:zF,∃k:AcQ,∃l:AcP,∃m:AcP,∃n:List ((Int×Int)×Int),xT qT [dC f,dS a] [] (.clo yH none [.iptr [.iptr (gL d [dS k,.sl .int l,.sl .int m,.mp (.pr .int .int) .int n]) 0] 0]) []/\
 yJ xP [dS a,.clo vJ none [.iptr [.sl .int g] 0,.iptr [.clo yH none [.iptr [.iptr (gL d [dS k,.sl .int l,.sl .int m,.mp (.pr .int .int) .int n]) 0] 0]] 0]] (.fr (.list (.list .int))) λaa=>
 R (.sl (.fr (.list .int)) aa)))
 (∃e:zF,∃o:AcQ,∃p:AcP,∃q:AcP,∃r:List ((Int×Int)×Int),xT qT [dC f,dS a] [] (.clo yH none [.iptr [.iptr (gL e [dS o,.sl .int p,.sl .int q,.mp (.pr .int .int) .int r]) 0] 0]) []/\
 yJ xP [dS a,.clo vJ none [.iptr [.sl .int g] 0,.iptr [.clo yH none [.iptr [.iptr (gL e [dS o,.sl .int p,.sl .int q,.mp (.pr .int .int) .int r]) 0] 0]] 0]] (.fr (.list (.list .int))) λab=>
 R (.sl (.fr (.list .int)) ab)))))):=by kernel_rfl
theorem Fs(a:zF)(b:AcQ):XC Mb Tryz.f109 rX [dC a,dS b]:=X2 func109 (by kernel_rfl) ntmps109 rfl
def Cr:xF:= {own:=[],live:=[],n:=8}
theorem zfq(b:AcQ)(a:zA)(R:xI):FDF Cr Tryz.f166 [dS b,dL a] R=
 (yJ xP [dS b,.clo Xu none [.iptr [dI a.var,dI a.op,dI a.n] 0]] (.fr (.list (.list .int))) λc=>
 R (.sl (.fr (.list .int)) c)):=by kernel_rfl
theorem zdr(a:AcQ)(b:zA):XC Cr Tryz.f166 aQ [dS a,dL b]:=X2 func166 (by kernel_rfl) ntmps166 rfl
def oA:xF:= {own:=[3,5,6,26,30],live:=[(0,([3,9,10,11],[3])),(2,([3,5,6,7,9,10,11],[3,5,6]))],n:=33}
def ZO(a:zE)(R:xI)(c:Nat)(b:Int)(d:Nat)(e:Int)(f:AcQ)(g:AcP):Prop:=Ar oA f36 [1,1,0,1,0,0,1,1,0,0,1,1,0,1,0,0] 2 d ⟨[(3,.own 3),(5,.ptr 5 0),(6,.own 6),(7,dI e),(9,.sl .var a.vars),(10,dI (a.vars.length:Int)),(11,dI b)],[(3,.row 28 (.fr (.list .int)) f),(5,.cells [.str ((zJ .var a.vars b.toNat).name),dI ((zJ .var a.vars b.toNat).lo),dI ((zJ .var a.vars b.toNat).hi)]),(6,.row 3 (.fr .int) g)]⟩ (zP 2 (Gu oA f36 [1,1,0,1,0,0,1,1,0,0,1,1,1] 1 (zP 1 (Gu oA f36 [1,1,0,1,0,0,1,1,1] 0 (iKF oA f36 [1,1,0,1,0,0] 0 c (zP 0 (Gu oA f36 [1,1,1] 0 (eKF f36 R))))))))
def ZP(a:zE)(R:xI)(b:Nat)(c:Int)(d:AcQ):Prop:=Ar oA f36 [1,1,0,1,0,0] 0 b ⟨[(3,.own 3),(9,.sl .var a.vars),(10,dI (a.vars.length:Int)),(11,dI c)],[(3,.row 28 (.fr (.list .int)) d)]⟩ (zP 0 (Gu oA f36 [1,1,1] 0 (eKF f36 R)))
theorem Kr(c:zE)(R:xI)(f:Nat)(d:Int)(g:Nat)(a:Int)(e:AcQ)(b:AcP):ZO c R f d (g+1) a e b=
 (zT (decide (a<=((zJ .var c.vars d.toNat).hi)))
 (yX (.fr .int) (b.length+([a]).length)=true/\
 ZO c R f d g (yU (a+1)) e (b++([a])))
 (yX (.fr (.list .int)) (e.length+([b]).length)=true/\
 ZP c R f (yU (d+1)) (e++([b])))):=by kernel_rfl
theorem Ks(a:zE)(R:xI)(d:Nat)(b:Int)(c:AcQ):ZP a R (d+1) b c=
 (zT (decide (b<(a.vars.length:Int)))
 (wW b a.vars.length=true/\
 ∃n2,ZO a R d b n2 ((zJ .var a.vars b.toNat).lo) c ([]:List (Int)))
 (R (.sl (.fr (.list .int)) c))):=by kernel_rfl
theorem Cs(a:zE)(R:xI):FDF oA f36 [dM a] R=
 (∃n0,ZP a R n0 0 ([]:AcQ)):=by kernel_rfl
theorem Ft(a:zE):XC oA f36 tS [dM a]:=X2 func36 (by kernel_rfl) ntmps36 rfl
def Q4:xF:= {own:=[14,25],live:=[],n:=26,nils:=[(14,(6,(71,.fr .step)))],pubs:=[]}
theorem Fu(a:zE)(b:AcS)(c:AcR)(R:xI):FDF Q4 f66 [dM a,.sl (.list .lit) b,.sl .lit c] R=
 (yJ jI [dM a,.sl .lit c] (.fr (.list (.list .int))) λg=>
 ∃f:AcQ,∃d:AcW,xT mG [Ac3] (Fq a.vars a.cons a.goal a.var b g ([]:List (zR))) (.tup []) (Fq a.vars a.cons a.goal a.var b f d)/\
 yJ qX [.sl .lit c] (.fr (.list .lit)) λe=>
 yX (.fr .step) (d.length+([(⟨2,0,e⟩:zR)]).length)=true/\
 R (.sl (.fr .step) (d++([(⟨2,0,e⟩:zR)])))):=by kernel_rfl
theorem IX(a:zE)(b:AcS)(c:AcR):XC Q4 f66 YS [dM a,.sl (.list .lit) b,.sl .lit c]:=X2 func66 (by kernel_rfl) ntmps66 rfl
def Wk:xF:= {own:=[7],live:=[(0,([5,10,11,12],[]))],n:=21}
def Xa(a:AcR)(R:xI)(b:Nat)(c:AcQ)(d:Int):Prop:=Ar Wk f115 [1,1,0,1,0,0] 0 b ⟨[(5,.sl (.fr (.list .int)) c),(10,.sl .lit a),(11,dI (a.length:Int)),(12,dI d)],[]⟩ (zP 0 (Gu Wk f115 [1,1,1] 0 (eKF f115 R)))
theorem IY(a:AcR)(R:xI)(d:Nat)(c:AcQ)(b:Int):Xa a R (d+1) c b=
 (zT (decide (b<(a.length:Int)))
 (wW b a.length=true/\
 yJ aQ [.sl (.fr (.list .int)) c,dL (zJ .lit a b.toNat)] (.fr (.list (.list .int))) λe=>
 Xa a R d e (yU (b+1)))
 (R (.sl (.fr (.list .int)) c))):=by kernel_rfl
theorem A6(a:zE)(b:AcR)(R:xI):FDF Wk f115 [dM a,.sl .lit b] R=
 (yJ tS [dM a] (.fr (.list (.list .int))) λc=>
 ∃n0,Xa b R n0 c 0):=by kernel_rfl
theorem Ct(a:zE)(b:AcR):XC Wk f115 jI [dM a,.sl .lit b]:=X2 func115 (by kernel_rfl) ntmps115 rfl
def cC:xF:= {own:=[2,5,7],live:=[],n:=8}
theorem W2(a:AcP)(R:oG):FHF cC f73 [.sl .int a] [] [] true R=
 (∀b:Bool,(b=true->a=[])->
 zT b
 (R (.own 3000) [(3000,.row 3 (.fr .int) ([]:List (Int)))])
 (yX (.fr .int) (([]:List (Int)).length+a.length)=true/\
 R (.own 3000) [(3000,.row 3 (.fr .int) (([]:List (Int))++a))])):=by kernel_rfl
theorem Wl(a:AcP):zdq cC f73 xS [.sl .int a] [] [] true:=zhw func73 (by kernel_rfl) ntmps73 rfl
def oB:xF:= {own:=[5,8,31,36],live:=[(0,([1,5,11,12,13],[5])),(2,([1,5,6,8,11,12,13,18,19,20],[5,8]))],n:=39}
def eD(a:AcQ)(c:AcM)(d:AcT)(R:xI)(e:Nat)(b:Int)(f:Nat)(g:Int)(h:AcQ)(i:AcP):Prop:=Ar oB f71 [1,1,0,1,0,0,1,1,0,0,1,1,0,1,0,0] 2 f ⟨[(1,.clo c (some [.bool]) d),(5,.own 5),(6,dI b),(8,.own 8),(11,dS a),(12,dI (a.length:Int)),(13,dI b),(18,.sl .int (zJ (.list .int) a b.toNat)),(19,dI ((zJ (.list .int) a b.toNat).length:Int)),(20,dI g)],[(5,.row 28 (.fr (.list .int)) h),(8,.row 3 (.fr .int) i)]⟩ (zP 2 (Gu oB f71 [1,1,0,1,0,0,1,1,0,0,1,1,1] 1 (zP 1 (Gu oB f71 [1,1,0,1,0,0,1,1,1] 0 (iKF oB f71 [1,1,0,1,0,0] 0 e (zP 0 (Gu oB f71 [1,1,1] 0 (eKF f71 R))))))))
def ZQ(a:AcQ)(b:AcM)(c:AcT)(R:xI)(d:Nat)(e:Int)(f:AcQ):Prop:=Ar oB f71 [1,1,0,1,0,0] 0 d ⟨[(1,.clo b (some [.bool]) c),(5,.own 5),(11,dS a),(12,dI (a.length:Int)),(13,dI e)],[(5,.row 28 (.fr (.list .int)) f)]⟩ (zP 0 (Gu oB f71 [1,1,1] 0 (eKF f71 R)))
theorem Kt(b:AcQ)(d:AcM)(f:AcT)(R:xI)(h:Nat)(a:Int)(i:Nat)(c:Int)(g:AcQ)(e:AcP):eD b d f R h a (i+1) c g e=
 (zT (decide (c<((zJ (.list .int) b a.toNat).length:Int)))
 (wW c (zJ (.list .int) b a.toNat).length=true/\
 fV d/\
 yJ d ([dI a,dI (zJ .int (zJ (.list .int) b a.toNat) c.toNat)]++f) .bool λj=>
 zT j
 (yX (.fr .int) (e.length+([zJ .int (zJ (.list .int) b a.toNat) c.toNat]).length)=true/\
 eD b d f R h a i (yU (c+1)) g (e++([zJ .int (zJ (.list .int) b a.toNat) c.toNat])))
 (eD b d f R h a i (yU (c+1)) g e))
 (yX (.fr (.list .int)) (g.length+([e]).length)=true/\
 ZQ b d f R h (yU (a+1)) (g++([e])))):=by kernel_rfl
theorem Ku(a:AcQ)(d:AcM)(e:AcT)(R:xI)(f:Nat)(b:Int)(c:AcQ):ZQ a d e R (f+1) b c=
 (zT (decide (b<(a.length:Int)))
 (wW b a.length=true/\
 ∃n2,eD a d e R f b n2 0 c ([]:List (Int)))
 (R (.sl (.fr (.list .int)) c))):=by kernel_rfl
theorem Cu(a:AcQ)(b:AcM)(c:AcT)(R:xI):FDF oB f71 [dS a,.clo b (some [.bool]) c] R=
 (∃n0,ZQ a b c R n0 0 ([]:AcQ)):=by kernel_rfl
theorem Fv(a:AcQ)(b:AcM)(c:AcT):XC oB f71 xP [dS a,.clo b (some [.bool]) c]:=X2 func71 (by kernel_rfl) ntmps71 rfl
def qE:xF:= {own:=[],live:=[(0,([1,2,3,4],[])),(2,([1,2,3,4,9,10],[])),(4,([1,2,3,4,9,11],[]))],n:=62}
def XD(a:zE)(b:Bool)(c:AcS)(R:xI)(d:Nat)(e:AcQ)(f:Nat)(g:AcQ)(h:Int):Prop:=Ar qE f68 [1,1,0,0,0,1,1,0,1,0,0] 4 f ⟨[(1,.sl (.fr (.list .int)) g),(2,dB b),(3,.sl (.list .lit) c),(4,.iptr (Oy a []) 0),(9,.sl (.fr (.list .int)) e),(11,dI h)],[]⟩ (zP 4 (Gu qE f68 [1,1,0,0,0,1,1,1] 1 (zP 1 (iKF qE f68 [1,1,0,0] 0 d (zP 0 (eKF f68 R))))))
def bD(a:zE)(b:Bool)(c:AcS)(R:xI)(d:Nat)(e:AcQ)(f:Nat)(g:AcQ)(h:Int):Prop:=Ar qE f68 [1,1,0,0,0,1,1,0,1,0,0] 4 f ⟨[(1,.sl (.fr (.list .int)) g),(2,dB b),(3,.sl (.list .lit) c),(4,.iptr (Oy a []) 0),(9,.sl (.fr (.list .int)) e),(11,dI h)],[]⟩ (zP 4 (Gu qE f68 [1,1,0,0,0,1,1,1] 1 (zP 1 (iKF qE f68 [1,1,0,0] 0 d (zP 0 (eKF f68 R))))))
def Xb(a:zE)(b:Bool)(c:AcS)(R:xI)(d:Nat)(e:AcQ)(f:Nat)(g:AcQ)(h:Int):Prop:=Ar qE f68 [1,1,0,0,0,1,1,0,1,0,0] 4 f ⟨[(1,.sl (.fr (.list .int)) g),(2,dB b),(3,.sl (.list .lit) c),(4,.iptr (Oy a []) 0),(9,.sl (.fr (.list .int)) e),(11,dI h)],[]⟩ (zP 4 (Gu qE f68 [1,1,0,0,0,1,1,1] 1 (zP 1 (iKF qE f68 [1,1,0,0] 0 d (zP 0 (eKF f68 R))))))
def eE(a:zE)(b:Bool)(c:AcS)(R:xI)(d:Nat)(e:AcQ)(f:Nat)(g:AcQ)(h:Int):Prop:=Ar qE f68 [1,1,0,0,0,1,0,1,0,0] 2 f ⟨[(1,.sl (.fr (.list .int)) g),(2,dB b),(3,.sl (.list .lit) c),(4,.iptr (Oy a []) 0),(9,.sl (.fr (.list .int)) e),(10,dI h)],[]⟩ (zP 2 (Gu qE f68 [1,1,0,0,0,1,1] 1 (zP 1 (iKF qE f68 [1,1,0,0] 0 d (zP 0 (eKF f68 R))))))
def rJ(a:zE)(b:Bool)(c:AcS)(R:xI)(d:Nat)(e:AcQ):Prop:=Ar qE f68 [1,1,0,0] 0 d ⟨[(1,.sl (.fr (.list .int)) e),(2,dB b),(3,.sl (.list .lit) c),(4,.iptr (Oy a []) 0)],[]⟩ (zP 0 (eKF f68 R))
theorem Cv(d:zE)(e:Bool)(b:AcS)(R:xI)(f:Nat)(g:AcQ)(h:Nat)(a:AcQ)(c:Int):XD d e b R f g (h+1) a c=
 (zT (decide (c<(b.length:Int)))
 (yJ zV [.sl (.fr (.list .int)) a] .bool λi=>
 zT (!i)
 (wW c b.length=true/\
 yJ tV [.sl (.fr (.list .int)) a,.sl .lit (zJ (.list .lit) b c.toNat)] (.fr (.list (.list .int))) λj=>
 XD d e b R f g h j (yU (c+1)))
 (yJ zV [.sl (.fr (.list .int)) a] .bool λk=>
 zT k
 (yJ yQ [.sl (.fr (.list .int)) a] (.fr (.list (.list .int))) λl=>
 R (.sl (.fr (.list .int)) l))
 (yJ tP [.sl (.fr (.list .int)) a,.sl (.fr (.list .int)) g] .bool λm=>
 zT m
 (R (.sl (.fr (.list .int)) a))
 (rJ d e b R f a))))
 (yJ zV [.sl (.fr (.list .int)) a] .bool λn=>
 zT n
 (yJ yQ [.sl (.fr (.list .int)) a] (.fr (.list (.list .int))) λo=>
 R (.sl (.fr (.list .int)) o))
 (yJ tP [.sl (.fr (.list .int)) a,.sl (.fr (.list .int)) g] .bool λp=>
 zT p
 (R (.sl (.fr (.list .int)) a))
 (rJ d e b R f a)))):=by kernel_rfl
theorem IZ(d:zE)(e:Bool)(b:AcS)(R:xI)(f:Nat)(g:AcQ)(h:Nat)(a:AcQ)(c:Int):bD d e b R f g (h+1) a c=
 (zT (decide (c<(b.length:Int)))
 (yJ zV [.sl (.fr (.list .int)) a] .bool λi=>
 zT (!i)
 (wW c b.length=true/\
 yJ tV [.sl (.fr (.list .int)) a,.sl .lit (zJ (.list .lit) b c.toNat)] (.fr (.list (.list .int))) λj=>
 bD d e b R f g h j (yU (c+1)))
 (yJ zV [.sl (.fr (.list .int)) a] .bool λk=>
 zT k
 (yJ yQ [.sl (.fr (.list .int)) a] (.fr (.list (.list .int))) λl=>
 R (.sl (.fr (.list .int)) l))
 (yJ tP [.sl (.fr (.list .int)) a,.sl (.fr (.list .int)) g] .bool λm=>
 zT m
 (R (.sl (.fr (.list .int)) a))
 (rJ d e b R f a))))
 (yJ zV [.sl (.fr (.list .int)) a] .bool λn=>
 zT n
 (yJ yQ [.sl (.fr (.list .int)) a] (.fr (.list (.list .int))) λo=>
 R (.sl (.fr (.list .int)) o))
 (yJ tP [.sl (.fr (.list .int)) a,.sl (.fr (.list .int)) g] .bool λp=>
 zT p
 (R (.sl (.fr (.list .int)) a))
 (rJ d e b R f a)))):=by kernel_rfl
theorem I0(d:zE)(e:Bool)(b:AcS)(R:xI)(f:Nat)(g:AcQ)(h:Nat)(a:AcQ)(c:Int):Xb d e b R f g (h+1) a c=
 (zT (decide (c<(b.length:Int)))
 (yJ zV [.sl (.fr (.list .int)) a] .bool λi=>
 zT (!i)
 (wW c b.length=true/\
 yJ tV [.sl (.fr (.list .int)) a,.sl .lit (zJ (.list .lit) b c.toNat)] (.fr (.list (.list .int))) λj=>
 Xb d e b R f g h j (yU (c+1)))
 (yJ zV [.sl (.fr (.list .int)) a] .bool λk=>
 zT k
 (yJ yQ [.sl (.fr (.list .int)) a] (.fr (.list (.list .int))) λl=>
 R (.sl (.fr (.list .int)) l))
 (yJ tP [.sl (.fr (.list .int)) a,.sl (.fr (.list .int)) g] .bool λm=>
 zT m
 (R (.sl (.fr (.list .int)) a))
 (rJ d e b R f a))))
 (yJ zV [.sl (.fr (.list .int)) a] .bool λn=>
 zT n
 (yJ yQ [.sl (.fr (.list .int)) a] (.fr (.list (.list .int))) λo=>
 R (.sl (.fr (.list .int)) o))
 (yJ tP [.sl (.fr (.list .int)) a,.sl (.fr (.list .int)) g] .bool λp=>
 zT p
 (R (.sl (.fr (.list .int)) a))
 (rJ d e b R f a)))):=by kernel_rfl
theorem ZR(a:zE)(b:Bool)(d:AcS)(R:xI)(e:Nat)(f:AcQ)(h:Nat)(c:AcQ)(g:Int):eE a b d R e f (h+1) c g=
 (zT b
 (zT (decide (g<(a.cons.length:Int)))
 (yJ zV [.sl (.fr (.list .int)) c] .bool λi=>
 zT (!i)
 (wW g a.cons.length=true/\
 yJ rX [dC (zJ .con a.cons g.toNat),.sl (.fr (.list .int)) c] (.fr (.list (.list .int))) λj=>
 eE a b d R e f h j (yU (g+1)))
 (∃n4,XD a b d R e f n4 c 0))
 (∃n4_2,bD a b d R e f n4_2 c 0))
 (∃n4_3,Xb a b d R e f n4_3 c 0)):=by kernel_rfl
theorem Cw(b:zE)(c:Bool)(d:AcS)(R:xI)(e:Nat)(a:AcQ):rJ b c d R (e+1) a=
 (∃n2,eE b c d R e a n2 a 0):=by kernel_rfl
theorem zfr(a:zE)(b:AcQ)(c:Bool)(d:AcS)(R:xI):FDF qE f68 [dM a,dS b,dB c,.sl (.list .lit) d] R=
 (yJ tI [dS b] (.fr (.list (.list .int))) λe=>
 ∃n0,rJ a c d R n0 e):=by kernel_rfl
theorem zds(a:zE)(b:AcQ)(c:Bool)(d:AcS):XC qE f68 pZ [dM a,dS b,dB c,.sl (.list .lit) d]:=X2 func68 (by kernel_rfl) ntmps68 rfl
def wL:xF:= {own:=[33],live:=[(0,([0,3,9,10,11],[])),(2,([6,25,26,27],[31536]))],n:=36}
def uL(a:AcS)(R:xI)(b:Nat)(c:Int)(d:AcR):Prop:=Ar wL Tryz.f246 [1,1,1,1,0,1,0,0] 2 b ⟨[(6,.own 31536),(25,.sl (.list .lit) a),(26,dI (a.length:Int)),(27,dI c)],[(31536,.row 66 (.fr .lit) d)]⟩ (zP 2 (Gu wL Tryz.f246 [1,1,1,1,1] 0 (eKF Tryz.f246 R)))
def uM(a:AcS)(R:xI)(b:Nat)(c d:Int):Prop:=Ar wL Tryz.f246 [1,1,0,1,0,0] 0 b ⟨[(0,.sl (.list .lit) a),(3,dI c),(9,.sl (.list .lit) a),(10,dI (a.length:Int)),(11,dI d)],[]⟩ (zP 0 (Gu wL Tryz.f246 [1,1,1] 0 (eKF Tryz.f246 R)))
theorem fH(a:AcS)(R:xI)(d:Nat)(b:Int)(c:AcR):uL a R (d+1) b c=
 (zT (decide (b<(a.length:Int)))
 (wW b a.length=true/\
 yX (.fr .lit) (c.length+(zJ (.list .lit) a b.toNat).length)=true/\
 uL a R d (yU (b+1)) (c++(zJ (.list .lit) a b.toNat)))
 (R (.sl (.fr .lit) c))):=by kernel_rfl
theorem fI(a:AcS)(R:xI)(d:Nat)(c b:Int):uM a R (d+1) c b=
 (zT (decide (b<(a.length:Int)))
 (wW b a.length=true/\
 zT (decide ((yU (c+((zJ (.list .lit) a b.toNat).length:Int)))<0))
 (False)
 (uM a R d (yU (c+((zJ (.list .lit) a b.toNat).length:Int))) (yU (b+1))))
 (∃e:AcR,xT sA [.nil,dI c] [] (.own 3000) [(3000,.row 66 (.fr .lit) e)]/\
 ∃n2,uL a R n2 0 e)):=by kernel_rfl
theorem cK(a:AcS)(R:xI):FDF wL Tryz.f246 [.sl (.list .lit) a] R=
 (∃n0,uM a R n0 0 0):=by kernel_rfl
theorem dJ(a:AcS):XC wL Tryz.f246 wA [.sl (.list .lit) a]:=X2 func246 (by kernel_rfl) ntmps246 rfl
def tJ:xF:= {own:=[52,109],live:=[(0,([0,1,5,8,66,67,68],[1000,2000])),(2,([0,1,5,8,9,66,67,68,73,74,75],[1000,2000]))],n:=119}
def qI(a:AcQ)(c:Int)(R:oG)(d:AcQ)(e:Nat)(b:Int)(f:Nat)(g:Bool)(h:Int)(i:AcU)(j:AcV)(k l:Int)(m:AcS)(n:AcQ)(o:AcW):Prop:=Ar tJ f167 [1,1,1,1,0,1,0,0,1,1,0,0,1,1,0,0] 2 f ⟨[(0,Ac3),(1,dI c),(5,.sl (.fr (.list .int)) d),(8,dB g),(9,dI b),(66,.sl (.fr (.list .int)) a),(67,dI (a.length:Int)),(68,dI b),(73,.sl (.fr .int) (zJ (.fr (.list .int)) a b.toNat)),(74,dI ((zJ (.fr (.list .int)) a b.toNat).length:Int)),(75,dI h)],[(1000,.cells [.sl .var i,.sl .con j,dI k,dI l,.sl (.list .lit) m,.sl (.fr (.list .int)) n,.own 2000]),(2000,.row 71 (.fr .step) o)]⟩ (zP 2 (zP 1 (Gu tJ f167 [1,1,1,1,0,1,0,0,1,1,1] 0 (iKF tJ f167 [1,1,1,1,0,1,0,0] 0 e (zP 0 (Gu tJ f167 [1,1,1,1,1] 0 (eHF f167 [Ac3] false R)))))))
def oN(a:AcQ)(b:Int)(R:oG)(c:AcQ)(d:Nat)(e:Bool)(f:Int)(g:AcU)(h:AcV)(i j:Int)(k:AcS)(l:AcQ)(m:AcW):Prop:=Ar tJ f167 [1,1,1,1,0,1,0,0] 0 d ⟨[(0,Ac3),(1,dI b),(5,.sl (.fr (.list .int)) c),(8,dB e),(66,.sl (.fr (.list .int)) a),(67,dI (a.length:Int)),(68,dI f)],[(1000,.cells [.sl .var g,.sl .con h,dI i,dI j,.sl (.list .lit) k,.sl (.fr (.list .int)) l,.own 2000]),(2000,.row 71 (.fr .step) m)]⟩ (zP 0 (Gu tJ f167 [1,1,1,1,1] 0 (eHF f167 [Ac3] false R)))
theorem Tl(b:AcQ)(c:Int)(R:oG)(e:AcQ)(l:Nat)(a:Int)(n:Nat)(o:Bool)(d:Int)(f:AcU)(g:AcV)(h i:Int)(m:AcS)(j:AcQ)(k:AcW):qI b c R e l a (n+1) o d f g h i m j k=
 (zT (decide (d<((zJ (.fr (.list .int)) b a.toNat).length:Int)))
 (wW d (zJ (.fr (.list .int)) b a.toNat).length=true/\
 wW a e.length=true/\
 yJ wD [.sl (.fr .int) (zJ (.fr (.list .int)) e a.toNat),dI (zJ (.fr .int) (zJ (.fr (.list .int)) b a.toNat) d.toNat)] .bool λq=>
 zT q
 (qI b c R e l a n o (yU (d+1)) f g h i m j k)
 (c2Q fU [.agg [.sl .var f,.sl .con g,dI h,dI i],dI c,.sl (.fr (.list .int)) j,dI a,dI (zJ (.fr .int) (zJ (.fr (.list .int)) b a.toNat) d.toNat)] (.fr (.list .lit)) .bool λp r=>
 yX (.fr .step) (k.length+([(⟨1,c,p⟩:zR)]).length)=true/\
 qI b c R e l a n true (yU (d+1)) f g h i m j (k++([(⟨1,c,p⟩:zR)]))))
 (oN b c R e l o (yU (a+1)) f g h i m j k)):=by kernel_rfl
theorem Tm(a:AcQ)(k:Int)(R:oG)(c:AcQ)(l:Nat)(d:Bool)(b:Int)(e:AcU)(f:AcV)(g h:Int)(i:AcS)(m:AcQ)(j:AcW):oN a k R c (l+1) d b e f g h i m j=
 (zT (decide (b<(a.length:Int)))
 (wW b a.length=true/\
 ∃n2,qI a k R c l b n2 d 0 e f g h i m j)
 (R (dB d) (Fq e f g h i c j))):=by kernel_rfl
theorem Q5(d:AcU)(b:AcV)(e f:Int)(h:AcS)(c:AcQ)(g:AcW)(a:Int)(R:oG):FHF tJ f167 [Ac3,dI a] (Fq d b e f h c g) [Ac3] false R=
 (wW a b.length=true/\
 yJ rX [dC (zJ .con b a.toNat),.sl (.fr (.list .int)) c] (.fr (.list (.list .int))) λi=>
 yJ zV [.sl (.fr (.list .int)) i] .bool λk=>
 zT k
 (c2Q iV [.agg [.sl .var d,.sl .con b,dI e,dI f],dI a,.sl (.fr (.list .int)) c] (.fr (.list .lit)) .bool λj m=>
 yX (.fr .step) (g.length+([(⟨1,a,j⟩:zR)]).length)=true/\
 yJ yQ [.sl (.fr (.list .int)) c] (.fr (.list (.list .int))) λl=>
 R (dB true) (Fq d b e f h l (g++([(⟨1,a,j⟩:zR)]))))
 (∃n0,oN c a R i n0 false 0 d b e f h c g)):=by kernel_rfl
theorem RX(a:AcU)(b:AcV)(c d:Int)(e:AcS)(f:AcQ)(g:AcW)(h:Int):zdq tJ f167 mI [Ac3,dI h] (Fq a b c d e f g) [Ac3] false:=zhw func167 (by kernel_rfl) ntmps167 rfl
def pK:xF:= {own:=[],live:=[(0,([0,2],[1000,2000])),(2,([0,2,3],[1000,2000]))],n:=59}
def oO(R:oG)(a b:Nat)(c:Bool)(d:Int)(e:AcU)(f:AcV)(g h:Int)(i:AcS)(j:AcQ)(k:AcW):Prop:=Ar pK f116 [1,0,0,1,0,1,0,1,0,0] 2 b ⟨[(0,Ac3),(2,dB c),(3,dI d)],[(1000,.cells [.sl .var e,.sl .con f,dI g,dI h,.sl (.list .lit) i,.sl (.fr (.list .int)) j,.own 2000]),(2000,.row 71 (.fr .step) k)]⟩ (zP 2 (Gu pK f116 [1,0,0,1,0,1,1] 1 (zP 1 (iKF pK f116 [1,0,0] 0 a (zP 0 (eHF f116 [Ac3] false R))))))
def wV(R:oG)(a:Nat)(b:Bool)(c:AcU)(d:AcV)(e f:Int)(g:AcS)(h:AcQ)(i:AcW):Prop:=Ar pK f116 [1,0,0] 0 a ⟨[(0,Ac3),(2,dB b)],[(1000,.cells [.sl .var c,.sl .con d,dI e,dI f,.sl (.list .lit) g,.sl (.fr (.list .int)) h,.own 2000]),(2000,.row 71 (.fr .step) i)]⟩ (zP 0 (eHF f116 [Ac3] false R))
theorem aU(R:oG)(f k:Nat)(j:Bool)(i:Int)(b:AcU)(a:AcV)(c d:Int)(e:AcS)(g:AcQ)(h:AcW):oO R f (k+1) j i b a c d e g h=
 (zT (decide (i<(a.length:Int)))
 (yJ zV [.sl (.fr (.list .int)) g] .bool λq=>
 zT (!q)
 (∃p:Bool,∃l:AcQ,∃m:AcW,xT mI [Ac3,dI i] (Fq b a c d e g h) (dB p) (Fq b a c d e l m)/\
 zT p
 (oO R f k true (yU (i+1)) b a c d e l m)
 (oO R f k j (yU (i+1)) b a c d e l m))
 (yJ pZ [.agg [.sl .var b,.sl .con a,dI c,dI d],.sl (.fr (.list .int)) g,dB false,.sl (.list .lit) e] (.fr (.list (.list .int))) λn=>
 yJ yF [.sl (.fr (.list .int)) n,.sl (.fr (.list .int)) g,.clo xW none []] .bool λr=>
 zT (!r)
 (wV R f true b a c d e n h)
 (wV R f j b a c d e n h)))
 (yJ pZ [.agg [.sl .var b,.sl .con a,dI c,dI d],.sl (.fr (.list .int)) g,dB false,.sl (.list .lit) e] (.fr (.list (.list .int))) λo=>
 yJ yF [.sl (.fr (.list .int)) o,.sl (.fr (.list .int)) g,.clo xW none []] .bool λs=>
 zT (!s)
 (wV R f true b a c d e o h)
 (wV R f j b a c d e o h))):=by kernel_rfl
theorem aV(R:oG)(h:Nat)(i:Bool)(b:AcU)(c:AcV)(d e:Int)(f:AcS)(a:AcQ)(g:AcW):wV R (h+1) i b c d e f a g=
 (zT i
 (yJ zV [.sl (.fr (.list .int)) a] .bool λj=>
 zT (!j)
 (∃n2,oO R h n2 false 0 b c d e f a g)
 (R (.tup []) (Fq b c d e f a g)))
 (R (.tup []) (Fq b c d e f a g))):=by kernel_rfl
theorem Q6(a:AcU)(b:AcV)(c d:Int)(e:AcS)(f:AcQ)(g:AcW)(R:oG):FHF pK f116 [Ac3] (Fq a b c d e f g) [Ac3] false R=
 (∃n0,wV R n0 true a b c d e f g):=by kernel_rfl
theorem RY(a:AcU)(b:AcV)(c d:Int)(e:AcS)(f:AcQ)(g:AcW):zdq pK f116 mG [Ac3] (Fq a b c d e f g) [Ac3] false:=zhw func116 (by kernel_rfl) ntmps116 rfl
end Go.Proofs.YtdnmkinmcdihnaaGreatDoor
namespace Go.Proofs.YtdnmkinmcdihnaaGreatDoor
open Go.Proofs.Tryz
open Go.RowKit
variable[Lo]
theorem Cx{c:zF}{vs:AcP}{nv:Nat}(hc:vQ c nv)(hv:Rx vs nv)(hk:c.kind<=3){I:Nat->Int->Int->Prop}{b:Bool}(hb:wO c vs=b)
  (hI:∀n a (k:Nat),I (n+1) a k=zT (decide ((k:Int)<(c.consts.length:Int)))
   (wW (k:Int) c.consts.length=true/\yJ yS [dI k,.iptr [.sl .int vs] 0,.iptr [.int .i64 c.kind,.sl .int c.vars,.sl .int c.consts,.int .i64 c.n,.sl (.list .int) c.rows,.sl .lit c.lits] 0] .int λm3=>
    I n (yU (a+(yU ((zJ .int c.consts (k:Int).toNat)*m3)))) (yU ((k:Int)+1)))
   (yJ jH [dC c,dI a] .bool λm4=>D.bool m4=dB b)):∃n,I n 0 0:=by
 subst hb;have hm:=hc.many;have hfc:=(hc.formC).sums hk;have hxl:(sD c vs).length=c.vars.length:=iA;have hz:(c.consts.zip (sD c vs)).length=c.consts.length:=by rw[AaA];omega
 have hnear:∀x∈c.consts.zip (sD c vs),(-1000<=x.1/\x.1<=1000)/\-50<=x.2/\x.2<=50:=λx hx=>⟨hc.consts _ (Acc hx).1,MW hv _ (Acc hx).2⟩
 refine up (I:=λn v a=>I n a v) 0 c.consts.length rfl (Is _) (by omega) (λk a=>a=Nm ((c.consts.zip (sD c vs)).take k)) (by rw[AbQ];rfl) λn k a _ hk2 ha hn=> ?_
 subst ha;rw[hI]
 by_cases h:k<c.consts.length
 ·have hkv:k<c.vars.length:=by omega
  have hkz:k<(c.consts.zip (sD c vs)).length:=by omega
  have h1:=hc.consts _ (AT h);have h2:=MW (c:=c) hv _ (AT (show k<(sD c vs).length by omega))
  have h3:=Cm h1 h2;have h4:=zoF λx hx=>hnear x (Abp (i:=k) hx)
  rw[Aak]at h4
  rw[yD h,yA (t:=.int) h];refine⟨zI h,zG (uO hc hv hkv) (hn h _ ?_)⟩;rw[zl9 hkz,AaL,qV (n:=_*_) (by omega) (by omega),qV (by omega) (by omega)]
 ·have hk':k=c.consts.length:=by omega
  subst hk';rw[zY];refine zG (Kf c _) ?_;rw[AaJ (by omega)]
  have hkk:=hc.kind;have:c.kind=1\/c.kind=2\/c.kind=3:=by omega
  rcases this with e|e|e<;>simp[wO,e]
theorem zma{c:zF}{vs:AcP}{nv:Nat}(hc:vQ c nv)(hv:Rx vs nv):vL xZ [.sl .lit c.lits,.clo qY none [.iptr [.sl .int vs] 0]] (dB (c.lits.any λl=>holdsL l (vs.getD l.var.toNat 0))):=
 pO (p:=λl=>holdsL l (vs.getD l.var.toNat 0)) IC λl hl=>Ry (hc.lits l hl) hv
theorem gO{c:zF}{vs:AcP}{nv:Nat}(hc:vQ c nv)(hv:Rx vs nv):vL nK [dC c,.sl .int vs] (dB (wO c vs)):=
 D4 c vs λok=>by
  obtain⟨hk1,hk2⟩:=hc.kind;have hm:=hc.many;have hf:=hc.formC;have hxl:(sD c vs).length=c.vars.length:=iA;have hnear:=MW (c:=c) hv;have hx:∀ {k:Nat} (h:k<c.vars.length),(sD c vs).getD k 0=(sD c vs)[k]:=λh=>yO _ (by omega)
  rw[AM];refine zC (λe=> ?_) λe1=>zC (λe=> ?_) λe2=>zC (λe=> ?_) λe3=>zC (λe=> ?_) λe4=>zC (λe=> ?_) λe5=>zC (λe=> ?_) λe6=>zC (λe=> ?_) λe7=>zC (λe=> ?_) λe8=>zC (λe=> ?_) λe9=> ?_
  ·have e:=BY e
   exact Cx hc hv (by omega) (I:=λn a v=>Y1 c vs _ n a v) rfl λn a k=>by rw[Iq]
  ·have e:=BY e
   exact Cx hc hv (by omega) (I:=λn a v=>bQ c vs _ n a v) rfl λn a k=>by rw[MQ]
  ·have e:=BY e
   exact Cx hc hv (by omega) (I:=λn a v=>bR c vs _ n a v) rfl λn a k=>by rw[MR]
  ·have e:=BY e
   have ht:wO c vs=decide (sD c vs).Nodup:=by simp[wO,e]
   refine up (I:=λn v a=>Y2 c vs _ n v a) 0 c.vars.length rfl (Is _) (by omega) (λk a=>a.map (λe=>e.1)=aF [] ((sD c vs).take k)) (by rw[AbQ];rfl) λn k a _ hkl ha hn=> ?_
   have hal:a.length=(aF [] ((sD c vs).take k)).length:=by rw[<-ha,Aae]
   have hle:=MX ((sD c vs).take k) [];rw[Aak,IS]at hle
   rw[Ir]
   by_cases h:k<c.vars.length
   ·rw[yD h]
    refine zG (uO hc hv h) ⟨Aaf (by omega),hn h _ ?_⟩
    rw[zbg,ha,zfn (show k<(sD c vs).length by omega)]
   ·have hk':k=c.vars.length:=by omega
    subst hk';rw[zY,ht]
    congr 1
    rw[AaJ (by omega)]at hal
    have hn:=Kg (sD c vs) [];rw[IS,Aat]at hn
    refine decide_eq_decide.2 ⟨λh=>(hn.1 (by omega)).1,λh=> ?_⟩
    have:=hn.2 ⟨h,λx _ hx=>by cases hx⟩
    omega
  ·have e:=BY e
   obtain⟨h2,h1⟩:=hf.element e;have t0:=uO hc hv (k:=0) (by omega)
   have t1:=uO hc hv (k:=1) (by omega)
   have ht:wO c vs=(decide ((0:Int)<=(sD c vs)[0])&&decide ((sD c vs)[0]<c.consts.length)&&decide (c.consts.getD (sD c vs)[0].toNat 0=(sD c vs)[1])):=by
    rw[<-hx (k:=0) (by omega),<-hx (k:=1) (by omega)];simp[wO,e]
   refine zG t0 ?_;rw[qV (by omega) (by omega)]
   refine zG (qA _ _ _) (zC (λf=> ?_) λf=> ?_)
   ·obtain⟨f1,f2⟩:=zod.1 f
    have hin:(sD c vs)[0].toNat<c.consts.length:=by omega
    refine zG t0 ⟨uW.2 ⟨f1,by omega⟩,zG t1 ?_⟩
    rw[ht,Aaf f1,Aaf (p:=_<_) (by omega),yO _ hin,atN (t:=.int) hin];rfl
   ·rw[ht]
    rcases pI.1 f with f|f
    ·rw[Aao (p:=0<=_) (by omega)];rfl
    ·rw[Aao (p:=_<(c.consts.length:Int)) (by omega),AbJ];rfl
  ·have e:=BY e
   have ht:wO c vs=c.rows.any λr=>decide (r=sD c vs):=by simp[wO,e]
   refine up (I:=λn v a=>Y3 c vs _ n v a) 0 c.vars.length rfl (Is _) (by omega) (λk a=>a=(sD c vs).take k) (by rw[AbQ]) λn k a _ hkl ha hn=> ?_
   subst ha;rw[Iu]
   by_cases h:k<c.vars.length
   ·rw[yD h]
    refine zG (uO hc hv h) ⟨xC (t:=.int) ?_,hn h _ (Aay _)⟩;rw[Aak];show(_+1)*8<=_
    omega
   ·have hk':k=c.vars.length:=by omega
    subst hk';rw[zY,AaJ (by omega),ht]
    exact zG (rF ID λr _=>Fk r _) rfl
  ·have e:=BY e
   have h3:=hf.times e;refine zG (uO hc hv (k:=0) (by omega)) (zG (uO hc hv (k:=1) (by omega)) (zG (uO hc hv (k:=2) (by omega)) ?_))
   have n0:=hnear _ (AT (show 0<(sD c vs).length by omega))
   have n1:=hnear _ (AT (show 1<(sD c vs).length by omega))
   have:=Cm (a:=(sD c vs)[0]) (b:=(sD c vs)[1]) (by omega) n1
   rw[qV (by omega) (by omega),show wO c vs=decide ((sD c vs).getD 0 0*(sD c vs).getD 1 0=(sD c vs).getD 2 0) by simp[wO,e],hx (k:=0) (by omega),hx (k:=1) (by omega),hx (k:=2) (by omega)]
  ·have e:=BY e
   have h2:=hf.max e;have hd:((c.vars.take (c.vars.length:Int).toNat).drop 1).length=c.vars.length-1:=by rw[Aap,Aam,Abm]
   refine zG (uO hc hv (k:=1) (by omega)) ⟨by unfold Nh;simp;omega,?_⟩
   refine up (I:=λn v a=>Y4 c vs _ n a v) 0 (c.vars.length-1) rfl (Is _) (by omega) (λk a=>a=zoE (sD c vs)[1] (((sD c vs).drop 1).take k)) (by rw[AbQ];rfl) λn k a _ hkl ha hn=> ?_
   subst ha;rw[Iv,hd]
   by_cases h:k<c.vars.length-1
   ·rw[yD h,qV (n:=1+_) (by omega) (by omega),show(1:Int)+(k:Int)=((k+1:Nat):Int) by omega]
    have hk3:k<((sD c vs).drop 1).length:=by rw[Abm];omega
    refine zG (uO hc hv (k:=k+1) (by omega)) (hn h _ ?_)
    rw[<-Aay hk3,zoE,zoE,Abg,AbR,List.foldl_nil,List.getElem_drop];simp only[show 1+k=k+1 by omega]
   ·have hk':k=c.vars.length-1:=by omega
    subst hk';rw[zY];refine zG (uO hc hv (k:=0) (by omega)) ?_
    rw[AaJ (by rw[Abm];omega),show wO c vs=decide ((sD c vs).getD 0 0=zoE ((sD c vs).getD 1 0) ((sD c vs).drop 1)) by simp[wO,e],hx (k:=0) (by omega),hx (k:=1) (by omega)]
  ·have e:=BY e
   rw[show wO c vs=c.lits.any λl=>holdsL l (vs.getD l.var.toNat 0) by simp[wO,e]]
   exact zG (zma hc hv) rfl
  ·have e:c.kind=10:=by simp at e1 e2 e3 e4 e5 e6 e7 e8 e9;omega
   obtain⟨h1,h2⟩:=hf.iff e;have hl0:0<c.lits.length:=by omega
   have t0:=uO hc hv (k:=0) (by omega)
   have l0:=Ry (hc.lits _ (AT hl0)) hv
   have ha:(c.lits.take 1).any (λl=>holdsL l (vs.getD l.var.toNat 0))=holdsL c.lits[0] (vs.getD c.lits[0].var.toNat 0):=by
    rw[show c.lits.take 1=[c.lits[0]] by rw[List.take_one,List.head?_eq_getElem?,Aal hl0];rfl];simp
   have ht:wO c vs=(holdsL c.lits[0] (vs.getD c.lits[0].var.toNat 0)&&decide ((sD c vs)[0]=1)|| !holdsL c.lits[0] (vs.getD c.lits[0].var.toNat 0)&&decide ((sD c vs)[0]=0)):=by
    rw[<-hx (k:=0) (by omega),<-ha];simp[wO,e]
   have a0:zJ .lit c.lits 0=c.lits[0]:=atN (t:=.lit) hl0;have i0:wW 0 c.lits.length=true:=zI hl0;rw[a0,ht];refine⟨i0,zG l0 (zC (λf=>zG t0 (zC (λg=> ?_) λg=>⟨i0,zG l0 (zC (λf2=> ?_) λf2=> ?_)⟩)) λf=>⟨i0,zG l0 (zC (λf2=>zG t0 ?_) λf2=> ?_)⟩)⟩
   ·rw[f,g];rfl
   ·rw[f]at f2;exact At f2 (by decide)
   ·rw[f,g];rfl
   ·rw[f];rfl
   ·rw[f]at f2;exact At f2 (by decide)
end Go.Proofs.YtdnmkinmcdihnaaGreatDoor
namespace Go.Proofs.YtdnmkinmcdihnaaGreatDoor
open Go.Proofs.Tryz
open Go.RowKit
variable[Lo]
theorem Cy(l:AcP):(l.map λx=>[Value.int .i64 x]).flatten=l.map (Value.int .i64):=by
 induction l with
 |nil=>rfl
 |cons a l ih=>rw[Aaq,Aa5,ih];rfl
theorem zdt{w:World}{S:Nat->Prop}{l:AcP}{css:List (List Value)}(hl:css.length=l.length)(h:∀(i:Nat) (x:Int) (cs:List Value),l[i]? =some x->css[i]? =some cs->xU.rd w S cs x):
  css.flatten=l.map (Value.int .i64)/\∀x∈l,xE x:=by
 have e:css=l.map λx=>[Value.int .i64 x]:=by
  apply AbV (by rw[hl,Aae])
  intro i h1 h2;have hi:i<l.length:=by omega
  have:=h i l[i] css[i] (Aal hi) (Aal h1);rw[Acd];exact this.1
 refine⟨by rw[e,Cy],λx hx=> ?_⟩
 obtain⟨i,hi,rfl⟩:=Aas hx;exact(h i l[i] css[i] (Aal hi) (Aal (by omega))).2
theorem ztc{w:World}{S:Nat->Prop}{pl:Nat->Value}{l:AcP}{g cap:Nat}{cur:Array Value}{e:AcN}(hb:l.length*8<=140737488355328)(hh:w.heap[g]? =some (.cells cur e (0,0)))(h1:l.length<=cap)(h2:cap<=maxLen)(h3:cur.size=cap)(h4:cur.toList.take l.length=l.map (Value.int .i64))(hi:∀x∈l,xE x):
  jF w S pl (.slice (some ⟨g,0,none⟩) l.length cap) (.row e .int l):=by
 refine⟨hb,l.map λx=>[Value.int .i64 x],by rw[Aae],⟨?_,.inr ⟨g,cap,cur,rfl,Is _,hh,h1,h2,?_,?_⟩⟩,?_,?_⟩
 ·rw[Cy,Aae];exact(Aa9 _).symm
 ·rw[h3];exact(Aa9 _).symm
 ·rw[Cy,<-h4];congr 1;exact Aa9 _
 ·intro cs hcs
  obtain⟨x,_,rfl⟩:=OF.1 hcs;rfl
 ·intro i x cs hx hcs
  rw[Aaw,hx]at hcs
  cases hcs;exact⟨rfl,hi _ (AaS hx)⟩
theorem Cz{d:Array Int}{cur:Array Value}(h:d.size<=cur.size):(Sort.putCells (Value.int .i64) 0 d cur).toList.take d.size=d.toList.map (Value.int .i64):=by
 apply AbV
 ·simp[Sort.putCells];omega
 ·intro i h1 h2
  have hi:i<d.size:=by simpa using h2
  simp[Sort.putCells,hi]
theorem I1{w:World}{l:AcP}{g cap:Nat}{cur:Array Value}{e:AcN}(hh:w.heap[g]? =some (.cells cur e (0,0)))(h4:cur.toList.take l.length=l.map (Value.int .i64)):Sort.Holds (Value.int .i64) w g 0 l.toArray:=by
 intro j hj;have hj:j<l.length:=by simpa using hj
 rw[Aat];refine⟨?_,frozen_of_row w g j cur e hh⟩;rw[cell_of_row w g j cur e (0,0) hh];have e2:(cur.toList.take l.length)[j]? =some (.int .i64 l[j]):=by rw[h4,Aaw,Aal hj];rfl
 rw[Abs,As hj]at e2
 rw[<-AaE,e2];simp[hj]
theorem Kv{w:World}{g:Nat}{cur:Array Value}{e:AcN}(d:Array Int)(n:Nat)(hh:w.heap[g]? =some (.cells cur e (0,0))):(Sort.putRow (Value.int .i64) (Sort.ahead w n) g 0 d).heap[g]? =some (.cells (Sort.putCells (Value.int .i64) 0 d cur) e (0,0)):=by
 simp[Sort.putRow,Sort.mapBlock,AbY,hh,Sort.onCells]
theorem I2{w:World}{g k:Nat}(d:Array Int)(n:Nat)(hk:k≠g):(Sort.putRow (Value.int .i64) (Sort.ahead w n) g 0 d).heap[k]? =w.heap[k]? :=by
 simp[Sort.putRow,Sort.mapBlock,AbY,Ne.symm hk]
theorem W3{k n:Nat}{o o':yE}(h:zW k [(n,o)]=some o'):k=n/\o'=o:=by
 rw[xM]at h
 split at h
 ·rename_i e;exact⟨e.symm,(Option.some.inj h).symm⟩
 ·cases h
theorem Et{w:World}{S:Nat->Prop}{pl:Nat->Value}:Av w S pl []:=
 ⟨λk o h=>(AbL _ h.symm).elim,λk o b h=>(AbL _ h.symm).elim,λk k' o o' b h=>(AbL _ h.symm).elim⟩
theorem CA{vs:Array Value}{v:Value}(h:vs.size=1)(e:vs.getD 0 Go.undef=v):vs= #[v]:=by
 apply Array.ext
 ·simpa using h
 ·intro i h1 h2
  have:i=0:=by omega
  subst this;simpa[Aaj,h1]using e
theorem M4(l:AcP):(Lib.compact l).length<=l.length:=by
 unfold Lib.compact Lib.compactUpTo;rw[Aae];have:=Abw (Lib.keeps l.toArray) (List.range l.length)
 rwa[List.length_range]at this
theorem Q7{l:AcP}{x:Int}(h:x∈Lib.compact l):x∈l:=by
 unfold Lib.compact Lib.compactUpTo at h
 obtain⟨i,hi,rfl⟩:=OF.1 h;have hi:=Aa3.1 (Aax.1 hi).1;rw[getElem!_pos l.toArray i (by simpa using hi)]
 simp
abbrev aW(l:AcP):AcP:=l.mergeSort λx y=>decide (x<=y)
theorem Oz(l:AcP):xT vN [.own 1000] [(1000,.row 3 .int l)] (.tup []) [(1000,.row 3 .int (aW l))]:=by
 intro w S vs pl hS hl hv hH _;have e0:vs= #[pl 1000]:=CA hl (hv 0 _ rfl);subst e0;obtain⟨hb,css,hcl,hown,hcs,hrd⟩:=hH.ok 1000 _ rfl;obtain⟨hf,hin⟩:=zdt hcl hrd;have hb8:l.length*8<=140737488355328:=hb;have hsl:(aW l).length=l.length:=List.length_mergeSort l;have hsin:∀x∈aW l,xE x:=λx hx=>hin x ((Acz l _).mem_iff.1 hx)
 rcases hown.2 with⟨hp,hn⟩|⟨g,cap,cur,hp,_,hh,hc1,hc2,hc3,hc4⟩
 ·obtain rfl:l=[]:=AaX.1 hn
  rw[hp];refine(slices_Sort_int_none none 0 w).mono λe w' ⟨he,hw⟩=> ?_
  subst hw;rw[show aW []=[]from AaX.1 hsl]
  refine⟨_,S,pl,he,?_,hH,hS,λb h=> .inl h,λb h=> .inl h,λ_ _=>rfl,.of (Below.refl _ _)⟩
  exact Rp.tup #[] [] rfl λi d h=>by simp at h
 ·have hc3':cur.size=cap:=hc3.trans (Aa9 _)
  have hc4':cur.toList.take l.length=l.map (Value.int .i64):=by rw[<-hf,<-hc4];congr 1;exact(Aa9 _).symm
  have hg:g<w.heap.size:=(Abd.1 hh).1;rw[hp];refine(slices_Sort_int g 0 cap l w (I1 (cap:=cap) hh hc4') hg (by omega)).mono λe w' ⟨he,n,os,hw⟩=> ?_
  subst hw;have hsz:(Sort.putRow (Value.int .i64) (Sort.ahead w n) g 0 (aW l).toArray).heap.size=w.heap.size:=by simp
  have hG:∀k,k<w.heap.size->(Sort.grow (Sort.putRow (Value.int .i64) (Sort.ahead w n) g 0 (aW l).toArray) os).heap[k]? =(Sort.putRow (Value.int .i64) (Sort.ahead w n) g 0 (aW l).toArray).heap[k]? :=λk hk=>by
   show(_++os)[k]? =_
   rw[Ab5 (by omega)]
  have hgs:(Sort.grow (Sort.putRow (Value.int .i64) (Sort.ahead w n) g 0 (aW l).toArray) os).heap.size=w.heap.size+os.size:=by simp
  have hpb:sR (pl 1000)=some g:=by rw[hp];rfl
  refine⟨_,S,pl,he,?_,?_,λb h=>by rw[hgs];have:=hS b h;omega,λb h=> .inl h,λb ⟨k,o,h1,h2⟩=> ?_,λ_ _=>rfl,?_⟩
  ·exact Rp.tup #[] [] rfl λi d h=>by simp at h
  ·have look1:∀k o,zW k [(1000,yE.row 3 .int (aW l))]=some o->k=1000/\o=.row 3 .int (aW l):=λk o h=>W3 h
   refine⟨λk o h=> ?_,λk o b h1 h2=> ?_,λk k' o o' b h1 h2 _ _=>by rw[(look1 _ _ h1).1,(look1 _ _ h2).1]⟩
   ·obtain⟨rfl,rfl⟩:=look1 _ _ h
    rw[hp,show l.length=(aW l).length from hsl.symm]
    refine ztc (by omega) ((hG g hg).trans (Kv _ n hh)) (by omega) hc2 (by simp[Sort.putCells,hc3']) ?_ hsin
    have:=Cz (d:=(aW l).toArray) (cur:=cur) (by simp only[On];omega)
    simpa using this
   ·obtain⟨rfl,rfl⟩:=look1 _ _ h1
    have:=hH.priv 1000 _ b rfl h2;exact⟨by rw[hgs];omega,this.2⟩
  ·have:k=1000:=(W3 h1).1
   subst this;exact .inl ⟨1000,_,rfl,h2⟩
  ·refine⟨rfl,rfl,rfl,by rw[hgs];omega,λk hk hO=> ?_⟩
   rw[hG k hk];refine I2 _ _ λe=>hO ?_
   subst e;exact⟨1000,_,rfl,hpb⟩
theorem Su(l:AcP):xT wT [.own 1000] [(1000,.row 3 .int l)] (.sl .int (Lib.compact l)) []:=by
 intro w S vs pl hS hl hv hH _;have e0:vs= #[pl 1000]:=CA hl (hv 0 _ rfl);subst e0;obtain⟨hb,css,hcl,hown,hcs,hrd⟩:=hH.ok 1000 _ rfl;obtain⟨hf,hin⟩:=zdt hcl hrd;have hb8:l.length*8<=140737488355328:=hb;have hcle:=M4 l;have hcin:∀x∈Lib.compact l,xE x:=λx hx=>hin x (Q7 hx)
 rcases hown.2 with⟨hp,hn⟩|⟨g,cap,cur,hp,_,hh,hc1,hc2,hc3,hc4⟩
 ·obtain rfl:l=[]:=AaX.1 hn
  rw[hp];refine(slices_Compact_int_empty none 0 w).mono λe w' ⟨he,hw⟩=> ?_
  subst hw;refine⟨_,S,pl,he,?_,Et,hS,λb h=> .inl h,λb ⟨k,o,h,_⟩=>(AbL _ h.symm).elim,λ_ _=>rfl,.of (Below.refl _ _)⟩
  have:Lib.compact ([]:AcP)=[]:=AaX.1 (by have:=hcle;simpa using this)
  rw[this];exact Rp.sl .int [] _ ⟨_,rfl,none,0,rfl,by simp,by simp,by simp,λ_=>rfl,λh=>by simp at h⟩
 ·have hc3':cur.size=cap:=hc3.trans (Aa9 _)
  have hc4':cur.toList.take l.length=l.map (Value.int .i64):=by rw[<-hf,<-hc4];congr 1;exact(Aa9 _).symm
  have hg:g<w.heap.size:=(Abd.1 hh).1;rw[hp];refine(slices_Compact_int g 0 cap l w (I1 (cap:=cap) hh hc4') (by omega) hc1).mono λe w' ⟨he,n,hw⟩=> ?_
  subst hw;have hsz:(Sort.putRow (Value.int .i64) (Sort.ahead w n) g 0 (Lib.compact l++List.replicate (l.length-(Lib.compact l).length) 0).toArray).heap.size=w.heap.size:=by simp
  have hpb:sR (pl 1000)=some g:=by rw[hp];rfl
  refine⟨_,λb=>S b\/b=g,pl,he,?_,Et,λb h=> ?_,λb h=> ?_,λb ⟨k,o,h,_⟩=>(AbL _ h.symm).elim,λ_ _=>rfl,?_⟩
  ·refine Rp.sl .int _ _ ⟨_,rfl,some ⟨g,0,none⟩,cap,rfl,by show _*8<=_;omega,by omega,hc2,(λh=>by cases h),λ_=>⟨g,0,rfl,.inr rfl,λi x hx=>⟨[.int .i64 x],⟨rfl,hcin _ (AaS hx)⟩,λj u hu=> ?_⟩⟩⟩
   have hj:j=0:=by
    cases j with
    |zero=>rfl
    |succ j=>simp at hu
   subst hj;cases hu;rw[cell_of_row _ g _ _ _ (0,0) (Kv _ n hh)];have hi:i<(Lib.compact l).length:=(AaB.1 hx).1;have:=Cz (d:=(Lib.compact l++List.replicate (l.length-(Lib.compact l).length) 0).toArray) (cur:=cur) (by simp;omega)
   rw[show 0+i*xU.size Int+0=i from by show 0+i*1+0=i;omega]
   rw[<-AaE];have h5:=AS (λz:List Value=>z[i]?) this
   simp only[Abs,Aaw,List.toList_toArray]at h5
   rw[As (by simp;omega),AaQ hi,hx]at h5
   exact h5
  ·rw[hsz]
   rcases h with h|rfl
   ·exact hS b h
   ·exact hg
  ·rcases h with h|rfl
   ·exact .inl h
   ·exact .inr (.inl ⟨1000,_,rfl,hpb⟩)
  ·refine⟨rfl,rfl,rfl,by rw[hsz];exact IN _,λk hk hO=>I2 _ _ λe=>hO ?_⟩
   subst e;exact⟨1000,_,rfl,hpb⟩
end Go.Proofs.YtdnmkinmcdihnaaGreatDoor
namespace Go.Proofs.YtdnmkinmcdihnaaGreatDoor
open Go.Proofs.Tryz
open Go.RowKit
variable[Lo]
theorem CB:∀ {a b:AcP},a.Pairwise (·<·)->b.Pairwise (·<·)->(∀x,x∈a↔x∈b)->a=b
 |[],[],_,_,_=>rfl
 |[],y::b,_,_,h=>At ((h y).2 (Aaa ..)) (by simp)
 |x::a,[],_,_,h=>At ((h x).1 (Aaa ..)) (by simp)
 |x::a,y::b,ha,hb,h=>by
  obtain⟨ha1,ha2⟩:=Acx.1 ha;obtain⟨hb1,hb2⟩:=Acx.1 hb
  have e:x=y:=by
   have h1:=(h x).1 (Aaa ..);have h2:=(h y).2 (Aaa ..);rcases Aad.1 h1 with h1|h1
   ·exact h1
   rcases Aad.1 h2 with h2|h2
   ·exact h2.symm
   have:=hb1 x h1;have:=ha1 y h2;omega
  subst e;rw[CB ha2 hb2 λz=>⟨λhz=> ?_,λhz=> ?_⟩]
  ·rcases Aad.1 ((h z).1 (Aac _ hz))with rfl|hz'
   ·have:=ha1 z hz;omega
   ·exact hz'
  ·rcases Aad.1 ((h z).2 (Aac _ hz))with rfl|hz'
   ·have:=hb1 z hz;omega
   ·exact hz'
theorem Q8{l:AcP}{x:Int}:x∈Lib.compact l↔x∈l:=by
 refine⟨Q7,λh=> ?_⟩
 obtain⟨i,hi,rfl⟩:=Aas h
 suffices H:∀i,i<l.length->l.toArray[i]! ∈Lib.compact l by
  have:=H i hi
  rwa[getElem!_pos l.toArray i (by simpa using hi),List.getElem_toArray]at this
 intro i
 induction i with
 |zero=>exact λhi=>OF.2 ⟨0,Aax.2 ⟨Aa3.2 hi,by simp[Lib.keeps]⟩,rfl⟩
 |succ i ih=>
  intro hi
  by_cases hk:Lib.keeps l.toArray (i+1)=true
  ·exact OF.2 ⟨i+1,Aax.2 ⟨Aa3.2 hi,hk⟩,rfl⟩
  ·have e:l.toArray[i+1]! =l.toArray[i]! :=by
    unfold Lib.keeps at hk
    rw[AaC,not_or]at hk
    exact Decidable.not_not.1 hk.2
   rw[e];exact ih (by omega)
theorem Q9{l:AcP}(h:l.Pairwise (·<=·)):(Lib.compact l).Pairwise (·<·):=by
 unfold Lib.compact Lib.compactUpTo;rw[List.pairwise_map];have hr:((List.range l.length).filter (Lib.keeps l.toArray)).Pairwise (·<·):=(List.pairwise_lt_range).filter _;refine hr.imp_of_mem fun {i j} hi hj hij=> ?_
 have hj1:=Aa3.1 (Aax.1 hj).1;have hj2:=(Aax.1 hj).2;unfold Lib.keeps at hj2
 have hj3:=(BY hj2).resolve_left (by omega)
 have le:∀p q,p<=q->q<l.length->l.toArray[p]! <=l.toArray[q]! :=λp q hpq hq=>by
  rw[getElem!_pos l.toArray p (by simp;omega),getElem!_pos l.toArray q (by simpa using hq)]
  by_cases hpe:p=q
  ·subst hpe;exact AaK _
  ·have:=Ace.1 h p q (by omega) hq (by omega)
   simpa using this
 have h1:=le i (j-1) (by omega) (by omega)
 have h2:=le (j-1) j (by omega) hj1
 omega
theorem zkJ(l:AcP):(aW l).Pairwise (·<=·):=by
 have:=List.pairwise_mergeSort (le:=λx y:Int=>decide (x<=y)) (λa b c h1 h2=>by simp at*;omega) (λa b=>by simp;omega) l
 exact this.imp λh=>BY h
theorem Sv{lo:Int}{x:Int}:∀ {n:Nat},x∈Aq lo n↔lo<=x/\x<lo+n
 |0=>by simp[Aq]
 |n+1=>by rw[Aq,Aai,Sv (n:=n),Aab];omega
theorem M5{lo:Int}:∀ {n:Nat},(Aq lo n).Pairwise (·<·)
 |0=> .nil
 |n+1=>by
  rw[Aq,List.pairwise_append];refine⟨M5,List.pairwise_singleton _ _,λa ha b hb=> ?_⟩
  rw[Aab]at hb
  have:=(Sv.1 ha).2;omega
def Fw(c:zF)(v:Int):Bool:=(c.vars.any λx=>decide (x=v))||c.lits.any λl=>decide (l.var=v)
def yI(c:zF)(nv:Nat):AcP:=(Aq 0 nv).filter (Fw c)
theorem zfs{c:zF}{nv:Nat}(hc:vQ c nv):Lib.compact (aW (c.vars++c.lits.map λl=>l.var))=yI c nv:=by
 refine CB (Q9 (zkJ _)) (M5.filter _) λx=> ?_
 rw[Q8,(Acz _ _).mem_iff,yI,Aax,Sv,Fw,AaY,AaI,AaI,Aai,OF];constructor
 ·rintro(h|⟨l,hl,rfl⟩)
  ·exact⟨by have:=hc.vars x h;omega,.inl ⟨x,h,Aaf rfl⟩⟩
  ·exact⟨by have:=(kV.1 (hc.lits l hl)).1;omega,.inr ⟨l,hl,Aaf rfl⟩⟩
 ·rintro⟨_,⟨y,hy,e⟩|⟨l,hl,e⟩⟩
  ·rw[<-BY e];exact .inl hy
  ·exact .inr ⟨l,hl,BY e⟩
theorem bE{c:zF}{nv:Nat}(hc:vQ c nv):vL tT [dC c] (.sl .int (yI c nv)):=
 D3 c λok=>by
  have hm:=hc.many;rw[AL];refine⟨_,M0 c.vars,?_⟩;refine up (I:=λn v a=>Y0 c _ n v a) 0 c.lits.length rfl (Is _) (by omega) (λk a=>a=c.vars++(c.lits.take k).map λl=>l.var) (by simp) λn k a _ hk ha hn=> ?_
  subst ha;rw[Im]
  by_cases h:k<c.lits.length
  ·rw[yD h,yA (t:=.lit) h]
   refine⟨zI h,xC (t:=.int) ?_,hn h _ ?_⟩
   ·rw[It,Aae,Aak]
    show(_+1)*8<=_
    omega
   ·rw[cR _ h,AaG]
  ·have hk':k=c.lits.length:=by omega
   subst hk';rw[zY,Aam];refine⟨_,Oz _,_,Su _,?_⟩;rw[zfs hc]
def Wm(m:zE)(con:Int):Int:=if yY m≠0 then yY m else if con<0\/(m.cons.length:Int)<=con then 5 else 0
def I3(m:zE)(con n:Int):Int:=if Wm m con≠0 then Wm m con else if n≠m.vars.length then 1 else 0
theorem W4(m:zE)(con n:Int):vL lV [dM m,dI con,dI n] (dI (I3 m con n)):=
 G3 m con n λok=>by
  rw[D2];refine zG (sP m) (zC (λe=> ?_) λe=> ?_)
  ·have e:=sN e
   have:Wm m con=yY m:=As e;exact qH (by rw[I3,this,As e])
  have e:=not_not_intro (vM e);refine zC (λf=> ?_) λf=>zC (λg=> ?_) λg=> ?_
  ·have:Wm m con=5:=by rw[Wm,An e,As (.inl (BY f))]
   exact qH (by rw[I3,this];rfl)
  ·have:Wm m con=5:=by rw[Wm,An e,As (.inr (BY g))]
   exact qH (by rw[I3,this];rfl)
  have:Wm m con=0:=by
   rw[Wm,An e,An];rintro(h|h)
   ·exact Aah f h
   ·exact Aah g h
  refine zC (λh=> ?_) λh=> ?_
  ·exact qH (by rw[I3,this,An (by decide),As (by simpa using h)])
  ·exact qH (by rw[I3,this,An (by decide),An (not_not_intro (by simpa using h))])
theorem nD{m:zE}{con:Int}(h:Wm m con=0):Right m/\0<=con/\con<m.cons.length:=by
 unfold Wm at h
 split at h
 ·rename_i h1;exact At h h1
 rename_i h1;split at h
 ·exact At h (by decide)
 rename_i h2;exact⟨mM (Decidable.not_not.1 h1),by omega,by omega⟩
theorem zmb{m:zE}{con n:Int}(h:I3 m con n=0):Wm m con=0/\n=m.vars.length:=by
 unfold I3 at h
 split at h
 ·rename_i h1;exact At h h1
 rename_i h1;split at h
 ·exact At h (by decide)
 rename_i h2;exact⟨Decidable.not_not.1 h1,Decidable.not_not.1 h2⟩
def yV(m:zE)(con:Int):zF:=m.cons.getD con.toNat (Ty.dflt .con)
theorem qJ{m:zE}{con:Int}(h:Wm m con=0):vQ (yV m con) m.vars.length:=by
 obtain⟨h1,h2,h3⟩:=nD h;refine IK h1.vars (h1.con _ ?_);rw[yV,yO _ (show con.toNat<m.cons.length by omega)]
 exact AT _
def zoH(e:Int)(l:AcP):AcP:=if e=0 then l else[]
theorem zsl{e:Int}{l:AcP}(h:e=0):zoH e l=l:=As h
theorem zsm{e:Int}{l:AcP}(h:e≠0):zoH e l=[]:=An h
theorem zft(m:zE)(con:Int):I3 m con m.vars.length=Wm m con:=by
 unfold I3;split
 ·rfl
 ·rename_i h;rw[An (not_not_intro rfl),Decidable.not_not.1 h]
theorem CC(m:zE)(con:Int):vL ot [dM m,dI con] (.tup [.sl .int (zoH (Wm m con) (yI (yV m con) m.vars.length)),dI (Wm m con)]):=
 G0 m con λok=>by
  rw[DZ];refine zG (W4 m con _) ?_;rw[zft];refine zC (λe=> ?_) λe=> ?_
  ·rw[zsm (sN e)]
  ·have e:=vM e
   rw[zsl e,e];exact⟨uW.2 (nD e).2,zG (bE (qJ e)) rfl⟩
theorem I4(n:Int):vL bN [dI n] (dB (!gK n (-50) 50)):=
 L6 n λok=>by rw[Io];exact zG (qA _ _ _) rfl
def Pa(m:zE)(con:Int)(vs:AcP):Int:=if I3 m con vs.length≠0 then I3 m con vs.length else if(vs.any λn=> !gK n (-50) 50)=true then 3 else 0
theorem CD(m:zE)(con:Int)(vs:AcP):vL cS [dM m,dI con,.sl .int vs] (.tup [dB (orB (Pa m con vs) (wO (yV m con) vs)),dI (Pa m con vs)]):=
 G1 m con vs λok=>by
  rw[D0];refine zG (W4 m con _) (zC (λe=> ?_) λe=> ?_)
  ·have e:=sN e
   rw[show Pa m con vs=I3 m con vs.length from As e,zdn e]
  have e:=vM e;obtain⟨e1,e2⟩:=zmb e;refine zG (vR L9 λn _=>I4 n) (zC (λf=> ?_) λf=> ?_)
  ·rw[show Pa m con vs=3 by rw[Pa,An (not_not_intro e),As f]];rfl
  ·have h0:Pa m con vs=0:=by rw[Pa,An (not_not_intro e),An (by rw[f];decide)]
   have hg:Rx vs m.vars.length:=⟨by omega,λn hn=>by have:=AaF.1 f n hn;simp[gK]at this;omega⟩
   rw[h0];exact⟨uW.2 (nD e1).2,zG (gO (qJ e1) hg) rfl⟩
def aG(m:zE)(vs:AcP):Bool:= !((m.vars.zip vs).any λx=> !gK x.2 x.1.lo x.1.hi)&& !m.cons.any λc=> !wO c vs
theorem zhx{m:zE}(hr:Right m){vs:AcP}(hl:vs.length=m.vars.length)(h:((m.vars.zip vs).any λx=> !gK x.2 x.1.lo x.1.hi)=false):Rx vs m.vars.length:=by
 refine⟨hl,λn hn=> ?_⟩
 obtain⟨i,hi,rfl⟩:=Aas hn;have hz:i<(m.vars.zip vs).length:=by rw[AaA];omega
 have:=zl7 h hz;rw[AaL]at this
 have hv:=hr.var _ (AT (show i<m.vars.length by omega))
 simp[gK]at this
 omega
theorem I5{c:zF}{vs:AcP}{nv:Nat}(hc:vQ c nv)(hv:Rx vs nv):vL bO [dC c,.iptr [.sl .int vs] 0] (dB (!wO c vs)):=
 L7 c vs λok=>by rw[Iz];exact zG (gO hc hv) rfl
theorem CE{m:zE}(hr:Right m){vs:AcP}(hl:vs.length=m.vars.length):vL YR [dM m,.sl .int vs] (dB (aG m vs)):=
 G5 m vs λok=>by
  have hv:=hr.vars;have hz:(m.vars.zip vs).length=m.vars.length:=by rw[AaA];omega
  rw[D5];refine zsX (I:=λn v=>ZG m vs _ n v) (m.vars.zip vs) (λx=> !gK x.2 x.1.lo x.1.hi) (by omega) (X:=dB false=dB (aG m vs)) (λe=>by rw[aG,e];rfl) (λn k h hX hn=> ?_) λe n=> ?_
  ·have hk:k<m.vars.length:=by omega
   have hk2:k<vs.length:=by omega
   rw[AaL]at hX hn
   rw[V6,yD hk,yA (t:=.var) hk,yA (t:=.int) hk2];exact⟨zI hk,zI hk2,zG (qA _ _ _) (zC hX hn)⟩
  ·rw[hz,V6,zY]
   refine zG (hU (p:=λc=> !wO c vs) Ka λc hc=>I5 (IK hr.vars (hr.con c hc)) (zhx hr hl e)) ?_
   rw[aG,e];rfl
def zfu(m:zE)(vs:AcP):Int:=if yY m≠0 then yY m else if vs.length≠m.vars.length then 1 else 0
theorem zdu(m:zE)(vs:AcP):vL Xs [dM m,.sl .int vs] (.tup [dB (orB (zfu m vs) (aG m vs)),dI (zfu m vs)]):=
 AK m vs λok=>by
  rw[zda];refine zG (sP m) (zC (λe=> ?_) λe=>zC (λf=> ?_) λf=> ?_)
  ·have e:=sN e
   rw[show zfu m vs=yY m from As e,zdn e]
  ·have e:=not_not_intro (vM e)
   rw[show zfu m vs=1 by rw[zfu,An e,As (by simp at f;omega)]];rfl
  ·have e1:=not_not_intro (vM e)
   have f:vs.length=m.vars.length:=by simp at f;omega
   rw[show zfu m vs=0 by rw[zfu,An e1,An (not_not_intro f)]]
   exact zG (CE (mM (vM e)) f) rfl
end Go.Proofs.YtdnmkinmcdihnaaGreatDoor
namespace Go.Proofs.YtdnmkinmcdihnaaGreatDoor
open Go.Proofs.Tryz
open Go.RowKit
variable[Lo]
def ZS(s:AcQ)(c:AcR):AcP:=(c.filter λl=>decide (0<=Uc s l)).map λl=>l.var
theorem zbi{s:AcQ}{l:zA}{ls:AcR}(h:Uc s l<0):ZS s (l::ls)=ZS s ls:=by
 rw[ZS,List.filter_cons_of_neg (by rw[AaC];omega)];rfl
theorem zbj{s:AcQ}{l:zA}{ls:AcR}(h:¬Uc s l<0):ZS s (l::ls)=l.var::ZS s ls:=by
 rw[ZS,List.filter_cons_of_pos (by rw[AaC];omega)];rfl
theorem I6{s:AcQ}{c:AcR}{v:Int}(hv:0<=v):∀ls:AcR,Q3 s c ls v=if(ZS s ls).all (λu=>decide (u=v))=true then zoG s c v else s
 |[]=>by rw[Q3,An (by omega)];rfl
 |l::ls=>by
  rw[Q3]
  by_cases h:Uc s l<0
  ·rw[As h,zbi h,I6 hv ls]
  ·rw[An h,zbj h,Abr]
   by_cases e:l.var=v
   ·rw[An (λx=>x.2 e.symm),e,I6 hv ls,Aaf rfl,Abf]
   ·rw[As ⟨hv,λx=>e x.symm⟩,Aao e,Abe,An (by decide)]
theorem I7{s:AcQ}{c:AcR}:∀ls:AcR,(∀l∈ls,0<=l.var)->Q3 s c ls (-1)=match ZS s ls with|[]=>jJ s|v::vs=>if vs.all (λu=>decide (u=v))=true then zoG s c v else s
 |[],_=>by rw[Q3,As (by decide)];rfl
 |l::ls,hl=>by
  rw[Q3]
  by_cases h:Uc s l<0
  ·rw[As h,zbi h,I7 ls λl hl'=>hl l (Aac _ hl')]
  ·rw[An h,zbj h,An (by omega),I6 (hl l (Aaa ..)) ls]
theorem zmc{f g:Nat->Int->Bool}{s:AcQ}:rI g (rI f s)=rI (λv n=>f v n&&g v n) s:=by
 rw[rI,rI,rI,List.mapIdx_mapIdx]
 congr 1;funext v l
 show List.filter (g v) (List.filter (f v) l)=_
 rw[List.filter_filter]
 congr 1;funext n;exact Bool.and_comm _ _
end Go.Proofs.YtdnmkinmcdihnaaGreatDoor
namespace Go.Proofs.YtdnmkinmcdihnaaGreatDoor
open Go.Proofs.Tryz
variable[Lo]
def fJ(t s:AcQ):Prop:=t.length=s.length/\∀v:Nat,(t.getD v []).Sublist (s.getD v [])
def VH(vs:AcP)(s:AcQ):Prop:=vs.length=s.length/\∀v:Nat,v<s.length->vs.getD v 0∈s.getD v []
theorem fJ.refl(s:AcQ):fJ s s:=⟨rfl,λv=>List.Sublist.refl _⟩
theorem fJ.trans{a b c:AcQ}(h:fJ a b)(h':fJ b c):fJ a c:=⟨h.1.trans h'.1,λv=>(h.2 v).trans (h'.2 v)⟩
theorem Pb{α:Type}{d:α}{a b:List α}(hl:a.length=b.length)(h:∀v:Nat,a.getD v d=b.getD v d):a=b:=by
 apply AbV hl;intro i h1 h2;have:=h i
 rwa[yO _ h1,yO _ h2]at this
theorem qK{α:Type}{d:α}{a:List α}{v:Nat}(h:a.length<=v):a.getD v d=d:=by
 rw[Aar,Abz h];rfl
theorem fJ.antisymm{a b:AcQ}(h:fJ a b)(h':fJ b a):a=b:=
 Pb h.1 λv=>(h.2 v).eq_of_length (Nat.le_antisymm (h.2 v).length_le (h'.2 v).length_le)
theorem ZT{f:Nat->Int->Bool}{s:AcQ}:fJ (rI f s) s:=⟨sC,λv=>by rw[uZ];exact List.filter_sublist⟩
theorem aX{f:Nat->Int->Bool}{s:AcQ}(h:∀(v:Nat) (n:Int),n∈s.getD v []->f v n=true):rI f s=s:=
 Pb sC λv=>by rw[uZ];exact Acf.2 λn hn=>h v n hn
theorem W5{f g:Nat->Int->Bool}{t s:AcQ}(h:fJ t s)(hf:∀(v:Nat) (n:Int),n∈t.getD v []->f v n=true->g v n=true):fJ (rI f t) (rI g s):=by
 refine⟨by rw[sC,sC];exact h.1,λv=> ?_⟩
 rw[uZ,uZ];refine List.Sublist.trans ?_ ((h.2 v).filter (g v))
 have e:(t.getD v []).filter (f v)=((t.getD v []).filter (g v)).filter (f v):=by
  rw[List.filter_filter];refine Acg λn hn=> ?_
  cases hc:f v n
  ·rfl
  ·rw[hf v n hn hc];rfl
 rw[e];exact List.filter_sublist
theorem tK{s:AcQ}:zZ s=false↔∀v:Nat,v<s.length->s.getD v []≠[]:=by
 rw[zZ,AaF];constructor
 ·intro h v hv e
  rw[yO _ hv]at e
  exact h _ (AT hv) (by rw[e];rfl)
 ·intro h l hl e
  obtain⟨i,hi,rfl⟩:=Aas hl;refine h i hi ?_;rw[yO _ hi];exact AaX.1 (BY e)
theorem CF{s:AcQ}:zZ s=true↔∃v:Nat,v<s.length/\s.getD v []=[]:=by
 constructor
 ·intro h
  apply Classical.byContradiction;intro hn;rw[tK.2 λv hv e=>hn ⟨v,hv,e⟩]at h
  cases h
 ·rintro⟨v,hv,e⟩
  cases h:zZ s
  ·exact At e (tK.1 h v hv)
  ·rfl
theorem fJ.fail{t s:AcQ}(h:fJ t s)(hf:zZ t=false):zZ s=false:=
 tK.2 λv hv e=>tK.1 hf v (by rw[h.1];exact hv) (by have:=h.2 v;rw[e]at this;exact List.sublist_nil.1 this)
theorem fJ.failed{t s:AcQ}(h:fJ t s)(hf:zZ s=true):zZ t=true:=by
 cases e:zZ t
 ·rw[h.fail e]at hf;cases hf
 ·rfl
theorem VH.mono{vs:AcP}{t s:AcQ}(h:VH vs t)(hl:fJ t s):VH vs s:=⟨h.1.trans hl.1,λv hv=>(hl.2 v).subset (h.2 v (by rw[hl.1];exact hv))⟩
theorem VH.fail{vs:AcP}{s:AcQ}(h:VH vs s):zZ s=false:=tK.2 λv hv e=>by
 have:=h.2 v hv;rw[e]at this;cases this
theorem Wn{s:AcQ}:(jJ s).length=s.length:=AbW ..
theorem CG{s:AcQ}{v:Nat}:(jJ s).getD v []=[]:=by
 by_cases h:v<s.length
 ·rw[yO _ (by rw[Wn];exact h)];exact List.getElem_replicate ..
 ·exact qK (by rw[Wn];omega)
theorem Tn{s t:AcQ}(h:s.length=t.length):fJ (jJ s) t:=⟨Wn.trans h,λv=>by rw[CG];exact List.nil_sublist _⟩
theorem lY{s:AcQ}(h:0<s.length):zZ (jJ s)=true:=CF.2 ⟨0,by rw[Wn];exact h,CG⟩
theorem Kw{s t:AcQ}(h:s.length=t.length):jJ s=jJ t:=by rw[jJ,jJ,h]
theorem pick{s:AcQ}(hf:zZ s=false){v:Nat}{n:Int}(hn:n∈s.getD v []):∃vs,VH vs s/\vs.getD v 0=n:=by
 refine⟨s.mapIdx λu l=>if u=v then n else l.headD 0,⟨AbC,λu hu=> ?_⟩,?_⟩
 ·rw[yO _ (show u<(s.mapIdx λu l=>if u=v then n else l.headD 0).length by rw[AbC];exact hu),AbM]
  by_cases e:u=v
  ·rw[As e,e];exact hn
  ·rw[An e,yO _ hu]
   have h1:=tK.1 hf u hu;rw[yO _ hu]at h1
   cases h:s[u]with
   |nil=>exact At h h1
   |cons a l=>exact Aaa ..
 ·have hv:v<s.length:=by
   apply Classical.byContradiction;intro h;rw[qK (by omega)]at hn;cases hn
  rw[yO _ (show v<(s.mapIdx λu l=>if u=v then n else l.headD 0).length by rw[AbC];exact hv),AbM,As rfl]
theorem Pc{s:AcQ}(hf:zZ s=false):∃vs,VH vs s:=by
 cases s with
 |nil=>exact⟨[],rfl,λv hv=>At hv (Aba _)⟩
 |cons a s=>
  have h1:=tK.1 hf 0 (Nat.zero_lt_succ _);cases a with
  |nil=>exact At rfl h1
  |cons x a=>
   obtain⟨vs,h,_⟩:=pick hf (v:=0) (n:=x) (Aaa ..);exact⟨vs,h⟩
theorem rQ{vs:AcP}{u v:Nat}{n:Int}(hv:v<vs.length):(vs.set v n).getD u 0=if u=v then n else vs.getD u 0:=by
 rw[Aar,Aar,AbS]
 by_cases e:u=v
 ·rw[As e.symm,As e,As (by omega)];rfl
 ·rw[An (λx=>e x.symm),An e]
theorem VH.set{vs:AcP}{s:AcQ}(h:VH vs s){v:Nat}{n:Int}(hn:n∈s.getD v [])(hv:v<s.length):VH (vs.set v n) s:=by
 refine⟨by rw[AaT];exact h.1,λu hu=> ?_⟩
 rw[rQ (by rw[h.1];exact hv)]
 split
 ·rename_i e;rw[e];exact hn
 ·exact h.2 u hu
def May(Q:AcP->Bool)(s:AcQ)(v:Nat)(n:Int):Prop:=∃vs,VH vs s/\vs.getD v 0=n/\Q vs=true
open Classical in
noncomputable def mayB (Q:AcP->Bool)(s:AcQ)(v:Nat)(n:Int):Bool:=decide (May Q s v n)
open Classical in
theorem nE{Q:AcP->Bool}{s:AcQ}{v:Nat}{n:Int}:mayB Q s v n=true↔May Q s v n:=by rw[mayB];exact AaC
open Classical in
theorem zhy{Q:AcP->Bool}{s:AcQ}{v:Nat}{n:Int}:mayB Q s v n=false↔¬May Q s v n:=by rw[mayB];exact decide_eq_false_iff_not
theorem May.mono{Q:AcP->Bool}{t s:AcQ}{v:Nat}{n:Int}(h:May Q t v n)(hl:fJ t s):May Q s v n:=let⟨vs,a,b,c⟩:=h;⟨vs,a.mono hl,b,c⟩
abbrev Op:=AcQ->AcQ
structure XE (nv:Nat)(op:Op)(Q:AcP->Bool):Prop where
 fail:∀s,s.length=nv->zZ s=true->op s=s
 none:∀s,s.length=nv->zZ s=false->(¬∃vs,VH vs s/\Q vs=true)->zZ (op s)=true/\fJ (op s) s
 some:∀s,s.length=nv->zZ s=false->(∃vs,VH vs s/\Q vs=true)->op s=rI (mayB Q s) s
section
variable {nv:Nat}{op:Op}{Q:AcP->Bool}{s t:AcQ}
theorem XE.le(h:XE nv op Q)(hl:s.length=nv):fJ (op s) s:=by
 cases hf:zZ s
 ·by_cases he:∃vs,VH vs s/\Q vs=true
  ·rw[h.some s hl hf he];exact ZT
  ·exact(h.none s hl hf he).2
 ·rw[h.fail s hl hf];exact fJ.refl s
theorem XE.len(h:XE nv op Q)(hl:s.length=nv):(op s).length=nv:=(h.le hl).1.trans hl
theorem XE.keeps(h:XE nv op Q)(hl:s.length=nv){vs:AcP}(hv:VH vs s)(hq:Q vs=true):VH vs (op s):=by
 rw[h.some s hl hv.fail ⟨vs,hv,hq⟩];refine⟨hv.1.trans sC.symm,λv hv'=> ?_⟩
 rw[uZ,Aax];rw[sC]at hv'
 exact⟨hv.2 v hv',nE.2 ⟨vs,hv,rfl,hq⟩⟩
theorem XE.nofail(h:XE nv op Q)(hl:s.length=nv):zZ (op s)=false↔∃vs,VH vs s/\Q vs=true:=by
 constructor
 ·intro hf
  have hs:=(h.le hl).fail hf;apply Classical.byContradiction;intro he;rw[(h.none s hl hs he).1]at hf;cases hf
 ·rintro⟨vs,h1,h2⟩
  exact(h.keeps hl h1 h2).fail
theorem XE.mono(h:XE nv op Q)(hl:s.length=nv)(hts:fJ t s)(hf:zZ (op t)=false):fJ (op t) (op s):=by
 have hlt:t.length=nv:=hts.1.trans hl;have he:=(h.nofail hlt).1 hf;obtain⟨vs,h1,h2⟩:=he;rw[h.some t hlt h1.fail ⟨vs,h1,h2⟩,h.some s hl (h1.mono hts).fail ⟨vs,h1.mono hts,h2⟩];exact W5 hts λv n _ hm=>nE.2 ((nE.1 hm).mono hts)
theorem XE.congr{Q':AcP->Bool}(h:XE nv op Q)(hl:s.length=nv){vs:AcP}(hst:op s=s)(hf:zZ s=false)(v:Nat)(n:Int)(hn:n∈s.getD v []):∃us,VH us s/\us.getD v 0=n/\Q us=true:=by
 have:=(h.nofail hl).1 (by rw[hst];exact hf)
 have e:=h.some s hl hf this;rw[hst]at e
 rw[e,uZ,Aax]at hn
 exact nE.1 hn.2
end
def Nu(ops:List Op)(s:AcQ):Prop:=∀op∈ops,op s=s
def CH(nv:Nat)(ops:List Op):Prop:=∀op∈ops,∃Q,XE nv op Q
structure tL (ops:List Op)(s r:AcQ):Prop where
 le:fJ r s
 all:∀t,fJ t s->zZ t=false->Nu ops t->fJ t r
theorem tL.refl(ops:List Op)(s:AcQ):tL ops s s:=⟨fJ.refl s,λt h _ _=>h⟩
theorem tL.step{nv:Nat}{ops:List Op}{s r:AcQ}(ho:CH nv ops)(hl:s.length=nv)(h:tL ops s r){op:Op}(hm:op∈ops):tL ops s (op r):=by
 obtain⟨Q,hq⟩:=ho op hm;have hr:r.length=nv:=h.le.1.trans hl;refine⟨(hq.le hr).trans h.le,λt h1 h2 h3=> ?_⟩
 have e:=h3 op hm;have:=hq.mono hr (h.all t h1 h2 h3) (by rw[e];exact h2)
 rwa[e]at this
structure VI (ops:List Op)(s r:AcQ):Prop where
 le:fJ r s
 all:∀t,fJ t s->zZ t=false->Nu ops t->fJ t r
 out:(zZ r=false/\Nu ops r)\/r=jJ s
theorem VI.unique{ops:List Op}{s r r':AcQ}(hs:0<s.length)(h:VI ops s r)(h':VI ops s r'):r=r':=by
 rcases h.out with⟨h1,h2⟩|h1<;>rcases h'.out with⟨k1,k2⟩|k1
 ·exact(h'.all r h.le h1 h2).antisymm (h.all r' h'.le k1 k2)
 ·have:=(h'.all r h.le h1 h2).fail h1
  rw[k1,lY hs]at this;cases this
 ·have:=(h.all r' h'.le k1 k2).fail k1
  rw[h1,lY hs]at this;cases this
 ·rw[h1,k1]
theorem tL.stop{ops:List Op}{s r:AcQ}(h:tL ops s r)(hf:zZ r=false)(hst:Nu ops r):VI ops s r:=⟨h.le,h.all,.inl ⟨hf,hst⟩⟩
theorem tL.dead{ops:List Op}{s r:AcQ}(h:tL ops s r)(hf:zZ r=true):VI ops s (jJ s):=
 ⟨Tn rfl,λt h1 h2 h3=>(by have:=(h.all t h1 h2 h3).fail h2;rw[hf]at this;cases this),.inr rfl⟩
theorem tL.trans{ops:List Op}{s r q:AcQ}(h:tL ops s r)(h':VI ops r q):VI ops s q:=
 ⟨h'.le.trans h.le,λt h1 h2 h3=>h'.all t (h.all t h1 h2 h3) h2 h3,h'.out.imp id λe=>e.trans (Kw h.le.1)⟩
def wI(s:AcQ):Nat:=(s.map List.length).sum
theorem I8:∀ {a b:AcQ},a.length=b.length->(∀v:Nat,(a.getD v []).Sublist (b.getD v []))->wI a<=wI b/\(wI a=wI b->a=b)
 |[],[],_,_=>⟨IN _,λ_=>rfl⟩
 |x::a,y::b,hl,h=>by
  have h0:x.Sublist y:=h 0;obtain⟨i1,i2⟩:=I8 (a:=a) (b:=b) (by simpa using hl) λv=>h (v+1)
  have e1:wI (x::a)=x.length+wI a:=rfl;have e2:wI (y::b)=y.length+wI b:=rfl;have:=h0.length_le;refine⟨by omega,λe=> ?_⟩
  rw[h0.eq_of_length (by omega),i2 (by omega)]
 |[],_::_,hl,_=>by simp at hl
 |_::_,[],hl,_=>by simp at hl
theorem fJ.size{t s:AcQ}(h:fJ t s):wI t<=wI s:=(I8 h.1 h.2).1
theorem fJ.size_lt{t s:AcQ}(h:fJ t s)(hn:t≠s):wI t<wI s:=Nat.lt_of_le_of_ne h.size λe=>hn ((I8 h.1 h.2).2 e)
theorem zhz{nv:Nat}{ops:List Op}(ho:CH nv ops):∀(k:Nat) (s:AcQ),s.length=nv->wI s<=k->∃r,VI ops s r:=by
 intro k
 induction k with
 |zero=>
  intro s hl hk;cases hf:zZ s
  ·by_cases hst:Nu ops s
   ·exact⟨s,(tL.refl ops s).stop hf hst⟩
   ·refine At (λop hm=> ?_) hst
    obtain⟨Q,hq⟩:=ho op hm;apply Classical.byContradiction;intro hn;have:=(hq.le hl).size_lt hn;omega
  ·exact⟨_,(tL.refl ops s).dead hf⟩
 |succ k ih=>
  intro s hl hk;cases hf:zZ s
  ·by_cases hst:Nu ops s
   ·exact⟨s,(tL.refl ops s).stop hf hst⟩
   ·obtain⟨op,hm,hn⟩:∃op,op∈ops/\op s≠s:=by
     apply Classical.byContradiction;intro h;exact hst λop hm=>Classical.byContradiction λhn=>h ⟨op,hm,hn⟩
    obtain⟨Q,hq⟩:=ho op hm;have:=(hq.le hl).size_lt hn;obtain⟨r,hr⟩:=ih (op s) (hq.len hl) (by omega)
    exact⟨r,((tL.refl ops s).step ho hl hm).trans hr⟩
  ·exact⟨_,(tL.refl ops s).dead hf⟩
open Classical in
noncomputable def zoI (ops:List Op)(s:AcQ):AcQ:=if h:∃r,VI ops s r then Classical.choose h else s
theorem zmd{nv:Nat}{ops:List Op}{s:AcQ}(ho:CH nv ops)(hl:s.length=nv):VI ops s (zoI ops s):=by
 have h:=zhz ho _ s hl (IN _);rw[zoI,dif_pos h];exact Ach h
theorem zrf{ops:List Op}{s r:AcQ}(hs:0<s.length)(h:VI ops s r):zoI ops s=r:=by
 have h':∃r,VI ops s r:=⟨r,h⟩;rw[zoI,dif_pos h'];exact(Ach h').unique hs h
section
variable {nv:Nat}{ops:List Op}{s t r:AcQ}
theorem zme{vs:AcP}(h:VH vs s):fJ (vs.map λn=>[n]) s:=by
 refine⟨by rw[Aae];exact h.1,λv=> ?_⟩
 by_cases hv:v<s.length
 ·rw[yO _ (show v<(vs.map λn=>[n]).length by rw[Aae,h.1];exact hv),Acd,List.singleton_sublist]
  have:=h.2 v hv
  rwa[yO _ (show v<vs.length by rw[h.1];exact hv)]at this
 ·rw[qK (by rw[Aae,h.1];omega)];exact List.nil_sublist _
theorem To(vs:AcP):VH vs (vs.map λn=>[n]):=⟨by rw[Aae],λv hv=>by
 rw[yO _ hv,Acd,Aab,yO]⟩
theorem XE.single{op:Op}{Q:AcP->Bool}(h:XE nv op Q){vs:AcP}(hl:vs.length=nv)(hq:Q vs=true):op (vs.map λn=>[n])=vs.map λn=>[n]:=by
 have hs:(vs.map λn=>[n]).length=nv:=by rw[Aae];exact hl
 rw[h.some _ hs (To vs).fail ⟨vs,To vs,hq⟩];refine aX λv n hn=>nE.2 ⟨vs,To vs,?_,hq⟩
 by_cases hv:v<vs.length
 ·rw[yO _ (show v<(vs.map λn=>[n]).length by rw[Aae];exact hv),Acd,Aab]at hn
  rw[yO _ hv,hn]
 ·rw[qK (by rw[Aae];omega)]at hn;cases hn
theorem VI.keeps(h:VI ops s r)(hl:s.length=nv){vs:AcP}(hv:VH vs s)(hq:∀op∈ops,∃Q,XE nv op Q/\Q vs=true):VH vs r:=by
 have h1:=h.all (vs.map λn=>[n]) (zme hv) (To vs).fail λop hm=>by
  obtain⟨Q,h1,h2⟩:=hq op hm;exact h1.single (hv.1.trans hl) h2
 exact(To vs).mono h1
theorem VI.mono{ops':List Op}{s' r':AcQ}(hs:0<s.length)(h:VI ops s r)(h':VI ops' s' r')(hle:fJ s s')(hsub:∀op∈ops',op∈ops):fJ r r':=by
 rcases h.out with⟨h1,h2⟩|h1
 ·exact h'.all r (h.le.trans hle) h1 λop hm=>h2 op (hsub op hm)
 ·rw[h1];exact Tn (hle.1.trans h'.le.1.symm)
theorem VI.failed(h:VI ops s r)(hf:zZ s=true):r=jJ s:=by
 rcases h.out with⟨h1,_⟩|h1
 ·have:=h.le.fail h1;rw[hf]at this;cases this
 ·exact h1
end
end Go.Proofs.YtdnmkinmcdihnaaGreatDoor
namespace Go.Proofs.YtdnmkinmcdihnaaGreatDoor
open Go.Proofs.Tryz
variable[Lo]
theorem I9{α:Type}{p q:α->Bool}:∀ {l:List α},(∀x∈l,p x=q x)->l.any p=l.any q
 |[],_=>rfl
 |x::l,h=>by rw[Abb,Abb,h x (Aaa ..),I9 λy hy=>h y (Aac _ hy)]
theorem zkK{c:zF}{v:Int}(h:v∈c.vars):Fw c v=true:=by
 rw[Fw,AaY];exact .inl (AaI.2 ⟨v,h,Aaf rfl⟩)
theorem zkL{c:zF}{l:zA}(h:l∈c.lits):Fw c l.var=true:=by
 rw[Fw,AaY];exact .inr (AaI.2 ⟨l,h,Aaf rfl⟩)
theorem zoJ{c:zF}{v:Int}(h:Fw c v=true):v∈c.vars\/∃l∈c.lits,l.var=v:=by
 rw[Fw,AaY,AaI,AaI]at h
 rcases h with⟨x,hx,e⟩|⟨l,hl,e⟩
 ·rw[<-BY e];exact .inl hx
 ·exact .inr ⟨l,hl,BY e⟩
theorem zfv{c:zF}{nv:Nat}(hc:vQ c nv){vs us:AcP}(h:∀v:Nat,v<nv->Fw c v=true->vs.getD v 0=us.getD v 0):sD c vs=sD c us:=by
 unfold sD;refine Ab3 λv hv=> ?_
 have h1:=hc.vars v hv;refine h v.toNat (by omega) ?_
 rw[Abj h1.1];exact zkK hv
theorem jK{c:zF}{nv:Nat}(hc:vQ c nv){vs us:AcP}(h:∀v:Nat,v<nv->Fw c v=true->vs.getD v 0=us.getD v 0):wO c vs=wO c us:=by
 have h1:=zfv hc h
 have h2:∀l∈c.lits,holdsL l (vs.getD l.var.toNat 0)=holdsL l (us.getD l.var.toNat 0):=λl hl=>by
  have h1:=(kV.1 (hc.lits l hl)).1;rw[h l.var.toNat (by omega) (by rw[Abj h1.1];exact zkL hl)]
 have h3:(c.lits.any λl=>holdsL l (vs.getD l.var.toNat 0))=c.lits.any λl=>holdsL l (us.getD l.var.toNat 0):=I9 h2
 have h4:((c.lits.take 1).any λl=>holdsL l (vs.getD l.var.toNat 0))=(c.lits.take 1).any λl=>holdsL l (us.getD l.var.toNat 0):=I9 λl hl=>h2 l (Abp hl)
 unfold wO;rw[h1,h3,h4]
theorem XF{f g:Nat->Int->Bool}{s:AcQ}(h:∀(v:Nat) (n:Int),n∈s.getD v []->f v n=g v n):rI f s=rI g s:=
 Pb (d:=[]) (by rw[sC,sC]) λv=>by rw[uZ,uZ];exact Acg λn hn=>h v n hn
theorem zbk{c:zF}{nv:Nat}(h:yI c nv=[]){v:Nat}(hv:v<nv):Fw c v=false:=by
 cases e:Fw c v
 ·rfl
 ·have:(v:Int)∈yI c nv:=Aax.2 ⟨Sv.2 (by omega),e⟩
  rw[h]at this;cases this
theorem mF{c:zF}{nv:Nat}{v:Int}:v∈yI c nv↔(0<=v/\v<nv)/\Fw c v=true:=by
 rw[yI,Aax,Sv];constructor
 ·rintro⟨h1,h2⟩;exact⟨by omega,h2⟩
 ·rintro⟨h1,h2⟩;exact⟨by omega,h2⟩
noncomputable def yP (c:zF)(s:AcQ):AcQ:=
 if zZ s=true then s else if yI c s.length=[]then(if wO c []=true then s else jJ s)else rI (λv n=> !Fw c v||mayB (wO c) s v n) s
theorem Ts{c:zF}{nv:Nat}(hc:vQ c nv)(h0:0<nv):XE nv (yP c) (wO c):=by
 refine⟨λs hl hf=>As hf,λs hl hf he=> ?_,λs hl hf he=> ?_⟩
 ·rw[yP,An (by rw[hf];decide)]
  by_cases hs:yI c s.length=[]
  ·rw[As hs,An]
   ·exact⟨lY (by omega),Tn rfl⟩
   ·intro ht
    obtain⟨vs,hv⟩:=Pc hf;refine he ⟨vs,hv,?_⟩;rw[<-ht];exact jK hc λv h1 h2=>by rw[hl]at hs;rw[zbk hs h1]at h2;cases h2
  ·rw[An hs]
   refine⟨?_,ZT⟩;obtain⟨v,hv⟩:=Aci _ hs;obtain⟨h1,h2⟩:=mF.1 hv;refine CF.2 ⟨v.toNat,by rw[sC];omega,?_⟩
   rw[uZ,List.filter_eq_nil_iff];intro n hn hx;rw[Abj h1.1,h2,AbA,AbB]at hx
   obtain⟨vs,a,_,b⟩:=nE.1 hx;exact he ⟨vs,a,b⟩
 ·obtain⟨vs,hv,ht⟩:=he
  rw[yP,An (by rw[hf];decide)]
  by_cases hs:yI c s.length=[]
  ·have hn:∀us,wO c us=true:=λus=>by
    rw[<-ht];exact jK hc λv h1 h2=>by rw[hl]at hs;rw[zbk hs h1]at h2;cases h2
   rw[As hs,As (hn []),aX λv n hm=>nE.2 ?_]
   obtain⟨us,h1,h2⟩:=pick hf hm;exact⟨us,h1,h2,hn us⟩
  ·rw[An hs]
   refine XF λv n hn=> ?_
   cases hi:Fw c v
   ·rw[Ab9,Bool.true_or]
    have hvl:v<s.length:=by
     apply Classical.byContradiction;intro h;rw[qK (by omega)]at hn;cases hn
    refine(nE.2 ⟨vs.set v n,hv.set hn hvl,?_,?_⟩).symm
    ·rw[rQ (by rw[hv.1];exact hvl),As rfl]
    ·rw[<-ht]
     refine jK hc λu h1 h2=> ?_
     rw[rQ (by rw[hv.1];exact hvl),An]
     intro e;rw[e,hi]at h2;cases h2
   ·rw[AbA,AbB]
theorem M6{s:AcQ}{l:zA}:0<=Uc s l↔∃n∈s.getD l.var.toNat [],holdsL l n=true:=by
 rw[Uc,zbf];split
 ·rename_i h
  rw[AaF]at h
  exact⟨λe=>At e (by decide),λ⟨n,h1,h2⟩=>At h2 (h n h1)⟩
 ·rename_i h
  rw[Bool.not_eq_false,AaI]at h
  refine⟨λ_=>h,λ_=> ?_⟩
  split<;>decide
theorem CI{s:AcQ}{c:AcR}{v:Int}:v∈ZS s c↔∃l∈c,l.var=v/\∃n∈s.getD v.toNat [],holdsL l n=true:=by
 rw[ZS,OF];constructor
 ·rintro⟨l,hl,rfl⟩
  obtain⟨h1,h2⟩:=Aax.1 hl;exact⟨l,h1,rfl,M6.1 (BY h2)⟩
 ·rintro⟨l,h1,rfl,h2⟩
  exact⟨l,Aax.2 ⟨h1,Aaf (M6.2 h2)⟩,rfl⟩
theorem iB{c:AcR}{vs:AcP}:fa c vs=true↔∃l∈c,holdsL l (vs.getD l.var.toNat 0)=true:=AaI
theorem Pd{c:AcR}{v n:Int}:atC c v n=true↔∃l∈c,l.var=v/\holdsL l n=true:=by
 rw[atC,AaI];constructor
 ·rintro⟨l,hl,h⟩
  split at h
  ·rename_i e;exact⟨l,hl,e,h⟩
  ·cases h
 ·rintro⟨l,hl,h1,h2⟩
  exact⟨l,hl,by rw[As h1];exact h2⟩
theorem zkM{c:AcR}{nv:Nat}(hc:∀l∈c,0<=l.var/\l.var<nv)(h0:0<nv):XE nv (λs=>cB s c) (fa c):=by
 have lives:∀ {s:AcQ} {vs:AcP} {l:zA},s.length=nv->VH vs s->l∈c->holdsL l (vs.getD l.var.toNat 0)=true->l.var∈ZS s c:=fun {s vs l} hl hv hm hh=>by
  have:=hc l hm;exact CI.2 ⟨l,hm,rfl,_,hv.2 _ (by omega),hh⟩
 have holds:∀ {s:AcQ},s.length=nv->zZ s=false->∀ {v:Int},v∈ZS s c->∀(w:Nat) (n:Int),n∈s.getD w []->(w:Int)≠v->∃vs,VH vs s/\vs.getD w 0=n/\fa c vs=true:=fun {s} hl hf {v} hm w n hn hw=>by
  obtain⟨l,h1,h2,k,h3,h4⟩:=CI.1 hm;have hr:=hc l h1;obtain⟨vs,hv,e⟩:=pick hf h3
  have hwl:w<s.length:=by
   apply Classical.byContradiction;intro h;rw[qK (by omega)]at hn;cases hn
  refine⟨vs.set w n,hv.set hn hwl,by rw[rQ (by rw[hv.1];exact hwl),As rfl],iB.2 ⟨l,h1,?_⟩⟩
  rw[rQ (by rw[hv.1];exact hwl),An (by omega),h2,e];exact h4
 refine⟨λs hl hf=>As hf,λs hl hf he=> ?_,λs hl hf he=> ?_⟩
 ·have hL:ZS s c=[]:=by
   cases h:ZS s c with
   |nil=>rfl
   |cons v vs=>
    obtain⟨l,h1,h2,n,h3,h4⟩:=CI.1 (show v∈ZS s c by rw[h];exact Aaa ..)
    obtain⟨us,hu,e⟩:=pick hf h3;exact At ⟨us,hu,iB.2 ⟨l,h1,by rw[h2,e];exact h4⟩⟩ he
  show zZ (cB s c)=true/\fJ (cB s c) s
  rw[cB,An (by rw[hf];decide),I7 c λl hl=>(hc l hl).1,hL]
  exact⟨lY (by omega),Tn rfl⟩
 ·obtain⟨vs,hv,ht⟩:=he
  obtain⟨l,hlm,hlh⟩:=iB.1 ht;have hlv:=lives hl hv hlm hlh;show cB s c=_
  rw[cB,An (by rw[hf];decide),I7 c λl hl=>(hc l hl).1]
  cases hL:ZS s c with
  |nil=>rw[hL]at hlv;cases hlv
  |cons u us=>
   have hum:u∈ZS s c:=by rw[hL];exact Aaa ..
   by_cases ha:us.all (λx=>decide (x=u))=true
   ·simp only[ha,if_true]
    have hall:∀x∈ZS s c,x=u:=λx hx=>by
     rw[hL]at hx
     rcases Aad.1 hx with h|h
     ·exact h
     ·exact BY (Aav.1 ha x h)
    refine XF λw n hn=> ?_
    by_cases hw:(w:Int)=u
    ·rw[Aaf hw,AbA,AbB]
     apply AaO.2;rw[Pd,nE];constructor
     ·rintro⟨l,h1,h2,h3⟩
      obtain⟨x,hx,e⟩:=pick hf hn;refine⟨x,hx,e,iB.2 ⟨l,h1,?_⟩⟩;rw[show l.var.toNat=w by omega,e];exact h3
     ·rintro⟨x,hx,e,hh⟩
      obtain⟨l,h1,h2⟩:=iB.1 hh;have h3:=hall _ (lives hl hx h1 h2);refine⟨l,h1,h3,?_⟩
      rwa[show l.var.toNat=w by omega,e]at h2
    ·rw[Aao hw,Ab9,Bool.true_or]
     exact(nE.2 (holds hl hf hum w n hn hw)).symm
   ·simp only[ha]
    have hx:∃x∈us,x≠u:=by
     apply Classical.byContradiction;intro hn;exact ha (Aav.2 λx hx=>Aaf (Classical.byContradiction λe=>hn ⟨x,hx,e⟩))
    obtain⟨x,hx,hxu⟩:=hx;have hxm:x∈ZS s c:=by rw[hL];exact Aac _ hx
    refine(aX λw n hn=>nE.2 ?_).symm
    by_cases hw:(w:Int)=u
    ·exact holds hl hf hxm w n hn (by omega)
    ·exact holds hl hf hum w n hn hw
end Go.Proofs.YtdnmkinmcdihnaaGreatDoor
namespace Go.Proofs.YtdnmkinmcdihnaaGreatDoor
open Go.Proofs.Tryz
variable[Lo]
def Kx(kt:Ty):Prop:=∀a b:kt.den,MA kt a b=true↔a=b
theorem gC:Kx .int:=λa b=>AaC
theorem OA:Kx (.pr .int .int):=λa b=>by
 show(decide (a.1=b.1)&&decide (a.2=b.2))=true↔a=b
 rw[If,AaC,AaC];exact⟨λh=>Prod.ext h.1 h.2,λh=>by rw[h];exact⟨rfl,rfl⟩⟩
section
variable {kt vt:Ty}
theorem CJ(hk:Kx kt)(x:kt.den):MA kt x x=true:=(hk x x).2 rfl
theorem zhA(hk:Kx kt){x y:kt.den}(h:x≠y):MA kt x y=false:=by
 cases e:MA kt x y
 ·rfl
 ·exact At ((hk x y).1 e) h
theorem Tt(hk:Kx kt){x:kt.den}{y:vt.den}:∀es:List (kt.den×vt.den),sU kt vt x (rB kt vt x y es)=some y
 |[]=>by rw[rB,sU,CJ hk];rfl
 |(a,b)::es=>by
  rw[rB];cases e:MA kt x a
  ·rw[Aag,sU,e,Aag];exact Tt hk es
  ·rw[AI,sU,e];rfl
theorem W6(hk:Kx kt){x z:kt.den}{y:vt.den}(h:z≠x):∀es:List (kt.den×vt.den),sU kt vt z (rB kt vt x y es)=sU kt vt z es
 |[]=>by rw[rB,sU,sU,zhA hk h];rfl
 |(a,b)::es=>by
  rw[rB];cases e:MA kt x a
  ·rw[Aag,sU,sU]
   cases MA kt z a
   ·rw[Aag,Aag];exact W6 hk h es
   ·rfl
  ·have:=(hk x a).1 e
   subst this;rw[AI,sU,sU,zhA hk h,Aag,Aag]
theorem Ky(hk:Kx kt){x:kt.den}{y:vt.den}:∀es:List (kt.den×vt.den),sU kt vt x es=none->rB kt vt x y es=es++[(x,y)]
 |[],_=>rfl
 |(a,b)::es,h=>by
  rw[sU]at h
  cases e:MA kt x a
  ·rw[e,Aag]at h
   rw[rB,e,Aag,Ky hk es h];rfl
  ·rw[e]at h;cases h
theorem zbl(hk:Kx kt){x:kt.den}{y k:vt.den}:∀es:List (kt.den×vt.den),sU kt vt x es=some k->(k::(rB kt vt x y es).map Prod.snd).Perm (y::es.map Prod.snd)
 |[],h=>by cases h
 |(a,b)::es,h=>by
  rw[sU]at h
  cases e:MA kt x a
  ·rw[e,Aag]at h
   rw[rB,e,Aag,Aaq,Aaq];exact(List.Perm.swap _ _ _).trans (((zbl hk es h).cons b).trans (List.Perm.swap _ _ _))
  ·rw[e,AI]at h
   obtain rfl:b=k:=by cases h;rfl
   rw[rB,e,AI,Aaq,Aaq];exact List.Perm.swap _ _ _
theorem Kz(hk:Kx kt){x:kt.den}{y k:vt.den}:∀es:List (kt.den×vt.den),sU kt vt x es=some k->(rB kt vt x y es).map Prod.fst=es.map Prod.fst
 |[],h=>by cases h
 |(a,b)::es,h=>by
  rw[sU]at h
  cases e:MA kt x a
  ·rw[e,Aag]at h
   rw[rB,e,Aag,Aaq,Aaq,Kz hk es h]
  ·rw[rB,e,AI];rfl
theorem XG(hk:Kx kt){x:kt.den}:∀es:List (kt.den×vt.den),x∈es.map Prod.fst↔∃k,sU kt vt x es=some k
 |[]=>⟨λh=>(by cases h),λ⟨k,h⟩=>(by cases h)⟩
 |(a,b)::es=>by
  rw[Aaq,Aad,sU];cases e:MA kt x a
  ·rw[Aag]
   have hn:x≠a:=λh=>by subst h;rw[CJ hk]at e;cases e
   exact⟨λh=>(XG hk es).1 (h.resolve_left hn),λh=> .inr ((XG hk es).2 h)⟩
  ·exact⟨λ_=>⟨b,rfl⟩,λ_=> .inl ((hk x a).1 e)⟩
theorem zfw(hk:Kx kt){x:kt.den}{k:vt.den}:∀es:List (kt.den×vt.den),sU kt vt x es=some k->(x,k)∈es
 |[],h=>by cases h
 |(a,b)::es,h=>by
  rw[sU]at h
  cases e:MA kt x a
  ·rw[e,Aag]at h;exact Aac _ (zfw hk es h)
  ·rw[e,AI]at h
   obtain rfl:b=k:=by cases h;rfl
   rw[(hk x a).1 e];exact Aaa ..
theorem zdv(hk:Kx kt){x:kt.den}{k:vt.den}:∀es:List (kt.den×vt.den),(es.map Prod.fst).Nodup->(x,k)∈es->sU kt vt x es=some k
 |[],_,h=>by cases h
 |(a,b)::es,hn,h=>by
  rw[Aaq,AaM]at hn
  rw[sU];rcases Aad.1 h with h|h
  ·obtain⟨rfl,rfl⟩:x=a/\k=b:=by cases h;exact⟨rfl,rfl⟩
   rw[CJ hk];rfl
  ·rw[zhA hk λe=>hn.1 (by rw[<-e];exact OF.2 ⟨_,h,rfl⟩),Aag]
   exact zdv hk es hn.2 h
theorem CK(hk:Kx kt){x:kt.den}{y:vt.den}{es:List (kt.den×vt.den)}(h:(es.map Prod.fst).Nodup):((rB kt vt x y es).map Prod.fst).Nodup:=by
 cases e:sU kt vt x es with
 |none=>
  rw[Ky hk es e,AaV,AcA];refine⟨h,by simp,λa ha b hb=> ?_⟩
  rintro rfl;obtain rfl:a=x:=by simpa using hb
  obtain⟨k,h2⟩:=(XG hk es).1 ha;rw[e]at h2;cases h2
 |some k=>rw[Kz hk es e];exact h
theorem CL(hk:Kx kt){x z:kt.den}{y:vt.den}(es:List (kt.den×vt.den)):z∈(rB kt vt x y es).map Prod.fst↔z=x\/z∈es.map Prod.fst:=by
 rw[XG hk,XG hk];constructor
 ·rintro⟨k,h⟩
  apply Classical.byContradiction;intro hn;rw[W6 hk (λe=>hn (.inl e))]at h
  exact hn (.inr ⟨k,h⟩)
 ·rintro(rfl|⟨k,h⟩)
  ·exact⟨y,Tt hk es⟩
  ·apply Classical.byContradiction
   intro hn
   by_cases e:z=x
   ·subst e;exact hn ⟨y,Tt hk es⟩
   ·exact hn ⟨k,by rw[W6 hk e];exact h⟩
end
theorem zoK{α:Type}{t:List α}{k:Nat}(d:α)(h:k<t.length):t.getD k d=t[k]:=by rw[Aar,Aal h];rfl
theorem zkN{lo:Int}:∀ {n:Nat} {k:Int},k∈(List.range n).map (λi:Nat=>lo+i)↔lo<=k/\k<lo+n:=fun {n k}=>by
 rw[OF];constructor
 ·rintro⟨i,hi,rfl⟩;have:=Aa3.1 hi;omega
 ·rintro⟨h1,h2⟩;exact⟨(k-lo).toNat,Aa3.2 (by omega),by omega⟩
theorem YE{l:AcP}(h:l.Nodup){lo:Int}{n:Nat}(hl:∀x∈l,lo<=x/\x<lo+n):l.length<=n:=by
 have:=h.length_le_of_subset (l₂:=(List.range n).map λi:Nat=>lo+i) λx hx=>zkN.2 (hl x hx)
 rwa[Aae,List.length_range]at this
theorem OB{α β:Type}{f:α->β}:∀ {l:List α},l.Nodup->(∀a∈l,∀b∈l,f a=f b->a=b)->(l.map f).Nodup
 |[],_,_=>Abx
 |a::l,h,hi=>by
  rw[AaM]at h
  rw[Aaq,AaM];refine⟨λhm=> ?_,OB h.2 λx hx y hy=>hi x (Aac _ hx) y (Aac _ hy)⟩
  obtain⟨b,hb,e⟩:=OF.1 hm;exact h.1 (by rw[<-hi b (Aac _ hb) a (Aaa ..) e];exact hb)
theorem zbm{α:Type}{p q:α->Bool}:∀ {l:List α},(∀x∈l,p x=true->q x=true)->(∃x∈l,q x=true/\p x=false)->l.countP p<l.countP q
 |[],_,⟨x,h,_⟩=>by cases h
 |a::l,h1,⟨x,hx,h2,h3⟩=>by
  have hle:l.countP p<=l.countP q:=List.countP_mono_left λx hx=>h1 x (Aac _ hx)
  rw[List.countP_cons,List.countP_cons];rcases Aad.1 hx with rfl|hx
  ·rw[As h2,An (by rw[h3];decide)];omega
  ·have:=zbm (λx hx=>h1 x (Aac _ hx)) ⟨x,hx,h2,h3⟩
   by_cases hp:p a=true
   ·rw[As hp,As (h1 a (Aaa ..) hp)];omega
   ·rw[An hp];split<;>omega
abbrev KV:=List (Int×Int)
section
variable {x y z k:Int}{m:KV}
theorem zdw:sU .int .int x (rB .int .int x y m)=some y:=Tt (kt:=.int) (vt:=.int) gC m
theorem Pe(h:z≠x):sU .int .int z (rB .int .int x y m)=sU .int .int z m:=W6 (kt:=.int) (vt:=.int) gC h m
theorem ztd(h:sU .int .int x m=none):rB .int .int x y m=m++[(x,y)]:=Ky (kt:=.int) (vt:=.int) gC m h
theorem zrg(h:sU .int .int x m=some k):(k::(rB .int .int x y m).map Prod.snd).Perm (y::m.map Prod.snd):=zbl (kt:=.int) (vt:=.int) gC m h
theorem zte:x∈m.map Prod.fst↔∃k,sU .int .int x m=some k:=XG (kt:=.int) (vt:=.int) gC m
theorem ztf(h:sU .int .int x m=some k):(x,k)∈m:=zfw (kt:=.int) (vt:=.int) gC m h
theorem zsn(h:(m.map Prod.fst).Nodup)(h2:(x,k)∈m):sU .int .int x m=some k:=zdv (kt:=.int) (vt:=.int) gC m h h2
theorem zfx(h:(m.map Prod.fst).Nodup):((rB .int .int x y m).map Prod.fst).Nodup:=CK (kt:=.int) (vt:=.int) gC h
theorem ztg:z∈(rB .int .int x y m).map Prod.fst↔z=x\/z∈m.map Prod.fst:=CL (kt:=.int) (vt:=.int) gC m
end
def Mc(turn:Int)(a:KV)(n:Int):Prop:=kC .int .int n a=turn
structure ZU (turn:Int)(a:KV):Prop where
 nodup:(a.map Prod.fst).Nodup
 near:∀n∈a.map Prod.fst,-50<=n/\n<=50
 turns:∀n t:Int,sU .int .int n a=some t->1<=t/\t<=turn
structure Ha (rows:AcQ)(m:KV):Prop where
 nodup:(m.map Prod.fst).Nodup
 ok:∀n k:Int,sU .int .int n m=some k->0<=k/\k<rows.length/\n∈rows.getD k.toNat []
def left(turn:Int)(a:KV):Nat:=((List.range 101).map λi:Nat=>(-50:Int)+i).countP λn=> !decide (kC .int .int n a=turn)
instance {turn n:Int}{a:KV}:Decidable (Mc turn a n):=inferInstanceAs (Decidable (_=_))
theorem Wo{turn n:Int}(a:KV):Mc turn (rB .int .int n turn a) n:=by rw[Mc,kC,zdw];rfl
theorem A7{turn n x:Int}{a:KV}(h:x≠n):Mc turn (rB .int .int n turn a) x↔Mc turn a x:=by rw[Mc,Mc,kC,kC,Pe h]
theorem Eu{turn n x:Int}{a:KV}:Mc turn (rB .int .int n turn a) x↔x=n\/Mc turn a x:=by
 by_cases h:x=n
 ·subst h;exact⟨λ_=> .inl rfl,λ_=>Wo a⟩
 ·rw[A7 h];exact⟨.inr,λh'=>h'.resolve_left h⟩
theorem zmf{turn:Int}{a b:KV}(h:∀n,Mc turn a n->Mc turn b n):left turn b<=left turn a:=
 List.countP_mono_left λn _ hn=>by
  simp only[Aa1,decide_eq_false_iff_not]at hn⊢
  exact λe=>hn (h n e)
theorem zrh{turn n:Int}{a:KV}(hn: -50<=n/\n<=50)(h:¬Mc turn a n):left turn (rB .int .int n turn a)<left turn a:=
 zbm (λx _ hx=>by
  simp only[Aa1,decide_eq_false_iff_not]at hx⊢
  exact λe=>hx (Eu.2 (.inr e))) ⟨n,zkN.2 (by omega),by simp only[Aa1,decide_eq_false_iff_not];exact h,by simp only[Bool.not_eq_false',AaC];exact Wo a⟩
theorem ZU.put{turn n:Int}{a:KV}(h:ZU turn a)(hn: -50<=n/\n<=50)(ht:1<=turn):ZU turn (rB .int .int n turn a):=by
 refine⟨zfx h.nodup,λx hx=> ?_,λx t hx=> ?_⟩
 ·rcases ztg.1 hx with rfl|hx
  ·exact hn
  ·exact h.near x hx
 ·by_cases e:x=n
  ·subst e;rw[zdw]at hx;cases hx;omega
  ·rw[Pe e]at hx;exact h.turns x t hx
theorem ZU.length{turn:Int}{a:KV}(h:ZU turn a):a.length<=101:=by
 have:=YE h.nodup (lo:= -50) (n:=101) λx hx=>by have:=h.near x hx;omega
 rwa[Aae]at this
theorem ZU.none{turn:Int}{a:KV}(h:ZU turn a)(h0:0<=turn){t:Int}(ht:turn<t)(n:Int):¬Mc t a n:=by
 rw[Mc,kC];cases e:sU .int .int n a with
 |none=>show¬(0:Int)=t;omega
 |some k=>
  intro(hh:(k:Int)=t);have h2:=h.turns n k e;rw[hh]at h2;omega
theorem ZU.later{turn:Int}{a:KV}(h:ZU turn a){t:Int}(ht:turn<=t):ZU t a:=⟨h.nodup,h.near,λn k e=>by have:=h.turns n k e;omega⟩
theorem zmg:ZU 0 []:=⟨Abx,λn hn=>(by cases hn),λn t h=>(by cases h)⟩
theorem zoL{rows:AcQ}:Ha rows []:=⟨Abx,λn t h=>(by cases h)⟩
theorem Ha.length{rows:AcQ}{m:KV}(h:Ha rows m)(hr:∀r∈rows,∀n∈r,-50<=n/\n<=50):m.length<=101:=by
 have:=YE h.nodup (lo:= -50) (n:=101) λx hx=>by
  obtain⟨k,hk⟩:=zte.1 hx;obtain⟨h1,h2,h3⟩:=h.ok x k hk;have hl:k.toNat<rows.length:=by omega
  rw[zoK _ hl]at h3
  have:=hr _ (AT hl) x h3;omega
 rwa[Aae]at this
structure CM (rows:AcQ)(turn i:Int)(m a m' a':KV):Prop where
 ok:Ha rows m'
 ask:ZU turn a'
 vals:(m'.map Prod.snd).Perm (i::m.map Prod.snd)
 same:∀n:Int,Mc turn a n->sU .int .int n m'=sU .int .int n m
structure KA (rows:AcQ)(turn:Int)(m a:KV)(pre:AcP)(a':KV):Prop where
 ask:ZU turn a'
 more:∀n,Mc turn a n->Mc turn a' n
 row:∀n∈pre,Mc turn a' n
 closed:∀n,Mc turn a' n->Mc turn a n\/∃k:Int,sU .int .int n m=some k/\∀x∈rows.getD k.toNat [],Mc turn a' x
section
variable {rows:AcQ}{turn i k n:Int}{m a a1 a2 m2:KV}{pre:AcP}
theorem Ha.put(h:Ha rows m)(hi:0<=i/\i<rows.length/\n∈rows.getD i.toNat []):Ha rows (rB .int .int n i m):=by
 refine⟨zfx h.nodup,λx k hx=> ?_⟩
 by_cases e:x=n
 ·subst e;rw[zdw]at hx;cases hx;exact hi
 ·rw[Pe e]at hx;exact h.ok x k hx
theorem zhB(h:Ha rows m)(ha:ZU turn a)(ht:1<=turn)(hn: -50<=n/\n<=50)(hi:0<=i/\i<rows.length/\n∈rows.getD i.toNat [])(hna:¬Mc turn a n)(hm:sU .int .int n m=none):CM rows turn i m a (rB .int .int n i m) (rB .int .int n turn a):=by
 refine⟨h.put hi,ha.put hn ht,?_,λx hx=>Pe (λe=>hna (by rw[<-e];exact hx))⟩
 rw[ztd hm,AaV];exact List.perm_append_comm
theorem zhC(hi:0<=i/\i<rows.length/\n∈rows.getD i.toNat [])(hna:¬Mc turn a n)(hm:sU .int .int n m=some k)(h:CM rows turn k m (rB .int .int n turn a) m2 a2):CM rows turn i m a (rB .int .int n i m2) a2:=by
 have h2:sU .int .int n m2=some k:=(h.same n (Wo a)).trans hm;refine⟨h.ok.put hi,h.ask,?_,λx hx=> ?_⟩
 ·have h3:=zrg (y:=i) h2
  exact List.Perm.cons_inv (h3.trans ((h.vals.cons i).trans (List.Perm.swap _ _ _)))
 ·rw[Pe (λe=>hna (by rw[<-e];exact hx))]
  exact h.same x (Eu.2 (.inr hx))
theorem CM.start(h:CM rows turn i m a1 m2 a2)(hm:∀n,Mc turn a n->Mc turn a1 n):CM rows turn i m a m2 a2:=⟨h.ok,h.ask,h.vals,λn hn=>h.same n (hm n hn)⟩
theorem zbn(h:ZU turn a):KA rows turn m a [] a:=⟨h,λ_ h=>h,λn hn=>(by cases hn),λ_ h=> .inl h⟩
theorem zhD(h:KA rows turn m a pre a1)(hn:Mc turn a1 n):KA rows turn m a (pre++[n]) a1:=⟨h.ask,h.more,λx hx=>by
 rcases Aai.1 hx with hx|hx
 ·exact h.row x hx
 ·rw[Aab.1 hx];exact hn,h.closed⟩
theorem zhE(h:KA rows turn m a pre a1)(hm:sU .int .int n m=some k)(h2:KA rows turn m (rB .int .int n turn a1) (rows.getD k.toNat []) a2):KA rows turn m a (pre++[n]) a2:=by
 have up:∀x,Mc turn a1 x->Mc turn a2 x:=λx hx=>h2.more x (Eu.2 (.inr hx))
 refine⟨h2.ask,λx hx=>up x (h.more x hx),λx hx=> ?_,λx hx=> ?_⟩
 ·rcases Aai.1 hx with hx|hx
  ·exact up x (h.row x hx)
  ·rw[Aab.1 hx];exact h2.more n (Wo a1)
 ·rcases h2.closed x hx with h3|h3
  ·rcases Eu.1 h3 with rfl|h3
   ·exact .inr ⟨k,hm,h2.row⟩
   ·rcases h.closed x h3 with h4|⟨j,h4,h5⟩
    ·exact .inl h4
    ·exact .inr ⟨j,h4,λy hy=>up y (h5 y hy)⟩
  ·exact .inr h3
def upI(n:Nat):AcP:=(List.range n).map λi:Nat=>(i:Int)
theorem zkO{n:Nat}{k:Int}:k∈upI n↔0<=k/\k<n:=by
 rw[upI,OF];constructor
 ·rintro⟨i,hi,rfl⟩;have:=Aa3.1 hi;omega
 ·rintro⟨h1,h2⟩;exact⟨k.toNat,Aa3.2 (by omega),by omega⟩
theorem zmh(n:Nat):(upI n).Nodup:=OB List.nodup_range λa _ b _ h=>Int.ofNat.inj h
theorem zoM{n:Nat}:((n:Int)::upI n).Perm (upI (n+1)):=by
 rw[upI,upI,List.range_succ,AaV];exact List.perm_append_comm (l₁:=[(n:Int)])
theorem zhF{i:Nat}{a':KV}(h:Ha rows m)(hv:(m.map Prod.snd).Perm (upI i))(ha:∀n,¬Mc turn a n)(ht:KA rows turn m a (rows.getD i []) a'):¬∃σ:Nat->Int,(∀j,j<=i->σ j∈rows.getD j [])/\∀j k,j<=i->k<=i->σ j=σ k->j=k:=by
 rintro⟨σ,h1,h2⟩
 let E:=m.filter λe=>decide (Mc turn a' e.1)
 have hE:∀n,Mc turn a' n->n∈E.map Prod.fst:=λn hn=>by
  rcases ht.closed n hn with h3|⟨k,h3,_⟩
  ·exact At h3 (ha n)
  ·exact OF.2 ⟨(n,k),Aax.2 ⟨ztf h3,Aaf hn⟩,rfl⟩
 have hX:∀x∈E.map Prod.snd,0<=x/\x<(i:Int):=λx hx=>by
  obtain⟨e,he,rfl⟩:=OF.1 hx;exact zkO.1 (hv.subset (OF.2 ⟨e,(Aax.1 he).1,rfl⟩))
 have nd:((i:Int)::E.map Prod.snd).Nodup:=by
  rw[AaM];refine⟨λhx=>by have:=hX _ hx;omega,?_⟩
  exact((hv.nodup_iff.2 (zmh i))).sublist (List.filter_sublist.map Prod.snd)
 have nd2:(((i:Int)::E.map Prod.snd).map λx=>σ x.toNat).Nodup:=OB nd λx hx y hy e=>by
  have b:∀z,z∈((i:Int)::E.map Prod.snd)->0<=z/\z<=(i:Int):=λz hz=>by
   rcases Aad.1 hz with rfl|hz
   ·omega
   ·have:=hX z hz;omega
  have:=h2 x.toNat y.toNat (by have:=b x hx;omega) (by have:=b y hy;omega) e
  have:=b x hx;have:=b y hy;omega
 have sub:(((i:Int)::E.map Prod.snd).map λx=>σ x.toNat)⊆E.map Prod.fst:=λy hy=>by
  obtain⟨x,hx,rfl⟩:=OF.1 hy;refine hE _ ?_;rcases Aad.1 hx with rfl|hx
  ·exact ht.row _ (h1 i (IN _))
  ·have hb:=hX x hx
   obtain⟨e,he,rfl⟩:=OF.1 hx;obtain⟨he1,he2⟩:=Aax.1 he;have he2:=BY he2;rcases ht.closed e.1 he2 with h3|⟨k,h3,h4⟩
   ·exact At h3 (ha _)
   ·have:=zsn h.nodup (show(e.1,e.2)∈m from he1)
    rw[h3]at this
    obtain rfl:k=e.2:=by cases this;rfl
    exact h4 _ (h1 _ (by omega))
 have:=nd2.length_le_of_subset sub;simp only[Aae,By]at this
 omega
theorem zoN(h:Ha rows m)(hv:(m.map Prod.snd).Perm (upI rows.length)):∃σ:Nat->Int,(∀j,j<rows.length->σ j∈rows.getD j [])/\∀j k,j<rows.length->k<rows.length->σ j=σ k->j=k:=by
 have hx:∀j:Nat,j<rows.length->∃n,sU .int .int n m=some (j:Int):=λj hj=>by
  obtain⟨e,he,h1⟩:=OF.1 (hv.symm.subset (zkO.2 (show 0<=(j:Int)/\(j:Int)<rows.length by omega)))
  exact⟨e.1,zsn h.nodup (by rw[<-h1];exact he)⟩
 refine⟨λj=>if hj:j<rows.length then Classical.choose (hx j hj)else 0,λj hj=> ?_,λj k hj hk e=> ?_⟩
 ·simp only[dif_pos hj]
  have:=h.ok _ _ (Ach (hx j hj));simpa using this.2.2
 ·simp only[dif_pos hj,dif_pos hk]at e
  have h1:=Ach (hx j hj);have h2:=Ach (hx k hk);rw[e,h2]at h1
  have:(k:Int)=j:=by injection h1
  omega
end
end Go.Proofs.YtdnmkinmcdihnaaGreatDoor
namespace Go.Proofs.YtdnmkinmcdihnaaGreatDoor
open Go.Proofs.Tryz
variable[Lo]
theorem CN{α:Type}(p:α->Bool):∀(xs:List α) (i:Int),(Nl p xs i= -1/\∀x∈xs,p x=false)\/∃(k:Nat) (h:k<xs.length),Nl p xs i=i+k/\p xs[k]=true/\∀(j:Nat) (hj:j<k),p (xs[j]'(by omega))=false
 |[],i=> .inl ⟨rfl,λx hx=>(by cases hx)⟩
 |x::xs,i=>by
  rw[Nl];cases e:p x
  ·rw[Aag]
   rcases CN p xs (i+1)with⟨h1,h2⟩|⟨k,h,h1,h2,h3⟩
   ·refine .inl ⟨h1,λy hy=> ?_⟩
    rcases Aad.1 hy with rfl|hy
    ·exact e
    ·exact h2 y hy
   ·refine .inr ⟨k+1,by simpa using h,by rw[h1];omega,by simpa using h2,λj hj=> ?_⟩
    cases j with
    |zero=>exact e
    |succ j=>simpa using h3 j (by omega)
  ·exact .inr ⟨0,Nat.zero_lt_succ _,by rw[AI];omega,e,λj hj=>At hj (by omega)⟩
def Wp:Ac0->Int->Int->Ac0
 |[],v,n=>[⟨v,n⟩]
 |t::r,v,n=>if t.v=v then⟨t.v,t.times+n⟩::r else t::Wp r v n
def kY(z:List (Int×Int)):Ac0:=z.foldl (λo x=>Wp o x.1 x.2) []
def UE(f:Int->Int)(ts:Ac0):Int:=(ts.map λt=>t.times*f t.v).sum
theorem CO{f:Int->Int}:UE f []=0:=rfl
theorem lF{f:Int->Int}{t:xL}{ts:Ac0}:UE f (t::ts)=t.times*f t.v+UE f ts:=by rw[UE,Aaq,Acb];rfl
theorem Gv{f:Int->Int}{ts us:Ac0}:UE f (ts++us)=UE f ts+UE f us:=by rw[UE,AaV,List.sum_append];rfl
theorem zbo{f:Int->Int}{v n:Int}:∀ {o:Ac0},UE f (Wp o v n)=UE f o+n*f v
 |[]=>by rw[Wp,lF,CO];simp
 |t::r=>by
  rw[Wp];split
  ·rename_i h
   rw[lF,lF,Int.add_mul,h];omega
  ·rw[lF,lF,zbo];omega
theorem zfy{v n:Int}:∀ {o:Ac0},(∀t∈o,t.v≠v)->Wp o v n=o++[⟨v,n⟩]
 |[],_=>rfl
 |t::r,h=>by
  rw[Wp,An (h t (Aaa ..)),zfy λt ht=>h t (Aac _ ht)];rfl
theorem zfz{v n:Int}:∀ {o:Ac0} {k:Nat} (hk:k<o.length),o[k].v=v->(∀(j:Nat) (hj:j<k),(o[j]'(by omega)).v≠v)->Wp o v n=o.set k ⟨o[k].v,o[k].times+n⟩
 |[],k,hk,_,_=>At hk (Aba _)
 |t::r,0,_,h,_=>by rw[Wp,As (show t.v=v from h)];rfl
 |t::r,k+1,hk,h,hj=>by
  rw[Wp,An (show¬t.v=v from hj 0 (Nat.zero_lt_succ _)),List.set_cons_succ,zfz (k:=k) (by simpa using hk) (by simpa using h) λj h2=>by simpa using hj (j+1) (by omega)]
  rfl
theorem CP{v n x:Int}:∀ {o:Ac0},(x∈(Wp o v n).map xL.v)↔x∈o.map xL.v\/x=v
 |[]=>by rw[Wp];simp
 |t::r=>by
  rw[Wp];split
  ·rename_i h
   simp only[Aaq,Aad];exact⟨λe=> .inl e,λe=>e.elim id λe=> .inl (e.trans h.symm)⟩
  ·simp only[Aaq,Aad]
   rw[CP];exact⟨λe=>e.elim (λe=> .inl (.inl e)) λe=>e.elim (λe=> .inl (.inr e)) .inr,λe=>e.elim (λe=>e.elim .inl λe=> .inr (.inl e)) λe=> .inr (.inr e)⟩
theorem CQ{v n:Int}:∀ {o:Ac0},(o.map xL.v).Nodup->((Wp o v n).map xL.v).Nodup
 |[],_=>by rw[Wp];simp
 |t::r,h=>by
  rw[Wp];rw[Aaq,AaM]at h
  split
  ·rw[Aaq,AaM];exact h
  ·rename_i hn
   rw[Aaq,AaM];refine⟨λhm=> ?_,CQ h.2⟩
   rcases CP.1 hm with hm|hm
   ·exact h.1 hm
   ·exact hn hm
theorem zfA{v n:Int}:∀ {o:Ac0},(Wp o v n).length<=o.length+1
 |[]=>by rw[Wp];simp
 |t::r=>by
  rw[Wp];split
  ·simp
  ·have:=zfA (v:=v) (n:=n) (o:=r);simp;omega
theorem CR{v n:Int}(hn: -1000<=n/\n<=1000){b:Nat}:∀ {o:Ac0},(∀t∈o,-1000*(b:Int)<=t.times/\t.times<=1000*(b:Int))->∀t∈Wp o v n,-1000*((b+1:Nat):Int)<=t.times/\t.times<=1000*((b+1:Nat):Int)
 |[],_,t,ht=>by
  rw[Wp,Aab]at ht
  subst ht;show -1000*((b+1:Nat):Int)<=n/\n<=1000*((b+1:Nat):Int)
  omega
 |u::r,h,t,ht=>by
  rw[Wp]at ht
  split at ht
  ·rcases Aad.1 ht with rfl|ht
   ·have:=h u (Aaa ..)
    show -1000*((b+1:Nat):Int)<=u.times+n/\u.times+n<=1000*((b+1:Nat):Int)
    omega
   ·have:=h t (Aac _ ht);omega
  ·rcases Aad.1 ht with rfl|ht
   ·have:=h _ (Aaa ..);omega
   ·exact CR hn (λt ht=>h t (Aac _ ht)) t ht
theorem aY{z:List (Int×Int)}{x:Int×Int}:kY (z++[x])=Wp (kY z) x.1 x.2:=by rw[kY,Abg];rfl
theorem gP{α:Type}{C:List α->Prop}(h0:C [])(h1:∀l a,C l->C (l++[a]))(l:List α):C l:=by
 have:∀n (l:List α),l.length=n->C l:=λn=>by
  induction n with
  |zero=>exact λl hl=>by rw[AaX.1 hl];exact h0
  |succ n ih=>
   intro l hl;have hn:l≠[]:=λe=>by rw[e]at hl;cases hl
   rw[<-List.dropLast_concat_getLast hn];exact h1 _ _ (ih _ (by rw[List.length_dropLast];omega))
 exact this _ l rfl
theorem Sw(z:List (Int×Int)):((kY z).map xL.v).Nodup:=
 gP (C:=λz=>((kY z).map xL.v).Nodup) Abx (λl a h=>by rw[aY];exact CQ h) z
theorem CS{x:Int}(z:List (Int×Int)):(x∈(kY z).map xL.v)↔x∈z.map Prod.fst:=
 gP (C:=λz=>(x∈(kY z).map xL.v)↔x∈z.map Prod.fst) (by simp[kY]) (λl a h=>by rw[aY,CP,h,AaV,Aai];simp) z
theorem CT(z:List (Int×Int)):(kY z).length<=z.length:=
 gP (C:=λz=>(kY z).length<=z.length) (IN _) (λl a h=>by rw[aY,It];exact Aan zfA (Nat.succ_le_succ h)) z
theorem KB(z:List (Int×Int)):(∀x∈z,-1000<=x.2/\x.2<=1000)->∀t∈kY z,-1000*(z.length:Int)<=t.times/\t.times<=1000*(z.length:Int):=
 gP (C:=λz=>(∀x∈z,-1000<=x.2/\x.2<=1000)->∀t∈kY z,-1000*(z.length:Int)<=t.times/\t.times<=1000*(z.length:Int)) (λ_ t ht=>(by cases ht)) (λl a h hz t ht=>by
  rw[aY]at ht
  rw[It];exact CR (hz a (by simp)) (h λx hx=>hz x (by simp[hx])) t ht) z
theorem zhG{f:Int->Int}(z:List (Int×Int)):UE f (kY z)=(z.map λx=>x.2*f x.1).sum:=
 gP (C:=λz=>UE f (kY z)=(z.map λx=>x.2*f x.1).sum) rfl (λl a h=>by rw[aY,zbo,h,AaV,List.sum_append];simp) z
def vH(c:zF):Ac0:=kY (c.vars.zip c.consts)
theorem zbp:∀(ks vs:AcP) (f:Int->Int),Nm (ks.zip (vs.map f))=((vs.zip ks).map λx=>x.2*f x.1).sum
 |[],vs,f=>by cases vs<;>rfl
 |k::ks,[],f=>rfl
 |k::ks,v::vs,f=>by
  rw[Aaq,Aca,Aca,Nm,Aaq,Acb,Aaq,Acb,<-zbp ks vs f];rfl
theorem zhH{c:zF}{vs:AcP}:UE (λv=>vs.getD v.toNat 0) (vH c)=Nm (c.consts.zip (sD c vs)):=by
 rw[vH,zhG,sD,zbp]
def Gw(ts:Ac0)(s:AcQ)(x:Int):Prop:=∃vs,VH vs s/\x=UE (λv=>vs.getD v.toNat 0) ts
theorem zmi{s:AcQ}(hf:zZ s=false){x:Int}:Gw [] s x↔x=0:=by
 constructor
 ·rintro⟨vs,_,h⟩;exact h
 ·intro h
  obtain⟨vs,hv⟩:=Pc hf;exact⟨vs,hv,h⟩
theorem CU{f g:Int->Int}:∀ {ts:Ac0},(∀t∈ts,f t.v=g t.v)->UE f ts=UE g ts
 |[],_=>rfl
 |t::ts,h=>by rw[lF,lF,h t (Aaa ..),CU λt ht=>h t (Aac _ ht)]
theorem zfB{ts:Ac0}{vs:AcP}{v n:Int}(hv:0<=v)(hl:v.toNat<vs.length)(hts:∀t∈ts,0<=t.v)(hn:v∉ts.map xL.v):UE (λu=>(vs.set v.toNat n).getD u.toNat 0) ts=UE (λu=>vs.getD u.toNat 0) ts:=
 CU λt ht=>by
  have h1:=hts t ht;rw[rQ hl,An];intro e;exact hn (OF.2 ⟨t,ht,by omega⟩)
theorem zhI{ts:Ac0}{t:xL}{s:AcQ}(ht:0<=t.v)(hl:t.v.toNat<s.length)(hts:∀t∈ts,0<=t.v)(hn:t.v∉ts.map xL.v){x:Int}:Gw (ts++[t]) s x↔∃a,Gw ts s a/\∃n∈s.getD t.v.toNat [],x=a+t.times*n:=by
 constructor
 ·rintro⟨vs,hv,rfl⟩
  refine⟨_,⟨vs,hv,rfl⟩,vs.getD t.v.toNat 0,hv.2 _ hl,?_⟩;rw[Gv,lF,CO,Int.add_zero]
 ·rintro⟨a,⟨vs,hv,rfl⟩,n,hm,rfl⟩
  have hl2:t.v.toNat<vs.length:=by rw[hv.1];exact hl
  refine⟨vs.set t.v.toNat n,hv.set hm hl,?_⟩;rw[Gv,lF,CO,Int.add_zero,zfB ht hl2 hts hn,rQ hl2,As rfl]
def zfC(c:zF)(n:Int):Bool:=if c.kind=1 then decide (n<=c.n)else if c.kind=2 then decide (n=c.n)else !decide (n=c.n)
theorem zbq{c:zF}(h:1<=c.kind/\c.kind<=3){vs:AcP}:wO c vs=zfC c (UE (λv=>vs.getD v.toNat 0) (vH c)):=by
 rw[zhH,wO,zfC];have:c.kind=1\/c.kind=2\/c.kind=3:=by omega
 rcases this with e|e|e<;>simp[e]
theorem M7{f:Int->Int}:∀ {ts:Ac0} {i:Nat} (hi:i<ts.length),UE f ts=UE f (ts.eraseIdx i)+ts[i].times*f ts[i].v
 |[],i,hi=>At hi (Aba _)
 |t::ts,0,_=>by rw[AcB,lF,Int.add_comm];rfl
 |t::ts,i+1,hi=>by
  rw[AbX,lF,lF,M7 (i:=i) (by simpa using hi)]
  simp only[List.getElem_cons_succ];omega
theorem Gx{α:Type}:∀ {l:List α} {i:Nat} (hi:i<l.length),l.Nodup->l[i]∉l.eraseIdx i
 |[],i,hi,_=>At hi (Aba _)
 |a::l,0,_,h=>by rw[AcB];exact(AaM.1 h).1
 |a::l,i+1,hi,h=>by
  rw[AaM]at h
  rw[AbX,Aad];simp only[List.getElem_cons_succ];rintro(e|e)
  ·exact h.1 (e▸AT (by simpa using hi))
  ·exact Gx (by simpa using hi) h.2 e
theorem zbr{α β:Type}{f:α->β}:∀ {l:List α} {i:Nat},(l.map f).eraseIdx i=(l.eraseIdx i).map f
 |[],_=>rfl
 |a::l,0=>rfl
 |a::l,i+1=>by rw[Aaq,AbX,AbX,Aaq,zbr]
theorem M8{c:zF}{nv:Nat}(hc:vQ c nv):∀t∈vH c,0<=t.v/\t.v<nv:=λt ht=>by
 have:=(CS (x:=t.v) (c.vars.zip c.consts)).1 (OF.2 ⟨t,ht,rfl⟩);obtain⟨x,hx,e⟩:=OF.1 this;exact hc.vars t.v (by rw[<-e];exact(Acc hx).1)
theorem zri{c:zF}{s:AcQ}(hc:vQ c s.length)(hk:c.kind<=3){i:Nat}(hi:i<(vH c).length){n:Int}(hn:n∈s.getD (vH c)[i].v.toNat []):
  May (wO c) s (vH c)[i].v.toNat n↔∃a,Gw ((vH c).eraseIdx i) s a/\zfC c (a+(vH c)[i].times*n)=true:=by
 have hk1:=hc.kind.1;have hv:=M8 hc;have h1:=hv _ (AT hi);have hl:(vH c)[i].v.toNat<s.length:=by omega
 have hne:(vH c)[i].v∉((vH c).eraseIdx i).map xL.v:=by
  have:=Gx (l:=(vH c).map xL.v) (i:=i) (by rw[Aae];exact hi) (Sw _)
  rw[Acd]at this
  rwa[zbr]at this
 constructor
 ·rintro⟨vs,h2,h3,h4⟩
  refine⟨_,⟨vs,h2,rfl⟩,?_⟩;rw[zbq ⟨hk1,hk⟩,M7 hi,h3]at h4
  exact h4
 ·rintro⟨a,⟨vs,h2,rfl⟩,h4⟩
  have hl2:(vH c)[i].v.toNat<vs.length:=by rw[h2.1];exact hl
  refine⟨vs.set (vH c)[i].v.toNat n,h2.set hn hl,by rw[rQ hl2,As rfl],?_⟩
  rw[zbq ⟨hk1,hk⟩,M7 hi,zfB h1.1 hl2 (λt ht=>(hv t (List.mem_of_mem_eraseIdx ht)).1) hne,rQ hl2,As rfl]
  exact h4
theorem zhJ{α:Type}{l:List α}{i k:Nat}(hk:k<l.length):(l.take (k+1)).eraseIdx i=if k=i then(l.take k).eraseIdx i else(l.take k).eraseIdx i++[l[k]]:=by
 have hl:(l.take k).length=k:=by rw[Aak];omega
 rw[<-Aay hk];split
 ·rename_i e
  subst e;rw[List.eraseIdx_append_of_length_le (by omega),hl,AbU,AcB,Aa2,AcI (by omega)]
 ·rename_i e
  by_cases h:k<i
  ·rw[AcI (l:=l.take k) (by omega),AcI (by rw[It,hl];simp;omega)]
  ·rw[List.eraseIdx_append_of_lt_length (by omega)]
def iC(s:AcQ):AcP->AcP->Nat->AcP×Nat
 |[],vs,n=>(vs,n)
 |v::r,vs,n=>iC s r (vs.set v.toNat ((s.getD v.toNat []).getD (n%(s.getD v.toNat []).length) 0)) (n/(s.getD v.toNat []).length)
def zbs(s:AcQ):AcP->Nat
 |[]=>1
 |v::r=>(s.getD v.toNat []).length*zbs s r
theorem Gy{s:AcQ}:∀(r vs:AcP) (n:Nat),(iC s r vs n).1.length=vs.length
 |[],vs,n=>rfl
 |v::r,vs,n=>by rw[iC,Gy r,AaT]
theorem Xc{s:AcQ}{u:Nat}:∀(r vs:AcP) (n:Nat),(∀v∈r,v.toNat≠u)->(iC s r vs n).1.getD u 0=vs.getD u 0
 |[],vs,n,_=>rfl
 |v::r,vs,n,h=>by
  rw[iC,Xc r _ _ λv hv=>h v (Aac _ hv),Aar,List.getElem?_set_ne (h v (Aaa ..)),<-Aar]
theorem CV{s:AcQ}:∀(r vs:AcP) (n:Nat),r.Nodup->(∀v∈r,0<=v/\v.toNat<vs.length/\s.getD v.toNat []≠[])->∀v∈r,(iC s r vs n).1.getD v.toNat 0∈s.getD v.toNat []
 |[],vs,n,_,_,v,hv=>by cases hv
 |u::r,vs,n,hd,h,v,hv=>by
  rw[AaM]at hd
  have hu:=h u (Aaa ..);rw[iC];rcases Aad.1 hv with rfl|hv
  ·rw[Xc r _ _ λw hw=> ?_,rQ hu.2.1,As rfl]
   ·have hp:0<(s.getD v.toNat []).length:=Abh.2 hu.2.2
    have hm:=Nat.mod_lt n hp;rw[yO _ hm];exact AT hm
   ·have h1:=(h w (Aac _ hw)).1
    intro e;exact hd.1 (by rw[show v=w by omega];exact hw)
  ·exact CV r _ _ hd.2 (λw hw=>by rw[AaT];exact h w (Aac _ hw)) v hv
theorem Gz{s:AcQ}{us:AcP}:∀(r:AcP),r.Nodup->∀(vs:AcP),(∀v∈r,0<=v/\v.toNat<vs.length/\us.getD v.toNat 0∈s.getD v.toNat [])->∃n,n<zbs s r/\∀v∈r,(iC s r vs n).1.getD v.toNat 0=us.getD v.toNat 0
 |[],_,vs,_=>⟨0,Nat.one_pos,λv hv=>(by cases hv)⟩
 |u::r,hd,vs,h=>by
  rw[AaM]at hd
  have hu:=h u (Aaa ..);obtain⟨d,hd1,hd2⟩:=Aas hu.2.2;obtain⟨n,hn1,hn2⟩:=Gz r hd.2 (vs.set u.toNat (us.getD u.toNat 0)) λv hv=>by rw[AaT];exact h v (Aac _ hv)
  have hp:0<(s.getD u.toNat []).length:=by omega
  have e1:(d+(s.getD u.toNat []).length*n)%(s.getD u.toNat []).length=d:=by rw[Nat.add_mul_mod_self_left,Nat.mod_eq_of_lt hd1]
  have e2:(d+(s.getD u.toNat []).length*n)/(s.getD u.toNat []).length=n:=by rw[Nat.add_mul_div_left _ _ hp,Nat.div_eq_of_lt hd1,Aat]
  refine⟨d+(s.getD u.toNat []).length*n,?_,λv hv=> ?_⟩
  ·rw[zbs]
   have:(s.getD u.toNat []).length*(n+1)<=(s.getD u.toNat []).length*zbs s r:=Acw _ hn1;rw[Nat.mul_add,Aa9]at this
   omega
  ·rw[iC,e1,e2,yO _ hd1,hd2]
   rcases Aad.1 hv with rfl|hv
   ·rw[Xc r _ _ λw hw=> ?_,rQ hu.2.1,As rfl]
    have h1:=(h w (Aac _ hw)).1;intro e;exact hd.1 (by rw[show v=w by omega];exact hw)
   ·exact hn2 v hv
end Go.Proofs.YtdnmkinmcdihnaaGreatDoor
namespace Go.Proofs.YtdnmkinmcdihnaaGreatDoor
open Go.Proofs.Tryz
variable[Lo]
def KC(c:zF)(s:AcQ)(all r vs:AcP)(x:Int×Int):Prop:=
 ∃us:AcP,us.length=vs.length/\(∀u:Nat,(∀v∈r,v.toNat≠u)->us.getD u 0=vs.getD u 0)/\(∀v∈r,us.getD v.toNat 0∈s.getD v.toNat [])/\wO c us=true/\∃v∈all,x=(v,us.getD v.toNat 0)
section
variable {c:zF}{s:AcQ}{all r vs ws:AcP}{x:Int×Int}
theorem zoO:KC c s all [] vs x↔wO c vs=true/\∃v∈all,x=(v,vs.getD v.toNat 0):=by
 constructor
 ·rintro⟨us,h1,h2,_,h3,h4⟩
  obtain rfl:us=vs:=Pb (d:=0) h1 λu=>h2 u λv hv=>by cases hv
  exact⟨h3,h4⟩
 ·rintro⟨h3,h4⟩
  exact⟨vs,rfl,λ_ _=>rfl,λv hv=>(by cases hv),h3,h4⟩
theorem zhK(hl:ws.length=vs.length)(h:∀u:Nat,(∀v∈r,v.toNat≠u)->ws.getD u 0=vs.getD u 0):KC c s all r ws x↔KC c s all r vs x:=by
 constructor
 ·rintro⟨us,h1,h2,h3⟩;exact⟨us,h1.trans hl,λu hu=>(h2 u hu).trans (h u hu),h3⟩
 ·rintro⟨us,h1,h2,h3⟩;exact⟨us,h1.trans hl.symm,λu hu=>(h2 u hu).trans (h u hu).symm,h3⟩
theorem zmj{v:Int}(hv:0<=v)(hl:v.toNat<vs.length)(hr:∀u∈r,0<=u)(hn:v∉r):KC c s all (v::r) vs x↔∃n∈s.getD v.toNat [],KC c s all r (vs.set v.toNat n) x:=by
 have hne:∀u∈r,u.toNat≠v.toNat:=λu hu e=>hn (by have:=hr u hu;rw[show v=u by omega];exact hu)
 constructor
 ·rintro⟨us,h1,h2,h3,h4⟩
  refine⟨_,h3 v (Aaa ..),us,by rw[AaT];exact h1,λu hu=> ?_,λu hu=>h3 u (Aac _ hu),h4⟩
  rw[rQ hl];split
  ·rename_i e;rw[e]
  ·rename_i e
   refine h2 u λw hw=> ?_
   rcases Aad.1 hw with rfl|hw
   ·exact λe2=>e e2.symm
   ·exact hu w hw
 ·rintro⟨n,hn2,us,h1,h2,h3,h4⟩
  have e:us.getD v.toNat 0=n:=by rw[h2 v.toNat hne,rQ hl,As rfl]
  refine⟨us,by rw[AaT]at h1;exact h1,λu hu=> ?_,λu hu=> ?_,h4⟩
  ·rw[h2 u λw hw=>hu w (Aac _ hw),rQ hl,An λe=>hu v (Aaa ..) e.symm]
  ·rcases Aad.1 hu with rfl|hu
   ·rw[e];exact hn2
   ·exact h3 u hu
end
theorem Sx{n u:Nat}{f:Nat->Int}(h:u<n):((List.range n).map f).getD u 0=f u:=by
 rw[yO _ (show u<((List.range n).map f).length by simpa using h)];simp
theorem lN{c:zF}{nv:Nat}:∀v∈yI c nv,0<=v/\v<nv:=λv hv=>(mF.1 hv).1
theorem zfD{c:zF}{s:AcQ}(hc:vQ c s.length)(hf:zZ s=false){ws:AcP}(hw:ws.length=s.length){v n:Int}:
  KC c s (yI c s.length) (yI c s.length) ws (v,n)↔v∈yI c s.length/\May (wO c) s v.toNat n:=by
 constructor
 ·rintro⟨us,h1,h2,h3,h4,u,hu,e⟩
  obtain⟨rfl,rfl⟩:v=u/\n=us.getD u.toNat 0:=by cases e;exact⟨rfl,rfl⟩
  refine⟨hu,?_⟩;obtain⟨ps,hp⟩:=Pc hf;have hg:∀u:Nat,u<s.length->((List.range s.length).map λu:Nat=>if(u:Int)∈yI c s.length then us.getD u 0 else ps.getD u 0).getD u 0=if(u:Int)∈yI c s.length then us.getD u 0 else ps.getD u 0:=λu hu=>Sx hu
  have hv:=lN v hu;refine⟨(List.range s.length).map λu:Nat=>if(u:Int)∈yI c s.length then us.getD u 0 else ps.getD u 0,⟨by simp,λu hu=> ?_⟩,?_,?_⟩
  ·rw[hg u hu]
   split
   ·rename_i e;simpa using h3 u e
   ·exact hp.2 u hu
  ·rw[hg _ (by omega),As (by rw[Abj hv.1];exact hu)]
  ·rw[<-h4]
   exact jK hc λw h5 h6=>by rw[hg w h5,As (mF.2 ⟨by omega,h6⟩)]
 ·rintro⟨hv,vs,h1,h2,h3⟩
  have hg:∀u:Nat,u<s.length->((List.range s.length).map λu:Nat=>if(u:Int)∈yI c s.length then vs.getD u 0 else ws.getD u 0).getD u 0=if(u:Int)∈yI c s.length then vs.getD u 0 else ws.getD u 0:=λu hu=>Sx hu
  have hv2:=lN v hv;refine⟨(List.range s.length).map λu:Nat=>if(u:Int)∈yI c s.length then vs.getD u 0 else ws.getD u 0,by simp[hw],λu hu=> ?_,λu hu=> ?_,?_,v,hv,?_⟩
  ·by_cases hl:u<s.length
   ·rw[hg u hl,An λe=>hu _ e (by omega)]
   ·rw[qK (by simp;omega),qK (by omega)]
  ·have:=lN u hu
   rw[hg _ (by omega),As (by rw[Abj this.1];exact hu)]
   exact h1.2 _ (by omega)
  ·rw[<-h3]
   exact jK hc λw h5 h6=>by rw[hg w h5,As (mF.2 ⟨by omega,h6⟩)]
  ·rw[hg _ (by omega),As (by rw[Abj hv2.1];exact hv),h2]
theorem Hb(lo:Int):∀n,(Aq lo n).Nodup
 |0=>Abx
 |n+1=>by
  rw[Aq,AcA];refine⟨Hb lo n,by simp,λa ha b hb=> ?_⟩
  have h1:=Sv.1 ha;rw[Aab]at hb
  omega
theorem Ue{c:zF}{nv:Nat}:(yI c nv).Nodup:=(Hb 0 nv).sublist List.filter_sublist
theorem zfE{c:zF}{s:AcQ}(hc:vQ c s.length)(hf:zZ s=false){ws:AcP}(hw:ws.length=s.length){x:Int×Int}:
  KC c s (yI c s.length) (yI c s.length) ws x↔∃n,n<zbs s (yI c s.length)/\wO c (iC s (yI c s.length) ws n).1=true/\∃v∈yI c s.length,x=(v,(iC s (yI c s.length) ws n).1.getD v.toNat 0):=by
 have hne:∀v∈yI c s.length,0<=v/\v.toNat<ws.length/\s.getD v.toNat []≠[]:=λv hv=>by
  have h:=lN v hv;exact⟨h.1,by omega,tK.1 hf _ (by omega)⟩
 constructor
 ·rintro⟨us,h1,h2,h3,h4,v,hv,rfl⟩
  obtain⟨n,hn1,hn2⟩:=Gz (s:=s) (us:=us) _ Ue ws λv hv=>⟨(hne v hv).1,(hne v hv).2.1,h3 v hv⟩
  refine⟨n,hn1,?_,v,hv,by rw[hn2 v hv]⟩
  rw[<-h4];refine jK hc λu h5 h6=> ?_
  have:=hn2 (u:Int) (mF.2 ⟨by omega,h6⟩)
  simpa using this
 ·rintro⟨n,hn1,hn2,v,hv,rfl⟩
  exact⟨_,Gy _ _ _,λu hu=>Xc _ _ _ hu,λv hv=>CV _ _ _ Ue hne v hv,hn2,v,hv,rfl⟩
end Go.Proofs.YtdnmkinmcdihnaaGreatDoor
namespace Go.Proofs.YtdnmkinmcdihnaaGreatDoor
open Go.Proofs.Tryz
open Go.RowKit
set_option maxRecDepth 100000
variable[Lo]
def KD:xF:= {own:=[5,7],live:=[],n:=44}
theorem A8(f:zF)(a:AcQ)(R:xI):FD KD Tryz.f109 [dC f,dS a] R=
 (yJ zV [dS a] .bool λs=>
 zT s
 (yJ tI [dS a] (.list (.list .int)) λt=>
 R (dS t))
 (yJ tT [dC f] (.list .int) λg=>
 zT (decide ((g.length:Int)=0))
 (yJ nK [dC f,.sl .int ([]:AcP)] .bool λu=>
 zT u
 (yJ tI [dS a] (.list (.list .int)) λv=>
 R (dS v))
 (yJ yQ [dS a] (.list (.list .int)) λw=>
 R (dS w)))
 (zT (decide (f.kind<=3))
 (∃h:Ac0,∃i:List (Int×(AcP)),∃b:zF,xT lD [dC f,dS a] [] (.clo tY none [.iptr [.sl .term h] 0,.iptr [.mp .int (.list .int) i] 0,.iptr (gL b []) 0]) []/\
 yJ xP [dS a,.clo vJ none [.iptr [.sl .int g] 0,.iptr [.clo tY none [.iptr [.sl .term h] 0,.iptr [.mp .int (.list .int) i] 0,.iptr (gL b []) 0]] 0]] (.list (.list .int)) λx=>
 R (dS x))
 (zT (decide (f.kind=4))
 (yJ kS [.sl .int f.vars] .bool λy=>
 zT (!y)
 (∃j:AcQ,∃c:zF,xT lE [dC f,dS a] [] (.clo tZ none [.iptr [dS j] 0,.iptr (gL c []) 0]) []/\
 yJ xP [dS a,.clo vJ none [.iptr [.sl .int g] 0,.iptr [.clo tZ none [.iptr [dS j] 0,.iptr (gL c []) 0]] 0]] (.list (.list .int)) λz=>
 R (dS z))
 (∃d:zF,∃k:AcQ,∃l:AcP,∃m:AcP,∃n:List ((Int×Int)×Int),xT qT [dC f,dS a] [] (.clo yH none [.iptr [.iptr (gL d [dS k,.sl .int l,.sl .int m,.mp (.pr .int .int) .int n]) 0] 0]) []/\
 yJ xP [dS a,.clo vJ none [.iptr [.sl .int g] 0,.iptr [.clo yH none [.iptr [.iptr (gL d [dS k,.sl .int l,.sl .int m,.mp (.pr .int .int) .int n]) 0] 0]] 0]] (.list (.list .int)) λaa=>
 R (dS aa)))
 (∃e:zF,∃o:AcQ,∃p:AcP,∃q:AcP,∃r:List ((Int×Int)×Int),xT qT [dC f,dS a] [] (.clo yH none [.iptr [.iptr (gL e [dS o,.sl .int p,.sl .int q,.mp (.pr .int .int) .int r]) 0] 0]) []/\
 yJ xP [dS a,.clo vJ none [.iptr [.sl .int g] 0,.iptr [.clo yH none [.iptr [.iptr (gL e [dS o,.sl .int p,.sl .int q,.mp (.pr .int .int) .int r]) 0] 0]] 0]] (.list (.list .int)) λab=>
 R (dS ab)))))):=by kernel_rfl
theorem CW(a:zF)(b:AcQ):wU KD Tryz.f109 rX [dC a,dS b]:=wX func109 (by kernel_rfl) ntmps109 rfl
def Md:xF:= {own:=[5,12,13,15],live:=[],n:=19}
theorem CX(a:zF)(b:AcQ)(R:oG):FH Md f159 [dC a,dS b] [] [] false R=
 (yJ tT [dC a] (.list .int) λc=>
 ((b.length:Int)=(b.length:Int)/\
 0<=(b.length:Int)/\
 yX .int ((b.length:Int).toNat)=true/\
 (((∃d:AcP,∃e:List ((Int×Int)×Int),xT xG [Ac3,dI 0] (RQ a.kind a.vars a.consts a.n a.rows a.lits b c (List.replicate ((b.length:Int).toNat) (Ty.dflt .int)) ([]:List ((Int×Int)×Int))) (.tup []) (RQ a.kind a.vars a.consts a.n a.rows a.lits b c d e)/\
 R (.clo yH none [.iptr [.iptr (gL a [dS b,.sl .int c,.sl .int d,.mp (.pr .int .int) .int e]) 0] 0]) [])/\
 ∃f:AcP,∃g:List ((Int×Int)×Int),xT xG [Ac3,dI 0] (RQ a.kind a.vars a.consts a.n a.rows a.lits b c (List.replicate ((b.length:Int).toNat) (Ty.dflt .int)) ([]:List ((Int×Int)×Int))) (.tup []) (RQ a.kind a.vars a.consts a.n a.rows a.lits b c f g)/\
 R (.clo yH none [.iptr [.iptr (gL a [dS b,.sl .int c,.sl .int f,.mp (.pr .int .int) .int g]) 0] 0]) [])/\
 ∃h:AcP,∃i:List ((Int×Int)×Int),xT xG [Ac3,dI 0] (RQ a.kind a.vars a.consts a.n a.rows a.lits b c (List.replicate ((b.length:Int).toNat) (Ty.dflt .int)) ([]:List ((Int×Int)×Int))) (.tup []) (RQ a.kind a.vars a.consts a.n a.rows a.lits b c h i)/\
 R (.clo yH none [.iptr [.iptr (gL a [dS b,.sl .int c,.sl .int h,.mp (.pr .int .int) .int i]) 0] 0]) [])/\
 ∃j:AcP,∃k:List ((Int×Int)×Int),xT xG [Ac3,dI 0] (RQ a.kind a.vars a.consts a.n a.rows a.lits b c (List.replicate ((b.length:Int).toNat) (Ty.dflt .int)) ([]:List ((Int×Int)×Int))) (.tup []) (RQ a.kind a.vars a.consts a.n a.rows a.lits b c j k)/\
 R (.clo yH none [.iptr [.iptr (gL a [dS b,.sl .int c,.sl .int j,.mp (.pr .int .int) .int k]) 0] 0]) [])/\
 (((b.length:Int)=(b.length:Int)/\
 0<=(b.length:Int)/\
 yX .int ((b.length:Int).toNat)=true/\
 ((∃l:AcP,∃m:List ((Int×Int)×Int),xT xG [Ac3,dI 0] (RQ a.kind a.vars a.consts a.n a.rows a.lits b c (List.replicate ((b.length:Int).toNat) (Ty.dflt .int)) ([]:List ((Int×Int)×Int))) (.tup []) (RQ a.kind a.vars a.consts a.n a.rows a.lits b c l m)/\
 R (.clo yH none [.iptr [.iptr (gL a [dS b,.sl .int c,.sl .int l,.mp (.pr .int .int) .int m]) 0] 0]) [])/\
 ∃n:AcP,∃o:List ((Int×Int)×Int),xT xG [Ac3,dI 0] (RQ a.kind a.vars a.consts a.n a.rows a.lits b c (List.replicate ((b.length:Int).toNat) (Ty.dflt .int)) ([]:List ((Int×Int)×Int))) (.tup []) (RQ a.kind a.vars a.consts a.n a.rows a.lits b c n o)/\
 R (.clo yH none [.iptr [.iptr (gL a [dS b,.sl .int c,.sl .int n,.mp (.pr .int .int) .int o]) 0] 0]) [])/\
 ∃p:AcP,∃q:List ((Int×Int)×Int),xT xG [Ac3,dI 0] (RQ a.kind a.vars a.consts a.n a.rows a.lits b c (List.replicate ((b.length:Int).toNat) (Ty.dflt .int)) ([]:List ((Int×Int)×Int))) (.tup []) (RQ a.kind a.vars a.consts a.n a.rows a.lits b c p q)/\
 R (.clo yH none [.iptr [.iptr (gL a [dS b,.sl .int c,.sl .int p,.mp (.pr .int .int) .int q]) 0] 0]) [])/\
 (b.length:Int)=(b.length:Int)/\
 0<=(b.length:Int)/\
 yX .int ((b.length:Int).toNat)=true/\
 ∃r:AcP,∃s:List ((Int×Int)×Int),xT xG [Ac3,dI 0] (RQ a.kind a.vars a.consts a.n a.rows a.lits b c (List.replicate ((b.length:Int).toNat) (Ty.dflt .int)) ([]:List ((Int×Int)×Int))) (.tup []) (RQ a.kind a.vars a.consts a.n a.rows a.lits b c r s)/\
 R (.clo yH none [.iptr [.iptr (gL a [dS b,.sl .int c,.sl .int r,.mp (.pr .int .int) .int s]) 0] 0]) [])/\
 ((b.length:Int)=(b.length:Int)/\
 0<=(b.length:Int)/\
 yX .int ((b.length:Int).toNat)=true/\
 ∃t:AcP,∃u:List ((Int×Int)×Int),xT xG [Ac3,dI 0] (RQ a.kind a.vars a.consts a.n a.rows a.lits b c (List.replicate ((b.length:Int).toNat) (Ty.dflt .int)) ([]:List ((Int×Int)×Int))) (.tup []) (RQ a.kind a.vars a.consts a.n a.rows a.lits b c t u)/\
 R (.clo yH none [.iptr [.iptr (gL a [dS b,.sl .int c,.sl .int t,.mp (.pr .int .int) .int u]) 0] 0]) [])/\
 (b.length:Int)=(b.length:Int)/\
 0<=(b.length:Int)/\
 yX .int ((b.length:Int).toNat)=true/\
 ∃v:AcP,∃w:List ((Int×Int)×Int),xT xG [Ac3,dI 0] (RQ a.kind a.vars a.consts a.n a.rows a.lits b c (List.replicate ((b.length:Int).toNat) (Ty.dflt .int)) ([]:List ((Int×Int)×Int))) (.tup []) (RQ a.kind a.vars a.consts a.n a.rows a.lits b c v w)/\
 R (.clo yH none [.iptr [.iptr (gL a [dS b,.sl .int c,.sl .int v,.mp (.pr .int .int) .int w]) 0] 0]) []):=by kernel_rfl
theorem Fx(a:zF)(b:AcQ):Xv Md f159 qT [dC a,dS b] [] [] false:=XY func159 (by kernel_rfl) ntmps159 rfl
def qB:xF:= {own:=[5,6,8,11,14],live:=[(0,([1,2,5,6,15,16,17],[5,6,14])),(2,([1,2,5,6,7,8,9,15,16,17,23,24,25],[5,6,8,14]))],n:=44}
def kZ(a:zF)(e:AcQ)(R:oG)(b:Ac0)(f:Nat)(c:Int)(d:Ac0)(g:List (Int×(AcP)))(h:Nat)(i:AcP)(j:Int)(k:Ac0)(l m:Int):Prop:=LP qB f160 [1,1,1,0,1,0,0,1,1,0,0,1,1,0,1,0,0] 2 h ⟨[(1,dS e),(2,.iptr (gL a []) 0),(5,.ptr 5 0),(6,.ptr 6 0),(7,dI c),(8,.ptr 8 0),(9,.sl .int i),(15,.sl .term b),(16,dI (b.length:Int)),(17,dI c),(23,.sl .term d),(24,dI (d.length:Int)),(25,dI j)],[(5,.cells [.sl .term k]),(6,.cells [.own 14]),(8,.cells [dI l,dI m]),(14,.mp .int (.list .int) g)]⟩ (zP 2 (sK qB f160 [1,1,1,0,1,0,0,1,1,0,0,1,1,1] 1 (zP 1 (sK qB f160 [1,1,1,0,1,0,0,1,1,1] 0 (iK qB f160 [1,1,1,0,1,0,0] 0 f (zP 0 (sK qB f160 [1,1,1,1] 0 (eH f160 [] false R))))))))
def dK(a:zF)(c:AcQ)(R:oG)(b:Ac0)(d:Nat)(e:Int)(f:Ac0)(g:List (Int×(AcP))):Prop:=LP qB f160 [1,1,1,0,1,0,0] 0 d ⟨[(1,dS c),(2,.iptr (gL a []) 0),(5,.ptr 5 0),(6,.ptr 6 0),(15,.sl .term b),(16,dI (b.length:Int)),(17,dI e)],[(5,.cells [.sl .term f]),(6,.cells [.own 14]),(14,.mp .int (.list .int) g)]⟩ (zP 0 (sK qB f160 [1,1,1,1] 0 (eH f160 [] false R)))
theorem Nv(f:zF)(c:AcQ)(R:oG)(g:Ac0)(h:Nat)(d:Int)(b:Ac0)(e:List (Int×(AcP)))(l:Nat)(i:AcP)(a:Int)(j:Ac0)(k m:Int):kZ f c R g h d b e (l+1) i a j k m=
 (zT (decide (a<(b.length:Int)))
 (wW a b.length=true/\
 zT (!decide (a=d))
 (yJ YV [.sl .int i,dS c,.agg [dI ((zJ .term b a.toNat).v),dI ((zJ .term b a.toNat).times)]] (.list .int) λn=>
 kZ f c R g h d b e l n (yU (a+1)) j k m)
 (kZ f c R g h d b e l i (yU (a+1)) j k m))
 (LK (e.length+1)=true/\
 dK f c R g h (yU (d+1)) j (rB .int (.list .int) k i e))):=by kernel_rfl
theorem Nw(a:zF)(f:AcQ)(R:oG)(b:Ac0)(g:Nat)(c:Int)(d:Ac0)(e:List (Int×(AcP))):dK a f R b (g+1) c d e=
 (zT (decide (c<(b.length:Int)))
 (wW c b.length=true/\
 ∃n2,kZ a f R b g c d e n2 ([0]) 0 d ((zJ .term b c.toNat).v) ((zJ .term b c.toNat).times))
 (R (.clo tY none [.iptr [.sl .term d] 0,.iptr [.mp .int (.list .int) e] 0,.iptr (gL a []) 0]) [])):=by kernel_rfl
theorem Hc(a:zF)(b:AcQ)(R:oG):FH qB f160 [dC a,dS b] [] [] false R=
 (yJ ZC [dC a] (.list .term) λc=>
 ∃n0,dK a b R c n0 0 c ([]:List (Int×(AcP)))):=by kernel_rfl
theorem KE(a:zF)(b:AcQ):Xv qB f160 lD [dC a,dS b] [] [] false:=XY func160 (by kernel_rfl) ntmps160 rfl
def Pf:xF:= {own:=[],live:=[],n:=14}
theorem Fy(a:AcP)(R:xI):FD Pf f161 [.sl .int a] R=
 (∃b:AcP,xT xS [.sl .int a] [] (.own 3000) [(3000,.row 3 .int b)]/\
 ∃c:AcP,xT vN [.own 1000] [(1000,.row 3 .int b)] (.tup []) [(1000,.row 3 .int c)]/\
 ∃d:AcP,xT wT [.own 1000] [(1000,.row 3 .int c)] (.sl .int d) []/\
 R (dB (decide ((d.length:Int)<(a.length:Int))))):=by kernel_rfl
theorem Hd(a:AcP):wU Pf f161 kS [.sl .int a]:=wX func161 (by kernel_rfl) ntmps161 rfl
def RB:xF:= {own:=[],live:=[],n:=6}
theorem He(a:zF)(b:AcQ)(R:oG):FH RB f162 [dC a,dS b] [] [] false R=
 (R (.clo tZ none [.iptr [dS b] 0,.iptr (gL a []) 0]) []):=by kernel_rfl
theorem KF(a:zF)(b:AcQ):Xv RB f162 lE [dC a,dS b] [] [] false:=XY func162 (by kernel_rfl) ntmps162 rfl
def Pg:xF:= {own:=[],live:=[],n:=17}
theorem Fz(a c:Int)(d:AcP)(b:AcM)(e:AcT)(R:xI):FD Pg f163 [dI a,dI c,.iptr [.sl .int d] 0,.iptr [.clo b (some [.bool]) e] 0] R=
 (yJ wD [.sl .int d,dI a] .bool λf=>
 zT (!f)
 (R (dB true))
 (fV b/\
 yJ b ([dI a,dI c]++e) .bool λg=>
 R (dB g))):=by kernel_rfl
theorem Hf(a b:Int)(c:AcP)(d:AcM)(e:AcT):wU Pg f163 vJ [dI a,dI b,.iptr [.sl .int c] 0,.iptr [.clo d (some [.bool]) e] 0]:=wX func163 (by kernel_rfl) ntmps163 rfl
def qL:xF:= {own:=[],live:=[(0,([0,27,28,29],[1000,1001,2000])),(2,([0,1,59,60,61],[1000,1001,2000]))],n:=83}
def mW(b:Int)(c d:AcP)(e:Int)(f:AcQ)(g:AcR)(h:AcQ)(a i:AcP)(R:oG)(j:Nat)(k:Int)(l:List ((Int×Int)×Int)):Prop:=LP qL Tryz.f205 [0,1,0,0,1,0,1,0,0] 0 j ⟨[(0,Ac3),(27,.sl .int a),(28,dI (a.length:Int)),(29,dI k)],[(1000,.cells [dI b,.sl .int c,.sl .int d,dI e,dS f,.sl .lit g,dS h,.sl .int a,.own 2000,.own 1001]),(1001,.mp (.pr .int .int) .int l),(2000,.row 3 .int i)]⟩ (zP 0 (sK qL Tryz.f205 [0,1,0,1] 0 (sK qL Tryz.f205 [1] 0 (eH Tryz.f205 [Ac3] false R))))
def mX(b:AcQ)(c:AcP)(a:Int)(R:oG)(d:Nat)(e f:Int)(g h:AcP)(i:Int)(j:AcQ)(k:AcR)(l:AcQ)(m:AcP)(n:List ((Int×Int)×Int))(o:AcP):Prop:=LP qL Tryz.f205 [1,1,0,0] 2 d ⟨[(0,Ac3),(1,dI a),(59,.sl .int (zJ (.list .int) b ((zJ .int c a.toNat).toNat))),(60,dI ((zJ (.list .int) b ((zJ .int c a.toNat).toNat)).length:Int)),(61,dI e)],[(1000,.cells [dI f,.sl .int g,.sl .int h,dI i,dS j,.sl .lit k,dS l,.sl .int m,.own 2000,.own 1001]),(1001,.mp (.pr .int .int) .int n),(2000,.row 3 .int o)]⟩ (zP 2 (eH Tryz.f205 [Ac3] false R))
theorem UF(e:Int)(f g:AcP)(h:Int)(i:AcQ)(j:AcR)(k:AcQ)(a c:AcP)(R:oG)(l:Nat)(b:Int)(d:List ((Int×Int)×Int)):mW e f g h i j k a c R (l+1) b d=
 (zT (decide (b<(a.length:Int)))
 (wW b a.length=true/\
 wW (zJ .int a b.toNat) c.length=true/\
 LK (d.length+1)=true/\
 mW e f g h i j k a c R l (yU (b+1)) (rB (.pr .int .int) .int (zJ .int a b.toNat,zJ .int c ((zJ .int a b.toNat).toNat)) 1 d))
 (R (.tup []) (RQ e f g h i j k a c d))):=by kernel_rfl
theorem bF(c:AcQ)(d:AcP)(a:Int)(R:oG)(o:Nat)(e f:Int)(g h:AcP)(i:Int)(j:AcQ)(k:AcR)(l:AcQ)(b:AcP)(n:List ((Int×Int)×Int))(m:AcP):mX c d a R (o+1) e f g h i j k l b n m=
 (zT (decide (e<((zJ (.list .int) c ((zJ .int d a.toNat).toNat)).length:Int)))
 (wW e (zJ (.list .int) c ((zJ .int d a.toNat).toNat)).length=true/\
 wW a b.length=true/\
 wW (zJ .int b a.toNat) m.length=true/\
 ∃p:AcP,∃q:List ((Int×Int)×Int),xT xG [Ac3,dI (yU (a+1))] (RQ f g h i j k l b (m.set ((zJ .int b a.toNat).toNat) (zJ .int (zJ (.list .int) c ((zJ .int d a.toNat).toNat)) e.toNat)) n) (.tup []) (RQ f g h i j k l b p q)/\
 mX c d a R o (yU (e+1)) f g h i j k l b q p)
 (R (.tup []) (RQ f g h i j k l b m n))):=by kernel_rfl
theorem fb(c:Int)(d e:AcP)(f:Int)(g:AcQ)(h:AcR)(b:AcQ)(a i:AcP)(k:List ((Int×Int)×Int))(j:Int)(R:oG):FH qL Tryz.f205 [Ac3,dI j] (RQ c d e f g h b a i k) [Ac3] false R=
 (zT (decide (j=(a.length:Int)))
 (yJ nK [.agg [dI c,.sl .int d,.sl .int e,dI f,dS g,.sl .lit h],.sl .int i] .bool λl=>
 zT l
 (∃n0,mW c d e f g h b a i R n0 0 k)
 (R (.tup []) (RQ c d e f g h b a i k)))
 (wW j a.length=true/\
 wW (zJ .int a j.toNat) b.length=true/\
 ∃n2,mX b a j R n2 0 c d e f g h b a k i)):=by kernel_rfl
theorem iD(a:Int)(b c:AcP)(d:Int)(e:AcQ)(f:AcR)(g:AcQ)(h i:AcP)(j:List ((Int×Int)×Int))(k:Int):Xv qL Tryz.f205 xG [Ac3,dI k] (RQ a b c d e f g h i j) [Ac3] false:=XY func205 (by kernel_rfl) ntmps205 rfl
def RC:xF:= {own:=[],live:=[],n:=15}
theorem Hg(b c:Int)(a:zF)(e:AcQ)(f g:AcP)(d:List ((Int×Int)×Int))(R:xI):FD RC Tryz.f206 [dI b,dI c,.iptr [.iptr (gL a [dS e,.sl .int f,.sl .int g,.mp (.pr .int .int) .int d]) 0] 0] R=
 (R (dB (decide ((kC (.pr .int .int) .int (b,c) d)=1)))):=by kernel_rfl
theorem KG(b c:Int)(a:zF)(d:AcQ)(e f:AcP)(g:List ((Int×Int)×Int)):wU RC Tryz.f206 yH [dI b,dI c,.iptr [.iptr (gL a [dS d,.sl .int e,.sl .int f,.mp (.pr .int .int) .int g]) 0] 0]:=wX func206 (by kernel_rfl) ntmps206 rfl
def ZV:xF:= {own:=[3,5,29],live:=[(0,([1,3,8,9,10],[3]))],n:=45}
def gD(a:zF)(R:xI)(b:Nat)(c:Int)(d:Ac0):Prop:=LP ZV f207 [1,1,0,1,0,0] 0 b ⟨[(1,.iptr (gL a []) 0),(3,.own 3),(8,.sl .int a.vars),(9,dI (a.vars.length:Int)),(10,dI c)],[(3,.row 262 .term d)]⟩ (zP 0 (sK ZV f207 [1,1,1] 0 (eK f207 R)))
theorem M9(a:zF)(R:xI)(e:Nat)(b:Int)(c:Ac0):gD a R (e+1) b c=
 (zT (decide (b<(a.vars.length:Int)))
 (wW b a.vars.length=true/\
 yJ wB [.sl .term c,.clo eW none [.iptr [dI (zJ .int a.vars b.toNat)] 0]] .int λd=>
 zT (decide (d<0))
 (wW b a.consts.length=true/\
 yX .term (c.length+([(⟨zJ .int a.vars b.toNat,zJ .int a.consts b.toNat⟩:xL)]).length)=true/\
 gD a R e (yU (b+1)) (c++([(⟨zJ .int a.vars b.toNat,zJ .int a.consts b.toNat⟩:xL)])))
 (wW d c.length=true/\
 wW b a.consts.length=true/\
 wW d c.length=true/\
 gD a R e (yU (b+1)) (c.set d.toNat (⟨(zJ .term c d.toNat).v,yU (((zJ .term c d.toNat).times)+(zJ .int a.consts b.toNat))⟩:xL))))
 (R (.sl .term c))):=by kernel_rfl
theorem FA(a:zF)(R:xI):FD ZV f207 [dC a] R=
 (∃n0,gD a R n0 0 ([]:Ac0)):=by kernel_rfl
theorem Hh(a:zF):wU ZV f207 ZC [dC a]:=wX func207 (by kernel_rfl) ntmps207 rfl
def mA:xF:= {own:=[7,36],live:=[(0,([1,5,7,12,13,14],[7])),(2,([1,5,7,9,12,13,14,22,23,24],[7]))],n:=43}
def ZW(b:AcP)(c:AcQ)(a:xL)(R:xI)(e:Nat)(d:Int)(f:Nat)(g:Int)(h:AcP):Prop:=LP mA f208 [1,1,0,1,0,0,1,1,0,0,1,1,0,0] 2 f ⟨[(1,dS c),(5,.iptr [dI a.v,dI a.times] 0),(7,.own 7),(9,dI (zJ .int b d.toNat)),(12,.sl .int b),(13,dI (b.length:Int)),(14,dI d),(22,.sl .int (zJ (.list .int) c a.v.toNat)),(23,dI ((zJ (.list .int) c a.v.toNat).length:Int)),(24,dI g)],[(7,.row 3 .int h)]⟩ (zP 2 (zP 1 (sK mA f208 [1,1,0,1,0,0,1,1,1] 0 (iK mA f208 [1,1,0,1,0,0] 0 e (zP 0 (sK mA f208 [1,1,1] 0 (eK f208 R)))))))
def ZX(a:AcP)(c:AcQ)(b:xL)(R:xI)(d:Nat)(e:Int)(f:AcP):Prop:=LP mA f208 [1,1,0,1,0,0] 0 d ⟨[(1,dS c),(5,.iptr [dI b.v,dI b.times] 0),(7,.own 7),(12,.sl .int a),(13,dI (a.length:Int)),(14,dI e)],[(7,.row 3 .int f)]⟩ (zP 0 (sK mA f208 [1,1,1] 0 (eK f208 R)))
theorem KH(d:AcP)(b:AcQ)(a:xL)(R:xI)(g:Nat)(e:Int)(h:Nat)(c:Int)(f:AcP):ZW d b a R g e (h+1) c f=
 (zT (decide (c<((zJ (.list .int) b a.v.toNat).length:Int)))
 (wW c (zJ (.list .int) b a.v.toNat).length=true/\
 yX .int (f.length+([yU ((zJ .int d e.toNat)+(yU (a.times*(zJ .int (zJ (.list .int) b a.v.toNat) c.toNat))))]).length)=true/\
 ZW d b a R g e h (yU (c+1)) (f++([yU ((zJ .int d e.toNat)+(yU (a.times*(zJ .int (zJ (.list .int) b a.v.toNat) c.toNat))))])))
 (ZX d b a R g (yU (e+1)) f)):=by kernel_rfl
theorem KI(a:AcP)(c:AcQ)(d:xL)(R:xI)(f:Nat)(b:Int)(e:AcP):ZX a c d R (f+1) b e=
 (zT (decide (b<(a.length:Int)))
 (wW b a.length=true/\
 wW d.v c.length=true/\
 ∃n2,ZW a c d R f b n2 0 e)
 (∃g:AcP,xT vN [.own 1000] [(1000,.row 3 .int e)] (.tup []) [(1000,.row 3 .int g)]/\
 ∃h:AcP,xT wT [.own 1000] [(1000,.row 3 .int g)] (.sl .int h) []/\
 R (.sl .int h))):=by kernel_rfl
theorem CY(b:AcP)(c:AcQ)(a:xL)(R:xI):FD mA f208 [.sl .int b,dS c,.agg [dI a.v,dI a.times]] R=
 (∃n0,ZX b c a R n0 0 ([]:AcP)):=by kernel_rfl
theorem FB(b:AcP)(c:AcQ)(a:xL):wU mA f208 YV [.sl .int b,dS c,.agg [dI a.v,dI a.times]]:=wX func208 (by kernel_rfl) ntmps208 rfl
def Uf:xF:= {own:=[8],live:=[],n:=20}
theorem La(c e:Int)(b:Ac0)(f:List (Int×(AcP)))(a:zF)(R:xI):FD Uf f209 [dI c,dI e,.iptr [.sl .term b] 0,.iptr [.mp .int (.list .int) f] 0,.iptr (gL a []) 0] R=
 (yJ wB [.sl .term b,.clo kI none [.iptr [dI c] 0]] .int λd=>
 wW d b.length=true/\
 yJ xX [.sl .int (kC .int (.list .int) c f),.clo kJ none [.iptr (gL a []) 0,.iptr [dI ((zJ .term b d.toNat).v),dI ((zJ .term b d.toNat).times)] 0,.iptr [dI e] 0]] .bool λg=>
 R (dB g)):=by kernel_rfl
theorem Nx(b c:Int)(d:Ac0)(e:List (Int×(AcP)))(a:zF):wU Uf f209 tY [dI b,dI c,.iptr [.sl .term d] 0,.iptr [.mp .int (.list .int) e] 0,.iptr (gL a []) 0]:=wX func209 (by kernel_rfl) ntmps209 rfl
def X3:xF:= {own:=[],live:=[],n:=8}
theorem Ph(a:xL)(b:Int)(R:xI):FD X3 f211 [.agg [dI a.v,dI a.times],.iptr [dI b] 0] R=
 (R (dB (decide (a.v=b)))):=by kernel_rfl
theorem RZ(a:xL)(b:Int):wU X3 f211 kI [.agg [dI a.v,dI a.times],.iptr [dI b] 0]:=wX func211 (by kernel_rfl) ntmps211 rfl
def X4:xF:= {own:=[],live:=[],n:=14}
theorem Pi(c:Int)(a:zF)(b:xL)(d:Int)(R:xI):FD X4 f212 [dI c,.iptr (gL a []) 0,.iptr [dI b.v,dI b.times] 0,.iptr [dI d] 0] R=
 (yJ jH [dC a,dI (yU (c+(yU (b.times*d))))] .bool λe=>
 R (dB e)):=by kernel_rfl
theorem R0(c:Int)(a:zF)(b:xL)(d:Int):wU X4 f212 kJ [dI c,.iptr (gL a []) 0,.iptr [dI b.v,dI b.times] 0,.iptr [dI d] 0]:=wX func212 (by kernel_rfl) ntmps212 rfl
def fw:xF:= {own:=[20,21,23],live:=[(0,([8,26,27],[20,21,23]))],n:=40,nils:=[],pubs:=[(23,0)]}
def oa(a:zF)(R:xI)(b:Nat)(c:Int)(d e:List (Int×Int))(f:AcQ)(g:AcP)(h:Int):Prop:=LP fw f213 [1,1,1,1,0,1,0,0] 0 b ⟨[(8,.ptr 23 0),(26,dI (a.vars.length:Int)),(27,dI c)],[(20,.mp .int .int d),(21,.mp .int .int e),(23,.cells [dS f,.sl .int g,.own 20,.own 21,dI h])]⟩ (zP 0 (sK fw f213 [1,1,1,1,1] 0 (eK f213 R)))
theorem R3(d:zF)(R:xI)(e:Nat)(a:Int)(f g:List (Int×Int))(b:AcQ)(c:AcP)(k:Int):oa d R (e+1) a f g b c k=
 (zT (decide (a<(d.vars.length:Int)))
 (∃h:Bool,∃i:List (Int×Int),∃j:List (Int×Int),xT rO [Ac3,dI a] (hq5 b c (yU (a+1)) f g) (dB h) (hq5 b c (yU (a+1)) i j)/\
 zT (!h)
 (R (dB false))
 (oa d R e (yU (a+1)) i j b c (yU (a+1))))
 (R (dB true))):=by kernel_rfl
theorem Lb(b d:Int)(e:AcQ)(a:zF)(R:xI):FD fw f213 [dI b,dI d,.iptr [dS e] 0,.iptr (gL a []) 0] R=
 (∃c:AcQ,xT rY [dS e] [] (.own 3000) [(3000,.row 28 (.list .int) c)]/\
 wW b c.length=true/\
 ∃n0,oa a R n0 0 ([]:List (Int×Int)) ([]:List (Int×Int)) (c.set b.toNat ([d])) a.vars 0):=by kernel_rfl
theorem Ny(b c:Int)(d:AcQ)(a:zF):wU fw f213 tZ [dI b,dI c,.iptr [dS d] 0,.iptr (gL a []) 0]:=wX func213 (by kernel_rfl) ntmps213 rfl
def mY:xF:= {own:=[],live:=[(0,([0,1,21,22,23],[1000,1001,1002]))],n:=70}
def pF(b:AcQ)(c:AcP)(a:Int)(R:oG)(d:Nat)(e:Int)(f:AcQ)(g:AcP)(h:Int)(i j:List (Int×Int)):Prop:=LP mY Tryz.f215 [1,0,1,0,0] 0 d ⟨[(0,Ac3),(1,dI a),(21,.sl .int (zJ (.list .int) b ((zJ .int c a.toNat).toNat))),(22,dI ((zJ (.list .int) b ((zJ .int c a.toNat).toNat)).length:Int)),(23,dI e)],[(1000,.cells [dS f,.sl .int g,.own 1001,.own 1002,dI h]),(1001,.mp .int .int i),(1002,.mp .int .int j)]⟩ (zP 0 (sK mY Tryz.f215 [1,1] 0 (eH Tryz.f215 [Ac3] false R)))
theorem rD(b:AcQ)(c:AcP)(a:Int)(R:oG)(k:Nat)(d:Int)(f:AcQ)(g:AcP)(e:Int)(h i:List (Int×Int)):pF b c a R (k+1) d f g e h i=
 (zT (decide (d<((zJ (.list .int) b ((zJ .int c a.toNat).toNat)).length:Int)))
 (wW d (zJ (.list .int) b ((zJ .int c a.toNat).toNat)).length=true/\
 zT (decide ((kC .int .int (zJ .int (zJ (.list .int) b ((zJ .int c a.toNat).toNat)) d.toNat) i)=e))
 (pF b c a R k (yU (d+1)) f g e h i)
 (LK (i.length+1)=true/\
 zT (!(MB .int .int (zJ .int (zJ (.list .int) b ((zJ .int c a.toNat).toNat)) d.toNat) h))
 (LK (h.length+1)=true/\
 R (dB true) (hq5 f g e (rB .int .int (zJ .int (zJ (.list .int) b ((zJ .int c a.toNat).toNat)) d.toNat) a h) (rB .int .int (zJ .int (zJ (.list .int) b ((zJ .int c a.toNat).toNat)) d.toNat) e i)))
 (∃m:Bool,∃j:List (Int×Int),∃l:List (Int×Int),xT rO [Ac3,dI (kC .int .int (zJ .int (zJ (.list .int) b ((zJ .int c a.toNat).toNat)) d.toNat) h)] (hq5 f g e h (rB .int .int (zJ .int (zJ (.list .int) b ((zJ .int c a.toNat).toNat)) d.toNat) e i)) (dB m) (hq5 f g e j l)/\
 zT m
 (LK (j.length+1)=true/\
 R (dB true) (hq5 f g e (rB .int .int (zJ .int (zJ (.list .int) b ((zJ .int c a.toNat).toNat)) d.toNat) a j) l))
 (pF b c a R k (yU (d+1)) f g e j l))))
 (R (dB false) (hq5 f g e h i))):=by kernel_rfl
theorem ZY(b:AcQ)(a:AcP)(d:Int)(e f:List (Int×Int))(c:Int)(R:oG):FH mY Tryz.f215 [Ac3,dI c] (hq5 b a d e f) [Ac3] false R=
 (wW c a.length=true/\
 wW (zJ .int a c.toNat) b.length=true/\
 ∃n0,pF b a c R n0 0 b a d e f):=by kernel_rfl
theorem aZ(a:AcQ)(b:AcP)(c:Int)(d e:List (Int×Int))(f:Int):Xv mY Tryz.f215 rO [Ac3,dI f] (hq5 a b c d e) [Ac3] false:=XY func215 (by kernel_rfl) ntmps215 rfl
def Tu:xF:= {own:=[],live:=[],n:=8}
theorem KJ(a:xL)(b:Int)(R:xI):FD Tu f234 [.agg [dI a.v,dI a.times],.iptr [dI b] 0] R=
 (R (dB (decide (a.v=b)))):=by kernel_rfl
theorem Lc(a:xL)(b:Int):wU Tu f234 eW [.agg [dI a.v,dI a.times],.iptr [dI b] 0]:=wX func234 (by kernel_rfl) ntmps234 rfl
end Go.Proofs.YtdnmkinmcdihnaaGreatDoor
namespace Go.Proofs.YtdnmkinmcdihnaaGreatDoor
open Go.Proofs.Tryz
open Go.RowKit
variable[Lo]
theorem nodup_iff{l:AcP}:(∀i (hi:i<l.length) j (hj:j<i),l[i]≠l[j]'(by omega))↔l.Nodup:=by
 rw[List.Nodup,Ace];exact⟨λh i j hi hj hij e=>h j hj i hij e.symm,λh i hi j hj e=>h j i (by omega) hi hj e.symm⟩
end Go.Proofs.YtdnmkinmcdihnaaGreatDoor
namespace Go.Proofs.YtdnmkinmcdihnaaGreatDoor
open Go.Proofs.Tryz
open Go.RowKit
variable[Lo]
theorem zhL:vL cS [dM vO,dI 0,.sl .int [0,1]] (.tup [dB true,dI 0]):=by
 have h:=CD vO 0 [0,1]
 rwa[show Pa vO 0 [0,1]=0 by kernel_rfl,show orB 0 (wO (yV vO 0) [0,1])=true by kernel_rfl]at h
theorem zrj:vL Xs [dM vO,.sl .int [2,1]] (.tup [dB false,dI 0]):=by
 have h:=zdu vO [2,1]
 rwa[show zfu vO [2,1]=0 by kernel_rfl,show orB 0 (aG vO [2,1])=false by kernel_rfl]at h
theorem zmk:vL ot [dM vO,dI 0] (.tup [.sl .int [0,1],dI 0]):=by
 have h:=CC vO 0
 rwa[show Wm vO 0=0 by kernel_rfl,show zoH 0 (yI (yV vO 0) vO.vars.length)=[0,1] by kernel_rfl]at h
theorem zhM:vL vG [dM vO] (dI 0):=by
 have h:=sP vO
 rwa[show yY vO=0 by kernel_rfl]at h
theorem Tv:vL nI [] (dB true):=
 UB λok=>by
  rw[Tb];exact zG vU (Zt (t:=.bool) (u:=.int) zhL (zG vU (Zt (t:=.bool) (u:=.int) zrj (zG vU (Zt (t:=.list .int) (u:=.int) zmk (zG vU (zG zhM (zG (tQ _ _) rfl))))))))
end Go.Proofs.YtdnmkinmcdihnaaGreatDoor
namespace Go.Proofs.YtdnmkinmcdihnaaGreatDoor
open Go.Proofs.Tryz
open Go.RowKit
variable[Lo]
structure jL (s:AcQ)(nv:Nat):Prop where
 len:s.length=nv
 near:∀v:Nat,∀n∈s.getD v [],-50<=n/\n<=50
 rise:∀l∈s,l.Pairwise (·<·)
theorem jL.nodup{s:AcQ}{nv:Nat}(h:jL s nv)(v:Nat):(s.getD v []).Nodup:=by
 by_cases hv:v<s.length
 ·rw[yO _ hv]
  exact(h.rise _ (AT hv)).imp fun {a b} hab=>by omega
 ·rw[qK (by omega)];exact Abx
theorem jL.row{s:AcQ}{nv:Nat}(h:jL s nv)(v:Nat):(s.getD v []).length<=101:=
 YE (h.nodup v) (lo:= -50) λn hn=>by have:=h.near v n hn;omega
theorem ZZ{m:zE}{s:AcQ}(hm:Right m)(h:gZ m s=0):jL s m.vars.length:=by
 obtain⟨h1,h2,h3⟩:=Ub.1 h;refine⟨h1,λv n hn=> ?_,h3⟩
 have:=h2 v n hn
 by_cases hv:v<m.vars.length
 ·rw[yO _ hv]at this
  have:=hm.lohi _ (AT hv);omega
 ·rw[qK (by omega)]at hn;cases hn
theorem jL.keep{s:AcQ}{nv:Nat}{f:Nat->Int->Bool}(h:jL s nv):jL (rI f s) nv:=by
 refine⟨sC.trans h.len,λv n hn=> ?_,λl hl=> ?_⟩
 ·rw[uZ,Aax]at hn;exact h.near v n hn.1
 ·obtain⟨i,hi,rfl⟩:=Aas hl
  have hi':i<s.length:=by rw[sC]at hi;exact hi
  simp only[rI,AbM];exact(h.rise _ (AT hi')).filter _
theorem KK(t:xL)(v:Int):vL eW [.agg [dI t.v,dI t.times],.iptr [dI v] 0] (dB (decide (t.v=v))):=
 Lc t v λok=>by rw[KJ]
theorem zkP:∀ {a b:AcP},a.length=b.length->(a.zip b).map Prod.fst=a
 |[],[],_=>rfl
 |x::a,y::b,h=>by rw[Aca,Aaq,zkP (by simpa using h)]
 |[],_::_,h=>by simp at h
 |_::_,[],h=>by simp at h
theorem FC{c:zF}{nv:Nat}(hc:vQ c nv)(hk:c.kind<=3):vL ZC [dC c] (.sl .term (vH c)):=
 Hh c λok=>by
  obtain⟨f1,f2⟩:=hc.formC.sums hk;have hm:=hc.many;have hz:(c.vars.zip c.consts).length=c.vars.length:=by rw[AaA];omega
  rw[FA];refine up (I:=λn v a=>gD c _ n v a) 0 c.vars.length rfl (Is _) (by omega) (λk a=>a=kY ((c.vars.zip c.consts).take k)) rfl λn k a _ hk2 ha hn=> ?_
  subst ha;rw[M9]
  by_cases h:k<c.vars.length
  ·have hk3:k<c.consts.length:=by omega
   have hzk:k<(c.vars.zip c.consts).length:=by omega
   have hst:kY ((c.vars.zip c.consts).take (k+1))=Wp (kY ((c.vars.zip c.consts).take k)) c.vars[k] c.consts[k]:=by
    rw[<-Aay hzk,aY,AaL]
   have hlen:(kY ((c.vars.zip c.consts).take k)).length<=k:=Aan (CT _) (by rw[Aak];omega)
   have hcb:=hc.consts _ (AT hk3);have htm:=KB ((c.vars.zip c.consts).take k) λx hx=>hc.consts x.2 (Acc (Abp hx)).2
   generalize kY ((c.vars.zip c.consts).take k)=o at hst hlen htm⊢
   rw[yD h,yA (t:=.int) h,yA (t:=.int) hk3];refine⟨zI h,zG (rR (p:=λt=>decide (t.v=c.vars[k])) MT λt ht=>KK t _) ?_⟩
   rcases CN (λt:xL=>decide (t.v=c.vars[k])) o 0 with⟨e,h2⟩|⟨j,hj,e,h2,h3⟩
   ·rw[e]
    refine dt (by decide) ⟨zI hk3,xC (t:=.term) ?_,hn h _ ?_⟩
    ·show(_+1)*16<=_;omega
    ·rw[hst,zfy λt ht=>Aah (h2 t ht)]
   ·rw[e,Int.zero_add]
    refine df (show¬((j:Int)<0) by omega) ?_
    rw[yA (t:=.term) hj];refine⟨zI hj,zI hk3,zI hj,hn h _ ?_⟩;have:=htm _ (AT hj);rw[Aak]at this
    rw[hst,zfz hj (BY h2) λi hi=>Aah (h3 i hi),qV (by omega) (by omega),Aap]
  ·have hk':k=c.vars.length:=by omega
   subst hk';rw[zY,<-hz,Aam];rfl
def CZ(l row:AcP)(k:Int):AcP:=Lib.compact (aW (l.flatMap λa=>row.map λn=>a+k*n))
theorem zbt{l row:AcP}{k x:Int}:x∈CZ l row k↔∃a∈l,∃n∈row,x=a+k*n:=by
 rw[CZ,Q8,(Acz _ _).mem_iff,AcC];constructor
 ·rintro⟨a,ha,h⟩
  obtain⟨n,hn,e⟩:=OF.1 h;exact⟨a,ha,n,hn,e.symm⟩
 ·rintro⟨a,ha,n,hn,e⟩
  exact⟨a,ha,OF.2 ⟨n,hn,e.symm⟩⟩
theorem Ug{α β:Type}{f:α->List β}{b:Nat}:∀ {l:List α},(∀a∈l,(f a).length<=b)->(l.flatMap f).length<=l.length*b
 |[],_=>by simp
 |a::l,h=>by
  rw[AaZ,It,By,Nat.add_mul,Nat.one_mul];have h1:=h a (Aaa ..);have h2:=Ug λx hx=>h x (Aac _ hx)
  omega
theorem zml{l row:AcP}{k:Int}{b:Nat}(h:row.length<=b):(CZ l row k).length<=l.length*b:=by
 rw[CZ];refine Aan (M4 _) ?_;rw[aW,List.length_mergeSort];exact Ug λa _=>by rw[Aae];exact h
theorem KL{α β:Type}(f:α->List β){xs:List α}{k:Nat}(h:k<xs.length):(xs.take (k+1)).flatMap f=(xs.take k).flatMap f++f xs[k]:=by
 rw[<-Aay h,Acj,AaZ,AcD,Aa2]
theorem C0{l:AcP}{s:AcQ}{nv:Nat}{t:xL}(hs:jL s nv)(hv:0<=t.v/\t.v<nv)(ht: -4000<=t.times/\t.times<=4000)(hl:∀a∈l,-4000000<=a/\a<=4000000)(hll:l.length<=1000000000):
  vL YV [.sl .int l,dS s,.agg [dI t.v,dI t.times]] (.sl .int (CZ l (s.getD t.v.toNat []) t.times)):=
 FB l s t λok=>by
  have hvl:t.v.toNat<s.length:=by have:=hs.len;omega
  have hrow:=hs.row t.v.toNat;have hnear:=hs.near t.v.toNat;have hat:zJ (.list .int) s t.v.toNat=s.getD t.v.toNat []:=rfl;generalize s.getD t.v.toNat []=row at hrow hnear hat⊢
  have hfl:∀k,((l.take k).flatMap λa=>row.map λn=>a+t.times*n).length<=l.length*101:=λk=>by
   refine Aan (Ug (b:=101) λa _=>by rw[Aae];exact hrow) ?_
   rw[Aak];exact Aa8 _ (by omega)
  rw[CY];refine up (I:=λn v a=>ZX l s t _ n v a) 0 l.length rfl (Is _) (by omega) (λk a=>a=(l.take k).flatMap λa=>row.map λn=>a+t.times*n) (by simp) λn k a _ hk ha hn=> ?_
  subst ha;rw[KI]
  by_cases h:k<l.length
  ·rw[yD h]
   refine⟨zI h,uW.2 (by have:=hs.len;omega),?_⟩
   refine up (I:=λn2 v a=>ZW l s t _ n (k:Int) n2 v a) 0 row.length rfl (Is _) (by omega) (λj a=>a=((l.take k).flatMap λa=>row.map λn=>a+t.times*n)++(row.take j).map λn=>l[k]+t.times*n) (by simp) λn2 j a _ hj ha2 hn2=> ?_
   subst ha2;rw[KH,hat]
   by_cases h2:j<row.length
   ·have b1:=hl _ (AT h)
    have b2:=hnear _ (AT h2)
    have b3: -200000<=t.times*row[j]/\t.times*row[j]<=200000:=by
     have:(t.times*row[j]).natAbs<=4000*50:=by rw[Int.natAbs_mul];exact AbK (by omega) (by omega)
     omega
    rw[yD h2,yA (t:=.int) h,yA (t:=.int) h2,qV (n:=t.times*row[j]) (by omega) (by omega),qV (by omega) (by omega)]
    refine⟨zI h2,xC (t:=.int) ?_,hn2 h2 _ ?_⟩
    ·have:=hfl k
     rw[It,Aae,Aak];show(_+1)*8<=_
     omega
    ·rw[cR _ h2,AaG]
   ·have hj':j=row.length:=by omega
    subst hj';rw[zY,Aam];exact hn h _ (KL _ h).symm
  ·have hk':k=l.length:=by omega
   subst hk';rw[zY,Aam];exact⟨_,Oz _,_,Su _,rfl⟩
def Za(s:AcQ)(us:Ac0):AcP:=us.foldl (λall u=>CZ all (s.getD u.v.toNat []) u.times) [0]
theorem Sy{s:AcQ}{us:Ac0}{u:xL}:Za s (us++[u])=CZ (Za s us) (s.getD u.v.toNat []) u.times:=by rw[Za,Abg];rfl
theorem zmm{s:AcQ}(hf:zZ s=false){x:Int}(us:Ac0):(∀t∈us,0<=t.v/\t.v.toNat<s.length)->(us.map xL.v).Nodup->(x∈Za s us↔Gw us s x):=by
 refine gP (C:=λus=>∀x,(∀t∈us,0<=t.v/\t.v.toNat<s.length)->(us.map xL.v).Nodup->(x∈Za s us↔Gw us s x)) (λx _ _=> ?_) (λus u ih x h1 h2=> ?_) us x
 ·rw[zmi hf];exact Aab
 ·rw[AaV,AcA]at h2
  have hu:=h1 u (by simp)
  rw[Sy,zbt,zhI hu.1 hu.2 (λt ht=>(h1 t (by simp[ht])).1) (λhm=>h2.2.2 _ hm _ (by simp) rfl)]
  have h3:∀a,a∈Za s us↔Gw us s a:=λa=>ih a (λt ht=>h1 t (by simp[ht])) h2.1
  exact⟨λ⟨a,ha,r⟩=>⟨a,(h3 a).1 ha,r⟩,λ⟨a,ha,r⟩=>⟨a,(h3 a).2 ha,r⟩⟩
theorem C1{s:AcQ}{nv:Nat}(hs:jL s nv)(us:Ac0):(∀t∈us,-4000<=t.times/\t.times<=4000)->∀x∈Za s us,-200000*(us.length:Int)<=x/\x<=200000*(us.length:Int):=by
 refine gP (C:=λus=>(∀t∈us,-4000<=t.times/\t.times<=4000)->∀x∈Za s us,-200000*(us.length:Int)<=x/\x<=200000*(us.length:Int)) (λ_ x hx=> ?_) (λus u ih h1 x hx=> ?_) us
 ·have:x=0:=Aab.1 hx
  subst this;decide
 ·rw[Sy,zbt]at hx
  obtain⟨a,ha,n,hn,rfl⟩:=hx;have h2:=ih (λt ht=>h1 t (by simp[ht])) a ha
  have h3:=h1 u (by simp)
  have h4:=hs.near _ n hn
  have b3: -200000<=u.times*n/\u.times*n<=200000:=by
   have:(u.times*n).natAbs<=4000*50:=by rw[Int.natAbs_mul];exact AbK (by omega) (by omega)
   omega
  rw[It,Aa0];omega
theorem zmn{s:AcQ}{nv:Nat}(hs:jL s nv)(us:Ac0):(Za s us).length<=101^us.length:=by
 refine gP (C:=λus=>(Za s us).length<=101^us.length) (IN _) (λus u ih=> ?_) us
 rw[Sy,It,Aa0,Nat.pow_succ];exact Aan (zml (hs.row _)) (Aa8 _ ih)
def Hi(s:AcQ)(ts:Ac0):List (Int×AcP):=ts.mapIdx λi t=>(t.v,Za s (ts.eraseIdx i))
theorem KM{c:zF}{nv:Nat}(hc:vQ c nv):∀t∈vH c,-4000<=t.times/\t.times<=4000:=λt ht=>by
 have h:=KB (c.vars.zip c.consts) (λx hx=>hc.consts x.2 (Acc hx).2) t ht
 have:=hc.many;rw[AaA]at h
 omega
theorem C2{c:zF}{nv:Nat}(hc:vQ c nv):(vH c).length<=4:=by
 have h:=CT (c.vars.zip c.consts);have:=hc.many;rw[AaA]at h
 exact Aan h (by omega)
theorem C3{ts:Ac0}{f:Nat->xL->AcP}:(ts.mapIdx λi t=>(t.v,f i t)).map Prod.fst=ts.map xL.v:=by
 apply AbV
 ·simp
 ·intro i h1 h2;simp
theorem Tw{c:zF}{s:AcQ}(hc:vQ c s.length)(hk:c.kind<=3)(hs:jL s s.length):
  xT lD [dC c,dS s] [] (.clo tY none [.iptr [.sl .term (vH c)] 0,.iptr [.mp .int (.list .int) (Hi s (vH c))] 0,.iptr [.int .i64 c.kind,.sl .int c.vars,.sl .int c.consts,.int .i64 c.n,.sl (.list .int) c.rows,.sl .lit c.lits] 0]) []:=
 KE c s λok _=>by
  have h4:=C2 hc;have hv:=M8 hc;have htm:=KM hc;have hnd:((vH c).map xL.v).Nodup:=Sw _;rw[Hc];refine zG (FC hc hk) ?_;generalize hts:vH c=ts at h4 hv htm hnd⊢
  have hlm:Hi s ts=ts.mapIdx λi t=>(t.v,Za s (ts.eraseIdx i)):=rfl
  refine up (I:=λn v a=>dK c s _ ts n v ts a) 0 ts.length rfl (Is _) (by omega) (λi a=>a=(ts.take i).mapIdx λi t=>(t.v,Za s (ts.eraseIdx i))) rfl λn i a _ hi ha hn=> ?_
  subst ha;rw[Nw]
  by_cases h:i<ts.length
  ·rw[yD h,yA (t:=.term) h]
   refine⟨zI h,?_⟩;refine up (I:=λn2 v a=>kZ c s _ ts n (i:Int) ts _ n2 a v ts _ _) 0 ts.length rfl (Is _) (by omega) (λk a=>a=Za s ((ts.take k).eraseIdx i)) rfl λn2 k a _ hk2 ha2 hn2=> ?_
   subst ha2;rw[Nv]
   by_cases h2:k<ts.length
   ·rw[yD h2,yA (t:=.term) h2]
    refine⟨zI h2,?_⟩;have est:=zhJ (l:=ts) (i:=i) h2
    by_cases e:k=i
    ·refine dnf (show(k:Int)=(i:Int) by omega) (hn2 h2 _ ?_)
     rw[est,As e]
    ·refine dnt (show¬(k:Int)=(i:Int) by omega) ?_
     have hsub:((ts.take k).eraseIdx i).Sublist ts:=(AcE ..).trans (List.take_sublist ..);have hul:((ts.take k).eraseIdx i).length<=4:=Aan hsub.length_le h4;have hb:=C1 hs ((ts.take k).eraseIdx i) λt ht=>htm t (hsub.subset ht)
     refine zG (C0 hs (hv _ (AT h2)) (htm _ (AT h2)) (λa ha=>by have:=hb a ha;omega) ?_) (hn2 h2 _ ?_)
     ·exact Aan (zmn hs _) (Aan (Nat.pow_le_pow_right (by decide) hul) (by decide))
     ·rw[est,An e,Sy]
   ·have hk':k=ts.length:=by omega
    subst hk';rw[zY,Aam];have hml:((ts.take i).mapIdx λi t=>(t.v,Za s (ts.eraseIdx i))).length=i:=by rw[AbC,Aak];omega
    refine⟨Aaf (by rw[hml];omega),hn h _ ?_⟩
    rw[DV _ h];refine Ky (kt:=.int) (vt:=.list .int) gC _ ?_;cases e:sU .int (.list .int) ts[i].v ((ts.take i).mapIdx λi t=>(t.v,Za s (ts.eraseIdx i)))with
    |none=>rfl
    |some k=>
     have h5:=(XG (kt:=.int) (vt:=.list .int) gC _).2 ⟨k,e⟩;rw[C3]at h5
     have h6:ts.map xL.v=(ts.take i).map xL.v++(ts.drop i).map xL.v:=by rw[<-AaV,AbZ]
     rw[h6,AcA]at hnd
     exact At rfl (hnd.2.2 _ h5 ts[i].v (OF.2 ⟨ts[i],by rw[Aa4 h];exact Aaa ..,rfl⟩))
  ·have hi':i=ts.length:=by omega
   subst hi';rw[zY,Aam,hlm];exact⟨rfl,rfl⟩
theorem Pj(t:xL)(v:Int):vL kI [.agg [dI t.v,dI t.times],.iptr [dI v] 0] (dB (decide (t.v=v))):=
 RZ t v λok=>by rw[Ph]
theorem Pk{c:zF}{t:xL}{a n:Int}(ht: -4000<=t.times/\t.times<=4000)(hn: -50<=n/\n<=50)(ha: -4000000<=a/\a<=4000000):vL kJ [dI a,.iptr [.int .i64 c.kind,.sl .int c.vars,.sl .int c.consts,.int .i64 c.n,.sl (.list .int) c.rows,.sl .lit c.lits] 0,.iptr [dI t.v,dI t.times] 0,.iptr [dI n] 0] (dB (zfC c (a+t.times*n))):=
 R0 a c t n λok=>by
  have b3: -200000<=t.times*n/\t.times*n<=200000:=by
   have:(t.times*n).natAbs<=4000*50:=by rw[Int.natAbs_mul];exact AbK (by omega) (by omega)
   omega
  rw[Pi,qV (n:=t.times*n) (by omega) (by omega),qV (by omega) (by omega)]
  exact zG (Kf c _) rfl
theorem W7{c:zF}{s:AcQ}(hc:vQ c s.length)(hk:c.kind<=3)(hs:jL s s.length)(hf:zZ s=false){v n:Int}(hv:v∈c.vars)(hn:n∈s.getD v.toNat []):
  vL tY [dI v,dI n,.iptr [.sl .term (vH c)] 0,.iptr [.mp .int (.list .int) (Hi s (vH c))] 0,.iptr [.int .i64 c.kind,.sl .int c.vars,.sl .int c.consts,.int .i64 c.n,.sl (.list .int) c.rows,.sl .lit c.lits] 0] (dB (mayB (wO c) s v.toNat n)):=
 Nx v n (vH c) (Hi s (vH c)) c λok=>by
  have hvv:=M8 hc;have htm:=KM hc;have hnd:((vH c).map xL.v).Nodup:=Sw _;rw[La];refine zG (rR (p:=λt=>decide (t.v=v)) RT λt ht=>Pj t _) ?_
  rcases CN (λt:xL=>decide (t.v=v)) (vH c) 0 with⟨e,h2⟩|⟨j,hj,e,h2,h3⟩
  ·obtain⟨f1,f2⟩:=hc.formC.sums hk
   have:v∈(vH c).map xL.v:=by
    rw[vH,CS,zkP f2.symm];exact hv
   obtain⟨t,ht,rfl⟩:=OF.1 this;exact At rfl (Aah (h2 t ht))
  ·have h2:(vH c)[j].v=v:=BY h2
   rw[e,Int.zero_add,yA (t:=.term) hj]
   have hg:sU .int (.list .int) v (Hi s (vH c))=some (Za s ((vH c).eraseIdx j)):=by
    refine zdv (kt:=.int) (vt:=.list .int) gC _ (by rw[Hi,C3];exact hnd) ?_
    have hjl:j<(Hi s (vH c)).length:=by rw[Hi,AbC];exact hj
    have:(Hi s (vH c))[j]=(v,Za s ((vH c).eraseIdx j)):=by simp only[Hi,AbM];rw[h2]
    rw[<-this];exact AT hjl
   have hgd:kC .int (.list .int) v (Hi s (vH c))=Za s ((vH c).eraseIdx j):=by rw[kC,hg];rfl
   rw[hgd];have hsub:((vH c).eraseIdx j).Sublist (vH c):=AcE ..;have hb:=C1 hs ((vH c).eraseIdx j) λt ht=>htm t (hsub.subset ht)
   have hlen:=Aan hsub.length_le (C2 hc);refine⟨zI hj,zG (vR (p:=λa=>zfC c (a+(vH c)[j].times*n)) RU λa ha=>Pk (htm _ (AT hj)) (hs.near _ n hn) (by have:=hb a ha;omega)) ?_⟩
   congr 1
   rw[AaO,nE,AaI];have h5:=zri (c:=c) (s:=s) hc hk hj (n:=n) (by rw[h2];exact hn)
   rw[h2]at h5
   rw[h5];have hmem:∀a,a∈Za s ((vH c).eraseIdx j)↔Gw ((vH c).eraseIdx j) s a:=λa=>zmm hf _ (λt ht=>by have:=hvv t (hsub.subset ht);omega) (hnd.sublist (hsub.map _))
   exact⟨λ⟨a,h6,h7⟩=>⟨a,(hmem a).1 h6,h7⟩,λ⟨a,h6,h7⟩=>⟨a,(hmem a).2 h6,h7⟩⟩
end Go.Proofs.YtdnmkinmcdihnaaGreatDoor
namespace Go.Proofs.YtdnmkinmcdihnaaGreatDoor
open Go.Proofs.Tryz
open Go.RowKit
variable[Lo]
def bG(s:AcQ)(vars:AcP):AcQ:=vars.map λv=>s.getD v.toNat []
theorem WG{s:AcQ}{vars:AcP}:(bG s vars).length=vars.length:=Aae ..
theorem C4{s:AcQ}{vars:AcP}{i:Nat}(h:i<vars.length):(bG s vars).getD i []=s.getD (vars.getD i 0).toNat []:=by
 rw[yO _ (by rw[WG];exact h),yO _ h];simp[bG]
abbrev hpF(s:AcQ)(vars:AcP)(turn:Int)(m a:KV):List (Nat×yE):=[(1000,.cells [dS s,.sl .int vars,.own 1001,.own 1002,dI turn]),(1001,.mp .int .int m),(1002,.mp .int .int a)]
def zoP(s:AcQ)(vars:AcP)(turn i:Int)(m a:KV)(b:Bool)(m' a':KV):Prop:=
 (b=true->CM (bG s vars) turn i m a m' a')/\(b=false->m'=m/\KA (bG s vars) turn m a ((bG s vars).getD i.toNat []) a')
theorem C5{n:Int}{m:KV}:MB .int .int n m=(sU .int .int n m).isSome:=rfl
theorem zbu{s:AcQ}{vars:AcP}{turn i:Int}{m a0:KV}(ht:1<=turn)(hm:Ha (bG s vars) m)(hi:0<=i/\i<vars.length)
  (near:∀r∈bG s vars,∀n∈r,-50<=n/\n<=50) (len:∀r∈bG s vars,r.length<=101)
  (rec:∀(a:KV) (k:Int),left turn a<left turn a0->ZU turn a->0<=k->k<vars.length->∃b m' a',xT rO [Ac3,dI k] (hpF s vars turn m a) (.bool b) (hpF s vars turn m' a')/\zoP s vars turn k m a b m' a'):
  ∀(e j:Nat),j+e=(s.getD (vars.getD i.toNat 0).toNat []).length->∀a,KA (bG s vars) turn m a0 ((s.getD (vars.getD i.toNat 0).toNat []).take j) a->
   ∃b m' a' n,pF s vars i (λd h1=>d=.bool b/\h1=hpF s vars turn m' a') n (j:Int) s vars turn m a/\zoP s vars turn i m a0 b m' a':=by
 have hil:i.toNat<vars.length:=by omega
 have hrow:=C4 (s:=s) hil;have hrl:i.toNat<(bG s vars).length:=by rw[WG];exact hil
 have hir:0<=i/\i<(bG s vars).length:=by rw[WG];exact hi
 have hnr:∀n∈s.getD (vars.getD i.toNat 0).toNat [],-50<=n/\n<=50:=λn hn=>by
  rw[<-hrow,yO _ hrl]at hn
  exact near _ (AT hrl) n hn
 have hlr:(s.getD (vars.getD i.toNat 0).toNat []).length<=101:=by
  rw[<-hrow,yO _ hrl];exact len _ (AT hrl)
 have hat:zJ (.list .int) s ((zJ .int vars i.toNat).toNat)=s.getD (vars.getD i.toNat 0).toNat []:=rfl;intro e
 induction e with
 |zero=>
  intro j hj a ha;refine⟨false,m,a,1,?_,λh=>(by cases h),λ_=>⟨rfl,?_⟩⟩
  ·rw[rD,hat,show j=(s.getD (vars.getD i.toNat 0).toNat []).length by omega,zY]
   exact⟨rfl,rfl⟩
  ·rw[hrow]
   rwa[show j=(s.getD (vars.getD i.toNat 0).toNat []).length by omega,Aam]at ha
 |succ e ih=>
  intro j hj a ha;generalize hR:s.getD (vars.getD i.toNat 0).toNat []=row at hrow hat hnr hlr hj ha ih
  have hjl:j<row.length:=by omega
  have hnj:=hnr _ (AT hjl);have hw:yU ((j:Int)+1)=((j+1:Nat):Int):=cH (by omega)
  have hst:row.take (j+1)=row.take j++[row[j]]:=(Aay hjl).symm;have hmem:row[j]∈(bG s vars).getD i.toNat []:=by rw[hrow];exact AT hjl
  by_cases hask:Mc turn a row[j]
  ·obtain⟨b,m',a',n,h1,h2⟩:=ih (j+1) (by omega) a (by rw[hst];exact zhD ha hask)
   refine⟨b,m',a',n+1,?_,h2⟩;rw[rD,hat,yD hjl,yA (t:=.int) hjl];refine⟨zI hjl,dt hask ?_⟩;rw[hw];exact h1
  ·have hal:a.length<=101:=ha.ask.length
   have hml:m.length<=101:=hm.length near;have hap:=ha.ask.put hnj ht;cases hg:sU .int .int row[j] m with
   |none=>
    refine⟨true,_,_,1,?_,λ_=>(zhB hm ha.ask ht hnj ⟨hi.1,hir.2,hmem⟩ hask hg).start ha.more,λh=>(by cases h)⟩
    rw[rD,hat,yD hjl,yA (t:=.int) hjl];refine⟨zI hjl,df hask ⟨Aaf (by omega),?_⟩⟩
    rw[C5,hg];exact⟨Aaf (by omega),rfl,rfl⟩
   |some k=>
    have hk:=hm.ok _ _ hg;rw[WG]at hk
    have hlt:left turn (rB .int .int row[j] turn a)<left turn a0:=Aaz (zrh hnj hask) (zmf ha.more);obtain⟨b,m2,a2,hs,p1,p2⟩:=rec _ k hlt hap hk.1 hk.2.1;have hgd:kC .int .int row[j] m=k:=by rw[kC,hg];rfl
    cases b with
    |true=>
     have hfd:=p1 rfl;refine⟨true,_,_,1,?_,λ_=>(zhC ⟨hi.1,hir.2,hmem⟩ hask hg hfd).start ha.more,λh=>(by cases h)⟩
     rw[rD,hat,yD hjl,yA (t:=.int) hjl];refine⟨zI hjl,df hask ⟨Aaf (by omega),?_⟩⟩
     rw[C5,hg,hgd];have:=hfd.ok.length near;exact⟨true,m2,a2,hs,Aaf (by omega),rfl,rfl⟩
    |false=>
     obtain⟨rfl,htr⟩:=p2 rfl;obtain⟨b,m',a',n,h1,h2⟩:=ih (j+1) (by omega) a2 (by rw[hst];exact zhE ha hg htr)
     refine⟨b,m',a',n+1,?_,h2⟩;rw[rD,hat,yD hjl,yA (t:=.int) hjl];refine⟨zI hjl,df hask ⟨Aaf (by omega),?_⟩⟩
     rw[C5,hg,hgd];refine⟨false,m2,a2,hs,?_⟩;rw[hw];exact h1
theorem Sz{s:AcQ}{vars:AcP}{turn:Int}(ht:1<=turn)(hv:∀v∈vars,0<=v/\v<s.length)(near:∀r∈bG s vars,∀n∈r,-50<=n/\n<=50)(len:∀r∈bG s vars,r.length<=101):
  ∀(d:Nat) (m a:KV) (i:Int),left turn a<=d->Ha (bG s vars) m->ZU turn a->0<=i->i<vars.length->
   ∃b m' a',xT rO [Ac3,dI i] (hpF s vars turn m a) (.bool b) (hpF s vars turn m' a')/\zoP s vars turn i m a b m' a':=by
 intro d
 induction d with
 |zero=>
  intro m a i hd hm ha h0 h1;obtain⟨b,m',a',n,h2,h3⟩:=zbu ht hm ⟨h0,h1⟩ near len (a0:=a) (λa k hl _ _ _=>At hl (by omega)) _ 0 (Aat _) a (zbn ha)
  refine⟨b,m',a',aZ s vars turn m a i λ_ _=> ?_,h3⟩
  rw[ZY];exact⟨uW.2 (by omega),uW.2 (by have:=hv (zJ .int vars i.toNat) (by rw[atN (t:=.int) (show i.toNat<vars.length by omega)];exact AT _);omega),n,h2⟩
 |succ d ih=>
  intro m a i hd hm ha h0 h1;obtain⟨b,m',a',n,h2,h3⟩:=zbu ht hm ⟨h0,h1⟩ near len (a0:=a) (λa' k hl hok hk0 hk1=>ih m a' k (by omega) hm hok hk0 hk1) _ 0 (Aat _) a (zbn ha)
  refine⟨b,m',a',aZ s vars turn m a i λ_ _=> ?_,h3⟩
  rw[ZY];exact⟨uW.2 (by omega),uW.2 (by have:=hv (zJ .int vars i.toNat) (by rw[atN (t:=.int) (show i.toNat<vars.length by omega)];exact AT _);omega),n,h2⟩
theorem zfF{α:Type}{l:List α}(h:l.Nodup){i j:Nat}(hi:i<l.length)(hj:j<l.length)(e:l[i]=l[j]):i=j:=by
 rcases Nat.lt_trichotomy i j with h1|h1|h1
 ·exact At e (Ace.1 h i j hi hj h1)
 ·exact h1
 ·exact At e.symm (Ace.1 h j i hj hi h1)
theorem KN{c:zF}(hk:c.kind=4){vs:AcP}:wO c vs=decide (sD c vs).Nodup:=by
 rw[wO];simp[hk]
theorem zhN{c:zF}{s:AcQ}(hc:vQ c s.length)(hk:c.kind=4)(hnd:c.vars.Nodup)(hf:zZ s=false){v n:Int}(hv:v∈c.vars)(hn:n∈s.getD v.toNat []):
  May (wO c) s v.toNat n↔∃σ:Nat->Int,(∀j,j<c.vars.length->σ j∈(bG (s.set v.toNat [n]) c.vars).getD j [])/\∀j k,j<c.vars.length->k<c.vars.length->σ j=σ k->j=k:=by
 have hvv:=hc.vars v hv;have hvl:v.toNat<s.length:=by omega
 have hset:∀u:Nat,(s.set v.toNat [n]).getD u []=if u=v.toNat then[n]else s.getD u []:=λu=>by
  rw[Aar,Aar,AbS]
  by_cases e:u=v.toNat
  ·rw[As e.symm,As e,As (by omega)];rfl
  ·rw[An (λx=>e x.symm),An e]
 have hrow:∀(j:Nat) (hj:j<c.vars.length),(bG (s.set v.toNat [n]) c.vars).getD j []=if c.vars[j].toNat=v.toNat then[n]else s.getD c.vars[j].toNat []:=λj hj=>by
  rw[C4 hj,hset,yO _ hj]
 constructor
 ·rintro⟨vs,h1,h2,h3⟩
  refine⟨λj=>vs.getD (c.vars.getD j 0).toNat 0,λj hj=> ?_,λj k hj hk2 e=> ?_⟩
  ·rw[hrow j hj]
   show vs.getD (c.vars.getD j 0).toNat 0∈_
   rw[yO _ hj];split
   ·rename_i e;rw[e,h2];exact Aab.2 rfl
   ·have:=hc.vars _ (AT hj)
    exact h1.2 _ (by omega)
  ·rw[KN hk]at h3
   have h4:=BY h3;refine zfF h4 (by rw[iA];exact hj) (by rw[iA];exact hk2) ?_
   rw[QZ hj,QZ hk2];simpa only[yO _ hj,yO _ hk2]using e
 ·rintro⟨σ,h1,h2⟩
  obtain⟨ps,hp⟩:=Pc hf;have hg:∀u:Nat,u<s.length->((List.range s.length).map λu:Nat=>if(u:Int)∈c.vars then σ (c.vars.idxOf (u:Int))else ps.getD u 0).getD u 0=if(u:Int)∈c.vars then σ (c.vars.idxOf (u:Int))else ps.getD u 0:=λu hu=>Sx hu
  have hix:∀(j:Nat) (hj:j<c.vars.length),c.vars.idxOf c.vars[j]=j:=λj hj=>by
   have h5:c.vars.idxOf c.vars[j]<c.vars.length:=List.idxOf_lt_length_of_mem (AT hj);exact zfF hnd h5 hj (List.getElem_idxOf h5)
  have hat:∀(j:Nat) (hj:j<c.vars.length),((List.range s.length).map λu:Nat=>if(u:Int)∈c.vars then σ (c.vars.idxOf (u:Int))else ps.getD u 0).getD c.vars[j].toNat 0=σ j:=λj hj=>by
   have:=hc.vars _ (AT hj);rw[hg _ (by omega),Abj this.1,As (AT hj),hix j hj]
  refine⟨(List.range s.length).map λu:Nat=>if(u:Int)∈c.vars then σ (c.vars.idxOf (u:Int))else ps.getD u 0,⟨by simp,λu hu=> ?_⟩,?_,?_⟩
  ·rw[hg u hu]
   split
   ·rename_i e
    obtain⟨j,hj,e2⟩:=Aas e;rw[<-e2,hix j hj];have h5:=h1 j hj;rw[hrow j hj,e2,Aap]at h5
    split at h5
    ·rename_i e3;rw[Aab.1 h5,e3];exact hn
    ·exact h5
   ·exact hp.2 u hu
  ·obtain⟨j,hj,rfl⟩:=Aas hv
   rw[hat j hj];have h5:=h1 j hj;rw[hrow j hj,As rfl]at h5
   exact Aab.1 h5
  ·rw[KN hk]
   refine Aaf (Ace.2 λi j hi hj hij e=> ?_)
   rw[iA]at hi hj
   rw[QZ hi,QZ hj,hat i hi,hat j hj]at e
   have:=h2 i j hi hj e;omega
theorem zfG(s:AcQ):xT rY [dS s] [] (.own 3000) [(3000,.row 28 (.list .int) s)]:=
 Yz s λok _=>by
  rw[Xy];intro b hb;refine zC (λe=> ?_) λe=>⟨?_,?_⟩
  ·rw[hb e];exact⟨rfl,rfl⟩
  ·refine xC (t:=.list .int) ?_
   have:=(fk (t:=.list .int) (Qm ok)).1;show(0+s.length)*24<=_
   have h8:s.length*24<=140737488355328:=this;omega
  ·exact⟨rfl,rfl⟩
theorem Tx(c:zF)(s:AcQ):xT lE [dC c,dS s] [] (.clo tZ none [.iptr [dS s] 0,.iptr [.int .i64 c.kind,.sl .int c.vars,.sl .int c.consts,.int .i64 c.n,.sl (.list .int) c.rows,.sl .lit c.lits] 0]) []:=
 KF c s λ_ _=>by
  rw[He];exact⟨rfl,rfl⟩
theorem W8{c:zF}{s:AcQ}(hc:vQ c s.length)(hk:c.kind=4)(hnd:c.vars.Nodup)(hs:jL s s.length)(hf:zZ s=false){v n:Int}(hv:v∈c.vars)(hn:n∈s.getD v.toNat []):
  vL tZ [dI v,dI n,.iptr [dS s] 0,.iptr [.int .i64 c.kind,.sl .int c.vars,.sl .int c.consts,.int .i64 c.n,.sl (.list .int) c.rows,.sl .lit c.lits] 0] (dB (mayB (wO c) s v.toNat n)):=
 Ny v n s c λok=>by
  have hvv:=hc.vars v hv;have hm4:=hc.many;have hmay:=zhN hc hk hnd hf hv hn
  have hset:∀u:Nat,(s.set v.toNat [n]).getD u []=if u=v.toNat then[n]else s.getD u []:=λu=>by
   rw[Aar,Aar,AbS]
   by_cases e:u=v.toNat
   ·rw[As e.symm,As e,As (by omega)];rfl
   ·rw[An (λx=>e x.symm),An e]
  have near:∀r∈bG (s.set v.toNat [n]) c.vars,∀x∈r,-50<=x/\x<=50:=λr hr x hx=>by
   obtain⟨u,hu,rfl⟩:=OF.1 hr;rw[hset]at hx
   split at hx
   ·rw[Aab.1 hx];exact hs.near _ n hn
   ·exact hs.near _ x hx
  have len:∀r∈bG (s.set v.toNat [n]) c.vars,r.length<=101:=λr hr=>by
   obtain⟨u,hu,rfl⟩:=OF.1 hr;rw[hset];split
   ·show 1<=101;decide
   ·exact hs.row _
  have hv2:∀u∈c.vars,0<=u/\u<(s.set v.toNat [n]).length:=λu hu=>by rw[AaT];exact hc.vars u hu
  rw[Lb];refine⟨s,zfG s,uW.2 hvv,?_⟩;show∃n0,oa c _ n0 0 ([]:KV) ([]:KV) (s.set v.toNat [n]) c.vars 0
  refine up (I:=λn0 u (a:KV×KV)=>oa c _ n0 u a.1 a.2 (s.set v.toNat [n]) c.vars u) (a:=(([]:KV),([]:KV))) 0 c.vars.length rfl (Is _) (by omega)
   (λk a=>Ha (bG (s.set v.toNat [n]) c.vars) a.1/\(a.1.map Prod.snd).Perm (upI k)/\ZU (k:Int) a.2) ⟨zoL,List.Perm.refl _,zmg⟩ λn0 k a _ hk2 ha hnx=> ?_
  obtain⟨m,a⟩:=a;obtain⟨h1,h2,h3⟩:=ha;show oa c _ (n0+1) (k:Int) m a (s.set v.toNat [n]) c.vars (k:Int)
  rw[R3]
  by_cases h:k<c.vars.length
  ·rw[yD h]
   have hw:yU ((k:Int)+1)=((k+1:Nat):Int):=cH (by omega)
   have h3':ZU ((k+1:Nat):Int) a:=h3.later (by omega)
   obtain⟨b,m',a',q1,q2,q3⟩:=Sz (turn:=((k+1:Nat):Int)) (by omega) hv2 near len _ m a (k:Int) (IN _) h1 h3' (by omega) (by omega)
   rw[hw];refine⟨b,m',a',q1,?_⟩;cases b with
   |false=>
    refine bnt rfl ?_;obtain⟨_,htr⟩:=q3 rfl;rw[Aap]at htr
    have hno:=zhF h1 h2 (h3.none (by omega) (by omega)) htr
    rw[zhy.2];intro hy;obtain⟨σ,y1,y2⟩:=hmay.1 hy;exact hno ⟨σ,λj hj=>y1 j (by omega),λj k2 hj hk3=>y2 j k2 (by omega) (by omega)⟩
   |true=>
    refine bnf rfl ?_;have hfd:=q2 rfl;have:=hnx h (m',a') ⟨hfd.ok,hfd.vals.trans ((h2.cons _).trans zoM),hfd.ask⟩;rw[hw]at this
    exact this
  ·have hk':k=c.vars.length:=by omega
   subst hk';rw[zY,nE.2];have hall:=zoN h1 (by rw[WG];exact h2)
   rw[WG]at hall
   exact hmay.2 hall
end Go.Proofs.YtdnmkinmcdihnaaGreatDoor
namespace Go.Proofs.YtdnmkinmcdihnaaGreatDoor
open Go.Proofs.Tryz
open Go.RowKit
variable[Lo]
abbrev MV:=List ((Int×Int)×Int)
structure Uh (nv:Nat)(m:MV):Prop where
 nodup:(m.map Prod.fst).Nodup
 near:∀x∈m.map Prod.fst,(0<=x.1/\x.1<(nv:Int))/\-50<=x.2/\x.2<=50
 one:∀(x:Int×Int) (k:Int),sU (.pr .int .int) .int x m=some k->k=1
theorem zmo{nv:Nat}:Uh nv []:=⟨Abx,λn hn=>(by cases hn),λn t h=>(by cases h)⟩
theorem Uh.length{nv:Nat}{m:MV}(h:Uh nv m):m.length<=nv*101:=by
 have h1:((m.map Prod.fst).map λx=>x.1*101+x.2+50).Nodup:=OB h.nodup λx hx y hy e=>by
  have a:=h.near x hx;have b:=h.near y hy;have e1:x.1=y.1:=by omega
  exact Prod.ext e1 (by omega)
 have:=YE h1 (lo:=0) (n:=nv*101) λx hx=>by
  obtain⟨y,hy,rfl⟩:=OF.1 hx;have a:=h.near y hy;omega
 rwa[Aae,Aae]at this
theorem Uh.put{nv:Nat}{m:MV}(h:Uh nv m){x:Int×Int}(hx:(0<=x.1/\x.1<(nv:Int))/\-50<=x.2/\x.2<=50):Uh nv (rB (.pr .int .int) .int x 1 m):=by
 refine⟨CK (kt:=.pr .int .int) (vt:=.int) OA h.nodup,λy hy=> ?_,λy k hy=> ?_⟩
 ·rcases(CL (kt:=.pr .int .int) (vt:=.int) OA m).1 hy with rfl|hy
  ·exact hx
  ·exact h.near y hy
 ·by_cases e:y=x
  ·subst e
   rw[Tt (kt:=.pr .int .int) (vt:=.int) OA]at hy
   exact(Option.some.inj hy).symm
  ·rw[W6 (kt:=.pr .int .int) (vt:=.int) OA e]at hy;exact h.one y k hy
def UG(vars vs:AcP)(m:MV):MV:=vars.foldl (λm v=>rB (.pr .int .int) .int (v,vs.getD v.toNat 0) 1 m) m
theorem Pm{vars vs:AcP}{m:MV}{v:Int}:UG (vars++[v]) vs m=rB (.pr .int .int) .int (v,vs.getD v.toNat 0) 1 (UG vars vs m):=by rw[UG,Abg];rfl
theorem zhO{vs:AcP}{m:MV}{x:Int×Int}(vars:AcP):x∈(UG vars vs m).map Prod.fst↔x∈m.map Prod.fst\/∃v∈vars,x=(v,vs.getD v.toNat 0):=by
 refine gP (C:=λvars=>x∈(UG vars vs m).map Prod.fst↔x∈m.map Prod.fst\/∃v∈vars,x=(v,vs.getD v.toNat 0)) (by simp[UG]) (λl a ih=> ?_) vars
 rw[Pm,CL (kt:=.pr .int .int) (vt:=.int) OA,ih];constructor
 ·rintro(h|h|⟨v,hv,h⟩)
  ·exact .inr ⟨a,by simp,h⟩
  ·exact .inl h
  ·exact .inr ⟨v,by simp[hv],h⟩
 ·rintro(h|⟨v,hv,h⟩)
  ·exact .inr (.inl h)
  ·rcases Aai.1 hv with hv|hv
   ·exact .inr (.inr ⟨v,hv,h⟩)
   ·rw[Aab.1 hv]at h;exact .inl h
theorem zbv{nv:Nat}{vs:AcP}{m:MV}(h:Uh nv m)(hn:∀u:Nat,-50<=vs.getD u 0/\vs.getD u 0<=50)(vars:AcP):(∀v∈vars,0<=v/\v<(nv:Int))->Uh nv (UG vars vs m):=by
 refine gP (C:=λvars=>(∀v∈vars,0<=v/\v<(nv:Int))->Uh nv (UG vars vs m)) (λ_=>h) (λl a ih hv=> ?_) vars
 rw[Pm];exact(ih λv h=>hv v (by simp[h])).put ⟨hv a (by simp),hn _⟩
abbrev hpW(c:zF)(s:AcQ)(vars vs:AcP)(m:MV):List (Nat×yE):=[(1000,.cells [.int .i64 c.kind,.sl .int c.vars,.sl .int c.consts,.int .i64 c.n,.sl (.list .int) c.rows,.sl .lit c.lits,dS s,.sl .int vars,.own 2000,.own 1001]),(2000,.row 3 .int vs),(1001,.mp (.pr .int .int) .int m)]
structure zoQ (c:zF)(s:AcQ)(vars r vs:AcP)(m:MV)(vs':AcP)(m':MV):Prop where
 len:vs'.length=vs.length
 near:∀u:Nat,-50<=vs'.getD u 0/\vs'.getD u 0<=50
 same:∀u:Nat,(∀v∈r,v.toNat≠u)->vs'.getD u 0=vs.getD u 0
 ok:Uh s.length m'
 mem:∀x:Int×Int,x∈m'.map Prod.fst↔x∈m.map Prod.fst\/KC c s vars r vs x
theorem zmp{c:zF}{s:AcQ}{vars:AcP}(hs:jL s s.length)(hnv:s.length<=6)(hv:∀v∈vars,0<=v/\v<s.length)(hnd:vars.Nodup){i:Nat}(hi:i<vars.length){vs0:AcP}{m0:MV}(hl0:vs0.length=s.length)
  (rec:∀(vs:AcP) (m:MV),vs.length=s.length->(∀u:Nat,-50<=vs.getD u 0/\vs.getD u 0<=50)->Uh s.length m->∃vs' m',xT xG [Ac3,dI ((i+1:Nat):Int)] (hpW c s vars vs m) (.tup []) (hpW c s vars vs' m')/\zoQ c s vars (vars.drop (i+1)) vs m vs' m'):
  ∀(e j:Nat),j+e=(s.getD vars[i].toNat []).length->∀(vs:AcP) (m:MV),vs.length=s.length->(∀u:Nat,-50<=vs.getD u 0/\vs.getD u 0<=50)->(∀u:Nat,(∀v∈vars.drop i,v.toNat≠u)->vs.getD u 0=vs0.getD u 0)->Uh s.length m->
   (∀x:Int×Int,x∈m.map Prod.fst↔x∈m0.map Prod.fst\/∃n∈(s.getD vars[i].toNat []).take j,KC c s vars (vars.drop (i+1)) (vs0.set vars[i].toNat n) x)->
   ∃vs' m' n,mX s vars (i:Int) (λd h1=>d=.tup []/\h1=hpW c s vars vs' m') n (j:Int) c.kind c.vars c.consts c.n c.rows c.lits s vars m vs/\zoQ c s vars (vars.drop i) vs0 m0 vs' m':=by
 have hvi:=hv _ (AT hi);have hdr:vars.drop i=vars[i]::vars.drop (i+1):=Aa4 hi;have hnd2:(vars[i]::vars.drop (i+1)).Nodup:=by rw[<-hdr];exact hnd.sublist (List.drop_sublist ..)
 rw[AaM]at hnd2
 have hrow:=hs.row vars[i].toNat;have hnr:=hs.near vars[i].toNat;have hat:zJ (.list .int) s ((zJ .int vars (i:Int).toNat).toNat)=s.getD vars[i].toNat []:=by rw[yA (t:=.int) hi];rfl
 have hpc:∀x,KC c s vars (vars.drop i) vs0 x↔∃n∈s.getD vars[i].toNat [],KC c s vars (vars.drop (i+1)) (vs0.set vars[i].toNat n) x:=λx=>by
  rw[hdr];exact zmj hvi.1 (by omega) (λu hu=>(hv u (List.mem_of_mem_drop hu)).1) hnd2.1
 generalize hR:s.getD vars[i].toNat []=row at hrow hnr hat hpc
 intro e
 induction e with
 |zero=>
  intro j hj vs m hl hnear hsame hok hmem;refine⟨vs,m,1,?_,hl.trans hl0.symm,hnear,hsame,hok,λx=> ?_⟩
  ·rw[bF,hat,show j=row.length by omega,zY]
   exact⟨rfl,rfl⟩
  ·rw[hmem x,show j=row.length by omega,Aam,hpc x]
 |succ e ih=>
  intro j hj vs m hl hnear hsame hok hmem;have hjl:j<row.length:=by omega
  have hvl:vars[i].toNat<vs.length:=by omega
  have hw:yU ((j:Int)+1)=((j+1:Nat):Int):=cH (by omega)
  have hwi:yU ((i:Int)+1)=((i+1:Nat):Int):=cH (by
   have:=YE hnd (lo:=0) (n:=s.length) λx hx=>by have:=hv x hx;omega
   omega)
  have hset:∀u:Nat,(vs.set vars[i].toNat row[j]).getD u 0=if u=vars[i].toNat then row[j]else vs.getD u 0:=λu=>rQ hvl
  obtain⟨vs1,m1,h1,h2⟩:=rec (vs.set vars[i].toNat row[j]) m (by rw[AaT];exact hl) (λu=>by
   rw[hset u];split
   ·exact hnr _ (AT hjl)
   ·exact hnear u) hok
  obtain⟨vs',m',n,h3,h4⟩:=ih (j+1) (by omega) vs1 m1 (by rw[h2.len,AaT];exact hl) h2.near (λu hu=>by
   rw[h2.same u λv hv=>hu v (by rw[hdr];exact Aac _ hv),hset u,An λe=>hu vars[i] (by rw[hdr];exact Aaa ..) e.symm]
   exact hsame u hu) h2.ok λx=>by
    have hp:KC c s vars (vars.drop (i+1)) (vs.set vars[i].toNat row[j]) x↔KC c s vars (vars.drop (i+1)) (vs0.set vars[i].toNat row[j]) x:=by
     refine zhK (by rw[AaT,AaT,hl,hl0]) λu hu=> ?_
     rw[hset u,rQ (by omega)]
     split
     ·rfl
     ·rename_i e
      refine hsame u λv hv=> ?_
      rw[hdr]at hv
      rcases Aad.1 hv with rfl|hv
      ·exact λe2=>e e2.symm
      ·exact hu v hv
    rw[h2.mem x,hmem x,hp,<-Aay hjl];simp only[Aai,Aab];constructor
    ·rintro((h|⟨n,hn,h⟩)|h)
     ·exact .inl h
     ·exact .inr ⟨n,.inl hn,h⟩
     ·exact .inr ⟨_,.inr rfl,h⟩
    ·rintro(h|⟨n,hn|hn,h⟩)
     ·exact .inl (.inl h)
     ·exact .inl (.inr ⟨n,hn,h⟩)
     ·rw[hn]at h;exact .inr h
  refine⟨vs',m',n+1,?_,h4⟩;rw[bF,hat,yD hjl,yA (t:=.int) hi,yA (t:=.int) hjl,hwi,hw];exact⟨zI hjl,zI hi,uW.2 (by omega),vs1,m1,h1,h3⟩
theorem R4{c:zF}{s:AcQ}{vars:AcP}(hc:vQ c s.length)(hs:jL s s.length)(hv:∀v∈vars,0<=v/\v<s.length)(hnd:vars.Nodup):
  ∀(d i:Nat),i+d=vars.length->∀(vs:AcP) (m:MV),vs.length=s.length->(∀u:Nat,-50<=vs.getD u 0/\vs.getD u 0<=50)->Uh s.length m->∃vs' m',xT xG [Ac3,dI (i:Int)] (hpW c s vars vs m) (.tup []) (hpW c s vars vs' m')/\zoQ c s vars (vars.drop i) vs m vs' m':=by
 have hnv:=hc.nv6
 have hvl:vars.length<=6:=by
  have:=YE hnd (lo:=0) (n:=s.length) λx hx=>by have:=hv x hx;omega
  omega
 intro d
 induction d with
 |zero=>
  intro i hi vs m hl hnear hok
  have hgv:Rx vs s.length:=⟨hl,λn hn=>by
   obtain⟨u,hu,rfl⟩:=Aas hn;have:=hnear u
   rwa[yO _ hu]at this⟩
  have hd:vars.drop i=[]:=Acv (by omega)
  have hpn:∀x,KC c s vars (vars.drop i) vs x↔wO c vs=true/\∃v∈vars,x=(v,vs.getD v.toNat 0):=λx=>by rw[hd];exact zoO
  cases ht:wO c vs with
  |false=>
   refine⟨vs,m,iD c.kind c.vars c.consts c.n c.rows c.lits s vars vs m (i:Int) λ_ _=> ?_,rfl,hnear,λ_ _=>rfl,hok,λx=> ?_⟩
   ·rw[fb]
    refine dt (by omega) (zG (gO hc hgv) (bf ht ?_))
    exact⟨rfl,rfl⟩
   ·rw[hpn,ht];simp
  |true=>
   refine⟨vs,UG vars vs m,iD c.kind c.vars c.consts c.n c.rows c.lits s vars vs m (i:Int) λ_ _=> ?_,rfl,hnear,λ_ _=>rfl,zbv hok hnear vars hv,λx=> ?_⟩
   ·rw[fb]
    refine dt (by omega) (zG (gO hc hgv) (bt ht ?_))
    refine up (I:=λn v a=>mW c.kind c.vars c.consts c.n c.rows c.lits s vars vs _ n v a) 0 vars.length rfl (Is _) (by omega) (λk a=>a=UG (vars.take k) vs m) rfl λn k a _ hk ha hn=> ?_
    subst ha;rw[UF]
    by_cases h:k<vars.length
    ·have hvk:=hv _ (AT h)
     have hml:=(zbv hok hnear (vars.take k) λv hv2=>hv v (Abp hv2)).length
     rw[yD h,yA (t:=.int) h];refine⟨zI h,uW.2 (by omega),Aaf (by omega),hn h _ ?_⟩
     rw[<-Aay h,Pm];rfl
    ·have hk':k=vars.length:=by omega
     subst hk';rw[zY,Aam];exact⟨rfl,rfl⟩
   ·rw[hpn,ht,zhO];simp
 |succ d ih=>
  intro i hi vs m hl hnear hok;have hil:i<vars.length:=by omega
  have hvi:=hv _ (AT hil);obtain⟨vs',m',n,h1,h2⟩:=zmp (c:=c) (m0:=m) hs hnv hv hnd hil hl (λvs m a b c=>ih (i+1) (by omega) vs m a b c) _ 0 (Aat _) vs m hl hnear (λ_ _=>rfl) hok λx=>by simp
  refine⟨vs',m',iD c.kind c.vars c.consts c.n c.rows c.lits s vars vs m (i:Int) λ_ _=> ?_,h2⟩
  rw[fb];refine df (by omega) ⟨zI hil,?_,n,h1⟩
  rw[yA (t:=.int) hil];exact uW.2 hvi
def zoR(c:zF)(s:AcQ)(m:MV):Prop:=Uh s.length m/\∀v n:Int,(v,n)∈m.map Prod.fst↔v∈yI c s.length/\May (wO c) s v.toNat n
theorem Pn{c:zF}{s:AcQ}(hc:vQ c s.length)(hs:jL s s.length)(hf:zZ s=false):
  ∃vs m,zoR c s m/\xT qT [dC c,dS s] [] (.clo yH none [.iptr [.iptr [.int .i64 c.kind,.sl .int c.vars,.sl .int c.consts,.int .i64 c.n,.sl (.list .int) c.rows,.sl .lit c.lits,dS s,.sl .int (yI c s.length),.sl .int vs,.mp (.pr .int .int) .int m] 0] 0]) []:=by
 have hnv:=hc.nv6
 have hz:∀u:Nat,(List.replicate s.length (0:Int)).getD u 0=0:=λu=>by
  by_cases h:u<s.length
  ·rw[yO _ (by rw[AbW];exact h),List.getElem_replicate]
  ·exact qK (by rw[AbW];omega)
 obtain⟨vs,m,h1,h2⟩:=R4 (c:=c) (s:=s) (vars:=yI c s.length) hc hs (λv hv=>lN v hv) Ue _ 0 (Aat _) (List.replicate s.length 0) [] (AbW ..) (λu=>by rw[hz u];decide) zmo
 refine⟨vs,m,⟨h2.ok,λv n=> ?_⟩,Fx c s λok _=> ?_⟩
 ·rw[h2.mem,Abv,zfD hc hf (AbW ..)];simp
 ·rw[CX]
  refine zG (bE hc) ?_;rw[Aap];have hr:yX .int s.length=true:=xC (t:=.int) (by show _*8<=_;omega)
  have h0:(0:Int)<=(s.length:Int):=by omega
  have hE:∃w2:AcP,∃w3:List ((Int×Int)×Int),xT xG [Ac3,dI 0] [(1000,.cells [.int .i64 c.kind,.sl .int c.vars,.sl .int c.consts,.int .i64 c.n,.sl (.list .int) c.rows,.sl .lit c.lits,.sl (.list .int) s,.sl .int (yI c s.length),.own 2000,.own 1001]),(2000,.row 3 .int (List.replicate s.length (Ty.dflt .int))),(1001,.mp (.pr .int .int) .int ([]:List ((Int×Int)×Int)))] (.tup []) [(1000,.cells [.int .i64 c.kind,.sl .int c.vars,.sl .int c.consts,.int .i64 c.n,.sl (.list .int) c.rows,.sl .lit c.lits,.sl (.list .int) s,.sl .int (yI c s.length),.own 2000,.own 1001]),(2000,.row 3 .int w2),(1001,.mp (.pr .int .int) .int w3)]/\
    (D.clo yH none [.iptr [.iptr [.int .i64 c.kind,.sl .int c.vars,.sl .int c.consts,.int .i64 c.n,.sl (.list .int) c.rows,.sl .lit c.lits,.sl (.list .int) s,.sl .int (yI c s.length),.sl .int w2,.mp (.pr .int .int) .int w3] 0] 0]=D.clo yH none [.iptr [.iptr [.int .i64 c.kind,.sl .int c.vars,.sl .int c.consts,.int .i64 c.n,.sl (.list .int) c.rows,.sl .lit c.lits,dS s,.sl .int (yI c s.length),.sl .int vs,.mp (.pr .int .int) .int m] 0] 0]/\([]:List (Nat×yE))=[]):=⟨vs,m,h1,rfl,rfl⟩
  repeat'(first|exact hE|exact hr|exact h0|exact rfl|apply And.intro)
theorem Tz{c:zF}{s:AcQ}{vs:AcP}{m:MV}(h:zoR c s m){v n:Int}(hv:v∈yI c s.length){ks:AcT}:
  vL yH [dI v,dI n,.iptr [.iptr [.int .i64 c.kind,.sl .int c.vars,.sl .int c.consts,.int .i64 c.n,.sl (.list .int) c.rows,.sl .lit c.lits,dS s,.sl .int (yI c s.length),.sl .int vs,.mp (.pr .int .int) .int m] 0] 0] (dB (mayB (wO c) s v.toNat n)):=
 KG v n c s (yI c s.length) vs m λok=>by
  rw[Hg];show dB _=dB _
  congr 1
  have hg:kC (.pr .int .int) .int (v,n) m=1↔(v,n)∈m.map Prod.fst:=by
   rw[XG (kt:=.pr .int .int) (vt:=.int) OA];constructor
   ·intro e
    rw[kC]at e
    cases e2:sU (.pr .int .int) .int (v,n) m with
    |none=>rw[e2]at e;exact At e (by decide)
    |some k=>exact⟨k,rfl⟩
   ·rintro⟨k,e⟩
    rw[kC,e,h.1.one _ _ e];rfl
  rw[AaO,AaC,nE];exact hg.trans ((h.2 v n).trans ⟨λh=>h.2,λh=>⟨hv,h⟩⟩)
end Go.Proofs.YtdnmkinmcdihnaaGreatDoor
namespace Go.Proofs.YtdnmkinmcdihnaaGreatDoor
open Go.Proofs.Tryz
open Go.RowKit
variable[Lo]
theorem zfH:∀ {l l':AcP},l'.Nodup->l'⊆l->¬l.Nodup->l'.length<l.length
 |[],l',_,_,h=>At Abx h
 |x::l,l',h1,h2,h3=>by
  by_cases hx:x∈l
  ·have:l'.length<=l.length:=h1.length_le_of_subset λy hy=>by
    rcases Aad.1 (h2 hy)with rfl|h
    ·exact hx
    ·exact h
   rw[By];omega
  ·have h4:¬l.Nodup:=λh=>h3 (AaM.2 ⟨hx,h⟩)
   have h5:=zfH (l:=l) (l':=l'.erase x) (h1.erase x) (λy hy=>by
    have hy2:=List.mem_of_mem_erase hy;rcases Aad.1 (h2 hy2)with rfl|h
    ·exact At hy (by rw[h1.mem_erase_iff];exact λe=>e.1 rfl)
    ·exact h) h4
   have h6:l'.length<=(l'.erase x).length+1:=by rw[List.length_erase];split<;>omega
   rw[By];omega
theorem A9{l:AcP}:decide ((Lib.compact (aW l)).length<l.length)= !decide l.Nodup:=by
 have hs:=Q9 (zkJ l);have hn:(Lib.compact (aW l)).Nodup:=hs.imp fun {a b} h=>by omega
 have hm:∀x,x∈Lib.compact (aW l)↔x∈l:=λx=>by rw[Q8];exact(Acz _ _).mem_iff
 by_cases h:l.Nodup
 ·rw[Aaf h]
  exact Aao (by have:=h.length_le_of_subset λx hx=>(hm x).2 hx;omega)
 ·rw[Aao h]
  exact Aaf (zfH hn (λx hx=>(hm x).1 hx) h)
theorem RD(l:AcP):vL kS [.sl .int l] (dB (!decide l.Nodup)):=
 Hd l λok=>by
  rw[Fy];refine⟨_,M0 l,_,Oz _,_,Su _,?_⟩;rw[zhm,A9]
theorem RE{v n:Int}{sc:AcP}{g:AcM}{caps:AcT}(he:fV g){b:Bool}(hg:mE sc v=true->vL g (dI v::dI n::caps) (dB b))(hb:mE sc v=false->b=true):
  vL vJ [dI v,dI n,.iptr [.sl .int sc] 0,.iptr [.clo g none caps] 0] (dB b):=
 oT.iclo (pre:=[_,_,_]) (Hf v n sc g caps λok=>by
  rw[Fz];refine zG (uU (a:=v)) ?_;show zT (!mE sc v) _ _
  refine zC (λe=> ?_) λe=>⟨he,?_⟩
  ·rw[hb (by simpa using e)]
  ·exact zG (hg (by simpa using e)) rfl)
theorem SA{c:zF}{nv v:Nat}(hv:v<nv):mE (yI c nv) (v:Int)=Fw c v:=by
 rw[AaO,pE,mF];exact⟨λh=>h.2,λh=>⟨by omega,h⟩⟩
theorem SB{c:zF}{nv:Nat}(hc:vQ c nv)(hl:c.lits=[]){v:Int}(h:v∈yI c nv):v∈c.vars:=by
 rcases zoJ (mF.1 h).2 with h|⟨l,h,_⟩
 ·exact h
 ·rw[hl]at h;cases h
theorem Po{c:zF}{nv:Nat}(hc:vQ c nv)(hk:c.kind<=8):c.lits=[]:=by
 have hf:=hc.form;have h1:=hc.kind.1;have:c.kind=1\/c.kind=2\/c.kind=3\/c.kind=4\/c.kind=5\/c.kind=6\/c.kind=7\/c.kind=8:=by omega
 rcases this with e|e|e|e|e|e|e|e<;>simp[V0,e]at hf<;>simp_all
theorem GA{c:zF}{nv:Nat}(hc:vQ c nv)(h:yI c nv=[]):vQ c 0/\c.vars=[]/\c.lits=[]:=by
 have hv:c.vars=[]:=AcJ.2 λv hv=>by
  have h1:=hc.vars v hv;have:v∈yI c nv:=mF.2 ⟨h1,zkK hv⟩;rw[h]at this;cases this
 have hl:c.lits=[]:=AcJ.2 λl hl=>by
  have h1:=(kV.1 (hc.lits l hl)).1;have:l.var∈yI c nv:=mF.2 ⟨h1,zkL hl⟩;rw[h]at this;cases this
 exact⟨⟨Is _,hc.kind,hc.many,hc.form,λv h=>(by rw[hv]at h;cases h),hc.consts,hc.n,hc.rows,λl h=>(by rw[hl]at h;cases h)⟩,hv,hl⟩
theorem Me{c:zF}{s:AcQ}(hc:vQ c s.length)(hs:jL s s.length):vL rX [dC c,dS s] (dS (yP c s)):=
 CW c s λok=>by
  rw[A8];refine zG (xB s) (zC (λe=> ?_) λe=> ?_)
  ·rw[yP,As e]
   exact zG (ZN s) rfl
  have hf:zZ s=false:=e;rw[yP,An (by rw[hf];decide)]
  refine zG (bE hc) ?_
  by_cases h0:yI c s.length=[]
  ·obtain⟨hc0,_⟩:=GA hc h0
   refine dt (by rw[h0];rfl) (zG (gO (vs:=[]) hc0 ⟨rfl,λn hn=>(by cases hn)⟩) (zC (λe=> ?_) λe=> ?_))
   ·rw[As h0,As e];exact zG (ZN s) rfl
   ·rw[As h0,An (by rw[e];decide)];exact zG (YD s) rfl
  refine df (by
   have:(yI c s.length).length≠0:=λe=>h0 (AaX.1 e)
   omega) ?_
  rw[An h0]
  have key:∀ {g:AcM} {caps:AcT},fV g->(∀(v n:Int),v∈yI c s.length->n∈s.getD v.toNat []->vL g (dI v::dI n::caps) (dB (mayB (wO c) s v.toNat n)))->
    vL xP [dS s,.clo vJ none [.iptr [.sl .int (yI c s.length)] 0,.iptr [.clo g none caps] 0]] (dS (rI (λv n=> !Fw c v||mayB (wO c) s v n) s)):=fun {g caps} he hg=>by
   refine gM (f:=λv n=> !Fw c v||mayB (wO c) s v n) U9 λv hv n hn=> ?_
   refine RE he (λh=> ?_) λh=> ?_
   ·have h1:=pE.1 h
    rw[SA hv]at h
    have h2:=hg v n h1 (by rw[Aap,yO _ hv];exact hn)
    rw[Aap]at h2
    rw[h];exact h2
   ·rw[SA hv]at h
    rw[h];rfl
  have hEach:∃e21:zF,∃e22:AcQ,∃e23:AcP,∃e24:AcP,∃e25:List ((Int×Int)×Int),xT qT [dC c,dS s] [] (.clo yH none [.iptr [.iptr [.int .i64 e21.kind,.sl .int e21.vars,.sl .int e21.consts,.int .i64 e21.n,.sl (.list .int) e21.rows,.sl .lit e21.lits,.sl (.list .int) e22,.sl .int e23,.sl .int e24,.mp (.pr .int .int) .int e25] 0] 0]) []/\
    yJ xP [dS s,.clo vJ none [.iptr [.sl .int (yI c s.length)] 0,.iptr [.clo yH none [.iptr [.iptr [.int .i64 e21.kind,.sl .int e21.vars,.sl .int e21.consts,.int .i64 e21.n,.sl (.list .int) e21.rows,.sl .lit e21.lits,.sl (.list .int) e22,.sl .int e23,.sl .int e24,.mp (.pr .int .int) .int e25] 0] 0]] 0]] (.list (.list .int)) λs26=>D.sl (.list .int) s26=dS (rI (λv n=> !Fw c v||mayB (wO c) s v n) s):=by
   obtain⟨vs,m,h1,h2⟩:=Pn hc hs hf;exact⟨c,s,yI c s.length,vs,m,h2,zG (key V8 λv n hv hn=>Tz (ks:=[]) h1 hv) rfl⟩
  refine zC (λe=> ?_) λe=>zC (λe2=> ?_) λe2=> ?_
  ·have hk:c.kind<=3:=BY e
   exact⟨vH c,Hi s (vH c),c,Tw hc hk hs,zG (key X0 λv n hv hn=>W7 hc hk hs hf (SB hc (Po hc (by omega)) hv) hn) rfl⟩
  ·have hk:c.kind=4:=BY e2
   refine zG (RD c.vars) (zC (λe3=> ?_) λe3=>hEach)
   have hnd:c.vars.Nodup:=by simpa using e3
   exact⟨s,c,Tx c s,zG (key X1 λv n hv hn=>W8 hc hk hnd hs hf (SB hc (Po hc (by omega)) hv) hn) rfl⟩
  ·exact hEach
def C6(m:zE)(con:Int)(s:AcQ):Int:=if XR m [s]≠0 then XR m [s]else if con<0\/(m.cons.length:Int)<=con then 5 else 0
theorem zrk{m:zE}{con:Int}{s:AcQ}(h:XR m [s]≠0):C6 m con s=XR m [s]:=As h
theorem zrl{m:zE}{con:Int}{s:AcQ}(h:XR m [s]=0)(h2:con<0\/(m.cons.length:Int)<=con):C6 m con s=5:=by rw[C6,An (not_not_intro h),As h2]
theorem zrm{m:zE}{con:Int}{s:AcQ}(h:XR m [s]=0)(h2:0<=con/\con<(m.cons.length:Int)):C6 m con s=0:=by rw[C6,An (not_not_intro h),An (by omega)]
theorem zhP{m:zE}{con:Int}{s:AcQ}(h:C6 m con s=0):XR m [s]=0/\0<=con/\con<(m.cons.length:Int):=by
 by_cases h1:XR m [s]=0
 ·by_cases h2:con<0\/(m.cons.length:Int)<=con
  ·rw[zrl h1 h2]at h;exact At h (by decide)
  ·exact⟨h1,by omega⟩
 ·rw[zrk h1]at h;exact At h h1
theorem Ld{m:zE}{con:Int}(h:yY m=0)(h2:0<=con/\con<(m.cons.length:Int)):Wm m con=0:=by rw[Wm,An (not_not_intro h),An (by omega)]
end Go.Proofs.YtdnmkinmcdihnaaGreatDoor
namespace Go.Proofs.YtdnmkinmcdihnaaGreatDoor
open Go.Proofs.Tryz
open Go.RowKit
variable[Lo]
structure Met (c:zF)(s:AcQ)(zs:AcP)(k:Nat)(met:AcR):Prop where
 nodup:met.Nodup
 near:∀x∈met,(0<=x.var/\x.var<6)/\x.op=0/\-50<=x.n/\x.n<=50
 mem:∀x,x∈met↔∃j,j<k/\wO c (iC s (yI c s.length) zs j).1=true/\∃v∈yI c s.length,x=⟨v,0,(iC s (yI c s.length) zs j).1.getD v.toNat 0⟩
end Go.Proofs.YtdnmkinmcdihnaaGreatDoor
namespace Go.Proofs.YtdnmkinmcdihnaaGreatDoor
open Go.Proofs.Tryz
open Go.RowKit
variable[Lo]
def partB(c:zF)(s:AcQ)(v:Nat)(n:Int):Bool:=
 (List.range (zbs s (yI c s.length))).any λk=>wO c (iC s (yI c s.length) (List.replicate s.length 0) k).1&&decide ((iC s (yI c s.length) (List.replicate s.length 0) k).1.getD v 0=n)
def Ew(c:zF)(s:AcQ):AcQ:=
 if zZ s=true then s else if yI c s.length=[]then(if wO c []=true then s else jJ s)else rI (λv n=> !Fw c v||partB c s v n) s
theorem zmq{c:zF}{s:AcQ}(hc:vQ c s.length)(hf:zZ s=false){v:Nat}{n:Int}(hv:v<s.length)(hi:Fw c v=true):partB c s v n=mayB (wO c) s v n:=by
 have hz:(List.replicate s.length (0:Int)).length=s.length:=AbW ..;have hm:(v:Int)∈yI c s.length:=mF.2 ⟨by omega,hi⟩
 rw[AaO,nE,partB,AaI];have h:=zfD hc hf hz (v:=(v:Int)) (n:=n);rw[zfE hc hf hz,Aap]at h
 constructor
 ·rintro⟨k,hk,e⟩
  rw[If,AaC]at e
  exact(h.1 ⟨k,Aa3.1 hk,e.1,(v:Int),hm,by rw[Aap,e.2]⟩).2
 ·intro hy
  obtain⟨k,hk,e1,u,hu,e2⟩:=h.2 ⟨hm,hy⟩;injection e2 with e3 e4
  refine⟨k,Aa3.2 hk,?_⟩;rw[If,AaC];refine⟨e1,?_⟩;rw[e4,<-e3,Aap]
theorem zbw{c:zF}{s:AcQ}(hc:vQ c s.length):yP c s=Ew c s:=by
 rw[yP,Ew];split
 ·rfl
 rename_i hf;split
 ·rfl
 refine XF λv n hn=> ?_
 have hv:v<s.length:=by
  apply Classical.byContradiction;intro h;rw[qK (by omega)]at hn;cases hn
 cases hi:Fw c v
 ·rfl
 ·rw[zmq hc (by simpa using hf) hv hi]
theorem TA{m:zE}{s t:AcQ}(h:gZ m s=0)(hl:fJ t s):gZ m t=0:=by
 obtain⟨h1,h2,h3⟩:=Ub.1 h;refine Ub.2 ⟨hl.1.trans h1,λv n hn=>h2 v n ((hl.2 v).subset hn),λl hm=> ?_⟩
 obtain⟨i,hi,rfl⟩:=Aas hm;have:=hl.2 i;rw[yO _ hi,yO _ (show i<s.length by rw[<-hl.1];exact hi)]at this
 exact(h3 _ (AT _)).sublist this
theorem zoS{m:zE}{s:AcQ}(h:XR m [s]=0):yY m=0/\gZ m s=0:=by
 have h1:=zfm h;rw[zfl (not_not_intro h1),Ck]at h
 exact⟨h1,h⟩
structure zkQ (m:zE)(con:Int)(s:AcQ):Prop where
 chk:yY m=0
 st:gZ m s=0
 cn:0<=con/\con<(m.cons.length:Int)
 right:vQ (yV m con) m.vars.length
 len:s.length=m.vars.length
 pos:0<m.vars.length
 op:XE m.vars.length (yP (yV m con)) (wO (yV m con))
theorem zoT{m:zE}{con:Int}{s:AcQ}(h:C6 m con s=0):zkQ m con s:=by
 obtain⟨h1,h2⟩:=zhP h;obtain⟨h3,h4⟩:=zoS h1;have hr:=mM h3;have hc:=qJ (Ld h3 h2);have hp:0<m.vars.length:=by have:=hr.some;omega
 exact⟨h3,h4,h2,hc,Cj h4,hp,Ts hc hp⟩
end Go.Proofs.YtdnmkinmcdihnaaGreatDoor
namespace Go.Proofs.YtdnmkinmcdihnaaGreatDoor
open Go.Proofs.Tryz
open Go.RowKit
set_option maxRecDepth 100000
variable[Lo]
def Wq:xF:= {own:=[],live:=[(0,([2,11,12,13],[]))],n:=24}
def Xd(a:zE)(b:AcS)(R:xI)(c:Nat)(d:Int):Prop:=LP Wq f60 [1,1,0,1,0,0] 0 c ⟨[(2,.iptr (Oy a []) 0),(11,.sl (.list .lit) b),(12,dI (b.length:Int)),(13,dI d)],[]⟩ (zP 0 (sK Wq f60 [1,1,1] 0 (eK f60 R)))
theorem TB(c:zE)(a:AcS)(R:xI)(d:Nat)(b:Int):Xd c a R (d+1) b=
 (zT (decide (b<(a.length:Int)))
 (wW b a.length=true/\
 yJ oJ [dM c,.sl .lit (zJ (.list .lit) a b.toNat)] .int λe=>
 zT (!decide (e=0))
 (R (dI e))
 (Xd c a R d (yU (b+1))))
 (R (dI 0))):=by kernel_rfl
theorem zaa(b:zE)(a:AcS)(R:xI):FD Wq f60 [dM b,.sl (.list .lit) a] R=
 (zT (decide (600<(a.length:Int)))
 (R (dI 2))
 (∃n0,Xd b a R n0 0)):=by kernel_rfl
theorem C7(a:zE)(b:AcS):wU Wq f60 Zx [dM a,.sl (.list .lit) b]:=wX func60 (by kernel_rfl) ntmps60 rfl
def oc:xF:= {own:=[],live:=[(0,([1,2,3,4],[])),(2,([1,2,3,4,9,10],[])),(4,([1,2,3,4,9,11],[]))],n:=62}
def W9(a:zE)(b:Bool)(c:AcS)(R:xI)(d:Nat)(e:AcQ)(f:Nat)(g:AcQ)(h:Int):Prop:=LP oc f68 [1,1,0,0,0,1,1,0,1,0,0] 4 f ⟨[(1,dS g),(2,dB b),(3,.sl (.list .lit) c),(4,.iptr (Oy a []) 0),(9,dS e),(11,dI h)],[]⟩ (zP 4 (sK oc f68 [1,1,0,0,0,1,1,1] 1 (zP 1 (iK oc f68 [1,1,0,0] 0 d (zP 0 (eK f68 R))))))
def Z0(a:zE)(b:Bool)(c:AcS)(R:xI)(d:Nat)(e:AcQ)(f:Nat)(g:AcQ)(h:Int):Prop:=LP oc f68 [1,1,0,0,0,1,1,0,1,0,0] 4 f ⟨[(1,dS g),(2,dB b),(3,.sl (.list .lit) c),(4,.iptr (Oy a []) 0),(9,dS e),(11,dI h)],[]⟩ (zP 4 (sK oc f68 [1,1,0,0,0,1,1,1] 1 (zP 1 (iK oc f68 [1,1,0,0] 0 d (zP 0 (eK f68 R))))))
def Wr(a:zE)(b:Bool)(c:AcS)(R:xI)(d:Nat)(e:AcQ)(f:Nat)(g:AcQ)(h:Int):Prop:=LP oc f68 [1,1,0,0,0,1,1,0,1,0,0] 4 f ⟨[(1,dS g),(2,dB b),(3,.sl (.list .lit) c),(4,.iptr (Oy a []) 0),(9,dS e),(11,dI h)],[]⟩ (zP 4 (sK oc f68 [1,1,0,0,0,1,1,1] 1 (zP 1 (iK oc f68 [1,1,0,0] 0 d (zP 0 (eK f68 R))))))
def aH(a:zE)(b:Bool)(c:AcS)(R:xI)(d:Nat)(e:AcQ)(f:Nat)(g:AcQ)(h:Int):Prop:=LP oc f68 [1,1,0,0,0,1,0,1,0,0] 2 f ⟨[(1,dS g),(2,dB b),(3,.sl (.list .lit) c),(4,.iptr (Oy a []) 0),(9,dS e),(10,dI h)],[]⟩ (zP 2 (sK oc f68 [1,1,0,0,0,1,1] 1 (zP 1 (iK oc f68 [1,1,0,0] 0 d (zP 0 (eK f68 R))))))
def pG(a:zE)(b:Bool)(c:AcS)(R:xI)(d:Nat)(e:AcQ):Prop:=LP oc f68 [1,1,0,0] 0 d ⟨[(1,dS e),(2,dB b),(3,.sl (.list .lit) c),(4,.iptr (Oy a []) 0)],[]⟩ (zP 0 (eK f68 R))
theorem zab(d:zE)(e:Bool)(b:AcS)(R:xI)(f:Nat)(g:AcQ)(h:Nat)(a:AcQ)(c:Int):W9 d e b R f g (h+1) a c=
 (zT (decide (c<(b.length:Int)))
 (yJ zV [dS a] .bool λi=>
 zT (!i)
 (wW c b.length=true/\
 yJ tV [dS a,.sl .lit (zJ (.list .lit) b c.toNat)] (.list (.list .int)) λj=>
 W9 d e b R f g h j (yU (c+1)))
 (yJ zV [dS a] .bool λk=>
 zT k
 (yJ yQ [dS a] (.list (.list .int)) λl=>
 R (dS l))
 (yJ tP [dS a,dS g] .bool λm=>
 zT m
 (R (dS a))
 (pG d e b R f a))))
 (yJ zV [dS a] .bool λn=>
 zT n
 (yJ yQ [dS a] (.list (.list .int)) λo=>
 R (dS o))
 (yJ tP [dS a,dS g] .bool λp=>
 zT p
 (R (dS a))
 (pG d e b R f a)))):=by kernel_rfl
theorem FE(d:zE)(e:Bool)(b:AcS)(R:xI)(f:Nat)(g:AcQ)(h:Nat)(a:AcQ)(c:Int):Z0 d e b R f g (h+1) a c=
 (zT (decide (c<(b.length:Int)))
 (yJ zV [dS a] .bool λi=>
 zT (!i)
 (wW c b.length=true/\
 yJ tV [dS a,.sl .lit (zJ (.list .lit) b c.toNat)] (.list (.list .int)) λj=>
 Z0 d e b R f g h j (yU (c+1)))
 (yJ zV [dS a] .bool λk=>
 zT k
 (yJ yQ [dS a] (.list (.list .int)) λl=>
 R (dS l))
 (yJ tP [dS a,dS g] .bool λm=>
 zT m
 (R (dS a))
 (pG d e b R f a))))
 (yJ zV [dS a] .bool λn=>
 zT n
 (yJ yQ [dS a] (.list (.list .int)) λo=>
 R (dS o))
 (yJ tP [dS a,dS g] .bool λp=>
 zT p
 (R (dS a))
 (pG d e b R f a)))):=by kernel_rfl
theorem FF(d:zE)(e:Bool)(b:AcS)(R:xI)(f:Nat)(g:AcQ)(h:Nat)(a:AcQ)(c:Int):Wr d e b R f g (h+1) a c=
 (zT (decide (c<(b.length:Int)))
 (yJ zV [dS a] .bool λi=>
 zT (!i)
 (wW c b.length=true/\
 yJ tV [dS a,.sl .lit (zJ (.list .lit) b c.toNat)] (.list (.list .int)) λj=>
 Wr d e b R f g h j (yU (c+1)))
 (yJ zV [dS a] .bool λk=>
 zT k
 (yJ yQ [dS a] (.list (.list .int)) λl=>
 R (dS l))
 (yJ tP [dS a,dS g] .bool λm=>
 zT m
 (R (dS a))
 (pG d e b R f a))))
 (yJ zV [dS a] .bool λn=>
 zT n
 (yJ yQ [dS a] (.list (.list .int)) λo=>
 R (dS o))
 (yJ tP [dS a,dS g] .bool λp=>
 zT p
 (R (dS a))
 (pG d e b R f a)))):=by kernel_rfl
theorem Xe(a:zE)(b:Bool)(d:AcS)(R:xI)(e:Nat)(f:AcQ)(h:Nat)(c:AcQ)(g:Int):aH a b d R e f (h+1) c g=
 (zT b
 (zT (decide (g<(a.cons.length:Int)))
 (yJ zV [dS c] .bool λi=>
 zT (!i)
 (wW g a.cons.length=true/\
 yJ rX [dC (zJ .con a.cons g.toNat),dS c] (.list (.list .int)) λj=>
 aH a b d R e f h j (yU (g+1)))
 (∃n4,W9 a b d R e f n4 c 0))
 (∃n4_2,Z0 a b d R e f n4_2 c 0))
 (∃n4_3,Wr a b d R e f n4_3 c 0)):=by kernel_rfl
theorem zac(b:zE)(c:Bool)(d:AcS)(R:xI)(e:Nat)(a:AcQ):pG b c d R (e+1) a=
 (∃n2,aH b c d R e a n2 a 0):=by kernel_rfl
theorem zhQ(a:zE)(b:AcQ)(c:Bool)(d:AcS)(R:xI):FD oc f68 [dM a,dS b,dB c,.sl (.list .lit) d] R=
 (yJ tI [dS b] (.list (.list .int)) λe=>
 ∃n0,pG a c d R n0 e):=by kernel_rfl
theorem zfI(a:zE)(b:AcQ)(c:Bool)(d:AcS):wU oc f68 pZ [dM a,dS b,dB c,.sl (.list .lit) d]:=wX func68 (by kernel_rfl) ntmps68 rfl
def C8:xF:= {own:=[],live:=[],n:=8}
theorem zfJ(a b:AcQ)(R:xI):FD C8 f121 [dS a,dS b] R=
 (yJ yF [dS a,dS b,.clo eV none []] .bool λc=>
 R (dB c)):=by kernel_rfl
theorem zdx(a b:AcQ):wU C8 f121 tP [dS a,dS b]:=wX func121 (by kernel_rfl) ntmps121 rfl
def KO:xF:= {own:=[],live:=[],n:=10}
theorem zad(a b:AcP)(R:xI):FD KO f173 [.sl .int a,.sl .int b] R=
 (R (dB (decide ((a.length:Int)=(b.length:Int))))):=by kernel_rfl
theorem C9(a b:AcP):wU KO f173 eV [.sl .int a,.sl .int b]:=wX func173 (by kernel_rfl) ntmps173 rfl
end Go.Proofs.YtdnmkinmcdihnaaGreatDoor
namespace Go.Proofs.YtdnmkinmcdihnaaGreatDoor
open Go.Proofs.Tryz
open Go.RowKit
variable[Lo]
noncomputable def Ey (m:zE):List Op:=m.cons.map yP
def KP(l:AcS):List Op:=l.map λc s=>cB s c
noncomputable def qR (m:zE)(cons:Bool)(l:AcS):List Op:=(if cons=true then Ey m else[])++KP l
noncomputable def tH (m:zE)(cons:Bool)(l:AcS)(s:AcQ):AcQ:=zoI (qR m cons l) s
structure yL (m:zE)(l:AcS):Prop where
 right:Right m
 cons:∀c∈m.cons,vQ c m.vars.length
 lits:∀c∈l,∀x∈c,0<=x.var/\x.var<(m.vars.length:Int)
theorem yL.pos{m:zE}{l:AcS}(h:yL m l):0<m.vars.length:=by have:=h.right.some;omega
theorem Ba{m:zE}{l:AcS}(h:yY m=0)(hl:∀c∈l,∀x∈c,eS m.vars.length x=0):yL m l:=by
 refine⟨mM h,λc hc=> ?_,λc hc x hx=>(kV.1 (hl c hc x hx)).1⟩
 obtain⟨i,hi,rfl⟩:=Aas hc;have:=qJ (Ld h (con:=(i:Int)) (by omega))
 rwa[yV,Aap,yO _ hi]at this
theorem YF{m:zE}{l:AcS}(h:yL m l){c:zF}(hc:c∈m.cons):XE m.vars.length (yP c) (wO c):=Ts (h.cons c hc) h.pos
theorem aI{m:zE}{l:AcS}(h:yL m l){c:AcR}(hc:c∈l):XE m.vars.length (λs=>cB s c) (fa c):=zkM (h.lits c hc) h.pos
theorem qM{m:zE}{cons:Bool}{l:AcS}{op:Op}:op∈qR m cons l↔(cons=true/\∃c∈m.cons,yP c=op)\/∃c∈l,(λs=>cB s c)=op:=by
 rw[qR,Aai,KP,OF];cases cons
 ·simp
 ·simp[Ey]
theorem SC{m:zE}{cons:Bool}{l:AcS}(h:yL m l):CH m.vars.length (qR m cons l):=λop hm=>by
 rcases qM.1 hm with⟨_,c,hc,rfl⟩|⟨c,hc,rfl⟩
 ·exact⟨_,YF h hc⟩
 ·exact⟨_,aI h hc⟩
theorem gQ{m:zE}{cons:Bool}{l:AcS}(h:yL m l){s:AcQ}(hs:s.length=m.vars.length):VI (qR m cons l) s (tH m cons l s):=zmd (SC h) hs
theorem Ui{m:zE}{cons:Bool}{l:AcS}(h:yL m l){s r:AcQ}(hs:s.length=m.vars.length)(hr:VI (qR m cons l) s r):tH m cons l s=r:=zrf (by have:=h.pos;omega) hr
structure Mf (ops:List Op)(was s:AcQ)(done:List Op):Prop where
 le:fJ s was
 stab:s=was->∀op∈done,op was=was
theorem Mf.step{nv:Nat}{ops done:List Op}{was s:AcQ}(h:Mf ops was s done){op:Op}{Q:AcP->Bool}(ho:XE nv op Q)(hs:s.length=nv):Mf ops was (op s) (done++[op]):=by
 have hle:=ho.le hs;refine⟨hle.trans h.le,λe op' hm=> ?_⟩
 have e2:s=was:=h.le.antisymm (by rw[<-e];exact hle)
 rcases Aai.1 hm with hm|hm
 ·exact h.stab e2 op' hm
 ·rw[Aab.1 hm];rw[e2]at e;exact e
theorem zbx:∀ {s t:AcQ},s.length=t.length->((s.zip t).any λx=> !decide (x.1.length=x.2.length))=false->(∀v:Nat,(s.getD v []).Sublist (t.getD v []))->s=t
 |[],[],_,_,_=>rfl
 |a::s,b::t,hl,h,hs=>by
  rw[Aca,Abb,AbG]at h
  have h1:a.length=b.length:=by simpa using h.1
  have h0:a.Sublist b:=hs 0;rw[h0.eq_of_length h1,zbx (by simpa using hl) h.2 λv=>hs (v+1)]
 |[],_::_,hl,_,_=>by simp at hl
 |_::_,[],hl,_,_=>by simp at hl
def GB(s t:AcQ):Bool:=decide (s.length=t.length)&& !((s.zip t).any λx=> !decide (x.1.length=x.2.length))
theorem OC{s t:AcQ}(h:fJ s t):GB s t=true↔s=t:=by
 rw[GB,If,AaC,Aa1];constructor
 ·rintro⟨h1,h2⟩;exact zbx h1 h2 h.2
 ·rintro rfl
  refine⟨rfl,AaF.2 λx hx=> ?_⟩
  obtain⟨i,hi,rfl⟩:=Aas hx;rw[AaL];simp
theorem zae(a b:AcP):vL eV [.sl .int a,.sl .int b] (dB (decide (a.length=b.length))):=
 C9 a b λok=>by
  rw[zad];show D.bool _=D.bool _
  congr 1
  exact decide_eq_decide.2 ⟨λe=>by omega,λe=>by omega⟩
theorem GC(s t:AcQ):vL tP [dS s,dS t] (dB (GB s t)):=
 zdx s t λok=>by
  rw[zfJ];refine zG (x:=GB s t) ?_ rfl;refine oT.clo (pre:=[_,_]) (slices_EqualFunc_api_Store_api_Store_int_int_sat s t eV [] λok=> ?_)
  have hs:Y7 s:=fk (Qm ok);have hsl:=YC hs;rw[rH];refine zC (λe=> ?_) λe=> ?_
  ·rw[GB,Aao (by simp at e;omega)];rfl
  have e:s.length=t.length:=by simp at e;omega
  have hz:(s.zip t).length=s.length:=by rw[AaA];omega
  refine zc4 (I:=λn v=>xV s t eV [] _ n v) (s.zip t) (λx=> !decide (x.1.length=x.2.length)) (by omega) (X:=dB false=dB (GB s t)) (Y:=dB true=dB (GB s t)) (by rw[GB,Aaf e];cases(s.zip t).any λx=> !decide (x.1.length=x.2.length)<;>rfl) (λn k h hX hn=> ?_) λn hY=> ?_
  ·have hk:k<s.length:=by omega
   rw[AaL]at hX hn
   rw[wH,yD hk,yA (t:=.list .int) hk,yA (t:=.list .int) (show k<t.length by omega)]
   exact⟨zI hk,zI (by omega),Ce,zG (zae _ _) (zC hX hn)⟩
  ·rw[hz,wH,zY];exact hY
theorem Bb{nv:Nat}{ops:List Op}{s0 s:AcQ}(h:tL ops s0 s)(hg:jL s0 nv):jL s nv:=by
 refine⟨h.le.1.trans hg.len,λv n hn=>hg.near v n ((h.le.2 v).subset hn),λl hl=> ?_⟩
 obtain⟨i,hi,rfl⟩:=Aas hl;have:=h.le.2 i;rw[yO _ hi,yO _ (show i<s0.length by rw[<-h.le.1];exact hi)]at this
 exact(hg.rise _ (AT _)).sublist this
theorem zkR{nv:Nat}{ops pre:List Op}{s0 was:AcQ}(ho:CH nv ops)(h0:s0.length=nv){A:Type}(xs:List A)(f:A->Op)(hf:∀x∈xs,f x∈ops)
  {I:Nat->Int->AcQ->Prop} {X:AcQ->Prop} {s:AcQ} (hl:xs.length<=9223372036854775807) (hr:tL ops s0 s) (hw:zZ s=true\/Mf ops was s pre)
  (hout:∀s,tL ops s0 s->(zZ s=true\/Mf ops was s (pre++xs.map f))->X s)
  (hin:∀n (k:Nat) (h:k<xs.length) s,tL ops s0 s->zZ s=false->I n (yU ((k:Int)+1)) (f xs[k] s)->I (n+1) (k:Int) s)
  (hend:∀n s,X s->I (n+1) (xs.length:Int) s) (hfail:∀n (k:Nat) s,k<xs.length->zZ s=true->X s->I (n+1) (k:Int) s):∃n,I n 0 s:=by
 refine up (I:=I) 0 xs.length rfl (Is _) hl (λk s=>tL ops s0 s/\(zZ s=true\/Mf ops was s (pre++(xs.take k).map f))) ⟨hr,by simpa using hw⟩ λn k s _ hk ha hn=> ?_
 obtain⟨h1,h2⟩:=ha
 by_cases h:k<xs.length
 ·cases hfl:zZ s with
  |true=>exact hfail n k s h hfl (hout s h1 (.inl hfl))
  |false=>
   obtain⟨Q,hq⟩:=ho _ (hf _ (AT h));have h2:=h2.resolve_left (by rw[hfl];decide)
   refine hin n k h s h1 hfl (hn h _ ⟨h1.step ho h0 (hf _ (AT h)),.inr ?_⟩);rw[cR _ h,<-AaG];exact h2.step hq (h1.le.1.trans h0)
 ·have hk':k=xs.length:=by omega
  subst hk';refine hend n s (hout s h1 ?_)
  rwa[Aam]at h2
def zrn(m:zE)(cons:Bool)(l:AcS)(s0:AcQ)(n0:Nat)(was s:AcQ):Prop:=
 yJ zV [dS s] .bool λs11=>zT s11
  (yJ yQ [dS s] (.list (.list .int)) λs12=>D.sl (.list .int) s12=dS (tH m cons l s0))
  (yJ tP [dS s,dS was] .bool λf13=>zT f13 (D.sl (.list .int) s=dS (tH m cons l s0)) (pG m cons l (λd=>d=dS (tH m cons l s0)) n0 s))
theorem zro{m:zE}{cons:Bool}{l:AcS}{s0:AcQ}(h:yL m l)(hs:s0.length=m.vars.length){n0:Nat}{was:AcQ}
  (ih:∀s,tL (qR m cons l) s0 s->wI s<wI was->pG m cons l (λd=>d=dS (tH m cons l s0)) n0 s) {s:AcQ} (hr:tL (qR m cons l) s0 s) (hx:zZ s=true\/Mf (qR m cons l) was s (qR m cons l)):zrn m cons l s0 n0 was s:=by
 refine zG (xB s) (zC (λe=> ?_) λe=> ?_)
 ·have e:zZ s=true:=e
  refine zG (YD s) ?_;rw[Ui h hs (hr.dead e),Kw hr.le.1]
 ·have e:zZ s=false:=e
  have hrd:=hx.resolve_left (by rw[e];decide)
  refine zG (GC s was) (zC (λf=> ?_) λf=> ?_)
  ·have f2:=(OC hrd.le).1 f
   rw[Ui h hs (hr.stop e λop hm=> ?_)]
   rw[f2];exact hrd.stab f2 op hm
  ·exact ih s hr (hrd.le.size_lt λf2=>by rw[(OC hrd.le).2 f2]at f;cases f)
theorem Bc{m:zE}{cons:Bool}{l:AcS}{s0:AcQ}(h:yL m l)(hs:s0.length=m.vars.length)(hll:l.length<=1000000000){n0:Nat}{was:AcQ}
  (ih:∀s,tL (qR m cons l) s0 s->wI s<wI was->pG m cons l (λd=>d=dS (tH m cons l s0)) n0 s)
  {I:Nat->Int->AcQ->Prop}
  (heq:∀n (i:Int) s,I (n+1) i s=zT (decide (i<(l.length:Int)))
   (yJ zV [dS s] .bool λs9=>zT (!s9)
    (wW i l.length=true/\yJ tV [dS s,.sl .lit (zJ (.list .lit) l i.toNat)] (.list (.list .int)) λc10=>I n (yU (i+1)) c10)
    (zrn m cons l s0 n0 was s))
   (zrn m cons l s0 n0 was s))
  {s:AcQ} (hr:tL (qR m cons l) s0 s) (hw:zZ s=true\/Mf (qR m cons l) was s (if cons=true then Ey m else[])):∃n,I n 0 s:=by
 refine zkR (SC h) hs l (λc s=>cB s c) (λc hc=>qM.2 (.inr ⟨c,hc,rfl⟩)) (by omega) hr hw (X:=zrn m cons l s0 n0 was) (λs h1 h2=>zro h hs ih h1 h2) (λn k hk s h1 hf hi=> ?_) (λn s hx=> ?_) λn k s hk hf hx=> ?_
 ·rw[heq,yD hk,yA (t:=.list .lit) hk]
  refine zG (xB s) (bnt hf ⟨zI hk,zG (A4 λx hx=> ?_) hi⟩)
  have:=h.lits _ (AT hk) x hx;rw[h1.le.1,hs];exact this
 ·rw[heq,zY];exact hx
 ·rw[heq,yD hk]
  exact zG (xB s) (bnf hf hx)
theorem Va{m:zE}{cons:Bool}{l:AcS}{s0:AcQ}(h:yL m l)(hs:jL s0 m.vars.length)(hll:l.length<=1000000000):vL pZ [dM m,dS s0,dB cons,.sl (.list .lit) l] (dS (tH m cons l s0)):=
 zfI m s0 cons l λok=>by
  have ho:=SC (cons:=cons) h;have hcl:=h.right.cons;rw[zhQ];refine zG (ZN s0) ?_
  have step:∀(n0:Nat) (was:AcQ),tL (qR m cons l) s0 was->(∀s,tL (qR m cons l) s0 s->wI s<wI was->pG m cons l (λd=>d=dS (tH m cons l s0)) n0 s)->pG m cons l (λd=>d=dS (tH m cons l s0)) (n0+1) was:=by
   intro n0 was hw ih;rw[zac];cases cons with
   |false=>
    refine⟨1,?_⟩;rw[Xe];refine bf rfl ?_;exact Bc h hs.len hll ih (I:=λn i s=>Wr m false l _ n0 was n s i) (λn i s=>by rw[FF];rfl) hw (.inr ⟨fJ.refl _,λ_ op hm=>(by cases hm)⟩)
   |true=>
    refine zkR ho hs.len m.cons yP (λc hc=>qM.2 (.inl ⟨rfl,c,hc,rfl⟩)) (by omega) hw (was:=was) (pre:=[]) (.inr ⟨fJ.refl _,λ_ op hm=>(by cases hm)⟩) (I:=λn i s=>aH m true l _ n0 was n s i)
     (X:=λs=>(∃n4,W9 m true l (λd=>d=dS (tH m true l s0)) n0 was n4 s 0)/\∃n4_2,Z0 m true l (λd=>d=dS (tH m true l s0)) n0 was n4_2 s 0) (λs h1 h2=> ?_) (λn k hk s h1 hf hi=> ?_) (λn s hx=> ?_) λn k s hk hf hx=> ?_
    ·exact⟨Bc h hs.len hll ih (I:=λn i s=>W9 m true l _ n0 was n s i) (λn i s=>by rw[zab];rfl) h1 h2,Bc h hs.len hll ih (I:=λn i s=>Z0 m true l _ n0 was n s i) (λn i s=>by rw[FE];rfl) h1 h2⟩
    ·show aH m true l _ n0 was (n+1) s (k:Int)
     rw[Xe];refine bt rfl ?_;rw[yD hk,yA (t:=.con) hk];have hg:=Bb h1 hs;have hl:=hg.len;refine zG (xB s) (bnt hf ⟨zI hk,zG (Me (c:=m.cons[k]) (by rw[hl];exact h.cons _ (AT hk)) (by rw[hl];exact hg)) hi⟩)
    ·show aH m true l _ n0 was (n+1) s (m.cons.length:Int)
     rw[Xe];refine bt rfl ?_;rw[zY];exact hx.2
    ·show aH m true l _ n0 was (n+1) s (k:Int)
     rw[Xe];refine bt rfl ?_;rw[yD hk];exact zG (xB s) (bnf hf hx.1)
  suffices H:∀(d:Nat) (was:AcQ),wI was<=d->tL (qR m cons l) s0 was->pG m cons l (λd=>d=dS (tH m cons l s0)) (d+1) was from⟨_,H _ s0 (IN _) (tL.refl _ _)⟩
  intro d
  induction d with
  |zero=>exact λwas hd hw=>step 0 was hw λs _ hlt=>At hlt (by omega)
  |succ d ih=>exact λwas hd hw=>step (d+1) was hw λs h1 hlt=>ih s (by omega) h1
end Go.Proofs.YtdnmkinmcdihnaaGreatDoor
namespace Go.Proofs.YtdnmkinmcdihnaaGreatDoor
open Go.Proofs.Tryz
open Go.RowKit
variable[Lo]
def Xf(nv:Nat)(l:AcS):Int:=if 600<l.length then 2 else wM (λ_ c=>xD nv c) 0 l
theorem KQ{nv:Nat}{l:AcS}(h:Xf nv l=0):l.length<=600/\∀c∈l,xD nv c=0:=by
 unfold Xf at h
 split at h
 ·exact At h (by decide)
 rename_i h1;refine⟨by omega,λl hl=> ?_⟩
 obtain⟨i,hi,rfl⟩:=Aas hl;exact aE h hi
theorem Mg(m:zE)(l:AcS):vL Zx [dM m,.sl (.list .lit) l] (dI (Xf m.vars.length l)):=
 C7 m l λok=>by
  rw[zaa];refine zC (λe=> ?_) λe=> ?_
  ·exact qH (As (by simp at e;omega))
  have e:¬600<l.length:=by simp at e;omega
  rw[show Xf m.vars.length l=wM (λ_ c=>xD m.vars.length c) 0 l from An e]
  refine zl4 (I:=λn v=>Xd m l _ n v) l (λ_ c=>xD m.vars.length c) (by omega) (X:=λx=>D.int .i64 x=dI (wM (λ_ c=>xD m.vars.length c) 0 l)) (Y:=D.int .i64 0=dI (wM (λ_ c=>xD m.vars.length c) 0 l)) (λ_=>rfl) (λe=>qH e) (λn k h _ hX hn=> ?_) λn hY=> ?_
  ·rw[TB,yD h,yA (t:=.list .lit) h]
   exact⟨zI h,zG (bT m _) (zC (λe=>hX (sN e)) λe=>hn (vM e))⟩
  ·rw[TB,zY];exact hY
structure zuZ (m:zE)(s:AcQ)(l:AcS):Prop where
 chk:yY m=0
 st:gZ m s=0
 len:l.length<=1000000
 cl:∀c∈l,xD m.vars.length c=0
 mc:yL m l
 good:jL s m.vars.length
theorem nB{m:zE}{l:AcS}(h:yY m=0)(hl:∀c∈l,xD m.vars.length c=0):yL m l:=Ba h λc hc x hx=>(Ss (hl c hc)).2 x hx
theorem GD{m:zE}(h:yY m=0):yL m []:=Ba h λc hc=>by cases hc
structure zu0 (ops:List Op)(s0 was:AcQ)(done:List Op)(s:AcQ)(ch:Bool):Prop where
 reach:tL ops s0 s
 st:zZ s=true\/(ch=false/\s=was/\∀op∈done,op was=was)\/(ch=true/\wI s<wI was)
end Go.Proofs.YtdnmkinmcdihnaaGreatDoor
namespace Go.Proofs.YtdnmkinmcdihnaaGreatDoor
open Go.Proofs.Tryz
open Go.RowKit
variable[Lo]
def zoU(m:zE)(cons:Bool)(l:AcS):List Op:=(if cons=true then m.cons.map Ew else[])++KP l
def Bd(ops:List Op)(s:AcQ):AcQ:=ops.foldl (λs op=>op s) s
def itO(ops:List Op):Nat->AcQ->AcQ
 |0,s=>s
 |k+1,s=>itO ops k (Bd ops s)
theorem Le{op:Op}{ops:List Op}{s:AcQ}:Bd (op::ops) s=Bd ops (op s):=rfl
theorem Be{nv:Nat}{ops:List Op}(ho:CH nv ops){s0:AcQ}(h0:s0.length=nv):∀(us:List Op) (s:AcQ),(∀op∈us,op∈ops)->tL ops s0 s->tL ops s0 (Bd us s)
 |[],s,_,h=>h
 |op::us,s,hs,h=>by
  rw[Le];exact Be ho h0 us _ (λop h=>hs op (Aac _ h)) (h.step ho h0 (hs op (Aaa ..)))
theorem Bf{nv:Nat}{ops:List Op}(ho:CH nv ops){s0:AcQ}(h0:s0.length=nv):∀(k:Nat) (s:AcQ),tL ops s0 s->tL ops s0 (itO ops k s)
 |0,s,h=>h
 |k+1,s,h=>by rw[itO];exact Bf ho h0 k _ (Be ho h0 ops s (λop h=>h) h)
theorem GE{nv:Nat}:∀ {a b:List Op},xK (λf g=>∀s,s.length=nv->f s=g s/\(f s).length=nv) a b->∀s,s.length=nv->Bd a s=Bd b s/\(Bd a s).length=nv
 |_,_,.nil,s,h=>⟨rfl,h⟩
 |f::a,g::b,.cons h hs,s,hl=>by
  obtain⟨h1,h2⟩:=h s hl;rw[Le,Le,<-h1];exact GE hs _ h2
theorem Hj{nv:Nat}{a b:List Op}(h:xK (λf g=>∀s,s.length=nv->f s=g s/\(f s).length=nv) a b):∀(k:Nat) (s:AcQ),s.length=nv->itO a k s=itO b k s
 |0,s,_=>rfl
 |k+1,s,hl=>by
  obtain⟨h1,h2⟩:=GE h s hl;rw[itO,itO,<-h1];exact Hj h k _ h2
theorem Bg{α β γ:Type}{R:β->γ->Prop}{f:α->β}{g:α->γ}:∀ {l:List α},(∀x∈l,R (f x) (g x))->xK R (l.map f) (l.map g)
 |[],_=> .nil
 |x::l,h=> .cons (h x (Aaa ..)) (Bg λy hy=>h y (Aac _ hy))
theorem zkS{m:zE}{cons:Bool}{l:AcS}(h:yL m l):xK (λf g=>∀s,s.length=m.vars.length->f s=g s/\(f s).length=m.vars.length) (qR m cons l) (zoU m cons l):=by
 have hu:xK (λ(f g:Op)=>∀s,s.length=m.vars.length->f s=g s/\(f s).length=m.vars.length) (KP l) (KP l):=Bg λc hc s hs=>⟨rfl,(aI h hc).len hs⟩
 cases cons with
 |false=>exact hu
 |true=>exact xK.append (Bg λc hc s hs=>⟨zbw (by rw[hs];exact h.cons c hc),(YF h hc).len hs⟩) hu
theorem zfK{α β:Type}{R:α->β->Prop}:∀ {a:List α} {b:List β},xK R a b->∀x∈a,∃y∈b,R x y
 |_,_,.nil,x,h=>by cases h
 |u::a,v::b,.cons h hs,x,hx=>by
  rcases Aad.1 hx with rfl|hx
  ·exact⟨v,Aaa ..,h⟩
  ·obtain⟨y,h1,h2⟩:=zfK hs x hx
   exact⟨y,Aac _ h1,h2⟩
theorem zhR{m:zE}{cons:Bool}{l:AcS}(h:yL m l){s r:AcQ}(hs:s.length=m.vars.length)(k:Nat)(e:itO (zoU m cons l) k s=r)(hf:zZ r=false)(hst:((zoU m cons l).all λop=>decide (op r=r))=true):tH m cons l s=r:=by
 have ho:=zkS (cons:=cons) h;rw[<-Hj ho k s hs]at e
 have hr:=Bf (SC (cons:=cons) h) hs k s (tL.refl _ _);rw[e]at hr
 refine Ui h hs (hr.stop hf λop hm=> ?_)
 obtain⟨g,hg,h2⟩:=zfK ho op hm;rw[(h2 r (hr.le.1.trans hs)).1];exact BY (Aav.1 hst g hg)
theorem zkT{m:zE}{cons:Bool}{l:AcS}(h:yL m l){s:AcQ}(hs:s.length=m.vars.length)(k:Nat)(hf:zZ (itO (zoU m cons l) k s)=true):tH m cons l s=jJ s:=by
 have ho:=zkS (cons:=cons) h;rw[<-Hj ho k s hs]at hf
 exact Ui h hs ((Bf (SC (cons:=cons) h) hs k s (tL.refl _ _)).dead hf)
theorem zhS:yL vO []:=GD (by kernel_rfl)
theorem zhT{m:zE}{vs:AcP}(h:aG m vs=true):∀c∈m.cons,wO c vs=true:=λc hc=>by
 rw[aG,If,Aa1,Aa1]at h
 have h2:=AaF.1 h.2 c hc;simpa using h2
theorem zmr{m:zE}{cons:Bool}{l:AcS}{s:AcQ}(h:yL m l)(hs:s.length=m.vars.length){vs:AcP}(hv:VH vs s)(h1:cons=true->∀c∈m.cons,wO c vs=true)(h2:∀c∈l,fa c vs=true):VH vs (tH m cons l s):=
 (gQ h hs).keeps hs hv λop hm=>by
  rcases qM.1 hm with⟨a,c,hc,rfl⟩|⟨c,hc,rfl⟩
  ·exact⟨_,YF h hc,h1 a c hc⟩
  ·exact⟨_,aI h hc,h2 c hc⟩
end Go.Proofs.YtdnmkinmcdihnaaGreatDoor
namespace Go.Proofs.YtdnmkinmcdihnaaGreatDoor
open Go.Proofs.Tryz
open Go.RowKit
set_option maxRecDepth 100000
variable[Lo]
def Xg:xF:= {own:=[11,21,28],live:=[(0,([2,9,31,32,33],[21,28]))],n:=56,nils:=[(21,(4,(61,.list .lit)))],pubs:=[]}
def Z1(a:AcW)(R:xI)(b:Nat)(c:Int)(d:AcU)(e:AcV)(f g:Int)(h:AcS):Prop:=LP Xg f15 [1,1,1,1,0,1,0,0] 0 b ⟨[(2,.sl .step a),(9,.ptr 21 0),(31,.sl .step a),(32,dI (a.length:Int)),(33,dI c)],[(21,.cells [.sl .var d,.sl .con e,dI f,dI g,.own 28]),(28,.row 61 (.list .lit) h)]⟩ (zP 0 (sK Xg f15 [1,1,1,1,1] 0 (eK f15 R)))
theorem KR(a:AcW)(R:xI)(g:Nat)(b:Int)(c:AcU)(d:AcV)(e f:Int)(h:AcS):Z1 a R (g+1) b c d e f h=
 (zT (decide (b<(a.length:Int)))
 (wW b a.length=true/\
 ∃i:Bool,∃j:AcS,xT lI [Ac3,dSt (zJ .step a b.toNat)] (Es c d e f h) (dB i) (Es c d e f j)/\
 zT (!i)
 (R (.tup [dB false,dI 0]))
 (Z1 a R g (yU (b+1)) c d e f j))
 (zT (decide (0<(a.length:Int)))
 (wW (yU ((a.length:Int)-1)) a.length=true/\
 R (.tup [dB (decide ((((zJ .step a ((yU ((a.length:Int)-1)).toNat)).clause).length:Int)=0)),dI 0]))
 (R (.tup [dB false,dI 0])))):=by kernel_rfl
theorem Bh(a:zE)(b:AcS)(c:AcW)(R:xI):FD Xg f15 [dM a,.sl (.list .lit) b,.sl .step c] R=
 (yJ YQ [dM a,.sl (.list .lit) b,.sl .step c] .int λd=>
 zT (!decide (d=0))
 (R (.tup [dB false,dI d]))
 (yX (.list .lit) b.length=true/\
 ∃n0,Z1 c R n0 0 a.vars a.cons a.goal a.var b)):=by kernel_rfl
theorem FG(a:zE)(b:AcS)(c:AcW):wU Xg f15 ou [dM a,.sl (.list .lit) b,.sl .step c]:=wX func15 (by kernel_rfl) ntmps15 rfl
def GF:xF:= {own:=[],live:=[],n:=34}
theorem zdy(a:zE)(b:Int)(c:AcR)(R:xI):FD GF f28 [dM a,dI b,.sl .lit c] R=
 (yJ vG [dM a] .int λd=>
 zT (!decide (d=0))
 (R (.tup [dB false,dI d]))
 (zT (decide (b<0))
 (R (.tup [dB false,dI 5]))
 (zT (decide ((a.cons.length:Int)<=b))
 (R (.tup [dB false,dI 5]))
 (yJ oJ [dM a,.sl .lit c] .int λe=>
 zT (!decide (e=0))
 (R (.tup [dB false,dI e]))
 (yJ lW [dM a,dI b,.sl .lit c] .bool λf=>
 R (.tup [dB f,dI 0])))))):=by kernel_rfl
theorem zaf(a:zE)(b:Int)(c:AcR):wU GF f28 Xt [dM a,dI b,.sl .lit c]:=wX func28 (by kernel_rfl) ntmps28 rfl
def KS:xF:= {own:=[],live:=[],n:=28}
theorem zag(a:zE)(c:AcS)(b:AcR)(R:xI):FD KS f29 [dM a,.sl (.list .lit) c,.sl .lit b] R=
 (yJ vG [dM a] .int λd=>
 zT (decide (d=0))
 (yJ Zx [dM a,.sl (.list .lit) c] .int λe=>
 zT (decide (e=0))
 (yJ oJ [dM a,.sl .lit b] .int λf=>
 zT (!decide (f=0))
 (R (.tup [dB false,dI f]))
 (yJ oK [dM a,.sl (.list .lit) c,.sl .lit b] .bool λh=>
 R (.tup [dB h,dI 0])))
 (zT (!decide (e=0))
 (R (.tup [dB false,dI e]))
 (yJ oK [dM a,.sl (.list .lit) c,.sl .lit b] .bool λi=>
 R (.tup [dB i,dI 0]))))
 (zT (decide (d=0))
 (yJ oJ [dM a,.sl .lit b] .int λg=>
 zT (!decide (g=0))
 (R (.tup [dB false,dI g]))
 (yJ oK [dM a,.sl (.list .lit) c,.sl .lit b] .bool λj=>
 R (.tup [dB j,dI 0])))
 (zT (!decide (d=0))
 (R (.tup [dB false,dI d]))
 (yJ oK [dM a,.sl (.list .lit) c,.sl .lit b] .bool λk=>
 R (.tup [dB k,dI 0]))))):=by kernel_rfl
theorem Bi(a:zE)(b:AcS)(c:AcR):wU KS f29 Zv [dM a,.sl (.list .lit) b,.sl .lit c]:=wX func29 (by kernel_rfl) ntmps29 rfl
def gR:xF:= {own:=[10,13],live:=[(0,([2,3,33,34,35],[])),(2,([3,47,48,49],[]))],n:=70}
def eF(a:zE)(b:AcW)(R:xI)(c:Nat)(d:Int):Prop:=LP gR f41 [1,1,1,1,1,0,1,0,0] 2 c ⟨[(3,.iptr (Oy a []) 0),(47,.sl .step b),(48,dI (b.length:Int)),(49,dI d)],[]⟩ (zP 2 (sK gR f41 [1,1,1,1,1,1] 0 (eK f41 R)))
def Z2(a:zE)(b:AcW)(R:xI)(c:Nat)(d:Int):Prop:=LP gR f41 [1,1,1,1,0,1,0,0] 0 c ⟨[(2,.sl .step b),(3,.iptr (Oy a []) 0),(33,.sl .step b),(34,dI (b.length:Int)),(35,dI d)],[]⟩ (zP 0 (sK gR f41 [1,1,1,1,1] 0 (eK f41 R)))
theorem Uj(c:zE)(a:AcW)(R:xI)(d:Nat)(b:Int):eF c a R (d+1) b=
 (zT (decide (b<(a.length:Int)))
 (wW b a.length=true/\
 zT (decide (((zJ .step a b.toNat).kind)=1))
 (zT (decide (((zJ .step a b.toNat).con)<0))
 (R (dI 5))
 (zT (decide ((c.cons.length:Int)<=((zJ .step a b.toNat).con)))
 (R (dI 5))
 (eF c a R d (yU (b+1)))))
 (eF c a R d (yU (b+1))))
 (R (dI 0))):=by kernel_rfl
theorem Uk(c:zE)(a:AcW)(R:xI)(d:Nat)(b:Int):Z2 c a R (d+1) b=
 (zT (decide (b<(a.length:Int)))
 (wW b a.length=true/\
 yJ oJ [dM c,.sl .lit ((zJ .step a b.toNat).clause)] .int λe=>
 zT (!decide (e=0))
 (R (dI e))
 (Z2 c a R d (yU (b+1))))
 (∃n2,eF c a R n2 0)):=by kernel_rfl
theorem Bj(a:zE)(b:AcS)(c:AcW)(R:xI):FD gR f41 [dM a,.sl (.list .lit) b,.sl .step c] R=
 (yJ vG [dM a] .int λd=>
 zT (!decide (d=0))
 (R (dI d))
 (zT (decide (600<(b.length:Int)))
 (R (dI 2))
 (zT (decide (6000<(c.length:Int)))
 (R (dI 2))
 (yJ Zx [dM a,.sl (.list .lit) b] .int λe=>
 zT (!decide (e=0))
 (R (dI e))
 (∃n0,Z2 a c R n0 0))))):=by kernel_rfl
theorem FI(a:zE)(b:AcS)(c:AcW):wU gR f41 YQ [dM a,.sl (.list .lit) b,.sl .step c]:=wX func41 (by kernel_rfl) ntmps41 rfl
def XH:xF:= {own:=[45],live:=[],n:=49}
theorem R5(c:AcU)(d:AcV)(e f:Int)(b:AcS)(a:zR)(R:oG):FH XH f42 [Ac3,dSt a] (Es c d e f b) [Ac3] false R=
 (zT (decide (a.kind=1))
 (yJ lW [.agg [.sl .var c,.sl .con d,dI e,dI f],dI a.con,.sl .lit a.clause] .bool λg=>
 (yX (.list .lit) (b.length+([a.clause]).length)=true/\
 R (dB g) (Es c d e f (b++([a.clause]))))/\
 (yX (.list .lit) (b.length+([a.clause]).length)=true/\
 R (dB g) (Es c d e f (b++([a.clause]))))/\
 (yX (.list .lit) (b.length+([a.clause]).length)=true/\
 R (dB g) (Es c d e f (b++([a.clause]))))/\
 (yX (.list .lit) (b.length+([a.clause]).length)=true/\
 R (dB g) (Es c d e f (b++([a.clause]))))/\
 yX (.list .lit) (b.length+([a.clause]).length)=true/\
 R (dB g) (Es c d e f (b++([a.clause]))))
 (zT (decide (a.kind=2))
 (zT (decide (a.con=0))
 (yJ oK [.agg [.sl .var c,.sl .con d,dI e,dI f],.sl (.list .lit) b,.sl .lit a.clause] .bool λh=>
 (yX (.list .lit) (b.length+([a.clause]).length)=true/\
 R (dB h) (Es c d e f (b++([a.clause]))))/\
 (yX (.list .lit) (b.length+([a.clause]).length)=true/\
 R (dB h) (Es c d e f (b++([a.clause]))))/\
 (yX (.list .lit) (b.length+([a.clause]).length)=true/\
 R (dB h) (Es c d e f (b++([a.clause]))))/\
 (yX (.list .lit) (b.length+([a.clause]).length)=true/\
 R (dB h) (Es c d e f (b++([a.clause]))))/\
 yX (.list .lit) (b.length+([a.clause]).length)=true/\
 R (dB h) (Es c d e f (b++([a.clause]))))
 ((yX (.list .lit) (b.length+([a.clause]).length)=true/\
 R (dB false) (Es c d e f (b++([a.clause]))))/\
 (yX (.list .lit) (b.length+([a.clause]).length)=true/\
 R (dB false) (Es c d e f (b++([a.clause]))))/\
 (yX (.list .lit) (b.length+([a.clause]).length)=true/\
 R (dB false) (Es c d e f (b++([a.clause]))))/\
 (yX (.list .lit) (b.length+([a.clause]).length)=true/\
 R (dB false) (Es c d e f (b++([a.clause]))))/\
 yX (.list .lit) (b.length+([a.clause]).length)=true/\
 R (dB false) (Es c d e f (b++([a.clause])))))
 ((yX (.list .lit) (b.length+([a.clause]).length)=true/\
 R (dB false) (Es c d e f (b++([a.clause]))))/\
 (yX (.list .lit) (b.length+([a.clause]).length)=true/\
 R (dB false) (Es c d e f (b++([a.clause]))))/\
 (yX (.list .lit) (b.length+([a.clause]).length)=true/\
 R (dB false) (Es c d e f (b++([a.clause]))))/\
 (yX (.list .lit) (b.length+([a.clause]).length)=true/\
 R (dB false) (Es c d e f (b++([a.clause]))))/\
 yX (.list .lit) (b.length+([a.clause]).length)=true/\
 R (dB false) (Es c d e f (b++([a.clause])))))):=by kernel_rfl
theorem SD(a:AcU)(b:AcV)(c d:Int)(e:AcS)(f:zR):Xv XH f42 lI [Ac3,dSt f] (Es a b c d e) [Ac3] false:=XY func42 (by kernel_rfl) ntmps42 rfl
def Mh:xF:= {own:=[],live:=[],n:=20}
theorem Bk(a:zE)(b:Int)(c:AcR)(R:xI):FD Mh f59 [dM a,dI b,.sl .lit c] R=
 (yJ tS [dM a] (.list (.list .int)) λd=>
 yJ kQ [dS d,.sl .lit c] (.list (.list .int)) λe=>
 wW b a.cons.length=true/\
 yJ rX [dC (zJ .con a.cons b.toNat),dS e] (.list (.list .int)) λf=>
 yJ zV [dS f] .bool λg=>
 R (dB g)):=by kernel_rfl
theorem FJ(a:zE)(b:Int)(c:AcR):wU Mh f59 lW [dM a,dI b,.sl .lit c]:=wX func59 (by kernel_rfl) ntmps59 rfl
def Pp:xF:= {own:=[],live:=[],n:=17}
theorem FK(a:zE)(b:AcS)(c:AcR)(R:xI):FD Pp f61 [dM a,.sl (.list .lit) b,.sl .lit c] R=
 (yJ tS [dM a] (.list (.list .int)) λd=>
 yJ kQ [dS d,.sl .lit c] (.list (.list .int)) λe=>
 yJ pZ [dM a,dS e,dB false,.sl (.list .lit) b] (.list (.list .int)) λf=>
 yJ zV [dS f] .bool λg=>
 R (dB g)):=by kernel_rfl
theorem Hk(a:zE)(b:AcS)(c:AcR):wU Pp f61 oK [dM a,.sl (.list .lit) b,.sl .lit c]:=wX func61 (by kernel_rfl) ntmps61 rfl
end Go.Proofs.YtdnmkinmcdihnaaGreatDoor
namespace Go.Proofs.YtdnmkinmcdihnaaGreatDoor
open Go.Proofs.Tryz
open Go.RowKit
variable[Lo]
noncomputable def mO (m:zE)(con:Int)(c:AcR):Bool:=zZ (yP (yV m con) (cA (xY m) c))
noncomputable def Vb (m:zE)(l:AcS)(c:AcR):Bool:=zZ (tH m false l (cA (xY m) c))
noncomputable def XI (m:zE)(all:AcS)(st:zR):Bool:=if st.kind=1 then mO m st.con st.clause else if st.kind=2 then decide (st.con=0)&&Vb m all st.clause else false
noncomputable def qO (m:zE):AcS->AcW->Bool
 |_,[]=>true
 |all,st::l=>XI m all st&&qO m (all++[st.clause]) l
def dN(l:AcW):Bool:=decide (0<l.length)&&decide (((l.getD (l.length-1) ⟨0,0,[]⟩).clause).length=0)
noncomputable def Pq (m:zE)(given:AcS)(l:AcW):Bool:=qO m given l&&dN l
theorem wC{m:zE}:(xY m).length=m.vars.length:=Aae ..
theorem XJ{m:zE}{v:Nat}(hv:v<m.vars.length):(xY m).getD v []=XA m.vars[v]:=by
 rw[yO _ (by rw[wC];exact hv)];simp[xY]
theorem TC{v:zO}{n:Int}:n∈XA v↔v.lo<=n/\n<=v.hi:=by rw[XA,Sv];omega
theorem Zb{m:zE}:gZ m (xY m)=0:=by
 refine Ub.2 ⟨wC,λv n hn=> ?_,λl hl=> ?_⟩
 ·by_cases hv:v<m.vars.length
  ·rw[XJ hv,TC]at hn
   rw[yO _ hv];exact hn
  ·rw[qK (by rw[wC];omega)]at hn;cases hn
 ·obtain⟨v,hv,rfl⟩:=OF.1 hl
  exact M5
theorem Ul{s:AcQ}{c:AcR}:fJ (cA s c) s:=ZT
theorem zfL{m:zE}{c:AcR}:gZ m (cA (xY m) c)=0:=TA Zb Ul
theorem zby{m:zE}(h:Right m){c:AcR}:jL (cA (xY m) c) m.vars.length:=ZZ h zfL
theorem KT{m:zE}(hr:Right m):vL tS [dM m] (dS (xY m)):=AY hr.lohi hr.vars
theorem Vc{m:zE}{con:Int}{c:AcR}(h:Wm m con=0):vL lW [dM m,dI con,.sl .lit c] (dB (mO m con c)):=
 FJ m con c λok=>by
  obtain⟨hr,hc⟩:=nD h;have hg:=zby hr (c:=c);have hl:=hg.len;rw[Bk];refine zG (KT hr) (zG (Ud _ _) ⟨uW.2 hc,zG (Me (c:=yV m con) (by rw[hl];exact qJ h) (by rw[hl];exact hg)) (zG (xB _) rfl)⟩)
theorem RF{m:zE}{l:AcS}{c:AcR}(h:yL m l)(hl:l.length<=1000000000):vL oK [dM m,.sl (.list .lit) l,.sl .lit c] (dB (Vb m l c)):=
 Hk m l c λok=>by
  rw[FK];exact zG (KT h.right) (zG (Ud _ _) (zG (Va h (zby h.right) hl) (zG (xB _) rfl)))
def zfM(m:zE)(con:Int)(c:AcR):Int:=if Wm m con≠0 then Wm m con else xD m.vars.length c
theorem zdz{m:zE}{con:Int}{c:AcR}(h:Wm m con≠0):zfM m con c=Wm m con:=As h
theorem zrp{m:zE}{con:Int}{c:AcR}(h:Wm m con=0):zfM m con c=xD m.vars.length c:=An (not_not_intro h)
theorem zso{m:zE}{con:Int}(h:yY m≠0):Wm m con=yY m:=As h
theorem zsp{m:zE}{con:Int}(h:yY m=0)(h2:con<0\/(m.cons.length:Int)<=con):Wm m con=5:=by rw[Wm,An (not_not_intro h),As h2]
theorem zdA(m:zE)(con:Int)(c:AcR):vL Xt [dM m,dI con,.sl .lit c] (.tup [dB (orB (zfM m con c) (mO m con c)),dI (zfM m con c)]):=
 zaf m con c λok=>by
  rw[zdy];refine zG (sP m) (zC (λe=> ?_) λe=> ?_)
  ·have e:=sN e
   rw[zdz (by rw[zso e];exact e),zso e,zdn e]
  have e:=vM e;refine zC (λf=> ?_) λf=>zC (λg=> ?_) λg=> ?_
  ·have a:=zsp e (.inl (BY f))
   rw[zdz (by rw[a];decide),a];rfl
  ·have a:=zsp e (.inr (BY g))
   rw[zdz (by rw[a];decide),a];rfl
  ·have f:=Aah f
   have g:=Aah g;have a:=Ld e (con:=con) (by omega)
   rw[zrp a];refine zG (bT m c) (zC (λe=> ?_) λe=> ?_)
   ·rw[zdn (sN e)]
   ·rw[zdm (vM e),vM e]
    exact zG (Vc a) rfl
def SE(m:zE)(l:AcS)(c:AcR):Int:=or0 (yY m) (or0 (Xf m.vars.length l) (xD m.vars.length c))
theorem KU{a b:Int}(h:or0 a b=0):a=0/\b=0:=by
 by_cases e:a=0
 ·rw[Sh e]at h;exact⟨e,h⟩
 ·rw[QJ e]at h;exact At h e
theorem zah(m:zE)(l:AcS)(c:AcR):vL Zv [dM m,.sl (.list .lit) l,.sl .lit c] (.tup [dB (orB (SE m l c) (Vb m l c)),dI (SE m l c)]):=
 Bi m l c λok=>by
  rw[zag];refine zG (sP m) ?_
  by_cases h1:yY m=0
  ·refine dt h1 (zG (Mg m l) ?_)
   by_cases h2:Xf m.vars.length l=0
   ·refine dt h2 (zG (bT m c) ?_)
    have e:SE m l c=xD m.vars.length c:=by rw[SE,Sh h1,Sh h2]
    rw[e];refine zC (λe=> ?_) λe=> ?_
    ·rw[zdn (sN e)]
    ·obtain⟨h3,h4⟩:=KQ h2
     rw[zdm (vM e),vM e];exact zG (RF (nB h1 h4) (by omega)) rfl
   ·have e:SE m l c=Xf m.vars.length l:=by rw[SE,Sh h1,QJ h2]
    refine df h2 (dnt h2 ?_);rw[e,zdn h2]
  ·have e:SE m l c=yY m:=by rw[SE,QJ h1]
   refine df h1 (df h1 (dnt h1 ?_));rw[e,zdn h1]
structure zdB (m:zE)(given:AcS)(l:AcW):Prop where
 chk:yY m=0
 glen:given.length<=600
 slen:l.length<=6000
 gcl:∀c∈given,xD m.vars.length c=0
 scl:∀s∈l,xD m.vars.length s.clause=0
 con:∀s∈l,s.kind=1->0<=s.con/\s.con<(m.cons.length:Int)
def bH(m:zE)(s:zR):Int:=if s.kind=1/\(s.con<0\/(m.cons.length:Int)<=s.con)then 5 else 0
def Ps(m:zE)(given:AcS)(l:AcW):Int:=
 if 600<given.length\/6000<l.length then 2 else or0 (Xf m.vars.length given) (or0 (wM (λ_ s=>xD m.vars.length s.clause) 0 l) (wM (λ_ s=>bH m s) 0 l))
def zdC(m:zE)(given:AcS)(l:AcW):Int:=or0 (yY m) (Ps m given l)
theorem zhU{m:zE}{given:AcS}{l:AcW}(h:yY m=0)(h2:Ps m given l=0):zdB m given l:=by
 unfold Ps at h2
 split at h2
 ·exact At h2 (by decide)
 rename_i h3;obtain⟨h4,h5⟩:=KU h2;obtain⟨h6,h7⟩:=KU h5;obtain⟨h8,h9⟩:=KQ h4;refine⟨h,h8,by omega,h9,λs hs=> ?_,λs hs hk=> ?_⟩
 ·obtain⟨i,hi,rfl⟩:=Aas hs
  exact aE h6 hi
 ·obtain⟨i,hi,rfl⟩:=Aas hs
  have:=aE h7 hi;simp only[bH,hk,true_and]at this
  split at this
  ·exact At this (by decide)
  ·omega
theorem zms{m:zE}{given:AcS}{l:AcW}(h:zdC m given l=0):zdB m given l:=let⟨a,b⟩:=KU h;zhU a b
theorem Bl(m:zE)(given:AcS)(l:AcW):vL YQ [dM m,.sl (.list .lit) given,.sl .step l] (dI (zdC m given l)):=
 FI m given l λok=>by
  rw[Bj];refine zG (sP m) (zC (λe=> ?_) λe=> ?_)
  ·exact qH (QJ (sN e))
  rw[zdC,Sh (vM e)];refine zC (λf=> ?_) λf=>zC (λg=> ?_) λg=> ?_
  ·exact qH (As (.inl (by simp at f;omega)))
  ·exact qH (As (.inr (by simp at g;omega)))
  have f:¬600<given.length:=by simp at f;omega
  have g:¬6000<l.length:=by simp at g;omega
  rw[Ps,An (by omega)]
  refine zG (Mg m given) (zC (λe=> ?_) λe=> ?_)
  ·exact qH (QJ (sN e))
  rw[Sh (vM e)];refine zuG (I:=λn v=>Z2 m l _ n v) l (λ_ s=>xD m.vars.length s.clause) (by omega) (X:=λx=>D.int .i64 x=dI (or0 (wM (λ_ s=>xD m.vars.length s.clause) 0 l) (wM (λ_ s=>bH m s) 0 l))) (λe=>by rw[QJ e]) (λn k h _ hX hn=> ?_) λh0 n=> ?_
  ·rw[Uk,yD h,yA (t:=.step) h]
   exact⟨zI h,zG (bT m _) (zC (λe=>hX (sN e)) λe=>hn (vM e))⟩
  ·rw[Uk,zY,Sh h0]
   refine zl4 (I:=λn v=>eF m l _ n v) l (λ_ s=>bH m s) (by omega) (X:=λx=>D.int .i64 x=dI (wM (λ_ s=>bH m s) 0 l)) (Y:=D.int .i64 0=dI (wM (λ_ s=>bH m s) 0 l)) (λ_=>rfl) (λe=>qH e) (λn k h _ hX hn=> ?_) λn hY=> ?_
   ·rw[Uj,yD h,yA (t:=.step) h]
    refine⟨zI h,zC (λe=>zC (λf=> ?_) λf=>zC (λg=> ?_) λg=> ?_) λe=> ?_⟩
    ·rw[bH,As ⟨BY e,.inl (BY f)⟩]at hX;exact hX (by decide)
    ·rw[bH,As ⟨BY e,.inr (BY g)⟩]at hX;exact hX (by decide)
    ·exact hn (An λx=>by have:=Aah f;have:=Aah g;omega)
    ·exact hn (An λx=>Aah e x.1)
   ·rw[Uj,zY];exact hY
theorem zfN{m:zE}{all:AcS}(h:yY m=0)(hc:∀c∈all,xD m.vars.length c=0):yL m all:=nB h hc
abbrev hpC(m:zE)(all:AcS):List (Nat×yE):=[(1000,.cells [.sl .var m.vars,.sl .con m.cons,.int .i64 m.goal,.int .i64 m.var,.own 2000]),(2000,.row 61 (.list .lit) all)]
theorem R6{m:zE}{all:AcS}{st:zR}(h:yY m=0)(hc:∀c∈all,xD m.vars.length c=0)(hl:all.length<=10000)(hcon:st.kind=1->0<=st.con/\st.con<(m.cons.length:Int)):
  xT lI [Ac3,.agg [.int .i64 st.kind,.int .i64 st.con,.sl .lit st.clause]] (hpC m all) (.bool (XI m all st)) (hpC m (all++[st.clause])):=
 SD m.vars m.cons m.goal m.var all st λ_ _=>by
  have hr:yX (.list .lit) (all.length+([st.clause]).length)=true:=xC (t:=.list .lit) (by show(_+1)*24<=_;omega)
  rw[R5];refine zC (λe=> ?_) λe=>zC (λf=>zC (λg=> ?_) λg=> ?_) λf=> ?_
  ·have e:=BY e
   refine zG (Vc (Ld h (hcon e))) ?_;have hs:XI m all st=mO m st.con st.clause:=As e;rw[hs]
   repeat'(first|exact hr|exact rfl|apply And.intro)
  ·have e:=Aah e
   have f:=BY f;refine zG (RF (zfN h hc) (by omega)) ?_
   have hs:XI m all st=Vb m all st.clause:=by rw[XI,An e,As f,g,Abf]
   rw[hs]
   repeat'(first|exact hr|exact rfl|apply And.intro)
  ·have e:=Aah e
   have f:=BY f;have hs:XI m all st=false:=by rw[XI,An e,As f,g,Abe]
   rw[hs]
   repeat'(first|exact hr|exact rfl|apply And.intro)
  ·have hs:XI m all st=false:=by rw[XI,An (Aah e),An (Aah f)]
   rw[hs]
   repeat'(first|exact hr|exact rfl|apply And.intro)
theorem zrq{l:AcW}(h:0<l.length):zJ .step l ((yU ((l.length:Int)-1)).toNat)=l.getD (l.length-1) ⟨0,0,[]⟩/\wW (yU ((l.length:Int)-1)) l.length=true\/9223372036854775807<l.length:=by
 by_cases hb:l.length<=9223372036854775807
 ·rw[qV (by omega) (by omega),show((l.length:Int)-1).toNat=l.length-1 by omega]
  exact .inl ⟨rfl,uW.2 (by omega)⟩
 ·exact .inr (by omega)
theorem Vd(m:zE)(given:AcS)(l:AcW):vL ou [dM m,.sl (.list .lit) given,.sl .step l] (.tup [dB (orB (zdC m given l) (Pq m given l)),dI (zdC m given l)]):=
 FG m given l λok=>by
  rw[Bh];refine zG (Bl m given l) (zC (λe=> ?_) λe=> ?_)
  ·rw[zdn (sN e)]
  have e:=vM e;have hk:=zms e;have hg:=hk.glen;have hsl:=hk.slen;rw[zdm e,e];refine⟨xC (t:=.list .lit) (by show _*24<=_;omega),?_⟩
  refine up (I:=λn v a=>Z1 l _ n v m.vars m.cons m.goal m.var a) 0 l.length rfl (Is _) (by omega) (λk a=>a.length=given.length+k/\(∀c∈a,xD m.vars.length c=0)/\qO m given l=qO m a (l.drop k)) ⟨rfl,hk.gcl,rfl⟩ λn k a _ hk2 ha hn=> ?_
  obtain⟨h1,h2,h3⟩:=ha;rw[KR]
  by_cases h:k<l.length
  ·rw[yD h,yA (t:=.step) h]
   have hm:=AT h;refine⟨zI h,_,_,R6 hk.chk h2 (by omega) (hk.con _ hm),?_⟩
   rw[Aa4 h,qO]at h3
   refine zC (λf=> ?_) λf=>hn h _ ⟨?_,λc hc=> ?_,?_⟩
   ·have f:XI m a l[k]=false:=by simpa using f
    rw[f,Abe]at h3
    rw[Pq,h3];rfl
   ·rw[It,h1];rfl
   ·rcases Aai.1 hc with hc|hc
    ·exact h2 c hc
    ·rw[Aab.1 hc];exact hk.scl _ hm
   ·have f:XI m a l[k]=true:=by simpa using f
    rw[f,Abf]at h3
    exact h3
  ·have hk':k=l.length:=by omega
   subst hk';rw[List.drop_length]at h3
   have h3:qO m given l=true:=h3;rw[zY,Pq,h3,Abf,dN];refine zC (λf=> ?_) λf=> ?_
   ·have f:0<l.length:=by simpa using f
    obtain⟨q1,q2⟩:=(zrq f).resolve_right (by omega)
    refine⟨q2,?_⟩;rw[q1,Aaf f,Abf]
    congr 3
    exact decide_eq_decide.2 ⟨λe=>by omega,λe=>by omega⟩
   ·have f:¬0<l.length:=by simpa using f
    rw[Aao f];rfl
end Go.Proofs.YtdnmkinmcdihnaaGreatDoor
namespace Go.Proofs.YtdnmkinmcdihnaaGreatDoor
open Go.Proofs.Tryz
open Go.RowKit
variable[Lo]
theorem zrr{m:zE}{con:Int}{c:AcR}(h:Wm m con=0):mO m con c=zZ (Ew (yV m con) (cA (xY m) c)):=by
 rw[mO,zbw];rw[Ul.1,wC];exact qJ h
theorem zfO{m:zE}{l:AcS}{c:AcR}(h:yL m l)(k:Nat)(hf:zZ (itO (zoU m false l) k (cA (xY m) c))=true):Vb m l c=true:=by
 have hl:(cA (xY m) c).length=m.vars.length:=Ul.1.trans wC;have hp:=h.pos;rw[Vb,zkT h hl k hf];exact lY (by omega)
theorem zth:Wm vO 0=0:=by kernel_rfl
theorem zbz:mO vO 0 [⟨0,1,1⟩]=true:=by rw[zrr zth];kernel_rfl
theorem zrs:yL vO [[⟨0,1,1⟩]]:=nB (by kernel_rfl) λc hc=>by rw[Aab.1 hc];kernel_rfl
theorem zrt:yL vO [[⟨0,2,2⟩],[⟨0,1,1⟩]]:=nB (by kernel_rfl) λc hc=>by
 rcases Aad.1 hc with rfl|hc
 ·kernel_rfl
 ·rw[Aab.1 hc];kernel_rfl
theorem zoV:vL Xt [dM vO,dI 0,.sl .lit [⟨0,1,1⟩]] (.tup [dB true,dI 0]):=by
 have h:=zdA vO 0 [⟨0,1,1⟩]
 rwa[show zfM vO 0 [⟨0,1,1⟩]=0 by kernel_rfl,zdm rfl,zbz]at h
theorem zmt:vL Zv [dM vO,.sl (.list .lit) [[⟨0,1,1⟩]],.sl .lit [⟨0,4,2⟩]] (.tup [dB true,dI 0]):=by
 have h:=zah vO [[⟨0,1,1⟩]] [⟨0,4,2⟩]
 rwa[show SE vO [[⟨0,1,1⟩]] [⟨0,4,2⟩]=0 by kernel_rfl,zdm rfl,zfO zrs 1 (by kernel_rfl)]at h
theorem zfP:vL ou [dM vO,.sl (.list .lit) [],.sl .step [⟨1,0,[⟨0,1,1⟩]⟩]] (.tup [dB false,dI 0]):=by
 have h:=Vd vO [] [⟨1,0,[⟨0,1,1⟩]⟩]
 rwa[show zdC vO [] [⟨1,0,[⟨0,1,1⟩]⟩]=0 by kernel_rfl,zdm rfl,Pq,show dN [⟨1,0,[⟨0,1,1⟩]⟩]=false by kernel_rfl,AbJ]at h
theorem zfQ:vL ou [dM vO,.sl (.list .lit) [[⟨0,2,2⟩]],.sl .step [⟨1,0,[⟨0,1,1⟩]⟩,⟨2,0,[]⟩]] (.tup [dB true,dI 0]):=by
 have h:=Vd vO [[⟨0,2,2⟩]] [⟨1,0,[⟨0,1,1⟩]⟩,⟨2,0,[]⟩]
 have e:qO vO [[⟨0,2,2⟩]] [⟨1,0,[⟨0,1,1⟩]⟩,⟨2,0,[]⟩]=true:=by
  rw[qO,qO,qO,AbI,If];constructor
  ·show(if(1:Int)=1 then mO vO 0 [⟨0,1,1⟩]else _)=true
   rw[As rfl];exact zbz
  ·show(if(2:Int)=1 then _ else if(2:Int)=2 then decide ((0:Int)=0)&&Vb vO [[⟨0,2,2⟩],[⟨0,1,1⟩]] []else false)=true
   rw[An (by decide),As rfl,zfO zrt 1 (by kernel_rfl)];rfl
 rwa[show zdC vO [[⟨0,2,2⟩]] [⟨1,0,[⟨0,1,1⟩]⟩,⟨2,0,[]⟩]=0 by kernel_rfl,zdm rfl,Pq,e,show dN [⟨1,0,[⟨0,1,1⟩]⟩,⟨2,0,[]⟩]=true by kernel_rfl]at h
theorem TD:vL nJ [] (dB true):=
 UD λok=>by
  rw[Te];exact zG vU (Zt (t:=.bool) (u:=.int) zoV (zG vU (Zt (t:=.bool) (u:=.int) zmt (zG vU (Zt (t:=.bool) (u:=.int) zfP (zG vU (Zt (t:=.bool) (u:=.int) zfQ rfl)))))))
end Go.Proofs.YtdnmkinmcdihnaaGreatDoor
namespace Go.Proofs.YtdnmkinmcdihnaaGreatDoor
open Go.Proofs.Tryz
open Go.RowKit
set_option maxRecDepth 100000
variable[Lo]
end Go.Proofs.YtdnmkinmcdihnaaGreatDoor
namespace Go.Proofs.YtdnmkinmcdihnaaGreatDoor
open Go.Proofs.Tryz
open Go.RowKit
theorem zmu(w:World):Calls prog 250 #[.slice none 0 0,.int .i64 0] w λe w'=>e=.returned (.slice none 0 0)/\w=w':=by
 go_enter func250,ntmps250
 go_wp2
 all_goals go_ret
 all_goals exact⟨rfl,rfl⟩
set_option maxRecDepth 100000 in
theorem zmv(n:Nat)(h0:0<n)(h:n*24<=140737488355328)(w:World):Calls prog 250 #[.slice none 0 0,.int .i64 n] w λe w'=>∃cap cells,e=.returned (.slice (some ⟨w.heap.size,0,none⟩) 0 cap)/\w'.heap[w.heap.size]? =some (.cells cells 66 (0,0))/\cells.size=cap*3/\cap<=maxLen/\w'.heap.size=w.heap.size+1/\Below w.heap.size w w':=by
 go_enter func250,ntmps250
 have happ:=Lib.run_append_nil_zeros (P:=prog) w 61 3 61 66 t66 (.agg #[.int .i64 0,.int .i64 0,.int .i64 0]) .i64 .i64 underlying61 underlying3 (by kernel_rfl) (by kernel_rfl) n h0 (by decide) (by omega) (by show n*24<=_;omega)
 have hcap:=grownCap_le_maxLen w n 0 66 (by unfold maxLen;omega)
 have hge:=grownCap_ge w n 0 66;generalize grownCap w n 0 66=cap at happ hcap hge
 have hZs:(Builtin.zeroCells (Value.agg #[.int .i64 0,.int .i64 0,.int .i64 0]).cells n++Builtin.zeroCells (Value.agg #[.int .i64 0,.int .i64 0,.int .i64 0]).cells (cap-n)).size=cap*3:=by
  simp[size_zeroCells,Value.cells];omega
 generalize Builtin.zeroCells (Value.agg #[.int .i64 0,.int .i64 0,.int .i64 0]).cells n++Builtin.zeroCells (Value.agg #[.int .i64 0,.int .i64 0,.int .i64 0]).cells (cap-n)=Z at happ hZs
 go_wp2_with (at_builtin;refine Lib.wpList_append_run _ rfl _ _ _ _ rfl _ _ rfl rfl _ _ happ ?_)
 go_ret
 exact⟨cap,Z,rfl,heap_alloc_new w _,hZs,hcap,by simp,⟨rfl,rfl,rfl,by simp,λk hk=>Below.heap_alloc w _ k hk⟩⟩
end Go.Proofs.YtdnmkinmcdihnaaGreatDoor
namespace Go.Proofs.YtdnmkinmcdihnaaGreatDoor
open Go.Proofs.Tryz
open Go.RowKit
variable[Lo]
theorem Ez{w w':World}{S:Nat->Prop}{pl:Nat->Value}{v:Value}{e:AcN}{t:Ty}{xs:List t.den}(hS:∀b,S b->b<w.heap.size)(hob:∀pl',jF w' S pl' v (.row e t xs))(hb:∀b,sR v=some b->w.heap.size<=b/\b<w'.heap.size)(hw:Below w.heap.size w w'):
  ∃v' S' pl',Ending.returned v=.returned v'/\Rd w' S' pl' v' (.own 3000)/\Av w' S' pl' [(3000,.row e t xs)]/\(∀b,S' b->b<w'.heap.size)/\(∀b,S' b->S b\/o9 pl [] b\/w.heap.size<=b)/\
   (∀b,o9 pl' [(3000,.row e t xs)] b->o9 pl [] b\/w.heap.size<=b)/\(∀k,stabK k=true->pl' k=pl k)/\rE w.heap.size (o9 pl []) w w':=by
 have hlook:∀k o,zW k [(3000,yE.row e t xs)]=some o->k=3000/\o=.row e t xs:=λk o h=>by
  rw[xM]at h
  split at h
  ·rename_i hk;injection h with h;exact⟨hk.symm,h.symm⟩
  ·cases h
 refine⟨v,S,λj=>if j=3000 then v else pl j,rfl,(As rfl).symm,⟨λk o h=> ?_,λk o b h hb2=> ?_,λk k' o o' b h h' _ _=> ?_⟩,λb h=>Aaz (hS b h) hw.size,λb h=> .inl h,λb h=> ?_,λk hk=>An (λe=>by rw[e]at hk;cases hk),.of hw⟩
 ·obtain⟨rfl,rfl⟩:=hlook k o h
  exact hob _
 ·obtain⟨rfl,rfl⟩:=hlook k o h
  have hb2:sR v=some b:=hb2;exact⟨(hb b hb2).2,λhs=>by have:=hS b hs;have:=(hb b hb2).1;omega⟩
 ·rw[(hlook k o h).1,(hlook k' o' h').1]
 ·obtain⟨k,o,h1,h2⟩:=h
  obtain⟨rfl,rfl⟩:=hlook k o h1;have h2:sR v=some b:=h2;exact .inr (hb b h2).1
end Go.Proofs.YtdnmkinmcdihnaaGreatDoor
namespace Go.Proofs.YtdnmkinmcdihnaaGreatDoor
open Go.Proofs.Tryz
open Go.RowKit
variable[Lo]
def GG(s:AcQ)(v:Int)(l:AcP):AcR:=(l.filter λn=> !mE (s.getD v.toNat []) n).map λn=>⟨v,3,n⟩
def gE(m:zE)(s:AcQ)(sc:AcP):AcR:=sc.flatMap λv=>GG s v (xY m|>.getD v.toNat [])
def SF(p:AcR->Bool):Nat->AcR->Nat->AcR
 |0,l,_=>l
 |k+1,l,i=>if i<l.length then(if p (l.eraseIdx i)=true then SF p k (l.eraseIdx i) i else SF p k l (i+1))else l
def zdD(p:AcR->Bool)(l:AcR):AcR:=SF p l.length l 0
noncomputable def KW (m:zE)(con:Int)(must l:AcR):AcR:=must++zdD (λl=>mO m con (must++l)) l
theorem KX(p:AcR->Bool):∀(k:Nat) (l:AcR) (i:Nat),(SF p k l i).Sublist l
 |0,l,i=>List.Sublist.refl _
 |k+1,l,i=>by
  rw[SF];split
  ·split
   ·exact(KX p k _ i).trans (AcE ..)
   ·exact KX p k l (i+1)
  ·exact List.Sublist.refl _
theorem OD(p:AcR->Bool):∀(k:Nat) (l:AcR) (i:Nat),p l=true->p (SF p k l i)=true
 |0,l,i,h=>h
 |k+1,l,i,h=>by
  rw[SF];split
  ·split
   ·rename_i e;exact OD p k _ i e
   ·exact OD p k l (i+1) h
  ·exact h
theorem FL{l:AcR}{i j:Nat}{x:zA}(h:j<i)(hx:x∈(l.eraseIdx i).eraseIdx j):x∈l.eraseIdx j:=by
 induction l generalizing i j with
 |nil=>cases i<;>cases hx
 |cons a l ih=>
  cases i with
  |zero=>exact At h (Aba _)
  |succ i=>
   rw[AbX]at hx
   cases j with
   |zero=>
    rw[AcB]at hx⊢
    exact(AcE ..).subset hx
   |succ j=>
    rw[AbX]at hx⊢
    rcases Aad.1 hx with rfl|hx
    ·exact Aaa ..
    ·exact Aac _ (ih (by omega) hx)
theorem Bm(p:AcR->Bool)(hp:∀a b:AcR,(∀x∈a,x∈b)->p a=true->p b=true):∀(k:Nat) (l:AcR) (i:Nat),l.length<=k+i->(∀j,j<i->j<l.length->p (l.eraseIdx j)=false)->∀j,j<(SF p k l i).length->p ((SF p k l i).eraseIdx j)=false
 |0,l,i,hk,h,j,hj=>h j (by have:(SF p 0 l i).length=l.length:=rfl;omega) hj
 |k+1,l,i,hk,h,j,hj=>by
  rw[SF]at hj⊢
  by_cases h1:i<l.length
  ·rw[As h1]at hj⊢
   by_cases h2:p (l.eraseIdx i)=true
   ·rw[As h2]at hj⊢
    have hl:(l.eraseIdx i).length=l.length-1:=AcK h1;refine Bm p hp k _ i (by omega) (λj' h3 h4=> ?_) j hj
    cases e:p ((l.eraseIdx i).eraseIdx j')
    ·rfl
    ·have h5:=h j' h3 (by omega)
     rw[hp _ (l.eraseIdx j') (λx hx=>FL h3 hx) e]at h5
     cases h5
   ·rw[An h2]at hj⊢
    refine Bm p hp k l (i+1) (by omega) (λj' h3 h4=> ?_) j hj
    by_cases e:j'=i
    ·subst e;simpa using h2
    ·exact h j' (by omega) h4
  ·rw[An h1]at hj⊢
   exact h j (by omega) hj
theorem zfR(p:AcR->Bool)(hp:∀a b:AcR,(∀x∈a,x∈b)->p a=true->p b=true)(l:AcR):∀j,j<(zdD p l).length->p ((zdD p l).eraseIdx j)=false:=
 Bm p hp l.length l 0 (IN _) λj h=>At h (Aba _)
theorem zmw{s:AcQ}{c c':AcR}(h:∀x∈c,x∈c'):fJ (cA s c') (cA s c):=
 W5 (fJ.refl s) λv n _ e=>by
  rw[Aa1]at e⊢
  cases e2:atC c v n
  ·rfl
  ·obtain⟨l,h1,h2,h3⟩:=Pd.1 e2
   rw[Pd.2 ⟨l,h l h1,h2,h3⟩]at e;cases e
theorem zhV{m:zE}{con:Int}(hat:Wm m con=0){c c':AcR}(h:∀x∈c,x∈c')(hb:mO m con c=true):mO m con c'=true:=by
 obtain⟨hr,_⟩:=nD hat;have hop:=Ts (qJ hat) (by have:=hr.some;omega)
 have hl:(cA (xY m) c).length=m.vars.length:=Ul.1.trans wC;cases e:mO m con c' with
 |true=>rfl
 |false=>
  have h2:=(hop.mono hl (zmw h) e).fail e;rw[mO,h2]at hb;cases hb
theorem zoW{m:zE}{con:Int}(hat:Wm m con=0)(must:AcR):∀a b:AcR,(∀x∈a,x∈b)->mO m con (must++a)=true->mO m con (must++b)=true:=λa b h=>zhV hat λx hx=>by
 rcases Aai.1 hx with hx|hx
 ·exact AaH _ hx
 ·exact AaU _ (h x hx)
theorem zbA{m:zE}{s:AcQ}{sc:AcP}{x:zA}:x∈gE m s sc↔x.var∈sc/\x.op=3/\x.n∈(xY m).getD x.var.toNat []/\x.n∉s.getD x.var.toNat []:=by
 rw[gE,AcC];constructor
 ·rintro⟨v,hv,h⟩
  obtain⟨n,hn,rfl⟩:=OF.1 h;obtain⟨h1,h2⟩:=Aax.1 hn;refine⟨hv,rfl,h1,λh3=> ?_⟩
  rw[pE.2 h3]at h2;cases h2
 ·rintro⟨h1,h2,h3,h4⟩
  refine⟨x.var,h1,OF.2 ⟨x.n,Aax.2 ⟨h3,?_⟩,by cases x;simp only at h2;rw[h2]⟩⟩
  cases e:mE (s.getD x.var.toNat []) x.n
  ·rfl
  ·exact At (pE.1 e) h4
theorem zmx{m:zE}{s:AcQ}{sc:AcP}(must:AcR){v:Nat}(hv:(v:Int)∈sc){n:Int}(hn:n∈(cA (xY m) (must++gE m s sc)).getD v []):n∈s.getD v []:=by
 rw[cA,uZ,Aax]at hn
 apply Classical.byContradiction;intro h;have h2:=hn.2;rw[Pd.2 ⟨⟨v,3,n⟩,AaU _ (zbA.2 ⟨hv,rfl,by rw[Aap];exact hn.1,by rw[Aap];exact h⟩),rfl,by simp[holdsL]⟩]at h2
 cases h2
theorem zkU{m:zE}{con:Int}{s:AcQ}(hat:Wm m con=0)(hl:s.length=m.vars.length)(hf:zZ s=false)(must:AcR){vs:AcP}(hv:VH vs (cA (xY m) (must++gE m s (yI (yV m con) m.vars.length))))(ht:wO (yV m con) vs=true):
  ∃us,VH us s/\wO (yV m con) us=true/\∀v:Nat,(v:Int)∈yI (yV m con) m.vars.length->us.getD v 0=vs.getD v 0:=by
 have hc:=qJ hat;obtain⟨ps,hp⟩:=Pc hf;have hdl:(cA (xY m) (must++gE m s (yI (yV m con) m.vars.length))).length=m.vars.length:=Ul.1.trans wC;have hg:∀u:Nat,u<s.length->((List.range s.length).map λu:Nat=>if(u:Int)∈yI (yV m con) m.vars.length then vs.getD u 0 else ps.getD u 0).getD u 0=if(u:Int)∈yI (yV m con) m.vars.length then vs.getD u 0 else ps.getD u 0:=λu hu=>Sx hu
 have hs:∀v:Nat,(v:Int)∈yI (yV m con) m.vars.length->v<s.length:=λv h=>by have:=lN _ h;omega
 refine⟨(List.range s.length).map λu:Nat=>if(u:Int)∈yI (yV m con) m.vars.length then vs.getD u 0 else ps.getD u 0,⟨by simp,λu hu=> ?_⟩,?_,λv h=> ?_⟩
 ·rw[hg u hu]
  split
  ·rename_i e
   exact zmx must e (hv.2 u (by rw[hdl];omega))
  ·exact hp.2 u hu
 ·rw[<-ht]
  exact jK hc λw h5 h6=>by rw[hg w (by omega),As (mF.2 ⟨by omega,h6⟩)]
 ·rw[hg v (hs v h),As h]
theorem zdE{m:zE}{con:Int}{s:AcQ}(hat:Wm m con=0)(hl:s.length=m.vars.length)(hf:zZ s=false){v:Nat}{n:Int}(hv:v<s.length)(hn:n∈s.getD v [])(hg:n∉(yP (yV m con) s).getD v []):
  mO m con ([⟨v,4,n⟩]++gE m s (yI (yV m con) m.vars.length))=true:=by
 have hc:=qJ hat;obtain⟨hr,_⟩:=nD hat;have hop:=Ts hc (by have:=hr.some;omega)
 have hdl:(cA (xY m) ([⟨(v:Int),4,n⟩]++gE m s (yI (yV m con) m.vars.length))).length=m.vars.length:=Ul.1.trans wC;cases e:mO m con ([⟨v,4,n⟩]++gE m s (yI (yV m con) m.vars.length))with
 |true=>rfl
 |false=>
  obtain⟨vs,h1,h2⟩:=(hop.nofail hdl).1 e;obtain⟨us,h3,h4,h5⟩:=zkU hat hl hf _ h1 h2
  have hvn:vs.getD v 0=n:=by
   have h6:=h1.2 v (by rw[hdl];omega)
   rw[cA,uZ,Aax,Aa1]at h6
   apply Classical.byContradiction;intro h7;have h8:=h6.2;rw[Pd.2 ⟨⟨v,4,n⟩,AaH _ (Aab.2 rfl),rfl,by generalize vs.getD v 0=z at h7;simp[holdsL,h7]⟩]at h8
   cases h8
  have h6:=hop.keeps hl (h3.set hn hv) (by
   rw[<-h4];refine jK hc λw h7 h8=> ?_
   rw[rQ (by rw[h3.1];exact hv)]
   split
   ·rename_i e;subst e;rw[h5 w (mF.2 ⟨by omega,h8⟩),hvn]
   ·rfl)
  have h7:=h6.2 v (by rw[hop.len hl];omega)
  rw[rQ (by rw[h3.1];exact hv),As rfl]at h7
  exact At h7 hg
theorem zfS{m:zE}{con:Int}{s:AcQ}(hat:Wm m con=0)(hl:s.length=m.vars.length)(hf:zZ s=false)(hg:zZ (yP (yV m con) s)=true):mO m con ([]++gE m s (yI (yV m con) m.vars.length))=true:=by
 have hc:=qJ hat;obtain⟨hr,_⟩:=nD hat;have hop:=Ts hc (by have:=hr.some;omega)
 have hdl:(cA (xY m) ([]++gE m s (yI (yV m con) m.vars.length))).length=m.vars.length:=Ul.1.trans wC;cases e:mO m con ([]++gE m s (yI (yV m con) m.vars.length))with
 |true=>rfl
 |false=>
  obtain⟨vs,h1,h2⟩:=(hop.nofail hdl).1 e;obtain⟨us,h3,h4,h5⟩:=zkU hat hl hf _ h1 h2;rw[(hop.nofail hl).2 ⟨us,h3,h4⟩]at hg;cases hg
theorem zbB{c:zF}{nv:Nat}(hc:vQ c nv):(yI c nv).length<=4:=by
 have hm:=hc.many
 have hsub:∀x∈yI c nv,x∈c.vars++c.lits.map λl=>l.var:=λx hx=>by
  rcases zoJ (mF.1 hx).2 with h|⟨l,h,e⟩
  ·exact AaH _ h
  ·exact AaU _ (OF.2 ⟨l,h,e⟩)
 have h1:=(Ue (c:=c) (nv:=nv)).length_le_of_subset hsub;rw[It,Aae]at h1
 by_cases h8:c.kind<=8
 ·have:=Po hc h8
  rw[this,IS]at h1;omega
 ·have hk:=hc.kind
  by_cases h9:c.kind=9
  ·have:=hc.formC.clause h9;omega
  ·have:=hc.formC.iff (by omega);omega
theorem TF{m:zE}(hr:Right m)(v:Nat):((xY m).getD v []).length<=6:=by
 by_cases hv:v<m.vars.length
 ·have:=hr.var _ (AT hv)
  rw[XJ hv,XA,YB];omega
 ·rw[qK (by rw[wC];omega)];exact Is _
theorem zbC{s:AcQ}{v:Int}{l:AcP}:(GG s v l).length<=l.length:=by rw[GG,Aae];exact Abw ..
theorem zbD{m:zE}(hr:Right m){s:AcQ}(sc:AcP):(gE m s sc).length<=sc.length*6:=Ug λv _=>Aan zbC (TF hr _)
theorem EA{lo hi:Int}{n:Nat}(h1:0<=lo)(h2:lo<=hi)(h3:hi<=n):Nh lo hi n=true:=by
 unfold Nh;simp;omega
noncomputable def Um (m:zE)(con:Int)(s:AcQ)(v n:Int):Bool:= !zZ s&&(mE (s.getD v.toNat []) n&& !mE ((yP (yV m con) s).getD v.toNat []) n)
noncomputable def Pt (m:zE)(con:Int)(s:AcQ):Bool:= !zZ s&&zZ (yP (yV m con) s)
noncomputable def Un (m:zE)(con:Int)(s:AcQ)(v n:Int):AcR:=if Um m con s v n=true then KW m con [⟨v,4,n⟩] (gE m s (yI (yV m con) m.vars.length))else[]
noncomputable def fc (m:zE)(con:Int)(s:AcQ):AcR:=if Pt m con s=true then KW m con [] (gE m s (yI (yV m con) m.vars.length))else[]
theorem Pu{m:zE}{con:Int}(hat:Wm m con=0){s:AcQ}:(gE m s (yI (yV m con) m.vars.length)).length<=24:=by
 have h1:=zbD (nD hat).1 (s:=s) (yI (yV m con) m.vars.length);have h2:=zbB (qJ hat);omega
end Go.Proofs.YtdnmkinmcdihnaaGreatDoor
namespace Go.Proofs.YtdnmkinmcdihnaaGreatDoor
open Go.Proofs.Tryz
open Go.RowKit
variable[Lo]
structure TG (m:zE)(con:Int)(s:AcQ)(must r:AcR):Prop where
 says:mO m con (must++r)=true
 few:∀j,j<r.length->mO m con (must++r.eraseIdx j)=false
 told:∀x∈r,x.op=3/\Uc s x= -1/\eS m.vars.length x=0
 len:r.length<=24
theorem zmy{s:AcQ}{x:zA}(h:∀n∈s.getD x.var.toNat [],holdsL x n=false):Uc s x= -1:=by
 rw[Uc,zbf,As];rw[AaF];exact λn hn=>by rw[h n hn];decide
theorem KY{m:zE}(hr:Right m){x:zA}(hv:0<=x.var/\x.var<(m.vars.length:Int))(ho:1<=x.op/\x.op<=4)(hn:x.n∈(xY m).getD x.var.toNat []):eS m.vars.length x=0:=by
 have hvl:x.var.toNat<m.vars.length:=by omega
 rw[XJ hvl,TC]at hn
 have:=hr.var _ (AT hvl);exact kV.2 ⟨hv,ho,by omega⟩
theorem zbE{m:zE}{con:Int}{s:AcQ}(hat:Wm m con=0){must:AcR}(h:mO m con (must++gE m s (yI (yV m con) m.vars.length))=true):
  TG m con s must (zdD (λl=>mO m con (must++l)) (gE m s (yI (yV m con) m.vars.length))):=by
 have hsub:=KX (λl=>mO m con (must++l)) (gE m s (yI (yV m con) m.vars.length)).length (gE m s (yI (yV m con) m.vars.length)) 0
 refine⟨OD (λl=>mO m con (must++l)) _ _ 0 h,λj hj=>zfR _ (zoW hat must) _ j hj,λx hx=> ?_,Aan hsub.length_le (Pu hat)⟩
 obtain⟨h1,h2,h3,h4⟩:=zbA.1 (hsub.subset hx);have hv:=lN _ h1;refine⟨h2,zmy λn hn=> ?_,KY (nD hat).1 hv (by omega) h3⟩
 have hne:n≠x.n:=λe=>h4 (by rw[<-e];exact hn)
 obtain⟨xv,xo,xn⟩:=x;simp only at h2 hne
 subst h2;simp[holdsL,hne]
theorem Lf{nv:Nat}{c:AcR}(hl:c.length<=40)(h:∀x∈c,eS nv x=0):xD nv c=0:=by
 rw[xD,An (by omega)]
 have:∀(xs:AcR) (i:Nat),(∀x∈xs,eS nv x=0)->wM (λ_ l=>eS nv l) i xs=0:=λxs=>by
  induction xs with
  |nil=>exact λ_ _=>rfl
  |cons a xs ih=>
   intro i h;rw[wM,As (h a (Aaa ..))];exact ih _ λx hx=>h x (Aac _ hx)
 exact this c 0 h
theorem TG.clause{m:zE}{con:Int}{s:AcQ}{must r:AcR}(h:TG m con s must r)(hm:must.length<=1)(hml:∀x∈must,eS m.vars.length x=0):xD m.vars.length (must++r)=0:=
 Lf (by rw[It];have:=h.len;omega) λx hx=>by
  rcases Aai.1 hx with hx|hx
  ·exact hml x hx
  ·exact(h.told x hx).2.2
end Go.Proofs.YtdnmkinmcdihnaaGreatDoor
namespace Go.Proofs.YtdnmkinmcdihnaaGreatDoor
open Go.Proofs.Tryz
open Go.RowKit
variable[Lo]
end Go.Proofs.YtdnmkinmcdihnaaGreatDoor
namespace Go.Proofs.YtdnmkinmcdihnaaGreatDoor
open Go.Proofs.Tryz
open Go.RowKit
set_option maxRecDepth 100000
variable[Lo]
def Z3:xF:= {own:=[],live:=[(0,([1,3,8,9],[]))],n:=39,nils:=[],pubs:=[(31088,999999)]}
def gF(a:zE)(b:AcS)(R:xI)(c:Nat)(d:AcR)(e:Int):Prop:=LP Z3 f63 [1,1,1,0,1,0,0] 0 c ⟨[(1,.sl (.list .lit) b),(3,.iptr (Oy a []) 0),(8,.sl .lit d),(9,dI e)],[]⟩ (zP 0 (sK Z3 f63 [1,1,1,1] 0 (eK f63 R)))
theorem Ve(c:zE)(d:AcS)(R:xI)(e:Nat)(a:AcR)(b:Int):gF c d R (e+1) a b=
 (zT (decide (b<(a.length:Int)))
 (Nh 0 b a.length=true/\
 Nh (yU (b+1)) (a.length:Int) a.length=true/\
 yJ tG [.sl (.list .lit) ([(a.take b.toNat).drop 0,(a.take (a.length:Int).toNat).drop (yU (b+1)).toNat])] (.list .lit) λf=>
 yJ cW [dM c,.sl (.list .lit) d,.sl .lit f] .bool λg=>
 zT g
 (gF c d R e f b)
 (gF c d R e a (yU (b+1))))
 (R (.tup [.sl .lit a,dB true]))):=by kernel_rfl
theorem FM(a:zE)(b:AcS)(c:AcR)(R:xI):FD Z3 f63 [dM a,.sl (.list .lit) b,.sl .lit c] R=
 (yJ cW [dM a,.sl (.list .lit) b,.sl .lit c] .bool λe=>
 zT (!e)
 (R (.tup [.sl .lit ([]:AcR),dB false]))
 (∃d:AcR,xT tU [.sl .lit c] [] (.own 3000) [(3000,.row 66 .lit d)]/\
 ∃n0,gF a b R n0 d 0)):=by kernel_rfl
theorem Hl(a:zE)(b:AcS)(c:AcR):wU Z3 f63 Zy [dM a,.sl (.list .lit) b,.sl .lit c]:=wX func63 (by kernel_rfl) ntmps63 rfl
def Z4:xF:= {own:=[3,5,16],live:=[(0,([3,6,7,8],[3]))],n:=19}
def bV(a:AcR)(R:xI)(b:Nat)(c:Int)(d:AcR):Prop:=LP Z4 f67 [1,1,0,1,0,0] 0 b ⟨[(3,.own 3),(6,.sl .lit a),(7,dI (a.length:Int)),(8,dI c)],[(3,.row 66 .lit d)]⟩ (zP 0 (sK Z4 f67 [1,1,1] 0 (eK f67 R)))
theorem Lg(a:AcR)(R:xI)(d:Nat)(b:Int)(c:AcR):bV a R (d+1) b c=
 (zT (decide (b<(a.length:Int)))
 (wW b a.length=true/\
 yJ kR [dL (zJ .lit a b.toNat)] .lit λe=>
 yX .lit (c.length+([e]).length)=true/\
 bV a R d (yU (b+1)) (c++([e])))
 (R (.sl .lit c))):=by kernel_rfl
theorem FN(a:AcR)(R:xI):FD Z4 f67 [.sl .lit a] R=
 (∃n0,bV a R n0 0 ([]:AcR)):=by kernel_rfl
theorem Hm(a:AcR):wU Z4 f67 qX [.sl .lit a]:=wX func67 (by kernel_rfl) ntmps67 rfl
def Mi:xF:= {own:=[],live:=[],n:=14}
theorem Bn(a:zE)(b:AcS)(c:AcR)(R:xI):FD Mi f111 [dM a,.sl (.list .lit) b,.sl .lit c] R=
 (yJ jI [dM a,.sl .lit c] (.list (.list .int)) λd=>
 yJ pZ [dM a,dS d,dB true,.sl (.list .lit) b] (.list (.list .int)) λe=>
 yJ zV [dS e] .bool λf=>
 R (dB f)):=by kernel_rfl
theorem FO(a:zE)(b:AcS)(c:AcR):wU Mi f111 cW [dM a,.sl (.list .lit) b,.sl .lit c]:=wX func111 (by kernel_rfl) ntmps111 rfl
def Uo:xF:= {own:=[7],live:=[(0,([5,10,11,12],[]))],n:=21}
def Ws(a:AcR)(R:xI)(b:Nat)(c:AcQ)(d:Int):Prop:=LP Uo f115 [1,1,0,1,0,0] 0 b ⟨[(5,dS c),(10,.sl .lit a),(11,dI (a.length:Int)),(12,dI d)],[]⟩ (zP 0 (sK Uo f115 [1,1,1] 0 (eK f115 R)))
theorem FP(a:AcR)(R:xI)(d:Nat)(c:AcQ)(b:Int):Ws a R (d+1) c b=
 (zT (decide (b<(a.length:Int)))
 (wW b a.length=true/\
 yJ aQ [dS c,dL (zJ .lit a b.toNat)] (.list (.list .int)) λe=>
 Ws a R d e (yU (b+1)))
 (R (dS c))):=by kernel_rfl
theorem zdF(a:zE)(b:AcR)(R:xI):FD Uo f115 [dM a,.sl .lit b] R=
 (yJ tS [dM a] (.list (.list .int)) λc=>
 ∃n0,Ws b R n0 c 0):=by kernel_rfl
theorem zai(a:zE)(b:AcR):wU Uo f115 jI [dM a,.sl .lit b]:=wX func115 (by kernel_rfl) ntmps115 rfl
end Go.Proofs.YtdnmkinmcdihnaaGreatDoor
