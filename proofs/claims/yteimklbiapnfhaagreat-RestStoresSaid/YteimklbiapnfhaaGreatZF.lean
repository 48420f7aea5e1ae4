/- Texts of this proof, one behind the other: nothing is handed in but what is proved here; no condition. -/
import Derived.ProofKit
import Derived.OpenShut
import Derived.SizedLaws
import Derived.Deep.Slices
import Derived.Deep.Fields
import Derived.Test.YteimklbiapnfhaaGreatProg
import Derived.Test.YteimklbiapnfhaaGreatZE
set_option linter.unusedSectionVars false
namespace Go.Proofs.YteimklbiapnfhaaGreat
open Go.RowKit
set_option linter.unusedVariables false
set_option linter.unusedSimpArgs false
set_option maxRecDepth 100000
variable[Lo]
def yE:xJ:= {own:=[1,2,3,5,6,8,11,25,28,29,32,33,36,48,54,56,62],live:=[(0,([1,2,3,4],[1,2,3,8])),(2,([1,2,3,4,5,6,7],[1,2,3,5,6,8,25,29,33]))],n:=66,first:=true,ae:=some ([1,2,3,4,5,26,30,34],[1,2,3,5,8])}
abbrev zJ:=Int×(List zQ)×Int×Int×(List vF)×(List zQ)×Int×Int×(List zQ)×(List vF)
abbrev xE(K:St→Prop)(n:Nat)(l:Array Bool)(σ:St):Prop:=V4 Tryz.prog Ev yE (znf (sub [1,1,1,0,1,0,0,1,0,0,1,0] (sQ Tryz.f10))) K n l σ
abbrev xL(K:St→Prop)(N:Array Bool→St→Prop)(l:Array Bool)(σ:St):Prop:=zkp Tryz.prog Ev yE (znf (sub [1,1,1,0,1,0,0,1,0,0,1,0] (sQ Tryz.f10))) K N l σ
def UD(z:zJ):St:=⟨[(1,.ptr 1 0),(2,.ptr 2 0),(3,.own 3),(4,dI z.1),(5,.ptr 5 0),(26,.ptr 5 1),(30,.ptr 5 2),(34,.ptr 5 5)],[(1,.cells [.own 8,.sl .con z.2.1,dI z.2.2.1,dI z.2.2.2.1]),(2,.cells [.sl .var z.2.2.2.2.1,.sl .con z.2.2.2.2.2.1,dI z.2.2.2.2.2.2.1,dI z.2.2.2.2.2.2.2.1]),(3,.row 74 .con z.2.2.2.2.2.2.2.2.1),(5,.cells [dI ((zG .con z.2.1 z.1.toNat).kind),.sl .int ((zG .con z.2.1 z.1.toNat).vars),.sl .int ((zG .con z.2.1 z.1.toNat).consts),dI ((zG .con z.2.1 z.1.toNat).n),dS ((zG .con z.2.1 z.1.toNat).rows),.sl .lit ((zG .con z.2.1 z.1.toNat).lits)]),(8,.row 97 .var z.2.2.2.2.2.2.2.2.2)]⟩
def PL(z:zJ):St:=(((UD z).mk' 25 (.row 3 .int ([]:List Int))).put 25 (.own 25))
def PM(z:zJ):St:=((UD z).put 27 (.sl .int ((zG .con z.2.1 z.1.toNat).vars)))
def PN(z:zJ):St:=(((UD z).mk' 29 (.row 3 .int ([]:List Int))).put 29 (.own 29))
def PO(z:zJ):St:=((UD z).put 31 (.sl .int ((zG .con z.2.1 z.1.toNat).consts)))
def PP(z:zJ):St:=(((UD z).mk' 33 (.row 67 .lit ([]:List zC))).put 33 (.own 33))
def PQ(z:zJ):St:=((UD z).put 35 (.sl .lit ((zG .con z.2.1 z.1.toNat).lits)))
def PR(z:zJ):St:=((PL z).put 27 (.sl .int ((zG .con z.2.1 z.1.toNat).vars)))
def MW(z:zJ):St:=(((PL z).mk' 29 (.row 3 .int ([]:List Int))).put 29 (.own 29))
def MX(z:zJ):St:=((PL z).put 31 (.sl .int ((zG .con z.2.1 z.1.toNat).consts)))
def SQ(z:zJ):St:=(((PL z).mk' 33 (.row 67 .lit ([]:List zC))).put 33 (.own 33))
def SR(z:zJ):St:=((PL z).put 35 (.sl .lit ((zG .con z.2.1 z.1.toNat).lits)))
def SS(z:zJ):St:=(((PM z).mk' 29 (.row 3 .int ([]:List Int))).put 29 (.own 29))
def ST(z:zJ):St:=((PM z).put 31 (.sl .int ((zG .con z.2.1 z.1.toNat).consts)))
def SU(z:zJ):St:=(((PM z).mk' 33 (.row 67 .lit ([]:List zC))).put 33 (.own 33))
def SV(z:zJ):St:=((PM z).put 35 (.sl .lit ((zG .con z.2.1 z.1.toNat).lits)))
def SW(z:zJ):St:=((PN z).put 31 (.sl .int ((zG .con z.2.1 z.1.toNat).consts)))
def SX(z:zJ):St:=(((PN z).mk' 33 (.row 67 .lit ([]:List zC))).put 33 (.own 33))
def SY(z:zJ):St:=((PN z).put 35 (.sl .lit ((zG .con z.2.1 z.1.toNat).lits)))
def SZ(z:zJ):St:=(((PO z).mk' 33 (.row 67 .lit ([]:List zC))).put 33 (.own 33))
def S0(z:zJ):St:=((PO z).put 35 (.sl .lit ((zG .con z.2.1 z.1.toNat).lits)))
def S3(z:zJ):St:=((PP z).put 35 (.sl .lit ((zG .con z.2.1 z.1.toNat).lits)))
def S4(z:zJ):St:=(((PR z).mk' 25 (.row 3 .int (([]:List Int)++((zG .con z.2.1 z.1.toNat).vars)))).put 28 (.own 25))
def S5(z:zJ):St:=(((PR z).mk' 29 (.row 3 .int ([]:List Int))).put 29 (.own 29))
def S6(z:zJ):St:=((PR z).put 31 (.sl .int ((zG .con z.2.1 z.1.toNat).consts)))
def S7(z:zJ):St:=(((PR z).mk' 33 (.row 67 .lit ([]:List zC))).put 33 (.own 33))
def S8(z:zJ):St:=((PR z).put 35 (.sl .lit ((zG .con z.2.1 z.1.toNat).lits)))
def Oo(z:zJ):St:=((MW z).put 31 (.sl .int ((zG .con z.2.1 z.1.toNat).consts)))
def Oq(z:zJ):St:=(((MW z).mk' 33 (.row 67 .lit ([]:List zC))).put 33 (.own 33))
def Ot(z:zJ):St:=((MW z).put 35 (.sl .lit ((zG .con z.2.1 z.1.toNat).lits)))
def Ou(z:zJ):St:=(((MX z).mk' 33 (.row 67 .lit ([]:List zC))).put 33 (.own 33))
def Ov(z:zJ):St:=((MX z).put 35 (.sl .lit ((zG .con z.2.1 z.1.toNat).lits)))
def Ow(z:zJ):St:=((SQ z).put 35 (.sl .lit ((zG .con z.2.1 z.1.toNat).lits)))
def Ox(z:zJ):St:=((SS z).put 31 (.sl .int ((zG .con z.2.1 z.1.toNat).consts)))
def Oy(z:zJ):St:=(((SS z).mk' 33 (.row 67 .lit ([]:List zC))).put 33 (.own 33))
def Oz(z:zJ):St:=((SS z).put 35 (.sl .lit ((zG .con z.2.1 z.1.toNat).lits)))
def OA(z:zJ):St:=(((ST z).mk' 33 (.row 67 .lit ([]:List zC))).put 33 (.own 33))
def OB(z:zJ):St:=((ST z).put 35 (.sl .lit ((zG .con z.2.1 z.1.toNat).lits)))
def OC(z:zJ):St:=((SU z).put 35 (.sl .lit ((zG .con z.2.1 z.1.toNat).lits)))
def OD(z:zJ):St:=(((SW z).mk' 33 (.row 67 .lit ([]:List zC))).put 33 (.own 33))
def OE(z:zJ):St:=((SW z).put 35 (.sl .lit ((zG .con z.2.1 z.1.toNat).lits)))
def OG(z:zJ):St:=((SX z).put 35 (.sl .lit ((zG .con z.2.1 z.1.toNat).lits)))
def OH(z:zJ):St:=((SZ z).put 35 (.sl .lit ((zG .con z.2.1 z.1.toNat).lits)))
def OI(z:zJ):St:=(((S4 z).mk' 29 (.row 3 .int ([]:List Int))).put 29 (.own 29))
def OJ(z:zJ):St:=((S4 z).put 31 (.sl .int ((zG .con z.2.1 z.1.toNat).consts)))
def OK(z:zJ):St:=(((S4 z).mk' 33 (.row 67 .lit ([]:List zC))).put 33 (.own 33))
def OL(z:zJ):St:=((S4 z).put 35 (.sl .lit ((zG .con z.2.1 z.1.toNat).lits)))
def OM(z:zJ):St:=((S5 z).put 31 (.sl .int ((zG .con z.2.1 z.1.toNat).consts)))
def ON(z:zJ):St:=(((S5 z).mk' 33 (.row 67 .lit ([]:List zC))).put 33 (.own 33))
def OO(z:zJ):St:=((S5 z).put 35 (.sl .lit ((zG .con z.2.1 z.1.toNat).lits)))
def OP(z:zJ):St:=(((S6 z).mk' 33 (.row 67 .lit ([]:List zC))).put 33 (.own 33))
def OQ(z:zJ):St:=((S6 z).put 35 (.sl .lit ((zG .con z.2.1 z.1.toNat).lits)))
def OR(z:zJ):St:=((S7 z).put 35 (.sl .lit ((zG .con z.2.1 z.1.toNat).lits)))
def KG(z:zJ):St:=(((Oo z).mk' 33 (.row 67 .lit ([]:List zC))).put 33 (.own 33))
def KH(z:zJ):St:=((Oo z).put 35 (.sl .lit ((zG .con z.2.1 z.1.toNat).lits)))
def KI(z:zJ):St:=((Oq z).put 35 (.sl .lit ((zG .con z.2.1 z.1.toNat).lits)))
def KJ(z:zJ):St:=((Ou z).put 35 (.sl .lit ((zG .con z.2.1 z.1.toNat).lits)))
def KK(z:zJ):St:=(((Ox z).mk' 33 (.row 67 .lit ([]:List zC))).put 33 (.own 33))
def KL(z:zJ):St:=((Ox z).put 35 (.sl .lit ((zG .con z.2.1 z.1.toNat).lits)))
def KM(z:zJ):St:=((Oy z).put 35 (.sl .lit ((zG .con z.2.1 z.1.toNat).lits)))
def KN(z:zJ):St:=((OA z).put 35 (.sl .lit ((zG .con z.2.1 z.1.toNat).lits)))
def KO(z:zJ):St:=((OD z).put 35 (.sl .lit ((zG .con z.2.1 z.1.toNat).lits)))
def OS(z:zJ):St:=((OI z).put 31 (.sl .int ((zG .con z.2.1 z.1.toNat).consts)))
def KP(z:zJ):St:=(((OI z).mk' 33 (.row 67 .lit ([]:List zC))).put 33 (.own 33))
def KQ(z:zJ):St:=((OI z).put 35 (.sl .lit ((zG .con z.2.1 z.1.toNat).lits)))
def KR(z:zJ):St:=(((OJ z).mk' 33 (.row 67 .lit ([]:List zC))).put 33 (.own 33))
def OT(z:zJ):St:=((OJ z).put 35 (.sl .lit ((zG .con z.2.1 z.1.toNat).lits)))
def KS(z:zJ):St:=((OK z).put 35 (.sl .lit ((zG .con z.2.1 z.1.toNat).lits)))
def KT(z:zJ):St:=(((OM z).mk' 33 (.row 67 .lit ([]:List zC))).put 33 (.own 33))
def KU(z:zJ):St:=((OM z).put 35 (.sl .lit ((zG .con z.2.1 z.1.toNat).lits)))
def KW(z:zJ):St:=((ON z).put 35 (.sl .lit ((zG .con z.2.1 z.1.toNat).lits)))
def KX(z:zJ):St:=((OP z).put 35 (.sl .lit ((zG .con z.2.1 z.1.toNat).lits)))
def FL(z:zJ):St:=((KG z).put 35 (.sl .lit ((zG .con z.2.1 z.1.toNat).lits)))
def FM(z:zJ):St:=((KK z).put 35 (.sl .lit ((zG .con z.2.1 z.1.toNat).lits)))
def KY(z:zJ):St:=(((OS z).mk' 29 (.row 3 .int (([]:List Int)++((zG .con z.2.1 z.1.toNat).consts)))).put 32 (.own 29))
def KZ(z:zJ):St:=(((OS z).mk' 33 (.row 67 .lit ([]:List zC))).put 33 (.own 33))
def OU(z:zJ):St:=((OS z).put 35 (.sl .lit ((zG .con z.2.1 z.1.toNat).lits)))
def FN(z:zJ):St:=((KP z).put 35 (.sl .lit ((zG .con z.2.1 z.1.toNat).lits)))
def K0(z:zJ):St:=((KR z).put 35 (.sl .lit ((zG .con z.2.1 z.1.toNat).lits)))
def K1(z:zJ):St:=((OT z).put 37 (.ptr 5 1))
def FO(z:zJ):St:=((KT z).put 35 (.sl .lit ((zG .con z.2.1 z.1.toNat).lits)))
def FP(z:zJ):St:=(((KY z).mk' 33 (.row 67 .lit ([]:List zC))).put 33 (.own 33))
def K2(z:zJ):St:=((KY z).put 35 (.sl .lit ((zG .con z.2.1 z.1.toNat).lits)))
def K3(z:zJ):St:=((KZ z).put 35 (.sl .lit ((zG .con z.2.1 z.1.toNat).lits)))
def K4(z:zJ):St:=((OU z).put 37 (.ptr 5 1))
def FQ(z:zJ):St:=((K0 z).put 37 (.ptr 5 1))
def K5(z:zJ):St:=((FP z).put 35 (.sl .lit ((zG .con z.2.1 z.1.toNat).lits)))
def FR(z:zJ):St:=((K2 z).put 37 (.ptr 5 1))
def FT(z:zJ):St:=((K3 z).put 37 (.ptr 5 1))
def FU(z:zJ):St:=(((K5 z).mk' 33 (.row 67 .lit (([]:List zC)++((zG .con z.2.1 z.1.toNat).lits)))).put 36 (.own 33))
def FV(z:zJ):St:=((K5 z).put 37 (.ptr 5 1))
def FW(z:zJ):St:=((FU z).put 37 (.ptr 5 1))
def FY(z:zJ):St:=((FW z).setOb 5 (.cells [dI ((zG .con z.2.1 z.1.toNat).kind),.own 25,.sl .int ((zG .con z.2.1 z.1.toNat).consts),dI ((zG .con z.2.1 z.1.toNat).n),dS ((zG .con z.2.1 z.1.toNat).rows),.sl .lit ((zG .con z.2.1 z.1.toNat).lits)]))
def FZ(z:zJ):St:=((FY z).put 38 (.ptr 5 2))
def F0(z:zJ):St:=((FZ z).setOb 5 (.cells [dI ((zG .con z.2.1 z.1.toNat).kind),.own 25,.own 29,dI ((zG .con z.2.1 z.1.toNat).n),dS ((zG .con z.2.1 z.1.toNat).rows),.sl .lit ((zG .con z.2.1 z.1.toNat).lits)]))
def F3(z:zJ):St:=((F0 z).put 39 (.ptr 5 5))
def zV(z:zJ):St:=((F3 z).setOb 5 (.cells [dI ((zG .con z.2.1 z.1.toNat).kind),.own 25,.own 29,dI ((zG .con z.2.1 z.1.toNat).n),dS ((zG .con z.2.1 z.1.toNat).rows),.own 33]))
theorem zmY(z:zJ){K:St→Prop}(hK:yP K)(a:zL .int (([]:List Int).length+((zG .con z.2.1 z.1.toNat).vars).length)=true)(b:zL .int (([]:List Int).length+((zG .con z.2.1 z.1.toNat).consts).length)=true)(c:zL .lit (([]:List zC).length+((zG .con z.2.1 z.1.toNat).lits).length)=true)(hk:K (zV z)):xE K 0 #[true,true,true,true,true,true,true,true,true,true,true,true,true,true,true,true,true,true] (zV z):=⟨by kernel_rfl,hk⟩
theorem zfp(z:zJ)(K:St→Prop)(N:Array Bool→St→Prop):xL K N #[true,true,true,true,true,true,true,true,true,true,true,true,true,true,true,true,true,false] (F3 z)=((N #[true,true,true,true,true,true,true,true,true,true,true,true,true,true,true,true,true,true] (zV z))):=by kernel_rfl
theorem zmZ(z:zJ){K:St→Prop}(hK:yP K)(a:zL .int (([]:List Int).length+((zG .con z.2.1 z.1.toNat).vars).length)=true)(b:zL .int (([]:List Int).length+((zG .con z.2.1 z.1.toNat).consts).length)=true)(c:zL .lit (([]:List zC).length+((zG .con z.2.1 z.1.toNat).lits).length)=true)(hk:K (zV z)):xE K 1 #[true,true,true,true,true,true,true,true,true,true,true,true,true,true,true,true,true,false] (F3 z):=zW hK (λ_ _ h=>h) ((zfp z K _).mpr (zmY z hK a b c hk))
theorem zfq(z:zJ)(K:St→Prop)(N:Array Bool→St→Prop):xL K N #[true,true,true,true,true,true,true,true,true,true,true,true,true,true,true,true,false,false] (F0 z)=((N #[true,true,true,true,true,true,true,true,true,true,true,true,true,true,true,true,true,false] (F3 z))):=by kernel_rfl
theorem zm0(z:zJ){K:St→Prop}(hK:yP K)(a:zL .int (([]:List Int).length+((zG .con z.2.1 z.1.toNat).vars).length)=true)(b:zL .int (([]:List Int).length+((zG .con z.2.1 z.1.toNat).consts).length)=true)(c:zL .lit (([]:List zC).length+((zG .con z.2.1 z.1.toNat).lits).length)=true)(hk:K (zV z)):xE K 2 #[true,true,true,true,true,true,true,true,true,true,true,true,true,true,true,true,false,false] (F0 z):=zW hK (λ_ _ h=>h) ((zfq z K _).mpr (zmZ z hK a b c hk))
theorem zfr(z:zJ)(K:St→Prop)(N:Array Bool→St→Prop):xL K N #[true,true,true,true,true,true,true,true,true,true,true,true,true,true,true,false,false,false] (FZ z)=((N #[true,true,true,true,true,true,true,true,true,true,true,true,true,true,true,true,false,false] (F0 z))):=by kernel_rfl
theorem zm1(z:zJ){K:St→Prop}(hK:yP K)(a:zL .int (([]:List Int).length+((zG .con z.2.1 z.1.toNat).vars).length)=true)(b:zL .int (([]:List Int).length+((zG .con z.2.1 z.1.toNat).consts).length)=true)(c:zL .lit (([]:List zC).length+((zG .con z.2.1 z.1.toNat).lits).length)=true)(hk:K (zV z)):xE K 3 #[true,true,true,true,true,true,true,true,true,true,true,true,true,true,true,false,false,false] (FZ z):=zW hK (λ_ _ h=>h) ((zfr z K _).mpr (zm0 z hK a b c hk))
theorem zfs(z:zJ)(K:St→Prop)(N:Array Bool→St→Prop):xL K N #[true,true,true,true,true,true,true,true,true,true,true,true,true,true,false,false,false,false] (FY z)=((N #[true,true,true,true,true,true,true,true,true,true,true,true,true,true,true,false,false,false] (FZ z))):=by kernel_rfl
theorem zm2(z:zJ){K:St→Prop}(hK:yP K)(a:zL .int (([]:List Int).length+((zG .con z.2.1 z.1.toNat).vars).length)=true)(b:zL .int (([]:List Int).length+((zG .con z.2.1 z.1.toNat).consts).length)=true)(c:zL .lit (([]:List zC).length+((zG .con z.2.1 z.1.toNat).lits).length)=true)(hk:K (zV z)):xE K 4 #[true,true,true,true,true,true,true,true,true,true,true,true,true,true,false,false,false,false] (FY z):=zW hK (λ_ _ h=>h) ((zfs z K _).mpr (zm1 z hK a b c hk))
theorem zft(z:zJ)(K:St→Prop)(N:Array Bool→St→Prop):xL K N #[true,true,true,true,true,true,true,true,true,true,true,true,true,false,false,false,false,false] (FW z)=((N #[true,true,true,true,true,true,true,true,true,true,true,true,true,true,false,false,false,false] (FY z))):=by kernel_rfl
theorem zhW(z:zJ){K:St→Prop}(hK:yP K)(a:zL .int (([]:List Int).length+((zG .con z.2.1 z.1.toNat).vars).length)=true)(b:zL .int (([]:List Int).length+((zG .con z.2.1 z.1.toNat).consts).length)=true)(c:zL .lit (([]:List zC).length+((zG .con z.2.1 z.1.toNat).lits).length)=true)(hk:K (zV z)):xE K 5 #[true,true,true,true,true,true,true,true,true,true,true,true,true,false,false,false,false,false] (FW z):=zW hK (λ_ _ h=>h) ((zft z K _).mpr (zm2 z hK a b c hk))
theorem zfu(z:zJ)(K:St→Prop)(N:Array Bool→St→Prop):xL K N #[true,true,true,true,true,true,true,true,true,true,true,true,false,false,false,false,false,false] (FU z)=((N #[true,true,true,true,true,true,true,true,true,true,true,true,true,false,false,false,false,false] (FW z))):=by kernel_rfl
theorem zm3(z:zJ){K:St→Prop}(hK:yP K)(a:zL .int (([]:List Int).length+((zG .con z.2.1 z.1.toNat).vars).length)=true)(b:zL .int (([]:List Int).length+((zG .con z.2.1 z.1.toNat).consts).length)=true)(c:zL .lit (([]:List zC).length+((zG .con z.2.1 z.1.toNat).lits).length)=true)(hk:K (zV z)):xE K 6 #[true,true,true,true,true,true,true,true,true,true,true,true,false,false,false,false,false,false] (FU z):=zW hK (λ_ _ h=>h) ((zfu z K _).mpr (zhW z hK a b c hk))
theorem zfv(z:zJ)(K:St→Prop)(N:Array Bool→St→Prop):xL K N #[true,true,true,true,true,true,true,true,true,true,true,false,true,false,false,false,false,false] (FV z)=((zL .lit (([]:List zC).length+((zG .con z.2.1 z.1.toNat).lits).length)=true∧N #[true,true,true,true,true,true,true,true,true,true,true,true,true,false,false,false,false,false] (((FV z).mk' 33 (.row 67 .lit (([]:List zC)++((zG .con z.2.1 z.1.toNat).lits)))).put 36 (.own 33)))):=by kernel_rfl
theorem zbF(z:zJ){K:St→Prop}(hK:yP K)(b:zL .int (([]:List Int).length+((zG .con z.2.1 z.1.toNat).vars).length)=true)(c:zL .int (([]:List Int).length+((zG .con z.2.1 z.1.toNat).consts).length)=true)(a:zL .lit (([]:List zC).length+((zG .con z.2.1 z.1.toNat).lits).length)=true)(hk:K (zV z)):xE K 6 #[true,true,true,true,true,true,true,true,true,true,true,false,true,false,false,false,false,false] (FV z):=zW hK (λ_ _ h=>h) ((zfv z K _).mpr (⟨a,zD hK _ _ _ _ (zK [1,2,3,4,5,25,26,27,28,29,30,31,32,33,34,35,36,37,38,39] [1,2,3,5,8,25,29,33] (by kernel_rfl)) (zhW z hK b c a hk)⟩))
theorem zfw(z:zJ)(K:St→Prop)(N:Array Bool→St→Prop):xL K N #[true,true,true,true,true,true,true,true,true,true,true,false,false,false,false,false,false,false] (K5 z)=((zL .lit (([]:List zC).length+((zG .con z.2.1 z.1.toNat).lits).length)=true∧N #[true,true,true,true,true,true,true,true,true,true,true,true,false,false,false,false,false,false] (FU z))∧(N #[true,true,true,true,true,true,true,true,true,true,true,false,true,false,false,false,false,false] (FV z))):=by kernel_rfl
theorem zbG(z:zJ){K:St→Prop}(hK:yP K)(b:zL .int (([]:List Int).length+((zG .con z.2.1 z.1.toNat).vars).length)=true)(c:zL .int (([]:List Int).length+((zG .con z.2.1 z.1.toNat).consts).length)=true)(a:zL .lit (([]:List zC).length+((zG .con z.2.1 z.1.toNat).lits).length)=true)(hk:K (zV z)):xE K 7 #[true,true,true,true,true,true,true,true,true,true,true,false,false,false,false,false,false,false] (K5 z):=zW hK (λ_ _ h=>h) ((zfw z K _).mpr ⟨⟨a,zm3 z hK b c a hk⟩,zbF z hK b c a hk⟩)
theorem zfx(z:zJ)(K:St→Prop)(N:Array Bool→St→Prop):xL K N #[true,true,true,true,true,true,true,true,false,true,true,false,true,false,false,false,false,false] (FR z)=((N #[true,true,true,true,true,true,true,true,true,true,true,false,true,false,false,false,false,false] (((FR z).mk' 33 (.row 67 .lit ([]:List zC))).put 33 (.own 33)))):=by kernel_rfl
theorem zhX(z:zJ){K:St→Prop}(hK:yP K)(a:zL .int (([]:List Int).length+((zG .con z.2.1 z.1.toNat).vars).length)=true)(b:zL .int (([]:List Int).length+((zG .con z.2.1 z.1.toNat).consts).length)=true)(c:zL .lit (([]:List zC).length+((zG .con z.2.1 z.1.toNat).lits).length)=true)(hk:K (zV z)):xE K 7 #[true,true,true,true,true,true,true,true,false,true,true,false,true,false,false,false,false,false] (FR z):=zW hK (λ_ _ h=>h) ((zfx z K _).mpr (zD hK _ _ _ _ (zK [1,2,3,4,5,25,26,27,28,29,30,31,32,33,34,35,36,37,38,39] [1,2,3,5,8,25,29,33] (by kernel_rfl)) (zbF z hK a b c hk)))
theorem zfy(z:zJ)(K:St→Prop)(N:Array Bool→St→Prop):xL K N #[true,true,true,true,true,true,true,false,true,true,true,false,true,false,false,false,false,false] (FT z)=((zL .int (([]:List Int).length+((zG .con z.2.1 z.1.toNat).consts).length)=true∧N #[true,true,true,true,true,true,true,true,true,true,true,false,true,false,false,false,false,false] (((FT z).mk' 29 (.row 3 .int (([]:List Int)++((zG .con z.2.1 z.1.toNat).consts)))).put 32 (.own 29)))):=by kernel_rfl
theorem zbH(z:zJ){K:St→Prop}(hK:yP K)(b:zL .int (([]:List Int).length+((zG .con z.2.1 z.1.toNat).vars).length)=true)(a:zL .int (([]:List Int).length+((zG .con z.2.1 z.1.toNat).consts).length)=true)(c:zL .lit (([]:List zC).length+((zG .con z.2.1 z.1.toNat).lits).length)=true)(hk:K (zV z)):xE K 7 #[true,true,true,true,true,true,true,false,true,true,true,false,true,false,false,false,false,false] (FT z):=zW hK (λ_ _ h=>h) ((zfy z K _).mpr (⟨a,zD hK _ _ _ _ (zK [1,2,3,4,5,25,26,27,28,29,30,31,32,33,34,35,36,37,38,39] [1,2,3,5,8,25,29,33] (by kernel_rfl)) (zbF z hK b a c hk)⟩))
theorem zfz(z:zJ)(K:St→Prop)(N:Array Bool→St→Prop):xL K N #[true,true,true,true,true,true,true,true,true,true,false,false,false,false,false,false,false,false] (FP z)=((N #[true,true,true,true,true,true,true,true,true,true,true,false,false,false,false,false,false,false] (K5 z))):=by kernel_rfl
theorem zhY(z:zJ){K:St→Prop}(hK:yP K)(a:zL .int (([]:List Int).length+((zG .con z.2.1 z.1.toNat).vars).length)=true)(b:zL .int (([]:List Int).length+((zG .con z.2.1 z.1.toNat).consts).length)=true)(c:zL .lit (([]:List zC).length+((zG .con z.2.1 z.1.toNat).lits).length)=true)(hk:K (zV z)):xE K 8 #[true,true,true,true,true,true,true,true,true,true,false,false,false,false,false,false,false,false] (FP z):=zW hK (λ_ _ h=>h) ((zfz z K _).mpr (zbG z hK a b c hk))
theorem zfA(z:zJ)(K:St→Prop)(N:Array Bool→St→Prop):xL K N #[true,true,true,true,true,true,true,true,false,true,true,false,false,false,false,false,false,false] (K2 z)=((N #[true,true,true,true,true,true,true,true,true,true,true,false,false,false,false,false,false,false] (((K2 z).mk' 33 (.row 67 .lit ([]:List zC))).put 33 (.own 33)))∧(N #[true,true,true,true,true,true,true,true,false,true,true,false,true,false,false,false,false,false] (FR z))):=by kernel_rfl
theorem zhZ(z:zJ){K:St→Prop}(hK:yP K)(a:zL .int (([]:List Int).length+((zG .con z.2.1 z.1.toNat).vars).length)=true)(b:zL .int (([]:List Int).length+((zG .con z.2.1 z.1.toNat).consts).length)=true)(c:zL .lit (([]:List zC).length+((zG .con z.2.1 z.1.toNat).lits).length)=true)(hk:K (zV z)):xE K 8 #[true,true,true,true,true,true,true,true,false,true,true,false,false,false,false,false,false,false] (K2 z):=zW hK (λ_ _ h=>h) ((zfA z K _).mpr ⟨zD hK _ _ _ _ (zK [1,2,3,4,5,25,26,27,28,29,30,31,32,33,34,35,36,37,38,39] [1,2,3,5,8,25,29,33] (by kernel_rfl)) (zbG z hK a b c hk),zhX z hK a b c hk⟩)
theorem zfB(z:zJ)(K:St→Prop)(N:Array Bool→St→Prop):xL K N #[true,true,true,true,true,true,true,false,true,true,true,false,false,false,false,false,false,false] (K3 z)=((zL .int (([]:List Int).length+((zG .con z.2.1 z.1.toNat).consts).length)=true∧N #[true,true,true,true,true,true,true,true,true,true,true,false,false,false,false,false,false,false] (((K3 z).mk' 29 (.row 3 .int (([]:List Int)++((zG .con z.2.1 z.1.toNat).consts)))).put 32 (.own 29)))∧(N #[true,true,true,true,true,true,true,false,true,true,true,false,true,false,false,false,false,false] (FT z))):=by kernel_rfl
theorem K6(z:zJ){K:St→Prop}(hK:yP K)(b:zL .int (([]:List Int).length+((zG .con z.2.1 z.1.toNat).vars).length)=true)(a:zL .int (([]:List Int).length+((zG .con z.2.1 z.1.toNat).consts).length)=true)(c:zL .lit (([]:List zC).length+((zG .con z.2.1 z.1.toNat).lits).length)=true)(hk:K (zV z)):xE K 8 #[true,true,true,true,true,true,true,false,true,true,true,false,false,false,false,false,false,false] (K3 z):=zW hK (λ_ _ h=>h) ((zfB z K _).mpr ⟨⟨a,zD hK _ _ _ _ (zK [1,2,3,4,5,25,26,27,28,29,30,31,32,33,34,35,36,37,38,39] [1,2,3,5,8,25,29,33] (by kernel_rfl)) (zbG z hK b a c hk)⟩,zbH z hK b a c hk⟩)
theorem zfC(z:zJ)(K:St→Prop)(N:Array Bool→St→Prop):xL K N #[true,true,true,true,true,true,true,false,false,true,true,false,true,false,false,false,false,false] (K4 z)=((zL .int (([]:List Int).length+((zG .con z.2.1 z.1.toNat).consts).length)=true∧N #[true,true,true,true,true,true,true,true,false,true,true,false,true,false,false,false,false,false] (((K4 z).mk' 29 (.row 3 .int (([]:List Int)++((zG .con z.2.1 z.1.toNat).consts)))).put 32 (.own 29)))∧(N #[true,true,true,true,true,true,true,false,true,true,true,false,true,false,false,false,false,false] (((K4 z).mk' 33 (.row 67 .lit ([]:List zC))).put 33 (.own 33)))):=by kernel_rfl
theorem zh0(z:zJ){K:St→Prop}(hK:yP K)(b:zL .int (([]:List Int).length+((zG .con z.2.1 z.1.toNat).vars).length)=true)(a:zL .int (([]:List Int).length+((zG .con z.2.1 z.1.toNat).consts).length)=true)(c:zL .lit (([]:List zC).length+((zG .con z.2.1 z.1.toNat).lits).length)=true)(hk:K (zV z)):xE K 8 #[true,true,true,true,true,true,true,false,false,true,true,false,true,false,false,false,false,false] (K4 z):=zW hK (λ_ _ h=>h) ((zfC z K _).mpr ⟨⟨a,zD hK _ _ _ _ (zK [1,2,3,4,5,25,26,27,28,29,30,31,32,33,34,35,36,37,38,39] [1,2,3,5,8,25,29,33] (by kernel_rfl)) (zhX z hK b a c hk)⟩,zD hK _ _ _ _ (zK [1,2,3,4,5,25,26,27,28,29,30,31,32,33,34,35,36,37,38,39] [1,2,3,5,8,25,29,33] (by kernel_rfl)) (zbH z hK b a c hk)⟩)
theorem zfD(z:zJ)(K:St→Prop)(N:Array Bool→St→Prop):xL K N #[true,true,true,true,false,true,true,false,true,true,true,false,true,false,false,false,false,false] (FQ z)=((N #[true,true,true,true,true,true,true,false,true,true,true,false,true,false,false,false,false,false] (((FQ z).mk' 29 (.row 3 .int ([]:List Int))).put 29 (.own 29)))):=by kernel_rfl
theorem zh1(z:zJ){K:St→Prop}(hK:yP K)(a:zL .int (([]:List Int).length+((zG .con z.2.1 z.1.toNat).vars).length)=true)(b:zL .int (([]:List Int).length+((zG .con z.2.1 z.1.toNat).consts).length)=true)(c:zL .lit (([]:List zC).length+((zG .con z.2.1 z.1.toNat).lits).length)=true)(hk:K (zV z)):xE K 8 #[true,true,true,true,false,true,true,false,true,true,true,false,true,false,false,false,false,false] (FQ z):=zW hK (λ_ _ h=>h) ((zfD z K _).mpr (zD hK _ _ _ _ (zK [1,2,3,4,5,25,26,27,28,29,30,31,32,33,34,35,36,37,38,39] [1,2,3,5,8,25,29,33] (by kernel_rfl)) (zbH z hK a b c hk)))
theorem zfE(z:zJ)(K:St→Prop)(N:Array Bool→St→Prop):xL K N #[true,true,true,true,true,true,true,true,false,true,false,false,false,false,false,false,false,false] (KY z)=((N #[true,true,true,true,true,true,true,true,true,true,false,false,false,false,false,false,false,false] (FP z))∧(N #[true,true,true,true,true,true,true,true,false,true,true,false,false,false,false,false,false,false] (K2 z))):=by kernel_rfl
theorem zm4(z:zJ){K:St→Prop}(hK:yP K)(a:zL .int (([]:List Int).length+((zG .con z.2.1 z.1.toNat).vars).length)=true)(b:zL .int (([]:List Int).length+((zG .con z.2.1 z.1.toNat).consts).length)=true)(c:zL .lit (([]:List zC).length+((zG .con z.2.1 z.1.toNat).lits).length)=true)(hk:K (zV z)):xE K 9 #[true,true,true,true,true,true,true,true,false,true,false,false,false,false,false,false,false,false] (KY z):=zW hK (λ_ _ h=>h) ((zfE z K _).mpr ⟨zhY z hK a b c hk,zhZ z hK a b c hk⟩)
theorem zfF(z:zJ)(K:St→Prop)(N:Array Bool→St→Prop):xL K N #[true,true,true,true,true,true,true,false,true,true,false,false,false,false,false,false,false,false] (KZ z)=((zL .int (([]:List Int).length+((zG .con z.2.1 z.1.toNat).consts).length)=true∧N #[true,true,true,true,true,true,true,true,true,true,false,false,false,false,false,false,false,false] (((KZ z).mk' 29 (.row 3 .int (([]:List Int)++((zG .con z.2.1 z.1.toNat).consts)))).put 32 (.own 29)))∧(N #[true,true,true,true,true,true,true,false,true,true,true,false,false,false,false,false,false,false] (K3 z))):=by kernel_rfl
theorem F4(z:zJ){K:St→Prop}(hK:yP K)(b:zL .int (([]:List Int).length+((zG .con z.2.1 z.1.toNat).vars).length)=true)(a:zL .int (([]:List Int).length+((zG .con z.2.1 z.1.toNat).consts).length)=true)(c:zL .lit (([]:List zC).length+((zG .con z.2.1 z.1.toNat).lits).length)=true)(hk:K (zV z)):xE K 9 #[true,true,true,true,true,true,true,false,true,true,false,false,false,false,false,false,false,false] (KZ z):=zW hK (λ_ _ h=>h) ((zfF z K _).mpr ⟨⟨a,zD hK _ _ _ _ (zK [1,2,3,4,5,25,26,27,28,29,30,31,32,33,34,35,36,37,38,39] [1,2,3,5,8,25,29,33] (by kernel_rfl)) (zhY z hK b a c hk)⟩,K6 z hK b a c hk⟩)
theorem zfG(z:zJ)(K:St→Prop)(N:Array Bool→St→Prop):xL K N #[true,true,true,true,true,true,true,false,false,true,true,false,false,false,false,false,false,false] (OU z)=((zL .int (([]:List Int).length+((zG .con z.2.1 z.1.toNat).consts).length)=true∧N #[true,true,true,true,true,true,true,true,false,true,true,false,false,false,false,false,false,false] (((OU z).mk' 29 (.row 3 .int (([]:List Int)++((zG .con z.2.1 z.1.toNat).consts)))).put 32 (.own 29)))∧(N #[true,true,true,true,true,true,true,false,true,true,true,false,false,false,false,false,false,false] (((OU z).mk' 33 (.row 67 .lit ([]:List zC))).put 33 (.own 33)))∧(N #[true,true,true,true,true,true,true,false,false,true,true,false,true,false,false,false,false,false] (K4 z))):=by kernel_rfl
theorem F5(z:zJ){K:St→Prop}(hK:yP K)(b:zL .int (([]:List Int).length+((zG .con z.2.1 z.1.toNat).vars).length)=true)(a:zL .int (([]:List Int).length+((zG .con z.2.1 z.1.toNat).consts).length)=true)(c:zL .lit (([]:List zC).length+((zG .con z.2.1 z.1.toNat).lits).length)=true)(hk:K (zV z)):xE K 9 #[true,true,true,true,true,true,true,false,false,true,true,false,false,false,false,false,false,false] (OU z):=zW hK (λ_ _ h=>h) ((zfG z K _).mpr ⟨⟨a,zD hK _ _ _ _ (zK [1,2,3,4,5,25,26,27,28,29,30,31,32,33,34,35,36,37,38,39] [1,2,3,5,8,25,29,33] (by kernel_rfl)) (zhZ z hK b a c hk)⟩,zD hK _ _ _ _ (zK [1,2,3,4,5,25,26,27,28,29,30,31,32,33,34,35,36,37,38,39] [1,2,3,5,8,25,29,33] (by kernel_rfl)) (K6 z hK b a c hk),zh0 z hK b a c hk⟩)
theorem zfH(z:zJ)(K:St→Prop)(N:Array Bool→St→Prop):xL K N #[true,true,true,true,true,true,false,false,true,true,true,false,false,false,false,false,false,false] (FN z)=((N #[true,true,true,true,true,true,true,false,true,true,true,false,false,false,false,false,false,false] ((FN z).put 31 (.sl .int ((zG .con z.2.1 z.1.toNat).consts))))):=by kernel_rfl
theorem F6(z:zJ){K:St→Prop}(hK:yP K)(a:zL .int (([]:List Int).length+((zG .con z.2.1 z.1.toNat).vars).length)=true)(b:zL .int (([]:List Int).length+((zG .con z.2.1 z.1.toNat).consts).length)=true)(c:zL .lit (([]:List zC).length+((zG .con z.2.1 z.1.toNat).lits).length)=true)(hk:K (zV z)):xE K 9 #[true,true,true,true,true,true,false,false,true,true,true,false,false,false,false,false,false,false] (FN z):=zW hK (λ_ _ h=>h) ((zfH z K _).mpr (zD hK _ _ _ _ (zK [1,2,3,4,5,25,26,27,28,29,30,31,32,33,34,35,36,37,38,39] [1,2,3,5,8,25,29,33] (by kernel_rfl)) (K6 z hK a b c hk)))
theorem zfI(z:zJ)(K:St→Prop)(N:Array Bool→St→Prop):xL K N #[true,true,true,true,false,true,true,false,true,true,true,false,false,false,false,false,false,false] (K0 z)=((N #[true,true,true,true,true,true,true,false,true,true,true,false,false,false,false,false,false,false] (((K0 z).mk' 29 (.row 3 .int ([]:List Int))).put 29 (.own 29)))∧(N #[true,true,true,true,false,true,true,false,true,true,true,false,true,false,false,false,false,false] (FQ z))):=by kernel_rfl
theorem F7(z:zJ){K:St→Prop}(hK:yP K)(a:zL .int (([]:List Int).length+((zG .con z.2.1 z.1.toNat).vars).length)=true)(b:zL .int (([]:List Int).length+((zG .con z.2.1 z.1.toNat).consts).length)=true)(c:zL .lit (([]:List zC).length+((zG .con z.2.1 z.1.toNat).lits).length)=true)(hk:K (zV z)):xE K 9 #[true,true,true,true,false,true,true,false,true,true,true,false,false,false,false,false,false,false] (K0 z):=zW hK (λ_ _ h=>h) ((zfI z K _).mpr ⟨zD hK _ _ _ _ (zK [1,2,3,4,5,25,26,27,28,29,30,31,32,33,34,35,36,37,38,39] [1,2,3,5,8,25,29,33] (by kernel_rfl)) (K6 z hK a b c hk),zh1 z hK a b c hk⟩)
theorem zfJ(z:zJ)(K:St→Prop)(N:Array Bool→St→Prop):xL K N #[true,true,true,true,false,true,true,false,false,true,true,false,true,false,false,false,false,false] (K1 z)=((N #[true,true,true,true,true,true,true,false,false,true,true,false,true,false,false,false,false,false] (((K1 z).mk' 29 (.row 3 .int ([]:List Int))).put 29 (.own 29)))∧(N #[true,true,true,true,false,true,true,false,true,true,true,false,true,false,false,false,false,false] (((K1 z).mk' 33 (.row 67 .lit ([]:List zC))).put 33 (.own 33)))):=by kernel_rfl
theorem zm5(z:zJ){K:St→Prop}(hK:yP K)(a:zL .int (([]:List Int).length+((zG .con z.2.1 z.1.toNat).vars).length)=true)(b:zL .int (([]:List Int).length+((zG .con z.2.1 z.1.toNat).consts).length)=true)(c:zL .lit (([]:List zC).length+((zG .con z.2.1 z.1.toNat).lits).length)=true)(hk:K (zV z)):xE K 9 #[true,true,true,true,false,true,true,false,false,true,true,false,true,false,false,false,false,false] (K1 z):=zW hK (λ_ _ h=>h) ((zfJ z K _).mpr ⟨zD hK _ _ _ _ (zK [1,2,3,4,5,25,26,27,28,29,30,31,32,33,34,35,36,37,38,39] [1,2,3,5,8,25,29,33] (by kernel_rfl)) (zh0 z hK a b c hk),zD hK _ _ _ _ (zK [1,2,3,4,5,25,26,27,28,29,30,31,32,33,34,35,36,37,38,39] [1,2,3,5,8,25,29,33] (by kernel_rfl)) (zh1 z hK a b c hk)⟩)
theorem zfK(z:zJ)(K:St→Prop)(N:Array Bool→St→Prop):xL K N #[true,true,true,false,true,true,true,false,true,true,true,false,false,false,false,false,false,false] (FO z)=((zL .int (([]:List Int).length+((zG .con z.2.1 z.1.toNat).vars).length)=true∧N #[true,true,true,true,true,true,true,false,true,true,true,false,false,false,false,false,false,false] (((FO z).mk' 25 (.row 3 .int (([]:List Int)++((zG .con z.2.1 z.1.toNat).vars)))).put 28 (.own 25)))):=by kernel_rfl
theorem OV(z:zJ){K:St→Prop}(hK:yP K)(a:zL .int (([]:List Int).length+((zG .con z.2.1 z.1.toNat).vars).length)=true)(b:zL .int (([]:List Int).length+((zG .con z.2.1 z.1.toNat).consts).length)=true)(c:zL .lit (([]:List zC).length+((zG .con z.2.1 z.1.toNat).lits).length)=true)(hk:K (zV z)):xE K 9 #[true,true,true,false,true,true,true,false,true,true,true,false,false,false,false,false,false,false] (FO z):=zW hK (λ_ _ h=>h) ((zfK z K _).mpr (⟨a,zD hK _ _ _ _ (zK [1,2,3,4,5,25,26,27,28,29,30,31,32,33,34,35,36,37,38,39] [1,2,3,5,8,25,29,33] (by kernel_rfl)) (K6 z hK a b c hk)⟩))
theorem zfL(z:zJ)(K:St→Prop)(N:Array Bool→St→Prop):xL K N #[true,true,true,true,true,true,true,false,false,true,false,false,false,false,false,false,false,false] (OS z)=((zL .int (([]:List Int).length+((zG .con z.2.1 z.1.toNat).consts).length)=true∧N #[true,true,true,true,true,true,true,true,false,true,false,false,false,false,false,false,false,false] (KY z))∧(N #[true,true,true,true,true,true,true,false,true,true,false,false,false,false,false,false,false,false] (KZ z))∧(N #[true,true,true,true,true,true,true,false,false,true,true,false,false,false,false,false,false,false] (OU z))):=by kernel_rfl
theorem zbI(z:zJ){K:St→Prop}(hK:yP K)(b:zL .int (([]:List Int).length+((zG .con z.2.1 z.1.toNat).vars).length)=true)(a:zL .int (([]:List Int).length+((zG .con z.2.1 z.1.toNat).consts).length)=true)(c:zL .lit (([]:List zC).length+((zG .con z.2.1 z.1.toNat).lits).length)=true)(hk:K (zV z)):xE K 10 #[true,true,true,true,true,true,true,false,false,true,false,false,false,false,false,false,false,false] (OS z):=zW hK (λ_ _ h=>h) ((zfL z K _).mpr ⟨⟨a,zm4 z hK b a c hk⟩,F4 z hK b a c hk,F5 z hK b a c hk⟩)
theorem zfM(z:zJ)(K:St→Prop)(N:Array Bool→St→Prop):xL K N #[true,true,true,true,true,true,false,false,true,true,false,false,false,false,false,false,false,false] (KP z)=((N #[true,true,true,true,true,true,true,false,true,true,false,false,false,false,false,false,false,false] ((KP z).put 31 (.sl .int ((zG .con z.2.1 z.1.toNat).consts))))∧(N #[true,true,true,true,true,true,false,false,true,true,true,false,false,false,false,false,false,false] (FN z))):=by kernel_rfl
theorem zbJ(z:zJ){K:St→Prop}(hK:yP K)(a:zL .int (([]:List Int).length+((zG .con z.2.1 z.1.toNat).vars).length)=true)(b:zL .int (([]:List Int).length+((zG .con z.2.1 z.1.toNat).consts).length)=true)(c:zL .lit (([]:List zC).length+((zG .con z.2.1 z.1.toNat).lits).length)=true)(hk:K (zV z)):xE K 10 #[true,true,true,true,true,true,false,false,true,true,false,false,false,false,false,false,false,false] (KP z):=zW hK (λ_ _ h=>h) ((zfM z K _).mpr ⟨zD hK _ _ _ _ (zK [1,2,3,4,5,25,26,27,28,29,30,31,32,33,34,35,36,37,38,39] [1,2,3,5,8,25,29,33] (by kernel_rfl)) (F4 z hK a b c hk),F6 z hK a b c hk⟩)
theorem zfN(z:zJ)(K:St→Prop)(N:Array Bool→St→Prop):xL K N #[true,true,true,true,true,true,false,false,false,true,true,false,false,false,false,false,false,false] (KQ z)=((N #[true,true,true,true,true,true,true,false,false,true,true,false,false,false,false,false,false,false] ((KQ z).put 31 (.sl .int ((zG .con z.2.1 z.1.toNat).consts))))∧(N #[true,true,true,true,true,true,false,false,true,true,true,false,false,false,false,false,false,false] (((KQ z).mk' 33 (.row 67 .lit ([]:List zC))).put 33 (.own 33)))):=by kernel_rfl
theorem zbK(z:zJ){K:St→Prop}(hK:yP K)(a:zL .int (([]:List Int).length+((zG .con z.2.1 z.1.toNat).vars).length)=true)(b:zL .int (([]:List Int).length+((zG .con z.2.1 z.1.toNat).consts).length)=true)(c:zL .lit (([]:List zC).length+((zG .con z.2.1 z.1.toNat).lits).length)=true)(hk:K (zV z)):xE K 10 #[true,true,true,true,true,true,false,false,false,true,true,false,false,false,false,false,false,false] (KQ z):=zW hK (λ_ _ h=>h) ((zfN z K _).mpr ⟨zD hK _ _ _ _ (zK [1,2,3,4,5,25,26,27,28,29,30,31,32,33,34,35,36,37,38,39] [1,2,3,5,8,25,29,33] (by kernel_rfl)) (F5 z hK a b c hk),zD hK _ _ _ _ (zK [1,2,3,4,5,25,26,27,28,29,30,31,32,33,34,35,36,37,38,39] [1,2,3,5,8,25,29,33] (by kernel_rfl)) (F6 z hK a b c hk)⟩)
theorem zfO(z:zJ)(K:St→Prop)(N:Array Bool→St→Prop):xL K N #[true,true,true,true,false,true,true,false,true,true,false,false,false,false,false,false,false,false] (KR z)=((N #[true,true,true,true,true,true,true,false,true,true,false,false,false,false,false,false,false,false] (((KR z).mk' 29 (.row 3 .int ([]:List Int))).put 29 (.own 29)))∧(N #[true,true,true,true,false,true,true,false,true,true,true,false,false,false,false,false,false,false] (K0 z))):=by kernel_rfl
theorem zbL(z:zJ){K:St→Prop}(hK:yP K)(a:zL .int (([]:List Int).length+((zG .con z.2.1 z.1.toNat).vars).length)=true)(b:zL .int (([]:List Int).length+((zG .con z.2.1 z.1.toNat).consts).length)=true)(c:zL .lit (([]:List zC).length+((zG .con z.2.1 z.1.toNat).lits).length)=true)(hk:K (zV z)):xE K 10 #[true,true,true,true,false,true,true,false,true,true,false,false,false,false,false,false,false,false] (KR z):=zW hK (λ_ _ h=>h) ((zfO z K _).mpr ⟨zD hK _ _ _ _ (zK [1,2,3,4,5,25,26,27,28,29,30,31,32,33,34,35,36,37,38,39] [1,2,3,5,8,25,29,33] (by kernel_rfl)) (F4 z hK a b c hk),F7 z hK a b c hk⟩)
theorem zfP(z:zJ)(K:St→Prop)(N:Array Bool→St→Prop):xL K N #[true,true,true,true,false,true,true,false,false,true,true,false,false,false,false,false,false,false] (OT z)=((N #[true,true,true,true,true,true,true,false,false,true,true,false,false,false,false,false,false,false] (((OT z).mk' 29 (.row 3 .int ([]:List Int))).put 29 (.own 29)))∧(N #[true,true,true,true,false,true,true,false,true,true,true,false,false,false,false,false,false,false] (((OT z).mk' 33 (.row 67 .lit ([]:List zC))).put 33 (.own 33)))∧(N #[true,true,true,true,false,true,true,false,false,true,true,false,true,false,false,false,false,false] (K1 z))):=by kernel_rfl
theorem zbM(z:zJ){K:St→Prop}(hK:yP K)(a:zL .int (([]:List Int).length+((zG .con z.2.1 z.1.toNat).vars).length)=true)(b:zL .int (([]:List Int).length+((zG .con z.2.1 z.1.toNat).consts).length)=true)(c:zL .lit (([]:List zC).length+((zG .con z.2.1 z.1.toNat).lits).length)=true)(hk:K (zV z)):xE K 10 #[true,true,true,true,false,true,true,false,false,true,true,false,false,false,false,false,false,false] (OT z):=zW hK (λ_ _ h=>h) ((zfP z K _).mpr ⟨zD hK _ _ _ _ (zK [1,2,3,4,5,25,26,27,28,29,30,31,32,33,34,35,36,37,38,39] [1,2,3,5,8,25,29,33] (by kernel_rfl)) (F5 z hK a b c hk),zD hK _ _ _ _ (zK [1,2,3,4,5,25,26,27,28,29,30,31,32,33,34,35,36,37,38,39] [1,2,3,5,8,25,29,33] (by kernel_rfl)) (F7 z hK a b c hk),zm5 z hK a b c hk⟩)
theorem zfQ(z:zJ)(K:St→Prop)(N:Array Bool→St→Prop):xL K N #[true,true,true,true,false,true,false,false,true,true,true,false,false,false,false,false,false,false] (KS z)=((N #[true,true,true,true,true,true,false,false,true,true,true,false,false,false,false,false,false,false] (((KS z).mk' 29 (.row 3 .int ([]:List Int))).put 29 (.own 29)))∧(N #[true,true,true,true,false,true,true,false,true,true,true,false,false,false,false,false,false,false] ((KS z).put 31 (.sl .int ((zG .con z.2.1 z.1.toNat).consts))))):=by kernel_rfl
theorem zbN(z:zJ){K:St→Prop}(hK:yP K)(a:zL .int (([]:List Int).length+((zG .con z.2.1 z.1.toNat).vars).length)=true)(b:zL .int (([]:List Int).length+((zG .con z.2.1 z.1.toNat).consts).length)=true)(c:zL .lit (([]:List zC).length+((zG .con z.2.1 z.1.toNat).lits).length)=true)(hk:K (zV z)):xE K 10 #[true,true,true,true,false,true,false,false,true,true,true,false,false,false,false,false,false,false] (KS z):=zW hK (λ_ _ h=>h) ((zfQ z K _).mpr ⟨zD hK _ _ _ _ (zK [1,2,3,4,5,25,26,27,28,29,30,31,32,33,34,35,36,37,38,39] [1,2,3,5,8,25,29,33] (by kernel_rfl)) (F6 z hK a b c hk),zD hK _ _ _ _ (zK [1,2,3,4,5,25,26,27,28,29,30,31,32,33,34,35,36,37,38,39] [1,2,3,5,8,25,29,33] (by kernel_rfl)) (F7 z hK a b c hk)⟩)
theorem zfR(z:zJ)(K:St→Prop)(N:Array Bool→St→Prop):xL K N #[true,true,true,false,true,true,true,false,true,true,false,false,false,false,false,false,false,false] (KT z)=((zL .int (([]:List Int).length+((zG .con z.2.1 z.1.toNat).vars).length)=true∧N #[true,true,true,true,true,true,true,false,true,true,false,false,false,false,false,false,false,false] (((KT z).mk' 25 (.row 3 .int (([]:List Int)++((zG .con z.2.1 z.1.toNat).vars)))).put 28 (.own 25)))∧(N #[true,true,true,false,true,true,true,false,true,true,true,false,false,false,false,false,false,false] (FO z))):=by kernel_rfl
theorem K7(z:zJ){K:St→Prop}(hK:yP K)(a:zL .int (([]:List Int).length+((zG .con z.2.1 z.1.toNat).vars).length)=true)(b:zL .int (([]:List Int).length+((zG .con z.2.1 z.1.toNat).consts).length)=true)(c:zL .lit (([]:List zC).length+((zG .con z.2.1 z.1.toNat).lits).length)=true)(hk:K (zV z)):xE K 10 #[true,true,true,false,true,true,true,false,true,true,false,false,false,false,false,false,false,false] (KT z):=zW hK (λ_ _ h=>h) ((zfR z K _).mpr ⟨⟨a,zD hK _ _ _ _ (zK [1,2,3,4,5,25,26,27,28,29,30,31,32,33,34,35,36,37,38,39] [1,2,3,5,8,25,29,33] (by kernel_rfl)) (F4 z hK a b c hk)⟩,OV z hK a b c hk⟩)
theorem zfS(z:zJ)(K:St→Prop)(N:Array Bool→St→Prop):xL K N #[true,true,true,false,true,true,true,false,false,true,true,false,false,false,false,false,false,false] (KU z)=((zL .int (([]:List Int).length+((zG .con z.2.1 z.1.toNat).vars).length)=true∧N #[true,true,true,true,true,true,true,false,false,true,true,false,false,false,false,false,false,false] (((KU z).mk' 25 (.row 3 .int (([]:List Int)++((zG .con z.2.1 z.1.toNat).vars)))).put 28 (.own 25)))∧(N #[true,true,true,false,true,true,true,false,true,true,true,false,false,false,false,false,false,false] (((KU z).mk' 33 (.row 67 .lit ([]:List zC))).put 33 (.own 33)))):=by kernel_rfl
theorem K8(z:zJ){K:St→Prop}(hK:yP K)(a:zL .int (([]:List Int).length+((zG .con z.2.1 z.1.toNat).vars).length)=true)(b:zL .int (([]:List Int).length+((zG .con z.2.1 z.1.toNat).consts).length)=true)(c:zL .lit (([]:List zC).length+((zG .con z.2.1 z.1.toNat).lits).length)=true)(hk:K (zV z)):xE K 10 #[true,true,true,false,true,true,true,false,false,true,true,false,false,false,false,false,false,false] (KU z):=zW hK (λ_ _ h=>h) ((zfS z K _).mpr ⟨⟨a,zD hK _ _ _ _ (zK [1,2,3,4,5,25,26,27,28,29,30,31,32,33,34,35,36,37,38,39] [1,2,3,5,8,25,29,33] (by kernel_rfl)) (F5 z hK a b c hk)⟩,zD hK _ _ _ _ (zK [1,2,3,4,5,25,26,27,28,29,30,31,32,33,34,35,36,37,38,39] [1,2,3,5,8,25,29,33] (by kernel_rfl)) (OV z hK a b c hk)⟩)
theorem zfT(z:zJ)(K:St→Prop)(N:Array Bool→St→Prop):xL K N #[true,true,true,false,true,true,false,false,true,true,true,false,false,false,false,false,false,false] (KW z)=((zL .int (([]:List Int).length+((zG .con z.2.1 z.1.toNat).vars).length)=true∧N #[true,true,true,true,true,true,false,false,true,true,true,false,false,false,false,false,false,false] (((KW z).mk' 25 (.row 3 .int (([]:List Int)++((zG .con z.2.1 z.1.toNat).vars)))).put 28 (.own 25)))∧(N #[true,true,true,false,true,true,true,false,true,true,true,false,false,false,false,false,false,false] ((KW z).put 31 (.sl .int ((zG .con z.2.1 z.1.toNat).consts))))):=by kernel_rfl
theorem K9(z:zJ){K:St→Prop}(hK:yP K)(a:zL .int (([]:List Int).length+((zG .con z.2.1 z.1.toNat).vars).length)=true)(b:zL .int (([]:List Int).length+((zG .con z.2.1 z.1.toNat).consts).length)=true)(c:zL .lit (([]:List zC).length+((zG .con z.2.1 z.1.toNat).lits).length)=true)(hk:K (zV z)):xE K 10 #[true,true,true,false,true,true,false,false,true,true,true,false,false,false,false,false,false,false] (KW z):=zW hK (λ_ _ h=>h) ((zfT z K _).mpr ⟨⟨a,zD hK _ _ _ _ (zK [1,2,3,4,5,25,26,27,28,29,30,31,32,33,34,35,36,37,38,39] [1,2,3,5,8,25,29,33] (by kernel_rfl)) (F6 z hK a b c hk)⟩,zD hK _ _ _ _ (zK [1,2,3,4,5,25,26,27,28,29,30,31,32,33,34,35,36,37,38,39] [1,2,3,5,8,25,29,33] (by kernel_rfl)) (OV z hK a b c hk)⟩)
theorem zfU(z:zJ)(K:St→Prop)(N:Array Bool→St→Prop):xL K N #[true,true,true,false,false,true,true,false,true,true,true,false,false,false,false,false,false,false] (KX z)=((zL .int (([]:List Int).length+((zG .con z.2.1 z.1.toNat).vars).length)=true∧N #[true,true,true,true,false,true,true,false,true,true,true,false,false,false,false,false,false,false] (((KX z).mk' 25 (.row 3 .int (([]:List Int)++((zG .con z.2.1 z.1.toNat).vars)))).put 28 (.own 25)))∧(N #[true,true,true,false,true,true,true,false,true,true,true,false,false,false,false,false,false,false] (((KX z).mk' 29 (.row 3 .int ([]:List Int))).put 29 (.own 29)))):=by kernel_rfl
theorem Ja(z:zJ){K:St→Prop}(hK:yP K)(a:zL .int (([]:List Int).length+((zG .con z.2.1 z.1.toNat).vars).length)=true)(b:zL .int (([]:List Int).length+((zG .con z.2.1 z.1.toNat).consts).length)=true)(c:zL .lit (([]:List zC).length+((zG .con z.2.1 z.1.toNat).lits).length)=true)(hk:K (zV z)):xE K 10 #[true,true,true,false,false,true,true,false,true,true,true,false,false,false,false,false,false,false] (KX z):=zW hK (λ_ _ h=>h) ((zfU z K _).mpr ⟨⟨a,zD hK _ _ _ _ (zK [1,2,3,4,5,25,26,27,28,29,30,31,32,33,34,35,36,37,38,39] [1,2,3,5,8,25,29,33] (by kernel_rfl)) (F7 z hK a b c hk)⟩,zD hK _ _ _ _ (zK [1,2,3,4,5,25,26,27,28,29,30,31,32,33,34,35,36,37,38,39] [1,2,3,5,8,25,29,33] (by kernel_rfl)) (OV z hK a b c hk)⟩)
theorem zfV(z:zJ)(K:St→Prop)(N:Array Bool→St→Prop):xL K N #[true,true,false,false,true,true,true,false,true,true,true,false,false,false,false,false,false,false] (FL z)=((N #[true,true,true,false,true,true,true,false,true,true,true,false,false,false,false,false,false,false] ((FL z).put 27 (.sl .int ((zG .con z.2.1 z.1.toNat).vars))))):=by kernel_rfl
theorem Jb(z:zJ){K:St→Prop}(hK:yP K)(a:zL .int (([]:List Int).length+((zG .con z.2.1 z.1.toNat).vars).length)=true)(b:zL .int (([]:List Int).length+((zG .con z.2.1 z.1.toNat).consts).length)=true)(c:zL .lit (([]:List zC).length+((zG .con z.2.1 z.1.toNat).lits).length)=true)(hk:K (zV z)):xE K 10 #[true,true,false,false,true,true,true,false,true,true,true,false,false,false,false,false,false,false] (FL z):=zW hK (λ_ _ h=>h) ((zfV z K _).mpr (zD hK _ _ _ _ (zK [1,2,3,4,5,25,26,27,28,29,30,31,32,33,34,35,36,37,38,39] [1,2,3,5,8,25,29,33] (by kernel_rfl)) (OV z hK a b c hk)))
theorem zfW(z:zJ)(K:St→Prop)(N:Array Bool→St→Prop):xL K N #[false,true,true,false,true,true,true,false,true,true,true,false,false,false,false,false,false,false] (FM z)=((N #[true,true,true,false,true,true,true,false,true,true,true,false,false,false,false,false,false,false] (((FM z).mk' 25 (.row 3 .int ([]:List Int))).put 25 (.own 25)))):=by kernel_rfl
theorem Jc(z:zJ){K:St→Prop}(hK:yP K)(a:zL .int (([]:List Int).length+((zG .con z.2.1 z.1.toNat).vars).length)=true)(b:zL .int (([]:List Int).length+((zG .con z.2.1 z.1.toNat).consts).length)=true)(c:zL .lit (([]:List zC).length+((zG .con z.2.1 z.1.toNat).lits).length)=true)(hk:K (zV z)):xE K 10 #[false,true,true,false,true,true,true,false,true,true,true,false,false,false,false,false,false,false] (FM z):=zW hK (λ_ _ h=>h) ((zfW z K _).mpr (zD hK _ _ _ _ (zK [1,2,3,4,5,25,26,27,28,29,30,31,32,33,34,35,36,37,38,39] [1,2,3,5,8,25,29,33] (by kernel_rfl)) (OV z hK a b c hk)))
theorem zfX(z:zJ)(K:St→Prop)(N:Array Bool→St→Prop):xL K N #[true,true,true,true,true,true,false,false,false,true,false,false,false,false,false,false,false,false] (OI z)=((N #[true,true,true,true,true,true,true,false,false,true,false,false,false,false,false,false,false,false] (OS z))∧(N #[true,true,true,true,true,true,false,false,true,true,false,false,false,false,false,false,false,false] (KP z))∧(N #[true,true,true,true,true,true,false,false,false,true,true,false,false,false,false,false,false,false] (KQ z))):=by kernel_rfl
theorem zh2(z:zJ){K:St→Prop}(hK:yP K)(a:zL .int (([]:List Int).length+((zG .con z.2.1 z.1.toNat).vars).length)=true)(b:zL .int (([]:List Int).length+((zG .con z.2.1 z.1.toNat).consts).length)=true)(c:zL .lit (([]:List zC).length+((zG .con z.2.1 z.1.toNat).lits).length)=true)(hk:K (zV z)):xE K 11 #[true,true,true,true,true,true,false,false,false,true,false,false,false,false,false,false,false,false] (OI z):=zW hK (λ_ _ h=>h) ((zfX z K _).mpr ⟨zbI z hK a b c hk,zbJ z hK a b c hk,zbK z hK a b c hk⟩)
theorem zfY(z:zJ)(K:St→Prop)(N:Array Bool→St→Prop):xL K N #[true,true,true,true,false,true,true,false,false,true,false,false,false,false,false,false,false,false] (OJ z)=((N #[true,true,true,true,true,true,true,false,false,true,false,false,false,false,false,false,false,false] (((OJ z).mk' 29 (.row 3 .int ([]:List Int))).put 29 (.own 29)))∧(N #[true,true,true,true,false,true,true,false,true,true,false,false,false,false,false,false,false,false] (KR z))∧(N #[true,true,true,true,false,true,true,false,false,true,true,false,false,false,false,false,false,false] (OT z))):=by kernel_rfl
theorem zh3(z:zJ){K:St→Prop}(hK:yP K)(a:zL .int (([]:List Int).length+((zG .con z.2.1 z.1.toNat).vars).length)=true)(b:zL .int (([]:List Int).length+((zG .con z.2.1 z.1.toNat).consts).length)=true)(c:zL .lit (([]:List zC).length+((zG .con z.2.1 z.1.toNat).lits).length)=true)(hk:K (zV z)):xE K 11 #[true,true,true,true,false,true,true,false,false,true,false,false,false,false,false,false,false,false] (OJ z):=zW hK (λ_ _ h=>h) ((zfY z K _).mpr ⟨zD hK _ _ _ _ (zK [1,2,3,4,5,25,26,27,28,29,30,31,32,33,34,35,36,37,38,39] [1,2,3,5,8,25,29,33] (by kernel_rfl)) (zbI z hK a b c hk),zbL z hK a b c hk,zbM z hK a b c hk⟩)
theorem zfZ(z:zJ)(K:St→Prop)(N:Array Bool→St→Prop):xL K N #[true,true,true,true,false,true,false,false,true,true,false,false,false,false,false,false,false,false] (OK z)=((N #[true,true,true,true,true,true,false,false,true,true,false,false,false,false,false,false,false,false] (((OK z).mk' 29 (.row 3 .int ([]:List Int))).put 29 (.own 29)))∧(N #[true,true,true,true,false,true,true,false,true,true,false,false,false,false,false,false,false,false] ((OK z).put 31 (.sl .int ((zG .con z.2.1 z.1.toNat).consts))))∧(N #[true,true,true,true,false,true,false,false,true,true,true,false,false,false,false,false,false,false] (KS z))):=by kernel_rfl
theorem zh4(z:zJ){K:St→Prop}(hK:yP K)(a:zL .int (([]:List Int).length+((zG .con z.2.1 z.1.toNat).vars).length)=true)(b:zL .int (([]:List Int).length+((zG .con z.2.1 z.1.toNat).consts).length)=true)(c:zL .lit (([]:List zC).length+((zG .con z.2.1 z.1.toNat).lits).length)=true)(hk:K (zV z)):xE K 11 #[true,true,true,true,false,true,false,false,true,true,false,false,false,false,false,false,false,false] (OK z):=zW hK (λ_ _ h=>h) ((zfZ z K _).mpr ⟨zD hK _ _ _ _ (zK [1,2,3,4,5,25,26,27,28,29,30,31,32,33,34,35,36,37,38,39] [1,2,3,5,8,25,29,33] (by kernel_rfl)) (zbJ z hK a b c hk),zD hK _ _ _ _ (zK [1,2,3,4,5,25,26,27,28,29,30,31,32,33,34,35,36,37,38,39] [1,2,3,5,8,25,29,33] (by kernel_rfl)) (zbL z hK a b c hk),zbN z hK a b c hk⟩)
theorem zf0(z:zJ)(K:St→Prop)(N:Array Bool→St→Prop):xL K N #[true,true,true,true,false,true,false,false,false,true,true,false,false,false,false,false,false,false] (OL z)=((N #[true,true,true,true,true,true,false,false,false,true,true,false,false,false,false,false,false,false] (((OL z).mk' 29 (.row 3 .int ([]:List Int))).put 29 (.own 29)))∧(N #[true,true,true,true,false,true,true,false,false,true,true,false,false,false,false,false,false,false] ((OL z).put 31 (.sl .int ((zG .con z.2.1 z.1.toNat).consts))))∧(N #[true,true,true,true,false,true,false,false,true,true,true,false,false,false,false,false,false,false] (((OL z).mk' 33 (.row 67 .lit ([]:List zC))).put 33 (.own 33)))):=by kernel_rfl
theorem zh5(z:zJ){K:St→Prop}(hK:yP K)(a:zL .int (([]:List Int).length+((zG .con z.2.1 z.1.toNat).vars).length)=true)(b:zL .int (([]:List Int).length+((zG .con z.2.1 z.1.toNat).consts).length)=true)(c:zL .lit (([]:List zC).length+((zG .con z.2.1 z.1.toNat).lits).length)=true)(hk:K (zV z)):xE K 11 #[true,true,true,true,false,true,false,false,false,true,true,false,false,false,false,false,false,false] (OL z):=zW hK (λ_ _ h=>h) ((zf0 z K _).mpr ⟨zD hK _ _ _ _ (zK [1,2,3,4,5,25,26,27,28,29,30,31,32,33,34,35,36,37,38,39] [1,2,3,5,8,25,29,33] (by kernel_rfl)) (zbK z hK a b c hk),zD hK _ _ _ _ (zK [1,2,3,4,5,25,26,27,28,29,30,31,32,33,34,35,36,37,38,39] [1,2,3,5,8,25,29,33] (by kernel_rfl)) (zbM z hK a b c hk),zD hK _ _ _ _ (zK [1,2,3,4,5,25,26,27,28,29,30,31,32,33,34,35,36,37,38,39] [1,2,3,5,8,25,29,33] (by kernel_rfl)) (zbN z hK a b c hk)⟩)
theorem zf1(z:zJ)(K:St→Prop)(N:Array Bool→St→Prop):xL K N #[true,true,true,false,true,true,true,false,false,true,false,false,false,false,false,false,false,false] (OM z)=((zL .int (([]:List Int).length+((zG .con z.2.1 z.1.toNat).vars).length)=true∧N #[true,true,true,true,true,true,true,false,false,true,false,false,false,false,false,false,false,false] (((OM z).mk' 25 (.row 3 .int (([]:List Int)++((zG .con z.2.1 z.1.toNat).vars)))).put 28 (.own 25)))∧(N #[true,true,true,false,true,true,true,false,true,true,false,false,false,false,false,false,false,false] (KT z))∧(N #[true,true,true,false,true,true,true,false,false,true,true,false,false,false,false,false,false,false] (KU z))):=by kernel_rfl
theorem F8(z:zJ){K:St→Prop}(hK:yP K)(a:zL .int (([]:List Int).length+((zG .con z.2.1 z.1.toNat).vars).length)=true)(b:zL .int (([]:List Int).length+((zG .con z.2.1 z.1.toNat).consts).length)=true)(c:zL .lit (([]:List zC).length+((zG .con z.2.1 z.1.toNat).lits).length)=true)(hk:K (zV z)):xE K 11 #[true,true,true,false,true,true,true,false,false,true,false,false,false,false,false,false,false,false] (OM z):=zW hK (λ_ _ h=>h) ((zf1 z K _).mpr ⟨⟨a,zD hK _ _ _ _ (zK [1,2,3,4,5,25,26,27,28,29,30,31,32,33,34,35,36,37,38,39] [1,2,3,5,8,25,29,33] (by kernel_rfl)) (zbI z hK a b c hk)⟩,K7 z hK a b c hk,K8 z hK a b c hk⟩)
theorem zf2(z:zJ)(K:St→Prop)(N:Array Bool→St→Prop):xL K N #[true,true,true,false,true,true,false,false,true,true,false,false,false,false,false,false,false,false] (ON z)=((zL .int (([]:List Int).length+((zG .con z.2.1 z.1.toNat).vars).length)=true∧N #[true,true,true,true,true,true,false,false,true,true,false,false,false,false,false,false,false,false] (((ON z).mk' 25 (.row 3 .int (([]:List Int)++((zG .con z.2.1 z.1.toNat).vars)))).put 28 (.own 25)))∧(N #[true,true,true,false,true,true,true,false,true,true,false,false,false,false,false,false,false,false] ((ON z).put 31 (.sl .int ((zG .con z.2.1 z.1.toNat).consts))))∧(N #[true,true,true,false,true,true,false,false,true,true,true,false,false,false,false,false,false,false] (KW z))):=by kernel_rfl
theorem F9(z:zJ){K:St→Prop}(hK:yP K)(a:zL .int (([]:List Int).length+((zG .con z.2.1 z.1.toNat).vars).length)=true)(b:zL .int (([]:List Int).length+((zG .con z.2.1 z.1.toNat).consts).length)=true)(c:zL .lit (([]:List zC).length+((zG .con z.2.1 z.1.toNat).lits).length)=true)(hk:K (zV z)):xE K 11 #[true,true,true,false,true,true,false,false,true,true,false,false,false,false,false,false,false,false] (ON z):=zW hK (λ_ _ h=>h) ((zf2 z K _).mpr ⟨⟨a,zD hK _ _ _ _ (zK [1,2,3,4,5,25,26,27,28,29,30,31,32,33,34,35,36,37,38,39] [1,2,3,5,8,25,29,33] (by kernel_rfl)) (zbJ z hK a b c hk)⟩,zD hK _ _ _ _ (zK [1,2,3,4,5,25,26,27,28,29,30,31,32,33,34,35,36,37,38,39] [1,2,3,5,8,25,29,33] (by kernel_rfl)) (K7 z hK a b c hk),K9 z hK a b c hk⟩)
theorem zf3(z:zJ)(K:St→Prop)(N:Array Bool→St→Prop):xL K N #[true,true,true,false,true,true,false,false,false,true,true,false,false,false,false,false,false,false] (OO z)=((zL .int (([]:List Int).length+((zG .con z.2.1 z.1.toNat).vars).length)=true∧N #[true,true,true,true,true,true,false,false,false,true,true,false,false,false,false,false,false,false] (((OO z).mk' 25 (.row 3 .int (([]:List Int)++((zG .con z.2.1 z.1.toNat).vars)))).put 28 (.own 25)))∧(N #[true,true,true,false,true,true,true,false,false,true,true,false,false,false,false,false,false,false] ((OO z).put 31 (.sl .int ((zG .con z.2.1 z.1.toNat).consts))))∧(N #[true,true,true,false,true,true,false,false,true,true,true,false,false,false,false,false,false,false] (((OO z).mk' 33 (.row 67 .lit ([]:List zC))).put 33 (.own 33)))):=by kernel_rfl
theorem Ea(z:zJ){K:St→Prop}(hK:yP K)(a:zL .int (([]:List Int).length+((zG .con z.2.1 z.1.toNat).vars).length)=true)(b:zL .int (([]:List Int).length+((zG .con z.2.1 z.1.toNat).consts).length)=true)(c:zL .lit (([]:List zC).length+((zG .con z.2.1 z.1.toNat).lits).length)=true)(hk:K (zV z)):xE K 11 #[true,true,true,false,true,true,false,false,false,true,true,false,false,false,false,false,false,false] (OO z):=zW hK (λ_ _ h=>h) ((zf3 z K _).mpr ⟨⟨a,zD hK _ _ _ _ (zK [1,2,3,4,5,25,26,27,28,29,30,31,32,33,34,35,36,37,38,39] [1,2,3,5,8,25,29,33] (by kernel_rfl)) (zbK z hK a b c hk)⟩,zD hK _ _ _ _ (zK [1,2,3,4,5,25,26,27,28,29,30,31,32,33,34,35,36,37,38,39] [1,2,3,5,8,25,29,33] (by kernel_rfl)) (K8 z hK a b c hk),zD hK _ _ _ _ (zK [1,2,3,4,5,25,26,27,28,29,30,31,32,33,34,35,36,37,38,39] [1,2,3,5,8,25,29,33] (by kernel_rfl)) (K9 z hK a b c hk)⟩)
theorem zf4(z:zJ)(K:St→Prop)(N:Array Bool→St→Prop):xL K N #[true,true,true,false,false,true,true,false,true,true,false,false,false,false,false,false,false,false] (OP z)=((zL .int (([]:List Int).length+((zG .con z.2.1 z.1.toNat).vars).length)=true∧N #[true,true,true,true,false,true,true,false,true,true,false,false,false,false,false,false,false,false] (((OP z).mk' 25 (.row 3 .int (([]:List Int)++((zG .con z.2.1 z.1.toNat).vars)))).put 28 (.own 25)))∧(N #[true,true,true,false,true,true,true,false,true,true,false,false,false,false,false,false,false,false] (((OP z).mk' 29 (.row 3 .int ([]:List Int))).put 29 (.own 29)))∧(N #[true,true,true,false,false,true,true,false,true,true,true,false,false,false,false,false,false,false] (KX z))):=by kernel_rfl
theorem Eb(z:zJ){K:St→Prop}(hK:yP K)(a:zL .int (([]:List Int).length+((zG .con z.2.1 z.1.toNat).vars).length)=true)(b:zL .int (([]:List Int).length+((zG .con z.2.1 z.1.toNat).consts).length)=true)(c:zL .lit (([]:List zC).length+((zG .con z.2.1 z.1.toNat).lits).length)=true)(hk:K (zV z)):xE K 11 #[true,true,true,false,false,true,true,false,true,true,false,false,false,false,false,false,false,false] (OP z):=zW hK (λ_ _ h=>h) ((zf4 z K _).mpr ⟨⟨a,zD hK _ _ _ _ (zK [1,2,3,4,5,25,26,27,28,29,30,31,32,33,34,35,36,37,38,39] [1,2,3,5,8,25,29,33] (by kernel_rfl)) (zbL z hK a b c hk)⟩,zD hK _ _ _ _ (zK [1,2,3,4,5,25,26,27,28,29,30,31,32,33,34,35,36,37,38,39] [1,2,3,5,8,25,29,33] (by kernel_rfl)) (K7 z hK a b c hk),Ja z hK a b c hk⟩)
theorem zf5(z:zJ)(K:St→Prop)(N:Array Bool→St→Prop):xL K N #[true,true,true,false,false,true,true,false,false,true,true,false,false,false,false,false,false,false] (OQ z)=((zL .int (([]:List Int).length+((zG .con z.2.1 z.1.toNat).vars).length)=true∧N #[true,true,true,true,false,true,true,false,false,true,true,false,false,false,false,false,false,false] (((OQ z).mk' 25 (.row 3 .int (([]:List Int)++((zG .con z.2.1 z.1.toNat).vars)))).put 28 (.own 25)))∧(N #[true,true,true,false,true,true,true,false,false,true,true,false,false,false,false,false,false,false] (((OQ z).mk' 29 (.row 3 .int ([]:List Int))).put 29 (.own 29)))∧(N #[true,true,true,false,false,true,true,false,true,true,true,false,false,false,false,false,false,false] (((OQ z).mk' 33 (.row 67 .lit ([]:List zC))).put 33 (.own 33)))):=by kernel_rfl
theorem Ec(z:zJ){K:St→Prop}(hK:yP K)(a:zL .int (([]:List Int).length+((zG .con z.2.1 z.1.toNat).vars).length)=true)(b:zL .int (([]:List Int).length+((zG .con z.2.1 z.1.toNat).consts).length)=true)(c:zL .lit (([]:List zC).length+((zG .con z.2.1 z.1.toNat).lits).length)=true)(hk:K (zV z)):xE K 11 #[true,true,true,false,false,true,true,false,false,true,true,false,false,false,false,false,false,false] (OQ z):=zW hK (λ_ _ h=>h) ((zf5 z K _).mpr ⟨⟨a,zD hK _ _ _ _ (zK [1,2,3,4,5,25,26,27,28,29,30,31,32,33,34,35,36,37,38,39] [1,2,3,5,8,25,29,33] (by kernel_rfl)) (zbM z hK a b c hk)⟩,zD hK _ _ _ _ (zK [1,2,3,4,5,25,26,27,28,29,30,31,32,33,34,35,36,37,38,39] [1,2,3,5,8,25,29,33] (by kernel_rfl)) (K8 z hK a b c hk),zD hK _ _ _ _ (zK [1,2,3,4,5,25,26,27,28,29,30,31,32,33,34,35,36,37,38,39] [1,2,3,5,8,25,29,33] (by kernel_rfl)) (Ja z hK a b c hk)⟩)
theorem zf6(z:zJ)(K:St→Prop)(N:Array Bool→St→Prop):xL K N #[true,true,true,false,false,true,false,false,true,true,true,false,false,false,false,false,false,false] (OR z)=((zL .int (([]:List Int).length+((zG .con z.2.1 z.1.toNat).vars).length)=true∧N #[true,true,true,true,false,true,false,false,true,true,true,false,false,false,false,false,false,false] (((OR z).mk' 25 (.row 3 .int (([]:List Int)++((zG .con z.2.1 z.1.toNat).vars)))).put 28 (.own 25)))∧(N #[true,true,true,false,true,true,false,false,true,true,true,false,false,false,false,false,false,false] (((OR z).mk' 29 (.row 3 .int ([]:List Int))).put 29 (.own 29)))∧(N #[true,true,true,false,false,true,true,false,true,true,true,false,false,false,false,false,false,false] ((OR z).put 31 (.sl .int ((zG .con z.2.1 z.1.toNat).consts))))):=by kernel_rfl
theorem Ed(z:zJ){K:St→Prop}(hK:yP K)(a:zL .int (([]:List Int).length+((zG .con z.2.1 z.1.toNat).vars).length)=true)(b:zL .int (([]:List Int).length+((zG .con z.2.1 z.1.toNat).consts).length)=true)(c:zL .lit (([]:List zC).length+((zG .con z.2.1 z.1.toNat).lits).length)=true)(hk:K (zV z)):xE K 11 #[true,true,true,false,false,true,false,false,true,true,true,false,false,false,false,false,false,false] (OR z):=zW hK (λ_ _ h=>h) ((zf6 z K _).mpr ⟨⟨a,zD hK _ _ _ _ (zK [1,2,3,4,5,25,26,27,28,29,30,31,32,33,34,35,36,37,38,39] [1,2,3,5,8,25,29,33] (by kernel_rfl)) (zbN z hK a b c hk)⟩,zD hK _ _ _ _ (zK [1,2,3,4,5,25,26,27,28,29,30,31,32,33,34,35,36,37,38,39] [1,2,3,5,8,25,29,33] (by kernel_rfl)) (K9 z hK a b c hk),zD hK _ _ _ _ (zK [1,2,3,4,5,25,26,27,28,29,30,31,32,33,34,35,36,37,38,39] [1,2,3,5,8,25,29,33] (by kernel_rfl)) (Ja z hK a b c hk)⟩)
theorem zf7(z:zJ)(K:St→Prop)(N:Array Bool→St→Prop):xL K N #[true,true,false,false,true,true,true,false,true,true,false,false,false,false,false,false,false,false] (KG z)=((N #[true,true,true,false,true,true,true,false,true,true,false,false,false,false,false,false,false,false] ((KG z).put 27 (.sl .int ((zG .con z.2.1 z.1.toNat).vars))))∧(N #[true,true,false,false,true,true,true,false,true,true,true,false,false,false,false,false,false,false] (FL z))):=by kernel_rfl
theorem Ee(z:zJ){K:St→Prop}(hK:yP K)(a:zL .int (([]:List Int).length+((zG .con z.2.1 z.1.toNat).vars).length)=true)(b:zL .int (([]:List Int).length+((zG .con z.2.1 z.1.toNat).consts).length)=true)(c:zL .lit (([]:List zC).length+((zG .con z.2.1 z.1.toNat).lits).length)=true)(hk:K (zV z)):xE K 11 #[true,true,false,false,true,true,true,false,true,true,false,false,false,false,false,false,false,false] (KG z):=zW hK (λ_ _ h=>h) ((zf7 z K _).mpr ⟨zD hK _ _ _ _ (zK [1,2,3,4,5,25,26,27,28,29,30,31,32,33,34,35,36,37,38,39] [1,2,3,5,8,25,29,33] (by kernel_rfl)) (K7 z hK a b c hk),Jb z hK a b c hk⟩)
theorem zf8(z:zJ)(K:St→Prop)(N:Array Bool→St→Prop):xL K N #[true,true,false,false,true,true,true,false,false,true,true,false,false,false,false,false,false,false] (KH z)=((N #[true,true,true,false,true,true,true,false,false,true,true,false,false,false,false,false,false,false] ((KH z).put 27 (.sl .int ((zG .con z.2.1 z.1.toNat).vars))))∧(N #[true,true,false,false,true,true,true,false,true,true,true,false,false,false,false,false,false,false] (((KH z).mk' 33 (.row 67 .lit ([]:List zC))).put 33 (.own 33)))):=by kernel_rfl
theorem Ef(z:zJ){K:St→Prop}(hK:yP K)(a:zL .int (([]:List Int).length+((zG .con z.2.1 z.1.toNat).vars).length)=true)(b:zL .int (([]:List Int).length+((zG .con z.2.1 z.1.toNat).consts).length)=true)(c:zL .lit (([]:List zC).length+((zG .con z.2.1 z.1.toNat).lits).length)=true)(hk:K (zV z)):xE K 11 #[true,true,false,false,true,true,true,false,false,true,true,false,false,false,false,false,false,false] (KH z):=zW hK (λ_ _ h=>h) ((zf8 z K _).mpr ⟨zD hK _ _ _ _ (zK [1,2,3,4,5,25,26,27,28,29,30,31,32,33,34,35,36,37,38,39] [1,2,3,5,8,25,29,33] (by kernel_rfl)) (K8 z hK a b c hk),zD hK _ _ _ _ (zK [1,2,3,4,5,25,26,27,28,29,30,31,32,33,34,35,36,37,38,39] [1,2,3,5,8,25,29,33] (by kernel_rfl)) (Jb z hK a b c hk)⟩)
theorem zf9(z:zJ)(K:St→Prop)(N:Array Bool→St→Prop):xL K N #[true,true,false,false,true,true,false,false,true,true,true,false,false,false,false,false,false,false] (KI z)=((N #[true,true,true,false,true,true,false,false,true,true,true,false,false,false,false,false,false,false] ((KI z).put 27 (.sl .int ((zG .con z.2.1 z.1.toNat).vars))))∧(N #[true,true,false,false,true,true,true,false,true,true,true,false,false,false,false,false,false,false] ((KI z).put 31 (.sl .int ((zG .con z.2.1 z.1.toNat).consts))))):=by kernel_rfl
theorem Eg(z:zJ){K:St→Prop}(hK:yP K)(a:zL .int (([]:List Int).length+((zG .con z.2.1 z.1.toNat).vars).length)=true)(b:zL .int (([]:List Int).length+((zG .con z.2.1 z.1.toNat).consts).length)=true)(c:zL .lit (([]:List zC).length+((zG .con z.2.1 z.1.toNat).lits).length)=true)(hk:K (zV z)):xE K 11 #[true,true,false,false,true,true,false,false,true,true,true,false,false,false,false,false,false,false] (KI z):=zW hK (λ_ _ h=>h) ((zf9 z K _).mpr ⟨zD hK _ _ _ _ (zK [1,2,3,4,5,25,26,27,28,29,30,31,32,33,34,35,36,37,38,39] [1,2,3,5,8,25,29,33] (by kernel_rfl)) (K9 z hK a b c hk),zD hK _ _ _ _ (zK [1,2,3,4,5,25,26,27,28,29,30,31,32,33,34,35,36,37,38,39] [1,2,3,5,8,25,29,33] (by kernel_rfl)) (Jb z hK a b c hk)⟩)
theorem zga(z:zJ)(K:St→Prop)(N:Array Bool→St→Prop):xL K N #[true,true,false,false,false,true,true,false,true,true,true,false,false,false,false,false,false,false] (KJ z)=((N #[true,true,true,false,false,true,true,false,true,true,true,false,false,false,false,false,false,false] ((KJ z).put 27 (.sl .int ((zG .con z.2.1 z.1.toNat).vars))))∧(N #[true,true,false,false,true,true,true,false,true,true,true,false,false,false,false,false,false,false] (((KJ z).mk' 29 (.row 3 .int ([]:List Int))).put 29 (.own 29)))):=by kernel_rfl
theorem Eh(z:zJ){K:St→Prop}(hK:yP K)(a:zL .int (([]:List Int).length+((zG .con z.2.1 z.1.toNat).vars).length)=true)(b:zL .int (([]:List Int).length+((zG .con z.2.1 z.1.toNat).consts).length)=true)(c:zL .lit (([]:List zC).length+((zG .con z.2.1 z.1.toNat).lits).length)=true)(hk:K (zV z)):xE K 11 #[true,true,false,false,false,true,true,false,true,true,true,false,false,false,false,false,false,false] (KJ z):=zW hK (λ_ _ h=>h) ((zga z K _).mpr ⟨zD hK _ _ _ _ (zK [1,2,3,4,5,25,26,27,28,29,30,31,32,33,34,35,36,37,38,39] [1,2,3,5,8,25,29,33] (by kernel_rfl)) (Ja z hK a b c hk),zD hK _ _ _ _ (zK [1,2,3,4,5,25,26,27,28,29,30,31,32,33,34,35,36,37,38,39] [1,2,3,5,8,25,29,33] (by kernel_rfl)) (Jb z hK a b c hk)⟩)
theorem zgb(z:zJ)(K:St→Prop)(N:Array Bool→St→Prop):xL K N #[false,true,true,false,true,true,true,false,true,true,false,false,false,false,false,false,false,false] (KK z)=((N #[true,true,true,false,true,true,true,false,true,true,false,false,false,false,false,false,false,false] (((KK z).mk' 25 (.row 3 .int ([]:List Int))).put 25 (.own 25)))∧(N #[false,true,true,false,true,true,true,false,true,true,true,false,false,false,false,false,false,false] (FM z))):=by kernel_rfl
theorem Ei(z:zJ){K:St→Prop}(hK:yP K)(a:zL .int (([]:List Int).length+((zG .con z.2.1 z.1.toNat).vars).length)=true)(b:zL .int (([]:List Int).length+((zG .con z.2.1 z.1.toNat).consts).length)=true)(c:zL .lit (([]:List zC).length+((zG .con z.2.1 z.1.toNat).lits).length)=true)(hk:K (zV z)):xE K 11 #[false,true,true,false,true,true,true,false,true,true,false,false,false,false,false,false,false,false] (KK z):=zW hK (λ_ _ h=>h) ((zgb z K _).mpr ⟨zD hK _ _ _ _ (zK [1,2,3,4,5,25,26,27,28,29,30,31,32,33,34,35,36,37,38,39] [1,2,3,5,8,25,29,33] (by kernel_rfl)) (K7 z hK a b c hk),Jc z hK a b c hk⟩)
theorem zgc(z:zJ)(K:St→Prop)(N:Array Bool→St→Prop):xL K N #[false,true,true,false,true,true,true,false,false,true,true,false,false,false,false,false,false,false] (KL z)=((N #[true,true,true,false,true,true,true,false,false,true,true,false,false,false,false,false,false,false] (((KL z).mk' 25 (.row 3 .int ([]:List Int))).put 25 (.own 25)))∧(N #[false,true,true,false,true,true,true,false,true,true,true,false,false,false,false,false,false,false] (((KL z).mk' 33 (.row 67 .lit ([]:List zC))).put 33 (.own 33)))):=by kernel_rfl
theorem Ej(z:zJ){K:St→Prop}(hK:yP K)(a:zL .int (([]:List Int).length+((zG .con z.2.1 z.1.toNat).vars).length)=true)(b:zL .int (([]:List Int).length+((zG .con z.2.1 z.1.toNat).consts).length)=true)(c:zL .lit (([]:List zC).length+((zG .con z.2.1 z.1.toNat).lits).length)=true)(hk:K (zV z)):xE K 11 #[false,true,true,false,true,true,true,false,false,true,true,false,false,false,false,false,false,false] (KL z):=zW hK (λ_ _ h=>h) ((zgc z K _).mpr ⟨zD hK _ _ _ _ (zK [1,2,3,4,5,25,26,27,28,29,30,31,32,33,34,35,36,37,38,39] [1,2,3,5,8,25,29,33] (by kernel_rfl)) (K8 z hK a b c hk),zD hK _ _ _ _ (zK [1,2,3,4,5,25,26,27,28,29,30,31,32,33,34,35,36,37,38,39] [1,2,3,5,8,25,29,33] (by kernel_rfl)) (Jc z hK a b c hk)⟩)
theorem zgd(z:zJ)(K:St→Prop)(N:Array Bool→St→Prop):xL K N #[false,true,true,false,true,true,false,false,true,true,true,false,false,false,false,false,false,false] (KM z)=((N #[true,true,true,false,true,true,false,false,true,true,true,false,false,false,false,false,false,false] (((KM z).mk' 25 (.row 3 .int ([]:List Int))).put 25 (.own 25)))∧(N #[false,true,true,false,true,true,true,false,true,true,true,false,false,false,false,false,false,false] ((KM z).put 31 (.sl .int ((zG .con z.2.1 z.1.toNat).consts))))):=by kernel_rfl
theorem Ek(z:zJ){K:St→Prop}(hK:yP K)(a:zL .int (([]:List Int).length+((zG .con z.2.1 z.1.toNat).vars).length)=true)(b:zL .int (([]:List Int).length+((zG .con z.2.1 z.1.toNat).consts).length)=true)(c:zL .lit (([]:List zC).length+((zG .con z.2.1 z.1.toNat).lits).length)=true)(hk:K (zV z)):xE K 11 #[false,true,true,false,true,true,false,false,true,true,true,false,false,false,false,false,false,false] (KM z):=zW hK (λ_ _ h=>h) ((zgd z K _).mpr ⟨zD hK _ _ _ _ (zK [1,2,3,4,5,25,26,27,28,29,30,31,32,33,34,35,36,37,38,39] [1,2,3,5,8,25,29,33] (by kernel_rfl)) (K9 z hK a b c hk),zD hK _ _ _ _ (zK [1,2,3,4,5,25,26,27,28,29,30,31,32,33,34,35,36,37,38,39] [1,2,3,5,8,25,29,33] (by kernel_rfl)) (Jc z hK a b c hk)⟩)
theorem zge(z:zJ)(K:St→Prop)(N:Array Bool→St→Prop):xL K N #[false,true,true,false,false,true,true,false,true,true,true,false,false,false,false,false,false,false] (KN z)=((N #[true,true,true,false,false,true,true,false,true,true,true,false,false,false,false,false,false,false] (((KN z).mk' 25 (.row 3 .int ([]:List Int))).put 25 (.own 25)))∧(N #[false,true,true,false,true,true,true,false,true,true,true,false,false,false,false,false,false,false] (((KN z).mk' 29 (.row 3 .int ([]:List Int))).put 29 (.own 29)))):=by kernel_rfl
theorem El(z:zJ){K:St→Prop}(hK:yP K)(a:zL .int (([]:List Int).length+((zG .con z.2.1 z.1.toNat).vars).length)=true)(b:zL .int (([]:List Int).length+((zG .con z.2.1 z.1.toNat).consts).length)=true)(c:zL .lit (([]:List zC).length+((zG .con z.2.1 z.1.toNat).lits).length)=true)(hk:K (zV z)):xE K 11 #[false,true,true,false,false,true,true,false,true,true,true,false,false,false,false,false,false,false] (KN z):=zW hK (λ_ _ h=>h) ((zge z K _).mpr ⟨zD hK _ _ _ _ (zK [1,2,3,4,5,25,26,27,28,29,30,31,32,33,34,35,36,37,38,39] [1,2,3,5,8,25,29,33] (by kernel_rfl)) (Ja z hK a b c hk),zD hK _ _ _ _ (zK [1,2,3,4,5,25,26,27,28,29,30,31,32,33,34,35,36,37,38,39] [1,2,3,5,8,25,29,33] (by kernel_rfl)) (Jc z hK a b c hk)⟩)
theorem zgf(z:zJ)(K:St→Prop)(N:Array Bool→St→Prop):xL K N #[false,true,false,false,true,true,true,false,true,true,true,false,false,false,false,false,false,false] (KO z)=((N #[true,true,false,false,true,true,true,false,true,true,true,false,false,false,false,false,false,false] (((KO z).mk' 25 (.row 3 .int ([]:List Int))).put 25 (.own 25)))∧(N #[false,true,true,false,true,true,true,false,true,true,true,false,false,false,false,false,false,false] ((KO z).put 27 (.sl .int ((zG .con z.2.1 z.1.toNat).vars))))):=by kernel_rfl
theorem Em(z:zJ){K:St→Prop}(hK:yP K)(a:zL .int (([]:List Int).length+((zG .con z.2.1 z.1.toNat).vars).length)=true)(b:zL .int (([]:List Int).length+((zG .con z.2.1 z.1.toNat).consts).length)=true)(c:zL .lit (([]:List zC).length+((zG .con z.2.1 z.1.toNat).lits).length)=true)(hk:K (zV z)):xE K 11 #[false,true,false,false,true,true,true,false,true,true,true,false,false,false,false,false,false,false] (KO z):=zW hK (λ_ _ h=>h) ((zgf z K _).mpr ⟨zD hK _ _ _ _ (zK [1,2,3,4,5,25,26,27,28,29,30,31,32,33,34,35,36,37,38,39] [1,2,3,5,8,25,29,33] (by kernel_rfl)) (Jb z hK a b c hk),zD hK _ _ _ _ (zK [1,2,3,4,5,25,26,27,28,29,30,31,32,33,34,35,36,37,38,39] [1,2,3,5,8,25,29,33] (by kernel_rfl)) (Jc z hK a b c hk)⟩)
theorem zgg(z:zJ)(K:St→Prop)(N:Array Bool→St→Prop):xL K N #[true,true,true,true,false,true,false,false,false,true,false,false,false,false,false,false,false,false] (S4 z)=((N #[true,true,true,true,true,true,false,false,false,true,false,false,false,false,false,false,false,false] (OI z))∧(N #[true,true,true,true,false,true,true,false,false,true,false,false,false,false,false,false,false,false] (OJ z))∧(N #[true,true,true,true,false,true,false,false,true,true,false,false,false,false,false,false,false,false] (OK z))∧(N #[true,true,true,true,false,true,false,false,false,true,true,false,false,false,false,false,false,false] (OL z))):=by kernel_rfl
theorem zm6(z:zJ){K:St→Prop}(hK:yP K)(a:zL .int (([]:List Int).length+((zG .con z.2.1 z.1.toNat).vars).length)=true)(b:zL .int (([]:List Int).length+((zG .con z.2.1 z.1.toNat).consts).length)=true)(c:zL .lit (([]:List zC).length+((zG .con z.2.1 z.1.toNat).lits).length)=true)(hk:K (zV z)):xE K 12 #[true,true,true,true,false,true,false,false,false,true,false,false,false,false,false,false,false,false] (S4 z):=zW hK (λ_ _ h=>h) ((zgg z K _).mpr ⟨zh2 z hK a b c hk,zh3 z hK a b c hk,zh4 z hK a b c hk,zh5 z hK a b c hk⟩)
theorem zgh(z:zJ)(K:St→Prop)(N:Array Bool→St→Prop):xL K N #[true,true,true,false,true,true,false,false,false,true,false,false,false,false,false,false,false,false] (S5 z)=((zL .int (([]:List Int).length+((zG .con z.2.1 z.1.toNat).vars).length)=true∧N #[true,true,true,true,true,true,false,false,false,true,false,false,false,false,false,false,false,false] (((S5 z).mk' 25 (.row 3 .int (([]:List Int)++((zG .con z.2.1 z.1.toNat).vars)))).put 28 (.own 25)))∧(N #[true,true,true,false,true,true,true,false,false,true,false,false,false,false,false,false,false,false] (OM z))∧(N #[true,true,true,false,true,true,false,false,true,true,false,false,false,false,false,false,false,false] (ON z))∧(N #[true,true,true,false,true,true,false,false,false,true,true,false,false,false,false,false,false,false] (OO z))):=by kernel_rfl
theorem zbO(z:zJ){K:St→Prop}(hK:yP K)(a:zL .int (([]:List Int).length+((zG .con z.2.1 z.1.toNat).vars).length)=true)(b:zL .int (([]:List Int).length+((zG .con z.2.1 z.1.toNat).consts).length)=true)(c:zL .lit (([]:List zC).length+((zG .con z.2.1 z.1.toNat).lits).length)=true)(hk:K (zV z)):xE K 12 #[true,true,true,false,true,true,false,false,false,true,false,false,false,false,false,false,false,false] (S5 z):=zW hK (λ_ _ h=>h) ((zgh z K _).mpr ⟨⟨a,zD hK _ _ _ _ (zK [1,2,3,4,5,25,26,27,28,29,30,31,32,33,34,35,36,37,38,39] [1,2,3,5,8,25,29,33] (by kernel_rfl)) (zh2 z hK a b c hk)⟩,F8 z hK a b c hk,F9 z hK a b c hk,Ea z hK a b c hk⟩)
theorem zgi(z:zJ)(K:St→Prop)(N:Array Bool→St→Prop):xL K N #[true,true,true,false,false,true,true,false,false,true,false,false,false,false,false,false,false,false] (S6 z)=((zL .int (([]:List Int).length+((zG .con z.2.1 z.1.toNat).vars).length)=true∧N #[true,true,true,true,false,true,true,false,false,true,false,false,false,false,false,false,false,false] (((S6 z).mk' 25 (.row 3 .int (([]:List Int)++((zG .con z.2.1 z.1.toNat).vars)))).put 28 (.own 25)))∧(N #[true,true,true,false,true,true,true,false,false,true,false,false,false,false,false,false,false,false] (((S6 z).mk' 29 (.row 3 .int ([]:List Int))).put 29 (.own 29)))∧(N #[true,true,true,false,false,true,true,false,true,true,false,false,false,false,false,false,false,false] (OP z))∧(N #[true,true,true,false,false,true,true,false,false,true,true,false,false,false,false,false,false,false] (OQ z))):=by kernel_rfl
theorem zbP(z:zJ){K:St→Prop}(hK:yP K)(a:zL .int (([]:List Int).length+((zG .con z.2.1 z.1.toNat).vars).length)=true)(b:zL .int (([]:List Int).length+((zG .con z.2.1 z.1.toNat).consts).length)=true)(c:zL .lit (([]:List zC).length+((zG .con z.2.1 z.1.toNat).lits).length)=true)(hk:K (zV z)):xE K 12 #[true,true,true,false,false,true,true,false,false,true,false,false,false,false,false,false,false,false] (S6 z):=zW hK (λ_ _ h=>h) ((zgi z K _).mpr ⟨⟨a,zD hK _ _ _ _ (zK [1,2,3,4,5,25,26,27,28,29,30,31,32,33,34,35,36,37,38,39] [1,2,3,5,8,25,29,33] (by kernel_rfl)) (zh3 z hK a b c hk)⟩,zD hK _ _ _ _ (zK [1,2,3,4,5,25,26,27,28,29,30,31,32,33,34,35,36,37,38,39] [1,2,3,5,8,25,29,33] (by kernel_rfl)) (F8 z hK a b c hk),Eb z hK a b c hk,Ec z hK a b c hk⟩)
theorem zgj(z:zJ)(K:St→Prop)(N:Array Bool→St→Prop):xL K N #[true,true,true,false,false,true,false,false,true,true,false,false,false,false,false,false,false,false] (S7 z)=((zL .int (([]:List Int).length+((zG .con z.2.1 z.1.toNat).vars).length)=true∧N #[true,true,true,true,false,true,false,false,true,true,false,false,false,false,false,false,false,false] (((S7 z).mk' 25 (.row 3 .int (([]:List Int)++((zG .con z.2.1 z.1.toNat).vars)))).put 28 (.own 25)))∧(N #[true,true,true,false,true,true,false,false,true,true,false,false,false,false,false,false,false,false] (((S7 z).mk' 29 (.row 3 .int ([]:List Int))).put 29 (.own 29)))∧(N #[true,true,true,false,false,true,true,false,true,true,false,false,false,false,false,false,false,false] ((S7 z).put 31 (.sl .int ((zG .con z.2.1 z.1.toNat).consts))))∧(N #[true,true,true,false,false,true,false,false,true,true,true,false,false,false,false,false,false,false] (OR z))):=by kernel_rfl
theorem zbQ(z:zJ){K:St→Prop}(hK:yP K)(a:zL .int (([]:List Int).length+((zG .con z.2.1 z.1.toNat).vars).length)=true)(b:zL .int (([]:List Int).length+((zG .con z.2.1 z.1.toNat).consts).length)=true)(c:zL .lit (([]:List zC).length+((zG .con z.2.1 z.1.toNat).lits).length)=true)(hk:K (zV z)):xE K 12 #[true,true,true,false,false,true,false,false,true,true,false,false,false,false,false,false,false,false] (S7 z):=zW hK (λ_ _ h=>h) ((zgj z K _).mpr ⟨⟨a,zD hK _ _ _ _ (zK [1,2,3,4,5,25,26,27,28,29,30,31,32,33,34,35,36,37,38,39] [1,2,3,5,8,25,29,33] (by kernel_rfl)) (zh4 z hK a b c hk)⟩,zD hK _ _ _ _ (zK [1,2,3,4,5,25,26,27,28,29,30,31,32,33,34,35,36,37,38,39] [1,2,3,5,8,25,29,33] (by kernel_rfl)) (F9 z hK a b c hk),zD hK _ _ _ _ (zK [1,2,3,4,5,25,26,27,28,29,30,31,32,33,34,35,36,37,38,39] [1,2,3,5,8,25,29,33] (by kernel_rfl)) (Eb z hK a b c hk),Ed z hK a b c hk⟩)
theorem zgk(z:zJ)(K:St→Prop)(N:Array Bool→St→Prop):xL K N #[true,true,true,false,false,true,false,false,false,true,true,false,false,false,false,false,false,false] (S8 z)=((zL .int (([]:List Int).length+((zG .con z.2.1 z.1.toNat).vars).length)=true∧N #[true,true,true,true,false,true,false,false,false,true,true,false,false,false,false,false,false,false] (((S8 z).mk' 25 (.row 3 .int (([]:List Int)++((zG .con z.2.1 z.1.toNat).vars)))).put 28 (.own 25)))∧(N #[true,true,true,false,true,true,false,false,false,true,true,false,false,false,false,false,false,false] (((S8 z).mk' 29 (.row 3 .int ([]:List Int))).put 29 (.own 29)))∧(N #[true,true,true,false,false,true,true,false,false,true,true,false,false,false,false,false,false,false] ((S8 z).put 31 (.sl .int ((zG .con z.2.1 z.1.toNat).consts))))∧(N #[true,true,true,false,false,true,false,false,true,true,true,false,false,false,false,false,false,false] (((S8 z).mk' 33 (.row 67 .lit ([]:List zC))).put 33 (.own 33)))):=by kernel_rfl
theorem zbR(z:zJ){K:St→Prop}(hK:yP K)(a:zL .int (([]:List Int).length+((zG .con z.2.1 z.1.toNat).vars).length)=true)(b:zL .int (([]:List Int).length+((zG .con z.2.1 z.1.toNat).consts).length)=true)(c:zL .lit (([]:List zC).length+((zG .con z.2.1 z.1.toNat).lits).length)=true)(hk:K (zV z)):xE K 12 #[true,true,true,false,false,true,false,false,false,true,true,false,false,false,false,false,false,false] (S8 z):=zW hK (λ_ _ h=>h) ((zgk z K _).mpr ⟨⟨a,zD hK _ _ _ _ (zK [1,2,3,4,5,25,26,27,28,29,30,31,32,33,34,35,36,37,38,39] [1,2,3,5,8,25,29,33] (by kernel_rfl)) (zh5 z hK a b c hk)⟩,zD hK _ _ _ _ (zK [1,2,3,4,5,25,26,27,28,29,30,31,32,33,34,35,36,37,38,39] [1,2,3,5,8,25,29,33] (by kernel_rfl)) (Ea z hK a b c hk),zD hK _ _ _ _ (zK [1,2,3,4,5,25,26,27,28,29,30,31,32,33,34,35,36,37,38,39] [1,2,3,5,8,25,29,33] (by kernel_rfl)) (Ec z hK a b c hk),zD hK _ _ _ _ (zK [1,2,3,4,5,25,26,27,28,29,30,31,32,33,34,35,36,37,38,39] [1,2,3,5,8,25,29,33] (by kernel_rfl)) (Ed z hK a b c hk)⟩)
theorem zgl(z:zJ)(K:St→Prop)(N:Array Bool→St→Prop):xL K N #[true,true,false,false,true,true,true,false,false,true,false,false,false,false,false,false,false,false] (Oo z)=((N #[true,true,true,false,true,true,true,false,false,true,false,false,false,false,false,false,false,false] ((Oo z).put 27 (.sl .int ((zG .con z.2.1 z.1.toNat).vars))))∧(N #[true,true,false,false,true,true,true,false,true,true,false,false,false,false,false,false,false,false] (KG z))∧(N #[true,true,false,false,true,true,true,false,false,true,true,false,false,false,false,false,false,false] (KH z))):=by kernel_rfl
theorem zbS(z:zJ){K:St→Prop}(hK:yP K)(a:zL .int (([]:List Int).length+((zG .con z.2.1 z.1.toNat).vars).length)=true)(b:zL .int (([]:List Int).length+((zG .con z.2.1 z.1.toNat).consts).length)=true)(c:zL .lit (([]:List zC).length+((zG .con z.2.1 z.1.toNat).lits).length)=true)(hk:K (zV z)):xE K 12 #[true,true,false,false,true,true,true,false,false,true,false,false,false,false,false,false,false,false] (Oo z):=zW hK (λ_ _ h=>h) ((zgl z K _).mpr ⟨zD hK _ _ _ _ (zK [1,2,3,4,5,25,26,27,28,29,30,31,32,33,34,35,36,37,38,39] [1,2,3,5,8,25,29,33] (by kernel_rfl)) (F8 z hK a b c hk),Ee z hK a b c hk,Ef z hK a b c hk⟩)
theorem zgm(z:zJ)(K:St→Prop)(N:Array Bool→St→Prop):xL K N #[true,true,false,false,true,true,false,false,true,true,false,false,false,false,false,false,false,false] (Oq z)=((N #[true,true,true,false,true,true,false,false,true,true,false,false,false,false,false,false,false,false] ((Oq z).put 27 (.sl .int ((zG .con z.2.1 z.1.toNat).vars))))∧(N #[true,true,false,false,true,true,true,false,true,true,false,false,false,false,false,false,false,false] ((Oq z).put 31 (.sl .int ((zG .con z.2.1 z.1.toNat).consts))))∧(N #[true,true,false,false,true,true,false,false,true,true,true,false,false,false,false,false,false,false] (KI z))):=by kernel_rfl
theorem zbT(z:zJ){K:St→Prop}(hK:yP K)(a:zL .int (([]:List Int).length+((zG .con z.2.1 z.1.toNat).vars).length)=true)(b:zL .int (([]:List Int).length+((zG .con z.2.1 z.1.toNat).consts).length)=true)(c:zL .lit (([]:List zC).length+((zG .con z.2.1 z.1.toNat).lits).length)=true)(hk:K (zV z)):xE K 12 #[true,true,false,false,true,true,false,false,true,true,false,false,false,false,false,false,false,false] (Oq z):=zW hK (λ_ _ h=>h) ((zgm z K _).mpr ⟨zD hK _ _ _ _ (zK [1,2,3,4,5,25,26,27,28,29,30,31,32,33,34,35,36,37,38,39] [1,2,3,5,8,25,29,33] (by kernel_rfl)) (F9 z hK a b c hk),zD hK _ _ _ _ (zK [1,2,3,4,5,25,26,27,28,29,30,31,32,33,34,35,36,37,38,39] [1,2,3,5,8,25,29,33] (by kernel_rfl)) (Ee z hK a b c hk),Eg z hK a b c hk⟩)
theorem zgn(z:zJ)(K:St→Prop)(N:Array Bool→St→Prop):xL K N #[true,true,false,false,true,true,false,false,false,true,true,false,false,false,false,false,false,false] (Ot z)=((N #[true,true,true,false,true,true,false,false,false,true,true,false,false,false,false,false,false,false] ((Ot z).put 27 (.sl .int ((zG .con z.2.1 z.1.toNat).vars))))∧(N #[true,true,false,false,true,true,true,false,false,true,true,false,false,false,false,false,false,false] ((Ot z).put 31 (.sl .int ((zG .con z.2.1 z.1.toNat).consts))))∧(N #[true,true,false,false,true,true,false,false,true,true,true,false,false,false,false,false,false,false] (((Ot z).mk' 33 (.row 67 .lit ([]:List zC))).put 33 (.own 33)))):=by kernel_rfl
theorem zbU(z:zJ){K:St→Prop}(hK:yP K)(a:zL .int (([]:List Int).length+((zG .con z.2.1 z.1.toNat).vars).length)=true)(b:zL .int (([]:List Int).length+((zG .con z.2.1 z.1.toNat).consts).length)=true)(c:zL .lit (([]:List zC).length+((zG .con z.2.1 z.1.toNat).lits).length)=true)(hk:K (zV z)):xE K 12 #[true,true,false,false,true,true,false,false,false,true,true,false,false,false,false,false,false,false] (Ot z):=zW hK (λ_ _ h=>h) ((zgn z K _).mpr ⟨zD hK _ _ _ _ (zK [1,2,3,4,5,25,26,27,28,29,30,31,32,33,34,35,36,37,38,39] [1,2,3,5,8,25,29,33] (by kernel_rfl)) (Ea z hK a b c hk),zD hK _ _ _ _ (zK [1,2,3,4,5,25,26,27,28,29,30,31,32,33,34,35,36,37,38,39] [1,2,3,5,8,25,29,33] (by kernel_rfl)) (Ef z hK a b c hk),zD hK _ _ _ _ (zK [1,2,3,4,5,25,26,27,28,29,30,31,32,33,34,35,36,37,38,39] [1,2,3,5,8,25,29,33] (by kernel_rfl)) (Eg z hK a b c hk)⟩)
theorem zgo(z:zJ)(K:St→Prop)(N:Array Bool→St→Prop):xL K N #[true,true,false,false,false,true,true,false,true,true,false,false,false,false,false,false,false,false] (Ou z)=((N #[true,true,true,false,false,true,true,false,true,true,false,false,false,false,false,false,false,false] ((Ou z).put 27 (.sl .int ((zG .con z.2.1 z.1.toNat).vars))))∧(N #[true,true,false,false,true,true,true,false,true,true,false,false,false,false,false,false,false,false] (((Ou z).mk' 29 (.row 3 .int ([]:List Int))).put 29 (.own 29)))∧(N #[true,true,false,false,false,true,true,false,true,true,true,false,false,false,false,false,false,false] (KJ z))):=by kernel_rfl
theorem zbV(z:zJ){K:St→Prop}(hK:yP K)(a:zL .int (([]:List Int).length+((zG .con z.2.1 z.1.toNat).vars).length)=true)(b:zL .int (([]:List Int).length+((zG .con z.2.1 z.1.toNat).consts).length)=true)(c:zL .lit (([]:List zC).length+((zG .con z.2.1 z.1.toNat).lits).length)=true)(hk:K (zV z)):xE K 12 #[true,true,false,false,false,true,true,false,true,true,false,false,false,false,false,false,false,false] (Ou z):=zW hK (λ_ _ h=>h) ((zgo z K _).mpr ⟨zD hK _ _ _ _ (zK [1,2,3,4,5,25,26,27,28,29,30,31,32,33,34,35,36,37,38,39] [1,2,3,5,8,25,29,33] (by kernel_rfl)) (Eb z hK a b c hk),zD hK _ _ _ _ (zK [1,2,3,4,5,25,26,27,28,29,30,31,32,33,34,35,36,37,38,39] [1,2,3,5,8,25,29,33] (by kernel_rfl)) (Ee z hK a b c hk),Eh z hK a b c hk⟩)
theorem zgp(z:zJ)(K:St→Prop)(N:Array Bool→St→Prop):xL K N #[true,true,false,false,false,true,true,false,false,true,true,false,false,false,false,false,false,false] (Ov z)=((N #[true,true,true,false,false,true,true,false,false,true,true,false,false,false,false,false,false,false] ((Ov z).put 27 (.sl .int ((zG .con z.2.1 z.1.toNat).vars))))∧(N #[true,true,false,false,true,true,true,false,false,true,true,false,false,false,false,false,false,false] (((Ov z).mk' 29 (.row 3 .int ([]:List Int))).put 29 (.own 29)))∧(N #[true,true,false,false,false,true,true,false,true,true,true,false,false,false,false,false,false,false] (((Ov z).mk' 33 (.row 67 .lit ([]:List zC))).put 33 (.own 33)))):=by kernel_rfl
theorem zbW(z:zJ){K:St→Prop}(hK:yP K)(a:zL .int (([]:List Int).length+((zG .con z.2.1 z.1.toNat).vars).length)=true)(b:zL .int (([]:List Int).length+((zG .con z.2.1 z.1.toNat).consts).length)=true)(c:zL .lit (([]:List zC).length+((zG .con z.2.1 z.1.toNat).lits).length)=true)(hk:K (zV z)):xE K 12 #[true,true,false,false,false,true,true,false,false,true,true,false,false,false,false,false,false,false] (Ov z):=zW hK (λ_ _ h=>h) ((zgp z K _).mpr ⟨zD hK _ _ _ _ (zK [1,2,3,4,5,25,26,27,28,29,30,31,32,33,34,35,36,37,38,39] [1,2,3,5,8,25,29,33] (by kernel_rfl)) (Ec z hK a b c hk),zD hK _ _ _ _ (zK [1,2,3,4,5,25,26,27,28,29,30,31,32,33,34,35,36,37,38,39] [1,2,3,5,8,25,29,33] (by kernel_rfl)) (Ef z hK a b c hk),zD hK _ _ _ _ (zK [1,2,3,4,5,25,26,27,28,29,30,31,32,33,34,35,36,37,38,39] [1,2,3,5,8,25,29,33] (by kernel_rfl)) (Eh z hK a b c hk)⟩)
theorem zgq(z:zJ)(K:St→Prop)(N:Array Bool→St→Prop):xL K N #[true,true,false,false,false,true,false,false,true,true,true,false,false,false,false,false,false,false] (Ow z)=((N #[true,true,true,false,false,true,false,false,true,true,true,false,false,false,false,false,false,false] ((Ow z).put 27 (.sl .int ((zG .con z.2.1 z.1.toNat).vars))))∧(N #[true,true,false,false,true,true,false,false,true,true,true,false,false,false,false,false,false,false] (((Ow z).mk' 29 (.row 3 .int ([]:List Int))).put 29 (.own 29)))∧(N #[true,true,false,false,false,true,true,false,true,true,true,false,false,false,false,false,false,false] ((Ow z).put 31 (.sl .int ((zG .con z.2.1 z.1.toNat).consts))))):=by kernel_rfl
theorem zbX(z:zJ){K:St→Prop}(hK:yP K)(a:zL .int (([]:List Int).length+((zG .con z.2.1 z.1.toNat).vars).length)=true)(b:zL .int (([]:List Int).length+((zG .con z.2.1 z.1.toNat).consts).length)=true)(c:zL .lit (([]:List zC).length+((zG .con z.2.1 z.1.toNat).lits).length)=true)(hk:K (zV z)):xE K 12 #[true,true,false,false,false,true,false,false,true,true,true,false,false,false,false,false,false,false] (Ow z):=zW hK (λ_ _ h=>h) ((zgq z K _).mpr ⟨zD hK _ _ _ _ (zK [1,2,3,4,5,25,26,27,28,29,30,31,32,33,34,35,36,37,38,39] [1,2,3,5,8,25,29,33] (by kernel_rfl)) (Ed z hK a b c hk),zD hK _ _ _ _ (zK [1,2,3,4,5,25,26,27,28,29,30,31,32,33,34,35,36,37,38,39] [1,2,3,5,8,25,29,33] (by kernel_rfl)) (Eg z hK a b c hk),zD hK _ _ _ _ (zK [1,2,3,4,5,25,26,27,28,29,30,31,32,33,34,35,36,37,38,39] [1,2,3,5,8,25,29,33] (by kernel_rfl)) (Eh z hK a b c hk)⟩)
theorem zgr(z:zJ)(K:St→Prop)(N:Array Bool→St→Prop):xL K N #[false,true,true,false,true,true,true,false,false,true,false,false,false,false,false,false,false,false] (Ox z)=((N #[true,true,true,false,true,true,true,false,false,true,false,false,false,false,false,false,false,false] (((Ox z).mk' 25 (.row 3 .int ([]:List Int))).put 25 (.own 25)))∧(N #[false,true,true,false,true,true,true,false,true,true,false,false,false,false,false,false,false,false] (KK z))∧(N #[false,true,true,false,true,true,true,false,false,true,true,false,false,false,false,false,false,false] (KL z))):=by kernel_rfl
theorem zbY(z:zJ){K:St→Prop}(hK:yP K)(a:zL .int (([]:List Int).length+((zG .con z.2.1 z.1.toNat).vars).length)=true)(b:zL .int (([]:List Int).length+((zG .con z.2.1 z.1.toNat).consts).length)=true)(c:zL .lit (([]:List zC).length+((zG .con z.2.1 z.1.toNat).lits).length)=true)(hk:K (zV z)):xE K 12 #[false,true,true,false,true,true,true,false,false,true,false,false,false,false,false,false,false,false] (Ox z):=zW hK (λ_ _ h=>h) ((zgr z K _).mpr ⟨zD hK _ _ _ _ (zK [1,2,3,4,5,25,26,27,28,29,30,31,32,33,34,35,36,37,38,39] [1,2,3,5,8,25,29,33] (by kernel_rfl)) (F8 z hK a b c hk),Ei z hK a b c hk,Ej z hK a b c hk⟩)
theorem zgs(z:zJ)(K:St→Prop)(N:Array Bool→St→Prop):xL K N #[false,true,true,false,true,true,false,false,true,true,false,false,false,false,false,false,false,false] (Oy z)=((N #[true,true,true,false,true,true,false,false,true,true,false,false,false,false,false,false,false,false] (((Oy z).mk' 25 (.row 3 .int ([]:List Int))).put 25 (.own 25)))∧(N #[false,true,true,false,true,true,true,false,true,true,false,false,false,false,false,false,false,false] ((Oy z).put 31 (.sl .int ((zG .con z.2.1 z.1.toNat).consts))))∧(N #[false,true,true,false,true,true,false,false,true,true,true,false,false,false,false,false,false,false] (KM z))):=by kernel_rfl
theorem zbZ(z:zJ){K:St→Prop}(hK:yP K)(a:zL .int (([]:List Int).length+((zG .con z.2.1 z.1.toNat).vars).length)=true)(b:zL .int (([]:List Int).length+((zG .con z.2.1 z.1.toNat).consts).length)=true)(c:zL .lit (([]:List zC).length+((zG .con z.2.1 z.1.toNat).lits).length)=true)(hk:K (zV z)):xE K 12 #[false,true,true,false,true,true,false,false,true,true,false,false,false,false,false,false,false,false] (Oy z):=zW hK (λ_ _ h=>h) ((zgs z K _).mpr ⟨zD hK _ _ _ _ (zK [1,2,3,4,5,25,26,27,28,29,30,31,32,33,34,35,36,37,38,39] [1,2,3,5,8,25,29,33] (by kernel_rfl)) (F9 z hK a b c hk),zD hK _ _ _ _ (zK [1,2,3,4,5,25,26,27,28,29,30,31,32,33,34,35,36,37,38,39] [1,2,3,5,8,25,29,33] (by kernel_rfl)) (Ei z hK a b c hk),Ek z hK a b c hk⟩)
theorem zgt(z:zJ)(K:St→Prop)(N:Array Bool→St→Prop):xL K N #[false,true,true,false,true,true,false,false,false,true,true,false,false,false,false,false,false,false] (Oz z)=((N #[true,true,true,false,true,true,false,false,false,true,true,false,false,false,false,false,false,false] (((Oz z).mk' 25 (.row 3 .int ([]:List Int))).put 25 (.own 25)))∧(N #[false,true,true,false,true,true,true,false,false,true,true,false,false,false,false,false,false,false] ((Oz z).put 31 (.sl .int ((zG .con z.2.1 z.1.toNat).consts))))∧(N #[false,true,true,false,true,true,false,false,true,true,true,false,false,false,false,false,false,false] (((Oz z).mk' 33 (.row 67 .lit ([]:List zC))).put 33 (.own 33)))):=by kernel_rfl
theorem zb0(z:zJ){K:St→Prop}(hK:yP K)(a:zL .int (([]:List Int).length+((zG .con z.2.1 z.1.toNat).vars).length)=true)(b:zL .int (([]:List Int).length+((zG .con z.2.1 z.1.toNat).consts).length)=true)(c:zL .lit (([]:List zC).length+((zG .con z.2.1 z.1.toNat).lits).length)=true)(hk:K (zV z)):xE K 12 #[false,true,true,false,true,true,false,false,false,true,true,false,false,false,false,false,false,false] (Oz z):=zW hK (λ_ _ h=>h) ((zgt z K _).mpr ⟨zD hK _ _ _ _ (zK [1,2,3,4,5,25,26,27,28,29,30,31,32,33,34,35,36,37,38,39] [1,2,3,5,8,25,29,33] (by kernel_rfl)) (Ea z hK a b c hk),zD hK _ _ _ _ (zK [1,2,3,4,5,25,26,27,28,29,30,31,32,33,34,35,36,37,38,39] [1,2,3,5,8,25,29,33] (by kernel_rfl)) (Ej z hK a b c hk),zD hK _ _ _ _ (zK [1,2,3,4,5,25,26,27,28,29,30,31,32,33,34,35,36,37,38,39] [1,2,3,5,8,25,29,33] (by kernel_rfl)) (Ek z hK a b c hk)⟩)
theorem zgu(z:zJ)(K:St→Prop)(N:Array Bool→St→Prop):xL K N #[false,true,true,false,false,true,true,false,true,true,false,false,false,false,false,false,false,false] (OA z)=((N #[true,true,true,false,false,true,true,false,true,true,false,false,false,false,false,false,false,false] (((OA z).mk' 25 (.row 3 .int ([]:List Int))).put 25 (.own 25)))∧(N #[false,true,true,false,true,true,true,false,true,true,false,false,false,false,false,false,false,false] (((OA z).mk' 29 (.row 3 .int ([]:List Int))).put 29 (.own 29)))∧(N #[false,true,true,false,false,true,true,false,true,true,true,false,false,false,false,false,false,false] (KN z))):=by kernel_rfl
theorem zb1(z:zJ){K:St→Prop}(hK:yP K)(a:zL .int (([]:List Int).length+((zG .con z.2.1 z.1.toNat).vars).length)=true)(b:zL .int (([]:List Int).length+((zG .con z.2.1 z.1.toNat).consts).length)=true)(c:zL .lit (([]:List zC).length+((zG .con z.2.1 z.1.toNat).lits).length)=true)(hk:K (zV z)):xE K 12 #[false,true,true,false,false,true,true,false,true,true,false,false,false,false,false,false,false,false] (OA z):=zW hK (λ_ _ h=>h) ((zgu z K _).mpr ⟨zD hK _ _ _ _ (zK [1,2,3,4,5,25,26,27,28,29,30,31,32,33,34,35,36,37,38,39] [1,2,3,5,8,25,29,33] (by kernel_rfl)) (Eb z hK a b c hk),zD hK _ _ _ _ (zK [1,2,3,4,5,25,26,27,28,29,30,31,32,33,34,35,36,37,38,39] [1,2,3,5,8,25,29,33] (by kernel_rfl)) (Ei z hK a b c hk),El z hK a b c hk⟩)
theorem zgv(z:zJ)(K:St→Prop)(N:Array Bool→St→Prop):xL K N #[false,true,true,false,false,true,true,false,false,true,true,false,false,false,false,false,false,false] (OB z)=((N #[true,true,true,false,false,true,true,false,false,true,true,false,false,false,false,false,false,false] (((OB z).mk' 25 (.row 3 .int ([]:List Int))).put 25 (.own 25)))∧(N #[false,true,true,false,true,true,true,false,false,true,true,false,false,false,false,false,false,false] (((OB z).mk' 29 (.row 3 .int ([]:List Int))).put 29 (.own 29)))∧(N #[false,true,true,false,false,true,true,false,true,true,true,false,false,false,false,false,false,false] (((OB z).mk' 33 (.row 67 .lit ([]:List zC))).put 33 (.own 33)))):=by kernel_rfl
theorem zb2(z:zJ){K:St→Prop}(hK:yP K)(a:zL .int (([]:List Int).length+((zG .con z.2.1 z.1.toNat).vars).length)=true)(b:zL .int (([]:List Int).length+((zG .con z.2.1 z.1.toNat).consts).length)=true)(c:zL .lit (([]:List zC).length+((zG .con z.2.1 z.1.toNat).lits).length)=true)(hk:K (zV z)):xE K 12 #[false,true,true,false,false,true,true,false,false,true,true,false,false,false,false,false,false,false] (OB z):=zW hK (λ_ _ h=>h) ((zgv z K _).mpr ⟨zD hK _ _ _ _ (zK [1,2,3,4,5,25,26,27,28,29,30,31,32,33,34,35,36,37,38,39] [1,2,3,5,8,25,29,33] (by kernel_rfl)) (Ec z hK a b c hk),zD hK _ _ _ _ (zK [1,2,3,4,5,25,26,27,28,29,30,31,32,33,34,35,36,37,38,39] [1,2,3,5,8,25,29,33] (by kernel_rfl)) (Ej z hK a b c hk),zD hK _ _ _ _ (zK [1,2,3,4,5,25,26,27,28,29,30,31,32,33,34,35,36,37,38,39] [1,2,3,5,8,25,29,33] (by kernel_rfl)) (El z hK a b c hk)⟩)
theorem zgw(z:zJ)(K:St→Prop)(N:Array Bool→St→Prop):xL K N #[false,true,true,false,false,true,false,false,true,true,true,false,false,false,false,false,false,false] (OC z)=((N #[true,true,true,false,false,true,false,false,true,true,true,false,false,false,false,false,false,false] (((OC z).mk' 25 (.row 3 .int ([]:List Int))).put 25 (.own 25)))∧(N #[false,true,true,false,true,true,false,false,true,true,true,false,false,false,false,false,false,false] (((OC z).mk' 29 (.row 3 .int ([]:List Int))).put 29 (.own 29)))∧(N #[false,true,true,false,false,true,true,false,true,true,true,false,false,false,false,false,false,false] ((OC z).put 31 (.sl .int ((zG .con z.2.1 z.1.toNat).consts))))):=by kernel_rfl
theorem zb3(z:zJ){K:St→Prop}(hK:yP K)(a:zL .int (([]:List Int).length+((zG .con z.2.1 z.1.toNat).vars).length)=true)(b:zL .int (([]:List Int).length+((zG .con z.2.1 z.1.toNat).consts).length)=true)(c:zL .lit (([]:List zC).length+((zG .con z.2.1 z.1.toNat).lits).length)=true)(hk:K (zV z)):xE K 12 #[false,true,true,false,false,true,false,false,true,true,true,false,false,false,false,false,false,false] (OC z):=zW hK (λ_ _ h=>h) ((zgw z K _).mpr ⟨zD hK _ _ _ _ (zK [1,2,3,4,5,25,26,27,28,29,30,31,32,33,34,35,36,37,38,39] [1,2,3,5,8,25,29,33] (by kernel_rfl)) (Ed z hK a b c hk),zD hK _ _ _ _ (zK [1,2,3,4,5,25,26,27,28,29,30,31,32,33,34,35,36,37,38,39] [1,2,3,5,8,25,29,33] (by kernel_rfl)) (Ek z hK a b c hk),zD hK _ _ _ _ (zK [1,2,3,4,5,25,26,27,28,29,30,31,32,33,34,35,36,37,38,39] [1,2,3,5,8,25,29,33] (by kernel_rfl)) (El z hK a b c hk)⟩)
theorem zgx(z:zJ)(K:St→Prop)(N:Array Bool→St→Prop):xL K N #[false,true,false,false,true,true,true,false,true,true,false,false,false,false,false,false,false,false] (OD z)=((N #[true,true,false,false,true,true,true,false,true,true,false,false,false,false,false,false,false,false] (((OD z).mk' 25 (.row 3 .int ([]:List Int))).put 25 (.own 25)))∧(N #[false,true,true,false,true,true,true,false,true,true,false,false,false,false,false,false,false,false] ((OD z).put 27 (.sl .int ((zG .con z.2.1 z.1.toNat).vars))))∧(N #[false,true,false,false,true,true,true,false,true,true,true,false,false,false,false,false,false,false] (KO z))):=by kernel_rfl
theorem zb4(z:zJ){K:St→Prop}(hK:yP K)(a:zL .int (([]:List Int).length+((zG .con z.2.1 z.1.toNat).vars).length)=true)(b:zL .int (([]:List Int).length+((zG .con z.2.1 z.1.toNat).consts).length)=true)(c:zL .lit (([]:List zC).length+((zG .con z.2.1 z.1.toNat).lits).length)=true)(hk:K (zV z)):xE K 12 #[false,true,false,false,true,true,true,false,true,true,false,false,false,false,false,false,false,false] (OD z):=zW hK (λ_ _ h=>h) ((zgx z K _).mpr ⟨zD hK _ _ _ _ (zK [1,2,3,4,5,25,26,27,28,29,30,31,32,33,34,35,36,37,38,39] [1,2,3,5,8,25,29,33] (by kernel_rfl)) (Ee z hK a b c hk),zD hK _ _ _ _ (zK [1,2,3,4,5,25,26,27,28,29,30,31,32,33,34,35,36,37,38,39] [1,2,3,5,8,25,29,33] (by kernel_rfl)) (Ei z hK a b c hk),Em z hK a b c hk⟩)
theorem zgy(z:zJ)(K:St→Prop)(N:Array Bool→St→Prop):xL K N #[false,true,false,false,true,true,true,false,false,true,true,false,false,false,false,false,false,false] (OE z)=((N #[true,true,false,false,true,true,true,false,false,true,true,false,false,false,false,false,false,false] (((OE z).mk' 25 (.row 3 .int ([]:List Int))).put 25 (.own 25)))∧(N #[false,true,true,false,true,true,true,false,false,true,true,false,false,false,false,false,false,false] ((OE z).put 27 (.sl .int ((zG .con z.2.1 z.1.toNat).vars))))∧(N #[false,true,false,false,true,true,true,false,true,true,true,false,false,false,false,false,false,false] (((OE z).mk' 33 (.row 67 .lit ([]:List zC))).put 33 (.own 33)))):=by kernel_rfl
theorem zb5(z:zJ){K:St→Prop}(hK:yP K)(a:zL .int (([]:List Int).length+((zG .con z.2.1 z.1.toNat).vars).length)=true)(b:zL .int (([]:List Int).length+((zG .con z.2.1 z.1.toNat).consts).length)=true)(c:zL .lit (([]:List zC).length+((zG .con z.2.1 z.1.toNat).lits).length)=true)(hk:K (zV z)):xE K 12 #[false,true,false,false,true,true,true,false,false,true,true,false,false,false,false,false,false,false] (OE z):=zW hK (λ_ _ h=>h) ((zgy z K _).mpr ⟨zD hK _ _ _ _ (zK [1,2,3,4,5,25,26,27,28,29,30,31,32,33,34,35,36,37,38,39] [1,2,3,5,8,25,29,33] (by kernel_rfl)) (Ef z hK a b c hk),zD hK _ _ _ _ (zK [1,2,3,4,5,25,26,27,28,29,30,31,32,33,34,35,36,37,38,39] [1,2,3,5,8,25,29,33] (by kernel_rfl)) (Ej z hK a b c hk),zD hK _ _ _ _ (zK [1,2,3,4,5,25,26,27,28,29,30,31,32,33,34,35,36,37,38,39] [1,2,3,5,8,25,29,33] (by kernel_rfl)) (Em z hK a b c hk)⟩)
theorem zgz(z:zJ)(K:St→Prop)(N:Array Bool→St→Prop):xL K N #[false,true,false,false,true,true,false,false,true,true,true,false,false,false,false,false,false,false] (OG z)=((N #[true,true,false,false,true,true,false,false,true,true,true,false,false,false,false,false,false,false] (((OG z).mk' 25 (.row 3 .int ([]:List Int))).put 25 (.own 25)))∧(N #[false,true,true,false,true,true,false,false,true,true,true,false,false,false,false,false,false,false] ((OG z).put 27 (.sl .int ((zG .con z.2.1 z.1.toNat).vars))))∧(N #[false,true,false,false,true,true,true,false,true,true,true,false,false,false,false,false,false,false] ((OG z).put 31 (.sl .int ((zG .con z.2.1 z.1.toNat).consts))))):=by kernel_rfl
theorem zb6(z:zJ){K:St→Prop}(hK:yP K)(a:zL .int (([]:List Int).length+((zG .con z.2.1 z.1.toNat).vars).length)=true)(b:zL .int (([]:List Int).length+((zG .con z.2.1 z.1.toNat).consts).length)=true)(c:zL .lit (([]:List zC).length+((zG .con z.2.1 z.1.toNat).lits).length)=true)(hk:K (zV z)):xE K 12 #[false,true,false,false,true,true,false,false,true,true,true,false,false,false,false,false,false,false] (OG z):=zW hK (λ_ _ h=>h) ((zgz z K _).mpr ⟨zD hK _ _ _ _ (zK [1,2,3,4,5,25,26,27,28,29,30,31,32,33,34,35,36,37,38,39] [1,2,3,5,8,25,29,33] (by kernel_rfl)) (Eg z hK a b c hk),zD hK _ _ _ _ (zK [1,2,3,4,5,25,26,27,28,29,30,31,32,33,34,35,36,37,38,39] [1,2,3,5,8,25,29,33] (by kernel_rfl)) (Ek z hK a b c hk),zD hK _ _ _ _ (zK [1,2,3,4,5,25,26,27,28,29,30,31,32,33,34,35,36,37,38,39] [1,2,3,5,8,25,29,33] (by kernel_rfl)) (Em z hK a b c hk)⟩)
theorem zgA(z:zJ)(K:St→Prop)(N:Array Bool→St→Prop):xL K N #[false,true,false,false,false,true,true,false,true,true,true,false,false,false,false,false,false,false] (OH z)=((N #[true,true,false,false,false,true,true,false,true,true,true,false,false,false,false,false,false,false] (((OH z).mk' 25 (.row 3 .int ([]:List Int))).put 25 (.own 25)))∧(N #[false,true,true,false,false,true,true,false,true,true,true,false,false,false,false,false,false,false] ((OH z).put 27 (.sl .int ((zG .con z.2.1 z.1.toNat).vars))))∧(N #[false,true,false,false,true,true,true,false,true,true,true,false,false,false,false,false,false,false] (((OH z).mk' 29 (.row 3 .int ([]:List Int))).put 29 (.own 29)))):=by kernel_rfl
theorem zb7(z:zJ){K:St→Prop}(hK:yP K)(a:zL .int (([]:List Int).length+((zG .con z.2.1 z.1.toNat).vars).length)=true)(b:zL .int (([]:List Int).length+((zG .con z.2.1 z.1.toNat).consts).length)=true)(c:zL .lit (([]:List zC).length+((zG .con z.2.1 z.1.toNat).lits).length)=true)(hk:K (zV z)):xE K 12 #[false,true,false,false,false,true,true,false,true,true,true,false,false,false,false,false,false,false] (OH z):=zW hK (λ_ _ h=>h) ((zgA z K _).mpr ⟨zD hK _ _ _ _ (zK [1,2,3,4,5,25,26,27,28,29,30,31,32,33,34,35,36,37,38,39] [1,2,3,5,8,25,29,33] (by kernel_rfl)) (Eh z hK a b c hk),zD hK _ _ _ _ (zK [1,2,3,4,5,25,26,27,28,29,30,31,32,33,34,35,36,37,38,39] [1,2,3,5,8,25,29,33] (by kernel_rfl)) (El z hK a b c hk),zD hK _ _ _ _ (zK [1,2,3,4,5,25,26,27,28,29,30,31,32,33,34,35,36,37,38,39] [1,2,3,5,8,25,29,33] (by kernel_rfl)) (Em z hK a b c hk)⟩)
theorem zju(z:zJ)(K:St→Prop)(N:Array Bool→St→Prop):xL K N #[true,true,true,false,false,true,false,false,false,true,false,false,false,false,false,false,false,false] (PR z)=((zL .int (([]:List Int).length+((zG .con z.2.1 z.1.toNat).vars).length)=true∧N #[true,true,true,true,false,true,false,false,false,true,false,false,false,false,false,false,false,false] (S4 z))∧(N #[true,true,true,false,true,true,false,false,false,true,false,false,false,false,false,false,false,false] (S5 z))∧(N #[true,true,true,false,false,true,true,false,false,true,false,false,false,false,false,false,false,false] (S6 z))∧(N #[true,true,true,false,false,true,false,false,true,true,false,false,false,false,false,false,false,false] (S7 z))∧(N #[true,true,true,false,false,true,false,false,false,true,true,false,false,false,false,false,false,false] (S8 z))):=by kernel_rfl
theorem zlD(z:zJ){K:St→Prop}(hK:yP K)(a:zL .int (([]:List Int).length+((zG .con z.2.1 z.1.toNat).vars).length)=true)(b:zL .int (([]:List Int).length+((zG .con z.2.1 z.1.toNat).consts).length)=true)(c:zL .lit (([]:List zC).length+((zG .con z.2.1 z.1.toNat).lits).length)=true)(hk:K (zV z)):xE K 13 #[true,true,true,false,false,true,false,false,false,true,false,false,false,false,false,false,false,false] (PR z):=zW hK (λ_ _ h=>h) ((zju z K _).mpr ⟨⟨a,zm6 z hK a b c hk⟩,zbO z hK a b c hk,zbP z hK a b c hk,zbQ z hK a b c hk,zbR z hK a b c hk⟩)
theorem zjv(z:zJ)(K:St→Prop)(N:Array Bool→St→Prop):xL K N #[true,true,false,false,true,true,false,false,false,true,false,false,false,false,false,false,false,false] (MW z)=((N #[true,true,true,false,true,true,false,false,false,true,false,false,false,false,false,false,false,false] ((MW z).put 27 (.sl .int ((zG .con z.2.1 z.1.toNat).vars))))∧(N #[true,true,false,false,true,true,true,false,false,true,false,false,false,false,false,false,false,false] (Oo z))∧(N #[true,true,false,false,true,true,false,false,true,true,false,false,false,false,false,false,false,false] (Oq z))∧(N #[true,true,false,false,true,true,false,false,false,true,true,false,false,false,false,false,false,false] (Ot z))):=by kernel_rfl
theorem zlE(z:zJ){K:St→Prop}(hK:yP K)(a:zL .int (([]:List Int).length+((zG .con z.2.1 z.1.toNat).vars).length)=true)(b:zL .int (([]:List Int).length+((zG .con z.2.1 z.1.toNat).consts).length)=true)(c:zL .lit (([]:List zC).length+((zG .con z.2.1 z.1.toNat).lits).length)=true)(hk:K (zV z)):xE K 13 #[true,true,false,false,true,true,false,false,false,true,false,false,false,false,false,false,false,false] (MW z):=zW hK (λ_ _ h=>h) ((zjv z K _).mpr ⟨zD hK _ _ _ _ (zK [1,2,3,4,5,25,26,27,28,29,30,31,32,33,34,35,36,37,38,39] [1,2,3,5,8,25,29,33] (by kernel_rfl)) (zbO z hK a b c hk),zbS z hK a b c hk,zbT z hK a b c hk,zbU z hK a b c hk⟩)
theorem zjw(z:zJ)(K:St→Prop)(N:Array Bool→St→Prop):xL K N #[true,true,false,false,false,true,true,false,false,true,false,false,false,false,false,false,false,false] (MX z)=((N #[true,true,true,false,false,true,true,false,false,true,false,false,false,false,false,false,false,false] ((MX z).put 27 (.sl .int ((zG .con z.2.1 z.1.toNat).vars))))∧(N #[true,true,false,false,true,true,true,false,false,true,false,false,false,false,false,false,false,false] (((MX z).mk' 29 (.row 3 .int ([]:List Int))).put 29 (.own 29)))∧(N #[true,true,false,false,false,true,true,false,true,true,false,false,false,false,false,false,false,false] (Ou z))∧(N #[true,true,false,false,false,true,true,false,false,true,true,false,false,false,false,false,false,false] (Ov z))):=by kernel_rfl
theorem zlF(z:zJ){K:St→Prop}(hK:yP K)(a:zL .int (([]:List Int).length+((zG .con z.2.1 z.1.toNat).vars).length)=true)(b:zL .int (([]:List Int).length+((zG .con z.2.1 z.1.toNat).consts).length)=true)(c:zL .lit (([]:List zC).length+((zG .con z.2.1 z.1.toNat).lits).length)=true)(hk:K (zV z)):xE K 13 #[true,true,false,false,false,true,true,false,false,true,false,false,false,false,false,false,false,false] (MX z):=zW hK (λ_ _ h=>h) ((zjw z K _).mpr ⟨zD hK _ _ _ _ (zK [1,2,3,4,5,25,26,27,28,29,30,31,32,33,34,35,36,37,38,39] [1,2,3,5,8,25,29,33] (by kernel_rfl)) (zbP z hK a b c hk),zD hK _ _ _ _ (zK [1,2,3,4,5,25,26,27,28,29,30,31,32,33,34,35,36,37,38,39] [1,2,3,5,8,25,29,33] (by kernel_rfl)) (zbS z hK a b c hk),zbV z hK a b c hk,zbW z hK a b c hk⟩)
theorem zgB(z:zJ)(K:St→Prop)(N:Array Bool→St→Prop):xL K N #[true,true,false,false,false,true,false,false,true,true,false,false,false,false,false,false,false,false] (SQ z)=((N #[true,true,true,false,false,true,false,false,true,true,false,false,false,false,false,false,false,false] ((SQ z).put 27 (.sl .int ((zG .con z.2.1 z.1.toNat).vars))))∧(N #[true,true,false,false,true,true,false,false,true,true,false,false,false,false,false,false,false,false] (((SQ z).mk' 29 (.row 3 .int ([]:List Int))).put 29 (.own 29)))∧(N #[true,true,false,false,false,true,true,false,true,true,false,false,false,false,false,false,false,false] ((SQ z).put 31 (.sl .int ((zG .con z.2.1 z.1.toNat).consts))))∧(N #[true,true,false,false,false,true,false,false,true,true,true,false,false,false,false,false,false,false] (Ow z))):=by kernel_rfl
theorem zh6(z:zJ){K:St→Prop}(hK:yP K)(a:zL .int (([]:List Int).length+((zG .con z.2.1 z.1.toNat).vars).length)=true)(b:zL .int (([]:List Int).length+((zG .con z.2.1 z.1.toNat).consts).length)=true)(c:zL .lit (([]:List zC).length+((zG .con z.2.1 z.1.toNat).lits).length)=true)(hk:K (zV z)):xE K 13 #[true,true,false,false,false,true,false,false,true,true,false,false,false,false,false,false,false,false] (SQ z):=zW hK (λ_ _ h=>h) ((zgB z K _).mpr ⟨zD hK _ _ _ _ (zK [1,2,3,4,5,25,26,27,28,29,30,31,32,33,34,35,36,37,38,39] [1,2,3,5,8,25,29,33] (by kernel_rfl)) (zbQ z hK a b c hk),zD hK _ _ _ _ (zK [1,2,3,4,5,25,26,27,28,29,30,31,32,33,34,35,36,37,38,39] [1,2,3,5,8,25,29,33] (by kernel_rfl)) (zbT z hK a b c hk),zD hK _ _ _ _ (zK [1,2,3,4,5,25,26,27,28,29,30,31,32,33,34,35,36,37,38,39] [1,2,3,5,8,25,29,33] (by kernel_rfl)) (zbV z hK a b c hk),zbX z hK a b c hk⟩)
theorem zgC(z:zJ)(K:St→Prop)(N:Array Bool→St→Prop):xL K N #[true,true,false,false,false,true,false,false,false,true,true,false,false,false,false,false,false,false] (SR z)=((N #[true,true,true,false,false,true,false,false,false,true,true,false,false,false,false,false,false,false] ((SR z).put 27 (.sl .int ((zG .con z.2.1 z.1.toNat).vars))))∧(N #[true,true,false,false,true,true,false,false,false,true,true,false,false,false,false,false,false,false] (((SR z).mk' 29 (.row 3 .int ([]:List Int))).put 29 (.own 29)))∧(N #[true,true,false,false,false,true,true,false,false,true,true,false,false,false,false,false,false,false] ((SR z).put 31 (.sl .int ((zG .con z.2.1 z.1.toNat).consts))))∧(N #[true,true,false,false,false,true,false,false,true,true,true,false,false,false,false,false,false,false] (((SR z).mk' 33 (.row 67 .lit ([]:List zC))).put 33 (.own 33)))):=by kernel_rfl
theorem zh7(z:zJ){K:St→Prop}(hK:yP K)(a:zL .int (([]:List Int).length+((zG .con z.2.1 z.1.toNat).vars).length)=true)(b:zL .int (([]:List Int).length+((zG .con z.2.1 z.1.toNat).consts).length)=true)(c:zL .lit (([]:List zC).length+((zG .con z.2.1 z.1.toNat).lits).length)=true)(hk:K (zV z)):xE K 13 #[true,true,false,false,false,true,false,false,false,true,true,false,false,false,false,false,false,false] (SR z):=zW hK (λ_ _ h=>h) ((zgC z K _).mpr ⟨zD hK _ _ _ _ (zK [1,2,3,4,5,25,26,27,28,29,30,31,32,33,34,35,36,37,38,39] [1,2,3,5,8,25,29,33] (by kernel_rfl)) (zbR z hK a b c hk),zD hK _ _ _ _ (zK [1,2,3,4,5,25,26,27,28,29,30,31,32,33,34,35,36,37,38,39] [1,2,3,5,8,25,29,33] (by kernel_rfl)) (zbU z hK a b c hk),zD hK _ _ _ _ (zK [1,2,3,4,5,25,26,27,28,29,30,31,32,33,34,35,36,37,38,39] [1,2,3,5,8,25,29,33] (by kernel_rfl)) (zbW z hK a b c hk),zD hK _ _ _ _ (zK [1,2,3,4,5,25,26,27,28,29,30,31,32,33,34,35,36,37,38,39] [1,2,3,5,8,25,29,33] (by kernel_rfl)) (zbX z hK a b c hk)⟩)
theorem zgD(z:zJ)(K:St→Prop)(N:Array Bool→St→Prop):xL K N #[false,true,true,false,true,true,false,false,false,true,false,false,false,false,false,false,false,false] (SS z)=((N #[true,true,true,false,true,true,false,false,false,true,false,false,false,false,false,false,false,false] (((SS z).mk' 25 (.row 3 .int ([]:List Int))).put 25 (.own 25)))∧(N #[false,true,true,false,true,true,true,false,false,true,false,false,false,false,false,false,false,false] (Ox z))∧(N #[false,true,true,false,true,true,false,false,true,true,false,false,false,false,false,false,false,false] (Oy z))∧(N #[false,true,true,false,true,true,false,false,false,true,true,false,false,false,false,false,false,false] (Oz z))):=by kernel_rfl
theorem zh8(z:zJ){K:St→Prop}(hK:yP K)(a:zL .int (([]:List Int).length+((zG .con z.2.1 z.1.toNat).vars).length)=true)(b:zL .int (([]:List Int).length+((zG .con z.2.1 z.1.toNat).consts).length)=true)(c:zL .lit (([]:List zC).length+((zG .con z.2.1 z.1.toNat).lits).length)=true)(hk:K (zV z)):xE K 13 #[false,true,true,false,true,true,false,false,false,true,false,false,false,false,false,false,false,false] (SS z):=zW hK (λ_ _ h=>h) ((zgD z K _).mpr ⟨zD hK _ _ _ _ (zK [1,2,3,4,5,25,26,27,28,29,30,31,32,33,34,35,36,37,38,39] [1,2,3,5,8,25,29,33] (by kernel_rfl)) (zbO z hK a b c hk),zbY z hK a b c hk,zbZ z hK a b c hk,zb0 z hK a b c hk⟩)
theorem zgE(z:zJ)(K:St→Prop)(N:Array Bool→St→Prop):xL K N #[false,true,true,false,false,true,true,false,false,true,false,false,false,false,false,false,false,false] (ST z)=((N #[true,true,true,false,false,true,true,false,false,true,false,false,false,false,false,false,false,false] (((ST z).mk' 25 (.row 3 .int ([]:List Int))).put 25 (.own 25)))∧(N #[false,true,true,false,true,true,true,false,false,true,false,false,false,false,false,false,false,false] (((ST z).mk' 29 (.row 3 .int ([]:List Int))).put 29 (.own 29)))∧(N #[false,true,true,false,false,true,true,false,true,true,false,false,false,false,false,false,false,false] (OA z))∧(N #[false,true,true,false,false,true,true,false,false,true,true,false,false,false,false,false,false,false] (OB z))):=by kernel_rfl
theorem zh9(z:zJ){K:St→Prop}(hK:yP K)(a:zL .int (([]:List Int).length+((zG .con z.2.1 z.1.toNat).vars).length)=true)(b:zL .int (([]:List Int).length+((zG .con z.2.1 z.1.toNat).consts).length)=true)(c:zL .lit (([]:List zC).length+((zG .con z.2.1 z.1.toNat).lits).length)=true)(hk:K (zV z)):xE K 13 #[false,true,true,false,false,true,true,false,false,true,false,false,false,false,false,false,false,false] (ST z):=zW hK (λ_ _ h=>h) ((zgE z K _).mpr ⟨zD hK _ _ _ _ (zK [1,2,3,4,5,25,26,27,28,29,30,31,32,33,34,35,36,37,38,39] [1,2,3,5,8,25,29,33] (by kernel_rfl)) (zbP z hK a b c hk),zD hK _ _ _ _ (zK [1,2,3,4,5,25,26,27,28,29,30,31,32,33,34,35,36,37,38,39] [1,2,3,5,8,25,29,33] (by kernel_rfl)) (zbY z hK a b c hk),zb1 z hK a b c hk,zb2 z hK a b c hk⟩)
theorem zgF(z:zJ)(K:St→Prop)(N:Array Bool→St→Prop):xL K N #[false,true,true,false,false,true,false,false,true,true,false,false,false,false,false,false,false,false] (SU z)=((N #[true,true,true,false,false,true,false,false,true,true,false,false,false,false,false,false,false,false] (((SU z).mk' 25 (.row 3 .int ([]:List Int))).put 25 (.own 25)))∧(N #[false,true,true,false,true,true,false,false,true,true,false,false,false,false,false,false,false,false] (((SU z).mk' 29 (.row 3 .int ([]:List Int))).put 29 (.own 29)))∧(N #[false,true,true,false,false,true,true,false,true,true,false,false,false,false,false,false,false,false] ((SU z).put 31 (.sl .int ((zG .con z.2.1 z.1.toNat).consts))))∧(N #[false,true,true,false,false,true,false,false,true,true,true,false,false,false,false,false,false,false] (OC z))):=by kernel_rfl
theorem zia(z:zJ){K:St→Prop}(hK:yP K)(a:zL .int (([]:List Int).length+((zG .con z.2.1 z.1.toNat).vars).length)=true)(b:zL .int (([]:List Int).length+((zG .con z.2.1 z.1.toNat).consts).length)=true)(c:zL .lit (([]:List zC).length+((zG .con z.2.1 z.1.toNat).lits).length)=true)(hk:K (zV z)):xE K 13 #[false,true,true,false,false,true,false,false,true,true,false,false,false,false,false,false,false,false] (SU z):=zW hK (λ_ _ h=>h) ((zgF z K _).mpr ⟨zD hK _ _ _ _ (zK [1,2,3,4,5,25,26,27,28,29,30,31,32,33,34,35,36,37,38,39] [1,2,3,5,8,25,29,33] (by kernel_rfl)) (zbQ z hK a b c hk),zD hK _ _ _ _ (zK [1,2,3,4,5,25,26,27,28,29,30,31,32,33,34,35,36,37,38,39] [1,2,3,5,8,25,29,33] (by kernel_rfl)) (zbZ z hK a b c hk),zD hK _ _ _ _ (zK [1,2,3,4,5,25,26,27,28,29,30,31,32,33,34,35,36,37,38,39] [1,2,3,5,8,25,29,33] (by kernel_rfl)) (zb1 z hK a b c hk),zb3 z hK a b c hk⟩)
theorem zgG(z:zJ)(K:St→Prop)(N:Array Bool→St→Prop):xL K N #[false,true,true,false,false,true,false,false,false,true,true,false,false,false,false,false,false,false] (SV z)=((N #[true,true,true,false,false,true,false,false,false,true,true,false,false,false,false,false,false,false] (((SV z).mk' 25 (.row 3 .int ([]:List Int))).put 25 (.own 25)))∧(N #[false,true,true,false,true,true,false,false,false,true,true,false,false,false,false,false,false,false] (((SV z).mk' 29 (.row 3 .int ([]:List Int))).put 29 (.own 29)))∧(N #[false,true,true,false,false,true,true,false,false,true,true,false,false,false,false,false,false,false] ((SV z).put 31 (.sl .int ((zG .con z.2.1 z.1.toNat).consts))))∧(N #[false,true,true,false,false,true,false,false,true,true,true,false,false,false,false,false,false,false] (((SV z).mk' 33 (.row 67 .lit ([]:List zC))).put 33 (.own 33)))):=by kernel_rfl
theorem zib(z:zJ){K:St→Prop}(hK:yP K)(a:zL .int (([]:List Int).length+((zG .con z.2.1 z.1.toNat).vars).length)=true)(b:zL .int (([]:List Int).length+((zG .con z.2.1 z.1.toNat).consts).length)=true)(c:zL .lit (([]:List zC).length+((zG .con z.2.1 z.1.toNat).lits).length)=true)(hk:K (zV z)):xE K 13 #[false,true,true,false,false,true,false,false,false,true,true,false,false,false,false,false,false,false] (SV z):=zW hK (λ_ _ h=>h) ((zgG z K _).mpr ⟨zD hK _ _ _ _ (zK [1,2,3,4,5,25,26,27,28,29,30,31,32,33,34,35,36,37,38,39] [1,2,3,5,8,25,29,33] (by kernel_rfl)) (zbR z hK a b c hk),zD hK _ _ _ _ (zK [1,2,3,4,5,25,26,27,28,29,30,31,32,33,34,35,36,37,38,39] [1,2,3,5,8,25,29,33] (by kernel_rfl)) (zb0 z hK a b c hk),zD hK _ _ _ _ (zK [1,2,3,4,5,25,26,27,28,29,30,31,32,33,34,35,36,37,38,39] [1,2,3,5,8,25,29,33] (by kernel_rfl)) (zb2 z hK a b c hk),zD hK _ _ _ _ (zK [1,2,3,4,5,25,26,27,28,29,30,31,32,33,34,35,36,37,38,39] [1,2,3,5,8,25,29,33] (by kernel_rfl)) (zb3 z hK a b c hk)⟩)
theorem zgH(z:zJ)(K:St→Prop)(N:Array Bool→St→Prop):xL K N #[false,true,false,false,true,true,true,false,false,true,false,false,false,false,false,false,false,false] (SW z)=((N #[true,true,false,false,true,true,true,false,false,true,false,false,false,false,false,false,false,false] (((SW z).mk' 25 (.row 3 .int ([]:List Int))).put 25 (.own 25)))∧(N #[false,true,true,false,true,true,true,false,false,true,false,false,false,false,false,false,false,false] ((SW z).put 27 (.sl .int ((zG .con z.2.1 z.1.toNat).vars))))∧(N #[false,true,false,false,true,true,true,false,true,true,false,false,false,false,false,false,false,false] (OD z))∧(N #[false,true,false,false,true,true,true,false,false,true,true,false,false,false,false,false,false,false] (OE z))):=by kernel_rfl
theorem zic(z:zJ){K:St→Prop}(hK:yP K)(a:zL .int (([]:List Int).length+((zG .con z.2.1 z.1.toNat).vars).length)=true)(b:zL .int (([]:List Int).length+((zG .con z.2.1 z.1.toNat).consts).length)=true)(c:zL .lit (([]:List zC).length+((zG .con z.2.1 z.1.toNat).lits).length)=true)(hk:K (zV z)):xE K 13 #[false,true,false,false,true,true,true,false,false,true,false,false,false,false,false,false,false,false] (SW z):=zW hK (λ_ _ h=>h) ((zgH z K _).mpr ⟨zD hK _ _ _ _ (zK [1,2,3,4,5,25,26,27,28,29,30,31,32,33,34,35,36,37,38,39] [1,2,3,5,8,25,29,33] (by kernel_rfl)) (zbS z hK a b c hk),zD hK _ _ _ _ (zK [1,2,3,4,5,25,26,27,28,29,30,31,32,33,34,35,36,37,38,39] [1,2,3,5,8,25,29,33] (by kernel_rfl)) (zbY z hK a b c hk),zb4 z hK a b c hk,zb5 z hK a b c hk⟩)
theorem zgI(z:zJ)(K:St→Prop)(N:Array Bool→St→Prop):xL K N #[false,true,false,false,true,true,false,false,true,true,false,false,false,false,false,false,false,false] (SX z)=((N #[true,true,false,false,true,true,false,false,true,true,false,false,false,false,false,false,false,false] (((SX z).mk' 25 (.row 3 .int ([]:List Int))).put 25 (.own 25)))∧(N #[false,true,true,false,true,true,false,false,true,true,false,false,false,false,false,false,false,false] ((SX z).put 27 (.sl .int ((zG .con z.2.1 z.1.toNat).vars))))∧(N #[false,true,false,false,true,true,true,false,true,true,false,false,false,false,false,false,false,false] ((SX z).put 31 (.sl .int ((zG .con z.2.1 z.1.toNat).consts))))∧(N #[false,true,false,false,true,true,false,false,true,true,true,false,false,false,false,false,false,false] (OG z))):=by kernel_rfl
theorem zid(z:zJ){K:St→Prop}(hK:yP K)(a:zL .int (([]:List Int).length+((zG .con z.2.1 z.1.toNat).vars).length)=true)(b:zL .int (([]:List Int).length+((zG .con z.2.1 z.1.toNat).consts).length)=true)(c:zL .lit (([]:List zC).length+((zG .con z.2.1 z.1.toNat).lits).length)=true)(hk:K (zV z)):xE K 13 #[false,true,false,false,true,true,false,false,true,true,false,false,false,false,false,false,false,false] (SX z):=zW hK (λ_ _ h=>h) ((zgI z K _).mpr ⟨zD hK _ _ _ _ (zK [1,2,3,4,5,25,26,27,28,29,30,31,32,33,34,35,36,37,38,39] [1,2,3,5,8,25,29,33] (by kernel_rfl)) (zbT z hK a b c hk),zD hK _ _ _ _ (zK [1,2,3,4,5,25,26,27,28,29,30,31,32,33,34,35,36,37,38,39] [1,2,3,5,8,25,29,33] (by kernel_rfl)) (zbZ z hK a b c hk),zD hK _ _ _ _ (zK [1,2,3,4,5,25,26,27,28,29,30,31,32,33,34,35,36,37,38,39] [1,2,3,5,8,25,29,33] (by kernel_rfl)) (zb4 z hK a b c hk),zb6 z hK a b c hk⟩)
theorem zgJ(z:zJ)(K:St→Prop)(N:Array Bool→St→Prop):xL K N #[false,true,false,false,true,true,false,false,false,true,true,false,false,false,false,false,false,false] (SY z)=((N #[true,true,false,false,true,true,false,false,false,true,true,false,false,false,false,false,false,false] (((SY z).mk' 25 (.row 3 .int ([]:List Int))).put 25 (.own 25)))∧(N #[false,true,true,false,true,true,false,false,false,true,true,false,false,false,false,false,false,false] ((SY z).put 27 (.sl .int ((zG .con z.2.1 z.1.toNat).vars))))∧(N #[false,true,false,false,true,true,true,false,false,true,true,false,false,false,false,false,false,false] ((SY z).put 31 (.sl .int ((zG .con z.2.1 z.1.toNat).consts))))∧(N #[false,true,false,false,true,true,false,false,true,true,true,false,false,false,false,false,false,false] (((SY z).mk' 33 (.row 67 .lit ([]:List zC))).put 33 (.own 33)))):=by kernel_rfl
theorem zie(z:zJ){K:St→Prop}(hK:yP K)(a:zL .int (([]:List Int).length+((zG .con z.2.1 z.1.toNat).vars).length)=true)(b:zL .int (([]:List Int).length+((zG .con z.2.1 z.1.toNat).consts).length)=true)(c:zL .lit (([]:List zC).length+((zG .con z.2.1 z.1.toNat).lits).length)=true)(hk:K (zV z)):xE K 13 #[false,true,false,false,true,true,false,false,false,true,true,false,false,false,false,false,false,false] (SY z):=zW hK (λ_ _ h=>h) ((zgJ z K _).mpr ⟨zD hK _ _ _ _ (zK [1,2,3,4,5,25,26,27,28,29,30,31,32,33,34,35,36,37,38,39] [1,2,3,5,8,25,29,33] (by kernel_rfl)) (zbU z hK a b c hk),zD hK _ _ _ _ (zK [1,2,3,4,5,25,26,27,28,29,30,31,32,33,34,35,36,37,38,39] [1,2,3,5,8,25,29,33] (by kernel_rfl)) (zb0 z hK a b c hk),zD hK _ _ _ _ (zK [1,2,3,4,5,25,26,27,28,29,30,31,32,33,34,35,36,37,38,39] [1,2,3,5,8,25,29,33] (by kernel_rfl)) (zb5 z hK a b c hk),zD hK _ _ _ _ (zK [1,2,3,4,5,25,26,27,28,29,30,31,32,33,34,35,36,37,38,39] [1,2,3,5,8,25,29,33] (by kernel_rfl)) (zb6 z hK a b c hk)⟩)
theorem zgK(z:zJ)(K:St→Prop)(N:Array Bool→St→Prop):xL K N #[false,true,false,false,false,true,true,false,true,true,false,false,false,false,false,false,false,false] (SZ z)=((N #[true,true,false,false,false,true,true,false,true,true,false,false,false,false,false,false,false,false] (((SZ z).mk' 25 (.row 3 .int ([]:List Int))).put 25 (.own 25)))∧(N #[false,true,true,false,false,true,true,false,true,true,false,false,false,false,false,false,false,false] ((SZ z).put 27 (.sl .int ((zG .con z.2.1 z.1.toNat).vars))))∧(N #[false,true,false,false,true,true,true,false,true,true,false,false,false,false,false,false,false,false] (((SZ z).mk' 29 (.row 3 .int ([]:List Int))).put 29 (.own 29)))∧(N #[false,true,false,false,false,true,true,false,true,true,true,false,false,false,false,false,false,false] (OH z))):=by kernel_rfl
theorem zif(z:zJ){K:St→Prop}(hK:yP K)(a:zL .int (([]:List Int).length+((zG .con z.2.1 z.1.toNat).vars).length)=true)(b:zL .int (([]:List Int).length+((zG .con z.2.1 z.1.toNat).consts).length)=true)(c:zL .lit (([]:List zC).length+((zG .con z.2.1 z.1.toNat).lits).length)=true)(hk:K (zV z)):xE K 13 #[false,true,false,false,false,true,true,false,true,true,false,false,false,false,false,false,false,false] (SZ z):=zW hK (λ_ _ h=>h) ((zgK z K _).mpr ⟨zD hK _ _ _ _ (zK [1,2,3,4,5,25,26,27,28,29,30,31,32,33,34,35,36,37,38,39] [1,2,3,5,8,25,29,33] (by kernel_rfl)) (zbV z hK a b c hk),zD hK _ _ _ _ (zK [1,2,3,4,5,25,26,27,28,29,30,31,32,33,34,35,36,37,38,39] [1,2,3,5,8,25,29,33] (by kernel_rfl)) (zb1 z hK a b c hk),zD hK _ _ _ _ (zK [1,2,3,4,5,25,26,27,28,29,30,31,32,33,34,35,36,37,38,39] [1,2,3,5,8,25,29,33] (by kernel_rfl)) (zb4 z hK a b c hk),zb7 z hK a b c hk⟩)
theorem zgL(z:zJ)(K:St→Prop)(N:Array Bool→St→Prop):xL K N #[false,true,false,false,false,true,true,false,false,true,true,false,false,false,false,false,false,false] (S0 z)=((N #[true,true,false,false,false,true,true,false,false,true,true,false,false,false,false,false,false,false] (((S0 z).mk' 25 (.row 3 .int ([]:List Int))).put 25 (.own 25)))∧(N #[false,true,true,false,false,true,true,false,false,true,true,false,false,false,false,false,false,false] ((S0 z).put 27 (.sl .int ((zG .con z.2.1 z.1.toNat).vars))))∧(N #[false,true,false,false,true,true,true,false,false,true,true,false,false,false,false,false,false,false] (((S0 z).mk' 29 (.row 3 .int ([]:List Int))).put 29 (.own 29)))∧(N #[false,true,false,false,false,true,true,false,true,true,true,false,false,false,false,false,false,false] (((S0 z).mk' 33 (.row 67 .lit ([]:List zC))).put 33 (.own 33)))):=by kernel_rfl
theorem zig(z:zJ){K:St→Prop}(hK:yP K)(a:zL .int (([]:List Int).length+((zG .con z.2.1 z.1.toNat).vars).length)=true)(b:zL .int (([]:List Int).length+((zG .con z.2.1 z.1.toNat).consts).length)=true)(c:zL .lit (([]:List zC).length+((zG .con z.2.1 z.1.toNat).lits).length)=true)(hk:K (zV z)):xE K 13 #[false,true,false,false,false,true,true,false,false,true,true,false,false,false,false,false,false,false] (S0 z):=zW hK (λ_ _ h=>h) ((zgL z K _).mpr ⟨zD hK _ _ _ _ (zK [1,2,3,4,5,25,26,27,28,29,30,31,32,33,34,35,36,37,38,39] [1,2,3,5,8,25,29,33] (by kernel_rfl)) (zbW z hK a b c hk),zD hK _ _ _ _ (zK [1,2,3,4,5,25,26,27,28,29,30,31,32,33,34,35,36,37,38,39] [1,2,3,5,8,25,29,33] (by kernel_rfl)) (zb2 z hK a b c hk),zD hK _ _ _ _ (zK [1,2,3,4,5,25,26,27,28,29,30,31,32,33,34,35,36,37,38,39] [1,2,3,5,8,25,29,33] (by kernel_rfl)) (zb5 z hK a b c hk),zD hK _ _ _ _ (zK [1,2,3,4,5,25,26,27,28,29,30,31,32,33,34,35,36,37,38,39] [1,2,3,5,8,25,29,33] (by kernel_rfl)) (zb7 z hK a b c hk)⟩)
theorem zgM(z:zJ)(K:St→Prop)(N:Array Bool→St→Prop):xL K N #[false,true,false,false,false,true,false,false,true,true,true,false,false,false,false,false,false,false] (S3 z)=((N #[true,true,false,false,false,true,false,false,true,true,true,false,false,false,false,false,false,false] (((S3 z).mk' 25 (.row 3 .int ([]:List Int))).put 25 (.own 25)))∧(N #[false,true,true,false,false,true,false,false,true,true,true,false,false,false,false,false,false,false] ((S3 z).put 27 (.sl .int ((zG .con z.2.1 z.1.toNat).vars))))∧(N #[false,true,false,false,true,true,false,false,true,true,true,false,false,false,false,false,false,false] (((S3 z).mk' 29 (.row 3 .int ([]:List Int))).put 29 (.own 29)))∧(N #[false,true,false,false,false,true,true,false,true,true,true,false,false,false,false,false,false,false] ((S3 z).put 31 (.sl .int ((zG .con z.2.1 z.1.toNat).consts))))):=by kernel_rfl
theorem zih(z:zJ){K:St→Prop}(hK:yP K)(a:zL .int (([]:List Int).length+((zG .con z.2.1 z.1.toNat).vars).length)=true)(b:zL .int (([]:List Int).length+((zG .con z.2.1 z.1.toNat).consts).length)=true)(c:zL .lit (([]:List zC).length+((zG .con z.2.1 z.1.toNat).lits).length)=true)(hk:K (zV z)):xE K 13 #[false,true,false,false,false,true,false,false,true,true,true,false,false,false,false,false,false,false] (S3 z):=zW hK (λ_ _ h=>h) ((zgM z K _).mpr ⟨zD hK _ _ _ _ (zK [1,2,3,4,5,25,26,27,28,29,30,31,32,33,34,35,36,37,38,39] [1,2,3,5,8,25,29,33] (by kernel_rfl)) (zbX z hK a b c hk),zD hK _ _ _ _ (zK [1,2,3,4,5,25,26,27,28,29,30,31,32,33,34,35,36,37,38,39] [1,2,3,5,8,25,29,33] (by kernel_rfl)) (zb3 z hK a b c hk),zD hK _ _ _ _ (zK [1,2,3,4,5,25,26,27,28,29,30,31,32,33,34,35,36,37,38,39] [1,2,3,5,8,25,29,33] (by kernel_rfl)) (zb6 z hK a b c hk),zD hK _ _ _ _ (zK [1,2,3,4,5,25,26,27,28,29,30,31,32,33,34,35,36,37,38,39] [1,2,3,5,8,25,29,33] (by kernel_rfl)) (zb7 z hK a b c hk)⟩)
theorem zjx(z:zJ)(K:St→Prop)(N:Array Bool→St→Prop):xL K N #[true,true,false,false,false,true,false,false,false,true,false,false,false,false,false,false,false,false] (PL z)=((N #[true,true,true,false,false,true,false,false,false,true,false,false,false,false,false,false,false,false] (PR z))∧(N #[true,true,false,false,true,true,false,false,false,true,false,false,false,false,false,false,false,false] (MW z))∧(N #[true,true,false,false,false,true,true,false,false,true,false,false,false,false,false,false,false,false] (MX z))∧(N #[true,true,false,false,false,true,false,false,true,true,false,false,false,false,false,false,false,false] (SQ z))∧(N #[true,true,false,false,false,true,false,false,false,true,true,false,false,false,false,false,false,false] (SR z))):=by kernel_rfl
theorem zoc(z:zJ){K:St→Prop}(hK:yP K)(a:zL .int (([]:List Int).length+((zG .con z.2.1 z.1.toNat).vars).length)=true)(b:zL .int (([]:List Int).length+((zG .con z.2.1 z.1.toNat).consts).length)=true)(c:zL .lit (([]:List zC).length+((zG .con z.2.1 z.1.toNat).lits).length)=true)(hk:K (zV z)):xE K 14 #[true,true,false,false,false,true,false,false,false,true,false,false,false,false,false,false,false,false] (PL z):=zW hK (λ_ _ h=>h) ((zjx z K _).mpr ⟨zlD z hK a b c hk,zlE z hK a b c hk,zlF z hK a b c hk,zh6 z hK a b c hk,zh7 z hK a b c hk⟩)
theorem zjy(z:zJ)(K:St→Prop)(N:Array Bool→St→Prop):xL K N #[false,true,true,false,false,true,false,false,false,true,false,false,false,false,false,false,false,false] (PM z)=((N #[true,true,true,false,false,true,false,false,false,true,false,false,false,false,false,false,false,false] (((PM z).mk' 25 (.row 3 .int ([]:List Int))).put 25 (.own 25)))∧(N #[false,true,true,false,true,true,false,false,false,true,false,false,false,false,false,false,false,false] (SS z))∧(N #[false,true,true,false,false,true,true,false,false,true,false,false,false,false,false,false,false,false] (ST z))∧(N #[false,true,true,false,false,true,false,false,true,true,false,false,false,false,false,false,false,false] (SU z))∧(N #[false,true,true,false,false,true,false,false,false,true,true,false,false,false,false,false,false,false] (SV z))):=by kernel_rfl
theorem zod(z:zJ){K:St→Prop}(hK:yP K)(a:zL .int (([]:List Int).length+((zG .con z.2.1 z.1.toNat).vars).length)=true)(b:zL .int (([]:List Int).length+((zG .con z.2.1 z.1.toNat).consts).length)=true)(c:zL .lit (([]:List zC).length+((zG .con z.2.1 z.1.toNat).lits).length)=true)(hk:K (zV z)):xE K 14 #[false,true,true,false,false,true,false,false,false,true,false,false,false,false,false,false,false,false] (PM z):=zW hK (λ_ _ h=>h) ((zjy z K _).mpr ⟨zD hK _ _ _ _ (zK [1,2,3,4,5,25,26,27,28,29,30,31,32,33,34,35,36,37,38,39] [1,2,3,5,8,25,29,33] (by kernel_rfl)) (zlD z hK a b c hk),zh8 z hK a b c hk,zh9 z hK a b c hk,zia z hK a b c hk,zib z hK a b c hk⟩)
theorem zjz(z:zJ)(K:St→Prop)(N:Array Bool→St→Prop):xL K N #[false,true,false,false,true,true,false,false,false,true,false,false,false,false,false,false,false,false] (PN z)=((N #[true,true,false,false,true,true,false,false,false,true,false,false,false,false,false,false,false,false] (((PN z).mk' 25 (.row 3 .int ([]:List Int))).put 25 (.own 25)))∧(N #[false,true,true,false,true,true,false,false,false,true,false,false,false,false,false,false,false,false] ((PN z).put 27 (.sl .int ((zG .con z.2.1 z.1.toNat).vars))))∧(N #[false,true,false,false,true,true,true,false,false,true,false,false,false,false,false,false,false,false] (SW z))∧(N #[false,true,false,false,true,true,false,false,true,true,false,false,false,false,false,false,false,false] (SX z))∧(N #[false,true,false,false,true,true,false,false,false,true,true,false,false,false,false,false,false,false] (SY z))):=by kernel_rfl
theorem zoe(z:zJ){K:St→Prop}(hK:yP K)(a:zL .int (([]:List Int).length+((zG .con z.2.1 z.1.toNat).vars).length)=true)(b:zL .int (([]:List Int).length+((zG .con z.2.1 z.1.toNat).consts).length)=true)(c:zL .lit (([]:List zC).length+((zG .con z.2.1 z.1.toNat).lits).length)=true)(hk:K (zV z)):xE K 14 #[false,true,false,false,true,true,false,false,false,true,false,false,false,false,false,false,false,false] (PN z):=zW hK (λ_ _ h=>h) ((zjz z K _).mpr ⟨zD hK _ _ _ _ (zK [1,2,3,4,5,25,26,27,28,29,30,31,32,33,34,35,36,37,38,39] [1,2,3,5,8,25,29,33] (by kernel_rfl)) (zlE z hK a b c hk),zD hK _ _ _ _ (zK [1,2,3,4,5,25,26,27,28,29,30,31,32,33,34,35,36,37,38,39] [1,2,3,5,8,25,29,33] (by kernel_rfl)) (zh8 z hK a b c hk),zic z hK a b c hk,zid z hK a b c hk,zie z hK a b c hk⟩)
theorem zjA(z:zJ)(K:St→Prop)(N:Array Bool→St→Prop):xL K N #[false,true,false,false,false,true,true,false,false,true,false,false,false,false,false,false,false,false] (PO z)=((N #[true,true,false,false,false,true,true,false,false,true,false,false,false,false,false,false,false,false] (((PO z).mk' 25 (.row 3 .int ([]:List Int))).put 25 (.own 25)))∧(N #[false,true,true,false,false,true,true,false,false,true,false,false,false,false,false,false,false,false] ((PO z).put 27 (.sl .int ((zG .con z.2.1 z.1.toNat).vars))))∧(N #[false,true,false,false,true,true,true,false,false,true,false,false,false,false,false,false,false,false] (((PO z).mk' 29 (.row 3 .int ([]:List Int))).put 29 (.own 29)))∧(N #[false,true,false,false,false,true,true,false,true,true,false,false,false,false,false,false,false,false] (SZ z))∧(N #[false,true,false,false,false,true,true,false,false,true,true,false,false,false,false,false,false,false] (S0 z))):=by kernel_rfl
theorem zof(z:zJ){K:St→Prop}(hK:yP K)(a:zL .int (([]:List Int).length+((zG .con z.2.1 z.1.toNat).vars).length)=true)(b:zL .int (([]:List Int).length+((zG .con z.2.1 z.1.toNat).consts).length)=true)(c:zL .lit (([]:List zC).length+((zG .con z.2.1 z.1.toNat).lits).length)=true)(hk:K (zV z)):xE K 14 #[false,true,false,false,false,true,true,false,false,true,false,false,false,false,false,false,false,false] (PO z):=zW hK (λ_ _ h=>h) ((zjA z K _).mpr ⟨zD hK _ _ _ _ (zK [1,2,3,4,5,25,26,27,28,29,30,31,32,33,34,35,36,37,38,39] [1,2,3,5,8,25,29,33] (by kernel_rfl)) (zlF z hK a b c hk),zD hK _ _ _ _ (zK [1,2,3,4,5,25,26,27,28,29,30,31,32,33,34,35,36,37,38,39] [1,2,3,5,8,25,29,33] (by kernel_rfl)) (zh9 z hK a b c hk),zD hK _ _ _ _ (zK [1,2,3,4,5,25,26,27,28,29,30,31,32,33,34,35,36,37,38,39] [1,2,3,5,8,25,29,33] (by kernel_rfl)) (zic z hK a b c hk),zif z hK a b c hk,zig z hK a b c hk⟩)
theorem zjB(z:zJ)(K:St→Prop)(N:Array Bool→St→Prop):xL K N #[false,true,false,false,false,true,false,false,true,true,false,false,false,false,false,false,false,false] (PP z)=((N #[true,true,false,false,false,true,false,false,true,true,false,false,false,false,false,false,false,false] (((PP z).mk' 25 (.row 3 .int ([]:List Int))).put 25 (.own 25)))∧(N #[false,true,true,false,false,true,false,false,true,true,false,false,false,false,false,false,false,false] ((PP z).put 27 (.sl .int ((zG .con z.2.1 z.1.toNat).vars))))∧(N #[false,true,false,false,true,true,false,false,true,true,false,false,false,false,false,false,false,false] (((PP z).mk' 29 (.row 3 .int ([]:List Int))).put 29 (.own 29)))∧(N #[false,true,false,false,false,true,true,false,true,true,false,false,false,false,false,false,false,false] ((PP z).put 31 (.sl .int ((zG .con z.2.1 z.1.toNat).consts))))∧(N #[false,true,false,false,false,true,false,false,true,true,true,false,false,false,false,false,false,false] (S3 z))):=by kernel_rfl
theorem zog(z:zJ){K:St→Prop}(hK:yP K)(a:zL .int (([]:List Int).length+((zG .con z.2.1 z.1.toNat).vars).length)=true)(b:zL .int (([]:List Int).length+((zG .con z.2.1 z.1.toNat).consts).length)=true)(c:zL .lit (([]:List zC).length+((zG .con z.2.1 z.1.toNat).lits).length)=true)(hk:K (zV z)):xE K 14 #[false,true,false,false,false,true,false,false,true,true,false,false,false,false,false,false,false,false] (PP z):=zW hK (λ_ _ h=>h) ((zjB z K _).mpr ⟨zD hK _ _ _ _ (zK [1,2,3,4,5,25,26,27,28,29,30,31,32,33,34,35,36,37,38,39] [1,2,3,5,8,25,29,33] (by kernel_rfl)) (zh6 z hK a b c hk),zD hK _ _ _ _ (zK [1,2,3,4,5,25,26,27,28,29,30,31,32,33,34,35,36,37,38,39] [1,2,3,5,8,25,29,33] (by kernel_rfl)) (zia z hK a b c hk),zD hK _ _ _ _ (zK [1,2,3,4,5,25,26,27,28,29,30,31,32,33,34,35,36,37,38,39] [1,2,3,5,8,25,29,33] (by kernel_rfl)) (zid z hK a b c hk),zD hK _ _ _ _ (zK [1,2,3,4,5,25,26,27,28,29,30,31,32,33,34,35,36,37,38,39] [1,2,3,5,8,25,29,33] (by kernel_rfl)) (zif z hK a b c hk),zih z hK a b c hk⟩)
theorem zjC(z:zJ)(K:St→Prop)(N:Array Bool→St→Prop):xL K N #[false,true,false,false,false,true,false,false,false,true,true,false,false,false,false,false,false,false] (PQ z)=((N #[true,true,false,false,false,true,false,false,false,true,true,false,false,false,false,false,false,false] (((PQ z).mk' 25 (.row 3 .int ([]:List Int))).put 25 (.own 25)))∧(N #[false,true,true,false,false,true,false,false,false,true,true,false,false,false,false,false,false,false] ((PQ z).put 27 (.sl .int ((zG .con z.2.1 z.1.toNat).vars))))∧(N #[false,true,false,false,true,true,false,false,false,true,true,false,false,false,false,false,false,false] (((PQ z).mk' 29 (.row 3 .int ([]:List Int))).put 29 (.own 29)))∧(N #[false,true,false,false,false,true,true,false,false,true,true,false,false,false,false,false,false,false] ((PQ z).put 31 (.sl .int ((zG .con z.2.1 z.1.toNat).consts))))∧(N #[false,true,false,false,false,true,false,false,true,true,true,false,false,false,false,false,false,false] (((PQ z).mk' 33 (.row 67 .lit ([]:List zC))).put 33 (.own 33)))):=by kernel_rfl
theorem zoh(z:zJ){K:St→Prop}(hK:yP K)(a:zL .int (([]:List Int).length+((zG .con z.2.1 z.1.toNat).vars).length)=true)(b:zL .int (([]:List Int).length+((zG .con z.2.1 z.1.toNat).consts).length)=true)(c:zL .lit (([]:List zC).length+((zG .con z.2.1 z.1.toNat).lits).length)=true)(hk:K (zV z)):xE K 14 #[false,true,false,false,false,true,false,false,false,true,true,false,false,false,false,false,false,false] (PQ z):=zW hK (λ_ _ h=>h) ((zjC z K _).mpr ⟨zD hK _ _ _ _ (zK [1,2,3,4,5,25,26,27,28,29,30,31,32,33,34,35,36,37,38,39] [1,2,3,5,8,25,29,33] (by kernel_rfl)) (zh7 z hK a b c hk),zD hK _ _ _ _ (zK [1,2,3,4,5,25,26,27,28,29,30,31,32,33,34,35,36,37,38,39] [1,2,3,5,8,25,29,33] (by kernel_rfl)) (zib z hK a b c hk),zD hK _ _ _ _ (zK [1,2,3,4,5,25,26,27,28,29,30,31,32,33,34,35,36,37,38,39] [1,2,3,5,8,25,29,33] (by kernel_rfl)) (zie z hK a b c hk),zD hK _ _ _ _ (zK [1,2,3,4,5,25,26,27,28,29,30,31,32,33,34,35,36,37,38,39] [1,2,3,5,8,25,29,33] (by kernel_rfl)) (zig z hK a b c hk),zD hK _ _ _ _ (zK [1,2,3,4,5,25,26,27,28,29,30,31,32,33,34,35,36,37,38,39] [1,2,3,5,8,25,29,33] (by kernel_rfl)) (zih z hK a b c hk)⟩)
theorem zjD(z:zJ)(K:St→Prop)(N:Array Bool→St→Prop):xL K N #[false,true,false,false,false,true,false,false,false,true,false,false,false,false,false,false,false,false] (UD z)=((N #[true,true,false,false,false,true,false,false,false,true,false,false,false,false,false,false,false,false] (PL z))∧(N #[false,true,true,false,false,true,false,false,false,true,false,false,false,false,false,false,false,false] (PM z))∧(N #[false,true,false,false,true,true,false,false,false,true,false,false,false,false,false,false,false,false] (PN z))∧(N #[false,true,false,false,false,true,true,false,false,true,false,false,false,false,false,false,false,false] (PO z))∧(N #[false,true,false,false,false,true,false,false,true,true,false,false,false,false,false,false,false,false] (PP z))∧(N #[false,true,false,false,false,true,false,false,false,true,true,false,false,false,false,false,false,false] (PQ z))):=by kernel_rfl
theorem zoi(z:zJ){K:St→Prop}(hK:yP K)(a:zL .int (([]:List Int).length+((zG .con z.2.1 z.1.toNat).vars).length)=true)(b:zL .int (([]:List Int).length+((zG .con z.2.1 z.1.toNat).consts).length)=true)(c:zL .lit (([]:List zC).length+((zG .con z.2.1 z.1.toNat).lits).length)=true)(hk:K (zV z)):xE K 15 #[false,true,false,false,false,true,false,false,false,true,false,false,false,false,false,false,false,false] (UD z):=zW hK (λ_ _ h=>h) ((zjD z K _).mpr ⟨zoc z hK a b c hk,zod z hK a b c hk,zoe z hK a b c hk,zof z hK a b c hk,zog z hK a b c hk,zoh z hK a b c hk⟩)
theorem TI(a:Int)(b:List zQ)(c d:Int)(e:List vF)(f:List zQ)(g h:Int)(i:List zQ)(j:List vF){K:St→Prop}(k:zL .int (([]:List Int).length+((zG .con b a.toNat).vars).length)=true)(l:zL .int (([]:List Int).length+((zG .con b a.toNat).consts).length)=true)(m:zL .lit (([]:List zC).length+((zG .con b a.toNat).lits).length)=true)(hk:K (zV (a,b,c,d,e,f,g,h,i,j))):xE (zhc K) 15 #[false,true,false,false,false,true,false,false,false,true,false,false,false,false,false,false,false,false] (UD (a,b,c,d,e,f,g,h,i,j)):=zoi (a,b,c,d,e,f,g,h,i,j) zen k l m ⟨_,.refl _,hk⟩
def oI(R:yC)(c:Nat)(a:Int)(b:List zQ)(d e:Int)(f:List vF)(g:List zQ)(h i:Int)(j:Nat)(k:Int)(l:List zQ)(m:List (List Int))(n:List vF)(o p:List Int)(q:List zC):Prop:=LP yE Tryz.f10 [1,1,1,0,1,0,0,1,0,0,1,1,1,0,1,0,0] 2 j ⟨[(1,.ptr 1 0),(2,.ptr 2 0),(3,.own 3),(4,dI a),(5,.ptr 5 0),(6,.own 6),(7,dI k)],[(1,.cells [.own 8,.sl .con b,dI d,dI e]),(2,.cells [.sl .var f,.sl .con g,dI h,dI i]),(3,.row 74 .con l),(5,.cells [dI ((zG .con b a.toNat).kind),.own 25,.own 29,dI ((zG .con b a.toNat).n),dS ((zG .con b a.toNat).rows),.own 33]),(6,.row 62 (.list .int) m),(8,.row 97 .var n),(25,.row 3 .int o),(29,.row 3 .int p),(33,.row 67 .lit q)]⟩ (zH 2 (sK yE Tryz.f10 [1,1,1,0,1,0,0,1,0,0,1,1,1,1] 1 (zH 1 (sK yE Tryz.f10 [1,1,1,0,1,0,0,1,1] 0 (iK yE Tryz.f10 [1,1,1,0,1,0,0] 0 c (zH 0 (sK yE Tryz.f10 [1,1,1,1] 0 (eK Tryz.f10 R))))))))
def oJ(R:yC)(a:Nat)(b:Int)(c:List zQ)(d e:Int)(f:List vF)(g:List zQ)(h i:Int)(j:List zQ)(k:List vF):Prop:=LP yE Tryz.f10 [1,1,1,0,1,0,0] 0 a ⟨[(1,.ptr 1 0),(2,.ptr 2 0),(3,.own 3),(4,dI b)],[(1,.cells [.own 8,.sl .con c,dI d,dI e]),(2,.cells [.sl .var f,.sl .con g,dI h,dI i]),(3,.row 74 .con j),(8,.row 97 .var k)]⟩ (zH 0 (sK yE Tryz.f10 [1,1,1,1] 0 (eK Tryz.f10 R)))
theorem W7(l:zF)(R:yC)(c:Nat)(a:Int)(b:List zQ)(d e:Int)(f:List vF)(g:List zQ)(h i:Int)(j:List zQ)(k:List vF):(sK yE Tryz.f10 [1,1,1,0,1,0,0,1,0,0,1,1] 1 (zH 1 (sK yE Tryz.f10 [1,1,1,0,1,0,0,1,1] 0 (iK yE Tryz.f10 [1,1,1,0,1,0,0] 0 c (zH 0 (sK yE Tryz.f10 [1,1,1,1] 0 (eK Tryz.f10 R))))))) .normal (zV (a,b,d,e,f,g,h,i,j,k))=
 (∃n2,oI R c a b d e f g h i n2 0 j ([]:List (List Int)) k (([]:List Int)++((zG .con b a.toNat).vars)) (([]:List Int)++((zG .con b a.toNat).consts)) (([]:List zC)++((zG .con b a.toNat).lits))):=by kernel_rfl
theorem Wk(R:yC)(i:Nat)(a:Int)(b:List zQ)(j k:Int)(l:List vF)(m:List zQ)(n o:Int)(q:Nat)(c:Int)(e:List zQ)(d:List (List Int))(p:List vF)(f g:List Int)(h:List zC):oI R i a b j k l m n o (q+1) c e d p f g h=
 (zN (decide (c<(((zG .con b a.toNat).rows).length:Int)))
 (wC c ((zG .con b a.toNat).rows).length=true∧zL .int (([]:List Int).length+(zG (.list .int) ((zG .con b a.toNat).rows) c.toNat).length)=true∧zL (.list .int) (d.length+([([]:List Int)++(zG (.list .int) ((zG .con b a.toNat).rows) c.toNat)]).length)=true∧oI R i a b j k l m n o q (xF (c+1)) e (d++([([]:List Int)++(zG (.list .int) ((zG .con b a.toNat).rows) c.toNat)])) p f g h)
 (zL .con (e.length+([(⟨(zG .con b a.toNat).kind,f,g,(zG .con b a.toNat).n,d,h⟩:zQ)]).length)=true∧oJ R i (xF (a+1)) b j k l m n o (e++([(⟨(zG .con b a.toNat).kind,f,g,(zG .con b a.toNat).n,d,h⟩:zQ)])) p)):=by kernel_rfl
theorem Wl(R:yC)(g:Nat)(a:Int)(b:List zQ)(c d:Int)(h:List vF)(i:List zQ)(j k:Int)(e:List zQ)(f:List vF):oJ R (g+1) a b c d h i j k e f=
 (zN (decide (a<(b.length:Int)))
 (wC a b.length=true∧xE (zhc ((sK yE Tryz.f10 [1,1,1,0,1,0,0,1,0,0,1,1] 1 (zH 1 (sK yE Tryz.f10 [1,1,1,0,1,0,0,1,1] 0 (iK yE Tryz.f10 [1,1,1,0,1,0,0] 0 g (zH 0 (sK yE Tryz.f10 [1,1,1,1] 0 (eK Tryz.f10 R))))))) .normal)) 15 #[false,true,false,false,false,true,false,false,false,true,false,false,false,false,false,false,false,false] (UD (a,b,c,d,h,i,j,k,e,f)))
 (R (.agg [.sl .var f,.sl .con e,dI c,dI d]))):=by kernel_rfl
theorem UE(a:zF)(R:yC):FD yE Tryz.f10 [dM a] R=
 (zL .var (([]:List vF).length+a.vars.length)=true∧∃n0,oJ R n0 0 a.cons a.goal a.var ([]:List vF) ([]:List zQ) 0 0 ([]:List zQ) (([]:List vF)++a.vars)):=by kernel_rfl
theorem Vq(a:zF):yY yE Tryz.f10 rS [dM a]:=xA Tryz.func10 (by kernel_rfl) Tryz.ntmps10 rfl
end Go.Proofs.YteimklbiapnfhaaGreat
namespace Go.Proofs.YteimklbiapnfhaaGreat
open Go.RowKit
set_option linter.unusedVariables false
set_option linter.unusedSimpArgs false
variable[Lo]
def plD:D→D
 | .sl (.mk k t) xs=>bif t.bare then .sl t xs else .sl (.mk k t) xs
 |d=>d
theorem zgN{w:World}{S:Nat→Prop}{v:Value}{d:D}(h:Rp w S v d):Rp w S v (plD d):=by
 unfold plD;split
 ·rename_i k t xs
  cases hb:t.bare with
  |false=>exact h
  |true=>
   refine .sl t xs v ?_;rw[Zx hb];exact Ft (xT.mkd k (Ty.rep t)) (Ty.rep t) rfl rfl (λ_ hb=>hb.1) (λcs x r=>(Ty.rep t).mono r (λ_ _=>rfl) λb hb=>hb.1.1) h.sl_inv'
 ·exact h
theorem mB.un{P:Program}{f:FuncId}{args:List D}{r:D}(h:mB P f (args.map plD) r):mB P f args r:=λw S vs hS hl hv hg=>
 h w S vs hS (by rw[List.length_map];exact hl) (λi d hd=>by
  rw[List.getElem?_map,Option.map_eq_some_iff]at hd
  obtain⟨d0,h0,rfl⟩:=hd;exact zgN (hv i d0 h0)) hg
theorem zdS(l:List Int):cV wB [.sl .int l] [] (.own 3000) [(3000,.row 3 (.fr .int) l)]:=
 X7 l λok _=>by
  rw[WR];intro b hb;refine zA (λe=> ?_) λe=>⟨?_,?_⟩
  ·rw[hb e];exact⟨rfl,rfl⟩
  ·refine xR (t:=.fr .int) ?_
   have:=(mC (t:=.int) (WD ok)).1;show(0+l.length)*8≤_
   have h8:l.length*8≤140737488355328:=this;omega
  ·exact⟨rfl,rfl⟩
theorem PS{m:zF}(hm:∀v∈m.vars,-50≤v.lo∧v.hi≤50)(hl:m.vars.length≤6):wO rL [dM m] (.sl (.fr (.list .int)) (sE m)):=
 GX m λok=>by
  rw[DN];refine up (I:=λn v a=>Z2 m _ n v a) 0 m.vars.length rfl (Nat.zero_le _) (by omega) (λk a=>a=(m.vars.take k).map ZU) rfl λn k a _ hk ha hn=> ?_
  subst ha;rw[L2]
  by_cases h:k<m.vars.length
  ·rw[zR h,zP (t:=.var) h]
   have hv:=hm _ (List.getElem_mem h);refine⟨zI h,?_⟩;refine upto (I:=λn v a=>Z1 m _ _ (k:Int) n v _ a) (m.vars[k]).lo (m.vars[k]).hi (by omega) (by omega) (λj a=>a=Jg (m.vars[k]).lo (j-(m.vars[k]).lo).toNat∧j≤max (m.vars[k]).lo ((m.vars[k]).hi+1)) ⟨by rw[Int.sub_self];rfl,by omega⟩ λn2 j a hj hi hn2=> ?_
   obtain⟨rfl,hjm⟩:=hi;rw[L1,zP (t:=.var) h];refine zA (λe=> ?_) λe=> ?_
   ·have e:=of_decide_eq_true e
    refine⟨xR (t:=.fr .int) ?_,hn2 e _ ⟨(LE hj).symm,by omega⟩⟩
    rw[aX];show(_+1)*8≤_
    omega
   ·have e:=of_decide_eq_false e
    have el:Jg (m.vars[k]).lo (j-(m.vars[k]).lo).toNat=ZU m.vars[k]:=by
     rw[ZU]
     by_cases hlh:(m.vars[k]).lo≤(m.vars[k]).hi+1
     ·rw[show j=(m.vars[k]).hi+1 by omega]
     ·rw[show j=(m.vars[k]).lo by omega,show((m.vars[k]).lo-(m.vars[k]).lo).toNat=0 by omega,show((m.vars[k]).hi+1-(m.vars[k]).lo).toNat=0 by omega]
    rw[el];refine⟨xR (t:=.fr (.list .int)) ?_,hn h _ (Qs ZU h).symm⟩;rw[List.length_map,List.length_take];show(_+1)*24≤_
    omega
  ·have hk':k=m.vars.length:=by omega
   subst hk';rw[zO,List.take_length];rfl
theorem eV{s:List (List Int)}{g:FuncId}{rs:Option (List Ty)}{cap:List D}{f:Nat→Int→Bool}(he:aD g)
  (hf:∀(v:Nat) (h:v<s.length),∀n∈s[v],wO g (dI v::dI n::cap) (dB (f v n))):wO xV [dS s,.clo g rs cap] (.sl (.fr (.list .int)) (pZ f s)):=
 mB.clo (pre:=[_]) (GT s g cap λok=>by
  have hs:fz s:=mC (WD ok);have hsl:=dQ hs;rw[DH];refine up (I:=λn v a=>Z0 s g cap _ n v a) 0 s.length rfl (Nat.zero_le _) (by omega) (λk a=>a=(s.take k).mapIdx λv l=>l.filter (f v)) rfl λn k a _ hk ha hn=> ?_
  subst ha;rw[LX]
  by_cases h:k<s.length
  ·rw[zR h]
   have hr:=Zj hs h;refine⟨zI h,?_⟩;refine up (I:=λn v a=>eQ s g cap _ _ (k:Int) n v _ a) 0 s[k].length rfl (Nat.zero_le _) (by omega) (λj a=>a=(s[k].take j).filter (f k)) rfl λn2 j a _ hj hi hn2=> ?_
   subst hi;rw[LW,zP (t:=.list .int) h]
   by_cases hj':j<s[k].length
   ·rw[zR hj',zP (t:=.int) hj']
    refine⟨zI hj',he,zE (hf k h _ (List.getElem_mem hj')) (zA (λe=>⟨xR (t:=.fr .int) ?_,hn2 hj' _ ?_⟩) λe=>hn2 hj' _ ?_)⟩
    ·have:=List.length_filter_le (f k) (s[k].take j)
     rw[List.length_take]at this
     show(_+1)*8≤_
     omega
    ·rw[oK _ hj',if_pos e]
    ·rw[oK _ hj',if_neg (by rw[e];exact Bool.false_ne_true)]
   ·have hj2:j=s[k].length:=by omega
    subst hj2;rw[zO,List.take_length];refine⟨xR (t:=.fr (.list .int)) ?_,hn h _ (UO _ h).symm⟩;rw[List.length_mapIdx,List.length_take];show(_+1)*24≤_
    omega
  ·have hk':k=s.length:=by omega
   subst hk';rw[zO,List.take_length];rfl)
theorem bY(s:List (List Int)):wO tG [dS s] (.sl (.fr (.list .int)) s):=
 DK s λok=>by
  have hs:fz s:=mC (WD ok);have hsl:=dQ hs;rw[Bx];refine up (I:=λn v a=>YY s _ n v a) 0 s.length rfl (Nat.zero_le _) (by omega) (λk a=>a=s.take k) rfl λn k a _ hk ha hn=> ?_
  subst ha;rw[Ir]
  by_cases h:k<s.length
  ·rw[zR h,zP (t:=.list .int) h]
   refine⟨zI h,_,zdS _,xR (t:=.fr (.list .int)) ?_,hn h _ (List.take_append_getElem h)⟩;rw[List.length_take];show(_+1)*24≤_
   omega
  ·have hk':k=s.length:=by omega
   subst hk';rw[zO,List.take_length]
theorem fD(s:List (List Int)):wO yM [dS s] (.sl (.fr (.list .int)) (iN s)):=
 Mw s λok=>by
  have hs:fz s:=mC (WD ok);have hsl:=dQ hs;rw[LV];refine⟨rfl,by omega,xR (t:=.fr (.list .int)) ?_,rfl⟩
  rw[Int.toNat_natCast];show _*24≤_
  omega
theorem Fk(m:zF):wO ol [dM m] (.tup [.sl (.fr (.list .int)) (Od (wN m) (sE m)),dI (wN m)]):=
 Iq m λok=>by
  rw[GV];refine zE (eM m) (zA (λe=> ?_) λe=> ?_)
  ·rw[Od,if_neg (xO e)]
  ·have h:=oT (zU e)
   rw[Od,if_pos (zU e),zU e];exact zE (PS h.lohi h.vars) rfl
theorem CV(m:zF)(s t:List (List Int)):wO mG [dM m,dS s,dS t] (.tup [.sl (.fr (.list .int)) (Od (vB m [s,t]) (zk2 s t)),dI (vB m [s,t])]):=
 GY m s t λok=>by
  rw[DO];refine zE (eN m _) (zA (λe=> ?_) λe=> ?_)
  ·rw[Od,if_neg (xO e)]
  ·obtain⟨h,h1,h2⟩:=J3 (zU e)
   rw[Od,if_pos (zU e),zU e];refine zE (eV (f:=λv n=>pP (t.getD v []) n) U3 λv hv n hn=>Rl (by omega) n) rfl
theorem zdT(s:List (List Int))(l:zC):wO Zf [dS s,dL l] (.sl (.fr (.list .int)) (zc9 s l)):=
 zbm s l λok=>by
  rw[zdf];exact zE (eV (f:=λv n=> !decide ((v:Int)=l.var)||holdsL l n) NE λv hv n hn=>LG v n l) rfl
theorem MY(s:List (List Int))(c:List zC):wO sI [dS s,.sl .lit c] (.sl (.fr (.list .int)) (fA s c)):=
 Ni s c λok=>by
  rw[MA];exact zE (eV (f:=λv n=> !atC c v n) Xj λv hv n hn=>XM v n c) rfl
theorem PT{s:List (List Int)}{c:List zC}(hc:∀l∈c,0≤l.var∧l.var<s.length):wO uA [dS s,.sl .lit c] (.sl (.fr (.list .int)) (kC s c)):=
 GW s c λok=>by
  have hl:c.length≤9223372036854775807:=fq (t:=.lit) (WD (okR ok));rw[DL];refine zE (yK s) (zA (λe=> ?_) λe=> ?_)
  ·rw[kC,if_pos e]
   exact zE (bY s) rfl
  rw[kC,if_neg (by rw[e];decide)]
  refine up (I:=λn v a=>iC s c _ n v a) 0 c.length rfl (Nat.zero_le _) (by omega) (λk a=>Q5 s c (c.drop k) a=Q5 s c c (-1)) (by rw[List.drop_zero]) λn k a _ hk ha hn=> ?_
  rw[LY]
  by_cases h:k<c.length
  ·rw[zR h,zP (t:=.lit) h]
   rw[List.drop_eq_getElem_cons h,Q5]at ha
   refine⟨zI h,zE (HA (hc _ (List.getElem_mem h))) (zA (λe=> ?_) λe=> ?_)⟩
   ·rw[if_pos (of_decide_eq_true e)]at ha
    exact hn h _ ha
   rw[if_neg (of_decide_eq_false e)]at ha
   refine zA (λf=>zA (λg=> ?_) λg=> ?_) λf=> ?_
   ·rw[if_pos ⟨of_decide_eq_true f,by simpa using g⟩]at ha
    rw[←ha];exact zE (bY s) rfl
   ·rw[if_neg (λx=>x.2 (by simpa using g))]at ha
    exact hn h _ ha
   ·rw[if_neg (λx=>of_decide_eq_false f x.1)]at ha
    exact hn h _ ha
  ·have hk':k=c.length:=by omega
   subst hk';rw[List.drop_length,Q5]at ha
   rw[zO,←ha];refine zA (λe=> ?_) λe=> ?_
   ·rw[if_pos (of_decide_eq_true e)]
    exact zE (fD s) rfl
   ·rw[if_neg (of_decide_eq_false e)]
    exact zE (eV (f:=λv n=> !decide ((v:Int)=a)||atC c a n) U5 λv hv n hn=>Ro v n a c) rfl
theorem Fl(m:zF)(s:List (List Int))(c:List zC):wO om [dM m,dS s,.sl .lit c] (.tup [.sl (.fr (.list .int)) (Od (LO m s c) (kC s c)),dI (LO m s c)]):=
 Ik m s c λok=>by
  rw[GQ];refine zE (aJ m s c) (zA (λe=> ?_) λe=> ?_)
  ·rw[J5 (xO e)]
  ·have h:=AB (zU e)
   have hl:=aY h.2.1;rw[Mm (zU e),zU e];exact zE (PT λl hl=>by have:=(tS.1 ((kZ h.2.2).2 l hl)).1;omega) rfl
theorem Fm(m:zF)(s:List (List Int))(c:List zC):wO oo [dM m,dS s,.sl .lit c] (.tup [.sl (.fr (.list .int)) (Od (LO m s c) (fA s c)),dI (LO m s c)]):=
 Ig m s c λok=>by
  rw[GP];refine zE (aJ m s c) (zA (λe=> ?_) λe=> ?_)
  ·rw[J5 (xO e)]
  ·rw[Mm (zU e),zU e]
   exact zE (MY s c) rfl
end Go.Proofs.YteimklbiapnfhaaGreat
namespace Go.Proofs.YteimklbiapnfhaaGreat
open Go.RowKit
set_option linter.unusedVariables false
set_option linter.unusedSimpArgs false
variable[Lo]
theorem eW{c:zQ}{s:List (List Int)}(hc:uO c s.length)(hs:iF s s.length):wO vR [dC c,dS s] (.sl (.fr (.list .int)) (yG c s)):=
 GU c s λok=>by
  rw[DJ];refine zE (yK s) (zA (λe=> ?_) λe=> ?_)
  ·rw[yG,if_pos e]
   exact zE (bY s) rfl
  have hf:zY s=false:=e;rw[yG,if_neg (by rw[hf];decide)]
  refine zE (bR hc) ?_
  by_cases h0:yA c s.length=[]
  ·obtain⟨hc0,_⟩:=H1 hc h0
   refine dt (by rw[h0];rfl) (zE (mB.un (Y0 (vs:=[]) hc0 ⟨rfl,λn hn=>(by cases hn)⟩)) (zA (λe=> ?_) λe=> ?_))
   ·rw[if_pos h0,if_pos e];exact zE (bY s) rfl
   ·rw[if_pos h0,if_neg (by rw[e];decide)];exact zE (fD s) rfl
  refine df (by
   have:(yA c s.length).length≠0:=λe=>h0 (List.length_eq_zero_iff.1 e)
   omega) ?_
  rw[if_neg h0]
  have key:∀ {g:FuncId} {caps:List D},aD g→(∀(v n:Int),v∈yA c s.length→n∈s.getD v.toNat []→wO g (dI v::dI n::caps) (dB (mayB (xD c) s v.toNat n)))→
    wO xV [dS s,.clo vN none [.iptr [.sl .int (yA c s.length)] 0,.iptr [.clo g none caps] 0]] (.sl (.fr (.list .int)) (pZ (λv n=> !SB c v||mayB (xD c) s v n) s)):=fun {g caps} he hg=>by
   refine eV (f:=λv n=> !SB c v||mayB (xD c) s v n) U4 λv hv n hn=> ?_
   refine Rv he (λh=> ?_) λh=> ?_
   ·have h1:=kX.1 h
    rw[WW hv]at h
    have h2:=hg v n h1 (by rw[Int.toNat_natCast,yN _ hv];exact hn)
    rw[Int.toNat_natCast]at h2
    rw[h];exact h2
   ·rw[WW hv]at h
    rw[h];rfl
  have hEach:∃e21:zQ,∃e22:List (List Int),∃e23:List Int,∃e24:List Int,∃e25:List ((Int×Int)×Int),cV rD [dC c,dS s] [] (.clo yJ none [.iptr [.iptr [.int .i64 e21.kind,.sl .int e21.vars,.sl .int e21.consts,.int .i64 e21.n,.sl (.list .int) e21.rows,.sl .lit e21.lits,.sl (.list .int) e22,.sl .int e23,.sl .int e24,.mp (.pr .int .int) .int e25] 0] 0]) []∧
    zX xV [dS s,.clo vN none [.iptr [.sl .int (yA c s.length)] 0,.iptr [.clo yJ none [.iptr [.iptr [.int .i64 e21.kind,.sl .int e21.vars,.sl .int e21.consts,.int .i64 e21.n,.sl (.list .int) e21.rows,.sl .lit e21.lits,.sl (.list .int) e22,.sl .int e23,.sl .int e24,.mp (.pr .int .int) .int e25] 0] 0]] 0]] (.fr (.list (.list .int))) λs26=>D.sl (.fr (.list .int)) s26=.sl (.fr (.list .int)) (pZ (λv n=> !SB c v||mayB (xD c) s v n) s):=by
   obtain⟨vs,m,h1,h2⟩:=Pu hc hs hf;exact⟨c,s,yA c s.length,vs,m,h2,zE (key VL λv n hv hn=>Tu (ks:=[]) h1 hv) rfl⟩
  refine zA (λe=> ?_) λe=>zA (λe2=> ?_) λe2=> ?_
  ·have hk:c.kind≤3:=of_decide_eq_true e
   exact⟨vJ c,IJ s (vJ c),c,Ts hc hk hs,zE (key XI λv n hv hn=>WU hc hk hs hf (SH hc (Pv hc (by omega)) hv) hn) rfl⟩
  ·have hk:c.kind=4:=of_decide_eq_true e2
   refine zE (Ru c.vars) (zA (λe3=> ?_) λe3=>hEach)
   have hnd:c.vars.Nodup:=by simpa using e3
   exact⟨s,c,Tt c s,zE (key XJ λv n hv hn=>WV hc hk hnd hs hf (SH hc (Pv hc (by omega)) hv) hn) rfl⟩
  ·exact hEach
theorem Jd(m:zF)(con:Int)(s:List (List Int)):wO rK [dM m,dI con,dS s] (.tup [.sl (.fr (.list .int)) (Od (iO m con s) (yG (zZ m con) s)),dI (iO m con s)]):=
 Mz m con s λok=>by
  rw[L0];refine zE (jZ m s) (zA (λe=> ?_) λe=> ?_)
  ·rw[FG (xO e),J5 (xO e)]
  have e:=zU e;obtain⟨h1,h2⟩:=Ax e;have hr:=oT (iM e);refine zA (λf=> ?_) λf=>zA (λg=> ?_) λg=> ?_
  ·rw[SI e (.inl (of_decide_eq_true f))];rfl
  ·rw[SI e (.inr (of_decide_eq_true g))];rfl
  ·have f:=of_decide_eq_false f
   have g:=of_decide_eq_false g;have hz:=FI (con:=con) e (by omega)
   rw[hz];have hc:=tI (Uu (iM e) (con:=con) (by omega))
   have hs:=jB hr (by rw[bP (not_not_intro (iM e)),eO]at e;exact e)
   have hl:=hs.len;rw[←hl]at hc hs
   exact⟨vC.2 (by omega),zE (eW hc hs) rfl⟩
end Go.Proofs.YteimklbiapnfhaaGreat
namespace Go.Proofs.YteimklbiapnfhaaGreat
open Go.RowKit
set_option linter.unusedVariables false
set_option linter.unusedSimpArgs false
variable[Lo]
def zii(m:zF)(cons:Bool)(l:List (List zC))(s0:List (List Int))(n0:Nat)(was s:List (List Int)):Prop:=
 zX zS [.sl (.fr (.list .int)) s] .bool λs11=>zN s11
  (zX yM [.sl (.fr (.list .int)) s] (.fr (.list (.list .int))) λs12=>D.sl (.fr (.list .int)) s12=.sl (.fr (.list .int)) (sD m cons l s0))
  (zX tJ [.sl (.fr (.list .int)) s,.sl (.fr (.list .int)) was] .bool λf13=>zN f13 (D.sl (.fr (.list .int)) s=.sl (.fr (.list .int)) (sD m cons l s0)) (sV m cons l (λd=>d=.sl (.fr (.list .int)) (sD m cons l s0)) n0 s))
theorem zlG{m:zF}{cons:Bool}{l:List (List zC)}{s0:List (List Int)}(h:sW m l)(hs:s0.length=m.vars.length){n0:Nat}{was:List (List Int)}
  (ih:∀s,vW (sF m cons l) s0 s→wH s<wH was→sV m cons l (λd=>d=.sl (.fr (.list .int)) (sD m cons l s0)) n0 s) {s:List (List Int)} (hr:vW (sF m cons l) s0 s) (hx:zY s=true∨NN (sF m cons l) was s (sF m cons l)):zii m cons l s0 n0 was s:=by
 refine zE (mB.un (yK s)) (zA (λe=> ?_) λe=> ?_)
 ·have e:zY s=true:=e
  refine zE (mB.un (fD s)) ?_;rw[Wd h hs (hr.dead e),L5 hr.le.1]
 ·have e:zY s=false:=e
  have hrd:=hx.resolve_left (by rw[e];decide)
  refine zE (mB.un (H6 s was)) (zA (λf=> ?_) λf=> ?_)
  ·have f2:=(Oi hrd.le).1 f
   rw[Wd h hs (hr.stop e λop hm=> ?_)]
   rw[f2];exact hrd.stab f2 op hm
  ·exact ih s hr (hrd.le.size_lt λf2=>by rw[(Oi hrd.le).2 f2]at f;cases f)
theorem I7{m:zF}{cons:Bool}{l:List (List zC)}{s0:List (List Int)}(h:sW m l)(hs:s0.length=m.vars.length)(hll:l.length≤1000000000){n0:Nat}{was:List (List Int)}
  (ih:∀s,vW (sF m cons l) s0 s→wH s<wH was→sV m cons l (λd=>d=.sl (.fr (.list .int)) (sD m cons l s0)) n0 s)
  {I:Nat→Int→List (List Int)→Prop}
  (heq:∀n (i:Int) s,I (n+1) i s=zN (decide (i<(l.length:Int)))
   (zX zS [.sl (.fr (.list .int)) s] .bool λs9=>zN (!s9)
    (wC i l.length=true∧zX uA [.sl (.fr (.list .int)) s,.sl .lit (zG (.list .lit) l i.toNat)] (.fr (.list (.list .int))) λc10=>I n (xF (i+1)) c10)
    (zii m cons l s0 n0 was s))
   (zii m cons l s0 n0 was s))
  {s:List (List Int)} (hr:vW (sF m cons l) s0 s) (hw:zY s=true∨NN (sF m cons l) was s (if cons=true then FJ m else[])):∃n,I n 0 s:=by
 refine zhM (Uw h) hs l (λc s=>kC s c) (λc hc=>jC.2 (.inr ⟨c,hc,rfl⟩)) (by omega) hr hw (X:=zii m cons l s0 n0 was) (λs h1 h2=>zlG h hs ih h1 h2) (λn k hk s h1 hf hi=> ?_) (λn s hx=> ?_) λn k s hk hf hx=> ?_
 ·rw[heq,zR hk,zP (t:=.list .lit) hk]
  refine zE (mB.un (yK s)) (bnt hf ⟨zI hk,zE (mB.un (PT λx hx=> ?_)) hi⟩)
  have:=h.lits _ (List.getElem_mem hk) x hx;rw[h1.le.1,hs];exact this
 ·rw[heq,zO];exact hx
 ·rw[heq,zR hk]
  exact zE (mB.un (yK s)) (Ay hf hx)
theorem PU{m:zF}{cons:Bool}{l:List (List zC)}{s0:List (List Int)}(h:sW m l)(hs:iF s0 m.vars.length)(hll:l.length≤1000000000):wO sX [dM m,dS s0,dB cons,.sl (.list .lit) l] (.sl (.fr (.list .int)) (sD m cons l s0)):=
 zbk m s0 cons l λok=>by
  have ho:=Uw (cons:=cons) h;have hcl:=h.right.cons;rw[zde];refine zE (bY s0) ?_
  have step:∀(n0:Nat) (was:List (List Int)),vW (sF m cons l) s0 was→(∀s,vW (sF m cons l) s0 s→wH s<wH was→sV m cons l (λd=>d=.sl (.fr (.list .int)) (sD m cons l s0)) n0 s)→sV m cons l (λd=>d=.sl (.fr (.list .int)) (sD m cons l s0)) (n0+1) was:=by
   intro n0 was hw ih;rw[DG];cases cons with
   |false=>
    refine⟨1,?_⟩;rw[ZZ];refine bf rfl ?_;exact I7 h hs.len hll ih (I:=λn i s=>YW m false l _ n0 was n s i) (λn i s=>by rw[Ij];rfl) hw (.inr ⟨Z4.refl _,λ_ op hm=>(by cases hm)⟩)
   |true=>
    refine zhM ho hs.len m.cons yG (λc hc=>jC.2 (.inl ⟨rfl,c,hc,rfl⟩)) (by omega) hw (was:=was) (pre:=[]) (.inr ⟨Z4.refl _,λ_ op hm=>(by cases hm)⟩) (I:=λn i s=>eP m true l _ n0 was n s i)
     (X:=λs=>(∃n4,Xo m true l (λd=>d=.sl (.fr (.list .int)) (sD m true l s0)) n0 was n4 s 0)∧∃n4_2,bQ m true l (λd=>d=.sl (.fr (.list .int)) (sD m true l s0)) n0 was n4_2 s 0) (λs h1 h2=> ?_) (λn k hk s h1 hf hi=> ?_) (λn s hx=> ?_) λn k s hk hf hx=> ?_
    ·exact⟨I7 h hs.len hll ih (I:=λn i s=>Xo m true l _ n0 was n s i) (λn i s=>by rw[DF];rfl) h1 h2,I7 h hs.len hll ih (I:=λn i s=>bQ m true l _ n0 was n s i) (λn i s=>by rw[Ii];rfl) h1 h2⟩
    ·show eP m true l _ n0 was (n+1) s (k:Int)
     rw[ZZ];refine bt rfl ?_;rw[zR hk,zP (t:=.con) hk];have hg:=Cv h1 hs;have hl:=hg.len;refine zE (mB.un (yK s)) (bnt hf ⟨zI hk,zE (mB.un (eW (c:=m.cons[k]) (by rw[hl];exact h.cons _ (List.getElem_mem hk)) (by rw[hl];exact hg))) hi⟩)
    ·show eP m true l _ n0 was (n+1) s (m.cons.length:Int)
     rw[ZZ];refine bt rfl ?_;rw[zO];exact hx.2
    ·show eP m true l _ n0 was (n+1) s (k:Int)
     rw[ZZ];refine bt rfl ?_;rw[zR hk];exact zE (mB.un (yK s)) (Ay hf hx.1)
  suffices H:∀(d:Nat) (was:List (List Int)),wH was≤d→vW (sF m cons l) s0 was→sV m cons l (λd=>d=.sl (.fr (.list .int)) (sD m cons l s0)) (d+1) was from⟨_,H _ s0 (Nat.le_refl _) (vW.refl _ _)⟩
  intro d
  induction d with
  |zero=>exact λwas hd hw=>step 0 was hw λs _ hlt=>absurd hlt (by omega)
  |succ d ih=>exact λwas hd hw=>step (d+1) was hw λs h1 hlt=>ih s (by omega) h1
theorem zb8(m:zF)(s:List (List Int)):wO hD [dM m,dS s] (.tup [.sl (.fr (.list .int)) (Od (vB m [s]) (sD m true [] s)),dI (vB m [s])]):=
 Bz m s λok=>by
  rw[zbn];refine zE (Yb m s []) ?_;rw[Py];refine zA (λe=> ?_) λe=> ?_
  ·rw[J5 (xO e)]
  ·have h:=WZ (m:=m) (s:=s) (l:=[]) (by rw[Py];exact zU e)
   rw[Mm (zU e),zU e];exact zE (PU h.mc h.good (by decide)) rfl
theorem zb9(m:zF)(s:List (List Int))(l:List (List zC)):wO iZ [dM m,dS s,.sl (.list .lit) l] (.tup [.sl (.fr (.list .int)) (Od (Px m s l) (sD m true l s)),dI (Px m s l)]):=
 Bw m s l λok=>by
  rw[zbl];refine zE (Yb m s l) (zA (λe=> ?_) λe=> ?_)
  ·rw[J5 (xO e)]
  ·have h:=WZ (zU e)
   rw[Mm (zU e),zU e];exact zE (PU h.mc h.good (by have:=h.len;omega)) rfl
end Go.Proofs.YteimklbiapnfhaaGreat
namespace Go.Proofs.YteimklbiapnfhaaGreat
open Go.RowKit
set_option linter.unusedVariables false
set_option linter.unusedSimpArgs false
variable[Lo]
theorem Fn(n:Nat)(hn:n*24≤140737488355328):cV wI [.nil,dI n] [] (.own 3000) [(3000,.row 67 (.fr .lit) [])]:=by
 intro w S vs pl hS hl hv hh _;have e0:vs.getD 0 undef=.slice none 0 0:=Rp.nil_inv (hv 0 _ rfl);have e1:vs.getD 1 undef=.int .i64 n:=(Rp.int_inv (hv 1 _ rfl)).1
 have ev:vs= #[.slice none 0 0,.int .i64 n]:=by
  have hl2:vs.size=2:=hl;apply Array.ext (by simp[hl2])
  intro i h1 h2;simp[Array.getD_eq_getD_getElem?]at e0 e1
  match i,h1 with
  |0,h1=>rw[Array.getElem?_eq_getElem h1]at e0;simpa using e0
  |1,h1=>rw[Array.getElem?_eq_getElem h1]at e1;simpa using e1
  |i+2,h1=>exact absurd h1 (by omega)
 subst ev
 by_cases h0:n=0
 ·subst h0
  refine(AX w).mono λe w' ⟨he,hw⟩=> ?_
  subst he hw;exact Ok (t:=.fr .lit) (xs:=[]) hS (λpl'=>⟨by show 0*24≤lim;exact Nat.le_of_ble_eq_true rfl,[],rfl,⟨rfl,.inl ⟨rfl,rfl⟩⟩,λcs h=>(by cases h),λi x cs h=>(by cases h)⟩) (λb h=>by cases h) (Below.refl _ _)
 ·refine(AY n (by omega) hn w).mono λe w' ⟨cap,cells,he,h1,h2,h3,h4,h5⟩=> ?_
  subst he;refine Ok (t:=.fr .lit) (xs:=[]) hS (λpl'=>⟨by show 0*24≤lim;exact Nat.le_of_ble_eq_true rfl,[],rfl,⟨rfl,.inr ⟨w.heap.size,cap,cells,rfl,Nat.zero_le _,h1,Nat.zero_le _,h3,h2,rfl⟩⟩,λcs h=>(by cases h),λi x cs h=>(by cases h)⟩) (λb h=> ?_) h5
  have:w.heap.size=b:=by injection h
  omega
theorem fE{ls:List (List zC)}(hl:ls.length≤1000)(hr:∀l∈ls,l.length≤1000000):wO yF [.sl (.list .lit) ls] (.sl (.fr .lit) ls.flatten):=
 dU ls λok=>by
  have flat:∀k,((ls.take k).flatten).length≤k*1000000:=λk=>by
   have h1:∀xs:List (List zC),(∀l∈xs,l.length≤1000000)→xs.flatten.length≤xs.length*1000000:=λxs=>by
    induction xs with
    |nil=>exact λ_=>Nat.le_refl _
    |cons a xs ih=>
     intro h;have h1:=h a (List.mem_cons_self ..);have h2:=ih λl hl=>h l (List.mem_cons_of_mem _ hl)
     rw[List.flatten_cons,List.length_append,List.length_cons];omega
   have:=h1 (ls.take k) λl hl=>hr l (List.mem_of_mem_take hl)
   rw[List.length_take]at this
   exact Nat.le_trans this (Nat.mul_le_mul_right _ (Nat.min_le_left ..))
  have ftake:∀(k:Nat) (h:k<ls.length),(ls.take (k+1)).flatten=(ls.take k).flatten++ls[k]:=λk h=>by
   rw[←List.take_append_getElem h,List.flatten_append];simp
  rw[cT];refine up (I:=λn v (a:Int)=>uG ls _ n a v) 0 ls.length rfl (Nat.zero_le _) (by omega) (λk a=>a=(((ls.take k).flatten).length:Int)) rfl λn k a _ hk ha hn=> ?_
  subst ha;rw[fI];have hf:=flat k
  by_cases h:k<ls.length
  ·have hm:=hr _ (List.getElem_mem h)
   rw[zR h,zP (t:=.list .lit) h,tR (by omega) (by omega)]
   refine⟨zI h,df (by omega) (hn h _ ?_)⟩
   rw[ftake k h,List.length_append];omega
  ·have hk':k=ls.length:=by omega
   subst hk';rw[zO];refine⟨[],Fn _ (by omega),?_⟩
   refine up (I:=λn v (a:List zC)=>uF ls _ n v a) 0 ls.length rfl (Nat.zero_le _) (by omega) (λk a=>a=(ls.take k).flatten) rfl λn k a _ hk ha hn=> ?_
   subst ha;rw[fH];have hf:=flat k
   by_cases h:k<ls.length
   ·have hm:=hr _ (List.getElem_mem h)
    rw[zR h,zP (t:=.list .lit) h];refine⟨zI h,xR (t:=.fr .lit) ?_,hn h _ (ftake k h).symm⟩;show(_+_)*24≤_
    omega
   ·have hk':k=ls.length:=by omega
    subst hk';rw[zO,List.take_length]
theorem TJ{m:zF}{con:Int}{s:List (List Int)}(hat:MC m con=0)(hl:s.length=m.vars.length):wO rE [dM m,dI con,dS s] (.sl (.fr .lit) (lJ m s (yA (zZ m con) m.vars.length))):=
 LR m con s λok=>by
  obtain⟨hr,hcon⟩:=lI hat;have hc:=tI hat;rw[Ih];refine⟨vC.2 hcon,?_⟩;show zX qI [dC (zZ m con)] (.list .int) λm1=>_
  refine zE (bR hc) ?_;have hsl:=IX hc;have hsv:∀v∈yA (zZ m con) m.vars.length,0≤v∧v<m.vars.length:=λv hv=>qO v hv
  generalize yA (zZ m con) m.vars.length=sc at hsl hsv⊢
  refine up (I:=λn v a=>dW m s _ sc n v a) 0 sc.length rfl (Nat.zero_le _) (by omega) (λk a=>a=lJ m s (sc.take k)) rfl λn k a _ hk ha hn=> ?_
  subst ha;rw[Nd]
  by_cases h:k<sc.length
  ·have hvk:=hsv _ (List.getElem_mem h)
   have hvl:sc[k].toNat<m.vars.length:=by omega
   rw[zR h,zP (t:=.int) h];refine⟨zI h,vC.2 hvk,?_⟩;have hat2:zG .var m.vars sc[k].toNat=m.vars[sc[k].toNat]:=atN (t:=.var) hvl;have hvr:=hr.var _ (List.getElem_mem hvl);have hfull:(sE m).getD sc[k].toNat []=ZU m.vars[sc[k].toNat]:=Pz hvl;have hstep:lJ m s (sc.take (k+1))=lJ m s (sc.take k)++Tz s sc[k] (ZU m.vars[sc[k].toNat]):=by rw[lJ,SE _ h,hfull];rfl
   have hgl:=IZ hr (s:=s) (sc.take k);rw[List.length_take]at hgl
   generalize lJ m s (sc.take k)=pre at hstep hgl⊢
   rw[hat2];refine upto (I:=λn2 v a=>iB m s _ sc n (k:Int) n2 v a) (m.vars[sc[k].toNat]).lo (m.vars[sc[k].toNat]).hi (by omega) (by omega) (λj a=>a=pre++Tz s sc[k] (Jg (m.vars[sc[k].toNat]).lo (j-(m.vars[sc[k].toNat]).lo).toNat)∧j≤(m.vars[sc[k].toNat]).hi+1) ⟨by rw[Int.sub_self];exact(List.append_nil _).symm,by omega⟩ λn2 j a hj hi hn2=> ?_
   obtain⟨rfl,hjm⟩:=hi;rw[Nc,zP (t:=.int) h,hat2];have hgv:=IY (s:=s) (v:=sc[k]) (l:=Jg (m.vars[sc[k].toNat]).lo (j-(m.vars[sc[k].toNat]).lo).toNat);rw[aX]at hgv
   refine⟨vC.2 hvk,zA (λe=> ?_) λe=> ?_⟩
   ·have e:=of_decide_eq_true e
    have hgs:∀b,pP (s.getD sc[k].toNat []) j=b→Tz s sc[k] (Jg (m.vars[sc[k].toNat]).lo (j+1-(m.vars[sc[k].toNat]).lo).toNat)=Tz s sc[k] (Jg (m.vars[sc[k].toNat]).lo (j-(m.vars[sc[k].toNat]).lo).toNat)++(if b=true then[]else[(⟨sc[k],3,j⟩:zC)]):=λb hb=>by
     rw[LE hj,Tz,List.filter_append,List.map_append,List.filter_cons,hb];cases b<;>rfl
    refine⟨vC.2 (by omega),zE (yS (a:=j)) ?_⟩
    show zN (!pP (s.getD sc[k].toNat []) j) _ _
    refine zA (λf=>⟨xR (t:=.fr .lit) ?_,hn2 e _ ⟨?_,by omega⟩⟩) λf=>hn2 e _ ⟨?_,by omega⟩
    ·rw[List.length_append];show(_+_+1)*24≤_;omega
    ·rw[hgs false (by simpa using f),List.append_assoc];rfl
    ·rw[hgs true (by simpa using f)];simp
   ·have e:=of_decide_eq_false e
    refine hn h _ ?_;rw[hstep,ZU,show j=(m.vars[sc[k].toNat]).hi+1 by omega]
  ·have hk':k=sc.length:=by omega
   subst hk';rw[zO,List.take_length]
theorem W8{m:zF}{con:Int}{must l:List zC}(hat:MC m con=0)(hm:must.length≤1000000)(hl:l.length≤1000000):wO tE [dM m,dI con,.sl (.fr .lit) must,.sl (.fr .lit) l] (.sl (.fr .lit) (VX m con must l)):=
 Ng m con must l λok=>by
  rw[Mx,VX,BK]
  suffices H:∀(k:Nat) (l':List zC) (i:Nat),l'.length≤k+i→i≤l'.length→l'.length≤1000000→∀r,r=must++XB (λl=>iG m con (must++l)) k l' i→lH m con must (λd=>d=.sl (.fr .lit) r) (k+1) l' (i:Int)from⟨_,H l.length l 0 (Nat.le_refl _) (Nat.zero_le _) hl _ rfl⟩
  intro k
  induction k with
  |zero=>
   intro l' i h1 h2 h3 r hr;have hi:i=l'.length:=by omega
   subst hi;rw[Yl,zO];refine zE (fE (ls:=[must,l']) (by show 2≤1000;decide) λx hx=> ?_) ?_
   ·rcases List.mem_cons.1 hx with rfl|hx
    ·exact hm
    ·rw[List.mem_singleton.1 hx];exact h3
   ·rw[hr,XB];simp
  |succ k ih=>
   intro l' i h1 h2 h3 r hr;rw[Yl]
   by_cases h:i<l'.length
   ·have hw:xF ((i:Int)+1)=((i+1:Nat):Int):=V7 (by omega)
    rw[XB,if_pos h]at hr
    have hel:(l'.eraseIdx i).length=l'.length-1:=List.length_eraseIdx_of_lt h;rw[zR h,hw,Int.toNat_natCast,Int.toNat_natCast,Int.toNat_natCast,List.drop_zero,List.take_length]
    have hcat:=fE (ls:=[l'.take i,l'.drop (i+1)]) (by show 2≤1000;decide) λx hx=>by
     rcases List.mem_cons.1 hx with rfl|hx
     ·rw[List.length_take];omega
     ·rw[List.mem_singleton.1 hx,List.length_drop];omega
    have he:[l'.take i,l'.drop (i+1)].flatten=l'.eraseIdx i:=by rw[List.eraseIdx_eq_take_drop_succ];simp
    rw[he]at hcat
    refine⟨Ol (Int.le_refl _) (by omega) (by omega),Ol (by omega) (by omega) (Int.le_refl _),zE hcat ?_⟩
    have hcat2:=fE (ls:=[must,l'.eraseIdx i]) (by show 2≤1000;decide) λx hx=>by
     rcases List.mem_cons.1 hx with rfl|hx
     ·exact hm
     ·rw[List.mem_singleton.1 hx];omega
    have he2:[must,l'.eraseIdx i].flatten=must++l'.eraseIdx i:=by simp
    rw[he2]at hcat2
    refine zE hcat2 (zE (mB.un (PB hat)) (zA (λe=> ?_) λe=> ?_))
    ·rw[if_pos e]at hr
     exact ih _ i (by omega) (by omega) (by omega) r hr
    ·rw[if_neg (by rw[e];decide)]at hr
     exact ih l' (i+1) (by omega) (by omega) h3 r hr
   ·have hi:i=l'.length:=by omega
    subst hi;rw[XB,if_neg (Nat.lt_irrefl _)]at hr
    rw[zO];refine zE (fE (ls:=[must,l']) (by show 2≤1000;decide) λx hx=> ?_) ?_
    ·rcases List.mem_cons.1 hx with rfl|hx
     ·exact hm
     ·rw[List.mem_singleton.1 hx];exact h3
    ·rw[hr];simp
theorem I8{m:zF}{con:Int}{s:List (List Int)}{v n:Int}(hr:AU m con s)(hv:0≤v∧v<s.length):wO qH [dM m,dI con,dS s,dI v,dI n] (.tup [.sl (.fr .lit) (Zp m con s v n),dB (bU m con s v n)]):=
 LZ m con s v n λok=>by
  have hat:=Uu hr.chk hr.cn;have hs:=jB (oT hr.chk) hr.st;have hl:=hs.len;rw[Iu];refine zE (yK s) (zA (λe=> ?_) λe=> ?_)
  ·have e:zY s=true:=e
   rw[Zp,bU,e];rfl
  have e:zY s=false:=e;refine⟨vC.2 hv,zE (yS (a:=n)) ?_⟩;show zN (!pP (s.getD v.toNat []) n) _ _
  refine zA (λf=> ?_) λf=> ?_
  ·have f:pP (s.getD v.toNat []) n=false:=by simpa using f
   rw[Zp,bU,e,f];rfl
  have f:pP (s.getD v.toNat []) n=true:=by simpa using f
  refine⟨vC.2 hr.cn,zE (eW (c:=zZ m con) (by rw[hl];exact hr.right) (by rw[hl];exact hs)) ⟨vC.2 (by rw[hr.op.len hl];omega),zE (mB.un (yS (a:=n))) ?_⟩⟩
  show zN (pP ((yG (zZ m con) s).getD v.toNat []) n) _ _
  refine zA (λg=> ?_) λg=> ?_
  ·rw[Zp,bU,e,f,g];rfl
  ·have hb:bU m con s v n=true:=by rw[bU,e,f,g];rfl
   rw[Zp,if_pos hb,hb];have:=Xs hat (s:=s);exact zE (TJ hat hl) (zE (W8 hat (by show 1≤1000000;decide) (by omega)) rfl)
theorem V2{m:zF}{con:Int}{s:List (List Int)}(hr:AU m con s):wO sC [dM m,dI con,dS s] (.tup [.sl (.fr .lit) (mT m con s),dB (eU m con s)]):=
 Mv m con s λok=>by
  have hat:=Uu hr.chk hr.cn;have hs:=jB (oT hr.chk) hr.st;have hl:=hs.len;rw[LU];refine zE (yK s) (zA (λe=> ?_) λe=> ?_)
  ·have e:zY s=true:=e
   rw[mT,eU,e];rfl
  have e:zY s=false:=e;refine⟨vC.2 hr.cn,zE (eW (c:=zZ m con) (by rw[hl];exact hr.right) (by rw[hl];exact hs)) (zE (mB.un (yK _)) ?_)⟩
  refine zA (λg=> ?_) λg=> ?_
  ·have g:zY (yG (zZ m con) s)=false:=by simpa using g
   rw[mT,eU,e,g];rfl
  ·have g:zY (yG (zZ m con) s)=true:=by simpa using g
   have hb:eU m con s=true:=by rw[eU,e,g];rfl
   rw[mT,if_pos hb,hb];have:=Xs hat (s:=s);exact zE (TJ hat hl) (zE (W8 hat (by decide) (by omega)) rfl)
theorem MZ(m:zF)(con:Int)(s:List (List Int)):wO sH [dM m,dI con,dS s] (.tup [.sl (.fr .lit) (zlu (iO m con s) (mT m con s)),dB (orB (iO m con s) (eU m con s)),dI (iO m con s)]):=
 Nh m con s λok=>by
  rw[My];refine zE (YC m con s) (zA (λe=> ?_) λe=> ?_)
  ·have e:=xO e
   rw[zlv e,zc8 e]
  ·have e:=zU e
   rw[e,A3 rfl,J6 rfl];exact kH (t:=.fr (.list .lit)) (u:=.bool) (V2 (Pw e)) rfl
end Go.Proofs.YteimklbiapnfhaaGreat
namespace Go.Proofs.YteimklbiapnfhaaGreat
open Go.RowKit
set_option linter.unusedVariables false
set_option linter.unusedSimpArgs false
variable[Lo]
abbrev BR(m:zF)(l:List (List zC))(p:FK):List (Nat×wT):=[(1000,.cells [.sl .var m.vars,.sl .con m.cons,dI m.goal,dI m.var,.sl (.list .lit) l,.sl (.fr (.list .int)) p.2,.own 2000]),(2000,.row 72 (.fr .step) p.1)]
theorem BS{m:zF}(hr:Right m)(d:List zC):wO kQ [dM m,.sl .lit d] (.sl (.fr (.list .int)) (cU m d)):=
 DI m d λok=>by
  have hl:=(mC (t:=.lit) (WD (okR ok))).1;have hl:d.length*24≤140737488355328:=hl;rw[Bv];refine zE (PS hr.lohi hr.vars) ?_;refine up (I:=λn v a=>YX d _ n a v) 0 d.length rfl (Nat.zero_le _) (by omega) (λk a=>a=(d.take k).foldl zc9 (sE m)) rfl λn k a _ hk ha hn=> ?_
  subst ha;rw[Ip]
  by_cases h:k<d.length
  ·rw[zR h,zP (t:=.lit) h]
   refine⟨zI h,zE (mB.un (zdT _ _)) (hn h _ ?_)⟩;rw[←List.take_append_getElem h,List.foldl_append];rfl
  ·have hk':k=d.length:=by omega
   subst hk';rw[zO,List.take_length];rfl
theorem TK{d:List zC}(hd:d.length≤1000000)(h:∀x∈d,-1000000≤x.n∧x.n≤1000000):wO rC [.sl .lit d] (.sl (.fr .lit) (d.map X3)):=
 LT d λok=>by
  rw[Im];refine up (I:=λn v a=>dX d _ n v a) 0 d.length rfl (Nat.zero_le _) (by omega) (λk a=>a=(d.take k).map X3) rfl λn k a _ hk ha hn=> ?_
  subst ha;rw[Nf]
  by_cases hk2:k<d.length
  ·rw[zR hk2,zP (t:=.lit) hk2]
   refine⟨zI hk2,zE (Xz _ (h _ (List.getElem_mem hk2))) ⟨xR (t:=.fr .lit) ?_,hn hk2 _ ?_⟩⟩
   ·rw[List.length_map,List.length_take];show(_+1)*24≤_;omega
   ·rw[←List.take_append_getElem hk2,List.map_append];rfl
  ·have hk':k=d.length:=by omega
   subst hk';rw[zO,List.take_length]
theorem Fo(m:zF)(l:List (List zC))(d:List zC):wO rA [dM m,.sl (.list .lit) l,.sl .lit d] (.tup [.sl (.fr .lit) (I2 m l d),dB (W3 m l d),dI (XC m l d)]):=
 Io m l d λok=>by
  rw[GS,I2,W3];refine zE (Yh m l d) (zA (λe=> ?_) λe=> ?_)
  ·have e:=xO e
   rw[if_neg e,zc8 e]
  have e:=zU e;have hk:=W2 e;rw[if_pos e,J6 e,e];refine kH (t:=.list .lit) (u:=.bool) (aN hk.mc (by have:=hk.len;omega) (by have:=hk.dl;omega)) (zA (λf=> ?_) λf=> ?_)
  ·have f:oY m l d=false:=by simpa using f
   rw[f];rfl
  ·have f:oY m l d=true:=by simpa using f
   rw[if_pos f,f];have hf:=hk.sub (SN (m:=m) (l:=l) (d:=d));exact zE (TK (by have:=hf.dl;omega) hf.near) (by rw[if_pos rfl])
theorem PV{m:zF}{l:List (List zC)}{d:List zC}{p:FK}(h:Tr m l d p.1 p.2)(hk:vP m l d){i:Nat}(hi:i<m.cons.length)(hf:zY p.2=false):
  cV uV [.ptr 1000 0,dI i] (BR m l p) (dB (Xt m i p).2) (BR m l (Xt m i p).1):=by
 obtain⟨st,s⟩:=p;have h:Tr m l d st s:=h;have hf:zY s=false:=hf;refine RY m.vars m.cons m.goal m.var l s st i λok ok2=> ?_
 have hat:=zfn hk hi;have hr:=h.filtR hk (i:=(i:Int)) (by omega)
 have hs:=jB (oT hr.chk) hr.st;have hl:=hr.len;have hsz:=h.size;have hsl:s.length≤6:=by rw[hl];exact hk.mc.right.vars
 rw[Pc];have hc:zG .con m.cons (i:Int).toNat=zZ m i:=by rw[zZ,zP hi,Int.toNat_natCast,yN _ hi]
 rw[hc];refine⟨zI hi,zE (mB.un (eW (c:=zZ m i) (by rw[hl];exact hr.right) (by rw[hl];exact hs))) (zE (mB.un (yK _)) (zA (λe=> ?_) λe=> ?_))⟩
 ·have e:zY (yG (zZ m i) s)=true:=e
  refine kH (t:=.fr (.list .lit)) (u:=.bool) (mB.un (V2 hr)) ⟨xR (t:=.fr .step) ?_,zE (mB.un (fD _)) ?_⟩
  ·show(st.length+1)*40≤_;omega
  ·rw[Xt,if_pos e];exact⟨rfl,rfl⟩
 ·have e:zY (yG (zZ m i) s)=false:=e
  have hcon:Xt m i (st,s)=((st++xK m i s (yG (zZ m i) s) s.length,yG (zZ m i) s),!(xK m i s (yG (zZ m i) s) s.length).isEmpty):=by
   rw[Xt,if_neg (by rw[e];decide)]
  rw[hcon];have hxl:(yG (zZ m i) s).length=s.length:=(hr.op.len hl).trans hl.symm;generalize yG (zZ m i) s=x at e hxl hcon⊢
  have hrow:∀k,(s.getD k []).length≤6:=λk=>Nat.le_trans (h.le.2 k).length_le (Kx hk.mc.right k)
  have hlen:∀k,(xK m i s x k).length≤k*6:=λk=>by
   induction k with
   |zero=>exact Nat.le_refl _
   |succ k ih=>
    have h1:=List.length_filter_le (λn=> !pP (x.getD k []) n) (s.getD k [])
    have h2:=hrow k;rw[bX,List.length_append,PI,List.length_map];omega
  refine up (I:=λn v (a:Bool×List xN)=>oU s i _ x n a.1 v m.vars m.cons m.goal m.var l s a.2) (a:=(false,st)) 0 s.length rfl (Nat.zero_le _) (by omega) (λk a=>a=(!(xK m i s x k).isEmpty,st++xK m i s x k)) (by show _=(!true,st++[]);rw[List.append_nil];rfl) λn k a _ hkl ha hn=> ?_
  subst ha;show oU _ _ _ _ _ (!(xK m i s x k).isEmpty) _ _ _ _ _ _ _ (st++xK m i s x k)
  rw[Tl]
  by_cases hks:k<s.length
  ·have hkx:k<x.length:=by omega
   rw[zR hks];refine⟨zI hks,?_⟩;have hg:s.getD k []=s[k]:=yN _ hks;have hgx:x.getD k []=x[k]:=yN _ hkx;have hrk:=hrow k
   refine up (I:=λn v (a:Bool×List xN)=>rZ s i _ x _ k n a.1 v m.vars m.cons m.goal m.var l s a.2) (a:=(!(xK m i s x k).isEmpty,st++xK m i s x k)) 0 (s.getD k []).length rfl (Nat.zero_le _) (by omega)
    (λj a=>a=(!(xK m i s x k++(((s.getD k []).take j).filter λn=> !pP (x.getD k []) n).map (bW m i s k)).isEmpty,st++(xK m i s x k++(((s.getD k []).take j).filter λn=> !pP (x.getD k []) n).map (bW m i s k)))) (by simp) λn2 j a _ hjl ha hn2=> ?_
   subst ha;show rZ _ _ _ _ _ _ _ (!(xK m i s x k++_).isEmpty) _ _ _ _ _ _ _ (st++(xK m i s x k++_))
   rw[Tk,zP (t:=.fr (.list .int)) hks,zP (t:=.fr (.list .int)) hkx,←hg,←hgx]
   by_cases hj:j<(s.getD k []).length
   ·rw[zR hj,zP (t:=.fr .int) hj]
    refine⟨zI hj,zI hkx,zE (mB.un (yS (a:=(s.getD k [])[j]))) ?_⟩;have ht:=zdO (m:=m) (i:=(i:Int)) (x:=x) hj;show zN (pP (x.getD k []) (s.getD k [])[j]) _ _
    refine zA (λf=> ?_) λf=> ?_
    ·rw[if_pos f,List.append_nil]at ht
     exact hn2 hj (_,_) (by rw[ht];rfl)
    ·rw[if_neg (by rw[f];decide)]at ht
     refine kH (t:=.fr (.list .lit)) (u:=.bool) (mB.un (I8 hr (by omega))) ⟨xR (t:=.fr .step) ?_,?_⟩
     ·have h1:=hlen k
      have h2:=List.length_filter_le (λn=> !pP (x.getD k []) n) ((s.getD k []).take j)
      rw[List.length_take]at h2
      rw[List.length_append,List.length_append,List.length_map];show(_+1)*40≤_
      omega
     ·refine hn2 hj (_,_) ?_
      rw[ht,W5,List.append_assoc st,List.append_assoc (xK m i s x k)];rfl
   ·have hj':j=(s.getD k []).length:=by omega
    subst hj';rw[zO,List.take_length];exact hn hks (_,_) (by rw[bX];rfl)
  ·have hk':k=s.length:=by omega
   subst hk';rw[zO];exact⟨rfl,rfl⟩
theorem PW{m:zF}{l:List (List zC)}{d:List zC}(hk:vP m l d)(hb:wH (cU m d)≤36):
  cV uU [.ptr 1000 0] (BR m l ([],cU m d)) (.tup []) (BR m l (TC m l 37 ([],cU m d))):=by
 refine RZ m.vars m.cons m.goal m.var l (cU m d) [] λok ok2=> ?_
 rw[Pd];have hll:=hk.len;have hcl:=hk.mc.right.cons
 suffices H:∀(k:Nat) (p:FK),Tr m l d p.1 p.2→wH p.2≤k→∀q,q=TC m l (k+1) p→wX (λd h1=>d=D.tup []∧h1=BR m l q) (k+2) true m.vars m.cons m.goal m.var l p.2 p.1 from⟨_,H 36 _ (Tr.begin hk) hb _ rfl⟩
 intro k
 induction k using Nat.strongRecOn with
 |ind k ih=>
  intro p h hsz q hq
  have out:∀(n:Nat) (p:FK),wX (λd h1=>d=D.tup []∧h1=BR m l p) (n+1) false m.vars m.cons m.goal m.var l p.2 p.1:=λn p=>by
   rw[Zl];exact⟨rfl,rfl⟩
  rw[Zl];refine zE (mB.un (yK _)) (zA (λf=> ?_) λf=> ?_)
  ·have f:zY p.2=false:=by simpa using f
   rw[TC,if_neg (by rw[f];decide)]at hq
   obtain⟨j1,j2,j3⟩:=PJ h hk f;have hpos:=KE (by rw[h.len];exact hk.mc.pos) f
   have fin:∀(r:FK×Bool),Tr m l d r.1.1 r.1.2→r=iP m m.cons.length 0 p false→
     zX sX [.agg [.sl .var m.vars,.sl .con m.cons,dI m.goal,dI m.var],.sl (.fr (.list .int)) r.1.2,dB false,.sl (.list .lit) l] (.fr (.list (.list .int))) λf23=>
      zX zT [.sl (.fr (.list .int)) f23,.sl (.fr (.list .int)) r.1.2,.clo yR none []] .bool λs24=>
       zN (!s24) (wX (λd h1=>d=D.tup []∧h1=BR m l q) (k+1) true m.vars m.cons m.goal m.var l f23 r.1.1)
        (wX (λd h1=>d=D.tup []∧h1=BR m l q) (k+1) r.2 m.vars m.cons m.goal m.var l f23 r.1.1):=λr hr e=>by
    have hrd:jH m l p=((r.1.1,sD m false l r.1.2),if sD m false l r.1.2=r.1.2 then r.2 else true):=by rw[jH,←e]
    refine zE (mB.un (PU hk.mc (jB hk.mc.right hr.store) (by omega))) (zE (mB.un (A7 _ _)) ?_)
    have nxt:(jH m l p).2=true→wX (λd h1=>d=D.tup []∧h1=BR m l q) (k+1) true m.vars m.cons m.goal m.var l (sD m false l r.1.2) r.1.1:=λe2=>by
     rw[if_pos e2]at hq
     have:=j2 e2
     match k,ih,hsz,hq with
     |0,ih,hsz,hq=>omega
     |k+1,ih,hsz,hq=>
      have:=ih k (by omega) (jH m l p).1 j1 (by omega) q hq
      rw[hrd]at this
      exact this
    refine zA (λg=> ?_) λg=> ?_
    ·have g:sD m false l r.1.2≠r.1.2:=by simpa using g
     exact nxt (by rw[hrd];exact if_neg g)
    ·have g:sD m false l r.1.2=r.1.2:=by simpa using g
     have g2:(jH m l p).2=r.2:=by rw[hrd];exact if_pos g
     cases e2:r.2
     ·rw[g2,e2,if_neg (by decide)]at hq
      have:=out k q;rw[hq,hrd]at this
      rw[hq,hrd];exact this
     ·exact nxt (g2.trans e2)
   suffices H2:∀(j i:Nat) (p2:FK) (c:Bool),i+j=m.cons.length→Tr m l d p2.1 p2.2→iP m j i p2 c=iP m m.cons.length 0 p false→oV (λd h1=>d=D.tup []∧h1=BR m l q) (k+1) (j+1) c (i:Int) m.vars m.cons m.goal m.var l p2.2 p2.1 from⟨_,H2 m.cons.length 0 p false (Nat.zero_add _) h rfl⟩
   intro j
   induction j with
   |zero=>
    intro i p2 c hij h2 he;have hi:i=m.cons.length:=by omega
    subst hi;rw[Zk,zO];exact fin (p2,c) h2 he
   |succ j ihj=>
    intro i p2 c hij h2 he;have hi:i<m.cons.length:=by omega
    rw[Zk,zR hi];refine zE (mB.un (yK _)) (zA (λg=> ?_) λg=> ?_)
    ·have g:zY p2.2=false:=by simpa using g
     rw[iP,if_neg (by rw[g];decide)]at he
     obtain⟨t1,t2,t3⟩:=I6 h2 hk hi g;refine⟨_,_,_,PV h2 hk hi g,?_⟩;have hw:xF ((i:Int)+1)=((i+1:Nat):Int):=V7 (by omega)
     rw[hw];refine zA (λe=> ?_) λe=> ?_
     ·rw[e]at he;exact ihj (i+1) _ true (by omega) t1 he
     ·rw[e]at he;exact ihj (i+1) _ c (by omega) t1 he
    ·have g:zY p2.2=true:=by simpa using g
     rw[iP,if_pos g]at he
     exact fin (p2,c) h2 he
  ·have f:zY p.2=true:=by simpa using f
   rw[TC,if_pos f]at hq
   rw[hq];exact⟨rfl,rfl⟩
theorem Fp{m:zF}{l:List (List zC)}{d:List zC}(hk:vP m l d):wO mW [dM m,.sl (.list .lit) l,.sl .lit d] (.sl (.fr .step) (I5 m l d)):=
 Il m l d λok=>by
  rw[GR];have hb:=Tr.begin hk;have hsz:wH (cU m d)≤36:=by have:=hb.size;simpa using this
  have hr:(TC m l 37 ([],cU m d)).1.length+wH (TC m l 37 ([],cU m d)).2≤36:=(Om hk 36 ([],cU m d) hb hsz).1.size;refine zE (BS hk.mc.right d) ⟨_,_,PW hk hsz,zE (TK (by have:=hk.dl;omega) hk.near) ⟨xR (t:=.fr .step) ?_,rfl⟩⟩
  show(_+1)*40≤_
  omega
theorem Fq(m:zF)(l:List (List zC))(d:List zC):wO oq [dM m,.sl (.list .lit) l,.sl .lit d] (.tup [.sl (.fr .step) (CR m l d),dB (W3 m l d),dI (XC m l d)]):=
 Ie m l d λok=>by
  rw[GO,CR,W3];refine zE (Yh m l d) (zA (λe=> ?_) λe=> ?_)
  ·have e:=xO e
   rw[if_neg e,zc8 e]
  have e:=zU e;have hk:=W2 e;rw[if_pos e,J6 e,e];refine kH (t:=.list .lit) (u:=.bool) (aN hk.mc (by have:=hk.len;omega) (by have:=hk.dl;omega)) (zA (λf=> ?_) λf=> ?_)
  ·have f:oY m l d=false:=by simpa using f
   rw[f];rfl
  ·have f:oY m l d=true:=by simpa using f
   rw[if_pos f,f];exact zE (Fp (hk.sub SN)) (by rw[if_pos rfl])
end Go.Proofs.YteimklbiapnfhaaGreat
namespace Go.Proofs.YteimklbiapnfhaaGreat
open Go.RowKit
set_option linter.unusedVariables false
set_option linter.unusedSimpArgs false
variable[Lo]
def plE:D→D
 | .agg cs=> .agg (cs.map plD)
 |d=>plD d
theorem zoj{w:World}{S:Nat→Prop}{v:Value}{d:D}(h:Rp w S v d):Rp w S v (plE d):=by
 cases d
 case agg cs=>
  obtain⟨vs,rfl,hl,he⟩:=h.agg_inv;refine .agg vs _ (by simpa using hl) λi d hd=> ?_
  rw[List.getElem?_map,Option.map_eq_some_iff]at hd
  obtain⟨d0,h0,rfl⟩:=hd;exact zgN (he i d0 h0)
 all_goals exact zgN h
theorem mB.unA{P:Program}{f:FuncId}{args:List D}{r:D}(h:mB P f (args.map plE) r):mB P f args r:=λw S vs hS hl hv hg=>
 h w S vs hS (by rw[List.length_map];exact hl) (λi d hd=>by
  rw[List.getElem?_map,Option.map_eq_some_iff]at hd
  obtain⟨d0,h0,rfl⟩:=hd;exact zoj (hv i d0 h0)) hg
theorem TL{t:Ty}{xs:List t.den}(h:M0 (.list t) xs)(hb:1≤t.bytes):xs.length≤9223372036854775807:=by
 have h1:xs.length*t.bytes≤140737488355328:=h.1;have:xs.length*1≤xs.length*t.bytes:=Nat.mul_le_mul_left _ hb;omega
theorem S9:SpP Tryz.prog pJ .int:=TH λa0 ha=>by
 rw[TG];refine up (I:=λn v a=>nJ n a v) 0 a0.length rfl (Nat.zero_le _) (TL ha (by decide)) (λk a=>a.length=a0.length) rfl λn k a _ hk hl hn=> ?_
 rw[W6]
 by_cases h:k<a.length
 ·rw[zR h]
  exact⟨zI h,λy hy=>hn (by omega) y (hy.trans hl)⟩
 ·obtain rfl:k=a.length:=by omega
  rw[zO];trivial
theorem TM:SpP Tryz.prog qE (.list .int):=Uy λa0 ha=>by
 rw[Ux];refine up (I:=λn v a=>oG n a v) 0 a0.length rfl (Nat.zero_le _) (TL ha (by decide)) (λk a=>a.length=a0.length) rfl λn k a _ hk hl hn=> ?_
 rw[Wf]
 by_cases h:k<a.length
 ·rw[zR h]
  exact⟨zI h,S9,λy hy=>hn (by omega) y (hy.trans hl)⟩
 ·obtain rfl:k=a.length:=by omega
  rw[zO];trivial
theorem jJ:SpP Tryz.prog uJ .lit:=Vp λa0 ha=>by
 rw[Vo];refine up (I:=λn v a=>pG n a v) 0 a0.length rfl (Nat.zero_le _) (TL ha (by decide)) (λk a=>a.length=a0.length) rfl λn k a _ hk hl hn=> ?_
 rw[XD]
 by_cases h:k<a.length
 ·rw[zR h]
  exact⟨zI h,λy hy=>hn (by omega) y (hy.trans hl)⟩
 ·obtain rfl:k=a.length:=by omega
  rw[zO];trivial
theorem TN:SpP Tryz.prog qF .step:=UA λa0 ha=>by
 rw[Uz];refine up (I:=λn v a=>oH n a v) 0 a0.length rfl (Nat.zero_le _) (TL ha (by decide)) (λk a=>a.length=a0.length) rfl λn k a _ hk hl hn=> ?_
 rw[Wg]
 by_cases h:k<a.length
 ·rw[zR h]
  exact⟨zI h,jJ,λy hy=>⟨zI (by omega),λz hz=>hn (by omega) z (hz.trans (hy.trans hl))⟩⟩
 ·obtain rfl:k=a.length:=by omega
  rw[zO];trivial
theorem bZ(s:List (List Int)):wO rT [dS s] (dS s):=
 Vk s λok=>by
  have hs:M0 (.list (.list .int)) s:=WD ok;have h1:s.length*24≤140737488355328:=hs.1;rw[Un];refine up (I:=λn v a=>oD s _ n v a) 0 s.length rfl (Nat.zero_le _) (by omega) (λk a=>a=s.take k) rfl λn k a _ hk ha hn=> ?_
  subst ha;rw[X1]
  by_cases h:k<s.length
  ·rw[zR h,zP (t:=.list .int) h,List.nil_append]
   have h2:M0 (.list .int) s[k]:=hs.2 _ (List.getElem_mem h);refine⟨zI h,xR (t:=.int) ?_,xR (t:=.list .int) ?_,hn h _ (List.take_append_getElem h)⟩
   ·have:=h2.1;simpa using this
   ·rw[List.length_take]
    show(_+1)*24≤_
    omega
  ·have hk':k=s.length:=by omega
   subst hk';rw[zO,List.take_length]
theorem W9(s:List (List zC)):wO pC [.sl (.list .lit) s] (.sl (.list .lit) s):=
 X2 s λok=>by
  have hs:M0 (.list (.list .lit)) s:=WD ok;have h1:s.length*24≤140737488355328:=hs.1;rw[WO];refine up (I:=λn v a=>qM s _ n v a) 0 s.length rfl (Nat.zero_le _) (by omega) (λk a=>a=s.take k) rfl λn k a _ hk ha hn=> ?_
  subst ha;rw[Xl]
  by_cases h:k<s.length
  ·rw[zR h,zP (t:=.list .lit) h,List.nil_append]
   have h2:M0 (.list .lit) s[k]:=hs.2 _ (List.getElem_mem h);refine⟨zI h,xR (t:=.lit) ?_,xR (t:=.list .lit) ?_,hn h _ (List.take_append_getElem h)⟩
   ·have:=h2.1;simpa using this
   ·rw[List.length_take]
    show(_+1)*24≤_
    omega
  ·have hk':k=s.length:=by omega
   subst hk';rw[zO,List.take_length]
end Go.Proofs.YteimklbiapnfhaaGreat
namespace Go.Proofs.YteimklbiapnfhaaGreat
open Go.RowKit
set_option linter.unusedVariables false
set_option linter.unusedSimpArgs false
section
variable[Lo]{m:zF}{con:Int}{s t:List (List Int)}{l:List (List zC)}{d:List zC}{w:Int}{want:List (List Int)}
theorem zm7{n0:Nat}{v1:Int}{e16 l19:List zC}{l22:List xN}{al:List (List (List Int))}(hal:al.length=7)(hn0:vS m con s t l d w want n0 (xF (v1+1))):
  ∃n4,rI m con s t l d w want n0 v1 n4 e16 l19 l22 al 0:=by
 refine up (I:=λn v (a:List zC×List zC×List xN×List (List (List Int)))=>rI m con s t l d w want n0 v1 n a.1 a.2.1 a.2.2.1 a.2.2.2 v) (a:=(e16,l19,l22,al)) 0 7 rfl (by omega) (by omega) (λk a=>a.2.2.2.length=7) hal λn k a _ hk hl hn=> ?_
 rw[Wh]
 by_cases h:k<a.2.2.2.length
 ·rw[zR h]
  exact⟨zI h,TM,λy1 _ y2 _ y3 _ y4 h4=>hn (by omega) (y1,y2,y3,y4) (h4.trans hl)⟩
 ·obtain rfl:k=a.2.2.2.length:=by omega
  rw[zO];exact⟨jJ,λ_ _ _ _ _ _ _ _=>⟨jJ,λ_ _ _ _ _ _ _ _=>⟨TN,λ_ _ _ _ _ _ _ _=>hn0⟩⟩⟩
theorem zm8{n0:Nat}{v1:Int}{s2 s4 f6 c8 c10 f12 f14:List (List Int)}{e16 l19:List zC}{l22:List xN}(hll:l.length≤9223372036854775807)(hn0:vS m con s t l d w want n0 (xF (v1+1))):
  ∃n2,rJ m con s t l d w want n0 v1 s2 s4 f6 c8 c10 f12 f14 e16 l19 l22 n2 0:=by
 refine up0 (I:=λn v=>rJ m con s t l d w want n0 v1 s2 s4 f6 c8 c10 f12 f14 e16 l19 l22 n v) 0 l.length rfl (Nat.zero_le _) hll (λ_=>True) trivial λn k _ hk _ hn=> ?_
 rw[Wi]
 by_cases h:k<l.length
 ·rw[zR h]
  exact⟨zI h,zI h,zE (mB.unA (nI _ _)) (Ay (decide_eq_true rfl) (hn h trivial))⟩
 ·obtain rfl:k=l.length:=by omega
  rw[zO];exact zm7 rfl hn0
theorem zjE(hll:l.length≤9223372036854775807)(h1:Px m s l=w)(h2:w=0→sD m true l s=want):∃n0,vS m con s t l d w want n0 0:=by
 refine up0 (I:=λn v=>vS m con s t l d w want n v) 0 2 rfl (by omega) (by omega) (λ_=>True) trivial λn k _ hk _ hn=> ?_
 rw[Wj]
 by_cases h:k<2
 ·refine dt (by omega) ?_
  refine kH (t:=.fr (.list (.list .int))) (u:=.int) (mB.unA (Fk m)) ?_;refine kH (t:=.fr (.list (.list .int))) (u:=.int) (mB.unA (CV m s t)) ?_;refine kH (t:=.fr (.list (.list .int))) (u:=.int) (mB.unA (Jd m con s)) ?_;refine kH (t:=.fr (.list (.list .int))) (u:=.int) (mB.unA (Fl m s d)) ?_;refine kH (t:=.fr (.list (.list .int))) (u:=.int) (mB.unA (Fm m s d)) ?_;refine kH (t:=.fr (.list (.list .int))) (u:=.int) (mB.unA (zb9 m s l)) ?_;refine kH (t:=.fr (.list (.list .int))) (u:=.int) (mB.unA (zb8 m s)) ?_;refine Lm (t:=.fr (.list .lit)) (u:=.bool) (v:=.int) (mB.unA (MZ m con s)) ?_;refine Lm (t:=.fr (.list .lit)) (u:=.bool) (v:=.int) (mB.unA (Fo m l d)) ?_;refine Lm (t:=.fr (.list .step)) (u:=.bool) (v:=.int) (mB.unA (Fq m l d)) ?_;refine zE (mB.unA (SP m m)) (Ay (decide_eq_true rfl) ?_);refine zE (mB.unA (xC s s)) (Ay (decide_eq_true rfl) ?_);refine zE (mB.unA (xC t t)) (Ay (decide_eq_true rfl) ?_);refine zE (mB.unA (nI d d)) (Ay (decide_eq_true rfl) ?_);refine zE (mB.unA (QV _ _ _ _)) (Ay (zn6 h1 h2) ?_);exact zm8 hll (hn h trivial)
 ·exact df (by omega) rfl
end
def rsL(m:zF)(con:Int)(s t:List (List Int))(l:List (List zC))(d:List zC)(w:Int)(want:List (List Int)):St:=
 ⟨[(1,dI con),(2,dS s),(3,dS t),(4,.sl (.list .lit) l),(5,.sl .lit d),(6,.ptr 6 0),(13,.ptr 13 0),(14,dS s),(15,dS t),(16,.sl (.list .lit) l),(17,.sl .lit d),(18,dI w),(19,dS want)],
  [(6,.cells [.sl .var m.vars,.sl .con m.cons,dI m.goal,dI m.var]),(13,.cells [.sl .var m.vars,.sl .con m.cons,dI m.goal,dI m.var])]⟩
 local instance:Lo:=LoT
theorem TP(hcm:∀m,@mB LoT Tryz.prog rS [dM m] (dM m))(m:zF)(con:Int)(s t:List (List Int))(l:List (List zC))(d:List zC):
  @mB LoT Tryz.prog ZB [dM m,dI con,dS s,dS t,.sl (.list .lit) l,.sl .lit d] (dB true):=by
 intro W S vs hS hl hv hg;have hok:Hn (.sl (.list .lit) l):= @EU LoT _ _ _ _ (hv 4 _ rfl);have hll:l.length≤9223372036854775807:=TL (t:=.list .lit) hok (by decide)
 have hld:Hn (.sl .lit d):= @EU LoT _ _ _ _ (hv 5 _ rfl);have hd:M0 (.list .lit) d:=hld
 refine zmA (A1:=Zq) (A2:=yU) (fn:=Tryz.f3) (body:=sQ Tryz.f3) (n:=7) (i:=12) (pubs:=[(77,999999)]) (L:=([1,2,3,4,5,6,13,14,15,16,17,18,19],[6,13]))
  (Q:=λσ=>∃w want,Px m s l=w∧(w=0→sD m true l s=want)∧σ=rsL m con s t l d w want) (@Lp LoT) PK zdQ Tryz.func3 (by kernel_rfl) (by kernel_rfl) (by rw[Tryz.ntmps3];rfl) (by rw[Tryz.ntmps3];rfl) (by rw[Tryz.ntmps3];exact Nat.le_of_ble_eq_true rfl) (by kernel_rfl) ?_ ?_ ?_ W S vs hS hl hv hg
 ·rintro σ ⟨w,want,_,_,rfl⟩;rfl
 ·intro ok
  rw[UB];have fin:∀w want,Px m s l=w→(w=0→sD m true l s=want)→∃w' want',Px m s l=w'∧(w'=0→sD m true l s=want')∧rsL m con s t l d w want=rsL m con s t l d w' want':=λw want h1 h2=>⟨w,want,h1,h2,rfl⟩
  refine zE Tc (Ay rfl (zE Uv (Ay rfl (zE Up (Ay rfl (zE R7 (Ay rfl (zE Vn (Ay rfl (zE TF (Ay rfl ?_)))))))))));refine zE (t:=.mdl) (hcm m) (zE (t:=.list (.list .int)) (bZ s) (zE (t:=.list (.list .int)) (bZ t) (zE (t:=.list (.list .lit)) (W9 l) ⟨xR (t:=.lit) (by have:=hd.1;simpa using this),zE (Tb m s) ?_⟩)))
  by_cases h7:vB m [s]=0
  ·have hF0:=WZ (m:=m) (s:=s) (l:=[]) (by rw[Py];exact h7)
   refine dt h7 (zE (Vm hF0.chk l) ?_)
   by_cases h8:Y3 m.vars.length l=0
   ·have hF:=WZ (m:=m) (s:=s) (l:=l) ((IM h7).trans h8)
    exact dt h8 (zE (t:=.list (.list .int)) (MM true hF) (fin _ _ (IM h7) λ_=>rfl))
   ·exact df h8 (fin _ _ (IM h7) λe=>absurd e h8)
  ·exact df h7 (df h7 (fin _ _ (zbv h7) λe=>absurd e h7))
 ·rintro σ ⟨w,want,h1,h2,rfl⟩ new
  exact zml (@UC ⟨new⟩ m con s t l d w want) (@zjE ⟨new⟩ m con s t l d w want hll h1 h2)
end Go.Proofs.YteimklbiapnfhaaGreat
namespace Go.Proofs.YteimklbiapnfhaaGreat
open Go.RowKit
set_option linter.unusedVariables false
set_option linter.unusedSimpArgs false
section
variable[Lo]
theorem UF(m:zF):wO rS [dM m] (dM m):=
 Vq m λok=>by
  have hok:∀c∈[D.sl .var m.vars,.sl .con m.cons,.int .i64 m.goal,.int .i64 m.var],okC c:=WD ok;have hv:M0 (.list .var) m.vars:=hok _ (List.mem_cons_self ..);have hc:M0 (.list .con) m.cons:=hok _ (List.mem_cons_of_mem _ (List.mem_cons_self ..));have hcl:m.cons.length*112≤140737488355328:=hc.1;rw[UE];refine⟨xR (t:=.var) (by have:=hv.1;simpa using this),?_⟩
  refine up (I:=λn v (a:List zQ)=>oJ _ n v m.cons m.goal m.var ([]:List vF) ([]:List zQ) 0 0 a ([]++m.vars)) 0 m.cons.length rfl (Nat.zero_le _) (by omega) (λk a=>a=m.cons.take k) rfl λn k a _ hk ha hn=> ?_
  subst ha;rw[Wl]
  by_cases h:k<m.cons.length
  ·rw[zR h]
   have e:=zP (t:=.con) h;have hcon:M0 .con m.cons[k]:=hc.2 _ (List.getElem_mem h);obtain⟨_,_,h1,h2,h3,h4⟩:=hcon;have h3l:m.cons[k].rows.length*24≤140737488355328:=h3.1;refine⟨zI h,TI _ _ _ _ _ _ _ _ _ _ (xR (t:=.int) ?_) (xR (t:=.int) ?_) (xR (t:=.lit) ?_) ?_⟩
   ·rw[e,List.length_nil,Nat.zero_add];exact h1.1
   ·rw[e,List.length_nil,Nat.zero_add];exact h2.1
   ·rw[e,List.length_nil,Nat.zero_add];exact h4.1
   ·rw[W7 m,e]
    refine up (I:=λn2 v (b:List (List Int))=>oI _ n (k:Int) m.cons m.goal m.var ([]:List vF) ([]:List zQ) 0 0 n2 v (m.cons.take k) b ([]++m.vars) ([]++m.cons[k].vars) ([]++m.cons[k].consts) ([]++m.cons[k].lits)) 0 m.cons[k].rows.length rfl (Nat.zero_le _) (by omega) (λj b=>b=m.cons[k].rows.take j) rfl λn2 j b _ hj hb hn2=> ?_
    subst hb;rw[Wk,e]
    by_cases h5:j<m.cons[k].rows.length
    ·rw[zR h5,zP (t:=.list .int) h5,List.nil_append]
     have h6:M0 (.list .int) m.cons[k].rows[j]:=h3.2 _ (List.getElem_mem h5);refine⟨zI h5,xR (t:=.int) ?_,xR (t:=.list .int) ?_,hn2 h5 _ (List.take_append_getElem h5)⟩
     ·rw[List.length_nil,Nat.zero_add];exact h6.1
     ·rw[List.length_take]
      show(_+1)*24≤_
      omega
    ·obtain rfl:j=m.cons[k].rows.length:=by omega
     rw[zO];refine⟨xR (t:=.con) ?_,hn h _ ?_⟩
     ·rw[List.length_take]
      show(_+1)*112≤_
      omega
     ·rw[List.take_length,List.nil_append,List.nil_append,List.nil_append]
      exact List.take_append_getElem h
  ·obtain rfl:k=m.cons.length:=by omega
   rw[zO,List.take_length,List.nil_append]
end
 local instance:Lo:=LoT
theorem TQ(m:zF)(con:Int)(s t:List (List Int))(l:List (List zC))(d:List zC):
  @mB LoT Tryz.prog ZB [dM m,dI con,dS s,dS t,.sl (.list .lit) l,.sl .lit d] (dB true):=
 TP (λm=> @UF LoT m) m con s t l d
end Go.Proofs.YteimklbiapnfhaaGreat
namespace Go.Proofs.YteimklbiapnfhaaGreat
open Go.RowKit Go.ChangeShapes Go.WideShapes Go.Deep
set_option linter.unusedVariables false
set_option linter.unusedSimpArgs false
def uZ(α:Type)[xT α](P:Program)(t:TypeId):Prop:=
 P.cellsOf t=xT.size α∧∀(H:Type) (enc:TypeId×Value→H) (w:World) (fuel:Nat) (cs:List Value) (x:DataW H×List MemPlace),
  DataW.trod enc P w 0 (λ_=>true) true fuel t cs=some x→(∀n∈x.1.weights P t,n≤reachBytes)→∃y:α,xT.rd w (λb=>b<w.heap.size) cs y
theorem zgO{P:Program}{t:TypeId}(ht:P.underlying t=some (.int .i64))(hc:P.cellsOf t=1):uZ Int P t:=
 ⟨hc,λH enc w fuel cs x h _=>by
  obtain⟨n,rfl,_,hw⟩:=DataW.trod_int ht h;refine⟨n,rfl,?_⟩;simpa[vK,Lit.wf,IntKind.min,IntKind.max,IntKind.signed,IntKind.bits]using hw⟩
theorem zgP{P:Program}{t:TypeId}(ht:P.underlying t=some .string)(hc:P.cellsOf t=1):uZ ByteArray P t:=
 ⟨hc,λH enc w fuel cs x h hw=>by
  obtain⟨s,rfl,rfl,_⟩:=DataW.trod_string ht h;have:=hw s.data.toList.length (by simp[DataW.weights])
  have hr:reachBytes≤140737488355328:=by decide
  exact⟨s,rfl,by simp at this;omega⟩⟩
theorem H9{H:Type}{P:Program}{e:TypeId}:∀ {l:List (DataW H)} {d:DataW H},d∈l→∀n∈d.weights P e,n∈DataW.weightsAll P e l
 |x::l,d,hd,n,hn=>by
  simp only[DataW.weightsAll,List.mem_append];rcases List.mem_cons.1 hd with rfl|h
  ·exact .inl hn
  ·exact .inr (H9 h n hn)
theorem zdU(b o n:Nat):(⟨b,o,none⟩:Addr).add n=⟨b,o+n,none⟩:=by unfold Addr.add;split<;>simp_all
theorem iQ{α:Type}[xT α]{P:Program}{t e:TypeId}(ht:P.underlying t=some (.slice e))(hc:P.cellsOf t=1)(hb:P.bytesOf e=xT.bytes α)(he:uZ α P e):uZ (List α) P t:=
 ⟨hc,λH enc w fuel cs x h hw=>by
  rcases open_slice ht h with⟨rfl,rfl⟩|⟨a,len,cap,m,n,D,Pl,rfl,_,hl,hm,hmm,rfl,hi⟩
  ·exact⟨[],none,0,rfl,by simp,by simp,by simp,λ_=>rfl,λh=>absurd h (by simp)⟩
  ·have hml:len≤m:=by rw[hmm];split<;>omega
   have hall:∀i,i<len→∀n∈(D i).weights P e,n≤reachBytes:=λi hi' n hn=>hw n (by
    simp only[DataW.weights,ht,List.mem_cons,List.mem_append];exact .inr (.inl (H9 (List.mem_map.2 ⟨i,List.mem_range.2 hi',rfl⟩) n hn)))
   have hex:∀i:Fin len,∃y:α,∃cs',w.cells? 0 (a.add (i*xT.size α)) (xT.size α)=some cs'∧xT.rd w (λb=>b<w.heap.size) cs' y:=λi=>by
    obtain⟨cs',h1,h2⟩:=hi i (by omega)
    rw[he.1]at h1
    obtain⟨y,hy⟩:=he.2 H enc w n cs' _ h2 (hall i i.2);exact⟨y,cs',h1,hy⟩
   let f:Fin len→α:=λi=>(hex i).choose
   have hf:∀i:Fin len,∃cs',w.cells? 0 (a.add (i*xT.size α)) (xT.size α)=some cs'∧xT.rd w (λb=>b<w.heap.size) cs' (f i):=λi=>(hex i).choose_spec
   have hbytes:=hw ((len+(m-len))*P.bytesOf e) (by simp[DataW.weights,ht])
   have hr:reachBytes≤140737488355328:=by decide
   have hlb:len*xT.bytes α≤(len+(m-len))*P.bytesOf e:=by rw[hb];exact Nat.mul_le_mul_right _ (by omega)
   refine⟨List.ofFn f,some a,cap,by simp,by simp;omega,by simpa using hl,by simpa[maxLen]using hm,(λe=>by cases e),λhn=> ?_⟩
   simp at hn
   obtain⟨b,o,sp⟩:=a
   have hsp:sp=none:=by
    obtain⟨cs',h1,_⟩:=hf ⟨0,hn⟩;obtain⟨_,hl1,hat⟩:=World.cells?_some h1;have hp:0<xT.size α:=xT.pos;have h0:=hat 0 hp;rw[List.getElem?_eq_getElem (by omega)]at h0
    simpa[Addr.add]using World.cell?_spot h0
   subst hsp
   have hblt:b<w.heap.size:=by
    obtain⟨cs',h1,_⟩:=hf ⟨0,hn⟩;obtain⟨_,hl1,hat⟩:=World.cells?_some h1;have hp:0<xT.size α:=xT.pos;have h0:=hat 0 hp;rw[List.getElem?_eq_getElem (by omega)]at h0
    have:=World.block_lt_of_cell? _ _ h0;simpa[Addr.add]using this
   refine⟨b,o,rfl,hblt,λi y hy=> ?_⟩
   have hil:i<len:=by have:=(List.getElem?_eq_some_iff.1 hy).1;simpa using this
   have hy':y=f ⟨i,hil⟩:=by simpa[List.getElem?_ofFn,hil]using hy.symm
   subst hy';obtain⟨cs',h1,h2⟩:=hf ⟨i,hil⟩;obtain⟨_,hl1,hat⟩:=World.cells?_some h1;refine⟨cs',h2,λj u hu=> ?_⟩
   have hj:j<xT.size α:=by have:=(List.getElem?_eq_some_iff.1 hu).1;omega
   have:=hat j hj;rw[zdU,zdU,hu]at this
   exact this⟩
theorem V3{P:Program}{t:TypeId}{fs:Array Field}{H:Type}{enc:TypeId×Value→H}{w:World}{fuel:Nat}{cs:List Value}{x:DataW H×List MemPlace}(ht:P.underlying t=some (.struct fs))(hone:oneCellFields P fs=true)(hc:P.cellsOf t=fs.size)
  (h:DataW.trod enc P w 0 (λ_=>true) true fuel t cs=some x) (hw:∀n∈x.1.weights P t,n≤reachBytes):
  cs.length=fs.size∧∃n,∀(i:Nat) (f:Field),fs[i]? =some f→∃v y,cs[i]? =some v∧DataW.trod enc P w 0 (λ_=>true) true n f.type [v]=some y∧∀m∈y.1.weights P f.type,m≤reachBytes:=by
 obtain⟨xs,n,_,rfl,hlen,hxl,hf⟩:=DataW.trod_struct ht h;refine⟨by omega,n,λi f hi=> ?_⟩
 have hif:i<fs.size:=(Array.getElem?_eq_some_iff.1 hi).1;obtain⟨ho,hk⟩:=hone_of hone i f hi;have h1:=hf i f hi;rw[ho,hk]at h1
 have hil:i<cs.length:=by omega
 have e:(cs.drop i).take 1=[cs[i]]:=by rw[List.drop_eq_getElem_cons hil];rfl
 rw[e]at h1
 have hxi:xs[i]? =some (xs[i]'(by omega)):=List.getElem?_eq_getElem (by omega)
 refine⟨cs[i],xs[i]'(by omega),List.getElem?_eq_getElem hil,h1.trans hxi,λm hm=>hw m ?_⟩
 simp only[DataW.weights,ht];refine DataW.weights_mem_each (j:=i) (t:=f.type) (d:=(xs[i]'(by omega)).1) ?_ ?_ m hm
 ·rw[List.getElem?_map];simp[hi]
 ·rw[List.getElem?_map,hxi];rfl
theorem Xu{α:Type}[xT α]{P:Program}{t:TypeId}{H:Type}{enc:TypeId×Value→H}{w:World}{v:Value}{d:DataW H}{p:List MemPlace}(ho:uZ α P t)(h:DataW.Trod enc P w 0 (λ_=>true) true t v d p)
  (hs:vOf v.cells.toList=v) (hw:∀n∈d.weights P t,n≤reachBytes):∃y:α,Rds w v y:=by
 obtain⟨fuel,hf⟩:=h;obtain⟨y,hy⟩:=ho.2 H enc w fuel _ _ hf hw;exact⟨y,v.cells.toList,hs.symm,hy⟩
theorem zm9{cs:Array Value}(h:cs.size≠1):vOf (Value.agg cs).cells.toList=.agg cs:=by
 obtain⟨l⟩:=cs
 match l,h with
 |[],_=>rfl
 |[a],h=>exact absurd rfl h
 |a::b::l,_=>rfl
theorem PX{H:Type}{P:Program}{ts:List TypeId}{ds:List (DataW H)}(h:(DataW.weightsEach P ts ds).all (·≤reachBytes)=true){j:Nat}{t:TypeId}{d:DataW H}(ht:ts[j]? =some t)(hd:ds[j]? =some d):∀n∈d.weights P t,n≤reachBytes:=λn hn=>by
 have:=List.all_eq_true.1 h n (DataW.weights_mem_each ht hd n hn);simpa using this
theorem zgQ{P:Program}{t:TypeId}{f0 f1 f2:Field}(ht:P.underlying t=some (.struct #[f0,f1,f2]))(hone:oneCellFields P #[f0,f1,f2]=true)(hc:P.cellsOf t=3)(h0:uZ Int P f0.type)(h1:uZ Int P f1.type)(h2:uZ Int P f2.type):uZ zC P t:=
 ⟨hc,λH enc w fuel cs x h hw=>by
  obtain⟨hl,n,hf⟩:=V3 ht hone hc h hw;obtain⟨v0,y0,c0,t0,w0⟩:=hf 0 f0 rfl;obtain⟨v1,y1,c1,t1,w1⟩:=hf 1 f1 rfl;obtain⟨v2,y2,c2,t2,w2⟩:=hf 2 f2 rfl;obtain⟨x0,e0,q0⟩:=h0.2 H enc w n _ _ t0 w0;obtain⟨x1,e1,q1⟩:=h1.2 H enc w n _ _ t1 w1;obtain⟨x2,e2,q2⟩:=h2.2 H enc w n _ _ t2 w2
  match cs,hl,c0,c1,c2 with
  |[a,b,c],_,c0,c1,c2=>
   simp at c0 c1 c2 e0 e1 e2
   subst c0 c1 c2 e0 e1 e2;exact⟨⟨x0,x1,x2⟩,rfl,q0,q1,q2⟩⟩
theorem zgR{P:Program}{t:TypeId}{f0 f1 f2:Field}(ht:P.underlying t=some (.struct #[f0,f1,f2]))(hone:oneCellFields P #[f0,f1,f2]=true)(hc:P.cellsOf t=3)(h0:uZ ByteArray P f0.type)(h1:uZ Int P f1.type)(h2:uZ Int P f2.type):uZ vF P t:=
 ⟨hc,λH enc w fuel cs x h hw=>by
  obtain⟨hl,n,hf⟩:=V3 ht hone hc h hw;obtain⟨v0,y0,c0,t0,w0⟩:=hf 0 f0 rfl;obtain⟨v1,y1,c1,t1,w1⟩:=hf 1 f1 rfl;obtain⟨v2,y2,c2,t2,w2⟩:=hf 2 f2 rfl;obtain⟨x0,e0,q0⟩:=h0.2 H enc w n _ _ t0 w0;obtain⟨x1,e1,q1⟩:=h1.2 H enc w n _ _ t1 w1;obtain⟨x2,e2,q2⟩:=h2.2 H enc w n _ _ t2 w2
  match cs,hl,c0,c1,c2 with
  |[a,b,c],_,c0,c1,c2=>
   simp at c0 c1 c2 e0 e1 e2
   subst c0 c1 c2 e0 e1 e2;exact⟨⟨x0,x1,x2⟩,rfl,q0,q1,q2⟩⟩
theorem zgS{P:Program}{t:TypeId}{f0 f1 f2 f3 f4 f5:Field}(ht:P.underlying t=some (.struct #[f0,f1,f2,f3,f4,f5]))(hone:oneCellFields P #[f0,f1,f2,f3,f4,f5]=true)(hc:P.cellsOf t=6)
  (h0:uZ Int P f0.type) (h1:uZ (List Int) P f1.type) (h2:uZ (List Int) P f2.type) (h3:uZ Int P f3.type) (h4:uZ (List (List Int)) P f4.type) (h5:uZ (List zC) P f5.type):uZ zQ P t:=
 ⟨hc,λH enc w fuel cs x h hw=>by
  obtain⟨hl,n,hf⟩:=V3 ht hone hc h hw;obtain⟨v0,y0,c0,t0,w0⟩:=hf 0 f0 rfl;obtain⟨v1,y1,c1,t1,w1⟩:=hf 1 f1 rfl;obtain⟨v2,y2,c2,t2,w2⟩:=hf 2 f2 rfl;obtain⟨v3,y3,c3,t3,w3⟩:=hf 3 f3 rfl;obtain⟨v4,y4,c4,t4,w4⟩:=hf 4 f4 rfl;obtain⟨v5,y5,c5,t5,w5⟩:=hf 5 f5 rfl;obtain⟨x0,e0,q0⟩:=h0.2 H enc w n _ _ t0 w0;obtain⟨x1,q1⟩:=h1.2 H enc w n _ _ t1 w1;obtain⟨x2,q2⟩:=h2.2 H enc w n _ _ t2 w2;obtain⟨x3,e3,q3⟩:=h3.2 H enc w n _ _ t3 w3;obtain⟨x4,q4⟩:=h4.2 H enc w n _ _ t4 w4;obtain⟨x5,q5⟩:=h5.2 H enc w n _ _ t5 w5
  match cs,hl,c0,c1,c2,c3,c4,c5 with
  |[a,b,c,d,e,f],_,c0,c1,c2,c3,c4,c5=>
   simp at c0 c1 c2 c3 c4 c5 e0 e3
   subst c0 c1 c2 c3 c4 c5 e0 e3;exact⟨⟨x0,x1,x2,x3,x4,x5⟩,_,_,_,_,rfl,q0,q3,q1,q2,q4,q5⟩⟩
theorem zgT{P:Program}{t:TypeId}{f0 f1 f2 f3:Field}(ht:P.underlying t=some (.struct #[f0,f1,f2,f3]))(hone:oneCellFields P #[f0,f1,f2,f3]=true)(hc:P.cellsOf t=4)
  (h0:uZ (List vF) P f0.type) (h1:uZ (List zQ) P f1.type) (h2:uZ Int P f2.type) (h3:uZ Int P f3.type):uZ zF P t:=
 ⟨hc,λH enc w fuel cs x h hw=>by
  obtain⟨hl,n,hf⟩:=V3 ht hone hc h hw;obtain⟨v0,y0,c0,t0,w0⟩:=hf 0 f0 rfl;obtain⟨v1,y1,c1,t1,w1⟩:=hf 1 f1 rfl;obtain⟨v2,y2,c2,t2,w2⟩:=hf 2 f2 rfl;obtain⟨v3,y3,c3,t3,w3⟩:=hf 3 f3 rfl;obtain⟨x0,q0⟩:=h0.2 H enc w n _ _ t0 w0;obtain⟨x1,q1⟩:=h1.2 H enc w n _ _ t1 w1;obtain⟨x2,e2,q2⟩:=h2.2 H enc w n _ _ t2 w2;obtain⟨x3,e3,q3⟩:=h3.2 H enc w n _ _ t3 w3
  match cs,hl,c0,c1,c2,c3 with
  |[a,b,c,d],_,c0,c1,c2,c3=>
   simp at c0 c1 c2 c3 e2 e3
   subst c0 c1 c2 c3 e2 e3;exact⟨⟨x0,x1,x2,x3⟩,_,_,rfl,q2,q3,q0,q1⟩⟩
end Go.Proofs.YteimklbiapnfhaaGreat
namespace Go.Proofs.YteimklbiapnfhaaGreat
open Go.RowKit Go.ChangeShapes Go.WideShapes Go.Deep
set_option linter.unusedVariables false
set_option linter.unusedSimpArgs false
theorem BT:uZ Int Tryz.prog 3:=zgO Tryz.underlying3 (by kernel_rfl)
theorem zph:uZ ByteArray Tryz.prog 9:=zgP Tryz.underlying9 (by kernel_rfl)
theorem zij:uZ (List Int) Tryz.prog 62:=iQ Tryz.underlying62 (by kernel_rfl) (by kernel_rfl) BT
theorem zoX:uZ (List (List Int)) Tryz.prog 26:=iQ Tryz.underlying26 (by kernel_rfl) (by kernel_rfl) zij
theorem zlH:uZ (List (List Int)) Tryz.prog 27:=iQ Tryz.underlying27 (by kernel_rfl) (by kernel_rfl) zij
theorem zoY:uZ zC Tryz.prog 67:=zgQ Tryz.underlying67 (by kernel_rfl) (by kernel_rfl) BT BT BT
theorem znq:uZ (List zC) Tryz.prog 29:=iQ Tryz.underlying29 (by kernel_rfl) (by kernel_rfl) zoY
theorem zna:uZ (List zC) Tryz.prog 45:=iQ Tryz.underlying45 (by kernel_rfl) (by kernel_rfl) zoY
theorem zlI:uZ (List (List zC)) Tryz.prog 28:=iQ Tryz.underlying28 (by kernel_rfl) (by kernel_rfl) zna
theorem zpi:uZ vF Tryz.prog 97:=zgR Tryz.underlying97 (by kernel_rfl) (by kernel_rfl) zph BT BT
theorem zoZ:uZ (List vF) Tryz.prog 22:=iQ Tryz.underlying22 (by kernel_rfl) (by kernel_rfl) zpi
theorem zpj:uZ zQ Tryz.prog 74:=zgS Tryz.underlying74 (by kernel_rfl) (by kernel_rfl) BT zij zij BT zoX znq
theorem zo0:uZ (List zQ) Tryz.prog 23:=iQ Tryz.underlying23 (by kernel_rfl) (by kernel_rfl) zpj
theorem zo1:uZ zF Tryz.prog 25:=zgT Tryz.underlying25 (by kernel_rfl) (by kernel_rfl) zoZ zo0 BT BT
end Go.Proofs.YteimklbiapnfhaaGreat
