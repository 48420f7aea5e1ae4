/- Texts of this proof, one behind the other: nothing is handed in but what is proved here; no condition. -/
import Derived.Lib.AtoiErrMem
import Derived.Lib.ItoaNum
import Derived.Lib.Join
import Derived.Shelf.Strings.Builder1
import Derived.Lib.AppendIntMem
import Derived.Lib.ItoaLen
import Derived.Test.YtogdmcebojiojaaGreatDoorZC
namespace Go.Proofs.YtogdmcebojiojaaGreatDoor
open Go.RowKit
set_option maxRecDepth 100000
set_option linter.unusedVariables false
set_option linter.unusedSimpArgs false
def NB:xP:= {own:=[2,8,24,26],live:=[],n:=41,nils:=[(26,(3,(72,.var))),(26,(4,(74,.con)))],pubs:=[],first:=true}
theorem F9(c:ByteArray)(R:xK):FD NB Tryz.f10 [.str c] R=
 (c3Q V5 [.str c] (.list .tok) .int .int λg h e=>
 zP (!decide (e=0))
 (R (.tup [.agg [.sl .var ([]:List zO),.sl .con ([]:List zF),dI 0,dI 0],dI h,dI e]))
 (∃a:zD,∃d:Int,∃b:Int,xD V6 [.ptr 1000 0] (zE g 0 (c.size:Int) 0 0 ([]:List zO) ([]:List zF) ([]:List (ByteArray×Int))) (.tup [dM a,dI d,dI b]) []∧
 zP (decide (b=0))
 (yY tI [dM a] .int λf=>
 zP (!decide (f=0))
 (R (.tup [.agg [.sl .var ([]:List zO),.sl .con ([]:List zF),dI 0,dI 0],dI d,dI f]))
 (R (.tup [dM a,dI 0,dI 0])))
 (zP (!decide (b=0))
 (R (.tup [.agg [.sl .var ([]:List zO),.sl .con ([]:List zF),dI 0,dI 0],dI d,dI b]))
 (R (.tup [dM a,dI 0,dI 0]))))):=by kernel_rfl
theorem HD(a:ByteArray):xL NB Tryz.f10 lG [.str a]:=xO Tryz.func10 (by kernel_rfl) Tryz.ntmps10 rfl
def fh:xP:= {own:=[7,9,17],live:=[(0,([1,5,19,20,21],[17,1017001])),(2,([1,5,45,46,47],[17,1017001]))],n:=97,nils:=[(17,(0,(5,.byte))),(17,(1,(5,.byte)))],pubs:=[],first:=true}
def eD(a:zD)(R:xK)(b:Nat)(c:Int)(d:List zO)(e:List zF)(f g:Int)(h:List UInt8):Prop:=LP fh Tryz.f14 [1,1,1,1,0,1,0,0] 2 b ⟨[(1,.iptr (Sn a []) 0),(5,.ptr 17 0),(45,.sl .con a.cons),(46,dI (a.cons.length:Int)),(47,dI c)],[(17,.cells [.slf 17,.own 1017001,.sl .var d,.sl .con e,dI f,dI g]),(1017001,.row 5 .byte h)]⟩ (zQ 2 (sK fh Tryz.f14 [1,1,1,1,1] 0 (eK Tryz.f14 R)))
def rD(a:zD)(R:xK)(b:Nat)(c:Int)(d:List zO)(e:List zF)(f g:Int)(h:List UInt8):Prop:=LP fh Tryz.f14 [1,1,1,0,1,0,0] 0 b ⟨[(1,.iptr (Sn a []) 0),(5,.ptr 17 0),(19,.sl .var a.vars),(20,dI (a.vars.length:Int)),(21,dI c)],[(17,.cells [.slf 17,.own 1017001,.sl .var d,.sl .con e,dI f,dI g]),(1017001,.row 5 .byte h)]⟩ (zQ 0 (sK fh Tryz.f14 [1,1,1,1] 0 (eK Tryz.f14 R)))
theorem Lo(f:zD)(R:xK)(k:Nat)(g:Int)(a:List zO)(b:List zF)(c d:Int)(e:List UInt8):eD f R (k+1) g a b c d e=
 (zP (decide (g<(f.cons.length:Int)))
 (wI g f.cons.length=true∧∃h:ByteArray,xD lH [.ptr 1000 0,dC (zR .con f.cons g.toNat)] [(1000,.cells [.slf 1000,.own 2000,.sl .var a,.sl .con b,dI c,dI d]),(2000,.row 5 .byte e)] (.str h) [(1000,.cells [.slf 1000,.own 2000,.sl .var a,.sl .con b,dI c,dI d]),(2000,.row 5 .byte e)]∧
 (⟨#[99,111,110,32]⟩:ByteArray).size+h.size≤140737488355328∧((⟨#[99,111,110,32]⟩:ByteArray)++h).size+(⟨#[59,10]⟩:ByteArray).size≤140737488355328∧∃t:Int,∃l:List UInt8,xD zN [.ptr 1000 0,.str (((⟨#[99,111,110,32]⟩:ByteArray)++h)++(⟨#[59,10]⟩:ByteArray))] [(1000,.cells [.slf 1000,.own 2000,.sl .var a,.sl .con b,dI c,dI d]),(2000,.row 5 .byte e)] (.tup [dI t,.undef]) [(1000,.cells [.slf 1000,.own 2000,.sl .var a,.sl .con b,dI c,dI d]),(2000,.row 5 .byte l)]∧
 eD f R k (yW (g+1)) a b c d l)
 (zP (decide (f.goal=0))
 (∃u:Int,∃m:List UInt8,xD zN [.ptr 1000 0,.str (⟨#[115,111,108,118,101,32,97,110,121,59,10]⟩:ByteArray)] [(1000,.cells [.slf 1000,.own 2000,.sl .var a,.sl .con b,dI c,dI d]),(2000,.row 5 .byte e)] (.tup [dI u,.undef]) [(1000,.cells [.slf 1000,.own 2000,.sl .var a,.sl .con b,dI c,dI d]),(2000,.row 5 .byte m)]∧
 ∃n:ByteArray,xD wB [.ptr 1000 0] [(1000,.cells [.slf 1000,.own 2000,.sl .var a,.sl .con b,dI c,dI d]),(2000,.row 5 .byte m)] (.str n) []∧
 R (.tup [.str n,dI 0]))
 (zP (decide (f.goal=1))
 (∃i:ByteArray,xD zY [.ptr 1000 0,dI f.var] [(1000,.cells [.slf 1000,.own 2000,.sl .var a,.sl .con b,dI c,dI d]),(2000,.row 5 .byte e)] (.str i) [(1000,.cells [.slf 1000,.own 2000,.sl .var a,.sl .con b,dI c,dI d]),(2000,.row 5 .byte e)]∧
 (⟨#[115,111,108,118,101,32,108,101,97,115,116,32]⟩:ByteArray).size+i.size≤140737488355328∧((⟨#[115,111,108,118,101,32,108,101,97,115,116,32]⟩:ByteArray)++i).size+(⟨#[59,10]⟩:ByteArray).size≤140737488355328∧∃v:Int,∃o:List UInt8,xD zN [.ptr 1000 0,.str (((⟨#[115,111,108,118,101,32,108,101,97,115,116,32]⟩:ByteArray)++i)++(⟨#[59,10]⟩:ByteArray))] [(1000,.cells [.slf 1000,.own 2000,.sl .var a,.sl .con b,dI c,dI d]),(2000,.row 5 .byte e)] (.tup [dI v,.undef]) [(1000,.cells [.slf 1000,.own 2000,.sl .var a,.sl .con b,dI c,dI d]),(2000,.row 5 .byte o)]∧
 ∃p:ByteArray,xD wB [.ptr 1000 0] [(1000,.cells [.slf 1000,.own 2000,.sl .var a,.sl .con b,dI c,dI d]),(2000,.row 5 .byte o)] (.str p) []∧
 R (.tup [.str p,dI 0]))
 (zP (decide (f.goal=2))
 (∃j:ByteArray,xD zY [.ptr 1000 0,dI f.var] [(1000,.cells [.slf 1000,.own 2000,.sl .var a,.sl .con b,dI c,dI d]),(2000,.row 5 .byte e)] (.str j) [(1000,.cells [.slf 1000,.own 2000,.sl .var a,.sl .con b,dI c,dI d]),(2000,.row 5 .byte e)]∧
 (⟨#[115,111,108,118,101,32,109,111,115,116,32]⟩:ByteArray).size+j.size≤140737488355328∧((⟨#[115,111,108,118,101,32,109,111,115,116,32]⟩:ByteArray)++j).size+(⟨#[59,10]⟩:ByteArray).size≤140737488355328∧∃w:Int,∃q:List UInt8,xD zN [.ptr 1000 0,.str (((⟨#[115,111,108,118,101,32,109,111,115,116,32]⟩:ByteArray)++j)++(⟨#[59,10]⟩:ByteArray))] [(1000,.cells [.slf 1000,.own 2000,.sl .var a,.sl .con b,dI c,dI d]),(2000,.row 5 .byte e)] (.tup [dI w,.undef]) [(1000,.cells [.slf 1000,.own 2000,.sl .var a,.sl .con b,dI c,dI d]),(2000,.row 5 .byte q)]∧
 ∃r:ByteArray,xD wB [.ptr 1000 0] [(1000,.cells [.slf 1000,.own 2000,.sl .var a,.sl .con b,dI c,dI d]),(2000,.row 5 .byte q)] (.str r) []∧
 R (.tup [.str r,dI 0]))
 (∃s:ByteArray,xD wB [.ptr 1000 0] [(1000,.cells [.slf 1000,.own 2000,.sl .var a,.sl .con b,dI c,dI d]),(2000,.row 5 .byte e)] (.str s) []∧
 R (.tup [.str s,dI 0])))))):=by kernel_rfl
theorem Lp(a:zD)(R:xK)(l:Nat)(b:Int)(e:List zO)(f:List zF)(g h:Int)(k:List UInt8):rD a R (l+1) b e f g h k=
 (zP (decide (b<(a.vars.length:Int)))
 (wI b a.vars.length=true∧((⟨#[118,97,114,32]⟩:ByteArray).size+((zR .var a.vars b.toNat).name).size≤140737488355328∧((⟨#[118,97,114,32]⟩:ByteArray)++((zR .var a.vars b.toNat).name)).size+(⟨#[58,32]⟩:ByteArray).size≤140737488355328∧(yY zZ [dI ((zR .var a.vars b.toNat).lo)] .str λc=>
 (((⟨#[118,97,114,32]⟩:ByteArray)++((zR .var a.vars b.toNat).name))++(⟨#[58,32]⟩:ByteArray)).size+c.size≤140737488355328∧((((⟨#[118,97,114,32]⟩:ByteArray)++((zR .var a.vars b.toNat).name))++(⟨#[58,32]⟩:ByteArray))++c).size+(⟨#[46,46]⟩:ByteArray).size≤140737488355328∧yY zZ [dI ((zR .var a.vars b.toNat).hi)] .str λd=>
 (((((⟨#[118,97,114,32]⟩:ByteArray)++((zR .var a.vars b.toNat).name))++(⟨#[58,32]⟩:ByteArray))++c)++(⟨#[46,46]⟩:ByteArray)).size+d.size≤140737488355328∧((((((⟨#[118,97,114,32]⟩:ByteArray)++((zR .var a.vars b.toNat).name))++(⟨#[58,32]⟩:ByteArray))++c)++(⟨#[46,46]⟩:ByteArray))++d).size+(⟨#[59,10]⟩:ByteArray).size≤140737488355328∧∃j:Int,∃i:List UInt8,xD zN [.ptr 1000 0,.str (((((((⟨#[118,97,114,32]⟩:ByteArray)++((zR .var a.vars b.toNat).name))++(⟨#[58,32]⟩:ByteArray))++c)++(⟨#[46,46]⟩:ByteArray))++d)++(⟨#[59,10]⟩:ByteArray))] [(1000,.cells [.slf 1000,.own 2000,.sl .var e,.sl .con f,dI g,dI h]),(2000,.row 5 .byte k)] (.tup [dI j,.undef]) [(1000,.cells [.slf 1000,.own 2000,.sl .var e,.sl .con f,dI g,dI h]),(2000,.row 5 .byte i)]∧
 rD a R l (yW (b+1)) e f g h i)∧
 yY zZ [dI ((zR .var a.vars b.toNat).lo)] .str λc=>
 yY zZ [dI ((zR .var a.vars b.toNat).hi)] .str λd=>
 (((⟨#[118,97,114,32]⟩:ByteArray)++((zR .var a.vars b.toNat).name))++(⟨#[58,32]⟩:ByteArray)).size+c.size≤140737488355328∧((((⟨#[118,97,114,32]⟩:ByteArray)++((zR .var a.vars b.toNat).name))++(⟨#[58,32]⟩:ByteArray))++c).size+(⟨#[46,46]⟩:ByteArray).size≤140737488355328∧(((((⟨#[118,97,114,32]⟩:ByteArray)++((zR .var a.vars b.toNat).name))++(⟨#[58,32]⟩:ByteArray))++c)++(⟨#[46,46]⟩:ByteArray)).size+d.size≤140737488355328∧((((((⟨#[118,97,114,32]⟩:ByteArray)++((zR .var a.vars b.toNat).name))++(⟨#[58,32]⟩:ByteArray))++c)++(⟨#[46,46]⟩:ByteArray))++d).size+(⟨#[59,10]⟩:ByteArray).size≤140737488355328∧∃j:Int,∃i:List UInt8,xD zN [.ptr 1000 0,.str (((((((⟨#[118,97,114,32]⟩:ByteArray)++((zR .var a.vars b.toNat).name))++(⟨#[58,32]⟩:ByteArray))++c)++(⟨#[46,46]⟩:ByteArray))++d)++(⟨#[59,10]⟩:ByteArray))] [(1000,.cells [.slf 1000,.own 2000,.sl .var e,.sl .con f,dI g,dI h]),(2000,.row 5 .byte k)] (.tup [dI j,.undef]) [(1000,.cells [.slf 1000,.own 2000,.sl .var e,.sl .con f,dI g,dI h]),(2000,.row 5 .byte i)]∧
 rD a R l (yW (b+1)) e f g h i)∧
 (yY zZ [dI ((zR .var a.vars b.toNat).lo)] .str λc=>
 ((⟨#[118,97,114,32]⟩:ByteArray).size+((zR .var a.vars b.toNat).name).size≤140737488355328∧((⟨#[118,97,114,32]⟩:ByteArray)++((zR .var a.vars b.toNat).name)).size+(⟨#[58,32]⟩:ByteArray).size≤140737488355328∧(((⟨#[118,97,114,32]⟩:ByteArray)++((zR .var a.vars b.toNat).name))++(⟨#[58,32]⟩:ByteArray)).size+c.size≤140737488355328∧((((⟨#[118,97,114,32]⟩:ByteArray)++((zR .var a.vars b.toNat).name))++(⟨#[58,32]⟩:ByteArray))++c).size+(⟨#[46,46]⟩:ByteArray).size≤140737488355328∧yY zZ [dI ((zR .var a.vars b.toNat).hi)] .str λd=>
 (((((⟨#[118,97,114,32]⟩:ByteArray)++((zR .var a.vars b.toNat).name))++(⟨#[58,32]⟩:ByteArray))++c)++(⟨#[46,46]⟩:ByteArray)).size+d.size≤140737488355328∧((((((⟨#[118,97,114,32]⟩:ByteArray)++((zR .var a.vars b.toNat).name))++(⟨#[58,32]⟩:ByteArray))++c)++(⟨#[46,46]⟩:ByteArray))++d).size+(⟨#[59,10]⟩:ByteArray).size≤140737488355328∧∃j:Int,∃i:List UInt8,xD zN [.ptr 1000 0,.str (((((((⟨#[118,97,114,32]⟩:ByteArray)++((zR .var a.vars b.toNat).name))++(⟨#[58,32]⟩:ByteArray))++c)++(⟨#[46,46]⟩:ByteArray))++d)++(⟨#[59,10]⟩:ByteArray))] [(1000,.cells [.slf 1000,.own 2000,.sl .var e,.sl .con f,dI g,dI h]),(2000,.row 5 .byte k)] (.tup [dI j,.undef]) [(1000,.cells [.slf 1000,.own 2000,.sl .var e,.sl .con f,dI g,dI h]),(2000,.row 5 .byte i)]∧
 rD a R l (yW (b+1)) e f g h i)∧
 yY zZ [dI ((zR .var a.vars b.toNat).hi)] .str λd=>
 (⟨#[118,97,114,32]⟩:ByteArray).size+((zR .var a.vars b.toNat).name).size≤140737488355328∧((⟨#[118,97,114,32]⟩:ByteArray)++((zR .var a.vars b.toNat).name)).size+(⟨#[58,32]⟩:ByteArray).size≤140737488355328∧(((⟨#[118,97,114,32]⟩:ByteArray)++((zR .var a.vars b.toNat).name))++(⟨#[58,32]⟩:ByteArray)).size+c.size≤140737488355328∧((((⟨#[118,97,114,32]⟩:ByteArray)++((zR .var a.vars b.toNat).name))++(⟨#[58,32]⟩:ByteArray))++c).size+(⟨#[46,46]⟩:ByteArray).size≤140737488355328∧(((((⟨#[118,97,114,32]⟩:ByteArray)++((zR .var a.vars b.toNat).name))++(⟨#[58,32]⟩:ByteArray))++c)++(⟨#[46,46]⟩:ByteArray)).size+d.size≤140737488355328∧((((((⟨#[118,97,114,32]⟩:ByteArray)++((zR .var a.vars b.toNat).name))++(⟨#[58,32]⟩:ByteArray))++c)++(⟨#[46,46]⟩:ByteArray))++d).size+(⟨#[59,10]⟩:ByteArray).size≤140737488355328∧∃j:Int,∃i:List UInt8,xD zN [.ptr 1000 0,.str (((((((⟨#[118,97,114,32]⟩:ByteArray)++((zR .var a.vars b.toNat).name))++(⟨#[58,32]⟩:ByteArray))++c)++(⟨#[46,46]⟩:ByteArray))++d)++(⟨#[59,10]⟩:ByteArray))] [(1000,.cells [.slf 1000,.own 2000,.sl .var e,.sl .con f,dI g,dI h]),(2000,.row 5 .byte k)] (.tup [dI j,.undef]) [(1000,.cells [.slf 1000,.own 2000,.sl .var e,.sl .con f,dI g,dI h]),(2000,.row 5 .byte i)]∧
 rD a R l (yW (b+1)) e f g h i)∧
 ((⟨#[118,97,114,32]⟩:ByteArray).size+((zR .var a.vars b.toNat).name).size≤140737488355328∧((⟨#[118,97,114,32]⟩:ByteArray)++((zR .var a.vars b.toNat).name)).size+(⟨#[58,32]⟩:ByteArray).size≤140737488355328∧yY zZ [dI ((zR .var a.vars b.toNat).lo)] .str λc=>
 yY zZ [dI ((zR .var a.vars b.toNat).hi)] .str λd=>
 (((⟨#[118,97,114,32]⟩:ByteArray)++((zR .var a.vars b.toNat).name))++(⟨#[58,32]⟩:ByteArray)).size+c.size≤140737488355328∧((((⟨#[118,97,114,32]⟩:ByteArray)++((zR .var a.vars b.toNat).name))++(⟨#[58,32]⟩:ByteArray))++c).size+(⟨#[46,46]⟩:ByteArray).size≤140737488355328∧(((((⟨#[118,97,114,32]⟩:ByteArray)++((zR .var a.vars b.toNat).name))++(⟨#[58,32]⟩:ByteArray))++c)++(⟨#[46,46]⟩:ByteArray)).size+d.size≤140737488355328∧((((((⟨#[118,97,114,32]⟩:ByteArray)++((zR .var a.vars b.toNat).name))++(⟨#[58,32]⟩:ByteArray))++c)++(⟨#[46,46]⟩:ByteArray))++d).size+(⟨#[59,10]⟩:ByteArray).size≤140737488355328∧∃j:Int,∃i:List UInt8,xD zN [.ptr 1000 0,.str (((((((⟨#[118,97,114,32]⟩:ByteArray)++((zR .var a.vars b.toNat).name))++(⟨#[58,32]⟩:ByteArray))++c)++(⟨#[46,46]⟩:ByteArray))++d)++(⟨#[59,10]⟩:ByteArray))] [(1000,.cells [.slf 1000,.own 2000,.sl .var e,.sl .con f,dI g,dI h]),(2000,.row 5 .byte k)] (.tup [dI j,.undef]) [(1000,.cells [.slf 1000,.own 2000,.sl .var e,.sl .con f,dI g,dI h]),(2000,.row 5 .byte i)]∧
 rD a R l (yW (b+1)) e f g h i)∧
 yY zZ [dI ((zR .var a.vars b.toNat).lo)] .str λc=>
 yY zZ [dI ((zR .var a.vars b.toNat).hi)] .str λd=>
 (⟨#[118,97,114,32]⟩:ByteArray).size+((zR .var a.vars b.toNat).name).size≤140737488355328∧((⟨#[118,97,114,32]⟩:ByteArray)++((zR .var a.vars b.toNat).name)).size+(⟨#[58,32]⟩:ByteArray).size≤140737488355328∧(((⟨#[118,97,114,32]⟩:ByteArray)++((zR .var a.vars b.toNat).name))++(⟨#[58,32]⟩:ByteArray)).size+c.size≤140737488355328∧((((⟨#[118,97,114,32]⟩:ByteArray)++((zR .var a.vars b.toNat).name))++(⟨#[58,32]⟩:ByteArray))++c).size+(⟨#[46,46]⟩:ByteArray).size≤140737488355328∧(((((⟨#[118,97,114,32]⟩:ByteArray)++((zR .var a.vars b.toNat).name))++(⟨#[58,32]⟩:ByteArray))++c)++(⟨#[46,46]⟩:ByteArray)).size+d.size≤140737488355328∧((((((⟨#[118,97,114,32]⟩:ByteArray)++((zR .var a.vars b.toNat).name))++(⟨#[58,32]⟩:ByteArray))++c)++(⟨#[46,46]⟩:ByteArray))++d).size+(⟨#[59,10]⟩:ByteArray).size≤140737488355328∧∃j:Int,∃i:List UInt8,xD zN [.ptr 1000 0,.str (((((((⟨#[118,97,114,32]⟩:ByteArray)++((zR .var a.vars b.toNat).name))++(⟨#[58,32]⟩:ByteArray))++c)++(⟨#[46,46]⟩:ByteArray))++d)++(⟨#[59,10]⟩:ByteArray))] [(1000,.cells [.slf 1000,.own 2000,.sl .var e,.sl .con f,dI g,dI h]),(2000,.row 5 .byte k)] (.tup [dI j,.undef]) [(1000,.cells [.slf 1000,.own 2000,.sl .var e,.sl .con f,dI g,dI h]),(2000,.row 5 .byte i)]∧
 rD a R l (yW (b+1)) e f g h i)
 (∃n2,eD a R n2 0 e f g h k)):=by kernel_rfl
theorem Ea(a:zD)(R:xK):FD fh Tryz.f14 [dM a] R=
 (yY tI [dM a] .int λb=>
 zP (!decide (b=0))
 (R (.tup [.str (⟨#[]⟩:ByteArray),dI b]))
 (∃n0,rD a R n0 0 a.vars a.cons a.goal a.var ([]:List UInt8))):=by kernel_rfl
theorem HE(a:zD):xL fh Tryz.f14 YF [dM a]:=xO Tryz.func14 (by kernel_rfl) Tryz.ntmps14 rfl
def Xr:xP:= {own:=[],live:=[],n:=155,first:=true,clp:=true}
theorem Qn(c:List zO)(d:List zF)(e f:Int)(g:List UInt8)(a:zF)(R:oB):FH Xr Tryz.f58 [.ptr 1000 0,dC a] [(1000,.cells [.slf 1000,.own 2000,.sl .var c,.sl .con d,dI e,dI f]),(2000,.row 5 .byte g)] [.ptr 1000 0] false R=
 (yY gV [] (.list .str) λb=>
 wI (yW (a.kind-1)) b.length=true∧(zR .str b ((yW (a.kind-1)).toNat)).size+(⟨#[32]⟩:ByteArray).size≤140737488355328∧zP (decide (a.kind=1))
 (yY xS [.sl .int a.consts] .str λi=>
 ((zR .str b ((yW (a.kind-1)).toNat))++(⟨#[32]⟩:ByteArray)).size+i.size≤140737488355328∧(((zR .str b ((yW (a.kind-1)).toNat))++(⟨#[32]⟩:ByteArray))++i).size+(⟨#[32]⟩:ByteArray).size≤140737488355328∧∃m:ByteArray,xD vQ [.sl .int a.vars,.clp zY true 1000 0] [(1000,.cells [.slf 1000,.own 2000,.sl .var c,.sl .con d,dI e,dI f]),(2000,.row 5 .byte g)] (.str m) [(1000,.cells [.slf 1000,.own 2000,.sl .var c,.sl .con d,dI e,dI f]),(2000,.row 5 .byte g)]∧
 ((((zR .str b ((yW (a.kind-1)).toNat))++(⟨#[32]⟩:ByteArray))++i)++(⟨#[32]⟩:ByteArray)).size+m.size≤140737488355328∧(((((zR .str b ((yW (a.kind-1)).toNat))++(⟨#[32]⟩:ByteArray))++i)++(⟨#[32]⟩:ByteArray))++m).size+(⟨#[32]⟩:ByteArray).size≤140737488355328∧yY zZ [dI a.n] .str λs4=>
 ((((((zR .str b ((yW (a.kind-1)).toNat))++(⟨#[32]⟩:ByteArray))++i)++(⟨#[32]⟩:ByteArray))++m)++(⟨#[32]⟩:ByteArray)).size+s4.size≤140737488355328∧R (.str (((((((zR .str b ((yW (a.kind-1)).toNat))++(⟨#[32]⟩:ByteArray))++i)++(⟨#[32]⟩:ByteArray))++m)++(⟨#[32]⟩:ByteArray))++s4)) [(1000,.cells [.slf 1000,.own 2000,.sl .var c,.sl .con d,dI e,dI f]),(2000,.row 5 .byte g)])
 (zP (decide (a.kind=2))
 (yY xS [.sl .int a.consts] .str λj=>
 ((zR .str b ((yW (a.kind-1)).toNat))++(⟨#[32]⟩:ByteArray)).size+j.size≤140737488355328∧(((zR .str b ((yW (a.kind-1)).toNat))++(⟨#[32]⟩:ByteArray))++j).size+(⟨#[32]⟩:ByteArray).size≤140737488355328∧∃n:ByteArray,xD vQ [.sl .int a.vars,.clp zY true 1000 0] [(1000,.cells [.slf 1000,.own 2000,.sl .var c,.sl .con d,dI e,dI f]),(2000,.row 5 .byte g)] (.str n) [(1000,.cells [.slf 1000,.own 2000,.sl .var c,.sl .con d,dI e,dI f]),(2000,.row 5 .byte g)]∧
 ((((zR .str b ((yW (a.kind-1)).toNat))++(⟨#[32]⟩:ByteArray))++j)++(⟨#[32]⟩:ByteArray)).size+n.size≤140737488355328∧(((((zR .str b ((yW (a.kind-1)).toNat))++(⟨#[32]⟩:ByteArray))++j)++(⟨#[32]⟩:ByteArray))++n).size+(⟨#[32]⟩:ByteArray).size≤140737488355328∧yY zZ [dI a.n] .str λs7=>
 ((((((zR .str b ((yW (a.kind-1)).toNat))++(⟨#[32]⟩:ByteArray))++j)++(⟨#[32]⟩:ByteArray))++n)++(⟨#[32]⟩:ByteArray)).size+s7.size≤140737488355328∧R (.str (((((((zR .str b ((yW (a.kind-1)).toNat))++(⟨#[32]⟩:ByteArray))++j)++(⟨#[32]⟩:ByteArray))++n)++(⟨#[32]⟩:ByteArray))++s7)) [(1000,.cells [.slf 1000,.own 2000,.sl .var c,.sl .con d,dI e,dI f]),(2000,.row 5 .byte g)])
 (zP (decide (a.kind=3))
 (yY xS [.sl .int a.consts] .str λk=>
 ((zR .str b ((yW (a.kind-1)).toNat))++(⟨#[32]⟩:ByteArray)).size+k.size≤140737488355328∧(((zR .str b ((yW (a.kind-1)).toNat))++(⟨#[32]⟩:ByteArray))++k).size+(⟨#[32]⟩:ByteArray).size≤140737488355328∧∃o:ByteArray,xD vQ [.sl .int a.vars,.clp zY true 1000 0] [(1000,.cells [.slf 1000,.own 2000,.sl .var c,.sl .con d,dI e,dI f]),(2000,.row 5 .byte g)] (.str o) [(1000,.cells [.slf 1000,.own 2000,.sl .var c,.sl .con d,dI e,dI f]),(2000,.row 5 .byte g)]∧
 ((((zR .str b ((yW (a.kind-1)).toNat))++(⟨#[32]⟩:ByteArray))++k)++(⟨#[32]⟩:ByteArray)).size+o.size≤140737488355328∧(((((zR .str b ((yW (a.kind-1)).toNat))++(⟨#[32]⟩:ByteArray))++k)++(⟨#[32]⟩:ByteArray))++o).size+(⟨#[32]⟩:ByteArray).size≤140737488355328∧yY zZ [dI a.n] .str λad=>
 ((((((zR .str b ((yW (a.kind-1)).toNat))++(⟨#[32]⟩:ByteArray))++k)++(⟨#[32]⟩:ByteArray))++o)++(⟨#[32]⟩:ByteArray)).size+ad.size≤140737488355328∧R (.str (((((((zR .str b ((yW (a.kind-1)).toNat))++(⟨#[32]⟩:ByteArray))++k)++(⟨#[32]⟩:ByteArray))++o)++(⟨#[32]⟩:ByteArray))++ad)) [(1000,.cells [.slf 1000,.own 2000,.sl .var c,.sl .con d,dI e,dI f]),(2000,.row 5 .byte g)])
 (zP (decide (a.kind=4))
 (∃v:ByteArray,xD vQ [.sl .int a.vars,.clp zY true 1000 0] [(1000,.cells [.slf 1000,.own 2000,.sl .var c,.sl .con d,dI e,dI f]),(2000,.row 5 .byte g)] (.str v) [(1000,.cells [.slf 1000,.own 2000,.sl .var c,.sl .con d,dI e,dI f]),(2000,.row 5 .byte g)]∧
 ((zR .str b ((yW (a.kind-1)).toNat))++(⟨#[32]⟩:ByteArray)).size+v.size≤140737488355328∧R (.str (((zR .str b ((yW (a.kind-1)).toNat))++(⟨#[32]⟩:ByteArray))++v)) [(1000,.cells [.slf 1000,.own 2000,.sl .var c,.sl .con d,dI e,dI f]),(2000,.row 5 .byte g)])
 (zP (decide (a.kind=5))
 (yY xS [.sl .int a.consts] .str λl=>
 ((zR .str b ((yW (a.kind-1)).toNat))++(⟨#[32]⟩:ByteArray)).size+l.size≤140737488355328∧(((zR .str b ((yW (a.kind-1)).toNat))++(⟨#[32]⟩:ByteArray))++l).size+(⟨#[32]⟩:ByteArray).size≤140737488355328∧wI 0 a.vars.length=true∧wI 1 a.vars.length=true∧∃q:ByteArray,xD zY [.ptr 1000 0,dI (zR .int a.vars 0)] [(1000,.cells [.slf 1000,.own 2000,.sl .var c,.sl .con d,dI e,dI f]),(2000,.row 5 .byte g)] (.str q) [(1000,.cells [.slf 1000,.own 2000,.sl .var c,.sl .con d,dI e,dI f]),(2000,.row 5 .byte g)]∧
 ((((zR .str b ((yW (a.kind-1)).toNat))++(⟨#[32]⟩:ByteArray))++l)++(⟨#[32]⟩:ByteArray)).size+q.size≤140737488355328∧(((((zR .str b ((yW (a.kind-1)).toNat))++(⟨#[32]⟩:ByteArray))++l)++(⟨#[32]⟩:ByteArray))++q).size+(⟨#[32]⟩:ByteArray).size≤140737488355328∧∃w:ByteArray,xD zY [.ptr 1000 0,dI (zR .int a.vars 1)] [(1000,.cells [.slf 1000,.own 2000,.sl .var c,.sl .con d,dI e,dI f]),(2000,.row 5 .byte g)] (.str w) [(1000,.cells [.slf 1000,.own 2000,.sl .var c,.sl .con d,dI e,dI f]),(2000,.row 5 .byte g)]∧
 ((((((zR .str b ((yW (a.kind-1)).toNat))++(⟨#[32]⟩:ByteArray))++l)++(⟨#[32]⟩:ByteArray))++q)++(⟨#[32]⟩:ByteArray)).size+w.size≤140737488355328∧R (.str (((((((zR .str b ((yW (a.kind-1)).toNat))++(⟨#[32]⟩:ByteArray))++l)++(⟨#[32]⟩:ByteArray))++q)++(⟨#[32]⟩:ByteArray))++w)) [(1000,.cells [.slf 1000,.own 2000,.sl .var c,.sl .con d,dI e,dI f]),(2000,.row 5 .byte g)])
 (zP (decide (a.kind=6))
 (∃r:ByteArray,xD vQ [.sl .int a.vars,.clp zY true 1000 0] [(1000,.cells [.slf 1000,.own 2000,.sl .var c,.sl .con d,dI e,dI f]),(2000,.row 5 .byte g)] (.str r) [(1000,.cells [.slf 1000,.own 2000,.sl .var c,.sl .con d,dI e,dI f]),(2000,.row 5 .byte g)]∧
 ((zR .str b ((yW (a.kind-1)).toNat))++(⟨#[32]⟩:ByteArray)).size+r.size≤140737488355328∧(((zR .str b ((yW (a.kind-1)).toNat))++(⟨#[32]⟩:ByteArray))++r).size+(⟨#[32]⟩:ByteArray).size≤140737488355328∧yY iI [dS a.rows,.clo xS none []] .str λae=>
 ((((zR .str b ((yW (a.kind-1)).toNat))++(⟨#[32]⟩:ByteArray))++r)++(⟨#[32]⟩:ByteArray)).size+ae.size≤140737488355328∧R (.str (((((zR .str b ((yW (a.kind-1)).toNat))++(⟨#[32]⟩:ByteArray))++r)++(⟨#[32]⟩:ByteArray))++ae)) [(1000,.cells [.slf 1000,.own 2000,.sl .var c,.sl .con d,dI e,dI f]),(2000,.row 5 .byte g)])
 (zP (decide (a.kind=7))
 (wI 0 a.vars.length=true∧wI 1 a.vars.length=true∧wI 2 a.vars.length=true∧∃h:ByteArray,xD zY [.ptr 1000 0,dI (zR .int a.vars 0)] [(1000,.cells [.slf 1000,.own 2000,.sl .var c,.sl .con d,dI e,dI f]),(2000,.row 5 .byte g)] (.str h) [(1000,.cells [.slf 1000,.own 2000,.sl .var c,.sl .con d,dI e,dI f]),(2000,.row 5 .byte g)]∧
 ((zR .str b ((yW (a.kind-1)).toNat))++(⟨#[32]⟩:ByteArray)).size+h.size≤140737488355328∧(((zR .str b ((yW (a.kind-1)).toNat))++(⟨#[32]⟩:ByteArray))++h).size+(⟨#[32]⟩:ByteArray).size≤140737488355328∧∃s:ByteArray,xD zY [.ptr 1000 0,dI (zR .int a.vars 1)] [(1000,.cells [.slf 1000,.own 2000,.sl .var c,.sl .con d,dI e,dI f]),(2000,.row 5 .byte g)] (.str s) [(1000,.cells [.slf 1000,.own 2000,.sl .var c,.sl .con d,dI e,dI f]),(2000,.row 5 .byte g)]∧
 ((((zR .str b ((yW (a.kind-1)).toNat))++(⟨#[32]⟩:ByteArray))++h)++(⟨#[32]⟩:ByteArray)).size+s.size≤140737488355328∧(((((zR .str b ((yW (a.kind-1)).toNat))++(⟨#[32]⟩:ByteArray))++h)++(⟨#[32]⟩:ByteArray))++s).size+(⟨#[32]⟩:ByteArray).size≤140737488355328∧∃x:ByteArray,xD zY [.ptr 1000 0,dI (zR .int a.vars 2)] [(1000,.cells [.slf 1000,.own 2000,.sl .var c,.sl .con d,dI e,dI f]),(2000,.row 5 .byte g)] (.str x) [(1000,.cells [.slf 1000,.own 2000,.sl .var c,.sl .con d,dI e,dI f]),(2000,.row 5 .byte g)]∧
 ((((((zR .str b ((yW (a.kind-1)).toNat))++(⟨#[32]⟩:ByteArray))++h)++(⟨#[32]⟩:ByteArray))++s)++(⟨#[32]⟩:ByteArray)).size+x.size≤140737488355328∧R (.str (((((((zR .str b ((yW (a.kind-1)).toNat))++(⟨#[32]⟩:ByteArray))++h)++(⟨#[32]⟩:ByteArray))++s)++(⟨#[32]⟩:ByteArray))++x)) [(1000,.cells [.slf 1000,.own 2000,.sl .var c,.sl .con d,dI e,dI f]),(2000,.row 5 .byte g)])
 (zP (decide (a.kind=8))
 ((λp:Prop=>wI 0 a.vars.length=true∧R4 1 (a.vars.length:Int) a.vars.length=true∧((p)∧p))
 (∃t:ByteArray,xD zY [.ptr 1000 0,dI (zR .int a.vars 0)] [(1000,.cells [.slf 1000,.own 2000,.sl .var c,.sl .con d,dI e,dI f]),(2000,.row 5 .byte g)] (.str t) [(1000,.cells [.slf 1000,.own 2000,.sl .var c,.sl .con d,dI e,dI f]),(2000,.row 5 .byte g)]∧
 ((zR .str b ((yW (a.kind-1)).toNat))++(⟨#[32]⟩:ByteArray)).size+t.size≤140737488355328∧(((zR .str b ((yW (a.kind-1)).toNat))++(⟨#[32]⟩:ByteArray))++t).size+(⟨#[32]⟩:ByteArray).size≤140737488355328∧∃y:ByteArray,xD vQ [.sl .int ((a.vars.take (a.vars.length:Int).toNat).drop 1),.clp zY true 1000 0] [(1000,.cells [.slf 1000,.own 2000,.sl .var c,.sl .con d,dI e,dI f]),(2000,.row 5 .byte g)] (.str y) [(1000,.cells [.slf 1000,.own 2000,.sl .var c,.sl .con d,dI e,dI f]),(2000,.row 5 .byte g)]∧
 ((((zR .str b ((yW (a.kind-1)).toNat))++(⟨#[32]⟩:ByteArray))++t)++(⟨#[32]⟩:ByteArray)).size+y.size≤140737488355328∧R (.str (((((zR .str b ((yW (a.kind-1)).toNat))++(⟨#[32]⟩:ByteArray))++t)++(⟨#[32]⟩:ByteArray))++y)) [(1000,.cells [.slf 1000,.own 2000,.sl .var c,.sl .con d,dI e,dI f]),(2000,.row 5 .byte g)]))
 (zP (decide (a.kind=9))
 (∃z:ByteArray,xD mC [.sl .lit a.lits,.clp vC true 1000 0] [(1000,.cells [.slf 1000,.own 2000,.sl .var c,.sl .con d,dI e,dI f]),(2000,.row 5 .byte g)] (.str z) [(1000,.cells [.slf 1000,.own 2000,.sl .var c,.sl .con d,dI e,dI f]),(2000,.row 5 .byte g)]∧
 ((zR .str b ((yW (a.kind-1)).toNat))++(⟨#[32]⟩:ByteArray)).size+z.size≤140737488355328∧R (.str (((zR .str b ((yW (a.kind-1)).toNat))++(⟨#[32]⟩:ByteArray))++z)) [(1000,.cells [.slf 1000,.own 2000,.sl .var c,.sl .con d,dI e,dI f]),(2000,.row 5 .byte g)])
 (wI 0 a.vars.length=true∧wI 0 a.lits.length=true∧∃u:ByteArray,xD zY [.ptr 1000 0,dI (zR .int a.vars 0)] [(1000,.cells [.slf 1000,.own 2000,.sl .var c,.sl .con d,dI e,dI f]),(2000,.row 5 .byte g)] (.str u) [(1000,.cells [.slf 1000,.own 2000,.sl .var c,.sl .con d,dI e,dI f]),(2000,.row 5 .byte g)]∧
 ((zR .str b ((yW (a.kind-1)).toNat))++(⟨#[32]⟩:ByteArray)).size+u.size≤140737488355328∧(((zR .str b ((yW (a.kind-1)).toNat))++(⟨#[32]⟩:ByteArray))++u).size+(⟨#[32]⟩:ByteArray).size≤140737488355328∧∃aa:ByteArray,xD vC [.ptr 1000 0,dL (zR .lit a.lits 0)] [(1000,.cells [.slf 1000,.own 2000,.sl .var c,.sl .con d,dI e,dI f]),(2000,.row 5 .byte g)] (.str aa) [(1000,.cells [.slf 1000,.own 2000,.sl .var c,.sl .con d,dI e,dI f]),(2000,.row 5 .byte g)]∧
 ((((zR .str b ((yW (a.kind-1)).toNat))++(⟨#[32]⟩:ByteArray))++u)++(⟨#[32]⟩:ByteArray)).size+aa.size≤140737488355328∧R (.str (((((zR .str b ((yW (a.kind-1)).toNat))++(⟨#[32]⟩:ByteArray))++u)++(⟨#[32]⟩:ByteArray))++aa)) [(1000,.cells [.slf 1000,.own 2000,.sl .var c,.sl .con d,dI e,dI f]),(2000,.row 5 .byte g)])))))))))):=by kernel_rfl
theorem SB(a:List zO)(b:List zF)(c d:Int)(e:List UInt8)(f:zF):o9 Xr Tryz.f58 lH [.ptr 1000 0,dC f] [(1000,.cells [.slf 1000,.own 2000,.sl .var a,.sl .con b,dI c,dI d]),(2000,.row 5 .byte e)] [.ptr 1000 0] false:=nV Tryz.func58 (by kernel_rfl) Tryz.ntmps58 rfl
def Vq:xP:= {own:=[],live:=[],n:=14,first:=true}
theorem NC(a:List zO)(c:List zF)(d e:Int)(f:List UInt8)(b:Int)(R:oB):FH Vq Tryz.f59 [.ptr 1000 0,dI b] [(1000,.cells [.slf 1000,.own 2000,.sl .var a,.sl .con c,dI d,dI e]),(2000,.row 5 .byte f)] [.ptr 1000 0] false R=
 (wI b a.length=true∧R (.str ((zR .var a b.toNat).name)) [(1000,.cells [.slf 1000,.own 2000,.sl .var a,.sl .con c,dI d,dI e]),(2000,.row 5 .byte f)]):=by kernel_rfl
theorem P4(a:List zO)(b:List zF)(c d:Int)(e:List UInt8)(f:Int):o9 Vq Tryz.f59 zY [.ptr 1000 0,dI f] [(1000,.cells [.slf 1000,.own 2000,.sl .var a,.sl .con b,dI c,dI d]),(2000,.row 5 .byte e)] [.ptr 1000 0] false:=nV Tryz.func59 (by kernel_rfl) Tryz.ntmps59 rfl
def uL:xP:= {own:=[2,5,65,84],live:=[(0,([0],[1000,1001,2000,2001])),(2,([0],[1000,1001,2000,2001]))],n:=135,first:=true}
def pH(R:oB)(T:RQ)(a:Nat)(b:List tX)(c d e f:Int)(g:List (ByteArray×Int))(h:List zO)(i:List zF):Prop:=LP uL Tryz.f94 [1,0,0,0] 2 a ⟨[(0,.ptr 1000 0)],[(1000,.cells [.sl .tok b,dI c,dI d,.own 2000,.own 2001,dI e,dI f,.own 1001]),(1001,.mp .str .int g),(2000,.row 72 .var h),(2001,.row 74 .con i)]⟩ (zQ 2 (sK uL Tryz.f94 [1,1] 0 (eX Tryz.f94 [.ptr 1000 0] false R T)))
def uA(R:oB)(T:RQ)(a:Nat)(b:List tX)(c d e f:Int)(g:List (ByteArray×Int))(h:List zO)(i:List zF):Prop:=LP uL Tryz.f94 [0,0,0] 0 a ⟨[(0,.ptr 1000 0)],[(1000,.cells [.sl .tok b,dI c,dI d,.own 2000,.own 2001,dI e,dI f,.own 1001]),(1001,.mp .str .int g),(2000,.row 72 .var h),(2001,.row 74 .con i)]⟩ (zQ 0 (sK uL Tryz.f94 [1] 0 (eX Tryz.f94 [.ptr 1000 0] false R T)))
theorem pM(R:oB)(T:RQ)(v:Nat)(a:List tX)(w c g f:Int)(d:List (ByteArray×Int))(e:List zO)(b:List zF):pH R T (v+1) a w c g f d e b=
 (∃m:Int,∃x:Bool,xD yP [.ptr 1000 0,.str (⟨#[99,111,110]⟩:ByteArray)] (zE a w c g f e b d) (dB x) (zE a m c g f e b d)∧
 zP x
 (((∃p:Int,∃q:zF,xD rF [.ptr 1000 0] (zE a m c g f e b d) (dC q) (zE a p c g f e b d)∧
 ((∃y:Int,xD zH [.ptr 1000 0,.sl .str ([(⟨#[59]⟩:ByteArray)])] (zE a p c g f e b d) (.tup []) (zE a y c g f e b d)∧
 wD .con (b.length+([q]).length)=true∧pH R T v a y c g f d e (b++([q])))∨
 ∃u,oq zH [.ptr 1000 0,.sl .str ([(⟨#[59]⟩:ByteArray)])] (zE a p c g f e b d) u∧T u))∨
 ∃u,oq rF [.ptr 1000 0] (zE a m c g f e b d) u∧T u))
 (((∃z:Int,xD zH [.ptr 1000 0,.sl .str ([(⟨#[115,111,108,118,101]⟩:ByteArray)])] (zE a m c g f e b d) (.tup []) (zE a z c g f e b d)∧
 ∃o:Int,∃aa:Bool,xD yP [.ptr 1000 0,.str (⟨#[97,110,121]⟩:ByteArray)] (zE a z c g f e b d) (dB aa) (zE a o c g f e b d)∧
 zP aa
 (((∃j:Int,xD zH [.ptr 1000 0,.sl .str ([(⟨#[59]⟩:ByteArray)])] (zE a o c g f e b d) (.tup []) (zE a j c g f e b d)∧
 zP (decide (j<(a.length:Int)))
 (((xD zL [.ptr 1000 0,dI 1] (zE a j c g f e b d) (.tup []) (zE a j c g f e b d)∧
 R (.tup []) (zE a j c g f e b d))∨
 ∃u,oq zL [.ptr 1000 0,dI 1] (zE a j c g f e b d) u∧T u))
 (R (.tup []) (zE a j c g f e b d)))∨
 ∃u,oq zH [.ptr 1000 0,.sl .str ([(⟨#[59]⟩:ByteArray)])] (zE a o c g f e b d) u∧T u))
 (∃n:Int,∃ab:Bool,xD yP [.ptr 1000 0,.str (⟨#[108,101,97,115,116]⟩:ByteArray)] (zE a o c g f e b d) (dB ab) (zE a n c g f e b d)∧
 zP ab
 (((∃r:Int,∃h:Int,xD zJ [.ptr 1000 0] (zE a n c 1 f e b d) (dI h) (zE a r c 1 f e b d)∧
 ((∃k:Int,xD zH [.ptr 1000 0,.sl .str ([(⟨#[59]⟩:ByteArray)])] (zE a r c 1 h e b d) (.tup []) (zE a k c 1 h e b d)∧
 zP (decide (k<(a.length:Int)))
 (((xD zL [.ptr 1000 0,dI 1] (zE a k c 1 h e b d) (.tup []) (zE a k c 1 h e b d)∧
 R (.tup []) (zE a k c 1 h e b d))∨
 ∃u,oq zL [.ptr 1000 0,dI 1] (zE a k c 1 h e b d) u∧T u))
 (R (.tup []) (zE a k c 1 h e b d)))∨
 ∃u,oq zH [.ptr 1000 0,.sl .str ([(⟨#[59]⟩:ByteArray)])] (zE a r c 1 h e b d) u∧T u))∨
 ∃u,oq zJ [.ptr 1000 0] (zE a n c 1 f e b d) u∧T u))
 (((∃s:Int,xD zH [.ptr 1000 0,.sl .str ([(⟨#[109,111,115,116]⟩:ByteArray)])] (zE a n c g f e b d) (.tup []) (zE a s c g f e b d)∧
 ((∃t:Int,∃i:Int,xD zJ [.ptr 1000 0] (zE a s c 2 f e b d) (dI i) (zE a t c 2 f e b d)∧
 ((∃l:Int,xD zH [.ptr 1000 0,.sl .str ([(⟨#[59]⟩:ByteArray)])] (zE a t c 2 i e b d) (.tup []) (zE a l c 2 i e b d)∧
 zP (decide (l<(a.length:Int)))
 (((xD zL [.ptr 1000 0,dI 1] (zE a l c 2 i e b d) (.tup []) (zE a l c 2 i e b d)∧
 R (.tup []) (zE a l c 2 i e b d))∨
 ∃u,oq zL [.ptr 1000 0,dI 1] (zE a l c 2 i e b d) u∧T u))
 (R (.tup []) (zE a l c 2 i e b d)))∨
 ∃u,oq zH [.ptr 1000 0,.sl .str ([(⟨#[59]⟩:ByteArray)])] (zE a t c 2 i e b d) u∧T u))∨
 ∃u,oq zJ [.ptr 1000 0] (zE a s c 2 f e b d) u∧T u))∨
 ∃u,oq zH [.ptr 1000 0,.sl .str ([(⟨#[109,111,115,116]⟩:ByteArray)])] (zE a n c g f e b d) u∧T u))))∨
 ∃u,oq zH [.ptr 1000 0,.sl .str ([(⟨#[115,111,108,118,101]⟩:ByteArray)])] (zE a m c g f e b d) u∧T u))):=by kernel_rfl
theorem cI(R:oB)(T:RQ)(l:Nat)(c:List tX)(r d e f:Int)(b:List (ByteArray×Int))(a:List zO)(g:List zF):uA R T (l+1) c r d e f b a g=
 (∃h:Int,∃s:Bool,xD yP [.ptr 1000 0,.str (⟨#[118,97,114]⟩:ByteArray)] (zE c r d e f a g b) (dB s) (zE c h d e f a g b)∧
 zP s
 (((∃i:ByteArray,xD vD [.ptr 1000 0] (zE c h d e f a g b) (.str i) (zE c h d e f a g b)∧
 ((∃m:Int,xD zH [.ptr 1000 0,.sl .str ([(⟨#[58]⟩:ByteArray)])] (zE c (yW (h+1)) d e f a g b) (.tup []) (zE c m d e f a g b)∧
 ((∃n:Int,∃j:Int,xD zI [.ptr 1000 0] (zE c m d e f a g b) (dI j) (zE c n d e f a g b)∧
 ((∃o:Int,xD zH [.ptr 1000 0,.sl .str ([(⟨#[46,46]⟩:ByteArray)])] (zE c n d e f a g b) (.tup []) (zE c o d e f a g b)∧
 ((∃p:Int,∃k:Int,xD zI [.ptr 1000 0] (zE c o d e f a g b) (dI k) (zE c p d e f a g b)∧
 ((∃q:Int,xD zH [.ptr 1000 0,.sl .str ([(⟨#[59]⟩:ByteArray)])] (zE c p d e f a g b) (.tup []) (zE c q d e f a g b)∧
 zP (!(Pz .str .int i b))
 (OZ (b.length+1)=true∧wD .var (a.length+([(⟨i,j,k⟩:zO)]).length)=true∧uA R T l c q d e f (tQ .str .int i (a.length:Int) b) (a++([(⟨i,j,k⟩:zO)])) g)
 (wD .var (a.length+([(⟨i,j,k⟩:zO)]).length)=true∧uA R T l c q d e f b (a++([(⟨i,j,k⟩:zO)])) g))∨
 ∃u,oq zH [.ptr 1000 0,.sl .str ([(⟨#[59]⟩:ByteArray)])] (zE c p d e f a g b) u∧T u))∨
 ∃u,oq zI [.ptr 1000 0] (zE c o d e f a g b) u∧T u))∨
 ∃u,oq zH [.ptr 1000 0,.sl .str ([(⟨#[46,46]⟩:ByteArray)])] (zE c n d e f a g b) u∧T u))∨
 ∃u,oq zI [.ptr 1000 0] (zE c m d e f a g b) u∧T u))∨
 ∃u,oq zH [.ptr 1000 0,.sl .str ([(⟨#[58]⟩:ByteArray)])] (zE c (yW (h+1)) d e f a g b) u∧T u))∨
 ∃u,oq vD [.ptr 1000 0] (zE c h d e f a g b) u∧T u))
 (∃n2,pH R T n2 c h d e f b a g)):=by kernel_rfl
theorem SC(a:List tX)(b c d e:Int)(f:List zO)(g:List zF)(h:List (ByteArray×Int))(R:oB)(T:RQ):FX uL Tryz.f94 [.ptr 1000 0] (zE a b c d e f g h) [.ptr 1000 0] false R T=
 (∃n0,uA R T n0 a b c d e h f g):=by kernel_rfl
theorem Ts(a:List tX)(b c d e:Int)(f:List zO)(g:List zF)(h:List (ByteArray×Int)):Xk uL Tryz.f94 rS [.ptr 1000 0] (zE a b c d e f g h) [.ptr 1000 0] false:=Vh Tryz.func94 (by kernel_rfl) Tryz.ntmps94 rfl
theorem Tt(a:List tX)(b c d e:Int)(f:List zO)(g:List zF)(h:List (ByteArray×Int)):Yv uL Tryz.f94 rS [.ptr 1000 0] (zE a b c d e f g h) [.ptr 1000 0] false:=Wj Tryz.func94 (by kernel_rfl) Tryz.ntmps94 rfl
def Z8:xP:= {own:=[],live:=[],n:=5,first:=true}
theorem Tu(a:List Int)(R:xK):FD Z8 Tryz.f108 [.sl .int a] R=
 (∃b:ByteArray,xD vQ [.sl .int a,.clo zZ none []] [] (.str b) []∧
 R (.str b)):=by kernel_rfl
theorem Uk(a:List Int):xL Z8 Tryz.f108 xS [.sl .int a]:=xO Tryz.func108 (by kernel_rfl) Tryz.ntmps108 rfl
def iL:xP:= {own:=[5,19],live:=[(0,([1,5,8,9,10],[5]))],n:=25,first:=true}
def lQ(a:List Int)(R:oB)(b:Nat)(c:Int)(d:List ByteArray):Prop:=LP iL Tryz.f109 [1,1,0,1,0,0] 0 b ⟨[(1,.clo zZ none []),(5,.own 5),(8,.sl .int a),(9,dI (a.length:Int)),(10,dI c)],[(5,.row 9 .str d)]⟩ (zQ 0 (sK iL Tryz.f109 [1,1,1] 0 (eH Tryz.f109 [] false R)))
theorem Tv(a:List Int)(R:oB)(e:Nat)(b:Int)(c:List ByteArray):lQ a R (e+1) b c=
 (zP (decide (b<(a.length:Int)))
 (wI b a.length=true∧yY zZ [dI (zR .int a b.toNat)] .str λf=>
 wD .str (c.length+([f]).length)=true∧lQ a R e (yW (b+1)) (c++([f])))
 (yY oD [.sl .str c,.str (⟨#[44,32]⟩:ByteArray)] .str λd=>
 (⟨#[91]⟩:ByteArray).size+d.size≤140737488355328∧((⟨#[91]⟩:ByteArray)++d).size+(⟨#[93]⟩:ByteArray).size≤140737488355328∧R (.str (((⟨#[91]⟩:ByteArray)++d)++(⟨#[93]⟩:ByteArray))) [])):=by kernel_rfl
theorem P5(a:List Int)(R:oB):FH iL Tryz.f109 [.sl .int a,.clo zZ none []] [] [] false R=
 (∃n0,lQ a R n0 0 ([]:List ByteArray)):=by kernel_rfl
theorem Qo(a:List Int):o9 iL Tryz.f109 vQ [.sl .int a,.clo zZ none []] [] [] false:=nV Tryz.func109 (by kernel_rfl) Tryz.ntmps109 rfl
def iM:xP:= {own:=[5,19],live:=[(0,([1,5,8,9,10],[5,1000,2000]))],n:=25,first:=true}
def lR(a:List Int)(b:List zO)(c:List zF)(d e:Int)(R:oB)(f:Nat)(g:Int)(h:List ByteArray)(i:List UInt8):Prop:=LP iM Tryz.f109 [1,1,0,1,0,0] 0 f ⟨[(1,.clp zY true 1000 0),(5,.own 5),(8,.sl .int a),(9,dI (a.length:Int)),(10,dI g)],[(5,.row 9 .str h),(1000,.cells [.slf 1000,.own 2000,.sl .var b,.sl .con c,dI d,dI e]),(2000,.row 5 .byte i)]⟩ (zQ 0 (sK iM Tryz.f109 [1,1,1] 0 (eH Tryz.f109 [.ptr 1000 0] false R)))
theorem Tw(a:List Int)(b:List zO)(c:List zF)(d e:Int)(R:oB)(k:Nat)(f:Int)(h:List ByteArray)(g:List UInt8):lR a b c d e R (k+1) f h g=
 (zP (decide (f<(a.length:Int)))
 (wI f a.length=true∧∃i:ByteArray,xD zY [.ptr 1000 0,dI (zR .int a f.toNat)] [(1000,.cells [.slf 1000,.own 2000,.sl .var b,.sl .con c,dI d,dI e]),(2000,.row 5 .byte g)] (.str i) [(1000,.cells [.slf 1000,.own 2000,.sl .var b,.sl .con c,dI d,dI e]),(2000,.row 5 .byte g)]∧
 wD .str (h.length+([i]).length)=true∧lR a b c d e R k (yW (f+1)) (h++([i])) g)
 (yY oD [.sl .str h,.str (⟨#[44,32]⟩:ByteArray)] .str λj=>
 (⟨#[91]⟩:ByteArray).size+j.size≤140737488355328∧((⟨#[91]⟩:ByteArray)++j).size+(⟨#[93]⟩:ByteArray).size≤140737488355328∧R (.str (((⟨#[91]⟩:ByteArray)++j)++(⟨#[93]⟩:ByteArray))) [(1000,.cells [.slf 1000,.own 2000,.sl .var b,.sl .con c,dI d,dI e]),(2000,.row 5 .byte g)])):=by kernel_rfl
theorem P6(a:List Int)(b:List zO)(c:List zF)(d e:Int)(f:List UInt8)(R:oB):FH iM Tryz.f109 [.sl .int a,.clp zY true 1000 0] [(1000,.cells [.slf 1000,.own 2000,.sl .var b,.sl .con c,dI d,dI e]),(2000,.row 5 .byte f)] [.ptr 1000 0] false R=
 (∃n0,lR a b c d e R n0 0 ([]:List ByteArray) f):=by kernel_rfl
theorem Qp(a:List Int)(b:List zO)(c:List zF)(d e:Int)(f:List UInt8):o9 iM Tryz.f109 vQ [.sl .int a,.clp zY true 1000 0] [(1000,.cells [.slf 1000,.own 2000,.sl .var b,.sl .con c,dI d,dI e]),(2000,.row 5 .byte f)] [.ptr 1000 0] false:=nV Tryz.func109 (by kernel_rfl) Tryz.ntmps109 rfl
def ND:xP:= {own:=[],live:=[],n:=2,first:=true}
theorem Pe(R:xK):FD ND Tryz.f110 [] R=
 (R (.sl .str ([(⟨#[108,101]⟩:ByteArray),(⟨#[101,113]⟩:ByteArray),(⟨#[110,101]⟩:ByteArray),(⟨#[100,105,102,102,101,114]⟩:ByteArray),(⟨#[101,108,101,109,101,110,116]⟩:ByteArray),(⟨#[116,97,98,108,101]⟩:ByteArray),(⟨#[116,105,109,101,115]⟩:ByteArray),(⟨#[109,97,120]⟩:ByteArray),(⟨#[99,108,97,117,115,101]⟩:ByteArray),(⟨#[105,102,102]⟩:ByteArray)]))):=by kernel_rfl
theorem SD:xL ND Tryz.f110 gV []:=xO Tryz.func110 (by kernel_rfl) Tryz.ntmps110 rfl
def iN:xP:= {own:=[5,19],live:=[(0,([1,5,8,9,10],[5]))],n:=25,first:=true}
def lS(a:List (List Int))(b:FuncId)(c:List D)(R:xK)(d:Nat)(e:Int)(f:List ByteArray):Prop:=LP iN Tryz.f111 [1,1,0,1,0,0] 0 d ⟨[(1,.clo b (some [.str]) c),(5,.own 5),(8,dS a),(9,dI (a.length:Int)),(10,dI e)],[(5,.row 9 .str f)]⟩ (zQ 0 (sK iN Tryz.f111 [1,1,1] 0 (eK Tryz.f111 R)))
theorem Tx(a:List (List Int))(c:FuncId)(e:List D)(R:xK)(g:Nat)(b:Int)(d:List ByteArray):lS a c e R (g+1) b d=
 (zP (decide (b<(a.length:Int)))
 (wI b a.length=true∧cE c∧
 yY c ([.sl .int (zR (.list .int) a b.toNat)]++e) .str λh=>
 wD .str (d.length+([h]).length)=true∧lS a c e R g (yW (b+1)) (d++([h])))
 (yY oD [.sl .str d,.str (⟨#[44,32]⟩:ByteArray)] .str λf=>
 (⟨#[91]⟩:ByteArray).size+f.size≤140737488355328∧((⟨#[91]⟩:ByteArray)++f).size+(⟨#[93]⟩:ByteArray).size≤140737488355328∧R (.str (((⟨#[91]⟩:ByteArray)++f)++(⟨#[93]⟩:ByteArray))))):=by kernel_rfl
theorem P7(a:List (List Int))(b:FuncId)(c:List D)(R:xK):FD iN Tryz.f111 [dS a,.clo b (some [.str]) c] R=
 (∃n0,lS a b c R n0 0 ([]:List ByteArray)):=by kernel_rfl
theorem Qq(a:List (List Int))(b:FuncId)(c:List D):xL iN Tryz.f111 iI [dS a,.clo b (some [.str]) c]:=xO Tryz.func111 (by kernel_rfl) Tryz.ntmps111 rfl
def oN:xP:= {own:=[5,7,19],live:=[(0,([1,5,8,9,10],[5,1000,2000]))],n:=25,first:=true}
def om(a:List zC)(R:oB)(b:Nat)(c:Int)(d:List ByteArray)(e:List zO)(f:List zF)(g h:Int)(i:List UInt8):Prop:=LP oN Tryz.f112 [1,1,0,1,0,0] 0 b ⟨[(1,.clp vC true 1000 0),(5,.own 5),(8,.sl .lit a),(9,dI (a.length:Int)),(10,dI c)],[(5,.row 9 .str d),(1000,.cells [.slf 1000,.own 2000,.sl .var e,.sl .con f,dI g,dI h]),(2000,.row 5 .byte i)]⟩ (zQ 0 (sK oN Tryz.f112 [1,1,1] 0 (eH Tryz.f112 [.ptr 1000 0] false R)))
theorem X2(a:List zC)(R:oB)(k:Nat)(b:Int)(h:List ByteArray)(c:List zO)(d:List zF)(e f:Int)(g:List UInt8):om a R (k+1) b h c d e f g=
 (zP (decide (b<(a.length:Int)))
 (wI b a.length=true∧∃i:ByteArray,xD vC [.ptr 1000 0,dL (zR .lit a b.toNat)] [(1000,.cells [.slf 1000,.own 2000,.sl .var c,.sl .con d,dI e,dI f]),(2000,.row 5 .byte g)] (.str i) [(1000,.cells [.slf 1000,.own 2000,.sl .var c,.sl .con d,dI e,dI f]),(2000,.row 5 .byte g)]∧
 wD .str (h.length+([i]).length)=true∧om a R k (yW (b+1)) (h++([i])) c d e f g)
 (yY oD [.sl .str h,.str (⟨#[44,32]⟩:ByteArray)] .str λj=>
 (⟨#[91]⟩:ByteArray).size+j.size≤140737488355328∧((⟨#[91]⟩:ByteArray)++j).size+(⟨#[93]⟩:ByteArray).size≤140737488355328∧R (.str (((⟨#[91]⟩:ByteArray)++j)++(⟨#[93]⟩:ByteArray))) [(1000,.cells [.slf 1000,.own 2000,.sl .var c,.sl .con d,dI e,dI f]),(2000,.row 5 .byte g)])):=by kernel_rfl
theorem Ul(a:List zC)(b:List zO)(c:List zF)(d e:Int)(f:List UInt8)(R:oB):FH oN Tryz.f112 [.sl .lit a,.clp vC true 1000 0] [(1000,.cells [.slf 1000,.own 2000,.sl .var b,.sl .con c,dI d,dI e]),(2000,.row 5 .byte f)] [.ptr 1000 0] false R=
 (∃n0,om a R n0 0 ([]:List ByteArray) b c d e f):=by kernel_rfl
theorem Vr(a:List zC)(b:List zO)(c:List zF)(d e:Int)(f:List UInt8):o9 oN Tryz.f112 mC [.sl .lit a,.clp vC true 1000 0] [(1000,.cells [.slf 1000,.own 2000,.sl .var b,.sl .con c,dI d,dI e]),(2000,.row 5 .byte f)] [.ptr 1000 0] false:=nV Tryz.func112 (by kernel_rfl) Tryz.ntmps112 rfl
def Xs:xP:= {own:=[],live:=[],n:=22,first:=true}
theorem Qr(c:List zO)(d:List zF)(e f:Int)(g:List UInt8)(a:zC)(R:oB):FH Xs Tryz.f113 [.ptr 1000 0,dL a] [(1000,.cells [.slf 1000,.own 2000,.sl .var c,.sl .con d,dI e,dI f]),(2000,.row 5 .byte g)] [.ptr 1000 0] false R=
 (wI (yW (a.op-1)) ([(⟨#[60,61]⟩:ByteArray),(⟨#[62,61]⟩:ByteArray),(⟨#[61,61]⟩:ByteArray),(⟨#[33,61]⟩:ByteArray)]).length=true∧∃b:ByteArray,xD zY [.ptr 1000 0,dI a.var] [(1000,.cells [.slf 1000,.own 2000,.sl .var c,.sl .con d,dI e,dI f]),(2000,.row 5 .byte g)] (.str b) [(1000,.cells [.slf 1000,.own 2000,.sl .var c,.sl .con d,dI e,dI f]),(2000,.row 5 .byte g)]∧
 b.size+(⟨#[32]⟩:ByteArray).size≤140737488355328∧(b++(⟨#[32]⟩:ByteArray)).size+(zR .str ([(⟨#[60,61]⟩:ByteArray),(⟨#[62,61]⟩:ByteArray),(⟨#[61,61]⟩:ByteArray),(⟨#[33,61]⟩:ByteArray)]) ((yW (a.op-1)).toNat)).size≤140737488355328∧((b++(⟨#[32]⟩:ByteArray))++(zR .str ([(⟨#[60,61]⟩:ByteArray),(⟨#[62,61]⟩:ByteArray),(⟨#[61,61]⟩:ByteArray),(⟨#[33,61]⟩:ByteArray)]) ((yW (a.op-1)).toNat))).size+(⟨#[32]⟩:ByteArray).size≤140737488355328∧yY zZ [dI a.n] .str λh=>
 (((b++(⟨#[32]⟩:ByteArray))++(zR .str ([(⟨#[60,61]⟩:ByteArray),(⟨#[62,61]⟩:ByteArray),(⟨#[61,61]⟩:ByteArray),(⟨#[33,61]⟩:ByteArray)]) ((yW (a.op-1)).toNat)))++(⟨#[32]⟩:ByteArray)).size+h.size≤140737488355328∧R (.str ((((b++(⟨#[32]⟩:ByteArray))++(zR .str ([(⟨#[60,61]⟩:ByteArray),(⟨#[62,61]⟩:ByteArray),(⟨#[61,61]⟩:ByteArray),(⟨#[33,61]⟩:ByteArray)]) ((yW (a.op-1)).toNat)))++(⟨#[32]⟩:ByteArray))++h)) [(1000,.cells [.slf 1000,.own 2000,.sl .var c,.sl .con d,dI e,dI f]),(2000,.row 5 .byte g)]):=by kernel_rfl
theorem SE(a:List zO)(b:List zF)(c d:Int)(e:List UInt8)(f:zC):o9 Xs Tryz.f113 vC [.ptr 1000 0,dL f] [(1000,.cells [.slf 1000,.own 2000,.sl .var a,.sl .con b,dI c,dI d]),(2000,.row 5 .byte e)] [.ptr 1000 0] false:=nV Tryz.func113 (by kernel_rfl) Tryz.ntmps113 rfl
def Xt:xP:= {own:=[],live:=[],n:=37,first:=true}
theorem Qs(a:List tX)(b c d e:Int)(f:List zO)(g:List zF)(h:List (ByteArray×Int))(i:ByteArray)(R:oB):FH Xt Tryz.f154 [.ptr 1000 0,.str i] (zE a b c d e f g h) [.ptr 1000 0] false R=
 (zP (decide ((a.length:Int)≤b))
 (R (dB false) (zE a b c d e f g h))
 (wI b a.length=true∧zP (!decide (((zR .tok a b.toNat).text)=i))
 (R (dB false) (zE a b c d e f g h))
 (R (dB true) (zE a (yW (b+1)) c d e f g h)))):=by kernel_rfl
theorem SF(a:List tX)(b c d e:Int)(f:List zO)(g:List zF)(h:List (ByteArray×Int))(i:ByteArray):o9 Xt Tryz.f154 yP [.ptr 1000 0,.str i] (zE a b c d e f g h) [.ptr 1000 0] false:=nV Tryz.func154 (by kernel_rfl) Tryz.ntmps154 rfl
def dU:xP:= {own:=[],live:=[],n:=41,first:=true}
theorem Qt(a:List tX)(b c d e:Int)(f:List zO)(g:List zF)(h:List (ByteArray×Int))(R:oB)(T:RQ):FX dU Tryz.f155 [.ptr 1000 0] (zE a b c d e f g h) [.ptr 1000 0] false R T=
 (zP (decide ((a.length:Int)≤b))
 (((xD zL [.ptr 1000 0,dI 1] (zE a b c d e f g h) (.tup []) (zE a b c d e f g h)∧
 wI b a.length=true∧R (.str ((zR .tok a b.toNat).text)) (zE a b c d e f g h))∨
 ∃u,oq zL [.ptr 1000 0,dI 1] (zE a b c d e f g h) u∧T u))
 (wI b a.length=true∧yY YJ [.str ((zR .tok a b.toNat).text)] .bool λi=>
 zP (!i)
 (((xD zL [.ptr 1000 0,dI 1] (zE a b c d e f g h) (.tup []) (zE a b c d e f g h)∧
 wI b a.length=true∧R (.str ((zR .tok a b.toNat).text)) (zE a b c d e f g h))∨
 ∃u,oq zL [.ptr 1000 0,dI 1] (zE a b c d e f g h) u∧T u))
 (wI b a.length=true∧R (.str ((zR .tok a b.toNat).text)) (zE a b c d e f g h)))):=by kernel_rfl
theorem SG(a:List tX)(b c d e:Int)(f:List zO)(g:List zF)(h:List (ByteArray×Int)):Xk dU Tryz.f155 vD [.ptr 1000 0] (zE a b c d e f g h) [.ptr 1000 0] false:=Vh Tryz.func155 (by kernel_rfl) Tryz.ntmps155 rfl
theorem SH(a:List tX)(b c d e:Int)(f:List zO)(g:List zF)(h:List (ByteArray×Int)):Yv dU Tryz.f155 vD [.ptr 1000 0] (zE a b c d e f g h) [.ptr 1000 0] false:=Wj Tryz.func155 (by kernel_rfl) Tryz.ntmps155 rfl
def lT:xP:= {own:=[],live:=[(0,([0,6,7,8],[1000,1001,2000,2001]))],n:=19,first:=true}
def pR(a:List ByteArray)(R:oB)(T:RQ)(b:Nat)(c:Int)(d:List tX)(e f g h:Int)(i:List (ByteArray×Int))(j:List zO)(k:List zF):Prop:=LP lT Tryz.f156 [1,0,0] 0 b ⟨[(0,.ptr 1000 0),(6,.sl .str a),(7,dI (a.length:Int)),(8,dI c)],[(1000,.cells [.sl .tok d,dI e,dI f,.own 2000,.own 2001,dI g,dI h,.own 1001]),(1001,.mp .str .int i),(2000,.row 72 .var j),(2001,.row 74 .con k)]⟩ (zQ 0 (eX Tryz.f156 [.ptr 1000 0] false R T))
theorem Um(h:List ByteArray)(R:oB)(T:RQ)(k:Nat)(i:Int)(a:List tX)(l b c d:Int)(e:List (ByteArray×Int))(f:List zO)(g:List zF):pR h R T (k+1) i a l b c d e f g=
 (zP (decide (i<(h.length:Int)))
 (wI i h.length=true∧∃j:Int,∃m:Bool,xD yP [.ptr 1000 0,.str (zR .str h i.toNat)] (zE a l b c d f g e) (dB m) (zE a j b c d f g e)∧
 zP (!m)
 (((xD zL [.ptr 1000 0,dI 1] (zE a j b c d f g e) (.tup []) (zE a j b c d f g e)∧
 pR h R T k (yW (i+1)) a j b c d e f g)∨
 ∃u,oq zL [.ptr 1000 0,dI 1] (zE a j b c d f g e) u∧T u))
 (pR h R T k (yW (i+1)) a j b c d e f g))
 (R (.tup []) (zE a l b c d f g e))):=by kernel_rfl
theorem Qu(a:List tX)(b c d e:Int)(f:List zO)(g:List zF)(h:List (ByteArray×Int))(i:List ByteArray)(R:oB)(T:RQ):FX lT Tryz.f156 [.ptr 1000 0,.sl .str i] (zE a b c d e f g h) [.ptr 1000 0] false R T=
 (∃n0,pR i R T n0 0 a b c d e h f g):=by kernel_rfl
theorem SI(a:List tX)(b c d e:Int)(f:List zO)(g:List zF)(h:List (ByteArray×Int))(i:List ByteArray):Xk lT Tryz.f156 zH [.ptr 1000 0,.sl .str i] (zE a b c d e f g h) [.ptr 1000 0] false:=Vh Tryz.func156 (by kernel_rfl) Tryz.ntmps156 rfl
theorem SJ(a:List tX)(b c d e:Int)(f:List zO)(g:List zF)(h:List (ByteArray×Int))(i:List ByteArray):Yv lT Tryz.f156 zH [.ptr 1000 0,.sl .str i] (zE a b c d e f g h) [.ptr 1000 0] false:=Wj Tryz.func156 (by kernel_rfl) Tryz.ntmps156 rfl
def Yq:xP:= {own:=[],live:=[],n:=77,first:=true}
theorem Lq(a:List tX)(i c d e:Int)(f:List zO)(g:List zF)(h:List (ByteArray×Int))(R:oB)(T:RQ):FX Yq Tryz.f157 [.ptr 1000 0] (zE a i c d e f g h) [.ptr 1000 0] false R T=
 (∃b:Int,∃j:Bool,xD yP [.ptr 1000 0,.str (⟨#[45]⟩:ByteArray)] (zE a i c d e f g h) (dB j) (zE a b c d e f g h)∧
 zP j
 (zP (decide ((a.length:Int)≤b))
 (((xD zL [.ptr 1000 0,dI 1] (zE a b c d e f g h) (.tup []) (zE a b c d e f g h)∧
 (λp:Prop=>((wI b a.length=true∧p)∧wI b a.length=true∧p))
 (∃k:Int,xD wS [.str ((zR .tok a b.toNat).text)] [] (.tup [dI k,.undef]) []∧
 R (dI (yW ((-1)*k))) (zE a (yW (b+1)) c d e f g h)))∨
 ∃u,oq zL [.ptr 1000 0,dI 1] (zE a b c d e f g h) u∧T u))
 (wI b a.length=true∧zP (!decide (((zR .tok a b.toNat).kind)=2))
 (((xD zL [.ptr 1000 0,dI 1] (zE a b c d e f g h) (.tup []) (zE a b c d e f g h)∧
 (λp:Prop=>((wI b a.length=true∧p)∧wI b a.length=true∧p))
 (∃l:Int,xD wS [.str ((zR .tok a b.toNat).text)] [] (.tup [dI l,.undef]) []∧
 R (dI (yW ((-1)*l))) (zE a (yW (b+1)) c d e f g h)))∨
 ∃u,oq zL [.ptr 1000 0,dI 1] (zE a b c d e f g h) u∧T u))
 (zP (decide ((-1:Int)<0))
 (wI b a.length=true∧zP (decide (((zR .tok a b.toNat).text)=(⟨#[48]⟩:ByteArray)))
 (((xD zL [.ptr 1000 0,dI 1] (zE a b c d e f g h) (.tup []) (zE a b c d e f g h)∧
 (λp:Prop=>((wI b a.length=true∧p)∧wI b a.length=true∧p))
 (∃m:Int,xD wS [.str ((zR .tok a b.toNat).text)] [] (.tup [dI m,.undef]) []∧
 R (dI (yW ((-1)*m))) (zE a (yW (b+1)) c d e f g h)))∨
 ∃u,oq zL [.ptr 1000 0,dI 1] (zE a b c d e f g h) u∧T u))
 ((λp:Prop=>((wI b a.length=true∧p)∧wI b a.length=true∧p))
 (∃n:Int,xD wS [.str ((zR .tok a b.toNat).text)] [] (.tup [dI n,.undef]) []∧
 R (dI (yW ((-1)*n))) (zE a (yW (b+1)) c d e f g h))))
 ((λp:Prop=>((wI b a.length=true∧p)∧wI b a.length=true∧p))
 (∃o:Int,xD wS [.str ((zR .tok a b.toNat).text)] [] (.tup [dI o,.undef]) []∧
 R (dI (yW ((-1)*o))) (zE a (yW (b+1)) c d e f g h))))))
 (zP (decide ((a.length:Int)≤b))
 (((xD zL [.ptr 1000 0,dI 1] (zE a b c d e f g h) (.tup []) (zE a b c d e f g h)∧
 (λp:Prop=>((wI b a.length=true∧p)∧wI b a.length=true∧p))
 (∃q:Int,xD wS [.str ((zR .tok a b.toNat).text)] [] (.tup [dI q,.undef]) []∧
 R (dI (yW (1*q))) (zE a (yW (b+1)) c d e f g h)))∨
 ∃u,oq zL [.ptr 1000 0,dI 1] (zE a b c d e f g h) u∧T u))
 (wI b a.length=true∧zP (!decide (((zR .tok a b.toNat).kind)=2))
 (((xD zL [.ptr 1000 0,dI 1] (zE a b c d e f g h) (.tup []) (zE a b c d e f g h)∧
 (λp:Prop=>((wI b a.length=true∧p)∧wI b a.length=true∧p))
 (∃r:Int,xD wS [.str ((zR .tok a b.toNat).text)] [] (.tup [dI r,.undef]) []∧
 R (dI (yW (1*r))) (zE a (yW (b+1)) c d e f g h)))∨
 ∃u,oq zL [.ptr 1000 0,dI 1] (zE a b c d e f g h) u∧T u))
 (zP (decide ((1:Int)<0))
 (wI b a.length=true∧zP (decide (((zR .tok a b.toNat).text)=(⟨#[48]⟩:ByteArray)))
 (((xD zL [.ptr 1000 0,dI 1] (zE a b c d e f g h) (.tup []) (zE a b c d e f g h)∧
 (λp:Prop=>((wI b a.length=true∧p)∧wI b a.length=true∧p))
 (∃s:Int,xD wS [.str ((zR .tok a b.toNat).text)] [] (.tup [dI s,.undef]) []∧
 R (dI (yW (1*s))) (zE a (yW (b+1)) c d e f g h)))∨
 ∃u,oq zL [.ptr 1000 0,dI 1] (zE a b c d e f g h) u∧T u))
 ((λp:Prop=>((wI b a.length=true∧p)∧wI b a.length=true∧p))
 (∃t:Int,xD wS [.str ((zR .tok a b.toNat).text)] [] (.tup [dI t,.undef]) []∧
 R (dI (yW (1*t))) (zE a (yW (b+1)) c d e f g h))))
 ((λp:Prop=>((wI b a.length=true∧p)∧wI b a.length=true∧p))
 (∃v:Int,xD wS [.str ((zR .tok a b.toNat).text)] [] (.tup [dI v,.undef]) []∧
 R (dI (yW (1*v))) (zE a (yW (b+1)) c d e f g h))))))):=by kernel_rfl
theorem NF(a:List tX)(b c d e:Int)(f:List zO)(g:List zF)(h:List (ByteArray×Int)):Xk Yq Tryz.f157 zI [.ptr 1000 0] (zE a b c d e f g h) [.ptr 1000 0] false:=Vh Tryz.func157 (by kernel_rfl) Tryz.ntmps157 rfl
theorem NG(a:List tX)(b c d e:Int)(f:List zO)(g:List zF)(h:List (ByteArray×Int)):Yv Yq Tryz.f157 zI [.ptr 1000 0] (zE a b c d e f g h) [.ptr 1000 0] false:=Wj Tryz.func157 (by kernel_rfl) Tryz.ntmps157 rfl
def nD:xP:= {own:=[1,2,3,7,83,88],live:=[(0,([0,1,2,3,8,9,10],[1,2,3,1000,1001,2000,2001]))],n:=108,first:=true,clp:=true}
def lU(R:oB)(T:RQ)(a:List ByteArray)(b:Nat)(c d:Int)(e f:List Int)(g:Int)(h:List (List Int))(i:List zC)(j:Int)(k l:List Int)(m:Int)(n:List (List Int))(o:List zC)(p:List tX)(q r s t:Int)(u:List (ByteArray×Int))(v:List zO)(w:List zF):Prop:=LP nD Tryz.f158 [1,1,0,1,0,0] 0 b ⟨[(0,.ptr 1000 0),(1,.ptr 1 0),(2,.ptr 2 0),(3,.ptr 3 0),(8,.sl .str a),(9,dI (a.length:Int)),(10,dI c)],[(1,.cells [.ptr 1000 0]),(2,.cells [dI d,.sl .int e,.sl .int f,dI g,dS h,.sl .lit i]),(3,.cells [dI j,.sl .int k,.sl .int l,dI m,dS n,.sl .lit o]),(1000,.cells [.sl .tok p,dI q,dI r,.own 2000,.own 2001,dI s,dI t,.own 1001]),(1001,.mp .str .int u),(2000,.row 72 .var v),(2001,.row 74 .con w)]⟩ (zQ 0 (sK nD Tryz.f158 [1,1,1] 0 (eX Tryz.f158 [.ptr 1000 0] false R T)))
theorem jX(R:oB)(T:RQ)(q:List ByteArray)(n0:Nat)(h c3:Int)(c4 c5:List Int)(c6:Int)(c7:List (List Int))(c8:List zC)(k:Int)(p o:List Int)(n:Int)(l:List (List Int))(m:List zC)(a:List tX)(i b c d:Int)(e:List (ByteArray×Int))(f:List zO)(g:List zF):lU R T q (n0+1) h c3 c4 c5 c6 c7 c8 k p o n l m a i b c d e f g=
 (zP (decide (h<(q.length:Int)))
 (wI h q.length=true∧∃j:Int,∃az:Bool,xD yP [.ptr 1000 0,.str (zR .str q h.toNat)] (zE a i b c d f g e) (dB az) (zE a j b c d f g e)∧
 zP az
 (zP (decide ((yW (1+h))=0))
 (((xD zL [.ptr 1000 0,dI 1] (zE a j b c d f g e) (.tup []) (zE a j b c d f g e)∧
 R (.agg [dI (yW (1+h)),.sl .int p,.sl .int o,dI n,dS l,.sl .lit m]) (zE a j b c d f g e))∨
 ∃u,oq zL [.ptr 1000 0,dI 1] (zE a j b c d f g e) u∧T u))
 (zP (decide ((yW (1+h))=1))
 (((∃r:Int,∃ba:List Int,xD zK [.ptr 1000 0,.clp zI true 1000 0] (zE a j b c d f g e) (.sl .int ba) (zE a r b c d f g e)∧
 ((∃s:Int,∃bb:List Int,xD zK [.ptr 1000 0,.clp zJ true 1000 0] (zE a r b c d f g e) (.sl .int bb) (zE a s b c d f g e)∧
 ((∃bc:Int,∃bd:Int,xD zI [.ptr 1000 0] (zE a s b c d f g e) (dI bd) (zE a bc b c d f g e)∧
 R (.agg [dI (yW (1+h)),.sl .int bb,.sl .int ba,dI bd,dS l,.sl .lit m]) (zE a bc b c d f g e))∨
 ∃u,oq zI [.ptr 1000 0] (zE a s b c d f g e) u∧T u))∨
 ∃u,oq zK [.ptr 1000 0,.clp zJ true 1000 0] (zE a r b c d f g e) u∧T u))∨
 ∃u,oq zK [.ptr 1000 0,.clp zI true 1000 0] (zE a j b c d f g e) u∧T u))
 (zP (decide ((yW (1+h))=2))
 (((∃t:Int,∃be:List Int,xD zK [.ptr 1000 0,.clp zI true 1000 0] (zE a j b c d f g e) (.sl .int be) (zE a t b c d f g e)∧
 ((∃v:Int,∃bf:List Int,xD zK [.ptr 1000 0,.clp zJ true 1000 0] (zE a t b c d f g e) (.sl .int bf) (zE a v b c d f g e)∧
 ((∃bg:Int,∃bh:Int,xD zI [.ptr 1000 0] (zE a v b c d f g e) (dI bh) (zE a bg b c d f g e)∧
 R (.agg [dI (yW (1+h)),.sl .int bf,.sl .int be,dI bh,dS l,.sl .lit m]) (zE a bg b c d f g e))∨
 ∃u,oq zI [.ptr 1000 0] (zE a v b c d f g e) u∧T u))∨
 ∃u,oq zK [.ptr 1000 0,.clp zJ true 1000 0] (zE a t b c d f g e) u∧T u))∨
 ∃u,oq zK [.ptr 1000 0,.clp zI true 1000 0] (zE a j b c d f g e) u∧T u))
 (zP (decide ((yW (1+h))=3))
 (((∃w:Int,∃bi:List Int,xD zK [.ptr 1000 0,.clp zI true 1000 0] (zE a j b c d f g e) (.sl .int bi) (zE a w b c d f g e)∧
 ((∃x:Int,∃bj:List Int,xD zK [.ptr 1000 0,.clp zJ true 1000 0] (zE a w b c d f g e) (.sl .int bj) (zE a x b c d f g e)∧
 ((∃bk:Int,∃bl:Int,xD zI [.ptr 1000 0] (zE a x b c d f g e) (dI bl) (zE a bk b c d f g e)∧
 R (.agg [dI (yW (1+h)),.sl .int bj,.sl .int bi,dI bl,dS l,.sl .lit m]) (zE a bk b c d f g e))∨
 ∃u,oq zI [.ptr 1000 0] (zE a x b c d f g e) u∧T u))∨
 ∃u,oq zK [.ptr 1000 0,.clp zJ true 1000 0] (zE a w b c d f g e) u∧T u))∨
 ∃u,oq zK [.ptr 1000 0,.clp zI true 1000 0] (zE a j b c d f g e) u∧T u))
 (zP (decide ((yW (1+h))=4))
 (((∃bm:Int,∃bn:List Int,xD zK [.ptr 1000 0,.clp zJ true 1000 0] (zE a j b c d f g e) (.sl .int bn) (zE a bm b c d f g e)∧
 R (.agg [dI (yW (1+h)),.sl .int bn,.sl .int o,dI n,dS l,.sl .lit m]) (zE a bm b c d f g e))∨
 ∃u,oq zK [.ptr 1000 0,.clp zJ true 1000 0] (zE a j b c d f g e) u∧T u))
 (zP (decide ((yW (1+h))=5))
 (((∃y:Int,∃bo:List Int,xD zK [.ptr 1000 0,.clp zI true 1000 0] (zE a j b c d f g e) (.sl .int bo) (zE a y b c d f g e)∧
 ((∃bp:Int,∃bq:List Int,xD xB [.ptr 1000 0,dI 2] (zE a y b c d f g e) (.sl .int bq) (zE a bp b c d f g e)∧
 R (.agg [dI (yW (1+h)),.sl .int bq,.sl .int bo,dI n,dS l,.sl .lit m]) (zE a bp b c d f g e))∨
 ∃u,oq xB [.ptr 1000 0,dI 2] (zE a y b c d f g e) u∧T u))∨
 ∃u,oq zK [.ptr 1000 0,.clp zI true 1000 0] (zE a j b c d f g e) u∧T u))
 (zP (decide ((yW (1+h))=6))
 (((∃z:Int,∃br:List Int,xD zK [.ptr 1000 0,.clp zJ true 1000 0] (zE a j b c d f g e) (.sl .int br) (zE a z b c d f g e)∧
 ((∃bs:Int,∃bt:List (List Int),xD uT [.ptr 1000 0,.clp yO false 1002 0] [(1000,.cells [.sl .tok a,dI z,dI b,.own 2000,.own 2001,dI c,dI d,.own 1001]),(2000,.row 72 .var f),(2001,.row 74 .con g),(1001,.mp .str .int e),(1002,.cells [.ptr 1000 0])] (dS bt) [(1000,.cells [.sl .tok a,dI bs,dI b,.own 2000,.own 2001,dI c,dI d,.own 1001]),(2000,.row 72 .var f),(2001,.row 74 .con g),(1001,.mp .str .int e),(1002,.cells [.ptr 1000 0])]∧
 R (.agg [dI (yW (1+h)),.sl .int br,.sl .int o,dI n,dS bt,.sl .lit m]) (zE a bs b c d f g e))∨
 ∃u,oq uT [.ptr 1000 0,.clp yO false 1002 0] [(1000,.cells [.sl .tok a,dI z,dI b,.own 2000,.own 2001,dI c,dI d,.own 1001]),(2000,.row 72 .var f),(2001,.row 74 .con g),(1001,.mp .str .int e),(1002,.cells [.ptr 1000 0])] u∧T u))∨
 ∃u,oq zK [.ptr 1000 0,.clp zJ true 1000 0] (zE a j b c d f g e) u∧T u))
 (zP (decide ((yW (1+h))=7))
 (((∃bu:Int,∃bv:List Int,xD xB [.ptr 1000 0,dI 3] (zE a j b c d f g e) (.sl .int bv) (zE a bu b c d f g e)∧
 R (.agg [dI (yW (1+h)),.sl .int bv,.sl .int o,dI n,dS l,.sl .lit m]) (zE a bu b c d f g e))∨
 ∃u,oq xB [.ptr 1000 0,dI 3] (zE a j b c d f g e) u∧T u))
 (zP (decide ((yW (1+h))=8))
 (((∃aa:Int,∃ab:Int,xD zJ [.ptr 1000 0] (zE a j b c d f g e) (dI ab) (zE a aa b c d f g e)∧
 ((∃bw:Int,∃ac:List Int,xD zK [.ptr 1000 0,.clp zJ true 1000 0] (zE a aa b c d f g e) (.sl .int ac) (zE a bw b c d f g e)∧
 wD .int (([ab]).length+ac.length)=true∧R (.agg [dI (yW (1+h)),.sl .int (([ab])++ac),.sl .int o,dI n,dS l,.sl .lit m]) (zE a bw b c d f g e))∨
 ∃u,oq zK [.ptr 1000 0,.clp zJ true 1000 0] (zE a aa b c d f g e) u∧T u))∨
 ∃u,oq zJ [.ptr 1000 0] (zE a j b c d f g e) u∧T u))
 (zP (decide ((yW (1+h))=9))
 (((∃bx:Int,∃bz:List zC,xD vJ [.ptr 1000 0,.clp yD true 1000 0] (zE a j b c d f g e) (.sl .lit bz) (zE a bx b c d f g e)∧
 R (.agg [dI (yW (1+h)),.sl .int p,.sl .int o,dI n,dS l,.sl .lit bz]) (zE a bx b c d f g e))∨
 ∃u,oq vJ [.ptr 1000 0,.clp yD true 1000 0] (zE a j b c d f g e) u∧T u))
 (zP (decide ((yW (1+h))=10))
 (((∃ad:Int,∃ca:List Int,xD xB [.ptr 1000 0,dI 1] (zE a j b c d f g e) (.sl .int ca) (zE a ad b c d f g e)∧
 ((∃cb:Int,∃cc:zC,xD yD [.ptr 1000 0] (zE a ad b c d f g e) (dL cc) (zE a cb b c d f g e)∧
 R (.agg [dI (yW (1+h)),.sl .int ca,.sl .int o,dI n,dS l,.sl .lit ([cc])]) (zE a cb b c d f g e))∨
 ∃u,oq yD [.ptr 1000 0] (zE a ad b c d f g e) u∧T u))∨
 ∃u,oq xB [.ptr 1000 0,dI 1] (zE a j b c d f g e) u∧T u))
 (R (.agg [dI (yW (1+h)),.sl .int p,.sl .int o,dI n,dS l,.sl .lit m]) (zE a j b c d f g e)))))))))))))
 (lU R T q n0 (yW (h+1)) c3 c4 c5 c6 c7 c8 k p o n l m a j b c d e f g))
 (zP (decide (k=0))
 (((xD zL [.ptr 1000 0,dI 1] (zE a i b c d f g e) (.tup []) (zE a i b c d f g e)∧
 R (.agg [dI k,.sl .int p,.sl .int o,dI n,dS l,.sl .lit m]) (zE a i b c d f g e))∨
 ∃u,oq zL [.ptr 1000 0,dI 1] (zE a i b c d f g e) u∧T u))
 (zP (decide (k=1))
 (((∃ae:Int,∃cd:List Int,xD zK [.ptr 1000 0,.clp zI true 1000 0] (zE a i b c d f g e) (.sl .int cd) (zE a ae b c d f g e)∧
 ((∃af:Int,∃ce:List Int,xD zK [.ptr 1000 0,.clp zJ true 1000 0] (zE a ae b c d f g e) (.sl .int ce) (zE a af b c d f g e)∧
 ((∃cf:Int,∃cg:Int,xD zI [.ptr 1000 0] (zE a af b c d f g e) (dI cg) (zE a cf b c d f g e)∧
 R (.agg [dI k,.sl .int ce,.sl .int cd,dI cg,dS l,.sl .lit m]) (zE a cf b c d f g e))∨
 ∃u,oq zI [.ptr 1000 0] (zE a af b c d f g e) u∧T u))∨
 ∃u,oq zK [.ptr 1000 0,.clp zJ true 1000 0] (zE a ae b c d f g e) u∧T u))∨
 ∃u,oq zK [.ptr 1000 0,.clp zI true 1000 0] (zE a i b c d f g e) u∧T u))
 (zP (decide (k=2))
 (((∃ag:Int,∃ch:List Int,xD zK [.ptr 1000 0,.clp zI true 1000 0] (zE a i b c d f g e) (.sl .int ch) (zE a ag b c d f g e)∧
 ((∃ah:Int,∃ci:List Int,xD zK [.ptr 1000 0,.clp zJ true 1000 0] (zE a ag b c d f g e) (.sl .int ci) (zE a ah b c d f g e)∧
 ((∃cj:Int,∃ck:Int,xD zI [.ptr 1000 0] (zE a ah b c d f g e) (dI ck) (zE a cj b c d f g e)∧
 R (.agg [dI k,.sl .int ci,.sl .int ch,dI ck,dS l,.sl .lit m]) (zE a cj b c d f g e))∨
 ∃u,oq zI [.ptr 1000 0] (zE a ah b c d f g e) u∧T u))∨
 ∃u,oq zK [.ptr 1000 0,.clp zJ true 1000 0] (zE a ag b c d f g e) u∧T u))∨
 ∃u,oq zK [.ptr 1000 0,.clp zI true 1000 0] (zE a i b c d f g e) u∧T u))
 (zP (decide (k=3))
 (((∃ai:Int,∃cl:List Int,xD zK [.ptr 1000 0,.clp zI true 1000 0] (zE a i b c d f g e) (.sl .int cl) (zE a ai b c d f g e)∧
 ((∃aj:Int,∃cm:List Int,xD zK [.ptr 1000 0,.clp zJ true 1000 0] (zE a ai b c d f g e) (.sl .int cm) (zE a aj b c d f g e)∧
 ((∃cn:Int,∃co:Int,xD zI [.ptr 1000 0] (zE a aj b c d f g e) (dI co) (zE a cn b c d f g e)∧
 R (.agg [dI k,.sl .int cm,.sl .int cl,dI co,dS l,.sl .lit m]) (zE a cn b c d f g e))∨
 ∃u,oq zI [.ptr 1000 0] (zE a aj b c d f g e) u∧T u))∨
 ∃u,oq zK [.ptr 1000 0,.clp zJ true 1000 0] (zE a ai b c d f g e) u∧T u))∨
 ∃u,oq zK [.ptr 1000 0,.clp zI true 1000 0] (zE a i b c d f g e) u∧T u))
 (zP (decide (k=4))
 (((∃cp:Int,∃cq:List Int,xD zK [.ptr 1000 0,.clp zJ true 1000 0] (zE a i b c d f g e) (.sl .int cq) (zE a cp b c d f g e)∧
 R (.agg [dI k,.sl .int cq,.sl .int o,dI n,dS l,.sl .lit m]) (zE a cp b c d f g e))∨
 ∃u,oq zK [.ptr 1000 0,.clp zJ true 1000 0] (zE a i b c d f g e) u∧T u))
 (zP (decide (k=5))
 (((∃ak:Int,∃cr:List Int,xD zK [.ptr 1000 0,.clp zI true 1000 0] (zE a i b c d f g e) (.sl .int cr) (zE a ak b c d f g e)∧
 ((∃cs:Int,∃ct:List Int,xD xB [.ptr 1000 0,dI 2] (zE a ak b c d f g e) (.sl .int ct) (zE a cs b c d f g e)∧
 R (.agg [dI k,.sl .int ct,.sl .int cr,dI n,dS l,.sl .lit m]) (zE a cs b c d f g e))∨
 ∃u,oq xB [.ptr 1000 0,dI 2] (zE a ak b c d f g e) u∧T u))∨
 ∃u,oq zK [.ptr 1000 0,.clp zI true 1000 0] (zE a i b c d f g e) u∧T u))
 (zP (decide (k=6))
 (((∃al:Int,∃cu:List Int,xD zK [.ptr 1000 0,.clp zJ true 1000 0] (zE a i b c d f g e) (.sl .int cu) (zE a al b c d f g e)∧
 ((∃cv:Int,∃cw:List (List Int),xD uT [.ptr 1000 0,.clp yO false 1002 0] [(1000,.cells [.sl .tok a,dI al,dI b,.own 2000,.own 2001,dI c,dI d,.own 1001]),(2000,.row 72 .var f),(2001,.row 74 .con g),(1001,.mp .str .int e),(1002,.cells [.ptr 1000 0])] (dS cw) [(1000,.cells [.sl .tok a,dI cv,dI b,.own 2000,.own 2001,dI c,dI d,.own 1001]),(2000,.row 72 .var f),(2001,.row 74 .con g),(1001,.mp .str .int e),(1002,.cells [.ptr 1000 0])]∧
 R (.agg [dI k,.sl .int cu,.sl .int o,dI n,dS cw,.sl .lit m]) (zE a cv b c d f g e))∨
 ∃u,oq uT [.ptr 1000 0,.clp yO false 1002 0] [(1000,.cells [.sl .tok a,dI al,dI b,.own 2000,.own 2001,dI c,dI d,.own 1001]),(2000,.row 72 .var f),(2001,.row 74 .con g),(1001,.mp .str .int e),(1002,.cells [.ptr 1000 0])] u∧T u))∨
 ∃u,oq zK [.ptr 1000 0,.clp zJ true 1000 0] (zE a i b c d f g e) u∧T u))
 (zP (decide (k=7))
 (((∃cx:Int,∃cy:List Int,xD xB [.ptr 1000 0,dI 3] (zE a i b c d f g e) (.sl .int cy) (zE a cx b c d f g e)∧
 R (.agg [dI k,.sl .int cy,.sl .int o,dI n,dS l,.sl .lit m]) (zE a cx b c d f g e))∨
 ∃u,oq xB [.ptr 1000 0,dI 3] (zE a i b c d f g e) u∧T u))
 (zP (decide (k=8))
 (((∃am:Int,∃an:Int,xD zJ [.ptr 1000 0] (zE a i b c d f g e) (dI an) (zE a am b c d f g e)∧
 ((∃cz:Int,∃ao:List Int,xD zK [.ptr 1000 0,.clp zJ true 1000 0] (zE a am b c d f g e) (.sl .int ao) (zE a cz b c d f g e)∧
 wD .int (([an]).length+ao.length)=true∧R (.agg [dI k,.sl .int (([an])++ao),.sl .int o,dI n,dS l,.sl .lit m]) (zE a cz b c d f g e))∨
 ∃u,oq zK [.ptr 1000 0,.clp zJ true 1000 0] (zE a am b c d f g e) u∧T u))∨
 ∃u,oq zJ [.ptr 1000 0] (zE a i b c d f g e) u∧T u))
 (zP (decide (k=9))
 (((∃da:Int,∃db:List zC,xD vJ [.ptr 1000 0,.clp yD true 1000 0] (zE a i b c d f g e) (.sl .lit db) (zE a da b c d f g e)∧
 R (.agg [dI k,.sl .int p,.sl .int o,dI n,dS l,.sl .lit db]) (zE a da b c d f g e))∨
 ∃u,oq vJ [.ptr 1000 0,.clp yD true 1000 0] (zE a i b c d f g e) u∧T u))
 (zP (decide (k=10))
 (((∃ap:Int,∃dc:List Int,xD xB [.ptr 1000 0,dI 1] (zE a i b c d f g e) (.sl .int dc) (zE a ap b c d f g e)∧
 ((∃dd:Int,∃de:zC,xD yD [.ptr 1000 0] (zE a ap b c d f g e) (dL de) (zE a dd b c d f g e)∧
 R (.agg [dI k,.sl .int dc,.sl .int o,dI n,dS l,.sl .lit ([de])]) (zE a dd b c d f g e))∨
 ∃u,oq yD [.ptr 1000 0] (zE a ap b c d f g e) u∧T u))∨
 ∃u,oq xB [.ptr 1000 0,dI 1] (zE a i b c d f g e) u∧T u))
 (R (.agg [dI k,.sl .int p,.sl .int o,dI n,dS l,.sl .lit m]) (zE a i b c d f g e)))))))))))))):=by kernel_rfl
theorem P8(a:List tX)(b c d e:Int)(f:List zO)(g:List zF)(h:List (ByteArray×Int))(R:oB)(T:RQ):FX nD Tryz.f158 [.ptr 1000 0] (zE a b c d e f g h) [.ptr 1000 0] false R T=
 (yY gV [] (.list .str) λi=>
 ∃n0,lU R T i n0 0 0 ([]:List Int) ([]:List Int) 0 ([]:List (List Int)) ([]:List zC) 0 ([]:List Int) ([]:List Int) 0 ([]:List (List Int)) ([]:List zC) a b c d e h f g):=by kernel_rfl
theorem Qv(a:List tX)(b c d e:Int)(f:List zO)(g:List zF)(h:List (ByteArray×Int)):Xk nD Tryz.f158 rF [.ptr 1000 0] (zE a b c d e f g h) [.ptr 1000 0] false:=Vh Tryz.func158 (by kernel_rfl) Tryz.ntmps158 rfl
theorem Qw(a:List tX)(b c d e:Int)(f:List zO)(g:List zF)(h:List (ByteArray×Int)):Yv nD Tryz.f158 rF [.ptr 1000 0] (zE a b c d e f g h) [.ptr 1000 0] false:=Wj Tryz.func158 (by kernel_rfl) Tryz.ntmps158 rfl
def Yr:xP:= {own:=[],live:=[],n:=27,first:=true,tdraw:=true}
theorem Lr(b:List tX)(c d e f:Int)(g:List zO)(h:List zF)(a:List (ByteArray×Int))(R:oB)(T:RQ):FX Yr Tryz.f159 [.ptr 1000 0] (zE b c d e f g h a) [.ptr 1000 0] false R T=
 ((λp:Prop=>((p)∧p))
 (((∃i:ByteArray,xD vD [.ptr 1000 0] (zE b c d e f g h a) (.str i) (zE b c d e f g h a)∧
 (λp:Prop=>((((p)∧p))∧p))
 (zP (!(Pz .str .int i a))
 (((xD zL [.ptr 1000 0,dI 5] (zE b c d e f g h a) (.tup []) (zE b c d e f g h a)∧
 R (dI (nU .str .int i a)) (zE b (yW (c+1)) d e f g h a))∨
 ∃u,oq zL [.ptr 1000 0,dI 5] (zE b c d e f g h a) u∧T u))
 (R (dI (nU .str .int i a)) (zE b (yW (c+1)) d e f g h a))))∨
 ∃u,oq vD [.ptr 1000 0] (zE b c d e f g h a) u∧T u))):=by kernel_rfl
theorem NH(a:List tX)(b c d e:Int)(f:List zO)(g:List zF)(h:List (ByteArray×Int)):Xk Yr Tryz.f159 zJ [.ptr 1000 0] (zE a b c d e f g h) [.ptr 1000 0] false:=Vh Tryz.func159 (by kernel_rfl) Tryz.ntmps159 rfl
theorem NI(a:List tX)(b c d e:Int)(f:List zO)(g:List zF)(h:List (ByteArray×Int)):Yv Yr Tryz.f159 zJ [.ptr 1000 0] (zE a b c d e f g h) [.ptr 1000 0] false:=Wj Tryz.func159 (by kernel_rfl) Tryz.ntmps159 rfl
def Xu:xP:= {own:=[],live:=[],n:=9,first:=true}
theorem Qx(a:List tX)(b c d e:Int)(f:List zO)(g:List zF)(h:List (ByteArray×Int))(i:Int)(R:oB)(T:RQ):FX Xu Tryz.f160 [.ptr 1000 0,dI i] (zE a b c d e f g h) [.ptr 1000 0] false R T=
 (∃j:Int,xD lL [.ptr 1000 0] (zE a b c d e f g h) (dI j) (zE a b c d e f g h)∧
 T (.iface 158 (.agg [.int .i64 j,.int .i64 i].toArray))):=by kernel_rfl
theorem SK(a:List tX)(b c d e:Int)(f:List zO)(g:List zF)(h:List (ByteArray×Int))(i:Int):Yv Xu Tryz.f160 zL [.ptr 1000 0,dI i] (zE a b c d e f g h) [.ptr 1000 0] false:=Wj Tryz.func160 (by kernel_rfl) Tryz.ntmps160 rfl
def nE:xP:= {own:=[14,22],live:=[(0,([0,1,5],[14,1000,1001,2000,2001]))],n:=27,first:=true,clp:=true}
def lV(R:oB)(T:RQ)(a:Nat)(b:List Int)(c:List tX)(d e f g:Int)(h:List (ByteArray×Int))(i:List zO)(j:List zF):Prop:=LP nE Tryz.f211 [1,1,1,1,0,0,0] 0 a ⟨[(0,.ptr 1000 0),(1,.clp zI true 1000 0),(5,.own 14)],[(14,.row 3 .int b),(1000,.cells [.sl .tok c,dI d,dI e,.own 2000,.own 2001,dI f,dI g,.own 1001]),(1001,.mp .str .int h),(2000,.row 72 .var i),(2001,.row 74 .con j)]⟩ (zQ 0 (sK nE Tryz.f211 [1,1,1,1,1] 0 (eX Tryz.f211 [.ptr 1000 0] false R T)))
theorem jY(R:oB)(T:RQ)(k:Nat)(i:List Int)(a:List tX)(l b c d:Int)(e:List (ByteArray×Int))(f:List zO)(g:List zF):lV R T (k+1) i a l b c d e f g=
 (∃h:Int,∃m:Bool,xD yP [.ptr 1000 0,.str (⟨#[44]⟩:ByteArray)] (zE a l b c d f g e) (dB m) (zE a h b c d f g e)∧
 zP m
 (((∃n:Int,∃j:Int,xD zI [.ptr 1000 0] (zE a h b c d f g e) (dI j) (zE a n b c d f g e)∧
 wD .int (i.length+([j]).length)=true∧lV R T k (i++([j])) a n b c d e f g)∨
 ∃u,oq zI [.ptr 1000 0] (zE a h b c d f g e) u∧T u))
 (((∃o:Int,xD zH [.ptr 1000 0,.sl .str ([(⟨#[93]⟩:ByteArray)])] (zE a h b c d f g e) (.tup []) (zE a o b c d f g e)∧
 R (.sl .int i) (zE a o b c d f g e))∨
 ∃u,oq zH [.ptr 1000 0,.sl .str ([(⟨#[93]⟩:ByteArray)])] (zE a h b c d f g e) u∧T u))):=by kernel_rfl
theorem P9(a:List tX)(i b c d:Int)(e:List zO)(f:List zF)(g:List (ByteArray×Int))(R:oB)(T:RQ):FX nE Tryz.f211 [.ptr 1000 0,.clp zI true 1000 0] (zE a i b c d e f g) [.ptr 1000 0] false R T=
 (((∃j:Int,xD zH [.ptr 1000 0,.sl .str ([(⟨#[91]⟩:ByteArray)])] (zE a i b c d e f g) (.tup []) (zE a j b c d e f g)∧
 ∃h:Int,∃k:Bool,xD yP [.ptr 1000 0,.str (⟨#[93]⟩:ByteArray)] (zE a j b c d e f g) (dB k) (zE a h b c d e f g)∧
 zP k
 (R (.sl .int ([]:List Int)) (zE a h b c d e f g))
 (((∃l:Int,∃m:Int,xD zI [.ptr 1000 0] (zE a h b c d e f g) (dI m) (zE a l b c d e f g)∧
 ∃n0,lV R T n0 ([m]) a l b c d g e f)∨
 ∃u,oq zI [.ptr 1000 0] (zE a h b c d e f g) u∧T u)))∨
 ∃u,oq zH [.ptr 1000 0,.sl .str ([(⟨#[91]⟩:ByteArray)])] (zE a i b c d e f g) u∧T u)):=by kernel_rfl
theorem Qy(a:List tX)(b c d e:Int)(f:List zO)(g:List zF)(h:List (ByteArray×Int)):Xk nE Tryz.f211 zK [.ptr 1000 0,.clp zI true 1000 0] (zE a b c d e f g h) [.ptr 1000 0] false:=Vh Tryz.func211 (by kernel_rfl) Tryz.ntmps211 rfl
theorem Qz(a:List tX)(b c d e:Int)(f:List zO)(g:List zF)(h:List (ByteArray×Int)):Yv nE Tryz.f211 zK [.ptr 1000 0,.clp zI true 1000 0] (zE a b c d e f g h) [.ptr 1000 0] false:=Wj Tryz.func211 (by kernel_rfl) Tryz.ntmps211 rfl
def nF:xP:= {own:=[14,22],live:=[(0,([0,1,5],[14,1000,1001,2000,2001]))],n:=27,first:=true,clp:=true}
def lW(R:oB)(T:RQ)(a:Nat)(b:List Int)(c:List tX)(d e f g:Int)(h:List (ByteArray×Int))(i:List zO)(j:List zF):Prop:=LP nF Tryz.f211 [1,1,1,1,0,0,0] 0 a ⟨[(0,.ptr 1000 0),(1,.clp zJ true 1000 0),(5,.own 14)],[(14,.row 3 .int b),(1000,.cells [.sl .tok c,dI d,dI e,.own 2000,.own 2001,dI f,dI g,.own 1001]),(1001,.mp .str .int h),(2000,.row 72 .var i),(2001,.row 74 .con j)]⟩ (zQ 0 (sK nF Tryz.f211 [1,1,1,1,1] 0 (eX Tryz.f211 [.ptr 1000 0] false R T)))
theorem jZ(R:oB)(T:RQ)(k:Nat)(i:List Int)(a:List tX)(l b c d:Int)(e:List (ByteArray×Int))(f:List zO)(g:List zF):lW R T (k+1) i a l b c d e f g=
 (∃h:Int,∃m:Bool,xD yP [.ptr 1000 0,.str (⟨#[44]⟩:ByteArray)] (zE a l b c d f g e) (dB m) (zE a h b c d f g e)∧
 zP m
 (((∃n:Int,∃j:Int,xD zJ [.ptr 1000 0] (zE a h b c d f g e) (dI j) (zE a n b c d f g e)∧
 wD .int (i.length+([j]).length)=true∧lW R T k (i++([j])) a n b c d e f g)∨
 ∃u,oq zJ [.ptr 1000 0] (zE a h b c d f g e) u∧T u))
 (((∃o:Int,xD zH [.ptr 1000 0,.sl .str ([(⟨#[93]⟩:ByteArray)])] (zE a h b c d f g e) (.tup []) (zE a o b c d f g e)∧
 R (.sl .int i) (zE a o b c d f g e))∨
 ∃u,oq zH [.ptr 1000 0,.sl .str ([(⟨#[93]⟩:ByteArray)])] (zE a h b c d f g e) u∧T u))):=by kernel_rfl
theorem Oa(a:List tX)(i b c d:Int)(e:List zO)(f:List zF)(g:List (ByteArray×Int))(R:oB)(T:RQ):FX nF Tryz.f211 [.ptr 1000 0,.clp zJ true 1000 0] (zE a i b c d e f g) [.ptr 1000 0] false R T=
 (((∃j:Int,xD zH [.ptr 1000 0,.sl .str ([(⟨#[91]⟩:ByteArray)])] (zE a i b c d e f g) (.tup []) (zE a j b c d e f g)∧
 ∃h:Int,∃k:Bool,xD yP [.ptr 1000 0,.str (⟨#[93]⟩:ByteArray)] (zE a j b c d e f g) (dB k) (zE a h b c d e f g)∧
 zP k
 (R (.sl .int ([]:List Int)) (zE a h b c d e f g))
 (((∃l:Int,∃m:Int,xD zJ [.ptr 1000 0] (zE a h b c d e f g) (dI m) (zE a l b c d e f g)∧
 ∃n0,lW R T n0 ([m]) a l b c d g e f)∨
 ∃u,oq zJ [.ptr 1000 0] (zE a h b c d e f g) u∧T u)))∨
 ∃u,oq zH [.ptr 1000 0,.sl .str ([(⟨#[91]⟩:ByteArray)])] (zE a i b c d e f g) u∧T u)):=by kernel_rfl
theorem QA(a:List tX)(b c d e:Int)(f:List zO)(g:List zF)(h:List (ByteArray×Int)):Xk nF Tryz.f211 zK [.ptr 1000 0,.clp zJ true 1000 0] (zE a b c d e f g h) [.ptr 1000 0] false:=Vh Tryz.func211 (by kernel_rfl) Tryz.ntmps211 rfl
theorem QB(a:List tX)(b c d e:Int)(f:List zO)(g:List zF)(h:List (ByteArray×Int)):Yv nF Tryz.f211 zK [.ptr 1000 0,.clp zJ true 1000 0] (zE a b c d e f g h) [.ptr 1000 0] false:=Wj Tryz.func211 (by kernel_rfl) Tryz.ntmps211 rfl
def oF:xP:= {own:=[5,15],live:=[(0,([0,5,7,8],[5,1000,1001,2000,2001]))],n:=18,first:=true}
def mF(a:Int)(R:oB)(T:RQ)(b:Nat)(c:Int)(d:List Int)(e:List tX)(f g h i:Int)(j:List (ByteArray×Int))(k:List zO)(l:List zF):Prop:=LP oF Tryz.f212 [1,1,0,1,0,0] 0 b ⟨[(0,.ptr 1000 0),(5,.own 5),(7,dI a),(8,dI c)],[(5,.row 3 .int d),(1000,.cells [.sl .tok e,dI f,dI g,.own 2000,.own 2001,dI h,dI i,.own 1001]),(1001,.mp .str .int j),(2000,.row 72 .var k),(2001,.row 74 .con l)]⟩ (zQ 0 (sK oF Tryz.f212 [1,1,1] 0 (eX Tryz.f212 [.ptr 1000 0] false R T)))
theorem lX(j:Int)(R:oB)(T:RQ)(m:Nat)(k:Int)(h:List Int)(a:List tX)(i b c d:Int)(e:List (ByteArray×Int))(f:List zO)(g:List zF):mF j R T (m+1) k h a i b c d e f g=
 (zP (decide (k<j))
 (((∃n:Int,∃l:Int,xD zJ [.ptr 1000 0] (zE a i b c d f g e) (dI l) (zE a n b c d f g e)∧
 wD .int (h.length+([l]).length)=true∧mF j R T m (yW (k+1)) (h++([l])) a n b c d e f g)∨
 ∃u,oq zJ [.ptr 1000 0] (zE a i b c d f g e) u∧T u))
 (R (.sl .int h) (zE a i b c d f g e))):=by kernel_rfl
theorem QC(a:List tX)(b c d e:Int)(f:List zO)(g:List zF)(h:List (ByteArray×Int))(i:Int)(R:oB)(T:RQ):FX oF Tryz.f212 [.ptr 1000 0,dI i] (zE a b c d e f g h) [.ptr 1000 0] false R T=
 (∃n0,mF i R T n0 0 ([]:List Int) a b c d e h f g):=by kernel_rfl
theorem SL(a:List tX)(b c d e:Int)(f:List zO)(g:List zF)(h:List (ByteArray×Int))(i:Int):Xk oF Tryz.f212 xB [.ptr 1000 0,dI i] (zE a b c d e f g h) [.ptr 1000 0] false:=Vh Tryz.func212 (by kernel_rfl) Tryz.ntmps212 rfl
theorem SM(a:List tX)(b c d e:Int)(f:List zO)(g:List zF)(h:List (ByteArray×Int))(i:Int):Yv oF Tryz.f212 xB [.ptr 1000 0,dI i] (zE a b c d e f g h) [.ptr 1000 0] false:=Wj Tryz.func212 (by kernel_rfl) Tryz.ntmps212 rfl
def nG:xP:= {own:=[14,22],live:=[(0,([0,1,5],[14,1000,1001,1002,2000,2001]))],n:=27,first:=true,clp:=true}
def lY(R:oB)(T:RQ)(a:Nat)(b:List (List Int))(c:List tX)(d e f g:Int)(h:List (ByteArray×Int))(i:List zO)(j:List zF):Prop:=LP nG Tryz.f213 [1,1,1,1,0,0,0] 0 a ⟨[(0,.ptr 1000 0),(1,.clp yO false 1002 0),(5,.own 14)],[(14,.row 40 (.list .int) b),(1000,.cells [.sl .tok c,dI d,dI e,.own 2000,.own 2001,dI f,dI g,.own 1001]),(1001,.mp .str .int h),(1002,.cells [.ptr 1000 0]),(2000,.row 72 .var i),(2001,.row 74 .con j)]⟩ (zQ 0 (sK nG Tryz.f213 [1,1,1,1,1] 0 (eX Tryz.f213 [.ptr 1000 0,.ptr 1002 0] false R T)))
theorem iA(R:oB)(T:RQ)(k:Nat)(i:List (List Int))(a:List tX)(l b c d:Int)(e:List (ByteArray×Int))(f:List zO)(g:List zF):lY R T (k+1) i a l b c d e f g=
 (∃h:Int,∃m:Bool,xD yP [.ptr 1000 0,.str (⟨#[44]⟩:ByteArray)] (zE a l b c d f g e) (dB m) (zE a h b c d f g e)∧
 zP m
 (((∃n:Int,∃j:List Int,xD yO [.ptr 1000 0] [(1000,.cells [.ptr 1001 0]),(1001,.cells [.sl .tok a,dI h,dI b,.own 2000,.own 2001,dI c,dI d,.own 1002]),(2000,.row 72 .var f),(2001,.row 74 .con g),(1002,.mp .str .int e)] (.sl .int j) [(1000,.cells [.ptr 1001 0]),(1001,.cells [.sl .tok a,dI n,dI b,.own 2000,.own 2001,dI c,dI d,.own 1002]),(2000,.row 72 .var f),(2001,.row 74 .con g),(1002,.mp .str .int e)]∧
 wD (.list .int) (i.length+([j]).length)=true∧lY R T k (i++([j])) a n b c d e f g)∨
 ∃u,oq yO [.ptr 1000 0] [(1000,.cells [.ptr 1001 0]),(1001,.cells [.sl .tok a,dI h,dI b,.own 2000,.own 2001,dI c,dI d,.own 1002]),(2000,.row 72 .var f),(2001,.row 74 .con g),(1002,.mp .str .int e)] u∧T u))
 (((∃o:Int,xD zH [.ptr 1000 0,.sl .str ([(⟨#[93]⟩:ByteArray)])] (zE a h b c d f g e) (.tup []) (zE a o b c d f g e)∧
 R (dS i) [(1000,.cells [.sl .tok a,dI o,dI b,.own 2000,.own 2001,dI c,dI d,.own 1001]),(2000,.row 72 .var f),(2001,.row 74 .con g),(1001,.mp .str .int e),(1002,.cells [.ptr 1000 0])])∨
 ∃u,oq zH [.ptr 1000 0,.sl .str ([(⟨#[93]⟩:ByteArray)])] (zE a h b c d f g e) u∧T u))):=by kernel_rfl
theorem Ob(a:List tX)(i b c d:Int)(e:List zO)(f:List zF)(g:List (ByteArray×Int))(R:oB)(T:RQ):FX nG Tryz.f213 [.ptr 1000 0,.clp yO false 1002 0] [(1000,.cells [.sl .tok a,dI i,dI b,.own 2000,.own 2001,dI c,dI d,.own 1001]),(2000,.row 72 .var e),(2001,.row 74 .con f),(1001,.mp .str .int g),(1002,.cells [.ptr 1000 0])] [.ptr 1000 0,.ptr 1002 0] false R T=
 (((∃j:Int,xD zH [.ptr 1000 0,.sl .str ([(⟨#[91]⟩:ByteArray)])] (zE a i b c d e f g) (.tup []) (zE a j b c d e f g)∧
 ∃h:Int,∃k:Bool,xD yP [.ptr 1000 0,.str (⟨#[93]⟩:ByteArray)] (zE a j b c d e f g) (dB k) (zE a h b c d e f g)∧
 zP k
 (R (dS ([]:List (List Int))) [(1000,.cells [.sl .tok a,dI h,dI b,.own 2000,.own 2001,dI c,dI d,.own 1001]),(2000,.row 72 .var e),(2001,.row 74 .con f),(1001,.mp .str .int g),(1002,.cells [.ptr 1000 0])])
 (((∃l:Int,∃m:List Int,xD yO [.ptr 1000 0] [(1000,.cells [.ptr 1001 0]),(1001,.cells [.sl .tok a,dI h,dI b,.own 2000,.own 2001,dI c,dI d,.own 1002]),(2000,.row 72 .var e),(2001,.row 74 .con f),(1002,.mp .str .int g)] (.sl .int m) [(1000,.cells [.ptr 1001 0]),(1001,.cells [.sl .tok a,dI l,dI b,.own 2000,.own 2001,dI c,dI d,.own 1002]),(2000,.row 72 .var e),(2001,.row 74 .con f),(1002,.mp .str .int g)]∧
 ∃n0,lY R T n0 ([m]) a l b c d g e f)∨
 ∃u,oq yO [.ptr 1000 0] [(1000,.cells [.ptr 1001 0]),(1001,.cells [.sl .tok a,dI h,dI b,.own 2000,.own 2001,dI c,dI d,.own 1002]),(2000,.row 72 .var e),(2001,.row 74 .con f),(1002,.mp .str .int g)] u∧T u)))∨
 ∃u,oq zH [.ptr 1000 0,.sl .str ([(⟨#[91]⟩:ByteArray)])] (zE a i b c d e f g) u∧T u)):=by kernel_rfl
theorem QD(a:List tX)(b c d e:Int)(f:List zO)(g:List zF)(h:List (ByteArray×Int)):Xk nG Tryz.f213 uT [.ptr 1000 0,.clp yO false 1002 0] [(1000,.cells [.sl .tok a,dI b,dI c,.own 2000,.own 2001,dI d,dI e,.own 1001]),(2000,.row 72 .var f),(2001,.row 74 .con g),(1001,.mp .str .int h),(1002,.cells [.ptr 1000 0])] [.ptr 1000 0,.ptr 1002 0] false:=Vh Tryz.func213 (by kernel_rfl) Tryz.ntmps213 rfl
theorem QE(a:List tX)(b c d e:Int)(f:List zO)(g:List zF)(h:List (ByteArray×Int)):Yv nG Tryz.f213 uT [.ptr 1000 0,.clp yO false 1002 0] [(1000,.cells [.sl .tok a,dI b,dI c,.own 2000,.own 2001,dI d,dI e,.own 1001]),(2000,.row 72 .var f),(2001,.row 74 .con g),(1001,.mp .str .int h),(1002,.cells [.ptr 1000 0])] [.ptr 1000 0,.ptr 1002 0] false:=Wj Tryz.func213 (by kernel_rfl) Tryz.ntmps213 rfl
def fK:xP:= {own:=[],live:=[],n:=6,first:=true,clp:=true}
theorem SN(a:List tX)(h b c d:Int)(e:List zO)(f:List zF)(g:List (ByteArray×Int))(R:oB)(T:RQ):FX fK Tryz.f214 [.ptr 1000 0] [(1000,.cells [.ptr 1001 0]),(1001,.cells [.sl .tok a,dI h,dI b,.own 2000,.own 2001,dI c,dI d,.own 1002]),(2000,.row 72 .var e),(2001,.row 74 .con f),(1002,.mp .str .int g)] [.ptr 1000 0] false R T=
 (((∃i:Int,∃j:List Int,xD zK [.ptr 1000 0,.clp zI true 1000 0] (zE a h b c d e f g) (.sl .int j) (zE a i b c d e f g)∧
 R (.sl .int j) [(1000,.cells [.ptr 1001 0]),(1001,.cells [.sl .tok a,dI i,dI b,.own 2000,.own 2001,dI c,dI d,.own 1002]),(2000,.row 72 .var e),(2001,.row 74 .con f),(1002,.mp .str .int g)])∨
 ∃u,oq zK [.ptr 1000 0,.clp zI true 1000 0] (zE a h b c d e f g) u∧T u)):=by kernel_rfl
theorem Tz(a:List tX)(b c d e:Int)(f:List zO)(g:List zF)(h:List (ByteArray×Int)):Xk fK Tryz.f214 yO [.ptr 1000 0] [(1000,.cells [.ptr 1001 0]),(1001,.cells [.sl .tok a,dI b,dI c,.own 2000,.own 2001,dI d,dI e,.own 1002]),(2000,.row 72 .var f),(2001,.row 74 .con g),(1002,.mp .str .int h)] [.ptr 1000 0] false:=Vh Tryz.func214 (by kernel_rfl) Tryz.ntmps214 rfl
theorem TA(a:List tX)(b c d e:Int)(f:List zO)(g:List zF)(h:List (ByteArray×Int)):Yv fK Tryz.f214 yO [.ptr 1000 0] [(1000,.cells [.ptr 1001 0]),(1001,.cells [.sl .tok a,dI b,dI c,.own 2000,.own 2001,dI d,dI e,.own 1002]),(2000,.row 72 .var f),(2001,.row 74 .con g),(1002,.mp .str .int h)] [.ptr 1000 0] false:=Wj Tryz.func214 (by kernel_rfl) Tryz.ntmps214 rfl
def pS:xP:= {own:=[6,14,22],live:=[(0,([0,1,5],[14,1000,1001,2000,2001]))],n:=27,first:=true,clp:=true}
def nH(R:oB)(T:RQ)(a:Nat)(b:List zC)(c:List tX)(d e f g:Int)(h:List (ByteArray×Int))(i:List zO)(j:List zF):Prop:=LP pS Tryz.f215 [1,1,1,1,0,0,0] 0 a ⟨[(0,.ptr 1000 0),(1,.clp yD true 1000 0),(5,.own 14)],[(14,.row 114 .lit b),(1000,.cells [.sl .tok c,dI d,dI e,.own 2000,.own 2001,dI f,dI g,.own 1001]),(1001,.mp .str .int h),(2000,.row 72 .var i),(2001,.row 74 .con j)]⟩ (zQ 0 (sK pS Tryz.f215 [1,1,1,1,1] 0 (eX Tryz.f215 [.ptr 1000 0] false R T)))
theorem mM(R:oB)(T:RQ)(k:Nat)(i:List zC)(a:List tX)(l b c d:Int)(e:List (ByteArray×Int))(f:List zO)(g:List zF):nH R T (k+1) i a l b c d e f g=
 (∃h:Int,∃m:Bool,xD yP [.ptr 1000 0,.str (⟨#[44]⟩:ByteArray)] (zE a l b c d f g e) (dB m) (zE a h b c d f g e)∧
 zP m
 (((∃n:Int,∃j:zC,xD yD [.ptr 1000 0] (zE a h b c d f g e) (dL j) (zE a n b c d f g e)∧
 wD .lit (i.length+([j]).length)=true∧nH R T k (i++([j])) a n b c d e f g)∨
 ∃u,oq yD [.ptr 1000 0] (zE a h b c d f g e) u∧T u))
 (((∃o:Int,xD zH [.ptr 1000 0,.sl .str ([(⟨#[93]⟩:ByteArray)])] (zE a h b c d f g e) (.tup []) (zE a o b c d f g e)∧
 R (.sl .lit i) (zE a o b c d f g e))∨
 ∃u,oq zH [.ptr 1000 0,.sl .str ([(⟨#[93]⟩:ByteArray)])] (zE a h b c d f g e) u∧T u))):=by kernel_rfl
theorem SO(a:List tX)(i b c d:Int)(e:List zO)(f:List zF)(g:List (ByteArray×Int))(R:oB)(T:RQ):FX pS Tryz.f215 [.ptr 1000 0,.clp yD true 1000 0] (zE a i b c d e f g) [.ptr 1000 0] false R T=
 (((∃j:Int,xD zH [.ptr 1000 0,.sl .str ([(⟨#[91]⟩:ByteArray)])] (zE a i b c d e f g) (.tup []) (zE a j b c d e f g)∧
 ∃h:Int,∃k:Bool,xD yP [.ptr 1000 0,.str (⟨#[93]⟩:ByteArray)] (zE a j b c d e f g) (dB k) (zE a h b c d e f g)∧
 zP k
 (R (.sl .lit ([]:List zC)) (zE a h b c d e f g))
 (((∃l:Int,∃m:zC,xD yD [.ptr 1000 0] (zE a h b c d e f g) (dL m) (zE a l b c d e f g)∧
 ∃n0,nH R T n0 ([m]) a l b c d g e f)∨
 ∃u,oq yD [.ptr 1000 0] (zE a h b c d e f g) u∧T u)))∨
 ∃u,oq zH [.ptr 1000 0,.sl .str ([(⟨#[91]⟩:ByteArray)])] (zE a i b c d e f g) u∧T u)):=by kernel_rfl
theorem TB(a:List tX)(b c d e:Int)(f:List zO)(g:List zF)(h:List (ByteArray×Int)):Xk pS Tryz.f215 vJ [.ptr 1000 0,.clp yD true 1000 0] (zE a b c d e f g h) [.ptr 1000 0] false:=Vh Tryz.func215 (by kernel_rfl) Tryz.ntmps215 rfl
theorem TC(a:List tX)(b c d e:Int)(f:List zO)(g:List zF)(h:List (ByteArray×Int)):Yv pS Tryz.f215 vJ [.ptr 1000 0,.clp yD true 1000 0] (zE a b c d e f g h) [.ptr 1000 0] false:=Wj Tryz.func215 (by kernel_rfl) Tryz.ntmps215 rfl
def nI:xP:= {own:=[2,3],live:=[(0,([0,2,3,9,10,11],[2,3,1000,1001,2000,2001]))],n:=30,first:=true}
def lZ(R:oB)(T:RQ)(a:Nat)(b c d e f g h:Int)(i:List tX)(j k l m:Int)(n:List (ByteArray×Int))(o:List zO)(p:List zF):Prop:=LP nI Tryz.f216 [1,1,0,1,0,0] 0 a ⟨[(0,.ptr 1000 0),(2,.ptr 2 0),(3,.ptr 3 0),(9,.sl .str ([(⟨#[60,61]⟩:ByteArray),(⟨#[62,61]⟩:ByteArray),(⟨#[61,61]⟩:ByteArray),(⟨#[33,61]⟩:ByteArray)])),(10,dI (([(⟨#[60,61]⟩:ByteArray),(⟨#[62,61]⟩:ByteArray),(⟨#[61,61]⟩:ByteArray),(⟨#[33,61]⟩:ByteArray)]).length:Int)),(11,dI b)],[(2,.cells [dI c,dI d,dI e]),(3,.cells [dI f,dI g,dI h]),(1000,.cells [.sl .tok i,dI j,dI k,.own 2000,.own 2001,dI l,dI m,.own 1001]),(1001,.mp .str .int n),(2000,.row 72 .var o),(2001,.row 74 .con p)]⟩ (zQ 0 (sK nI Tryz.f216 [1,1,1] 0 (eX Tryz.f216 [.ptr 1000 0] false R T)))
theorem iB(R:oB)(T:RQ)(n:Nat)(h o p q j l m:Int)(a:List tX)(i b c d:Int)(e:List (ByteArray×Int))(f:List zO)(g:List zF):lZ R T (n+1) h o p q j l m a i b c d e f g=
 (zP (decide (h<(([(⟨#[60,61]⟩:ByteArray),(⟨#[62,61]⟩:ByteArray),(⟨#[61,61]⟩:ByteArray),(⟨#[33,61]⟩:ByteArray)]).length:Int)))
 (wI h ([(⟨#[60,61]⟩:ByteArray),(⟨#[62,61]⟩:ByteArray),(⟨#[61,61]⟩:ByteArray),(⟨#[33,61]⟩:ByteArray)]).length=true∧∃k:Int,∃r:Bool,xD yP [.ptr 1000 0,.str (zR .str ([(⟨#[60,61]⟩:ByteArray),(⟨#[62,61]⟩:ByteArray),(⟨#[61,61]⟩:ByteArray),(⟨#[33,61]⟩:ByteArray)]) h.toNat)] (zE a i b c d f g e) (dB r) (zE a k b c d f g e)∧
 zP r
 (((∃s:Int,∃t:Int,xD zI [.ptr 1000 0] (zE a k b c d f g e) (dI t) (zE a s b c d f g e)∧
 R (.agg [dI j,dI (yW (1+h)),dI t]) (zE a s b c d f g e))∨
 ∃u,oq zI [.ptr 1000 0] (zE a k b c d f g e) u∧T u))
 (lZ R T n (yW (h+1)) o p q j l m a k b c d e f g))
 (((xD zL [.ptr 1000 0,dI 1] (zE a i b c d f g e) (.tup []) (zE a i b c d f g e)∧
 R (.agg [dI j,dI l,dI m]) (zE a i b c d f g e))∨
 ∃u,oq zL [.ptr 1000 0,dI 1] (zE a i b c d f g e) u∧T u))):=by kernel_rfl
theorem Oc(a:List tX)(h b c d:Int)(e:List zO)(f:List zF)(g:List (ByteArray×Int))(R:oB)(T:RQ):FX nI Tryz.f216 [.ptr 1000 0] (zE a h b c d e f g) [.ptr 1000 0] false R T=
 (((∃i:Int,∃j:Int,xD zJ [.ptr 1000 0] (zE a h b c d e f g) (dI j) (zE a i b c d e f g)∧
 ∃n0,lZ R T n0 0 0 0 0 j 0 0 a i b c d g e f)∨
 ∃u,oq zJ [.ptr 1000 0] (zE a h b c d e f g) u∧T u)):=by kernel_rfl
theorem QF(a:List tX)(b c d e:Int)(f:List zO)(g:List zF)(h:List (ByteArray×Int)):Xk nI Tryz.f216 yD [.ptr 1000 0] (zE a b c d e f g h) [.ptr 1000 0] false:=Vh Tryz.func216 (by kernel_rfl) Tryz.ntmps216 rfl
theorem QG(a:List tX)(b c d e:Int)(f:List zO)(g:List zF)(h:List (ByteArray×Int)):Yv nI Tryz.f216 yD [.ptr 1000 0] (zE a b c d e f g h) [.ptr 1000 0] false:=Wj Tryz.func216 (by kernel_rfl) Tryz.ntmps216 rfl
def Xv:xP:= {own:=[],live:=[],n:=28,first:=true}
theorem QH(a:List tX)(b c d e:Int)(f:List zO)(g:List zF)(h:List (ByteArray×Int))(R:oB):FH Xv Tryz.f217 [.ptr 1000 0] (zE a b c d e f g h) [.ptr 1000 0] false R=
 (zP (decide (b<(a.length:Int)))
 (wI b a.length=true∧R (dI ((zR .tok a b.toNat).at_)) (zE a b c d e f g h))
 (R (dI c) (zE a b c d e f g h))):=by kernel_rfl
theorem SP(a:List tX)(b c d e:Int)(f:List zO)(g:List zF)(h:List (ByteArray×Int)):o9 Xv Tryz.f217 lL [.ptr 1000 0] (zE a b c d e f g h) [.ptr 1000 0] false:=nV Tryz.func217 (by kernel_rfl) Tryz.ntmps217 rfl
inductive Pr (α:Type)|ok (x:α)(j:Nat)|err (j:Nat)(e:Int)
def Pr.on{α:Type}(r:Pr α)(K:α→Nat→Prop)(T:Nat→Int→Prop):Prop:=match r with
 | .ok x j=>K x j
 | .err j e=>T j e
def Pr.bind{α β:Type}(r:Pr α)(f:α→Nat→Pr β):Pr β:=match r with
 | .ok x j=>f x j
 | .err j e=> .err j e
theorem Pr.on_bind{α β:Type}{r:Pr α}{f:α→Nat→Pr β}{K:β→Nat→Prop}{T:Nat→Int→Prop}:(r.bind f).on K T↔r.on (λx j=>(f x j).on K T) T:=by cases r<;>rfl
theorem Pr.on_mono{α:Type}{r:Pr α}{K K':α→Nat→Prop}{T T':Nat→Int→Prop}(h:r.on K T)(hK:∀x j,K x j→K' x j)(hT:∀j e,T j e→T' j e):r.on K' T':=by
 cases r
 ·exact hK _ _ h
 ·exact hT _ _ h
section
variable(isName:ByteArray→Bool)(uH:ByteArray→Int)(names:List (ByteArray×Int))(l:List tX)
def fi(j:Nat):tX:=l.getD j Ty.tok.dflt
def rY(en:Int)(j:Nat):Int:=if j<l.length then(fi l j).at_ else en
def tJ(s:ByteArray)(j:Nat):Bool:=decide (j<l.length)&&decide ((fi l j).text=s)
def qS(s:ByteArray)(j:Nat):Nat:=if tJ l s j=true then j+1 else j
def uM:List ByteArray→Nat→Pr Unit
 |[],j=> .ok () j
 |s::r,j=>if tJ l s j=true then uM r (j+1)else .err j 1
def Vs(j:Nat):Pr ByteArray:=if j<l.length∧isName (fi l j).text=true then .ok (fi l j).text j else .err j 1
def vP(j:Nat):Pr Int:=(Vs isName l j).bind λs _=>match tD .str .int s names with
 |some n=> .ok n (j+1)
 |none=> .err j 5
def zbE(sg:Int)(j:Nat):Pr Int:=if j<l.length∧(fi l j).kind=2∧¬(sg<0∧(fi l j).text=⟨#[48]⟩)then .ok (sg*uH (fi l j).text) (j+1)else .err j 1
def kP(j:Nat):Pr Int:=if tJ l ⟨#[45]⟩ j=true then zbE uH l (-1) (j+1)else zbE uH l 1 j
def Zb{α:Type}(f:Nat→Pr α):Nat→List α→Nat→Pr (List α)
 |0,acc,j=> .err j 1
 |n+1,acc,j=>if tJ l ⟨#[44]⟩ j=true then(f (j+1)).bind λx j=>Zb f n (acc++[x]) j else(uM l [⟨#[93]⟩] j).bind λ_ j=> .ok acc j
def oG{α:Type}(f:Nat→Pr α)(j:Nat):Pr (List α):=(uM l [⟨#[91]⟩] j).bind λ_ j=>
 if tJ l ⟨#[93]⟩ j=true then .ok [] (j+1)else(f j).bind λx j=>Zb l f (l.length+1) [x] j
def Vt:Nat→List Int→Nat→Pr (List Int)
 |0,acc,j=> .ok acc j
 |n+1,acc,j=>(vP isName names l j).bind λx j=>Vt n (acc++[x]) j
def opW:List ByteArray:=[⟨#[60,61]⟩,⟨#[62,61]⟩,⟨#[61,61]⟩,⟨#[33,61]⟩]
def bV:List ByteArray→Int→Nat→Option Int
 |[],_,_=>none
 |s::r,i,j=>if tJ l s j=true then some i else bV r (i+1) j
def Ls(j:Nat):Pr zC:=(vP isName names l j).bind λv j=>match bV l opW 1 j with
 |some o=>(kP uH l (j+1)).bind λn j=> .ok ⟨v,o,n⟩ j
 |none=> .err j 1
def QI:List ByteArray:=[⟨#[108,101]⟩,⟨#[101,113]⟩,⟨#[110,101]⟩,⟨#[100,105,102,102,101,114]⟩,⟨#[101,108,101,109,101,110,116]⟩,⟨#[116,97,98,108,101]⟩,⟨#[116,105,109,101,115]⟩,⟨#[109,97,120]⟩,⟨#[99,108,97,117,115,101]⟩,⟨#[105,102,102]⟩]
def TD(o:Int)(j:Nat):Pr zF:=
 if o≤3 then(oG l (kP uH l) j).bind λcs j=>(oG l (vP isName names l) j).bind λvs j=>(kP uH l j).bind λn j=> .ok ⟨o,vs,cs,n,[],[]⟩ j
 else if o=4 then(oG l (vP isName names l) j).bind λvs j=> .ok ⟨o,vs,[],0,[],[]⟩ j
 else if o=5 then(oG l (kP uH l) j).bind λcs j=>(Vt isName names l 2 [] j).bind λvs j=> .ok ⟨o,vs,cs,0,[],[]⟩ j
 else if o=6 then(oG l (vP isName names l) j).bind λvs j=>(oG l (oG l (kP uH l)) j).bind λrs j=> .ok ⟨o,vs,[],0,rs,[]⟩ j
 else if o=7 then(Vt isName names l 3 [] j).bind λvs j=> .ok ⟨o,vs,[],0,[],[]⟩ j
 else if o=8 then(vP isName names l j).bind λv j=>(oG l (vP isName names l) j).bind λvs j=> .ok ⟨o,v::vs,[],0,[],[]⟩ j
 else if o=9 then(oG l (Ls isName uH names l) j).bind λls j=> .ok ⟨o,[],[],0,[],ls⟩ j
 else(Vt isName names l 1 [] j).bind λvs j=>(Ls isName uH names l j).bind λx j=> .ok ⟨o,vs,[],0,[],[x]⟩ j
def Av(j:Nat):Pr zF:=match bV l QI 1 j with
 |some o=>TD isName uH names l o (j+1)
 |none=> .err j 1
end
theorem pI{l:List tX}{s:ByteArray}{j:Nat}(h:tJ l s j=true):j<l.length:=by
 simp only[tJ,Bool.and_eq_true,decide_eq_true_eq]at h;exact h.1
abbrev Zc(l:List tX)(en goal mvar:Int)(pv:List zO)(pc:List zF)(names:List (ByteArray×Int))(j:Nat):List (Nat×yI):=
 [(1000,.cells [.sl .tok l,dI j,dI en,.own 2000,.own 2001,dI goal,dI mvar,.own 1001]),(2000,.row 72 .var pv),(2001,.row 74 .con pc),(1001,.mp .str .int names)]
abbrev Aw(l:List tX)(en goal mvar:Int)(pv:List zO)(pc:List zF)(names:List (ByteArray×Int))(j:Int):List (Nat×yI):=
 [(1000,.cells [.sl .tok l,dI j,dI en,.own 2000,.own 2001,dI goal,dI mvar,.own 1001]),(2000,.row 72 .var pv),(2001,.row 74 .con pc),(1001,.mp .str .int names)]
abbrev C4(a e:Int):Value:=.iface 158 (.agg [.int .i64 a,.int .i64 e].toArray)
def Od{α:Type}(f:FuncId)(args:List D)(h:Nat→List (Nat×yI))(hr:Nat→Int)(j:Nat)(d:α→D)(r:Pr α):Prop:=match r with
 | .ok x j'=>xD f args (h j) (d x) (h j')
 | .err j' e=>oq f args (h j) (C4 (hr j') e)
theorem Od.call{α:Type}{f:FuncId}{args:List D}{h:Nat→List (Nat×yI)}{hr:Nat→Int}{j:Nat}{d:α→D}{r:Pr α}{X:α→Nat→Prop}{Y:Nat→Int→Prop}{G:Prop}(hs:Od f args h hr j d r)
  (hok:∀x j',xD f args (h j) (d x) (h j')→X x j'→G) (herr:∀j' e,oq f args (h j) (C4 (hr j') e)→Y j' e→G) (hk:r.on X Y):G:=by
 cases r with
 |ok x j'=>exact hok x j' hs hk
 |err j' e=>exact herr j' e hs hk
theorem eZ{α:Type}{A:xP}{fn:Func}{f:FuncId}{args roots:List D}{own:Bool}{h:Nat→List (Nat×yI)}{hr:Nat→Int}{j:Nat}{d:α→D}{r:Pr α}(hs:Xk A fn f args (h j) roots own)(ht:Yv A fn f args (h j) roots own)
  (hx:(∀x∈args,FJ x)→(∀k o,zV k (h j)=some o→okO o)→∀(R:D→List (Nat×yI)→Prop) (T:Value→Prop),r.on (λx j'=>R (d x) (h j')) (λj' e=>T (C4 (hr j') e))→FX A fn args (h j) roots own R T):Od f args h hr j d r:=by
 cases r with
 |ok x j'=>exact hs λh1 h2=>hx h1 h2 _ _ ⟨rfl,rfl⟩
 |err j' e=>exact ht λh1 h2=>hx h1 h2 _ _ rfl
section
variable {l:List tX}{en goal mvar:Int}{pv:List zO}{pc:List zF}{names:List (ByteArray×Int)}
theorem Ws{j:Nat}(h:∀k o,zV k (Zc l en goal mvar pv pc names j)=some o→okO o):l.length*32≤140737488355328:=by
 have:=h 1000 _ rfl (.sl .tok l) (by simp)
 exact this.1
theorem HG(j:Nat):zR .tok l (j:Int).toNat=fi l j:=by rw[Int.toNat_natCast];rfl
theorem C5(j:Nat):xD lL [.ptr 1000 0] (Zc l en goal mvar pv pc names j) (dI (rY l en j)) (Zc l en goal mvar pv pc names j):=
 SP _ _ _ _ _ _ _ _ λok ok2=>by
  rw[QH,rY,HG]
  by_cases h:j<l.length
  ·rw[if_pos h]
   exact dt (by omega) ⟨zM h,rfl,rfl⟩
  ·rw[if_neg h]
   exact df (by omega) ⟨rfl,rfl⟩
theorem sL(j:Nat)(e:Int):oq zL [.ptr 1000 0,dI e] (Zc l en goal mvar pv pc names j) (C4 (rY l en j) e):=
 SK _ _ _ _ _ _ _ _ _ λok ok2=>by
  rw[Qx];exact⟨_,C5 j,rfl⟩
theorem xA(j:Nat)(s:ByteArray):xD yP [.ptr 1000 0,.str s] (Zc l en goal mvar pv pc names j) (dB (tJ l s j)) (Zc l en goal mvar pv pc names (qS l s j)):=
 SF _ _ _ _ _ _ _ _ _ λok ok2=>by
  have hl:=Ws ok2;rw[Qs,HG,qS,tJ]
  by_cases h:j<l.length
  ·refine df (by omega) ⟨zM h,?_⟩
   rw[decide_eq_true h,Bool.true_and]
   by_cases e:(fi l j).text=s
   ·rw[decide_eq_true e,if_pos rfl]
    refine(show zP (!true) _ _ from⟨rfl,?_⟩)
    rw[fG (by omega)]
   ·rw[decide_eq_false e,if_neg (by decide)]
    exact⟨rfl,rfl⟩
  ·rw[decide_eq_false h,Bool.false_and,if_neg (by decide)]
   exact dt (by omega) ⟨rfl,rfl⟩
theorem uF(j:Nat)(ss:List ByteArray):Od zH [.ptr 1000 0,.sl .str ss] (Zc l en goal mvar pv pc names) (rY l en) j (λ_=> .tup []) (uM l ss j):=
 eZ (SI _ _ _ _ _ _ _ _ _) (SJ _ _ _ _ _ _ _ _ _) λok ok2 R T hx=>by
  have hl:ss.length≤9223372036854775807:=cB (t:=.str) (ok _ (by simp))
  rw[Qu]
  refine up (I:=λn v (a:Nat)=>pR ss R T n v l (a:Int) en goal mvar names pv pc) (a:=j) 0 ss.length rfl (Nat.zero_le _) hl
   (λk a=>(uM l (ss.drop k) a).on (λ_ j'=>R (.tup []) (Zc l en goal mvar pv pc names j')) (λj' e=>T (C4 (rY l en j') e))) (by simpa using hx) λn k a _ hk ha hn=> ?_
  rw[Um]
  by_cases h:k<ss.length
  ·rw[yK h,zX (t:=.str) h]
   rw[List.drop_eq_getElem_cons h,uM]at ha
   refine⟨zM h,_,_,xA a _,?_⟩;unfold qS;cases hb:tJ l ss[k] a with
   |true=>
    rw[hb,if_pos rfl]at ha
    rw[if_pos rfl];exact bnf rfl (hn h (a+1) ha)
   |false=>
    rw[hb,if_neg (by decide)]at ha
    rw[if_neg (by decide)]
    exact bnt rfl (.inr ⟨_,sL a 1,ha⟩)
  ·have hk':k=ss.length:=by omega
   subst hk';rw[zW];rw[List.drop_of_length_le (Nat.le_refl _),uM]at ha
   exact ha
theorem NJ(j:Nat):Od vD [.ptr 1000 0] (Zc l en goal mvar pv pc names) (rY l en) j .str (Vs zU l j):=
 eZ (SG _ _ _ _ _ _ _ _) (SH _ _ _ _ _ _ _ _) λok ok2 R T hx=>by
  rw[Qt,HG];rw[Vs]at hx
  by_cases h:j<l.length
  ·refine df (by omega) ⟨zM h,zG (t:=.bool) (Pb _) ?_⟩
   cases hb:zU (fi l j).text with
   |true=>
    rw[if_pos ⟨h,hb⟩]at hx
    exact bnf rfl ⟨zM h,hx⟩
   |false=>
    rw[if_neg (by rw[hb];rintro⟨_,h⟩;cases h)]at hx
    exact bnt rfl (.inr ⟨_,sL j 1,hx⟩)
  ·rw[if_neg λx=>h x.1]at hx
   exact dt (by omega) (.inr ⟨_,sL j 1,hx⟩)
end
def uH(s:ByteArray):Int:=(Lib.atoi s.data.toList).getD 0
def cJ(l:List tX):Prop:=∀t∈l,t.kind=2→t.text.size≤18∧∃n,Lib.atoi t.text.data.toList=some n∧0≤n∧n≤1000000
theorem zia{s:ByteArray}{n:Int}(hl:s.size≤18)(h:Lib.atoi s.data.toList=some n)(hn:yQ n):xD wS [.str s] [] (.tup [dI n,.undef]) []:=by
 intro w S vs pl hS hsz hv hh hg;have e0:=((hv 0 _ rfl).flat (d:=.str s) rfl).str_inv.1
 have e:vs= #[.string s]:=by
  have hl:vs.size=1:=hsz;apply Array.ext
  ·simpa using hl
  ·intro i h1 h2
   have:i=0:=by omega
   subst this;simpa[Array.getD_eq_getD_getElem?,h1]using e0
 subst e;refine(Tryz.strconv_Atoi s n hl h w).mono λe w' ⟨he,t,hw⟩=> ?_
 subst hw;refine⟨_,λ_=>False,pl,he,Rp.rd (.tup _ _ rfl λi d hd=> ?_),⟨λk o h=>(by cases h),λk o b h=>(by cases h),λk k' o o' b h=>(by cases h)⟩,λb h=>h.elim,λb h=>h.elim,λb ⟨k,o,h,_⟩=>(by cases h),λ_ _=>rfl,.of (Lib.bytesWorld_below _ _ _)⟩
 match i,hd with
 |0,hd=>injection hd with hd;subst hd;exact .int_mk hn
 |1,hd=>injection hd with hd;subst hd;exact .undef _
theorem zge{l:List tX}(hd:cJ l){j:Nat}(hj:j<l.length)(hk:(fi l j).kind=2):xD wS [.str (fi l j).text] [] (.tup [dI (uH (fi l j).text),.undef]) []∧0≤uH (fi l j).text∧uH (fi l j).text≤1000000:=by
 have hm:fi l j∈l:=by
  unfold fi;rw[List.getD_eq_getElem?_getD,List.getElem?_eq_getElem hj];exact List.getElem_mem hj
 obtain⟨h1,n,h2,h3,h4⟩:=hd _ hm hk;have e:uH (fi l j).text=n:=by rw[uH,h2];rfl
 rw[e];exact⟨zia h1 h2 (by unfold yQ;omega),h3,h4⟩
section
variable {l:List tX}{en goal mvar:Int}{pv:List zO}{pc:List zF}{names:List (ByteArray×Int)}
theorem cK(hd:cJ l)(j:Nat):Od zI [.ptr 1000 0] (Zc l en goal mvar pv pc names) (rY l en) j (λn:Int=>dI n) (kP uH l j):=
 eZ (NF _ _ _ _ _ _ _ _) (NG _ _ _ _ _ _ _ _) λok ok2 R T hx=>by
  have hl:=Ws ok2;rw[Lq];refine⟨_,_,xA j _,?_⟩;rw[kP]at hx
  unfold qS;cases hb:tJ l ⟨#[45]⟩ j with
  |true=>
   rw[hb,if_pos rfl]at hx
   rw[if_pos rfl];refine bt rfl ?_;generalize j+1=i at hx⊢
   rw[zbE]at hx
   by_cases h:i<l.length
   ·refine df (by omega) ⟨zM h,?_⟩
    rw[HG]
    by_cases hk:(fi l i).kind=2
    ·refine BA hk (dt (by decide) ⟨zM h,?_⟩)
     by_cases h0:(fi l i).text=⟨#[48]⟩
     ·rw[if_neg λx=>x.2.2 ⟨by decide,h0⟩]at hx
      exact dt h0 (.inr ⟨_,sL i 1,hx⟩)
     ·rw[if_pos ⟨h,hk,λx=>h0 x.2⟩]at hx
      obtain⟨q1,q2,q3⟩:=zge hd h hk;have hX:=(⟨_,q1,by rw[rE (by omega) (by omega),fG (by omega)];exact hx⟩:∃a:Int,xD wS [.str (fi l i).text] [] (.tup [dI a,.undef]) []∧R (dI (yW ((-1)*a))) (Aw l en goal mvar pv pc names (yW ((i:Int)+1))))
      exact df h0 ⟨⟨zM h,hX⟩,zM h,hX⟩
    ·rw[if_neg λx=>hk x.2.1]at hx
     exact dnt hk (.inr ⟨_,sL i 1,hx⟩)
   ·rw[if_neg λx=>h x.1]at hx
    exact dt (by omega) (.inr ⟨_,sL i 1,hx⟩)
  |false=>
   rw[hb,if_neg (by decide)]at hx
   rw[if_neg (by decide)]
   refine bf rfl ?_;rw[zbE]at hx
   by_cases h:j<l.length
   ·refine df (by omega) ⟨zM h,?_⟩
    rw[HG]
    by_cases hk:(fi l j).kind=2
    ·refine BA hk (df (by decide) ?_)
     rw[if_pos ⟨h,hk,λx=>absurd x.1 (by decide)⟩]at hx
     obtain⟨q1,q2,q3⟩:=zge hd h hk;have hX:=(⟨_,q1,by rw[rE (by omega) (by omega),fG (by omega)];exact hx⟩:∃a:Int,xD wS [.str (fi l j).text] [] (.tup [dI a,.undef]) []∧R (dI (yW (1*a))) (Aw l en goal mvar pv pc names (yW ((j:Int)+1))))
     exact⟨⟨zM h,hX⟩,zM h,hX⟩
    ·rw[if_neg λx=>hk x.2.1]at hx
     exact dnt hk (.inr ⟨_,sL j 1,hx⟩)
   ·rw[if_neg λx=>h x.1]at hx
    exact dt (by omega) (.inr ⟨_,sL j 1,hx⟩)
theorem zd1{s:ByteArray}{es:List (ByteArray×Int)}{n:Int}(h:tD .str .int s es=some n):Pz .str .int s es=true∧nU .str .int s es=n:=by
 unfold Pz nU;rw[h];exact⟨rfl,rfl⟩
theorem zd2{s:ByteArray}{es:List (ByteArray×Int)}(h:tD .str .int s es=none):Pz .str .int s es=false:=by
 unfold Pz;rw[h];rfl
theorem Zq(j:Nat):Od zJ [.ptr 1000 0] (Zc l en goal mvar pv pc names) (rY l en) j (λn:Int=>dI n) (vP zU names l j):=
 eZ (NH _ _ _ _ _ _ _ _) (NI _ _ _ _ _ _ _ _) λok ok2 R T hx=>by
  have hl:=Ws ok2;rw[Lr];have hs:=NJ (l:=l) (en:=en) (goal:=goal) (mvar:=mvar) (pv:=pv) (pc:=pc) (names:=names) j;rw[vP,Vs]at hx
  rw[Vs]at hs
  by_cases h:j<l.length∧zU (fi l j).text=true
  ·rw[if_pos h]at hs hx
   have hs:xD vD [.ptr 1000 0] (Zc l en goal mvar pv pc names j) (.str (fi l j).text) (Zc l en goal mvar pv pc names j):=hs;refine(λh=>⟨h,h⟩) (.inl ⟨_,hs,?_⟩)
   refine(λh=>⟨⟨h,h⟩,h⟩) ?_
   have hx:Pr.on (match tD .str .int (fi l j).text names with|some n=>Pr.ok n (j+1)|none=> .err j 5) _ _:=hx
   cases hm:tD .str .int (fi l j).text names with
   |some n=>
    rw[hm]at hx
    obtain⟨h1,h2⟩:=zd1 hm;rw[h1,h2];refine bnf rfl ?_;rw[fG (by omega)];exact hx
   |none=>
    rw[hm]at hx
    rw[zd2 hm];exact bnt rfl (.inr ⟨_,sL j 5,hx⟩)
  ·rw[if_neg h]at hs hx
   exact(λh=>⟨h,h⟩) (.inr ⟨_,hs,hx⟩)
end
section
variable(isName:ByteArray→Bool)(uH:ByteArray→Int)(l:List tX)
def Eb(j:Nat):Pr zO:=(Vs isName l j).bind λs j=>(uM l [⟨#[58]⟩] (j+1)).bind λ_ j=>(kP uH l j).bind λa j=>(uM l [⟨#[46,46]⟩] j).bind λ_ j=>(kP uH l j).bind λb j=>(uM l [⟨#[59]⟩] j).bind λ_ j=> .ok ⟨s,a,b⟩ j
def Wt(names:List (ByteArray×Int))(s:ByteArray)(i:Int):List (ByteArray×Int):=if Pz .str .int s names=true then names else tQ .str .int s i names
def HH:Nat→List zO→List (ByteArray×Int)→Nat→Pr (List zO×List (ByteArray×Int))
 |0,vs,ns,j=> .err j 1
 |n+1,vs,ns,j=>if tJ l ⟨#[118,97,114]⟩ j=true then(Eb isName uH l (j+1)).bind λv j=>HH n (vs++[v]) (Wt ns v.name vs.length) j else .ok (vs,ns) j
def Pf(ns:List (ByteArray×Int)):Nat→List zF→Nat→Pr (List zF)
 |0,cs,j=> .err j 1
 |n+1,cs,j=>if tJ l ⟨#[99,111,110]⟩ j=true then(Av isName uH ns l (j+1)).bind λc j=>(uM l [⟨#[59]⟩] j).bind λ_ j=>Pf ns n (cs++[c]) j else .ok cs j
def SQ{α:Type}(x:α)(j:Nat):Pr α:=(uM l [⟨#[59]⟩] j).bind λ_ j=>if j<l.length then .err j 1 else .ok x j
def SR(ns:List (ByteArray×Int))(j:Nat):Pr (Int×Int):=(uM l [⟨#[115,111,108,118,101]⟩] j).bind λ_ j=>
 if tJ l ⟨#[97,110,121]⟩ j=true then SQ l (0,0) (j+1)
 else if tJ l ⟨#[108,101,97,115,116]⟩ j=true then(vP isName ns l (j+1)).bind λv j=>SQ l (1,v) j
 else(uM l [⟨#[109,111,115,116]⟩] j).bind λ_ j=>(vP isName ns l j).bind λv j=>SQ l (2,v) j
def bW:Pr (zD×List (ByteArray×Int)):=(HH isName uH l (l.length+1) [] [] 0).bind λx j=>(Pf isName uH l x.2 (l.length+1) [] j).bind λcs j=>(SR isName l x.2 j).bind λg j=> .ok (⟨x.1,cs,g.1,g.2⟩,x.2) j
end
def Adv{α:Type}(l:List tX)(f:Nat→Pr α):Prop:=∀i x j,f i=.ok x j→i<j∧j≤l.length
theorem UZ{isN:ByteArray→Bool}{names:List (ByteArray×Int)}{l:List tX}:Adv l (vP isN names l):=λi x j h=>by
 unfold vP Vs at h
 split at h
 ·rename_i hc
  simp only[Pr.bind]at h
  split at h
  ·injection h with h1 h2;omega
  ·cases h
 ·cases h
theorem zc6{nv:ByteArray→Int}{l:List tX}{sg:Int}{i:Nat}{x:Int}{j:Nat}(h:zbE nv l sg i=.ok x j):i<j∧j≤l.length:=by
 unfold zbE at h
 split at h
 ·rename_i hc;injection h with h1 h2;omega
 ·cases h
theorem SS{nv:ByteArray→Int}{l:List tX}:Adv l (kP nv l):=λi x j h=>by
 unfold kP at h
 split at h
 ·have:=zc6 h;omega
 ·exact zc6 h
section
variable {l:List tX}{en goal mvar:Int}{pv:List zO}{pc:List zF}{names:List (ByteArray×Int)}
theorem U0(hd:cJ l){R:D→List (Nat×yI)→Prop}{T:Value→Prop}(hl:l.length*32≤140737488355328):∀(fuel:Nat) (acc:List Int) (j:Nat),j≤l.length→l.length<j+fuel→acc.length≤j→
  (Zb l (kP uH l) fuel acc j).on (λxs j'=>R (.sl .int xs) (Zc l en goal mvar pv pc names j')) (λj' e=>T (C4 (rY l en j') e))→∃n,lV R T n acc l (j:Int) en goal mvar names pv pc
 |0,acc,j,h1,h2,_,_=>by omega
 |fuel+1,acc,j,h1,h2,h3,hx=>by
  rw[Zb]at hx
  cases hb:tJ l ⟨#[44]⟩ j with
  |true=>
   rw[hb,if_pos rfl]at hx
   have hlt:=pI hb;have hs:=cK (l:=l) (en:=en) (goal:=goal) (mvar:=mvar) (pv:=pv) (pc:=pc) (names:=names) hd (j+1);cases hf:kP uH l (j+1)with
   |ok x j'=>
    rw[hf]at hs hx
    have ha:=SS _ _ _ hf;obtain⟨n,hn⟩:=U0 hd hl fuel (acc++[x]) j' ha.2 (by omega) (by rw[List.length_append];show _+1≤_;omega) hx
    refine⟨n+1,?_⟩;rw[jY];refine⟨_,_,xA j _,?_⟩;rw[qS,hb,if_pos rfl];exact bt rfl (.inl ⟨_,_,hs,xX (t:=.int) (by show(acc.length+1)*8≤_;omega),hn⟩)
   |err j' e=>
    rw[hf]at hs hx
    refine⟨1,?_⟩;rw[jY];refine⟨_,_,xA j _,?_⟩;rw[qS,hb,if_pos rfl];exact bt rfl (.inr ⟨_,hs,hx⟩)
  |false=>
   rw[hb,if_neg (by decide)]at hx
   refine⟨1,?_⟩;rw[jY];refine⟨_,_,xA j _,?_⟩;rw[qS,hb,if_neg (by decide)]
   rw[Pr.on_bind]at hx
   exact bf rfl ((uF j _).call (λ_ j' hs hk=> .inl ⟨_,hs,hk⟩) (λj' e hs hy=> .inr ⟨_,hs,hy⟩) hx)
theorem gK(hd:cJ l)(j:Nat):Od zK [.ptr 1000 0,.clp zI true 1000 0] (Zc l en goal mvar pv pc names) (rY l en) j (λxs=> .sl .int xs) (oG l (kP uH l) j):=
 eZ (Qy _ _ _ _ _ _ _ _) (Qz _ _ _ _ _ _ _ _) λok ok2 R T hx=>by
  have hl:=Ws ok2;rw[P9];rw[oG,Pr.on_bind]at hx
  have hs:=uF (l:=l) (en:=en) (goal:=goal) (mvar:=mvar) (pv:=pv) (pc:=pc) (names:=names) j [⟨#[91]⟩];rw[uM,uM]at hs hx
  cases hb:tJ l ⟨#[91]⟩ j with
  |false=>
   rw[hb,if_neg (by decide)]at hs hx
   exact .inr ⟨_,hs,hx⟩
  |true=>
   rw[hb,if_pos rfl]at hs hx
   have h0:=pI hb;refine .inl ⟨_,hs,_,_,xA (j+1) _,?_⟩;have hx:Pr.on (if tJ l ⟨#[93]⟩ (j+1)=true then _ else _) _ _:=hx
   cases hc:tJ l ⟨#[93]⟩ (j+1)with
   |true=>
    rw[hc,if_pos rfl]at hx
    rw[qS,hc,if_pos rfl];exact bt rfl hx
   |false=>
    rw[hc,if_neg (by decide)]at hx
    rw[qS,hc,if_neg (by decide)]
    have hq:=cK (l:=l) (en:=en) (goal:=goal) (mvar:=mvar) (pv:=pv) (pc:=pc) (names:=names) hd (j+1);refine bf rfl ?_;cases hf:kP uH l (j+1)with
    |ok x j'=>
     rw[hf]at hq hx
     have ha:=SS _ _ _ hf;exact .inl ⟨_,_,hq,U0 hd hl (l.length+1) [x] j' ha.2 (by omega) (by show 1≤_;omega) hx⟩
    |err j' e=>
     rw[hf]at hq hx
     exact .inr ⟨_,hq,hx⟩
theorem U1{R:D→List (Nat×yI)→Prop}{T:Value→Prop}(hl:l.length*32≤140737488355328):∀(fuel:Nat) (acc:List Int) (j:Nat),j≤l.length→l.length<j+fuel→acc.length≤j→
  (Zb l (vP zU names l) fuel acc j).on (λxs j'=>R (.sl .int xs) (Zc l en goal mvar pv pc names j')) (λj' e=>T (C4 (rY l en j') e))→∃n,lW R T n acc l (j:Int) en goal mvar names pv pc
 |0,acc,j,h1,h2,_,_=>by omega
 |fuel+1,acc,j,h1,h2,h3,hx=>by
  rw[Zb]at hx
  cases hb:tJ l ⟨#[44]⟩ j with
  |true=>
   rw[hb,if_pos rfl]at hx
   have hlt:=pI hb;have hs:=Zq (l:=l) (en:=en) (goal:=goal) (mvar:=mvar) (pv:=pv) (pc:=pc) (names:=names) (j+1);cases hf:vP zU names l (j+1)with
   |ok x j'=>
    rw[hf]at hs hx
    have ha:=UZ _ _ _ hf;obtain⟨n,hn⟩:=U1 hl fuel (acc++[x]) j' ha.2 (by omega) (by rw[List.length_append];show _+1≤_;omega) hx
    refine⟨n+1,?_⟩;rw[jZ];refine⟨_,_,xA j _,?_⟩;rw[qS,hb,if_pos rfl];exact bt rfl (.inl ⟨_,_,hs,xX (t:=.int) (by show(acc.length+1)*8≤_;omega),hn⟩)
   |err j' e=>
    rw[hf]at hs hx
    refine⟨1,?_⟩;rw[jZ];refine⟨_,_,xA j _,?_⟩;rw[qS,hb,if_pos rfl];exact bt rfl (.inr ⟨_,hs,hx⟩)
  |false=>
   rw[hb,if_neg (by decide)]at hx
   refine⟨1,?_⟩;rw[jZ];refine⟨_,_,xA j _,?_⟩;rw[qS,hb,if_neg (by decide)]
   rw[Pr.on_bind]at hx
   exact bf rfl ((uF j _).call (λ_ j' hs hk=> .inl ⟨_,hs,hk⟩) (λj' e hs hy=> .inr ⟨_,hs,hy⟩) hx)
theorem mN(j:Nat):Od zK [.ptr 1000 0,.clp zJ true 1000 0] (Zc l en goal mvar pv pc names) (rY l en) j (λxs=> .sl .int xs) (oG l (vP zU names l) j):=
 eZ (QA _ _ _ _ _ _ _ _) (QB _ _ _ _ _ _ _ _) λok ok2 R T hx=>by
  have hl:=Ws ok2;rw[Oa];rw[oG,Pr.on_bind]at hx
  have hs:=uF (l:=l) (en:=en) (goal:=goal) (mvar:=mvar) (pv:=pv) (pc:=pc) (names:=names) j [⟨#[91]⟩];rw[uM,uM]at hs hx
  cases hb:tJ l ⟨#[91]⟩ j with
  |false=>
   rw[hb,if_neg (by decide)]at hs hx
   exact .inr ⟨_,hs,hx⟩
  |true=>
   rw[hb,if_pos rfl]at hs hx
   have h0:=pI hb;refine .inl ⟨_,hs,_,_,xA (j+1) _,?_⟩;have hx:Pr.on (if tJ l ⟨#[93]⟩ (j+1)=true then _ else _) _ _:=hx
   cases hc:tJ l ⟨#[93]⟩ (j+1)with
   |true=>
    rw[hc,if_pos rfl]at hx
    rw[qS,hc,if_pos rfl];exact bt rfl hx
   |false=>
    rw[hc,if_neg (by decide)]at hx
    rw[qS,hc,if_neg (by decide)]
    have hq:=Zq (l:=l) (en:=en) (goal:=goal) (mvar:=mvar) (pv:=pv) (pc:=pc) (names:=names) (j+1);refine bf rfl ?_;cases hf:vP zU names l (j+1)with
    |ok x j'=>
     rw[hf]at hq hx
     have ha:=UZ _ _ _ hf;exact .inl ⟨_,_,hq,U1 hl (l.length+1) [x] j' ha.2 (by omega) (by show 1≤_;omega) hx⟩
    |err j' e=>
     rw[hf]at hq hx
     exact .inr ⟨_,hq,hx⟩
end
section
variable {l:List tX}{en goal mvar:Int}{pv:List zO}{pc:List zF}{names:List (ByteArray×Int)}
theorem HJ{isN:ByteArray→Bool}:∀(n:Nat) (acc:List Int) (j:Nat) (xs:List Int) (j':Nat),Vt isN names l n acc j=.ok xs j'→j≤j'∧(1≤n→j'≤l.length)
 |0,acc,j,xs,j',h=>by injection h with h1 h2;omega
 |n+1,acc,j,xs,j',h=>by
  unfold Vt at h
  cases hv:vP isN names l j with
  |ok x i=>
   rw[hv]at h
   have:=UZ _ _ _ hv;have:=HJ n _ i xs j' h;cases n with
   |zero=>injection h with h1 h2;omega
   |succ n=>omega
  |err i e=>rw[hv]at h;cases h
theorem Un(many:Nat)(hm:many≤6)(j:Nat):Od xB [.ptr 1000 0,dI many] (Zc l en goal mvar pv pc names) (rY l en) j (λxs=> .sl .int xs) (Vt zU names l many [] j):=
 eZ (SL _ _ _ _ _ _ _ _ _) (SM _ _ _ _ _ _ _ _ _) λok ok2 R T hx=>by
  rw[QC]
  suffices H:∀(d k:Nat) (acc:List Int) (j:Nat),k+d=many→acc.length=k→(Vt zU names l d acc j).on (λxs j'=>R (.sl .int xs) (Zc l en goal mvar pv pc names j')) (λj' e=>T (C4 (rY l en j') e))→
    ∃n,mF (many:Int) R T n (k:Int) acc l (j:Int) en goal mvar names pv pc from H many 0 [] j (by omega) rfl hx
  intro d
  induction d with
  |zero=>
   intro k acc j hk ha hx;refine⟨1,?_⟩;rw[lX];exact df (by omega) hx
  |succ d ih=>
   intro k acc j hk ha hx;rw[Vt]at hx
   have hq:=Zq (l:=l) (en:=en) (goal:=goal) (mvar:=mvar) (pv:=pv) (pc:=pc) (names:=names) j;cases hv:vP zU names l j with
   |ok x i=>
    rw[hv]at hq hx
    obtain⟨n,hn⟩:=ih (k+1) (acc++[x]) i (by omega) (by rw[List.length_append,ha];rfl) hx
    refine⟨n+1,?_⟩;rw[lX];refine dt (by omega) (.inl ⟨_,_,hq,xX (t:=.int) (by show(acc.length+1)*8≤_;omega),?_⟩)
    rw[fG (by omega)];exact hn
   |err i e=>
    rw[hv]at hq hx
    refine⟨1,?_⟩;rw[lX];exact dt (by omega) (.inr ⟨_,hq,hx⟩)
theorem Ih{isN:ByteArray→Bool}{nv:ByteArray→Int}:Adv l (Ls isN nv names l):=λi x j h=>by
 unfold Ls at h
 cases hv:vP isN names l i with
 |ok v i1=>
  rw[hv]at h
  have h1:=UZ _ _ _ hv;simp only[Pr.bind]at h
  split at h
  ·cases hk:kP nv l (i1+1)with
   |ok n i2=>
    rw[hk]at h
    have h2:=SS _ _ _ hk;injection h with h3 h4;omega
   |err i2 e=>rw[hk]at h;cases h
  ·cases h
 |err i1 e=>rw[hv]at h;cases h
theorem NK(hd:cJ l){R:D→List (Nat×yI)→Prop}{T:Value→Prop}(v:Int):∀(r pre:List ByteArray) (j:Nat),opW=pre++r→
  ((match bV l r ((pre.length:Int)+1) j with|some o=>(kP uH l (j+1)).bind λn j=> .ok (⟨v,o,n⟩:zC) j|none=> .err j 1).on (λx j'=>R (dL x) (Zc l en goal mvar pv pc names j')) λj' e=>T (C4 (rY l en j') e))→
  ∃n,lZ R T n (pre.length:Int) 0 0 0 v 0 0 l (j:Int) en goal mvar names pv pc
 |[],pre,j,hw,hx=>by
  refine⟨1,?_⟩;rw[iB];have hl:pre.length=4:=by have:=congrArg List.length hw;simpa[opW]using this.symm
  refine df (by rw[hl];decide) (.inr ⟨_,sL j 1,hx⟩)
 |s::r,pre,j,hw,hx=>by
  have hl:pre.length<opW.length:=by rw[hw,List.length_append,List.length_cons];omega
  have hl4:pre.length<4:=hl
  have hat:zR .str opW (pre.length:Int).toNat=s:=by
   rw[Int.toNat_natCast];show opW.getD _ _=_
   rw[hw,List.getD_eq_getElem?_getD,List.getElem?_append_right (Nat.le_refl _),Nat.sub_self];rfl
  have hs:=xA (l:=l) (en:=en) (goal:=goal) (mvar:=mvar) (pv:=pv) (pc:=pc) (names:=names) j s;rw[←hat]at hs
  rw[bV]at hx
  cases hb:tJ l s j with
  |true=>
   rw[hb,if_pos rfl]at hx
   refine⟨1,?_⟩;rw[iB];refine dt (by show(pre.length:Int)<(4:Nat);omega) ⟨zM hl4,_,_,hs,?_⟩
   rw[hat,qS,hb,if_pos rfl];rw[rE (by omega) (by omega),show(1:Int)+pre.length=(pre.length:Int)+1 by omega]
   have hx:Pr.on ((kP uH l (j+1)).bind _) _ _:=hx;rw[Pr.on_bind]at hx
   exact bt rfl ((cK hd (j+1)).call (λ_ j' hs hk=> .inl ⟨_,_,hs,hk⟩) (λj' e hs hy=> .inr ⟨_,hs,hy⟩) hx)
  |false=>
   rw[hb,if_neg (by decide)]at hx
   obtain⟨n,hn⟩:=NK hd v r (pre++[s]) j (by rw[hw,List.append_assoc];rfl) (by rw[List.length_append];show Pr.on (match bV l r (((pre.length+1:Nat):Int)+1) j with|some o=>_|none=>_) _ _;rw[show((pre.length+1:Nat):Int)=(pre.length:Int)+1 by omega];exact hx)
   refine⟨n+1,?_⟩;rw[iB];refine dt (by show(pre.length:Int)<(4:Nat);omega) ⟨zM hl4,_,_,hs,?_⟩
   rw[hat,qS,hb,if_neg (by decide),fG (by omega)]
   rw[List.length_append]at hn
   exact bf rfl hn
theorem ST(hd:cJ l)(j:Nat):Od yD [.ptr 1000 0] (Zc l en goal mvar pv pc names) (rY l en) j (λx=>dL x) (Ls zU uH names l j):=
 eZ (QF _ _ _ _ _ _ _ _) (QG _ _ _ _ _ _ _ _) λok ok2 R T hx=>by
  rw[Oc];rw[Ls,Pr.on_bind]at hx
  exact(Zq j).call (λv j' hs hk=> .inl ⟨_,_,hs,NK hd v opW [] j' rfl hk⟩) (λj' e hs hy=> .inr ⟨_,hs,hy⟩) hx
theorem Wu(hd:cJ l){R:D→List (Nat×yI)→Prop}{T:Value→Prop}(hl:l.length*32≤140737488355328):∀(fuel:Nat) (acc:List zC) (j:Nat),j≤l.length→l.length<j+fuel→acc.length≤j→
  (Zb l (Ls zU uH names l) fuel acc j).on (λxs j'=>R (.sl .lit xs) (Zc l en goal mvar pv pc names j')) (λj' e=>T (C4 (rY l en j') e))→∃n,nH R T n acc l (j:Int) en goal mvar names pv pc
 |0,acc,j,h1,h2,_,_=>by omega
 |fuel+1,acc,j,h1,h2,h3,hx=>by
  rw[Zb]at hx
  cases hb:tJ l ⟨#[44]⟩ j with
  |true=>
   rw[hb,if_pos rfl]at hx
   have hlt:=pI hb;have hs:=ST (l:=l) (en:=en) (goal:=goal) (mvar:=mvar) (pv:=pv) (pc:=pc) (names:=names) hd (j+1);cases hf:Ls zU uH names l (j+1)with
   |ok x j'=>
    rw[hf]at hs hx
    have ha:=Ih _ _ _ hf;obtain⟨n,hn⟩:=Wu hd hl fuel (acc++[x]) j' ha.2 (by omega) (by rw[List.length_append];show _+1≤_;omega) hx
    refine⟨n+1,?_⟩;rw[mM];refine⟨_,_,xA j _,?_⟩;rw[qS,hb,if_pos rfl];exact bt rfl (.inl ⟨_,_,hs,xX (t:=.lit) (by show(acc.length+1)*24≤_;omega),hn⟩)
   |err j' e=>
    rw[hf]at hs hx
    refine⟨1,?_⟩;rw[mM];refine⟨_,_,xA j _,?_⟩;rw[qS,hb,if_pos rfl];exact bt rfl (.inr ⟨_,hs,hx⟩)
  |false=>
   rw[hb,if_neg (by decide)]at hx
   refine⟨1,?_⟩;rw[mM];refine⟨_,_,xA j _,?_⟩;rw[qS,hb,if_neg (by decide)]
   rw[Pr.on_bind]at hx
   exact bf rfl ((uF j _).call (λ_ j' hs hk=> .inl ⟨_,hs,hk⟩) (λj' e hs hy=> .inr ⟨_,hs,hy⟩) hx)
theorem Lt(hd:cJ l)(j:Nat):Od vJ [.ptr 1000 0,.clp yD true 1000 0] (Zc l en goal mvar pv pc names) (rY l en) j (λxs=> .sl .lit xs) (oG l (Ls zU uH names l) j):=
 eZ (TB _ _ _ _ _ _ _ _) (TC _ _ _ _ _ _ _ _) λok ok2 R T hx=>by
  have hl:=Ws ok2;rw[SO];rw[oG,Pr.on_bind]at hx
  have hs:=uF (l:=l) (en:=en) (goal:=goal) (mvar:=mvar) (pv:=pv) (pc:=pc) (names:=names) j [⟨#[91]⟩];rw[uM,uM]at hs hx
  cases hb:tJ l ⟨#[91]⟩ j with
  |false=>
   rw[hb,if_neg (by decide)]at hs hx
   exact .inr ⟨_,hs,hx⟩
  |true=>
   rw[hb,if_pos rfl]at hs hx
   have h0:=pI hb;refine .inl ⟨_,hs,_,_,xA (j+1) _,?_⟩;have hx:Pr.on (if tJ l ⟨#[93]⟩ (j+1)=true then _ else _) _ _:=hx
   cases hc:tJ l ⟨#[93]⟩ (j+1)with
   |true=>
    rw[hc,if_pos rfl]at hx
    rw[qS,hc,if_pos rfl];exact bt rfl hx
   |false=>
    rw[hc,if_neg (by decide)]at hx
    rw[qS,hc,if_neg (by decide)]
    have hq:=ST (l:=l) (en:=en) (goal:=goal) (mvar:=mvar) (pv:=pv) (pc:=pc) (names:=names) hd (j+1);refine bf rfl ?_;cases hf:Ls zU uH names l (j+1)with
    |ok x j'=>
     rw[hf]at hq hx
     have ha:=Ih _ _ _ hf;exact .inl ⟨_,_,hq,Wu hd hl (l.length+1) [x] j' ha.2 (by omega) (by show 1≤_;omega) hx⟩
    |err j' e=>
     rw[hf]at hq hx
     exact .inr ⟨_,hq,hx⟩
end
section
variable {l:List tX}{en goal mvar:Int}{pv:List zO}{pc:List zF}{names:List (ByteArray×Int)}
theorem Dc{α:Type}{f:Nat→Pr α}(hf:Adv l f):∀(fuel:Nat) (acc:List α) (j:Nat) (xs:List α) (j':Nat),Zb l f fuel acc j=.ok xs j'→j<j'∧j'≤l.length
 |0,acc,j,xs,j',h=>by cases h
 |fuel+1,acc,j,xs,j',h=>by
  unfold Zb at h
  split at h
  ·rename_i hb
   have hlt:=pI hb;cases hv:f (j+1)with
   |ok x i=>
    rw[hv]at h
    have h1:=hf _ _ _ hv;have h2:=Dc hf fuel _ i xs j' h;omega
   |err i e=>rw[hv]at h;cases h
  ·rw[uM,uM]at h
   split at h
   ·rename_i hb
    have hlt:=pI hb;injection h with h1 h2;omega
   ·cases h
theorem kU{α:Type}{f:Nat→Pr α}(hf:Adv l f):Adv l (oG l f):=λi x j h=>by
 unfold oG at h
 rw[uM,uM]at h
 split at h
 ·rename_i hb
  have h0:=pI hb;simp only[Pr.bind]at h
  split at h
  ·rename_i hc
   have:=pI hc;injection h with h1 h2;omega
  ·cases hv:f (i+1)with
   |ok y k=>
    rw[hv]at h
    have h1:=hf _ _ _ hv;have h2:=Dc hf _ _ _ _ _ h;omega
   |err k e=>rw[hv]at h;cases h
 ·cases h
abbrev zkD(l:List tX)(en goal mvar:Int)(pv:List zO)(pc:List zF)(names:List (ByteArray×Int))(j:Nat):List (Nat×yI):=
 [(1000,.cells [.ptr 1001 0]),(1001,.cells [.sl .tok l,dI j,dI en,.own 2000,.own 2001,dI goal,dI mvar,.own 1002]),(2000,.row 72 .var pv),(2001,.row 74 .con pc),(1002,.mp .str .int names)]
abbrev hpQ(l:List tX)(en goal mvar:Int)(pv:List zO)(pc:List zF)(names:List (ByteArray×Int))(j:Nat):List (Nat×yI):=
 [(1000,.cells [.sl .tok l,dI j,dI en,.own 2000,.own 2001,dI goal,dI mvar,.own 1001]),(2000,.row 72 .var pv),(2001,.row 74 .con pc),(1001,.mp .str .int names),(1002,.cells [.ptr 1000 0])]
theorem NL(hd:cJ l)(j:Nat):Od yO [.ptr 1000 0] (zkD l en goal mvar pv pc names) (rY l en) j (λxs=> .sl .int xs) (oG l (kP uH l) j):=
 eZ (Tz _ _ _ _ _ _ _ _) (TA _ _ _ _ _ _ _ _) λok ok2 R T hx=>by
  rw[SN];exact(gK hd j).call (λ_ j' hs hk=> .inl ⟨_,_,hs,hk⟩) (λj' e hs hy=> .inr ⟨_,hs,hy⟩) hx
theorem Xw(hd:cJ l){R:D→List (Nat×yI)→Prop}{T:Value→Prop}(hl:l.length*32≤140737488355328):∀(fuel:Nat) (acc:List (List Int)) (j:Nat),j≤l.length→l.length<j+fuel→acc.length≤j→
  (Zb l (oG l (kP uH l)) fuel acc j).on (λxs j'=>R (dS xs) (hpQ l en goal mvar pv pc names j')) (λj' e=>T (C4 (rY l en j') e))→∃n,lY R T n acc l (j:Int) en goal mvar names pv pc
 |0,acc,j,h1,h2,_,_=>by omega
 |fuel+1,acc,j,h1,h2,h3,hx=>by
  rw[Zb]at hx
  cases hb:tJ l ⟨#[44]⟩ j with
  |true=>
   rw[hb,if_pos rfl]at hx
   have hlt:=pI hb;have hs:=NL (l:=l) (en:=en) (goal:=goal) (mvar:=mvar) (pv:=pv) (pc:=pc) (names:=names) hd (j+1);cases hf:oG l (kP uH l) (j+1)with
   |ok x j'=>
    rw[hf]at hs hx
    have ha:=(kU SS) _ _ _ hf;obtain⟨n,hn⟩:=Xw hd hl fuel (acc++[x]) j' ha.2 (by omega) (by rw[List.length_append];show _+1≤_;omega) hx
    refine⟨n+1,?_⟩;rw[iA];refine⟨_,_,xA j _,?_⟩;rw[qS,hb,if_pos rfl];exact bt rfl (.inl ⟨_,_,hs,xX (t:=.list .int) (by show(acc.length+1)*24≤_;omega),hn⟩)
   |err j' e=>
    rw[hf]at hs hx
    refine⟨1,?_⟩;rw[iA];refine⟨_,_,xA j _,?_⟩;rw[qS,hb,if_pos rfl];exact bt rfl (.inr ⟨_,hs,hx⟩)
  |false=>
   rw[hb,if_neg (by decide)]at hx
   refine⟨1,?_⟩;rw[iA];refine⟨_,_,xA j _,?_⟩;rw[qS,hb,if_neg (by decide)]
   rw[Pr.on_bind]at hx
   exact bf rfl ((uF j _).call (λ_ j' hs hk=> .inl ⟨_,hs,hk⟩) (λj' e hs hy=> .inr ⟨_,hs,hy⟩) hx)
theorem NM(hd:cJ l)(j:Nat):Od uT [.ptr 1000 0,.clp yO false 1002 0] (hpQ l en goal mvar pv pc names) (rY l en) j (λxs=>dS xs) (oG l (oG l (kP uH l)) j):=
 eZ (QD _ _ _ _ _ _ _ _) (QE _ _ _ _ _ _ _ _) λok ok2 R T hx=>by
  have hl:l.length*32≤140737488355328:=(ok2 1000 _ rfl (.sl .tok l) (by simp)).1
  rw[Ob];rw[oG,Pr.on_bind]at hx
  have hs:=uF (l:=l) (en:=en) (goal:=goal) (mvar:=mvar) (pv:=pv) (pc:=pc) (names:=names) j [⟨#[91]⟩];rw[uM,uM]at hs hx
  cases hb:tJ l ⟨#[91]⟩ j with
  |false=>
   rw[hb,if_neg (by decide)]at hs hx
   exact .inr ⟨_,hs,hx⟩
  |true=>
   rw[hb,if_pos rfl]at hs hx
   have h0:=pI hb;refine .inl ⟨_,hs,_,_,xA (j+1) _,?_⟩;have hx:Pr.on (if tJ l ⟨#[93]⟩ (j+1)=true then _ else _) _ _:=hx
   cases hc:tJ l ⟨#[93]⟩ (j+1)with
   |true=>
    rw[hc,if_pos rfl]at hx
    rw[qS,hc,if_pos rfl];exact bt rfl hx
   |false=>
    rw[hc,if_neg (by decide)]at hx
    rw[qS,hc,if_neg (by decide)]
    have hq:=NL (l:=l) (en:=en) (goal:=goal) (mvar:=mvar) (pv:=pv) (pc:=pc) (names:=names) hd (j+1);refine bf rfl ?_;cases hf:oG l (kP uH l) (j+1)with
    |ok x j'=>
     rw[hf]at hq hx
     have ha:=(kU SS) _ _ _ hf;exact .inl ⟨_,_,hq,Xw hd hl (l.length+1) [x] j' ha.2 (by omega) (by show 1≤_;omega) hx⟩
    |err j' e=>
     rw[hf]at hq hx
     exact .inr ⟨_,hq,hx⟩
end
section
variable {l:List tX}{en goal mvar:Int}{pv:List zO}{pc:List zF}{names:List (ByteArray×Int)}
theorem Dd{α:Type}{f:Nat→Pr α}(hf:Adv l f):∀(fuel:Nat) (acc:List α) (j:Nat) (xs:List α) (j':Nat),acc.length≤j→Zb l f fuel acc j=.ok xs j'→xs.length≤j'
 |0,acc,j,xs,j',_,h=>by cases h
 |fuel+1,acc,j,xs,j',ha,h=>by
  unfold Zb at h
  split at h
  ·cases hv:f (j+1)with
   |ok x i=>
    rw[hv]at h
    have h1:=hf _ _ _ hv;exact Dd hf fuel (acc++[x]) i xs j' (by rw[List.length_append];show _+1≤_;omega) h
   |err i e=>rw[hv]at h;cases h
  ·rw[uM,uM]at h
   split at h
   ·injection h with h1 h2;subst h1;omega
   ·cases h
theorem zd3{α:Type}{f:Nat→Pr α}(hf:Adv l f){i j:Nat}{xs:List α}(h:oG l f i=.ok xs j):xs.length≤j:=by
 unfold oG at h
 rw[uM,uM]at h
 split at h
 ·simp only[Pr.bind]at h
  split at h
  ·injection h with h1 h2;subst h1;exact Nat.zero_le _
  ·cases hv:f (i+1)with
   |ok y k=>
    rw[hv]at h
    have h1:=hf _ _ _ hv;exact Dd hf _ [y] k _ _ (by show 1≤k;omega) h
   |err k e=>rw[hv]at h;cases h
 ·cases h
theorem Ec:uG gV [] (.sl .str QI):=
 SD λok=>by
  rw[Pe];rfl
theorem NN(hd:cJ l)(hl:l.length*32≤140737488355328){R:D→List (Nat×yI)→Prop}{T:Value→Prop}:∀(r pre:List ByteArray) (j:Nat),QI=pre++r→
  ((match bV l r ((pre.length:Int)+1) j with|some o=>TD zU uH names l o (j+1)|none=> .err j 1).on (λx j'=>R (dC x) (Zc l en goal mvar pv pc names j')) λj' e=>T (C4 (rY l en j') e))→
  ∃n,lU R T QI n (pre.length:Int) 0 [] [] 0 [] [] 0 [] [] 0 [] [] l (j:Int) en goal mvar names pv pc
 |[],pre,j,hw,hx=>by
  refine⟨1,?_⟩;rw[jX];have hl:pre.length=10:=by have:=congrArg List.length hw;simpa[QI]using this.symm
  refine df (by rw[hl];decide) (dt rfl (.inr ⟨_,sL j 1,hx⟩))
 |s::r,pre,j,hw,hx=>by
  have hl4:pre.length<QI.length:=by rw[hw,List.length_append,List.length_cons];omega
  have hl10:pre.length<10:=hl4
  have hat:zR .str QI (pre.length:Int).toNat=s:=by
   rw[Int.toNat_natCast];show QI.getD _ _=_
   rw[hw,List.getD_eq_getElem?_getD,List.getElem?_append_right (Nat.le_refl _),Nat.sub_self];rfl
  have hs:=xA (l:=l) (en:=en) (goal:=goal) (mvar:=mvar) (pv:=pv) (pc:=pc) (names:=names) j s;rw[←hat]at hs
  rw[bV]at hx
  cases hb:tJ l s j with
  |true=>
   rw[hb,if_pos rfl]at hx
   refine⟨1,?_⟩;rw[jX];refine yK hl4▸⟨zM hl4,_,_,hs,?_⟩;rw[hat,qS,hb,if_pos rfl];refine bt rfl ?_;rw[rE (by omega) (by omega)]
   have hx:Pr.on (TD zU uH names l ((pre.length:Int)+1) (j+1)) _ _:=hx;rw[show(pre.length:Int)+1=1+pre.length by omega]at hx
   refine df (by omega) ?_
   by_cases e1:(1:Int)+pre.length=1
   ·refine dt e1 ?_
    rw[TD,if_pos (by omega)]at hx
    exact(gK hd _).call (λ_ _ hs hk=> .inl ⟨_,_,hs,(mN _).call (λ_ _ hs hk=> .inl ⟨_,_,hs,(cK hd _).call (λ_ _ hs hk=> .inl ⟨_,_,hs,hk⟩) (λ_ _ hs hy=> .inr ⟨_,hs,hy⟩) (Pr.on_bind.1 hk)⟩) (λ_ _ hs hy=> .inr ⟨_,hs,hy⟩) (Pr.on_bind.1 hk)⟩) (λ_ _ hs hy=> .inr ⟨_,hs,hy⟩) (Pr.on_bind.1 hx)
   refine df e1 ?_
   by_cases e2:(1:Int)+pre.length=2
   ·refine dt e2 ?_
    rw[TD,if_pos (by omega)]at hx
    exact(gK hd _).call (λ_ _ hs hk=> .inl ⟨_,_,hs,(mN _).call (λ_ _ hs hk=> .inl ⟨_,_,hs,(cK hd _).call (λ_ _ hs hk=> .inl ⟨_,_,hs,hk⟩) (λ_ _ hs hy=> .inr ⟨_,hs,hy⟩) (Pr.on_bind.1 hk)⟩) (λ_ _ hs hy=> .inr ⟨_,hs,hy⟩) (Pr.on_bind.1 hk)⟩) (λ_ _ hs hy=> .inr ⟨_,hs,hy⟩) (Pr.on_bind.1 hx)
   refine df e2 ?_
   by_cases e3:(1:Int)+pre.length=3
   ·refine dt e3 ?_
    rw[TD,if_pos (by omega)]at hx
    exact(gK hd _).call (λ_ _ hs hk=> .inl ⟨_,_,hs,(mN _).call (λ_ _ hs hk=> .inl ⟨_,_,hs,(cK hd _).call (λ_ _ hs hk=> .inl ⟨_,_,hs,hk⟩) (λ_ _ hs hy=> .inr ⟨_,hs,hy⟩) (Pr.on_bind.1 hk)⟩) (λ_ _ hs hy=> .inr ⟨_,hs,hy⟩) (Pr.on_bind.1 hk)⟩) (λ_ _ hs hy=> .inr ⟨_,hs,hy⟩) (Pr.on_bind.1 hx)
   refine df e3 ?_
   by_cases e4:(1:Int)+pre.length=4
   ·refine dt e4 ?_
    rw[TD,if_neg (by omega),if_pos (by omega)]at hx
    exact(mN _).call (λ_ _ hs hk=> .inl ⟨_,_,hs,hk⟩) (λ_ _ hs hy=> .inr ⟨_,hs,hy⟩) (Pr.on_bind.1 hx)
   refine df e4 ?_
   by_cases e5:(1:Int)+pre.length=5
   ·refine dt e5 ?_
    rw[TD,if_neg (by omega),if_neg (by omega),if_pos (by omega)]at hx
    exact(gK hd _).call (λ_ _ hs hk=> .inl ⟨_,_,hs,(Un 2 (by decide) _).call (λ_ _ hs hk=> .inl ⟨_,_,hs,hk⟩) (λ_ _ hs hy=> .inr ⟨_,hs,hy⟩) (Pr.on_bind.1 hk)⟩) (λ_ _ hs hy=> .inr ⟨_,hs,hy⟩) (Pr.on_bind.1 hx)
   refine df e5 ?_
   by_cases e6:(1:Int)+pre.length=6
   ·refine dt e6 ?_
    rw[TD,if_neg (by omega),if_neg (by omega),if_neg (by omega),if_pos (by omega)]at hx
    exact(mN _).call (λ_ _ hs hk=> .inl ⟨_,_,hs,(NM hd _).call (λ_ _ hs hk=> .inl ⟨_,_,hs,hk⟩) (λ_ _ hs hy=> .inr ⟨_,hs,hy⟩) (Pr.on_bind.1 hk)⟩) (λ_ _ hs hy=> .inr ⟨_,hs,hy⟩) (Pr.on_bind.1 hx)
   refine df e6 ?_
   by_cases e7:(1:Int)+pre.length=7
   ·refine dt e7 ?_
    rw[TD,if_neg (by omega),if_neg (by omega),if_neg (by omega),if_neg (by omega),if_pos (by omega)]at hx
    exact(Un 3 (by decide) _).call (λ_ _ hs hk=> .inl ⟨_,_,hs,hk⟩) (λ_ _ hs hy=> .inr ⟨_,hs,hy⟩) (Pr.on_bind.1 hx)
   refine df e7 ?_
   by_cases e8:(1:Int)+pre.length=8
   ·refine dt e8 ?_
    rw[TD,if_neg (by omega),if_neg (by omega),if_neg (by omega),if_neg (by omega),if_neg (by omega),if_pos (by omega)]at hx
    refine(Zq _).call (λv j1 hs hk=> .inl ⟨_,_,hs,?_⟩) (λ_ _ hs hy=> .inr ⟨_,hs,hy⟩) (Pr.on_bind.1 hx)
    have hk:Pr.on ((oG l (vP zU names l) j1).bind λvs j=>Pr.ok (⟨_,v::vs,[],0,[],[]⟩:zF) j) _ _:=hk
    have hq:=mN (l:=l) (en:=en) (goal:=goal) (mvar:=mvar) (pv:=pv) (pc:=pc) (names:=names) j1;cases hv:oG l (vP zU names l) j1 with
    |ok vs j2=>
     rw[hv]at hq hk
     have h1:=zd3 UZ hv;have h2:=kU UZ _ _ _ hv;exact .inl ⟨_,_,hq,xX (t:=.int) (by show(1+vs.length)*8≤_;omega),hk⟩
    |err j2 e=>
     rw[hv]at hq hk
     exact .inr ⟨_,hq,hk⟩
   refine df e8 ?_
   by_cases e9:(1:Int)+pre.length=9
   ·refine dt e9 ?_
    rw[TD,if_neg (by omega),if_neg (by omega),if_neg (by omega),if_neg (by omega),if_neg (by omega),if_neg (by omega),if_pos (by omega)]at hx
    exact(Lt hd _).call (λ_ _ hs hk=> .inl ⟨_,_,hs,hk⟩) (λ_ _ hs hy=> .inr ⟨_,hs,hy⟩) (Pr.on_bind.1 hx)
   refine df e9 ?_
   by_cases e10:(1:Int)+pre.length=10
   ·refine dt e10 ?_
    rw[TD,if_neg (by omega),if_neg (by omega),if_neg (by omega),if_neg (by omega),if_neg (by omega),if_neg (by omega),if_neg (by omega)]at hx
    exact(Un 1 (by decide) _).call (λ_ _ hs hk=> .inl ⟨_,_,hs,(ST hd _).call (λ_ _ hs hk=> .inl ⟨_,_,hs,hk⟩) (λ_ _ hs hy=> .inr ⟨_,hs,hy⟩) (Pr.on_bind.1 hk)⟩) (λ_ _ hs hy=> .inr ⟨_,hs,hy⟩) (Pr.on_bind.1 hx)
   refine df e10 ?_;omega
  |false=>
   rw[hb,if_neg (by decide)]at hx
   obtain⟨n,hn⟩:=NN hd hl r (pre++[s]) j (by rw[hw,List.append_assoc];rfl) (by rw[List.length_append];show Pr.on (match bV l r (((pre.length+1:Nat):Int)+1) j with|some o=>_|none=>_) _ _;rw[show((pre.length+1:Nat):Int)=(pre.length:Int)+1 by omega];exact hx)
   refine⟨n+1,?_⟩;rw[jX];refine yK hl4▸⟨zM hl4,_,_,hs,?_⟩;rw[hat,qS,hb,if_neg (by decide),fG (by omega)]
   rw[List.length_append]at hn
   exact bf rfl hn
theorem Ax(hd:cJ l)(j:Nat):Od rF [.ptr 1000 0] (Zc l en goal mvar pv pc names) (rY l en) j (λx=>dC x) (Av zU uH names l j):=
 eZ (Qv _ _ _ _ _ _ _ _) (Qw _ _ _ _ _ _ _ _) λok ok2 R T hx=>by
  rw[P8];exact zG (t:=.list .str) Ec (NN hd (Ws ok2) QI [] j rfl hx)
end
section
variable {l:List tX}{en:Int}
theorem Uo{pv:List zO}{pc:List zF}{names:List (ByteArray×Int)}{R:D→List (Nat×yI)→Prop}{T:Value→Prop}{x:Int×Int}{j:Nat}
  (hx:(SQ l x j).on (λg j'=>R (.tup []) (Zc l en g.1 g.2 pv pc names j')) λj' e=>T (C4 (rY l en j') e)):
  (∃n35:Int,xD zH [.ptr 1000 0,.sl .str ([(⟨#[59]⟩:ByteArray)])] (Zc l en x.1 x.2 pv pc names j) (.tup []) (Aw l en x.1 x.2 pv pc names n35)∧zP (decide (n35<(l.length:Int)))
   ((xD zL [.ptr 1000 0,dI 1] (Aw l en x.1 x.2 pv pc names n35) (.tup []) (Aw l en x.1 x.2 pv pc names n35)∧R (.tup []) (Aw l en x.1 x.2 pv pc names n35))∨
    ∃u,oq zL [.ptr 1000 0,dI 1] (Aw l en x.1 x.2 pv pc names n35) u∧T u) (R (.tup []) (Aw l en x.1 x.2 pv pc names n35)))∨
  ∃u,oq zH [.ptr 1000 0,.sl .str ([(⟨#[59]⟩:ByteArray)])] (Zc l en x.1 x.2 pv pc names j) u∧T u:=by
 rw[SQ,Pr.on_bind]at hx
 refine(uF j _).call (λ_ j' hs hk=> .inl ⟨_,hs,?_⟩) (λ_ _ hs hy=> .inr ⟨_,hs,hy⟩) hx
 by_cases h:j'<l.length
 ·rw[if_pos h]at hk
  exact dt (by omega) (.inr ⟨_,sL j' 1,hk⟩)
 ·rw[if_neg h]at hk
  exact df (by omega) hk
theorem C6(hd:cJ l){pv:List zO}{pc:List zF}{names:List (ByteArray×Int)}{R:D→List (Nat×yI)→Prop}{T:Value→Prop}(j:Nat)(hb:tJ l ⟨#[99,111,110]⟩ j=false)
  (hx:(SR zU l names j).on (λg j'=>R (.tup []) (Zc l en g.1 g.2 pv pc names j')) λj' e=>T (C4 (rY l en j') e)):pH R T 1 l (j:Int) en 0 0 names pv pc:=by
 rw[pM];refine⟨_,_,xA j _,?_⟩;rw[qS,hb,if_neg (by decide)]
 refine bf rfl ?_;rw[SR,Pr.on_bind]at hx
 refine(uF j _).call (λ_ j1 hs hk=> .inl ⟨_,hs,_,_,xA j1 _,?_⟩) (λ_ _ hs hy=> .inr ⟨_,hs,hy⟩) hx
 rw[qS];cases h1:tJ l ⟨#[97,110,121]⟩ j1 with
 |true=>
  rw[h1,if_pos rfl]at hk
  rw[if_pos rfl];exact bt rfl (Uo (x:=(0,0)) hk)
 |false=>
  rw[h1,if_neg (by decide)]at hk
  rw[if_neg (by decide)]
  refine bf rfl ⟨_,_,xA j1 _,?_⟩;rw[qS];cases h2:tJ l ⟨#[108,101,97,115,116]⟩ j1 with
  |true=>
   rw[h2,if_pos rfl]at hk
   rw[if_pos rfl];exact bt rfl ((Zq (j1+1)).call (λv _ hs hk=> .inl ⟨_,_,hs,Uo (x:=(1,v)) hk⟩) (λ_ _ hs hy=> .inr ⟨_,hs,hy⟩) (Pr.on_bind.1 hk))
  |false=>
   rw[h2,if_neg (by decide)]at hk
   rw[if_neg (by decide)]
   exact bf rfl ((uF j1 _).call (λ_ j2 hs hk=> .inl ⟨_,hs,(Zq j2).call (λv _ hs hk=> .inl ⟨_,_,hs,Uo (x:=(2,v)) hk⟩) (λ_ _ hs hy=> .inr ⟨_,hs,hy⟩) (Pr.on_bind.1 hk)⟩) (λ_ _ hs hy=> .inr ⟨_,hs,hy⟩) (Pr.on_bind.1 hk))
theorem pA{α β:Type}{r:Pr α}{f:α→Nat→Pr β}{x:β}{j:Nat}(h:r.bind f=.ok x j):∃y k,r=.ok y k∧f y k=.ok x j:=by
 cases r
 ·exact⟨_,_,rfl,h⟩
 ·cases h
theorem Ay:∀ {r:List ByteArray} {i:Int} {j:Nat} {o:Int},bV l r i j=some o→j<l.length
 |[],i,j,o,h=>by cases h
 |s::r,i,j,o,h=>by
  unfold bV at h
  split at h
  ·rename_i hb;exact pI hb
  ·exact Ay h
theorem Lu{isN:ByteArray→Bool}{names:List (ByteArray×Int)}{n:Nat}{acc:List Int}{j:Nat}{xs:List Int}{j':Nat}(h:Vt isN names l (n+1) acc j=.ok xs j'):j<j'∧j'≤l.length:=by
 have h1:=HJ _ _ _ _ _ h;unfold Vt at h
 obtain⟨x,k,h2,h3⟩:=pA h;have:=UZ _ _ _ h2;have:=HJ _ _ _ _ _ h3;omega
theorem zgf{isN:ByteArray→Bool}{nv:ByteArray→Int}{names:List (ByteArray×Int)}{o:Int}{i j:Nat}{x:zF}(h:TD isN nv names l o i=.ok x j):i<j∧j≤l.length:=by
 unfold TD at h
 split at h
 ·obtain⟨_,_,h1,h⟩:=pA h;obtain⟨_,_,h2,h⟩:=pA h;obtain⟨_,_,h3,h⟩:=pA h
  injection h with _ h
  have:=kU SS _ _ _ h1;have:=kU UZ _ _ _ h2;have:=SS _ _ _ h3;omega
 split at h
 ·obtain⟨_,_,h1,h⟩:=pA h
  injection h with _ h
  have:=kU UZ _ _ _ h1;omega
 split at h
 ·obtain⟨_,_,h1,h⟩:=pA h;obtain⟨_,_,h2,h⟩:=pA h
  injection h with _ h
  have:=kU SS _ _ _ h1;have:=Lu h2;omega
 split at h
 ·obtain⟨_,_,h1,h⟩:=pA h;obtain⟨_,_,h2,h⟩:=pA h
  injection h with _ h
  have:=kU UZ _ _ _ h1;have:=kU (kU SS) _ _ _ h2;omega
 split at h
 ·obtain⟨_,_,h1,h⟩:=pA h
  injection h with _ h
  have:=Lu h1;omega
 split at h
 ·obtain⟨_,_,h1,h⟩:=pA h;obtain⟨_,_,h2,h⟩:=pA h
  injection h with _ h
  have:=UZ _ _ _ h1;have:=kU UZ _ _ _ h2;omega
 split at h
 ·obtain⟨_,_,h1,h⟩:=pA h
  injection h with _ h
  have:=kU Ih _ _ _ h1;omega
 ·obtain⟨_,_,h1,h⟩:=pA h;obtain⟨_,_,h2,h⟩:=pA h
  injection h with _ h
  have:=Lu h1;have:=Ih _ _ _ h2;omega
theorem zib{isN:ByteArray→Bool}{nv:ByteArray→Int}{names:List (ByteArray×Int)}{i j:Nat}{x:zF}(h:Av isN nv names l i=.ok x j):i+2≤j∧j≤l.length:=by
 unfold Av at h
 split at h
 ·rename_i o ho
  have:=Ay ho;have:=zgf h;omega
 ·cases h
theorem Pg(hd:cJ l)(hl:l.length*32≤140737488355328){pv:List zO}{names:List (ByteArray×Int)}{R:D→List (Nat×yI)→Prop}{T:Value→Prop}:∀(fuel:Nat) (cs:List zF) (j:Nat),j≤l.length→l.length<j+fuel→cs.length*4≤j→
  (((Pf zU uH l names fuel cs j).bind λcs j=>(SR zU l names j).bind λg j=> .ok (cs,g) j).on (λx j'=>R (.tup []) (Zc l en x.2.1 x.2.2 pv x.1 names j')) λj' e=>T (C4 (rY l en j') e))→
  ∃n,pH R T n l (j:Int) en 0 0 names pv cs
 |0,cs,j,h1,h2,_,_=>by omega
 |fuel+1,cs,j,h1,h2,h3,hx=>by
  rw[Pf]at hx
  cases hb:tJ l ⟨#[99,111,110]⟩ j with
  |false=>
   rw[hb,if_neg (by decide)]at hx
   have hx:((SR zU l names j).bind λg j=>Pr.ok (cs,g) j).on _ _:=hx
   rw[Pr.on_bind]at hx
   exact⟨1,C6 hd j hb hx⟩
  |true=>
   rw[hb,if_pos rfl]at hx
   have hlt:=pI hb;have hq:=Ax (l:=l) (en:=en) (goal:=0) (mvar:=0) (pv:=pv) (pc:=cs) (names:=names) hd (j+1);cases hc:Av zU uH names l (j+1)with
   |err i e=>
    rw[hc]at hq hx
    refine⟨1,?_⟩;rw[pM];refine⟨_,_,xA j _,?_⟩;rw[qS,hb,if_pos rfl];exact bt rfl (.inr ⟨_,hq,hx⟩)
   |ok c i=>
    rw[hc]at hq hx
    have ha:=zib hc;have hn:=uF (l:=l) (en:=en) (goal:=0) (mvar:=0) (pv:=pv) (pc:=cs) (names:=names) i [⟨#[59]⟩];have hx:(((uM l [⟨#[59]⟩] i).bind λ_ j=>Pf zU uH l names fuel (cs++[c]) j).bind λcs j=>(SR zU l names j).bind λg j=>Pr.ok (cs,g) j).on _ _:=hx
    rw[uM,uM]at hn hx
    cases hs:tJ l ⟨#[59]⟩ i with
    |false=>
     rw[hs,if_neg (by decide)]at hn hx
     refine⟨1,?_⟩;rw[pM];refine⟨_,_,xA j _,?_⟩;rw[qS,hb,if_pos rfl];exact bt rfl (.inl ⟨_,_,hq,.inr ⟨_,hn,hx⟩⟩)
    |true=>
     rw[hs,if_pos rfl]at hn hx
     have hi:=pI hs;obtain⟨n,hr⟩:=Pg hd hl fuel (cs++[c]) (i+1) (by omega) (by omega) (by rw[List.length_append];show(_+1)*4≤_;omega) hx
     refine⟨n+1,?_⟩;rw[pM];refine⟨_,_,xA j _,?_⟩;rw[qS,hb,if_pos rfl];exact bt rfl (.inl ⟨_,_,hq,.inl ⟨_,hn,xX (t:=.con) (by show(cs.length+1)*112≤_;omega),hr⟩⟩)
end
section
variable {l:List tX}{en:Int}
theorem HK{s:ByteArray}{j k:Nat}{u:Unit}(h:uM l [s] j=.ok u k):k=j+1∧j<l.length:=by
 rw[uM,uM]at h
 split at h
 ·rename_i hb
  have:=pI hb;injection h with _ h
  omega
 ·cases h
theorem zic{isN:ByteArray→Bool}{j k:Nat}{s:ByteArray}(h:Vs isN l j=.ok s k):k=j∧j<l.length:=by
 unfold Vs at h
 split at h
 ·rename_i hc;injection h with _ h;exact⟨h.symm,hc.1⟩
 ·cases h
theorem zid{isN:ByteArray→Bool}{nv:ByteArray→Int}{i j:Nat}{x:zO}(h:Eb isN nv l i=.ok x j):i<j∧j≤l.length:=by
 unfold Eb at h
 obtain⟨_,_,h1,h⟩:=pA h;obtain⟨_,_,h2,h⟩:=pA h;obtain⟨_,_,h3,h⟩:=pA h;obtain⟨_,_,h4,h⟩:=pA h;obtain⟨_,_,h5,h⟩:=pA h;obtain⟨_,_,h6,h⟩:=pA h;injection h with _ h
 have:=zic h1;have:=HK h2;have:=SS _ _ _ h3;have:=HK h4;have:=SS _ _ _ h5;have:=HK h6;omega
theorem Az{s:ByteArray}{i:Int}:∀es:List (ByteArray×Int),(tQ .str .int s i es).length≤es.length+1
 |[]=>Nat.le_refl _
 |(a,b)::r=>by
  have ih:=Az (s:=s) (i:=i) r;unfold tQ;cases Py .str s a with
  |true=>rw[cond_true];simp
  |false=>rw[cond_false];simp only[List.length_cons];omega
theorem AA{s:ByteArray}{i:Int}{es:List (ByteArray×Int)}:(Wt es s i).length≤es.length+1:=by
 unfold Wt;split
 ·omega
 ·exact Az es
theorem Ph(hd:cJ l)(hl:l.length*32≤140737488355328){R:D→List (Nat×yI)→Prop}{T:Value→Prop}:∀(fuel:Nat) (vs:List zO) (ns:List (ByteArray×Int)) (j:Nat),j≤l.length→l.length<j+fuel→vs.length≤j→ns.length≤vs.length→
  (((HH zU uH l fuel vs ns j).bind λx j=>(Pf zU uH l x.2 (l.length+1) [] j).bind λcs j=>(SR zU l x.2 j).bind λg j=> .ok (x,cs,g) j).on (λy j'=>R (.tup []) (Zc l en y.2.2.1 y.2.2.2 y.1.1 y.2.1 y.1.2 j')) λj' e=>T (C4 (rY l en j') e))→
  ∃n,uA R T n l (j:Int) en 0 0 ns vs []
 |0,vs,ns,j,h1,h2,_,_,_=>by omega
 |fuel+1,vs,ns,j,h1,h2,h3,h4,hx=>by
  rw[HH]at hx
  cases hb:tJ l ⟨#[118,97,114]⟩ j with
  |false=>
   rw[hb,if_neg (by decide)]at hx
   have hx:((Pf zU uH l ns (l.length+1) [] j).bind λcs j=>(SR zU l ns j).bind λg j=>Pr.ok ((vs,ns),cs,g) j).on _ _:=hx
   refine⟨1,?_⟩;rw[cI];refine⟨_,_,xA j _,?_⟩;rw[qS,hb,if_neg (by decide)]
   refine bf rfl (Pg hd hl (l.length+1) [] j h1 (by omega) (Nat.zero_le _) ?_)
   rw[Pr.on_bind]at hx⊢
   refine Pr.on_mono hx (λcs j' h=> ?_) λ_ _ h=>h
   rw[Pr.on_bind]at h⊢
   exact h
  |true=>
   rw[hb,if_pos rfl]at hx
   have hlt:=pI hb
   obtain⟨n,hn⟩:∃n,∀v i,Eb zU uH l (j+1)=.ok v i→uA R T n l (i:Int) en 0 0 (Wt ns v.name vs.length) (vs++[v]) []:=by
    cases hv:Eb zU uH l (j+1)with
    |ok v i=>
     rw[hv]at hx
     have ha:=zid hv;have:=AA (s:=v.name) (i:=vs.length) (es:=ns);obtain⟨n,hr⟩:=Ph hd hl fuel (vs++[v]) (Wt ns v.name vs.length) i ha.2 (by omega) (by rw[List.length_append];show _+1≤_;omega) (by rw[List.length_append];show _≤_+1;omega) hx
     exact⟨n,λv' i' e=>by injection e with e1 e2;subst e1 e2;exact hr⟩
    |err i e=>exact⟨0,λ_ _ e=>by cases e⟩
   have hy:(Eb zU uH l (j+1)).on (λv i=>uA R T n l (i:Int) en 0 0 (Wt ns v.name vs.length) (vs++[v]) []) λj' e=>T (C4 (rY l en j') e):=by
    cases hv:Eb zU uH l (j+1)with
    |ok v i=>exact hn _ _ hv
    |err i e=>rw[hv]at hx;exact hx
   refine⟨n+1,?_⟩;rw[cI];refine⟨_,_,xA j _,?_⟩;rw[qS,hb,if_pos rfl];rw[Eb,Pr.on_bind,Vs]at hy
   have hq:=NJ (l:=l) (en:=en) (goal:=0) (mvar:=0) (pv:=vs) (pc:=[]) (names:=ns) (j+1);rw[Vs]at hq
   refine bt rfl ?_
   by_cases hc:j+1<l.length∧zU (fi l (j+1)).text=true
   ·rw[if_pos hc]at hq hy
    refine .inl ⟨_,hq,?_⟩;rw[fG (by omega)]
    have hy:Pr.on (Pr.bind (uM l [⟨#[58]⟩] (j+1+1)) _) _ _:=hy;refine(uF _ _).call (λ_ _ hs hk=> .inl ⟨_,hs,(cK hd _).call (λa _ hs hk=> .inl ⟨_,_,hs,(uF _ _).call (λ_ _ hs hk=> .inl ⟨_,hs,(cK hd _).call (λb _ hs hk=> .inl ⟨_,_,hs,(uF _ _).call (λ_ k hs hk=> .inl ⟨_,hs,?_⟩) (λ_ _ hs hy=> .inr ⟨_,hs,hy⟩) (Pr.on_bind.1 hk)⟩) (λ_ _ hs hy=> .inr ⟨_,hs,hy⟩) (Pr.on_bind.1 hk)⟩) (λ_ _ hs hy=> .inr ⟨_,hs,hy⟩) (Pr.on_bind.1 hk)⟩) (λ_ _ hs hy=> .inr ⟨_,hs,hy⟩) (Pr.on_bind.1 hk)⟩) (λ_ _ hs hy=> .inr ⟨_,hs,hy⟩) (Pr.on_bind.1 hy)
    have hk:uA R T n l (k:Int) en 0 0 (Wt ns (fi l (j+1)).text vs.length) (vs++[⟨(fi l (j+1)).text,a,b⟩]) []:=hk;have hr:wD .var (vs.length+[(⟨(fi l (j+1)).text,a,b⟩:zO)].length)=true:=xX (t:=.var) (by show(vs.length+1)*32≤_;omega)
    unfold Wt at hk
    cases hm:Pz .str .int (fi l (j+1)).text ns with
    |true=>
     rw[hm,if_pos rfl]at hk
     exact bnf rfl ⟨hr,hk⟩
    |false=>
     rw[hm,if_neg (by decide)]at hk
     exact bnt rfl ⟨decide_eq_true (by omega),hr,hk⟩
   ·rw[if_neg hc]at hq hy
    exact .inr ⟨_,hq,hy⟩
theorem Ed(hd:cJ l):match bW zU uH l with
  | .ok (m,ns) j=>xD rS [.ptr 1000 0] (Zc l en 0 0 [] [] [] 0) (.tup []) (Zc l en m.goal m.var m.vars m.cons ns j)
  | .err j e=>oq rS [.ptr 1000 0] (Zc l en 0 0 [] [] [] 0) (C4 (rY l en j) e):=by
 have hx:∀(R:D→List (Nat×yI)→Prop) (T:Value→Prop),(bW zU uH l).on (λx j'=>R (.tup []) (Zc l en x.1.goal x.1.var x.1.vars x.1.cons x.2 j')) (λj' e=>T (C4 (rY l en j') e))→
   (∀k o,zV k (Zc l en 0 0 [] [] [] 0)=some o→okO o)→FX uL Tryz.f94 [.ptr 1000 0] (Zc l en 0 0 [] [] [] 0) [.ptr 1000 0] false R T:=λR T h ok2=>by
  refine(SC l 0 en 0 0 [] [] [] R T)▸ ?_;refine Ph hd (Ws ok2) (l.length+1) [] [] 0 (Nat.zero_le _) (by omega) (Nat.le_refl _) (Nat.le_refl _) ?_
  rw[bW,Pr.on_bind]at h
  rw[Pr.on_bind];refine Pr.on_mono h (λx j h=> ?_) λ_ _ h=>h
  rw[Pr.on_bind]at h⊢
  refine Pr.on_mono h (λcs j h=> ?_) λ_ _ h=>h
  rw[Pr.on_bind]at h⊢
  exact h
 cases hm:bW zU uH l with
 |ok x j=>
  obtain⟨m,ns⟩:=x;exact Ts _ _ _ _ _ _ _ _ λok ok2=>hx _ _ (by rw[hm];exact⟨rfl,rfl⟩) ok2
 |err j e=>exact Tt _ _ _ _ _ _ _ _ λok ok2=>hx _ _ (by rw[hm];exact rfl) ok2
end
def nX:xP:= {own:=[14],live:=[],n:=19}
theorem bX(b:List zO)(c:List zF)(d e:Int)(a:List UInt8)(f:ByteArray)(R:oB):FH nX Tryz.f56 [.ptr 1000 0,.str f] [(1000,.cells [.slf 1000,.own 2000,.sl .var b,.sl .con c,dI d,dI e]),(2000,.row 5 .byte a)] [.ptr 1000 0] false R=
 (xD sW [.ptr 1000 0] [(1000,.cells [.slf 1000,.own 2000,.sl .var b,.sl .con c,dI d,dI e]),(2000,.row 5 .byte a)] (.tup []) [(1000,.cells [.slf 1000,.own 2000,.sl .var b,.sl .con c,dI d,dI e]),(2000,.row 5 .byte a)]∧
 wD .byte (a.length+f.size)=true∧
 R (.tup [dI (f.size:Int),.undef]) [(1000,.cells [.slf 1000,.own 2000,.sl .var b,.sl .con c,dI d,dI e]),(2000,.row 5 .byte (a++f.data.toList))]):=by kernel_rfl
theorem cY(a:List zO)(b:List zF)(c d:Int)(e:List UInt8)(f:ByteArray):o9 nX Tryz.f56 zN [.ptr 1000 0,.str f] [(1000,.cells [.slf 1000,.own 2000,.sl .var a,.sl .con b,dI c,dI d]),(2000,.row 5 .byte e)] [.ptr 1000 0] false:=nV Tryz.func56 (by kernel_rfl) Tryz.ntmps56 rfl
def nY:xP:= {own:=[14],live:=[],n:=19}
theorem bY(a:List UInt8)(b:ByteArray)(R:oB):FH nY Tryz.f56 [.ptr 1000 0,.str b] [(1000,.cells [.slf 1000,.own 2000]),(2000,.row 5 .byte a)] [.ptr 1000 0] false R=
 (xD sW [.ptr 1000 0] [(1000,.cells [.slf 1000,.own 2000]),(2000,.row 5 .byte a)] (.tup []) [(1000,.cells [.slf 1000,.own 2000]),(2000,.row 5 .byte a)]∧
 wD .byte (a.length+b.size)=true∧
 R (.tup [dI (b.size:Int),.undef]) [(1000,.cells [.slf 1000,.own 2000]),(2000,.row 5 .byte (a++b.data.toList))]):=by kernel_rfl
theorem cZ(a:List UInt8)(b:ByteArray):o9 nY Tryz.f56 zN [.ptr 1000 0,.str b] [(1000,.cells [.slf 1000,.own 2000]),(2000,.row 5 .byte a)] [.ptr 1000 0] false:=nV Tryz.func56 (by kernel_rfl) Tryz.ntmps56 rfl
def U2:xP:= {own:=[6,9],live:=[],n:=52}
theorem Lv(b:ByteArray)(a:Int)(R:xK):FD U2 Tryz.f17 [.str b,dI a] R=
 (zP (decide (4000<(b.size:Int)))
 (R (.tup [.str (⟨#[]⟩:ByteArray),dI 2]))
 (zP (decide (a<0))
 (R (.tup [.str (⟨#[]⟩:ByteArray),dI 3]))
 (zP (decide (300<a))
 (R (.tup [.str (⟨#[]⟩:ByteArray),dI 3]))
 (c3Q lG [.str b] .mdl .int .int λe g h=>
 zP (!decide (h=0))
 (yY zZ [dI g] .str λc=>
 (⟨#[116,101,120,116,32]⟩:ByteArray).size+c.size≤140737488355328∧
 ((⟨#[116,101,120,116,32]⟩:ByteArray)++c).size+(⟨#[10]⟩:ByteArray).size≤140737488355328∧
 R (.tup [.str (((⟨#[116,101,120,116,32]⟩:ByteArray)++c)++(⟨#[10]⟩:ByteArray)),dI 0]))
 (Q3 hC [dM e,dI a] .ans .int λd f=>
 zP (!decide (f=0))
 (R (.tup [.str (⟨#[]⟩:ByteArray),dI f]))
 (zP (decide (d.verdict=1))
 (yY bD [dM e,.sl .int d.values] .str λi=>
 R (.tup [.str i,dI 0]))
 (zP (decide (d.verdict=2))
 (R (.tup [.str (⟨#[110,111,110,101,10]⟩:ByteArray),dI 0]))
 (R (.tup [.str (⟨#[117,110,107,110,111,119,110,10]⟩:ByteArray),dI 0]))))))))):=by kernel_rfl
theorem NO(a:ByteArray)(b:Int):xL U2 Tryz.f17 eO [.str a,dI b]:=xO Tryz.func17 (by kernel_rfl) Tryz.ntmps17 rfl
def U3:xP:= {own:=[8,11,39],live:=[],n:=61}
theorem Lw(d:ByteArray)(a:List Int)(c:List zS)(R:xK):FD U3 Tryz.f23 [.str d,.sl .int a,.sl .step c] R=
 (c3Q lG [.str d] .mdl .int .int λb n e=>
 zP (!decide (e=0))
 (R (.tup [dB false,dI e]))
 (zP (decide (0<(a.length:Int)))
 (Q3 jG [dM b,.sl .int a] (.list .lit) .int λf g=>
 zP (!decide (g=0))
 (R (.tup [dB false,dI g]))
 (wD (.list .lit) (([]:List (List zC)).length+([f]).length)=true∧
 Q3 fT [dM b,.sl (.list .lit) (([]:List (List zC))++([f])),.sl .step c] .bool .int λj h=>
 zP (!decide (h=0))
 (R (.tup [dB false,dI h]))
 (zP j
 (zP (decide ((a.length:Int)=0))
 (R (.tup [dB true,dI 0]))
 (yY jH [dM b,.sl .int a] .bool λk=>
 R (.tup [dB k,dI 0])))
 (R (.tup [dB false,dI 0])))))
 (Q3 fT [dM b,.sl (.list .lit) ([]:List (List zC)),.sl .step c] .bool .int λl i=>
 zP (!decide (i=0))
 (R (.tup [dB false,dI i]))
 (zP l
 (zP (decide ((a.length:Int)=0))
 (R (.tup [dB true,dI 0]))
 (yY jH [dM b,.sl .int a] .bool λm=>
 R (.tup [dB m,dI 0])))
 (R (.tup [dB false,dI 0])))))):=by kernel_rfl
theorem NP(a:ByteArray)(b:List Int)(c:List zS):xL U3 Tryz.f23 wX [.str a,.sl .int b,.sl .step c]:=xO Tryz.func23 (by kernel_rfl) Tryz.ntmps23 rfl
def mO:xP:= {own:=[5,7],live:=[(0,([1,5,14,15,16],[5,1005001]))],n:=34,nils:=[(5,(0,(5,.byte))),(5,(1,(5,.byte)))],pubs:=[]}
def kV(a:zD)(b:List Int)(R:xK)(c:Nat)(d:Int)(e:List UInt8):Prop:=LP mO Tryz.f67 [1,1,1,0,1,0,0] 0 c ⟨[(1,.sl .int b),(5,.ptr 5 0),(14,.sl .var a.vars),(15,dI (a.vars.length:Int)),(16,dI d)],[(5,.cells [.slf 5,.own 1005001]),(1005001,.row 5 .byte e)]⟩ (zQ 0 (sK mO Tryz.f67 [1,1,1,1] 0 (eK Tryz.f67 R)))
def nJ(a:zD)(b:List Int)(R:xK)(c:Nat)(d:Int)(e:List UInt8):Prop:=LP mO Tryz.f67 [1,1,1,0,1,0,0] 0 c ⟨[(1,.sl .int b),(5,.ptr 5 0),(14,.sl .var a.vars),(15,dI (a.vars.length:Int)),(16,dI d)],[(5,.cells [.slf 5,.own 1005001]),(1005001,.row 5 .byte e)]⟩ (zQ 0 (sK mO Tryz.f67 [1,1,1,1] 0 (eK Tryz.f67 R)))
theorem Oe(b:zD)(c:List Int)(R:xK)(f:Nat)(a:Int)(d:List UInt8):kV b c R (f+1) a d=
 (zP (decide (a<(b.vars.length:Int)))
 (wI a b.vars.length=true∧
 wI a c.length=true∧
 yY zZ [dI (zR .int c a.toNat)] .str λe=>
 ((zR .var b.vars a.toNat).name).size+(⟨#[32,61,32]⟩:ByteArray).size≤140737488355328∧
 (((zR .var b.vars a.toNat).name)++(⟨#[32,61,32]⟩:ByteArray)).size+e.size≤140737488355328∧
 ((((zR .var b.vars a.toNat).name)++(⟨#[32,61,32]⟩:ByteArray))++e).size+(⟨#[10]⟩:ByteArray).size≤140737488355328∧
 ∃i:Int,∃g:List UInt8,xD zN [.ptr 1000 0,.str (((((zR .var b.vars a.toNat).name)++(⟨#[32,61,32]⟩:ByteArray))++e)++(⟨#[10]⟩:ByteArray))] [(1000,.cells [.slf 1000,.own 2000]),(2000,.row 5 .byte d)] (.tup [dI i,.undef]) [(1000,.cells [.slf 1000,.own 2000]),(2000,.row 5 .byte g)]∧
 kV b c R f (yW (a+1)) g)
 (∃h:ByteArray,xD wB [.ptr 1000 0] [(1000,.cells [.slf 1000,.own 2000]),(2000,.row 5 .byte d)] (.str h) []∧
 R (.str h))):=by kernel_rfl
theorem SU(b:zD)(c:List Int)(R:xK)(f:Nat)(a:Int)(d:List UInt8):nJ b c R (f+1) a d=
 (zP (decide (a<(b.vars.length:Int)))
 (wI a b.vars.length=true∧
 wI a c.length=true∧
 yY zZ [dI (zR .int c a.toNat)] .str λe=>
 ((zR .var b.vars a.toNat).name).size+(⟨#[32,61,32]⟩:ByteArray).size≤140737488355328∧
 (((zR .var b.vars a.toNat).name)++(⟨#[32,61,32]⟩:ByteArray)).size+e.size≤140737488355328∧
 ((((zR .var b.vars a.toNat).name)++(⟨#[32,61,32]⟩:ByteArray))++e).size+(⟨#[10]⟩:ByteArray).size≤140737488355328∧
 ∃i:Int,∃g:List UInt8,xD zN [.ptr 1000 0,.str (((((zR .var b.vars a.toNat).name)++(⟨#[32,61,32]⟩:ByteArray))++e)++(⟨#[10]⟩:ByteArray))] [(1000,.cells [.slf 1000,.own 2000]),(2000,.row 5 .byte d)] (.tup [dI i,.undef]) [(1000,.cells [.slf 1000,.own 2000]),(2000,.row 5 .byte g)]∧
 nJ b c R f (yW (a+1)) g)
 (∃h:ByteArray,xD wB [.ptr 1000 0] [(1000,.cells [.slf 1000,.own 2000]),(2000,.row 5 .byte d)] (.str h) []∧
 R (.str h))):=by kernel_rfl
theorem Jt(a:zD)(b:List Int)(R:xK):FD mO Tryz.f67 [dM a,.sl .int b] R=
 (zP (decide (a.goal=0))
 (∃e:Int,∃c:List UInt8,xD zN [.ptr 1000 0,.str (⟨#[102,111,117,110,100,10]⟩:ByteArray)] [(1000,.cells [.slf 1000,.own 2000]),(2000,.row 5 .byte ([]:List UInt8))] (.tup [dI e,.undef]) [(1000,.cells [.slf 1000,.own 2000]),(2000,.row 5 .byte c)]∧
 ∃n0,kV a b R n0 0 c)
 (∃f:Int,∃d:List UInt8,xD zN [.ptr 1000 0,.str (⟨#[98,101,115,116,10]⟩:ByteArray)] [(1000,.cells [.slf 1000,.own 2000]),(2000,.row 5 .byte ([]:List UInt8))] (.tup [dI f,.undef]) [(1000,.cells [.slf 1000,.own 2000]),(2000,.row 5 .byte d)]∧
 ∃n0_2,nJ a b R n0_2 0 d)):=by kernel_rfl
theorem Lx(a:zD)(b:List Int):xL mO Tryz.f67 bD [dM a,.sl .int b]:=xO Tryz.func67 (by kernel_rfl) Tryz.ntmps67 rfl
def kW(n:Int):ByteArray:=⟨(Lib.itoa n).toArray⟩
def brS(l:List ByteArray):ByteArray:=(⟨#[91]⟩++⟨(Lib.join (l.map λx=>x.data.toList) [44,32]).toArray⟩)++⟨#[93]⟩
def OS(vs:List zO)(i:Int):ByteArray:=(zR .var vs i.toNat).name
def opS(o:Int):ByteArray:=zR .str opW (o-1).toNat
def Ee(k:Int):ByteArray:=zR .str QI (k-1).toNat
def Og(vs:List zO)(x:zC):ByteArray:=(((OS vs x.var++⟨#[32]⟩)++opS x.op)++⟨#[32]⟩)++kW x.n
def bZ(l:List Int):ByteArray:=brS (l.map kW)
def Ys(vs:List zO)(l:List Int):ByteArray:=brS (l.map (OS vs))
def Xx(vs:List zO)(c:zF):ByteArray:=
 if c.kind≤3 then(((((Ee c.kind++⟨#[32]⟩)++bZ c.consts)++⟨#[32]⟩)++Ys vs c.vars)++⟨#[32]⟩)++kW c.n
 else if c.kind=4 then(Ee c.kind++⟨#[32]⟩)++Ys vs c.vars
 else if c.kind=5 then(((((Ee c.kind++⟨#[32]⟩)++bZ c.consts)++⟨#[32]⟩)++OS vs (zR .int c.vars 0))++⟨#[32]⟩)++OS vs (zR .int c.vars 1)
 else if c.kind=6 then(((Ee c.kind++⟨#[32]⟩)++Ys vs c.vars)++⟨#[32]⟩)++brS (c.rows.map bZ)
 else if c.kind=7 then(((((Ee c.kind++⟨#[32]⟩)++OS vs (zR .int c.vars 0))++⟨#[32]⟩)++OS vs (zR .int c.vars 1))++⟨#[32]⟩)++OS vs (zR .int c.vars 2)
 else if c.kind=8 then(((Ee c.kind++⟨#[32]⟩)++OS vs (zR .int c.vars 0))++⟨#[32]⟩)++Ys vs (c.vars.drop 1)
 else if c.kind=9 then(Ee c.kind++⟨#[32]⟩)++brS (c.lits.map (Og vs))
 else(((Ee c.kind++⟨#[32]⟩)++OS vs (zR .int c.vars 0))++⟨#[32]⟩)++Og vs (zR .lit c.lits 0)
def zbF(v:zO):ByteArray:=(((((⟨#[118,97,114,32]⟩++v.name)++⟨#[58,32]⟩)++kW v.lo)++⟨#[46,46]⟩)++kW v.hi)++⟨#[59,10]⟩
def AB(vs:List zO)(c:zF):ByteArray:=(⟨#[99,111,110,32]⟩++Xx vs c)++⟨#[59,10]⟩
def De(m:zD):ByteArray:=
 if m.goal=0 then⟨#[115,111,108,118,101,32,97,110,121,59,10]⟩
 else if m.goal=1 then(⟨#[115,111,108,118,101,32,108,101,97,115,116,32]⟩++OS m.vars m.var)++⟨#[59,10]⟩
 else(⟨#[115,111,108,118,101,32,109,111,115,116,32]⟩++OS m.vars m.var)++⟨#[59,10]⟩
def aA(vs:List zO):List UInt8:=vs.flatMap λv=>(zbF v).data.toList
def U4(vs:List zO)(cs:List zF):List UInt8:=cs.flatMap λc=>(AB vs c).data.toList
def zgg(m:zD):List UInt8:=(aA m.vars++U4 m.vars m.cons)++(De m).data.toList
def zgh(m:zD):ByteArray:=⟨(zgg m).toArray⟩
theorem mT(a:Array UInt8):(⟨a⟩:ByteArray).size=a.size:=rfl
theorem HL{sep:List UInt8}{B:Nat}:∀(l:List (List UInt8)),(∀x∈l,x.length≤B)→(Lib.join l sep).length≤l.length*(B+sep.length)
 |[],_=>by simp[Lib.join]
 |[x],h=>by
  have:=h x (by simp)
  simp[Lib.join];omega
 |x::y::r,h=>by
  have ih:=HL (sep:=sep) (B:=B) (y::r) λz hz=>h z (List.mem_cons_of_mem _ hz)
  have h1:=h x (by simp)
  have e:Lib.join (x::y::r) sep=x++sep++Lib.join (y::r) sep:=by simp[Lib.join,List.intercalate]
  rw[e,List.length_append,List.length_append,List.length_cons (a:=x),Nat.add_mul];omega
theorem NQ{l:List ByteArray}{B:Nat}(h:∀x∈l,x.size≤B):(brS l).size≤l.length*(B+2)+2:=by
 have:=HL (sep:=[44,32]) (B:=B) (l.map λx=>x.data.toList) λx hx=>by
  obtain⟨y,hy,rfl⟩:=List.mem_map.1 hx;exact h y hy
 rw[List.length_map,show([44,32]:List UInt8).length=2 from rfl]at this
 unfold brS;simp only[ByteArray.size_append,mT,List.size_toArray,List.length_cons,List.length_nil];omega
theorem zie(b:Nat)(w:World)(h0:w.cell? ⟨b,0,none⟩=some (.pointer (some ⟨b,0,none⟩))):
  Calls Tryz.prog 106 #[.pointer (some ⟨b,0,none⟩)] w λe w'=>e=.returned (.tuple #[])∧w'=w:=by
 have u:Tryz.prog.underlying 96=some (.pointer 99):=by kernel_rfl
 obtain⟨j,hj⟩:∃j,Tryz.prog.info? 99=some j:=Option.isSome_iff_exists.1 (by kernel_rfl)
 go_enter Tryz.func106,Tryz.ntmps106
 go_wp2
 rw[Lib.run_neq_ptr_same w _ u hj]
 go_wp2
 go_end0
 exact⟨rfl,rfl⟩
set_option maxRecDepth 100000 in
theorem zgi(b n:Nat)(T:TypeId)(w:World)(h0:w.cell? ⟨b,0,none⟩=some (.pointer none))(hsh:w.shape? b=some (T,n))(hn:0<n)(hfz:w.frozen? ⟨b,0,none⟩=false)
  (hl:liesAt Tryz.prog Tryz.prog.depth T (n/Tryz.prog.cellsOf T) 0 99 1=true):
  Calls Tryz.prog 106 #[.pointer (some ⟨b,0,none⟩)] w λe w'=>e=.returned (.tuple #[])∧w'=w.setCell ⟨b,0,none⟩ (.pointer (some ⟨b,0,none⟩)):=by
 have u:Tryz.prog.underlying 96=some (.pointer 99):=by kernel_rfl
 have u2:Tryz.prog.underlying 210=some .unsafePointer:=by kernel_rfl
 obtain⟨j,hj⟩:∃j,Tryz.prog.info? 99=some j:=Option.isSome_iff_exists.1 (by kernel_rfl)
 have hjs:j.size=2:=by
  have:(Tryz.prog.info? 99).map (·.size)=some 2:=by kernel_rfl
  rw[hj]at this;simpa using this
 go_enter Tryz.func106,Tryz.ntmps106
 go_wp2
 rw[Lib.run_to_unsafe w ⟨b,0,none⟩ u u2 hj (by rw[hjs];decide) hsh hn]
 simp only[Result.andThen];rw[Oper.upon_value]
 go_wp2
 rw[run_callFunc_extern Tryz.func172 (by kernel_rfl) (by kernel_rfl) (by kernel_rfl) (e:=Extern.AbiNoEscape.same) (by kernel_rfl)]
 rw[Lib.run_noEscape];simp only[Result.andThen];rw[Oper.upon_value]
 go_wp2
 rw[Lib.run_from_unsafe w ⟨b,0,none⟩ u2 u hj hsh hl];simp only[Result.andThen];rw[Oper.upon_value]
 go_wp2
 go_end0
 exact⟨rfl,rfl⟩
theorem AC{w:World}{S:Nat→Prop}{pl:Nat→Value}{vs:Array Value}(hsz:vs.size=1)(hv:Rd w S pl (vs.getD 0 undef) (.ptr 1000 0)):∃b,pl 1000=.pointer (some ⟨b,0,none⟩)∧vs= #[.pointer (some ⟨b,0,none⟩)]:=by
 obtain⟨b,e1,e2⟩:=hv;refine⟨b,e1,?_⟩;apply Array.ext
 ·simpa using hsz
 ·intro i h1 h2
  have:i=0:=by omega
  subst this;rw[Array.getD_eq_getD_getElem?,Array.getElem?_eq_getElem h1]at e2
  simpa using e2
theorem NR(ds:List D)(buf:List UInt8)(hlies:∀T,memT BF T (ds.length+1)=true→liesAt Tryz.prog Tryz.prog.depth T ((ds.length+1)/Tryz.prog.cellsOf T) 0 99 1=true):
  xD sW [.ptr 1000 0] [(1000,.cells (.slf 1000::ds)),(2000,.row 5 .byte buf)] (.tup []) [(1000,.cells (.slf 1000::ds)),(2000,.row 5 .byte buf)]:=by
 intro w S vs pl hS hsz hv hh hg;obtain⟨b,e1,rfl⟩:=AC hsz (hv 0 _ rfl);obtain⟨b',cs,T,eb,mb,zb,rb,tb⟩:=hh.ok 1000 _ rfl;rw[e1]at eb;injection eb with eb;injection eb with eb;injection eb with eb;subst eb
 have hT:memT BF T (ds.length+1)=true:=tb rfl;have zb:cs.size=ds.length+1:=zb;have h0:=rb 0 _ rfl
 have hc:w.cell? ⟨b,0,none⟩=some (cs.getD 0 undef):=by
  rw[cell_of_row w b 0 cs T (0,0) mb];simp[Array.getD_eq_getD_getElem?,zb]
 have hpr:=hh.priv 1000 _ b rfl (by rw[e1];rfl)
 rcases h0 with h0|⟨b2,h2,h0⟩
 ·rw[h0]at hc
  have hsh:w.shape? b=some (T,cs.size):=by simp[World.shape?,mb]
  refine(zgi b cs.size T w hc hsh (by omega) (frozen_of_row w b 0 cs T mb) (by rw[zb];exact hlies T hT)).mono λe w' ⟨he,hw⟩=> ?_
  subst hw;have hfar:∀c,c≠b→(w.setCell ⟨b,0,none⟩ (.pointer (some ⟨b,0,none⟩))).heap[c]? =w.heap[c]? :=λc hc=>Below.heap_setCell w ⟨b,0,none⟩ _ c hc
  have hat:wE (w.setCell ⟨b,0,none⟩ (.pointer (some ⟨b,0,none⟩))) b T (cs.setIfInBounds 0 (.pointer (some ⟨b,0,none⟩))):=wE.set_ mb 0 _;refine⟨_,S,pl,he,Rp.rd (.tup _ _ rfl λi d hd=>by simp at hd),⟨λk o ho=> ?_,λk o c ho hc=> ?_,hh.inj⟩,λc hc=>by simpa[World.setCell]using hS c hc,λc hc=> .inl hc,λc h=> .inl h,λ_ _=>rfl,⟨rfl,rfl,rfl,by simp[World.setCell],λc _ hn=>hfar c λe=>hn ⟨1000,_,rfl,by rw[e1,e];rfl⟩⟩⟩
  ·by_cases hk:k=1000
   ·subst hk
    have ho:yI.cells (.slf 1000::ds)=o:=by injection ho
    subst ho;refine⟨b,_,T,e1,hat,by simpa using zb,λi d hd=> ?_,λ_=>hT⟩
    cases i with
    |zero=>
     injection hd with hd;subst hd
     refine .inr ⟨b,e1,?_⟩;simp[Array.getD_eq_getD_getElem?,zb]
    |succ i=>
     have h:=rb (i+1) d hd
     have e:(cs.setIfInBounds 0 (.pointer (some ⟨b,0,none⟩))).getD (i+1) undef=cs.getD (i+1) undef:=by
      rw[Array.getD_eq_getD_getElem?,Array.getD_eq_getD_getElem?,Array.getElem?_setIfInBounds_ne (by omega)]
     rw[e];exact h.mono (λc hc=>hfar c λe=>hpr.2 (e▸hc)) (λ_ h=>h) λ_ _=>rfl
   ·refine(hh.ok k o ho).mono (λc hc=>hfar c λe=>hpr.2 (e▸hc)) (λc hcc=>hfar c λe=>hk (hh.inj k 1000 o _ c ho rfl hcc (by rw[e1,e];rfl))) (λ_ h=>h) λ_ _ _ _=>rfl
  ·have:=hh.priv k o c ho hc
   exact⟨by simpa[World.setCell]using this.1,this.2⟩
 ·rw[e1]at h2;injection h2 with h2;injection h2 with h2;injection h2 with h2;subst h2
  rw[h0]at hc
  refine(zie b w hc).mono λe w' ⟨he,hw⟩=> ?_
  subst hw;exact⟨_,S,pl,he,Rp.rd (.tup _ _ rfl λi d hd=>by simp at hd),hh,hS,λc hc=> .inl hc,λc h=> .inl h,λ_ _=>rfl,⟨rfl,rfl,rfl,Nat.le_refl _,λ_ _ _=>rfl⟩⟩
theorem zbG{w:World}{g n:Nat}{k:Nat}(hk:k≠g):(w.freeze ⟨g,0,none⟩ n).heap[k]? =w.heap[k]? :=by
 unfold World.freeze;split
 ·rfl
 ·simp only[Array.getElem?_modify]
  rw[if_neg (by omega)]
theorem AD{w:World}{g n:Nat}:(w.freeze ⟨g,0,none⟩ n).os=w.os∧(w.freeze ⟨g,0,none⟩ n).tape=w.tape∧(w.freeze ⟨g,0,none⟩ n).output=w.output∧(w.freeze ⟨g,0,none⟩ n).heap.size=w.heap.size:=by
 unfold World.freeze;split
 ·exact⟨rfl,rfl,rfl,rfl⟩
 ·exact⟨rfl,rfl,rfl,by simp⟩
set_option maxHeartbeats 1000000 in
set_option maxRecDepth 100000 in
theorem AE(b g cap:Nat)(l:List UInt8)(cur:Array Value)(w:World)(h0:l≠[])(hc1:w.cell? ⟨b,1,none⟩=some (.slice (some ⟨g,0,none⟩) l.length cap))(hg:w.heap[g]? =some (.cells cur 5 (0,0)))(hcap:cap≠0)(hlen:l.length≤cur.size)(hl:l.length≤9223372036854775807)
  (hcell:∀j x,l[j]? =some x→w.cell? ((⟨g,0,none⟩:Addr).add j)=some (.int .u8 x.toNat)):
  Calls Tryz.prog 60 #[.pointer (some ⟨b,0,none⟩)] w λe w'=>e=.returned (.string ⟨l.toArray⟩)∧w'=w.drew.freeze ⟨g,0,none⟩ l.length:=by
 have c1:w.drew.cell? ⟨b,1,none⟩=some (.slice (some ⟨g,0,none⟩) l.length cap):=hc1;have mixed:Tryz.prog.follows .mixedOrders=true:=by kernel_rfl
 have t174:Tryz.prog.underlying 174=some (.pointer 5):=by kernel_rfl
 have cb:Tryz.prog.cellsOf 5=1:=by kernel_rfl
 have hSD:(Builtin.unsafeSliceData_ #[97] 174 #[.slice (some ⟨g,0,none⟩) l.length cap]).run Tryz.prog w.drew=.ok (.pointer (some ⟨g,0,none⟩)) w.drew:=
  Lib.run_unsafeSliceData_row _ _ _ _ _ _ hcap
 have hUS:(Builtin.unsafeString_ #[174,3] 9 #[.pointer (some ⟨g,0,none⟩),.int .i64 l.length]).run Tryz.prog w.drew=.ok (.string ⟨l.toArray⟩) (w.drew.freeze ⟨g,0,none⟩ l.length):=by
  refine Lib.run_unsafeString_row w.drew 174 3 9 5 t174 cb g cur.size (by have hg':w.drew.heap[g]? =some (.cells cur 5 (0,0)):=hg;simp[World.shape?,hg']) l h0 hlen hl ?_
  exact hcell
 clear hcell hcap
 go_enter Tryz.func60,Tryz.ntmps60
 go_wp2
 go_region_o
 all_goals(go_wp2;go_ret;exact⟨rfl,rfl⟩)
theorem Df{α β:Type}(f:α→β):∀l:List α,(l.map λx=>[f x]).flatten=l.map f
 |[]=>rfl
 |x::r=>by rw[List.map_cons,List.flatten_cons,Df f r];rfl
theorem Ly(d0:D)(ds:List D)(buf:List UInt8)(h0:buf≠[])(hw:yQ (buf.length:Int)):xD wB [.ptr 1000 0] [(1000,.cells (d0:: .own 2000::ds)),(2000,.row 5 .byte buf)] (.str ⟨buf.toArray⟩) []:=by
 intro w S vs pl hS hsz hv hh hg;obtain⟨b,e1,rfl⟩:=AC hsz (hv 0 _ rfl);obtain⟨b',cs,T,eb,mb,zb,rb,tb⟩:=hh.ok 1000 _ rfl;rw[e1]at eb;injection eb with eb;injection eb with eb;injection eb with eb;subst eb
 have zb:cs.size=ds.length+1+1:=zb;have h1:cs.getD 1 undef=pl 2000:=rb 1 _ rfl
 have hc:w.cell? ⟨b,1,none⟩=some (cs.getD 1 undef):=by
  rw[cell_of_row w b 1 cs T (0,0) mb];simp[Array.getD_eq_getD_getElem?,zb]
 obtain⟨hlim,css,l3,h4,h5,h6⟩:=hh.ok 2000 _ rfl;have hlim:buf.length*1≤140737488355328:=hlim
 have hcss:css=buf.map λx=>[Value.int .u8 (x.toNat:Int)]:=by
  apply List.ext_getElem?;intro i;rw[List.getElem?_map];cases hx:buf[i]? with
  |none=>
   have:buf.length≤i:=List.getElem?_eq_none_iff.1 hx;rw[List.getElem?_eq_none (by omega)];rfl
  |some x=>
   have hi:i<buf.length:=(List.getElem?_eq_some_iff.1 hx).1;have hci:css[i]? =some (css[i]'(by omega)):=List.getElem?_eq_getElem (by omega)
   have:css[i]'(by omega)=[Value.int .u8 (x.toNat:Int)]:=h6 i x _ hx hci
   rw[hci,this];rfl
 have hflat:css.flatten=buf.map λx=>Value.int .u8 (x.toNat:Int):=by
  rw[hcss];exact Df _ buf
 have hpos:0<buf.length:=List.length_pos_iff.2 h0;have hcells:=h4;rcases h4.2 with⟨_,hz⟩|⟨g,cap,cur,e2,_,hgg,hnc,hcm,hcs,_⟩
 ·omega
 rw[h1,e2]at hc
 have hcs:cur.size=cap:=by rw[hcs];exact Nat.mul_one _
 refine(AE b g cap buf cur w h0 hc hgg (by omega) (by omega) (by unfold yQ at hw;omega) λj x hx=> ?_).mono λe w' ⟨he,hw'⟩=> ?_
 ·exact hcells.cells (g:=g) (by rw[e2];rfl) j _ (by rw[hflat,List.getElem?_map,hx];rfl)
 ·subst hw'
  obtain⟨f1,f2,f3,f4⟩:=AD (w:=w.drew) (g:=g) (n:=buf.length);have hz:(⟨buf.toArray⟩:ByteArray).size≤140737488355328:=by show buf.toArray.size≤_;rw[List.size_toArray];omega
  refine⟨_,λ_=>False,pl,he,Rp.rd (.str _ hz),⟨λk o h=>(by cases h),λk o b h=>(by cases h),λk k' o o' b h=>(by cases h)⟩,λc h=>h.elim,λc h=>h.elim,λc ⟨k,o,h,_⟩=>(by cases h),λ_ _=>rfl,⟨f1,f2,f3,by rw[f4];exact Nat.le_refl _,λc _ hn=>zbG λe=>hn ⟨2000,_,rfl,by rw[e2,e];rfl⟩⟩⟩
theorem zif(T:TypeId)(n:Nat)(h:memT BF T n=true):n=2∧T=99∨n=6∧T=101:=by
 unfold BF memT at h
 cases h1:Nat.beq 99 T&&Nat.beq 2 n with
 |true=>
  rw[Bool.and_eq_true]at h1
  exact .inl ⟨(Nat.eq_of_beq_eq_true h1.2).symm,(Nat.eq_of_beq_eq_true h1.1).symm⟩
 |false=>
  simp only[h1,cond_false]at h
  unfold memT at h
  cases h2:Nat.beq 101 T&&Nat.beq 6 n with
  |true=>
   rw[Bool.and_eq_true]at h2
   exact .inr ⟨(Nat.eq_of_beq_eq_true h2.2).symm,(Nat.eq_of_beq_eq_true h2.1).symm⟩
  |false=>simp only[h2,cond_false]at h;cases h
theorem ziX(T:TypeId)(n:Nat)(h:memT BF T n=true):liesAt Tryz.prog Tryz.prog.depth T (n/Tryz.prog.cellsOf T) 0 99 1=true:=by
 rcases zif T n h with⟨rfl,rfl⟩|⟨rfl,rfl⟩<;>kernel_rfl
theorem kA{n:Int}(h:yQ n):(kW n).size≤21:=by
 have:=Lib.itoa_length_le n h.1 h.2;simpa[kW,ByteArray.size]using this
theorem AF:∃g,Tryz.prog.globalNamed "internal/strconv.uint64pow10" =some g:=Option.isSome_iff_exists.1 (by kernel_rfl)
theorem fj{n:Int}(h:yQ n):uG zZ [dI n] (.str (kW n)):=by
 intro w S vs hS hl hv hg;obtain⟨g,hgn⟩:=AF;have htab:=(hg g hgn).1;obtain⟨e0,hz⟩:=(hv 0 _ rfl).int_inv
 have e:vs= #[.int .i64 n]:=by
  have hl:vs.size=1:=hl;apply Array.ext
  ·simpa using hl
  ·intro i h1 h2
   have:i=0:=by omega
   subst this;simpa[Array.getD_eq_getD_getElem?,h1]using e0
 subst e;refine(Tryz.strconv_Itoa n h.1 h.2 w htab).mono λe w' ⟨he,k,os,hw⟩=> ?_
 subst hw;exact⟨_,he,.str (kW n) (Nat.le_trans (kA h) (by decide)),Lib.below_grow _ w (Nat.le_refl _) k os⟩
abbrev Up(mvs:List zO)(mcs:List zF)(goal mvar:Int)(buf:List UInt8):List (Nat×yI):=
 [(1000,.cells [.slf 1000,.own 2000,.sl .var mvs,.sl .con mcs,dI goal,dI mvar]),(2000,.row 5 .byte buf)]
theorem zbH{s:ByteArray}(h:Wd 1 s.data.toList=true):s.size≤12:=by
 have hz:s.size=s.data.toList.length:=rfl;rw[hz];cases hd:s.data.toList with
 |nil=>simp
 |cons c r=>
  rw[hd]at h
  simp only[Wd,Bool.and_eq_true,decide_eq_true_eq]at h
  obtain⟨⟨⟨_,h1⟩,h2⟩,h3⟩:=h;have h1:(yS (c::r)).1=1:=by omega
  rw[h1,h2]at h3
  unfold pC at h3
  rw[if_neg (by decide)]at h3
  by_cases h4:(c::r).length>12
  ·rw[if_pos (.inl ⟨rfl,h4⟩)]at h3;cases h3
  ·omega
theorem zd4{s:ByteArray}(h:zU s=true):s.size≤12:=by
 unfold zU at h
 rw[Bool.and_eq_true]at h
 exact zbH h.1
structure AG (m:zD):Prop where
 right:Right m
 names:∀v∈m.vars,v.name.size≤12
 cons:∀c∈m.cons,vB c m.vars.length
theorem AH{vs:List zO}(h:UO vs=0):∀v∈vs,zU v.name=true:=λv hv=>by
 obtain⟨i,hi,rfl⟩:=List.getElem_of_mem hv;have:=T3 vs 0 h i hi;unfold FK at this
 split at this
 ·exact absurd this (by decide)
 ·rename_i h;cases hb:zU vs[i].name with
  |true=>rfl
  |false=>exact absurd hb h
theorem AJ{m:zD}(h:yR m=0):UO m.vars=0:=by
 unfold yR at h
 split at h
 ·exact absurd h (by decide)
 split at h
 ·exact absurd h (by decide)
 split at h
 ·rename_i h1;exact absurd h h1
 ·rename_i h1;exact Decidable.of_not_not h1
theorem zkf{m:zD}(h:yR m=0):AG m:=
 ⟨qH h,λv hv=>zd4 (AH (AJ h) v hv),λc hc=>Ln (qH h).vars ((qH h).con c hc)⟩
theorem jK{n:Int}(h: -1000≤n∧n≤1000):yQ n:=by unfold yQ;omega
theorem fk{n:Int}(h: -1000≤n∧n≤1000):(kW n).size≤21:=kA (jK h)
theorem gL{vs:List zO}(h:∀v∈vs,v.name.size≤12)(i:Int):(OS vs i).size≤12:=by
 unfold OS;rcases Nat.lt_or_ge i.toNat vs.length with hi|hi
 ·rw[atN (t:=.var) hi];exact h _ (List.getElem_mem hi)
 ·show(vs.getD i.toNat Ty.var.dflt).name.size≤12
  rw[List.getD_eq_getElem?_getD,List.getElem?_eq_none hi];decide
theorem Uq{l:List Int}(h:∀n∈l,-1000≤n∧n≤1000):(bZ l).size≤l.length*23+2:=by
 have:=NQ (l:=l.map kW) (B:=21) λx hx=>by
  obtain⟨y,hy,rfl⟩:=List.mem_map.1 hx;exact fk (h y hy)
 rw[List.length_map]at this
 exact this
theorem Wv{vs:List zO}(h:∀v∈vs,v.name.size≤12)(l:List Int):(Ys vs l).size≤l.length*14+2:=by
 have:=NQ (l:=l.map (OS vs)) (B:=12) λx hx=>by
  obtain⟨y,hy,rfl⟩:=List.mem_map.1 hx;exact gL h y
 rw[List.length_map]at this
 exact this
theorem AK(o:Int):(opS o).size≤2:=by
 unfold opS;rcases Nat.lt_or_ge (o-1).toNat 4 with h|h
 ·have h:(o-1).toNat=0∨(o-1).toNat=1∨(o-1).toNat=2∨(o-1).toNat=3:=by omega
  rcases h with h|h|h|h<;>rw[h]<;>decide
 ·show(opW.getD (o-1).toNat Ty.str.dflt).size≤2
  rw[List.getD_eq_getElem?_getD,List.getElem?_eq_none (by exact h)];decide
theorem AL(k:Int):(Ee k).size≤7:=by
 unfold Ee;rcases Nat.lt_or_ge (k-1).toNat 10 with h|h
 ·have h:(k-1).toNat=0∨(k-1).toNat=1∨(k-1).toNat=2∨(k-1).toNat=3∨(k-1).toNat=4∨(k-1).toNat=5∨(k-1).toNat=6∨(k-1).toNat=7∨(k-1).toNat=8∨(k-1).toNat=9:=by omega
  rcases h with h|h|h|h|h|h|h|h|h|h<;>rw[h]<;>decide
 ·show(QI.getD (k-1).toNat Ty.str.dflt).size≤7
  rw[List.getD_eq_getElem?_getD,List.getElem?_eq_none (by exact h)];decide
theorem RS{vs:List zO}(h:∀v∈vs,v.name.size≤12){x:zC}(hn: -1000≤x.n∧x.n≤1000):(Og vs x).size≤37:=by
 have h1:=gL h x.var;have h2:=AK x.op;have h3:=fk hn;unfold Og;simp only[ByteArray.size_append,mT,List.size_toArray,List.length_cons,List.length_nil];omega
theorem HM{nv:Nat}{x:zC}(h:gU nv x=0):(0≤x.var∧x.var<nv)∧(1≤x.op∧x.op≤4)∧-1000≤x.n∧x.n≤1000:=by
 unfold gU at h
 split at h
 ·exact absurd h (by decide)
 split at h
 ·exact absurd h (by decide)
 split at h
 ·exact absurd h (by decide)
 rename_i h1 h2 h3;simp[rA,farB,jF]at h1 h2 h3
 omega
theorem C7{w:World}{S:Nat→Prop}{A:Option Addr}{n c:Nat}{xs:List ByteArray}(h:aX w S (.slice A n c) xs)(hn:0<xs.length):
  ∃b o,A=some ⟨b,o,none⟩∧S b∧∀j x,xs[j]? =some x→w.cell? ⟨b,o+j,none⟩=some (.string x):=by
 obtain⟨b,o,rfl,hb,_⟩:=Pt h hn;refine⟨b,o,rfl,hb,λj x hx=> ?_⟩
 obtain⟨hj,rfl⟩:=List.getElem?_eq_some_iff.1 hx;obtain⟨b',o',e,_,hc,_⟩:=Pt h hj;injection e with e;injection e with e1 e2
 subst e1 e2;exact hc
theorem zig(xs:List ByteArray)(sep:ByteArray)(hlen:(Lib.join (xs.map λx=>x.data.toList) sep.data.toList).length≤140737488355328):
  uG oD [.sl .str xs,.str sep] (.str ⟨(Lib.join (xs.map λx=>x.data.toList) sep.data.toList).toArray⟩):=by
 intro w S vs hS hl hv _;have h0:=(hv 0 _ rfl).sl_inv;obtain⟨e1,_⟩:=(hv 1 _ rfl).str_inv;have hl:vs.size=2:=hl;obtain⟨A',c',e2,hsl⟩:=uO h0;rw[e2]at h0
 have e:vs= #[.slice A' xs.length c',.string sep]:=by
  apply Array.ext
  ·simpa using hl
  ·intro i h1 h2
   have:i=0∨i=1:=by omega
   rcases this with rfl|rfl
   ·simpa[Array.getD_eq_getD_getElem?,h1]using e2
   ·simpa[Array.getD_eq_getD_getElem?,h1]using e1
 subst e
 have hz:(⟨(Lib.join (xs.map λx=>x.data.toList) sep.data.toList).toArray⟩:ByteArray).size≤140737488355328:=by
  show(Lib.join (xs.map λx=>x.data.toList) sep.data.toList).toArray.size≤_
  rw[List.size_toArray];exact hlen
 by_cases hx:xs=[]
 ·subst hx
  refine(Tryz.strings_Join_none A' c' sep w).mono λe w' ⟨he,hw⟩=> ?_
  subst hw;exact⟨_,he,.str _ hz,Below.refl _ _⟩
 ·have hpos:0<xs.length:=List.length_pos_iff.2 hx
  obtain⟨b,o,rfl,hb,hc⟩:=C7 h0 hpos
  have hlim:xs.length≤140737488355328:=by
   have h1:=(I4 (Rp.sl .str xs _ h0)).1;have h1:xs.length*16≤140737488355328:=h1;omega
  exact(Tryz.strings_Join b o c' xs sep w hc (hS b hb) hlim hsl.cap hlen).mono λe w' ⟨he,hw⟩=>⟨_,he,.str _ hz,hw⟩
theorem Ef:uG gV [] (.sl .str QI):=SD λok=>by rw[Pe];rfl
theorem NS{l:List ByteArray}{B:Nat}(h:∀x∈l,x.size≤B)(hB:B≤1000000)(hl:l.length≤1000000):uG oD [.sl .str l,.str ⟨#[44,32]⟩] (XV .str ⟨(Lib.join (l.map λx=>x.data.toList) [44,32]).toArray⟩)∧(⟨(Lib.join (l.map λx=>x.data.toList) [44,32]).toArray⟩:ByteArray).size≤1000000*1000002:=by
 have h1:=HL (sep:=[44,32]) (B:=B) (l.map λx=>x.data.toList) λx hx=>by
  obtain⟨y,hy,rfl⟩:=List.mem_map.1 hx;exact h y hy
 rw[List.length_map,show([44,32]:List UInt8).length=2 from rfl]at h1
 have h2:=Nat.mul_le_mul hl (show B+2≤1000002 by omega)
 refine⟨zig l _ (by show(Lib.join (l.map λx=>x.data.toList) [44,32]).length≤_;omega),?_⟩
 rw[mT,List.size_toArray];omega
theorem Xy{mvs:List zO}{mcs:List zF}{goal mvar:Int}{buf:List UInt8}{n:Int}(h:0≤n∧n<mvs.length):xD zY [.ptr 1000 0,dI n] (Up mvs mcs goal mvar buf) (.str (OS mvs n)) (Up mvs mcs goal mvar buf):=
 P4 _ _ _ _ _ _ λok ok2=>by
  rw[NC];exact⟨vE.2 ⟨h.1,by omega⟩,rfl,rfl⟩
theorem Oh(xs:List Int)(hx:xs.length≤1000000)(hy:∀n∈xs,-1000≤n∧n≤1000):xD vQ [.sl .int xs,.clo zZ none []] [] (.str (bZ xs)) []:=
 Qo _ λok ok2=>by
  have hl:xs.length≤9223372036854775807:=by omega
  rw[P5]
  have hb:∀x∈xs.map (kW),x.size≤21:=λx hx=>by
   obtain⟨y,hy,rfl⟩:=List.mem_map.1 hx;exact fk (‹∀n∈xs,-1000≤n∧n≤1000› y hy)
  refine up (I:=λn v (a:List ByteArray)=>lQ xs _ n v a) (a:=[]) 0 xs.length rfl (Nat.zero_le _) hl (λk a=>a=(xs.take k).map (kW)) rfl λn k a _ hk ha hn=> ?_
  subst ha;rw[Tv]
  by_cases hlt:k<xs.length
  ·rw[yK hlt,zX (t:=.int) hlt]
   have hnx:=hn hlt _ (Z1 (kW) hlt).symm;have hroom:wD .str (((xs.take k).map (kW)).length+[(kW) xs[k]].length)=true:=xX (t:=.str) (by rw[List.length_map,List.length_take];show(_+1)*16≤_;omega)
   exact⟨zM hlt,zG (t:=.str) (fj (jK (hy _ (List.getElem_mem hlt)))) ⟨hroom,hnx⟩⟩
  ·have e:k=xs.length:=by omega
   subst e;rw[zW,List.take_length];obtain⟨h1,h2⟩:=NS hb (by decide) (by rw[List.length_map];exact hx)
   refine zG (t:=.str) h1 ⟨?_,?_,rfl,rfl⟩
   ·simp only[ByteArray.size_append,mT,List.size_toArray,List.length_cons,List.length_nil]at h2⊢;omega
   ·simp only[ByteArray.size_append,mT,List.size_toArray,List.length_cons,List.length_nil]at h2⊢;omega
theorem qL{mvs:List zO}{mcs:List zF}{goal mvar:Int}{buf:List UInt8}(hnm:∀v∈mvs,v.name.size≤12)(xs:List Int)(hx:xs.length≤1000000)(hy:∀n∈xs,0≤n∧n<mvs.length):xD vQ [.sl .int xs,.clp zY true 1000 0] (Up mvs mcs goal mvar buf) (.str (Ys mvs xs)) (Up mvs mcs goal mvar buf):=
 Qp _ _ _ _ _ _ λok ok2=>by
  have hl:xs.length≤9223372036854775807:=by omega
  rw[P6]
  have hb:∀x∈xs.map (OS mvs),x.size≤12:=λx hx=>by
   obtain⟨y,hy,rfl⟩:=List.mem_map.1 hx;exact gL hnm y
  refine up (I:=λn v (a:List ByteArray)=>lR xs mvs mcs goal mvar _ n v a buf) (a:=[]) 0 xs.length rfl (Nat.zero_le _) hl (λk a=>a=(xs.take k).map (OS mvs)) rfl λn k a _ hk ha hn=> ?_
  subst ha;rw[Tw]
  by_cases hlt:k<xs.length
  ·rw[yK hlt,zX (t:=.int) hlt]
   have hnx:=hn hlt _ (Z1 (OS mvs) hlt).symm;have hroom:wD .str (((xs.take k).map (OS mvs)).length+[(OS mvs) xs[k]].length)=true:=xX (t:=.str) (by rw[List.length_map,List.length_take];show(_+1)*16≤_;omega)
   exact⟨zM hlt,_,Xy (hy _ (List.getElem_mem hlt)),hroom,hnx⟩
  ·have e:k=xs.length:=by omega
   subst e;rw[zW,List.take_length];obtain⟨h1,h2⟩:=NS hb (by decide) (by rw[List.length_map];exact hx)
   refine zG (t:=.str) h1 ⟨?_,?_,rfl,rfl⟩
   ·simp only[ByteArray.size_append,mT,List.size_toArray,List.length_cons,List.length_nil]at h2⊢;omega
   ·simp only[ByteArray.size_append,mT,List.size_toArray,List.length_cons,List.length_nil]at h2⊢;omega
theorem eE(xs:List Int)(hx:xs.length≤1000000)(hy:∀n∈xs,-1000≤n∧n≤1000):uG xS [.sl .int xs] (.str (bZ xs)):=
 Uk xs λok=>by
  rw[Tu];exact⟨_,Oh xs hx hy,rfl⟩
theorem zgj:cE xS:=λargs w=>Tryz.call108 args w
theorem Oi(xs:List (List Int))(hx:xs.length≤1000)(hz:∀r∈xs,r.length≤1000)(hy:∀r∈xs,∀n∈r,-1000≤n∧n≤1000):uG iI [dS xs,.clo xS none []] (.str (brS (xs.map bZ))):=
 Yl.clo (pre:=[_]) (Qq xs xS [] λok=>by
  have hl:xs.length≤9223372036854775807:=by omega
  rw[P7]
  have hb:∀x∈xs.map bZ,x.size≤23002:=λx hx=>by
   obtain⟨y,hy',rfl⟩:=List.mem_map.1 hx;have:=Uq (hy y hy');have:=hz y hy';omega
  refine up (I:=λn v (a:List ByteArray)=>lS xs xS [] _ n v a) (a:=[]) 0 xs.length rfl (Nat.zero_le _) hl (λk a=>a=(xs.take k).map bZ) rfl λn k a _ hk ha hn=> ?_
  subst ha;rw[Tx]
  by_cases hlt:k<xs.length
  ·rw[yK hlt,zX (t:=.list .int) hlt]
   have hnx:=hn hlt _ (Z1 bZ hlt).symm;have hroom:wD .str (((xs.take k).map bZ).length+[bZ xs[k]].length)=true:=xX (t:=.str) (by rw[List.length_map,List.length_take];show(_+1)*16≤_;omega)
   exact⟨zM hlt,zgj,zG (t:=.str) (eE _ (by have:=hz _ (List.getElem_mem hlt);omega) (hy _ (List.getElem_mem hlt))) ⟨hroom,hnx⟩⟩
  ·have e:k=xs.length:=by omega
   subst e;rw[zW,List.take_length];obtain⟨h1,h2⟩:=NS hb (by decide) (by rw[List.length_map];omega)
   refine zG (t:=.str) h1 ⟨?_,?_,rfl⟩
   ·simp only[ByteArray.size_append,mT,List.size_toArray,List.length_cons,List.length_nil]at h2⊢;omega
   ·simp only[ByteArray.size_append,mT,List.size_toArray,List.length_cons,List.length_nil]at h2⊢;omega)
theorem AM{n:Int}(h:1≤n∧n≤1000):yW (n-1)=n-1:=rE (by omega) (by omega)
theorem NT{mvs:List zO}{mcs:List zF}{goal mvar:Int}{buf:List UInt8}(hnm:∀v∈mvs,v.name.size≤12){x:zC}(hx:gU mvs.length x=0):xD vC [.ptr 1000 0,dL x] (Up mvs mcs goal mvar buf) (.str (Og mvs x)) (Up mvs mcs goal mvar buf):=
 SE _ _ _ _ _ _ λok ok2=>by
  obtain⟨h1,h2,h3⟩:=HM hx;rw[Qr,AM (by omega)]
  have z1:=gL hnm x.var;have z2:=AK x.op;have z3:=fk h3;have z2:(zR .str ([(⟨#[60,61]⟩:ByteArray),(⟨#[62,61]⟩:ByteArray),(⟨#[61,61]⟩:ByteArray),(⟨#[33,61]⟩:ByteArray)]) ((x.op-1).toNat)).size≤2:=z2;refine⟨vE.2 ⟨by omega,by show x.op-1<((4:Nat):Int);omega⟩,_,Xy h1,?_,?_,?_,zG (t:=.str) (fj (jK h3)) ⟨?_,rfl,rfl⟩⟩
  all_goals(simp only[ByteArray.size_append,mT,List.size_toArray,List.length_cons,List.length_nil];omega)
theorem Ur{mvs:List zO}{mcs:List zF}{goal mvar:Int}{buf:List UInt8}(hnm:∀v∈mvs,v.name.size≤12)(xs:List zC)(hx:xs.length≤1000000)(hy:∀x∈xs,gU mvs.length x=0):xD mC [.sl .lit xs,.clp vC true 1000 0] (Up mvs mcs goal mvar buf) (.str (brS (xs.map (Og mvs)))) (Up mvs mcs goal mvar buf):=
 Vr _ _ _ _ _ _ λok ok2=>by
  have hl:xs.length≤9223372036854775807:=by omega
  rw[Ul]
  have hb:∀x∈xs.map (Og mvs),x.size≤37:=λx hx=>by
   obtain⟨y,hy,rfl⟩:=List.mem_map.1 hx;exact RS hnm (HM (‹∀x∈xs,gU mvs.length x=0› y hy)).2.2
  refine up (I:=λn v (a:List ByteArray)=>om xs _ n v a mvs mcs goal mvar buf) (a:=[]) 0 xs.length rfl (Nat.zero_le _) hl (λk a=>a=(xs.take k).map (Og mvs)) rfl λn k a _ hk ha hn=> ?_
  subst ha;rw[X2]
  by_cases hlt:k<xs.length
  ·rw[yK hlt,zX (t:=.lit) hlt]
   have hnx:=hn hlt _ (Z1 (Og mvs) hlt).symm;have hroom:wD .str (((xs.take k).map (Og mvs)).length+[(Og mvs) xs[k]].length)=true:=xX (t:=.str) (by rw[List.length_map,List.length_take];show(_+1)*16≤_;omega)
   exact⟨zM hlt,_,NT hnm (hy _ (List.getElem_mem hlt)),hroom,hnx⟩
  ·have e:k=xs.length:=by omega
   subst e;rw[zW,List.take_length];obtain⟨h1,h2⟩:=NS hb (by decide) (by rw[List.length_map];exact hx)
   refine zG (t:=.str) h1 ⟨?_,?_,rfl,rfl⟩
   ·simp only[ByteArray.size_append,mT,List.size_toArray,List.length_cons,List.length_nil]at h2⊢;omega
   ·simp only[ByteArray.size_append,mT,List.size_toArray,List.length_cons,List.length_nil]at h2⊢;omega
theorem HU{c:zF}{nv:Nat}(h:vB c nv):c.kind=1∨c.kind=2∨c.kind=3∨c.kind=4∨c.kind=5∨c.kind=6∨c.kind=7∨c.kind=8∨c.kind=9∨c.kind=10:=by
 have:=h.kind;omega
theorem HW{c:zF}{nv:Nat}(h:vB c nv):(c.kind=5→c.vars.length=2)∧(c.kind=7→c.vars.length=3)∧(c.kind=8→2≤c.vars.length)∧(c.kind=10→c.vars.length=1∧c.lits.length=1)∧(c.kind=6→∀r∈c.rows,r.length=c.vars.length):=by
 have hf:=h.form;refine⟨λhk=> ?_,λhk=> ?_,λhk=> ?_,λhk=> ?_,λhk=> ?_⟩<;>unfold We at hf<;>simp[hk]at hf
 ·exact hf.2.1.1.1
 ·exact hf.2.1.1.1
 ·exact hf.2.1.1.1
 ·exact⟨hf.2.1.1.1,hf.2.2⟩
 ·exact hf.2.1.1.1
theorem zgk{vs:List zO}{c:zF}(hk:c.kind=1):Xx vs c=(((((Ee c.kind++⟨#[32]⟩)++bZ c.consts)++⟨#[32]⟩)++Ys vs c.vars)++⟨#[32]⟩)++kW c.n:=by
 unfold Xx;rw[if_pos (by omega)]
theorem zgl{vs:List zO}{c:zF}(hk:c.kind=2):Xx vs c=(((((Ee c.kind++⟨#[32]⟩)++bZ c.consts)++⟨#[32]⟩)++Ys vs c.vars)++⟨#[32]⟩)++kW c.n:=by
 unfold Xx;rw[if_pos (by omega)]
theorem zgm{vs:List zO}{c:zF}(hk:c.kind=3):Xx vs c=(((((Ee c.kind++⟨#[32]⟩)++bZ c.consts)++⟨#[32]⟩)++Ys vs c.vars)++⟨#[32]⟩)++kW c.n:=by
 unfold Xx;rw[if_pos (by omega)]
theorem zgn{vs:List zO}{c:zF}(hk:c.kind=4):Xx vs c=(Ee c.kind++⟨#[32]⟩)++Ys vs c.vars:=by
 unfold Xx;rw[if_neg (by omega),if_pos hk]
theorem zgo{vs:List zO}{c:zF}(hk:c.kind=5):Xx vs c=(((((Ee c.kind++⟨#[32]⟩)++bZ c.consts)++⟨#[32]⟩)++OS vs (zR .int c.vars 0))++⟨#[32]⟩)++OS vs (zR .int c.vars 1):=by
 unfold Xx;rw[if_neg (by omega),if_neg (by omega),if_pos hk]
theorem zgp{vs:List zO}{c:zF}(hk:c.kind=6):Xx vs c=(((Ee c.kind++⟨#[32]⟩)++Ys vs c.vars)++⟨#[32]⟩)++brS (c.rows.map bZ):=by
 unfold Xx;rw[if_neg (by omega),if_neg (by omega),if_neg (by omega),if_pos hk]
theorem zgq{vs:List zO}{c:zF}(hk:c.kind=7):Xx vs c=(((((Ee c.kind++⟨#[32]⟩)++OS vs (zR .int c.vars 0))++⟨#[32]⟩)++OS vs (zR .int c.vars 1))++⟨#[32]⟩)++OS vs (zR .int c.vars 2):=by
 unfold Xx;rw[if_neg (by omega),if_neg (by omega),if_neg (by omega),if_neg (by omega),if_pos hk]
theorem zgr{vs:List zO}{c:zF}(hk:c.kind=8):Xx vs c=(((Ee c.kind++⟨#[32]⟩)++OS vs (zR .int c.vars 0))++⟨#[32]⟩)++Ys vs (c.vars.drop 1):=by
 unfold Xx;rw[if_neg (by omega),if_neg (by omega),if_neg (by omega),if_neg (by omega),if_neg (by omega),if_pos hk]
theorem zgs{vs:List zO}{c:zF}(hk:c.kind=9):Xx vs c=(Ee c.kind++⟨#[32]⟩)++brS (c.lits.map (Og vs)):=by
 unfold Xx;rw[if_neg (by omega),if_neg (by omega),if_neg (by omega),if_neg (by omega),if_neg (by omega),if_neg (by omega),if_pos hk]
theorem zc7{vs:List zO}{c:zF}(hk:c.kind=10):Xx vs c=(((Ee c.kind++⟨#[32]⟩)++OS vs (zR .int c.vars 0))++⟨#[32]⟩)++Og vs (zR .lit c.lits 0):=by
 unfold Xx;rw[if_neg (by omega),if_neg (by omega),if_neg (by omega),if_neg (by omega),if_neg (by omega),if_neg (by omega),if_neg (by omega)]
theorem zgt{l:List Int}{i:Nat}(h:i<l.length):zR .int l i∈l:=by rw[atN (t:=.int) h];exact List.getElem_mem h
theorem HX{l:List zC}{i:Nat}(h:i<l.length):zR .lit l i∈l:=by rw[atN (t:=.lit) h];exact List.getElem_mem h
theorem Dg{c:zF}{nv:Nat}(h:vB c nv)(hk:c.kind=6):(brS (c.rows.map bZ)).size≤1922:=by
 have hl:=(HW h).2.2.2.2 hk;have hm:=h.many
 have:=NQ (l:=c.rows.map bZ) (B:=94) λx hx=>by
  obtain⟨r,hr,rfl⟩:=List.mem_map.1 hx;have:=Uq (h.rows r hr);have:=hl r hr;omega
 rw[List.length_map]at this
 omega
theorem Dh{vs:List zO}(hnm:∀v∈vs,v.name.size≤12){c:zF}(h:vB c vs.length):(brS (c.lits.map (Og vs))).size≤158:=by
 have hm:=h.many
 have:=NQ (l:=c.lits.map (Og vs)) (B:=37) λx hx=>by
  obtain⟨r,hr,rfl⟩:=List.mem_map.1 hx;exact RS hnm (HM (h.lits r hr)).2.2
 rw[List.length_map]at this
 omega
theorem Di{vs:List zO}(hnm:∀v∈vs,v.name.size≤12){c:zF}(h:vB c vs.length):(Xx vs c).size≤2000:=by
 have z0:(Ee c.kind).size≤7:=AL c.kind;have z1:=Uq h.consts;have z2:=Wv hnm c.vars;have z3:=fk h.n;have z4:=gL hnm (zR .int c.vars 0);have z5:=gL hnm (zR .int c.vars 1);have z6:=gL hnm (zR .int c.vars 2);have z7:=Wv hnm (c.vars.drop 1);have z8:=Dh hnm h;have hd:(c.vars.drop 1).length=c.vars.length-1:=List.length_drop;have hm:=h.many;have hf:=HW h;rcases HU h with hk|hk|hk|hk|hk|hk|hk|hk|hk|hk
 ·rw[zgk hk]
  simp only[ByteArray.size_append,mT,List.size_toArray,List.length_cons,List.length_nil];omega
 ·rw[zgl hk]
  simp only[ByteArray.size_append,mT,List.size_toArray,List.length_cons,List.length_nil];omega
 ·rw[zgm hk]
  simp only[ByteArray.size_append,mT,List.size_toArray,List.length_cons,List.length_nil];omega
 ·rw[zgn hk]
  simp only[ByteArray.size_append,mT,List.size_toArray,List.length_cons,List.length_nil];omega
 ·rw[zgo hk]
  simp only[ByteArray.size_append,mT,List.size_toArray,List.length_cons,List.length_nil];omega
 ·rw[zgp hk]
  have z9:=Dg h hk;simp only[ByteArray.size_append,mT,List.size_toArray,List.length_cons,List.length_nil];omega
 ·rw[zgq hk]
  simp only[ByteArray.size_append,mT,List.size_toArray,List.length_cons,List.length_nil];omega
 ·rw[zgr hk]
  simp only[ByteArray.size_append,mT,List.size_toArray,List.length_cons,List.length_nil];omega
 ·rw[zgs hk]
  simp only[ByteArray.size_append,mT,List.size_toArray,List.length_cons,List.length_nil];omega
 ·rw[zc7 hk]
  have z9:=RS hnm (HM (h.lits _ (HX (i:=0) (by have:=hf.2.2.2.1 hk;omega)))).2.2
  simp only[ByteArray.size_append,mT,List.size_toArray,List.length_cons,List.length_nil];omega
theorem C8{mvs:List zO}{mcs:List zF}{goal mvar:Int}{buf:List UInt8}(hnm:∀v∈mvs,v.name.size≤12){c:zF}(h:vB c mvs.length):xD lH [.ptr 1000 0,dC c] (Up mvs mcs goal mvar buf) (.str (Xx mvs c)) (Up mvs mcs goal mvar buf):=
 SB _ _ _ _ _ _ λok ok2=>by
  have hkk:=h.kind;have z0:(zR .str QI (c.kind-1).toNat).size≤7:=AL c.kind;have z1:=Uq h.consts;have z2:=Wv hnm c.vars;have z3:=fk h.n;have z4:=gL hnm (zR .int c.vars 0);have z5:=gL hnm (zR .int c.vars 1);have z6:=gL hnm (zR .int c.vars 2);have z7:=Wv hnm (c.vars.drop 1);have z8:=Dh hnm h;have hd:(c.vars.drop 1).length=c.vars.length-1:=List.length_drop;have hm:=h.many;have hf:=HW h;rw[Qn];refine zG (t:=.list .str) Ef ?_;rw[AM (by omega)]
  refine⟨vE.2 ⟨by omega,by show c.kind-1<((10:Nat):Int);omega⟩,(by simp only[ByteArray.size_append,mT,List.size_toArray,List.length_cons,List.length_nil];omega),?_⟩
  have hv:=h.vars;have vo:∀i,i<c.vars.length→xD zY [.ptr 1000 0,dI (zR .int c.vars i)] (Up mvs mcs goal mvar buf) (.str (OS mvs (zR .int c.vars i))) (Up mvs mcs goal mvar buf):=λi hi=>Xy (hv _ (zgt hi))
  rcases HU h with hk|hk|hk|hk|hk|hk|hk|hk|hk|hk
  ·exact dt hk (zG (t:=.str) (eE c.consts (by omega) h.consts) ⟨(by simp only[ByteArray.size_append,mT,List.size_toArray,List.length_cons,List.length_nil];omega),(by simp only[ByteArray.size_append,mT,List.size_toArray,List.length_cons,List.length_nil];omega),_,qL hnm c.vars (by omega) h.vars,(by simp only[ByteArray.size_append,mT,List.size_toArray,List.length_cons,List.length_nil];omega),(by simp only[ByteArray.size_append,mT,List.size_toArray,List.length_cons,List.length_nil];omega),zG (t:=.str) (fj (jK h.n)) ⟨(by simp only[ByteArray.size_append,mT,List.size_toArray,List.length_cons,List.length_nil];omega),congrArg D.str (zgk hk).symm,rfl⟩⟩)
  ·exact df (by omega) (dt hk (zG (t:=.str) (eE c.consts (by omega) h.consts) ⟨(by simp only[ByteArray.size_append,mT,List.size_toArray,List.length_cons,List.length_nil];omega),(by simp only[ByteArray.size_append,mT,List.size_toArray,List.length_cons,List.length_nil];omega),_,qL hnm c.vars (by omega) h.vars,(by simp only[ByteArray.size_append,mT,List.size_toArray,List.length_cons,List.length_nil];omega),(by simp only[ByteArray.size_append,mT,List.size_toArray,List.length_cons,List.length_nil];omega),zG (t:=.str) (fj (jK h.n)) ⟨(by simp only[ByteArray.size_append,mT,List.size_toArray,List.length_cons,List.length_nil];omega),congrArg D.str (zgl hk).symm,rfl⟩⟩))
  ·exact df (by omega) (df (by omega) (dt hk (zG (t:=.str) (eE c.consts (by omega) h.consts) ⟨(by simp only[ByteArray.size_append,mT,List.size_toArray,List.length_cons,List.length_nil];omega),(by simp only[ByteArray.size_append,mT,List.size_toArray,List.length_cons,List.length_nil];omega),_,qL hnm c.vars (by omega) h.vars,(by simp only[ByteArray.size_append,mT,List.size_toArray,List.length_cons,List.length_nil];omega),(by simp only[ByteArray.size_append,mT,List.size_toArray,List.length_cons,List.length_nil];omega),zG (t:=.str) (fj (jK h.n)) ⟨(by simp only[ByteArray.size_append,mT,List.size_toArray,List.length_cons,List.length_nil];omega),congrArg D.str (zgm hk).symm,rfl⟩⟩)))
  ·exact df (by omega) (df (by omega) (df (by omega) (dt hk (⟨_,qL hnm c.vars (by omega) h.vars,(by simp only[ByteArray.size_append,mT,List.size_toArray,List.length_cons,List.length_nil];omega),congrArg D.str (zgn hk).symm,rfl⟩))))
  ·have hlen:=hf.1 hk
   exact df (by omega) (df (by omega) (df (by omega) (df (by omega) (dt hk (zG (t:=.str) (eE c.consts (by omega) h.consts) ⟨(by simp only[ByteArray.size_append,mT,List.size_toArray,List.length_cons,List.length_nil];omega),(by simp only[ByteArray.size_append,mT,List.size_toArray,List.length_cons,List.length_nil];omega),zM (k:=0) (by omega),zM (k:=1) (by omega),_,vo 0 (by omega),(by simp only[ByteArray.size_append,mT,List.size_toArray,List.length_cons,List.length_nil];omega),(by simp only[ByteArray.size_append,mT,List.size_toArray,List.length_cons,List.length_nil];omega),_,vo 1 (by omega),(by simp only[ByteArray.size_append,mT,List.size_toArray,List.length_cons,List.length_nil];omega),congrArg D.str (zgo hk).symm,rfl⟩)))))
  ·have z9:=Dg h hk
   exact df (by omega) (df (by omega) (df (by omega) (df (by omega) (df (by omega) (dt hk (⟨_,qL hnm c.vars (by omega) h.vars,(by simp only[ByteArray.size_append,mT,List.size_toArray,List.length_cons,List.length_nil];omega),(by simp only[ByteArray.size_append,mT,List.size_toArray,List.length_cons,List.length_nil];omega),zG (t:=.str) (Oi c.rows (by omega) (λr hr=>by have:=hf.2.2.2.2 hk r hr;omega) h.rows) ⟨(by simp only[ByteArray.size_append,mT,List.size_toArray,List.length_cons,List.length_nil];omega),congrArg D.str (zgp hk).symm,rfl⟩⟩))))))
  ·have hlen:=hf.2.1 hk
   exact df (by omega) (df (by omega) (df (by omega) (df (by omega) (df (by omega) (df (by omega) (dt hk (⟨zM (k:=0) (by omega),zM (k:=1) (by omega),zM (k:=2) (by omega),_,vo 0 (by omega),(by simp only[ByteArray.size_append,mT,List.size_toArray,List.length_cons,List.length_nil];omega),(by simp only[ByteArray.size_append,mT,List.size_toArray,List.length_cons,List.length_nil];omega),_,vo 1 (by omega),(by simp only[ByteArray.size_append,mT,List.size_toArray,List.length_cons,List.length_nil];omega),(by simp only[ByteArray.size_append,mT,List.size_toArray,List.length_cons,List.length_nil];omega),_,vo 2 (by omega),(by simp only[ByteArray.size_append,mT,List.size_toArray,List.length_cons,List.length_nil];omega),congrArg D.str (zgq hk).symm,rfl⟩)))))))
  ·have hlen:=hf.2.2.1 hk
   rw[show(c.vars.take (c.vars.length:Int).toNat)=c.vars from by rw[Int.toNat_natCast,List.take_length]]
   exact df (by omega) (df (by omega) (df (by omega) (df (by omega) (df (by omega) (df (by omega) (df (by omega) (dt hk ((λh=>⟨zM (k:=0) (by omega),by unfold R4;simp;omega,h,h⟩) ⟨_,vo 0 (by omega),(by simp only[ByteArray.size_append,mT,List.size_toArray,List.length_cons,List.length_nil];omega),(by simp only[ByteArray.size_append,mT,List.size_toArray,List.length_cons,List.length_nil];omega),_,qL hnm (c.vars.drop 1) (by omega) (λx hx=>hv x (List.mem_of_mem_drop hx)),(by simp only[ByteArray.size_append,mT,List.size_toArray,List.length_cons,List.length_nil];omega),congrArg D.str (zgr hk).symm,rfl⟩))))))))
  ·exact df (by omega) (df (by omega) (df (by omega) (df (by omega) (df (by omega) (df (by omega) (df (by omega) (df (by omega) (dt hk (⟨_,Ur hnm c.lits (by omega) h.lits,(by simp only[ByteArray.size_append,mT,List.size_toArray,List.length_cons,List.length_nil];omega),congrArg D.str (zgs hk).symm,rfl⟩)))))))))
  ·have hlen:=hf.2.2.2.1 hk
   have z9:=RS hnm (HM (h.lits _ (HX (i:=0) (by omega)))).2.2
   exact df (by omega) (df (by omega) (df (by omega) (df (by omega) (df (by omega) (df (by omega) (df (by omega) (df (by omega) (df (by omega) (⟨zM (k:=0) (by omega),zM (k:=0) (by omega),_,vo 0 (by omega),(by simp only[ByteArray.size_append,mT,List.size_toArray,List.length_cons,List.length_nil];omega),(by simp only[ByteArray.size_append,mT,List.size_toArray,List.length_cons,List.length_nil];omega),_,NT hnm (h.lits _ (HX (i:=0) (by omega))),(by simp only[ByteArray.size_append,mT,List.size_toArray,List.length_cons,List.length_nil];omega),congrArg D.str (zc7 hk).symm,rfl⟩)))))))))
theorem HY{mvs:List zO}{mcs:List zF}{goal mvar:Int}{buf:List UInt8}(s:ByteArray)(h:buf.length+s.size≤140737488355328):xD zN [.ptr 1000 0,.str s] (Up mvs mcs goal mvar buf) (.tup [dI (s.size:Int),.undef]) (Up mvs mcs goal mvar (buf++s.data.toList)):=
 cY _ _ _ _ _ _ λok ok2=>by
  rw[bX];exact⟨NR _ _ (λT h=>ziX T _ h),xX (t:=.byte) (by show(_+_)*1≤_;omega),rfl,rfl⟩
theorem Dj{v:zO}(h:v.name.size≤12)(h1: -50≤v.lo∧v.hi≤50∧v.lo≤v.hi∧v.hi-v.lo<6):(zbF v).size≤64:=by
 have z1:=fk (n:=v.lo) (by omega);have z2:=fk (n:=v.hi) (by omega)
 unfold zbF;simp only[ByteArray.size_append,mT,List.size_toArray,List.length_cons,List.length_nil];omega
theorem Lz{α:Type}{f:α→List UInt8}{B:Nat}:∀(l:List α),(∀x∈l,(f x).length≤B)→(l.flatMap f).length≤l.length*B
 |[],_=>by simp
 |x::r,h=>by
  have ih:=Lz r λy hy=>h y (List.mem_cons_of_mem _ hy)
  have:=h x List.mem_cons_self;rw[List.flatMap_cons,List.length_append,List.length_cons,Nat.succ_mul];omega
theorem Dk{m:zD}(h:AG m)(k:Nat):(aA (m.vars.take k)).length≤384:=by
 have:=Lz (f:=λv=>(zbF v).data.toList) (B:=64) (m.vars.take k) λv hv=>Dj (h.names v (List.mem_of_mem_take hv)) (h.right.var v (List.mem_of_mem_take hv))
 have:=h.right.vars;have h3:(m.vars.take k).length≤6:=by rw[List.length_take];omega
 have:=Nat.mul_le_mul_right 64 h3;unfold aA;omega
theorem Dl{m:zD}(h:AG m){c:zF}(hc:c∈m.cons):(AB m.vars c).size≤2006:=by
 have:=Di h.names (h.cons c hc);unfold AB;simp only[ByteArray.size_append,mT,List.size_toArray,List.length_cons,List.length_nil];omega
theorem zd5{m:zD}(h:AG m)(k:Nat):(U4 m.vars (m.cons.take k)).length≤16048:=by
 have:=Lz (f:=λc=>(AB m.vars c).data.toList) (B:=2006) (m.cons.take k) λc hc=>Dl h (List.mem_of_mem_take hc)
 have:=h.right.cons;have h3:(m.cons.take k).length≤8:=by rw[List.length_take];omega
 have:=Nat.mul_le_mul_right 2006 h3;unfold U4;omega
theorem Dm{α:Type}(f:α→List UInt8){l:List α}{k:Nat}(h:k<l.length):(l.take (k+1)).flatMap f=(l.take k).flatMap f++f l[k]:=by
 rw[←List.take_append_getElem h,List.flatMap_append];simp
theorem zbI{m:zD}(h:AG m):m.goal=0∨(m.goal=1∨m.goal=2)∧0≤m.var∧m.var<m.vars.length:=by
 have hg:=h.right.goal;unfold Yu at hg
 split at hg
 ·exact absurd hg (by decide)
 rename_i h1;split at hg
 ·exact absurd hg (by decide)
 rename_i h2;split at hg
 ·exact absurd hg (by decide)
 rename_i h3;simp[jF]at h1
 by_cases h0:m.goal=0
 ·exact .inl h0
 ·refine .inr ⟨by omega,?_⟩
  have h3:rA m.vars.length m.var=false:=by
   cases hb:rA m.vars.length m.var with
   |false=>rfl
   |true=>exact absurd ⟨h0,hb⟩ h3
  simp[rA,jF]at h3
  omega
theorem HZ{m:zD}(h:AG m){R:D→Prop}(hR:R (.tup [.str (zgh m),dI 0])):∃n,eD m R n 0 m.vars m.cons m.goal m.var (aA m.vars):=by
 have hc8:=h.right.cons;have hv6:=h.right.vars;refine up (I:=λn v (buf:List UInt8)=>eD m R n v m.vars m.cons m.goal m.var buf) (a:=aA m.vars) 0 m.cons.length rfl (Nat.zero_le _) (by omega) (λk buf=>buf=aA m.vars++U4 m.vars (m.cons.take k)) (by simp[U4]) λn k buf _ hk ha hn=> ?_
 subst ha;have hl1:=Dk h m.vars.length;rw[List.take_length]at hl1
 have hl2:=zd5 h k;rw[Lo]
 by_cases hlt:k<m.cons.length
 ·rw[yK hlt,zX (t:=.con) hlt]
  have hmem:=List.getElem_mem hlt;have hz:=Di h.names (h.cons _ hmem);have hz2:=Dl h hmem;have hw:=HY (mvs:=m.vars) (mcs:=m.cons) (goal:=m.goal) (mvar:=m.var) (buf:=aA m.vars++U4 m.vars (m.cons.take k)) (AB m.vars m.cons[k]) (by rw[List.length_append];omega)
  refine⟨zM hlt,_,C8 h.names (h.cons _ hmem),?_,?_,_,_,hw,hn hlt _ ?_⟩
  ·simp only[ByteArray.size_append,mT,List.size_toArray,List.length_cons,List.length_nil];omega
  ·simp only[ByteArray.size_append,mT,List.size_toArray,List.length_cons,List.length_nil];omega
  ·unfold U4;rw[Dm _ hlt,List.append_assoc]
 ·have e:k=m.cons.length:=by omega
  subst e;rw[zW,List.take_length];rw[List.take_length]at hl2
  have hnm:=gL h.names m.var;have hpl:zgg m=aA m.vars++U4 m.vars m.cons++(De m).data.toList:=rfl;have hlen:(aA m.vars++U4 m.vars m.cons).length≤16432:=by rw[List.length_append];omega
  have fin:∀s:ByteArray,De m=s→s.size≤100→s≠⟨#[]⟩→∃(w1:Int) (w2:List UInt8),xD zN [.ptr 1000 0,.str s] (Up m.vars m.cons m.goal m.var (aA m.vars++U4 m.vars m.cons)) (.tup [dI w1,.undef]) (Up m.vars m.cons m.goal m.var w2)∧
    ∃t:ByteArray,xD wB [.ptr 1000 0] (Up m.vars m.cons m.goal m.var w2) (.str t) []∧R (.tup [.str t,dI 0]):=λs hs h1 h2=>by
   have hne:aA m.vars++U4 m.vars m.cons++s.data.toList≠[]:=λe=>h2 (by
    have:s.data.toList=[]:=(List.append_eq_nil_iff.1 e).2;have h3:s.size=0:=by have:s.size=s.data.toList.length:=rfl;simp_all
    exact ByteArray.size_eq_zero_iff.1 h3)
   have hll:(aA m.vars++U4 m.vars m.cons++s.data.toList).length≤20000:=by
    rw[List.length_append];have:s.data.toList.length=s.size:=rfl;omega
   refine⟨_,_,HY s (by omega),_,Ly _ _ _ hne (by unfold yQ;omega),?_⟩
   rw[←hs];exact hR
  rcases zbI h with hg|⟨hg|hg,hv⟩
  ·exact dt hg (fin _ (by unfold De;rw[if_pos hg]) (by decide) (by decide))
  ·refine df (by omega) (dt hg ⟨_,Xy hv,?_,?_,fin _ (by unfold De;rw[if_neg (by omega),if_pos hg]) ?_ ?_⟩)
   ·simp only[ByteArray.size_append,mT,List.size_toArray,List.length_cons,List.length_nil];omega
   ·simp only[ByteArray.size_append,mT,List.size_toArray,List.length_cons,List.length_nil];omega
   ·simp only[ByteArray.size_append,mT,List.size_toArray,List.length_cons,List.length_nil];omega
   ·intro e;have:=congrArg ByteArray.size e;simp only[ByteArray.size_append,mT,List.size_toArray,List.length_cons,List.length_nil]at this;omega
  ·refine df (by omega) (df (by omega) (dt hg ⟨_,Xy hv,?_,?_,fin _ (by unfold De;rw[if_neg (by omega),if_neg (by omega)]) ?_ ?_⟩))
   ·simp only[ByteArray.size_append,mT,List.size_toArray,List.length_cons,List.length_nil];omega
   ·simp only[ByteArray.size_append,mT,List.size_toArray,List.length_cons,List.length_nil];omega
   ·simp only[ByteArray.size_append,mT,List.size_toArray,List.length_cons,List.length_nil];omega
   ·intro e;have:=congrArg ByteArray.size e;simp only[ByteArray.size_append,mT,List.size_toArray,List.length_cons,List.length_nil]at this;omega
def C9(m:zD):ByteArray:=if yR m=0 then zgh m else⟨#[]⟩
theorem Eg(m:zD):uG YF [dM m] (.tup [XV .str (C9 m),XV .int (yR m)]):=
 HE m λok=>by
  rw[Ea];refine zG (t:=.int) (pG m) ?_;unfold C9
  by_cases hc:yR m=0
  ·rw[if_pos hc]
   refine BA hc ?_;have h:=zkf hc;have hv6:=h.right.vars;refine up (I:=λn v (buf:List UInt8)=>rD m _ n v m.vars m.cons m.goal m.var buf) (a:=[]) 0 m.vars.length rfl (Nat.zero_le _) (by omega) (λk buf=>buf=aA (m.vars.take k)) (by simp[aA]) λn k buf _ hk ha hn=> ?_
   subst ha;have hl1:=Dk h k;rw[Lp]
   by_cases hlt:k<m.vars.length
   ·rw[yK hlt,zX (t:=.var) hlt]
    have hmem:=List.getElem_mem hlt;have hr:=h.right.var _ hmem;have hs:=h.names _ hmem;have z1:=fk (n:=m.vars[k].lo) (by omega);have z2:=fk (n:=m.vars[k].hi) (by omega)
    have hlo:=fj (n:=m.vars[k].lo) (jK (by omega))
    have hhi:=fj (n:=m.vars[k].hi) (jK (by omega))
    have hz:=Dj hs hr;have hw:=HY (mvs:=m.vars) (mcs:=m.cons) (goal:=m.goal) (mvar:=m.var) (buf:=aA (m.vars.take k)) (zbF m.vars[k]) (by omega)
    have hnx:=hn hlt _ (show aA (m.vars.take k)++(zbF m.vars[k]).data.toList=aA (m.vars.take (k+1)) by unfold aA;rw[Dm _ hlt])
    refine⟨zM hlt,?_⟩;have fin:∃(w1:Int) (w2:List UInt8),xD zN [.ptr 1000 0,.str (zbF m.vars[k])] (Up m.vars m.cons m.goal m.var (aA (m.vars.take k))) (.tup [dI w1,.undef]) (Up m.vars m.cons m.goal m.var w2)∧rD m _ n (yW ((k:Int)+1)) m.vars m.cons m.goal m.var w2:=⟨_,_,hw,hnx⟩
    repeat'(first|exact fin|(simp only[ByteArray.size_append,mT,List.size_toArray,List.length_cons,List.length_nil];omega)|(refine zG (t:=.str) hlo ?_)|(refine zG (t:=.str) hhi ?_)|(refine And.intro ?_ ?_))
   ·have e:k=m.vars.length:=by omega
    subst e;rw[zW,List.take_length];exact HZ h (by rw[hc];rfl)
  ·rw[if_neg hc]
   exact dnt hc rfl

theorem Ba{l:zC}:(iV l).var=l.var:=by
 unfold iV;split
 ·rfl
 split
 ·rfl
 split<;>rfl
theorem Dn{l:zC}(h:1≤l.op∧l.op≤4)(n:Int):holdsL (iV l) n= !holdsL l n:=by
 have h3:l.op=1∨l.op=2∨l.op=3∨l.op=4:=by omega
 rcases h3 with h|h|h|h<;>simp[iV,holdsL,h]<;>first|rfl|(rw[←decide_not];exact decide_eq_decide.2 (by omega))|(exact decide_eq_decide.2 (by omega))|omega
theorem NU{α:Type}{p:α→Bool}:∀ {r:List α},(r.filter p).length+(r.filter λx=> !p x).length=r.length
 |[]=>rfl
 |a::r=>by
  have:=NU (p:=p) (r:=r);rw[List.filter_cons,List.filter_cons];cases p a<;>simp<;>omega
def aB:xP:= {own:=[6],live:=[(0,([2,11,12,13],[]))],n:=24}
def dA(a:zD)(b:List zC)(R:xK)(c:Nat)(d:Int):Prop:=LP aB Tryz.f126 [1,1,0,1,0,0] 0 c ⟨[(2,.iptr (Sn a []) 0),(11,.sl .lit b),(12,dI (b.length:Int)),(13,dI d)],[]⟩ (zQ 0 (sK aB Tryz.f126 [1,1,1] 0 (eK Tryz.f126 R)))
theorem Xz(c:zD)(a:List zC)(R:xK)(d:Nat)(b:Int):dA c a R (d+1) b=
 (zP (decide (b<(a.length:Int)))
 (wI b a.length=true∧
 yY Wh [dM c,dL (zR .lit a b.toNat)] .int λe=>
 zP (!decide (e=0))
 (R (dI e))
 (dA c a R d (yW (b+1))))
 (R (dI 0))):=by kernel_rfl
theorem Ju(b:zD)(a:List zC)(R:xK):FD aB Tryz.f126 [dM b,.sl .lit a] R=
 (zP (decide (40<(a.length:Int)))
 (R (dI 2))
 (∃n0,dA b a R n0 0)):=by kernel_rfl
theorem LA(a:zD)(b:List zC):xL aB Tryz.f126 hJ [dM a,.sl .lit b]:=xO Tryz.func126 (by kernel_rfl) Tryz.ntmps126 rfl
def Vu:xP:= {own:=[],live:=[],n:=8}
theorem NV(a:List (List Int))(b:List zC)(R:xK):FD Vu Tryz.f189 [dS a,.sl .lit b] R=
 (yY uR [dS a,.clo lM none [.iptr [.sl .lit b] 0]] (.list (.list .int)) λc=>
 R (dS c)):=by kernel_rfl
theorem Oj(a:List (List Int))(b:List zC):xL Vu Tryz.f189 mI [dS a,.sl .lit b]:=xO Tryz.func189 (by kernel_rfl) Tryz.ntmps189 rfl
def YQ:xP:= {own:=[5,7,8],live:=[(0,([0,3,5,13,14,15],[5]))],n:=44}
def jL(b:List (List Int))(a:List zC)(R:xK)(c:Nat)(d e:Int):Prop:=LP YQ Tryz.f200 [1,1,1,0,1,0,0] 0 c ⟨[(0,dS b),(3,.iptr [.sl .lit a] 0),(5,.ptr 5 0),(13,.sl .lit a),(14,dI (a.length:Int)),(15,dI d)],[(5,.cells [dI e])]⟩ (zQ 0 (sK YQ Tryz.f200 [1,1,1,1] 0 (eK Tryz.f200 R)))
theorem LB(c:List (List Int))(a:List zC)(R:xK)(e:Nat)(b d:Int):jL c a R (e+1) b d=
 (zP (decide (b<(a.length:Int)))
 (wI b a.length=true∧
 yY Ub [dS c,dL (zR .lit a b.toNat)] .int λf=>
 zP (decide (f<0))
 (jL c a R e (yW (b+1)) d)
 (zP (decide (0≤d))
 (zP (!decide (d=((zR .lit a b.toNat).var)))
 (yY mW [dS c] (.list (.list .int)) λg=>
 R (dS g))
 (jL c a R e (yW (b+1)) ((zR .lit a b.toNat).var)))
 (jL c a R e (yW (b+1)) ((zR .lit a b.toNat).var))))
 (zP (decide (d<0))
 (yY wZ [dS c] (.list (.list .int)) λh=>
 R (dS h))
 (yY uR [dS c,.clo bL none [.iptr [dI d] 0,.iptr [.clo mJ none [.iptr [.sl .lit a] 0,.iptr [dI d] 0]] 0]] (.list (.list .int)) λi=>
 R (dS i)))):=by kernel_rfl
theorem Eh(a:List (List Int))(b:List zC)(R:xK):FD YQ Tryz.f200 [dS a,.sl .lit b] R=
 (yY yT [dS a] .bool λc=>
 zP c
 (yY mW [dS a] (.list (.list .int)) λd=>
 R (dS d))
 (∃n0,jL a b R n0 0 (-1))):=by kernel_rfl
theorem H1(a:List (List Int))(b:List zC):xL YQ Tryz.f200 lK [dS a,.sl .lit b]:=xO Tryz.func200 (by kernel_rfl) Tryz.ntmps200 rfl
def XA:xP:= {own:=[],live:=[],n:=10}
theorem QJ(a b:Int)(c:List zC)(R:xK):FD XA Tryz.f239 [dI a,dI b,.iptr [.sl .lit c] 0] R=
 (yY xV [.sl .lit c,.clo o8 none [.iptr [dI a] 0,.iptr [dI b] 0]] .bool λd=>
 R (dB (!d))):=by kernel_rfl
theorem SV(a b:Int)(c:List zC):xL XA Tryz.f239 lM [dI a,dI b,.iptr [.sl .lit c] 0]:=xO Tryz.func239 (by kernel_rfl) Tryz.ntmps239 rfl
def Z9:xP:= {own:=[],live:=[],n:=14}
theorem TF(a:zC)(b c:Int)(R:xK):FD Z9 Tryz.f241 [dL a,.iptr [dI b] 0,.iptr [dI c] 0] R=
 (zP (decide (a.var=b))
 (yY mU [dL a,dI c] .bool λd=>
 R (dB d))
 (R (dB false))):=by kernel_rfl
theorem Us(a:zC)(b c:Int):xL Z9 Tryz.f241 o8 [dL a,.iptr [dI b] 0,.iptr [dI c] 0]:=xO Tryz.func241 (by kernel_rfl) Tryz.ntmps241 rfl
def SW:xP:= {own:=[],live:=[],n:=8}
theorem Jv(a:Int)(b:List zC)(c:Int)(R:xK):FD SW Tryz.f253 [dI a,.iptr [.sl .lit b] 0,.iptr [dI c] 0] R=
 (yY xV [.sl .lit b,.clo gW none [.iptr [dI c] 0,.iptr [dI a] 0]] .bool λd=>
 R (dB d)):=by kernel_rfl
theorem LC(a:Int)(b:List zC)(c:Int):xL SW Tryz.f253 mJ [dI a,.iptr [.sl .lit b] 0,.iptr [dI c] 0]:=xO Tryz.func253 (by kernel_rfl) Tryz.ntmps253 rfl
def Vv:xP:= {own:=[],live:=[],n:=14}
theorem NW(a:zC)(b c:Int)(R:xK):FD Vv Tryz.f254 [dL a,.iptr [dI b] 0,.iptr [dI c] 0] R=
 (zP (decide (a.var=b))
 (yY mU [dL a,dI c] .bool λd=>
 R (dB d))
 (R (dB false))):=by kernel_rfl
theorem Ok(a:zC)(b c:Int):xL Vv Tryz.f254 gW [dL a,.iptr [dI b] 0,.iptr [dI c] 0]:=xO Tryz.func254 (by kernel_rfl) Tryz.ntmps254 rfl
def SX:xP:= {own:=[],live:=[],n:=15}
theorem Jw(b c d:Int)(a:FuncId)(e:List D)(R:xK):FD SX Tryz.f255 [dI b,dI c,.iptr [dI d] 0,.iptr [.clo a (some [.bool]) e] 0] R=
 (zP (!decide (b=d))
 (R (dB true))
 (cE a∧
 yY a ([dI c]++e) .bool λf=>
 R (dB f))):=by kernel_rfl
theorem LD(a b c:Int)(d:FuncId)(e:List D):xL SX Tryz.f255 bL [dI a,dI b,.iptr [dI c] 0,.iptr [.clo d (some [.bool]) e] 0]:=xO Tryz.func255 (by kernel_rfl) Tryz.ntmps255 rfl
theorem Ol(l:List Int):xD uJ [.sl .int l] [] (.own 3000) [(3000,.row 3 .int l)]:=
 Xl l λok _=>by
  rw[XX];intro b hb;refine zA (λe=> ?_) λe=>⟨?_,?_⟩
  ·rw[hb e];exact⟨rfl,rfl⟩
  ·refine xX (t:=.int) ?_
   have:=(YE (t:=.int) (ME ok)).1;show(0+l.length)*8≤_
   have h8:l.length*8≤140737488355328:=this;omega
  ·exact⟨rfl,rfl⟩
theorem aC(s:List (List Int)):uG mW [dS s] (dS s):=
 F5 s λok=>by
  have hs:Uj s:=YE (ME ok);have hsl:=RR hs;rw[CY];refine up (I:=λn v a=>YP s _ n v a) 0 s.length rfl (Nat.zero_le _) (by omega) (λk a=>a=s.take k) rfl λn k a _ hk ha hn=> ?_
  subst ha;rw[Jp]
  by_cases h:k<s.length
  ·rw[yK h,zX (t:=.list .int) h]
   refine⟨zM h,_,Ol _,xX (t:=.list .int) ?_,hn h _ (List.take_append_getElem h)⟩;rw[List.length_take];show(_+1)*24≤_
   omega
  ·have hk':k=s.length:=by omega
   subst hk';rw[zW,List.take_length]
def kX(s:List (List Int)):List (List Int):=List.replicate s.length []
theorem fl(s:List (List Int)):uG wZ [dS s] (dS (kX s)):=
 Nx s λok=>by
  have hs:Uj s:=YE (ME ok);have hsl:=RR hs;rw[Lj];refine⟨rfl,by omega,xX (t:=.list .int) ?_,rfl⟩
  rw[Int.toNat_natCast];show _*24≤_
  omega
def yJ(nv:Nat)(c:List zC):Int:=if 40<c.length then 2 else xU (λ_ l=>gU nv l) 0 c
theorem U5(m:zD)(c:List zC):uG hJ [dM m,.sl .lit c] (dI (yJ m.vars.length c)):=
 LA m c λok=>by
  rw[Ju];refine zA (λe=> ?_) λe=> ?_
  ·exact sT (if_pos (by simp at e;omega))
  have e:¬40<c.length:=by simp at e;omega
  rw[show yJ m.vars.length c=xU (λ_ l=>gU m.vars.length l) 0 c from if_neg e]
  refine zdW (I:=λn v=>dA m c _ n v) c (λ_ l=>gU m.vars.length l) (by omega) (X:=λx=>D.int .i64 x=dI (xU (λ_ l=>gU m.vars.length l) 0 c)) (Y:=D.int .i64 0=dI (xU (λ_ l=>gU m.vars.length l) 0 c)) (λ_=>rfl) (λe=>sT e) (λn k h _ hX hn=> ?_) λn hY=> ?_
  ·rw[Xz,yK h,zX (t:=.lit) h]
   exact⟨zM h,zG (C2 m _) (zA (λe=>hX (pP e)) λe=>hn (tZ e))⟩
  ·rw[Xz,zW];exact hY
theorem aD{nv:Nat}{c:List zC}(h:yJ nv c=0):c.length≤40∧∀l∈c,gU nv l=0:=by
 unfold yJ at h
 split at h
 ·exact absurd h (by decide)
 rename_i h1;refine⟨by omega,λl hl=> ?_⟩
 obtain⟨i,hi,rfl⟩:=List.getElem_of_mem hl;exact dP h hi
def sY(c:List zC)(vs:List Int):Bool:=c.any λl=>holdsL l (vs.getD l.var.toNat 0)
def atC(c:List zC)(v n:Int):Bool:=c.any λl=>if l.var=v then holdsL l n else false
theorem NX(l:zC)(v n:Int):uG gW [dL l,.iptr [dI v] 0,.iptr [dI n] 0] (dB (if l.var=v then holdsL l n else false)):=
 Ok l v n λok=>by
  rw[NW];refine zA (λe=> ?_) λe=> ?_
  ·rw[if_pos (of_decide_eq_true e)];exact zG (bU l n) rfl
  ·rw[if_neg (of_decide_eq_false e)]
theorem Jx(n:Int)(c:List zC)(v:Int):uG mJ [dI n,.iptr [.sl .lit c] 0,.iptr [dI v] 0] (dB (atC c v n)):=
 LC n c v λok=>by
  rw[Jv];exact zG (rN PZ λl _=>NX l v n) rfl
theorem Jy(w n v:Int)(c:List zC):uG bL [dI w,dI n,.iptr [dI v] 0,.iptr [.clo mJ none [.iptr [.sl .lit c] 0,.iptr [dI v] 0]] 0] (dB (!decide (w=v)||atC c v n)):=
 Yl.iclo (pre:=[_,_,_]) (LD w n v mJ [.iptr [.sl .lit c] 0,.iptr [dI v] 0] λok=>by
  rw[Jw];refine zA (λe=> ?_) λe=>⟨Ld,zG (Jx n c v) ?_⟩
  ·rw[e];rfl
  ·rw[e];rfl)
theorem TG(l:zC)(v n:Int):uG o8 [dL l,.iptr [dI v] 0,.iptr [dI n] 0] (dB (if l.var=v then holdsL l n else false)):=
 Us l v n λok=>by
  rw[TF];refine zA (λe=> ?_) λe=> ?_
  ·rw[if_pos (of_decide_eq_true e)];exact zG (bU l n) rfl
  ·rw[if_neg (of_decide_eq_false e)]
theorem QL(v n:Int)(c:List zC):uG lM [dI v,dI n,.iptr [.sl .lit c] 0] (dB (!atC c v n)):=
 SV v n c λok=>by
  rw[QJ];exact zG (rN Uf λl _=>TG l v n) rfl
def fD(s:List (List Int))(c:List zC):List (List Int):=rX (λv n=> !atC c v n) s
theorem Ww(s:List (List Int))(c:List zC):uG mI [dS s,.sl .lit c] (dS (fD s c)):=
 Oj s c λok=>by
  rw[NV];exact zG (eC (f:=λv n=> !atC c v n) Sw λv hv n hn=>QL v n c) rfl
def zgu(s:List (List Int))(c:List zC)(one:Int):List (List Int):=rX (λv n=> !decide ((v:Int)=one)||atC c one n) s
def LE(s:List (List Int))(c:List zC):List zC→Int→List (List Int)
 |[],one=>if one<0 then kX s else zgu s c one
 |l::ls,one=>if Wr s l<0 then LE s c ls one else if 0≤one∧one≠l.var then s else LE s c ls l.var
def Zd(s:List (List Int))(c:List zC):List (List Int):=if zT s=true then s else LE s c c (-1)
theorem Ei{s:List (List Int)}{c:List zC}(hc:∀l∈c,0≤l.var∧l.var<s.length):uG lK [dS s,.sl .lit c] (dS (Zd s c)):=
 H1 s c λok=>by
  have hl:c.length≤9223372036854775807:=cB (t:=.lit) (ME (okR ok));rw[Eh];refine zG (wG s) (zA (λe=> ?_) λe=> ?_)
  ·rw[Zd,if_pos e]
   exact zG (aC s) rfl
  rw[Zd,if_neg (by rw[e];decide)]
  refine up (I:=λn v a=>jL s c _ n v a) 0 c.length rfl (Nat.zero_le _) (by omega) (λk a=>LE s c (c.drop k) a=LE s c c (-1)) (by rw[List.drop_zero]) λn k a _ hk ha hn=> ?_
  rw[LB]
  by_cases h:k<c.length
  ·rw[yK h,zX (t:=.lit) h]
   rw[List.drop_eq_getElem_cons h,LE]at ha
   refine⟨zM h,zG (Ar (hc _ (List.getElem_mem h))) (zA (λe=> ?_) λe=> ?_)⟩
   ·rw[if_pos (of_decide_eq_true e)]at ha
    exact hn h _ ha
   rw[if_neg (of_decide_eq_false e)]at ha
   refine zA (λf=>zA (λg=> ?_) λg=> ?_) λf=> ?_
   ·rw[if_pos ⟨of_decide_eq_true f,by simpa using g⟩]at ha
    rw[←ha];exact zG (aC s) rfl
   ·rw[if_neg (λx=>x.2 (by simpa using g))]at ha
    exact hn h _ ha
   ·rw[if_neg (λx=>of_decide_eq_false f x.1)]at ha
    exact hn h _ ha
  ·have hk':k=c.length:=by omega
   subst hk';rw[List.drop_length,LE]at ha
   rw[zW,←ha];refine zA (λe=> ?_) λe=> ?_
   ·rw[if_pos (of_decide_eq_true e)]
    exact zG (fl s) rfl
   ·rw[if_neg (of_decide_eq_false e)]
    exact zG (eC (f:=λv n=> !decide ((v:Int)=a)||atC c a n) Le λv hv n hn=>Jy v n a c) rfl

theorem H3{c:zF}{vs:List Int}{nv:Nat}(hc:vB c nv)(hv:UX vs nv)(hk:c.kind≤3){I:Nat→Int→Int→Prop}{b:Bool}(hb:wH c vs=b)
  (hI:∀n a (k:Nat),I (n+1) a k=zP (decide ((k:Int)<(c.consts.length:Int)))
   (wI (k:Int) c.consts.length=true∧yY yF [dI k,.iptr [.sl .int vs] 0,.iptr [.int .i64 c.kind,.sl .int c.vars,.sl .int c.consts,.int .i64 c.n,.sl (.list .int) c.rows,.sl .lit c.lits] 0] .int λm3=>
    I n (yW (a+(yW ((zR .int c.consts (k:Int).toNat)*m3)))) (yW ((k:Int)+1)))
   (yY mV [dC c,dI a] .bool λm4=>D.bool m4=dB b)):∃n,I n 0 0:=by
 subst hb;have hm:=hc.many;have hfc:=(hc.formC).sums hk;have hxl:(uW c vs).length=c.vars.length:=lP;have hz:(c.consts.zip (uW c vs)).length=c.consts.length:=by rw[List.length_zip];omega
 have hnear:∀x∈c.consts.zip (uW c vs),(-1000≤x.1∧x.1≤1000)∧-50≤x.2∧x.2≤50:=λx hx=>⟨hc.consts _ (List.of_mem_zip hx).1,P2 hv _ (List.of_mem_zip hx).2⟩
 refine up (I:=λn v a=>I n a v) 0 c.consts.length rfl (Nat.zero_le _) (by omega) (λk a=>a=Qm ((c.consts.zip (uW c vs)).take k)) (by rw[List.take_zero];rfl) λn k a _ hk2 ha hn=> ?_
 subst ha;rw[hI]
 by_cases h:k<c.consts.length
 ·have hkv:k<c.vars.length:=by omega
  have hkz:k<(c.consts.zip (uW c vs)).length:=by omega
  have h1:=hc.consts _ (List.getElem_mem h);have h2:=P2 (c:=c) hv _ (List.getElem_mem (show k<(uW c vs).length by omega))
  have h3:=HA h1 h2;have h4:=zgd λx hx=>hnear x (List.mem_of_mem_take (i:=k) hx)
  rw[List.length_take]at h4
  rw[yK h,zX (t:=.int) h];refine⟨zM h,zG (vR hc hv hkv) (hn h _ ?_)⟩;rw[zd0 hkz,List.getElem_zip,rE (n:=_*_) (by omega) (by omega),rE (by omega) (by omega)]
 ·have hk':k=c.consts.length:=by omega
  subst hk';rw[zW];refine zG (Nz c _) ?_;rw[List.take_of_length_le (by omega)]
  have hkk:=hc.kind;have:c.kind=1∨c.kind=2∨c.kind=3:=by omega
  rcases this with e|e|e<;>simp[wH,e]
theorem zd6{c:zF}{vs:List Int}{nv:Nat}(hc:vB c nv)(hv:UX vs nv):uG xH [.sl .lit c.lits,.clo rG none [.iptr [.sl .int vs] 0]] (dB (c.lits.any λl=>holdsL l (vs.getD l.var.toNat 0))):=
 rW (p:=λl=>holdsL l (vs.getD l.var.toNat 0)) M9 λl hl=>UY (hc.lits l hl) hv
theorem eF{c:zF}{vs:List Int}{nv:Nat}(hc:vB c nv)(hv:UX vs nv):uG lI [dC c,.sl .int vs] (dB (wH c vs)):=
 Hi c vs λok=>by
  obtain⟨hk1,hk2⟩:=hc.kind;have hm:=hc.many;have hf:=hc.formC;have hxl:(uW c vs).length=c.vars.length:=lP;have hnear:=P2 (c:=c) hv;have hx:∀ {k:Nat} (h:k<c.vars.length),(uW c vs).getD k 0=(uW c vs)[k]:=λh=>yA _ (by omega)
  rw[FV];refine zA (λe=> ?_) λe1=>zA (λe=> ?_) λe2=>zA (λe=> ?_) λe3=>zA (λe=> ?_) λe4=>zA (λe=> ?_) λe5=>zA (λe=> ?_) λe6=>zA (λe=> ?_) λe7=>zA (λe=> ?_) λe8=>zA (λe=> ?_) λe9=> ?_
  ·have e:=of_decide_eq_true e
   exact H3 hc hv (by omega) (I:=λn a v=>ZG c vs _ n a v) rfl λn a k=>by rw[MY]
  ·have e:=of_decide_eq_true e
   exact H3 hc hv (by omega) (I:=λn a v=>eW c vs _ n a v) rfl λn a k=>by rw[PX]
  ·have e:=of_decide_eq_true e
   exact H3 hc hv (by omega) (I:=λn a v=>eY c vs _ n a v) rfl λn a k=>by rw[PY]
  ·have e:=of_decide_eq_true e
   have ht:wH c vs=decide (uW c vs).Nodup:=by simp[wH,e]
   refine up (I:=λn v a=>ZH c vs _ n v a) 0 c.vars.length rfl (Nat.zero_le _) (by omega) (λk a=>a.map (λe=>e.1)=dQ [] ((uW c vs).take k)) (by rw[List.take_zero];rfl) λn k a _ hkl ha hn=> ?_
   have hal:a.length=(dQ [] ((uW c vs).take k)).length:=by rw[←ha,List.length_map]
   have hle:=P3 ((uW c vs).take k) [];rw[List.length_take,List.length_nil]at hle
   rw[MZ]
   by_cases h:k<c.vars.length
   ·rw[yK h]
    refine zG (vR hc hv h) ⟨decide_eq_true (by omega),hn h _ ?_⟩
    rw[Db,ha,Au (show k<(uW c vs).length by omega)]
   ·have hk':k=c.vars.length:=by omega
    subst hk';rw[zW,ht]
    congr 1
    rw[List.take_of_length_le (by omega)]at hal
    have hn:=NA (uW c vs) [];rw[List.length_nil,Nat.zero_add]at hn
    refine decide_eq_decide.2 ⟨λh=>(hn.1 (by omega)).1,λh=> ?_⟩
    have:=hn.2 ⟨h,λx _ hx=>by cases hx⟩
    omega
  ·have e:=of_decide_eq_true e
   obtain⟨h2,h1⟩:=hf.element e;have t0:=vR hc hv (k:=0) (by omega)
   have t1:=vR hc hv (k:=1) (by omega)
   have ht:wH c vs=(decide ((0:Int)≤(uW c vs)[0])&&decide ((uW c vs)[0]<c.consts.length)&&decide (c.consts.getD (uW c vs)[0].toNat 0=(uW c vs)[1])):=by
    rw[←hx (k:=0) (by omega),←hx (k:=1) (by omega)];simp[wH,e]
   refine zG t0 ?_;rw[rE (by omega) (by omega)]
   refine zG (sJ _ _ _) (zA (λf=> ?_) λf=> ?_)
   ·obtain⟨f1,f2⟩:=B4.1 f
    have hin:(uW c vs)[0].toNat<c.consts.length:=by omega
    refine zG t0 ⟨vE.2 ⟨f1,by omega⟩,zG t1 ?_⟩
    rw[ht,decide_eq_true f1,decide_eq_true (p:=_<_) (by omega),yA _ hin,atN (t:=.int) hin];rfl
   ·rw[ht]
    rcases rR.1 f with f|f
    ·rw[decide_eq_false (p:=0≤_) (by omega)];rfl
    ·rw[decide_eq_false (p:=_<(c.consts.length:Int)) (by omega),Bool.and_false];rfl
  ·have e:=of_decide_eq_true e
   have ht:wH c vs=c.rows.any λr=>decide (r=uW c vs):=by simp[wH,e]
   refine up (I:=λn v a=>ZI c vs _ n v a) 0 c.vars.length rfl (Nat.zero_le _) (by omega) (λk a=>a=(uW c vs).take k) (by rw[List.take_zero]) λn k a _ hkl ha hn=> ?_
   subst ha;rw[M0]
   by_cases h:k<c.vars.length
   ·rw[yK h]
    refine zG (vR hc hv h) ⟨xX (t:=.int) ?_,hn h _ (List.take_append_getElem _)⟩;rw[List.length_take];show(_+1)*8≤_
    omega
   ·have hk':k=c.vars.length:=by omega
    subst hk';rw[zW,List.take_of_length_le (by omega),ht]
    exact zG (tU La λr _=>Js r _) rfl
  ·have e:=of_decide_eq_true e
   have h3:=hf.times e;refine zG (vR hc hv (k:=0) (by omega)) (zG (vR hc hv (k:=1) (by omega)) (zG (vR hc hv (k:=2) (by omega)) ?_))
   have n0:=hnear _ (List.getElem_mem (show 0<(uW c vs).length by omega))
   have n1:=hnear _ (List.getElem_mem (show 1<(uW c vs).length by omega))
   have:=HA (a:=(uW c vs)[0]) (b:=(uW c vs)[1]) (by omega) n1
   rw[rE (by omega) (by omega),show wH c vs=decide ((uW c vs).getD 0 0*(uW c vs).getD 1 0=(uW c vs).getD 2 0) by simp[wH,e],hx (k:=0) (by omega),hx (k:=1) (by omega),hx (k:=2) (by omega)]
  ·have e:=of_decide_eq_true e
   have h2:=hf.max e;have hd:((c.vars.take (c.vars.length:Int).toNat).drop 1).length=c.vars.length-1:=by rw[Int.toNat_natCast,List.take_length,List.length_drop]
   refine zG (vR hc hv (k:=1) (by omega)) ⟨by unfold R4;simp;omega,?_⟩
   refine up (I:=λn v a=>ZJ c vs _ n a v) 0 (c.vars.length-1) rfl (Nat.zero_le _) (by omega) (λk a=>a=zgc (uW c vs)[1] (((uW c vs).drop 1).take k)) (by rw[List.take_zero];rfl) λn k a _ hkl ha hn=> ?_
   subst ha;rw[M1,hd]
   by_cases h:k<c.vars.length-1
   ·rw[yK h,rE (n:=1+_) (by omega) (by omega),show(1:Int)+(k:Int)=((k+1:Nat):Int) by omega]
    have hk3:k<((uW c vs).drop 1).length:=by rw[List.length_drop];omega
    refine zG (vR hc hv (k:=k+1) (by omega)) (hn h _ ?_)
    rw[←List.take_append_getElem hk3,zgc,zgc,List.foldl_append,List.foldl_cons,List.foldl_nil,List.getElem_drop];simp only[show 1+k=k+1 by omega]
   ·have hk':k=c.vars.length-1:=by omega
    subst hk';rw[zW];refine zG (vR hc hv (k:=0) (by omega)) ?_
    rw[List.take_of_length_le (by rw[List.length_drop];omega),show wH c vs=decide ((uW c vs).getD 0 0=zgc ((uW c vs).getD 1 0) ((uW c vs).drop 1)) by simp[wH,e],hx (k:=0) (by omega),hx (k:=1) (by omega)]
  ·have e:=of_decide_eq_true e
   rw[show wH c vs=c.lits.any λl=>holdsL l (vs.getD l.var.toNat 0) by simp[wH,e]]
   exact zG (zd6 hc hv) rfl
  ·have e:c.kind=10:=by simp at e1 e2 e3 e4 e5 e6 e7 e8 e9;omega
   obtain⟨h1,h2⟩:=hf.iff e;have hl0:0<c.lits.length:=by omega
   have t0:=vR hc hv (k:=0) (by omega)
   have l0:=UY (hc.lits _ (List.getElem_mem hl0)) hv
   have ha:(c.lits.take 1).any (λl=>holdsL l (vs.getD l.var.toNat 0))=holdsL c.lits[0] (vs.getD c.lits[0].var.toNat 0):=by
    rw[show c.lits.take 1=[c.lits[0]] by rw[List.take_one,List.head?_eq_getElem?,List.getElem?_eq_getElem hl0];rfl];simp
   have ht:wH c vs=(holdsL c.lits[0] (vs.getD c.lits[0].var.toNat 0)&&decide ((uW c vs)[0]=1)|| !holdsL c.lits[0] (vs.getD c.lits[0].var.toNat 0)&&decide ((uW c vs)[0]=0)):=by
    rw[←hx (k:=0) (by omega),←ha];simp[wH,e]
   have a0:zR .lit c.lits 0=c.lits[0]:=atN (t:=.lit) hl0;have i0:wI 0 c.lits.length=true:=zM hl0;rw[a0,ht];refine⟨i0,zG l0 (zA (λf=>zG t0 (zA (λg=> ?_) λg=>⟨i0,zG l0 (zA (λf2=> ?_) λf2=> ?_)⟩)) λf=>⟨i0,zG l0 (zA (λf2=>zG t0 ?_) λf2=> ?_)⟩)⟩
   ·rw[f,g];rfl
   ·rw[f]at f2;exact absurd f2 (by decide)
   ·rw[f,g];rfl
   ·rw[f];rfl
   ·rw[f]at f2;exact absurd f2 (by decide)
theorem H4(l:List Int):(l.map λx=>[Value.int .i64 x]).flatten=l.map (Value.int .i64):=by
 induction l with
 |nil=>rfl
 |cons a l ih=>rw[List.map_cons,List.flatten_cons,ih];rfl
theorem zc8{w:World}{S:Nat→Prop}{l:List Int}{css:List (List Value)}(hl:css.length=l.length)(h:∀(i:Nat) (x:Int) (cs:List Value),l[i]? =some x→css[i]? =some cs→wK.rd w S cs x):
  css.flatten=l.map (Value.int .i64)∧∀x∈l,yQ x:=by
 have e:css=l.map λx=>[Value.int .i64 x]:=by
  apply List.ext_getElem (by rw[hl,List.length_map])
  intro i h1 h2;have hi:i<l.length:=by omega
  have:=h i l[i] css[i] (List.getElem?_eq_getElem hi) (List.getElem?_eq_getElem h1);rw[List.getElem_map];exact this.1
 refine⟨by rw[e,H4],λx hx=> ?_⟩
 obtain⟨i,hi,rfl⟩:=List.getElem_of_mem hx;exact(h i l[i] css[i] (List.getElem?_eq_getElem hi) (List.getElem?_eq_getElem (by omega))).2
theorem zjB{w:World}{S:Nat→Prop}{pl:Nat→Value}{l:List Int}{g cap:Nat}{cur:Array Value}{e:TypeId}(hb:l.length*8≤140737488355328)(hh:w.heap[g]? =some (.cells cur e (0,0)))(h1:l.length≤cap)(h2:cap≤maxLen)(h3:cur.size=cap)(h4:cur.toList.take l.length=l.map (Value.int .i64))(hi:∀x∈l,yQ x):
  ZW w S pl (.slice (some ⟨g,0,none⟩) l.length cap) (.row e .int l):=by
 refine⟨hb,l.map λx=>[Value.int .i64 x],by rw[List.length_map],⟨?_,.inr ⟨g,cap,cur,rfl,Nat.zero_le _,hh,h1,h2,?_,?_⟩⟩,?_,?_⟩
 ·rw[H4,List.length_map];exact(Nat.mul_one _).symm
 ·rw[h3];exact(Nat.mul_one _).symm
 ·rw[H4,←h4];congr 1;exact Nat.mul_one _
 ·intro cs hcs
  obtain⟨x,_,rfl⟩:=List.mem_map.1 hcs;rfl
 ·intro i x cs hx hcs
  rw[List.getElem?_map,hx]at hcs
  cases hcs;exact⟨rfl,hi _ (List.mem_of_getElem? hx)⟩
theorem AN{d:Array Int}{cur:Array Value}(h:d.size≤cur.size):(Sort.putCells (Value.int .i64) 0 d cur).toList.take d.size=d.toList.map (Value.int .i64):=by
 apply List.ext_getElem
 ·simp[Sort.putCells];omega
 ·intro i h1 h2
  have hi:i<d.size:=by simpa using h2
  simp[Sort.putCells,hi]
theorem Do{w:World}{l:List Int}{g cap:Nat}{cur:Array Value}{e:TypeId}(hh:w.heap[g]? =some (.cells cur e (0,0)))(h4:cur.toList.take l.length=l.map (Value.int .i64)):Sort.Holds (Value.int .i64) w g 0 l.toArray:=by
 intro j hj;have hj:j<l.length:=by simpa using hj
 rw[Nat.zero_add];refine⟨?_,frozen_of_row w g j cur e hh⟩;rw[cell_of_row w g j cur e (0,0) hh];have e2:(cur.toList.take l.length)[j]? =some (.int .i64 l[j]):=by rw[h4,List.getElem?_map,List.getElem?_eq_getElem hj];rfl
 rw[List.getElem?_take,if_pos hj]at e2
 rw[←Array.getElem?_toList,e2];simp[hj]
theorem AO{w:World}{g:Nat}{cur:Array Value}{e:TypeId}(d:Array Int)(n:Nat)(hh:w.heap[g]? =some (.cells cur e (0,0))):(Sort.putRow (Value.int .i64) (Sort.ahead w n) g 0 d).heap[g]? =some (.cells (Sort.putCells (Value.int .i64) 0 d cur) e (0,0)):=by
 simp[Sort.putRow,Sort.mapBlock,Array.getElem?_modify,hh,Sort.onCells]
theorem Dp{w:World}{g k:Nat}(d:Array Int)(n:Nat)(hk:k≠g):(Sort.putRow (Value.int .i64) (Sort.ahead w n) g 0 d).heap[k]? =w.heap[k]? :=by
 simp[Sort.putRow,Sort.mapBlock,Array.getElem?_modify,Ne.symm hk]
theorem AP{k n:Nat}{o o':yI}(h:zV k [(n,o)]=some o'):k=n∧o'=o:=by
 rw[xM]at h
 split at h
 ·rename_i e;exact⟨e.symm,(Option.some.inj h).symm⟩
 ·cases h
theorem zc9{w:World}{S:Nat→Prop}{pl:Nat→Value}:Ch w S pl []:=
 ⟨λk o h=>(Option.some_ne_none _ h.symm).elim,λk o b h=>(Option.some_ne_none _ h.symm).elim,λk k' o o' b h=>(Option.some_ne_none _ h.symm).elim⟩
theorem AQ{vs:Array Value}{v:Value}(h:vs.size=1)(e:vs.getD 0 Go.undef=v):vs= #[v]:=by
 apply Array.ext
 ·simpa using h
 ·intro i h1 h2
  have:i=0:=by omega
  subst this;simpa[Array.getD_eq_getD_getElem?,h1]using e
theorem H5(l:List Int):(Lib.compact l).length≤l.length:=by
 unfold Lib.compact Lib.compactUpTo;rw[List.length_map];have:=List.length_filter_le (Lib.keeps l.toArray) (List.range l.length)
 rwa[List.length_range]at this
theorem KD{l:List Int}{x:Int}(h:x∈Lib.compact l):x∈l:=by
 unfold Lib.compact Lib.compactUpTo at h
 obtain⟨i,hi,rfl⟩:=List.mem_map.1 h;have hi:=List.mem_range.1 (List.mem_filter.1 hi).1;rw[getElem!_pos l.toArray i (by simpa using hi)]
 simp
abbrev aE(l:List Int):List Int:=l.mergeSort λx y=>decide (x≤y)
theorem LF(l:List Int):xD sR [.own 1000] [(1000,.row 3 .int l)] (.tup []) [(1000,.row 3 .int (aE l))]:=by
 intro w S vs pl hS hl hv hH _;have e0:vs= #[pl 1000]:=AQ hl (hv 0 _ rfl);subst e0;obtain⟨hb,css,hcl,hown,hcs,hrd⟩:=hH.ok 1000 _ rfl;obtain⟨hf,hin⟩:=zc8 hcl hrd;have hb8:l.length*8≤140737488355328:=hb;have hsl:(aE l).length=l.length:=List.length_mergeSort l;have hsin:∀x∈aE l,yQ x:=λx hx=>hin x ((List.mergeSort_perm l _).mem_iff.1 hx)
 rcases hown.2 with⟨hp,hn⟩|⟨g,cap,cur,hp,_,hh,hc1,hc2,hc3,hc4⟩
 ·obtain rfl:l=[]:=List.length_eq_zero_iff.1 hn
  rw[hp];refine(Tryz.slices_Sort_int_none none 0 w).mono λe w' ⟨he,hw⟩=> ?_
  subst hw;rw[show aE []=[]from List.length_eq_zero_iff.1 hsl]
  refine⟨_,S,pl,he,?_,hH,hS,λb h=> .inl h,λb h=> .inl h,λ_ _=>rfl,.of (Below.refl _ _)⟩
  exact Rp.tup #[] [] rfl λi d h=>by simp at h
 ·have hc3':cur.size=cap:=hc3.trans (Nat.mul_one _)
  have hc4':cur.toList.take l.length=l.map (Value.int .i64):=by rw[←hf,←hc4];congr 1;exact(Nat.mul_one _).symm
  have hg:g<w.heap.size:=(Array.getElem?_eq_some_iff.1 hh).1;rw[hp];refine(Tryz.slices_Sort_int g 0 cap l w (Do (cap:=cap) hh hc4') hg (by omega)).mono λe w' ⟨he,n,os,hw⟩=> ?_
  subst hw;have hsz:(Sort.putRow (Value.int .i64) (Sort.ahead w n) g 0 (aE l).toArray).heap.size=w.heap.size:=by simp
  have hG:∀k,k<w.heap.size→(Sort.grow (Sort.putRow (Value.int .i64) (Sort.ahead w n) g 0 (aE l).toArray) os).heap[k]? =(Sort.putRow (Value.int .i64) (Sort.ahead w n) g 0 (aE l).toArray).heap[k]? :=λk hk=>by
   show(_++os)[k]? =_
   rw[Array.getElem?_append_left (by omega)]
  have hgs:(Sort.grow (Sort.putRow (Value.int .i64) (Sort.ahead w n) g 0 (aE l).toArray) os).heap.size=w.heap.size+os.size:=by simp
  have hpb:qK (pl 1000)=some g:=by rw[hp];rfl
  refine⟨_,S,pl,he,?_,?_,λb h=>by rw[hgs];have:=hS b h;omega,λb h=> .inl h,λb ⟨k,o,h1,h2⟩=> ?_,λ_ _=>rfl,?_⟩
  ·exact Rp.tup #[] [] rfl λi d h=>by simp at h
  ·have look1:∀k o,zV k [(1000,yI.row 3 .int (aE l))]=some o→k=1000∧o=.row 3 .int (aE l):=λk o h=>AP h
   refine⟨λk o h=> ?_,λk o b h1 h2=> ?_,λk k' o o' b h1 h2 _ _=>by rw[(look1 _ _ h1).1,(look1 _ _ h2).1]⟩
   ·obtain⟨rfl,rfl⟩:=look1 _ _ h
    rw[hp,show l.length=(aE l).length from hsl.symm]
    refine zjB (by omega) ((hG g hg).trans (AO _ n hh)) (by omega) hc2 (by simp[Sort.putCells,hc3']) ?_ hsin
    have:=AN (d:=(aE l).toArray) (cur:=cur) (by simp only[List.size_toArray];omega)
    simpa using this
   ·obtain⟨rfl,rfl⟩:=look1 _ _ h1
    have:=hH.priv 1000 _ b rfl h2;exact⟨by rw[hgs];omega,this.2⟩
  ·have:k=1000:=(AP h1).1
   subst this;exact .inl ⟨1000,_,rfl,h2⟩
  ·refine⟨rfl,rfl,rfl,by rw[hgs];omega,λk hk hO=> ?_⟩
   rw[hG k hk];refine Dp _ _ λe=>hO ?_
   subst e;exact⟨1000,_,rfl,hpb⟩
theorem Ut(l:List Int):xD tE [.own 1000] [(1000,.row 3 .int l)] (.sl .int (Lib.compact l)) []:=by
 intro w S vs pl hS hl hv hH _;have e0:vs= #[pl 1000]:=AQ hl (hv 0 _ rfl);subst e0;obtain⟨hb,css,hcl,hown,hcs,hrd⟩:=hH.ok 1000 _ rfl;obtain⟨hf,hin⟩:=zc8 hcl hrd;have hb8:l.length*8≤140737488355328:=hb;have hcle:=H5 l;have hcin:∀x∈Lib.compact l,yQ x:=λx hx=>hin x (KD hx)
 rcases hown.2 with⟨hp,hn⟩|⟨g,cap,cur,hp,_,hh,hc1,hc2,hc3,hc4⟩
 ·obtain rfl:l=[]:=List.length_eq_zero_iff.1 hn
  rw[hp];refine(Tryz.slices_Compact_int_empty none 0 w).mono λe w' ⟨he,hw⟩=> ?_
  subst hw;refine⟨_,S,pl,he,?_,zc9,hS,λb h=> .inl h,λb ⟨k,o,h,_⟩=>(Option.some_ne_none _ h.symm).elim,λ_ _=>rfl,.of (Below.refl _ _)⟩
  have:Lib.compact ([]:List Int)=[]:=List.length_eq_zero_iff.1 (by have:=hcle;simpa using this)
  rw[this];exact Rp.sl .int [] _ ⟨_,rfl,none,0,rfl,by simp,by simp,by simp,λ_=>rfl,λh=>by simp at h⟩
 ·have hc3':cur.size=cap:=hc3.trans (Nat.mul_one _)
  have hc4':cur.toList.take l.length=l.map (Value.int .i64):=by rw[←hf,←hc4];congr 1;exact(Nat.mul_one _).symm
  have hg:g<w.heap.size:=(Array.getElem?_eq_some_iff.1 hh).1;rw[hp];refine(Tryz.slices_Compact_int g 0 cap l w (Do (cap:=cap) hh hc4') (by omega) hc1).mono λe w' ⟨he,n,hw⟩=> ?_
  subst hw;have hsz:(Sort.putRow (Value.int .i64) (Sort.ahead w n) g 0 (Lib.compact l++List.replicate (l.length-(Lib.compact l).length) 0).toArray).heap.size=w.heap.size:=by simp
  have hpb:qK (pl 1000)=some g:=by rw[hp];rfl
  refine⟨_,λb=>S b∨b=g,pl,he,?_,zc9,λb h=> ?_,λb h=> ?_,λb ⟨k,o,h,_⟩=>(Option.some_ne_none _ h.symm).elim,λ_ _=>rfl,?_⟩
  ·refine Rp.sl .int _ _ ⟨_,rfl,some ⟨g,0,none⟩,cap,rfl,by show _*8≤_;omega,by omega,hc2,(λh=>by cases h),λ_=>⟨g,0,rfl,.inr rfl,λi x hx=>⟨[.int .i64 x],⟨rfl,hcin _ (List.mem_of_getElem? hx)⟩,λj u hu=> ?_⟩⟩⟩
   have hj:j=0:=by
    cases j with
    |zero=>rfl
    |succ j=>simp at hu
   subst hj;cases hu;rw[cell_of_row _ g _ _ _ (0,0) (AO _ n hh)];have hi:i<(Lib.compact l).length:=(List.getElem?_eq_some_iff.1 hx).1;have:=AN (d:=(Lib.compact l++List.replicate (l.length-(Lib.compact l).length) 0).toArray) (cur:=cur) (by simp;omega)
   rw[show 0+i*wK.size Int+0=i from by show 0+i*1+0=i;omega]
   rw[←Array.getElem?_toList];have h5:=congrArg (λz:List Value=>z[i]?) this
   simp only[List.getElem?_take,List.getElem?_map,List.toList_toArray]at h5
   rw[if_pos (by simp;omega),List.getElem?_append_left hi,hx]at h5
   exact h5
  ·rw[hsz]
   rcases h with h|rfl
   ·exact hS b h
   ·exact hg
  ·rcases h with h|rfl
   ·exact .inl h
   ·exact .inr (.inl ⟨1000,_,rfl,hpb⟩)
  ·refine⟨rfl,rfl,rfl,by rw[hsz];exact Nat.le_refl _,λk hk hO=>Dp _ _ λe=>hO ?_⟩
   subst e;exact⟨1000,_,rfl,hpb⟩
theorem H6:∀ {a b:List Int},a.Pairwise (·<·)→b.Pairwise (·<·)→(∀x,x∈a↔x∈b)→a=b
 |[],[],_,_,_=>rfl
 |[],y::b,_,_,h=>absurd ((h y).2 (List.mem_cons_self ..)) (by simp)
 |x::a,[],_,_,h=>absurd ((h x).1 (List.mem_cons_self ..)) (by simp)
 |x::a,y::b,ha,hb,h=>by
  obtain⟨ha1,ha2⟩:=List.pairwise_cons.1 ha;obtain⟨hb1,hb2⟩:=List.pairwise_cons.1 hb
  have e:x=y:=by
   have h1:=(h x).1 (List.mem_cons_self ..);have h2:=(h y).2 (List.mem_cons_self ..);rcases List.mem_cons.1 h1 with h1|h1
   ·exact h1
   rcases List.mem_cons.1 h2 with h2|h2
   ·exact h2.symm
   have:=hb1 x h1;have:=ha1 y h2;omega
  subst e;rw[H6 ha2 hb2 λz=>⟨λhz=> ?_,λhz=> ?_⟩]
  ·rcases List.mem_cons.1 ((h z).1 (List.mem_cons_of_mem _ hz))with rfl|hz'
   ·have:=ha1 z hz;omega
   ·exact hz'
  ·rcases List.mem_cons.1 ((h z).2 (List.mem_cons_of_mem _ hz))with rfl|hz'
   ·have:=hb1 z hz;omega
   ·exact hz'
theorem SY{l:List Int}{x:Int}:x∈Lib.compact l↔x∈l:=by
 refine⟨KD,λh=> ?_⟩
 obtain⟨i,hi,rfl⟩:=List.getElem_of_mem h
 suffices H:∀i,i<l.length→l.toArray[i]! ∈Lib.compact l by
  have:=H i hi
  rwa[getElem!_pos l.toArray i (by simpa using hi),List.getElem_toArray]at this
 intro i
 induction i with
 |zero=>exact λhi=>List.mem_map.2 ⟨0,List.mem_filter.2 ⟨List.mem_range.2 hi,by simp[Lib.keeps]⟩,rfl⟩
 |succ i ih=>
  intro hi
  by_cases hk:Lib.keeps l.toArray (i+1)=true
  ·exact List.mem_map.2 ⟨i+1,List.mem_filter.2 ⟨List.mem_range.2 hi,hk⟩,rfl⟩
  ·have e:l.toArray[i+1]! =l.toArray[i]! :=by
    unfold Lib.keeps at hk
    rw[decide_eq_true_iff,not_or]at hk
    exact Decidable.not_not.1 hk.2
   rw[e];exact ih (by omega)
theorem SZ{l:List Int}(h:l.Pairwise (·≤·)):(Lib.compact l).Pairwise (·<·):=by
 unfold Lib.compact Lib.compactUpTo;rw[List.pairwise_map];have hr:((List.range l.length).filter (Lib.keeps l.toArray)).Pairwise (·<·):=(List.pairwise_lt_range).filter _;refine hr.imp_of_mem fun {i j} hi hj hij=> ?_
 have hj1:=List.mem_range.1 (List.mem_filter.1 hj).1;have hj2:=(List.mem_filter.1 hj).2;unfold Lib.keeps at hj2
 have hj3:=(of_decide_eq_true hj2).resolve_left (by omega)
 have le:∀p q,p≤q→q<l.length→l.toArray[p]! ≤l.toArray[q]! :=λp q hpq hq=>by
  rw[getElem!_pos l.toArray p (by simp;omega),getElem!_pos l.toArray q (by simpa using hq)]
  by_cases hpe:p=q
  ·subst hpe;exact Int.le_refl _
  ·have:=List.pairwise_iff_getElem.1 h p q (by omega) hq (by omega)
   simpa using this
 have h1:=le i (j-1) (by omega) (by omega)
 have h2:=le (j-1) j (by omega) hj1
 omega
theorem zda(l:List Int):(aE l).Pairwise (·≤·):=by
 have:=List.pairwise_mergeSort (le:=λx y:Int=>decide (x≤y)) (λa b c h1 h2=>by simp at*;omega) (λa b=>by simp;omega) l
 exact this.imp λh=>of_decide_eq_true h
theorem Uu{lo:Int}{x:Int}:∀ {n:Nat},x∈E8 lo n↔lo≤x∧x<lo+n
 |0=>by simp[E8]
 |n+1=>by rw[E8,List.mem_append,Uu (n:=n),List.mem_singleton];omega
theorem Om{lo:Int}:∀ {n:Nat},(E8 lo n).Pairwise (·<·)
 |0=> .nil
 |n+1=>by
  rw[E8,List.pairwise_append];refine⟨Om,List.pairwise_singleton _ _,λa ha b hb=> ?_⟩
  rw[List.mem_singleton]at hb
  have:=(Uu.1 ha).2;omega
def FE(c:zF)(v:Int):Bool:=(c.vars.any λx=>decide (x=v))||c.lits.any λl=>decide (l.var=v)
def yE(c:zF)(nv:Nat):List Int:=(E8 0 nv).filter (FE c)
theorem zgv{c:zF}{nv:Nat}(hc:vB c nv):Lib.compact (aE (c.vars++c.lits.map λl=>l.var))=yE c nv:=by
 refine H6 (SZ (zda _)) (Om.filter _) λx=> ?_
 rw[SY,(List.mergeSort_perm _ _).mem_iff,yE,List.mem_filter,Uu,FE,Bool.or_eq_true,List.any_eq_true,List.any_eq_true,List.mem_append,List.mem_map];constructor
 ·rintro(h|⟨l,hl,rfl⟩)
  ·exact⟨by have:=hc.vars x h;omega,.inl ⟨x,h,decide_eq_true rfl⟩⟩
  ·exact⟨by have:=(oz.1 (hc.lits l hl)).1;omega,.inr ⟨l,hl,decide_eq_true rfl⟩⟩
 ·rintro⟨_,⟨y,hy,e⟩|⟨l,hl,e⟩⟩
  ·rw[←of_decide_eq_true e];exact .inl hy
  ·exact .inr ⟨l,hl,of_decide_eq_true e⟩
theorem ZN{c:zF}{nv:Nat}(hc:vB c nv):uG oZ [dC c] (.sl .int (yE c nv)):=
 Hg c λok=>by
  have hm:=hc.many;rw[FR];refine⟨_,Ol c.vars,?_⟩;refine up (I:=λn v a=>ZE c _ n v a) 0 c.lits.length rfl (Nat.zero_le _) (by omega) (λk a=>a=c.vars++(c.lits.take k).map λl=>l.var) (by simp) λn k a _ hk ha hn=> ?_
  subst ha;rw[MU]
  by_cases h:k<c.lits.length
  ·rw[yK h,zX (t:=.lit) h]
   refine⟨zM h,xX (t:=.int) ?_,hn h _ ?_⟩
   ·rw[List.length_append,List.length_map,List.length_take]
    show(_+1)*8≤_
    omega
   ·rw[Z1 _ h,List.append_assoc]
  ·have hk':k=c.lits.length:=by omega
   subst hk';rw[zW,List.take_length];refine⟨_,LF _,_,Ut _,?_⟩;rw[zgv hc]
def U6(m:zD)(con:Int):Int:=if yR m≠0 then yR m else if con<0∨(m.cons.length:Int)≤con then 5 else 0
def LG(m:zD)(con n:Int):Int:=if U6 m con≠0 then U6 m con else if n≠m.vars.length then 1 else 0
theorem S0(m:zD)(con n:Int):uG fV [dM m,dI con,dI n] (dI (LG m con n)):=
 K9 m con n λok=>by
  rw[Hf];refine zG (pG m) (zA (λe=> ?_) λe=> ?_)
  ·have e:=pP e
   have:U6 m con=yR m:=if_pos e;exact sT (by rw[LG,this,if_pos e])
  have e:=not_not_intro (tZ e);refine zA (λf=> ?_) λf=>zA (λg=> ?_) λg=> ?_
  ·have:U6 m con=5:=by rw[U6,if_neg e,if_pos (.inl (of_decide_eq_true f))]
   exact sT (by rw[LG,this];rfl)
  ·have:U6 m con=5:=by rw[U6,if_neg e,if_pos (.inr (of_decide_eq_true g))]
   exact sT (by rw[LG,this];rfl)
  have:U6 m con=0:=by
   rw[U6,if_neg e,if_neg];rintro(h|h)
   ·exact of_decide_eq_false f h
   ·exact of_decide_eq_false g h
  refine zA (λh=> ?_) λh=> ?_
  ·exact sT (by rw[LG,this,if_neg (by decide),if_pos (by simpa using h)])
  ·exact sT (by rw[LG,this,if_neg (by decide),if_neg (not_not_intro (by simpa using h))])
theorem pT{m:zD}{con:Int}(h:U6 m con=0):Right m∧0≤con∧con<m.cons.length:=by
 unfold U6 at h
 split at h
 ·rename_i h1;exact absurd h h1
 rename_i h1;split at h
 ·exact absurd h (by decide)
 rename_i h2;exact⟨qH (Decidable.not_not.1 h1),by omega,by omega⟩
theorem zd7{m:zD}{con n:Int}(h:LG m con n=0):U6 m con=0∧n=m.vars.length:=by
 unfold LG at h
 split at h
 ·rename_i h1;exact absurd h h1
 rename_i h1;split at h
 ·exact absurd h (by decide)
 rename_i h2;exact⟨Decidable.not_not.1 h1,Decidable.not_not.1 h2⟩
def yL(m:zD)(con:Int):zF:=m.cons.getD con.toNat (Ty.dflt .con)
theorem rZ{m:zD}{con:Int}(h:U6 m con=0):vB (yL m con) m.vars.length:=by
 obtain⟨h1,h2,h3⟩:=pT h;refine Ln h1.vars (h1.con _ ?_);rw[yL,yA _ (show con.toNat<m.cons.length by omega)]
 exact List.getElem_mem _
def zih(e:Int)(l:List Int):List Int:=if e=0 then l else[]
theorem zkg{e:Int}{l:List Int}(h:e=0):zih e l=l:=if_pos h
theorem zkh{e:Int}{l:List Int}(h:e≠0):zih e l=[]:=if_neg h
theorem zgw(m:zD)(con:Int):LG m con m.vars.length=U6 m con:=by
 unfold LG;split
 ·rfl
 ·rename_i h;rw[if_neg (not_not_intro rfl),Decidable.not_not.1 h]
theorem H7(m:zD)(con:Int):uG fS [dM m,dI con] (.tup [.sl .int (zih (U6 m con) (yE (yL m con) m.vars.length)),dI (U6 m con)]):=
 K5 m con λok=>by
  rw[Hb];refine zG (S0 m con _) ?_;rw[zgw];refine zA (λe=> ?_) λe=> ?_
  ·rw[zkh (pP e)]
  ·have e:=tZ e
   rw[zkg e,e];exact⟨vE.2 (pT e).2,zG (ZN (rZ e)) rfl⟩
theorem LH(n:Int):uG eQ [dI n] (dB (!jF n (-50) 50)):=
 Np n λok=>by rw[M2];exact zG (sJ _ _ _) rfl
def S3(m:zD)(con:Int)(vs:List Int):Int:=if LG m con vs.length≠0 then LG m con vs.length else if(vs.any λn=> !jF n (-50) 50)=true then 3 else 0
theorem H8(m:zD)(con:Int)(vs:List Int):uG fU [dM m,dI con,.sl .int vs] (.tup [dB (orB (S3 m con vs) (wH (yL m con) vs)),dI (S3 m con vs)]):=
 K8 m con vs λok=>by
  rw[He];refine zG (S0 m con _) (zA (λe=> ?_) λe=> ?_)
  ·have e:=pP e
   rw[show S3 m con vs=LG m con vs.length from if_pos e,zjA e]
  have e:=tZ e;obtain⟨e1,e2⟩:=zd7 e;refine zG (wU Ns λn _=>LH n) (zA (λf=> ?_) λf=> ?_)
  ·rw[show S3 m con vs=3 by rw[S3,if_neg (not_not_intro e),if_pos f]];rfl
  ·have h0:S3 m con vs=0:=by rw[S3,if_neg (not_not_intro e),if_neg (by rw[f];decide)]
   have hg:UX vs m.vars.length:=⟨by omega,λn hn=>by have:=List.any_eq_false.1 f n hn;simp[jF]at this;omega⟩
   rw[h0];exact⟨vE.2 (pT e1).2,zG (eF (rZ e1) hg) rfl⟩
def wholeM(m:zD)(vs:List Int):Bool:= !((m.vars.zip vs).any λx=> !jF x.2 x.1.lo x.1.hi)&& !m.cons.any λc=> !wH c vs
theorem zbJ{m:zD}(hr:Right m){vs:List Int}(hl:vs.length=m.vars.length)(h:((m.vars.zip vs).any λx=> !jF x.2 x.1.lo x.1.hi)=false):UX vs m.vars.length:=by
 refine⟨hl,λn hn=> ?_⟩
 obtain⟨i,hi,rfl⟩:=List.getElem_of_mem hn;have hz:i<(m.vars.zip vs).length:=by rw[List.length_zip];omega
 have:=zdX h hz;rw[List.getElem_zip]at this
 have hv:=hr.var _ (List.getElem_mem (show i<m.vars.length by omega))
 simp[jF]at this
 omega
theorem LI{c:zF}{vs:List Int}{nv:Nat}(hc:vB c nv)(hv:UX vs nv):uG eP [dC c,.iptr [.sl .int vs] 0] (dB (!wH c vs)):=
 Nn c vs λok=>by rw[MX];exact zG (eF hc hv) rfl
theorem S4{m:zD}(hr:Right m){vs:List Int}(hl:vs.length=m.vars.length):uG jH [dM m,.sl .int vs] (dB (wholeM m vs)):=
 K7 m vs λok=>by
  have hv:=hr.vars;have hz:(m.vars.zip vs).length=m.vars.length:=by rw[List.length_zip];omega
  rw[Hd];refine zjo (I:=λn v=>bR m vs _ n v) (m.vars.zip vs) (λx=> !jF x.2 x.1.lo x.1.hi) (by omega) (X:=dB false=dB (wholeM m vs)) (λe=>by rw[wholeM,e];rfl) (λn k h hX hn=> ?_) λe n=> ?_
  ·have hk:k<m.vars.length:=by omega
   have hk2:k<vs.length:=by omega
   rw[List.getElem_zip]at hX hn
   rw[Wl,yK hk,zX (t:=.var) hk,zX (t:=.int) hk2];exact⟨zM hk,zM hk2,zG (sJ _ _ _) (zA hX hn)⟩
  ·rw[hz,Wl,zW]
   refine zG (kR (p:=λc=> !wH c vs) Nr λc hc=>LI (Ln hr.vars (hr.con c hc)) (zbJ hr hl e)) ?_
   rw[wholeM,e];rfl
def H9(m:zD)(vs:List Int):Int:=if yR m≠0 then yR m else if vs.length≠m.vars.length then 1 else 0
theorem NY(m:zD)(vs:List Int):uG pD [dM m,.sl .int vs] (.tup [dB (orB (H9 m vs) (wholeM m vs)),dI (H9 m vs)]):=
 FQ m vs λok=>by
  rw[CP];refine zG (pG m) (zA (λe=> ?_) λe=>zA (λf=> ?_) λf=> ?_)
  ·have e:=pP e
   rw[show H9 m vs=yR m from if_pos e,zjA e]
  ·have e:=not_not_intro (tZ e)
   rw[show H9 m vs=1 by rw[H9,if_neg e,if_pos (by simp at f;omega)]];rfl
  ·have e1:=not_not_intro (tZ e)
   have f:vs.length=m.vars.length:=by simp at f;omega
   rw[show H9 m vs=0 by rw[H9,if_neg e1,if_neg (not_not_intro f)]]
   exact zG (S4 (qH (tZ e)) f) rfl
def aF(s:List (List Int))(c:List zC):List Int:=(c.filter λl=>decide (0≤Wr s l)).map λl=>l.var
theorem Dq{s:List (List Int)}{l:zC}{ls:List zC}(h:Wr s l<0):aF s (l::ls)=aF s ls:=by
 rw[aF,List.filter_cons_of_neg (by rw[decide_eq_true_iff];omega)];rfl
theorem Dr{s:List (List Int)}{l:zC}{ls:List zC}(h:¬Wr s l<0):aF s (l::ls)=l.var::aF s ls:=by
 rw[aF,List.filter_cons_of_pos (by rw[decide_eq_true_iff];omega)];rfl
theorem LJ{s:List (List Int)}{c:List zC}{v:Int}(hv:0≤v):∀ls:List zC,LE s c ls v=if(aF s ls).all (λu=>decide (u=v))=true then zgu s c v else s
 |[]=>by rw[LE,if_neg (by omega)];rfl
 |l::ls=>by
  rw[LE]
  by_cases h:Wr s l<0
  ·rw[if_pos h,Dq h,LJ hv ls]
  ·rw[if_neg h,Dr h,List.all_cons]
   by_cases e:l.var=v
   ·rw[if_neg (λx=>x.2 e.symm),e,LJ hv ls,decide_eq_true rfl,Bool.true_and]
   ·rw[if_pos ⟨hv,λx=>e x.symm⟩,decide_eq_false e,Bool.false_and,if_neg (by decide)]
theorem LK{s:List (List Int)}{c:List zC}:∀ls:List zC,(∀l∈ls,0≤l.var)→LE s c ls (-1)=match aF s ls with|[]=>kX s|v::vs=>if vs.all (λu=>decide (u=v))=true then zgu s c v else s
 |[],_=>by rw[LE,if_pos (by decide)];rfl
 |l::ls,hl=>by
  rw[LE]
  by_cases h:Wr s l<0
  ·rw[if_pos h,Dq h,LK ls λl hl'=>hl l (List.mem_cons_of_mem _ hl')]
  ·rw[if_neg h,Dr h,if_neg (by omega),LJ (hl l (List.mem_cons_self ..)) ls]
theorem zd8{f g:Nat→Int→Bool}{s:List (List Int)}:rX g (rX f s)=rX (λv n=>f v n&&g v n) s:=by
 rw[rX,rX,rX,List.mapIdx_mapIdx]
 congr 1;funext v l
 show List.filter (g v) (List.filter (f v) l)=_
 rw[List.filter_filter]
 congr 1;funext n;exact Bool.and_comm _ _
end Go.Proofs.YtogdmcebojiojaaGreatDoor
