/- Texts of this proof, one behind the other: nothing is handed in but what is proved here; no condition. -/
import Derived.Shelf.Strings.Builder1
import Derived.Shelf.Strings.Builder2
import Derived.Shelf.Strings.OnBuilder
import Derived.Shelf.Small.Bits
import Derived.Shelf.Small.Strs
import Derived.Shelf.Small.Wraps
import Derived.Shelf.Strings.BuilderF
import Derived.Shelf.Strings.BuilderK
import Derived.Shelf.Strings.Builder2Cap
import Derived.Shelf.Strconv.Atoi
import Derived.Shelf.Strconv.Itoa0
import Derived.Shelf.Strconv.Itoa1
import Derived.Shelf.LaysM
import Derived.Shelf.Strconv.Itoa2
import Derived.Shelf.Strconv.Itoa3
import Derived.Shelf.Strings.Search1
import Derived.Shelf.Sort.Plain
import Derived.Shelf.Strings.Prefix
import Derived.Shelf.Strings.BuilderCap
import Derived.Shelf.Slices.Turned
import Derived.Shelf.Slices.Equal
import Derived.Ground.Names2Prog
import Derived.Shelf.Slices.Clone
import Derived.Shelf.Slices.CompactI
import Derived.Shelf.Slices.SearchI
import Derived.Shelf.Slices.Cells
import Derived.Shelf.Slices.In.SortNone
import Derived.Shelf.Slices.Empties2
import Derived.Test.YtogdmcebojiojaaGreatDoorProg
import Derived.Test.YtogdmcebojiojaaGreatDoorZB
set_option linter.unusedVariables false
set_option linter.unusedSimpArgs false
namespace Go.Proofs.YtogdmcebojiojaaGreatDoor
open Go.Proofs.Tryz
def UL(n:Nat):Bool:=decide (97<=n)&&decide (n<=122)
def isDN(n:Nat):Bool:=decide (48<=n)&&decide (n<=57)
def isL(c:UInt8):Bool:=UL c.toNat
def isD(c:UInt8):Bool:=isDN c.toNat
def isW(c:UInt8):Bool:=isL c||isD c
def Zm:AcT->Bool
 |a::b::_=>(a==46&&b==46)||(a==60&&b==61)||(a==62&&b==61)||(a==61&&b==61)||(a==33&&b==61)
 |_=>false
def Wf(c:UInt8):Bool:=c==91||c==93||c==59||c==58||c==44||c==45
def yD:AcT->Nat×Nat
 |[]=>(0,0)
 |c::r=>
  if isL c then(1,1+(r.takeWhile isW).length)
  else if isD c then(2,1+(r.takeWhile isD).length)
  else if Zm (c::r)then(3,2)
  else if Wf c then(3,1)
  else(0,0)
def fo(c:UInt8):Bool:=c==32||c==9||c==10
def bs(l:AcT):AcG:=⟨l.toArray⟩
def uO(k n:Nat)(c:UInt8):Int:=
 if k=0 then 1 else if k=1/\n>12\/k=2/\n>4 then 2 else if k=2/\n>1/\c=48 then 1 else 0
def uC:AcT->Nat->Bool->AcR->Nat->AcR×Int×Int
 |[],_,_,out,_=>(out,0,0)
 |_::r,i,note,out,k+1=>uC r (i+1) note out k
 |c::r,i,note,out,0=>
  if note||c==37 then uC r (i+1) (c !=10) out 0
  else if fo c then uC r (i+1) false out 0
  else
   let kn:=yD (c::r)
   if uO kn.1 kn.2 c=0 then uC r (i+1) false (out++[⟨kn.1,i,bs ((c::r).take kn.2)⟩]) (kn.2-1)
   else([],i,uO kn.1 kn.2 c)
def tV(l:AcT):AcR×Int×Int:=if l.length>4000 then([],0,2)else uC l 0 false [] 0
theorem Yq:∀(l:AcT) (i:Nat) (note:Bool) (out:AcR) (k:Nat),k<=l.length->uC l i note out k=uC (l.drop k) (i+k) note out 0
 |l,i,note,out,0,_=>by simp
 |[],i,note,out,k+1,h=>by simp at h
 |c::r,i,note,out,k+1,h=>by
  rw[uC,Yq r (i+1) note out k (by simpa using h),Abs]
  congr 1;omega
theorem Kt:∀(l:AcT),(yD l).2<=l.length
 |[]=>by simp[yD]
 |c::r=>by
  have h1:(r.takeWhile isW).length<=r.length:=(List.takeWhile_sublist _).length_le;have h2:(r.takeWhile isD).length<=r.length:=(List.takeWhile_sublist _).length_le;simp only[yD];split
  ·simp;omega
  ·split
   ·simp;omega
   ·split
    ·rename_i h
     cases r with
     |nil=>simp[Zm]at h
     |cons d r=>simp
    ·split<;>simp
theorem OQ(l:AcT)(h:(yD l).1≠0):1<=(yD l).2:=by
 cases l with
 |nil=>simp[yD]at h
 |cons c r=>
  revert h;simp only[yD];split
  ·simp
  ·split
   ·simp
   ·split
    ·simp
    ·split<;>simp
theorem Qc(l:AcT):(yD l).1<=3:=by
 cases l with
 |nil=>simp[yD]
 |cons c r=>
  simp only[yD];split
  ·simp
  ·split
   ·simp
   ·split
    ·simp
    ·split<;>simp
def tW:AcT->Bool->Nat
 |[],_=>0
 |c::r,true=>if c==10 then 1+tW r false else 1+tW r true
 |c::r,false=>if c==37 then 1+tW r true else if fo c then 1+tW r false else 0
theorem S4:∀(l:AcT) (note:Bool),tW l note<=l.length
 |[],_=>by simp[tW]
 |c::r,true=>by
  have h1:=S4 r false;have h2:=S4 r true;unfold tW;split<;>simp<;>omega
 |c::r,false=>by
  have h1:=S4 r false;have h2:=S4 r true;unfold tW;split
  ·simp;omega
  ·split<;>simp;omega
theorem aT:∀(l:AcT) (i:Nat) (note:Bool) (out:AcR),uC l i note out 0=uC (l.drop (tW l note)) (i+tW l note) false out 0
 |[],i,note,out=>by simp[tW,uC]
 |c::r,i,true,out=>by
  rw[uC,As (by simp),tW]
  by_cases h:c=10
  ·subst h
   rw[aT r (i+1) _ out,As (by simp)]
   simp only[bne_self_eq_false,Abh 1,Abs]
   congr 1;omega
  ·have hb:(c !=10)=true:=by simpa using h
   rw[An (by simpa using h),hb,aT r (i+1) true out]
   simp only[Abh 1,Abs]
   congr 1;omega
 |c::r,i,false,out=>by
  by_cases h:c=37
  ·subst h
   rw[uC,As (by simp),tW,As (by simp),aT r (i+1) _ out]
   have:((37:UInt8) !=10)=true:=by decide
   simp only[this,Abh 1,Abs]
   congr 1;omega
  ·by_cases hb:fo c=true
   ·rw[uC,An (by simpa using h),As hb,tW,An (by simpa using h),As hb,aT r (i+1) false out]
    simp only[Abh 1,Abs]
    congr 1;omega
   ·have:tW (c::r) false=0:=by rw[tW,An (by simpa using h),An hb]
    rw[this];simp
theorem Wg:∀(l:AcT) (note:Bool) (c:UInt8) (r:AcT),l.drop (tW l note)=c::r->c≠37/\fo c=false
 |[],note,c,r,h=>by simp[tW]at h
 |a::l,true,c,r,h=>by
  unfold tW at h
  split at h
  ·rw[Abh,Abs]at h;exact Wg l false c r h
  ·rw[Abh,Abs]at h;exact Wg l true c r h
 |a::l,false,c,r,h=>by
  unfold tW at h
  split at h
  ·rw[Abh,Abs]at h;exact Wg l true c r h
  ·split at h
   ·rw[Abh,Abs]at h;exact Wg l false c r h
   ·rename_i h1 h2
    simp at h
    obtain⟨rfl,rfl⟩:=h;exact⟨by simpa using h1,by simpa using h2⟩
def Zn(kind:Int)(l:AcT):Bool:=
 match l with
 |[]=>false
 |c::r=>decide (l.length<=4000)&&decide (((yD (c::r)).1:Int)=kind)&&decide ((yD (c::r)).2=l.length)&&decide (uO (yD (c::r)).1 (yD (c::r)).2 c=0)
end Go.Proofs.YtogdmcebojiojaaGreatDoor
namespace Go.Proofs.YtogdmcebojiojaaGreatDoor
open Go.Proofs.Tryz
open Go.RowKit
def jP(n a b:Int):Bool:=decide (a<=n)&&decide (n<=b)
theorem ZH{n a b:Int}:jP n a b=true↔a<=n/\n<=b:=by simp[jP]
theorem qR{n a b:Int}:jP n a b=false↔n<a\/b<n:=by
 unfold jP;rw[Bool.and_eq_false_iff];simp
def Sr:AcX:=[bs [118,97,114],bs [99,111,110],bs [115,111,108,118,101],bs [108,101],bs [101,113],bs [110,101],bs [100,105,102,102,101,114],bs [101,108,101,109,101,110,116],bs [116,97,98,108,101],bs [116,105,109,101,115],bs [109,97,120],bs [99,108,97,117,115,101],bs [105,102,102],bs [97,110,121],bs [108,101,97,115,116],bs [109,111,115,116]]
def zD(s:AcG):Bool:=Zn 1 s.data.toList&& !Sr.any (λu=>u.toList==s.toList)
def wB{α:Type}(f:Nat->α->Int):Nat->List α->Int
 |_,[]=>0
 |i,x::xs=>if f i x=0 then wB f (i+1) xs else f i x
theorem zfJ{α:Type}{f:Nat->α->Int}{i k:Nat}{xs:List α}{E:Int}(hk:xs.length<=k)(h:wB f i (xs.drop k)=E):E=0:=by
 rw[AbW hk]at h;exact h.symm
theorem zdu{α:Type}{f:Nat->α->Int}{i k:Nat}{xs:List α}{E:Int}(hk:k<xs.length)(h:wB f i (xs.drop k)=E)(h0:f i xs[k]≠0):E=f i xs[k]:=by
 rw[AaF hk,wB,An h0]at h;exact h.symm
theorem zdv{α:Type}{f:Nat->α->Int}{i k:Nat}{xs:List α}{E:Int}(hk:k<xs.length)(h:wB f i (xs.drop k)=E)(h0:f i xs[k]=0):wB f (i+1) (xs.drop (k+1))=E:=by
 rw[AaF hk,wB,As h0]at h;exact h
theorem OR{α:Type}{f:Nat->α->Int}:∀(xs:List α) (i:Nat),wB f i xs=0->∀(j:Nat) (hj:j<xs.length),f (i+j) xs[j]=0
 |[],i,_,j,hj=>At hj (AaU _)
 |x::xs,i,h,j,hj=>by
  rw[wB]at h
  by_cases h0:f i x=0
  ·rw[As h0]at h
   cases j with
   |zero=>exact h0
   |succ j=>have:=OR xs (i+1) h j (by simpa using hj);rw[show i+(j+1)=i+1+j by omega];simpa using this
  ·rw[An h0]at h;exact At h h0
def DV(ahead:AcP)(v:zQ):Int:=
 if zD v.name=false then 1
 else if(ahead.any λu=>u.name.toList==v.name.toList)=true then 6
 else if(!jP v.lo (-50) 50|| !jP v.hi (-50) 50||decide (v.hi<v.lo))=true then 3
 else if 6<=v.hi-v.lo then 2 else 0
def S5(l:AcP):Int:=wB (λi v=>DV (l.take i) v) 0 l
def farB(n:Int):Bool:= !jP n (-1000) 1000
def qV(nv:Nat)(v:Int):Bool:= !jP v 0 ((nv:Int)-1)
def gX(nv:Nat)(l:zC):Int:=if qV nv l.var=true then 5 else if jP l.op 1 4=false then 7 else if farB l.n=true then 3 else 0
def bP(c:zF):Bool:=
 let v:=c.vars.length;let k:=c.consts.length;let r:=c.rows.length;let l:=c.lits.length
 if 3<c.kind/\c.n≠0 then false
 else if c.kind=1\/c.kind=2\/c.kind=3 then decide (1<=v)&&decide (k=v)&&decide (r=0)&&decide (l=0)
 else if c.kind=4 then decide (1<=v)&&decide (k=0)&&decide (r=0)&&decide (l=0)
 else if c.kind=5 then decide (v=2)&&decide (1<=k)&&decide (r=0)&&decide (l=0)
 else if c.kind=6 then(c.rows.all λr=>decide (r.length=v))&&decide (1<=v)&&decide (k=0)&&decide (l=0)
 else if c.kind=7 then decide (v=3)&&decide (k=0)&&decide (r=0)&&decide (l=0)
 else if c.kind=8 then decide (2<=v)&&decide (k=0)&&decide (r=0)&&decide (l=0)
 else if c.kind=9 then decide (v=0)&&decide (k=0)&&decide (r=0)
 else decide (v=1)&&decide (k=0)&&decide (r=0)&&decide (l=1)
def TZ(c:zF):Bool:=decide (4<c.vars.length)||decide (4<c.lits.length)||decide (8<c.consts.length)||decide (20<c.rows.length)
def opE(l:zC):Int:=if jP l.op 1 4=false then 7 else if farB l.n=true then 3 else 0
def Wh(nv:Nat)(c:zF):Int:=
 if jP c.kind 1 10=false then 7
 else if TZ c=true then 2
 else if bP c=false then 1
 else if(c.vars.any (qV nv)||c.lits.any λl=>qV nv l.var)=true then 5
 else if(c.consts.any farB||farB c.n||c.rows.any λr=>r.any farB)=true then 3
 else wB (λ_ l=>opE l) 0 c.lits
def UM(m:zG):Int:=
 if jP m.goal 0 2=false then 7 else if m.goal=0/\m.var≠0 then 1 else if m.goal≠0/\qV m.vars.length m.var=true then 5 else 0
def xE(m:zG):Int:=
 if m.vars.length=0 then 1
 else if 6<m.vars.length\/8<m.cons.length then 2
 else if S5 m.vars≠0 then S5 m.vars
 else if wB (λ_ c=>Wh m.vars.length c) 0 m.cons≠0 then wB (λ_ c=>Wh m.vars.length c) 0 m.cons
 else UM m
end Go.Proofs.YtogdmcebojiojaaGreatDoor
namespace Go.Proofs
open YtogdmcebojiojaaGreatDoor Go.Proofs.Tryz
open Go.Shelf
def lays137_ren:Go.Shelf.Ren:=⟨fun|137=>153|217=>209|266=>269|n=>n,fun|9=>9|5=>5|3=>3|n=>n,fun|n=>n⟩
theorem lays137:Go.Proofs.Lays.n137 prog lays137_ren:= {
 mixed:=by kernel_rfl
 f137:=func153.trans (Is some (by kernel_rfl))
 f217:=func209.trans (Is some (by kernel_rfl))
 f266:=func269.trans (Is some (by kernel_rfl))
 t3:=underlying3
 a3:=isAgg3
 z3:=sizeOf3
 v3:=zeroValue3
 t5:=underlying5
 a5:=isAgg5
 z5:=sizeOf5
 v5:=zeroValue5
 t9:=underlying9
 a9:=isAgg9
 z9:=sizeOf9
 v9:=zeroValue9}
open Go.RowKit in
theorem strings_IndexByte(s:AcG)(c:Int)(w:World):
  Calls prog 153 #[.string s,.int .u8 c] w λe w'=>e=.returned (.int .i64 (Lib.indexByte s.data.toList c.toNat.toUInt8))/\w'=w:=Any.strings_IndexByte lays137 s c w
def lays172_ren:Go.Shelf.Ren:=⟨fun|172=>210|244=>270|245=>271|247=>302|279=>303|280=>304|281=>305|282=>306|287=>314|316=>315|171=>57|205=>316|321=>318|322=>319|243=>107|246=>173|283=>227|284=>228|285=>229|286=>230|129=>268|317=>274|318=>275|319=>276|320=>277|337=>307|338=>308|n=>n,fun|9=>9|3=>3|75=>103|76=>104|4=>4|5=>5|167=>310|37=>97|0=>0|85=>311|2=>2|168=>313|53=>250|175=>321|46=>236|210=>325|127=>174|145=>333|143=>331|21=>21|171=>249|173=>253|212=>281|51=>277|20=>20|213=>282|232=>327|233=>328|80=>86|n=>n,fun|15=>2|16=>3|17=>0|18=>4|19=>5|n=>n⟩
theorem lays172:Go.Proofs.Lays.n172 prog lays172_ren:= {
 mixed:=by kernel_rfl
 f129:=func268.trans (Is some (by kernel_rfl))
 f171:=func57.trans (Is some (by kernel_rfl))
 f172:=func210.trans (Is some (by kernel_rfl))
 f205:=func316.trans (Is some (by kernel_rfl))
 f243:=func107.trans (Is some (by kernel_rfl))
 f244:=func270.trans (Is some (by kernel_rfl))
 f245:=func271.trans (Is some (by kernel_rfl))
 f246:=func173.trans (Is some (by kernel_rfl))
 f247:=func302.trans (Is some (by kernel_rfl))
 f279:=func303.trans (Is some (by kernel_rfl))
 f280:=func304.trans (Is some (by kernel_rfl))
 f281:=func305.trans (Is some (by kernel_rfl))
 f282:=func306.trans (Is some (by kernel_rfl))
 f283:=func227.trans (Is some (by kernel_rfl))
 f284:=func228.trans (Is some (by kernel_rfl))
 f285:=func229.trans (Is some (by kernel_rfl))
 f286:=func230.trans (Is some (by kernel_rfl))
 f287:=func314.trans (Is some (by kernel_rfl))
 f316:=func315.trans (Is some (by kernel_rfl))
 f317:=func274.trans (Is some (by kernel_rfl))
 f318:=func275.trans (Is some (by kernel_rfl))
 f319:=func276.trans (Is some (by kernel_rfl))
 f320:=func277.trans (Is some (by kernel_rfl))
 f321:=func318.trans (Is some (by kernel_rfl))
 f322:=func319.trans (Is some (by kernel_rfl))
 f337:=func307.trans (Is some (by kernel_rfl))
 f338:=func308.trans (Is some (by kernel_rfl))
 t0:=underlying0
 a0:=isAgg0
 z0:=sizeOf0
 v0:=zeroValue0
 t2:=underlying2
 a2:=isAgg2
 z2:=sizeOf2
 v2:=zeroValue2
 t3:=underlying3
 a3:=isAgg3
 z3:=sizeOf3
 v3:=zeroValue3
 t4:=underlying4
 a4:=isAgg4
 z4:=sizeOf4
 v4:=zeroValue4
 t5:=underlying5
 a5:=isAgg5
 z5:=sizeOf5
 v5:=zeroValue5
 t9:=underlying9
 a9:=isAgg9
 z9:=sizeOf9
 v9:=zeroValue9
 t20:=underlying20
 a20:=isAgg20
 z20:=sizeOf20
 v20:=zeroValue20
 t21:=underlying21
 a21:=isAgg21
 z21:=sizeOf21
 v21:=zeroValue21
 t37:=underlying97
 a37:=isAgg97
 z37:=sizeOf97
 v37:=zeroValue97
 t46:=underlying236
 a46:=isAgg236
 z46:=sizeOf236
 v46:=zeroValue236
 t51:=underlying277
 a51:=isAgg277
 z51:=sizeOf277
 v51:=zeroValue277
 t53:=underlying250
 a53:=isAgg250
 z53:=sizeOf250
 v53:=zeroValue250
 t75:=underlying103
 a75:=isAgg103
 z75:=sizeOf103
 v75:=zeroValue103
 t76:=underlying104
 a76:=isAgg104
 z76:=sizeOf104
 v76:=zeroValue104
 t85:=underlying311
 a85:=isAgg311
 z85:=sizeOf311
 v85:=zeroValue311
 t127:=underlying174
 a127:=isAgg174
 z127:=sizeOf174
 v127:=zeroValue174
 t143:=underlying331
 a143:=isAgg331
 z143:=sizeOf331
 v143:=zeroValue331
 t145:=underlying333
 a145:=isAgg333
 z145:=sizeOf333
 v145:=zeroValue333
 t167:=underlying310
 a167:=isAgg310
 z167:=sizeOf310
 v167:=zeroValue310
 t168:=underlying313
 a168:=isAgg313
 z168:=sizeOf313
 v168:=zeroValue313
 t171:=underlying249
 a171:=isAgg249
 z171:=sizeOf249
 v171:=zeroValue249
 t173:=underlying253
 a173:=isAgg253
 z173:=sizeOf253
 v173:=zeroValue253
 t175:=underlying321
 a175:=isAgg321
 z175:=sizeOf321
 v175:=zeroValue321
 t210:=underlying325
 a210:=isAgg325
 z210:=sizeOf325
 v210:=zeroValue325
 t212:=underlying281
 a212:=isAgg281
 z212:=sizeOf281
 v212:=zeroValue281
 t213:=underlying282
 a213:=isAgg282
 z213:=sizeOf282
 t232:=underlying327
 a232:=isAgg327
 z232:=sizeOf327
 v232:=zeroValue327
 t233:=underlying328
 a233:=isAgg328
 z233:=sizeOf328
 v233:=zeroValue328
 g15:=by kernel_rfl
 g16:=by kernel_rfl
 g17:=by kernel_rfl
 g18:=by kernel_rfl
 g19:=by kernel_rfl}
open Go.RowKit in
theorem strconv_Atoi(s:AcG)(n:Int)(hl:s.size<=18)(h:Lib.atoi s.data.toList=some n)(w:World):
  Calls prog 210 #[.string s] w λe w'=>e=.returned (.tuple #[.int .i64 n,.nilIface])/\∃t,w'=Lib.bytesWorld w 5 t:=Any.strconv_Atoi lays172 s n hl h w
def laysM171_ren:Go.Shelf.Ren:=⟨fun|171=>57|243=>107|246=>173|283=>227|284=>228|285=>229|286=>230|129=>268|317=>274|318=>275|319=>276|320=>277|337=>307|338=>308|n=>n,fun|3=>3|9=>9|2=>2|4=>4|171=>249|0=>0|53=>250|37=>97|5=>5|173=>253|212=>281|51=>277|20=>20|213=>282|46=>236|232=>327|233=>328|n=>n,fun|17=>0|18=>4|19=>5|n=>n⟩
theorem laysM171:Go.Proofs.LaysM.n171 prog laysM171_ren:= {
 mixed:=by kernel_rfl
 f129:=func268.trans (Is some (by kernel_rfl))
 f171:=func57.trans (Is some (by kernel_rfl))
 f243:=func107.trans (Is some (by kernel_rfl))
 f246:=func173.trans (Is some (by kernel_rfl))
 f283:=func227.trans (Is some (by kernel_rfl))
 f284:=func228.trans (Is some (by kernel_rfl))
 f285:=func229.trans (Is some (by kernel_rfl))
 f286:=func230.trans (Is some (by kernel_rfl))
 f317:=func274.trans (Is some (by kernel_rfl))
 f318:=func275.trans (Is some (by kernel_rfl))
 f319:=func276.trans (Is some (by kernel_rfl))
 f320:=func277.trans (Is some (by kernel_rfl))
 f337:=func307.trans (Is some (by kernel_rfl))
 f338:=func308.trans (Is some (by kernel_rfl))
 t0:=underlying0
 a0:=isAgg0
 z0:=sizeOf0
 v0:=zeroValue0
 t2:=underlying2
 a2:=isAgg2
 z2:=sizeOf2
 v2:=zeroValue2
 t3:=underlying3
 a3:=isAgg3
 z3:=sizeOf3
 v3:=zeroValue3
 t4:=underlying4
 a4:=isAgg4
 z4:=sizeOf4
 v4:=zeroValue4
 t5:=underlying5
 a5:=isAgg5
 z5:=sizeOf5
 v5:=zeroValue5
 t9:=underlying9
 a9:=isAgg9
 z9:=sizeOf9
 v9:=zeroValue9
 t20:=underlying20
 a20:=isAgg20
 z20:=sizeOf20
 v20:=zeroValue20
 t37:=underlying97
 a37:=isAgg97
 z37:=sizeOf97
 v37:=zeroValue97
 t46:=underlying236
 a46:=isAgg236
 z46:=sizeOf236
 v46:=zeroValue236
 t51:=underlying277
 a51:=isAgg277
 z51:=sizeOf277
 v51:=zeroValue277
 t53:=underlying250
 a53:=isAgg250
 z53:=sizeOf250
 v53:=zeroValue250
 t171:=underlying249
 a171:=isAgg249
 z171:=sizeOf249
 v171:=zeroValue249
 t173:=underlying253
 a173:=isAgg253
 z173:=sizeOf253
 v173:=zeroValue253
 t212:=underlying281
 a212:=isAgg281
 z212:=sizeOf281
 v212:=zeroValue281
 t213:=underlying282
 a213:=isAgg282
 z213:=sizeOf282
 t232:=underlying327
 a232:=isAgg327
 z232:=sizeOf327
 v232:=zeroValue327
 t233:=underlying328
 a233:=isAgg328
 z233:=sizeOf328
 v233:=zeroValue328
 g17:=by kernel_rfl
 g18:=by kernel_rfl
 g19:=by kernel_rfl
 i0:=by kernel_rfl
 i2:=by kernel_rfl
 i3:=by kernel_rfl
 i4:=by kernel_rfl
 i5:=by kernel_rfl
 i9:=by kernel_rfl
 i20:=by kernel_rfl
 i37:=by kernel_rfl
 i46:=by kernel_rfl
 i51:=by kernel_rfl
 i53:=by kernel_rfl
 i171:=by kernel_rfl
 i173:=by kernel_rfl
 i212:=by kernel_rfl
 i232:=by kernel_rfl
 i233:=by kernel_rfl
 m17:=by kernel_rfl
 m18:=by kernel_rfl
 m19:=by kernel_rfl}
open Go.RowKit Go.Sort Go.Lib in
theorem strconv_Itoa(n:Int)(h0: -9223372036854775808<=n)(h1:n<=9223372036854775807)(w:World)(htab:Lib.TabIs prog w "internal/strconv.uint64pow10" .u64 Lib.pow10Tab):
  Calls prog 57 #[.int .i64 n] w λe w'=>e=.returned (.string ⟨(Lib.itoa n).toArray⟩)/\∃k os,w'=grow (w.drewN k) os:=Any.strconv_Itoa laysM171 n h0 h1 w htab
def lays189_ren:Go.Shelf.Ren:=⟨fun|189=>142|125=>206|257=>205|128=>267|129=>268|294=>258|295=>259|296=>260|297=>261|298=>262|299=>263|216=>264|300=>265|301=>266|328=>296|329=>297|330=>298|331=>299|332=>300|215=>301|343=>313|n=>n,fun|28=>40|3=>3|46=>236|0=>0|51=>277|53=>250|4=>4|183=>271|182=>270|131=>203|5=>5|9=>9|218=>304|222=>308|228=>319|229=>161|n=>n,fun|n=>n⟩
theorem lays189:Go.Proofs.Lays.n189 prog lays189_ren:= {
 mixed:=by kernel_rfl
 f125:=func206.trans (Is some (by kernel_rfl))
 f128:=func267.trans (Is some (by kernel_rfl))
 f129:=func268.trans (Is some (by kernel_rfl))
 f189:=func142.trans (Is some (by kernel_rfl))
 f215:=func301.trans (Is some (by kernel_rfl))
 f216:=func264.trans (Is some (by kernel_rfl))
 f257:=func205.trans (Is some (by kernel_rfl))
 f294:=func258.trans (Is some (by kernel_rfl))
 f295:=func259.trans (Is some (by kernel_rfl))
 f296:=func260.trans (Is some (by kernel_rfl))
 f297:=func261.trans (Is some (by kernel_rfl))
 f298:=func262.trans (Is some (by kernel_rfl))
 f299:=func263.trans (Is some (by kernel_rfl))
 f300:=func265.trans (Is some (by kernel_rfl))
 f301:=func266.trans (Is some (by kernel_rfl))
 f328:=func296.trans (Is some (by kernel_rfl))
 f329:=func297.trans (Is some (by kernel_rfl))
 f330:=func298.trans (Is some (by kernel_rfl))
 f331:=func299.trans (Is some (by kernel_rfl))
 f332:=func300.trans (Is some (by kernel_rfl))
 f343:=func313.trans (Is some (by kernel_rfl))
 t0:=underlying0
 a0:=isAgg0
 z0:=sizeOf0
 v0:=zeroValue0
 t3:=underlying3
 a3:=isAgg3
 z3:=sizeOf3
 v3:=zeroValue3
 t4:=underlying4
 a4:=isAgg4
 z4:=sizeOf4
 v4:=zeroValue4
 t5:=underlying5
 a5:=isAgg5
 z5:=sizeOf5
 v5:=zeroValue5
 t9:=underlying9
 a9:=isAgg9
 z9:=sizeOf9
 v9:=zeroValue9
 t28:=underlying40
 a28:=isAgg40
 z28:=sizeOf40
 v28:=zeroValue40
 t46:=underlying236
 a46:=isAgg236
 z46:=sizeOf236
 v46:=zeroValue236
 t51:=underlying277
 a51:=isAgg277
 z51:=sizeOf277
 v51:=zeroValue277
 t53:=underlying250
 a53:=isAgg250
 z53:=sizeOf250
 v53:=zeroValue250
 t131:=underlying203
 a131:=isAgg203
 z131:=sizeOf203
 v131:=zeroValue203
 t182:=underlying270
 a182:=isAgg270
 z182:=sizeOf270
 v182:=zeroValue270
 t183:=underlying271
 a183:=isAgg271
 z183:=sizeOf271
 v183:=zeroValue271
 t218:=underlying304
 a218:=isAgg304
 z218:=sizeOf304
 v218:=zeroValue304
 t222:=underlying308
 a222:=isAgg308
 z222:=sizeOf308
 v222:=zeroValue308
 t228:=underlying319
 a228:=isAgg319
 z228:=sizeOf319
 v228:=zeroValue319
 t229:=underlying161
 a229:=isAgg161
 z229:=sizeOf161
 v229:=zeroValue161}
open Go.Sort Go.RowKit in
theorem slices_Sort_int(blk off cap:Nat)(zs:AcK)(w:World)(hH:Holds (Value.int .i64) w blk off zs.toArray)(hblk:blk<w.heap.size)(hsz:zs.length<4611686018427387904):
  Calls prog 142 #[.slice (some ⟨blk,off,none⟩) zs.length cap] w λe w'=>
   e=.returned (.tuple #[])/\∃n os,w'=grow (putRow (Value.int .i64) (Sort.ahead w n) blk off (zs.mergeSort λx y=>decide (x<=y)).toArray) os:=Any.slices_Sort_int lays189 blk off cap zs w hH hblk hsz
def lays99_ren:Go.Shelf.Ren:=⟨fun|99=>152|206=>208|n=>n,fun|9=>9|4=>4|3=>3|n=>n,fun|n=>n⟩
theorem lays99:Go.Proofs.Lays.n99 prog lays99_ren:= {
 mixed:=by kernel_rfl
 f99:=func152.trans (Is some (by kernel_rfl))
 f206:=func208.trans (Is some (by kernel_rfl))
 t3:=underlying3
 a3:=isAgg3
 z3:=sizeOf3
 v3:=zeroValue3
 t4:=underlying4
 a4:=isAgg4
 z4:=sizeOf4
 v4:=zeroValue4
 t9:=underlying9
 a9:=isAgg9
 z9:=sizeOf9
 v9:=zeroValue9}
open Go.RowKit Go.Lib in
theorem strings_HasPrefix(s p:AcG)(w:World):
  Calls prog 152 #[.string s,.string p] w λe w'=>e=.returned (.bool (Lib.hasPrefix s.data.toList p.data.toList))/\w'=w:=Any.strings_HasPrefix lays99 s p w
def lays110_ren:Go.Shelf.Ren:=⟨fun|110=>219|109=>273|n=>n,fun|31=>92|9=>9|4=>4|3=>3|0=>0|n=>n,fun|n=>n⟩
theorem lays110:Go.Proofs.Lays.n110 prog lays110_ren:= {
 mixed:=by kernel_rfl
 f109:=func273.trans (Is some (by kernel_rfl))
 f110:=func219.trans (Is some (by kernel_rfl))
 t0:=underlying0
 a0:=isAgg0
 z0:=sizeOf0
 v0:=zeroValue0
 t3:=underlying3
 a3:=isAgg3
 z3:=sizeOf3
 v3:=zeroValue3
 t4:=underlying4
 a4:=isAgg4
 z4:=sizeOf4
 v4:=zeroValue4
 t9:=underlying9
 a9:=isAgg9
 z9:=sizeOf9
 v9:=zeroValue9
 t31:=underlying92
 a31:=isAgg92
 z31:=sizeOf92
 v31:=zeroValue92}
open Go.Lib in
theorem slices_Contains_string(b off n c:Nat)(zs:AcX)(x:AcG)(w:World)(hz:n<=zs.length)(hbig:n<=9223372036854775807)(hc:∀j,j<zs.length->w.cell? ⟨b,off+j,none⟩=some (.string (zs.getD j ByteArray.empty))):
  Calls prog 219 #[.slice (some ⟨b,off,none⟩) n c,.string x] w λe w'=>e=.returned (.bool (Lib.containsS (zs.take n) x))/\w'=w:=Any.slices_Contains_string lays110 b off n c zs x w hz hbig hc
def laysNm220_ren:Go.Shelf.Ren:=⟨fun|20=>143|n=>n,fun|22=>40|3=>3|4=>4|0=>0|n=>n,fun|n=>n⟩
theorem laysNm220:Go.Proofs.Lays2.n20 prog laysNm220_ren:= {
 mixed:=by kernel_rfl
 f20:=func143.trans (Is some (by kernel_rfl))
 t0:=underlying0
 a0:=isAgg0
 z0:=sizeOf0
 v0:=zeroValue0
 t3:=underlying3
 a3:=isAgg3
 z3:=sizeOf3
 v3:=zeroValue3
 t4:=underlying4
 a4:=isAgg4
 z4:=sizeOf4
 v4:=zeroValue4
 t22:=underlying40
 a22:=isAgg40
 z22:=sizeOf40
 v22:=zeroValue40
 i3:=by kernel_rfl}
open Go.RowKit Go.Lib Go.Sort in
theorem slices_Compact_int(blk off cap:Nat)(zs:AcK)(w:World)(hH:Holds (Value.int .i64) w blk off zs.toArray)(hsz:zs.length<=9223372036854775807)(hcap:zs.length<=cap):
  Calls prog 143 #[.slice (some ⟨blk,off,none⟩) zs.length cap] w λe w'=>e=.returned (.slice (some ⟨blk,off,none⟩) (Lib.compact zs).length cap)/\∃q,w'=putRow (Value.int .i64) (Sort.ahead w q) blk off (Lib.compact zs++List.replicate (zs.length-(Lib.compact zs).length) 0).toArray:=Any.slices_Compact_int laysNm220 blk off cap zs w hH hsz hcap
open Go.RowKit Go.Lib Go.Sort in
theorem slices_Compact_int_empty(a:Option Addr)(cap:Nat)(w:World):
  Calls prog 143 #[.slice a 0 cap] w λe w'=>e=.returned (.slice a 0 cap)/\w'=w:=Any.slices_Compact_int_empty laysNm220 a cap w
open Go.RowKit Go.Sort in
theorem slices_Sort_int_none(p:Option Addr)(cap:Nat)(w:World):
  Calls prog 142 #[.slice p 0 cap] w λe w'=>e=.returned (.tuple #[])/\w'=w:=Any.slices_Sort_int_none lays189 p cap w
end Go.Proofs
namespace Go.Proofs.YtogdmcebojiojaaGreatDoor
open Go.Proofs.Tryz
open Go.RowKit
theorem Yr(n:Nat)(hn:n<256)(w:World):Calls prog 145 #[.int .u8 n] w λe w'=>e=.returned (.bool (UL n))/\w=w':=by
 go_enter func145,ntmps145
 go_wp2
 all_goals go_ret
 all_goals exact⟨bK (by rw[Aap];simp[UL];try omega),rfl⟩
theorem Uu(n:Nat)(hn:n<256)(w:World):Calls prog 148 #[.int .u8 n] w λe w'=>e=.returned (.bool (isDN n))/\w=w':=by
 go_enter func148,ntmps148
 go_wp2
 all_goals go_ret
 all_goals exact⟨bK (by rw[Aap];simp[isDN];try omega),rfl⟩
theorem Fj(n a b:Int)(w:World):Calls prog 61 #[.int .i64 n,.int .i64 a,.int .i64 b] w λe w'=>e=.returned (.bool (decide (a<=n)&&decide (n<=b)))/\w=w':=by
 go_enter func61,ntmps61
 go_wp2
 all_goals go_ret
 all_goals exact⟨bK (by rw[Aap];simp;try omega),rfl⟩
theorem jY(n:Nat)(hn:n<256)(w:World):Calls prog 171 #[.int .u8 n] w λe w'=>e=.returned (.bool (UL n))/\w=w':=by
 go_enter func171,ntmps171
 go_wp2_with (go_at_call 61;refine(Fj _ _ _ _).mono ?_;rintro e w' ⟨rfl,rfl⟩)
 go_ret
 exact⟨bK (by rw[Aap];simp[UL];try omega),rfl⟩
theorem fu(n:Nat)(hn:n<256)(w:World):Calls prog 101 #[.int .u8 n] w λe w'=>e=.returned (.bool (isDN n))/\w=w':=by
 go_enter func101,ntmps101
 go_wp2_with (go_at_call 61;refine(Fj _ _ _ _).mono ?_;rintro e w' ⟨rfl,rfl⟩)
 go_ret
 exact⟨bK (by rw[Aap];simp[isDN];try omega),rfl⟩
theorem zku(n:Nat)(hn:n<256)(w:World):Calls prog 147 #[.int .u8 n] w λe w'=>e=.returned (.bool (UL n||isDN n))/\w=w':=by
 cases hl:UL n with
 |true=>
  go_enter func147,ntmps147
  go_wp2_with (go_at_call 145;refine(Yr _ hn _).mono ?_;rintro e w' ⟨rfl,rfl⟩)
  go_ret
  exact⟨by simp,rfl⟩
 |false=>
  go_enter func147,ntmps147
  go_wp2_with (first|(go_at_call 145;refine(Yr _ hn _).mono ?_;rintro e w' ⟨rfl,rfl⟩)|(go_at_call 148;refine(Uu _ hn _).mono ?_;rintro e w' ⟨rfl,rfl⟩))
  go_ret
  exact⟨by simp,rfl⟩
theorem Z9{c:UInt8}{k:Nat}(hk:k<256)(h:c=UInt8.ofNat k):((c.toNat:Int)==(k:Int))=true:=by
 subst h;simp;omega
theorem lK{c:UInt8}{k:Nat}(hk:k<256)(h:c≠UInt8.ofNat k):((c.toNat:Int)==(k:Int))=false:=by
 rw[beq_eq_false_iff_ne];intro e;exact h (by rw[<-UInt8.toNat_inj];simp;omega)
theorem OS{c:UInt8}{r:AcT}{l:AcT}{i n:Nat}(hd:l.drop i=c::l.drop (i+1))(h37:c≠37)(hb:fo c=true)(h:i+tW (l.drop i) false=n):i+1+tW (l.drop (i+1)) false=n:=by
 rw[hd,tW,An (by simpa using h37),As hb]at h;omega
theorem zfK{c:UInt8}{l:AcT}{i n:Nat}(hd:l.drop i=c::l.drop (i+1))(h37:c≠37)(hb:fo c=false)(h:i+tW (l.drop i) false=n):i=n:=by
 rw[hd,tW,An (by simpa using h37),An (by simp[hb])]at h;omega
theorem zfL{l:AcT}{i n:Nat}(hd:l.drop i=37::l.drop (i+1))(h:i+tW (l.drop i) false=n):i+tW (l.drop i) true=n:=by
 rw[hd,tW,As (by simp)]at h
 rw[hd,tW,An (by decide)];exact h
theorem zkv{c:UInt8}{l:AcT}{i n:Nat}(hd:l.drop i=c::l.drop (i+1))(h10:c≠10)(h:i+tW (l.drop i) true=n):i+1+tW (l.drop (i+1)) true=n:=by
 rw[hd,tW,An (by simpa using h10)]at h;omega
theorem zit{l:AcT}{i n:Nat}(hd:l.drop i=10::l.drop (i+1))(h:i+tW (l.drop i) true=n):i+tW (l.drop i) false=n:=by
 rw[hd,tW,As (by simp)]at h
 rw[hd,tW,An (by decide),As (by decide)];exact h
theorem zax{l:AcT}{i n:Nat}(hl:l.length<=i)(note:Bool)(h:i+tW (l.drop i) note=n):i=n/\i+tW (l.drop i) false=n:=by
 rw[Abt hl]at h⊢
 simp[tW]at h⊢;exact h
set_option maxHeartbeats 1000000 in
theorem zdw(g:Nat)(s:AcG)(i0:Nat)(w:World)(hs:s.size<=4000)(h0:i0<=s.size)(hb:vR w g 152 #[.string s,.int .i64 i0]):
  Calls prog 91 #[.pointer (some ⟨g,0,none⟩)] w λe w'=>e=.returned (.tuple #[])/\
   vR w' g 152 #[.string s,.int .i64 ↑(i0+tW (s.data.toList.drop i0) false)]/\w.grownBy w' (some g):=by
 go_enter func91,ntmps91
 go_wp2
 go_loopg [] (s.size) (λk wr=>∃i:Nat,i<=s.size/\s.size-i<=k/\Hid (vR wr g 152 #[.string s,.int .i64 i])/\Hid (i+tW (s.data.toList.drop i) false=i0+tW (s.data.toList.drop i0) false)/\w.grownBy wr (some g))
 case atStart=>exact⟨i0,h0,by omega,hb,rfl,World.grownBy.refl _ _⟩
 case round=>
  obtain⟨i,hi,hk,hB,hE,hG⟩:=hrel;obtain⟨wo,rfl⟩:∃wo:World,wo=wr:=⟨_,rfl⟩;have c0:wo.cell? ⟨g,0,none⟩=some (.string s):=hB.out.cell 0;have c1:wo.cell? ⟨g,1,none⟩=some (.int .i64 i):=hB.out.cell 1;have f1:wo.frozen? ⟨g,1,none⟩=false:=hB.out.frozen 1;clear h0 hb
  by_cases hlt:i<s.size
  ·have hlt':(i:Int)<(s.size:Int):=by omega
   have hd:=Lib.hid (jS s i hlt)
   by_cases e37:s[i]=37
   ·have y37:=Z9 (k:=37) (by omega) e37
    have n32:=lK (c:=s[i]) (k:=32) (by omega) (by rw[e37];decide)
    have n9:=lK (c:=s[i]) (k:=9) (by omega) (by rw[e37];decide)
    have n10:=lK (c:=s[i]) (k:=10) (by omega) (by rw[e37];decide)
    have E37:=Lib.hid e37;clear e37
    go_wp2
    go_quiet (fail)
    go_wp2
    go_quiet (fail)
    go_wp2
    go_loopg [] (s.size) (λk wq=>∃j:Nat,i<=j/\j<=s.size/\s.size-j<=k/\Hid (vR wq g 152 #[.string s,.int .i64 j])/\Hid (j+tW (s.data.toList.drop j) true=i0+tW (s.data.toList.drop i0) false)/\w.grownBy wq (some g))
    case atStart=>exact⟨i,by omega,hi,by omega,hB.out.drewN _,zfL (by rw[hd.out,E37.out]) hE.out,uJ hG _⟩
    case round=>
     obtain⟨j,hij,hj,hk2,hB2,hE2,hG2⟩:=hrel;have d0:wr.cell? ⟨g,0,none⟩=some (.string s):=hB2.out.cell 0;have d1:wr.cell? ⟨g,1,none⟩=some (.int .i64 j):=hB2.out.cell 1;have d2:wr.frozen? ⟨g,1,none⟩=false:=hB2.out.frozen 1;clear hB hE hG c0 c1 f1
     by_cases hjl:j<s.size
     ·have hjl':(j:Int)<(s.size:Int):=by omega
      have hd2:=Lib.hid (jS s j hjl)
      by_cases e10:s[j]=10
      ·have y10':((s[j].toNat:Int) !=10)=false:=by rw[e10];decide
       have hne:i≠j:=by
        rintro rfl;have:=E37.out;rw[e10]at this
        exact At this (by decide)
       have E10:=Lib.hid e10;clear e10 y37 n32 n9 n10
       go_wp2
       go_quiet (fail)
       go_wp2
       go_roundg (s.size-j)
       case measure=>omega
       case rel=>exact⟨j,by omega,by omega,hB2.out.drewN _,zit (by rw[hd2.out,E10.out]) hE2.out,uJ hG2 _⟩
      ·have y10':((s[j].toNat:Int) !=10)=true:=by
        rw[bne_iff_ne];intro e;exact e10 (by rw[<-UInt8.toNat_inj];simp;omega)
       have E10:=Lib.hid e10;clear e10 y37 n32 n9 n10
       go_wp2
       go_quiet (fail)
       go_wp2
       go_roundg (s.size-(j+1))
       case measure=>omega
       case rel=>exact⟨j+1,by omega,by omega,by omega,(hB2.out.drewN _).set_ 1 _,zkv hd2.out E10.out hE2.out,sX (uJ hG2 _) (.inl rfl) _⟩
     ·have hjl':decide ((j:Int)<(s.size:Int))=false:=by simp;omega
      clear y37 n32 n9 n10
      go_wp2
      go_quiet (fail)
      go_wp2
      go_roundg (s.size-j)
      case measure=>omega
      case rel=>exact⟨j,by omega,by omega,hB2.out.drewN _,(zax (by simpa using hjl) true hE2.out).2,uJ hG2 _⟩
   ·have n37:=lK (k:=37) (by omega) e37
    have N37:=Lib.hid e37;clear e37
    by_cases e32:s[i]=32
    ·have y32:=Z9 (k:=32) (by omega) e32
     have hbl:fo s[i]=true:=by simp[fo,e32]
     have BL:=Lib.hid hbl;clear e32 n37 hbl
     go_wp2
     go_quiet (fail)
     go_wp2
     go_quiet (fail)
     go_wp2
     go_roundg (s.size-(i+1))
     case measure=>omega
     case rel=>exact⟨i+1,by omega,by omega,(hB.out.drewN _).set_ 1 _,OS (r:=[]) hd.out N37.out BL.out hE.out,sX (uJ hG _) (.inl rfl) _⟩
    ·have n32:=lK (k:=32) (by omega) e32
     by_cases e9:s[i]=9
     ·have y9:=Z9 (k:=9) (by omega) e9
      have hbl:fo s[i]=true:=by simp[fo,e9]
      have BL:=Lib.hid hbl;clear e9 e32 n37 hbl
      go_wp2
      go_quiet (fail)
      go_wp2
      go_quiet (fail)
      go_wp2
      go_roundg (s.size-(i+1))
      case measure=>omega
      case rel=>exact⟨i+1,by omega,by omega,(hB.out.drewN _).set_ 1 _,OS (r:=[]) hd.out N37.out BL.out hE.out,sX (uJ hG _) (.inl rfl) _⟩
     ·have n9:=lK (k:=9) (by omega) e9
      by_cases e10:s[i]=10
      ·have y10:=Z9 (k:=10) (by omega) e10
       have hbl:fo s[i]=true:=by simp[fo,e10]
       have BL:=Lib.hid hbl;clear e10 e9 e32 n37 hbl
       go_wp2
       go_quiet (fail)
       go_wp2
       go_quiet (fail)
       go_wp2
       go_roundg (s.size-(i+1))
       case measure=>omega
       case rel=>exact⟨i+1,by omega,by omega,(hB.out.drewN _).set_ 1 _,OS (r:=[]) hd.out N37.out BL.out hE.out,sX (uJ hG _) (.inl rfl) _⟩
      ·have n10:=lK (k:=10) (by omega) e10
       have hbl:fo s[i]=false:=by simp[fo,e10,e9,e32]
       have BL:=Lib.hid hbl;clear e10 e9 e32 hbl
       go_wp2
       go_quiet (fail)
       go_wp2
       go_quiet (fail)
       go_wp2
       have hfin:=zfK hd.out N37.out BL.out hE.out;rw[<-hfin];refine bodyPost_ret (results_none rfl _ _ _) rfl ?_;exact⟨rfl,hB.out.drewN _,uJ hG _⟩
  ·have hlt':¬(i:Int)<(s.size:Int):=by omega
   go_wp2
   go_quiet (fail)
   go_wp2
   have hfin:=(zax (by simpa using hlt) false hE.out).1
   rw[<-hfin]
   go_end0
   exact⟨rfl,hB.out.drewN _,uJ hG _⟩
end Go.Proofs.YtogdmcebojiojaaGreatDoor
namespace Go.Proofs.YtogdmcebojiojaaGreatDoor
open Go.Proofs.Tryz
open Go.RowKit
def zfM{α:Type}(p:α->Bool)(xs:List α):Int:=match xs.findIdx? p with|some i=>i|none=> -1
theorem zkw{α:Type}{p:α->Bool}{xs:List α}{k:Nat}(hk:k<xs.length)(h:∀j (hj:j<k),p (xs[j]'(by omega))=false)(hp:p xs[k]=true):zfM p xs=k:=by
 unfold zfM
 have:xs.findIdx? p=some k:=by
  rw[List.findIdx?_eq_some_iff_getElem];exact⟨hk,hp,λj hj=>by simp[h j hj]⟩
 rw[this]
theorem ziu{α:Type}{p:α->Bool}{xs:List α}(h:∀j (hj:j<xs.length),p xs[j]=false):zfM p xs= -1:=by
 unfold zfM
 have:xs.findIdx? p=none:=by
  rw[List.findIdx?_eq_none_iff];intro x hx;obtain⟨j,hj,rfl⟩:=Aal hx;exact h j hj
 rw[this]
theorem zkx{α:Type}(p:α->Bool)(xs:List α):decide (0<=zfM p xs)=xs.any p:=by
 unfold zfM;rw[Aap];cases h:xs.findIdx? p with
 |none=>
  rw[List.findIdx?_eq_none_iff]at h
  simp only[decide_eq_true_eq,Aay];constructor
  ·intro h';omega
  ·rintro⟨x,hx,hp⟩;simp[h x hx]at hp
 |some i=>
  rw[List.findIdx?_eq_some_iff_getElem]at h
  obtain⟨hi,hp,_⟩:=h;simp only[decide_eq_true_eq,Aay];exact⟨λ_=>⟨_,AS hi,hp⟩,λ_=>by omega⟩
def zn4{α:Type}[vV α](P:AcJ)(F:AcH)(lb:Array Value)(w:World)(xs:List α)(p:α->Bool):Prop:=
 ∀(W:World) (v:Value) (x:α),x∈xs->Below w.heap.size w W->Rds W v x->Calls P F (#[v]++lb) W λe W'=>e=.returned (.bool (p x))/\Below W.heap.size W W'
section
variable {w:World}{S:Nat->Prop}
end
theorem B8(F:AcH)(lb:Array Value)(eg:∀args w,(callFunc F args).run prog w=.ok (.enter F args) w)(v:Value)(xs:AcX)(p:AcG->Bool)(w:World)(hr:Rds w v xs)(hf:zn4 prog F lb w xs p):
  Calls prog 207 #[v,.func (.func F) #[] lb] w λe w'=>e=.returned (.int .i64 (zfM p xs))/\Below w.heap.size w w':=by
 obtain⟨A,c,rfl,hsl⟩:=rN hr;have hlen:xs.length<=9223372036854775807:=Aai hsl.cap hsl.max;clear hsl
 go_enter func207,ntmps207
 go_wp2_with fail
 go_loopg [5,8] xs.length (λgg s5 s8 wr=>∃k:Nat,k<=xs.length/\xs.length-k<=gg/\s8=.int .i64 k/\Below w.heap.size w wr/\Aside (∀j (hj:j<k) (hl:j<xs.length),p xs[j]=false))
 case atStart=>exact⟨0,AT _,by omega,rfl,Below.refl _ _,λj hj=>At hj (AaU _)⟩
 case round=>
  obtain⟨k,hk,hg,rfl,hB,hN⟩:=hrel
  by_cases hlt:k<xs.length
  ·have hlt':(k:Int)<(xs.length:Int):=by omega
   obtain⟨b,o,rfl,hb,c0,q0⟩:=zfh (hr.below hB) hlt;have hcall:=hf wr (.string xs[k]) xs[k] (AS hlt) hB (zfg q0);cases hq:p xs[k]with
   |true=>
    rw[hq]at hcall
    have HC:=Lib.hid hcall;have HQ:=Lib.hid hq;have HF:=Lib.hid hf;clear hcall hq hf
    go_wp2_with (go_at_fn F;refine HC.out.mono ?_;rintro e w1 ⟨rfl,hb1⟩)
    go_ret
    exact⟨by rw[zkw hlt (λj hj=>hN.out j hj (by omega)) HQ.out];rfl,Jn hB hb1⟩
   |false=>
    rw[hq]at hcall
    have HC:=Lib.hid hcall;have HQ:=Lib.hid hq;have HF:=Lib.hid hf;clear hcall hq hf
    go_wp2_with (go_at_fn F;refine HC.out.mono ?_;rintro e w1 ⟨rfl,hb1⟩)
    go_roundg (xs.length-(k+1))
    case measure=>omega
    case rel=>
     refine⟨k+1,by omega,by omega,by go_num,Jn hB hb1,(show Aside _ from λj hj hl=> ?_)⟩
     by_cases e:j=k
     ·subst e;exact HQ.out
     ·exact hN.out j (by omega) hl
  ·have hlt':¬(k:Int)<(xs.length:Int):=by omega
   obtain rfl:k=xs.length:=by omega
   have HF:=Lib.hid hf;clear hf
   go_wp2_with fail
   go_ret
   exact⟨by rw[ziu (λj hj=>hN.out j hj hj)];rfl,hB⟩
theorem Ht(F:AcH)(lb:Array Value)(eg:∀args w,(callFunc F args).run prog w=.ok (.enter F args) w)(v:Value)(xs:AcX)(p:AcG->Bool)(w:World)(hr:Rds w v xs)(hf:zn4 prog F lb w xs p):
  Calls prog 149 #[v,.func (.func F) #[] lb] w λe w'=>e=.returned (.bool (xs.any p))/\Below w.heap.size w w':=by
 rw[<-zkx];have HC:=Lib.hid (B8 F lb eg v xs p w hr hf);clear hf hr
 go_enter func149,ntmps149
 go_wp2_with (go_at_call 207;refine HC.out.mono ?_;rintro e w1 ⟨rfl,hb1⟩)
 go_ret
 exact⟨rfl,hb1⟩
end Go.Proofs.YtogdmcebojiojaaGreatDoor
namespace Go.Proofs.YtogdmcebojiojaaGreatDoor
open Go.Proofs.Tryz
open Go.RowKit
set_option maxHeartbeats 400000 in
theorem OT(g:Nat)(s:AcG)(i:Nat)(w:World)(hs:s.size<=4000)(h0:i<s.size)(hb:vR w g 152 #[.string s,.int .i64 i]):
  Calls prog 144 #[.pointer (some ⟨g,0,none⟩)] w λe w'=>e=.returned (.int .u8 s[i].toNat)/\∃q,w'=w.drewN q:=by
 have c0:w.cell? ⟨g,0,none⟩=some (.string s):=hb.cell 0;have c1:w.cell? ⟨g,1,none⟩=some (.int .i64 i):=hb.cell 1;have hlt':(i:Int)<(s.size:Int):=by omega
 clear hb
 go_enter func144,ntmps144
 go_wp2
 go_quiet (fail)
 go_wp2
 go_quiet (fail)
 go_wp2
 go_ret
 exact⟨rfl,_,World.drewN_drewN _ _ _⟩
theorem zhw{p:UInt8->Bool}{l:AcT}{c:UInt8}{j n:Nat}(hd:l.drop j=c::l.drop (j+1))(hp:p c=true)(h:j+((l.drop j).takeWhile p).length=n):j+1+((l.drop (j+1)).takeWhile p).length=n:=by
 rw[hd,AbX,As hp]at h;simp at h;omega
theorem zfN{p:UInt8->Bool}{l:AcT}{c:UInt8}{j n:Nat}(hd:l.drop j=c::l.drop (j+1))(hp:p c=false)(h:j+((l.drop j).takeWhile p).length=n):j=n:=by
 rw[hd,AbX,An (by simp[hp])]at h;simp at h;omega
theorem zfO{p:UInt8->Bool}{l:AcT}{j n:Nat}(hl:l.length<=j)(h:j+((l.drop j).takeWhile p).length=n):j=n:=by
 rw[Abt hl]at h;simpa using h
theorem zdx{p:UInt8->Bool}{l:AcT}{j:Nat}(hj:j<=l.length):j+((l.drop j).takeWhile p).length<=l.length:=by
 have:=(List.takeWhile_sublist p (l:=l.drop j)).length_le;simp at this;omega
set_option maxHeartbeats 1000000 in
theorem zhx(F:AcH)(p:Nat->Bool)(eg:∀args w,(callFunc F args).run prog w=.ok (.enter F args) w)(hf:∀n:Nat,n<256->∀W,Calls prog F #[.int .u8 n] W λe w'=>e=.returned (.bool (p n))/\W=w')
  (g:Nat) (s:AcG) (i:Nat) (w:World) (hs:s.size<=4000) (h0:i<=s.size) (hb:vR w g 152 #[.string s,.int .i64 i]):
  Calls prog 146 #[.pointer (some ⟨g,0,none⟩),.func (.func F) #[] #[]] w λe w'=>
   e=.returned (.string (s.extract i (i+((s.data.toList.drop i).takeWhile λc=>p c.toNat).length)))/\
   vR w' g 152 #[.string s,.int .i64 ↑(i+((s.data.toList.drop i).takeWhile λc=>p c.toNat).length)]/\w.grownBy w' (some g):=by
 have cc0:w.cell? ⟨g,0,none⟩=some (.string s):=hb.cell 0;have cc1:w.cell? ⟨g,1,none⟩=some (.int .i64 i):=hb.cell 1;have hle:=zdx (p:=λc=>p c.toNat) (l:=s.data.toList) (j:=i) (by simpa using h0)
 rw[W1]at hle
 have HB:=Lib.hid hb;have HF:=Lib.hid hf;clear hf hb;generalize hn:i+((s.data.toList.drop i).takeWhile λc=>p c.toNat).length=n at hle
 have HN:=Lib.hid hn;have hin:i<=n:=by omega
 clear hn
 go_enter func146,ntmps146
 go_wp2_with fail
 go_loopg [] (s.size) (λk wr=>∃j:Nat,i<=j/\j<=s.size/\s.size-j<=k/\Hid (vR wr g 152 #[.string s,.int .i64 j])/\Hid (j+((s.data.toList.drop j).takeWhile λc=>p c.toNat).length=n)/\w.grownBy wr (some g))
 case atStart=>exact⟨i,BY _,h0,by omega,HB.out,HN.out,World.grownBy.refl _ _⟩
 case round=>
  obtain⟨j,hij,hj,hk,hB,hE,hG⟩:=hrel;have c0:wr.cell? ⟨g,0,none⟩=some (.string s):=hB.out.cell 0;have c1:wr.cell? ⟨g,1,none⟩=some (.int .i64 j):=hB.out.cell 1;have f1:wr.frozen? ⟨g,1,none⟩=false:=hB.out.frozen 1;clear cc0 cc1
  by_cases hlt:j<s.size
  ·have hlt':(j:Int)<(s.size:Int):=by omega
   have hd:=Lib.hid (jS s j hlt);have hc:=λW=>HF.out s[j].toNat (UInt8.toNat_lt _) W
   cases hp:p s[j].toNat with
   |true=>
    simp only[hp]at hc
    have HC:=Lib.hid hc;have HP:=Lib.hid hp;clear hc hp
    go_wp2_with fail
    go_quiet ((go_at_fn F;exact Dq (HC.out _)))
    go_wp2_with fail
    go_roundg (s.size-(j+1))
    case measure=>omega
    case rel=>exact⟨j+1,by omega,by omega,by omega,(hB.out.drewN _).set_ 1 _,zhw hd.out HP.out hE.out,sX (uJ hG _) (.inl rfl) _⟩
   |false=>
    simp only[hp]at hc
    have HC:=Lib.hid hc;have HP:=Lib.hid hp;clear hc hp
    go_wp2_with fail
    go_quiet ((go_at_fn F;exact Dq (HC.out _)))
    go_wp2_with fail
    go_quiet (fail)
    go_wp2_with fail
    go_ret
    obtain rfl:=zfN (p:=λc=>p c.toNat) hd.out HP.out hE.out
    exact⟨rfl,(hB.out.drewN _).drewN _,uJ (uJ hG _) _⟩
  ·have hlt':decide ((j:Int)<(s.size:Int))=false:=by simp;omega
   go_wp2_with fail
   go_quiet (fail)
   go_wp2_with fail
   go_quiet (fail)
   go_wp2_with fail
   go_ret
   obtain rfl:=zfO (by simpa using hlt) hE.out
   exact⟨rfl,(hB.out.drewN _).drewN _,uJ (uJ hG _) _⟩
end Go.Proofs.YtogdmcebojiojaaGreatDoor
namespace Go.Proofs.YtogdmcebojiojaaGreatDoor
open Go.Proofs.Tryz
open Go.RowKit
theorem zdy:∀args w,(callFunc 147 args).run prog w=.ok (.enter 147 args) w:=λ_ _=>by kernel_rfl
theorem zb6:∀args w,(callFunc 148 args).run prog w=.ok (.enter 148 args) w:=λ_ _=>by kernel_rfl
theorem vR.new'{w:World}{g:Nat}(t:AcI)(cs:Array Value)(h:g=w.heap.size):vR (w.alloc (.cells cs t)) g t cs:=by subst h;exact vR.new w t cs
theorem vR.far'{w:World}{g:Nat}{t:AcI}{cs:Array Value}{p:Addr}{u:Value}(hp:g≠p.block)(h:vR w g t cs):vR (w.setCell p u) g t cs:=h.far hp u
theorem vR.set'{w:World}{g i:Nat}{t:AcI}{cs cs':Array Value}{u:Value}(e:cs.setIfInBounds i u=cs')(h:vR w g t cs):vR (w.setCell ⟨g,i,none⟩ u) g t cs':=by subst e;exact h.set_ i u
set_option maxHeartbeats 1000000 in
theorem zb7(g:Nat)(s:AcG)(i:Nat)(w:World)(hs:s.size<=4000)(h0:i<s.size)(hb:vR w g 152 #[.string s,.int .i64 i])(hl:UL s[i].toNat=true):
  Calls prog 92 #[.pointer (some ⟨g,0,none⟩)] w λe w'=>∃n er,e=.returned (.tuple #[.agg #[.int .i64 1,.int .i64 i,.string (s.extract i (i+n))],.int .i64 er])/\
   n=((s.data.toList.drop i).takeWhile λc=>UL c.toNat||isDN c.toNat).length/\er=(if n>12 then 2 else 0)/\vR w' g 152 #[.string s,.int .i64 ↑(i+n)]/\w.grownBy w' (some g):=by
 have HB:=Lib.hid hb;have c0:w.cell? ⟨g,0,none⟩=some (.string s):=hb.cell 0;have c1:w.cell? ⟨g,1,none⟩=some (.int .i64 i):=hb.cell 1;have hgl:=hb.lt;have hss:=UInt8.toNat_lt s[i];have hle:=zdx (p:=λc=>UL c.toNat||isDN c.toNat) (l:=s.data.toList) (j:=i) (by simp;omega)
 clear hb;obtain⟨n,hn⟩:∃n,n=((s.data.toList.drop i).takeWhile λc=>UL c.toNat||isDN c.toNat).length:=⟨_,rfl⟩
 rw[W1,<-hn]at hle
 have HN:=Lib.hid hn;clear hn
 have hrun:∀W,vR W g 152 #[.string s,.int .i64 i]->Calls prog 146 #[.pointer (some ⟨g,0,none⟩),.func (.func 147) #[] #[]] W λe w'=>
   e=.returned (.string (s.extract i (i+n)))/\vR w' g 152 #[.string s,.int .i64 ↑(i+n)]/\W.grownBy w' (some g):=λW hW=>by
  have:=zhx 147 (λn=>UL n||isDN n) zdy zku g s i W hs (by omega) hW
  rw[<-HN.out]at this;exact this
 have HR:=Lib.hid hrun;clear hrun;have hsz:(s.extract i (i+n)).size=n:=by rw[Abr];omega
 go_enter func92,ntmps92
 go_wp2_with (first
  |(go_at_call 144;refine(OT g s i _ hs h0 (by have:=HB.out;(repeat'(first|(with_reducible assumption)|(with_reducible refine vR.drewN ?_ _)|(with_reducible refine vR.alloc ?_ _)|(with_reducible refine vR.drew ?_)|(with_reducible refine vR.far' ?_ ?_;(first|(simp;done)|(simp;omega)|omega))|(with_reducible apply vR.set';rotate_left)|rfl)))).mono ?_;rintro e w' ⟨rfl,q,rfl⟩)
  |(go_at_call 145;refine(Yr _ (by assumption) _).mono ?_;rintro e w' ⟨rfl,rfl⟩))
 refine(HR.out _ (by have:=HB.out;(repeat'(first|(with_reducible assumption)|(with_reducible refine vR.drewN ?_ _)|(with_reducible refine vR.alloc ?_ _)|(with_reducible refine vR.drew ?_)|(with_reducible refine vR.far' ?_ ?_;(first|(simp;done)|(simp;omega)|omega))|(with_reducible apply vR.set';rotate_left)|rfl)))).mono ?_
 rintro e w1 ⟨rfl,hb1,hg1⟩;have bt:vR w1 (w.heap.size+1+1) 154 _:=(((vR.new' _ _ (by simp)).drewN _).set_ 0 _).grown hg1 (by simp;omega)
 have br:vR w1 (w.heap.size+1) 154 _:=((((vR.new' _ _ (by simp)).alloc _).drewN _).far (by simp) _).grown hg1 (by simp;omega)
 have t0:w1.cell? ⟨w.heap.size+1+1,0,none⟩=some (.int .i64 1):=bt.cell 0;have t1:w1.cell? ⟨w.heap.size+1+1,1,none⟩=some (.int .i64 i):=bt.cell 1;have t2:w1.cell? ⟨w.heap.size+1+1,2,none⟩=some (.string ⟨#[]⟩):=bt.cell 2;have r0:w1.cell? ⟨w.heap.size+1,0,none⟩=some (.int .i64 0):=br.cell 0;have r1:w1.cell? ⟨w.heap.size+1,1,none⟩=some (.int .i64 0):=br.cell 1;have r2:w1.cell? ⟨w.heap.size+1,2,none⟩=some (.string ⟨#[]⟩):=br.cell 2;have ft:∀k,w1.frozen? ⟨w.heap.size+1+1,k,none⟩=false:=bt.frozen;have fr:∀k,w1.frozen? ⟨w.heap.size+1,k,none⟩=false:=br.frozen;have hg0:w.grownBy w1 (some g):=Kd (dO (by(repeat'(first|(with_reducible exact Below.refl _ _)|(with_reducible assumption)|(with_reducible refine uA ?_ _)|(with_reducible refine Below.alloc ?_ ?_ _)|(with_reducible refine Below.setCell ?_ ?_ _)|(with_reducible refine Below.drew ?_)|go_size))) (some g)) hg1
 have hsz1:w.heap.size+1+1<w1.heap.size:=bt.lt;clear hg1 bt br c0 c1
 by_cases h12:12<n
 ·go_wp2_with fail
  refine bodyPost_ret (v:=.tuple #[.agg #[.int .i64 1,.int .i64 i,.string (s.extract i (i+n))],.int .i64 2]) (by simp[results,results92,go_sem,r0,r1,r2]) rfl ⟨n,2,rfl,HN.out,by rw[As h12],?_,?_⟩
  ·have:=hb1;(repeat'(first|(with_reducible assumption)|(with_reducible refine vR.drewN ?_ _)|(with_reducible refine vR.alloc ?_ _)|(with_reducible refine vR.drew ?_)|(with_reducible refine vR.far' ?_ ?_;(first|(simp;done)|(simp;omega)|omega))|(with_reducible apply vR.set';rotate_left)|rfl))
  ·(repeat'(first|(with_reducible assumption)|(with_reducible exact World.grownBy.refl _ _)|(with_reducible refine uJ ?_ _)|(with_reducible refine fB ?_ _)|(with_reducible refine sX ?_ ?_ _)|(with_reducible refine aQ ?_)|(exact .inl rfl)|(refine .inr ?_;simp;done)|(refine .inr ?_;simp;omega)|(refine .inr ?_;omega)))
 ·go_wp2_with fail
  refine bodyPost_ret (v:=.tuple #[.agg #[.int .i64 1,.int .i64 i,.string (s.extract i (i+n))],.int .i64 0]) (by simp[results,results92,go_sem,r0,r1,r2]) rfl ⟨n,0,rfl,HN.out,by rw[An h12],?_,?_⟩
  ·have:=hb1;(repeat'(first|(with_reducible assumption)|(with_reducible refine vR.drewN ?_ _)|(with_reducible refine vR.alloc ?_ _)|(with_reducible refine vR.drew ?_)|(with_reducible refine vR.far' ?_ ?_;(first|(simp;done)|(simp;omega)|omega))|(with_reducible apply vR.set';rotate_left)|rfl))
  ·(repeat'(first|(with_reducible assumption)|(with_reducible exact World.grownBy.refl _ _)|(with_reducible refine uJ ?_ _)|(with_reducible refine fB ?_ _)|(with_reducible refine sX ?_ ?_ _)|(with_reducible refine aQ ?_)|(exact .inl rfl)|(refine .inr ?_;simp;done)|(refine .inr ?_;simp;omega)|(refine .inr ?_;omega)))
set_option maxHeartbeats 1000000 in
theorem zdz(g:Nat)(s:AcG)(i:Nat)(w:World)(hs:s.size<=4000)(h0:i<s.size)(hb:vR w g 152 #[.string s,.int .i64 i])(hl0:UL s[i].toNat=false)(hl:isDN s[i].toNat=true):
  Calls prog 92 #[.pointer (some ⟨g,0,none⟩)] w λe w'=>∃n er,e=.returned (.tuple #[.agg #[.int .i64 2,.int .i64 i,.string (s.extract i (i+n))],.int .i64 er])/\
   n=((s.data.toList.drop i).takeWhile λc=>isDN c.toNat).length/\er=(if n>4 then 2 else if n>1/\s[i]=48 then 1 else 0)/\vR w' g 152 #[.string s,.int .i64 ↑(i+n)]/\w.grownBy w' (some g):=by
 have HB:=Lib.hid hb;have c0:w.cell? ⟨g,0,none⟩=some (.string s):=hb.cell 0;have c1:w.cell? ⟨g,1,none⟩=some (.int .i64 i):=hb.cell 1;have hgl:=hb.lt;have hss:=UInt8.toNat_lt s[i];have hle:=zdx (p:=λc=>isDN c.toNat) (l:=s.data.toList) (j:=i) (by simp;omega)
 clear hb;obtain⟨n,hn⟩:∃n,n=((s.data.toList.drop i).takeWhile λc=>isDN c.toNat).length:=⟨_,rfl⟩
 rw[W1,<-hn]at hle
 have HN:=Lib.hid hn;clear hn
 have hrun:∀W,vR W g 152 #[.string s,.int .i64 i]->Calls prog 146 #[.pointer (some ⟨g,0,none⟩),.func (.func 148) #[] #[]] W λe w'=>
   e=.returned (.string (s.extract i (i+n)))/\vR w' g 152 #[.string s,.int .i64 ↑(i+n)]/\W.grownBy w' (some g):=λW hW=>by
  have:=zhx 148 (λn=>isDN n) zb6 Uu g s i W hs (by omega) hW
  rw[<-HN.out]at this;exact this
 have HR:=Lib.hid hrun;clear hrun;have hsz:(s.extract i (i+n)).size=n:=by rw[Abr];omega
 go_enter func92,ntmps92
 go_wp2_with (first
  |(go_at_call 144;refine(OT g s i _ hs h0 (by have:=HB.out;(repeat'(first|(with_reducible assumption)|(with_reducible refine vR.drewN ?_ _)|(with_reducible refine vR.alloc ?_ _)|(with_reducible refine vR.drew ?_)|(with_reducible refine vR.far' ?_ ?_;(first|(simp;done)|(simp;omega)|omega))|(with_reducible apply vR.set';rotate_left)|rfl)))).mono ?_;rintro e w' ⟨rfl,q,rfl⟩)
  |(go_at_call 145;refine(Yr _ (by assumption) _).mono ?_;rintro e w' ⟨rfl,rfl⟩)
  |(go_at_call 148;refine(Uu _ (by assumption) _).mono ?_;rintro e w' ⟨rfl,rfl⟩))
 refine(HR.out _ (by have:=HB.out;(repeat'(first|(with_reducible assumption)|(with_reducible refine vR.drewN ?_ _)|(with_reducible refine vR.alloc ?_ _)|(with_reducible refine vR.drew ?_)|(with_reducible refine vR.far' ?_ ?_;(first|(simp;done)|(simp;omega)|omega))|(with_reducible apply vR.set';rotate_left)|rfl)))).mono ?_
 rintro e w1 ⟨rfl,hb1,hg1⟩;have bt:vR w1 (w.heap.size+1+1) 154 _:=(((vR.new' _ _ (by simp)).drewN _).set_ 0 _).grown hg1 (by simp;omega)
 have br:vR w1 (w.heap.size+1) 154 _:=((((vR.new' _ _ (by simp)).alloc _).drewN _).far (by simp) _).grown hg1 (by simp;omega)
 have t0:w1.cell? ⟨w.heap.size+1+1,0,none⟩=some (.int .i64 2):=bt.cell 0;have t1:w1.cell? ⟨w.heap.size+1+1,1,none⟩=some (.int .i64 i):=bt.cell 1;have t2:w1.cell? ⟨w.heap.size+1+1,2,none⟩=some (.string ⟨#[]⟩):=bt.cell 2;have r0:w1.cell? ⟨w.heap.size+1,0,none⟩=some (.int .i64 0):=br.cell 0;have r1:w1.cell? ⟨w.heap.size+1,1,none⟩=some (.int .i64 0):=br.cell 1;have r2:w1.cell? ⟨w.heap.size+1,2,none⟩=some (.string ⟨#[]⟩):=br.cell 2;have ft:∀k,w1.frozen? ⟨w.heap.size+1+1,k,none⟩=false:=bt.frozen;have fr:∀k,w1.frozen? ⟨w.heap.size+1,k,none⟩=false:=br.frozen;have hg0:w.grownBy w1 (some g):=Kd (dO (by(repeat'(first|(with_reducible exact Below.refl _ _)|(with_reducible assumption)|(with_reducible refine uA ?_ _)|(with_reducible refine Below.alloc ?_ ?_ _)|(with_reducible refine Below.setCell ?_ ?_ _)|(with_reducible refine Below.drew ?_)|go_size))) (some g)) hg1
 have hsz1:w.heap.size+1+1<w1.heap.size:=bt.lt;clear hg1 bt br c0 c1
 by_cases h4:4<n
 ·go_wp2_with fail
  refine bodyPost_ret (v:=.tuple #[.agg #[.int .i64 2,.int .i64 i,.string (s.extract i (i+n))],.int .i64 2]) (by simp[results,results92,go_sem,r0,r1,r2]) rfl ⟨n,2,rfl,HN.out,by rw[As h4],?_,?_⟩
  ·have:=hb1;(repeat'(first|(with_reducible assumption)|(with_reducible refine vR.drewN ?_ _)|(with_reducible refine vR.alloc ?_ _)|(with_reducible refine vR.drew ?_)|(with_reducible refine vR.far' ?_ ?_;(first|(simp;done)|(simp;omega)|omega))|(with_reducible apply vR.set';rotate_left)|rfl))
  ·(repeat'(first|(with_reducible assumption)|(with_reducible exact World.grownBy.refl _ _)|(with_reducible refine uJ ?_ _)|(with_reducible refine fB ?_ _)|(with_reducible refine sX ?_ ?_ _)|(with_reducible refine aQ ?_)|(exact .inl rfl)|(refine .inr ?_;simp;done)|(refine .inr ?_;simp;omega)|(refine .inr ?_;omega)))
 ·by_cases h1:1<n
  ·by_cases h48:s[i]=48
   ·have y48:=Z9 (k:=48) (by omega) h48
    have H48:=Lib.hid h48;clear h48
    go_wp2_with fail
    refine bodyPost_ret (v:=.tuple #[.agg #[.int .i64 2,.int .i64 i,.string (s.extract i (i+n))],.int .i64 1]) (by simp[results,results92,go_sem,r0,r1,r2]) rfl ⟨n,1,rfl,HN.out,by rw[An h4,As ⟨h1,H48.out⟩],?_,?_⟩
    ·have:=hb1;(repeat'(first|(with_reducible assumption)|(with_reducible refine vR.drewN ?_ _)|(with_reducible refine vR.alloc ?_ _)|(with_reducible refine vR.drew ?_)|(with_reducible refine vR.far' ?_ ?_;(first|(simp;done)|(simp;omega)|omega))|(with_reducible apply vR.set';rotate_left)|rfl))
    ·(repeat'(first|(with_reducible assumption)|(with_reducible exact World.grownBy.refl _ _)|(with_reducible refine uJ ?_ _)|(with_reducible refine fB ?_ _)|(with_reducible refine sX ?_ ?_ _)|(with_reducible refine aQ ?_)|(exact .inl rfl)|(refine .inr ?_;simp;done)|(refine .inr ?_;simp;omega)|(refine .inr ?_;omega)))
   ·have y48:=lK (k:=48) (by omega) h48
    go_wp2_with fail
    refine bodyPost_ret (v:=.tuple #[.agg #[.int .i64 2,.int .i64 i,.string (s.extract i (i+n))],.int .i64 0]) (by simp[results,results92,go_sem,r0,r1,r2]) rfl ⟨n,0,rfl,HN.out,by rw[An h4,An (λh=>h48 h.2)],?_,?_⟩
    ·have:=hb1;(repeat'(first|(with_reducible assumption)|(with_reducible refine vR.drewN ?_ _)|(with_reducible refine vR.alloc ?_ _)|(with_reducible refine vR.drew ?_)|(with_reducible refine vR.far' ?_ ?_;(first|(simp;done)|(simp;omega)|omega))|(with_reducible apply vR.set';rotate_left)|rfl))
    ·(repeat'(first|(with_reducible assumption)|(with_reducible exact World.grownBy.refl _ _)|(with_reducible refine uJ ?_ _)|(with_reducible refine fB ?_ _)|(with_reducible refine sX ?_ ?_ _)|(with_reducible refine aQ ?_)|(exact .inl rfl)|(refine .inr ?_;simp;done)|(refine .inr ?_;simp;omega)|(refine .inr ?_;omega)))
  ·have h1':decide ((1:Int)<(n:Int))=false:=by simp;omega
   go_wp2_with fail
   refine bodyPost_ret (v:=.tuple #[.agg #[.int .i64 2,.int .i64 i,.string (s.extract i (i+n))],.int .i64 0]) (by simp[results,results92,go_sem,r0,r1,r2]) rfl ⟨n,0,rfl,HN.out,by rw[An h4,An (λh=>h1 h.1)],?_,?_⟩
   ·have:=hb1;(repeat'(first|(with_reducible assumption)|(with_reducible refine vR.drewN ?_ _)|(with_reducible refine vR.alloc ?_ _)|(with_reducible refine vR.drew ?_)|(with_reducible refine vR.far' ?_ ?_;(first|(simp;done)|(simp;omega)|omega))|(with_reducible apply vR.set';rotate_left)|rfl))
   ·(repeat'(first|(with_reducible assumption)|(with_reducible exact World.grownBy.refl _ _)|(with_reducible refine uJ ?_ _)|(with_reducible refine fB ?_ _)|(with_reducible refine sX ?_ ?_ _)|(with_reducible refine aQ ?_)|(exact .inl rfl)|(refine .inr ?_;simp;done)|(refine .inr ?_;simp;omega)|(refine .inr ?_;omega)))
end Go.Proofs.YtogdmcebojiojaaGreatDoor
namespace Go.Proofs.YtogdmcebojiojaaGreatDoor
open Go.Proofs.Tryz
open Go.RowKit
def VB:AcX:=[bs [46,46],bs [60,61],bs [62,61],bs [61,61],bs [33,61]]
theorem Hu(w:World):Calls prog 150 #[] w λe w'=>∃v,e=.returned v/\Rds w' v VB/\Below w.heap.size w w':=by
 go_enter func150,ntmps150
 go_wp2_with fail
 go_ret
 refine⟨_,rfl,⟨[_],rfl,some ⟨w.heap.size,0,none⟩,5,rfl,by decide,by decide,by decide,(λe=>by cases e),λ_=>⟨_,0,rfl,by simp,λi x hx=> ?_⟩⟩,by(repeat'(first|(with_reducible exact Below.refl _ _)|(with_reducible assumption)|(with_reducible refine uA ?_ _)|(with_reducible refine Below.alloc ?_ ?_ _)|(with_reducible refine Below.setCell ?_ ?_ _)|(with_reducible refine Below.drew ?_)|go_size))⟩
 match i,hx with
 |0,hx=>simp[VB]at hx;subst hx;exact⟨[_],⟨rfl,by decide⟩,λj u hu=>by cases j<;>simp at hu;subst hu;simp[vV.size];rfl⟩
 |1,hx=>simp[VB]at hx;subst hx;exact⟨[_],⟨rfl,by decide⟩,λj u hu=>by cases j<;>simp at hu;subst hu;simp[vV.size];rfl⟩
 |2,hx=>simp[VB]at hx;subst hx;exact⟨[_],⟨rfl,by decide⟩,λj u hu=>by cases j<;>simp at hu;subst hu;simp[vV.size];rfl⟩
 |3,hx=>simp[VB]at hx;subst hx;exact⟨[_],⟨rfl,by decide⟩,λj u hu=>by cases j<;>simp at hu;subst hu;simp[vV.size];rfl⟩
 |4,hx=>simp[VB]at hx;subst hx;exact⟨[_],⟨rfl,by decide⟩,λj u hu=>by cases j<;>simp at hu;subst hu;simp[vV.size];rfl⟩
 |i+5,hx=>simp[VB]at hx
theorem ziv(l:AcT):(VB.any λp=>Lib.hasPrefix l p.data.toList)=Zm l:=by
 match l with
 |[]=>rfl
 |[a]=>simp[VB,Zm,Lib.hasPrefix,bs,List.isPrefixOf]
 |a::b::l=>
  simp only[VB,Zm,Lib.hasPrefix,bs,List.isPrefixOf,Aa3,List.any_nil,AbK,AbQ];rw[Aap];simp only[AaJ,If,beq_iff_eq];constructor
  ·rintro(⟨h1,h2⟩|⟨h1,h2⟩|⟨h1,h2⟩|⟨h1,h2⟩|⟨h1,h2⟩)<;>subst h1 h2<;>simp
  ·rintro((((⟨h1,h2⟩|⟨h1,h2⟩)|⟨h1,h2⟩)|⟨h1,h2⟩)|⟨h1,h2⟩)<;>subst h1 h2<;>simp
set_option maxHeartbeats 400000 in
theorem zfP(g n0:Nat)(s p:AcG)(i:Nat)(w:World)(hs:s.size<=4000)(h0:i<=s.size)(hc:w.cell? ⟨n0,0,none⟩=some (.pointer (some ⟨g,0,none⟩)))(hb:vR w g 152 #[.string s,.int .i64 i]):
  Calls prog 151 (#[.string p]++ #[.pointer (some ⟨n0,0,none⟩)]) w λe w'=>e=.returned (.bool (Lib.hasPrefix (s.data.toList.drop i) p.data.toList))/\Below w.heap.size w w':=by
 have c0:w.cell? ⟨g,0,none⟩=some (.string s):=hb.cell 0;have c1:w.cell? ⟨g,1,none⟩=some (.int .i64 i):=hb.cell 1;have hlt':(i:Int)<=(s.size:Int):=by omega
 clear hb
 have he:(s.extract i s.size).data.toList=s.data.toList.drop i:=by
  rw[Acm];simp;rw[AaP (by simp)]
 rw[<-he];clear he;show Calls prog 151 #[.string p,.pointer (some ⟨n0,0,none⟩)] w _
 go_enter func151,ntmps151
 go_wp2_with fail
 go_quiet ((go_at_call 152;exact Calls.quiet_of_same (strings_HasPrefix _ _ _)))
 go_wp2_with fail
 go_ret
 exact⟨rfl,by(repeat'(first|(with_reducible exact Below.refl _ _)|(with_reducible assumption)|(with_reducible refine uA ?_ _)|(with_reducible refine Below.alloc ?_ ?_ _)|(with_reducible refine Below.setCell ?_ ?_ _)|(with_reducible refine Below.drew ?_)|go_size))⟩
theorem B9:∀args w,(callFunc 151 args).run prog w=.ok (.enter 151 args) w:=λ_ _=>by kernel_rfl
theorem zb8(g n0:Nat)(s:AcG)(i:Nat)(w:World)(hs:s.size<=4000)(h0:i<=s.size)(hn:n0<w.heap.size)(hc:w.cell? ⟨n0,0,none⟩=some (.pointer (some ⟨g,0,none⟩)))(hb:vR w g 152 #[.string s,.int .i64 i])
  (v:Value) (hv:Rds w v VB):
  Calls prog 149 #[v,.func (.func 151) #[] #[.pointer (some ⟨n0,0,none⟩)]] w λe w'=>e=.returned (.bool (Zm (s.data.toList.drop i)))/\Below w.heap.size w w':=by
 rw[<-ziv];refine Ht _ _ B9 v VB (λp=>Lib.hasPrefix (s.data.toList.drop i) p.data.toList) w hv λW u x _ hb' hx=> ?_
 obtain⟨rfl,_⟩:=zg6 hx;exact zfP g n0 s x i W hs h0 ((hb'.cell (p:=⟨n0,0,none⟩) hn).trans hc) (hb.below hb' hb.lt)
set_option maxHeartbeats 1000000 in
theorem ziw(g:Nat)(s:AcG)(i:Nat)(w:World)(hs:s.size<=4000)(h0:i<s.size)(hb:vR w g 152 #[.string s,.int .i64 i])(hl:UL s[i].toNat=false)(hd:isDN s[i].toNat=false)(ht:Zm (s.data.toList.drop i)=true)(h2:i+2<=s.size):
  Calls prog 92 #[.pointer (some ⟨g,0,none⟩)] w λe w'=>e=.returned (.tuple #[.agg #[.int .i64 3,.int .i64 i,.string (s.extract i (i+2))],.int .i64 0])/\
   vR w' g 152 #[.string s,.int .i64 ↑(i+2)]/\w.grownBy w' (some g):=by
 have HB:=Lib.hid hb;have c0:w.cell? ⟨g,0,none⟩=some (.string s):=hb.cell 0;have c1:w.cell? ⟨g,1,none⟩=some (.int .i64 i):=hb.cell 1;have hgl:=hb.lt;have hss:=UInt8.toNat_lt s[i];clear hb
 go_enter func92,ntmps92
 go_wp2_with (first
  |(go_at_call 144;refine(OT g s i _ hs h0 (by have:=HB.out;(repeat'(first|(with_reducible assumption)|(with_reducible refine vR.drewN ?_ _)|(with_reducible refine vR.alloc ?_ _)|(with_reducible refine vR.drew ?_)|(with_reducible refine vR.far' ?_ ?_;(first|(simp;done)|(simp;omega)|omega))|(with_reducible apply vR.set';rotate_left)|rfl)))).mono ?_;rintro e w' ⟨rfl,q,rfl⟩)
  |(go_at_call 145;refine(Yr _ (by assumption) _).mono ?_;rintro e w' ⟨rfl,rfl⟩)
  |(go_at_call 148;refine(Uu _ (by assumption) _).mono ?_;rintro e w' ⟨rfl,rfl⟩)
  |(go_at_call 150;refine(Hu _).mono ?_;rintro e w1 ⟨v,rfl,hv,hb1⟩))
 have g1:vR w1 g 152 #[.string s,.int .i64 i]:=vR.below (by have:=HB.out;(repeat'(first|(with_reducible assumption)|(with_reducible refine vR.drewN ?_ _)|(with_reducible refine vR.alloc ?_ _)|(with_reducible refine vR.drew ?_)|(with_reducible refine vR.far' ?_ ?_;(first|(simp;done)|(simp;omega)|omega))|(with_reducible apply vR.set';rotate_left)|rfl))) hb1 (by simp;omega)
 have bc:vR w1 w.heap.size _ _:=vR.below ((((vR.new' _ _ rfl).alloc _).alloc _).drewN _) hb1 (by simp;omega)
 have br:vR w1 (w.heap.size+1) _ _:=vR.below (((vR.new' _ _ (by simp)).alloc _).drewN _) hb1 (by simp)
 have bt:vR w1 (w.heap.size+1+1) _ _:=vR.below ((vR.new' _ _ (by simp)).drewN _) hb1 (by simp)
 have hb0:Below w.heap.size w w1:=Jn (by(repeat'(first|(with_reducible exact Below.refl _ _)|(with_reducible assumption)|(with_reducible refine uA ?_ _)|(with_reducible refine Below.alloc ?_ ?_ _)|(with_reducible refine Below.setCell ?_ ?_ _)|(with_reducible refine Below.drew ?_)|go_size))) hb1
 clear hb1;have HV:=Lib.hid hv;have hn0:=bc.lt;clear hv;refine(zb8 g w.heap.size s i w1 hs (by omega) hn0 (bc.cell 0) g1 v HV.out).mono ?_
 rintro e w2 ⟨rfl,hb2⟩;rw[ht];have g2:=Lib.hid (g1.below hb2 g1.lt);have bc2:=bc.below hb2 bc.lt;have br2:=br.below hb2 br.lt;have bt2:=bt.below hb2 bt.lt;have hs1:w2.heap.size>w.heap.size+1+1:=bt2.lt;have hb3:Below w.heap.size w w2:=Jn hb0 hb2;clear g1 bc br bt hb2 hb0 hn0 c0 c1 HV;have c0:w2.cell? ⟨g,0,none⟩=some (.string s):=g2.out.cell 0;have c1:w2.cell? ⟨g,1,none⟩=some (.int .i64 i):=g2.out.cell 1;have f1:w2.frozen? ⟨g,1,none⟩=false:=g2.out.frozen 1;have k0:w2.cell? ⟨w.heap.size,0,none⟩=some (.pointer (some ⟨g,0,none⟩)):=bc2.cell 0;have t0:w2.cell? ⟨w.heap.size+1+1,0,none⟩=some (.int .i64 3):=bt2.cell 0;have t1:w2.cell? ⟨w.heap.size+1+1,1,none⟩=some (.int .i64 i):=bt2.cell 1;have t2:w2.cell? ⟨w.heap.size+1+1,2,none⟩=some (.string ⟨#[]⟩):=bt2.cell 2;have r0:w2.cell? ⟨w.heap.size+1,0,none⟩=some (.int .i64 0):=br2.cell 0;have r1:w2.cell? ⟨w.heap.size+1,1,none⟩=some (.int .i64 0):=br2.cell 1;have r2:w2.cell? ⟨w.heap.size+1,2,none⟩=some (.string ⟨#[]⟩):=br2.cell 2;have ft:∀k,w2.frozen? ⟨w.heap.size+1+1,k,none⟩=false:=bt2.frozen;have fr:∀k,w2.frozen? ⟨w.heap.size+1,k,none⟩=false:=br2.frozen;clear bc2 br2 bt2;have HT:=Lib.hid ht;clear ht;have q1:(i:Int)+2<=(s.size:Int):=by omega
 have q2:IntKind.i64.wrap ((i:Int)+2)=(i:Int)+2:=IntWalk.i64_in _ (by omega)
 have q3:((i:Int)+2).toNat=i+2:=by omega
 go_wp2_with fail
 go_region
 all_goals
  go_wp2_with fail
  refine bodyPost_ret (v:=.tuple #[.agg #[.int .i64 3,.int .i64 i,.string (s.extract i (i+2))],.int .i64 0]) (by simp[results,results92,go_sem,r0,r1,r2]) rfl ⟨rfl,?_,?_⟩
  ·refine vR.drew (vR.far' ?_ (vR.far' ?_ (vR.far' ?_ (vR.set' (by rfl) (vR.far' ?_ g2.out)))))<;>first|(simp;done)|(simp;omega)
  ·have:=dO hb3 (some g);(repeat'(first|(with_reducible assumption)|(with_reducible exact World.grownBy.refl _ _)|(with_reducible refine uJ ?_ _)|(with_reducible refine fB ?_ _)|(with_reducible refine sX ?_ ?_ _)|(with_reducible refine aQ ?_)|(exact .inl rfl)|(refine .inr ?_;simp;done)|(refine .inr ?_;simp;omega)|(refine .inr ?_;omega)))
end Go.Proofs.YtogdmcebojiojaaGreatDoor
namespace Go.Proofs.YtogdmcebojiojaaGreatDoor
open Go.Proofs.Tryz
open Go.RowKit
theorem DW(c:UInt8):Wf c=true↔0<=Lib.indexByte [91,93,59,58,44,45] c:=by
 constructor
 ·intro h
  simp only[Wf,AaJ,beq_iff_eq]at h
  rcases h with((((h|h)|h)|h)|h)|h<;>subst h<;>decide
 ·intro h
  revert h;simp only[Lib.indexByte,Wf]
  repeat' split
  all_goals simp_all
  all_goals omega
theorem zix(s:AcG)(i:Nat)(h:i<s.size)(hs:Wf s[i]=true):Utf8.encode (s[i].toNat:Int)=s.extract i (i+1):=by
 have h1:(s.extract i (i+1))=⟨#[s[i]]⟩:=by
  apply ByteArray.ext;rw[Acm];apply Array.ext';have:=jS s i h;simp only[Array.toList_extract,AcC];rw[this];simp
 rw[h1];simp only[Wf,AaJ,beq_iff_eq]at hs
 rcases hs with((((h|h)|h)|h)|h)|h<;>rw[h]<;>decide
set_option maxHeartbeats 1000000 in
theorem zfQ(g:Nat)(s:AcG)(i:Nat)(w:World)(hs:s.size<=4000)(h0:i<s.size)(hb:vR w g 152 #[.string s,.int .i64 i])(hl:UL s[i].toNat=false)(hd:isDN s[i].toNat=false)(ht:Zm (s.data.toList.drop i)=false)(hsg:Wf s[i]=true):
  Calls prog 92 #[.pointer (some ⟨g,0,none⟩)] w λe w'=>e=.returned (.tuple #[.agg #[.int .i64 3,.int .i64 i,.string (s.extract i (i+1))],.int .i64 0])/\
   vR w' g 152 #[.string s,.int .i64 ↑(i+1)]/\w.grownBy w' (some g):=by
 have HB:=Lib.hid hb;have c0:w.cell? ⟨g,0,none⟩=some (.string s):=hb.cell 0;have c1:w.cell? ⟨g,1,none⟩=some (.int .i64 i):=hb.cell 1;have hgl:=hb.lt;have hss:=UInt8.toNat_lt s[i];clear hb
 go_enter func92,ntmps92
 go_wp2_with (first
  |(go_at_call 144;refine(OT g s i _ hs h0 (by have:=HB.out;(repeat'(first|(with_reducible assumption)|(with_reducible refine vR.drewN ?_ _)|(with_reducible refine vR.alloc ?_ _)|(with_reducible refine vR.drew ?_)|(with_reducible refine vR.far' ?_ ?_;(first|(simp;done)|(simp;omega)|omega))|(with_reducible apply vR.set';rotate_left)|rfl)))).mono ?_;rintro e w' ⟨rfl,q,rfl⟩)
  |(go_at_call 145;refine(Yr _ (by assumption) _).mono ?_;rintro e w' ⟨rfl,rfl⟩)
  |(go_at_call 148;refine(Uu _ (by assumption) _).mono ?_;rintro e w' ⟨rfl,rfl⟩)
  |(go_at_call 150;refine(Hu _).mono ?_;rintro e w1 ⟨v,rfl,hv,hb1⟩))
 have g1:vR w1 g 152 #[.string s,.int .i64 i]:=vR.below (by have:=HB.out;(repeat'(first|(with_reducible assumption)|(with_reducible refine vR.drewN ?_ _)|(with_reducible refine vR.alloc ?_ _)|(with_reducible refine vR.drew ?_)|(with_reducible refine vR.far' ?_ ?_;(first|(simp;done)|(simp;omega)|omega))|(with_reducible apply vR.set';rotate_left)|rfl))) hb1 (by simp;omega)
 have bc:vR w1 w.heap.size _ _:=vR.below ((((vR.new' _ _ rfl).alloc _).alloc _).drewN _) hb1 (by simp;omega)
 have br:vR w1 (w.heap.size+1) _ _:=vR.below (((vR.new' _ _ (by simp)).alloc _).drewN _) hb1 (by simp)
 have bt:vR w1 (w.heap.size+1+1) _ _:=vR.below ((vR.new' _ _ (by simp)).drewN _) hb1 (by simp)
 have hb0:Below w.heap.size w w1:=Jn (by(repeat'(first|(with_reducible exact Below.refl _ _)|(with_reducible assumption)|(with_reducible refine uA ?_ _)|(with_reducible refine Below.alloc ?_ ?_ _)|(with_reducible refine Below.setCell ?_ ?_ _)|(with_reducible refine Below.drew ?_)|go_size))) hb1
 clear hb1;have HV:=Lib.hid hv;have hn0:=bc.lt;clear hv;refine(zb8 g w.heap.size s i w1 hs (by omega) hn0 (bc.cell 0) g1 v HV.out).mono ?_
 rintro e w2 ⟨rfl,hb2⟩;rw[ht];have g2:=Lib.hid (g1.below hb2 g1.lt);have bc2:=bc.below hb2 bc.lt;have br2:=br.below hb2 br.lt;have bt2:=bt.below hb2 bt.lt;have hs1:w2.heap.size>w.heap.size+1+1:=bt2.lt;have hb3:Below w.heap.size w w2:=Jn hb0 hb2;clear g1 bc br bt hb2 hb0 hn0 c0 c1 HV;have c0:w2.cell? ⟨g,0,none⟩=some (.string s):=g2.out.cell 0;have c1:w2.cell? ⟨g,1,none⟩=some (.int .i64 i):=g2.out.cell 1;have f1:w2.frozen? ⟨g,1,none⟩=false:=g2.out.frozen 1;have k0:w2.cell? ⟨w.heap.size,0,none⟩=some (.pointer (some ⟨g,0,none⟩)):=bc2.cell 0;have t0:w2.cell? ⟨w.heap.size+1+1,0,none⟩=some (.int .i64 3):=bt2.cell 0;have t1:w2.cell? ⟨w.heap.size+1+1,1,none⟩=some (.int .i64 i):=bt2.cell 1;have t2:w2.cell? ⟨w.heap.size+1+1,2,none⟩=some (.string ⟨#[]⟩):=bt2.cell 2;have r0:w2.cell? ⟨w.heap.size+1,0,none⟩=some (.int .i64 0):=br2.cell 0;have r1:w2.cell? ⟨w.heap.size+1,1,none⟩=some (.int .i64 0):=br2.cell 1;have r2:w2.cell? ⟨w.heap.size+1,2,none⟩=some (.string ⟨#[]⟩):=br2.cell 2;have ft:∀k,w2.frozen? ⟨w.heap.size+1+1,k,none⟩=false:=bt2.frozen;have fr:∀k,w2.frozen? ⟨w.heap.size+1,k,none⟩=false:=br2.frozen;clear bc2 br2 bt2;have HT:=Lib.hid ht;clear ht;obtain⟨k,hk⟩:∃k,k=Lib.indexByte [91,93,59,58,44,45] s[i]:=⟨_,rfl⟩;have hk0:0<=k:=by rw[hk];exact(DW _).1 hsg
 have HI:Hid (∀W,Calls prog 153 #[.string ⟨#[91,93,59,58,44,45]⟩,.int .u8 s[i].toNat] W λe w'=>e=.returned (.int .i64 k)/\W=w'):=λW=>by
  refine(strings_IndexByte _ _ W).mono λe w' ⟨h1,h2⟩=>⟨?_,h2.symm⟩
  rw[h1,hk];simp
 clear hk
 go_wp2_with (go_at_call 153;refine(HI.out _).mono ?_;rintro e w' ⟨rfl,rfl⟩);refine bodyPost_ret (v:=.tuple #[.agg #[.int .i64 3,.int .i64 i,.string (Utf8.encode s[i].toNat)],.int .i64 0]) (by simp[results,results92,go_sem,r0,r1,r2]) rfl ⟨by rw[zix s i h0 hsg],?_,?_⟩
 ·refine vR.far' ?_ (vR.far' ?_ (vR.far' ?_ (vR.set' (by rfl) (vR.far' ?_ g2.out))))<;>first|(simp;done)|(simp;omega)
 ·have:=dO hb3 (some g);(repeat'(first|(with_reducible assumption)|(with_reducible exact World.grownBy.refl _ _)|(with_reducible refine uJ ?_ _)|(with_reducible refine fB ?_ _)|(with_reducible refine sX ?_ ?_ _)|(with_reducible refine aQ ?_)|(exact .inl rfl)|(refine .inr ?_;simp;done)|(refine .inr ?_;simp;omega)|(refine .inr ?_;omega)))
set_option maxHeartbeats 1000000 in
theorem zfR(g:Nat)(s:AcG)(i:Nat)(w:World)(hs:s.size<=4000)(h0:i<s.size)(hb:vR w g 152 #[.string s,.int .i64 i])(hl:UL s[i].toNat=false)(hd:isDN s[i].toNat=false)(ht:Zm (s.data.toList.drop i)=false)(hsg:Wf s[i]=false):
  Calls prog 92 #[.pointer (some ⟨g,0,none⟩)] w λe w'=>e=.returned (.tuple #[.agg #[.int .i64 3,.int .i64 i,.string ⟨#[]⟩],.int .i64 1])/\w.grownBy w' (some g):=by
 have HB:=Lib.hid hb;have c0:w.cell? ⟨g,0,none⟩=some (.string s):=hb.cell 0;have c1:w.cell? ⟨g,1,none⟩=some (.int .i64 i):=hb.cell 1;have hgl:=hb.lt;have hss:=UInt8.toNat_lt s[i];clear hb
 go_enter func92,ntmps92
 go_wp2_with (first
  |(go_at_call 144;refine(OT g s i _ hs h0 (by have:=HB.out;(repeat'(first|(with_reducible assumption)|(with_reducible refine vR.drewN ?_ _)|(with_reducible refine vR.alloc ?_ _)|(with_reducible refine vR.drew ?_)|(with_reducible refine vR.far' ?_ ?_;(first|(simp;done)|(simp;omega)|omega))|(with_reducible apply vR.set';rotate_left)|rfl)))).mono ?_;rintro e w' ⟨rfl,q,rfl⟩)
  |(go_at_call 145;refine(Yr _ (by assumption) _).mono ?_;rintro e w' ⟨rfl,rfl⟩)
  |(go_at_call 148;refine(Uu _ (by assumption) _).mono ?_;rintro e w' ⟨rfl,rfl⟩)
  |(go_at_call 150;refine(Hu _).mono ?_;rintro e w1 ⟨v,rfl,hv,hb1⟩))
 have g1:vR w1 g 152 #[.string s,.int .i64 i]:=vR.below (by have:=HB.out;(repeat'(first|(with_reducible assumption)|(with_reducible refine vR.drewN ?_ _)|(with_reducible refine vR.alloc ?_ _)|(with_reducible refine vR.drew ?_)|(with_reducible refine vR.far' ?_ ?_;(first|(simp;done)|(simp;omega)|omega))|(with_reducible apply vR.set';rotate_left)|rfl))) hb1 (by simp;omega)
 have bc:vR w1 w.heap.size _ _:=vR.below ((((vR.new' _ _ rfl).alloc _).alloc _).drewN _) hb1 (by simp;omega)
 have br:vR w1 (w.heap.size+1) _ _:=vR.below (((vR.new' _ _ (by simp)).alloc _).drewN _) hb1 (by simp)
 have bt:vR w1 (w.heap.size+1+1) _ _:=vR.below ((vR.new' _ _ (by simp)).drewN _) hb1 (by simp)
 have hb0:Below w.heap.size w w1:=Jn (by(repeat'(first|(with_reducible exact Below.refl _ _)|(with_reducible assumption)|(with_reducible refine uA ?_ _)|(with_reducible refine Below.alloc ?_ ?_ _)|(with_reducible refine Below.setCell ?_ ?_ _)|(with_reducible refine Below.drew ?_)|go_size))) hb1
 clear hb1;have HV:=Lib.hid hv;have hn0:=bc.lt;clear hv;refine(zb8 g w.heap.size s i w1 hs (by omega) hn0 (bc.cell 0) g1 v HV.out).mono ?_
 rintro e w2 ⟨rfl,hb2⟩;rw[ht];have g2:=Lib.hid (g1.below hb2 g1.lt);have bc2:=bc.below hb2 bc.lt;have br2:=br.below hb2 br.lt;have bt2:=bt.below hb2 bt.lt;have hs1:w2.heap.size>w.heap.size+1+1:=bt2.lt;have hb3:Below w.heap.size w w2:=Jn hb0 hb2;clear g1 bc br bt hb2 hb0 hn0 c0 c1 HV;have c0:w2.cell? ⟨g,0,none⟩=some (.string s):=g2.out.cell 0;have c1:w2.cell? ⟨g,1,none⟩=some (.int .i64 i):=g2.out.cell 1;have f1:w2.frozen? ⟨g,1,none⟩=false:=g2.out.frozen 1;have k0:w2.cell? ⟨w.heap.size,0,none⟩=some (.pointer (some ⟨g,0,none⟩)):=bc2.cell 0;have t0:w2.cell? ⟨w.heap.size+1+1,0,none⟩=some (.int .i64 3):=bt2.cell 0;have t1:w2.cell? ⟨w.heap.size+1+1,1,none⟩=some (.int .i64 i):=bt2.cell 1;have t2:w2.cell? ⟨w.heap.size+1+1,2,none⟩=some (.string ⟨#[]⟩):=bt2.cell 2;have r0:w2.cell? ⟨w.heap.size+1,0,none⟩=some (.int .i64 0):=br2.cell 0;have r1:w2.cell? ⟨w.heap.size+1,1,none⟩=some (.int .i64 0):=br2.cell 1;have r2:w2.cell? ⟨w.heap.size+1,2,none⟩=some (.string ⟨#[]⟩):=br2.cell 2;have ft:∀k,w2.frozen? ⟨w.heap.size+1+1,k,none⟩=false:=bt2.frozen;have fr:∀k,w2.frozen? ⟨w.heap.size+1,k,none⟩=false:=br2.frozen;clear bc2 br2 bt2;have HT:=Lib.hid ht;clear ht;obtain⟨k,hk⟩:∃k,k=Lib.indexByte [91,93,59,58,44,45] s[i]:=⟨_,rfl⟩;have hk0:¬0<=k:=by rw[hk];intro h;rw[(DW _).2 h]at hsg;cases hsg
 have HI:Hid (∀W,Calls prog 153 #[.string ⟨#[91,93,59,58,44,45]⟩,.int .u8 s[i].toNat] W λe w'=>e=.returned (.int .i64 k)/\W=w'):=λW=>by
  refine(strings_IndexByte _ _ W).mono λe w' ⟨h1,h2⟩=>⟨?_,h2.symm⟩
  rw[h1,hk];simp
 clear hk
 go_wp2_with (go_at_call 153;refine(HI.out _).mono ?_;rintro e w' ⟨rfl,rfl⟩);refine bodyPost_ret (v:=.tuple #[.agg #[.int .i64 3,.int .i64 i,.string ⟨#[]⟩],.int .i64 1]) (by simp[results,results92,go_sem,r0,r1,r2]) rfl ⟨rfl,?_⟩
 have:=dO hb3 (some g);(repeat'(first|(with_reducible assumption)|(with_reducible exact World.grownBy.refl _ _)|(with_reducible refine uJ ?_ _)|(with_reducible refine fB ?_ _)|(with_reducible refine sX ?_ ?_ _)|(with_reducible refine aQ ?_)|(exact .inl rfl)|(refine .inr ?_;simp;done)|(refine .inr ?_;simp;omega)|(refine .inr ?_;omega)))
theorem ziy(g:Nat)(s:AcG)(i:Nat)(w:World)(hs:s.size<=4000)(h0:i<s.size)(hb:vR w g 152 #[.string s,.int .i64 i]):
  Calls prog 92 #[.pointer (some ⟨g,0,none⟩)] w λe w'=>∃k x,e=.returned (.tuple #[.agg #[.int .i64 k,.int .i64 i,.string x],.int .i64 (uO (yD (s.data.toList.drop i)).1 (yD (s.data.toList.drop i)).2 s[i])])/\w.grownBy w' (some g)/\
   (uO (yD (s.data.toList.drop i)).1 (yD (s.data.toList.drop i)).2 s[i]=0->k=(yD (s.data.toList.drop i)).1/\x=s.extract i (i+(yD (s.data.toList.drop i)).2)/\vR w' g 152 #[.string s,.int .i64 ↑(i+(yD (s.data.toList.drop i)).2)]):=by
 have hd:=jS s i h0;cases hl:UL s[i].toNat with
 |true=>
  refine(zb7 g s i w hs h0 hb hl).mono ?_;rintro e w' ⟨n,er,rfl,hn,he,hbl,hg⟩
  have ht:yD (s.data.toList.drop i)=(1,n):=by
   rw[hn,hd,yD,As (show isL s[i]=true from hl),AbX,As (by simp[hl])]
   simp[Abh];rfl
  rw[ht];have hb':uO 1 n s[i]=er:=by rw[he];simp[uO]
  rw[hb'];exact⟨1,_,rfl,hg,λ_=>⟨rfl,rfl,hbl⟩⟩
 |false=>
  cases hdg:isDN s[i].toNat with
  |true=>
   refine(zdz g s i w hs h0 hb hl hdg).mono ?_;rintro e w' ⟨n,er,rfl,hn,he,hbl,hg⟩
   have ht:yD (s.data.toList.drop i)=(2,n):=by
    rw[hn,hd,yD,An (show¬isL s[i]=true by unfold isL;simp[hl]),As (show isD s[i]=true from hdg),AbX,As (by simp[hdg])]
    simp[Abh];rfl
   rw[ht];have hb':uO 2 n s[i]=er:=by rw[he];simp[uO]
   rw[hb'];exact⟨2,_,rfl,hg,λ_=>⟨rfl,rfl,hbl⟩⟩
  |false=>
   have nl:¬isL s[i]=true:=by unfold isL;simp[hl]
   have nd:¬isD s[i]=true:=by unfold isD;simp[hdg]
   cases ht2:Zm (s.data.toList.drop i)with
   |true=>
    have h2:i+2<=s.size:=by
     rw[hd]at ht2
     cases hr:s.data.toList.drop (i+1)with
     |nil=>rw[hr]at ht2;simp[Zm]at ht2
     |cons a r=>
      have:=Is List.length hr;simp at this;omega
    refine(ziw g s i w hs h0 hb hl hdg ht2 h2).mono ?_;rintro e w' ⟨rfl,hbl,hg⟩
    have ht:yD (s.data.toList.drop i)=(3,2):=by
     rw[hd]at ht2⊢
     rw[yD,An nl,An nd,As ht2]
    rw[ht];exact⟨3,_,rfl,hg,λ_=>⟨rfl,rfl,hbl⟩⟩
   |false=>
    cases hsg:Wf s[i]with
    |true=>
     refine(zfQ g s i w hs h0 hb hl hdg ht2 hsg).mono ?_;rintro e w' ⟨rfl,hbl,hg⟩
     have ht:yD (s.data.toList.drop i)=(3,1):=by
      rw[hd]at ht2⊢
      rw[yD,An nl,An nd,An (by simp[ht2]),As hsg]
     rw[ht];exact⟨3,_,rfl,hg,λ_=>⟨rfl,rfl,hbl⟩⟩
    |false=>
     refine(zfR g s i w hs h0 hb hl hdg ht2 hsg).mono ?_;rintro e w' ⟨rfl,hg⟩
     have ht:yD (s.data.toList.drop i)=(0,0):=by
      rw[hd]at ht2⊢
      rw[yD,An nl,An nd,An (by simp[ht2]),An (by simp[hsg])]
     rw[ht];exact⟨3,_,rfl,hg,λh=>by simp[uO]at h⟩
end Go.Proofs.YtogdmcebojiojaaGreatDoor
namespace Go.Proofs.YtogdmcebojiojaaGreatDoor
open Go.Proofs.Tryz
open Go.RowKit
theorem JN:Jo prog 76 154 3 32:=Jo.mk' underlying76 (z:=.agg #[.int .i64 0,.int .i64 0,.string ⟨#[]⟩]) (by kernel_rfl) rfl
theorem zky(s:AcG)(w:World)(hs:4000<s.size):Calls prog 41 #[.string s] w λe w'=>e=.returned (.tuple #[.slice none 0 0,.int .i64 0,.int .i64 2])/\w=w':=by
 go_enter func41,ntmps41
 go_wp2_with fail
 go_ret3
 exact⟨rfl,rfl⟩
theorem DX{α:Type}[vV α]{w w':World}{lo base g:Nat}{E:AcI}{v:Value}{xs:List α}(h:Own w lo base E v xs)(hg:w.grownBy w' (some g))(hlt:g<lo):Own w' lo base E v xs:=
 h.kept hg.size λb hb hb'=>hg.block b hb' λe=>by injection e with e;omega
theorem Wi{α:Type}[vV α](w:World)(B:Nat):UA w B (.slice none 0 0) ([]:List α):=
 ⟨[_],rfl,none,0,rfl,by simp,by simp,by simp,λ_=>rfl,λh=>At h (by simp)⟩
theorem UN(s:AcG)(i n:Nat):s.extract i (i+n)=bs ((s.data.toList.drop i).take n):=by
 apply ByteArray.ext;rw[Acm];apply Array.ext';simp only[Array.toList_extract,AcC,bs]
 congr 1;omega
theorem DY:∀(l:AcT) (note:Bool),tW (l.drop (tW l note)) false=0:=by
 intro l note;cases h:l.drop (tW l note)with
 |nil=>rfl
 |cons c r=>
  obtain⟨h1,h2⟩:=Wg l note c r h;rw[tW,An (by simpa using h1),An (by simp[h2])]
set_option maxHeartbeats 1000000 in
theorem zfS(s:AcG)(w:World)(hs:s.size<=4000):Calls prog 41 #[.string s] w λe w'=>
  ∃v,e=.returned (.tuple #[v,.int .i64 (uC s.data.toList 0 false [] 0).2.1,.int .i64 (uC s.data.toList 0 false [] 0).2.2])/\UA w' w.heap.size v (uC s.data.toList 0 false [] 0).1/\Below w.heap.size w w':=by
 obtain⟨R,hR⟩:∃R,R=uC s.data.toList 0 false [] 0:=⟨_,rfl⟩;rw[<-hR];have HR:=Lib.hid hR;clear hR
 go_enter func41,ntmps41
 go_wp2_with (go_at_call 91;refine(zdw w.heap.size s 0 _ hs (by omega) (vR.new' _ _ rfl)).mono ?_;rintro e w1 ⟨rfl,hb1,hg1⟩)
 have hh:0+tW (s.data.toList.drop 0) false<=s.size:=by have:=S4 (s.data.toList.drop 0) false;simpa using this
 obtain⟨i0,hi0⟩:∃i0,i0=0+tW (s.data.toList.drop 0) false:=⟨_,rfl⟩;rw[<-hi0]at hb1 hh
 have HB1:=Lib.hid hb1
 have hr0:Hid (uC (s.data.toList.drop i0) i0 false [] 0=R/\tW (s.data.toList.drop i0) false=0):=by
  show _/\_
  rw[HR.out,aT s.data.toList 0 false []];simp only[Aa4,Aas]at hi0
  rw[hi0,Aas];exact⟨rfl,DY _ _⟩
 have hw1:Below w.heap.size w w1:=Ww (Kd (dO (by(repeat'(first|(with_reducible exact Below.refl _ _)|(with_reducible assumption)|(with_reducible refine uA ?_ _)|(with_reducible refine Below.alloc ?_ ?_ _)|(with_reducible refine Below.setCell ?_ ?_ _)|(with_reducible refine Below.drew ?_)|go_size))) (some w.heap.size)) hg1) (BY _) (BY _)
 have hsz1:w.heap.size+1<=w1.heap.size:=hb1.lt;clear hi0 hb1 hg1
 go_loopg [6] s.size (λn v wr=>∃(i:Nat) (xs:AcR),i<=s.size/\s.size-i<=n/\xs.length<=i/\Hid (vR wr w.heap.size 152 #[.string s,.int .i64 i])/\Hid (Own wr (w.heap.size+1) (w.heap.size+1) 154 v xs)/\
  Hid (uC (s.data.toList.drop i) i false xs 0=R/\tW (s.data.toList.drop i) false=0)/\Below w.heap.size w wr/\w.heap.size+1<=wr.heap.size)
 case atStart=>exact⟨i0,[],hh,by omega,AT _,HB1.out,Own.nil _ _ (BY _),hr0,hw1,hsz1⟩
 case round=>
  obtain⟨i,xs,hi,hm,hxs,HB,HO,HS,hw,hsz⟩:=hrel;clear hr0 HB1 hw1 hsz1 hh;have c1:wr.cell? ⟨w.heap.size,1,none⟩=some (.int .i64 i):=HB.out.cell 1
  by_cases hlt:i<s.size
  ·have hlt':(i:Int)<(s.size:Int):=by omega
   have hd:=Lib.hid (jS s i hlt);have hnx:=Wg (s.data.toList.drop i) false s[i] (s.data.toList.drop (i+1)) (by rw[HS.out.2,Aa4];exact hd.out)
   have hstep:Hid (uC (s.data.toList.drop i) i false xs 0=if uO (yD (s.data.toList.drop i)).1 (yD (s.data.toList.drop i)).2 s[i]=0 then uC (s.data.toList.drop (i+1)) (i+1) false (xs++[⟨(yD (s.data.toList.drop i)).1,i,bs ((s.data.toList.drop i).take (yD (s.data.toList.drop i)).2)⟩]) ((yD (s.data.toList.drop i)).2-1)else([],i,uO (yD (s.data.toList.drop i)).1 (yD (s.data.toList.drop i)).2 s[i])):=by
    show _=_
    rw[hd.out,uC,An (by simpa using hnx.1),An (by simp[hnx.2])]
   have hle:=Kt (s.data.toList.drop i);have hpos:=OQ (s.data.toList.drop i);have hkk:=Qc (s.data.toList.drop i);generalize hta:yD (s.data.toList.drop i)=kn at hstep hle hpos hkk
   obtain⟨kd,n⟩:=kn;have hcall:=ziy w.heap.size s i wr hs hlt HB.out;rw[hta]at hcall
   simp only at hcall hstep hle hpos hkk
   generalize hbd:uO kd n s[i]=bd at hcall hstep
   have HC:=Lib.hid hcall;have HTA:=Lib.hid hta;have HBD:=Lib.hid hbd;clear hcall hta hbd hnx
   by_cases hb0:bd=0
   ·subst hb0
    go_wp2_with (first
     |(
       go_at_call 92
       refine HC.out.mono ?_;rintro e w2 ⟨k,x,rfl,hg2,hok⟩;obtain⟨rfl,rfl,hbl⟩:=hok rfl;have hown2:=Lib.hid (DX HO.out hg2 (by omega))
       have HBL:=Lib.hid hbl;have HG2:=Lib.hid hg2;have hsz2:=hg2.size;clear hok hbl hg2)
     |(
       at_builtin
       refine jW (α:=uB) rfl (.tmp 36) (.tmp 38) rfl JN rfl (hown2.out.alloc _) rfl (by simp) (y:=⟨kd,i,s.extract i (i+n)⟩) ⟨rfl,by unfold yY;simp;omega,by unfold yY;simp;omega,by rw[Abr];simp;omega⟩ (by simp only[vV.bytes];omega) (by omega) (by simp;omega) ?_
       rintro v' w3 hown3 hg3 hb3;have HO3:=Lib.hid hown3;have hbl3:vR w3 w.heap.size 152 #[.string s,.int .i64 ↑(i+n)]:=vR.below (HBL.out.alloc _) hb3 (by omega)
       have HBL3:=Lib.hid hbl3;have HB3:=Lib.hid hb3;clear hown3 hg3 hbl3 hb3))
    have hn1:1<=n:=hpos (by intro h;subst h;have:=HBD.out;simp[uO]at this)
    have hln:i+n<=s.size:=by simp at hle;omega
    refine(zdw w.heap.size s (i+n) w3 hs hln HBL3.out).mono ?_;rintro e w4 ⟨rfl,hb4,hg4⟩;have hsk:=S4 (s.data.toList.drop (i+n)) false;have hsk0:=DY (s.data.toList.drop (i+n)) false;rw[Abu]at hsk0
    obtain⟨i2,hi2⟩:∃i2,i2=i+n+tW (s.data.toList.drop (i+n)) false:=⟨_,rfl⟩;rw[<-hi2]at hb4 hsk0
    have hi2l:i2<=s.size:=by simp at hsk;omega
    have HI2:=Lib.hid hi2;have hge:i+n<=i2:=by omega
    clear hi2 hsk;have hO4:Hid (Own w4 (w.heap.size+1) (w.heap.size+1) 154 v' (xs++[⟨kd,i,s.extract i (i+n)⟩])):=DX HO3.out hg4 (by omega)
    have hS4:Hid (uC (s.data.toList.drop i2) i2 false (xs++[⟨kd,i,s.extract i (i+n)⟩]) 0=R/\tW (s.data.toList.drop i2) false=0):=by
     refine⟨?_,hsk0⟩
     rw[<-HS.out.1,hstep.out,As (by first|exact HBD.out|trivial),<-UN,Yq (s.data.toList.drop (i+1)) _ _ _ (n-1) (by simp;omega),Abu,
       show i+1+(n-1)=i+n from by omega,aT (s.data.toList.drop (i+n)),Abu,<-HI2.out]
    have z3:=HB3.out.size;have z4:=hg4.size;simp only[World.size_alloc]at z3
    have hB4:Below w.heap.size w w4:=by
     have b1:=hw.trans (Ww HG2.out (BY _) (by omega))
     have b2:Below w.heap.size w w3:=(b1.alloc (by omega) _).trans (HB3.out.mono (by omega))
     exact b2.trans (Ww hg4 (BY _) (by omega))
    have hlen4:(xs++[(⟨kd,i,s.extract i (i+n)⟩:uB)]).length<=i2:=by simp;omega
    have hsz4:w.heap.size+1<=w4.heap.size:=by omega
    have HBL4:=Lib.hid hb4;clear hg4 hb4 HO3 HBL3 HB3 hsk0
    go_wp2_with fail
    go_roundg (s.size-i2)
    case measure=>omega
    case rel=>exact⟨i2,_,hi2l,BY _,hlen4,HBL4,hO4,hS4,hB4,hsz4⟩
   ·have hb0':(bd !=0)=true:=by simp[hb0]
    have H0:=Lib.hid hb0;clear hb0
    go_wp2_with (go_at_call 92;refine(HC.out).mono ?_;rintro e w2 ⟨k,x,rfl,hg2,hok⟩)
    go_quiet (fail)
    go_wp2_with fail
    go_ret3
    have hfin:=HS.out.1;rw[hstep.out,An H0.out]at hfin
    rw[<-hfin];have hsz2:=hg2.size;have hwx:=hw.trans (Ww hg2 (BY _) (by omega))
    exact⟨_,rfl,Wi _ _,by(repeat'(first|(with_reducible exact Below.refl _ _)|(with_reducible assumption)|(with_reducible refine uA ?_ _)|(with_reducible refine Below.alloc ?_ ?_ _)|(with_reducible refine Below.setCell ?_ ?_ _)|(with_reducible refine Below.drew ?_)|go_size))⟩
  ·have hlt':¬(i:Int)<(s.size:Int):=by omega
   go_wp2_with fail
   go_ret3
   have hfin:=HS.out.1;rw[Abt (by simpa using hlt),uC]at hfin
   rw[<-hfin];exact⟨_,rfl,HO.out.fresh.more (by omega),by(repeat'(first|(with_reducible exact Below.refl _ _)|(with_reducible assumption)|(with_reducible refine uA ?_ _)|(with_reducible refine Below.alloc ?_ ?_ _)|(with_reducible refine Below.setCell ?_ ?_ _)|(with_reducible refine Below.drew ?_)|go_size))⟩
end Go.Proofs.YtogdmcebojiojaaGreatDoor
namespace Go.Proofs.YtogdmcebojiojaaGreatDoor
open Go.Proofs.Tryz
open Go.RowKit
theorem zdA(s:AcG)(i n:Nat):s.extract i (i+n)=bs ((s.data.toList.drop i).take n):=by
 apply ByteArray.ext;rw[Acm];apply Array.ext';simp only[Array.toList_extract,AcC,bs]
 congr 1;omega
set_option maxHeartbeats 1000000 in
theorem Aa(s:AcG)(i:Nat)(w:World)(hs:s.size<=4000)(h0:i<s.size)(hl:UL s[i].toNat=true):
  Calls prog 98 #[.string s,.int .i64 i] w λe w'=>e=.returned (.tuple #[.int .i64 1,.int .i64 ↑(1+((s.data.toList.drop (i+1)).takeWhile isW).length)])/\w=w':=by
 have hle:=zdx (p:=isW) (l:=s.data.toList) (j:=i+1) (by simp;omega)
 have hss:=UInt8.toNat_lt s[i];have hlt':(i:Int)<(s.size:Int):=by omega
 obtain⟨n,hn⟩:∃n,n=((s.data.toList.drop (i+1)).takeWhile isW).length:=⟨_,rfl⟩;rw[W1,<-hn]at hle
 rw[<-hn];have HN:=Lib.hid hn;clear hn
 go_enter func98,ntmps98
 go_wp2_with (go_at_call 171;refine(jY _ (by assumption) _).mono ?_;rintro e w' ⟨rfl,rfl⟩)
 go_loopg [7] s.size (λgg v wr=>∃j:Nat,i+1<=j/\j<=s.size/\s.size-j<=gg/\v=.int .i64 ↑(j-i)/\Hid (j+((s.data.toList.drop j).takeWhile isW).length=i+1+n)/\w=wr)
 case atStart=>exact⟨i+1,BY _,h0,by omega,by simp,by show _=_;rw[HN.out],rfl⟩
 case round=>
  obtain⟨j,hij,hj,hg,rfl,hE,rfl⟩:=hrel;clear hl hss;have e1:(i:Int)+((j-i:Nat):Int)=(j:Int):=by omega
  by_cases hlt:j<s.size
  ·have hjl:(j:Int)<(s.size:Int):=by omega
   have hd:=Lib.hid (jS s j hlt);have hsj:=UInt8.toNat_lt s[j];cases hlj:UL s[j].toNat with
   |true=>
    have HP:Hid (isW s[j]=true):=by show _=_;simp[isW,isL,hlj]
    go_wp2_with (go_at_call 171;refine(jY _ (by assumption) _).mono ?_;rintro e w' ⟨rfl,rfl⟩)
    go_roundg (s.size-(j+1))
    case measure=>omega
    case rel=>exact⟨j+1,by omega,by omega,by omega,(by go_num),zhw hd.out HP.out hE.out,rfl⟩
   |false=>
    cases hdj:isDN s[j].toNat with
    |true=>
     have HP:Hid (isW s[j]=true):=by show _=_;simp[isW,isD,hdj]
     go_wp2_with (first|(go_at_call 171;refine(jY _ (by assumption) _).mono ?_;rintro e w' ⟨rfl,rfl⟩)|(go_at_call 101;refine(fu _ (by assumption) _).mono ?_;rintro e w' ⟨rfl,rfl⟩))
     go_roundg (s.size-(j+1))
     case measure=>omega
     case rel=>exact⟨j+1,by omega,by omega,by omega,(by go_num),zhw hd.out HP.out hE.out,rfl⟩
    |false=>
     have HP:Hid (isW s[j]=false):=by show _=_;simp[isW,isL,isD,hlj,hdj]
     go_wp2_with (first|(go_at_call 171;refine(jY _ (by assumption) _).mono ?_;rintro e w' ⟨rfl,rfl⟩)|(go_at_call 101;refine(fu _ (by assumption) _).mono ?_;rintro e w' ⟨rfl,rfl⟩))
     go_ret2
     have:=zfN hd.out HP.out hE.out;exact⟨by rw[show 1+n=j-i from by omega];rfl,rfl⟩
  ·have hjl:decide ((j:Int)<(s.size:Int))=false:=by simp;omega
   go_wp2_with fail
   go_ret2
   have:=zfO (by simpa using hlt) hE.out
   exact⟨by rw[show 1+n=j-i from by omega];rfl,rfl⟩
set_option maxHeartbeats 1000000 in
theorem zb9(s:AcG)(i:Nat)(w:World)(hs:s.size<=4000)(h0:i<s.size)(hl:UL s[i].toNat=false)(hdg:isDN s[i].toNat=true):
  Calls prog 98 #[.string s,.int .i64 i] w λe w'=>e=.returned (.tuple #[.int .i64 2,.int .i64 ↑(1+((s.data.toList.drop (i+1)).takeWhile isD).length)])/\w=w':=by
 have hle:=zdx (p:=isD) (l:=s.data.toList) (j:=i+1) (by simp;omega)
 have hss:=UInt8.toNat_lt s[i];have hlt':(i:Int)<(s.size:Int):=by omega
 obtain⟨n,hn⟩:∃n,n=((s.data.toList.drop (i+1)).takeWhile isD).length:=⟨_,rfl⟩;rw[W1,<-hn]at hle
 rw[<-hn];have HN:=Lib.hid hn;clear hn
 go_enter func98,ntmps98
 go_wp2_with (first|(go_at_call 171;refine(jY _ (by assumption) _).mono ?_;rintro e w' ⟨rfl,rfl⟩)|(go_at_call 101;refine(fu _ (by assumption) _).mono ?_;rintro e w' ⟨rfl,rfl⟩))
 go_loopg [7] s.size (λgg v wr=>∃j:Nat,i+1<=j/\j<=s.size/\s.size-j<=gg/\v=.int .i64 ↑(j-i)/\Hid (j+((s.data.toList.drop j).takeWhile isD).length=i+1+n)/\w=wr)
 case atStart=>exact⟨i+1,BY _,h0,by omega,by simp,by show _=_;rw[HN.out],rfl⟩
 case round=>
  obtain⟨j,hij,hj,hg,rfl,hE,rfl⟩:=hrel;clear hl hdg hss;have e1:(i:Int)+((j-i:Nat):Int)=(j:Int):=by omega
  by_cases hlt:j<s.size
  ·have hjl:(j:Int)<(s.size:Int):=by omega
   have hd:=Lib.hid (jS s j hlt);have hsj:=UInt8.toNat_lt s[j];cases hdj:isDN s[j].toNat with
   |true=>
    have HP:Hid (isD s[j]=true):=hdj
    go_wp2_with (go_at_call 101;refine(fu _ (by assumption) _).mono ?_;rintro e w' ⟨rfl,rfl⟩)
    go_roundg (s.size-(j+1))
    case measure=>omega
    case rel=>exact⟨j+1,by omega,by omega,by omega,(by go_num),zhw hd.out HP.out hE.out,rfl⟩
   |false=>
    have HP:Hid (isD s[j]=false):=hdj
    go_wp2_with (go_at_call 101;refine(fu _ (by assumption) _).mono ?_;rintro e w' ⟨rfl,rfl⟩)
    go_ret2
    have:=zfN hd.out HP.out hE.out;exact⟨by rw[show 1+n=j-i from by omega];rfl,rfl⟩
  ·have hjl:decide ((j:Int)<(s.size:Int))=false:=by simp;omega
   go_wp2_with fail
   go_ret2
   have:=zfO (by simpa using hlt) hE.out
   exact⟨by rw[show 1+n=j-i from by omega];rfl,rfl⟩
theorem zdB(s:AcG)(i:Nat):(s.extract i (i+2)).toList=(s.data.toList.drop i).take 2:=by
 rw[Abo,zdA];rfl
theorem zay(l:AcT):Zm l=(l.take 2==[46,46]||l.take 2==[60,61]||l.take 2==[62,61]||l.take 2==[61,61]||l.take 2==[33,61]):=by
 match l with
 |[]=>rfl
 |[a]=>simp[Zm]
 |a::b::l=>simp[Zm]
theorem S6{c:UInt8}{k:Nat}(hk:k<256)(h:c≠UInt8.ofNat k):((k:Int)==(c.toNat:Int))=false:=by
 have:=lK hk h;rw[beq_eq_false_iff_ne]at this⊢;exact λe=>this e.symm
set_option maxHeartbeats 2000000 in
theorem zdC(s:AcG)(i:Nat)(w:World)(hs:s.size<=4000)(h0:i<s.size)(hl:UL s[i].toNat=false)(hdg:isDN s[i].toNat=false)(b1 b2 b3 b4 b5 b6:Bool)
  (e1:(((⟨#[91,93,59,58,44,45]⟩:AcG)[0]'(by decide)).toNat==(s[i].toNat:Int))=b1) (e2:(((⟨#[91,93,59,58,44,45]⟩:AcG)[1]'(by decide)).toNat==(s[i].toNat:Int))=b2) (e3:(((⟨#[91,93,59,58,44,45]⟩:AcG)[2]'(by decide)).toNat==(s[i].toNat:Int))=b3) (e4:(((⟨#[91,93,59,58,44,45]⟩:AcG)[3]'(by decide)).toNat==(s[i].toNat:Int))=b4) (e5:(((⟨#[91,93,59,58,44,45]⟩:AcG)[4]'(by decide)).toNat==(s[i].toNat:Int))=b5) (e6:(((⟨#[91,93,59,58,44,45]⟩:AcG)[5]'(by decide)).toNat==(s[i].toNat:Int))=b6)
  (hx:(b1,b2,b3,b4,b5,b6)=(true,false,false,false,false,false)\/(b1,b2,b3,b4,b5,b6)=(false,true,false,false,false,false)\/(b1,b2,b3,b4,b5,b6)=(false,false,true,false,false,false)\/(b1,b2,b3,b4,b5,b6)=(false,false,false,true,false,false)\/
   (b1,b2,b3,b4,b5,b6)=(false,false,false,false,true,false)\/(b1,b2,b3,b4,b5,b6)=(false,false,false,false,false,true)\/(b1,b2,b3,b4,b5,b6)=(false,false,false,false,false,false)):
  Calls prog 98 #[.string s,.int .i64 i] w λe w'=>e=.returned (.tuple #[.int .i64 (if Zm (s.data.toList.drop i)=true then 3 else if(b1||b2||b3||b4||b5||b6)=true then 3 else 0),.int .i64 (if Zm (s.data.toList.drop i)=true then 2 else if(b1||b2||b3||b4||b5||b6)=true then 1 else 0)])/\w=w':=by
 have hss:=UInt8.toNat_lt s[i];have hlt':(i:Int)<(s.size:Int):=by omega
 cases ht:Zm (s.data.toList.drop i)with
 |true=>
  have h2:i+1<s.size:=by
   rcases Aa8 (i+1) s.size with h|h
   ·exact h
   ·rw[jS s i h0,Abt (by simpa using h)]at ht;simp[Zm]at ht
  have h2':(i:Int)+1<(s.size:Int):=by omega
  rw[zay,<-zdB]at ht
  have HT:=Lib.hid ht;clear ht hx
  go_enter func98,ntmps98
  go_wp2_with (first|(go_at_call 171;refine(jY _ (by assumption) _).mono ?_;rintro e w' ⟨rfl,rfl⟩)|(go_at_call 101;refine(fu _ (by assumption) _).mono ?_;rintro e w' ⟨rfl,rfl⟩))
  all_goals first
   |(go_ret2;exact⟨rfl,rfl⟩)
   |(exfalso;have:=HT.out;simp_all;done)
 |false=>
  by_cases h2:i+1<s.size
  ·have h2':(i:Int)+1<(s.size:Int):=by omega
   rw[zay,<-zdB]at ht
   simp only[Abd]at ht
   obtain⟨⟨⟨⟨f1,f2⟩,f3⟩,f4⟩,f5⟩:=ht;rcases hx with h|h|h|h|h|h|h<;>(simp only[Prod.mk.injEq]at h;obtain⟨rfl,rfl,rfl,rfl,rfl,rfl⟩:=h)
   all_goals
    go_enter func98,ntmps98
    go_wp2_with (first|(go_at_call 171;refine(jY _ (by assumption) _).mono ?_;rintro e w' ⟨rfl,rfl⟩)|(go_at_call 101;refine(fu _ (by assumption) _).mono ?_;rintro e w' ⟨rfl,rfl⟩))
    go_rounds 7
    go_ret2
    exact⟨by simp,rfl⟩
  ·have h2':¬(i:Int)+1<(s.size:Int):=by omega
   clear ht;rcases hx with h|h|h|h|h|h|h<;>(simp only[Prod.mk.injEq]at h;obtain⟨rfl,rfl,rfl,rfl,rfl,rfl⟩:=h)
   all_goals
    go_enter func98,ntmps98
    go_wp2_with (first|(go_at_call 171;refine(jY _ (by assumption) _).mono ?_;rintro e w' ⟨rfl,rfl⟩)|(go_at_call 101;refine(fu _ (by assumption) _).mono ?_;rintro e w' ⟨rfl,rfl⟩))
    go_rounds 7
    go_ret2
    exact⟨by simp,rfl⟩
theorem zkz(s:AcG)(i:Nat)(w:World)(hs:s.size<=4000)(h0:i<s.size):
  Calls prog 98 #[.string s,.int .i64 i] w λe w'=>e=.returned (.tuple #[.int .i64 ↑(yD (s.data.toList.drop i)).1,.int .i64 ↑(yD (s.data.toList.drop i)).2])/\w=w':=by
 have hd:=jS s i h0;cases hl:UL s[i].toNat with
 |true=>
  have ht:yD (s.data.toList.drop i)=(1,1+((s.data.toList.drop (i+1)).takeWhile isW).length):=by rw[hd,yD,As (show isL s[i]=true from hl)]
  rw[ht];exact Aa s i w hs h0 hl
 |false=>
  have nl:¬isL s[i]=true:=by unfold isL;simp[hl]
  cases hdg:isDN s[i].toNat with
  |true=>
   have ht:yD (s.data.toList.drop i)=(2,1+((s.data.toList.drop (i+1)).takeWhile isD).length):=by rw[hd,yD,An nl,As (show isD s[i]=true from hdg)]
   rw[ht];exact zb9 s i w hs h0 hl hdg
  |false=>
   have nd:¬isD s[i]=true:=by unfold isD;simp[hdg]
   have key:∀b1 b2 b3 b4 b5 b6:Bool,Wf s[i]=(b1||b2||b3||b4||b5||b6)->yD (s.data.toList.drop i)=(if Zm (s.data.toList.drop i)=true then 3 else if(b1||b2||b3||b4||b5||b6)=true then 3 else 0,if Zm (s.data.toList.drop i)=true then 2 else if(b1||b2||b3||b4||b5||b6)=true then 1 else 0):=by
    intro b1 b2 b3 b4 b5 b6 hb;rw[hd,yD,An nl,An nd,hb];split
    ·rfl
    ·split<;>rfl
   have go:∀b1 b2 b3 b4 b5 b6:Bool,Wf s[i]=(b1||b2||b3||b4||b5||b6)->(((91:Int)==(s[i].toNat:Int))=b1)->(((93:Int)==(s[i].toNat:Int))=b2)->(((59:Int)==(s[i].toNat:Int))=b3)->(((58:Int)==(s[i].toNat:Int))=b4)->(((44:Int)==(s[i].toNat:Int))=b5)->(((45:Int)==(s[i].toNat:Int))=b6)->
     ((b1,b2,b3,b4,b5,b6)=(true,false,false,false,false,false)\/(b1,b2,b3,b4,b5,b6)=(false,true,false,false,false,false)\/(b1,b2,b3,b4,b5,b6)=(false,false,true,false,false,false)\/(b1,b2,b3,b4,b5,b6)=(false,false,false,true,false,false)\/
      (b1,b2,b3,b4,b5,b6)=(false,false,false,false,true,false)\/(b1,b2,b3,b4,b5,b6)=(false,false,false,false,false,true)\/(b1,b2,b3,b4,b5,b6)=(false,false,false,false,false,false))->
     Calls prog 98 #[.string s,.int .i64 i] w λe w'=>e=.returned (.tuple #[.int .i64 ↑(yD (s.data.toList.drop i)).1,.int .i64 ↑(yD (s.data.toList.drop i)).2])/\w=w':=by
    intro b1 b2 b3 b4 b5 b6 hb e1 e2 e3 e4 e5 e6 hx;refine(zdC s i w hs h0 hl hdg b1 b2 b3 b4 b5 b6 e1 e2 e3 e4 e5 e6 hx).mono λe w' ⟨h1,h2⟩=>⟨?_,h2⟩
    rw[h1,key b1 b2 b3 b4 b5 b6 hb];split
    ·rfl
    ·split<;>rfl
   by_cases c1:s[i]=91
   ·exact go true false false false false false (by rw[c1];rfl) (by rw[c1];rfl) (by rw[c1];rfl) (by rw[c1];rfl) (by rw[c1];rfl) (by rw[c1];rfl) (by rw[c1];rfl) (by simp)
   by_cases c2:s[i]=93
   ·exact go false true false false false false (by rw[c2];rfl) (by rw[c2];rfl) (by rw[c2];rfl) (by rw[c2];rfl) (by rw[c2];rfl) (by rw[c2];rfl) (by rw[c2];rfl) (by simp)
   by_cases c3:s[i]=59
   ·exact go false false true false false false (by rw[c3];rfl) (by rw[c3];rfl) (by rw[c3];rfl) (by rw[c3];rfl) (by rw[c3];rfl) (by rw[c3];rfl) (by rw[c3];rfl) (by simp)
   by_cases c4:s[i]=58
   ·exact go false false false true false false (by rw[c4];rfl) (by rw[c4];rfl) (by rw[c4];rfl) (by rw[c4];rfl) (by rw[c4];rfl) (by rw[c4];rfl) (by rw[c4];rfl) (by simp)
   by_cases c5:s[i]=44
   ·exact go false false false false true false (by rw[c5];rfl) (by rw[c5];rfl) (by rw[c5];rfl) (by rw[c5];rfl) (by rw[c5];rfl) (by rw[c5];rfl) (by rw[c5];rfl) (by simp)
   by_cases c6:s[i]=45
   ·exact go false false false false false true (by rw[c6];rfl) (by rw[c6];rfl) (by rw[c6];rfl) (by rw[c6];rfl) (by rw[c6];rfl) (by rw[c6];rfl) (by rw[c6];rfl) (by simp)
   exact go false false false false false false (by simp[Wf,c1,c2,c3,c4,c5,c6]) (S6 (k:=91) (by omega) c1) (S6 (k:=93) (by omega) c2) (S6 (k:=59) (by omega) c3) (S6 (k:=58) (by omega) c4) (S6 (k:=44) (by omega) c5) (S6 (k:=45) (by omega) c6) (by simp)
end Go.Proofs.YtogdmcebojiojaaGreatDoor
namespace Go.Proofs.YtogdmcebojiojaaGreatDoor
open Go.Proofs.Tryz
def JO(L:AcT):Nat->AcR->Prop
 |_,[]=>True
 |lo,t::ts=>∃j n:Nat,lo<=j/\1<=n/\j+n<=L.length/\t.at_=j/\t.text=bs ((L.drop j).take n)/\(∃c r,L.drop j=c::r/\yD (c::r)=(t.kind.toNat,n)/\0<=t.kind/\uO t.kind.toNat n c=0)/\JO L (j+n) ts
theorem JO.mono{L:AcT}:∀ {ts:AcR} {lo lo':Nat},lo'<=lo->JO L lo ts->JO L lo' ts
 |[],_,_,_,_=>trivial
 |t::ts,lo,lo',h,⟨j,n,h1,h2⟩=>⟨j,n,by omega,h2⟩
theorem W6(L:AcT):∀(l:AcT) (i:Nat) (note:Bool) (out:AcR) (k:Nat),L.drop i=l->k<=l.length->(uC l i note out k).2.2=0->
  ∃new,(uC l i note out k).1=out++new/\JO L (i+k) new/\(uC l i note out k).2.1=0
 |[],i,note,out,k,hL,hk,h=>⟨[],by simp[uC],trivial,by simp[uC]⟩
 |c::r,i,note,out,k+1,hL,hk,h=>by
  have hr:L.drop (i+1)=r:=by rw[<-Abu,hL];rfl
  obtain⟨new,h1,h2,h3⟩:=W6 L r (i+1) note out k hr (by simpa using hk) h
  exact⟨new,h1,by rw[show i+(k+1)=i+1+k from by omega];exact h2,h3⟩
 |c::r,i,note,out,0,hL,hk,h=>by
  have hr:L.drop (i+1)=r:=by rw[<-Abu,hL];rfl
  rw[uC]at h⊢
  by_cases h1:(note||c==37)=true
  ·rw[As h1]at h⊢
   obtain⟨new,a,b,d⟩:=W6 L r (i+1) _ out 0 hr (by omega) h
   exact⟨new,a,b.mono (by omega),d⟩
  ·rw[An h1]at h⊢
   by_cases h2:fo c=true
   ·rw[As h2]at h⊢
    obtain⟨new,a,b,d⟩:=W6 L r (i+1) _ out 0 hr (by omega) h
    exact⟨new,a,b.mono (by omega),d⟩
   ·rw[An h2]at h⊢
    have hle:=Kt (c::r);have hpos:=OQ (c::r);cases hta:yD (c::r)with
    |mk kd n=>
     rw[hta]at h hle hpos
     simp only at h hle hpos⊢
     by_cases hb:uO kd n c=0
     ·rw[As hb]at h⊢
      have hn:1<=n:=hpos (by rintro rfl;simp[uO]at hb)
      obtain⟨new,a,b,d⟩:=W6 L r (i+1) _ _ (n-1) hr (by simp at hle;omega) h
      have hll:L.length=i+(r.length+1):=by
       have:=Is List.length hL;simp at this;omega
      refine⟨⟨kd,i,bs ((c::r).take n)⟩::new,by rw[a];simp,⟨i,n,by omega,hn,by simp at hle;omega,rfl,by rw[hL],⟨c,r,hL,by simpa using hta,by simp,by simpa using hb⟩,?_⟩,d⟩
      rw[show i+n=i+1+(n-1)from by omega];exact b
     ·rw[An hb]at h
      exact At h hb
theorem S7(L:AcT):∀(l:AcT) (i:Nat) (note:Bool) (out:AcR) (k:Nat),(uC l i note out k).2.2≠0->(uC l i note out k).1=[]
 |[],i,note,out,k,h=>by simp[uC]at h
 |c::r,i,note,out,k+1,h=>S7 L r (i+1) note out k h
 |c::r,i,note,out,0,h=>by
  rw[uC]at h⊢
  by_cases h1:(note||c==37)=true
  ·rw[As h1]at h⊢;exact S7 L r _ _ _ _ h
  ·rw[An h1]at h⊢
   by_cases h2:fo c=true
   ·rw[As h2]at h⊢;exact S7 L r _ _ _ _ h
   ·rw[An h2]at h⊢
    by_cases hb:uO (yD (c::r)).1 (yD (c::r)).2 c=0
    ·simp only[As hb]at h⊢;exact S7 L r _ _ _ _ h
    ·simp only[An hb]
theorem ziz{l:AcT}(h:(tV l).2.2≠0):(tV l).1=[]:=by
 unfold tV at h⊢
 split
 ·rfl
 ·rename_i hh;rw[An hh]at h;exact S7 l _ _ _ _ _ h
theorem W7{l:AcT}(h:(tV l).2.2=0):JO l 0 (tV l).1/\(tV l).2.1=0/\l.length<=4000:=by
 unfold tV at h⊢
 split
 ·rename_i hh;rw[As hh]at h;simp at h
 ·rename_i hh
  rw[An hh]at h
  obtain⟨new,a,b,d⟩:=W6 l l 0 false [] 0 rfl (by omega) h
  rw[a];exact⟨b,d,by omega⟩
theorem zfT{c:UInt8}{r:AcT}(h:(yD (c::r)).1≠0):c≠37/\fo c=false:=by
 have key:∀d:UInt8,(d=37\/d=32\/d=9\/d=10)->c=d->False:=by
  intro d hd hc;apply h;subst hc;have h1:isL c=false:=by rcases hd with rfl|rfl|rfl|rfl<;>decide
  have h2:isD c=false:=by rcases hd with rfl|rfl|rfl|rfl<;>decide
  have h3:Wf c=false:=by rcases hd with rfl|rfl|rfl|rfl<;>decide
  have h4:Zm (c::r)=false:=by
   cases r with
   |nil=>rfl
   |cons a r=>rcases hd with rfl|rfl|rfl|rfl<;>simp[Zm]
  rw[yD,An (by simp[h1]),An (by simp[h2]),An (by simp[h4]),An (by simp[h3])]
 refine⟨λe=>key 37 (by simp) e,?_⟩
 cases hb:fo c with
 |false=>rfl
 |true=>
  simp only[fo,AaJ,beq_iff_eq]at hb
  rcases hb with(e|e)|e
  ·exact(key 32 (by simp) e).elim
  ·exact(key 9 (by simp) e).elim
  ·exact(key 10 (by simp) e).elim
theorem zmi(kind:Int)(s:AcG):((tV s.data.toList).2.2=0/\∃t,(tV s.data.toList).1=[t]/\t.kind=kind/\t.text=s)↔Zn kind s.data.toList=true:=by
 constructor
 ·rintro⟨h,t,ht,hk,hx⟩
  obtain⟨hc,_,hl⟩:=W7 h;rw[ht]at hc
  obtain⟨j,n,h0,h1,h2,h3,h4,⟨c,r,h5,h6,h7,h8⟩,_⟩:=hc;have hsz:(bs ((s.data.toList.drop j).take n)).data.toList.length=n:=by simp[bs];simp at h2;omega
  rw[<-h4,hx]at hsz
  have hj:j=0:=by omega
  subst hj;rw[Aa4]at h5
  rw[h5]at h2 hl hsz⊢
  simp only[Zn,h6];simp[h8,<-hk];simp at hl hsz
  refine⟨⟨by omega,?_⟩,by omega⟩
  omega
 ·intro h
  cases hs:s.data.toList with
  |nil=>rw[hs]at h;cases h
  |cons c r=>
   rw[hs]at h
   simp only[Zn,If,decide_eq_true_eq]at h
   obtain⟨⟨⟨h1,h2⟩,h3⟩,h4⟩:=h;have hk0:(yD (c::r)).1≠0:=by intro e;rw[e]at h4;simp[uO]at h4
   obtain⟨n37,nbl⟩:=zfT hk0
   have hsc:tV (c::r)=([⟨kind,0,s⟩],0,0):=by
    unfold tV;rw[An (by omega),uC,An (by simpa using n37),An (by simp[nbl])]
    have h4':uO (yD (c::r)).1 (c::r).length c=0:=by rw[<-h3];exact h4
    simp only[h3,h2];rw[As h4'];rw[Yq r _ _ _ _ (by simp),AaP (by simp),Abt (by simp),uC,<-hs]
    rfl
   rw[hsc];exact⟨rfl,_,rfl,rfl,rfl⟩
end Go.Proofs.YtogdmcebojiojaaGreatDoor
namespace Go.Proofs.YtogdmcebojiojaaGreatDoor
open Go.Proofs.Tryz
open Go.RowKit
theorem zhy{a b:AcG}(h:a≠b):(a.toList==b.toList)=false:=by
 rw[beq_eq_false_iff_ne,Abo,Abo];exact λe=>h (by cases a;cases b;simp at e;rw[e])
theorem zmj{a b:AcG}(h:a=b):(a.toList==b.toList)=true:=by subst h;simp
theorem zdD(kind:Int)(s:AcG)(h0:0<s.size)(hs:s.size<=4000){k n:Nat}(ht:yD s.data.toList=(k,n)):
  Zn kind s.data.toList=(decide ((k:Int)=kind)&&decide (n=s.size)&&decide (uO k n s[0]=0)):=by
 have hd:=jS s 0 h0;rw[Aa4]at hd
 have hl:s.data.toList.length=s.size:=W1 s;rw[hd]at ht hl⊢
 simp only[Zn];rw[hl,ht];simp[hs]
set_option maxHeartbeats 1000000 in
theorem zdE(kind:Int)(s:AcG)(w:World)(hz:s.size<=140737488355328):Calls prog 99 #[.int .i64 kind,.string s] w λe w'=>e=.returned (.bool (Zn kind s.data.toList))/\w=w':=by
 by_cases h0:s.size=0
 ·have hr:Zn kind s.data.toList=false:=by
   have:s.data.toList=[]:=Aa9 (by simpa using h0)
   rw[this];rfl
  rw[hr];have h1:s.toList=[]:=by rw[Abo];exact Aa9 (by simpa using h0)
  have h2:s.toList.isEmpty=true:=by rw[h1];rfl
  clear h1
  go_enter func99,ntmps99
  go_wp2_with fail
  go_ret
  exact⟨rfl,rfl⟩
 ·have h1:s.toList.isEmpty=false:=by
   rw[Abo];cases h:s.data.toList with
   |nil=>exact At (by have:=Is List.length h;simpa using this) h0
   |cons a l=>rfl
  by_cases hs:s.size<=4000
  ·have hs':decide ((4000:Int)<(s.size:Int))=false:=by simp;omega
   by_cases hk:kind=0
   ·subst hk
    have hr:Zn 0 s.data.toList=false:=by
     obtain⟨⟨k,n⟩,ht⟩:∃kn,yD s.data.toList=kn:=⟨_,rfl⟩;rw[zdD 0 s (by omega) hs ht]
     by_cases e:k=0
     ·subst e;simp[uO]
     ·simp
      intro h;exact At h e
    rw[hr]
    go_enter func99,ntmps99
    go_wp2_with fail
    go_ret
    exact⟨rfl,rfl⟩
   ·have hk':(kind==0)=false:=by simpa using hk
    have HK:=Lib.hid hk;clear hk;have hcall:=zkz s 0 w hs (by omega)
    rw[Aa4]at hcall
    obtain⟨⟨k,n⟩,ht⟩:∃kn,yD s.data.toList=kn:=⟨_,rfl⟩;have hR:=zdD kind s (by omega) hs ht
    have hkd:=Qc s.data.toList;rw[ht]at hcall hkd
    simp only at hkd
    rw[hR];have HC:=Lib.hid hcall;clear hcall ht hR;have hlen:(0:Int)<(s.size:Int):=by omega
    have hss:=UInt8.toNat_lt (s[0]'(by omega))
    by_cases e1:(k:Int)=kind
    ·subst e1
     by_cases e2:n=s.size
     ·have e2':((n:Int)==(s.size:Int))=true:=by simp[e2]
      have e2b:n<=s.size/\s.size<=n:=by omega
      have E2:=Lib.hid e2;clear e2
      match k,hkd,HC,HK,hk' with
      |0,_,_,HK,_=>exact At rfl HK.out
      |1,_,HC,_,_=>
       replace HC:Hid (Calls prog 98 #[.string s,.int .i64 0] w λe w'=>e=.returned (.tuple #[.int .i64 1,.int .i64 n])/\w=w'):=HC
       clear hk';show Calls prog 99 #[.int .i64 1,.string s] w _
       go_enter func99,ntmps99
       go_wp2_with (go_at_call 98;refine(HC.out).mono ?_;rintro e w' ⟨rfl,rfl⟩)
       all_goals go_ret
       all_goals exact⟨bK (by rw[Aap];simp[uO,E2.out];try omega),rfl⟩
      |2,_,HC,_,_=>
       replace HC:Hid (Calls prog 98 #[.string s,.int .i64 0] w λe w'=>e=.returned (.tuple #[.int .i64 2,.int .i64 n])/\w=w'):=HC
       clear hk';show Calls prog 99 #[.int .i64 2,.string s] w _
       by_cases e48:s[0]=48
       ·have y48:((s[0].toNat:Int)==48)=true:=Z9 (k:=48) (by omega) e48
        have E48:=Lib.hid e48;clear e48
        go_enter func99,ntmps99
        go_wp2_with (go_at_call 98;refine(HC.out).mono ?_;rintro e w' ⟨rfl,rfl⟩)
        all_goals go_ret
        all_goals exact⟨bK (by rw[Aap];simp[uO,E2.out,E48.out];try omega),rfl⟩
       ·have y48:((s[0].toNat:Int)==48)=false:=lK (k:=48) (by omega) e48
        have E48:=Lib.hid e48;clear e48
        go_enter func99,ntmps99
        go_wp2_with (go_at_call 98;refine(HC.out).mono ?_;rintro e w' ⟨rfl,rfl⟩)
        all_goals go_ret
        all_goals exact⟨bK (by rw[Aap];simp[uO,E2.out,E48.out];try omega),rfl⟩
      |3,_,HC,_,_=>
       replace HC:Hid (Calls prog 98 #[.string s,.int .i64 0] w λe w'=>e=.returned (.tuple #[.int .i64 3,.int .i64 n])/\w=w'):=HC
       clear hk';show Calls prog 99 #[.int .i64 3,.string s] w _
       go_enter func99,ntmps99
       go_wp2_with (go_at_call 98;refine(HC.out).mono ?_;rintro e w' ⟨rfl,rfl⟩)
       all_goals go_ret
       all_goals exact⟨bK (by rw[Aap];simp[uO,E2.out];try omega),rfl⟩
     ·have e2':((n:Int)==(s.size:Int))=false:=by rw[beq_eq_false_iff_ne];omega
      go_enter func99,ntmps99
      go_wp2_with (go_at_call 98;refine(HC.out).mono ?_;rintro e w' ⟨rfl,rfl⟩)
      go_ret
      exact⟨bK (by simp[e2]),rfl⟩
    ·have e1':((k:Int)==kind)=false:=by simpa using e1
     go_enter func99,ntmps99
     go_wp2_with (go_at_call 98;refine(HC.out).mono ?_;rintro e w' ⟨rfl,rfl⟩)
     go_ret
     exact⟨bK (by simp[e1]),rfl⟩
  ·have hs':decide ((4000:Int)<(s.size:Int))=true:=by simp;omega
   have hr:Zn kind s.data.toList=false:=by
    cases hd:s.data.toList with
    |nil=>rfl
    |cons a l=>
     have:(a::l).length=s.size:=by rw[<-hd];exact W1 s
     simp only[Zn,this];simp[hs]
   rw[hr]
   go_enter func99,ntmps99
   go_wp2_with fail
   go_ret
   exact⟨rfl,rfl⟩
theorem zdF(s:AcG)(w:World):Calls prog 41 #[.string s] w λe w'=>
  ∃v,e=.returned (.tuple #[v,.int .i64 (tV s.data.toList).2.1,.int .i64 (tV s.data.toList).2.2])/\UA w' w.heap.size v (tV s.data.toList).1/\Below w.heap.size w w':=by
 unfold tV
 by_cases hs:s.data.toList.length>4000
 ·rw[As hs]
  refine(zky s w (by simpa using hs)).mono ?_
  rintro e w' ⟨rfl,rfl⟩;exact⟨_,rfl,Wi _ _,Below.refl _ _⟩
 ·rw[An hs]
  exact zfS s w (by simpa using hs)
set_option maxHeartbeats 1000000 in
theorem zmk(kind:Int)(s:AcG)(w:World):Calls prog 272 #[.int .i64 kind,.string s] w λe w'=>e=.returned (.bool (Zn kind s.data.toList))/\Below w.heap.size w w':=by
 have hiff:=zmi kind s;have hcall:=zdF s w;generalize tV s.data.toList=R at hiff hcall
 obtain⟨ts,p,er⟩:=R;simp only at hiff hcall
 by_cases he:er=0
 ·subst he
  by_cases h1:ts.length=1
  ·obtain⟨t,rfl⟩:∃t,ts=[t]:=List.length_eq_one_iff.1 h1
   have HI:=Lib.hid hiff;have HC:=Lib.hid hcall;clear hiff hcall h1
   by_cases hk:t.kind=kind
   ·have hk':(t.kind==kind)=true:=by simp[hk]
    by_cases hx:t.text=s
    ·have hr:Zn kind s.data.toList=true:=HI.out.1 ⟨rfl,t,rfl,hk,hx⟩
     have hx':=zmj hx;rw[hr];clear hk hx hr
     go_enter func272,ntmps272
     go_wp2_with (go_at_call 41;refine HC.out.mono ?_;rintro e w1 ⟨v,rfl,hv,hb⟩;obtain⟨A,c,rfl,_⟩:=rN hv.rds;obtain⟨b,o,rfl,_,c0,c1,c2,_⟩:=Kc hv.rds (i:=0) (by simp);simp only[Nat.zero_mul,Nat.add_zero,List.getElem_cons_zero]at c0 c1 c2)
     go_ret
     exact⟨rfl,by(repeat'(first|(with_reducible exact Below.refl _ _)|(with_reducible assumption)|(with_reducible refine uA ?_ _)|(with_reducible refine Below.alloc ?_ ?_ _)|(with_reducible refine Below.setCell ?_ ?_ _)|(with_reducible refine Below.drew ?_)|go_size))⟩
    ·have hr:Zn kind s.data.toList=false:=by rw[<-Abb];intro h;obtain⟨_,t',h1,_,h3⟩:=HI.out.2 h;injection h1 with h1;subst h1;exact hx h3
     have hx':=zhy hx;rw[hr];clear hk hx hr
     go_enter func272,ntmps272
     go_wp2_with (go_at_call 41;refine HC.out.mono ?_;rintro e w1 ⟨v,rfl,hv,hb⟩;obtain⟨A,c,rfl,_⟩:=rN hv.rds;obtain⟨b,o,rfl,_,c0,c1,c2,_⟩:=Kc hv.rds (i:=0) (by simp);simp only[Nat.zero_mul,Nat.add_zero,List.getElem_cons_zero]at c0 c1 c2)
     go_ret
     exact⟨rfl,by(repeat'(first|(with_reducible exact Below.refl _ _)|(with_reducible assumption)|(with_reducible refine uA ?_ _)|(with_reducible refine Below.alloc ?_ ?_ _)|(with_reducible refine Below.setCell ?_ ?_ _)|(with_reducible refine Below.drew ?_)|go_size))⟩
   ·have hr:Zn kind s.data.toList=false:=by rw[<-Abb];intro h;obtain⟨_,t',h1,h2,_⟩:=HI.out.2 h;injection h1 with h1;subst h1;exact hk h2
    have hk':(t.kind==kind)=false:=by simpa using hk
    rw[hr];clear hk hr
    go_enter func272,ntmps272
    go_wp2_with (go_at_call 41;refine HC.out.mono ?_;rintro e w1 ⟨v,rfl,hv,hb⟩;obtain⟨A,c,rfl,_⟩:=rN hv.rds;obtain⟨b,o,rfl,_,c0,c1,c2,_⟩:=Kc hv.rds (i:=0) (by simp);simp only[Nat.zero_mul,Nat.add_zero,List.getElem_cons_zero]at c0 c1 c2)
    go_ret
    exact⟨rfl,by(repeat'(first|(with_reducible exact Below.refl _ _)|(with_reducible assumption)|(with_reducible refine uA ?_ _)|(with_reducible refine Below.alloc ?_ ?_ _)|(with_reducible refine Below.setCell ?_ ?_ _)|(with_reducible refine Below.drew ?_)|go_size))⟩
  ·have hr:Zn kind s.data.toList=false:=by rw[<-Abb];intro h;obtain⟨_,t',h2,_,_⟩:=hiff.2 h;exact h1 (by rw[h2];rfl)
   have hl':((ts.length:Int)==1)=false:=by rw[beq_eq_false_iff_ne];omega
   have HC:=Lib.hid hcall;clear hiff hcall h1;rw[hr];clear hr
   go_enter func272,ntmps272
   go_wp2_with (go_at_call 41;refine HC.out.mono ?_;rintro e w1 ⟨v,rfl,hv,hb⟩;obtain⟨A,c,rfl,_⟩:=rN hv.rds)
   go_ret
   exact⟨rfl,by(repeat'(first|(with_reducible exact Below.refl _ _)|(with_reducible assumption)|(with_reducible refine uA ?_ _)|(with_reducible refine Below.alloc ?_ ?_ _)|(with_reducible refine Below.setCell ?_ ?_ _)|(with_reducible refine Below.drew ?_)|go_size))⟩
 ·have hr:Zn kind s.data.toList=false:=by rw[<-Abb];intro h;exact he (hiff.2 h).1
  have he':(er==0)=false:=by simpa using he
  have HC:=Lib.hid hcall;clear hiff hcall he;rw[hr];clear hr
  go_enter func272,ntmps272
  go_wp2_with (go_at_call 41;refine HC.out.mono ?_;rintro e w1 ⟨v,rfl,hv,hb⟩;obtain⟨A,c,rfl,_⟩:=rN hv.rds)
  go_ret
  exact⟨rfl,by(repeat'(first|(with_reducible exact Below.refl _ _)|(with_reducible assumption)|(with_reducible refine uA ?_ _)|(with_reducible refine Below.alloc ?_ ?_ _)|(with_reducible refine Below.setCell ?_ ?_ _)|(with_reducible refine Below.drew ?_)|go_size))⟩
end Go.Proofs.YtogdmcebojiojaaGreatDoor
namespace Go.Proofs.YtogdmcebojiojaaGreatDoor
open Go.Proofs.Tryz
open Go.RowKit
theorem ziA(w:World):Calls prog 220 #[] w λe w'=>∃b,e=.returned (.slice (some ⟨b,0,none⟩) 16 16)/\(∀j x,Sr[j]? =some x->w'.cell? ⟨b,j,none⟩=some (.string x))/\Below w.heap.size w w':=by
 go_enter func220,ntmps220
 go_wp2_with fail
 go_ret
 refine⟨_,rfl,λj x hx=> ?_,by(repeat'(first|(with_reducible exact Below.refl _ _)|(with_reducible assumption)|(with_reducible refine uA ?_ _)|(with_reducible refine Below.alloc ?_ ?_ _)|(with_reducible refine Below.setCell ?_ ?_ _)|(with_reducible refine Below.drew ?_)|go_size))⟩
 have hj:j<16:=(AaD.1 hx).1
 match j,hj,hx with
 |0,_,hx=>injection hx with hx;subst hx;simp;rfl
 |1,_,hx=>injection hx with hx;subst hx;simp;rfl
 |2,_,hx=>injection hx with hx;subst hx;simp;rfl
 |3,_,hx=>injection hx with hx;subst hx;simp;rfl
 |4,_,hx=>injection hx with hx;subst hx;simp;rfl
 |5,_,hx=>injection hx with hx;subst hx;simp;rfl
 |6,_,hx=>injection hx with hx;subst hx;simp;rfl
 |7,_,hx=>injection hx with hx;subst hx;simp;rfl
 |8,_,hx=>injection hx with hx;subst hx;simp;rfl
 |9,_,hx=>injection hx with hx;subst hx;simp;rfl
 |10,_,hx=>injection hx with hx;subst hx;simp;rfl
 |11,_,hx=>injection hx with hx;subst hx;simp;rfl
 |12,_,hx=>injection hx with hx;subst hx;simp;rfl
 |13,_,hx=>injection hx with hx;subst hx;simp;rfl
 |14,_,hx=>injection hx with hx;subst hx;simp;rfl
 |15,_,hx=>injection hx with hx;subst hx;simp;rfl
theorem ziB(s:AcG)(w:World):Calls prog 218 #[.string s] w λe w'=>e=.returned (.bool (Zn 1 s.data.toList))/\Below w.heap.size w w':=by
 have H:=Lib.hid (zmk 1 s w)
 go_enter func218,ntmps218
 go_wp2_with (go_at_call 272;refine(H.out).mono ?_;rintro e w1 ⟨rfl,hb⟩)
 go_ret
 exact⟨rfl,hb⟩
theorem DZ(s:AcG):Lib.containsS (Sr.take 16) s=Sr.any (λu=>u.toList==s.toList):=by
 rw[show Sr.take 16=Sr from rfl]
 rw[Aap,Lib.containsS_iff,Aay];constructor
 ·intro h;exact⟨s,h,by simp⟩
 ·rintro⟨u,hu,he⟩
  rw[beq_iff_eq]at he
  have e:u=s:=Classical.byContradiction λh=>by have:=zhy h;simp[he]at this
  subst e;exact hu
theorem zkA(s:AcG)(w:World):Calls prog 161 #[.string s] w λe w'=>e=.returned (.bool (zD s))/\Below w.heap.size w w':=by
 have H:=Lib.hid (ziB s w);unfold zD;cases hq:Zn 1 s.data.toList with
 |false=>
  rw[hq]at H
  clear hq
  go_enter func161,ntmps161
  go_wp2_with (go_at_call 218;refine(H.out).mono ?_;rintro e w1 ⟨rfl,hb⟩)
  go_ret
  exact⟨rfl,hb⟩
 |true=>
  rw[hq]at H
  clear hq;rw[<-DZ]
  go_enter func161,ntmps161
  go_wp2_with (first
   |(go_at_call 218;refine(H.out).mono ?_;rintro e w1 ⟨rfl,hb⟩)
   |(go_at_call 220;refine(ziA _).mono ?_;rintro e w2 ⟨b,rfl,hc,hb2⟩)
   |(go_at_call 219;refine(slices_Contains_string b 0 16 16 Sr s _ (by decide) (by decide) (by
     intro j hj;rw[Aas];refine hc j _ ?_;rw[Aam,Aac hj];rfl)).mono ?_;rintro e w3 ⟨rfl,rfl⟩))
  go_ret
  exact⟨rfl,Jn hb hb2⟩
set_option maxHeartbeats 1000000 in
theorem zfU(s:AcG)(w:World):Calls prog 100 #[.string s] w λe w'=>e=.returned (.bool (Sr.any (λu=>u.toList==s.toList)))/\Below w.heap.size w w':=by
 have hlen:Sr.length=16:=rfl;obtain⟨L,hL⟩:∃L,L=Sr:=⟨_,rfl⟩;rw[<-hL];obtain⟨R,hR⟩:∃R,R=L.any (λu=>u.toList==s.toList):=⟨_,rfl⟩
 rw[<-hR];rw[<-hL]at hlen
 have HL:=Lib.hid hL;have HR:=Lib.hid (show(L.drop 0).any (λu=>u.toList==s.toList)=R by rw[Aa4,hR])
 clear hL hR
 go_enter func100,ntmps100
 go_wp2_with fail
 generalize hW:w.alloc _=w1;have hB:Below w.heap.size w w1:=by rw[<-hW];(repeat'(first|(with_reducible exact Below.refl _ _)|(with_reducible assumption)|(with_reducible refine uA ?_ _)|(with_reducible refine Below.alloc ?_ ?_ _)|(with_reducible refine Below.setCell ?_ ?_ _)|(with_reducible refine Below.drew ?_)|go_size))
 have hC:∀j x,L[j]? =some x->w1.cell? ⟨w.heap.size,j,none⟩=some (.string x):=by
  rw[<-hW,HL.out];intro j x hx;have hj:j<16:=(AaD.1 hx).1
  match j,hj,hx with
  |0,_,hx=>injection hx with hx;subst hx;simp;rfl
  |1,_,hx=>injection hx with hx;subst hx;simp;rfl
  |2,_,hx=>injection hx with hx;subst hx;simp;rfl
  |3,_,hx=>injection hx with hx;subst hx;simp;rfl
  |4,_,hx=>injection hx with hx;subst hx;simp;rfl
  |5,_,hx=>injection hx with hx;subst hx;simp;rfl
  |6,_,hx=>injection hx with hx;subst hx;simp;rfl
  |7,_,hx=>injection hx with hx;subst hx;simp;rfl
  |8,_,hx=>injection hx with hx;subst hx;simp;rfl
  |9,_,hx=>injection hx with hx;subst hx;simp;rfl
  |10,_,hx=>injection hx with hx;subst hx;simp;rfl
  |11,_,hx=>injection hx with hx;subst hx;simp;rfl
  |12,_,hx=>injection hx with hx;subst hx;simp;rfl
  |13,_,hx=>injection hx with hx;subst hx;simp;rfl
  |14,_,hx=>injection hx with hx;subst hx;simp;rfl
  |15,_,hx=>injection hx with hx;subst hx;simp;rfl
 have HC:=Lib.hid hC;clear hC hW HL
 go_loopg [4] 16 (λgg s4 wr=>∃k:Nat,k<=16/\16-k<=gg/\s4=.int .i64 k/\wr=w1/\Hid ((L.drop k).any (λu=>u.toList==s.toList)=R))
 case atStart=>exact⟨0,AT _,by omega,rfl,rfl,HR⟩
 case round=>
  obtain⟨k,hk,hg,rfl,rfl,HK⟩:=hrel
  by_cases hlt:k<16
  ·have hlt':(k:Int)<16:=by omega
   have hkl:k<L.length:=by omega
   have hc:=HC.out k _ (Aac hkl);have HK':=HK.out;rw[AaF hkl,Aa3]at HK'
   cases hq:(L[k].toList==s.toList)with
   |true=>
    rw[hq,Bool.true_or]at HK'
    subst HK'
    go_wp2_with fail
    go_ret
    exact⟨rfl,hB⟩
   |false=>
    rw[hq,Abv]at HK'
    have HK2:=Lib.hid HK';clear HK'
    go_wp2_with fail
    go_roundg (16-(k+1))
    case measure=>omega
    case rel=>exact⟨k+1,hlt,BY _,(by go_num),rfl,HK2⟩
  ·have hlt':¬(k:Int)<16:=by omega
   have HK':=HK.out;rw[AbW (by omega)]at HK'
   subst HK'
   go_wp2_with fail
   go_ret
   exact⟨rfl,hB⟩
theorem zfV(s:AcG)(w:World)(hz:s.size<=140737488355328):Calls prog 47 #[.string s] w λe w'=>e=.returned (.bool (zD s))/\Below w.heap.size w w':=by
 have H:=Lib.hid (zdE 1 s w hz);unfold zD;cases hq:Zn 1 s.data.toList with
 |false=>
  rw[hq]at H
  clear hq
  go_enter func47,ntmps47
  go_wp2_with (go_at_call 99;refine(H.out).mono ?_;rintro e w1 ⟨rfl,rfl⟩)
  go_ret
  exact⟨rfl,Below.refl _ _⟩
 |true=>
  rw[hq]at H
  clear hq;have H2:=Lib.hid (zfU s w)
  go_enter func47,ntmps47
  go_wp2_with (first
   |(go_at_call 99;refine(H.out).mono ?_;rintro e w1 ⟨rfl,rfl⟩)
   |(go_at_call 100;refine(H2.out).mono ?_;rintro e w2 ⟨rfl,hb2⟩))
  go_ret
  exact⟨rfl,hb2⟩
end Go.Proofs.YtogdmcebojiojaaGreatDoor
namespace Go.Proofs.YtogdmcebojiojaaGreatDoor
open Go.Proofs.Tryz
open Go.RowKit
theorem zca(s:AcG)(w:World)(hs:4000<s.size):Calls prog 44 #[.string s] w λe w'=>e=.returned (.tuple #[.slice none 0 0,.int .i64 0,.int .i64 2])/\w=w':=by
 go_enter func44,ntmps44
 go_wp2_with fail
 go_ret3
 exact⟨rfl,rfl⟩
theorem ziC{c:UInt8}{k:Nat}(hk:k<256):((c.toNat:Int) !=(k:Int))=(c !=UInt8.ofNat k):=by
 by_cases h:c=UInt8.ofNat k
 ·have:=Z9 hk h
  rw[bne,this,h];simp
 ·have:=lK hk h
  rw[bne,this];simp[bne,h]
theorem zn5(s:AcG)(i n:Nat)(h:i+n<=s.size)(hn:1<=n)(h0:0<(s.extract i (i+n)).size):(s.extract i (i+n))[0]=s[i]'(by omega):=by
 rw[ByteArray.getElem_extract];rfl
set_option maxRecDepth 100000 in
set_option maxHeartbeats 2000000 in
theorem D0(s:AcG)(w:World)(hs:s.size<=4000):Calls prog 44 #[.string s] w λe w'=>
  ∃v,e=.returned (.tuple #[v,.int .i64 (uC s.data.toList 0 false [] 0).2.1,.int .i64 (uC s.data.toList 0 false [] 0).2.2])/\UA w' w.heap.size v (uC s.data.toList 0 false [] 0).1/\Below w.heap.size w w':=by
 obtain⟨R,hR⟩:∃R,R=uC s.data.toList 0 false [] 0:=⟨_,rfl⟩;rw[<-hR];have HR:=Lib.hid hR;clear hR
 go_enter func44,ntmps44
 go_wp2_with fail
 go_loopg [5,6,7] s.size (λgg vo vn va wr=>∃(i:Nat) (note:Bool) (xs:AcR),i<=s.size/\s.size-i<=gg/\xs.length<=i/\va=.int .i64 i/\vn=.bool note/\Hid (Own wr w.heap.size w.heap.size 154 vo xs)/\
  Hid (uC (s.data.toList.drop i) i note xs 0=R)/\Below w.heap.size w wr)
 case atStart=>exact⟨0,false,[],AT _,by omega,AT _,rfl,rfl,Own.nil _ _ (BY _),HR.out.symm,Below.refl _ _⟩
 case round=>
  obtain⟨i,note,xs,hi,hg,hxs,rfl,rfl,HO,HS,hw⟩:=hrel;have hsz:=hw.size
  by_cases hlt:i<s.size
  ·have hlt':(i:Int)<(s.size:Int):=by omega
   have hd:=Lib.hid (jS s i hlt);have nn10:=Lib.hid (ziC (c:=s[i]) (k:=10) (by omega))
   have hss:=UInt8.toNat_lt s[i]
   have goOn:Hid ((note||s[i]==37)=true->uC (s.data.toList.drop (i+1)) ↑(i+1) (s[i] !=10) xs 0=R):=λh=>by
    have:=HS.out;rw[hd.out,uC,As h]at this;exact this
   have onBlank:Hid ((note||s[i]==37)=false->fo s[i]=true->uC (s.data.toList.drop (i+1)) ↑(i+1) false xs 0=R):=λh h'=>by
    have:=HS.out;rw[hd.out,uC,An (by simp[h]),As h']at this;exact this
   cases note with
   |true=>
    go_wp2_with fail
    go_roundg (s.size-(i+1))
    case measure=>omega
    case rel=>exact⟨i+1,_,xs,by omega,by omega,by omega,by go_num,rfl,HO,by show uC _ _ (((s[i].toNat:Nat):Int) !=((10:Nat):Int)) _ _=_;rw[nn10.out];exact goOn.out (by simp),hw⟩
   |false=>
    by_cases e37:s[i]=37
    ·have y37:((s[i].toNat:Int)==37)=true:=Z9 (k:=37) (by omega) e37
     have E37:=Lib.hid e37;clear e37
     go_wp2_with fail
     go_roundg (s.size-(i+1))
     case measure=>omega
     case rel=>exact⟨i+1,_,xs,by omega,by omega,by omega,by go_num,rfl,HO,by show uC _ _ (((s[i].toNat:Nat):Int) !=((10:Nat):Int)) _ _=_;rw[nn10.out];exact goOn.out (by simp[E37.out]),hw⟩
    ·have n37:((s[i].toNat:Int)==37)=false:=lK (k:=37) (by omega) e37
     have N37:=Lib.hid e37;clear e37 nn10
     by_cases hbl:fo s[i]=true
     ·have BL:=Lib.hid hbl
      simp only[fo,AaJ,beq_iff_eq]at hbl
      rcases hbl with(e|e)|e
      ·have y32:((s[i].toNat:Int)==32)=true:=Z9 (k:=32) (by omega) e
       clear e
       go_wp2_with fail
       all_goals
        go_roundg (s.size-(i+1))
        case measure=>omega
        case rel=>exact⟨i+1,_,xs,by omega,by omega,by omega,by go_num,rfl,HO,by show _=_;rw[onBlank.out (by simp[N37.out]) BL.out],hw⟩
      ·have y9:((s[i].toNat:Int)==9)=true:=Z9 (k:=9) (by omega) e
       have n32:((s[i].toNat:Int)==32)=false:=lK (k:=32) (by omega) (by rw[e];decide)
       clear e
       go_wp2_with fail
       all_goals
        go_roundg (s.size-(i+1))
        case measure=>omega
        case rel=>exact⟨i+1,_,xs,by omega,by omega,by omega,by go_num,rfl,HO,by show _=_;rw[onBlank.out (by simp[N37.out]) BL.out],hw⟩
      ·have y10:((s[i].toNat:Int)==10)=true:=Z9 (k:=10) (by omega) e
       have n32:((s[i].toNat:Int)==32)=false:=lK (k:=32) (by omega) (by rw[e];decide)
       have n9:((s[i].toNat:Int)==9)=false:=lK (k:=9) (by omega) (by rw[e];decide)
       clear e
       go_wp2_with fail
       all_goals
        go_roundg (s.size-(i+1))
        case measure=>omega
        case rel=>exact⟨i+1,_,xs,by omega,by omega,by omega,by go_num,rfl,HO,by show _=_;rw[onBlank.out (by simp[N37.out]) BL.out],hw⟩
     ·have n32:((s[i].toNat:Int)==32)=false:=lK (k:=32) (by omega) (by intro e;exact hbl (by simp[fo,e]))
      have n9:((s[i].toNat:Int)==9)=false:=lK (k:=9) (by omega) (by intro e;exact hbl (by simp[fo,e]))
      have n10:((s[i].toNat:Int)==10)=false:=lK (k:=10) (by omega) (by intro e;exact hbl (by simp[fo,e]))
      have hstep:Hid ((if uO (yD (s.data.toList.drop i)).1 (yD (s.data.toList.drop i)).2 s[i]=0 then uC (s.data.toList.drop (i+1)) (i+1) false (xs++[⟨(yD (s.data.toList.drop i)).1,i,bs ((s.data.toList.drop i).take (yD (s.data.toList.drop i)).2)⟩]) ((yD (s.data.toList.drop i)).2-1)else([],i,uO (yD (s.data.toList.drop i)).1 (yD (s.data.toList.drop i)).2 s[i]))=R):=by
       have:=HS.out;rw[hd.out,uC,An (by simp[N37.out]),An hbl]at this
       show _=_
       rw[hd.out];exact this
      have hle:=Kt (s.data.toList.drop i);have hpos:=OQ (s.data.toList.drop i);have hkk:=Qc (s.data.toList.drop i);have hcall:=zkz s i;generalize hta:yD (s.data.toList.drop i)=kn at hstep hle hpos hkk hcall
      obtain⟨kd,n⟩:=kn;simp only at hcall hstep hle hpos hkk
      simp only[Aa1,W1]at hle
      have HC:=Lib.hid hcall;clear hcall hta hbl goOn onBlank;have hin:i+n<=s.size:=by omega
      have hxl:(s.extract i (i+n)).size=n:=by rw[Abr];omega
      match kd,hkk with
      |0,_=>
       replace HC:Hid (∀W,s.size<=4000->i<s.size->Calls prog 98 #[.string s,.int .i64 i] W λe w'=>e=.returned (.tuple #[.int .i64 0,.int .i64 n])/\W=w'):=HC
       go_wp2_with (go_at_call 98;refine(HC.out _ hs hlt).mono ?_;rintro e w' ⟨rfl,rfl⟩)
       all_goals
        go_ret3
        have hfin:=hstep.out;have hbad:uO 0 n s[i]=1:=by simp[uO]
        rw[hbad,An (by decide)]at hfin
        rw[<-hfin];exact⟨_,rfl,Wi _ _,hw⟩
      |1,_=>
       replace HC:Hid (∀W,s.size<=4000->i<s.size->Calls prog 98 #[.string s,.int .i64 i] W λe w'=>e=.returned (.tuple #[.int .i64 1,.int .i64 n])/\W=w'):=HC
       by_cases h12:12<n
       ·have hT:decide ((12:Int)<(n:Int))=true:=by simp;omega
        go_wp2_with (go_at_call 98;refine(HC.out _ hs hlt).mono ?_;rintro e w' ⟨rfl,rfl⟩)
        all_goals
         go_ret3
         have hfin:=hstep.out;have hbad:uO 1 n s[i]=2:=by simp[uO,h12]
         rw[hbad,An (by decide)]at hfin
         rw[<-hfin];exact⟨_,rfl,Wi _ _,hw⟩
       ·have h12':decide ((12:Int)<(n:Int))=false:=by simp;omega
        go_wp2_with (first
         |(go_at_call 98;refine(HC.out _ hs hlt).mono ?_;rintro e w' ⟨rfl,rfl⟩)
         |(
           at_builtin
           refine jW (α:=uB) rfl _ _ rfl JN rfl HO.out rfl (by simp) (y:=⟨1,i,s.extract i (i+n)⟩) ⟨rfl,by unfold yY;simp,by unfold yY;simp;omega,by rw[Abr];simp;omega⟩ (by simp only[vV.bytes];omega) (by omega) (by first|omega|(simp;omega)) ?_
           rintro v' w3 hown3 hg3 hb3;have HO3:=Lib.hid hown3;have HB3:=Lib.hid hb3;clear hown3 hg3 hb3))
        all_goals
         have hn1:1<=n:=hpos (by decide)
         have hS3:Hid (uC (s.data.toList.drop (i+n)) ↑(i+n) false (xs++[⟨1,i,s.extract i (i+n)⟩]) 0=R):=by
          have hfin:=hstep.out;rw[As (by simp[uO,h12]),<-UN,Yq (s.data.toList.drop (i+1)) _ _ _ (n-1) (by simp;omega),Abu,show i+1+(n-1)=i+n from by omega]at hfin
          exact hfin
         have hB3:=hw.trans HB3.out;have hL3:(xs++[(⟨1,i,s.extract i (i+n)⟩:uB)]).length<=i+n:=by simp;omega
         have hM3:s.size-(i+n)<gk:=by omega
         clear HO HS HC hw hstep HB3
         go_roundg (s.size-(i+n))
         case measure=>exact hM3
         case rel=>exact⟨i+n,false,_,hin,BY _,hL3,(by go_num),rfl,HO3,hS3,hB3⟩
      |2,_=>
       replace HC:Hid (∀W,s.size<=4000->i<s.size->Calls prog 98 #[.string s,.int .i64 i] W λe w'=>e=.returned (.tuple #[.int .i64 2,.int .i64 n])/\W=w'):=HC
       by_cases h4:4<n
       ·have hT:decide ((4:Int)<(n:Int))=true:=by simp;omega
        go_wp2_with (go_at_call 98;refine(HC.out _ hs hlt).mono ?_;rintro e w' ⟨rfl,rfl⟩)
        all_goals
         go_ret3
         have hfin:=hstep.out;have hbad:uO 2 n s[i]=2:=by simp[uO,h4]
         rw[hbad,An (by decide)]at hfin
         rw[<-hfin];exact⟨_,rfl,Wi _ _,hw⟩
       ·have h4':decide ((4:Int)<(n:Int))=false:=by simp;omega
        by_cases h1:1<n
        ·have hT:decide ((1:Int)<(n:Int))=true:=by simp;omega
         have x0:((s.extract i (i+n))[0]'(by omega))=s[i]:=zn5 s i n hin (by omega) (by omega)
         by_cases e48:s[i]=48
         ·have y48:((((s.extract i (i+n))[0]'(by omega)).toNat:Int)==48)=true:=by rw[x0];exact Z9 (k:=48) (by omega) e48
          have E48:=Lib.hid e48;clear e48 x0
          go_wp2_with (go_at_call 98;refine(HC.out _ hs hlt).mono ?_;rintro e w' ⟨rfl,rfl⟩)
          all_goals
           go_ret3
           have hfin:=hstep.out;have hbad:uO 2 n s[i]=1:=by simp[uO,h4,h1,E48.out]
           rw[hbad,An (by decide)]at hfin
           rw[<-hfin];exact⟨_,rfl,Wi _ _,hw⟩
         ·have y48:((((s.extract i (i+n))[0]'(by omega)).toNat:Int)==48)=false:=by rw[x0];exact lK (k:=48) (by omega) e48
          have E48:=Lib.hid e48;clear e48 x0
          go_wp2_with (first
           |(go_at_call 98;refine(HC.out _ hs hlt).mono ?_;rintro e w' ⟨rfl,rfl⟩)
           |(
             at_builtin
             refine jW (α:=uB) rfl _ _ rfl JN rfl HO.out rfl (by simp) (y:=⟨2,i,s.extract i (i+n)⟩) ⟨rfl,by unfold yY;simp,by unfold yY;simp;omega,by rw[Abr];simp;omega⟩ (by simp only[vV.bytes];omega) (by omega) (by first|omega|(simp;omega)) ?_
             rintro v' w3 hown3 hg3 hb3;have HO3:=Lib.hid hown3;have HB3:=Lib.hid hb3;clear hown3 hg3 hb3))
          all_goals
           have hn1:1<=n:=hpos (by decide)
           have hS3:Hid (uC (s.data.toList.drop (i+n)) ↑(i+n) false (xs++[⟨2,i,s.extract i (i+n)⟩]) 0=R):=by
            have hfin:=hstep.out;rw[As (by simp[uO,h4,E48.out]),<-UN,Yq (s.data.toList.drop (i+1)) _ _ _ (n-1) (by simp;omega),Abu,show i+1+(n-1)=i+n from by omega]at hfin
            exact hfin
           have hB3:=hw.trans HB3.out;have hL3:(xs++[(⟨2,i,s.extract i (i+n)⟩:uB)]).length<=i+n:=by simp;omega
           have hM3:s.size-(i+n)<gk:=by omega
           clear HO HS HC hw hstep HB3
           go_roundg (s.size-(i+n))
           case measure=>exact hM3
           case rel=>exact⟨i+n,false,_,hin,BY _,hL3,(by go_num),rfl,HO3,hS3,hB3⟩
        ·have h1':decide ((1:Int)<(n:Int))=false:=by simp;omega
         go_wp2_with (first
          |(go_at_call 98;refine(HC.out _ hs hlt).mono ?_;rintro e w' ⟨rfl,rfl⟩)
          |(
            at_builtin
            refine jW (α:=uB) rfl _ _ rfl JN rfl HO.out rfl (by simp) (y:=⟨2,i,s.extract i (i+n)⟩) ⟨rfl,by unfold yY;simp,by unfold yY;simp;omega,by rw[Abr];simp;omega⟩ (by simp only[vV.bytes];omega) (by omega) (by first|omega|(simp;omega)) ?_
            rintro v' w3 hown3 hg3 hb3;have HO3:=Lib.hid hown3;have HB3:=Lib.hid hb3;clear hown3 hg3 hb3))
         all_goals
          have hn1:1<=n:=hpos (by decide)
          have hS3:Hid (uC (s.data.toList.drop (i+n)) ↑(i+n) false (xs++[⟨2,i,s.extract i (i+n)⟩]) 0=R):=by
           have hfin:=hstep.out;rw[As (by simp[uO,h4,h1]),<-UN,Yq (s.data.toList.drop (i+1)) _ _ _ (n-1) (by simp;omega),Abu,show i+1+(n-1)=i+n from by omega]at hfin
           exact hfin
          have hB3:=hw.trans HB3.out;have hL3:(xs++[(⟨2,i,s.extract i (i+n)⟩:uB)]).length<=i+n:=by simp;omega
          have hM3:s.size-(i+n)<gk:=by omega
          clear HO HS HC hw hstep HB3
          go_roundg (s.size-(i+n))
          case measure=>exact hM3
          case rel=>exact⟨i+n,false,_,hin,BY _,hL3,(by go_num),rfl,HO3,hS3,hB3⟩
      |3,_=>
       replace HC:Hid (∀W,s.size<=4000->i<s.size->Calls prog 98 #[.string s,.int .i64 i] W λe w'=>e=.returned (.tuple #[.int .i64 3,.int .i64 n])/\W=w'):=HC
       go_wp2_with (first
        |(go_at_call 98;refine(HC.out _ hs hlt).mono ?_;rintro e w' ⟨rfl,rfl⟩)
        |(
          at_builtin
          refine jW (α:=uB) rfl _ _ rfl JN rfl HO.out rfl (by simp) (y:=⟨3,i,s.extract i (i+n)⟩) ⟨rfl,by unfold yY;simp,by unfold yY;simp;omega,by rw[Abr];simp;omega⟩ (by simp only[vV.bytes];omega) (by omega) (by first|omega|(simp;omega)) ?_
          rintro v' w3 hown3 hg3 hb3;have HO3:=Lib.hid hown3;have HB3:=Lib.hid hb3;clear hown3 hg3 hb3))
       all_goals
        have hn1:1<=n:=hpos (by decide)
        have hS3:Hid (uC (s.data.toList.drop (i+n)) ↑(i+n) false (xs++[⟨3,i,s.extract i (i+n)⟩]) 0=R):=by
         have hfin:=hstep.out;rw[As (by simp[uO]),<-UN,Yq (s.data.toList.drop (i+1)) _ _ _ (n-1) (by simp;omega),Abu,show i+1+(n-1)=i+n from by omega]at hfin
         exact hfin
        have hB3:=hw.trans HB3.out;have hL3:(xs++[(⟨3,i,s.extract i (i+n)⟩:uB)]).length<=i+n:=by simp;omega
        have hM3:s.size-(i+n)<gk:=by omega
        clear HO HS HC hw hstep HB3
        go_roundg (s.size-(i+n))
        case measure=>exact hM3
        case rel=>exact⟨i+n,false,_,hin,BY _,hL3,(by go_num),rfl,HO3,hS3,hB3⟩
  ·have hlt':¬(i:Int)<(s.size:Int):=by omega
   go_wp2_with fail
   go_ret3
   have hfin:=HS.out;rw[Abt (by simpa using hlt),uC]at hfin
   rw[<-hfin];exact⟨_,rfl,HO.out.fresh,hw⟩
end Go.Proofs.YtogdmcebojiojaaGreatDoor
namespace Go.Proofs.YtogdmcebojiojaaGreatDoor
open Go.Proofs.Tryz
open Go.RowKit
set_option maxRecDepth 100000
abbrev dM(m:zG):D:=.agg [.sl .var m.vars,.sl .con m.cons,.int .i64 m.goal,.int .i64 m.var]
abbrev dV(v:zQ):D:=.agg [.str v.name,.int .i64 v.lo,.int .i64 v.hi]
abbrev dL(l:zC):D:=.agg [.int .i64 l.var,.int .i64 l.op,.int .i64 l.n]
abbrev dC(c:zF):D:=.agg [.int .i64 c.kind,.sl .int c.vars,.sl .int c.consts,.int .i64 c.n,.sl (.list .int) c.rows,.sl .lit c.lits]
abbrev dS(s:AcL):D:=.sl (.list .int) s
abbrev dI(n:Int):D:=.int .i64 n
abbrev AcY:D:=.ptr 1000 0
abbrev dB(b:Bool):D:=.bool b
abbrev dSt(s:zX):D:=.agg [.int .i64 s.kind,.int .i64 s.con,.sl .lit s.clause]
def zox(p:Prop):Prop:=p/\p
def zn6(p:Prop):Prop:=p/\p/\p
theorem zcb{p:Prop}:zox p=p:=Abn p
theorem zcc{p:Prop}:zn6 p=p:=by rw[zn6,Abn,Abn]
theorem wL{n:Int}(h1: -9223372036854775808<=n)(h2:n<=9223372036854775807):yF n=n:=by
 show IntKind.i64.wrap n=n
 rw[IntKind.wrap_i64];omega
theorem kI{k:Nat}(h:k<9223372036854775807):yF ((k:Int)+1)=((k+1:Nat):Int):=by
 rw[wL (by omega) (by omega)];rfl
theorem zE{k n:Nat}(h:k<n):xM (k:Int) n=true:=by
 unfold xM;rw[If];exact⟨Or (by omega),Or (by omega)⟩
theorem uW{k:Int}{n:Nat}:xM k n=true↔0<=k/\k<n:=by
 unfold xM;rw[If,Aaq,Aaq]
theorem yW{t:Ty}{n:Nat}(h:n*t.bytes<=140737488355328):xQ t n=true:=Or h
theorem zfW{k n:Nat}:decide ((k:Int)<(n:Int))=decide (k<n):=by
 by_cases h:k<n
 ·rw[Or h];exact Or (by omega)
 ·rw[Aah h];exact Aah (by omega)
theorem zT{t:Ty}{xs:List t.den}{k:Nat}(h:k<xs.length):zW t xs (k:Int).toNat=xs[k]:=by
 show xs.getD ((k:Int).toNat) _=_
 rw[Aab,Aam,Aac h];rfl
theorem atN{t:Ty}{xs:List t.den}{k:Nat}(h:k<xs.length):zW t xs k=xs[k]:=by
 show xs.getD k _=_
 rw[Aam,Aac h];rfl
theorem up{α:Type}{I:Nat->Int->α->Prop}{v:Int}(s m:Nat)(hv:v=(s:Int))(hsm:s<=m)(hm:m<=9223372036854775807)(Inv:Nat->α->Prop){a:α}(h0:Inv s a)
  (hs:∀n (k:Nat) a,s<=k->k<=m->Inv k a->(k<m->∀a',Inv (k+1) a'->I n (yF ((k:Int)+1)) a')->I (n+1) (k:Int) a):∃n,I n v a:=by
 subst hv
 suffices H:∀d k,s<=k->k+d=m->∀a,Inv k a->I (d+1) (k:Int) a from⟨m-s+1,H (m-s) s (BY _) (by omega) a h0⟩
 intro d
 induction d with
 |zero=>exact λk hk e a ha=>hs 0 k a hk (by omega) ha λh=>At h (by omega)
 |succ d ih=>
  intro k hk e a ha;refine hs (d+1) k a hk (by omega) ha λh a' ha'=> ?_
  rw[kI (by omega)]
  exact ih (k+1) (by omega) (by omega) a' ha'
theorem up0{I:Nat->Int->Prop}{v:Int}(s m:Nat)(hv:v=(s:Int))(hsm:s<=m)(hm:m<=9223372036854775807)(Inv:Nat->Prop)(h0:Inv s)
  (hs:∀n (k:Nat),s<=k->k<=m->Inv k->(k<m->Inv (k+1)->I n (yF ((k:Int)+1)))->I (n+1) (k:Int)):∃n,I n v:=
 let⟨n,h⟩:=up (I:=λn v (_:Unit)=>I n v) (a:=()) s m hv hsm hm (λk _=>Inv k) h0 λn k _ h1 h2 h3 h4=>hs n k h1 h2 h3 λh h'=>h4 h () h'
 ⟨n,h⟩
theorem VA.like{P:AcJ}{f:AcH}{args args':AcO}{r:D}(h:VA P f args r)(hl:args'.length=args.length)(ha:∀(w:World) (S:Nat->Prop) (i:Nat) (d:D) (v:Value),args[i]? =some d->(∀d',args'[i]? =some d'->Rp w S v d')->Rp w S v d):VA P f args' r:=
 λw S vs hS hs hv hg=>h w S vs hS (hs.trans hl) (λi d hd=>ha w S i d _ hd λd' hd'=>hv i d' hd') hg
theorem Rp.clo_rs{w:World}{S:Nat->Prop}{v:Value}{g:AcH}{rs rs':Option AcW}{cap:AcO}(h:Rp w S v (.clo g rs cap)):Rp w S v (.clo g rs' cap):=by
 obtain⟨vs,rfl,h1,h2⟩:=h.clo_inv;exact .clo g rs' cap vs h1 h2
theorem VA.clo{P:AcJ}{f:AcH}{pre post:AcO}{g:AcH}{rs rs':Option AcW}{cap:AcO}{r:D}(h:VA P f (pre++ .clo g rs cap::post) r):VA P f (pre++ .clo g rs' cap::post) r:=by
 refine h.like (by simp) λw S i d v hd hv=> ?_
 by_cases hi:i<pre.length
 ·rw[AaO hi]at hd
  exact hv d (by rw[AaO hi];exact hd)
 ·have hi':pre.length<=i:=Nat.le_of_not_lt hi
  rw[AaG hi']at hd
  have hv':∀d',(D.clo g rs' cap::post)[i-pre.length]? =some d'->Rp w S v d':=λd' h'=>hv d' (by rw[AaG hi'];exact h')
  generalize i-pre.length=j at hd hv'
  cases j with
  |zero=>
   rw[List.getElem?_cons_zero]at hd
   cases hd;exact(hv' _ rfl).clo_rs
  |succ j=>exact hv' d (by rw[Ace]at hd⊢;exact hd)
def MW{α:Type}(p:α->Bool):List α->Int->Int
 |[],_=> -1
 |x::xs,i=>bif p x then i else MW p xs (i+1)
theorem zkB{α:Type}{p:α->Bool}{xs:List α}{k:Nat}(h:k<xs.length):MW p (xs.drop k) k=bif p xs[k]then(k:Int)else MW p (xs.drop (k+1)) ((k+1:Nat):Int):=by
 rw[AaF h];rfl
theorem fI{α:Type}{p:α->Bool}:∀(xs:List α) (i:Int),0<=i->decide (0<=MW p xs i)=xs.any p
 |[],i,h=>by simp[MW]
 |x::xs,i,h=>by
  rw[MW,Aa3];cases hx:p x
  ·rw[Vs,fI xs (i+1) (by omega),Abv]
  ·rw[AI,Bool.true_or];exact Or h
theorem Ab{t:Ty}{xs:List t.den}(hl:xs.length<=9223372036854775807){I:Nat->Int->Prop}{R:D->Prop}{p:t.den->Bool}
  (hR:R (.int .i64 (MW p xs 0)))
  (hin:∀n (k:Nat) (h:k<xs.length),(p xs[k]=true->R (.int .i64 (k:Int)))->(p xs[k]=false->I n (yF ((k:Int)+1)))->I (n+1) (k:Int))
  (hout:∀n,R (.int .i64 (-1))->I (n+1) (xs.length:Int)):∃n,I n 0:=by
 refine up0 0 xs.length rfl (AT _) hl (λk=>R (.int .i64 (MW p (xs.drop k) (k:Int)))) hR λn k _ hk hi hn=> ?_
 by_cases h:k<xs.length
 ·rw[zkB h]at hi
  refine hin n k h (λe=> ?_) λe=>hn h ?_
  ·rw[e]at hi;exact hi
  ·rw[e]at hi;exact hi
 ·rw[AbW (by omega)]at hi
  have hk':k=xs.length:=by omega
  subst hk';exact hout n hi
theorem zY{k n:Nat}{X Y:Prop}(h:k<n):zJ (decide ((k:Int)<(n:Int))) X Y=X:=by rw[zfW,Or h];rfl
theorem zS{n:Nat}{X Y:Prop}:zJ (decide ((n:Int)<(n:Int))) X Y=Y:=by rw[zfW,Aah (Nat.lt_irrefl n)];rfl
theorem zkC{β:Type}{p:β->Bool}{zs:List β}{k:Nat}(h:k<zs.length):(zs.drop k).any p=(p zs[k]||(zs.drop (k+1)).any p):=by
 rw[AaF h,Aa3]
theorem zn7{β:Type}{I:Nat->Int->Prop}{v:Int}(s:Nat)(zs:List β)(p:β->Bool)(hv:v=(s:Int))(hl:zs.length+s<=9223372036854775807){X Y:Prop}(hXY:zJ (zs.any p) X Y)
  (hin:∀n (k:Nat) (h:k<zs.length),(p zs[k]=true->X)->(p zs[k]=false->I n (yF (((k+s:Nat):Int)+1)))->I (n+1) ((k+s:Nat):Int))
  (hout:∀n,Y->I (n+1) ((zs.length+s:Nat):Int)):∃n,I n v:=by
 refine up0 s (zs.length+s) hv (by omega) hl (λk=>zJ ((zs.drop (k-s)).any p) X Y) (by rw[Nat.sub_self];exact hXY) λn k hs hk hi hn=> ?_
 obtain⟨j,rfl⟩:∃j,k=j+s:=⟨k-s,by omega⟩
 rw[show j+s-s=j by omega]at hi
 by_cases h:j<zs.length
 ·rw[zkC h]at hi
  refine hin n j h (λe=> ?_) λe=>hn (by omega) ?_
  ·rw[e,Bool.true_or]at hi;exact hi
  ·rw[e,Abv]at hi;rw[show j+s+1-s=j+1 by omega];exact hi
 ·have hj:j=zs.length:=by omega
  subst hj;rw[AbW (by omega)]at hi
  exact hout n hi
theorem zm5{β:Type}{I:Nat->Int->Prop}{v:Int}(s:Nat)(zs:List β)(e:Nat->β->Int)(hv:v=(s:Int))(hl:zs.length+s<=9223372036854775807){X:Int->Prop}{Y:Prop}
  (hX:wB e 0 zs≠0->X (wB e 0 zs)) (hY:wB e 0 zs=0->Y)
  (hin:∀n (k:Nat) (h:k<zs.length),(∀j (hj:j<k),e j zs[j]=0)->(e k zs[k]≠0->X (e k zs[k]))->(e k zs[k]=0->I n (yF (((k+s:Nat):Int)+1)))->I (n+1) ((k+s:Nat):Int))
  (hout:∀n,Y->I (n+1) ((zs.length+s:Nat):Int)):∃n,I n v:=by
 refine up0 s (zs.length+s) hv (by omega) hl (λk=>wB e (k-s) (zs.drop (k-s))=wB e 0 zs/\∀j (hj:j<k-s) (hl:j<zs.length),e j zs[j]=0) ⟨by rw[Nat.sub_self];rfl,λj hj=>At hj (by omega)⟩ λn k hs hk hi hn=> ?_
 obtain⟨j,rfl⟩:∃j,k=j+s:=⟨k-s,by omega⟩
 rw[show j+s-s=j by omega]at hi
 obtain⟨hi,hb⟩:=hi
 by_cases h:j<zs.length
 ·refine hin n j h (λi hi=>hb i hi (by omega)) (λe0=> ?_) λe0=>hn (by omega) ?_
  ·have:=zdu h hi e0
   rw[<-this];exact hX (by rw[this];exact e0)
  ·rw[show j+s+1-s=j+1 by omega]
   refine⟨zdv h hi e0,λi hi1 hi2=> ?_⟩
   by_cases hij:i<j
   ·exact hb i hij hi2
   ·have:i=j:=by omega
    subst this;exact e0
 ·have hj:j=zs.length:=by omega
  subst hj;exact hout n (hY (zfJ (BY _) hi))
theorem upto{α:Type}{I:Nat->Int->α->Prop}(lo hi:Int)(hlo: -9223372036854775808<=lo)(hhi:hi<9223372036854775807)(Inv:Int->α->Prop){a:α}(h0:Inv lo a)
  (hs:∀n (k:Int) a,lo<=k->Inv k a->(k<=hi->∀a',Inv (k+1) a'->I n (yF (k+1)) a')->I (n+1) k a):∃n,I n lo a:=by
 suffices H:∀d (k:Int),lo<=k->(hi+1-k).toNat<=d->∀a,Inv k a->I (d+1) k a from⟨(hi+1-lo).toNat+1,H _ lo (Aav _) (BY _) a h0⟩
 intro d
 induction d with
 |zero=>exact λk hk e a ha=>hs 0 k a hk ha λh=>At h (by omega)
 |succ d ih=>
  intro k hk e a ha;refine hs (d+1) k a hk ha λh a' ha'=> ?_
  rw[wL (by omega) (by omega)]
  exact ih (k+1) (by omega) (by omega) a' ha'
theorem S8{α β:Type}(f:Nat->α->β){xs:List α}{k:Nat}(h:k<xs.length):(xs.take (k+1)).mapIdx f=(xs.take k).mapIdx f++[f k xs[k]]:=by
 rw[<-Aar h,List.mapIdx_append];simp[Nat.min_eq_left (Nat.le_of_lt h)]
theorem OU{α β:Type}(f:α->β){xs:List α}{k:Nat}(h:k<xs.length):(xs.take (k+1)).map f=(xs.take k).map f++[f xs[k]]:=by
 rw[<-Aar h,AaL];rfl
theorem oF{α:Type}(p:α->Bool){xs:List α}{k:Nat}(h:k<xs.length):(xs.take (k+1)).filter p=if p xs[k]=true then(xs.take k).filter p++[xs[k]]else(xs.take k).filter p:=by
 rw[<-Aar h,Acn]
 by_cases e:p xs[k]=true
 ·rw[As e,Aa7,As e];rfl
 ·rw[An e,Aa7,An e,List.filter_nil,Aa2]
theorem aU{t:Ty}{xs:List t.den}(h:B7 (.sl t xs)):okL t.bytes (okT t) xs:=h
theorem cW{t:Ty}{xs:List t.den}(h:B7 (.sl t xs)):xs.length<=9223372036854775807:=by
 have h1:xs.length*t.bytes<=140737488355328:=(show okT (.list t) xs from h).1
 have h2:1<=t.bytes:=t.bytes_pos;have:=Nat.mul_le_mul_left xs.length h2;omega
theorem MD{d:D}{ds:AcO}(h:∀e∈d::ds,B7 e):B7 d:=h d (Ks ..)
theorem okR{d:D}{ds:AcO}(h:∀e∈d::ds,B7 e):∀e∈ds,B7 e:=λe he=>h e (On _ he)
theorem Hv{β:Type}{I:Nat->Int->Prop}(zs:List β)(p:β->Bool)(hl:zs.length<=9223372036854775807){X Y:Prop}(hXY:zJ (zs.any p) X Y)
  (hin:∀n (k:Nat) (h:k<zs.length),(p zs[k]=true->X)->(p zs[k]=false->I n (yF ((k:Int)+1)))->I (n+1) (k:Int))
  (hout:∀n,Y->I (n+1) (zs.length:Int)):∃n,I n 0:=
 zn7 (I:=I) 0 zs p rfl hl hXY (λn k h h1 h2=>hin n k h h1 h2) hout
theorem zdG{β:Type}{I:Nat->Int->Prop}(zs:List β)(p:β->Bool)(hl:zs.length<=9223372036854775807){X:Prop}(hX:zs.any p=true->X)
  (hin:∀n (k:Nat) (h:k<zs.length),(p zs[k]=true->X)->(p zs[k]=false->I n (yF ((k:Int)+1)))->I (n+1) (k:Int))
  (hout:zs.any p=false->∀n,I (n+1) (zs.length:Int)):∃n,I n 0:=
 Hv (I:=I) zs p hl (Y:=zs.any p=false) (zA hX id) hin λn h=>hout h n
theorem zml{β:Type}{I:Nat->Int->Prop}(zs:List β)(e:Nat->β->Int)(hl:zs.length<=9223372036854775807){X:Int->Prop}
  (hX:wB e 0 zs≠0->X (wB e 0 zs))
  (hin:∀n (k:Nat) (h:k<zs.length),(∀j (hj:j<k),e j zs[j]=0)->(e k zs[k]≠0->X (e k zs[k]))->(e k zs[k]=0->I n (yF ((k:Int)+1)))->I (n+1) (k:Int))
  (hout:wB e 0 zs=0->∀n,I (n+1) (zs.length:Int)):∃n,I n 0:=
 zm5 (I:=I) 0 zs e rfl hl hX (Y:=wB e 0 zs=0) id (λn k h h0 h1 h2=>hin n k h h0 h1 h2) λn h=>hout h n
theorem Ac{β:Type}{I:Nat->Int->Prop}(zs:List β)(e:Nat->β->Int)(hl:zs.length<=9223372036854775807){X:Int->Prop}{Y:Prop}
  (hX:wB e 0 zs≠0->X (wB e 0 zs)) (hY:wB e 0 zs=0->Y)
  (hin:∀n (k:Nat) (h:k<zs.length),(∀j (hj:j<k),e j zs[j]=0)->(e k zs[k]≠0->X (e k zs[k]))->(e k zs[k]=0->I n (yF ((k:Int)+1)))->I (n+1) (k:Int))
  (hout:∀n,Y->I (n+1) (zs.length:Int)):∃n,I n 0:=
 zm5 (I:=I) 0 zs e rfl hl hX hY (λn k h h0 h1 h2=>hin n k h h0 h1 h2) hout
theorem zkD{b:Bool}:zJ b (D.bool true=D.bool b) (D.bool false=D.bool b):=by cases b<;>rfl
def or0(a b:Int):Int:=if a≠0 then a else b
theorem Qd{a b:Int}(h:a≠0):or0 a b=a:=As h
theorem UO{a b:Int}(h:a=0):or0 a b=b:=An (not_not_intro h)
theorem oO{a:Int}(e:(!decide (a=0))=true):a≠0:=by simpa using e
theorem qS{a:Int}(e:(!decide (a=0))=false):a=0:=by simpa using e
theorem VA.swap{P:AcJ}{f:AcH}{pre post:AcO}{a a':D}{r:D}(h:VA P f (pre++a::post) r)(ha:∀w S v,Rp w S v a'->Rp w S v a):VA P f (pre++a'::post) r:=by
 refine h.like (by simp) λw S i d v hd hv=> ?_
 by_cases hi:i<pre.length
 ·rw[AaO hi]at hd
  exact hv d (by rw[AaO hi];exact hd)
 ·have hi':pre.length<=i:=Nat.le_of_not_lt hi
  rw[AaG hi']at hd
  have hv':∀d',(a'::post)[i-pre.length]? =some d'->Rp w S v d':=λd' h'=>hv d' (by rw[AaG hi'];exact h')
  generalize i-pre.length=j at hd hv'
  cases j with
  |zero=>
   rw[List.getElem?_cons_zero]at hd
   cases hd;exact ha _ _ _ (hv' _ rfl)
  |succ j=>exact hv' d (by rw[Ace]at hd⊢;exact hd)
theorem Rp.icl{w:World}{S:Nat->Prop}{v:Value}{g:AcH}{rs rs':Option AcW}{cap:AcO}(h:Rp w S v (.iptr [.clo g rs cap] 0)):Rp w S v (.iptr [.clo g rs' cap] 0):=by
 obtain⟨b,rfl,hb,hc⟩:=h.iptr_inv;refine .iptr_mk hb λi d hd=> ?_
 cases i with
 |zero=>
  cases hd;obtain⟨u,hu,hr⟩:=hc 0 _ rfl;exact⟨u,hu,hr.clo_rs⟩
 |succ i=>simp at hd
theorem VA.iclo{P:AcJ}{f:AcH}{pre post:AcO}{g:AcH}{rs rs':Option AcW}{cap:AcO}{r:D}(h:VA P f (pre++ .iptr [.clo g rs cap] 0::post) r):VA P f (pre++ .iptr [.clo g rs' cap] 0::post) r:=
 h.swap λ_ _ _ h=>h.icl
theorem okA{cs:AcO}{i:Nat}{d:D}(h:B7 (.agg cs))(e:cs[i]? =some d):okC d:=h d (AaQ e)
theorem zkE{t:Ty}{xs:List t.den}(h:okC (.sl t xs)):xs.length<=9223372036854775807:=cW (t:=t) h
abbrev bQ:AcH:=7
abbrev Y8:AcH:=10
abbrev gL:AcH:=11
abbrev PG:AcH:=12
abbrev PH:AcH:=13
abbrev zcd:AcH:=14
abbrev vN:AcH:=15
abbrev MX:AcH:=16
abbrev Ya:AcH:=17
abbrev wM:AcH:=18
abbrev PI:AcH:=19
abbrev Ku:AcH:=20
abbrev W8:AcH:=21
abbrev Qe:AcH:=22
abbrev jU:AcH:=23
abbrev mI:AcH:=24
abbrev jZ:AcH:=25
abbrev sD:AcH:=26
abbrev uD:AcH:=27
abbrev uE:AcH:=28
abbrev Qf:AcH:=29
abbrev zdH:AcH:=30
abbrev S9:AcH:=31
abbrev Qg:AcH:=32
abbrev Ra:AcH:=33
abbrev D1:AcH:=34
abbrev Ad:AcH:=35
abbrev Ae:AcH:=36
abbrev ZI:AcH:=37
abbrev nS:AcH:=38
abbrev PJ:AcH:=39
abbrev Qh:AcH:=40
abbrev Qi:AcH:=41
abbrev Qj:AcH:=42
abbrev gA:AcH:=43
abbrev Ys:AcH:=44
abbrev xD:AcH:=45
abbrev zV:AcH:=46
abbrev kJ:AcH:=47
abbrev yC:AcH:=48
abbrev xH:AcH:=49
abbrev lL:AcH:=50
abbrev tQ:AcH:=51
abbrev xT:AcH:=52
abbrev yT:AcH:=53
abbrev Yb:AcH:=54
abbrev MY:AcH:=55
abbrev vT:AcH:=56
abbrev nT:AcH:=57
abbrev Kv:AcH:=58
abbrev Hw:AcH:=59
abbrev nG:AcH:=60
abbrev xI:AcH:=61
abbrev iA:AcH:=62
abbrev Rb:AcH:=63
abbrev PK:AcH:=64
abbrev OV:AcH:=65
abbrev MZ:AcH:=66
abbrev Y9:AcH:=67
abbrev Wz:AcH:=68
abbrev Qk:AcH:=69
abbrev Xa:AcH:=70
abbrev V1:AcH:=71
abbrev cX:AcH:=72
abbrev rG:AcH:=73
abbrev ZJ:AcH:=74
abbrev nH:AcH:=75
abbrev pI:AcH:=76
abbrev lM:AcH:=77
abbrev pJ:AcH:=78
abbrev Af:AcH:=79
abbrev PL:AcH:=80
abbrev zdI:AcH:=81
abbrev zce:AcH:=82
abbrev iB:AcH:=83
abbrev OW:AcH:=84
abbrev iC:AcH:=85
abbrev Ag:AcH:=86
abbrev fJ:AcH:=87
abbrev WA:AcH:=88
abbrev iD:AcH:=89
abbrev Re:AcH:=90
abbrev OX:AcH:=91
abbrev PM:AcH:=92
abbrev ow:AcH:=94
abbrev V2:AcH:=95
abbrev T0:AcH:=96
abbrev sL:AcH:=97
abbrev M0:AcH:=98
abbrev M1:AcH:=99
abbrev Kw:AcH:=100
abbrev ox:AcH:=101
abbrev wQ:AcH:=102
abbrev vZ:AcH:=103
abbrev yH:AcH:=104
abbrev sE:AcH:=105
abbrev lN:AcH:=106
abbrev OY:AcH:=108
abbrev F2:AcH:=109
abbrev V3:AcH:=110
abbrev JP:AcH:=111
abbrev M2:AcH:=112
abbrev Kx:AcH:=113
abbrev kV:AcH:=114
abbrev qL:AcH:=115
abbrev pK:AcH:=116
abbrev YF:AcH:=117
abbrev uR:AcH:=118
abbrev Yc:AcH:=119
abbrev aV:AcH:=120
abbrev gM:AcH:=121
abbrev nU:AcH:=122
abbrev uX:AcH:=123
abbrev vD:AcH:=124
abbrev bR:AcH:=126
abbrev ZK:AcH:=127
abbrev V4:AcH:=128
abbrev Xb:AcH:=129
abbrev lO:AcH:=130
abbrev Xc:AcH:=131
abbrev qT:AcH:=132
abbrev lP:AcH:=133
abbrev WB:AcH:=134
abbrev bS:AcH:=135
abbrev dP:AcH:=136
abbrev xF:AcH:=137
abbrev WC:AcH:=138
abbrev sY:AcH:=139
abbrev sP:AcH:=141
abbrev pL:AcH:=142
abbrev rP:AcH:=143
abbrev xB:AcH:=154
abbrev tA:AcH:=155
abbrev zM:AcH:=156
abbrev zN:AcH:=157
abbrev pY:AcH:=158
abbrev zO:AcH:=159
abbrev zR:AcH:=160
abbrev V5:AcH:=161
abbrev uS:AcH:=162
abbrev Xd:AcH:=163
abbrev ZL:AcH:=164
abbrev nI:AcH:=165
abbrev V6:AcH:=166
abbrev wI:AcH:=167
abbrev WD:AcH:=168
abbrev yO:AcH:=169
abbrev WE:AcH:=170
abbrev OZ:AcH:=171
abbrev D2:AcH:=174
abbrev tF:AcH:=175
abbrev yU:AcH:=176
abbrev pZ:AcH:=177
abbrev fw:AcH:=178
abbrev fx:AcH:=179
abbrev Xe:AcH:=180
abbrev wH:AcH:=181
abbrev xL:AcH:=182
abbrev rQ:AcH:=183
abbrev kK:AcH:=184
abbrev mY:AcH:=185
abbrev cY:AcH:=186
abbrev pA:AcH:=187
abbrev T1:AcH:=188
abbrev gY:AcH:=189
abbrev iE:AcH:=190
abbrev nJ:AcH:=191
abbrev ZM:AcH:=192
abbrev sZ:AcH:=193
abbrev sN:AcH:=194
abbrev V7:AcH:=195
abbrev W9:AcH:=196
abbrev fK:AcH:=197
abbrev Xf:AcH:=198
abbrev fy:AcH:=199
abbrev fL:AcH:=200
abbrev uT:AcH:=201
abbrev gB:AcH:=202
abbrev tX:AcH:=203
abbrev Yd:AcH:=204
abbrev Yt:AcH:=207
abbrev uK:AcH:=210
abbrev zP:AcH:=211
abbrev xU:AcH:=212
abbrev rA:AcH:=213
abbrev xA:AcH:=214
abbrev tG:AcH:=215
abbrev yR:AcH:=216
abbrev fM:AcH:=217
abbrev zcf:AcH:=218
abbrev YY:AcH:=219
abbrev Ah:AcH:=220
abbrev tH:AcH:=221
abbrev Ql:AcH:=222
abbrev Wj:AcH:=223
abbrev nV:AcH:=224
abbrev tI:AcH:=225
abbrev rK:AcH:=226
abbrev mZ:AcH:=232
abbrev sA:AcH:=233
abbrev fN:AcH:=234
abbrev sF:AcH:=235
abbrev kL:AcH:=236
abbrev fO:AcH:=237
abbrev sV:AcH:=238
abbrev fP:AcH:=239
abbrev vH:AcH:=240
abbrev iF:AcH:=241
abbrev dQ:AcH:=242
abbrev Ye:AcH:=243
abbrev Xg:AcH:=244
abbrev Yf:AcH:=245
abbrev oa:AcH:=246
abbrev vJ:AcH:=247
abbrev oK:AcH:=248
abbrev ME:AcH:=249
abbrev fQ:AcH:=250
abbrev yP:AcH:=251
abbrev Qm:AcH:=252
abbrev gZ:AcH:=253
abbrev aW:AcH:=254
abbrev Xh:AcH:=255
abbrev aX:AcH:=256
abbrev rB:AcH:=257
abbrev zdJ:AcH:=272
abbrev Wk:AcH:=273
abbrev fR:AcH:=279
abbrev tB:AcH:=280
abbrev xJ:AcH:=281
abbrev xN:AcH:=282
abbrev Xi:AcH:=283
abbrev WF:AcH:=284
abbrev oc:AcH:=285
abbrev wN:AcH:=286
abbrev gN:AcH:=287
abbrev gO:AcH:=288
abbrev od:AcH:=289
abbrev pB:AcH:=290
abbrev qU:AcH:=291
abbrev nK:AcH:=292
abbrev T2:AcH:=293
abbrev Yg:AcH:=294
abbrev Xj:AcH:=295
abbrev aY:AcH:=310
abbrev fa:AcH:=311
abbrev bT:AcH:=312
abbrev vL:AcH:=317
abbrev oe:AcH:=320
def Ev:TE where
 zs:=[(3,(false,[dI 0])),(9,(false,[.str (⟨#[]⟩)])),(22,(false,[.nil])),(23,(false,[.nil])),(25,(true,[.sl .var ([]:AcP),.sl .con ([]:AcQ),dI 0,dI 0])),(26,(false,[dI 0])),(40,(false,[.nil])),(41,(false,[.nil])),(43,(true,[dI 0,.sl .int ([]:AcK),.sl .step ([]:AcS)])),(50,(false,[.nil])),(52,(false,[.nil])),(53,(false,[.nil])),(62,(false,[.nil])),(72,(true,[.str (⟨#[]⟩),dI 0,dI 0])),(74,(true,[dI 0,.sl .int ([]:AcK),.sl .int ([]:AcK),dI 0,dS ([]:AcL),.sl .lit ([]:AcM)])),(76,(false,[.nil])),(80,(false,[.undef])),(81,(false,[.undef])),(83,(true,[.sl .tok ([]:AcR),dI 0,dI 0,.nil,.nil,dI 0,dI 0,.undef])),(85,(true,[.sl .tok ([]:AcR),dI 0,dI 0,dI 0,.nil,.nil,dI 0,dI 0])),(97,(false,[.nil])),(99,(true,[.ifc (.pointer none),.nil])),(101,(true,[.ifc (.pointer none),.nil,.sl .var ([]:AcP),.sl .con ([]:AcQ),dI 0,dI 0])),(114,(true,[dI 0,dI 0,dI 0])),(120,(false,[.undef])),(123,(true,[.undef,.slN .int ([]:AcK) true])),(129,(true,[dI 0,dI 0,.sl .lit ([]:AcM)])),(139,(true,[.sl .var ([]:AcP),.sl .con ([]:AcQ),dI 0,dI 0,.nil])),(141,(false,[.nil])),(147,(true,[.sl .var ([]:AcP),.sl .con ([]:AcQ),dI 0,dI 0,.nil])),(152,(true,[.str (⟨#[]⟩),dI 0])),(154,(true,[dI 0,dI 0,.str (⟨#[]⟩)])),(158,(true,[dI 0,dI 0])),(176,(false,[.undef])),(179,(true,[.sl .var ([]:AcP),.sl .con ([]:AcQ),dI 0,dI 0,.sl (.list .lit) ([]:AcN),dI 0,.nil,.nil,.undef])),(195,(false,[.undef])),(217,(false,[.undef])),(229,(true,[.sl .var ([]:AcP),.sl .con ([]:AcQ),dI 0,dI 0,.sl (.list .lit) ([]:AcN),dS ([]:AcL),.nil])),(245,(true,[dI 0,dI 0,dI 0,dI 0,dI 0])),(284,(false,[.undef])),(285,(false,[.undef])),(287,(true,[dI 0,.sl .int ([]:AcK),.sl .int ([]:AcK),dI 0,dS ([]:AcL),.sl .lit ([]:AcM),dS ([]:AcL),.sl .int ([]:AcK),.sl .int ([]:AcK),.undef])),(288,(true,[dI 0,dI 0])),(289,(false,[.nil])),(291,(false,[.undef])),(293,(true,[dI 0,dI 0])),(299,(true,[dS ([]:AcL),.sl .int ([]:AcK),.undef,.undef,dI 0]))]
 sl:=[(22,(72,.var)),(23,(74,.con)),(40,(3,.int)),(41,(129,.step)),(50,(53,.list .lit)),(52,(114,.lit)),(53,(114,.lit)),(62,(40,.list .int)),(76,(154,.tok)),(92,(9,.str)),(97,(5,.byte)),(141,(40,.list .int)),(263,(52,.list .lit)),(289,(293,.term))]
 fld:=[(25,[(0,1),(1,1),(2,1),(3,1)]),(43,[(0,1),(1,1),(2,1)]),(72,[(0,1),(1,1),(2,1)]),(74,[(0,1),(1,1),(2,1),(3,1),(4,1),(5,1)]),(83,[(0,1),(1,1),(2,1),(3,4),(7,1)]),(85,[(0,1),(1,1),(2,1),(3,1),(4,4)]),(99,[(0,1),(1,1)]),(101,[(0,2),(2,4)]),(114,[(0,1),(1,1),(2,1)]),(123,[(0,1),(1,1)]),(129,[(0,1),(1,1),(2,1)]),(139,[(0,4),(4,1)]),(147,[(0,4),(4,1)]),(152,[(0,1),(1,1)]),(154,[(0,1),(1,1),(2,1)]),(158,[(0,1),(1,1)]),(179,[(0,4),(4,1),(5,1),(6,1),(7,1),(8,1)]),(229,[(0,4),(4,1),(5,1),(6,1)]),(245,[(0,1),(1,1),(2,1),(3,1),(4,1)]),(287,[(0,6),(6,1),(7,1),(8,1),(9,1)]),(293,[(0,1),(1,1)]),(299,[(0,1),(1,1),(2,1),(3,1),(4,1)])]
 strs:=[9]
 ints:=[(2,.i64),(3,.i64),(5,.u8),(6,.u8),(26,.i64),(270,.i64),(310,.i64),(340,.u8),(341,.u8)]
 bools:=[4]
 sig:=[(Y8,[.mdl,.int,.int]),(gL,[.mdl,.int,.int]),(PG,[.bool]),(PH,[.bool]),(zcd,[.str,.int]),(vN,[.int]),(MX,[.str]),(Ya,[.str,.int]),(wM,[.bool]),(PI,[.bool]),(Ku,[.str]),(W8,[.ans,.int]),(Qe,[.str]),(jU,[.bool,.int]),(mI,[.int]),(jZ,[.list .lit]),(sD,[.int]),(uD,[.bool]),(uE,[.bool]),(Qf,[.bool]),(zdH,[.bool,.int]),(S9,[.bool]),(Qg,[.bool]),(Ra,[.mdl]),(D1,[.ans,.int]),(Ad,[.list (.list .int),.bool,.int]),(Ae,[.list .int,.int]),(ZI,[.bool,.int]),(nS,[.bool]),(PJ,[]),(Qh,[]),(Qi,[.list .tok,.int,.int]),(gA,[.int]),(Ys,[.list .tok,.int,.int]),(kJ,[.bool]),(Yb,[.mdl]),(MY,[.bool]),(nT,[.str]),(xI,[.bool]),(iA,[.int]),(Rb,[.str]),(PK,[.str]),(OV,[.str]),(MZ,[.str]),(Y9,[.str]),(Wz,[.list .lit,.int]),(Qk,[.bool]),(Xa,[.int]),(ZJ,[.bool]),(nH,[.int]),(pI,[.int]),(lM,[.bool]),(pJ,[.bool]),(Af,[.bool,.int]),(PL,[.bool]),(zdI,[.bool,.int]),(zce,[.bool,.int]),(iC,[.list (.list .int)]),(Ag,[.int]),(fJ,[.list .int]),(WA,[.int]),(Re,[]),(OX,[]),(PM,[.tok,.int]),(V2,[.int]),(T0,[.int]),(sL,[.bool]),(M0,[.int,.int]),(M1,[.bool]),(Kw,[.bool]),(ox,[.bool]),(OY,[.str]),(V3,[.list .str]),(JP,[.str]),(kV,[.bool]),(qL,[.bool]),(pK,[.int]),(YF,[.list .lit]),(uR,[.bool]),(aV,[.bool]),(gM,[.bool]),(nU,[.bool]),(uX,[.bool]),(vD,[.bool]),(bR,[.int]),(ZK,[.bool]),(V4,[.int]),(Xb,[.bool]),(Xc,[.list .lit,.bool]),(WB,[.list .step]),(bS,[.list .lit]),(dP,[.list (.list .int)]),(xF,[.bool]),(WC,[.int]),(sY,[.list (.list .int)]),(V5,[.bool]),(uS,[.bool]),(nI,[.bool]),(V6,[.bool]),(wI,[.bool]),(yO,[.bool]),(OZ,[.bool]),(D2,[.str]),(tF,[.int]),(yU,[.int]),(pZ,[.bool]),(fw,[.bool]),(fx,[.bool]),(wH,[.bool]),(xL,[.bool]),(rQ,[.list (.list .int)]),(kK,[.list (.list .int)]),(mY,[.list (.list .int)]),(cY,[.list (.list .int)]),(pA,[.int]),(T1,[.int]),(gY,[.list (.list .int)]),(iE,[.list (.list .int)]),(ZM,[.bool]),(sN,[.list .lit]),(V7,[.str]),(W9,[.list (.list .int)]),(Xf,[.lit]),(fy,[.list (.list .int)]),(fL,[.list (.list .int)]),(uT,[.list (.list .int)]),(gB,[.bool]),(tX,[.bool]),(Yt,[.int]),(zcf,[.bool]),(YY,[.bool]),(Ah,[.list .str]),(tH,[.int]),(Ql,[.pr .int (.pr .int (.pr .int (.pr .int .int)))]),(Wj,[.bool]),(tI,[.int]),(rK,[.int]),(mZ,[.list .int]),(sA,[.list (.list .int)]),(sF,[.bool]),(kL,[.bool]),(fO,[.list (.list .int)]),(sV,[.bool]),(vH,[.bool]),(Xg,[.bool]),(vJ,[.bool]),(ME,[.list (.list .int)]),(yP,[.bool]),(Qm,[.int]),(rB,[.int]),(zdJ,[.bool]),(Wk,[.int]),(fR,[.int]),(tB,[.int]),(Xi,[.list .term]),(WF,[.list .int]),(wN,[.int]),(nK,[.int]),(Yg,[.list .lit,.bool]),(Xj,[.list .lit,.bool]),(fa,[.list .lit]),(bT,[.list .lit]),(vL,[.list .lit])]
 mps:=[(81,(.str,.int)),(217,(.int,.int)),(285,(.pr .int .int,.int)),(291,(.int,.list .int))]
 sts:=[(72,.var),(114,.lit)]
 hsig:=[(Qj,{tys:=[.mdl,.int,.int],nils:=[(0,(3,(72,.var))),(0,(4,(74,.con)))],datas:=[],res:=λxs ob=>match xs,ob 1000,ob 2000,ob 2001,ob 1001 with|[y0,y1,y2],some o1000,some o2000,some o2001,some o1001=>some (.tup [y0,y1,y2],[])|_,_,_,_,_=>none}),
  (xD,{tys:=[.str],nils:=[(0,(4,(72,.var))),(0,(5,(74,.con)))],datas:=[],res:=λxs ob=>match xs,ob 1000,ob 2000,ob 2001 with|[y0],some o1000,some o2000,some o2001=>some (y0,[(1000,o1000),(2000,o2000),(2001,o2001)])|_,_,_,_=>none}),
  (zV,{tys:=[.int,.int],nils:=[(0,(4,(72,.var))),(0,(5,(74,.con)))],datas:=[],res:=λxs ob=>match xs,ob 1000,ob 2000,ob 2001 with|[y0,y1],some (.cells o1000),some o2000,some o2001=>some (.tup [],[(1000,.cells ((o1000.set 1 y0).set 3 y1)),(2000,o2000),(2001,o2001)])|_,_,_,_=>none}),
  (yC,{tys:=[.int],nils:=[(0,(4,(72,.var))),(0,(5,(74,.con)))],datas:=[],res:=λxs ob=>match xs,ob 1000,ob 2000,ob 2001 with|[y0],some (.cells o1000),some o2000,some o2001=>some (.tup [],[(1000,.cells (o1000.set 3 y0)),(2000,o2000),(2001,o2001)])|_,_,_,_=>none}),
  (xH,{tys:=[.int,.int,.int],nils:=[(0,(4,(72,.var))),(0,(5,(74,.con)))],datas:=[],res:=λxs ob=>match xs,ob 1000,ob 2000,ob 2001 with|[y0,y1,y2],some (.cells o1000),some o2000,some o2001=>some (y2,[(1000,.cells ((o1000.set 1 y0).set 3 y1)),(2000,o2000),(2001,o2001)])|_,_,_,_=>none}),
  (lL,{tys:=[.int,.int,.con],nils:=[(0,(4,(72,.var))),(0,(5,(74,.con)))],datas:=[],res:=λxs ob=>match xs,ob 1000,ob 2000,ob 2001 with|[y0,y1,y2],some (.cells o1000),some o2000,some o2001=>some (y2,[(1000,.cells ((o1000.set 1 y0).set 3 y1)),(2000,o2000),(2001,o2001)])|_,_,_,_=>none}),
  (tQ,{tys:=[.int,.int,.int],nils:=[(0,(4,(72,.var))),(0,(5,(74,.con)))],datas:=[],res:=λxs ob=>match xs,ob 1000,ob 2000,ob 2001 with|[y0,y1,y2],some (.cells o1000),some o2000,some o2001=>some (y2,[(1000,.cells ((o1000.set 1 y0).set 3 y1)),(2000,o2000),(2001,o2001)])|_,_,_,_=>none}),
  (xT,{tys:=[.int,.int,.int],nils:=[(0,(4,(72,.var))),(0,(5,(74,.con)))],datas:=[],res:=λxs ob=>match xs,ob 1000,ob 2000,ob 2001 with|[y0,y1,y2],some (.cells o1000),some o2000,some o2001=>some (y2,[(1000,.cells ((o1000.set 1 y0).set 3 y1)),(2000,o2000),(2001,o2001)])|_,_,_,_=>none}),
  (yT,{tys:=[.int],nils:=[(0,(4,(72,.var))),(0,(5,(74,.con)))],datas:=[],res:=λxs ob=>match xs,ob 1000,ob 2000,ob 2001 with|[y0],some o1000,some o2000,some o2001=>some (y0,[(1000,o1000),(2000,o2000),(2001,o2001)])|_,_,_,_=>none}),
  (vT,{tys:=[.int,.list .byte],nils:=[(0,(0,(5,.byte))),(0,(1,(5,.byte)))],datas:=[],res:=λxs ob=>match xs,ob 1000,ob 2000 with|[y0,.sl .byte y1],some o,some _=>some (.tup [y0,.undef],[(1000,o),(2000,.row 5 .byte y1)])|_,_,_=>none}),
  (Kv,{tys:=[.str],nils:=[(0,(0,(5,.byte))),(0,(1,(5,.byte)))],datas:=[],res:=λxs ob=>match xs,ob 1000,ob 2000 with|[y0],some o1000,some o2000=>some (y0,[(1000,o1000),(2000,o2000)])|_,_,_=>none}),
  (Hw,{tys:=[.str],nils:=[(0,(0,(5,.byte))),(0,(1,(5,.byte)))],datas:=[],res:=λxs ob=>match xs,ob 1000,ob 2000 with|[y0],some o1000,some o2000=>some (y0,[(1000,o1000),(2000,o2000)])|_,_,_=>none}),
  (nG,{tys:=[.str],nils:=[(0,(0,(5,.byte))),(0,(1,(5,.byte)))],datas:=[],res:=λxs ob=>match xs,ob 1000,ob 2000 with|[y0],some o1000,some o2000=>some (y0,[])|_,_,_=>none}),
  (V1,{tys:=[.mdl,.int],nils:=[],datas:=[],res:=λxs _=>match xs with|[.agg y0,y1]=>some (.ptr 3000 0,[(3000,.cells (y0++[.sl (.list .lit) [],y1,.nil,.nil,.own 3001])),(3001,.mp .str .int [])])|_=>none}),
  (cX,{tys:=[.int,.list .int,.bool,.list (.list .lit),.int,.list (.list .lit),.list .step,.list (.pr .str .int)],nils:=[(1,(6,(53,.list .lit))),(1,(7,(129,.step)))],datas:=[],res:=λxs ob=>match xs,ob 1000,ob 1001,ob 2000,ob 2001,ob 1002 with|[y0,.sl .int y1,.bool y2,y3,y4,.sl (.list .lit) y5,.sl .step y6,.sl (.pr .str .int) y7],some (.cells o1000),some (.cells o1001),some o2000,some o2001,some o1002=>some (y0,[(1000,.cells (o1000.set 1 (.slN .int y1 y2))),(1001,.cells ((o1001.set 4 y3).set 5 y4)),(2000,.row 53 (.list .lit) y5),(2001,.row 129 .step y6),(1002,.mp .str .int y7)])|_,_,_,_,_,_=>none}),
  (rG,{tys:=[.list .step,.bool],nils:=[(0,(6,(53,.list .lit))),(0,(7,(129,.step)))],datas:=[],res:=λxs ob=>match xs,ob 1000,ob 2000,ob 2001,ob 1001 with|[y0,y1],some (.cells o1000),some o2000,some o2001,some o1001=>some (.tup [y0,y1],[(1000,.cells (o1000.set 7 y0)),(2000,o2000),(1001,o1001)])|_,_,_,_,_=>none}),
  (iB,{tys:=[.int,.list (.list .lit),.list .step,.list (.pr .str .int),.list .int,.int],nils:=[(0,(6,(53,.list .lit))),(0,(7,(129,.step)))],datas:=[],res:=λxs ob=>match xs,ob 1000,ob 2000,ob 2001,ob 1001 with|[y0,.sl (.list .lit) y1,.sl .step y2,.sl (.pr .str .int) y3,y4,y5],some (.cells o1000),some o2000,some o2001,some o1001=>some (.tup [y4,y5],[(1000,.cells (o1000.set 5 y0)),(2000,.row 53 (.list .lit) y1),(2001,.row 129 .step y2),(1001,.mp .str .int y3)])|_,_,_,_,_=>none}),
  (OW,{tys:=[.bool,.list (.list .int)],nils:=[(0,(4,(40,.list .int)))],datas:=[],res:=λxs ob=>match xs,ob 1000,ob 2000 with|[y0,.sl (.list .int) y1],some o1000,some o2000=>some (y0,[(1000,o1000),(2000,.row 40 (.list .int) y1)])|_,_,_=>none}),
  (iD,{tys:=[.bool,.list (.list .lit)],nils:=[(0,(4,(53,.list .lit)))],datas:=[],res:=λxs ob=>match xs,ob 1000,ob 2000 with|[y0,.sl (.list .lit) y1],some o1000,some o2000=>some (y0,[(1000,o1000),(2000,.row 53 (.list .lit) y1)])|_,_,_=>none}),
  (ow,{tys:=[.int,.list .var,.list .con,.int,.int,.list (.pr .str .int)],nils:=[(0,(3,(72,.var))),(0,(4,(74,.con)))],datas:=[],res:=λxs ob=>match xs,ob 1000,ob 2000,ob 2001,ob 1001 with|[y0,.sl .var y1,.sl .con y2,y3,y4,.sl (.pr .str .int) y5],some (.cells o1000),some o2000,some o2001,some o1001=>some (.tup [],[(1000,.cells (((o1000.set 1 y0).set 5 y3).set 6 y4)),(2000,.row 72 .var y1),(2001,.row 74 .con y2),(1001,.mp .str .int y5)])|_,_,_,_,_=>none}),
  (wQ,{tys:=[.int,.int,.list .int],nils:=[(0,(4,(72,.var))),(0,(5,(74,.con)))],datas:=[],res:=λxs ob=>match xs,ob 1000,ob 2000,ob 2001 with|[y0,y1,y2],some (.cells o1000),some o2000,some o2001=>some (y2,[(1000,.cells ((o1000.set 1 y0).set 3 y1)),(2000,o2000),(2001,o2001)])|_,_,_,_=>none}),
  (vZ,{tys:=[.int,.int,.list .int],nils:=[(0,(4,(72,.var))),(0,(5,(74,.con)))],datas:=[],res:=λxs ob=>match xs,ob 1000,ob 2000,ob 2001 with|[y0,y1,y2],some (.cells o1000),some o2000,some o2001=>some (y2,[(1000,.cells ((o1000.set 1 y0).set 3 y1)),(2000,o2000),(2001,o2001)])|_,_,_,_=>none}),
  (yH,{tys:=[.int,.int,.bool],nils:=[(0,(4,(72,.var))),(0,(5,(74,.con)))],datas:=[],res:=λxs ob=>match xs,ob 1000,ob 2000,ob 2001 with|[y0,y1,y2],some (.cells o1000),some o2000,some o2001=>some (y2,[(1000,.cells ((o1000.set 1 y0).set 3 y1)),(2000,o2000),(2001,o2001)])|_,_,_,_=>none}),
  (sE,{tys:=[.int,.int,.lit],nils:=[(0,(4,(72,.var))),(0,(5,(74,.con)))],datas:=[],res:=λxs ob=>match xs,ob 1000,ob 2000,ob 2001 with|[y0,y1,y2],some (.cells o1000),some o2000,some o2001=>some (y2,[(1000,.cells ((o1000.set 1 y0).set 3 y1)),(2000,o2000),(2001,o2001)])|_,_,_,_=>none}),
  (lN,{tys:=[],nils:=[(0,(0,(5,.byte))),(0,(1,(5,.byte)))],datas:=[],res:=λxs ob=>match xs,ob 1000,ob 2000 with|[],some o1000,some o2000=>some (.tup [],[(1000,o1000),(2000,o2000)])|_,_,_=>none}),
  (F2,{tys:=[.str],nils:=[],datas:=[],res:=λxs ob=>match xs,ob 1000,ob 2000 with|[y0],some o,some r=>some (y0,[(1000,o),(2000,r)])|[y0],none,none=>some (y0,[])|_,_,_=>none}),
  (M2,{tys:=[.str],nils:=[],datas:=[],res:=λxs ob=>match xs,ob 1000,ob 2000 with|[y0],some o,some r=>some (y0,[(1000,o),(2000,r)])|[y0],none,none=>some (y0,[])|_,_,_=>none}),
  (Kx,{tys:=[.str],nils:=[(0,(0,(5,.byte))),(0,(1,(5,.byte)))],datas:=[],res:=λxs ob=>match xs,ob 1000,ob 2000 with|[y0],some o1000,some o2000=>some (y0,[(1000,o1000),(2000,o2000)])|_,_,_=>none}),
  (lO,{tys:=[.list .lit,.bool,.list .int],nils:=[(0,(6,(53,.list .lit))),(0,(7,(129,.step)))],datas:=[],res:=λxs ob=>match xs,ob 1000,ob 2000,ob 2001,ob 1001 with|[.sl .lit y0,.bool y1,y2],some o1000,some o2000,some o2001,some o1001=>some (.tup [(.slN .lit y0 y1),y2],[(1000,o1000),(2000,o2000),(2001,o2001),(1001,o1001)])|_,_,_,_,_=>none}),
  (qT,{tys:=[.list (.list .lit)],nils:=[(0,(6,(53,.list .lit))),(0,(7,(129,.step)))],datas:=[],res:=λxs ob=>match xs,ob 1000,ob 2000,ob 2001,ob 1001 with|[y0],some o1000,some o2000,some o2001,some o1001=>some (y0,[(1000,o1000),(2000,o2000),(2001,o2001),(1001,o1001)])|_,_,_,_,_=>none}),
  (lP,{tys:=[.list .step,.list (.pr .str .int)],nils:=[(0,(6,(53,.list .lit))),(0,(7,(129,.step)))],datas:=[],res:=λxs ob=>match xs,ob 1000,ob 2000,ob 2001,ob 1001 with|[.sl .step y0,.sl (.pr .str .int) y1],some o1000,some o2000,some o2001,some o1001=>some (.tup [],[(1000,o1000),(2000,o2000),(2001,.row 129 .step y0),(1001,.mp .str .int y1)])|_,_,_,_,_=>none}),
  (sP,{tys:=[.list .int],nils:=[],datas:=[],res:=λxs ob=>match xs with|[.sl .int y0]=>some (.own 3000,[(3000,.row 3 .int y0)])|_=>none}),
  (pL,{tys:=[.list .int],nils:=[],datas:=[],res:=λxs ob=>match xs,ob 1000 with|[.sl .int y0],some o1000=>some (.tup [],[(1000,.row 3 .int y0)])|_,_=>none}),
  (rP,{tys:=[.list .int],nils:=[],datas:=[],res:=λxs ob=>match xs,ob 1000 with|[y0],some o1000=>some (y0,[])|_,_=>none}),
  (xB,{tys:=[.int,.bool],nils:=[(0,(3,(72,.var))),(0,(4,(74,.con)))],datas:=[],res:=λxs ob=>match xs,ob 1000,ob 2000,ob 2001,ob 1001 with|[y0,y1],some (.cells o1000),some o2000,some o2001,some o1001=>some (y1,[(1000,.cells (o1000.set 1 y0)),(2000,o2000),(2001,o2001),(1001,o1001)])|_,_,_,_,_=>none}),
  (tA,{tys:=[.str],nils:=[(0,(3,(72,.var))),(0,(4,(74,.con)))],datas:=[],res:=λxs ob=>match xs,ob 1000,ob 2000,ob 2001,ob 1001 with|[y0],some o1000,some o2000,some o2001,some o1001=>some (y0,[(1000,o1000),(2000,o2000),(2001,o2001),(1001,o1001)])|_,_,_,_,_=>none}),
  (zM,{tys:=[.int],nils:=[(0,(3,(72,.var))),(0,(4,(74,.con)))],datas:=[],res:=λxs ob=>match xs,ob 1000,ob 2000,ob 2001,ob 1001 with|[y0],some (.cells o1000),some o2000,some o2001,some o1001=>some (.tup [],[(1000,.cells (o1000.set 1 y0)),(2000,o2000),(2001,o2001),(1001,o1001)])|_,_,_,_,_=>none}),
  (zN,{tys:=[.int,.int],nils:=[(0,(3,(72,.var))),(0,(4,(74,.con)))],datas:=[],res:=λxs ob=>match xs,ob 1000,ob 2000,ob 2001,ob 1001 with|[y0,y1],some (.cells o1000),some o2000,some o2001,some o1001=>some (y1,[(1000,.cells (o1000.set 1 y0)),(2000,o2000),(2001,o2001),(1001,o1001)])|_,_,_,_,_=>none}),
  (pY,{tys:=[.int,.con],nils:=[(0,(3,(72,.var))),(0,(4,(74,.con)))],datas:=[],res:=λxs ob=>match xs,ob 1000,ob 2000,ob 2001,ob 1001 with|[y0,y1],some (.cells o1000),some o2000,some o2001,some o1001=>some (y1,[(1000,.cells (o1000.set 1 y0)),(2000,o2000),(2001,o2001),(1001,o1001)])|_,_,_,_,_=>none}),
  (zO,{tys:=[.int,.int],nils:=[(0,(3,(72,.var))),(0,(4,(74,.con)))],datas:=[],res:=λxs ob=>match xs,ob 1000,ob 2000,ob 2001,ob 1001 with|[y0,y1],some (.cells o1000),some o2000,some o2001,some o1001=>some (y1,[(1000,.cells (o1000.set 1 y0)),(2000,o2000),(2001,o2001),(1001,o1001)])|_,_,_,_,_=>none}),
  (zR,{tys:=[],nils:=[(0,(3,(72,.var))),(0,(4,(74,.con)))],datas:=[],res:=λxs ob=>match xs,ob 1000,ob 2000,ob 2001,ob 1001 with|[],some o1000,some o2000,some o2001,some o1001=>some (.tup [],[(1000,o1000),(2000,o2000),(2001,o2001),(1001,o1001)])|_,_,_,_,_=>none}),
  (sZ,{tys:=[.list .lit],nils:=[],datas:=[],res:=λxs ob=>match xs with|[.sl .lit y0]=>some (.own 3000,[(3000,.row 114 .lit y0)])|_=>none}),
  (fK,{tys:=[.list (.list .int),.list .step],nils:=[(0,(6,(129,.step)))],datas:=[],res:=λxs ob=>match xs,ob 1000,ob 2000 with|[y0,.sl .step y1],some (.cells o1000),some o2000=>some (.tup [],[(1000,.cells (o1000.set 5 y0)),(2000,.row 129 .step y1)])|_,_,_=>none}),
  (uK,{tys:=[.int],nils:=[],datas:=[],res:=λxs _=>match xs with|[y0]=>some (.tup [y0,.undef],[])|_=>none}),
  (zP,{tys:=[.int,.list .int],nils:=[(0,(3,(72,.var))),(0,(4,(74,.con)))],datas:=[],res:=λxs ob=>match xs,ob 1000,ob 2000,ob 2001,ob 1001 with|[y0,y1],some (.cells o1000),some o2000,some o2001,some o1001=>some (y1,[(1000,.cells (o1000.set 1 y0)),(2000,o2000),(2001,o2001),(1001,o1001)])|_,_,_,_,_=>none}),
  (xU,{tys:=[.int,.list .int],nils:=[(0,(3,(72,.var))),(0,(4,(74,.con)))],datas:=[],res:=λxs ob=>match xs,ob 1000,ob 2000,ob 2001,ob 1001 with|[y0,y1],some (.cells o1000),some o2000,some o2001,some o1001=>some (y1,[(1000,.cells (o1000.set 1 y0)),(2000,o2000),(2001,o2001),(1001,o1001)])|_,_,_,_,_=>none}),
  (rA,{tys:=[.int,.list (.list .int)],nils:=[(0,(3,(72,.var))),(0,(4,(74,.con)))],datas:=[],res:=λxs ob=>match xs,ob 1000,ob 2000,ob 2001,ob 1001,ob 1002 with|[y0,y1],some (.cells o1000),some o2000,some o2001,some o1001,some o1002=>some (y1,[(1000,.cells (o1000.set 1 y0)),(2000,o2000),(2001,o2001),(1001,o1001),(1002,o1002)])|_,_,_,_,_,_=>none}),
  (xA,{tys:=[.int,.list .int],nils:=[(1,(3,(72,.var))),(1,(4,(74,.con)))],datas:=[],res:=λxs ob=>match xs,ob 1000,ob 1001,ob 2000,ob 2001,ob 1002 with|[y0,y1],some o1000,some (.cells o1001),some o2000,some o2001,some o1002=>some (y1,[(1000,o1000),(1001,.cells (o1001.set 1 y0)),(2000,o2000),(2001,o2001),(1002,o1002)])|_,_,_,_,_,_=>none}),
  (tG,{tys:=[.int,.list .lit],nils:=[(0,(3,(72,.var))),(0,(4,(74,.con)))],datas:=[],res:=λxs ob=>match xs,ob 1000,ob 2000,ob 2001,ob 1001 with|[y0,y1],some (.cells o1000),some o2000,some o2001,some o1001=>some (y1,[(1000,.cells (o1000.set 1 y0)),(2000,o2000),(2001,o2001),(1001,o1001)])|_,_,_,_,_=>none}),
  (yR,{tys:=[.int,.lit],nils:=[(0,(3,(72,.var))),(0,(4,(74,.con)))],datas:=[],res:=λxs ob=>match xs,ob 1000,ob 2000,ob 2001,ob 1001 with|[y0,y1],some (.cells o1000),some o2000,some o2001,some o1001=>some (y1,[(1000,.cells (o1000.set 1 y0)),(2000,o2000),(2001,o2001),(1001,o1001)])|_,_,_,_,_=>none}),
  (fM,{tys:=[.int],nils:=[(0,(3,(72,.var))),(0,(4,(74,.con)))],datas:=[],res:=λxs ob=>match xs,ob 1000,ob 2000,ob 2001,ob 1001 with|[y0],some o1000,some o2000,some o2001,some o1001=>some (y0,[(1000,o1000),(2000,o2000),(2001,o2001),(1001,o1001)])|_,_,_,_,_=>none}),
  (fN,{tys:=[.bool,.list .int],nils:=[],datas:=[],res:=λxs ob=>match xs,ob 1000 with|[y0,.sl .int y1],some o1000=>some (y0,[(1000,.row 3 .int y1)])|_,_=>none}),
  (dQ,{tys:=[.con,.list (.list .int),.list .int,.list .int,.list (.pr (.pr .int .int) .int)],nils:=[],datas:=[],res:=λxs _=>match xs with|[.agg y0,y1,y2,y3,.sl (.pr (.pr .int .int) .int) y4]=>some (.clo 282 none [.iptr [.iptr (y0++[y1,y2,y3,.mp (.pr .int .int) .int y4]) 0] 0],[])|_=>none}),
  (Ye,{tys:=[.list .term,.list (.pr .int (.list .int)),.con],nils:=[],datas:=[],res:=λxs _=>match xs with|[y0,.sl (.pr .int (.list .int)) y1,.agg y2]=>some (.clo 285 none [.iptr [y0] 0,.iptr [.mp .int (.list .int) y1] 0,.iptr y2 0],[])|_=>none}),
  (Yf,{tys:=[.list (.list .int),.con],nils:=[],datas:=[],res:=λxs _=>match xs with|[y0,.agg y1]=>some (.clo 289 none [.iptr [y0] 0,.iptr y1 0],[])|_=>none}),
  (oK,{tys:=[.list .lit],nils:=[],datas:=[],res:=λxs ob=>match xs with|[.sl .lit y0]=>some (.own 3000,[(3000,.row 114 .lit y0)])|_=>none,raw:=true}),
  (fQ,{tys:=[.bool,.list (.list .int),.list .step],nils:=[(0,(6,(129,.step)))],datas:=[],res:=λxs ob=>match xs,ob 1000,ob 2000 with|[y0,y1,.sl .step y2],some (.cells o1000),some o2000=>some (y0,[(1000,.cells (o1000.set 5 y1)),(2000,.row 129 .step y2)])|_,_,_=>none}),
  (xJ,{tys:=[.list .int,.list (.pr (.pr .int .int) .int)],nils:=[],datas:=[],res:=λxs ob=>match xs,ob 1000,ob 2000,ob 1001 with|[.sl .int y0,.sl (.pr (.pr .int .int) .int) y1],some o1000,some o2000,some o1001=>some (.tup [],[(1000,o1000),(2000,.row 3 .int y0),(1001,.mp (.pr .int .int) .int y1)])|_,_,_,_=>none}),
  (pB,{tys:=[.list (.list .int)],nils:=[],datas:=[],res:=λxs ob=>match xs with|[.sl (.list .int) y0]=>some (.own 3000,[(3000,.row 40 (.list .int) y0)])|_=>none}),
  (qU,{tys:=[.bool,.list (.pr .int .int),.list (.pr .int .int)],nils:=[],datas:=[(0,0)],res:=λxs ob=>match xs,ob 1000,ob 1001,ob 1002 with|[y0,.sl (.pr .int .int) y1,.sl (.pr .int .int) y2],some o1000,some o1001,some o1002=>some (y0,[(1000,o1000),(1001,.mp .int .int y1),(1002,.mp .int .int y2)])|_,_,_,_=>none}),
  (oe,{tys:=[.list .lit],nils:=[],datas:=[],res:=λxs ob=>match xs with|[.sl .lit y0]=>some (.own 3000,[(3000,.row 114 .lit y0)])|_=>none,raw:=true})]
 vals:=[83,85,101,123,139,147,179,229,287,299]
 arr:=[288]
 thr:=[ow,tA,zM,zN,pY,zO,zR,zP,xU,rA,xA,tG,yR]
theorem zn8:Ev.chk prog=true:=by kernel_rfl
theorem zn9:∀x∈Ev.sig,∀args w,(callFunc x.1 args).run prog w=.ok (.enter x.1 args) w:=by
 simp only[Ev,List.forall_mem_cons,List.not_mem_nil,false_imp_iff,implies_true,and_true];exact ⟨call10,call11,call12,call13,call14,call15,call16,call17,call18,call19,call20,call21,call22,call23,call24,call25,call26,call27,call28,call29,call30,call31,call32,call33,call34,call35,call36,call37,call38,call39,call40,call41,call43,call44,call47,call54,call55,call57,call61,call62,call63,call64,call65,call66,call67,call68,call69,call70,call74,call75,call76,call77,call78,call79,call80,call81,call82,call85,call86,call87,call88,call90,call91,call92,call95,call96,call97,call98,call99,call100,call101,call108,call110,call111,call114,call115,call116,call117,call118,call120,call121,call122,call123,call124,call126,call127,call128,call129,call131,call134,call135,call136,call137,call138,call139,call161,call162,call165,call166,call167,call169,call171,call174,call175,call176,call177,call178,call179,call181,call182,call183,call184,call185,call186,call187,call188,call189,call190,call192,call194,call195,call196,call198,call199,call200,call201,call202,call203,call207,call218,call219,call220,call221,call222,call223,call225,call226,call232,call233,call235,call236,call237,call238,call240,call244,call247,call249,call251,call252,call257,call272,call273,call279,call280,call283,call284,call286,call292,call294,call295,call311,call312,call317⟩
theorem znw:Ev.chk2 prog=true:=by kernel_rfl
theorem znx:∀x∈Ev.hsig,Ent prog x.1:=by
 simp only[Ev,List.forall_mem_cons,List.not_mem_nil,false_imp_iff,implies_true,and_true];exact ⟨call42,call45,call46,call48,call49,call50,call51,call52,call53,call56,call58,call59,call60,call71,call72,call73,call83,call84,call89,call94,call102,call103,call104,call105,call106,call109,call112,call113,call130,call132,call133,call141,call142,call143,call154,call155,call156,call157,call158,call159,call160,call193,call197,call210,call211,call212,call213,call214,call215,call216,call217,call234,call242,call243,call245,call248,call250,call281,call290,call291,call320⟩
theorem JQ:sR prog Ev:=zkt (by kernel_rfl) zn8 znw zn9 znx
abbrev FD(A:wG)(fn:Func)(ds:AcO)(R:D->Prop):Prop:=fnD prog Ev A fn.results.toList (We fn) ds R
abbrev FH(A:wG)(fn:Func)(ds:AcO)(hp:List (Nat×yN))(roots:AcO)(own:Bool)(R:D->List (Nat×yN)->Prop):Prop:=fnH prog Ev A fn.results.toList (We fn) ds hp roots own R
def xZ(A:wG)(fn:Func)(f:AcH)(ds:AcO):Prop:=∀ {r:D},((∀d∈ds,B7 d)->FD A fn ds λd=>d=r)->VA prog f ds r
def nW(A:wG)(fn:Func)(f:AcH)(ds:AcO)(hp:List (Nat×yN))(roots:AcO)(own:Bool):Prop:=∀ {r:D} {h0:List (Nat×yN)},((∀d∈ds,B7 d)->(∀k o,yG k hp=some o->okO o)->FH A fn ds hp roots own λd h1=>d=r/\h1=h0)->zic prog f ds hp r h0
theorem wA{A:wG}{fn:Func}{f:AcH}{ds:AcO}(hf:prog.funcs[f]? =some fn)(hb:fn.body=some (We fn))(hn:fn.ntmps=A.n)(hl:Nat.ble ds.length A.n=true):xZ A fn f ds:=λh=>znt JQ hf hb hn.symm (by rw[hn];exact Aat hl) h
theorem mJ{A:wG}{fn:Func}{f:AcH}{ds:AcO}{hp:List (Nat×yN)}{roots:AcO}{own:Bool}(hf:prog.funcs[f]? =some fn)(hb:fn.body=some (We fn))(hn:fn.ntmps=A.n)(hl:Nat.ble ds.length A.n=true):nW A fn f ds hp roots own:=λh=>zmf JQ hf hb hn.symm (by rw[hn];exact Aat hl) h
abbrev FX(A:wG)(fn:Func)(ds:AcO)(hp:List (Nat×yN))(roots:AcO)(own:Bool)(R:D->List (Nat×yN)->Prop)(T:Value->Prop):Prop:=fnX prog Ev A fn.results.toList (We fn) ds hp roots own R T
def UP(A:wG)(fn:Func)(f:AcH)(ds:AcO)(hp:List (Nat×yN))(roots:AcO)(own:Bool):Prop:=∀ {r:D} {h0:List (Nat×yN)},((∀d∈ds,B7 d)->(∀k o,yG k hp=some o->okO o)->FX A fn ds hp roots own (λd h1=>d=r/\h1=h0) λ_=>False)->zic prog f ds hp r h0
def VI(A:wG)(fn:Func)(f:AcH)(ds:AcO)(hp:List (Nat×yN))(roots:AcO)(own:Bool):Prop:=∀ {u:Value},((∀d∈ds,B7 d)->(∀k o,yG k hp=some o->okO o)->FX A fn ds hp roots own (λ_ _=>False) λv=>v=u)->zlR prog f ds hp u
theorem Rf{A:wG}{fn:Func}{f:AcH}{ds:AcO}{hp:List (Nat×yN)}{roots:AcO}{own:Bool}(hf:prog.funcs[f]? =some fn)(hb:fn.body=some (We fn))(hn:fn.ntmps=A.n)(hl:Nat.ble ds.length A.n=true):UP A fn f ds hp roots own:=λh=>zkp JQ hf hb hn.symm (by rw[hn];exact Aat hl) h
theorem T3{A:wG}{fn:Func}{f:AcH}{ds:AcO}{hp:List (Nat×yN)}{roots:AcO}{own:Bool}(hf:prog.funcs[f]? =some fn)(hb:fn.body=some (We fn))(hn:fn.ntmps=A.n)(hl:Nat.ble ds.length A.n=true):VI A fn f ds hp roots own:=λh=>zmg JQ hf hb hn.symm (by rw[hn];exact Aat hl) h
abbrev LP(A:wG)(fn:Func)(path:AcU)(cur n:Nat)(σ:St)(K:Ex->St->Prop):Prop:=zkc (den prog Ev A (sub path (We fn)) cur) A (zbW A cur) n σ K
abbrev sK(A:wG)(fn:Func)(path:AcU)(cur:Nat)(K:Ex->St->Prop):=zov prog Ev A (sub path (We fn)) cur K
abbrev iK(A:wG)(fn:Func)(path:AcU)(cur n:Nat)(K:Ex->St->Prop):=znZ (den prog Ev A (sub path (We fn)) cur) A (zbW A cur) n K
abbrev eK(fn:Func)(R:D->Prop):=zn0 Ev fn.results.toList R
abbrev eH(fn:Func)(roots:AcO)(own:Bool)(R:D->List (Nat×yN)->Prop):=JL Ev fn.results.toList roots own R
abbrev eX(fn:Func)(roots:AcO)(own:Bool)(R:D->List (Nat×yN)->Prop)(T:Value->Prop):=znv Ev fn.results.toList roots own R T
abbrev oG:=D->List (Nat×yN)->Prop
abbrev MF:=Value->Prop
abbrev yL:=D->Prop
abbrev nX(c:zF)(r:AcO):AcO:=dI c.kind:: .sl .int c.vars:: .sl .int c.consts::dI c.n::dS c.rows:: .sl .lit c.lits::r
abbrev WG(c:zG)(r:AcO):AcO:=.sl .var c.vars:: .sl .con c.cons::dI c.goal::dI c.var::r
abbrev zK(l:AcR)(a e g v:Int)(p:AcP)(q:AcQ)(n:List (AcG×Int)):List (Nat×yN):=[(1000,.cells [.sl .tok l,dI a,dI e,.own 2000,.own 2001,dI g,dI v,.own 1001]),(2000,.row 72 .var p),(2001,.row 74 .con q),(1001,.mp .str .int n)]
abbrev zU(l:AcR)(a e r g v:Int)(p:AcP)(q:AcQ):List (Nat×yN):=[(1000,.cells [.sl .tok l,dI a,dI e,dI r,.own 2000,.own 2001,dI g,dI v]),(2000,.row 72 .var p),(2001,.row 74 .con q)]
abbrev tJ:=VA prog
abbrev yQ:=zic prog
abbrev lY:=zlR prog
abbrev yM:=zjJ prog
abbrev c2Q:=zjK prog
abbrev c3Q:=zjL prog
abbrev Xk:=Ent prog
def nA:wG:= {own:=[],live:=[],n:=9}
theorem cF(a:AcQ)(b:AcH)(c:AcO)(R:yL):FD nA f118 [.sl .con a,.clo b (some [.bool]) c] R=
 (yM tF [.sl .con a,.clo b (some [.bool]) c] .int λd=>
 R (dB (decide (0<=d)))):=by kernel_rfl
theorem eO(a:AcQ)(b:AcH)(c:AcO):xZ nA f118 uR [.sl .con a,.clo b (some [.bool]) c]:=wA func118 (by kernel_rfl) ntmps118 rfl
def gI:wG:= {own:=[],live:=[],n:=9}
theorem Xl(a:AcK)(b:AcH)(c:AcO)(R:yL):FD gI f124 [.sl .int a,.clo b (some [.bool]) c] R=
 (yM pA [.sl .int a,.clo b (some [.bool]) c] .int λd=>
 R (dB (decide (0<=d)))):=by kernel_rfl
theorem YZ(a:AcK)(b:AcH)(c:AcO):xZ gI f124 vD [.sl .int a,.clo b (some [.bool]) c]:=wA func124 (by kernel_rfl) ntmps124 rfl
def ZN:wG:= {own:=[2,5,7],live:=[],n:=8}
theorem Tz(a:AcK)(R:oG):FH ZN f141 [.sl .int a] [] [] true R=
 (∀b:Bool,(b=true->a=[])->
 zJ b
 (R (.own 3000) [(3000,.row 3 .int ([]:AcK))])
 (xQ .int (([]:AcK).length+a.length)=true/\
 R (.own 3000) [(3000,.row 3 .int (([]:AcK)++a))])):=by kernel_rfl
theorem UQ(a:AcK):nW ZN f141 sP [.sl .int a] [] [] true:=mJ func141 (by kernel_rfl) ntmps141 rfl
def nB:wG:= {own:=[],live:=[],n:=9}
theorem cG(a:AcP)(b:AcH)(c:AcO)(R:yL):FD nB f162 [.sl .var a,.clo b (some [.bool]) c] R=
 (yM tH [.sl .var a,.clo b (some [.bool]) c] .int λd=>
 R (dB (decide (0<=d)))):=by kernel_rfl
theorem eP(a:AcP)(b:AcH)(c:AcO):xZ nB f162 uS [.sl .var a,.clo b (some [.bool]) c]:=wA func162 (by kernel_rfl) ntmps162 rfl
def nC:wG:= {own:=[],live:=[],n:=9}
theorem cH(a:AcM)(b:AcH)(c:AcO)(R:yL):FD nC f167 [.sl .lit a,.clo b (some [.bool]) c] R=
 (yM tI [.sl .lit a,.clo b (some [.bool]) c] .int λd=>
 R (dB (decide (0<=d)))):=by kernel_rfl
theorem eQ(a:AcM)(b:AcH)(c:AcO):xZ nC f167 wI [.sl .lit a,.clo b (some [.bool]) c]:=wA func167 (by kernel_rfl) ntmps167 rfl
def kM:wG:= {own:=[],live:=[],n:=9}
theorem ZO(a:AcL)(b:AcH)(c:AcO)(R:yL):FD kM f169 [dS a,.clo b (some [.bool]) c] R=
 (yM rK [dS a,.clo b (some [.bool]) c] .int λd=>
 R (dB (decide (0<=d)))):=by kernel_rfl
theorem Zx(a:AcL)(b:AcH)(c:AcO):xZ kM f169 yO [dS a,.clo b (some [.bool]) c]:=wA func169 (by kernel_rfl) ntmps169 rfl
def tK:wG:= {own:=[],live:=[(0,([0,1,7,8],[]))],n:=19}
def rZ(a:AcQ)(b:AcH)(c:AcO)(R:yL)(d:Nat)(e:Int):Prop:=LP tK f175 [1,0,1,0,0] 0 d ⟨[(0,.sl .con a),(1,.clo b (some [.bool]) c),(7,dI (a.length:Int)),(8,dI e)],[]⟩ (zH 0 (sK tK f175 [1,1] 0 (eK f175 R)))
theorem oP(b:AcQ)(c:AcH)(d:AcO)(R:yL)(e:Nat)(a:Int):rZ b c d R (e+1) a=
 (zJ (decide (a<(b.length:Int)))
 (xM a b.length=true/\
 Xk c/\
 yM c ([dC (zW .con b a.toNat)]++d) .bool λf=>
 zJ f
 (R (dI a))
 (rZ b c d R e (yF (a+1))))
 (R (dI (-1)))):=by kernel_rfl
theorem aZ(a:AcQ)(b:AcH)(c:AcO)(R:yL):FD tK f175 [.sl .con a,.clo b (some [.bool]) c] R=
 (∃n0,rZ a b c R n0 0):=by kernel_rfl
theorem bU(a:AcQ)(b:AcH)(c:AcO):xZ tK f175 tF [.sl .con a,.clo b (some [.bool]) c]:=wA func175 (by kernel_rfl) ntmps175 rfl
def nL:wG:= {own:=[],live:=[(0,([0,1,12,13],[]))],n:=26}
def oM(a b:AcK)(R:yL)(c:Nat)(d:Int):Prop:=LP nL f181 [1,1,0,1,0,0] 0 c ⟨[(0,.sl .int a),(1,.sl .int b),(12,dI (a.length:Int)),(13,dI d)],[]⟩ (zH 0 (sK nL f181 [1,1,1] 0 (eK f181 R)))
theorem eR(b c:AcK)(R:yL)(d:Nat)(a:Int):oM b c R (d+1) a=
 (zJ (decide (a<(b.length:Int)))
 (xM a b.length=true/\
 xM a c.length=true/\
 zJ (!decide ((zW .int b a.toNat)=(zW .int c a.toNat)))
 (R (dB false))
 (oM b c R d (yF (a+1))))
 (R (dB true))):=by kernel_rfl
theorem TA(a b:AcK)(R:yL):FD nL f181 [.sl .int a,.sl .int b] R=
 (zJ (!decide ((a.length:Int)=(b.length:Int)))
 (R (dB false))
 (∃n0,oM a b R n0 0)):=by kernel_rfl
theorem UR(a b:AcK):xZ nL f181 wH [.sl .int a,.sl .int b]:=wA func181 (by kernel_rfl) ntmps181 rfl
def pC:wG:= {own:=[],live:=[(0,([0,1,7,8],[]))],n:=19}
def nY(a:AcK)(b:AcH)(c:AcO)(R:yL)(d:Nat)(e:Int):Prop:=LP pC f187 [1,0,1,0,0] 0 d ⟨[(0,.sl .int a),(1,.clo b (some [.bool]) c),(7,dI (a.length:Int)),(8,dI e)],[]⟩ (zH 0 (sK pC f187 [1,1] 0 (eK f187 R)))
theorem iG(b:AcK)(c:AcH)(d:AcO)(R:yL)(e:Nat)(a:Int):nY b c d R (e+1) a=
 (zJ (decide (a<(b.length:Int)))
 (xM a b.length=true/\
 Xk c/\
 yM c ([dI (zW .int b a.toNat)]++d) .bool λf=>
 zJ f
 (R (dI a))
 (nY b c d R e (yF (a+1))))
 (R (dI (-1)))):=by kernel_rfl
theorem Va(a:AcK)(b:AcH)(c:AcO)(R:yL):FD pC f187 [.sl .int a,.clo b (some [.bool]) c] R=
 (∃n0,nY a b c R n0 0):=by kernel_rfl
theorem Wl(a:AcK)(b:AcH)(c:AcO):xZ pC f187 pA [.sl .int a,.clo b (some [.bool]) c]:=wA func187 (by kernel_rfl) ntmps187 rfl
def iH:wG:= {own:=[2,5,7],live:=[],n:=8}
theorem Y0(a:AcM)(R:oG):FH iH f193 [.sl .lit a] [] [] true R=
 (∀b:Bool,(b=true->a=[])->
 zJ b
 (R (.own 3000) [(3000,.row 114 .lit ([]:AcM))])
 (xQ .lit (([]:AcM).length+a.length)=true/\
 R (.own 3000) [(3000,.row 114 .lit (([]:AcM)++a))])):=by kernel_rfl
theorem Yu(a:AcM):nW iH f193 sZ [.sl .lit a] [] [] true:=mJ func193 (by kernel_rfl) ntmps193 rfl
def vS:wG:= {own:=[33],live:=[(0,([0,3,9,10,11],[])),(2,([6,25,26,27],[31536]))],n:=36}
def sG(a:AcN)(R:yL)(b:Nat)(c:Int)(d:AcM):Prop:=LP vS f194 [1,1,1,1,0,1,0,0] 2 b ⟨[(6,.own 31536),(25,.sl (.list .lit) a),(26,dI (a.length:Int)),(27,dI c)],[(31536,.row 114 .lit d)]⟩ (zH 2 (sK vS f194 [1,1,1,1,1] 0 (eK f194 R)))
def sH(a:AcN)(R:yL)(b:Nat)(c d:Int):Prop:=LP vS f194 [1,1,0,1,0,0] 0 b ⟨[(0,.sl (.list .lit) a),(3,dI c),(9,.sl (.list .lit) a),(10,dI (a.length:Int)),(11,dI d)],[]⟩ (zH 0 (sK vS f194 [1,1,1] 0 (eK f194 R)))
theorem Za(a:AcN)(R:yL)(d:Nat)(b:Int)(c:AcM):sG a R (d+1) b c=
 (zJ (decide (b<(a.length:Int)))
 (xM b a.length=true/\
 xQ .lit (c.length+(zW (.list .lit) a b.toNat).length)=true/\
 sG a R d (yF (b+1)) (c++(zW (.list .lit) a b.toNat)))
 (R (.sl .lit c))):=by kernel_rfl
theorem Zb(a:AcN)(R:yL)(d:Nat)(c b:Int):sH a R (d+1) c b=
 (zJ (decide (b<(a.length:Int)))
 (xM b a.length=true/\
 zJ (decide ((yF (c+((zW (.list .lit) a b.toNat).length:Int)))<0))
 (False)
 (sH a R d (yF (c+((zW (.list .lit) a b.toNat).length:Int))) (yF (b+1))))
 (∃e:AcM,yQ oK [.nil,dI c] [] (.own 3000) [(3000,.row 114 .lit e)]/\
 ∃n2,sG a R n2 0 e)):=by kernel_rfl
theorem Yv(a:AcN)(R:yL):FD vS f194 [.sl (.list .lit) a] R=
 (∃n0,sH a R n0 0 0):=by kernel_rfl
theorem ZP(a:AcN):xZ vS f194 sN [.sl (.list .lit) a]:=wA func194 (by kernel_rfl) ntmps194 rfl
def lZ:wG:= {own:=[],live:=[],n:=9}
theorem Zy(a:AcL)(b:AcH)(c:AcO)(R:yL):FD lZ f203 [dS a,.clo b (some [.bool]) c] R=
 (yM rB [dS a,.clo b (some [.bool]) c] .int λd=>
 R (dB (decide (0<=d)))):=by kernel_rfl
theorem Zc(a:AcL)(b:AcH)(c:AcO):xZ lZ f203 tX [dS a,.clo b (some [.bool]) c]:=wA func203 (by kernel_rfl) ntmps203 rfl
def tL:wG:= {own:=[],live:=[(0,([0,1,7,8],[]))],n:=19}
def qA(a:AcP)(b:AcH)(c:AcO)(R:yL)(d:Nat)(e:Int):Prop:=LP tL f221 [1,0,1,0,0] 0 d ⟨[(0,.sl .var a),(1,.clo b (some [.bool]) c),(7,dI (a.length:Int)),(8,dI e)],[]⟩ (zH 0 (sK tL f221 [1,1] 0 (eK f221 R)))
theorem oQ(b:AcP)(c:AcH)(d:AcO)(R:yL)(e:Nat)(a:Int):qA b c d R (e+1) a=
 (zJ (decide (a<(b.length:Int)))
 (xM a b.length=true/\
 Xk c/\
 yM c ([dV (zW .var b a.toNat)]++d) .bool λf=>
 zJ f
 (R (dI a))
 (qA b c d R e (yF (a+1))))
 (R (dI (-1)))):=by kernel_rfl
theorem Zd(a:AcP)(b:AcH)(c:AcO)(R:yL):FD tL f221 [.sl .var a,.clo b (some [.bool]) c] R=
 (∃n0,qA a b c R n0 0):=by kernel_rfl
theorem bV(a:AcP)(b:AcH)(c:AcO):xZ tL f221 tH [.sl .var a,.clo b (some [.bool]) c]:=wA func221 (by kernel_rfl) ntmps221 rfl
def tM:wG:= {own:=[],live:=[(0,([0,1,7,8],[]))],n:=19}
def qB(a:AcM)(b:AcH)(c:AcO)(R:yL)(d:Nat)(e:Int):Prop:=LP tM f225 [1,0,1,0,0] 0 d ⟨[(0,.sl .lit a),(1,.clo b (some [.bool]) c),(7,dI (a.length:Int)),(8,dI e)],[]⟩ (zH 0 (sK tM f225 [1,1] 0 (eK f225 R)))
theorem oR(b:AcM)(c:AcH)(d:AcO)(R:yL)(e:Nat)(a:Int):qB b c d R (e+1) a=
 (zJ (decide (a<(b.length:Int)))
 (xM a b.length=true/\
 Xk c/\
 yM c ([dL (zW .lit b a.toNat)]++d) .bool λf=>
 zJ f
 (R (dI a))
 (qB b c d R e (yF (a+1))))
 (R (dI (-1)))):=by kernel_rfl
theorem Ze(a:AcM)(b:AcH)(c:AcO)(R:yL):FD tM f225 [.sl .lit a,.clo b (some [.bool]) c] R=
 (∃n0,qB a b c R n0 0):=by kernel_rfl
theorem bW(a:AcM)(b:AcH)(c:AcO):xZ tM f225 tI [.sl .lit a,.clo b (some [.bool]) c]:=wA func225 (by kernel_rfl) ntmps225 rfl
def rL:wG:= {own:=[],live:=[(0,([0,1,7,8],[]))],n:=19}
def og(a:AcL)(b:AcH)(c:AcO)(R:yL)(d:Nat)(e:Int):Prop:=LP rL f226 [1,0,1,0,0] 0 d ⟨[(0,dS a),(1,.clo b (some [.bool]) c),(7,dI (a.length:Int)),(8,dI e)],[]⟩ (zH 0 (sK rL f226 [1,1] 0 (eK f226 R)))
theorem kA(b:AcL)(c:AcH)(d:AcO)(R:yL)(e:Nat)(a:Int):og b c d R (e+1) a=
 (zJ (decide (a<(b.length:Int)))
 (xM a b.length=true/\
 Xk c/\
 yM c ([.sl .int (zW (.list .int) b a.toNat)]++d) .bool λf=>
 zJ f
 (R (dI a))
 (og b c d R e (yF (a+1))))
 (R (dI (-1)))):=by kernel_rfl
theorem Xm(a:AcL)(b:AcH)(c:AcO)(R:yL):FD rL f226 [dS a,.clo b (some [.bool]) c] R=
 (∃n0,og a b c R n0 0):=by kernel_rfl
theorem Y1(a:AcL)(b:AcH)(c:AcO):xZ rL f226 rK [dS a,.clo b (some [.bool]) c]:=wA func226 (by kernel_rfl) ntmps226 rfl
def oS:wG:= {own:=[],live:=[],n:=9}
theorem eS(a:AcM)(b:AcH)(c:AcO)(R:yL):FD oS f240 [.sl .lit a,.clo b (some [.bool]) c] R=
 (yM tB [.sl .lit a,.clo b (some [.bool]) c] .int λd=>
 R (dB (decide (0<=d)))):=by kernel_rfl
theorem fS(a:AcM)(b:AcH)(c:AcO):xZ oS f240 vH [.sl .lit a,.clo b (some [.bool]) c]:=wA func240 (by kernel_rfl) ntmps240 rfl
def cZ:wG:= {own:=[],live:=[],n:=9}
theorem VC(a:AcK)(b:Int)(R:yL):FD cZ Tryz.f247 [.sl .int a,dI b] R=
 (yM nK [.sl .int a,dI b] .int λc=>
 R (dB (decide (0<=c)))):=by kernel_rfl
theorem Vb(a:AcK)(b:Int):xZ cZ Tryz.f247 vJ [.sl .int a,dI b]:=wA func247 (by kernel_rfl) ntmps247 rfl
def vO:wG:= {own:=[],live:=[(0,([1,2,15,16,17],[]))],n:=32}
def wC(a b:AcL)(c:AcH)(d:AcO)(R:yL)(e:Nat)(f:Int):Prop:=LP vO f251 [1,1,0,1,0,0] 0 e ⟨[(1,dS b),(2,.clo c (some [.bool]) d),(15,dS a),(16,dI (a.length:Int)),(17,dI f)],[]⟩ (zH 0 (sK vO f251 [1,1,1] 0 (eK f251 R)))
theorem wU(b c:AcL)(d:AcH)(e:AcO)(R:yL)(f:Nat)(a:Int):wC b c d e R (f+1) a=
 (zJ (decide (a<(b.length:Int)))
 (xM a b.length=true/\
 xM a c.length=true/\
 Xk d/\
 yM d ([.sl .int (zW (.list .int) b a.toNat),.sl .int (zW (.list .int) c a.toNat)]++e) .bool λg=>
 zJ (!g)
 (R (dB false))
 (wC b c d e R f (yF (a+1))))
 (R (dB true))):=by kernel_rfl
theorem qN(a b:AcL)(c:AcH)(d:AcO)(R:yL):FD vO f251 [dS a,dS b,.clo c (some [.bool]) d] R=
 (zJ (!decide ((a.length:Int)=(b.length:Int)))
 (R (dB false))
 (∃n0,wC a b c d R n0 0)):=by kernel_rfl
theorem slices_EqualFunc_api_Store_api_Store_int_int_sat(a b:AcL)(c:AcH)(d:AcO):xZ vO f251 yP [dS a,dS b,.clo c (some [.bool]) d]:=wA func251 (by kernel_rfl) ntmps251 rfl
def rC:wG:= {own:=[],live:=[(0,([0,1,7,8],[]))],n:=19}
def pU(a:AcL)(b:AcH)(c:AcO)(R:yL)(d:Nat)(e:Int):Prop:=LP rC Tryz.f257 [1,0,1,0,0] 0 d ⟨[(0,dS a),(1,.clo b (some [.bool]) c),(7,dI (a.length:Int)),(8,dI e)],[]⟩ (zH 0 (sK rC Tryz.f257 [1,1] 0 (eK Tryz.f257 R)))
theorem lA(b:AcL)(c:AcH)(d:AcO)(R:yL)(e:Nat)(a:Int):pU b c d R (e+1) a=
 (zJ (decide (a<(b.length:Int)))
 (xM a b.length=true/\
 Xk c/\
 yM c ([.sl .int (zW (.list .int) b a.toNat)]++d) .bool λf=>
 zJ f
 (R (dI a))
 (pU b c d R e (yF (a+1))))
 (R (dI (-1)))):=by kernel_rfl
theorem Y2(a:AcL)(b:AcH)(c:AcO)(R:yL):FD rC Tryz.f257 [dS a,.clo b (some [.bool]) c] R=
 (∃n0,pU a b c R n0 0):=by kernel_rfl
theorem Yw(a:AcL)(b:AcH)(c:AcO):xZ rC Tryz.f257 rB [dS a,.clo b (some [.bool]) c]:=wA func257 (by kernel_rfl) ntmps257 rfl
def tC:wG:= {own:=[],live:=[(0,([0,1,7,8],[]))],n:=19}
def rR(a:AcM)(b:AcH)(c:AcO)(R:yL)(d:Nat)(e:Int):Prop:=LP tC Tryz.f280 [1,0,1,0,0] 0 d ⟨[(0,.sl .lit a),(1,.clo b (some [.bool]) c),(7,dI (a.length:Int)),(8,dI e)],[]⟩ (zH 0 (sK tC Tryz.f280 [1,1] 0 (eK Tryz.f280 R)))
theorem oH(b:AcM)(c:AcH)(d:AcO)(R:yL)(e:Nat)(a:Int):rR b c d R (e+1) a=
 (zJ (decide (a<(b.length:Int)))
 (xM a b.length=true/\
 Xk c/\
 yM c ([dL (zW .lit b a.toNat)]++d) .bool λf=>
 zJ f
 (R (dI a))
 (rR b c d R e (yF (a+1))))
 (R (dI (-1)))):=by kernel_rfl
theorem bX(a:AcM)(b:AcH)(c:AcO)(R:yL):FD tC Tryz.f280 [.sl .lit a,.clo b (some [.bool]) c] R=
 (∃n0,rR a b c R n0 0):=by kernel_rfl
theorem bH(a:AcM)(b:AcH)(c:AcO):xZ tC Tryz.f280 tB [.sl .lit a,.clo b (some [.bool]) c]:=wA func280 (by kernel_rfl) ntmps280 rfl
def vW:wG:= {own:=[],live:=[(0,([0,1,7,8],[]))],n:=19}
def tD(a:AcV)(b:AcH)(c:AcO)(R:yL)(d:Nat)(e:Int):Prop:=LP vW Tryz.f286 [1,0,1,0,0] 0 d ⟨[(0,.sl .term a),(1,.clo b (some [.bool]) c),(7,dI (a.length:Int)),(8,dI e)],[]⟩ (zH 0 (sK vW Tryz.f286 [1,1] 0 (eK Tryz.f286 R)))
theorem qI(b:AcV)(c:AcH)(d:AcO)(R:yL)(e:Nat)(a:Int):tD b c d R (e+1) a=
 (zJ (decide (a<(b.length:Int)))
 (xM a b.length=true/\
 Xk c/\
 yM c ([.agg [dI ((zW .term b a.toNat).v),dI ((zW .term b a.toNat).times)]]++d) .bool λf=>
 zJ f
 (R (dI a))
 (tD b c d R e (yF (a+1))))
 (R (dI (-1)))):=by kernel_rfl
theorem gK(a:AcV)(b:AcH)(c:AcO)(R:yL):FD vW Tryz.f286 [.sl .term a,.clo b (some [.bool]) c] R=
 (∃n0,tD a b c R n0 0):=by kernel_rfl
theorem gC(a:AcV)(b:AcH)(c:AcO):xZ vW Tryz.f286 wN [.sl .term a,.clo b (some [.bool]) c]:=wA func286 (by kernel_rfl) ntmps286 rfl
def eU:wG:= {own:=[2,5,7],live:=[],n:=8}
theorem Vc(a:AcL)(R:oG):FH eU f290 [dS a] [] [] true R=
 (∀b:Bool,(b=true->a=[])->
 zJ b
 (R (.own 3000) [(3000,.row 40 (.list .int) ([]:AcL))])
 (xQ (.list .int) (([]:AcL).length+a.length)=true/\
 R (.own 3000) [(3000,.row 40 (.list .int) (([]:AcL)++a))])):=by kernel_rfl
theorem Wm(a:AcL):nW eU f290 pB [dS a] [] [] true:=mJ func290 (by kernel_rfl) ntmps290 rfl
def nM:wG:= {own:=[],live:=[(0,([0,1,7,8],[]))],n:=19}
def jQ(a:AcK)(b:Int)(R:yL)(c:Nat)(d:Int):Prop:=LP nM f292 [1,0,1,0,0] 0 c ⟨[(0,.sl .int a),(1,dI b),(7,dI (a.length:Int)),(8,dI d)],[]⟩ (zH 0 (sK nM f292 [1,1] 0 (eK f292 R)))
theorem eV(b:AcK)(c:Int)(R:yL)(d:Nat)(a:Int):jQ b c R (d+1) a=
 (zJ (decide (a<(b.length:Int)))
 (xM a b.length=true/\
 zJ (decide (c=(zW .int b a.toNat)))
 (R (dI a))
 (jQ b c R d (yF (a+1))))
 (R (dI (-1)))):=by kernel_rfl
theorem TB(a:AcK)(b:Int)(R:yL):FD nM f292 [.sl .int a,dI b] R=
 (∃n0,jQ a b R n0 0):=by kernel_rfl
theorem US(a:AcK)(b:Int):xZ nM f292 nK [.sl .int a,dI b]:=wA func292 (by kernel_rfl) ntmps292 rfl
def vM:wG:= {own:=[33],live:=[(0,([0,3,9,10,11],[])),(2,([6,25,26,27],[31536]))],n:=36}
def tY(a:AcN)(R:yL)(b:Nat)(c:Int)(d:AcM):Prop:=LP vM Tryz.f317 [1,1,1,1,0,1,0,0] 2 b ⟨[(6,.own 31536),(25,.sl (.list .lit) a),(26,dI (a.length:Int)),(27,dI c)],[(31536,.row 114 .lit d)]⟩ (zH 2 (sK vM Tryz.f317 [1,1,1,1,1] 0 (eK Tryz.f317 R)))
def tZ(a:AcN)(R:yL)(b:Nat)(c d:Int):Prop:=LP vM Tryz.f317 [1,1,0,1,0,0] 0 b ⟨[(0,.sl (.list .lit) a),(3,dI c),(9,.sl (.list .lit) a),(10,dI (a.length:Int)),(11,dI d)],[]⟩ (zH 0 (sK vM Tryz.f317 [1,1,1] 0 (eK Tryz.f317 R)))
theorem bY(a:AcN)(R:yL)(d:Nat)(b:Int)(c:AcM):tY a R (d+1) b c=
 (zJ (decide (b<(a.length:Int)))
 (xM b a.length=true/\
 xQ .lit (c.length+(zW (.list .lit) a b.toNat).length)=true/\
 tY a R d (yF (b+1)) (c++(zW (.list .lit) a b.toNat)))
 (R (.sl .lit c))):=by kernel_rfl
theorem bZ(a:AcN)(R:yL)(d:Nat)(c b:Int):tZ a R (d+1) c b=
 (zJ (decide (b<(a.length:Int)))
 (xM b a.length=true/\
 zJ (decide ((yF (c+((zW (.list .lit) a b.toNat).length:Int)))<0))
 (False)
 (tZ a R d (yF (c+((zW (.list .lit) a b.toNat).length:Int))) (yF (b+1))))
 (∃e:AcM,yQ oe [.nil,dI c] [] (.own 3000) [(3000,.row 114 .lit e)]/\
 ∃n2,tY a R n2 0 e)):=by kernel_rfl
theorem ZQ(a:AcN)(R:yL):FD vM Tryz.f317 [.sl (.list .lit) a] R=
 (∃n0,tZ a R n0 0 0):=by kernel_rfl
theorem Zz(a:AcN):xZ vM Tryz.f317 vL [.sl (.list .lit) a]:=wA func317 (by kernel_rfl) ntmps317 rfl
def WH:wG:= {own:=[5],live:=[(1,([1,30,31,32],[]))],n:=75}
def Xn(a:zG)(R:yL)(b:Nat)(c:Int):Prop:=LP WH f43 [1,1,1,0,1,0,0] 1 b ⟨[(1,.iptr (WG a []) 0),(30,.sl .con a.cons),(31,dI (a.cons.length:Int)),(32,dI c)],[]⟩ (zH 1 (sK WH f43 [1,1,1,1] 0 (eK f43 R)))
theorem T4(a:zG)(R:yL)(c:Nat)(b:Int):Xn a R (c+1) b=
 (zJ (decide (b<(a.cons.length:Int)))
 (xM b a.cons.length=true/\
 yM T0 [dM a,dC (zW .con a.cons b.toNat)] .int λd=>
 zJ (!decide (d=0))
 (R (dI d))
 (Xn a R c (yF (b+1))))
 (zJ (decide (a.goal<0))
 (R (dI 7))
 (zJ (decide (2<a.goal))
 (R (dI 7))
 (zJ (decide (a.goal=0))
 (zJ (!decide (a.var=0))
 (R (dI 1))
 (zJ (!decide (a.goal=0))
 (yM sL [dI a.var,dI 0,dI (yF ((a.vars.length:Int)-1))] .bool λe=>
 zJ (!e)
 (R (dI 5))
 (R (dI 0)))
 (R (dI 0))))
 (zJ (!decide (a.goal=0))
 (yM sL [dI a.var,dI 0,dI (yF ((a.vars.length:Int)-1))] .bool λf=>
 zJ (!f)
 (R (dI 5))
 (R (dI 0)))
 (R (dI 0))))))):=by kernel_rfl
theorem D3(a:zG)(R:yL):FD WH f43 [dM a] R=
 (zJ (decide ((a.vars.length:Int)=0))
 (R (dI 1))
 (zJ (decide (6<(a.vars.length:Int)))
 (R (dI 2))
 (zJ (decide (8<(a.cons.length:Int)))
 (R (dI 2))
 (yM V2 [.sl .var a.vars] .int λb=>
 zJ (!decide (b=0))
 (R (dI b))
 (∃n1,Xn a R n1 0))))):=by kernel_rfl
theorem F3(a:zG):xZ WH f43 gA [dM a]:=wA func43 (by kernel_rfl) ntmps43 rfl
def WI:wG:= {own:=[6],live:=[(0,([2,3,8,9,10],[]))],n:=31}
def Xo(a:zG)(b:AcK)(R:yL)(c:Nat)(d:Int):Prop:=LP WI f74 [1,0,1,0,0] 0 c ⟨[(2,.iptr (WG a []) 0),(3,.iptr [.sl .int b] 0),(8,.sl .var a.vars),(9,dI (a.vars.length:Int)),(10,dI d)],[]⟩ (zH 0 (sK WI f74 [1,1] 0 (eK f74 R)))
theorem T5(b:zG)(c:AcK)(R:yL)(d:Nat)(a:Int):Xo b c R (d+1) a=
 (zJ (decide (a<(b.vars.length:Int)))
 (xM a b.vars.length=true/\
 xM a c.length=true/\
 yM sL [dI (zW .int c a.toNat),dI ((zW .var b.vars a.toNat).lo),dI ((zW .var b.vars a.toNat).hi)] .bool λe=>
 zJ (!e)
 (R (dB false))
 (Xo b c R d (yF (a+1))))
 (yM uR [.sl .con b.cons,.clo Yc none [.iptr [.sl .int c] 0]] .bool λf=>
 R (dB (!f)))):=by kernel_rfl
theorem D4(a:zG)(b:AcK)(R:yL):FD WI f74 [dM a,.sl .int b] R=
 (∃n0,Xo a b R n0 0):=by kernel_rfl
theorem F4(a:zG)(b:AcK):xZ WI f74 ZJ [dM a,.sl .int b]:=wA func74 (by kernel_rfl) ntmps74 rfl
def V8:wG:= {own:=[5,20],live:=[(0,([3,10,11,12],[30512]))],n:=26}
def WJ(a:zF)(R:yL)(b:Nat)(c:Int)(d:AcK):Prop:=LP V8 f87 [1,1,0,1,0,0] 0 b ⟨[(3,.own 30512),(10,.sl .lit a.lits),(11,dI (a.lits.length:Int)),(12,dI c)],[(30512,.row 3 .int d)]⟩ (zH 0 (sK V8 f87 [1,1,1] 0 (eK f87 R)))
theorem Hx(a:zF)(R:yL)(d:Nat)(b:Int)(c:AcK):WJ a R (d+1) b c=
 (zJ (decide (b<(a.lits.length:Int)))
 (xM b a.lits.length=true/\
 xQ .int (c.length+([(zW .lit a.lits b.toNat).var]).length)=true/\
 WJ a R d (yF (b+1)) (c++([(zW .lit a.lits b.toNat).var])))
 (∃e:AcK,yQ pL [.own 1000] [(1000,.row 3 .int c)] (.tup []) [(1000,.row 3 .int e)]/\
 ∃f:AcK,yQ rP [.own 1000] [(1000,.row 3 .int e)] (.sl .int f) []/\
 R (.sl .int f))):=by kernel_rfl
theorem Ai(a:zF)(R:yL):FD V8 f87 [dC a] R=
 (∃b:AcK,yQ sP [.sl .int a.vars] [] (.own 3000) [(3000,.row 3 .int b)]/\
 ∃n0,WJ a R n0 0 b):=by kernel_rfl
theorem D5(a:zF):xZ V8 f87 fJ [dC a]:=wA func87 (by kernel_rfl) ntmps87 rfl
def V9:wG:= {own:=[4],live:=[(0,([0,5,6,7],[]))],n:=49}
def WK(a:AcP)(R:yL)(b:Nat)(c:Int):Prop:=LP V9 f95 [1,0,1,0,0] 0 b ⟨[(0,.sl .var a),(5,.sl .var a),(6,dI (a.length:Int)),(7,dI c)],[]⟩ (zH 0 (sK V9 f95 [1,1] 0 (eK f95 R)))
theorem Rg(a:AcP)(R:yL)(c:Nat)(b:Int):WK a R (c+1) b=
 (zJ (decide (b<(a.length:Int)))
 (xM b a.length=true/\
 yM V5 [.str ((zW .var a b.toNat).name)] .bool λd=>
 zJ (!d)
 (R (dI 1))
 (Js 0 b a.length=true/\
 yM uS [.sl .var ((a.take b.toNat).drop 0),.clo Xd none [.iptr [.str ((zW .var a b.toNat).name),dI ((zW .var a b.toNat).lo),dI ((zW .var a b.toNat).hi)] 0]] .bool λe=>
 zJ e
 (R (dI 6))
 (yM sL [dI ((zW .var a b.toNat).lo),dI (-50),dI 50] .bool λf=>
 zJ (!f)
 (R (dI 3))
 (yM sL [dI ((zW .var a b.toNat).hi),dI (-50),dI 50] .bool λg=>
 zJ (!g)
 (R (dI 3))
 (zJ (decide (((zW .var a b.toNat).hi)<((zW .var a b.toNat).lo)))
 (R (dI 3))
 (zJ (decide (6<=(yF (((zW .var a b.toNat).hi)-((zW .var a b.toNat).lo)))))
 (R (dI 2))
 (WK a R c (yF (b+1)))))))))
 (R (dI 0))):=by kernel_rfl
theorem Aj(a:AcP)(R:yL):FD V9 f95 [.sl .var a] R=
 (∃n0,WK a R n0 0):=by kernel_rfl
theorem D6(a:AcP):xZ V9 f95 V2 [.sl .var a]:=wA func95 (by kernel_rfl) ntmps95 rfl
def T6:wG:= {own:=[5,6,8],live:=[(1,([6,75,76,77],[]))],n:=94}
def Ua(a:zF)(R:yL)(b:Nat)(c:Int):Prop:=LP T6 f96 [1,1,1,1,0,1,0,0] 1 b ⟨[(6,.iptr [.clo nI none []] 0),(75,.sl .lit a.lits),(76,dI (a.lits.length:Int)),(77,dI c)],[]⟩ (zH 1 (sK T6 f96 [1,1,1,1,1] 0 (eK f96 R)))
theorem Pm(a:zF)(R:yL)(c:Nat)(b:Int):Ua a R (c+1) b=
 (zJ (decide (b<(a.lits.length:Int)))
 (xM b a.lits.length=true/\
 zJ (decide (((zW .lit a.lits b.toNat).op)<1))
 (R (dI 7))
 (zJ (decide (4<((zW .lit a.lits b.toNat).op)))
 (R (dI 7))
 (yM nI [dI ((zW .lit a.lits b.toNat).n)] .bool λd=>
 zJ d
 (R (dI 3))
 (Ua a R c (yF (b+1))))))
 (R (dI 0))):=by kernel_rfl
theorem zcg(b:zG)(a:zF)(R:yL):FD T6 f96 [dM b,dC a] R=
 (zJ (decide (a.kind<1))
 (R (dI 7))
 (zJ (decide (10<a.kind))
 (R (dI 7))
 (zJ (decide (4<(a.vars.length:Int)))
 (R (dI 2))
 (zJ (decide (4<(a.lits.length:Int)))
 (R (dI 2))
 (zJ (decide (8<(a.consts.length:Int)))
 (R (dI 2))
 (zJ (decide (20<(a.rows.length:Int)))
 (R (dI 2))
 (yM V6 [dC a] .bool λc=>
 zJ (!c)
 (R (dI 1))
 (yM vD [.sl .int a.vars,.clo ZL none [.iptr (WG b []) 0]] .bool λd=>
 zJ d
 (R (dI 5))
 (yM wI [.sl .lit a.lits,.clo WD none [.iptr [.clo ZL none [.iptr (WG b []) 0]] 0]] .bool λe=>
 zJ e
 (R (dI 5))
 (yM vD [.sl .int a.consts,.clo nI none []] .bool λf=>
 zJ f
 (R (dI 3))
 (yM nI [dI a.n] .bool λg=>
 zJ g
 (R (dI 3))
 (yM yO [dS a.rows,.clo WE none [.iptr [.clo nI none []] 0]] .bool λh=>
 zJ h
 (R (dI 3))
 (∃n1,Ua a R n1 0))))))))))))):=by kernel_rfl
theorem Ak(a:zG)(b:zF):xZ T6 f96 T0 [dM a,dC b]:=wA func96 (by kernel_rfl) ntmps96 rfl
def O0:wG:= {own:=[],live:=[],n:=15}
theorem F5(a b c:Int)(R:yL):FD O0 f97 [dI a,dI b,dI c] R=
 (zJ (decide (b<=a))
 (R (dB (decide (a<=c))))
 (R (dB false))):=by kernel_rfl
theorem Hy(a b c:Int):xZ O0 f97 sL [dI a,dI b,dI c]:=wA func97 (by kernel_rfl) ntmps97 rfl
def Pn:wG:= {own:=[],live:=[],n:=8}
theorem Hz(a:zF)(b:AcK)(R:yL):FD Pn f119 [dC a,.iptr [.sl .int b] 0] R=
 (yM aV [dC a,.sl .int b] .bool λc=>
 R (dB (!c))):=by kernel_rfl
theorem JR(a:zF)(b:AcK):xZ Pn f119 Yc [dC a,.iptr [.sl .int b] 0]:=wA func119 (by kernel_rfl) ntmps119 rfl
def vX:wG:= {own:=[12,45,97],live:=[(1,([2,5,7,25,26,27],[])),(3,([2,5,10,48,49],[45])),(5,([2,5,12,88,89],[12,1012000])),(7,([5,14,120,121],[]))],n:=166,nils:=[(12,(0,(3,.int)))],pubs:=[]}
def WL(a:zF)(b:AcK)(R:yL)(c:Nat)(d e:Int):Prop:=LP vX f120 [1,1,1,0,1,0,1,0,1,0,1,0,0] 1 c ⟨[(2,.iptr (nX a []) 0),(5,.clo yU none [.iptr [.sl .int b] 0,.iptr (nX a []) 0]),(7,dI d),(25,.sl .int a.consts),(26,dI (a.consts.length:Int)),(27,dI e)],[]⟩ (zH 1 (sK vX f120 [1,1,1,0,1,0,1,0,1,1] 0 (zH 0 (sK vX f120 [1,1,1,1] 0 (eK f120 R)))))
def Yh(a:zF)(b:AcK)(R:yL)(c:Nat)(d e:Int):Prop:=LP vX f120 [1,1,1,0,1,0,1,0,1,0,1,0,0] 1 c ⟨[(2,.iptr (nX a []) 0),(5,.clo yU none [.iptr [.sl .int b] 0,.iptr (nX a []) 0]),(7,dI d),(25,.sl .int a.consts),(26,dI (a.consts.length:Int)),(27,dI e)],[]⟩ (zH 1 (sK vX f120 [1,1,1,0,1,0,1,0,1,1] 0 (zH 0 (sK vX f120 [1,1,1,1] 0 (eK f120 R)))))
def Yi(a:zF)(b:AcK)(R:yL)(c:Nat)(d e:Int):Prop:=LP vX f120 [1,1,1,0,1,0,1,0,1,0,1,0,0] 1 c ⟨[(2,.iptr (nX a []) 0),(5,.clo yU none [.iptr [.sl .int b] 0,.iptr (nX a []) 0]),(7,dI d),(25,.sl .int a.consts),(26,dI (a.consts.length:Int)),(27,dI e)],[]⟩ (zH 1 (sK vX f120 [1,1,1,0,1,0,1,0,1,1] 0 (zH 0 (sK vX f120 [1,1,1,1] 0 (eK f120 R)))))
def WM(a:zF)(b:AcK)(R:yL)(c:Nat)(d:Int)(e:List (Int×Int)):Prop:=LP vX f120 [1,1,1,0,1,0,1,1,1,0,1,0,1,0,0] 3 c ⟨[(2,.iptr (nX a []) 0),(5,.clo yU none [.iptr [.sl .int b] 0,.iptr (nX a []) 0]),(10,.own 45),(48,dI (a.vars.length:Int)),(49,dI d)],[(45,.mp .int .int e)]⟩ (zH 3 (sK vX f120 [1,1,1,0,1,0,1,1,1,0,1,1] 0 (zH 0 (sK vX f120 [1,1,1,1] 0 (eK f120 R)))))
def WN(a:zF)(b:AcK)(R:yL)(c:Nat)(d:Int)(e:AcK):Prop:=LP vX f120 [1,1,1,0,1,0,1,1,1,1,1,1,1,0,1,0,1,0,0] 5 c ⟨[(2,.iptr (nX a []) 0),(5,.clo yU none [.iptr [.sl .int b] 0,.iptr (nX a []) 0]),(12,.ptr 12 0),(88,dI (a.vars.length:Int)),(89,dI d)],[(12,.cells [.own 1012000]),(1012000,.row 3 .int e)]⟩ (zH 5 (sK vX f120 [1,1,1,0,1,0,1,1,1,1,1,1,1,0,1,1] 0 (zH 0 (sK vX f120 [1,1,1,1] 0 (eK f120 R)))))
def WO(a:zF)(b:AcK)(R:yL)(c:Nat)(d e:Int):Prop:=LP vX f120 [1,1,1,0,1,0,1,1,1,1,1,1,1,1,1,1,1,0,1,0,1,0,0] 7 c ⟨[(5,.clo yU none [.iptr [.sl .int b] 0,.iptr (nX a []) 0]),(14,dI d),(120,dI (((a.vars.take (a.vars.length:Int).toNat).drop 1).length:Int)),(121,dI e)],[]⟩ (zH 7 (sK vX f120 [1,1,1,0,1,0,1,1,1,1,1,1,1,1,1,1,1,0,1,1] 0 (zH 0 (sK vX f120 [1,1,1,1] 0 (eK f120 R)))))
theorem HA(a:zF)(c:AcK)(R:yL)(e:Nat)(d b:Int):WL a c R (e+1) d b=
 (zJ (decide (b<(a.consts.length:Int)))
 (xM b a.consts.length=true/\
 yM yU [dI b,.iptr [.sl .int c] 0,.iptr (nX a []) 0] .int λf=>
 WL a c R e (yF (d+(yF ((zW .int a.consts b.toNat)*f)))) (yF (b+1)))
 (yM fx [dC a,dI d] .bool λg=>
 R (dB g))):=by kernel_rfl
theorem Ky(a:zF)(c:AcK)(R:yL)(e:Nat)(d b:Int):Yh a c R (e+1) d b=
 (zJ (decide (b<(a.consts.length:Int)))
 (xM b a.consts.length=true/\
 yM yU [dI b,.iptr [.sl .int c] 0,.iptr (nX a []) 0] .int λf=>
 Yh a c R e (yF (d+(yF ((zW .int a.consts b.toNat)*f)))) (yF (b+1)))
 (yM fx [dC a,dI d] .bool λg=>
 R (dB g))):=by kernel_rfl
theorem Kz(a:zF)(c:AcK)(R:yL)(e:Nat)(d b:Int):Yi a c R (e+1) d b=
 (zJ (decide (b<(a.consts.length:Int)))
 (xM b a.consts.length=true/\
 yM yU [dI b,.iptr [.sl .int c] 0,.iptr (nX a []) 0] .int λf=>
 Yi a c R e (yF (d+(yF ((zW .int a.consts b.toNat)*f)))) (yF (b+1)))
 (yM fx [dC a,dI d] .bool λg=>
 R (dB g))):=by kernel_rfl
theorem HD(a:zF)(d:AcK)(R:yL)(e:Nat)(b:Int)(c:List (Int×Int)):WM a d R (e+1) b c=
 (zJ (decide (b<(a.vars.length:Int)))
 (yM yU [dI b,.iptr [.sl .int d] 0,.iptr (nX a []) 0] .int λf=>
 Jt (c.length+1)=true/\
 WM a d R e (yF (b+1)) (qH .int .int f b c))
 (R (dB (decide ((c.length:Int)=(a.vars.length:Int)))))):=by kernel_rfl
theorem HE(a:zF)(d:AcK)(R:yL)(e:Nat)(b:Int)(c:AcK):WN a d R (e+1) b c=
 (zJ (decide (b<(a.vars.length:Int)))
 (yM yU [dI b,.iptr [.sl .int d] 0,.iptr (nX a []) 0] .int λf=>
 xQ .int (c.length+([f]).length)=true/\
 WN a d R e (yF (b+1)) (c++([f])))
 (yM yO [dS a.rows,.clo Xe none [.iptr [.sl .int c] 0]] .bool λg=>
 R (dB g))):=by kernel_rfl
theorem HG(a:zF)(b:AcK)(R:yL)(e:Nat)(c d:Int):WO a b R (e+1) c d=
 (zJ (decide (d<(((a.vars.take (a.vars.length:Int).toNat).drop 1).length:Int)))
 (yM yU [dI (yF (1+d)),.iptr [.sl .int b] 0,.iptr (nX a []) 0] .int λf=>
 WO a b R e (if f>c then f else c) (yF (d+1)))
 (yM yU [dI 0,.iptr [.sl .int b] 0,.iptr (nX a []) 0] .int λg=>
 R (dB (decide (g=c))))):=by kernel_rfl
theorem Al(a:zF)(b:AcK)(R:yL):FD vX f120 [dC a,.sl .int b] R=
 (zJ (decide (a.kind=1))
 (∃n1,WL a b R n1 0 0)
 (zJ (decide (a.kind=2))
 (∃n1_2,Yh a b R n1_2 0 0)
 (zJ (decide (a.kind=3))
 (∃n1_3,Yi a b R n1_3 0 0)
 (zJ (decide (a.kind=4))
 (∃n3,WM a b R n3 0 ([]:List (Int×Int)))
 (zJ (decide (a.kind=5))
 (yM yU [dI 0,.iptr [.sl .int b] 0,.iptr (nX a []) 0] .int λd=>
 yM sL [dI d,dI 0,dI (yF ((a.consts.length:Int)-1))] .bool λe=>
 zJ e
 (yM yU [dI 0,.iptr [.sl .int b] 0,.iptr (nX a []) 0] .int λc=>
 xM c a.consts.length=true/\
 yM yU [dI 1,.iptr [.sl .int b] 0,.iptr (nX a []) 0] .int λf=>
 R (dB (decide ((zW .int a.consts c.toNat)=f))))
 (R (dB false)))
 (zJ (decide (a.kind=6))
 (∃n5,WN a b R n5 0 ([]:AcK))
 (zJ (decide (a.kind=7))
 (yM yU [dI 0,.iptr [.sl .int b] 0,.iptr (nX a []) 0] .int λg=>
 yM yU [dI 1,.iptr [.sl .int b] 0,.iptr (nX a []) 0] .int λh=>
 yM yU [dI 2,.iptr [.sl .int b] 0,.iptr (nX a []) 0] .int λi=>
 R (dB (decide ((yF (g*h))=i))))
 (zJ (decide (a.kind=8))
 (yM yU [dI 1,.iptr [.sl .int b] 0,.iptr (nX a []) 0] .int λj=>
 Js 1 (a.vars.length:Int) a.vars.length=true/\
 ∃n7,WO a b R n7 j 0)
 (zJ (decide (a.kind=9))
 (yM wI [.sl .lit a.lits,.clo pZ none [.iptr [.sl .int b] 0]] .bool λk=>
 R (dB k))
 (xM 0 a.lits.length=true/\
 yM pZ [dL (zW .lit a.lits 0),.iptr [.sl .int b] 0] .bool λl=>
 zJ l
 (yM yU [dI 0,.iptr [.sl .int b] 0,.iptr (nX a []) 0] .int λm=>
 zJ (decide (m=1))
 (R (dB true))
 (xM 0 a.lits.length=true/\
 yM pZ [dL (zW .lit a.lits 0),.iptr [.sl .int b] 0] .bool λn=>
 zJ (!n)
 (yM yU [dI 0,.iptr [.sl .int b] 0,.iptr (nX a []) 0] .int λo=>
 R (dB (decide (o=0))))
 (R (dB false))))
 (xM 0 a.lits.length=true/\
 yM pZ [dL (zW .lit a.lits 0),.iptr [.sl .int b] 0] .bool λp=>
 zJ (!p)
 (yM yU [dI 0,.iptr [.sl .int b] 0,.iptr (nX a []) 0] .int λq=>
 R (dB (decide (q=0))))
 (R (dB false))))))))))))):=by kernel_rfl
theorem D7(a:zF)(b:AcK):xZ vX f120 aV [dC a,.sl .int b]:=wA func120 (by kernel_rfl) ntmps120 rfl
def O1:wG:= {own:=[],live:=[],n:=9}
theorem F6(b a:zQ)(R:yL):FD O1 f163 [dV b,.iptr [.str a.name,dI a.lo,dI a.hi] 0] R=
 (R (dB (decide (b.name=a.name)))):=by kernel_rfl
theorem HH(b a:zQ):xZ O1 f163 Xd [dV b,.iptr [.str a.name,dI a.lo,dI a.hi] 0]:=wA func163 (by kernel_rfl) ntmps163 rfl
def LN:wG:= {own:=[],live:=[],n:=11}
theorem D8(b:Int)(a:zG)(R:yL):FD LN f164 [dI b,.iptr (WG a []) 0] R=
 (yM sL [dI b,dI 0,dI (yF ((a.vars.length:Int)-1))] .bool λc=>
 R (dB (!c))):=by kernel_rfl
theorem F7(b:Int)(a:zG):xZ LN f164 ZL [dI b,.iptr (WG a []) 0]:=wA func164 (by kernel_rfl) ntmps164 rfl
def LO:wG:= {own:=[],live:=[],n:=6}
theorem D9(a:Int)(R:yL):FD LO f165 [dI a] R=
 (yM sL [dI a,dI (-1000),dI 1000] .bool λb=>
 R (dB (!b))):=by kernel_rfl
theorem F8(a:Int):xZ LO f165 nI [dI a]:=wA func165 (by kernel_rfl) ntmps165 rfl
def JS:wG:= {own:=[3],live:=[],n:=66}
theorem Am(a:zF)(R:yL):FD JS f166 [dC a] R=
 (yM Ql [dC a] (.pr .int (.pr .int (.pr .int (.pr .int .int)))) λb=>
 yM sL [dI (a.vars.length:Int),dI b.1,dI b.2.1] .bool λc=>
 zJ (!c)
 (R (dB false))
 (yM Wj [dI (a.consts.length:Int),dI b.2.2.1] .bool λd=>
 zJ (!d)
 (R (dB false))
 (yM Wj [dI (a.rows.length:Int),dI b.2.2.2.1] .bool λe=>
 zJ (!e)
 (R (dB false))
 (yM Wj [dI (a.lits.length:Int),dI b.2.2.2.2] .bool λf=>
 zJ (!f)
 (R (dB false))
 (zJ (decide (a.kind=5))
 (zJ (decide ((a.consts.length:Int)=0))
 (R (dB false))
 (zJ (decide (3<a.kind))
 (zJ (!decide (a.n=0))
 (R (dB false))
 (yM yO [dS a.rows,.clo nV none [.iptr (nX a []) 0]] .bool λg=>
 R (dB (!g))))
 (yM yO [dS a.rows,.clo nV none [.iptr (nX a []) 0]] .bool λh=>
 R (dB (!h)))))
 (zJ (decide (3<a.kind))
 (zJ (!decide (a.n=0))
 (R (dB false))
 (yM yO [dS a.rows,.clo nV none [.iptr (nX a []) 0]] .bool λi=>
 R (dB (!i))))
 (yM yO [dS a.rows,.clo nV none [.iptr (nX a []) 0]] .bool λj=>
 R (dB (!j))))))))):=by kernel_rfl
theorem Ca(a:zF):xZ JS f166 V6 [dC a]:=wA func166 (by kernel_rfl) ntmps166 rfl
def LQ:wG:= {own:=[],live:=[],n:=8}
theorem Cb(b:zC)(a:AcH)(c:AcO)(R:yL):FD LQ f168 [dL b,.iptr [.clo a (some [.bool]) c] 0] R=
 (Xk a/\
 yM a ([dI b.var]++c) .bool λd=>
 R (dB d)):=by kernel_rfl
theorem F9(a:zC)(b:AcH)(c:AcO):xZ LQ f168 WD [dL a,.iptr [.clo b (some [.bool]) c] 0]:=wA func168 (by kernel_rfl) ntmps168 rfl
def LR:wG:= {own:=[],live:=[],n:=7}
theorem Cc(a:AcK)(b:AcH)(c:AcO)(R:yL):FD LR f170 [.sl .int a,.iptr [.clo b (some [.bool]) c] 0] R=
 (yM vD [.sl .int a,.clo b (some [.bool]) c] .bool λd=>
 R (dB d)):=by kernel_rfl
theorem Ea(a:AcK)(b:AcH)(c:AcO):xZ LR f170 WE [.sl .int a,.iptr [.clo b (some [.bool]) c] 0]:=wA func170 (by kernel_rfl) ntmps170 rfl
def O2:wG:= {own:=[],live:=[],n:=13}
theorem Eb(b:Int)(c:AcK)(a:zF)(R:yL):FD O2 f176 [dI b,.iptr [.sl .int c] 0,.iptr (nX a []) 0] R=
 (xM b a.vars.length=true/\
 xM (zW .int a.vars b.toNat) c.length=true/\
 R (dI (zW .int c ((zW .int a.vars b.toNat).toNat)))):=by kernel_rfl
theorem HJ(b:Int)(c:AcK)(a:zF):xZ O2 f176 yU [dI b,.iptr [.sl .int c] 0,.iptr (nX a []) 0]:=wA func176 (by kernel_rfl) ntmps176 rfl
def O3:wG:= {own:=[],live:=[],n:=11}
theorem Ec(a:zC)(b:AcK)(R:yL):FD O3 f177 [dL a,.iptr [.sl .int b] 0] R=
 (xM a.var b.length=true/\
 yM fw [dL a,dI (zW .int b a.var.toNat)] .bool λc=>
 R (dB c)):=by kernel_rfl
theorem HM(a:zC)(b:AcK):xZ O3 f177 pZ [dL a,.iptr [.sl .int b] 0]:=wA func177 (by kernel_rfl) ntmps177 rfl
def Fk:wG:= {own:=[],live:=[],n:=29}
theorem zch(a:zC)(b:Int)(R:yL):FD Fk f178 [dL a,dI b] R=
 (zJ (decide (a.op=1))
 (R (dB (decide (b<=a.n))))
 (zJ (decide (a.op=2))
 (R (dB (decide (a.n<=b))))
 (zJ (decide (a.op=3))
 (R (dB (decide (b=a.n))))
 (R (dB (!decide (b=a.n))))))):=by kernel_rfl
theorem Ao(a:zC)(b:Int):xZ Fk f178 fw [dL a,dI b]:=wA func178 (by kernel_rfl) ntmps178 rfl
def Fl:wG:= {own:=[],live:=[],n:=23}
theorem zci(a:zF)(b:Int)(R:yL):FD Fl f179 [dC a,dI b] R=
 (zJ (decide (a.kind=1))
 (R (dB (decide (b<=a.n))))
 (zJ (decide (a.kind=2))
 (R (dB (decide (b=a.n))))
 (R (dB (!decide (b=a.n)))))):=by kernel_rfl
theorem Ap(a:zF)(b:Int):xZ Fl f179 fx [dC a,dI b]:=wA func179 (by kernel_rfl) ntmps179 rfl
def O4:wG:= {own:=[],live:=[],n:=7}
theorem Ed(a b:AcK)(R:yL):FD O4 f180 [.sl .int a,.iptr [.sl .int b] 0] R=
 (yM wH [.sl .int a,.sl .int b] .bool λc=>
 R (dB c)):=by kernel_rfl
theorem HU(a b:AcK):xZ O4 f180 Xe [.sl .int a,.iptr [.sl .int b] 0]:=wA func180 (by kernel_rfl) ntmps180 rfl
def Cd:wG:= {own:=[2],live:=[],n:=32}
theorem zdK(a:zF)(R:yL):FD Cd f222 [dC a] R=
 (zJ (decide (a.kind=1))
 (R (.agg [dI 1,dI 4,dI (a.vars.length:Int),dI 0,dI 0]))
 (zJ (decide (a.kind=2))
 (R (.agg [dI 1,dI 4,dI (a.vars.length:Int),dI 0,dI 0]))
 (zJ (decide (a.kind=3))
 (R (.agg [dI 1,dI 4,dI (a.vars.length:Int),dI 0,dI 0]))
 (zJ (decide (a.kind=4))
 (R (.agg [dI 1,dI 4,dI 0,dI 0,dI 0]))
 (zJ (decide (a.kind=5))
 (R (.agg [dI 2,dI 2,dI (-1),dI 0,dI 0]))
 (zJ (decide (a.kind=6))
 (R (.agg [dI 1,dI 4,dI 0,dI (-1),dI 0]))
 (zJ (decide (a.kind=7))
 (R (.agg [dI 3,dI 3,dI 0,dI 0,dI 0]))
 (zJ (decide (a.kind=8))
 (R (.agg [dI 2,dI 4,dI 0,dI 0,dI 0]))
 (zJ (decide (a.kind=9))
 (R (.agg [dI 0,dI 0,dI 0,dI 0,dI (-1)]))
 (R (.agg [dI 1,dI 1,dI 0,dI 0,dI 1]))))))))))):=by kernel_rfl
theorem zcj(a:zF):xZ Cd f222 Ql [dC a]:=wA func222 (by kernel_rfl) ntmps222 rfl
def Ce:wG:= {own:=[],live:=[],n:=12}
theorem zdL(b a:Int)(R:yL):FD Ce f223 [dI b,dI a] R=
 (zJ (decide (a=(-1)))
 (R (dB true))
 (R (dB (decide (b=a))))):=by kernel_rfl
theorem zck(a b:Int):xZ Ce f223 Wj [dI a,dI b]:=wA func223 (by kernel_rfl) ntmps223 rfl
def O5:wG:= {own:=[],live:=[],n:=10}
theorem Ee(b:AcK)(a:zF)(R:yL):FD O5 f224 [.sl .int b,.iptr (nX a []) 0] R=
 (R (dB (!decide ((b.length:Int)=(a.vars.length:Int))))):=by kernel_rfl
theorem HW(b:AcK)(a:zF):xZ O5 f224 nV [.sl .int b,.iptr (nX a []) 0]:=wA func224 (by kernel_rfl) ntmps224 rfl
def Vd:wG:= {own:=[],live:=[],n:=47}
theorem PN(a:zC)(b:Int)(R:yL):FD Vd f123 [dL a,dI b] R=
 (zJ (decide (a.op=1))
 (zJ (decide (b<=a.n))
 (R (dB true))
 (zJ (decide (a.op=2))
 (zJ (decide (a.n<=b))
 (R (dB true))
 (zJ (decide (a.op=3))
 (zJ (decide (b=a.n))
 (R (dB true))
 (zJ (decide (a.op=4))
 (R (dB (!decide (b=a.n))))
 (R (dB false))))
 (zJ (decide (a.op=4))
 (R (dB (!decide (b=a.n))))
 (R (dB false)))))
 (zJ (decide (a.op=3))
 (zJ (decide (b=a.n))
 (R (dB true))
 (zJ (decide (a.op=4))
 (R (dB (!decide (b=a.n))))
 (R (dB false))))
 (zJ (decide (a.op=4))
 (R (dB (!decide (b=a.n))))
 (R (dB false))))))
 (zJ (decide (a.op=2))
 (zJ (decide (a.n<=b))
 (R (dB true))
 (zJ (decide (a.op=3))
 (zJ (decide (b=a.n))
 (R (dB true))
 (zJ (decide (a.op=4))
 (R (dB (!decide (b=a.n))))
 (R (dB false))))
 (zJ (decide (a.op=4))
 (R (dB (!decide (b=a.n))))
 (R (dB false)))))
 (zJ (decide (a.op=3))
 (zJ (decide (b=a.n))
 (R (dB true))
 (zJ (decide (a.op=4))
 (R (dB (!decide (b=a.n))))
 (R (dB false))))
 (zJ (decide (a.op=4))
 (R (dB (!decide (b=a.n))))
 (R (dB false)))))):=by kernel_rfl
theorem Qn(a:zC)(b:Int):xZ Vd f123 uX [dL a,dI b]:=wA func123 (by kernel_rfl) ntmps123 rfl
def kW:wG:= {own:=[],live:=[(0,([0,3],[]))],n:=16}
def lQ(a:AcL)(R:yL)(b:Nat)(c:Int):Prop:=LP kW f182 [1,0,1,0,0] 0 b ⟨[(0,dS a),(3,dI c)],[]⟩ (zH 0 (sK kW f182 [1,1] 0 (eK f182 R)))
theorem Zo(a:AcL)(R:yL)(c:Nat)(b:Int):lQ a R (c+1) b=
 (zJ (decide (b<(a.length:Int)))
 (xM b a.length=true/\
 zJ (decide (((zW (.list .int) a b.toNat).length:Int)=0))
 (R (dB true))
 (lQ a R c (yF (b+1))))
 (R (dB false))):=by kernel_rfl
theorem Qo(a:AcL)(R:yL):FD kW f182 [dS a] R=
 (∃n0,lQ a R n0 0):=by kernel_rfl
theorem Rh(a:AcL):xZ kW f182 xL [dS a]:=wA func182 (by kernel_rfl) ntmps182 rfl
def xV:wG:= {own:=[7,10,13,14,16,31,78,95,125,129],live:=[(0,([2,7,8,9,10,11],[7,10,31])),(2,([2,7,8,9,10,11,12],[7,10,31])),(4,([2,8,10,14,15],[10,14])),(6,([2,8,10,14,15,16,17],[10,14,16]))],n:=131}
def wD(a:AcL)(R:yL)(b:AcK)(c:Nat)(d:Int)(e:Nat)(f g:Int)(h i:AcK)(j:Int)(k:AcL)(l m:AcM)(n:AcK):Prop:=LP xV f183 [1,1,1,1,1,1,1,0,1,0,0,1,0,0,1,1,0,0] 2 e ⟨[(2,dS a),(7,.ptr 7 0),(8,.sl .int b),(9,.own 31),(10,.own 10),(11,dI d),(12,dI f)],[(7,.cells [dI g,.sl .int h,.sl .int i,dI j,dS k,.sl .lit l]),(10,.row 114 .lit m),(31,.row 3 .int n)]⟩ (zH 2 (zH 1 (sK xV f183 [1,1,1,1,1,1,1,0,1,0,0,1,1] 0 (iK xV f183 [1,1,1,1,1,1,1,0,1,0,0] 0 c (zH 0 (sK xV f183 [1,1,1,1,1,1,1,1] 0 (eK f183 R)))))))
def oT(a:AcL)(R:yL)(b:AcK)(c:Nat)(d:Int)(e:Nat)(f:Int)(g:AcM)(h:AcL)(i:AcK):Prop:=LP xV f183 [1,1,1,1,1,1,1,1,1,0,1,0,0,1,0,0,1,1,0,1,0,0] 6 e ⟨[(2,dS a),(8,.sl .int b),(10,.own 10),(14,.own 14),(15,dI d),(16,.own 16),(17,dI f)],[(10,.row 114 .lit g),(14,.row 40 (.list .int) h),(16,.row 3 .int i)]⟩ (zH 6 (sK xV f183 [1,1,1,1,1,1,1,1,1,0,1,0,0,1,0,0,1,1,1] 5 (zH 5 (sK xV f183 [1,1,1,1,1,1,1,1,1,0,1,0,0,1,1] 4 (iK xV f183 [1,1,1,1,1,1,1,1,1,0,1,0,0] 4 c (zH 4 (sK xV f183 [1,1,1,1,1,1,1,1,1,1] 0 (eK f183 R))))))))
def oU(a:AcL)(R:yL)(b:AcK)(c:Nat)(d:Int)(e:AcM)(f:AcL):Prop:=LP xV f183 [1,1,1,1,1,1,1,1,1,0,1,0,0] 4 c ⟨[(2,dS a),(8,.sl .int b),(10,.own 10),(14,.own 14),(15,dI d)],[(10,.row 114 .lit e),(14,.row 40 (.list .int) f)]⟩ (zH 4 (sK xV f183 [1,1,1,1,1,1,1,1,1,1] 0 (eK f183 R)))
def sW(a:AcL)(R:yL)(b:AcK)(c:Nat)(d e:Int)(f g:AcK)(h:Int)(i:AcL)(j k:AcM)(l:AcK):Prop:=LP xV f183 [1,1,1,1,1,1,1,0,1,0,0] 0 c ⟨[(2,dS a),(7,.ptr 7 0),(8,.sl .int b),(9,.own 31),(10,.own 10),(11,dI d)],[(7,.cells [dI e,.sl .int f,.sl .int g,dI h,dS i,.sl .lit j]),(10,.row 114 .lit k),(31,.row 3 .int l)]⟩ (zH 0 (sK xV f183 [1,1,1,1,1,1,1,1] 0 (eK f183 R)))
theorem Ss(e:AcL)(R:yL)(a:AcK)(f:Nat)(g:Int)(n:Nat)(b h:Int)(i j:AcK)(k:Int)(l:AcL)(m d:AcM)(c:AcK):wD e R a f g (n+1) b h i j k l m d c=
 (zJ (decide (b<(a.length:Int)))
 (xM b a.length=true/\
 xM b a.length=true/\
 ((xM (zW .int a b.toNat) c.length=true/\
 (yM sF [.sl .lit d,.agg [dI (zW .int a b.toNat),dI 0,dI (zW .int c ((zW .int a b.toNat).toNat))]] .bool λo=>
 zJ (!o)
 (xQ .lit (d.length+([(⟨zW .int a b.toNat,0,zW .int c ((zW .int a b.toNat).toNat)⟩:zC)]).length)=true/\
 wD e R a f g n (yF (b+1)) h i j k l m (d++([(⟨zW .int a b.toNat,0,zW .int c ((zW .int a b.toNat).toNat)⟩:zC)])) c)
 (wD e R a f g n (yF (b+1)) h i j k l m d c))/\
 yM sF [.sl .lit d,.agg [dI (zW .int a b.toNat),dI 0,dI (zW .int c ((zW .int a b.toNat).toNat))]] .bool λp=>
 zJ (!p)
 (xQ .lit (d.length+([(⟨zW .int a b.toNat,0,zW .int c ((zW .int a b.toNat).toNat)⟩:zC)]).length)=true/\
 wD e R a f g n (yF (b+1)) h i j k l m (d++([(⟨zW .int a b.toNat,0,zW .int c ((zW .int a b.toNat).toNat)⟩:zC)])) c)
 (wD e R a f g n (yF (b+1)) h i j k l m d c))/\
 xM (zW .int a b.toNat) c.length=true/\
 yM sF [.sl .lit d,.agg [dI (zW .int a b.toNat),dI 0,dI (zW .int c ((zW .int a b.toNat).toNat))]] .bool λq=>
 zJ (!q)
 (xQ .lit (d.length+([(⟨zW .int a b.toNat,0,zW .int c ((zW .int a b.toNat).toNat)⟩:zC)]).length)=true/\
 wD e R a f g n (yF (b+1)) h i j k l m (d++([(⟨zW .int a b.toNat,0,zW .int c ((zW .int a b.toNat).toNat)⟩:zC)])) c)
 (wD e R a f g n (yF (b+1)) h i j k l m d c))/\
 xM (zW .int a b.toNat) c.length=true/\
 yM sF [.sl .lit d,.agg [dI (zW .int a b.toNat),dI 0,dI (zW .int c ((zW .int a b.toNat).toNat))]] .bool λr=>
 zJ (!r)
 (xQ .lit (d.length+([(⟨zW .int a b.toNat,0,zW .int c ((zW .int a b.toNat).toNat)⟩:zC)]).length)=true/\
 wD e R a f g n (yF (b+1)) h i j k l m (d++([(⟨zW .int a b.toNat,0,zW .int c ((zW .int a b.toNat).toNat)⟩:zC)])) c)
 (wD e R a f g n (yF (b+1)) h i j k l m d c))
 (sW e R a f (yF (g+1)) h i j k l m d c)):=by kernel_rfl
theorem Su(b:AcL)(R:yL)(g:AcK)(h:Nat)(a:Int)(i:Nat)(c:Int)(e:AcM)(f:AcL)(d:AcK):oT b R g h a (i+1) c e f d=
 (xM a b.length=true/\
 zJ (decide (c<((zW (.list .int) b a.toNat).length:Int)))
 (xM a b.length=true/\
 xM c (zW (.list .int) b a.toNat).length=true/\
 yM sF [.sl .lit e,.agg [dI a,dI 0,dI (zW .int (zW (.list .int) b a.toNat) c.toNat)]] .bool λj=>
 zJ j
 (xM a b.length=true/\
 xM c (zW (.list .int) b a.toNat).length=true/\
 xQ .int (d.length+([zW .int (zW (.list .int) b a.toNat) c.toNat]).length)=true/\
 oT b R g h a i (yF (c+1)) e f (d++([zW .int (zW (.list .int) b a.toNat) c.toNat])))
 (oT b R g h a i (yF (c+1)) e f d))
 (xQ (.list .int) (f.length+([d]).length)=true/\
 oU b R g h (yF (a+1)) e (f++([d])))):=by kernel_rfl
theorem Sv(b:AcL)(R:yL)(d:AcK)(e:Nat)(a:Int)(f:AcM)(c:AcL):oU b R d (e+1) a f c=
 (zJ (decide (a<(b.length:Int)))
 (yM kL [.sl .int d,dI a] .bool λg=>
 zJ (!g)
 (xM a b.length=true/\
 xQ (.list .int) (c.length+([zW (.list .int) b a.toNat]).length)=true/\
 oU b R d e (yF (a+1)) f (c++([zW (.list .int) b a.toNat])))
 (∃n6,oT b R d e a n6 0 f c ([]:AcK)))
 (R (dS c))):=by kernel_rfl
theorem Sw(a:AcL)(R:yL)(b:AcK)(l:Nat)(c d:Int)(e f:AcK)(g:Int)(h:AcL)(i j:AcM)(m:AcK):sW a R b (l+1) c d e f g h i j m=
 (∃n:Bool,∃k:AcK,yQ fN [dS a,.sl .int b,.own 1000,dI c] [(1000,.row 3 .int m)] (dB n) [(1000,.row 3 .int k)]/\
 zJ n
 (yM pJ [.agg [dI d,.sl .int e,.sl .int f,dI g,dS h,.sl .lit i],.sl .int k] .bool λo=>
 zJ (!o)
 (sW a R b l (yF (c+1)) d e f g h i j k)
 (∃n2,wD a R b l c n2 0 d e f g h i j k))
 (∃n4,oU a R b n4 0 j ([]:AcL))):=by kernel_rfl
theorem PO(b:zG)(c:Int)(a:AcL)(R:yL):FD xV f183 [dM b,dI c,dS a] R=
 (yM xL [dS a] .bool λe=>
 zJ e
 (R (dS a))
 (xM c b.cons.length=true/\
 yM mZ [dM b,dC (zW .con b.cons c.toNat)] (.list .int) λd=>
 (a.length:Int)=(a.length:Int)/\
 0<=(a.length:Int)/\
 xQ .int ((a.length:Int).toNat)=true/\
 zJ (decide ((d.length:Int)=0))
 (yM pJ [dC (zW .con b.cons c.toNat),.sl .int (List.replicate ((a.length:Int).toNat) (Ty.dflt .int))] .bool λf=>
 zJ f
 (R (dS a))
 (yM sA [dI (a.length:Int)] (.list (.list .int)) λg=>
 R (dS g)))
 (∃n0,sW a R d n0 0 ((zW .con b.cons c.toNat).kind) ((zW .con b.cons c.toNat).vars) ((zW .con b.cons c.toNat).consts) ((zW .con b.cons c.toNat).n) ((zW .con b.cons c.toNat).rows) ((zW .con b.cons c.toNat).lits) ([]:AcM) (List.replicate ((a.length:Int).toNat) (Ty.dflt .int))))):=by kernel_rfl
theorem Qp(a:zG)(b:Int)(c:AcL):xZ xV f183 rQ [dM a,dI b,dS c]:=wA func183 (by kernel_rfl) ntmps183 rfl
def xW:wG:= {own:=[7,9,64,68],live:=[(0,([1,5,6],[])),(2,([1,5,6,7,8],[7])),(4,([1,5,6,7,8,9,10],[7,9]))],n:=71}
def oy(a:AcM)(R:yL)(b:Nat)(c:AcL)(d:Int)(e:Nat)(f:Int)(g:Nat)(h:Int)(i:AcL)(j:AcK):Prop:=LP xW f184 [1,1,0,1,0,0,1,0,0,1,0,1,0,0,1,0,0,1,0,1,0,0] 4 g ⟨[(1,.sl .lit a),(5,dS c),(6,dI d),(7,.own 7),(8,dI f),(9,.own 9),(10,dI h)],[(7,.row 40 (.list .int) i),(9,.row 3 .int j)]⟩ (zH 4 (sK xW f184 [1,1,0,1,0,0,1,0,0,1,0,1,0,0,1,0,0,1,1] 3 (zH 3 (sK xW f184 [1,1,0,1,0,0,1,0,0,1,0,1,0,0,1,1] 2 (iK xW f184 [1,1,0,1,0,0,1,0,0,1,0,1,0,0] 2 e (zH 2 (sK xW f184 [1,1,0,1,0,0,1,0,0,1,1] 1 (zH 1 (sK xW f184 [1,1,0,1,0,0,1,1] 0 (iK xW f184 [1,1,0,1,0,0] 0 b (zH 0 (sK xW f184 [1,1,1] 0 (eK f184 R)))))))))))))
def gP(a:AcM)(R:yL)(b:Nat)(c:AcL)(d:Int)(e:Nat)(f:Int)(g:AcL):Prop:=LP xW f184 [1,1,0,1,0,0,1,0,0,1,0,1,0,0] 2 e ⟨[(1,.sl .lit a),(5,dS c),(6,dI d),(7,.own 7),(8,dI f)],[(7,.row 40 (.list .int) g)]⟩ (zH 2 (sK xW f184 [1,1,0,1,0,0,1,0,0,1,1] 1 (zH 1 (sK xW f184 [1,1,0,1,0,0,1,1] 0 (iK xW f184 [1,1,0,1,0,0] 0 b (zH 0 (sK xW f184 [1,1,1] 0 (eK f184 R))))))))
def gQ(a:AcM)(R:yL)(b:Nat)(c:AcL)(d:Int):Prop:=LP xW f184 [1,1,0,1,0,0] 0 b ⟨[(1,.sl .lit a),(5,dS c),(6,dI d)],[]⟩ (zH 0 (sK xW f184 [1,1,1] 0 (eK f184 R)))
theorem Qq(d:AcM)(R:yL)(h:Nat)(b:AcL)(e:Int)(i:Nat)(a:Int)(j:Nat)(c:Int)(g:AcL)(f:AcK):oy d R h b e i a (j+1) c g f=
 (xM a b.length=true/\
 zJ (decide (c<((zW (.list .int) b a.toNat).length:Int)))
 (xM e d.length=true/\
 zJ (!decide (a=((zW .lit d e.toNat).var)))
 (xM a b.length=true/\
 xM c (zW (.list .int) b a.toNat).length=true/\
 xQ .int (f.length+([zW .int (zW (.list .int) b a.toNat) c.toNat]).length)=true/\
 oy d R h b e i a j (yF (c+1)) g (f++([zW .int (zW (.list .int) b a.toNat) c.toNat])))
 (xM e d.length=true/\
 xM a b.length=true/\
 xM c (zW (.list .int) b a.toNat).length=true/\
 yM uX [dL (zW .lit d e.toNat),dI (zW .int (zW (.list .int) b a.toNat) c.toNat)] .bool λk=>
 zJ (!k)
 (xM a b.length=true/\
 xM c (zW (.list .int) b a.toNat).length=true/\
 xQ .int (f.length+([zW .int (zW (.list .int) b a.toNat) c.toNat]).length)=true/\
 oy d R h b e i a j (yF (c+1)) g (f++([zW .int (zW (.list .int) b a.toNat) c.toNat])))
 (oy d R h b e i a j (yF (c+1)) g f)))
 (xQ (.list .int) (g.length+([f]).length)=true/\
 gP d R h b e i (yF (a+1)) (g++([f])))):=by kernel_rfl
theorem Qr(a:AcM)(R:yL)(b:Nat)(c:AcL)(d:Int)(g:Nat)(e:Int)(f:AcL):gP a R b c d (g+1) e f=
 (zJ (decide (e<(c.length:Int)))
 (∃n4,oy a R b c d g e n4 0 f ([]:AcK))
 (gQ a R b f (yF (d+1)))):=by kernel_rfl
theorem Qs(a:AcM)(R:yL)(d:Nat)(b:AcL)(c:Int):gQ a R (d+1) b c=
 (zJ (decide (c<(a.length:Int)))
 (∃n2,gP a R d b c n2 0 ([]:AcL))
 (R (dS b))):=by kernel_rfl
theorem M3(a:AcL)(b:AcM)(R:yL):FD xW f184 [dS a,.sl .lit b] R=
 (∃n0,gQ b R n0 a 0):=by kernel_rfl
theorem O6(a:AcL)(b:AcM):xZ xW f184 kK [dS a,.sl .lit b]:=wA func184 (by kernel_rfl) ntmps184 rfl
def tN:wG:= {own:=[3,5,33,37],live:=[(0,([1,3,4],[3])),(2,([1,3,4,5,6],[3,5]))],n:=39}
def iI(a:zG)(R:yL)(b:Nat)(c:Int)(d:Nat)(e:Int)(f:AcL)(g:AcK):Prop:=LP tN f185 [1,1,0,1,0,0,1,0,0,1,0,1,0,0] 2 d ⟨[(1,.iptr (WG a []) 0),(3,.own 3),(4,dI c),(5,.own 5),(6,dI e)],[(3,.row 40 (.list .int) f),(5,.row 3 .int g)]⟩ (zH 2 (sK tN f185 [1,1,0,1,0,0,1,0,0,1,1] 1 (zH 1 (sK tN f185 [1,1,0,1,0,0,1,1] 0 (iK tN f185 [1,1,0,1,0,0] 0 b (zH 0 (sK tN f185 [1,1,1] 0 (eK f185 R))))))))
def iJ(a:zG)(R:yL)(b:Nat)(c:Int)(d:AcL):Prop:=LP tN f185 [1,1,0,1,0,0] 0 b ⟨[(1,.iptr (WG a []) 0),(3,.own 3),(4,dI c)],[(3,.row 40 (.list .int) d)]⟩ (zH 0 (sK tN f185 [1,1,1] 0 (eK f185 R)))
theorem Ri(a:zG)(R:yL)(f:Nat)(b:Int)(g:Nat)(c:Int)(e:AcL)(d:AcK):iI a R f b (g+1) c e d=
 (xM b a.vars.length=true/\
 zJ (decide (c<=((zW .var a.vars b.toNat).hi)))
 (xQ .int (d.length+([c]).length)=true/\
 iI a R f b g (yF (c+1)) e (d++([c])))
 (xQ (.list .int) (e.length+([d]).length)=true/\
 iJ a R f (yF (b+1)) (e++([d])))):=by kernel_rfl
theorem Rj(a:zG)(R:yL)(d:Nat)(b:Int)(c:AcL):iJ a R (d+1) b c=
 (zJ (decide (b<(a.vars.length:Int)))
 (xM b a.vars.length=true/\
 ∃n2,iI a R d b n2 ((zW .var a.vars b.toNat).lo) c ([]:AcK))
 (R (dS c))):=by kernel_rfl
theorem O7(a:zG)(R:yL):FD tN f185 [dM a] R=
 (∃n0,iJ a R n0 0 ([]:AcL)):=by kernel_rfl
theorem PP(a:zG):xZ tN f185 mY [dM a]:=wA func185 (by kernel_rfl) ntmps185 rfl
def vK:wG:= {own:=[],live:=[(0,([1,2,3,4,9],[])),(2,([1,2,3,4,9,10],[])),(4,([1,2,3,4,9,12],[]))],n:=74}
def oZ(a:zG)(b:Bool)(c:AcN)(R:yL)(d e:Nat)(f:AcL)(g:Bool)(h:Int):Prop:=LP vK f186 [1,0,1,0,0,1,0,1,1,1,0,0] 4 e ⟨[(1,dS f),(2,dB b),(3,.sl (.list .lit) c),(4,.iptr (WG a []) 0),(9,dB g),(12,dI h)],[]⟩ (zH 4 (zH 1 (iK vK f186 [1,0,1,0,0] 0 d (zH 0 (sK vK f186 [1,1] 0 (eK f186 R))))))
def pM(a:zG)(b:Bool)(c:AcN)(R:yL)(d e:Nat)(f:AcL)(g:Bool)(h:Int):Prop:=LP vK f186 [1,0,1,0,0,1,0,1,1,1,0,0] 4 e ⟨[(1,dS f),(2,dB b),(3,.sl (.list .lit) c),(4,.iptr (WG a []) 0),(9,dB g),(12,dI h)],[]⟩ (zH 4 (zH 1 (iK vK f186 [1,0,1,0,0] 0 d (zH 0 (sK vK f186 [1,1] 0 (eK f186 R))))))
def rS(a:zG)(b:Bool)(c:AcN)(R:yL)(d e:Nat)(f:AcL)(g:Bool)(h:Int):Prop:=LP vK f186 [1,0,1,0,0,1,0,1,0,1,0,0] 2 e ⟨[(1,dS f),(2,dB b),(3,.sl (.list .lit) c),(4,.iptr (WG a []) 0),(9,dB g),(10,dI h)],[]⟩ (zH 2 (sK vK f186 [1,0,1,0,0,1,0,1,1] 1 (zH 1 (iK vK f186 [1,0,1,0,0] 0 d (zH 0 (sK vK f186 [1,1] 0 (eK f186 R)))))))
def xX(a:zG)(b:Bool)(c:AcN)(R:yL)(d:Nat)(e:AcL)(f:Bool):Prop:=LP vK f186 [1,0,1,0,0] 0 d ⟨[(1,dS e),(2,dB b),(3,.sl (.list .lit) c),(4,.iptr (WG a []) 0),(9,dB f)],[]⟩ (zH 0 (sK vK f186 [1,1] 0 (eK f186 R)))
theorem PQ(b:zG)(c:Bool)(d:AcN)(R:yL)(e h:Nat)(a:AcL)(f:Bool)(g:Int):oZ b c d R e (h+1) a f g=
 (zJ (decide (0<=g))
 (zJ c
 (yM xL [dS a] .bool λj=>
 zJ (!j)
 (yM rQ [dM b,dI g,dS a] (.list (.list .int)) λi=>
 yM sV [dS a,dS i] .bool λk=>
 zJ (!k)
 (oZ b c d R e h i true (yF (g-1)))
 (oZ b c d R e h a f (yF (g-1))))
 (xX b c d R e a f))
 (xX b c d R e a f))
 (xX b c d R e a f)):=by kernel_rfl
theorem Rk(b:zG)(c:Bool)(d:AcN)(R:yL)(e h:Nat)(a:AcL)(f:Bool)(g:Int):pM b c d R e (h+1) a f g=
 (zJ (decide (0<=g))
 (zJ c
 (yM xL [dS a] .bool λj=>
 zJ (!j)
 (yM rQ [dM b,dI g,dS a] (.list (.list .int)) λi=>
 yM sV [dS a,dS i] .bool λk=>
 zJ (!k)
 (pM b c d R e h i true (yF (g-1)))
 (pM b c d R e h a f (yF (g-1))))
 (xX b c d R e a f))
 (xX b c d R e a f))
 (xX b c d R e a f)):=by kernel_rfl
theorem cI(a:zG)(e:Bool)(b:AcN)(R:yL)(f h:Nat)(c:AcL)(g:Bool)(d:Int):rS a e b R f (h+1) c g d=
 (zJ (decide (0<=d))
 (yM xL [dS c] .bool λj=>
 zJ (!j)
 (xM d b.length=true/\
 yM fO [dS c,.sl .lit (zW (.list .lit) b d.toNat)] (.list (.list .int)) λi=>
 yM sV [dS c,dS i] .bool λk=>
 zJ (!k)
 (rS a e b R f h i true (yF (d-1)))
 (rS a e b R f h c g (yF (d-1))))
 (∃n4,oZ a e b R f n4 c g (yF ((a.cons.length:Int)-1))))
 (∃n4_2,pM a e b R f n4_2 c g (yF ((a.cons.length:Int)-1)))):=by kernel_rfl
theorem XY(c:zG)(d:Bool)(b:AcN)(R:yL)(e:Nat)(a:AcL)(f:Bool):xX c d b R (e+1) a f=
 (zJ f
 (yM xL [dS a] .bool λg=>
 zJ (!g)
 (∃n2,rS c d b R e n2 a false (yF ((b.length:Int)-1)))
 (yM xL [dS a] .bool λh=>
 zJ h
 (yM sA [dI (a.length:Int)] (.list (.list .int)) λi=>
 R (dS i))
 (R (dS a))))
 (yM xL [dS a] .bool λj=>
 zJ j
 (yM sA [dI (a.length:Int)] (.list (.list .int)) λk=>
 R (dS k))
 (R (dS a)))):=by kernel_rfl
theorem KA(a:zG)(b:AcL)(c:Bool)(d:AcN)(R:yL):FD vK f186 [dM a,dS b,dB c,.sl (.list .lit) d] R=
 (∃n0,xX a c d R n0 b true):=by kernel_rfl
theorem M4(a:zG)(b:AcL)(c:Bool)(d:AcN):xZ vK f186 cY [dM a,dS b,dB c,.sl (.list .lit) d]:=wA func186 (by kernel_rfl) ntmps186 rfl
def wJ:wG:= {own:=[5,56],live:=[(0,([2,3,5,6],[5])),(2,([2,3,5,6,7,8],[5])),(4,([2,3,5,6,7,9],[5]))],n:=58}
def nZ(b:zG)(a:zF)(R:yL)(c:Nat)(d:Int)(e:AcK)(f:Nat)(g:Bool)(h:Int):Prop:=LP wJ f232 [1,1,0,1,0,0,1,0,0,1,1,0,1,0,0] 4 f ⟨[(2,.iptr (WG b []) 0),(3,.iptr (nX a []) 0),(5,.own 5),(6,dI d),(7,dB g),(9,dI h)],[(5,.row 3 .int e)]⟩ (zH 4 (sK wJ f232 [1,1,0,1,0,0,1,0,0,1,1,1] 1 (zH 1 (sK wJ f232 [1,1,0,1,0,0,1,1] 0 (iK wJ f232 [1,1,0,1,0,0] 0 c (zH 0 (sK wJ f232 [1,1,1] 0 (eK f232 R))))))))
def mA(b:zG)(a:zF)(R:yL)(c:Nat)(d:Int)(e:AcK)(f:Nat)(g:Bool)(h:Int):Prop:=LP wJ f232 [1,1,0,1,0,0,1,0,0,1,0,1,0,0] 2 f ⟨[(2,.iptr (WG b []) 0),(3,.iptr (nX a []) 0),(5,.own 5),(6,dI d),(7,dB g),(8,dI h)],[(5,.row 3 .int e)]⟩ (zH 2 (sK wJ f232 [1,1,0,1,0,0,1,0,0,1,1] 1 (zH 1 (sK wJ f232 [1,1,0,1,0,0,1,1] 0 (iK wJ f232 [1,1,0,1,0,0] 0 c (zH 0 (sK wJ f232 [1,1,1] 0 (eK f232 R))))))))
def mB(b:zG)(a:zF)(R:yL)(c:Nat)(d:Int)(e:AcK):Prop:=LP wJ f232 [1,1,0,1,0,0] 0 c ⟨[(2,.iptr (WG b []) 0),(3,.iptr (nX a []) 0),(5,.own 5),(6,dI d)],[(5,.row 3 .int e)]⟩ (zH 0 (sK wJ f232 [1,1,1] 0 (eK f232 R)))
theorem Rl(e:zG)(a:zF)(R:yL)(f:Nat)(b:Int)(c:AcK)(g:Nat)(h:Bool)(d:Int):nZ e a R f b c (g+1) h d=
 (zJ (decide (d<(a.lits.length:Int)))
 (zJ h
 (nZ e a R f b c g true (yF (d+1)))
 (xM d a.lits.length=true/\
 nZ e a R f b c g (decide (((zW .lit a.lits d.toNat).var)=b)) (yF (d+1))))
 (zJ h
 (xQ .int (c.length+([b]).length)=true/\
 mB e a R f (yF (b+1)) (c++([b])))
 (mB e a R f (yF (b+1)) c))):=by kernel_rfl
theorem Rm(d:zG)(a:zF)(R:yL)(e:Nat)(c:Int)(f:AcK)(g:Nat)(h:Bool)(b:Int):mA d a R e c f (g+1) h b=
 (zJ (decide (b<(a.vars.length:Int)))
 (zJ h
 (mA d a R e c f g true (yF (b+1)))
 (xM b a.vars.length=true/\
 mA d a R e c f g (decide ((zW .int a.vars b.toNat)=c)) (yF (b+1))))
 (∃n4,nZ d a R e c f n4 h 0)):=by kernel_rfl
theorem Rn(a:zG)(d:zF)(R:yL)(e:Nat)(b:Int)(c:AcK):mB a d R (e+1) b c=
 (zJ (decide (b<(a.vars.length:Int)))
 (∃n2,mA a d R e b c n2 false 0)
 (R (.sl .int c))):=by kernel_rfl
theorem O8(a:zG)(b:zF)(R:yL):FD wJ f232 [dM a,dC b] R=
 (∃n0,mB a b R n0 0 ([]:AcK)):=by kernel_rfl
theorem PR(a:zG)(b:zF):xZ wJ f232 mZ [dM a,dC b]:=wA func232 (by kernel_rfl) ntmps232 rfl
def iL:wG:= {own:=[3,12],live:=[(0,([0,3,4],[3]))],n:=14}
def kX(a:Int)(R:yL)(b:Nat)(c:Int)(d:AcL):Prop:=LP iL f233 [1,1,0,1,0,0] 0 b ⟨[(0,dI a),(3,.own 3),(4,dI c)],[(3,.row 40 (.list .int) d)]⟩ (zH 0 (sK iL f233 [1,1,1] 0 (eK f233 R)))
theorem Sx(b:Int)(R:yL)(d:Nat)(c:Int)(a:AcL):kX b R (d+1) c a=
 (zJ (decide (c<b))
 (xQ (.list .int) (a.length+([([]:AcK)]).length)=true/\
 kX b R d (yF (c+1)) (a++([([]:AcK)])))
 (R (dS a))):=by kernel_rfl
theorem PS(a:Int)(R:yL):FD iL f233 [dI a] R=
 (∃n0,kX a R n0 0 ([]:AcL)):=by kernel_rfl
theorem Qt(a:Int):xZ iL f233 sA [dI a]:=wA func233 (by kernel_rfl) ntmps233 rfl
def fT:wG:= {own:=[],live:=[(0,([0,1,2,3,9],[1000]))],n:=46}
def lB(a:AcL)(b:AcK)(R:oG)(c:Nat)(d e:Int)(f:AcK):Prop:=LP fT f234 [1,0,1,0,0] 0 c ⟨[(0,dS a),(1,.sl .int b),(2,.own 1000),(3,dI d),(9,dI e)],[(1000,.row 3 .int f)]⟩ (zH 0 (sK fT f234 [1,1] 0 (eH f234 [.own 1000] false R)))
theorem Qu(c:AcL)(a:AcK)(R:oG)(f:Nat)(d b:Int)(e:AcK):lB c a R (f+1) d b e=
 (zJ (decide (b<(a.length:Int)))
 (xM b a.length=true/\
 xM (zW .int a b.toNat) c.length=true/\
 zJ (decide (((zW (.list .int) c ((zW .int a b.toNat).toNat)).length:Int)=0))
 (R (dB false) [(1000,.row 3 .int e)])
 (xM b a.length=true/\
 ((zW (.list .int) c ((zW .int a b.toNat).toNat)).length:Int)≠0/\
 xM (d.tmod ((zW (.list .int) c ((zW .int a b.toNat).toNat)).length:Int)) (zW (.list .int) c ((zW .int a b.toNat).toNat)).length=true/\
 xM (zW .int a b.toNat) e.length=true/\
 ((zW (.list .int) c ((zW .int a b.toNat).toNat)).length:Int)≠0/\
 lB c a R f (yF (d.tdiv ((zW (.list .int) c ((zW .int a b.toNat).toNat)).length:Int))) (yF (b+1)) (e.set ((zW .int a b.toNat).toNat) (zW .int (zW (.list .int) c ((zW .int a b.toNat).toNat)) ((d.tmod ((zW (.list .int) c ((zW .int a b.toNat).toNat)).length:Int)).toNat)))))
 (R (dB (decide (d=0))) [(1000,.row 3 .int e)])):=by kernel_rfl
theorem M5(a:AcL)(b c:AcK)(d:Int)(R:oG):FH fT f234 [dS a,.sl .int b,.own 1000,dI d] [(1000,.row 3 .int c)] [.own 1000] false R=
 (∃n0,lB a b R n0 d 0 c):=by kernel_rfl
theorem O9(a:AcL)(b c:AcK)(d:Int):nW fT f234 fN [dS a,.sl .int b,.own 1000,dI d] [(1000,.row 3 .int c)] [.own 1000] false:=mJ func234 (by kernel_rfl) ntmps234 rfl
def fU:wG:= {own:=[],live:=[(0,([0,3,5],[]))],n:=18}
def gR(b:AcM)(a:zC)(R:yL)(c:Nat)(d:Int):Prop:=LP fU f235 [1,0,1,0,0] 0 c ⟨[(0,.sl .lit b),(3,.iptr [dI a.var,dI a.op,dI a.n] 0),(5,dI d)],[]⟩ (zH 0 (sK fU f235 [1,1] 0 (eK f235 R)))
theorem Xp(a:AcM)(c:zC)(R:yL)(d:Nat)(b:Int):gR a c R (d+1) b=
 (zJ (decide (b<(a.length:Int)))
 (xM b a.length=true/\
 zJ (decide ((zW .lit a b.toNat)=c))
 (R (dB true))
 (gR a c R d (yF (b+1))))
 (R (dB false))):=by kernel_rfl
theorem M6(a:AcM)(b:zC)(R:yL):FD fU f235 [.sl .lit a,dL b] R=
 (∃n0,gR a b R n0 0):=by kernel_rfl
theorem Na(a:AcM)(b:zC):xZ fU f235 sF [.sl .lit a,dL b]:=wA func235 (by kernel_rfl) ntmps235 rfl
def fV:wG:= {own:=[],live:=[(0,([0,1,5],[]))],n:=18}
def gS(a:AcK)(b:Int)(R:yL)(c:Nat)(d:Int):Prop:=LP fV f236 [1,0,1,0,0] 0 c ⟨[(0,.sl .int a),(1,dI b),(5,dI d)],[]⟩ (zH 0 (sK fV f236 [1,1] 0 (eK f236 R)))
theorem Xq(a:AcK)(c:Int)(R:yL)(d:Nat)(b:Int):gS a c R (d+1) b=
 (zJ (decide (b<(a.length:Int)))
 (xM b a.length=true/\
 zJ (decide ((zW .int a b.toNat)=c))
 (R (dB true))
 (gS a c R d (yF (b+1))))
 (R (dB false))):=by kernel_rfl
theorem M7(a:AcK)(b:Int)(R:yL):FD fV f236 [.sl .int a,dI b] R=
 (∃n0,gS a b R n0 0):=by kernel_rfl
theorem Nb(a:AcK)(b:Int):xZ fV f236 kL [.sl .int a,dI b]:=wA func236 (by kernel_rfl) ntmps236 rfl
def xC:wG:= {own:=[5,7,9,46,117,121],live:=[(0,([0,1,5,6],[5])),(2,([0,1,5,7,8],[5,7])),(4,([0,1,5,7,8,9,10],[5,7,9])),(6,([0,1,5,7,8,9,10,11,12],[5,7,9]))],n:=123}
def oz(a:AcL)(b:AcM)(R:yL)(c:Nat)(d:Int)(e:Nat)(f:Int)(g:AcK)(h:AcL)(i:AcK)(j:Nat)(k:Bool)(l:Int):Prop:=LP xC f237 [1,1,1,1,1,1,1,0,1,0,0,1,0,0,1,0,1,0,0,1,0,0,1,0,1,0,0] 6 j ⟨[(0,dS a),(1,.sl .lit b),(5,.own 5),(7,.own 7),(8,dI d),(9,.own 9),(10,dI f),(11,dB k),(12,dI l)],[(5,.row 3 .int g),(7,.row 40 (.list .int) h),(9,.row 3 .int i)]⟩ (zH 6 (sK xC f237 [1,1,1,1,1,1,1,0,1,0,0,1,0,0,1,0,1,0,0,1,0,0,1,1] 5 (zH 5 (sK xC f237 [1,1,1,1,1,1,1,0,1,0,0,1,0,0,1,0,1,0,0,1,1] 4 (iK xC f237 [1,1,1,1,1,1,1,0,1,0,0,1,0,0,1,0,1,0,0] 4 e (zH 4 (sK xC f237 [1,1,1,1,1,1,1,0,1,0,0,1,0,0,1,1] 3 (zH 3 (sK xC f237 [1,1,1,1,1,1,1,0,1,0,0,1,1] 2 (iK xC f237 [1,1,1,1,1,1,1,0,1,0,0] 2 c (zH 2 (sK xC f237 [1,1,1,1,1,1,1,1] 0 (eK f237 R)))))))))))))
def lC(a:AcL)(b:AcM)(R:yL)(c:Nat)(d:Int)(e:Nat)(f:Int)(g:AcK)(h:AcL)(i:AcK):Prop:=LP xC f237 [1,1,1,1,1,1,1,0,1,0,0,1,0,0,1,0,1,0,0] 4 e ⟨[(0,dS a),(1,.sl .lit b),(5,.own 5),(7,.own 7),(8,dI d),(9,.own 9),(10,dI f)],[(5,.row 3 .int g),(7,.row 40 (.list .int) h),(9,.row 3 .int i)]⟩ (zH 4 (sK xC f237 [1,1,1,1,1,1,1,0,1,0,0,1,0,0,1,1] 3 (zH 3 (sK xC f237 [1,1,1,1,1,1,1,0,1,0,0,1,1] 2 (iK xC f237 [1,1,1,1,1,1,1,0,1,0,0] 2 c (zH 2 (sK xC f237 [1,1,1,1,1,1,1,1] 0 (eK f237 R))))))))
def gT(a:AcL)(b:AcM)(R:yL)(c:Nat)(d:Int)(e:AcK)(f:AcL):Prop:=LP xC f237 [1,1,1,1,1,1,1,0,1,0,0] 2 c ⟨[(0,dS a),(1,.sl .lit b),(5,.own 5),(7,.own 7),(8,dI d)],[(5,.row 3 .int e),(7,.row 40 (.list .int) f)]⟩ (zH 2 (sK xC f237 [1,1,1,1,1,1,1,1] 0 (eK f237 R)))
def oA(a:AcL)(b:AcM)(R:yL)(c:Nat)(d:Int)(e:AcK):Prop:=LP xC f237 [1,1,1,0,1,0,0] 0 c ⟨[(0,dS a),(1,.sl .lit b),(5,.own 5),(6,dI d)],[(5,.row 3 .int e)]⟩ (zH 0 (sK xC f237 [1,1,1,1] 0 (eK f237 R)))
theorem Qv(b:AcL)(c:AcM)(R:yL)(g:Nat)(a:Int)(h:Nat)(d:Int)(i:AcK)(j:AcL)(f:AcK)(k:Nat)(l:Bool)(e:Int):oz b c R g a h d i j f (k+1) l e=
 (zJ (decide (e<(c.length:Int)))
 (zJ l
 (oz b c R g a h d i j f k true (yF (e+1)))
 (xM e c.length=true/\
 zJ (decide (((zW .lit c e.toNat).var)=a))
 (xM e c.length=true/\
 xM a b.length=true/\
 xM d (zW (.list .int) b a.toNat).length=true/\
 yM uX [dL (zW .lit c e.toNat),dI (zW .int (zW (.list .int) b a.toNat) d.toNat)] .bool λm=>
 oz b c R g a h d i j f k m (yF (e+1)))
 (oz b c R g a h d i j f k false (yF (e+1)))))
 (zJ l
 (xM a b.length=true/\
 xM d (zW (.list .int) b a.toNat).length=true/\
 xQ .int (f.length+([zW .int (zW (.list .int) b a.toNat) d.toNat]).length)=true/\
 lC b c R g a h (yF (d+1)) i j (f++([zW .int (zW (.list .int) b a.toNat) d.toNat])))
 (lC b c R g a h (yF (d+1)) i j f))):=by kernel_rfl
theorem Qw(b:AcL)(f:AcM)(R:yL)(g:Nat)(a:Int)(i:Nat)(h:Int)(c:AcK)(d:AcL)(e:AcK):lC b f R g a (i+1) h c d e=
 (xM a b.length=true/\
 zJ (decide (h<((zW (.list .int) b a.toNat).length:Int)))
 (xM 0 c.length=true/\
 ∃n6,oz b f R g a i h c d e n6 (!decide (a=(zW .int c 0))) 0)
 (xQ (.list .int) (d.length+([e]).length)=true/\
 gT b f R g (yF (a+1)) c (d++([e])))):=by kernel_rfl
theorem Qx(a:AcL)(d:AcM)(R:yL)(e:Nat)(b:Int)(f:AcK)(c:AcL):gT a d R (e+1) b f c=
 (zJ (decide (b<(a.length:Int)))
 (∃n4,lC a d R e b n4 0 f c ([]:AcK))
 (R (dS c))):=by kernel_rfl
theorem Qy(d:AcL)(a:AcM)(R:yL)(e:Nat)(b:Int)(c:AcK):oA d a R (e+1) b c=
 (zJ (decide (b<(a.length:Int)))
 (xM b a.length=true/\
 yM fR [dS d,dL (zW .lit a b.toNat)] .int λf=>
 zJ (decide (0<=f))
 (xM b a.length=true/\
 yM kL [.sl .int c,dI ((zW .lit a b.toNat).var)] .bool λg=>
 zJ (!g)
 (xM b a.length=true/\
 xQ .int (c.length+([(zW .lit a b.toNat).var]).length)=true/\
 oA d a R e (yF (b+1)) (c++([(zW .lit a b.toNat).var])))
 (oA d a R e (yF (b+1)) c))
 (oA d a R e (yF (b+1)) c))
 (zJ (decide ((c.length:Int)=0))
 (yM sA [dI (d.length:Int)] (.list (.list .int)) λh=>
 R (dS h))
 (zJ (decide (1<(c.length:Int)))
 (R (dS d))
 (∃n2,gT d a R n2 0 c ([]:AcL))))):=by kernel_rfl
theorem M8(a:AcL)(b:AcM)(R:yL):FD xC f237 [dS a,.sl .lit b] R=
 (yM xL [dS a] .bool λc=>
 zJ c
 (R (dS a))
 (∃n0,oA a b R n0 0 ([]:AcK))):=by kernel_rfl
theorem Nc(a:AcL)(b:AcM):xZ xC f237 fO [dS a,.sl .lit b]:=wA func237 (by kernel_rfl) ntmps237 rfl
def kY:wG:= {own:=[],live:=[(0,([0,1,5],[]))],n:=27}
def lR(a b:AcL)(R:yL)(c:Nat)(d:Int):Prop:=LP kY f238 [1,1,0,1,0,0] 0 c ⟨[(0,dS a),(1,dS b),(5,dI d)],[]⟩ (zH 0 (sK kY f238 [1,1,1] 0 (eK f238 R)))
theorem Zp(b c:AcL)(R:yL)(d:Nat)(a:Int):lR b c R (d+1) a=
 (zJ (decide (a<(b.length:Int)))
 (xM a b.length=true/\
 xM a c.length=true/\
 yM nS [.sl .int (zW (.list .int) b a.toNat),.sl .int (zW (.list .int) c a.toNat)] .bool λe=>
 zJ (!e)
 (R (dB false))
 (lR b c R d (yF (a+1))))
 (R (dB true))):=by kernel_rfl
theorem Qz(a b:AcL)(R:yL):FD kY f238 [dS a,dS b] R=
 (zJ (!decide ((a.length:Int)=(b.length:Int)))
 (R (dB false))
 (∃n0,lR a b R n0 0)):=by kernel_rfl
theorem Ro(a b:AcL):xZ kY f238 sV [dS a,dS b]:=wA func238 (by kernel_rfl) ntmps238 rfl
def fW:wG:= {own:=[],live:=[(0,([0,3,5,6,7],[]))],n:=35}
def lD(b:AcL)(a:zC)(R:yL)(c:Nat)(d e:Bool)(f:Int):Prop:=LP fW Tryz.f279 [1,1,0,1,0,0] 0 c ⟨[(0,dS b),(3,.iptr [dI a.var,dI a.op,dI a.n] 0),(5,dB d),(6,dB e),(7,dI f)],[]⟩ (zH 0 (sK fW Tryz.f279 [1,1,1] 0 (eK Tryz.f279 R)))
theorem QA(b:AcL)(a:zC)(R:yL)(e:Nat)(d f:Bool)(c:Int):lD b a R (e+1) d f c=
 (xM a.var b.length=true/\
 zJ (decide (c<((zW (.list .int) b a.var.toNat).length:Int)))
 (xM a.var b.length=true/\
 xM c (zW (.list .int) b a.var.toNat).length=true/\
 yM uX [dL a,dI (zW .int (zW (.list .int) b a.var.toNat) c.toNat)] .bool λg=>
 zJ g
 (lD b a R e true f (yF (c+1)))
 (lD b a R e d true (yF (c+1))))
 (zJ d
 (zJ (!f)
 (R (dI 1))
 (zJ (!d)
 (R (dI (-1)))
 (R (dI 0))))
 (zJ (!d)
 (R (dI (-1)))
 (R (dI 0))))):=by kernel_rfl
theorem M9(a:AcL)(b:zC)(R:yL):FD fW Tryz.f279 [dS a,dL b] R=
 (∃n0,lD a b R n0 false false 0):=by kernel_rfl
theorem Nd(a:AcL)(b:zC):xZ fW Tryz.f279 fR [dS a,dL b]:=wA func279 (by kernel_rfl) ntmps279 rfl
end Go.Proofs.YtogdmcebojiojaaGreatDoor
