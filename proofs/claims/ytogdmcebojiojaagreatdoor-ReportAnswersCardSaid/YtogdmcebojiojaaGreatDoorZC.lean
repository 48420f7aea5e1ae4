/- Texts of this proof, one behind the other: nothing is handed in but what is proved here; no condition. -/
import Derived.Shelf.Strings.Builder1
import Derived.Shelf.Strings.Builder2
import Derived.Shelf.Strings.OnBuilder
import Derived.Shelf.Small.Bits
import Derived.Shelf.Small.Strs
import Derived.Shelf.Small.Wraps
import Derived.Shelf.Strings.BuilderF
import Derived.Shelf.Strings.BuilderK
import Derived.Shelf.Strings.Builder2Cap
import Derived.Shelf.Strconv.Atoi
import Derived.Shelf.Strconv.Itoa0
import Derived.Shelf.Strconv.Itoa1
import Derived.Shelf.LaysM
import Derived.Shelf.Strconv.Itoa2
import Derived.Shelf.Strconv.Itoa3
import Derived.Shelf.Strings.Search1
import Derived.Shelf.Sort.Plain
import Derived.Shelf.Strings.Prefix
import Derived.Shelf.Strings.BuilderCap
import Derived.Shelf.Slices.Turned
import Derived.Shelf.Slices.Equal
import Derived.Ground.Names2Prog
import Derived.Shelf.Slices.Clone
import Derived.Shelf.Slices.CompactI
import Derived.Shelf.Slices.SearchI
import Derived.Shelf.Slices.Cells
import Derived.Shelf.Slices.In.SortNone
import Derived.Shelf.Slices.Empties2
import Derived.Test.YtogdmcebojiojaaGreatDoorProg
import Derived.Test.YtogdmcebojiojaaGreatDoorZB
namespace Go.Proofs.YtogdmcebojiojaaGreatDoor
set_option linter.unusedVariables false
set_option linter.unusedSimpArgs false
def WQ(n:Nat):Bool:=decide (97≤n)&&decide (n≤122)
def isDN(n:Nat):Bool:=decide (48≤n)&&decide (n≤57)
def isL(c:UInt8):Bool:=WQ c.toNat
def isD(c:UInt8):Bool:=isDN c.toNat
def isW(c:UInt8):Bool:=isL c||isD c
def dK:List UInt8→Bool
 |a::b::_=>(a==46&&b==46)||(a==60&&b==61)||(a==62&&b==61)||(a==61&&b==61)||(a==33&&b==61)
 |_=>false
def Yt(c:UInt8):Bool:=c==91||c==93||c==59||c==58||c==44||c==45
def zW:List UInt8→Nat×Nat
 |[]=>(0,0)
 |c::r=>
  if isL c then(1,1+(r.takeWhile isW).length)
  else if isD c then(2,1+(r.takeWhile isD).length)
  else if dK (c::r)then(3,2)
  else if Yt c then(3,1)
  else(0,0)
def jK(c:UInt8):Bool:=c==32||c==9||c==10
def bs(l:List UInt8):ByteArray:=⟨l.toArray⟩
def vY(k n:Nat)(c:UInt8):Int:=
 if k=0 then 1 else if k=1∧n>12∨k=2∧n>4 then 2 else if k=2∧n>1∧c=48 then 1 else 0
def vM:List UInt8→Nat→Bool→List vL→Nat→List vL×Int×Int
 |[],_,_,out,_=>(out,0,0)
 |_::r,i,note,out,k+1=>vM r (i+1) note out k
 |c::r,i,note,out,0=>
  if note||c==37 then vM r (i+1) (c !=10) out 0
  else if jK c then vM r (i+1) false out 0
  else
   let kn:=zW (c::r)
   if vY kn.1 kn.2 c=0 then vM r (i+1) false (out++[⟨kn.1,i,bs ((c::r).take kn.2)⟩]) (kn.2-1)
   else([],i,vY kn.1 kn.2 c)
def uZ(l:List UInt8):List vL×Int×Int:=if l.length>4000 then([],0,2)else vM l 0 false [] 0
theorem aC:∀(l:List UInt8) (i:Nat) (note:Bool) (out:List vL) (k:Nat),k≤l.length→vM l i note out k=vM (l.drop k) (i+k) note out 0
 |l,i,note,out,0,_=>by simp
 |[],i,note,out,k+1,h=>by simp at h
 |c::r,i,note,out,k+1,h=>by
  rw[vM,aC r (i+1) note out k (by simpa using h),List.drop_succ_cons]
  congr 1;omega
theorem Nl:∀(l:List UInt8),(zW l).2≤l.length
 |[]=>by simp[zW]
 |c::r=>by
  have h1:(r.takeWhile isW).length≤r.length:=(List.takeWhile_sublist _).length_le;have h2:(r.takeWhile isD).length≤r.length:=(List.takeWhile_sublist _).length_le;simp only[zW];split
  ·simp;omega
  ·split
   ·simp;omega
   ·split
    ·rename_i h
     cases r with
     |nil=>simp[dK]at h
     |cons d r=>simp
    ·split<;>simp
theorem RT(l:List UInt8)(h:(zW l).1≠0):1≤(zW l).2:=by
 cases l with
 |nil=>simp[zW]at h
 |cons c r=>
  revert h;simp only[zW];split
  ·simp
  ·split
   ·simp
   ·split
    ·simp
    ·split<;>simp
theorem TW(l:List UInt8):(zW l).1≤3:=by
 cases l with
 |nil=>simp[zW]
 |cons c r=>
  simp only[zW];split
  ·simp
  ·split
   ·simp
   ·split
    ·simp
    ·split<;>simp
def tA:List UInt8→Bool→Nat
 |[],_=>0
 |c::r,true=>if c==10 then 1+tA r false else 1+tA r true
 |c::r,false=>if c==37 then 1+tA r true else if jK c then 1+tA r false else 0
theorem UO:∀(l:List UInt8) (note:Bool),tA l note≤l.length
 |[],_=>by simp[tA]
 |c::r,true=>by
  have h1:=UO r false;have h2:=UO r true;unfold tA;split<;>simp<;>omega
 |c::r,false=>by
  have h1:=UO r false;have h2:=UO r true;unfold tA;split
  ·simp;omega
  ·split<;>simp;omega
theorem eM:∀(l:List UInt8) (i:Nat) (note:Bool) (out:List vL),vM l i note out 0=vM (l.drop (tA l note)) (i+tA l note) false out 0
 |[],i,note,out=>by simp[tA,vM]
 |c::r,i,true,out=>by
  rw[vM,if_pos (by simp),tA]
  by_cases h:c=10
  ·subst h
   rw[eM r (i+1) _ out,if_pos (by simp)]
   simp only[bne_self_eq_false,Nat.add_comm 1,List.drop_succ_cons]
   congr 1;omega
  ·have hb:(c !=10)=true:=by simpa using h
   rw[if_neg (by simpa using h),hb,eM r (i+1) true out]
   simp only[Nat.add_comm 1,List.drop_succ_cons]
   congr 1;omega
 |c::r,i,false,out=>by
  by_cases h:c=37
  ·subst h
   rw[vM,if_pos (by simp),tA,if_pos (by simp),eM r (i+1) _ out]
   have:((37:UInt8) !=10)=true:=by decide
   simp only[this,Nat.add_comm 1,List.drop_succ_cons]
   congr 1;omega
  ·by_cases hb:jK c=true
   ·rw[vM,if_neg (by simpa using h),if_pos hb,tA,if_neg (by simpa using h),if_pos hb,eM r (i+1) false out]
    simp only[Nat.add_comm 1,List.drop_succ_cons]
    congr 1;omega
   ·have:tA (c::r) false=0:=by rw[tA,if_neg (by simpa using h),if_neg hb]
    rw[this];simp
theorem Yu:∀(l:List UInt8) (note:Bool) (c:UInt8) (r:List UInt8),l.drop (tA l note)=c::r→c≠37∧jK c=false
 |[],note,c,r,h=>by simp[tA]at h
 |a::l,true,c,r,h=>by
  unfold tA at h
  split at h
  ·rw[Nat.add_comm,List.drop_succ_cons]at h;exact Yu l false c r h
  ·rw[Nat.add_comm,List.drop_succ_cons]at h;exact Yu l true c r h
 |a::l,false,c,r,h=>by
  unfold tA at h
  split at h
  ·rw[Nat.add_comm,List.drop_succ_cons]at h;exact Yu l true c r h
  ·split at h
   ·rw[Nat.add_comm,List.drop_succ_cons]at h;exact Yu l false c r h
   ·rename_i h1 h2
    simp at h
    obtain⟨rfl,rfl⟩:=h;exact⟨by simpa using h1,by simpa using h2⟩
def dN(kind:Int)(l:List UInt8):Bool:=
 match l with
 |[]=>false
 |c::r=>decide (l.length≤4000)&&decide (((zW (c::r)).1:Int)=kind)&&decide ((zW (c::r)).2=l.length)&&decide (vY (zW (c::r)).1 (zW (c::r)).2 c=0)
end Go.Proofs.YtogdmcebojiojaaGreatDoor
namespace Go.Proofs.YtogdmcebojiojaaGreatDoor
open Go.RowKit
set_option linter.unusedVariables false
set_option linter.unusedSimpArgs false
def kK(n a b:Int):Bool:=decide (a≤n)&&decide (n≤b)
theorem GH{n a b:Int}:kK n a b=true↔a≤n∧n≤b:=by simp[kK]
theorem qD{n a b:Int}:kK n a b=false↔n<a∨b<n:=by
 unfold kK;rw[Bool.and_eq_false_iff];simp
def Um:List ByteArray:=[bs [118,97,114],bs [99,111,110],bs [115,111,108,118,101],bs [108,101],bs [101,113],bs [110,101],bs [100,105,102,102,101,114],bs [101,108,101,109,101,110,116],bs [116,97,98,108,101],bs [116,105,109,101,115],bs [109,97,120],bs [99,108,97,117,115,101],bs [105,102,102],bs [97,110,121],bs [108,101,97,115,116],bs [109,111,115,116]]
def zD(s:ByteArray):Bool:=dN 1 s.data.toList&& !Um.any (λu=>u.toList==s.toList)
def wK{α:Type}(f:Nat→α→Int):Nat→List α→Int
 |_,[]=>0
 |i,x::xs=>if f i x=0 then wK f (i+1) xs else f i x
theorem zcF{α:Type}{f:Nat→α→Int}{i k:Nat}{xs:List α}{E:Int}(hk:xs.length≤k)(h:wK f i (xs.drop k)=E):E=0:=by
 rw[List.drop_eq_nil_of_le hk]at h;exact h.symm
theorem zat{α:Type}{f:Nat→α→Int}{i k:Nat}{xs:List α}{E:Int}(hk:k<xs.length)(h:wK f i (xs.drop k)=E)(h0:f i xs[k]≠0):E=f i xs[k]:=by
 rw[List.drop_eq_getElem_cons hk,wK,if_neg h0]at h;exact h.symm
theorem zau{α:Type}{f:Nat→α→Int}{i k:Nat}{xs:List α}{E:Int}(hk:k<xs.length)(h:wK f i (xs.drop k)=E)(h0:f i xs[k]=0):wK f (i+1) (xs.drop (k+1))=E:=by
 rw[List.drop_eq_getElem_cons hk,wK,if_pos h0]at h;exact h
theorem RU{α:Type}{f:Nat→α→Int}:∀(xs:List α) (i:Nat),wK f i xs=0→∀(j:Nat) (hj:j<xs.length),f (i+j) xs[j]=0
 |[],i,_,j,hj=>absurd hj (Nat.not_lt_zero _)
 |x::xs,i,h,j,hj=>by
  rw[wK]at h
  by_cases h0:f i x=0
  ·rw[if_pos h0]at h
   cases j with
   |zero=>exact h0
   |succ j=>have:=RU xs (i+1) h j (by simpa using hj);rw[show i+(j+1)=i+1+j by omega];simpa using this
  ·rw[if_neg h0]at h;exact absurd h h0
def GI(ahead:List zN)(v:zN):Int:=
 if zD v.name=false then 1
 else if(ahead.any λu=>u.name.toList==v.name.toList)=true then 6
 else if(!kK v.lo (-50) 50|| !kK v.hi (-50) 50||decide (v.hi<v.lo))=true then 3
 else if 6≤v.hi-v.lo then 2 else 0
def UP(l:List zN):Int:=wK (λi v=>GI (l.take i) v) 0 l
def farB(n:Int):Bool:= !kK n (-1000) 1000
def rP(nv:Nat)(v:Int):Bool:= !kK v 0 ((nv:Int)-1)
def eN(nv:Nat)(l:zC):Int:=if rP nv l.var=true then 5 else if kK l.op 1 4=false then 7 else if farB l.n=true then 3 else 0
def fM(c:zE):Bool:=
 let v:=c.vars.length;let k:=c.consts.length;let r:=c.rows.length;let l:=c.lits.length
 if 3<c.kind∧c.n≠0 then false
 else if c.kind=1∨c.kind=2∨c.kind=3 then decide (1≤v)&&decide (k=v)&&decide (r=0)&&decide (l=0)
 else if c.kind=4 then decide (1≤v)&&decide (k=0)&&decide (r=0)&&decide (l=0)
 else if c.kind=5 then decide (v=2)&&decide (1≤k)&&decide (r=0)&&decide (l=0)
 else if c.kind=6 then(c.rows.all λr=>decide (r.length=v))&&decide (1≤v)&&decide (k=0)&&decide (l=0)
 else if c.kind=7 then decide (v=3)&&decide (k=0)&&decide (r=0)&&decide (l=0)
 else if c.kind=8 then decide (2≤v)&&decide (k=0)&&decide (r=0)&&decide (l=0)
 else if c.kind=9 then decide (v=0)&&decide (k=0)&&decide (r=0)
 else decide (v=1)&&decide (k=0)&&decide (r=0)&&decide (l=1)
def VS(c:zE):Bool:=decide (4<c.vars.length)||decide (4<c.lits.length)||decide (8<c.consts.length)||decide (20<c.rows.length)
def opE(l:zC):Int:=if kK l.op 1 4=false then 7 else if farB l.n=true then 3 else 0
def Yv(nv:Nat)(c:zE):Int:=
 if kK c.kind 1 10=false then 7
 else if VS c=true then 2
 else if fM c=false then 1
 else if(c.vars.any (rP nv)||c.lits.any λl=>rP nv l.var)=true then 5
 else if(c.consts.any farB||farB c.n||c.rows.any λr=>r.any farB)=true then 3
 else wK (λ_ l=>opE l) 0 c.lits
def WR(m:zG):Int:=
 if kK m.goal 0 2=false then 7 else if m.goal=0∧m.var≠0 then 1 else if m.goal≠0∧rP m.vars.length m.var=true then 5 else 0
def xL(m:zG):Int:=
 if m.vars.length=0 then 1
 else if 6<m.vars.length∨8<m.cons.length then 2
 else if UP m.vars≠0 then UP m.vars
 else if wK (λ_ c=>Yv m.vars.length c) 0 m.cons≠0 then wK (λ_ c=>Yv m.vars.length c) 0 m.cons
 else WR m
end Go.Proofs.YtogdmcebojiojaaGreatDoor
namespace Go.Proofs
open Go.Shelf
set_option linter.unusedVariables false
set_option linter.unusedSimpArgs false
def Tryz.lays137_ren:Go.Shelf.Ren:=⟨fun|137=>153|217=>209|266=>269|n=>n,fun|9=>9|5=>5|3=>3|n=>n,fun|n=>n⟩
theorem Tryz.lays137:Go.Proofs.Lays.n137 Tryz.prog Tryz.lays137_ren:= {
 mixed:=by kernel_rfl
 f137:=Tryz.func153.trans (congrArg some (by kernel_rfl))
 f217:=Tryz.func209.trans (congrArg some (by kernel_rfl))
 f266:=Tryz.func269.trans (congrArg some (by kernel_rfl))
 t3:=Tryz.underlying3
 a3:=Tryz.isAgg3
 z3:=Tryz.sizeOf3
 v3:=Tryz.zeroValue3
 t5:=Tryz.underlying5
 a5:=Tryz.isAgg5
 z5:=Tryz.sizeOf5
 v5:=Tryz.zeroValue5
 t9:=Tryz.underlying9
 a9:=Tryz.isAgg9
 z9:=Tryz.sizeOf9
 v9:=Tryz.zeroValue9}
open Go.RowKit in
theorem Tryz.strings_IndexByte(s:ByteArray)(c:Int)(w:World):
  Calls Tryz.prog 153 #[.string s,.int .u8 c] w λe w'=>e=.returned (.int .i64 (Lib.indexByte s.data.toList c.toNat.toUInt8))∧w'=w:=Any.strings_IndexByte Tryz.lays137 s c w
def Tryz.lays172_ren:Go.Shelf.Ren:=⟨fun|172=>210|244=>270|245=>271|247=>302|279=>303|280=>304|281=>305|282=>306|287=>314|316=>315|171=>57|205=>316|321=>318|322=>319|243=>107|246=>173|283=>227|284=>228|285=>229|286=>230|129=>268|317=>274|318=>275|319=>276|320=>277|337=>307|338=>308|n=>n,fun|9=>9|3=>3|75=>103|76=>104|4=>4|5=>5|167=>310|37=>97|0=>0|85=>311|2=>2|168=>313|53=>250|175=>321|46=>236|210=>325|127=>174|145=>333|143=>331|21=>21|171=>249|173=>253|212=>281|51=>277|20=>20|213=>282|232=>327|233=>328|80=>86|n=>n,fun|15=>2|16=>3|17=>0|18=>4|19=>5|n=>n⟩
theorem Tryz.lays172:Go.Proofs.Lays.n172 Tryz.prog Tryz.lays172_ren:= {
 mixed:=by kernel_rfl
 f129:=Tryz.func268.trans (congrArg some (by kernel_rfl))
 f171:=Tryz.func57.trans (congrArg some (by kernel_rfl))
 f172:=Tryz.func210.trans (congrArg some (by kernel_rfl))
 f205:=Tryz.func316.trans (congrArg some (by kernel_rfl))
 f243:=Tryz.func107.trans (congrArg some (by kernel_rfl))
 f244:=Tryz.func270.trans (congrArg some (by kernel_rfl))
 f245:=Tryz.func271.trans (congrArg some (by kernel_rfl))
 f246:=Tryz.func173.trans (congrArg some (by kernel_rfl))
 f247:=Tryz.func302.trans (congrArg some (by kernel_rfl))
 f279:=Tryz.func303.trans (congrArg some (by kernel_rfl))
 f280:=Tryz.func304.trans (congrArg some (by kernel_rfl))
 f281:=Tryz.func305.trans (congrArg some (by kernel_rfl))
 f282:=Tryz.func306.trans (congrArg some (by kernel_rfl))
 f283:=Tryz.func227.trans (congrArg some (by kernel_rfl))
 f284:=Tryz.func228.trans (congrArg some (by kernel_rfl))
 f285:=Tryz.func229.trans (congrArg some (by kernel_rfl))
 f286:=Tryz.func230.trans (congrArg some (by kernel_rfl))
 f287:=Tryz.func314.trans (congrArg some (by kernel_rfl))
 f316:=Tryz.func315.trans (congrArg some (by kernel_rfl))
 f317:=Tryz.func274.trans (congrArg some (by kernel_rfl))
 f318:=Tryz.func275.trans (congrArg some (by kernel_rfl))
 f319:=Tryz.func276.trans (congrArg some (by kernel_rfl))
 f320:=Tryz.func277.trans (congrArg some (by kernel_rfl))
 f321:=Tryz.func318.trans (congrArg some (by kernel_rfl))
 f322:=Tryz.func319.trans (congrArg some (by kernel_rfl))
 f337:=Tryz.func307.trans (congrArg some (by kernel_rfl))
 f338:=Tryz.func308.trans (congrArg some (by kernel_rfl))
 t0:=Tryz.underlying0
 a0:=Tryz.isAgg0
 z0:=Tryz.sizeOf0
 v0:=Tryz.zeroValue0
 t2:=Tryz.underlying2
 a2:=Tryz.isAgg2
 z2:=Tryz.sizeOf2
 v2:=Tryz.zeroValue2
 t3:=Tryz.underlying3
 a3:=Tryz.isAgg3
 z3:=Tryz.sizeOf3
 v3:=Tryz.zeroValue3
 t4:=Tryz.underlying4
 a4:=Tryz.isAgg4
 z4:=Tryz.sizeOf4
 v4:=Tryz.zeroValue4
 t5:=Tryz.underlying5
 a5:=Tryz.isAgg5
 z5:=Tryz.sizeOf5
 v5:=Tryz.zeroValue5
 t9:=Tryz.underlying9
 a9:=Tryz.isAgg9
 z9:=Tryz.sizeOf9
 v9:=Tryz.zeroValue9
 t20:=Tryz.underlying20
 a20:=Tryz.isAgg20
 z20:=Tryz.sizeOf20
 v20:=Tryz.zeroValue20
 t21:=Tryz.underlying21
 a21:=Tryz.isAgg21
 z21:=Tryz.sizeOf21
 v21:=Tryz.zeroValue21
 t37:=Tryz.underlying97
 a37:=Tryz.isAgg97
 z37:=Tryz.sizeOf97
 v37:=Tryz.zeroValue97
 t46:=Tryz.underlying236
 a46:=Tryz.isAgg236
 z46:=Tryz.sizeOf236
 v46:=Tryz.zeroValue236
 t51:=Tryz.underlying277
 a51:=Tryz.isAgg277
 z51:=Tryz.sizeOf277
 v51:=Tryz.zeroValue277
 t53:=Tryz.underlying250
 a53:=Tryz.isAgg250
 z53:=Tryz.sizeOf250
 v53:=Tryz.zeroValue250
 t75:=Tryz.underlying103
 a75:=Tryz.isAgg103
 z75:=Tryz.sizeOf103
 v75:=Tryz.zeroValue103
 t76:=Tryz.underlying104
 a76:=Tryz.isAgg104
 z76:=Tryz.sizeOf104
 v76:=Tryz.zeroValue104
 t85:=Tryz.underlying311
 a85:=Tryz.isAgg311
 z85:=Tryz.sizeOf311
 v85:=Tryz.zeroValue311
 t127:=Tryz.underlying174
 a127:=Tryz.isAgg174
 z127:=Tryz.sizeOf174
 v127:=Tryz.zeroValue174
 t143:=Tryz.underlying331
 a143:=Tryz.isAgg331
 z143:=Tryz.sizeOf331
 v143:=Tryz.zeroValue331
 t145:=Tryz.underlying333
 a145:=Tryz.isAgg333
 z145:=Tryz.sizeOf333
 v145:=Tryz.zeroValue333
 t167:=Tryz.underlying310
 a167:=Tryz.isAgg310
 z167:=Tryz.sizeOf310
 v167:=Tryz.zeroValue310
 t168:=Tryz.underlying313
 a168:=Tryz.isAgg313
 z168:=Tryz.sizeOf313
 v168:=Tryz.zeroValue313
 t171:=Tryz.underlying249
 a171:=Tryz.isAgg249
 z171:=Tryz.sizeOf249
 v171:=Tryz.zeroValue249
 t173:=Tryz.underlying253
 a173:=Tryz.isAgg253
 z173:=Tryz.sizeOf253
 v173:=Tryz.zeroValue253
 t175:=Tryz.underlying321
 a175:=Tryz.isAgg321
 z175:=Tryz.sizeOf321
 v175:=Tryz.zeroValue321
 t210:=Tryz.underlying325
 a210:=Tryz.isAgg325
 z210:=Tryz.sizeOf325
 v210:=Tryz.zeroValue325
 t212:=Tryz.underlying281
 a212:=Tryz.isAgg281
 z212:=Tryz.sizeOf281
 v212:=Tryz.zeroValue281
 t213:=Tryz.underlying282
 a213:=Tryz.isAgg282
 z213:=Tryz.sizeOf282
 t232:=Tryz.underlying327
 a232:=Tryz.isAgg327
 z232:=Tryz.sizeOf327
 v232:=Tryz.zeroValue327
 t233:=Tryz.underlying328
 a233:=Tryz.isAgg328
 z233:=Tryz.sizeOf328
 v233:=Tryz.zeroValue328
 g15:=by kernel_rfl
 g16:=by kernel_rfl
 g17:=by kernel_rfl
 g18:=by kernel_rfl
 g19:=by kernel_rfl}
open Go.RowKit in
theorem Tryz.strconv_Atoi(s:ByteArray)(n:Int)(hl:s.size≤18)(h:Lib.atoi s.data.toList=some n)(w:World):
  Calls Tryz.prog 210 #[.string s] w λe w'=>e=.returned (.tuple #[.int .i64 n,.nilIface])∧∃t,w'=Lib.bytesWorld w 5 t:=Any.strconv_Atoi Tryz.lays172 s n hl h w
def Tryz.laysM171_ren:Go.Shelf.Ren:=⟨fun|171=>57|243=>107|246=>173|283=>227|284=>228|285=>229|286=>230|129=>268|317=>274|318=>275|319=>276|320=>277|337=>307|338=>308|n=>n,fun|3=>3|9=>9|2=>2|4=>4|171=>249|0=>0|53=>250|37=>97|5=>5|173=>253|212=>281|51=>277|20=>20|213=>282|46=>236|232=>327|233=>328|n=>n,fun|17=>0|18=>4|19=>5|n=>n⟩
theorem Tryz.laysM171:Go.Proofs.LaysM.n171 Tryz.prog Tryz.laysM171_ren:= {
 mixed:=by kernel_rfl
 f129:=Tryz.func268.trans (congrArg some (by kernel_rfl))
 f171:=Tryz.func57.trans (congrArg some (by kernel_rfl))
 f243:=Tryz.func107.trans (congrArg some (by kernel_rfl))
 f246:=Tryz.func173.trans (congrArg some (by kernel_rfl))
 f283:=Tryz.func227.trans (congrArg some (by kernel_rfl))
 f284:=Tryz.func228.trans (congrArg some (by kernel_rfl))
 f285:=Tryz.func229.trans (congrArg some (by kernel_rfl))
 f286:=Tryz.func230.trans (congrArg some (by kernel_rfl))
 f317:=Tryz.func274.trans (congrArg some (by kernel_rfl))
 f318:=Tryz.func275.trans (congrArg some (by kernel_rfl))
 f319:=Tryz.func276.trans (congrArg some (by kernel_rfl))
 f320:=Tryz.func277.trans (congrArg some (by kernel_rfl))
 f337:=Tryz.func307.trans (congrArg some (by kernel_rfl))
 f338:=Tryz.func308.trans (congrArg some (by kernel_rfl))
 t0:=Tryz.underlying0
 a0:=Tryz.isAgg0
 z0:=Tryz.sizeOf0
 v0:=Tryz.zeroValue0
 t2:=Tryz.underlying2
 a2:=Tryz.isAgg2
 z2:=Tryz.sizeOf2
 v2:=Tryz.zeroValue2
 t3:=Tryz.underlying3
 a3:=Tryz.isAgg3
 z3:=Tryz.sizeOf3
 v3:=Tryz.zeroValue3
 t4:=Tryz.underlying4
 a4:=Tryz.isAgg4
 z4:=Tryz.sizeOf4
 v4:=Tryz.zeroValue4
 t5:=Tryz.underlying5
 a5:=Tryz.isAgg5
 z5:=Tryz.sizeOf5
 v5:=Tryz.zeroValue5
 t9:=Tryz.underlying9
 a9:=Tryz.isAgg9
 z9:=Tryz.sizeOf9
 v9:=Tryz.zeroValue9
 t20:=Tryz.underlying20
 a20:=Tryz.isAgg20
 z20:=Tryz.sizeOf20
 v20:=Tryz.zeroValue20
 t37:=Tryz.underlying97
 a37:=Tryz.isAgg97
 z37:=Tryz.sizeOf97
 v37:=Tryz.zeroValue97
 t46:=Tryz.underlying236
 a46:=Tryz.isAgg236
 z46:=Tryz.sizeOf236
 v46:=Tryz.zeroValue236
 t51:=Tryz.underlying277
 a51:=Tryz.isAgg277
 z51:=Tryz.sizeOf277
 v51:=Tryz.zeroValue277
 t53:=Tryz.underlying250
 a53:=Tryz.isAgg250
 z53:=Tryz.sizeOf250
 v53:=Tryz.zeroValue250
 t171:=Tryz.underlying249
 a171:=Tryz.isAgg249
 z171:=Tryz.sizeOf249
 v171:=Tryz.zeroValue249
 t173:=Tryz.underlying253
 a173:=Tryz.isAgg253
 z173:=Tryz.sizeOf253
 v173:=Tryz.zeroValue253
 t212:=Tryz.underlying281
 a212:=Tryz.isAgg281
 z212:=Tryz.sizeOf281
 v212:=Tryz.zeroValue281
 t213:=Tryz.underlying282
 a213:=Tryz.isAgg282
 z213:=Tryz.sizeOf282
 t232:=Tryz.underlying327
 a232:=Tryz.isAgg327
 z232:=Tryz.sizeOf327
 v232:=Tryz.zeroValue327
 t233:=Tryz.underlying328
 a233:=Tryz.isAgg328
 z233:=Tryz.sizeOf328
 v233:=Tryz.zeroValue328
 g17:=by kernel_rfl
 g18:=by kernel_rfl
 g19:=by kernel_rfl
 i0:=by kernel_rfl
 i2:=by kernel_rfl
 i3:=by kernel_rfl
 i4:=by kernel_rfl
 i5:=by kernel_rfl
 i9:=by kernel_rfl
 i20:=by kernel_rfl
 i37:=by kernel_rfl
 i46:=by kernel_rfl
 i51:=by kernel_rfl
 i53:=by kernel_rfl
 i171:=by kernel_rfl
 i173:=by kernel_rfl
 i212:=by kernel_rfl
 i232:=by kernel_rfl
 i233:=by kernel_rfl
 m17:=by kernel_rfl
 m18:=by kernel_rfl
 m19:=by kernel_rfl}
open Go.RowKit Go.Sort Go.Lib in
theorem Tryz.strconv_Itoa(n:Int)(h0: -9223372036854775808≤n)(h1:n≤9223372036854775807)(w:World)(htab:Lib.TabIs Tryz.prog w "internal/strconv.uint64pow10" .u64 Lib.pow10Tab):
  Calls Tryz.prog 57 #[.int .i64 n] w λe w'=>e=.returned (.string ⟨(Lib.itoa n).toArray⟩)∧∃k os,w'=grow (w.drewN k) os:=Any.strconv_Itoa Tryz.laysM171 n h0 h1 w htab
def Tryz.lays189_ren:Go.Shelf.Ren:=⟨fun|189=>142|125=>206|257=>205|128=>267|129=>268|294=>258|295=>259|296=>260|297=>261|298=>262|299=>263|216=>264|300=>265|301=>266|328=>296|329=>297|330=>298|331=>299|332=>300|215=>301|343=>313|n=>n,fun|28=>40|3=>3|46=>236|0=>0|51=>277|53=>250|4=>4|183=>271|182=>270|131=>203|5=>5|9=>9|218=>304|222=>308|228=>319|229=>161|n=>n,fun|n=>n⟩
theorem Tryz.lays189:Go.Proofs.Lays.n189 Tryz.prog Tryz.lays189_ren:= {
 mixed:=by kernel_rfl
 f125:=Tryz.func206.trans (congrArg some (by kernel_rfl))
 f128:=Tryz.func267.trans (congrArg some (by kernel_rfl))
 f129:=Tryz.func268.trans (congrArg some (by kernel_rfl))
 f189:=Tryz.func142.trans (congrArg some (by kernel_rfl))
 f215:=Tryz.func301.trans (congrArg some (by kernel_rfl))
 f216:=Tryz.func264.trans (congrArg some (by kernel_rfl))
 f257:=Tryz.func205.trans (congrArg some (by kernel_rfl))
 f294:=Tryz.func258.trans (congrArg some (by kernel_rfl))
 f295:=Tryz.func259.trans (congrArg some (by kernel_rfl))
 f296:=Tryz.func260.trans (congrArg some (by kernel_rfl))
 f297:=Tryz.func261.trans (congrArg some (by kernel_rfl))
 f298:=Tryz.func262.trans (congrArg some (by kernel_rfl))
 f299:=Tryz.func263.trans (congrArg some (by kernel_rfl))
 f300:=Tryz.func265.trans (congrArg some (by kernel_rfl))
 f301:=Tryz.func266.trans (congrArg some (by kernel_rfl))
 f328:=Tryz.func296.trans (congrArg some (by kernel_rfl))
 f329:=Tryz.func297.trans (congrArg some (by kernel_rfl))
 f330:=Tryz.func298.trans (congrArg some (by kernel_rfl))
 f331:=Tryz.func299.trans (congrArg some (by kernel_rfl))
 f332:=Tryz.func300.trans (congrArg some (by kernel_rfl))
 f343:=Tryz.func313.trans (congrArg some (by kernel_rfl))
 t0:=Tryz.underlying0
 a0:=Tryz.isAgg0
 z0:=Tryz.sizeOf0
 v0:=Tryz.zeroValue0
 t3:=Tryz.underlying3
 a3:=Tryz.isAgg3
 z3:=Tryz.sizeOf3
 v3:=Tryz.zeroValue3
 t4:=Tryz.underlying4
 a4:=Tryz.isAgg4
 z4:=Tryz.sizeOf4
 v4:=Tryz.zeroValue4
 t5:=Tryz.underlying5
 a5:=Tryz.isAgg5
 z5:=Tryz.sizeOf5
 v5:=Tryz.zeroValue5
 t9:=Tryz.underlying9
 a9:=Tryz.isAgg9
 z9:=Tryz.sizeOf9
 v9:=Tryz.zeroValue9
 t28:=Tryz.underlying40
 a28:=Tryz.isAgg40
 z28:=Tryz.sizeOf40
 v28:=Tryz.zeroValue40
 t46:=Tryz.underlying236
 a46:=Tryz.isAgg236
 z46:=Tryz.sizeOf236
 v46:=Tryz.zeroValue236
 t51:=Tryz.underlying277
 a51:=Tryz.isAgg277
 z51:=Tryz.sizeOf277
 v51:=Tryz.zeroValue277
 t53:=Tryz.underlying250
 a53:=Tryz.isAgg250
 z53:=Tryz.sizeOf250
 v53:=Tryz.zeroValue250
 t131:=Tryz.underlying203
 a131:=Tryz.isAgg203
 z131:=Tryz.sizeOf203
 v131:=Tryz.zeroValue203
 t182:=Tryz.underlying270
 a182:=Tryz.isAgg270
 z182:=Tryz.sizeOf270
 v182:=Tryz.zeroValue270
 t183:=Tryz.underlying271
 a183:=Tryz.isAgg271
 z183:=Tryz.sizeOf271
 v183:=Tryz.zeroValue271
 t218:=Tryz.underlying304
 a218:=Tryz.isAgg304
 z218:=Tryz.sizeOf304
 v218:=Tryz.zeroValue304
 t222:=Tryz.underlying308
 a222:=Tryz.isAgg308
 z222:=Tryz.sizeOf308
 v222:=Tryz.zeroValue308
 t228:=Tryz.underlying319
 a228:=Tryz.isAgg319
 z228:=Tryz.sizeOf319
 v228:=Tryz.zeroValue319
 t229:=Tryz.underlying161
 a229:=Tryz.isAgg161
 z229:=Tryz.sizeOf161
 v229:=Tryz.zeroValue161}
open Go.Sort Go.RowKit in
theorem Tryz.slices_Sort_int(blk off cap:Nat)(zs:List Int)(w:World)(hH:Holds (Value.int .i64) w blk off zs.toArray)(hblk:blk<w.heap.size)(hsz:zs.length<4611686018427387904):
  Calls Tryz.prog 142 #[.slice (some ⟨blk,off,none⟩) zs.length cap] w λe w'=>
   e=.returned (.tuple #[])∧∃n os,w'=grow (putRow (Value.int .i64) (Sort.ahead w n) blk off (zs.mergeSort λx y=>decide (x≤y)).toArray) os:=Any.slices_Sort_int Tryz.lays189 blk off cap zs w hH hblk hsz
def Tryz.lays99_ren:Go.Shelf.Ren:=⟨fun|99=>152|206=>208|n=>n,fun|9=>9|4=>4|3=>3|n=>n,fun|n=>n⟩
theorem Tryz.lays99:Go.Proofs.Lays.n99 Tryz.prog Tryz.lays99_ren:= {
 mixed:=by kernel_rfl
 f99:=Tryz.func152.trans (congrArg some (by kernel_rfl))
 f206:=Tryz.func208.trans (congrArg some (by kernel_rfl))
 t3:=Tryz.underlying3
 a3:=Tryz.isAgg3
 z3:=Tryz.sizeOf3
 v3:=Tryz.zeroValue3
 t4:=Tryz.underlying4
 a4:=Tryz.isAgg4
 z4:=Tryz.sizeOf4
 v4:=Tryz.zeroValue4
 t9:=Tryz.underlying9
 a9:=Tryz.isAgg9
 z9:=Tryz.sizeOf9
 v9:=Tryz.zeroValue9}
open Go.RowKit Go.Lib in
theorem Tryz.strings_HasPrefix(s p:ByteArray)(w:World):
  Calls Tryz.prog 152 #[.string s,.string p] w λe w'=>e=.returned (.bool (Lib.hasPrefix s.data.toList p.data.toList))∧w'=w:=Any.strings_HasPrefix Tryz.lays99 s p w
def Tryz.lays110_ren:Go.Shelf.Ren:=⟨fun|110=>219|109=>273|n=>n,fun|31=>92|9=>9|4=>4|3=>3|0=>0|n=>n,fun|n=>n⟩
theorem Tryz.lays110:Go.Proofs.Lays.n110 Tryz.prog Tryz.lays110_ren:= {
 mixed:=by kernel_rfl
 f109:=Tryz.func273.trans (congrArg some (by kernel_rfl))
 f110:=Tryz.func219.trans (congrArg some (by kernel_rfl))
 t0:=Tryz.underlying0
 a0:=Tryz.isAgg0
 z0:=Tryz.sizeOf0
 v0:=Tryz.zeroValue0
 t3:=Tryz.underlying3
 a3:=Tryz.isAgg3
 z3:=Tryz.sizeOf3
 v3:=Tryz.zeroValue3
 t4:=Tryz.underlying4
 a4:=Tryz.isAgg4
 z4:=Tryz.sizeOf4
 v4:=Tryz.zeroValue4
 t9:=Tryz.underlying9
 a9:=Tryz.isAgg9
 z9:=Tryz.sizeOf9
 v9:=Tryz.zeroValue9
 t31:=Tryz.underlying92
 a31:=Tryz.isAgg92
 z31:=Tryz.sizeOf92
 v31:=Tryz.zeroValue92}
open Go.Lib in
theorem Tryz.slices_Contains_string(b off n c:Nat)(zs:List ByteArray)(x:ByteArray)(w:World)(hz:n≤zs.length)(hbig:n≤9223372036854775807)(hc:∀j,j<zs.length→w.cell? ⟨b,off+j,none⟩=some (.string (zs.getD j ByteArray.empty))):
  Calls Tryz.prog 219 #[.slice (some ⟨b,off,none⟩) n c,.string x] w λe w'=>e=.returned (.bool (Lib.containsS (zs.take n) x))∧w'=w:=Any.slices_Contains_string Tryz.lays110 b off n c zs x w hz hbig hc
def Tryz.laysNm220_ren:Go.Shelf.Ren:=⟨fun|20=>143|n=>n,fun|22=>40|3=>3|4=>4|0=>0|n=>n,fun|n=>n⟩
theorem Tryz.laysNm220:Go.Proofs.Lays2.n20 Tryz.prog Tryz.laysNm220_ren:= {
 mixed:=by kernel_rfl
 f20:=Tryz.func143.trans (congrArg some (by kernel_rfl))
 t0:=Tryz.underlying0
 a0:=Tryz.isAgg0
 z0:=Tryz.sizeOf0
 v0:=Tryz.zeroValue0
 t3:=Tryz.underlying3
 a3:=Tryz.isAgg3
 z3:=Tryz.sizeOf3
 v3:=Tryz.zeroValue3
 t4:=Tryz.underlying4
 a4:=Tryz.isAgg4
 z4:=Tryz.sizeOf4
 v4:=Tryz.zeroValue4
 t22:=Tryz.underlying40
 a22:=Tryz.isAgg40
 z22:=Tryz.sizeOf40
 v22:=Tryz.zeroValue40
 i3:=by kernel_rfl}
open Go.RowKit Go.Lib Go.Sort in
theorem Tryz.slices_Compact_int(blk off cap:Nat)(zs:List Int)(w:World)(hH:Holds (Value.int .i64) w blk off zs.toArray)(hsz:zs.length≤9223372036854775807)(hcap:zs.length≤cap):
  Calls Tryz.prog 143 #[.slice (some ⟨blk,off,none⟩) zs.length cap] w λe w'=>e=.returned (.slice (some ⟨blk,off,none⟩) (Lib.compact zs).length cap)∧∃q,w'=putRow (Value.int .i64) (Sort.ahead w q) blk off (Lib.compact zs++List.replicate (zs.length-(Lib.compact zs).length) 0).toArray:=Any.slices_Compact_int Tryz.laysNm220 blk off cap zs w hH hsz hcap
open Go.RowKit Go.Lib Go.Sort in
theorem Tryz.slices_Compact_int_empty(a:Option Addr)(cap:Nat)(w:World):
  Calls Tryz.prog 143 #[.slice a 0 cap] w λe w'=>e=.returned (.slice a 0 cap)∧w'=w:=Any.slices_Compact_int_empty Tryz.laysNm220 a cap w
open Go.RowKit Go.Sort in
theorem Tryz.slices_Sort_int_none(p:Option Addr)(cap:Nat)(w:World):
  Calls Tryz.prog 142 #[.slice p 0 cap] w λe w'=>e=.returned (.tuple #[])∧w'=w:=Any.slices_Sort_int_none Tryz.lays189 p cap w
end Go.Proofs
namespace Go.Proofs.YtogdmcebojiojaaGreatDoor
open Go.RowKit
set_option linter.unusedVariables false
set_option linter.unusedSimpArgs false
theorem aD(n:Nat)(hn:n<256)(w:World):Calls Tryz.prog 145 #[.int .u8 n] w λe w'=>e=.returned (.bool (WQ n))∧w=w':=by
 go_enter Tryz.func145,Tryz.ntmps145
 go_wp2
 all_goals go_ret
 all_goals exact⟨fH (by rw[Bool.eq_iff_iff];simp[WQ];try omega),rfl⟩
theorem Wy(n:Nat)(hn:n<256)(w:World):Calls Tryz.prog 148 #[.int .u8 n] w λe w'=>e=.returned (.bool (isDN n))∧w=w':=by
 go_enter Tryz.func148,Tryz.ntmps148
 go_wp2
 all_goals go_ret
 all_goals exact⟨fH (by rw[Bool.eq_iff_iff];simp[isDN];try omega),rfl⟩
theorem JT(n a b:Int)(w:World):Calls Tryz.prog 61 #[.int .i64 n,.int .i64 a,.int .i64 b] w λe w'=>e=.returned (.bool (decide (a≤n)&&decide (n≤b)))∧w=w':=by
 go_enter Tryz.func61,Tryz.ntmps61
 go_wp2
 all_goals go_ret
 all_goals exact⟨fH (by rw[Bool.eq_iff_iff];simp;try omega),rfl⟩
theorem mZ(n:Nat)(hn:n<256)(w:World):Calls Tryz.prog 171 #[.int .u8 n] w λe w'=>e=.returned (.bool (WQ n))∧w=w':=by
 go_enter Tryz.func171,Tryz.ntmps171
 go_wp2_with (go_at_call 61;refine(JT _ _ _ _).mono ?_;rintro e w' ⟨rfl,rfl⟩)
 go_ret
 exact⟨fH (by rw[Bool.eq_iff_iff];simp[WQ];try omega),rfl⟩
theorem jL(n:Nat)(hn:n<256)(w:World):Calls Tryz.prog 101 #[.int .u8 n] w λe w'=>e=.returned (.bool (isDN n))∧w=w':=by
 go_enter Tryz.func101,Tryz.ntmps101
 go_wp2_with (go_at_call 61;refine(JT _ _ _ _).mono ?_;rintro e w' ⟨rfl,rfl⟩)
 go_ret
 exact⟨fH (by rw[Bool.eq_iff_iff];simp[isDN];try omega),rfl⟩
theorem zhk(n:Nat)(hn:n<256)(w:World):Calls Tryz.prog 147 #[.int .u8 n] w λe w'=>e=.returned (.bool (WQ n||isDN n))∧w=w':=by
 cases hl:WQ n with
 |true=>
  go_enter Tryz.func147,Tryz.ntmps147
  go_wp2_with (go_at_call 145;refine(aD _ hn _).mono ?_;rintro e w' ⟨rfl,rfl⟩)
  go_ret
  exact⟨by simp,rfl⟩
 |false=>
  go_enter Tryz.func147,Tryz.ntmps147
  go_wp2_with (first|(go_at_call 145;refine(aD _ hn _).mono ?_;rintro e w' ⟨rfl,rfl⟩)|(go_at_call 148;refine(Wy _ hn _).mono ?_;rintro e w' ⟨rfl,rfl⟩))
  go_ret
  exact⟨by simp,rfl⟩
theorem bN{c:UInt8}{k:Nat}(hk:k<256)(h:c=UInt8.ofNat k):((c.toNat:Int)==(k:Int))=true:=by
 subst h;simp;omega
theorem o7{c:UInt8}{k:Nat}(hk:k<256)(h:c≠UInt8.ofNat k):((c.toNat:Int)==(k:Int))=false:=by
 rw[beq_eq_false_iff_ne];intro e;exact h (by rw[←UInt8.toNat_inj];simp;omega)
theorem RV{c:UInt8}{r:List UInt8}{l:List UInt8}{i n:Nat}(hd:l.drop i=c::l.drop (i+1))(h37:c≠37)(hb:jK c=true)(h:i+tA (l.drop i) false=n):i+1+tA (l.drop (i+1)) false=n:=by
 rw[hd,tA,if_neg (by simpa using h37),if_pos hb]at h;omega
theorem zcG{c:UInt8}{l:List UInt8}{i n:Nat}(hd:l.drop i=c::l.drop (i+1))(h37:c≠37)(hb:jK c=false)(h:i+tA (l.drop i) false=n):i=n:=by
 rw[hd,tA,if_neg (by simpa using h37),if_neg (by simp[hb])]at h;omega
theorem zcH{l:List UInt8}{i n:Nat}(hd:l.drop i=37::l.drop (i+1))(h:i+tA (l.drop i) false=n):i+tA (l.drop i) true=n:=by
 rw[hd,tA,if_pos (by simp)]at h
 rw[hd,tA,if_neg (by decide)];exact h
theorem zhl{c:UInt8}{l:List UInt8}{i n:Nat}(hd:l.drop i=c::l.drop (i+1))(h10:c≠10)(h:i+tA (l.drop i) true=n):i+1+tA (l.drop (i+1)) true=n:=by
 rw[hd,tA,if_neg (by simpa using h10)]at h;omega
theorem zfp{l:List UInt8}{i n:Nat}(hd:l.drop i=10::l.drop (i+1))(h:i+tA (l.drop i) true=n):i+tA (l.drop i) false=n:=by
 rw[hd,tA,if_pos (by simp)]at h
 rw[hd,tA,if_neg (by decide),if_pos (by decide)];exact h
theorem Cg{l:List UInt8}{i n:Nat}(hl:l.length≤i)(note:Bool)(h:i+tA (l.drop i) note=n):i=n∧i+tA (l.drop i) false=n:=by
 rw[List.drop_of_length_le hl]at h⊢
 simp[tA]at h⊢;exact h
set_option maxHeartbeats 1000000 in
theorem zav(g:Nat)(s:ByteArray)(i0:Nat)(w:World)(hs:s.size≤4000)(h0:i0≤s.size)(hb:wZ w g 152 #[.string s,.int .i64 i0]):
  Calls Tryz.prog 91 #[.pointer (some ⟨g,0,none⟩)] w λe w'=>e=.returned (.tuple #[])∧
   wZ w' g 152 #[.string s,.int .i64 ↑(i0+tA (s.data.toList.drop i0) false)]∧w.grownBy w' (some g):=by
 go_enter Tryz.func91,Tryz.ntmps91
 go_wp2
 go_loopg [] (s.size) (λk wr=>∃i:Nat,i≤s.size∧s.size-i≤k∧Hid (wZ wr g 152 #[.string s,.int .i64 i])∧Hid (i+tA (s.data.toList.drop i) false=i0+tA (s.data.toList.drop i0) false)∧w.grownBy wr (some g))
 case atStart=>exact⟨i0,h0,by omega,hb,rfl,World.grownBy.refl _ _⟩
 case round=>
  obtain⟨i,hi,hk,hB,hE,hG⟩:=hrel;obtain⟨wo,rfl⟩:∃wo:World,wo=wr:=⟨_,rfl⟩;have c0:wo.cell? ⟨g,0,none⟩=some (.string s):=hB.out.cell 0;have c1:wo.cell? ⟨g,1,none⟩=some (.int .i64 i):=hB.out.cell 1;have f1:wo.frozen? ⟨g,1,none⟩=false:=hB.out.frozen 1;clear h0 hb
  by_cases hlt:i<s.size
  ·have hlt':(i:Int)<(s.size:Int):=by omega
   have hd:=Lib.hid (mU s i hlt)
   by_cases e37:s[i]=37
   ·have y37:=bN (k:=37) (by omega) e37
    have n32:=o7 (c:=s[i]) (k:=32) (by omega) (by rw[e37];decide)
    have n9:=o7 (c:=s[i]) (k:=9) (by omega) (by rw[e37];decide)
    have n10:=o7 (c:=s[i]) (k:=10) (by omega) (by rw[e37];decide)
    have E37:=Lib.hid e37;clear e37
    go_wp2
    go_quiet (fail)
    go_wp2
    go_quiet (fail)
    go_wp2
    go_loopg [] (s.size) (λk wq=>∃j:Nat,i≤j∧j≤s.size∧s.size-j≤k∧Hid (wZ wq g 152 #[.string s,.int .i64 j])∧Hid (j+tA (s.data.toList.drop j) true=i0+tA (s.data.toList.drop i0) false)∧w.grownBy wq (some g))
    case atStart=>exact⟨i,by omega,hi,by omega,hB.out.drewN _,zcH (by rw[hd.out,E37.out]) hE.out,vU hG _⟩
    case round=>
     obtain⟨j,hij,hj,hk2,hB2,hE2,hG2⟩:=hrel;have d0:wr.cell? ⟨g,0,none⟩=some (.string s):=hB2.out.cell 0;have d1:wr.cell? ⟨g,1,none⟩=some (.int .i64 j):=hB2.out.cell 1;have d2:wr.frozen? ⟨g,1,none⟩=false:=hB2.out.frozen 1;clear hB hE hG c0 c1 f1
     by_cases hjl:j<s.size
     ·have hjl':(j:Int)<(s.size:Int):=by omega
      have hd2:=Lib.hid (mU s j hjl)
      by_cases e10:s[j]=10
      ·have y10':((s[j].toNat:Int) !=10)=false:=by rw[e10];decide
       have hne:i≠j:=by
        rintro rfl;have:=E37.out;rw[e10]at this
        exact absurd this (by decide)
       have E10:=Lib.hid e10;clear e10 y37 n32 n9 n10
       go_wp2
       go_quiet (fail)
       go_wp2
       go_roundg (s.size-j)
       case measure=>omega
       case rel=>exact⟨j,by omega,by omega,hB2.out.drewN _,zfp (by rw[hd2.out,E10.out]) hE2.out,vU hG2 _⟩
      ·have y10':((s[j].toNat:Int) !=10)=true:=by
        rw[bne_iff_ne];intro e;exact e10 (by rw[←UInt8.toNat_inj];simp;omega)
       have E10:=Lib.hid e10;clear e10 y37 n32 n9 n10
       go_wp2
       go_quiet (fail)
       go_wp2
       go_roundg (s.size-(j+1))
       case measure=>omega
       case rel=>exact⟨j+1,by omega,by omega,by omega,(hB2.out.drewN _).set_ 1 _,zhl hd2.out E10.out hE2.out,tX (vU hG2 _) (.inl rfl) _⟩
     ·have hjl':decide ((j:Int)<(s.size:Int))=false:=by simp;omega
      clear y37 n32 n9 n10
      go_wp2
      go_quiet (fail)
      go_wp2
      go_roundg (s.size-j)
      case measure=>omega
      case rel=>exact⟨j,by omega,by omega,hB2.out.drewN _,(Cg (by simpa using hjl) true hE2.out).2,vU hG2 _⟩
   ·have n37:=o7 (k:=37) (by omega) e37
    have N37:=Lib.hid e37;clear e37
    by_cases e32:s[i]=32
    ·have y32:=bN (k:=32) (by omega) e32
     have hbl:jK s[i]=true:=by simp[jK,e32]
     have BL:=Lib.hid hbl;clear e32 n37 hbl
     go_wp2
     go_quiet (fail)
     go_wp2
     go_quiet (fail)
     go_wp2
     go_roundg (s.size-(i+1))
     case measure=>omega
     case rel=>exact⟨i+1,by omega,by omega,(hB.out.drewN _).set_ 1 _,RV (r:=[]) hd.out N37.out BL.out hE.out,tX (vU hG _) (.inl rfl) _⟩
    ·have n32:=o7 (k:=32) (by omega) e32
     by_cases e9:s[i]=9
     ·have y9:=bN (k:=9) (by omega) e9
      have hbl:jK s[i]=true:=by simp[jK,e9]
      have BL:=Lib.hid hbl;clear e9 e32 n37 hbl
      go_wp2
      go_quiet (fail)
      go_wp2
      go_quiet (fail)
      go_wp2
      go_roundg (s.size-(i+1))
      case measure=>omega
      case rel=>exact⟨i+1,by omega,by omega,(hB.out.drewN _).set_ 1 _,RV (r:=[]) hd.out N37.out BL.out hE.out,tX (vU hG _) (.inl rfl) _⟩
     ·have n9:=o7 (k:=9) (by omega) e9
      by_cases e10:s[i]=10
      ·have y10:=bN (k:=10) (by omega) e10
       have hbl:jK s[i]=true:=by simp[jK,e10]
       have BL:=Lib.hid hbl;clear e10 e9 e32 n37 hbl
       go_wp2
       go_quiet (fail)
       go_wp2
       go_quiet (fail)
       go_wp2
       go_roundg (s.size-(i+1))
       case measure=>omega
       case rel=>exact⟨i+1,by omega,by omega,(hB.out.drewN _).set_ 1 _,RV (r:=[]) hd.out N37.out BL.out hE.out,tX (vU hG _) (.inl rfl) _⟩
      ·have n10:=o7 (k:=10) (by omega) e10
       have hbl:jK s[i]=false:=by simp[jK,e10,e9,e32]
       have BL:=Lib.hid hbl;clear e10 e9 e32 hbl
       go_wp2
       go_quiet (fail)
       go_wp2
       go_quiet (fail)
       go_wp2
       have hfin:=zcG hd.out N37.out BL.out hE.out;rw[←hfin];refine bodyPost_ret (results_none rfl _ _ _) rfl ?_;exact⟨rfl,hB.out.drewN _,vU hG _⟩
  ·have hlt':¬(i:Int)<(s.size:Int):=by omega
   go_wp2
   go_quiet (fail)
   go_wp2
   have hfin:=(Cg (by simpa using hlt) false hE.out).1
   rw[←hfin]
   go_end0
   exact⟨rfl,hB.out.drewN _,vU hG _⟩
end Go.Proofs.YtogdmcebojiojaaGreatDoor
namespace Go.Proofs.YtogdmcebojiojaaGreatDoor
open Go.RowKit
set_option linter.unusedVariables false
set_option linter.unusedSimpArgs false
def zcI{α:Type}(p:α→Bool)(xs:List α):Int:=match xs.findIdx? p with|some i=>i|none=> -1
theorem zhm{α:Type}{p:α→Bool}{xs:List α}{k:Nat}(hk:k<xs.length)(h:∀j (hj:j<k),p (xs[j]'(by omega))=false)(hp:p xs[k]=true):zcI p xs=k:=by
 unfold zcI
 have:xs.findIdx? p=some k:=by
  rw[List.findIdx?_eq_some_iff_getElem];exact⟨hk,hp,λj hj=>by simp[h j hj]⟩
 rw[this]
theorem zfq{α:Type}{p:α→Bool}{xs:List α}(h:∀j (hj:j<xs.length),p xs[j]=false):zcI p xs= -1:=by
 unfold zcI
 have:xs.findIdx? p=none:=by
  rw[List.findIdx?_eq_none_iff];intro x hx;obtain⟨j,hj,rfl⟩:=List.getElem_of_mem hx;exact h j hj
 rw[this]
theorem zhn{α:Type}(p:α→Bool)(xs:List α):decide (0≤zcI p xs)=xs.any p:=by
 unfold zcI;rw[Bool.eq_iff_iff];cases h:xs.findIdx? p with
 |none=>
  rw[List.findIdx?_eq_none_iff]at h
  simp only[decide_eq_true_eq,List.any_eq_true];constructor
  ·intro h';omega
  ·rintro⟨x,hx,hp⟩;simp[h x hx]at hp
 |some i=>
  rw[List.findIdx?_eq_some_iff_getElem]at h
  obtain⟨hi,hp,_⟩:=h;simp only[decide_eq_true_eq,List.any_eq_true];exact⟨λ_=>⟨_,List.getElem_mem hi,hp⟩,λ_=>by omega⟩
def zkR{α:Type}[vS α](P:Program)(F:FuncId)(lb:Array Value)(w:World)(xs:List α)(p:α→Bool):Prop:=
 ∀(W:World) (v:Value) (x:α),x∈xs→Below w.heap.size w W→Rds W v x→Calls P F (#[v]++lb) W λe W'=>e=.returned (.bool (p x))∧Below W.heap.size W W'
section
variable {w:World}{S:Nat→Prop}
end
theorem EY(F:FuncId)(lb:Array Value)(eg:∀args w,(callFunc F args).run Tryz.prog w=.ok (.enter F args) w)(v:Value)(xs:List (ByteArray))(p:ByteArray→Bool)(w:World)(hr:Rds w v xs)(hf:zkR Tryz.prog F lb w xs p):
  Calls Tryz.prog 207 #[v,.func (.func F) #[] lb] w λe w'=>e=.returned (.int .i64 (zcI p xs))∧Below w.heap.size w w':=by
 obtain⟨A,c,rfl,hsl⟩:=sO hr;have hlen:xs.length≤9223372036854775807:=Nat.le_trans hsl.cap hsl.max;clear hsl
 go_enter Tryz.func207,Tryz.ntmps207
 go_wp2_with fail
 go_loopg [5,8] xs.length (λgg s5 s8 wr=>∃k:Nat,k≤xs.length∧xs.length-k≤gg∧s8=.int .i64 k∧Below w.heap.size w wr∧Aside (∀j (hj:j<k) (hl:j<xs.length),p xs[j]=false))
 case atStart=>exact⟨0,Nat.zero_le _,by omega,rfl,Below.refl _ _,λj hj=>absurd hj (Nat.not_lt_zero _)⟩
 case round=>
  obtain⟨k,hk,hg,rfl,hB,hN⟩:=hrel
  by_cases hlt:k<xs.length
  ·have hlt':(k:Int)<(xs.length:Int):=by omega
   obtain⟨b,o,rfl,hb,c0,q0⟩:=zcd (hr.below hB) hlt;have hcall:=hf wr (.string xs[k]) xs[k] (List.getElem_mem hlt) hB (zcc q0);cases hq:p xs[k]with
   |true=>
    rw[hq]at hcall
    have HC:=Lib.hid hcall;have HQ:=Lib.hid hq;have HF:=Lib.hid hf;clear hcall hq hf
    go_wp2_with (go_at_fn F;refine HC.out.mono ?_;rintro e w1 ⟨rfl,hb1⟩)
    go_ret
    exact⟨by rw[zhm hlt (λj hj=>hN.out j hj (by omega)) HQ.out];rfl,Mi hB hb1⟩
   |false=>
    rw[hq]at hcall
    have HC:=Lib.hid hcall;have HQ:=Lib.hid hq;have HF:=Lib.hid hf;clear hcall hq hf
    go_wp2_with (go_at_fn F;refine HC.out.mono ?_;rintro e w1 ⟨rfl,hb1⟩)
    go_roundg (xs.length-(k+1))
    case measure=>omega
    case rel=>
     refine⟨k+1,by omega,by omega,by go_num,Mi hB hb1,(show Aside _ from λj hj hl=> ?_)⟩
     by_cases e:j=k
     ·subst e;exact HQ.out
     ·exact hN.out j (by omega) hl
  ·have hlt':¬(k:Int)<(xs.length:Int):=by omega
   obtain rfl:k=xs.length:=by omega
   have HF:=Lib.hid hf;clear hf
   go_wp2_with fail
   go_ret
   exact⟨by rw[zfq (λj hj=>hN.out j hj hj)];rfl,hB⟩
theorem Ki(F:FuncId)(lb:Array Value)(eg:∀args w,(callFunc F args).run Tryz.prog w=.ok (.enter F args) w)(v:Value)(xs:List (ByteArray))(p:ByteArray→Bool)(w:World)(hr:Rds w v xs)(hf:zkR Tryz.prog F lb w xs p):
  Calls Tryz.prog 149 #[v,.func (.func F) #[] lb] w λe w'=>e=.returned (.bool (xs.any p))∧Below w.heap.size w w':=by
 rw[←zhn];have HC:=Lib.hid (EY F lb eg v xs p w hr hf);clear hf hr
 go_enter Tryz.func149,Tryz.ntmps149
 go_wp2_with (go_at_call 207;refine HC.out.mono ?_;rintro e w1 ⟨rfl,hb1⟩)
 go_ret
 exact⟨rfl,hb1⟩
end Go.Proofs.YtogdmcebojiojaaGreatDoor
namespace Go.Proofs.YtogdmcebojiojaaGreatDoor
open Go.RowKit
set_option linter.unusedVariables false
set_option linter.unusedSimpArgs false
set_option maxHeartbeats 400000 in
theorem RW(g:Nat)(s:ByteArray)(i:Nat)(w:World)(hs:s.size≤4000)(h0:i<s.size)(hb:wZ w g 152 #[.string s,.int .i64 i]):
  Calls Tryz.prog 144 #[.pointer (some ⟨g,0,none⟩)] w λe w'=>e=.returned (.int .u8 s[i].toNat)∧∃q,w'=w.drewN q:=by
 have c0:w.cell? ⟨g,0,none⟩=some (.string s):=hb.cell 0;have c1:w.cell? ⟨g,1,none⟩=some (.int .i64 i):=hb.cell 1;have hlt':(i:Int)<(s.size:Int):=by omega
 clear hb
 go_enter Tryz.func144,Tryz.ntmps144
 go_wp2
 go_quiet (fail)
 go_wp2
 go_quiet (fail)
 go_wp2
 go_ret
 exact⟨rfl,_,World.drewN_drewN _ _ _⟩
theorem zeu{p:UInt8→Bool}{l:List UInt8}{c:UInt8}{j n:Nat}(hd:l.drop j=c::l.drop (j+1))(hp:p c=true)(h:j+((l.drop j).takeWhile p).length=n):j+1+((l.drop (j+1)).takeWhile p).length=n:=by
 rw[hd,List.takeWhile_cons,if_pos hp]at h;simp at h;omega
theorem zcJ{p:UInt8→Bool}{l:List UInt8}{c:UInt8}{j n:Nat}(hd:l.drop j=c::l.drop (j+1))(hp:p c=false)(h:j+((l.drop j).takeWhile p).length=n):j=n:=by
 rw[hd,List.takeWhile_cons,if_neg (by simp[hp])]at h;simp at h;omega
theorem zcK{p:UInt8→Bool}{l:List UInt8}{j n:Nat}(hl:l.length≤j)(h:j+((l.drop j).takeWhile p).length=n):j=n:=by
 rw[List.drop_of_length_le hl]at h;simpa using h
theorem zaw{p:UInt8→Bool}{l:List UInt8}{j:Nat}(hj:j≤l.length):j+((l.drop j).takeWhile p).length≤l.length:=by
 have:=(List.takeWhile_sublist p (l:=l.drop j)).length_le;simp at this;omega
set_option maxHeartbeats 1000000 in
theorem zev(F:FuncId)(p:Nat→Bool)(eg:∀args w,(callFunc F args).run Tryz.prog w=.ok (.enter F args) w)(hf:∀n:Nat,n<256→∀W,Calls Tryz.prog F #[.int .u8 n] W λe w'=>e=.returned (.bool (p n))∧W=w')
  (g:Nat) (s:ByteArray) (i:Nat) (w:World) (hs:s.size≤4000) (h0:i≤s.size) (hb:wZ w g 152 #[.string s,.int .i64 i]):
  Calls Tryz.prog 146 #[.pointer (some ⟨g,0,none⟩),.func (.func F) #[] #[]] w λe w'=>
   e=.returned (.string (s.extract i (i+((s.data.toList.drop i).takeWhile λc=>p c.toNat).length)))∧
   wZ w' g 152 #[.string s,.int .i64 ↑(i+((s.data.toList.drop i).takeWhile λc=>p c.toNat).length)]∧w.grownBy w' (some g):=by
 have cc0:w.cell? ⟨g,0,none⟩=some (.string s):=hb.cell 0;have cc1:w.cell? ⟨g,1,none⟩=some (.int .i64 i):=hb.cell 1;have hle:=zaw (p:=λc=>p c.toNat) (l:=s.data.toList) (j:=i) (by simpa using h0)
 rw[Xe]at hle
 have HB:=Lib.hid hb;have HF:=Lib.hid hf;clear hf hb;generalize hn:i+((s.data.toList.drop i).takeWhile λc=>p c.toNat).length=n at hle
 have HN:=Lib.hid hn;have hin:i≤n:=by omega
 clear hn
 go_enter Tryz.func146,Tryz.ntmps146
 go_wp2_with fail
 go_loopg [] (s.size) (λk wr=>∃j:Nat,i≤j∧j≤s.size∧s.size-j≤k∧Hid (wZ wr g 152 #[.string s,.int .i64 j])∧Hid (j+((s.data.toList.drop j).takeWhile λc=>p c.toNat).length=n)∧w.grownBy wr (some g))
 case atStart=>exact⟨i,Nat.le_refl _,h0,by omega,HB.out,HN.out,World.grownBy.refl _ _⟩
 case round=>
  obtain⟨j,hij,hj,hk,hB,hE,hG⟩:=hrel;have c0:wr.cell? ⟨g,0,none⟩=some (.string s):=hB.out.cell 0;have c1:wr.cell? ⟨g,1,none⟩=some (.int .i64 j):=hB.out.cell 1;have f1:wr.frozen? ⟨g,1,none⟩=false:=hB.out.frozen 1;clear cc0 cc1
  by_cases hlt:j<s.size
  ·have hlt':(j:Int)<(s.size:Int):=by omega
   have hd:=Lib.hid (mU s j hlt);have hc:=λW=>HF.out s[j].toNat (UInt8.toNat_lt _) W
   cases hp:p s[j].toNat with
   |true=>
    simp only[hp]at hc
    have HC:=Lib.hid hc;have HP:=Lib.hid hp;clear hc hp
    go_wp2_with fail
    go_quiet ((go_at_fn F;exact Gc (HC.out _)))
    go_wp2_with fail
    go_roundg (s.size-(j+1))
    case measure=>omega
    case rel=>exact⟨j+1,by omega,by omega,by omega,(hB.out.drewN _).set_ 1 _,zeu hd.out HP.out hE.out,tX (vU hG _) (.inl rfl) _⟩
   |false=>
    simp only[hp]at hc
    have HC:=Lib.hid hc;have HP:=Lib.hid hp;clear hc hp
    go_wp2_with fail
    go_quiet ((go_at_fn F;exact Gc (HC.out _)))
    go_wp2_with fail
    go_quiet (fail)
    go_wp2_with fail
    go_ret
    obtain rfl:=zcJ (p:=λc=>p c.toNat) hd.out HP.out hE.out
    exact⟨rfl,(hB.out.drewN _).drewN _,vU (vU hG _) _⟩
  ·have hlt':decide ((j:Int)<(s.size:Int))=false:=by simp;omega
   go_wp2_with fail
   go_quiet (fail)
   go_wp2_with fail
   go_quiet (fail)
   go_wp2_with fail
   go_ret
   obtain rfl:=zcK (by simpa using hlt) hE.out
   exact⟨rfl,(hB.out.drewN _).drewN _,vU (vU hG _) _⟩
end Go.Proofs.YtogdmcebojiojaaGreatDoor
namespace Go.Proofs.YtogdmcebojiojaaGreatDoor
open Go.RowKit
set_option linter.unusedVariables false
set_option linter.unusedSimpArgs false
theorem zax:∀args w,(callFunc 147 args).run Tryz.prog w=.ok (.enter 147 args) w:=λ_ _=>by kernel_rfl
theorem BV:∀args w,(callFunc 148 args).run Tryz.prog w=.ok (.enter 148 args) w:=λ_ _=>by kernel_rfl
theorem wZ.new'{w:World}{g:Nat}(t:TypeId)(cs:Array Value)(h:g=w.heap.size):wZ (w.alloc (.cells cs t)) g t cs:=by subst h;exact wZ.new w t cs
theorem wZ.far'{w:World}{g:Nat}{t:TypeId}{cs:Array Value}{p:Addr}{u:Value}(hp:g≠p.block)(h:wZ w g t cs):wZ (w.setCell p u) g t cs:=h.far hp u
theorem wZ.set'{w:World}{g i:Nat}{t:TypeId}{cs cs':Array Value}{u:Value}(e:cs.setIfInBounds i u=cs')(h:wZ w g t cs):wZ (w.setCell ⟨g,i,none⟩ u) g t cs':=by subst e;exact h.set_ i u
set_option maxHeartbeats 1000000 in
theorem BW(g:Nat)(s:ByteArray)(i:Nat)(w:World)(hs:s.size≤4000)(h0:i<s.size)(hb:wZ w g 152 #[.string s,.int .i64 i])(hl:WQ s[i].toNat=true):
  Calls Tryz.prog 92 #[.pointer (some ⟨g,0,none⟩)] w λe w'=>∃n er,e=.returned (.tuple #[.agg #[.int .i64 1,.int .i64 i,.string (s.extract i (i+n))],.int .i64 er])∧
   n=((s.data.toList.drop i).takeWhile λc=>WQ c.toNat||isDN c.toNat).length∧er=(if n>12 then 2 else 0)∧wZ w' g 152 #[.string s,.int .i64 ↑(i+n)]∧w.grownBy w' (some g):=by
 have HB:=Lib.hid hb;have c0:w.cell? ⟨g,0,none⟩=some (.string s):=hb.cell 0;have c1:w.cell? ⟨g,1,none⟩=some (.int .i64 i):=hb.cell 1;have hgl:=hb.lt;have hss:=UInt8.toNat_lt s[i];have hle:=zaw (p:=λc=>WQ c.toNat||isDN c.toNat) (l:=s.data.toList) (j:=i) (by simp;omega)
 clear hb;obtain⟨n,hn⟩:∃n,n=((s.data.toList.drop i).takeWhile λc=>WQ c.toNat||isDN c.toNat).length:=⟨_,rfl⟩
 rw[Xe,←hn]at hle
 have HN:=Lib.hid hn;clear hn
 have hrun:∀W,wZ W g 152 #[.string s,.int .i64 i]→Calls Tryz.prog 146 #[.pointer (some ⟨g,0,none⟩),.func (.func 147) #[] #[]] W λe w'=>
   e=.returned (.string (s.extract i (i+n)))∧wZ w' g 152 #[.string s,.int .i64 ↑(i+n)]∧W.grownBy w' (some g):=λW hW=>by
  have:=zev 147 (λn=>WQ n||isDN n) zax zhk g s i W hs (by omega) hW
  rw[←HN.out]at this;exact this
 have HR:=Lib.hid hrun;clear hrun;have hsz:(s.extract i (i+n)).size=n:=by rw[ByteArray.size_extract];omega
 go_enter Tryz.func92,Tryz.ntmps92
 go_wp2_with (first
  |(go_at_call 144;refine(RW g s i _ hs h0 (by have:=HB.out;(repeat'(first|(with_reducible assumption)|(with_reducible refine wZ.drewN ?_ _)|(with_reducible refine wZ.alloc ?_ _)|(with_reducible refine wZ.drew ?_)|(with_reducible refine wZ.far' ?_ ?_;(first|(simp;done)|(simp;omega)|omega))|(with_reducible apply wZ.set';rotate_left)|rfl)))).mono ?_;rintro e w' ⟨rfl,q,rfl⟩)
  |(go_at_call 145;refine(aD _ (by assumption) _).mono ?_;rintro e w' ⟨rfl,rfl⟩))
 refine(HR.out _ (by have:=HB.out;(repeat'(first|(with_reducible assumption)|(with_reducible refine wZ.drewN ?_ _)|(with_reducible refine wZ.alloc ?_ _)|(with_reducible refine wZ.drew ?_)|(with_reducible refine wZ.far' ?_ ?_;(first|(simp;done)|(simp;omega)|omega))|(with_reducible apply wZ.set';rotate_left)|rfl)))).mono ?_
 rintro e w1 ⟨rfl,hb1,hg1⟩;have bt:wZ w1 (w.heap.size+1+1) 154 _:=(((wZ.new' _ _ (by simp)).drewN _).set_ 0 _).grown hg1 (by simp;omega)
 have br:wZ w1 (w.heap.size+1) 154 _:=((((wZ.new' _ _ (by simp)).alloc _).drewN _).far (by simp) _).grown hg1 (by simp;omega)
 have t0:w1.cell? ⟨w.heap.size+1+1,0,none⟩=some (.int .i64 1):=bt.cell 0;have t1:w1.cell? ⟨w.heap.size+1+1,1,none⟩=some (.int .i64 i):=bt.cell 1;have t2:w1.cell? ⟨w.heap.size+1+1,2,none⟩=some (.string ⟨#[]⟩):=bt.cell 2;have r0:w1.cell? ⟨w.heap.size+1,0,none⟩=some (.int .i64 0):=br.cell 0;have r1:w1.cell? ⟨w.heap.size+1,1,none⟩=some (.int .i64 0):=br.cell 1;have r2:w1.cell? ⟨w.heap.size+1,2,none⟩=some (.string ⟨#[]⟩):=br.cell 2;have ft:∀k,w1.frozen? ⟨w.heap.size+1+1,k,none⟩=false:=bt.frozen;have fr:∀k,w1.frozen? ⟨w.heap.size+1,k,none⟩=false:=br.frozen;have hg0:w.grownBy w1 (some g):=O4 (gP (by(repeat'(first|(with_reducible exact Below.refl _ _)|(with_reducible assumption)|(with_reducible refine vK ?_ _)|(with_reducible refine Below.alloc ?_ ?_ _)|(with_reducible refine Below.setCell ?_ ?_ _)|(with_reducible refine Below.drew ?_)|go_size))) (some g)) hg1
 have hsz1:w.heap.size+1+1<w1.heap.size:=bt.lt;clear hg1 bt br c0 c1
 by_cases h12:12<n
 ·go_wp2_with fail
  refine bodyPost_ret (v:=.tuple #[.agg #[.int .i64 1,.int .i64 i,.string (s.extract i (i+n))],.int .i64 2]) (by simp[results,Tryz.results92,go_sem,r0,r1,r2]) rfl ⟨n,2,rfl,HN.out,by rw[if_pos h12],?_,?_⟩
  ·have:=hb1;(repeat'(first|(with_reducible assumption)|(with_reducible refine wZ.drewN ?_ _)|(with_reducible refine wZ.alloc ?_ _)|(with_reducible refine wZ.drew ?_)|(with_reducible refine wZ.far' ?_ ?_;(first|(simp;done)|(simp;omega)|omega))|(with_reducible apply wZ.set';rotate_left)|rfl))
  ·(repeat'(first|(with_reducible assumption)|(with_reducible exact World.grownBy.refl _ _)|(with_reducible refine vU ?_ _)|(with_reducible refine jS ?_ _)|(with_reducible refine tX ?_ ?_ _)|(with_reducible refine eI ?_)|(exact .inl rfl)|(refine .inr ?_;simp;done)|(refine .inr ?_;simp;omega)|(refine .inr ?_;omega)))
 ·go_wp2_with fail
  refine bodyPost_ret (v:=.tuple #[.agg #[.int .i64 1,.int .i64 i,.string (s.extract i (i+n))],.int .i64 0]) (by simp[results,Tryz.results92,go_sem,r0,r1,r2]) rfl ⟨n,0,rfl,HN.out,by rw[if_neg h12],?_,?_⟩
  ·have:=hb1;(repeat'(first|(with_reducible assumption)|(with_reducible refine wZ.drewN ?_ _)|(with_reducible refine wZ.alloc ?_ _)|(with_reducible refine wZ.drew ?_)|(with_reducible refine wZ.far' ?_ ?_;(first|(simp;done)|(simp;omega)|omega))|(with_reducible apply wZ.set';rotate_left)|rfl))
  ·(repeat'(first|(with_reducible assumption)|(with_reducible exact World.grownBy.refl _ _)|(with_reducible refine vU ?_ _)|(with_reducible refine jS ?_ _)|(with_reducible refine tX ?_ ?_ _)|(with_reducible refine eI ?_)|(exact .inl rfl)|(refine .inr ?_;simp;done)|(refine .inr ?_;simp;omega)|(refine .inr ?_;omega)))
set_option maxHeartbeats 1000000 in
theorem zay(g:Nat)(s:ByteArray)(i:Nat)(w:World)(hs:s.size≤4000)(h0:i<s.size)(hb:wZ w g 152 #[.string s,.int .i64 i])(hl0:WQ s[i].toNat=false)(hl:isDN s[i].toNat=true):
  Calls Tryz.prog 92 #[.pointer (some ⟨g,0,none⟩)] w λe w'=>∃n er,e=.returned (.tuple #[.agg #[.int .i64 2,.int .i64 i,.string (s.extract i (i+n))],.int .i64 er])∧
   n=((s.data.toList.drop i).takeWhile λc=>isDN c.toNat).length∧er=(if n>4 then 2 else if n>1∧s[i]=48 then 1 else 0)∧wZ w' g 152 #[.string s,.int .i64 ↑(i+n)]∧w.grownBy w' (some g):=by
 have HB:=Lib.hid hb;have c0:w.cell? ⟨g,0,none⟩=some (.string s):=hb.cell 0;have c1:w.cell? ⟨g,1,none⟩=some (.int .i64 i):=hb.cell 1;have hgl:=hb.lt;have hss:=UInt8.toNat_lt s[i];have hle:=zaw (p:=λc=>isDN c.toNat) (l:=s.data.toList) (j:=i) (by simp;omega)
 clear hb;obtain⟨n,hn⟩:∃n,n=((s.data.toList.drop i).takeWhile λc=>isDN c.toNat).length:=⟨_,rfl⟩
 rw[Xe,←hn]at hle
 have HN:=Lib.hid hn;clear hn
 have hrun:∀W,wZ W g 152 #[.string s,.int .i64 i]→Calls Tryz.prog 146 #[.pointer (some ⟨g,0,none⟩),.func (.func 148) #[] #[]] W λe w'=>
   e=.returned (.string (s.extract i (i+n)))∧wZ w' g 152 #[.string s,.int .i64 ↑(i+n)]∧W.grownBy w' (some g):=λW hW=>by
  have:=zev 148 (λn=>isDN n) BV Wy g s i W hs (by omega) hW
  rw[←HN.out]at this;exact this
 have HR:=Lib.hid hrun;clear hrun;have hsz:(s.extract i (i+n)).size=n:=by rw[ByteArray.size_extract];omega
 go_enter Tryz.func92,Tryz.ntmps92
 go_wp2_with (first
  |(go_at_call 144;refine(RW g s i _ hs h0 (by have:=HB.out;(repeat'(first|(with_reducible assumption)|(with_reducible refine wZ.drewN ?_ _)|(with_reducible refine wZ.alloc ?_ _)|(with_reducible refine wZ.drew ?_)|(with_reducible refine wZ.far' ?_ ?_;(first|(simp;done)|(simp;omega)|omega))|(with_reducible apply wZ.set';rotate_left)|rfl)))).mono ?_;rintro e w' ⟨rfl,q,rfl⟩)
  |(go_at_call 145;refine(aD _ (by assumption) _).mono ?_;rintro e w' ⟨rfl,rfl⟩)
  |(go_at_call 148;refine(Wy _ (by assumption) _).mono ?_;rintro e w' ⟨rfl,rfl⟩))
 refine(HR.out _ (by have:=HB.out;(repeat'(first|(with_reducible assumption)|(with_reducible refine wZ.drewN ?_ _)|(with_reducible refine wZ.alloc ?_ _)|(with_reducible refine wZ.drew ?_)|(with_reducible refine wZ.far' ?_ ?_;(first|(simp;done)|(simp;omega)|omega))|(with_reducible apply wZ.set';rotate_left)|rfl)))).mono ?_
 rintro e w1 ⟨rfl,hb1,hg1⟩;have bt:wZ w1 (w.heap.size+1+1) 154 _:=(((wZ.new' _ _ (by simp)).drewN _).set_ 0 _).grown hg1 (by simp;omega)
 have br:wZ w1 (w.heap.size+1) 154 _:=((((wZ.new' _ _ (by simp)).alloc _).drewN _).far (by simp) _).grown hg1 (by simp;omega)
 have t0:w1.cell? ⟨w.heap.size+1+1,0,none⟩=some (.int .i64 2):=bt.cell 0;have t1:w1.cell? ⟨w.heap.size+1+1,1,none⟩=some (.int .i64 i):=bt.cell 1;have t2:w1.cell? ⟨w.heap.size+1+1,2,none⟩=some (.string ⟨#[]⟩):=bt.cell 2;have r0:w1.cell? ⟨w.heap.size+1,0,none⟩=some (.int .i64 0):=br.cell 0;have r1:w1.cell? ⟨w.heap.size+1,1,none⟩=some (.int .i64 0):=br.cell 1;have r2:w1.cell? ⟨w.heap.size+1,2,none⟩=some (.string ⟨#[]⟩):=br.cell 2;have ft:∀k,w1.frozen? ⟨w.heap.size+1+1,k,none⟩=false:=bt.frozen;have fr:∀k,w1.frozen? ⟨w.heap.size+1,k,none⟩=false:=br.frozen;have hg0:w.grownBy w1 (some g):=O4 (gP (by(repeat'(first|(with_reducible exact Below.refl _ _)|(with_reducible assumption)|(with_reducible refine vK ?_ _)|(with_reducible refine Below.alloc ?_ ?_ _)|(with_reducible refine Below.setCell ?_ ?_ _)|(with_reducible refine Below.drew ?_)|go_size))) (some g)) hg1
 have hsz1:w.heap.size+1+1<w1.heap.size:=bt.lt;clear hg1 bt br c0 c1
 by_cases h4:4<n
 ·go_wp2_with fail
  refine bodyPost_ret (v:=.tuple #[.agg #[.int .i64 2,.int .i64 i,.string (s.extract i (i+n))],.int .i64 2]) (by simp[results,Tryz.results92,go_sem,r0,r1,r2]) rfl ⟨n,2,rfl,HN.out,by rw[if_pos h4],?_,?_⟩
  ·have:=hb1;(repeat'(first|(with_reducible assumption)|(with_reducible refine wZ.drewN ?_ _)|(with_reducible refine wZ.alloc ?_ _)|(with_reducible refine wZ.drew ?_)|(with_reducible refine wZ.far' ?_ ?_;(first|(simp;done)|(simp;omega)|omega))|(with_reducible apply wZ.set';rotate_left)|rfl))
  ·(repeat'(first|(with_reducible assumption)|(with_reducible exact World.grownBy.refl _ _)|(with_reducible refine vU ?_ _)|(with_reducible refine jS ?_ _)|(with_reducible refine tX ?_ ?_ _)|(with_reducible refine eI ?_)|(exact .inl rfl)|(refine .inr ?_;simp;done)|(refine .inr ?_;simp;omega)|(refine .inr ?_;omega)))
 ·by_cases h1:1<n
  ·by_cases h48:s[i]=48
   ·have y48:=bN (k:=48) (by omega) h48
    have H48:=Lib.hid h48;clear h48
    go_wp2_with fail
    refine bodyPost_ret (v:=.tuple #[.agg #[.int .i64 2,.int .i64 i,.string (s.extract i (i+n))],.int .i64 1]) (by simp[results,Tryz.results92,go_sem,r0,r1,r2]) rfl ⟨n,1,rfl,HN.out,by rw[if_neg h4,if_pos ⟨h1,H48.out⟩],?_,?_⟩
    ·have:=hb1;(repeat'(first|(with_reducible assumption)|(with_reducible refine wZ.drewN ?_ _)|(with_reducible refine wZ.alloc ?_ _)|(with_reducible refine wZ.drew ?_)|(with_reducible refine wZ.far' ?_ ?_;(first|(simp;done)|(simp;omega)|omega))|(with_reducible apply wZ.set';rotate_left)|rfl))
    ·(repeat'(first|(with_reducible assumption)|(with_reducible exact World.grownBy.refl _ _)|(with_reducible refine vU ?_ _)|(with_reducible refine jS ?_ _)|(with_reducible refine tX ?_ ?_ _)|(with_reducible refine eI ?_)|(exact .inl rfl)|(refine .inr ?_;simp;done)|(refine .inr ?_;simp;omega)|(refine .inr ?_;omega)))
   ·have y48:=o7 (k:=48) (by omega) h48
    go_wp2_with fail
    refine bodyPost_ret (v:=.tuple #[.agg #[.int .i64 2,.int .i64 i,.string (s.extract i (i+n))],.int .i64 0]) (by simp[results,Tryz.results92,go_sem,r0,r1,r2]) rfl ⟨n,0,rfl,HN.out,by rw[if_neg h4,if_neg (λh=>h48 h.2)],?_,?_⟩
    ·have:=hb1;(repeat'(first|(with_reducible assumption)|(with_reducible refine wZ.drewN ?_ _)|(with_reducible refine wZ.alloc ?_ _)|(with_reducible refine wZ.drew ?_)|(with_reducible refine wZ.far' ?_ ?_;(first|(simp;done)|(simp;omega)|omega))|(with_reducible apply wZ.set';rotate_left)|rfl))
    ·(repeat'(first|(with_reducible assumption)|(with_reducible exact World.grownBy.refl _ _)|(with_reducible refine vU ?_ _)|(with_reducible refine jS ?_ _)|(with_reducible refine tX ?_ ?_ _)|(with_reducible refine eI ?_)|(exact .inl rfl)|(refine .inr ?_;simp;done)|(refine .inr ?_;simp;omega)|(refine .inr ?_;omega)))
  ·have h1':decide ((1:Int)<(n:Int))=false:=by simp;omega
   go_wp2_with fail
   refine bodyPost_ret (v:=.tuple #[.agg #[.int .i64 2,.int .i64 i,.string (s.extract i (i+n))],.int .i64 0]) (by simp[results,Tryz.results92,go_sem,r0,r1,r2]) rfl ⟨n,0,rfl,HN.out,by rw[if_neg h4,if_neg (λh=>h1 h.1)],?_,?_⟩
   ·have:=hb1;(repeat'(first|(with_reducible assumption)|(with_reducible refine wZ.drewN ?_ _)|(with_reducible refine wZ.alloc ?_ _)|(with_reducible refine wZ.drew ?_)|(with_reducible refine wZ.far' ?_ ?_;(first|(simp;done)|(simp;omega)|omega))|(with_reducible apply wZ.set';rotate_left)|rfl))
   ·(repeat'(first|(with_reducible assumption)|(with_reducible exact World.grownBy.refl _ _)|(with_reducible refine vU ?_ _)|(with_reducible refine jS ?_ _)|(with_reducible refine tX ?_ ?_ _)|(with_reducible refine eI ?_)|(exact .inl rfl)|(refine .inr ?_;simp;done)|(refine .inr ?_;simp;omega)|(refine .inr ?_;omega)))
end Go.Proofs.YtogdmcebojiojaaGreatDoor
namespace Go.Proofs.YtogdmcebojiojaaGreatDoor
open Go.RowKit
set_option linter.unusedVariables false
set_option linter.unusedSimpArgs false
def XK:List ByteArray:=[bs [46,46],bs [60,61],bs [62,61],bs [61,61],bs [33,61]]
theorem Kj(w:World):Calls Tryz.prog 150 #[] w λe w'=>∃v,e=.returned v∧Rds w' v XK∧Below w.heap.size w w':=by
 go_enter Tryz.func150,Tryz.ntmps150
 go_wp2_with fail
 go_ret
 refine⟨_,rfl,⟨[_],rfl,some ⟨w.heap.size,0,none⟩,5,rfl,by decide,by decide,by decide,(λe=>by cases e),λ_=>⟨_,0,rfl,by simp,λi x hx=> ?_⟩⟩,by(repeat'(first|(with_reducible exact Below.refl _ _)|(with_reducible assumption)|(with_reducible refine vK ?_ _)|(with_reducible refine Below.alloc ?_ ?_ _)|(with_reducible refine Below.setCell ?_ ?_ _)|(with_reducible refine Below.drew ?_)|go_size))⟩
 match i,hx with
 |0,hx=>simp[XK]at hx;subst hx;exact⟨[_],⟨rfl,by decide⟩,λj u hu=>by cases j<;>simp at hu;subst hu;simp[vS.size];rfl⟩
 |1,hx=>simp[XK]at hx;subst hx;exact⟨[_],⟨rfl,by decide⟩,λj u hu=>by cases j<;>simp at hu;subst hu;simp[vS.size];rfl⟩
 |2,hx=>simp[XK]at hx;subst hx;exact⟨[_],⟨rfl,by decide⟩,λj u hu=>by cases j<;>simp at hu;subst hu;simp[vS.size];rfl⟩
 |3,hx=>simp[XK]at hx;subst hx;exact⟨[_],⟨rfl,by decide⟩,λj u hu=>by cases j<;>simp at hu;subst hu;simp[vS.size];rfl⟩
 |4,hx=>simp[XK]at hx;subst hx;exact⟨[_],⟨rfl,by decide⟩,λj u hu=>by cases j<;>simp at hu;subst hu;simp[vS.size];rfl⟩
 |i+5,hx=>simp[XK]at hx
theorem zfr(l:List UInt8):(XK.any λp=>Lib.hasPrefix l p.data.toList)=dK l:=by
 match l with
 |[]=>rfl
 |[a]=>simp[XK,dK,Lib.hasPrefix,bs,List.isPrefixOf]
 |a::b::l=>
  simp only[XK,dK,Lib.hasPrefix,bs,List.isPrefixOf,List.any_cons,List.any_nil,Bool.and_true,Bool.or_false];rw[Bool.eq_iff_iff];simp only[Bool.or_eq_true,Bool.and_eq_true,beq_iff_eq];constructor
  ·rintro(⟨h1,h2⟩|⟨h1,h2⟩|⟨h1,h2⟩|⟨h1,h2⟩|⟨h1,h2⟩)<;>subst h1 h2<;>simp
  ·rintro((((⟨h1,h2⟩|⟨h1,h2⟩)|⟨h1,h2⟩)|⟨h1,h2⟩)|⟨h1,h2⟩)<;>subst h1 h2<;>simp
set_option maxHeartbeats 400000 in
theorem zcL(g n0:Nat)(s p:ByteArray)(i:Nat)(w:World)(hs:s.size≤4000)(h0:i≤s.size)(hc:w.cell? ⟨n0,0,none⟩=some (.pointer (some ⟨g,0,none⟩)))(hb:wZ w g 152 #[.string s,.int .i64 i]):
  Calls Tryz.prog 151 (#[.string p]++ #[.pointer (some ⟨n0,0,none⟩)]) w λe w'=>e=.returned (.bool (Lib.hasPrefix (s.data.toList.drop i) p.data.toList))∧Below w.heap.size w w':=by
 have c0:w.cell? ⟨g,0,none⟩=some (.string s):=hb.cell 0;have c1:w.cell? ⟨g,1,none⟩=some (.int .i64 i):=hb.cell 1;have hlt':(i:Int)≤(s.size:Int):=by omega
 clear hb
 have he:(s.extract i s.size).data.toList=s.data.toList.drop i:=by
  rw[ByteArray.data_extract];simp;rw[List.take_of_length_le (by simp)]
 rw[←he];clear he;show Calls Tryz.prog 151 #[.string p,.pointer (some ⟨n0,0,none⟩)] w _
 go_enter Tryz.func151,Tryz.ntmps151
 go_wp2_with fail
 go_quiet ((go_at_call 152;exact Calls.quiet_of_same (Tryz.strings_HasPrefix _ _ _)))
 go_wp2_with fail
 go_ret
 exact⟨rfl,by(repeat'(first|(with_reducible exact Below.refl _ _)|(with_reducible assumption)|(with_reducible refine vK ?_ _)|(with_reducible refine Below.alloc ?_ ?_ _)|(with_reducible refine Below.setCell ?_ ?_ _)|(with_reducible refine Below.drew ?_)|go_size))⟩
theorem EZ:∀args w,(callFunc 151 args).run Tryz.prog w=.ok (.enter 151 args) w:=λ_ _=>by kernel_rfl
theorem BX(g n0:Nat)(s:ByteArray)(i:Nat)(w:World)(hs:s.size≤4000)(h0:i≤s.size)(hn:n0<w.heap.size)(hc:w.cell? ⟨n0,0,none⟩=some (.pointer (some ⟨g,0,none⟩)))(hb:wZ w g 152 #[.string s,.int .i64 i])
  (v:Value) (hv:Rds w v XK):
  Calls Tryz.prog 149 #[v,.func (.func 151) #[] #[.pointer (some ⟨n0,0,none⟩)]] w λe w'=>e=.returned (.bool (dK (s.data.toList.drop i)))∧Below w.heap.size w w':=by
 rw[←zfr];refine Ki _ _ EZ v XK (λp=>Lib.hasPrefix (s.data.toList.drop i) p.data.toList) w hv λW u x _ hb' hx=> ?_
 obtain⟨rfl,_⟩:=zd4 hx;exact zcL g n0 s x i W hs h0 ((hb'.cell (p:=⟨n0,0,none⟩) hn).trans hc) (hb.below hb' hb.lt)
set_option maxHeartbeats 1000000 in
theorem zfs(g:Nat)(s:ByteArray)(i:Nat)(w:World)(hs:s.size≤4000)(h0:i<s.size)(hb:wZ w g 152 #[.string s,.int .i64 i])(hl:WQ s[i].toNat=false)(hd:isDN s[i].toNat=false)(ht:dK (s.data.toList.drop i)=true)(h2:i+2≤s.size):
  Calls Tryz.prog 92 #[.pointer (some ⟨g,0,none⟩)] w λe w'=>e=.returned (.tuple #[.agg #[.int .i64 3,.int .i64 i,.string (s.extract i (i+2))],.int .i64 0])∧
   wZ w' g 152 #[.string s,.int .i64 ↑(i+2)]∧w.grownBy w' (some g):=by
 have HB:=Lib.hid hb;have c0:w.cell? ⟨g,0,none⟩=some (.string s):=hb.cell 0;have c1:w.cell? ⟨g,1,none⟩=some (.int .i64 i):=hb.cell 1;have hgl:=hb.lt;have hss:=UInt8.toNat_lt s[i];clear hb
 go_enter Tryz.func92,Tryz.ntmps92
 go_wp2_with (first
  |(go_at_call 144;refine(RW g s i _ hs h0 (by have:=HB.out;(repeat'(first|(with_reducible assumption)|(with_reducible refine wZ.drewN ?_ _)|(with_reducible refine wZ.alloc ?_ _)|(with_reducible refine wZ.drew ?_)|(with_reducible refine wZ.far' ?_ ?_;(first|(simp;done)|(simp;omega)|omega))|(with_reducible apply wZ.set';rotate_left)|rfl)))).mono ?_;rintro e w' ⟨rfl,q,rfl⟩)
  |(go_at_call 145;refine(aD _ (by assumption) _).mono ?_;rintro e w' ⟨rfl,rfl⟩)
  |(go_at_call 148;refine(Wy _ (by assumption) _).mono ?_;rintro e w' ⟨rfl,rfl⟩)
  |(go_at_call 150;refine(Kj _).mono ?_;rintro e w1 ⟨v,rfl,hv,hb1⟩))
 have g1:wZ w1 g 152 #[.string s,.int .i64 i]:=wZ.below (by have:=HB.out;(repeat'(first|(with_reducible assumption)|(with_reducible refine wZ.drewN ?_ _)|(with_reducible refine wZ.alloc ?_ _)|(with_reducible refine wZ.drew ?_)|(with_reducible refine wZ.far' ?_ ?_;(first|(simp;done)|(simp;omega)|omega))|(with_reducible apply wZ.set';rotate_left)|rfl))) hb1 (by simp;omega)
 have bc:wZ w1 w.heap.size _ _:=wZ.below ((((wZ.new' _ _ rfl).alloc _).alloc _).drewN _) hb1 (by simp;omega)
 have br:wZ w1 (w.heap.size+1) _ _:=wZ.below (((wZ.new' _ _ (by simp)).alloc _).drewN _) hb1 (by simp)
 have bt:wZ w1 (w.heap.size+1+1) _ _:=wZ.below ((wZ.new' _ _ (by simp)).drewN _) hb1 (by simp)
 have hb0:Below w.heap.size w w1:=Mi (by(repeat'(first|(with_reducible exact Below.refl _ _)|(with_reducible assumption)|(with_reducible refine vK ?_ _)|(with_reducible refine Below.alloc ?_ ?_ _)|(with_reducible refine Below.setCell ?_ ?_ _)|(with_reducible refine Below.drew ?_)|go_size))) hb1
 clear hb1;have HV:=Lib.hid hv;have hn0:=bc.lt;clear hv;refine(BX g w.heap.size s i w1 hs (by omega) hn0 (bc.cell 0) g1 v HV.out).mono ?_
 rintro e w2 ⟨rfl,hb2⟩;rw[ht];have g2:=Lib.hid (g1.below hb2 g1.lt);have bc2:=bc.below hb2 bc.lt;have br2:=br.below hb2 br.lt;have bt2:=bt.below hb2 bt.lt;have hs1:w2.heap.size>w.heap.size+1+1:=bt2.lt;have hb3:Below w.heap.size w w2:=Mi hb0 hb2;clear g1 bc br bt hb2 hb0 hn0 c0 c1 HV;have c0:w2.cell? ⟨g,0,none⟩=some (.string s):=g2.out.cell 0;have c1:w2.cell? ⟨g,1,none⟩=some (.int .i64 i):=g2.out.cell 1;have f1:w2.frozen? ⟨g,1,none⟩=false:=g2.out.frozen 1;have k0:w2.cell? ⟨w.heap.size,0,none⟩=some (.pointer (some ⟨g,0,none⟩)):=bc2.cell 0;have t0:w2.cell? ⟨w.heap.size+1+1,0,none⟩=some (.int .i64 3):=bt2.cell 0;have t1:w2.cell? ⟨w.heap.size+1+1,1,none⟩=some (.int .i64 i):=bt2.cell 1;have t2:w2.cell? ⟨w.heap.size+1+1,2,none⟩=some (.string ⟨#[]⟩):=bt2.cell 2;have r0:w2.cell? ⟨w.heap.size+1,0,none⟩=some (.int .i64 0):=br2.cell 0;have r1:w2.cell? ⟨w.heap.size+1,1,none⟩=some (.int .i64 0):=br2.cell 1;have r2:w2.cell? ⟨w.heap.size+1,2,none⟩=some (.string ⟨#[]⟩):=br2.cell 2;have ft:∀k,w2.frozen? ⟨w.heap.size+1+1,k,none⟩=false:=bt2.frozen;have fr:∀k,w2.frozen? ⟨w.heap.size+1,k,none⟩=false:=br2.frozen;clear bc2 br2 bt2;have HT:=Lib.hid ht;clear ht;have q1:(i:Int)+2≤(s.size:Int):=by omega
 have q2:IntKind.i64.wrap ((i:Int)+2)=(i:Int)+2:=IntWalk.i64_in _ (by omega)
 have q3:((i:Int)+2).toNat=i+2:=by omega
 go_wp2_with fail
 go_region
 all_goals
  go_wp2_with fail
  refine bodyPost_ret (v:=.tuple #[.agg #[.int .i64 3,.int .i64 i,.string (s.extract i (i+2))],.int .i64 0]) (by simp[results,Tryz.results92,go_sem,r0,r1,r2]) rfl ⟨rfl,?_,?_⟩
  ·refine wZ.drew (wZ.far' ?_ (wZ.far' ?_ (wZ.far' ?_ (wZ.set' (by rfl) (wZ.far' ?_ g2.out)))))<;>first|(simp;done)|(simp;omega)
  ·have:=gP hb3 (some g);(repeat'(first|(with_reducible assumption)|(with_reducible exact World.grownBy.refl _ _)|(with_reducible refine vU ?_ _)|(with_reducible refine jS ?_ _)|(with_reducible refine tX ?_ ?_ _)|(with_reducible refine eI ?_)|(exact .inl rfl)|(refine .inr ?_;simp;done)|(refine .inr ?_;simp;omega)|(refine .inr ?_;omega)))
end Go.Proofs.YtogdmcebojiojaaGreatDoor
namespace Go.Proofs.YtogdmcebojiojaaGreatDoor
open Go.RowKit
set_option linter.unusedVariables false
set_option linter.unusedSimpArgs false
theorem GJ(c:UInt8):Yt c=true↔0≤Lib.indexByte [91,93,59,58,44,45] c:=by
 constructor
 ·intro h
  simp only[Yt,Bool.or_eq_true,beq_iff_eq]at h
  rcases h with((((h|h)|h)|h)|h)|h<;>subst h<;>decide
 ·intro h
  revert h;simp only[Lib.indexByte,Yt]
  repeat' split
  all_goals simp_all
  all_goals omega
theorem zft(s:ByteArray)(i:Nat)(h:i<s.size)(hs:Yt s[i]=true):Utf8.encode (s[i].toNat:Int)=s.extract i (i+1):=by
 have h1:(s.extract i (i+1))=⟨#[s[i]]⟩:=by
  apply ByteArray.ext;rw[ByteArray.data_extract];apply Array.ext';have:=mU s i h;simp only[Array.toList_extract,List.extract_eq_take_drop];rw[this];simp
 rw[h1];simp only[Yt,Bool.or_eq_true,beq_iff_eq]at hs
 rcases hs with((((h|h)|h)|h)|h)|h<;>rw[h]<;>decide
set_option maxHeartbeats 1000000 in
theorem zcM(g:Nat)(s:ByteArray)(i:Nat)(w:World)(hs:s.size≤4000)(h0:i<s.size)(hb:wZ w g 152 #[.string s,.int .i64 i])(hl:WQ s[i].toNat=false)(hd:isDN s[i].toNat=false)(ht:dK (s.data.toList.drop i)=false)(hsg:Yt s[i]=true):
  Calls Tryz.prog 92 #[.pointer (some ⟨g,0,none⟩)] w λe w'=>e=.returned (.tuple #[.agg #[.int .i64 3,.int .i64 i,.string (s.extract i (i+1))],.int .i64 0])∧
   wZ w' g 152 #[.string s,.int .i64 ↑(i+1)]∧w.grownBy w' (some g):=by
 have HB:=Lib.hid hb;have c0:w.cell? ⟨g,0,none⟩=some (.string s):=hb.cell 0;have c1:w.cell? ⟨g,1,none⟩=some (.int .i64 i):=hb.cell 1;have hgl:=hb.lt;have hss:=UInt8.toNat_lt s[i];clear hb
 go_enter Tryz.func92,Tryz.ntmps92
 go_wp2_with (first
  |(go_at_call 144;refine(RW g s i _ hs h0 (by have:=HB.out;(repeat'(first|(with_reducible assumption)|(with_reducible refine wZ.drewN ?_ _)|(with_reducible refine wZ.alloc ?_ _)|(with_reducible refine wZ.drew ?_)|(with_reducible refine wZ.far' ?_ ?_;(first|(simp;done)|(simp;omega)|omega))|(with_reducible apply wZ.set';rotate_left)|rfl)))).mono ?_;rintro e w' ⟨rfl,q,rfl⟩)
  |(go_at_call 145;refine(aD _ (by assumption) _).mono ?_;rintro e w' ⟨rfl,rfl⟩)
  |(go_at_call 148;refine(Wy _ (by assumption) _).mono ?_;rintro e w' ⟨rfl,rfl⟩)
  |(go_at_call 150;refine(Kj _).mono ?_;rintro e w1 ⟨v,rfl,hv,hb1⟩))
 have g1:wZ w1 g 152 #[.string s,.int .i64 i]:=wZ.below (by have:=HB.out;(repeat'(first|(with_reducible assumption)|(with_reducible refine wZ.drewN ?_ _)|(with_reducible refine wZ.alloc ?_ _)|(with_reducible refine wZ.drew ?_)|(with_reducible refine wZ.far' ?_ ?_;(first|(simp;done)|(simp;omega)|omega))|(with_reducible apply wZ.set';rotate_left)|rfl))) hb1 (by simp;omega)
 have bc:wZ w1 w.heap.size _ _:=wZ.below ((((wZ.new' _ _ rfl).alloc _).alloc _).drewN _) hb1 (by simp;omega)
 have br:wZ w1 (w.heap.size+1) _ _:=wZ.below (((wZ.new' _ _ (by simp)).alloc _).drewN _) hb1 (by simp)
 have bt:wZ w1 (w.heap.size+1+1) _ _:=wZ.below ((wZ.new' _ _ (by simp)).drewN _) hb1 (by simp)
 have hb0:Below w.heap.size w w1:=Mi (by(repeat'(first|(with_reducible exact Below.refl _ _)|(with_reducible assumption)|(with_reducible refine vK ?_ _)|(with_reducible refine Below.alloc ?_ ?_ _)|(with_reducible refine Below.setCell ?_ ?_ _)|(with_reducible refine Below.drew ?_)|go_size))) hb1
 clear hb1;have HV:=Lib.hid hv;have hn0:=bc.lt;clear hv;refine(BX g w.heap.size s i w1 hs (by omega) hn0 (bc.cell 0) g1 v HV.out).mono ?_
 rintro e w2 ⟨rfl,hb2⟩;rw[ht];have g2:=Lib.hid (g1.below hb2 g1.lt);have bc2:=bc.below hb2 bc.lt;have br2:=br.below hb2 br.lt;have bt2:=bt.below hb2 bt.lt;have hs1:w2.heap.size>w.heap.size+1+1:=bt2.lt;have hb3:Below w.heap.size w w2:=Mi hb0 hb2;clear g1 bc br bt hb2 hb0 hn0 c0 c1 HV;have c0:w2.cell? ⟨g,0,none⟩=some (.string s):=g2.out.cell 0;have c1:w2.cell? ⟨g,1,none⟩=some (.int .i64 i):=g2.out.cell 1;have f1:w2.frozen? ⟨g,1,none⟩=false:=g2.out.frozen 1;have k0:w2.cell? ⟨w.heap.size,0,none⟩=some (.pointer (some ⟨g,0,none⟩)):=bc2.cell 0;have t0:w2.cell? ⟨w.heap.size+1+1,0,none⟩=some (.int .i64 3):=bt2.cell 0;have t1:w2.cell? ⟨w.heap.size+1+1,1,none⟩=some (.int .i64 i):=bt2.cell 1;have t2:w2.cell? ⟨w.heap.size+1+1,2,none⟩=some (.string ⟨#[]⟩):=bt2.cell 2;have r0:w2.cell? ⟨w.heap.size+1,0,none⟩=some (.int .i64 0):=br2.cell 0;have r1:w2.cell? ⟨w.heap.size+1,1,none⟩=some (.int .i64 0):=br2.cell 1;have r2:w2.cell? ⟨w.heap.size+1,2,none⟩=some (.string ⟨#[]⟩):=br2.cell 2;have ft:∀k,w2.frozen? ⟨w.heap.size+1+1,k,none⟩=false:=bt2.frozen;have fr:∀k,w2.frozen? ⟨w.heap.size+1,k,none⟩=false:=br2.frozen;clear bc2 br2 bt2;have HT:=Lib.hid ht;clear ht;obtain⟨k,hk⟩:∃k,k=Lib.indexByte [91,93,59,58,44,45] s[i]:=⟨_,rfl⟩;have hk0:0≤k:=by rw[hk];exact(GJ _).1 hsg
 have HI:Hid (∀W,Calls Tryz.prog 153 #[.string ⟨#[91,93,59,58,44,45]⟩,.int .u8 s[i].toNat] W λe w'=>e=.returned (.int .i64 k)∧W=w'):=λW=>by
  refine(Tryz.strings_IndexByte _ _ W).mono λe w' ⟨h1,h2⟩=>⟨?_,h2.symm⟩
  rw[h1,hk];simp
 clear hk
 go_wp2_with (go_at_call 153;refine(HI.out _).mono ?_;rintro e w' ⟨rfl,rfl⟩);refine bodyPost_ret (v:=.tuple #[.agg #[.int .i64 3,.int .i64 i,.string (Utf8.encode s[i].toNat)],.int .i64 0]) (by simp[results,Tryz.results92,go_sem,r0,r1,r2]) rfl ⟨by rw[zft s i h0 hsg],?_,?_⟩
 ·refine wZ.far' ?_ (wZ.far' ?_ (wZ.far' ?_ (wZ.set' (by rfl) (wZ.far' ?_ g2.out))))<;>first|(simp;done)|(simp;omega)
 ·have:=gP hb3 (some g);(repeat'(first|(with_reducible assumption)|(with_reducible exact World.grownBy.refl _ _)|(with_reducible refine vU ?_ _)|(with_reducible refine jS ?_ _)|(with_reducible refine tX ?_ ?_ _)|(with_reducible refine eI ?_)|(exact .inl rfl)|(refine .inr ?_;simp;done)|(refine .inr ?_;simp;omega)|(refine .inr ?_;omega)))
set_option maxHeartbeats 1000000 in
theorem zcN(g:Nat)(s:ByteArray)(i:Nat)(w:World)(hs:s.size≤4000)(h0:i<s.size)(hb:wZ w g 152 #[.string s,.int .i64 i])(hl:WQ s[i].toNat=false)(hd:isDN s[i].toNat=false)(ht:dK (s.data.toList.drop i)=false)(hsg:Yt s[i]=false):
  Calls Tryz.prog 92 #[.pointer (some ⟨g,0,none⟩)] w λe w'=>e=.returned (.tuple #[.agg #[.int .i64 3,.int .i64 i,.string ⟨#[]⟩],.int .i64 1])∧w.grownBy w' (some g):=by
 have HB:=Lib.hid hb;have c0:w.cell? ⟨g,0,none⟩=some (.string s):=hb.cell 0;have c1:w.cell? ⟨g,1,none⟩=some (.int .i64 i):=hb.cell 1;have hgl:=hb.lt;have hss:=UInt8.toNat_lt s[i];clear hb
 go_enter Tryz.func92,Tryz.ntmps92
 go_wp2_with (first
  |(go_at_call 144;refine(RW g s i _ hs h0 (by have:=HB.out;(repeat'(first|(with_reducible assumption)|(with_reducible refine wZ.drewN ?_ _)|(with_reducible refine wZ.alloc ?_ _)|(with_reducible refine wZ.drew ?_)|(with_reducible refine wZ.far' ?_ ?_;(first|(simp;done)|(simp;omega)|omega))|(with_reducible apply wZ.set';rotate_left)|rfl)))).mono ?_;rintro e w' ⟨rfl,q,rfl⟩)
  |(go_at_call 145;refine(aD _ (by assumption) _).mono ?_;rintro e w' ⟨rfl,rfl⟩)
  |(go_at_call 148;refine(Wy _ (by assumption) _).mono ?_;rintro e w' ⟨rfl,rfl⟩)
  |(go_at_call 150;refine(Kj _).mono ?_;rintro e w1 ⟨v,rfl,hv,hb1⟩))
 have g1:wZ w1 g 152 #[.string s,.int .i64 i]:=wZ.below (by have:=HB.out;(repeat'(first|(with_reducible assumption)|(with_reducible refine wZ.drewN ?_ _)|(with_reducible refine wZ.alloc ?_ _)|(with_reducible refine wZ.drew ?_)|(with_reducible refine wZ.far' ?_ ?_;(first|(simp;done)|(simp;omega)|omega))|(with_reducible apply wZ.set';rotate_left)|rfl))) hb1 (by simp;omega)
 have bc:wZ w1 w.heap.size _ _:=wZ.below ((((wZ.new' _ _ rfl).alloc _).alloc _).drewN _) hb1 (by simp;omega)
 have br:wZ w1 (w.heap.size+1) _ _:=wZ.below (((wZ.new' _ _ (by simp)).alloc _).drewN _) hb1 (by simp)
 have bt:wZ w1 (w.heap.size+1+1) _ _:=wZ.below ((wZ.new' _ _ (by simp)).drewN _) hb1 (by simp)
 have hb0:Below w.heap.size w w1:=Mi (by(repeat'(first|(with_reducible exact Below.refl _ _)|(with_reducible assumption)|(with_reducible refine vK ?_ _)|(with_reducible refine Below.alloc ?_ ?_ _)|(with_reducible refine Below.setCell ?_ ?_ _)|(with_reducible refine Below.drew ?_)|go_size))) hb1
 clear hb1;have HV:=Lib.hid hv;have hn0:=bc.lt;clear hv;refine(BX g w.heap.size s i w1 hs (by omega) hn0 (bc.cell 0) g1 v HV.out).mono ?_
 rintro e w2 ⟨rfl,hb2⟩;rw[ht];have g2:=Lib.hid (g1.below hb2 g1.lt);have bc2:=bc.below hb2 bc.lt;have br2:=br.below hb2 br.lt;have bt2:=bt.below hb2 bt.lt;have hs1:w2.heap.size>w.heap.size+1+1:=bt2.lt;have hb3:Below w.heap.size w w2:=Mi hb0 hb2;clear g1 bc br bt hb2 hb0 hn0 c0 c1 HV;have c0:w2.cell? ⟨g,0,none⟩=some (.string s):=g2.out.cell 0;have c1:w2.cell? ⟨g,1,none⟩=some (.int .i64 i):=g2.out.cell 1;have f1:w2.frozen? ⟨g,1,none⟩=false:=g2.out.frozen 1;have k0:w2.cell? ⟨w.heap.size,0,none⟩=some (.pointer (some ⟨g,0,none⟩)):=bc2.cell 0;have t0:w2.cell? ⟨w.heap.size+1+1,0,none⟩=some (.int .i64 3):=bt2.cell 0;have t1:w2.cell? ⟨w.heap.size+1+1,1,none⟩=some (.int .i64 i):=bt2.cell 1;have t2:w2.cell? ⟨w.heap.size+1+1,2,none⟩=some (.string ⟨#[]⟩):=bt2.cell 2;have r0:w2.cell? ⟨w.heap.size+1,0,none⟩=some (.int .i64 0):=br2.cell 0;have r1:w2.cell? ⟨w.heap.size+1,1,none⟩=some (.int .i64 0):=br2.cell 1;have r2:w2.cell? ⟨w.heap.size+1,2,none⟩=some (.string ⟨#[]⟩):=br2.cell 2;have ft:∀k,w2.frozen? ⟨w.heap.size+1+1,k,none⟩=false:=bt2.frozen;have fr:∀k,w2.frozen? ⟨w.heap.size+1,k,none⟩=false:=br2.frozen;clear bc2 br2 bt2;have HT:=Lib.hid ht;clear ht;obtain⟨k,hk⟩:∃k,k=Lib.indexByte [91,93,59,58,44,45] s[i]:=⟨_,rfl⟩;have hk0:¬0≤k:=by rw[hk];intro h;rw[(GJ _).2 h]at hsg;cases hsg
 have HI:Hid (∀W,Calls Tryz.prog 153 #[.string ⟨#[91,93,59,58,44,45]⟩,.int .u8 s[i].toNat] W λe w'=>e=.returned (.int .i64 k)∧W=w'):=λW=>by
  refine(Tryz.strings_IndexByte _ _ W).mono λe w' ⟨h1,h2⟩=>⟨?_,h2.symm⟩
  rw[h1,hk];simp
 clear hk
 go_wp2_with (go_at_call 153;refine(HI.out _).mono ?_;rintro e w' ⟨rfl,rfl⟩);refine bodyPost_ret (v:=.tuple #[.agg #[.int .i64 3,.int .i64 i,.string ⟨#[]⟩],.int .i64 1]) (by simp[results,Tryz.results92,go_sem,r0,r1,r2]) rfl ⟨rfl,?_⟩
 have:=gP hb3 (some g);(repeat'(first|(with_reducible assumption)|(with_reducible exact World.grownBy.refl _ _)|(with_reducible refine vU ?_ _)|(with_reducible refine jS ?_ _)|(with_reducible refine tX ?_ ?_ _)|(with_reducible refine eI ?_)|(exact .inl rfl)|(refine .inr ?_;simp;done)|(refine .inr ?_;simp;omega)|(refine .inr ?_;omega)))
theorem zfu(g:Nat)(s:ByteArray)(i:Nat)(w:World)(hs:s.size≤4000)(h0:i<s.size)(hb:wZ w g 152 #[.string s,.int .i64 i]):
  Calls Tryz.prog 92 #[.pointer (some ⟨g,0,none⟩)] w λe w'=>∃k x,e=.returned (.tuple #[.agg #[.int .i64 k,.int .i64 i,.string x],.int .i64 (vY (zW (s.data.toList.drop i)).1 (zW (s.data.toList.drop i)).2 s[i])])∧w.grownBy w' (some g)∧
   (vY (zW (s.data.toList.drop i)).1 (zW (s.data.toList.drop i)).2 s[i]=0→k=(zW (s.data.toList.drop i)).1∧x=s.extract i (i+(zW (s.data.toList.drop i)).2)∧wZ w' g 152 #[.string s,.int .i64 ↑(i+(zW (s.data.toList.drop i)).2)]):=by
 have hd:=mU s i h0;cases hl:WQ s[i].toNat with
 |true=>
  refine(BW g s i w hs h0 hb hl).mono ?_;rintro e w' ⟨n,er,rfl,hn,he,hbl,hg⟩
  have ht:zW (s.data.toList.drop i)=(1,n):=by
   rw[hn,hd,zW,if_pos (show isL s[i]=true from hl),List.takeWhile_cons,if_pos (by simp[hl])]
   simp[Nat.add_comm];rfl
  rw[ht];have hb':vY 1 n s[i]=er:=by rw[he];simp[vY]
  rw[hb'];exact⟨1,_,rfl,hg,λ_=>⟨rfl,rfl,hbl⟩⟩
 |false=>
  cases hdg:isDN s[i].toNat with
  |true=>
   refine(zay g s i w hs h0 hb hl hdg).mono ?_;rintro e w' ⟨n,er,rfl,hn,he,hbl,hg⟩
   have ht:zW (s.data.toList.drop i)=(2,n):=by
    rw[hn,hd,zW,if_neg (show¬isL s[i]=true by unfold isL;simp[hl]),if_pos (show isD s[i]=true from hdg),List.takeWhile_cons,if_pos (by simp[hdg])]
    simp[Nat.add_comm];rfl
   rw[ht];have hb':vY 2 n s[i]=er:=by rw[he];simp[vY]
   rw[hb'];exact⟨2,_,rfl,hg,λ_=>⟨rfl,rfl,hbl⟩⟩
  |false=>
   have nl:¬isL s[i]=true:=by unfold isL;simp[hl]
   have nd:¬isD s[i]=true:=by unfold isD;simp[hdg]
   cases ht2:dK (s.data.toList.drop i)with
   |true=>
    have h2:i+2≤s.size:=by
     rw[hd]at ht2
     cases hr:s.data.toList.drop (i+1)with
     |nil=>rw[hr]at ht2;simp[dK]at ht2
     |cons a r=>
      have:=congrArg List.length hr;simp at this;omega
    refine(zfs g s i w hs h0 hb hl hdg ht2 h2).mono ?_;rintro e w' ⟨rfl,hbl,hg⟩
    have ht:zW (s.data.toList.drop i)=(3,2):=by
     rw[hd]at ht2⊢
     rw[zW,if_neg nl,if_neg nd,if_pos ht2]
    rw[ht];exact⟨3,_,rfl,hg,λ_=>⟨rfl,rfl,hbl⟩⟩
   |false=>
    cases hsg:Yt s[i]with
    |true=>
     refine(zcM g s i w hs h0 hb hl hdg ht2 hsg).mono ?_;rintro e w' ⟨rfl,hbl,hg⟩
     have ht:zW (s.data.toList.drop i)=(3,1):=by
      rw[hd]at ht2⊢
      rw[zW,if_neg nl,if_neg nd,if_neg (by simp[ht2]),if_pos hsg]
     rw[ht];exact⟨3,_,rfl,hg,λ_=>⟨rfl,rfl,hbl⟩⟩
    |false=>
     refine(zcN g s i w hs h0 hb hl hdg ht2 hsg).mono ?_;rintro e w' ⟨rfl,hg⟩
     have ht:zW (s.data.toList.drop i)=(0,0):=by
      rw[hd]at ht2⊢
      rw[zW,if_neg nl,if_neg nd,if_neg (by simp[ht2]),if_neg (by simp[hsg])]
     rw[ht];exact⟨3,_,rfl,hg,λh=>by simp[vY]at h⟩
end Go.Proofs.YtogdmcebojiojaaGreatDoor
namespace Go.Proofs.YtogdmcebojiojaaGreatDoor
open Go.RowKit
set_option linter.unusedVariables false
set_option linter.unusedSimpArgs false
theorem MJ:Mj Tryz.prog 76 154 3 32:=Mj.mk' Tryz.underlying76 (z:=.agg #[.int .i64 0,.int .i64 0,.string ⟨#[]⟩]) (by kernel_rfl) rfl
theorem zho(s:ByteArray)(w:World)(hs:4000<s.size):Calls Tryz.prog 41 #[.string s] w λe w'=>e=.returned (.tuple #[.slice none 0 0,.int .i64 0,.int .i64 2])∧w=w':=by
 go_enter Tryz.func41,Tryz.ntmps41
 go_wp2_with fail
 go_ret3
 exact⟨rfl,rfl⟩
theorem GK{α:Type}[vS α]{w w':World}{lo base g:Nat}{E:TypeId}{v:Value}{xs:List α}(h:Own w lo base E v xs)(hg:w.grownBy w' (some g))(hlt:g<lo):Own w' lo base E v xs:=
 h.kept hg.size λb hb hb'=>hg.block b hb' λe=>by injection e with e;omega
theorem Yw{α:Type}[vS α](w:World)(B:Nat):WE w B (.slice none 0 0) ([]:List α):=
 ⟨[_],rfl,none,0,rfl,by simp,by simp,by simp,λ_=>rfl,λh=>absurd h (by simp)⟩
theorem WS(s:ByteArray)(i n:Nat):s.extract i (i+n)=bs ((s.data.toList.drop i).take n):=by
 apply ByteArray.ext;rw[ByteArray.data_extract];apply Array.ext';simp only[Array.toList_extract,List.extract_eq_take_drop,bs]
 congr 1;omega
theorem GL:∀(l:List UInt8) (note:Bool),tA (l.drop (tA l note)) false=0:=by
 intro l note;cases h:l.drop (tA l note)with
 |nil=>rfl
 |cons c r=>
  obtain⟨h1,h2⟩:=Yu l note c r h;rw[tA,if_neg (by simpa using h1),if_neg (by simp[h2])]
set_option maxHeartbeats 1000000 in
theorem zcO(s:ByteArray)(w:World)(hs:s.size≤4000):Calls Tryz.prog 41 #[.string s] w λe w'=>
  ∃v,e=.returned (.tuple #[v,.int .i64 (vM s.data.toList 0 false [] 0).2.1,.int .i64 (vM s.data.toList 0 false [] 0).2.2])∧WE w' w.heap.size v (vM s.data.toList 0 false [] 0).1∧Below w.heap.size w w':=by
 obtain⟨R,hR⟩:∃R,R=vM s.data.toList 0 false [] 0:=⟨_,rfl⟩;rw[←hR];have HR:=Lib.hid hR;clear hR
 go_enter Tryz.func41,Tryz.ntmps41
 go_wp2_with (go_at_call 91;refine(zav w.heap.size s 0 _ hs (by omega) (wZ.new' _ _ rfl)).mono ?_;rintro e w1 ⟨rfl,hb1,hg1⟩)
 have hh:0+tA (s.data.toList.drop 0) false≤s.size:=by have:=UO (s.data.toList.drop 0) false;simpa using this
 obtain⟨i0,hi0⟩:∃i0,i0=0+tA (s.data.toList.drop 0) false:=⟨_,rfl⟩;rw[←hi0]at hb1 hh
 have HB1:=Lib.hid hb1
 have hr0:Hid (vM (s.data.toList.drop i0) i0 false [] 0=R∧tA (s.data.toList.drop i0) false=0):=by
  show _∧_
  rw[HR.out,eM s.data.toList 0 false []];simp only[List.drop_zero,Nat.zero_add]at hi0
  rw[hi0,Nat.zero_add];exact⟨rfl,GL _ _⟩
 have hw1:Below w.heap.size w w1:=YK (O4 (gP (by(repeat'(first|(with_reducible exact Below.refl _ _)|(with_reducible assumption)|(with_reducible refine vK ?_ _)|(with_reducible refine Below.alloc ?_ ?_ _)|(with_reducible refine Below.setCell ?_ ?_ _)|(with_reducible refine Below.drew ?_)|go_size))) (some w.heap.size)) hg1) (Nat.le_refl _) (Nat.le_refl _)
 have hsz1:w.heap.size+1≤w1.heap.size:=hb1.lt;clear hi0 hb1 hg1
 go_loopg [6] s.size (λn v wr=>∃(i:Nat) (xs:List vL),i≤s.size∧s.size-i≤n∧xs.length≤i∧Hid (wZ wr w.heap.size 152 #[.string s,.int .i64 i])∧Hid (Own wr (w.heap.size+1) (w.heap.size+1) 154 v xs)∧
  Hid (vM (s.data.toList.drop i) i false xs 0=R∧tA (s.data.toList.drop i) false=0)∧Below w.heap.size w wr∧w.heap.size+1≤wr.heap.size)
 case atStart=>exact⟨i0,[],hh,by omega,Nat.zero_le _,HB1.out,Own.nil _ _ (Nat.le_refl _),hr0,hw1,hsz1⟩
 case round=>
  obtain⟨i,xs,hi,hm,hxs,HB,HO,HS,hw,hsz⟩:=hrel;clear hr0 HB1 hw1 hsz1 hh;have c1:wr.cell? ⟨w.heap.size,1,none⟩=some (.int .i64 i):=HB.out.cell 1
  by_cases hlt:i<s.size
  ·have hlt':(i:Int)<(s.size:Int):=by omega
   have hd:=Lib.hid (mU s i hlt);have hnx:=Yu (s.data.toList.drop i) false s[i] (s.data.toList.drop (i+1)) (by rw[HS.out.2,List.drop_zero];exact hd.out)
   have hstep:Hid (vM (s.data.toList.drop i) i false xs 0=if vY (zW (s.data.toList.drop i)).1 (zW (s.data.toList.drop i)).2 s[i]=0 then vM (s.data.toList.drop (i+1)) (i+1) false (xs++[⟨(zW (s.data.toList.drop i)).1,i,bs ((s.data.toList.drop i).take (zW (s.data.toList.drop i)).2)⟩]) ((zW (s.data.toList.drop i)).2-1)else([],i,vY (zW (s.data.toList.drop i)).1 (zW (s.data.toList.drop i)).2 s[i])):=by
    show _=_
    rw[hd.out,vM,if_neg (by simpa using hnx.1),if_neg (by simp[hnx.2])]
   have hle:=Nl (s.data.toList.drop i);have hpos:=RT (s.data.toList.drop i);have hkk:=TW (s.data.toList.drop i);generalize hta:zW (s.data.toList.drop i)=kn at hstep hle hpos hkk
   obtain⟨kd,n⟩:=kn;have hcall:=zfu w.heap.size s i wr hs hlt HB.out;rw[hta]at hcall
   simp only at hcall hstep hle hpos hkk
   generalize hbd:vY kd n s[i]=bd at hcall hstep
   have HC:=Lib.hid hcall;have HTA:=Lib.hid hta;have HBD:=Lib.hid hbd;clear hcall hta hbd hnx
   by_cases hb0:bd=0
   ·subst hb0
    go_wp2_with (first
     |(
       go_at_call 92
       refine HC.out.mono ?_;rintro e w2 ⟨k,x,rfl,hg2,hok⟩;obtain⟨rfl,rfl,hbl⟩:=hok rfl;have hown2:=Lib.hid (GK HO.out hg2 (by omega))
       have HBL:=Lib.hid hbl;have HG2:=Lib.hid hg2;have hsz2:=hg2.size;clear hok hbl hg2)
     |(
       at_builtin
       refine mX (α:=vL) rfl (.tmp 36) (.tmp 38) rfl MJ rfl (hown2.out.alloc _) rfl (by simp) (y:=⟨kd,i,s.extract i (i+n)⟩) ⟨rfl,by unfold yJ;simp;omega,by unfold yJ;simp;omega,by rw[ByteArray.size_extract];simp;omega⟩ (by simp only[vS.bytes];omega) (by omega) (by simp;omega) ?_
       rintro v' w3 hown3 hg3 hb3;have HO3:=Lib.hid hown3;have hbl3:wZ w3 w.heap.size 152 #[.string s,.int .i64 ↑(i+n)]:=wZ.below (HBL.out.alloc _) hb3 (by omega)
       have HBL3:=Lib.hid hbl3;have HB3:=Lib.hid hb3;clear hown3 hg3 hbl3 hb3))
    have hn1:1≤n:=hpos (by intro h;subst h;have:=HBD.out;simp[vY]at this)
    have hln:i+n≤s.size:=by simp at hle;omega
    refine(zav w.heap.size s (i+n) w3 hs hln HBL3.out).mono ?_;rintro e w4 ⟨rfl,hb4,hg4⟩;have hsk:=UO (s.data.toList.drop (i+n)) false;have hsk0:=GL (s.data.toList.drop (i+n)) false;rw[List.drop_drop]at hsk0
    obtain⟨i2,hi2⟩:∃i2,i2=i+n+tA (s.data.toList.drop (i+n)) false:=⟨_,rfl⟩;rw[←hi2]at hb4 hsk0
    have hi2l:i2≤s.size:=by simp at hsk;omega
    have HI2:=Lib.hid hi2;have hge:i+n≤i2:=by omega
    clear hi2 hsk;have hO4:Hid (Own w4 (w.heap.size+1) (w.heap.size+1) 154 v' (xs++[⟨kd,i,s.extract i (i+n)⟩])):=GK HO3.out hg4 (by omega)
    have hS4:Hid (vM (s.data.toList.drop i2) i2 false (xs++[⟨kd,i,s.extract i (i+n)⟩]) 0=R∧tA (s.data.toList.drop i2) false=0):=by
     refine⟨?_,hsk0⟩
     rw[←HS.out.1,hstep.out,if_pos (by first|exact HBD.out|trivial),←WS,aC (s.data.toList.drop (i+1)) _ _ _ (n-1) (by simp;omega),List.drop_drop,
       show i+1+(n-1)=i+n from by omega,eM (s.data.toList.drop (i+n)),List.drop_drop,←HI2.out]
    have z3:=HB3.out.size;have z4:=hg4.size;simp only[World.size_alloc]at z3
    have hB4:Below w.heap.size w w4:=by
     have b1:=hw.trans (YK HG2.out (Nat.le_refl _) (by omega))
     have b2:Below w.heap.size w w3:=(b1.alloc (by omega) _).trans (HB3.out.mono (by omega))
     exact b2.trans (YK hg4 (Nat.le_refl _) (by omega))
    have hlen4:(xs++[(⟨kd,i,s.extract i (i+n)⟩:vL)]).length≤i2:=by simp;omega
    have hsz4:w.heap.size+1≤w4.heap.size:=by omega
    have HBL4:=Lib.hid hb4;clear hg4 hb4 HO3 HBL3 HB3 hsk0
    go_wp2_with fail
    go_roundg (s.size-i2)
    case measure=>omega
    case rel=>exact⟨i2,_,hi2l,Nat.le_refl _,hlen4,HBL4,hO4,hS4,hB4,hsz4⟩
   ·have hb0':(bd !=0)=true:=by simp[hb0]
    have H0:=Lib.hid hb0;clear hb0
    go_wp2_with (go_at_call 92;refine(HC.out).mono ?_;rintro e w2 ⟨k,x,rfl,hg2,hok⟩)
    go_quiet (fail)
    go_wp2_with fail
    go_ret3
    have hfin:=HS.out.1;rw[hstep.out,if_neg H0.out]at hfin
    rw[←hfin];have hsz2:=hg2.size;have hwx:=hw.trans (YK hg2 (Nat.le_refl _) (by omega))
    exact⟨_,rfl,Yw _ _,by(repeat'(first|(with_reducible exact Below.refl _ _)|(with_reducible assumption)|(with_reducible refine vK ?_ _)|(with_reducible refine Below.alloc ?_ ?_ _)|(with_reducible refine Below.setCell ?_ ?_ _)|(with_reducible refine Below.drew ?_)|go_size))⟩
  ·have hlt':¬(i:Int)<(s.size:Int):=by omega
   go_wp2_with fail
   go_ret3
   have hfin:=HS.out.1;rw[List.drop_of_length_le (by simpa using hlt),vM]at hfin
   rw[←hfin];exact⟨_,rfl,HO.out.fresh.more (by omega),by(repeat'(first|(with_reducible exact Below.refl _ _)|(with_reducible assumption)|(with_reducible refine vK ?_ _)|(with_reducible refine Below.alloc ?_ ?_ _)|(with_reducible refine Below.setCell ?_ ?_ _)|(with_reducible refine Below.drew ?_)|go_size))⟩
end Go.Proofs.YtogdmcebojiojaaGreatDoor
namespace Go.Proofs.YtogdmcebojiojaaGreatDoor
open Go.RowKit
set_option linter.unusedVariables false
set_option linter.unusedSimpArgs false
theorem zaz(s:ByteArray)(i n:Nat):s.extract i (i+n)=bs ((s.data.toList.drop i).take n):=by
 apply ByteArray.ext;rw[ByteArray.data_extract];apply Array.ext';simp only[Array.toList_extract,List.extract_eq_take_drop,bs]
 congr 1;omega
set_option maxHeartbeats 1000000 in
theorem E0(s:ByteArray)(i:Nat)(w:World)(hs:s.size≤4000)(h0:i<s.size)(hl:WQ s[i].toNat=true):
  Calls Tryz.prog 98 #[.string s,.int .i64 i] w λe w'=>e=.returned (.tuple #[.int .i64 1,.int .i64 ↑(1+((s.data.toList.drop (i+1)).takeWhile isW).length)])∧w=w':=by
 have hle:=zaw (p:=isW) (l:=s.data.toList) (j:=i+1) (by simp;omega)
 have hss:=UInt8.toNat_lt s[i];have hlt':(i:Int)<(s.size:Int):=by omega
 obtain⟨n,hn⟩:∃n,n=((s.data.toList.drop (i+1)).takeWhile isW).length:=⟨_,rfl⟩;rw[Xe,←hn]at hle
 rw[←hn];have HN:=Lib.hid hn;clear hn
 go_enter Tryz.func98,Tryz.ntmps98
 go_wp2_with (go_at_call 171;refine(mZ _ (by assumption) _).mono ?_;rintro e w' ⟨rfl,rfl⟩)
 go_loopg [7] s.size (λgg v wr=>∃j:Nat,i+1≤j∧j≤s.size∧s.size-j≤gg∧v=.int .i64 ↑(j-i)∧Hid (j+((s.data.toList.drop j).takeWhile isW).length=i+1+n)∧w=wr)
 case atStart=>exact⟨i+1,Nat.le_refl _,h0,by omega,by simp,by show _=_;rw[HN.out],rfl⟩
 case round=>
  obtain⟨j,hij,hj,hg,rfl,hE,rfl⟩:=hrel;clear hl hss;have e1:(i:Int)+((j-i:Nat):Int)=(j:Int):=by omega
  by_cases hlt:j<s.size
  ·have hjl:(j:Int)<(s.size:Int):=by omega
   have hd:=Lib.hid (mU s j hlt);have hsj:=UInt8.toNat_lt s[j];cases hlj:WQ s[j].toNat with
   |true=>
    have HP:Hid (isW s[j]=true):=by show _=_;simp[isW,isL,hlj]
    go_wp2_with (go_at_call 171;refine(mZ _ (by assumption) _).mono ?_;rintro e w' ⟨rfl,rfl⟩)
    go_roundg (s.size-(j+1))
    case measure=>omega
    case rel=>exact⟨j+1,by omega,by omega,by omega,(by go_num),zeu hd.out HP.out hE.out,rfl⟩
   |false=>
    cases hdj:isDN s[j].toNat with
    |true=>
     have HP:Hid (isW s[j]=true):=by show _=_;simp[isW,isD,hdj]
     go_wp2_with (first|(go_at_call 171;refine(mZ _ (by assumption) _).mono ?_;rintro e w' ⟨rfl,rfl⟩)|(go_at_call 101;refine(jL _ (by assumption) _).mono ?_;rintro e w' ⟨rfl,rfl⟩))
     go_roundg (s.size-(j+1))
     case measure=>omega
     case rel=>exact⟨j+1,by omega,by omega,by omega,(by go_num),zeu hd.out HP.out hE.out,rfl⟩
    |false=>
     have HP:Hid (isW s[j]=false):=by show _=_;simp[isW,isL,isD,hlj,hdj]
     go_wp2_with (first|(go_at_call 171;refine(mZ _ (by assumption) _).mono ?_;rintro e w' ⟨rfl,rfl⟩)|(go_at_call 101;refine(jL _ (by assumption) _).mono ?_;rintro e w' ⟨rfl,rfl⟩))
     go_ret2
     have:=zcJ hd.out HP.out hE.out;exact⟨by rw[show 1+n=j-i from by omega];rfl,rfl⟩
  ·have hjl:decide ((j:Int)<(s.size:Int))=false:=by simp;omega
   go_wp2_with fail
   go_ret2
   have:=zcK (by simpa using hlt) hE.out
   exact⟨by rw[show 1+n=j-i from by omega];rfl,rfl⟩
set_option maxHeartbeats 1000000 in
theorem BZ(s:ByteArray)(i:Nat)(w:World)(hs:s.size≤4000)(h0:i<s.size)(hl:WQ s[i].toNat=false)(hdg:isDN s[i].toNat=true):
  Calls Tryz.prog 98 #[.string s,.int .i64 i] w λe w'=>e=.returned (.tuple #[.int .i64 2,.int .i64 ↑(1+((s.data.toList.drop (i+1)).takeWhile isD).length)])∧w=w':=by
 have hle:=zaw (p:=isD) (l:=s.data.toList) (j:=i+1) (by simp;omega)
 have hss:=UInt8.toNat_lt s[i];have hlt':(i:Int)<(s.size:Int):=by omega
 obtain⟨n,hn⟩:∃n,n=((s.data.toList.drop (i+1)).takeWhile isD).length:=⟨_,rfl⟩;rw[Xe,←hn]at hle
 rw[←hn];have HN:=Lib.hid hn;clear hn
 go_enter Tryz.func98,Tryz.ntmps98
 go_wp2_with (first|(go_at_call 171;refine(mZ _ (by assumption) _).mono ?_;rintro e w' ⟨rfl,rfl⟩)|(go_at_call 101;refine(jL _ (by assumption) _).mono ?_;rintro e w' ⟨rfl,rfl⟩))
 go_loopg [7] s.size (λgg v wr=>∃j:Nat,i+1≤j∧j≤s.size∧s.size-j≤gg∧v=.int .i64 ↑(j-i)∧Hid (j+((s.data.toList.drop j).takeWhile isD).length=i+1+n)∧w=wr)
 case atStart=>exact⟨i+1,Nat.le_refl _,h0,by omega,by simp,by show _=_;rw[HN.out],rfl⟩
 case round=>
  obtain⟨j,hij,hj,hg,rfl,hE,rfl⟩:=hrel;clear hl hdg hss;have e1:(i:Int)+((j-i:Nat):Int)=(j:Int):=by omega
  by_cases hlt:j<s.size
  ·have hjl:(j:Int)<(s.size:Int):=by omega
   have hd:=Lib.hid (mU s j hlt);have hsj:=UInt8.toNat_lt s[j];cases hdj:isDN s[j].toNat with
   |true=>
    have HP:Hid (isD s[j]=true):=hdj
    go_wp2_with (go_at_call 101;refine(jL _ (by assumption) _).mono ?_;rintro e w' ⟨rfl,rfl⟩)
    go_roundg (s.size-(j+1))
    case measure=>omega
    case rel=>exact⟨j+1,by omega,by omega,by omega,(by go_num),zeu hd.out HP.out hE.out,rfl⟩
   |false=>
    have HP:Hid (isD s[j]=false):=hdj
    go_wp2_with (go_at_call 101;refine(jL _ (by assumption) _).mono ?_;rintro e w' ⟨rfl,rfl⟩)
    go_ret2
    have:=zcJ hd.out HP.out hE.out;exact⟨by rw[show 1+n=j-i from by omega];rfl,rfl⟩
  ·have hjl:decide ((j:Int)<(s.size:Int))=false:=by simp;omega
   go_wp2_with fail
   go_ret2
   have:=zcK (by simpa using hlt) hE.out
   exact⟨by rw[show 1+n=j-i from by omega];rfl,rfl⟩
theorem zaA(s:ByteArray)(i:Nat):(s.extract i (i+2)).toList=(s.data.toList.drop i).take 2:=by
 rw[ByteArray.toList_eq,zaz];rfl
theorem Ch(l:List UInt8):dK l=(l.take 2==[46,46]||l.take 2==[60,61]||l.take 2==[62,61]||l.take 2==[61,61]||l.take 2==[33,61]):=by
 match l with
 |[]=>rfl
 |[a]=>simp[dK]
 |a::b::l=>simp[dK]
theorem UQ{c:UInt8}{k:Nat}(hk:k<256)(h:c≠UInt8.ofNat k):((k:Int)==(c.toNat:Int))=false:=by
 have:=o7 hk h;rw[beq_eq_false_iff_ne]at this⊢;exact λe=>this e.symm
set_option maxHeartbeats 2000000 in
theorem zaB(s:ByteArray)(i:Nat)(w:World)(hs:s.size≤4000)(h0:i<s.size)(hl:WQ s[i].toNat=false)(hdg:isDN s[i].toNat=false)(b1 b2 b3 b4 b5 b6:Bool)
  (e1:(((⟨#[91,93,59,58,44,45]⟩:ByteArray)[0]'(by decide)).toNat==(s[i].toNat:Int))=b1) (e2:(((⟨#[91,93,59,58,44,45]⟩:ByteArray)[1]'(by decide)).toNat==(s[i].toNat:Int))=b2) (e3:(((⟨#[91,93,59,58,44,45]⟩:ByteArray)[2]'(by decide)).toNat==(s[i].toNat:Int))=b3) (e4:(((⟨#[91,93,59,58,44,45]⟩:ByteArray)[3]'(by decide)).toNat==(s[i].toNat:Int))=b4) (e5:(((⟨#[91,93,59,58,44,45]⟩:ByteArray)[4]'(by decide)).toNat==(s[i].toNat:Int))=b5) (e6:(((⟨#[91,93,59,58,44,45]⟩:ByteArray)[5]'(by decide)).toNat==(s[i].toNat:Int))=b6)
  (hx:(b1,b2,b3,b4,b5,b6)=(true,false,false,false,false,false)∨(b1,b2,b3,b4,b5,b6)=(false,true,false,false,false,false)∨(b1,b2,b3,b4,b5,b6)=(false,false,true,false,false,false)∨(b1,b2,b3,b4,b5,b6)=(false,false,false,true,false,false)∨
   (b1,b2,b3,b4,b5,b6)=(false,false,false,false,true,false)∨(b1,b2,b3,b4,b5,b6)=(false,false,false,false,false,true)∨(b1,b2,b3,b4,b5,b6)=(false,false,false,false,false,false)):
  Calls Tryz.prog 98 #[.string s,.int .i64 i] w λe w'=>e=.returned (.tuple #[.int .i64 (if dK (s.data.toList.drop i)=true then 3 else if(b1||b2||b3||b4||b5||b6)=true then 3 else 0),.int .i64 (if dK (s.data.toList.drop i)=true then 2 else if(b1||b2||b3||b4||b5||b6)=true then 1 else 0)])∧w=w':=by
 have hss:=UInt8.toNat_lt s[i];have hlt':(i:Int)<(s.size:Int):=by omega
 cases ht:dK (s.data.toList.drop i)with
 |true=>
  have h2:i+1<s.size:=by
   rcases Nat.lt_or_ge (i+1) s.size with h|h
   ·exact h
   ·rw[mU s i h0,List.drop_of_length_le (by simpa using h)]at ht;simp[dK]at ht
  have h2':(i:Int)+1<(s.size:Int):=by omega
  rw[Ch,←zaA]at ht
  have HT:=Lib.hid ht;clear ht hx
  go_enter Tryz.func98,Tryz.ntmps98
  go_wp2_with (first|(go_at_call 171;refine(mZ _ (by assumption) _).mono ?_;rintro e w' ⟨rfl,rfl⟩)|(go_at_call 101;refine(jL _ (by assumption) _).mono ?_;rintro e w' ⟨rfl,rfl⟩))
  all_goals first
   |(go_ret2;exact⟨rfl,rfl⟩)
   |(exfalso;have:=HT.out;simp_all;done)
 |false=>
  by_cases h2:i+1<s.size
  ·have h2':(i:Int)+1<(s.size:Int):=by omega
   rw[Ch,←zaA]at ht
   simp only[Bool.or_eq_false_iff]at ht
   obtain⟨⟨⟨⟨f1,f2⟩,f3⟩,f4⟩,f5⟩:=ht;rcases hx with h|h|h|h|h|h|h<;>(simp only[Prod.mk.injEq]at h;obtain⟨rfl,rfl,rfl,rfl,rfl,rfl⟩:=h)
   all_goals
    go_enter Tryz.func98,Tryz.ntmps98
    go_wp2_with (first|(go_at_call 171;refine(mZ _ (by assumption) _).mono ?_;rintro e w' ⟨rfl,rfl⟩)|(go_at_call 101;refine(jL _ (by assumption) _).mono ?_;rintro e w' ⟨rfl,rfl⟩))
    go_rounds 7
    go_ret2
    exact⟨by simp,rfl⟩
  ·have h2':¬(i:Int)+1<(s.size:Int):=by omega
   clear ht;rcases hx with h|h|h|h|h|h|h<;>(simp only[Prod.mk.injEq]at h;obtain⟨rfl,rfl,rfl,rfl,rfl,rfl⟩:=h)
   all_goals
    go_enter Tryz.func98,Tryz.ntmps98
    go_wp2_with (first|(go_at_call 171;refine(mZ _ (by assumption) _).mono ?_;rintro e w' ⟨rfl,rfl⟩)|(go_at_call 101;refine(jL _ (by assumption) _).mono ?_;rintro e w' ⟨rfl,rfl⟩))
    go_rounds 7
    go_ret2
    exact⟨by simp,rfl⟩
theorem zhp(s:ByteArray)(i:Nat)(w:World)(hs:s.size≤4000)(h0:i<s.size):
  Calls Tryz.prog 98 #[.string s,.int .i64 i] w λe w'=>e=.returned (.tuple #[.int .i64 ↑(zW (s.data.toList.drop i)).1,.int .i64 ↑(zW (s.data.toList.drop i)).2])∧w=w':=by
 have hd:=mU s i h0;cases hl:WQ s[i].toNat with
 |true=>
  have ht:zW (s.data.toList.drop i)=(1,1+((s.data.toList.drop (i+1)).takeWhile isW).length):=by rw[hd,zW,if_pos (show isL s[i]=true from hl)]
  rw[ht];exact E0 s i w hs h0 hl
 |false=>
  have nl:¬isL s[i]=true:=by unfold isL;simp[hl]
  cases hdg:isDN s[i].toNat with
  |true=>
   have ht:zW (s.data.toList.drop i)=(2,1+((s.data.toList.drop (i+1)).takeWhile isD).length):=by rw[hd,zW,if_neg nl,if_pos (show isD s[i]=true from hdg)]
   rw[ht];exact BZ s i w hs h0 hl hdg
  |false=>
   have nd:¬isD s[i]=true:=by unfold isD;simp[hdg]
   have key:∀b1 b2 b3 b4 b5 b6:Bool,Yt s[i]=(b1||b2||b3||b4||b5||b6)→zW (s.data.toList.drop i)=(if dK (s.data.toList.drop i)=true then 3 else if(b1||b2||b3||b4||b5||b6)=true then 3 else 0,if dK (s.data.toList.drop i)=true then 2 else if(b1||b2||b3||b4||b5||b6)=true then 1 else 0):=by
    intro b1 b2 b3 b4 b5 b6 hb;rw[hd,zW,if_neg nl,if_neg nd,hb];split
    ·rfl
    ·split<;>rfl
   have go:∀b1 b2 b3 b4 b5 b6:Bool,Yt s[i]=(b1||b2||b3||b4||b5||b6)→(((91:Int)==(s[i].toNat:Int))=b1)→(((93:Int)==(s[i].toNat:Int))=b2)→(((59:Int)==(s[i].toNat:Int))=b3)→(((58:Int)==(s[i].toNat:Int))=b4)→(((44:Int)==(s[i].toNat:Int))=b5)→(((45:Int)==(s[i].toNat:Int))=b6)→
     ((b1,b2,b3,b4,b5,b6)=(true,false,false,false,false,false)∨(b1,b2,b3,b4,b5,b6)=(false,true,false,false,false,false)∨(b1,b2,b3,b4,b5,b6)=(false,false,true,false,false,false)∨(b1,b2,b3,b4,b5,b6)=(false,false,false,true,false,false)∨
      (b1,b2,b3,b4,b5,b6)=(false,false,false,false,true,false)∨(b1,b2,b3,b4,b5,b6)=(false,false,false,false,false,true)∨(b1,b2,b3,b4,b5,b6)=(false,false,false,false,false,false))→
     Calls Tryz.prog 98 #[.string s,.int .i64 i] w λe w'=>e=.returned (.tuple #[.int .i64 ↑(zW (s.data.toList.drop i)).1,.int .i64 ↑(zW (s.data.toList.drop i)).2])∧w=w':=by
    intro b1 b2 b3 b4 b5 b6 hb e1 e2 e3 e4 e5 e6 hx;refine(zaB s i w hs h0 hl hdg b1 b2 b3 b4 b5 b6 e1 e2 e3 e4 e5 e6 hx).mono λe w' ⟨h1,h2⟩=>⟨?_,h2⟩
    rw[h1,key b1 b2 b3 b4 b5 b6 hb];split
    ·rfl
    ·split<;>rfl
   by_cases c1:s[i]=91
   ·exact go true false false false false false (by rw[c1];rfl) (by rw[c1];rfl) (by rw[c1];rfl) (by rw[c1];rfl) (by rw[c1];rfl) (by rw[c1];rfl) (by rw[c1];rfl) (by simp)
   by_cases c2:s[i]=93
   ·exact go false true false false false false (by rw[c2];rfl) (by rw[c2];rfl) (by rw[c2];rfl) (by rw[c2];rfl) (by rw[c2];rfl) (by rw[c2];rfl) (by rw[c2];rfl) (by simp)
   by_cases c3:s[i]=59
   ·exact go false false true false false false (by rw[c3];rfl) (by rw[c3];rfl) (by rw[c3];rfl) (by rw[c3];rfl) (by rw[c3];rfl) (by rw[c3];rfl) (by rw[c3];rfl) (by simp)
   by_cases c4:s[i]=58
   ·exact go false false false true false false (by rw[c4];rfl) (by rw[c4];rfl) (by rw[c4];rfl) (by rw[c4];rfl) (by rw[c4];rfl) (by rw[c4];rfl) (by rw[c4];rfl) (by simp)
   by_cases c5:s[i]=44
   ·exact go false false false false true false (by rw[c5];rfl) (by rw[c5];rfl) (by rw[c5];rfl) (by rw[c5];rfl) (by rw[c5];rfl) (by rw[c5];rfl) (by rw[c5];rfl) (by simp)
   by_cases c6:s[i]=45
   ·exact go false false false false false true (by rw[c6];rfl) (by rw[c6];rfl) (by rw[c6];rfl) (by rw[c6];rfl) (by rw[c6];rfl) (by rw[c6];rfl) (by rw[c6];rfl) (by simp)
   exact go false false false false false false (by simp[Yt,c1,c2,c3,c4,c5,c6]) (UQ (k:=91) (by omega) c1) (UQ (k:=93) (by omega) c2) (UQ (k:=59) (by omega) c3) (UQ (k:=58) (by omega) c4) (UQ (k:=44) (by omega) c5) (UQ (k:=45) (by omega) c6) (by simp)
end Go.Proofs.YtogdmcebojiojaaGreatDoor
namespace Go.Proofs.YtogdmcebojiojaaGreatDoor
set_option linter.unusedVariables false
set_option linter.unusedSimpArgs false
def MK(L:List UInt8):Nat→List vL→Prop
 |_,[]=>True
 |lo,t::ts=>∃j n:Nat,lo≤j∧1≤n∧j+n≤L.length∧t.at_=j∧t.text=bs ((L.drop j).take n)∧(∃c r,L.drop j=c::r∧zW (c::r)=(t.kind.toNat,n)∧0≤t.kind∧vY t.kind.toNat n c=0)∧MK L (j+n) ts
theorem MK.mono{L:List UInt8}:∀ {ts:List vL} {lo lo':Nat},lo'≤lo→MK L lo ts→MK L lo' ts
 |[],_,_,_,_=>trivial
 |t::ts,lo,lo',h,⟨j,n,h1,h2⟩=>⟨j,n,by omega,h2⟩
theorem Xj(L:List UInt8):∀(l:List UInt8) (i:Nat) (note:Bool) (out:List vL) (k:Nat),L.drop i=l→k≤l.length→(vM l i note out k).2.2=0→
  ∃new,(vM l i note out k).1=out++new∧MK L (i+k) new∧(vM l i note out k).2.1=0
 |[],i,note,out,k,hL,hk,h=>⟨[],by simp[vM],trivial,by simp[vM]⟩
 |c::r,i,note,out,k+1,hL,hk,h=>by
  have hr:L.drop (i+1)=r:=by rw[←List.drop_drop,hL];rfl
  obtain⟨new,h1,h2,h3⟩:=Xj L r (i+1) note out k hr (by simpa using hk) h
  exact⟨new,h1,by rw[show i+(k+1)=i+1+k from by omega];exact h2,h3⟩
 |c::r,i,note,out,0,hL,hk,h=>by
  have hr:L.drop (i+1)=r:=by rw[←List.drop_drop,hL];rfl
  rw[vM]at h⊢
  by_cases h1:(note||c==37)=true
  ·rw[if_pos h1]at h⊢
   obtain⟨new,a,b,d⟩:=Xj L r (i+1) _ out 0 hr (by omega) h
   exact⟨new,a,b.mono (by omega),d⟩
  ·rw[if_neg h1]at h⊢
   by_cases h2:jK c=true
   ·rw[if_pos h2]at h⊢
    obtain⟨new,a,b,d⟩:=Xj L r (i+1) _ out 0 hr (by omega) h
    exact⟨new,a,b.mono (by omega),d⟩
   ·rw[if_neg h2]at h⊢
    have hle:=Nl (c::r);have hpos:=RT (c::r);cases hta:zW (c::r)with
    |mk kd n=>
     rw[hta]at h hle hpos
     simp only at h hle hpos⊢
     by_cases hb:vY kd n c=0
     ·rw[if_pos hb]at h⊢
      have hn:1≤n:=hpos (by rintro rfl;simp[vY]at hb)
      obtain⟨new,a,b,d⟩:=Xj L r (i+1) _ _ (n-1) hr (by simp at hle;omega) h
      have hll:L.length=i+(r.length+1):=by
       have:=congrArg List.length hL;simp at this;omega
      refine⟨⟨kd,i,bs ((c::r).take n)⟩::new,by rw[a];simp,⟨i,n,by omega,hn,by simp at hle;omega,rfl,by rw[hL],⟨c,r,hL,by simpa using hta,by simp,by simpa using hb⟩,?_⟩,d⟩
      rw[show i+n=i+1+(n-1)from by omega];exact b
     ·rw[if_neg hb]at h
      exact absurd h hb
theorem UR(L:List UInt8):∀(l:List UInt8) (i:Nat) (note:Bool) (out:List vL) (k:Nat),(vM l i note out k).2.2≠0→(vM l i note out k).1=[]
 |[],i,note,out,k,h=>by simp[vM]at h
 |c::r,i,note,out,k+1,h=>UR L r (i+1) note out k h
 |c::r,i,note,out,0,h=>by
  rw[vM]at h⊢
  by_cases h1:(note||c==37)=true
  ·rw[if_pos h1]at h⊢;exact UR L r _ _ _ _ h
  ·rw[if_neg h1]at h⊢
   by_cases h2:jK c=true
   ·rw[if_pos h2]at h⊢;exact UR L r _ _ _ _ h
   ·rw[if_neg h2]at h⊢
    by_cases hb:vY (zW (c::r)).1 (zW (c::r)).2 c=0
    ·simp only[if_pos hb]at h⊢;exact UR L r _ _ _ _ h
    ·simp only[if_neg hb]
theorem zfv{l:List UInt8}(h:(uZ l).2.2≠0):(uZ l).1=[]:=by
 unfold uZ at h⊢
 split
 ·rfl
 ·rename_i hh;rw[if_neg hh]at h;exact UR l _ _ _ _ _ h
theorem Xk{l:List UInt8}(h:(uZ l).2.2=0):MK l 0 (uZ l).1∧(uZ l).2.1=0∧l.length≤4000:=by
 unfold uZ at h⊢
 split
 ·rename_i hh;rw[if_pos hh]at h;simp at h
 ·rename_i hh
  rw[if_neg hh]at h
  obtain⟨new,a,b,d⟩:=Xj l l 0 false [] 0 rfl (by omega) h
  rw[a];exact⟨b,d,by omega⟩
theorem zcP{c:UInt8}{r:List UInt8}(h:(zW (c::r)).1≠0):c≠37∧jK c=false:=by
 have key:∀d:UInt8,(d=37∨d=32∨d=9∨d=10)→c=d→False:=by
  intro d hd hc;apply h;subst hc;have h1:isL c=false:=by rcases hd with rfl|rfl|rfl|rfl<;>decide
  have h2:isD c=false:=by rcases hd with rfl|rfl|rfl|rfl<;>decide
  have h3:Yt c=false:=by rcases hd with rfl|rfl|rfl|rfl<;>decide
  have h4:dK (c::r)=false:=by
   cases r with
   |nil=>rfl
   |cons a r=>rcases hd with rfl|rfl|rfl|rfl<;>simp[dK]
  rw[zW,if_neg (by simp[h1]),if_neg (by simp[h2]),if_neg (by simp[h4]),if_neg (by simp[h3])]
 refine⟨λe=>key 37 (by simp) e,?_⟩
 cases hb:jK c with
 |false=>rfl
 |true=>
  simp only[jK,Bool.or_eq_true,beq_iff_eq]at hb
  rcases hb with(e|e)|e
  ·exact(key 32 (by simp) e).elim
  ·exact(key 9 (by simp) e).elim
  ·exact(key 10 (by simp) e).elim
theorem zjb(kind:Int)(s:ByteArray):((uZ s.data.toList).2.2=0∧∃t,(uZ s.data.toList).1=[t]∧t.kind=kind∧t.text=s)↔dN kind s.data.toList=true:=by
 constructor
 ·rintro⟨h,t,ht,hk,hx⟩
  obtain⟨hc,_,hl⟩:=Xk h;rw[ht]at hc
  obtain⟨j,n,h0,h1,h2,h3,h4,⟨c,r,h5,h6,h7,h8⟩,_⟩:=hc;have hsz:(bs ((s.data.toList.drop j).take n)).data.toList.length=n:=by simp[bs];simp at h2;omega
  rw[←h4,hx]at hsz
  have hj:j=0:=by omega
  subst hj;rw[List.drop_zero]at h5
  rw[h5]at h2 hl hsz⊢
  simp only[dN,h6];simp[h8,←hk];simp at hl hsz
  refine⟨⟨by omega,?_⟩,by omega⟩
  omega
 ·intro h
  cases hs:s.data.toList with
  |nil=>rw[hs]at h;cases h
  |cons c r=>
   rw[hs]at h
   simp only[dN,Bool.and_eq_true,decide_eq_true_eq]at h
   obtain⟨⟨⟨h1,h2⟩,h3⟩,h4⟩:=h;have hk0:(zW (c::r)).1≠0:=by intro e;rw[e]at h4;simp[vY]at h4
   obtain⟨n37,nbl⟩:=zcP hk0
   have hsc:uZ (c::r)=([⟨kind,0,s⟩],0,0):=by
    unfold uZ;rw[if_neg (by omega),vM,if_neg (by simpa using n37),if_neg (by simp[nbl])]
    have h4':vY (zW (c::r)).1 (c::r).length c=0:=by rw[←h3];exact h4
    simp only[h3,h2];rw[if_pos h4'];rw[aC r _ _ _ _ (by simp),List.take_of_length_le (by simp),List.drop_of_length_le (by simp),vM,←hs]
    rfl
   rw[hsc];exact⟨rfl,_,rfl,rfl,rfl⟩
end Go.Proofs.YtogdmcebojiojaaGreatDoor
namespace Go.Proofs.YtogdmcebojiojaaGreatDoor
open Go.RowKit
set_option linter.unusedVariables false
set_option linter.unusedSimpArgs false
theorem zew{a b:ByteArray}(h:a≠b):(a.toList==b.toList)=false:=by
 rw[beq_eq_false_iff_ne,ByteArray.toList_eq,ByteArray.toList_eq];exact λe=>h (by cases a;cases b;simp at e;rw[e])
theorem zjc{a b:ByteArray}(h:a=b):(a.toList==b.toList)=true:=by subst h;simp
theorem zaC(kind:Int)(s:ByteArray)(h0:0<s.size)(hs:s.size≤4000){k n:Nat}(ht:zW s.data.toList=(k,n)):
  dN kind s.data.toList=(decide ((k:Int)=kind)&&decide (n=s.size)&&decide (vY k n s[0]=0)):=by
 have hd:=mU s 0 h0;rw[List.drop_zero]at hd
 have hl:s.data.toList.length=s.size:=Xe s;rw[hd]at ht hl⊢
 simp only[dN];rw[hl,ht];simp[hs]
set_option maxHeartbeats 1000000 in
theorem zaD(kind:Int)(s:ByteArray)(w:World)(hz:s.size≤140737488355328):Calls Tryz.prog 99 #[.int .i64 kind,.string s] w λe w'=>e=.returned (.bool (dN kind s.data.toList))∧w=w':=by
 by_cases h0:s.size=0
 ·have hr:dN kind s.data.toList=false:=by
   have:s.data.toList=[]:=List.eq_nil_of_length_eq_zero (by simpa using h0)
   rw[this];rfl
  rw[hr];have h1:s.toList=[]:=by rw[ByteArray.toList_eq];exact List.eq_nil_of_length_eq_zero (by simpa using h0)
  have h2:s.toList.isEmpty=true:=by rw[h1];rfl
  clear h1
  go_enter Tryz.func99,Tryz.ntmps99
  go_wp2_with fail
  go_ret
  exact⟨rfl,rfl⟩
 ·have h1:s.toList.isEmpty=false:=by
   rw[ByteArray.toList_eq];cases h:s.data.toList with
   |nil=>exact absurd (by have:=congrArg List.length h;simpa using this) h0
   |cons a l=>rfl
  by_cases hs:s.size≤4000
  ·have hs':decide ((4000:Int)<(s.size:Int))=false:=by simp;omega
   by_cases hk:kind=0
   ·subst hk
    have hr:dN 0 s.data.toList=false:=by
     obtain⟨⟨k,n⟩,ht⟩:∃kn,zW s.data.toList=kn:=⟨_,rfl⟩;rw[zaC 0 s (by omega) hs ht]
     by_cases e:k=0
     ·subst e;simp[vY]
     ·simp
      intro h;exact absurd h e
    rw[hr]
    go_enter Tryz.func99,Tryz.ntmps99
    go_wp2_with fail
    go_ret
    exact⟨rfl,rfl⟩
   ·have hk':(kind==0)=false:=by simpa using hk
    have HK:=Lib.hid hk;clear hk;have hcall:=zhp s 0 w hs (by omega)
    rw[List.drop_zero]at hcall
    obtain⟨⟨k,n⟩,ht⟩:∃kn,zW s.data.toList=kn:=⟨_,rfl⟩;have hR:=zaC kind s (by omega) hs ht
    have hkd:=TW s.data.toList;rw[ht]at hcall hkd
    simp only at hkd
    rw[hR];have HC:=Lib.hid hcall;clear hcall ht hR;have hlen:(0:Int)<(s.size:Int):=by omega
    have hss:=UInt8.toNat_lt (s[0]'(by omega))
    by_cases e1:(k:Int)=kind
    ·subst e1
     by_cases e2:n=s.size
     ·have e2':((n:Int)==(s.size:Int))=true:=by simp[e2]
      have e2b:n≤s.size∧s.size≤n:=by omega
      have E2:=Lib.hid e2;clear e2
      match k,hkd,HC,HK,hk' with
      |0,_,_,HK,_=>exact absurd rfl HK.out
      |1,_,HC,_,_=>
       replace HC:Hid (Calls Tryz.prog 98 #[.string s,.int .i64 0] w λe w'=>e=.returned (.tuple #[.int .i64 1,.int .i64 n])∧w=w'):=HC
       clear hk';show Calls Tryz.prog 99 #[.int .i64 1,.string s] w _
       go_enter Tryz.func99,Tryz.ntmps99
       go_wp2_with (go_at_call 98;refine(HC.out).mono ?_;rintro e w' ⟨rfl,rfl⟩)
       all_goals go_ret
       all_goals exact⟨fH (by rw[Bool.eq_iff_iff];simp[vY,E2.out];try omega),rfl⟩
      |2,_,HC,_,_=>
       replace HC:Hid (Calls Tryz.prog 98 #[.string s,.int .i64 0] w λe w'=>e=.returned (.tuple #[.int .i64 2,.int .i64 n])∧w=w'):=HC
       clear hk';show Calls Tryz.prog 99 #[.int .i64 2,.string s] w _
       by_cases e48:s[0]=48
       ·have y48:((s[0].toNat:Int)==48)=true:=bN (k:=48) (by omega) e48
        have E48:=Lib.hid e48;clear e48
        go_enter Tryz.func99,Tryz.ntmps99
        go_wp2_with (go_at_call 98;refine(HC.out).mono ?_;rintro e w' ⟨rfl,rfl⟩)
        all_goals go_ret
        all_goals exact⟨fH (by rw[Bool.eq_iff_iff];simp[vY,E2.out,E48.out];try omega),rfl⟩
       ·have y48:((s[0].toNat:Int)==48)=false:=o7 (k:=48) (by omega) e48
        have E48:=Lib.hid e48;clear e48
        go_enter Tryz.func99,Tryz.ntmps99
        go_wp2_with (go_at_call 98;refine(HC.out).mono ?_;rintro e w' ⟨rfl,rfl⟩)
        all_goals go_ret
        all_goals exact⟨fH (by rw[Bool.eq_iff_iff];simp[vY,E2.out,E48.out];try omega),rfl⟩
      |3,_,HC,_,_=>
       replace HC:Hid (Calls Tryz.prog 98 #[.string s,.int .i64 0] w λe w'=>e=.returned (.tuple #[.int .i64 3,.int .i64 n])∧w=w'):=HC
       clear hk';show Calls Tryz.prog 99 #[.int .i64 3,.string s] w _
       go_enter Tryz.func99,Tryz.ntmps99
       go_wp2_with (go_at_call 98;refine(HC.out).mono ?_;rintro e w' ⟨rfl,rfl⟩)
       all_goals go_ret
       all_goals exact⟨fH (by rw[Bool.eq_iff_iff];simp[vY,E2.out];try omega),rfl⟩
     ·have e2':((n:Int)==(s.size:Int))=false:=by rw[beq_eq_false_iff_ne];omega
      go_enter Tryz.func99,Tryz.ntmps99
      go_wp2_with (go_at_call 98;refine(HC.out).mono ?_;rintro e w' ⟨rfl,rfl⟩)
      go_ret
      exact⟨fH (by simp[e2]),rfl⟩
    ·have e1':((k:Int)==kind)=false:=by simpa using e1
     go_enter Tryz.func99,Tryz.ntmps99
     go_wp2_with (go_at_call 98;refine(HC.out).mono ?_;rintro e w' ⟨rfl,rfl⟩)
     go_ret
     exact⟨fH (by simp[e1]),rfl⟩
  ·have hs':decide ((4000:Int)<(s.size:Int))=true:=by simp;omega
   have hr:dN kind s.data.toList=false:=by
    cases hd:s.data.toList with
    |nil=>rfl
    |cons a l=>
     have:(a::l).length=s.size:=by rw[←hd];exact Xe s
     simp only[dN,this];simp[hs]
   rw[hr]
   go_enter Tryz.func99,Tryz.ntmps99
   go_wp2_with fail
   go_ret
   exact⟨rfl,rfl⟩
theorem zaE(s:ByteArray)(w:World):Calls Tryz.prog 41 #[.string s] w λe w'=>
  ∃v,e=.returned (.tuple #[v,.int .i64 (uZ s.data.toList).2.1,.int .i64 (uZ s.data.toList).2.2])∧WE w' w.heap.size v (uZ s.data.toList).1∧Below w.heap.size w w':=by
 unfold uZ
 by_cases hs:s.data.toList.length>4000
 ·rw[if_pos hs]
  refine(zho s w (by simpa using hs)).mono ?_
  rintro e w' ⟨rfl,rfl⟩;exact⟨_,rfl,Yw _ _,Below.refl _ _⟩
 ·rw[if_neg hs]
  exact zcO s w (by simpa using hs)
set_option maxHeartbeats 1000000 in
theorem zjd(kind:Int)(s:ByteArray)(w:World):Calls Tryz.prog 272 #[.int .i64 kind,.string s] w λe w'=>e=.returned (.bool (dN kind s.data.toList))∧Below w.heap.size w w':=by
 have hiff:=zjb kind s;have hcall:=zaE s w;generalize uZ s.data.toList=R at hiff hcall
 obtain⟨ts,p,er⟩:=R;simp only at hiff hcall
 by_cases he:er=0
 ·subst he
  by_cases h1:ts.length=1
  ·obtain⟨t,rfl⟩:∃t,ts=[t]:=List.length_eq_one_iff.1 h1
   have HI:=Lib.hid hiff;have HC:=Lib.hid hcall;clear hiff hcall h1
   by_cases hk:t.kind=kind
   ·have hk':(t.kind==kind)=true:=by simp[hk]
    by_cases hx:t.text=s
    ·have hr:dN kind s.data.toList=true:=HI.out.1 ⟨rfl,t,rfl,hk,hx⟩
     have hx':=zjc hx;rw[hr];clear hk hx hr
     go_enter Tryz.func272,Tryz.ntmps272
     go_wp2_with (go_at_call 41;refine HC.out.mono ?_;rintro e w1 ⟨v,rfl,hv,hb⟩;obtain⟨A,c,rfl,_⟩:=sO hv.rds;obtain⟨b,o,rfl,_,c0,c1,c2,_⟩:=O3 hv.rds (i:=0) (by simp);simp only[Nat.zero_mul,Nat.add_zero,List.getElem_cons_zero]at c0 c1 c2)
     go_ret
     exact⟨rfl,by(repeat'(first|(with_reducible exact Below.refl _ _)|(with_reducible assumption)|(with_reducible refine vK ?_ _)|(with_reducible refine Below.alloc ?_ ?_ _)|(with_reducible refine Below.setCell ?_ ?_ _)|(with_reducible refine Below.drew ?_)|go_size))⟩
    ·have hr:dN kind s.data.toList=false:=by rw[←Bool.not_eq_true];intro h;obtain⟨_,t',h1,_,h3⟩:=HI.out.2 h;injection h1 with h1;subst h1;exact hx h3
     have hx':=zew hx;rw[hr];clear hk hx hr
     go_enter Tryz.func272,Tryz.ntmps272
     go_wp2_with (go_at_call 41;refine HC.out.mono ?_;rintro e w1 ⟨v,rfl,hv,hb⟩;obtain⟨A,c,rfl,_⟩:=sO hv.rds;obtain⟨b,o,rfl,_,c0,c1,c2,_⟩:=O3 hv.rds (i:=0) (by simp);simp only[Nat.zero_mul,Nat.add_zero,List.getElem_cons_zero]at c0 c1 c2)
     go_ret
     exact⟨rfl,by(repeat'(first|(with_reducible exact Below.refl _ _)|(with_reducible assumption)|(with_reducible refine vK ?_ _)|(with_reducible refine Below.alloc ?_ ?_ _)|(with_reducible refine Below.setCell ?_ ?_ _)|(with_reducible refine Below.drew ?_)|go_size))⟩
   ·have hr:dN kind s.data.toList=false:=by rw[←Bool.not_eq_true];intro h;obtain⟨_,t',h1,h2,_⟩:=HI.out.2 h;injection h1 with h1;subst h1;exact hk h2
    have hk':(t.kind==kind)=false:=by simpa using hk
    rw[hr];clear hk hr
    go_enter Tryz.func272,Tryz.ntmps272
    go_wp2_with (go_at_call 41;refine HC.out.mono ?_;rintro e w1 ⟨v,rfl,hv,hb⟩;obtain⟨A,c,rfl,_⟩:=sO hv.rds;obtain⟨b,o,rfl,_,c0,c1,c2,_⟩:=O3 hv.rds (i:=0) (by simp);simp only[Nat.zero_mul,Nat.add_zero,List.getElem_cons_zero]at c0 c1 c2)
    go_ret
    exact⟨rfl,by(repeat'(first|(with_reducible exact Below.refl _ _)|(with_reducible assumption)|(with_reducible refine vK ?_ _)|(with_reducible refine Below.alloc ?_ ?_ _)|(with_reducible refine Below.setCell ?_ ?_ _)|(with_reducible refine Below.drew ?_)|go_size))⟩
  ·have hr:dN kind s.data.toList=false:=by rw[←Bool.not_eq_true];intro h;obtain⟨_,t',h2,_,_⟩:=hiff.2 h;exact h1 (by rw[h2];rfl)
   have hl':((ts.length:Int)==1)=false:=by rw[beq_eq_false_iff_ne];omega
   have HC:=Lib.hid hcall;clear hiff hcall h1;rw[hr];clear hr
   go_enter Tryz.func272,Tryz.ntmps272
   go_wp2_with (go_at_call 41;refine HC.out.mono ?_;rintro e w1 ⟨v,rfl,hv,hb⟩;obtain⟨A,c,rfl,_⟩:=sO hv.rds)
   go_ret
   exact⟨rfl,by(repeat'(first|(with_reducible exact Below.refl _ _)|(with_reducible assumption)|(with_reducible refine vK ?_ _)|(with_reducible refine Below.alloc ?_ ?_ _)|(with_reducible refine Below.setCell ?_ ?_ _)|(with_reducible refine Below.drew ?_)|go_size))⟩
 ·have hr:dN kind s.data.toList=false:=by rw[←Bool.not_eq_true];intro h;exact he (hiff.2 h).1
  have he':(er==0)=false:=by simpa using he
  have HC:=Lib.hid hcall;clear hiff hcall he;rw[hr];clear hr
  go_enter Tryz.func272,Tryz.ntmps272
  go_wp2_with (go_at_call 41;refine HC.out.mono ?_;rintro e w1 ⟨v,rfl,hv,hb⟩;obtain⟨A,c,rfl,_⟩:=sO hv.rds)
  go_ret
  exact⟨rfl,by(repeat'(first|(with_reducible exact Below.refl _ _)|(with_reducible assumption)|(with_reducible refine vK ?_ _)|(with_reducible refine Below.alloc ?_ ?_ _)|(with_reducible refine Below.setCell ?_ ?_ _)|(with_reducible refine Below.drew ?_)|go_size))⟩
end Go.Proofs.YtogdmcebojiojaaGreatDoor
namespace Go.Proofs.YtogdmcebojiojaaGreatDoor
open Go.RowKit
set_option linter.unusedVariables false
set_option linter.unusedSimpArgs false
theorem zfw(w:World):Calls Tryz.prog 220 #[] w λe w'=>∃b,e=.returned (.slice (some ⟨b,0,none⟩) 16 16)∧(∀j x,Um[j]? =some x→w'.cell? ⟨b,j,none⟩=some (.string x))∧Below w.heap.size w w':=by
 go_enter Tryz.func220,Tryz.ntmps220
 go_wp2_with fail
 go_ret
 refine⟨_,rfl,λj x hx=> ?_,by(repeat'(first|(with_reducible exact Below.refl _ _)|(with_reducible assumption)|(with_reducible refine vK ?_ _)|(with_reducible refine Below.alloc ?_ ?_ _)|(with_reducible refine Below.setCell ?_ ?_ _)|(with_reducible refine Below.drew ?_)|go_size))⟩
 have hj:j<16:=(List.getElem?_eq_some_iff.1 hx).1
 match j,hj,hx with
 |0,_,hx=>injection hx with hx;subst hx;simp;rfl
 |1,_,hx=>injection hx with hx;subst hx;simp;rfl
 |2,_,hx=>injection hx with hx;subst hx;simp;rfl
 |3,_,hx=>injection hx with hx;subst hx;simp;rfl
 |4,_,hx=>injection hx with hx;subst hx;simp;rfl
 |5,_,hx=>injection hx with hx;subst hx;simp;rfl
 |6,_,hx=>injection hx with hx;subst hx;simp;rfl
 |7,_,hx=>injection hx with hx;subst hx;simp;rfl
 |8,_,hx=>injection hx with hx;subst hx;simp;rfl
 |9,_,hx=>injection hx with hx;subst hx;simp;rfl
 |10,_,hx=>injection hx with hx;subst hx;simp;rfl
 |11,_,hx=>injection hx with hx;subst hx;simp;rfl
 |12,_,hx=>injection hx with hx;subst hx;simp;rfl
 |13,_,hx=>injection hx with hx;subst hx;simp;rfl
 |14,_,hx=>injection hx with hx;subst hx;simp;rfl
 |15,_,hx=>injection hx with hx;subst hx;simp;rfl
theorem zfx(s:ByteArray)(w:World):Calls Tryz.prog 218 #[.string s] w λe w'=>e=.returned (.bool (dN 1 s.data.toList))∧Below w.heap.size w w':=by
 have H:=Lib.hid (zjd 1 s w)
 go_enter Tryz.func218,Tryz.ntmps218
 go_wp2_with (go_at_call 272;refine(H.out).mono ?_;rintro e w1 ⟨rfl,hb⟩)
 go_ret
 exact⟨rfl,hb⟩
theorem GM(s:ByteArray):Lib.containsS (Um.take 16) s=Um.any (λu=>u.toList==s.toList):=by
 rw[show Um.take 16=Um from rfl]
 rw[Bool.eq_iff_iff,Lib.containsS_iff,List.any_eq_true];constructor
 ·intro h;exact⟨s,h,by simp⟩
 ·rintro⟨u,hu,he⟩
  rw[beq_iff_eq]at he
  have e:u=s:=Classical.byContradiction λh=>by have:=zew h;simp[he]at this
  subst e;exact hu
theorem zhq(s:ByteArray)(w:World):Calls Tryz.prog 161 #[.string s] w λe w'=>e=.returned (.bool (zD s))∧Below w.heap.size w w':=by
 have H:=Lib.hid (zfx s w);unfold zD;cases hq:dN 1 s.data.toList with
 |false=>
  rw[hq]at H
  clear hq
  go_enter Tryz.func161,Tryz.ntmps161
  go_wp2_with (go_at_call 218;refine(H.out).mono ?_;rintro e w1 ⟨rfl,hb⟩)
  go_ret
  exact⟨rfl,hb⟩
 |true=>
  rw[hq]at H
  clear hq;rw[←GM]
  go_enter Tryz.func161,Tryz.ntmps161
  go_wp2_with (first
   |(go_at_call 218;refine(H.out).mono ?_;rintro e w1 ⟨rfl,hb⟩)
   |(go_at_call 220;refine(zfw _).mono ?_;rintro e w2 ⟨b,rfl,hc,hb2⟩)
   |(go_at_call 219;refine(Tryz.slices_Contains_string b 0 16 16 Um s _ (by decide) (by decide) (by
     intro j hj;rw[Nat.zero_add];refine hc j _ ?_;rw[List.getD_eq_getElem?_getD,List.getElem?_eq_getElem hj];rfl)).mono ?_;rintro e w3 ⟨rfl,rfl⟩))
  go_ret
  exact⟨rfl,Mi hb hb2⟩
set_option maxHeartbeats 1000000 in
theorem zcQ(s:ByteArray)(w:World):Calls Tryz.prog 100 #[.string s] w λe w'=>e=.returned (.bool (Um.any (λu=>u.toList==s.toList)))∧Below w.heap.size w w':=by
 have hlen:Um.length=16:=rfl;obtain⟨L,hL⟩:∃L,L=Um:=⟨_,rfl⟩;rw[←hL];obtain⟨R,hR⟩:∃R,R=L.any (λu=>u.toList==s.toList):=⟨_,rfl⟩
 rw[←hR];rw[←hL]at hlen
 have HL:=Lib.hid hL;have HR:=Lib.hid (show(L.drop 0).any (λu=>u.toList==s.toList)=R by rw[List.drop_zero,hR])
 clear hL hR
 go_enter Tryz.func100,Tryz.ntmps100
 go_wp2_with fail
 generalize hW:w.alloc _=w1;have hB:Below w.heap.size w w1:=by rw[←hW];(repeat'(first|(with_reducible exact Below.refl _ _)|(with_reducible assumption)|(with_reducible refine vK ?_ _)|(with_reducible refine Below.alloc ?_ ?_ _)|(with_reducible refine Below.setCell ?_ ?_ _)|(with_reducible refine Below.drew ?_)|go_size))
 have hC:∀j x,L[j]? =some x→w1.cell? ⟨w.heap.size,j,none⟩=some (.string x):=by
  rw[←hW,HL.out];intro j x hx;have hj:j<16:=(List.getElem?_eq_some_iff.1 hx).1
  match j,hj,hx with
  |0,_,hx=>injection hx with hx;subst hx;simp;rfl
  |1,_,hx=>injection hx with hx;subst hx;simp;rfl
  |2,_,hx=>injection hx with hx;subst hx;simp;rfl
  |3,_,hx=>injection hx with hx;subst hx;simp;rfl
  |4,_,hx=>injection hx with hx;subst hx;simp;rfl
  |5,_,hx=>injection hx with hx;subst hx;simp;rfl
  |6,_,hx=>injection hx with hx;subst hx;simp;rfl
  |7,_,hx=>injection hx with hx;subst hx;simp;rfl
  |8,_,hx=>injection hx with hx;subst hx;simp;rfl
  |9,_,hx=>injection hx with hx;subst hx;simp;rfl
  |10,_,hx=>injection hx with hx;subst hx;simp;rfl
  |11,_,hx=>injection hx with hx;subst hx;simp;rfl
  |12,_,hx=>injection hx with hx;subst hx;simp;rfl
  |13,_,hx=>injection hx with hx;subst hx;simp;rfl
  |14,_,hx=>injection hx with hx;subst hx;simp;rfl
  |15,_,hx=>injection hx with hx;subst hx;simp;rfl
 have HC:=Lib.hid hC;clear hC hW HL
 go_loopg [4] 16 (λgg s4 wr=>∃k:Nat,k≤16∧16-k≤gg∧s4=.int .i64 k∧wr=w1∧Hid ((L.drop k).any (λu=>u.toList==s.toList)=R))
 case atStart=>exact⟨0,Nat.zero_le _,by omega,rfl,rfl,HR⟩
 case round=>
  obtain⟨k,hk,hg,rfl,rfl,HK⟩:=hrel
  by_cases hlt:k<16
  ·have hlt':(k:Int)<16:=by omega
   have hkl:k<L.length:=by omega
   have hc:=HC.out k _ (List.getElem?_eq_getElem hkl);have HK':=HK.out;rw[List.drop_eq_getElem_cons hkl,List.any_cons]at HK'
   cases hq:(L[k].toList==s.toList)with
   |true=>
    rw[hq,Bool.true_or]at HK'
    subst HK'
    go_wp2_with fail
    go_ret
    exact⟨rfl,hB⟩
   |false=>
    rw[hq,Bool.false_or]at HK'
    have HK2:=Lib.hid HK';clear HK'
    go_wp2_with fail
    go_roundg (16-(k+1))
    case measure=>omega
    case rel=>exact⟨k+1,hlt,Nat.le_refl _,(by go_num),rfl,HK2⟩
  ·have hlt':¬(k:Int)<16:=by omega
   have HK':=HK.out;rw[List.drop_eq_nil_of_le (by omega)]at HK'
   subst HK'
   go_wp2_with fail
   go_ret
   exact⟨rfl,hB⟩
theorem zcR(s:ByteArray)(w:World)(hz:s.size≤140737488355328):Calls Tryz.prog 47 #[.string s] w λe w'=>e=.returned (.bool (zD s))∧Below w.heap.size w w':=by
 have H:=Lib.hid (zaD 1 s w hz);unfold zD;cases hq:dN 1 s.data.toList with
 |false=>
  rw[hq]at H
  clear hq
  go_enter Tryz.func47,Tryz.ntmps47
  go_wp2_with (go_at_call 99;refine(H.out).mono ?_;rintro e w1 ⟨rfl,rfl⟩)
  go_ret
  exact⟨rfl,Below.refl _ _⟩
 |true=>
  rw[hq]at H
  clear hq;have H2:=Lib.hid (zcQ s w)
  go_enter Tryz.func47,Tryz.ntmps47
  go_wp2_with (first
   |(go_at_call 99;refine(H.out).mono ?_;rintro e w1 ⟨rfl,rfl⟩)
   |(go_at_call 100;refine(H2.out).mono ?_;rintro e w2 ⟨rfl,hb2⟩))
  go_ret
  exact⟨rfl,hb2⟩
end Go.Proofs.YtogdmcebojiojaaGreatDoor
namespace Go.Proofs.YtogdmcebojiojaaGreatDoor
open Go.RowKit
set_option linter.unusedVariables false
set_option linter.unusedSimpArgs false
theorem B0(s:ByteArray)(w:World)(hs:4000<s.size):Calls Tryz.prog 44 #[.string s] w λe w'=>e=.returned (.tuple #[.slice none 0 0,.int .i64 0,.int .i64 2])∧w=w':=by
 go_enter Tryz.func44,Tryz.ntmps44
 go_wp2_with fail
 go_ret3
 exact⟨rfl,rfl⟩
theorem zfy{c:UInt8}{k:Nat}(hk:k<256):((c.toNat:Int) !=(k:Int))=(c !=UInt8.ofNat k):=by
 by_cases h:c=UInt8.ofNat k
 ·have:=bN hk h
  rw[bne,this,h];simp
 ·have:=o7 hk h
  rw[bne,this];simp[bne,h]
theorem zkS(s:ByteArray)(i n:Nat)(h:i+n≤s.size)(hn:1≤n)(h0:0<(s.extract i (i+n)).size):(s.extract i (i+n))[0]=s[i]'(by omega):=by
 rw[ByteArray.getElem_extract];rfl
set_option maxRecDepth 100000 in
set_option maxHeartbeats 2000000 in
theorem GN(s:ByteArray)(w:World)(hs:s.size≤4000):Calls Tryz.prog 44 #[.string s] w λe w'=>
  ∃v,e=.returned (.tuple #[v,.int .i64 (vM s.data.toList 0 false [] 0).2.1,.int .i64 (vM s.data.toList 0 false [] 0).2.2])∧WE w' w.heap.size v (vM s.data.toList 0 false [] 0).1∧Below w.heap.size w w':=by
 obtain⟨R,hR⟩:∃R,R=vM s.data.toList 0 false [] 0:=⟨_,rfl⟩;rw[←hR];have HR:=Lib.hid hR;clear hR
 go_enter Tryz.func44,Tryz.ntmps44
 go_wp2_with fail
 go_loopg [5,6,7] s.size (λgg vo vn va wr=>∃(i:Nat) (note:Bool) (xs:List vL),i≤s.size∧s.size-i≤gg∧xs.length≤i∧va=.int .i64 i∧vn=.bool note∧Hid (Own wr w.heap.size w.heap.size 154 vo xs)∧
  Hid (vM (s.data.toList.drop i) i note xs 0=R)∧Below w.heap.size w wr)
 case atStart=>exact⟨0,false,[],Nat.zero_le _,by omega,Nat.zero_le _,rfl,rfl,Own.nil _ _ (Nat.le_refl _),HR.out.symm,Below.refl _ _⟩
 case round=>
  obtain⟨i,note,xs,hi,hg,hxs,rfl,rfl,HO,HS,hw⟩:=hrel;have hsz:=hw.size
  by_cases hlt:i<s.size
  ·have hlt':(i:Int)<(s.size:Int):=by omega
   have hd:=Lib.hid (mU s i hlt);have nn10:=Lib.hid (zfy (c:=s[i]) (k:=10) (by omega))
   have hss:=UInt8.toNat_lt s[i]
   have goOn:Hid ((note||s[i]==37)=true→vM (s.data.toList.drop (i+1)) ↑(i+1) (s[i] !=10) xs 0=R):=λh=>by
    have:=HS.out;rw[hd.out,vM,if_pos h]at this;exact this
   have onBlank:Hid ((note||s[i]==37)=false→jK s[i]=true→vM (s.data.toList.drop (i+1)) ↑(i+1) false xs 0=R):=λh h'=>by
    have:=HS.out;rw[hd.out,vM,if_neg (by simp[h]),if_pos h']at this;exact this
   cases note with
   |true=>
    go_wp2_with fail
    go_roundg (s.size-(i+1))
    case measure=>omega
    case rel=>exact⟨i+1,_,xs,by omega,by omega,by omega,by go_num,rfl,HO,by show vM _ _ (((s[i].toNat:Nat):Int) !=((10:Nat):Int)) _ _=_;rw[nn10.out];exact goOn.out (by simp),hw⟩
   |false=>
    by_cases e37:s[i]=37
    ·have y37:((s[i].toNat:Int)==37)=true:=bN (k:=37) (by omega) e37
     have E37:=Lib.hid e37;clear e37
     go_wp2_with fail
     go_roundg (s.size-(i+1))
     case measure=>omega
     case rel=>exact⟨i+1,_,xs,by omega,by omega,by omega,by go_num,rfl,HO,by show vM _ _ (((s[i].toNat:Nat):Int) !=((10:Nat):Int)) _ _=_;rw[nn10.out];exact goOn.out (by simp[E37.out]),hw⟩
    ·have n37:((s[i].toNat:Int)==37)=false:=o7 (k:=37) (by omega) e37
     have N37:=Lib.hid e37;clear e37 nn10
     by_cases hbl:jK s[i]=true
     ·have BL:=Lib.hid hbl
      simp only[jK,Bool.or_eq_true,beq_iff_eq]at hbl
      rcases hbl with(e|e)|e
      ·have y32:((s[i].toNat:Int)==32)=true:=bN (k:=32) (by omega) e
       clear e
       go_wp2_with fail
       all_goals
        go_roundg (s.size-(i+1))
        case measure=>omega
        case rel=>exact⟨i+1,_,xs,by omega,by omega,by omega,by go_num,rfl,HO,by show _=_;rw[onBlank.out (by simp[N37.out]) BL.out],hw⟩
      ·have y9:((s[i].toNat:Int)==9)=true:=bN (k:=9) (by omega) e
       have n32:((s[i].toNat:Int)==32)=false:=o7 (k:=32) (by omega) (by rw[e];decide)
       clear e
       go_wp2_with fail
       all_goals
        go_roundg (s.size-(i+1))
        case measure=>omega
        case rel=>exact⟨i+1,_,xs,by omega,by omega,by omega,by go_num,rfl,HO,by show _=_;rw[onBlank.out (by simp[N37.out]) BL.out],hw⟩
      ·have y10:((s[i].toNat:Int)==10)=true:=bN (k:=10) (by omega) e
       have n32:((s[i].toNat:Int)==32)=false:=o7 (k:=32) (by omega) (by rw[e];decide)
       have n9:((s[i].toNat:Int)==9)=false:=o7 (k:=9) (by omega) (by rw[e];decide)
       clear e
       go_wp2_with fail
       all_goals
        go_roundg (s.size-(i+1))
        case measure=>omega
        case rel=>exact⟨i+1,_,xs,by omega,by omega,by omega,by go_num,rfl,HO,by show _=_;rw[onBlank.out (by simp[N37.out]) BL.out],hw⟩
     ·have n32:((s[i].toNat:Int)==32)=false:=o7 (k:=32) (by omega) (by intro e;exact hbl (by simp[jK,e]))
      have n9:((s[i].toNat:Int)==9)=false:=o7 (k:=9) (by omega) (by intro e;exact hbl (by simp[jK,e]))
      have n10:((s[i].toNat:Int)==10)=false:=o7 (k:=10) (by omega) (by intro e;exact hbl (by simp[jK,e]))
      have hstep:Hid ((if vY (zW (s.data.toList.drop i)).1 (zW (s.data.toList.drop i)).2 s[i]=0 then vM (s.data.toList.drop (i+1)) (i+1) false (xs++[⟨(zW (s.data.toList.drop i)).1,i,bs ((s.data.toList.drop i).take (zW (s.data.toList.drop i)).2)⟩]) ((zW (s.data.toList.drop i)).2-1)else([],i,vY (zW (s.data.toList.drop i)).1 (zW (s.data.toList.drop i)).2 s[i]))=R):=by
       have:=HS.out;rw[hd.out,vM,if_neg (by simp[N37.out]),if_neg hbl]at this
       show _=_
       rw[hd.out];exact this
      have hle:=Nl (s.data.toList.drop i);have hpos:=RT (s.data.toList.drop i);have hkk:=TW (s.data.toList.drop i);have hcall:=zhp s i;generalize hta:zW (s.data.toList.drop i)=kn at hstep hle hpos hkk hcall
      obtain⟨kd,n⟩:=kn;simp only at hcall hstep hle hpos hkk
      simp only[List.length_drop,Xe]at hle
      have HC:=Lib.hid hcall;clear hcall hta hbl goOn onBlank;have hin:i+n≤s.size:=by omega
      have hxl:(s.extract i (i+n)).size=n:=by rw[ByteArray.size_extract];omega
      match kd,hkk with
      |0,_=>
       replace HC:Hid (∀W,s.size≤4000→i<s.size→Calls Tryz.prog 98 #[.string s,.int .i64 i] W λe w'=>e=.returned (.tuple #[.int .i64 0,.int .i64 n])∧W=w'):=HC
       go_wp2_with (go_at_call 98;refine(HC.out _ hs hlt).mono ?_;rintro e w' ⟨rfl,rfl⟩)
       all_goals
        go_ret3
        have hfin:=hstep.out;have hbad:vY 0 n s[i]=1:=by simp[vY]
        rw[hbad,if_neg (by decide)]at hfin
        rw[←hfin];exact⟨_,rfl,Yw _ _,hw⟩
      |1,_=>
       replace HC:Hid (∀W,s.size≤4000→i<s.size→Calls Tryz.prog 98 #[.string s,.int .i64 i] W λe w'=>e=.returned (.tuple #[.int .i64 1,.int .i64 n])∧W=w'):=HC
       by_cases h12:12<n
       ·have hT:decide ((12:Int)<(n:Int))=true:=by simp;omega
        go_wp2_with (go_at_call 98;refine(HC.out _ hs hlt).mono ?_;rintro e w' ⟨rfl,rfl⟩)
        all_goals
         go_ret3
         have hfin:=hstep.out;have hbad:vY 1 n s[i]=2:=by simp[vY,h12]
         rw[hbad,if_neg (by decide)]at hfin
         rw[←hfin];exact⟨_,rfl,Yw _ _,hw⟩
       ·have h12':decide ((12:Int)<(n:Int))=false:=by simp;omega
        go_wp2_with (first
         |(go_at_call 98;refine(HC.out _ hs hlt).mono ?_;rintro e w' ⟨rfl,rfl⟩)
         |(
           at_builtin
           refine mX (α:=vL) rfl _ _ rfl MJ rfl HO.out rfl (by simp) (y:=⟨1,i,s.extract i (i+n)⟩) ⟨rfl,by unfold yJ;simp,by unfold yJ;simp;omega,by rw[ByteArray.size_extract];simp;omega⟩ (by simp only[vS.bytes];omega) (by omega) (by first|omega|(simp;omega)) ?_
           rintro v' w3 hown3 hg3 hb3;have HO3:=Lib.hid hown3;have HB3:=Lib.hid hb3;clear hown3 hg3 hb3))
        all_goals
         have hn1:1≤n:=hpos (by decide)
         have hS3:Hid (vM (s.data.toList.drop (i+n)) ↑(i+n) false (xs++[⟨1,i,s.extract i (i+n)⟩]) 0=R):=by
          have hfin:=hstep.out;rw[if_pos (by simp[vY,h12]),←WS,aC (s.data.toList.drop (i+1)) _ _ _ (n-1) (by simp;omega),List.drop_drop,show i+1+(n-1)=i+n from by omega]at hfin
          exact hfin
         have hB3:=hw.trans HB3.out;have hL3:(xs++[(⟨1,i,s.extract i (i+n)⟩:vL)]).length≤i+n:=by simp;omega
         have hM3:s.size-(i+n)<gk:=by omega
         clear HO HS HC hw hstep HB3
         go_roundg (s.size-(i+n))
         case measure=>exact hM3
         case rel=>exact⟨i+n,false,_,hin,Nat.le_refl _,hL3,(by go_num),rfl,HO3,hS3,hB3⟩
      |2,_=>
       replace HC:Hid (∀W,s.size≤4000→i<s.size→Calls Tryz.prog 98 #[.string s,.int .i64 i] W λe w'=>e=.returned (.tuple #[.int .i64 2,.int .i64 n])∧W=w'):=HC
       by_cases h4:4<n
       ·have hT:decide ((4:Int)<(n:Int))=true:=by simp;omega
        go_wp2_with (go_at_call 98;refine(HC.out _ hs hlt).mono ?_;rintro e w' ⟨rfl,rfl⟩)
        all_goals
         go_ret3
         have hfin:=hstep.out;have hbad:vY 2 n s[i]=2:=by simp[vY,h4]
         rw[hbad,if_neg (by decide)]at hfin
         rw[←hfin];exact⟨_,rfl,Yw _ _,hw⟩
       ·have h4':decide ((4:Int)<(n:Int))=false:=by simp;omega
        by_cases h1:1<n
        ·have hT:decide ((1:Int)<(n:Int))=true:=by simp;omega
         have x0:((s.extract i (i+n))[0]'(by omega))=s[i]:=zkS s i n hin (by omega) (by omega)
         by_cases e48:s[i]=48
         ·have y48:((((s.extract i (i+n))[0]'(by omega)).toNat:Int)==48)=true:=by rw[x0];exact bN (k:=48) (by omega) e48
          have E48:=Lib.hid e48;clear e48 x0
          go_wp2_with (go_at_call 98;refine(HC.out _ hs hlt).mono ?_;rintro e w' ⟨rfl,rfl⟩)
          all_goals
           go_ret3
           have hfin:=hstep.out;have hbad:vY 2 n s[i]=1:=by simp[vY,h4,h1,E48.out]
           rw[hbad,if_neg (by decide)]at hfin
           rw[←hfin];exact⟨_,rfl,Yw _ _,hw⟩
         ·have y48:((((s.extract i (i+n))[0]'(by omega)).toNat:Int)==48)=false:=by rw[x0];exact o7 (k:=48) (by omega) e48
          have E48:=Lib.hid e48;clear e48 x0
          go_wp2_with (first
           |(go_at_call 98;refine(HC.out _ hs hlt).mono ?_;rintro e w' ⟨rfl,rfl⟩)
           |(
             at_builtin
             refine mX (α:=vL) rfl _ _ rfl MJ rfl HO.out rfl (by simp) (y:=⟨2,i,s.extract i (i+n)⟩) ⟨rfl,by unfold yJ;simp,by unfold yJ;simp;omega,by rw[ByteArray.size_extract];simp;omega⟩ (by simp only[vS.bytes];omega) (by omega) (by first|omega|(simp;omega)) ?_
             rintro v' w3 hown3 hg3 hb3;have HO3:=Lib.hid hown3;have HB3:=Lib.hid hb3;clear hown3 hg3 hb3))
          all_goals
           have hn1:1≤n:=hpos (by decide)
           have hS3:Hid (vM (s.data.toList.drop (i+n)) ↑(i+n) false (xs++[⟨2,i,s.extract i (i+n)⟩]) 0=R):=by
            have hfin:=hstep.out;rw[if_pos (by simp[vY,h4,E48.out]),←WS,aC (s.data.toList.drop (i+1)) _ _ _ (n-1) (by simp;omega),List.drop_drop,show i+1+(n-1)=i+n from by omega]at hfin
            exact hfin
           have hB3:=hw.trans HB3.out;have hL3:(xs++[(⟨2,i,s.extract i (i+n)⟩:vL)]).length≤i+n:=by simp;omega
           have hM3:s.size-(i+n)<gk:=by omega
           clear HO HS HC hw hstep HB3
           go_roundg (s.size-(i+n))
           case measure=>exact hM3
           case rel=>exact⟨i+n,false,_,hin,Nat.le_refl _,hL3,(by go_num),rfl,HO3,hS3,hB3⟩
        ·have h1':decide ((1:Int)<(n:Int))=false:=by simp;omega
         go_wp2_with (first
          |(go_at_call 98;refine(HC.out _ hs hlt).mono ?_;rintro e w' ⟨rfl,rfl⟩)
          |(
            at_builtin
            refine mX (α:=vL) rfl _ _ rfl MJ rfl HO.out rfl (by simp) (y:=⟨2,i,s.extract i (i+n)⟩) ⟨rfl,by unfold yJ;simp,by unfold yJ;simp;omega,by rw[ByteArray.size_extract];simp;omega⟩ (by simp only[vS.bytes];omega) (by omega) (by first|omega|(simp;omega)) ?_
            rintro v' w3 hown3 hg3 hb3;have HO3:=Lib.hid hown3;have HB3:=Lib.hid hb3;clear hown3 hg3 hb3))
         all_goals
          have hn1:1≤n:=hpos (by decide)
          have hS3:Hid (vM (s.data.toList.drop (i+n)) ↑(i+n) false (xs++[⟨2,i,s.extract i (i+n)⟩]) 0=R):=by
           have hfin:=hstep.out;rw[if_pos (by simp[vY,h4,h1]),←WS,aC (s.data.toList.drop (i+1)) _ _ _ (n-1) (by simp;omega),List.drop_drop,show i+1+(n-1)=i+n from by omega]at hfin
           exact hfin
          have hB3:=hw.trans HB3.out;have hL3:(xs++[(⟨2,i,s.extract i (i+n)⟩:vL)]).length≤i+n:=by simp;omega
          have hM3:s.size-(i+n)<gk:=by omega
          clear HO HS HC hw hstep HB3
          go_roundg (s.size-(i+n))
          case measure=>exact hM3
          case rel=>exact⟨i+n,false,_,hin,Nat.le_refl _,hL3,(by go_num),rfl,HO3,hS3,hB3⟩
      |3,_=>
       replace HC:Hid (∀W,s.size≤4000→i<s.size→Calls Tryz.prog 98 #[.string s,.int .i64 i] W λe w'=>e=.returned (.tuple #[.int .i64 3,.int .i64 n])∧W=w'):=HC
       go_wp2_with (first
        |(go_at_call 98;refine(HC.out _ hs hlt).mono ?_;rintro e w' ⟨rfl,rfl⟩)
        |(
          at_builtin
          refine mX (α:=vL) rfl _ _ rfl MJ rfl HO.out rfl (by simp) (y:=⟨3,i,s.extract i (i+n)⟩) ⟨rfl,by unfold yJ;simp,by unfold yJ;simp;omega,by rw[ByteArray.size_extract];simp;omega⟩ (by simp only[vS.bytes];omega) (by omega) (by first|omega|(simp;omega)) ?_
          rintro v' w3 hown3 hg3 hb3;have HO3:=Lib.hid hown3;have HB3:=Lib.hid hb3;clear hown3 hg3 hb3))
       all_goals
        have hn1:1≤n:=hpos (by decide)
        have hS3:Hid (vM (s.data.toList.drop (i+n)) ↑(i+n) false (xs++[⟨3,i,s.extract i (i+n)⟩]) 0=R):=by
         have hfin:=hstep.out;rw[if_pos (by simp[vY]),←WS,aC (s.data.toList.drop (i+1)) _ _ _ (n-1) (by simp;omega),List.drop_drop,show i+1+(n-1)=i+n from by omega]at hfin
         exact hfin
        have hB3:=hw.trans HB3.out;have hL3:(xs++[(⟨3,i,s.extract i (i+n)⟩:vL)]).length≤i+n:=by simp;omega
        have hM3:s.size-(i+n)<gk:=by omega
        clear HO HS HC hw hstep HB3
        go_roundg (s.size-(i+n))
        case measure=>exact hM3
        case rel=>exact⟨i+n,false,_,hin,Nat.le_refl _,hL3,(by go_num),rfl,HO3,hS3,hB3⟩
  ·have hlt':¬(i:Int)<(s.size:Int):=by omega
   go_wp2_with fail
   go_ret3
   have hfin:=HS.out;rw[List.drop_of_length_le (by simpa using hlt),vM]at hfin
   rw[←hfin];exact⟨_,rfl,HO.out.fresh,hw⟩
end Go.Proofs.YtogdmcebojiojaaGreatDoor
namespace Go.Proofs.YtogdmcebojiojaaGreatDoor
open Go.RowKit
set_option maxRecDepth 100000
set_option linter.unusedVariables false
set_option linter.unusedSimpArgs false
abbrev dM(m:zG):D:=.agg [.sl .var m.vars,.sl .con m.cons,.int .i64 m.goal,.int .i64 m.var]
abbrev dV(v:zN):D:=.agg [.str v.name,.int .i64 v.lo,.int .i64 v.hi]
abbrev dL(l:zC):D:=.agg [.int .i64 l.var,.int .i64 l.op,.int .i64 l.n]
abbrev dC(c:zE):D:=.agg [.int .i64 c.kind,.sl .int c.vars,.sl .int c.consts,.int .i64 c.n,.sl (.list .int) c.rows,.sl .lit c.lits]
abbrev dS(s:List (List Int)):D:=.sl (.list .int) s
abbrev dI(n:Int):D:=.int .i64 n
abbrev dB(b:Bool):D:=.bool b
abbrev dSt(s:zU):D:=.agg [.int .i64 s.kind,.int .i64 s.con,.sl .lit s.clause]
def zll(p:Prop):Prop:=p∧p
def zkT(p:Prop):Prop:=p∧p∧p
theorem B1{p:Prop}:zll p=p:=and_self p
theorem B2{p:Prop}:zkT p=p:=by rw[zkT,and_self,and_self]
theorem wL{n:Int}(h1: -9223372036854775808≤n)(h2:n≤9223372036854775807):yU n=n:=by
 show IntKind.i64.wrap n=n
 rw[IntKind.wrap_i64];omega
theorem nX{k:Nat}(h:k<9223372036854775807):yU ((k:Int)+1)=((k+1:Nat):Int):=by
 rw[wL (by omega) (by omega)];rfl
theorem zM{k n:Nat}(h:k<n):vW (k:Int) n=true:=by
 unfold vW;rw[Bool.and_eq_true];exact⟨decide_eq_true (by omega),decide_eq_true (by omega)⟩
theorem rS{k:Int}{n:Nat}:vW k n=true↔0≤k∧k<n:=by
 unfold vW;rw[Bool.and_eq_true,decide_eq_true_iff,decide_eq_true_iff]
theorem xY{t:Ty}{n:Nat}(h:n*t.bytes≤140737488355328):wN t n=true:=decide_eq_true h
theorem zcS{k n:Nat}:decide ((k:Int)<(n:Int))=decide (k<n):=by
 by_cases h:k<n
 ·rw[decide_eq_true h];exact decide_eq_true (by omega)
 ·rw[decide_eq_false h];exact decide_eq_false (by omega)
theorem zY{t:Ty}{xs:List t.den}{k:Nat}(h:k<xs.length):yO t xs (k:Int).toNat=xs[k]:=by
 show xs.getD ((k:Int).toNat) _=_
 rw[Int.toNat_natCast,List.getD_eq_getElem?_getD,List.getElem?_eq_getElem h];rfl
theorem atN{t:Ty}{xs:List t.den}{k:Nat}(h:k<xs.length):yO t xs k=xs[k]:=by
 show xs.getD k _=_
 rw[List.getD_eq_getElem?_getD,List.getElem?_eq_getElem h];rfl
theorem up{α:Type}{I:Nat→Int→α→Prop}{v:Int}(s m:Nat)(hv:v=(s:Int))(hsm:s≤m)(hm:m≤9223372036854775807)(Inv:Nat→α→Prop){a:α}(h0:Inv s a)
  (hs:∀n (k:Nat) a,s≤k→k≤m→Inv k a→(k<m→∀a',Inv (k+1) a'→I n (yU ((k:Int)+1)) a')→I (n+1) (k:Int) a):∃n,I n v a:=by
 subst hv
 suffices H:∀d k,s≤k→k+d=m→∀a,Inv k a→I (d+1) (k:Int) a from⟨m-s+1,H (m-s) s (Nat.le_refl _) (by omega) a h0⟩
 intro d
 induction d with
 |zero=>exact λk hk e a ha=>hs 0 k a hk (by omega) ha λh=>absurd h (by omega)
 |succ d ih=>
  intro k hk e a ha;refine hs (d+1) k a hk (by omega) ha λh a' ha'=> ?_
  rw[nX (by omega)]
  exact ih (k+1) (by omega) (by omega) a' ha'
theorem up0{I:Nat→Int→Prop}{v:Int}(s m:Nat)(hv:v=(s:Int))(hsm:s≤m)(hm:m≤9223372036854775807)(Inv:Nat→Prop)(h0:Inv s)
  (hs:∀n (k:Nat),s≤k→k≤m→Inv k→(k<m→Inv (k+1)→I n (yU ((k:Int)+1)))→I (n+1) (k:Int)):∃n,I n v:=
 let⟨n,h⟩:=up (I:=λn v (_:Unit)=>I n v) (a:=()) s m hv hsm hm (λk _=>Inv k) h0 λn k _ h1 h2 h3 h4=>hs n k h1 h2 h3 λh h'=>h4 h () h'
 ⟨n,h⟩
theorem XJ.like{P:Program}{f:FuncId}{args args':List D}{r:D}(h:XJ P f args r)(hl:args'.length=args.length)(ha:∀(w:World) (S:Nat→Prop) (i:Nat) (d:D) (v:Value),args[i]? =some d→(∀d',args'[i]? =some d'→Rp w S v d')→Rp w S v d):XJ P f args' r:=
 λw S vs hS hs hv hg=>h w S vs hS (hs.trans hl) (λi d hd=>ha w S i d _ hd λd' hd'=>hv i d' hd') hg
theorem Rp.clo_rs{w:World}{S:Nat→Prop}{v:Value}{g:FuncId}{rs rs':Option (List Ty)}{cap:List D}(h:Rp w S v (.clo g rs cap)):Rp w S v (.clo g rs' cap):=by
 obtain⟨vs,rfl,h1,h2⟩:=h.clo_inv;exact .clo g rs' cap vs h1 h2
theorem XJ.clo{P:Program}{f:FuncId}{pre post:List D}{g:FuncId}{rs rs':Option (List Ty)}{cap:List D}{r:D}(h:XJ P f (pre++ .clo g rs cap::post) r):XJ P f (pre++ .clo g rs' cap::post) r:=by
 refine h.like (by simp) λw S i d v hd hv=> ?_
 by_cases hi:i<pre.length
 ·rw[List.getElem?_append_left hi]at hd
  exact hv d (by rw[List.getElem?_append_left hi];exact hd)
 ·have hi':pre.length≤i:=Nat.le_of_not_lt hi
  rw[List.getElem?_append_right hi']at hd
  have hv':∀d',(D.clo g rs' cap::post)[i-pre.length]? =some d'→Rp w S v d':=λd' h'=>hv d' (by rw[List.getElem?_append_right hi'];exact h')
  generalize i-pre.length=j at hd hv'
  cases j with
  |zero=>
   rw[List.getElem?_cons_zero]at hd
   cases hd;exact(hv' _ rfl).clo_rs
  |succ j=>exact hv' d (by rw[List.getElem?_cons_succ]at hd⊢;exact hd)
def PL{α:Type}(p:α→Bool):List α→Int→Int
 |[],_=> -1
 |x::xs,i=>bif p x then i else PL p xs (i+1)
theorem zhr{α:Type}{p:α→Bool}{xs:List α}{k:Nat}(h:k<xs.length):PL p (xs.drop k) k=bif p xs[k]then(k:Int)else PL p (xs.drop (k+1)) ((k+1:Nat):Int):=by
 rw[List.drop_eq_getElem_cons h];rfl
theorem jZ{α:Type}{p:α→Bool}:∀(xs:List α) (i:Int),0≤i→decide (0≤PL p xs i)=xs.any p
 |[],i,h=>by simp[PL]
 |x::xs,i,h=>by
  rw[PL,List.any_cons];cases hx:p x
  ·rw[cond_false,jZ xs (i+1) (by omega),Bool.false_or]
  ·rw[cond_true,Bool.true_or];exact decide_eq_true h
theorem E1{t:Ty}{xs:List t.den}(hl:xs.length≤9223372036854775807){I:Nat→Int→Prop}{R:D→Prop}{p:t.den→Bool}
  (hR:R (.int .i64 (PL p xs 0)))
  (hin:∀n (k:Nat) (h:k<xs.length),(p xs[k]=true→R (.int .i64 (k:Int)))→(p xs[k]=false→I n (yU ((k:Int)+1)))→I (n+1) (k:Int))
  (hout:∀n,R (.int .i64 (-1))→I (n+1) (xs.length:Int)):∃n,I n 0:=by
 refine up0 0 xs.length rfl (Nat.zero_le _) hl (λk=>R (.int .i64 (PL p (xs.drop k) (k:Int)))) hR λn k _ hk hi hn=> ?_
 by_cases h:k<xs.length
 ·rw[zhr h]at hi
  refine hin n k h (λe=> ?_) λe=>hn h ?_
  ·rw[e]at hi;exact hi
  ·rw[e]at hi;exact hi
 ·rw[List.drop_eq_nil_of_le (by omega)]at hi
  have hk':k=xs.length:=by omega
  subst hk';exact hout n hi
theorem yC{k n:Nat}{X Y:Prop}(h:k<n):zP (decide ((k:Int)<(n:Int))) X Y=X:=by rw[zcS,decide_eq_true h];rfl
theorem zX{n:Nat}{X Y:Prop}:zP (decide ((n:Int)<(n:Int))) X Y=Y:=by rw[zcS,decide_eq_false (Nat.lt_irrefl n)];rfl
theorem zhs{β:Type}{p:β→Bool}{zs:List β}{k:Nat}(h:k<zs.length):(zs.drop k).any p=(p zs[k]||(zs.drop (k+1)).any p):=by
 rw[List.drop_eq_getElem_cons h,List.any_cons]
theorem zkV{β:Type}{I:Nat→Int→Prop}{v:Int}(s:Nat)(zs:List β)(p:β→Bool)(hv:v=(s:Int))(hl:zs.length+s≤9223372036854775807){X Y:Prop}(hXY:zP (zs.any p) X Y)
  (hin:∀n (k:Nat) (h:k<zs.length),(p zs[k]=true→X)→(p zs[k]=false→I n (yU (((k+s:Nat):Int)+1)))→I (n+1) ((k+s:Nat):Int))
  (hout:∀n,Y→I (n+1) ((zs.length+s:Nat):Int)):∃n,I n v:=by
 refine up0 s (zs.length+s) hv (by omega) hl (λk=>zP ((zs.drop (k-s)).any p) X Y) (by rw[Nat.sub_self];exact hXY) λn k hs hk hi hn=> ?_
 obtain⟨j,rfl⟩:∃j,k=j+s:=⟨k-s,by omega⟩
 rw[show j+s-s=j by omega]at hi
 by_cases h:j<zs.length
 ·rw[zhs h]at hi
  refine hin n j h (λe=> ?_) λe=>hn (by omega) ?_
  ·rw[e,Bool.true_or]at hi;exact hi
  ·rw[e,Bool.false_or]at hi;rw[show j+s+1-s=j+1 by omega];exact hi
 ·have hj:j=zs.length:=by omega
  subst hj;rw[List.drop_eq_nil_of_le (by omega)]at hi
  exact hout n hi
theorem zjW{β:Type}{I:Nat→Int→Prop}{v:Int}(s:Nat)(zs:List β)(e:Nat→β→Int)(hv:v=(s:Int))(hl:zs.length+s≤9223372036854775807){X:Int→Prop}{Y:Prop}
  (hX:wK e 0 zs≠0→X (wK e 0 zs)) (hY:wK e 0 zs=0→Y)
  (hin:∀n (k:Nat) (h:k<zs.length),(∀j (hj:j<k),e j zs[j]=0)→(e k zs[k]≠0→X (e k zs[k]))→(e k zs[k]=0→I n (yU (((k+s:Nat):Int)+1)))→I (n+1) ((k+s:Nat):Int))
  (hout:∀n,Y→I (n+1) ((zs.length+s:Nat):Int)):∃n,I n v:=by
 refine up0 s (zs.length+s) hv (by omega) hl (λk=>wK e (k-s) (zs.drop (k-s))=wK e 0 zs∧∀j (hj:j<k-s) (hl:j<zs.length),e j zs[j]=0) ⟨by rw[Nat.sub_self];rfl,λj hj=>absurd hj (by omega)⟩ λn k hs hk hi hn=> ?_
 obtain⟨j,rfl⟩:∃j,k=j+s:=⟨k-s,by omega⟩
 rw[show j+s-s=j by omega]at hi
 obtain⟨hi,hb⟩:=hi
 by_cases h:j<zs.length
 ·refine hin n j h (λi hi=>hb i hi (by omega)) (λe0=> ?_) λe0=>hn (by omega) ?_
  ·have:=zat h hi e0
   rw[←this];exact hX (by rw[this];exact e0)
  ·rw[show j+s+1-s=j+1 by omega]
   refine⟨zau h hi e0,λi hi1 hi2=> ?_⟩
   by_cases hij:i<j
   ·exact hb i hij hi2
   ·have:i=j:=by omega
    subst this;exact e0
 ·have hj:j=zs.length:=by omega
  subst hj;exact hout n (hY (zcF (Nat.le_refl _) hi))
theorem upto{α:Type}{I:Nat→Int→α→Prop}(lo hi:Int)(hlo: -9223372036854775808≤lo)(hhi:hi<9223372036854775807)(Inv:Int→α→Prop){a:α}(h0:Inv lo a)
  (hs:∀n (k:Int) a,lo≤k→Inv k a→(k≤hi→∀a',Inv (k+1) a'→I n (yU (k+1)) a')→I (n+1) k a):∃n,I n lo a:=by
 suffices H:∀d (k:Int),lo≤k→(hi+1-k).toNat≤d→∀a,Inv k a→I (d+1) k a from⟨(hi+1-lo).toNat+1,H _ lo (Int.le_refl _) (Nat.le_refl _) a h0⟩
 intro d
 induction d with
 |zero=>exact λk hk e a ha=>hs 0 k a hk ha λh=>absurd h (by omega)
 |succ d ih=>
  intro k hk e a ha;refine hs (d+1) k a hk ha λh a' ha'=> ?_
  rw[wL (by omega) (by omega)]
  exact ih (k+1) (by omega) (by omega) a' ha'
theorem zaF{α β:Type}(f:Nat→α→β){xs:List α}{k:Nat}(h:k<xs.length):(xs.take (k+1)).mapIdx f=(xs.take k).mapIdx f++[f k xs[k]]:=by
 rw[←List.take_append_getElem h,List.mapIdx_append];simp[Nat.min_eq_left (Nat.le_of_lt h)]
theorem ML{α β:Type}(f:α→β){xs:List α}{k:Nat}(h:k<xs.length):(xs.take (k+1)).map f=(xs.take k).map f++[f xs[k]]:=by
 rw[←List.take_append_getElem h,List.map_append];rfl
theorem Xl{α:Type}(p:α→Bool){xs:List α}{k:Nat}(h:k<xs.length):(xs.take (k+1)).filter p=if p xs[k]=true then(xs.take k).filter p++[xs[k]]else(xs.take k).filter p:=by
 rw[←List.take_append_getElem h,List.filter_append]
 by_cases e:p xs[k]=true
 ·rw[if_pos e,List.filter_cons,if_pos e];rfl
 ·rw[if_neg e,List.filter_cons,if_neg e,List.filter_nil,List.append_nil]
theorem YN{t:Ty}{xs:List t.den}(h:EX (.sl t xs)):okL t.bytes (okT t) xs:=h
theorem cM{t:Ty}{xs:List t.den}(h:EX (.sl t xs)):xs.length≤9223372036854775807:=by
 have h1:xs.length*t.bytes≤140737488355328:=(show okT (.list t) xs from h).1
 have h2:1≤t.bytes:=t.bytes_pos;have:=Nat.mul_le_mul_left xs.length h2;omega
theorem L5{d:D}{ds:List D}(h:∀e∈d::ds,EX e):EX d:=h d (List.mem_cons_self ..)
theorem okR{d:D}{ds:List D}(h:∀e∈d::ds,EX e):∀e∈ds,EX e:=λe he=>h e (List.mem_cons_of_mem _ he)
theorem zcT{β:Type}{I:Nat→Int→Prop}(zs:List β)(p:β→Bool)(hl:zs.length≤9223372036854775807){X Y:Prop}(hXY:zP (zs.any p) X Y)
  (hin:∀n (k:Nat) (h:k<zs.length),(p zs[k]=true→X)→(p zs[k]=false→I n (yU ((k:Int)+1)))→I (n+1) (k:Int))
  (hout:∀n,Y→I (n+1) (zs.length:Int)):∃n,I n 0:=
 zkV (I:=I) 0 zs p rfl hl hXY (λn k h h1 h2=>hin n k h h1 h2) hout
theorem zcU{β:Type}{I:Nat→Int→Prop}(zs:List β)(p:β→Bool)(hl:zs.length≤9223372036854775807){X:Prop}(hX:zs.any p=true→X)
  (hin:∀n (k:Nat) (h:k<zs.length),(p zs[k]=true→X)→(p zs[k]=false→I n (yU ((k:Int)+1)))→I (n+1) (k:Int))
  (hout:zs.any p=false→∀n,I (n+1) (zs.length:Int)):∃n,I n 0:=
 zcT (I:=I) zs p hl (Y:=zs.any p=false) (zA hX id) hin λn h=>hout h n
theorem zkl{β:Type}{I:Nat→Int→Prop}(zs:List β)(e:Nat→β→Int)(hl:zs.length≤9223372036854775807){X:Int→Prop}
  (hX:wK e 0 zs≠0→X (wK e 0 zs))
  (hin:∀n (k:Nat) (h:k<zs.length),(∀j (hj:j<k),e j zs[j]=0)→(e k zs[k]≠0→X (e k zs[k]))→(e k zs[k]=0→I n (yU ((k:Int)+1)))→I (n+1) (k:Int))
  (hout:wK e 0 zs=0→∀n,I (n+1) (zs.length:Int)):∃n,I n 0:=
 zjW (I:=I) 0 zs e rfl hl hX (Y:=wK e 0 zs=0) id (λn k h h0 h1 h2=>hin n k h h0 h1 h2) λn h=>hout h n
theorem zcV{β:Type}{I:Nat→Int→Prop}(zs:List β)(e:Nat→β→Int)(hl:zs.length≤9223372036854775807){X:Int→Prop}{Y:Prop}
  (hX:wK e 0 zs≠0→X (wK e 0 zs)) (hY:wK e 0 zs=0→Y)
  (hin:∀n (k:Nat) (h:k<zs.length),(∀j (hj:j<k),e j zs[j]=0)→(e k zs[k]≠0→X (e k zs[k]))→(e k zs[k]=0→I n (yU ((k:Int)+1)))→I (n+1) (k:Int))
  (hout:∀n,Y→I (n+1) (zs.length:Int)):∃n,I n 0:=
 zjW (I:=I) 0 zs e rfl hl hX hY (λn k h h0 h1 h2=>hin n k h h0 h1 h2) hout
def or0(a b:Int):Int:=if a≠0 then a else b
theorem Kk{a b:Int}(h:a≠0):or0 a b=a:=if_pos h
theorem RX{a b:Int}(h:a=0):or0 a b=b:=if_neg (not_not_intro h)
theorem lA{a:Int}(e:(!decide (a=0))=true):a≠0:=by simpa using e
theorem oF{a:Int}(e:(!decide (a=0))=false):a=0:=by simpa using e
theorem XJ.swap{P:Program}{f:FuncId}{pre post:List D}{a a':D}{r:D}(h:XJ P f (pre++a::post) r)(ha:∀w S v,Rp w S v a'→Rp w S v a):XJ P f (pre++a'::post) r:=by
 refine h.like (by simp) λw S i d v hd hv=> ?_
 by_cases hi:i<pre.length
 ·rw[List.getElem?_append_left hi]at hd
  exact hv d (by rw[List.getElem?_append_left hi];exact hd)
 ·have hi':pre.length≤i:=Nat.le_of_not_lt hi
  rw[List.getElem?_append_right hi']at hd
  have hv':∀d',(a'::post)[i-pre.length]? =some d'→Rp w S v d':=λd' h'=>hv d' (by rw[List.getElem?_append_right hi'];exact h')
  generalize i-pre.length=j at hd hv'
  cases j with
  |zero=>
   rw[List.getElem?_cons_zero]at hd
   cases hd;exact ha _ _ _ (hv' _ rfl)
  |succ j=>exact hv' d (by rw[List.getElem?_cons_succ]at hd⊢;exact hd)
theorem Rp.icl{w:World}{S:Nat→Prop}{v:Value}{g:FuncId}{rs rs':Option (List Ty)}{cap:List D}(h:Rp w S v (.iptr [.clo g rs cap] 0)):Rp w S v (.iptr [.clo g rs' cap] 0):=by
 obtain⟨b,rfl,hb,hc⟩:=h.iptr_inv;refine .iptr_mk hb λi d hd=> ?_
 cases i with
 |zero=>
  cases hd;obtain⟨u,hu,hr⟩:=hc 0 _ rfl;exact⟨u,hu,hr.clo_rs⟩
 |succ i=>simp at hd
theorem XJ.iclo{P:Program}{f:FuncId}{pre post:List D}{g:FuncId}{rs rs':Option (List Ty)}{cap:List D}{r:D}(h:XJ P f (pre++ .iptr [.clo g rs cap] 0::post) r):XJ P f (pre++ .iptr [.clo g rs' cap] 0::post) r:=
 h.swap λ_ _ _ h=>h.icl
theorem okA{cs:List D}{i:Nat}{d:D}(h:EX (.agg cs))(e:cs[i]? =some d):okC d:=h d (List.mem_of_getElem? e)
theorem zht{t:Ty}{xs:List t.den}(h:okC (.sl t xs)):xs.length≤9223372036854775807:=cM (t:=t) h
abbrev dO:FuncId:=6
abbrev Zt:FuncId:=10
abbrev kQ:FuncId:=11
abbrev SZ:FuncId:=12
abbrev S0:FuncId:=13
abbrev B3:FuncId:=14
abbrev vO:FuncId:=15
abbrev PM:FuncId:=16
abbrev hJ:FuncId:=17
abbrev oG:FuncId:=18
abbrev mD:FuncId:=19
abbrev wV:FuncId:=20
abbrev fN:FuncId:=21
abbrev o8:FuncId:=22
abbrev hM:FuncId:=23
abbrev US:FuncId:=24
abbrev RY:FuncId:=25
abbrev TX:FuncId:=26
abbrev PN:FuncId:=27
abbrev PO:FuncId:=28
abbrev TY:FuncId:=29
abbrev zaG:FuncId:=30
abbrev UT:FuncId:=31
abbrev TZ:FuncId:=32
abbrev UU:FuncId:=33
abbrev GO:FuncId:=34
abbrev E3:FuncId:=35
abbrev E4:FuncId:=36
abbrev cN:FuncId:=37
abbrev lB:FuncId:=38
abbrev S3:FuncId:=39
abbrev T0:FuncId:=40
abbrev T1:FuncId:=41
abbrev T2:FuncId:=42
abbrev kB:FuncId:=43
abbrev aE:FuncId:=44
abbrev yV:FuncId:=45
abbrev zS:FuncId:=46
abbrev nY:FuncId:=47
abbrev zV:FuncId:=48
abbrev yZ:FuncId:=49
abbrev o9:FuncId:=50
abbrev uW:FuncId:=51
abbrev xH:FuncId:=52
abbrev yK:FuncId:=53
abbrev oS:FuncId:=54
abbrev PP:FuncId:=55
abbrev vB:FuncId:=56
abbrev oy:FuncId:=57
abbrev Nm:FuncId:=58
abbrev Kl:FuncId:=59
abbrev oo:FuncId:=60
abbrev xM:FuncId:=61
abbrev lC:FuncId:=62
abbrev UV:FuncId:=63
abbrev S4:FuncId:=64
abbrev RZ:FuncId:=65
abbrev PQ:FuncId:=66
abbrev Zu:FuncId:=67
abbrev gQ:FuncId:=68
abbrev nA:FuncId:=69
abbrev Zv:FuncId:=70
abbrev X5:FuncId:=71
abbrev fy:FuncId:=72
abbrev sG:FuncId:=73
abbrev cO:FuncId:=74
abbrev Un:FuncId:=75
abbrev UW:FuncId:=76
abbrev T3:FuncId:=77
abbrev R0:FuncId:=78
abbrev E5:FuncId:=79
abbrev S5:FuncId:=80
abbrev zaH:FuncId:=81
abbrev B4:FuncId:=82
abbrev lD:FuncId:=83
abbrev R1:FuncId:=84
abbrev lE:FuncId:=85
abbrev E6:FuncId:=86
abbrev iA:FuncId:=87
abbrev YO:FuncId:=88
abbrev lF:FuncId:=89
abbrev UX:FuncId:=90
abbrev R2:FuncId:=91
abbrev S6:FuncId:=92
abbrev pD:FuncId:=94
abbrev X6:FuncId:=95
abbrev VT:FuncId:=96
abbrev tO:FuncId:=97
abbrev PR:FuncId:=98
abbrev PS:FuncId:=99
abbrev Nn:FuncId:=100
abbrev pE:FuncId:=101
abbrev xW:FuncId:=102
abbrev vJ:FuncId:=103
abbrev yA:FuncId:=104
abbrev tH:FuncId:=105
abbrev nB:FuncId:=106
abbrev R3:FuncId:=108
abbrev Iw:FuncId:=109
abbrev X7:FuncId:=110
abbrev MM:FuncId:=111
abbrev PT:FuncId:=112
abbrev Np:FuncId:=113
abbrev mE:FuncId:=114
abbrev rH:FuncId:=115
abbrev lG:FuncId:=116
abbrev aS:FuncId:=117
abbrev uB:FuncId:=118
abbrev bO:FuncId:=119
abbrev eO:FuncId:=120
abbrev PU:FuncId:=121
abbrev R4:FuncId:=122
abbrev R5:FuncId:=123
abbrev wO:FuncId:=124
abbrev fO:FuncId:=126
abbrev cP:FuncId:=127
abbrev X8:FuncId:=128
abbrev Zw:FuncId:=129
abbrev nC:FuncId:=130
abbrev Zx:FuncId:=131
abbrev rM:FuncId:=132
abbrev nD:FuncId:=133
abbrev YP:FuncId:=134
abbrev fP:FuncId:=135
abbrev gR:FuncId:=136
abbrev yX:FuncId:=137
abbrev YQ:FuncId:=138
abbrev tY:FuncId:=139
abbrev tS:FuncId:=141
abbrev qE:FuncId:=142
abbrev sQ:FuncId:=143
abbrev yT:FuncId:=154
abbrev uI:FuncId:=155
abbrev zI:FuncId:=156
abbrev zJ:FuncId:=157
abbrev qP:FuncId:=158
abbrev zK:FuncId:=159
abbrev zO:FuncId:=160
abbrev X9:FuncId:=161
abbrev uC:FuncId:=162
abbrev Zy:FuncId:=163
abbrev cQ:FuncId:=164
abbrev oq:FuncId:=165
abbrev Wa:FuncId:=166
abbrev xR:FuncId:=167
abbrev YR:FuncId:=168
abbrev yF:FuncId:=169
abbrev YS:FuncId:=170
abbrev R6:FuncId:=171
abbrev GP:FuncId:=174
abbrev uN:FuncId:=175
abbrev yL:FuncId:=176
abbrev qQ:FuncId:=177
abbrev jM:FuncId:=178
abbrev jN:FuncId:=179
abbrev Zz:FuncId:=180
abbrev xQ:FuncId:=181
abbrev S7:FuncId:=182
abbrev R7:FuncId:=183
abbrev Nq:FuncId:=184
abbrev PV:FuncId:=185
abbrev MN:FuncId:=186
abbrev rT:FuncId:=187
abbrev VU:FuncId:=188
abbrev kX:FuncId:=189
abbrev lH:FuncId:=190
abbrev ot:FuncId:=191
abbrev cR:FuncId:=192
abbrev tZ:FuncId:=193
abbrev tQ:FuncId:=194
abbrev Wb:FuncId:=195
abbrev Xm:FuncId:=196
abbrev iB:FuncId:=197
abbrev ZA:FuncId:=198
abbrev jO:FuncId:=199
abbrev iC:FuncId:=200
abbrev uD:FuncId:=201
abbrev kC:FuncId:=202
abbrev tB:FuncId:=203
abbrev bP:FuncId:=204
abbrev aF:FuncId:=207
abbrev vV:FuncId:=210
abbrev zL:FuncId:=211
abbrev xI:FuncId:=212
abbrev sA:FuncId:=213
abbrev yS:FuncId:=214
abbrev uO:FuncId:=215
abbrev yI:FuncId:=216
abbrev iD:FuncId:=217
abbrev B5:FuncId:=218
abbrev Zj:FuncId:=219
abbrev E7:FuncId:=220
abbrev uP:FuncId:=221
abbrev T4:FuncId:=222
abbrev Yx:FuncId:=223
abbrev oz:FuncId:=224
abbrev uQ:FuncId:=225
abbrev sL:FuncId:=226
abbrev PW:FuncId:=232
abbrev R8:FuncId:=233
abbrev Nr:FuncId:=234
abbrev Ns:FuncId:=235
abbrev Nt:FuncId:=236
abbrev Nu:FuncId:=237
abbrev S8:FuncId:=238
abbrev iE:FuncId:=239
abbrev wS:FuncId:=240
abbrev lI:FuncId:=241
abbrev gS:FuncId:=242
abbrev bQ:FuncId:=243
abbrev ZB:FuncId:=244
abbrev bR:FuncId:=245
abbrev qR:FuncId:=246
abbrev wU:FuncId:=247
abbrev pN:FuncId:=248
abbrev Pt:FuncId:=249
abbrev iF:FuncId:=250
abbrev yG:FuncId:=251
abbrev T5:FuncId:=252
abbrev kY:FuncId:=253
abbrev eP:FuncId:=254
abbrev ZC:FuncId:=255
abbrev eQ:FuncId:=256
abbrev sB:FuncId:=257
abbrev zaI:FuncId:=272
abbrev Yy:FuncId:=273
abbrev Nv:FuncId:=279
abbrev uJ:FuncId:=280
abbrev xA:FuncId:=281
abbrev xC:FuncId:=282
abbrev ZD:FuncId:=283
abbrev YT:FuncId:=284
abbrev qS:FuncId:=285
abbrev xT:FuncId:=286
abbrev kR:FuncId:=287
abbrev kS:FuncId:=288
abbrev qT:FuncId:=289
abbrev rU:FuncId:=290
abbrev rN:FuncId:=291
abbrev ou:FuncId:=292
abbrev VV:FuncId:=293
abbrev bS:FuncId:=294
abbrev ZE:FuncId:=295
abbrev eR:FuncId:=310
abbrev kZ:FuncId:=311
abbrev fQ:FuncId:=312
abbrev wW:FuncId:=317
abbrev qU:FuncId:=320
def Ev:TE where
 zs:=[(3,(false,[dI 0])),(9,(false,[.str (⟨#[]⟩)])),(22,(false,[.nil])),(23,(false,[.nil])),(25,(true,[.sl .var ([]:List zN),.sl .con ([]:List zE),dI 0,dI 0])),(26,(false,[dI 0])),(40,(false,[.nil])),(41,(false,[.nil])),(43,(true,[dI 0,.sl .int ([]:List Int),.sl .step ([]:List zU)])),(50,(false,[.nil])),(52,(false,[.nil])),(53,(false,[.nil])),(62,(false,[.nil])),(72,(true,[.str (⟨#[]⟩),dI 0,dI 0])),(74,(true,[dI 0,.sl .int ([]:List Int),.sl .int ([]:List Int),dI 0,dS ([]:List (List Int)),.sl .lit ([]:List zC)])),(76,(false,[.nil])),(80,(false,[.undef])),(81,(false,[.undef])),(83,(true,[.sl .tok ([]:List vL),dI 0,dI 0,.nil,.nil,dI 0,dI 0,.undef])),(85,(true,[.sl .tok ([]:List vL),dI 0,dI 0,dI 0,.nil,.nil,dI 0,dI 0])),(97,(false,[.nil])),(99,(true,[.ifc (.pointer none),.nil])),(101,(true,[.ifc (.pointer none),.nil,.sl .var ([]:List zN),.sl .con ([]:List zE),dI 0,dI 0])),(114,(true,[dI 0,dI 0,dI 0])),(120,(false,[.undef])),(123,(true,[.undef,.slN .int ([]:List Int) true])),(129,(true,[dI 0,dI 0,.sl .lit ([]:List zC)])),(139,(true,[.sl .var ([]:List zN),.sl .con ([]:List zE),dI 0,dI 0,.nil])),(141,(false,[.nil])),(147,(true,[.sl .var ([]:List zN),.sl .con ([]:List zE),dI 0,dI 0,.nil])),(152,(true,[.str (⟨#[]⟩),dI 0])),(154,(true,[dI 0,dI 0,.str (⟨#[]⟩)])),(158,(true,[dI 0,dI 0])),(176,(false,[.undef])),(179,(true,[.sl .var ([]:List zN),.sl .con ([]:List zE),dI 0,dI 0,.sl (.list .lit) ([]:List (List zC)),dI 0,.nil,.nil,.undef])),(195,(false,[.undef])),(217,(false,[.undef])),(229,(true,[.sl .var ([]:List zN),.sl .con ([]:List zE),dI 0,dI 0,.sl (.list .lit) ([]:List (List zC)),dS ([]:List (List Int)),.nil])),(245,(true,[dI 0,dI 0,dI 0,dI 0,dI 0])),(284,(false,[.undef])),(285,(false,[.undef])),(287,(true,[dI 0,.sl .int ([]:List Int),.sl .int ([]:List Int),dI 0,dS ([]:List (List Int)),.sl .lit ([]:List zC),dS ([]:List (List Int)),.sl .int ([]:List Int),.sl .int ([]:List Int),.undef])),(288,(true,[dI 0,dI 0])),(289,(false,[.nil])),(291,(false,[.undef])),(293,(true,[dI 0,dI 0])),(299,(true,[dS ([]:List (List Int)),.sl .int ([]:List Int),.undef,.undef,dI 0]))]
 sl:=[(22,(72,.var)),(23,(74,.con)),(40,(3,.int)),(41,(129,.step)),(50,(53,.list .lit)),(52,(114,.lit)),(53,(114,.lit)),(62,(40,.list .int)),(76,(154,.tok)),(92,(9,.str)),(97,(5,.byte)),(141,(40,.list .int)),(263,(52,.list .lit)),(289,(293,.term))]
 fld:=[(25,[(0,1),(1,1),(2,1),(3,1)]),(43,[(0,1),(1,1),(2,1)]),(72,[(0,1),(1,1),(2,1)]),(74,[(0,1),(1,1),(2,1),(3,1),(4,1),(5,1)]),(83,[(0,1),(1,1),(2,1),(3,4),(7,1)]),(85,[(0,1),(1,1),(2,1),(3,1),(4,4)]),(99,[(0,1),(1,1)]),(101,[(0,2),(2,4)]),(114,[(0,1),(1,1),(2,1)]),(123,[(0,1),(1,1)]),(129,[(0,1),(1,1),(2,1)]),(139,[(0,4),(4,1)]),(147,[(0,4),(4,1)]),(152,[(0,1),(1,1)]),(154,[(0,1),(1,1),(2,1)]),(158,[(0,1),(1,1)]),(179,[(0,4),(4,1),(5,1),(6,1),(7,1),(8,1)]),(229,[(0,4),(4,1),(5,1),(6,1)]),(245,[(0,1),(1,1),(2,1),(3,1),(4,1)]),(287,[(0,6),(6,1),(7,1),(8,1),(9,1)]),(293,[(0,1),(1,1)]),(299,[(0,1),(1,1),(2,1),(3,1),(4,1)])]
 strs:=[9]
 ints:=[(2,.i64),(3,.i64),(5,.u8),(6,.u8),(26,.i64),(270,.i64),(310,.i64),(340,.u8),(341,.u8)]
 bools:=[4]
 sig:=[(Zt,[.mdl,.int,.int]),(kQ,[.mdl,.int,.int]),(SZ,[.bool]),(S0,[.bool]),(B3,[.str,.int]),(vO,[.int]),(PM,[.str]),(hJ,[.str,.int]),(oG,[.bool]),(mD,[.bool]),(wV,[.str]),(fN,[.ans,.int]),(o8,[.str]),(hM,[.bool,.int]),(US,[.int]),(RY,[.list .lit]),(TX,[.int]),(PN,[.bool]),(PO,[.bool]),(TY,[.bool]),(zaG,[.bool,.int]),(UT,[.bool]),(TZ,[.bool]),(UU,[.mdl]),(GO,[.ans,.int]),(E3,[.list (.list .int),.bool,.int]),(E4,[.list .int,.int]),(cN,[.bool,.int]),(lB,[.bool]),(S3,[]),(T0,[]),(T1,[.list .tok,.int,.int]),(kB,[.int]),(aE,[.list .tok,.int,.int]),(nY,[.bool]),(oS,[.mdl]),(PP,[.bool]),(oy,[.str]),(xM,[.bool]),(lC,[.int]),(UV,[.str]),(S4,[.str]),(RZ,[.str]),(PQ,[.str]),(Zu,[.str]),(gQ,[.list .lit,.int]),(nA,[.bool]),(Zv,[.int]),(cO,[.bool]),(Un,[.int]),(UW,[.int]),(T3,[.bool]),(R0,[.bool]),(E5,[.bool,.int]),(S5,[.bool]),(zaH,[.bool,.int]),(B4,[.bool,.int]),(lE,[.list (.list .int)]),(E6,[.int]),(iA,[.list .int]),(YO,[.int]),(UX,[]),(R2,[]),(S6,[.tok,.int]),(X6,[.int]),(VT,[.int]),(tO,[.bool]),(PR,[.int,.int]),(PS,[.bool]),(Nn,[.bool]),(pE,[.bool]),(R3,[.str]),(X7,[.list .str]),(MM,[.str]),(mE,[.bool]),(rH,[.bool]),(lG,[.int]),(aS,[.list .lit]),(uB,[.bool]),(eO,[.bool]),(PU,[.bool]),(R4,[.bool]),(R5,[.bool]),(wO,[.bool]),(fO,[.int]),(cP,[.bool]),(X8,[.int]),(Zw,[.bool]),(Zx,[.list .lit,.bool]),(YP,[.list .step]),(fP,[.list .lit]),(gR,[.list (.list .int)]),(yX,[.bool]),(YQ,[.int]),(tY,[.list (.list .int)]),(X9,[.bool]),(uC,[.bool]),(oq,[.bool]),(Wa,[.bool]),(xR,[.bool]),(yF,[.bool]),(R6,[.bool]),(GP,[.str]),(uN,[.int]),(yL,[.int]),(qQ,[.bool]),(jM,[.bool]),(jN,[.bool]),(xQ,[.bool]),(S7,[.bool]),(R7,[.list (.list .int)]),(Nq,[.list (.list .int)]),(PV,[.list (.list .int)]),(MN,[.list (.list .int)]),(rT,[.int]),(VU,[.int]),(kX,[.list (.list .int)]),(lH,[.list (.list .int)]),(cR,[.bool]),(tQ,[.list .lit]),(Wb,[.str]),(Xm,[.list (.list .int)]),(ZA,[.lit]),(jO,[.list (.list .int)]),(iC,[.list (.list .int)]),(uD,[.list (.list .int)]),(kC,[.bool]),(tB,[.bool]),(aF,[.int]),(B5,[.bool]),(Zj,[.bool]),(E7,[.list .str]),(uP,[.int]),(T4,[.pr .int (.pr .int (.pr .int (.pr .int .int)))]),(Yx,[.bool]),(uQ,[.int]),(sL,[.int]),(PW,[.list .int]),(R8,[.list (.list .int)]),(Ns,[.bool]),(Nt,[.bool]),(Nu,[.list (.list .int)]),(S8,[.bool]),(wS,[.bool]),(ZB,[.bool]),(wU,[.bool]),(Pt,[.list (.list .int)]),(yG,[.bool]),(T5,[.int]),(sB,[.int]),(zaI,[.bool]),(Yy,[.int]),(Nv,[.int]),(uJ,[.int]),(ZD,[.list .term]),(YT,[.list .int]),(xT,[.int]),(ou,[.int]),(bS,[.list .lit,.bool]),(ZE,[.list .lit,.bool]),(kZ,[.list .lit]),(fQ,[.list .lit]),(wW,[.list .lit])]
 mps:=[(81,(.str,.int)),(217,(.int,.int)),(285,(.pr .int .int,.int)),(291,(.int,.list .int))]
 sts:=[(72,.var),(114,.lit)]
 hsig:=[(T2,{tys:=[.mdl,.int,.int],nils:=[(0,(3,(72,.var))),(0,(4,(74,.con)))],datas:=[],res:=λxs ob=>match xs,ob 1000,ob 2000,ob 2001,ob 1001 with|[y0,y1,y2],some o1000,some o2000,some o2001,some o1001=>some (.tup [y0,y1,y2],[])|_,_,_,_,_=>none}),
  (yV,{tys:=[.str],nils:=[(0,(4,(72,.var))),(0,(5,(74,.con)))],datas:=[],res:=λxs ob=>match xs,ob 1000,ob 2000,ob 2001 with|[y0],some o1000,some o2000,some o2001=>some (y0,[(1000,o1000),(2000,o2000),(2001,o2001)])|_,_,_,_=>none}),
  (zS,{tys:=[.int,.int],nils:=[(0,(4,(72,.var))),(0,(5,(74,.con)))],datas:=[],res:=λxs ob=>match xs,ob 1000,ob 2000,ob 2001 with|[y0,y1],some (.cells o1000),some o2000,some o2001=>some (.tup [],[(1000,.cells ((o1000.set 1 y0).set 3 y1)),(2000,o2000),(2001,o2001)])|_,_,_,_=>none}),
  (zV,{tys:=[.int],nils:=[(0,(4,(72,.var))),(0,(5,(74,.con)))],datas:=[],res:=λxs ob=>match xs,ob 1000,ob 2000,ob 2001 with|[y0],some (.cells o1000),some o2000,some o2001=>some (.tup [],[(1000,.cells (o1000.set 3 y0)),(2000,o2000),(2001,o2001)])|_,_,_,_=>none}),
  (yZ,{tys:=[.int,.int,.int],nils:=[(0,(4,(72,.var))),(0,(5,(74,.con)))],datas:=[],res:=λxs ob=>match xs,ob 1000,ob 2000,ob 2001 with|[y0,y1,y2],some (.cells o1000),some o2000,some o2001=>some (y2,[(1000,.cells ((o1000.set 1 y0).set 3 y1)),(2000,o2000),(2001,o2001)])|_,_,_,_=>none}),
  (o9,{tys:=[.int,.int,.con],nils:=[(0,(4,(72,.var))),(0,(5,(74,.con)))],datas:=[],res:=λxs ob=>match xs,ob 1000,ob 2000,ob 2001 with|[y0,y1,y2],some (.cells o1000),some o2000,some o2001=>some (y2,[(1000,.cells ((o1000.set 1 y0).set 3 y1)),(2000,o2000),(2001,o2001)])|_,_,_,_=>none}),
  (uW,{tys:=[.int,.int,.int],nils:=[(0,(4,(72,.var))),(0,(5,(74,.con)))],datas:=[],res:=λxs ob=>match xs,ob 1000,ob 2000,ob 2001 with|[y0,y1,y2],some (.cells o1000),some o2000,some o2001=>some (y2,[(1000,.cells ((o1000.set 1 y0).set 3 y1)),(2000,o2000),(2001,o2001)])|_,_,_,_=>none}),
  (xH,{tys:=[.int,.int,.int],nils:=[(0,(4,(72,.var))),(0,(5,(74,.con)))],datas:=[],res:=λxs ob=>match xs,ob 1000,ob 2000,ob 2001 with|[y0,y1,y2],some (.cells o1000),some o2000,some o2001=>some (y2,[(1000,.cells ((o1000.set 1 y0).set 3 y1)),(2000,o2000),(2001,o2001)])|_,_,_,_=>none}),
  (yK,{tys:=[.int],nils:=[(0,(4,(72,.var))),(0,(5,(74,.con)))],datas:=[],res:=λxs ob=>match xs,ob 1000,ob 2000,ob 2001 with|[y0],some o1000,some o2000,some o2001=>some (y0,[(1000,o1000),(2000,o2000),(2001,o2001)])|_,_,_,_=>none}),
  (vB,{tys:=[.int,.list .byte],nils:=[(0,(0,(5,.byte))),(0,(1,(5,.byte)))],datas:=[],res:=λxs ob=>match xs,ob 1000,ob 2000 with|[y0,.sl .byte y1],some o,some _=>some (.tup [y0,.undef],[(1000,o),(2000,.row 5 .byte y1)])|_,_,_=>none}),
  (Nm,{tys:=[.str],nils:=[(0,(0,(5,.byte))),(0,(1,(5,.byte)))],datas:=[],res:=λxs ob=>match xs,ob 1000,ob 2000 with|[y0],some o1000,some o2000=>some (y0,[(1000,o1000),(2000,o2000)])|_,_,_=>none}),
  (Kl,{tys:=[.str],nils:=[(0,(0,(5,.byte))),(0,(1,(5,.byte)))],datas:=[],res:=λxs ob=>match xs,ob 1000,ob 2000 with|[y0],some o1000,some o2000=>some (y0,[(1000,o1000),(2000,o2000)])|_,_,_=>none}),
  (oo,{tys:=[.str],nils:=[(0,(0,(5,.byte))),(0,(1,(5,.byte)))],datas:=[],res:=λxs ob=>match xs,ob 1000,ob 2000 with|[y0],some o1000,some o2000=>some (y0,[])|_,_,_=>none}),
  (X5,{tys:=[.mdl,.int],nils:=[],datas:=[],res:=λxs _=>match xs with|[.agg y0,y1]=>some (.ptr 3000 0,[(3000,.cells (y0++[.sl (.list .lit) [],y1,.nil,.nil,.own 3001])),(3001,.mp .str .int [])])|_=>none}),
  (fy,{tys:=[.int,.list .int,.bool,.list (.list .lit),.int,.list (.list .lit),.list .step,.list (.pr .str .int)],nils:=[(1,(6,(53,.list .lit))),(1,(7,(129,.step)))],datas:=[],res:=λxs ob=>match xs,ob 1000,ob 1001,ob 2000,ob 2001,ob 1002 with|[y0,.sl .int y1,.bool y2,y3,y4,.sl (.list .lit) y5,.sl .step y6,.sl (.pr .str .int) y7],some (.cells o1000),some (.cells o1001),some o2000,some o2001,some o1002=>some (y0,[(1000,.cells (o1000.set 1 (.slN .int y1 y2))),(1001,.cells ((o1001.set 4 y3).set 5 y4)),(2000,.row 53 (.list .lit) y5),(2001,.row 129 .step y6),(1002,.mp .str .int y7)])|_,_,_,_,_,_=>none}),
  (sG,{tys:=[.list .step,.bool],nils:=[(0,(6,(53,.list .lit))),(0,(7,(129,.step)))],datas:=[],res:=λxs ob=>match xs,ob 1000,ob 2000,ob 2001,ob 1001 with|[y0,y1],some (.cells o1000),some o2000,some o2001,some o1001=>some (.tup [y0,y1],[(1000,.cells (o1000.set 7 y0)),(2000,o2000),(1001,o1001)])|_,_,_,_,_=>none}),
  (lD,{tys:=[.int,.list (.list .lit),.list .step,.list (.pr .str .int),.list .int,.int],nils:=[(0,(6,(53,.list .lit))),(0,(7,(129,.step)))],datas:=[],res:=λxs ob=>match xs,ob 1000,ob 2000,ob 2001,ob 1001 with|[y0,.sl (.list .lit) y1,.sl .step y2,.sl (.pr .str .int) y3,y4,y5],some (.cells o1000),some o2000,some o2001,some o1001=>some (.tup [y4,y5],[(1000,.cells (o1000.set 5 y0)),(2000,.row 53 (.list .lit) y1),(2001,.row 129 .step y2),(1001,.mp .str .int y3)])|_,_,_,_,_=>none}),
  (R1,{tys:=[.bool,.list (.list .int)],nils:=[(0,(4,(40,.list .int)))],datas:=[],res:=λxs ob=>match xs,ob 1000,ob 2000 with|[y0,.sl (.list .int) y1],some o1000,some o2000=>some (y0,[(1000,o1000),(2000,.row 40 (.list .int) y1)])|_,_,_=>none}),
  (lF,{tys:=[.bool,.list (.list .lit)],nils:=[(0,(4,(53,.list .lit)))],datas:=[],res:=λxs ob=>match xs,ob 1000,ob 2000 with|[y0,.sl (.list .lit) y1],some o1000,some o2000=>some (y0,[(1000,o1000),(2000,.row 53 (.list .lit) y1)])|_,_,_=>none}),
  (pD,{tys:=[.int,.list .var,.list .con,.int,.int,.list (.pr .str .int)],nils:=[(0,(3,(72,.var))),(0,(4,(74,.con)))],datas:=[],res:=λxs ob=>match xs,ob 1000,ob 2000,ob 2001,ob 1001 with|[y0,.sl .var y1,.sl .con y2,y3,y4,.sl (.pr .str .int) y5],some (.cells o1000),some o2000,some o2001,some o1001=>some (.tup [],[(1000,.cells (((o1000.set 1 y0).set 5 y3).set 6 y4)),(2000,.row 72 .var y1),(2001,.row 74 .con y2),(1001,.mp .str .int y5)])|_,_,_,_,_=>none}),
  (xW,{tys:=[.int,.int,.list .int],nils:=[(0,(4,(72,.var))),(0,(5,(74,.con)))],datas:=[],res:=λxs ob=>match xs,ob 1000,ob 2000,ob 2001 with|[y0,y1,y2],some (.cells o1000),some o2000,some o2001=>some (y2,[(1000,.cells ((o1000.set 1 y0).set 3 y1)),(2000,o2000),(2001,o2001)])|_,_,_,_=>none}),
  (vJ,{tys:=[.int,.int,.list .int],nils:=[(0,(4,(72,.var))),(0,(5,(74,.con)))],datas:=[],res:=λxs ob=>match xs,ob 1000,ob 2000,ob 2001 with|[y0,y1,y2],some (.cells o1000),some o2000,some o2001=>some (y2,[(1000,.cells ((o1000.set 1 y0).set 3 y1)),(2000,o2000),(2001,o2001)])|_,_,_,_=>none}),
  (yA,{tys:=[.int,.int,.bool],nils:=[(0,(4,(72,.var))),(0,(5,(74,.con)))],datas:=[],res:=λxs ob=>match xs,ob 1000,ob 2000,ob 2001 with|[y0,y1,y2],some (.cells o1000),some o2000,some o2001=>some (y2,[(1000,.cells ((o1000.set 1 y0).set 3 y1)),(2000,o2000),(2001,o2001)])|_,_,_,_=>none}),
  (tH,{tys:=[.int,.int,.lit],nils:=[(0,(4,(72,.var))),(0,(5,(74,.con)))],datas:=[],res:=λxs ob=>match xs,ob 1000,ob 2000,ob 2001 with|[y0,y1,y2],some (.cells o1000),some o2000,some o2001=>some (y2,[(1000,.cells ((o1000.set 1 y0).set 3 y1)),(2000,o2000),(2001,o2001)])|_,_,_,_=>none}),
  (nB,{tys:=[],nils:=[(0,(0,(5,.byte))),(0,(1,(5,.byte)))],datas:=[],res:=λxs ob=>match xs,ob 1000,ob 2000 with|[],some o1000,some o2000=>some (.tup [],[(1000,o1000),(2000,o2000)])|_,_,_=>none}),
  (Iw,{tys:=[.str],nils:=[],datas:=[],res:=λxs ob=>match xs,ob 1000,ob 2000 with|[y0],some o,some r=>some (y0,[(1000,o),(2000,r)])|[y0],none,none=>some (y0,[])|_,_,_=>none}),
  (PT,{tys:=[.str],nils:=[],datas:=[],res:=λxs ob=>match xs,ob 1000,ob 2000 with|[y0],some o,some r=>some (y0,[(1000,o),(2000,r)])|[y0],none,none=>some (y0,[])|_,_,_=>none}),
  (Np,{tys:=[.str],nils:=[(0,(0,(5,.byte))),(0,(1,(5,.byte)))],datas:=[],res:=λxs ob=>match xs,ob 1000,ob 2000 with|[y0],some o1000,some o2000=>some (y0,[(1000,o1000),(2000,o2000)])|_,_,_=>none}),
  (nC,{tys:=[.list .lit,.bool,.list .int],nils:=[(0,(6,(53,.list .lit))),(0,(7,(129,.step)))],datas:=[],res:=λxs ob=>match xs,ob 1000,ob 2000,ob 2001,ob 1001 with|[.sl .lit y0,.bool y1,y2],some o1000,some o2000,some o2001,some o1001=>some (.tup [(.slN .lit y0 y1),y2],[(1000,o1000),(2000,o2000),(2001,o2001),(1001,o1001)])|_,_,_,_,_=>none}),
  (rM,{tys:=[.list (.list .lit)],nils:=[(0,(6,(53,.list .lit))),(0,(7,(129,.step)))],datas:=[],res:=λxs ob=>match xs,ob 1000,ob 2000,ob 2001,ob 1001 with|[y0],some o1000,some o2000,some o2001,some o1001=>some (y0,[(1000,o1000),(2000,o2000),(2001,o2001),(1001,o1001)])|_,_,_,_,_=>none}),
  (nD,{tys:=[.list .step,.list (.pr .str .int)],nils:=[(0,(6,(53,.list .lit))),(0,(7,(129,.step)))],datas:=[],res:=λxs ob=>match xs,ob 1000,ob 2000,ob 2001,ob 1001 with|[.sl .step y0,.sl (.pr .str .int) y1],some o1000,some o2000,some o2001,some o1001=>some (.tup [],[(1000,o1000),(2000,o2000),(2001,.row 129 .step y0),(1001,.mp .str .int y1)])|_,_,_,_,_=>none}),
  (tS,{tys:=[.list .int],nils:=[],datas:=[],res:=λxs ob=>match xs with|[.sl .int y0]=>some (.own 3000,[(3000,.row 3 .int y0)])|_=>none}),
  (qE,{tys:=[.list .int],nils:=[],datas:=[],res:=λxs ob=>match xs,ob 1000 with|[.sl .int y0],some o1000=>some (.tup [],[(1000,.row 3 .int y0)])|_,_=>none}),
  (sQ,{tys:=[.list .int],nils:=[],datas:=[],res:=λxs ob=>match xs,ob 1000 with|[y0],some o1000=>some (y0,[])|_,_=>none}),
  (yT,{tys:=[.int,.bool],nils:=[(0,(3,(72,.var))),(0,(4,(74,.con)))],datas:=[],res:=λxs ob=>match xs,ob 1000,ob 2000,ob 2001,ob 1001 with|[y0,y1],some (.cells o1000),some o2000,some o2001,some o1001=>some (y1,[(1000,.cells (o1000.set 1 y0)),(2000,o2000),(2001,o2001),(1001,o1001)])|_,_,_,_,_=>none}),
  (uI,{tys:=[.str],nils:=[(0,(3,(72,.var))),(0,(4,(74,.con)))],datas:=[],res:=λxs ob=>match xs,ob 1000,ob 2000,ob 2001,ob 1001 with|[y0],some o1000,some o2000,some o2001,some o1001=>some (y0,[(1000,o1000),(2000,o2000),(2001,o2001),(1001,o1001)])|_,_,_,_,_=>none}),
  (zI,{tys:=[.int],nils:=[(0,(3,(72,.var))),(0,(4,(74,.con)))],datas:=[],res:=λxs ob=>match xs,ob 1000,ob 2000,ob 2001,ob 1001 with|[y0],some (.cells o1000),some o2000,some o2001,some o1001=>some (.tup [],[(1000,.cells (o1000.set 1 y0)),(2000,o2000),(2001,o2001),(1001,o1001)])|_,_,_,_,_=>none}),
  (zJ,{tys:=[.int,.int],nils:=[(0,(3,(72,.var))),(0,(4,(74,.con)))],datas:=[],res:=λxs ob=>match xs,ob 1000,ob 2000,ob 2001,ob 1001 with|[y0,y1],some (.cells o1000),some o2000,some o2001,some o1001=>some (y1,[(1000,.cells (o1000.set 1 y0)),(2000,o2000),(2001,o2001),(1001,o1001)])|_,_,_,_,_=>none}),
  (qP,{tys:=[.int,.con],nils:=[(0,(3,(72,.var))),(0,(4,(74,.con)))],datas:=[],res:=λxs ob=>match xs,ob 1000,ob 2000,ob 2001,ob 1001 with|[y0,y1],some (.cells o1000),some o2000,some o2001,some o1001=>some (y1,[(1000,.cells (o1000.set 1 y0)),(2000,o2000),(2001,o2001),(1001,o1001)])|_,_,_,_,_=>none}),
  (zK,{tys:=[.int,.int],nils:=[(0,(3,(72,.var))),(0,(4,(74,.con)))],datas:=[],res:=λxs ob=>match xs,ob 1000,ob 2000,ob 2001,ob 1001 with|[y0,y1],some (.cells o1000),some o2000,some o2001,some o1001=>some (y1,[(1000,.cells (o1000.set 1 y0)),(2000,o2000),(2001,o2001),(1001,o1001)])|_,_,_,_,_=>none}),
  (zO,{tys:=[],nils:=[(0,(3,(72,.var))),(0,(4,(74,.con)))],datas:=[],res:=λxs ob=>match xs,ob 1000,ob 2000,ob 2001,ob 1001 with|[],some o1000,some o2000,some o2001,some o1001=>some (.tup [],[(1000,o1000),(2000,o2000),(2001,o2001),(1001,o1001)])|_,_,_,_,_=>none}),
  (tZ,{tys:=[.list .lit],nils:=[],datas:=[],res:=λxs ob=>match xs with|[.sl .lit y0]=>some (.own 3000,[(3000,.row 114 .lit y0)])|_=>none}),
  (iB,{tys:=[.list (.list .int),.list .step],nils:=[(0,(6,(129,.step)))],datas:=[],res:=λxs ob=>match xs,ob 1000,ob 2000 with|[y0,.sl .step y1],some (.cells o1000),some o2000=>some (.tup [],[(1000,.cells (o1000.set 5 y0)),(2000,.row 129 .step y1)])|_,_,_=>none}),
  (vV,{tys:=[.int],nils:=[],datas:=[],res:=λxs _=>match xs with|[y0]=>some (.tup [y0,.undef],[])|_=>none}),
  (zL,{tys:=[.int,.list .int],nils:=[(0,(3,(72,.var))),(0,(4,(74,.con)))],datas:=[],res:=λxs ob=>match xs,ob 1000,ob 2000,ob 2001,ob 1001 with|[y0,y1],some (.cells o1000),some o2000,some o2001,some o1001=>some (y1,[(1000,.cells (o1000.set 1 y0)),(2000,o2000),(2001,o2001),(1001,o1001)])|_,_,_,_,_=>none}),
  (xI,{tys:=[.int,.list .int],nils:=[(0,(3,(72,.var))),(0,(4,(74,.con)))],datas:=[],res:=λxs ob=>match xs,ob 1000,ob 2000,ob 2001,ob 1001 with|[y0,y1],some (.cells o1000),some o2000,some o2001,some o1001=>some (y1,[(1000,.cells (o1000.set 1 y0)),(2000,o2000),(2001,o2001),(1001,o1001)])|_,_,_,_,_=>none}),
  (sA,{tys:=[.int,.list (.list .int)],nils:=[(0,(3,(72,.var))),(0,(4,(74,.con)))],datas:=[],res:=λxs ob=>match xs,ob 1000,ob 2000,ob 2001,ob 1001,ob 1002 with|[y0,y1],some (.cells o1000),some o2000,some o2001,some o1001,some o1002=>some (y1,[(1000,.cells (o1000.set 1 y0)),(2000,o2000),(2001,o2001),(1001,o1001),(1002,o1002)])|_,_,_,_,_,_=>none}),
  (yS,{tys:=[.int,.list .int],nils:=[(1,(3,(72,.var))),(1,(4,(74,.con)))],datas:=[],res:=λxs ob=>match xs,ob 1000,ob 1001,ob 2000,ob 2001,ob 1002 with|[y0,y1],some o1000,some (.cells o1001),some o2000,some o2001,some o1002=>some (y1,[(1000,o1000),(1001,.cells (o1001.set 1 y0)),(2000,o2000),(2001,o2001),(1002,o1002)])|_,_,_,_,_,_=>none}),
  (uO,{tys:=[.int,.list .lit],nils:=[(0,(3,(72,.var))),(0,(4,(74,.con)))],datas:=[],res:=λxs ob=>match xs,ob 1000,ob 2000,ob 2001,ob 1001 with|[y0,y1],some (.cells o1000),some o2000,some o2001,some o1001=>some (y1,[(1000,.cells (o1000.set 1 y0)),(2000,o2000),(2001,o2001),(1001,o1001)])|_,_,_,_,_=>none}),
  (yI,{tys:=[.int,.lit],nils:=[(0,(3,(72,.var))),(0,(4,(74,.con)))],datas:=[],res:=λxs ob=>match xs,ob 1000,ob 2000,ob 2001,ob 1001 with|[y0,y1],some (.cells o1000),some o2000,some o2001,some o1001=>some (y1,[(1000,.cells (o1000.set 1 y0)),(2000,o2000),(2001,o2001),(1001,o1001)])|_,_,_,_,_=>none}),
  (iD,{tys:=[.int],nils:=[(0,(3,(72,.var))),(0,(4,(74,.con)))],datas:=[],res:=λxs ob=>match xs,ob 1000,ob 2000,ob 2001,ob 1001 with|[y0],some o1000,some o2000,some o2001,some o1001=>some (y0,[(1000,o1000),(2000,o2000),(2001,o2001),(1001,o1001)])|_,_,_,_,_=>none}),
  (Nr,{tys:=[.bool,.list .int],nils:=[],datas:=[],res:=λxs ob=>match xs,ob 1000 with|[y0,.sl .int y1],some o1000=>some (y0,[(1000,.row 3 .int y1)])|_,_=>none}),
  (gS,{tys:=[.con,.list (.list .int),.list .int,.list .int,.list (.pr (.pr .int .int) .int)],nils:=[],datas:=[],res:=λxs _=>match xs with|[.agg y0,y1,y2,y3,.sl (.pr (.pr .int .int) .int) y4]=>some (.clo 282 none [.iptr [.iptr (y0++[y1,y2,y3,.mp (.pr .int .int) .int y4]) 0] 0],[])|_=>none}),
  (bQ,{tys:=[.list .term,.list (.pr .int (.list .int)),.con],nils:=[],datas:=[],res:=λxs _=>match xs with|[y0,.sl (.pr .int (.list .int)) y1,.agg y2]=>some (.clo 285 none [.iptr [y0] 0,.iptr [.mp .int (.list .int) y1] 0,.iptr y2 0],[])|_=>none}),
  (bR,{tys:=[.list (.list .int),.con],nils:=[],datas:=[],res:=λxs _=>match xs with|[y0,.agg y1]=>some (.clo 289 none [.iptr [y0] 0,.iptr y1 0],[])|_=>none}),
  (pN,{tys:=[.list .lit],nils:=[],datas:=[],res:=λxs ob=>match xs with|[.sl .lit y0]=>some (.own 3000,[(3000,.row 114 .lit y0)])|_=>none,raw:=true}),
  (iF,{tys:=[.bool,.list (.list .int),.list .step],nils:=[(0,(6,(129,.step)))],datas:=[],res:=λxs ob=>match xs,ob 1000,ob 2000 with|[y0,y1,.sl .step y2],some (.cells o1000),some o2000=>some (y0,[(1000,.cells (o1000.set 5 y1)),(2000,.row 129 .step y2)])|_,_,_=>none}),
  (xA,{tys:=[.list .int,.list (.pr (.pr .int .int) .int)],nils:=[],datas:=[],res:=λxs ob=>match xs,ob 1000,ob 2000,ob 1001 with|[.sl .int y0,.sl (.pr (.pr .int .int) .int) y1],some o1000,some o2000,some o1001=>some (.tup [],[(1000,o1000),(2000,.row 3 .int y0),(1001,.mp (.pr .int .int) .int y1)])|_,_,_,_=>none}),
  (rU,{tys:=[.list (.list .int)],nils:=[],datas:=[],res:=λxs ob=>match xs with|[.sl (.list .int) y0]=>some (.own 3000,[(3000,.row 40 (.list .int) y0)])|_=>none}),
  (rN,{tys:=[.bool,.list (.pr .int .int),.list (.pr .int .int)],nils:=[],datas:=[(0,0)],res:=λxs ob=>match xs,ob 1000,ob 1001,ob 1002 with|[y0,.sl (.pr .int .int) y1,.sl (.pr .int .int) y2],some o1000,some o1001,some o1002=>some (y0,[(1000,o1000),(1001,.mp .int .int y1),(1002,.mp .int .int y2)])|_,_,_,_=>none}),
  (qU,{tys:=[.list .lit],nils:=[],datas:=[],res:=λxs ob=>match xs with|[.sl .lit y0]=>some (.own 3000,[(3000,.row 114 .lit y0)])|_=>none,raw:=true})]
 vals:=[83,85,101,123,139,147,179,229,287,299]
 arr:=[288]
 thr:=[pD,uI,zI,zJ,qP,zK,zO,zL,xI,sA,yS,uO,yI]
theorem zkW:Ev.chk Tryz.prog=true:=by kernel_rfl
theorem zkX:∀x∈Ev.sig,∀args w,(callFunc x.1 args).run Tryz.prog w=.ok (.enter x.1 args) w:=by
 intro x hx args w;simp only[Ev,List.mem_cons,List.not_mem_nil,or_false]at hx
 rcases hx with rfl|rfl|rfl|rfl|rfl|rfl|rfl|rfl|rfl|rfl|rfl|rfl|rfl|rfl|rfl|rfl|rfl|rfl|rfl|rfl|rfl|rfl|rfl|rfl|rfl|rfl|rfl|rfl|rfl|rfl|rfl|rfl|rfl|rfl|rfl|rfl|rfl|rfl|rfl|rfl|rfl|rfl|rfl|rfl|rfl|rfl|rfl|rfl|rfl|rfl|rfl|rfl|rfl|rfl|rfl|rfl|rfl|rfl|rfl|rfl|rfl|rfl|rfl|rfl|rfl|rfl|rfl|rfl|rfl|rfl|rfl|rfl|rfl|rfl|rfl|rfl|rfl|rfl|rfl|rfl|rfl|rfl|rfl|rfl|rfl|rfl|rfl|rfl|rfl|rfl|rfl|rfl|rfl|rfl|rfl|rfl|rfl|rfl|rfl|rfl|rfl|rfl|rfl|rfl|rfl|rfl|rfl|rfl|rfl|rfl|rfl|rfl|rfl|rfl|rfl|rfl|rfl|rfl|rfl|rfl|rfl|rfl|rfl|rfl|rfl|rfl|rfl|rfl|rfl|rfl|rfl|rfl|rfl|rfl|rfl|rfl|rfl|rfl|rfl|rfl|rfl|rfl|rfl|rfl|rfl|rfl|rfl|rfl|rfl|rfl|rfl|rfl|rfl|rfl|rfl|rfl|rfl|rfl|rfl|rfl|rfl|rfl|rfl
 ·exact Tryz.call10 args w
 ·exact Tryz.call11 args w
 ·exact Tryz.call12 args w
 ·exact Tryz.call13 args w
 ·exact Tryz.call14 args w
 ·exact Tryz.call15 args w
 ·exact Tryz.call16 args w
 ·exact Tryz.call17 args w
 ·exact Tryz.call18 args w
 ·exact Tryz.call19 args w
 ·exact Tryz.call20 args w
 ·exact Tryz.call21 args w
 ·exact Tryz.call22 args w
 ·exact Tryz.call23 args w
 ·exact Tryz.call24 args w
 ·exact Tryz.call25 args w
 ·exact Tryz.call26 args w
 ·exact Tryz.call27 args w
 ·exact Tryz.call28 args w
 ·exact Tryz.call29 args w
 ·exact Tryz.call30 args w
 ·exact Tryz.call31 args w
 ·exact Tryz.call32 args w
 ·exact Tryz.call33 args w
 ·exact Tryz.call34 args w
 ·exact Tryz.call35 args w
 ·exact Tryz.call36 args w
 ·exact Tryz.call37 args w
 ·exact Tryz.call38 args w
 ·exact Tryz.call39 args w
 ·exact Tryz.call40 args w
 ·exact Tryz.call41 args w
 ·exact Tryz.call43 args w
 ·exact Tryz.call44 args w
 ·exact Tryz.call47 args w
 ·exact Tryz.call54 args w
 ·exact Tryz.call55 args w
 ·exact Tryz.call57 args w
 ·exact Tryz.call61 args w
 ·exact Tryz.call62 args w
 ·exact Tryz.call63 args w
 ·exact Tryz.call64 args w
 ·exact Tryz.call65 args w
 ·exact Tryz.call66 args w
 ·exact Tryz.call67 args w
 ·exact Tryz.call68 args w
 ·exact Tryz.call69 args w
 ·exact Tryz.call70 args w
 ·exact Tryz.call74 args w
 ·exact Tryz.call75 args w
 ·exact Tryz.call76 args w
 ·exact Tryz.call77 args w
 ·exact Tryz.call78 args w
 ·exact Tryz.call79 args w
 ·exact Tryz.call80 args w
 ·exact Tryz.call81 args w
 ·exact Tryz.call82 args w
 ·exact Tryz.call85 args w
 ·exact Tryz.call86 args w
 ·exact Tryz.call87 args w
 ·exact Tryz.call88 args w
 ·exact Tryz.call90 args w
 ·exact Tryz.call91 args w
 ·exact Tryz.call92 args w
 ·exact Tryz.call95 args w
 ·exact Tryz.call96 args w
 ·exact Tryz.call97 args w
 ·exact Tryz.call98 args w
 ·exact Tryz.call99 args w
 ·exact Tryz.call100 args w
 ·exact Tryz.call101 args w
 ·exact Tryz.call108 args w
 ·exact Tryz.call110 args w
 ·exact Tryz.call111 args w
 ·exact Tryz.call114 args w
 ·exact Tryz.call115 args w
 ·exact Tryz.call116 args w
 ·exact Tryz.call117 args w
 ·exact Tryz.call118 args w
 ·exact Tryz.call120 args w
 ·exact Tryz.call121 args w
 ·exact Tryz.call122 args w
 ·exact Tryz.call123 args w
 ·exact Tryz.call124 args w
 ·exact Tryz.call126 args w
 ·exact Tryz.call127 args w
 ·exact Tryz.call128 args w
 ·exact Tryz.call129 args w
 ·exact Tryz.call131 args w
 ·exact Tryz.call134 args w
 ·exact Tryz.call135 args w
 ·exact Tryz.call136 args w
 ·exact Tryz.call137 args w
 ·exact Tryz.call138 args w
 ·exact Tryz.call139 args w
 ·exact Tryz.call161 args w
 ·exact Tryz.call162 args w
 ·exact Tryz.call165 args w
 ·exact Tryz.call166 args w
 ·exact Tryz.call167 args w
 ·exact Tryz.call169 args w
 ·exact Tryz.call171 args w
 ·exact Tryz.call174 args w
 ·exact Tryz.call175 args w
 ·exact Tryz.call176 args w
 ·exact Tryz.call177 args w
 ·exact Tryz.call178 args w
 ·exact Tryz.call179 args w
 ·exact Tryz.call181 args w
 ·exact Tryz.call182 args w
 ·exact Tryz.call183 args w
 ·exact Tryz.call184 args w
 ·exact Tryz.call185 args w
 ·exact Tryz.call186 args w
 ·exact Tryz.call187 args w
 ·exact Tryz.call188 args w
 ·exact Tryz.call189 args w
 ·exact Tryz.call190 args w
 ·exact Tryz.call192 args w
 ·exact Tryz.call194 args w
 ·exact Tryz.call195 args w
 ·exact Tryz.call196 args w
 ·exact Tryz.call198 args w
 ·exact Tryz.call199 args w
 ·exact Tryz.call200 args w
 ·exact Tryz.call201 args w
 ·exact Tryz.call202 args w
 ·exact Tryz.call203 args w
 ·exact Tryz.call207 args w
 ·exact Tryz.call218 args w
 ·exact Tryz.call219 args w
 ·exact Tryz.call220 args w
 ·exact Tryz.call221 args w
 ·exact Tryz.call222 args w
 ·exact Tryz.call223 args w
 ·exact Tryz.call225 args w
 ·exact Tryz.call226 args w
 ·exact Tryz.call232 args w
 ·exact Tryz.call233 args w
 ·exact Tryz.call235 args w
 ·exact Tryz.call236 args w
 ·exact Tryz.call237 args w
 ·exact Tryz.call238 args w
 ·exact Tryz.call240 args w
 ·exact Tryz.call244 args w
 ·exact Tryz.call247 args w
 ·exact Tryz.call249 args w
 ·exact Tryz.call251 args w
 ·exact Tryz.call252 args w
 ·exact Tryz.call257 args w
 ·exact Tryz.call272 args w
 ·exact Tryz.call273 args w
 ·exact Tryz.call279 args w
 ·exact Tryz.call280 args w
 ·exact Tryz.call283 args w
 ·exact Tryz.call284 args w
 ·exact Tryz.call286 args w
 ·exact Tryz.call292 args w
 ·exact Tryz.call294 args w
 ·exact Tryz.call295 args w
 ·exact Tryz.call311 args w
 ·exact Tryz.call312 args w
 ·exact Tryz.call317 args w
theorem zkm:Ev.chk2 Tryz.prog=true:=by kernel_rfl
theorem zkn:∀x∈Ev.hsig,Ent Tryz.prog x.1:=by
 intro x hx args w;simp only[Ev,List.mem_cons,List.not_mem_nil,or_false]at hx
 rcases hx with rfl|rfl|rfl|rfl|rfl|rfl|rfl|rfl|rfl|rfl|rfl|rfl|rfl|rfl|rfl|rfl|rfl|rfl|rfl|rfl|rfl|rfl|rfl|rfl|rfl|rfl|rfl|rfl|rfl|rfl|rfl|rfl|rfl|rfl|rfl|rfl|rfl|rfl|rfl|rfl|rfl|rfl|rfl|rfl|rfl|rfl|rfl|rfl|rfl|rfl|rfl|rfl|rfl|rfl|rfl|rfl|rfl|rfl|rfl|rfl|rfl
 ·exact Tryz.call42 args w
 ·exact Tryz.call45 args w
 ·exact Tryz.call46 args w
 ·exact Tryz.call48 args w
 ·exact Tryz.call49 args w
 ·exact Tryz.call50 args w
 ·exact Tryz.call51 args w
 ·exact Tryz.call52 args w
 ·exact Tryz.call53 args w
 ·exact Tryz.call56 args w
 ·exact Tryz.call58 args w
 ·exact Tryz.call59 args w
 ·exact Tryz.call60 args w
 ·exact Tryz.call71 args w
 ·exact Tryz.call72 args w
 ·exact Tryz.call73 args w
 ·exact Tryz.call83 args w
 ·exact Tryz.call84 args w
 ·exact Tryz.call89 args w
 ·exact Tryz.call94 args w
 ·exact Tryz.call102 args w
 ·exact Tryz.call103 args w
 ·exact Tryz.call104 args w
 ·exact Tryz.call105 args w
 ·exact Tryz.call106 args w
 ·exact Tryz.call109 args w
 ·exact Tryz.call112 args w
 ·exact Tryz.call113 args w
 ·exact Tryz.call130 args w
 ·exact Tryz.call132 args w
 ·exact Tryz.call133 args w
 ·exact Tryz.call141 args w
 ·exact Tryz.call142 args w
 ·exact Tryz.call143 args w
 ·exact Tryz.call154 args w
 ·exact Tryz.call155 args w
 ·exact Tryz.call156 args w
 ·exact Tryz.call157 args w
 ·exact Tryz.call158 args w
 ·exact Tryz.call159 args w
 ·exact Tryz.call160 args w
 ·exact Tryz.call193 args w
 ·exact Tryz.call197 args w
 ·exact Tryz.call210 args w
 ·exact Tryz.call211 args w
 ·exact Tryz.call212 args w
 ·exact Tryz.call213 args w
 ·exact Tryz.call214 args w
 ·exact Tryz.call215 args w
 ·exact Tryz.call216 args w
 ·exact Tryz.call217 args w
 ·exact Tryz.call234 args w
 ·exact Tryz.call242 args w
 ·exact Tryz.call243 args w
 ·exact Tryz.call245 args w
 ·exact Tryz.call248 args w
 ·exact Tryz.call250 args w
 ·exact Tryz.call281 args w
 ·exact Tryz.call290 args w
 ·exact Tryz.call291 args w
 ·exact Tryz.call320 args w
theorem MO:tT Tryz.prog Ev:=zhj (by kernel_rfl) zkW zkm zkX zkn
abbrev FD(A:wA)(fn:Func)(ds:List D)(R:D→Prop):Prop:=fnD Tryz.prog Ev A fn.results.toList (Ys fn) ds R
abbrev FH(A:wA)(fn:Func)(ds:List D)(hp:List (Nat×yD))(roots:List D)(own:Bool)(R:D→List (Nat×yD)→Prop):Prop:=fnH Tryz.prog Ev A fn.results.toList (Ys fn) ds hp roots own R
def wC(A:wA)(fn:Func)(f:FuncId)(ds:List D):Prop:=∀ {r:D},((∀d∈ds,EX d)→FD A fn ds λd=>d=r)→XJ Tryz.prog f ds r
def oH(A:wA)(fn:Func)(f:FuncId)(ds:List D)(hp:List (Nat×yD))(roots:List D)(own:Bool):Prop:=∀ {r:D} {h0:List (Nat×yD)},((∀d∈ds,EX d)→(∀k o,zZ k hp=some o→okO o)→FH A fn ds hp roots own λd h1=>d=r∧h1=h0)→ze9 Tryz.prog f ds hp r h0
theorem wJ{A:wA}{fn:Func}{f:FuncId}{ds:List D}(hf:Tryz.prog.funcs[f]? =some fn)(hb:fn.body=some (Ys fn))(hn:fn.ntmps=A.n)(hl:Nat.ble ds.length A.n=true):wC A fn f ds:=λh=>zki MO hf hb hn.symm (by rw[hn];exact Nat.le_of_ble_eq_true hl) h
theorem oT{A:wA}{fn:Func}{f:FuncId}{ds:List D}{hp:List (Nat×yD)}{roots:List D}{own:Bool}(hf:Tryz.prog.funcs[f]? =some fn)(hb:fn.body=some (Ys fn))(hn:fn.ntmps=A.n)(hl:Nat.ble ds.length A.n=true):oH A fn f ds hp roots own:=λh=>zi8 MO hf hb hn.symm (by rw[hn];exact Nat.le_of_ble_eq_true hl) h
abbrev FX(A:wA)(fn:Func)(ds:List D)(hp:List (Nat×yD))(roots:List D)(own:Bool)(R:D→List (Nat×yD)→Prop)(T:Value→Prop):Prop:=fnX Tryz.prog Ev A fn.results.toList (Ys fn) ds hp roots own R T
def WT(A:wA)(fn:Func)(f:FuncId)(ds:List D)(hp:List (Nat×yD))(roots:List D)(own:Bool):Prop:=∀ {r:D} {h0:List (Nat×yD)},((∀d∈ds,EX d)→(∀k o,zZ k hp=some o→okO o)→FX A fn ds hp roots own (λd h1=>d=r∧h1=h0) λ_=>False)→ze9 Tryz.prog f ds hp r h0
def XR(A:wA)(fn:Func)(f:FuncId)(ds:List D)(hp:List (Nat×yD))(roots:List D)(own:Bool):Prop:=∀ {u:Value},((∀d∈ds,EX d)→(∀k o,zZ k hp=some o→okO o)→FX A fn ds hp roots own (λ_ _=>False) λv=>v=u)→ziK Tryz.prog f ds hp u
theorem UY{A:wA}{fn:Func}{f:FuncId}{ds:List D}{hp:List (Nat×yD)}{roots:List D}{own:Bool}(hf:Tryz.prog.funcs[f]? =some fn)(hb:fn.body=some (Ys fn))(hn:fn.ntmps=A.n)(hl:Nat.ble ds.length A.n=true):WT A fn f ds hp roots own:=λh=>zhf MO hf hb hn.symm (by rw[hn];exact Nat.le_of_ble_eq_true hl) h
theorem VW{A:wA}{fn:Func}{f:FuncId}{ds:List D}{hp:List (Nat×yD)}{roots:List D}{own:Bool}(hf:Tryz.prog.funcs[f]? =some fn)(hb:fn.body=some (Ys fn))(hn:fn.ntmps=A.n)(hl:Nat.ble ds.length A.n=true):XR A fn f ds hp roots own:=λh=>zi9 MO hf hb hn.symm (by rw[hn];exact Nat.le_of_ble_eq_true hl) h
abbrev LP(A:wA)(fn:Func)(path:List Nat)(cur n:Nat)(σ:St)(K:Ex→St→Prop):Prop:=zg2 (den Tryz.prog Ev A (sub path (Ys fn)) cur) A (BK A cur) n σ K
abbrev sK(A:wA)(fn:Func)(path:List Nat)(cur:Nat)(K:Ex→St→Prop):=zlj Tryz.prog Ev A (sub path (Ys fn)) cur K
abbrev iK(A:wA)(fn:Func)(path:List Nat)(cur n:Nat)(K:Ex→St→Prop):=zkM (den Tryz.prog Ev A (sub path (Ys fn)) cur) A (BK A cur) n K
abbrev eK(fn:Func)(R:D→Prop):=zkN Ev fn.results.toList R
abbrev eH(fn:Func)(roots:List D)(own:Bool)(R:D→List (Nat×yD)→Prop):=MH Ev fn.results.toList roots own R
abbrev eX(fn:Func)(roots:List D)(own:Bool)(R:D→List (Nat×yD)→Prop)(T:Value→Prop):=zkk Ev fn.results.toList roots own R T
abbrev pR:=D→List (Nat×yD)→Prop
abbrev Pu:=Value→Prop
abbrev xO:=D→Prop
abbrev nV(c:zE)(r:List D):List D:=dI c.kind:: .sl .int c.vars:: .sl .int c.consts::dI c.n::dS c.rows:: .sl .lit c.lits::r
abbrev TL(c:zG)(r:List D):List D:=.sl .var c.vars:: .sl .con c.cons::dI c.goal::dI c.var::r
abbrev zF(l:List vL)(a e g v:Int)(p:List zN)(q:List zE)(n:List (ByteArray×Int)):List (Nat×yD):=[(1000,.cells [.sl .tok l,dI a,dI e,.own 2000,.own 2001,dI g,dI v,.own 1001]),(2000,.row 72 .var p),(2001,.row 74 .con q),(1001,.mp .str .int n)]
abbrev zR(l:List vL)(a e r g v:Int)(p:List zN)(q:List zE):List (Nat×yD):=[(1000,.cells [.sl .tok l,dI a,dI e,dI r,.own 2000,.own 2001,dI g,dI v]),(2000,.row 72 .var p),(2001,.row 74 .con q)]
abbrev tU:=XJ Tryz.prog
abbrev yH:=ze9 Tryz.prog
abbrev nK:=ziK Tryz.prog
abbrev xK:=zgz Tryz.prog
abbrev c2Q:=zgA Tryz.prog
abbrev c3Q:=zgB Tryz.prog
abbrev ZF:=Ent Tryz.prog
def od:wA:= {own:=[],live:=[],n:=9}
theorem fc(a:List zE)(b:FuncId)(c:List D)(R:xO):FD od Tryz.f118 [.sl .con a,.clo b (some [.bool]) c] R=
 (xK uN [.sl .con a,.clo b (some [.bool]) c] .int λd=>
 R (dB (decide (0≤d)))):=by kernel_rfl
theorem hU(a:List zE)(b:FuncId)(c:List D):wC od Tryz.f118 uB [.sl .con a,.clo b (some [.bool]) c]:=wJ Tryz.func118 (by kernel_rfl) Tryz.ntmps118 rfl
def kL:wA:= {own:=[],live:=[],n:=9}
theorem ZG(a:List Int)(b:FuncId)(c:List D)(R:xO):FD kL Tryz.f124 [.sl .int a,.clo b (some [.bool]) c] R=
 (xK rT [.sl .int a,.clo b (some [.bool]) c] .int λd=>
 R (dB (decide (0≤d)))):=by kernel_rfl
theorem Zk(a:List Int)(b:FuncId)(c:List D):wC kL Tryz.f124 wO [.sl .int a,.clo b (some [.bool]) c]:=wJ Tryz.func124 (by kernel_rfl) Tryz.ntmps124 rfl
def cS:wA:= {own:=[2,5,7],live:=[],n:=8}
theorem Vz(a:List Int)(R:pR):FH cS Tryz.f141 [.sl .int a] [] [] true R=
 (∀b:Bool,(b=true→a=[])→
 zP b
 (R (.own 3000) [(3000,.row 3 .int ([]:List Int))])
 (wN .int (([]:List Int).length+a.length)=true∧
 R (.own 3000) [(3000,.row 3 .int (([]:List Int)++a))])):=by kernel_rfl
theorem WU(a:List Int):oH cS Tryz.f141 tS [.sl .int a] [] [] true:=oT Tryz.func141 (by kernel_rfl) Tryz.ntmps141 rfl
def oe:wA:= {own:=[],live:=[],n:=9}
theorem fe(a:List zN)(b:FuncId)(c:List D)(R:xO):FD oe Tryz.f162 [.sl .var a,.clo b (some [.bool]) c] R=
 (xK uP [.sl .var a,.clo b (some [.bool]) c] .int λd=>
 R (dB (decide (0≤d)))):=by kernel_rfl
theorem hZ(a:List zN)(b:FuncId)(c:List D):wC oe Tryz.f162 uC [.sl .var a,.clo b (some [.bool]) c]:=wJ Tryz.func162 (by kernel_rfl) Tryz.ntmps162 rfl
def og:wA:= {own:=[],live:=[],n:=9}
theorem ff(a:List zC)(b:FuncId)(c:List D)(R:xO):FD og Tryz.f167 [.sl .lit a,.clo b (some [.bool]) c] R=
 (xK uQ [.sl .lit a,.clo b (some [.bool]) c] .int λd=>
 R (dB (decide (0≤d)))):=by kernel_rfl
theorem gA(a:List zC)(b:FuncId)(c:List D):wC og Tryz.f167 xR [.sl .lit a,.clo b (some [.bool]) c]:=wJ Tryz.func167 (by kernel_rfl) Tryz.ntmps167 rfl
def nZ:wA:= {own:=[],live:=[],n:=9}
theorem cT(a:List (List Int))(b:FuncId)(c:List D)(R:xO):FD nZ Tryz.f169 [dS a,.clo b (some [.bool]) c] R=
 (xK sL [dS a,.clo b (some [.bool]) c] .int λd=>
 R (dB (decide (0≤d)))):=by kernel_rfl
theorem cC(a:List (List Int))(b:FuncId)(c:List D):wC nZ Tryz.f169 yF [dS a,.clo b (some [.bool]) c]:=wJ Tryz.func169 (by kernel_rfl) Tryz.ntmps169 rfl
def uR:wA:= {own:=[],live:=[(0,([0,1,7,8],[]))],n:=19}
def sY(a:List zE)(b:FuncId)(c:List D)(R:xO)(d:Nat)(e:Int):Prop:=LP uR Tryz.f175 [1,0,1,0,0] 0 d ⟨[(0,.sl .con a),(1,.clo b (some [.bool]) c),(7,dI (a.length:Int)),(8,dI e)],[]⟩ (zQ 0 (sK uR Tryz.f175 [1,1] 0 (eK Tryz.f175 R)))
theorem pS(b:List zE)(c:FuncId)(d:List D)(R:xO)(e:Nat)(a:Int):sY b c d R (e+1) a=
 (zP (decide (a<(b.length:Int)))
 (vW a b.length=true∧
 ZF c∧
 xK c ([dC (yO .con b a.toNat)]++d) .bool λf=>
 zP f
 (R (dI a))
 (sY b c d R e (yU (a+1))))
 (R (dI (-1)))):=by kernel_rfl
theorem eS(a:List zE)(b:FuncId)(c:List D)(R:xO):FD uR Tryz.f175 [.sl .con a,.clo b (some [.bool]) c] R=
 (∃n0,sY a b c R n0 0):=by kernel_rfl
theorem fR(a:List zE)(b:FuncId)(c:List D):wC uR Tryz.f175 uN [.sl .con a,.clo b (some [.bool]) c]:=wJ Tryz.func175 (by kernel_rfl) Tryz.ntmps175 rfl
def ov:wA:= {own:=[],live:=[(0,([0,1,12,13],[]))],n:=26}
def pQ(a b:List Int)(R:xO)(c:Nat)(d:Int):Prop:=LP ov Tryz.f181 [1,1,0,1,0,0] 0 c ⟨[(0,.sl .int a),(1,.sl .int b),(12,dI (a.length:Int)),(13,dI d)],[]⟩ (zQ 0 (sK ov Tryz.f181 [1,1,1] 0 (eK Tryz.f181 R)))
theorem gB(b c:List Int)(R:xO)(d:Nat)(a:Int):pQ b c R (d+1) a=
 (zP (decide (a<(b.length:Int)))
 (vW a b.length=true∧
 vW a c.length=true∧
 zP (!decide ((yO .int b a.toNat)=(yO .int c a.toNat)))
 (R (dB false))
 (pQ b c R d (yU (a+1))))
 (R (dB true))):=by kernel_rfl
theorem VA(a b:List Int)(R:xO):FD ov Tryz.f181 [.sl .int a,.sl .int b] R=
 (zP (!decide ((a.length:Int)=(b.length:Int)))
 (R (dB false))
 (∃n0,pQ a b R n0 0)):=by kernel_rfl
theorem WV(a b:List Int):wC ov Tryz.f181 xQ [.sl .int a,.sl .int b]:=wJ Tryz.func181 (by kernel_rfl) Tryz.ntmps181 rfl
def rV:wA:= {own:=[],live:=[(0,([0,1,7,8],[]))],n:=19}
def oA(a:List Int)(b:FuncId)(c:List D)(R:xO)(d:Nat)(e:Int):Prop:=LP rV Tryz.f187 [1,0,1,0,0] 0 d ⟨[(0,.sl .int a),(1,.clo b (some [.bool]) c),(7,dI (a.length:Int)),(8,dI e)],[]⟩ (zQ 0 (sK rV Tryz.f187 [1,1] 0 (eK Tryz.f187 R)))
theorem lJ(b:List Int)(c:FuncId)(d:List D)(R:xO)(e:Nat)(a:Int):oA b c d R (e+1) a=
 (zP (decide (a<(b.length:Int)))
 (vW a b.length=true∧
 ZF c∧
 xK c ([dI (yO .int b a.toNat)]++d) .bool λf=>
 zP f
 (R (dI a))
 (oA b c d R e (yU (a+1))))
 (R (dI (-1)))):=by kernel_rfl
theorem Xn(a:List Int)(b:FuncId)(c:List D)(R:xO):FD rV Tryz.f187 [.sl .int a,.clo b (some [.bool]) c] R=
 (∃n0,oA a b c R n0 0):=by kernel_rfl
theorem Yz(a:List Int)(b:FuncId)(c:List D):wC rV Tryz.f187 rT [.sl .int a,.clo b (some [.bool]) c]:=wJ Tryz.func187 (by kernel_rfl) Tryz.ntmps187 rfl
def lK:wA:= {own:=[2,5,7],live:=[],n:=8}
theorem Zl(a:List zC)(R:pR):FH lK Tryz.f193 [.sl .lit a] [] [] true R=
 (∀b:Bool,(b=true→a=[])→
 zP b
 (R (.own 3000) [(3000,.row 114 .lit ([]:List zC))])
 (wN .lit (([]:List zC).length+a.length)=true∧
 R (.own 3000) [(3000,.row 114 .lit (([]:List zC)++a))])):=by kernel_rfl
theorem aG(a:List zC):oH lK Tryz.f193 tZ [.sl .lit a] [] [] true:=oT Tryz.func193 (by kernel_rfl) Tryz.ntmps193 rfl
def vA:wA:= {own:=[33],live:=[(0,([0,3,9,10,11],[])),(2,([6,25,26,27],[31536]))],n:=36}
def tI(a:List (List zC))(R:xO)(b:Nat)(c:Int)(d:List zC):Prop:=LP vA Tryz.f194 [1,1,1,1,0,1,0,0] 2 b ⟨[(6,.own 31536),(25,.sl (.list .lit) a),(26,dI (a.length:Int)),(27,dI c)],[(31536,.row 114 .lit d)]⟩ (zQ 2 (sK vA Tryz.f194 [1,1,1,1,1] 0 (eK Tryz.f194 R)))
def tJ(a:List (List zC))(R:xO)(b:Nat)(c d:Int):Prop:=LP vA Tryz.f194 [1,1,0,1,0,0] 0 b ⟨[(0,.sl (.list .lit) a),(3,dI c),(9,.sl (.list .lit) a),(10,dI (a.length:Int)),(11,dI d)],[]⟩ (zQ 0 (sK vA Tryz.f194 [1,1,1] 0 (eK Tryz.f194 R)))
theorem eU(a:List (List zC))(R:xO)(d:Nat)(b:Int)(c:List zC):tI a R (d+1) b c=
 (zP (decide (b<(a.length:Int)))
 (vW b a.length=true∧
 wN .lit (c.length+(yO (.list .lit) a b.toNat).length)=true∧
 tI a R d (yU (b+1)) (c++(yO (.list .lit) a b.toNat)))
 (R (.sl .lit c))):=by kernel_rfl
theorem eV(a:List (List zC))(R:xO)(d:Nat)(c b:Int):tJ a R (d+1) c b=
 (zP (decide (b<(a.length:Int)))
 (vW b a.length=true∧
 zP (decide ((yU (c+((yO (.list .lit) a b.toNat).length:Int)))<0))
 (False)
 (tJ a R d (yU (c+((yO (.list .lit) a b.toNat).length:Int))) (yU (b+1))))
 (∃e:List zC,yH pN [.nil,dI c] [] (.own 3000) [(3000,.row 114 .lit e)]∧
 ∃n2,tI a R n2 0 e)):=by kernel_rfl
theorem aH(a:List (List zC))(R:xO):FD vA Tryz.f194 [.sl (.list .lit) a] R=
 (∃n0,tJ a R n0 0 0):=by kernel_rfl
theorem cU(a:List (List zC)):wC vA Tryz.f194 tQ [.sl (.list .lit) a]:=wJ Tryz.func194 (by kernel_rfl) Tryz.ntmps194 rfl
def nL:wA:= {own:=[],live:=[],n:=9}
theorem cD(a:List (List Int))(b:FuncId)(c:List D)(R:xO):FD nL Tryz.f203 [dS a,.clo b (some [.bool]) c] R=
 (xK sB [dS a,.clo b (some [.bool]) c] .int λd=>
 R (dB (decide (0≤d)))):=by kernel_rfl
theorem eW(a:List (List Int))(b:FuncId)(c:List D):wC nL Tryz.f203 tB [dS a,.clo b (some [.bool]) c]:=wJ Tryz.func203 (by kernel_rfl) Tryz.ntmps203 rfl
def uS:wA:= {own:=[],live:=[(0,([0,1,7,8],[]))],n:=19}
def sZ(a:List zN)(b:FuncId)(c:List D)(R:xO)(d:Nat)(e:Int):Prop:=LP uS Tryz.f221 [1,0,1,0,0] 0 d ⟨[(0,.sl .var a),(1,.clo b (some [.bool]) c),(7,dI (a.length:Int)),(8,dI e)],[]⟩ (zQ 0 (sK uS Tryz.f221 [1,1] 0 (eK Tryz.f221 R)))
theorem pT(b:List zN)(c:FuncId)(d:List D)(R:xO)(e:Nat)(a:Int):sZ b c d R (e+1) a=
 (zP (decide (a<(b.length:Int)))
 (vW a b.length=true∧
 ZF c∧
 xK c ([dV (yO .var b a.toNat)]++d) .bool λf=>
 zP f
 (R (dI a))
 (sZ b c d R e (yU (a+1))))
 (R (dI (-1)))):=by kernel_rfl
theorem eY(a:List zN)(b:FuncId)(c:List D)(R:xO):FD uS Tryz.f221 [.sl .var a,.clo b (some [.bool]) c] R=
 (∃n0,sZ a b c R n0 0):=by kernel_rfl
theorem fS(a:List zN)(b:FuncId)(c:List D):wC uS Tryz.f221 uP [.sl .var a,.clo b (some [.bool]) c]:=wJ Tryz.func221 (by kernel_rfl) Tryz.ntmps221 rfl
def uT:wA:= {own:=[],live:=[(0,([0,1,7,8],[]))],n:=19}
def rA(a:List zC)(b:FuncId)(c:List D)(R:xO)(d:Nat)(e:Int):Prop:=LP uT Tryz.f225 [1,0,1,0,0] 0 d ⟨[(0,.sl .lit a),(1,.clo b (some [.bool]) c),(7,dI (a.length:Int)),(8,dI e)],[]⟩ (zQ 0 (sK uT Tryz.f225 [1,1] 0 (eK Tryz.f225 R)))
theorem pU(b:List zC)(c:FuncId)(d:List D)(R:xO)(e:Nat)(a:Int):rA b c d R (e+1) a=
 (zP (decide (a<(b.length:Int)))
 (vW a b.length=true∧
 ZF c∧
 xK c ([dL (yO .lit b a.toNat)]++d) .bool λf=>
 zP f
 (R (dI a))
 (rA b c d R e (yU (a+1))))
 (R (dI (-1)))):=by kernel_rfl
theorem eZ(a:List zC)(b:FuncId)(c:List D)(R:xO):FD uT Tryz.f225 [.sl .lit a,.clo b (some [.bool]) c] R=
 (∃n0,rA a b c R n0 0):=by kernel_rfl
theorem fT(a:List zC)(b:FuncId)(c:List D):wC uT Tryz.f225 uQ [.sl .lit a,.clo b (some [.bool]) c]:=wJ Tryz.func225 (by kernel_rfl) Tryz.ntmps225 rfl
def sM:wA:= {own:=[],live:=[(0,([0,1,7,8],[]))],n:=19}
def qV(a:List (List Int))(b:FuncId)(c:List D)(R:xO)(d:Nat)(e:Int):Prop:=LP sM Tryz.f226 [1,0,1,0,0] 0 d ⟨[(0,dS a),(1,.clo b (some [.bool]) c),(7,dI (a.length:Int)),(8,dI e)],[]⟩ (zQ 0 (sK sM Tryz.f226 [1,1] 0 (eK Tryz.f226 R)))
theorem nM(b:List (List Int))(c:FuncId)(d:List D)(R:xO)(e:Nat)(a:Int):qV b c d R (e+1) a=
 (zP (decide (a<(b.length:Int)))
 (vW a b.length=true∧
 ZF c∧
 xK c ([.sl .int (yO (.list .int) b a.toNat)]++d) .bool λf=>
 zP f
 (R (dI a))
 (qV b c d R e (yU (a+1))))
 (R (dI (-1)))):=by kernel_rfl
theorem ZH(a:List (List Int))(b:FuncId)(c:List D)(R:xO):FD sM Tryz.f226 [dS a,.clo b (some [.bool]) c] R=
 (∃n0,qV a b c R n0 0):=by kernel_rfl
theorem Zm(a:List (List Int))(b:FuncId)(c:List D):wC sM Tryz.f226 sL [dS a,.clo b (some [.bool]) c]:=wJ Tryz.func226 (by kernel_rfl) Tryz.ntmps226 rfl
def pV:wA:= {own:=[],live:=[],n:=9}
theorem gC(a:List zC)(b:FuncId)(c:List D)(R:xO):FD pV Tryz.f240 [.sl .lit a,.clo b (some [.bool]) c] R=
 (xK uJ [.sl .lit a,.clo b (some [.bool]) c] .int λd=>
 R (dB (decide (0≤d)))):=by kernel_rfl
theorem iG(a:List zC)(b:FuncId)(c:List D):wC pV Tryz.f240 wS [.sl .lit a,.clo b (some [.bool]) c]:=wJ Tryz.func240 (by kernel_rfl) Tryz.ntmps240 rfl
def fz:wA:= {own:=[],live:=[],n:=9}
theorem XL(a:List Int)(b:Int)(R:xO):FD fz Tryz.f247 [.sl .int a,dI b] R=
 (xK ou [.sl .int a,dI b] .int λc=>
 R (dB (decide (0≤c)))):=by kernel_rfl
theorem Xo(a:List Int)(b:Int):wC fz Tryz.f247 wU [.sl .int a,dI b]:=wJ Tryz.func247 (by kernel_rfl) Tryz.ntmps247 rfl
def wY:wA:= {own:=[],live:=[(0,([1,2,15,16,17],[]))],n:=32}
def xN(a b:List (List Int))(c:FuncId)(d:List D)(R:xO)(e:Nat)(f:Int):Prop:=LP wY Tryz.f251 [1,1,0,1,0,0] 0 e ⟨[(1,dS b),(2,.clo c (some [.bool]) d),(15,dS a),(16,dI (a.length:Int)),(17,dI f)],[]⟩ (zQ 0 (sK wY Tryz.f251 [1,1,1] 0 (eK Tryz.f251 R)))
theorem wD(b c:List (List Int))(d:FuncId)(e:List D)(R:xO)(f:Nat)(a:Int):xN b c d e R (f+1) a=
 (zP (decide (a<(b.length:Int)))
 (vW a b.length=true∧
 vW a c.length=true∧
 ZF d∧
 xK d ([.sl .int (yO (.list .int) b a.toNat),.sl .int (yO (.list .int) c a.toNat)]++e) .bool λg=>
 zP (!g)
 (R (dB false))
 (xN b c d e R f (yU (a+1))))
 (R (dB true))):=by kernel_rfl
theorem rJ(a b:List (List Int))(c:FuncId)(d:List D)(R:xO):FD wY Tryz.f251 [dS a,dS b,.clo c (some [.bool]) d] R=
 (zP (!decide ((a.length:Int)=(b.length:Int)))
 (R (dB false))
 (∃n0,xN a b c d R n0 0)):=by kernel_rfl
theorem slices_EqualFunc_api_Store_api_Store_int_int_sat(a b:List (List Int))(c:FuncId)(d:List D):wC wY Tryz.f251 yG [dS a,dS b,.clo c (some [.bool]) d]:=wJ Tryz.func251 (by kernel_rfl) Tryz.ntmps251 rfl
def sC:wA:= {own:=[],live:=[(0,([0,1,7,8],[]))],n:=19}
def qL(a:List (List Int))(b:FuncId)(c:List D)(R:xO)(d:Nat)(e:Int):Prop:=LP sC Tryz.f257 [1,0,1,0,0] 0 d ⟨[(0,dS a),(1,.clo b (some [.bool]) c),(7,dI (a.length:Int)),(8,dI e)],[]⟩ (zQ 0 (sK sC Tryz.f257 [1,1] 0 (eK Tryz.f257 R)))
theorem oU(b:List (List Int))(c:FuncId)(d:List D)(R:xO)(e:Nat)(a:Int):qL b c d R (e+1) a=
 (zP (decide (a<(b.length:Int)))
 (vW a b.length=true∧
 ZF c∧
 xK c ([.sl .int (yO (.list .int) b a.toNat)]++d) .bool λf=>
 zP f
 (R (dI a))
 (qL b c d R e (yU (a+1))))
 (R (dI (-1)))):=by kernel_rfl
theorem Zn(a:List (List Int))(b:FuncId)(c:List D)(R:xO):FD sC Tryz.f257 [dS a,.clo b (some [.bool]) c] R=
 (∃n0,qL a b c R n0 0):=by kernel_rfl
theorem aI(a:List (List Int))(b:FuncId)(c:List D):wC sC Tryz.f257 sB [dS a,.clo b (some [.bool]) c]:=wJ Tryz.func257 (by kernel_rfl) Tryz.ntmps257 rfl
def uK:wA:= {own:=[],live:=[(0,([0,1,7,8],[]))],n:=19}
def sR(a:List zC)(b:FuncId)(c:List D)(R:xO)(d:Nat)(e:Int):Prop:=LP uK Tryz.f280 [1,0,1,0,0] 0 d ⟨[(0,.sl .lit a),(1,.clo b (some [.bool]) c),(7,dI (a.length:Int)),(8,dI e)],[]⟩ (zQ 0 (sK uK Tryz.f280 [1,1] 0 (eK Tryz.f280 R)))
theorem pI(b:List zC)(c:FuncId)(d:List D)(R:xO)(e:Nat)(a:Int):sR b c d R (e+1) a=
 (zP (decide (a<(b.length:Int)))
 (vW a b.length=true∧
 ZF c∧
 xK c ([dL (yO .lit b a.toNat)]++d) .bool λf=>
 zP f
 (R (dI a))
 (sR b c d R e (yU (a+1))))
 (R (dI (-1)))):=by kernel_rfl
theorem fU(a:List zC)(b:FuncId)(c:List D)(R:xO):FD uK Tryz.f280 [.sl .lit a,.clo b (some [.bool]) c] R=
 (∃n0,sR a b c R n0 0):=by kernel_rfl
theorem fE(a:List zC)(b:FuncId)(c:List D):wC uK Tryz.f280 uJ [.sl .lit a,.clo b (some [.bool]) c]:=wJ Tryz.func280 (by kernel_rfl) Tryz.ntmps280 rfl
def vF:wA:= {own:=[],live:=[(0,([0,1,7,8],[]))],n:=19}
def uL(a:List xE)(b:FuncId)(c:List D)(R:xO)(d:Nat)(e:Int):Prop:=LP vF Tryz.f286 [1,0,1,0,0] 0 d ⟨[(0,.sl .term a),(1,.clo b (some [.bool]) c),(7,dI (a.length:Int)),(8,dI e)],[]⟩ (zQ 0 (sK vF Tryz.f286 [1,1] 0 (eK Tryz.f286 R)))
theorem rE(b:List xE)(c:FuncId)(d:List D)(R:xO)(e:Nat)(a:Int):uL b c d R (e+1) a=
 (zP (decide (a<(b.length:Int)))
 (vW a b.length=true∧
 ZF c∧
 xK c ([.agg [dI ((yO .term b a.toNat).v),dI ((yO .term b a.toNat).times)]]++d) .bool λf=>
 zP f
 (R (dI a))
 (uL b c d R e (yU (a+1))))
 (R (dI (-1)))):=by kernel_rfl
theorem kO(a:List xE)(b:FuncId)(c:List D)(R:xO):FD vF Tryz.f286 [.sl .term a,.clo b (some [.bool]) c] R=
 (∃n0,uL a b c R n0 0):=by kernel_rfl
theorem kD(a:List xE)(b:FuncId)(c:List D):wC vF Tryz.f286 xT [.sl .term a,.clo b (some [.bool]) c]:=wJ Tryz.func286 (by kernel_rfl) Tryz.ntmps286 rfl
def gD:wA:= {own:=[2,5,7],live:=[],n:=8}
theorem Xp(a:List (List Int))(R:pR):FH gD Tryz.f290 [dS a] [] [] true R=
 (∀b:Bool,(b=true→a=[])→
 zP b
 (R (.own 3000) [(3000,.row 40 (.list .int) ([]:List (List Int)))])
 (wN (.list .int) (([]:List (List Int)).length+a.length)=true∧
 R (.own 3000) [(3000,.row 40 (.list .int) (([]:List (List Int))++a))])):=by kernel_rfl
theorem YA(a:List (List Int)):oH gD Tryz.f290 rU [dS a] [] [] true:=oT Tryz.func290 (by kernel_rfl) Tryz.ntmps290 rfl
def ow:wA:= {own:=[],live:=[(0,([0,1,7,8],[]))],n:=19}
def mT(a:List Int)(b:Int)(R:xO)(c:Nat)(d:Int):Prop:=LP ow Tryz.f292 [1,0,1,0,0] 0 c ⟨[(0,.sl .int a),(1,dI b),(7,dI (a.length:Int)),(8,dI d)],[]⟩ (zQ 0 (sK ow Tryz.f292 [1,1] 0 (eK Tryz.f292 R)))
theorem gE(b:List Int)(c:Int)(R:xO)(d:Nat)(a:Int):mT b c R (d+1) a=
 (zP (decide (a<(b.length:Int)))
 (vW a b.length=true∧
 zP (decide (c=(yO .int b a.toNat)))
 (R (dI a))
 (mT b c R d (yU (a+1))))
 (R (dI (-1)))):=by kernel_rfl
theorem VB(a:List Int)(b:Int)(R:xO):FD ow Tryz.f292 [.sl .int a,dI b] R=
 (∃n0,mT a b R n0 0):=by kernel_rfl
theorem WW(a:List Int)(b:Int):wC ow Tryz.f292 ou [.sl .int a,dI b]:=wJ Tryz.func292 (by kernel_rfl) Tryz.ntmps292 rfl
def wX:wA:= {own:=[33],live:=[(0,([0,3,9,10,11],[])),(2,([6,25,26,27],[31536]))],n:=36}
def tC(a:List (List zC))(R:xO)(b:Nat)(c:Int)(d:List zC):Prop:=LP wX Tryz.f317 [1,1,1,1,0,1,0,0] 2 b ⟨[(6,.own 31536),(25,.sl (.list .lit) a),(26,dI (a.length:Int)),(27,dI c)],[(31536,.row 114 .lit d)]⟩ (zQ 2 (sK wX Tryz.f317 [1,1,1,1,1] 0 (eK Tryz.f317 R)))
def tD(a:List (List zC))(R:xO)(b:Nat)(c d:Int):Prop:=LP wX Tryz.f317 [1,1,0,1,0,0] 0 b ⟨[(0,.sl (.list .lit) a),(3,dI c),(9,.sl (.list .lit) a),(10,dI (a.length:Int)),(11,dI d)],[]⟩ (zQ 0 (sK wX Tryz.f317 [1,1,1] 0 (eK Tryz.f317 R)))
theorem fV(a:List (List zC))(R:xO)(d:Nat)(b:Int)(c:List zC):tC a R (d+1) b c=
 (zP (decide (b<(a.length:Int)))
 (vW b a.length=true∧
 wN .lit (c.length+(yO (.list .lit) a b.toNat).length)=true∧
 tC a R d (yU (b+1)) (c++(yO (.list .lit) a b.toNat)))
 (R (.sl .lit c))):=by kernel_rfl
theorem fW(a:List (List zC))(R:xO)(d:Nat)(c b:Int):tD a R (d+1) c b=
 (zP (decide (b<(a.length:Int)))
 (vW b a.length=true∧
 zP (decide ((yU (c+((yO (.list .lit) a b.toNat).length:Int)))<0))
 (False)
 (tD a R d (yU (c+((yO (.list .lit) a b.toNat).length:Int))) (yU (b+1))))
 (∃e:List zC,yH qU [.nil,dI c] [] (.own 3000) [(3000,.row 114 .lit e)]∧
 ∃n2,tC a R n2 0 e)):=by kernel_rfl
theorem cV(a:List (List zC))(R:xO):FD wX Tryz.f317 [.sl (.list .lit) a] R=
 (∃n0,tD a R n0 0 0):=by kernel_rfl
theorem cE(a:List (List zC)):wC wX Tryz.f317 wW [.sl (.list .lit) a]:=wJ Tryz.func317 (by kernel_rfl) Tryz.ntmps317 rfl
def YU:wA:= {own:=[5],live:=[(1,([1,30,31,32],[]))],n:=75}
def ZI(a:zG)(R:xO)(b:Nat)(c:Int):Prop:=LP YU Tryz.f43 [1,1,1,0,1,0,0] 1 b ⟨[(1,.iptr (TL a []) 0),(30,.sl .con a.cons),(31,dI (a.cons.length:Int)),(32,dI c)],[]⟩ (zQ 1 (sK YU Tryz.f43 [1,1,1,1] 0 (eK Tryz.f43 R)))
theorem VX(a:zG)(R:xO)(c:Nat)(b:Int):ZI a R (c+1) b=
 (zP (decide (b<(a.cons.length:Int)))
 (vW b a.cons.length=true∧
 xK VT [dM a,dC (yO .con a.cons b.toNat)] .int λd=>
 zP (!decide (d=0))
 (R (dI d))
 (ZI a R c (yU (b+1))))
 (zP (decide (a.goal<0))
 (R (dI 7))
 (zP (decide (2<a.goal))
 (R (dI 7))
 (zP (decide (a.goal=0))
 (zP (!decide (a.var=0))
 (R (dI 1))
 (zP (!decide (a.goal=0))
 (xK tO [dI a.var,dI 0,dI (yU ((a.vars.length:Int)-1))] .bool λe=>
 zP (!e)
 (R (dI 5))
 (R (dI 0)))
 (R (dI 0))))
 (zP (!decide (a.goal=0))
 (xK tO [dI a.var,dI 0,dI (yU ((a.vars.length:Int)-1))] .bool λf=>
 zP (!f)
 (R (dI 5))
 (R (dI 0)))
 (R (dI 0))))))):=by kernel_rfl
theorem GQ(a:zG)(R:xO):FD YU Tryz.f43 [dM a] R=
 (zP (decide ((a.vars.length:Int)=0))
 (R (dI 1))
 (zP (decide (6<(a.vars.length:Int)))
 (R (dI 2))
 (zP (decide (8<(a.cons.length:Int)))
 (R (dI 2))
 (xK X6 [.sl .var a.vars] .int λb=>
 zP (!decide (b=0))
 (R (dI b))
 (∃n1,ZI a R n1 0))))):=by kernel_rfl
theorem Ix(a:zG):wC YU Tryz.f43 kB [dM a]:=wJ Tryz.func43 (by kernel_rfl) Tryz.ntmps43 rfl
def YV:wA:= {own:=[6],live:=[(0,([2,3,8,9,10],[]))],n:=31}
def ZJ(a:zG)(b:List Int)(R:xO)(c:Nat)(d:Int):Prop:=LP YV Tryz.f74 [1,0,1,0,0] 0 c ⟨[(2,.iptr (TL a []) 0),(3,.iptr [.sl .int b] 0),(8,.sl .var a.vars),(9,dI (a.vars.length:Int)),(10,dI d)],[]⟩ (zQ 0 (sK YV Tryz.f74 [1,1] 0 (eK Tryz.f74 R)))
theorem VY(b:zG)(c:List Int)(R:xO)(d:Nat)(a:Int):ZJ b c R (d+1) a=
 (zP (decide (a<(b.vars.length:Int)))
 (vW a b.vars.length=true∧
 vW a c.length=true∧
 xK tO [dI (yO .int c a.toNat),dI ((yO .var b.vars a.toNat).lo),dI ((yO .var b.vars a.toNat).hi)] .bool λe=>
 zP (!e)
 (R (dB false))
 (ZJ b c R d (yU (a+1))))
 (xK uB [.sl .con b.cons,.clo bO none [.iptr [.sl .int c] 0]] .bool λf=>
 R (dB (!f)))):=by kernel_rfl
theorem GR(a:zG)(b:List Int)(R:xO):FD YV Tryz.f74 [dM a,.sl .int b] R=
 (∃n0,ZJ a b R n0 0):=by kernel_rfl
theorem Iy(a:zG)(b:List Int):wC YV Tryz.f74 cO [dM a,.sl .int b]:=wJ Tryz.func74 (by kernel_rfl) Tryz.ntmps74 rfl
def Wc:wA:= {own:=[5,20],live:=[(0,([3,10,11,12],[30512]))],n:=26}
def YW(a:zE)(R:xO)(b:Nat)(c:Int)(d:List Int):Prop:=LP Wc Tryz.f87 [1,1,0,1,0,0] 0 b ⟨[(3,.own 30512),(10,.sl .lit a.lits),(11,dI (a.lits.length:Int)),(12,dI c)],[(30512,.row 3 .int d)]⟩ (zQ 0 (sK Wc Tryz.f87 [1,1,1] 0 (eK Tryz.f87 R)))
theorem Km(a:zE)(R:xO)(d:Nat)(b:Int)(c:List Int):YW a R (d+1) b c=
 (zP (decide (b<(a.lits.length:Int)))
 (vW b a.lits.length=true∧
 wN .int (c.length+([(yO .lit a.lits b.toNat).var]).length)=true∧
 YW a R d (yU (b+1)) (c++([(yO .lit a.lits b.toNat).var])))
 (∃e:List Int,yH qE [.own 1000] [(1000,.row 3 .int c)] (.tup []) [(1000,.row 3 .int e)]∧
 ∃f:List Int,yH sQ [.own 1000] [(1000,.row 3 .int e)] (.sl .int f) []∧
 R (.sl .int f))):=by kernel_rfl
theorem E8(a:zE)(R:xO):FD Wc Tryz.f87 [dC a] R=
 (∃b:List Int,yH tS [.sl .int a.vars] [] (.own 3000) [(3000,.row 3 .int b)]∧
 ∃n0,YW a R n0 0 b):=by kernel_rfl
theorem GS(a:zE):wC Wc Tryz.f87 iA [dC a]:=wJ Tryz.func87 (by kernel_rfl) Tryz.ntmps87 rfl
def Wd:wA:= {own:=[4],live:=[(0,([0,5,6,7],[]))],n:=49}
def YX(a:List zN)(R:xO)(b:Nat)(c:Int):Prop:=LP Wd Tryz.f95 [1,0,1,0,0] 0 b ⟨[(0,.sl .var a),(5,.sl .var a),(6,dI (a.length:Int)),(7,dI c)],[]⟩ (zQ 0 (sK Wd Tryz.f95 [1,1] 0 (eK Tryz.f95 R)))
theorem UZ(a:List zN)(R:xO)(c:Nat)(b:Int):YX a R (c+1) b=
 (zP (decide (b<(a.length:Int)))
 (vW b a.length=true∧
 xK X9 [.str ((yO .var a b.toNat).name)] .bool λd=>
 zP (!d)
 (R (dI 1))
 (Mn 0 b a.length=true∧
 xK uC [.sl .var ((a.take b.toNat).drop 0),.clo Zy none [.iptr [.str ((yO .var a b.toNat).name),dI ((yO .var a b.toNat).lo),dI ((yO .var a b.toNat).hi)] 0]] .bool λe=>
 zP e
 (R (dI 6))
 (xK tO [dI ((yO .var a b.toNat).lo),dI (-50),dI 50] .bool λf=>
 zP (!f)
 (R (dI 3))
 (xK tO [dI ((yO .var a b.toNat).hi),dI (-50),dI 50] .bool λg=>
 zP (!g)
 (R (dI 3))
 (zP (decide (((yO .var a b.toNat).hi)<((yO .var a b.toNat).lo)))
 (R (dI 3))
 (zP (decide (6≤(yU (((yO .var a b.toNat).hi)-((yO .var a b.toNat).lo)))))
 (R (dI 2))
 (YX a R c (yU (b+1)))))))))
 (R (dI 0))):=by kernel_rfl
theorem E9(a:List zN)(R:xO):FD Wd Tryz.f95 [.sl .var a] R=
 (∃n0,YX a R n0 0):=by kernel_rfl
theorem GT(a:List zN):wC Wd Tryz.f95 X6 [.sl .var a]:=wJ Tryz.func95 (by kernel_rfl) Tryz.ntmps95 rfl
def VZ:wA:= {own:=[5,6,8],live:=[(1,([6,75,76,77],[]))],n:=94}
def We(a:zE)(R:xO)(b:Nat)(c:Int):Prop:=LP VZ Tryz.f96 [1,1,1,1,0,1,0,0] 1 b ⟨[(6,.iptr [.clo oq none []] 0),(75,.sl .lit a.lits),(76,dI (a.lits.length:Int)),(77,dI c)],[]⟩ (zQ 1 (sK VZ Tryz.f96 [1,1,1,1,1] 0 (eK Tryz.f96 R)))
theorem SG(a:zE)(R:xO)(c:Nat)(b:Int):We a R (c+1) b=
 (zP (decide (b<(a.lits.length:Int)))
 (vW b a.lits.length=true∧
 zP (decide (((yO .lit a.lits b.toNat).op)<1))
 (R (dI 7))
 (zP (decide (4<((yO .lit a.lits b.toNat).op)))
 (R (dI 7))
 (xK oq [dI ((yO .lit a.lits b.toNat).n)] .bool λd=>
 zP d
 (R (dI 3))
 (We a R c (yU (b+1))))))
 (R (dI 0))):=by kernel_rfl
theorem B6(b:zG)(a:zE)(R:xO):FD VZ Tryz.f96 [dM b,dC a] R=
 (zP (decide (a.kind<1))
 (R (dI 7))
 (zP (decide (10<a.kind))
 (R (dI 7))
 (zP (decide (4<(a.vars.length:Int)))
 (R (dI 2))
 (zP (decide (4<(a.lits.length:Int)))
 (R (dI 2))
 (zP (decide (8<(a.consts.length:Int)))
 (R (dI 2))
 (zP (decide (20<(a.rows.length:Int)))
 (R (dI 2))
 (xK Wa [dC a] .bool λc=>
 zP (!c)
 (R (dI 1))
 (xK wO [.sl .int a.vars,.clo cQ none [.iptr (TL b []) 0]] .bool λd=>
 zP d
 (R (dI 5))
 (xK xR [.sl .lit a.lits,.clo YR none [.iptr [.clo cQ none [.iptr (TL b []) 0]] 0]] .bool λe=>
 zP e
 (R (dI 5))
 (xK wO [.sl .int a.consts,.clo oq none []] .bool λf=>
 zP f
 (R (dI 3))
 (xK oq [dI a.n] .bool λg=>
 zP g
 (R (dI 3))
 (xK yF [dS a.rows,.clo YS none [.iptr [.clo oq none []] 0]] .bool λh=>
 zP h
 (R (dI 3))
 (∃n1,We a R n1 0))))))))))))):=by kernel_rfl
theorem Da(a:zG)(b:zE):wC VZ Tryz.f96 VT [dM a,dC b]:=wJ Tryz.func96 (by kernel_rfl) Tryz.ntmps96 rfl
def R9:wA:= {own:=[],live:=[],n:=15}
theorem Iz(a b c:Int)(R:xO):FD R9 Tryz.f97 [dI a,dI b,dI c] R=
 (zP (decide (b≤a))
 (R (dB (decide (a≤c))))
 (R (dB false))):=by kernel_rfl
theorem Kn(a b c:Int):wC R9 Tryz.f97 tO [dI a,dI b,dI c]:=wJ Tryz.func97 (by kernel_rfl) Tryz.ntmps97 rfl
def SH:wA:= {own:=[],live:=[],n:=8}
theorem Ko(a:zE)(b:List Int)(R:xO):FD SH Tryz.f119 [dC a,.iptr [.sl .int b] 0] R=
 (xK eO [dC a,.sl .int b] .bool λc=>
 R (dB (!c))):=by kernel_rfl
theorem MP(a:zE)(b:List Int):wC SH Tryz.f119 bO [dC a,.iptr [.sl .int b] 0]:=wJ Tryz.func119 (by kernel_rfl) Tryz.ntmps119 rfl
def vG:wA:= {own:=[12,45,97],live:=[(1,([2,5,7,25,26,27],[])),(3,([2,5,10,48,49],[45])),(5,([2,5,12,88,89],[12,1012000])),(7,([5,14,120,121],[]))],n:=166,nils:=[(12,(0,(3,.int)))],pubs:=[]}
def YY(a:zE)(b:List Int)(R:xO)(c:Nat)(d e:Int):Prop:=LP vG Tryz.f120 [1,1,1,0,1,0,1,0,1,0,1,0,0] 1 c ⟨[(2,.iptr (nV a []) 0),(5,.clo yL none [.iptr [.sl .int b] 0,.iptr (nV a []) 0]),(7,dI d),(25,.sl .int a.consts),(26,dI (a.consts.length:Int)),(27,dI e)],[]⟩ (zQ 1 (sK vG Tryz.f120 [1,1,1,0,1,0,1,0,1,1] 0 (zQ 0 (sK vG Tryz.f120 [1,1,1,1] 0 (eK Tryz.f120 R)))))
def bT(a:zE)(b:List Int)(R:xO)(c:Nat)(d e:Int):Prop:=LP vG Tryz.f120 [1,1,1,0,1,0,1,0,1,0,1,0,0] 1 c ⟨[(2,.iptr (nV a []) 0),(5,.clo yL none [.iptr [.sl .int b] 0,.iptr (nV a []) 0]),(7,dI d),(25,.sl .int a.consts),(26,dI (a.consts.length:Int)),(27,dI e)],[]⟩ (zQ 1 (sK vG Tryz.f120 [1,1,1,0,1,0,1,0,1,1] 0 (zQ 0 (sK vG Tryz.f120 [1,1,1,1] 0 (eK Tryz.f120 R)))))
def bU(a:zE)(b:List Int)(R:xO)(c:Nat)(d e:Int):Prop:=LP vG Tryz.f120 [1,1,1,0,1,0,1,0,1,0,1,0,0] 1 c ⟨[(2,.iptr (nV a []) 0),(5,.clo yL none [.iptr [.sl .int b] 0,.iptr (nV a []) 0]),(7,dI d),(25,.sl .int a.consts),(26,dI (a.consts.length:Int)),(27,dI e)],[]⟩ (zQ 1 (sK vG Tryz.f120 [1,1,1,0,1,0,1,0,1,1] 0 (zQ 0 (sK vG Tryz.f120 [1,1,1,1] 0 (eK Tryz.f120 R)))))
def YZ(a:zE)(b:List Int)(R:xO)(c:Nat)(d:Int)(e:List (Int×Int)):Prop:=LP vG Tryz.f120 [1,1,1,0,1,0,1,1,1,0,1,0,1,0,0] 3 c ⟨[(2,.iptr (nV a []) 0),(5,.clo yL none [.iptr [.sl .int b] 0,.iptr (nV a []) 0]),(10,.own 45),(48,dI (a.vars.length:Int)),(49,dI d)],[(45,.mp .int .int e)]⟩ (zQ 3 (sK vG Tryz.f120 [1,1,1,0,1,0,1,1,1,0,1,1] 0 (zQ 0 (sK vG Tryz.f120 [1,1,1,1] 0 (eK Tryz.f120 R)))))
def Y0(a:zE)(b:List Int)(R:xO)(c:Nat)(d:Int)(e:List Int):Prop:=LP vG Tryz.f120 [1,1,1,0,1,0,1,1,1,1,1,1,1,0,1,0,1,0,0] 5 c ⟨[(2,.iptr (nV a []) 0),(5,.clo yL none [.iptr [.sl .int b] 0,.iptr (nV a []) 0]),(12,.ptr 12 0),(88,dI (a.vars.length:Int)),(89,dI d)],[(12,.cells [.own 1012000]),(1012000,.row 3 .int e)]⟩ (zQ 5 (sK vG Tryz.f120 [1,1,1,0,1,0,1,1,1,1,1,1,1,0,1,1] 0 (zQ 0 (sK vG Tryz.f120 [1,1,1,1] 0 (eK Tryz.f120 R)))))
def Y1(a:zE)(b:List Int)(R:xO)(c:Nat)(d e:Int):Prop:=LP vG Tryz.f120 [1,1,1,0,1,0,1,1,1,1,1,1,1,1,1,1,1,0,1,0,1,0,0] 7 c ⟨[(5,.clo yL none [.iptr [.sl .int b] 0,.iptr (nV a []) 0]),(14,dI d),(120,dI (((a.vars.take (a.vars.length:Int).toNat).drop 1).length:Int)),(121,dI e)],[]⟩ (zQ 7 (sK vG Tryz.f120 [1,1,1,0,1,0,1,1,1,1,1,1,1,1,1,1,1,0,1,1] 0 (zQ 0 (sK vG Tryz.f120 [1,1,1,1] 0 (eK Tryz.f120 R)))))
theorem Kp(a:zE)(c:List Int)(R:xO)(e:Nat)(d b:Int):YY a c R (e+1) d b=
 (zP (decide (b<(a.consts.length:Int)))
 (vW b a.consts.length=true∧
 xK yL [dI b,.iptr [.sl .int c] 0,.iptr (nV a []) 0] .int λf=>
 YY a c R e (yU (d+(yU ((yO .int a.consts b.toNat)*f)))) (yU (b+1)))
 (xK jN [dC a,dI d] .bool λg=>
 R (dB g))):=by kernel_rfl
theorem Nw(a:zE)(c:List Int)(R:xO)(e:Nat)(d b:Int):bT a c R (e+1) d b=
 (zP (decide (b<(a.consts.length:Int)))
 (vW b a.consts.length=true∧
 xK yL [dI b,.iptr [.sl .int c] 0,.iptr (nV a []) 0] .int λf=>
 bT a c R e (yU (d+(yU ((yO .int a.consts b.toNat)*f)))) (yU (b+1)))
 (xK jN [dC a,dI d] .bool λg=>
 R (dB g))):=by kernel_rfl
theorem Nx(a:zE)(c:List Int)(R:xO)(e:Nat)(d b:Int):bU a c R (e+1) d b=
 (zP (decide (b<(a.consts.length:Int)))
 (vW b a.consts.length=true∧
 xK yL [dI b,.iptr [.sl .int c] 0,.iptr (nV a []) 0] .int λf=>
 bU a c R e (yU (d+(yU ((yO .int a.consts b.toNat)*f)))) (yU (b+1)))
 (xK jN [dC a,dI d] .bool λg=>
 R (dB g))):=by kernel_rfl
theorem Kq(a:zE)(d:List Int)(R:xO)(e:Nat)(b:Int)(c:List (Int×Int)):YZ a d R (e+1) b c=
 (zP (decide (b<(a.vars.length:Int)))
 (xK yL [dI b,.iptr [.sl .int d] 0,.iptr (nV a []) 0] .int λf=>
 Mo (c.length+1)=true∧
 YZ a d R e (yU (b+1)) (rD .int .int f b c))
 (R (dB (decide ((c.length:Int)=(a.vars.length:Int)))))):=by kernel_rfl
theorem Kr(a:zE)(d:List Int)(R:xO)(e:Nat)(b:Int)(c:List Int):Y0 a d R (e+1) b c=
 (zP (decide (b<(a.vars.length:Int)))
 (xK yL [dI b,.iptr [.sl .int d] 0,.iptr (nV a []) 0] .int λf=>
 wN .int (c.length+([f]).length)=true∧
 Y0 a d R e (yU (b+1)) (c++([f])))
 (xK yF [dS a.rows,.clo Zz none [.iptr [.sl .int c] 0]] .bool λg=>
 R (dB g))):=by kernel_rfl
theorem Kt(a:zE)(b:List Int)(R:xO)(e:Nat)(c d:Int):Y1 a b R (e+1) c d=
 (zP (decide (d<(((a.vars.take (a.vars.length:Int).toNat).drop 1).length:Int)))
 (xK yL [dI (yU (1+d)),.iptr [.sl .int b] 0,.iptr (nV a []) 0] .int λf=>
 Y1 a b R e (if f>c then f else c) (yU (d+1)))
 (xK yL [dI 0,.iptr [.sl .int b] 0,.iptr (nV a []) 0] .int λg=>
 R (dB (decide (g=c))))):=by kernel_rfl
theorem Db(a:zE)(b:List Int)(R:xO):FD vG Tryz.f120 [dC a,.sl .int b] R=
 (zP (decide (a.kind=1))
 (∃n1,YY a b R n1 0 0)
 (zP (decide (a.kind=2))
 (∃n1_2,bT a b R n1_2 0 0)
 (zP (decide (a.kind=3))
 (∃n1_3,bU a b R n1_3 0 0)
 (zP (decide (a.kind=4))
 (∃n3,YZ a b R n3 0 ([]:List (Int×Int)))
 (zP (decide (a.kind=5))
 (xK yL [dI 0,.iptr [.sl .int b] 0,.iptr (nV a []) 0] .int λd=>
 xK tO [dI d,dI 0,dI (yU ((a.consts.length:Int)-1))] .bool λe=>
 zP e
 (xK yL [dI 0,.iptr [.sl .int b] 0,.iptr (nV a []) 0] .int λc=>
 vW c a.consts.length=true∧
 xK yL [dI 1,.iptr [.sl .int b] 0,.iptr (nV a []) 0] .int λf=>
 R (dB (decide ((yO .int a.consts c.toNat)=f))))
 (R (dB false)))
 (zP (decide (a.kind=6))
 (∃n5,Y0 a b R n5 0 ([]:List Int))
 (zP (decide (a.kind=7))
 (xK yL [dI 0,.iptr [.sl .int b] 0,.iptr (nV a []) 0] .int λg=>
 xK yL [dI 1,.iptr [.sl .int b] 0,.iptr (nV a []) 0] .int λh=>
 xK yL [dI 2,.iptr [.sl .int b] 0,.iptr (nV a []) 0] .int λi=>
 R (dB (decide ((yU (g*h))=i))))
 (zP (decide (a.kind=8))
 (xK yL [dI 1,.iptr [.sl .int b] 0,.iptr (nV a []) 0] .int λj=>
 Mn 1 (a.vars.length:Int) a.vars.length=true∧
 ∃n7,Y1 a b R n7 j 0)
 (zP (decide (a.kind=9))
 (xK xR [.sl .lit a.lits,.clo qQ none [.iptr [.sl .int b] 0]] .bool λk=>
 R (dB k))
 (vW 0 a.lits.length=true∧
 xK qQ [dL (yO .lit a.lits 0),.iptr [.sl .int b] 0] .bool λl=>
 zP l
 (xK yL [dI 0,.iptr [.sl .int b] 0,.iptr (nV a []) 0] .int λm=>
 zP (decide (m=1))
 (R (dB true))
 (vW 0 a.lits.length=true∧
 xK qQ [dL (yO .lit a.lits 0),.iptr [.sl .int b] 0] .bool λn=>
 zP (!n)
 (xK yL [dI 0,.iptr [.sl .int b] 0,.iptr (nV a []) 0] .int λo=>
 R (dB (decide (o=0))))
 (R (dB false))))
 (vW 0 a.lits.length=true∧
 xK qQ [dL (yO .lit a.lits 0),.iptr [.sl .int b] 0] .bool λp=>
 zP (!p)
 (xK yL [dI 0,.iptr [.sl .int b] 0,.iptr (nV a []) 0] .int λq=>
 R (dB (decide (q=0))))
 (R (dB false))))))))))))):=by kernel_rfl
theorem GU(a:zE)(b:List Int):wC vG Tryz.f120 eO [dC a,.sl .int b]:=wJ Tryz.func120 (by kernel_rfl) Tryz.ntmps120 rfl
def Qa:wA:= {own:=[],live:=[],n:=9}
theorem IA(b a:zN)(R:xO):FD Qa Tryz.f163 [dV b,.iptr [.str a.name,dI a.lo,dI a.hi] 0] R=
 (R (dB (decide (b.name=a.name)))):=by kernel_rfl
theorem Ku(b a:zN):wC Qa Tryz.f163 Zy [dV b,.iptr [.str a.name,dI a.lo,dI a.hi] 0]:=wJ Tryz.func163 (by kernel_rfl) Tryz.ntmps163 rfl
def OE:wA:= {own:=[],live:=[],n:=11}
theorem GV(b:Int)(a:zG)(R:xO):FD OE Tryz.f164 [dI b,.iptr (TL a []) 0] R=
 (xK tO [dI b,dI 0,dI (yU ((a.vars.length:Int)-1))] .bool λc=>
 R (dB (!c))):=by kernel_rfl
theorem IB(b:Int)(a:zG):wC OE Tryz.f164 cQ [dI b,.iptr (TL a []) 0]:=wJ Tryz.func164 (by kernel_rfl) Tryz.ntmps164 rfl
def OG:wA:= {own:=[],live:=[],n:=6}
theorem GW(a:Int)(R:xO):FD OG Tryz.f165 [dI a] R=
 (xK tO [dI a,dI (-1000),dI 1000] .bool λb=>
 R (dB (!b))):=by kernel_rfl
theorem IC(a:Int):wC OG Tryz.f165 oq [dI a]:=wJ Tryz.func165 (by kernel_rfl) Tryz.ntmps165 rfl
def MQ:wA:= {own:=[3],live:=[],n:=66}
theorem Dc(a:zE)(R:xO):FD MQ Tryz.f166 [dC a] R=
 (xK T4 [dC a] (.pr .int (.pr .int (.pr .int (.pr .int .int)))) λb=>
 xK tO [dI (a.vars.length:Int),dI b.1,dI b.2.1] .bool λc=>
 zP (!c)
 (R (dB false))
 (xK Yx [dI (a.consts.length:Int),dI b.2.2.1] .bool λd=>
 zP (!d)
 (R (dB false))
 (xK Yx [dI (a.rows.length:Int),dI b.2.2.2.1] .bool λe=>
 zP (!e)
 (R (dB false))
 (xK Yx [dI (a.lits.length:Int),dI b.2.2.2.2] .bool λf=>
 zP (!f)
 (R (dB false))
 (zP (decide (a.kind=5))
 (zP (decide ((a.consts.length:Int)=0))
 (R (dB false))
 (zP (decide (3<a.kind))
 (zP (!decide (a.n=0))
 (R (dB false))
 (xK yF [dS a.rows,.clo oz none [.iptr (nV a []) 0]] .bool λg=>
 R (dB (!g))))
 (xK yF [dS a.rows,.clo oz none [.iptr (nV a []) 0]] .bool λh=>
 R (dB (!h)))))
 (zP (decide (3<a.kind))
 (zP (!decide (a.n=0))
 (R (dB false))
 (xK yF [dS a.rows,.clo oz none [.iptr (nV a []) 0]] .bool λi=>
 R (dB (!i))))
 (xK yF [dS a.rows,.clo oz none [.iptr (nV a []) 0]] .bool λj=>
 R (dB (!j))))))))):=by kernel_rfl
theorem GX(a:zE):wC MQ Tryz.f166 Wa [dC a]:=wJ Tryz.func166 (by kernel_rfl) Tryz.ntmps166 rfl
def OH:wA:= {own:=[],live:=[],n:=8}
theorem GY(b:zC)(a:FuncId)(c:List D)(R:xO):FD OH Tryz.f168 [dL b,.iptr [.clo a (some [.bool]) c] 0] R=
 (ZF a∧
 xK a ([dI b.var]++c) .bool λd=>
 R (dB d)):=by kernel_rfl
theorem ID(a:zC)(b:FuncId)(c:List D):wC OH Tryz.f168 YR [dL a,.iptr [.clo b (some [.bool]) c] 0]:=wJ Tryz.func168 (by kernel_rfl) Tryz.ntmps168 rfl
def OI:wA:= {own:=[],live:=[],n:=7}
theorem GZ(a:List Int)(b:FuncId)(c:List D)(R:xO):FD OI Tryz.f170 [.sl .int a,.iptr [.clo b (some [.bool]) c] 0] R=
 (xK wO [.sl .int a,.clo b (some [.bool]) c] .bool λd=>
 R (dB d)):=by kernel_rfl
theorem IE(a:List Int)(b:FuncId)(c:List D):wC OI Tryz.f170 YS [.sl .int a,.iptr [.clo b (some [.bool]) c] 0]:=wJ Tryz.func170 (by kernel_rfl) Tryz.ntmps170 rfl
def Qb:wA:= {own:=[],live:=[],n:=13}
theorem IF(b:Int)(c:List Int)(a:zE)(R:xO):FD Qb Tryz.f176 [dI b,.iptr [.sl .int c] 0,.iptr (nV a []) 0] R=
 (vW b a.vars.length=true∧
 vW (yO .int a.vars b.toNat) c.length=true∧
 R (dI (yO .int c ((yO .int a.vars b.toNat).toNat)))):=by kernel_rfl
theorem Kv(b:Int)(c:List Int)(a:zE):wC Qb Tryz.f176 yL [dI b,.iptr [.sl .int c] 0,.iptr (nV a []) 0]:=wJ Tryz.func176 (by kernel_rfl) Tryz.ntmps176 rfl
def Qc:wA:= {own:=[],live:=[],n:=11}
theorem IG(a:zC)(b:List Int)(R:xO):FD Qc Tryz.f177 [dL a,.iptr [.sl .int b] 0] R=
 (vW a.var b.length=true∧
 xK jM [dL a,dI (yO .int b a.var.toNat)] .bool λc=>
 R (dB c)):=by kernel_rfl
theorem Kw(a:zC)(b:List Int):wC Qc Tryz.f177 qQ [dL a,.iptr [.sl .int b] 0]:=wJ Tryz.func177 (by kernel_rfl) Tryz.ntmps177 rfl
def JU:wA:= {own:=[],live:=[],n:=29}
theorem B7(a:zC)(b:Int)(R:xO):FD JU Tryz.f178 [dL a,dI b] R=
 (zP (decide (a.op=1))
 (R (dB (decide (b≤a.n))))
 (zP (decide (a.op=2))
 (R (dB (decide (a.n≤b))))
 (zP (decide (a.op=3))
 (R (dB (decide (b=a.n))))
 (R (dB (!decide (b=a.n))))))):=by kernel_rfl
theorem Dd(a:zC)(b:Int):wC JU Tryz.f178 jM [dL a,dI b]:=wJ Tryz.func178 (by kernel_rfl) Tryz.ntmps178 rfl
def JV:wA:= {own:=[],live:=[],n:=23}
theorem B8(a:zE)(b:Int)(R:xO):FD JV Tryz.f179 [dC a,dI b] R=
 (zP (decide (a.kind=1))
 (R (dB (decide (b≤a.n))))
 (zP (decide (a.kind=2))
 (R (dB (decide (b=a.n))))
 (R (dB (!decide (b=a.n)))))):=by kernel_rfl
theorem De(a:zE)(b:Int):wC JV Tryz.f179 jN [dC a,dI b]:=wJ Tryz.func179 (by kernel_rfl) Tryz.ntmps179 rfl
def Qd:wA:= {own:=[],live:=[],n:=7}
theorem IH(a b:List Int)(R:xO):FD Qd Tryz.f180 [.sl .int a,.iptr [.sl .int b] 0] R=
 (xK xQ [.sl .int a,.sl .int b] .bool λc=>
 R (dB c)):=by kernel_rfl
theorem Kx(a b:List Int):wC Qd Tryz.f180 Zz [.sl .int a,.iptr [.sl .int b] 0]:=wJ Tryz.func180 (by kernel_rfl) Tryz.ntmps180 rfl
def G0:wA:= {own:=[2],live:=[],n:=32}
theorem zaJ(a:zE)(R:xO):FD G0 Tryz.f222 [dC a] R=
 (zP (decide (a.kind=1))
 (R (.agg [dI 1,dI 4,dI (a.vars.length:Int),dI 0,dI 0]))
 (zP (decide (a.kind=2))
 (R (.agg [dI 1,dI 4,dI (a.vars.length:Int),dI 0,dI 0]))
 (zP (decide (a.kind=3))
 (R (.agg [dI 1,dI 4,dI (a.vars.length:Int),dI 0,dI 0]))
 (zP (decide (a.kind=4))
 (R (.agg [dI 1,dI 4,dI 0,dI 0,dI 0]))
 (zP (decide (a.kind=5))
 (R (.agg [dI 2,dI 2,dI (-1),dI 0,dI 0]))
 (zP (decide (a.kind=6))
 (R (.agg [dI 1,dI 4,dI 0,dI (-1),dI 0]))
 (zP (decide (a.kind=7))
 (R (.agg [dI 3,dI 3,dI 0,dI 0,dI 0]))
 (zP (decide (a.kind=8))
 (R (.agg [dI 2,dI 4,dI 0,dI 0,dI 0]))
 (zP (decide (a.kind=9))
 (R (.agg [dI 0,dI 0,dI 0,dI 0,dI (-1)]))
 (R (.agg [dI 1,dI 1,dI 0,dI 0,dI 1]))))))))))):=by kernel_rfl
theorem B9(a:zE):wC G0 Tryz.f222 T4 [dC a]:=wJ Tryz.func222 (by kernel_rfl) Tryz.ntmps222 rfl
def G1:wA:= {own:=[],live:=[],n:=12}
theorem zaK(b a:Int)(R:xO):FD G1 Tryz.f223 [dI b,dI a] R=
 (zP (decide (a=(-1)))
 (R (dB true))
 (R (dB (decide (b=a))))):=by kernel_rfl
theorem Aa(a b:Int):wC G1 Tryz.f223 Yx [dI a,dI b]:=wJ Tryz.func223 (by kernel_rfl) Tryz.ntmps223 rfl
def Qe:wA:= {own:=[],live:=[],n:=10}
theorem II(b:List Int)(a:zE)(R:xO):FD Qe Tryz.f224 [.sl .int b,.iptr (nV a []) 0] R=
 (R (dB (!decide ((b.length:Int)=(a.vars.length:Int))))):=by kernel_rfl
theorem Ky(b:List Int)(a:zE):wC Qe Tryz.f224 oz [.sl .int b,.iptr (nV a []) 0]:=wJ Tryz.func224 (by kernel_rfl) Tryz.ntmps224 rfl

def pF:wA:= {own:=[2,8,9,10,11,50,64],live:=[(0,([2,5,8,9],[2,8,9,1008004,1008005])),(2,([2,5,8],[2,8,9,1008005]))],n:=108,nils:=[(8,(4,(72,.var))),(8,(5,(74,.con)))],pubs:=[],first:=true}
def qF(R:xO)(a:List vL)(b:Nat)(c:List zN)(d:List zE)(e f:Int)(g:List vL)(h i j k l:Int)(m:List zN)(n:List zE):Prop:=LP pF Tryz.f11 [1,1,1,1,1,1,1,0,0,0] 2 b ⟨[(2,.ptr 2 0),(5,.sl .tok a),(8,.ptr 8 0)],[(2,.cells [.sl .var c,.sl .con d,dI e,dI f]),(8,.cells [.sl .tok g,dI h,dI i,dI j,.own 9,.own 1008005,dI k,dI l]),(9,.row 72 .var m),(1008005,.row 74 .con n)]⟩ (zQ 2 (sK pF Tryz.f11 [1,1,1,1,1,1,1,1] 0 (eK Tryz.f11 R)))
def sS(R:xO)(a:List vL)(b:Nat)(c:List zN)(d:List zE)(e f:Int)(g:List vL)(h i j k l:Int)(m n:List zN)(o:List zE):Prop:=LP pF Tryz.f11 [1,1,1,1,1,0,0,0] 0 b ⟨[(2,.ptr 2 0),(5,.sl .tok a),(8,.ptr 8 0),(9,.own 9)],[(2,.cells [.sl .var c,.sl .con d,dI e,dI f]),(8,.cells [.sl .tok g,dI h,dI i,dI j,.own 1008004,.own 1008005,dI k,dI l]),(9,.row 72 .var m),(1008004,.row 72 .var n),(1008005,.row 74 .con o)]⟩ (zQ 0 (sK pF Tryz.f11 [1,1,1,1,1,1] 0 (eK Tryz.f11 R)))
theorem oI(R:xO)(s:List vL)(n2:Nat)(al:List zN)(am:List zE)(an ao:Int)(c:List vL)(t d u h f:Int)(b:List zN)(a:List zE):qF R s (n2+1) al am an ao c t d u h f b a=
 (∃ap:ByteArray,yH yV [.ptr 1000 0] (zR c t d u h f b a) (.str ap) (zR c t d u h f b a)∧
 zP (decide (ap=(⟨#[99,111,110]⟩:ByteArray)))
 (∃aq:Int,∃ar:Int,yH zS [.ptr 1000 0,.str (⟨#[99,111,110]⟩:ByteArray)] (zR c t d u h f b a) (.tup []) (zR c aq d ar h f b a)∧
 ∃au:Int,∃av:Int,∃ad:zE,yH o9 [.ptr 1000 0] (zR c aq d ar h f b a) (dC ad) (zR c au d av h f b a)∧
 ∃aw:Int,∃ax:Int,yH zS [.ptr 1000 0,.str (⟨#[59]⟩:ByteArray)] (zR c au d av h f b a) (.tup []) (zR c aw d ax h f b a)∧
 wN .con (a.length+([ad]).length)=true∧qF R s n2 al am an ao c aw d ax h f b (a++([ad])))
 (∃ay:Int,∃az:Int,yH zS [.ptr 1000 0,.str (⟨#[115,111,108,118,101]⟩:ByteArray)] (zR c t d u h f b a) (.tup []) (zR c ay d az h f b a)∧
 ∃ac:Int,∃v:Int,∃e:Int,yH uW [.ptr 1000 0,.sl .str ([(⟨#[97,110,121]⟩:ByteArray),(⟨#[108,101,97,115,116]⟩:ByteArray),(⟨#[109,111,115,116]⟩:ByteArray)])] (zR c ay d az h f b a) (dI e) (zR c ac d v h f b a)∧
 zP (decide (v=0))
 (zP (!decide (e=0))
 (∃ba:Int,∃bb:Int,∃g:Int,yH xH [.ptr 1000 0] (zR c ac d v e f b a) (dI g) (zR c ba d bb e f b a)∧
 ∃i:Int,∃l:Int,yH zS [.ptr 1000 0,.str (⟨#[59]⟩:ByteArray)] (zR c ba d bb e g b a) (.tup []) (zR c i d l e g b a)∧
 zP (decide (i<(s.length:Int)))
 (∃o:Int,yH zV [.ptr 1000 0,dI 1] (zR c i d l e g b a) (.tup []) (zR c i d o e g b a)∧
 zP (!decide (o=0))
 ((∃w:Int,yH yK [.ptr 1000 0] (zR c i d o e g b a) (dI w) (zR c i d o e g b a)∧
 (λp:Prop=>((p)∧p))
 (R (.tup [.agg [.sl .var ([]:List zN),.sl .con ([]:List zE),dI 0,dI 0],dI w,dI o])))∧
 ∃w:Int,yH yK [.ptr 1000 0] (zR c i d o e g b a) (dI w) (zR c i d o e g b a)∧
 R (.tup [.agg [.sl .var ([]:List zN),.sl .con ([]:List zE),dI 0,dI 0],dI w,dI o]))
 (xK vO [.agg [.sl .var b,.sl .con a,dI e,dI g]] .int λae=>
 zP (!decide (ae=0))
 (R (.tup [.agg [.sl .var ([]:List zN),.sl .con ([]:List zE),dI 0,dI 0],dI 0,dI ae]))
 (R (.tup [.agg [.sl .var b,.sl .con a,dI e,dI g],dI 0,dI ae]))))
 (zP (!decide (l=0))
 ((∃x:Int,yH yK [.ptr 1000 0] (zR c i d l e g b a) (dI x) (zR c i d l e g b a)∧
 (λp:Prop=>((p)∧p))
 (R (.tup [.agg [.sl .var ([]:List zN),.sl .con ([]:List zE),dI 0,dI 0],dI x,dI l])))∧
 ∃x:Int,yH yK [.ptr 1000 0] (zR c i d l e g b a) (dI x) (zR c i d l e g b a)∧
 R (.tup [.agg [.sl .var ([]:List zN),.sl .con ([]:List zE),dI 0,dI 0],dI x,dI l]))
 (xK vO [.agg [.sl .var b,.sl .con a,dI e,dI g]] .int λaf=>
 zP (!decide (af=0))
 (R (.tup [.agg [.sl .var ([]:List zN),.sl .con ([]:List zE),dI 0,dI 0],dI 0,dI af]))
 (R (.tup [.agg [.sl .var b,.sl .con a,dI e,dI g],dI 0,dI af])))))
 (∃j:Int,∃m:Int,yH zS [.ptr 1000 0,.str (⟨#[59]⟩:ByteArray)] (zR c ac d v e f b a) (.tup []) (zR c j d m e f b a)∧
 zP (decide (j<(s.length:Int)))
 (∃q:Int,yH zV [.ptr 1000 0,dI 1] (zR c j d m e f b a) (.tup []) (zR c j d q e f b a)∧
 zP (!decide (q=0))
 ((∃y:Int,yH yK [.ptr 1000 0] (zR c j d q e f b a) (dI y) (zR c j d q e f b a)∧
 (λp:Prop=>((p)∧p))
 (R (.tup [.agg [.sl .var ([]:List zN),.sl .con ([]:List zE),dI 0,dI 0],dI y,dI q])))∧
 ∃y:Int,yH yK [.ptr 1000 0] (zR c j d q e f b a) (dI y) (zR c j d q e f b a)∧
 R (.tup [.agg [.sl .var ([]:List zN),.sl .con ([]:List zE),dI 0,dI 0],dI y,dI q]))
 (xK vO [.agg [.sl .var b,.sl .con a,dI e,dI f]] .int λag=>
 zP (!decide (ag=0))
 (R (.tup [.agg [.sl .var ([]:List zN),.sl .con ([]:List zE),dI 0,dI 0],dI 0,dI ag]))
 (R (.tup [.agg [.sl .var b,.sl .con a,dI e,dI f],dI 0,dI ag]))))
 (zP (!decide (m=0))
 ((∃z:Int,yH yK [.ptr 1000 0] (zR c j d m e f b a) (dI z) (zR c j d m e f b a)∧
 (λp:Prop=>((p)∧p))
 (R (.tup [.agg [.sl .var ([]:List zN),.sl .con ([]:List zE),dI 0,dI 0],dI z,dI m])))∧
 ∃z:Int,yH yK [.ptr 1000 0] (zR c j d m e f b a) (dI z) (zR c j d m e f b a)∧
 R (.tup [.agg [.sl .var ([]:List zN),.sl .con ([]:List zE),dI 0,dI 0],dI z,dI m]))
 (xK vO [.agg [.sl .var b,.sl .con a,dI e,dI f]] .int λah=>
 zP (!decide (ah=0))
 (R (.tup [.agg [.sl .var ([]:List zN),.sl .con ([]:List zE),dI 0,dI 0],dI 0,dI ah]))
 (R (.tup [.agg [.sl .var b,.sl .con a,dI e,dI f],dI 0,dI ah]))))))
 (∃k:Int,∃n:Int,yH zS [.ptr 1000 0,.str (⟨#[59]⟩:ByteArray)] (zR c ac d v e f b a) (.tup []) (zR c k d n e f b a)∧
 zP (decide (k<(s.length:Int)))
 (∃r:Int,yH zV [.ptr 1000 0,dI 1] (zR c k d n e f b a) (.tup []) (zR c k d r e f b a)∧
 zP (!decide (r=0))
 ((∃aa:Int,yH yK [.ptr 1000 0] (zR c k d r e f b a) (dI aa) (zR c k d r e f b a)∧
 (λp:Prop=>((p)∧p))
 (R (.tup [.agg [.sl .var ([]:List zN),.sl .con ([]:List zE),dI 0,dI 0],dI aa,dI r])))∧
 ∃aa:Int,yH yK [.ptr 1000 0] (zR c k d r e f b a) (dI aa) (zR c k d r e f b a)∧
 R (.tup [.agg [.sl .var ([]:List zN),.sl .con ([]:List zE),dI 0,dI 0],dI aa,dI r]))
 (xK vO [.agg [.sl .var b,.sl .con a,dI e,dI f]] .int λai=>
 zP (!decide (ai=0))
 (R (.tup [.agg [.sl .var ([]:List zN),.sl .con ([]:List zE),dI 0,dI 0],dI 0,dI ai]))
 (R (.tup [.agg [.sl .var b,.sl .con a,dI e,dI f],dI 0,dI ai]))))
 (zP (!decide (n=0))
 ((∃ab:Int,yH yK [.ptr 1000 0] (zR c k d n e f b a) (dI ab) (zR c k d n e f b a)∧
 (λp:Prop=>((p)∧p))
 (R (.tup [.agg [.sl .var ([]:List zN),.sl .con ([]:List zE),dI 0,dI 0],dI ab,dI n])))∧
 ∃ab:Int,yH yK [.ptr 1000 0] (zR c k d n e f b a) (dI ab) (zR c k d n e f b a)∧
 R (.tup [.agg [.sl .var ([]:List zN),.sl .con ([]:List zE),dI 0,dI 0],dI ab,dI n]))
 (xK vO [.agg [.sl .var b,.sl .con a,dI e,dI f]] .int λaj=>
 zP (!decide (aj=0))
 (R (.tup [.agg [.sl .var ([]:List zN),.sl .con ([]:List zE),dI 0,dI 0],dI 0,dI aj]))
 (R (.tup [.agg [.sl .var b,.sl .con a,dI e,dI f],dI 0,dI aj]))))))):=by kernel_rfl
theorem qG(R:xO)(m:List vL)(r:Nat)(n:List zN)(o:List zE)(p q:Int)(a:List vL)(j b k c d:Int)(h f:List zN)(e:List zE):sS R m (r+1) n o p q a j b k c d h f e=
 (∃w:ByteArray,yH yV [.ptr 1000 0] (zR a j b k c d f e) (.str w) (zR a j b k c d f e)∧
 zP (decide (w=(⟨#[118,97,114]⟩:ByteArray)))
 (∃g:Int,∃l:Int,yH zS [.ptr 1000 0,.str (⟨#[118,97,114]⟩:ByteArray)] (zR a j b k c d f e) (.tup []) (zR a g b l c d f e)∧
 ∃i:ByteArray,yH yV [.ptr 1000 0] (zR a g b l c d f e) (.str i) (zR a g b l c d f e)∧
 xK nY [.str i] .bool λau=>
 zP au
 (∃x:Int,∃y:Int,yH zS [.ptr 1000 0,.str (⟨#[58]⟩:ByteArray)] (zR a (yU (g+1)) b l c d f e) (.tup []) (zR a x b y c d f e)∧
 ∃z:Int,∃aa:Int,∃s:Int,yH yZ [.ptr 1000 0] (zR a x b y c d f e) (dI s) (zR a z b aa c d f e)∧
 ∃ab:Int,∃ac:Int,yH zS [.ptr 1000 0,.str (⟨#[46,46]⟩:ByteArray)] (zR a z b aa c d f e) (.tup []) (zR a ab b ac c d f e)∧
 ∃ad:Int,∃ae:Int,∃t:Int,yH yZ [.ptr 1000 0] (zR a ab b ac c d f e) (dI t) (zR a ad b ae c d f e)∧
 ∃af:Int,∃ag:Int,yH zS [.ptr 1000 0,.str (⟨#[59]⟩:ByteArray)] (zR a ad b ae c d f e) (.tup []) (zR a af b ag c d f e)∧
 wN .var (h.length+([(⟨i,s,t⟩:zN)]).length)=true∧sS R m r n o p q a af b ag c d (h++([(⟨i,s,t⟩:zN)])) f e)
 (∃ah:Int,yH zV [.ptr 1000 0,dI 1] (zR a g b l c d f e) (.tup []) (zR a g b ah c d f e)∧
 ∃ai:Int,∃aj:Int,yH zS [.ptr 1000 0,.str (⟨#[58]⟩:ByteArray)] (zR a g b ah c d f e) (.tup []) (zR a ai b aj c d f e)∧
 ∃ak:Int,∃al:Int,∃u:Int,yH yZ [.ptr 1000 0] (zR a ai b aj c d f e) (dI u) (zR a ak b al c d f e)∧
 ∃am:Int,∃an:Int,yH zS [.ptr 1000 0,.str (⟨#[46,46]⟩:ByteArray)] (zR a ak b al c d f e) (.tup []) (zR a am b an c d f e)∧
 ∃ao:Int,∃ap:Int,∃v:Int,yH yZ [.ptr 1000 0] (zR a am b an c d f e) (dI v) (zR a ao b ap c d f e)∧
 ∃aq:Int,∃ar:Int,yH zS [.ptr 1000 0,.str (⟨#[59]⟩:ByteArray)] (zR a ao b ap c d f e) (.tup []) (zR a aq b ar c d f e)∧
 wN .var (h.length+([(⟨i,u,v⟩:zN)]).length)=true∧sS R m r n o p q a aq b ar c d (h++([(⟨i,u,v⟩:zN)])) f e))
 (∃n2,qF R m n2 n o p q a j b k c d h e)):=by kernel_rfl
theorem Qf(a:ByteArray)(R:xO):FD pF Tryz.f11 [.str a] R=
 (c3Q aE [.str a] (.list .tok) .int .int λb d c=>
 zP (!decide (c=0))
 (R (.tup [.agg [.sl .var ([]:List zN),.sl .con ([]:List zE),dI 0,dI 0],dI d,dI c]))
 (∃n0,sS R b n0 ([]:List zN) ([]:List zE) 0 0 b 0 (a.size:Int) 0 0 0 ([]:List zN) ([]:List zN) ([]:List zE))):=by kernel_rfl
theorem S9(a:ByteArray):wC pF Tryz.f11 kQ [.str a]:=wJ Tryz.func11 (by kernel_rfl) Tryz.ntmps11 rfl
def wE:wA:= {own:=[5],live:=[(0,([1,3,4],[])),(2,([1,3,4,5,6],[5])),(4,([1,3,7],[]))],n:=114}
def oJ(a:zG)(R:xO)(c:Nat)(b:Int)(d:Nat)(e:Int):Prop:=LP wE Tryz.f15 [1,1,1,1,0,1,0,0,1,0,0,1,1,0,1,0,0] 2 d ⟨[(1,.iptr (TL a []) 0),(3,dI (a.vars.length:Int)),(4,dI b),(5,.ptr 5 0),(6,dI e)],[(5,.cells [.str ((yO .var a.vars b.toNat).name),dI ((yO .var a.vars b.toNat).lo),dI ((yO .var a.vars b.toNat).hi)])]⟩ (zQ 2 (sK wE Tryz.f15 [1,1,1,1,0,1,0,0,1,0,0,1,1,1] 1 (zQ 1 (sK wE Tryz.f15 [1,1,1,1,0,1,0,0,1,1] 0 (iK wE Tryz.f15 [1,1,1,1,0,1,0,0] 0 c (zQ 0 (sK wE Tryz.f15 [1,1,1,1,1] 0 (eK Tryz.f15 R))))))))
def oK(a:zG)(R:xO)(b:Nat)(c:Int):Prop:=LP wE Tryz.f15 [1,1,1,1,1,0,1,0,0] 4 b ⟨[(1,.iptr (TL a []) 0),(3,dI (a.vars.length:Int)),(7,dI c)],[]⟩ (zQ 4 (sK wE Tryz.f15 [1,1,1,1,1,1] 0 (eK Tryz.f15 R)))
def oL(a:zG)(R:xO)(b:Nat)(c:Int):Prop:=LP wE Tryz.f15 [1,1,1,1,0,1,0,0] 0 b ⟨[(1,.iptr (TL a []) 0),(3,dI (a.vars.length:Int)),(4,dI c)],[]⟩ (zQ 0 (sK wE Tryz.f15 [1,1,1,1,1] 0 (eK Tryz.f15 R)))
theorem fX(a:zG)(R:xO)(d:Nat)(b:Int)(e:Nat)(c:Int):oJ a R d b (e+1) c=
 (zP (decide (c<b))
 (vW c a.vars.length=true∧
 zP (decide (((yO .var a.vars c.toNat).name)=((yO .var a.vars b.toNat).name)))
 (R (dI 6))
 (oJ a R d b e (yU (c+1))))
 (xK xM [dI ((yO .var a.vars b.toNat).lo),dI (-50),dI 50] .bool λf=>
 zP (!f)
 (R (dI 3))
 (xK xM [dI ((yO .var a.vars b.toNat).hi),dI (-50),dI 50] .bool λg=>
 zP (!g)
 (R (dI 3))
 (zP (decide (((yO .var a.vars b.toNat).hi)<((yO .var a.vars b.toNat).lo)))
 (R (dI 3))
 (zP (decide (6<(yU ((yU (((yO .var a.vars b.toNat).hi)-((yO .var a.vars b.toNat).lo)))+1))))
 (R (dI 2))
 (oL a R d (yU (b+1)))))))):=by kernel_rfl
theorem fY(a:zG)(R:xO)(c:Nat)(b:Int):oK a R (c+1) b=
 (zP (decide (b<(a.cons.length:Int)))
 (vW b a.cons.length=true∧
 xK lC [dM a,dC (yO .con a.cons b.toNat)] .int λd=>
 zP (!decide (d=0))
 (R (dI d))
 (oK a R c (yU (b+1))))
 (xK xM [dI a.goal,dI 0,dI 2] .bool λe=>
 zP (!e)
 (R (dI 7))
 (zP (decide (a.goal=0))
 (zP (!decide (a.var=0))
 (R (dI 1))
 (zP (!decide (a.goal=0))
 (xK xM [dI a.var,dI 0,dI (yU ((a.vars.length:Int)-1))] .bool λf=>
 zP (!f)
 (R (dI 5))
 (R (dI 0)))
 (R (dI 0))))
 (zP (!decide (a.goal=0))
 (xK xM [dI a.var,dI 0,dI (yU ((a.vars.length:Int)-1))] .bool λg=>
 zP (!g)
 (R (dI 5))
 (R (dI 0)))
 (R (dI 0)))))):=by kernel_rfl
theorem fZ(a:zG)(R:xO)(c:Nat)(b:Int):oL a R (c+1) b=
 (zP (decide (b<(a.vars.length:Int)))
 (vW b a.vars.length=true∧
 xK nY [.str ((yO .var a.vars b.toNat).name)] .bool λd=>
 zP (!d)
 (R (dI 1))
 (∃n2,oJ a R c b n2 0))
 (∃n4,oK a R n4 0)):=by kernel_rfl
theorem U0(a:zG)(R:xO):FD wE Tryz.f15 [dM a] R=
 (zP (decide ((a.vars.length:Int)=0))
 (R (dI 1))
 (zP (decide (6<(a.vars.length:Int)))
 (R (dI 2))
 (zP (decide (8<(a.cons.length:Int)))
 (R (dI 2))
 (∃n0,oL a R n0 0)))):=by kernel_rfl
theorem Uo(a:zG):wC wE Tryz.f15 vO [dM a]:=wJ Tryz.func15 (by kernel_rfl) Tryz.ntmps15 rfl
def WX:wA:= {own:=[],live:=[],n:=35}
theorem XS(a:Int)(R:xO):FD WX Tryz.f20 [dI a] R=
 (zP (decide (a<0))
 (zP (decide ((-10)<a))
 (xK wV [dI (yU (0-a))] .str λc=>
 (⟨#[45]⟩:ByteArray).size+c.size≤140737488355328∧
 R (.str ((⟨#[45]⟩:ByteArray)++c)))
 ((10:Int)≠0∧
 xK wV [dI (yU (0-(yU (a.tdiv 10))))] .str λb=>
 (⟨#[45]⟩:ByteArray).size+b.size≤140737488355328∧
 (10:Int)≠0∧
 xK wV [dI (yU (0-(a.tmod 10)))] .str λd=>
 ((⟨#[45]⟩:ByteArray)++b).size+d.size≤140737488355328∧
 R (.str (((⟨#[45]⟩:ByteArray)++b)++d))))
 (zP (decide (a<10))
 (R (.str (⟨([UInt8.ofNat ((IntKind.u8.wrap (yU (48+a))).toNat)]).toArray⟩)))
 ((10:Int)≠0∧
 xK wV [dI (yU (a.tdiv 10))] .str λe=>
 (10:Int)≠0∧
 xK wV [dI (a.tmod 10)] .str λf=>
 e.size+f.size≤140737488355328∧
 R (.str (e++f))))):=by kernel_rfl
theorem Xq(a:Int):wC WX Tryz.f20 wV [dI a]:=wJ Tryz.func20 (by kernel_rfl) Tryz.ntmps20 rfl
def lL:wA:= {own:=[],live:=[(0,([0,1,5],[]))],n:=26}
def mF(a b:List Int)(R:xO)(c:Nat)(d:Int):Prop:=LP lL Tryz.f38 [1,1,0,1,0,0] 0 c ⟨[(0,.sl .int a),(1,.sl .int b),(5,dI d)],[]⟩ (zQ 0 (sK lL Tryz.f38 [1,1,1] 0 (eK Tryz.f38 R)))
theorem cW(b c:List Int)(R:xO)(d:Nat)(a:Int):mF b c R (d+1) a=
 (zP (decide (a<(b.length:Int)))
 (vW a b.length=true∧
 vW a c.length=true∧
 zP (!decide ((yO .int b a.toNat)=(yO .int c a.toNat)))
 (R (dB false))
 (mF b c R d (yU (a+1))))
 (R (dB true))):=by kernel_rfl
theorem Ra(a b:List Int)(R:xO):FD lL Tryz.f38 [.sl .int a,.sl .int b] R=
 (zP (!decide ((a.length:Int)=(b.length:Int)))
 (R (dB false))
 (∃n0,mF a b R n0 0)):=by kernel_rfl
theorem T6(a b:List Int):wC lL Tryz.f38 lB [.sl .int a,.sl .int b]:=wJ Tryz.func38 (by kernel_rfl) Tryz.ntmps38 rfl
def aT:wA:= {own:=[],live:=[],n:=31,first:=true}
theorem Up(a:List vL)(b d c e f:Int)(g:List zN)(h:List zE)(R:pR):FH aT Tryz.f45 [.ptr 1000 0] (zR a b d c e f g h) [.ptr 1000 0] false R=
 (zP (!decide (c=0))
 (R (.str (⟨#[]⟩:ByteArray)) (zR a b d c e f g h))
 (zP (decide ((a.length:Int)≤b))
 (R (.str (⟨#[]⟩:ByteArray)) (zR a b d c e f g h))
 (vW b a.length=true∧R (.str ((yO .tok a b.toNat).text)) (zR a b d c e f g h)))):=by kernel_rfl
theorem VC(a:List vL)(b c d e f:Int)(g:List zN)(h:List zE):oH aT Tryz.f45 yV [.ptr 1000 0] (zR a b c d e f g h) [.ptr 1000 0] false:=oT Tryz.func45 (by kernel_rfl) Tryz.ntmps45 rfl
def aU:wA:= {own:=[],live:=[],n:=24,first:=true}
theorem Uq(a:List vL)(b c h d e:Int)(f:List zN)(g:List zE)(i:ByteArray)(R:pR):FH aU Tryz.f46 [.ptr 1000 0,.str i] (zR a b c h d e f g) [.ptr 1000 0] false R=
 (zP (decide (h=0))
 (∃j:ByteArray,yH yV [.ptr 1000 0] (zR a b c h d e f g) (.str j) (zR a b c h d e f g)∧
 zP (decide (j=i))
 (R (.tup []) (zR a (yU (b+1)) c h d e f g))
 (∃k:Int,yH zV [.ptr 1000 0,dI 1] (zR a b c h d e f g) (.tup []) (zR a b c k d e f g)∧
 R (.tup []) (zR a b c k d e f g)))
 (∃l:Int,yH zV [.ptr 1000 0,dI 1] (zR a b c h d e f g) (.tup []) (zR a b c l d e f g)∧
 R (.tup []) (zR a b c l d e f g))):=by kernel_rfl
theorem VD(a:List vL)(b c d e f:Int)(g:List zN)(h:List zE)(i:ByteArray):oH aU Tryz.f46 zS [.ptr 1000 0,.str i] (zR a b c d e f g h) [.ptr 1000 0] false:=oT Tryz.func46 (by kernel_rfl) Tryz.ntmps46 rfl
def cX:wA:= {own:=[],live:=[],n:=13,first:=true}
theorem VE(a:List vL)(b c d e f:Int)(g:List zN)(h:List zE)(i:Int)(R:pR):FH cX Tryz.f48 [.ptr 1000 0,dI i] (zR a b c d e f g h) [.ptr 1000 0] false R=
 (zP (decide (d=0))
 (R (.tup []) (zR a b c i e f g h))
 (R (.tup []) (zR a b c d e f g h))):=by kernel_rfl
theorem WY(a:List vL)(b c d e f:Int)(g:List zN)(h:List zE)(i:Int):oH cX Tryz.f48 zV [.ptr 1000 0,dI i] (zR a b c d e f g h) [.ptr 1000 0] false:=oT Tryz.func48 (by kernel_rfl) Tryz.ntmps48 rfl
def vR:wA:= {own:=[],live:=[(0,([0,3,4,5,6],[1000,2000,2001]))],n:=56,first:=true}
def pW(a:List vL)(b c d:Int)(e:List zN)(f:List zE)(R:pR)(g h:Int)(i:ByteArray)(j:Nat)(k l:Int):Prop:=LP vR Tryz.f49 [1,1,1,1,1,1,0,1,0,0] 0 j ⟨[(0,.ptr 1000 0),(3,dI (-1)),(4,.str i),(5,dI k),(6,dI l)],(zR a g b h c d e f)⟩ (zQ 0 (sK vR Tryz.f49 [1,1,1,1,1,1,1] 0 (eH Tryz.f49 [.ptr 1000 0] false R)))
def U1(a:List vL)(b c d:Int)(e:List zN)(f:List zE)(R:pR)(g h:Int)(i:ByteArray)(j:Nat)(k l:Int):Prop:=LP vR Tryz.f49 [1,1,1,1,1,1,0,1,0,0] 0 j ⟨[(0,.ptr 1000 0),(3,dI (-1)),(4,.str i),(5,dI k),(6,dI l)],(zR a g b h c d e f)⟩ (zQ 0 (sK vR Tryz.f49 [1,1,1,1,1,1,1] 0 (eH Tryz.f49 [.ptr 1000 0] false R)))
def U2(a:List vL)(b c d e f:Int)(g:List zN)(h:List zE)(R:pR)(i:ByteArray)(j:Nat)(k l:Int):Prop:=LP vR Tryz.f49 [1,1,1,1,1,1,0,1,0,0] 0 j ⟨[(0,.ptr 1000 0),(3,dI 1),(4,.str i),(5,dI k),(6,dI l)],(zR a b c d e f g h)⟩ (zQ 0 (sK vR Tryz.f49 [1,1,1,1,1,1,1] 0 (eH Tryz.f49 [.ptr 1000 0] false R)))
def qH(a:List vL)(b c d e f:Int)(g:List zN)(h:List zE)(R:pR)(i:ByteArray)(j:Nat)(k l:Int):Prop:=LP vR Tryz.f49 [1,1,1,1,1,1,0,1,0,0] 0 j ⟨[(0,.ptr 1000 0),(3,dI 1),(4,.str i),(5,dI k),(6,dI l)],(zR a b c d e f g h)⟩ (zQ 0 (sK vR Tryz.f49 [1,1,1,1,1,1,1] 0 (eH Tryz.f49 [.ptr 1000 0] false R)))
theorem Ur(c:List vL)(d e f:Int)(g:List zN)(h:List zE)(R:pR)(i j:Int)(a:ByteArray)(l:Nat)(k b:Int):pW c d e f g h R i j a (l+1) k b=
 (zP (decide (b<(a.size:Int)))
 (vW b a.size=true∧pW c d e f g h R i j a l (yU ((yU ((yU (10*k))+(yU (sP a b.toNat))))-48)) (yU (b+1)))
 (R (dI (yU ((-1)*k))) (zR c (yU (i+1)) d j e f g h))):=by kernel_rfl
theorem WZ(c:List vL)(d e f g h:Int)(i:List zN)(j:List zE)(R:pR)(a:ByteArray)(l:Nat)(k b:Int):qH c d e f g h i j R a (l+1) k b=
 (zP (decide (b<(a.size:Int)))
 (vW b a.size=true∧qH c d e f g h i j R a l (yU ((yU ((yU (10*k))+(yU (sP a b.toNat))))-48)) (yU (b+1)))
 (R (dI (yU (1*k))) (zR c (yU (d+1)) e f g h i j))):=by kernel_rfl
theorem Ye(a:List vL)(g b i c d:Int)(e:List zN)(f:List zE)(R:pR):FH vR Tryz.f49 [.ptr 1000 0] (zR a g b i c d e f) [.ptr 1000 0] false R=
 (∃m:ByteArray,yH yV [.ptr 1000 0] (zR a g b i c d e f) (.str m) (zR a g b i c d e f)∧
 zP (decide (m=(⟨#[45]⟩:ByteArray)))
 (∃h:Int,∃j:Int,yH zS [.ptr 1000 0,.str (⟨#[45]⟩:ByteArray)] (zR a g b i c d e f) (.tup []) (zR a h b j c d e f)∧
 ∃k:ByteArray,yH yV [.ptr 1000 0] (zR a h b j c d e f) (.str k) (zR a h b j c d e f)∧
 zP (decide (k=(⟨#[]⟩:ByteArray)))
 (∃n:Int,yH zV [.ptr 1000 0,dI 1] (zR a h b j c d e f) (.tup []) (zR a h b n c d e f)∧
 R (dI 0) (zR a h b n c d e f))
 (vW 0 k.size=true∧xK pE [.int .u8 (sP k 0)] .bool λt=>
 zP (!t)
 (∃o:Int,yH zV [.ptr 1000 0,dI 1] (zR a h b j c d e f) (.tup []) (zR a h b o c d e f)∧
 R (dI 0) (zR a h b o c d e f))
 (zP (decide ((-1:Int)<0))
 (zP (decide (k=(⟨#[48]⟩:ByteArray)))
 (∃p:Int,yH zV [.ptr 1000 0,dI 1] (zR a h b j c d e f) (.tup []) (zR a h b p c d e f)∧
 R (dI 0) (zR a h b p c d e f))
 (∃n0,pW a b c d e f R h j k n0 0 0))
 (∃n0_2,U1 a b c d e f R h j k n0_2 0 0))))
 (∃l:ByteArray,yH yV [.ptr 1000 0] (zR a g b i c d e f) (.str l) (zR a g b i c d e f)∧
 zP (decide (l=(⟨#[]⟩:ByteArray)))
 (∃q:Int,yH zV [.ptr 1000 0,dI 1] (zR a g b i c d e f) (.tup []) (zR a g b q c d e f)∧
 R (dI 0) (zR a g b q c d e f))
 (vW 0 l.size=true∧xK pE [.int .u8 (sP l 0)] .bool λu=>
 zP (!u)
 (∃r:Int,yH zV [.ptr 1000 0,dI 1] (zR a g b i c d e f) (.tup []) (zR a g b r c d e f)∧
 R (dI 0) (zR a g b r c d e f))
 (zP (decide ((1:Int)<0))
 (zP (decide (l=(⟨#[48]⟩:ByteArray)))
 (∃s:Int,yH zV [.ptr 1000 0,dI 1] (zR a g b i c d e f) (.tup []) (zR a g b s c d e f)∧
 R (dI 0) (zR a g b s c d e f))
 (∃n0_3,U2 a g b i c d e f R l n0_3 0 0))
 (∃n0_4,qH a g b i c d e f R l n0_4 0 0))))):=by kernel_rfl
theorem ZK(a:List vL)(b c d e f:Int)(g:List zN)(h:List zE):oH vR Tryz.f49 yZ [.ptr 1000 0] (zR a b c d e f g h) [.ptr 1000 0] false:=oT Tryz.func49 (by kernel_rfl) Tryz.ntmps49 rfl
def rB:wA:= {own:=[2,3,66,86,89,103,117],live:=[(1,([0,2,3,6],[2,3,1000,2000,2001,1003004,1003005])),(3,([0,2,3,11],[2,3,1000,2000,2001,1003004,1003005]))],n:=120,first:=true,nz:=[(3,(4,(40,.list .int))),(3,(5,(114,.lit)))]}
def sH(R:pR)(a:Nat)(b:Bool)(c:Int)(d e:List Int)(f:Int)(g:List (List Int))(h:List zC)(i:Int)(j k:List Int)(l:Int)(m:List vL)(n o p q r:Int)(s:List zN)(t:List zE)(u:List (List Int))(v:List zC):Prop:=LP rB Tryz.f50 [1,1,1,0,1,0,1,1,1,1,1,1,1,0,1,1,0,0] 1 a ⟨[(0,.ptr 1000 0),(2,.ptr 2 0),(3,.ptr 3 0),(6,dB b)],[(2,.cells [dI c,.sl .int d,.sl .int e,dI f,dS g,.sl .lit h]),(3,.cells [dI i,.sl .int j,.sl .int k,dI l,.own 1003004,.own 1003005]),(1000,.cells [.sl .tok m,dI n,dI o,dI p,.own 2000,.own 2001,dI q,dI r]),(2000,.row 72 .var s),(2001,.row 74 .con t),(1003004,.row 40 (.list .int) u),(1003005,.row 114 .lit v)]⟩ (zQ 1 (zQ 0 (sK rB Tryz.f50 [1,1,1,1] 0 (eH Tryz.f50 [.ptr 1000 0] false R))))
def sI(R:pR)(a:Nat)(b:Bool)(c:Int)(d e:List Int)(f:Int)(g:List (List Int))(h:List zC)(i:Int)(j k:List Int)(l:Int)(m:List vL)(n o p q r:Int)(s:List zN)(t:List zE)(u:List (List Int))(v:List zC):Prop:=LP rB Tryz.f50 [1,1,1,0,1,0,1,1,1,1,1,1,1,1,1,1,1,1,1,0,1,0,0] 3 a ⟨[(0,.ptr 1000 0),(2,.ptr 2 0),(3,.ptr 3 0),(11,dB b)],[(2,.cells [dI c,.sl .int d,.sl .int e,dI f,dS g,.sl .lit h]),(3,.cells [dI i,.sl .int j,.sl .int k,dI l,.own 1003004,.own 1003005]),(1000,.cells [.sl .tok m,dI n,dI o,dI p,.own 2000,.own 2001,dI q,dI r]),(2000,.row 72 .var s),(2001,.row 74 .con t),(1003004,.row 40 (.list .int) u),(1003005,.row 114 .lit v)]⟩ (zQ 3 (zQ 0 (sK rB Tryz.f50 [1,1,1,1] 0 (eH Tryz.f50 [.ptr 1000 0] false R))))
theorem wF(R:pR)(q:Nat)(r:Bool)(s:Int)(t u:List Int)(v:Int)(w:List (List Int))(x:List zC)(h:Int)(i j:List Int)(k:Int)(a:List vL)(l b m c d:Int)(e:List zN)(f:List zE)(g:List (List Int))(n:List zC):sH R (q+1) r s t u v w x h i j k a l b m c d e f g n=
 (zP r
 ((λp:Prop=>((p)∧p))
 (∃y:Int,∃z:Int,∃o:List Int,yH xW [.ptr 1000 0] (zR a l b m c d e f) (.sl .int o) (zR a y b z c d e f)∧
 wN (.list .int) (g.length+([o]).length)=true∧∃aa:Int,∃ab:Int,∃ac:Bool,yH yA [.ptr 1000 0,dB false] (zR a y b z c d e f) (dB ac) (zR a aa b ab c d e f)∧
 sH R q ac s t u v w x h i j k a aa b ab c d e f (g++([o])) n))
 (R (.agg [dI h,.sl .int i,.sl .int j,dI k,dS g,.sl .lit n]) (zR a l b m c d e f))):=by kernel_rfl
theorem wG(R:pR)(q:Nat)(r:Bool)(s:Int)(t u:List Int)(v:Int)(w:List (List Int))(x:List zC)(h:Int)(i j:List Int)(k:Int)(a:List vL)(l b m c d:Int)(e:List zN)(f:List zE)(n:List (List Int))(g:List zC):sI R (q+1) r s t u v w x h i j k a l b m c d e f n g=
 (zP r
 ((λp:Prop=>((p)∧p))
 (∃y:Int,∃z:Int,∃o:zC,yH tH [.ptr 1000 0] (zR a l b m c d e f) (dL o) (zR a y b z c d e f)∧
 wN .lit (g.length+([o]).length)=true∧∃aa:Int,∃ab:Int,∃ac:Bool,yH yA [.ptr 1000 0,dB false] (zR a y b z c d e f) (dB ac) (zR a aa b ab c d e f)∧
 sI R q ac s t u v w x h i j k a aa b ab c d e f n (g++([o]))))
 (R (.agg [dI h,.sl .int i,.sl .int j,dI k,dS n,.sl .lit g]) (zR a l b m c d e f))):=by kernel_rfl
theorem wP(a:List vL)(m b n c d:Int)(e:List zN)(f:List zE)(R:pR):FH rB Tryz.f50 [.ptr 1000 0] (zR a m b n c d e f) [.ptr 1000 0] false R=
 (∃h:Int,∃i:Int,∃g:Int,yH uW [.ptr 1000 0,.sl .str ([(⟨#[108,101]⟩:ByteArray),(⟨#[101,113]⟩:ByteArray),(⟨#[110,101]⟩:ByteArray),(⟨#[100,105,102,102,101,114]⟩:ByteArray),(⟨#[101,108,101,109,101,110,116]⟩:ByteArray),(⟨#[116,97,98,108,101]⟩:ByteArray),(⟨#[116,105,109,101,115]⟩:ByteArray),(⟨#[109,97,120]⟩:ByteArray),(⟨#[99,108,97,117,115,101]⟩:ByteArray),(⟨#[105,102,102]⟩:ByteArray)])] (zR a m b n c d e f) (dI g) (zR a h b i c d e f)∧
 zP (decide ((yU (1+g))=1))
 (∃o:Int,∃q:Int,∃r:List Int,yH xW [.ptr 1000 0] (zR a h b i c d e f) (.sl .int r) (zR a o b q c d e f)∧
 ∃s:Int,∃t:Int,∃u:List Int,yH vJ [.ptr 1000 0] (zR a o b q c d e f) (.sl .int u) (zR a s b t c d e f)∧
 ∃v:Int,∃w:Int,∃x:Int,yH yZ [.ptr 1000 0] (zR a s b t c d e f) (dI x) (zR a v b w c d e f)∧
 R (.agg [dI (yU (1+g)),.sl .int u,.sl .int r,dI x,dS ([]:List (List Int)),.sl .lit ([]:List zC)]) (zR a v b w c d e f))
 (zP (decide ((yU (1+g))=2))
 (∃y:Int,∃z:Int,∃aa:List Int,yH xW [.ptr 1000 0] (zR a h b i c d e f) (.sl .int aa) (zR a y b z c d e f)∧
 ∃ab:Int,∃ac:Int,∃ad:List Int,yH vJ [.ptr 1000 0] (zR a y b z c d e f) (.sl .int ad) (zR a ab b ac c d e f)∧
 ∃ae:Int,∃af:Int,∃ag:Int,yH yZ [.ptr 1000 0] (zR a ab b ac c d e f) (dI ag) (zR a ae b af c d e f)∧
 R (.agg [dI (yU (1+g)),.sl .int ad,.sl .int aa,dI ag,dS ([]:List (List Int)),.sl .lit ([]:List zC)]) (zR a ae b af c d e f))
 (zP (decide ((yU (1+g))=3))
 (∃ah:Int,∃ai:Int,∃aj:List Int,yH xW [.ptr 1000 0] (zR a h b i c d e f) (.sl .int aj) (zR a ah b ai c d e f)∧
 ∃ak:Int,∃al:Int,∃am:List Int,yH vJ [.ptr 1000 0] (zR a ah b ai c d e f) (.sl .int am) (zR a ak b al c d e f)∧
 ∃an:Int,∃ao:Int,∃ap:Int,yH yZ [.ptr 1000 0] (zR a ak b al c d e f) (dI ap) (zR a an b ao c d e f)∧
 R (.agg [dI (yU (1+g)),.sl .int am,.sl .int aj,dI ap,dS ([]:List (List Int)),.sl .lit ([]:List zC)]) (zR a an b ao c d e f))
 (zP (decide ((yU (1+g))=4))
 (∃aq:Int,∃ar:Int,∃au:List Int,yH vJ [.ptr 1000 0] (zR a h b i c d e f) (.sl .int au) (zR a aq b ar c d e f)∧
 R (.agg [dI (yU (1+g)),.sl .int au,.sl .int ([]:List Int),dI 0,dS ([]:List (List Int)),.sl .lit ([]:List zC)]) (zR a aq b ar c d e f))
 (zP (decide ((yU (1+g))=5))
 (∃av:Int,∃aw:Int,∃ax:List Int,yH xW [.ptr 1000 0] (zR a h b i c d e f) (.sl .int ax) (zR a av b aw c d e f)∧
 ∃ay:Int,∃az:Int,∃ba:Int,yH xH [.ptr 1000 0] (zR a av b aw c d e f) (dI ba) (zR a ay b az c d e f)∧
 ∃bb:Int,∃bc:Int,∃bd:Int,yH xH [.ptr 1000 0] (zR a ay b az c d e f) (dI bd) (zR a bb b bc c d e f)∧
 R (.agg [dI (yU (1+g)),.sl .int ([ba,bd]),.sl .int ax,dI 0,dS ([]:List (List Int)),.sl .lit ([]:List zC)]) (zR a bb b bc c d e f))
 (zP (decide ((yU (1+g))=6))
 (∃be:Int,∃bf:Int,∃bg:List Int,yH vJ [.ptr 1000 0] (zR a h b i c d e f) (.sl .int bg) (zR a be b bf c d e f)∧
 ∃bh:Int,∃bi:Int,∃bj:Bool,yH yA [.ptr 1000 0,dB true] (zR a be b bf c d e f) (dB bj) (zR a bh b bi c d e f)∧
 ∃n1,sH R n1 bj 0 ([]:List Int) ([]:List Int) 0 ([]:List (List Int)) ([]:List zC) (yU (1+g)) bg ([]:List Int) 0 a bh b bi c d e f ([]:List (List Int)) ([]:List zC))
 (zP (decide ((yU (1+g))=7))
 (∃bk:Int,∃bl:Int,∃bm:Int,yH xH [.ptr 1000 0] (zR a h b i c d e f) (dI bm) (zR a bk b bl c d e f)∧
 ∃bn:Int,∃bo:Int,∃bp:Int,yH xH [.ptr 1000 0] (zR a bk b bl c d e f) (dI bp) (zR a bn b bo c d e f)∧
 ∃bq:Int,∃br:Int,∃bs:Int,yH xH [.ptr 1000 0] (zR a bn b bo c d e f) (dI bs) (zR a bq b br c d e f)∧
 R (.agg [dI (yU (1+g)),.sl .int ([bm,bp,bs]),.sl .int ([]:List Int),dI 0,dS ([]:List (List Int)),.sl .lit ([]:List zC)]) (zR a bq b br c d e f))
 (zP (decide ((yU (1+g))=8))
 (∃bt:Int,∃bu:Int,∃j:Int,yH xH [.ptr 1000 0] (zR a h b i c d e f) (dI j) (zR a bt b bu c d e f)∧
 ∃bv:Int,∃bw:Int,∃k:List Int,yH vJ [.ptr 1000 0] (zR a bt b bu c d e f) (.sl .int k) (zR a bv b bw c d e f)∧
 wN .int (([j]).length+k.length)=true∧R (.agg [dI (yU (1+g)),.sl .int (([j])++k),.sl .int ([]:List Int),dI 0,dS ([]:List (List Int)),.sl .lit ([]:List zC)]) (zR a bv b bw c d e f))
 (zP (decide ((yU (1+g))=9))
 (∃bx:Int,∃bz:Int,∃ca:Bool,yH yA [.ptr 1000 0,dB true] (zR a h b i c d e f) (dB ca) (zR a bx b bz c d e f)∧
 ∃n3,sI R n3 ca 0 ([]:List Int) ([]:List Int) 0 ([]:List (List Int)) ([]:List zC) (yU (1+g)) ([]:List Int) ([]:List Int) 0 a bx b bz c d e f ([]:List (List Int)) ([]:List zC))
 (zP (decide ((yU (1+g))=10))
 (∃cb:Int,∃cc:Int,∃cd:Int,yH xH [.ptr 1000 0] (zR a h b i c d e f) (dI cd) (zR a cb b cc c d e f)∧
 (λp:Prop=>((p)∧p))
 (∃ce:Int,∃cf:Int,∃l:zC,yH tH [.ptr 1000 0] (zR a cb b cc c d e f) (dL l) (zR a ce b cf c d e f)∧
 wN .lit (([]:List zC).length+([l]).length)=true∧R (.agg [dI (yU (1+g)),.sl .int ([cd]),.sl .int ([]:List Int),dI 0,dS ([]:List (List Int)),.sl .lit (([]:List zC)++([l]))]) (zR a ce b cf c d e f)))
 (R (.agg [dI (yU (1+g)),.sl .int ([]:List Int),.sl .int ([]:List Int),dI 0,dS ([]:List (List Int)),.sl .lit ([]:List zC)]) (zR a h b i c d e f)))))))))))):=by kernel_rfl
theorem wB(a:List vL)(b c d e f:Int)(g:List zN)(h:List zE):oH rB Tryz.f50 o9 [.ptr 1000 0] (zR a b c d e f g h) [.ptr 1000 0] false:=oT Tryz.func50 (by kernel_rfl) Tryz.ntmps50 rfl
def oM:wA:= {own:=[],live:=[(0,([0,1,5],[1000,2000,2001]))],n:=36,first:=true}
def rQ(a:List ByteArray)(R:pR)(b:Nat)(c:Int)(d:List vL)(e f g h i:Int)(j:List zN)(k:List zE):Prop:=LP oM Tryz.f51 [1,0,1,0,0] 0 b ⟨[(0,.ptr 1000 0),(1,.sl .str a),(5,dI c)],(zR d e f g h i j k)⟩ (zQ 0 (sK oM Tryz.f51 [1,1] 0 (eH Tryz.f51 [.ptr 1000 0] false R)))
theorem Wf(j:List ByteArray)(R:pR)(k:Nat)(i:Int)(a:List vL)(b c h d e:Int)(f:List zN)(g:List zE):rQ j R (k+1) i a b c h d e f g=
 (zP (decide (i<(j.length:Int)))
 (zP (decide (h=0))
 (vW i j.length=true∧∃l:ByteArray,yH yV [.ptr 1000 0] (zR a b c h d e f g) (.str l) (zR a b c h d e f g)∧
 zP (decide (l=(yO .str j i.toNat)))
 (R (dI i) (zR a (yU (b+1)) c h d e f g))
 (rQ j R k (yU (i+1)) a b c h d e f g))
 (rQ j R k (yU (i+1)) a b c h d e f g))
 (∃m:Int,yH zV [.ptr 1000 0,dI 1] (zR a b c h d e f g) (.tup []) (zR a b c m d e f g)∧
 R (dI 0) (zR a b c m d e f g))):=by kernel_rfl
theorem Us(a:List vL)(b c d e f:Int)(g:List zN)(h:List zE)(i:List ByteArray)(R:pR):FH oM Tryz.f51 [.ptr 1000 0,.sl .str i] (zR a b c d e f g h) [.ptr 1000 0] false R=
 (∃n0,rQ i R n0 0 a b c d e f g h):=by kernel_rfl
theorem VF(a:List vL)(b c d e f:Int)(g:List zN)(h:List zE)(i:List ByteArray):oH oM Tryz.f51 uW [.ptr 1000 0,.sl .str i] (zR a b c d e f g h) [.ptr 1000 0] false:=oT Tryz.func51 (by kernel_rfl) Tryz.ntmps51 rfl
def lM:wA:= {own:=[],live:=[(0,([0,3,4],[1000,2000,2001]))],n:=43,first:=true}
def mG(R:pR)(a:ByteArray)(b:Nat)(c:Int)(d:List vL)(e f g h i:Int)(j:List zN)(k:List zE):Prop:=LP lM Tryz.f52 [1,1,1,0,1,0,0] 0 b ⟨[(0,.ptr 1000 0),(3,.str a),(4,dI c)],(zR d e f g h i j k)⟩ (zQ 0 (sK lM Tryz.f52 [1,1,1,1] 0 (eH Tryz.f52 [.ptr 1000 0] false R)))
theorem Ut(R:pR)(j:ByteArray)(k:Nat)(b:Int)(c:List vL)(d e i f g:Int)(a:List zN)(h:List zE):mG R j (k+1) b c d e i f g a h=
 (zP (decide (b<(a.length:Int)))
 (vW b a.length=true∧zP (decide (((yO .var a b.toNat).name)=j))
 (R (dI b) (zR c (yU (d+1)) e i f g a h))
 (mG R j k (yU (b+1)) c d e i f g a h))
 (∃l:Int,yH zV [.ptr 1000 0,dI 5] (zR c d e i f g a h) (.tup []) (zR c d e l f g a h)∧
 R (dI 0) (zR c d e l f g a h))):=by kernel_rfl
theorem Rb(a:List vL)(b c h d e:Int)(f:List zN)(g:List zE)(R:pR):FH lM Tryz.f52 [.ptr 1000 0] (zR a b c h d e f g) [.ptr 1000 0] false R=
 (∃i:ByteArray,yH yV [.ptr 1000 0] (zR a b c h d e f g) (.str i) (zR a b c h d e f g)∧
 xK nY [.str i] .bool λk=>
 zP (!k)
 (∃j:Int,yH zV [.ptr 1000 0,dI 1] (zR a b c h d e f g) (.tup []) (zR a b c j d e f g)∧
 R (dI 0) (zR a b c j d e f g))
 (∃n0,mG R i n0 0 a b c h d e f g)):=by kernel_rfl
theorem T7(a:List vL)(b c d e f:Int)(g:List zN)(h:List zE):oH lM Tryz.f52 xH [.ptr 1000 0] (zR a b c d e f g h) [.ptr 1000 0] false:=oT Tryz.func52 (by kernel_rfl) Tryz.ntmps52 rfl
def aV:wA:= {own:=[],live:=[],n:=28,first:=true}
theorem Uu(a:List vL)(b c d e f:Int)(g:List zN)(h:List zE)(R:pR):FH aV Tryz.f53 [.ptr 1000 0] (zR a b c d e f g h) [.ptr 1000 0] false R=
 (zP (decide (b<(a.length:Int)))
 (vW b a.length=true∧R (dI ((yO .tok a b.toNat).at_)) (zR a b c d e f g h))
 (R (dI c) (zR a b c d e f g h))):=by kernel_rfl
theorem VG(a:List vL)(b c d e f:Int)(g:List zN)(h:List zE):oH aV Tryz.f53 yK [.ptr 1000 0] (zR a b c d e f g h) [.ptr 1000 0] false:=oT Tryz.func53 (by kernel_rfl) Tryz.ntmps53 rfl
def XT:wA:= {own:=[],live:=[],n:=15}
theorem Qg(a b c:Int)(R:xO):FD XT Tryz.f61 [dI a,dI b,dI c] R=
 (zP (decide (b≤a))
 (R (dB (decide (a≤c))))
 (R (dB false))):=by kernel_rfl
theorem Re(a b c:Int):wC XT Tryz.f61 xM [dI a,dI b,dI c]:=wJ Tryz.func61 (by kernel_rfl) Tryz.ntmps61 rfl
def xB:wA:= {own:=[],live:=[(0,([2,3,5],[])),(2,([2,3,6],[])),(4,([2,3,7],[])),(6,([2,3,8],[])),(8,([2,3,8,9],[])),(10,([2,3,10],[]))],n:=140}
def mH(b:zG)(a:zE)(R:xO)(c:Nat)(d:Int)(e:Nat)(f:Int):Prop:=LP xB Tryz.f62 [1,1,1,1,1,1,1,1,0,1,0,0,1,0,0,1,0,0] 8 e ⟨[(2,.iptr (TL b []) 0),(3,.iptr (nV a []) 0),(8,dI d),(9,dI f)],[]⟩ (zQ 8 (zQ 7 (sK xB Tryz.f62 [1,1,1,1,1,1,1,1,0,1,0,0,1,1] 6 (iK xB Tryz.f62 [1,1,1,1,1,1,1,1,0,1,0,0] 6 c (zQ 6 (sK xB Tryz.f62 [1,1,1,1,1,1,1,1,1] 0 (eK Tryz.f62 R)))))))
def nE(b:zG)(a:zE)(R:xO)(c:Nat)(d:Int):Prop:=LP xB Tryz.f62 [1,1,1,1,1,1,1,1,1,0,1,0,0] 10 c ⟨[(2,.iptr (TL b []) 0),(3,.iptr (nV a []) 0),(10,dI d)],[]⟩ (zQ 10 (sK xB Tryz.f62 [1,1,1,1,1,1,1,1,1,1] 0 (eK Tryz.f62 R)))
def mI(b:zG)(a:zE)(R:xO)(c:Nat)(d:Int):Prop:=LP xB Tryz.f62 [1,1,1,1,1,1,1,1,0,1,0,0] 6 c ⟨[(2,.iptr (TL b []) 0),(3,.iptr (nV a []) 0),(8,dI d)],[]⟩ (zQ 6 (sK xB Tryz.f62 [1,1,1,1,1,1,1,1,1] 0 (eK Tryz.f62 R)))
def mJ(b:zG)(a:zE)(R:xO)(c:Nat)(d:Int):Prop:=LP xB Tryz.f62 [1,1,1,1,1,1,0,1,0,0] 4 c ⟨[(2,.iptr (TL b []) 0),(3,.iptr (nV a []) 0),(7,dI d)],[]⟩ (zQ 4 (sK xB Tryz.f62 [1,1,1,1,1,1,1] 0 (eK Tryz.f62 R)))
def mK(b:zG)(a:zE)(R:xO)(c:Nat)(d:Int):Prop:=LP xB Tryz.f62 [1,1,1,1,1,0,1,0,0] 2 c ⟨[(2,.iptr (TL b []) 0),(3,.iptr (nV a []) 0),(6,dI d)],[]⟩ (zQ 2 (sK xB Tryz.f62 [1,1,1,1,1,1] 0 (eK Tryz.f62 R)))
def mL(b:zG)(a:zE)(R:xO)(c:Nat)(d:Int):Prop:=LP xB Tryz.f62 [1,1,1,1,0,1,0,0] 0 c ⟨[(2,.iptr (TL b []) 0),(3,.iptr (nV a []) 0),(5,dI d)],[]⟩ (zQ 0 (sK xB Tryz.f62 [1,1,1,1,1] 0 (eK Tryz.f62 R)))
theorem cY(d:zG)(a:zE)(R:xO)(e:Nat)(b:Int)(f:Nat)(c:Int):mH d a R e b (f+1) c=
 (vW b a.rows.length=true∧
 zP (decide (c<((yO (.list .int) a.rows b.toNat).length:Int)))
 (vW b a.rows.length=true∧
 vW c (yO (.list .int) a.rows b.toNat).length=true∧
 xK rH [dI (yO .int (yO (.list .int) a.rows b.toNat) c.toNat)] .bool λg=>
 zP (!g)
 (R (dI 3))
 (mH d a R e b f (yU (c+1))))
 (mI d a R e (yU (b+1)))):=by kernel_rfl
theorem dP(c:zG)(a:zE)(R:xO)(d:Nat)(b:Int):nE c a R (d+1) b=
 (zP (decide (b<(a.lits.length:Int)))
 (vW b a.lits.length=true∧
 xK lG [dM c,dL (yO .lit a.lits b.toNat)] .int λe=>
 zP (!decide (e=0))
 (R (dI e))
 (nE c a R d (yU (b+1))))
 (R (dI 0))):=by kernel_rfl
theorem cZ(b:zG)(a:zE)(R:xO)(d:Nat)(c:Int):mI b a R (d+1) c=
 (zP (decide (c<(a.rows.length:Int)))
 (∃n8,mH b a R d c n8 0)
 (∃n10,nE b a R n10 0)):=by kernel_rfl
theorem bA(c:zG)(a:zE)(R:xO)(d:Nat)(b:Int):mJ c a R (d+1) b=
 (zP (decide (b<(a.consts.length:Int)))
 (vW b a.consts.length=true∧
 xK rH [dI (yO .int a.consts b.toNat)] .bool λe=>
 zP (!e)
 (R (dI 3))
 (mJ c a R d (yU (b+1))))
 (xK rH [dI a.n] .bool λf=>
 zP (!f)
 (R (dI 3))
 (∃n6,mI c a R n6 0))):=by kernel_rfl
theorem bB(c:zG)(a:zE)(R:xO)(d:Nat)(b:Int):mK c a R (d+1) b=
 (zP (decide (b<(a.lits.length:Int)))
 (vW b a.lits.length=true∧
 xK xM [dI ((yO .lit a.lits b.toNat).var),dI 0,dI (yU ((c.vars.length:Int)-1))] .bool λe=>
 zP (!e)
 (R (dI 5))
 (mK c a R d (yU (b+1))))
 (∃n4,mJ c a R n4 0)):=by kernel_rfl
theorem bC(c:zG)(a:zE)(R:xO)(d:Nat)(b:Int):mL c a R (d+1) b=
 (zP (decide (b<(a.vars.length:Int)))
 (vW b a.vars.length=true∧
 xK xM [dI (yO .int a.vars b.toNat),dI 0,dI (yU ((c.vars.length:Int)-1))] .bool λe=>
 zP (!e)
 (R (dI 5))
 (mL c a R d (yU (b+1))))
 (∃n2,mK c a R n2 0)):=by kernel_rfl
theorem Rf(b:zG)(a:zE)(R:xO):FD xB Tryz.f62 [dM b,dC a] R=
 (xK xM [dI a.kind,dI 1,dI 10] .bool λc=>
 zP (!c)
 (R (dI 7))
 (zP (decide (4<(a.vars.length:Int)))
 (R (dI 2))
 (zP (decide (4<(a.lits.length:Int)))
 (R (dI 2))
 (zP (decide (8<(a.consts.length:Int)))
 (R (dI 2))
 (zP (decide (20<(a.rows.length:Int)))
 (R (dI 2))
 (xK mE [dC a] .bool λd=>
 zP (!d)
 (R (dI 1))
 (∃n0,mL b a R n0 0))))))):=by kernel_rfl
theorem T9(a:zG)(b:zE):wC xB Tryz.f62 lC [dM a,dC b]:=wJ Tryz.func62 (by kernel_rfl) Tryz.ntmps62 rfl
def nF:wA:= {own:=[],live:=[(0,([0,1,5],[]))],n:=26}
def oN(a b:List zC)(R:xO)(c:Nat)(d:Int):Prop:=LP nF Tryz.f69 [1,1,0,1,0,0] 0 c ⟨[(0,.sl .lit a),(1,.sl .lit b),(5,dI d)],[]⟩ (zQ 0 (sK nF Tryz.f69 [1,1,1] 0 (eK Tryz.f69 R)))
theorem f7(b c:List zC)(R:xO)(d:Nat)(a:Int):oN b c R (d+1) a=
 (zP (decide (a<(b.length:Int)))
 (vW a b.length=true∧
 vW a c.length=true∧
 zP (!decide ((yO .lit b a.toNat)=(yO .lit c a.toNat)))
 (R (dB false))
 (oN b c R d (yU (a+1))))
 (R (dB true))):=by kernel_rfl
theorem U3(a b:List zC)(R:xO):FD nF Tryz.f69 [.sl .lit a,.sl .lit b] R=
 (zP (!decide ((a.length:Int)=(b.length:Int)))
 (R (dB false))
 (∃n0,oN a b R n0 0)):=by kernel_rfl
theorem Uv(a b:List zC):wC nF Tryz.f69 nA [.sl .lit a,.sl .lit b]:=wJ Tryz.func69 (by kernel_rfl) Tryz.ntmps69 rfl
def XU:wA:= {own:=[],live:=[],n:=6}
theorem Qh(a:UInt8)(R:xO):FD XU Tryz.f101 [.int .u8 (a.toNat:Int)] R=
 (xK xM [dI (yU (a.toNat:Int)),dI 48,dI 57] .bool λb=>
 R (dB b)):=by kernel_rfl
theorem Rg(a:UInt8):wC XU Tryz.f101 pE [.int .u8 (a.toNat:Int)]:=wJ Tryz.func101 (by kernel_rfl) Tryz.ntmps101 rfl
def mM:wA:= {own:=[3,14],live:=[(0,([0,3,4],[3,1000,2000,2001]))],n:=16,first:=true}
def qW(R:pR)(a:Nat)(b:Bool)(c:List Int)(d:List vL)(e f g h i:Int)(j:List zN)(k:List zE):Prop:=LP mM Tryz.f102 [1,1,0,1,0,0] 0 a ⟨[(0,.ptr 1000 0),(3,.own 3),(4,dB b)],[(3,.row 3 .int c),(1000,.cells [.sl .tok d,dI e,dI f,dI g,.own 2000,.own 2001,dI h,dI i]),(2000,.row 72 .var j),(2001,.row 74 .con k)]⟩ (zQ 0 (sK mM Tryz.f102 [1,1,1] 0 (eH Tryz.f102 [.ptr 1000 0] false R)))
theorem wQ(R:pR)(k:Nat)(l:Bool)(g:List Int)(a:List vL)(h b i c d:Int)(e:List zN)(f:List zE):qW R (k+1) l g a h b i c d e f=
 (zP l
 (∃m:Int,∃n:Int,∃j:Int,yH yZ [.ptr 1000 0] (zR a h b i c d e f) (dI j) (zR a m b n c d e f)∧
 wN .int (g.length+([j]).length)=true∧∃o:Int,∃p:Int,∃q:Bool,yH yA [.ptr 1000 0,dB false] (zR a m b n c d e f) (dB q) (zR a o b p c d e f)∧
 qW R k q (g++([j])) a o b p c d e f)
 (R (.sl .int g) (zR a h b i c d e f))):=by kernel_rfl
theorem Sa(a:List vL)(g b h c d:Int)(e:List zN)(f:List zE)(R:pR):FH mM Tryz.f102 [.ptr 1000 0] (zR a g b h c d e f) [.ptr 1000 0] false R=
 (∃i:Int,∃j:Int,∃k:Bool,yH yA [.ptr 1000 0,dB true] (zR a g b h c d e f) (dB k) (zR a i b j c d e f)∧
 ∃n0,qW R n0 k ([]:List Int) a i b j c d e f):=by kernel_rfl
theorem U4(a:List vL)(b c d e f:Int)(g:List zN)(h:List zE):oH mM Tryz.f102 xW [.ptr 1000 0] (zR a b c d e f g h) [.ptr 1000 0] false:=oT Tryz.func102 (by kernel_rfl) Tryz.ntmps102 rfl
def mN:wA:= {own:=[3,14],live:=[(0,([0,3,4],[3,1000,2000,2001]))],n:=16,first:=true}
def qX(R:pR)(a:Nat)(b:Bool)(c:List Int)(d:List vL)(e f g h i:Int)(j:List zN)(k:List zE):Prop:=LP mN Tryz.f103 [1,1,0,1,0,0] 0 a ⟨[(0,.ptr 1000 0),(3,.own 3),(4,dB b)],[(3,.row 3 .int c),(1000,.cells [.sl .tok d,dI e,dI f,dI g,.own 2000,.own 2001,dI h,dI i]),(2000,.row 72 .var j),(2001,.row 74 .con k)]⟩ (zQ 0 (sK mN Tryz.f103 [1,1,1] 0 (eH Tryz.f103 [.ptr 1000 0] false R)))
theorem wR(R:pR)(k:Nat)(l:Bool)(g:List Int)(a:List vL)(h b i c d:Int)(e:List zN)(f:List zE):qX R (k+1) l g a h b i c d e f=
 (zP l
 (∃m:Int,∃n:Int,∃j:Int,yH xH [.ptr 1000 0] (zR a h b i c d e f) (dI j) (zR a m b n c d e f)∧
 wN .int (g.length+([j]).length)=true∧∃o:Int,∃p:Int,∃q:Bool,yH yA [.ptr 1000 0,dB false] (zR a m b n c d e f) (dB q) (zR a o b p c d e f)∧
 qX R k q (g++([j])) a o b p c d e f)
 (R (.sl .int g) (zR a h b i c d e f))):=by kernel_rfl
theorem Sb(a:List vL)(g b h c d:Int)(e:List zN)(f:List zE)(R:pR):FH mN Tryz.f103 [.ptr 1000 0] (zR a g b h c d e f) [.ptr 1000 0] false R=
 (∃i:Int,∃j:Int,∃k:Bool,yH yA [.ptr 1000 0,dB true] (zR a g b h c d e f) (dB k) (zR a i b j c d e f)∧
 ∃n0,qX R n0 k ([]:List Int) a i b j c d e f):=by kernel_rfl
theorem U5(a:List vL)(b c d e f:Int)(g:List zN)(h:List zE):oH mN Tryz.f103 vJ [.ptr 1000 0] (zR a b c d e f g h) [.ptr 1000 0] false:=oT Tryz.func103 (by kernel_rfl) Tryz.ntmps103 rfl
def aW:wA:= {own:=[],live:=[],n:=25,first:=true}
theorem bD(a:List vL)(g b h c d:Int)(e:List zN)(f:List zE)(k:Bool)(R:pR):FH aW Tryz.f104 [.ptr 1000 0,dB k] (zR a g b h c d e f) [.ptr 1000 0] false R=
 (zP k
 (∃j:Int,∃i:Int,yH zS [.ptr 1000 0,.str (⟨#[91]⟩:ByteArray)] (zR a g b h c d e f) (.tup []) (zR a j b i c d e f)∧
 ∃l:ByteArray,yH yV [.ptr 1000 0] (zR a j b i c d e f) (.str l) (zR a j b i c d e f)∧
 zP (decide (l=(⟨#[93]⟩:ByteArray)))
 (∃m:Int,∃n:Int,yH zS [.ptr 1000 0,.str (⟨#[93]⟩:ByteArray)] (zR a j b i c d e f) (.tup []) (zR a m b n c d e f)∧
 R (dB false) (zR a m b n c d e f))
 (R (dB (decide (i=0))) (zR a j b i c d e f)))
 (∃o:ByteArray,yH yV [.ptr 1000 0] (zR a g b h c d e f) (.str o) (zR a g b h c d e f)∧
 zP (decide (o=(⟨#[44]⟩:ByteArray)))
 (∃p:Int,∃q:Int,yH zS [.ptr 1000 0,.str (⟨#[44]⟩:ByteArray)] (zR a g b h c d e f) (.tup []) (zR a p b q c d e f)∧
 R (dB true) (zR a p b q c d e f))
 (∃r:Int,∃s:Int,yH zS [.ptr 1000 0,.str (⟨#[93]⟩:ByteArray)] (zR a g b h c d e f) (.tup []) (zR a r b s c d e f)∧
 R (dB false) (zR a r b s c d e f)))):=by kernel_rfl
theorem dQ(a:List vL)(b c d e f:Int)(g:List zN)(h:List zE)(i:Bool):oH aW Tryz.f104 yA [.ptr 1000 0,dB i] (zR a b c d e f g h) [.ptr 1000 0] false:=oT Tryz.func104 (by kernel_rfl) Tryz.ntmps104 rfl
def ZL:wA:= {own:=[2,3],live:=[],n:=17,first:=true}
theorem U6(a:List vL)(g b h c d:Int)(e:List zN)(f:List zE)(R:pR):FH ZL Tryz.f105 [.ptr 1000 0] (zR a g b h c d e f) [.ptr 1000 0] false R=
 (∃i:Int,∃j:Int,∃k:Int,yH xH [.ptr 1000 0] (zR a g b h c d e f) (dI k) (zR a i b j c d e f)∧
 ∃l:Int,∃m:Int,∃n:Int,yH uW [.ptr 1000 0,.sl .str ([(⟨#[60,61]⟩:ByteArray),(⟨#[62,61]⟩:ByteArray),(⟨#[61,61]⟩:ByteArray),(⟨#[33,61]⟩:ByteArray)])] (zR a i b j c d e f) (dI n) (zR a l b m c d e f)∧
 ∃o:Int,∃p:Int,∃q:Int,yH yZ [.ptr 1000 0] (zR a l b m c d e f) (dI q) (zR a o b p c d e f)∧
 R (.agg [dI k,dI (yU (1+n)),dI q]) (zR a o b p c d e f)):=by kernel_rfl
theorem Uw(a:List vL)(b c d e f:Int)(g:List zN)(h:List zE):oH ZL Tryz.f105 tH [.ptr 1000 0] (zR a b c d e f g h) [.ptr 1000 0] false:=oT Tryz.func105 (by kernel_rfl) Tryz.ntmps105 rfl
def uM:wA:= {own:=[],live:=[(1,([1,3,4,5,6,7],[]))],n:=164}
def nG(a:zE)(R:xO)(b:Nat)(c:Int):Prop:=LP uM Tryz.f114 [1,1,1,0,1,0,1,1,1,1,1,1,1,0,0,1,0,0] 1 b ⟨[(1,.iptr (nV a []) 0),(3,dI (a.vars.length:Int)),(4,dI (a.consts.length:Int)),(5,dI (a.rows.length:Int)),(6,dI (a.lits.length:Int)),(7,dI c)],[]⟩ (zQ 1 (sK uM Tryz.f114 [1,1,1,0,1,0,1,1,1,1,1,1,1,0,1] 0 (zQ 0 (sK uM Tryz.f114 [1,1,1,1] 0 (eK Tryz.f114 R)))))
def Ux(a:zE)(R:xO)(b:Nat)(c:Int):Prop:=LP uM Tryz.f114 [1,1,1,0,1,0,1,1,1,1,1,1,1,0,0,1,0,0] 1 b ⟨[(1,.iptr (nV a []) 0),(3,dI (a.vars.length:Int)),(4,dI (a.consts.length:Int)),(5,dI (a.rows.length:Int)),(6,dI (a.lits.length:Int)),(7,dI c)],[]⟩ (zQ 1 (sK uM Tryz.f114 [1,1,1,0,1,0,1,1,1,1,1,1,1,0,1] 0 (zQ 0 (sK uM Tryz.f114 [1,1,1,1] 0 (eK Tryz.f114 R)))))
theorem dU(a:zE)(R:xO)(c:Nat)(b:Int):nG a R (c+1) b=
 (zP (decide (b<(a.rows.length:Int)))
 (vW b a.rows.length=true∧
 zP (!decide (((yO (.list .int) a.rows b.toNat).length:Int)=(a.vars.length:Int)))
 (R (dB false))
 (nG a R c (yU (b+1))))
 (zP (decide (1≤(a.vars.length:Int)))
 (zP (decide ((a.consts.length:Int)=0))
 (R (dB (decide ((a.lits.length:Int)=0))))
 (R (dB false)))
 (R (dB false)))):=by kernel_rfl
theorem Sc(a:zE)(R:xO):FD uM Tryz.f114 [dC a] R=
 (zP (decide (3<a.kind))
 (zP (!decide (a.n=0))
 (R (dB false))
 (zP (decide (a.kind=1))
 (zP (decide (1≤(a.vars.length:Int)))
 (zP (decide ((a.consts.length:Int)=(a.vars.length:Int)))
 (zP (decide ((a.rows.length:Int)=0))
 (R (dB (decide ((a.lits.length:Int)=0))))
 (R (dB false)))
 (R (dB false)))
 (R (dB false)))
 (zP (decide (a.kind=2))
 (zP (decide (1≤(a.vars.length:Int)))
 (zP (decide ((a.consts.length:Int)=(a.vars.length:Int)))
 (zP (decide ((a.rows.length:Int)=0))
 (R (dB (decide ((a.lits.length:Int)=0))))
 (R (dB false)))
 (R (dB false)))
 (R (dB false)))
 (zP (decide (a.kind=3))
 (zP (decide (1≤(a.vars.length:Int)))
 (zP (decide ((a.consts.length:Int)=(a.vars.length:Int)))
 (zP (decide ((a.rows.length:Int)=0))
 (R (dB (decide ((a.lits.length:Int)=0))))
 (R (dB false)))
 (R (dB false)))
 (R (dB false)))
 (zP (decide (a.kind=4))
 (zP (decide (1≤(a.vars.length:Int)))
 (zP (decide ((a.consts.length:Int)=0))
 (zP (decide ((a.rows.length:Int)=0))
 (R (dB (decide ((a.lits.length:Int)=0))))
 (R (dB false)))
 (R (dB false)))
 (R (dB false)))
 (zP (decide (a.kind=5))
 (zP (decide ((a.vars.length:Int)=2))
 (zP (decide (1≤(a.consts.length:Int)))
 (zP (decide ((a.rows.length:Int)=0))
 (R (dB (decide ((a.lits.length:Int)=0))))
 (R (dB false)))
 (R (dB false)))
 (R (dB false)))
 (zP (decide (a.kind=6))
 (∃n1,nG a R n1 0)
 (zP (decide (a.kind=7))
 (zP (decide ((a.vars.length:Int)=3))
 (zP (decide ((a.consts.length:Int)=0))
 (zP (decide ((a.rows.length:Int)=0))
 (R (dB (decide ((a.lits.length:Int)=0))))
 (R (dB false)))
 (R (dB false)))
 (R (dB false)))
 (zP (decide (a.kind=8))
 (zP (decide (2≤(a.vars.length:Int)))
 (zP (decide ((a.consts.length:Int)=0))
 (zP (decide ((a.rows.length:Int)=0))
 (R (dB (decide ((a.lits.length:Int)=0))))
 (R (dB false)))
 (R (dB false)))
 (R (dB false)))
 (zP (decide (a.kind=9))
 (zP (decide ((a.vars.length:Int)=0))
 (zP (decide ((a.consts.length:Int)=0))
 (R (dB (decide ((a.rows.length:Int)=0))))
 (R (dB false)))
 (R (dB false)))
 (zP (decide ((a.vars.length:Int)=1))
 (zP (decide ((a.consts.length:Int)=0))
 (zP (decide ((a.rows.length:Int)=0))
 (R (dB (decide ((a.lits.length:Int)=1))))
 (R (dB false)))
 (R (dB false)))
 (R (dB false)))))))))))))
 (zP (decide (a.kind=1))
 (zP (decide (1≤(a.vars.length:Int)))
 (zP (decide ((a.consts.length:Int)=(a.vars.length:Int)))
 (zP (decide ((a.rows.length:Int)=0))
 (R (dB (decide ((a.lits.length:Int)=0))))
 (R (dB false)))
 (R (dB false)))
 (R (dB false)))
 (zP (decide (a.kind=2))
 (zP (decide (1≤(a.vars.length:Int)))
 (zP (decide ((a.consts.length:Int)=(a.vars.length:Int)))
 (zP (decide ((a.rows.length:Int)=0))
 (R (dB (decide ((a.lits.length:Int)=0))))
 (R (dB false)))
 (R (dB false)))
 (R (dB false)))
 (zP (decide (a.kind=3))
 (zP (decide (1≤(a.vars.length:Int)))
 (zP (decide ((a.consts.length:Int)=(a.vars.length:Int)))
 (zP (decide ((a.rows.length:Int)=0))
 (R (dB (decide ((a.lits.length:Int)=0))))
 (R (dB false)))
 (R (dB false)))
 (R (dB false)))
 (zP (decide (a.kind=4))
 (zP (decide (1≤(a.vars.length:Int)))
 (zP (decide ((a.consts.length:Int)=0))
 (zP (decide ((a.rows.length:Int)=0))
 (R (dB (decide ((a.lits.length:Int)=0))))
 (R (dB false)))
 (R (dB false)))
 (R (dB false)))
 (zP (decide (a.kind=5))
 (zP (decide ((a.vars.length:Int)=2))
 (zP (decide (1≤(a.consts.length:Int)))
 (zP (decide ((a.rows.length:Int)=0))
 (R (dB (decide ((a.lits.length:Int)=0))))
 (R (dB false)))
 (R (dB false)))
 (R (dB false)))
 (zP (decide (a.kind=6))
 (∃n1_2,Ux a R n1_2 0)
 (zP (decide (a.kind=7))
 (zP (decide ((a.vars.length:Int)=3))
 (zP (decide ((a.consts.length:Int)=0))
 (zP (decide ((a.rows.length:Int)=0))
 (R (dB (decide ((a.lits.length:Int)=0))))
 (R (dB false)))
 (R (dB false)))
 (R (dB false)))
 (zP (decide (a.kind=8))
 (zP (decide (2≤(a.vars.length:Int)))
 (zP (decide ((a.consts.length:Int)=0))
 (zP (decide ((a.rows.length:Int)=0))
 (R (dB (decide ((a.lits.length:Int)=0))))
 (R (dB false)))
 (R (dB false)))
 (R (dB false)))
 (zP (decide (a.kind=9))
 (zP (decide ((a.vars.length:Int)=0))
 (zP (decide ((a.consts.length:Int)=0))
 (R (dB (decide ((a.rows.length:Int)=0))))
 (R (dB false)))
 (R (dB false)))
 (zP (decide ((a.vars.length:Int)=1))
 (zP (decide ((a.consts.length:Int)=0))
 (zP (decide ((a.rows.length:Int)=0))
 (R (dB (decide ((a.lits.length:Int)=1))))
 (R (dB false)))
 (R (dB false)))
 (R (dB false))))))))))))):=by kernel_rfl
theorem U7(a:zE):wC uM Tryz.f114 mE [dC a]:=wJ Tryz.func114 (by kernel_rfl) Tryz.ntmps114 rfl
def XV:wA:= {own:=[],live:=[],n:=5}
theorem Qi(a:Int)(R:xO):FD XV Tryz.f115 [dI a] R=
 (xK xM [dI a,dI (-1000),dI 1000] .bool λb=>
 R (dB b)):=by kernel_rfl
theorem Rh(a:Int):wC XV Tryz.f115 rH [dI a]:=wJ Tryz.func115 (by kernel_rfl) Tryz.ntmps115 rfl
def Xr:wA:= {own:=[],live:=[],n:=21}
theorem Ri(b:zG)(a:zC)(R:xO):FD Xr Tryz.f116 [dM b,dL a] R=
 (xK xM [dI a.var,dI 0,dI (yU ((b.vars.length:Int)-1))] .bool λc=>
 zP (!c)
 (R (dI 5))
 (xK xM [dI a.op,dI 1,dI 4] .bool λd=>
 zP (!d)
 (R (dI 7))
 (xK rH [dI a.n] .bool λe=>
 zP (!e)
 (R (dI 3))
 (R (dI 0))))):=by kernel_rfl
theorem Sd(a:zG)(b:zC):wC Xr Tryz.f116 lG [dM a,dL b]:=wJ Tryz.func116 (by kernel_rfl) Tryz.ntmps116 rfl
end Go.Proofs.YtogdmcebojiojaaGreatDoor
