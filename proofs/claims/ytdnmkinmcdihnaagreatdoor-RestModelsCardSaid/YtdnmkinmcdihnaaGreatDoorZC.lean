/- Texts of this proof, one behind the other: nothing is handed in but what is proved here; no condition. -/
import Derived.Test.YtdnmkinmcdihnaaGreatDoorProg
import Derived.Shelf.Strings.Builder1
import Derived.Shelf.Strings.Builder2
import Derived.Shelf.Strings.OnBuilder
import Derived.Shelf.Small.Bits
import Derived.Shelf.Small.Strs
import Derived.Shelf.Small.Wraps
import Derived.Shelf.Strings.BuilderF
import Derived.Shelf.Strings.BuilderK
import Derived.Shelf.Strings.Builder2Cap
import Derived.Shelf.Strconv.Atoi
import Derived.Shelf.Strconv.Itoa0
import Derived.Shelf.Strconv.Itoa1
import Derived.Shelf.LaysM
import Derived.Shelf.Strconv.Itoa2
import Derived.Shelf.Strconv.Itoa3
import Derived.Shelf.Strings.Search1
import Derived.Shelf.Sort.Plain
import Derived.Shelf.Strings.Prefix
import Derived.Shelf.Strings.BuilderCap
import Derived.Shelf.Slices.Turned
import Derived.Shelf.Slices.Equal
import Derived.Ground.Names2Prog
import Derived.Shelf.Slices.Clone
import Derived.Shelf.Slices.CompactI
import Derived.Shelf.Slices.SearchI
import Derived.Shelf.Slices.Cells
import Derived.Shelf.Slices.In.SortNone
import Derived.Shelf.Slices.Empties2
import Derived.Ground.SlgnProg
import Derived.Shelf.SlicesE.Clone
import Derived.Test.YtdnmkinmcdihnaaGreatDoorZB
set_option linter.unusedSectionVars false
set_option linter.unusedVariables false
set_option linter.unusedSimpArgs false
namespace Go.Proofs.YtdnmkinmcdihnaaGreatDoor
open Go.Proofs.Tryz
def Nk(n:Nat):Bool:=decide (97<=n)&&decide (n<=122)
def isDN(n:Nat):Bool:=decide (48<=n)&&decide (n<=57)
def isL(c:UInt8):Bool:=Nk c.toNat
def isD(c:UInt8):Bool:=isDN c.toNat
def isW(c:UInt8):Bool:=isL c||isD c
def U3:AcY->Bool
 |a::b::_=>(a==46&&b==46)||(a==60&&b==61)||(a==62&&b==61)||(a==61&&b==61)||(a==33&&b==61)
 |_=>false
def Uy(c:UInt8):Bool:=c==91||c==93||c==59||c==58||c==44||c==45
def xO:AcY->Nat×Nat
 |[]=>(0,0)
 |c::r=>
  if isL c then(1,1+(r.takeWhile isW).length)
  else if isD c then(2,1+(r.takeWhile isD).length)
  else if U3 (c::r)then(3,2)
  else if Uy c then(3,1)
  else(0,0)
def Zu(c:UInt8):Bool:=c==32||c==9||c==10
def bs(l:AcY):AcL:=⟨l.toArray⟩
def nA(k n:Nat)(c:UInt8):Int:=
 if k=0 then 1 else if k=1/\n>12\/k=2/\n>4 then 2 else if k=2/\n>1/\c=48 then 1 else 0
def rG:AcY->Nat->Bool->AcX->Nat->AcX×Int×Int
 |[],_,_,out,_=>(out,0,0)
 |_::r,i,note,out,k+1=>rG r (i+1) note out k
 |c::r,i,note,out,0=>
  if note||c==37 then rG r (i+1) (c !=10) out 0
  else if Zu c then rG r (i+1) false out 0
  else
   let kn:=xO (c::r)
   if nA kn.1 kn.2 c=0 then rG r (i+1) false (out++[⟨kn.1,i,bs ((c::r).take kn.2)⟩]) (kn.2-1)
   else([],i,nA kn.1 kn.2 c)
def pM(l:AcY):AcX×Int×Int:=if l.length>4000 then([],0,2)else rG l 0 false [] 0
theorem MO:∀(l:AcY) (i:Nat) (note:Bool) (out:AcX) (k:Nat),k<=l.length->rG l i note out k=rG (l.drop k) (i+k) note out 0
 |l,i,note,out,0,_=>by simp
 |[],i,note,out,k+1,h=>by simp at h
 |c::r,i,note,out,k+1,h=>by
  rw[rG,MO r (i+1) note out k (by simpa using h),Abu]
  congr 1;omega
theorem DP:∀(l:AcY),(xO l).2<=l.length
 |[]=>by simp[xO]
 |c::r=>by
  have h1:(r.takeWhile isW).length<=r.length:=(List.takeWhile_sublist _).length_le;have h2:(r.takeWhile isD).length<=r.length:=(List.takeWhile_sublist _).length_le;simp only[xO];split
  ·simp;omega
  ·split
   ·simp;omega
   ·split
    ·rename_i h
     cases r with
     |nil=>simp[U3]at h
     |cons d r=>simp
    ·split<;>simp
theorem Gk(l:AcY)(h:(xO l).1≠0):1<=(xO l).2:=by
 cases l with
 |nil=>simp[xO]at h
 |cons c r=>
  revert h;simp only[xO];split
  ·simp
  ·split
   ·simp
   ·split
    ·simp
    ·split<;>simp
theorem zcY(l:AcY):(xO l).1<=3:=by
 cases l with
 |nil=>simp[xO]
 |cons c r=>
  simp only[xO];split
  ·simp
  ·split
   ·simp
   ·split
    ·simp
    ·split<;>simp
def uS:AcY->Bool->Nat
 |[],_=>0
 |c::r,true=>if c==10 then 1+uS r false else 1+uS r true
 |c::r,false=>if c==37 then 1+uS r true else if Zu c then 1+uS r false else 0
theorem U4:∀(l:AcY) (note:Bool),uS l note<=l.length
 |[],_=>by simp[uS]
 |c::r,true=>by
  have h1:=U4 r false;have h2:=U4 r true;unfold uS;split<;>simp<;>omega
 |c::r,false=>by
  have h1:=U4 r false;have h2:=U4 r true;unfold uS;split
  ·simp;omega
  ·split<;>simp;omega
theorem eR:∀(l:AcY) (i:Nat) (note:Bool) (out:AcX),rG l i note out 0=rG (l.drop (uS l note)) (i+uS l note) false out 0
 |[],i,note,out=>by simp[uS,rG]
 |c::r,i,true,out=>by
  rw[rG,As (by simp),uS]
  by_cases h:c=10
  ·subst h
   rw[eR r (i+1) _ out,As (by simp)]
   simp only[bne_self_eq_false,Abn 1,Abu]
   congr 1;omega
  ·have hb:(c !=10)=true:=by simpa using h
   rw[An (by simpa using h),hb,eR r (i+1) true out]
   simp only[Abn 1,Abu]
   congr 1;omega
 |c::r,i,false,out=>by
  by_cases h:c=37
  ·subst h
   rw[rG,As (by simp),uS,As (by simp),eR r (i+1) _ out]
   have:((37:UInt8) !=10)=true:=by decide
   simp only[this,Abn 1,Abu]
   congr 1;omega
  ·by_cases hb:Zu c=true
   ·rw[rG,An (by simpa using h),As hb,uS,An (by simpa using h),As hb,eR r (i+1) false out]
    simp only[Abn 1,Abu]
    congr 1;omega
   ·have:uS (c::r) false=0:=by rw[uS,An (by simpa using h),An hb]
    rw[this];simp
theorem Yu:∀(l:AcY) (note:Bool) (c:UInt8) (r:AcY),l.drop (uS l note)=c::r->c≠37/\Zu c=false
 |[],note,c,r,h=>by simp[uS]at h
 |a::l,true,c,r,h=>by
  unfold uS at h
  split at h
  ·rw[Abn,Abu]at h;exact Yu l false c r h
  ·rw[Abn,Abu]at h;exact Yu l true c r h
 |a::l,false,c,r,h=>by
  unfold uS at h
  split at h
  ·rw[Abn,Abu]at h;exact Yu l true c r h
  ·split at h
   ·rw[Abn,Abu]at h;exact Yu l false c r h
   ·rename_i h1 h2
    simp at h
    obtain⟨rfl,rfl⟩:=h;exact⟨by simpa using h1,by simpa using h2⟩
def VZ(kind:Int)(l:AcY):Bool:=
 match l with
 |[]=>false
 |c::r=>decide (l.length<=4000)&&decide (((xO (c::r)).1:Int)=kind)&&decide ((xO (c::r)).2=l.length)&&decide (nA (xO (c::r)).1 (xO (c::r)).2 c=0)
end Go.Proofs.YtdnmkinmcdihnaaGreatDoor
namespace Go.Proofs.YtdnmkinmcdihnaaGreatDoor
open Go.Proofs.Tryz
open Go.RowKit
def gK(n a b:Int):Bool:=decide (a<=n)&&decide (n<=b)
theorem zod{n a b:Int}:gK n a b=true↔a<=n/\n<=b:=by simp[gK]
theorem pI{n a b:Int}:gK n a b=false↔n<a\/b<n:=by
 unfold gK;rw[Bool.and_eq_false_iff];simp
def MP:Ac1:=[bs [118,97,114],bs [99,111,110],bs [115,111,108,118,101],bs [108,101],bs [101,113],bs [110,101],bs [100,105,102,102,101,114],bs [101,108,101,109,101,110,116],bs [116,97,98,108,101],bs [116,105,109,101,115],bs [109,97,120],bs [99,108,97,117,115,101],bs [105,102,102],bs [97,110,121],bs [108,101,97,115,116],bs [109,111,115,116]]
def yG(s:AcL):Bool:=VZ 1 s.data.toList&& !MP.any (λu=>u.toList==s.toList)
def wM{α:Type}(f:Nat->α->Int):Nat->List α->Int
 |_,[]=>0
 |i,x::xs=>if f i x=0 then wM f (i+1) xs else f i x
theorem zhc{α:Type}{f:Nat->α->Int}{i k:Nat}{xs:List α}{E:Int}(hk:xs.length<=k)(h:wM f i (xs.drop k)=E):E=0:=by
 rw[Acv hk]at h;exact h.symm
theorem ze7{α:Type}{f:Nat->α->Int}{i k:Nat}{xs:List α}{E:Int}(hk:k<xs.length)(h:wM f i (xs.drop k)=E)(h0:f i xs[k]≠0):E=f i xs[k]:=by
 rw[Aa4 hk,wM,An h0]at h;exact h.symm
theorem ze8{α:Type}{f:Nat->α->Int}{i k:Nat}{xs:List α}{E:Int}(hk:k<xs.length)(h:wM f i (xs.drop k)=E)(h0:f i xs[k]=0):wM f (i+1) (xs.drop (k+1))=E:=by
 rw[Aa4 hk,wM,As h0]at h;exact h
theorem QF{α:Type}{f:Nat->α->Int}:∀(xs:List α) (i:Nat),wM f i xs=0->∀(j:Nat) (hj:j<xs.length),f (i+j) xs[j]=0
 |[],i,_,j,hj=>At hj (Aba _)
 |x::xs,i,h,j,hj=>by
  rw[wM]at h
  by_cases h0:f i x=0
  ·rw[As h0]at h
   cases j with
   |zero=>exact h0
   |succ j=>have:=QF xs (i+1) h j (by simpa using hj);rw[show i+(j+1)=i+1+j by omega];simpa using this
  ·rw[An h0]at h;exact At h h0
def AB(ahead:AcU)(v:zO):Int:=
 if yG v.name=false then 1
 else if(ahead.any λu=>u.name.toList==v.name.toList)=true then 6
 else if(!gK v.lo (-50) 50|| !gK v.hi (-50) 50||decide (v.hi<v.lo))=true then 3
 else if 6<=v.hi-v.lo then 2 else 0
def Rm(l:AcU):Int:=wM (λi v=>AB (l.take i) v) 0 l
def farB(n:Int):Bool:= !gK n (-1000) 1000
def qQ(nv:Nat)(v:Int):Bool:= !gK v 0 ((nv:Int)-1)
def eS(nv:Nat)(l:zA):Int:=if qQ nv l.var=true then 5 else if gK l.op 1 4=false then 7 else if farB l.n=true then 3 else 0
def V0(c:zF):Bool:=
 let v:=c.vars.length;let k:=c.consts.length;let r:=c.rows.length;let l:=c.lits.length
 if 3<c.kind/\c.n≠0 then false
 else if c.kind=1\/c.kind=2\/c.kind=3 then decide (1<=v)&&decide (k=v)&&decide (r=0)&&decide (l=0)
 else if c.kind=4 then decide (1<=v)&&decide (k=0)&&decide (r=0)&&decide (l=0)
 else if c.kind=5 then decide (v=2)&&decide (1<=k)&&decide (r=0)&&decide (l=0)
 else if c.kind=6 then(c.rows.all λr=>decide (r.length=v))&&decide (1<=v)&&decide (k=0)&&decide (l=0)
 else if c.kind=7 then decide (v=3)&&decide (k=0)&&decide (r=0)&&decide (l=0)
 else if c.kind=8 then decide (2<=v)&&decide (k=0)&&decide (r=0)&&decide (l=0)
 else if c.kind=9 then decide (v=0)&&decide (k=0)&&decide (r=0)
 else decide (v=1)&&decide (k=0)&&decide (r=0)&&decide (l=1)
def QG(c:zF):Bool:=decide (4<c.vars.length)||decide (4<c.lits.length)||decide (8<c.consts.length)||decide (20<c.rows.length)
def opE(l:zA):Int:=if gK l.op 1 4=false then 7 else if farB l.n=true then 3 else 0
def Uz(nv:Nat)(c:zF):Int:=
 if gK c.kind 1 10=false then 7
 else if QG c=true then 2
 else if V0 c=false then 1
 else if(c.vars.any (qQ nv)||c.lits.any λl=>qQ nv l.var)=true then 5
 else if(c.consts.any farB||farB c.n||c.rows.any λr=>r.any farB)=true then 3
 else wM (λ_ l=>opE l) 0 c.lits
def XX(m:zE):Int:=
 if gK m.goal 0 2=false then 7 else if m.goal=0/\m.var≠0 then 1 else if m.goal≠0/\qQ m.vars.length m.var=true then 5 else 0
def yY(m:zE):Int:=
 if m.vars.length=0 then 1
 else if 6<m.vars.length\/8<m.cons.length then 2
 else if Rm m.vars≠0 then Rm m.vars
 else if wM (λ_ c=>Uz m.vars.length c) 0 m.cons≠0 then wM (λ_ c=>Uz m.vars.length c) 0 m.cons
 else XX m
end Go.Proofs.YtdnmkinmcdihnaaGreatDoor
namespace Go.Proofs.YtdnmkinmcdihnaaGreatDoor
open Go.Proofs.Tryz
open Go.RowKit
theorem bY(n:Nat)(hn:n<256)(w:World):Calls prog 127 #[.int .u8 n] w λe w'=>e=.returned (.bool (Nk n))/\w=w':=by
 go_enter func127,ntmps127
 go_wp2
 all_goals go_ret
 all_goals exact⟨zez (by rw[AaO];simp[Nk];try omega),rfl⟩
theorem WF(n:Nat)(hn:n<256)(w:World):Calls prog 130 #[.int .u8 n] w λe w'=>e=.returned (.bool (isDN n))/\w=w':=by
 go_enter func130,ntmps130
 go_wp2
 all_goals go_ret
 all_goals exact⟨zez (by rw[AaO];simp[isDN];try omega),rfl⟩
theorem zoe(n:Nat)(hn:n<256)(w:World):Calls prog 129 #[.int .u8 n] w λe w'=>e=.returned (.bool (Nk n||isDN n))/\w=w':=by
 cases hl:Nk n with
 |true=>
  go_enter func129,ntmps129
  go_wp2_with (go_at_call 127;refine(bY _ hn _).mono ?_;rintro e w' ⟨rfl,rfl⟩)
  go_ret
  exact⟨by simp,rfl⟩
 |false=>
  go_enter func129,ntmps129
  go_wp2_with (first|(go_at_call 127;refine(bY _ hn _).mono ?_;rintro e w' ⟨rfl,rfl⟩)|(go_at_call 130;refine(WF _ hn _).mono ?_;rintro e w' ⟨rfl,rfl⟩))
  go_ret
  exact⟨by simp,rfl⟩
theorem L2{c:UInt8}{k:Nat}(hk:k<256)(h:c=UInt8.ofNat k):((c.toNat:Int)==(k:Int))=true:=by
 subst h;simp;omega
theorem V1{c:UInt8}{k:Nat}(hk:k<256)(h:c≠UInt8.ofNat k):((c.toNat:Int)==(k:Int))=false:=by
 rw[beq_eq_false_iff_ne];intro e;exact h (by rw[<-UInt8.toNat_inj];simp;omega)
theorem QH{c:UInt8}{r:AcY}{l:AcY}{i n:Nat}(hd:l.drop i=c::l.drop (i+1))(h37:c≠37)(hb:Zu c=true)(h:i+uS (l.drop i) false=n):i+1+uS (l.drop (i+1)) false=n:=by
 rw[hd,uS,An (by simpa using h37),As hb]at h;omega
theorem zhd{c:UInt8}{l:AcY}{i n:Nat}(hd:l.drop i=c::l.drop (i+1))(h37:c≠37)(hb:Zu c=false)(h:i+uS (l.drop i) false=n):i=n:=by
 rw[hd,uS,An (by simpa using h37),An (by simp[hb])]at h;omega
theorem zhe{l:AcY}{i n:Nat}(hd:l.drop i=37::l.drop (i+1))(h:i+uS (l.drop i) false=n):i+uS (l.drop i) true=n:=by
 rw[hd,uS,As (by simp)]at h
 rw[hd,uS,An (by decide)];exact h
theorem zof{c:UInt8}{l:AcY}{i n:Nat}(hd:l.drop i=c::l.drop (i+1))(h10:c≠10)(h:i+uS (l.drop i) true=n):i+1+uS (l.drop (i+1)) true=n:=by
 rw[hd,uS,An (by simpa using h10)]at h;omega
theorem zlV{l:AcY}{i n:Nat}(hd:l.drop i=10::l.drop (i+1))(h:i+uS (l.drop i) true=n):i+uS (l.drop i) false=n:=by
 rw[hd,uS,As (by simp)]at h
 rw[hd,uS,An (by decide),As (by decide)];exact h
theorem zba{l:AcY}{i n:Nat}(hl:l.length<=i)(note:Bool)(h:i+uS (l.drop i) note=n):i=n/\i+uS (l.drop i) false=n:=by
 rw[Ab6 hl]at h⊢
 simp[uS]at h⊢;exact h
set_option maxHeartbeats 1000000 in
theorem ze9(g:Nat)(s:AcL)(i0:Nat)(w:World)(hs:s.size<=4000)(h0:i0<=s.size)(hb:wR w g 148 #[.string s,.int .i64 i0]):
  Calls prog 76 #[.pointer (some ⟨g,0,none⟩)] w λe w'=>e=.returned (.tuple #[])/\
   wR w' g 148 #[.string s,.int .i64 ↑(i0+uS (s.data.toList.drop i0) false)]/\w.grownBy w' (some g):=by
 go_enter func76,ntmps76
 go_wp2
 go_loopg [] (s.size) (λk wr=>∃i:Nat,i<=s.size/\s.size-i<=k/\Hid (wR wr g 148 #[.string s,.int .i64 i])/\Hid (i+uS (s.data.toList.drop i) false=i0+uS (s.data.toList.drop i0) false)/\w.grownBy wr (some g))
 case atStart=>exact⟨i0,h0,by omega,hb,rfl,World.grownBy.refl _ _⟩
 case round=>
  obtain⟨i,hi,hk,hB,hE,hG⟩:=hrel;obtain⟨wo,rfl⟩:∃wo:World,wo=wr:=⟨_,rfl⟩;have c0:wo.cell? ⟨g,0,none⟩=some (.string s):=hB.out.cell 0;have c1:wo.cell? ⟨g,1,none⟩=some (.int .i64 i):=hB.out.cell 1;have f1:wo.frozen? ⟨g,1,none⟩=false:=hB.out.frozen 1;clear h0 hb
  by_cases hlt:i<s.size
  ·have hlt':(i:Int)<(s.size:Int):=by omega
   have hd:=Lib.hid (WC s i hlt)
   by_cases e37:s[i]=37
   ·have y37:=L2 (k:=37) (by omega) e37
    have n32:=V1 (c:=s[i]) (k:=32) (by omega) (by rw[e37];decide)
    have n9:=V1 (c:=s[i]) (k:=9) (by omega) (by rw[e37];decide)
    have n10:=V1 (c:=s[i]) (k:=10) (by omega) (by rw[e37];decide)
    have E37:=Lib.hid e37;clear e37
    go_wp2
    go_quiet (fail)
    go_wp2
    go_quiet (fail)
    go_wp2
    go_loopg [] (s.size) (λk wq=>∃j:Nat,i<=j/\j<=s.size/\s.size-j<=k/\Hid (wR wq g 148 #[.string s,.int .i64 j])/\Hid (j+uS (s.data.toList.drop j) true=i0+uS (s.data.toList.drop i0) false)/\w.grownBy wq (some g))
    case atStart=>exact⟨i,by omega,hi,by omega,hB.out.drewN _,zhe (by rw[hd.out,E37.out]) hE.out,vI hG _⟩
    case round=>
     obtain⟨j,hij,hj,hk2,hB2,hE2,hG2⟩:=hrel;have d0:wr.cell? ⟨g,0,none⟩=some (.string s):=hB2.out.cell 0;have d1:wr.cell? ⟨g,1,none⟩=some (.int .i64 j):=hB2.out.cell 1;have d2:wr.frozen? ⟨g,1,none⟩=false:=hB2.out.frozen 1;clear hB hE hG c0 c1 f1
     by_cases hjl:j<s.size
     ·have hjl':(j:Int)<(s.size:Int):=by omega
      have hd2:=Lib.hid (WC s j hjl)
      by_cases e10:s[j]=10
      ·have y10':((s[j].toNat:Int) !=10)=false:=by rw[e10];decide
       have hne:i≠j:=by
        rintro rfl;have:=E37.out;rw[e10]at this
        exact At this (by decide)
       have E10:=Lib.hid e10;clear e10 y37 n32 n9 n10
       go_wp2
       go_quiet (fail)
       go_wp2
       go_roundg (s.size-j)
       case measure=>omega
       case rel=>exact⟨j,by omega,by omega,hB2.out.drewN _,zlV (by rw[hd2.out,E10.out]) hE2.out,vI hG2 _⟩
      ·have y10':((s[j].toNat:Int) !=10)=true:=by
        rw[bne_iff_ne];intro e;exact e10 (by rw[<-UInt8.toNat_inj];simp;omega)
       have E10:=Lib.hid e10;clear e10 y37 n32 n9 n10
       go_wp2
       go_quiet (fail)
       go_wp2
       go_roundg (s.size-(j+1))
       case measure=>omega
       case rel=>exact⟨j+1,by omega,by omega,by omega,(hB2.out.drewN _).set_ 1 _,zof hd2.out E10.out hE2.out,tR (vI hG2 _) (.inl rfl) _⟩
     ·have hjl':decide ((j:Int)<(s.size:Int))=false:=by simp;omega
      clear y37 n32 n9 n10
      go_wp2
      go_quiet (fail)
      go_wp2
      go_roundg (s.size-j)
      case measure=>omega
      case rel=>exact⟨j,by omega,by omega,hB2.out.drewN _,(zba (by simpa using hjl) true hE2.out).2,vI hG2 _⟩
   ·have n37:=V1 (k:=37) (by omega) e37
    have N37:=Lib.hid e37;clear e37
    by_cases e32:s[i]=32
    ·have y32:=L2 (k:=32) (by omega) e32
     have hbl:Zu s[i]=true:=by simp[Zu,e32]
     have BL:=Lib.hid hbl;clear e32 n37 hbl
     go_wp2
     go_quiet (fail)
     go_wp2
     go_quiet (fail)
     go_wp2
     go_roundg (s.size-(i+1))
     case measure=>omega
     case rel=>exact⟨i+1,by omega,by omega,(hB.out.drewN _).set_ 1 _,QH (r:=[]) hd.out N37.out BL.out hE.out,tR (vI hG _) (.inl rfl) _⟩
    ·have n32:=V1 (k:=32) (by omega) e32
     by_cases e9:s[i]=9
     ·have y9:=L2 (k:=9) (by omega) e9
      have hbl:Zu s[i]=true:=by simp[Zu,e9]
      have BL:=Lib.hid hbl;clear e9 e32 n37 hbl
      go_wp2
      go_quiet (fail)
      go_wp2
      go_quiet (fail)
      go_wp2
      go_roundg (s.size-(i+1))
      case measure=>omega
      case rel=>exact⟨i+1,by omega,by omega,(hB.out.drewN _).set_ 1 _,QH (r:=[]) hd.out N37.out BL.out hE.out,tR (vI hG _) (.inl rfl) _⟩
     ·have n9:=V1 (k:=9) (by omega) e9
      by_cases e10:s[i]=10
      ·have y10:=L2 (k:=10) (by omega) e10
       have hbl:Zu s[i]=true:=by simp[Zu,e10]
       have BL:=Lib.hid hbl;clear e10 e9 e32 n37 hbl
       go_wp2
       go_quiet (fail)
       go_wp2
       go_quiet (fail)
       go_wp2
       go_roundg (s.size-(i+1))
       case measure=>omega
       case rel=>exact⟨i+1,by omega,by omega,(hB.out.drewN _).set_ 1 _,QH (r:=[]) hd.out N37.out BL.out hE.out,tR (vI hG _) (.inl rfl) _⟩
      ·have n10:=V1 (k:=10) (by omega) e10
       have hbl:Zu s[i]=false:=by simp[Zu,e10,e9,e32]
       have BL:=Lib.hid hbl;clear e10 e9 e32 hbl
       go_wp2
       go_quiet (fail)
       go_wp2
       go_quiet (fail)
       go_wp2
       have hfin:=zhd hd.out N37.out BL.out hE.out;rw[<-hfin];refine bodyPost_ret (results_none rfl _ _ _) rfl ?_;exact⟨rfl,hB.out.drewN _,vI hG _⟩
  ·have hlt':¬(i:Int)<(s.size:Int):=by omega
   go_wp2
   go_quiet (fail)
   go_wp2
   have hfin:=(zba (by simpa using hlt) false hE.out).1
   rw[<-hfin]
   go_end0
   exact⟨rfl,hB.out.drewN _,vI hG _⟩
end Go.Proofs.YtdnmkinmcdihnaaGreatDoor
namespace Go.Proofs.YtdnmkinmcdihnaaGreatDoor
open Go.Proofs.Tryz
open Go.RowKit
def zhf{α:Type}(p:α->Bool)(xs:List α):Int:=match xs.findIdx? p with|some i=>i|none=> -1
theorem zog{α:Type}{p:α->Bool}{xs:List α}{k:Nat}(hk:k<xs.length)(h:∀j (hj:j<k),p (xs[j]'(by omega))=false)(hp:p xs[k]=true):zhf p xs=k:=by
 unfold zhf
 have:xs.findIdx? p=some k:=by
  rw[List.findIdx?_eq_some_iff_getElem];exact⟨hk,hp,λj hj=>by simp[h j hj]⟩
 rw[this]
theorem zlW{α:Type}{p:α->Bool}{xs:List α}(h:∀j (hj:j<xs.length),p xs[j]=false):zhf p xs= -1:=by
 unfold zhf
 have:xs.findIdx? p=none:=by
  rw[List.findIdx?_eq_none_iff];intro x hx;obtain⟨j,hj,rfl⟩:=Aas hx;exact h j hj
 rw[this]
theorem zoh{α:Type}(p:α->Bool)(xs:List α):decide (0<=zhf p xs)=xs.any p:=by
 unfold zhf;rw[AaO];cases h:xs.findIdx? p with
 |none=>
  rw[List.findIdx?_eq_none_iff]at h
  simp only[decide_eq_true_eq,AaI];constructor
  ·intro h';omega
  ·rintro⟨x,hx,hp⟩;simp[h x hx]at hp
 |some i=>
  rw[List.findIdx?_eq_some_iff_getElem]at h
  obtain⟨hi,hp,_⟩:=h;simp only[decide_eq_true_eq,AaI];exact⟨λ_=>⟨_,AT hi,hp⟩,λ_=>by omega⟩
def zt1{α:Type}[xU α](P:AcO)(F:AcM)(lb:Array Value)(w:World)(xs:List α)(p:α->Bool):Prop:=
 ∀(W:World) (v:Value) (x:α),x∈xs->Below w.heap.size w W->Rds W v x->Calls P F (#[v]++lb) W λe W'=>e=.returned (.bool (p x))/\Below W.heap.size W W'
section
variable {w:World}{S:Nat->Prop}
end
theorem AC(F:AcM)(lb:Array Value)(eg:∀args w,(callFunc F args).run prog w=.ok (.enter F args) w)(v:Value)(xs:Ac1)(p:AcL->Bool)(w:World)(hr:Rds w v xs)(hf:zt1 prog F lb w xs p):
  Calls prog 186 #[v,.func (.func F) #[] lb] w λe w'=>e=.returned (.int .i64 (zhf p xs))/\Below w.heap.size w w':=by
 obtain⟨A,c,rfl,hsl⟩:=sM hr;have hlen:xs.length<=9223372036854775807:=Aan hsl.cap hsl.max;clear hsl
 go_enter func186,ntmps186
 go_wp2_with fail
 go_loopg [5,8] xs.length (λgg s5 s8 wr=>∃k:Nat,k<=xs.length/\xs.length-k<=gg/\s8=.int .i64 k/\Below w.heap.size w wr/\Aside (∀j (hj:j<k) (hl:j<xs.length),p xs[j]=false))
 case atStart=>exact⟨0,Is _,by omega,rfl,Below.refl _ _,λj hj=>At hj (Aba _)⟩
 case round=>
  obtain⟨k,hk,hg,rfl,hB,hN⟩:=hrel
  by_cases hlt:k<xs.length
  ·have hlt':(k:Int)<(xs.length:Int):=by omega
   obtain⟨b,o,rfl,hb,c0,q0⟩:=Mv (hr.below hB) hlt;have hcall:=hf wr (.string xs[k]) xs[k] (AT hlt) hB (zgI q0);cases hq:p xs[k]with
   |true=>
    rw[hq]at hcall
    have HC:=Lib.hid hcall;have HQ:=Lib.hid hq;have HF:=Lib.hid hf;clear hcall hq hf
    go_wp2_with (go_at_fn F;refine HC.out.mono ?_;rintro e w1 ⟨rfl,hb1⟩)
    go_ret
    exact⟨by rw[zog hlt (λj hj=>hN.out j hj (by omega)) HQ.out];rfl,LG hB hb1⟩
   |false=>
    rw[hq]at hcall
    have HC:=Lib.hid hcall;have HQ:=Lib.hid hq;have HF:=Lib.hid hf;clear hcall hq hf
    go_wp2_with (go_at_fn F;refine HC.out.mono ?_;rintro e w1 ⟨rfl,hb1⟩)
    go_roundg (xs.length-(k+1))
    case measure=>omega
    case rel=>
     refine⟨k+1,by omega,by omega,by go_num,LG hB hb1,(show Aside _ from λj hj hl=> ?_)⟩
     by_cases e:j=k
     ·subst e;exact HQ.out
     ·exact hN.out j (by omega) hl
  ·have hlt':¬(k:Int)<(xs.length:Int):=by omega
   obtain rfl:k=xs.length:=by omega
   have HF:=Lib.hid hf;clear hf
   go_wp2_with fail
   go_ret
   exact⟨by rw[zlW (λj hj=>hN.out j hj hj)];rfl,hB⟩
theorem Id(F:AcM)(lb:Array Value)(eg:∀args w,(callFunc F args).run prog w=.ok (.enter F args) w)(v:Value)(xs:Ac1)(p:AcL->Bool)(w:World)(hr:Rds w v xs)(hf:zt1 prog F lb w xs p):
  Calls prog 131 #[v,.func (.func F) #[] lb] w λe w'=>e=.returned (.bool (xs.any p))/\Below w.heap.size w w':=by
 rw[<-zoh];have HC:=Lib.hid (AC F lb eg v xs p w hr hf);clear hf hr
 go_enter func131,ntmps131
 go_wp2_with (go_at_call 186;refine HC.out.mono ?_;rintro e w1 ⟨rfl,hb1⟩)
 go_ret
 exact⟨rfl,hb1⟩
end Go.Proofs.YtdnmkinmcdihnaaGreatDoor
namespace Go.Proofs
open YtdnmkinmcdihnaaGreatDoor Go.Proofs.Tryz
open Go.Shelf
def lays156_ren:Go.Shelf.Ren:=⟨fun|156=>155|165=>203|166=>52|169=>56|240=>99|241=>233|276=>153|277=>245|n=>n,fun|31=>172|9=>9|3=>3|4=>4|0=>0|20=>20|72=>117|76=>122|70=>114|37=>115|75=>121|127=>177|164=>214|5=>5|80=>126|n=>n,fun|n=>n⟩
theorem lays156:Go.Proofs.Lays.n156 prog lays156_ren:= {
 mixed:=by kernel_rfl
 f156:=func155.trans (AS some (by kernel_rfl))
 f165:=func203.trans (AS some (by kernel_rfl))
 f166:=func52.trans (AS some (by kernel_rfl))
 f169:=func56.trans (AS some (by kernel_rfl))
 f240:=func99.trans (AS some (by kernel_rfl))
 f241:=func233.trans (AS some (by kernel_rfl))
 f276:=func153.trans (AS some (by kernel_rfl))
 f277:=func245.trans (AS some (by kernel_rfl))
 t0:=underlying0
 a0:=isAgg0
 z0:=sizeOf0
 v0:=zeroValue0
 t3:=underlying3
 a3:=isAgg3
 z3:=sizeOf3
 v3:=zeroValue3
 t4:=underlying4
 a4:=isAgg4
 z4:=sizeOf4
 v4:=zeroValue4
 t9:=underlying9
 a9:=isAgg9
 z9:=sizeOf9
 v9:=zeroValue9
 t20:=underlying20
 a20:=isAgg20
 z20:=sizeOf20
 v20:=zeroValue20
 t31:=underlying172
 a31:=isAgg172
 z31:=sizeOf172
 v31:=zeroValue172
 t37:=underlying115
 a37:=isAgg115
 z37:=sizeOf115
 v37:=zeroValue115
 t70:=underlying114
 a70:=isAgg114
 z70:=sizeOf114
 v70:=zeroValue114
 t72:=underlying117
 a72:=isAgg117
 z72:=sizeOf117
 v72:=zeroValue117
 t75:=underlying121
 a75:=isAgg121
 z75:=sizeOf121
 v75:=zeroValue121
 t76:=underlying122
 a76:=isAgg122
 z76:=sizeOf122
 v76:=zeroValue122
 t127:=underlying177
 a127:=isAgg177
 z127:=sizeOf177
 v127:=zeroValue177
 t164:=underlying214
 a164:=isAgg214
 z164:=sizeOf214
 v164:=zeroValue214}
theorem Builder_Extra_156:Builder.Extra prog lays156_ren:= {
 sizeBuilder:=by kernel_rfl
 liesBuilder:=by kernel_rfl
 t5:=underlying5
 a5:=isAgg5
 z5:=sizeOf5
 v5:=zeroValue5
 infoByte:=by kernel_rfl
 cellsByte:=by kernel_rfl
 sizeByte:=by kernel_rfl
 neB5:=by decide}
open Go.RowKit in
theorem strings_Join_none(a:Option Addr)(c:Nat)(sep:AcL)(w:World):
  Calls prog 155 #[.slice a 0 c,.string sep] w λe w'=>e=.returned (.string ⟨#[]⟩)/\w'=w:=Any.strings_Join_none lays156 Builder_Extra_156 a c sep w
open Go.RowKit in
theorem strings_Join(bk o c:Nat)(xs:Ac1)(sep:AcL)(w:World)(hcells:∀(j:Nat) x,xs[j]? =some x->w.cell? ⟨bk,o+j,none⟩=some (.string x))(hbk:bk<w.heap.size)(hN:xs.length<=140737488355328)(hcap:xs.length<=c)(hlen:(Lib.join (xs.map (·.data.toList)) sep.data.toList).length<=140737488355328):
  Calls prog 155 #[.slice (some ⟨bk,o,none⟩) xs.length c,.string sep] w λe w'=>e=.returned (.string ⟨(Lib.join (xs.map (·.data.toList)) sep.data.toList).toArray⟩)/\Below w.heap.size w w':=Any.strings_Join lays156 Builder_Extra_156 bk o c xs sep w hcells hbk hN hcap hlen
def lays137_ren:Go.Shelf.Ren:=⟨fun|137=>135|217=>188|266=>226|n=>n,fun|9=>9|5=>5|3=>3|n=>n,fun|n=>n⟩
theorem lays137:Go.Proofs.Lays.n137 prog lays137_ren:= {
 mixed:=by kernel_rfl
 f137:=func135.trans (AS some (by kernel_rfl))
 f217:=func188.trans (AS some (by kernel_rfl))
 f266:=func226.trans (AS some (by kernel_rfl))
 t3:=underlying3
 a3:=isAgg3
 z3:=sizeOf3
 v3:=zeroValue3
 t5:=underlying5
 a5:=isAgg5
 z5:=sizeOf5
 v5:=zeroValue5
 t9:=underlying9
 a9:=isAgg9
 z9:=sizeOf9
 v9:=zeroValue9}
open Go.RowKit in
theorem strings_IndexByte(s:AcL)(c:Int)(w:World):
  Calls prog 135 #[.string s,.int .u8 c] w λe w'=>e=.returned (.int .i64 (Lib.indexByte s.data.toList c.toNat.toUInt8))/\w'=w:=Any.strings_IndexByte lays137 s c w
def lays172_ren:Go.Shelf.Ren:=⟨fun|172=>189|244=>227|245=>228|247=>238|279=>239|280=>240|281=>241|282=>242|287=>247|316=>248|171=>53|205=>249|321=>251|322=>252|243=>100|246=>154|283=>199|284=>200|285=>201|286=>202|129=>185|317=>229|318=>230|319=>231|320=>232|337=>243|338=>244|n=>n,fun|9=>9|3=>3|75=>121|76=>122|4=>4|5=>5|167=>288|37=>115|0=>0|85=>289|2=>2|168=>291|53=>237|175=>296|46=>195|210=>300|127=>177|145=>308|143=>306|21=>21|171=>247|173=>249|212=>281|51=>235|20=>20|213=>282|232=>302|233=>303|80=>126|n=>n,fun|15=>2|16=>3|17=>0|18=>4|19=>5|n=>n⟩
theorem lays172:Go.Proofs.Lays.n172 prog lays172_ren:= {
 mixed:=by kernel_rfl
 f129:=func185.trans (AS some (by kernel_rfl))
 f171:=func53.trans (AS some (by kernel_rfl))
 f172:=func189.trans (AS some (by kernel_rfl))
 f205:=func249.trans (AS some (by kernel_rfl))
 f243:=func100.trans (AS some (by kernel_rfl))
 f244:=func227.trans (AS some (by kernel_rfl))
 f245:=func228.trans (AS some (by kernel_rfl))
 f246:=func154.trans (AS some (by kernel_rfl))
 f247:=func238.trans (AS some (by kernel_rfl))
 f279:=func239.trans (AS some (by kernel_rfl))
 f280:=func240.trans (AS some (by kernel_rfl))
 f281:=func241.trans (AS some (by kernel_rfl))
 f282:=func242.trans (AS some (by kernel_rfl))
 f283:=func199.trans (AS some (by kernel_rfl))
 f284:=func200.trans (AS some (by kernel_rfl))
 f285:=func201.trans (AS some (by kernel_rfl))
 f286:=func202.trans (AS some (by kernel_rfl))
 f287:=func247.trans (AS some (by kernel_rfl))
 f316:=func248.trans (AS some (by kernel_rfl))
 f317:=func229.trans (AS some (by kernel_rfl))
 f318:=func230.trans (AS some (by kernel_rfl))
 f319:=func231.trans (AS some (by kernel_rfl))
 f320:=func232.trans (AS some (by kernel_rfl))
 f321:=func251.trans (AS some (by kernel_rfl))
 f322:=func252.trans (AS some (by kernel_rfl))
 f337:=func243.trans (AS some (by kernel_rfl))
 f338:=func244.trans (AS some (by kernel_rfl))
 t0:=underlying0
 a0:=isAgg0
 z0:=sizeOf0
 v0:=zeroValue0
 t2:=underlying2
 a2:=isAgg2
 z2:=sizeOf2
 v2:=zeroValue2
 t3:=underlying3
 a3:=isAgg3
 z3:=sizeOf3
 v3:=zeroValue3
 t4:=underlying4
 a4:=isAgg4
 z4:=sizeOf4
 v4:=zeroValue4
 t5:=underlying5
 a5:=isAgg5
 z5:=sizeOf5
 v5:=zeroValue5
 t9:=underlying9
 a9:=isAgg9
 z9:=sizeOf9
 v9:=zeroValue9
 t20:=underlying20
 a20:=isAgg20
 z20:=sizeOf20
 v20:=zeroValue20
 t21:=underlying21
 a21:=isAgg21
 z21:=sizeOf21
 v21:=zeroValue21
 t37:=underlying115
 a37:=isAgg115
 z37:=sizeOf115
 v37:=zeroValue115
 t46:=underlying195
 a46:=isAgg195
 z46:=sizeOf195
 v46:=zeroValue195
 t51:=underlying235
 a51:=isAgg235
 z51:=sizeOf235
 v51:=zeroValue235
 t53:=underlying237
 a53:=isAgg237
 z53:=sizeOf237
 v53:=zeroValue237
 t75:=underlying121
 a75:=isAgg121
 z75:=sizeOf121
 v75:=zeroValue121
 t76:=underlying122
 a76:=isAgg122
 z76:=sizeOf122
 v76:=zeroValue122
 t85:=underlying289
 a85:=isAgg289
 z85:=sizeOf289
 v85:=zeroValue289
 t127:=underlying177
 a127:=isAgg177
 z127:=sizeOf177
 v127:=zeroValue177
 t143:=underlying306
 a143:=isAgg306
 z143:=sizeOf306
 v143:=zeroValue306
 t145:=underlying308
 a145:=isAgg308
 z145:=sizeOf308
 v145:=zeroValue308
 t167:=underlying288
 a167:=isAgg288
 z167:=sizeOf288
 v167:=zeroValue288
 t168:=underlying291
 a168:=isAgg291
 z168:=sizeOf291
 v168:=zeroValue291
 t171:=underlying247
 a171:=isAgg247
 z171:=sizeOf247
 v171:=zeroValue247
 t173:=underlying249
 a173:=isAgg249
 z173:=sizeOf249
 v173:=zeroValue249
 t175:=underlying296
 a175:=isAgg296
 z175:=sizeOf296
 v175:=zeroValue296
 t210:=underlying300
 a210:=isAgg300
 z210:=sizeOf300
 v210:=zeroValue300
 t212:=underlying281
 a212:=isAgg281
 z212:=sizeOf281
 v212:=zeroValue281
 t213:=underlying282
 a213:=isAgg282
 z213:=sizeOf282
 t232:=underlying302
 a232:=isAgg302
 z232:=sizeOf302
 v232:=zeroValue302
 t233:=underlying303
 a233:=isAgg303
 z233:=sizeOf303
 v233:=zeroValue303
 g15:=by kernel_rfl
 g16:=by kernel_rfl
 g17:=by kernel_rfl
 g18:=by kernel_rfl
 g19:=by kernel_rfl}
open Go.RowKit in
theorem strconv_Atoi(s:AcL)(n:Int)(hl:s.size<=18)(h:Lib.atoi s.data.toList=some n)(w:World):
  Calls prog 189 #[.string s] w λe w'=>e=.returned (.tuple #[.int .i64 n,.nilIface])/\∃t,w'=Lib.bytesWorld w 5 t:=Any.strconv_Atoi lays172 s n hl h w
def laysM171_ren:Go.Shelf.Ren:=⟨fun|171=>53|243=>100|246=>154|283=>199|284=>200|285=>201|286=>202|129=>185|317=>229|318=>230|319=>231|320=>232|337=>243|338=>244|n=>n,fun|3=>3|9=>9|2=>2|4=>4|171=>247|0=>0|53=>237|37=>115|5=>5|173=>249|212=>281|51=>235|20=>20|213=>282|46=>195|232=>302|233=>303|n=>n,fun|17=>0|18=>4|19=>5|n=>n⟩
theorem laysM171:Go.Proofs.LaysM.n171 prog laysM171_ren:= {
 mixed:=by kernel_rfl
 f129:=func185.trans (AS some (by kernel_rfl))
 f171:=func53.trans (AS some (by kernel_rfl))
 f243:=func100.trans (AS some (by kernel_rfl))
 f246:=func154.trans (AS some (by kernel_rfl))
 f283:=func199.trans (AS some (by kernel_rfl))
 f284:=func200.trans (AS some (by kernel_rfl))
 f285:=func201.trans (AS some (by kernel_rfl))
 f286:=func202.trans (AS some (by kernel_rfl))
 f317:=func229.trans (AS some (by kernel_rfl))
 f318:=func230.trans (AS some (by kernel_rfl))
 f319:=func231.trans (AS some (by kernel_rfl))
 f320:=func232.trans (AS some (by kernel_rfl))
 f337:=func243.trans (AS some (by kernel_rfl))
 f338:=func244.trans (AS some (by kernel_rfl))
 t0:=underlying0
 a0:=isAgg0
 z0:=sizeOf0
 v0:=zeroValue0
 t2:=underlying2
 a2:=isAgg2
 z2:=sizeOf2
 v2:=zeroValue2
 t3:=underlying3
 a3:=isAgg3
 z3:=sizeOf3
 v3:=zeroValue3
 t4:=underlying4
 a4:=isAgg4
 z4:=sizeOf4
 v4:=zeroValue4
 t5:=underlying5
 a5:=isAgg5
 z5:=sizeOf5
 v5:=zeroValue5
 t9:=underlying9
 a9:=isAgg9
 z9:=sizeOf9
 v9:=zeroValue9
 t20:=underlying20
 a20:=isAgg20
 z20:=sizeOf20
 v20:=zeroValue20
 t37:=underlying115
 a37:=isAgg115
 z37:=sizeOf115
 v37:=zeroValue115
 t46:=underlying195
 a46:=isAgg195
 z46:=sizeOf195
 v46:=zeroValue195
 t51:=underlying235
 a51:=isAgg235
 z51:=sizeOf235
 v51:=zeroValue235
 t53:=underlying237
 a53:=isAgg237
 z53:=sizeOf237
 v53:=zeroValue237
 t171:=underlying247
 a171:=isAgg247
 z171:=sizeOf247
 v171:=zeroValue247
 t173:=underlying249
 a173:=isAgg249
 z173:=sizeOf249
 v173:=zeroValue249
 t212:=underlying281
 a212:=isAgg281
 z212:=sizeOf281
 v212:=zeroValue281
 t213:=underlying282
 a213:=isAgg282
 z213:=sizeOf282
 t232:=underlying302
 a232:=isAgg302
 z232:=sizeOf302
 v232:=zeroValue302
 t233:=underlying303
 a233:=isAgg303
 z233:=sizeOf303
 v233:=zeroValue303
 g17:=by kernel_rfl
 g18:=by kernel_rfl
 g19:=by kernel_rfl
 i0:=by kernel_rfl
 i2:=by kernel_rfl
 i3:=by kernel_rfl
 i4:=by kernel_rfl
 i5:=by kernel_rfl
 i9:=by kernel_rfl
 i20:=by kernel_rfl
 i37:=by kernel_rfl
 i46:=by kernel_rfl
 i51:=by kernel_rfl
 i53:=by kernel_rfl
 i171:=by kernel_rfl
 i173:=by kernel_rfl
 i212:=by kernel_rfl
 i232:=by kernel_rfl
 i233:=by kernel_rfl
 m17:=by kernel_rfl
 m18:=by kernel_rfl
 m19:=by kernel_rfl}
open Go.RowKit Go.Sort Go.Lib in
theorem strconv_Itoa(n:Int)(h0: -9223372036854775808<=n)(h1:n<=9223372036854775807)(w:World)(htab:Lib.TabIs prog w "internal/strconv.uint64pow10" .u64 Lib.pow10Tab):
  Calls prog 53 #[.int .i64 n] w λe w'=>e=.returned (.string ⟨(Lib.itoa n).toArray⟩)/\∃k os,w'=grow (w.drewN k) os:=Any.strconv_Itoa laysM171 n h0 h1 w htab
def lays189_ren:Go.Shelf.Ren:=⟨fun|189=>74|125=>125|257=>124|128=>184|129=>185|294=>175|295=>176|296=>177|297=>178|298=>179|299=>180|216=>181|300=>182|301=>183|328=>220|329=>221|330=>222|331=>223|332=>224|215=>225|343=>237|n=>n,fun|28=>28|3=>3|46=>195|0=>0|51=>235|53=>237|4=>4|183=>229|182=>228|131=>203|5=>5|9=>9|218=>273|222=>277|228=>285|229=>286|n=>n,fun|n=>n⟩
theorem lays189:Go.Proofs.Lays.n189 prog lays189_ren:= {
 mixed:=by kernel_rfl
 f125:=func125.trans (AS some (by kernel_rfl))
 f128:=func184.trans (AS some (by kernel_rfl))
 f129:=func185.trans (AS some (by kernel_rfl))
 f189:=func74.trans (AS some (by kernel_rfl))
 f215:=func225.trans (AS some (by kernel_rfl))
 f216:=func181.trans (AS some (by kernel_rfl))
 f257:=func124.trans (AS some (by kernel_rfl))
 f294:=func175.trans (AS some (by kernel_rfl))
 f295:=func176.trans (AS some (by kernel_rfl))
 f296:=func177.trans (AS some (by kernel_rfl))
 f297:=func178.trans (AS some (by kernel_rfl))
 f298:=func179.trans (AS some (by kernel_rfl))
 f299:=func180.trans (AS some (by kernel_rfl))
 f300:=func182.trans (AS some (by kernel_rfl))
 f301:=func183.trans (AS some (by kernel_rfl))
 f328:=func220.trans (AS some (by kernel_rfl))
 f329:=func221.trans (AS some (by kernel_rfl))
 f330:=func222.trans (AS some (by kernel_rfl))
 f331:=func223.trans (AS some (by kernel_rfl))
 f332:=func224.trans (AS some (by kernel_rfl))
 f343:=func237.trans (AS some (by kernel_rfl))
 t0:=underlying0
 a0:=isAgg0
 z0:=sizeOf0
 v0:=zeroValue0
 t3:=underlying3
 a3:=isAgg3
 z3:=sizeOf3
 v3:=zeroValue3
 t4:=underlying4
 a4:=isAgg4
 z4:=sizeOf4
 v4:=zeroValue4
 t5:=underlying5
 a5:=isAgg5
 z5:=sizeOf5
 v5:=zeroValue5
 t9:=underlying9
 a9:=isAgg9
 z9:=sizeOf9
 v9:=zeroValue9
 t28:=underlying28
 a28:=isAgg28
 z28:=sizeOf28
 v28:=zeroValue28
 t46:=underlying195
 a46:=isAgg195
 z46:=sizeOf195
 v46:=zeroValue195
 t51:=underlying235
 a51:=isAgg235
 z51:=sizeOf235
 v51:=zeroValue235
 t53:=underlying237
 a53:=isAgg237
 z53:=sizeOf237
 v53:=zeroValue237
 t131:=underlying203
 a131:=isAgg203
 z131:=sizeOf203
 v131:=zeroValue203
 t182:=underlying228
 a182:=isAgg228
 z182:=sizeOf228
 v182:=zeroValue228
 t183:=underlying229
 a183:=isAgg229
 z183:=sizeOf229
 v183:=zeroValue229
 t218:=underlying273
 a218:=isAgg273
 z218:=sizeOf273
 v218:=zeroValue273
 t222:=underlying277
 a222:=isAgg277
 z222:=sizeOf277
 v222:=zeroValue277
 t228:=underlying285
 a228:=isAgg285
 z228:=sizeOf285
 v228:=zeroValue285
 t229:=underlying286
 a229:=isAgg286
 z229:=sizeOf286
 v229:=zeroValue286}
open Go.Sort Go.RowKit in
theorem slices_Sort_int(blk off cap:Nat)(zs:AcP)(w:World)(hH:Holds (Value.int .i64) w blk off zs.toArray)(hblk:blk<w.heap.size)(hsz:zs.length<4611686018427387904):
  Calls prog 74 #[.slice (some ⟨blk,off,none⟩) zs.length cap] w λe w'=>
   e=.returned (.tuple #[])/\∃n os,w'=grow (putRow (Value.int .i64) (Sort.ahead w n) blk off (zs.mergeSort λx y=>decide (x<=y)).toArray) os:=Any.slices_Sort_int lays189 blk off cap zs w hH hblk hsz
def lays99_ren:Go.Shelf.Ren:=⟨fun|99=>134|206=>187|n=>n,fun|9=>9|4=>4|3=>3|n=>n,fun|n=>n⟩
theorem lays99:Go.Proofs.Lays.n99 prog lays99_ren:= {
 mixed:=by kernel_rfl
 f99:=func134.trans (AS some (by kernel_rfl))
 f206:=func187.trans (AS some (by kernel_rfl))
 t3:=underlying3
 a3:=isAgg3
 z3:=sizeOf3
 v3:=zeroValue3
 t4:=underlying4
 a4:=isAgg4
 z4:=sizeOf4
 v4:=zeroValue4
 t9:=underlying9
 a9:=isAgg9
 z9:=sizeOf9
 v9:=zeroValue9}
open Go.RowKit Go.Lib in
theorem strings_HasPrefix(s p:AcL)(w:World):
  Calls prog 134 #[.string s,.string p] w λe w'=>e=.returned (.bool (Lib.hasPrefix s.data.toList p.data.toList))/\w'=w:=Any.strings_HasPrefix lays99 s p w
def lays110_ren:Go.Shelf.Ren:=⟨fun|110=>147|109=>198|n=>n,fun|31=>172|9=>9|4=>4|3=>3|0=>0|n=>n,fun|n=>n⟩
theorem lays110:Go.Proofs.Lays.n110 prog lays110_ren:= {
 mixed:=by kernel_rfl
 f109:=func198.trans (AS some (by kernel_rfl))
 f110:=func147.trans (AS some (by kernel_rfl))
 t0:=underlying0
 a0:=isAgg0
 z0:=sizeOf0
 v0:=zeroValue0
 t3:=underlying3
 a3:=isAgg3
 z3:=sizeOf3
 v3:=zeroValue3
 t4:=underlying4
 a4:=isAgg4
 z4:=sizeOf4
 v4:=zeroValue4
 t9:=underlying9
 a9:=isAgg9
 z9:=sizeOf9
 v9:=zeroValue9
 t31:=underlying172
 a31:=isAgg172
 z31:=sizeOf172
 v31:=zeroValue172}
open Go.Lib in
theorem slices_Contains_string(b off n c:Nat)(zs:Ac1)(x:AcL)(w:World)(hz:n<=zs.length)(hbig:n<=9223372036854775807)(hc:∀j,j<zs.length->w.cell? ⟨b,off+j,none⟩=some (.string (zs.getD j ByteArray.empty))):
  Calls prog 147 #[.slice (some ⟨b,off,none⟩) n c,.string x] w λe w'=>e=.returned (.bool (Lib.containsS (zs.take n) x))/\w'=w:=Any.slices_Contains_string lays110 b off n c zs x w hz hbig hc
def laysNm220_ren:Go.Shelf.Ren:=⟨fun|20=>75|n=>n,fun|22=>28|3=>3|4=>4|0=>0|n=>n,fun|n=>n⟩
theorem laysNm220:Go.Proofs.Lays2.n20 prog laysNm220_ren:= {
 mixed:=by kernel_rfl
 f20:=func75.trans (AS some (by kernel_rfl))
 t0:=underlying0
 a0:=isAgg0
 z0:=sizeOf0
 v0:=zeroValue0
 t3:=underlying3
 a3:=isAgg3
 z3:=sizeOf3
 v3:=zeroValue3
 t4:=underlying4
 a4:=isAgg4
 z4:=sizeOf4
 v4:=zeroValue4
 t22:=underlying28
 a22:=isAgg28
 z22:=sizeOf28
 v22:=zeroValue28
 i3:=by kernel_rfl}
open Go.RowKit Go.Lib Go.Sort in
theorem slices_Compact_int(blk off cap:Nat)(zs:AcP)(w:World)(hH:Holds (Value.int .i64) w blk off zs.toArray)(hsz:zs.length<=9223372036854775807)(hcap:zs.length<=cap):
  Calls prog 75 #[.slice (some ⟨blk,off,none⟩) zs.length cap] w λe w'=>e=.returned (.slice (some ⟨blk,off,none⟩) (Lib.compact zs).length cap)/\∃q,w'=putRow (Value.int .i64) (Sort.ahead w q) blk off (Lib.compact zs++List.replicate (zs.length-(Lib.compact zs).length) 0).toArray:=Any.slices_Compact_int laysNm220 blk off cap zs w hH hsz hcap
open Go.RowKit Go.Lib Go.Sort in
theorem slices_Compact_int_empty(a:Option Addr)(cap:Nat)(w:World):
  Calls prog 75 #[.slice a 0 cap] w λe w'=>e=.returned (.slice a 0 cap)/\w'=w:=Any.slices_Compact_int_empty laysNm220 a cap w
open Go.RowKit Go.Sort in
theorem slices_Sort_int_none(p:Option Addr)(cap:Nat)(w:World):
  Calls prog 74 #[.slice p 0 cap] w λe w'=>e=.returned (.tuple #[])/\w'=w:=Any.slices_Sort_int_none lays189 p cap w
end Go.Proofs
namespace Go.Proofs.YtdnmkinmcdihnaaGreatDoor
open Go.Proofs.Tryz
open Go.RowKit
set_option maxHeartbeats 400000 in
theorem QI(g:Nat)(s:AcL)(i:Nat)(w:World)(hs:s.size<=4000)(h0:i<s.size)(hb:wR w g 148 #[.string s,.int .i64 i]):
  Calls prog 126 #[.pointer (some ⟨g,0,none⟩)] w λe w'=>e=.returned (.int .u8 s[i].toNat)/\∃q,w'=w.drewN q:=by
 have c0:w.cell? ⟨g,0,none⟩=some (.string s):=hb.cell 0;have c1:w.cell? ⟨g,1,none⟩=some (.int .i64 i):=hb.cell 1;have hlt':(i:Int)<(s.size:Int):=by omega
 clear hb
 go_enter func126,ntmps126
 go_wp2
 go_quiet (fail)
 go_wp2
 go_quiet (fail)
 go_wp2
 go_ret
 exact⟨rfl,_,World.drewN_drewN _ _ _⟩
theorem zt2{p:UInt8->Bool}{l:AcY}{c:UInt8}{j n:Nat}(hd:l.drop j=c::l.drop (j+1))(hp:p c=true)(h:j+((l.drop j).takeWhile p).length=n):j+1+((l.drop (j+1)).takeWhile p).length=n:=by
 rw[hd,Ab7,As hp]at h;simp at h;omega
theorem zsV{p:UInt8->Bool}{l:AcY}{c:UInt8}{j n:Nat}(hd:l.drop j=c::l.drop (j+1))(hp:p c=false)(h:j+((l.drop j).takeWhile p).length=n):j=n:=by
 rw[hd,Ab7,An (by simp[hp])]at h;simp at h;omega
theorem zsW{p:UInt8->Bool}{l:AcY}{j n:Nat}(hl:l.length<=j)(h:j+((l.drop j).takeWhile p).length=n):j=n:=by
 rw[Ab6 hl]at h;simpa using h
theorem zoi{p:UInt8->Bool}{l:AcY}{j:Nat}(hj:j<=l.length):j+((l.drop j).takeWhile p).length<=l.length:=by
 have:=(List.takeWhile_sublist p (l:=l.drop j)).length_le;simp at this;omega
set_option maxHeartbeats 1000000 in
theorem zkD(F:AcM)(p:Nat->Bool)(eg:∀args w,(callFunc F args).run prog w=.ok (.enter F args) w)(hf:∀n:Nat,n<256->∀W,Calls prog F #[.int .u8 n] W λe w'=>e=.returned (.bool (p n))/\W=w')
  (g:Nat) (s:AcL) (i:Nat) (w:World) (hs:s.size<=4000) (h0:i<=s.size) (hb:wR w g 148 #[.string s,.int .i64 i]):
  Calls prog 128 #[.pointer (some ⟨g,0,none⟩),.func (.func F) #[] #[]] w λe w'=>
   e=.returned (.string (s.extract i (i+((s.data.toList.drop i).takeWhile λc=>p c.toNat).length)))/\
   wR w' g 148 #[.string s,.int .i64 ↑(i+((s.data.toList.drop i).takeWhile λc=>p c.toNat).length)]/\w.grownBy w' (some g):=by
 have cc0:w.cell? ⟨g,0,none⟩=some (.string s):=hb.cell 0;have cc1:w.cell? ⟨g,1,none⟩=some (.int .i64 i):=hb.cell 1;have hle:=zoi (p:=λc=>p c.toNat) (l:=s.data.toList) (j:=i) (by simpa using h0)
 rw[Df]at hle
 have HB:=Lib.hid hb;have HF:=Lib.hid hf;clear hf hb;generalize hn:i+((s.data.toList.drop i).takeWhile λc=>p c.toNat).length=n at hle
 have HN:=Lib.hid hn;have hin:i<=n:=by omega
 clear hn
 go_enter func128,ntmps128
 go_wp2_with fail
 go_loopg [] (s.size) (λk wr=>∃j:Nat,i<=j/\j<=s.size/\s.size-j<=k/\Hid (wR wr g 148 #[.string s,.int .i64 j])/\Hid (j+((s.data.toList.drop j).takeWhile λc=>p c.toNat).length=n)/\w.grownBy wr (some g))
 case atStart=>exact⟨i,IN _,h0,by omega,HB.out,HN.out,World.grownBy.refl _ _⟩
 case round=>
  obtain⟨j,hij,hj,hk,hB,hE,hG⟩:=hrel;have c0:wr.cell? ⟨g,0,none⟩=some (.string s):=hB.out.cell 0;have c1:wr.cell? ⟨g,1,none⟩=some (.int .i64 j):=hB.out.cell 1;have f1:wr.frozen? ⟨g,1,none⟩=false:=hB.out.frozen 1;clear cc0 cc1
  by_cases hlt:j<s.size
  ·have hlt':(j:Int)<(s.size:Int):=by omega
   have hd:=Lib.hid (WC s j hlt);have hc:=λW=>HF.out s[j].toNat (UInt8.toNat_lt _) W
   cases hp:p s[j].toNat with
   |true=>
    simp only[hp]at hc
    have HC:=Lib.hid hc;have HP:=Lib.hid hp;clear hc hp
    go_wp2_with fail
    go_quiet ((go_at_fn F;exact Dg (HC.out _)))
    go_wp2_with fail
    go_roundg (s.size-(j+1))
    case measure=>omega
    case rel=>exact⟨j+1,by omega,by omega,by omega,(hB.out.drewN _).set_ 1 _,zt2 hd.out HP.out hE.out,tR (vI hG _) (.inl rfl) _⟩
   |false=>
    simp only[hp]at hc
    have HC:=Lib.hid hc;have HP:=Lib.hid hp;clear hc hp
    go_wp2_with fail
    go_quiet ((go_at_fn F;exact Dg (HC.out _)))
    go_wp2_with fail
    go_quiet (fail)
    go_wp2_with fail
    go_ret
    obtain rfl:=zsV (p:=λc=>p c.toNat) hd.out HP.out hE.out
    exact⟨rfl,(hB.out.drewN _).drewN _,vI (vI hG _) _⟩
  ·have hlt':decide ((j:Int)<(s.size:Int))=false:=by simp;omega
   go_wp2_with fail
   go_quiet (fail)
   go_wp2_with fail
   go_quiet (fail)
   go_wp2_with fail
   go_ret
   obtain rfl:=zsW (by simpa using hlt) hE.out
   exact⟨rfl,(hB.out.drewN _).drewN _,vI (vI hG _) _⟩
end Go.Proofs.YtdnmkinmcdihnaaGreatDoor
namespace Go.Proofs.YtdnmkinmcdihnaaGreatDoor
open Go.Proofs.Tryz
open Go.RowKit
theorem zfa:∀args w,(callFunc 129 args).run prog w=.ok (.enter 129 args) w:=λ_ _=>by kernel_rfl
theorem zcZ:∀args w,(callFunc 130 args).run prog w=.ok (.enter 130 args) w:=λ_ _=>by kernel_rfl
theorem wR.new'{w:World}{g:Nat}(t:AcN)(cs:Array Value)(h:g=w.heap.size):wR (w.alloc (.cells cs t)) g t cs:=by subst h;exact wR.new w t cs
theorem wR.far'{w:World}{g:Nat}{t:AcN}{cs:Array Value}{p:Addr}{u:Value}(hp:g≠p.block)(h:wR w g t cs):wR (w.setCell p u) g t cs:=h.far hp u
theorem wR.set'{w:World}{g i:Nat}{t:AcN}{cs cs':Array Value}{u:Value}(e:cs.setIfInBounds i u=cs')(h:wR w g t cs):wR (w.setCell ⟨g,i,none⟩ u) g t cs':=by subst e;exact h.set_ i u
set_option maxHeartbeats 1000000 in
theorem zc0(g:Nat)(s:AcL)(i:Nat)(w:World)(hs:s.size<=4000)(h0:i<s.size)(hb:wR w g 148 #[.string s,.int .i64 i])(hl:Nk s[i].toNat=true):
  Calls prog 77 #[.pointer (some ⟨g,0,none⟩)] w λe w'=>∃n er,e=.returned (.tuple #[.agg #[.int .i64 1,.int .i64 i,.string (s.extract i (i+n))],.int .i64 er])/\
   n=((s.data.toList.drop i).takeWhile λc=>Nk c.toNat||isDN c.toNat).length/\er=(if n>12 then 2 else 0)/\wR w' g 148 #[.string s,.int .i64 ↑(i+n)]/\w.grownBy w' (some g):=by
 have HB:=Lib.hid hb;have c0:w.cell? ⟨g,0,none⟩=some (.string s):=hb.cell 0;have c1:w.cell? ⟨g,1,none⟩=some (.int .i64 i):=hb.cell 1;have hgl:=hb.lt;have hss:=UInt8.toNat_lt s[i];have hle:=zoi (p:=λc=>Nk c.toNat||isDN c.toNat) (l:=s.data.toList) (j:=i) (by simp;omega)
 clear hb;obtain⟨n,hn⟩:∃n,n=((s.data.toList.drop i).takeWhile λc=>Nk c.toNat||isDN c.toNat).length:=⟨_,rfl⟩
 rw[Df,<-hn]at hle
 have HN:=Lib.hid hn;clear hn
 have hrun:∀W,wR W g 148 #[.string s,.int .i64 i]->Calls prog 128 #[.pointer (some ⟨g,0,none⟩),.func (.func 129) #[] #[]] W λe w'=>
   e=.returned (.string (s.extract i (i+n)))/\wR w' g 148 #[.string s,.int .i64 ↑(i+n)]/\W.grownBy w' (some g):=λW hW=>by
  have:=zkD 129 (λn=>Nk n||isDN n) zfa zoe g s i W hs (by omega) hW
  rw[<-HN.out]at this;exact this
 have HR:=Lib.hid hrun;clear hrun;have hsz:(s.extract i (i+n)).size=n:=by rw[Aco];omega
 go_enter func77,ntmps77
 go_wp2_with (first
  |(go_at_call 126;refine(QI g s i _ hs h0 (by have:=HB.out;(repeat'(first|(with_reducible assumption)|(with_reducible refine wR.drewN ?_ _)|(with_reducible refine wR.alloc ?_ _)|(with_reducible refine wR.drew ?_)|(with_reducible refine wR.far' ?_ ?_;(first|(simp;done)|(simp;omega)|omega))|(with_reducible apply wR.set';rotate_left)|rfl)))).mono ?_;rintro e w' ⟨rfl,q,rfl⟩)
  |(go_at_call 127;refine(bY _ (by assumption) _).mono ?_;rintro e w' ⟨rfl,rfl⟩))
 refine(HR.out _ (by have:=HB.out;(repeat'(first|(with_reducible assumption)|(with_reducible refine wR.drewN ?_ _)|(with_reducible refine wR.alloc ?_ _)|(with_reducible refine wR.drew ?_)|(with_reducible refine wR.far' ?_ ?_;(first|(simp;done)|(simp;omega)|omega))|(with_reducible apply wR.set';rotate_left)|rfl)))).mono ?_
 rintro e w1 ⟨rfl,hb1,hg1⟩;have bt:wR w1 (w.heap.size+1+1) 150 _:=(((wR.new' _ _ (by simp)).drewN _).set_ 0 _).grown hg1 (by simp;omega)
 have br:wR w1 (w.heap.size+1) 150 _:=((((wR.new' _ _ (by simp)).alloc _).drewN _).far (by simp) _).grown hg1 (by simp;omega)
 have t0:w1.cell? ⟨w.heap.size+1+1,0,none⟩=some (.int .i64 1):=bt.cell 0;have t1:w1.cell? ⟨w.heap.size+1+1,1,none⟩=some (.int .i64 i):=bt.cell 1;have t2:w1.cell? ⟨w.heap.size+1+1,2,none⟩=some (.string ⟨#[]⟩):=bt.cell 2;have r0:w1.cell? ⟨w.heap.size+1,0,none⟩=some (.int .i64 0):=br.cell 0;have r1:w1.cell? ⟨w.heap.size+1,1,none⟩=some (.int .i64 0):=br.cell 1;have r2:w1.cell? ⟨w.heap.size+1,2,none⟩=some (.string ⟨#[]⟩):=br.cell 2;have ft:∀k,w1.frozen? ⟨w.heap.size+1+1,k,none⟩=false:=bt.frozen;have fr:∀k,w1.frozen? ⟨w.heap.size+1,k,none⟩=false:=br.frozen;have hg0:w.grownBy w1 (some g):=Mx (gH (by(repeat'(first|(with_reducible exact Below.refl _ _)|(with_reducible assumption)|(with_reducible refine vD ?_ _)|(with_reducible refine Below.alloc ?_ ?_ _)|(with_reducible refine Below.setCell ?_ ?_ _)|(with_reducible refine Below.drew ?_)|go_size))) (some g)) hg1
 have hsz1:w.heap.size+1+1<w1.heap.size:=bt.lt;clear hg1 bt br c0 c1
 by_cases h12:12<n
 ·go_wp2_with fail
  refine bodyPost_ret (v:=.tuple #[.agg #[.int .i64 1,.int .i64 i,.string (s.extract i (i+n))],.int .i64 2]) (by simp[results,results77,go_sem,r0,r1,r2]) rfl ⟨n,2,rfl,HN.out,by rw[As h12],?_,?_⟩
  ·have:=hb1;(repeat'(first|(with_reducible assumption)|(with_reducible refine wR.drewN ?_ _)|(with_reducible refine wR.alloc ?_ _)|(with_reducible refine wR.drew ?_)|(with_reducible refine wR.far' ?_ ?_;(first|(simp;done)|(simp;omega)|omega))|(with_reducible apply wR.set';rotate_left)|rfl))
  ·(repeat'(first|(with_reducible assumption)|(with_reducible exact World.grownBy.refl _ _)|(with_reducible refine vI ?_ _)|(with_reducible refine jM ?_ _)|(with_reducible refine tR ?_ ?_ _)|(with_reducible refine eP ?_)|(exact .inl rfl)|(refine .inr ?_;simp;done)|(refine .inr ?_;simp;omega)|(refine .inr ?_;omega)))
 ·go_wp2_with fail
  refine bodyPost_ret (v:=.tuple #[.agg #[.int .i64 1,.int .i64 i,.string (s.extract i (i+n))],.int .i64 0]) (by simp[results,results77,go_sem,r0,r1,r2]) rfl ⟨n,0,rfl,HN.out,by rw[An h12],?_,?_⟩
  ·have:=hb1;(repeat'(first|(with_reducible assumption)|(with_reducible refine wR.drewN ?_ _)|(with_reducible refine wR.alloc ?_ _)|(with_reducible refine wR.drew ?_)|(with_reducible refine wR.far' ?_ ?_;(first|(simp;done)|(simp;omega)|omega))|(with_reducible apply wR.set';rotate_left)|rfl))
  ·(repeat'(first|(with_reducible assumption)|(with_reducible exact World.grownBy.refl _ _)|(with_reducible refine vI ?_ _)|(with_reducible refine jM ?_ _)|(with_reducible refine tR ?_ ?_ _)|(with_reducible refine eP ?_)|(exact .inl rfl)|(refine .inr ?_;simp;done)|(refine .inr ?_;simp;omega)|(refine .inr ?_;omega)))
set_option maxHeartbeats 1000000 in
theorem zfb(g:Nat)(s:AcL)(i:Nat)(w:World)(hs:s.size<=4000)(h0:i<s.size)(hb:wR w g 148 #[.string s,.int .i64 i])(hl0:Nk s[i].toNat=false)(hl:isDN s[i].toNat=true):
  Calls prog 77 #[.pointer (some ⟨g,0,none⟩)] w λe w'=>∃n er,e=.returned (.tuple #[.agg #[.int .i64 2,.int .i64 i,.string (s.extract i (i+n))],.int .i64 er])/\
   n=((s.data.toList.drop i).takeWhile λc=>isDN c.toNat).length/\er=(if n>4 then 2 else if n>1/\s[i]=48 then 1 else 0)/\wR w' g 148 #[.string s,.int .i64 ↑(i+n)]/\w.grownBy w' (some g):=by
 have HB:=Lib.hid hb;have c0:w.cell? ⟨g,0,none⟩=some (.string s):=hb.cell 0;have c1:w.cell? ⟨g,1,none⟩=some (.int .i64 i):=hb.cell 1;have hgl:=hb.lt;have hss:=UInt8.toNat_lt s[i];have hle:=zoi (p:=λc=>isDN c.toNat) (l:=s.data.toList) (j:=i) (by simp;omega)
 clear hb;obtain⟨n,hn⟩:∃n,n=((s.data.toList.drop i).takeWhile λc=>isDN c.toNat).length:=⟨_,rfl⟩
 rw[Df,<-hn]at hle
 have HN:=Lib.hid hn;clear hn
 have hrun:∀W,wR W g 148 #[.string s,.int .i64 i]->Calls prog 128 #[.pointer (some ⟨g,0,none⟩),.func (.func 130) #[] #[]] W λe w'=>
   e=.returned (.string (s.extract i (i+n)))/\wR w' g 148 #[.string s,.int .i64 ↑(i+n)]/\W.grownBy w' (some g):=λW hW=>by
  have:=zkD 130 (λn=>isDN n) zcZ WF g s i W hs (by omega) hW
  rw[<-HN.out]at this;exact this
 have HR:=Lib.hid hrun;clear hrun;have hsz:(s.extract i (i+n)).size=n:=by rw[Aco];omega
 go_enter func77,ntmps77
 go_wp2_with (first
  |(go_at_call 126;refine(QI g s i _ hs h0 (by have:=HB.out;(repeat'(first|(with_reducible assumption)|(with_reducible refine wR.drewN ?_ _)|(with_reducible refine wR.alloc ?_ _)|(with_reducible refine wR.drew ?_)|(with_reducible refine wR.far' ?_ ?_;(first|(simp;done)|(simp;omega)|omega))|(with_reducible apply wR.set';rotate_left)|rfl)))).mono ?_;rintro e w' ⟨rfl,q,rfl⟩)
  |(go_at_call 127;refine(bY _ (by assumption) _).mono ?_;rintro e w' ⟨rfl,rfl⟩)
  |(go_at_call 130;refine(WF _ (by assumption) _).mono ?_;rintro e w' ⟨rfl,rfl⟩))
 refine(HR.out _ (by have:=HB.out;(repeat'(first|(with_reducible assumption)|(with_reducible refine wR.drewN ?_ _)|(with_reducible refine wR.alloc ?_ _)|(with_reducible refine wR.drew ?_)|(with_reducible refine wR.far' ?_ ?_;(first|(simp;done)|(simp;omega)|omega))|(with_reducible apply wR.set';rotate_left)|rfl)))).mono ?_
 rintro e w1 ⟨rfl,hb1,hg1⟩;have bt:wR w1 (w.heap.size+1+1) 150 _:=(((wR.new' _ _ (by simp)).drewN _).set_ 0 _).grown hg1 (by simp;omega)
 have br:wR w1 (w.heap.size+1) 150 _:=((((wR.new' _ _ (by simp)).alloc _).drewN _).far (by simp) _).grown hg1 (by simp;omega)
 have t0:w1.cell? ⟨w.heap.size+1+1,0,none⟩=some (.int .i64 2):=bt.cell 0;have t1:w1.cell? ⟨w.heap.size+1+1,1,none⟩=some (.int .i64 i):=bt.cell 1;have t2:w1.cell? ⟨w.heap.size+1+1,2,none⟩=some (.string ⟨#[]⟩):=bt.cell 2;have r0:w1.cell? ⟨w.heap.size+1,0,none⟩=some (.int .i64 0):=br.cell 0;have r1:w1.cell? ⟨w.heap.size+1,1,none⟩=some (.int .i64 0):=br.cell 1;have r2:w1.cell? ⟨w.heap.size+1,2,none⟩=some (.string ⟨#[]⟩):=br.cell 2;have ft:∀k,w1.frozen? ⟨w.heap.size+1+1,k,none⟩=false:=bt.frozen;have fr:∀k,w1.frozen? ⟨w.heap.size+1,k,none⟩=false:=br.frozen;have hg0:w.grownBy w1 (some g):=Mx (gH (by(repeat'(first|(with_reducible exact Below.refl _ _)|(with_reducible assumption)|(with_reducible refine vD ?_ _)|(with_reducible refine Below.alloc ?_ ?_ _)|(with_reducible refine Below.setCell ?_ ?_ _)|(with_reducible refine Below.drew ?_)|go_size))) (some g)) hg1
 have hsz1:w.heap.size+1+1<w1.heap.size:=bt.lt;clear hg1 bt br c0 c1
 by_cases h4:4<n
 ·go_wp2_with fail
  refine bodyPost_ret (v:=.tuple #[.agg #[.int .i64 2,.int .i64 i,.string (s.extract i (i+n))],.int .i64 2]) (by simp[results,results77,go_sem,r0,r1,r2]) rfl ⟨n,2,rfl,HN.out,by rw[As h4],?_,?_⟩
  ·have:=hb1;(repeat'(first|(with_reducible assumption)|(with_reducible refine wR.drewN ?_ _)|(with_reducible refine wR.alloc ?_ _)|(with_reducible refine wR.drew ?_)|(with_reducible refine wR.far' ?_ ?_;(first|(simp;done)|(simp;omega)|omega))|(with_reducible apply wR.set';rotate_left)|rfl))
  ·(repeat'(first|(with_reducible assumption)|(with_reducible exact World.grownBy.refl _ _)|(with_reducible refine vI ?_ _)|(with_reducible refine jM ?_ _)|(with_reducible refine tR ?_ ?_ _)|(with_reducible refine eP ?_)|(exact .inl rfl)|(refine .inr ?_;simp;done)|(refine .inr ?_;simp;omega)|(refine .inr ?_;omega)))
 ·by_cases h1:1<n
  ·by_cases h48:s[i]=48
   ·have y48:=L2 (k:=48) (by omega) h48
    have H48:=Lib.hid h48;clear h48
    go_wp2_with fail
    refine bodyPost_ret (v:=.tuple #[.agg #[.int .i64 2,.int .i64 i,.string (s.extract i (i+n))],.int .i64 1]) (by simp[results,results77,go_sem,r0,r1,r2]) rfl ⟨n,1,rfl,HN.out,by rw[An h4,As ⟨h1,H48.out⟩],?_,?_⟩
    ·have:=hb1;(repeat'(first|(with_reducible assumption)|(with_reducible refine wR.drewN ?_ _)|(with_reducible refine wR.alloc ?_ _)|(with_reducible refine wR.drew ?_)|(with_reducible refine wR.far' ?_ ?_;(first|(simp;done)|(simp;omega)|omega))|(with_reducible apply wR.set';rotate_left)|rfl))
    ·(repeat'(first|(with_reducible assumption)|(with_reducible exact World.grownBy.refl _ _)|(with_reducible refine vI ?_ _)|(with_reducible refine jM ?_ _)|(with_reducible refine tR ?_ ?_ _)|(with_reducible refine eP ?_)|(exact .inl rfl)|(refine .inr ?_;simp;done)|(refine .inr ?_;simp;omega)|(refine .inr ?_;omega)))
   ·have y48:=V1 (k:=48) (by omega) h48
    go_wp2_with fail
    refine bodyPost_ret (v:=.tuple #[.agg #[.int .i64 2,.int .i64 i,.string (s.extract i (i+n))],.int .i64 0]) (by simp[results,results77,go_sem,r0,r1,r2]) rfl ⟨n,0,rfl,HN.out,by rw[An h4,An (λh=>h48 h.2)],?_,?_⟩
    ·have:=hb1;(repeat'(first|(with_reducible assumption)|(with_reducible refine wR.drewN ?_ _)|(with_reducible refine wR.alloc ?_ _)|(with_reducible refine wR.drew ?_)|(with_reducible refine wR.far' ?_ ?_;(first|(simp;done)|(simp;omega)|omega))|(with_reducible apply wR.set';rotate_left)|rfl))
    ·(repeat'(first|(with_reducible assumption)|(with_reducible exact World.grownBy.refl _ _)|(with_reducible refine vI ?_ _)|(with_reducible refine jM ?_ _)|(with_reducible refine tR ?_ ?_ _)|(with_reducible refine eP ?_)|(exact .inl rfl)|(refine .inr ?_;simp;done)|(refine .inr ?_;simp;omega)|(refine .inr ?_;omega)))
  ·have h1':decide ((1:Int)<(n:Int))=false:=by simp;omega
   go_wp2_with fail
   refine bodyPost_ret (v:=.tuple #[.agg #[.int .i64 2,.int .i64 i,.string (s.extract i (i+n))],.int .i64 0]) (by simp[results,results77,go_sem,r0,r1,r2]) rfl ⟨n,0,rfl,HN.out,by rw[An h4,An (λh=>h1 h.1)],?_,?_⟩
   ·have:=hb1;(repeat'(first|(with_reducible assumption)|(with_reducible refine wR.drewN ?_ _)|(with_reducible refine wR.alloc ?_ _)|(with_reducible refine wR.drew ?_)|(with_reducible refine wR.far' ?_ ?_;(first|(simp;done)|(simp;omega)|omega))|(with_reducible apply wR.set';rotate_left)|rfl))
   ·(repeat'(first|(with_reducible assumption)|(with_reducible exact World.grownBy.refl _ _)|(with_reducible refine vI ?_ _)|(with_reducible refine jM ?_ _)|(with_reducible refine tR ?_ ?_ _)|(with_reducible refine eP ?_)|(exact .inl rfl)|(refine .inr ?_;simp;done)|(refine .inr ?_;simp;omega)|(refine .inr ?_;omega)))
end Go.Proofs.YtdnmkinmcdihnaaGreatDoor
namespace Go.Proofs.YtdnmkinmcdihnaaGreatDoor
open Go.Proofs.Tryz
open Go.RowKit
def XP:Ac1:=[bs [46,46],bs [60,61],bs [62,61],bs [61,61],bs [33,61]]
theorem Ie(w:World):Calls prog 132 #[] w λe w'=>∃v,e=.returned v/\Rds w' v XP/\Below w.heap.size w w':=by
 go_enter func132,ntmps132
 go_wp2_with fail
 go_ret
 refine⟨_,rfl,⟨[_],rfl,some ⟨w.heap.size,0,none⟩,5,rfl,by decide,by decide,by decide,(λe=>by cases e),λ_=>⟨_,0,rfl,by simp,λi x hx=> ?_⟩⟩,by(repeat'(first|(with_reducible exact Below.refl _ _)|(with_reducible assumption)|(with_reducible refine vD ?_ _)|(with_reducible refine Below.alloc ?_ ?_ _)|(with_reducible refine Below.setCell ?_ ?_ _)|(with_reducible refine Below.drew ?_)|go_size))⟩
 match i,hx with
 |0,hx=>simp[XP]at hx;subst hx;exact⟨[_],⟨rfl,by decide⟩,λj u hu=>by cases j<;>simp at hu;subst hu;simp[xU.size];rfl⟩
 |1,hx=>simp[XP]at hx;subst hx;exact⟨[_],⟨rfl,by decide⟩,λj u hu=>by cases j<;>simp at hu;subst hu;simp[xU.size];rfl⟩
 |2,hx=>simp[XP]at hx;subst hx;exact⟨[_],⟨rfl,by decide⟩,λj u hu=>by cases j<;>simp at hu;subst hu;simp[xU.size];rfl⟩
 |3,hx=>simp[XP]at hx;subst hx;exact⟨[_],⟨rfl,by decide⟩,λj u hu=>by cases j<;>simp at hu;subst hu;simp[xU.size];rfl⟩
 |4,hx=>simp[XP]at hx;subst hx;exact⟨[_],⟨rfl,by decide⟩,λj u hu=>by cases j<;>simp at hu;subst hu;simp[xU.size];rfl⟩
 |i+5,hx=>simp[XP]at hx
theorem zlX(l:AcY):(XP.any λp=>Lib.hasPrefix l p.data.toList)=U3 l:=by
 match l with
 |[]=>rfl
 |[a]=>simp[XP,U3,Lib.hasPrefix,bs,List.isPrefixOf]
 |a::b::l=>
  simp only[XP,U3,Lib.hasPrefix,bs,List.isPrefixOf,Abb,List.any_nil,AbI,AbO];rw[AaO];simp only[AaY,If,beq_iff_eq];constructor
  ·rintro(⟨h1,h2⟩|⟨h1,h2⟩|⟨h1,h2⟩|⟨h1,h2⟩|⟨h1,h2⟩)<;>subst h1 h2<;>simp
  ·rintro((((⟨h1,h2⟩|⟨h1,h2⟩)|⟨h1,h2⟩)|⟨h1,h2⟩)|⟨h1,h2⟩)<;>subst h1 h2<;>simp
set_option maxHeartbeats 400000 in
theorem zhg(g n0:Nat)(s p:AcL)(i:Nat)(w:World)(hs:s.size<=4000)(h0:i<=s.size)(hc:w.cell? ⟨n0,0,none⟩=some (.pointer (some ⟨g,0,none⟩)))(hb:wR w g 148 #[.string s,.int .i64 i]):
  Calls prog 133 (#[.string p]++ #[.pointer (some ⟨n0,0,none⟩)]) w λe w'=>e=.returned (.bool (Lib.hasPrefix (s.data.toList.drop i) p.data.toList))/\Below w.heap.size w w':=by
 have c0:w.cell? ⟨g,0,none⟩=some (.string s):=hb.cell 0;have c1:w.cell? ⟨g,1,none⟩=some (.int .i64 i):=hb.cell 1;have hlt':(i:Int)<=(s.size:Int):=by omega
 clear hb
 have he:(s.extract i s.size).data.toList=s.data.toList.drop i:=by
  rw[ByteArray.data_extract];simp;rw[AaJ (by simp)]
 rw[<-he];clear he;show Calls prog 133 #[.string p,.pointer (some ⟨n0,0,none⟩)] w _
 go_enter func133,ntmps133
 go_wp2_with fail
 go_quiet ((go_at_call 134;exact Calls.quiet_of_same (strings_HasPrefix _ _ _)))
 go_wp2_with fail
 go_ret
 exact⟨rfl,by(repeat'(first|(with_reducible exact Below.refl _ _)|(with_reducible assumption)|(with_reducible refine vD ?_ _)|(with_reducible refine Below.alloc ?_ ?_ _)|(with_reducible refine Below.setCell ?_ ?_ _)|(with_reducible refine Below.drew ?_)|go_size))⟩
theorem AD:∀args w,(callFunc 133 args).run prog w=.ok (.enter 133 args) w:=λ_ _=>by kernel_rfl
theorem zc1(g n0:Nat)(s:AcL)(i:Nat)(w:World)(hs:s.size<=4000)(h0:i<=s.size)(hn:n0<w.heap.size)(hc:w.cell? ⟨n0,0,none⟩=some (.pointer (some ⟨g,0,none⟩)))(hb:wR w g 148 #[.string s,.int .i64 i])
  (v:Value) (hv:Rds w v XP):
  Calls prog 131 #[v,.func (.func 133) #[] #[.pointer (some ⟨n0,0,none⟩)]] w λe w'=>e=.returned (.bool (U3 (s.data.toList.drop i)))/\Below w.heap.size w w':=by
 rw[<-zlX];refine Id _ _ AD v XP (λp=>Lib.hasPrefix (s.data.toList.drop i) p.data.toList) w hv λW u x _ hb' hx=> ?_
 obtain⟨rfl,_⟩:=zqa hx;exact zhg g n0 s x i W hs h0 ((hb'.cell (p:=⟨n0,0,none⟩) hn).trans hc) (hb.below hb' hb.lt)
set_option maxHeartbeats 1000000 in
theorem zlY(g:Nat)(s:AcL)(i:Nat)(w:World)(hs:s.size<=4000)(h0:i<s.size)(hb:wR w g 148 #[.string s,.int .i64 i])(hl:Nk s[i].toNat=false)(hd:isDN s[i].toNat=false)(ht:U3 (s.data.toList.drop i)=true)(h2:i+2<=s.size):
  Calls prog 77 #[.pointer (some ⟨g,0,none⟩)] w λe w'=>e=.returned (.tuple #[.agg #[.int .i64 3,.int .i64 i,.string (s.extract i (i+2))],.int .i64 0])/\
   wR w' g 148 #[.string s,.int .i64 ↑(i+2)]/\w.grownBy w' (some g):=by
 have HB:=Lib.hid hb;have c0:w.cell? ⟨g,0,none⟩=some (.string s):=hb.cell 0;have c1:w.cell? ⟨g,1,none⟩=some (.int .i64 i):=hb.cell 1;have hgl:=hb.lt;have hss:=UInt8.toNat_lt s[i];clear hb
 go_enter func77,ntmps77
 go_wp2_with (first
  |(go_at_call 126;refine(QI g s i _ hs h0 (by have:=HB.out;(repeat'(first|(with_reducible assumption)|(with_reducible refine wR.drewN ?_ _)|(with_reducible refine wR.alloc ?_ _)|(with_reducible refine wR.drew ?_)|(with_reducible refine wR.far' ?_ ?_;(first|(simp;done)|(simp;omega)|omega))|(with_reducible apply wR.set';rotate_left)|rfl)))).mono ?_;rintro e w' ⟨rfl,q,rfl⟩)
  |(go_at_call 127;refine(bY _ (by assumption) _).mono ?_;rintro e w' ⟨rfl,rfl⟩)
  |(go_at_call 130;refine(WF _ (by assumption) _).mono ?_;rintro e w' ⟨rfl,rfl⟩)
  |(go_at_call 132;refine(Ie _).mono ?_;rintro e w1 ⟨v,rfl,hv,hb1⟩))
 have g1:wR w1 g 148 #[.string s,.int .i64 i]:=wR.below (by have:=HB.out;(repeat'(first|(with_reducible assumption)|(with_reducible refine wR.drewN ?_ _)|(with_reducible refine wR.alloc ?_ _)|(with_reducible refine wR.drew ?_)|(with_reducible refine wR.far' ?_ ?_;(first|(simp;done)|(simp;omega)|omega))|(with_reducible apply wR.set';rotate_left)|rfl))) hb1 (by simp;omega)
 have bc:wR w1 w.heap.size _ _:=wR.below ((((wR.new' _ _ rfl).alloc _).alloc _).drewN _) hb1 (by simp;omega)
 have br:wR w1 (w.heap.size+1) _ _:=wR.below (((wR.new' _ _ (by simp)).alloc _).drewN _) hb1 (by simp)
 have bt:wR w1 (w.heap.size+1+1) _ _:=wR.below ((wR.new' _ _ (by simp)).drewN _) hb1 (by simp)
 have hb0:Below w.heap.size w w1:=LG (by(repeat'(first|(with_reducible exact Below.refl _ _)|(with_reducible assumption)|(with_reducible refine vD ?_ _)|(with_reducible refine Below.alloc ?_ ?_ _)|(with_reducible refine Below.setCell ?_ ?_ _)|(with_reducible refine Below.drew ?_)|go_size))) hb1
 clear hb1;have HV:=Lib.hid hv;have hn0:=bc.lt;clear hv;refine(zc1 g w.heap.size s i w1 hs (by omega) hn0 (bc.cell 0) g1 v HV.out).mono ?_
 rintro e w2 ⟨rfl,hb2⟩;rw[ht];have g2:=Lib.hid (g1.below hb2 g1.lt);have bc2:=bc.below hb2 bc.lt;have br2:=br.below hb2 br.lt;have bt2:=bt.below hb2 bt.lt;have hs1:w2.heap.size>w.heap.size+1+1:=bt2.lt;have hb3:Below w.heap.size w w2:=LG hb0 hb2;clear g1 bc br bt hb2 hb0 hn0 c0 c1 HV;have c0:w2.cell? ⟨g,0,none⟩=some (.string s):=g2.out.cell 0;have c1:w2.cell? ⟨g,1,none⟩=some (.int .i64 i):=g2.out.cell 1;have f1:w2.frozen? ⟨g,1,none⟩=false:=g2.out.frozen 1;have k0:w2.cell? ⟨w.heap.size,0,none⟩=some (.pointer (some ⟨g,0,none⟩)):=bc2.cell 0;have t0:w2.cell? ⟨w.heap.size+1+1,0,none⟩=some (.int .i64 3):=bt2.cell 0;have t1:w2.cell? ⟨w.heap.size+1+1,1,none⟩=some (.int .i64 i):=bt2.cell 1;have t2:w2.cell? ⟨w.heap.size+1+1,2,none⟩=some (.string ⟨#[]⟩):=bt2.cell 2;have r0:w2.cell? ⟨w.heap.size+1,0,none⟩=some (.int .i64 0):=br2.cell 0;have r1:w2.cell? ⟨w.heap.size+1,1,none⟩=some (.int .i64 0):=br2.cell 1;have r2:w2.cell? ⟨w.heap.size+1,2,none⟩=some (.string ⟨#[]⟩):=br2.cell 2;have ft:∀k,w2.frozen? ⟨w.heap.size+1+1,k,none⟩=false:=bt2.frozen;have fr:∀k,w2.frozen? ⟨w.heap.size+1,k,none⟩=false:=br2.frozen;clear bc2 br2 bt2;have HT:=Lib.hid ht;clear ht;have q1:(i:Int)+2<=(s.size:Int):=by omega
 have q2:IntKind.i64.wrap ((i:Int)+2)=(i:Int)+2:=IntWalk.i64_in _ (by omega)
 have q3:((i:Int)+2).toNat=i+2:=by omega
 go_wp2_with fail
 go_region
 all_goals
  go_wp2_with fail
  refine bodyPost_ret (v:=.tuple #[.agg #[.int .i64 3,.int .i64 i,.string (s.extract i (i+2))],.int .i64 0]) (by simp[results,results77,go_sem,r0,r1,r2]) rfl ⟨rfl,?_,?_⟩
  ·refine wR.drew (wR.far' ?_ (wR.far' ?_ (wR.far' ?_ (wR.set' (by rfl) (wR.far' ?_ g2.out)))))<;>first|(simp;done)|(simp;omega)
  ·have:=gH hb3 (some g);(repeat'(first|(with_reducible assumption)|(with_reducible exact World.grownBy.refl _ _)|(with_reducible refine vI ?_ _)|(with_reducible refine jM ?_ _)|(with_reducible refine tR ?_ ?_ _)|(with_reducible refine eP ?_)|(exact .inl rfl)|(refine .inr ?_;simp;done)|(refine .inr ?_;simp;omega)|(refine .inr ?_;omega)))
end Go.Proofs.YtdnmkinmcdihnaaGreatDoor
namespace Go.Proofs.YtdnmkinmcdihnaaGreatDoor
open Go.Proofs.Tryz
open Go.RowKit
theorem DQ(c:UInt8):Uy c=true↔0<=Lib.indexByte [91,93,59,58,44,45] c:=by
 constructor
 ·intro h
  simp only[Uy,AaY,beq_iff_eq]at h
  rcases h with((((h|h)|h)|h)|h)|h<;>subst h<;>decide
 ·intro h
  revert h;simp only[Lib.indexByte,Uy]
  repeat' split
  all_goals simp_all
  all_goals omega
theorem zlZ(s:AcL)(i:Nat)(h:i<s.size)(hs:Uy s[i]=true):Utf8.encode (s[i].toNat:Int)=s.extract i (i+1):=by
 have h1:(s.extract i (i+1))=⟨#[s[i]]⟩:=by
  apply ByteArray.ext;rw[ByteArray.data_extract];apply Array.ext';have:=WC s i h;simp only[Array.toList_extract,List.extract_eq_take_drop];rw[this];simp
 rw[h1];simp only[Uy,AaY,beq_iff_eq]at hs
 rcases hs with((((h|h)|h)|h)|h)|h<;>rw[h]<;>decide
set_option maxHeartbeats 1000000 in
theorem zhh(g:Nat)(s:AcL)(i:Nat)(w:World)(hs:s.size<=4000)(h0:i<s.size)(hb:wR w g 148 #[.string s,.int .i64 i])(hl:Nk s[i].toNat=false)(hd:isDN s[i].toNat=false)(ht:U3 (s.data.toList.drop i)=false)(hsg:Uy s[i]=true):
  Calls prog 77 #[.pointer (some ⟨g,0,none⟩)] w λe w'=>e=.returned (.tuple #[.agg #[.int .i64 3,.int .i64 i,.string (s.extract i (i+1))],.int .i64 0])/\
   wR w' g 148 #[.string s,.int .i64 ↑(i+1)]/\w.grownBy w' (some g):=by
 have HB:=Lib.hid hb;have c0:w.cell? ⟨g,0,none⟩=some (.string s):=hb.cell 0;have c1:w.cell? ⟨g,1,none⟩=some (.int .i64 i):=hb.cell 1;have hgl:=hb.lt;have hss:=UInt8.toNat_lt s[i];clear hb
 go_enter func77,ntmps77
 go_wp2_with (first
  |(go_at_call 126;refine(QI g s i _ hs h0 (by have:=HB.out;(repeat'(first|(with_reducible assumption)|(with_reducible refine wR.drewN ?_ _)|(with_reducible refine wR.alloc ?_ _)|(with_reducible refine wR.drew ?_)|(with_reducible refine wR.far' ?_ ?_;(first|(simp;done)|(simp;omega)|omega))|(with_reducible apply wR.set';rotate_left)|rfl)))).mono ?_;rintro e w' ⟨rfl,q,rfl⟩)
  |(go_at_call 127;refine(bY _ (by assumption) _).mono ?_;rintro e w' ⟨rfl,rfl⟩)
  |(go_at_call 130;refine(WF _ (by assumption) _).mono ?_;rintro e w' ⟨rfl,rfl⟩)
  |(go_at_call 132;refine(Ie _).mono ?_;rintro e w1 ⟨v,rfl,hv,hb1⟩))
 have g1:wR w1 g 148 #[.string s,.int .i64 i]:=wR.below (by have:=HB.out;(repeat'(first|(with_reducible assumption)|(with_reducible refine wR.drewN ?_ _)|(with_reducible refine wR.alloc ?_ _)|(with_reducible refine wR.drew ?_)|(with_reducible refine wR.far' ?_ ?_;(first|(simp;done)|(simp;omega)|omega))|(with_reducible apply wR.set';rotate_left)|rfl))) hb1 (by simp;omega)
 have bc:wR w1 w.heap.size _ _:=wR.below ((((wR.new' _ _ rfl).alloc _).alloc _).drewN _) hb1 (by simp;omega)
 have br:wR w1 (w.heap.size+1) _ _:=wR.below (((wR.new' _ _ (by simp)).alloc _).drewN _) hb1 (by simp)
 have bt:wR w1 (w.heap.size+1+1) _ _:=wR.below ((wR.new' _ _ (by simp)).drewN _) hb1 (by simp)
 have hb0:Below w.heap.size w w1:=LG (by(repeat'(first|(with_reducible exact Below.refl _ _)|(with_reducible assumption)|(with_reducible refine vD ?_ _)|(with_reducible refine Below.alloc ?_ ?_ _)|(with_reducible refine Below.setCell ?_ ?_ _)|(with_reducible refine Below.drew ?_)|go_size))) hb1
 clear hb1;have HV:=Lib.hid hv;have hn0:=bc.lt;clear hv;refine(zc1 g w.heap.size s i w1 hs (by omega) hn0 (bc.cell 0) g1 v HV.out).mono ?_
 rintro e w2 ⟨rfl,hb2⟩;rw[ht];have g2:=Lib.hid (g1.below hb2 g1.lt);have bc2:=bc.below hb2 bc.lt;have br2:=br.below hb2 br.lt;have bt2:=bt.below hb2 bt.lt;have hs1:w2.heap.size>w.heap.size+1+1:=bt2.lt;have hb3:Below w.heap.size w w2:=LG hb0 hb2;clear g1 bc br bt hb2 hb0 hn0 c0 c1 HV;have c0:w2.cell? ⟨g,0,none⟩=some (.string s):=g2.out.cell 0;have c1:w2.cell? ⟨g,1,none⟩=some (.int .i64 i):=g2.out.cell 1;have f1:w2.frozen? ⟨g,1,none⟩=false:=g2.out.frozen 1;have k0:w2.cell? ⟨w.heap.size,0,none⟩=some (.pointer (some ⟨g,0,none⟩)):=bc2.cell 0;have t0:w2.cell? ⟨w.heap.size+1+1,0,none⟩=some (.int .i64 3):=bt2.cell 0;have t1:w2.cell? ⟨w.heap.size+1+1,1,none⟩=some (.int .i64 i):=bt2.cell 1;have t2:w2.cell? ⟨w.heap.size+1+1,2,none⟩=some (.string ⟨#[]⟩):=bt2.cell 2;have r0:w2.cell? ⟨w.heap.size+1,0,none⟩=some (.int .i64 0):=br2.cell 0;have r1:w2.cell? ⟨w.heap.size+1,1,none⟩=some (.int .i64 0):=br2.cell 1;have r2:w2.cell? ⟨w.heap.size+1,2,none⟩=some (.string ⟨#[]⟩):=br2.cell 2;have ft:∀k,w2.frozen? ⟨w.heap.size+1+1,k,none⟩=false:=bt2.frozen;have fr:∀k,w2.frozen? ⟨w.heap.size+1,k,none⟩=false:=br2.frozen;clear bc2 br2 bt2;have HT:=Lib.hid ht;clear ht;obtain⟨k,hk⟩:∃k,k=Lib.indexByte [91,93,59,58,44,45] s[i]:=⟨_,rfl⟩;have hk0:0<=k:=by rw[hk];exact(DQ _).1 hsg
 have HI:Hid (∀W,Calls prog 135 #[.string ⟨#[91,93,59,58,44,45]⟩,.int .u8 s[i].toNat] W λe w'=>e=.returned (.int .i64 k)/\W=w'):=λW=>by
  refine(strings_IndexByte _ _ W).mono λe w' ⟨h1,h2⟩=>⟨?_,h2.symm⟩
  rw[h1,hk];simp
 clear hk
 go_wp2_with (go_at_call 135;refine(HI.out _).mono ?_;rintro e w' ⟨rfl,rfl⟩);refine bodyPost_ret (v:=.tuple #[.agg #[.int .i64 3,.int .i64 i,.string (Utf8.encode s[i].toNat)],.int .i64 0]) (by simp[results,results77,go_sem,r0,r1,r2]) rfl ⟨by rw[zlZ s i h0 hsg],?_,?_⟩
 ·refine wR.far' ?_ (wR.far' ?_ (wR.far' ?_ (wR.set' (by rfl) (wR.far' ?_ g2.out))))<;>first|(simp;done)|(simp;omega)
 ·have:=gH hb3 (some g);(repeat'(first|(with_reducible assumption)|(with_reducible exact World.grownBy.refl _ _)|(with_reducible refine vI ?_ _)|(with_reducible refine jM ?_ _)|(with_reducible refine tR ?_ ?_ _)|(with_reducible refine eP ?_)|(exact .inl rfl)|(refine .inr ?_;simp;done)|(refine .inr ?_;simp;omega)|(refine .inr ?_;omega)))
set_option maxHeartbeats 1000000 in
theorem zhi(g:Nat)(s:AcL)(i:Nat)(w:World)(hs:s.size<=4000)(h0:i<s.size)(hb:wR w g 148 #[.string s,.int .i64 i])(hl:Nk s[i].toNat=false)(hd:isDN s[i].toNat=false)(ht:U3 (s.data.toList.drop i)=false)(hsg:Uy s[i]=false):
  Calls prog 77 #[.pointer (some ⟨g,0,none⟩)] w λe w'=>e=.returned (.tuple #[.agg #[.int .i64 3,.int .i64 i,.string ⟨#[]⟩],.int .i64 1])/\w.grownBy w' (some g):=by
 have HB:=Lib.hid hb;have c0:w.cell? ⟨g,0,none⟩=some (.string s):=hb.cell 0;have c1:w.cell? ⟨g,1,none⟩=some (.int .i64 i):=hb.cell 1;have hgl:=hb.lt;have hss:=UInt8.toNat_lt s[i];clear hb
 go_enter func77,ntmps77
 go_wp2_with (first
  |(go_at_call 126;refine(QI g s i _ hs h0 (by have:=HB.out;(repeat'(first|(with_reducible assumption)|(with_reducible refine wR.drewN ?_ _)|(with_reducible refine wR.alloc ?_ _)|(with_reducible refine wR.drew ?_)|(with_reducible refine wR.far' ?_ ?_;(first|(simp;done)|(simp;omega)|omega))|(with_reducible apply wR.set';rotate_left)|rfl)))).mono ?_;rintro e w' ⟨rfl,q,rfl⟩)
  |(go_at_call 127;refine(bY _ (by assumption) _).mono ?_;rintro e w' ⟨rfl,rfl⟩)
  |(go_at_call 130;refine(WF _ (by assumption) _).mono ?_;rintro e w' ⟨rfl,rfl⟩)
  |(go_at_call 132;refine(Ie _).mono ?_;rintro e w1 ⟨v,rfl,hv,hb1⟩))
 have g1:wR w1 g 148 #[.string s,.int .i64 i]:=wR.below (by have:=HB.out;(repeat'(first|(with_reducible assumption)|(with_reducible refine wR.drewN ?_ _)|(with_reducible refine wR.alloc ?_ _)|(with_reducible refine wR.drew ?_)|(with_reducible refine wR.far' ?_ ?_;(first|(simp;done)|(simp;omega)|omega))|(with_reducible apply wR.set';rotate_left)|rfl))) hb1 (by simp;omega)
 have bc:wR w1 w.heap.size _ _:=wR.below ((((wR.new' _ _ rfl).alloc _).alloc _).drewN _) hb1 (by simp;omega)
 have br:wR w1 (w.heap.size+1) _ _:=wR.below (((wR.new' _ _ (by simp)).alloc _).drewN _) hb1 (by simp)
 have bt:wR w1 (w.heap.size+1+1) _ _:=wR.below ((wR.new' _ _ (by simp)).drewN _) hb1 (by simp)
 have hb0:Below w.heap.size w w1:=LG (by(repeat'(first|(with_reducible exact Below.refl _ _)|(with_reducible assumption)|(with_reducible refine vD ?_ _)|(with_reducible refine Below.alloc ?_ ?_ _)|(with_reducible refine Below.setCell ?_ ?_ _)|(with_reducible refine Below.drew ?_)|go_size))) hb1
 clear hb1;have HV:=Lib.hid hv;have hn0:=bc.lt;clear hv;refine(zc1 g w.heap.size s i w1 hs (by omega) hn0 (bc.cell 0) g1 v HV.out).mono ?_
 rintro e w2 ⟨rfl,hb2⟩;rw[ht];have g2:=Lib.hid (g1.below hb2 g1.lt);have bc2:=bc.below hb2 bc.lt;have br2:=br.below hb2 br.lt;have bt2:=bt.below hb2 bt.lt;have hs1:w2.heap.size>w.heap.size+1+1:=bt2.lt;have hb3:Below w.heap.size w w2:=LG hb0 hb2;clear g1 bc br bt hb2 hb0 hn0 c0 c1 HV;have c0:w2.cell? ⟨g,0,none⟩=some (.string s):=g2.out.cell 0;have c1:w2.cell? ⟨g,1,none⟩=some (.int .i64 i):=g2.out.cell 1;have f1:w2.frozen? ⟨g,1,none⟩=false:=g2.out.frozen 1;have k0:w2.cell? ⟨w.heap.size,0,none⟩=some (.pointer (some ⟨g,0,none⟩)):=bc2.cell 0;have t0:w2.cell? ⟨w.heap.size+1+1,0,none⟩=some (.int .i64 3):=bt2.cell 0;have t1:w2.cell? ⟨w.heap.size+1+1,1,none⟩=some (.int .i64 i):=bt2.cell 1;have t2:w2.cell? ⟨w.heap.size+1+1,2,none⟩=some (.string ⟨#[]⟩):=bt2.cell 2;have r0:w2.cell? ⟨w.heap.size+1,0,none⟩=some (.int .i64 0):=br2.cell 0;have r1:w2.cell? ⟨w.heap.size+1,1,none⟩=some (.int .i64 0):=br2.cell 1;have r2:w2.cell? ⟨w.heap.size+1,2,none⟩=some (.string ⟨#[]⟩):=br2.cell 2;have ft:∀k,w2.frozen? ⟨w.heap.size+1+1,k,none⟩=false:=bt2.frozen;have fr:∀k,w2.frozen? ⟨w.heap.size+1,k,none⟩=false:=br2.frozen;clear bc2 br2 bt2;have HT:=Lib.hid ht;clear ht;obtain⟨k,hk⟩:∃k,k=Lib.indexByte [91,93,59,58,44,45] s[i]:=⟨_,rfl⟩;have hk0:¬0<=k:=by rw[hk];intro h;rw[(DQ _).2 h]at hsg;cases hsg
 have HI:Hid (∀W,Calls prog 135 #[.string ⟨#[91,93,59,58,44,45]⟩,.int .u8 s[i].toNat] W λe w'=>e=.returned (.int .i64 k)/\W=w'):=λW=>by
  refine(strings_IndexByte _ _ W).mono λe w' ⟨h1,h2⟩=>⟨?_,h2.symm⟩
  rw[h1,hk];simp
 clear hk
 go_wp2_with (go_at_call 135;refine(HI.out _).mono ?_;rintro e w' ⟨rfl,rfl⟩);refine bodyPost_ret (v:=.tuple #[.agg #[.int .i64 3,.int .i64 i,.string ⟨#[]⟩],.int .i64 1]) (by simp[results,results77,go_sem,r0,r1,r2]) rfl ⟨rfl,?_⟩
 have:=gH hb3 (some g);(repeat'(first|(with_reducible assumption)|(with_reducible exact World.grownBy.refl _ _)|(with_reducible refine vI ?_ _)|(with_reducible refine jM ?_ _)|(with_reducible refine tR ?_ ?_ _)|(with_reducible refine eP ?_)|(exact .inl rfl)|(refine .inr ?_;simp;done)|(refine .inr ?_;simp;omega)|(refine .inr ?_;omega)))
theorem zl0(g:Nat)(s:AcL)(i:Nat)(w:World)(hs:s.size<=4000)(h0:i<s.size)(hb:wR w g 148 #[.string s,.int .i64 i]):
  Calls prog 77 #[.pointer (some ⟨g,0,none⟩)] w λe w'=>∃k x,e=.returned (.tuple #[.agg #[.int .i64 k,.int .i64 i,.string x],.int .i64 (nA (xO (s.data.toList.drop i)).1 (xO (s.data.toList.drop i)).2 s[i])])/\w.grownBy w' (some g)/\
   (nA (xO (s.data.toList.drop i)).1 (xO (s.data.toList.drop i)).2 s[i]=0->k=(xO (s.data.toList.drop i)).1/\x=s.extract i (i+(xO (s.data.toList.drop i)).2)/\wR w' g 148 #[.string s,.int .i64 ↑(i+(xO (s.data.toList.drop i)).2)]):=by
 have hd:=WC s i h0;cases hl:Nk s[i].toNat with
 |true=>
  refine(zc0 g s i w hs h0 hb hl).mono ?_;rintro e w' ⟨n,er,rfl,hn,he,hbl,hg⟩
  have ht:xO (s.data.toList.drop i)=(1,n):=by
   rw[hn,hd,xO,As (show isL s[i]=true from hl),Ab7,As (by simp[hl])]
   simp[Abn];rfl
  rw[ht];have hb':nA 1 n s[i]=er:=by rw[he];simp[nA]
  rw[hb'];exact⟨1,_,rfl,hg,λ_=>⟨rfl,rfl,hbl⟩⟩
 |false=>
  cases hdg:isDN s[i].toNat with
  |true=>
   refine(zfb g s i w hs h0 hb hl hdg).mono ?_;rintro e w' ⟨n,er,rfl,hn,he,hbl,hg⟩
   have ht:xO (s.data.toList.drop i)=(2,n):=by
    rw[hn,hd,xO,An (show¬isL s[i]=true by unfold isL;simp[hl]),As (show isD s[i]=true from hdg),Ab7,As (by simp[hdg])]
    simp[Abn];rfl
   rw[ht];have hb':nA 2 n s[i]=er:=by rw[he];simp[nA]
   rw[hb'];exact⟨2,_,rfl,hg,λ_=>⟨rfl,rfl,hbl⟩⟩
  |false=>
   have nl:¬isL s[i]=true:=by unfold isL;simp[hl]
   have nd:¬isD s[i]=true:=by unfold isD;simp[hdg]
   cases ht2:U3 (s.data.toList.drop i)with
   |true=>
    have h2:i+2<=s.size:=by
     rw[hd]at ht2
     cases hr:s.data.toList.drop (i+1)with
     |nil=>rw[hr]at ht2;simp[U3]at ht2
     |cons a r=>
      have:=AS List.length hr;simp at this;omega
    refine(zlY g s i w hs h0 hb hl hdg ht2 h2).mono ?_;rintro e w' ⟨rfl,hbl,hg⟩
    have ht:xO (s.data.toList.drop i)=(3,2):=by
     rw[hd]at ht2⊢
     rw[xO,An nl,An nd,As ht2]
    rw[ht];exact⟨3,_,rfl,hg,λ_=>⟨rfl,rfl,hbl⟩⟩
   |false=>
    cases hsg:Uy s[i]with
    |true=>
     refine(zhh g s i w hs h0 hb hl hdg ht2 hsg).mono ?_;rintro e w' ⟨rfl,hbl,hg⟩
     have ht:xO (s.data.toList.drop i)=(3,1):=by
      rw[hd]at ht2⊢
      rw[xO,An nl,An nd,An (by simp[ht2]),As hsg]
     rw[ht];exact⟨3,_,rfl,hg,λ_=>⟨rfl,rfl,hbl⟩⟩
    |false=>
     refine(zhi g s i w hs h0 hb hl hdg ht2 hsg).mono ?_;rintro e w' ⟨rfl,hg⟩
     have ht:xO (s.data.toList.drop i)=(0,0):=by
      rw[hd]at ht2⊢
      rw[xO,An nl,An nd,An (by simp[ht2]),An (by simp[hsg])]
     rw[ht];exact⟨3,_,rfl,hg,λh=>by simp[nA]at h⟩
end Go.Proofs.YtdnmkinmcdihnaaGreatDoor
namespace Go.Proofs.YtdnmkinmcdihnaaGreatDoor
open Go.Proofs.Tryz
open Go.RowKit
theorem zqP:LH prog 91 150 3 32:=LH.mk' underlying91 (z:=.agg #[.int .i64 0,.int .i64 0,.string ⟨#[]⟩]) (by kernel_rfl) rfl
theorem zoj(s:AcL)(w:World)(hs:4000<s.size):Calls prog 39 #[.string s] w λe w'=>e=.returned (.tuple #[.slice none 0 0,.int .i64 0,.int .i64 2])/\w=w':=by
 go_enter func39,ntmps39
 go_wp2_with fail
 go_ret3
 exact⟨rfl,rfl⟩
theorem DR{α:Type}[xU α]{w w':World}{lo base g:Nat}{E:AcN}{v:Value}{xs:List α}(h:Own w lo base E v xs)(hg:w.grownBy w' (some g))(hlt:g<lo):Own w' lo base E v xs:=
 h.kept hg.size λb hb hb'=>hg.block b hb' λe=>by injection e with e;omega
theorem zbb{α:Type}[xU α](w:World)(B:Nat):UZ w B (.slice none 0 0) ([]:List α):=
 ⟨[_],rfl,none,0,rfl,by simp,by simp,by simp,λ_=>rfl,λh=>At h (by simp)⟩
theorem zhj(s:AcL)(i n:Nat):s.extract i (i+n)=bs ((s.data.toList.drop i).take n):=by
 apply ByteArray.ext;rw[ByteArray.data_extract];apply Array.ext';simp only[Array.toList_extract,List.extract_eq_take_drop,bs]
 congr 1;omega
theorem DS:∀(l:AcY) (note:Bool),uS (l.drop (uS l note)) false=0:=by
 intro l note;cases h:l.drop (uS l note)with
 |nil=>rfl
 |cons c r=>
  obtain⟨h1,h2⟩:=Yu l note c r h;rw[uS,An (by simpa using h1),An (by simp[h2])]
set_option maxHeartbeats 1000000 in
theorem zhk(s:AcL)(w:World)(hs:s.size<=4000):Calls prog 39 #[.string s] w λe w'=>
  ∃v,e=.returned (.tuple #[v,.int .i64 (rG s.data.toList 0 false [] 0).2.1,.int .i64 (rG s.data.toList 0 false [] 0).2.2])/\UZ w' w.heap.size v (rG s.data.toList 0 false [] 0).1/\Below w.heap.size w w':=by
 obtain⟨R,hR⟩:∃R,R=rG s.data.toList 0 false [] 0:=⟨_,rfl⟩;rw[<-hR];have HR:=Lib.hid hR;clear hR
 go_enter func39,ntmps39
 go_wp2_with (go_at_call 76;refine(ze9 w.heap.size s 0 _ hs (by omega) (wR.new' _ _ rfl)).mono ?_;rintro e w1 ⟨rfl,hb1,hg1⟩)
 have hh:0+uS (s.data.toList.drop 0) false<=s.size:=by have:=U4 (s.data.toList.drop 0) false;simpa using this
 obtain⟨i0,hi0⟩:∃i0,i0=0+uS (s.data.toList.drop 0) false:=⟨_,rfl⟩;rw[<-hi0]at hb1 hh
 have HB1:=Lib.hid hb1
 have hr0:Hid (rG (s.data.toList.drop i0) i0 false [] 0=R/\uS (s.data.toList.drop i0) false=0):=by
  show _/\_
  rw[HR.out,eR s.data.toList 0 false []];simp only[Abv,Aat]at hi0
  rw[hi0,Aat];exact⟨rfl,DS _ _⟩
 have hw1:Below w.heap.size w w1:=YN (Mx (gH (by(repeat'(first|(with_reducible exact Below.refl _ _)|(with_reducible assumption)|(with_reducible refine vD ?_ _)|(with_reducible refine Below.alloc ?_ ?_ _)|(with_reducible refine Below.setCell ?_ ?_ _)|(with_reducible refine Below.drew ?_)|go_size))) (some w.heap.size)) hg1) (IN _) (IN _)
 have hsz1:w.heap.size+1<=w1.heap.size:=hb1.lt;clear hi0 hb1 hg1
 go_loopg [6] s.size (λn v wr=>∃(i:Nat) (xs:AcX),i<=s.size/\s.size-i<=n/\xs.length<=i/\Hid (wR wr w.heap.size 148 #[.string s,.int .i64 i])/\Hid (Own wr (w.heap.size+1) (w.heap.size+1) 150 v xs)/\
  Hid (rG (s.data.toList.drop i) i false xs 0=R/\uS (s.data.toList.drop i) false=0)/\Below w.heap.size w wr/\w.heap.size+1<=wr.heap.size)
 case atStart=>exact⟨i0,[],hh,by omega,Is _,HB1.out,Own.nil _ _ (IN _),hr0,hw1,hsz1⟩
 case round=>
  obtain⟨i,xs,hi,hm,hxs,HB,HO,HS,hw,hsz⟩:=hrel;clear hr0 HB1 hw1 hsz1 hh;have c1:wr.cell? ⟨w.heap.size,1,none⟩=some (.int .i64 i):=HB.out.cell 1
  by_cases hlt:i<s.size
  ·have hlt':(i:Int)<(s.size:Int):=by omega
   have hd:=Lib.hid (WC s i hlt);have hnx:=Yu (s.data.toList.drop i) false s[i] (s.data.toList.drop (i+1)) (by rw[HS.out.2,Abv];exact hd.out)
   have hstep:Hid (rG (s.data.toList.drop i) i false xs 0=if nA (xO (s.data.toList.drop i)).1 (xO (s.data.toList.drop i)).2 s[i]=0 then rG (s.data.toList.drop (i+1)) (i+1) false (xs++[⟨(xO (s.data.toList.drop i)).1,i,bs ((s.data.toList.drop i).take (xO (s.data.toList.drop i)).2)⟩]) ((xO (s.data.toList.drop i)).2-1)else([],i,nA (xO (s.data.toList.drop i)).1 (xO (s.data.toList.drop i)).2 s[i])):=by
    show _=_
    rw[hd.out,rG,An (by simpa using hnx.1),An (by simp[hnx.2])]
   have hle:=DP (s.data.toList.drop i);have hpos:=Gk (s.data.toList.drop i);have hkk:=zcY (s.data.toList.drop i);generalize hta:xO (s.data.toList.drop i)=kn at hstep hle hpos hkk
   obtain⟨kd,n⟩:=kn;have hcall:=zl0 w.heap.size s i wr hs hlt HB.out;rw[hta]at hcall
   simp only at hcall hstep hle hpos hkk
   generalize hbd:nA kd n s[i]=bd at hcall hstep
   have HC:=Lib.hid hcall;have HTA:=Lib.hid hta;have HBD:=Lib.hid hbd;clear hcall hta hbd hnx
   by_cases hb0:bd=0
   ·subst hb0
    go_wp2_with (first
     |(
       go_at_call 77
       refine HC.out.mono ?_;rintro e w2 ⟨k,x,rfl,hg2,hok⟩;obtain⟨rfl,rfl,hbl⟩:=hok rfl;have hown2:=Lib.hid (DR HO.out hg2 (by omega))
       have HBL:=Lib.hid hbl;have HG2:=Lib.hid hg2;have hsz2:=hg2.size;clear hok hbl hg2)
     |(
       at_builtin
       refine LI (α:=rV) rfl (.tmp 36) (.tmp 38) rfl zqP rfl (hown2.out.alloc _) rfl (by simp) (y:=⟨kd,i,s.extract i (i+n)⟩) ⟨rfl,by unfold xE;simp;omega,by unfold xE;simp;omega,by rw[Aco];simp;omega⟩ (by simp only[xU.bytes];omega) (by omega) (by simp;omega) ?_
       rintro v' w3 hown3 hg3 hb3;have HO3:=Lib.hid hown3;have hbl3:wR w3 w.heap.size 148 #[.string s,.int .i64 ↑(i+n)]:=wR.below (HBL.out.alloc _) hb3 (by omega)
       have HBL3:=Lib.hid hbl3;have HB3:=Lib.hid hb3;clear hown3 hg3 hbl3 hb3))
    have hn1:1<=n:=hpos (by intro h;subst h;have:=HBD.out;simp[nA]at this)
    have hln:i+n<=s.size:=by simp at hle;omega
    refine(ze9 w.heap.size s (i+n) w3 hs hln HBL3.out).mono ?_;rintro e w4 ⟨rfl,hb4,hg4⟩;have hsk:=U4 (s.data.toList.drop (i+n)) false;have hsk0:=DS (s.data.toList.drop (i+n)) false;rw[Ab8]at hsk0
    obtain⟨i2,hi2⟩:∃i2,i2=i+n+uS (s.data.toList.drop (i+n)) false:=⟨_,rfl⟩;rw[<-hi2]at hb4 hsk0
    have hi2l:i2<=s.size:=by simp at hsk;omega
    have HI2:=Lib.hid hi2;have hge:i+n<=i2:=by omega
    clear hi2 hsk;have hO4:Hid (Own w4 (w.heap.size+1) (w.heap.size+1) 150 v' (xs++[⟨kd,i,s.extract i (i+n)⟩])):=DR HO3.out hg4 (by omega)
    have hS4:Hid (rG (s.data.toList.drop i2) i2 false (xs++[⟨kd,i,s.extract i (i+n)⟩]) 0=R/\uS (s.data.toList.drop i2) false=0):=by
     refine⟨?_,hsk0⟩
     rw[<-HS.out.1,hstep.out,As (by first|exact HBD.out|trivial),<-zhj,MO (s.data.toList.drop (i+1)) _ _ _ (n-1) (by simp;omega),Ab8,
       show i+1+(n-1)=i+n from by omega,eR (s.data.toList.drop (i+n)),Ab8,<-HI2.out]
    have z3:=HB3.out.size;have z4:=hg4.size;simp only[World.size_alloc]at z3
    have hB4:Below w.heap.size w w4:=by
     have b1:=hw.trans (YN HG2.out (IN _) (by omega))
     have b2:Below w.heap.size w w3:=(b1.alloc (by omega) _).trans (HB3.out.mono (by omega))
     exact b2.trans (YN hg4 (IN _) (by omega))
    have hlen4:(xs++[(⟨kd,i,s.extract i (i+n)⟩:rV)]).length<=i2:=by simp;omega
    have hsz4:w.heap.size+1<=w4.heap.size:=by omega
    have HBL4:=Lib.hid hb4;clear hg4 hb4 HO3 HBL3 HB3 hsk0
    go_wp2_with fail
    go_roundg (s.size-i2)
    case measure=>omega
    case rel=>exact⟨i2,_,hi2l,IN _,hlen4,HBL4,hO4,hS4,hB4,hsz4⟩
   ·have hb0':(bd !=0)=true:=by simp[hb0]
    have H0:=Lib.hid hb0;clear hb0
    go_wp2_with (go_at_call 77;refine(HC.out).mono ?_;rintro e w2 ⟨k,x,rfl,hg2,hok⟩)
    go_quiet (fail)
    go_wp2_with fail
    go_ret3
    have hfin:=HS.out.1;rw[hstep.out,An H0.out]at hfin
    rw[<-hfin];have hsz2:=hg2.size;have hwx:=hw.trans (YN hg2 (IN _) (by omega))
    exact⟨_,rfl,zbb _ _,by(repeat'(first|(with_reducible exact Below.refl _ _)|(with_reducible assumption)|(with_reducible refine vD ?_ _)|(with_reducible refine Below.alloc ?_ ?_ _)|(with_reducible refine Below.setCell ?_ ?_ _)|(with_reducible refine Below.drew ?_)|go_size))⟩
  ·have hlt':¬(i:Int)<(s.size:Int):=by omega
   go_wp2_with fail
   go_ret3
   have hfin:=HS.out.1;rw[Ab6 (by simpa using hlt),rG]at hfin
   rw[<-hfin];exact⟨_,rfl,HO.out.fresh.more (by omega),by(repeat'(first|(with_reducible exact Below.refl _ _)|(with_reducible assumption)|(with_reducible refine vD ?_ _)|(with_reducible refine Below.alloc ?_ ?_ _)|(with_reducible refine Below.setCell ?_ ?_ _)|(with_reducible refine Below.drew ?_)|go_size))⟩
end Go.Proofs.YtdnmkinmcdihnaaGreatDoor
namespace Go.Proofs.YtdnmkinmcdihnaaGreatDoor
open Go.Proofs.Tryz
open Go.RowKit
end Go.Proofs.YtdnmkinmcdihnaaGreatDoor
namespace Go.Proofs.YtdnmkinmcdihnaaGreatDoor
open Go.Proofs.Tryz
def DT(L:AcY):Nat->AcX->Prop
 |_,[]=>True
 |lo,t::ts=>∃j n:Nat,lo<=j/\1<=n/\j+n<=L.length/\t.at_=j/\t.text=bs ((L.drop j).take n)/\(∃c r,L.drop j=c::r/\xO (c::r)=(t.kind.toNat,n)/\0<=t.kind/\nA t.kind.toNat n c=0)/\DT L (j+n) ts
theorem DT.mono{L:AcY}:∀ {ts:AcX} {lo lo':Nat},lo'<=lo->DT L lo ts->DT L lo' ts
 |[],_,_,_,_=>trivial
 |t::ts,lo,lo',h,⟨j,n,h1,h2⟩=>⟨j,n,by omega,h2⟩
theorem Xr(L:AcY):∀(l:AcY) (i:Nat) (note:Bool) (out:AcX) (k:Nat),L.drop i=l->k<=l.length->(rG l i note out k).2.2=0->
  ∃new,(rG l i note out k).1=out++new/\DT L (i+k) new/\(rG l i note out k).2.1=0
 |[],i,note,out,k,hL,hk,h=>⟨[],by simp[rG],trivial,by simp[rG]⟩
 |c::r,i,note,out,k+1,hL,hk,h=>by
  have hr:L.drop (i+1)=r:=by rw[<-Ab8,hL];rfl
  obtain⟨new,h1,h2,h3⟩:=Xr L r (i+1) note out k hr (by simpa using hk) h
  exact⟨new,h1,by rw[show i+(k+1)=i+1+k from by omega];exact h2,h3⟩
 |c::r,i,note,out,0,hL,hk,h=>by
  have hr:L.drop (i+1)=r:=by rw[<-Ab8,hL];rfl
  rw[rG]at h⊢
  by_cases h1:(note||c==37)=true
  ·rw[As h1]at h⊢
   obtain⟨new,a,b,d⟩:=Xr L r (i+1) _ out 0 hr (by omega) h
   exact⟨new,a,b.mono (by omega),d⟩
  ·rw[An h1]at h⊢
   by_cases h2:Zu c=true
   ·rw[As h2]at h⊢
    obtain⟨new,a,b,d⟩:=Xr L r (i+1) _ out 0 hr (by omega) h
    exact⟨new,a,b.mono (by omega),d⟩
   ·rw[An h2]at h⊢
    have hle:=DP (c::r);have hpos:=Gk (c::r);cases hta:xO (c::r)with
    |mk kd n=>
     rw[hta]at h hle hpos
     simp only at h hle hpos⊢
     by_cases hb:nA kd n c=0
     ·rw[As hb]at h⊢
      have hn:1<=n:=hpos (by rintro rfl;simp[nA]at hb)
      obtain⟨new,a,b,d⟩:=Xr L r (i+1) _ _ (n-1) hr (by simp at hle;omega) h
      have hll:L.length=i+(r.length+1):=by
       have:=AS List.length hL;simp at this;omega
      refine⟨⟨kd,i,bs ((c::r).take n)⟩::new,by rw[a];simp,⟨i,n,by omega,hn,by simp at hle;omega,rfl,by rw[hL],⟨c,r,hL,by simpa using hta,by simp,by simpa using hb⟩,?_⟩,d⟩
      rw[show i+n=i+1+(n-1)from by omega];exact b
     ·rw[An hb]at h
      exact At h hb
theorem U5(L:AcY):∀(l:AcY) (i:Nat) (note:Bool) (out:AcX) (k:Nat),(rG l i note out k).2.2≠0->(rG l i note out k).1=[]
 |[],i,note,out,k,h=>by simp[rG]at h
 |c::r,i,note,out,k+1,h=>U5 L r (i+1) note out k h
 |c::r,i,note,out,0,h=>by
  rw[rG]at h⊢
  by_cases h1:(note||c==37)=true
  ·rw[As h1]at h⊢;exact U5 L r _ _ _ _ h
  ·rw[An h1]at h⊢
   by_cases h2:Zu c=true
   ·rw[As h2]at h⊢;exact U5 L r _ _ _ _ h
   ·rw[An h2]at h⊢
    by_cases hb:nA (xO (c::r)).1 (xO (c::r)).2 c=0
    ·simp only[As hb]at h⊢;exact U5 L r _ _ _ _ h
    ·simp only[An hb]
theorem zl1{l:AcY}(h:(pM l).2.2≠0):(pM l).1=[]:=by
 unfold pM at h⊢
 split
 ·rfl
 ·rename_i hh;rw[An hh]at h;exact U5 l _ _ _ _ _ h
theorem Gl{l:AcY}(h:(pM l).2.2=0):DT l 0 (pM l).1/\(pM l).2.1=0/\l.length<=4000:=by
 unfold pM at h⊢
 split
 ·rename_i hh;rw[As hh]at h;simp at h
 ·rename_i hh
  rw[An hh]at h
  obtain⟨new,a,b,d⟩:=Xr l l 0 false [] 0 rfl (by omega) h
  rw[a];exact⟨b,d,by omega⟩
theorem zhl{c:UInt8}{r:AcY}(h:(xO (c::r)).1≠0):c≠37/\Zu c=false:=by
 have key:∀d:UInt8,(d=37\/d=32\/d=9\/d=10)->c=d->False:=by
  intro d hd hc;apply h;subst hc;have h1:isL c=false:=by rcases hd with rfl|rfl|rfl|rfl<;>decide
  have h2:isD c=false:=by rcases hd with rfl|rfl|rfl|rfl<;>decide
  have h3:Uy c=false:=by rcases hd with rfl|rfl|rfl|rfl<;>decide
  have h4:U3 (c::r)=false:=by
   cases r with
   |nil=>rfl
   |cons a r=>rcases hd with rfl|rfl|rfl|rfl<;>simp[U3]
  rw[xO,An (by simp[h1]),An (by simp[h2]),An (by simp[h4]),An (by simp[h3])]
 refine⟨λe=>key 37 (by simp) e,?_⟩
 cases hb:Zu c with
 |false=>rfl
 |true=>
  simp only[Zu,AaY,beq_iff_eq]at hb
  rcases hb with(e|e)|e
  ·exact(key 32 (by simp) e).elim
  ·exact(key 9 (by simp) e).elim
  ·exact(key 10 (by simp) e).elim
theorem zqQ(kind:Int)(s:AcL):((pM s.data.toList).2.2=0/\∃t,(pM s.data.toList).1=[t]/\t.kind=kind/\t.text=s)↔VZ kind s.data.toList=true:=by
 constructor
 ·rintro⟨h,t,ht,hk,hx⟩
  obtain⟨hc,_,hl⟩:=Gl h;rw[ht]at hc
  obtain⟨j,n,h0,h1,h2,h3,h4,⟨c,r,h5,h6,h7,h8⟩,_⟩:=hc;have hsz:(bs ((s.data.toList.drop j).take n)).data.toList.length=n:=by simp[bs];simp at h2;omega
  rw[<-h4,hx]at hsz
  have hj:j=0:=by omega
  subst hj;rw[Abv]at h5
  rw[h5]at h2 hl hsz⊢
  simp only[VZ,h6];simp[h8,<-hk];simp at hl hsz
  refine⟨⟨by omega,?_⟩,by omega⟩
  omega
 ·intro h
  cases hs:s.data.toList with
  |nil=>rw[hs]at h;cases h
  |cons c r=>
   rw[hs]at h
   simp only[VZ,If,decide_eq_true_eq]at h
   obtain⟨⟨⟨h1,h2⟩,h3⟩,h4⟩:=h;have hk0:(xO (c::r)).1≠0:=by intro e;rw[e]at h4;simp[nA]at h4
   obtain⟨n37,nbl⟩:=zhl hk0
   have hsc:pM (c::r)=([⟨kind,0,s⟩],0,0):=by
    unfold pM;rw[An (by omega),rG,An (by simpa using n37),An (by simp[nbl])]
    have h4':nA (xO (c::r)).1 (c::r).length c=0:=by rw[<-h3];exact h4
    simp only[h3,h2];rw[As h4'];rw[MO r _ _ _ _ (by simp),AaJ (by simp),Ab6 (by simp),rG,<-hs]
    rfl
   rw[hsc];exact⟨rfl,_,rfl,rfl,rfl⟩
end Go.Proofs.YtdnmkinmcdihnaaGreatDoor
namespace Go.Proofs.YtdnmkinmcdihnaaGreatDoor
open Go.Proofs.Tryz
open Go.RowKit
theorem zkE{a b:AcL}(h:a≠b):(a.toList==b.toList)=false:=by
 rw[beq_eq_false_iff_ne,AbP,AbP];exact λe=>h (by cases a;cases b;simp at e;rw[e])
theorem zqR{a b:AcL}(h:a=b):(a.toList==b.toList)=true:=by subst h;simp
theorem zfc(s:AcL)(w:World):Calls prog 39 #[.string s] w λe w'=>
  ∃v,e=.returned (.tuple #[v,.int .i64 (pM s.data.toList).2.1,.int .i64 (pM s.data.toList).2.2])/\UZ w' w.heap.size v (pM s.data.toList).1/\Below w.heap.size w w':=by
 unfold pM
 by_cases hs:s.data.toList.length>4000
 ·rw[As hs]
  refine(zoj s w (by simpa using hs)).mono ?_
  rintro e w' ⟨rfl,rfl⟩;exact⟨_,rfl,zbb _ _,Below.refl _ _⟩
 ·rw[An hs]
  exact zhk s w (by simpa using hs)
set_option maxHeartbeats 1000000 in
theorem zqS(kind:Int)(s:AcL)(w:World):Calls prog 197 #[.int .i64 kind,.string s] w λe w'=>e=.returned (.bool (VZ kind s.data.toList))/\Below w.heap.size w w':=by
 have hiff:=zqQ kind s;have hcall:=zfc s w;generalize pM s.data.toList=R at hiff hcall
 obtain⟨ts,p,er⟩:=R;simp only at hiff hcall
 by_cases he:er=0
 ·subst he
  by_cases h1:ts.length=1
  ·obtain⟨t,rfl⟩:∃t,ts=[t]:=List.length_eq_one_iff.1 h1
   have HI:=Lib.hid hiff;have HC:=Lib.hid hcall;clear hiff hcall h1
   by_cases hk:t.kind=kind
   ·have hk':(t.kind==kind)=true:=by simp[hk]
    by_cases hx:t.text=s
    ·have hr:VZ kind s.data.toList=true:=HI.out.1 ⟨rfl,t,rfl,hk,hx⟩
     have hx':=zqR hx;rw[hr];clear hk hx hr
     go_enter func197,ntmps197
     go_wp2_with (go_at_call 39;refine HC.out.mono ?_;rintro e w1 ⟨v,rfl,hv,hb⟩;obtain⟨A,c,rfl,_⟩:=sM hv.rds;obtain⟨b,o,rfl,_,c0,c1,c2,_⟩:=Mw hv.rds (i:=0) (by simp);simp only[Nat.zero_mul,Nat.add_zero,List.getElem_cons_zero]at c0 c1 c2)
     go_ret
     exact⟨rfl,by(repeat'(first|(with_reducible exact Below.refl _ _)|(with_reducible assumption)|(with_reducible refine vD ?_ _)|(with_reducible refine Below.alloc ?_ ?_ _)|(with_reducible refine Below.setCell ?_ ?_ _)|(with_reducible refine Below.drew ?_)|go_size))⟩
    ·have hr:VZ kind s.data.toList=false:=by rw[<-Abo];intro h;obtain⟨_,t',h1,_,h3⟩:=HI.out.2 h;injection h1 with h1;subst h1;exact hx h3
     have hx':=zkE hx;rw[hr];clear hk hx hr
     go_enter func197,ntmps197
     go_wp2_with (go_at_call 39;refine HC.out.mono ?_;rintro e w1 ⟨v,rfl,hv,hb⟩;obtain⟨A,c,rfl,_⟩:=sM hv.rds;obtain⟨b,o,rfl,_,c0,c1,c2,_⟩:=Mw hv.rds (i:=0) (by simp);simp only[Nat.zero_mul,Nat.add_zero,List.getElem_cons_zero]at c0 c1 c2)
     go_ret
     exact⟨rfl,by(repeat'(first|(with_reducible exact Below.refl _ _)|(with_reducible assumption)|(with_reducible refine vD ?_ _)|(with_reducible refine Below.alloc ?_ ?_ _)|(with_reducible refine Below.setCell ?_ ?_ _)|(with_reducible refine Below.drew ?_)|go_size))⟩
   ·have hr:VZ kind s.data.toList=false:=by rw[<-Abo];intro h;obtain⟨_,t',h1,h2,_⟩:=HI.out.2 h;injection h1 with h1;subst h1;exact hk h2
    have hk':(t.kind==kind)=false:=by simpa using hk
    rw[hr];clear hk hr
    go_enter func197,ntmps197
    go_wp2_with (go_at_call 39;refine HC.out.mono ?_;rintro e w1 ⟨v,rfl,hv,hb⟩;obtain⟨A,c,rfl,_⟩:=sM hv.rds;obtain⟨b,o,rfl,_,c0,c1,c2,_⟩:=Mw hv.rds (i:=0) (by simp);simp only[Nat.zero_mul,Nat.add_zero,List.getElem_cons_zero]at c0 c1 c2)
    go_ret
    exact⟨rfl,by(repeat'(first|(with_reducible exact Below.refl _ _)|(with_reducible assumption)|(with_reducible refine vD ?_ _)|(with_reducible refine Below.alloc ?_ ?_ _)|(with_reducible refine Below.setCell ?_ ?_ _)|(with_reducible refine Below.drew ?_)|go_size))⟩
  ·have hr:VZ kind s.data.toList=false:=by rw[<-Abo];intro h;obtain⟨_,t',h2,_,_⟩:=hiff.2 h;exact h1 (by rw[h2];rfl)
   have hl':((ts.length:Int)==1)=false:=by rw[beq_eq_false_iff_ne];omega
   have HC:=Lib.hid hcall;clear hiff hcall h1;rw[hr];clear hr
   go_enter func197,ntmps197
   go_wp2_with (go_at_call 39;refine HC.out.mono ?_;rintro e w1 ⟨v,rfl,hv,hb⟩;obtain⟨A,c,rfl,_⟩:=sM hv.rds)
   go_ret
   exact⟨rfl,by(repeat'(first|(with_reducible exact Below.refl _ _)|(with_reducible assumption)|(with_reducible refine vD ?_ _)|(with_reducible refine Below.alloc ?_ ?_ _)|(with_reducible refine Below.setCell ?_ ?_ _)|(with_reducible refine Below.drew ?_)|go_size))⟩
 ·have hr:VZ kind s.data.toList=false:=by rw[<-Abo];intro h;exact he (hiff.2 h).1
  have he':(er==0)=false:=by simpa using he
  have HC:=Lib.hid hcall;clear hiff hcall he;rw[hr];clear hr
  go_enter func197,ntmps197
  go_wp2_with (go_at_call 39;refine HC.out.mono ?_;rintro e w1 ⟨v,rfl,hv,hb⟩;obtain⟨A,c,rfl,_⟩:=sM hv.rds)
  go_ret
  exact⟨rfl,by(repeat'(first|(with_reducible exact Below.refl _ _)|(with_reducible assumption)|(with_reducible refine vD ?_ _)|(with_reducible refine Below.alloc ?_ ?_ _)|(with_reducible refine Below.setCell ?_ ?_ _)|(with_reducible refine Below.drew ?_)|go_size))⟩
end Go.Proofs.YtdnmkinmcdihnaaGreatDoor
namespace Go.Proofs.YtdnmkinmcdihnaaGreatDoor
open Go.Proofs.Tryz
open Go.RowKit
theorem zl2(w:World):Calls prog 148 #[] w λe w'=>∃b,e=.returned (.slice (some ⟨b,0,none⟩) 16 16)/\(∀j x,MP[j]? =some x->w'.cell? ⟨b,j,none⟩=some (.string x))/\Below w.heap.size w w':=by
 go_enter func148,ntmps148
 go_wp2_with fail
 go_ret
 refine⟨_,rfl,λj x hx=> ?_,by(repeat'(first|(with_reducible exact Below.refl _ _)|(with_reducible assumption)|(with_reducible refine vD ?_ _)|(with_reducible refine Below.alloc ?_ ?_ _)|(with_reducible refine Below.setCell ?_ ?_ _)|(with_reducible refine Below.drew ?_)|go_size))⟩
 have hj:j<16:=(AaB.1 hx).1
 match j,hj,hx with
 |0,_,hx=>injection hx with hx;subst hx;simp;rfl
 |1,_,hx=>injection hx with hx;subst hx;simp;rfl
 |2,_,hx=>injection hx with hx;subst hx;simp;rfl
 |3,_,hx=>injection hx with hx;subst hx;simp;rfl
 |4,_,hx=>injection hx with hx;subst hx;simp;rfl
 |5,_,hx=>injection hx with hx;subst hx;simp;rfl
 |6,_,hx=>injection hx with hx;subst hx;simp;rfl
 |7,_,hx=>injection hx with hx;subst hx;simp;rfl
 |8,_,hx=>injection hx with hx;subst hx;simp;rfl
 |9,_,hx=>injection hx with hx;subst hx;simp;rfl
 |10,_,hx=>injection hx with hx;subst hx;simp;rfl
 |11,_,hx=>injection hx with hx;subst hx;simp;rfl
 |12,_,hx=>injection hx with hx;subst hx;simp;rfl
 |13,_,hx=>injection hx with hx;subst hx;simp;rfl
 |14,_,hx=>injection hx with hx;subst hx;simp;rfl
 |15,_,hx=>injection hx with hx;subst hx;simp;rfl
theorem zl3(s:AcL)(w:World):Calls prog 146 #[.string s] w λe w'=>e=.returned (.bool (VZ 1 s.data.toList))/\Below w.heap.size w w':=by
 have H:=Lib.hid (zqS 1 s w)
 go_enter func146,ntmps146
 go_wp2_with (go_at_call 197;refine(H.out).mono ?_;rintro e w1 ⟨rfl,hb⟩)
 go_ret
 exact⟨rfl,hb⟩
theorem DU(s:AcL):Lib.containsS (MP.take 16) s=MP.any (λu=>u.toList==s.toList):=by
 rw[show MP.take 16=MP from rfl]
 rw[AaO,Lib.containsS_iff,AaI];constructor
 ·intro h;exact⟨s,h,by simp⟩
 ·rintro⟨u,hu,he⟩
  rw[beq_iff_eq]at he
  have e:u=s:=Classical.byContradiction λh=>by have:=zkE h;simp[he]at this
  subst e;exact hu
theorem zok(s:AcL)(w:World):Calls prog 91 #[.string s] w λe w'=>e=.returned (.bool (yG s))/\Below w.heap.size w w':=by
 have H:=Lib.hid (zl3 s w);unfold yG;cases hq:VZ 1 s.data.toList with
 |false=>
  rw[hq]at H
  clear hq
  go_enter func91,ntmps91
  go_wp2_with (go_at_call 146;refine(H.out).mono ?_;rintro e w1 ⟨rfl,hb⟩)
  go_ret
  exact⟨rfl,hb⟩
 |true=>
  rw[hq]at H
  clear hq;rw[<-DU]
  go_enter func91,ntmps91
  go_wp2_with (first
   |(go_at_call 146;refine(H.out).mono ?_;rintro e w1 ⟨rfl,hb⟩)
   |(go_at_call 148;refine(zl2 _).mono ?_;rintro e w2 ⟨b,rfl,hc,hb2⟩)
   |(go_at_call 147;refine(slices_Contains_string b 0 16 16 MP s _ (by decide) (by decide) (by
     intro j hj;rw[Aat];refine hc j _ ?_;rw[Aar,Aal hj];rfl)).mono ?_;rintro e w3 ⟨rfl,rfl⟩))
  go_ret
  exact⟨rfl,LG hb hb2⟩
end Go.Proofs.YtdnmkinmcdihnaaGreatDoor
namespace Go.Proofs.YtdnmkinmcdihnaaGreatDoor
open Go.Proofs.Tryz
open Go.RowKit
end Go.Proofs.YtdnmkinmcdihnaaGreatDoor
namespace Go.Proofs.YtdnmkinmcdihnaaGreatDoor
open Go.Proofs.Tryz
open Go.RowKit
variable[Lo]
abbrev dM(m:zE):D:=.agg [.sl .var m.vars,.sl .con m.cons,.int .i64 m.goal,.int .i64 m.var]
abbrev dV(v:zO):D:=.agg [.str v.name,.int .i64 v.lo,.int .i64 v.hi]
abbrev dL(l:zA):D:=.agg [.int .i64 l.var,.int .i64 l.op,.int .i64 l.n]
abbrev dC(c:zF):D:=.agg [.int .i64 c.kind,.sl .int c.vars,.sl .int c.consts,.int .i64 c.n,.sl (.list .int) c.rows,.sl .lit c.lits]
abbrev dS(s:AcQ):D:=.sl (.list .int) s
abbrev dI(n:Int):D:=.int .i64 n
abbrev Ac3:D:=.ptr 1000 0
abbrev dB(b:Bool):D:=.bool b
abbrev dSt(s:zR):D:=.agg [.int .i64 s.kind,.int .i64 s.con,.sl .lit s.clause]
def zuE(p:Prop):Prop:=p/\p
def zt3(p:Prop):Prop:=p/\p/\p
theorem zc2{p:Prop}:zuE p=p:=Abt p
theorem zc3{p:Prop}:zt3 p=p:=by rw[zt3,Abt,Abt]
theorem qV{n:Int}(h1: -9223372036854775808<=n)(h2:n<=9223372036854775807):yU n=n:=by
 show IntKind.i64.wrap n=n
 rw[IntKind.wrap_i64];omega
theorem cH{k:Nat}(h:k<9223372036854775807):yU ((k:Int)+1)=((k+1:Nat):Int):=by
 rw[qV (by omega) (by omega)];rfl
theorem zI{k n:Nat}(h:k<n):wW (k:Int) n=true:=by
 unfold wW;rw[If];exact⟨Aaf (by omega),Aaf (by omega)⟩
theorem uW{k:Int}{n:Nat}:wW k n=true↔0<=k/\k<n:=by
 unfold wW;rw[If,AaC,AaC]
theorem xC{t:Ty}{n:Nat}(h:n*t.bytes<=140737488355328):yX t n=true:=Aaf h
theorem zhm{k n:Nat}:decide ((k:Int)<(n:Int))=decide (k<n):=by
 by_cases h:k<n
 ·rw[Aaf h];exact Aaf (by omega)
 ·rw[Aao h];exact Aao (by omega)
theorem yA{t:Ty}{xs:List t.den}{k:Nat}(h:k<xs.length):zJ t xs (k:Int).toNat=xs[k]:=by
 show xs.getD ((k:Int).toNat) _=_
 rw[Aap,Aar,Aal h];rfl
theorem atN{t:Ty}{xs:List t.den}{k:Nat}(h:k<xs.length):zJ t xs k=xs[k]:=by
 show xs.getD k _=_
 rw[Aar,Aal h];rfl
theorem up{α:Type}{I:Nat->Int->α->Prop}{v:Int}(s m:Nat)(hv:v=(s:Int))(hsm:s<=m)(hm:m<=9223372036854775807)(Inv:Nat->α->Prop){a:α}(h0:Inv s a)
  (hs:∀n (k:Nat) a,s<=k->k<=m->Inv k a->(k<m->∀a',Inv (k+1) a'->I n (yU ((k:Int)+1)) a')->I (n+1) (k:Int) a):∃n,I n v a:=by
 subst hv
 suffices H:∀d k,s<=k->k+d=m->∀a,Inv k a->I (d+1) (k:Int) a from⟨m-s+1,H (m-s) s (IN _) (by omega) a h0⟩
 intro d
 induction d with
 |zero=>exact λk hk e a ha=>hs 0 k a hk (by omega) ha λh=>At h (by omega)
 |succ d ih=>
  intro k hk e a ha;refine hs (d+1) k a hk (by omega) ha λh a' ha'=> ?_
  rw[cH (by omega)]
  exact ih (k+1) (by omega) (by omega) a' ha'
theorem up0{I:Nat->Int->Prop}{v:Int}(s m:Nat)(hv:v=(s:Int))(hsm:s<=m)(hm:m<=9223372036854775807)(Inv:Nat->Prop)(h0:Inv s)
  (hs:∀n (k:Nat),s<=k->k<=m->Inv k->(k<m->Inv (k+1)->I n (yU ((k:Int)+1)))->I (n+1) (k:Int)):∃n,I n v:=
 let⟨n,h⟩:=up (I:=λn v (_:Unit)=>I n v) (a:=()) s m hv hsm hm (λk _=>Inv k) h0 λn k _ h1 h2 h3 h4=>hs n k h1 h2 h3 λh h'=>h4 h () h'
 ⟨n,h⟩
theorem oT.like{P:AcO}{f:AcM}{args args':AcT}{r:D}(h:oT P f args r)(hl:args'.length=args.length)(ha:∀(w:World) (S:Nat->Prop) (i:Nat) (d:D) (v:Value),args[i]? =some d->(∀d',args'[i]? =some d'->Rp w S v d')->Rp w S v d):oT P f args' r:=
 λw S vs hS hs hv hg=>h w S vs hS (hs.trans hl) (λi d hd=>ha w S i d _ hd λd' hd'=>hv i d' hd') hg
theorem Rp.clo_rs{w:World}{S:Nat->Prop}{v:Value}{g:AcM}{rs rs':Option Ac2}{cap:AcT}(h:Rp w S v (.clo g rs cap)):Rp w S v (.clo g rs' cap):=by
 obtain⟨vs,rfl,h1,h2⟩:=h.clo_inv;exact .clo g rs' cap vs h1 h2
theorem oT.clo{P:AcO}{f:AcM}{pre post:AcT}{g:AcM}{rs rs':Option Ac2}{cap:AcT}{r:D}(h:oT P f (pre++ .clo g rs cap::post) r):oT P f (pre++ .clo g rs' cap::post) r:=by
 refine h.like (by simp) λw S i d v hd hv=> ?_
 by_cases hi:i<pre.length
 ·rw[AaQ hi]at hd
  exact hv d (by rw[AaQ hi];exact hd)
 ·have hi':pre.length<=i:=Nat.le_of_not_lt hi
  rw[AaN hi']at hd
  have hv':∀d',(D.clo g rs' cap::post)[i-pre.length]? =some d'->Rp w S v d':=λd' h'=>hv d' (by rw[AaN hi'];exact h')
  generalize i-pre.length=j at hd hv'
  cases j with
  |zero=>
   rw[List.getElem?_cons_zero]at hd
   cases hd;exact(hv' _ rfl).clo_rs
  |succ j=>exact hv' d (by rw[Acm]at hd⊢;exact hd)
def Nl{α:Type}(p:α->Bool):List α->Int->Int
 |[],_=> -1
 |x::xs,i=>bif p x then i else Nl p xs (i+1)
theorem zol{α:Type}{p:α->Bool}{xs:List α}{k:Nat}(h:k<xs.length):Nl p (xs.drop k) k=bif p xs[k]then(k:Int)else Nl p (xs.drop (k+1)) ((k+1:Nat):Int):=by
 rw[Aa4 h];rfl
theorem jT{α:Type}{p:α->Bool}:∀(xs:List α) (i:Int),0<=i->decide (0<=Nl p xs i)=xs.any p
 |[],i,h=>by simp[Nl]
 |x::xs,i,h=>by
  rw[Nl,Abb];cases hx:p x
  ·rw[Aag,jT xs (i+1) (by omega),AbB]
  ·rw[AI,Bool.true_or];exact Aaf h
theorem AE{t:Ty}{xs:List t.den}(hl:xs.length<=9223372036854775807){I:Nat->Int->Prop}{R:D->Prop}{p:t.den->Bool}
  (hR:R (.int .i64 (Nl p xs 0)))
  (hin:∀n (k:Nat) (h:k<xs.length),(p xs[k]=true->R (.int .i64 (k:Int)))->(p xs[k]=false->I n (yU ((k:Int)+1)))->I (n+1) (k:Int))
  (hout:∀n,R (.int .i64 (-1))->I (n+1) (xs.length:Int)):∃n,I n 0:=by
 refine up0 0 xs.length rfl (Is _) hl (λk=>R (.int .i64 (Nl p (xs.drop k) (k:Int)))) hR λn k _ hk hi hn=> ?_
 by_cases h:k<xs.length
 ·rw[zol h]at hi
  refine hin n k h (λe=> ?_) λe=>hn h ?_
  ·rw[e]at hi;exact hi
  ·rw[e]at hi;exact hi
 ·rw[Acv (by omega)]at hi
  have hk':k=xs.length:=by omega
  subst hk';exact hout n hi
theorem yD{k n:Nat}{X Y:Prop}(h:k<n):zT (decide ((k:Int)<(n:Int))) X Y=X:=by rw[zhm,Aaf h];rfl
theorem zY{n:Nat}{X Y:Prop}:zT (decide ((n:Int)<(n:Int))) X Y=Y:=by rw[zhm,Aao (Nat.lt_irrefl n)];rfl
theorem zom{β:Type}{p:β->Bool}{zs:List β}{k:Nat}(h:k<zs.length):(zs.drop k).any p=(p zs[k]||(zs.drop (k+1)).any p):=by
 rw[Aa4 h,Abb]
theorem zt4{β:Type}{I:Nat->Int->Prop}{v:Int}(s:Nat)(zs:List β)(p:β->Bool)(hv:v=(s:Int))(hl:zs.length+s<=9223372036854775807){X Y:Prop}(hXY:zT (zs.any p) X Y)
  (hin:∀n (k:Nat) (h:k<zs.length),(p zs[k]=true->X)->(p zs[k]=false->I n (yU (((k+s:Nat):Int)+1)))->I (n+1) ((k+s:Nat):Int))
  (hout:∀n,Y->I (n+1) ((zs.length+s:Nat):Int)):∃n,I n v:=by
 refine up0 s (zs.length+s) hv (by omega) hl (λk=>zT ((zs.drop (k-s)).any p) X Y) (by rw[AbU];exact hXY) λn k hs hk hi hn=> ?_
 obtain⟨j,rfl⟩:∃j,k=j+s:=⟨k-s,by omega⟩
 rw[show j+s-s=j by omega]at hi
 by_cases h:j<zs.length
 ·rw[zom h]at hi
  refine hin n j h (λe=> ?_) λe=>hn (by omega) ?_
  ·rw[e,Bool.true_or]at hi;exact hi
  ·rw[e,AbB]at hi;rw[show j+s+1-s=j+1 by omega];exact hi
 ·have hj:j=zs.length:=by omega
  subst hj;rw[Acv (by omega)]at hi
  exact hout n hi
theorem zsk{β:Type}{I:Nat->Int->Prop}{v:Int}(s:Nat)(zs:List β)(e:Nat->β->Int)(hv:v=(s:Int))(hl:zs.length+s<=9223372036854775807){X:Int->Prop}{Y:Prop}
  (hX:wM e 0 zs≠0->X (wM e 0 zs)) (hY:wM e 0 zs=0->Y)
  (hin:∀n (k:Nat) (h:k<zs.length),(∀j (hj:j<k),e j zs[j]=0)->(e k zs[k]≠0->X (e k zs[k]))->(e k zs[k]=0->I n (yU (((k+s:Nat):Int)+1)))->I (n+1) ((k+s:Nat):Int))
  (hout:∀n,Y->I (n+1) ((zs.length+s:Nat):Int)):∃n,I n v:=by
 refine up0 s (zs.length+s) hv (by omega) hl (λk=>wM e (k-s) (zs.drop (k-s))=wM e 0 zs/\∀j (hj:j<k-s) (hl:j<zs.length),e j zs[j]=0) ⟨by rw[AbU];rfl,λj hj=>At hj (by omega)⟩ λn k hs hk hi hn=> ?_
 obtain⟨j,rfl⟩:∃j,k=j+s:=⟨k-s,by omega⟩
 rw[show j+s-s=j by omega]at hi
 obtain⟨hi,hb⟩:=hi
 by_cases h:j<zs.length
 ·refine hin n j h (λi hi=>hb i hi (by omega)) (λe0=> ?_) λe0=>hn (by omega) ?_
  ·have:=ze7 h hi e0
   rw[<-this];exact hX (by rw[this];exact e0)
  ·rw[show j+s+1-s=j+1 by omega]
   refine⟨ze8 h hi e0,λi hi1 hi2=> ?_⟩
   by_cases hij:i<j
   ·exact hb i hij hi2
   ·have:i=j:=by omega
    subst this;exact e0
 ·have hj:j=zs.length:=by omega
  subst hj;exact hout n (hY (zhc (IN _) hi))
theorem upto{α:Type}{I:Nat->Int->α->Prop}(lo hi:Int)(hlo: -9223372036854775808<=lo)(hhi:hi<9223372036854775807)(Inv:Int->α->Prop){a:α}(h0:Inv lo a)
  (hs:∀n (k:Int) a,lo<=k->Inv k a->(k<=hi->∀a',Inv (k+1) a'->I n (yU (k+1)) a')->I (n+1) k a):∃n,I n lo a:=by
 suffices H:∀d (k:Int),lo<=k->(hi+1-k).toNat<=d->∀a,Inv k a->I (d+1) k a from⟨(hi+1-lo).toNat+1,H _ lo (AaK _) (IN _) a h0⟩
 intro d
 induction d with
 |zero=>exact λk hk e a ha=>hs 0 k a hk ha λh=>At h (by omega)
 |succ d ih=>
  intro k hk e a ha;refine hs (d+1) k a hk ha λh a' ha'=> ?_
  rw[qV (by omega) (by omega)]
  exact ih (k+1) (by omega) (by omega) a' ha'
theorem DV{α β:Type}(f:Nat->α->β){xs:List α}{k:Nat}(h:k<xs.length):(xs.take (k+1)).mapIdx f=(xs.take k).mapIdx f++[f k xs[k]]:=by
 rw[<-Aay h,List.mapIdx_append];simp[Nat.min_eq_left (Nat.le_of_lt h)]
theorem cR{α β:Type}(f:α->β){xs:List α}{k:Nat}(h:k<xs.length):(xs.take (k+1)).map f=(xs.take k).map f++[f xs[k]]:=by
 rw[<-Aay h,AaV];rfl
theorem fQ{α:Type}(p:α->Bool){xs:List α}{k:Nat}(h:k<xs.length):(xs.take (k+1)).filter p=if p xs[k]=true then(xs.take k).filter p++[xs[k]]else(xs.take k).filter p:=by
 rw[<-Aay h,List.filter_append]
 by_cases e:p xs[k]=true
 ·rw[As e,Abc,As e];rfl
 ·rw[An e,Abc,An e,List.filter_nil,Aa2]
theorem fk{t:Ty}{xs:List t.den}(h:MN (.sl t xs)):okL t.bytes (En t) xs:=h
theorem dW{t:Ty}{xs:List t.den}(h:MN (.sl t xs)):xs.length<=9223372036854775807:=by
 have h1:xs.length*t.bytes<=140737488355328:=(show En (.list t) xs from h).1
 have h2:1<=t.bytes:=t.bytes_pos;have:=Acw xs.length h2;omega
theorem Qm{d:D}{ds:AcT}(h:∀e∈d::ds,MN e):MN d:=h d (Aaa ..)
theorem okR{d:D}{ds:AcT}(h:∀e∈d::ds,MN e):∀e∈ds,MN e:=λe he=>h e (Aac _ he)
end Go.Proofs.YtdnmkinmcdihnaaGreatDoor
namespace Go.Proofs.YtdnmkinmcdihnaaGreatDoor
open Go.Proofs.Tryz
open Go.RowKit
variable[Lo]
theorem zc4{β:Type}{I:Nat->Int->Prop}(zs:List β)(p:β->Bool)(hl:zs.length<=9223372036854775807){X Y:Prop}(hXY:zT (zs.any p) X Y)
  (hin:∀n (k:Nat) (h:k<zs.length),(p zs[k]=true->X)->(p zs[k]=false->I n (yU ((k:Int)+1)))->I (n+1) (k:Int))
  (hout:∀n,Y->I (n+1) (zs.length:Int)):∃n,I n 0:=
 zt4 (I:=I) 0 zs p rfl hl hXY (λn k h h1 h2=>hin n k h h1 h2) hout
theorem zsX{β:Type}{I:Nat->Int->Prop}(zs:List β)(p:β->Bool)(hl:zs.length<=9223372036854775807){X:Prop}(hX:zs.any p=true->X)
  (hin:∀n (k:Nat) (h:k<zs.length),(p zs[k]=true->X)->(p zs[k]=false->I n (yU ((k:Int)+1)))->I (n+1) (k:Int))
  (hout:zs.any p=false->∀n,I (n+1) (zs.length:Int)):∃n,I n 0:=
 zc4 (I:=I) zs p hl (Y:=zs.any p=false) (zC hX id) hin λn h=>hout h n
theorem zuG{β:Type}{I:Nat->Int->Prop}(zs:List β)(e:Nat->β->Int)(hl:zs.length<=9223372036854775807){X:Int->Prop}
  (hX:wM e 0 zs≠0->X (wM e 0 zs))
  (hin:∀n (k:Nat) (h:k<zs.length),(∀j (hj:j<k),e j zs[j]=0)->(e k zs[k]≠0->X (e k zs[k]))->(e k zs[k]=0->I n (yU ((k:Int)+1)))->I (n+1) (k:Int))
  (hout:wM e 0 zs=0->∀n,I (n+1) (zs.length:Int)):∃n,I n 0:=
 zsk (I:=I) 0 zs e rfl hl hX (Y:=wM e 0 zs=0) id (λn k h h0 h1 h2=>hin n k h h0 h1 h2) λn h=>hout h n
theorem zl4{β:Type}{I:Nat->Int->Prop}(zs:List β)(e:Nat->β->Int)(hl:zs.length<=9223372036854775807){X:Int->Prop}{Y:Prop}
  (hX:wM e 0 zs≠0->X (wM e 0 zs)) (hY:wM e 0 zs=0->Y)
  (hin:∀n (k:Nat) (h:k<zs.length),(∀j (hj:j<k),e j zs[j]=0)->(e k zs[k]≠0->X (e k zs[k]))->(e k zs[k]=0->I n (yU ((k:Int)+1)))->I (n+1) (k:Int))
  (hout:∀n,Y->I (n+1) (zs.length:Int)):∃n,I n 0:=
 zsk (I:=I) 0 zs e rfl hl hX hY (λn k h h0 h1 h2=>hin n k h h0 h1 h2) hout
def or0(a b:Int):Int:=if a≠0 then a else b
theorem QJ{a b:Int}(h:a≠0):or0 a b=a:=As h
theorem Sh{a b:Int}(h:a=0):or0 a b=b:=An (not_not_intro h)
theorem sN{a:Int}(e:(!decide (a=0))=true):a≠0:=by simpa using e
theorem vM{a:Int}(e:(!decide (a=0))=false):a=0:=by simpa using e
theorem oT.swap{P:AcO}{f:AcM}{pre post:AcT}{a a':D}{r:D}(h:oT P f (pre++a::post) r)(ha:∀w S v,Rp w S v a'->Rp w S v a):oT P f (pre++a'::post) r:=by
 refine h.like (by simp) λw S i d v hd hv=> ?_
 by_cases hi:i<pre.length
 ·rw[AaQ hi]at hd
  exact hv d (by rw[AaQ hi];exact hd)
 ·have hi':pre.length<=i:=Nat.le_of_not_lt hi
  rw[AaN hi']at hd
  have hv':∀d',(a'::post)[i-pre.length]? =some d'->Rp w S v d':=λd' h'=>hv d' (by rw[AaN hi'];exact h')
  generalize i-pre.length=j at hd hv'
  cases j with
  |zero=>
   rw[List.getElem?_cons_zero]at hd
   cases hd;exact ha _ _ _ (hv' _ rfl)
  |succ j=>exact hv' d (by rw[Acm]at hd⊢;exact hd)
theorem Rp.icl{w:World}{S:Nat->Prop}{v:Value}{g:AcM}{rs rs':Option Ac2}{cap:AcT}(h:Rp w S v (.iptr [.clo g rs cap] 0)):Rp w S v (.iptr [.clo g rs' cap] 0):=by
 obtain⟨b,rfl,hb,hc⟩:=h.iptr_inv;refine .iptr_mk hb λi d hd=> ?_
 cases i with
 |zero=>
  cases hd;obtain⟨u,hu,hr⟩:=hc 0 _ rfl;exact⟨u,hu,hr.clo_rs⟩
 |succ i=>simp at hd
theorem oT.iclo{P:AcO}{f:AcM}{pre post:AcT}{g:AcM}{rs rs':Option Ac2}{cap:AcT}{r:D}(h:oT P f (pre++ .iptr [.clo g rs cap] 0::post) r):oT P f (pre++ .iptr [.clo g rs' cap] 0::post) r:=
 h.swap λ_ _ _ h=>h.icl
theorem okA{cs:AcT}{i:Nat}{d:D}(h:MN (.agg cs))(e:cs[i]? =some d):okC d:=h d (AaS e)
theorem zoo{t:Ty}{xs:List t.den}(h:okC (.sl t xs)):xs.length<=9223372036854775807:=dW (t:=t) h
end Go.Proofs.YtdnmkinmcdihnaaGreatDoor
namespace Go.Proofs.YtdnmkinmcdihnaaGreatDoor
open Go.Proofs.Tryz
open Go.RowKit
def zop:Nat->Code->Code
 |n+1,.seq a b=> .seq a (zop n b)
 |_,_=> .skip
def zoq:Nat->Code->Bool
 |0,_=>true
 |n+1,.seq _ b=>zoq n b
 |_,_=>false
def zbc:Nat->Code->Code
 |n+1,.seq _ b=>zbc n b
 |_,c=>c
def zsY(pubs:List (Nat×Nat))(L:AcZ×AcZ)(Q:St->Prop):Ex->St->Prop:=λe σ=>match e with
 | .normal=>Q ((WO pubs σ).keep L)
 |_=>False
def zc5(i:Nat):Ex->St->Prop:=λe σ=>match e with
 | .ret=>σ.get i=.bool true
 |_=>False
section
variable[Lo]{P:AcO}{E:TE}{A:xF}{b0:Yo}{w w':World}{S:Nat->Prop}{pl:Nat->Value}{N:Nat}{σ:St}{a:Act}
theorem zor(F:vE P E){K:Ex->St->Prop}{Q:Exit->Act->World->Prop}(hK:∀e σ,K e σ->e=.normal):∀(n:Nat) (c:Code) (cur:Nat) (σ:St) (a:Act) (w:World),zoq n c=true->den P E A (zop n c) cur σ K->Mt P b0 A.n σ a w->
  (∀σ a w,K .normal σ->Mt P b0 A.n σ a w->(zbc n c).wp P Q a w)->c.wp P Q a w
 |0,c,cur,σ,a,w,_,h,m,hq=>hq σ a w h m
 |n+1,c,cur,σ,a,w,hs,h,m,hq=>by
  cases c with
  |seq x y=>
   have h:den P E A (.seq x (zop n y)) cur σ K:=h;unfold den at h
   refine wp_seq (wp_mono (zcP F x cur σ _ a w h m) λe a w h=> ?_)
   rcases h with⟨e',σ',he,hk,m'⟩|⟨u,σ',rfl,hk,dz,hb⟩
   ·cases e<;>simp only[Ni,Option.some.injEq,reduceCtorEq]at he<;>subst he
    ·exact zor F hK n y cur σ' a w hs hk m' hq
    ·cases hK _ _ hk
    ·cases hK _ _ hk
   ·cases hK _ _ hk
  |_=>cases hs
theorem zqU{fn:Func}{i:Nat}{e:Exit}{w0:World}(hr:fn.results.toList=[.tmp i])(h:QS P w0 (λ_=>False) N (zc5 i) e a w):
  Ni e=some .ret/\a.defers=[]/\(results fn a.tmps).run P w=.ok (.bool true) w/\Below w0.heap.size w0 w:=by
 obtain⟨x,σ',he,hk',b,hb',S',pl,m'⟩:=h;obtain⟨g1,g2,g3⟩:=hb'.2;have hw:=g1.below (B:=0) g1.size m'.below g2;cases x<;>try exact hk'.elim
 have hk':σ'.get i=.bool true:=hk'
 have hval:a.tmps.getD i undef=.bool true:=by
  have:=m'.fr i;rw[hk']at this
  exact(this.flat (d:=.bool true) rfl).bool_inv
 refine⟨he,m'.dz,?_,hw.os,hw.tape,hw.output,hw.size,λk hk=>hw.block k hk id⟩
 have hr0:results fn a.tmps=(do let vs<-fn.results.mapM (XO a);pure (if h:vs.size=1 then vs[0]else .tuple vs)):=rfl
 rw[hr0];simp only[Acs,hr,List.mapM_cons,List.mapM_nil,XO,hval,IT,map_eq_pure_bind,No,TO];rfl
theorem zqV{σ3:St}{S2:Nat->Prop}{w1:World}{pl1:Nat->Value}(hS:∀b,S2 b->¬Lo.new b)(hb:rE w.heap.size (λ_=>False) w w1)(hO:∀x,DO σ3 pl1 x->w.heap.size<=x):OkB P w (λ_=>False) ⟨w1,S2,DO σ3 pl1,pl1⟩:=
 ⟨λg hg hs=>hS g hs,(WU.refl _ w).below (B:=0) (IN _) hb (λx h=>h.elim),hO,λx hx hn=>At hn (hS x hx)⟩
theorem Gm:∀(l:List (Nat×Nat)) (σ:St) (S:Nat->Prop),tF P b0 N σ a w S pl->∃S',tF P b0 N (WO l σ) a w S' pl
 |[],σ,S,m=>⟨S,m⟩
 |x::r,σ,S,m=>let⟨S1,m1⟩:=DG m x.1 x.2;Gm r _ _ m1
end
def Ty.unm:Ty->Bool
 | .mk _ _=>false
 | .list t=>t.unm
 | .pr a b=>a.unm&&b.unm
 |_=>true
theorem U6{t:Ty}(h:t.unm=true):t.bare=true:=by cases t<;>first|rfl|cases h
theorem zkF{l0 l1:Lo}{w:World}:(t:Ty)->t.unm=true-> {S:Nat->Prop}-> {x:t.den}-> {cs:List Value}-> @xU.rd _ (@Ty.rep l0 t) w S cs x-> @xU.rd _ (@Ty.rep l1 t) w S cs x
 | .int,_,_,_,_,h| .bool,_,_,_,_,h| .str,_,_,_,_,h| .tok,_,_,_,_,h| .lit,_,_,_,_,h| .var,_,_,_,_,h| .con,_,_,_,_,h| .mdl,_,_,_,_,h| .step,_,_,_,_,h| .term,_,_,_,_,h| .ans,_,_,_,_,h| .byte,_,_,_,_,h=>h
 | .mk _ _,hu,_,_,_,_=>by cases hu
 | .pr a b,hu,S,x,cs,h=>by
  obtain⟨c1,c2,e,h1,h2⟩:=h;have hu:(a.unm&&b.unm)=true:=hu;rw[If]at hu
  exact⟨c1,c2,e,zkF a hu.1 h1,zkF b hu.2 h2⟩
 | .list t,hu,S,xs,cs,h=>by
  have hu:t.unm=true:=hu;obtain⟨A,c,e2,h0,h1,h2,h3,h4⟩:=h;refine⟨A,c,e2,?_,h1,h2,h3,λhn=> ?_⟩
  ·rw[<- @Ty.bytes_eq l1 t];rw[<- @Ty.bytes_eq l0 t]at h0;exact h0
  ·obtain⟨b,o,hA,hb,hc⟩:=h4 hn
   refine⟨b,o,hA,?_,λi x hx=> ?_⟩
   ·rw[@Zp l1 t (U6 hu)];rw[@Zp l0 t (U6 hu)]at hb;exact hb
   ·obtain⟨cs,hr,hcell⟩:=hc i x hx
    rw[@Zp l0 t (U6 hu)]at hr
    refine⟨cs,?_,?_⟩
    ·rw[@Zp l1 t (U6 hu)];exact zkF t hu hr
    ·rw[<- @Ty.size_eq l1 t];rw[<- @Ty.size_eq l0 t]at hcell;exact hcell
def zos:D->D
 | .sl t xs=>bif t.unm then .sl (.mk false t) xs else .undef
 | .nil=> .nil
 | .int k n=> .int k n
 | .bool b=> .bool b
 | .str s=> .str s
 | .ifc u=> .ifc u
 | .own k=> .own k
 | .ownN k=> .ownN k
 | .ptr k off=> .ptr k off
 | .oelt k sz i off=> .oelt k sz i off
 | .clp f bd k off=> .clp f bd k off
 | .slf k=> .slf k
 |_=> .undef
def zl5:D->D
 | .agg cs=> .agg (cs.map zos)
 |d=>zos d
def odO:yE->yE
 | .cells ds=> .cells (ds.map zl5)
 |o=>o
def St.od(σ:St):St:=⟨σ.fr.map λx=>(x.1,zl5 x.2),σ.hp.map λx=>(x.1,odO x.2)⟩
def zc6(σ:St):Bool:=σ.hp.all λx=>match x.2 with
 | .cells _=>true
 |_=>false
@[reducible] def LoT:Lo:=⟨λ_=>True⟩
section
 local instance:Lo:=LoT
variable {P:AcO}{b0:Yo}{w:World}{S:Nat->Prop}{pl:Nat->Value}{N:Nat}{σ:St}{a:Act}{new:Nat->Prop}{v:Value}{d:D}
theorem zt5(hS:∀b,S b->¬new b){t:Ty}{xs:List t.den}(hu:t.unm=true)(h: @fE _ (@xU.list _ (@Ty.rep LoT t)) w (@Eb LoT t w S) v xs):
  @fE _ (@xU.list _ (@Ty.rep ⟨new⟩ (.mk false t))) w (@Eb ⟨new⟩ (.mk false t) w S) v xs:=by
 obtain⟨cs,e,A,c,e2,h0,h1,h2,h3,h4⟩:=h;have hk:∀b,S b-> @RO ⟨new⟩ false w S b:=λb hb=>⟨hb,hS b hb⟩
 refine⟨cs,e,A,c,e2,?_,h1,h2,h3,λhn=> ?_⟩
 ·rw[<- @Ty.bytes_eq LoT t]at h0
  show xs.length* @xU.bytes _ (@Ty.rep ⟨new⟩ t)<=_
  rw[<- @Ty.bytes_eq ⟨new⟩ t];exact h0
 ·obtain⟨b,o,hA,hb,hc⟩:=h4 hn
  rw[@Zp LoT t (U6 hu)]at hb
  refine⟨b,o,hA,hk b hb,λi x hx=> ?_⟩
  obtain⟨cs,hr,hcell⟩:=hc i x hx;rw[@Zp LoT t (U6 hu)]at hr
  refine⟨cs,(@Ty.rep ⟨new⟩ t).mono (zkF t hu hr) (λ_ _=>rfl) λb hb=>⟨hk b hb,(hk b hb).2⟩,?_⟩
  show∀j u,cs[j]? =some u->w.cell? ⟨b,o+i* @xU.size _ (@Ty.rep ⟨new⟩ t)+j,none⟩=some u
  rw[<- @Ty.size_eq ⟨new⟩ t];rw[<- @Ty.size_eq LoT t]at hcell;exact hcell
theorem zfd(hS:∀b,S b->¬new b)(h: @Rp LoT w S v d): @Rp ⟨new⟩ w S v (zos d):=by
 cases d<;>try exact @Rp.undef ⟨new⟩ _ _ v
 case nil=>rw[@Rp.nil_inv LoT _ _ _ h];exact @Rp.nil ⟨new⟩ _ _
 case int k n=>obtain⟨rfl,h'⟩:= @Rp.int_inv LoT _ _ _ _ _ h;exact @Rp.int ⟨new⟩ _ _ _ _ h'
 case bool b=>rw[@Rp.bool_inv LoT _ _ _ _ h];exact @Rp.bool ⟨new⟩ _ _ b
 case str s=>obtain⟨rfl,h'⟩:= @Rp.str_inv LoT _ _ _ _ h;exact @Rp.str ⟨new⟩ _ _ _ h'
 case ifc u=>rw[@Rp.ifc_inv LoT _ _ _ _ h];exact @Rp.ifc ⟨new⟩ _ _ u
 case own k=>cases h
 case ownN k=>cases h
 case ptr k off=>cases h
 case oelt k sz i off=>cases h
 case clp f bd k off=>cases h
 case slf k=>cases h
 case sl t xs=>
  show @Rp ⟨new⟩ w S v (bif t.unm then .sl (.mk false t) xs else .undef)
  cases hu:t.unm with
  |false=>exact @Rp.undef ⟨new⟩ _ _ v
  |true=>exact @Rp.sl ⟨new⟩ _ _ (.mk false t) xs v (zt5 hS hu (@Rp.sl_inv' LoT _ _ _ _ _ h))
theorem zkG(hS:∀b,S b->¬new b)(h: @Rd LoT w S pl v d): @Rd ⟨new⟩ w S pl v (zl5 d):=by
 cases hr:d.ref with
 |some k=>
  cases d<;>simp only[D.ref,Option.some.injEq,reduceCtorEq]at hr
  all_goals exact h
 |none=>
  have hp:= @Rd.flat LoT _ _ _ _ _ h hr;cases d
  case agg cs=>
   obtain⟨vs,rfl,hl,he⟩:= @Rp.agg_inv LoT _ _ _ _ hp;refine @Rp.rd ⟨new⟩ _ _ _ _ _ (@Rp.agg ⟨new⟩ _ _ vs _ (by simpa using hl) λi d hd=> ?_)
   rw[Aaw,AaD]at hd
   obtain⟨d0,h0,rfl⟩:=hd;exact zfd hS (he i d0 h0)
  all_goals exact @Rp.rd ⟨new⟩ _ _ _ _ _ (zfd hS hp)
theorem zl6{d:D}(h:o8 (zl5 d)=true):o8 d=true:=by
 cases d<;>try first|exact h|(cases h;done)
 case sl t xs=>
  have h:o8 (bif t.unm then D.sl (.mk false t) xs else .undef)=true:=h
  cases hu:t.unm<;>rw[hu]at h<;>cases h
theorem zbd{α:Type}{f:Nat×α->Bool}{k:Nat}{o:α}:∀ {l:List (Nat×α)},l.all f=true->zW k l=some o->f (k,o)=true
 |[],_,h=>by cases h
 |(j,o')::r,ha,h=>by
  rw[Abr,If]at ha
  rw[xM]at h
  split at h
  ·rename_i e;subst e;injection h with h;subst h;exact ha.1
  ·exact zbd ha.2 h
theorem zhn(hc:zc6 σ=true){k:Nat}{o:yE}(h:zW k σ.hp=some o):∃ds,o=.cells ds:=by
 have:=zbd hc h;cases o with
 |cells ds=>exact⟨ds,rfl⟩
 |_=>cases this
theorem Er(hc:zc6 σ=true){k:Nat}{o:yE}(h:zW k σ.od.hp=some o):∃ds,zW k σ.hp=some (.cells ds)/\o=.cells (ds.map zl5):=by
 have h:zW k (σ.hp.map λx=>(x.1,odO x.2))=some o:=h
 rw[lG,AaD]at h
 obtain⟨o0,h0,rfl⟩:=h;obtain⟨ds,rfl⟩:=zhn hc h0;exact⟨ds,h0,rfl⟩
theorem zsZ(i:Nat):σ.od.get i=zl5 (σ.get i):=by
 unfold St.get St.od;rw[lG];cases zW i σ.fr<;>rfl
theorem zt6(m: @tF LoT P b0 N σ a w S pl)(hc:zc6 σ=true)(hn:∀b,w.heap.size<=b->new b)(hS:∀b,S b->¬new b)(hO:∀b,DO σ pl b->new b): @tF ⟨new⟩ P ⟨w,S,DO σ pl,pl⟩ N σ.od a w S pl:=by
 have hg: @Ee LoT P w (DO σ pl):= @tF.gnow LoT _ _ _ _ _ _ _ _ m _ λb ⟨k,o,hk,hb⟩=>(@tF.priv LoT _ _ _ _ _ _ _ _ m k o b hk hb).1
 refine @tF.mk ⟨new⟩ P _ N σ.od a w S pl m.dz m.sz (λi=> ?_) (λk o hk=> ?_) m.lt (λb hb=> .inl hb) (λk o b hk hb=> ?_) (λk k' o o' b hk hk' hb hb'=> ?_) (.of (Below.refl _ _)) (λ_ _=>rfl) ⟨hg.1,hn,hO⟩
 ·rw[zsZ];exact zkG hS (m.fr i)
 ·obtain⟨ds,h0,rfl⟩:=Er hc hk
  obtain⟨b,vs,T,e1,e2,e3,e4,e5⟩:=m.hp k _ h0;refine⟨b,vs,T,e1,e2,by simpa using e3,λi d hd=> ?_,Od (λ_=>zl6) e5⟩
  rw[Aaw,AaD]at hd
  obtain⟨d0,hd0,rfl⟩:=hd;exact zkG hS (e4 i d0 hd0)
 ·obtain⟨ds,h0,rfl⟩:=Er hc hk
  have:=m.priv k _ b h0 hb;exact⟨.inl ⟨k,_,h0,hb⟩,this.2⟩
 ·obtain⟨ds,h0,rfl⟩:=Er hc hk
  obtain⟨ds',h1,rfl⟩:=Er hc hk';exact m.inj k k' _ _ b h0 h1 hb hb'
theorem zqW{P:AcO}{E1 E2:TE}{A1 A2:xF}(F1:vE P E1)(F2:vE P E2)(hs:∀f t,zW f E2.sp=some t->Ent P f){f:AcM}{fn:Func}{body:Code}{args:AcT}{n i:Nat}{pubs:List (Nat×Nat)}{L:AcZ×AcZ}{Q:St->Prop}
  (hf:P.funcs[f]? =some fn) (hb:fn.body=some body) (hr:fn.results.toList=[.tmp i]) (hn1:A1.n=fn.ntmps) (hn2:A2.n=fn.ntmps) (hle:args.length<=fn.ntmps) (hsp:zoq n body=true)
  (hQ:∀σ,Q σ->zc6 σ=true)
  (h1:(∀d∈args,MN d)-> @den LoT P E1 A1 (zop n body) 0 (St.init args) (zsY pubs L Q))
  (h2:∀σ,Q σ->∀new:Nat->Prop,@Sg ⟨new⟩ P E2 A2 (zbc n body) 0 σ.od (zc5 i)): @oT LoT P f args (.bool true):=by
 intro w S vs hS hl hv hg
 have hok:∀d∈args,MN d:=λd hd=>by
  obtain⟨i,hi,rfl⟩:=Aas hd;exact @zg7 LoT _ _ _ _ (hv i _ (Aal hi))
 refine calls_of_wp hf hb ?_
 have m0: @tF LoT P ⟨w,S,λ_=>False,λ_=>undef⟩ A1.n (St.init args) {tmps:=vs++Array.replicate (fn.ntmps-vs.size) undef,defers:=[]} w S (λ_=>undef):=by
  refine @tF.mk LoT P _ _ _ _ w S _ rfl (by simp;omega) (λi=> ?_) (λk o h=>by cases h) hS (λb h=> .inl h) (λk o b h=>by cases h) (λk k' o o' b h=>by cases h) (.of (Below.refl _ _)) (λ_ _=>rfl) hg
  rw[L0];cases hi:args[i]? with
  |none=>exact @tD LoT _ _ _ _
  |some d=>
   have hlt:i<vs.size:=by rw[hl];exact(AaB.1 hi).1
   have:=hv i d hi;rw[Aaj,Ab5 hlt,<-Aaj];exact @Rp.rd LoT _ _ _ _ _ this
 refine @zor LoT P E1 A1 ⟨w,S,λ_=>False,λ_=>undef⟩ F1 (zsY pubs L Q) _ (λe σ hk=>by cases e<;>first|rfl|exact hk.elim) n body 0 _ _ w hsp (h1 hok) ⟨_,_,m0⟩ λσ a w1 hk hm=> ?_
 obtain⟨S1,pl1,m⟩:=hm;obtain⟨S2,m2⟩:= @Gm LoT P ⟨w,S,λ_=>False,λ_=>undef⟩ w1 pl1 A1.n a pubs σ S1 m
 have m3:= @tF.keep LoT _ _ _ _ _ _ _ _ m2 L;have hk:Q ((WO pubs σ).keep L):=hk;generalize(WO pubs σ).keep L=σ3 at hk m3
 let new:Nat->Prop:=λb=>w1.heap.size<=b\/DO σ3 pl1 b
 have hSn:∀b,S2 b->¬new b:=λb hb hn=>by
  rcases hn with hn|⟨k,o,h3,h4⟩
  ·have:=m3.lt b hb;omega
  ·exact(m3.priv k o b h3 h4).2.2 hb
 have m4:=zt6 (new:=new) m3 (hQ _ hk) (λb hb=> .inl hb) hSn (λb hb=> .inr hb)
 rw[show A1.n=A2.n from hn1.trans hn2.symm]at m4
 have hO:∀x,DO σ3 pl1 x->w.heap.size<=x:=λx ⟨k,o,h3,h4⟩=>(m3.priv k o x h3 h4).1.elim (λh=>h.elim) id
 have hB: @OkB ⟨new⟩ P w (λ_=>False) ⟨w1,S2,DO σ3 pl1,pl1⟩:= @zqV ⟨new⟩ P w σ3 S2 w1 pl1 hSn m3.below hO
 refine wp_mono (@zkC ⟨new⟩ P E2 A2 w (λ_=>False) F2 hs (zbc n body) 0 _ _ a w1 (h2 _ hk new) ⟨_,hB,_,_,m4⟩) λe a w' hq=> ?_
 obtain⟨he,hdz,hres,hbel⟩:= @zqU ⟨new⟩ _ _ _ _ _ _ _ _ hr hq;cases e<;>simp only[Ni,Option.some.injEq,reduceCtorEq]at he
 exact⟨hdz,_,hres,_,rfl,.bool true,hbel⟩
end
end Go.Proofs.YtdnmkinmcdihnaaGreatDoor
namespace Go.Proofs.YtdnmkinmcdihnaaGreatDoor
open Go.Proofs.Tryz
open Go.RowKit
set_option maxRecDepth 100000
variable[Lo]
abbrev Si:AcM:=3
abbrev nI:AcM:=4
abbrev mS:AcM:=5
abbrev oV:AcM:=6
abbrev mT:AcM:=7
abbrev nJ:AcM:=8
abbrev oW:AcM:=9
abbrev qW:AcM:=10
abbrev fR:AcM:=11
abbrev nX:AcM:=12
abbrev ot:AcM:=13
abbrev jU:AcM:=14
abbrev ou:AcM:=15
abbrev rM:AcM:=16
abbrev vF:AcM:=17
abbrev wE:AcM:=18
abbrev vW:AcM:=19
abbrev cS:AcM:=20
abbrev wF:AcM:=21
abbrev Xs:AcM:=22
abbrev vG:AcM:=23
abbrev X9:AcM:=24
abbrev tO:AcM:=25
abbrev cT:AcM:=26
abbrev sW:AcM:=27
abbrev Xt:AcM:=28
abbrev Zv:AcM:=29
abbrev fS:AcM:=30
abbrev Zw:AcM:=31
abbrev oH:AcM:=32
abbrev uQ:AcM:=33
abbrev fl:AcM:=34
abbrev oI:AcM:=35
abbrev tS:AcM:=36
abbrev lV:AcM:=37
abbrev tT:AcM:=38
abbrev Wa:AcM:=39
abbrev Sj:AcM:=40
abbrev YQ:AcM:=41
abbrev lI:AcM:=42
abbrev kG:AcM:=43
abbrev qF:AcM:=44
abbrev xX:AcM:=45
abbrev bN:AcM:=46
abbrev uR:AcM:=47
abbrev nK:AcM:=48
abbrev YR:AcM:=49
abbrev Wb:AcM:=50
abbrev V2:AcM:=51
abbrev yB:AcM:=52
abbrev yR:AcM:=53
abbrev jV:AcM:=54
abbrev yK:AcM:=55
abbrev vY:AcM:=56
abbrev aP:AcM:=57
abbrev oJ:AcM:=58
abbrev lW:AcM:=59
abbrev Zx:AcM:=60
abbrev oK:AcM:=61
abbrev nL:AcM:=62
abbrev Zy:AcM:=63
abbrev rN:AcM:=64
abbrev nM:AcM:=65
abbrev YS:AcM:=66
abbrev qX:AcM:=67
abbrev pZ:AcM:=68
abbrev zV:AcM:=69
abbrev cU:AcM:=70
abbrev xP:AcM:=71
abbrev nN:AcM:=72
abbrev xS:AcM:=73
abbrev vN:AcM:=74
abbrev wT:AcM:=75
abbrev QL:AcM:=76
abbrev RP:AcM:=77
abbrev pJ:AcM:=79
abbrev rW:AcM:=80
abbrev yS:AcM:=81
abbrev qY:AcM:=82
abbrev jG:AcM:=83
abbrev jH:AcM:=84
abbrev yM:AcM:=85
abbrev Zz:AcM:=86
abbrev xW:AcM:=87
abbrev xZ:AcM:=88
abbrev vS:AcM:=89
abbrev bO:AcM:=90
abbrev ZA:AcM:=91
abbrev vT:AcM:=92
abbrev ZB:AcM:=93
abbrev cV:AcM:=94
abbrev ov:AcM:=95
abbrev Wc:AcM:=96
abbrev YT:AcM:=97
abbrev YU:AcM:=98
abbrev nO:AcM:=99
abbrev wK:AcM:=101
abbrev uN:AcM:=102
abbrev jW:AcM:=103
abbrev fm:AcM:=104
abbrev kH:AcM:=105
abbrev vZ:AcM:=106
abbrev V3:AcM:=107
abbrev kQ:AcM:=108
abbrev rX:AcM:=109
abbrev ow:AcM:=110
abbrev cW:AcM:=111
abbrev tU:AcM:=112
abbrev tG:AcM:=113
abbrev Wd:AcM:=114
abbrev jI:AcM:=115
abbrev mG:AcM:=116
abbrev kR:AcM:=117
abbrev tI:AcM:=118
abbrev tV:AcM:=119
abbrev yQ:AcM:=120
abbrev tP:AcM:=121
abbrev uT:AcM:=122
abbrev bP:AcM:=123
abbrev yZ:AcM:=136
abbrev uA:AcM:=137
abbrev zK:AcM:=138
abbrev zL:AcM:=139
abbrev qZ:AcM:=140
abbrev zM:AcM:=141
abbrev zQ:AcM:=142
abbrev sI:AcM:=143
abbrev uE:AcM:=144
abbrev uF:AcM:=145
abbrev zc7:AcM:=146
abbrev Zi:AcM:=147
abbrev AF:AcM:=148
abbrev uG:AcM:=149
abbrev Sk:AcM:=150
abbrev Yv:AcM:=151
abbrev oL:AcM:=152
abbrev mH:AcM:=155
abbrev jX:AcM:=156
abbrev wN:AcM:=157
abbrev lJ:AcM:=158
abbrev qT:AcM:=159
abbrev lD:AcM:=160
abbrev kS:AcM:=161
abbrev lE:AcM:=162
abbrev vJ:AcM:=163
abbrev wD:AcM:=164
abbrev sJ:AcM:=165
abbrev aQ:AcM:=166
abbrev mI:AcM:=167
abbrev yF:AcM:=168
abbrev Yw:AcM:=169
abbrev mJ:AcM:=170
abbrev eU:AcM:=171
abbrev fT:AcM:=172
abbrev eV:AcM:=173
abbrev tW:AcM:=174
abbrev bZ:AcM:=186
abbrev vK:AcM:=189
abbrev zN:AcM:=190
abbrev xR:AcM:=191
abbrev tX:AcM:=192
abbrev yW:AcM:=193
abbrev uH:AcM:=194
abbrev yN:AcM:=195
abbrev jY:AcM:=196
abbrev zfe:AcM:=197
abbrev Yx:AcM:=198
abbrev uB:AcM:=204
abbrev xG:AcM:=205
abbrev yH:AcM:=206
abbrev ZC:AcM:=207
abbrev YV:AcM:=208
abbrev tY:AcM:=209
abbrev wB:AcM:=210
abbrev kI:AcM:=211
abbrev kJ:AcM:=212
abbrev tZ:AcM:=213
abbrev rY:AcM:=214
abbrev rO:AcM:=215
abbrev ox:AcM:=216
abbrev Xu:AcM:=217
abbrev iV:AcM:=218
abbrev fU:AcM:=219
abbrev eW:AcM:=234
abbrev mD:AcM:=235
abbrev kU:AcM:=236
abbrev wA:AcM:=246
abbrev sA:AcM:=250
abbrev Es(x0:AcU)(x1:AcV)(x2 x3:Int)(x4:AcS):List (Nat×yE):=[(1000,.cells [.sl .var x0,.sl .con x1,dI x2,dI x3,.own 2000]),(2000,.row 61 (.list .lit) x4)]
abbrev mK(x0:AcU)(x1:AcV)(x2 x3:Int)(x4:AcY):List (Nat×yE):=[(1000,.cells [.slf 1000,.own 2000,.sl .var x0,.sl .con x1,dI x2,dI x3]),(2000,.row 5 .byte x4)]
abbrev RQ(x0:Int)(x1 x2:AcP)(x3:Int)(x4:AcQ)(x5:AcR)(x6:AcQ)(x7 x8:AcP)(x9:List ((Int×Int)×Int)):List (Nat×yE):=[(1000,.cells [dI x0,.sl .int x1,.sl .int x2,dI x3,.sl (.list .int) x4,.sl .lit x5,.sl (.list .int) x6,.sl .int x7,.own 2000,.own 1001]),(2000,.row 3 .int x8),(1001,.mp (.pr .int .int) .int x9)]
abbrev hq5(x0:AcQ)(x1:AcP)(x2:Int)(x3 x4:List (Int×Int)):List (Nat×yE):=[(1000,.cells [.sl (.list .int) x0,.sl .int x1,.own 1001,.own 1002,dI x2]),(1001,.mp .int .int x3),(1002,.mp .int .int x4)]
def Ev:TE where
 zs:=[(3,(false,[dI 0])),(9,(false,[.str (⟨#[]⟩)])),(22,(false,[.nil])),(23,(false,[.nil])),(25,(true,[.sl .var ([]:AcU),.sl .con ([]:AcV),dI 0,dI 0])),(28,(false,[.nil])),(29,(false,[.nil])),(31,(true,[dI 0,.sl .int ([]:AcP),.sl .step ([]:AcW)])),(35,(false,[.nil])),(49,(true,[.str (⟨#[]⟩),dI 0,dI 0])),(50,(false,[.nil])),(52,(true,[dI 0,.sl .int ([]:AcP),.sl .int ([]:AcP),dI 0,dS ([]:AcQ),.sl .lit ([]:AcR)])),(61,(false,[.nil])),(66,(true,[dI 0,dI 0,dI 0])),(69,(false,[.nil])),(71,(true,[dI 0,dI 0,.sl .lit ([]:AcR)])),(87,(false,[.nil])),(102,(true,[.sl .var ([]:AcU),.sl .con ([]:AcV),dI 0,dI 0,.nil])),(108,(false,[.undef])),(115,(false,[.nil])),(119,(true,[.ifc (.pointer none),.nil,.sl .var ([]:AcU),.sl .con ([]:AcV),dI 0,dI 0])),(144,(false,[.undef])),(148,(true,[.str (⟨#[]⟩),dI 0])),(150,(true,[dI 0,dI 0,.str (⟨#[]⟩)])),(161,(false,[.undef])),(188,(true,[.sl .var ([]:AcU),.sl .con ([]:AcV),dI 0,dI 0,.sl (.list .lit) ([]:AcS),dS ([]:AcQ),.nil])),(212,(true,[dI 0,dI 0,dI 0,dI 0,dI 0])),(253,(false,[.undef])),(254,(false,[.undef])),(256,(true,[dI 0,.sl .int ([]:AcP),.sl .int ([]:AcP),dI 0,dS ([]:AcQ),.sl .lit ([]:AcR),dS ([]:AcQ),.sl .int ([]:AcP),.sl .int ([]:AcP),.undef])),(257,(true,[dI 0,dI 0])),(258,(false,[.nil])),(260,(false,[.undef])),(262,(true,[dI 0,dI 0])),(268,(true,[dS ([]:AcQ),.sl .int ([]:AcP),.undef,.undef,dI 0]))]
 sl:=[(22,(49,.var)),(23,(52,.con)),(28,(3,.int)),(29,(71,.step)),(35,(28,.list .int)),(50,(66,.lit)),(61,(66,.lit)),(69,(61,.list .lit)),(87,(28,.list .int)),(91,(150,.tok)),(115,(5,.byte)),(172,(9,.str)),(221,(50,.list .lit)),(258,(262,.term))]
 fld:=[(25,[(0,1),(1,1),(2,1),(3,1)]),(31,[(0,1),(1,1),(2,1)]),(49,[(0,1),(1,1),(2,1)]),(52,[(0,1),(1,1),(2,1),(3,1),(4,1),(5,1)]),(66,[(0,1),(1,1),(2,1)]),(71,[(0,1),(1,1),(2,1)]),(102,[(0,4),(4,1)]),(117,[(0,1),(1,1)]),(119,[(0,2),(2,4)]),(148,[(0,1),(1,1)]),(150,[(0,1),(1,1),(2,1)]),(188,[(0,4),(4,1),(5,1),(6,1)]),(212,[(0,1),(1,1),(2,1),(3,1),(4,1)]),(256,[(0,6),(6,1),(7,1),(8,1),(9,1)]),(262,[(0,1),(1,1)]),(268,[(0,1),(1,1),(2,1),(3,1),(4,1)])]
 strs:=[9]
 ints:=[(2,.i64),(3,.i64),(5,.u8),(6,.u8),(32,.i64),(228,.i64),(288,.i64),(314,.u8),(315,.u8)]
 bools:=[]
 sig:=[(nI,[.bool]),(mS,[.bool]),(oV,[.bool]),(mT,[.bool]),(nJ,[.bool]),(oW,[.mdl]),(qW,[.ans,.int]),(fR,[.ans,.int]),(nX,[.list (.list .int),.bool,.int]),(ot,[.list .int,.int]),(jU,[.mdl,.int,.int]),(ou,[.bool,.int]),(rM,[.bool]),(vF,[.bool]),(wE,[]),(vW,[]),(cS,[.bool,.int]),(wF,[.mdl]),(Xs,[.bool,.int]),(vG,[.int]),(X9,[.str,.int]),(tO,[.bool]),(cT,[.list .lit,.int]),(sW,[.bool]),(Xt,[.bool,.int]),(Zv,[.bool,.int]),(tS,[.list (.list .int)]),(lV,[.int]),(tT,[.list .int]),(Wa,[.list .tok,.int,.int]),(YQ,[.int]),(kG,[.bool]),(qF,[]),(xX,[.bool]),(uR,[.bool]),(nK,[.bool]),(YR,[.bool]),(Wb,[.int]),(V2,[.int]),(yR,[.str]),(oJ,[.int]),(lW,[.bool]),(Zx,[.int]),(oK,[.bool]),(qX,[.list .lit]),(pZ,[.list (.list .int)]),(zV,[.bool]),(xP,[.list (.list .int)]),(QL,[]),(RP,[.tok,.int]),(rW,[.int]),(yS,[.int]),(qY,[.bool]),(jG,[.bool]),(jH,[.bool]),(yM,[.bool]),(xW,[.bool]),(xZ,[.bool]),(vS,[.bool]),(ZA,[.bool]),(vT,[.bool]),(ov,[.bool]),(Wc,[.bool]),(wK,[.str]),(jW,[.list .str]),(fm,[.str]),(V3,[.int]),(kQ,[.list (.list .int)]),(rX,[.list (.list .int)]),(cW,[.bool]),(tG,[.list .lit]),(jI,[.list (.list .int)]),(kR,[.lit]),(tI,[.list (.list .int)]),(tV,[.list (.list .int)]),(yQ,[.list (.list .int)]),(tP,[.bool]),(uT,[.bool]),(sI,[.int]),(uE,[.int]),(uF,[.int]),(zc7,[.bool]),(Zi,[.bool]),(AF,[.list .str]),(uG,[.int]),(Sk,[.pr .int (.pr .int (.pr .int (.pr .int .int)))]),(Yv,[.bool]),(mH,[.str]),(wN,[.bool]),(kS,[.bool]),(wD,[.bool]),(aQ,[.list (.list .int)]),(yF,[.bool]),(Yw,[.int]),(tW,[.int]),(bZ,[.int]),(zfe,[.bool]),(Yx,[.int]),(uB,[.int]),(ZC,[.list .term]),(YV,[.list .int]),(wB,[.int]),(ox,[.int]),(iV,[.list .lit,.bool]),(fU,[.list .lit,.bool]),(mD,[.list .lit]),(kU,[.list .lit]),(wA,[.list .lit])]
 mps:=[(161,(.int,.int)),(254,(.pr .int .int,.int)),(260,(.int,.list .int))]
 sts:=[(49,.var),(66,.lit)]
 hsig:=[(lI,{tys:=[.bool,.list (.list .lit)],nils:=[(0,(4,(61,.list .lit)))],datas:=[],res:=λxs ob=>match xs,ob 1000,ob 2000 with|[y0,.sl (.list .lit) y1],some o1000,some o2000=>some (y0,[(1000,o1000),(2000,.row 61 (.list .lit) y1)])|_,_,_=>none}),
  (yB,{tys:=[.int,.list .byte],nils:=[(0,(0,(5,.byte))),(0,(1,(5,.byte)))],datas:=[],res:=λxs ob=>match xs,ob 1000,ob 2000 with|[y0,.sl .byte y1],some o,some _=>some (.tup [y0,.undef],[(1000,o),(2000,.row 5 .byte y1)])|_,_,_=>none}),
  (jV,{tys:=[.str],nils:=[(0,(0,(5,.byte))),(0,(1,(5,.byte)))],datas:=[],res:=λxs ob=>match xs,ob 1000,ob 2000 with|[y0],some o1000,some o2000=>some (y0,[(1000,o1000),(2000,o2000)])|_,_,_=>none}),
  (yK,{tys:=[.str],nils:=[(0,(0,(5,.byte))),(0,(1,(5,.byte)))],datas:=[],res:=λxs ob=>match xs,ob 1000,ob 2000 with|[y0],some o1000,some o2000=>some (y0,[(1000,o1000),(2000,o2000)])|_,_,_=>none}),
  (vY,{tys:=[.str],nils:=[(0,(0,(5,.byte))),(0,(1,(5,.byte)))],datas:=[],res:=λxs ob=>match xs,ob 1000,ob 2000 with|[y0],some o1000,some o2000=>some (y0,[])|_,_,_=>none}),
  (xS,{tys:=[.list .int],nils:=[],datas:=[],res:=λxs ob=>match xs with|[.sl .int y0]=>some (.own 3000,[(3000,.row 3 .int y0)])|_=>none}),
  (vN,{tys:=[.list .int],nils:=[],datas:=[],res:=λxs ob=>match xs,ob 1000 with|[.sl .int y0],some o1000=>some (.tup [],[(1000,.row 3 .int y0)])|_,_=>none}),
  (wT,{tys:=[.list .int],nils:=[],datas:=[],res:=λxs ob=>match xs,ob 1000 with|[y0],some o1000=>some (y0,[])|_,_=>none}),
  (nO,{tys:=[],nils:=[(0,(0,(5,.byte))),(0,(1,(5,.byte)))],datas:=[],res:=λxs ob=>match xs,ob 1000,ob 2000 with|[],some o1000,some o2000=>some (.tup [],[(1000,o1000),(2000,o2000)])|_,_,_=>none}),
  (uN,{tys:=[.str],nils:=[],datas:=[],res:=λxs ob=>match xs,ob 1000,ob 2000 with|[y0],some o,some r=>some (y0,[(1000,o),(2000,r)])|[y0],none,none=>some (y0,[])|_,_,_=>none}),
  (kH,{tys:=[.str],nils:=[],datas:=[],res:=λxs ob=>match xs,ob 1000,ob 2000 with|[y0],some o,some r=>some (y0,[(1000,o),(2000,r)])|[y0],none,none=>some (y0,[])|_,_,_=>none}),
  (vZ,{tys:=[.str],nils:=[(0,(0,(5,.byte))),(0,(1,(5,.byte)))],datas:=[],res:=λxs ob=>match xs,ob 1000,ob 2000 with|[y0],some o1000,some o2000=>some (y0,[(1000,o1000),(2000,o2000)])|_,_,_=>none}),
  (tU,{tys:=[.list .lit],nils:=[],datas:=[],res:=λxs ob=>match xs with|[.sl .lit y0]=>some (.own 3000,[(3000,.row 66 .lit y0)])|_=>none}),
  (mG,{tys:=[.list (.list .int),.list .step],nils:=[(0,(6,(71,.step)))],datas:=[],res:=λxs ob=>match xs,ob 1000,ob 2000 with|[y0,.sl .step y1],some (.cells o1000),some o2000=>some (.tup [],[(1000,.cells (o1000.set 5 y0)),(2000,.row 71 .step y1)])|_,_,_=>none}),
  (qT,{tys:=[.con,.list (.list .int),.list .int,.list .int,.list (.pr (.pr .int .int) .int)],nils:=[],datas:=[],res:=λxs _=>match xs with|[.agg y0,y1,y2,y3,.sl (.pr (.pr .int .int) .int) y4]=>some (.clo 206 none [.iptr [.iptr (y0++[y1,y2,y3,.mp (.pr .int .int) .int y4]) 0] 0],[])|_=>none}),
  (lD,{tys:=[.list .term,.list (.pr .int (.list .int)),.con],nils:=[],datas:=[],res:=λxs _=>match xs with|[y0,.sl (.pr .int (.list .int)) y1,.agg y2]=>some (.clo 209 none [.iptr [y0] 0,.iptr [.mp .int (.list .int) y1] 0,.iptr y2 0],[])|_=>none}),
  (lE,{tys:=[.list (.list .int),.con],nils:=[],datas:=[],res:=λxs _=>match xs with|[y0,.agg y1]=>some (.clo 213 none [.iptr [y0] 0,.iptr y1 0],[])|_=>none}),
  (sJ,{tys:=[.list .lit],nils:=[],datas:=[],res:=λxs ob=>match xs with|[.sl .lit y0]=>some (.own 3000,[(3000,.row 66 .lit y0)])|_=>none,raw:=true}),
  (mI,{tys:=[.bool,.list (.list .int),.list .step],nils:=[(0,(6,(71,.step)))],datas:=[],res:=λxs ob=>match xs,ob 1000,ob 2000 with|[y0,y1,.sl .step y2],some (.cells o1000),some o2000=>some (y0,[(1000,.cells (o1000.set 5 y1)),(2000,.row 71 .step y2)])|_,_,_=>none}),
  (xG,{tys:=[.list .int,.list (.pr (.pr .int .int) .int)],nils:=[],datas:=[],res:=λxs ob=>match xs,ob 1000,ob 2000,ob 1001 with|[.sl .int y0,.sl (.pr (.pr .int .int) .int) y1],some o1000,some o2000,some o1001=>some (.tup [],[(1000,o1000),(2000,.row 3 .int y0),(1001,.mp (.pr .int .int) .int y1)])|_,_,_,_=>none}),
  (rY,{tys:=[.list (.list .int)],nils:=[],datas:=[],res:=λxs ob=>match xs with|[.sl (.list .int) y0]=>some (.own 3000,[(3000,.row 28 (.list .int) y0)])|_=>none}),
  (rO,{tys:=[.bool,.list (.pr .int .int),.list (.pr .int .int)],nils:=[],datas:=[(0,0)],res:=λxs ob=>match xs,ob 1000,ob 1001,ob 1002 with|[y0,.sl (.pr .int .int) y1,.sl (.pr .int .int) y2],some o1000,some o1001,some o1002=>some (y0,[(1000,o1000),(1001,.mp .int .int y1),(1002,.mp .int .int y2)])|_,_,_,_=>none}),
  (sA,{tys:=[.list .lit],nils:=[],datas:=[],res:=λxs ob=>match xs with|[.sl .lit y0]=>some (.own 3000,[(3000,.row 66 .lit y0)])|_=>none,raw:=true})]
 vals:=[81,85,98,102,119,133,188,256,268]
 arr:=[257]
 thr:=[]
theorem zt7:Ev.chk prog=true:=by kernel_rfl
theorem zt8:∀x∈Ev.sig,∀args w,(callFunc x.1 args).run prog w=.ok (.enter x.1 args) w:=by
 simp only[Ev,List.forall_mem_cons,Aa6,false_imp_iff,implies_true,and_true];exact ⟨call4,call5,call6,call7,call8,call9,call10,call11,call12,call13,call14,call15,call16,call17,call18,call19,call20,call21,call22,call23,call24,call25,call26,call27,call28,call29,call36,call37,call38,call39,call41,call43,call44,call45,call47,call48,call49,call50,call51,call53,call58,call59,call60,call61,call67,call68,call69,call71,call76,call77,call80,call81,call82,call83,call84,call85,call87,call88,call89,call91,call92,call95,call96,call101,call103,call104,call107,call108,call109,call111,call113,call115,call117,call118,call119,call120,call121,call122,call143,call144,call145,call146,call147,call148,call149,call150,call151,call155,call157,call161,call164,call166,call168,call169,call174,call186,call197,call198,call204,call207,call208,call210,call216,call218,call219,call235,call236,call246⟩
theorem zs0:Ev.chk2 prog=true:=by kernel_rfl
theorem zs1:∀x∈Ev.hsig,Ent prog x.1:=by
 simp only[Ev,List.forall_mem_cons,Aa6,false_imp_iff,implies_true,and_true];exact ⟨call42,call52,call54,call55,call56,call73,call74,call75,call99,call102,call105,call106,call112,call116,call159,call160,call162,call165,call167,call205,call214,call215,call250⟩
theorem L3:vE prog Ev:=QD (by kernel_rfl) zt7 zs0 zt8 zs1
abbrev FD(A:xF)(fn:Func)(ds:AcT)(R:D->Prop):Prop:=fnD prog Ev A fn.results.toList (vB fn) ds R
abbrev FH(A:xF)(fn:Func)(ds:AcT)(hp:List (Nat×yE))(roots:AcT)(own:Bool)(R:D->List (Nat×yE)->Prop):Prop:=fnH prog Ev A fn.results.toList (vB fn) ds hp roots own R
def wU(A:xF)(fn:Func)(f:AcM)(ds:AcT):Prop:=∀ {r:D},((∀d∈ds,MN d)->FD A fn ds λd=>d=r)->oT prog f ds r
def Xv(A:xF)(fn:Func)(f:AcM)(ds:AcT)(hp:List (Nat×yE))(roots:AcT)(own:Bool):Prop:=∀ {r:D} {h0:List (Nat×yE)},((∀d∈ds,MN d)->(∀k o,zW k hp=some o->okO o)->FH A fn ds hp roots own λd h1=>d=r/\h1=h0)->zlE prog f ds hp r h0
theorem wX{A:xF}{fn:Func}{f:AcM}{ds:AcT}(hf:prog.funcs[f]? =some fn)(hb:fn.body=some (vB fn))(hn:fn.ntmps=A.n)(hl:Nat.ble ds.length A.n=true):wU A fn f ds:=λh=>zcS L3 hf hb hn.symm (by rw[hn];exact Aau hl) h
theorem XY{A:xF}{fn:Func}{f:AcM}{ds:AcT}{hp:List (Nat×yE)}{roots:AcT}{own:Bool}(hf:prog.funcs[f]? =some fn)(hb:fn.body=some (vB fn))(hn:fn.ntmps=A.n)(hl:Nat.ble ds.length A.n=true):Xv A fn f ds hp roots own:=λh=>Eo L3 hf hb hn.symm (by rw[hn];exact Aau hl) h
abbrev FX(A:xF)(fn:Func)(ds:AcT)(hp:List (Nat×yE))(roots:AcT)(own:Bool)(R:D->List (Nat×yE)->Prop)(T:Value->Prop):Prop:=fnX prog Ev A fn.results.toList (vB fn) ds hp roots own R T
def zt9(A:xF)(fn:Func)(f:AcM)(ds:AcT)(hp:List (Nat×yE))(roots:AcT)(own:Bool):Prop:=∀ {r:D} {h0:List (Nat×yE)},((∀d∈ds,MN d)->(∀k o,zW k hp=some o->okO o)->FX A fn ds hp roots own (λd h1=>d=r/\h1=h0) λ_=>False)->zlE prog f ds hp r h0
def zua(A:xF)(fn:Func)(f:AcM)(ds:AcT)(hp:List (Nat×yE))(roots:AcT)(own:Bool):Prop:=∀ {u:Value},((∀d∈ds,MN d)->(∀k o,zW k hp=some o->okO o)->FX A fn ds hp roots own (λ_ _=>False) λv=>v=u)->zqg prog f ds hp u
theorem zuX{A:xF}{fn:Func}{f:AcM}{ds:AcT}{hp:List (Nat×yE)}{roots:AcT}{own:Bool}(hf:prog.funcs[f]? =some fn)(hb:fn.body=some (vB fn))(hn:fn.ntmps=A.n)(hl:Nat.ble ds.length A.n=true):zt9 A fn f ds hp roots own:=λh=>zeY L3 hf hb hn.symm (by rw[hn];exact Aau hl) h
theorem zuY{A:xF}{fn:Func}{f:AcM}{ds:AcT}{hp:List (Nat×yE)}{roots:AcT}{own:Bool}(hf:prog.funcs[f]? =some fn)(hb:fn.body=some (vB fn))(hn:fn.ntmps=A.n)(hl:Nat.ble ds.length A.n=true):zua A fn f ds hp roots own:=λh=>zkv L3 hf hb hn.symm (by rw[hn];exact Aau hl) h
abbrev LP(A:xF)(fn:Func)(path:AcZ)(cur n:Nat)(σ:St)(K:Ex->St->Prop):Prop:=DA (den prog Ev A (sub path (vB fn)) cur) A (Yq A cur) n σ K
abbrev sK(A:xF)(fn:Func)(path:AcZ)(cur:Nat)(K:Ex->St->Prop):=zqD prog Ev A (sub path (vB fn)) cur K
abbrev iK(A:xF)(fn:Func)(path:AcZ)(cur n:Nat)(K:Ex->St->Prop):=zks (den prog Ev A (sub path (vB fn)) cur) A (Yq A cur) n K
abbrev eK(fn:Func)(R:D->Prop):=zqE Ev fn.results.toList R
abbrev eH(fn:Func)(roots:AcT)(own:Bool)(R:D->List (Nat×yE)->Prop):=Nj Ev fn.results.toList roots own R
abbrev oG:=D->List (Nat×yE)->Prop
abbrev Qn:=Value->Prop
abbrev xI:=D->Prop
abbrev gL(c:zF)(r:AcT):AcT:=dI c.kind:: .sl .int c.vars:: .sl .int c.consts::dI c.n::dS c.rows:: .sl .lit c.lits::r
abbrev Oy(c:zE)(r:AcT):AcT:=.sl .var c.vars:: .sl .con c.cons::dI c.goal::dI c.var::r
abbrev vL:=oT prog
abbrev xT:=zlE prog
abbrev nP:=zqg prog
abbrev yJ:=znu prog
abbrev c2Q:=znv prog
abbrev c3Q:=znw prog
abbrev fV:=Ent prog
end Go.Proofs.YtdnmkinmcdihnaaGreatDoor
namespace Go.Proofs.YtdnmkinmcdihnaaGreatDoor
open Go.Proofs.Tryz
open Go.RowKit
set_option maxRecDepth 100000
variable[Lo]
def nQ:xF:= {own:=[3,5,6,26,30],live:=[(0,([3,9,10,11],[3])),(2,([3,5,6,7,9,10,11],[3,5,6]))],n:=33}
def YW(a:zE)(R:xI)(c:Nat)(b:Int)(d:Nat)(e:Int)(f:AcQ)(g:AcP):Prop:=LP nQ f36 [1,1,0,1,0,0,1,1,0,0,1,1,0,1,0,0] 2 d ⟨[(3,.own 3),(5,.ptr 5 0),(6,.own 6),(7,dI e),(9,.sl .var a.vars),(10,dI (a.vars.length:Int)),(11,dI b)],[(3,.row 28 (.list .int) f),(5,.cells [.str ((zJ .var a.vars b.toNat).name),dI ((zJ .var a.vars b.toNat).lo),dI ((zJ .var a.vars b.toNat).hi)]),(6,.row 3 .int g)]⟩ (zP 2 (sK nQ f36 [1,1,0,1,0,0,1,1,0,0,1,1,1] 1 (zP 1 (sK nQ f36 [1,1,0,1,0,0,1,1,1] 0 (iK nQ f36 [1,1,0,1,0,0] 0 c (zP 0 (sK nQ f36 [1,1,1] 0 (eK f36 R))))))))
def YX(a:zE)(R:xI)(b:Nat)(c:Int)(d:AcQ):Prop:=LP nQ f36 [1,1,0,1,0,0] 0 b ⟨[(3,.own 3),(9,.sl .var a.vars),(10,dI (a.vars.length:Int)),(11,dI c)],[(3,.row 28 (.list .int) d)]⟩ (zP 0 (sK nQ f36 [1,1,1] 0 (eK f36 R)))
theorem Ig(c:zE)(R:xI)(f:Nat)(d:Int)(g:Nat)(a:Int)(e:AcQ)(b:AcP):YW c R f d (g+1) a e b=
 (zT (decide (a<=((zJ .var c.vars d.toNat).hi)))
 (yX .int (b.length+([a]).length)=true/\
 YW c R f d g (yU (a+1)) e (b++([a])))
 (yX (.list .int) (e.length+([b]).length)=true/\
 YX c R f (yU (d+1)) (e++([b])))):=by kernel_rfl
theorem Ih(a:zE)(R:xI)(d:Nat)(b:Int)(c:AcQ):YX a R (d+1) b c=
 (zT (decide (b<(a.vars.length:Int)))
 (wW b a.vars.length=true/\
 ∃n2,YW a R d b n2 ((zJ .var a.vars b.toNat).lo) c ([]:AcP))
 (R (dS c))):=by kernel_rfl
theorem AG(a:zE)(R:xI):FD nQ f36 [dM a] R=
 (∃n0,YX a R n0 0 ([]:AcQ)):=by kernel_rfl
theorem DW(a:zE):wU nQ f36 tS [dM a]:=wX func36 (by kernel_rfl) ntmps36 rfl
def N1:xF:= {own:=[],live:=[],n:=5}
theorem DX(a:AcQ)(R:xI):FD N1 f69 [dS a] R=
 (yJ uT [dS a,.clo bP none []] .bool λb=>
 R (dB b)):=by kernel_rfl
theorem GY(a:AcQ):wU N1 f69 zV [dS a]:=wX func69 (by kernel_rfl) ntmps69 rfl
def nR:xF:= {own:=[5,8,31,36],live:=[(0,([1,5,11,12,13],[5])),(2,([1,5,6,8,11,12,13,18,19,20],[5,8]))],n:=39}
def cX(a:AcQ)(c:AcM)(d:AcT)(R:xI)(e:Nat)(b:Int)(f:Nat)(g:Int)(h:AcQ)(i:AcP):Prop:=LP nR f71 [1,1,0,1,0,0,1,1,0,0,1,1,0,1,0,0] 2 f ⟨[(1,.clo c (some [.bool]) d),(5,.own 5),(6,dI b),(8,.own 8),(11,dS a),(12,dI (a.length:Int)),(13,dI b),(18,.sl .int (zJ (.list .int) a b.toNat)),(19,dI ((zJ (.list .int) a b.toNat).length:Int)),(20,dI g)],[(5,.row 28 (.list .int) h),(8,.row 3 .int i)]⟩ (zP 2 (sK nR f71 [1,1,0,1,0,0,1,1,0,0,1,1,1] 1 (zP 1 (sK nR f71 [1,1,0,1,0,0,1,1,1] 0 (iK nR f71 [1,1,0,1,0,0] 0 e (zP 0 (sK nR f71 [1,1,1] 0 (eK f71 R))))))))
def YY(a:AcQ)(b:AcM)(c:AcT)(R:xI)(d:Nat)(e:Int)(f:AcQ):Prop:=LP nR f71 [1,1,0,1,0,0] 0 d ⟨[(1,.clo b (some [.bool]) c),(5,.own 5),(11,dS a),(12,dI (a.length:Int)),(13,dI e)],[(5,.row 28 (.list .int) f)]⟩ (zP 0 (sK nR f71 [1,1,1] 0 (eK f71 R)))
theorem Ii(b:AcQ)(d:AcM)(f:AcT)(R:xI)(h:Nat)(a:Int)(i:Nat)(c:Int)(g:AcQ)(e:AcP):cX b d f R h a (i+1) c g e=
 (zT (decide (c<((zJ (.list .int) b a.toNat).length:Int)))
 (wW c (zJ (.list .int) b a.toNat).length=true/\
 fV d/\
 yJ d ([dI a,dI (zJ .int (zJ (.list .int) b a.toNat) c.toNat)]++f) .bool λj=>
 zT j
 (yX .int (e.length+([zJ .int (zJ (.list .int) b a.toNat) c.toNat]).length)=true/\
 cX b d f R h a i (yU (c+1)) g (e++([zJ .int (zJ (.list .int) b a.toNat) c.toNat])))
 (cX b d f R h a i (yU (c+1)) g e))
 (yX (.list .int) (g.length+([e]).length)=true/\
 YY b d f R h (yU (a+1)) (g++([e])))):=by kernel_rfl
theorem Ij(a:AcQ)(d:AcM)(e:AcT)(R:xI)(f:Nat)(b:Int)(c:AcQ):YY a d e R (f+1) b c=
 (zT (decide (b<(a.length:Int)))
 (wW b a.length=true/\
 ∃n2,cX a d e R f b n2 0 c ([]:AcP))
 (R (dS c))):=by kernel_rfl
theorem AH(a:AcQ)(b:AcM)(c:AcT)(R:xI):FD nR f71 [dS a,.clo b (some [.bool]) c] R=
 (∃n0,YY a b c R n0 0 ([]:AcQ)):=by kernel_rfl
theorem DY(a:AcQ)(b:AcM)(c:AcT):wU nR f71 xP [dS a,.clo b (some [.bool]) c]:=wX func71 (by kernel_rfl) ntmps71 rfl
def V4:xF:= {own:=[3,16],live:=[(0,([3,6,7,8],[3]))],n:=19}
def We(a:AcQ)(R:xI)(b:Nat)(c:Int)(d:AcQ):Prop:=LP V4 f118 [1,1,0,1,0,0] 0 b ⟨[(3,.own 3),(6,dS a),(7,dI (a.length:Int)),(8,dI c)],[(3,.row 28 (.list .int) d)]⟩ (zP 0 (sK V4 f118 [1,1,1] 0 (eK f118 R)))
theorem GZ(a:AcQ)(R:xI)(e:Nat)(b:Int)(c:AcQ):We a R (e+1) b c=
 (zT (decide (b<(a.length:Int)))
 (wW b a.length=true/\
 ∃d:AcP,xT xS [.sl .int (zJ (.list .int) a b.toNat)] [] (.own 3000) [(3000,.row 3 .int d)]/\
 yX (.list .int) (c.length+([d]).length)=true/\
 We a R e (yU (b+1)) (c++([d])))
 (R (dS c))):=by kernel_rfl
theorem zc9(a:AcQ)(R:xI):FD V4 f118 [dS a] R=
 (∃n0,We a R n0 0 ([]:AcQ)):=by kernel_rfl
theorem AJ(a:AcQ):wU V4 f118 tI [dS a]:=wX func118 (by kernel_rfl) ntmps118 rfl
def Rn:xF:= {own:=[],live:=[],n:=6}
theorem Ik(a:AcQ)(R:xI):FD Rn f120 [dS a] R=
 ((a.length:Int)=(a.length:Int)/\
 0<=(a.length:Int)/\
 yX (.list .int) ((a.length:Int).toNat)=true/\
 R (dS (List.replicate ((a.length:Int).toNat) (Ty.dflt (.list .int))))):=by kernel_rfl
theorem L4(a:AcQ):wU Rn f120 yQ [dS a]:=wX func120 (by kernel_rfl) ntmps120 rfl
def Ro:xF:= {own:=[],live:=[],n:=6}
theorem Il(a:AcP)(R:xI):FD Ro f123 [.sl .int a] R=
 (R (dB (decide ((a.length:Int)=0)))):=by kernel_rfl
theorem L5(a:AcP):wU Ro f123 bP [.sl .int a]:=wX func123 (by kernel_rfl) ntmps123 rfl
end Go.Proofs.YtdnmkinmcdihnaaGreatDoor
namespace Go.Proofs.YtdnmkinmcdihnaaGreatDoor
open Go.Proofs.Tryz
open Go.RowKit
set_option maxRecDepth 100000
variable[Lo]
def kD:xF:= {own:=[],live:=[],n:=9}
theorem ZD(a:AcP)(b:AcM)(c:AcT)(R:xI):FD kD f45 [.sl .int a,.clo b (some [.bool]) c] R=
 (yJ rW [.sl .int a,.clo b (some [.bool]) c] .int λd=>
 R (dB (decide (0<=d)))):=by kernel_rfl
theorem Zj(a:AcP)(b:AcM)(c:AcT):wU kD f45 xX [.sl .int a,.clo b (some [.bool]) c]:=wX func45 (by kernel_rfl) ntmps45 rfl
def cY:xF:= {own:=[2,5,7],live:=[],n:=8}
theorem VD(a:AcP)(R:oG):FH cY f73 [.sl .int a] [] [] true R=
 (∀b:Bool,(b=true->a=[])->
 zT b
 (R (.own 3000) [(3000,.row 3 .int ([]:AcP))])
 (yX .int (([]:AcP).length+a.length)=true/\
 R (.own 3000) [(3000,.row 3 .int (([]:AcP)++a))])):=by kernel_rfl
theorem WV(a:AcP):Xv cY f73 xS [.sl .int a] [] [] true:=XY func73 (by kernel_rfl) ntmps73 rfl
def rZ:xF:= {own:=[],live:=[(0,([0,1,7,8],[]))],n:=19}
def oM(a:AcP)(b:AcM)(c:AcT)(R:xI)(d:Nat)(e:Int):Prop:=LP rZ f80 [1,0,1,0,0] 0 d ⟨[(0,.sl .int a),(1,.clo b (some [.bool]) c),(7,dI (a.length:Int)),(8,dI e)],[]⟩ (zP 0 (sK rZ f80 [1,1] 0 (eK f80 R)))
theorem lK(b:AcP)(c:AcM)(d:AcT)(R:xI)(e:Nat)(a:Int):oM b c d R (e+1) a=
 (zT (decide (a<(b.length:Int)))
 (wW a b.length=true/\
 fV c/\
 yJ c ([dI (zJ .int b a.toNat)]++d) .bool λf=>
 zT f
 (R (dI a))
 (oM b c d R e (yU (a+1))))
 (R (dI (-1)))):=by kernel_rfl
theorem Xw(a:AcP)(b:AcM)(c:AcT)(R:xI):FD rZ f80 [.sl .int a,.clo b (some [.bool]) c] R=
 (∃n0,oM a b c R n0 0):=by kernel_rfl
theorem Yy(a:AcP)(b:AcM)(c:AcT):wU rZ f80 rW [.sl .int a,.clo b (some [.bool]) c]:=wX func80 (by kernel_rfl) ntmps80 rfl
def mL:xF:= {own:=[],live:=[],n:=9}
theorem cZ(a:AcQ)(b:AcM)(c:AcT)(R:xI):FD mL f85 [dS a,.clo b (some [.bool]) c] R=
 (yJ sI [dS a,.clo b (some [.bool]) c] .int λd=>
 R (dB (decide (0<=d)))):=by kernel_rfl
theorem cI(a:AcQ)(b:AcM)(c:AcT):wU mL f85 yM [dS a,.clo b (some [.bool]) c]:=wX func85 (by kernel_rfl) ntmps85 rfl
def oy:xF:= {own:=[],live:=[(0,([0,1,12,13],[]))],n:=26}
def pQ(a b:AcP)(R:xI)(c:Nat)(d:Int):Prop:=LP oy f87 [1,1,0,1,0,0] 0 c ⟨[(0,.sl .int a),(1,.sl .int b),(12,dI (a.length:Int)),(13,dI d)],[]⟩ (zP 0 (sK oy f87 [1,1,1] 0 (eK f87 R)))
theorem iW(b c:AcP)(R:xI)(d:Nat)(a:Int):pQ b c R (d+1) a=
 (zT (decide (a<(b.length:Int)))
 (wW a b.length=true/\
 wW a c.length=true/\
 zT (!decide ((zJ .int b a.toNat)=(zJ .int c a.toNat)))
 (R (dB false))
 (pQ b c R d (yU (a+1))))
 (R (dB true))):=by kernel_rfl
theorem VE(a b:AcP)(R:xI):FD oy f87 [.sl .int a,.sl .int b] R=
 (zT (!decide ((a.length:Int)=(b.length:Int)))
 (R (dB false))
 (∃n0,pQ a b R n0 0)):=by kernel_rfl
theorem WW(a b:AcP):wU oy f87 xW [.sl .int a,.sl .int b]:=wX func87 (by kernel_rfl) ntmps87 rfl
def og:xF:= {own:=[],live:=[],n:=9}
theorem gW(a:AcR)(b:AcM)(c:AcT)(R:xI):FD og f88 [.sl .lit a,.clo b (some [.bool]) c] R=
 (yJ uE [.sl .lit a,.clo b (some [.bool]) c] .int λd=>
 R (dB (decide (0<=d)))):=by kernel_rfl
theorem iX(a:AcR)(b:AcM)(c:AcT):wU og f88 xZ [.sl .lit a,.clo b (some [.bool]) c]:=wX func88 (by kernel_rfl) ntmps88 rfl
def oh:xF:= {own:=[],live:=[],n:=9}
theorem gX(a:AcV)(b:AcM)(c:AcT)(R:xI):FD oh f89 [.sl .con a,.clo b (some [.bool]) c] R=
 (yJ uF [.sl .con a,.clo b (some [.bool]) c] .int λd=>
 R (dB (decide (0<=d)))):=by kernel_rfl
theorem iY(a:AcV)(b:AcM)(c:AcT):wU oh f89 vS [.sl .con a,.clo b (some [.bool]) c]:=wX func89 (by kernel_rfl) ntmps89 rfl
def ol:xF:= {own:=[],live:=[],n:=9}
theorem gY(a:AcU)(b:AcM)(c:AcT)(R:xI):FD ol f92 [.sl .var a,.clo b (some [.bool]) c] R=
 (yJ uG [.sl .var a,.clo b (some [.bool]) c] .int λd=>
 R (dB (decide (0<=d)))):=by kernel_rfl
theorem iZ(a:AcU)(b:AcM)(c:AcT):wU ol f92 vT [.sl .var a,.clo b (some [.bool]) c]:=wX func92 (by kernel_rfl) ntmps92 rfl
def lL:xF:= {own:=[2,5,7],live:=[],n:=8}
theorem Zk(a:AcR)(R:oG):FH lL f112 [.sl .lit a] [] [] true R=
 (∀b:Bool,(b=true->a=[])->
 zT b
 (R (.own 3000) [(3000,.row 66 .lit ([]:AcR))])
 (yX .lit (([]:AcR).length+a.length)=true/\
 R (.own 3000) [(3000,.row 66 .lit (([]:AcR)++a))])):=by kernel_rfl
theorem aA(a:AcR):Xv lL f112 tU [.sl .lit a] [] [] true:=XY func112 (by kernel_rfl) ntmps112 rfl
def wS:xF:= {own:=[33],live:=[(0,([0,3,9,10,11],[])),(2,([6,25,26,27],[31536]))],n:=36}
def uX(a:AcS)(R:xI)(b:Nat)(c:Int)(d:AcR):Prop:=LP wS f113 [1,1,1,1,0,1,0,0] 2 b ⟨[(6,.own 31536),(25,.sl (.list .lit) a),(26,dI (a.length:Int)),(27,dI c)],[(31536,.row 66 .lit d)]⟩ (zP 2 (sK wS f113 [1,1,1,1,1] 0 (eK f113 R)))
def uY(a:AcS)(R:xI)(b:Nat)(c d:Int):Prop:=LP wS f113 [1,1,0,1,0,0] 0 b ⟨[(0,.sl (.list .lit) a),(3,dI c),(9,.sl (.list .lit) a),(10,dI (a.length:Int)),(11,dI d)],[]⟩ (zP 0 (sK wS f113 [1,1,1] 0 (eK f113 R)))
theorem eX(a:AcS)(R:xI)(d:Nat)(b:Int)(c:AcR):uX a R (d+1) b c=
 (zT (decide (b<(a.length:Int)))
 (wW b a.length=true/\
 yX .lit (c.length+(zJ (.list .lit) a b.toNat).length)=true/\
 uX a R d (yU (b+1)) (c++(zJ (.list .lit) a b.toNat)))
 (R (.sl .lit c))):=by kernel_rfl
theorem eY(a:AcS)(R:xI)(d:Nat)(c b:Int):uY a R (d+1) c b=
 (zT (decide (b<(a.length:Int)))
 (wW b a.length=true/\
 zT (decide ((yU (c+((zJ (.list .lit) a b.toNat).length:Int)))<0))
 (False)
 (uY a R d (yU (c+((zJ (.list .lit) a b.toNat).length:Int))) (yU (b+1))))
 (∃e:AcR,xT sJ [.nil,dI c] [] (.own 3000) [(3000,.row 66 .lit e)]/\
 ∃n2,uX a R n2 0 e)):=by kernel_rfl
theorem aB(a:AcS)(R:xI):FD wS f113 [.sl (.list .lit) a] R=
 (∃n0,uY a R n0 0 0):=by kernel_rfl
theorem bA(a:AcS):wU wS f113 tG [.sl (.list .lit) a]:=wX func113 (by kernel_rfl) ntmps113 rfl
def nY:xF:= {own:=[],live:=[],n:=9}
theorem cJ(a:AcQ)(b:AcM)(c:AcT)(R:xI):FD nY f122 [dS a,.clo b (some [.bool]) c] R=
 (yJ tW [dS a,.clo b (some [.bool]) c] .int λd=>
 R (dB (decide (0<=d)))):=by kernel_rfl
theorem eZ(a:AcQ)(b:AcM)(c:AcT):wU nY f122 uT [dS a,.clo b (some [.bool]) c]:=wX func122 (by kernel_rfl) ntmps122 rfl
def sL:xF:= {own:=[],live:=[(0,([0,1,7,8],[]))],n:=19}
def pA(a:AcQ)(b:AcM)(c:AcT)(R:xI)(d:Nat)(e:Int):Prop:=LP sL f143 [1,0,1,0,0] 0 d ⟨[(0,dS a),(1,.clo b (some [.bool]) c),(7,dI (a.length:Int)),(8,dI e)],[]⟩ (zP 0 (sK sL f143 [1,1] 0 (eK f143 R)))
theorem nZ(b:AcQ)(c:AcM)(d:AcT)(R:xI)(e:Nat)(a:Int):pA b c d R (e+1) a=
 (zT (decide (a<(b.length:Int)))
 (wW a b.length=true/\
 fV c/\
 yJ c ([.sl .int (zJ (.list .int) b a.toNat)]++d) .bool λf=>
 zT f
 (R (dI a))
 (pA b c d R e (yU (a+1))))
 (R (dI (-1)))):=by kernel_rfl
theorem ZE(a:AcQ)(b:AcM)(c:AcT)(R:xI):FD sL f143 [dS a,.clo b (some [.bool]) c] R=
 (∃n0,pA a b c R n0 0):=by kernel_rfl
theorem Zl(a:AcQ)(b:AcM)(c:AcT):wU sL f143 sI [dS a,.clo b (some [.bool]) c]:=wX func143 (by kernel_rfl) ntmps143 rfl
def uI:xF:= {own:=[],live:=[(0,([0,1,7,8],[]))],n:=19}
def sX(a:AcR)(b:AcM)(c:AcT)(R:xI)(d:Nat)(e:Int):Prop:=LP uI f144 [1,0,1,0,0] 0 d ⟨[(0,.sl .lit a),(1,.clo b (some [.bool]) c),(7,dI (a.length:Int)),(8,dI e)],[]⟩ (zP 0 (sK uI f144 [1,1] 0 (eK f144 R)))
theorem pT(b:AcR)(c:AcM)(d:AcT)(R:xI)(e:Nat)(a:Int):sX b c d R (e+1) a=
 (zT (decide (a<(b.length:Int)))
 (wW a b.length=true/\
 fV c/\
 yJ c ([dL (zJ .lit b a.toNat)]++d) .bool λf=>
 zT f
 (R (dI a))
 (sX b c d R e (yU (a+1))))
 (R (dI (-1)))):=by kernel_rfl
theorem dA(a:AcR)(b:AcM)(c:AcT)(R:xI):FD uI f144 [.sl .lit a,.clo b (some [.bool]) c] R=
 (∃n0,sX a b c R n0 0):=by kernel_rfl
theorem fW(a:AcR)(b:AcM)(c:AcT):wU uI f144 uE [.sl .lit a,.clo b (some [.bool]) c]:=wX func144 (by kernel_rfl) ntmps144 rfl
def uJ:xF:= {own:=[],live:=[(0,([0,1,7,8],[]))],n:=19}
def sY(a:AcV)(b:AcM)(c:AcT)(R:xI)(d:Nat)(e:Int):Prop:=LP uJ f145 [1,0,1,0,0] 0 d ⟨[(0,.sl .con a),(1,.clo b (some [.bool]) c),(7,dI (a.length:Int)),(8,dI e)],[]⟩ (zP 0 (sK uJ f145 [1,1] 0 (eK f145 R)))
theorem pU(b:AcV)(c:AcM)(d:AcT)(R:xI)(e:Nat)(a:Int):sY b c d R (e+1) a=
 (zT (decide (a<(b.length:Int)))
 (wW a b.length=true/\
 fV c/\
 yJ c ([dC (zJ .con b a.toNat)]++d) .bool λf=>
 zT f
 (R (dI a))
 (sY b c d R e (yU (a+1))))
 (R (dI (-1)))):=by kernel_rfl
theorem dD(a:AcV)(b:AcM)(c:AcT)(R:xI):FD uJ f145 [.sl .con a,.clo b (some [.bool]) c] R=
 (∃n0,sY a b c R n0 0):=by kernel_rfl
theorem fX(a:AcV)(b:AcM)(c:AcT):wU uJ f145 uF [.sl .con a,.clo b (some [.bool]) c]:=wX func145 (by kernel_rfl) ntmps145 rfl
def uK:xF:= {own:=[],live:=[(0,([0,1,7,8],[]))],n:=19}
def sZ(a:AcU)(b:AcM)(c:AcT)(R:xI)(d:Nat)(e:Int):Prop:=LP uK f149 [1,0,1,0,0] 0 d ⟨[(0,.sl .var a),(1,.clo b (some [.bool]) c),(7,dI (a.length:Int)),(8,dI e)],[]⟩ (zP 0 (sK uK f149 [1,1] 0 (eK f149 R)))
theorem pV(b:AcU)(c:AcM)(d:AcT)(R:xI)(e:Nat)(a:Int):sZ b c d R (e+1) a=
 (zT (decide (a<(b.length:Int)))
 (wW a b.length=true/\
 fV c/\
 yJ c ([dV (zJ .var b a.toNat)]++d) .bool λf=>
 zT f
 (R (dI a))
 (sZ b c d R e (yU (a+1))))
 (R (dI (-1)))):=by kernel_rfl
theorem dE(a:AcU)(b:AcM)(c:AcT)(R:xI):FD uK f149 [.sl .var a,.clo b (some [.bool]) c] R=
 (∃n0,sZ a b c R n0 0):=by kernel_rfl
theorem fY(a:AcU)(b:AcM)(c:AcT):wU uK f149 uG [.sl .var a,.clo b (some [.bool]) c]:=wX func149 (by kernel_rfl) ntmps149 rfl
def pW:xF:= {own:=[],live:=[],n:=9}
theorem hC(a:AcR)(b:AcM)(c:AcT)(R:xI):FD pW f157 [.sl .lit a,.clo b (some [.bool]) c] R=
 (yJ uB [.sl .lit a,.clo b (some [.bool]) c] .int λd=>
 R (dB (decide (0<=d)))):=by kernel_rfl
theorem jZ(a:AcR)(b:AcM)(c:AcT):wU pW f157 wN [.sl .lit a,.clo b (some [.bool]) c]:=wX func157 (by kernel_rfl) ntmps157 rfl
def fo:xF:= {own:=[],live:=[],n:=9}
theorem XQ(a:AcP)(b:Int)(R:xI):FD fo f164 [.sl .int a,dI b] R=
 (yJ ox [.sl .int a,dI b] .int λc=>
 R (dB (decide (0<=c)))):=by kernel_rfl
theorem Xx(a:AcP)(b:Int):wU fo f164 wD [.sl .int a,dI b]:=wX func164 (by kernel_rfl) ntmps164 rfl
def wP:xF:= {own:=[],live:=[(0,([1,2,15,16,17],[]))],n:=32}
def xV(a b:AcQ)(c:AcM)(d:AcT)(R:xI)(e:Nat)(f:Int):Prop:=LP wP f168 [1,1,0,1,0,0] 0 e ⟨[(1,dS b),(2,.clo c (some [.bool]) d),(15,dS a),(16,dI (a.length:Int)),(17,dI f)],[]⟩ (zP 0 (sK wP f168 [1,1,1] 0 (eK f168 R)))
theorem wH(b c:AcQ)(d:AcM)(e:AcT)(R:xI)(f:Nat)(a:Int):xV b c d e R (f+1) a=
 (zT (decide (a<(b.length:Int)))
 (wW a b.length=true/\
 wW a c.length=true/\
 fV d/\
 yJ d ([.sl .int (zJ (.list .int) b a.toNat),.sl .int (zJ (.list .int) c a.toNat)]++e) .bool λg=>
 zT (!g)
 (R (dB false))
 (xV b c d e R f (yU (a+1))))
 (R (dB true))):=by kernel_rfl
theorem rH(a b:AcQ)(c:AcM)(d:AcT)(R:xI):FD wP f168 [dS a,dS b,.clo c (some [.bool]) d] R=
 (zT (!decide ((a.length:Int)=(b.length:Int)))
 (R (dB false))
 (∃n0,xV a b c d R n0 0)):=by kernel_rfl
theorem slices_EqualFunc_api_Store_api_Store_int_int_sat(a b:AcQ)(c:AcM)(d:AcT):wU wP f168 yF [dS a,dS b,.clo c (some [.bool]) d]:=wX func168 (by kernel_rfl) ntmps168 rfl
def sB:xF:= {own:=[],live:=[(0,([0,1,7,8],[]))],n:=19}
def qN(a:AcQ)(b:AcM)(c:AcT)(R:xI)(d:Nat)(e:Int):Prop:=LP sB f174 [1,0,1,0,0] 0 d ⟨[(0,dS a),(1,.clo b (some [.bool]) c),(7,dI (a.length:Int)),(8,dI e)],[]⟩ (zP 0 (sK sB f174 [1,1] 0 (eK f174 R)))
theorem nC(b:AcQ)(c:AcM)(d:AcT)(R:xI)(e:Nat)(a:Int):qN b c d R (e+1) a=
 (zT (decide (a<(b.length:Int)))
 (wW a b.length=true/\
 fV c/\
 yJ c ([.sl .int (zJ (.list .int) b a.toNat)]++d) .bool λf=>
 zT f
 (R (dI a))
 (qN b c d R e (yU (a+1))))
 (R (dI (-1)))):=by kernel_rfl
theorem Zm(a:AcQ)(b:AcM)(c:AcT)(R:xI):FD sB f174 [dS a,.clo b (some [.bool]) c] R=
 (∃n0,qN a b c R n0 0):=by kernel_rfl
theorem aC(a:AcQ)(b:AcM)(c:AcT):wU sB f174 tW [dS a,.clo b (some [.bool]) c]:=wX func174 (by kernel_rfl) ntmps174 rfl
def uC:xF:= {own:=[],live:=[(0,([0,1,7,8],[]))],n:=19}
def sO(a:AcR)(b:AcM)(c:AcT)(R:xI)(d:Nat)(e:Int):Prop:=LP uC f204 [1,0,1,0,0] 0 d ⟨[(0,.sl .lit a),(1,.clo b (some [.bool]) c),(7,dI (a.length:Int)),(8,dI e)],[]⟩ (zP 0 (sK uC f204 [1,1] 0 (eK f204 R)))
theorem pN(b:AcR)(c:AcM)(d:AcT)(R:xI)(e:Nat)(a:Int):sO b c d R (e+1) a=
 (zT (decide (a<(b.length:Int)))
 (wW a b.length=true/\
 fV c/\
 yJ c ([dL (zJ .lit b a.toNat)]++d) .bool λf=>
 zT f
 (R (dI a))
 (sO b c d R e (yU (a+1))))
 (R (dI (-1)))):=by kernel_rfl
theorem fZ(a:AcR)(b:AcM)(c:AcT)(R:xI):FD uC f204 [.sl .lit a,.clo b (some [.bool]) c] R=
 (∃n0,sO a b c R n0 0):=by kernel_rfl
theorem fF(a:AcR)(b:AcM)(c:AcT):wU uC f204 uB [.sl .lit a,.clo b (some [.bool]) c]:=wX func204 (by kernel_rfl) ntmps204 rfl
def wY:xF:= {own:=[],live:=[(0,([0,1,7,8],[]))],n:=19}
def uD(a:Ac0)(b:AcM)(c:AcT)(R:xI)(d:Nat)(e:Int):Prop:=LP wY f210 [1,0,1,0,0] 0 d ⟨[(0,.sl .term a),(1,.clo b (some [.bool]) c),(7,dI (a.length:Int)),(8,dI e)],[]⟩ (zP 0 (sK wY f210 [1,1] 0 (eK f210 R)))
theorem rC(b:Ac0)(c:AcM)(d:AcT)(R:xI)(e:Nat)(a:Int):uD b c d R (e+1) a=
 (zT (decide (a<(b.length:Int)))
 (wW a b.length=true/\
 fV c/\
 yJ c ([.agg [dI ((zJ .term b a.toNat).v),dI ((zJ .term b a.toNat).times)]]++d) .bool λf=>
 zT f
 (R (dI a))
 (uD b c d R e (yU (a+1))))
 (R (dI (-1)))):=by kernel_rfl
theorem kF(a:Ac0)(b:AcM)(c:AcT)(R:xI):FD wY f210 [.sl .term a,.clo b (some [.bool]) c] R=
 (∃n0,uD a b c R n0 0):=by kernel_rfl
theorem lX(a:Ac0)(b:AcM)(c:AcT):wU wY f210 wB [.sl .term a,.clo b (some [.bool]) c]:=wX func210 (by kernel_rfl) ntmps210 rfl
def hJ:xF:= {own:=[2,5,7],live:=[],n:=8}
theorem Xy(a:AcQ)(R:oG):FH hJ f214 [dS a] [] [] true R=
 (∀b:Bool,(b=true->a=[])->
 zT b
 (R (.own 3000) [(3000,.row 28 (.list .int) ([]:AcQ))])
 (yX (.list .int) (([]:AcQ).length+a.length)=true/\
 R (.own 3000) [(3000,.row 28 (.list .int) (([]:AcQ)++a))])):=by kernel_rfl
theorem Yz(a:AcQ):Xv hJ f214 rY [dS a] [] [] true:=XY func214 (by kernel_rfl) ntmps214 rfl
def oz:xF:= {own:=[],live:=[(0,([0,1,7,8],[]))],n:=19}
def lC(a:AcP)(b:Int)(R:xI)(c:Nat)(d:Int):Prop:=LP oz Tryz.f216 [1,0,1,0,0] 0 c ⟨[(0,.sl .int a),(1,dI b),(7,dI (a.length:Int)),(8,dI d)],[]⟩ (zP 0 (sK oz Tryz.f216 [1,1] 0 (eK Tryz.f216 R)))
theorem hM(b:AcP)(c:Int)(R:xI)(d:Nat)(a:Int):lC b c R (d+1) a=
 (zT (decide (a<(b.length:Int)))
 (wW a b.length=true/\
 zT (decide (c=(zJ .int b a.toNat)))
 (R (dI a))
 (lC b c R d (yU (a+1))))
 (R (dI (-1)))):=by kernel_rfl
theorem VF(a:AcP)(b:Int)(R:xI):FD oz Tryz.f216 [.sl .int a,dI b] R=
 (∃n0,lC a b R n0 0):=by kernel_rfl
theorem WX(a:AcP)(b:Int):wU oz Tryz.f216 ox [.sl .int a,dI b]:=wX func216 (by kernel_rfl) ntmps216 rfl
end Go.Proofs.YtdnmkinmcdihnaaGreatDoor
namespace Go.Proofs.YtdnmkinmcdihnaaGreatDoor
open Go.Proofs.Tryz
open Go.RowKit
set_option maxRecDepth 100000
variable[Lo]
def N2:xF:= {own:=[],live:=[],n:=22}
theorem DZ(a:zE)(b:Int)(R:xI):FD N2 Tryz.f13 [dM a,dI b] R=
 (yJ lV [dM a,dI b,dI (a.vars.length:Int)] .int λc=>
 zT (!decide (c=0))
 (R (.tup [.sl .int ([]:AcP),dI c]))
 (wW b a.cons.length=true/\
 yJ tT [dC (zJ .con a.cons b.toNat)] (.list .int) λd=>
 R (.tup [.sl .int d,dI 0]))):=by kernel_rfl
theorem G0(a:zE)(b:Int):wU N2 Tryz.f13 ot [dM a,dI b]:=wX func13 (by kernel_rfl) ntmps13 rfl
def N3:xF:= {own:=[],live:=[],n:=26}
theorem D0(a:zE)(b:Int)(c:AcP)(R:xI):FD N3 Tryz.f20 [dM a,dI b,.sl .int c] R=
 (yJ lV [dM a,dI b,dI (c.length:Int)] .int λd=>
 zT (!decide (d=0))
 (R (.tup [dB false,dI d]))
 (yJ xX [.sl .int c,.clo bN none []] .bool λe=>
 zT e
 (R (.tup [dB false,dI 3]))
 (wW b a.cons.length=true/\
 yJ nK [dC (zJ .con a.cons b.toNat),.sl .int c] .bool λf=>
 R (.tup [dB f,dI 0])))):=by kernel_rfl
theorem G1(a:zE)(b:Int)(c:AcP):wU N3 Tryz.f20 cS [dM a,dI b,.sl .int c]:=wX func20 (by kernel_rfl) ntmps20 rfl
def Gn:xF:= {own:=[],live:=[],n:=21}
theorem zda(a:zE)(b:AcP)(R:xI):FD Gn f22 [dM a,.sl .int b] R=
 (yJ vG [dM a] .int λc=>
 zT (!decide (c=0))
 (R (.tup [dB false,dI c]))
 (zT (!decide ((b.length:Int)=(a.vars.length:Int)))
 (R (.tup [dB false,dI 1]))
 (yJ YR [dM a,.sl .int b] .bool λd=>
 R (.tup [dB d,dI 0])))):=by kernel_rfl
theorem AK(a:zE)(b:AcP):wU Gn f22 Xs [dM a,.sl .int b]:=wX func22 (by kernel_rfl) ntmps22 rfl
def YZ:xF:= {own:=[5],live:=[(1,([1,30,31,32],[]))],n:=75}
def ZF(a:zE)(R:xI)(b:Nat)(c:Int):Prop:=LP YZ Tryz.f23 [1,1,1,0,1,0,0] 1 b ⟨[(1,.iptr (Oy a []) 0),(30,.sl .con a.cons),(31,dI (a.cons.length:Int)),(32,dI c)],[]⟩ (zP 1 (sK YZ Tryz.f23 [1,1,1,1] 0 (eK Tryz.f23 R)))
theorem V5(a:zE)(R:xI)(c:Nat)(b:Int):ZF a R (c+1) b=
 (zT (decide (b<(a.cons.length:Int)))
 (wW b a.cons.length=true/\
 yJ V2 [dM a,dC (zJ .con a.cons b.toNat)] .int λd=>
 zT (!decide (d=0))
 (R (dI d))
 (ZF a R c (yU (b+1))))
 (zT (decide (a.goal<0))
 (R (dI 7))
 (zT (decide (2<a.goal))
 (R (dI 7))
 (zT (decide (a.goal=0))
 (zT (!decide (a.var=0))
 (R (dI 1))
 (zT (!decide (a.goal=0))
 (yJ uR [dI a.var,dI 0,dI (yU ((a.vars.length:Int)-1))] .bool λe=>
 zT (!e)
 (R (dI 5))
 (R (dI 0)))
 (R (dI 0))))
 (zT (!decide (a.goal=0))
 (yJ uR [dI a.var,dI 0,dI (yU ((a.vars.length:Int)-1))] .bool λf=>
 zT (!f)
 (R (dI 5))
 (R (dI 0)))
 (R (dI 0))))))):=by kernel_rfl
theorem D1(a:zE)(R:xI):FD YZ Tryz.f23 [dM a] R=
 (zT (decide ((a.vars.length:Int)=0))
 (R (dI 1))
 (zT (decide (6<(a.vars.length:Int)))
 (R (dI 2))
 (zT (decide (8<(a.cons.length:Int)))
 (R (dI 2))
 (yJ Wb [.sl .var a.vars] .int λb=>
 zT (!decide (b=0))
 (R (dI b))
 (∃n1,ZF a R n1 0))))):=by kernel_rfl
theorem G2(a:zE):wU YZ Tryz.f23 vG [dM a]:=wX func23 (by kernel_rfl) ntmps23 rfl
def N4:xF:= {own:=[],live:=[],n:=27}
theorem D2(a:zE)(b c:Int)(R:xI):FD N4 f37 [dM a,dI b,dI c] R=
 (yJ vG [dM a] .int λd=>
 zT (!decide (d=0))
 (R (dI d))
 (zT (decide (b<0))
 (R (dI 5))
 (zT (decide ((a.cons.length:Int)<=b))
 (R (dI 5))
 (zT (!decide (c=(a.vars.length:Int)))
 (R (dI 1))
 (R (dI 0)))))):=by kernel_rfl
theorem G3(a:zE)(b c:Int):wU N4 f37 lV [dM a,dI b,dI c]:=wX func37 (by kernel_rfl) ntmps37 rfl
def Wf:xF:= {own:=[5,20],live:=[(0,([3,10,11,12],[30512]))],n:=26}
def Y0(a:zF)(R:xI)(b:Nat)(c:Int)(d:AcP):Prop:=LP Wf f38 [1,1,0,1,0,0] 0 b ⟨[(3,.own 30512),(10,.sl .lit a.lits),(11,dI (a.lits.length:Int)),(12,dI c)],[(30512,.row 3 .int d)]⟩ (zP 0 (sK Wf f38 [1,1,1] 0 (eK f38 R)))
theorem Im(a:zF)(R:xI)(d:Nat)(b:Int)(c:AcP):Y0 a R (d+1) b c=
 (zT (decide (b<(a.lits.length:Int)))
 (wW b a.lits.length=true/\
 yX .int (c.length+([(zJ .lit a.lits b.toNat).var]).length)=true/\
 Y0 a R d (yU (b+1)) (c++([(zJ .lit a.lits b.toNat).var])))
 (∃e:AcP,xT vN [.own 1000] [(1000,.row 3 .int c)] (.tup []) [(1000,.row 3 .int e)]/\
 ∃f:AcP,xT wT [.own 1000] [(1000,.row 3 .int e)] (.sl .int f) []/\
 R (.sl .int f))):=by kernel_rfl
theorem AL(a:zF)(R:xI):FD Wf f38 [dC a] R=
 (∃b:AcP,xT xS [.sl .int a.vars] [] (.own 3000) [(3000,.row 3 .int b)]/\
 ∃n0,Y0 a R n0 0 b):=by kernel_rfl
theorem D3(a:zF):wU Wf f38 tT [dC a]:=wX func38 (by kernel_rfl) ntmps38 rfl
def Rq:xF:= {own:=[],live:=[],n:=6}
theorem Io(a:Int)(R:xI):FD Rq f46 [dI a] R=
 (yJ uR [dI a,dI (-50),dI 50] .bool λb=>
 R (dB (!b))):=by kernel_rfl
theorem L6(a:Int):wU Rq f46 bN [dI a]:=wX func46 (by kernel_rfl) ntmps46 rfl
def QM:xF:= {own:=[],live:=[],n:=15}
theorem G4(a b c:Int)(R:xI):FD QM f47 [dI a,dI b,dI c] R=
 (zT (decide (b<=a))
 (R (dB (decide (a<=c))))
 (R (dB false))):=by kernel_rfl
theorem Ip(a b c:Int):wU QM f47 uR [dI a,dI b,dI c]:=wX func47 (by kernel_rfl) ntmps47 rfl
def wZ:xF:= {own:=[12,45,97],live:=[(1,([2,5,7,25,26,27],[])),(3,([2,5,10,48,49],[45])),(5,([2,5,12,88,89],[12,1012000])),(7,([5,14,120,121],[]))],n:=166,nils:=[(12,(0,(3,.int)))],pubs:=[]}
def Y1(a:zF)(b:AcP)(R:xI)(c:Nat)(d e:Int):Prop:=LP wZ f48 [1,1,1,0,1,0,1,0,1,0,1,0,0] 1 c ⟨[(2,.iptr (gL a []) 0),(5,.clo yS none [.iptr [.sl .int b] 0,.iptr (gL a []) 0]),(7,dI d),(25,.sl .int a.consts),(26,dI (a.consts.length:Int)),(27,dI e)],[]⟩ (zP 1 (sK wZ f48 [1,1,1,0,1,0,1,0,1,1] 0 (zP 0 (sK wZ f48 [1,1,1,1] 0 (eK f48 R)))))
def bQ(a:zF)(b:AcP)(R:xI)(c:Nat)(d e:Int):Prop:=LP wZ f48 [1,1,1,0,1,0,1,0,1,0,1,0,0] 1 c ⟨[(2,.iptr (gL a []) 0),(5,.clo yS none [.iptr [.sl .int b] 0,.iptr (gL a []) 0]),(7,dI d),(25,.sl .int a.consts),(26,dI (a.consts.length:Int)),(27,dI e)],[]⟩ (zP 1 (sK wZ f48 [1,1,1,0,1,0,1,0,1,1] 0 (zP 0 (sK wZ f48 [1,1,1,1] 0 (eK f48 R)))))
def bR(a:zF)(b:AcP)(R:xI)(c:Nat)(d e:Int):Prop:=LP wZ f48 [1,1,1,0,1,0,1,0,1,0,1,0,0] 1 c ⟨[(2,.iptr (gL a []) 0),(5,.clo yS none [.iptr [.sl .int b] 0,.iptr (gL a []) 0]),(7,dI d),(25,.sl .int a.consts),(26,dI (a.consts.length:Int)),(27,dI e)],[]⟩ (zP 1 (sK wZ f48 [1,1,1,0,1,0,1,0,1,1] 0 (zP 0 (sK wZ f48 [1,1,1,1] 0 (eK f48 R)))))
def Y2(a:zF)(b:AcP)(R:xI)(c:Nat)(d:Int)(e:List (Int×Int)):Prop:=LP wZ f48 [1,1,1,0,1,0,1,1,1,0,1,0,1,0,0] 3 c ⟨[(2,.iptr (gL a []) 0),(5,.clo yS none [.iptr [.sl .int b] 0,.iptr (gL a []) 0]),(10,.own 45),(48,dI (a.vars.length:Int)),(49,dI d)],[(45,.mp .int .int e)]⟩ (zP 3 (sK wZ f48 [1,1,1,0,1,0,1,1,1,0,1,1] 0 (zP 0 (sK wZ f48 [1,1,1,1] 0 (eK f48 R)))))
def Y3(a:zF)(b:AcP)(R:xI)(c:Nat)(d:Int)(e:AcP):Prop:=LP wZ f48 [1,1,1,0,1,0,1,1,1,1,1,1,1,0,1,0,1,0,0] 5 c ⟨[(2,.iptr (gL a []) 0),(5,.clo yS none [.iptr [.sl .int b] 0,.iptr (gL a []) 0]),(12,.ptr 12 0),(88,dI (a.vars.length:Int)),(89,dI d)],[(12,.cells [.own 1012000]),(1012000,.row 3 .int e)]⟩ (zP 5 (sK wZ f48 [1,1,1,0,1,0,1,1,1,1,1,1,1,0,1,1] 0 (zP 0 (sK wZ f48 [1,1,1,1] 0 (eK f48 R)))))
def Y4(a:zF)(b:AcP)(R:xI)(c:Nat)(d e:Int):Prop:=LP wZ f48 [1,1,1,0,1,0,1,1,1,1,1,1,1,1,1,1,1,0,1,0,1,0,0] 7 c ⟨[(5,.clo yS none [.iptr [.sl .int b] 0,.iptr (gL a []) 0]),(14,dI d),(120,dI (((a.vars.take (a.vars.length:Int).toNat).drop 1).length:Int)),(121,dI e)],[]⟩ (zP 7 (sK wZ f48 [1,1,1,0,1,0,1,1,1,1,1,1,1,1,1,1,1,0,1,1] 0 (zP 0 (sK wZ f48 [1,1,1,1] 0 (eK f48 R)))))
theorem Iq(a:zF)(c:AcP)(R:xI)(e:Nat)(d b:Int):Y1 a c R (e+1) d b=
 (zT (decide (b<(a.consts.length:Int)))
 (wW b a.consts.length=true/\
 yJ yS [dI b,.iptr [.sl .int c] 0,.iptr (gL a []) 0] .int λf=>
 Y1 a c R e (yU (d+(yU ((zJ .int a.consts b.toNat)*f)))) (yU (b+1)))
 (yJ jH [dC a,dI d] .bool λg=>
 R (dB g))):=by kernel_rfl
theorem MQ(a:zF)(c:AcP)(R:xI)(e:Nat)(d b:Int):bQ a c R (e+1) d b=
 (zT (decide (b<(a.consts.length:Int)))
 (wW b a.consts.length=true/\
 yJ yS [dI b,.iptr [.sl .int c] 0,.iptr (gL a []) 0] .int λf=>
 bQ a c R e (yU (d+(yU ((zJ .int a.consts b.toNat)*f)))) (yU (b+1)))
 (yJ jH [dC a,dI d] .bool λg=>
 R (dB g))):=by kernel_rfl
theorem MR(a:zF)(c:AcP)(R:xI)(e:Nat)(d b:Int):bR a c R (e+1) d b=
 (zT (decide (b<(a.consts.length:Int)))
 (wW b a.consts.length=true/\
 yJ yS [dI b,.iptr [.sl .int c] 0,.iptr (gL a []) 0] .int λf=>
 bR a c R e (yU (d+(yU ((zJ .int a.consts b.toNat)*f)))) (yU (b+1)))
 (yJ jH [dC a,dI d] .bool λg=>
 R (dB g))):=by kernel_rfl
theorem Ir(a:zF)(d:AcP)(R:xI)(e:Nat)(b:Int)(c:List (Int×Int)):Y2 a d R (e+1) b c=
 (zT (decide (b<(a.vars.length:Int)))
 (yJ yS [dI b,.iptr [.sl .int d] 0,.iptr (gL a []) 0] .int λf=>
 LK (c.length+1)=true/\
 Y2 a d R e (yU (b+1)) (rB .int .int f b c))
 (R (dB (decide ((c.length:Int)=(a.vars.length:Int)))))):=by kernel_rfl
theorem Iu(a:zF)(d:AcP)(R:xI)(e:Nat)(b:Int)(c:AcP):Y3 a d R (e+1) b c=
 (zT (decide (b<(a.vars.length:Int)))
 (yJ yS [dI b,.iptr [.sl .int d] 0,.iptr (gL a []) 0] .int λf=>
 yX .int (c.length+([f]).length)=true/\
 Y3 a d R e (yU (b+1)) (c++([f])))
 (yJ yM [dS a.rows,.clo Zz none [.iptr [.sl .int c] 0]] .bool λg=>
 R (dB g))):=by kernel_rfl
theorem Iv(a:zF)(b:AcP)(R:xI)(e:Nat)(c d:Int):Y4 a b R (e+1) c d=
 (zT (decide (d<(((a.vars.take (a.vars.length:Int).toNat).drop 1).length:Int)))
 (yJ yS [dI (yU (1+d)),.iptr [.sl .int b] 0,.iptr (gL a []) 0] .int λf=>
 Y4 a b R e (if f>c then f else c) (yU (d+1)))
 (yJ yS [dI 0,.iptr [.sl .int b] 0,.iptr (gL a []) 0] .int λg=>
 R (dB (decide (g=c))))):=by kernel_rfl
theorem AM(a:zF)(b:AcP)(R:xI):FD wZ f48 [dC a,.sl .int b] R=
 (zT (decide (a.kind=1))
 (∃n1,Y1 a b R n1 0 0)
 (zT (decide (a.kind=2))
 (∃n1_2,bQ a b R n1_2 0 0)
 (zT (decide (a.kind=3))
 (∃n1_3,bR a b R n1_3 0 0)
 (zT (decide (a.kind=4))
 (∃n3,Y2 a b R n3 0 ([]:List (Int×Int)))
 (zT (decide (a.kind=5))
 (yJ yS [dI 0,.iptr [.sl .int b] 0,.iptr (gL a []) 0] .int λd=>
 yJ uR [dI d,dI 0,dI (yU ((a.consts.length:Int)-1))] .bool λe=>
 zT e
 (yJ yS [dI 0,.iptr [.sl .int b] 0,.iptr (gL a []) 0] .int λc=>
 wW c a.consts.length=true/\
 yJ yS [dI 1,.iptr [.sl .int b] 0,.iptr (gL a []) 0] .int λf=>
 R (dB (decide ((zJ .int a.consts c.toNat)=f))))
 (R (dB false)))
 (zT (decide (a.kind=6))
 (∃n5,Y3 a b R n5 0 ([]:AcP))
 (zT (decide (a.kind=7))
 (yJ yS [dI 0,.iptr [.sl .int b] 0,.iptr (gL a []) 0] .int λg=>
 yJ yS [dI 1,.iptr [.sl .int b] 0,.iptr (gL a []) 0] .int λh=>
 yJ yS [dI 2,.iptr [.sl .int b] 0,.iptr (gL a []) 0] .int λi=>
 R (dB (decide ((yU (g*h))=i))))
 (zT (decide (a.kind=8))
 (yJ yS [dI 1,.iptr [.sl .int b] 0,.iptr (gL a []) 0] .int λj=>
 Nh 1 (a.vars.length:Int) a.vars.length=true/\
 ∃n7,Y4 a b R n7 j 0)
 (zT (decide (a.kind=9))
 (yJ xZ [.sl .lit a.lits,.clo qY none [.iptr [.sl .int b] 0]] .bool λk=>
 R (dB k))
 (wW 0 a.lits.length=true/\
 yJ qY [dL (zJ .lit a.lits 0),.iptr [.sl .int b] 0] .bool λl=>
 zT l
 (yJ yS [dI 0,.iptr [.sl .int b] 0,.iptr (gL a []) 0] .int λm=>
 zT (decide (m=1))
 (R (dB true))
 (wW 0 a.lits.length=true/\
 yJ qY [dL (zJ .lit a.lits 0),.iptr [.sl .int b] 0] .bool λn=>
 zT (!n)
 (yJ yS [dI 0,.iptr [.sl .int b] 0,.iptr (gL a []) 0] .int λo=>
 R (dB (decide (o=0))))
 (R (dB false))))
 (wW 0 a.lits.length=true/\
 yJ qY [dL (zJ .lit a.lits 0),.iptr [.sl .int b] 0] .bool λp=>
 zT (!p)
 (yJ yS [dI 0,.iptr [.sl .int b] 0,.iptr (gL a []) 0] .int λq=>
 R (dB (decide (q=0))))
 (R (dB false))))))))))))):=by kernel_rfl
theorem D4(a:zF)(b:AcP):wU wZ f48 nK [dC a,.sl .int b]:=wX func48 (by kernel_rfl) ntmps48 rfl
def Y5:xF:= {own:=[6],live:=[(0,([2,3,8,9,10],[]))],n:=31}
def ZG(a:zE)(b:AcP)(R:xI)(c:Nat)(d:Int):Prop:=LP Y5 f49 [1,0,1,0,0] 0 c ⟨[(2,.iptr (Oy a []) 0),(3,.iptr [.sl .int b] 0),(8,.sl .var a.vars),(9,dI (a.vars.length:Int)),(10,dI d)],[]⟩ (zP 0 (sK Y5 f49 [1,1] 0 (eK f49 R)))
theorem V6(b:zE)(c:AcP)(R:xI)(d:Nat)(a:Int):ZG b c R (d+1) a=
 (zT (decide (a<(b.vars.length:Int)))
 (wW a b.vars.length=true/\
 wW a c.length=true/\
 yJ uR [dI (zJ .int c a.toNat),dI ((zJ .var b.vars a.toNat).lo),dI ((zJ .var b.vars a.toNat).hi)] .bool λe=>
 zT (!e)
 (R (dB false))
 (ZG b c R d (yU (a+1))))
 (yJ vS [.sl .con b.cons,.clo bO none [.iptr [.sl .int c] 0]] .bool λf=>
 R (dB (!f)))):=by kernel_rfl
theorem D5(a:zE)(b:AcP)(R:xI):FD Y5 f49 [dM a,.sl .int b] R=
 (∃n0,ZG a b R n0 0):=by kernel_rfl
theorem G5(a:zE)(b:AcP):wU Y5 f49 YR [dM a,.sl .int b]:=wX func49 (by kernel_rfl) ntmps49 rfl
def Wg:xF:= {own:=[4],live:=[(0,([0,5,6,7],[]))],n:=49}
def Y6(a:AcU)(R:xI)(b:Nat)(c:Int):Prop:=LP Wg f50 [1,0,1,0,0] 0 b ⟨[(0,.sl .var a),(5,.sl .var a),(6,dI (a.length:Int)),(7,dI c)],[]⟩ (zP 0 (sK Wg f50 [1,1] 0 (eK f50 R)))
theorem U7(a:AcU)(R:xI)(c:Nat)(b:Int):Y6 a R (c+1) b=
 (zT (decide (b<(a.length:Int)))
 (wW b a.length=true/\
 yJ ZA [.str ((zJ .var a b.toNat).name)] .bool λd=>
 zT (!d)
 (R (dI 1))
 (Nh 0 b a.length=true/\
 yJ vT [.sl .var ((a.take b.toNat).drop 0),.clo ZB none [.iptr [.str ((zJ .var a b.toNat).name),dI ((zJ .var a b.toNat).lo),dI ((zJ .var a b.toNat).hi)] 0]] .bool λe=>
 zT e
 (R (dI 6))
 (yJ uR [dI ((zJ .var a b.toNat).lo),dI (-50),dI 50] .bool λf=>
 zT (!f)
 (R (dI 3))
 (yJ uR [dI ((zJ .var a b.toNat).hi),dI (-50),dI 50] .bool λg=>
 zT (!g)
 (R (dI 3))
 (zT (decide (((zJ .var a b.toNat).hi)<((zJ .var a b.toNat).lo)))
 (R (dI 3))
 (zT (decide (6<=(yU (((zJ .var a b.toNat).hi)-((zJ .var a b.toNat).lo)))))
 (R (dI 2))
 (Y6 a R c (yU (b+1)))))))))
 (R (dI 0))):=by kernel_rfl
theorem AN(a:AcU)(R:xI):FD Wg f50 [.sl .var a] R=
 (∃n0,Y6 a R n0 0):=by kernel_rfl
theorem D6(a:AcU):wU Wg f50 Wb [.sl .var a]:=wX func50 (by kernel_rfl) ntmps50 rfl
def V7:xF:= {own:=[5,6,8],live:=[(1,([6,75,76,77],[]))],n:=94}
def Wh(a:zF)(R:xI)(b:Nat)(c:Int):Prop:=LP V7 f51 [1,1,1,1,0,1,0,0] 1 b ⟨[(6,.iptr [.clo ov none []] 0),(75,.sl .lit a.lits),(76,dI (a.lits.length:Int)),(77,dI c)],[]⟩ (zP 1 (sK V7 f51 [1,1,1,1,1] 0 (eK f51 R)))
theorem Rr(a:zF)(R:xI)(c:Nat)(b:Int):Wh a R (c+1) b=
 (zT (decide (b<(a.lits.length:Int)))
 (wW b a.lits.length=true/\
 zT (decide (((zJ .lit a.lits b.toNat).op)<1))
 (R (dI 7))
 (zT (decide (4<((zJ .lit a.lits b.toNat).op)))
 (R (dI 7))
 (yJ ov [dI ((zJ .lit a.lits b.toNat).n)] .bool λd=>
 zT d
 (R (dI 3))
 (Wh a R c (yU (b+1))))))
 (R (dI 0))):=by kernel_rfl
theorem zdb(b:zE)(a:zF)(R:xI):FD V7 f51 [dM b,dC a] R=
 (zT (decide (a.kind<1))
 (R (dI 7))
 (zT (decide (10<a.kind))
 (R (dI 7))
 (zT (decide (4<(a.vars.length:Int)))
 (R (dI 2))
 (zT (decide (4<(a.lits.length:Int)))
 (R (dI 2))
 (zT (decide (8<(a.consts.length:Int)))
 (R (dI 2))
 (zT (decide (20<(a.rows.length:Int)))
 (R (dI 2))
 (yJ Wc [dC a] .bool λc=>
 zT (!c)
 (R (dI 1))
 (yJ xX [.sl .int a.vars,.clo cV none [.iptr (Oy b []) 0]] .bool λd=>
 zT d
 (R (dI 5))
 (yJ xZ [.sl .lit a.lits,.clo YT none [.iptr [.clo cV none [.iptr (Oy b []) 0]] 0]] .bool λe=>
 zT e
 (R (dI 5))
 (yJ xX [.sl .int a.consts,.clo ov none []] .bool λf=>
 zT f
 (R (dI 3))
 (yJ ov [dI a.n] .bool λg=>
 zT g
 (R (dI 3))
 (yJ yM [dS a.rows,.clo YU none [.iptr [.clo ov none []] 0]] .bool λh=>
 zT h
 (R (dI 3))
 (∃n1,Wh a R n1 0))))))))))))):=by kernel_rfl
theorem AO(a:zE)(b:zF):wU V7 f51 V2 [dM a,dC b]:=wX func51 (by kernel_rfl) ntmps51 rfl
def QO:xF:= {own:=[],live:=[],n:=13}
theorem G6(b:Int)(c:AcP)(a:zF)(R:xI):FD QO f81 [dI b,.iptr [.sl .int c] 0,.iptr (gL a []) 0] R=
 (wW b a.vars.length=true/\
 wW (zJ .int a.vars b.toNat) c.length=true/\
 R (dI (zJ .int c ((zJ .int a.vars b.toNat).toNat)))):=by kernel_rfl
theorem Iw(b:Int)(c:AcP)(a:zF):wU QO f81 yS [dI b,.iptr [.sl .int c] 0,.iptr (gL a []) 0]:=wX func81 (by kernel_rfl) ntmps81 rfl
def QP:xF:= {own:=[],live:=[],n:=11}
theorem G7(a:zA)(b:AcP)(R:xI):FD QP f82 [dL a,.iptr [.sl .int b] 0] R=
 (wW a.var b.length=true/\
 yJ jG [dL a,dI (zJ .int b a.var.toNat)] .bool λc=>
 R (dB c)):=by kernel_rfl
theorem Ix(a:zA)(b:AcP):wU QP f82 qY [dL a,.iptr [.sl .int b] 0]:=wX func82 (by kernel_rfl) ntmps82 rfl
def Gp:xF:= {own:=[],live:=[],n:=29}
theorem zdc(a:zA)(b:Int)(R:xI):FD Gp f83 [dL a,dI b] R=
 (zT (decide (a.op=1))
 (R (dB (decide (b<=a.n))))
 (zT (decide (a.op=2))
 (R (dB (decide (a.n<=b))))
 (zT (decide (a.op=3))
 (R (dB (decide (b=a.n))))
 (R (dB (!decide (b=a.n))))))):=by kernel_rfl
theorem AP(a:zA)(b:Int):wU Gp f83 jG [dL a,dI b]:=wX func83 (by kernel_rfl) ntmps83 rfl
def Gq:xF:= {own:=[],live:=[],n:=23}
theorem zdd(a:zF)(b:Int)(R:xI):FD Gq f84 [dC a,dI b] R=
 (zT (decide (a.kind=1))
 (R (dB (decide (b<=a.n))))
 (zT (decide (a.kind=2))
 (R (dB (decide (b=a.n))))
 (R (dB (!decide (b=a.n)))))):=by kernel_rfl
theorem AQ(a:zF)(b:Int):wU Gq f84 jH [dC a,dI b]:=wX func84 (by kernel_rfl) ntmps84 rfl
def QQ:xF:= {own:=[],live:=[],n:=7}
theorem G8(a b:AcP)(R:xI):FD QQ f86 [.sl .int a,.iptr [.sl .int b] 0] R=
 (yJ xW [.sl .int a,.sl .int b] .bool λc=>
 R (dB c)):=by kernel_rfl
theorem Iy(a b:AcP):wU QQ f86 Zz [.sl .int a,.iptr [.sl .int b] 0]:=wX func86 (by kernel_rfl) ntmps86 rfl
def Rs:xF:= {own:=[],live:=[],n:=8}
theorem Iz(a:zF)(b:AcP)(R:xI):FD Rs f90 [dC a,.iptr [.sl .int b] 0] R=
 (yJ nK [dC a,.sl .int b] .bool λc=>
 R (dB (!c))):=by kernel_rfl
theorem L7(a:zF)(b:AcP):wU Rs f90 bO [dC a,.iptr [.sl .int b] 0]:=wX func90 (by kernel_rfl) ntmps90 rfl
def QR:xF:= {own:=[],live:=[],n:=9}
theorem G9(b a:zO)(R:xI):FD QR f93 [dV b,.iptr [.str a.name,dI a.lo,dI a.hi] 0] R=
 (R (dB (decide (b.name=a.name)))):=by kernel_rfl
theorem IA(b a:zO):wU QR f93 ZB [dV b,.iptr [.str a.name,dI a.lo,dI a.hi] 0]:=wX func93 (by kernel_rfl) ntmps93 rfl
def N5:xF:= {own:=[],live:=[],n:=11}
theorem D7(b:Int)(a:zE)(R:xI):FD N5 f94 [dI b,.iptr (Oy a []) 0] R=
 (yJ uR [dI b,dI 0,dI (yU ((a.vars.length:Int)-1))] .bool λc=>
 R (dB (!c))):=by kernel_rfl
theorem Fa(b:Int)(a:zE):wU N5 f94 cV [dI b,.iptr (Oy a []) 0]:=wX func94 (by kernel_rfl) ntmps94 rfl
def N6:xF:= {own:=[],live:=[],n:=6}
theorem D8(a:Int)(R:xI):FD N6 f95 [dI a] R=
 (yJ uR [dI a,dI (-1000),dI 1000] .bool λb=>
 R (dB (!b))):=by kernel_rfl
theorem Fb(a:Int):wU N6 f95 ov [dI a]:=wX func95 (by kernel_rfl) ntmps95 rfl
def L8:xF:= {own:=[3],live:=[],n:=66}
theorem AR(a:zF)(R:xI):FD L8 f96 [dC a] R=
 (yJ Sk [dC a] (.pr .int (.pr .int (.pr .int (.pr .int .int)))) λb=>
 yJ uR [dI (a.vars.length:Int),dI b.1,dI b.2.1] .bool λc=>
 zT (!c)
 (R (dB false))
 (yJ Yv [dI (a.consts.length:Int),dI b.2.2.1] .bool λd=>
 zT (!d)
 (R (dB false))
 (yJ Yv [dI (a.rows.length:Int),dI b.2.2.2.1] .bool λe=>
 zT (!e)
 (R (dB false))
 (yJ Yv [dI (a.lits.length:Int),dI b.2.2.2.2] .bool λf=>
 zT (!f)
 (R (dB false))
 (zT (decide (a.kind=5))
 (zT (decide ((a.consts.length:Int)=0))
 (R (dB false))
 (zT (decide (3<a.kind))
 (zT (!decide (a.n=0))
 (R (dB false))
 (yJ yM [dS a.rows,.clo oL none [.iptr (gL a []) 0]] .bool λg=>
 R (dB (!g))))
 (yJ yM [dS a.rows,.clo oL none [.iptr (gL a []) 0]] .bool λh=>
 R (dB (!h)))))
 (zT (decide (3<a.kind))
 (zT (!decide (a.n=0))
 (R (dB false))
 (yJ yM [dS a.rows,.clo oL none [.iptr (gL a []) 0]] .bool λi=>
 R (dB (!i))))
 (yJ yM [dS a.rows,.clo oL none [.iptr (gL a []) 0]] .bool λj=>
 R (dB (!j))))))))):=by kernel_rfl
theorem D9(a:zF):wU L8 f96 Wc [dC a]:=wX func96 (by kernel_rfl) ntmps96 rfl
def N7:xF:= {own:=[],live:=[],n:=8}
theorem Ca(b:zA)(a:AcM)(c:AcT)(R:xI):FD N7 f97 [dL b,.iptr [.clo a (some [.bool]) c] 0] R=
 (fV a/\
 yJ a ([dI b.var]++c) .bool λd=>
 R (dB d)):=by kernel_rfl
theorem Fc(a:zA)(b:AcM)(c:AcT):wU N7 f97 YT [dL a,.iptr [.clo b (some [.bool]) c] 0]:=wX func97 (by kernel_rfl) ntmps97 rfl
def N8:xF:= {own:=[],live:=[],n:=7}
theorem Cb(a:AcP)(b:AcM)(c:AcT)(R:xI):FD N8 f98 [.sl .int a,.iptr [.clo b (some [.bool]) c] 0] R=
 (yJ xX [.sl .int a,.clo b (some [.bool]) c] .bool λd=>
 R (dB d)):=by kernel_rfl
theorem Fd(a:AcP)(b:AcM)(c:AcT):wU N8 f98 YU [.sl .int a,.iptr [.clo b (some [.bool]) c] 0]:=wX func98 (by kernel_rfl) ntmps98 rfl
def Cc:xF:= {own:=[2],live:=[],n:=32}
theorem zff(a:zF)(R:xI):FD Cc f150 [dC a] R=
 (zT (decide (a.kind=1))
 (R (.agg [dI 1,dI 4,dI (a.vars.length:Int),dI 0,dI 0]))
 (zT (decide (a.kind=2))
 (R (.agg [dI 1,dI 4,dI (a.vars.length:Int),dI 0,dI 0]))
 (zT (decide (a.kind=3))
 (R (.agg [dI 1,dI 4,dI (a.vars.length:Int),dI 0,dI 0]))
 (zT (decide (a.kind=4))
 (R (.agg [dI 1,dI 4,dI 0,dI 0,dI 0]))
 (zT (decide (a.kind=5))
 (R (.agg [dI 2,dI 2,dI (-1),dI 0,dI 0]))
 (zT (decide (a.kind=6))
 (R (.agg [dI 1,dI 4,dI 0,dI (-1),dI 0]))
 (zT (decide (a.kind=7))
 (R (.agg [dI 3,dI 3,dI 0,dI 0,dI 0]))
 (zT (decide (a.kind=8))
 (R (.agg [dI 2,dI 4,dI 0,dI 0,dI 0]))
 (zT (decide (a.kind=9))
 (R (.agg [dI 0,dI 0,dI 0,dI 0,dI (-1)]))
 (R (.agg [dI 1,dI 1,dI 0,dI 0,dI 1]))))))))))):=by kernel_rfl
theorem zde(a:zF):wU Cc f150 Sk [dC a]:=wX func150 (by kernel_rfl) ntmps150 rfl
def Cd:xF:= {own:=[],live:=[],n:=12}
theorem zfg(b a:Int)(R:xI):FD Cd f151 [dI b,dI a] R=
 (zT (decide (a=(-1)))
 (R (dB true))
 (R (dB (decide (b=a))))):=by kernel_rfl
theorem zdf(a b:Int):wU Cd f151 Yv [dI a,dI b]:=wX func151 (by kernel_rfl) ntmps151 rfl
def QT:xF:= {own:=[],live:=[],n:=10}
theorem Fe(b:AcP)(a:zF)(R:xI):FD QT f152 [.sl .int b,.iptr (gL a []) 0] R=
 (R (dB (!decide ((b.length:Int)=(a.vars.length:Int))))):=by kernel_rfl
theorem IB(b:AcP)(a:zF):wU QT f152 oL [.sl .int b,.iptr (gL a []) 0]:=wX func152 (by kernel_rfl) ntmps152 rfl
end Go.Proofs.YtdnmkinmcdihnaaGreatDoor
namespace Go.Proofs.YtdnmkinmcdihnaaGreatDoor
open Go.Proofs.Tryz
open Go.RowKit
set_option maxRecDepth 100000
variable[Lo]
def rP:xF:= {own:=[],live:=[(0,([2,3,5],[])),(2,([2,3,6],[]))],n:=74}
def nS(a b:zE)(R:xI)(c:Nat)(d:Int):Prop:=LP rP f16 [1,1,1,0,1,0,0] 2 c ⟨[(2,.iptr (Oy a []) 0),(3,.iptr (Oy b []) 0),(6,dI d)],[]⟩ (zP 2 (sK rP f16 [1,1,1,1] 0 (eK f16 R)))
def nT(a b:zE)(R:xI)(c:Nat)(d:Int):Prop:=LP rP f16 [1,1,0,1,0,0] 0 c ⟨[(2,.iptr (Oy a []) 0),(3,.iptr (Oy b []) 0),(5,dI d)],[]⟩ (zP 0 (sK rP f16 [1,1,1] 0 (eK f16 R)))
theorem dX(b c:zE)(R:xI)(d:Nat)(a:Int):nS b c R (d+1) a=
 (zT (decide (a<(b.cons.length:Int)))
 (wW a b.cons.length=true/\
 wW a c.cons.length=true/\
 yJ kG [dC (zJ .con b.cons a.toNat),dC (zJ .con c.cons a.toNat)] .bool λe=>
 zT (!e)
 (R (dB false))
 (nS b c R d (yU (a+1))))
 (R (dB true))):=by kernel_rfl
theorem dY(b c:zE)(R:xI)(d:Nat)(a:Int):nT b c R (d+1) a=
 (zT (decide (a<(b.vars.length:Int)))
 (wW a b.vars.length=true/\
 wW a c.vars.length=true/\
 zT (!decide ((zJ .var b.vars a.toNat)=(zJ .var c.vars a.toNat)))
 (R (dB false))
 (nT b c R d (yU (a+1))))
 (∃n2,nS b c R n2 0)):=by kernel_rfl
theorem Sl(a b:zE)(R:xI):FD rP f16 [dM a,dM b] R=
 (zT (!decide ((a.vars.length:Int)=(b.vars.length:Int)))
 (R (dB false))
 (zT (!decide ((a.cons.length:Int)=(b.cons.length:Int)))
 (R (dB false))
 (zT (!decide (a.goal=b.goal))
 (R (dB false))
 (zT (!decide (a.var=b.var))
 (R (dB false))
 (∃n0,nT a b R n0 0))))):=by kernel_rfl
theorem U8(a b:zE):wU rP f16 rM [dM a,dM b]:=wX func16 (by kernel_rfl) ntmps16 rfl
def lM:xF:= {own:=[],live:=[(0,([0,1,5],[]))],n:=26}
def mU(a b:AcP)(R:xI)(c:Nat)(d:Int):Prop:=LP lM f17 [1,1,0,1,0,0] 0 c ⟨[(0,.sl .int a),(1,.sl .int b),(5,dI d)],[]⟩ (zP 0 (sK lM f17 [1,1,1] 0 (eK f17 R)))
theorem bB(b c:AcP)(R:xI)(d:Nat)(a:Int):mU b c R (d+1) a=
 (zT (decide (a<(b.length:Int)))
 (wW a b.length=true/\
 wW a c.length=true/\
 zT (!decide ((zJ .int b a.toNat)=(zJ .int c a.toNat)))
 (R (dB false))
 (mU b c R d (yU (a+1))))
 (R (dB true))):=by kernel_rfl
theorem RR(a b:AcP)(R:xI):FD lM f17 [.sl .int a,.sl .int b] R=
 (zT (!decide ((a.length:Int)=(b.length:Int)))
 (R (dB false))
 (∃n0,mU a b R n0 0)):=by kernel_rfl
theorem Sm(a b:AcP):wU lM f17 vF [.sl .int a,.sl .int b]:=wX func17 (by kernel_rfl) ntmps17 rfl
def mV:xF:= {own:=[],live:=[(0,([0,1,5],[]))],n:=27}
def pB(a b:AcQ)(R:xI)(c:Nat)(d:Int):Prop:=LP mV f25 [1,1,0,1,0,0] 0 c ⟨[(0,dS a),(1,dS b),(5,dI d)],[]⟩ (zP 0 (sK mV f25 [1,1,1] 0 (eK f25 R)))
theorem pR(b c:AcQ)(R:xI)(d:Nat)(a:Int):pB b c R (d+1) a=
 (zT (decide (a<(b.length:Int)))
 (wW a b.length=true/\
 wW a c.length=true/\
 yJ vF [.sl .int (zJ (.list .int) b a.toNat),.sl .int (zJ (.list .int) c a.toNat)] .bool λe=>
 zT (!e)
 (R (dB false))
 (pB b c R d (yU (a+1))))
 (R (dB true))):=by kernel_rfl
theorem ZH(a b:AcQ)(R:xI):FD mV f25 [dS a,dS b] R=
 (zT (!decide ((a.length:Int)=(b.length:Int)))
 (R (dB false))
 (∃n0,pB a b R n0 0)):=by kernel_rfl
theorem aR(a b:AcQ):wU mV f25 tO [dS a,dS b]:=wX func25 (by kernel_rfl) ntmps25 rfl
def nU:xF:= {own:=[],live:=[(0,([0,1,5],[]))],n:=26}
def qG(a b:AcR)(R:xI)(c:Nat)(d:Int):Prop:=LP nU f27 [1,1,0,1,0,0] 0 c ⟨[(0,.sl .lit a),(1,.sl .lit b),(5,dI d)],[]⟩ (zP 0 (sK nU f27 [1,1,1] 0 (eK f27 R)))
theorem pC(b c:AcR)(R:xI)(d:Nat)(a:Int):qG b c R (d+1) a=
 (zT (decide (a<(b.length:Int)))
 (wW a b.length=true/\
 wW a c.length=true/\
 zT (!decide ((zJ .lit b a.toNat)=(zJ .lit c a.toNat)))
 (R (dB false))
 (qG b c R d (yU (a+1))))
 (R (dB true))):=by kernel_rfl
theorem aS(a b:AcR)(R:xI):FD nU f27 [.sl .lit a,.sl .lit b] R=
 (zT (!decide ((a.length:Int)=(b.length:Int)))
 (R (dB false))
 (∃n0,qG a b R n0 0)):=by kernel_rfl
theorem bC(a b:AcR):wU nU f27 sW [.sl .lit a,.sl .lit b]:=wX func27 (by kernel_rfl) ntmps27 rfl
def XZ:xF:= {own:=[],live:=[],n:=45}
theorem QU(a b:zF)(R:xI):FD XZ f43 [dC a,dC b] R=
 (zT (decide (a.kind=b.kind))
 (yJ vF [.sl .int a.vars,.sl .int b.vars] .bool λc=>
 zT c
 (yJ vF [.sl .int a.consts,.sl .int b.consts] .bool λd=>
 zT d
 (zT (decide (a.n=b.n))
 (yJ tO [dS a.rows,dS b.rows] .bool λe=>
 zT e
 (yJ sW [.sl .lit a.lits,.sl .lit b.lits] .bool λf=>
 R (dB f))
 (R (dB false)))
 (R (dB false)))
 (R (dB false)))
 (R (dB false)))
 (R (dB false))):=by kernel_rfl
theorem RS(a b:zF):wU XZ f43 kG [dC a,dC b]:=wX func43 (by kernel_rfl) ntmps43 rfl
end Go.Proofs.YtdnmkinmcdihnaaGreatDoor
namespace Go.Proofs.YtdnmkinmcdihnaaGreatDoor
open Go.Proofs.Tryz
open Go.RowKit
set_option maxRecDepth 100000
variable[Lo]
theorem YA{xs:AcP}{g:AcM}{rs:Option Ac2}{cap:AcT}{p:Int->Bool}(he:fV g)(hp:∀x∈xs,vL g (dI x::cap) (.bool (p x))):vL rW [.sl .int xs,.clo g rs cap] (.int .i64 (Nl p xs 0)):=
 oT.clo (pre:=[_]) (Yy _ _ _ λok=>by
  rw[Xw];refine AE (t:=.int) (p:=p) (R:=λd=>d=.int .i64 (Nl p xs 0)) (dW (t:=.int) (Qm ok)) rfl (λn k h h1 h2=> ?_) λn hR=> ?_
  ·rw[lK,yD h,yA h]
   exact⟨zI h,he,zG (hp _ (AT h)) (zC h1 h2)⟩
  ·rw[lK,zY];exact hR)
theorem Zn{xs:AcQ}{g:AcM}{rs:Option Ac2}{cap:AcT}{p:(AcP)->Bool}(he:fV g)(hp:∀x∈xs,vL g (.sl .int x::cap) (.bool (p x))):vL sI [.sl (.list .int) xs,.clo g rs cap] (.int .i64 (Nl p xs 0)):=
 oT.clo (pre:=[_]) (Zl _ _ _ λok=>by
  rw[ZE];refine AE (t:=(.list .int)) (p:=p) (R:=λd=>d=.int .i64 (Nl p xs 0)) (dW (t:=(.list .int)) (Qm ok)) rfl (λn k h h1 h2=> ?_) λn hR=> ?_
  ·rw[nZ,yD h,yA h]
   exact⟨zI h,he,zG (hp _ (AT h)) (zC h1 h2)⟩
  ·rw[nZ,zY];exact hR)
theorem eA{xs:AcR}{g:AcM}{rs:Option Ac2}{cap:AcT}{p:zA->Bool}(he:fV g)(hp:∀x∈xs,vL g (dL x::cap) (.bool (p x))):vL uE [.sl .lit xs,.clo g rs cap] (.int .i64 (Nl p xs 0)):=
 oT.clo (pre:=[_]) (fW _ _ _ λok=>by
  rw[dA];refine AE (t:=.lit) (p:=p) (R:=λd=>d=.int .i64 (Nl p xs 0)) (dW (t:=.lit) (Qm ok)) rfl (λn k h h1 h2=> ?_) λn hR=> ?_
  ·rw[pT,yD h,yA h]
   exact⟨zI h,he,zG (hp _ (AT h)) (zC h1 h2)⟩
  ·rw[pT,zY];exact hR)
theorem eB{xs:AcV}{g:AcM}{rs:Option Ac2}{cap:AcT}{p:zF->Bool}(he:fV g)(hp:∀x∈xs,vL g (dC x::cap) (.bool (p x))):vL uF [.sl .con xs,.clo g rs cap] (.int .i64 (Nl p xs 0)):=
 oT.clo (pre:=[_]) (fX _ _ _ λok=>by
  rw[dD];refine AE (t:=.con) (p:=p) (R:=λd=>d=.int .i64 (Nl p xs 0)) (dW (t:=.con) (Qm ok)) rfl (λn k h h1 h2=> ?_) λn hR=> ?_
  ·rw[pU,yD h,yA h]
   exact⟨zI h,he,zG (hp _ (AT h)) (zC h1 h2)⟩
  ·rw[pU,zY];exact hR)
theorem eC{xs:AcU}{g:AcM}{rs:Option Ac2}{cap:AcT}{p:zO->Bool}(he:fV g)(hp:∀x∈xs,vL g (dV x::cap) (.bool (p x))):vL uG [.sl .var xs,.clo g rs cap] (.int .i64 (Nl p xs 0)):=
 oT.clo (pre:=[_]) (fY _ _ _ λok=>by
  rw[dE];refine AE (t:=.var) (p:=p) (R:=λd=>d=.int .i64 (Nl p xs 0)) (dW (t:=.var) (Qm ok)) rfl (λn k h h1 h2=> ?_) λn hR=> ?_
  ·rw[pV,yD h,yA h]
   exact⟨zI h,he,zG (hp _ (AT h)) (zC h1 h2)⟩
  ·rw[pV,zY];exact hR)
theorem aD{xs:AcQ}{g:AcM}{rs:Option Ac2}{cap:AcT}{p:(AcP)->Bool}(he:fV g)(hp:∀x∈xs,vL g (.sl .int x::cap) (.bool (p x))):vL tW [.sl (.list .int) xs,.clo g rs cap] (.int .i64 (Nl p xs 0)):=
 oT.clo (pre:=[_]) (aC _ _ _ λok=>by
  rw[Zm];refine AE (t:=(.list .int)) (p:=p) (R:=λd=>d=.int .i64 (Nl p xs 0)) (dW (t:=(.list .int)) (Qm ok)) rfl (λn k h h1 h2=> ?_) λn hR=> ?_
  ·rw[nC,yD h,yA h]
   exact⟨zI h,he,zG (hp _ (AT h)) (zC h1 h2)⟩
  ·rw[nC,zY];exact hR)
theorem fG{xs:AcR}{g:AcM}{rs:Option Ac2}{cap:AcT}{p:zA->Bool}(he:fV g)(hp:∀x∈xs,vL g (dL x::cap) (.bool (p x))):vL uB [.sl .lit xs,.clo g rs cap] (.int .i64 (Nl p xs 0)):=
 oT.clo (pre:=[_]) (fF _ _ _ λok=>by
  rw[fZ];refine AE (t:=.lit) (p:=p) (R:=λd=>d=.int .i64 (Nl p xs 0)) (dW (t:=.lit) (Qm ok)) rfl (λn k h h1 h2=> ?_) λn hR=> ?_
  ·rw[pN,yD h,yA h]
   exact⟨zI h,he,zG (hp _ (AT h)) (zC h1 h2)⟩
  ·rw[pN,zY];exact hR)
theorem rR{xs:Ac0}{g:AcM}{rs:Option Ac2}{cap:AcT}{p:xL->Bool}(he:fV g)(hp:∀x∈xs,vL g (.agg [dI x.v,dI x.times]::cap) (.bool (p x))):vL wB [.sl .term xs,.clo g rs cap] (.int .i64 (Nl p xs 0)):=
 oT.clo (pre:=[_]) (lX _ _ _ λok=>by
  rw[kF];refine AE (t:=.term) (p:=p) (R:=λd=>d=.int .i64 (Nl p xs 0)) (dW (t:=.term) (Qm ok)) rfl (λn k h h1 h2=> ?_) λn hR=> ?_
  ·rw[rC,yD h,yA h]
   exact⟨zI h,he,zG (hp _ (AT h)) (zC h1 h2)⟩
  ·rw[rC,zY];exact hR)
theorem WY{xs:AcP}{a:Int}:vL ox [.sl .int xs,dI a] (.int .i64 (Nl (λx=>decide (a=x)) xs 0)):=
 WX _ _ λok=>by
  rw[VF];refine AE (t:=.int) (p:=λx=>decide (a=x)) (R:=λd=>d=.int .i64 (Nl (λx=>decide (a=x)) xs 0)) (dW (t:=.int) (Qm ok)) rfl (λn k h h1 h2=> ?_) λn hR=> ?_
  ·rw[hM,yD h,yA h]
   exact⟨zI h,zC h1 h2⟩
  ·rw[hM,zY];exact hR
theorem vR{xs:AcP}{g:AcM}{rs:Option Ac2}{cap:AcT}{p:Int->Bool}(he:fV g)(hp:∀x∈xs,vL g (dI x::cap) (.bool (p x))):vL xX [.sl .int xs,.clo g rs cap] (.bool (xs.any p)):=
 oT.clo (pre:=[_]) (Zj _ _ _ λok=>by
  rw[ZD];refine zG (YA he hp) ?_;rw[jT _ _ (AaK 0)])
theorem rF{xs:AcQ}{g:AcM}{rs:Option Ac2}{cap:AcT}{p:(AcP)->Bool}(he:fV g)(hp:∀x∈xs,vL g (.sl .int x::cap) (.bool (p x))):vL yM [.sl (.list .int) xs,.clo g rs cap] (.bool (xs.any p)):=
 oT.clo (pre:=[_]) (cI _ _ _ λok=>by
  rw[cZ];refine zG (Zn he hp) ?_;rw[jT _ _ (AaK 0)])
theorem pO{xs:AcR}{g:AcM}{rs:Option Ac2}{cap:AcT}{p:zA->Bool}(he:fV g)(hp:∀x∈xs,vL g (dL x::cap) (.bool (p x))):vL xZ [.sl .lit xs,.clo g rs cap] (.bool (xs.any p)):=
 oT.clo (pre:=[_]) (iX _ _ _ λok=>by
  rw[gW];refine zG (eA he hp) ?_;rw[jT _ _ (AaK 0)])
theorem hU{xs:AcV}{g:AcM}{rs:Option Ac2}{cap:AcT}{p:zF->Bool}(he:fV g)(hp:∀x∈xs,vL g (dC x::cap) (.bool (p x))):vL vS [.sl .con xs,.clo g rs cap] (.bool (xs.any p)):=
 oT.clo (pre:=[_]) (iY _ _ _ λok=>by
  rw[gX];refine zG (eB he hp) ?_;rw[jT _ _ (AaK 0)])
theorem hZ{xs:AcU}{g:AcM}{rs:Option Ac2}{cap:AcT}{p:zO->Bool}(he:fV g)(hp:∀x∈xs,vL g (dV x::cap) (.bool (p x))):vL vT [.sl .var xs,.clo g rs cap] (.bool (xs.any p)):=
 oT.clo (pre:=[_]) (iZ _ _ _ λok=>by
  rw[gY];refine zG (eC he hp) ?_;rw[jT _ _ (AaK 0)])
theorem dF{xs:AcQ}{g:AcM}{rs:Option Ac2}{cap:AcT}{p:(AcP)->Bool}(he:fV g)(hp:∀x∈xs,vL g (.sl .int x::cap) (.bool (p x))):vL uT [.sl (.list .int) xs,.clo g rs cap] (.bool (xs.any p)):=
 oT.clo (pre:=[_]) (eZ _ _ _ λok=>by
  rw[cJ];refine zG (aD he hp) ?_;rw[jT _ _ (AaK 0)])
theorem pD{xs:AcR}{g:AcM}{rs:Option Ac2}{cap:AcT}{p:zA->Bool}(he:fV g)(hp:∀x∈xs,vL g (dL x::cap) (.bool (p x))):vL wN [.sl .lit xs,.clo g rs cap] (.bool (xs.any p)):=
 oT.clo (pre:=[_]) (jZ _ _ _ λok=>by
  rw[hC];refine zG (fG he hp) ?_;rw[jT _ _ (AaK 0)])
theorem uU{xs:AcP}{a:Int}:vL wD [.sl .int xs,dI a] (.bool (xs.any λx=>decide (a=x))):=
 Xx _ _ λok=>by
  rw[XQ];refine zG (WY (a:=a)) ?_;rw[jT _ _ (AaK 0)]
theorem L9:fV bN:=λargs w=>call46 args w
theorem UA:fV nN:=λargs w=>call72 args w
theorem IC:fV qY:=λargs w=>call82 args w
theorem ID:fV Zz:=λargs w=>call86 args w
theorem Ka:fV bO:=λargs w=>call90 args w
theorem IE:fV ZB:=λargs w=>call93 args w
theorem Rt:fV cV:=λargs w=>call94 args w
theorem Ru:fV ov:=λargs w=>call95 args w
theorem Ff:fV YT:=λargs w=>call97 args w
theorem Fg:fV YU:=λargs w=>call98 args w
theorem WZ:fV ow:=λargs w=>call110 args w
theorem Kb:fV bP:=λargs w=>call123 args w
theorem IF:fV oL:=λargs w=>call152 args w
theorem QV:fV jX:=λargs w=>call156 args w
theorem Sn:fV lJ:=λargs w=>call158 args w
theorem U9:fV vJ:=λargs w=>call163 args w
theorem IG:fV mJ:=λargs w=>call170 args w
theorem MS:fV eU:=λargs w=>call171 args w
theorem Ta:fV fT:=λargs w=>call172 args w
theorem Ce:fV eV:=λargs w=>call173 args w
theorem V8:fV yH:=λargs w=>call206 args w
theorem X0:fV tY:=λargs w=>call209 args w
theorem RT:fV kI:=λargs w=>call211 args w
theorem RU:fV kJ:=λargs w=>call212 args w
theorem X1:fV tZ:=λargs w=>call213 args w
theorem N9:fV Xu:=λargs w=>call217 args w
theorem MT:fV eW:=λargs w=>call234 args w
end Go.Proofs.YtdnmkinmcdihnaaGreatDoor
namespace Go.Proofs.YtdnmkinmcdihnaaGreatDoor
open Go.Proofs.Tryz
open Go.RowKit
variable[Lo]
end Go.Proofs.YtdnmkinmcdihnaaGreatDoor
namespace Go.Proofs.YtdnmkinmcdihnaaGreatDoor
open Go.Proofs.Tryz
open Go.RowKit
variable[Lo]
theorem zdg{P:AcO}{f:AcM}{s:AcL}{b:Bool}(h:s.size<=140737488355328->∀w,Calls P f #[.string s] w λe w'=>e=.returned (.bool b)/\Below w.heap.size w w'):oT P f [.str s] (.bool b):=by
 intro w S vs hS hl hv _;obtain⟨e0,hz⟩:=(hv 0 _ rfl).str_inv
 have e:vs= #[.string s]:=by
  have hl:vs.size=1:=hl;apply Array.ext
  ·simpa using hl
  ·intro i h1 h2
   have:i=0:=by omega
   subst this;simpa[Aaj,h1]using e0
 subst e;exact(h hz w).mono λe w' ⟨he,hb⟩=>⟨_,he,.bool b,hb⟩
theorem Ma(s:AcL):vL ZA [.str s] (.bool (yG s)):=zdg λ_ w=>zok s w
end Go.Proofs.YtdnmkinmcdihnaaGreatDoor
namespace Go.Proofs.YtdnmkinmcdihnaaGreatDoor
open Go.Proofs.Tryz
open Go.RowKit
variable[Lo]
theorem qA(n a b:Int):vL uR [dI n,dI a,dI b] (dB (gK n a b)):=
 Ip n a b λok=>by rw[G4];(repeat'(refine zC (λ_=> ?_) (λ_=> ?_)))<;>simp_all[gK]<;>omega
theorem ZI(n:Int):vL ov [dI n] (dB (farB n)):=
 Fb n λok=>by rw[D8];exact zG (qA _ _ _) rfl
theorem QW(n:Int)(m:zE)(h:m.vars.length<=9223372036854775807):vL cV [dI n,.iptr [.sl .var m.vars,.sl .con m.cons,.int .i64 m.goal,.int .i64 m.var] 0] (dB (qQ m.vars.length n)):=
 Fa n m λok=>by
  rw[D7,qV (by omega) (by omega)];exact zG (qA _ _ _) rfl
theorem Cf(l:zA){g:AcM}{cap:AcT}{b:Bool}(he:fV g)(h:vL g (dI l.var::cap) (dB b)):vL YT [dL l,.iptr [.clo g none cap] 0] (dB b):=
 oT.iclo (pre:=[_]) (Fc l g cap λok=>by rw[Ca];exact⟨he,zG h rfl⟩)
theorem Cg(l:AcP){g:AcM}{cap:AcT}{p:Int->Bool}(he:fV g)(h:∀x∈l,vL g (dI x::cap) (dB (p x))):vL YU [.sl .int l,.iptr [.clo g none cap] 0] (dB (l.any p)):=
 oT.iclo (pre:=[_]) (Fd l g cap λok=>by rw[Cb];exact zG (vR he h) rfl)
theorem Fh(l:AcP)(c:zF):vL oL [.sl .int l,.iptr [.int .i64 c.kind,.sl .int c.vars,.sl .int c.consts,.int .i64 c.n,.sl (.list .int) c.rows,.sl .lit c.lits] 0] (dB (!decide (l.length=c.vars.length))):=
 IB l c λok=>by rw[Fe];congr 2;exact decide_eq_decide.2 (by omega)
theorem QX(a b:Int):vL Yv [dI a,dI b] (dB (decide (b= -1)||decide (a=b))):=
 zdf a b λok=>by rw[zfg];(repeat'(refine zC (λ_=> ?_) (λ_=> ?_)))<;>simp_all
def V9(c:zF):Int×Int×Int×Int×Int:=
 if c.kind=1\/c.kind=2\/c.kind=3 then(1,4,c.vars.length,0,0)else if c.kind=4 then(1,4,0,0,0)else if c.kind=5 then(2,2,-1,0,0)
 else if c.kind=6 then(1,4,0,-1,0)else if c.kind=7 then(3,3,0,0,0)else if c.kind=8 then(2,4,0,0,0)else if c.kind=9 then(0,0,0,0,-1)else(1,1,0,0,1)
theorem zfh(c:zF):vL Sk [dC c] (Yn (.pr .int (.pr .int (.pr .int (.pr .int .int)))) (V9 c)):=
 zde c λok=>by
  rw[zff];unfold V9
  (repeat'(refine zC (λ_=> ?_) (λ_=> ?_)))<;>simp_all<;>rfl
def isB(a b:Int):Bool:=decide (b= -1)||decide (a=b)
def Kc(c:zF):Bool:=
 gK c.vars.length (V9 c).1 (V9 c).2.1&&isB c.consts.length (V9 c).2.2.1&&isB c.rows.length (V9 c).2.2.2.1&&isB c.lits.length (V9 c).2.2.2.2&&
 !(decide (c.kind=5)&&decide ((c.consts.length:Int)=0))&& !(decide (3<c.kind)&& !decide (c.n=0))&& !(c.rows.any λr=> !decide (r.length=c.vars.length))
theorem AU(c:zF):vL Wc [dC c] (dB (Kc c)):=
 D9 c λok=>by
  rw[AR];refine zG (zfh c) (zG (qA _ _ _) (zC (λe1=> ?_) λe1=>zG (QX _ _) (zC (λe2=> ?_) λe2=>zG (QX _ _) (zC (λe3=> ?_) λe3=>zG (QX _ _) (zC (λe4=> ?_) λe4=> ?_)))))
  all_goals try simp only[Bool.not_eq_eq_eq_not,AbA,Ab9]at*
  ·simp only[Kc,isB,e1,Abe]
  ·simp only[Kc,isB,e2,Abe,AbJ]
  ·simp only[Kc,isB,e3,Abe,AbJ]
  ·simp only[Kc,isB,e4,Abe,AbJ]
  have hr:vL yM [.sl (.list .int) c.rows,.clo oL none [.iptr [.int .i64 c.kind,.sl .int c.vars,.sl .int c.consts,.int .i64 c.n,.sl (.list .int) c.rows,.sl .lit c.lits] 0]] (dB (c.rows.any λr=> !decide (r.length=c.vars.length))):=rF IF λx _=>Fh x c
  (repeat'(refine zC (λ_=> ?_) (λ_=> ?_)))
  all_goals first|(refine zG hr ?_;simp only[Kc,isB, *,Abf,AbI,AbA,Ab9,AbJ,Abe];done)|(simp only[Kc,isB, *,Abf,AbI,AbA,Ab9,AbJ,Abe];done)
theorem zot(c:zF)(h1:1<=c.kind)(h2:c.kind<=10)(h3:c.vars.length<=4):Kc c=V0 c:=by
 have hk:c.kind=1\/c.kind=2\/c.kind=3\/c.kind=4\/c.kind=5\/c.kind=6\/c.kind=7\/c.kind=8\/c.kind=9\/c.kind=10:=by omega
 have ha:(c.rows.any λr=> !decide (r.length=c.vars.length))= !(c.rows.all λr=>decide (r.length=c.vars.length)):=by
  rw[List.all_eq_not_any_not,Bool.not_not]
 have hq:c.rows.length=0->(c.rows.all λr=>decide (r.length=c.vars.length))=true:=λh=>by rw[AaX.1 h];rfl
 unfold Kc V0 V9;rw[ha]
 dsimp only
 revert hq;generalize(c.rows.all λr=>decide (r.length=c.vars.length))=q
 generalize c.vars.length=v at*
 generalize c.consts.length=k;generalize c.rows.length=rr;generalize c.lits.length=l;rcases hk with h|h|h|h|h|h|h|h|h|h<;>simp only[h,isB,gK]<;>rw[AaO]<;>intro hq<;>cases q<;>simp_all<;>first|omega|(rw[AaO];simp;omega)
theorem zho{nv:Nat}{c:zF}(h:gK c.kind 1 10=false):Uz nv c=7:=by rw[Uz,As h]
theorem zou{nv:Nat}{c:zF}(h1:¬gK c.kind 1 10=false)(h:QG c=true):Uz nv c=2:=by rw[Uz,An h1,As h]
theorem zov{nv:Nat}{c:zF}(h1:¬gK c.kind 1 10=false)(h2:¬QG c=true)(h:V0 c=false):Uz nv c=1:=by rw[Uz,An h1,An h2,As h]
theorem zhp{nv:Nat}{c:zF}(h1:¬gK c.kind 1 10=false)(h2:¬QG c=true)(h3:¬V0 c=false)(h:(c.vars.any (qQ nv)||c.lits.any λl=>qQ nv l.var)=true):Uz nv c=5:=by rw[Uz,An h1,An h2,An h3,As h]
theorem zdh{nv:Nat}{c:zF}(h1:¬gK c.kind 1 10=false)(h2:¬QG c=true)(h3:¬V0 c=false)(h4:¬(c.vars.any (qQ nv)||c.lits.any λl=>qQ nv l.var)=true)(h:(c.consts.any farB||farB c.n||c.rows.any λr=>r.any farB)=true):Uz nv c=3:=by rw[Uz,An h1,An h2,An h3,An h4,As h]
theorem zow{nv:Nat}{c:zF}(h1:¬gK c.kind 1 10=false)(h2:¬QG c=true)(h3:¬V0 c=false)(h4:¬(c.vars.any (qQ nv)||c.lits.any λl=>qQ nv l.var)=true)(h5:¬(c.consts.any farB||farB c.n||c.rows.any λr=>r.any farB)=true):Uz nv c=wM (λ_ l=>opE l) 0 c.lits:=by rw[Uz,An h1,An h2,An h3,An h4,An h5]
theorem qH{a b:Int}(h:b=a):D.int .i64 a=dI b:=by rw[h]
theorem zdi(m:zE)(c:zF)(hm:m.vars.length<=6):vL V2 [dM m,dC c] (dI (Uz m.vars.length c)):=
 AO m c λok=>by
  have hm':m.vars.length<=9223372036854775807:=by omega
  rw[zdb];refine zC (λe=> ?_) λe1=>zC (λe=> ?_) λe2=> ?_
  ·exact qH (zho (pI.2 (.inl (BY e))))
  ·exact qH (zho (pI.2 (.inr (BY e))))
  simp at e1 e2
  have k1:¬gK c.kind 1 10=false:=by rw[pI];omega
  refine zC (λe=> ?_) λe3=>zC (λe=> ?_) λe4=>zC (λe=> ?_) λe5=>zC (λe=> ?_) λe6=> ?_
  iterate 4 (exact qH (zou k1 (by simp at e;simp[QG];omega)))
  simp at e3 e4 e5 e6
  have k2:¬QG c=true:=by simp[QG];omega
  refine zG (AU c) ?_;rw[zot c e1 e2 (by omega)]
  refine zC (λe=> ?_) λe=> ?_
  ·exact qH (zov k1 k2 (by simpa using e))
  have k3:¬V0 c=false:=by simpa using e
  refine zG (vR (p:=qQ m.vars.length) Rt λx _=>QW x m hm') (zC (λe=> ?_) λe7=> ?_)
  ·exact qH (zhp k1 k2 k3 (by rw[e];rfl))
  refine zG (pO (p:=λl=>qQ m.vars.length l.var) Ff λx _=>Cf x Rt (QW x.var m hm')) (zC (λe=> ?_) λe8=> ?_)
  ·exact qH (zhp k1 k2 k3 (by rw[e,AbN]))
  have k4:¬(c.vars.any (qQ m.vars.length)||c.lits.any λl=>qQ m.vars.length l.var)=true:=by rw[e7,e8];decide
  refine zG (vR (p:=farB) Ru λx _=>ZI x) (zC (λe=> ?_) λe9=> ?_)
  ·exact qH (zdh k1 k2 k3 k4 (by rw[e];rfl))
  refine zG (ZI _) (zC (λe=> ?_) λe10=> ?_)
  ·exact qH (zdh k1 k2 k3 k4 (by rw[e,AbN];rfl))
  refine zG (rF (p:=λr=>r.any farB) Fg λx _=>Cg x Ru λn _=>ZI n) (zC (λe=> ?_) λe11=> ?_)
  ·exact qH (zdh k1 k2 k3 k4 (by rw[e,AbN]))
  have k5:¬(c.consts.any farB||farB c.n||c.rows.any λr=>r.any farB)=true:=by rw[e9,e10,e11];decide
  rw[zow k1 k2 k3 k4 k5];refine zl4 (I:=λn v=>Wh c _ n v) c.lits (λ_ l=>opE l) (by omega) (X:=λx=>D.int .i64 x=dI (wM (λ_ l=>opE l) 0 c.lits)) (Y:=D.int .i64 0=dI (wM (λ_ l=>opE l) 0 c.lits)) (λ_=>rfl) (λe=>qH e) (λn k h _ hX hn=> ?_) λn hY=> ?_
  ·rw[Rr,yD h,yA (t:=.lit) h]
   unfold opE at hX hn
   refine⟨zI h,zC (λe=> ?_) λe1=>zC (λe=> ?_) λe2=>zG (ZI _) (zC (λe=> ?_) λe=> ?_)⟩
   ·have i:gK c.lits[k].op 1 4=false:=pI.2 (.inl (BY e))
    rw[As i]at hX;exact hX (by decide)
   ·have i:gK c.lits[k].op 1 4=false:=pI.2 (.inr (BY e))
    rw[As i]at hX;exact hX (by decide)
   ·have i:¬gK c.lits[k].op 1 4=false:=by rw[pI];simp at e1 e2;omega
    rw[An i,As e]at hX;exact hX (by decide)
   ·have i:¬gK c.lits[k].op 1 4=false:=by rw[pI];simp at e1 e2;omega
    rw[An i,An (by rw[e];decide)]at hn;exact hn rfl
  ·rw[Rr,zY];exact hY
end Go.Proofs.YtdnmkinmcdihnaaGreatDoor
namespace Go.Proofs.YtdnmkinmcdihnaaGreatDoor
open Go.Proofs.Tryz
open Go.RowKit
variable[Lo]
theorem Fi(u v:zO):vL ZB [dV u,.iptr [.str v.name,.int .i64 v.lo,.int .i64 v.hi] 0] (dB (u.name.toList==v.name.toList)):=
 IA u v λok=>by rw[G9,Oo]
def Kd(v:zO):Int:=if(!gK v.lo (-50) 50|| !gK v.hi (-50) 50||decide (v.hi<v.lo))=true then 3 else if 6<=v.hi-v.lo then 2 else 0
theorem zs2{a:AcU}{v:zO}(h:yG v.name=false):AB a v=1:=by rw[AB,As h]
theorem zs3{a:AcU}{v:zO}(h1:¬yG v.name=false)(h:(a.any λu=>u.name.toList==v.name.toList)=true):AB a v=6:=by rw[AB,An h1,As h]
theorem zs4{a:AcU}{v:zO}(h1:¬yG v.name=false)(h2:¬(a.any λu=>u.name.toList==v.name.toList)=true):AB a v=Kd v:=by rw[AB,An h1,An h2];rfl
theorem zs5{v:zO}(h:(!gK v.lo (-50) 50)=true):Kd v=3:=by rw[Kd,h];rfl
theorem zs6{v:zO}(h:(!gK v.hi (-50) 50)=true):Kd v=3:=by rw[Kd,h,AbN];rfl
theorem zs7{v:zO}(h:decide (v.hi<v.lo)=true):Kd v=3:=by rw[Kd,h,AbN];rfl
theorem zs8{v:zO}(h1:(!gK v.lo (-50) 50)=false)(h2:(!gK v.hi (-50) 50)=false)(h3:decide (v.hi<v.lo)=false):Kd v=if 6<=v.hi-v.lo then 2 else 0:=by rw[Kd,h1,h2,h3];rfl
theorem AV(l:AcU):vL Wb [.sl .var l] (dI (Rm l)):=
 D6 l λok=>by
  rw[AN];refine zl4 (I:=λn v=>Y6 l _ n v) l (λi v=>AB (l.take i) v) (dW (t:=.var) (Qm ok)) (X:=λx=>D.int .i64 x=dI (Rm l)) (Y:=D.int .i64 0=dI (Rm l)) (λ_=>rfl) (λe=>qH e) (λn k h _ hX hn=> ?_) λn hY=> ?_
  ·rw[U7,yD h,yA (t:=.var) h]
   refine⟨zI h,zG (Ma _) (zC (λe=> ?_) λe=> ?_)⟩
   ·rw[zs2 (by simpa using e)]at hX;exact hX (by decide)
   have k1:¬yG l[k].name=false:=by simpa using e
   refine⟨by unfold Nh;simp;omega,?_⟩
   rw[show((l.take (k:Int).toNat).drop 0)=l.take k by rw[Aap,Abv]]
   refine zG (hZ (p:=λu=>u.name.toList==l[k].name.toList) IE λx _=>Fi x _) (zC (λe=> ?_) λe=> ?_)
   ·rw[zs3 k1 e]at hX;exact hX (by decide)
   rw[zs4 k1 (by rw[e];decide)]at hX hn
   refine zG (qA _ _ _) (zC (λe=> ?_) λe1=>zG (qA _ _ _) (zC (λe=> ?_) λe2=>(zC (λe=> ?_) λe3=> ?_)))
   ·rw[zs5 e]at hX;exact hX (by decide)
   ·rw[zs6 e]at hX;exact hX (by decide)
   ·rw[zs7 e]at hX;exact hX (by decide)
   rw[zs8 e1 e2 e3]at hX hn
   simp[gK]at e1 e2
   rw[qV (by omega) (by omega)]
   refine zC (λe=> ?_) λe=> ?_
   ·rw[As (BY e)]at hX;exact hX (by decide)
   ·exact hn (An (Aah e))
  ·rw[U7,zY];exact hY
theorem zox{m:zE}(h:m.vars.length=0):yY m=1:=by rw[yY,As h]
theorem zfi{m:zE}(h1:¬m.vars.length=0)(h:6<m.vars.length\/8<m.cons.length):yY m=2:=by rw[yY,An h1,As h]
theorem zoy{m:zE}(h1:¬m.vars.length=0)(h2:¬(6<m.vars.length\/8<m.cons.length))(h:Rm m.vars≠0):yY m=Rm m.vars:=by rw[yY,An h1,An h2,As h]
theorem zoz{m:zE}(h1:¬m.vars.length=0)(h2:¬(6<m.vars.length\/8<m.cons.length))(h3:¬Rm m.vars≠0)(h:wM (λ_ c=>Uz m.vars.length c) 0 m.cons≠0):yY m=wM (λ_ c=>Uz m.vars.length c) 0 m.cons:=by rw[yY,An h1,An h2,An h3,As h]
theorem zoA{m:zE}(h1:¬m.vars.length=0)(h2:¬(6<m.vars.length\/8<m.cons.length))(h3:¬Rm m.vars≠0)(h:¬wM (λ_ c=>Uz m.vars.length c) 0 m.cons≠0):yY m=XX m:=by rw[yY,An h1,An h2,An h3,An h]
theorem zkH{m:zE}(h:gK m.goal 0 2=false):XX m=7:=by rw[XX,As h]
theorem zqY{m:zE}(h1:¬gK m.goal 0 2=false)(h:m.goal=0)(h2:m.var≠0):XX m=1:=by rw[XX,An h1,As ⟨h,h2⟩]
theorem zqZ{m:zE}(h1:¬gK m.goal 0 2=false)(h:m.goal=0)(h2:¬m.var≠0):XX m=0:=by rw[XX,An h1,An (λx=>h2 x.2),An (λx=>x.1 h)]
theorem zq0{m:zE}(h1:¬gK m.goal 0 2=false)(h:¬m.goal=0)(h2:qQ m.vars.length m.var=true):XX m=5:=by rw[XX,An h1,An (λx=>h x.1),As ⟨h,h2⟩]
theorem zq1{m:zE}(h1:¬gK m.goal 0 2=false)(h:¬m.goal=0)(h2:¬qQ m.vars.length m.var=true):XX m=0:=by rw[XX,An h1,An (λx=>h x.1),An (λx=>h2 x.2)]
theorem sP(m:zE):vL vG [dM m] (dI (yY m)):=
 G2 m λok=>by
  rw[D1];refine zC (λe=> ?_) λe1=>zC (λe=> ?_) λe2=>zC (λe=> ?_) λe3=> ?_
  ·exact qH (zox (by simp at e;simp[e]))
  ·simp at e1 e;exact qH (zfi (by simp[e1]) (.inl (by omega)))
  ·simp at e1 e;exact qH (zfi (by simp[e1]) (.inr (by omega)))
  simp at e1 e2 e3
  have k1:¬m.vars.length=0:=by simp[e1]
  have k2:¬(6<m.vars.length\/8<m.cons.length):=by omega
  refine zG (AV _) (zC (λe=> ?_) λe=> ?_)
  ·exact qH (zoy k1 k2 (sN e))
  have k3:¬Rm m.vars≠0:=not_not_intro (vM e);refine zl4 (I:=λn v=>ZF m _ n v) m.cons (λ_ c=>Uz m.vars.length c) (by omega) (X:=λx=>D.int .i64 x=dI (yY m)) (Y:=D.int .i64 (XX m)=dI (yY m)) (λh=>qH (zoz k1 k2 k3 h)) (λe=>qH (zoA k1 k2 k3 (not_not_intro e))) (λn k h _ hX hn=> ?_) λn hY=> ?_
  ·rw[V5,yD h,yA (t:=.con) h]
   exact⟨zI h,zG (zdi m _ (by omega)) (zC (λe=>hX (sN e)) λe=>hn (vM e))⟩
  ·rw[V5,zY,<-hY]
   rw[qV (by omega) (by omega)]
   refine zC (λe=> ?_) λe1=>zC (λe=> ?_) λe2=> ?_
   ·rw[zkH (pI.2 (.inl (BY e)))]
   ·rw[zkH (pI.2 (.inr (BY e)))]
   have k4:¬gK m.goal 0 2=false:=by rw[pI];simp at e1 e2;omega
   refine zC (λe=>zC (λf=> ?_) λf=> ?_) λe=> ?_
   ·rw[zqY k4 (by simpa using e) (by simpa using f)]
   ·have e':m.goal=0:=by simpa using e
    rw[e'];rw[zqZ k4 e' (by simpa using f)];exact rfl
   ·have e':¬m.goal=0:=by simpa using e
    rw[e];refine zG (qA _ _ _) (zC (λf=> ?_) λf=> ?_)
    ·rw[zq0 k4 e' f]
    ·rw[zq1 k4 e' (by show¬(!gK _ _ _)=true;rw[f];decide)]
end Go.Proofs.YtdnmkinmcdihnaaGreatDoor
namespace Go.Proofs.YtdnmkinmcdihnaaGreatDoor
open Go.Proofs.Tryz
open Go.RowKit
variable[Lo]
theorem zq2{nv:Nat}{l:zA}(h:qQ nv l.var=false):eS nv l=opE l:=by rw[eS,An (by rw[h];decide)];rfl
theorem zl7{α:Type}{p:α->Bool}{l:List α}(h:l.any p=false){k:Nat}(hk:k<l.length):p l[k]=false:=by
 rw[AaF]at h
 simpa using h _ (AT hk)
end Go.Proofs.YtdnmkinmcdihnaaGreatDoor
namespace Go.Proofs.YtdnmkinmcdihnaaGreatDoor
open Go.Proofs.Tryz
open Go.RowKit
variable[Lo]
variable {w:World}{S:Nat->Prop}{v:Value}
theorem zq3{t:Ty}{x:t.den}(hn:(cells t x).length≠1)(h:fE w S v x):Rp w S v (.agg (cells t x)):=by
 obtain⟨cs,rfl,h⟩:=h;have a1:=(cO t h).len;have a2:=λi d hd=>(cO t h).at (i:=i) (b:=d) hd
 have e:vOf cs=.agg cs.toArray:=by
  match cs,a1 with
  |[],_=>rfl
  |[u],a1=>exact At a1.symm hn
  |a::b::l,_=>rfl
 rw[e];refine .agg _ _ (by simpa using a1) λi d hd=> ?_
 obtain⟨u,hu,hr⟩:=a2 i d hd;have:cs.toArray.getD i Go.undef=u:=by simp[Aaj,hu]
 rw[this];exact hr
theorem zq4{m:zE}(h:Rds w v m):Rp w (λb=>b<w.heap.size) v (dM m):=zq3 (t:=.mdl) (x:=m) (by show 4≠1;decide) h
theorem zq5{n:Int}(h:xE n):Rp w S (.int .i64 n) (.int .i64 n):=.int .i64 n h
theorem zq6{s:AcL}(h:s.size<=140737488355328):Rp w S (.string s) (.str s):=.str s h
theorem zq7{P:AcO}{w:World}(h:Lib.TabIs P w "internal/strconv.uint64pow10" .u64 Lib.pow10Tab)(hl:∀b,w.heap.size<=b->Lo.new b):Ee P w λ_=>False:=⟨λg hg=>⟨h,id⟩,hl,λ_ h=>h.elim⟩
theorem oT.calls{P:AcO}{f:AcM}{args:AcT}{b:Bool}(h:oT P f args (.bool b))(W:World){vl:List Value}(hv:xK (Rp W λb=>b<W.heap.size) vl args)(hg:Ee P W λ_=>False):
  Calls P f vl.toArray W λe W'=>e=.returned (.bool b)/\Below W.heap.size W W':=by
 have h1:=hv.len;have h2:=λi d hd=>hv.at (i:=i) (b:=d) hd
 refine(h W _ vl.toArray (λ_ h=>h) (by simpa using h1) (λi d hd=> ?_) hg).mono λe w' ⟨v,he,hr,hb⟩=> ?_
 ·obtain⟨u,hu,hr⟩:=h2 i d hd
  have:vl.toArray.getD i Go.undef=u:=by simp[Aaj,hu]
  rw[this];exact hr
 ·cases hr
  exact⟨he,hb⟩
end Go.Proofs.YtdnmkinmcdihnaaGreatDoor
namespace Go.Proofs.YtdnmkinmcdihnaaGreatDoor
open Go.Proofs.Tryz
open Go.RowKit
set_option maxRecDepth 100000
variable[Lo]
def ZJ:xF:= {own:=[],live:=[],n:=51}
theorem Tb(R:xI):FD ZJ Tryz.f4 [] R=
 (yJ wF [] .mdl λa=>
 c2Q cS [dM a,dI 0,.sl .int ([0,1])] .bool .int λb c=>
 yJ wF [] .mdl λd=>
 c2Q Xs [dM d,.sl .int ([2,1])] .bool .int λe f=>
 yJ wF [] .mdl λg=>
 c2Q ot [dM g,dI 0] (.list .int) .int λh i=>
 yJ wF [] .mdl λj=>
 yJ vG [dM j] .int λk=>
 zT (decide (k=0))
 (zT (decide (c=0))
 (zT (decide (f=0))
 (zT (decide (i=0))
 (zT b
 (zT (!e)
 (yJ vF [.sl .int h,.sl .int ([0,1])] .bool λl=>
 R (dB l))
 (R (dB false)))
 (R (dB false)))
 (R (dB false)))
 (R (dB false)))
 (R (dB false)))
 (R (dB false))):=by kernel_rfl
theorem UB:wU ZJ Tryz.f4 nI []:=wX func4 (by kernel_rfl) ntmps4 rfl
def Yh:xF:= {own:=[3],live:=[],n:=32}
theorem So(R:xI):FD Yh Tryz.f5 [] R=
 (yJ wF [] .mdl λb=>
 c2Q X9 [dM b] .str .int λa c=>
 c3Q jU [.str a] .mdl .int .int λd h e=>
 zT (decide (c=0))
 (zT (decide (e=0))
 (zT (decide (a=(⟨#[118,97,114,32,120,58,32,48,46,46,50,59,10,118,97,114,32,121,58,32,48,46,46,50,59,10,99,111,110,32,108,101,32,91,49,44,32,45,49,93,32,91,120,44,32,121,93,32,45,49,59,10,115,111,108,118,101,32,108,101,97,115,116,32,121,59,10]⟩:AcL)))
 (yJ wF [] .mdl λf=>
 yJ rM [dM d,dM f] .bool λg=>
 R (dB g))
 (R (dB false)))
 (R (dB false)))
 (R (dB false))):=by kernel_rfl
theorem Tc:wU Yh Tryz.f5 mS []:=wX func5 (by kernel_rfl) ntmps5 rfl
def aT:xF:= {own:=[1],live:=[],n:=45}
theorem UC(R:xI):FD aT f6 [] R=
 (yJ wF [] .mdl λb=>
 c2Q qW [dM b,dI 9] .ans .int λa c=>
 yJ wF [] .mdl λd=>
 c3Q nX [dM d] (.list (.list .int)) .bool .int λe f g=>
 zT (decide (c=0))
 (zT (decide (g=0))
 (zT (decide (a.verdict=1))
 (zT (decide ((a.values.length:Int)=2))
 (zT f
 (yJ tO [dS e,dS ([[0,1],[0,2],[1,2]])] .bool λh=>
 R (dB h))
 (R (dB false)))
 (R (dB false)))
 (R (dB false)))
 (R (dB false)))
 (R (dB false))):=by kernel_rfl
theorem VG:wU aT f6 oV []:=wX func6 (by kernel_rfl) ntmps6 rfl
def Yi:xF:= {own:=[3],live:=[],n:=45}
theorem Sp(R:xI):FD Yi f7 [] R=
 (yJ wF [] .mdl λb=>
 c2Q cT [dM b,.sl .int ([0,2])] (.list .lit) .int λc d=>
 yJ wF [] .mdl λe=>
 c2Q fR [dM e,dI 20] .ans .int λa f=>
 zT (decide (d=0))
 (zT (decide (f=0))
 (yJ sW [.sl .lit c,.sl .lit ([(⟨1,1,1⟩:zA)])] .bool λg=>
 zT g
 (zT (decide (a.verdict=1))
 (yJ vF [.sl .int a.values,.sl .int ([0,1])] .bool λh=>
 zT h
 (R (dB (decide (0<(a.proof.length:Int)))))
 (R (dB false)))
 (R (dB false)))
 (R (dB false)))
 (R (dB false)))
 (R (dB false))):=by kernel_rfl
theorem Td:wU Yi f7 mT []:=wX func7 (by kernel_rfl) ntmps7 rfl
def ZK:xF:= {own:=[],live:=[],n:=74}
theorem Te(R:xI):FD ZK f8 [] R=
 (yJ wF [] .mdl λa=>
 c2Q Xt [dM a,dI 0,.sl .lit ([(⟨0,1,1⟩:zA)])] .bool .int λb c=>
 yJ wF [] .mdl λd=>
 c2Q Zv [dM d,.sl (.list .lit) ([[(⟨0,1,1⟩:zA)]]),.sl .lit ([(⟨0,4,2⟩:zA)])] .bool .int λe f=>
 yJ wF [] .mdl λg=>
 c2Q ou [dM g,.sl (.list .lit) ([]:AcS),.sl .step ([(⟨1,0,[(⟨0,1,1⟩:zA)]⟩:zR)])] .bool .int λh i=>
 yJ wF [] .mdl λj=>
 c2Q ou [dM j,.sl (.list .lit) ([[(⟨0,2,2⟩:zA)]]),.sl .step ([(⟨1,0,[(⟨0,1,1⟩:zA)]⟩:zR),(⟨2,0,([]:AcR)⟩:zR)])] .bool .int λk l=>
 zT (decide (c=0))
 (zT (decide (f=0))
 (zT (decide (i=0))
 (zT (decide (l=0))
 (zT b
 (zT e
 (zT (!h)
 (R (dB k))
 (R (dB false)))
 (R (dB false)))
 (R (dB false)))
 (R (dB false)))
 (R (dB false)))
 (R (dB false)))
 (R (dB false))):=by kernel_rfl
theorem UD:wU ZK f8 nJ []:=wX func8 (by kernel_rfl) ntmps8 rfl
def Rv:xF:= {own:=[0],live:=[],n:=9}
theorem Tf(R:xI):FD Rv f21 [] R=
 (R (.agg [.sl .var ([(⟨(⟨#[120]⟩:AcL),0,2⟩:zO),(⟨(⟨#[121]⟩:AcL),0,2⟩:zO)]),.sl .con ([(⟨1,[0,1],[1,-1],-1,([]:AcQ),([]:AcR)⟩:zF)]),dI 1,dI 1])):=by kernel_rfl
theorem Ua:wU Rv f21 wF []:=wX func21 (by kernel_rfl) ntmps21 rfl
end Go.Proofs.YtdnmkinmcdihnaaGreatDoor
namespace Go.Proofs.YtdnmkinmcdihnaaGreatDoor
open Go.Proofs.Tryz
open Go.RowKit
set_option maxRecDepth 100000
variable[Lo]
def Gr:xF:= {own:=[],live:=[],n:=35}
theorem zdj(b:zE)(a:zA)(R:xI):FD Gr f107 [dM b,dL a] R=
 (zT (decide (a.var<0))
 (R (dI 5))
 (zT (decide ((b.vars.length:Int)<=a.var))
 (R (dI 5))
 (zT (decide (a.op<1))
 (R (dI 7))
 (zT (decide (4<a.op))
 (R (dI 7))
 (zT (decide (a.n<(-1000)))
 (R (dI 3))
 (zT (decide (1000<a.n))
 (R (dI 3))
 (R (dI 0)))))))):=by kernel_rfl
theorem AW(a:zE)(b:zA):wU Gr f107 V3 [dM a,dL b]:=wX func107 (by kernel_rfl) ntmps107 rfl
def QY:xF:= {own:=[2],live:=[],n:=33}
theorem Fj(a:zA)(R:xI):FD QY f117 [dL a] R=
 (zT (decide (a.op=1))
 (R (.agg [dI a.var,dI 2,dI (yU (a.n+1))]))
 (zT (decide (a.op=2))
 (R (.agg [dI a.var,dI 1,dI (yU (a.n-1))]))
 (zT (decide (a.op=3))
 (R (.agg [dI a.var,dI 4,dI a.n]))
 (R (.agg [dI a.var,dI 3,dI a.n]))))):=by kernel_rfl
theorem IH(a:zA):wU QY f117 kR [dL a]:=wX func117 (by kernel_rfl) ntmps117 rfl
def zbe:xF:= {own:=[],live:=[],n:=8}
theorem zhq(b:AcQ)(a:zA)(R:xI):FD zbe Tryz.f166 [dS b,dL a] R=
 (yJ xP [dS b,.clo Xu none [.iptr [dI a.var,dI a.op,dI a.n] 0]] (.list (.list .int)) λc=>
 R (dS c)):=by kernel_rfl
theorem zfj(a:AcQ)(b:zA):wU zbe Tryz.f166 aQ [dS a,dL b]:=wX func166 (by kernel_rfl) ntmps166 rfl
def Sq:xF:= {own:=[],live:=[(0,([0,3,5,12,13,14],[]))],n:=35}
def Xz(b:AcQ)(a:zA)(R:xI)(c:Nat)(d e:Int):Prop:=LP Sq Tryz.f169 [1,1,0,1,0,0] 0 c ⟨[(0,dS b),(3,.iptr [dI a.var,dI a.op,dI a.n] 0),(5,dI d),(12,.sl .int (zJ (.list .int) b a.var.toNat)),(13,dI ((zJ (.list .int) b a.var.toNat).length:Int)),(14,dI e)],[]⟩ (zP 0 (sK Sq Tryz.f169 [1,1,1] 0 (eK Tryz.f169 R)))
theorem Ch(b:AcQ)(a:zA)(R:xI)(e:Nat)(d c:Int):Xz b a R (e+1) d c=
 (zT (decide (c<((zJ (.list .int) b a.var.toNat).length:Int)))
 (wW c (zJ (.list .int) b a.var.toNat).length=true/\
 yJ jG [dL a,dI (zJ .int (zJ (.list .int) b a.var.toNat) c.toNat)] .bool λf=>
 zT f
 (Xz b a R e (yU (d+1)) (yU (c+1)))
 (Xz b a R e d (yU (c+1))))
 (zT (decide (d=0))
 (R (dI (-1)))
 (wW a.var b.length=true/\
 zT (decide (d=((zJ (.list .int) b a.var.toNat).length:Int)))
 (R (dI 1))
 (R (dI 0))))):=by kernel_rfl
theorem zfk(a:AcQ)(b:zA)(R:xI):FD Sq Tryz.f169 [dS a,dL b] R=
 (wW b.var a.length=true/\
 ∃n0,Xz a b R n0 0 0):=by kernel_rfl
theorem zdk(a:AcQ)(b:zA):wU Sq Tryz.f169 Yw [dS a,dL b]:=wX func169 (by kernel_rfl) ntmps169 rfl
def Gs:xF:= {own:=[],live:=[],n:=15}
theorem zdl(b c:Int)(a:zA)(R:xI):FD Gs Tryz.f217 [dI b,dI c,.iptr [dI a.var,dI a.op,dI a.n] 0] R=
 (zT (!decide (b=a.var))
 (R (dB true))
 (yJ jG [dL a,dI c] .bool λd=>
 R (dB d))):=by kernel_rfl
theorem AX(b c:Int)(a:zA):wU Gs Tryz.f217 Xu [dI b,dI c,.iptr [dI a.var,dI a.op,dI a.n] 0]:=wX func217 (by kernel_rfl) ntmps217 rfl
end Go.Proofs.YtdnmkinmcdihnaaGreatDoor
namespace Go.Proofs.YtdnmkinmcdihnaaGreatDoor
open Go.Proofs.Tryz
open Go.RowKit
variable[Lo]
def Aq(lo:Int):Nat->AcP
 |0=>[]
 |n+1=>Aq lo n++[lo+n]
theorem YB(lo:Int):∀n,(Aq lo n).length=n
 |0=>rfl
 |n+1=>by rw[Aq,It,YB lo n];rfl
def XA(v:zO):AcP:=Aq v.lo (v.hi+1-v.lo).toNat
def xY(m:zE):AcQ:=m.vars.map XA
def mE(l:AcP)(n:Int):Bool:=l.any λk=>decide (n=k)
def rI(f:Nat->Int->Bool)(s:AcQ):AcQ:=s.mapIdx λv l=>l.filter (f v)
def zs9(v:zO)(n:Int):Bool:=decide (n<v.lo)||decide (v.hi<n)
def zq8(m:zE)(s:AcQ):Bool:=(s.zip m.vars).any λx=>x.1.any (zs9 x.2)
def disL(l:AcP):Bool:=(l.zip l.tail).any λx=>decide (x.2<=x.1)
def gZ(m:zE)(s:AcQ):Int:=
 if s.length≠m.vars.length then 1 else if zq8 m s=true then 3 else if s.any disL=true then 4 else 0
def zZ(s:AcQ):Bool:=s.any λl=>decide (l.length=0)
def Y7(s:AcQ):Prop:=okL 24 (okL 8 xE) s
theorem YC{s:AcQ}(h:Y7 s):s.length<=5864062014805:=by have:=h.1;omega
theorem II{s:AcQ}(h:Y7 s){k:Nat}(hk:k<s.length):s[k].length<=17592186044416:=by have:=(h.2 _ (AT hk)).1;omega
theorem Ci{lo:Int}{k:Int}(h:lo<=k):Aq lo (k+1-lo).toNat=Aq lo (k-lo).toNat++[k]:=by
 obtain⟨d,rfl⟩:∃d:Nat,k=lo+d:=⟨(k-lo).toNat,by omega⟩
 rw[show(lo+(d:Int)+1-lo).toNat=d+1 by omega,show(lo+(d:Int)-lo).toNat=d by omega];rfl
theorem AY{m:zE}(hm:∀v∈m.vars,-50<=v.lo/\v.hi<=50)(hl:m.vars.length<=6):vL tS [dM m] (dS (xY m)):=
 DW m λok=>by
  rw[AG];refine up (I:=λn v a=>YX m _ n v a) 0 m.vars.length rfl (Is _) (by omega) (λk a=>a=(m.vars.take k).map XA) rfl λn k a _ hk ha hn=> ?_
  subst ha;rw[Ih]
  by_cases h:k<m.vars.length
  ·rw[yD h,yA (t:=.var) h]
   have hv:=hm _ (AT h);refine⟨zI h,?_⟩;refine upto (I:=λn v a=>YW m _ _ (k:Int) n v _ a) (m.vars[k]).lo (m.vars[k]).hi (by omega) (by omega) (λj a=>a=Aq (m.vars[k]).lo (j-(m.vars[k]).lo).toNat/\j<=max (m.vars[k]).lo ((m.vars[k]).hi+1)) ⟨by rw[Int.sub_self];rfl,by omega⟩ λn2 j a hj hi hn2=> ?_
   obtain⟨rfl,hjm⟩:=hi;rw[Ig,yA (t:=.var) h];refine zC (λe=> ?_) λe=> ?_
   ·have e:=BY e
    refine⟨xC (t:=.int) ?_,hn2 e _ ⟨(Ci hj).symm,by omega⟩⟩
    rw[YB];show(_+1)*8<=_
    omega
   ·have e:=Aah e
    have el:Aq (m.vars[k]).lo (j-(m.vars[k]).lo).toNat=XA m.vars[k]:=by
     rw[XA]
     by_cases hlh:(m.vars[k]).lo<=(m.vars[k]).hi+1
     ·rw[show j=(m.vars[k]).hi+1 by omega]
     ·rw[show j=(m.vars[k]).lo by omega,show((m.vars[k]).lo-(m.vars[k]).lo).toNat=0 by omega,show((m.vars[k]).hi+1-(m.vars[k]).lo).toNat=0 by omega]
    rw[el];refine⟨xC (t:=.list .int) ?_,hn h _ (cR XA h).symm⟩;rw[Aae,Aak];show(_+1)*24<=_
    omega
  ·have hk':k=m.vars.length:=by omega
   subst hk';rw[zY,Aam];rfl
theorem gM{s:AcQ}{g:AcM}{rs:Option Ac2}{cap:AcT}{f:Nat->Int->Bool}(he:fV g)
  (hf:∀(v:Nat) (h:v<s.length),∀n∈s[v],vL g (dI v::dI n::cap) (dB (f v n))):vL xP [dS s,.clo g rs cap] (dS (rI f s)):=
 oT.clo (pre:=[_]) (DY s g cap λok=>by
  have hs:Y7 s:=fk (Qm ok);have hsl:=YC hs;rw[AH];refine up (I:=λn v a=>YY s g cap _ n v a) 0 s.length rfl (Is _) (by omega) (λk a=>a=(s.take k).mapIdx λv l=>l.filter (f v)) rfl λn k a _ hk ha hn=> ?_
  subst ha;rw[Ij]
  by_cases h:k<s.length
  ·rw[yD h]
   have hr:=II hs h;refine⟨zI h,?_⟩;refine up (I:=λn v a=>cX s g cap _ _ (k:Int) n v _ a) 0 s[k].length rfl (Is _) (by omega) (λj a=>a=(s[k].take j).filter (f k)) rfl λn2 j a _ hj hi hn2=> ?_
   subst hi;rw[Ii,yA (t:=.list .int) h]
   by_cases hj':j<s[k].length
   ·rw[yD hj',yA (t:=.int) hj']
    refine⟨zI hj',he,zG (hf k h _ (AT hj')) (zC (λe=>⟨xC (t:=.int) ?_,hn2 hj' _ ?_⟩) λe=>hn2 hj' _ ?_)⟩
    ·have:=Abw (f k) (s[k].take j)
     rw[Aak]at this
     show(_+1)*8<=_
     omega
    ·rw[fQ _ hj',As e]
    ·rw[fQ _ hj',An (by rw[e];exact Bool.false_ne_true)]
   ·have hj2:j=s[k].length:=by omega
    subst hj2;rw[zY,Aam];refine⟨xC (t:=.list .int) ?_,hn h _ (DV _ h).symm⟩;rw[AbC,Aak];show(_+1)*24<=_
    omega
  ·have hk':k=s.length:=by omega
   subst hk';rw[zY,Aam];rfl)
end Go.Proofs.YtdnmkinmcdihnaaGreatDoor
namespace Go.Proofs.YtdnmkinmcdihnaaGreatDoor
open Go.Proofs.Tryz
open Go.RowKit
variable[Lo]
theorem aE{α:Type}{f:Nat->α->Int}{xs:List α}(h:wM f 0 xs=0){j:Nat}(hj:j<xs.length):f j xs[j]=0:=by
 have:=QF xs 0 h j hj
 rwa[Aat]at this
structure Right (m:zE):Prop where
 vars:m.vars.length<=6
 some:m.vars.length≠0
 cons:m.cons.length<=8
 var:∀v∈m.vars,-50<=v.lo/\v.hi<=50/\v.lo<=v.hi/\v.hi-v.lo<6
 con:∀c∈m.cons,Uz m.vars.length c=0
 goal:XX m=0
theorem mM{m:zE}(h:yY m=0):Right m:=by
 unfold yY at h
 split at h
 ·exact At h (by decide)
 rename_i h1;split at h
 ·exact At h (by decide)
 rename_i h2;split at h
 ·rename_i h3;exact At h h3
 rename_i h3;split at h
 ·rename_i h4;exact At h h4
 rename_i h4;have h3:=Decidable.not_not.1 h3;have h4:=Decidable.not_not.1 h4;refine⟨by omega,h1,by omega,λv hv=> ?_,λc hc=> ?_,h⟩
 ·obtain⟨i,hi,rfl⟩:=Aas hv
  have e:=aE h3 hi;unfold AB at e
  split at e
  ·exact At e (by decide)
  split at e
  ·exact At e (by decide)
  split at e
  ·exact At e (by decide)
  split at e
  ·exact At e (by decide)
  rename_i h5 h6;simp[gK]at h5
  omega
 ·obtain⟨i,hi,rfl⟩:=Aas hc
  exact aE h4 hi
theorem zoB{m:zE}{s:AcQ}(h1:¬s.length≠m.vars.length)(h2:¬zq8 m s=true)(h:¬s.any disL=true):gZ m s=0:=by rw[gZ,An h1,An h2,An h]
theorem Cj{m:zE}{s:AcQ}(h:gZ m s=0):s.length=m.vars.length:=by
 unfold gZ at h
 split at h
 ·exact At h (by decide)
 ·omega
end Go.Proofs.YtdnmkinmcdihnaaGreatDoor
namespace Go.Proofs.YtdnmkinmcdihnaaGreatDoor
open Go.Proofs.Tryz
open Go.RowKit
variable[Lo]
def XR(m:zE)(ss:List AcQ):Int:=if yY m≠0 then yY m else wM (λ_ s=>gZ m s) 0 ss
theorem zoC{m:zE}{ss:List AcQ}(h:yY m≠0):XR m ss=yY m:=As h
theorem zfl{m:zE}{ss:List AcQ}(h:¬yY m≠0):XR m ss=wM (λ_ s=>gZ m s) 0 ss:=An h
theorem Ck{α:Type}{f:Nat->α->Int}{a:α}{i:Nat}:wM f i [a]=f i a:=by
 unfold wM;split
 ·rename_i h;rw[h];rfl
 ·rfl
theorem Right.lohi{m:zE}(h:Right m):∀v∈m.vars,-50<=v.lo/\v.hi<=50:=λv hv=>by have:=h.var v hv;omega
def orS(e:Int)(s:AcQ):AcQ:=if e=0 then s else[]
def orB(e:Int)(b:Bool):Bool:=if e=0 then b else false
theorem yO{α:Type}{t:List α}{k:Nat}(d:α)(h:k<t.length):t.getD k d=t[k]:=by rw[Aar,Aal h];rfl
theorem zuH{l:AcP}:decide ((l.length:Int)=0)=decide (l.length=0):=decide_eq_decide.2 (by omega)
theorem IJ(l:AcP):vL bP [.sl .int l] (dB (decide (l.length=0))):=
 L5 l λok=>by rw[Il,zuH]
theorem xB(s:AcQ):vL zV [dS s] (dB (zZ s)):=
 GY s λok=>by rw[DX];exact zG (dF Kb λx _=>IJ x) rfl
theorem gA{α:Type}[DecidableEq α]:∀(a b:List α),a.length=b.length->((a.zip b).any λx=> !decide (x.1=x.2))= !decide (a=b)
 |[],[],_=>rfl
 |[],_::_,h=>by simp at h
 |_::_,[],h=>by simp at h
 |x::a,y::b,h=>by
  rw[Aca,Abb,gA a b (by simpa using h)]
  by_cases h1:x=y<;>by_cases h2:a=b<;>simp[h1,h2]
theorem tQ(a b:AcP):vL vF [.sl .int a,.sl .int b] (dB (decide (a=b))):=
 Sm a b λok=>by
  have hl:a.length<=9223372036854775807:=dW (t:=.int) (Qm ok);rw[RR];refine zC (λe=> ?_) λe=> ?_
  ·rw[Aao (p:=a=b) λh=>by subst h;simp at e]
  have e:a.length=b.length:=by simp at e;omega
  have hz:(a.zip b).length=a.length:=by rw[AaA];omega
  refine zc4 (I:=λn v=>mU a b _ n v) (a.zip b) (λx=> !decide (x.1=x.2)) (by omega) (X:=dB false=dB (decide (a=b))) (Y:=dB true=dB (decide (a=b))) (by rw[gA a b e];cases decide (a=b)<;>rfl) (λn k h hX hn=> ?_) λn hY=> ?_
  ·have hk:k<a.length:=by omega
   rw[AaL]at hX hn
   rw[bB,yD hk,yA (t:=.int) hk,yA (t:=.int) (show k<b.length by omega)]
   exact⟨zI hk,zI (by omega),zC hX hn⟩
  ·rw[hz,bB,zY];exact hY
end Go.Proofs.YtdnmkinmcdihnaaGreatDoor
namespace Go.Proofs.YtdnmkinmcdihnaaGreatDoor
open Go.Proofs.Tryz
open Go.RowKit
variable[Lo]
def vO:zE:=⟨[⟨⟨#[120]⟩,0,2⟩,⟨⟨#[121]⟩,0,2⟩],[⟨1,[0,1],[1,-1],-1,[],[]⟩],1,1⟩
theorem vU:vL wF [] (Yn .mdl vO):=
 Ua λok=>by rw[Tf];exact rfl
def isS(a:AcQ)(e1 e2:Int)(b:AcQ):Bool:=decide (e1=e2)&&decide (a=orS e2 b)
theorem zfm{m:zE}{ss:List AcQ}(h:XR m ss=0):yY m=0:=by
 by_cases h1:yY m=0
 ·exact h1
 ·rw[zoC h1]at h;exact At h h1
theorem dt{p:Prop}[Decidable p]{X Y:Prop}(h:p)(hx:X):zT (decide p) X Y:=by rw[Aaf h];exact hx
theorem df{p:Prop}[Decidable p]{X Y:Prop}(h:¬p)(hy:Y):zT (decide p) X Y:=by rw[Aao h];exact hy
theorem dnt{p:Prop}[Decidable p]{X Y:Prop}(h:¬p)(hx:X):zT (!decide p) X Y:=by rw[Aao h];exact hx
theorem dnf{p:Prop}[Decidable p]{X Y:Prop}(h:p)(hy:Y):zT (!decide p) X Y:=by rw[Aaf h];exact hy
theorem zdm{b:Bool}{e:Int}(h:e=0):orB e b=b:=As h
theorem zdn{b:Bool}{e:Int}(h:e≠0):orB e b=false:=An h
end Go.Proofs.YtdnmkinmcdihnaaGreatDoor
namespace Go.Proofs.YtdnmkinmcdihnaaGreatDoor
open Go.Proofs.Tryz
open Go.RowKit
variable[Lo]
theorem pE{l:AcP}{n:Int}:mE l n=true↔n∈l:=by
 rw[mE,AaI];exact⟨λ⟨k,hk,e⟩=>by rw[BY e];exact hk,λh=>⟨n,h,Aaf rfl⟩⟩
theorem uZ{f:Nat->Int->Bool}{s:AcQ}{v:Nat}:(rI f s).getD v []=(s.getD v []).filter (f v):=by
 rw[rI,Aar,Aar,List.getElem?_mapIdx];cases s[v]? <;>rfl
theorem sC{f:Nat->Int->Bool}{s:AcQ}:(rI f s).length=s.length:=AbC
theorem zl8{a b:Int}{l:AcP}:disL (a::b::l)=(decide (b<=a)||disL (b::l)):=rfl
theorem zhr:∀ {l:AcP},disL l=false↔l.Pairwise (·<·)
 |[]=>by simp[disL]
 |[a]=>by simp[disL]
 |a::b::l=>by
  rw[zl8,AbG,zhr,Acx (a:=a) (l:=b::l)];constructor
  ·rintro⟨h1,h2⟩
   have h1:=Aah h1;refine⟨λx hx=> ?_,h2⟩
   rcases Aad.1 hx with rfl|hx
   ·omega
   ·have:=(Acx.1 h2).1 x hx;omega
  ·rintro⟨h1,h2⟩
   exact⟨Aao (by have:=h1 b (Aaa ..);omega),h2⟩
theorem Ub{m:zE}{s:AcQ}:gZ m s=0↔s.length=m.vars.length/\(∀v,∀n∈s.getD v [],(m.vars.getD v ⟨⟨#[]⟩,0,0⟩).lo<=n/\n<=(m.vars.getD v ⟨⟨#[]⟩,0,0⟩).hi)/\∀l∈s,l.Pairwise (·<·):=by
 constructor
 ·intro h
  have hl:=Cj h;unfold gZ at h
  rw[An (not_not_intro hl)]at h
  split at h
  ·exact At h (by decide)
  rename_i h1;split at h
  ·exact At h (by decide)
  rename_i h2;refine⟨hl,λv n hn=> ?_,λl hl=>zhr.1 ?_⟩
  ·by_cases hv:v<s.length
   ·have hz:v<(s.zip m.vars).length:=by rw[AaA];omega
    rw[yO _ hv]at hn
    rw[yO _ (show v<m.vars.length by omega)]
    rw[Abo,zq8,AaF]at h1
    have:=h1 _ (AT hz);rw[AaL,Abo,AaF]at this
    have:=this n hn;simp[zs9]at this
    omega
   ·rw[Aar,Abz (by omega)]at hn
    simp at hn
  ·rw[Abo,AaF]at h2
   simpa using h2 l hl
 ·rintro⟨hl,h1,h2⟩
  refine zoB (not_not_intro hl) ?_ ?_
  ·rw[zq8,AaI]
   rintro⟨x,hx,hp⟩;obtain⟨i,hi,rfl⟩:=Aas hx;rw[AaA]at hi
   rw[AaL,AaI]at hp
   obtain⟨n,hn,e⟩:=hp;have:=h1 i n (by rw[yO _ (by omega)];exact hn)
   rw[yO _ (show i<m.vars.length by omega)]at this
   simp[zs9]at e
   omega
  ·rw[AaI]
   rintro⟨l,hl,e⟩;rw[zhr.2 (h2 l hl)]at e
   exact At e (by decide)
theorem bt{b:Bool}{X Y:Prop}(h:b=true)(hx:X):zT b X Y:=by rw[h];exact hx
theorem bnf{b:Bool}{X Y:Prop}(h:b=true)(hy:Y):zT (!b) X Y:=by rw[h];exact hy
theorem bf{b:Bool}{X Y:Prop}(h:b=false)(hy:Y):zT b X Y:=by rw[h];exact hy
theorem bnt{b:Bool}{X Y:Prop}(h:b=false)(hx:X):zT (!b) X Y:=by rw[h];exact hx
end Go.Proofs.YtdnmkinmcdihnaaGreatDoor
namespace Go.Proofs.YtdnmkinmcdihnaaGreatDoor
open Go.Proofs.Tryz
open Go.RowKit
variable[Lo]
def holdsL(l:zA)(n:Int):Bool:=if l.op=1 then decide (n<=l.n)else if l.op=2 then decide (l.n<=n)else if l.op=3 then decide (n=l.n)else !decide (n=l.n)
theorem ZL(l:zA)(n:Int):vL jG [dL l,dI n] (dB (holdsL l n)):=
 AP l n λok=>by
  rw[zdc];refine zC (λe1=> ?_) λe1=>zC (λe2=> ?_) λe2=>zC (λe3=> ?_) λe3=> ?_<;>simp at* <;>simp[holdsL, *]
theorem zhs{nv:Nat}{l:zA}(h:qQ nv l.var=true):eS nv l=5:=As h
theorem zht{nv:Nat}{l:zA}(h1:¬qQ nv l.var=true)(h:gK l.op 1 4=false):eS nv l=7:=by rw[eS,An h1,As h]
theorem zhu{nv:Nat}{l:zA}(h1:¬qQ nv l.var=true)(h2:¬gK l.op 1 4=false)(h:farB l.n=true):eS nv l=3:=by rw[eS,An h1,An h2,As h]
theorem zoD{nv:Nat}{l:zA}(h1:¬qQ nv l.var=true)(h2:¬gK l.op 1 4=false)(h:¬farB l.n=true):eS nv l=0:=by rw[eS,An h1,An h2,An h]
theorem kV{nv:Nat}{l:zA}:eS nv l=0↔(0<=l.var/\l.var<nv)/\(1<=l.op/\l.op<=4)/\-1000<=l.n/\l.n<=1000:=by
 by_cases h1:qQ nv l.var=true
 ·rw[zhs h1]
  simp[qQ,gK]at h1
  exact⟨λh=>At h (by decide),λh=>by omega⟩
 by_cases h2:gK l.op 1 4=false
 ·rw[zht h1 h2]
  rw[pI]at h2
  exact⟨λh=>At h (by decide),λh=>by omega⟩
 by_cases h3:farB l.n=true
 ·rw[zhu h1 h2 h3]
  simp[farB,gK]at h3
  exact⟨λh=>At h (by decide),λh=>by omega⟩
 ·rw[zoD h1 h2 h3]
  simp[qQ,farB,gK]at h1 h2 h3
  exact⟨λ_=>by omega,λ_=>rfl⟩
theorem zdo(m:zE)(l:zA):vL V3 [dM m,dL l] (dI (eS m.vars.length l)):=
 AW m l λok=>by
  rw[zdj];refine zC (λe=> ?_) λe1=>zC (λe=> ?_) λe2=> ?_
  ·exact qH (zhs (by simp at e;simp[qQ,gK];omega))
  ·exact qH (zhs (by simp at e;simp[qQ,gK];omega))
  have h1:¬qQ m.vars.length l.var=true:=by simp at e1 e2;simp[qQ,gK];omega
  refine zC (λe=> ?_) λe1=>zC (λe=> ?_) λe2=> ?_
  ·exact qH (zht h1 (pI.2 (.inl (BY e))))
  ·exact qH (zht h1 (pI.2 (.inr (BY e))))
  have h2:¬gK l.op 1 4=false:=by rw[pI];simp at e1 e2;omega
  refine zC (λe=> ?_) λe1=>zC (λe=> ?_) λe2=> ?_
  ·exact qH (zhu h1 h2 (by simp at e;simp[farB,gK];omega))
  ·exact qH (zhu h1 h2 (by simp at e;simp[farB,gK];omega))
  ·exact qH (zoD h1 h2 (by simp at e1 e2;simp[farB,gK];omega))
def gB(l:zA):zA:=if l.op=1 then⟨l.var,2,l.n+1⟩else if l.op=2 then⟨l.var,1,l.n-1⟩else if l.op=3 then⟨l.var,4,l.n⟩else⟨l.var,3,l.n⟩
theorem Rw(l:zA)(h: -1000000<=l.n/\l.n<=1000000):vL kR [dL l] (Yn .lit (gB l)):=
 IH l λok=>by
  rw[Fj,qV (by omega) (by omega),qV (by omega) (by omega)]
  refine zC (λe1=> ?_) λe1=>zC (λe2=> ?_) λe2=>zC (λe3=> ?_) λe3=> ?_<;>simp at e1
  ·simp only[gB,e1,if_true];rfl
  all_goals simp at e2
  ·simp only[gB,e1,e2,if_true,if_false];rfl
  all_goals simp at e3
  ·simp only[gB,e1,e2,e3,if_true,if_false];rfl
  ·simp only[gB,e1,e2,e3,if_true,if_false];rfl
def zbf(l:zA)(r:AcP):Int:=if r.any (holdsL l)=false then -1 else if r.all (holdsL l)=true then 1 else 0
def Uc(s:AcQ)(l:zA):Int:=zbf l (s.getD l.var.toNat [])
def AZ(s:AcQ)(l:zA):AcQ:=rI (λv n=> !decide ((v:Int)=l.var)||holdsL l n) s
theorem MU{α:Type}{p:α->Bool}{r:List α}:(r.filter p).length=0↔r.any p=false:=by
 rw[AaX,List.filter_eq_nil_iff,AaF]
theorem Cl{α:Type}{p:α->Bool}{r:List α}:(r.filter p).length=r.length↔r.all p=true:=by
 rw[List.length_filter_eq_length_iff,Aav]
theorem Gt{s:AcQ}{l:zA}(h:0<=l.var/\l.var<s.length):vL Yw [dS s,dL l] (dI (Uc s l)):=
 zdk s l λok=>by
  have hs:Y7 s:=fk (Qm ok);rw[zfk];obtain⟨v,hv⟩:∃v:Nat,l.var=v:=⟨l.var.toNat,by omega⟩
  have hvl:v<s.length:=by omega
  have hr:=II hs hvl;have ht:Uc s l=zbf l s[v]:=by rw[Uc,hv,Aap,yO _ hvl]
  refine⟨by rw[hv];exact zI hvl,?_⟩
  refine up (I:=λn v a=>Xz s l _ n a v) 0 s[v].length rfl (Is _) (by omega) (λk a=>a=(((s[v].take k).filter (holdsL l)).length:Int)) rfl λn k a _ hk ha hn=> ?_
  subst ha;rw[Ch,hv,yA (t:=.list .int) hvl];have hf:=Abw (holdsL l) (s[v].take k);rw[Aak]at hf
  by_cases h:k<s[v].length
  ·rw[yD h,yA (t:=.int) h]
   refine⟨zI h,?_⟩;refine zG (ZL l s[v][k]) (zC (λe=>hn h _ ?_) λe=>hn h _ ?_)
   ·rw[fQ _ h,As e,It,qV (by omega) (by omega)];rfl
   ·rw[fQ _ h,An (by rw[e];exact Bool.false_ne_true)]
  ·have hk':k=s[v].length:=by omega
   subst hk';rw[zY,Aam,ht];refine zC (λe=> ?_) λe=>⟨zI hvl,zC (λf=> ?_) λf=> ?_⟩
   ·have e:=BY e
    exact qH (As (MU.1 (by omega)))
   ·have e:=Aah e
    have f:=BY f;exact qH (by rw[zbf,An (λh=>e (by have:=MU.2 h;omega)),As (Cl.1 (by omega))])
   ·have e:=Aah e
    have f:=Aah f;exact qH (by rw[zbf,An (λh=>e (by have:=MU.2 h;omega)),An (λh=>f (by have:=Cl.2 h;omega))])
end Go.Proofs.YtdnmkinmcdihnaaGreatDoor
namespace Go.Proofs.YtdnmkinmcdihnaaGreatDoor
open Go.Proofs.Tryz
open Go.RowKit
variable[Lo]
theorem Ke(v:Nat)(n:Int)(l:zA):vL Xu [dI v,dI n,.iptr [.int .i64 l.var,.int .i64 l.op,.int .i64 l.n] 0] (dB (!decide ((v:Int)=l.var)||holdsL l n)):=
 AX v n l λok=>by
  rw[zdl];refine zC (λe=> ?_) λe=>zG (ZL l n) ?_
  ·rw[e];rfl
  ·rw[e];rfl
theorem zhv(s:AcQ)(l:zA):vL aQ [dS s,dL l] (dS (AZ s l)):=
 zfj s l λok=>by
  rw[zhq];exact zG (gM (f:=λv n=> !decide ((v:Int)=l.var)||holdsL l n) N9 λv hv n hn=>Ke v n l) rfl
end Go.Proofs.YtdnmkinmcdihnaaGreatDoor
namespace Go.Proofs.YtdnmkinmcdihnaaGreatDoor
open Go.Proofs.Tryz
open Go.RowKit
variable[Lo]
def sD(c:zF)(vs:AcP):AcP:=c.vars.map λv=>vs.getD v.toNat 0
def Nm(z:List (Int×Int)):Int:=(z.map λx=>x.1*x.2).sum
def zoE(a:Int)(l:AcP):Int:=l.foldl (λa x=>if x>a then x else a) a
def wO(c:zF)(vs:AcP):Bool:=
 let x:=sD c vs
 if c.kind=1 then decide (Nm (c.consts.zip x)<=c.n)
 else if c.kind=2 then decide (Nm (c.consts.zip x)=c.n)
 else if c.kind=3 then !decide (Nm (c.consts.zip x)=c.n)
 else if c.kind=4 then decide x.Nodup
 else if c.kind=5 then decide (0<=x.getD 0 0)&&decide (x.getD 0 0<c.consts.length)&&decide (c.consts.getD (x.getD 0 0).toNat 0=x.getD 1 0)
 else if c.kind=6 then c.rows.any λr=>decide (r=x)
 else if c.kind=7 then decide (x.getD 0 0*x.getD 1 0=x.getD 2 0)
 else if c.kind=8 then decide (x.getD 0 0=zoE (x.getD 1 0) (x.drop 1))
 else if c.kind=9 then c.lits.any λl=>holdsL l (vs.getD l.var.toNat 0)
 else(c.lits.take 1).any (λl=>holdsL l (vs.getD l.var.toNat 0))&&decide (x.getD 0 0=1)|| !(c.lits.take 1).any (λl=>holdsL l (vs.getD l.var.toNat 0))&&decide (x.getD 0 0=0)
structure vQ (c:zF)(nv:Nat):Prop where
 nv6:nv<=6
 kind:1<=c.kind/\c.kind<=10
 many:c.vars.length<=4/\c.lits.length<=4/\c.consts.length<=8/\c.rows.length<=20
 form:V0 c=true
 vars:∀v∈c.vars,0<=v/\v<nv
 consts:∀n∈c.consts,-1000<=n/\n<=1000
 n: -1000<=c.n/\c.n<=1000
 rows:∀r∈c.rows,∀n∈r,-1000<=n/\n<=1000
 lits:∀l∈c.lits,eS nv l=0
theorem IK{nv:Nat}{c:zF}(hnv:nv<=6)(h:Uz nv c=0):vQ c nv:=by
 by_cases h1:gK c.kind 1 10=false
 ·rw[zho h1]at h;exact At h (by decide)
 by_cases h2:QG c=true
 ·rw[zou h1 h2]at h;exact At h (by decide)
 by_cases h3:V0 c=false
 ·rw[zov h1 h2 h3]at h;exact At h (by decide)
 by_cases h4:(c.vars.any (qQ nv)||c.lits.any λl=>qQ nv l.var)=true
 ·rw[zhp h1 h2 h3 h4]at h;exact At h (by decide)
 by_cases h5:(c.consts.any farB||farB c.n||c.rows.any λr=>r.any farB)=true
 ·rw[zdh h1 h2 h3 h4 h5]at h;exact At h (by decide)
 rw[zow h1 h2 h3 h4 h5]at h
 rw[Abo,AbG]at h4
 rw[Abo,AbG,AbG]at h5
 have hfar:∀n,farB n=false->-1000<=n/\n<=1000:=λn h=>by simp[farB,gK]at h;exact h
 have hnone:∀v,qQ nv v=false->0<=v/\v<nv:=λv h=>by simp[qQ,gK]at h;omega
 refine⟨hnv,?_,?_,by simpa using h3,λv hv=>hnone v ?_,λn hn=>hfar n ?_,hfar _ h5.1.2,λr hr n hn=>hfar n ?_,λl hl=> ?_⟩
 ·rw[pI]at h1;omega
 ·simp[QG]at h2;omega
 ·have:=AaF.1 h4.1 v hv;simpa using this
 ·have:=AaF.1 h5.1.1 n hn;simpa using this
 ·have:=AaF.1 h5.2 r hr
  rw[Abo]at this
  have:=AaF.1 this n hn;simpa using this
 ·obtain⟨i,hi,rfl⟩:=Aas hl
  have e:=aE h hi;rw[zq2]
  ·exact e
  ·have:=AaF.1 h4.2 _ (AT hi);simpa using this
structure zuc (c:zF):Prop where
 sums:c.kind<=3->1<=c.vars.length/\c.consts.length=c.vars.length
 differ:c.kind=4->1<=c.vars.length
 element:c.kind=5->c.vars.length=2/\1<=c.consts.length
 table:c.kind=6->1<=c.vars.length/\∀r∈c.rows,r.length=c.vars.length
 times:c.kind=7->c.vars.length=3
 max:c.kind=8->2<=c.vars.length
 clause:c.kind=9->c.vars.length=0
 iff:c.kind=10->c.vars.length=1/\c.lits.length=1
theorem vQ.formC{c:zF}{nv:Nat}(h:vQ c nv):zuc c:=by
 have hf:=h.form;obtain⟨h1,h2⟩:=h.kind;constructor<;>intro hk
 ·have:c.kind=1\/c.kind=2\/c.kind=3:=by omega
  rcases this with e|e|e<;>simp[V0,e]at hf<;>omega
 all_goals simp[V0,hk]at hf
 all_goals first|omega|(simp_all;done)|(simp_all;omega)
structure Rx (vs:AcP)(nv:Nat):Prop where
 len:vs.length=nv
 near:∀n∈vs,-50<=n/\n<=50
theorem Rx.at{vs:AcP}{nv:Nat}(h:Rx vs nv)(i:Nat): -50<=vs.getD i 0/\vs.getD i 0<=50:=by
 by_cases hi:i<vs.length
 ·rw[yO _ hi];exact h.near _ (AT hi)
 ·rw[Aar,Abz (by omega)];decide
theorem iA{c:zF}{vs:AcP}:(sD c vs).length=c.vars.length:=Aae ..
theorem MW{c:zF}{vs:AcP}{nv:Nat}(h:Rx vs nv):∀n∈sD c vs,-50<=n/\n<=50:=λn hn=>by
 obtain⟨v,_,rfl⟩:=OF.1 hn;exact h.at _
theorem QZ{c:zF}{vs:AcP}{k:Nat}(hk:k<c.vars.length):(sD c vs)[k]'(by rw[iA];exact hk)=vs.getD c.vars[k].toNat 0:=by simp[sD]
theorem Cm{a b:Int}(h1: -1000<=a/\a<=1000)(h2: -50<=b/\b<=50): -50000<=a*b/\a*b<=50000:=by
 have:(a*b).natAbs<=1000*50:=by rw[Int.natAbs_mul];exact AbK (by omega) (by omega)
 omega
theorem zoF{z:List (Int×Int)}(h:∀x∈z,(-1000<=x.1/\x.1<=1000)/\-50<=x.2/\x.2<=50): -50000*(z.length:Int)<=Nm z/\Nm z<=50000*(z.length:Int):=by
 induction z with
 |nil=>exact⟨by decide,by decide⟩
 |cons x z ih=>
  have h1:=ih λy hy=>h y (Aac _ hy)
  have h2:=h x (Aaa ..);have h3:=Cm h2.1 h2.2;have e:Nm (x::z)=x.1*x.2+Nm z:=by rw[Nm,Aaq,Acb];rfl
  rw[e,By];omega
theorem zl9{z:List (Int×Int)}{k:Nat}(h:k<z.length):Nm (z.take (k+1))=Nm (z.take k)+z[k].1*z[k].2:=by
 rw[<-Aay h,Nm,AaV,List.sum_append];simp[Nm]
theorem uO{c:zF}{vs:AcP}{nv:Nat}(hc:vQ c nv)(hv:Rx vs nv){k:Nat}(hk:k<c.vars.length):vL yS [dI k,.iptr [.sl .int vs] 0,.iptr [.int .i64 c.kind,.sl .int c.vars,.sl .int c.consts,.int .i64 c.n,.sl (.list .int) c.rows,.sl .lit c.lits] 0] (dI ((sD c vs)[k]'(by rw[iA];exact hk))):=
 Iw k vs c λok=>by
  have hv1:=hc.vars _ (AT hk);rw[G6,yA (t:=.int) hk,QZ hk];exact⟨zI hk,uW.2 (by rw[hv.len];omega),rfl⟩
theorem Ry{l:zA}{vs:AcP}{nv:Nat}(hl:eS nv l=0)(hv:Rx vs nv):vL qY [dL l,.iptr [.sl .int vs] 0] (dB (holdsL l (vs.getD l.var.toNat 0))):=
 Ix l vs λok=>by
  rw[G7];exact⟨uW.2 (by rw[hv.len];exact(kV.1 hl).1),zG (ZL l _) rfl⟩
theorem Kf(c:zF)(n:Int):vL jH [dC c,dI n] (dB (if c.kind=1 then decide (n<=c.n)else if c.kind=2 then decide (n=c.n)else !decide (n=c.n))):=
 AQ c n λok=>by
  rw[zdd];refine zC (λe1=> ?_) λe1=>zC (λe2=> ?_) λe2=> ?_<;>simp at* <;>simp[*]
theorem dZ(a b:AcP):vL xW [.sl .int a,.sl .int b] (dB (decide (a=b))):=
 WW a b λok=>by
  have hl:a.length<=9223372036854775807:=dW (t:=.int) (Qm ok);rw[VE];refine zC (λe=> ?_) λe=> ?_
  ·rw[Aao (p:=a=b) λh=>by subst h;simp at e]
  have e:a.length=b.length:=by simp at e;omega
  have hz:(a.zip b).length=a.length:=by rw[AaA];omega
  refine zc4 (I:=λn v=>pQ a b _ n v) (a.zip b) (λx=> !decide (x.1=x.2)) (by omega) (X:=dB false=dB (decide (a=b))) (Y:=dB true=dB (decide (a=b))) (by rw[gA a b e];cases decide (a=b)<;>rfl) (λn k h hX hn=> ?_) λn hY=> ?_
  ·have hk:k<a.length:=by omega
   rw[AaL]at hX hn
   rw[iW,yD hk,yA (t:=.int) hk,yA (t:=.int) (show k<b.length by omega)]
   exact⟨zI hk,zI (by omega),zC hX hn⟩
  ·rw[hz,iW,zY];exact hY
theorem Fk(r x:AcP):vL Zz [.sl .int r,.iptr [.sl .int x] 0] (dB (decide (r=x))):=
 Iy r x λok=>by rw[G8];exact zG (dZ r x) rfl
theorem zbg{x y:Int}:∀(m:List (Int×Int)),(rB .int .int x y m).map (λe=>e.1)=if x∈m.map (λe=>e.1)then m.map (λe=>e.1)else m.map (λe=>e.1)++[x]
 |[]=>rfl
 |(a,b)::m=>by
  rw[rB,show MA .int x a=decide (x=a)from rfl]
  by_cases h:x=a
  ·rw[Aaf h,AI,As (by rw[h];exact Aaa ..)];rfl
  ·rw[Aao h,Aag,Aaq,zbg m]
   simp only[Aaq,Aad,h,false_or];split<;>rfl
def aF:AcP->AcP->AcP
 |ks,[]=>ks
 |ks,x::xs=>aF (if x∈ks then ks else ks++[x]) xs
theorem zfn{l:AcP}{k:Nat}(h:k<l.length):∀ks,aF ks (l.take (k+1))=if l[k]∈aF ks (l.take k)then aF ks (l.take k)else aF ks (l.take k)++[l[k]]:=by
 induction l generalizing k with
 |nil=>exact At h (Aba _)
 |cons a l ih=>
  intro ks;cases k with
  |zero=>rfl
  |succ k=>rw[Acy,Acy,aF,aF];exact ih (by simpa using h) _
theorem MX:∀(xs ks:AcP),(aF ks xs).length<=ks.length+xs.length
 |[],ks=>by simp[aF]
 |x::xs,ks=>by
  rw[aF];have:=MX xs (if x∈ks then ks else ks++[x])
  rw[By];split at this<;>simp at this⊢<;>simp_all<;>omega
theorem Kg:∀(xs ks:AcP),(aF ks xs).length=ks.length+xs.length↔xs.Nodup/\∀x∈xs,x∉ks
 |[],ks=>by simp[aF]
 |x::xs,ks=>by
  rw[aF,AaM,By]
  by_cases h:x∈ks
  ·rw[As h]
   have:=MX xs ks;exact⟨λe=>by omega,λe=>At h (e.2 x (Aaa ..))⟩
  ·rw[An h]
   have ih:=Kg xs (ks++[x]);rw[It,By,IS]at ih
   rw[show ks.length+(xs.length+1)=ks.length+(0+1)+xs.length by omega,ih]
   simp only[Aai,Aad,Aa6,or_false];constructor
   ·rintro⟨h1,h2⟩
    exact⟨⟨λhx=>h2 x hx (.inr rfl),h1⟩,λy hy=>by
     rcases hy with rfl|hy
     ·exact h
     ·exact λhk=>h2 y hy (.inl hk)⟩
   ·rintro⟨⟨h1,h2⟩,h3⟩
    exact⟨h2,λy hy hk=>by
     rcases hk with hk|rfl
     ·exact h3 y (.inr hy) hk
     ·exact h1 hy⟩
end Go.Proofs.YtdnmkinmcdihnaaGreatDoor
namespace Go.Proofs.YtdnmkinmcdihnaaGreatDoor
open Go.Proofs.Tryz
open Go.RowKit
variable[Lo]
end Go.Proofs.YtdnmkinmcdihnaaGreatDoor
namespace Go.Proofs.YtdnmkinmcdihnaaGreatDoor
open Go.Proofs.Tryz
open Go.RowKit
variable[Lo]
theorem zdp{l:zA}:(gB l).var=l.var:=by
 unfold gB;split
 ·rfl
 split
 ·rfl
 split<;>rfl
theorem zbh{l:zA}(h:1<=l.op/\l.op<=4)(n:Int):holdsL (gB l) n= !holdsL l n:=by
 have h3:l.op=1\/l.op=2\/l.op=3\/l.op=4:=by omega
 rcases h3 with h|h|h|h<;>simp[gB,holdsL,h]<;>first|rfl|(rw[<-decide_not];exact decide_eq_decide.2 (by omega))|(exact decide_eq_decide.2 (by omega))|omega
theorem Kh{α:Type}{p:α->Bool}:∀ {r:List α},(r.filter p).length+(r.filter λx=> !p x).length=r.length
 |[]=>rfl
 |a::r=>by
  have:=Kh (p:=p) (r:=r);rw[Abc,Abc];cases p a<;>simp<;>omega
end Go.Proofs.YtdnmkinmcdihnaaGreatDoor
namespace Go.Proofs.YtdnmkinmcdihnaaGreatDoor
open Go.Proofs.Tryz
open Go.RowKit
set_option maxRecDepth 100000
variable[Lo]
def ZM:xF:= {own:=[6],live:=[(0,([2,11,12,13],[]))],n:=24}
def bS(a:zE)(b:AcR)(R:xI)(c:Nat)(d:Int):Prop:=LP ZM f58 [1,1,0,1,0,0] 0 c ⟨[(2,.iptr (Oy a []) 0),(11,.sl .lit b),(12,dI (b.length:Int)),(13,dI d)],[]⟩ (zP 0 (sK ZM f58 [1,1,1] 0 (eK f58 R)))
theorem W0(c:zE)(a:AcR)(R:xI)(d:Nat)(b:Int):bS c a R (d+1) b=
 (zT (decide (b<(a.length:Int)))
 (wW b a.length=true/\
 yJ V3 [dM c,dL (zJ .lit a b.toNat)] .int λe=>
 zT (!decide (e=0))
 (R (dI e))
 (bS c a R d (yU (b+1))))
 (R (dI 0))):=by kernel_rfl
theorem Fl(b:zE)(a:AcR)(R:xI):FD ZM f58 [dM b,.sl .lit a] R=
 (zT (decide (40<(a.length:Int)))
 (R (dI 2))
 (∃n0,bS b a R n0 0)):=by kernel_rfl
theorem IL(a:zE)(b:AcR):wU ZM f58 oJ [dM a,.sl .lit b]:=wX func58 (by kernel_rfl) ntmps58 rfl
def Tg:xF:= {own:=[],live:=[],n:=8}
theorem Ki(a:AcQ)(b:AcR)(R:xI):FD Tg f108 [dS a,.sl .lit b] R=
 (yJ xP [dS a,.clo jX none [.iptr [.sl .lit b] 0]] (.list (.list .int)) λc=>
 R (dS c)):=by kernel_rfl
theorem MY(a:AcQ)(b:AcR):wU Tg f108 kQ [dS a,.sl .lit b]:=wX func108 (by kernel_rfl) ntmps108 rfl
def Wi:xF:= {own:=[5,7,8],live:=[(0,([0,3,5,13,14,15],[5]))],n:=44}
def gN(b:AcQ)(a:AcR)(R:xI)(c:Nat)(d e:Int):Prop:=LP Wi f119 [1,1,1,0,1,0,0] 0 c ⟨[(0,dS b),(3,.iptr [.sl .lit a] 0),(5,.ptr 5 0),(13,.sl .lit a),(14,dI (a.length:Int)),(15,dI d)],[(5,.cells [dI e])]⟩ (zP 0 (sK Wi f119 [1,1,1,1] 0 (eK f119 R)))
theorem IM(c:AcQ)(a:AcR)(R:xI)(e:Nat)(b d:Int):gN c a R (e+1) b d=
 (zT (decide (b<(a.length:Int)))
 (wW b a.length=true/\
 yJ Yw [dS c,dL (zJ .lit a b.toNat)] .int λf=>
 zT (decide (f<0))
 (gN c a R e (yU (b+1)) d)
 (zT (decide (0<=d))
 (zT (!decide (d=((zJ .lit a b.toNat).var)))
 (yJ tI [dS c] (.list (.list .int)) λg=>
 R (dS g))
 (gN c a R e (yU (b+1)) ((zJ .lit a b.toNat).var)))
 (gN c a R e (yU (b+1)) ((zJ .lit a b.toNat).var))))
 (zT (decide (d<0))
 (yJ yQ [dS c] (.list (.list .int)) λh=>
 R (dS h))
 (yJ xP [dS c,.clo fT none [.iptr [dI d] 0,.iptr [.clo mJ none [.iptr [.sl .lit a] 0,.iptr [dI d] 0]] 0]] (.list (.list .int)) λi=>
 R (dS i)))):=by kernel_rfl
theorem A3(a:AcQ)(b:AcR)(R:xI):FD Wi f119 [dS a,.sl .lit b] R=
 (yJ zV [dS a] .bool λc=>
 zT c
 (yJ tI [dS a] (.list (.list .int)) λd=>
 R (dS d))
 (∃n0,gN a b R n0 0 (-1))):=by kernel_rfl
theorem Cn(a:AcQ)(b:AcR):wU Wi f119 tV [dS a,.sl .lit b]:=wX func119 (by kernel_rfl) ntmps119 rfl
def W1:xF:= {own:=[],live:=[],n:=10}
theorem Nn(a b:Int)(c:AcR)(R:xI):FD W1 Tryz.f156 [dI a,dI b,.iptr [.sl .lit c] 0] R=
 (yJ wN [.sl .lit c,.clo lJ none [.iptr [dI a] 0,.iptr [dI b] 0]] .bool λd=>
 R (dB (!d))):=by kernel_rfl
theorem Q0(a b:Int)(c:AcR):wU W1 Tryz.f156 jX [dI a,dI b,.iptr [.sl .lit c] 0]:=wX func156 (by kernel_rfl) ntmps156 rfl
def XB:xF:= {own:=[],live:=[],n:=14}
theorem RV(a:zA)(b c:Int)(R:xI):FD XB f158 [dL a,.iptr [dI b] 0,.iptr [dI c] 0] R=
 (zT (decide (a.var=b))
 (yJ jG [dL a,dI c] .bool λd=>
 R (dB d))
 (R (dB false))):=by kernel_rfl
theorem Sr(a:zA)(b c:Int):wU XB f158 lJ [dL a,.iptr [dI b] 0,.iptr [dI c] 0]:=wX func158 (by kernel_rfl) ntmps158 rfl
def Q1:xF:= {own:=[],live:=[],n:=8}
theorem Fm(a:Int)(b:AcR)(c:Int)(R:xI):FD Q1 f170 [dI a,.iptr [.sl .lit b] 0,.iptr [dI c] 0] R=
 (yJ wN [.sl .lit b,.clo eU none [.iptr [dI c] 0,.iptr [dI a] 0]] .bool λd=>
 R (dB d)):=by kernel_rfl
theorem IP(a:Int)(b:AcR)(c:Int):wU Q1 f170 mJ [dI a,.iptr [.sl .lit b] 0,.iptr [dI c] 0]:=wX func170 (by kernel_rfl) ntmps170 rfl
def Th:xF:= {own:=[],live:=[],n:=14}
theorem Kj(a:zA)(b c:Int)(R:xI):FD Th Tryz.f171 [dL a,.iptr [dI b] 0,.iptr [dI c] 0] R=
 (zT (decide (a.var=b))
 (yJ jG [dL a,dI c] .bool λd=>
 R (dB d))
 (R (dB false))):=by kernel_rfl
theorem MZ(a:zA)(b c:Int):wU Th Tryz.f171 eU [dL a,.iptr [dI b] 0,.iptr [dI c] 0]:=wX func171 (by kernel_rfl) ntmps171 rfl
def Q2:xF:= {own:=[],live:=[],n:=15}
theorem Fo(b c d:Int)(a:AcM)(e:AcT)(R:xI):FD Q2 Tryz.f172 [dI b,dI c,.iptr [dI d] 0,.iptr [.clo a (some [.bool]) e] 0] R=
 (zT (!decide (b=d))
 (R (dB true))
 (fV a/\
 yJ a ([dI c]++e) .bool λf=>
 R (dB f))):=by kernel_rfl
theorem IQ(a b c:Int)(d:AcM)(e:AcT):wU Q2 Tryz.f172 fT [dI a,dI b,.iptr [dI c] 0,.iptr [.clo d (some [.bool]) e] 0]:=wX func172 (by kernel_rfl) ntmps172 rfl
end Go.Proofs.YtdnmkinmcdihnaaGreatDoor
namespace Go.Proofs.YtdnmkinmcdihnaaGreatDoor
open Go.Proofs.Tryz
open Go.RowKit
variable[Lo]
theorem M0(l:AcP):xT xS [.sl .int l] [] (.own 3000) [(3000,.row 3 .int l)]:=
 WV l λok _=>by
  rw[VD];intro b hb;refine zC (λe=> ?_) λe=>⟨?_,?_⟩
  ·rw[hb e];exact⟨rfl,rfl⟩
  ·refine xC (t:=.int) ?_
   have:=(fk (t:=.int) (Qm ok)).1;show(0+l.length)*8<=_
   have h8:l.length*8<=140737488355328:=this;omega
  ·exact⟨rfl,rfl⟩
theorem ZN(s:AcQ):vL tI [dS s] (dS s):=
 AJ s λok=>by
  have hs:Y7 s:=fk (Qm ok);have hsl:=YC hs;rw[zc9];refine up (I:=λn v a=>We s _ n v a) 0 s.length rfl (Is _) (by omega) (λk a=>a=s.take k) rfl λn k a _ hk ha hn=> ?_
  subst ha;rw[GZ]
  by_cases h:k<s.length
  ·rw[yD h,yA (t:=.list .int) h]
   refine⟨zI h,_,M0 _,xC (t:=.list .int) ?_,hn h _ (Aay h)⟩;rw[Aak];show(_+1)*24<=_
   omega
  ·have hk':k=s.length:=by omega
   subst hk';rw[zY,Aam]
def jJ(s:AcQ):AcQ:=List.replicate s.length []
theorem YD(s:AcQ):vL yQ [dS s] (dS (jJ s)):=
 L4 s λok=>by
  have hs:Y7 s:=fk (Qm ok);have hsl:=YC hs;rw[Ik];refine⟨rfl,by omega,xC (t:=.list .int) ?_,rfl⟩
  rw[Aap];show _*24<=_
  omega
def xD(nv:Nat)(c:AcR):Int:=if 40<c.length then 2 else wM (λ_ l=>eS nv l) 0 c
theorem bT(m:zE)(c:AcR):vL oJ [dM m,.sl .lit c] (dI (xD m.vars.length c)):=
 IL m c λok=>by
  rw[Fl];refine zC (λe=> ?_) λe=> ?_
  ·exact qH (As (by simp at e;omega))
  have e:¬40<c.length:=by simp at e;omega
  rw[show xD m.vars.length c=wM (λ_ l=>eS m.vars.length l) 0 c from An e]
  refine zl4 (I:=λn v=>bS m c _ n v) c (λ_ l=>eS m.vars.length l) (by omega) (X:=λx=>D.int .i64 x=dI (wM (λ_ l=>eS m.vars.length l) 0 c)) (Y:=D.int .i64 0=dI (wM (λ_ l=>eS m.vars.length l) 0 c)) (λ_=>rfl) (λe=>qH e) (λn k h _ hX hn=> ?_) λn hY=> ?_
  ·rw[W0,yD h,yA (t:=.lit) h]
   exact⟨zI h,zG (zdo m _) (zC (λe=>hX (sN e)) λe=>hn (vM e))⟩
  ·rw[W0,zY];exact hY
theorem Ss{nv:Nat}{c:AcR}(h:xD nv c=0):c.length<=40/\∀l∈c,eS nv l=0:=by
 unfold xD at h
 split at h
 ·exact At h (by decide)
 rename_i h1;refine⟨by omega,λl hl=> ?_⟩
 obtain⟨i,hi,rfl⟩:=Aas hl;exact aE h hi
def fa(c:AcR)(vs:AcP):Bool:=c.any λl=>holdsL l (vs.getD l.var.toNat 0)
def atC(c:AcR)(v n:Int):Bool:=c.any λl=>if l.var=v then holdsL l n else false
theorem Kk(l:zA)(v n:Int):vL eU [dL l,.iptr [dI v] 0,.iptr [dI n] 0] (dB (if l.var=v then holdsL l n else false)):=
 MZ l v n λok=>by
  rw[Kj];refine zC (λe=> ?_) λe=> ?_
  ·rw[As (BY e)];exact zG (ZL l n) rfl
  ·rw[An (Aah e)]
theorem Fp(n:Int)(c:AcR)(v:Int):vL mJ [dI n,.iptr [.sl .lit c] 0,.iptr [dI v] 0] (dB (atC c v n)):=
 IP n c v λok=>by
  rw[Fm];exact zG (pD MS λl _=>Kk l v n) rfl
theorem Rz(w n v:Int)(c:AcR):vL fT [dI w,dI n,.iptr [dI v] 0,.iptr [.clo mJ none [.iptr [.sl .lit c] 0,.iptr [dI v] 0]] 0] (dB (!decide (w=v)||atC c v n)):=
 oT.iclo (pre:=[_,_,_]) (IQ w n v mJ [.iptr [.sl .lit c] 0,.iptr [dI v] 0] λok=>by
  rw[Fo];refine zC (λe=> ?_) λe=>⟨IG,zG (Fp n c v) ?_⟩
  ·rw[e];rfl
  ·rw[e];rfl)
theorem RW(l:zA)(v n:Int):vL lJ [dL l,.iptr [dI v] 0,.iptr [dI n] 0] (dB (if l.var=v then holdsL l n else false)):=
 Sr l v n λok=>by
  rw[RV];refine zC (λe=> ?_) λe=> ?_
  ·rw[As (BY e)];exact zG (ZL l n) rfl
  ·rw[An (Aah e)]
theorem Np(v n:Int)(c:AcR):vL jX [dI v,dI n,.iptr [.sl .lit c] 0] (dB (!atC c v n)):=
 Q0 v n c λok=>by
  rw[Nn];exact zG (pD Sn λl _=>RW l v n) rfl
def cA(s:AcQ)(c:AcR):AcQ:=rI (λv n=> !atC c v n) s
theorem Ud(s:AcQ)(c:AcR):vL kQ [dS s,.sl .lit c] (dS (cA s c)):=
 MY s c λok=>by
  rw[Ki];exact zG (gM (f:=λv n=> !atC c v n) QV λv hv n hn=>Np v n c) rfl
def zoG(s:AcQ)(c:AcR)(one:Int):AcQ:=rI (λv n=> !decide ((v:Int)=one)||atC c one n) s
def Q3(s:AcQ)(c:AcR):AcR->Int->AcQ
 |[],one=>if one<0 then jJ s else zoG s c one
 |l::ls,one=>if Uc s l<0 then Q3 s c ls one else if 0<=one/\one≠l.var then s else Q3 s c ls l.var
def cB(s:AcQ)(c:AcR):AcQ:=if zZ s=true then s else Q3 s c c (-1)
theorem A4{s:AcQ}{c:AcR}(hc:∀l∈c,0<=l.var/\l.var<s.length):vL tV [dS s,.sl .lit c] (dS (cB s c)):=
 Cn s c λok=>by
  have hl:c.length<=9223372036854775807:=dW (t:=.lit) (Qm (okR ok));rw[A3];refine zG (xB s) (zC (λe=> ?_) λe=> ?_)
  ·rw[cB,As e]
   exact zG (ZN s) rfl
  rw[cB,An (by rw[e];decide)]
  refine up (I:=λn v a=>gN s c _ n v a) 0 c.length rfl (Is _) (by omega) (λk a=>Q3 s c (c.drop k) a=Q3 s c c (-1)) (by rw[Abv]) λn k a _ hk ha hn=> ?_
  rw[IM]
  by_cases h:k<c.length
  ·rw[yD h,yA (t:=.lit) h]
   rw[Aa4 h,Q3]at ha
   refine⟨zI h,zG (Gt (hc _ (AT h))) (zC (λe=> ?_) λe=> ?_)⟩
   ·rw[As (BY e)]at ha
    exact hn h _ ha
   rw[An (Aah e)]at ha
   refine zC (λf=>zC (λg=> ?_) λg=> ?_) λf=> ?_
   ·rw[As ⟨BY f,by simpa using g⟩]at ha
    rw[<-ha];exact zG (ZN s) rfl
   ·rw[An (λx=>x.2 (by simpa using g))]at ha
    exact hn h _ ha
   ·rw[An (λx=>Aah f x.1)]at ha
    exact hn h _ ha
  ·have hk':k=c.length:=by omega
   subst hk';rw[List.drop_length,Q3]at ha
   rw[zY,<-ha];refine zC (λe=> ?_) λe=> ?_
   ·rw[As (BY e)]
    exact zG (YD s) rfl
   ·rw[An (Aah e)]
    exact zG (gM (f:=λv n=> !decide ((v:Int)=a)||atC c a n) Ta λv hv n hn=>Rz v n a c) rfl
end Go.Proofs.YtdnmkinmcdihnaaGreatDoor
namespace Go.Proofs.YtdnmkinmcdihnaaGreatDoor
open Go.Proofs.Tryz
open Go.RowKit
variable[Lo]
end Go.Proofs.YtdnmkinmcdihnaaGreatDoor
namespace Go.Proofs.YtdnmkinmcdihnaaGreatDoor
open Go.Proofs.Tryz
open Go.RowKit
set_option maxRecDepth 100000
variable[Lo]
abbrev Fq(x0:AcU)(x1:AcV)(x2 x3:Int)(x4:AcS)(x5:AcQ)(x6:AcW):List (Nat×yE):=[(1000,.cells [.sl .var x0,.sl .con x1,dI x2,dI x3,.sl (.list .lit) x4,.sl (.fr (.list .int)) x5,.own 2000]),(2000,.row 71 (.fr .step) x6)]
def EvF:TE where
 zs:=[(3,(false,[dI 0])),(9,(false,[.str (⟨#[]⟩)])),(22,(false,[.nil])),(23,(false,[.nil])),(25,(true,[.sl .var ([]:AcU),.sl .con ([]:AcV),dI 0,dI 0])),(28,(false,[.nil])),(29,(false,[.nil])),(49,(true,[.str (⟨#[]⟩),dI 0,dI 0])),(50,(false,[.nil])),(52,(true,[dI 0,.sl .int ([]:AcP),.sl .int ([]:AcP),dI 0,dS ([]:AcQ),.sl .lit ([]:AcR)])),(61,(false,[.nil])),(66,(true,[dI 0,dI 0,dI 0])),(69,(false,[.nil])),(71,(true,[dI 0,dI 0,.sl .lit ([]:AcR)])),(87,(false,[.nil])),(108,(false,[.undef])),(144,(false,[.undef])),(188,(true,[.sl .var ([]:AcU),.sl .con ([]:AcV),dI 0,dI 0,.sl (.list .lit) ([]:AcS),dS ([]:AcQ),.nil]))]
 sl:=[(22,(49,.var)),(23,(52,.con)),(28,(3,.fr .int)),(29,(71,.fr .step)),(35,(28,.fr (.list .int))),(50,(66,.fr .lit)),(61,(66,.fr .lit)),(69,(61,.list .lit)),(87,(28,.fr (.list .int))),(91,(150,.tok)),(115,(5,.byte)),(172,(9,.str)),(221,(50,.list .lit)),(258,(262,.term))]
 fld:=[(25,[(0,1),(1,1),(2,1),(3,1)]),(49,[(0,1),(1,1),(2,1)]),(52,[(0,1),(1,1),(2,1),(3,1),(4,1),(5,1)]),(66,[(0,1),(1,1),(2,1)]),(71,[(0,1),(1,1),(2,1)]),(188,[(0,4),(4,1),(5,1),(6,1)])]
 strs:=[]
 ints:=[(2,.i64),(3,.i64),(5,.u8),(6,.u8),(32,.i64),(228,.i64),(288,.i64),(314,.u8),(315,.u8)]
 bools:=[]
 sig:=[(tS,[.fr (.list (.list .int))]),(tT,[.list .int]),(nK,[.bool]),(lW,[.bool]),(qX,[.fr (.list .lit)]),(pZ,[.fr (.list (.list .int))]),(zV,[.bool]),(xP,[.fr (.list (.list .int))]),(rX,[.fr (.list (.list .int))]),(jI,[.fr (.list (.list .int))]),(kR,[.lit]),(tI,[.fr (.list (.list .int))]),(tV,[.fr (.list (.list .int))]),(yQ,[.fr (.list (.list .int))]),(tP,[.bool]),(kS,[.bool]),(wD,[.bool]),(aQ,[.fr (.list (.list .int))]),(yF,[.bool]),(Yw,[.int]),(iV,[.fr (.list .lit),.bool]),(fU,[.fr (.list .lit),.bool]),(mD,[.fr (.list .lit)]),(kU,[.fr (.list .lit)]),(wA,[.fr (.list .lit)])]
 mps:=[]
 sts:=[]
 hsig:=[(xS,{tys:=[.list (.fr .int)],nils:=[],datas:=[],res:=λxs ob=>match xs with|[.sl (.fr .int) y0]=>some (.own 3000,[(3000,.row 3 (.fr .int) y0)])|_=>none}),
  (mG,{tys:=[.list (.fr (.list .int)),.list (.fr .step)],nils:=[(0,(6,(71,.fr .step)))],datas:=[],res:=λxs ob=>match xs,ob 1000,ob 2000 with|[y0,.sl (.fr .step) y1],some (.cells o1000),some o2000=>some (.tup [],[(1000,.cells (o1000.set 5 y0)),(2000,.row 71 (.fr .step) y1)])|_,_,_=>none}),
  (qT,{tys:=[.con,.list (.list .int),.list .int,.list .int,.list (.pr (.pr .int .int) .int)],nils:=[],datas:=[],res:=λxs _=>match xs with|[.agg y0,y1,y2,y3,.sl (.pr (.pr .int .int) .int) y4]=>some (.clo 206 none [.iptr [.iptr (y0++[y1,y2,y3,.mp (.pr .int .int) .int y4]) 0] 0],[])|_=>none}),
  (lD,{tys:=[.list .term,.list (.pr .int (.list .int)),.con],nils:=[],datas:=[],res:=λxs _=>match xs with|[y0,.sl (.pr .int (.list .int)) y1,.agg y2]=>some (.clo 209 none [.iptr [y0] 0,.iptr [.mp .int (.list .int) y1] 0,.iptr y2 0],[])|_=>none}),
  (lE,{tys:=[.list (.list .int),.con],nils:=[],datas:=[],res:=λxs _=>match xs with|[y0,.agg y1]=>some (.clo 213 none [.iptr [y0] 0,.iptr y1 0],[])|_=>none}),
  (sJ,{tys:=[.list (.fr .lit)],nils:=[],datas:=[],res:=λxs ob=>match xs with|[.sl (.fr .lit) y0]=>some (.own 3000,[(3000,.row 66 (.fr .lit) y0)])|_=>none,raw:=true}),
  (mI,{tys:=[.bool,.list (.fr (.list .int)),.list (.fr .step)],nils:=[(0,(6,(71,.fr .step)))],datas:=[],res:=λxs ob=>match xs,ob 1000,ob 2000 with|[y0,y1,.sl (.fr .step) y2],some (.cells o1000),some o2000=>some (y0,[(1000,.cells (o1000.set 5 y1)),(2000,.row 71 (.fr .step) y2)])|_,_,_=>none}),
  (sA,{tys:=[.list (.fr .lit)],nils:=[],datas:=[],res:=λxs ob=>match xs with|[.sl (.fr .lit) y0]=>some (.own 3000,[(3000,.row 66 (.fr .lit) y0)])|_=>none,raw:=true})]
 vals:=[81,85,98,102,119,133,188,256,268]
 arr:=[]
 thr:=[]
theorem zta:EvF.chk prog=true:=by kernel_rfl
theorem ztb:∀x∈EvF.sig,∀args w,(callFunc x.1 args).run prog w=.ok (.enter x.1 args) w:=by
 intro x hx args w;simp only[EvF,Aad,Aa6,or_false]at hx
 rcases hx with rfl|rfl|rfl|rfl|rfl|rfl|rfl|rfl|rfl|rfl|rfl|rfl|rfl|rfl|rfl|rfl|rfl|rfl|rfl|rfl|rfl|rfl|rfl|rfl|rfl
 ·exact call36 args w
 ·exact call38 args w
 ·exact call48 args w
 ·exact call59 args w
 ·exact call67 args w
 ·exact call68 args w
 ·exact call69 args w
 ·exact call71 args w
 ·exact call109 args w
 ·exact call115 args w
 ·exact call117 args w
 ·exact call118 args w
 ·exact call119 args w
 ·exact call120 args w
 ·exact call121 args w
 ·exact call161 args w
 ·exact call164 args w
 ·exact call166 args w
 ·exact call168 args w
 ·exact call169 args w
 ·exact call218 args w
 ·exact call219 args w
 ·exact call235 args w
 ·exact call236 args w
 ·exact call246 args w
theorem zrc:EvF.chk2 prog=true:=by kernel_rfl
theorem zrd:∀x∈EvF.hsig,fV x.1:=by
 intro x hx args w;simp only[EvF,Aad,Aa6,or_false]at hx
 rcases hx with rfl|rfl|rfl|rfl|rfl|rfl|rfl|rfl
 ·exact call73 args w
 ·exact call116 args w
 ·exact call159 args w
 ·exact call160 args w
 ·exact call162 args w
 ·exact call165 args w
 ·exact call167 args w
 ·exact call250 args w
theorem zfo:vE prog EvF:=QD (by kernel_rfl) zta zrc ztb zrd
abbrev FDF(A:xF)(fn:Func)(ds:AcT)(R:xI):Prop:=fnD prog EvF A fn.results.toList (vB fn) ds R
abbrev FHF(A:xF)(fn:Func)(ds:AcT)(hp:List (Nat×yE))(roots:AcT)(own:Bool)(R:oG):Prop:=fnH prog EvF A fn.results.toList (vB fn) ds hp roots own R
def XC(A:xF)(fn:Func)(f:AcM)(ds:AcT):Prop:=∀ {r:D},((∀d∈ds,MN d)->FDF A fn ds λd=>d=r)->vL f ds r
def zdq(A:xF)(fn:Func)(f:AcM)(ds:AcT)(hp:List (Nat×yE))(roots:AcT)(own:Bool):Prop:=∀ {r:D} {h0:List (Nat×yE)},((∀d∈ds,MN d)->(∀k o,zW k hp=some o->okO o)->FHF A fn ds hp roots own λd h1=>d=r/\h1=h0)->xT f ds hp r h0
theorem X2{A:xF}{fn:Func}{f:AcM}{ds:AcT}(hf:prog.funcs[f]? =some fn)(hb:fn.body=some (vB fn))(hn:fn.ntmps=A.n)(hl:Nat.ble ds.length A.n=true):XC A fn f ds:=λh=>zcS zfo hf hb hn.symm (by rw[hn];exact Aau hl) h
theorem zhw{A:xF}{fn:Func}{f:AcM}{ds:AcT}{hp:List (Nat×yE)}{roots:AcT}{own:Bool}(hf:prog.funcs[f]? =some fn)(hb:fn.body=some (vB fn))(hn:fn.ntmps=A.n)(hl:Nat.ble ds.length A.n=true):zdq A fn f ds hp roots own:=λh=>Eo zfo hf hb hn.symm (by rw[hn];exact Aau hl) h
abbrev Ar(A:xF)(fn:Func)(path:AcZ)(cur n:Nat)(σ:St)(K:Ex->St->Prop):Prop:=DA (den prog EvF A (sub path (vB fn)) cur) A (Yq A cur) n σ K
abbrev Gu(A:xF)(fn:Func)(path:AcZ)(cur:Nat)(K:Ex->St->Prop):=zqD prog EvF A (sub path (vB fn)) cur K
abbrev iKF(A:xF)(fn:Func)(path:AcZ)(cur n:Nat)(K:Ex->St->Prop):=zks (den prog EvF A (sub path (vB fn)) cur) A (Yq A cur) n K
abbrev eKF(fn:Func)(R:xI):=zqE EvF fn.results.toList R
abbrev eHF(fn:Func)(roots:AcT)(own:Bool)(R:oG):=Nj EvF fn.results.toList roots own R
end Go.Proofs.YtdnmkinmcdihnaaGreatDoor
