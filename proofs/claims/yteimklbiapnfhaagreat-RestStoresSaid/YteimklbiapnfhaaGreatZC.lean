/- Texts of this proof, one behind the other: nothing is handed in but what is proved here; no condition. -/
import Derived.Test.YteimklbiapnfhaaGreatProg
import Derived.Shelf.Small.Bits
import Derived.Shelf.Small.Strs
import Derived.Shelf.Small.Wraps
import Derived.Shelf.Strconv.Itoa0
import Derived.Shelf.Strings.Search1
import Derived.Shelf.Sort.Plain
import Derived.Shelf.Strings.Prefix
import Derived.Shelf.Slices.Turned
import Derived.Shelf.Slices.Equal
import Derived.Ground.Names2Prog
import Derived.Shelf.Slices.Clone
import Derived.Shelf.Slices.CompactI
import Derived.Shelf.Slices.SearchI
import Derived.Shelf.Slices.Cells
import Derived.Shelf.Slices.In.SortNone
import Derived.Shelf.Slices.Empties2
import Derived.Ground.SlgnProg
import Derived.Shelf.SlicesE.Clone
import Derived.Test.YteimklbiapnfhaaGreatZB
set_option linter.unusedSectionVars false
namespace Go.Proofs.YteimklbiapnfhaaGreat
set_option linter.unusedVariables false
set_option linter.unusedSimpArgs false
def Vb(n:Nat):Bool:=decide (97≤n)&&decide (n≤122)
def isDN(n:Nat):Bool:=decide (48≤n)&&decide (n≤57)
def isL(c:UInt8):Bool:=Vb c.toNat
def isD(c:UInt8):Bool:=isDN c.toNat
def isW(c:UInt8):Bool:=isL c||isD c
def cE:List UInt8→Bool
 |a::b::_=>(a==46&&b==46)||(a==60&&b==61)||(a==62&&b==61)||(a==61&&b==61)||(a==33&&b==61)
 |_=>false
def Ys(c:UInt8):Bool:=c==91||c==93||c==59||c==58||c==44||c==45
def yZ:List UInt8→Nat×Nat
 |[]=>(0,0)
 |c::r=>
  if isL c then(1,1+(r.takeWhile isW).length)
  else if isD c then(2,1+(r.takeWhile isD).length)
  else if cE (c::r)then(3,2)
  else if Ys c then(3,1)
  else(0,0)
def Yi(c:UInt8):Bool:=c==32||c==9||c==10
def bs(l:List UInt8):ByteArray:=⟨l.toArray⟩
def nL(k n:Nat)(c:UInt8):Int:=
 if k=0 then 1 else if k=1∧n>12∨k=2∧n>4 then 2 else if k=2∧n>1∧c=48 then 1 else 0
def nR:List UInt8→Nat→Bool→List Tok→Nat→List Tok×Int×Int
 |[],_,_,out,_=>(out,0,0)
 |_::r,i,note,out,k+1=>nR r (i+1) note out k
 |c::r,i,note,out,0=>
  if note||c==37 then nR r (i+1) (c !=10) out 0
  else if Yi c then nR r (i+1) false out 0
  else
   let kn:=yZ (c::r)
   if nL kn.1 kn.2 c=0 then nR r (i+1) false (out++[⟨kn.1,i,bs ((c::r).take kn.2)⟩]) (kn.2-1)
   else([],i,nL kn.1 kn.2 c)
def UK(l:List UInt8):List Tok×Int×Int:=if l.length>4000 then([],0,2)else nR l 0 false [] 0
theorem Mb:∀(l:List UInt8) (i:Nat) (note:Bool) (out:List Tok) (k:Nat),k≤l.length→nR l i note out k=nR (l.drop k) (i+k) note out 0
 |l,i,note,out,0,_=>by simp
 |[],i,note,out,k+1,h=>by simp at h
 |c::r,i,note,out,k+1,h=>by
  rw[nR,Mb r (i+1) note out k (by simpa using h),List.drop_succ_cons]
  congr 1;omega
theorem EZ:∀(l:List UInt8),(yZ l).2≤l.length
 |[]=>by simp[yZ]
 |c::r=>by
  have h1:(r.takeWhile isW).length≤r.length:=(List.takeWhile_sublist _).length_le;have h2:(r.takeWhile isD).length≤r.length:=(List.takeWhile_sublist _).length_le;simp only[yZ];split
  ·simp;omega
  ·split
   ·simp;omega
   ·split
    ·rename_i h
     cases r with
     |nil=>simp[cE]at h
     |cons d r=>simp
    ·split<;>simp
theorem Hq(l:List UInt8)(h:(yZ l).1≠0):1≤(yZ l).2:=by
 cases l with
 |nil=>simp[yZ]at h
 |cons c r=>
  revert h;simp only[yZ];split
  ·simp
  ·split
   ·simp
   ·split
    ·simp
    ·split<;>simp
theorem Ln(l:List UInt8):(yZ l).1≤3:=by
 cases l with
 |nil=>simp[yZ]
 |cons c r=>
  simp only[yZ];split
  ·simp
  ·split
   ·simp
   ·split
    ·simp
    ·split<;>simp
def uK:List UInt8→Bool→Nat
 |[],_=>0
 |c::r,true=>if c==10 then 1+uK r false else 1+uK r true
 |c::r,false=>if c==37 then 1+uK r true else if Yi c then 1+uK r false else 0
theorem UL:∀(l:List UInt8) (note:Bool),uK l note≤l.length
 |[],_=>by simp[uK]
 |c::r,true=>by
  have h1:=UL r false;have h2:=UL r true;unfold uK;split<;>simp<;>omega
 |c::r,false=>by
  have h1:=UL r false;have h2:=UL r true;unfold uK;split
  ·simp;omega
  ·split<;>simp;omega
theorem eZ:∀(l:List UInt8) (i:Nat) (note:Bool) (out:List Tok),nR l i note out 0=nR (l.drop (uK l note)) (i+uK l note) false out 0
 |[],i,note,out=>by simp[uK,nR]
 |c::r,i,true,out=>by
  rw[nR,if_pos (by simp),uK]
  by_cases h:c=10
  ·subst h
   rw[eZ r (i+1) _ out,if_pos (by simp)]
   simp only[bne_self_eq_false,Nat.add_comm 1,List.drop_succ_cons]
   congr 1;omega
  ·have hb:(c !=10)=true:=by simpa using h
   rw[if_neg (by simpa using h),hb,eZ r (i+1) true out]
   simp only[Nat.add_comm 1,List.drop_succ_cons]
   congr 1;omega
 |c::r,i,false,out=>by
  by_cases h:c=37
  ·subst h
   rw[nR,if_pos (by simp),uK,if_pos (by simp),eZ r (i+1) _ out]
   have:((37:UInt8) !=10)=true:=by decide
   simp only[this,Nat.add_comm 1,List.drop_succ_cons]
   congr 1;omega
  ·by_cases hb:Yi c=true
   ·rw[nR,if_neg (by simpa using h),if_pos hb,uK,if_neg (by simpa using h),if_pos hb,eZ r (i+1) false out]
    simp only[Nat.add_comm 1,List.drop_succ_cons]
    congr 1;omega
   ·have:uK (c::r) false=0:=by rw[uK,if_neg (by simpa using h),if_neg hb]
    rw[this];simp
theorem Yt:∀(l:List UInt8) (note:Bool) (c:UInt8) (r:List UInt8),l.drop (uK l note)=c::r→c≠37∧Yi c=false
 |[],note,c,r,h=>by simp[uK]at h
 |a::l,true,c,r,h=>by
  unfold uK at h
  split at h
  ·rw[Nat.add_comm,List.drop_succ_cons]at h;exact Yt l false c r h
  ·rw[Nat.add_comm,List.drop_succ_cons]at h;exact Yt l true c r h
 |a::l,false,c,r,h=>by
  unfold uK at h
  split at h
  ·rw[Nat.add_comm,List.drop_succ_cons]at h;exact Yt l true c r h
  ·split at h
   ·rw[Nat.add_comm,List.drop_succ_cons]at h;exact Yt l false c r h
   ·rename_i h1 h2
    simp at h
    obtain⟨rfl,rfl⟩:=h;exact⟨by simpa using h1,by simpa using h2⟩
def Zd(kind:Int)(l:List UInt8):Bool:=
 match l with
 |[]=>false
 |c::r=>decide (l.length≤4000)&&decide (((yZ (c::r)).1:Int)=kind)&&decide ((yZ (c::r)).2=l.length)&&decide (nL (yZ (c::r)).1 (yZ (c::r)).2 c=0)
end Go.Proofs.YteimklbiapnfhaaGreat
namespace Go.Proofs.YteimklbiapnfhaaGreat
open Go.RowKit
set_option linter.unusedVariables false
set_option linter.unusedSimpArgs false
def fh(n a b:Int):Bool:=decide (a≤n)&&decide (n≤b)
theorem UM{n a b:Int}:fh n a b=true↔a≤n∧n≤b:=by simp[fh]
theorem qS{n a b:Int}:fh n a b=false↔n<a∨b<n:=by
 unfold fh;rw[Bool.and_eq_false_iff];simp
def V6:List ByteArray:=[bs [118,97,114],bs [99,111,110],bs [115,111,108,118,101],bs [108,101],bs [101,113],bs [110,101],bs [100,105,102,102,101,114],bs [101,108,101,109,101,110,116],bs [116,97,98,108,101],bs [116,105,109,101,115],bs [109,97,120],bs [99,108,97,117,115,101],bs [105,102,102],bs [97,110,121],bs [108,101,97,115,116],bs [109,111,115,116]]
def aA(s:ByteArray):Bool:=Zd 1 s.data.toList&& !V6.any (λu=>u.toList==s.toList)
def wL{α:Type}(f:Nat→α→Int):Nat→List α→Int
 |_,[]=>0
 |i,x::xs=>if f i x=0 then wL f (i+1) xs else f i x
theorem zer{α:Type}{f:Nat→α→Int}{i k:Nat}{xs:List α}{E:Int}(hk:xs.length≤k)(h:wL f i (xs.drop k)=E):E=0:=by
 rw[List.drop_eq_nil_of_le hk]at h;exact h.symm
theorem zcF{α:Type}{f:Nat→α→Int}{i k:Nat}{xs:List α}{E:Int}(hk:k<xs.length)(h:wL f i (xs.drop k)=E)(h0:f i xs[k]≠0):E=f i xs[k]:=by
 rw[List.drop_eq_getElem_cons hk,wL,if_neg h0]at h;exact h.symm
theorem zcG{α:Type}{f:Nat→α→Int}{i k:Nat}{xs:List α}{E:Int}(hk:k<xs.length)(h:wL f i (xs.drop k)=E)(h0:f i xs[k]=0):wL f (i+1) (xs.drop (k+1))=E:=by
 rw[List.drop_eq_getElem_cons hk,wL,if_pos h0]at h;exact h
theorem Hr{α:Type}{f:Nat→α→Int}:∀(xs:List α) (i:Nat),wL f i xs=0→∀(j:Nat) (hj:j<xs.length),f (i+j) xs[j]=0
 |[],i,_,j,hj=>absurd hj (Nat.not_lt_zero _)
 |x::xs,i,h,j,hj=>by
  rw[wL]at h
  by_cases h0:f i x=0
  ·rw[if_pos h0]at h
   cases j with
   |zero=>exact h0
   |succ j=>have:=Hr xs (i+1) h j (by simpa using hj);rw[show i+(j+1)=i+1+j by omega];simpa using this
  ·rw[if_neg h0]at h;exact absurd h h0
def C4(ahead:List vF)(v:vF):Int:=
 if aA v.name=false then 1
 else if(ahead.any λu=>u.name.toList==v.name.toList)=true then 6
 else if(!fh v.lo (-50) 50|| !fh v.hi (-50) 50||decide (v.hi<v.lo))=true then 3
 else if 6≤v.hi-v.lo then 2 else 0
def Qp(l:List vF):Int:=wL (λi v=>C4 (l.take i) v) 0 l
def farB(n:Int):Bool:= !fh n (-1000) 1000
def qC(nv:Nat)(v:Int):Bool:= !fh v 0 ((nv:Int)-1)
def jF(nv:Nat)(l:zC):Int:=if qC nv l.var=true then 5 else if fh l.op 1 4=false then 7 else if farB l.n=true then 3 else 0
def fP(c:zQ):Bool:=
 let v:=c.vars.length;let k:=c.consts.length;let r:=c.rows.length;let l:=c.lits.length
 if 3<c.kind∧c.n≠0 then false
 else if c.kind=1∨c.kind=2∨c.kind=3 then decide (1≤v)&&decide (k=v)&&decide (r=0)&&decide (l=0)
 else if c.kind=4 then decide (1≤v)&&decide (k=0)&&decide (r=0)&&decide (l=0)
 else if c.kind=5 then decide (v=2)&&decide (1≤k)&&decide (r=0)&&decide (l=0)
 else if c.kind=6 then(c.rows.all λr=>decide (r.length=v))&&decide (1≤v)&&decide (k=0)&&decide (l=0)
 else if c.kind=7 then decide (v=3)&&decide (k=0)&&decide (r=0)&&decide (l=0)
 else if c.kind=8 then decide (2≤v)&&decide (k=0)&&decide (r=0)&&decide (l=0)
 else if c.kind=9 then decide (v=0)&&decide (k=0)&&decide (r=0)
 else decide (v=1)&&decide (k=0)&&decide (r=0)&&decide (l=1)
def Vz(c:zQ):Bool:=decide (4<c.vars.length)||decide (4<c.lits.length)||decide (8<c.consts.length)||decide (20<c.rows.length)
def opE(l:zC):Int:=if fh l.op 1 4=false then 7 else if farB l.n=true then 3 else 0
def Yu(nv:Nat)(c:zQ):Int:=
 if fh c.kind 1 10=false then 7
 else if Vz c=true then 2
 else if fP c=false then 1
 else if(c.vars.any (qC nv)||c.lits.any λl=>qC nv l.var)=true then 5
 else if(c.consts.any farB||farB c.n||c.rows.any λr=>r.any farB)=true then 3
 else wL (λ_ l=>opE l) 0 c.lits
def VA(m:zF):Int:=
 if fh m.goal 0 2=false then 7 else if m.goal=0∧m.var≠0 then 1 else if m.goal≠0∧qC m.vars.length m.var=true then 5 else 0
def wN(m:zF):Int:=
 if m.vars.length=0 then 1
 else if 6<m.vars.length∨8<m.cons.length then 2
 else if Qp m.vars≠0 then Qp m.vars
 else if wL (λ_ c=>Yu m.vars.length c) 0 m.cons≠0 then wL (λ_ c=>Yu m.vars.length c) 0 m.cons
 else VA m
end Go.Proofs.YteimklbiapnfhaaGreat
namespace Go.Proofs.YteimklbiapnfhaaGreat
open Go.RowKit
set_option linter.unusedVariables false
set_option linter.unusedSimpArgs false
theorem aP(n:Nat)(hn:n<256)(w:World):Calls Tryz.prog 208 #[.int .u8 n] w λe w'=>e=.returned (.bool (Vb n))∧w=w':=by
 go_enter Tryz.func208,Tryz.ntmps208
 go_wp2
 all_goals go_ret
 all_goals exact⟨fJ (by rw[Bool.eq_iff_iff];simp[Vb];try omega),rfl⟩
theorem Wo(n:Nat)(hn:n<256)(w:World):Calls Tryz.prog 211 #[.int .u8 n] w λe w'=>e=.returned (.bool (isDN n))∧w=w':=by
 go_enter Tryz.func211,Tryz.ntmps211
 go_wp2
 all_goals go_ret
 all_goals exact⟨fJ (by rw[Bool.eq_iff_iff];simp[isDN];try omega),rfl⟩
theorem Hs(n a b:Int)(w:World):Calls Tryz.prog 79 #[.int .i64 n,.int .i64 a,.int .i64 b] w λe w'=>e=.returned (.bool (decide (a≤n)&&decide (n≤b)))∧w=w':=by
 go_enter Tryz.func79,Tryz.ntmps79
 go_wp2
 all_goals go_ret
 all_goals exact⟨fJ (by rw[Bool.eq_iff_iff];simp;try omega),rfl⟩
theorem kJ(n:Nat)(hn:n<256)(w:World):Calls Tryz.prog 182 #[.int .u8 n] w λe w'=>e=.returned (.bool (Vb n))∧w=w':=by
 go_enter Tryz.func182,Tryz.ntmps182
 go_wp2_with (go_at_call 79;refine(Hs _ _ _ _).mono ?_;rintro e w' ⟨rfl,rfl⟩)
 go_ret
 exact⟨fJ (by rw[Bool.eq_iff_iff];simp[Vb];try omega),rfl⟩
theorem iJ(n:Nat)(hn:n<256)(w:World):Calls Tryz.prog 183 #[.int .u8 n] w λe w'=>e=.returned (.bool (isDN n))∧w=w':=by
 go_enter Tryz.func183,Tryz.ntmps183
 go_wp2_with (go_at_call 79;refine(Hs _ _ _ _).mono ?_;rintro e w' ⟨rfl,rfl⟩)
 go_ret
 exact⟨fJ (by rw[Bool.eq_iff_iff];simp[isDN];try omega),rfl⟩
theorem zkF(n:Nat)(hn:n<256)(w:World):Calls Tryz.prog 210 #[.int .u8 n] w λe w'=>e=.returned (.bool (Vb n||isDN n))∧w=w':=by
 cases hl:Vb n with
 |true=>
  go_enter Tryz.func210,Tryz.ntmps210
  go_wp2_with (go_at_call 208;refine(aP _ hn _).mono ?_;rintro e w' ⟨rfl,rfl⟩)
  go_ret
  exact⟨by simp,rfl⟩
 |false=>
  go_enter Tryz.func210,Tryz.ntmps210
  go_wp2_with (first|(go_at_call 208;refine(aP _ hn _).mono ?_;rintro e w' ⟨rfl,rfl⟩)|(go_at_call 211;refine(Wo _ hn _).mono ?_;rintro e w' ⟨rfl,rfl⟩))
  go_ret
  exact⟨by simp,rfl⟩
theorem Ob{c:UInt8}{k:Nat}(hk:k<256)(h:c=UInt8.ofNat k):((c.toNat:Int)==(k:Int))=true:=by
 subst h;simp;omega
theorem YG{c:UInt8}{k:Nat}(hk:k<256)(h:c≠UInt8.ofNat k):((c.toNat:Int)==(k:Int))=false:=by
 rw[beq_eq_false_iff_ne];intro e;exact h (by rw[←UInt8.toNat_inj];simp;omega)
theorem Qq{c:UInt8}{r:List UInt8}{l:List UInt8}{i n:Nat}(hd:l.drop i=c::l.drop (i+1))(h37:c≠37)(hb:Yi c=true)(h:i+uK (l.drop i) false=n):i+1+uK (l.drop (i+1)) false=n:=by
 rw[hd,uK,if_neg (by simpa using h37),if_pos hb]at h;omega
theorem zes{c:UInt8}{l:List UInt8}{i n:Nat}(hd:l.drop i=c::l.drop (i+1))(h37:c≠37)(hb:Yi c=false)(h:i+uK (l.drop i) false=n):i=n:=by
 rw[hd,uK,if_neg (by simpa using h37),if_neg (by simp[hb])]at h;omega
theorem zet{l:List UInt8}{i n:Nat}(hd:l.drop i=37::l.drop (i+1))(h:i+uK (l.drop i) false=n):i+uK (l.drop i) true=n:=by
 rw[hd,uK,if_pos (by simp)]at h
 rw[hd,uK,if_neg (by decide)];exact h
theorem zkG{c:UInt8}{l:List UInt8}{i n:Nat}(hd:l.drop i=c::l.drop (i+1))(h10:c≠10)(h:i+uK (l.drop i) true=n):i+1+uK (l.drop (i+1)) true=n:=by
 rw[hd,uK,if_neg (by simpa using h10)]at h;omega
theorem ziJ{l:List UInt8}{i n:Nat}(hd:l.drop i=10::l.drop (i+1))(h:i+uK (l.drop i) true=n):i+uK (l.drop i) false=n:=by
 rw[hd,uK,if_pos (by simp)]at h
 rw[hd,uK,if_neg (by decide),if_pos (by decide)];exact h
theorem Ao{l:List UInt8}{i n:Nat}(hl:l.length≤i)(note:Bool)(h:i+uK (l.drop i) note=n):i=n∧i+uK (l.drop i) false=n:=by
 rw[List.drop_of_length_le hl]at h⊢
 simp[uK]at h⊢;exact h
set_option maxHeartbeats 1000000 in
theorem zcH(g:Nat)(s:ByteArray)(i0:Nat)(w:World)(hs:s.size≤4000)(h0:i0≤s.size)(hb:vE w g 211 #[.string s,.int .i64 i0]):
  Calls Tryz.prog 204 #[.pointer (some ⟨g,0,none⟩)] w λe w'=>e=.returned (.tuple #[])∧
   vE w' g 211 #[.string s,.int .i64 ↑(i0+uK (s.data.toList.drop i0) false)]∧w.grownBy w' (some g):=by
 go_enter Tryz.func204,Tryz.ntmps204
 go_wp2
 go_loopg [] (s.size) (λk wr=>∃i:Nat,i≤s.size∧s.size-i≤k∧Hid (vE wr g 211 #[.string s,.int .i64 i])∧Hid (i+uK (s.data.toList.drop i) false=i0+uK (s.data.toList.drop i0) false)∧w.grownBy wr (some g))
 case atStart=>exact⟨i0,h0,by omega,hb,rfl,World.grownBy.refl _ _⟩
 case round=>
  obtain⟨i,hi,hk,hB,hE,hG⟩:=hrel;obtain⟨wo,rfl⟩:∃wo:World,wo=wr:=⟨_,rfl⟩;have c0:wo.cell? ⟨g,0,none⟩=some (.string s):=hB.out.cell 0;have c1:wo.cell? ⟨g,1,none⟩=some (.int .i64 i):=hB.out.cell 1;have f1:wo.frozen? ⟨g,1,none⟩=false:=hB.out.frozen 1;clear h0 hb
  by_cases hlt:i<s.size
  ·have hlt':(i:Int)<(s.size:Int):=by omega
   have hd:=Lib.hid (jT s i hlt)
   by_cases e37:s[i]=37
   ·have y37:=Ob (k:=37) (by omega) e37
    have n32:=YG (c:=s[i]) (k:=32) (by omega) (by rw[e37];decide)
    have n9:=YG (c:=s[i]) (k:=9) (by omega) (by rw[e37];decide)
    have n10:=YG (c:=s[i]) (k:=10) (by omega) (by rw[e37];decide)
    have E37:=Lib.hid e37;clear e37
    go_wp2
    go_quiet (fail)
    go_wp2
    go_quiet (fail)
    go_wp2
    go_loopg [] (s.size) (λk wq=>∃j:Nat,i≤j∧j≤s.size∧s.size-j≤k∧Hid (vE wq g 211 #[.string s,.int .i64 j])∧Hid (j+uK (s.data.toList.drop j) true=i0+uK (s.data.toList.drop i0) false)∧w.grownBy wq (some g))
    case atStart=>exact⟨i,by omega,hi,by omega,hB.out.drewN _,zet (by rw[hd.out,E37.out]) hE.out,vL hG _⟩
    case round=>
     obtain⟨j,hij,hj,hk2,hB2,hE2,hG2⟩:=hrel;have d0:wr.cell? ⟨g,0,none⟩=some (.string s):=hB2.out.cell 0;have d1:wr.cell? ⟨g,1,none⟩=some (.int .i64 j):=hB2.out.cell 1;have d2:wr.frozen? ⟨g,1,none⟩=false:=hB2.out.frozen 1;clear hB hE hG c0 c1 f1
     by_cases hjl:j<s.size
     ·have hjl':(j:Int)<(s.size:Int):=by omega
      have hd2:=Lib.hid (jT s j hjl)
      by_cases e10:s[j]=10
      ·have y10':((s[j].toNat:Int) !=10)=false:=by rw[e10];decide
       have hne:i≠j:=by
        rintro rfl;have:=E37.out;rw[e10]at this
        exact absurd this (by decide)
       have E10:=Lib.hid e10;clear e10 y37 n32 n9 n10
       go_wp2
       go_quiet (fail)
       go_wp2
       go_roundg (s.size-j)
       case measure=>omega
       case rel=>exact⟨j,by omega,by omega,hB2.out.drewN _,ziJ (by rw[hd2.out,E10.out]) hE2.out,vL hG2 _⟩
      ·have y10':((s[j].toNat:Int) !=10)=true:=by
        rw[bne_iff_ne];intro e;exact e10 (by rw[←UInt8.toNat_inj];simp;omega)
       have E10:=Lib.hid e10;clear e10 y37 n32 n9 n10
       go_wp2
       go_quiet (fail)
       go_wp2
       go_roundg (s.size-(j+1))
       case measure=>omega
       case rel=>exact⟨j+1,by omega,by omega,by omega,(hB2.out.drewN _).set_ 1 _,zkG hd2.out E10.out hE2.out,tL (vL hG2 _) (.inl rfl) _⟩
     ·have hjl':decide ((j:Int)<(s.size:Int))=false:=by simp;omega
      clear y37 n32 n9 n10
      go_wp2
      go_quiet (fail)
      go_wp2
      go_roundg (s.size-j)
      case measure=>omega
      case rel=>exact⟨j,by omega,by omega,hB2.out.drewN _,(Ao (by simpa using hjl) true hE2.out).2,vL hG2 _⟩
   ·have n37:=YG (k:=37) (by omega) e37
    have N37:=Lib.hid e37;clear e37
    by_cases e32:s[i]=32
    ·have y32:=Ob (k:=32) (by omega) e32
     have hbl:Yi s[i]=true:=by simp[Yi,e32]
     have BL:=Lib.hid hbl;clear e32 n37 hbl
     go_wp2
     go_quiet (fail)
     go_wp2
     go_quiet (fail)
     go_wp2
     go_roundg (s.size-(i+1))
     case measure=>omega
     case rel=>exact⟨i+1,by omega,by omega,(hB.out.drewN _).set_ 1 _,Qq (r:=[]) hd.out N37.out BL.out hE.out,tL (vL hG _) (.inl rfl) _⟩
    ·have n32:=YG (k:=32) (by omega) e32
     by_cases e9:s[i]=9
     ·have y9:=Ob (k:=9) (by omega) e9
      have hbl:Yi s[i]=true:=by simp[Yi,e9]
      have BL:=Lib.hid hbl;clear e9 e32 n37 hbl
      go_wp2
      go_quiet (fail)
      go_wp2
      go_quiet (fail)
      go_wp2
      go_roundg (s.size-(i+1))
      case measure=>omega
      case rel=>exact⟨i+1,by omega,by omega,(hB.out.drewN _).set_ 1 _,Qq (r:=[]) hd.out N37.out BL.out hE.out,tL (vL hG _) (.inl rfl) _⟩
     ·have n9:=YG (k:=9) (by omega) e9
      by_cases e10:s[i]=10
      ·have y10:=Ob (k:=10) (by omega) e10
       have hbl:Yi s[i]=true:=by simp[Yi,e10]
       have BL:=Lib.hid hbl;clear e10 e9 e32 n37 hbl
       go_wp2
       go_quiet (fail)
       go_wp2
       go_quiet (fail)
       go_wp2
       go_roundg (s.size-(i+1))
       case measure=>omega
       case rel=>exact⟨i+1,by omega,by omega,(hB.out.drewN _).set_ 1 _,Qq (r:=[]) hd.out N37.out BL.out hE.out,tL (vL hG _) (.inl rfl) _⟩
      ·have n10:=YG (k:=10) (by omega) e10
       have hbl:Yi s[i]=false:=by simp[Yi,e10,e9,e32]
       have BL:=Lib.hid hbl;clear e10 e9 e32 hbl
       go_wp2
       go_quiet (fail)
       go_wp2
       go_quiet (fail)
       go_wp2
       have hfin:=zes hd.out N37.out BL.out hE.out;rw[←hfin];refine bodyPost_ret (results_none rfl _ _ _) rfl ?_;exact⟨rfl,hB.out.drewN _,vL hG _⟩
  ·have hlt':¬(i:Int)<(s.size:Int):=by omega
   go_wp2
   go_quiet (fail)
   go_wp2
   have hfin:=(Ao (by simpa using hlt) false hE.out).1
   rw[←hfin]
   go_end0
   exact⟨rfl,hB.out.drewN _,vL hG _⟩
end Go.Proofs.YteimklbiapnfhaaGreat
namespace Go.Proofs.YteimklbiapnfhaaGreat
open Go.RowKit
set_option linter.unusedVariables false
set_option linter.unusedSimpArgs false
def zeu{α:Type}(p:α→Bool)(xs:List α):Int:=match xs.findIdx? p with|some i=>i|none=> -1
theorem zkH{α:Type}{p:α→Bool}{xs:List α}{k:Nat}(hk:k<xs.length)(h:∀j (hj:j<k),p (xs[j]'(by omega))=false)(hp:p xs[k]=true):zeu p xs=k:=by
 unfold zeu
 have:xs.findIdx? p=some k:=by
  rw[List.findIdx?_eq_some_iff_getElem];exact⟨hk,hp,λj hj=>by simp[h j hj]⟩
 rw[this]
theorem ziK{α:Type}{p:α→Bool}{xs:List α}(h:∀j (hj:j<xs.length),p xs[j]=false):zeu p xs= -1:=by
 unfold zeu
 have:xs.findIdx? p=none:=by
  rw[List.findIdx?_eq_none_iff];intro x hx;obtain⟨j,hj,rfl⟩:=List.getElem_of_mem hx;exact h j hj
 rw[this]
theorem zkI{α:Type}(p:α→Bool)(xs:List α):decide (0≤zeu p xs)=xs.any p:=by
 unfold zeu;rw[Bool.eq_iff_iff];cases h:xs.findIdx? p with
 |none=>
  rw[List.findIdx?_eq_none_iff]at h
  simp only[decide_eq_true_eq,List.any_eq_true];constructor
  ·intro h';omega
  ·rintro⟨x,hx,hp⟩;simp[h x hx]at hp
 |some i=>
  rw[List.findIdx?_eq_some_iff_getElem]at h
  obtain⟨hi,hp,_⟩:=h;simp only[decide_eq_true_eq,List.any_eq_true];exact⟨λ_=>⟨_,List.getElem_mem hi,hp⟩,λ_=>by omega⟩
def zoI{α:Type}[xT α](P:Program)(F:FuncId)(lb:Array Value)(w:World)(xs:List α)(p:α→Bool):Prop:=
 ∀(W:World) (v:Value) (x:α),x∈xs→Below w.heap.size w W→Rds W v x→Calls P F (#[v]++lb) W λe W'=>e=.returned (.bool (p x))∧Below W.heap.size W W'
section
variable {w:World}{S:Nat→Prop}
end
theorem C5(F:FuncId)(lb:Array Value)(eg:∀args w,(callFunc F args).run Tryz.prog w=.ok (.enter F args) w)(v:Value)(xs:List (ByteArray))(p:ByteArray→Bool)(w:World)(hr:Rds w v xs)(hf:zoI Tryz.prog F lb w xs p):
  Calls Tryz.prog 217 #[v,.func (.func F) #[] lb] w λe w'=>e=.returned (.int .i64 (zeu p xs))∧Below w.heap.size w w':=by
 obtain⟨A,c,rfl,hsl⟩:=sZ hr;have hlen:xs.length≤9223372036854775807:=Nat.le_trans hsl.cap hsl.max;clear hsl
 go_enter Tryz.func217,Tryz.ntmps217
 go_wp2_with fail
 go_loopg [5,8] xs.length (λgg s5 s8 wr=>∃k:Nat,k≤xs.length∧xs.length-k≤gg∧s8=.int .i64 k∧Below w.heap.size w wr∧Aside (∀j (hj:j<k) (hl:j<xs.length),p xs[j]=false))
 case atStart=>exact⟨0,Nat.zero_le _,by omega,rfl,Below.refl _ _,λj hj=>absurd hj (Nat.not_lt_zero _)⟩
 case round=>
  obtain⟨k,hk,hg,rfl,hB,hN⟩:=hrel
  by_cases hlt:k<xs.length
  ·have hlt':(k:Int)<(xs.length:Int):=by omega
   obtain⟨b,o,rfl,hb,c0,q0⟩:=zd0 (hr.below hB) hlt;have hcall:=hf wr (.string xs[k]) xs[k] (List.getElem_mem hlt) hB (zdZ q0);cases hq:p xs[k]with
   |true=>
    rw[hq]at hcall
    have HC:=Lib.hid hcall;have HQ:=Lib.hid hq;have HF:=Lib.hid hf;clear hcall hq hf
    go_wp2_with (go_at_fn F;refine HC.out.mono ?_;rintro e w1 ⟨rfl,hb1⟩)
    go_ret
    exact⟨by rw[zkH hlt (λj hj=>hN.out j hj (by omega)) HQ.out];rfl,M1 hB hb1⟩
   |false=>
    rw[hq]at hcall
    have HC:=Lib.hid hcall;have HQ:=Lib.hid hq;have HF:=Lib.hid hf;clear hcall hq hf
    go_wp2_with (go_at_fn F;refine HC.out.mono ?_;rintro e w1 ⟨rfl,hb1⟩)
    go_roundg (xs.length-(k+1))
    case measure=>omega
    case rel=>
     refine⟨k+1,by omega,by omega,by go_num,M1 hB hb1,(show Aside _ from λj hj hl=> ?_)⟩
     by_cases e:j=k
     ·subst e;exact HQ.out
     ·exact hN.out j (by omega) hl
  ·have hlt':¬(k:Int)<(xs.length:Int):=by omega
   obtain rfl:k=xs.length:=by omega
   have HF:=Lib.hid hf;clear hf
   go_wp2_with fail
   go_ret
   exact⟨by rw[ziK (λj hj=>hN.out j hj hj)];rfl,hB⟩
theorem Jw(F:FuncId)(lb:Array Value)(eg:∀args w,(callFunc F args).run Tryz.prog w=.ok (.enter F args) w)(v:Value)(xs:List (ByteArray))(p:ByteArray→Bool)(w:World)(hr:Rds w v xs)(hf:zoI Tryz.prog F lb w xs p):
  Calls Tryz.prog 212 #[v,.func (.func F) #[] lb] w λe w'=>e=.returned (.bool (xs.any p))∧Below w.heap.size w w':=by
 rw[←zkI];have HC:=Lib.hid (C5 F lb eg v xs p w hr hf);clear hf hr
 go_enter Tryz.func212,Tryz.ntmps212
 go_wp2_with (go_at_call 217;refine HC.out.mono ?_;rintro e w1 ⟨rfl,hb1⟩)
 go_ret
 exact⟨rfl,hb1⟩
end Go.Proofs.YteimklbiapnfhaaGreat
namespace Go.Proofs
open Go.Shelf
set_option linter.unusedVariables false
set_option linter.unusedSimpArgs false
def Tryz.lays137_ren:Go.Shelf.Ren:=⟨fun|137=>216|217=>219|266=>220|n=>n,fun|9=>9|5=>5|3=>3|n=>n,fun|n=>n⟩
theorem Tryz.lays137:Go.Proofs.Lays.n137 Tryz.prog Tryz.lays137_ren:= {
 mixed:=by kernel_rfl
 f137:=Tryz.func216.trans (congrArg some (by kernel_rfl))
 f217:=Tryz.func219.trans (congrArg some (by kernel_rfl))
 f266:=Tryz.func220.trans (congrArg some (by kernel_rfl))
 t3:=Tryz.underlying3
 a3:=Tryz.isAgg3
 z3:=Tryz.sizeOf3
 v3:=Tryz.zeroValue3
 t5:=Tryz.underlying5
 a5:=Tryz.isAgg5
 z5:=Tryz.sizeOf5
 v5:=Tryz.zeroValue5
 t9:=Tryz.underlying9
 a9:=Tryz.isAgg9
 z9:=Tryz.sizeOf9
 v9:=Tryz.zeroValue9}
open Go.RowKit in
theorem Tryz.strings_IndexByte(s:ByteArray)(c:Int)(w:World):
  Calls Tryz.prog 216 #[.string s,.int .u8 c] w λe w'=>e=.returned (.int .i64 (Lib.indexByte s.data.toList c.toNat.toUInt8))∧w'=w:=Any.strings_IndexByte Tryz.lays137 s c w
def Tryz.lays189_ren:Go.Shelf.Ren:=⟨fun|189=>141|125=>178|257=>177|128=>195|129=>196|294=>186|295=>187|296=>188|297=>189|298=>190|299=>191|216=>192|300=>193|301=>194|328=>198|329=>199|330=>200|331=>201|332=>202|215=>203|343=>206|n=>n,fun|28=>62|3=>3|46=>182|0=>0|51=>195|53=>197|4=>4|183=>189|182=>188|131=>183|5=>5|9=>9|218=>203|222=>207|228=>214|229=>169|n=>n,fun|n=>n⟩
theorem Tryz.lays189:Go.Proofs.Lays.n189 Tryz.prog Tryz.lays189_ren:= {
 mixed:=by kernel_rfl
 f125:=Tryz.func178.trans (congrArg some (by kernel_rfl))
 f128:=Tryz.func195.trans (congrArg some (by kernel_rfl))
 f129:=Tryz.func196.trans (congrArg some (by kernel_rfl))
 f189:=Tryz.func141.trans (congrArg some (by kernel_rfl))
 f215:=Tryz.func203.trans (congrArg some (by kernel_rfl))
 f216:=Tryz.func192.trans (congrArg some (by kernel_rfl))
 f257:=Tryz.func177.trans (congrArg some (by kernel_rfl))
 f294:=Tryz.func186.trans (congrArg some (by kernel_rfl))
 f295:=Tryz.func187.trans (congrArg some (by kernel_rfl))
 f296:=Tryz.func188.trans (congrArg some (by kernel_rfl))
 f297:=Tryz.func189.trans (congrArg some (by kernel_rfl))
 f298:=Tryz.func190.trans (congrArg some (by kernel_rfl))
 f299:=Tryz.func191.trans (congrArg some (by kernel_rfl))
 f300:=Tryz.func193.trans (congrArg some (by kernel_rfl))
 f301:=Tryz.func194.trans (congrArg some (by kernel_rfl))
 f328:=Tryz.func198.trans (congrArg some (by kernel_rfl))
 f329:=Tryz.func199.trans (congrArg some (by kernel_rfl))
 f330:=Tryz.func200.trans (congrArg some (by kernel_rfl))
 f331:=Tryz.func201.trans (congrArg some (by kernel_rfl))
 f332:=Tryz.func202.trans (congrArg some (by kernel_rfl))
 f343:=Tryz.func206.trans (congrArg some (by kernel_rfl))
 t0:=Tryz.underlying0
 a0:=Tryz.isAgg0
 z0:=Tryz.sizeOf0
 v0:=Tryz.zeroValue0
 t3:=Tryz.underlying3
 a3:=Tryz.isAgg3
 z3:=Tryz.sizeOf3
 v3:=Tryz.zeroValue3
 t4:=Tryz.underlying4
 a4:=Tryz.isAgg4
 z4:=Tryz.sizeOf4
 v4:=Tryz.zeroValue4
 t5:=Tryz.underlying5
 a5:=Tryz.isAgg5
 z5:=Tryz.sizeOf5
 v5:=Tryz.zeroValue5
 t9:=Tryz.underlying9
 a9:=Tryz.isAgg9
 z9:=Tryz.sizeOf9
 v9:=Tryz.zeroValue9
 t28:=Tryz.underlying62
 a28:=Tryz.isAgg62
 z28:=Tryz.sizeOf62
 v28:=Tryz.zeroValue62
 t46:=Tryz.underlying182
 a46:=Tryz.isAgg182
 z46:=Tryz.sizeOf182
 v46:=Tryz.zeroValue182
 t51:=Tryz.underlying195
 a51:=Tryz.isAgg195
 z51:=Tryz.sizeOf195
 v51:=Tryz.zeroValue195
 t53:=Tryz.underlying197
 a53:=Tryz.isAgg197
 z53:=Tryz.sizeOf197
 v53:=Tryz.zeroValue197
 t131:=Tryz.underlying183
 a131:=Tryz.isAgg183
 z131:=Tryz.sizeOf183
 v131:=Tryz.zeroValue183
 t182:=Tryz.underlying188
 a182:=Tryz.isAgg188
 z182:=Tryz.sizeOf188
 v182:=Tryz.zeroValue188
 t183:=Tryz.underlying189
 a183:=Tryz.isAgg189
 z183:=Tryz.sizeOf189
 v183:=Tryz.zeroValue189
 t218:=Tryz.underlying203
 a218:=Tryz.isAgg203
 z218:=Tryz.sizeOf203
 v218:=Tryz.zeroValue203
 t222:=Tryz.underlying207
 a222:=Tryz.isAgg207
 z222:=Tryz.sizeOf207
 v222:=Tryz.zeroValue207
 t228:=Tryz.underlying214
 a228:=Tryz.isAgg214
 z228:=Tryz.sizeOf214
 v228:=Tryz.zeroValue214
 t229:=Tryz.underlying169
 a229:=Tryz.isAgg169
 z229:=Tryz.sizeOf169
 v229:=Tryz.zeroValue169}
open Go.Sort Go.RowKit in
theorem Tryz.slices_Sort_int(blk off cap:Nat)(zs:List Int)(w:World)(hH:Holds (Value.int .i64) w blk off zs.toArray)(hblk:blk<w.heap.size)(hsz:zs.length<4611686018427387904):
  Calls Tryz.prog 141 #[.slice (some ⟨blk,off,none⟩) zs.length cap] w λe w'=>
   e=.returned (.tuple #[])∧∃n os,w'=grow (putRow (Value.int .i64) (Sort.ahead w n) blk off (zs.mergeSort λx y=>decide (x≤y)).toArray) os:=Any.slices_Sort_int Tryz.lays189 blk off cap zs w hH hblk hsz
def Tryz.lays99_ren:Go.Shelf.Ren:=⟨fun|99=>215|206=>218|n=>n,fun|9=>9|4=>4|3=>3|n=>n,fun|n=>n⟩
theorem Tryz.lays99:Go.Proofs.Lays.n99 Tryz.prog Tryz.lays99_ren:= {
 mixed:=by kernel_rfl
 f99:=Tryz.func215.trans (congrArg some (by kernel_rfl))
 f206:=Tryz.func218.trans (congrArg some (by kernel_rfl))
 t3:=Tryz.underlying3
 a3:=Tryz.isAgg3
 z3:=Tryz.sizeOf3
 v3:=Tryz.zeroValue3
 t4:=Tryz.underlying4
 a4:=Tryz.isAgg4
 z4:=Tryz.sizeOf4
 v4:=Tryz.zeroValue4
 t9:=Tryz.underlying9
 a9:=Tryz.isAgg9
 z9:=Tryz.sizeOf9
 v9:=Tryz.zeroValue9}
open Go.RowKit Go.Lib in
theorem Tryz.strings_HasPrefix(s p:ByteArray)(w:World):
  Calls Tryz.prog 215 #[.string s,.string p] w λe w'=>e=.returned (.bool (Lib.hasPrefix s.data.toList p.data.toList))∧w'=w:=Any.strings_HasPrefix Tryz.lays99 s p w
def Tryz.lays110_ren:Go.Shelf.Ren:=⟨fun|110=>169|109=>185|n=>n,fun|31=>171|9=>9|4=>4|3=>3|0=>0|n=>n,fun|n=>n⟩
theorem Tryz.lays110:Go.Proofs.Lays.n110 Tryz.prog Tryz.lays110_ren:= {
 mixed:=by kernel_rfl
 f109:=Tryz.func185.trans (congrArg some (by kernel_rfl))
 f110:=Tryz.func169.trans (congrArg some (by kernel_rfl))
 t0:=Tryz.underlying0
 a0:=Tryz.isAgg0
 z0:=Tryz.sizeOf0
 v0:=Tryz.zeroValue0
 t3:=Tryz.underlying3
 a3:=Tryz.isAgg3
 z3:=Tryz.sizeOf3
 v3:=Tryz.zeroValue3
 t4:=Tryz.underlying4
 a4:=Tryz.isAgg4
 z4:=Tryz.sizeOf4
 v4:=Tryz.zeroValue4
 t9:=Tryz.underlying9
 a9:=Tryz.isAgg9
 z9:=Tryz.sizeOf9
 v9:=Tryz.zeroValue9
 t31:=Tryz.underlying171
 a31:=Tryz.isAgg171
 z31:=Tryz.sizeOf171
 v31:=Tryz.zeroValue171}
open Go.Lib in
theorem Tryz.slices_Contains_string(b off n c:Nat)(zs:List ByteArray)(x:ByteArray)(w:World)(hz:n≤zs.length)(hbig:n≤9223372036854775807)(hc:∀j,j<zs.length→w.cell? ⟨b,off+j,none⟩=some (.string (zs.getD j ByteArray.empty))):
  Calls Tryz.prog 169 #[.slice (some ⟨b,off,none⟩) n c,.string x] w λe w'=>e=.returned (.bool (Lib.containsS (zs.take n) x))∧w'=w:=Any.slices_Contains_string Tryz.lays110 b off n c zs x w hz hbig hc
def Tryz.laysNm220_ren:Go.Shelf.Ren:=⟨fun|20=>142|n=>n,fun|22=>62|3=>3|4=>4|0=>0|n=>n,fun|n=>n⟩
theorem Tryz.laysNm220:Go.Proofs.Lays2.n20 Tryz.prog Tryz.laysNm220_ren:= {
 mixed:=by kernel_rfl
 f20:=Tryz.func142.trans (congrArg some (by kernel_rfl))
 t0:=Tryz.underlying0
 a0:=Tryz.isAgg0
 z0:=Tryz.sizeOf0
 v0:=Tryz.zeroValue0
 t3:=Tryz.underlying3
 a3:=Tryz.isAgg3
 z3:=Tryz.sizeOf3
 v3:=Tryz.zeroValue3
 t4:=Tryz.underlying4
 a4:=Tryz.isAgg4
 z4:=Tryz.sizeOf4
 v4:=Tryz.zeroValue4
 t22:=Tryz.underlying62
 a22:=Tryz.isAgg62
 z22:=Tryz.sizeOf62
 v22:=Tryz.zeroValue62
 i3:=by kernel_rfl}
open Go.RowKit Go.Lib Go.Sort in
theorem Tryz.slices_Compact_int(blk off cap:Nat)(zs:List Int)(w:World)(hH:Holds (Value.int .i64) w blk off zs.toArray)(hsz:zs.length≤9223372036854775807)(hcap:zs.length≤cap):
  Calls Tryz.prog 142 #[.slice (some ⟨blk,off,none⟩) zs.length cap] w λe w'=>e=.returned (.slice (some ⟨blk,off,none⟩) (Lib.compact zs).length cap)∧∃q,w'=putRow (Value.int .i64) (Sort.ahead w q) blk off (Lib.compact zs++List.replicate (zs.length-(Lib.compact zs).length) 0).toArray:=Any.slices_Compact_int Tryz.laysNm220 blk off cap zs w hH hsz hcap
open Go.RowKit Go.Lib Go.Sort in
theorem Tryz.slices_Compact_int_empty(a:Option Addr)(cap:Nat)(w:World):
  Calls Tryz.prog 142 #[.slice a 0 cap] w λe w'=>e=.returned (.slice a 0 cap)∧w'=w:=Any.slices_Compact_int_empty Tryz.laysNm220 a cap w
open Go.RowKit Go.Sort in
theorem Tryz.slices_Sort_int_none(p:Option Addr)(cap:Nat)(w:World):
  Calls Tryz.prog 141 #[.slice p 0 cap] w λe w'=>e=.returned (.tuple #[])∧w'=w:=Any.slices_Sort_int_none Tryz.lays189 p cap w
end Go.Proofs
namespace Go.Proofs.YteimklbiapnfhaaGreat
open Go.RowKit
set_option linter.unusedVariables false
set_option linter.unusedSimpArgs false
set_option maxHeartbeats 400000 in
theorem Qr(g:Nat)(s:ByteArray)(i:Nat)(w:World)(hs:s.size≤4000)(h0:i<s.size)(hb:vE w g 211 #[.string s,.int .i64 i]):
  Calls Tryz.prog 207 #[.pointer (some ⟨g,0,none⟩)] w λe w'=>e=.returned (.int .u8 s[i].toNat)∧∃q,w'=w.drewN q:=by
 have c0:w.cell? ⟨g,0,none⟩=some (.string s):=hb.cell 0;have c1:w.cell? ⟨g,1,none⟩=some (.int .i64 i):=hb.cell 1;have hlt':(i:Int)<(s.size:Int):=by omega
 clear hb
 go_enter Tryz.func207,Tryz.ntmps207
 go_wp2
 go_quiet (fail)
 go_wp2
 go_quiet (fail)
 go_wp2
 go_ret
 exact⟨rfl,_,World.drewN_drewN _ _ _⟩
theorem zhq{p:UInt8→Bool}{l:List UInt8}{c:UInt8}{j n:Nat}(hd:l.drop j=c::l.drop (j+1))(hp:p c=true)(h:j+((l.drop j).takeWhile p).length=n):j+1+((l.drop (j+1)).takeWhile p).length=n:=by
 rw[hd,List.takeWhile_cons,if_pos hp]at h;simp at h;omega
theorem zev{p:UInt8→Bool}{l:List UInt8}{c:UInt8}{j n:Nat}(hd:l.drop j=c::l.drop (j+1))(hp:p c=false)(h:j+((l.drop j).takeWhile p).length=n):j=n:=by
 rw[hd,List.takeWhile_cons,if_neg (by simp[hp])]at h;simp at h;omega
theorem zew{p:UInt8→Bool}{l:List UInt8}{j n:Nat}(hl:l.length≤j)(h:j+((l.drop j).takeWhile p).length=n):j=n:=by
 rw[List.drop_of_length_le hl]at h;simpa using h
theorem zcI{p:UInt8→Bool}{l:List UInt8}{j:Nat}(hj:j≤l.length):j+((l.drop j).takeWhile p).length≤l.length:=by
 have:=(List.takeWhile_sublist p (l:=l.drop j)).length_le;simp at this;omega
set_option maxHeartbeats 1000000 in
theorem zhr(F:FuncId)(p:Nat→Bool)(eg:∀args w,(callFunc F args).run Tryz.prog w=.ok (.enter F args) w)(hf:∀n:Nat,n<256→∀W,Calls Tryz.prog F #[.int .u8 n] W λe w'=>e=.returned (.bool (p n))∧W=w')
  (g:Nat) (s:ByteArray) (i:Nat) (w:World) (hs:s.size≤4000) (h0:i≤s.size) (hb:vE w g 211 #[.string s,.int .i64 i]):
  Calls Tryz.prog 209 #[.pointer (some ⟨g,0,none⟩),.func (.func F) #[] #[]] w λe w'=>
   e=.returned (.string (s.extract i (i+((s.data.toList.drop i).takeWhile λc=>p c.toNat).length)))∧
   vE w' g 211 #[.string s,.int .i64 ↑(i+((s.data.toList.drop i).takeWhile λc=>p c.toNat).length)]∧w.grownBy w' (some g):=by
 have cc0:w.cell? ⟨g,0,none⟩=some (.string s):=hb.cell 0;have cc1:w.cell? ⟨g,1,none⟩=some (.int .i64 i):=hb.cell 1;have hle:=zcI (p:=λc=>p c.toNat) (l:=s.data.toList) (j:=i) (by simpa using h0)
 rw[Wr]at hle
 have HB:=Lib.hid hb;have HF:=Lib.hid hf;clear hf hb;generalize hn:i+((s.data.toList.drop i).takeWhile λc=>p c.toNat).length=n at hle
 have HN:=Lib.hid hn;have hin:i≤n:=by omega
 clear hn
 go_enter Tryz.func209,Tryz.ntmps209
 go_wp2_with fail
 go_loopg [] (s.size) (λk wr=>∃j:Nat,i≤j∧j≤s.size∧s.size-j≤k∧Hid (vE wr g 211 #[.string s,.int .i64 j])∧Hid (j+((s.data.toList.drop j).takeWhile λc=>p c.toNat).length=n)∧w.grownBy wr (some g))
 case atStart=>exact⟨i,Nat.le_refl _,h0,by omega,HB.out,HN.out,World.grownBy.refl _ _⟩
 case round=>
  obtain⟨j,hij,hj,hk,hB,hE,hG⟩:=hrel;have c0:wr.cell? ⟨g,0,none⟩=some (.string s):=hB.out.cell 0;have c1:wr.cell? ⟨g,1,none⟩=some (.int .i64 j):=hB.out.cell 1;have f1:wr.frozen? ⟨g,1,none⟩=false:=hB.out.frozen 1;clear cc0 cc1
  by_cases hlt:j<s.size
  ·have hlt':(j:Int)<(s.size:Int):=by omega
   have hd:=Lib.hid (jT s j hlt);have hc:=λW=>HF.out s[j].toNat (UInt8.toNat_lt _) W
   cases hp:p s[j].toNat with
   |true=>
    simp only[hp]at hc
    have HC:=Lib.hid hc;have HP:=Lib.hid hp;clear hc hp
    go_wp2_with fail
    go_quiet ((go_at_fn F;exact En (HC.out _)))
    go_wp2_with fail
    go_roundg (s.size-(j+1))
    case measure=>omega
    case rel=>exact⟨j+1,by omega,by omega,by omega,(hB.out.drewN _).set_ 1 _,zhq hd.out HP.out hE.out,tL (vL hG _) (.inl rfl) _⟩
   |false=>
    simp only[hp]at hc
    have HC:=Lib.hid hc;have HP:=Lib.hid hp;clear hc hp
    go_wp2_with fail
    go_quiet ((go_at_fn F;exact En (HC.out _)))
    go_wp2_with fail
    go_quiet (fail)
    go_wp2_with fail
    go_ret
    obtain rfl:=zev (p:=λc=>p c.toNat) hd.out HP.out hE.out
    exact⟨rfl,(hB.out.drewN _).drewN _,vL (vL hG _) _⟩
  ·have hlt':decide ((j:Int)<(s.size:Int))=false:=by simp;omega
   go_wp2_with fail
   go_quiet (fail)
   go_wp2_with fail
   go_quiet (fail)
   go_wp2_with fail
   go_ret
   obtain rfl:=zew (by simpa using hlt) hE.out
   exact⟨rfl,(hB.out.drewN _).drewN _,vL (vL hG _) _⟩
end Go.Proofs.YteimklbiapnfhaaGreat
namespace Go.Proofs.YteimklbiapnfhaaGreat
open Go.RowKit
set_option linter.unusedVariables false
set_option linter.unusedSimpArgs false
theorem zcJ:∀args w,(callFunc 210 args).run Tryz.prog w=.ok (.enter 210 args) w:=λ_ _=>by kernel_rfl
theorem zaV:∀args w,(callFunc 211 args).run Tryz.prog w=.ok (.enter 211 args) w:=λ_ _=>by kernel_rfl
theorem vE.new'{w:World}{g:Nat}(t:TypeId)(cs:Array Value)(h:g=w.heap.size):vE (w.alloc (.cells cs t)) g t cs:=by subst h;exact vE.new w t cs
theorem vE.far'{w:World}{g:Nat}{t:TypeId}{cs:Array Value}{p:Addr}{u:Value}(hp:g≠p.block)(h:vE w g t cs):vE (w.setCell p u) g t cs:=h.far hp u
theorem vE.set'{w:World}{g i:Nat}{t:TypeId}{cs cs':Array Value}{u:Value}(e:cs.setIfInBounds i u=cs')(h:vE w g t cs):vE (w.setCell ⟨g,i,none⟩ u) g t cs':=by subst e;exact h.set_ i u
set_option maxHeartbeats 1000000 in
theorem zaW(g:Nat)(s:ByteArray)(i:Nat)(w:World)(hs:s.size≤4000)(h0:i<s.size)(hb:vE w g 211 #[.string s,.int .i64 i])(hl:Vb s[i].toNat=true):
  Calls Tryz.prog 205 #[.pointer (some ⟨g,0,none⟩)] w λe w'=>∃n er,e=.returned (.tuple #[.agg #[.int .i64 1,.int .i64 i,.string (s.extract i (i+n))],.int .i64 er])∧
   n=((s.data.toList.drop i).takeWhile λc=>Vb c.toNat||isDN c.toNat).length∧er=(if n>12 then 2 else 0)∧vE w' g 211 #[.string s,.int .i64 ↑(i+n)]∧w.grownBy w' (some g):=by
 have HB:=Lib.hid hb;have c0:w.cell? ⟨g,0,none⟩=some (.string s):=hb.cell 0;have c1:w.cell? ⟨g,1,none⟩=some (.int .i64 i):=hb.cell 1;have hgl:=hb.lt;have hss:=UInt8.toNat_lt s[i];have hle:=zcI (p:=λc=>Vb c.toNat||isDN c.toNat) (l:=s.data.toList) (j:=i) (by simp;omega)
 clear hb;obtain⟨n,hn⟩:∃n,n=((s.data.toList.drop i).takeWhile λc=>Vb c.toNat||isDN c.toNat).length:=⟨_,rfl⟩
 rw[Wr,←hn]at hle
 have HN:=Lib.hid hn;clear hn
 have hrun:∀W,vE W g 211 #[.string s,.int .i64 i]→Calls Tryz.prog 209 #[.pointer (some ⟨g,0,none⟩),.func (.func 210) #[] #[]] W λe w'=>
   e=.returned (.string (s.extract i (i+n)))∧vE w' g 211 #[.string s,.int .i64 ↑(i+n)]∧W.grownBy w' (some g):=λW hW=>by
  have:=zhr 210 (λn=>Vb n||isDN n) zcJ zkF g s i W hs (by omega) hW
  rw[←HN.out]at this;exact this
 have HR:=Lib.hid hrun;clear hrun;have hsz:(s.extract i (i+n)).size=n:=by rw[ByteArray.size_extract];omega
 go_enter Tryz.func205,Tryz.ntmps205
 go_wp2_with (first
  |(go_at_call 207;refine(Qr g s i _ hs h0 (by have:=HB.out;(repeat'(first|(with_reducible assumption)|(with_reducible refine vE.drewN ?_ _)|(with_reducible refine vE.alloc ?_ _)|(with_reducible refine vE.drew ?_)|(with_reducible refine vE.far' ?_ ?_;(first|(simp;done)|(simp;omega)|omega))|(with_reducible apply vE.set';rotate_left)|rfl)))).mono ?_;rintro e w' ⟨rfl,q,rfl⟩)
  |(go_at_call 208;refine(aP _ (by assumption) _).mono ?_;rintro e w' ⟨rfl,rfl⟩))
 refine(HR.out _ (by have:=HB.out;(repeat'(first|(with_reducible assumption)|(with_reducible refine vE.drewN ?_ _)|(with_reducible refine vE.alloc ?_ _)|(with_reducible refine vE.drew ?_)|(with_reducible refine vE.far' ?_ ?_;(first|(simp;done)|(simp;omega)|omega))|(with_reducible apply vE.set';rotate_left)|rfl)))).mono ?_
 rintro e w1 ⟨rfl,hb1,hg1⟩;have bt:vE w1 (w.heap.size+1+1) 202 _:=(((vE.new' _ _ (by simp)).drewN _).set_ 0 _).grown hg1 (by simp;omega)
 have br:vE w1 (w.heap.size+1) 202 _:=((((vE.new' _ _ (by simp)).alloc _).drewN _).far (by simp) _).grown hg1 (by simp;omega)
 have t0:w1.cell? ⟨w.heap.size+1+1,0,none⟩=some (.int .i64 1):=bt.cell 0;have t1:w1.cell? ⟨w.heap.size+1+1,1,none⟩=some (.int .i64 i):=bt.cell 1;have t2:w1.cell? ⟨w.heap.size+1+1,2,none⟩=some (.string ⟨#[]⟩):=bt.cell 2;have r0:w1.cell? ⟨w.heap.size+1,0,none⟩=some (.int .i64 0):=br.cell 0;have r1:w1.cell? ⟨w.heap.size+1,1,none⟩=some (.int .i64 0):=br.cell 1;have r2:w1.cell? ⟨w.heap.size+1,2,none⟩=some (.string ⟨#[]⟩):=br.cell 2;have ft:∀k,w1.frozen? ⟨w.heap.size+1+1,k,none⟩=false:=bt.frozen;have fr:∀k,w1.frozen? ⟨w.heap.size+1,k,none⟩=false:=br.frozen;have hg0:w.grownBy w1 (some g):=NV (gU (by(repeat'(first|(with_reducible exact Below.refl _ _)|(with_reducible assumption)|(with_reducible refine uP ?_ _)|(with_reducible refine Below.alloc ?_ ?_ _)|(with_reducible refine Below.setCell ?_ ?_ _)|(with_reducible refine Below.drew ?_)|go_size))) (some g)) hg1
 have hsz1:w.heap.size+1+1<w1.heap.size:=bt.lt;clear hg1 bt br c0 c1
 by_cases h12:12<n
 ·go_wp2_with fail
  refine bodyPost_ret (v:=.tuple #[.agg #[.int .i64 1,.int .i64 i,.string (s.extract i (i+n))],.int .i64 2]) (by simp[results,Tryz.results205,go_sem,r0,r1,r2]) rfl ⟨n,2,rfl,HN.out,by rw[if_pos h12],?_,?_⟩
  ·have:=hb1;(repeat'(first|(with_reducible assumption)|(with_reducible refine vE.drewN ?_ _)|(with_reducible refine vE.alloc ?_ _)|(with_reducible refine vE.drew ?_)|(with_reducible refine vE.far' ?_ ?_;(first|(simp;done)|(simp;omega)|omega))|(with_reducible apply vE.set';rotate_left)|rfl))
  ·(repeat'(first|(with_reducible assumption)|(with_reducible exact World.grownBy.refl _ _)|(with_reducible refine vL ?_ _)|(with_reducible refine iR ?_ _)|(with_reducible refine tL ?_ ?_ _)|(with_reducible refine eX ?_)|(exact .inl rfl)|(refine .inr ?_;simp;done)|(refine .inr ?_;simp;omega)|(refine .inr ?_;omega)))
 ·go_wp2_with fail
  refine bodyPost_ret (v:=.tuple #[.agg #[.int .i64 1,.int .i64 i,.string (s.extract i (i+n))],.int .i64 0]) (by simp[results,Tryz.results205,go_sem,r0,r1,r2]) rfl ⟨n,0,rfl,HN.out,by rw[if_neg h12],?_,?_⟩
  ·have:=hb1;(repeat'(first|(with_reducible assumption)|(with_reducible refine vE.drewN ?_ _)|(with_reducible refine vE.alloc ?_ _)|(with_reducible refine vE.drew ?_)|(with_reducible refine vE.far' ?_ ?_;(first|(simp;done)|(simp;omega)|omega))|(with_reducible apply vE.set';rotate_left)|rfl))
  ·(repeat'(first|(with_reducible assumption)|(with_reducible exact World.grownBy.refl _ _)|(with_reducible refine vL ?_ _)|(with_reducible refine iR ?_ _)|(with_reducible refine tL ?_ ?_ _)|(with_reducible refine eX ?_)|(exact .inl rfl)|(refine .inr ?_;simp;done)|(refine .inr ?_;simp;omega)|(refine .inr ?_;omega)))
set_option maxHeartbeats 1000000 in
theorem zcK(g:Nat)(s:ByteArray)(i:Nat)(w:World)(hs:s.size≤4000)(h0:i<s.size)(hb:vE w g 211 #[.string s,.int .i64 i])(hl0:Vb s[i].toNat=false)(hl:isDN s[i].toNat=true):
  Calls Tryz.prog 205 #[.pointer (some ⟨g,0,none⟩)] w λe w'=>∃n er,e=.returned (.tuple #[.agg #[.int .i64 2,.int .i64 i,.string (s.extract i (i+n))],.int .i64 er])∧
   n=((s.data.toList.drop i).takeWhile λc=>isDN c.toNat).length∧er=(if n>4 then 2 else if n>1∧s[i]=48 then 1 else 0)∧vE w' g 211 #[.string s,.int .i64 ↑(i+n)]∧w.grownBy w' (some g):=by
 have HB:=Lib.hid hb;have c0:w.cell? ⟨g,0,none⟩=some (.string s):=hb.cell 0;have c1:w.cell? ⟨g,1,none⟩=some (.int .i64 i):=hb.cell 1;have hgl:=hb.lt;have hss:=UInt8.toNat_lt s[i];have hle:=zcI (p:=λc=>isDN c.toNat) (l:=s.data.toList) (j:=i) (by simp;omega)
 clear hb;obtain⟨n,hn⟩:∃n,n=((s.data.toList.drop i).takeWhile λc=>isDN c.toNat).length:=⟨_,rfl⟩
 rw[Wr,←hn]at hle
 have HN:=Lib.hid hn;clear hn
 have hrun:∀W,vE W g 211 #[.string s,.int .i64 i]→Calls Tryz.prog 209 #[.pointer (some ⟨g,0,none⟩),.func (.func 211) #[] #[]] W λe w'=>
   e=.returned (.string (s.extract i (i+n)))∧vE w' g 211 #[.string s,.int .i64 ↑(i+n)]∧W.grownBy w' (some g):=λW hW=>by
  have:=zhr 211 (λn=>isDN n) zaV Wo g s i W hs (by omega) hW
  rw[←HN.out]at this;exact this
 have HR:=Lib.hid hrun;clear hrun;have hsz:(s.extract i (i+n)).size=n:=by rw[ByteArray.size_extract];omega
 go_enter Tryz.func205,Tryz.ntmps205
 go_wp2_with (first
  |(go_at_call 207;refine(Qr g s i _ hs h0 (by have:=HB.out;(repeat'(first|(with_reducible assumption)|(with_reducible refine vE.drewN ?_ _)|(with_reducible refine vE.alloc ?_ _)|(with_reducible refine vE.drew ?_)|(with_reducible refine vE.far' ?_ ?_;(first|(simp;done)|(simp;omega)|omega))|(with_reducible apply vE.set';rotate_left)|rfl)))).mono ?_;rintro e w' ⟨rfl,q,rfl⟩)
  |(go_at_call 208;refine(aP _ (by assumption) _).mono ?_;rintro e w' ⟨rfl,rfl⟩)
  |(go_at_call 211;refine(Wo _ (by assumption) _).mono ?_;rintro e w' ⟨rfl,rfl⟩))
 refine(HR.out _ (by have:=HB.out;(repeat'(first|(with_reducible assumption)|(with_reducible refine vE.drewN ?_ _)|(with_reducible refine vE.alloc ?_ _)|(with_reducible refine vE.drew ?_)|(with_reducible refine vE.far' ?_ ?_;(first|(simp;done)|(simp;omega)|omega))|(with_reducible apply vE.set';rotate_left)|rfl)))).mono ?_
 rintro e w1 ⟨rfl,hb1,hg1⟩;have bt:vE w1 (w.heap.size+1+1) 202 _:=(((vE.new' _ _ (by simp)).drewN _).set_ 0 _).grown hg1 (by simp;omega)
 have br:vE w1 (w.heap.size+1) 202 _:=((((vE.new' _ _ (by simp)).alloc _).drewN _).far (by simp) _).grown hg1 (by simp;omega)
 have t0:w1.cell? ⟨w.heap.size+1+1,0,none⟩=some (.int .i64 2):=bt.cell 0;have t1:w1.cell? ⟨w.heap.size+1+1,1,none⟩=some (.int .i64 i):=bt.cell 1;have t2:w1.cell? ⟨w.heap.size+1+1,2,none⟩=some (.string ⟨#[]⟩):=bt.cell 2;have r0:w1.cell? ⟨w.heap.size+1,0,none⟩=some (.int .i64 0):=br.cell 0;have r1:w1.cell? ⟨w.heap.size+1,1,none⟩=some (.int .i64 0):=br.cell 1;have r2:w1.cell? ⟨w.heap.size+1,2,none⟩=some (.string ⟨#[]⟩):=br.cell 2;have ft:∀k,w1.frozen? ⟨w.heap.size+1+1,k,none⟩=false:=bt.frozen;have fr:∀k,w1.frozen? ⟨w.heap.size+1,k,none⟩=false:=br.frozen;have hg0:w.grownBy w1 (some g):=NV (gU (by(repeat'(first|(with_reducible exact Below.refl _ _)|(with_reducible assumption)|(with_reducible refine uP ?_ _)|(with_reducible refine Below.alloc ?_ ?_ _)|(with_reducible refine Below.setCell ?_ ?_ _)|(with_reducible refine Below.drew ?_)|go_size))) (some g)) hg1
 have hsz1:w.heap.size+1+1<w1.heap.size:=bt.lt;clear hg1 bt br c0 c1
 by_cases h4:4<n
 ·go_wp2_with fail
  refine bodyPost_ret (v:=.tuple #[.agg #[.int .i64 2,.int .i64 i,.string (s.extract i (i+n))],.int .i64 2]) (by simp[results,Tryz.results205,go_sem,r0,r1,r2]) rfl ⟨n,2,rfl,HN.out,by rw[if_pos h4],?_,?_⟩
  ·have:=hb1;(repeat'(first|(with_reducible assumption)|(with_reducible refine vE.drewN ?_ _)|(with_reducible refine vE.alloc ?_ _)|(with_reducible refine vE.drew ?_)|(with_reducible refine vE.far' ?_ ?_;(first|(simp;done)|(simp;omega)|omega))|(with_reducible apply vE.set';rotate_left)|rfl))
  ·(repeat'(first|(with_reducible assumption)|(with_reducible exact World.grownBy.refl _ _)|(with_reducible refine vL ?_ _)|(with_reducible refine iR ?_ _)|(with_reducible refine tL ?_ ?_ _)|(with_reducible refine eX ?_)|(exact .inl rfl)|(refine .inr ?_;simp;done)|(refine .inr ?_;simp;omega)|(refine .inr ?_;omega)))
 ·by_cases h1:1<n
  ·by_cases h48:s[i]=48
   ·have y48:=Ob (k:=48) (by omega) h48
    have H48:=Lib.hid h48;clear h48
    go_wp2_with fail
    refine bodyPost_ret (v:=.tuple #[.agg #[.int .i64 2,.int .i64 i,.string (s.extract i (i+n))],.int .i64 1]) (by simp[results,Tryz.results205,go_sem,r0,r1,r2]) rfl ⟨n,1,rfl,HN.out,by rw[if_neg h4,if_pos ⟨h1,H48.out⟩],?_,?_⟩
    ·have:=hb1;(repeat'(first|(with_reducible assumption)|(with_reducible refine vE.drewN ?_ _)|(with_reducible refine vE.alloc ?_ _)|(with_reducible refine vE.drew ?_)|(with_reducible refine vE.far' ?_ ?_;(first|(simp;done)|(simp;omega)|omega))|(with_reducible apply vE.set';rotate_left)|rfl))
    ·(repeat'(first|(with_reducible assumption)|(with_reducible exact World.grownBy.refl _ _)|(with_reducible refine vL ?_ _)|(with_reducible refine iR ?_ _)|(with_reducible refine tL ?_ ?_ _)|(with_reducible refine eX ?_)|(exact .inl rfl)|(refine .inr ?_;simp;done)|(refine .inr ?_;simp;omega)|(refine .inr ?_;omega)))
   ·have y48:=YG (k:=48) (by omega) h48
    go_wp2_with fail
    refine bodyPost_ret (v:=.tuple #[.agg #[.int .i64 2,.int .i64 i,.string (s.extract i (i+n))],.int .i64 0]) (by simp[results,Tryz.results205,go_sem,r0,r1,r2]) rfl ⟨n,0,rfl,HN.out,by rw[if_neg h4,if_neg (λh=>h48 h.2)],?_,?_⟩
    ·have:=hb1;(repeat'(first|(with_reducible assumption)|(with_reducible refine vE.drewN ?_ _)|(with_reducible refine vE.alloc ?_ _)|(with_reducible refine vE.drew ?_)|(with_reducible refine vE.far' ?_ ?_;(first|(simp;done)|(simp;omega)|omega))|(with_reducible apply vE.set';rotate_left)|rfl))
    ·(repeat'(first|(with_reducible assumption)|(with_reducible exact World.grownBy.refl _ _)|(with_reducible refine vL ?_ _)|(with_reducible refine iR ?_ _)|(with_reducible refine tL ?_ ?_ _)|(with_reducible refine eX ?_)|(exact .inl rfl)|(refine .inr ?_;simp;done)|(refine .inr ?_;simp;omega)|(refine .inr ?_;omega)))
  ·have h1':decide ((1:Int)<(n:Int))=false:=by simp;omega
   go_wp2_with fail
   refine bodyPost_ret (v:=.tuple #[.agg #[.int .i64 2,.int .i64 i,.string (s.extract i (i+n))],.int .i64 0]) (by simp[results,Tryz.results205,go_sem,r0,r1,r2]) rfl ⟨n,0,rfl,HN.out,by rw[if_neg h4,if_neg (λh=>h1 h.1)],?_,?_⟩
   ·have:=hb1;(repeat'(first|(with_reducible assumption)|(with_reducible refine vE.drewN ?_ _)|(with_reducible refine vE.alloc ?_ _)|(with_reducible refine vE.drew ?_)|(with_reducible refine vE.far' ?_ ?_;(first|(simp;done)|(simp;omega)|omega))|(with_reducible apply vE.set';rotate_left)|rfl))
   ·(repeat'(first|(with_reducible assumption)|(with_reducible exact World.grownBy.refl _ _)|(with_reducible refine vL ?_ _)|(with_reducible refine iR ?_ _)|(with_reducible refine tL ?_ ?_ _)|(with_reducible refine eX ?_)|(exact .inl rfl)|(refine .inr ?_;simp;done)|(refine .inr ?_;simp;omega)|(refine .inr ?_;omega)))
end Go.Proofs.YteimklbiapnfhaaGreat
namespace Go.Proofs.YteimklbiapnfhaaGreat
open Go.RowKit
set_option linter.unusedVariables false
set_option linter.unusedSimpArgs false
def Xx:List ByteArray:=[bs [46,46],bs [60,61],bs [62,61],bs [61,61],bs [33,61]]
theorem Jx(w:World):Calls Tryz.prog 213 #[] w λe w'=>∃v,e=.returned v∧Rds w' v Xx∧Below w.heap.size w w':=by
 go_enter Tryz.func213,Tryz.ntmps213
 go_wp2_with fail
 go_ret
 refine⟨_,rfl,⟨[_],rfl,some ⟨w.heap.size,0,none⟩,5,rfl,by decide,by decide,by decide,(λe=>by cases e),λ_=>⟨_,0,rfl,by simp,λi x hx=> ?_⟩⟩,by(repeat'(first|(with_reducible exact Below.refl _ _)|(with_reducible assumption)|(with_reducible refine uP ?_ _)|(with_reducible refine Below.alloc ?_ ?_ _)|(with_reducible refine Below.setCell ?_ ?_ _)|(with_reducible refine Below.drew ?_)|go_size))⟩
 match i,hx with
 |0,hx=>simp[Xx]at hx;subst hx;exact⟨[_],⟨rfl,by decide⟩,λj u hu=>by cases j<;>simp at hu;subst hu;simp[xT.size];rfl⟩
 |1,hx=>simp[Xx]at hx;subst hx;exact⟨[_],⟨rfl,by decide⟩,λj u hu=>by cases j<;>simp at hu;subst hu;simp[xT.size];rfl⟩
 |2,hx=>simp[Xx]at hx;subst hx;exact⟨[_],⟨rfl,by decide⟩,λj u hu=>by cases j<;>simp at hu;subst hu;simp[xT.size];rfl⟩
 |3,hx=>simp[Xx]at hx;subst hx;exact⟨[_],⟨rfl,by decide⟩,λj u hu=>by cases j<;>simp at hu;subst hu;simp[xT.size];rfl⟩
 |4,hx=>simp[Xx]at hx;subst hx;exact⟨[_],⟨rfl,by decide⟩,λj u hu=>by cases j<;>simp at hu;subst hu;simp[xT.size];rfl⟩
 |i+5,hx=>simp[Xx]at hx
theorem ziL(l:List UInt8):(Xx.any λp=>Lib.hasPrefix l p.data.toList)=cE l:=by
 match l with
 |[]=>rfl
 |[a]=>simp[Xx,cE,Lib.hasPrefix,bs,List.isPrefixOf]
 |a::b::l=>
  simp only[Xx,cE,Lib.hasPrefix,bs,List.isPrefixOf,List.any_cons,List.any_nil,Bool.and_true,Bool.or_false];rw[Bool.eq_iff_iff];simp only[Bool.or_eq_true,Bool.and_eq_true,beq_iff_eq];constructor
  ·rintro(⟨h1,h2⟩|⟨h1,h2⟩|⟨h1,h2⟩|⟨h1,h2⟩|⟨h1,h2⟩)<;>subst h1 h2<;>simp
  ·rintro((((⟨h1,h2⟩|⟨h1,h2⟩)|⟨h1,h2⟩)|⟨h1,h2⟩)|⟨h1,h2⟩)<;>subst h1 h2<;>simp
set_option maxHeartbeats 400000 in
theorem zex(g n0:Nat)(s p:ByteArray)(i:Nat)(w:World)(hs:s.size≤4000)(h0:i≤s.size)(hc:w.cell? ⟨n0,0,none⟩=some (.pointer (some ⟨g,0,none⟩)))(hb:vE w g 211 #[.string s,.int .i64 i]):
  Calls Tryz.prog 214 (#[.string p]++ #[.pointer (some ⟨n0,0,none⟩)]) w λe w'=>e=.returned (.bool (Lib.hasPrefix (s.data.toList.drop i) p.data.toList))∧Below w.heap.size w w':=by
 have c0:w.cell? ⟨g,0,none⟩=some (.string s):=hb.cell 0;have c1:w.cell? ⟨g,1,none⟩=some (.int .i64 i):=hb.cell 1;have hlt':(i:Int)≤(s.size:Int):=by omega
 clear hb
 have he:(s.extract i s.size).data.toList=s.data.toList.drop i:=by
  rw[ByteArray.data_extract];simp;rw[List.take_of_length_le (by simp)]
 rw[←he];clear he;show Calls Tryz.prog 214 #[.string p,.pointer (some ⟨n0,0,none⟩)] w _
 go_enter Tryz.func214,Tryz.ntmps214
 go_wp2_with fail
 go_quiet ((go_at_call 215;exact Calls.quiet_of_same (Tryz.strings_HasPrefix _ _ _)))
 go_wp2_with fail
 go_ret
 exact⟨rfl,by(repeat'(first|(with_reducible exact Below.refl _ _)|(with_reducible assumption)|(with_reducible refine uP ?_ _)|(with_reducible refine Below.alloc ?_ ?_ _)|(with_reducible refine Below.setCell ?_ ?_ _)|(with_reducible refine Below.drew ?_)|go_size))⟩
theorem C6:∀args w,(callFunc 214 args).run Tryz.prog w=.ok (.enter 214 args) w:=λ_ _=>by kernel_rfl
theorem zaX(g n0:Nat)(s:ByteArray)(i:Nat)(w:World)(hs:s.size≤4000)(h0:i≤s.size)(hn:n0<w.heap.size)(hc:w.cell? ⟨n0,0,none⟩=some (.pointer (some ⟨g,0,none⟩)))(hb:vE w g 211 #[.string s,.int .i64 i])
  (v:Value) (hv:Rds w v Xx):
  Calls Tryz.prog 212 #[v,.func (.func 214) #[] #[.pointer (some ⟨n0,0,none⟩)]] w λe w'=>e=.returned (.bool (cE (s.data.toList.drop i)))∧Below w.heap.size w w':=by
 rw[←ziL];refine Jw _ _ C6 v Xx (λp=>Lib.hasPrefix (s.data.toList.drop i) p.data.toList) w hv λW u x _ hb' hx=> ?_
 obtain⟨rfl,_⟩:=zlR hx;exact zex g n0 s x i W hs h0 ((hb'.cell (p:=⟨n0,0,none⟩) hn).trans hc) (hb.below hb' hb.lt)
set_option maxHeartbeats 1000000 in
theorem ziM(g:Nat)(s:ByteArray)(i:Nat)(w:World)(hs:s.size≤4000)(h0:i<s.size)(hb:vE w g 211 #[.string s,.int .i64 i])(hl:Vb s[i].toNat=false)(hd:isDN s[i].toNat=false)(ht:cE (s.data.toList.drop i)=true)(h2:i+2≤s.size):
  Calls Tryz.prog 205 #[.pointer (some ⟨g,0,none⟩)] w λe w'=>e=.returned (.tuple #[.agg #[.int .i64 3,.int .i64 i,.string (s.extract i (i+2))],.int .i64 0])∧
   vE w' g 211 #[.string s,.int .i64 ↑(i+2)]∧w.grownBy w' (some g):=by
 have HB:=Lib.hid hb;have c0:w.cell? ⟨g,0,none⟩=some (.string s):=hb.cell 0;have c1:w.cell? ⟨g,1,none⟩=some (.int .i64 i):=hb.cell 1;have hgl:=hb.lt;have hss:=UInt8.toNat_lt s[i];clear hb
 go_enter Tryz.func205,Tryz.ntmps205
 go_wp2_with (first
  |(go_at_call 207;refine(Qr g s i _ hs h0 (by have:=HB.out;(repeat'(first|(with_reducible assumption)|(with_reducible refine vE.drewN ?_ _)|(with_reducible refine vE.alloc ?_ _)|(with_reducible refine vE.drew ?_)|(with_reducible refine vE.far' ?_ ?_;(first|(simp;done)|(simp;omega)|omega))|(with_reducible apply vE.set';rotate_left)|rfl)))).mono ?_;rintro e w' ⟨rfl,q,rfl⟩)
  |(go_at_call 208;refine(aP _ (by assumption) _).mono ?_;rintro e w' ⟨rfl,rfl⟩)
  |(go_at_call 211;refine(Wo _ (by assumption) _).mono ?_;rintro e w' ⟨rfl,rfl⟩)
  |(go_at_call 213;refine(Jx _).mono ?_;rintro e w1 ⟨v,rfl,hv,hb1⟩))
 have g1:vE w1 g 211 #[.string s,.int .i64 i]:=vE.below (by have:=HB.out;(repeat'(first|(with_reducible assumption)|(with_reducible refine vE.drewN ?_ _)|(with_reducible refine vE.alloc ?_ _)|(with_reducible refine vE.drew ?_)|(with_reducible refine vE.far' ?_ ?_;(first|(simp;done)|(simp;omega)|omega))|(with_reducible apply vE.set';rotate_left)|rfl))) hb1 (by simp;omega)
 have bc:vE w1 w.heap.size _ _:=vE.below ((((vE.new' _ _ rfl).alloc _).alloc _).drewN _) hb1 (by simp;omega)
 have br:vE w1 (w.heap.size+1) _ _:=vE.below (((vE.new' _ _ (by simp)).alloc _).drewN _) hb1 (by simp)
 have bt:vE w1 (w.heap.size+1+1) _ _:=vE.below ((vE.new' _ _ (by simp)).drewN _) hb1 (by simp)
 have hb0:Below w.heap.size w w1:=M1 (by(repeat'(first|(with_reducible exact Below.refl _ _)|(with_reducible assumption)|(with_reducible refine uP ?_ _)|(with_reducible refine Below.alloc ?_ ?_ _)|(with_reducible refine Below.setCell ?_ ?_ _)|(with_reducible refine Below.drew ?_)|go_size))) hb1
 clear hb1;have HV:=Lib.hid hv;have hn0:=bc.lt;clear hv;refine(zaX g w.heap.size s i w1 hs (by omega) hn0 (bc.cell 0) g1 v HV.out).mono ?_
 rintro e w2 ⟨rfl,hb2⟩;rw[ht];have g2:=Lib.hid (g1.below hb2 g1.lt);have bc2:=bc.below hb2 bc.lt;have br2:=br.below hb2 br.lt;have bt2:=bt.below hb2 bt.lt;have hs1:w2.heap.size>w.heap.size+1+1:=bt2.lt;have hb3:Below w.heap.size w w2:=M1 hb0 hb2;clear g1 bc br bt hb2 hb0 hn0 c0 c1 HV;have c0:w2.cell? ⟨g,0,none⟩=some (.string s):=g2.out.cell 0;have c1:w2.cell? ⟨g,1,none⟩=some (.int .i64 i):=g2.out.cell 1;have f1:w2.frozen? ⟨g,1,none⟩=false:=g2.out.frozen 1;have k0:w2.cell? ⟨w.heap.size,0,none⟩=some (.pointer (some ⟨g,0,none⟩)):=bc2.cell 0;have t0:w2.cell? ⟨w.heap.size+1+1,0,none⟩=some (.int .i64 3):=bt2.cell 0;have t1:w2.cell? ⟨w.heap.size+1+1,1,none⟩=some (.int .i64 i):=bt2.cell 1;have t2:w2.cell? ⟨w.heap.size+1+1,2,none⟩=some (.string ⟨#[]⟩):=bt2.cell 2;have r0:w2.cell? ⟨w.heap.size+1,0,none⟩=some (.int .i64 0):=br2.cell 0;have r1:w2.cell? ⟨w.heap.size+1,1,none⟩=some (.int .i64 0):=br2.cell 1;have r2:w2.cell? ⟨w.heap.size+1,2,none⟩=some (.string ⟨#[]⟩):=br2.cell 2;have ft:∀k,w2.frozen? ⟨w.heap.size+1+1,k,none⟩=false:=bt2.frozen;have fr:∀k,w2.frozen? ⟨w.heap.size+1,k,none⟩=false:=br2.frozen;clear bc2 br2 bt2;have HT:=Lib.hid ht;clear ht;have q1:(i:Int)+2≤(s.size:Int):=by omega
 have q2:IntKind.i64.wrap ((i:Int)+2)=(i:Int)+2:=IntWalk.i64_in _ (by omega)
 have q3:((i:Int)+2).toNat=i+2:=by omega
 go_wp2_with fail
 go_region
 all_goals
  go_wp2_with fail
  refine bodyPost_ret (v:=.tuple #[.agg #[.int .i64 3,.int .i64 i,.string (s.extract i (i+2))],.int .i64 0]) (by simp[results,Tryz.results205,go_sem,r0,r1,r2]) rfl ⟨rfl,?_,?_⟩
  ·refine vE.drew (vE.far' ?_ (vE.far' ?_ (vE.far' ?_ (vE.set' (by rfl) (vE.far' ?_ g2.out)))))<;>first|(simp;done)|(simp;omega)
  ·have:=gU hb3 (some g);(repeat'(first|(with_reducible assumption)|(with_reducible exact World.grownBy.refl _ _)|(with_reducible refine vL ?_ _)|(with_reducible refine iR ?_ _)|(with_reducible refine tL ?_ ?_ _)|(with_reducible refine eX ?_)|(exact .inl rfl)|(refine .inr ?_;simp;done)|(refine .inr ?_;simp;omega)|(refine .inr ?_;omega)))
end Go.Proofs.YteimklbiapnfhaaGreat
namespace Go.Proofs.YteimklbiapnfhaaGreat
open Go.RowKit
set_option linter.unusedVariables false
set_option linter.unusedSimpArgs false
theorem E0(c:UInt8):Ys c=true↔0≤Lib.indexByte [91,93,59,58,44,45] c:=by
 constructor
 ·intro h
  simp only[Ys,Bool.or_eq_true,beq_iff_eq]at h
  rcases h with((((h|h)|h)|h)|h)|h<;>subst h<;>decide
 ·intro h
  revert h;simp only[Lib.indexByte,Ys]
  repeat' split
  all_goals simp_all
  all_goals omega
theorem ziN(s:ByteArray)(i:Nat)(h:i<s.size)(hs:Ys s[i]=true):Utf8.encode (s[i].toNat:Int)=s.extract i (i+1):=by
 have h1:(s.extract i (i+1))=⟨#[s[i]]⟩:=by
  apply ByteArray.ext;rw[ByteArray.data_extract];apply Array.ext';have:=jT s i h;simp only[Array.toList_extract,List.extract_eq_take_drop];rw[this];simp
 rw[h1];simp only[Ys,Bool.or_eq_true,beq_iff_eq]at hs
 rcases hs with((((h|h)|h)|h)|h)|h<;>rw[h]<;>decide
set_option maxHeartbeats 1000000 in
theorem zey(g:Nat)(s:ByteArray)(i:Nat)(w:World)(hs:s.size≤4000)(h0:i<s.size)(hb:vE w g 211 #[.string s,.int .i64 i])(hl:Vb s[i].toNat=false)(hd:isDN s[i].toNat=false)(ht:cE (s.data.toList.drop i)=false)(hsg:Ys s[i]=true):
  Calls Tryz.prog 205 #[.pointer (some ⟨g,0,none⟩)] w λe w'=>e=.returned (.tuple #[.agg #[.int .i64 3,.int .i64 i,.string (s.extract i (i+1))],.int .i64 0])∧
   vE w' g 211 #[.string s,.int .i64 ↑(i+1)]∧w.grownBy w' (some g):=by
 have HB:=Lib.hid hb;have c0:w.cell? ⟨g,0,none⟩=some (.string s):=hb.cell 0;have c1:w.cell? ⟨g,1,none⟩=some (.int .i64 i):=hb.cell 1;have hgl:=hb.lt;have hss:=UInt8.toNat_lt s[i];clear hb
 go_enter Tryz.func205,Tryz.ntmps205
 go_wp2_with (first
  |(go_at_call 207;refine(Qr g s i _ hs h0 (by have:=HB.out;(repeat'(first|(with_reducible assumption)|(with_reducible refine vE.drewN ?_ _)|(with_reducible refine vE.alloc ?_ _)|(with_reducible refine vE.drew ?_)|(with_reducible refine vE.far' ?_ ?_;(first|(simp;done)|(simp;omega)|omega))|(with_reducible apply vE.set';rotate_left)|rfl)))).mono ?_;rintro e w' ⟨rfl,q,rfl⟩)
  |(go_at_call 208;refine(aP _ (by assumption) _).mono ?_;rintro e w' ⟨rfl,rfl⟩)
  |(go_at_call 211;refine(Wo _ (by assumption) _).mono ?_;rintro e w' ⟨rfl,rfl⟩)
  |(go_at_call 213;refine(Jx _).mono ?_;rintro e w1 ⟨v,rfl,hv,hb1⟩))
 have g1:vE w1 g 211 #[.string s,.int .i64 i]:=vE.below (by have:=HB.out;(repeat'(first|(with_reducible assumption)|(with_reducible refine vE.drewN ?_ _)|(with_reducible refine vE.alloc ?_ _)|(with_reducible refine vE.drew ?_)|(with_reducible refine vE.far' ?_ ?_;(first|(simp;done)|(simp;omega)|omega))|(with_reducible apply vE.set';rotate_left)|rfl))) hb1 (by simp;omega)
 have bc:vE w1 w.heap.size _ _:=vE.below ((((vE.new' _ _ rfl).alloc _).alloc _).drewN _) hb1 (by simp;omega)
 have br:vE w1 (w.heap.size+1) _ _:=vE.below (((vE.new' _ _ (by simp)).alloc _).drewN _) hb1 (by simp)
 have bt:vE w1 (w.heap.size+1+1) _ _:=vE.below ((vE.new' _ _ (by simp)).drewN _) hb1 (by simp)
 have hb0:Below w.heap.size w w1:=M1 (by(repeat'(first|(with_reducible exact Below.refl _ _)|(with_reducible assumption)|(with_reducible refine uP ?_ _)|(with_reducible refine Below.alloc ?_ ?_ _)|(with_reducible refine Below.setCell ?_ ?_ _)|(with_reducible refine Below.drew ?_)|go_size))) hb1
 clear hb1;have HV:=Lib.hid hv;have hn0:=bc.lt;clear hv;refine(zaX g w.heap.size s i w1 hs (by omega) hn0 (bc.cell 0) g1 v HV.out).mono ?_
 rintro e w2 ⟨rfl,hb2⟩;rw[ht];have g2:=Lib.hid (g1.below hb2 g1.lt);have bc2:=bc.below hb2 bc.lt;have br2:=br.below hb2 br.lt;have bt2:=bt.below hb2 bt.lt;have hs1:w2.heap.size>w.heap.size+1+1:=bt2.lt;have hb3:Below w.heap.size w w2:=M1 hb0 hb2;clear g1 bc br bt hb2 hb0 hn0 c0 c1 HV;have c0:w2.cell? ⟨g,0,none⟩=some (.string s):=g2.out.cell 0;have c1:w2.cell? ⟨g,1,none⟩=some (.int .i64 i):=g2.out.cell 1;have f1:w2.frozen? ⟨g,1,none⟩=false:=g2.out.frozen 1;have k0:w2.cell? ⟨w.heap.size,0,none⟩=some (.pointer (some ⟨g,0,none⟩)):=bc2.cell 0;have t0:w2.cell? ⟨w.heap.size+1+1,0,none⟩=some (.int .i64 3):=bt2.cell 0;have t1:w2.cell? ⟨w.heap.size+1+1,1,none⟩=some (.int .i64 i):=bt2.cell 1;have t2:w2.cell? ⟨w.heap.size+1+1,2,none⟩=some (.string ⟨#[]⟩):=bt2.cell 2;have r0:w2.cell? ⟨w.heap.size+1,0,none⟩=some (.int .i64 0):=br2.cell 0;have r1:w2.cell? ⟨w.heap.size+1,1,none⟩=some (.int .i64 0):=br2.cell 1;have r2:w2.cell? ⟨w.heap.size+1,2,none⟩=some (.string ⟨#[]⟩):=br2.cell 2;have ft:∀k,w2.frozen? ⟨w.heap.size+1+1,k,none⟩=false:=bt2.frozen;have fr:∀k,w2.frozen? ⟨w.heap.size+1,k,none⟩=false:=br2.frozen;clear bc2 br2 bt2;have HT:=Lib.hid ht;clear ht;obtain⟨k,hk⟩:∃k,k=Lib.indexByte [91,93,59,58,44,45] s[i]:=⟨_,rfl⟩;have hk0:0≤k:=by rw[hk];exact(E0 _).1 hsg
 have HI:Hid (∀W,Calls Tryz.prog 216 #[.string ⟨#[91,93,59,58,44,45]⟩,.int .u8 s[i].toNat] W λe w'=>e=.returned (.int .i64 k)∧W=w'):=λW=>by
  refine(Tryz.strings_IndexByte _ _ W).mono λe w' ⟨h1,h2⟩=>⟨?_,h2.symm⟩
  rw[h1,hk];simp
 clear hk
 go_wp2_with (go_at_call 216;refine(HI.out _).mono ?_;rintro e w' ⟨rfl,rfl⟩);refine bodyPost_ret (v:=.tuple #[.agg #[.int .i64 3,.int .i64 i,.string (Utf8.encode s[i].toNat)],.int .i64 0]) (by simp[results,Tryz.results205,go_sem,r0,r1,r2]) rfl ⟨by rw[ziN s i h0 hsg],?_,?_⟩
 ·refine vE.far' ?_ (vE.far' ?_ (vE.far' ?_ (vE.set' (by rfl) (vE.far' ?_ g2.out))))<;>first|(simp;done)|(simp;omega)
 ·have:=gU hb3 (some g);(repeat'(first|(with_reducible assumption)|(with_reducible exact World.grownBy.refl _ _)|(with_reducible refine vL ?_ _)|(with_reducible refine iR ?_ _)|(with_reducible refine tL ?_ ?_ _)|(with_reducible refine eX ?_)|(exact .inl rfl)|(refine .inr ?_;simp;done)|(refine .inr ?_;simp;omega)|(refine .inr ?_;omega)))
set_option maxHeartbeats 1000000 in
theorem zez(g:Nat)(s:ByteArray)(i:Nat)(w:World)(hs:s.size≤4000)(h0:i<s.size)(hb:vE w g 211 #[.string s,.int .i64 i])(hl:Vb s[i].toNat=false)(hd:isDN s[i].toNat=false)(ht:cE (s.data.toList.drop i)=false)(hsg:Ys s[i]=false):
  Calls Tryz.prog 205 #[.pointer (some ⟨g,0,none⟩)] w λe w'=>e=.returned (.tuple #[.agg #[.int .i64 3,.int .i64 i,.string ⟨#[]⟩],.int .i64 1])∧w.grownBy w' (some g):=by
 have HB:=Lib.hid hb;have c0:w.cell? ⟨g,0,none⟩=some (.string s):=hb.cell 0;have c1:w.cell? ⟨g,1,none⟩=some (.int .i64 i):=hb.cell 1;have hgl:=hb.lt;have hss:=UInt8.toNat_lt s[i];clear hb
 go_enter Tryz.func205,Tryz.ntmps205
 go_wp2_with (first
  |(go_at_call 207;refine(Qr g s i _ hs h0 (by have:=HB.out;(repeat'(first|(with_reducible assumption)|(with_reducible refine vE.drewN ?_ _)|(with_reducible refine vE.alloc ?_ _)|(with_reducible refine vE.drew ?_)|(with_reducible refine vE.far' ?_ ?_;(first|(simp;done)|(simp;omega)|omega))|(with_reducible apply vE.set';rotate_left)|rfl)))).mono ?_;rintro e w' ⟨rfl,q,rfl⟩)
  |(go_at_call 208;refine(aP _ (by assumption) _).mono ?_;rintro e w' ⟨rfl,rfl⟩)
  |(go_at_call 211;refine(Wo _ (by assumption) _).mono ?_;rintro e w' ⟨rfl,rfl⟩)
  |(go_at_call 213;refine(Jx _).mono ?_;rintro e w1 ⟨v,rfl,hv,hb1⟩))
 have g1:vE w1 g 211 #[.string s,.int .i64 i]:=vE.below (by have:=HB.out;(repeat'(first|(with_reducible assumption)|(with_reducible refine vE.drewN ?_ _)|(with_reducible refine vE.alloc ?_ _)|(with_reducible refine vE.drew ?_)|(with_reducible refine vE.far' ?_ ?_;(first|(simp;done)|(simp;omega)|omega))|(with_reducible apply vE.set';rotate_left)|rfl))) hb1 (by simp;omega)
 have bc:vE w1 w.heap.size _ _:=vE.below ((((vE.new' _ _ rfl).alloc _).alloc _).drewN _) hb1 (by simp;omega)
 have br:vE w1 (w.heap.size+1) _ _:=vE.below (((vE.new' _ _ (by simp)).alloc _).drewN _) hb1 (by simp)
 have bt:vE w1 (w.heap.size+1+1) _ _:=vE.below ((vE.new' _ _ (by simp)).drewN _) hb1 (by simp)
 have hb0:Below w.heap.size w w1:=M1 (by(repeat'(first|(with_reducible exact Below.refl _ _)|(with_reducible assumption)|(with_reducible refine uP ?_ _)|(with_reducible refine Below.alloc ?_ ?_ _)|(with_reducible refine Below.setCell ?_ ?_ _)|(with_reducible refine Below.drew ?_)|go_size))) hb1
 clear hb1;have HV:=Lib.hid hv;have hn0:=bc.lt;clear hv;refine(zaX g w.heap.size s i w1 hs (by omega) hn0 (bc.cell 0) g1 v HV.out).mono ?_
 rintro e w2 ⟨rfl,hb2⟩;rw[ht];have g2:=Lib.hid (g1.below hb2 g1.lt);have bc2:=bc.below hb2 bc.lt;have br2:=br.below hb2 br.lt;have bt2:=bt.below hb2 bt.lt;have hs1:w2.heap.size>w.heap.size+1+1:=bt2.lt;have hb3:Below w.heap.size w w2:=M1 hb0 hb2;clear g1 bc br bt hb2 hb0 hn0 c0 c1 HV;have c0:w2.cell? ⟨g,0,none⟩=some (.string s):=g2.out.cell 0;have c1:w2.cell? ⟨g,1,none⟩=some (.int .i64 i):=g2.out.cell 1;have f1:w2.frozen? ⟨g,1,none⟩=false:=g2.out.frozen 1;have k0:w2.cell? ⟨w.heap.size,0,none⟩=some (.pointer (some ⟨g,0,none⟩)):=bc2.cell 0;have t0:w2.cell? ⟨w.heap.size+1+1,0,none⟩=some (.int .i64 3):=bt2.cell 0;have t1:w2.cell? ⟨w.heap.size+1+1,1,none⟩=some (.int .i64 i):=bt2.cell 1;have t2:w2.cell? ⟨w.heap.size+1+1,2,none⟩=some (.string ⟨#[]⟩):=bt2.cell 2;have r0:w2.cell? ⟨w.heap.size+1,0,none⟩=some (.int .i64 0):=br2.cell 0;have r1:w2.cell? ⟨w.heap.size+1,1,none⟩=some (.int .i64 0):=br2.cell 1;have r2:w2.cell? ⟨w.heap.size+1,2,none⟩=some (.string ⟨#[]⟩):=br2.cell 2;have ft:∀k,w2.frozen? ⟨w.heap.size+1+1,k,none⟩=false:=bt2.frozen;have fr:∀k,w2.frozen? ⟨w.heap.size+1,k,none⟩=false:=br2.frozen;clear bc2 br2 bt2;have HT:=Lib.hid ht;clear ht;obtain⟨k,hk⟩:∃k,k=Lib.indexByte [91,93,59,58,44,45] s[i]:=⟨_,rfl⟩;have hk0:¬0≤k:=by rw[hk];intro h;rw[(E0 _).2 h]at hsg;cases hsg
 have HI:Hid (∀W,Calls Tryz.prog 216 #[.string ⟨#[91,93,59,58,44,45]⟩,.int .u8 s[i].toNat] W λe w'=>e=.returned (.int .i64 k)∧W=w'):=λW=>by
  refine(Tryz.strings_IndexByte _ _ W).mono λe w' ⟨h1,h2⟩=>⟨?_,h2.symm⟩
  rw[h1,hk];simp
 clear hk
 go_wp2_with (go_at_call 216;refine(HI.out _).mono ?_;rintro e w' ⟨rfl,rfl⟩);refine bodyPost_ret (v:=.tuple #[.agg #[.int .i64 3,.int .i64 i,.string ⟨#[]⟩],.int .i64 1]) (by simp[results,Tryz.results205,go_sem,r0,r1,r2]) rfl ⟨rfl,?_⟩
 have:=gU hb3 (some g);(repeat'(first|(with_reducible assumption)|(with_reducible exact World.grownBy.refl _ _)|(with_reducible refine vL ?_ _)|(with_reducible refine iR ?_ _)|(with_reducible refine tL ?_ ?_ _)|(with_reducible refine eX ?_)|(exact .inl rfl)|(refine .inr ?_;simp;done)|(refine .inr ?_;simp;omega)|(refine .inr ?_;omega)))
theorem ziO(g:Nat)(s:ByteArray)(i:Nat)(w:World)(hs:s.size≤4000)(h0:i<s.size)(hb:vE w g 211 #[.string s,.int .i64 i]):
  Calls Tryz.prog 205 #[.pointer (some ⟨g,0,none⟩)] w λe w'=>∃k x,e=.returned (.tuple #[.agg #[.int .i64 k,.int .i64 i,.string x],.int .i64 (nL (yZ (s.data.toList.drop i)).1 (yZ (s.data.toList.drop i)).2 s[i])])∧w.grownBy w' (some g)∧
   (nL (yZ (s.data.toList.drop i)).1 (yZ (s.data.toList.drop i)).2 s[i]=0→k=(yZ (s.data.toList.drop i)).1∧x=s.extract i (i+(yZ (s.data.toList.drop i)).2)∧vE w' g 211 #[.string s,.int .i64 ↑(i+(yZ (s.data.toList.drop i)).2)]):=by
 have hd:=jT s i h0;cases hl:Vb s[i].toNat with
 |true=>
  refine(zaW g s i w hs h0 hb hl).mono ?_;rintro e w' ⟨n,er,rfl,hn,he,hbl,hg⟩
  have ht:yZ (s.data.toList.drop i)=(1,n):=by
   rw[hn,hd,yZ,if_pos (show isL s[i]=true from hl),List.takeWhile_cons,if_pos (by simp[hl])]
   simp[Nat.add_comm];rfl
  rw[ht];have hb':nL 1 n s[i]=er:=by rw[he];simp[nL]
  rw[hb'];exact⟨1,_,rfl,hg,λ_=>⟨rfl,rfl,hbl⟩⟩
 |false=>
  cases hdg:isDN s[i].toNat with
  |true=>
   refine(zcK g s i w hs h0 hb hl hdg).mono ?_;rintro e w' ⟨n,er,rfl,hn,he,hbl,hg⟩
   have ht:yZ (s.data.toList.drop i)=(2,n):=by
    rw[hn,hd,yZ,if_neg (show¬isL s[i]=true by unfold isL;simp[hl]),if_pos (show isD s[i]=true from hdg),List.takeWhile_cons,if_pos (by simp[hdg])]
    simp[Nat.add_comm];rfl
   rw[ht];have hb':nL 2 n s[i]=er:=by rw[he];simp[nL]
   rw[hb'];exact⟨2,_,rfl,hg,λ_=>⟨rfl,rfl,hbl⟩⟩
  |false=>
   have nl:¬isL s[i]=true:=by unfold isL;simp[hl]
   have nd:¬isD s[i]=true:=by unfold isD;simp[hdg]
   cases ht2:cE (s.data.toList.drop i)with
   |true=>
    have h2:i+2≤s.size:=by
     rw[hd]at ht2
     cases hr:s.data.toList.drop (i+1)with
     |nil=>rw[hr]at ht2;simp[cE]at ht2
     |cons a r=>
      have:=congrArg List.length hr;simp at this;omega
    refine(ziM g s i w hs h0 hb hl hdg ht2 h2).mono ?_;rintro e w' ⟨rfl,hbl,hg⟩
    have ht:yZ (s.data.toList.drop i)=(3,2):=by
     rw[hd]at ht2⊢
     rw[yZ,if_neg nl,if_neg nd,if_pos ht2]
    rw[ht];exact⟨3,_,rfl,hg,λ_=>⟨rfl,rfl,hbl⟩⟩
   |false=>
    cases hsg:Ys s[i]with
    |true=>
     refine(zey g s i w hs h0 hb hl hdg ht2 hsg).mono ?_;rintro e w' ⟨rfl,hbl,hg⟩
     have ht:yZ (s.data.toList.drop i)=(3,1):=by
      rw[hd]at ht2⊢
      rw[yZ,if_neg nl,if_neg nd,if_neg (by simp[ht2]),if_pos hsg]
     rw[ht];exact⟨3,_,rfl,hg,λ_=>⟨rfl,rfl,hbl⟩⟩
    |false=>
     refine(zez g s i w hs h0 hb hl hdg ht2 hsg).mono ?_;rintro e w' ⟨rfl,hg⟩
     have ht:yZ (s.data.toList.drop i)=(0,0):=by
      rw[hd]at ht2⊢
      rw[yZ,if_neg nl,if_neg nd,if_neg (by simp[ht2]),if_neg (by simp[hsg])]
     rw[ht];exact⟨3,_,rfl,hg,λh=>by simp[nL]at h⟩
end Go.Proofs.YteimklbiapnfhaaGreat
namespace Go.Proofs.YteimklbiapnfhaaGreat
open Go.RowKit
set_option linter.unusedVariables false
set_option linter.unusedSimpArgs false
theorem zmt:M2 Tryz.prog 198 202 3 32:=M2.mk' Tryz.underlying198 (z:=.agg #[.int .i64 0,.int .i64 0,.string ⟨#[]⟩]) (by kernel_rfl) rfl
theorem zkJ(s:ByteArray)(w:World)(hs:4000<s.size):Calls Tryz.prog 197 #[.string s] w λe w'=>e=.returned (.tuple #[.slice none 0 0,.int .i64 0,.int .i64 2])∧w=w':=by
 go_enter Tryz.func197,Tryz.ntmps197
 go_wp2_with fail
 go_ret3
 exact⟨rfl,rfl⟩
theorem E3{α:Type}[xT α]{w w':World}{lo base g:Nat}{E:TypeId}{v:Value}{xs:List α}(h:Own w lo base E v xs)(hg:w.grownBy w' (some g))(hlt:g<lo):Own w' lo base E v xs:=
 h.kept hg.size λb hb hb'=>hg.block b hb' λe=>by injection e with e;omega
theorem Ap{α:Type}[xT α](w:World)(B:Nat):Ra w B (.slice none 0 0) ([]:List α):=
 ⟨[_],rfl,none,0,rfl,by simp,by simp,by simp,λ_=>rfl,λh=>absurd h (by simp)⟩
theorem zeA(s:ByteArray)(i n:Nat):s.extract i (i+n)=bs ((s.data.toList.drop i).take n):=by
 apply ByteArray.ext;rw[ByteArray.data_extract];apply Array.ext';simp only[Array.toList_extract,List.extract_eq_take_drop,bs]
 congr 1;omega
theorem E4:∀(l:List UInt8) (note:Bool),uK (l.drop (uK l note)) false=0:=by
 intro l note;cases h:l.drop (uK l note)with
 |nil=>rfl
 |cons c r=>
  obtain⟨h1,h2⟩:=Yt l note c r h;rw[uK,if_neg (by simpa using h1),if_neg (by simp[h2])]
set_option maxHeartbeats 1000000 in
theorem zeB(s:ByteArray)(w:World)(hs:s.size≤4000):Calls Tryz.prog 197 #[.string s] w λe w'=>
  ∃v,e=.returned (.tuple #[v,.int .i64 (nR s.data.toList 0 false [] 0).2.1,.int .i64 (nR s.data.toList 0 false [] 0).2.2])∧Ra w' w.heap.size v (nR s.data.toList 0 false [] 0).1∧Below w.heap.size w w':=by
 obtain⟨R,hR⟩:∃R,R=nR s.data.toList 0 false [] 0:=⟨_,rfl⟩;rw[←hR];have HR:=Lib.hid hR;clear hR
 go_enter Tryz.func197,Tryz.ntmps197
 go_wp2_with (go_at_call 204;refine(zcH w.heap.size s 0 _ hs (by omega) (vE.new' _ _ rfl)).mono ?_;rintro e w1 ⟨rfl,hb1,hg1⟩)
 have hh:0+uK (s.data.toList.drop 0) false≤s.size:=by have:=UL (s.data.toList.drop 0) false;simpa using this
 obtain⟨i0,hi0⟩:∃i0,i0=0+uK (s.data.toList.drop 0) false:=⟨_,rfl⟩;rw[←hi0]at hb1 hh
 have HB1:=Lib.hid hb1
 have hr0:Hid (nR (s.data.toList.drop i0) i0 false [] 0=R∧uK (s.data.toList.drop i0) false=0):=by
  show _∧_
  rw[HR.out,eZ s.data.toList 0 false []];simp only[List.drop_zero,Nat.zero_add]at hi0
  rw[hi0,Nat.zero_add];exact⟨rfl,E4 _ _⟩
 have hw1:Below w.heap.size w w1:=YD (NV (gU (by(repeat'(first|(with_reducible exact Below.refl _ _)|(with_reducible assumption)|(with_reducible refine uP ?_ _)|(with_reducible refine Below.alloc ?_ ?_ _)|(with_reducible refine Below.setCell ?_ ?_ _)|(with_reducible refine Below.drew ?_)|go_size))) (some w.heap.size)) hg1) (Nat.le_refl _) (Nat.le_refl _)
 have hsz1:w.heap.size+1≤w1.heap.size:=hb1.lt;clear hi0 hb1 hg1
 go_loopg [6] s.size (λn v wr=>∃(i:Nat) (xs:List Tok),i≤s.size∧s.size-i≤n∧xs.length≤i∧Hid (vE wr w.heap.size 211 #[.string s,.int .i64 i])∧Hid (Own wr (w.heap.size+1) (w.heap.size+1) 202 v xs)∧
  Hid (nR (s.data.toList.drop i) i false xs 0=R∧uK (s.data.toList.drop i) false=0)∧Below w.heap.size w wr∧w.heap.size+1≤wr.heap.size)
 case atStart=>exact⟨i0,[],hh,by omega,Nat.zero_le _,HB1.out,Own.nil _ _ (Nat.le_refl _),hr0,hw1,hsz1⟩
 case round=>
  obtain⟨i,xs,hi,hm,hxs,HB,HO,HS,hw,hsz⟩:=hrel;clear hr0 HB1 hw1 hsz1 hh;have c1:wr.cell? ⟨w.heap.size,1,none⟩=some (.int .i64 i):=HB.out.cell 1
  by_cases hlt:i<s.size
  ·have hlt':(i:Int)<(s.size:Int):=by omega
   have hd:=Lib.hid (jT s i hlt);have hnx:=Yt (s.data.toList.drop i) false s[i] (s.data.toList.drop (i+1)) (by rw[HS.out.2,List.drop_zero];exact hd.out)
   have hstep:Hid (nR (s.data.toList.drop i) i false xs 0=if nL (yZ (s.data.toList.drop i)).1 (yZ (s.data.toList.drop i)).2 s[i]=0 then nR (s.data.toList.drop (i+1)) (i+1) false (xs++[⟨(yZ (s.data.toList.drop i)).1,i,bs ((s.data.toList.drop i).take (yZ (s.data.toList.drop i)).2)⟩]) ((yZ (s.data.toList.drop i)).2-1)else([],i,nL (yZ (s.data.toList.drop i)).1 (yZ (s.data.toList.drop i)).2 s[i])):=by
    show _=_
    rw[hd.out,nR,if_neg (by simpa using hnx.1),if_neg (by simp[hnx.2])]
   have hle:=EZ (s.data.toList.drop i);have hpos:=Hq (s.data.toList.drop i);have hkk:=Ln (s.data.toList.drop i);generalize hta:yZ (s.data.toList.drop i)=kn at hstep hle hpos hkk
   obtain⟨kd,n⟩:=kn;have hcall:=ziO w.heap.size s i wr hs hlt HB.out;rw[hta]at hcall
   simp only at hcall hstep hle hpos hkk
   generalize hbd:nL kd n s[i]=bd at hcall hstep
   have HC:=Lib.hid hcall;have HTA:=Lib.hid hta;have HBD:=Lib.hid hbd;clear hcall hta hbd hnx
   by_cases hb0:bd=0
   ·subst hb0
    go_wp2_with (first
     |(
       go_at_call 205
       refine HC.out.mono ?_;rintro e w2 ⟨k,x,rfl,hg2,hok⟩;obtain⟨rfl,rfl,hbl⟩:=hok rfl;have hown2:=Lib.hid (E3 HO.out hg2 (by omega))
       have HBL:=Lib.hid hbl;have HG2:=Lib.hid hg2;have hsz2:=hg2.size;clear hok hbl hg2)
     |(
       at_builtin
       refine M3 (α:=Tok) rfl (.tmp 36) (.tmp 38) rfl zmt rfl (hown2.out.alloc _) rfl (by simp) (y:=⟨kd,i,s.extract i (i+n)⟩) ⟨rfl,by unfold vK;simp;omega,by unfold vK;simp;omega,by rw[ByteArray.size_extract];simp;omega⟩ (by simp only[xT.bytes];omega) (by omega) (by simp;omega) ?_
       rintro v' w3 hown3 hg3 hb3;have HO3:=Lib.hid hown3;have hbl3:vE w3 w.heap.size 211 #[.string s,.int .i64 ↑(i+n)]:=vE.below (HBL.out.alloc _) hb3 (by omega)
       have HBL3:=Lib.hid hbl3;have HB3:=Lib.hid hb3;clear hown3 hg3 hbl3 hb3))
    have hn1:1≤n:=hpos (by intro h;subst h;have:=HBD.out;simp[nL]at this)
    have hln:i+n≤s.size:=by simp at hle;omega
    refine(zcH w.heap.size s (i+n) w3 hs hln HBL3.out).mono ?_;rintro e w4 ⟨rfl,hb4,hg4⟩;have hsk:=UL (s.data.toList.drop (i+n)) false;have hsk0:=E4 (s.data.toList.drop (i+n)) false;rw[List.drop_drop]at hsk0
    obtain⟨i2,hi2⟩:∃i2,i2=i+n+uK (s.data.toList.drop (i+n)) false:=⟨_,rfl⟩;rw[←hi2]at hb4 hsk0
    have hi2l:i2≤s.size:=by simp at hsk;omega
    have HI2:=Lib.hid hi2;have hge:i+n≤i2:=by omega
    clear hi2 hsk;have hO4:Hid (Own w4 (w.heap.size+1) (w.heap.size+1) 202 v' (xs++[⟨kd,i,s.extract i (i+n)⟩])):=E3 HO3.out hg4 (by omega)
    have hS4:Hid (nR (s.data.toList.drop i2) i2 false (xs++[⟨kd,i,s.extract i (i+n)⟩]) 0=R∧uK (s.data.toList.drop i2) false=0):=by
     refine⟨?_,hsk0⟩
     rw[←HS.out.1,hstep.out,if_pos (by first|exact HBD.out|trivial),←zeA,Mb (s.data.toList.drop (i+1)) _ _ _ (n-1) (by simp;omega),List.drop_drop,
       show i+1+(n-1)=i+n from by omega,eZ (s.data.toList.drop (i+n)),List.drop_drop,←HI2.out]
    have z3:=HB3.out.size;have z4:=hg4.size;simp only[World.size_alloc]at z3
    have hB4:Below w.heap.size w w4:=by
     have b1:=hw.trans (YD HG2.out (Nat.le_refl _) (by omega))
     have b2:Below w.heap.size w w3:=(b1.alloc (by omega) _).trans (HB3.out.mono (by omega))
     exact b2.trans (YD hg4 (Nat.le_refl _) (by omega))
    have hlen4:(xs++[(⟨kd,i,s.extract i (i+n)⟩:Tok)]).length≤i2:=by simp;omega
    have hsz4:w.heap.size+1≤w4.heap.size:=by omega
    have HBL4:=Lib.hid hb4;clear hg4 hb4 HO3 HBL3 HB3 hsk0
    go_wp2_with fail
    go_roundg (s.size-i2)
    case measure=>omega
    case rel=>exact⟨i2,_,hi2l,Nat.le_refl _,hlen4,HBL4,hO4,hS4,hB4,hsz4⟩
   ·have hb0':(bd !=0)=true:=by simp[hb0]
    have H0:=Lib.hid hb0;clear hb0
    go_wp2_with (go_at_call 205;refine(HC.out).mono ?_;rintro e w2 ⟨k,x,rfl,hg2,hok⟩)
    go_quiet (fail)
    go_wp2_with fail
    go_ret3
    have hfin:=HS.out.1;rw[hstep.out,if_neg H0.out]at hfin
    rw[←hfin];have hsz2:=hg2.size;have hwx:=hw.trans (YD hg2 (Nat.le_refl _) (by omega))
    exact⟨_,rfl,Ap _ _,by(repeat'(first|(with_reducible exact Below.refl _ _)|(with_reducible assumption)|(with_reducible refine uP ?_ _)|(with_reducible refine Below.alloc ?_ ?_ _)|(with_reducible refine Below.setCell ?_ ?_ _)|(with_reducible refine Below.drew ?_)|go_size))⟩
  ·have hlt':¬(i:Int)<(s.size:Int):=by omega
   go_wp2_with fail
   go_ret3
   have hfin:=HS.out.1;rw[List.drop_of_length_le (by simpa using hlt),nR]at hfin
   rw[←hfin];exact⟨_,rfl,HO.out.fresh.more (by omega),by(repeat'(first|(with_reducible exact Below.refl _ _)|(with_reducible assumption)|(with_reducible refine uP ?_ _)|(with_reducible refine Below.alloc ?_ ?_ _)|(with_reducible refine Below.setCell ?_ ?_ _)|(with_reducible refine Below.drew ?_)|go_size))⟩
end Go.Proofs.YteimklbiapnfhaaGreat
namespace Go.Proofs.YteimklbiapnfhaaGreat
open Go.RowKit
set_option linter.unusedVariables false
set_option linter.unusedSimpArgs false
theorem zcL(s:ByteArray)(i n:Nat):s.extract i (i+n)=bs ((s.data.toList.drop i).take n):=by
 apply ByteArray.ext;rw[ByteArray.data_extract];apply Array.ext';simp only[Array.toList_extract,List.extract_eq_take_drop,bs]
 congr 1;omega
set_option maxHeartbeats 1000000 in
theorem C7(s:ByteArray)(i:Nat)(w:World)(hs:s.size≤4000)(h0:i<s.size)(hl:Vb s[i].toNat=true):
  Calls Tryz.prog 167 #[.string s,.int .i64 i] w λe w'=>e=.returned (.tuple #[.int .i64 1,.int .i64 ↑(1+((s.data.toList.drop (i+1)).takeWhile isW).length)])∧w=w':=by
 have hle:=zcI (p:=isW) (l:=s.data.toList) (j:=i+1) (by simp;omega)
 have hss:=UInt8.toNat_lt s[i];have hlt':(i:Int)<(s.size:Int):=by omega
 obtain⟨n,hn⟩:∃n,n=((s.data.toList.drop (i+1)).takeWhile isW).length:=⟨_,rfl⟩;rw[Wr,←hn]at hle
 rw[←hn];have HN:=Lib.hid hn;clear hn
 go_enter Tryz.func167,Tryz.ntmps167
 go_wp2_with (go_at_call 182;refine(kJ _ (by assumption) _).mono ?_;rintro e w' ⟨rfl,rfl⟩)
 go_loopg [7] s.size (λgg v wr=>∃j:Nat,i+1≤j∧j≤s.size∧s.size-j≤gg∧v=.int .i64 ↑(j-i)∧Hid (j+((s.data.toList.drop j).takeWhile isW).length=i+1+n)∧w=wr)
 case atStart=>exact⟨i+1,Nat.le_refl _,h0,by omega,by simp,by show _=_;rw[HN.out],rfl⟩
 case round=>
  obtain⟨j,hij,hj,hg,rfl,hE,rfl⟩:=hrel;clear hl hss;have e1:(i:Int)+((j-i:Nat):Int)=(j:Int):=by omega
  by_cases hlt:j<s.size
  ·have hjl:(j:Int)<(s.size:Int):=by omega
   have hd:=Lib.hid (jT s j hlt);have hsj:=UInt8.toNat_lt s[j];cases hlj:Vb s[j].toNat with
   |true=>
    have HP:Hid (isW s[j]=true):=by show _=_;simp[isW,isL,hlj]
    go_wp2_with (go_at_call 182;refine(kJ _ (by assumption) _).mono ?_;rintro e w' ⟨rfl,rfl⟩)
    go_roundg (s.size-(j+1))
    case measure=>omega
    case rel=>exact⟨j+1,by omega,by omega,by omega,(by go_num),zhq hd.out HP.out hE.out,rfl⟩
   |false=>
    cases hdj:isDN s[j].toNat with
    |true=>
     have HP:Hid (isW s[j]=true):=by show _=_;simp[isW,isD,hdj]
     go_wp2_with (first|(go_at_call 182;refine(kJ _ (by assumption) _).mono ?_;rintro e w' ⟨rfl,rfl⟩)|(go_at_call 183;refine(iJ _ (by assumption) _).mono ?_;rintro e w' ⟨rfl,rfl⟩))
     go_roundg (s.size-(j+1))
     case measure=>omega
     case rel=>exact⟨j+1,by omega,by omega,by omega,(by go_num),zhq hd.out HP.out hE.out,rfl⟩
    |false=>
     have HP:Hid (isW s[j]=false):=by show _=_;simp[isW,isL,isD,hlj,hdj]
     go_wp2_with (first|(go_at_call 182;refine(kJ _ (by assumption) _).mono ?_;rintro e w' ⟨rfl,rfl⟩)|(go_at_call 183;refine(iJ _ (by assumption) _).mono ?_;rintro e w' ⟨rfl,rfl⟩))
     go_ret2
     have:=zev hd.out HP.out hE.out;exact⟨by rw[show 1+n=j-i from by omega];rfl,rfl⟩
  ·have hjl:decide ((j:Int)<(s.size:Int))=false:=by simp;omega
   go_wp2_with fail
   go_ret2
   have:=zew (by simpa using hlt) hE.out
   exact⟨by rw[show 1+n=j-i from by omega];rfl,rfl⟩
set_option maxHeartbeats 1000000 in
theorem zaY(s:ByteArray)(i:Nat)(w:World)(hs:s.size≤4000)(h0:i<s.size)(hl:Vb s[i].toNat=false)(hdg:isDN s[i].toNat=true):
  Calls Tryz.prog 167 #[.string s,.int .i64 i] w λe w'=>e=.returned (.tuple #[.int .i64 2,.int .i64 ↑(1+((s.data.toList.drop (i+1)).takeWhile isD).length)])∧w=w':=by
 have hle:=zcI (p:=isD) (l:=s.data.toList) (j:=i+1) (by simp;omega)
 have hss:=UInt8.toNat_lt s[i];have hlt':(i:Int)<(s.size:Int):=by omega
 obtain⟨n,hn⟩:∃n,n=((s.data.toList.drop (i+1)).takeWhile isD).length:=⟨_,rfl⟩;rw[Wr,←hn]at hle
 rw[←hn];have HN:=Lib.hid hn;clear hn
 go_enter Tryz.func167,Tryz.ntmps167
 go_wp2_with (first|(go_at_call 182;refine(kJ _ (by assumption) _).mono ?_;rintro e w' ⟨rfl,rfl⟩)|(go_at_call 183;refine(iJ _ (by assumption) _).mono ?_;rintro e w' ⟨rfl,rfl⟩))
 go_loopg [7] s.size (λgg v wr=>∃j:Nat,i+1≤j∧j≤s.size∧s.size-j≤gg∧v=.int .i64 ↑(j-i)∧Hid (j+((s.data.toList.drop j).takeWhile isD).length=i+1+n)∧w=wr)
 case atStart=>exact⟨i+1,Nat.le_refl _,h0,by omega,by simp,by show _=_;rw[HN.out],rfl⟩
 case round=>
  obtain⟨j,hij,hj,hg,rfl,hE,rfl⟩:=hrel;clear hl hdg hss;have e1:(i:Int)+((j-i:Nat):Int)=(j:Int):=by omega
  by_cases hlt:j<s.size
  ·have hjl:(j:Int)<(s.size:Int):=by omega
   have hd:=Lib.hid (jT s j hlt);have hsj:=UInt8.toNat_lt s[j];cases hdj:isDN s[j].toNat with
   |true=>
    have HP:Hid (isD s[j]=true):=hdj
    go_wp2_with (go_at_call 183;refine(iJ _ (by assumption) _).mono ?_;rintro e w' ⟨rfl,rfl⟩)
    go_roundg (s.size-(j+1))
    case measure=>omega
    case rel=>exact⟨j+1,by omega,by omega,by omega,(by go_num),zhq hd.out HP.out hE.out,rfl⟩
   |false=>
    have HP:Hid (isD s[j]=false):=hdj
    go_wp2_with (go_at_call 183;refine(iJ _ (by assumption) _).mono ?_;rintro e w' ⟨rfl,rfl⟩)
    go_ret2
    have:=zev hd.out HP.out hE.out;exact⟨by rw[show 1+n=j-i from by omega];rfl,rfl⟩
  ·have hjl:decide ((j:Int)<(s.size:Int))=false:=by simp;omega
   go_wp2_with fail
   go_ret2
   have:=zew (by simpa using hlt) hE.out
   exact⟨by rw[show 1+n=j-i from by omega];rfl,rfl⟩
theorem zcM(s:ByteArray)(i:Nat):(s.extract i (i+2)).toList=(s.data.toList.drop i).take 2:=by
 rw[ByteArray.toList_eq,zcL];rfl
theorem Aq(l:List UInt8):cE l=(l.take 2==[46,46]||l.take 2==[60,61]||l.take 2==[62,61]||l.take 2==[61,61]||l.take 2==[33,61]):=by
 match l with
 |[]=>rfl
 |[a]=>simp[cE]
 |a::b::l=>simp[cE]
theorem UN{c:UInt8}{k:Nat}(hk:k<256)(h:c≠UInt8.ofNat k):((k:Int)==(c.toNat:Int))=false:=by
 have:=YG hk h;rw[beq_eq_false_iff_ne]at this⊢;exact λe=>this e.symm
set_option maxHeartbeats 2000000 in
theorem zcN(s:ByteArray)(i:Nat)(w:World)(hs:s.size≤4000)(h0:i<s.size)(hl:Vb s[i].toNat=false)(hdg:isDN s[i].toNat=false)(b1 b2 b3 b4 b5 b6:Bool)
  (e1:(((⟨#[91,93,59,58,44,45]⟩:ByteArray)[0]'(by decide)).toNat==(s[i].toNat:Int))=b1) (e2:(((⟨#[91,93,59,58,44,45]⟩:ByteArray)[1]'(by decide)).toNat==(s[i].toNat:Int))=b2) (e3:(((⟨#[91,93,59,58,44,45]⟩:ByteArray)[2]'(by decide)).toNat==(s[i].toNat:Int))=b3) (e4:(((⟨#[91,93,59,58,44,45]⟩:ByteArray)[3]'(by decide)).toNat==(s[i].toNat:Int))=b4) (e5:(((⟨#[91,93,59,58,44,45]⟩:ByteArray)[4]'(by decide)).toNat==(s[i].toNat:Int))=b5) (e6:(((⟨#[91,93,59,58,44,45]⟩:ByteArray)[5]'(by decide)).toNat==(s[i].toNat:Int))=b6)
  (hx:(b1,b2,b3,b4,b5,b6)=(true,false,false,false,false,false)∨(b1,b2,b3,b4,b5,b6)=(false,true,false,false,false,false)∨(b1,b2,b3,b4,b5,b6)=(false,false,true,false,false,false)∨(b1,b2,b3,b4,b5,b6)=(false,false,false,true,false,false)∨
   (b1,b2,b3,b4,b5,b6)=(false,false,false,false,true,false)∨(b1,b2,b3,b4,b5,b6)=(false,false,false,false,false,true)∨(b1,b2,b3,b4,b5,b6)=(false,false,false,false,false,false)):
  Calls Tryz.prog 167 #[.string s,.int .i64 i] w λe w'=>e=.returned (.tuple #[.int .i64 (if cE (s.data.toList.drop i)=true then 3 else if(b1||b2||b3||b4||b5||b6)=true then 3 else 0),.int .i64 (if cE (s.data.toList.drop i)=true then 2 else if(b1||b2||b3||b4||b5||b6)=true then 1 else 0)])∧w=w':=by
 have hss:=UInt8.toNat_lt s[i];have hlt':(i:Int)<(s.size:Int):=by omega
 cases ht:cE (s.data.toList.drop i)with
 |true=>
  have h2:i+1<s.size:=by
   rcases Nat.lt_or_ge (i+1) s.size with h|h
   ·exact h
   ·rw[jT s i h0,List.drop_of_length_le (by simpa using h)]at ht;simp[cE]at ht
  have h2':(i:Int)+1<(s.size:Int):=by omega
  rw[Aq,←zcM]at ht
  have HT:=Lib.hid ht;clear ht hx
  go_enter Tryz.func167,Tryz.ntmps167
  go_wp2_with (first|(go_at_call 182;refine(kJ _ (by assumption) _).mono ?_;rintro e w' ⟨rfl,rfl⟩)|(go_at_call 183;refine(iJ _ (by assumption) _).mono ?_;rintro e w' ⟨rfl,rfl⟩))
  all_goals first
   |(go_ret2;exact⟨rfl,rfl⟩)
   |(exfalso;have:=HT.out;simp_all;done)
 |false=>
  by_cases h2:i+1<s.size
  ·have h2':(i:Int)+1<(s.size:Int):=by omega
   rw[Aq,←zcM]at ht
   simp only[Bool.or_eq_false_iff]at ht
   obtain⟨⟨⟨⟨f1,f2⟩,f3⟩,f4⟩,f5⟩:=ht;rcases hx with h|h|h|h|h|h|h<;>(simp only[Prod.mk.injEq]at h;obtain⟨rfl,rfl,rfl,rfl,rfl,rfl⟩:=h)
   all_goals
    go_enter Tryz.func167,Tryz.ntmps167
    go_wp2_with (first|(go_at_call 182;refine(kJ _ (by assumption) _).mono ?_;rintro e w' ⟨rfl,rfl⟩)|(go_at_call 183;refine(iJ _ (by assumption) _).mono ?_;rintro e w' ⟨rfl,rfl⟩))
    go_rounds 7
    go_ret2
    exact⟨by simp,rfl⟩
  ·have h2':¬(i:Int)+1<(s.size:Int):=by omega
   clear ht;rcases hx with h|h|h|h|h|h|h<;>(simp only[Prod.mk.injEq]at h;obtain⟨rfl,rfl,rfl,rfl,rfl,rfl⟩:=h)
   all_goals
    go_enter Tryz.func167,Tryz.ntmps167
    go_wp2_with (first|(go_at_call 182;refine(kJ _ (by assumption) _).mono ?_;rintro e w' ⟨rfl,rfl⟩)|(go_at_call 183;refine(iJ _ (by assumption) _).mono ?_;rintro e w' ⟨rfl,rfl⟩))
    go_rounds 7
    go_ret2
    exact⟨by simp,rfl⟩
theorem znU(s:ByteArray)(i:Nat)(w:World)(hs:s.size≤4000)(h0:i<s.size):
  Calls Tryz.prog 167 #[.string s,.int .i64 i] w λe w'=>e=.returned (.tuple #[.int .i64 ↑(yZ (s.data.toList.drop i)).1,.int .i64 ↑(yZ (s.data.toList.drop i)).2])∧w=w':=by
 have hd:=jT s i h0;cases hl:Vb s[i].toNat with
 |true=>
  have ht:yZ (s.data.toList.drop i)=(1,1+((s.data.toList.drop (i+1)).takeWhile isW).length):=by rw[hd,yZ,if_pos (show isL s[i]=true from hl)]
  rw[ht];exact C7 s i w hs h0 hl
 |false=>
  have nl:¬isL s[i]=true:=by unfold isL;simp[hl]
  cases hdg:isDN s[i].toNat with
  |true=>
   have ht:yZ (s.data.toList.drop i)=(2,1+((s.data.toList.drop (i+1)).takeWhile isD).length):=by rw[hd,yZ,if_neg nl,if_pos (show isD s[i]=true from hdg)]
   rw[ht];exact zaY s i w hs h0 hl hdg
  |false=>
   have nd:¬isD s[i]=true:=by unfold isD;simp[hdg]
   have key:∀b1 b2 b3 b4 b5 b6:Bool,Ys s[i]=(b1||b2||b3||b4||b5||b6)→yZ (s.data.toList.drop i)=(if cE (s.data.toList.drop i)=true then 3 else if(b1||b2||b3||b4||b5||b6)=true then 3 else 0,if cE (s.data.toList.drop i)=true then 2 else if(b1||b2||b3||b4||b5||b6)=true then 1 else 0):=by
    intro b1 b2 b3 b4 b5 b6 hb;rw[hd,yZ,if_neg nl,if_neg nd,hb];split
    ·rfl
    ·split<;>rfl
   have go:∀b1 b2 b3 b4 b5 b6:Bool,Ys s[i]=(b1||b2||b3||b4||b5||b6)→(((91:Int)==(s[i].toNat:Int))=b1)→(((93:Int)==(s[i].toNat:Int))=b2)→(((59:Int)==(s[i].toNat:Int))=b3)→(((58:Int)==(s[i].toNat:Int))=b4)→(((44:Int)==(s[i].toNat:Int))=b5)→(((45:Int)==(s[i].toNat:Int))=b6)→
     ((b1,b2,b3,b4,b5,b6)=(true,false,false,false,false,false)∨(b1,b2,b3,b4,b5,b6)=(false,true,false,false,false,false)∨(b1,b2,b3,b4,b5,b6)=(false,false,true,false,false,false)∨(b1,b2,b3,b4,b5,b6)=(false,false,false,true,false,false)∨
      (b1,b2,b3,b4,b5,b6)=(false,false,false,false,true,false)∨(b1,b2,b3,b4,b5,b6)=(false,false,false,false,false,true)∨(b1,b2,b3,b4,b5,b6)=(false,false,false,false,false,false))→
     Calls Tryz.prog 167 #[.string s,.int .i64 i] w λe w'=>e=.returned (.tuple #[.int .i64 ↑(yZ (s.data.toList.drop i)).1,.int .i64 ↑(yZ (s.data.toList.drop i)).2])∧w=w':=by
    intro b1 b2 b3 b4 b5 b6 hb e1 e2 e3 e4 e5 e6 hx;refine(zcN s i w hs h0 hl hdg b1 b2 b3 b4 b5 b6 e1 e2 e3 e4 e5 e6 hx).mono λe w' ⟨h1,h2⟩=>⟨?_,h2⟩
    rw[h1,key b1 b2 b3 b4 b5 b6 hb];split
    ·rfl
    ·split<;>rfl
   by_cases c1:s[i]=91
   ·exact go true false false false false false (by rw[c1];rfl) (by rw[c1];rfl) (by rw[c1];rfl) (by rw[c1];rfl) (by rw[c1];rfl) (by rw[c1];rfl) (by rw[c1];rfl) (by simp)
   by_cases c2:s[i]=93
   ·exact go false true false false false false (by rw[c2];rfl) (by rw[c2];rfl) (by rw[c2];rfl) (by rw[c2];rfl) (by rw[c2];rfl) (by rw[c2];rfl) (by rw[c2];rfl) (by simp)
   by_cases c3:s[i]=59
   ·exact go false false true false false false (by rw[c3];rfl) (by rw[c3];rfl) (by rw[c3];rfl) (by rw[c3];rfl) (by rw[c3];rfl) (by rw[c3];rfl) (by rw[c3];rfl) (by simp)
   by_cases c4:s[i]=58
   ·exact go false false false true false false (by rw[c4];rfl) (by rw[c4];rfl) (by rw[c4];rfl) (by rw[c4];rfl) (by rw[c4];rfl) (by rw[c4];rfl) (by rw[c4];rfl) (by simp)
   by_cases c5:s[i]=44
   ·exact go false false false false true false (by rw[c5];rfl) (by rw[c5];rfl) (by rw[c5];rfl) (by rw[c5];rfl) (by rw[c5];rfl) (by rw[c5];rfl) (by rw[c5];rfl) (by simp)
   by_cases c6:s[i]=45
   ·exact go false false false false false true (by rw[c6];rfl) (by rw[c6];rfl) (by rw[c6];rfl) (by rw[c6];rfl) (by rw[c6];rfl) (by rw[c6];rfl) (by rw[c6];rfl) (by simp)
   exact go false false false false false false (by simp[Ys,c1,c2,c3,c4,c5,c6]) (UN (k:=91) (by omega) c1) (UN (k:=93) (by omega) c2) (UN (k:=59) (by omega) c3) (UN (k:=58) (by omega) c4) (UN (k:=44) (by omega) c5) (UN (k:=45) (by omega) c6) (by simp)
end Go.Proofs.YteimklbiapnfhaaGreat
namespace Go.Proofs.YteimklbiapnfhaaGreat
set_option linter.unusedVariables false
set_option linter.unusedSimpArgs false
def Ar(L:List UInt8):Nat→List Tok→Prop
 |_,[]=>True
 |lo,t::ts=>∃j n:Nat,lo≤j∧1≤n∧j+n≤L.length∧t.at_=j∧t.text=bs ((L.drop j).take n)∧(∃c r,L.drop j=c::r∧yZ (c::r)=(t.kind.toNat,n)∧0≤t.kind∧nL t.kind.toNat n c=0)∧Ar L (j+n) ts
theorem Ar.mono{L:List UInt8}:∀ {ts:List Tok} {lo lo':Nat},lo'≤lo→Ar L lo ts→Ar L lo' ts
 |[],_,_,_,_=>trivial
 |t::ts,lo,lo',h,⟨j,n,h1,h2⟩=>⟨j,n,by omega,h2⟩
theorem Xb(L:List UInt8):∀(l:List UInt8) (i:Nat) (note:Bool) (out:List Tok) (k:Nat),L.drop i=l→k≤l.length→(nR l i note out k).2.2=0→
  ∃new,(nR l i note out k).1=out++new∧Ar L (i+k) new∧(nR l i note out k).2.1=0
 |[],i,note,out,k,hL,hk,h=>⟨[],by simp[nR],trivial,by simp[nR]⟩
 |c::r,i,note,out,k+1,hL,hk,h=>by
  have hr:L.drop (i+1)=r:=by rw[←List.drop_drop,hL];rfl
  obtain⟨new,h1,h2,h3⟩:=Xb L r (i+1) note out k hr (by simpa using hk) h
  exact⟨new,h1,by rw[show i+(k+1)=i+1+k from by omega];exact h2,h3⟩
 |c::r,i,note,out,0,hL,hk,h=>by
  have hr:L.drop (i+1)=r:=by rw[←List.drop_drop,hL];rfl
  rw[nR]at h⊢
  by_cases h1:(note||c==37)=true
  ·rw[if_pos h1]at h⊢
   obtain⟨new,a,b,d⟩:=Xb L r (i+1) _ out 0 hr (by omega) h
   exact⟨new,a,b.mono (by omega),d⟩
  ·rw[if_neg h1]at h⊢
   by_cases h2:Yi c=true
   ·rw[if_pos h2]at h⊢
    obtain⟨new,a,b,d⟩:=Xb L r (i+1) _ out 0 hr (by omega) h
    exact⟨new,a,b.mono (by omega),d⟩
   ·rw[if_neg h2]at h⊢
    have hle:=EZ (c::r);have hpos:=Hq (c::r);cases hta:yZ (c::r)with
    |mk kd n=>
     rw[hta]at h hle hpos
     simp only at h hle hpos⊢
     by_cases hb:nL kd n c=0
     ·rw[if_pos hb]at h⊢
      have hn:1≤n:=hpos (by rintro rfl;simp[nL]at hb)
      obtain⟨new,a,b,d⟩:=Xb L r (i+1) _ _ (n-1) hr (by simp at hle;omega) h
      have hll:L.length=i+(r.length+1):=by
       have:=congrArg List.length hL;simp at this;omega
      refine⟨⟨kd,i,bs ((c::r).take n)⟩::new,by rw[a];simp,⟨i,n,by omega,hn,by simp at hle;omega,rfl,by rw[hL],⟨c,r,hL,by simpa using hta,by simp,by simpa using hb⟩,?_⟩,d⟩
      rw[show i+n=i+1+(n-1)from by omega];exact b
     ·rw[if_neg hb]at h
      exact absurd h hb
theorem zcO{l:List UInt8}(h:(UK l).2.2=0):Ar l 0 (UK l).1∧(UK l).2.1=0∧l.length≤4000:=by
 unfold UK at h⊢
 split
 ·rename_i hh;rw[if_pos hh]at h;simp at h
 ·rename_i hh
  rw[if_neg hh]at h
  obtain⟨new,a,b,d⟩:=Xb l l 0 false [] 0 rfl (by omega) h
  rw[a];exact⟨b,d,by omega⟩
theorem zeC{c:UInt8}{r:List UInt8}(h:(yZ (c::r)).1≠0):c≠37∧Yi c=false:=by
 have key:∀d:UInt8,(d=37∨d=32∨d=9∨d=10)→c=d→False:=by
  intro d hd hc;apply h;subst hc;have h1:isL c=false:=by rcases hd with rfl|rfl|rfl|rfl<;>decide
  have h2:isD c=false:=by rcases hd with rfl|rfl|rfl|rfl<;>decide
  have h3:Ys c=false:=by rcases hd with rfl|rfl|rfl|rfl<;>decide
  have h4:cE (c::r)=false:=by
   cases r with
   |nil=>rfl
   |cons a r=>rcases hd with rfl|rfl|rfl|rfl<;>simp[cE]
  rw[yZ,if_neg (by simp[h1]),if_neg (by simp[h2]),if_neg (by simp[h4]),if_neg (by simp[h3])]
 refine⟨λe=>key 37 (by simp) e,?_⟩
 cases hb:Yi c with
 |false=>rfl
 |true=>
  simp only[Yi,Bool.or_eq_true,beq_iff_eq]at hb
  rcases hb with(e|e)|e
  ·exact(key 32 (by simp) e).elim
  ·exact(key 9 (by simp) e).elim
  ·exact(key 10 (by simp) e).elim
theorem zmu(kind:Int)(s:ByteArray):((UK s.data.toList).2.2=0∧∃t,(UK s.data.toList).1=[t]∧t.kind=kind∧t.text=s)↔Zd kind s.data.toList=true:=by
 constructor
 ·rintro⟨h,t,ht,hk,hx⟩
  obtain⟨hc,_,hl⟩:=zcO h;rw[ht]at hc
  obtain⟨j,n,h0,h1,h2,h3,h4,⟨c,r,h5,h6,h7,h8⟩,_⟩:=hc;have hsz:(bs ((s.data.toList.drop j).take n)).data.toList.length=n:=by simp[bs];simp at h2;omega
  rw[←h4,hx]at hsz
  have hj:j=0:=by omega
  subst hj;rw[List.drop_zero]at h5
  rw[h5]at h2 hl hsz⊢
  simp only[Zd,h6];simp[h8,←hk];simp at hl hsz
  refine⟨⟨by omega,?_⟩,by omega⟩
  omega
 ·intro h
  cases hs:s.data.toList with
  |nil=>rw[hs]at h;cases h
  |cons c r=>
   rw[hs]at h
   simp only[Zd,Bool.and_eq_true,decide_eq_true_eq]at h
   obtain⟨⟨⟨h1,h2⟩,h3⟩,h4⟩:=h;have hk0:(yZ (c::r)).1≠0:=by intro e;rw[e]at h4;simp[nL]at h4
   obtain⟨n37,nbl⟩:=zeC hk0
   have hsc:UK (c::r)=([⟨kind,0,s⟩],0,0):=by
    unfold UK;rw[if_neg (by omega),nR,if_neg (by simpa using n37),if_neg (by simp[nbl])]
    have h4':nL (yZ (c::r)).1 (c::r).length c=0:=by rw[←h3];exact h4
    simp only[h3,h2];rw[if_pos h4'];rw[Mb r _ _ _ _ (by simp),List.take_of_length_le (by simp),List.drop_of_length_le (by simp),nR,←hs]
    rfl
   rw[hsc];exact⟨rfl,_,rfl,rfl,rfl⟩
end Go.Proofs.YteimklbiapnfhaaGreat
namespace Go.Proofs.YteimklbiapnfhaaGreat
open Go.RowKit
set_option linter.unusedVariables false
set_option linter.unusedSimpArgs false
theorem zhs{a b:ByteArray}(h:a≠b):(a.toList==b.toList)=false:=by
 rw[beq_eq_false_iff_ne,ByteArray.toList_eq,ByteArray.toList_eq];exact λe=>h (by cases a;cases b;simp at e;rw[e])
theorem zmv{a b:ByteArray}(h:a=b):(a.toList==b.toList)=true:=by subst h;simp
theorem zcP(kind:Int)(s:ByteArray)(h0:0<s.size)(hs:s.size≤4000){k n:Nat}(ht:yZ s.data.toList=(k,n)):
  Zd kind s.data.toList=(decide ((k:Int)=kind)&&decide (n=s.size)&&decide (nL k n s[0]=0)):=by
 have hd:=jT s 0 h0;rw[List.drop_zero]at hd
 have hl:s.data.toList.length=s.size:=Wr s;rw[hd]at ht hl⊢
 simp only[Zd];rw[hl,ht];simp[hs]
set_option maxHeartbeats 1000000 in
theorem zcQ(kind:Int)(s:ByteArray)(w:World)(hz:s.size≤140737488355328):Calls Tryz.prog 125 #[.int .i64 kind,.string s] w λe w'=>e=.returned (.bool (Zd kind s.data.toList))∧w=w':=by
 by_cases h0:s.size=0
 ·have hr:Zd kind s.data.toList=false:=by
   have:s.data.toList=[]:=List.eq_nil_of_length_eq_zero (by simpa using h0)
   rw[this];rfl
  rw[hr];have h1:s.toList=[]:=by rw[ByteArray.toList_eq];exact List.eq_nil_of_length_eq_zero (by simpa using h0)
  have h2:s.toList.isEmpty=true:=by rw[h1];rfl
  clear h1
  go_enter Tryz.func125,Tryz.ntmps125
  go_wp2_with fail
  go_ret
  exact⟨rfl,rfl⟩
 ·have h1:s.toList.isEmpty=false:=by
   rw[ByteArray.toList_eq];cases h:s.data.toList with
   |nil=>exact absurd (by have:=congrArg List.length h;simpa using this) h0
   |cons a l=>rfl
  by_cases hs:s.size≤4000
  ·have hs':decide ((4000:Int)<(s.size:Int))=false:=by simp;omega
   by_cases hk:kind=0
   ·subst hk
    have hr:Zd 0 s.data.toList=false:=by
     obtain⟨⟨k,n⟩,ht⟩:∃kn,yZ s.data.toList=kn:=⟨_,rfl⟩;rw[zcP 0 s (by omega) hs ht]
     by_cases e:k=0
     ·subst e;simp[nL]
     ·simp
      intro h;exact absurd h e
    rw[hr]
    go_enter Tryz.func125,Tryz.ntmps125
    go_wp2_with fail
    go_ret
    exact⟨rfl,rfl⟩
   ·have hk':(kind==0)=false:=by simpa using hk
    have HK:=Lib.hid hk;clear hk;have hcall:=znU s 0 w hs (by omega)
    rw[List.drop_zero]at hcall
    obtain⟨⟨k,n⟩,ht⟩:∃kn,yZ s.data.toList=kn:=⟨_,rfl⟩;have hR:=zcP kind s (by omega) hs ht
    have hkd:=Ln s.data.toList;rw[ht]at hcall hkd
    simp only at hkd
    rw[hR];have HC:=Lib.hid hcall;clear hcall ht hR;have hlen:(0:Int)<(s.size:Int):=by omega
    have hss:=UInt8.toNat_lt (s[0]'(by omega))
    by_cases e1:(k:Int)=kind
    ·subst e1
     by_cases e2:n=s.size
     ·have e2':((n:Int)==(s.size:Int))=true:=by simp[e2]
      have e2b:n≤s.size∧s.size≤n:=by omega
      have E2:=Lib.hid e2;clear e2
      match k,hkd,HC,HK,hk' with
      |0,_,_,HK,_=>exact absurd rfl HK.out
      |1,_,HC,_,_=>
       replace HC:Hid (Calls Tryz.prog 167 #[.string s,.int .i64 0] w λe w'=>e=.returned (.tuple #[.int .i64 1,.int .i64 n])∧w=w'):=HC
       clear hk';show Calls Tryz.prog 125 #[.int .i64 1,.string s] w _
       go_enter Tryz.func125,Tryz.ntmps125
       go_wp2_with (go_at_call 167;refine(HC.out).mono ?_;rintro e w' ⟨rfl,rfl⟩)
       all_goals go_ret
       all_goals exact⟨fJ (by rw[Bool.eq_iff_iff];simp[nL,E2.out];try omega),rfl⟩
      |2,_,HC,_,_=>
       replace HC:Hid (Calls Tryz.prog 167 #[.string s,.int .i64 0] w λe w'=>e=.returned (.tuple #[.int .i64 2,.int .i64 n])∧w=w'):=HC
       clear hk';show Calls Tryz.prog 125 #[.int .i64 2,.string s] w _
       by_cases e48:s[0]=48
       ·have y48:((s[0].toNat:Int)==48)=true:=Ob (k:=48) (by omega) e48
        have E48:=Lib.hid e48;clear e48
        go_enter Tryz.func125,Tryz.ntmps125
        go_wp2_with (go_at_call 167;refine(HC.out).mono ?_;rintro e w' ⟨rfl,rfl⟩)
        all_goals go_ret
        all_goals exact⟨fJ (by rw[Bool.eq_iff_iff];simp[nL,E2.out,E48.out];try omega),rfl⟩
       ·have y48:((s[0].toNat:Int)==48)=false:=YG (k:=48) (by omega) e48
        have E48:=Lib.hid e48;clear e48
        go_enter Tryz.func125,Tryz.ntmps125
        go_wp2_with (go_at_call 167;refine(HC.out).mono ?_;rintro e w' ⟨rfl,rfl⟩)
        all_goals go_ret
        all_goals exact⟨fJ (by rw[Bool.eq_iff_iff];simp[nL,E2.out,E48.out];try omega),rfl⟩
      |3,_,HC,_,_=>
       replace HC:Hid (Calls Tryz.prog 167 #[.string s,.int .i64 0] w λe w'=>e=.returned (.tuple #[.int .i64 3,.int .i64 n])∧w=w'):=HC
       clear hk';show Calls Tryz.prog 125 #[.int .i64 3,.string s] w _
       go_enter Tryz.func125,Tryz.ntmps125
       go_wp2_with (go_at_call 167;refine(HC.out).mono ?_;rintro e w' ⟨rfl,rfl⟩)
       all_goals go_ret
       all_goals exact⟨fJ (by rw[Bool.eq_iff_iff];simp[nL,E2.out];try omega),rfl⟩
     ·have e2':((n:Int)==(s.size:Int))=false:=by rw[beq_eq_false_iff_ne];omega
      go_enter Tryz.func125,Tryz.ntmps125
      go_wp2_with (go_at_call 167;refine(HC.out).mono ?_;rintro e w' ⟨rfl,rfl⟩)
      go_ret
      exact⟨fJ (by simp[e2]),rfl⟩
    ·have e1':((k:Int)==kind)=false:=by simpa using e1
     go_enter Tryz.func125,Tryz.ntmps125
     go_wp2_with (go_at_call 167;refine(HC.out).mono ?_;rintro e w' ⟨rfl,rfl⟩)
     go_ret
     exact⟨fJ (by simp[e1]),rfl⟩
  ·have hs':decide ((4000:Int)<(s.size:Int))=true:=by simp;omega
   have hr:Zd kind s.data.toList=false:=by
    cases hd:s.data.toList with
    |nil=>rfl
    |cons a l=>
     have:(a::l).length=s.size:=by rw[←hd];exact Wr s
     simp only[Zd,this];simp[hs]
   rw[hr]
   go_enter Tryz.func125,Tryz.ntmps125
   go_wp2_with fail
   go_ret
   exact⟨rfl,rfl⟩
theorem zkK(s:ByteArray)(w:World):Calls Tryz.prog 197 #[.string s] w λe w'=>
  ∃v,e=.returned (.tuple #[v,.int .i64 (UK s.data.toList).2.1,.int .i64 (UK s.data.toList).2.2])∧Ra w' w.heap.size v (UK s.data.toList).1∧Below w.heap.size w w':=by
 unfold UK
 by_cases hs:s.data.toList.length>4000
 ·rw[if_pos hs]
  refine(zkJ s w (by simpa using hs)).mono ?_
  rintro e w' ⟨rfl,rfl⟩;exact⟨_,rfl,Ap _ _,Below.refl _ _⟩
 ·rw[if_neg hs]
  exact zeB s w (by simpa using hs)
set_option maxHeartbeats 1000000 in
theorem zmw(kind:Int)(s:ByteArray)(w:World):Calls Tryz.prog 184 #[.int .i64 kind,.string s] w λe w'=>e=.returned (.bool (Zd kind s.data.toList))∧Below w.heap.size w w':=by
 have hiff:=zmu kind s;have hcall:=zkK s w;generalize UK s.data.toList=R at hiff hcall
 obtain⟨ts,p,er⟩:=R;simp only at hiff hcall
 by_cases he:er=0
 ·subst he
  by_cases h1:ts.length=1
  ·obtain⟨t,rfl⟩:∃t,ts=[t]:=List.length_eq_one_iff.1 h1
   have HI:=Lib.hid hiff;have HC:=Lib.hid hcall;clear hiff hcall h1
   by_cases hk:t.kind=kind
   ·have hk':(t.kind==kind)=true:=by simp[hk]
    by_cases hx:t.text=s
    ·have hr:Zd kind s.data.toList=true:=HI.out.1 ⟨rfl,t,rfl,hk,hx⟩
     have hx':=zmv hx;rw[hr];clear hk hx hr
     go_enter Tryz.func184,Tryz.ntmps184
     go_wp2_with (go_at_call 197;refine HC.out.mono ?_;rintro e w1 ⟨v,rfl,hv,hb⟩;obtain⟨A,c,rfl,_⟩:=sZ hv.rds;obtain⟨b,o,rfl,_,c0,c1,c2,_⟩:=NU hv.rds (i:=0) (by simp);simp only[Nat.zero_mul,Nat.add_zero,List.getElem_cons_zero]at c0 c1 c2)
     go_ret
     exact⟨rfl,by(repeat'(first|(with_reducible exact Below.refl _ _)|(with_reducible assumption)|(with_reducible refine uP ?_ _)|(with_reducible refine Below.alloc ?_ ?_ _)|(with_reducible refine Below.setCell ?_ ?_ _)|(with_reducible refine Below.drew ?_)|go_size))⟩
    ·have hr:Zd kind s.data.toList=false:=by rw[←Bool.not_eq_true];intro h;obtain⟨_,t',h1,_,h3⟩:=HI.out.2 h;injection h1 with h1;subst h1;exact hx h3
     have hx':=zhs hx;rw[hr];clear hk hx hr
     go_enter Tryz.func184,Tryz.ntmps184
     go_wp2_with (go_at_call 197;refine HC.out.mono ?_;rintro e w1 ⟨v,rfl,hv,hb⟩;obtain⟨A,c,rfl,_⟩:=sZ hv.rds;obtain⟨b,o,rfl,_,c0,c1,c2,_⟩:=NU hv.rds (i:=0) (by simp);simp only[Nat.zero_mul,Nat.add_zero,List.getElem_cons_zero]at c0 c1 c2)
     go_ret
     exact⟨rfl,by(repeat'(first|(with_reducible exact Below.refl _ _)|(with_reducible assumption)|(with_reducible refine uP ?_ _)|(with_reducible refine Below.alloc ?_ ?_ _)|(with_reducible refine Below.setCell ?_ ?_ _)|(with_reducible refine Below.drew ?_)|go_size))⟩
   ·have hr:Zd kind s.data.toList=false:=by rw[←Bool.not_eq_true];intro h;obtain⟨_,t',h1,h2,_⟩:=HI.out.2 h;injection h1 with h1;subst h1;exact hk h2
    have hk':(t.kind==kind)=false:=by simpa using hk
    rw[hr];clear hk hr
    go_enter Tryz.func184,Tryz.ntmps184
    go_wp2_with (go_at_call 197;refine HC.out.mono ?_;rintro e w1 ⟨v,rfl,hv,hb⟩;obtain⟨A,c,rfl,_⟩:=sZ hv.rds;obtain⟨b,o,rfl,_,c0,c1,c2,_⟩:=NU hv.rds (i:=0) (by simp);simp only[Nat.zero_mul,Nat.add_zero,List.getElem_cons_zero]at c0 c1 c2)
    go_ret
    exact⟨rfl,by(repeat'(first|(with_reducible exact Below.refl _ _)|(with_reducible assumption)|(with_reducible refine uP ?_ _)|(with_reducible refine Below.alloc ?_ ?_ _)|(with_reducible refine Below.setCell ?_ ?_ _)|(with_reducible refine Below.drew ?_)|go_size))⟩
  ·have hr:Zd kind s.data.toList=false:=by rw[←Bool.not_eq_true];intro h;obtain⟨_,t',h2,_,_⟩:=hiff.2 h;exact h1 (by rw[h2];rfl)
   have hl':((ts.length:Int)==1)=false:=by rw[beq_eq_false_iff_ne];omega
   have HC:=Lib.hid hcall;clear hiff hcall h1;rw[hr];clear hr
   go_enter Tryz.func184,Tryz.ntmps184
   go_wp2_with (go_at_call 197;refine HC.out.mono ?_;rintro e w1 ⟨v,rfl,hv,hb⟩;obtain⟨A,c,rfl,_⟩:=sZ hv.rds)
   go_ret
   exact⟨rfl,by(repeat'(first|(with_reducible exact Below.refl _ _)|(with_reducible assumption)|(with_reducible refine uP ?_ _)|(with_reducible refine Below.alloc ?_ ?_ _)|(with_reducible refine Below.setCell ?_ ?_ _)|(with_reducible refine Below.drew ?_)|go_size))⟩
 ·have hr:Zd kind s.data.toList=false:=by rw[←Bool.not_eq_true];intro h;exact he (hiff.2 h).1
  have he':(er==0)=false:=by simpa using he
  have HC:=Lib.hid hcall;clear hiff hcall he;rw[hr];clear hr
  go_enter Tryz.func184,Tryz.ntmps184
  go_wp2_with (go_at_call 197;refine HC.out.mono ?_;rintro e w1 ⟨v,rfl,hv,hb⟩;obtain⟨A,c,rfl,_⟩:=sZ hv.rds)
  go_ret
  exact⟨rfl,by(repeat'(first|(with_reducible exact Below.refl _ _)|(with_reducible assumption)|(with_reducible refine uP ?_ _)|(with_reducible refine Below.alloc ?_ ?_ _)|(with_reducible refine Below.setCell ?_ ?_ _)|(with_reducible refine Below.drew ?_)|go_size))⟩
end Go.Proofs.YteimklbiapnfhaaGreat
namespace Go.Proofs.YteimklbiapnfhaaGreat
open Go.RowKit
set_option linter.unusedVariables false
set_option linter.unusedSimpArgs false
theorem ziP(w:World):Calls Tryz.prog 170 #[] w λe w'=>∃b,e=.returned (.slice (some ⟨b,0,none⟩) 16 16)∧(∀j x,V6[j]? =some x→w'.cell? ⟨b,j,none⟩=some (.string x))∧Below w.heap.size w w':=by
 go_enter Tryz.func170,Tryz.ntmps170
 go_wp2_with fail
 go_ret
 refine⟨_,rfl,λj x hx=> ?_,by(repeat'(first|(with_reducible exact Below.refl _ _)|(with_reducible assumption)|(with_reducible refine uP ?_ _)|(with_reducible refine Below.alloc ?_ ?_ _)|(with_reducible refine Below.setCell ?_ ?_ _)|(with_reducible refine Below.drew ?_)|go_size))⟩
 have hj:j<16:=(List.getElem?_eq_some_iff.1 hx).1
 match j,hj,hx with
 |0,_,hx=>injection hx with hx;subst hx;simp;rfl
 |1,_,hx=>injection hx with hx;subst hx;simp;rfl
 |2,_,hx=>injection hx with hx;subst hx;simp;rfl
 |3,_,hx=>injection hx with hx;subst hx;simp;rfl
 |4,_,hx=>injection hx with hx;subst hx;simp;rfl
 |5,_,hx=>injection hx with hx;subst hx;simp;rfl
 |6,_,hx=>injection hx with hx;subst hx;simp;rfl
 |7,_,hx=>injection hx with hx;subst hx;simp;rfl
 |8,_,hx=>injection hx with hx;subst hx;simp;rfl
 |9,_,hx=>injection hx with hx;subst hx;simp;rfl
 |10,_,hx=>injection hx with hx;subst hx;simp;rfl
 |11,_,hx=>injection hx with hx;subst hx;simp;rfl
 |12,_,hx=>injection hx with hx;subst hx;simp;rfl
 |13,_,hx=>injection hx with hx;subst hx;simp;rfl
 |14,_,hx=>injection hx with hx;subst hx;simp;rfl
 |15,_,hx=>injection hx with hx;subst hx;simp;rfl
theorem ziQ(s:ByteArray)(w:World):Calls Tryz.prog 168 #[.string s] w λe w'=>e=.returned (.bool (Zd 1 s.data.toList))∧Below w.heap.size w w':=by
 have H:=Lib.hid (zmw 1 s w)
 go_enter Tryz.func168,Tryz.ntmps168
 go_wp2_with (go_at_call 184;refine(H.out).mono ?_;rintro e w1 ⟨rfl,hb⟩)
 go_ret
 exact⟨rfl,hb⟩
theorem E5(s:ByteArray):Lib.containsS (V6.take 16) s=V6.any (λu=>u.toList==s.toList):=by
 rw[show V6.take 16=V6 from rfl]
 rw[Bool.eq_iff_iff,Lib.containsS_iff,List.any_eq_true];constructor
 ·intro h;exact⟨s,h,by simp⟩
 ·rintro⟨u,hu,he⟩
  rw[beq_iff_eq]at he
  have e:u=s:=Classical.byContradiction λh=>by have:=zhs h;simp[he]at this
  subst e;exact hu
theorem zkL(s:ByteArray)(w:World):Calls Tryz.prog 129 #[.string s] w λe w'=>e=.returned (.bool (aA s))∧Below w.heap.size w w':=by
 have H:=Lib.hid (ziQ s w);unfold aA;cases hq:Zd 1 s.data.toList with
 |false=>
  rw[hq]at H
  clear hq
  go_enter Tryz.func129,Tryz.ntmps129
  go_wp2_with (go_at_call 168;refine(H.out).mono ?_;rintro e w1 ⟨rfl,hb⟩)
  go_ret
  exact⟨rfl,hb⟩
 |true=>
  rw[hq]at H
  clear hq;rw[←E5]
  go_enter Tryz.func129,Tryz.ntmps129
  go_wp2_with (first
   |(go_at_call 168;refine(H.out).mono ?_;rintro e w1 ⟨rfl,hb⟩)
   |(go_at_call 170;refine(ziP _).mono ?_;rintro e w2 ⟨b,rfl,hc,hb2⟩)
   |(go_at_call 169;refine(Tryz.slices_Contains_string b 0 16 16 V6 s _ (by decide) (by decide) (by
     intro j hj;rw[Nat.zero_add];refine hc j _ ?_;rw[List.getD_eq_getElem?_getD,List.getElem?_eq_getElem hj];rfl)).mono ?_;rintro e w3 ⟨rfl,rfl⟩))
  go_ret
  exact⟨rfl,M1 hb hb2⟩
set_option maxHeartbeats 1000000 in
theorem zeD(s:ByteArray)(w:World):Calls Tryz.prog 126 #[.string s] w λe w'=>e=.returned (.bool (V6.any (λu=>u.toList==s.toList)))∧Below w.heap.size w w':=by
 have hlen:V6.length=16:=rfl;obtain⟨L,hL⟩:∃L,L=V6:=⟨_,rfl⟩;rw[←hL];obtain⟨R,hR⟩:∃R,R=L.any (λu=>u.toList==s.toList):=⟨_,rfl⟩
 rw[←hR];rw[←hL]at hlen
 have HL:=Lib.hid hL;have HR:=Lib.hid (show(L.drop 0).any (λu=>u.toList==s.toList)=R by rw[List.drop_zero,hR])
 clear hL hR
 go_enter Tryz.func126,Tryz.ntmps126
 go_wp2_with fail
 generalize hW:w.alloc _=w1;have hB:Below w.heap.size w w1:=by rw[←hW];(repeat'(first|(with_reducible exact Below.refl _ _)|(with_reducible assumption)|(with_reducible refine uP ?_ _)|(with_reducible refine Below.alloc ?_ ?_ _)|(with_reducible refine Below.setCell ?_ ?_ _)|(with_reducible refine Below.drew ?_)|go_size))
 have hC:∀j x,L[j]? =some x→w1.cell? ⟨w.heap.size,j,none⟩=some (.string x):=by
  rw[←hW,HL.out];intro j x hx;have hj:j<16:=(List.getElem?_eq_some_iff.1 hx).1
  match j,hj,hx with
  |0,_,hx=>injection hx with hx;subst hx;simp;rfl
  |1,_,hx=>injection hx with hx;subst hx;simp;rfl
  |2,_,hx=>injection hx with hx;subst hx;simp;rfl
  |3,_,hx=>injection hx with hx;subst hx;simp;rfl
  |4,_,hx=>injection hx with hx;subst hx;simp;rfl
  |5,_,hx=>injection hx with hx;subst hx;simp;rfl
  |6,_,hx=>injection hx with hx;subst hx;simp;rfl
  |7,_,hx=>injection hx with hx;subst hx;simp;rfl
  |8,_,hx=>injection hx with hx;subst hx;simp;rfl
  |9,_,hx=>injection hx with hx;subst hx;simp;rfl
  |10,_,hx=>injection hx with hx;subst hx;simp;rfl
  |11,_,hx=>injection hx with hx;subst hx;simp;rfl
  |12,_,hx=>injection hx with hx;subst hx;simp;rfl
  |13,_,hx=>injection hx with hx;subst hx;simp;rfl
  |14,_,hx=>injection hx with hx;subst hx;simp;rfl
  |15,_,hx=>injection hx with hx;subst hx;simp;rfl
 have HC:=Lib.hid hC;clear hC hW HL
 go_loopg [4] 16 (λgg s4 wr=>∃k:Nat,k≤16∧16-k≤gg∧s4=.int .i64 k∧wr=w1∧Hid ((L.drop k).any (λu=>u.toList==s.toList)=R))
 case atStart=>exact⟨0,Nat.zero_le _,by omega,rfl,rfl,HR⟩
 case round=>
  obtain⟨k,hk,hg,rfl,rfl,HK⟩:=hrel
  by_cases hlt:k<16
  ·have hlt':(k:Int)<16:=by omega
   have hkl:k<L.length:=by omega
   have hc:=HC.out k _ (List.getElem?_eq_getElem hkl);have HK':=HK.out;rw[List.drop_eq_getElem_cons hkl,List.any_cons]at HK'
   cases hq:(L[k].toList==s.toList)with
   |true=>
    rw[hq,Bool.true_or]at HK'
    subst HK'
    go_wp2_with fail
    go_ret
    exact⟨rfl,hB⟩
   |false=>
    rw[hq,Bool.false_or]at HK'
    have HK2:=Lib.hid HK';clear HK'
    go_wp2_with fail
    go_roundg (16-(k+1))
    case measure=>omega
    case rel=>exact⟨k+1,hlt,Nat.le_refl _,(by go_num),rfl,HK2⟩
  ·have hlt':¬(k:Int)<16:=by omega
   have HK':=HK.out;rw[List.drop_eq_nil_of_le (by omega)]at HK'
   subst HK'
   go_wp2_with fail
   go_ret
   exact⟨rfl,hB⟩
theorem zeE(s:ByteArray)(w:World)(hz:s.size≤140737488355328):Calls Tryz.prog 78 #[.string s] w λe w'=>e=.returned (.bool (aA s))∧Below w.heap.size w w':=by
 have H:=Lib.hid (zcQ 1 s w hz);unfold aA;cases hq:Zd 1 s.data.toList with
 |false=>
  rw[hq]at H
  clear hq
  go_enter Tryz.func78,Tryz.ntmps78
  go_wp2_with (go_at_call 125;refine(H.out).mono ?_;rintro e w1 ⟨rfl,rfl⟩)
  go_ret
  exact⟨rfl,Below.refl _ _⟩
 |true=>
  rw[hq]at H
  clear hq;have H2:=Lib.hid (zeD s w)
  go_enter Tryz.func78,Tryz.ntmps78
  go_wp2_with (first
   |(go_at_call 125;refine(H.out).mono ?_;rintro e w1 ⟨rfl,rfl⟩)
   |(go_at_call 126;refine(H2.out).mono ?_;rintro e w2 ⟨rfl,hb2⟩))
  go_ret
  exact⟨rfl,hb2⟩
end Go.Proofs.YteimklbiapnfhaaGreat
namespace Go.Proofs.YteimklbiapnfhaaGreat
open Go.RowKit
set_option linter.unusedVariables false
set_option linter.unusedSimpArgs false
variable[Lo]
abbrev dM(m:zF):D:=.agg [.sl .var m.vars,.sl .con m.cons,.int .i64 m.goal,.int .i64 m.var]
abbrev dV(v:vF):D:=.agg [.str v.name,.int .i64 v.lo,.int .i64 v.hi]
abbrev dL(l:zC):D:=.agg [.int .i64 l.var,.int .i64 l.op,.int .i64 l.n]
abbrev dC(c:zQ):D:=.agg [.int .i64 c.kind,.sl .int c.vars,.sl .int c.consts,.int .i64 c.n,.sl (.list .int) c.rows,.sl .lit c.lits]
abbrev dS(s:List (List Int)):D:=.sl (.list .int) s
abbrev dI(n:Int):D:=.int .i64 n
abbrev dB(b:Bool):D:=.bool b
theorem tR{n:Int}(h1: -9223372036854775808≤n)(h2:n≤9223372036854775807):xF n=n:=by
 show IntKind.i64.wrap n=n
 rw[IntKind.wrap_i64];omega
theorem V7{k:Nat}(h:k<9223372036854775807):xF ((k:Int)+1)=((k+1:Nat):Int):=by
 rw[tR (by omega) (by omega)];rfl
theorem zI{k n:Nat}(h:k<n):wC (k:Int) n=true:=by
 unfold wC;rw[Bool.and_eq_true];exact⟨decide_eq_true (by omega),decide_eq_true (by omega)⟩
theorem vC{k:Int}{n:Nat}:wC k n=true↔0≤k∧k<n:=by
 unfold wC;rw[Bool.and_eq_true,decide_eq_true_iff,decide_eq_true_iff]
theorem xR{t:Ty}{n:Nat}(h:n*t.bytes≤140737488355328):zL t n=true:=decide_eq_true h
theorem E6{k n:Nat}:decide ((k:Int)<(n:Int))=decide (k<n):=by
 by_cases h:k<n
 ·rw[decide_eq_true h];exact decide_eq_true (by omega)
 ·rw[decide_eq_false h];exact decide_eq_false (by omega)
theorem zP{t:Ty}{xs:List t.den}{k:Nat}(h:k<xs.length):zG t xs (k:Int).toNat=xs[k]:=by
 show xs.getD ((k:Int).toNat) _=_
 rw[Int.toNat_natCast,List.getD_eq_getElem?_getD,List.getElem?_eq_getElem h];rfl
theorem atN{t:Ty}{xs:List t.den}{k:Nat}(h:k<xs.length):zG t xs k=xs[k]:=by
 show xs.getD k _=_
 rw[List.getD_eq_getElem?_getD,List.getElem?_eq_getElem h];rfl
theorem up{α:Type}{I:Nat→Int→α→Prop}{v:Int}(s m:Nat)(hv:v=(s:Int))(hsm:s≤m)(hm:m≤9223372036854775807)(Inv:Nat→α→Prop){a:α}(h0:Inv s a)
  (hs:∀n (k:Nat) a,s≤k→k≤m→Inv k a→(k<m→∀a',Inv (k+1) a'→I n (xF ((k:Int)+1)) a')→I (n+1) (k:Int) a):∃n,I n v a:=by
 subst hv
 suffices H:∀d k,s≤k→k+d=m→∀a,Inv k a→I (d+1) (k:Int) a from⟨m-s+1,H (m-s) s (Nat.le_refl _) (by omega) a h0⟩
 intro d
 induction d with
 |zero=>exact λk hk e a ha=>hs 0 k a hk (by omega) ha λh=>absurd h (by omega)
 |succ d ih=>
  intro k hk e a ha;refine hs (d+1) k a hk (by omega) ha λh a' ha'=> ?_
  rw[V7 (by omega)]
  exact ih (k+1) (by omega) (by omega) a' ha'
theorem up0{I:Nat→Int→Prop}{v:Int}(s m:Nat)(hv:v=(s:Int))(hsm:s≤m)(hm:m≤9223372036854775807)(Inv:Nat→Prop)(h0:Inv s)
  (hs:∀n (k:Nat),s≤k→k≤m→Inv k→(k<m→Inv (k+1)→I n (xF ((k:Int)+1)))→I (n+1) (k:Int)):∃n,I n v:=
 let⟨n,h⟩:=up (I:=λn v (_:Unit)=>I n v) (a:=()) s m hv hsm hm (λk _=>Inv k) h0 λn k _ h1 h2 h3 h4=>hs n k h1 h2 h3 λh h'=>h4 h () h'
 ⟨n,h⟩
theorem mB.like{P:Program}{f:FuncId}{args args':List D}{r:D}(h:mB P f args r)(hl:args'.length=args.length)(ha:∀(w:World) (S:Nat→Prop) (i:Nat) (d:D) (v:Value),args[i]? =some d→(∀d',args'[i]? =some d'→Rp w S v d')→Rp w S v d):mB P f args' r:=
 λw S vs hS hs hv hg=>h w S vs hS (hs.trans hl) (λi d hd=>ha w S i d _ hd λd' hd'=>hv i d' hd') hg
theorem Rp.clo_rs{w:World}{S:Nat→Prop}{v:Value}{g:FuncId}{rs rs':Option (List Ty)}{cap:List D}(h:Rp w S v (.clo g rs cap)):Rp w S v (.clo g rs' cap):=by
 obtain⟨vs,rfl,h1,h2⟩:=h.clo_inv;exact .clo g rs' cap vs h1 h2
theorem mB.clo{P:Program}{f:FuncId}{pre post:List D}{g:FuncId}{rs rs':Option (List Ty)}{cap:List D}{r:D}(h:mB P f (pre++ .clo g rs cap::post) r):mB P f (pre++ .clo g rs' cap::post) r:=by
 refine h.like (by simp) λw S i d v hd hv=> ?_
 by_cases hi:i<pre.length
 ·rw[List.getElem?_append_left hi]at hd
  exact hv d (by rw[List.getElem?_append_left hi];exact hd)
 ·have hi':pre.length≤i:=Nat.le_of_not_lt hi
  rw[List.getElem?_append_right hi']at hd
  have hv':∀d',(D.clo g rs' cap::post)[i-pre.length]? =some d'→Rp w S v d':=λd' h'=>hv d' (by rw[List.getElem?_append_right hi'];exact h')
  generalize i-pre.length=j at hd hv'
  cases j with
  |zero=>
   rw[List.getElem?_cons_zero]at hd
   cases hd;exact(hv' _ rfl).clo_rs
  |succ j=>exact hv' d (by rw[List.getElem?_cons_succ]at hd⊢;exact hd)
def Jy{α:Type}(p:α→Bool):List α→Int→Int
 |[],_=> -1
 |x::xs,i=>bif p x then i else Jy p xs (i+1)
theorem zkM{α:Type}{p:α→Bool}{xs:List α}{k:Nat}(h:k<xs.length):Jy p (xs.drop k) k=bif p xs[k]then(k:Int)else Jy p (xs.drop (k+1)) ((k+1:Nat):Int):=by
 rw[List.drop_eq_getElem_cons h];rfl
theorem fQ{α:Type}{p:α→Bool}:∀(xs:List α) (i:Int),0≤i→decide (0≤Jy p xs i)=xs.any p
 |[],i,h=>by simp[Jy]
 |x::xs,i,h=>by
  rw[Jy,List.any_cons];cases hx:p x
  ·rw[cond_false,fQ xs (i+1) (by omega),Bool.false_or]
  ·rw[cond_true,Bool.true_or];exact decide_eq_true h
theorem zcR{t:Ty}{xs:List t.den}(hl:xs.length≤9223372036854775807){I:Nat→Int→Prop}{R:D→Prop}{p:t.den→Bool}
  (hR:R (.int .i64 (Jy p xs 0)))
  (hin:∀n (k:Nat) (h:k<xs.length),(p xs[k]=true→R (.int .i64 (k:Int)))→(p xs[k]=false→I n (xF ((k:Int)+1)))→I (n+1) (k:Int))
  (hout:∀n,R (.int .i64 (-1))→I (n+1) (xs.length:Int)):∃n,I n 0:=by
 refine up0 0 xs.length rfl (Nat.zero_le _) hl (λk=>R (.int .i64 (Jy p (xs.drop k) (k:Int)))) hR λn k _ hk hi hn=> ?_
 by_cases h:k<xs.length
 ·rw[zkM h]at hi
  refine hin n k h (λe=> ?_) λe=>hn h ?_
  ·rw[e]at hi;exact hi
  ·rw[e]at hi;exact hi
 ·rw[List.drop_eq_nil_of_le (by omega)]at hi
  have hk':k=xs.length:=by omega
  subst hk';exact hout n hi
theorem zR{k n:Nat}{X Y:Prop}(h:k<n):zN (decide ((k:Int)<(n:Int))) X Y=X:=by rw[E6,decide_eq_true h];rfl
theorem zO{n:Nat}{X Y:Prop}:zN (decide ((n:Int)<(n:Int))) X Y=Y:=by rw[E6,decide_eq_false (Nat.lt_irrefl n)];rfl
theorem zkN{β:Type}{p:β→Bool}{zs:List β}{k:Nat}(h:k<zs.length):(zs.drop k).any p=(p zs[k]||(zs.drop (k+1)).any p):=by
 rw[List.drop_eq_getElem_cons h,List.any_cons]
theorem znl{β:Type}{I:Nat→Int→Prop}{v:Int}(s:Nat)(zs:List β)(p:β→Bool)(hv:v=(s:Int))(hl:zs.length+s≤9223372036854775807){X Y:Prop}(hXY:zN (zs.any p) X Y)
  (hin:∀n (k:Nat) (h:k<zs.length),(p zs[k]=true→X)→(p zs[k]=false→I n (xF (((k+s:Nat):Int)+1)))→I (n+1) ((k+s:Nat):Int))
  (hout:∀n,Y→I (n+1) ((zs.length+s:Nat):Int)):∃n,I n v:=by
 refine up0 s (zs.length+s) hv (by omega) hl (λk=>zN ((zs.drop (k-s)).any p) X Y) (by rw[Nat.sub_self];exact hXY) λn k hs hk hi hn=> ?_
 obtain⟨j,rfl⟩:∃j,k=j+s:=⟨k-s,by omega⟩
 rw[show j+s-s=j by omega]at hi
 by_cases h:j<zs.length
 ·rw[zkN h]at hi
  refine hin n j h (λe=> ?_) λe=>hn (by omega) ?_
  ·rw[e,Bool.true_or]at hi;exact hi
  ·rw[e,Bool.false_or]at hi;rw[show j+s+1-s=j+1 by omega];exact hi
 ·have hj:j=zs.length:=by omega
  subst hj;rw[List.drop_eq_nil_of_le (by omega)]at hi
  exact hout n hi
theorem znm{β:Type}{I:Nat→Int→Prop}{v:Int}(s:Nat)(zs:List β)(e:Nat→β→Int)(hv:v=(s:Int))(hl:zs.length+s≤9223372036854775807){X:Int→Prop}{Y:Prop}
  (hX:wL e 0 zs≠0→X (wL e 0 zs)) (hY:wL e 0 zs=0→Y)
  (hin:∀n (k:Nat) (h:k<zs.length),(∀j (hj:j<k),e j zs[j]=0)→(e k zs[k]≠0→X (e k zs[k]))→(e k zs[k]=0→I n (xF (((k+s:Nat):Int)+1)))→I (n+1) ((k+s:Nat):Int))
  (hout:∀n,Y→I (n+1) ((zs.length+s:Nat):Int)):∃n,I n v:=by
 refine up0 s (zs.length+s) hv (by omega) hl (λk=>wL e (k-s) (zs.drop (k-s))=wL e 0 zs∧∀j (hj:j<k-s) (hl:j<zs.length),e j zs[j]=0) ⟨by rw[Nat.sub_self];rfl,λj hj=>absurd hj (by omega)⟩ λn k hs hk hi hn=> ?_
 obtain⟨j,rfl⟩:∃j,k=j+s:=⟨k-s,by omega⟩
 rw[show j+s-s=j by omega]at hi
 obtain⟨hi,hb⟩:=hi
 by_cases h:j<zs.length
 ·refine hin n j h (λi hi=>hb i hi (by omega)) (λe0=> ?_) λe0=>hn (by omega) ?_
  ·have:=zcF h hi e0
   rw[←this];exact hX (by rw[this];exact e0)
  ·rw[show j+s+1-s=j+1 by omega]
   refine⟨zcG h hi e0,λi hi1 hi2=> ?_⟩
   by_cases hij:i<j
   ·exact hb i hij hi2
   ·have:i=j:=by omega
    subst this;exact e0
 ·have hj:j=zs.length:=by omega
  subst hj;exact hout n (hY (zer (Nat.le_refl _) hi))
theorem upto{α:Type}{I:Nat→Int→α→Prop}(lo hi:Int)(hlo: -9223372036854775808≤lo)(hhi:hi<9223372036854775807)(Inv:Int→α→Prop){a:α}(h0:Inv lo a)
  (hs:∀n (k:Int) a,lo≤k→Inv k a→(k≤hi→∀a',Inv (k+1) a'→I n (xF (k+1)) a')→I (n+1) k a):∃n,I n lo a:=by
 suffices H:∀d (k:Int),lo≤k→(hi+1-k).toNat≤d→∀a,Inv k a→I (d+1) k a from⟨(hi+1-lo).toNat+1,H _ lo (Int.le_refl _) (Nat.le_refl _) a h0⟩
 intro d
 induction d with
 |zero=>exact λk hk e a ha=>hs 0 k a hk ha λh=>absurd h (by omega)
 |succ d ih=>
  intro k hk e a ha;refine hs (d+1) k a hk ha λh a' ha'=> ?_
  rw[tR (by omega) (by omega)]
  exact ih (k+1) (by omega) (by omega) a' ha'
theorem UO{α β:Type}(f:Nat→α→β){xs:List α}{k:Nat}(h:k<xs.length):(xs.take (k+1)).mapIdx f=(xs.take k).mapIdx f++[f k xs[k]]:=by
 rw[←List.take_append_getElem h,List.mapIdx_append];simp[Nat.min_eq_left (Nat.le_of_lt h)]
theorem Qs{α β:Type}(f:α→β){xs:List α}{k:Nat}(h:k<xs.length):(xs.take (k+1)).map f=(xs.take k).map f++[f xs[k]]:=by
 rw[←List.take_append_getElem h,List.map_append];rfl
theorem oK{α:Type}(p:α→Bool){xs:List α}{k:Nat}(h:k<xs.length):(xs.take (k+1)).filter p=if p xs[k]=true then(xs.take k).filter p++[xs[k]]else(xs.take k).filter p:=by
 rw[←List.take_append_getElem h,List.filter_append]
 by_cases e:p xs[k]=true
 ·rw[if_pos e,List.filter_cons,if_pos e];rfl
 ·rw[if_neg e,List.filter_cons,if_neg e,List.filter_nil,List.append_nil]
theorem mC{t:Ty}{xs:List t.den}(h:Hn (.sl t xs)):okL t.bytes (M0 t) xs:=h
theorem fq{t:Ty}{xs:List t.den}(h:Hn (.sl t xs)):xs.length≤9223372036854775807:=by
 have h1:xs.length*t.bytes≤140737488355328:=(show M0 (.list t) xs from h).1
 have h2:1≤t.bytes:=t.bytes_pos;have:=Nat.mul_le_mul_left xs.length h2;omega
theorem WD{d:D}{ds:List D}(h:∀e∈d::ds,Hn e):Hn d:=h d (List.mem_cons_self ..)
theorem okR{d:D}{ds:List D}(h:∀e∈d::ds,Hn e):∀e∈ds,Hn e:=λe he=>h e (List.mem_cons_of_mem _ he)
end Go.Proofs.YteimklbiapnfhaaGreat
namespace Go.Proofs.YteimklbiapnfhaaGreat
open Go.RowKit
set_option linter.unusedVariables false
set_option linter.unusedSimpArgs false
variable[Lo]
theorem OZ{β:Type}{I:Nat→Int→Prop}(zs:List β)(p:β→Bool)(hl:zs.length≤9223372036854775807){X Y:Prop}(hXY:zN (zs.any p) X Y)
  (hin:∀n (k:Nat) (h:k<zs.length),(p zs[k]=true→X)→(p zs[k]=false→I n (xF ((k:Int)+1)))→I (n+1) (k:Int))
  (hout:∀n,Y→I (n+1) (zs.length:Int)):∃n,I n 0:=
 znl (I:=I) 0 zs p rfl hl hXY (λn k h h1 h2=>hin n k h h1 h2) hout
theorem Jz{β:Type}{I:Nat→Int→Prop}(zs:List β)(p:β→Bool)(hl:zs.length≤9223372036854775807){X:Prop}(hX:zs.any p=true→X)
  (hin:∀n (k:Nat) (h:k<zs.length),(p zs[k]=true→X)→(p zs[k]=false→I n (xF ((k:Int)+1)))→I (n+1) (k:Int))
  (hout:zs.any p=false→∀n,I (n+1) (zs.length:Int)):∃n,I n 0:=
 OZ (I:=I) zs p hl (Y:=zs.any p=false) (zA hX id) hin λn h=>hout h n
theorem zoJ{β:Type}{I:Nat→Int→Prop}(zs:List β)(e:Nat→β→Int)(hl:zs.length≤9223372036854775807){X:Int→Prop}
  (hX:wL e 0 zs≠0→X (wL e 0 zs))
  (hin:∀n (k:Nat) (h:k<zs.length),(∀j (hj:j<k),e j zs[j]=0)→(e k zs[k]≠0→X (e k zs[k]))→(e k zs[k]=0→I n (xF ((k:Int)+1)))→I (n+1) (k:Int))
  (hout:wL e 0 zs=0→∀n,I (n+1) (zs.length:Int)):∃n,I n 0:=
 znm (I:=I) 0 zs e rfl hl hX (Y:=wL e 0 zs=0) id (λn k h h0 h1 h2=>hin n k h h0 h1 h2) λn h=>hout h n
theorem C8{β:Type}{I:Nat→Int→Prop}(zs:List β)(e:Nat→β→Int)(hl:zs.length≤9223372036854775807){X:Int→Prop}{Y:Prop}
  (hX:wL e 0 zs≠0→X (wL e 0 zs)) (hY:wL e 0 zs=0→Y)
  (hin:∀n (k:Nat) (h:k<zs.length),(∀j (hj:j<k),e j zs[j]=0)→(e k zs[k]≠0→X (e k zs[k]))→(e k zs[k]=0→I n (xF ((k:Int)+1)))→I (n+1) (k:Int))
  (hout:∀n,Y→I (n+1) (zs.length:Int)):∃n,I n 0:=
 znm (I:=I) 0 zs e rfl hl hX hY (λn k h h0 h1 h2=>hin n k h h0 h1 h2) hout
theorem zkO{b:Bool}:zN b (D.bool true=D.bool b) (D.bool false=D.bool b):=by cases b<;>rfl
def or0(a b:Int):Int:=if a≠0 then a else b
theorem zaZ{a b:Int}(h:a≠0):or0 a b=a:=if_pos h
theorem za0{a b:Int}(h:a=0):or0 a b=b:=if_neg (not_not_intro h)
theorem xO{a:Int}(e:(!decide (a=0))=true):a≠0:=by simpa using e
theorem zU{a:Int}(e:(!decide (a=0))=false):a=0:=by simpa using e
theorem mB.swap{P:Program}{f:FuncId}{pre post:List D}{a a':D}{r:D}(h:mB P f (pre++a::post) r)(ha:∀w S v,Rp w S v a'→Rp w S v a):mB P f (pre++a'::post) r:=by
 refine h.like (by simp) λw S i d v hd hv=> ?_
 by_cases hi:i<pre.length
 ·rw[List.getElem?_append_left hi]at hd
  exact hv d (by rw[List.getElem?_append_left hi];exact hd)
 ·have hi':pre.length≤i:=Nat.le_of_not_lt hi
  rw[List.getElem?_append_right hi']at hd
  have hv':∀d',(a'::post)[i-pre.length]? =some d'→Rp w S v d':=λd' h'=>hv d' (by rw[List.getElem?_append_right hi'];exact h')
  generalize i-pre.length=j at hd hv'
  cases j with
  |zero=>
   rw[List.getElem?_cons_zero]at hd
   cases hd;exact ha _ _ _ (hv' _ rfl)
  |succ j=>exact hv' d (by rw[List.getElem?_cons_succ]at hd⊢;exact hd)
theorem Rp.icl{w:World}{S:Nat→Prop}{v:Value}{g:FuncId}{rs rs':Option (List Ty)}{cap:List D}(h:Rp w S v (.iptr [.clo g rs cap] 0)):Rp w S v (.iptr [.clo g rs' cap] 0):=by
 obtain⟨b,rfl,hb,hc⟩:=h.iptr_inv;refine .iptr_mk hb λi d hd=> ?_
 cases i with
 |zero=>
  cases hd;obtain⟨u,hu,hr⟩:=hc 0 _ rfl;exact⟨u,hu,hr.clo_rs⟩
 |succ i=>simp at hd
theorem mB.iclo{P:Program}{f:FuncId}{pre post:List D}{g:FuncId}{rs rs':Option (List Ty)}{cap:List D}{r:D}(h:mB P f (pre++ .iptr [.clo g rs cap] 0::post) r):mB P f (pre++ .iptr [.clo g rs' cap] 0::post) r:=
 h.swap λ_ _ _ h=>h.icl
theorem okA{cs:List D}{i:Nat}{d:D}(h:Hn (.agg cs))(e:cs[i]? =some d):okC d:=h d (List.mem_of_getElem? e)
theorem za1{t:Ty}{xs:List t.den}(h:okC (.sl t xs)):xs.length≤9223372036854775807:=fq (t:=t) h
end Go.Proofs.YteimklbiapnfhaaGreat
namespace Go.Proofs.YteimklbiapnfhaaGreat
open Go.RowKit
set_option linter.unusedVariables false
set_option linter.unusedSimpArgs false
def zkP:Nat→Code→Code
 |n+1,.seq a b=> .seq a (zkP n b)
 |_,_=> .skip
def zkQ:Nat→Code→Bool
 |0,_=>true
 |n+1,.seq _ b=>zkQ n b
 |_,_=>false
def zcS:Nat→Code→Code
 |n+1,.seq _ b=>zcS n b
 |_,c=>c
def znV(pubs:List (Nat×Nat))(L:List Nat×List Nat)(Q:St→Prop):Ex→St→Prop:=λe σ=>match e with
 | .normal=>Q ((Wx pubs σ).keep L)
 |_=>False
def ziR(i:Nat):Ex→St→Prop:=λe σ=>match e with
 | .ret=>σ.get i=.bool true
 |_=>False
section
variable[Lo]{P:Program}{E:TE}{A:xJ}{b0:Y6}{w w':World}{S:Nat→Prop}{pl:Nat→Value}{N:Nat}{σ:St}{a:Act}
theorem zkR(F:vM P E){K:Ex→St→Prop}{Q:Exit→Act→World→Prop}(hK:∀e σ,K e σ→e=.normal):∀(n:Nat) (c:Code) (cur:Nat) (σ:St) (a:Act) (w:World),zkQ n c=true→den P E A (zkP n c) cur σ K→Mt P b0 A.n σ a w→
  (∀σ a w,K .normal σ→Mt P b0 A.n σ a w→(zcS n c).wp P Q a w)→c.wp P Q a w
 |0,c,cur,σ,a,w,_,h,m,hq=>hq σ a w h m
 |n+1,c,cur,σ,a,w,hs,h,m,hq=>by
  cases c with
  |seq x y=>
   have h:den P E A (.seq x (zkP n y)) cur σ K:=h;unfold den at h
   refine wp_seq (wp_mono (zeo F x cur σ _ a w h m) λe a w h=> ?_)
   rcases h with⟨e',σ',he,hk,m'⟩|⟨u,σ',rfl,hk,dz,hb⟩
   ·cases e<;>simp only[N7,Option.some.injEq,reduceCtorEq]at he<;>subst he
    ·exact zkR F hK n y cur σ' a w hs hk m' hq
    ·cases hK _ _ hk
    ·cases hK _ _ hk
   ·cases hK _ _ hk
  |_=>cases hs
theorem zmy{fn:Func}{i:Nat}{e:Exit}{w0:World}(hr:fn.results.toList=[.tmp i])(h:QS P w0 (λ_=>False) N (ziR i) e a w):
  N7 e=some .ret∧a.defers=[]∧(results fn a.tmps).run P w=.ok (.bool true) w∧Below w0.heap.size w0 w:=by
 obtain⟨x,σ',he,hk',b,hb',S',pl,m'⟩:=h;obtain⟨g1,g2,g3⟩:=hb'.2;have hw:=g1.below (B:=0) g1.size m'.below g2;cases x<;>try exact hk'.elim
 have hk':σ'.get i=.bool true:=hk'
 have hval:a.tmps.getD i undef=.bool true:=by
  have:=m'.fr i;rw[hk']at this
  exact(this.flat (d:=.bool true) rfl).bool_inv
 refine⟨he,m'.dz,?_,hw.os,hw.tape,hw.output,hw.size,λk hk=>hw.block k hk id⟩
 have hr0:results fn a.tmps=(do let vs←fn.results.mapM (Xw a);pure (if h:vs.size=1 then vs[0]else .tuple vs)):=rfl
 rw[hr0];simp only[Array.mapM_eq_mapM_toList,hr,List.mapM_cons,List.mapM_nil,Xw,hval,Sem.run_bind,map_eq_pure_bind,Result.andThen_ok,Sem.run_pure];rfl
theorem zmz{σ3:St}{S2:Nat→Prop}{w1:World}{pl1:Nat→Value}(hS:∀b,S2 b→¬Lo.new b)(hb:nK w.heap.size (λ_=>False) w w1)(hO:∀x,EY σ3 pl1 x→w.heap.size≤x):OkB P w (λ_=>False) ⟨w1,S2,EY σ3 pl1,pl1⟩:=
 ⟨λg hg hs=>hS g hs,(Va.refl _ w).below (B:=0) (Nat.le_refl _) hb (λx h=>h.elim),hO,λx hx hn=>absurd hn (hS x hx)⟩
theorem Ht:∀(l:List (Nat×Nat)) (σ:St) (S:Nat→Prop),tD P b0 N σ a w S pl→∃S',tD P b0 N (Wx l σ) a w S' pl
 |[],σ,S,m=>⟨S,m⟩
 |x::r,σ,S,m=>let⟨S1,m1⟩:=ER m x.1 x.2;Ht r _ _ m1
end
def Ty.unm:Ty→Bool
 | .mk _ _=>false
 | .list t=>t.unm
 | .pr a b=>a.unm&&b.unm
 |_=>true
theorem UP{t:Ty}(h:t.unm=true):t.bare=true:=by cases t<;>first|rfl|cases h
theorem zhu{l0 l1:Lo}{w:World}:(t:Ty)→t.unm=true→ {S:Nat→Prop}→ {x:t.den}→ {cs:List Value}→ @xT.rd _ (@Ty.rep l0 t) w S cs x→ @xT.rd _ (@Ty.rep l1 t) w S cs x
 | .int,_,_,_,_,h| .bool,_,_,_,_,h| .str,_,_,_,_,h| .tok,_,_,_,_,h| .lit,_,_,_,_,h| .var,_,_,_,_,h| .con,_,_,_,_,h| .mdl,_,_,_,_,h| .step,_,_,_,_,h| .term,_,_,_,_,h| .ans,_,_,_,_,h| .byte,_,_,_,_,h=>h
 | .mk _ _,hu,_,_,_,_=>by cases hu
 | .pr a b,hu,S,x,cs,h=>by
  obtain⟨c1,c2,e,h1,h2⟩:=h;have hu:(a.unm&&b.unm)=true:=hu;rw[Bool.and_eq_true]at hu
  exact⟨c1,c2,e,zhu a hu.1 h1,zhu b hu.2 h2⟩
 | .list t,hu,S,xs,cs,h=>by
  have hu:t.unm=true:=hu;obtain⟨A,c,e2,h0,h1,h2,h3,h4⟩:=h;refine⟨A,c,e2,?_,h1,h2,h3,λhn=> ?_⟩
  ·rw[← @Ty.bytes_eq l1 t];rw[← @Ty.bytes_eq l0 t]at h0;exact h0
  ·obtain⟨b,o,hA,hb,hc⟩:=h4 hn
   refine⟨b,o,hA,?_,λi x hx=> ?_⟩
   ·rw[@Zx l1 t (UP hu)];rw[@Zx l0 t (UP hu)]at hb;exact hb
   ·obtain⟨cs,hr,hcell⟩:=hc i x hx
    rw[@Zx l0 t (UP hu)]at hr
    refine⟨cs,?_,?_⟩
    ·rw[@Zx l1 t (UP hu)];exact zhu t hu hr
    ·rw[← @Ty.size_eq l1 t];rw[← @Ty.size_eq l0 t]at hcell;exact hcell
def zkS:D→D
 | .sl t xs=>bif t.unm then .sl (.mk false t) xs else .undef
 | .nil=> .nil
 | .int k n=> .int k n
 | .bool b=> .bool b
 | .str s=> .str s
 | .ifc u=> .ifc u
 | .own k=> .own k
 | .ownN k=> .ownN k
 | .ptr k off=> .ptr k off
 | .oelt k sz i off=> .oelt k sz i off
 | .clp f bd k off=> .clp f bd k off
 | .slf k=> .slf k
 |_=> .undef
def ziS:D→D
 | .agg cs=> .agg (cs.map zkS)
 |d=>zkS d
def odO:wT→wT
 | .cells ds=> .cells (ds.map ziS)
 |o=>o
def St.od(σ:St):St:=⟨σ.fr.map λx=>(x.1,ziS x.2),σ.hp.map λx=>(x.1,odO x.2)⟩
def za2(σ:St):Bool:=σ.hp.all λx=>match x.2 with
 | .cells _=>true
 |_=>false
@[reducible] def LoT:Lo:=⟨λ_=>True⟩
section
 local instance:Lo:=LoT
variable {P:Program}{b0:Y6}{w:World}{S:Nat→Prop}{pl:Nat→Value}{N:Nat}{σ:St}{a:Act}{new:Nat→Prop}{v:Value}{d:D}
theorem zoL(hS:∀b,S b→¬new b){t:Ty}{xs:List t.den}(hu:t.unm=true)(h: @cB _ (@xT.list _ (@Ty.rep LoT t)) w (@CW LoT t w S) v xs):
  @cB _ (@xT.list _ (@Ty.rep ⟨new⟩ (.mk false t))) w (@CW ⟨new⟩ (.mk false t) w S) v xs:=by
 obtain⟨cs,e,A,c,e2,h0,h1,h2,h3,h4⟩:=h;have hk:∀b,S b→ @R9 ⟨new⟩ false w S b:=λb hb=>⟨hb,hS b hb⟩
 refine⟨cs,e,A,c,e2,?_,h1,h2,h3,λhn=> ?_⟩
 ·rw[← @Ty.bytes_eq LoT t]at h0
  show xs.length* @xT.bytes _ (@Ty.rep ⟨new⟩ t)≤_
  rw[← @Ty.bytes_eq ⟨new⟩ t];exact h0
 ·obtain⟨b,o,hA,hb,hc⟩:=h4 hn
  rw[@Zx LoT t (UP hu)]at hb
  refine⟨b,o,hA,hk b hb,λi x hx=> ?_⟩
  obtain⟨cs,hr,hcell⟩:=hc i x hx;rw[@Zx LoT t (UP hu)]at hr
  refine⟨cs,(@Ty.rep ⟨new⟩ t).mono (zhu t hu hr) (λ_ _=>rfl) λb hb=>⟨hk b hb,(hk b hb).2⟩,?_⟩
  show∀j u,cs[j]? =some u→w.cell? ⟨b,o+i* @xT.size _ (@Ty.rep ⟨new⟩ t)+j,none⟩=some u
  rw[← @Ty.size_eq ⟨new⟩ t];rw[← @Ty.size_eq LoT t]at hcell;exact hcell
theorem zcT(hS:∀b,S b→¬new b)(h: @Rp LoT w S v d): @Rp ⟨new⟩ w S v (zkS d):=by
 cases d<;>try exact @Rp.undef ⟨new⟩ _ _ v
 case nil=>rw[@Rp.nil_inv LoT _ _ _ h];exact @Rp.nil ⟨new⟩ _ _
 case int k n=>obtain⟨rfl,h'⟩:= @Rp.int_inv LoT _ _ _ _ _ h;exact @Rp.int ⟨new⟩ _ _ _ _ h'
 case bool b=>rw[@Rp.bool_inv LoT _ _ _ _ h];exact @Rp.bool ⟨new⟩ _ _ b
 case str s=>obtain⟨rfl,h'⟩:= @Rp.str_inv LoT _ _ _ _ h;exact @Rp.str ⟨new⟩ _ _ _ h'
 case ifc u=>rw[@Rp.ifc_inv LoT _ _ _ _ h];exact @Rp.ifc ⟨new⟩ _ _ u
 case own k=>cases h
 case ownN k=>cases h
 case ptr k off=>cases h
 case oelt k sz i off=>cases h
 case clp f bd k off=>cases h
 case slf k=>cases h
 case sl t xs=>
  show @Rp ⟨new⟩ w S v (bif t.unm then .sl (.mk false t) xs else .undef)
  cases hu:t.unm with
  |false=>exact @Rp.undef ⟨new⟩ _ _ v
  |true=>exact @Rp.sl ⟨new⟩ _ _ (.mk false t) xs v (zoL hS hu (@Rp.sl_inv' LoT _ _ _ _ _ h))
theorem zhv(hS:∀b,S b→¬new b)(h: @Rd LoT w S pl v d): @Rd ⟨new⟩ w S pl v (ziS d):=by
 cases hr:d.ref with
 |some k=>
  cases d<;>simp only[D.ref,Option.some.injEq,reduceCtorEq]at hr
  all_goals exact h
 |none=>
  have hp:= @Rd.flat LoT _ _ _ _ _ h hr;cases d
  case agg cs=>
   obtain⟨vs,rfl,hl,he⟩:= @Rp.agg_inv LoT _ _ _ _ hp;refine @Rp.rd ⟨new⟩ _ _ _ _ _ (@Rp.agg ⟨new⟩ _ _ vs _ (by simpa using hl) λi d hd=> ?_)
   rw[List.getElem?_map,Option.map_eq_some_iff]at hd
   obtain⟨d0,h0,rfl⟩:=hd;exact zcT hS (he i d0 h0)
  all_goals exact @Rp.rd ⟨new⟩ _ _ _ _ _ (zcT hS hp)
theorem ziT{d:D}(h:jE (ziS d)=true):jE d=true:=by
 cases d<;>try first|exact h|(cases h;done)
 case sl t xs=>
  have h:jE (bif t.unm then D.sl (.mk false t) xs else .undef)=true:=h
  cases hu:t.unm<;>rw[hu]at h<;>cases h
theorem Au{α:Type}{f:Nat×α→Bool}{k:Nat}{o:α}:∀ {l:List (Nat×α)},l.all f=true→yB k l=some o→f (k,o)=true
 |[],_,h=>by cases h
 |(j,o')::r,ha,h=>by
  rw[List.all_cons,Bool.and_eq_true]at ha
  rw[xX]at h
  split at h
  ·rename_i e;subst e;injection h with h;subst h;exact ha.1
  ·exact Au ha.2 h
theorem zeF(hc:za2 σ=true){k:Nat}{o:wT}(h:yB k σ.hp=some o):∃ds,o=.cells ds:=by
 have:=Au hc h;cases o with
 |cells ds=>exact⟨ds,rfl⟩
 |_=>cases this
theorem FE(hc:za2 σ=true){k:Nat}{o:wT}(h:yB k σ.od.hp=some o):∃ds,yB k σ.hp=some (.cells ds)∧o=.cells (ds.map ziS):=by
 have h:yB k (σ.hp.map λx=>(x.1,odO x.2))=some o:=h
 rw[kG,Option.map_eq_some_iff]at h
 obtain⟨o0,h0,rfl⟩:=h;obtain⟨ds,rfl⟩:=zeF hc h0;exact⟨ds,h0,rfl⟩
theorem znW(i:Nat):σ.od.get i=ziS (σ.get i):=by
 unfold St.get St.od;rw[kG];cases yB i σ.fr<;>rfl
theorem zoM(m: @tD LoT P b0 N σ a w S pl)(hc:za2 σ=true)(hn:∀b,w.heap.size≤b→new b)(hS:∀b,S b→¬new b)(hO:∀b,EY σ pl b→new b): @tD ⟨new⟩ P ⟨w,S,EY σ pl,pl⟩ N σ.od a w S pl:=by
 have hg: @GOk LoT P w (EY σ pl):= @tD.gnow LoT _ _ _ _ _ _ _ _ m _ λb ⟨k,o,hk,hb⟩=>(@tD.priv LoT _ _ _ _ _ _ _ _ m k o b hk hb).1
 refine @tD.mk ⟨new⟩ P _ N σ.od a w S pl m.dz m.sz (λi=> ?_) (λk o hk=> ?_) m.lt (λb hb=> .inl hb) (λk o b hk hb=> ?_) (λk k' o o' b hk hk' hb hb'=> ?_) (.of (Below.refl _ _)) (λ_ _=>rfl) ⟨hg.1,hn,hO⟩
 ·rw[znW];exact zhv hS (m.fr i)
 ·obtain⟨ds,h0,rfl⟩:=FE hc hk
  obtain⟨b,vs,T,e1,e2,e3,e4,e5⟩:=m.hp k _ h0;refine⟨b,vs,T,e1,e2,by simpa using e3,λi d hd=> ?_,TT (λ_=>ziT) e5⟩
  rw[List.getElem?_map,Option.map_eq_some_iff]at hd
  obtain⟨d0,hd0,rfl⟩:=hd;exact zhv hS (e4 i d0 hd0)
 ·obtain⟨ds,h0,rfl⟩:=FE hc hk
  have:=m.priv k _ b h0 hb;exact⟨.inl ⟨k,_,h0,hb⟩,this.2⟩
 ·obtain⟨ds,h0,rfl⟩:=FE hc hk
  obtain⟨ds',h1,rfl⟩:=FE hc hk';exact m.inj k k' _ _ b h0 h1 hb hb'
theorem zmA{P:Program}{E1 E2:TE}{A1 A2:xJ}(F1:vM P E1)(F2:vM P E2)(hs:∀f t,yB f E2.sp=some t→Ent P f){f:FuncId}{fn:Func}{body:Code}{args:List D}{n i:Nat}{pubs:List (Nat×Nat)}{L:List Nat×List Nat}{Q:St→Prop}
  (hf:P.funcs[f]? =some fn) (hb:fn.body=some body) (hr:fn.results.toList=[.tmp i]) (hn1:A1.n=fn.ntmps) (hn2:A2.n=fn.ntmps) (hle:args.length≤fn.ntmps) (hsp:zkQ n body=true)
  (hQ:∀σ,Q σ→za2 σ=true)
  (h1:(∀d∈args,Hn d)→ @den LoT P E1 A1 (zkP n body) 0 (St.init args) (znV pubs L Q))
  (h2:∀σ,Q σ→∀new:Nat→Prop,@RB ⟨new⟩ P E2 A2 (zcS n body) 0 σ.od (ziR i)): @mB LoT P f args (.bool true):=by
 intro w S vs hS hl hv hg
 have hok:∀d∈args,Hn d:=λd hd=>by
  obtain⟨i,hi,rfl⟩:=List.getElem_of_mem hd;exact @EU LoT _ _ _ _ (hv i _ (List.getElem?_eq_getElem hi))
 refine calls_of_wp hf hb ?_
 have m0: @tD LoT P ⟨w,S,λ_=>False,λ_=>undef⟩ A1.n (St.init args) {tmps:=vs++Array.replicate (fn.ntmps-vs.size) undef,defers:=[]} w S (λ_=>undef):=by
  refine @tD.mk LoT P _ _ _ _ w S _ rfl (by simp;omega) (λi=> ?_) (λk o h=>by cases h) hS (λb h=> .inl h) (λk o b h=>by cases h) (λk k' o o' b h=>by cases h) (.of (Below.refl _ _)) (λ_ _=>rfl) hg
  rw[Lk];cases hi:args[i]? with
  |none=>exact @tV LoT _ _ _ _
  |some d=>
   have hlt:i<vs.size:=by rw[hl];exact(List.getElem?_eq_some_iff.1 hi).1
   have:=hv i d hi;rw[Array.getD_eq_getD_getElem?,Array.getElem?_append_left hlt,←Array.getD_eq_getD_getElem?];exact @Rp.rd LoT _ _ _ _ _ this
 refine @zkR LoT P E1 A1 ⟨w,S,λ_=>False,λ_=>undef⟩ F1 (znV pubs L Q) _ (λe σ hk=>by cases e<;>first|rfl|exact hk.elim) n body 0 _ _ w hsp (h1 hok) ⟨_,_,m0⟩ λσ a w1 hk hm=> ?_
 obtain⟨S1,pl1,m⟩:=hm;obtain⟨S2,m2⟩:= @Ht LoT P ⟨w,S,λ_=>False,λ_=>undef⟩ w1 pl1 A1.n a pubs σ S1 m
 have m3:= @tD.keep LoT _ _ _ _ _ _ _ _ m2 L;have hk:Q ((Wx pubs σ).keep L):=hk;generalize(Wx pubs σ).keep L=σ3 at hk m3
 let new:Nat→Prop:=λb=>w1.heap.size≤b∨EY σ3 pl1 b
 have hSn:∀b,S2 b→¬new b:=λb hb hn=>by
  rcases hn with hn|⟨k,o,h3,h4⟩
  ·have:=m3.lt b hb;omega
  ·exact(m3.priv k o b h3 h4).2.2 hb
 have m4:=zoM (new:=new) m3 (hQ _ hk) (λb hb=> .inl hb) hSn (λb hb=> .inr hb)
 rw[show A1.n=A2.n from hn1.trans hn2.symm]at m4
 have hO:∀x,EY σ3 pl1 x→w.heap.size≤x:=λx ⟨k,o,h3,h4⟩=>(m3.priv k o x h3 h4).1.elim (λh=>h.elim) id
 have hB: @OkB ⟨new⟩ P w (λ_=>False) ⟨w1,S2,EY σ3 pl1,pl1⟩:= @zmz ⟨new⟩ P w σ3 S2 w1 pl1 hSn m3.below hO
 refine wp_mono (@zhp ⟨new⟩ P E2 A2 w (λ_=>False) F2 hs (zcS n body) 0 _ _ a w1 (h2 _ hk new) ⟨_,hB,_,_,m4⟩) λe a w' hq=> ?_
 obtain⟨he,hdz,hres,hbel⟩:= @zmy ⟨new⟩ _ _ _ _ _ _ _ _ hr hq;cases e<;>simp only[N7,Option.some.injEq,reduceCtorEq]at he
 exact⟨hdz,_,hres,_,rfl,.bool true,hbel⟩
end
end Go.Proofs.YteimklbiapnfhaaGreat
namespace Go.Proofs.YteimklbiapnfhaaGreat
open Go.RowKit
set_option linter.unusedVariables false
set_option linter.unusedSimpArgs false
set_option maxRecDepth 100000
variable[Lo]
abbrev ZB:FuncId:=3
abbrev mD:FuncId:=4
abbrev o3:FuncId:=5
abbrev o4:FuncId:=6
abbrev kK:FuncId:=7
abbrev og:FuncId:=8
abbrev mE:FuncId:=9
abbrev rS:FuncId:=10
abbrev rT:FuncId:=11
abbrev pC:FuncId:=12
abbrev mF:FuncId:=13
abbrev oh:FuncId:=14
abbrev kL:FuncId:=15
abbrev ol:FuncId:=16
abbrev mG:FuncId:=17
abbrev rK:FuncId:=18
abbrev om:FuncId:=19
abbrev oo:FuncId:=20
abbrev iZ:FuncId:=21
abbrev hD:FuncId:=22
abbrev sH:FuncId:=23
abbrev rA:FuncId:=24
abbrev oq:FuncId:=25
abbrev pI:FuncId:=26
abbrev yI:FuncId:=27
abbrev wR:FuncId:=28
abbrev nS:FuncId:=29
abbrev qE:FuncId:=30
abbrev uJ:FuncId:=31
abbrev qF:FuncId:=32
abbrev xG:FuncId:=33
abbrev fR:FuncId:=34
abbrev fS:FuncId:=35
abbrev rB:FuncId:=36
abbrev fT:FuncId:=37
abbrev jX:FuncId:=38
abbrev Xc:FuncId:=39
abbrev qG:FuncId:=40
abbrev mH:FuncId:=41
abbrev mI:FuncId:=42
abbrev o5:FuncId:=43
abbrev xY:FuncId:=44
abbrev hJ:FuncId:=45
abbrev rU:FuncId:=46
abbrev uQ:FuncId:=47
abbrev ot:FuncId:=48
abbrev rL:FuncId:=49
abbrev ou:FuncId:=50
abbrev xV:FuncId:=51
abbrev fU:FuncId:=52
abbrev yH:FuncId:=53
abbrev vR:FuncId:=54
abbrev oL:FuncId:=55
abbrev uA:FuncId:=56
abbrev sI:FuncId:=57
abbrev kM:FuncId:=58
abbrev sX:FuncId:=59
abbrev nM:FuncId:=60
abbrev sC:FuncId:=61
abbrev mV:FuncId:=62
abbrev oM:FuncId:=63
abbrev rC:FuncId:=64
abbrev mW:FuncId:=65
abbrev jN:FuncId:=66
abbrev uR:FuncId:=67
abbrev pJ:FuncId:=68
abbrev xM:FuncId:=69
abbrev dA:FuncId:=70
abbrev zS:FuncId:=71
abbrev xZ:FuncId:=72
abbrev dD:FuncId:=73
abbrev kN:FuncId:=74
abbrev lB:FuncId:=75
abbrev Ze:FuncId:=76
abbrev qH:FuncId:=77
abbrev aQ:FuncId:=78
abbrev xU:FuncId:=79
abbrev kO:FuncId:=80
abbrev rV:FuncId:=81
abbrev hM:FuncId:=82
abbrev lC:FuncId:=83
abbrev uS:FuncId:=84
abbrev nT:FuncId:=85
abbrev oN:FuncId:=86
abbrev hU:FuncId:=87
abbrev uT:FuncId:=88
abbrev XU:FuncId:=89
abbrev VB:FuncId:=90
abbrev tW:FuncId:=91
abbrev YH:FuncId:=92
abbrev ov:FuncId:=93
abbrev tG:FuncId:=94
abbrev qI:FuncId:=95
abbrev hZ:FuncId:=96
abbrev yM:FuncId:=97
abbrev rD:FuncId:=98
abbrev nN:FuncId:=99
abbrev jY:FuncId:=100
abbrev nO:FuncId:=101
abbrev vN:FuncId:=102
abbrev Yv:FuncId:=103
abbrev lD:FuncId:=104
abbrev dE:FuncId:=105
abbrev fV:FuncId:=106
abbrev lE:FuncId:=107
abbrev kP:FuncId:=108
abbrev ZC:FuncId:=109
abbrev tJ:FuncId:=110
abbrev tE:FuncId:=111
abbrev rE:FuncId:=112
abbrev VC:FuncId:=113
abbrev cZ:FuncId:=114
abbrev wY:FuncId:=115
abbrev tC:FuncId:=116
abbrev lF:FuncId:=117
abbrev kQ:FuncId:=118
abbrev uU:FuncId:=119
abbrev lK:FuncId:=120
abbrev rM:FuncId:=121
abbrev uL:FuncId:=122
abbrev aB:FuncId:=123
abbrev vT:FuncId:=124
abbrev O0:FuncId:=125
abbrev Mc:FuncId:=126
abbrev lL:FuncId:=127
abbrev sR:FuncId:=128
abbrev T3:FuncId:=129
abbrev vO:FuncId:=130
abbrev ZD:FuncId:=131
abbrev bA:FuncId:=132
abbrev ow:FuncId:=133
abbrev XV:FuncId:=134
abbrev wD:FuncId:=135
abbrev YI:FuncId:=136
abbrev yL:FuncId:=137
abbrev YJ:FuncId:=138
abbrev aC:FuncId:=139
abbrev wB:FuncId:=140
abbrev rW:FuncId:=141
abbrev tX:FuncId:=142
abbrev yO:FuncId:=143
abbrev qJ:FuncId:=144
abbrev iL:FuncId:=145
abbrev ZE:FuncId:=146
abbrev yR:FuncId:=147
abbrev yW:FuncId:=148
abbrev yJ:FuncId:=149
abbrev ZF:FuncId:=150
abbrev YK:FuncId:=151
abbrev tM:FuncId:=152
abbrev wF:FuncId:=153
abbrev jO:FuncId:=154
abbrev jP:FuncId:=155
abbrev tN:FuncId:=156
abbrev vQ:FuncId:=157
abbrev vY:FuncId:=158
abbrev zT:FuncId:=159
abbrev dF:FuncId:=160
abbrev yF:FuncId:=161
abbrev gX:FuncId:=162
abbrev vV:FuncId:=163
abbrev Zf:FuncId:=164
abbrev uV:FuncId:=165
abbrev tO:FuncId:=166
abbrev O1:FuncId:=167
abbrev za3:FuncId:=168
abbrev Zr:FuncId:=169
abbrev C9:FuncId:=170
abbrev uB:FuncId:=171
abbrev T4:FuncId:=172
abbrev Yw:FuncId:=173
abbrev oO:FuncId:=174
abbrev uC:FuncId:=175
abbrev tT:FuncId:=176
abbrev dG:FuncId:=179
abbrev wI:FuncId:=180
abbrev Xd:FuncId:=181
abbrev Qt:FuncId:=182
abbrev O2:FuncId:=183
abbrev zcU:FuncId:=184
abbrev Yx:FuncId:=185
abbrev za4:FuncId:=197
abbrev Qu:FuncId:=204
abbrev RC:FuncId:=205
abbrev aR:FuncId:=217
def Ev:TE where
 zs:=[(3,(false,[dI 0])),(9,(false,[.str (⟨#[]⟩)])),(22,(false,[.nil])),(23,(false,[.nil])),(25,(true,[.sl .var ([]:List vF),.sl .con ([]:List zQ),dI 0,dI 0])),(26,(false,[.nil])),(27,(false,[.nil])),(28,(false,[.nil])),(29,(false,[.nil])),(45,(false,[.nil])),(49,(false,[.nil])),(62,(false,[.nil])),(67,(true,[dI 0,dI 0,dI 0])),(72,(true,[dI 0,dI 0,.sl .lit ([]:List zC)])),(74,(true,[dI 0,.sl .int ([]:List Int),.sl .int ([]:List Int),dI 0,dS ([]:List (List Int)),.sl .lit ([]:List zC)])),(84,(false,[.undef])),(97,(true,[.str (⟨#[]⟩),dI 0,dI 0])),(102,(false,[.undef])),(130,(true,[.sl .var ([]:List vF),.sl .con ([]:List zQ),dI 0,dI 0,.sl (.list .lit) ([]:List (List zC)),dS ([]:List (List Int)),.nil])),(144,(false,[.undef])),(145,(false,[.undef])),(146,(false,[.undef])),(148,(true,[dI 0,.sl .int ([]:List Int),.sl .int ([]:List Int),dI 0,dS ([]:List (List Int)),.sl .lit ([]:List zC),dS ([]:List (List Int)),.sl .int ([]:List Int),.sl .int ([]:List Int),.undef])),(150,(true,[dI 0,dI 0])),(151,(false,[.nil])),(153,(false,[.undef])),(155,(true,[dI 0,dI 0])),(161,(true,[dS ([]:List (List Int)),.sl .int ([]:List Int),.undef,.undef,dI 0])),(176,(true,[dI 0,dI 0,dI 0,dI 0,dI 0])),(202,(true,[dI 0,dI 0,.str (⟨#[]⟩)])),(211,(true,[.str (⟨#[]⟩),dI 0]))]
 sl:=[(22,(97,.var)),(23,(74,.con)),(26,(62,.list .int)),(27,(62,.list .int)),(28,(45,.list .lit)),(29,(67,.lit)),(45,(67,.lit)),(49,(72,.step)),(56,(27,.list (.list .int))),(62,(3,.int)),(151,(155,.term)),(165,(29,.list .lit)),(171,(9,.str)),(198,(202,.tok))]
 fld:=[(25,[(0,1),(1,1),(2,1),(3,1)]),(67,[(0,1),(1,1),(2,1)]),(72,[(0,1),(1,1),(2,1)]),(74,[(0,1),(1,1),(2,1),(3,1),(4,1),(5,1)]),(97,[(0,1),(1,1),(2,1)]),(130,[(0,4),(4,1),(5,1),(6,1)]),(148,[(0,6),(6,1),(7,1),(8,1),(9,1)]),(155,[(0,1),(1,1)]),(161,[(0,1),(1,1),(2,1),(3,1),(4,1)]),(176,[(0,1),(1,1),(2,1),(3,1),(4,1)]),(202,[(0,1),(1,1),(2,1)]),(211,[(0,1),(1,1)])]
 strs:=[9]
 ints:=[(2,.i64),(3,.i64),(5,.u8),(6,.u8),(34,.i64),(188,.i64),(229,.u8),(230,.u8)]
 bools:=[]
 sig:=[(mD,[.bool]),(o3,[.bool]),(o4,[.bool]),(kK,[.bool]),(og,[.bool]),(mE,[.bool]),(rS,[.mdl]),(rT,[.list (.list .int)]),(pC,[.list (.list .lit)]),(mF,[.int]),(oh,[.int]),(kL,[.list (.list .int)]),(ol,[.list (.list .int),.int]),(mG,[.list (.list .int),.int]),(rK,[.list (.list .int),.int]),(om,[.list (.list .int),.int]),(oo,[.list (.list .int),.int]),(iZ,[.list (.list .int),.int]),(hD,[.list (.list .int),.int]),(sH,[.list .lit,.bool,.int]),(rA,[.list .lit,.bool,.int]),(oq,[.list .step,.bool,.int]),(pI,[.bool]),(yI,[.bool]),(wR,[.bool]),(nS,[.bool]),(qE,[]),(uJ,[]),(qF,[]),(xG,[.mdl]),(fR,[.bool,.int]),(fS,[.bool,.int]),(rB,[.int]),(fT,[.bool,.int]),(jX,[.int]),(Xc,[.list (.list .int),.int]),(qG,[.list .lit,.bool,.int]),(mH,[.int]),(mI,[.int]),(o5,[.int]),(xY,[.bool]),(hJ,[.list (.list .int)]),(rU,[.list (.list .int)]),(uQ,[.list (.list .int)]),(ot,[.int]),(rL,[.list (.list .int)]),(ou,[.int]),(xV,[.list (.list .int)]),(yH,[.bool]),(vR,[.list (.list .int)]),(oL,[.int]),(uA,[.list (.list .int)]),(sI,[.list (.list .int)]),(kM,[.int]),(sX,[.list (.list .int)]),(nM,[.int]),(sC,[.list .lit,.bool]),(mV,[.int]),(oM,[.list .lit,.bool]),(rC,[.list .lit]),(mW,[.list .step]),(jN,[.bool]),(uR,[.bool]),(pJ,[]),(xM,[.bool]),(zS,[.bool]),(xZ,[.bool]),(kN,[.bool]),(lB,[.int]),(Ze,[.int]),(qH,[.list .lit,.bool]),(aQ,[.bool]),(xU,[.bool]),(kO,[.int]),(rV,[.int]),(hM,[.int]),(lC,[.bool]),(uS,[.bool]),(nT,[.list .int]),(oN,[.bool]),(uT,[.bool]),(XU,[.int]),(VB,[.int]),(tW,[.bool]),(YH,[.int]),(ov,[.int]),(tG,[.list (.list .int)]),(qI,[.list .int]),(hZ,[.bool]),(yM,[.list (.list .int)]),(jY,[.bool]),(Yv,[.int]),(ZC,[.int]),(tJ,[.bool]),(tE,[.list .lit]),(rE,[.list .lit]),(VC,[.int]),(cZ,[.bool]),(tC,[.list .lit]),(lF,[.lit]),(kQ,[.list (.list .int)]),(lK,[.bool]),(rM,[.int]),(uL,[.bool]),(vT,[.int]),(O0,[.bool]),(Mc,[.bool]),(lL,[.bool]),(sR,[.bool]),(T3,[.bool]),(vO,[.bool]),(ow,[.bool]),(XV,[.bool]),(wD,[.bool]),(yL,[.bool]),(yO,[.int]),(qJ,[.bool]),(iL,[.bool]),(yR,[.bool]),(ZF,[.list .term]),(YK,[.list .int]),(wF,[.int]),(zT,[.bool]),(yF,[.list .lit]),(gX,[.bool]),(Zf,[.list (.list .int)]),(tO,[.int]),(O1,[.int,.int]),(za3,[.bool]),(Zr,[.bool]),(C9,[.list .str]),(uB,[.int]),(T4,[.pr .int (.pr .int (.pr .int (.pr .int .int)))]),(Yw,[.bool]),(uC,[.int]),(tT,[.int]),(Qt,[.bool]),(O2,[.bool]),(zcU,[.bool]),(Yx,[.int]),(za4,[.list .tok,.int,.int]),(Qu,[]),(RC,[.tok,.int]),(aR,[.int])]
 mps:=[(144,(.int,.int)),(146,(.pr .int .int,.int)),(153,(.int,.list .int))]
 sts:=[(67,.lit),(97,.var)]
 hsig:=[(hU,{tys:=[.bool,.list .int],nils:=[],datas:=[],res:=λxs ob=>match xs,ob 1000 with|[y0,.sl .int y1],some o1000=>some (y0,[(1000,.row 3 .int y1)])|_,_=>none}),
  (rD,{tys:=[.con,.list (.list .int),.list .int,.list .int,.list (.pr (.pr .int .int) .int)],nils:=[],datas:=[],res:=λxs _=>match xs with|[.agg y0,y1,y2,y3,.sl (.pr (.pr .int .int) .int) y4]=>some (.clo 149 none [.iptr [.iptr (y0++[y1,y2,y3,.mp (.pr .int .int) .int y4]) 0] 0],[])|_=>none}),
  (nN,{tys:=[.list .term,.list (.pr .int (.list .int)),.con],nils:=[],datas:=[],res:=λxs _=>match xs with|[y0,.sl (.pr .int (.list .int)) y1,.agg y2]=>some (.clo 152 none [.iptr [y0] 0,.iptr [.mp .int (.list .int) y1] 0,.iptr y2 0],[])|_=>none}),
  (nO,{tys:=[.list (.list .int),.con],nils:=[],datas:=[],res:=λxs _=>match xs with|[y0,.agg y1]=>some (.clo 156 none [.iptr [y0] 0,.iptr y1 0],[])|_=>none}),
  (wY,{tys:=[.list .lit],nils:=[],datas:=[],res:=λxs ob=>match xs with|[.sl .lit y0]=>some (.own 3000,[(3000,.row 67 .lit y0)])|_=>none}),
  (uU,{tys:=[.list (.list .int),.list .step],nils:=[(0,(6,(72,.step)))],datas:=[],res:=λxs ob=>match xs,ob 1000,ob 2000 with|[y0,.sl .step y1],some (.cells o1000),some o2000=>some (.tup [],[(1000,.cells (o1000.set 5 y0)),(2000,.row 72 .step y1)])|_,_,_=>none}),
  (wB,{tys:=[.list .int],nils:=[],datas:=[],res:=λxs ob=>match xs with|[.sl .int y0]=>some (.own 3000,[(3000,.row 3 .int y0)])|_=>none}),
  (rW,{tys:=[.list .int],nils:=[],datas:=[],res:=λxs ob=>match xs,ob 1000 with|[.sl .int y0],some o1000=>some (.tup [],[(1000,.row 3 .int y0)])|_,_=>none}),
  (tX,{tys:=[.list .int],nils:=[],datas:=[],res:=λxs ob=>match xs,ob 1000 with|[y0],some o1000=>some (y0,[])|_,_=>none}),
  (yW,{tys:=[.list .int,.list (.pr (.pr .int .int) .int)],nils:=[],datas:=[],res:=λxs ob=>match xs,ob 1000,ob 2000,ob 1001 with|[.sl .int y0,.sl (.pr (.pr .int .int) .int) y1],some o1000,some o2000,some o1001=>some (.tup [],[(1000,o1000),(2000,.row 3 .int y0),(1001,.mp (.pr .int .int) .int y1)])|_,_,_,_=>none}),
  (vQ,{tys:=[.list (.list .int)],nils:=[],datas:=[],res:=λxs ob=>match xs with|[.sl (.list .int) y0]=>some (.own 3000,[(3000,.row 62 (.list .int) y0)])|_=>none}),
  (vY,{tys:=[.bool,.list (.pr .int .int),.list (.pr .int .int)],nils:=[],datas:=[(0,0)],res:=λxs ob=>match xs,ob 1000,ob 1001,ob 1002 with|[y0,.sl (.pr .int .int) y1,.sl (.pr .int .int) y2],some o1000,some o1001,some o1002=>some (y0,[(1000,o1000),(1001,.mp .int .int y1),(1002,.mp .int .int y2)])|_,_,_,_=>none}),
  (vV,{tys:=[.list .lit],nils:=[],datas:=[],res:=λxs ob=>match xs with|[.sl .lit y0]=>some (.own 3000,[(3000,.row 67 .lit y0)])|_=>none,raw:=true}),
  (uV,{tys:=[.bool,.list (.list .int),.list .step],nils:=[(0,(6,(72,.step)))],datas:=[],res:=λxs ob=>match xs,ob 1000,ob 2000 with|[y0,y1,.sl .step y2],some (.cells o1000),some o2000=>some (y0,[(1000,.cells (o1000.set 5 y1)),(2000,.row 72 .step y2)])|_,_,_=>none}),
  (wI,{tys:=[.list .lit],nils:=[],datas:=[],res:=λxs ob=>match xs with|[.sl .lit y0]=>some (.own 3000,[(3000,.row 67 .lit y0)])|_=>none,raw:=true})]
 vals:=[130,148,161]
 arr:=[150]
 thr:=[]
theorem zoN:Ev.chk Tryz.prog=true:=by kernel_rfl
theorem zoO:∀x∈Ev.sig,∀args w,(callFunc x.1 args).run Tryz.prog w=.ok (.enter x.1 args) w:=by
 intro x hx args w;simp only[Ev,List.mem_cons,List.not_mem_nil,or_false]at hx
 rcases hx with rfl|rfl|rfl|rfl|rfl|rfl|rfl|rfl|rfl|rfl|rfl|rfl|rfl|rfl|rfl|rfl|rfl|rfl|rfl|rfl|rfl|rfl|rfl|rfl|rfl|rfl|rfl|rfl|rfl|rfl|rfl|rfl|rfl|rfl|rfl|rfl|rfl|rfl|rfl|rfl|rfl|rfl|rfl|rfl|rfl|rfl|rfl|rfl|rfl|rfl|rfl|rfl|rfl|rfl|rfl|rfl|rfl|rfl|rfl|rfl|rfl|rfl|rfl|rfl|rfl|rfl|rfl|rfl|rfl|rfl|rfl|rfl|rfl|rfl|rfl|rfl|rfl|rfl|rfl|rfl|rfl|rfl|rfl|rfl|rfl|rfl|rfl|rfl|rfl|rfl|rfl|rfl|rfl|rfl|rfl|rfl|rfl|rfl|rfl|rfl|rfl|rfl|rfl|rfl|rfl|rfl|rfl|rfl|rfl|rfl|rfl|rfl|rfl|rfl|rfl|rfl|rfl|rfl|rfl|rfl|rfl|rfl|rfl|rfl|rfl|rfl|rfl|rfl|rfl|rfl|rfl|rfl|rfl|rfl|rfl|rfl|rfl|rfl|rfl|rfl|rfl|rfl|rfl|rfl
 ·exact Tryz.call4 args w
 ·exact Tryz.call5 args w
 ·exact Tryz.call6 args w
 ·exact Tryz.call7 args w
 ·exact Tryz.call8 args w
 ·exact Tryz.call9 args w
 ·exact Tryz.call10 args w
 ·exact Tryz.call11 args w
 ·exact Tryz.call12 args w
 ·exact Tryz.call13 args w
 ·exact Tryz.call14 args w
 ·exact Tryz.call15 args w
 ·exact Tryz.call16 args w
 ·exact Tryz.call17 args w
 ·exact Tryz.call18 args w
 ·exact Tryz.call19 args w
 ·exact Tryz.call20 args w
 ·exact Tryz.call21 args w
 ·exact Tryz.call22 args w
 ·exact Tryz.call23 args w
 ·exact Tryz.call24 args w
 ·exact Tryz.call25 args w
 ·exact Tryz.call26 args w
 ·exact Tryz.call27 args w
 ·exact Tryz.call28 args w
 ·exact Tryz.call29 args w
 ·exact Tryz.call30 args w
 ·exact Tryz.call31 args w
 ·exact Tryz.call32 args w
 ·exact Tryz.call33 args w
 ·exact Tryz.call34 args w
 ·exact Tryz.call35 args w
 ·exact Tryz.call36 args w
 ·exact Tryz.call37 args w
 ·exact Tryz.call38 args w
 ·exact Tryz.call39 args w
 ·exact Tryz.call40 args w
 ·exact Tryz.call41 args w
 ·exact Tryz.call42 args w
 ·exact Tryz.call43 args w
 ·exact Tryz.call44 args w
 ·exact Tryz.call45 args w
 ·exact Tryz.call46 args w
 ·exact Tryz.call47 args w
 ·exact Tryz.call48 args w
 ·exact Tryz.call49 args w
 ·exact Tryz.call50 args w
 ·exact Tryz.call51 args w
 ·exact Tryz.call53 args w
 ·exact Tryz.call54 args w
 ·exact Tryz.call55 args w
 ·exact Tryz.call56 args w
 ·exact Tryz.call57 args w
 ·exact Tryz.call58 args w
 ·exact Tryz.call59 args w
 ·exact Tryz.call60 args w
 ·exact Tryz.call61 args w
 ·exact Tryz.call62 args w
 ·exact Tryz.call63 args w
 ·exact Tryz.call64 args w
 ·exact Tryz.call65 args w
 ·exact Tryz.call66 args w
 ·exact Tryz.call67 args w
 ·exact Tryz.call68 args w
 ·exact Tryz.call69 args w
 ·exact Tryz.call71 args w
 ·exact Tryz.call72 args w
 ·exact Tryz.call74 args w
 ·exact Tryz.call75 args w
 ·exact Tryz.call76 args w
 ·exact Tryz.call77 args w
 ·exact Tryz.call78 args w
 ·exact Tryz.call79 args w
 ·exact Tryz.call80 args w
 ·exact Tryz.call81 args w
 ·exact Tryz.call82 args w
 ·exact Tryz.call83 args w
 ·exact Tryz.call84 args w
 ·exact Tryz.call85 args w
 ·exact Tryz.call86 args w
 ·exact Tryz.call88 args w
 ·exact Tryz.call89 args w
 ·exact Tryz.call90 args w
 ·exact Tryz.call91 args w
 ·exact Tryz.call92 args w
 ·exact Tryz.call93 args w
 ·exact Tryz.call94 args w
 ·exact Tryz.call95 args w
 ·exact Tryz.call96 args w
 ·exact Tryz.call97 args w
 ·exact Tryz.call100 args w
 ·exact Tryz.call103 args w
 ·exact Tryz.call109 args w
 ·exact Tryz.call110 args w
 ·exact Tryz.call111 args w
 ·exact Tryz.call112 args w
 ·exact Tryz.call113 args w
 ·exact Tryz.call114 args w
 ·exact Tryz.call116 args w
 ·exact Tryz.call117 args w
 ·exact Tryz.call118 args w
 ·exact Tryz.call120 args w
 ·exact Tryz.call121 args w
 ·exact Tryz.call122 args w
 ·exact Tryz.call124 args w
 ·exact Tryz.call125 args w
 ·exact Tryz.call126 args w
 ·exact Tryz.call127 args w
 ·exact Tryz.call128 args w
 ·exact Tryz.call129 args w
 ·exact Tryz.call130 args w
 ·exact Tryz.call133 args w
 ·exact Tryz.call134 args w
 ·exact Tryz.call135 args w
 ·exact Tryz.call137 args w
 ·exact Tryz.call143 args w
 ·exact Tryz.call144 args w
 ·exact Tryz.call145 args w
 ·exact Tryz.call147 args w
 ·exact Tryz.call150 args w
 ·exact Tryz.call151 args w
 ·exact Tryz.call153 args w
 ·exact Tryz.call159 args w
 ·exact Tryz.call161 args w
 ·exact Tryz.call162 args w
 ·exact Tryz.call164 args w
 ·exact Tryz.call166 args w
 ·exact Tryz.call167 args w
 ·exact Tryz.call168 args w
 ·exact Tryz.call169 args w
 ·exact Tryz.call170 args w
 ·exact Tryz.call171 args w
 ·exact Tryz.call172 args w
 ·exact Tryz.call173 args w
 ·exact Tryz.call175 args w
 ·exact Tryz.call176 args w
 ·exact Tryz.call182 args w
 ·exact Tryz.call183 args w
 ·exact Tryz.call184 args w
 ·exact Tryz.call185 args w
 ·exact Tryz.call197 args w
 ·exact Tryz.call204 args w
 ·exact Tryz.call205 args w
 ·exact Tryz.call217 args w
theorem znX:Ev.chk2 Tryz.prog=true:=by kernel_rfl
theorem znY:∀x∈Ev.hsig,Ent Tryz.prog x.1:=by
 intro x hx args w;simp only[Ev,List.mem_cons,List.not_mem_nil,or_false]at hx
 rcases hx with rfl|rfl|rfl|rfl|rfl|rfl|rfl|rfl|rfl|rfl|rfl|rfl|rfl|rfl|rfl
 ·exact Tryz.call87 args w
 ·exact Tryz.call98 args w
 ·exact Tryz.call99 args w
 ·exact Tryz.call101 args w
 ·exact Tryz.call115 args w
 ·exact Tryz.call119 args w
 ·exact Tryz.call140 args w
 ·exact Tryz.call141 args w
 ·exact Tryz.call142 args w
 ·exact Tryz.call148 args w
 ·exact Tryz.call157 args w
 ·exact Tryz.call158 args w
 ·exact Tryz.call163 args w
 ·exact Tryz.call165 args w
 ·exact Tryz.call180 args w
theorem Lp:vM Tryz.prog Ev:=EV (by kernel_rfl) zoN znX zoO znY
abbrev FD(A:xJ)(fn:Func)(ds:List D)(R:D→Prop):Prop:=fnD Tryz.prog Ev A fn.results.toList (sQ fn) ds R
abbrev FH(A:xJ)(fn:Func)(ds:List D)(hp:List (Nat×wT))(roots:List D)(own:Bool)(R:D→List (Nat×wT)→Prop):Prop:=fnH Tryz.prog Ev A fn.results.toList (sQ fn) ds hp roots own R
def yY(A:xJ)(fn:Func)(f:FuncId)(ds:List D):Prop:=∀ {r:D},((∀d∈ds,Hn d)→FD A fn ds λd=>d=r)→mB Tryz.prog f ds r
def Rb(A:xJ)(fn:Func)(f:FuncId)(ds:List D)(hp:List (Nat×wT))(roots:List D)(own:Bool):Prop:=∀ {r:D} {h0:List (Nat×wT)},((∀d∈ds,Hn d)→(∀k o,yB k hp=some o→okO o)→FH A fn ds hp roots own λd h1=>d=r∧h1=h0)→zio Tryz.prog f ds hp r h0
theorem xA{A:xJ}{fn:Func}{f:FuncId}{ds:List D}(hf:Tryz.prog.funcs[f]? =some fn)(hb:fn.body=some (sQ fn))(hn:fn.ntmps=A.n)(hl:Nat.ble ds.length A.n=true):yY A fn f ds:=λh=>zkw Lp hf hb hn.symm (by rw[hn];exact Nat.le_of_ble_eq_true hl) h
theorem Qv{A:xJ}{fn:Func}{f:FuncId}{ds:List D}{hp:List (Nat×wT)}{roots:List D}{own:Bool}(hf:Tryz.prog.funcs[f]? =some fn)(hb:fn.body=some (sQ fn))(hn:fn.ntmps=A.n)(hl:Nat.ble ds.length A.n=true):Rb A fn f ds hp roots own:=λh=>zhh Lp hf hb hn.symm (by rw[hn];exact Nat.le_of_ble_eq_true hl) h
abbrev FX(A:xJ)(fn:Func)(ds:List D)(hp:List (Nat×wT))(roots:List D)(own:Bool)(R:D→List (Nat×wT)→Prop)(T:Value→Prop):Prop:=fnX Tryz.prog Ev A fn.results.toList (sQ fn) ds hp roots own R T
def zoP(A:xJ)(fn:Func)(f:FuncId)(ds:List D)(hp:List (Nat×wT))(roots:List D)(own:Bool):Prop:=∀ {r:D} {h0:List (Nat×wT)},((∀d∈ds,Hn d)→(∀k o,yB k hp=some o→okO o)→FX A fn ds hp roots own (λd h1=>d=r∧h1=h0) λ_=>False)→zio Tryz.prog f ds hp r h0
def zoQ(A:xJ)(fn:Func)(f:FuncId)(ds:List D)(hp:List (Nat×wT))(roots:List D)(own:Bool):Prop:=∀ {u:Value},((∀d∈ds,Hn d)→(∀k o,yB k hp=some o→okO o)→FX A fn ds hp roots own (λ_ _=>False) λv=>v=u)→znx Tryz.prog f ds hp u
theorem zpl{A:xJ}{fn:Func}{f:FuncId}{ds:List D}{hp:List (Nat×wT)}{roots:List D}{own:Bool}(hf:Tryz.prog.funcs[f]? =some fn)(hb:fn.body=some (sQ fn))(hn:fn.ntmps=A.n)(hl:Nat.ble ds.length A.n=true):zoP A fn f ds hp roots own:=λh=>zky Lp hf hb hn.symm (by rw[hn];exact Nat.le_of_ble_eq_true hl) h
theorem zpm{A:xJ}{fn:Func}{f:FuncId}{ds:List D}{hp:List (Nat×wT)}{roots:List D}{own:Bool}(hf:Tryz.prog.funcs[f]? =some fn)(hb:fn.body=some (sQ fn))(hn:fn.ntmps=A.n)(hl:Nat.ble ds.length A.n=true):zoQ A fn f ds hp roots own:=λh=>zmj Lp hf hb hn.symm (by rw[hn];exact Nat.le_of_ble_eq_true hl) h
abbrev LP(A:xJ)(fn:Func)(path:List Nat)(cur n:Nat)(σ:St)(K:Ex→St→Prop):Prop:=zaG (den Tryz.prog Ev A (sub path (sQ fn)) cur) A (V5 A cur) n σ K
abbrev sK(A:xJ)(fn:Func)(path:List Nat)(cur:Nat)(K:Ex→St→Prop):=zoB Tryz.prog Ev A (sub path (sQ fn)) cur K
abbrev iK(A:xJ)(fn:Func)(path:List Nat)(cur n:Nat)(K:Ex→St→Prop):=zkq (den Tryz.prog Ev A (sub path (sQ fn)) cur) A (V5 A cur) n K
abbrev eK(fn:Func)(R:D→Prop):=znL Ev fn.results.toList R
abbrev eH(fn:Func)(roots:List D)(own:Bool)(R:D→List (Nat×wT)→Prop):=Ma Ev fn.results.toList roots own R
abbrev VD:=D→List (Nat×wT)→Prop
abbrev TV0:=Value→Prop
abbrev yC:=D→Prop
abbrev pB(c:zQ)(r:List D):List D:=dI c.kind:: .sl .int c.vars:: .sl .int c.consts::dI c.n::dS c.rows:: .sl .lit c.lits::r
abbrev aS(c:zF)(r:List D):List D:=.sl .var c.vars:: .sl .con c.cons::dI c.goal::dI c.var::r
abbrev wO:=mB Tryz.prog
abbrev cV:=zio Tryz.prog
abbrev zX:=zjQ Tryz.prog
abbrev Lq:=zjR Tryz.prog
abbrev c3Q:=zjS Tryz.prog
abbrev aD:=Ent Tryz.prog
end Go.Proofs.YteimklbiapnfhaaGreat
namespace Go.Proofs.YteimklbiapnfhaaGreat
open Go.RowKit
set_option linter.unusedVariables false
set_option linter.unusedSimpArgs false
set_option maxRecDepth 100000
variable[Lo]
def Nx:xJ:= {own:=[],live:=[],n:=12}
theorem E7(a:zF)(R:yC):FD Nx Tryz.f16 [dM a] R=
 (zX ot [dM a] .int λb=>
 zN (!decide (b=0))
 (R (.tup [dS ([]:List (List Int)),dI b]))
 (zX rL [dM a] (.list (.list .int)) λc=>
 R (.tup [dS c,dI 0]))):=by kernel_rfl
theorem Gb(a:zF):yY Nx Tryz.f16 ol [dM a]:=xA Tryz.func16 (by kernel_rfl) Tryz.ntmps16 rfl
def Lr:xJ:= {own:=[],live:=[],n:=20}
theorem Ba(c:zF)(a b:List (List Int))(R:yC):FD Lr Tryz.f17 [dM c,dS a,dS b] R=
 (zX ou [dM c,.sl (.list (.list .int)) ([a,b])] .int λd=>
 zN (!decide (d=0))
 (R (.tup [dS ([]:List (List Int)),dI d]))
 (zX xV [dS a,.clo fU none [.iptr [dS b] 0]] (.list (.list .int)) λe=>
 R (.tup [dS e,dI 0]))):=by kernel_rfl
theorem E8(a:zF)(b c:List (List Int)):yY Lr Tryz.f17 mG [dM a,dS b,dS c]:=xA Tryz.func17 (by kernel_rfl) Tryz.ntmps17 rfl
def ZG:xJ:= {own:=[9],live:=[(0,([5,19,20,21],[]))],n:=30}
def aE(a b:List (List Int))(R:yC)(c:Nat)(d:Int):Prop:=LP ZG Tryz.f34 [1,1,0,1,0,0] 0 c ⟨[(5,.iptr [dS b] 0),(19,dS a),(20,dI (a.length:Int)),(21,dI d)],[]⟩ (zH 0 (sK ZG Tryz.f34 [1,1,1] 0 (eK Tryz.f34 R)))
theorem WE(b c:List (List Int))(R:yC)(d:Nat)(a:Int):aE b c R (d+1) a=
 (zN (decide (a<(b.length:Int)))
 (wC a b.length=true∧
 zX xM [.sl .int (zG (.list .int) b a.toNat),.clo dA none [.iptr [dS c] 0,.iptr [dI a] 0]] .bool λe=>
 zN e
 (R (.tup [dB false,dI 0]))
 (aE b c R d (xF (a+1))))
 (R (.tup [dB true,dI 0]))):=by kernel_rfl
theorem Gc(c:zF)(a b:List (List Int))(R:yC):FD ZG Tryz.f34 [dM c,dS a,dS b] R=
 (zX ou [dM c,.sl (.list (.list .int)) ([a,b])] .int λd=>
 zN (!decide (d=0))
 (R (.tup [dB false,dI d]))
 (∃n0,aE a b R n0 0)):=by kernel_rfl
theorem JA(a:zF)(b c:List (List Int)):yY ZG Tryz.f34 fR [dM a,dS b,dS c]:=xA Tryz.func34 (by kernel_rfl) Tryz.ntmps34 rfl
def Qw:xJ:= {own:=[],live:=[],n:=16}
theorem Gd(b:zF)(a:List (List Int))(R:yC):FD Qw Tryz.f35 [dM b,dS a] R=
 (zX ou [dM b,.sl (.list (.list .int)) ([a])] .int λc=>
 zN (!decide (c=0))
 (R (.tup [dB false,dI c]))
 (zX zS [dS a] .bool λd=>
 R (.tup [dB d,dI 0]))):=by kernel_rfl
theorem JB(a:zF)(b:List (List Int)):yY Qw Tryz.f35 fS [dM a,dS b]:=xA Tryz.func35 (by kernel_rfl) Tryz.ntmps35 rfl
def Ny:xJ:= {own:=[],live:=[],n:=9}
theorem E9(a:zF)(b:List (List Int))(R:yC):FD Ny Tryz.f36 [dM a,dS b] R=
 (zX ou [dM a,.sl (.list (.list .int)) ([b])] .int λc=>
 R (dI c)):=by kernel_rfl
theorem Ge(a:zF)(b:List (List Int)):yY Ny Tryz.f36 rB [dM a,dS b]:=xA Tryz.func36 (by kernel_rfl) Tryz.ntmps36 rfl
def mJ:xJ:= {own:=[3,5,6,26,30],live:=[(0,([3,9,10,11],[3])),(2,([3,5,6,7,9,10,11],[3,5,6]))],n:=33}
def YL(a:zF)(R:yC)(c:Nat)(b:Int)(d:Nat)(e:Int)(f:List (List Int))(g:List Int):Prop:=LP mJ Tryz.f49 [1,1,0,1,0,0,1,1,0,0,1,1,0,1,0,0] 2 d ⟨[(3,.own 3),(5,.ptr 5 0),(6,.own 6),(7,dI e),(9,.sl .var a.vars),(10,dI (a.vars.length:Int)),(11,dI b)],[(3,.row 62 (.list .int) f),(5,.cells [.str ((zG .var a.vars b.toNat).name),dI ((zG .var a.vars b.toNat).lo),dI ((zG .var a.vars b.toNat).hi)]),(6,.row 3 .int g)]⟩ (zH 2 (sK mJ Tryz.f49 [1,1,0,1,0,0,1,1,0,0,1,1,1] 1 (zH 1 (sK mJ Tryz.f49 [1,1,0,1,0,0,1,1,1] 0 (iK mJ Tryz.f49 [1,1,0,1,0,0] 0 c (zH 0 (sK mJ Tryz.f49 [1,1,1] 0 (eK Tryz.f49 R))))))))
def YM(a:zF)(R:yC)(b:Nat)(c:Int)(d:List (List Int)):Prop:=LP mJ Tryz.f49 [1,1,0,1,0,0] 0 b ⟨[(3,.own 3),(9,.sl .var a.vars),(10,dI (a.vars.length:Int)),(11,dI c)],[(3,.row 62 (.list .int) d)]⟩ (zH 0 (sK mJ Tryz.f49 [1,1,1] 0 (eK Tryz.f49 R)))
theorem JC(c:zF)(R:yC)(f:Nat)(d:Int)(g:Nat)(a:Int)(e:List (List Int))(b:List Int):YL c R f d (g+1) a e b=
 (zN (decide (a≤((zG .var c.vars d.toNat).hi)))
 (zL .int (b.length+([a]).length)=true∧
 YL c R f d g (xF (a+1)) e (b++([a])))
 (zL (.list .int) (e.length+([b]).length)=true∧
 YM c R f (xF (d+1)) (e++([b])))):=by kernel_rfl
theorem JD(a:zF)(R:yC)(d:Nat)(b:Int)(c:List (List Int)):YM a R (d+1) b c=
 (zN (decide (b<(a.vars.length:Int)))
 (wC b a.vars.length=true∧
 ∃n2,YL a R d b n2 ((zG .var a.vars b.toNat).lo) c ([]:List Int))
 (R (dS c))):=by kernel_rfl
theorem Bb(a:zF)(R:yC):FD mJ Tryz.f49 [dM a] R=
 (∃n0,YM a R n0 0 ([]:List (List Int))):=by kernel_rfl
theorem Da(a:zF):yY mJ Tryz.f49 rL [dM a]:=xA Tryz.func49 (by kernel_rfl) Tryz.ntmps49 rfl
def YN:xJ:= {own:=[],live:=[(0,([2,14,15,16],[]))],n:=27}
def ZH(a:zF)(b:List (List (List Int)))(R:yC)(c:Nat)(d:Int):Prop:=LP YN Tryz.f50 [1,1,0,1,0,0] 0 c ⟨[(2,.iptr (aS a []) 0),(14,.sl (.list (.list .int)) b),(15,dI (b.length:Int)),(16,dI d)],[]⟩ (zH 0 (sK YN Tryz.f50 [1,1,1] 0 (eK Tryz.f50 R)))
theorem VE(c:zF)(a:List (List (List Int)))(R:yC)(d:Nat)(b:Int):ZH c a R (d+1) b=
 (zN (decide (b<(a.length:Int)))
 (wC b a.length=true∧
 zX YH [dM c,dS (zG (.list (.list .int)) a b.toNat)] .int λe=>
 zN (!decide (e=0))
 (R (dI e))
 (ZH c a R d (xF (b+1))))
 (R (dI 0))):=by kernel_rfl
theorem Db(a:zF)(b:List (List (List Int)))(R:yC):FD YN Tryz.f50 [dM a,.sl (.list (.list .int)) b] R=
 (zX ot [dM a] .int λc=>
 zN (!decide (c=0))
 (R (dI c))
 (∃n0,ZH a b R n0 0)):=by kernel_rfl
theorem Gf(a:zF)(b:List (List (List Int))):yY YN Tryz.f50 ou [dM a,.sl (.list (.list .int)) b]:=xA Tryz.func50 (by kernel_rfl) Tryz.ntmps50 rfl
def mK:xJ:= {own:=[5,8,31,36],live:=[(0,([1,5,11,12,13],[5])),(2,([1,5,6,8,11,12,13,18,19,20],[5,8]))],n:=39}
def bB(a:List (List Int))(c:FuncId)(d:List D)(R:yC)(e:Nat)(b:Int)(f:Nat)(g:Int)(h:List (List Int))(i:List Int):Prop:=LP mK Tryz.f51 [1,1,0,1,0,0,1,1,0,0,1,1,0,1,0,0] 2 f ⟨[(1,.clo c (some [.bool]) d),(5,.own 5),(6,dI b),(8,.own 8),(11,dS a),(12,dI (a.length:Int)),(13,dI b),(18,.sl .int (zG (.list .int) a b.toNat)),(19,dI ((zG (.list .int) a b.toNat).length:Int)),(20,dI g)],[(5,.row 62 (.list .int) h),(8,.row 3 .int i)]⟩ (zH 2 (sK mK Tryz.f51 [1,1,0,1,0,0,1,1,0,0,1,1,1] 1 (zH 1 (sK mK Tryz.f51 [1,1,0,1,0,0,1,1,1] 0 (iK mK Tryz.f51 [1,1,0,1,0,0] 0 e (zH 0 (sK mK Tryz.f51 [1,1,1] 0 (eK Tryz.f51 R))))))))
def YO(a:List (List Int))(b:FuncId)(c:List D)(R:yC)(d:Nat)(e:Int)(f:List (List Int)):Prop:=LP mK Tryz.f51 [1,1,0,1,0,0] 0 d ⟨[(1,.clo b (some [.bool]) c),(5,.own 5),(11,dS a),(12,dI (a.length:Int)),(13,dI e)],[(5,.row 62 (.list .int) f)]⟩ (zH 0 (sK mK Tryz.f51 [1,1,1] 0 (eK Tryz.f51 R)))
theorem JE(b:List (List Int))(d:FuncId)(f:List D)(R:yC)(h:Nat)(a:Int)(i:Nat)(c:Int)(g:List (List Int))(e:List Int):bB b d f R h a (i+1) c g e=
 (zN (decide (c<((zG (.list .int) b a.toNat).length:Int)))
 (wC c (zG (.list .int) b a.toNat).length=true∧
 aD d∧
 zX d ([dI a,dI (zG .int (zG (.list .int) b a.toNat) c.toNat)]++f) .bool λj=>
 zN j
 (zL .int (e.length+([zG .int (zG (.list .int) b a.toNat) c.toNat]).length)=true∧
 bB b d f R h a i (xF (c+1)) g (e++([zG .int (zG (.list .int) b a.toNat) c.toNat])))
 (bB b d f R h a i (xF (c+1)) g e))
 (zL (.list .int) (g.length+([e]).length)=true∧
 YO b d f R h (xF (a+1)) (g++([e])))):=by kernel_rfl
theorem JF(a:List (List Int))(d:FuncId)(e:List D)(R:yC)(f:Nat)(b:Int)(c:List (List Int)):YO a d e R (f+1) b c=
 (zN (decide (b<(a.length:Int)))
 (wC b a.length=true∧
 ∃n2,bB a d e R f b n2 0 c ([]:List Int))
 (R (dS c))):=by kernel_rfl
theorem Bc(a:List (List Int))(b:FuncId)(c:List D)(R:yC):FD mK Tryz.f51 [dS a,.clo b (some [.bool]) c] R=
 (∃n0,YO a b c R n0 0 ([]:List (List Int))):=by kernel_rfl
theorem Dc(a:List (List Int))(b:FuncId)(c:List D):yY mK Tryz.f51 xV [dS a,.clo b (some [.bool]) c]:=xA Tryz.func51 (by kernel_rfl) Tryz.ntmps51 rfl
def Qx:xJ:= {own:=[],live:=[],n:=12}
theorem Gg(a c:Int)(b:List (List Int))(R:yC):FD Qx Tryz.f52 [dI a,dI c,.iptr [dS b] 0] R=
 (wC a b.length=true∧
 zX yH [.sl .int (zG (.list .int) b a.toNat),dI c] .bool λd=>
 R (dB d)):=by kernel_rfl
theorem JG(a b:Int)(c:List (List Int)):yY Qx Tryz.f52 fU [dI a,dI b,.iptr [dS c] 0]:=xA Tryz.func52 (by kernel_rfl) Tryz.ntmps52 rfl
def UQ:xJ:= {own:=[],live:=[],n:=12}
theorem Ls(c:Int)(a:List (List Int))(b:Int)(R:yC):FD UQ Tryz.f70 [dI c,.iptr [dS a] 0,.iptr [dI b] 0] R=
 (wC b a.length=true∧
 zX yH [.sl .int (zG (.list .int) a b.toNat),dI c] .bool λd=>
 R (dB (!d))):=by kernel_rfl
theorem Md(a:Int)(b:List (List Int))(c:Int):yY UQ Tryz.f70 dA [dI a,.iptr [dS b] 0,.iptr [dI c] 0]:=xA Tryz.func70 (by kernel_rfl) Tryz.ntmps70 rfl
def Nz:xJ:= {own:=[],live:=[],n:=5}
theorem Dd(a:List (List Int))(R:yC):FD Nz Tryz.f71 [dS a] R=
 (zX uL [dS a,.clo aB none []] .bool λb=>
 R (dB b)):=by kernel_rfl
theorem Gh(a:List (List Int)):yY Nz Tryz.f71 zS [dS a]:=xA Tryz.func71 (by kernel_rfl) Tryz.ntmps71 rfl
def qD:xJ:= {own:=[7],live:=[(0,([1,2,17,18,19],[])),(2,([33,34,35],[])),(4,([9,10,33,34,35],[]))],n:=56}
def ZI(a:List (List Int))(R:yC)(c:Nat)(b:Int)(d:Nat)(e:Int):Prop:=LP qD Tryz.f92 [1,1,1,0,1,0,0,1,1,0,0,1,1,0,0] 4 d ⟨[(9,.sl .int (zG (.list .int) a b.toNat)),(10,dI e),(33,dS a),(34,dI (a.length:Int)),(35,dI b)],[]⟩ (zH 4 (zH 3 (sK qD Tryz.f92 [1,1,1,0,1,0,0,1,1,1] 2 (iK qD Tryz.f92 [1,1,1,0,1,0,0] 2 c (zH 2 (sK qD Tryz.f92 [1,1,1,1] 0 (eK Tryz.f92 R)))))))
def ZJ(a:List (List Int))(R:yC)(b:Nat)(c:Int):Prop:=LP qD Tryz.f92 [1,1,1,0,1,0,0] 2 b ⟨[(33,dS a),(34,dI (a.length:Int)),(35,dI c)],[]⟩ (zH 2 (sK qD Tryz.f92 [1,1,1,1] 0 (eK Tryz.f92 R)))
def ZK(a:zF)(b:List (List Int))(R:yC)(c:Nat)(d:Int):Prop:=LP qD Tryz.f92 [1,1,0,1,0,0] 0 c ⟨[(1,dS b),(2,.iptr (aS a []) 0),(17,dS b),(18,dI (b.length:Int)),(19,dI d)],[]⟩ (zH 0 (sK qD Tryz.f92 [1,1,1] 0 (eK Tryz.f92 R)))
theorem VF(a:List (List Int))(R:yC)(d:Nat)(b:Int)(e:Nat)(c:Int):ZI a R d b (e+1) c=
 (zN (decide (c<((zG (.list .int) a b.toNat).length:Int)))
 (wC c (zG (.list .int) a b.toNat).length=true∧
 wC (xF (c-1)) (zG (.list .int) a b.toNat).length=true∧
 zN (decide ((zG .int (zG (.list .int) a b.toNat) c.toNat)≤(zG .int (zG (.list .int) a b.toNat) ((xF (c-1)).toNat))))
 (R (dI 4))
 (ZI a R d b e (xF (c+1))))
 (ZJ a R d (xF (b+1)))):=by kernel_rfl
theorem VG(a:List (List Int))(R:yC)(c:Nat)(b:Int):ZJ a R (c+1) b=
 (zN (decide (b<(a.length:Int)))
 (wC b a.length=true∧
 ∃n4,ZI a R c b n4 1)
 (R (dI 0))):=by kernel_rfl
theorem VH(b:zF)(c:List (List Int))(R:yC)(d:Nat)(a:Int):ZK b c R (d+1) a=
 (zN (decide (a<(c.length:Int)))
 (wC a c.length=true∧
 wC a b.vars.length=true∧
 zX xM [.sl .int (zG (.list .int) c a.toNat),.clo aC none [.iptr [.str ((zG .var b.vars a.toNat).name),dI ((zG .var b.vars a.toNat).lo),dI ((zG .var b.vars a.toNat).hi)] 0]] .bool λe=>
 zN e
 (R (dI 3))
 (ZK b c R d (xF (a+1))))
 (∃n2,ZJ c R n2 0)):=by kernel_rfl
theorem De(a:zF)(b:List (List Int))(R:yC):FD qD Tryz.f92 [dM a,dS b] R=
 (zN (!decide ((b.length:Int)=(a.vars.length:Int)))
 (R (dI 1))
 (∃n0,ZK a b R n0 0)):=by kernel_rfl
theorem Gi(a:zF)(b:List (List Int)):yY qD Tryz.f92 YH [dM a,dS b]:=xA Tryz.func92 (by kernel_rfl) Tryz.ntmps92 rfl
def VI:xJ:= {own:=[3,16],live:=[(0,([3,6,7,8],[3]))],n:=19}
def XW(a:List (List Int))(R:yC)(b:Nat)(c:Int)(d:List (List Int)):Prop:=LP VI Tryz.f94 [1,1,0,1,0,0] 0 b ⟨[(3,.own 3),(6,dS a),(7,dI (a.length:Int)),(8,dI c)],[(3,.row 62 (.list .int) d)]⟩ (zH 0 (sK VI Tryz.f94 [1,1,1] 0 (eK Tryz.f94 R)))
theorem Gj(a:List (List Int))(R:yC)(e:Nat)(b:Int)(c:List (List Int)):XW a R (e+1) b c=
 (zN (decide (b<(a.length:Int)))
 (wC b a.length=true∧
 ∃d:List Int,cV wB [.sl .int (zG (.list .int) a b.toNat)] [] (.own 3000) [(3000,.row 3 .int d)]∧
 zL (.list .int) (c.length+([d]).length)=true∧
 XW a R e (xF (b+1)) (c++([d])))
 (R (dS c))):=by kernel_rfl
theorem za5(a:List (List Int))(R:yC):FD VI Tryz.f94 [dS a] R=
 (∃n0,XW a R n0 0 ([]:List (List Int))):=by kernel_rfl
theorem Bd(a:List (List Int)):yY VI Tryz.f94 tG [dS a]:=xA Tryz.func94 (by kernel_rfl) Tryz.ntmps94 rfl
def Re:xJ:= {own:=[],live:=[],n:=6}
theorem JH(a:List (List Int))(R:yC):FD Re Tryz.f97 [dS a] R=
 ((a.length:Int)=(a.length:Int)∧
 0≤(a.length:Int)∧
 zL (.list .int) ((a.length:Int).toNat)=true∧
 R (dS (List.replicate ((a.length:Int).toNat) (Ty.dflt (.list .int))))):=by kernel_rfl
theorem Lt(a:List (List Int)):yY Re Tryz.f97 yM [dS a]:=xA Tryz.func97 (by kernel_rfl) Tryz.ntmps97 rfl
def Rf:xJ:= {own:=[],live:=[],n:=6}
theorem JI(a:List Int)(R:yC):FD Rf Tryz.f123 [.sl .int a] R=
 (R (dB (decide ((a.length:Int)=0)))):=by kernel_rfl
theorem Lu(a:List Int):yY Rf Tryz.f123 aB [.sl .int a]:=xA Tryz.func123 (by kernel_rfl) Tryz.ntmps123 rfl
def Rg:xJ:= {own:=[],live:=[],n:=14}
theorem JJ(b:Int)(a:vF)(R:yC):FD Rg Tryz.f139 [dI b,.iptr [.str a.name,dI a.lo,dI a.hi] 0] R=
 (zN (decide (b<a.lo))
 (R (dB true))
 (R (dB (decide (a.hi<b))))):=by kernel_rfl
theorem Lv(b:Int)(a:vF):yY Rg Tryz.f139 aC [dI b,.iptr [.str a.name,dI a.lo,dI a.hi] 0]:=xA Tryz.func139 (by kernel_rfl) Tryz.ntmps139 rfl
end Go.Proofs.YteimklbiapnfhaaGreat
namespace Go.Proofs.YteimklbiapnfhaaGreat
open Go.RowKit
set_option linter.unusedVariables false
set_option linter.unusedSimpArgs false
set_option maxRecDepth 100000
variable[Lo]
def fu:xJ:= {own:=[],live:=[],n:=9}
theorem Xy(a:List Int)(b:Int)(R:yC):FD fu Tryz.f53 [.sl .int a,dI b] R=
 (zX ov [.sl .int a,dI b] .int λc=>
 R (dB (decide (0≤c)))):=by kernel_rfl
theorem Xe(a:List Int)(b:Int):yY fu Tryz.f53 yH [.sl .int a,dI b]:=xA Tryz.func53 (by kernel_rfl) Tryz.ntmps53 rfl
def jK:xJ:= {own:=[],live:=[],n:=9}
theorem ZL(a:List Int)(b:FuncId)(c:List D)(R:yC):FD jK Tryz.f69 [.sl .int a,.clo b (some [.bool]) c] R=
 (zX rM [.sl .int a,.clo b (some [.bool]) c] .int λd=>
 R (dB (decide (0≤d)))):=by kernel_rfl
theorem Zs(a:List Int)(b:FuncId)(c:List D):yY jK Tryz.f69 xM [.sl .int a,.clo b (some [.bool]) c]:=xA Tryz.func69 (by kernel_rfl) Tryz.ntmps69 rfl
def pK:xJ:= {own:=[],live:=[],n:=9}
theorem gH(a:List zC)(b:FuncId)(c:List D)(R:yC):FD pK Tryz.f72 [.sl .lit a,.clo b (some [.bool]) c] R=
 (zX vT [.sl .lit a,.clo b (some [.bool]) c] .int λd=>
 R (dB (decide (0≤d)))):=by kernel_rfl
theorem gA(a:List zC)(b:FuncId)(c:List D):yY pK Tryz.f72 xZ [.sl .lit a,.clo b (some [.bool]) c]:=xA Tryz.func72 (by kernel_rfl) Tryz.ntmps72 rfl
def ox:xJ:= {own:=[],live:=[(0,([0,1,7,8],[]))],n:=19}
def kD(a:List Int)(b:Int)(R:yC)(c:Nat)(d:Int):Prop:=LP ox Tryz.f93 [1,0,1,0,0] 0 c ⟨[(0,.sl .int a),(1,dI b),(7,dI (a.length:Int)),(8,dI d)],[]⟩ (zH 0 (sK ox Tryz.f93 [1,1] 0 (eK Tryz.f93 R)))
theorem gI(b:List Int)(c:Int)(R:yC)(d:Nat)(a:Int):kD b c R (d+1) a=
 (zN (decide (a<(b.length:Int)))
 (wC a b.length=true∧
 zN (decide (c=(zG .int b a.toNat)))
 (R (dI a))
 (kD b c R d (xF (a+1))))
 (R (dI (-1)))):=by kernel_rfl
theorem Vc(a:List Int)(b:Int)(R:yC):FD ox Tryz.f93 [.sl .int a,dI b] R=
 (∃n0,kD a b R n0 0):=by kernel_rfl
theorem WF(a:List Int)(b:Int):yY ox Tryz.f93 ov [.sl .int a,dI b]:=xA Tryz.func93 (by kernel_rfl) Tryz.ntmps93 rfl
def kR:xJ:= {own:=[2,5,7],live:=[],n:=8}
theorem Zt(a:List zC)(R:VD):FH kR Tryz.f115 [.sl .lit a] [] [] true R=
 (∀b:Bool,(b=true→a=[])→
 zN b
 (R (.own 3000) [(3000,.row 67 .lit ([]:List zC))])
 (zL .lit (([]:List zC).length+a.length)=true∧
 R (.own 3000) [(3000,.row 67 .lit (([]:List zC)++a))])):=by kernel_rfl
theorem aT(a:List zC):Rb kR Tryz.f115 wY [.sl .lit a] [] [] true:=Qv Tryz.func115 (by kernel_rfl) Tryz.ntmps115 rfl
def wU:xJ:= {own:=[33],live:=[(0,([0,3,9,10,11],[])),(2,([6,25,26,27],[31536]))],n:=36}
def uW(a:List (List zC))(R:yC)(b:Nat)(c:Int)(d:List zC):Prop:=LP wU Tryz.f116 [1,1,1,1,0,1,0,0] 2 b ⟨[(6,.own 31536),(25,.sl (.list .lit) a),(26,dI (a.length:Int)),(27,dI c)],[(31536,.row 67 .lit d)]⟩ (zH 2 (sK wU Tryz.f116 [1,1,1,1,1] 0 (eK Tryz.f116 R)))
def uX(a:List (List zC))(R:yC)(b:Nat)(c d:Int):Prop:=LP wU Tryz.f116 [1,1,0,1,0,0] 0 b ⟨[(0,.sl (.list .lit) a),(3,dI c),(9,.sl (.list .lit) a),(10,dI (a.length:Int)),(11,dI d)],[]⟩ (zH 0 (sK wU Tryz.f116 [1,1,1] 0 (eK Tryz.f116 R)))
theorem dH(a:List (List zC))(R:yC)(d:Nat)(b:Int)(c:List zC):uW a R (d+1) b c=
 (zN (decide (b<(a.length:Int)))
 (wC b a.length=true∧
 zL .lit (c.length+(zG (.list .lit) a b.toNat).length)=true∧
 uW a R d (xF (b+1)) (c++(zG (.list .lit) a b.toNat)))
 (R (.sl .lit c))):=by kernel_rfl
theorem dJ(a:List (List zC))(R:yC)(d:Nat)(c b:Int):uX a R (d+1) c b=
 (zN (decide (b<(a.length:Int)))
 (wC b a.length=true∧
 zN (decide ((xF (c+((zG (.list .lit) a b.toNat).length:Int)))<0))
 (False)
 (uX a R d (xF (c+((zG (.list .lit) a b.toNat).length:Int))) (xF (b+1))))
 (∃e:List zC,cV vV [.nil,dI c] [] (.own 3000) [(3000,.row 67 .lit e)]∧
 ∃n2,uW a R n2 0 e)):=by kernel_rfl
theorem aU(a:List (List zC))(R:yC):FD wU Tryz.f116 [.sl (.list .lit) a] R=
 (∃n0,uX a R n0 0 0):=by kernel_rfl
theorem bC(a:List (List zC)):yY wU Tryz.f116 tC [.sl (.list .lit) a]:=xA Tryz.func116 (by kernel_rfl) Tryz.ntmps116 rfl
def rN:xJ:= {own:=[],live:=[(0,([0,1,7,8],[]))],n:=19}
def oP(a:List Int)(b:FuncId)(c:List D)(R:yC)(d:Nat)(e:Int):Prop:=LP rN Tryz.f121 [1,0,1,0,0] 0 d ⟨[(0,.sl .int a),(1,.clo b (some [.bool]) c),(7,dI (a.length:Int)),(8,dI e)],[]⟩ (zH 0 (sK rN Tryz.f121 [1,1] 0 (eK Tryz.f121 R)))
theorem kS(b:List Int)(c:FuncId)(d:List D)(R:yC)(e:Nat)(a:Int):oP b c d R (e+1) a=
 (zN (decide (a<(b.length:Int)))
 (wC a b.length=true∧
 aD c∧
 zX c ([dI (zG .int b a.toNat)]++d) .bool λf=>
 zN f
 (R (dI a))
 (oP b c d R e (xF (a+1))))
 (R (dI (-1)))):=by kernel_rfl
theorem Xf(a:List Int)(b:FuncId)(c:List D)(R:yC):FD rN Tryz.f121 [.sl .int a,.clo b (some [.bool]) c] R=
 (∃n0,oP a b c R n0 0):=by kernel_rfl
theorem Yy(a:List Int)(b:FuncId)(c:List D):yY rN Tryz.f121 rM [.sl .int a,.clo b (some [.bool]) c]:=xA Tryz.func121 (by kernel_rfl) Tryz.ntmps121 rfl
def mX:xJ:= {own:=[],live:=[],n:=9}
theorem cQ(a:List (List Int))(b:FuncId)(c:List D)(R:yC):FD mX Tryz.f122 [dS a,.clo b (some [.bool]) c] R=
 (zX tO [dS a,.clo b (some [.bool]) c] .int λd=>
 R (dB (decide (0≤d)))):=by kernel_rfl
theorem dK(a:List (List Int))(b:FuncId)(c:List D):yY mX Tryz.f122 uL [dS a,.clo b (some [.bool]) c]:=xA Tryz.func122 (by kernel_rfl) Tryz.ntmps122 rfl
def vU:xJ:= {own:=[],live:=[(0,([0,1,7,8],[]))],n:=19}
def tY(a:List zC)(b:FuncId)(c:List D)(R:yC)(d:Nat)(e:Int):Prop:=LP vU Tryz.f124 [1,0,1,0,0] 0 d ⟨[(0,.sl .lit a),(1,.clo b (some [.bool]) c),(7,dI (a.length:Int)),(8,dI e)],[]⟩ (zH 0 (sK vU Tryz.f124 [1,1] 0 (eK Tryz.f124 R)))
theorem qY(b:List zC)(c:FuncId)(d:List D)(R:yC)(e:Nat)(a:Int):tY b c d R (e+1) a=
 (zN (decide (a<(b.length:Int)))
 (wC a b.length=true∧
 aD c∧
 zX c ([dL (zG .lit b a.toNat)]++d) .bool λf=>
 zN f
 (R (dI a))
 (tY b c d R e (xF (a+1))))
 (R (dI (-1)))):=by kernel_rfl
theorem fW(a:List zC)(b:FuncId)(c:List D)(R:yC):FD vU Tryz.f124 [.sl .lit a,.clo b (some [.bool]) c] R=
 (∃n0,tY a b c R n0 0):=by kernel_rfl
theorem fF(a:List zC)(b:FuncId)(c:List D):yY vU Tryz.f124 vT [.sl .lit a,.clo b (some [.bool]) c]:=xA Tryz.func124 (by kernel_rfl) Tryz.ntmps124 rfl
def pX:xJ:= {own:=[],live:=[],n:=9}
theorem fi(a:List vF)(b:FuncId)(c:List D)(R:yC):FD pX Tryz.f130 [.sl .var a,.clo b (some [.bool]) c] R=
 (zX uB [.sl .var a,.clo b (some [.bool]) c] .int λd=>
 R (dB (decide (0≤d)))):=by kernel_rfl
theorem gJ(a:List vF)(b:FuncId)(c:List D):yY pX Tryz.f130 vO [.sl .var a,.clo b (some [.bool]) c]:=xA Tryz.func130 (by kernel_rfl) Tryz.ntmps130 rfl
def pY:xJ:= {own:=[],live:=[],n:=9}
theorem fj(a:List zC)(b:FuncId)(c:List D)(R:yC):FD pY Tryz.f135 [.sl .lit a,.clo b (some [.bool]) c] R=
 (zX uC [.sl .lit a,.clo b (some [.bool]) c] .int λd=>
 R (dB (decide (0≤d)))):=by kernel_rfl
theorem gK(a:List zC)(b:FuncId)(c:List D):yY pY Tryz.f135 wD [.sl .lit a,.clo b (some [.bool]) c]:=xA Tryz.func135 (by kernel_rfl) Tryz.ntmps135 rfl
def lG:xJ:= {own:=[],live:=[],n:=9}
theorem bD(a:List (List Int))(b:FuncId)(c:List D)(R:yC):FD lG Tryz.f137 [dS a,.clo b (some [.bool]) c] R=
 (zX tT [dS a,.clo b (some [.bool]) c] .int λd=>
 R (dB (decide (0≤d)))):=by kernel_rfl
theorem cR(a:List (List Int))(b:FuncId)(c:List D):yY lG Tryz.f137 yL [dS a,.clo b (some [.bool]) c]:=xA Tryz.func137 (by kernel_rfl) Tryz.ntmps137 rfl
def bE:xJ:= {own:=[2,5,7],live:=[],n:=8}
theorem Vd(a:List Int)(R:VD):FH bE Tryz.f140 [.sl .int a] [] [] true R=
 (∀b:Bool,(b=true→a=[])→
 zN b
 (R (.own 3000) [(3000,.row 3 .int ([]:List Int))])
 (zL .int (([]:List Int).length+a.length)=true∧
 R (.own 3000) [(3000,.row 3 .int (([]:List Int)++a))])):=by kernel_rfl
theorem WG(a:List Int):Rb bE Tryz.f140 wB [.sl .int a] [] [] true:=Qv Tryz.func140 (by kernel_rfl) Tryz.ntmps140 rfl
def oy:xJ:= {own:=[],live:=[(0,([0,1,12,13],[]))],n:=26}
def pD(a b:List Int)(R:yC)(c:Nat)(d:Int):Prop:=LP oy Tryz.f147 [1,1,0,1,0,0] 0 c ⟨[(0,.sl .int a),(1,.sl .int b),(12,dI (a.length:Int)),(13,dI d)],[]⟩ (zH 0 (sK oy Tryz.f147 [1,1,1] 0 (eK Tryz.f147 R)))
theorem gL(b c:List Int)(R:yC)(d:Nat)(a:Int):pD b c R (d+1) a=
 (zN (decide (a<(b.length:Int)))
 (wC a b.length=true∧
 wC a c.length=true∧
 zN (!decide ((zG .int b a.toNat)=(zG .int c a.toNat)))
 (R (dB false))
 (pD b c R d (xF (a+1))))
 (R (dB true))):=by kernel_rfl
theorem Ve(a b:List Int)(R:yC):FD oy Tryz.f147 [.sl .int a,.sl .int b] R=
 (zN (!decide ((a.length:Int)=(b.length:Int)))
 (R (dB false))
 (∃n0,pD a b R n0 0)):=by kernel_rfl
theorem WH(a b:List Int):yY oy Tryz.f147 yR [.sl .int a,.sl .int b]:=xA Tryz.func147 (by kernel_rfl) Tryz.ntmps147 rfl
def wZ:xJ:= {own:=[],live:=[(0,([0,1,7,8],[]))],n:=19}
def vX(a:List xI)(b:FuncId)(c:List D)(R:yC)(d:Nat)(e:Int):Prop:=LP wZ Tryz.f153 [1,0,1,0,0] 0 d ⟨[(0,.sl .term a),(1,.clo b (some [.bool]) c),(7,dI (a.length:Int)),(8,dI e)],[]⟩ (zH 0 (sK wZ Tryz.f153 [1,1] 0 (eK Tryz.f153 R)))
theorem sO(b:List xI)(c:FuncId)(d:List D)(R:yC)(e:Nat)(a:Int):vX b c d R (e+1) a=
 (zN (decide (a<(b.length:Int)))
 (wC a b.length=true∧
 aD c∧
 zX c ([.agg [dI ((zG .term b a.toNat).v),dI ((zG .term b a.toNat).times)]]++d) .bool λf=>
 zN f
 (R (dI a))
 (vX b c d R e (xF (a+1))))
 (R (dI (-1)))):=by kernel_rfl
theorem jM(a:List xI)(b:FuncId)(c:List D)(R:yC):FD wZ Tryz.f153 [.sl .term a,.clo b (some [.bool]) c] R=
 (∃n0,vX a b c R n0 0):=by kernel_rfl
theorem jG(a:List xI)(b:FuncId)(c:List D):yY wZ Tryz.f153 wF [.sl .term a,.clo b (some [.bool]) c]:=xA Tryz.func153 (by kernel_rfl) Tryz.ntmps153 rfl
def gM:xJ:= {own:=[2,5,7],live:=[],n:=8}
theorem Xg(a:List (List Int))(R:VD):FH gM Tryz.f157 [dS a] [] [] true R=
 (∀b:Bool,(b=true→a=[])→
 zN b
 (R (.own 3000) [(3000,.row 62 (.list .int) ([]:List (List Int)))])
 (zL (.list .int) (([]:List (List Int)).length+a.length)=true∧
 R (.own 3000) [(3000,.row 62 (.list .int) (([]:List (List Int))++a))])):=by kernel_rfl
theorem Yz(a:List (List Int)):Rb gM Tryz.f157 vQ [dS a] [] [] true:=Qv Tryz.func157 (by kernel_rfl) Tryz.ntmps157 rfl
def wS:xJ:= {own:=[],live:=[(0,([1,2,15,16,17],[]))],n:=32}
def xW(a b:List (List Int))(c:FuncId)(d:List D)(R:yC)(e:Nat)(f:Int):Prop:=LP wS Tryz.f159 [1,1,0,1,0,0] 0 e ⟨[(1,dS b),(2,.clo c (some [.bool]) d),(15,dS a),(16,dI (a.length:Int)),(17,dI f)],[]⟩ (zH 0 (sK wS Tryz.f159 [1,1,1] 0 (eK Tryz.f159 R)))
theorem wJ(b c:List (List Int))(d:FuncId)(e:List D)(R:yC)(f:Nat)(a:Int):xW b c d e R (f+1) a=
 (zN (decide (a<(b.length:Int)))
 (wC a b.length=true∧
 wC a c.length=true∧
 aD d∧
 zX d ([.sl .int (zG (.list .int) b a.toNat),.sl .int (zG (.list .int) c a.toNat)]++e) .bool λg=>
 zN (!g)
 (R (dB false))
 (xW b c d e R f (xF (a+1))))
 (R (dB true))):=by kernel_rfl
theorem sU(a b:List (List Int))(c:FuncId)(d:List D)(R:yC):FD wS Tryz.f159 [dS a,dS b,.clo c (some [.bool]) d] R=
 (zN (!decide ((a.length:Int)=(b.length:Int)))
 (R (dB false))
 (∃n0,xW a b c d R n0 0)):=by kernel_rfl
theorem slices_EqualFunc_api_Store_api_Store_int_int_sat(a b:List (List Int))(c:FuncId)(d:List D):yY wS Tryz.f159 zT [dS a,dS b,.clo c (some [.bool]) d]:=xA Tryz.func159 (by kernel_rfl) Tryz.ntmps159 rfl
def wQ:xJ:= {own:=[33],live:=[(0,([0,3,9,10,11],[])),(2,([6,25,26,27],[31536]))],n:=36}
def uM(a:List (List zC))(R:yC)(b:Nat)(c:Int)(d:List zC):Prop:=LP wQ Tryz.f161 [1,1,1,1,0,1,0,0] 2 b ⟨[(6,.own 31536),(25,.sl (.list .lit) a),(26,dI (a.length:Int)),(27,dI c)],[(31536,.row 67 .lit d)]⟩ (zH 2 (sK wQ Tryz.f161 [1,1,1,1,1] 0 (eK Tryz.f161 R)))
def uN(a:List (List zC))(R:yC)(b:Nat)(c d:Int):Prop:=LP wQ Tryz.f161 [1,1,0,1,0,0] 0 b ⟨[(0,.sl (.list .lit) a),(3,dI c),(9,.sl (.list .lit) a),(10,dI (a.length:Int)),(11,dI d)],[]⟩ (zH 0 (sK wQ Tryz.f161 [1,1,1] 0 (eK Tryz.f161 R)))
theorem fX(a:List (List zC))(R:yC)(d:Nat)(b:Int)(c:List zC):uM a R (d+1) b c=
 (zN (decide (b<(a.length:Int)))
 (wC b a.length=true∧
 zL .lit (c.length+(zG (.list .lit) a b.toNat).length)=true∧
 uM a R d (xF (b+1)) (c++(zG (.list .lit) a b.toNat)))
 (R (.sl .lit c))):=by kernel_rfl
theorem fY(a:List (List zC))(R:yC)(d:Nat)(c b:Int):uN a R (d+1) c b=
 (zN (decide (b<(a.length:Int)))
 (wC b a.length=true∧
 zN (decide ((xF (c+((zG (.list .lit) a b.toNat).length:Int)))<0))
 (False)
 (uN a R d (xF (c+((zG (.list .lit) a b.toNat).length:Int))) (xF (b+1))))
 (∃e:List zC,cV wI [.nil,dI c] [] (.own 3000) [(3000,.row 67 .lit e)]∧
 ∃n2,uM a R n2 0 e)):=by kernel_rfl
theorem bF(a:List (List zC))(R:yC):FD wQ Tryz.f161 [.sl (.list .lit) a] R=
 (∃n0,uN a R n0 0 0):=by kernel_rfl
theorem cS(a:List (List zC)):yY wQ Tryz.f161 yF [.sl (.list .lit) a]:=xA Tryz.func161 (by kernel_rfl) Tryz.ntmps161 rfl
def tP:xJ:= {own:=[],live:=[(0,([0,1,7,8],[]))],n:=19}
def qB(a:List (List Int))(b:FuncId)(c:List D)(R:yC)(d:Nat)(e:Int):Prop:=LP tP Tryz.f166 [1,0,1,0,0] 0 d ⟨[(0,dS a),(1,.clo b (some [.bool]) c),(7,dI (a.length:Int)),(8,dI e)],[]⟩ (zH 0 (sK tP Tryz.f166 [1,1] 0 (eK Tryz.f166 R)))
theorem nU(b:List (List Int))(c:FuncId)(d:List D)(R:yC)(e:Nat)(a:Int):qB b c d R (e+1) a=
 (zN (decide (a<(b.length:Int)))
 (wC a b.length=true∧
 aD c∧
 zX c ([.sl .int (zG (.list .int) b a.toNat)]++d) .bool λf=>
 zN f
 (R (dI a))
 (qB b c d R e (xF (a+1))))
 (R (dI (-1)))):=by kernel_rfl
theorem Zu(a:List (List Int))(b:FuncId)(c:List D)(R:yC):FD tP Tryz.f166 [dS a,.clo b (some [.bool]) c] R=
 (∃n0,qB a b c R n0 0):=by kernel_rfl
theorem aV(a:List (List Int))(b:FuncId)(c:List D):yY tP Tryz.f166 tO [dS a,.clo b (some [.bool]) c]:=xA Tryz.func166 (by kernel_rfl) Tryz.ntmps166 rfl
def uD:xJ:= {own:=[],live:=[(0,([0,1,7,8],[]))],n:=19}
def sJ(a:List vF)(b:FuncId)(c:List D)(R:yC)(d:Nat)(e:Int):Prop:=LP uD Tryz.f171 [1,0,1,0,0] 0 d ⟨[(0,.sl .var a),(1,.clo b (some [.bool]) c),(7,dI (a.length:Int)),(8,dI e)],[]⟩ (zH 0 (sK uD Tryz.f171 [1,1] 0 (eK Tryz.f171 R)))
theorem pL(b:List vF)(c:FuncId)(d:List D)(R:yC)(e:Nat)(a:Int):sJ b c d R (e+1) a=
 (zN (decide (a<(b.length:Int)))
 (wC a b.length=true∧
 aD c∧
 zX c ([dV (zG .var b a.toNat)]++d) .bool λf=>
 zN f
 (R (dI a))
 (sJ b c d R e (xF (a+1))))
 (R (dI (-1)))):=by kernel_rfl
theorem dN(a:List vF)(b:FuncId)(c:List D)(R:yC):FD uD Tryz.f171 [.sl .var a,.clo b (some [.bool]) c] R=
 (∃n0,sJ a b c R n0 0):=by kernel_rfl
theorem fZ(a:List vF)(b:FuncId)(c:List D):yY uD Tryz.f171 uB [.sl .var a,.clo b (some [.bool]) c]:=xA Tryz.func171 (by kernel_rfl) Tryz.ntmps171 rfl
def uE:xJ:= {own:=[],live:=[(0,([0,1,7,8],[]))],n:=19}
def sL(a:List zC)(b:FuncId)(c:List D)(R:yC)(d:Nat)(e:Int):Prop:=LP uE Tryz.f175 [1,0,1,0,0] 0 d ⟨[(0,.sl .lit a),(1,.clo b (some [.bool]) c),(7,dI (a.length:Int)),(8,dI e)],[]⟩ (zH 0 (sK uE Tryz.f175 [1,1] 0 (eK Tryz.f175 R)))
theorem pM(b:List zC)(c:FuncId)(d:List D)(R:yC)(e:Nat)(a:Int):sL b c d R (e+1) a=
 (zN (decide (a<(b.length:Int)))
 (wC a b.length=true∧
 aD c∧
 zX c ([dL (zG .lit b a.toNat)]++d) .bool λf=>
 zN f
 (R (dI a))
 (sL b c d R e (xF (a+1))))
 (R (dI (-1)))):=by kernel_rfl
theorem dO(a:List zC)(b:FuncId)(c:List D)(R:yC):FD uE Tryz.f175 [.sl .lit a,.clo b (some [.bool]) c] R=
 (∃n0,sL a b c R n0 0):=by kernel_rfl
theorem eA(a:List zC)(b:FuncId)(c:List D):yY uE Tryz.f175 uC [.sl .lit a,.clo b (some [.bool]) c]:=xA Tryz.func175 (by kernel_rfl) Tryz.ntmps175 rfl
def tU:xJ:= {own:=[],live:=[(0,([0,1,7,8],[]))],n:=19}
def qK(a:List (List Int))(b:FuncId)(c:List D)(R:yC)(d:Nat)(e:Int):Prop:=LP tU Tryz.f176 [1,0,1,0,0] 0 d ⟨[(0,dS a),(1,.clo b (some [.bool]) c),(7,dI (a.length:Int)),(8,dI e)],[]⟩ (zH 0 (sK tU Tryz.f176 [1,1] 0 (eK Tryz.f176 R)))
theorem mY(b:List (List Int))(c:FuncId)(d:List D)(R:yC)(e:Nat)(a:Int):qK b c d R (e+1) a=
 (zN (decide (a<(b.length:Int)))
 (wC a b.length=true∧
 aD c∧
 zX c ([.sl .int (zG (.list .int) b a.toNat)]++d) .bool λf=>
 zN f
 (R (dI a))
 (qK b c d R e (xF (a+1))))
 (R (dI (-1)))):=by kernel_rfl
theorem ZM(a:List (List Int))(b:FuncId)(c:List D)(R:yC):FD tU Tryz.f176 [dS a,.clo b (some [.bool]) c] R=
 (∃n0,qK a b c R n0 0):=by kernel_rfl
theorem Zv(a:List (List Int))(b:FuncId)(c:List D):yY tU Tryz.f176 tT [dS a,.clo b (some [.bool]) c]:=xA Tryz.func176 (by kernel_rfl) Tryz.ntmps176 rfl
end Go.Proofs.YteimklbiapnfhaaGreat
namespace Go.Proofs.YteimklbiapnfhaaGreat
open Go.RowKit
set_option linter.unusedVariables false
set_option linter.unusedSimpArgs false
set_option maxRecDepth 100000
variable[Lo]
def YP:xJ:= {own:=[5],live:=[(1,([1,30,31,32],[]))],n:=75}
def ZN(a:zF)(R:yC)(b:Nat)(c:Int):Prop:=LP YP Tryz.f48 [1,1,1,0,1,0,0] 1 b ⟨[(1,.iptr (aS a []) 0),(30,.sl .con a.cons),(31,dI (a.cons.length:Int)),(32,dI c)],[]⟩ (zH 1 (sK YP Tryz.f48 [1,1,1,1] 0 (eK Tryz.f48 R)))
theorem VJ(a:zF)(R:yC)(c:Nat)(b:Int):ZN a R (c+1) b=
 (zN (decide (b<(a.cons.length:Int)))
 (wC b a.cons.length=true∧
 zX VB [dM a,dC (zG .con a.cons b.toNat)] .int λd=>
 zN (!decide (d=0))
 (R (dI d))
 (ZN a R c (xF (b+1))))
 (zN (decide (a.goal<0))
 (R (dI 7))
 (zN (decide (2<a.goal))
 (R (dI 7))
 (zN (decide (a.goal=0))
 (zN (!decide (a.var=0))
 (R (dI 1))
 (zN (!decide (a.goal=0))
 (zX tW [dI a.var,dI 0,dI (xF ((a.vars.length:Int)-1))] .bool λe=>
 zN (!e)
 (R (dI 5))
 (R (dI 0)))
 (R (dI 0))))
 (zN (!decide (a.goal=0))
 (zX tW [dI a.var,dI 0,dI (xF ((a.vars.length:Int)-1))] .bool λf=>
 zN (!f)
 (R (dI 5))
 (R (dI 0)))
 (R (dI 0))))))):=by kernel_rfl
theorem Df(a:zF)(R:yC):FD YP Tryz.f48 [dM a] R=
 (zN (decide ((a.vars.length:Int)=0))
 (R (dI 1))
 (zN (decide (6<(a.vars.length:Int)))
 (R (dI 2))
 (zN (decide (8<(a.cons.length:Int)))
 (R (dI 2))
 (zX XU [.sl .var a.vars] .int λb=>
 zN (!decide (b=0))
 (R (dI b))
 (∃n1,ZN a R n1 0))))):=by kernel_rfl
theorem Gk(a:zF):yY YP Tryz.f48 ot [dM a]:=xA Tryz.func48 (by kernel_rfl) Tryz.ntmps48 rfl
def Hu:xJ:= {own:=[],live:=[],n:=29}
theorem za6(a:zC)(b:Int)(R:yC):FD Hu Tryz.f74 [dL a,dI b] R=
 (zN (decide (a.op=1))
 (R (dB (decide (b≤a.n))))
 (zN (decide (a.op=2))
 (R (dB (decide (a.n≤b))))
 (zN (decide (a.op=3))
 (R (dB (decide (b=a.n))))
 (R (dB (!decide (b=a.n))))))):=by kernel_rfl
theorem Be(a:zC)(b:Int):yY Hu Tryz.f74 kN [dL a,dI b]:=xA Tryz.func74 (by kernel_rfl) Tryz.ntmps74 rfl
def XX:xJ:= {own:=[4],live:=[(0,([0,5,6,7],[]))],n:=49}
def YQ(a:List vF)(R:yC)(b:Nat)(c:Int):Prop:=LP XX Tryz.f89 [1,0,1,0,0] 0 b ⟨[(0,.sl .var a),(5,.sl .var a),(6,dI (a.length:Int)),(7,dI c)],[]⟩ (zH 0 (sK XX Tryz.f89 [1,1] 0 (eK Tryz.f89 R)))
theorem UR(a:List vF)(R:yC)(c:Nat)(b:Int):YQ a R (c+1) b=
 (zN (decide (b<(a.length:Int)))
 (wC b a.length=true∧
 zX T3 [.str ((zG .var a b.toNat).name)] .bool λd=>
 zN (!d)
 (R (dI 1))
 (OY 0 b a.length=true∧
 zX vO [.sl .var ((a.take b.toNat).drop 0),.clo ZD none [.iptr [.str ((zG .var a b.toNat).name),dI ((zG .var a b.toNat).lo),dI ((zG .var a b.toNat).hi)] 0]] .bool λe=>
 zN e
 (R (dI 6))
 (zX tW [dI ((zG .var a b.toNat).lo),dI (-50),dI 50] .bool λf=>
 zN (!f)
 (R (dI 3))
 (zX tW [dI ((zG .var a b.toNat).hi),dI (-50),dI 50] .bool λg=>
 zN (!g)
 (R (dI 3))
 (zN (decide (((zG .var a b.toNat).hi)<((zG .var a b.toNat).lo)))
 (R (dI 3))
 (zN (decide (6≤(xF (((zG .var a b.toNat).hi)-((zG .var a b.toNat).lo)))))
 (R (dI 2))
 (YQ a R c (xF (b+1)))))))))
 (R (dI 0))):=by kernel_rfl
theorem Bf(a:List vF)(R:yC):FD XX Tryz.f89 [.sl .var a] R=
 (∃n0,YQ a R n0 0):=by kernel_rfl
theorem Dg(a:List vF):yY XX Tryz.f89 XU [.sl .var a]:=xA Tryz.func89 (by kernel_rfl) Tryz.ntmps89 rfl
def VK:xJ:= {own:=[5,6,8],live:=[(1,([6,75,76,77],[]))],n:=94}
def XY(a:zQ)(R:yC)(b:Nat)(c:Int):Prop:=LP VK Tryz.f90 [1,1,1,1,0,1,0,0] 1 b ⟨[(6,.iptr [.clo ow none []] 0),(75,.sl .lit a.lits),(76,dI (a.lits.length:Int)),(77,dI c)],[]⟩ (zH 1 (sK VK Tryz.f90 [1,1,1,1,1] 0 (eK Tryz.f90 R)))
theorem Rh(a:zQ)(R:yC)(c:Nat)(b:Int):XY a R (c+1) b=
 (zN (decide (b<(a.lits.length:Int)))
 (wC b a.lits.length=true∧
 zN (decide (((zG .lit a.lits b.toNat).op)<1))
 (R (dI 7))
 (zN (decide (4<((zG .lit a.lits b.toNat).op)))
 (R (dI 7))
 (zX ow [dI ((zG .lit a.lits b.toNat).n)] .bool λd=>
 zN d
 (R (dI 3))
 (XY a R c (xF (b+1))))))
 (R (dI 0))):=by kernel_rfl
theorem za7(b:zF)(a:zQ)(R:yC):FD VK Tryz.f90 [dM b,dC a] R=
 (zN (decide (a.kind<1))
 (R (dI 7))
 (zN (decide (10<a.kind))
 (R (dI 7))
 (zN (decide (4<(a.vars.length:Int)))
 (R (dI 2))
 (zN (decide (4<(a.lits.length:Int)))
 (R (dI 2))
 (zN (decide (8<(a.consts.length:Int)))
 (R (dI 2))
 (zN (decide (20<(a.rows.length:Int)))
 (R (dI 2))
 (zX XV [dC a] .bool λc=>
 zN (!c)
 (R (dI 1))
 (zX xM [.sl .int a.vars,.clo bA none [.iptr (aS b []) 0]] .bool λd=>
 zN d
 (R (dI 5))
 (zX wD [.sl .lit a.lits,.clo YI none [.iptr [.clo bA none [.iptr (aS b []) 0]] 0]] .bool λe=>
 zN e
 (R (dI 5))
 (zX xM [.sl .int a.consts,.clo ow none []] .bool λf=>
 zN f
 (R (dI 3))
 (zX ow [dI a.n] .bool λg=>
 zN g
 (R (dI 3))
 (zX yL [dS a.rows,.clo YJ none [.iptr [.clo ow none []] 0]] .bool λh=>
 zN h
 (R (dI 3))
 (∃n1,XY a R n1 0))))))))))))):=by kernel_rfl
theorem Bg(a:zF)(b:zQ):yY VK Tryz.f90 VB [dM a,dC b]:=xA Tryz.func90 (by kernel_rfl) Tryz.ntmps90 rfl
def Qy:xJ:= {own:=[],live:=[],n:=15}
theorem Gl(a b c:Int)(R:yC):FD Qy Tryz.f91 [dI a,dI b,dI c] R=
 (zN (decide (b≤a))
 (R (dB (decide (a≤c))))
 (R (dB false))):=by kernel_rfl
theorem JK(a b c:Int):yY Qy Tryz.f91 tW [dI a,dI b,dI c]:=xA Tryz.func91 (by kernel_rfl) Tryz.ntmps91 rfl
def XZ:xJ:= {own:=[5,20],live:=[(0,([3,10,11,12],[30512]))],n:=26}
def YR(a:zQ)(R:yC)(b:Nat)(c:Int)(d:List Int):Prop:=LP XZ Tryz.f95 [1,1,0,1,0,0] 0 b ⟨[(3,.own 30512),(10,.sl .lit a.lits),(11,dI (a.lits.length:Int)),(12,dI c)],[(30512,.row 3 .int d)]⟩ (zH 0 (sK XZ Tryz.f95 [1,1,1] 0 (eK Tryz.f95 R)))
theorem JL(a:zQ)(R:yC)(d:Nat)(b:Int)(c:List Int):YR a R (d+1) b c=
 (zN (decide (b<(a.lits.length:Int)))
 (wC b a.lits.length=true∧
 zL .int (c.length+([(zG .lit a.lits b.toNat).var]).length)=true∧
 YR a R d (xF (b+1)) (c++([(zG .lit a.lits b.toNat).var])))
 (∃e:List Int,cV rW [.own 1000] [(1000,.row 3 .int c)] (.tup []) [(1000,.row 3 .int e)]∧
 ∃f:List Int,cV tX [.own 1000] [(1000,.row 3 .int e)] (.sl .int f) []∧
 R (.sl .int f))):=by kernel_rfl
theorem Bh(a:zQ)(R:yC):FD XZ Tryz.f95 [dC a] R=
 (∃b:List Int,cV wB [.sl .int a.vars] [] (.own 3000) [(3000,.row 3 .int b)]∧
 ∃n0,YR a R n0 0 b):=by kernel_rfl
theorem Dh(a:zQ):yY XZ Tryz.f95 qI [dC a]:=xA Tryz.func95 (by kernel_rfl) Tryz.ntmps95 rfl
def vA:xJ:= {own:=[12,45,97],live:=[(1,([2,5,7,25,26,27],[])),(3,([2,5,10,48,49],[45])),(5,([2,5,12,88,89],[12,1012000])),(7,([5,14,120,121],[]))],n:=166,nils:=[(12,(0,(3,.int)))],pubs:=[]}
def YS(a:zQ)(b:List Int)(R:yC)(c:Nat)(d e:Int):Prop:=LP vA Tryz.f96 [1,1,1,0,1,0,1,0,1,0,1,0,0] 1 c ⟨[(2,.iptr (pB a []) 0),(5,.clo yO none [.iptr [.sl .int b] 0,.iptr (pB a []) 0]),(7,dI d),(25,.sl .int a.consts),(26,dI (a.consts.length:Int)),(27,dI e)],[]⟩ (zH 1 (sK vA Tryz.f96 [1,1,1,0,1,0,1,0,1,1] 0 (zH 0 (sK vA Tryz.f96 [1,1,1,1] 0 (eK Tryz.f96 R)))))
def aF(a:zQ)(b:List Int)(R:yC)(c:Nat)(d e:Int):Prop:=LP vA Tryz.f96 [1,1,1,0,1,0,1,0,1,0,1,0,0] 1 c ⟨[(2,.iptr (pB a []) 0),(5,.clo yO none [.iptr [.sl .int b] 0,.iptr (pB a []) 0]),(7,dI d),(25,.sl .int a.consts),(26,dI (a.consts.length:Int)),(27,dI e)],[]⟩ (zH 1 (sK vA Tryz.f96 [1,1,1,0,1,0,1,0,1,1] 0 (zH 0 (sK vA Tryz.f96 [1,1,1,1] 0 (eK Tryz.f96 R)))))
def aG(a:zQ)(b:List Int)(R:yC)(c:Nat)(d e:Int):Prop:=LP vA Tryz.f96 [1,1,1,0,1,0,1,0,1,0,1,0,0] 1 c ⟨[(2,.iptr (pB a []) 0),(5,.clo yO none [.iptr [.sl .int b] 0,.iptr (pB a []) 0]),(7,dI d),(25,.sl .int a.consts),(26,dI (a.consts.length:Int)),(27,dI e)],[]⟩ (zH 1 (sK vA Tryz.f96 [1,1,1,0,1,0,1,0,1,1] 0 (zH 0 (sK vA Tryz.f96 [1,1,1,1] 0 (eK Tryz.f96 R)))))
def YT(a:zQ)(b:List Int)(R:yC)(c:Nat)(d:Int)(e:List (Int×Int)):Prop:=LP vA Tryz.f96 [1,1,1,0,1,0,1,1,1,0,1,0,1,0,0] 3 c ⟨[(2,.iptr (pB a []) 0),(5,.clo yO none [.iptr [.sl .int b] 0,.iptr (pB a []) 0]),(10,.own 45),(48,dI (a.vars.length:Int)),(49,dI d)],[(45,.mp .int .int e)]⟩ (zH 3 (sK vA Tryz.f96 [1,1,1,0,1,0,1,1,1,0,1,1] 0 (zH 0 (sK vA Tryz.f96 [1,1,1,1] 0 (eK Tryz.f96 R)))))
def YU(a:zQ)(b:List Int)(R:yC)(c:Nat)(d:Int)(e:List Int):Prop:=LP vA Tryz.f96 [1,1,1,0,1,0,1,1,1,1,1,1,1,0,1,0,1,0,0] 5 c ⟨[(2,.iptr (pB a []) 0),(5,.clo yO none [.iptr [.sl .int b] 0,.iptr (pB a []) 0]),(12,.ptr 12 0),(88,dI (a.vars.length:Int)),(89,dI d)],[(12,.cells [.own 1012000]),(1012000,.row 3 .int e)]⟩ (zH 5 (sK vA Tryz.f96 [1,1,1,0,1,0,1,1,1,1,1,1,1,0,1,1] 0 (zH 0 (sK vA Tryz.f96 [1,1,1,1] 0 (eK Tryz.f96 R)))))
def YV(a:zQ)(b:List Int)(R:yC)(c:Nat)(d e:Int):Prop:=LP vA Tryz.f96 [1,1,1,0,1,0,1,1,1,1,1,1,1,1,1,1,1,0,1,0,1,0,0] 7 c ⟨[(5,.clo yO none [.iptr [.sl .int b] 0,.iptr (pB a []) 0]),(14,dI d),(120,dI (((a.vars.take (a.vars.length:Int).toNat).drop 1).length:Int)),(121,dI e)],[]⟩ (zH 7 (sK vA Tryz.f96 [1,1,1,0,1,0,1,1,1,1,1,1,1,1,1,1,1,0,1,1] 0 (zH 0 (sK vA Tryz.f96 [1,1,1,1] 0 (eK Tryz.f96 R)))))
theorem JM(a:zQ)(c:List Int)(R:yC)(e:Nat)(d b:Int):YS a c R (e+1) d b=
 (zN (decide (b<(a.consts.length:Int)))
 (wC b a.consts.length=true∧
 zX yO [dI b,.iptr [.sl .int c] 0,.iptr (pB a []) 0] .int λf=>
 YS a c R e (xF (d+(xF ((zG .int a.consts b.toNat)*f)))) (xF (b+1)))
 (zX iL [dC a,dI d] .bool λg=>
 R (dB g))):=by kernel_rfl
theorem Me(a:zQ)(c:List Int)(R:yC)(e:Nat)(d b:Int):aF a c R (e+1) d b=
 (zN (decide (b<(a.consts.length:Int)))
 (wC b a.consts.length=true∧
 zX yO [dI b,.iptr [.sl .int c] 0,.iptr (pB a []) 0] .int λf=>
 aF a c R e (xF (d+(xF ((zG .int a.consts b.toNat)*f)))) (xF (b+1)))
 (zX iL [dC a,dI d] .bool λg=>
 R (dB g))):=by kernel_rfl
theorem Mf(a:zQ)(c:List Int)(R:yC)(e:Nat)(d b:Int):aG a c R (e+1) d b=
 (zN (decide (b<(a.consts.length:Int)))
 (wC b a.consts.length=true∧
 zX yO [dI b,.iptr [.sl .int c] 0,.iptr (pB a []) 0] .int λf=>
 aG a c R e (xF (d+(xF ((zG .int a.consts b.toNat)*f)))) (xF (b+1)))
 (zX iL [dC a,dI d] .bool λg=>
 R (dB g))):=by kernel_rfl
theorem JN(a:zQ)(d:List Int)(R:yC)(e:Nat)(b:Int)(c:List (Int×Int)):YT a d R (e+1) b c=
 (zN (decide (b<(a.vars.length:Int)))
 (zX yO [dI b,.iptr [.sl .int d] 0,.iptr (pB a []) 0] .int λf=>
 Es (c.length+1)=true∧
 YT a d R e (xF (b+1)) (oa .int .int f b c))
 (R (dB (decide ((c.length:Int)=(a.vars.length:Int)))))):=by kernel_rfl
theorem JO(a:zQ)(d:List Int)(R:yC)(e:Nat)(b:Int)(c:List Int):YU a d R (e+1) b c=
 (zN (decide (b<(a.vars.length:Int)))
 (zX yO [dI b,.iptr [.sl .int d] 0,.iptr (pB a []) 0] .int λf=>
 zL .int (c.length+([f]).length)=true∧
 YU a d R e (xF (b+1)) (c++([f])))
 (zX yL [dS a.rows,.clo ZE none [.iptr [.sl .int c] 0]] .bool λg=>
 R (dB g))):=by kernel_rfl
theorem JP(a:zQ)(b:List Int)(R:yC)(e:Nat)(c d:Int):YV a b R (e+1) c d=
 (zN (decide (d<(((a.vars.take (a.vars.length:Int).toNat).drop 1).length:Int)))
 (zX yO [dI (xF (1+d)),.iptr [.sl .int b] 0,.iptr (pB a []) 0] .int λf=>
 YV a b R e (if f>c then f else c) (xF (d+1)))
 (zX yO [dI 0,.iptr [.sl .int b] 0,.iptr (pB a []) 0] .int λg=>
 R (dB (decide (g=c))))):=by kernel_rfl
theorem Bi(a:zQ)(b:List Int)(R:yC):FD vA Tryz.f96 [dC a,.sl .int b] R=
 (zN (decide (a.kind=1))
 (∃n1,YS a b R n1 0 0)
 (zN (decide (a.kind=2))
 (∃n1_2,aF a b R n1_2 0 0)
 (zN (decide (a.kind=3))
 (∃n1_3,aG a b R n1_3 0 0)
 (zN (decide (a.kind=4))
 (∃n3,YT a b R n3 0 ([]:List (Int×Int)))
 (zN (decide (a.kind=5))
 (zX yO [dI 0,.iptr [.sl .int b] 0,.iptr (pB a []) 0] .int λd=>
 zX tW [dI d,dI 0,dI (xF ((a.consts.length:Int)-1))] .bool λe=>
 zN e
 (zX yO [dI 0,.iptr [.sl .int b] 0,.iptr (pB a []) 0] .int λc=>
 wC c a.consts.length=true∧
 zX yO [dI 1,.iptr [.sl .int b] 0,.iptr (pB a []) 0] .int λf=>
 R (dB (decide ((zG .int a.consts c.toNat)=f))))
 (R (dB false)))
 (zN (decide (a.kind=6))
 (∃n5,YU a b R n5 0 ([]:List Int))
 (zN (decide (a.kind=7))
 (zX yO [dI 0,.iptr [.sl .int b] 0,.iptr (pB a []) 0] .int λg=>
 zX yO [dI 1,.iptr [.sl .int b] 0,.iptr (pB a []) 0] .int λh=>
 zX yO [dI 2,.iptr [.sl .int b] 0,.iptr (pB a []) 0] .int λi=>
 R (dB (decide ((xF (g*h))=i))))
 (zN (decide (a.kind=8))
 (zX yO [dI 1,.iptr [.sl .int b] 0,.iptr (pB a []) 0] .int λj=>
 OY 1 (a.vars.length:Int) a.vars.length=true∧
 ∃n7,YV a b R n7 j 0)
 (zN (decide (a.kind=9))
 (zX wD [.sl .lit a.lits,.clo qJ none [.iptr [.sl .int b] 0]] .bool λk=>
 R (dB k))
 (wC 0 a.lits.length=true∧
 zX qJ [dL (zG .lit a.lits 0),.iptr [.sl .int b] 0] .bool λl=>
 zN l
 (zX yO [dI 0,.iptr [.sl .int b] 0,.iptr (pB a []) 0] .int λm=>
 zN (decide (m=1))
 (R (dB true))
 (wC 0 a.lits.length=true∧
 zX qJ [dL (zG .lit a.lits 0),.iptr [.sl .int b] 0] .bool λn=>
 zN (!n)
 (zX yO [dI 0,.iptr [.sl .int b] 0,.iptr (pB a []) 0] .int λo=>
 R (dB (decide (o=0))))
 (R (dB false))))
 (wC 0 a.lits.length=true∧
 zX qJ [dL (zG .lit a.lits 0),.iptr [.sl .int b] 0] .bool λp=>
 zN (!p)
 (zX yO [dI 0,.iptr [.sl .int b] 0,.iptr (pB a []) 0] .int λq=>
 R (dB (decide (q=0))))
 (R (dB false))))))))))))):=by kernel_rfl
theorem Di(a:zQ)(b:List Int):yY vA Tryz.f96 hZ [dC a,.sl .int b]:=xA Tryz.func96 (by kernel_rfl) Tryz.ntmps96 rfl
def Qz:xJ:= {own:=[],live:=[],n:=9}
theorem Gm(b a:vF)(R:yC):FD Qz Tryz.f131 [dV b,.iptr [.str a.name,dI a.lo,dI a.hi] 0] R=
 (R (dB (decide (b.name=a.name)))):=by kernel_rfl
theorem JQ(b a:vF):yY Qz Tryz.f131 ZD [dV b,.iptr [.str a.name,dI a.lo,dI a.hi] 0]:=xA Tryz.func131 (by kernel_rfl) Tryz.ntmps131 rfl
def NA:xJ:= {own:=[],live:=[],n:=11}
theorem Dj(b:Int)(a:zF)(R:yC):FD NA Tryz.f132 [dI b,.iptr (aS a []) 0] R=
 (zX tW [dI b,dI 0,dI (xF ((a.vars.length:Int)-1))] .bool λc=>
 R (dB (!c))):=by kernel_rfl
theorem Gn(b:Int)(a:zF):yY NA Tryz.f132 bA [dI b,.iptr (aS a []) 0]:=xA Tryz.func132 (by kernel_rfl) Tryz.ntmps132 rfl
def NB:xJ:= {own:=[],live:=[],n:=6}
theorem Dk(a:Int)(R:yC):FD NB Tryz.f133 [dI a] R=
 (zX tW [dI a,dI (-1000),dI 1000] .bool λb=>
 R (dB (!b))):=by kernel_rfl
theorem Gp(a:Int):yY NB Tryz.f133 ow [dI a]:=xA Tryz.func133 (by kernel_rfl) Tryz.ntmps133 rfl
def Lw:xJ:= {own:=[3],live:=[],n:=66}
theorem Bj(a:zQ)(R:yC):FD Lw Tryz.f134 [dC a] R=
 (zX T4 [dC a] (.pr .int (.pr .int (.pr .int (.pr .int .int)))) λb=>
 zX tW [dI (a.vars.length:Int),dI b.1,dI b.2.1] .bool λc=>
 zN (!c)
 (R (dB false))
 (zX Yw [dI (a.consts.length:Int),dI b.2.2.1] .bool λd=>
 zN (!d)
 (R (dB false))
 (zX Yw [dI (a.rows.length:Int),dI b.2.2.2.1] .bool λe=>
 zN (!e)
 (R (dB false))
 (zX Yw [dI (a.lits.length:Int),dI b.2.2.2.2] .bool λf=>
 zN (!f)
 (R (dB false))
 (zN (decide (a.kind=5))
 (zN (decide ((a.consts.length:Int)=0))
 (R (dB false))
 (zN (decide (3<a.kind))
 (zN (!decide (a.n=0))
 (R (dB false))
 (zX yL [dS a.rows,.clo oO none [.iptr (pB a []) 0]] .bool λg=>
 R (dB (!g))))
 (zX yL [dS a.rows,.clo oO none [.iptr (pB a []) 0]] .bool λh=>
 R (dB (!h)))))
 (zN (decide (3<a.kind))
 (zN (!decide (a.n=0))
 (R (dB false))
 (zX yL [dS a.rows,.clo oO none [.iptr (pB a []) 0]] .bool λi=>
 R (dB (!i))))
 (zX yL [dS a.rows,.clo oO none [.iptr (pB a []) 0]] .bool λj=>
 R (dB (!j))))))))):=by kernel_rfl
theorem Dl(a:zQ):yY Lw Tryz.f134 XV [dC a]:=xA Tryz.func134 (by kernel_rfl) Tryz.ntmps134 rfl
def NC:xJ:= {own:=[],live:=[],n:=8}
theorem Dm(b:zC)(a:FuncId)(c:List D)(R:yC):FD NC Tryz.f136 [dL b,.iptr [.clo a (some [.bool]) c] 0] R=
 (aD a∧
 zX a ([dI b.var]++c) .bool λd=>
 R (dB d)):=by kernel_rfl
theorem Gq(a:zC)(b:FuncId)(c:List D):yY NC Tryz.f136 YI [dL a,.iptr [.clo b (some [.bool]) c] 0]:=xA Tryz.func136 (by kernel_rfl) Tryz.ntmps136 rfl
def ND:xJ:= {own:=[],live:=[],n:=7}
theorem Dn(a:List Int)(b:FuncId)(c:List D)(R:yC):FD ND Tryz.f138 [.sl .int a,.iptr [.clo b (some [.bool]) c] 0] R=
 (zX xM [.sl .int a,.clo b (some [.bool]) c] .bool λd=>
 R (dB d)):=by kernel_rfl
theorem Gr(a:List Int)(b:FuncId)(c:List D):yY ND Tryz.f138 YJ [.sl .int a,.iptr [.clo b (some [.bool]) c] 0]:=xA Tryz.func138 (by kernel_rfl) Tryz.ntmps138 rfl
def QA:xJ:= {own:=[],live:=[],n:=13}
theorem Gs(b:Int)(c:List Int)(a:zQ)(R:yC):FD QA Tryz.f143 [dI b,.iptr [.sl .int c] 0,.iptr (pB a []) 0] R=
 (wC b a.vars.length=true∧
 wC (zG .int a.vars b.toNat) c.length=true∧
 R (dI (zG .int c ((zG .int a.vars b.toNat).toNat)))):=by kernel_rfl
theorem JR(b:Int)(c:List Int)(a:zQ):yY QA Tryz.f143 yO [dI b,.iptr [.sl .int c] 0,.iptr (pB a []) 0]:=xA Tryz.func143 (by kernel_rfl) Tryz.ntmps143 rfl
def QB:xJ:= {own:=[],live:=[],n:=11}
theorem Gt(a:zC)(b:List Int)(R:yC):FD QB Tryz.f144 [dL a,.iptr [.sl .int b] 0] R=
 (wC a.var b.length=true∧
 zX kN [dL a,dI (zG .int b a.var.toNat)] .bool λc=>
 R (dB c)):=by kernel_rfl
theorem JS(a:zC)(b:List Int):yY QB Tryz.f144 qJ [dL a,.iptr [.sl .int b] 0]:=xA Tryz.func144 (by kernel_rfl) Tryz.ntmps144 rfl
def Hv:xJ:= {own:=[],live:=[],n:=23}
theorem za8(a:zQ)(b:Int)(R:yC):FD Hv Tryz.f145 [dC a,dI b] R=
 (zN (decide (a.kind=1))
 (R (dB (decide (b≤a.n))))
 (zN (decide (a.kind=2))
 (R (dB (decide (b=a.n))))
 (R (dB (!decide (b=a.n)))))):=by kernel_rfl
theorem Bk(a:zQ)(b:Int):yY Hv Tryz.f145 iL [dC a,dI b]:=xA Tryz.func145 (by kernel_rfl) Tryz.ntmps145 rfl
def QC:xJ:= {own:=[],live:=[],n:=7}
theorem Gu(a b:List Int)(R:yC):FD QC Tryz.f146 [.sl .int a,.iptr [.sl .int b] 0] R=
 (zX yR [.sl .int a,.sl .int b] .bool λc=>
 R (dB c)):=by kernel_rfl
theorem JT(a b:List Int):yY QC Tryz.f146 ZE [.sl .int a,.iptr [.sl .int b] 0]:=xA Tryz.func146 (by kernel_rfl) Tryz.ntmps146 rfl
def Do:xJ:= {own:=[2],live:=[],n:=32}
theorem zcV(a:zQ)(R:yC):FD Do Tryz.f172 [dC a] R=
 (zN (decide (a.kind=1))
 (R (.agg [dI 1,dI 4,dI (a.vars.length:Int),dI 0,dI 0]))
 (zN (decide (a.kind=2))
 (R (.agg [dI 1,dI 4,dI (a.vars.length:Int),dI 0,dI 0]))
 (zN (decide (a.kind=3))
 (R (.agg [dI 1,dI 4,dI (a.vars.length:Int),dI 0,dI 0]))
 (zN (decide (a.kind=4))
 (R (.agg [dI 1,dI 4,dI 0,dI 0,dI 0]))
 (zN (decide (a.kind=5))
 (R (.agg [dI 2,dI 2,dI (-1),dI 0,dI 0]))
 (zN (decide (a.kind=6))
 (R (.agg [dI 1,dI 4,dI 0,dI (-1),dI 0]))
 (zN (decide (a.kind=7))
 (R (.agg [dI 3,dI 3,dI 0,dI 0,dI 0]))
 (zN (decide (a.kind=8))
 (R (.agg [dI 2,dI 4,dI 0,dI 0,dI 0]))
 (zN (decide (a.kind=9))
 (R (.agg [dI 0,dI 0,dI 0,dI 0,dI (-1)]))
 (R (.agg [dI 1,dI 1,dI 0,dI 0,dI 1]))))))))))):=by kernel_rfl
theorem za9(a:zQ):yY Do Tryz.f172 T4 [dC a]:=xA Tryz.func172 (by kernel_rfl) Tryz.ntmps172 rfl
def Dp:xJ:= {own:=[],live:=[],n:=12}
theorem zcW(b a:Int)(R:yC):FD Dp Tryz.f173 [dI b,dI a] R=
 (zN (decide (a=(-1)))
 (R (dB true))
 (R (dB (decide (b=a))))):=by kernel_rfl
theorem zba(a b:Int):yY Dp Tryz.f173 Yw [dI a,dI b]:=xA Tryz.func173 (by kernel_rfl) Tryz.ntmps173 rfl
def QD:xJ:= {own:=[],live:=[],n:=10}
theorem Gv(b:List Int)(a:zQ)(R:yC):FD QD Tryz.f174 [.sl .int b,.iptr (pB a []) 0] R=
 (R (dB (!decide ((b.length:Int)=(a.vars.length:Int))))):=by kernel_rfl
theorem JU(b:List Int)(a:zQ):yY QD Tryz.f174 oO [.sl .int b,.iptr (pB a []) 0]:=xA Tryz.func174 (by kernel_rfl) Tryz.ntmps174 rfl
end Go.Proofs.YteimklbiapnfhaaGreat
namespace Go.Proofs.YteimklbiapnfhaaGreat
open Go.RowKit
set_option linter.unusedVariables false
set_option linter.unusedSimpArgs false
set_option maxRecDepth 100000
variable[Lo]
def oz:xJ:= {own:=[],live:=[(0,([1,2,5],[]))],n:=25}
def pE(a:zF)(b:List (List zC))(R:yC)(c:Nat)(d:Int):Prop:=LP oz Tryz.f14 [1,1,0,1,0,0] 0 c ⟨[(1,.sl (.list .lit) b),(2,.iptr (aS a []) 0),(5,dI d)],[]⟩ (zH 0 (sK oz Tryz.f14 [1,1,1] 0 (eK Tryz.f14 R)))
theorem gN(c:zF)(a:List (List zC))(R:yC)(d:Nat)(b:Int):pE c a R (d+1) b=
 (zN (decide (b<(a.length:Int)))
 (wC b a.length=true∧
 zX o5 [dM c,.sl .lit (zG (.list .lit) a b.toNat)] .int λe=>
 zN (!decide (e=0))
 (R (dI e))
 (pE c a R d (xF (b+1))))
 (R (dI 0))):=by kernel_rfl
theorem Vf(b:zF)(a:List (List zC))(R:yC):FD oz Tryz.f14 [dM b,.sl (.list .lit) a] R=
 (zN (decide (600<(a.length:Int)))
 (R (dI 2))
 (∃n0,pE b a R n0 0)):=by kernel_rfl
theorem WI(a:zF)(b:List (List zC)):yY oz Tryz.f14 oh [dM a,.sl (.list .lit) b]:=xA Tryz.func14 (by kernel_rfl) Tryz.ntmps14 rfl
def wP:xJ:= {own:=[],live:=[(0,([1,2,3,4,9],[])),(2,([1,2,3,4,9,10],[])),(4,([1,2,3,4,9,12],[]))],n:=74}
def pS(a:zF)(b:Bool)(c:List (List zC))(R:yC)(d e:Nat)(f:List (List Int))(g:Bool)(h:Int):Prop:=LP wP Tryz.f15 [1,0,1,0,0,1,0,1,1,1,0,0] 4 e ⟨[(1,dS f),(2,dB b),(3,.sl (.list .lit) c),(4,.iptr (aS a []) 0),(9,dB g),(12,dI h)],[]⟩ (zH 4 (zH 1 (iK wP Tryz.f15 [1,0,1,0,0] 0 d (zH 0 (sK wP Tryz.f15 [1,1] 0 (eK Tryz.f15 R))))))
def rX(a:zF)(b:Bool)(c:List (List zC))(R:yC)(d e:Nat)(f:List (List Int))(g:Bool)(h:Int):Prop:=LP wP Tryz.f15 [1,0,1,0,0,1,0,1,1,1,0,0] 4 e ⟨[(1,dS f),(2,dB b),(3,.sl (.list .lit) c),(4,.iptr (aS a []) 0),(9,dB g),(12,dI h)],[]⟩ (zH 4 (zH 1 (iK wP Tryz.f15 [1,0,1,0,0] 0 d (zH 0 (sK wP Tryz.f15 [1,1] 0 (eK Tryz.f15 R))))))
def tZ(a:zF)(b:Bool)(c:List (List zC))(R:yC)(d e:Nat)(f:List (List Int))(g:Bool)(h:Int):Prop:=LP wP Tryz.f15 [1,0,1,0,0,1,0,1,0,1,0,0] 2 e ⟨[(1,dS f),(2,dB b),(3,.sl (.list .lit) c),(4,.iptr (aS a []) 0),(9,dB g),(10,dI h)],[]⟩ (zH 2 (sK wP Tryz.f15 [1,0,1,0,0,1,0,1,1] 1 (zH 1 (iK wP Tryz.f15 [1,0,1,0,0] 0 d (zH 0 (sK wP Tryz.f15 [1,1] 0 (eK Tryz.f15 R)))))))
def xP(a:zF)(b:Bool)(c:List (List zC))(R:yC)(d:Nat)(e:List (List Int))(f:Bool):Prop:=LP wP Tryz.f15 [1,0,1,0,0] 0 d ⟨[(1,dS e),(2,dB b),(3,.sl (.list .lit) c),(4,.iptr (aS a []) 0),(9,dB f)],[]⟩ (zH 0 (sK wP Tryz.f15 [1,1] 0 (eK Tryz.f15 R)))
theorem RD(b:zF)(c:Bool)(d:List (List zC))(R:yC)(e h:Nat)(a:List (List Int))(f:Bool)(g:Int):pS b c d R e (h+1) a f g=
 (zN (decide (0≤g))
 (zN c
 (zX xY [dS a] .bool λj=>
 zN (!j)
 (zX rU [dM b,dI g,dS a] (.list (.list .int)) λi=>
 zX yI [dS a,dS i] .bool λk=>
 zN (!k)
 (pS b c d R e h i true (xF (g-1)))
 (pS b c d R e h a f (xF (g-1))))
 (xP b c d R e a f))
 (xP b c d R e a f))
 (xP b c d R e a f)):=by kernel_rfl
theorem US(b:zF)(c:Bool)(d:List (List zC))(R:yC)(e h:Nat)(a:List (List Int))(f:Bool)(g:Int):rX b c d R e (h+1) a f g=
 (zN (decide (0≤g))
 (zN c
 (zX xY [dS a] .bool λj=>
 zN (!j)
 (zX rU [dM b,dI g,dS a] (.list (.list .int)) λi=>
 zX yI [dS a,dS i] .bool λk=>
 zN (!k)
 (rX b c d R e h i true (xF (g-1)))
 (rX b c d R e h a f (xF (g-1))))
 (xP b c d R e a f))
 (xP b c d R e a f))
 (xP b c d R e a f)):=by kernel_rfl
theorem fk(a:zF)(e:Bool)(b:List (List zC))(R:yC)(f h:Nat)(c:List (List Int))(g:Bool)(d:Int):tZ a e b R f (h+1) c g d=
 (zN (decide (0≤d))
 (zX xY [dS c] .bool λj=>
 zN (!j)
 (wC d b.length=true∧
 zX hJ [dS c,.sl .lit (zG (.list .lit) b d.toNat)] (.list (.list .int)) λi=>
 zX yI [dS c,dS i] .bool λk=>
 zN (!k)
 (tZ a e b R f h i true (xF (d-1)))
 (tZ a e b R f h c g (xF (d-1))))
 (∃n4,pS a e b R f n4 c g (xF ((a.cons.length:Int)-1))))
 (∃n4_2,rX a e b R f n4_2 c g (xF ((a.cons.length:Int)-1)))):=by kernel_rfl
theorem Yj(c:zF)(d:Bool)(b:List (List zC))(R:yC)(e:Nat)(a:List (List Int))(f:Bool):xP c d b R (e+1) a f=
 (zN f
 (zX xY [dS a] .bool λg=>
 zN (!g)
 (∃n2,tZ c d b R e n2 a false (xF ((b.length:Int)-1)))
 (zX xY [dS a] .bool λh=>
 zN h
 (zX uQ [dI (a.length:Int)] (.list (.list .int)) λi=>
 R (dS i))
 (R (dS a))))
 (zX xY [dS a] .bool λj=>
 zN j
 (zX uQ [dI (a.length:Int)] (.list (.list .int)) λk=>
 R (dS k))
 (R (dS a)))):=by kernel_rfl
theorem Mg(a:zF)(b:List (List Int))(c:Bool)(d:List (List zC))(R:yC):FD wP Tryz.f15 [dM a,dS b,dB c,.sl (.list .lit) d] R=
 (∃n0,xP a c d R n0 b true):=by kernel_rfl
theorem O3(a:zF)(b:List (List Int))(c:Bool)(d:List (List zC)):yY wP Tryz.f15 kL [dM a,dS b,dB c,.sl (.list .lit) d]:=xA Tryz.func15 (by kernel_rfl) Tryz.ntmps15 rfl
def sY:xJ:= {own:=[],live:=[(0,([2,3,5],[])),(2,([2,3,6],[]))],n:=74}
def mL(a b:zF)(R:yC)(c:Nat)(d:Int):Prop:=LP sY Tryz.f26 [1,1,1,0,1,0,0] 2 c ⟨[(2,.iptr (aS a []) 0),(3,.iptr (aS b []) 0),(6,dI d)],[]⟩ (zH 2 (sK sY Tryz.f26 [1,1,1,1] 0 (eK Tryz.f26 R)))
def mM(a b:zF)(R:yC)(c:Nat)(d:Int):Prop:=LP sY Tryz.f26 [1,1,0,1,0,0] 0 c ⟨[(2,.iptr (aS a []) 0),(3,.iptr (aS b []) 0),(5,dI d)],[]⟩ (zH 0 (sK sY Tryz.f26 [1,1,1] 0 (eK Tryz.f26 R)))
theorem cF(b c:zF)(R:yC)(d:Nat)(a:Int):mL b c R (d+1) a=
 (zN (decide (a<(b.cons.length:Int)))
 (wC a b.cons.length=true∧
 wC a c.cons.length=true∧
 zX jN [dC (zG .con b.cons a.toNat),dC (zG .con c.cons a.toNat)] .bool λe=>
 zN (!e)
 (R (dB false))
 (mL b c R d (xF (a+1))))
 (R (dB true))):=by kernel_rfl
theorem cG(b c:zF)(R:yC)(d:Nat)(a:Int):mM b c R (d+1) a=
 (zN (decide (a<(b.vars.length:Int)))
 (wC a b.vars.length=true∧
 wC a c.vars.length=true∧
 zN (!decide ((zG .var b.vars a.toNat)=(zG .var c.vars a.toNat)))
 (R (dB false))
 (mM b c R d (xF (a+1))))
 (∃n2,mL b c R n2 0)):=by kernel_rfl
theorem T5(a b:zF)(R:yC):FD sY Tryz.f26 [dM a,dM b] R=
 (zN (!decide ((a.vars.length:Int)=(b.vars.length:Int)))
 (R (dB false))
 (zN (!decide ((a.cons.length:Int)=(b.cons.length:Int)))
 (R (dB false))
 (zN (!decide (a.goal=b.goal))
 (R (dB false))
 (zN (!decide (a.var=b.var))
 (R (dB false))
 (∃n0,mM a b R n0 0))))):=by kernel_rfl
theorem UT(a b:zF):yY sY Tryz.f26 pI [dM a,dM b]:=xA Tryz.func26 (by kernel_rfl) Tryz.ntmps26 rfl
def lM:xJ:= {own:=[],live:=[(0,([0,1,5],[]))],n:=27}
def mN(a b:List (List Int))(R:yC)(c:Nat)(d:Int):Prop:=LP lM Tryz.f27 [1,1,0,1,0,0] 0 c ⟨[(0,dS a),(1,dS b),(5,dI d)],[]⟩ (zH 0 (sK lM Tryz.f27 [1,1,1] 0 (eK Tryz.f27 R)))
theorem cH(b c:List (List Int))(R:yC)(d:Nat)(a:Int):mN b c R (d+1) a=
 (zN (decide (a<(b.length:Int)))
 (wC a b.length=true∧
 wC a c.length=true∧
 zX uR [.sl .int (zG (.list .int) b a.toNat),.sl .int (zG (.list .int) c a.toNat)] .bool λe=>
 zN (!e)
 (R (dB false))
 (mN b c R d (xF (a+1))))
 (R (dB true))):=by kernel_rfl
theorem T6(a b:List (List Int))(R:yC):FD lM Tryz.f27 [dS a,dS b] R=
 (zN (!decide ((a.length:Int)=(b.length:Int)))
 (R (dB false))
 (∃n0,mN a b R n0 0)):=by kernel_rfl
theorem UU(a b:List (List Int)):yY lM Tryz.f27 yI [dS a,dS b]:=xA Tryz.func27 (by kernel_rfl) Tryz.ntmps27 rfl
def mO:xJ:= {own:=[],live:=[(0,([0,1,5],[]))],n:=26}
def rY(a b:List zC)(R:yC)(c:Nat)(d:Int):Prop:=LP mO Tryz.f28 [1,1,0,1,0,0] 0 c ⟨[(0,.sl .lit a),(1,.sl .lit b),(5,dI d)],[]⟩ (zH 0 (sK mO Tryz.f28 [1,1,1] 0 (eK Tryz.f28 R)))
theorem qL(b c:List zC)(R:yC)(d:Nat)(a:Int):rY b c R (d+1) a=
 (zN (decide (a<(b.length:Int)))
 (wC a b.length=true∧
 wC a c.length=true∧
 zN (!decide ((zG .lit b a.toNat)=(zG .lit c a.toNat)))
 (R (dB false))
 (rY b c R d (xF (a+1))))
 (R (dB true))):=by kernel_rfl
theorem Zg(a b:List zC)(R:yC):FD mO Tryz.f28 [.sl .lit a,.sl .lit b] R=
 (zN (!decide ((a.length:Int)=(b.length:Int)))
 (R (dB false))
 (∃n0,rY a b R n0 0)):=by kernel_rfl
theorem bG(a b:List zC):yY mO Tryz.f28 wR [.sl .lit a,.sl .lit b]:=xA Tryz.func28 (by kernel_rfl) Tryz.ntmps28 rfl
def wK:xJ:= {own:=[5],live:=[(0,([1,3,4],[])),(2,([1,3,4,5,6],[5])),(4,([1,3,7],[]))],n:=114}
def o6(a:zF)(R:yC)(c:Nat)(b:Int)(d:Nat)(e:Int):Prop:=LP wK Tryz.f41 [1,1,1,1,0,1,0,0,1,0,0,1,1,0,1,0,0] 2 d ⟨[(1,.iptr (aS a []) 0),(3,dI (a.vars.length:Int)),(4,dI b),(5,.ptr 5 0),(6,dI e)],[(5,.cells [.str ((zG .var a.vars b.toNat).name),dI ((zG .var a.vars b.toNat).lo),dI ((zG .var a.vars b.toNat).hi)])]⟩ (zH 2 (sK wK Tryz.f41 [1,1,1,1,0,1,0,0,1,0,0,1,1,1] 1 (zH 1 (sK wK Tryz.f41 [1,1,1,1,0,1,0,0,1,1] 0 (iK wK Tryz.f41 [1,1,1,1,0,1,0,0] 0 c (zH 0 (sK wK Tryz.f41 [1,1,1,1,1] 0 (eK Tryz.f41 R))))))))
def o7(a:zF)(R:yC)(b:Nat)(c:Int):Prop:=LP wK Tryz.f41 [1,1,1,1,1,0,1,0,0] 4 b ⟨[(1,.iptr (aS a []) 0),(3,dI (a.vars.length:Int)),(7,dI c)],[]⟩ (zH 4 (sK wK Tryz.f41 [1,1,1,1,1,1] 0 (eK Tryz.f41 R)))
def o8(a:zF)(R:yC)(b:Nat)(c:Int):Prop:=LP wK Tryz.f41 [1,1,1,1,0,1,0,0] 0 b ⟨[(1,.iptr (aS a []) 0),(3,dI (a.vars.length:Int)),(4,dI c)],[]⟩ (zH 0 (sK wK Tryz.f41 [1,1,1,1,1] 0 (eK Tryz.f41 R)))
theorem eB(a:zF)(R:yC)(d:Nat)(b:Int)(e:Nat)(c:Int):o6 a R d b (e+1) c=
 (zN (decide (c<b))
 (wC c a.vars.length=true∧
 zN (decide (((zG .var a.vars c.toNat).name)=((zG .var a.vars b.toNat).name)))
 (R (dI 6))
 (o6 a R d b e (xF (c+1))))
 (zX xU [dI ((zG .var a.vars b.toNat).lo),dI (-50),dI 50] .bool λf=>
 zN (!f)
 (R (dI 3))
 (zX xU [dI ((zG .var a.vars b.toNat).hi),dI (-50),dI 50] .bool λg=>
 zN (!g)
 (R (dI 3))
 (zN (decide (((zG .var a.vars b.toNat).hi)<((zG .var a.vars b.toNat).lo)))
 (R (dI 3))
 (zN (decide (6<(xF ((xF (((zG .var a.vars b.toNat).hi)-((zG .var a.vars b.toNat).lo)))+1))))
 (R (dI 2))
 (o8 a R d (xF (b+1)))))))):=by kernel_rfl
theorem eC(a:zF)(R:yC)(c:Nat)(b:Int):o7 a R (c+1) b=
 (zN (decide (b<(a.cons.length:Int)))
 (wC b a.cons.length=true∧
 zX kO [dM a,dC (zG .con a.cons b.toNat)] .int λd=>
 zN (!decide (d=0))
 (R (dI d))
 (o7 a R c (xF (b+1))))
 (zX xU [dI a.goal,dI 0,dI 2] .bool λe=>
 zN (!e)
 (R (dI 7))
 (zN (decide (a.goal=0))
 (zN (!decide (a.var=0))
 (R (dI 1))
 (zN (!decide (a.goal=0))
 (zX xU [dI a.var,dI 0,dI (xF ((a.vars.length:Int)-1))] .bool λf=>
 zN (!f)
 (R (dI 5))
 (R (dI 0)))
 (R (dI 0))))
 (zN (!decide (a.goal=0))
 (zX xU [dI a.var,dI 0,dI (xF ((a.vars.length:Int)-1))] .bool λg=>
 zN (!g)
 (R (dI 5))
 (R (dI 0)))
 (R (dI 0)))))):=by kernel_rfl
theorem eD(a:zF)(R:yC)(c:Nat)(b:Int):o8 a R (c+1) b=
 (zN (decide (b<(a.vars.length:Int)))
 (wC b a.vars.length=true∧
 zX aQ [.str ((zG .var a.vars b.toNat).name)] .bool λd=>
 zN (!d)
 (R (dI 1))
 (∃n2,o6 a R c b n2 0))
 (∃n4,o7 a R n4 0)):=by kernel_rfl
theorem UV(a:zF)(R:yC):FD wK Tryz.f41 [dM a] R=
 (zN (decide ((a.vars.length:Int)=0))
 (R (dI 1))
 (zN (decide (6<(a.vars.length:Int)))
 (R (dI 2))
 (zN (decide (8<(a.cons.length:Int)))
 (R (dI 2))
 (∃n0,o8 a R n0 0)))):=by kernel_rfl
theorem V8(a:zF):yY wK Tryz.f41 mH [dM a]:=xA Tryz.func41 (by kernel_rfl) Tryz.ntmps41 rfl
def xB:xJ:= {own:=[],live:=[(0,([1,2,5],[])),(2,([1,2,5,6],[])),(4,([1,7],[])),(6,([1,7,8],[]))],n:=82}
def o9(a:zF)(b:List (List Int))(R:yC)(c:Nat)(d:Int)(e:Nat)(f:Int):Prop:=LP xB Tryz.f42 [1,1,0,1,0,0,1,0,0,1,0,0] 2 e ⟨[(1,dS b),(2,.iptr (aS a []) 0),(5,dI d),(6,dI f)],[]⟩ (zH 2 (zH 1 (sK xB Tryz.f42 [1,1,0,1,0,0,1,1] 0 (iK xB Tryz.f42 [1,1,0,1,0,0] 0 c (zH 0 (sK xB Tryz.f42 [1,1,1] 0 (eK Tryz.f42 R)))))))
def nA(a:List (List Int))(R:yC)(b:Nat)(c:Int)(d:Nat)(e:Int):Prop:=LP xB Tryz.f42 [1,1,1,0,1,0,0,1,0,0,1,0,0] 6 d ⟨[(1,dS a),(7,dI c),(8,dI e)],[]⟩ (zH 6 (zH 5 (sK xB Tryz.f42 [1,1,1,0,1,0,0,1,1] 4 (iK xB Tryz.f42 [1,1,1,0,1,0,0] 4 b (zH 4 (sK xB Tryz.f42 [1,1,1,1] 0 (eK Tryz.f42 R)))))))
def nB(a:List (List Int))(R:yC)(b:Nat)(c:Int):Prop:=LP xB Tryz.f42 [1,1,1,0,1,0,0] 4 b ⟨[(1,dS a),(7,dI c)],[]⟩ (zH 4 (sK xB Tryz.f42 [1,1,1,1] 0 (eK Tryz.f42 R)))
def nC(a:zF)(b:List (List Int))(R:yC)(c:Nat)(d:Int):Prop:=LP xB Tryz.f42 [1,1,0,1,0,0] 0 c ⟨[(1,dS b),(2,.iptr (aS a []) 0),(5,dI d)],[]⟩ (zH 0 (sK xB Tryz.f42 [1,1,1] 0 (eK Tryz.f42 R)))
theorem eE(c:zF)(b:List (List Int))(R:yC)(e:Nat)(a:Int)(f:Nat)(d:Int):o9 c b R e a (f+1) d=
 (wC a b.length=true∧
 zN (decide (d<((zG (.list .int) b a.toNat).length:Int)))
 (wC a b.length=true∧
 wC d (zG (.list .int) b a.toNat).length=true∧
 wC a c.vars.length=true∧
 wC a c.vars.length=true∧
 zX xU [dI (zG .int (zG (.list .int) b a.toNat) d.toNat),dI ((zG .var c.vars a.toNat).lo),dI ((zG .var c.vars a.toNat).hi)] .bool λg=>
 zN (!g)
 (R (dI 3))
 (o9 c b R e a f (xF (d+1))))
 (nC c b R e (xF (a+1)))):=by kernel_rfl
theorem eF(a:List (List Int))(R:yC)(d:Nat)(b:Int)(e:Nat)(c:Int):nA a R d b (e+1) c=
 (wC b a.length=true∧
 zN (decide (c<((zG (.list .int) a b.toNat).length:Int)))
 (wC b a.length=true∧
 wC c (zG (.list .int) a b.toNat).length=true∧
 wC b a.length=true∧
 wC (xF (c-1)) (zG (.list .int) a b.toNat).length=true∧
 zN (decide ((zG .int (zG (.list .int) a b.toNat) c.toNat)≤(zG .int (zG (.list .int) a b.toNat) ((xF (c-1)).toNat))))
 (R (dI 4))
 (nA a R d b e (xF (c+1))))
 (nB a R d (xF (b+1)))):=by kernel_rfl
theorem eG(a:List (List Int))(R:yC)(c:Nat)(b:Int):nB a R (c+1) b=
 (zN (decide (b<(a.length:Int)))
 (∃n6,nA a R c b n6 1)
 (R (dI 0))):=by kernel_rfl
theorem eI(c:zF)(a:List (List Int))(R:yC)(d:Nat)(b:Int):nC c a R (d+1) b=
 (zN (decide (b<(a.length:Int)))
 (∃n2,o9 c a R d b n2 0)
 (∃n4,nB a R n4 0)):=by kernel_rfl
theorem UW(a:zF)(b:List (List Int))(R:yC):FD xB Tryz.f42 [dM a,dS b] R=
 (zN (!decide ((b.length:Int)=(a.vars.length:Int)))
 (R (dI 1))
 (∃n0,nC a b R n0 0)):=by kernel_rfl
theorem V9(a:zF)(b:List (List Int)):yY xB Tryz.f42 mI [dM a,dS b]:=xA Tryz.func42 (by kernel_rfl) Tryz.ntmps42 rfl
def nD:xJ:= {own:=[],live:=[(0,([1,2,5],[]))],n:=25}
def oA(a:zF)(b:List zC)(R:yC)(c:Nat)(d:Int):Prop:=LP nD Tryz.f43 [1,1,0,1,0,0] 0 c ⟨[(1,.sl .lit b),(2,.iptr (aS a []) 0),(5,dI d)],[]⟩ (zH 0 (sK nD Tryz.f43 [1,1,1] 0 (eK Tryz.f43 R)))
theorem fw(c:zF)(a:List zC)(R:yC)(d:Nat)(b:Int):oA c a R (d+1) b=
 (zN (decide (b<(a.length:Int)))
 (wC b a.length=true∧
 zX rV [dM c,dL (zG .lit a b.toNat)] .int λe=>
 zN (!decide (e=0))
 (R (dI e))
 (oA c a R d (xF (b+1))))
 (R (dI 0))):=by kernel_rfl
theorem Ua(b:zF)(a:List zC)(R:yC):FD nD Tryz.f43 [dM b,.sl .lit a] R=
 (zN (decide (40<(a.length:Int)))
 (R (dI 2))
 (∃n0,oA b a R n0 0)):=by kernel_rfl
theorem Vg(a:zF)(b:List zC):yY nD Tryz.f43 o5 [dM a,.sl .lit b]:=xA Tryz.func43 (by kernel_rfl) Tryz.ntmps43 rfl
def lN:xJ:= {own:=[],live:=[(0,([0,3],[]))],n:=16}
def mP(a:List (List Int))(R:yC)(b:Nat)(c:Int):Prop:=LP lN Tryz.f44 [1,0,1,0,0] 0 b ⟨[(0,dS a),(3,dI c)],[]⟩ (zH 0 (sK lN Tryz.f44 [1,1] 0 (eK Tryz.f44 R)))
theorem cI(a:List (List Int))(R:yC)(c:Nat)(b:Int):mP a R (c+1) b=
 (zN (decide (b<(a.length:Int)))
 (wC b a.length=true∧
 zN (decide (((zG (.list .int) a b.toNat).length:Int)=0))
 (R (dB true))
 (mP a R c (xF (b+1))))
 (R (dB false))):=by kernel_rfl
theorem T7(a:List (List Int))(R:yC):FD lN Tryz.f44 [dS a] R=
 (∃n0,mP a R n0 0):=by kernel_rfl
theorem UX(a:List (List Int)):yY lN Tryz.f44 xY [dS a]:=xA Tryz.func44 (by kernel_rfl) Tryz.ntmps44 rfl
def yT:xJ:= {own:=[5,7,9,46,117,121],live:=[(0,([0,1,5,6],[5])),(2,([0,1,5,7,8],[5,7])),(4,([0,1,5,7,8,9,10],[5,7,9])),(6,([0,1,5,7,8,9,10,11,12],[5,7,9]))],n:=123}
def qT(a:List (List Int))(b:List zC)(R:yC)(c:Nat)(d:Int)(e:Nat)(f:Int)(g:List Int)(h:List (List Int))(i:List Int)(j:Nat)(k:Bool)(l:Int):Prop:=LP yT Tryz.f45 [1,1,1,1,1,1,1,0,1,0,0,1,0,0,1,0,1,0,0,1,0,0,1,0,1,0,0] 6 j ⟨[(0,dS a),(1,.sl .lit b),(5,.own 5),(7,.own 7),(8,dI d),(9,.own 9),(10,dI f),(11,dB k),(12,dI l)],[(5,.row 3 .int g),(7,.row 62 (.list .int) h),(9,.row 3 .int i)]⟩ (zH 6 (sK yT Tryz.f45 [1,1,1,1,1,1,1,0,1,0,0,1,0,0,1,0,1,0,0,1,0,0,1,1] 5 (zH 5 (sK yT Tryz.f45 [1,1,1,1,1,1,1,0,1,0,0,1,0,0,1,0,1,0,0,1,1] 4 (iK yT Tryz.f45 [1,1,1,1,1,1,1,0,1,0,0,1,0,0,1,0,1,0,0] 4 e (zH 4 (sK yT Tryz.f45 [1,1,1,1,1,1,1,0,1,0,0,1,0,0,1,1] 3 (zH 3 (sK yT Tryz.f45 [1,1,1,1,1,1,1,0,1,0,0,1,1] 2 (iK yT Tryz.f45 [1,1,1,1,1,1,1,0,1,0,0] 2 c (zH 2 (sK yT Tryz.f45 [1,1,1,1,1,1,1,1] 0 (eK Tryz.f45 R)))))))))))))
def nV(a:List (List Int))(b:List zC)(R:yC)(c:Nat)(d:Int)(e:Nat)(f:Int)(g:List Int)(h:List (List Int))(i:List Int):Prop:=LP yT Tryz.f45 [1,1,1,1,1,1,1,0,1,0,0,1,0,0,1,0,1,0,0] 4 e ⟨[(0,dS a),(1,.sl .lit b),(5,.own 5),(7,.own 7),(8,dI d),(9,.own 9),(10,dI f)],[(5,.row 3 .int g),(7,.row 62 (.list .int) h),(9,.row 3 .int i)]⟩ (zH 4 (sK yT Tryz.f45 [1,1,1,1,1,1,1,0,1,0,0,1,0,0,1,1] 3 (zH 3 (sK yT Tryz.f45 [1,1,1,1,1,1,1,0,1,0,0,1,1] 2 (iK yT Tryz.f45 [1,1,1,1,1,1,1,0,1,0,0] 2 c (zH 2 (sK yT Tryz.f45 [1,1,1,1,1,1,1,1] 0 (eK Tryz.f45 R))))))))
def jQ(a:List (List Int))(b:List zC)(R:yC)(c:Nat)(d:Int)(e:List Int)(f:List (List Int)):Prop:=LP yT Tryz.f45 [1,1,1,1,1,1,1,0,1,0,0] 2 c ⟨[(0,dS a),(1,.sl .lit b),(5,.own 5),(7,.own 7),(8,dI d)],[(5,.row 3 .int e),(7,.row 62 (.list .int) f)]⟩ (zH 2 (sK yT Tryz.f45 [1,1,1,1,1,1,1,1] 0 (eK Tryz.f45 R)))
def qU(a:List (List Int))(b:List zC)(R:yC)(c:Nat)(d:Int)(e:List Int):Prop:=LP yT Tryz.f45 [1,1,1,0,1,0,0] 0 c ⟨[(0,dS a),(1,.sl .lit b),(5,.own 5),(6,dI d)],[(5,.row 3 .int e)]⟩ (zH 0 (sK yT Tryz.f45 [1,1,1,1] 0 (eK Tryz.f45 R)))
theorem T8(b:List (List Int))(c:List zC)(R:yC)(g:Nat)(a:Int)(h:Nat)(d:Int)(i:List Int)(j:List (List Int))(f:List Int)(k:Nat)(l:Bool)(e:Int):qT b c R g a h d i j f (k+1) l e=
 (zN (decide (e<(c.length:Int)))
 (zN l
 (qT b c R g a h d i j f k true (xF (e+1)))
 (wC e c.length=true∧
 zN (decide (((zG .lit c e.toNat).var)=a))
 (wC e c.length=true∧
 wC a b.length=true∧
 wC d (zG (.list .int) b a.toNat).length=true∧
 zX uS [dL (zG .lit c e.toNat),dI (zG .int (zG (.list .int) b a.toNat) d.toNat)] .bool λm=>
 qT b c R g a h d i j f k m (xF (e+1)))
 (qT b c R g a h d i j f k false (xF (e+1)))))
 (zN l
 (wC a b.length=true∧
 wC d (zG (.list .int) b a.toNat).length=true∧
 zL .int (f.length+([zG .int (zG (.list .int) b a.toNat) d.toNat]).length)=true∧
 nV b c R g a h (xF (d+1)) i j (f++([zG .int (zG (.list .int) b a.toNat) d.toNat])))
 (nV b c R g a h (xF (d+1)) i j f))):=by kernel_rfl
theorem T9(b:List (List Int))(f:List zC)(R:yC)(g:Nat)(a:Int)(i:Nat)(h:Int)(c:List Int)(d:List (List Int))(e:List Int):nV b f R g a (i+1) h c d e=
 (wC a b.length=true∧
 zN (decide (h<((zG (.list .int) b a.toNat).length:Int)))
 (wC 0 c.length=true∧
 ∃n6,qT b f R g a i h c d e n6 (!decide (a=(zG .int c 0))) 0)
 (zL (.list .int) (d.length+([e]).length)=true∧
 jQ b f R g (xF (a+1)) c (d++([e])))):=by kernel_rfl
theorem Sa(a:List (List Int))(d:List zC)(R:yC)(e:Nat)(b:Int)(f:List Int)(c:List (List Int)):jQ a d R (e+1) b f c=
 (zN (decide (b<(a.length:Int)))
 (∃n4,nV a d R e b n4 0 f c ([]:List Int))
 (R (dS c))):=by kernel_rfl
theorem Sb(d:List (List Int))(a:List zC)(R:yC)(e:Nat)(b:Int)(c:List Int):qU d a R (e+1) b c=
 (zN (decide (b<(a.length:Int)))
 (wC b a.length=true∧
 zX hM [dS d,dL (zG .lit a b.toNat)] .int λf=>
 zN (decide (0≤f))
 (wC b a.length=true∧
 zX lC [.sl .int c,dI ((zG .lit a b.toNat).var)] .bool λg=>
 zN (!g)
 (wC b a.length=true∧
 zL .int (c.length+([(zG .lit a b.toNat).var]).length)=true∧
 qU d a R e (xF (b+1)) (c++([(zG .lit a b.toNat).var])))
 (qU d a R e (xF (b+1)) c))
 (qU d a R e (xF (b+1)) c))
 (zN (decide ((c.length:Int)=0))
 (zX uQ [dI (d.length:Int)] (.list (.list .int)) λh=>
 R (dS h))
 (zN (decide (1<(c.length:Int)))
 (R (dS d))
 (∃n2,jQ d a R n2 0 c ([]:List (List Int)))))):=by kernel_rfl
theorem O4(a:List (List Int))(b:List zC)(R:yC):FD yT Tryz.f45 [dS a,.sl .lit b] R=
 (zX xY [dS a] .bool λc=>
 zN c
 (R (dS a))
 (∃n0,qU a b R n0 0 ([]:List Int))):=by kernel_rfl
theorem QE(a:List (List Int))(b:List zC):yY yT Tryz.f45 hJ [dS a,.sl .lit b]:=xA Tryz.func45 (by kernel_rfl) Tryz.ntmps45 rfl
def xQ:xJ:= {own:=[7,10,13,14,16,31,78,95,125,129],live:=[(0,([2,7,8,9,10,11],[7,10,31])),(2,([2,7,8,9,10,11,12],[7,10,31])),(4,([2,8,10,14,15],[10,14])),(6,([2,8,10,14,15,16,17],[10,14,16]))],n:=131}
def wA(a:List (List Int))(R:yC)(b:List Int)(c:Nat)(d:Int)(e:Nat)(f g:Int)(h i:List Int)(j:Int)(k:List (List Int))(l m:List zC)(n:List Int):Prop:=LP xQ Tryz.f46 [1,1,1,1,1,1,1,0,1,0,0,1,0,0,1,1,0,0] 2 e ⟨[(2,dS a),(7,.ptr 7 0),(8,.sl .int b),(9,.own 31),(10,.own 10),(11,dI d),(12,dI f)],[(7,.cells [dI g,.sl .int h,.sl .int i,dI j,dS k,.sl .lit l]),(10,.row 67 .lit m),(31,.row 3 .int n)]⟩ (zH 2 (zH 1 (sK xQ Tryz.f46 [1,1,1,1,1,1,1,0,1,0,0,1,1] 0 (iK xQ Tryz.f46 [1,1,1,1,1,1,1,0,1,0,0] 0 c (zH 0 (sK xQ Tryz.f46 [1,1,1,1,1,1,1,1] 0 (eK Tryz.f46 R)))))))
def pN(a:List (List Int))(R:yC)(b:List Int)(c:Nat)(d:Int)(e:Nat)(f:Int)(g:List zC)(h:List (List Int))(i:List Int):Prop:=LP xQ Tryz.f46 [1,1,1,1,1,1,1,1,1,0,1,0,0,1,0,0,1,1,0,1,0,0] 6 e ⟨[(2,dS a),(8,.sl .int b),(10,.own 10),(14,.own 14),(15,dI d),(16,.own 16),(17,dI f)],[(10,.row 67 .lit g),(14,.row 62 (.list .int) h),(16,.row 3 .int i)]⟩ (zH 6 (sK xQ Tryz.f46 [1,1,1,1,1,1,1,1,1,0,1,0,0,1,0,0,1,1,1] 5 (zH 5 (sK xQ Tryz.f46 [1,1,1,1,1,1,1,1,1,0,1,0,0,1,1] 4 (iK xQ Tryz.f46 [1,1,1,1,1,1,1,1,1,0,1,0,0] 4 c (zH 4 (sK xQ Tryz.f46 [1,1,1,1,1,1,1,1,1,1] 0 (eK Tryz.f46 R))))))))
def pO(a:List (List Int))(R:yC)(b:List Int)(c:Nat)(d:Int)(e:List zC)(f:List (List Int)):Prop:=LP xQ Tryz.f46 [1,1,1,1,1,1,1,1,1,0,1,0,0] 4 c ⟨[(2,dS a),(8,.sl .int b),(10,.own 10),(14,.own 14),(15,dI d)],[(10,.row 67 .lit e),(14,.row 62 (.list .int) f)]⟩ (zH 4 (sK xQ Tryz.f46 [1,1,1,1,1,1,1,1,1,1] 0 (eK Tryz.f46 R)))
def tK(a:List (List Int))(R:yC)(b:List Int)(c:Nat)(d e:Int)(f g:List Int)(h:Int)(i:List (List Int))(j k:List zC)(l:List Int):Prop:=LP xQ Tryz.f46 [1,1,1,1,1,1,1,0,1,0,0] 0 c ⟨[(2,dS a),(7,.ptr 7 0),(8,.sl .int b),(9,.own 31),(10,.own 10),(11,dI d)],[(7,.cells [dI e,.sl .int f,.sl .int g,dI h,dS i,.sl .lit j]),(10,.row 67 .lit k),(31,.row 3 .int l)]⟩ (zH 0 (sK xQ Tryz.f46 [1,1,1,1,1,1,1,1] 0 (eK Tryz.f46 R)))
theorem Ub(e:List (List Int))(R:yC)(a:List Int)(f:Nat)(g:Int)(n:Nat)(b h:Int)(i j:List Int)(k:Int)(l:List (List Int))(m d:List zC)(c:List Int):wA e R a f g (n+1) b h i j k l m d c=
 (zN (decide (b<(a.length:Int)))
 (wC b a.length=true∧
 wC b a.length=true∧
 ((wC (zG .int a b.toNat) c.length=true∧
 (zX uT [.sl .lit d,.agg [dI (zG .int a b.toNat),dI 0,dI (zG .int c ((zG .int a b.toNat).toNat))]] .bool λo=>
 zN (!o)
 (zL .lit (d.length+([(⟨zG .int a b.toNat,0,zG .int c ((zG .int a b.toNat).toNat)⟩:zC)]).length)=true∧
 wA e R a f g n (xF (b+1)) h i j k l m (d++([(⟨zG .int a b.toNat,0,zG .int c ((zG .int a b.toNat).toNat)⟩:zC)])) c)
 (wA e R a f g n (xF (b+1)) h i j k l m d c))∧
 zX uT [.sl .lit d,.agg [dI (zG .int a b.toNat),dI 0,dI (zG .int c ((zG .int a b.toNat).toNat))]] .bool λp=>
 zN (!p)
 (zL .lit (d.length+([(⟨zG .int a b.toNat,0,zG .int c ((zG .int a b.toNat).toNat)⟩:zC)]).length)=true∧
 wA e R a f g n (xF (b+1)) h i j k l m (d++([(⟨zG .int a b.toNat,0,zG .int c ((zG .int a b.toNat).toNat)⟩:zC)])) c)
 (wA e R a f g n (xF (b+1)) h i j k l m d c))∧
 wC (zG .int a b.toNat) c.length=true∧
 zX uT [.sl .lit d,.agg [dI (zG .int a b.toNat),dI 0,dI (zG .int c ((zG .int a b.toNat).toNat))]] .bool λq=>
 zN (!q)
 (zL .lit (d.length+([(⟨zG .int a b.toNat,0,zG .int c ((zG .int a b.toNat).toNat)⟩:zC)]).length)=true∧
 wA e R a f g n (xF (b+1)) h i j k l m (d++([(⟨zG .int a b.toNat,0,zG .int c ((zG .int a b.toNat).toNat)⟩:zC)])) c)
 (wA e R a f g n (xF (b+1)) h i j k l m d c))∧
 wC (zG .int a b.toNat) c.length=true∧
 zX uT [.sl .lit d,.agg [dI (zG .int a b.toNat),dI 0,dI (zG .int c ((zG .int a b.toNat).toNat))]] .bool λr=>
 zN (!r)
 (zL .lit (d.length+([(⟨zG .int a b.toNat,0,zG .int c ((zG .int a b.toNat).toNat)⟩:zC)]).length)=true∧
 wA e R a f g n (xF (b+1)) h i j k l m (d++([(⟨zG .int a b.toNat,0,zG .int c ((zG .int a b.toNat).toNat)⟩:zC)])) c)
 (wA e R a f g n (xF (b+1)) h i j k l m d c))
 (tK e R a f (xF (g+1)) h i j k l m d c)):=by kernel_rfl
theorem Uc(b:List (List Int))(R:yC)(g:List Int)(h:Nat)(a:Int)(i:Nat)(c:Int)(e:List zC)(f:List (List Int))(d:List Int):pN b R g h a (i+1) c e f d=
 (wC a b.length=true∧
 zN (decide (c<((zG (.list .int) b a.toNat).length:Int)))
 (wC a b.length=true∧
 wC c (zG (.list .int) b a.toNat).length=true∧
 zX uT [.sl .lit e,.agg [dI a,dI 0,dI (zG .int (zG (.list .int) b a.toNat) c.toNat)]] .bool λj=>
 zN j
 (wC a b.length=true∧
 wC c (zG (.list .int) b a.toNat).length=true∧
 zL .int (d.length+([zG .int (zG (.list .int) b a.toNat) c.toNat]).length)=true∧
 pN b R g h a i (xF (c+1)) e f (d++([zG .int (zG (.list .int) b a.toNat) c.toNat])))
 (pN b R g h a i (xF (c+1)) e f d))
 (zL (.list .int) (f.length+([d]).length)=true∧
 pO b R g h (xF (a+1)) e (f++([d])))):=by kernel_rfl
theorem Ud(b:List (List Int))(R:yC)(d:List Int)(e:Nat)(a:Int)(f:List zC)(c:List (List Int)):pO b R d (e+1) a f c=
 (zN (decide (a<(b.length:Int)))
 (zX lC [.sl .int d,dI a] .bool λg=>
 zN (!g)
 (wC a b.length=true∧
 zL (.list .int) (c.length+([zG (.list .int) b a.toNat]).length)=true∧
 pO b R d e (xF (a+1)) f (c++([zG (.list .int) b a.toNat])))
 (∃n6,pN b R d e a n6 0 f c ([]:List Int)))
 (R (dS c))):=by kernel_rfl
theorem Ue(a:List (List Int))(R:yC)(b:List Int)(l:Nat)(c d:Int)(e f:List Int)(g:Int)(h:List (List Int))(i j:List zC)(m:List Int):tK a R b (l+1) c d e f g h i j m=
 (∃n:Bool,∃k:List Int,cV hU [dS a,.sl .int b,.own 1000,dI c] [(1000,.row 3 .int m)] (dB n) [(1000,.row 3 .int k)]∧
 zN n
 (zX oN [.agg [dI d,.sl .int e,.sl .int f,dI g,dS h,.sl .lit i],.sl .int k] .bool λo=>
 zN (!o)
 (tK a R b l (xF (c+1)) d e f g h i j k)
 (∃n2,wA a R b l c n2 0 d e f g h i j k))
 (∃n4,pO a R b n4 0 j ([]:List (List Int)))):=by kernel_rfl
theorem RE(b:zF)(c:Int)(a:List (List Int))(R:yC):FD xQ Tryz.f46 [dM b,dI c,dS a] R=
 (zX xY [dS a] .bool λe=>
 zN e
 (R (dS a))
 (wC c b.cons.length=true∧
 zX nT [dM b,dC (zG .con b.cons c.toNat)] (.list .int) λd=>
 (a.length:Int)=(a.length:Int)∧
 0≤(a.length:Int)∧
 zL .int ((a.length:Int).toNat)=true∧
 zN (decide ((d.length:Int)=0))
 (zX oN [dC (zG .con b.cons c.toNat),.sl .int (List.replicate ((a.length:Int).toNat) (Ty.dflt .int))] .bool λf=>
 zN f
 (R (dS a))
 (zX uQ [dI (a.length:Int)] (.list (.list .int)) λg=>
 R (dS g)))
 (∃n0,tK a R d n0 0 ((zG .con b.cons c.toNat).kind) ((zG .con b.cons c.toNat).vars) ((zG .con b.cons c.toNat).consts) ((zG .con b.cons c.toNat).n) ((zG .con b.cons c.toNat).rows) ((zG .con b.cons c.toNat).lits) ([]:List zC) (List.replicate ((a.length:Int).toNat) (Ty.dflt .int))))):=by kernel_rfl
theorem Sc(a:zF)(b:Int)(c:List (List Int)):yY xQ Tryz.f46 rU [dM a,dI b,dS c]:=xA Tryz.func46 (by kernel_rfl) Tryz.ntmps46 rfl
def kU:xJ:= {own:=[3,12],live:=[(0,([0,3,4],[3]))],n:=14}
def lO(a:Int)(R:yC)(b:Nat)(c:Int)(d:List (List Int)):Prop:=LP kU Tryz.f47 [1,1,0,1,0,0] 0 b ⟨[(0,dI a),(3,.own 3),(4,dI c)],[(3,.row 62 (.list .int) d)]⟩ (zH 0 (sK kU Tryz.f47 [1,1,1] 0 (eK Tryz.f47 R)))
theorem Uf(b:Int)(R:yC)(d:Nat)(c:Int)(a:List (List Int)):lO b R (d+1) c a=
 (zN (decide (c<b))
 (zL (.list .int) (a.length+([([]:List Int)]).length)=true∧
 lO b R d (xF (c+1)) (a++([([]:List Int)])))
 (R (dS a))):=by kernel_rfl
theorem RF(a:Int)(R:yC):FD kU Tryz.f47 [dI a] R=
 (∃n0,lO a R n0 0 ([]:List (List Int))):=by kernel_rfl
theorem Sd(a:Int):yY kU Tryz.f47 uQ [dI a]:=xA Tryz.func47 (by kernel_rfl) Tryz.ntmps47 rfl
def XF:xJ:= {own:=[],live:=[],n:=45}
theorem QF(a b:zQ)(R:yC):FD XF Tryz.f66 [dC a,dC b] R=
 (zN (decide (a.kind=b.kind))
 (zX uR [.sl .int a.vars,.sl .int b.vars] .bool λc=>
 zN c
 (zX uR [.sl .int a.consts,.sl .int b.consts] .bool λd=>
 zN d
 (zN (decide (a.n=b.n))
 (zX lK [dS a.rows,dS b.rows] .bool λe=>
 zN e
 (zX wR [.sl .lit a.lits,.sl .lit b.lits] .bool λf=>
 R (dB f))
 (R (dB false)))
 (R (dB false)))
 (R (dB false)))
 (R (dB false)))
 (R (dB false))):=by kernel_rfl
theorem RG(a b:zQ):yY XF Tryz.f66 jN [dC a,dC b]:=xA Tryz.func66 (by kernel_rfl) Tryz.ntmps66 rfl
def kV:xJ:= {own:=[],live:=[(0,([0,1,5],[]))],n:=26}
def lP(a b:List Int)(R:yC)(c:Nat)(d:Int):Prop:=LP kV Tryz.f67 [1,1,0,1,0,0] 0 c ⟨[(0,.sl .int a),(1,.sl .int b),(5,dI d)],[]⟩ (zH 0 (sK kV Tryz.f67 [1,1,1] 0 (eK Tryz.f67 R)))
theorem bH(b c:List Int)(R:yC)(d:Nat)(a:Int):lP b c R (d+1) a=
 (zN (decide (a<(b.length:Int)))
 (wC a b.length=true∧
 wC a c.length=true∧
 zN (!decide ((zG .int b a.toNat)=(zG .int c a.toNat)))
 (R (dB false))
 (lP b c R d (xF (a+1))))
 (R (dB true))):=by kernel_rfl
theorem RH(a b:List Int)(R:yC):FD kV Tryz.f67 [.sl .int a,.sl .int b] R=
 (zN (!decide ((a.length:Int)=(b.length:Int)))
 (R (dB false))
 (∃n0,lP a b R n0 0)):=by kernel_rfl
theorem Se(a b:List Int):yY kV Tryz.f67 uR [.sl .int a,.sl .int b]:=xA Tryz.func67 (by kernel_rfl) Tryz.ntmps67 rfl
def XG:xJ:= {own:=[],live:=[],n:=15}
theorem QG(a b c:Int)(R:yC):FD XG Tryz.f79 [dI a,dI b,dI c] R=
 (zN (decide (b≤a))
 (R (dB (decide (a≤c))))
 (R (dB false))):=by kernel_rfl
theorem RI(a b c:Int):yY XG Tryz.f79 xU [dI a,dI b,dI c]:=xA Tryz.func79 (by kernel_rfl) Tryz.ntmps79 rfl
def yX:xJ:= {own:=[],live:=[(0,([2,3,5],[])),(2,([2,3,6],[])),(4,([2,3,7],[])),(6,([2,3,8],[])),(8,([2,3,8,9],[])),(10,([2,3,10],[]))],n:=140}
def lQ(b:zF)(a:zQ)(R:yC)(c:Nat)(d:Int)(e:Nat)(f:Int):Prop:=LP yX Tryz.f80 [1,1,1,1,1,1,1,1,0,1,0,0,1,0,0,1,0,0] 8 e ⟨[(2,.iptr (aS b []) 0),(3,.iptr (pB a []) 0),(8,dI d),(9,dI f)],[]⟩ (zH 8 (zH 7 (sK yX Tryz.f80 [1,1,1,1,1,1,1,1,0,1,0,0,1,1] 6 (iK yX Tryz.f80 [1,1,1,1,1,1,1,1,0,1,0,0] 6 c (zH 6 (sK yX Tryz.f80 [1,1,1,1,1,1,1,1,1] 0 (eK Tryz.f80 R)))))))
def mQ(b:zF)(a:zQ)(R:yC)(c:Nat)(d:Int):Prop:=LP yX Tryz.f80 [1,1,1,1,1,1,1,1,1,0,1,0,0] 10 c ⟨[(2,.iptr (aS b []) 0),(3,.iptr (pB a []) 0),(10,dI d)],[]⟩ (zH 10 (sK yX Tryz.f80 [1,1,1,1,1,1,1,1,1,1] 0 (eK Tryz.f80 R)))
def lR(b:zF)(a:zQ)(R:yC)(c:Nat)(d:Int):Prop:=LP yX Tryz.f80 [1,1,1,1,1,1,1,1,0,1,0,0] 6 c ⟨[(2,.iptr (aS b []) 0),(3,.iptr (pB a []) 0),(8,dI d)],[]⟩ (zH 6 (sK yX Tryz.f80 [1,1,1,1,1,1,1,1,1] 0 (eK Tryz.f80 R)))
def lS(b:zF)(a:zQ)(R:yC)(c:Nat)(d:Int):Prop:=LP yX Tryz.f80 [1,1,1,1,1,1,0,1,0,0] 4 c ⟨[(2,.iptr (aS b []) 0),(3,.iptr (pB a []) 0),(7,dI d)],[]⟩ (zH 4 (sK yX Tryz.f80 [1,1,1,1,1,1,1] 0 (eK Tryz.f80 R)))
def lT(b:zF)(a:zQ)(R:yC)(c:Nat)(d:Int):Prop:=LP yX Tryz.f80 [1,1,1,1,1,0,1,0,0] 2 c ⟨[(2,.iptr (aS b []) 0),(3,.iptr (pB a []) 0),(6,dI d)],[]⟩ (zH 2 (sK yX Tryz.f80 [1,1,1,1,1,1] 0 (eK Tryz.f80 R)))
def lU(b:zF)(a:zQ)(R:yC)(c:Nat)(d:Int):Prop:=LP yX Tryz.f80 [1,1,1,1,0,1,0,0] 0 c ⟨[(2,.iptr (aS b []) 0),(3,.iptr (pB a []) 0),(5,dI d)],[]⟩ (zH 0 (sK yX Tryz.f80 [1,1,1,1,1] 0 (eK Tryz.f80 R)))
theorem bI(d:zF)(a:zQ)(R:yC)(e:Nat)(b:Int)(f:Nat)(c:Int):lQ d a R e b (f+1) c=
 (wC b a.rows.length=true∧
 zN (decide (c<((zG (.list .int) a.rows b.toNat).length:Int)))
 (wC b a.rows.length=true∧
 wC c (zG (.list .int) a.rows b.toNat).length=true∧
 zX sR [dI (zG .int (zG (.list .int) a.rows b.toNat) c.toNat)] .bool λg=>
 zN (!g)
 (R (dI 3))
 (lQ d a R e b f (xF (c+1))))
 (lR d a R e (xF (b+1)))):=by kernel_rfl
theorem cJ(c:zF)(a:zQ)(R:yC)(d:Nat)(b:Int):mQ c a R (d+1) b=
 (zN (decide (b<(a.lits.length:Int)))
 (wC b a.lits.length=true∧
 zX rV [dM c,dL (zG .lit a.lits b.toNat)] .int λe=>
 zN (!decide (e=0))
 (R (dI e))
 (mQ c a R d (xF (b+1))))
 (R (dI 0))):=by kernel_rfl
theorem bJ(b:zF)(a:zQ)(R:yC)(d:Nat)(c:Int):lR b a R (d+1) c=
 (zN (decide (c<(a.rows.length:Int)))
 (∃n8,lQ b a R d c n8 0)
 (∃n10,mQ b a R n10 0)):=by kernel_rfl
theorem bK(c:zF)(a:zQ)(R:yC)(d:Nat)(b:Int):lS c a R (d+1) b=
 (zN (decide (b<(a.consts.length:Int)))
 (wC b a.consts.length=true∧
 zX sR [dI (zG .int a.consts b.toNat)] .bool λe=>
 zN (!e)
 (R (dI 3))
 (lS c a R d (xF (b+1))))
 (zX sR [dI a.n] .bool λf=>
 zN (!f)
 (R (dI 3))
 (∃n6,lR c a R n6 0))):=by kernel_rfl
theorem bL(c:zF)(a:zQ)(R:yC)(d:Nat)(b:Int):lT c a R (d+1) b=
 (zN (decide (b<(a.lits.length:Int)))
 (wC b a.lits.length=true∧
 zX xU [dI ((zG .lit a.lits b.toNat).var),dI 0,dI (xF ((c.vars.length:Int)-1))] .bool λe=>
 zN (!e)
 (R (dI 5))
 (lT c a R d (xF (b+1))))
 (∃n4,lS c a R n4 0)):=by kernel_rfl
theorem bM(c:zF)(a:zQ)(R:yC)(d:Nat)(b:Int):lU c a R (d+1) b=
 (zN (decide (b<(a.vars.length:Int)))
 (wC b a.vars.length=true∧
 zX xU [dI (zG .int a.vars b.toNat),dI 0,dI (xF ((c.vars.length:Int)-1))] .bool λe=>
 zN (!e)
 (R (dI 5))
 (lU c a R d (xF (b+1))))
 (∃n2,lT c a R n2 0)):=by kernel_rfl
theorem RJ(b:zF)(a:zQ)(R:yC):FD yX Tryz.f80 [dM b,dC a] R=
 (zX xU [dI a.kind,dI 1,dI 10] .bool λc=>
 zN (!c)
 (R (dI 7))
 (zN (decide (4<(a.vars.length:Int)))
 (R (dI 2))
 (zN (decide (4<(a.lits.length:Int)))
 (R (dI 2))
 (zN (decide (8<(a.consts.length:Int)))
 (R (dI 2))
 (zN (decide (20<(a.rows.length:Int)))
 (R (dI 2))
 (zX lL [dC a] .bool λd=>
 zN (!d)
 (R (dI 1))
 (∃n0,lU b a R n0 0))))))):=by kernel_rfl
theorem Sf(a:zF)(b:zQ):yY yX Tryz.f80 kO [dM a,dC b]:=xA Tryz.func80 (by kernel_rfl) Tryz.ntmps80 rfl
def Xh:xJ:= {own:=[],live:=[],n:=21}
theorem RK(b:zF)(a:zC)(R:yC):FD Xh Tryz.f81 [dM b,dL a] R=
 (zX xU [dI a.var,dI 0,dI (xF ((b.vars.length:Int)-1))] .bool λc=>
 zN (!c)
 (R (dI 5))
 (zX xU [dI a.op,dI 1,dI 4] .bool λd=>
 zN (!d)
 (R (dI 7))
 (zX sR [dI a.n] .bool λe=>
 zN (!e)
 (R (dI 3))
 (R (dI 0))))):=by kernel_rfl
theorem Sg(a:zF)(b:zC):yY Xh Tryz.f81 rV [dM a,dL b]:=xA Tryz.func81 (by kernel_rfl) Tryz.ntmps81 rfl
def gB:xJ:= {own:=[],live:=[(0,([0,3,5,6,7],[]))],n:=35}
def nW(b:List (List Int))(a:zC)(R:yC)(c:Nat)(d e:Bool)(f:Int):Prop:=LP gB Tryz.f82 [1,1,0,1,0,0] 0 c ⟨[(0,dS b),(3,.iptr [dI a.var,dI a.op,dI a.n] 0),(5,dB d),(6,dB e),(7,dI f)],[]⟩ (zH 0 (sK gB Tryz.f82 [1,1,1] 0 (eK Tryz.f82 R)))
theorem Sh(b:List (List Int))(a:zC)(R:yC)(e:Nat)(d f:Bool)(c:Int):nW b a R (e+1) d f c=
 (wC a.var b.length=true∧
 zN (decide (c<((zG (.list .int) b a.var.toNat).length:Int)))
 (wC a.var b.length=true∧
 wC c (zG (.list .int) b a.var.toNat).length=true∧
 zX uS [dL a,dI (zG .int (zG (.list .int) b a.var.toNat) c.toNat)] .bool λg=>
 zN g
 (nW b a R e true f (xF (c+1)))
 (nW b a R e d true (xF (c+1))))
 (zN d
 (zN (!f)
 (R (dI 1))
 (zN (!d)
 (R (dI (-1)))
 (R (dI 0))))
 (zN (!d)
 (R (dI (-1)))
 (R (dI 0))))):=by kernel_rfl
theorem O5(a:List (List Int))(b:zC)(R:yC):FD gB Tryz.f82 [dS a,dL b] R=
 (∃n0,nW a b R n0 false false 0):=by kernel_rfl
theorem QH(a:List (List Int))(b:zC):yY gB Tryz.f82 hM [dS a,dL b]:=xA Tryz.func82 (by kernel_rfl) Tryz.ntmps82 rfl
def gC:xJ:= {own:=[],live:=[(0,([0,1,5],[]))],n:=18}
def jR(a:List Int)(b:Int)(R:yC)(c:Nat)(d:Int):Prop:=LP gC Tryz.f83 [1,0,1,0,0] 0 c ⟨[(0,.sl .int a),(1,dI b),(5,dI d)],[]⟩ (zH 0 (sK gC Tryz.f83 [1,1] 0 (eK Tryz.f83 R)))
theorem ZO(a:List Int)(c:Int)(R:yC)(d:Nat)(b:Int):jR a c R (d+1) b=
 (zN (decide (b<(a.length:Int)))
 (wC b a.length=true∧
 zN (decide ((zG .int a b.toNat)=c))
 (R (dB true))
 (jR a c R d (xF (b+1))))
 (R (dB false))):=by kernel_rfl
theorem O6(a:List Int)(b:Int)(R:yC):FD gC Tryz.f83 [.sl .int a,dI b] R=
 (∃n0,jR a b R n0 0):=by kernel_rfl
theorem QI(a:List Int)(b:Int):yY gC Tryz.f83 lC [.sl .int a,dI b]:=xA Tryz.func83 (by kernel_rfl) Tryz.ntmps83 rfl
def Xi:xJ:= {own:=[],live:=[],n:=47}
theorem RL(a:zC)(b:Int)(R:yC):FD Xi Tryz.f84 [dL a,dI b] R=
 (zN (decide (a.op=1))
 (zN (decide (b≤a.n))
 (R (dB true))
 (zN (decide (a.op=2))
 (zN (decide (a.n≤b))
 (R (dB true))
 (zN (decide (a.op=3))
 (zN (decide (b=a.n))
 (R (dB true))
 (zN (decide (a.op=4))
 (R (dB (!decide (b=a.n))))
 (R (dB false))))
 (zN (decide (a.op=4))
 (R (dB (!decide (b=a.n))))
 (R (dB false)))))
 (zN (decide (a.op=3))
 (zN (decide (b=a.n))
 (R (dB true))
 (zN (decide (a.op=4))
 (R (dB (!decide (b=a.n))))
 (R (dB false))))
 (zN (decide (a.op=4))
 (R (dB (!decide (b=a.n))))
 (R (dB false))))))
 (zN (decide (a.op=2))
 (zN (decide (a.n≤b))
 (R (dB true))
 (zN (decide (a.op=3))
 (zN (decide (b=a.n))
 (R (dB true))
 (zN (decide (a.op=4))
 (R (dB (!decide (b=a.n))))
 (R (dB false))))
 (zN (decide (a.op=4))
 (R (dB (!decide (b=a.n))))
 (R (dB false)))))
 (zN (decide (a.op=3))
 (zN (decide (b=a.n))
 (R (dB true))
 (zN (decide (a.op=4))
 (R (dB (!decide (b=a.n))))
 (R (dB false))))
 (zN (decide (a.op=4))
 (R (dB (!decide (b=a.n))))
 (R (dB false)))))):=by kernel_rfl
theorem Si(a:zC)(b:Int):yY Xi Tryz.f84 uS [dL a,dI b]:=xA Tryz.func84 (by kernel_rfl) Tryz.ntmps84 rfl
def wE:xJ:= {own:=[5,56],live:=[(0,([2,3,5,6],[5])),(2,([2,3,5,6,7,8],[5])),(4,([2,3,5,6,7,9],[5]))],n:=58}
def oQ(b:zF)(a:zQ)(R:yC)(c:Nat)(d:Int)(e:List Int)(f:Nat)(g:Bool)(h:Int):Prop:=LP wE Tryz.f85 [1,1,0,1,0,0,1,0,0,1,1,0,1,0,0] 4 f ⟨[(2,.iptr (aS b []) 0),(3,.iptr (pB a []) 0),(5,.own 5),(6,dI d),(7,dB g),(9,dI h)],[(5,.row 3 .int e)]⟩ (zH 4 (sK wE Tryz.f85 [1,1,0,1,0,0,1,0,0,1,1,1] 1 (zH 1 (sK wE Tryz.f85 [1,1,0,1,0,0,1,1] 0 (iK wE Tryz.f85 [1,1,0,1,0,0] 0 c (zH 0 (sK wE Tryz.f85 [1,1,1] 0 (eK Tryz.f85 R))))))))
def oR(b:zF)(a:zQ)(R:yC)(c:Nat)(d:Int)(e:List Int)(f:Nat)(g:Bool)(h:Int):Prop:=LP wE Tryz.f85 [1,1,0,1,0,0,1,0,0,1,0,1,0,0] 2 f ⟨[(2,.iptr (aS b []) 0),(3,.iptr (pB a []) 0),(5,.own 5),(6,dI d),(7,dB g),(8,dI h)],[(5,.row 3 .int e)]⟩ (zH 2 (sK wE Tryz.f85 [1,1,0,1,0,0,1,0,0,1,1] 1 (zH 1 (sK wE Tryz.f85 [1,1,0,1,0,0,1,1] 0 (iK wE Tryz.f85 [1,1,0,1,0,0] 0 c (zH 0 (sK wE Tryz.f85 [1,1,1] 0 (eK Tryz.f85 R))))))))
def oS(b:zF)(a:zQ)(R:yC)(c:Nat)(d:Int)(e:List Int):Prop:=LP wE Tryz.f85 [1,1,0,1,0,0] 0 c ⟨[(2,.iptr (aS b []) 0),(3,.iptr (pB a []) 0),(5,.own 5),(6,dI d)],[(5,.row 3 .int e)]⟩ (zH 0 (sK wE Tryz.f85 [1,1,1] 0 (eK Tryz.f85 R)))
theorem UY(e:zF)(a:zQ)(R:yC)(f:Nat)(b:Int)(c:List Int)(g:Nat)(h:Bool)(d:Int):oQ e a R f b c (g+1) h d=
 (zN (decide (d<(a.lits.length:Int)))
 (zN h
 (oQ e a R f b c g true (xF (d+1)))
 (wC d a.lits.length=true∧
 oQ e a R f b c g (decide (((zG .lit a.lits d.toNat).var)=b)) (xF (d+1))))
 (zN h
 (zL .int (c.length+([b]).length)=true∧
 oS e a R f (xF (b+1)) (c++([b])))
 (oS e a R f (xF (b+1)) c))):=by kernel_rfl
theorem UZ(d:zF)(a:zQ)(R:yC)(e:Nat)(c:Int)(f:List Int)(g:Nat)(h:Bool)(b:Int):oR d a R e c f (g+1) h b=
 (zN (decide (b<(a.vars.length:Int)))
 (zN h
 (oR d a R e c f g true (xF (b+1)))
 (wC b a.vars.length=true∧
 oR d a R e c f g (decide ((zG .int a.vars b.toNat)=c)) (xF (b+1))))
 (∃n4,oQ d a R e c f n4 h 0)):=by kernel_rfl
theorem U0(a:zF)(d:zQ)(R:yC)(e:Nat)(b:Int)(c:List Int):oS a d R (e+1) b c=
 (zN (decide (b<(a.vars.length:Int)))
 (∃n2,oR a d R e b c n2 false 0)
 (R (.sl .int c))):=by kernel_rfl
theorem QJ(a:zF)(b:zQ)(R:yC):FD wE Tryz.f85 [dM a,dC b] R=
 (∃n0,oS a b R n0 0 ([]:List Int)):=by kernel_rfl
theorem RM(a:zF)(b:zQ):yY wE Tryz.f85 nT [dM a,dC b]:=xA Tryz.func85 (by kernel_rfl) Tryz.ntmps85 rfl
def zM:xJ:= {own:=[5,33],live:=[(0,([1,2,5,6],[5])),(2,([1,2,5,7,8],[5])),(5,([5,9],[5])),(7,([5,9,10],[5])),(9,([2,5,11],[5])),(11,([2,5,12],[5])),(13,([5,13,14],[5])),(15,([1,2,15],[]))],n:=222}
def RN(R:yC)(a:List Int)(b:Nat)(c:Int):Prop:=LP zM Tryz.f86 [1,1,1,1,1,0,1,0,1,1,1,1,1,1,1,0,0,1,0,0] 5 b ⟨[(5,.own 5),(9,dI c)],[(5,.row 3 .int a)]⟩ (zH 5 (sK zM Tryz.f86 [1,1,1,1,1,0,1,0,1,1,1,1,1,1,1,0,1] 4 (zH 4 (sK zM Tryz.f86 [1,1,1,1,1,1] 0 (eK Tryz.f86 R)))))
def RO(a:zQ)(R:yC)(b:List Int)(c:Nat)(d:Int):Prop:=LP zM Tryz.f86 [1,1,1,1,1,0,1,0,1,1,1,1,1,1,1,1,1,0,0,1,0,0] 9 c ⟨[(2,.iptr (pB a []) 0),(5,.own 5),(11,dI d)],[(5,.row 3 .int b)]⟩ (zH 9 (sK zM Tryz.f86 [1,1,1,1,1,0,1,0,1,1,1,1,1,1,1,1,1,0,1] 4 (zH 4 (sK zM Tryz.f86 [1,1,1,1,1,1] 0 (eK Tryz.f86 R)))))
def Sj(a:zQ)(R:yC)(b:List Int)(c:Nat)(d:Int):Prop:=LP zM Tryz.f86 [1,1,1,1,1,0,1,0,1,1,1,1,1,1,1,1,1,1,1,0,0,1,0,0] 11 c ⟨[(2,.iptr (pB a []) 0),(5,.own 5),(12,dI d)],[(5,.row 3 .int b)]⟩ (zH 11 (sK zM Tryz.f86 [1,1,1,1,1,0,1,0,1,1,1,1,1,1,1,1,1,1,1,0,1] 4 (zH 4 (sK zM Tryz.f86 [1,1,1,1,1,1] 0 (eK Tryz.f86 R)))))
def Sk(R:yC)(a:List Int)(b:Nat)(c:Bool)(d:Int):Prop:=LP zM Tryz.f86 [1,1,1,1,1,0,1,0,1,1,1,1,1,1,1,1,1,1,1,1,1,1,1,0,1,0,1,0,0] 13 b ⟨[(5,.own 5),(13,dB c),(14,dI d)],[(5,.row 3 .int a)]⟩ (zH 13 (sK zM Tryz.f86 [1,1,1,1,1,0,1,0,1,1,1,1,1,1,1,1,1,1,1,1,1,1,1,0,1,1] 4 (zH 4 (sK zM Tryz.f86 [1,1,1,1,1,1] 0 (eK Tryz.f86 R)))))
def Sl(a:zQ)(b:List Int)(R:yC)(c:Nat)(d:Int):Prop:=LP zM Tryz.f86 [1,1,1,1,1,0,1,0,1,1,1,1,1,1,1,1,1,1,1,1,1,1,1,1,1,0,0,1,0,0] 15 c ⟨[(1,.sl .int b),(2,.iptr (pB a []) 0),(15,dI d)],[]⟩ (zH 15 (sK zM Tryz.f86 [1,1,1,1,1,0,1,0,1,1,1,1,1,1,1,1,1,1,1,1,1,1,1,1,1,0,1] 4 (zH 4 (sK zM Tryz.f86 [1,1,1,1,1,1] 0 (eK Tryz.f86 R)))))
def lV(a:zQ)(b:List Int)(R:yC)(c:List Int)(d:Nat)(e f:Int):Prop:=LP zM Tryz.f86 [1,1,1,1,0,1,0,1,0,0] 2 d ⟨[(1,.sl .int b),(2,.iptr (pB a []) 0),(5,.own 5),(7,dI e),(8,dI f)],[(5,.row 3 .int c)]⟩ (zH 2 (sK zM Tryz.f86 [1,1,1,1,1] 0 (eK Tryz.f86 R)))
def nE(R:yC)(a:List Int)(b:Nat)(c:Int)(d:Nat)(e:Int):Prop:=LP zM Tryz.f86 [1,1,1,1,1,0,1,0,1,1,1,1,1,1,1,0,0,1,0,0,1,0,0,1,0,0] 7 d ⟨[(5,.own 5),(9,dI c),(10,dI e)],[(5,.row 3 .int a)]⟩ (zH 7 (zH 6 (sK zM Tryz.f86 [1,1,1,1,1,0,1,0,1,1,1,1,1,1,1,0,0,1,0,0,1,1] 5 (iK zM Tryz.f86 [1,1,1,1,1,0,1,0,1,1,1,1,1,1,1,0,0,1,0,0] 5 b (zH 5 (sK zM Tryz.f86 [1,1,1,1,1,0,1,0,1,1,1,1,1,1,1,0,1] 4 (zH 4 (sK zM Tryz.f86 [1,1,1,1,1,1] 0 (eK Tryz.f86 R)))))))))
def nF(R:yC)(a:List Int)(b:Nat)(c:Int):Prop:=LP zM Tryz.f86 [1,1,1,1,1,0,1,0,1,1,1,1,1,1,1,0,0,1,0,0] 5 b ⟨[(5,.own 5),(9,dI c)],[(5,.row 3 .int a)]⟩ (zH 5 (sK zM Tryz.f86 [1,1,1,1,1,0,1,0,1,1,1,1,1,1,1,0,1] 4 (zH 4 (sK zM Tryz.f86 [1,1,1,1,1,1] 0 (eK Tryz.f86 R)))))
def nG(a:zQ)(R:yC)(b:List Int)(c:Nat)(d:Int):Prop:=LP zM Tryz.f86 [1,1,1,1,1,0,1,0,1,1,1,1,1,1,1,1,1,0,0,1,0,0] 9 c ⟨[(2,.iptr (pB a []) 0),(5,.own 5),(11,dI d)],[(5,.row 3 .int b)]⟩ (zH 9 (sK zM Tryz.f86 [1,1,1,1,1,0,1,0,1,1,1,1,1,1,1,1,1,0,1] 4 (zH 4 (sK zM Tryz.f86 [1,1,1,1,1,1] 0 (eK Tryz.f86 R)))))
def oB(a:zQ)(R:yC)(b:List Int)(c:Nat)(d:Int):Prop:=LP zM Tryz.f86 [1,1,1,1,1,0,1,0,1,1,1,1,1,1,1,1,1,1,1,0,0,1,0,0] 11 c ⟨[(2,.iptr (pB a []) 0),(5,.own 5),(12,dI d)],[(5,.row 3 .int b)]⟩ (zH 11 (sK zM Tryz.f86 [1,1,1,1,1,0,1,0,1,1,1,1,1,1,1,1,1,1,1,0,1] 4 (zH 4 (sK zM Tryz.f86 [1,1,1,1,1,1] 0 (eK Tryz.f86 R)))))
def rF(R:yC)(a:List Int)(b:Nat)(c:Bool)(d:Int):Prop:=LP zM Tryz.f86 [1,1,1,1,1,0,1,0,1,1,1,1,1,1,1,1,1,1,1,1,1,1,1,0,1,0,1,0,0] 13 b ⟨[(5,.own 5),(13,dB c),(14,dI d)],[(5,.row 3 .int a)]⟩ (zH 13 (sK zM Tryz.f86 [1,1,1,1,1,0,1,0,1,1,1,1,1,1,1,1,1,1,1,1,1,1,1,0,1,1] 4 (zH 4 (sK zM Tryz.f86 [1,1,1,1,1,1] 0 (eK Tryz.f86 R)))))
def oC(a:zQ)(b:List Int)(R:yC)(c:Nat)(d:Int):Prop:=LP zM Tryz.f86 [1,1,1,1,1,0,1,0,1,1,1,1,1,1,1,1,1,1,1,1,1,1,1,1,1,0,0,1,0,0] 15 c ⟨[(1,.sl .int b),(2,.iptr (pB a []) 0),(15,dI d)],[]⟩ (zH 15 (sK zM Tryz.f86 [1,1,1,1,1,0,1,0,1,1,1,1,1,1,1,1,1,1,1,1,1,1,1,1,1,0,1] 4 (zH 4 (sK zM Tryz.f86 [1,1,1,1,1,1] 0 (eK Tryz.f86 R)))))
def lW(a:zQ)(b:List Int)(R:yC)(c:Nat)(d:Int)(e:List Int):Prop:=LP zM Tryz.f86 [1,1,0,1,0,0] 0 c ⟨[(1,.sl .int b),(2,.iptr (pB a []) 0),(5,.own 5),(6,dI d)],[(5,.row 3 .int e)]⟩ (zH 0 (sK zM Tryz.f86 [1,1,1] 0 (eK Tryz.f86 R)))
theorem Ug(a:zQ)(d:List Int)(R:yC)(b:List Int)(f:Nat)(e c:Int):lV a d R b (f+1) e c=
 (zN (decide (c<(b.length:Int)))
 (wC c b.length=true∧
 wC c a.consts.length=true∧
 lV a d R b f (xF (e+(xF ((zG .int b c.toNat)*(zG .int a.consts c.toNat))))) (xF (c+1)))
 (zN (decide (a.kind=1))
 (R (dB (decide (e≤a.n))))
 (zN (decide (a.kind=2))
 (R (dB (decide (e=a.n))))
 (zN (decide (a.kind=3))
 (R (dB (!decide (e=a.n))))
 (zN (decide (a.kind=4))
 (∃n5,RN R b n5 0)
 (zN (decide (a.kind=5))
 (∃n9,RO a R b n9 0)
 (zN (decide (a.kind=6))
 (∃n11,Sj a R b n11 0)
 (zN (decide (a.kind=7))
 (wC 0 b.length=true∧
 wC 1 b.length=true∧
 wC 2 b.length=true∧
 R (dB (decide ((xF ((zG .int b 0)*(zG .int b 1)))=(zG .int b 2)))))
 (zN (decide (a.kind=8))
 (∃n13,Sk R b n13 false 1)
 (zN (decide (a.kind=9))
 (∃n15,Sl a d R n15 0)
 (wC 0 a.lits.length=true∧
 wC 0 a.lits.length=true∧
 wC ((zG .lit a.lits 0).var) d.length=true∧
 zX uS [dL (zG .lit a.lits 0),dI (zG .int d (((zG .lit a.lits 0).var).toNat))] .bool λg=>
 zN g
 (wC 0 b.length=true∧
 R (dB (decide ((zG .int b 0)=1))))
 (wC 0 b.length=true∧
 R (dB (decide ((zG .int b 0)=0))))))))))))))):=by kernel_rfl
theorem WJ(R:yC)(a:List Int)(d:Nat)(b:Int)(e:Nat)(c:Int):nE R a d b (e+1) c=
 (zN (decide (c<b))
 (wC b a.length=true∧
 wC c a.length=true∧
 zN (decide ((zG .int a b.toNat)=(zG .int a c.toNat)))
 (R (dB false))
 (nE R a d b e (xF (c+1))))
 (nF R a d (xF (b+1)))):=by kernel_rfl
theorem WK(R:yC)(a:List Int)(c:Nat)(b:Int):nF R a (c+1) b=
 (zN (decide (b<(a.length:Int)))
 (∃n7_2,nE R a c b n7_2 0)
 (R (dB true))):=by kernel_rfl
theorem WL(c:zQ)(R:yC)(a:List Int)(d:Nat)(b:Int):nG c R a (d+1) b=
 (zN (decide (b<(c.consts.length:Int)))
 (wC 0 a.length=true∧
 zN (decide ((zG .int a 0)=b))
 (wC b c.consts.length=true∧
 wC 1 a.length=true∧
 R (dB (decide ((zG .int c.consts b.toNat)=(zG .int a 1)))))
 (nG c R a d (xF (b+1))))
 (R (dB false))):=by kernel_rfl
theorem fx(a:zQ)(R:yC)(c:List Int)(d:Nat)(b:Int):oB a R c (d+1) b=
 (zN (decide (b<(a.rows.length:Int)))
 (wC b a.rows.length=true∧
 zX uR [.sl .int (zG (.list .int) a.rows b.toNat),.sl .int c] .bool λe=>
 zN e
 (R (dB true))
 (oB a R c d (xF (b+1))))
 (R (dB false))):=by kernel_rfl
theorem X0(R:yC)(a:List Int)(c:Nat)(d:Bool)(b:Int):rF R a (c+1) d b=
 (zN (decide (b<(a.length:Int)))
 (wC b a.length=true∧
 wC 0 a.length=true∧
 zN (decide ((zG .int a 0)<(zG .int a b.toNat)))
 (R (dB false))
 (zN d
 (rF R a c true (xF (b+1)))
 (wC b a.length=true∧
 wC 0 a.length=true∧
 rF R a c (decide ((zG .int a b.toNat)=(zG .int a 0))) (xF (b+1)))))
 (R (dB d))):=by kernel_rfl
theorem fy(a:zQ)(c:List Int)(R:yC)(d:Nat)(b:Int):oC a c R (d+1) b=
 (zN (decide (b<(a.lits.length:Int)))
 (wC b a.lits.length=true∧
 wC b a.lits.length=true∧
 wC ((zG .lit a.lits b.toNat).var) c.length=true∧
 zX uS [dL (zG .lit a.lits b.toNat),dI (zG .int c (((zG .lit a.lits b.toNat).var).toNat))] .bool λe=>
 zN e
 (R (dB true))
 (oC a c R d (xF (b+1))))
 (R (dB false))):=by kernel_rfl
theorem Uh(a:zQ)(c:List Int)(R:yC)(e:Nat)(d:Int)(b:List Int):lW a c R (e+1) d b=
 (zN (decide (d<(a.vars.length:Int)))
 (wC d a.vars.length=true∧
 wC (zG .int a.vars d.toNat) c.length=true∧
 zL .int (b.length+([zG .int c ((zG .int a.vars d.toNat).toNat)]).length)=true∧
 lW a c R e (xF (d+1)) (b++([zG .int c ((zG .int a.vars d.toNat).toNat)])))
 (zN (decide (a.kind≤3))
 (∃n2,lV a c R b n2 0 0)
 (zN (decide (a.kind=1))
 (R (dB (decide (0≤a.n))))
 (zN (decide (a.kind=2))
 (R (dB (decide (0=a.n))))
 (zN (decide (a.kind=3))
 (R (dB (!decide (0=a.n))))
 (zN (decide (a.kind=4))
 (∃n5_2,nF R b n5_2 0)
 (zN (decide (a.kind=5))
 (∃n9_2,nG a R b n9_2 0)
 (zN (decide (a.kind=6))
 (∃n11_2,oB a R b n11_2 0)
 (zN (decide (a.kind=7))
 (wC 0 b.length=true∧
 wC 1 b.length=true∧
 wC 2 b.length=true∧
 R (dB (decide ((xF ((zG .int b 0)*(zG .int b 1)))=(zG .int b 2)))))
 (zN (decide (a.kind=8))
 (∃n13_2,rF R b n13_2 false 1)
 (zN (decide (a.kind=9))
 (∃n15_2,oC a c R n15_2 0)
 (wC 0 a.lits.length=true∧
 wC 0 a.lits.length=true∧
 wC ((zG .lit a.lits 0).var) c.length=true∧
 zX uS [dL (zG .lit a.lits 0),dI (zG .int c (((zG .lit a.lits 0).var).toNat))] .bool λf=>
 zN f
 (wC 0 b.length=true∧
 R (dB (decide ((zG .int b 0)=1))))
 (wC 0 b.length=true∧
 R (dB (decide ((zG .int b 0)=0)))))))))))))))):=by kernel_rfl
theorem RP(a:zQ)(b:List Int)(R:yC):FD zM Tryz.f86 [dC a,.sl .int b] R=
 (∃n0,lW a b R n0 0 ([]:List Int)):=by kernel_rfl
theorem Sm(a:zQ)(b:List Int):yY zM Tryz.f86 oN [dC a,.sl .int b]:=xA Tryz.func86 (by kernel_rfl) Tryz.ntmps86 rfl
def gD:xJ:= {own:=[],live:=[(0,([0,1,2,3,9],[1000]))],n:=46}
def nX(a:List (List Int))(b:List Int)(R:VD)(c:Nat)(d e:Int)(f:List Int):Prop:=LP gD Tryz.f87 [1,0,1,0,0] 0 c ⟨[(0,dS a),(1,.sl .int b),(2,.own 1000),(3,dI d),(9,dI e)],[(1000,.row 3 .int f)]⟩ (zH 0 (sK gD Tryz.f87 [1,1] 0 (eH Tryz.f87 [.own 1000] false R)))
theorem Sn(c:List (List Int))(a:List Int)(R:VD)(f:Nat)(d b:Int)(e:List Int):nX c a R (f+1) d b e=
 (zN (decide (b<(a.length:Int)))
 (wC b a.length=true∧
 wC (zG .int a b.toNat) c.length=true∧
 zN (decide (((zG (.list .int) c ((zG .int a b.toNat).toNat)).length:Int)=0))
 (R (dB false) [(1000,.row 3 .int e)])
 (wC b a.length=true∧
 ((zG (.list .int) c ((zG .int a b.toNat).toNat)).length:Int)≠0∧
 wC (d.tmod ((zG (.list .int) c ((zG .int a b.toNat).toNat)).length:Int)) (zG (.list .int) c ((zG .int a b.toNat).toNat)).length=true∧
 wC (zG .int a b.toNat) e.length=true∧
 ((zG (.list .int) c ((zG .int a b.toNat).toNat)).length:Int)≠0∧
 nX c a R f (xF (d.tdiv ((zG (.list .int) c ((zG .int a b.toNat).toNat)).length:Int))) (xF (b+1)) (e.set ((zG .int a b.toNat).toNat) (zG .int (zG (.list .int) c ((zG .int a b.toNat).toNat)) ((d.tmod ((zG (.list .int) c ((zG .int a b.toNat).toNat)).length:Int)).toNat)))))
 (R (dB (decide (d=0))) [(1000,.row 3 .int e)])):=by kernel_rfl
theorem O7(a:List (List Int))(b c:List Int)(d:Int)(R:VD):FH gD Tryz.f87 [dS a,.sl .int b,.own 1000,dI d] [(1000,.row 3 .int c)] [.own 1000] false R=
 (∃n0,nX a b R n0 d 0 c):=by kernel_rfl
theorem QL(a:List (List Int))(b c:List Int)(d:Int):Rb gD Tryz.f87 hU [dS a,.sl .int b,.own 1000,dI d] [(1000,.row 3 .int c)] [.own 1000] false:=Qv Tryz.func87 (by kernel_rfl) Tryz.ntmps87 rfl
def gE:xJ:= {own:=[],live:=[(0,([0,3,5],[]))],n:=18}
def jS(b:List zC)(a:zC)(R:yC)(c:Nat)(d:Int):Prop:=LP gE Tryz.f88 [1,0,1,0,0] 0 c ⟨[(0,.sl .lit b),(3,.iptr [dI a.var,dI a.op,dI a.n] 0),(5,dI d)],[]⟩ (zH 0 (sK gE Tryz.f88 [1,1] 0 (eK Tryz.f88 R)))
theorem ZP(a:List zC)(c:zC)(R:yC)(d:Nat)(b:Int):jS a c R (d+1) b=
 (zN (decide (b<(a.length:Int)))
 (wC b a.length=true∧
 zN (decide ((zG .lit a b.toNat)=c))
 (R (dB true))
 (jS a c R d (xF (b+1))))
 (R (dB false))):=by kernel_rfl
theorem O8(a:List zC)(b:zC)(R:yC):FD gE Tryz.f88 [.sl .lit a,dL b] R=
 (∃n0,jS a b R n0 0):=by kernel_rfl
theorem QM(a:List zC)(b:zC):yY gE Tryz.f88 uT [.sl .lit a,dL b]:=xA Tryz.func88 (by kernel_rfl) Tryz.ntmps88 rfl
def lX:xJ:= {own:=[],live:=[(0,([0,1,5],[]))],n:=27}
def mR(a b:List (List Int))(R:yC)(c:Nat)(d:Int):Prop:=LP lX Tryz.f120 [1,1,0,1,0,0] 0 c ⟨[(0,dS a),(1,dS b),(5,dI d)],[]⟩ (zH 0 (sK lX Tryz.f120 [1,1,1] 0 (eK Tryz.f120 R)))
theorem cK(b c:List (List Int))(R:yC)(d:Nat)(a:Int):mR b c R (d+1) a=
 (zN (decide (a<(b.length:Int)))
 (wC a b.length=true∧
 wC a c.length=true∧
 zX uR [.sl .int (zG (.list .int) b a.toNat),.sl .int (zG (.list .int) c a.toNat)] .bool λe=>
 zN (!e)
 (R (dB false))
 (mR b c R d (xF (a+1))))
 (R (dB true))):=by kernel_rfl
theorem So(a b:List (List Int))(R:yC):FD lX Tryz.f120 [dS a,dS b] R=
 (zN (!decide ((a.length:Int)=(b.length:Int)))
 (R (dB false))
 (∃n0,mR a b R n0 0)):=by kernel_rfl
theorem U1(a b:List (List Int)):yY lX Tryz.f120 lK [dS a,dS b]:=xA Tryz.func120 (by kernel_rfl) Tryz.ntmps120 rfl
def vZ:xJ:= {own:=[],live:=[(1,([1,3,4,5,6,7],[]))],n:=164}
def mS(a:zQ)(R:yC)(b:Nat)(c:Int):Prop:=LP vZ Tryz.f127 [1,1,1,0,1,0,1,1,1,1,1,1,1,0,0,1,0,0] 1 b ⟨[(1,.iptr (pB a []) 0),(3,dI (a.vars.length:Int)),(4,dI (a.consts.length:Int)),(5,dI (a.rows.length:Int)),(6,dI (a.lits.length:Int)),(7,dI c)],[]⟩ (zH 1 (sK vZ Tryz.f127 [1,1,1,0,1,0,1,1,1,1,1,1,1,0,1] 0 (zH 0 (sK vZ Tryz.f127 [1,1,1,1] 0 (eK Tryz.f127 R)))))
def Ui(a:zQ)(R:yC)(b:Nat)(c:Int):Prop:=LP vZ Tryz.f127 [1,1,1,0,1,0,1,1,1,1,1,1,1,0,0,1,0,0] 1 b ⟨[(1,.iptr (pB a []) 0),(3,dI (a.vars.length:Int)),(4,dI (a.consts.length:Int)),(5,dI (a.rows.length:Int)),(6,dI (a.lits.length:Int)),(7,dI c)],[]⟩ (zH 1 (sK vZ Tryz.f127 [1,1,1,0,1,0,1,1,1,1,1,1,1,0,1] 0 (zH 0 (sK vZ Tryz.f127 [1,1,1,1] 0 (eK Tryz.f127 R)))))
theorem cL(a:zQ)(R:yC)(c:Nat)(b:Int):mS a R (c+1) b=
 (zN (decide (b<(a.rows.length:Int)))
 (wC b a.rows.length=true∧
 zN (!decide (((zG (.list .int) a.rows b.toNat).length:Int)=(a.vars.length:Int)))
 (R (dB false))
 (mS a R c (xF (b+1))))
 (zN (decide (1≤(a.vars.length:Int)))
 (zN (decide ((a.consts.length:Int)=0))
 (R (dB (decide ((a.lits.length:Int)=0))))
 (R (dB false)))
 (R (dB false)))):=by kernel_rfl
theorem Sp(a:zQ)(R:yC):FD vZ Tryz.f127 [dC a] R=
 (zN (decide (3<a.kind))
 (zN (!decide (a.n=0))
 (R (dB false))
 (zN (decide (a.kind=1))
 (zN (decide (1≤(a.vars.length:Int)))
 (zN (decide ((a.consts.length:Int)=(a.vars.length:Int)))
 (zN (decide ((a.rows.length:Int)=0))
 (R (dB (decide ((a.lits.length:Int)=0))))
 (R (dB false)))
 (R (dB false)))
 (R (dB false)))
 (zN (decide (a.kind=2))
 (zN (decide (1≤(a.vars.length:Int)))
 (zN (decide ((a.consts.length:Int)=(a.vars.length:Int)))
 (zN (decide ((a.rows.length:Int)=0))
 (R (dB (decide ((a.lits.length:Int)=0))))
 (R (dB false)))
 (R (dB false)))
 (R (dB false)))
 (zN (decide (a.kind=3))
 (zN (decide (1≤(a.vars.length:Int)))
 (zN (decide ((a.consts.length:Int)=(a.vars.length:Int)))
 (zN (decide ((a.rows.length:Int)=0))
 (R (dB (decide ((a.lits.length:Int)=0))))
 (R (dB false)))
 (R (dB false)))
 (R (dB false)))
 (zN (decide (a.kind=4))
 (zN (decide (1≤(a.vars.length:Int)))
 (zN (decide ((a.consts.length:Int)=0))
 (zN (decide ((a.rows.length:Int)=0))
 (R (dB (decide ((a.lits.length:Int)=0))))
 (R (dB false)))
 (R (dB false)))
 (R (dB false)))
 (zN (decide (a.kind=5))
 (zN (decide ((a.vars.length:Int)=2))
 (zN (decide (1≤(a.consts.length:Int)))
 (zN (decide ((a.rows.length:Int)=0))
 (R (dB (decide ((a.lits.length:Int)=0))))
 (R (dB false)))
 (R (dB false)))
 (R (dB false)))
 (zN (decide (a.kind=6))
 (∃n1,mS a R n1 0)
 (zN (decide (a.kind=7))
 (zN (decide ((a.vars.length:Int)=3))
 (zN (decide ((a.consts.length:Int)=0))
 (zN (decide ((a.rows.length:Int)=0))
 (R (dB (decide ((a.lits.length:Int)=0))))
 (R (dB false)))
 (R (dB false)))
 (R (dB false)))
 (zN (decide (a.kind=8))
 (zN (decide (2≤(a.vars.length:Int)))
 (zN (decide ((a.consts.length:Int)=0))
 (zN (decide ((a.rows.length:Int)=0))
 (R (dB (decide ((a.lits.length:Int)=0))))
 (R (dB false)))
 (R (dB false)))
 (R (dB false)))
 (zN (decide (a.kind=9))
 (zN (decide ((a.vars.length:Int)=0))
 (zN (decide ((a.consts.length:Int)=0))
 (R (dB (decide ((a.rows.length:Int)=0))))
 (R (dB false)))
 (R (dB false)))
 (zN (decide ((a.vars.length:Int)=1))
 (zN (decide ((a.consts.length:Int)=0))
 (zN (decide ((a.rows.length:Int)=0))
 (R (dB (decide ((a.lits.length:Int)=1))))
 (R (dB false)))
 (R (dB false)))
 (R (dB false)))))))))))))
 (zN (decide (a.kind=1))
 (zN (decide (1≤(a.vars.length:Int)))
 (zN (decide ((a.consts.length:Int)=(a.vars.length:Int)))
 (zN (decide ((a.rows.length:Int)=0))
 (R (dB (decide ((a.lits.length:Int)=0))))
 (R (dB false)))
 (R (dB false)))
 (R (dB false)))
 (zN (decide (a.kind=2))
 (zN (decide (1≤(a.vars.length:Int)))
 (zN (decide ((a.consts.length:Int)=(a.vars.length:Int)))
 (zN (decide ((a.rows.length:Int)=0))
 (R (dB (decide ((a.lits.length:Int)=0))))
 (R (dB false)))
 (R (dB false)))
 (R (dB false)))
 (zN (decide (a.kind=3))
 (zN (decide (1≤(a.vars.length:Int)))
 (zN (decide ((a.consts.length:Int)=(a.vars.length:Int)))
 (zN (decide ((a.rows.length:Int)=0))
 (R (dB (decide ((a.lits.length:Int)=0))))
 (R (dB false)))
 (R (dB false)))
 (R (dB false)))
 (zN (decide (a.kind=4))
 (zN (decide (1≤(a.vars.length:Int)))
 (zN (decide ((a.consts.length:Int)=0))
 (zN (decide ((a.rows.length:Int)=0))
 (R (dB (decide ((a.lits.length:Int)=0))))
 (R (dB false)))
 (R (dB false)))
 (R (dB false)))
 (zN (decide (a.kind=5))
 (zN (decide ((a.vars.length:Int)=2))
 (zN (decide (1≤(a.consts.length:Int)))
 (zN (decide ((a.rows.length:Int)=0))
 (R (dB (decide ((a.lits.length:Int)=0))))
 (R (dB false)))
 (R (dB false)))
 (R (dB false)))
 (zN (decide (a.kind=6))
 (∃n1_2,Ui a R n1_2 0)
 (zN (decide (a.kind=7))
 (zN (decide ((a.vars.length:Int)=3))
 (zN (decide ((a.consts.length:Int)=0))
 (zN (decide ((a.rows.length:Int)=0))
 (R (dB (decide ((a.lits.length:Int)=0))))
 (R (dB false)))
 (R (dB false)))
 (R (dB false)))
 (zN (decide (a.kind=8))
 (zN (decide (2≤(a.vars.length:Int)))
 (zN (decide ((a.consts.length:Int)=0))
 (zN (decide ((a.rows.length:Int)=0))
 (R (dB (decide ((a.lits.length:Int)=0))))
 (R (dB false)))
 (R (dB false)))
 (R (dB false)))
 (zN (decide (a.kind=9))
 (zN (decide ((a.vars.length:Int)=0))
 (zN (decide ((a.consts.length:Int)=0))
 (R (dB (decide ((a.rows.length:Int)=0))))
 (R (dB false)))
 (R (dB false)))
 (zN (decide ((a.vars.length:Int)=1))
 (zN (decide ((a.consts.length:Int)=0))
 (zN (decide ((a.rows.length:Int)=0))
 (R (dB (decide ((a.lits.length:Int)=1))))
 (R (dB false)))
 (R (dB false)))
 (R (dB false))))))))))))):=by kernel_rfl
theorem U2(a:zQ):yY vZ Tryz.f127 lL [dC a]:=xA Tryz.func127 (by kernel_rfl) Tryz.ntmps127 rfl
def XH:xJ:= {own:=[],live:=[],n:=5}
theorem QO(a:Int)(R:yC):FD XH Tryz.f128 [dI a] R=
 (zX xU [dI a,dI (-1000),dI 1000] .bool λb=>
 R (dB b)):=by kernel_rfl
theorem RQ(a:Int):yY XH Tryz.f128 sR [dI a]:=xA Tryz.func128 (by kernel_rfl) Tryz.ntmps128 rfl
end Go.Proofs.YteimklbiapnfhaaGreat
