/- Texts of this proof, one behind the other: nothing is handed in but what is proved here; no condition. -/
import Derived.Test.YtdnmkinmcdihnaaGreatDoorRows
import Derived.ProofKit
import Derived.LaidMore
import Derived.OpenShut
import Derived.Stop.Joined
import Derived.SizedLaws
import Derived.Deep.Slices
import Derived.Deep.Fields
import Derived.Test.YtdnmkinmcdihnaaGreatDoorProg
import Derived.Test.YtdnmkinmcdihnaaGreatDoorZF
set_option linter.unusedSectionVars false
set_option linter.unusedVariables false
set_option linter.unusedSimpArgs false
namespace Go.Proofs.YtdnmkinmcdihnaaGreatDoor
open Go.Proofs.Tryz
open Go.RowKit
variable[Lo]
theorem H1{t:Ty}{xs:List t.den}(h:En (.list t) xs)(hb:1<=t.bytes):xs.length<=9223372036854775807:=by
 have h1:xs.length*t.bytes<=140737488355328:=h.1;have:xs.length*1<=xs.length*t.bytes:=Acw _ hb;omega
theorem vX:AA prog wE .int:=TN λa0 ha=>by
 rw[TM];refine up (I:=λn v a=>oX n a v) 0 a0.length rfl (Is _) (H1 ha (by decide)) (λk a=>a.length=a0.length) rfl λn k a _ hk hl hn=> ?_
 rw[Vj]
 by_cases h:k<a.length
 ·rw[yD h]
  exact⟨zI h,λy hy=>hn (by omega) y (hy.trans hl)⟩
 ·obtain rfl:k=a.length:=by omega
  rw[zY];trivial
theorem UX:AA prog qF .lit:=VK λa0 ha=>by
 rw[VJ];refine up (I:=λn v a=>pS n a v) 0 a0.length rfl (Is _) (H1 ha (by decide)) (λk a=>a.length=a0.length) rfl λn k a _ hk hl hn=> ?_
 rw[XS]
 by_cases h:k<a.length
 ·rw[yD h]
  exact⟨zI h,λy hy=>hn (by omega) y (hy.trans hl)⟩
 ·obtain rfl:k=a.length:=by omega
  rw[zY];trivial
theorem o7:AA prog vW .step:=UJ λa0 ha=>by
 rw[UI];refine up (I:=λn v a=>oC n a v) 0 a0.length rfl (Is _) (H1 ha (by decide)) (λk a=>a.length=a0.length) rfl λn k a _ hk hl hn=> ?_
 rw[Wu]
 by_cases h:k<a.length
 ·rw[yD h]
  exact⟨zI h,UX,λy hy=>⟨zI (by omega),λz hz=>hn (by omega) z (hz.trans (hy.trans hl))⟩⟩
 ·obtain rfl:k=a.length:=by omega
  rw[zY];trivial
end Go.Proofs.YtdnmkinmcdihnaaGreatDoor
namespace Go.Proofs.YtdnmkinmcdihnaaGreatDoor
open Go.Proofs.Tryz
open Go.RowKit
section
variable[Lo]
theorem UY(m:zE):vL oW [dM m] (dM m):=
 VN m λok=>by
  have hok:∀c∈[D.sl .var m.vars,.sl .con m.cons,.int .i64 m.goal,.int .i64 m.var],okC c:=Qm ok;have hv:En (.list .var) m.vars:=hok _ (Aaa ..);have hc:En (.list .con) m.cons:=hok _ (Aac _ (Aaa ..));have hcl:m.cons.length*112<=140737488355328:=hc.1;rw[UN];refine⟨xC (t:=.var) (by have:=hv.1;simpa using this),?_⟩
  refine up (I:=λn v (a:AcV)=>oF _ n v m.cons m.goal m.var ([]:AcU) ([]:AcV) 0 0 a ([]++m.vars)) 0 m.cons.length rfl (Is _) (by omega) (λk a=>a=m.cons.take k) rfl λn k a _ hk ha hn=> ?_
  subst ha;rw[WA]
  by_cases h:k<m.cons.length
  ·rw[yD h]
   have e:=yA (t:=.con) h;have hcon:En .con m.cons[k]:=hc.2 _ (AT h);obtain⟨_,_,h1,h2,h3,h4⟩:=hcon;have h3l:m.cons[k].rows.length*24<=140737488355328:=h3.1;refine⟨zI h,TT _ _ _ _ _ _ _ _ _ _ (xC (t:=.int) ?_) (xC (t:=.int) ?_) (xC (t:=.lit) ?_) ?_⟩
   ·rw[e,IS,Aat];exact h1.1
   ·rw[e,IS,Aat];exact h2.1
   ·rw[e,IS,Aat];exact h4.1
   ·rw[Vr m,e]
    refine up (I:=λn2 v (b:AcQ)=>oE _ n (k:Int) m.cons m.goal m.var ([]:AcU) ([]:AcV) 0 0 n2 v (m.cons.take k) b ([]++m.vars) ([]++m.cons[k].vars) ([]++m.cons[k].consts) ([]++m.cons[k].lits)) 0 m.cons[k].rows.length rfl (Is _) (by omega) (λj b=>b=m.cons[k].rows.take j) rfl λn2 j b _ hj hb hn2=> ?_
    subst hb;rw[Wz,e]
    by_cases h5:j<m.cons[k].rows.length
    ·rw[yD h5,yA (t:=.list .int) h5,Aa7]
     have h6:En (.list .int) m.cons[k].rows[j]:=h3.2 _ (AT h5);refine⟨zI h5,xC (t:=.int) ?_,xC (t:=.list .int) ?_,hn2 h5 _ (Aay h5)⟩
     ·rw[IS,Aat];exact h6.1
     ·rw[Aak]
      show(_+1)*24<=_
      omega
    ·obtain rfl:j=m.cons[k].rows.length:=by omega
     rw[zY];refine⟨xC (t:=.con) ?_,hn h _ ?_⟩
     ·rw[Aak]
      show(_+1)*112<=_
      omega
     ·rw[Aam,Aa7,Aa7,Aa7]
      exact Aay h
  ·obtain rfl:k=m.cons.length:=by omega
   rw[zY,Aam,Aa7]
end
end Go.Proofs.YtdnmkinmcdihnaaGreatDoor
namespace Go.Proofs.YtdnmkinmcdihnaaGreatDoor
open Go.Proofs.Tryz
open Go.RowKit
section
variable[Lo]
theorem zev(s:AcL):(YJ s).2.2=0/\yY (YJ s).1=0\/(YJ s).2.2≠0/\(YJ s).1=HD:=by
 unfold YJ;split
 ·rename_i h;exact .inr ⟨h,rfl⟩
 ·unfold zib
  cases hm:YI yG tE (pM s.data.toList).1 with
  |ok x j=>
   obtain⟨m,ns⟩:=x;show(zia m).2.2=0/\yY (zia m).1=0\/(zia m).2.2≠0/\(zia m).1=HD
   unfold zia
   by_cases hc:yY m=0
   ·rw[As hc];exact .inl ⟨rfl,hc⟩
   ·rw[An hc];exact .inr ⟨hc,rfl⟩
  |err j e=>
   refine .inr ⟨?_,rfl⟩;show e≠0
   rcases Lv hm with rfl|rfl<;>decide
theorem zjY(s:AcL):(YJ s).1.vars.length<=6/\(YJ s).1.cons.length<=8:=by
 rcases zev s with⟨_,h⟩|⟨_,h⟩
 ·exact⟨(mM h).vars,(mM h).cons⟩
 ·rw[h];exact⟨Is _,Is _⟩
theorem znf(m:zE):(zcd m).length<=200:=by
 unfold zcd;split
 ·rw[Aak];omega
 ·exact Is _
theorem zjZ{m:zE}{fuel:Int}(h:iU m fuel=0):zdC m [] (mR m fuel).proof=0:=by
 obtain⟨hm,k,rfl,_,hx⟩:=zgA h;have h0:Ps m [] []=0:=rfl
 have hs:Ps m [] (mR m (k:Int)).proof=0:=by
  cases hx with
  |found q1 q2 q3=>rw[q3];exact h0
  |none q1 q2 q3 q4=>exact zeu (g:=[]) (λc hc=>(by cases hc)) (by decide) q3 q4
  |unknown q1 q2 q3 q4=>rw[q3];exact h0
 rw[zdC,hm,hs];rfl
theorem zng(m:zE)(fuel:Int):(mR m fuel).values.length<=6:=by
 by_cases h:iU m fuel=0
 ·obtain⟨hm,k,rfl,_,hx⟩:=zgA h
  have hv:=(mM hm).vars;cases hx with
  |found q1 q2 q3=>rw[q2.len];exact hv
  |none q1 q2 q3 q4=>rw[q2];exact Is _
  |unknown q1 q2 q3 q4=>rw[q2];exact Is _
 ·rw[zpT h];exact Is _
end
section
variable[Lo]{m:zE}{s:AcL}{fuel:Int}{s1:T5}{s2:Int}{n0:Nat}{v3 c98 g0 g1:Int}
theorem zpU{a:AcP}{b:AcW}{c:AcU}{d:AcV}(hd:d.length<=9223372036854775807)(h0:∀a b,wQ m s fuel s1 s2 n0 (yU (v3+1)) c98 a b):
  ∃n6,rS m s fuel s1 s2 n0 v3 n6 0 c98 a b c d g0 g1:=by
 refine up (I:=λn v (x:AcP×AcW×AcU×AcV)=>rS m s fuel s1 s2 n0 v3 n v c98 x.1 x.2.1 x.2.2.1 x.2.2.2 g0 g1) (a:=(a,b,c,d)) 0 d.length rfl (Is _) hd (λk x=>x.2.2.2.length=d.length) rfl λn k x _ hk hl hn=> ?_
 rw[Wv]
 by_cases h:k<x.2.2.2.length
 ·rw[yD h]
  exact⟨zI h,vX,λy1 _ y2 _ y3 _ y4 h4=>⟨zI (by omega),λz1 _ z2 _ z3 _ z4 h8=>hn (by omega) (z1,z2,z3,z4) (h8.trans (h4.trans hl))⟩⟩
 ·obtain rfl:k=x.2.2.2.length:=by omega
  rw[zY];exact⟨vX,λy1 _ y2 _ y3 _ y4 _=>h0 _ _⟩
theorem zpV{a:AcP}{b:AcW}{c:AcU}{d:AcV}(hc:c.length<=9223372036854775807)(hd:d.length<=9223372036854775807)(h0:∀a b,wQ m s fuel s1 s2 n0 (yU (v3+1)) c98 a b):
  ∃n4,rT m s fuel s1 s2 n0 v3 n4 0 c98 a b c d g0 g1:=by
 refine up (I:=λn v (x:AcP×AcW×AcU×AcV)=>rT m s fuel s1 s2 n0 v3 n v c98 x.1 x.2.1 x.2.2.1 x.2.2.2 g0 g1) (a:=(a,b,c,d)) 0 c.length rfl (Is _) hc (λk x=>x.2.2.1.length=c.length/\x.2.2.2.length=d.length) ⟨rfl,rfl⟩ λn k x _ hk hl hn=> ?_
 rw[Ww];obtain⟨hl1,hl2⟩:=hl
 by_cases h:k<x.2.2.1.length
 ·rw[yD h]
  exact⟨zI h,λy1 _ y2 _ y3 h3 y4 h4=>hn (by omega) (y1,y2,y3,y4) ⟨h3.trans hl1,h4.trans hl2⟩⟩
 ·obtain rfl:k=x.2.2.1.length:=by omega
  rw[zY];exact zpU (by rw[hl2];exact hd) h0
theorem zgB{l:AcQ}{l2 a:AcP}{b:AcW}{c:AcU}{d:AcV}(hl0:l.length<=9223372036854775807)(hc:c.length<=9223372036854775807)(hd:d.length<=9223372036854775807)(h0:∀a b,wQ m s fuel s1 s2 n0 (yU (v3+1)) c98 a b):
  ∃n2,rU m s fuel s1 s2 n0 v3 n2 l l2 0 c98 a b c d g0 g1:=by
 refine up (I:=λn v (x:(AcQ×AcP)×AcP×AcW×AcU×AcV)=>rU m s fuel s1 s2 n0 v3 n x.1.1 x.1.2 v c98 x.2.1 x.2.2.1 x.2.2.2.1 x.2.2.2.2 g0 g1) (a:=((l,l2),a,b,c,d)) 0 l.length rfl (Is _) hl0
  (λk x=>x.1.1.length=l.length/\x.2.2.2.1.length=c.length/\x.2.2.2.2.length=d.length) ⟨rfl,rfl,rfl⟩ λn k x _ hk hl hn=> ?_
 rw[Wx];obtain⟨hl1,hl2,hl3⟩:=hl
 by_cases h:k<x.1.1.length
 ·rw[yD h]
  exact⟨zI h,vX,λy1 h1 y2 _ y3 _ y4 _ y5 h5 y6 h6=>hn (by omega) ((y1,y2),y3,y4,y5,y6) ⟨h1.trans hl1,h5.trans hl2,h6.trans hl3⟩⟩
 ·obtain rfl:k=x.1.1.length:=by omega
  rw[zY];exact⟨vX,λy1 _ y2 _ y3 _ y4 _ y5 h5 y6 h6=>zpV (by rw[h5,hl2];exact hc) (by rw[h6,hl3];exact hd) h0⟩
theorem zj0(m:zE)(s:AcL)(fuel:Int){a:AcP}{b:AcW}:∃n0,wQ m s fuel (mR m fuel) (iU m fuel) n0 0 (mR m fuel).verdict a b:=by
 refine up (I:=λn v (x:AcP×AcW)=>wQ m s fuel (mR m fuel) (iU m fuel) n v (mR m fuel).verdict x.1 x.2) (a:=(a,b)) 0 2 rfl (by omega) (by omega) (λ_ _=>True) trivial λn k x _ hk _ hn=> ?_
 rw[Wy];obtain⟨hv,hc⟩:=zjY s;have hl:=znf m
 by_cases h:k<2
 ·refine dt (by omega) ?_
  refine Zt (t:=.fr .ans) (u:=.int) (oT.unA (YM m fuel)) ?_;refine Zt (t:=.fr .ans) (u:=.int) (oT.unA (Mu m fuel)) ?_;refine ze0 (t:=.fr (.list (.list .int))) (u:=.bool) (v:=.int) (oT.unA (RN m)) ?_;refine Zt (t:=.fr (.list .int)) (u:=.int) (oT.unA (FZ m 0)) ?_;refine ze0 (t:=.fr .mdl) (u:=.int) (v:=.int) (PZ s) ?_;refine Zt (t:=.bool) (u:=.int) (oT.unA (Vd m [] (mR m fuel).proof)) ?_;refine zG (oT.unA (Ya m m)) (bnf (Aaf rfl) (dnf rfl (dnf rfl ?_)));refine zG (oT.unA (tQ _ _)) (bnf (Aaf (Aa7 _).symm) ?_);have h0:∀a b,wQ m s fuel (mR m fuel) (iU m fuel) n (yU ((k:Int)+1)) (mR m fuel).verdict a b:=λa b=>hn h (a,b) trivial
  refine zC (λe=>dnf (zjZ (BY e)) ?_) λ_=> ?_
  ·exact⟨vX,λa1 h1 a2 _ a3 _ a4 _ a5 _ a6 _ a7 _ a8 _ a9 h9 a10 h10=>⟨vX,λb1 i1 b2 _ b3 _ b4 _ b5 _ b6 _ b7 _ b8 _ b9 i9 b10 i10=>⟨o7,λc1 j1 c2 _ c3 _ c4 _ c5 _ c6 _ c7 _ c8 _ c9 j9 c10 j10=>⟨o7,λd1 k1 d2 _ d3 _ d4 _ d5 _ d6 _ d7 _ d8 _ d9 k9 d10 k10=>
    zgB (by rw[k1,j1,i1,h1];omega) (by rw[k9,j9,i9,h9];omega) (by rw[k10,j10,i10,h10];omega) h0⟩⟩⟩⟩
  ·exact⟨vX,λa1 h1 a2 _ a3 _ a4 _ a5 _ a6 _ a7 _ a8 _ a9 h9 a10 h10=>⟨vX,λb1 i1 b2 _ b3 _ b4 _ b5 _ b6 _ b7 _ b8 _ b9 i9 b10 i10=>⟨o7,λc1 j1 c2 _ c3 _ c4 _ c5 _ c6 _ c7 _ c8 _ c9 j9 c10 j10=>⟨o7,λd1 k1 d2 _ d3 _ d4 _ d5 _ d6 _ d7 _ d8 _ d9 k9 d10 k10=>
    zgB (by rw[k1,j1,i1,h1];omega) (by rw[k9,j9,i9,h9];omega) (by rw[k10,j10,i10,h10];omega) h0⟩⟩⟩⟩
 ·exact df (by omega) rfl
theorem znh(m:zE)(s:AcL)(fuel:Int)(hs:(mR m fuel).values.length*8<=140737488355328):Sg prog EvS zS (zbc 3 (vB Tryz.f3)) 0 ⟨[(1,.str s),(2,dI fuel),(3,.ptr 3 0),(6,dB false),(7,.ptr 7 0)],[(3,.cells [.sl (.od .var) m.vars,.sl (.od .con) m.cons,dI m.goal,dI m.var]),(7,.cells [.sl (.od .var) m.vars,.sl (.od .con) m.cons,dI m.goal,dI m.var])]⟩ (zc5 6):=by
 rw[UL];refine Zt (t:=.fr .ans) (u:=.int) (oT.unA (YM m fuel)) ?_;have hr:yX .int (([]:AcP).length+(mR m fuel).values.length)=true:=xC (t:=.int) (by rw[IS,Aat];exact hs)
 have hp:=zj0 m s fuel (a:=(mR m fuel).values) (b:=(mR m fuel).proof)
 repeat'(first|exact hr|exact hp|refine And.intro ?_ ?_)
end
def rmL(m:zE)(s:AcL)(fuel:Int):St:=
 ⟨[(1,.str s),(2,dI fuel),(3,.ptr 3 0),(6,dB false),(7,.ptr 7 0)],[(3,.cells [.sl .var m.vars,.sl .con m.cons,dI m.goal,dI m.var]),(7,.cells [.sl .var m.vars,.sl .con m.cons,dI m.goal,dI m.var])]⟩
 local instance:Lo:=LoT
theorem T4(m:zE)(s:AcL)(fuel:Int): @oT LoT prog Si [dM m,.str s,dI fuel] (dB true):=by
 refine zqW (A1:=Zc) (A2:=zS) (fn:=Tryz.f3) (body:=vB Tryz.f3) (n:=3) (i:=6) (pubs:=[]) (L:=([1,2,3,6,7],[3,7]))
  (Q:=λσ=>σ=rmL m s fuel) (@L3 LoT) K6 zk2 func3 (by kernel_rfl) (by kernel_rfl) (by rw[ntmps3];rfl) (by rw[ntmps3];rfl) (by rw[ntmps3];exact Aau rfl) (by kernel_rfl) ?_ ?_ ?_
 ·rintro σ rfl;rfl
 ·intro ok
  rw[UK];exact zG Tv (bnf rfl (zG zej (bnf rfl (zG UW (bnf rfl (zG Rk (bnf rfl (zG TD (bnf rfl (zG (t:=.mdl) (UY m) rfl))))))))))
 ·rintro σ rfl new
  exact @znh ⟨new⟩ m s fuel (by have:=zng m fuel;omega)
end Go.Proofs.YtdnmkinmcdihnaaGreatDoor
namespace Go.Proofs.YtdnmkinmcdihnaaGreatDoor
open Go.Proofs.Tryz
open Go.ChangeShapes Go.WideShapes Go.ChangeAt Go.RowKit
variable[Lo]
def zgC:List (String×DataW Unit):=[("math/bits.deBruijn32tab",Rows.laid_math_bits_deBruijn32tab),("math/bits.deBruijn64tab",Rows.laid_math_bits_deBruijn64tab),("internal/strconv.uint64pow10",Rows.laid_internal_strconv_uint64pow10),("strconv.ErrRange",Rows.laid_strconv_ErrRange),("strconv.ErrSyntax",Rows.laid_strconv_ErrSyntax)]
theorem zr7:(Rows.laid_internal_strconv_uint64pow10:DataW Unit)=Lib.tabData .u64 Lib.pow10Tab:=by kernel_rfl
theorem zj1:∃g t e n,prog.globalNamed "internal/strconv.uint64pow10" =some g/\(prog.globals[g]?).map (·.type)=some t/\prog.underlying t=some (.array n e)/\prog.underlying e=some (.int .u64)/\prog.cellsOf e=1/\prog.cellsOf t=n:=
 ⟨0,281,237,20,by kernel_rfl,by kernel_rfl,by kernel_rfl,by kernel_rfl,by kernel_rfl,by kernel_rfl⟩
theorem zgD{W:World}(h:laidMetH prog zgC W):Lib.TabIs prog W "internal/strconv.uint64pow10" .u64 Lib.pow10Tab:=by
 rw[MakeChecks.laidMetH_plain _ _ _ (by kernel_rfl)]at h
 obtain⟨g,t,e,n,e1,e2,e3,e4,e5,e6⟩:=zj1;obtain⟨ps,⟨g0,t0,cs0,f0,p0,q0,hg0,ht0,hv0,hd0,⟨g1,t1,cs1,f1,p1,q1,hg1,ht1,hv1,hd1,⟨g2,t2,cs2,f2,p2,q2,hg2,ht2,hv2,hd2,_⟩,_⟩,_⟩,_⟩:=h;obtain rfl:=Option.some.inj (e1.symm.trans hg2);obtain rfl:=Option.some.inj (e2.symm.trans ht2);unfold Lib.TabIs;rw[zr7]at hd2
 rw[hv2,<-Lib.cells_of_tab e3 e4 e5 e6 hd2]
theorem zpW(os:Os)(args:Array Value):laidMetH prog zgC ((World.doorLaid prog 62 os).forCall (λ_ _=>0) ⟨#[],args,[]⟩).memory:=
 laidMetH_of_parts3 (fuel:=8) (laidMet_of_run' 8 (by kernel_rfl) (by kernel_rfl)) (by kernel_rfl) (by kernel_rfl)
end Go.Proofs.YtdnmkinmcdihnaaGreatDoor
namespace Go.Proofs.YtdnmkinmcdihnaaGreatDoor
open Go.Proofs.Tryz
open Go.RowKit Go.ChangeShapes Go.WideShapes Go.Deep
def sF(α:Type)[xU α](P:AcO)(t:AcN):Prop:=
 P.cellsOf t=xU.size α/\∀(H:Type) (enc:AcN×Value->H) (w:World) (fuel:Nat) (cs:List Value) (x:DataW H×List MemPlace),
  DataW.trod enc P w 0 (λ_=>true) true fuel t cs=some x->(∀n∈x.1.weights P t,n<=reachBytes)->∃y:α,xU.rd w (λb=>b<w.heap.size) cs y
theorem zj2{P:AcO}{t:AcN}(ht:P.underlying t=some (.int .i64))(hc:P.cellsOf t=1):sF Int P t:=
 ⟨hc,λH enc w fuel cs x h _=>by
  obtain⟨n,rfl,_,hw⟩:=DataW.trod_int ht h;refine⟨n,rfl,?_⟩;simpa[xE,Lit.wf,IntKind.min,IntKind.max,IntKind.signed,IntKind.bits]using hw⟩
theorem zj3{P:AcO}{t:AcN}(ht:P.underlying t=some .string)(hc:P.cellsOf t=1):sF AcL P t:=
 ⟨hc,λH enc w fuel cs x h hw=>by
  obtain⟨s,rfl,rfl,_⟩:=DataW.trod_string ht h;have:=hw s.data.toList.length (by simp[DataW.weights])
  have hr:reachBytes<=140737488355328:=by decide
  exact⟨s,rfl,by simp at this;omega⟩⟩
theorem GW{H:Type}{P:AcO}{e:AcN}:∀ {l:List (DataW H)} {d:DataW H},d∈l->∀n∈d.weights P e,n∈DataW.weightsAll P e l
 |x::l,d,hd,n,hn=>by
  simp only[DataW.weightsAll,Aai];rcases Aad.1 hd with rfl|h
  ·exact .inl hn
  ·exact .inr (GW h n hn)
theorem zgE(b o n:Nat):(⟨b,o,none⟩:Addr).add n=⟨b,o+n,none⟩:=by unfold Addr.add;split<;>simp_all
theorem XN{α:Type}[xU α]{P:AcO}{t e:AcN}(ht:P.underlying t=some (.slice e))(hc:P.cellsOf t=1)(hb:P.bytesOf e=xU.bytes α)(he:sF α P e):sF (List α) P t:=
 ⟨hc,λH enc w fuel cs x h hw=>by
  rcases open_slice ht h with⟨rfl,rfl⟩|⟨a,len,cap,m,n,D,Pl,rfl,_,hl,hm,hmm,rfl,hi⟩
  ·exact⟨[],none,0,rfl,by simp,by simp,by simp,λ_=>rfl,λh=>At h (by simp)⟩
  ·have hml:len<=m:=by rw[hmm];split<;>omega
   have hall:∀i,i<len->∀n∈(D i).weights P e,n<=reachBytes:=λi hi' n hn=>hw n (by
    simp only[DataW.weights,ht,Aad,Aai];exact .inr (.inl (GW (OF.2 ⟨i,Aa3.2 hi',rfl⟩) n hn)))
   have hex:∀i:Fin len,∃y:α,∃cs',w.cells? 0 (a.add (i*xU.size α)) (xU.size α)=some cs'/\xU.rd w (λb=>b<w.heap.size) cs' y:=λi=>by
    obtain⟨cs',h1,h2⟩:=hi i (by omega)
    rw[he.1]at h1
    obtain⟨y,hy⟩:=he.2 H enc w n cs' _ h2 (hall i i.2);exact⟨y,cs',h1,hy⟩
   let f:Fin len->α:=λi=>(hex i).choose
   have hf:∀i:Fin len,∃cs',w.cells? 0 (a.add (i*xU.size α)) (xU.size α)=some cs'/\xU.rd w (λb=>b<w.heap.size) cs' (f i):=λi=>(hex i).choose_spec
   have hbytes:=hw ((len+(m-len))*P.bytesOf e) (by simp[DataW.weights,ht])
   have hr:reachBytes<=140737488355328:=by decide
   have hlb:len*xU.bytes α<=(len+(m-len))*P.bytesOf e:=by rw[hb];exact Aa8 _ (by omega)
   refine⟨List.ofFn f,some a,cap,by simp,by simp;omega,by simpa using hl,by simpa[maxLen]using hm,(λe=>by cases e),λhn=> ?_⟩
   simp at hn
   obtain⟨b,o,sp⟩:=a
   have hsp:sp=none:=by
    obtain⟨cs',h1,_⟩:=hf ⟨0,hn⟩;obtain⟨_,hl1,hat⟩:=World.cells?_some h1;have hp:0<xU.size α:=xU.pos;have h0:=hat 0 hp;rw[Aal (by omega)]at h0
    simpa[Addr.add]using World.cell?_spot h0
   subst hsp
   have hblt:b<w.heap.size:=by
    obtain⟨cs',h1,_⟩:=hf ⟨0,hn⟩;obtain⟨_,hl1,hat⟩:=World.cells?_some h1;have hp:0<xU.size α:=xU.pos;have h0:=hat 0 hp;rw[Aal (by omega)]at h0
    have:=World.block_lt_of_cell? _ _ h0;simpa[Addr.add]using this
   refine⟨b,o,rfl,hblt,λi y hy=> ?_⟩
   have hil:i<len:=by have:=(AaB.1 hy).1;simpa using this
   have hy':y=f ⟨i,hil⟩:=by simpa[Ab1,hil]using hy.symm
   subst hy';obtain⟨cs',h1,h2⟩:=hf ⟨i,hil⟩;obtain⟨_,hl1,hat⟩:=World.cells?_some h1;refine⟨cs',h2,λj u hu=> ?_⟩
   have hj:j<xU.size α:=by have:=(AaB.1 hu).1;omega
   have:=hat j hj;rw[zgE,zgE,hu]at this
   exact this⟩
theorem Uw{P:AcO}{t:AcN}{fs:Array Field}{H:Type}{enc:AcN×Value->H}{w:World}{fuel:Nat}{cs:List Value}{x:DataW H×List MemPlace}(ht:P.underlying t=some (.struct fs))(hone:oneCellFields P fs=true)(hc:P.cellsOf t=fs.size)
  (h:DataW.trod enc P w 0 (λ_=>true) true fuel t cs=some x) (hw:∀n∈x.1.weights P t,n<=reachBytes):
  cs.length=fs.size/\∃n,∀(i:Nat) (f:Field),fs[i]? =some f->∃v y,cs[i]? =some v/\DataW.trod enc P w 0 (λ_=>true) true n f.type [v]=some y/\∀m∈y.1.weights P f.type,m<=reachBytes:=by
 obtain⟨xs,n,_,rfl,hlen,hxl,hf⟩:=DataW.trod_struct ht h;refine⟨by omega,n,λi f hi=> ?_⟩
 have hif:i<fs.size:=(Abd.1 hi).1;obtain⟨ho,hk⟩:=hone_of hone i f hi;have h1:=hf i f hi;rw[ho,hk]at h1
 have hil:i<cs.length:=by omega
 have e:(cs.drop i).take 1=[cs[i]]:=by rw[Aa4 hil];rfl
 rw[e]at h1
 have hxi:xs[i]? =some (xs[i]'(by omega)):=Aal (by omega)
 refine⟨cs[i],xs[i]'(by omega),Aal hil,h1.trans hxi,λm hm=>hw m ?_⟩
 simp only[DataW.weights,ht];refine DataW.weights_mem_each (j:=i) (t:=f.type) (d:=(xs[i]'(by omega)).1) ?_ ?_ m hm
 ·rw[Aaw];simp[hi]
 ·rw[Aaw,hxi];rfl
theorem zgF{α:Type}[xU α]{P:AcO}{t:AcN}{H:Type}{enc:AcN×Value->H}{w:World}{v:Value}{d:DataW H}{p:List MemPlace}(ho:sF α P t)(h:DataW.Trod enc P w 0 (λ_=>true) true t v d p)
  (hs:vOf v.cells.toList=v) (hw:∀n∈d.weights P t,n<=reachBytes):∃y:α,Rds w v y:=by
 obtain⟨fuel,hf⟩:=h;obtain⟨y,hy⟩:=ho.2 H enc w fuel _ _ hf hw;exact⟨y,v.cells.toList,hs.symm,hy⟩
theorem zr8{cs:Array Value}(h:cs.size≠1):vOf (Value.agg cs).cells.toList=.agg cs:=by
 obtain⟨l⟩:=cs
 match l,h with
 |[],_=>rfl
 |[a],h=>exact At rfl h
 |a::b::l,_=>rfl
theorem zpX{H:Type}{P:AcO}{ts:List AcN}{ds:List (DataW H)}(h:(DataW.weightsEach P ts ds).all (·<=reachBytes)=true){j:Nat}{t:AcN}{d:DataW H}(ht:ts[j]? =some t)(hd:ds[j]? =some d):∀n∈d.weights P t,n<=reachBytes:=λn hn=>by
 have:=Aav.1 h n (DataW.weights_mem_each ht hd n hn);simpa using this
theorem zj4{P:AcO}{t:AcN}{f0 f1 f2:Field}(ht:P.underlying t=some (.struct #[f0,f1,f2]))(hone:oneCellFields P #[f0,f1,f2]=true)(hc:P.cellsOf t=3)(h0:sF Int P f0.type)(h1:sF Int P f1.type)(h2:sF Int P f2.type):sF zA P t:=
 ⟨hc,λH enc w fuel cs x h hw=>by
  obtain⟨hl,n,hf⟩:=Uw ht hone hc h hw;obtain⟨v0,y0,c0,t0,w0⟩:=hf 0 f0 rfl;obtain⟨v1,y1,c1,t1,w1⟩:=hf 1 f1 rfl;obtain⟨v2,y2,c2,t2,w2⟩:=hf 2 f2 rfl;obtain⟨x0,e0,q0⟩:=h0.2 H enc w n _ _ t0 w0;obtain⟨x1,e1,q1⟩:=h1.2 H enc w n _ _ t1 w1;obtain⟨x2,e2,q2⟩:=h2.2 H enc w n _ _ t2 w2
  match cs,hl,c0,c1,c2 with
  |[a,b,c],_,c0,c1,c2=>
   simp at c0 c1 c2 e0 e1 e2
   subst c0 c1 c2 e0 e1 e2;exact⟨⟨x0,x1,x2⟩,rfl,q0,q1,q2⟩⟩
theorem zj5{P:AcO}{t:AcN}{f0 f1 f2:Field}(ht:P.underlying t=some (.struct #[f0,f1,f2]))(hone:oneCellFields P #[f0,f1,f2]=true)(hc:P.cellsOf t=3)(h0:sF AcL P f0.type)(h1:sF Int P f1.type)(h2:sF Int P f2.type):sF zO P t:=
 ⟨hc,λH enc w fuel cs x h hw=>by
  obtain⟨hl,n,hf⟩:=Uw ht hone hc h hw;obtain⟨v0,y0,c0,t0,w0⟩:=hf 0 f0 rfl;obtain⟨v1,y1,c1,t1,w1⟩:=hf 1 f1 rfl;obtain⟨v2,y2,c2,t2,w2⟩:=hf 2 f2 rfl;obtain⟨x0,e0,q0⟩:=h0.2 H enc w n _ _ t0 w0;obtain⟨x1,e1,q1⟩:=h1.2 H enc w n _ _ t1 w1;obtain⟨x2,e2,q2⟩:=h2.2 H enc w n _ _ t2 w2
  match cs,hl,c0,c1,c2 with
  |[a,b,c],_,c0,c1,c2=>
   simp at c0 c1 c2 e0 e1 e2
   subst c0 c1 c2 e0 e1 e2;exact⟨⟨x0,x1,x2⟩,rfl,q0,q1,q2⟩⟩
theorem zj6{P:AcO}{t:AcN}{f0 f1 f2 f3 f4 f5:Field}(ht:P.underlying t=some (.struct #[f0,f1,f2,f3,f4,f5]))(hone:oneCellFields P #[f0,f1,f2,f3,f4,f5]=true)(hc:P.cellsOf t=6)
  (h0:sF Int P f0.type) (h1:sF AcP P f1.type) (h2:sF AcP P f2.type) (h3:sF Int P f3.type) (h4:sF AcQ P f4.type) (h5:sF AcR P f5.type):sF zF P t:=
 ⟨hc,λH enc w fuel cs x h hw=>by
  obtain⟨hl,n,hf⟩:=Uw ht hone hc h hw;obtain⟨v0,y0,c0,t0,w0⟩:=hf 0 f0 rfl;obtain⟨v1,y1,c1,t1,w1⟩:=hf 1 f1 rfl;obtain⟨v2,y2,c2,t2,w2⟩:=hf 2 f2 rfl;obtain⟨v3,y3,c3,t3,w3⟩:=hf 3 f3 rfl;obtain⟨v4,y4,c4,t4,w4⟩:=hf 4 f4 rfl;obtain⟨v5,y5,c5,t5,w5⟩:=hf 5 f5 rfl;obtain⟨x0,e0,q0⟩:=h0.2 H enc w n _ _ t0 w0;obtain⟨x1,q1⟩:=h1.2 H enc w n _ _ t1 w1;obtain⟨x2,q2⟩:=h2.2 H enc w n _ _ t2 w2;obtain⟨x3,e3,q3⟩:=h3.2 H enc w n _ _ t3 w3;obtain⟨x4,q4⟩:=h4.2 H enc w n _ _ t4 w4;obtain⟨x5,q5⟩:=h5.2 H enc w n _ _ t5 w5
  match cs,hl,c0,c1,c2,c3,c4,c5 with
  |[a,b,c,d,e,f],_,c0,c1,c2,c3,c4,c5=>
   simp at c0 c1 c2 c3 c4 c5 e0 e3
   subst c0 c1 c2 c3 c4 c5 e0 e3;exact⟨⟨x0,x1,x2,x3,x4,x5⟩,_,_,_,_,rfl,q0,q3,q1,q2,q4,q5⟩⟩
theorem zj7{P:AcO}{t:AcN}{f0 f1 f2 f3:Field}(ht:P.underlying t=some (.struct #[f0,f1,f2,f3]))(hone:oneCellFields P #[f0,f1,f2,f3]=true)(hc:P.cellsOf t=4)
  (h0:sF AcU P f0.type) (h1:sF AcV P f1.type) (h2:sF Int P f2.type) (h3:sF Int P f3.type):sF zE P t:=
 ⟨hc,λH enc w fuel cs x h hw=>by
  obtain⟨hl,n,hf⟩:=Uw ht hone hc h hw;obtain⟨v0,y0,c0,t0,w0⟩:=hf 0 f0 rfl;obtain⟨v1,y1,c1,t1,w1⟩:=hf 1 f1 rfl;obtain⟨v2,y2,c2,t2,w2⟩:=hf 2 f2 rfl;obtain⟨v3,y3,c3,t3,w3⟩:=hf 3 f3 rfl;obtain⟨x0,q0⟩:=h0.2 H enc w n _ _ t0 w0;obtain⟨x1,q1⟩:=h1.2 H enc w n _ _ t1 w1;obtain⟨x2,e2,q2⟩:=h2.2 H enc w n _ _ t2 w2;obtain⟨x3,e3,q3⟩:=h3.2 H enc w n _ _ t3 w3
  match cs,hl,c0,c1,c2,c3 with
  |[a,b,c,d],_,c0,c1,c2,c3=>
   simp at c0 c1 c2 c3 e2 e3
   subst c0 c1 c2 c3 e2 e3;exact⟨⟨x0,x1,x2,x3⟩,_,_,rfl,q2,q3,q0,q1⟩⟩
end Go.Proofs.YtdnmkinmcdihnaaGreatDoor
namespace Go.Proofs.YtdnmkinmcdihnaaGreatDoor
open Go.Proofs.Tryz
open Go.RowKit Go.ChangeShapes Go.WideShapes Go.Deep
theorem zaH:sF Int prog 3:=zj2 underlying3 (by kernel_rfl)
theorem zuQ:sF AcL prog 9:=zj3 underlying9 (by kernel_rfl)
theorem zpY:sF AcP prog 28:=XN underlying28 (by kernel_rfl) (by kernel_rfl) zaH
theorem zuk:sF AcQ prog 35:=XN underlying35 (by kernel_rfl) (by kernel_rfl) zpY
theorem zuR:sF zA prog 66:=zj4 underlying66 (by kernel_rfl) (by kernel_rfl) zaH zaH zaH
theorem zul:sF AcR prog 50:=XN underlying50 (by kernel_rfl) (by kernel_rfl) zuR
theorem zuS:sF zO prog 49:=zj5 underlying49 (by kernel_rfl) (by kernel_rfl) zuQ zaH zaH
theorem zum:sF AcU prog 22:=XN underlying22 (by kernel_rfl) (by kernel_rfl) zuS
theorem zuT:sF zF prog 52:=zj6 underlying52 (by kernel_rfl) (by kernel_rfl) zaH zpY zpY zaH zuk zul
theorem zun:sF AcV prog 23:=XN underlying23 (by kernel_rfl) (by kernel_rfl) zuT
theorem zuo:sF zE prog 25:=zj7 underlying25 (by kernel_rfl) (by kernel_rfl) zum zun zaH zaH
end Go.Proofs.YtdnmkinmcdihnaaGreatDoor
