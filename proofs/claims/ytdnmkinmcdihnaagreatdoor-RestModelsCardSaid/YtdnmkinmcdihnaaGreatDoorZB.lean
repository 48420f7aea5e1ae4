/- Texts of this proof, one behind the other: nothing is handed in but what is proved here; no condition. -/
import Derived.Laws.StructEq
import Derived.ChangeKeysEq
import Derived.MapKept
import Derived.LoopN
import Derived.Orders
import Derived.Still
import Derived.Test.YtdnmkinmcdihnaaGreatDoorZA
set_option linter.unusedSectionVars false
set_option linter.unusedVariables false
set_option linter.unusedSimpArgs false
namespace Go.Proofs.YtdnmkinmcdihnaaGreatDoor
open Go.RowKit
variable[Lo]
section
variable {P:AcO}{E:TE}{A:xF}{b0:Yo}{w w':World}{S S':Nat->Prop}{pl pl':Nat->Value}{N:Nat}{σ:St}{a:Act}{v:Value}{d:D}{o:Oper}{K:D->St->Prop}{next:Act->World->Prop}{Q:Exit->Act->World->Prop}
theorem zaO{α:Type}{s:Nat}:∀(css:List (List α)) (_:∀cs∈css,cs.length=s),css.flatten.length=css.length*s
 |[],_=>by simp
 |c::css,hl=>by
  have ih:=zaO css (λcs hcs=>hl cs (by simp[hcs]))
  simp only[Aa5,It,By,ih,hl c (by simp),Abi];omega
theorem zeK(off:Nat):∀(vl:List Value) (j0:Nat) (cells:Array Value) (p:Nat),off+j0+vl.length<=cells.size->
  ((vl.zipIdx j0).foldl (λcs (x:Value×Nat)=>cs.setIfInBounds (off+x.2) x.1) cells)[p]? =(if off+j0<=p/\p<off+j0+vl.length then vl[p-(off+j0)]? else cells[p]?)
 |[],j0,cells,p,h=>by simp;intro h1 h2;omega
 |v::vl,j0,cells,p,h=>by
  simp only[By]at h
  rw[List.zipIdx_cons,AbR,zeK off vl (j0+1) _ p (by simp;omega)]
  by_cases h1:p=off+j0
  ·subst h1
   rw[An (by omega),As (by simp),Array.getElem?_setIfInBounds_self_of_lt (by omega)]
   simp
  ·rw[AcG (Ne.symm h1)]
   by_cases h2:off+(j0+1)<=p/\p<off+(j0+1)+vl.length
   ·rw[As h2,As (by simp;omega)]
    rw[show p-(off+j0)=(p-(off+(j0+1)))+1 by omega,Acm]
   ·rw[An h2,An (by simp;omega)]
theorem zaP(off:Nat):∀(l:List (Value×Nat)) (cells:Array Value),(l.foldl (λcs (x:Value×Nat)=>cs.setIfInBounds (off+x.2) x.1) cells).size=cells.size
 |[],_=>rfl
 |x::l,cells=>by rw[AbR,zaP off l];simp
theorem znE(vs:Array Value)(off:Nat)(cells:Array Value)(h:off+vs.size<=cells.size):
  (vs.zipIdx.foldl (λcs (x:Value×Nat)=>cs.setIfInBounds (off+x.2) x.1) cells).toList=spl cells.toList off vs.toList:=by
 have hl:vs.zipIdx.toList=vs.toList.zipIdx 0:=by simp
 rw[<-Array.foldl_toList,hl];apply Acl;intro p;rw[AaE,zeK off vs.toList 0 cells p (by simp;omega),Ol (by simp;omega)]
 simp
theorem zcw(m:tF P b0 N σ a w S pl){place:Nat->Option (Nat×Nat)}:∀(parts:List (Nat×Operand)) (ds ds':AcT) (cells:Array Value),NZ σ place ds parts=some ds'->xK (Rc w S pl) cells.toList ds->
  ∃cells',Instr.fill place cells (parts.map λx=>(x.1,a.eval x.2))=some cells'/\xK (Rc w S pl) cells'.toList ds'
 |[],ds,ds',cells,h,hr=>by
  injection h with h;subst h
  exact⟨cells,rfl,hr⟩
 |(f,x)::r,ds,ds',cells,h,hr=>by
  unfold NZ at h
  cases hp:place f with
  |none=>rw[hp]at h;cases h
  |some y=>
   obtain⟨off,sz⟩:=y;rw[hp]at h
   simp only at h
   have hnew:∀new,Oi σ (σ.ev x) ds[off]? =some new->xK (Rc w S pl) (a.eval x).cells.toList new:=by
    intro new hn;unfold Oi at hn
    split at hn
    ·rename_i t ys e1 e2
     injection hn with hn;subst hn
     have hx:=tB m x;rw[e1]at hx
     rw[(hx.flat (d:=.nil) rfl).nil_inv];exact .cons ⟨Rp.rd (.sl _ _ _ ⟨[.slice none 0 0],rfl,none,0,rfl,by simp,by simp,by simp,λ_=>rfl,λhn=>At hn (by simp)⟩),λ_=>rfl⟩ .nil
    ·rename_i t ys nl e1
     injection hn with hn;subst hn
     have hx:=tB m x;rw[e1]at hx
     have h1':=(hx.flat (d:=.slN t ys nl) rfl).slN_inv'.1;have h1:=Ec h1';obtain⟨A,c,e,_⟩:=sM h1;rw[show(a.eval x).cells.toList=[a.eval x] by rw[e];rfl]
     exact .cons ⟨Rp.rd (.sl _ _ _ h1'),λ_=>by rw[e];rfl⟩ .nil
    ·exact Oj m (tB m x) hn
   split at h
   ·rename_i new he
    have hn:=hnew new he;cases hb:Nat.beq new.length sz&&Nat.ble (off+sz) ds.length with
    |false=>rw[hb]at h;cases h
    |true=>
     rw[hb,AI]at h
     simp only[If]at hb
     have h1:=xA.1 hb.1;have h2:=Aau hb.2;have hl:=hr.len;have hl2:=hn.len;simp only[Ack]at hl hl2
     have hs:=xK.spl hr hn (off:=off) (by omega)
     rw[<-znE _ _ _ (by omega)]at hs
     obtain⟨cells',q1,q2⟩:=zcw m r _ ds' _ h hs;refine⟨cells',?_,q2⟩;rw[Aaq];unfold Instr.fill;rw[hp];simp only
     rw[An (by
      intro h;simp only[AaY,decide_eq_true_eq]at h
      omega)]
     exact q1
   ·cases h
theorem zsA{vs:List Value}{ds:AcT}(h:GX vs ds=true):xK (Rc w S pl) vs ds:=(MD (w:=w) (S:=S) h).imp λ_ _ h=>⟨h.rd,zgR h⟩
theorem znF(F:vE P E){T:AcN}{pf:Nat->Option (Nat×Nat)}(h:zco E T=some pf){i:TypeInfo}{z:Value}(hi:P.info? T=some i)(hz:i.zero=some z)(parts:List (Nat×Value)):P.built T parts=Instr.fill pf z.cells parts:=by
 unfold zco at h
 cases hm:sH T E.arr with
 |true=>
  rw[hm,AI]at h;injection h with h;subst h
  obtain⟨e,ie,hu,hie,hs⟩:=F.arr T hm;unfold Program.built;rw[hi,hu];simp only[hz,hie,hs,Aa9]
 |false=>
  rw[hm,Aag]at h
  split at h
  ·rename_i offs hf
   injection h with h;subst h
   obtain⟨fs,hu',hm,_⟩:=F.fld T offs hf;unfold Program.built;rw[hi,hu'];simp only[hz,hm];have:(λi:Nat=>offs.toArray[i]?)=λi:Nat=>offs[i]? :=by funext i;simp
   rw[this]
  ·cases h
theorem znG(F:vE P E)(m:tF P b0 N σ a w S pl){T:AcN}{parts:Array (Nat×Operand)}(ho:o.op=.build T parts)(h:Dk E A o T parts.toList σ K)(hn:sV P b0 N o a K next):o.wp P a w next Q:=by
 unfold Dk at h
 split at h
 ·rename_i zs pf hl hf
  obtain⟨i,z,u,hi,hz,hsz,hu,hag,hzb⟩:=(F.zs T true zs hl).ex;split at h
  ·rename_i ds hfill
   obtain⟨cells',q1,q2⟩:=zcw m _ _ _ z.cells hfill (zsA hzb)
   have hb:P.built T (parts.toList.map λx=>(x.1,a.eval x.2))=some cells':=by
    rw[znF F hf hi hz];exact q1
   have hrun:(execOp a.eval o).run P w=.ok (.value (.agg cells')) w:=by
    unfold execOp;rw[ho];have e:(parts.map λx=>(x.1,a.eval x.2)).toList=parts.toList.map λx=>(x.1,a.eval x.2):=by simp
    have:=run_build (P:=P) w T (parts.map λx=>(x.1,a.eval x.2)) cells' (by rw[e];exact hb)
    simp only[IT,this,No,TO]
   cases hv:sH T E.vals&&zcn o.dst with
   |true=>
    rw[hv,AI]at h
    simp only[If]at hv
    have hst:stabK (zlD o.dst)=false:=by
     have:=hv.2;cases hd:o.dst with
     |none=>rw[hd]at this;cases this
     |some j=>rw[hd]at this;simpa[zcn,zlD]using this
    refine yT hrun (hn _ _ _ _ _ _ h (m.mk' (w':=w) (zlD o.dst) hst _ (.agg cells') (Below.refl _ _) (λb hb=>by cases hb) λpl' hpl=> ?_) (As rfl).symm)
    refine⟨cells',rfl,by have:=q2.len;simpa using this,λj d hd=> ?_⟩
    simp only[Aaw,AaD]at hd
    obtain⟨d0,hd0,rfl⟩:=hd;obtain⟨u0,hu0,hr1,hr2⟩:=q2.at hd0;have e:cells'.getD j undef=u0:=by rw[Aaj];rw[AaE]at hu0;rw[hu0];rfl
    rw[e];exact⟨(hr1.kill _).mono (λ_ _=>rfl) (λ_ h=>h) λk hk=>hpl k λek=>WK _ _ (ek▸hk),λhc=>hr2 (Oe hc)⟩
   |false=>
    rw[hv,Aag]at h
    obtain⟨σ',ds',S',hK,hS,m',hv⟩:=pL h m;have hr:=hv _ (q2.imp λ_ _ h=>h.1)
    exact yT hrun (hn _ _ _ _ _ _ hK m' (Rp.rd (.agg _ _ (by simpa using hr.len) λj d hd=>H8 hr j d hd)))
  ·exact h.elim
 ·exact h.elim
theorem zeL{t:Ty}:∀(n:Nat) (ds:AcT) (xs:List t.den) (vs:List Value),elems t n ds=some xs->xK (Rp w S) vs ds->vs.length=n*t.size->
  ∃css:List (List Value),css.flatten=vs/\css.length=xs.length/\xs.length=n/\(∀cs∈css,cs.length=t.size)/\∀(i:Nat) (x:t.den) (cs:List Value),xs[i]? =some x->css[i]? =some cs->xU.rd w S cs x
 |0,ds,xs,vs,h,hr,hl=>by
  injection h with h;subst h
  have:vs=[]:=Abq (by omega)
  subst this;exact⟨[],rfl,rfl,rfl,by simp,by simp⟩
 |n+1,ds,xs,vs,h,hr,hl=>by
  unfold elems at h
  split at h
  ·rename_i x ys h1 h2
   injection h with h;subst h
   rw[Abi]at hl
   obtain⟨css,e1,e2,e3,e4,e5⟩:=zeL n _ _ (vs.drop t.size) h2 (hr.drop t.size) (by simp;omega)
   have hlen:(vs.take t.size).length=t.size:=by simp;omega
   refine⟨vs.take t.size::css,by rw[Aa5,e1,AbZ],by simp[e2],by simp[e3],λcs hcs=> ?_,λi z cs hz hcs=> ?_⟩
   ·rcases Aad.1 hcs with rfl|hcs
    ·exact hlen
    ·exact e4 cs hcs
   ·cases i with
    |zero=>
     simp at hz hcs;subst hz hcs
     exact T6 t h1 (hr.take t.size)
    |succ i=>exact e5 i z cs (by simpa using hz) (by simpa using hcs)
  ·cases h
theorem zgU{vs:Array Value}{css:List (List Value)}{e:AcN}{t:Ty}{xs:List t.den}(hw:w'.heap[w.heap.size]? =some (.cells vs e (0,0)))(h1:css.flatten=vs.toList)(h2:css.length=xs.length)(h3:∀cs∈css,cs.length=t.size)
  (h4:∀(i:Nat) (x:t.den) (cs:List Value),xs[i]? =some x->css[i]? =some cs->xU.rd w' S cs x) (hb:yX t xs.length=true):
  jF w' S pl (.slice (some ⟨w.heap.size,0,none⟩) xs.length xs.length) (.row e t xs):=by
 have hb:xs.length*t.bytes<=140737488355328:=BY hb;have hbp:0<t.bytes:=t.bytes_pos;have hle:xs.length<=xs.length*t.bytes:=Nat.le_mul_of_pos_right _ hbp;refine⟨hb,css,h2,⟨by rw[WI _ h3,h2],.inr ⟨w.heap.size,xs.length,vs,rfl,Is _,hw,IN _,by unfold maxLen;omega,?_,?_⟩⟩,h3,h4⟩
 ·rw[<-Ack,<-h1,WI _ h3,h2]
 ·rw[h1,AaJ];rw[<-h1,WI _ h3,h2];exact IN _
theorem zke{vs:Array Value}{n:Nat}{ds:AcT}{t:Ty}{xs:List t.den}(e:AcN)(hr:xK (Rp w S) vs.toList ds)(h:elems t n ds=some xs)(hl:vs.size=n*t.size)(hb:yX t n=true)(m:tF P b0 N σ a w S pl):
  xs.length=n/\(∀k,stabK k=false->tF P b0 N (σ.mk' k (.row e t xs)) a (w.alloc (.cells vs e)) S (Ng pl k (.slice (some ⟨w.heap.size,0,none⟩) n n)))/\
   tF P b0 N σ a (w.alloc (.cells vs e)) (λb=>S b\/b=w.heap.size) pl/\(t.isOd=false->fE (w.alloc (.cells vs e)) (Eb t (w.alloc (.cells vs e)) (λb=>S b\/b=w.heap.size)) (.slice (some ⟨w.heap.size,0,none⟩) n n) xs):=by
 obtain⟨css,e1,e2,e3,e4,e5⟩:=zeL n ds xs vs.toList h hr (by simpa using hl)
 have hkeep:=MF m (.cells vs e)
 have key:∀S',(∀b,S b->S' b)->∀pl',jF (w.alloc (.cells vs e)) S' pl' (.slice (some ⟨w.heap.size,0,none⟩) xs.length xs.length) (.row e t xs):=λS' hS' pl'=>
  zgU (w:=w) (heap_alloc_new w _) e1 e2 e4 (λi x cs hx hcs=>xU.mono (e5 i x cs hx hcs) hkeep hS') (by rw[e3];exact hb)
 rw[<-e3];refine⟨rfl,λk hst=>m.mk' (w':=w.alloc (.cells vs e)) k hst _ _ (Qw w _) (λb hb'=>by injection hb' with hb';subst hb';exact⟨IN _,by show w.heap.size<_;rw[ME];omega⟩) λpl' _=>key S (λ_ h=>h) pl',m.newS _,λhod=> ?_⟩
 have:=Qq (key S (λ_ h=>h) pl) (λb hb'=>by
  injection hb' with hb';subst hb';exact m.gok.2.1 _ m.below.size) hod
 exact fE.mono this (λ_ _=>rfl) λb hb'=>WJ (λb hb'=>by
  rcases hb' with hb'|hb'
  ·exact .inl hb'
  ·injection hb' with hb';exact .inr hb'.symm) (λ_ _=>rfl) hb'
theorem Dn{z:Value}{t:Ty}(hz:GX z.cells.toList (cells t t.dflt)=true)(hs:(cells t t.dflt).length=t.size)(n:Nat):
  xK (Rp w S) (madeCells z.cells (n*t.size)).toList (List.replicate n (cells t t.dflt)).flatten:=by
 have hr:xK (Rp w S) z.cells.toList (cells t t.dflt):=MD hz;have hzl:z.cells.size=t.size:=by have:=hr.len;simp at this;omega
 have hpos:0<t.size:=by rw[Ty.size_eq];exact xU.pos
 have hlen:(List.replicate n (cells t t.dflt)).flatten.length=n*t.size:=by
  rw[zaO (s:=t.size)]
  ·simp
  ·intro cs hcs;rw[(List.mem_replicate.1 hcs).2,hs]
 refine xK.of (by rw[hlen];simp[madeCells]) λi u d hu hd=> ?_
 have hi:i<n*t.size:=by rw[<-hlen];exact(AaB.1 hd).1
 rw[Qx hpos _ (λcs hcs=>by rw[(List.mem_replicate.1 hcs).2,hs])]at hd
 have hq:i/t.size<n:=Nat.div_lt_of_lt_mul (by rw[Nat.mul_comm];exact hi)
 rw[List.getElem?_replicate,As hq]at hd
 simp only[Abk]at hd
 have hu':u=z.cells[i%z.cells.size]! :=by
  simp only[madeCells,Array.toList_map,Array.toList_range,Aaw,List.getElem?_range hi,Abl,Option.some.injEq]at hu
  exact hu.symm
 obtain⟨u2,h1,h2⟩:=hr.at hd;rw[hu',hzl]
 have:z.cells[i%t.size]! =u2:=by
  rw[AaE]at h1
  simp[getElem!_def,h1]
 rw[this];exact h2
theorem Ax(F:vE P E)(m:tF P b0 N σ a w S pl){T:AcN}{len:Nat}{parts:Array (Nat×Operand)}(ho:o.op=.buildSlice T len parts)(h:Xn E A o T len parts.toList σ K)(hn:sV P b0 N o a K next):o.wp P a w next Q:=by
 unfold Xn at h
 split at h
 ·rename_i e t hl
  obtain⟨hu,i,z,hi,hz,hsz,hby,hzb⟩:=F.sl T e t hl;cases hb:yX t len&&Nat.ble (len*t.size) 16777216 with
  |false=>rw[hb]at h;exact h.elim
  |true=>
   rw[hb,AI]at h
   simp only[If]at hb
   have hle:=Aau hb.2;split at h
   ·rename_i ds hfill
    have hz0:=Dn (w:=w) (S:=S) hzb (gI t _) len;obtain⟨cells',q1,q2⟩:=zcw m _ _ _ (madeCells z.cells (len*t.size)) hfill (hz0.imp λ_ _ h=>⟨h.rd,zgR h⟩)
    have hsize:cells'.size=len*t.size:=by
     have key:∀(place:Nat->Option (Nat×Nat)) (l:List (Nat×Value)) (c c':Array Value),Instr.fill place c l=some c'->c'.size=c.size:=by
      intro place l
      induction l with
      |nil=>intro c c' h;injection h with h;rw[h]
      |cons x l ih=>
       intro c c' h;obtain⟨i,v⟩:=x;unfold Instr.fill at h
       split at h
       ·cases h
       ·split at h
        ·cases h
        ·rw[ih _ _ h]
         rw[<-Array.foldl_toList];exact zaP _ _ _
     rw[key _ _ _ _ q1];simp[madeCells]
    have hpos:0<t.size:=by rw[Ty.size_eq];exact xU.pos
    have hrun:(execOp a.eval o).run P w=.ok (.value (.slice (some ⟨w.heap.size,0,none⟩) len len)) (w.alloc (.cells cells' e)):=by
     unfold execOp;rw[ho];have hs:(sizeOf e).run P w=.ok t.size w:=MH F hl;have e2:(parts.map λx=>(x.1,a.eval x.2)).toList=parts.toList.map λx=>(x.1,a.eval x.2):=by simp
     have hzv:(zeroValue e).run P w=.ok z w:=by simp[zeroValue,typeInfo,hi,hz]
     simp only[Instr.buildSlice,IT,run_underlying hu,No,hs,An (Nat.not_lt.2 hle),TO]
     by_cases h0:len*t.size=0
     ·rw[h0]at q1
      have hm:madeCells z.cells 0= #[]:=by simp[madeCells]
      rw[hm]at q1
      rw[As h0,h0];have hr0:((Array.range 0).map λx=>(#[]:Array Value)[x%(#[]:Array Value).size]!)= #[]:=by simp
      simp only[IT,TO,No];rw[e2,hr0,q1];rfl
     ·rw[An h0]
      simp only[IT,TO,No,hzv];have q1':=q1;unfold madeCells at q1'
      rw[e2,q1'];rfl
    obtain⟨σ',ds',S',hK,hS,m',hv⟩:=pL h m;have hr:=hv _ (q2.imp λ_ _ h=>h.1)
    split at hK
    ·rename_i xs hel
     obtain⟨r1,r2,r3,r4⟩:=zke e hr hel hsize hb.1 m';split at hK
     ·rename_i k hk
      refine yT hrun (hn _ _ _ _ _ _ hK (r2 k (eQ ‹_›)) ?_);cases sH k A.nn
      ·exact(As rfl).symm
      ·exact⟨(As rfl).symm,λe=>by cases e⟩
     ·refine yT hrun (hn _ _ _ _ _ _ hK r3 ?_)
      cases hod:t.isOd with
      |true=>exact tD
      |false=>exact Rp.rd (.sl t xs _ (r4 hod))
    ·exact hK.elim
   ·exact h.elim
 ·exact h.elim
theorem Do(t:Ty):∀n:Nat,ofD t (cells t t.dflt)=some t.dflt->elems t n (List.replicate n (cells t t.dflt)).flatten=some (List.replicate n t.dflt)
 |0,_=>rfl
 |n+1,h=>by
  unfold elems
  rw[List.replicate_succ,Aa5,List.take_append_of_le_length (by rw[gI];exact IN _),AaJ (by rw[gI];exact IN _),
   show t.size=(cells t t.dflt).length by rw[gI],List.drop_left,h,Do t n h]
  rfl
theorem zcx(F:vE P E)(m:tF P b0 N σ a w S pl){T:AcN}{l c:Operand}(ho:o.op=.makeSlice T l c)(h:WL E A o T (σ.ev l) (σ.ev c) σ K)(hn:sV P b0 N o a K next):o.wp P a w next Q:=by
 have hx:=tB m l;have hy:=tB m c;unfold WL at h
 split at h
 ·rename_i e t hl
  obtain⟨hu,i,z,hi,hz,hsz,hby,hzb⟩:=F.sl T e t hl;split at h
  ·rename_i p q ex ey
   rw[ex]at hx;rw[ey]at hy
   obtain⟨hx,kx⟩:=(hx.flat (d:=.int .i64 p) rfl).int_inv;obtain⟨hy,ky⟩:=(hy.flat (d:=.int .i64 q) rfl).int_inv;obtain⟨rfl,h0,hroom,h⟩:=h;have hroom':p.toNat*t.bytes<=140737488355328:=BY hroom
   have hb:(i.bytes:Int)*p<=281474976710656:=by
    rw[hby]
    have:((p.toNat*t.bytes:Nat):Int)=(t.bytes:Int)*p:=by
     rw[Int.natCast_mul,Abj h0,Int.mul_comm]
    omega
   have hrun:(execOp a.eval o).run P w=.ok (.value (.slice (some ⟨w.heap.size,0,none⟩) p.toNat p.toNat)) (w.alloc (.cells (madeCells z.cells (p.toNat*t.size)) e)):=by
    unfold execOp;rw[ho];have:=run_make (P:=P) w T e i z hu hi hz .i64 .i64 p p h0 (AaK _) hb ky.2;rw[hsz]at this
    simp only[hx,hy,IT,this,No,TO]
   have hr:=Dn (w:=w) (S:=S) hzb (gI t _) p.toNat;obtain⟨r1,r2,r3,r4⟩:=zke e hr (Do t p.toNat (Qp t)) (by simp[madeCells]) hroom m
   split at h
   ·rename_i k hk
    exact yT hrun (hn _ _ _ _ _ _ h (r2 k (eQ ‹_›)) (As rfl).symm)
   ·refine yT hrun (hn _ _ _ _ _ _ h r3 ?_)
    cases hod:t.isOd with
    |true=>exact tD
    |false=>exact Rp.rd (.sl t _ _ (r4 hod))
  ·exact h.elim
 ·exact h.elim
end
end Go.Proofs.YtdnmkinmcdihnaaGreatDoor
namespace Go.Proofs.YtdnmkinmcdihnaaGreatDoor
open Go.RowKit
variable[Lo]
section
variable {P:AcO}{E:TE}{A:xF}{b0:Yo}{w w':World}{S S':Nat->Prop}{pl pl':Nat->Value}{N:Nat}{σ:St}{a:Act}{v:Value}{d:D}{o:Oper}{K:D->St->Prop}{next:Act->World->Prop}{Q:Exit->Act->World->Prop}
def LM(xs ys:Array Value)(x:Bool×Nat):Bool:=match xs[x.2]?,ys[x.2]? with
 |some (.int _ p),some (.int _ q)=>p==q
 |some (.string p),some (.string q)=>p.toList==q.toList
 |_,_=>false
def Dp(xs ys:Array Value)(x:Bool×Nat):Prop:=match x.1 with
 |false=>∃p q,xs[x.2]? =some (.int .i64 p)/\ys[x.2]? =some (.int .i64 q)
 |true=>∃p q,xs[x.2]? =some (.string p)/\ys[x.2]? =some (.string q)
theorem Xp{T:AcN}{u:TypeDesc}(hu:P.underlying T=some u)(ha:zny u=false){xs:Array Value}{off:Nat}{v:Value}(h:xs[off]? =some v):(part T xs off).run P w=.ok v w:=by
 unfold part;simp only[IT,U1 hu,No,ha,AaR,if_false,h,TO]
theorem LN(xs ys:Array Value)(dp:Nat):∀(fs:List Field) (l:List (Bool×Nat)),fs.mapM (zqi P)=some l->(∀x∈l,Dp xs ys x)->(Op.eqFields (dp+1) xs ys fs).run P w=.ok (l.all (LM xs ys)) w
 |[],l,h,_=>by
  simp at h;subst h;rfl
 |f::fs,l,h,hg=>by
  simp only[List.mapM_cons,Option.pure_def,Option.bind_eq_bind,Option.bind_eq_some_iff,Option.some.injEq]at h
  obtain⟨x,hx,l',hl,rfl⟩:=h;have ih:=LN xs ys dp fs l' hl λy hy=>hg y (Aac _ hy)
  have hgx:=hg x Aaa;unfold zqi at hx
  split at hx
  case isFalse=>cases hx
  case isTrue hn=>
   simp only[Op.eqFields];rw[As hn];split at hx
   ·rename_i hu
    injection hx with hx;subst hx
    obtain⟨p,q,h1,h2⟩:=hgx;simp only[IT,Xp hu rfl h1,Xp hu rfl h2,No,run_equalIn_int w dp f.type .i64 .i64 p q hu];rw[Abr,show LM xs ys (false,f.offset)=(p==q) by simp[LM,h1,h2]]
    cases(p==q)
    ·simp
    ·simp[ih]
   ·rename_i hu
    injection hx with hx;subst hx
    obtain⟨p,q,h1,h2⟩:=hgx;simp only[IT,Xp hu rfl h1,Xp hu rfl h2,No,run_equalIn_string w dp f.type p q hu];rw[Abr,show LM xs ys (true,f.offset)=(p.toList==q.toList) by simp[LM,h1,h2]]
    cases(p.toList==q.toList)
    ·simp
    ·simp[ih]
   ·cases hx
theorem Oo(p q:AcL):(p.toList==q.toList)=decide (p=q):=by
 rw[AaO];simp only[beq_iff_eq,decide_eq_true_eq];refine⟨λe=> ?_,λe=>by rw[e]⟩
 apply ByteArray.ext;apply Array.ext';rw[AbP,AbP]at e;exact e
theorem zqp{T:AcN}{t:Ty}(h:ztO P T t){vs us:Array Value}{x y:t.den}(hx:xU.rd w S vs.toList x)(hy:xU.rd w S' us.toList y):(Op.equalIn 10000 T (.agg vs) (.agg us)).run P w=.ok (teq t x y) w:=by
 obtain⟨hu,hs,hg,l,hl,hm⟩:=h;rw[run_equalIn_struct w 9999 T vs us hu hs]
 have fin:(∀z∈l,Dp vs us z)->l.all (LM vs us)=teq t x y->(Op.eqFields 9999 vs us (P.fieldsOf T).toList).run P w=.ok (teq t x y) w:=λh1 h2=>by
  rw[LN vs us 9998 _ l hm h1,h2]
 cases t<;>simp only[fkT,Option.some.injEq,reduceCtorEq]at hl<;>subst hl
 ·obtain⟨h1,_⟩:=hx;obtain⟨h2,_⟩:=hy
  have e1:vs= #[.int .i64 x.kind,.int .i64 x.at_,.string x.text]:=by apply Array.ext';exact h1
  have e2:us= #[.int .i64 y.kind,.int .i64 y.at_,.string y.text]:=by apply Array.ext';exact h2
  subst e1 e2;refine fin (by simp[Dp]) ?_
  obtain⟨x1,x2,x3⟩:=x;obtain⟨y1,y2,y3⟩:=y;simp[LM,teq,Oo];rw[AaO];simp[Oo,and_assoc]
 ·obtain⟨h1,_⟩:=hx;obtain⟨h2,_⟩:=hy
  have e1:vs= #[.int .i64 x.var,.int .i64 x.op,.int .i64 x.n]:=by apply Array.ext';exact h1
  have e2:us= #[.int .i64 y.var,.int .i64 y.op,.int .i64 y.n]:=by apply Array.ext';exact h2
  subst e1 e2;refine fin (by simp[Dp]) ?_
  obtain⟨x1,x2,x3⟩:=x;obtain⟨y1,y2,y3⟩:=y;rw[AaO];simp[LM,teq]
 ·obtain⟨h1,_⟩:=hx;obtain⟨h2,_⟩:=hy
  have e1:vs= #[.string x.name,.int .i64 x.lo,.int .i64 x.hi]:=by apply Array.ext';exact h1
  have e2:us= #[.string y.name,.int .i64 y.lo,.int .i64 y.hi]:=by apply Array.ext';exact h2
  subst e1 e2;refine fin (by simp[Dp]) ?_
  obtain⟨x1,x2,x3⟩:=x;obtain⟨y1,y2,y3⟩:=y;simp[LM,teq];rw[AaO];simp[Oo,and_assoc]
theorem Dq(m:tF P b0 N σ a w S pl){op:BinOp}{b:Bool}(h:eqK op b λd=>K d σ)(he:op=.eql->(execOp a.eval o).run P w=.ok (.value (.bool b)) w)(hne:op=.neq->(execOp a.eval o).run P w=.ok (.value (.bool (!b))) w)
  (hn:sV P b0 N o a K next):o.wp P a w next Q:=by
 unfold eqK at h
 split at h
 ·exact yT (he rfl) (hn _ _ _ _ _ _ h m (Rp.rd (.bool _)))
 ·exact yT (hne rfl) (hn _ _ _ _ _ _ h m (Rp.rd (.bool _)))
 ·exact h.elim
theorem ztQ(dp:Nat){T e:AcN}(hu:P.underlying T=some (.slice e))(A:Option Addr)(n c:Nat):(Op.equalIn (dp+1) T (.slice A n c) (.slice none 0 0)).run P w=.ok A.isNone w:=by
 cases A<;>simp only[Op.equalIn,IT,run_underlying hu,No,TO]<;>rfl
theorem zcy{T e:AcN}(hu:P.underlying T=some (.slice e))(op:BinOp){x y:Operand}{T':AcN}(ho:o.op=.binOp op T x y T'){A:Option Addr}{n c:Nat}(hx:a.eval x=.slice A n c)(hy:a.eval y=.slice none 0 0):
  (op=.eql->(execOp a.eval o).run P w=.ok (.value (.bool A.isNone)) w)/\(op=.neq->(execOp a.eval o).run P w=.ok (.value (.bool (!A.isNone))) w):=by
 have heq:(Op.equal T (.slice A n c) (.slice none 0 0)).run P w=.ok A.isNone w:=ztQ 9999 hu A n c;have hg:∀op,(eqGuard op T x y (.slice A n c) (.slice none 0 0)).run P w=.ok () w:=λop=>zaN op T x y _ _ (λcs e=>by cases e) (λe=>by cases e)
 refine⟨?_,?_⟩
 ·rintro rfl
  unfold execOp;rw[ho];simp only[IT,hx,hy,hg,No,binOp,heq,TO]
 ·rintro rfl
  unfold execOp;rw[ho];simp only[IT,hx,hy,hg,No,binOp,heq,TO]
theorem Sb{T:AcN}(F:vE P E)(h:VT E T=true):∃e,P.underlying T=some (.slice e):=by
 unfold VT at h
 split at h
 ·rename_i x hx;obtain⟨e,t⟩:=x;exact⟨e,(F.sl T e t hx).und⟩
 ·cases h
theorem zqq(F:vE P E)(m:tF P b0 N σ a w S pl){op:BinOp}{T T':AcN}{x y:Operand}(ho:o.op=.binOp op T x y T')(h:zeG E op T (σ.ev x) (σ.ev y) σ λd=>K d σ)(hn:sV P b0 N o a K next):o.wp P a w next Q:=by
 have hx:=tB m x;have hy:=tB m y;unfold zeG at h
 split at h
 ·rename_i xs ys ex ey
  split at h
  ·rename_i t hl
   split at h
   ·rename_i p q e1 e2
    have hst:=F.sts T t hl;rw[ex]at hx;rw[ey]at hy
    obtain⟨vs,hv,hvl,hvr⟩:=(hx.flat (d:=.agg xs) rfl).agg_inv;obtain⟨us,hu,hul,hur⟩:=(hy.flat (d:=.agg ys) rfl).agg_inv;have r1:=T6 t e1 (Om hvl hvr);have r2:=T6 t e2 (Om hul hur);have hrun:=zqp (w:=w) hst r1 r2;have hg:(eqGuard op T x y (.agg vs) (.agg us)).run P w=.ok () w:=run_eqGuard_agg w op T x y vs us hst.2.2.1;refine Dq m h (λe=> ?_) (λe=> ?_) hn
    ·subst e
     unfold execOp;rw[ho];simp only[IT,hv,hu,hg,No,run_eql_struct,hrun,TO]
    ·subst e
     unfold execOp;rw[ho];simp only[IT,hv,hu,hg,No,run_neq_struct,hrun,TO]
   ·exact h.elim
  ·exact h.elim
 ·rename_i t xs nl ex ey
  cases hs:E.nilq&&VT E T with
  |false=>rw[hs]at h;exact h.elim
  |true=>
   rw[hs,AI]at h
   obtain⟨e,hu⟩:=Sb F (Acn.1 hs).2;rw[ex]at hx;rw[ey]at hy
   obtain⟨hv0,hnn,hyy⟩:=(hx.flat (d:=.slN t xs nl) rfl).slN_inv;obtain⟨A',c,hv,hok⟩:=sM hv0;have hv2:=(hy.flat (d:=.nil) rfl).nil_inv;have hr:=zcy (P:=P) (w:=w) hu op ho hv hv2
   have hA:A'.isNone=nl:=by
    cases nl with
    |true=>
     have:=hyy rfl;rw[hv]at this
     injection this with h1;rw[h1];rfl
    |false=>
     cases A' with
     |some _=>rfl
     |none=>
      have h1:=hok.none_ rfl;have h2:=hok.cap;have h3:xs.length=0:=by omega
      exact At (by rw[hv,h3,h1]) (hnn rfl)
   rw[hA]at hr
   exact Dq m h hr.1 hr.2 hn
 ·rename_i t xs ex ey
  cases hs:E.nilq&&VT E T with
  |false=>rw[hs]at h;exact h.elim
  |true=>
   rw[hs,AI]at h
   obtain⟨e,hu⟩:=Sb F (Acn.1 hs).2;rw[ex]at hx;rw[ey]at hy
   obtain⟨A',c,hv,hok⟩:=sM (hx.flat (d:=.sl t xs) rfl).sl_inv;have hv2:=(hy.flat (d:=.nil) rfl).nil_inv;have hr:=zcy (P:=P) (w:=w) hu op ho hv hv2;have hsl:=(hx.flat (d:=.sl t xs) rfl).sl_inv
   exact Dq m (h A'.isNone λhn0=>by
    cases A' with
    |some _=>cases hn0
    |none=>
     have:=hok.none_ rfl;have h2:=hok.cap;exact Abq (by omega)) hr.1 hr.2 hn
 ·rename_i ex ey
  cases hs:E.nilq&&VT E T with
  |false=>rw[hs]at h;exact h.elim
  |true=>
   rw[hs,AI]at h
   obtain⟨e,hu⟩:=Sb F (Acn.1 hs).2;rw[ex]at hx;rw[ey]at hy
   have hv1:=(hx.flat (d:=.nil) rfl).nil_inv;have hv2:=(hy.flat (d:=.nil) rfl).nil_inv;have hr:=zcy (P:=P) (w:=w) hu op ho hv1 hv2;exact Dq m h hr.1 hr.2 hn
 ·rename_i k ex ey
  split at h
  ·rename_i e0 t xs hob
   cases hs:E.nilq&&VT E T with
   |false=>rw[hs]at h;exact h.elim
   |true=>
    rw[hs,AI]at h
    obtain⟨e,hu⟩:=Sb F (Acn.1 hs).2;rw[ex]at hx;rw[ey]at hy
    have hx:a.eval x=pl k:=hx;have hv2:=(hy.flat (d:=.nil) rfl).nil_inv;obtain⟨A',c,hv,hok⟩:=sM (Og (m.hp k _ hob));rw[hv]at hx
    have hr:=zcy (P:=P) (w:=w) hu op ho hx hv2
    exact Dq m (h A'.isNone λhn0=>by
     cases A' with
     |some _=>cases hn0
     |none=>
      have:=hok.none_ rfl;have h2:=hok.cap;exact Abq (by omega)) hr.1 hr.2 hn
  ·exact h.elim
 ·exact zsz F m ho h hn
end
end Go.Proofs.YtdnmkinmcdihnaaGreatDoor
namespace Go.Proofs.YtdnmkinmcdihnaaGreatDoor
open Go.RowKit
variable[Lo]
section
variable {P:AcO}{E:TE}{A:xF}{b0:Yo}{w w':World}{S S':Nat->Prop}{pl pl':Nat->Value}{N:Nat}{σ:St}{a:Act}{v:Value}{d:D}{o:Oper}{K:D->St->Prop}{next:Act->World->Prop}{Q:Exit->Act->World->Prop}
def gV:(t:Ty)->t.den->Value
 | .int,n=> .int .i64 n
 | .str,s=> .string s
 | .pr .int .int,x=> .agg #[.int .i64 x.1,.int .i64 x.2]
 |_,_=>undef
theorem zkf{k:Ty}{x:k.den}(h:zqc k d=some x)(hr:Rd w S pl v d):v=gV k x/\fE w S v x:=by
 unfold zqc at h
 split at h
 ·injection h with h;subst h
  obtain⟨rfl,hi⟩:=(hr.flat (d:=.int .i64 _) rfl).int_inv;exact⟨rfl,[_],rfl,rfl,hi⟩
 ·injection h with h;subst h
  obtain⟨rfl,hi⟩:=(hr.flat (d:=.str _) rfl).str_inv;exact⟨rfl,[_],rfl,rfl,hi⟩
 ·rename_i p q
  injection h with h;subst h
  obtain⟨vs,rfl,hl,hv⟩:=(hr.flat (d:=.agg [.int .i64 p,.int .i64 q]) rfl).agg_inv;obtain⟨e1,i1⟩:=(hv 0 _ rfl).int_inv;obtain⟨e2,i2⟩:=(hv 1 _ rfl).int_inv;have hl:vs.size=2:=hl
  have e:vs= #[.int .i64 p,.int .i64 q]:=by
   apply Array.ext
   ·simpa using hl
   ·intro i h1 h2
    have:i=0\/i=1:=by omega
    rcases this with rfl|rfl
    ·simpa[Aaj,h1]using e1
    ·simpa[Aaj,h1]using e2
  subst e;exact⟨rfl,[_,_],rfl,[_],[_],rfl,⟨rfl,i1⟩,⟨rfl,i2⟩⟩
 ·cases h
theorem zkg{kT:AcN}{k:Ty}(hk:J4 P kT k){x:k.den}(h:fE w S v x):v=gV k x:=by
 obtain⟨cs,rfl,hr⟩:=h;unfold J4 at hk
 split at hk
 ·obtain⟨rfl,_⟩:=hr;rfl
 ·obtain⟨rfl,_⟩:=hr;rfl
 ·obtain⟨c1,c2,rfl,⟨rfl,_⟩,⟨rfl,_⟩⟩:=hr;rfl
 ·exact hk.elim
theorem zqr(dp:Nat){kT e:AcN}{i:TypeInfo}(hu:P.underlying kT=some (.array 2 e))(he:P.underlying e=some (.int .i64))(hi:P.info? e=some i)(hs:P.cellsOf e=1)(p q p' q':Int):
  (Op.equalIn (dp+2) kT (.agg #[.int .i64 p,.int .i64 q]) (.agg #[.int .i64 p',.int .i64 q'])).run P w=.ok (decide (p=p')&&decide (q=q')) w:=by
 have f1:∀p q:Int,(part e #[.int .i64 p,.int .i64 q] (0*1)).run P w=.ok (.int .i64 p) w:=λp q=>Xp he rfl rfl
 have f2:∀p q:Int,(part e #[.int .i64 p,.int .i64 q] (1*1)).run P w=.ok (.int .i64 q) w:=λp q=>Xp he rfl rfl
 have e1:∀p q:Int,(Op.equalIn (dp+1) e (.int .i64 p) (.int .i64 q)).run P w=.ok (p==q) w:=λp q=>run_equalIn_int w dp e .i64 .i64 p q he
 rw[run_equalIn_array w (dp+1) _ _ hu hi,hs];rw[show List.range 2=[0,1]from rfl]
 simp only[Op.eqItems,IT,f1,e1,No]
 by_cases h1:p=p'
 ·subst h1
  simp only[BEq.rfl,AbA,AaR,if_false,IT,f2,e1,No]
  by_cases h2:q=q'<;>simp[h2]
 ·simp[h1]
def zcz(kt:Ty){vt:Ty}(x:kt.den):List (kt.den×vt.den)->Nat->Option Nat
 |[],_=>none
 |(p,_)::r,i=>bif MA kt x p then some i else zcz kt x r (i+1)
theorem VV{kT:AcN}{k:Ty}(hk:J4 P kT k)(x y:k.den):(∃d,P.underlying kT=some d/\((Instr.sameNow d (gV k x) (gV k y)=some (MA k x y))\/((∀u u',Instr.sameNow d u u'=none)/\∀w,(Op.equal kT (gV k x) (gV k y)).run P w=.ok (MA k x y) w))):=by
 unfold J4 at hk
 split at hk
 ·refine⟨_,hk,.inl ?_⟩
  show(if IntKind.i64=IntKind.i64 then some (x==y)else none)=some (decide (x=y))
  rw[As rfl]
  congr 1
 ·refine⟨_,hk,.inl ?_⟩
  show some (x==y)=some (decide (x=y))
  rw[<-Oo,beq_toListBytes]
 ·obtain⟨e,i,hu,he,hi,hs⟩:=hk
  exact⟨_,hu,.inr ⟨λu u'=>rfl,λw=>zqr 9998 hu he hi hs _ _ _ _⟩⟩
 ·exact hk.elim
theorem H9{kT:AcN}{k vt:Ty}(hk:J4 P kT k)(x:k.den){ents:List MapEntry}{es:List (k.den×vt.den)}(h:xK (λ(e:MapEntry) (y:k.den×vt.den)=>e.key=gV k y.1) ents es):
  (Instr.findKey kT (gV k x) ents).run P w=.ok ((zcz k x es 0).map λi=>(i,((ents[i]?).map (·.val)).getD undef)) w:=by
 have now:∀(d:TypeDesc),(∀y:k.den,Instr.sameNow d (gV k x) (gV k y)=some (MA k x y))->∀(ents:List MapEntry) (es:List (k.den×vt.den)),xK (λ(e:MapEntry) (y:k.den×vt.den)=>e.key=gV k y.1) ents es->
   ∀(all:List MapEntry) (i:Nat),all.drop i=ents->Instr.findNow d (gV k x) ents i=some ((zcz k x es i).map λi=>(i,((all[i]?).map (·.val)).getD undef)):=by
  intro d hd ents es h
  induction h with
  |nil=>intro all i _;rfl
  | @cons e y ents es h1 hs ih=>
   intro all i hall;have h0:all[i]? =some e:=by have:=Aby (xs:=all) (i:=i) (j:=0);rw[hall]at this;simpa using this.symm
   unfold Instr.findNow zcz;rw[h1,hd];cases MA k x y.1
   ·simp only[Aag]
    exact ih all (i+1) (by rw[<-List.tail_drop,hall];rfl)
   ·simp only[AI,Abl,h0,Ab0]
 have ask:(∀(y:k.den) w,(Op.equal kT (gV k x) (gV k y)).run P w=.ok (MA k x y) w)->∀(ents:List MapEntry) (es:List (k.den×vt.den)),xK (λ(e:MapEntry) (y:k.den×vt.den)=>e.key=gV k y.1) ents es->
   ∀(all:List MapEntry) (i:Nat),all.drop i=ents->(Instr.findAsking kT (gV k x) ents i).run P w=.ok ((zcz k x es i).map λi=>(i,((all[i]?).map (·.val)).getD undef)) w:=by
  intro hd ents es h
  induction h with
  |nil=>intro all i _;rfl
  | @cons e y ents es h1 hs ih=>
   intro all i hall;have h0:all[i]? =some e:=by have:=Aby (xs:=all) (i:=i) (j:=0);rw[hall]at this;simpa using this.symm
   unfold Instr.findAsking zcz;simp only[IT,h1,hd,No];cases MA k x y.1
   ·simp only[Aag,AaR,if_false]
    exact ih all (i+1) (by rw[<-List.tail_drop,hall];rfl)
   ·simp only[AI,if_true,Abl,h0,Ab0,TO]
 unfold Instr.findKey;cases h with
 |nil=>
  obtain⟨d,hu,_⟩:=VV hk x x;simp only[IT,run_underlying hu,No,Instr.findNow,TO];rfl
 | @cons e y ents es h1 hs=>
  obtain⟨d,hu,hd⟩:=VV hk x y.1;simp only[IT,run_underlying hu,No];rcases hd with hd|⟨hn,hd⟩
  ·have hd':∀y:k.den,Instr.sameNow d (gV k x) (gV k y)=some (MA k x y):=λy'=>by
    obtain⟨d',hu',hd'⟩:=VV hk x y';rw[hu]at hu';injection hu' with hu';subst hu'
    rcases hd' with hd'|⟨hn',_⟩
    ·exact hd'
    ·rw[hn']at hd;cases hd
   rw[now d hd' _ _ (.cons h1 hs) (e::ents) 0 rfl,TO]
  ·have hd':∀(y:k.den) w,(Op.equal kT (gV k x) (gV k y)).run P w=.ok (MA k x y) w:=λy'=>by
    obtain⟨d',hu',hd'⟩:=VV hk x y';rw[hu]at hu';injection hu' with hu';subst hu'
    rcases hd' with hd'|⟨_,hd'⟩
    ·rw[hn]at hd';cases hd'
    ·exact hd'
   rw[show Instr.findNow d (gV k x) (e::ents) 0=none by unfold Instr.findNow;rw[hn]]
   exact ask hd' _ _ (.cons h1 hs) (e::ents) 0 rfl
theorem X5{kT:AcN}{k:Ty}(hk:J4 P kT k)(x:k.den)(em:Bool):(Instr.checkKey em 10000 kT (gV k x)).run P w=.ok () w:=by
 have one:∀(n:Nat) (T:AcN) (u:Value),(P.underlying T=some (.int .i64)\/P.underlying T=some .string)->(Instr.checkKey em (n+1) T u).run P w=.ok () w:=λn T u h=>by
  rcases h with h|h<;>simp only[Instr.checkKey,IT,run_underlying h,No,TO]
 unfold J4 at hk
 split at hk
 ·exact one 9999 _ _ (.inl hk)
 ·exact one 9999 _ _ (.inr hk)
 ·obtain⟨e,i,hu,he,hi,hs⟩:=hk
  have hsz:(sizeOf e).run P w=.ok 1 w:=by rw[run_sizeOf w hi,hs]
  have f1:∀p q:Int,(part e #[.int .i64 p,.int .i64 q] (0*1)).run P w=.ok (.int .i64 p) w:=λp q=>Xp he rfl rfl
  have f2:∀p q:Int,(part e #[.int .i64 p,.int .i64 q] (1*1)).run P w=.ok (.int .i64 q) w:=λp q=>Xp he rfl rfl
  have key:∀n,(Instr.checkKey em (n+2) kT (.agg #[.int .i64 x.1,.int .i64 x.2])).run P w=.ok () w:=λn=>by
   rw[Instr.checkKey];simp only[IT,run_underlying hu,No,Std.Legacy.Range.forIn_eq_forIn_range',Std.Legacy.Range.size,Nat.sub_zero,Nat.add_one_sub_one,Nat.div_one];rw[show List.range' 0 2=[0,1]from rfl]
   simp only[List.forIn_cons,List.forIn_nil,IT,hsz,No,f1,f2,one n e _ (.inl he),TO]
  exact key 9998
 ·exact hk.elim
theorem J6{kt vt:Ty}(x:kt.den):∀(es:List (kt.den×vt.den)) (i:Nat),(zcz kt x es i=none/\sU kt vt x es=none/\∀y,rB kt vt x y es=es++[(x,y)])\/
  ∃j q,zcz kt x es i=some (i+j)/\es[j]? =some q/\MA kt x q.1=true/\sU kt vt x es=some q.2/\∀y,rB kt vt x y es=es.set j (q.1,y)
 |[],i=> .inl ⟨rfl,rfl,λy=>rfl⟩
 |(p,q)::r,i=>by
  unfold zcz sU;cases hk:MA kt x p with
  |true=>exact .inr ⟨0,(p,q),rfl,rfl,hk,rfl,λy=>by unfold rB;rw[hk];rfl⟩
  |false=>
   simp only[Aag];rcases J6 x r (i+1)with⟨h1,h2,h3⟩|⟨j,z,h1,h2,h3,h4,h5⟩
   ·exact .inl ⟨h1,h2,λy=>by unfold rB;rw[hk,Aag,h3];rfl⟩
   ·refine .inr ⟨j+1,z,by rw[h1];congr 1;omega,by simpa using h2,h3,h4,λy=> ?_⟩
    unfold rB;rw[hk,Aag,h5];rfl
theorem zqs{cs:List Value}(h:2<=cs.length):vOf cs=.agg cs.toArray:=by
 match cs,h with
 |_::_::_,_=>rfl
theorem zeM: {t:Ty}->t.agg=true->2<=t.size
 | .mk _ t,h=>zeM (t:=t) h
 | .pr p q,_=>by
  show 2<=p.size+q.size
  rw[Ty.size_eq,Ty.size_eq];have:= @xU.pos _ (Ty.rep p);have:= @xU.pos _ (Ty.rep q);omega
 | .tok,_| .lit,_| .var,_| .con,_| .mdl,_| .step,_| .term,_| .ans,_=>by decide
theorem zcA: {t:Ty}-> {x:t.den}->(t.agg=true->Yn t x=.agg (cells t x))/\(t.agg=false->cells t x=[Yn t x])
 | .mk k t,x=>by
  refine⟨λh=> ?_,λh=> ?_⟩
  ·have h:t.agg=true:=h
   show(match t.agg with
    |true=>D.agg ((cells t x).map (Ao k))
    |false=>match(cells t x).map (Ao k)with
     |[d]=>d
     |_=> .undef)=_
   rw[h];rfl
  ·have h:t.agg=false:=h
   show(cells t x).map (Ao k)=[match t.agg with
    |true=>D.agg ((cells t x).map (Ao k))
    |false=>match(cells t x).map (Ao k)with
     |[d]=>d
     |_=> .undef]
   rw[h,(zcA (t:=t) (x:=x)).2 h];rfl
 | .int,_| .bool,_| .str,_| .list _,_| .byte,_=>⟨λh=>(by cases h),λ_=>rfl⟩
 | .tok,_| .lit,_| .var,_| .con,_| .mdl,_| .step,_| .term,_| .ans,_| .pr _ _,_=>⟨λ_=>rfl,λh=>by cases h⟩
theorem zkh{t:Ty}{x:t.den}(h:fE w S v x):Rp w S v (Yn t x):=by
 obtain⟨cs,rfl,h⟩:=h;have hl:=xU.len h;have hc:=cO t h;cases hg:t.agg with
 |true=>
  rw[zcA.1 hg];rw[zqs (by rw[hl];have:=zeM hg;rw[Ty.size_eq]at this;exact this)]
  exact .agg _ _ (by have:=hc.len;simpa using this) λi d hd=>H8 hc i d hd
 |false=>
  have e:=(zcA (t:=t) (x:=x)).2 hg;rw[e]at hc
  match cs,hc with
  |[u],.cons hu .nil=>exact hu
theorem zgV(F:vE P E)(m:tF P b0 N σ a w S pl){T:AcN}(ho:o.op=.makeMap T none)(h:Qs E A o T σ K)(hn:sV P b0 N o a K next):o.wp P a w next Q:=by
 have hrun:(execOp a.eval o).run P w=.ok (.value (.map (some w.heap.size))) (w.alloc (.map #[] 0)):=by
  unfold execOp;rw[ho];simp[Instr.makeMap,newObj];rfl
 have hnew:(w.alloc (.map #[] 0)).heap[w.heap.size]? =some (.map #[] 0):=heap_alloc_new w _;unfold Qs at h
 split at h
 ·rename_i k u hl
  split at h
  ·rename_i j hj
   refine yT hrun (hn _ _ _ _ _ _ h (m.mk' (w':=w.alloc (.map #[] 0)) j (eQ hj) (.mp k u []) (.map (some w.heap.size)) (Qw w _) (λb hb=>by injection hb with hb;subst hb;exact⟨IN _,by rw[ME];omega⟩) λpl' _=> ?_) (As rfl).symm)
   exact⟨w.heap.size,rfl,by simp,#[],0,hnew,.nil⟩
  ·exact yT hrun (hn _ _ _ _ _ _ h (m.newS _) (Rp.rd (.mp k u [] w.heap.size (.inr rfl) ⟨by simp,#[],0,hnew,.nil⟩)))
 ·exact h.elim
theorem znH(m:tF P b0 N σ a w S pl){u:Value}(hr:Rd w S pl u d){kt vt:Ty}{es:List (kt.den×vt.den)}(h:zaM σ d=some ⟨(kt,vt),es⟩):∃b,u=.map (some b)/\zeB w S b kt vt es:=by
 unfold zaM at h
 split at h
 ·simp only[Option.some.injEq,Sigma.mk.injEq,Prod.mk.injEq]at h
  obtain⟨⟨rfl,rfl⟩,h⟩:=h;subst h;obtain⟨b,e,_,h⟩:=(hr.flat (d:=.mp _ _ _) rfl).mp_inv;exact⟨b,e,h⟩
 ·rename_i j
  split at h
  ·rename_i hob
   simp only[Option.some.injEq,Sigma.mk.injEq,Prod.mk.injEq]at h
   obtain⟨⟨rfl,rfl⟩,h⟩:=h;subst h;obtain⟨b,e,h⟩:=m.hp j _ hob;have hr:u=pl j:=hr;exact⟨b,hr.trans e,h⟩
  ·cases h
 ·cases h
theorem zki{kT:AcN}{k vt:Ty}(hk:J4 P kT k){ents:List MapEntry}{es:List (k.den×vt.den)}(h:xK (λ(e:MapEntry) (x:k.den×vt.den)=>fE w S e.key x.1/\fE w S e.val x.2) ents es):xK (λ(e:MapEntry) (y:k.den×vt.den)=>e.key=gV k y.1) ents es:=
 h.imp λe x h=>zkg hk h.1
theorem znI{T kT eT:AcN}{k vt:Ty}(hu:P.underlying T=some (.map kT eT))(hk:J4 P kT k){i:TypeInfo}{z:Value}{dz:D}(hi:P.info? eT=some i)(hz:i.zero=some z)(hc:cells vt vt.dflt=[dz])(hzb:zB z dz=true)(hz1:z.oneCell'=true)
  {b:Nat} {es:List (k.den×vt.den)} (hm:zeB w S b k vt es) (x:k.den):∃u,fE w S u (kC k vt x es)/\∀ok,(Instr.lookup T (.map (some b)) (gV k x) ok).run P w=.ok (if ok then .tuple #[u,.bool (MB k vt x es)]else u) w:=by
 obtain⟨_,ents,clock,hb,hes⟩:=hm;have hget:(getObj b).run P w=.ok (.map ents clock) w:=by simp[getObj,Sem.run,hb]
 have hzr:(zeroValue eT).run P w=.ok z w:=by simp[zeroValue,typeInfo,hi,hz]
 have hf:=H9 (w:=w) hk x (zki hk hes);rcases J6 (vt:=vt) x es 0 with⟨h1,h2,_⟩|⟨j,q,h1,h2,h3,h4,_⟩
 ·refine⟨z,?_,λok=> ?_⟩
  ·rw[kC,h2]
   have hr:=zsd (w:=w) (S:=S) hzb;have h1:z.cells.toList=[z]:=by cases z<;>first|rfl|(cases hz1)
   have:xU.rd w S [z] vt.dflt:=T6 vt (ds:=[dz]) (by rw[<-hc];exact Qp vt) (.cons hr .nil)
   exact⟨[z],rfl,this⟩
  ·rw[h1]at hf
   unfold Instr.lookup;simp only[IT,run_underlying hu,No,hget,TO,X5 hk,hf,AbH,hzr,MB,h2,Option.isSome_none]
 ·obtain⟨e,he,hr⟩:=hes.at h2
  refine⟨e.val,?_,λok=> ?_⟩
  ·rw[kC,h4];exact hr.2
  ·rw[h1,Aat]at hf
   have he':(ents.toList[j]?.map (·.val)).getD undef=e.val:=by rw[he];rfl
   unfold Instr.lookup;simp only[IT,run_underlying hu,No,hget,TO,X5 hk,hf,Abl,he',MB,h4,Option.isSome_some]
theorem zlI(F:vE P E)(m:tF P b0 N σ a w S pl){T:AcN}{x y:Operand}{ok:Bool}(ho:o.op=.lookup T x y ok)(h:Eg E T (σ.ev x) (σ.ev y) ok σ λd=>K d σ)(hn:sV P b0 N o a K next):o.wp P a w next Q:=by
 have hx:=tB m x;have hy:=tB m y;unfold Eg at h
 split at h
 ·rename_i kt0 vt0 kt vt es hl hm
  cases hb:decide (kt=kt0)&&decide (vt=vt0)with
  |false=>rw[hb]at h;exact h.elim
  |true=>
   rw[hb,AI]at h
   simp only[If,decide_eq_true_eq]at hb
   obtain⟨rfl,rfl⟩:=hb;obtain⟨kT,eT,i,z,dz,hu,hk,hi,hz,hc,hzb,hz1⟩:=F.mps T _ _ hl;obtain⟨b,hv,hmp⟩:=znH m hx hm;split at h
   ·rename_i p hp
    obtain⟨hkv,_⟩:=zkf hp hy;obtain⟨u,hu1,hu2⟩:=znI hu hk hi hz hc hzb hz1 hmp p
    have hrun:∀ok',ok=ok'->(execOp a.eval o).run P w=.ok (.value (if ok' then .tuple #[u,.bool (MB kt vt p es)]else u)) w:=λok' e=>by
     subst e;unfold execOp;rw[ho];simp only[IT,hv,hkv,hu2,No,TO]
    cases ok with
    |true=>exact yT (hrun true rfl) (hn _ _ _ _ _ _ h m (Rp.rd (.tup _ _ rfl λi d hd=>by
      match i,hd with
      |0,hd=>simp at hd;subst hd;exact zkh hu1
      |1,hd=>simp at hd;subst hd;exact .bool _
      |i+2,hd=>simp at hd)))
    |false=>exact yT (hrun false rfl) (hn _ _ _ _ _ _ h m (zkh hu1).rd)
   ·exact h.elim
 ·exact h.elim
theorem zeN{b:Nat}{o':Obj}(hb:b<w.heap.size):({w with heap:=w.heap.setIfInBounds b o'}:World).heap[b]? =some o'/\(∀c,c≠b->({w with heap:=w.heap.setIfInBounds b o'}:World).heap[c]? =w.heap[c]?)/\({w with heap:=w.heap.setIfInBounds b o'}:World).heap.size=w.heap.size:=
 ⟨by simp[hb],λc hc=>by simp[Array.getElem?_setIfInBounds,Ne.symm hc],by simp⟩
theorem znJ{k:Ty}{kT:AcN}(hk:J4 P kT k){x y:k.den}(h:MA k x y=true):gV k x=gV k y/\Instr.sameBits 10000 (gV k y) (gV k x)=true:=by
 unfold J4 at hk
 split at hk
 ·have e:x=y:=BY h
  subst e;exact⟨rfl,by show(IntKind.i64==IntKind.i64&&(x:Int)==x)=true;simp⟩
 ·have e:x=y:=BY h
  subst e;exact⟨rfl,by show((x:AcL)==x)=true;rw[beq_toListBytes,Oo];simp⟩
 ·simp only[MA,If,decide_eq_true_eq]at h
  obtain⟨x1,x2⟩:=x;obtain⟨y1,y2⟩:=y;obtain⟨e1,e2⟩:=h;have e1:x1=y1:=e1;have e2:x2=y2:=e2;subst e1 e2;refine⟨rfl,?_⟩;show((2:Nat)==2&&[(Value.int .i64 x1,Value.int .i64 x1),(Value.int .i64 x2,Value.int .i64 x2)].all λ(p:Value×Value)=>Instr.sameBits 9999 p.1 p.2)=true
  simp[Instr.sameBits]
 ·exact hk.elim
theorem xK.set{α β:Type}{R:α->β->Prop}:∀ {xs:List α} {ys:List β},xK R xs ys->∀(i:Nat) {a:α} {b:β},R a b->xK R (xs.set i a) (ys.set i b)
 |_,_,.nil,_,_,_,_=>by simp;exact .nil
 |_,_,.cons h hs,0,_,_,hr=> .cons hr hs
 |_,_,.cons h hs,i+1,_,_,hr=> .cons h (hs.set i hr)
theorem zcB(F:vE P E)(m:tF P b0 N σ a w S pl){T:AcN}{x y z:Operand}(ho:o.op=.mapUpdate T x y z)(h:T7 E A T (σ.ev x) (σ.ev y) (σ.ev z) σ K)(hn:sV P b0 N o a K next):o.wp P a w next Q:=by
 have hx:=tB m x;have hy:=tB m y;unfold T7 at h
 split at h
 ·rename_i kt0 vt0 j hl ex
  rw[ex]at hx
  have hx:a.eval x=pl j:=hx;obtain⟨σ',ds',S',hK,hS,m',hv⟩:=pL h m;have hz:=hv [a.eval z] (.cons (tB m z) .nil);split at hK
  ·rename_i kt vt es hob
   cases hb:decide (kt=kt0)&&decide (vt=vt0)with
   |false=>rw[hb]at hK;exact hK.elim
   |true=>
    rw[hb,AI]at hK
    simp only[If,decide_eq_true_eq]at hb
    obtain⟨rfl,rfl⟩:=hb;obtain⟨kT,eT,i,zz,dz,hu,hk,hi,hzz,hc,hzb,hz1⟩:=F.mps T _ _ hl;split at hK
    ·rename_i p q hp hq
     obtain⟨hroom,hK⟩:=hK;have hroom:es.length+1<=140737488355328:=BY hroom;obtain⟨hkv,hkr⟩:=zkf hp hy;have hkr:=hkr.mono (w':=w) (λ_ _=>rfl) hS
     have hqr:fE w S' (a.eval z) q:=by
      have h1:=T6 vt hq hz;refine⟨[a.eval z],rfl,h1⟩
     obtain⟨b,hpl,h0,ents,clock,hbk,hes⟩:=m'.hp j _ hob;have hlt:b<w.heap.size:=(m'.priv j _ b hob (by rw[hpl];rfl)).2.1
     have hnS:¬S' b:=(m'.priv j _ b hob (by rw[hpl];rfl)).2.2
     have hget:(getObj b).run P w=.ok (.map ents clock) w:=by simp[getObj,Sem.run,hbk]
     have hset:∀o',(setObj b o').run P w=.ok () {w with heap:=w.heap.setIfInBounds b o'}:=λo'=>by simp[setObj,Sem.run,hbk]
     have hf:=H9 (w:=w) hk p (zki hk hes)
     have fin:∀(ents':Array MapEntry) (clock':Nat) (es':List (kt.den×vt.den)),es'=rB kt vt p q es->es'.length<=140737488355328->xK (λ(e:MapEntry) (x:kt.den×vt.den)=>fE w S' e.key x.1/\fE w S' e.val x.2) ents'.toList es'->
       (Instr.mapUpdate T (.map (some b)) (gV kt p) (a.eval z)).run P w=.ok () {w with heap:=w.heap.setIfInBounds b (.map ents' clock')}->o.wp P a w next Q:=by
      intro ents' clock' es' he hle hall hrun;obtain⟨g1,g2,g3⟩:=zeN (w:=w) (o':=.map ents' clock') hlt
      have hop:(execOp a.eval o).run P w=.ok .skip {w with heap:=w.heap.setIfInBounds b (.map ents' clock')}:=by
       unfold execOp;rw[ho];simp only[IT,hx,hpl,hkv,hrun,No,TO]
      subst he;refine zcr hop (hn _ _ _ _ _ _ hK (m'.setOb hob (by rw[hpl];rfl) g2 g3 ⟨rfl,rfl,rfl⟩ ?_) tD)
      exact⟨b,hpl,hle,ents',clock',g1,hall.imp λ_ _ h=>⟨h.1.mono (λc hc=>g2 c λe=>hnS (e▸hc)) λ_ h=>h,h.2.mono (λc hc=>g2 c λe=>hnS (e▸hc)) λ_ h=>h⟩⟩
     rcases J6 (vt:=vt) p es 0 with⟨h1,h2,h3⟩|⟨j',e',h1,h2,h3,h4,h5⟩
     ·refine fin (ents.push {key:=gV kt p,val:=a.eval z,born:=clock}) (clock+1) (es++[(p,q)]) (h3 q).symm (by simp;omega) ?_ ?_
      ·rw[Array.toList_push]
       exact hes.append (.cons ⟨by rw[<-hkv];exact hkr,hqr⟩ .nil)
      ·rw[h1]at hf
       unfold Instr.mapUpdate;simp only[IT,run_underlying hu,No,hget,X5 hk,hf,AbH,hset]
     ·obtain⟨e0,he0,hr0⟩:=hes.at h2
      rw[Aat]at h1
      have hk0:e0.key=gV kt e'.1:=zkg hk hr0.1;obtain⟨ek,hsb⟩:=znJ (P:=P) hk h3;refine fin (ents.modify j' λe=> {e with key:=gV kt p,val:=a.eval z}) clock (es.set j' (e'.1,q)) (h5 q).symm (by simp;omega) ?_ ?_
      ·have:(ents.modify j' λe=> {e with key:=gV kt p,val:=a.eval z}).toList=ents.toList.set j' {e0 with key:=gV kt p,val:=a.eval z}:=by
        apply Acl;intro n;rw[AaE,AbY,AbS]
        by_cases hn':j'=n
        ·subst hn'
         have hlt':=(AaB.1 he0).1;rw[As rfl,As rfl,As hlt',<-AaE,he0];rfl
        ·rw[An hn',An hn',AaE]
       rw[this];exact hes.set j' ⟨by show fE w S' (gV kt p) e'.1;rw[ek,<-hk0];exact hr0.1,hqr⟩
      ·rw[h1]at hf
       have hkey:(((ents[j']?).map (·.key)).getD (gV kt p))=gV kt e'.1:=by rw[<-AaE,he0];exact hk0
       unfold Instr.mapUpdate;simp only[IT,run_underlying hu,No,hget,X5 hk,hf,Abl,hkey,Instr.keyThatStays,hsb,if_true,TO,hset]
    ·exact hK.elim
  ·exact hK.elim
 ·exact h.elim
end
end Go.Proofs.YtdnmkinmcdihnaaGreatDoor
namespace Go.Proofs.YtdnmkinmcdihnaaGreatDoor
open Go.RowKit
variable[Lo]
section
variable {P:AcO}{E:TE}{A:xF}{b0:Yo}{w w':World}{S S':Nat->Prop}{pl pl':Nat->Value}{N:Nat}{σ:St}{a:Act}{v:Value}{d:D}{o:Oper}{K:D->St->Prop}{next:Act->World->Prop}{Q:Exit->Act->World->Prop}
theorem Qy{k:Nat}:∀ {l:AcZ},sH k l=true↔k∈l
 |[]=>by simp[sH]
 |i::r=>by
  unfold sH;cases hb:Nat.beq i k with
  |true=>rw[xA.1 hb];simp
  |false=>
   rw[Aag,Qy,Aad];refine⟨.inr,λh=>h.resolve_left λe=> ?_⟩
   rw[e,xA.2 rfl]at hb;cases hb
theorem LO{k:Nat}{l:AcZ}:sH k l=false↔k∉l:=by
 rw[<-Qy];cases sH k l<;>simp
theorem fO{α:Type}{k:Nat}{o:α}:∀ {l:List (Nat×α)},kN (l.map (·.1))=true->(k,o)∈l->zW k l=some o
 |[],_,h=>by cases h
 |(i,x)::r,hn,h=>by
  simp only[Aaq,kN,If,Aa1]at hn
  rw[xM];rcases Aad.1 h with h|h
  ·injection h with h1 h2;subst h1 h2;rw[As rfl]
  ·rw[An,fO hn.2 h]
   intro e;subst e;exact LO.1 hn.1 (OF.2 ⟨_,h,rfl⟩)
theorem zqt(ρ:List (Nat×Nat)):(JZ ρ).map (·.1)=ρ.map (·.2):=by simp[JZ]
theorem LQ{ρ:List (Nat×Nat)}(hn:kN (ρ.map (·.2))=true){k c:Nat}(h:(k,c)∈ρ):zW c (JZ ρ)=some k:=
 fO (by rw[zqt];exact hn) (OF.2 ⟨_,h,rfl⟩)
theorem LR{ρ:List (Nat×Nat)}{k c:Nat}(h:zW c (JZ ρ)=some k):(k,c)∈ρ:=by
 obtain⟨x,hx,e⟩:=OF.1 (fM h);injection e with e1 e2;subst e1 e2;exact hx
theorem J7{ρ:List (Nat×Nat)}(hρ:∀k j,zW k ρ=some j->pl' j=pl k)(h:Rd w S pl v d):Rd w S pl' v (d.ren ρ):=by
 cases hr:d.ref with
 |none=>
  have e:d.ren ρ=d:=by cases d<;>first|rfl|(simp[D.ref]at hr)
  rw[e];exact(h.flat hr).rd
 |some k=>
  cases d<;>simp only[D.ref,Option.some.injEq,reduceCtorEq]at hr
  all_goals
   subst hr;simp only[D.ren];split
   ·rename_i j hj
    simp only[Rd]at h⊢
    rw[hρ _ _ hj];exact h
   ·exact tD
theorem znK{ρ:List (Nat×Nat)}{d:D}(h:kM (d.ren ρ)=true):kM d=true:=by
 cases d<;>first|rfl|exact h|(simp only[D.ren]at h;revert h;split<;>exact id)
theorem znL{ρ:List (Nat×Nat)}{d:D}(h:o8 (d.ren ρ)=true):o8 d=true:=by
 cases d<;>first|rfl|exact h|(simp only[D.ren]at h;revert h;split<;>exact λh=>(by cases h))
theorem znM{ρ:List (Nat×Nat)}{p:Value}{o:yE}(hρ:∀k j,zW k ρ=some j->pl' j=pl k)(h:jF w S pl p o):jF w S pl' p (o.ren ρ):=by
 cases o with
 |cells ds=>
  obtain⟨b,vs,T,e1,e2,e3,e4,e5⟩:=h;refine⟨b,vs,T,e1,e2,by simpa using e3,λi d hd=> ?_,Od (λ_=>znL) e5⟩
  simp only[Aaw,AaD]at hd
  obtain⟨d0,hd0,rfl⟩:=hd;exact J7 hρ (e4 i d0 hd0)
 |row e t xs=>exact h
 |mp kt vt es=>exact h
 |val ds=>
  obtain⟨vs,e1,e3,e4⟩:=h;refine⟨vs,e1,by simpa using e3,λi d hd=> ?_⟩
  simp only[Aaw,AaD]at hd
  obtain⟨d0,hd0,rfl⟩:=hd;exact⟨J7 hρ (e4 i d0 hd0).1,λhc=>(e4 i d0 hd0).2 (znK hc)⟩
theorem fP{ob:Nat->Option yE}{ρ:List (Nat×Nat)}{c:Nat}{o:yE}:∀ {l:List (Nat×Nat)},zW c (gU ob ρ l)=some o->∃k o',(k,c)∈l/\ob k=some o'/\o=o'.ren ρ
 |[],h=>by cases h
 |(k,c')::r,h=>by
  unfold gU at h
  cases ho:ob k with
  |none=>
   rw[ho]at h
   obtain⟨k',o',h1,h2⟩:=fP (l:=r) h;exact⟨k',o',Aac _ h1,h2⟩
  |some o'=>
   rw[ho]at h
   simp only[xM]at h
   split at h
   ·rename_i e;subst e;injection h with h;exact⟨k,o',Aaa,ho,h.symm⟩
   ·obtain⟨k',o',h1,h2⟩:=fP (l:=r) h
    exact⟨k',o',Aac _ h1,h2⟩
def plC(ρ:List (Nat×Nat))(pl:Nat->Value)(c:Nat):Value:=match zW c (JZ ρ)with
 |some k=>pl k
 |none=>pl c
theorem WM{ρ:List (Nat×Nat)}(hn:kN (ρ.map (·.2))=true){k c:Nat}(h:(k,c)∈ρ):plC ρ pl c=pl k:=by
 unfold plC;rw[LQ hn h]
theorem J8(m:tF P b0 N σ a w S pl){ρ:List (Nat×Nat)}(hn1:kN (ρ.map (·.1))=true)(hn:kN (ρ.map (·.2))=true):Av w S (plC ρ pl) (gU σ.ob ρ ρ) where
 ok:=λc o h=>by
  obtain⟨k,o',h1,h2,rfl⟩:=fP h;rw[WM hn h1];exact znM (λk j hj=>WM hn (fM hj)) (m.hp k o' h2)
 priv:=λc o b h hb=>by
  obtain⟨k,o',h1,h2,rfl⟩:=fP h;rw[WM hn h1]at hb
  exact(m.priv k o' b h2 hb).2
 inj:=λc c' o o' b h h' hb hb'=>by
  obtain⟨k,o1,h1,h2,rfl⟩:=fP h;obtain⟨k',o2,h1',h2',rfl⟩:=fP h';rw[WM hn h1]at hb
  rw[WM hn h1']at hb'
  have e:=m.inj k k' o1 o2 b h2 h2' hb hb';subst e;have:=fO hn1 h1;rw[fO hn1 h1']at this
  injection this with this;exact this.symm
theorem LT{ρ:List (Nat×Nat)}(hn:kN (ρ.map (·.2))=true){b:Nat}(h:o9 (plC ρ pl) (gU σ.ob ρ ρ) b):∃k c o,(k,c)∈ρ/\zW k σ.hp=some o/\sR (pl k)=some b:=by
 obtain⟨c,o,h1,h2⟩:=h;obtain⟨k,o',h3,h4,rfl⟩:=fP h1;rw[WM hn h3]at h2
 exact⟨k,c,o',h3,h4,h2⟩
theorem Qz{α:Type}{ks:AcZ}{k:Nat}{o:α}:∀ {l:List (Nat×α)},zW k (VU ks l)=some o->k∉ks/\zW k l=some o
 |[],h=>by cases h
 |(i,x)::r,h=>by
  unfold VU at h
  cases hm:sH i ks with
  |true=>
   rw[hm,AI]at h
   obtain⟨h1,h2⟩:=Qz h;refine⟨h1,?_⟩;rw[xM,An]
   ·exact h2
   ·intro e;subst e;exact h1 (Qy.1 hm)
  |false=>
   rw[hm,Aag,xM]at h
   rw[xM];split at h
   ·rename_i e;subst e;rw[As rfl];exact⟨LO.1 hm,h⟩
   ·rename_i e;rw[An e];exact Qz h
theorem Ga{α:Type}{k:Nat}{o:α}:∀ {l l':List (Nat×α)},zW k (l++l')=some o->(k,o)∈l\/(zW k l'=some o)
 |[],l',h=> .inr h
 |(i,x)::r,l',h=>by
  rw[AbT,xM]at h
  split at h
  ·rename_i e;subst e;injection h with h;subst h;exact .inl Aaa
  ·rcases Ga h with h|h
   ·exact .inl (Aac _ h)
   ·exact .inr h
theorem zcC{ks:AcZ}{d:D}(h:kM (jP ks d)=true):kM d=true:=by
 cases d<;>first|rfl|exact h|(simp only[jP,D.ref]at h;revert h;cases sH _ ks<;>exact id)
theorem zcD{ks:AcZ}{d:D}(h:o8 (jP ks d)=true):o8 d=true:=by
 cases d<;>first|rfl|exact h|(simp only[jP,D.ref]at h;revert h;cases sH _ ks<;>exact λh=>(by cases h))
theorem MI{ks:AcZ}(h:Rd w S pl v d)(hk:∀b,S b->w'.heap[b]? =w.heap[b]?)(hS:∀b,S b->S' b)(hp:∀k,k∉ks->d.ref=some k->pl' k=pl k):Rd w' S' pl' v (jP ks d):=by
 unfold jP;split
 ·rename_i j hj
  cases hm:sH j ks with
  |true=>rw[AI];exact tD
  |false=>rw[Aag];exact h.mono hk hS λk hk'=>hp k (by rw[hj]at hk';injection hk' with hk';subst hk';exact LO.1 hm) hk'
 ·rename_i hj;exact h.mono hk hS λk hk'=>by rw[hj]at hk';cases hk'
theorem tF.after(m:tF P b0 N σ a w S pl){ρ:List (Nat×Nat)}{dst:Nat}{h':List (Nat×yE)}(hc:zeH σ ρ dst h'=true){S1:Nat->Prop}{pl1:Nat->Value}(g1:Av w' S1 pl1 h')(g2:∀b,S1 b->b<w'.heap.size)
  (g3:∀b,S1 b->S b\/o9 (plC ρ pl) (gU σ.ob ρ ρ) b\/w.heap.size<=b) (g4:∀b,o9 pl1 h' b->o9 (plC ρ pl) (gU σ.ob ρ ρ) b\/w.heap.size<=b) (g5:∀k,stabK k=true->pl1 k=plC ρ pl k)
  (g6:rE w.heap.size (o9 (plC ρ pl) (gU σ.ob ρ ρ)) w w'):
  ∃pl2,tF P b0 N (σ.after ρ dst h') a w' (λb=>S b\/S1 b) pl2/\∀v d,Rd w' S1 pl1 v d->Rd w' (λb=>S b\/S1 b) pl2 v (d.ren (h'.map λx=>(x.1,jO (JZ ρ) dst x.1))):=by
 simp only[zeH,If]at hc
 obtain⟨⟨⟨⟨⟨n1,n2⟩,n3⟩,n4⟩,c1⟩,c2⟩:=hc
 have c1':∀k c,(k,c)∈ρ->(stabK k=true->stabK c=true)/\c<3000:=λk c hm=>by
  have:=Aav.1 c1 _ hm;simp only[If,AaY,Aa1]at this
  exact⟨λhs=>by rcases this.1 with h|h;rw[hs]at h;cases h;exact h,Aau this.2⟩
 let f:Nat×yE->Nat×Nat:=λx=>(x.1,jO (JZ ρ) dst x.1)
 let β:=h'.map f
 have nb2:kN (β.map (·.2))=true:=by rw[List.map_map];exact n4
 have nb1:kN (β.map (·.1))=true:=by rw[List.map_map];exact n3
 let pl2:Nat->Value:=λk=>match zW k (JZ β)with
  |some c=>pl1 c
  |none=>pl k
 have e2:∀c k,(c,k)∈β->pl2 k=pl1 c:=λc k h=>by
  show(match zW k (JZ β)with|some c=>pl1 c|none=>pl k)=_
  rw[LQ nb2 h]
 have hwB:∀b,o9 (plC ρ pl) (gU σ.ob ρ ρ) b->b<w.heap.size/\¬S b/\(b0.O b\/b0.w.heap.size<=b):=λb hb=>by
  obtain⟨k,c,o,h1,h2,h3⟩:=LT n2 hb;have:=m.priv k o b h2 h3;exact⟨this.2.1,this.2.2,this.1⟩
 have hS:∀b,S b->w'.heap[b]? =w.heap[b]? :=λb hb=>g6.block b (m.lt b hb) λhh=>(hwB b hh).2.1 hb
 let dead:=((ρ.filter λx=> !stabK x.2|| !(sH x.2 (h'.map (·.1)))).map (·.1))++(β.filter λx=> !(sH x.1 (ρ.map (·.2)))).map (·.2)
 have keep:∀k,k∉dead->pl2 k=pl k:=λk hk=>by
  show(match zW k (JZ β)with|some c=>pl1 c|none=>pl k)=_
  cases hl:zW k (JZ β)with
  |none=>rfl
  |some c=>
   simp only;have hm:=LR hl;obtain⟨x,hx,e⟩:=OF.1 hm
   by_cases hr:c∈ρ.map (·.2)
   ·obtain⟨⟨k0,c0⟩,h0,e0⟩:=OF.1 hr
    simp only at e0;subst e0
    have hb:jO (JZ ρ) dst c0=k0:=by unfold jO;rw[LQ n2 h0]
    have e1:x.1=c0:=AS Prod.fst e;have e3:jO (JZ ρ) dst x.1=k:=AS Prod.snd e;rw[e1,hb]at e3;subst e3
    have hnd:¬(!stabK c0|| !(sH c0 (h'.map (·.1))))=true:=λhh=>hk (AaH _ (OF.2 ⟨(k0,c0),Aax.2 ⟨h0,hh⟩,rfl⟩))
    simp only[AaY,not_or]at hnd
    have hst:stabK c0=true:=by simpa using hnd.1
    rw[g5 c0 hst,WM n2 h0]
   ·exact At (AaU _ (OF.2 ⟨(c,k),Aax.2 ⟨hm,by rw[Aa1,LO];exact hr⟩,rfl⟩)) hk
 have e1:∀i,(σ.after ρ dst h').get i=jP dead (σ.get i):=λi=>by
  show D.or (zW i (σ.fr.map λx=>(x.1,jP dead x.2)))=_
  rw[lG];unfold St.get;cases zW i σ.fr<;>rfl
 have hold:∀k o,zW k (σ.after ρ dst h').hp=some o->(∃c o',zW c h'=some o'/\(c,k)∈β/\o=o'.ren β)\/((k∉ρ.map (·.1))/\k∉β.map (·.2)/\∃o0,zW k σ.hp=some o0/\o=o0.map (jP dead)):=λk o h=>by
  rcases Ga h with h|h
  ·left
   obtain⟨x,hx,e⟩:=OF.1 h;injection e with e3 e4
   exact⟨x.1,x.2,fO n3 hx,OF.2 ⟨x,hx,by show(x.1,jO (JZ ρ) dst x.1)=_;rw[e3]⟩,e4.symm⟩
  ·right
   obtain⟨h1,h2⟩:=Qz h;rw[lG]at h2
   simp only[Aai,not_or]at h1
   refine⟨h1.1,h1.2,?_⟩;cases h0:zW k σ.hp with
   |none=>rw[h0]at h2;cases h2
   |some o0=>rw[h0]at h2;injection h2 with h2;exact⟨o0,rfl,h2.symm⟩
 have other:∀k o0 b,k∉ρ.map (·.1)->zW k σ.hp=some o0->sR (pl k)=some b->¬o9 (plC ρ pl) (gU σ.ob ρ ρ) b:=λk o0 b hk h0 hb hh=>by
  obtain⟨k',c,o,h1,h2,h3⟩:=LT n2 hh;have:=m.inj k k' o0 o b h0 h2 hb h3;subst this;exact hk (OF.2 ⟨_,h1,rfl⟩)
 have place:∀k,k∉β.map (·.2)->pl2 k=pl k:=λk hk=>by
  show(match zW k (JZ β)with|some c=>pl1 c|none=>pl k)=_
  cases hl:zW k (JZ β)with
  |none=>rfl
  |some c=>exact At (OF.2 ⟨_,LR hl,rfl⟩) hk
 refine⟨pl2,⟨m.dz,m.sz,λi=> ?_,λk o h=> ?_,λb hb=> ?_,λb hb=> ?_,λk o b h hb=> ?_,λk k' o o' b h hh hb hb'=> ?_,?_,λk hk=> ?_,m.gok⟩,λv d h=> ?_⟩
 ·rw[e1]
  exact MI (m.fr i) hS (λb hb=> .inl hb) λk hk _=>keep k hk
 ·rcases hold k o h with⟨c,o',h1,h2,rfl⟩|⟨h1,h2,o0,h3,rfl⟩
  ·rw[e2 c k h2]
   refine znM (λc j hj=>e2 c j (fM hj)) ?_
   exact(g1.ok c o' h1).mono (pl:=pl1) (λ_ _=>rfl) (λ_ _=>rfl) (λb hb=> .inr hb) λ_ _ _ _=>rfl
  ·rw[place k h2]
   have h0:=m.hp k o0 h3;have hb:∀b,sR (pl k)=some b->w'.heap[b]? =w.heap[b]? :=λb hb=>g6.block b (m.priv k o0 b h3 hb).2.1 (other k o0 b h1 h3 hb)
   cases o0 with
   |cells ds=>
    obtain⟨b,vs,T,q1,q2,q3,q4,q5⟩:=h0;refine⟨b,vs,T,q1,by rw[hb b (by rw[q1];rfl)];exact q2,by simpa using q3,λi d hd=> ?_,Od (λ_=>zcD) q5⟩
    simp only[Aaw,AaD]at hd
    obtain⟨d0,hd0,rfl⟩:=hd;exact MI (q4 i d0 hd0) hS (λb hb=> .inl hb) λk hk _=>keep k hk
   |row e t xs=>exact jF.mono (pl:=pl) (pl':=pl2) h0 hS hb (λb hb=> .inl hb) λ_ _ e=>by cases e
   |mp kt vt es=>exact jF.mono (pl:=pl) (pl':=pl2) h0 hS hb (λb hb=> .inl hb) λ_ _ e=>by cases e
   |val ds=>
    obtain⟨vs,q1,q3,q4⟩:=h0;refine⟨vs,q1,by simpa using q3,λi d hd=> ?_⟩
    simp only[Aaw,AaD]at hd
    obtain⟨d0,hd0,rfl⟩:=hd;exact⟨MI (q4 i d0 hd0).1 hS (λb hb=> .inl hb) λk hk _=>keep k hk,λhc=>(q4 i d0 hd0).2 (zcC hc)⟩
 ·rcases hb with hb|hb
  ·exact Aaz (m.lt b hb) g6.size
  ·exact g2 b hb
 ·rcases hb with hb|hb
  ·exact m.src b hb
  ·rcases g3 b hb with hb|hb|hb
   ·exact m.src b hb
   ·exact .inr (hwB b hb).2.2
   ·exact .inr (.inr (Aan m.below.size hb))
 ·rcases hold k o h with⟨c,o',h1,h2,rfl⟩|⟨h1,h2,o0,h3,rfl⟩
  ·rw[e2 c k h2]at hb
   obtain⟨p1,p2⟩:=g1.priv c o' b h1 hb;rcases g4 b ⟨c,o',h1,hb⟩with hh|hh
   ·have:=hwB b hh
    exact⟨this.2.2,p1,λhs=>hs.elim this.2.1 p2⟩
   ·exact⟨.inr (Aan m.below.size hh),p1,λhs=>hs.elim (λhs=>by have:=m.lt b hs;omega) p2⟩
  ·rw[place k h2]at hb
   obtain⟨p1,p2,p3⟩:=m.priv k o0 b h3 hb;refine⟨p1,Aaz p2 g6.size,λhs=> ?_⟩
   rcases hs with hs|hs
   ·exact p3 hs
   ·rcases g3 b hs with hs|hs|hs
    ·exact p3 hs
    ·exact other k o0 b h1 h3 hb hs
    ·omega
 ·rcases hold k o h with⟨c,o1,h1,h2,rfl⟩|⟨h1,h2,o0,h3,rfl⟩<;>rcases hold k' o' hh with⟨c',o2,h1',h2',rfl⟩|⟨h1',h2',o0',h3',rfl⟩
  ·rw[e2 c k h2]at hb
   rw[e2 c' k' h2']at hb'
   have:=g1.inj c c' o1 o2 b h1 h1' hb hb';subst this;have e3:=fO nb1 h2;rw[fO nb1 h2']at e3
   injection e3 with e3;exact e3.symm
  ·rw[e2 c k h2]at hb
   rw[place k' h2']at hb'
   rcases g4 b ⟨c,o1,h1,hb⟩with hh|hh
   ·exact(other k' o0' b h1' h3' hb' hh).elim
   ·have:=(m.priv k' o0' b h3' hb').2.1;omega
  ·rw[place k h2]at hb
   rw[e2 c' k' h2']at hb'
   rcases g4 b ⟨c',o2,h1',hb'⟩with hh|hh
   ·exact(other k o0 b h1 h3 hb hh).elim
   ·have:=(m.priv k o0 b h3 hb).2.1;omega
  ·rw[place k h2]at hb
   rw[place k' h2']at hb'
   exact m.inj k k' o0 o0' b h3 h3' hb hb'
 ·exact⟨g6.os.trans m.below.os,g6.tape.trans m.below.tape,g6.output.trans m.below.output,Aan m.below.size g6.size,λc hc hO=>by
   refine(g6.block c (Aaz hc m.below.size) λhh=> ?_).trans (m.below.block c hc hO)
   rcases(hwB c hh).2.2 with h|h
   ·exact hO h
   ·omega⟩
 ·
  refine Eq.trans ?_ (m.stay k hk);show(match zW k (JZ β)with|some c=>pl1 c|none=>pl k)=_
  cases hl:zW k (JZ β)with
  |none=>rfl
  |some c=>
   simp only;obtain⟨x,hx,e⟩:=OF.1 (LR hl);have e1:x.1=c:=AS Prod.fst e;have e3:jO (JZ ρ) dst x.1=k:=AS Prod.snd e
   by_cases hr:c∈ρ.map (·.2)
   ·obtain⟨⟨k0,c0⟩,h0,e0⟩:=OF.1 hr
    simp only at e0;subst e0
    have hb:jO (JZ ρ) dst c0=k0:=by unfold jO;rw[LQ n2 h0]
    rw[e1,hb]at e3;subst e3
    rw[g5 c0 ((c1' k0 c0 h0).1 hk),WM n2 h0]
   ·exfalso
    have hn:zW c (JZ ρ)=none:=by
     cases hh:zW c (JZ ρ)with
     |none=>rfl
     |some k0=>exact At (OF.2 ⟨_,LR hh,rfl⟩) hr
    rw[e1]at e3
    simp only[jO,hn]at e3
    simp only[stabK,If]at hk
    have h2:=Aau hk.2;omega
 ·exact J7 (λc j hj=>e2 c j (fM hj)) (h.mono (λ_ _=>rfl) (λb hb=> .inr hb) λ_ _=>rfl)
theorem zlJ(k off:Nat):stabK (cF k off)=false:=by
 unfold stabK cF;cases h:Nat.ble 1000 (1000000+1000*k+off)&&Nat.blt (1000000+1000*k+off) 2000 with
 |false=>rfl
 |true=>
  simp only[If]at h
  have:=Aau h.2;omega
theorem zlK{ds:AcT}(h:ds[0]? =some (.ifc (.pointer none))):cE ds=true:=by
 cases ds with
 |nil=>cases h
 |cons a r=>injection h with h;subst h;rfl
theorem zaR(m:tF P b0 N σ a w S pl)(k off:Nat)(e:AcN)(t:Ty):∃pl',tF P b0 N (Qv σ k off e t) a w S pl'/\∀v d,d.ref≠some (cF k off)->Rd w S pl v d->Rd w S pl' v d:=by
 unfold Qv;split
 ·rename_i ds hob
  split
  ·rename_i hnil
   cases hb:Nat.beq k (cF k off)with
   |true=>exact⟨pl,m,λ_ _ _ h=>h⟩
   |false=>
    rw[Aag];have hne:k≠cF k off:=λe=>by rw[<-e,xA.2 rfl]at hb;cases hb
    have m1:=m.mk' (w':=w) (cF k off) (zlJ k off) (.row e t []) (.slice none 0 0) (Below.refl _ _) (λb hb=>by cases hb) λpl' _=>⟨by simp[lim],[],rfl,by simpa using World.ownsRow_nil w 0 e t.size,by simp,by simp⟩
    have hob1:zW k (σ.mk' (cF k off) (.row e t [])).hp=some (.cells (ds.map (D.kill (cF k off)))):=by
     simp only[St.mk',xM,pH,An (Ne.symm hne),St.map,lG];have:zW k σ.hp=some (.cells ds):=hob;rw[this];rfl
    obtain⟨b,vs,T,q1,q2,q3,q4,q5⟩:=m1.hp k _ hob1;refine⟨_,m1.setOb (w':=w) hob1 (b:=b) (by rw[q1];rfl) (λ_ _=>rfl) rfl ⟨rfl,rfl,rfl⟩ ?_,λv d hd h=>h.mono (λ_ _=>rfl) (λ_ h=>h) λj hj=>An λe=>hd (by rw[hj,e])⟩
    refine⟨b,vs,T,q1,q2,by simpa using q3,λi d hd=> ?_,λhh=>by rw[AaT];exact q5 ((My hh).resolve_right λx=>by cases x.2)⟩
    rw[AbS]at hd
    split at hd
    ·rename_i e;subst e
     split at hd
     ·injection hd with hd;subst hd
      have:=q4 off .nil (by rw[Aaw,hnil];rfl)
      have hv:=(this.flat (d:=.nil) rfl).nil_inv;show _=(if cF k off=cF k off then _ else _)
      rw[As rfl,hv]
     ·cases hd
    ·exact q4 i d hd
  ·rename_i hnil
   obtain⟨b,vs,T,q1,q2,q3,q4,q5⟩:=m.hp k _ hob;refine⟨pl,m.setOb (w':=w) hob (b:=b) (by rw[q1];rfl) (λ_ _=>rfl) rfl ⟨rfl,rfl,rfl⟩ ?_,λv d hd h=>h⟩
   refine⟨b,vs,T,q1,q2,by simpa using q3,λi d hd=> ?_,λhh=>by rw[AaT];exact q5 ((My hh).elim id λx=>zlK (x.1▸hnil))⟩
   rw[AbS]at hd
   split at hd
   ·rename_i e;subst e
    split at hd
    ·injection hd with hd;subst hd
     have:=q4 off _ hnil;exact .inl (this.flat (d:=.ifc (.pointer none)) rfl).ifc_inv
    ·cases hd
   ·exact q4 i d hd
  ·exact⟨pl,m,λ_ _ _ h=>h⟩
 ·exact⟨pl,m,λ_ _ _ h=>h⟩
theorem WN(ds:AcT):∀(l:List (Nat×(Nat×(AcN×Ty)))) (σ:St) (pl:Nat->Value),tF P b0 N σ a w S pl->∃pl',tF P b0 N (jN ds l σ) a w S pl'/\∀v d,(∀k,d.ref=some k->k<1000000)->Rd w S pl v d->Rd w S pl' v d
 |[],σ,pl,m=>⟨pl,m,λ_ _ _ h=>h⟩
 |(i,off,e,t)::r,σ,pl,m=>by
  unfold jN;split
  ·rename_i k _
   obtain⟨pl1,m1,h1⟩:=zaR m k off e t;obtain⟨pl2,m2,h2⟩:=WN ds r _ _ m1;exact⟨pl2,m2,λv d hd h=>h2 v d hd (h1 v d (λe=>by have:=hd _ e;unfold cF at this;omega) h)⟩
  ·exact WN ds r σ pl m
theorem Gb(m:tF P b0 N σ a w S pl)(k off:Nat):∃S',(∀b,S b->S' b)/\tF P b0 N (Xo σ k off) a w S' pl:=by
 unfold Xo;split
 ·split
  ·split
   ·rename_i j _ o hob
    cases hf:o.flatB with
    |false=>exact⟨S,λ_ h=>h,m⟩
    |true=>
     have hfl:o.flat:=by
      cases o with
      |cells cs=>exact λd hd=>oU.1 (Aav.1 hf d hd)
      |row _ _ _=>trivial
      |mp _ _ _=>trivial
      |val cs=>exact λd hd=>oU.1 (Aav.1 hf d hd)
     exact⟨_,λ_ h=> .inl h,m.pub hob hfl⟩
   ·exact⟨S,λ_ h=>h,m⟩
  ·exact⟨S,λ_ h=>h,m⟩
 ·exact⟨S,λ_ h=>h,m⟩
theorem X6(ds:AcT):∀(l:List (Nat×Nat)) (σ:St) (S:Nat->Prop),tF P b0 N σ a w S pl->∃S',(∀b,S b->S' b)/\tF P b0 N (uP ds l σ) a w S' pl
 |[],σ,S,m=>⟨S,λ_ h=>h,m⟩
 |(i,off)::r,σ,S,m=>by
  unfold uP;split
  ·rename_i k _
   obtain⟨S1,h1,m1⟩:=Gb m k off;obtain⟨S2,h2,m2⟩:=X6 ds r _ _ m1;exact⟨S2,λb h=>h2 b (h1 b h),m2⟩
  ·exact X6 ds r σ S m
theorem znN:∀ {ts:Ac2} {K:AcT->Prop},exH ts K->∃xs,K xs
 |[],K,h=>⟨[],h⟩
 |t::ts,K,h=>by
  obtain⟨x,h⟩:=h;obtain⟨xs,h⟩:=znN h;exact⟨_,h⟩
theorem MJ(m:tF P b0 N σ a w S pl){f:AcM}{hs:zcg}{ds0 caps:AcT}{vs cvs:Array Value}(h:H5 P A f hs (zlF o.dst) ds0 caps σ K)(hv:xK (Rd w S pl) vs.toList ds0)(hcv:xK (Rp w S) cvs.toList caps)
  (hn:sV P b0 N o a K next):Calls P f (vs++cvs) w fun
   | .returned v,w''=>next (a.put o.dst v) w''
   | .panicked chain,w''=>Q (.panic chain) a w''
   | .outgrown,_=>LetsOut Q:=by
 unfold H5 at h
 cases hb:caps.all dU&&ds0.all MC with
 |false=>rw[hb]at h;exact h.elim
 |true=>
  rw[hb,AI]at h
  simp only[If]at hb
  obtain⟨hb1,hb2⟩:=hb;simp only at h
  obtain⟨S1,hS1,m1⟩:=X6 ds0 hs.datas σ S m;obtain⟨pl1,m2,hr1⟩:=WN (ds0++fj (uP ds0 hs.datas σ) ds0) hs.nils _ _ m1;generalize jN (ds0++fj (uP ds0 hs.datas σ) ds0) hs.nils (uP ds0 hs.datas σ)=σ1 at h m2
  generalize zcp σ1.ob (Qu ds0) (reach σ1.ob 400 [] ds0) 0 0=ρ at h
  obtain⟨xs,h⟩:=znN h;split at h
  ·rename_i r h' _
   cases hc:zeH σ1 ρ (zlF o.dst) h' with
   |false=>rw[hc]at h;exact h.elim
   |true=>
    rw[hc,AI]at h
    obtain⟨hs',hK⟩:=h;have hc':=hc;simp only[zeH,If]at hc'
    obtain⟨⟨⟨⟨⟨n1,n2⟩,n3⟩,n4⟩,_⟩,_⟩:=hc';have hpk:=J8 m2 n1 n2
    have hv2:xK (Rd w S1 (plC ρ pl1)) vs.toList (ds0.map (D.ren ρ)):=by
     refine xK.map_right ?_;have:=hv.len;refine xK.of this λi u d hu hd=> ?_
     obtain⟨u',hu',hr⟩:=hv.at hd;rw[hu]at hu';injection hu' with hu';subst hu'
     refine J7 (λk j hj=>WM n2 (fM hj)) (hr1 u d (λk hk=> ?_) (hr.mono (λ_ _=>rfl) hS1 λ_ _=>rfl))
     have:=Aav.1 hb2 d (AaS hd);unfold MC at this
     rw[hk]at this
     exact Aau this
    have hcv2:xK (Rd w S1 (plC ρ pl1)) cvs.toList caps:=(hcv.rmono (λ_ _=>rfl) hS1).rd
    have hall:=hv2.append hcv2
    refine(hs' w S1 (vs++cvs) (plC ρ pl1) m2.lt (by have:=hall.len;simpa using this) (λi d hd=> ?_) hpk (m2.gnow λb hb=>by
     obtain⟨k,c,o,h1,h2,h3⟩:=LT n2 hb;exact(m2.priv k o b h2 h3).1)).mono λe w' hh=> ?_
    ·obtain⟨u,hu,hr⟩:=hall.at hd
     have:(vs++cvs).getD i undef=u:=by rw[Aaj,<-AaE,Array.toList_append,hu];rfl
     rw[this];exact hr
    ·obtain⟨v,S',pl',rfl,k1,k2,k3,k4,k5,k6,k7⟩:=hh
     obtain⟨pl2,m3,hr3⟩:=m2.after hc k2 k3 k4 k5 k6 k7;exact hn _ _ _ _ _ _ hK m3 (hr3 v r k1)
  ·exact h.elim
theorem zgW(m:tF P b0 N σ a w S pl){f:AcM}{hs:zcg}{ds0 caps:AcT}{vs cvs:Array Value}{T:Value->Prop}(h:znx P f hs ds0 caps σ T)(hv:xK (Rd w S pl) vs.toList ds0)(hcv:xK (Rp w S) cvs.toList caps)
  (hT:∀u w',T u->rE b0.w.heap.size b0.O b0.w w'->Q (.panic [{v:=u,recovered:=false}]) a w'):Calls P f (vs++cvs) w fun
   | .returned v,w''=>next (a.put o.dst v) w''
   | .panicked chain,w''=>Q (.panic chain) a w''
   | .outgrown,_=>LetsOut Q:=by
 unfold znx at h
 cases hb:caps.all dU&&ds0.all MC with
 |false=>rw[hb]at h;exact h.elim
 |true=>
  rw[hb,AI]at h
  simp only[If]at hb
  obtain⟨hb1,hb2⟩:=hb;simp only at h
  obtain⟨S1,hS1,m1⟩:=X6 ds0 hs.datas σ S m;obtain⟨pl1,m2,hr1⟩:=WN (ds0++fj (uP ds0 hs.datas σ) ds0) hs.nils _ _ m1;generalize jN (ds0++fj (uP ds0 hs.datas σ) ds0) hs.nils (uP ds0 hs.datas σ)=σ1 at h m2
  generalize zcp σ1.ob (Qu ds0) (reach σ1.ob 400 [] ds0) 0 0=ρ at h
  cases hc:kN (ρ.map (·.1))&&kN (ρ.map (·.2))with
  |false=>rw[hc]at h;exact h.elim
  |true=>
   rw[hc,AI]at h
   obtain⟨u,hs',hK⟩:=h;simp only[If]at hc
   obtain⟨n1,n2⟩:=hc;have hpk:=J8 m2 n1 n2
   have hv2:xK (Rd w S1 (plC ρ pl1)) vs.toList (ds0.map (D.ren ρ)):=by
    refine xK.map_right ?_;have:=hv.len;refine xK.of this λi u d hu hd=> ?_
    obtain⟨u',hu',hr⟩:=hv.at hd;rw[hu]at hu';injection hu' with hu';subst hu'
    refine J7 (λk j hj=>WM n2 (fM hj)) (hr1 u d (λk hk=> ?_) (hr.mono (λ_ _=>rfl) hS1 λ_ _=>rfl))
    have:=Aav.1 hb2 d (AaS hd);unfold MC at this
    rw[hk]at this
    exact Aau this
   have hcv2:xK (Rd w S1 (plC ρ pl1)) cvs.toList caps:=(hcv.rmono (λ_ _=>rfl) hS1).rd
   have hall:=hv2.append hcv2
   have hwB:∀b,o9 (plC ρ pl1) (gU σ1.ob ρ ρ) b->b0.O b\/b0.w.heap.size<=b:=λb hb=>by
    obtain⟨k,c,o,h1,h2,h3⟩:=LT n2 hb;exact(m2.priv k o b h2 h3).1
   refine(hs' w S1 (vs++cvs) (plC ρ pl1) m2.lt (by have:=hall.len;simpa using this) (λi d hd=> ?_) hpk (m2.gnow hwB)).mono λe w' hh=> ?_
   ·obtain⟨u,hu,hr⟩:=hall.at hd
    have:(vs++cvs).getD i undef=u:=by rw[Aaj,<-AaE,Array.toList_append,hu];rfl
    rw[this];exact hr
   ·obtain⟨rfl,g6⟩:=hh
    refine hT u w' hK ⟨g6.os.trans m.below.os,g6.tape.trans m.below.tape,g6.output.trans m.below.output,Aan m.below.size g6.size,λc hc hO=> ?_⟩
    refine(g6.block c (Aaz hc m.below.size) λhh=> ?_).trans (m.below.block c hc hO)
    rcases hwB c hh with h|h
    ·exact hO h
    ·omega
end
end Go.Proofs.YtdnmkinmcdihnaaGreatDoor
namespace Go.Proofs.YtdnmkinmcdihnaaGreatDoor
open Go.RowKit
variable[Lo]
section
variable {P:AcO}{E:TE}{A:xF}{b0:Yo}{w w':World}{S S':Nat->Prop}{pl pl':Nat->Value}{N:Nat}{σ:St}{a:Act}{v:Value}{d:D}{o:Oper}{K:D->St->Prop}{next:Act->World->Prop}{Q:Exit->Act->World->Prop}
theorem LU(m:tF P b0 N σ a w S pl){dflt:Int}{x:Option Operand}{n:Int}(h:Yp σ dflt x=some n):(x=none/\n=dflt)\/∃y,x=some y/\a.eval y=.int .i64 n:=by
 cases x with
 |none=>injection h with h;exact .inl ⟨rfl,h.symm⟩
 |some y=>
  right;have hy:=tB m y;simp only[Yp]at h
  split at h
  ·rename_i k e
   injection h with h;subst h
   rw[e]at hy
   exact⟨y,rfl,(hy.flat (d:=.int .i64 k) rfl).int_inv.1⟩
  ·cases h
theorem zcE(n:Int)(y:Nat)(code:BoundsCode)(h0:0<=n)(h1:n<=(y:Int)):(Instr.sliceBound (.int .i64 n) y code).run P w=.ok n.toNat w:=by
 simp only[Instr.sliceBound,asIntOf,IT,TO,No];rw[As ⟨h0,h1⟩];rfl
theorem Dr{lo hi:Option Operand}{l h:Int}{isS:Bool}{len cap:Nat}(hlo:(lo=none/\l=0)\/∃y,lo=some y/\a.eval y=.int .i64 l)(hhi:(hi=none/\h=(len:Int))\/∃y,hi=some y/\a.eval y=.int .i64 h)
  (h0:0<=l) (h1:l<=h) (h2:h<=(len:Int)) (hc:len<=cap):(Instr.sliceBounds isS len cap (lo.map a.eval) (hi.map a.eval) none).run P w=.ok (l.toNat,h.toNat,cap) w:=by
 unfold Instr.sliceBounds;rcases hhi with⟨rfl,rfl⟩|⟨y,rfl,e⟩<;>rcases hlo with⟨rfl,rfl⟩|⟨z,rfl,e'⟩
 ·simp only[AbH,IT,TO,No];try rfl
 ·simp only[AbH,Abl,e',IT,TO,No,zcE l len _ h0 (by omega)];try rfl
 ·simp only[AbH,Abl,e,IT,TO,No,zcE h cap _ (by omega) (by omega)];try rfl
 ·simp only[Abl,e,e',IT,TO,No,zcE h cap _ (by omega) (by omega),zcE l h.toNat _ h0 (by omega)]
theorem zaS{l h:Int}{len:Nat}(hh:Nh l h len=true):0<=l/\l<=h/\h<=(len:Int):=by simpa[Nh,and_assoc]using hh
theorem zsB{t:Ty}{xs:List t.den}{A:Option Addr}{c l h:Nat}(hr:fE w S (.slice A xs.length c) xs)(h1:l<=h)(h2:h<=xs.length):fE w S (sliced A l h c t.size) ((xs.take h).drop l):=by
 obtain⟨cs,e,A',c',rfl,k0,k1,k2,k3,k4⟩:=hr;simp only[vOf,Value.slice.injEq]at e
 obtain⟨rfl,_,rfl⟩:=e;have hlen:((xs.take h).drop l).length=h-l:=by rw[Abm,Aak];omega
 refine⟨[_],rfl,(if c=l then A else A.map (·.add (l*t.size))),c-l,by rw[hlen],?_,by omega,by omega,λhn=> ?_,λhn=> ?_⟩
 ·rw[hlen]
  exact Aan (Aa8 _ (by omega)) k0
 ·split at hn
  ·have:=k3 hn;omega
  ·cases A with
   |none=>have:=k3 rfl;omega
   |some ad=>cases hn
 ·obtain⟨b,o',rfl,hb,hc⟩:=k4 (by omega)
  rw[An (by omega)]
  refine⟨b,o'+l*t.size,?_,hb,λi x hx=> ?_⟩
  ·simp only[Abl,Addr.add]
   split
   ·rename_i e;rw[e];rfl
   ·rfl
  ·rw[Aby,Abs]at hx
   split at hx
   ·obtain⟨cs,hcs,hcell⟩:=hc (l+i) x hx
    refine⟨cs,hcs,λj u hu=> ?_⟩
    have:=hcell j u hu;rw[<-this,<-Ty.size_eq]
    congr 2
    rw[Nat.add_mul];omega
   ·cases hx
theorem znO(F:vE P E)(m:tF P b0 N σ a w S pl){T:AcN}{x:Operand}{lo hi:Option Operand}(ho:o.op=.slice T x lo hi none)(h:zck E A T (σ.ev x) σ lo hi K)(hn:sV P b0 N o a K next):o.wp P a w next Q:=by
 have hx:=tB m x;unfold zck at h
 split at h
 ·rename_i s e
  rw[e]at hx
  obtain⟨hx,hsz⟩:=(hx.flat (d:=.str s) rfl).str_inv;cases hm:sH T E.strs with
  |false=>rw[hm]at h;exact h.elim
  |true=>
   rw[hm,AI]at h
   split at h
   ·rename_i l hh e1 e2
    obtain⟨hin,h⟩:=h;obtain⟨h0,h1,h2⟩:=zaS hin;have hb:=Dr (P:=P) (w:=w) (isS:=false) (cap:=s.size) (LU m e1) (LU m e2) h0 h1 h2 (IN _)
    have hrun:(execOp a.eval o).run P w=.ok (.value (.string (s.extract l.toNat hh.toNat))) w:=by
     unfold execOp;rw[ho];simp only[Instr.sliceAt,Instr.slice,IT,run_underlying (F.strs T hm),No,hx,AbH,Option.isSome_none,AaR,if_false,hb,TO]
    refine yT hrun (hn _ _ _ _ _ _ h m (Rp.rd (.str _ ?_)));rw[Aco];omega
   ·exact h.elim
 ·obtain⟨σ',ds',S',hK,hS,m',hv⟩:=pL h m
  have hr:=hv [a.eval x] (.cons hx .nil);split at hK
  ·rename_i t xs
   split at hK
   ·rename_i e t' l hh hl e1 e2
    cases hz:Nat.beq t'.size t.size with
    |false=>rw[hz]at hK;exact hK.elim
    |true=>
     rw[hz,AI]at hK
     obtain⟨hin,hK⟩:=hK;obtain⟨h0,h1,h2⟩:=zaS hin;obtain _|⟨hr1,_⟩:=hr
     have hrd:=hr1.sl_inv';obtain⟨A',c,hv',hok⟩:=sM hrd;have hb:=Dr (P:=P) (w:=w) (isS:=true) (cap:=c) (LU m' e1) (LU m' e2) h0 h1 h2 hok.cap
     have hrun:(execOp a.eval o).run P w=.ok (.value (sliced A' l.toNat hh.toNat c t.size)) w:=by
      unfold execOp;rw[ho];simp only[Instr.sliceAt,Instr.slice,IT,run_underlying (F.sl T e t' hl).und,No,hv',AbH,hb,MH F hl,TO];rw[xA.1 hz];rfl
     rw[hv']at hrd
     exact yT hrun (hn _ _ _ _ _ _ hK m' (Rp.rd (.sl t _ _ (zsB hrd (by omega) (by omega)))))
   ·exact hK.elim
  ·exact hK.elim
theorem zsC(F:vE P E)(m:tF P b0 N σ a w S pl){c:Call}(ho:o.op=.call c)(hc:c.callee=.builtin .len){x:Operand}{T:AcN}(ha:c.args.toList=[x])(ht:c.argTypes.toList=[T])(h:zqd E T (σ.ev x) σ λd=>K d σ)(hn:sV P b0 N o a K next):o.wp P a w next Q:=by
 have hx:=tB m x;have ha':c.args= #[x]:=by apply Array.ext';simpa using ha
 have ht':c.argTypes= #[T]:=by apply Array.ext';simpa using ht
 have run:∀u,(Builtin.len_ #[T] o.type #[a.eval x]).run P w=.ok u w->(execOp a.eval o).run P w=.ok (.value u) w:=λu h=>by
  unfold execOp;rw[ho];simp only[resolve,hc,ha',ht',invoke,builtin,AbE,Aaq,AbF,IT,TO,No,h]
 have ii:∀n:Nat,n<=9223372036854775807->Rd w S pl (.int .i64 (n:Int)) (.int .i64 (n:Int)):=λn hn=>Rp.rd (.int _ _ (by unfold inK xE;omega))
 have srun:∀e A n c,P.underlying T=some (.slice e)->a.eval x=.slice A n c->(Builtin.len_ #[T] o.type #[a.eval x]).run P w=.ok (.int .i64 (n:Int)) w:=λe A n c hu hv=>by
  simp[Builtin.len_,run_underlying hu,hv,goInt]
 have mrun:∀kT eT b ents clock {n:Nat},P.underlying T=some (.map kT eT)->a.eval x=.map (some b)->w.heap[b]? =some (.map ents clock)->ents.toList.length=n->(Builtin.len_ #[T] o.type #[a.eval x]).run P w=.ok (.int .i64 (n:Int)) w:=λkT eT b ents clock n hu hv hb hl=>by
  have hget:(getObj b).run P w=.ok (.map ents clock) w:=by simp[getObj,Sem.run,hb]
  subst hl;simp[Builtin.len_,run_underlying hu,hv,goInt,hget]
 unfold zqd at h
 split at h
 ·rename_i s e
  rw[e]at hx
  obtain⟨hx,hsz⟩:=(hx.flat (d:=.str s) rfl).str_inv;cases hm:sH T E.strs with
  |false=>rw[hm]at h;exact h.elim
  |true=>
   rw[hm,AI]at h
   refine yT (run (.int .i64 (s.size:Int)) ?_) (hn _ _ _ _ _ _ h m (ii _ (by omega)))
   simp[Builtin.len_,run_underlying (F.strs T hm),hx,goInt]
 ·rename_i e
  rw[e]at hx
  have hx:=(hx.flat (d:=.nil) rfl).nil_inv;split at h
  ·rename_i y hl
   obtain⟨te,t⟩:=y;exact yT (run _ (srun _ _ _ _ (F.sl T te t hl).und hx)) (hn _ _ _ _ _ _ h m (ii 0 (by omega)))
  ·exact h.elim
 ·rename_i kt vt es e
  rw[e]at hx
  obtain⟨b,hv,_,h0,ents,clock,hb,hes⟩:=(hx.flat (d:=.mp kt vt es) rfl).mp_inv;split at h
  ·rename_i y hl
   obtain⟨k0,v0⟩:=y;obtain⟨kT,eT,i,z,dz,hu,_⟩:=F.mps T _ _ hl;exact yT (run _ (mrun _ _ _ _ _ hu hv hb hes.len)) (hn _ _ _ _ _ _ h m (ii _ (by omega)))
  ·exact h.elim
 ·rename_i t xs e
  rw[e]at hx
  obtain⟨A',c',hv,hok⟩:=sM (hx.flat (d:=.sl t xs) rfl).sl_inv;split at h
  ·rename_i y hl
   obtain⟨te,t'⟩:=y;exact yT (run _ (srun _ _ _ _ (F.sl T te t' hl).und hv)) (hn _ _ _ _ _ _ h m (ii _ (Aan hok.cap hok.max)))
  ·exact h.elim
 ·rename_i k e
  rw[e]at hx
  have hx:a.eval x=pl k:=hx;split at h
  ·rename_i e' t xs hob
   split at h
   ·rename_i y hl
    obtain⟨te,t'⟩:=y;obtain⟨_,css,_,q2,_⟩:=m.hp k _ hob;rcases q2.2 with⟨ep,e0⟩|⟨g,cap,cur,ep,_,_,hcap,hmax,_⟩
    ·rw[e0]at h
     exact yT (run _ (srun _ _ _ _ (F.sl T te t' hl).und (hx.trans ep))) (hn _ _ _ _ _ _ h m (ii 0 (by omega)))
    ·exact yT (run _ (srun _ _ _ _ (F.sl T te t' hl).und (hx.trans ep))) (hn _ _ _ _ _ _ h m (ii _ (by unfold maxLen at hmax;omega)))
   ·exact h.elim
  ·rename_i kt vt es hob
   split at h
   ·rename_i y hl
    obtain⟨k0,v0⟩:=y;obtain⟨kT,eT,i,z,dz,hu,_⟩:=F.mps T _ _ hl;obtain⟨b,hv,h0,ents,clock,hb,hes⟩:=m.hp k _ hob;exact yT (run _ (mrun _ _ _ _ _ hu (hx.trans hv) hb hes.len)) (hn _ _ _ _ _ _ h m (ii _ (by omega)))
   ·exact h.elim
  ·exact h.elim
 ·exact h.elim
def Src(w:World)(S:Nat->Prop)(t:Ty)(u:Value)(ys:List t.den):Prop:=
 ∃A c,u=.slice A ys.length c/\∃ccs:List (List Value),ccs.length=ys.length/\(∀cs∈ccs,cs.length=t.size)/\(∀(i:Nat) (x:t.den) (cs:List Value),ys[i]? =some x->ccs[i]? =some cs->xU.rd w S cs x)/\
  (0<ys.length->∃b o,A=some ⟨b,o,none⟩/\∀j u,ccs.flatten[j]? =some u->w.cell? ⟨b,o+j,none⟩=some u)
theorem zkj(t:Ty):Src w S t (.slice none 0 0) ([]:List t.den):=⟨none,0,rfl,[],rfl,by simp,by simp,by simp⟩
theorem zsD{t:Ty}{u:Value}{ys:List t.den}(hy:fE w S u ys):Src w S t u ys:=by
 obtain⟨ucs,rfl,A,c,rfl,k0,k1,k2,k3,k4⟩:=hy;refine⟨A,c,rfl,?_⟩
 by_cases hn:0<ys.length
 ·obtain⟨b,o',hA,hb',hc⟩:=k4 hn
  have hc':∀i:Fin ys.length,∃cs,xU.rd w S cs ys[i]/\∀j u,cs[j]? =some u->w.cell? ⟨b,o'+i*xU.size t.den+j,none⟩=some u:=λi=>hc i _ (Aal i.2)
  let f:Fin ys.length->List Value:=λi=>(hc' i).choose
  have hf:∀i,xU.rd w S (f i) ys[i]/\∀j u,(f i)[j]? =some u->w.cell? ⟨b,o'+i*xU.size t.den+j,none⟩=some u:=λi=>(hc' i).choose_spec
  have hl:∀cs∈List.ofFn f,cs.length=t.size:=λcs hcs=>by
   obtain⟨i,rfl⟩:=List.mem_ofFn.1 hcs;rw[Ty.size_eq];exact xU.len (hf i).1
  refine⟨List.ofFn f,by simp,hl,λi x cs hx hcs=> ?_,λ_=>⟨b,o',hA,λj u hu=> ?_⟩⟩
  ·have hi:i<ys.length:=(AaB.1 hx).1
   rw[Aal hi]at hx
   have:cs=f ⟨i,hi⟩:=by simpa[Ab1,hi]using hcs.symm
   subst this;injection hx with hx
   rw[<-hx];exact(hf ⟨i,hi⟩).1
  ·have hpos:0<t.size:=by rw[Ty.size_eq];exact xU.pos
   rw[Qx hpos _ hl]at hu
   have hdm:j/t.size*t.size+j%t.size=j:=by rw[Nat.mul_comm];exact Nat.div_add_mod _ _
   cases hq:(List.ofFn f)[j/t.size]? with
   |none=>rw[hq]at hu;cases hu
   |some cs=>
    rw[hq]at hu
    simp only[Abk]at hu
    have hi:j/t.size<ys.length:=by have:=(AaB.1 hq).1;simpa using this
    have:cs=f ⟨j/t.size,hi⟩:=by simpa[Ab1,hi]using hq.symm
    subst this;have:=(hf ⟨j/t.size,hi⟩).2 _ u hu;rw[<-Ty.size_eq,Nat.add_assoc]at this
    simp only[hdm]at this
    exact this
 ·have:ys=[]:=Abq (by omega)
  subst this;exact⟨[],rfl,by simp,by simp,λh=>At h (by simp)⟩
theorem zqu{e:AcN}{t:Ty}{p:Value}{ys:List t.den}(h:jF w S pl p (.row e t ys)):Src w S t p ys:=by
 obtain⟨q0,css,q1,q2,q3,q4⟩:=h;rcases q2.2 with⟨ep,e0⟩|⟨g,cap,cur,ep,_,hg,hcap,hmax,hcur,htake⟩
 ·have:ys=[]:=Abq e0
  subst this;rw[ep];exact zkj t
 ·refine⟨some ⟨g,0,none⟩,cap,ep,css,q1,q3,q4,λ_=>⟨g,0,rfl,λj u hu=> ?_⟩⟩
  have:=q2.cells (g:=g) (by rw[ep];rfl) j u hu
  rw[<-this];unfold Addr.add;split
  ·rename_i e;simp[e]
  ·simp
theorem MK(F:vE P E){T e:AcN}{t' t:Ty}(hl:zW T E.sl=some (e,t'))(ht:t'.size=t.size)(hby:t'.bytes=t.bytes){p u:Value}{xs ys:List t.den}(hx:jF w S pl p (.row e t xs))(hy:Src w S t u ys)(hb:yX t (xs.length+ys.length)=true)
  (hSb:∀b,sR p=some b->¬S b) (hlt:∀b,S b->b<w.heap.size) (ty:AcN):
  ∃p' w',(Builtin.append_ #[T,T] ty #[p,u]).run P w=.ok p' w'/\w.grownBy w' (sR p)/\(∀b,sR p'=some b->sR p=some b\/(w.heap.size<=b/\b<w'.heap.size))/\jF w' S pl' p' (.row e t (xs++ys)):=by
 obtain⟨hu,i,z,hi,hz,hsz,hbt,hzb⟩:=F.sl T e t' hl;have hzs:z.cells.size=t.size:=by have:=(MD (w:=w) (S:=S) hzb).len;rw[gI,ht]at this;simpa using this
 obtain⟨A,c,rfl,ccs,y1,y2,y3,y4⟩:=hy;obtain⟨q0,css,q1,q2,q3,q4⟩:=hx;have hroom:(xs.length+ys.length)*t.bytes<=140737488355328:=BY hb;have hbp:0<t.bytes:=t.bytes_pos;have hle:xs.length+ys.length<=(xs.length+ys.length)*t.bytes:=Nat.le_mul_of_pos_right _ hbp;have hpos:0<t.size:=by rw[Ty.size_eq];exact xU.pos
 have hob:sR p=p.ownBlock:=by
  rcases q2.2 with⟨ep,_⟩|⟨g,cap,cur,ep,_⟩<;>rw[ep]<;>rfl
 have hone:∀u∈ccs.flatten,u.oneCell'=true:=λu hu=>by
  obtain⟨cs,hcs,hu⟩:=List.mem_flatten.1 hu;obtain⟨j,hj,rfl⟩:=Aas hcs;exact xU.one (y3 j (ys[j]'(by omega)) _ (Aal (by omega)) (Aal hj)) u hu
 have main:∃p' w',(Builtin.append_ #[T,T] ty #[p,.slice A ys.length c]).run P w=.ok p' w'/\w'.ownsRow 0 e t.size p' (xs.length+ys.length) (css.flatten++ccs.flatten)/\w.grownBy w' p.ownBlock/\(p'.ownBlock=p.ownBlock\/p'.ownBlock=some w.heap.size):=by
  by_cases hn:0<ys.length
  ·obtain⟨b,o',hA,hc⟩:=y4 hn
   subst hA
   obtain⟨v',w',r1,r2,r3,_,r4⟩:=run_append_own_at (P:=P) w 0 T ty e i z t.size t.bytes hu hi hz (hsz.trans ht) (hbt.trans hby) hzs hpos p xs.length css.flatten q2 ⟨b,o',none⟩ ys.length c ccs.flatten (by rw[WI _ y2,y1])
    (λj u hu=>by
     have:=hc j u hu;unfold Addr.add;split
     ·rename_i e;subst e;simpa using this
     ·exact this)
    hone (by unfold maxLen;omega) hroom (Is _)
   exact⟨v',w',r1,r2,r3,r4⟩
  ·have e0:ys=[]:=Abq (by omega)
   subst e0;have e1:ccs=[]:=Abq (by simpa using y1)
   subst e1;rcases A with _|ad
   ·refine⟨p,w,?_,by simpa using q2,World.grownBy.refl w _,.inl rfl⟩
    rcases q2.2 with⟨rfl,e0⟩|⟨g,cap,cur,rfl,_,_,hnc,_⟩
    ·simp[Builtin.append_,run_underlying hu,sizeOf,typeInfo,hi,Builtin.lenOf,Builtin.firstCells]
    ·simp[Builtin.append_,run_underlying hu,sizeOf,typeInfo,hi,Builtin.lenOf,Builtin.firstCells,hnc,storeCells]
   ·obtain⟨v',w',r1,r2,r3,_,r4⟩:=run_append_own_at (P:=P) w 0 T ty e i z t.size t.bytes hu hi hz (hsz.trans ht) (hbt.trans hby) hzs hpos p xs.length css.flatten q2 ad 0 c [] (by simp) (by simp) (by simp) (by unfold maxLen;simp at hle hroom;omega) (by simpa using hroom) (Is _)
    exact⟨v',w',r1,by simpa using r2,r3,r4⟩
 obtain⟨p',w',r1,r2,r3,r4⟩:=main;have hkeep:∀b,S b->w'.heap[b]? =w.heap[b]? :=λb hb=>r3.block b (hlt b hb) λe=>hSb b (by rw[hob];exact e.symm) hb
 refine⟨p',w',r1,by rw[hob];exact r3,λb hb=> ?_,by rw[It];exact hroom,css++ccs,by simp[q1,y1],by simpa using r2,λcs hcs=> ?_,λj x cs hx hcs=> ?_⟩
 ·have hpb:p'.ownBlock=some b:=by
   rcases r2.2 with⟨ep,_⟩|⟨g,cap,cur,ep,_⟩
   ·rw[ep]at hb;cases hb
   ·rw[ep]at hb⊢;exact hb
  rcases r4 with r4|r4
  ·left;rw[hob,<-r4];exact hpb
  ·right
   rw[hpb]at r4;injection r4 with r4
   have:=r2.lt b hpb;omega
 ·rcases Aai.1 hcs with h|h
  ·exact q3 cs h
  ·exact y2 cs h
 ·have key:xU.rd w S cs x:=by
   by_cases hj:j<xs.length
   ·rw[AaQ hj]at hx
    rw[AaQ (by omega)]at hcs
    exact q4 j x cs hx hcs
   ·rw[AaN (by omega)]at hx
    rw[AaN (by omega),q1]at hcs
    exact y3 _ x cs hx hcs
  exact xU.mono key hkeep λ_ h=>h
theorem znP: {t:Ty}->t.plain=true-> {S':Nat->Prop}-> {x:t.den}-> {cs:List Value}->xU.rd w S cs x->xU.rd w S' cs x
 | .int,_,_,_,_,h| .bool,_,_,_,_,h| .str,_,_,_,_,h| .tok,_,_,_,_,h| .lit,_,_,_,_,h| .var,_,_,_,_,h| .term,_,_,_,_,h| .byte,_,_,_,_,h=>h
theorem zkk{t1 t2:Ty}{u:Value}{ys:List t1.den}(e:t1.den=t2.den)(hz:t1.size=t2.size)(hr:∀(x:t1.den) (cs:List Value),xU.rd w S cs x-> @xU.rd _ (Ty.rep t2) w S cs (e▸x))(h:Src w S t1 u ys):Src w S t2 u (e▸ys):=by
 obtain⟨A,c,e1,ccs,h1,h2,h3,h4⟩:=h
 have hlen:(e▸ys:List t2.den).length=ys.length:=by
  clear h1 h2 h3 h4 hr e1 hz;revert ys;revert e;generalize t2.den=β;intro e;subst e;intro ys;rfl
 have hat:∀(i:Nat) (x:t2.den),(e▸ys:List t2.den)[i]? =some x->∃x0,ys[i]? =some x0/\x=e▸x0:=by
  clear h1 h2 h3 h4 hr e1 hz hlen;revert ys;revert e;generalize t2.den=β;intro e;subst e;intro ys i x hx;exact⟨x,hx,rfl⟩
 refine⟨A,c,by rw[hlen];exact e1,ccs,by rw[hlen];exact h1,by rw[<-hz];exact h2,λi x cs hx hc=> ?_,by rw[hlen];exact h4⟩
 obtain⟨x0,hx0,rfl⟩:=hat i x hx;exact hr x0 cs (h3 i x0 cs hx0 hc)
theorem zsE{k:Bool}{t0 t':Ty}{u:Value}{zs:List t'.den}{ys:List t0.den}(hs:(if h:t'=t0 then bif t0.plain then some (h▸(show List t'.den from zs))else none else none)=some ys)(h:Src w S t' u zs):Src w S (.mk k t0) u ys:=by
 by_cases e:t'=t0
 ·subst e
  rw[dif_pos rfl]at hs
  cases hp:t'.plain with
  |false=>rw[hp]at hs;cases hs
  |true=>
   rw[hp,AI]at hs
   injection hs with hs;subst hs
   exact zkk (t1:=t') (t2:=.mk k t') rfl rfl (λx cs r=>znP hp r) h
 ·rw[dif_neg e]at hs;cases hs
theorem znQ{k:Bool}{t t1:Ty}{u:Value}{zs:List t1.den}{ys:List t.den}(hs:(if h:t1=t then some (h▸(show List t1.den from zs))else none)=some ys)(h:Src w S (.mk k t1) u zs):Src w S t u ys:=by
 by_cases e:t1=t
 ·subst e
  rw[dif_pos rfl]at hs
  injection hs with hs;subst hs
  exact zkk (t1:=.mk k t1) (t2:=t1) rfl rfl (λx cs r=>(Ty.rep t1).mono r (λ_ _=>rfl) λ_ hb=>hb.1) h
 ·rw[dif_neg e]at hs;cases hs
theorem zeO{t t':Ty}{u:Value}{zs:List t'.den}{ys:List t.den}(hs:zqe t t' zs=some ys)(h:Src w S t' u zs):Src w S t u ys:=by
 unfold zqe at hs
 by_cases e:t'=t
 ·subst e;rw[dif_pos rfl]at hs;injection hs with hs;subst hs;exact h
 ·rw[dif_neg e]at hs
  cases t
  case mk k t0=>exact zsE hs h
  all_goals
   cases t'
   case mk k t1=>exact znQ hs h
   all_goals cases hs
theorem Ds(m:tF P b0 N σ a w S pl){k:Nat}{t:Ty}{ys:List t.den}(h:Rd w S pl v d)(hs:H4 σ k t d=some ys):Src w S t v ys:=by
 unfold H4 at hs
 split at hs
 ·injection hs with hs;subst hs
  rw[(h.flat (d:=.nil) rfl).nil_inv];exact zkj t
 ·rename_i t' zs
  exact zeO hs (zsD (h.flat (d:=.sl t' zs) rfl).sl_inv)
 ·rename_i j
  cases hb:Nat.beq j k with
  |true=>rw[hb]at hs;cases hs
  |false=>
   rw[hb,Aag]at hs
   split at hs
   ·rename_i e' t' zs hob
    have h:v=pl j:=h;rw[h];exact zeO hs (zqu (m.hp j _ hob))
   ·cases hs
 ·cases hs
theorem Dt(F:vE P E){T T' e:AcN}(hl:zW T E.sl=some (e,.byte))(hT':sH T' E.strs=true){p:Value}{xs:AcY}{s:AcL}(hx:jF w S pl p (.row e .byte xs))(hb:yX .byte (xs.length+s.size)=true)
  (hSb:∀b,sR p=some b->¬S b) (hlt:∀b,S b->b<w.heap.size) (ty:AcN):
  ∃p' w',(Builtin.append_ #[T,T'] ty #[p,.string s]).run P w=.ok p' w'/\w.grownBy w' (sR p)/\(∀b,sR p'=some b->sR p=some b\/(w.heap.size<=b/\b<w'.heap.size))/\jF w' S pl' p' (.row e .byte (xs++s.data.toList)):=by
 obtain⟨hu,i0,z0,hi0,_,hsz,hbt,_⟩:=F.sl T e .byte hl;obtain⟨i,hi,hz⟩:=F.byt T e hl;obtain rfl:i0=i:=by rw[hi0]at hi;injection hi
 have hsz:i0.size=1:=hsz;have hbt:i0.bytes=1:=hbt;have hstr:=F.strs T' hT';obtain⟨q0,css,q1,q2,q3,q4⟩:=hx;have hroom:(xs.length+s.size)*1<=140737488355328:=BY hb;have q2:w.ownsRow 0 e 1 p xs.length css.flatten:=q2
 have hob:sR p=p.ownBlock:=by
  rcases q2.2 with⟨ep,_⟩|⟨g,cap,cur,ep,_⟩<;>rw[ep]<;>rfl
 obtain⟨v',w',r1,r2,r3,r4⟩:=Lib.run_append_own_string (P:=P) (w:=w) 0 T T' ty e i0 hu hstr hi hz hsz hbt p _ _ q2 s (by unfold maxLen;omega) (by omega) (Is _)
 have hblk:v'.ownBlock=p.ownBlock\/v'.ownBlock=some w.heap.size:=by
  rcases q2.2 with⟨ep,e0⟩|⟨g,cap,cur,ep,hbg,hg,hnc,hcm,hcs,htake⟩
  ·by_cases hm:s.size=0
   ·left;rw[r4.2 ⟨ep,hm⟩,ep]
   ·have hr:=run_append_nil_string (P:=P) w T T' ty e i0 (.int .u8 0) hu hstr hi hz s (by omega) (by omega) (by rw[hbt];omega)
    rw[ep,hr]at r1;injection r1 with r1;right;rw[<-r1];rfl
  ·by_cases hrm:xs.length+s.size<=cap
   ·have hr:=Lib.run_append_room_string (P:=P) (w:=w) T T' ty e i0 hu hstr hi hsz g xs.length cap cur hg s hrm (by omega)
    rw[ep,hr]at r1;injection r1 with r1;left;rw[<-r1,ep];rfl
   ·have hr:=Lib.run_append_grow_string (P:=P) (w:=w) T T' ty e i0 (.int .u8 0) hu hstr hi hz ⟨g,0,none⟩ xs.length cap css.flatten (by rw[hsz];simpa using q2.1) (q2.cells (g:=g) (by rw[ep];rfl)) s (by omega) (by omega) (by rw[hbt];exact growslice_fits (by omega) (by omega))
    rw[ep,hr]at r1;injection r1 with r1;right;rw[<-r1];rfl
 have hkeep:∀b,S b->w'.heap[b]? =w.heap[b]? :=λb hb=>r3.block b (hlt b hb) λe=>hSb b (by rw[hob];exact e.symm) hb
 have hsl:s.data.toList.length=s.size:=by rw[Ack];rfl
 have hob':sR v'=v'.ownBlock:=by
  rcases r2.2 with⟨ep,_⟩|⟨g,cap,cur,ep,_⟩<;>rw[ep]<;>rfl
 refine⟨v',w',r1,by rw[hob];exact r3,λb hb=> ?_,by rw[It,hsl];exact hroom,css++s.data.toList.map (λc=>[Value.int .u8 (c.toNat:Int)]),by rw[It,It,Aae,q1],?_,λcs hcs=> ?_,λj x cs hx hcs=> ?_⟩
 ·rw[hob']at hb
  rcases hblk with h|h
  ·left;rw[hob,<-h];exact hb
  ·right
   rw[h]at hb;injection hb with hb
   have:=r2.lt b (by rw[h,hb])
   omega
 ·rw[It,hsl,List.flatten_append]
  have e2:(s.data.toList.map (λc=>[Value.int .u8 (c.toNat:Int)])).flatten=Lib.strCells s:=by
   rw[Lib.strCells];generalize s.data.toList=l
   induction l with
   |nil=>rfl
   |cons c l ih=>rw[Aaq,Aa5,ih];rfl
  rw[e2];exact r2
 ·rcases Aai.1 hcs with h|h
  ·exact q3 cs h
  ·obtain⟨c,_,rfl⟩:=OF.1 h;rfl
 ·have key:xU.rd w S cs x:=by
   by_cases hj:j<xs.length
   ·rw[AaQ hj]at hx
    rw[AaQ (by omega)]at hcs
    exact q4 j x cs hx hcs
   ·rw[AaN (by omega)]at hx
    rw[AaN (by omega),q1,Aaw,hx]at hcs
    injection hcs with hcs
    exact hcs.symm
  exact xU.mono key hkeep λ_ h=>h
theorem zlM(F:vE P E)(m:tF P b0 N σ a w S pl){c:Call}(ho:o.op=.call c)(hc:c.callee=.builtin .append){x y:Operand}{T T':AcN}(ha:c.args.toList=[x,y])(ht:c.argTypes.toList=[T,T'])(h:Eh E A o T T' (σ.ev x) y σ K)(hn:sV P b0 N o a K next):o.wp P a w next Q:=by
 have hx:=tB m x;have hy:=tB m y;have ha':c.args= #[x,y]:=by apply Array.ext';simpa using ha
 have ht':c.argTypes= #[T,T']:=by apply Array.ext';simpa using ht
 unfold Eh at h
 split at h
 ·rename_i e t' hl
  cases hT:Nat.beq T T' with
  |false=>
   rw[hT,Aag]at h
   unfold zsv at h
   split at h
   ·rename_i hstr
    split at h
    ·rename_i k s ex ey
     rw[ex]at hx
     rw[ey]at hy
     have hx:a.eval x=pl k:=hx;have hy:=(hy.flat (d:=.str s) rfl).str_inv.1;split at h
     ·rename_i e' xs hob
      cases he:Nat.beq e e'&& !stabK k with
      |false=>rw[he]at h;exact h.elim
      |true=>
       rw[he,AI]at h
       simp only[If]at he
       have hee:=xA.1 he.1;subst hee;obtain⟨hroom,h⟩:=h;obtain⟨p',w',r1,r2,r3,r4⟩:=Dt (P:=P) (pl':=λj=>pl j) F hl hstr (m.hp k _ hob) hroom (λb hb=>(m.priv k _ b hob hb).2.2) m.lt o.type
       have hrun:(execOp a.eval o).run P w=.ok (.value p') w':=by
        unfold execOp;rw[ho];simp only[resolve,hc,ha',ht',invoke,builtin,AbE,Aaq,AbF,IT,TO,No,hx,hy,r1]
       exact yT hrun (hn _ _ _ _ _ _ h (m.grow (by simpa using he.2) hob p' r2 r3 r4) (As rfl).symm)
     ·exact h.elim
    ·exact h.elim
   ·exact h.elim
  |true=>
   rw[hT,AI]at h
   have hT:=xA.1 hT;subst hT;split at h
   ·rename_i k ex
    rw[ex]at hx
    have hx:a.eval x=pl k:=hx;split at h
    ·rename_i e' t xs hob
     cases he:Nat.beq e e'&&Nat.beq t'.size t.size&&Nat.beq t'.bytes t.bytes&& !stabK k with
     |false=>rw[he]at h;exact h.elim
     |true=>
      rw[he,AI]at h
      simp only[If]at he
      have hee:=xA.1 he.1.1.1;subst hee;split at h
      ·rename_i ys hs
       obtain⟨hroom,h⟩:=h;obtain⟨p',w',r1,r2,r3,r4⟩:=MK (P:=P) (pl':=λj=>pl j) F hl (xA.1 he.1.1.2) (xA.1 he.1.2) (m.hp k _ hob) (Ds m hy hs) hroom (λb hb=>(m.priv k _ b hob hb).2.2) m.lt o.type
       have hrun:(execOp a.eval o).run P w=.ok (.value p') w':=by
        unfold execOp;rw[ho];simp only[resolve,hc,ha',ht',invoke,builtin,AbE,Aaq,AbF,IT,TO,No,hx,r1]
       exact yT hrun (hn _ _ _ _ _ _ h (m.grow (by simpa using he.2) hob p' r2 r3 r4) (As rfl).symm)
      ·exact h.elim
    ·exact h.elim
   ·rename_i k ex
    rw[ex]at hx
    have hx:a.eval x=pl k:=(show a.eval x=pl k/\a.eval x≠ .slice none 0 0 from hx).1
    split at h
    ·rename_i e' t xs hob
     cases he:Nat.beq e e'&&Nat.beq t'.size t.size&&Nat.beq t'.bytes t.bytes&& !stabK k with
     |false=>rw[he]at h;exact h.elim
     |true=>
      rw[he,AI]at h
      simp only[If]at he
      have hee:=xA.1 he.1.1.1;subst hee;split at h
      ·rename_i ys hs
       cases hys:Nat.blt 0 ys.length with
       |false=>rw[hys]at h;exact h.elim
       |true=>
        rw[hys,AI]at h
        have hys:0<ys.length:=by simpa using hys
        obtain⟨hroom,h⟩:=h;obtain⟨p',w',r1,r2,r3,r4⟩:=MK (P:=P) (pl':=λj=>pl j) F hl (xA.1 he.1.1.2) (xA.1 he.1.2) (m.hp k _ hob) (Ds m hy hs) hroom (λb hb=>(m.priv k _ b hob hb).2.2) m.lt o.type
        have hrun:(execOp a.eval o).run P w=.ok (.value p') w':=by
         unfold execOp;rw[ho];simp only[resolve,hc,ha',ht',invoke,builtin,AbE,Aaq,AbF,IT,TO,No,hx,r1]
        have hnn:p'≠ .slice none 0 0:=λe=>by
         obtain⟨_,_,_,q2,_⟩:=r4;rcases q2.2 with⟨_,e0⟩|⟨g,cap,cur,ep,_⟩
         ·rw[It]at e0;omega
         ·rw[e]at ep;cases ep
        exact yT hrun (hn _ _ _ _ _ _ h (m.grow (by simpa using he.2) hob p' r2 r3 r4) ⟨(As rfl).symm,hnn⟩)
      ·exact h.elim
    ·exact h.elim
   ·rename_i ex
    rw[ex]at hx
    have hxv:=(hx.flat (d:=.nil) rfl).nil_inv;split at h
    ·rename_i k hk
     split at h
     ·rename_i ys hs
      obtain⟨hroom,h⟩:=h;have m1:=m.mk' (w':=w) k (eQ hk) (.row e t' []) (.slice none 0 0) (Below.refl _ _) (λb hb=>by cases hb) λpl' _=>⟨by simp[lim],[],rfl,by simpa using World.ownsRow_nil w 0 e t'.size,by simp,by simp⟩
      have hob:zW k (σ.mk' k (.row e t' [])).hp=some (.row e t' []):=by simp only[St.mk',xM,As]
      obtain⟨p',w',r1,r2,r3,r4⟩:=MK (P:=P) (pl':=λj=>(λj=>if j=k then Value.slice none 0 0 else pl j) j) F hl rfl rfl (m1.hp k _ hob) (Ds m1 (tB m1 y) hs) (by simpa using hroom) (λb hb=>(m1.priv k _ b hob hb).2.2) m1.lt o.type
      rw[As rfl]at r1
      have hrun:(execOp a.eval o).run P w=.ok (.value p') w':=by
       unfold execOp;rw[ho];simp only[resolve,hc,ha',ht',invoke,builtin,AbE,Aaq,AbF,IT,TO,No,hxv,r1]
      exact yT hrun (hn _ _ _ _ _ _ h (m1.grow (eQ hk) hob p' r2 r3 r4) (As rfl).symm)
     ·exact h.elim
    ·exact h.elim
   ·exact h.elim
 ·exact h.elim
theorem Du(m:tF P b0 N σ a w S pl):∀(xs:List Operand),xK (Rd w S pl) (xs.map a.eval) (xs.map σ.ev)
 |[]=> .nil
 |x::xs=> .cons (tB m x) (Du m xs)
theorem zeP(m:tF P b0 N σ a w S pl){f:AcM}{first caps:Array Operand}(ho:o.op=.makeFunc (.func f) first caps)(hf:first.toList=[])(h:rA A.q σ (caps.toList.map σ.ev) λcs σ=>K (.clo f none cs) σ)(hn:sV P b0 N o a K next):o.wp P a w next Q:=by
 obtain⟨σ',ds',S',hK,hS,m',hv⟩:=pL h m;have hr:=hv _ (Du m caps.toList);have hf':first= #[]:=by apply Array.ext';simpa using hf
 have hrun:(execOp a.eval o).run P w=.ok (.value (.func (.func f) #[] (caps.map a.eval))) w:=by
  unfold execOp;rw[ho];simp only[Instr.makeFunc,hf',IT,TO,No,Array.map_empty]
 have hr':xK (Rp w S') (caps.map a.eval).toList ds':=by simpa using hr
 exact yT hrun (hn _ _ _ _ _ _ hK m' (Rp.rd (.clo f none ds' _ (by simpa using hr'.len) λi d hd=>H8 hr' i d hd)))
theorem Dv(m:tF P b0 N σ a w S pl){f:AcM}{first caps:Array Operand}{k off:Nat}{bd:Bool}(ho:o.op=.makeFunc (.func f) first caps)
  (hf:(first.toList.map σ.ev=[.ptr k off]/\caps.toList.map σ.ev=[]/\bd=true)\/(first.toList.map σ.ev=[]/\caps.toList.map σ.ev=[.ptr k off]/\bd=false)) (h:K (.clp f bd k off) σ) (hn:sV P b0 N o a K next):o.wp P a w next Q:=by
 have hrun:(execOp a.eval o).run P w=.ok (.value (.func (.func f) (first.map a.eval) (caps.map a.eval))) w:=by
  unfold execOp;rw[ho];simp only[Instr.makeFunc,IT,TO,No]
 have r1:=Du m first.toList
 have r2:=Du m caps.toList;refine yT hrun (hn _ _ _ _ _ _ h m ?_)
 have one:∀ {xs:Array Operand},xs.toList.map σ.ev=[.ptr k off]->∃b,pl k=.pointer (some ⟨b,0,none⟩)/\xs.map a.eval= #[.pointer (some ⟨b,off,none⟩)]:=fun {xs} hx=>by
  have hr:=Du m xs.toList;rw[hx]at hr
  generalize e:xs.toList.map a.eval=vs at hr
  obtain _|⟨⟨b,h1,h2⟩,_|_⟩:=hr
  exact⟨b,h1,by rw[<-h2];apply Array.ext';simpa using e⟩
 have non:∀ {xs:Array Operand},xs.toList.map σ.ev=[]->xs.map a.eval= #[]:=fun {xs} hx=>by
  have:xs.toList=[]:=List.map_eq_nil_iff.1 hx;apply Array.ext';simp[this]
 rcases hf with⟨h1,h2,rfl⟩|⟨h1,h2,rfl⟩
 ·obtain⟨b,p1,p2⟩:=one h1
  exact⟨b,p1,by rw[p2,non h2];rfl⟩
 ·obtain⟨b,p1,p2⟩:=one h2
  exact⟨b,p1,by rw[p2,non h1];rfl⟩
theorem zsF{t:Ty}(h:zB v (.sl t [])=true):zB v .nil=true:=by
 unfold zB at h
 split at h<;>first|rfl|(simp only[reduceCtorEq]at*)|simp_all
theorem zkl:∀ {vs:List Value} {cs:AcT} {off:Nat} {t:Ty},GX vs cs=true->cs[off]? =some (.sl t [])->GX vs (cs.set off .nil)=true
 |[],[],off,t,_,h=>by simp at h
 |v::vs,d::cs,0,t,hz,h=>by
  simp only[GX,If]at hz
  have h:d=.sl t []:=by simpa using h
  subst h;simp only[List.set_cons_zero,GX,If];exact⟨zsF hz.1,hz.2⟩
 |v::vs,d::cs,off+1,t,hz,h=>by
  simp only[GX,If]at hz
  simp only[List.set_cons_succ,GX,If];exact⟨hz.1,zkl hz.2 (by simpa using h)⟩
 |[],_::_,_,_,hz,_=>by simp[GX]at hz
 |_::_,[],_,_,hz,_=>by simp[GX]at hz
theorem Gc:∀(l:List (Nat×(Nat×(AcN×Ty)))) (cs:AcT),(YP l cs).length=cs.length
 |[],_=>rfl
 |(_,off,_,_)::r,cs=>by
  unfold YP;rw[Gc r];split
  ·rw[AaT]
  ·rfl
theorem zaT:∀(l:List (Nat×(Nat×(AcN×Ty)))) {cs:AcT},cE (YP l cs)=true->cE cs=true
 |[],cs,h=>h
 |(j,off,e,t)::r,cs,h=>by
  unfold YP at h
  have h:=zaT r h;split at h
  ·rcases My h with h|⟨_,h⟩
   ·exact h
   ·cases h
  ·exact h
theorem znR:∀(l:List (Nat×(Nat×(AcN×Ty)))) {vs:List Value} {cs:AcT},GX vs cs=true->GX vs (YP l cs)=true
 |[],vs,cs,h=>h
 |(_,off,_,_)::r,vs,cs,h=>by
  unfold YP;refine znR r ?_;split
  ·rename_i t ho;exact zkl h ho
  ·exact h
theorem zlN(F:vE P E)(m:tF P b0 N σ a w S pl){T:AcN}(ho:o.op=.alloc T)(h:Dl E A o T σ K)(hn:sV P b0 N o a K next):o.wp P a w next Q:=by
 unfold Dl at h
 split at h
 ·exact znA F m ho h hn
 unfold zgP at h
 split at h
 ·rename_i ag cs hl
  obtain⟨i,z,u,hi,hz,hsz,hu,hag,hzb⟩:=(F.zs T ag cs hl).ex
  have hrun:(execOp a.eval o).run P w=.ok (.value (.pointer (some ⟨w.heap.size,0,none⟩))) (w.alloc (.cells z.cells T)):=by
   unfold execOp;rw[ho];simp[Instr.alloc,zeroValue,typeInfo,hi,hz,newVar,newRow,newObj];rfl
  split at h
  ·rename_i k hk
   cases hb:Nat.blt k 1000000 with
   |false=>rw[hb]at h;exact h.elim
   |true=>
    rw[hb,AI]at h
    have hb:=Aau hb;have hzb:=znR (zcq k A.nz) hzb;have hrd:xK (Rp w S) z.cells.toList (YP (zcq k A.nz) cs):=MD hzb;have m1:=zcs m k (eQ hk) T hrd.rd (λe=>by rw[Gc];exact(F.zs T ag cs hl).ty (zaT _ e)) λd hd e=>by rw[zct hzb d hd]at e;cases e
    obtain⟨pl2,m2,hr⟩:=WN [.ptr k 0] (zcq k A.nz) _ _ m1;exact yT hrun (hn _ _ _ _ _ _ h m2 (hr _ _ (λj hj=>by injection hj with hj;omega) (zgS k _)))
  ·have hrd:xK (Rp w S) z.cells.toList cs:=MD hzb
   exact yT hrun (hn _ _ _ _ _ _ h (Ok m T hrd).1 (Ok m T hrd).2.rd)
 ·exact h.elim
theorem zkm:∀ {ds:AcT} {l:List Value} {vs:List Value},zch ds=some l->xK (Rp w S) vs ds->vs=l
 |[],l,vs,h,hr=>by injection h with h;subst h;cases hr;rfl
 |d::r,l,vs,h,hr=>by
  unfold zch at h
  split at h
  ·rename_i e;cases e
  ·rename_i k n r' e
   injection e with e1 e2;subst e1 e2
   split at h
   ·rename_i l' hl
    injection h with h;subst h
    obtain _|⟨h1,h2⟩:=hr
    rw[h1.int_inv.1,zkm hl h2]
   ·cases h
  ·cases h
theorem zqv{u:Value}(h:zaL d=some u)(hr:Rp w S v d):v=u:=by
 unfold zaL at h
 split at h
 ·split at h
  ·rename_i ds l hl
   injection h with h;subst h
   obtain⟨vs,rfl,hs,hq⟩:=hr.agg_inv;have:=zkm (vs:=vs.toList) hl (Om hs hq);rw[<-this]
  ·cases h
 ·cases h
theorem znS{u:Value}(h:zaL d=some u):d.ref=none:=by
 unfold zaL at h
 split at h
 ·rfl
 ·cases h
theorem zcF(F:vE P E)(m:tF P b0 N σ a w S pl){T:AcN}{x:Operand}{zs:AcT}{u:Value}(ho:o.op=.makeInterface T x)(hz:zW T E.zs=some (true,zs))(hs:zaL (σ.ev x)=some u)(h:K (.ifc (.iface T u)) σ)(hn:sV P b0 N o a K next):o.wp P a w next Q:=by
 obtain⟨i,z,ud,hi,hz',hsz,hu,hag,hzb⟩:=(F.zs T true zs hz).ex;have hx:=zqv hs ((tB m x).flat (znS hs))
 have hrun:(execOp a.eval o).run P w=.ok (.value (.iface T u)) w:=by
  unfold execOp;rw[ho];have hun:(underlying T).run P w=.ok ud w:=by simp[underlying,hu]
  simp only[Instr.makeInterface,IT,TO,No,hun,hx];cases ud<;>first|rfl|(simp[zny]at hag)
 exact yT hrun (hn _ _ _ _ _ _ h m (Rp.rd (.ifc _)))
theorem Oq(m:tF P b0 N σ a w S pl):∀(xs:List Operand) (ts:List AcN),xK (Rd w S pl) (xs.map a.eval) (gT E σ xs ts)
 |[],_=> .nil
 |x::xs,[]=> .cons (tB m x) (Oq m xs [])
 |x::xs,T::ts=> .cons (J5 T (tB m x)) (Oq m xs ts)
theorem zaU(m:tF P b0 N σ a w S pl):∀xs:List Operand,xK (Rd w S pl) (xs.map a.eval) (xs.map σ.ev)
 |[]=> .nil
 |x::xs=> .cons (tB m x) (zaU m xs)
theorem zcG(m:tF P b0 N σ a w S pl)(raw:Bool)(xs:List Operand)(ts:List AcN):xK (Rd w S pl) (xs.map a.eval) (zgN raw E σ xs ts):=by
 cases raw
 ·exact Oq m xs ts
 ·exact zaU m xs
def zsG(σ:St)(pl:Nat->Value)(b:Nat):Prop:=∃k o,zW k σ.hp=some o/\sR (pl k)=some b
theorem zqw(m:tF P b0 N σ a w S pl)(h:Rd w S pl v d):Rd w (λb=>S b\/zsG σ pl b) pl v (Qt σ d):=by
 unfold Qt;split
 ·rename_i k
  split
  ·rename_i e t xs hob
   have h:v=pl k:=h;rw[h];cases hod:t.isOd with
   |true=>exact tD
   |false=>
   exact Rp.rd (.sl t xs _ (fE.mono (Qq (m.hp k _ hob) (m.lo hob) hod) (λ_ _=>rfl) λb hb=>WJ (λb hb=>by
    rcases hb with hb|hb
    ·exact .inl hb
    ·exact .inr ⟨k,_,hob,hb⟩) (λ_ _=>rfl) hb))
  ·exact h
 ·exact h.mono (λ_ _=>rfl) (λ_ h=> .inl h) λ_ _=>rfl
theorem WD{t:Ty}{x:t.den}(ht:t.scalar=true)(h:Rp w S v (Yn t x)):Rp w S' v (Yn t x):=by
 cases t<;>simp only[Ty.scalar,AaR]at ht
 ·obtain⟨rfl,g⟩:=h.int_inv;exact .int _ _ g
 ·rw[h.bool_inv];exact .bool _
 ·obtain⟨rfl,g⟩:=h.str_inv;exact .str _ g
theorem zaV{f:AcM}{args:AcT}{r:D}(hs:oT P f args r)(hg:Ee P w λ_=>False)(hS:∀b,S b->b<w.heap.size){vs:Array Value}(hv:xK (Rp w S) vs.toList args)
  (hk:∀v w',Rp w' (λb=>S b\/(w.heap.size<=b/\b<w'.heap.size)) v r->Below w.heap.size w w'->next (a.put o.dst v) w'):
  Calls P f vs w fun
   | .returned v,w''=>next (a.put o.dst v) w''
   | .panicked chain,w''=>Q (.panic chain) a w''
   | .outgrown,_=>LetsOut Q:=
 (hs w S vs hS (by simpa using hv.len) (λi d hd=>H8 hv i d hd) hg).mono λe w' ⟨v,he,hr,hb⟩=>by subst he;exact hk v w' hr hb
theorem zkn{f:AcM}{args:AcT}{rs:Ac2}{K:D->Prop}(h:zgM P f args rs K):∃r,oT P f args r/\K r/\(rs.all Ty.scalar=true->∀w S S' v,Rp w S v r->Rp w S' v r):=by
 unfold zgM at h
 split at h
 ·exact⟨_,h.1,h.2,λ_ w S S' v hr=>by
   obtain⟨vs,rfl,hl,_⟩:=hr.tup_inv;exact .tup vs [] hl λi d hd=>by simp at hd⟩
 ·rename_i t
  obtain⟨x,h1,h2⟩:=h;exact⟨_,h1,h2,λhs w S S' v hr=>WD (by simpa using hs) hr⟩
 ·rename_i t u
  obtain⟨x,y,h1,h2⟩:=h;refine⟨_,h1,h2,λhs w S S' v hr=> ?_⟩
  simp only[Abr,List.all_nil,AbI,If]at hs
  obtain⟨vs,rfl,hl,hr⟩:=hr.tup_inv;refine .tup vs _ hl λi d hd=> ?_
  have:=hr i d hd
  match i,hd with
  |0,hd=>simp at hd;subst hd;exact WD hs.1 this
  |1,hd=>simp at hd;subst hd;exact WD hs.2 this
  |i+2,hd=>simp at hd
 ·rename_i t u s
  obtain⟨x,y,z,h1,h2⟩:=h;refine⟨_,h1,h2,λhs w S S' v hr=> ?_⟩
  simp only[Abr,List.all_nil,AbI,If]at hs
  obtain⟨vs,rfl,hl,hr⟩:=hr.tup_inv;refine .tup vs _ hl λi d hd=> ?_
  have:=hr i d hd
  match i,hd with
  |0,hd=>simp at hd;subst hd;exact WD hs.1 this
  |1,hd=>simp at hd;subst hd;exact WD hs.2.1 this
  |2,hd=>simp at hd;subst hd;exact WD hs.2.2 this
  |i+3,hd=>simp at hd
 ·exact h.elim
theorem tF.called(m:tF P b0 N σ a w S pl)(hb:Below w.heap.size w w'):tF P b0 N σ a w' (λb=>S b\/(w.heap.size<=b/\b<w'.heap.size)) pl:=
 (m.later hb).more (λ_ h=> .inl h)
  (λb h=>by
   rcases h with h|h
   ·exact Aaz (m.lt b h) hb.size
   ·exact h.2)
  (λb h=>by
   rcases h with h|h
   ·exact m.src b h
   ·exact .inr (.inr (Aan m.below.size h.1)))
  (λk o b h h' hs=>by
   have:=m.priv k o b h h';rcases hs with hs|hs
   ·exact this.2.2 hs
   ·omega)
theorem Dw{f:AcM}{rs0:Option Ac2}{X:Prop}:zsw P f rs0 X↔(rs0.isSome=true->Ent P f)/\X:=by
 cases rs0<;>simp[zsw]
theorem zqx(F:vE P E)(m:tF P b0 N σ a w S pl){c:Call}{f:Operand}(ho:o.op=.call c)(hc:c.callee=.value f)(h:zeI P E A o (σ.ev f) c.args.toList c.argTypes.toList σ K)(hn:sV P b0 N o a K next):o.wp P a w next Q:=by
 have hf:=tB m f;unfold zeI at h
 split at h
 ·rename_i g rs0 caps e
  rw[e]at hf
  obtain⟨cvs,hfv,hcl,hcr⟩:=(hf.flat (d:=.clo g rs0 caps) rfl).clo_inv;have hcaps:xK (Rp w S) cvs.toList caps:=Om hcl hcr
  have hrun':Ent P g->(execOp a.eval o).run P w=.ok (.enter g (c.args.map a.eval++cvs)) w:=λhent=>by
   unfold execOp;rw[ho];simp only[resolve,hc,hfv,Deferred.ofValue,invoke,IT,TO,No,Ab2];exact hent _ _
  split at h
  ·rename_i hs hl
   have hz:=zcG (E:=E) m hs.raw c.args.toList c.argTypes.toList;unfold Oper.wp;rw[hrun' (F.hsig g hs (by cases rs0 with|none=>exact hl|some _=>cases hl))]
   exact MJ m h (by simpa using hz) hcaps hn
  split at h
  ·rename_i rs hl
   obtain⟨hent0,h⟩:=Dw.1 h
   have hent:Ent P g:=by
    cases rs0 with
    |some r=>exact hent0 rfl
    |none=>exact F.sig g rs hl
   have hrun:(execOp a.eval o).run P w=.ok (.enter g (c.args.map a.eval++cvs)) w:=by
    unfold execOp;rw[ho];simp only[resolve,hc,hfv,Deferred.ofValue,invoke,IT,TO,No,Ab2];exact hent _ _
   have hz:=Oq (E:=E) m c.args.toList c.argTypes.toList
   have fin:∀ {P':Prop},(Calls P g (c.args.map a.eval++cvs) w fun
     | .returned v,w''=>next (a.put o.dst v) w''
     | .panicked chain,w''=>Q (.panic chain) a w''
     | .outgrown,_=>LetsOut Q)->o.wp P a w next Q:=λh=>by
    unfold Oper.wp;rw[hrun];exact h
   simp only at h
   cases hsc:rs.all Ty.scalar with
   |true=>
    rw[hsc,AI]at h
    cases hfl:((gT E σ c.args.toList c.argTypes.toList).map (Qt σ)).all dU with
    |false=>rw[hfl]at h;exact h.elim
    |true=>
     rw[hfl,AI]at h
     obtain⟨r,hs,hK,hsr⟩:=zkn h
     have hlt:∀b,(S b\/zsG σ pl b)->b<w.heap.size:=λb hb=>by
      rcases hb with hb|⟨k,o',hk,hb⟩
      ·exact m.lt b hb
      ·exact(m.priv k o' b hk hb).2.1
     have hv:xK (Rd w (λb=>S b\/zsG σ pl b) pl) (c.args.toList.map a.eval) ((gT E σ c.args.toList c.argTypes.toList).map (Qt σ)):=xK.map_right (hz.imp λ_ _ h=>zqw m h)
     have hv':=hv.flat λd hd=>oU.1 (Aav.1 hfl d hd)
     refine fin (P':=True) (zaV hs (m.gnow λ_ h=>h.elim) hlt (by simpa using hv'.append (hcaps.rmono (λ_ _=>rfl) λ_ h=> .inl h)) λv w' hr hb=> ?_)
     exact hn _ _ _ _ _ _ hK (m.later hb) (hsr hsc w' _ _ v hr).rd
   |false=>
    rw[hsc,Aag]at h
    obtain⟨σ',ds',S',hK,hS,m',hv⟩:=pL h m;obtain⟨r,hs,hK,_⟩:=zkn hK;have hv':=hv _ hz;refine fin (P':=True) (zaV hs (m'.gnow λ_ h=>h.elim) m'.lt (by simpa using hv'.append (hcaps.rmono (λ_ _=>rfl) hS)) λv w' hr hb=> ?_)
    exact hn _ _ _ _ _ _ hK (m'.called hb) hr.rd
  ·exact h.elim
 ·exact h.elim
theorem zko(F:vE P E)(m:tF P b0 N σ a w S pl)(h:Ei P E A o σ K)(hn:sV P b0 N o a K next):o.wp P a w next Q:=by
 have h0:=h;unfold Ei at h
 split at h
 ·rename_i x ho;exact znz F m (.inl ho) h hn
 ·rename_i x ho;exact znz F m (.inr ho) h hn
 ·rename_i c x y ho
  split at h
  ·rename_i t hc;exact zqj m ho hc h hn
  ·exact h.elim
 ·rename_i T ho;exact zlN F m ho h hn
 ·rename_i T x ho;exact zsy F m ho h hn
 ·rename_i T parts ho;exact znG F m ho h hn
 ·rename_i T len parts ho;exact Ax F m ho h hn
 ·rename_i T x ho;exact zqk F m ho h hn
 ·rename_i T x y ho;exact znD F m ho h hn
 ·rename_i x ho;exact zeJ m ho h0 hn
 ·rename_i op T x y T' ho;exact zqq F m ho h hn
 ·rename_i T ho;exact zgV F m ho h hn
 ·rename_i T x y z ho;exact zcB F m ho h hn
 ·rename_i T x y ok ho;exact zlI F m ho h hn
 ·rename_i op T x ho;exact ztP m ho h hn
 ·rename_i src dst x ho;exact zqn F m ho h hn
 ·rename_i f first caps ho
  split at h
  ·split at h
   ·rename_i hf;exact zeP m ho hf h hn
   ·exact h.elim
  ·split at h
   ·rename_i k off hf hc;exact Dv m ho (.inl ⟨hf,hc,rfl⟩) h hn
   ·rename_i k off hf hc;exact Dv m ho (.inr ⟨hf,hc,rfl⟩) h hn
   ·exact h.elim
 ·rename_i T x ho
  split at h
  ·rename_i zs u hz hs;exact zcF F m ho hz hs h hn
  ·exact h.elim
 ·rename_i T x lo hi ho;exact znO F m ho h hn
 ·rename_i T x f ho;exact znB F m ho h hn
 ·rename_i T x ix ho;exact zcv F m ho h hn
 ·rename_i T x ix ho;exact znC F m ho h hn
 ·rename_i x i ho;exact zgT m ho h hn
 ·rename_i T l c ho;exact zcx F m ho h hn
 ·rename_i c ho
  split at h
  ·rename_i hc
   split at h
   ·rename_i x T ha ht;exact zsC F m ho hc ha ht h hn
   ·exact h.elim
  ·rename_i hc
   split at h
   ·rename_i x y T T' ha ht;exact zlM F m ho hc ha ht h hn
   ·exact h.elim
  ·rename_i hc
   split at h
   ·rename_i x y ha;exact zqm m ho hc ha h hn
   ·exact h.elim
  ·rename_i f hc;exact zqx F m ho hc h hn
  ·exact h.elim
 ·exact h.elim
theorem znT(F:vE P E)(m:tF P b0 N σ a w S pl){T:Value->Prop}(h:opX P E A o σ K T)(hn:sV P b0 N o a K next)
  (hT:∀u w',T u->rE b0.w.heap.size b0.O b0.w w'->Q (.panic [{v:=u,recovered:=false}]) a w'):o.wp P a w next Q:=by
 unfold opX at h
 split at h
 ·rename_i X hX
  unfold zsc at hX
  have enter:∀ {g:AcM} {hs:zcg} {ds caps:AcT} {vs cvs:Array Value},zqh P E A g hs (zlF o.dst) ds caps σ K T->xK (Rd w S pl) vs.toList ds->xK (Rp w S) cvs.toList caps->(execOp a.eval o).run P w=.ok (.enter g (vs++cvs)) w->o.wp P a w next Q:=fun {g hs ds caps vs cvs} hd hv hcv hrun=>by
   unfold Oper.wp;rw[hrun];unfold zqh at hd
   split at hd
   ·rcases hd with hd|hd
    ·exact MJ m hd hv hcv hn
    ·exact zgW m hd hv hcv hT
   ·exact MJ m hd hv hcv hn
  split at hX
  ·rename_i x ho
   injection hX with hX;subst hX
   split at h
   ·rename_i t u hx
    have hv:=((tB m x).flat (by rw[hx];rfl))
    rw[hx]at hv
    have hrun:(execOp a.eval o).run P w=.halt (.panic (.iface t u)) w:=by
     unfold execOp;rw[ho];simp only[hv.ifc_inv];rfl
    unfold Oper.wp;rw[hrun];exact hT _ w h m.below
   ·exact h.elim
  ·rename_i c ho
   split at hX
   ·rename_i f hc
    have hf:=tB m f;split at hX
    ·rename_i g caps e
     rw[e]at hf
     obtain⟨cvs,hfv,hcl,hcr⟩:=(hf.flat (d:=.clo g none caps) rfl).clo_inv;have hcaps:xK (Rp w S) cvs.toList caps:=Om hcl hcr;split at hX
     ·injection hX with hX;subst hX
      split at h
      ·rename_i hs hl
       have hz:=zcG (E:=E) m hs.raw c.args.toList c.argTypes.toList;refine enter h (vs:=c.args.map a.eval) (by simpa using hz) hcaps ?_
       unfold execOp;rw[ho];simp only[resolve,hc,hfv,Deferred.ofValue,invoke,IT,TO,No,Ab2];exact F.hsig g hs hl _ _
      ·exact h.elim
     ·cases hX
    ·rename_i g bd k off e
     rw[e]at hf
     obtain⟨b,hp,hfv⟩:=hf;injection hX with hX;subst hX
     split at h
     ·rename_i hs hl
      have hz:=zcG (E:=E) m hs.raw c.args.toList c.argTypes.toList;have hpt:Rd w S pl (.pointer (some ⟨b,off,none⟩)) (.ptr k off):=⟨b,hp,rfl⟩;cases bd with
      |true=>
       refine enter h (vs:= #[.pointer (some ⟨b,off,none⟩)]++c.args.map a.eval) (cvs:= #[]) (by simpa using xK.cons hpt hz) .nil ?_
       unfold execOp;rw[ho];simp only[resolve,hc,hfv,Deferred.ofValue,invoke,IT,TO,No,AI,Array.append_empty];exact F.hsig g hs hl _ _
      |false=>
       refine enter h (vs:=c.args.map a.eval++ #[.pointer (some ⟨b,off,none⟩)]) (cvs:= #[]) (by simpa using xK.append hz (.cons hpt .nil)) .nil ?_
       unfold execOp;rw[ho];simp only[resolve,hc,hfv,Deferred.ofValue,invoke,IT,TO,No,Aag,Ab2,Array.append_empty];exact F.hsig g hs hl _ _
     ·exact h.elim
    ·cases hX
   ·cases hX
  ·cases hX
 ·exact zko F m h hn
end
end Go.Proofs.YtdnmkinmcdihnaaGreatDoor
namespace Go.Proofs.YtdnmkinmcdihnaaGreatDoor
open Go.RowKit
variable[Lo]
inductive Ex|normal|exit (id:Nat)|ret|thr (u:Value)
def zaW(all:List Oper)(j:Nat):Option Nat:=match all[j]? with
 |some o=>o.dst
 |none=>none
def bX(all:List Oper)(o:Oper)(σ:St)(yes no:St->Prop):Prop:=match o.guard with
 |none=>yes σ
 |some (j,want)=>match zaW all j with
  |some s=>match σ.get s with
   | .bool b=>zT b (match want with|true=>yes (σ.put s (.bool true))|false=>no (σ.put s (.bool true))) (match want with|true=>no (σ.put s (.bool false))|false=>yes (σ.put s (.bool false)))
   | .tup []=>no σ
   |_=>False
  |none=>False
def oo(all:List Oper)(o:Oper)(σ:St):Option Bool:=match o.guard with
 |none=>some true
 |some (j,want)=>match zaW all j with
  |some s=>match σ.get s with
   | .bool b=>some (b==want)
   | .tup []=>some false
   |_=>none
  |none=>none
def zqy(P:AcO)(E:TE)(A:xF)(all:List Oper):List Oper->St->(Ex->St->Prop)->Prop
 |[],σ,K=>K .normal σ
 |o::r,σ,K=>bX all o σ (λσ=>opX P E A o σ (λd σ=>zqy P E A all r (σ.putO o.dst d) K) λu=>K (.thr u) σ) λσ=>zqy P E A all r (σ.putO o.dst (.tup [])) K
def TE.q(E:TE):TE:= {E with hsig:=[],vals:=[],nilq:=false}
def zgX:Operand->Bool
 | .const (.slice none 0 0)=>true
 |_=>false
def oq(E:TE)(A:xF)(o:Oper):Bool:=match o.op with
 | .store _ _ _=>false
 | .mapUpdate _ _ _ _=>false
 | .move x=> !zgX x||(gS A o.dst).isNone
 | .assign x=> !zgX x||(gS A o.dst).isNone
 | .binOp _ _ _ y _=> !zgX y
 | .alloc _=>(gS A o.dst).isNone
 | .box _ _=>(gS A o.dst).isNone
 | .buildSlice _ _ _=>(gS A o.dst).isNone
 | .makeSlice _ _ _=>(gS A o.dst).isNone
 | .makeMap _ _=>(gS A o.dst).isNone
 | .build T _=> !sH T E.vals
 | .call c=>match c.callee with
  | .builtin .append=>false
  | .value (.func f)=>match zW f E.hsig with
   |some _=>false
   |none=>true
  |_=>true
 |_=>true
def xF.quiet(A:xF):xF:= {A with own:=[],q:=1,nz:=[]}
def zeQ(P:AcO)(E:TE)(A:xF)(all:List Oper)(o:Oper)(σ:St)(K:St->Prop):Prop:=
 bX all o σ (λσ=>Ei P E.q A.quiet o σ λd _=>K (σ.putO o.dst d)) λσ=>K (σ.putO o.dst (.tup []))
def ztR(P:AcO)(E:TE)(A:xF)(all:List Oper)(o:Oper)(σ:St)(K:St->Prop):Prop:=
 bX all o σ (λσ=>Ei P E.q A.quiet o σ λd _=>bif dU d then K (σ.putO o.dst d)else False) λσ=>K (σ.putO o.dst (.tup []))
def zqz(P:AcO)(E:TE)(A:xF)(all:List Oper)(o:Oper)(σ:St)(K:St->Prop):Prop:=
 bX all o σ (λσ=>Ei P E A o σ λd σ=>K (σ.putO o.dst d)) λσ=>K (σ.putO o.dst (.tup []))
def Ay(P:AcO)(E:TE)(A:xF)(all:List Oper)(o:Oper)(σ:St)(K:St->Prop):Prop:=match oq E A o with
 |true=>zeQ P E A all o σ K
 |false=>zqz P E A all o σ K
def edgeOn(o:Oper)(i:Nat):Bool:=o.after.toList.any λe=>Region.binds .any e&&Nat.beq e.on i
def WE(all:List Oper)(listed:Array Bool)(i:Nat)(oi:Oper)(f:Oper->Bool):Nat->List Oper->Bool
 |_,[]=>true
 |k,oj::r=>(Nat.beq k i||listed.getD k true||edgeOn oj i||(oi.apart all.toArray oj&&f oj))&&WE all listed i oi f (k+1) r
def ztS(all:List Oper)(o:Oper)(σ:St):Bool:=o.op.operands.toList.all λx=>dU (σ.ev x)
def zcH(E:TE)(A:xF)(all:List Oper)(listed:Array Bool)(i:Nat):Bool:=match all[i]? with
 |some oi=>oq E A oi&&WE all listed i oi (oq E A) 0 all
 |none=>false
def zcI(E:TE)(A:xF)(all:List Oper)(listed:Array Bool)(σ:St)(i:Nat):Bool:=match all[i]? with
 |some oi=>oq E A oi&&ztS all oi σ&&WE all listed i oi (λ_=>true) 0 all
 |none=>false
def Gd(f:Nat->Bool):AcZ->Option Nat
 |[]=>none
 |i::r=>bif f i then some i else Gd f r
def znU(f:Nat->Prop):AcZ->Prop
 |[]=>True
 |[i]=>f i
 |i::j::r=>f i/\znU f (j::r)
def Ap(all:List Oper)(i:Nat)(f:Oper->Prop):Prop:=match all[i]? with
 |some o=>f o
 |none=>False
def Dx(P:AcO)(E:TE)(A:xF)(all:List Oper)(K:St->Prop):Nat->Array Bool->St->Prop
 |0,listed,σ=>match Region.ready .any all.toArray listed with
  |[]=>K σ
  |_=>False
 |fuel+1,listed,σ=>match Region.ready .any all.toArray listed with
  |[]=>K σ
  |r=>match Gd (zcH E A all listed) r with
   |some i=>Ap all i λo=>zeQ P E A all o σ (Dx P E A all K fuel (listed.setIfInBounds i true))
   |none=>match Gd (zcI E A all listed σ) r with
    |some i=>Ap all i λo=>ztR P E A all o σ (Dx P E A all K fuel (listed.setIfInBounds i true))
    |none=>znU (λi=>Ap all i λo=>Ay P E A all o σ (Dx P E A all K fuel (listed.setIfInBounds i true))) r
def ztT:Op->Bool
 | .select _ _=>true
 |_=>false
def znV(all:List Oper)(listed:Array Bool)(σ:St)(i:Nat):Bool:=match all[i]? with
 |some oi=>(match oi.op with
  | .fieldAddr _ (.tmp t) _=>(match σ.get t with
   | .ptr _ _=>true
   |_=>false)
  | .move (.tmp t)=>(match σ.get t with
   | .ptr _ _=>true
   |_=>false)
  | .nilCheck (.tmp t)=>(match σ.get t with
   | .ptr _ _=>true
   |_=>false)
  |_=>false)&&oi.guard.isNone&&WE all listed i oi (λ_=>true) 0 all&&all.all (λo=> !ztT o.op)
 |none=>false
structure tC (σ σ':St):Prop where
 get:∀i,σ'.get i=σ.get i
 hp:∀k,zW k σ'.hp=zW k σ.hp
def zkp(K:St->Prop):St->Prop:=λσ=>∃τ,tC σ τ/\K τ
def zse:Code->List Oper
 | .region _ ops _=>ops.toList
 |_=>[]
def Ux(P:AcO)(E:TE)(A:xF)(all:List Oper)(K:St->Prop):Nat->Array Bool->St->Prop
 |0,listed,σ=>Region.ready .any all.toArray listed=[]/\K σ
 |fuel+1,listed,σ=>(Region.ready .any all.toArray listed=[]->K σ)/\∀i∈Region.ready .any all.toArray listed,Ap all i λo=>Ay P E A all o σ (Ux P E A all K fuel (listed.setIfInBounds i true))
def Dy(σ:St):AcZ->List (Nat×yE)
 |[]=>[]
 |k::r=>match σ.ob k with
  |some o=>(k,o)::Dy σ r
  |none=>Dy σ r
def St.keep(σ:St)(L:AcZ×AcZ):St:=⟨L.1.map λi=>(i,σ.get i),Dy σ L.2⟩
def zgY(P:AcO)(E:TE)(A:xF)(all:List Oper)(K:St->Prop)(T:Value->Prop):Nat->Array Bool->St->Prop
 |0,listed,σ=>Dx P E A all K 0 listed σ
 |fuel+1,listed,σ=>match A.first with
  |false=>Dx P E A all K (fuel+1) listed σ
  |true=>match Gd (znV all listed σ) (Region.ready .any all.toArray listed)with
   |some i=>Ap all i λo=>Ei P E A o σ λd σ=>zgY P E A all K T fuel (listed.setIfInBounds i true) (σ.putO o.dst d)
   |none=>match A.ae with
   |some L=>Ux P E A all (zkp K) (fuel+1) listed (σ.keep L)
   |none=>match A.tdraw with
    |false=>Dx P E A all K (fuel+1) listed σ
    |true=>match Region.ready .any all.toArray listed with
     |[]=>K σ
     |r=>znU (λi=>Ap all i λo=>bX all o σ (λσ=>opX P E A o σ (λd σ=>zgY P E A all K T fuel (listed.setIfInBounds i true) (σ.putO o.dst d)) T) λσ=>zgY P E A all K T fuel (listed.setIfInBounds i true) (σ.putO o.dst (.tup []))) r
def XW(n:Nat):List Oper->Bool
 |[]=>true
 |o::r=>(match o.dst with
  |some d=>Nat.ble (d+1) n
  |none=>true)&&XW n r
def Yq(A:xF)(c:Nat):AcZ×AcZ:=match zW c A.live with
 |some l=>l
 |none=>([],[])
def znW(σ:St)(L:AcZ×AcZ):AcT:=
 ((L.1.map λi=>σ.get i)++(L.2.flatMap λk=>match σ.ob k with
  |some (.cells ds)=>ds
  |some (.val ds)=>ds
  |_=>[])).filter λd=>match d.ref with
   |some k=> !sH k L.2
   |none=>false
def zcJ(σ:St)(k off:Nat):St:=bif Nat.beq off 999999 then(match σ.ob k with
 |some o=>bif o.flatB then σ.pub k o else σ
 |none=>σ)else Xo σ k off
def WO:List (Nat×Nat)->St->St
 |[],σ=>σ
 |(k,off)::r,σ=>WO r (zcJ σ k off)
def Dz:List (Nat×(Nat×(AcN×Ty)))->St->St
 |[],σ=>σ
 |(k,off,e,t)::r,σ=>Dz r (Qv σ k off e t)
def headD(A:xF)(L:AcZ×AcZ)(σ:St)(K:St->Prop):Prop:=
 let σ:=Dz A.nils (WO A.pubs σ)
 rA 12 σ (znW σ L) λ_ σ=>K (σ.keep L)
def St.know(σ:St)(x:Operand)(b:Bool):St:=match x with
 | .tmp s=>σ.put s (.bool b)
 |_=>σ
def DA(body:St->(Ex->St->Prop)->Prop)(A:xF)(L:AcZ×AcZ):Nat->St->(Ex->St->Prop)->Prop
 |0,_,_=>False
 |n+1,σ,K=>body σ λe σ=>match e with
  | .normal=>headD A L σ λσ=>DA body A L n σ K
  | .exit id=>K (.exit id) σ
  | .ret=>K .ret σ
  | .thr u=>K (.thr u) σ
def den(P:AcO)(E:TE)(A:xF):Code->Nat->St->(Ex->St->Prop)->Prop
 | .skip,_,σ,K=>K .normal σ
 | .region _ ops draw,_,σ,K=>match XW A.n ops.toList with
  |true=>(match draw with
   |false=>zqy P E A ops.toList ops.toList σ K
   |true=>zgY P E A ops.toList (K .normal) (λu=>K (.thr u) σ) ops.size (Array.replicate ops.size false) σ)
  |false=>False
 | .seq a b,c,σ,K=>den P E A a c σ λe σ=>match e with
  | .normal=>den P E A b c σ K
  | .exit id=>K (.exit id) σ
  | .ret=>K .ret σ
  | .thr u=>K (.thr u) σ
 | .cond x a b,c,σ,K=>match σ.ev x with
  | .bool t=>zT t (den P E A a c (σ.know x true) K) (den P E A b c (σ.know x false) K)
  |_=>False
 | .block id body,_,σ,K=>den P E A body id σ λe σ=>match e with
  | .normal=>K .normal σ
  | .exit j=>bif Nat.beq j id then K .normal σ else K (.exit j) σ
  | .ret=>K .ret σ
  | .thr u=>K (.thr u) σ
 | .loop body,c,σ,K=>headD A (Yq A c) σ λσ=>∃n,DA (den P E A body c) A (Yq A c) n σ K
 | .exit id,_,σ,K=>K (.exit id) σ
 | .ret,_,σ,K=>K .ret σ
 |_,_,_,_=>False
def Ni:Exit->Option Ex
 | .normal=>some .normal
 | .exit id=>some (.exit id)
 | .ret=>some .ret
 |_=>none
section
variable {P:AcO}{E:TE}{A:xF}{b0:Yo}{w w':World}{S S':Nat->Prop}{pl pl':Nat->Value}{N:Nat}{σ σ':St}{a:Act}{v:Value}{d:D}{o:Oper}
def Mt(P:AcO)(b0:Yo)(N:Nat)(σ:St)(a:Act)(w:World):Prop:=∃S pl,tF P b0 N σ a w S pl
def ztU(b0:Yo)(K:Ex->St->Prop)(e:Exit)(a:Act)(w:World):Prop:=∃u σ,e=.panic [{v:=u,recovered:=false}]/\K (.thr u) σ/\a.defers=[]/\rE b0.w.heap.size b0.O b0.w w
def QN(P:AcO)(b0:Yo)(N:Nat)(K:Ex->St->Prop)(e:Exit)(a:Act)(w:World):Prop:=∃x σ,Ni e=some x/\K x σ/\Mt P b0 N σ a w
def QK(P:AcO)(b0:Yo)(N:Nat)(K:Ex->St->Prop)(e:Exit)(a:Act)(w:World):Prop:=QN P b0 N K e a w\/ztU b0 K e a w
theorem tC.refl(σ:St):tC σ σ:=⟨λ_=>rfl,λ_=>rfl⟩
theorem tC.symm(h:tC σ σ'):tC σ' σ:=⟨λi=>(h.get i).symm,λk=>(h.hp k).symm⟩
theorem tC.trans{σ'':St}(h:tC σ σ')(h':tC σ' σ''):tC σ σ'':=⟨λi=>(h'.get i).trans (h.get i),λk=>(h'.hp k).trans (h.hp k)⟩
theorem tC.ob(h:tC σ σ')(k:Nat):σ'.ob k=σ.ob k:=h.hp k
theorem tC.put(h:tC σ σ')(i:Nat)(d:D):tC (σ.put i d) (σ'.put i d):=⟨λj=>by rw[St.get_put,St.get_put,h.get],h.hp⟩
theorem tC.putO(h:tC σ σ')(i:Option Nat)(d:D):tC (σ.putO i d) (σ'.putO i d):=by
 cases i with
 |none=>exact h
 |some i=>exact h.put i d
theorem tC.ev(h:tC σ σ')(x:Operand):σ'.ev x=σ.ev x:=by
 cases x<;>first|exact h.get _|rfl
theorem tF.like(m:tF P b0 N σ a w S pl)(h:tC σ σ'):tF P b0 N σ' a w S pl:=
 ⟨m.dz,m.sz,λi=>by rw[h.get];exact m.fr i,λk o hk=>m.hp k o (by rw[<-h.hp];exact hk),m.lt,m.src,λk o b hk=>m.priv k o b (by rw[<-h.hp];exact hk),
  λk k' o o' b h1 h2=>m.inj k k' o o' b (by rw[<-h.hp];exact h1) (by rw[<-h.hp];exact h2),m.below,m.stay,m.gok⟩
theorem Mt.like(m:Mt P b0 N σ a w)(h:tC σ σ'):Mt P b0 N σ' a w:=let⟨S,pl,m⟩:=m;⟨S,pl,m.like h⟩
theorem QA{s:Nat}{d:D}(h:σ.get s=d):tC σ (σ.put s d):=⟨λi=>by
 rw[St.get_put];split
 ·rename_i e;subst e;exact h.symm
 ·rfl,λ_=>rfl⟩
theorem VW{ds:AcT}{K:AcT->St->Prop}:rA 1 σ ds K↔cP ds=none/\K ds σ:=by
 unfold rA pubs;cases cP ds with
 |none=>simp
 |some k=>
  simp only[pubs];cases σ.ob (VS σ 4 k)with
  |none=>simp
  |some o=>cases o.flatB<;>simp
def zqA(o:Oper)(σ σ':St):Prop:=(∀x∈o.op.operands,σ'.ev x=σ.ev x)/\∀x∈o.op.operands,∀k,(σ.ev x).ref=some k->σ'.ob k=σ.ob k
theorem zcK{d:D}(h:∀k,d.ref=some k->σ'.ob k=σ.ob k):aM σ' d=aM σ d:=by cases d<;>first|rfl|simp only[aM,h _ rfl]
theorem Ot{d:D}(h:∀k,d.ref=some k->σ'.ob k=σ.ob k):Zq σ' d=Zq σ d:=by cases d<;>first|rfl|simp only[Zq,h _ rfl]
theorem znX{d:D}(h:∀k,d.ref=some k->σ'.ob k=σ.ob k):Qt σ' d=Qt σ d:=by cases d<;>first|rfl|simp only[Qt,h _ rfl]
theorem znY{d:D}(h:∀k,d.ref=some k->σ'.ob k=σ.ob k):zaM σ' d=zaM σ d:=by cases d<;>first|rfl|simp only[zaM,h _ rfl]
theorem DB{T:AcN}{d:D}{k:Nat}(h:(Mz E T d).ref=some k):d.ref=some k:=by
 cases d<;>first|exact h|(unfold Mz at h;simp only at h;split at h<;>cases h)
theorem zaX{n:Int}{x:Option Operand}(h:∀y,x=some y->σ'.ev y=σ.ev y):Yp σ' n x=Yp σ n x:=by
 cases x with
 |none=>rfl
 |some y=>simp only[Yp,h y rfl]
theorem QB{place:Nat->Option (Nat×Nat)}:∀(parts:List (Nat×Operand)) (ds:AcT),(∀x∈parts,σ'.ev x.2=σ.ev x.2)->(∀x∈parts,∀k,(σ.ev x.2).ref=some k->σ'.ob k=σ.ob k)->NZ σ' place ds parts=NZ σ place ds parts
 |[],ds,_,_=>rfl
 |(f,x)::r,ds,hx,ho=>by
  unfold NZ;have hr:∀ds,NZ σ' place ds r=NZ σ place ds r:=λds=>QB (place:=place) r ds (λy hy=>hx y (Aac _ hy)) λy hy=>ho y (Aac _ hy)
  have hv:Zq σ' (σ.ev x)=Zq σ (σ.ev x):=Ot (ho (f,x) Aaa)
  have hm:∀z:Option D,Oi σ' (σ.ev x) z=Oi σ (σ.ev x) z:=λz=>by
   unfold Oi;split
   ·rfl
   ·rfl
   ·exact hv
  rw[show σ'.ev x=σ.ev x from hx (f,x) Aaa]
  simp only[hr,hm]
theorem Ou:∀(xs:List Operand) (ts:List AcN),(∀x∈xs,σ'.ev x=σ.ev x)->gT E σ' xs ts=gT E σ xs ts
 |[],_,_=>rfl
 |x::xs,[],h=>by unfold gT;rw[h x Aaa,Ou xs [] λy hy=>h y (Aac _ hy)]
 |x::xs,T::ts,h=>by unfold gT;rw[h x Aaa,Ou xs ts λy hy=>h y (Aac _ hy)]
theorem zqB{raw:Bool}(xs:List Operand)(ts:List AcN)(h:∀x∈xs,σ'.ev x=σ.ev x):zgN raw E σ' xs ts=zgN raw E σ xs ts:=by
 cases raw
 ·exact Ou xs ts h
 ·exact Ab3 h
theorem ML:∀ {xs:List Operand} {ts:List AcN} {d:D} {k:Nat},d∈gT E σ xs ts->d.ref=some k->∃x∈xs,(σ.ev x).ref=some k
 |[],_,d,k,h,_=>by unfold gT at h;cases h
 |x::xs,[],d,k,h,hr=>by
  unfold gT at h
  rcases Aad.1 h with rfl|h
  ·exact⟨x,Aaa,hr⟩
  ·obtain⟨y,hy,e⟩:=ML h hr;exact⟨y,Aac _ hy,e⟩
 |x::xs,T::ts,d,k,h,hr=>by
  unfold gT at h
  rcases Aad.1 h with rfl|h
  ·exact⟨x,Aaa,DB hr⟩
  ·obtain⟨y,hy,e⟩:=ML h hr;exact⟨y,Aac _ hy,e⟩
theorem znZ{xs:List Operand}(h:∀x∈xs,σ'.ev x=σ.ev x):xs.map σ'.ev=xs.map σ.ev:=Ab3 h
theorem VX(A:xF)(d:Option Nat):gS A.quiet d=none:=by cases d<;>rfl
theorem nW(hq:oq E A o=true)(he:zqA o σ σ'){K:D->Prop}(h:Ei P E.q A.quiet o σ λd _=>K d):∃d,K d/\∀K':D->St->Prop,K' d σ'->Ei P E.q A.quiet o σ' K':=by
 obtain⟨h1,h2⟩:=he;unfold Ei at h⊢
 cases ho:o.op<;>rw[ho]at h h1 h2<;>simp only[Op.operands]at h h1 h2⊢
 case move x=>
  rw[h1 x (by simp)]
  unfold zeF at h⊢
  split at h
  ·split at h
   ·rw[VX]at h⊢;exact⟨_,h,λK' hk=>hk⟩
   ·exact⟨_,h,λK' hk=>hk⟩
  ·exact⟨_,h,λK' hk=>hk⟩
 case assign x=>
  rw[h1 x (by simp)]
  unfold zeF at h⊢
  split at h
  ·split at h
   ·rw[VX]at h⊢;exact⟨_,h,λK' hk=>hk⟩
   ·exact⟨_,h,λK' hk=>hk⟩
  ·exact⟨_,h,λK' hk=>hk⟩
 case pick c x y=>
  rw[h1 c (by simp),h1 x (by simp),h1 y (by simp)]
  generalize σ.ev c=dc at h⊢
  split at h
  ·rename_i t
   cases t
   ·exact⟨_,h,λK' hk=>hk⟩
   ·exact⟨_,h,λK' hk=>hk⟩
  ·exact h.elim
 case alloc T=>
  unfold Dl at h⊢
  rw[show A.quiet.nz=[]from rfl]at h⊢
  simp only at h⊢
  unfold Di at h⊢
  split at h
  ·rw[VX]at h⊢;exact⟨_,h,λK' hk=>hk⟩
  ·exact h.elim
 case box T x=>
  unfold zns at h⊢
  rw[h1 x (by simp),Ot λk hk=>h2 x (by simp) k (DB hk)]
  split at h
  ·rw[VX]at h⊢
   rw[show A.quiet.q=1 from rfl]at h⊢
   obtain⟨hf,h⟩:=VW.1 h;exact⟨_,h,λK' hk=>VW.2 ⟨hf,hk⟩⟩
  ·exact h.elim
 case build T parts=>
  unfold Dk at h⊢
  split at h
  ·rename_i zs offs _ _
   have hp:∀x∈parts.toList,x.2∈(parts.toList.map (·.2)).toArray:=λx hx=>by simp only[Acp,OF];exact⟨x,hx,rfl⟩
   rw[QB parts.toList zs (λx hx=>h1 x.2 (hp x hx)) λx hx=>h2 x.2 (hp x hx)]
   split at h
   ·rw[show A.quiet.q=1 from rfl]at h⊢
    obtain⟨hf,h⟩:=VW.1 h;exact⟨_,h,λK' hk=>VW.2 ⟨hf,hk⟩⟩
   ·exact h.elim
  ·exact h.elim
 case buildSlice T len parts=>
  unfold Xn at h⊢
  split at h
  ·rename_i e t _
   have hp:∀x∈parts.toList,x.2∈(parts.toList.map (·.2)).toArray:=λx hx=>by simp only[Acp,OF];exact⟨x,hx,rfl⟩
   rw[QB parts.toList _ (λx hx=>h1 x.2 (hp x hx)) λx hx=>h2 x.2 (hp x hx)]
   cases hb:yX t len&&Nat.ble (len*t.size) 16777216 with
   |false=>rw[hb]at h;exact h.elim
   |true=>
    rw[hb,AI]at h
    simp only[AI];split at h
    ·rw[show A.quiet.q=1 from rfl]at h⊢
     obtain⟨hf,h⟩:=VW.1 h;split at h
     ·rename_i xs hel
      rw[VX]at h
      refine⟨_,h,λK' hk=>VW.2 ⟨hf,?_⟩⟩
      rw[hel,VX];exact hk
     ·exact h.elim
    ·exact h.elim
  ·exact h.elim
 case load T x=>
  unfold zka at h⊢
  rw[h1 x (by simp),zcK (h2 x (by simp))]
  split at h
  ·rename_i ag zs _
   split at h
   ·rename_i cs _
    cases hb:Nat.ble zs.length cs.length with
    |false=>rw[hb]at h;exact h.elim
    |true=>
     rw[hb,AI]at h
     simp only[AI];cases ag with
     |true=>
      rw[show A.quiet.q=1 from rfl]at h⊢
      obtain⟨hf,h⟩:=VW.1 h;exact⟨_,h,λK' hk=>VW.2 ⟨hf,hk⟩⟩
     |false=>
      cases cs with
      |nil=>exact h.elim
      |cons d r=>exact⟨_,h,λK' hk=>hk⟩
   ·exact h.elim
  ·exact h.elim
 case store T x y=>simp only[oq,ho,AaR]at hq
 case nilCheck x=>
  rw[h1 x (by simp)]
  split at h
  ·exact⟨_,h,λK' hk=>hk⟩
  ·exact⟨_,h,λK' hk=>hk⟩
  ·exact⟨_,h,λK' hk=>hk⟩
  ·exact⟨_,h,λK' hk=>hk⟩
  ·exact h.elim
 case binOp op T x y T'=>
  rw[h1 x (by simp),h1 y (by simp)]
  have hE:∀(op:BinOp) (b:Bool) (K:D->Prop),eqK op b K->∃d,K d/\∀K':D->Prop,K' d->eqK op b K':=λop b K h=>by
   unfold eqK at h⊢
   split at h
   ·exact⟨_,h,λK' hk=>hk⟩
   ·exact⟨_,h,λK' hk=>hk⟩
   ·exact h.elim
  unfold zeG at h⊢
  split at h
  ·split at h
   ·split at h
    ·obtain⟨d,q1,q2⟩:=hE _ _ _ h
     exact⟨d,q1,λK' hk=>q2 (λd=>K' d σ') hk⟩
    ·exact h.elim
   ·exact h.elim
  ·exact h.elim
  ·exact h.elim
  ·exact h.elim
  ·split at h<;>exact h.elim
  ·unfold znt at h⊢
   split at h
   ·split at h<;>first|exact h.elim|exact⟨_,h,λK' hk=>hk⟩|exact⟨_,h.2,λK' hk=>⟨h.1,hk⟩⟩
   ·split at h<;>first|exact h.elim|exact⟨_,h,λK' hk=>hk⟩
   ·split at h<;>first|exact h.elim|exact⟨_,h,λK' hk=>hk⟩|exact⟨_,h.2,λK' hk=>⟨h.1,hk⟩⟩
   ·cases hb:sH T E.q.bools with
    |false=>rw[hb]at h;exact h.elim
    |true=>
     rw[hb,AI]at h
     simp only[AI];split at h<;>first|exact h.elim|exact⟨_,h,λK' hk=>hk⟩
   ·exact h.elim
 case makeMap T r=>
  cases r with
  |some _=>exact h.elim
  |none=>
   simp only at h⊢
   unfold Qs at h⊢
   split at h
   ·rw[VX]at h⊢;exact⟨_,h,λK' hk=>hk⟩
   ·exact h.elim
 case mapUpdate T m x y=>simp only[oq,ho,AaR]at hq
 case lookup T m x ok=>
  rw[h1 m (by simp),h1 x (by simp)]
  unfold Eg at h⊢
  rw[znY (h2 m (by simp))]
  split at h
  ·rename_i kt0 vt0 kt vt es _ _
   cases hb:decide (kt=kt0)&&decide (vt=vt0)with
   |false=>rw[hb]at h;exact h.elim
   |true=>
    rw[hb,AI]at h
    simp only[AI];split at h
    ·cases ok
     ·exact⟨_,h,λK' hk=>hk⟩
     ·exact⟨_,h,λK' hk=>hk⟩
    ·exact h.elim
  ·exact h.elim
 case unOp op T x=>
  rw[h1 x (by simp)]
  unfold unD at h⊢
  split at h<;>first|exact h.elim|exact⟨_,h,λK' hk=>hk⟩
 case convert src dst x=>
  rw[h1 x (by simp)]
  unfold zkc at h⊢
  split at h
  ·split at h<;>first|exact h.elim|exact⟨_,h,λK' hk=>hk⟩
  ·split at h
   ·split at h<;>first|exact h.elim|exact⟨_,h,λK' hk=>hk⟩
   ·exact h.elim
 case makeFunc fn first caps=>
  cases fn<;>simp only at h⊢
  case func f=>
   rw[znZ (xs:=caps.toList) λx hx=>h1 x (by simp;exact .inr (by simpa using hx)),znZ (xs:=first.toList) λx hx=>h1 x (by simp;exact .inl (by simpa using hx))]
   cases hcl:A.quiet.clp with
   |true=>
    rw[hcl]at h
    simp only at h⊢
    split at h<;>first|exact⟨_,h,λK' hk=>hk⟩|exact h.elim
   |false=>
   rw[hcl]at h
   simp only at h⊢
   split at h
   ·rw[show A.quiet.q=1 from rfl]at h⊢
    obtain⟨hf,h⟩:=VW.1 h;exact⟨_,h,λK' hk=>VW.2 ⟨hf,hk⟩⟩
   ·exact h.elim
  all_goals exact h.elim
 case makeInterface T x=>
  rw[h1 x (by simp)]
  split at h
  ·exact⟨_,h,λK' hk=>hk⟩
  ·exact h.elim
 case makeSlice T l c=>
  rw[h1 l (by simp),h1 c (by simp)]
  unfold WL at h⊢
  split at h
  ·split at h
   ·rw[VX]at h⊢
    exact⟨_,h.2.2.2,λK' hk=>⟨h.1,h.2.1,h.2.2.1,hk⟩⟩
   ·exact h.elim
  ·exact h.elim
 case slice T x lo hi mx=>
  cases mx with
  |some m=>exact h.elim
  |none=>
   simp only at h⊢
   have e1:∀n,Yp σ' n lo=Yp σ n lo:=λn=>zaX λy hy=>h1 y (by subst hy;simp)
   have e2:∀n,Yp σ' n hi=Yp σ n hi:=λn=>zaX λy hy=>h1 y (by subst hy;simp)
   rw[h1 x (by simp)]
   unfold zck at h⊢
   split at h
   ·simp only[e1,e2]
    rename_i s _;cases hb:sH T E.q.strs with
    |false=>rw[hb]at h;exact h.elim
    |true=>
     rw[hb,AI]at h
     simp only[AI];split at h
     ·exact⟨_,h.2,λK' hk=>⟨h.1,hk⟩⟩
     ·exact h.elim
   ·rw[show A.quiet.q=1 from rfl]at h⊢
    obtain⟨hf,h⟩:=VW.1 h;split at h
    ·rename_i t xs heq
     split at h
     ·rename_i e t' l hh q1 q2 q3
      cases hb:Nat.beq t'.size t.size with
      |false=>rw[hb]at h;exact h.elim
      |true=>
       rw[hb,AI]at h
       refine⟨_,h.2,λK' hk=>VW.2 ⟨hf,?_⟩⟩
       have e3:σ.ev x=.sl t xs:=by injection heq
       simp only[e1,e2,e3,q1,q2,q3,hb,AI];exact⟨h.1,hk⟩
     ·exact h.elim
    ·exact h.elim
 case fieldAddr T x f=>
  rw[h1 x (by simp)]
  unfold Dj at h⊢
  split at h
  ·split at h<;>first|exact h.elim|exact⟨_,h,λK' hk=>hk⟩
  ·exact h.elim
 case indexAddr T x ix=>
  rw[h1 x (by simp),h1 ix (by simp)]
  unfold T9 at h⊢
  split at h
  ·rename_i e t' _
   split at h
   ·split at h
    ·rename_i t xs _
     cases hb:Nat.beq t'.size t.size with
     |false=>rw[hb]at h;exact h.elim
     |true=>rw[hb,AI]at h;simp only[AI];exact⟨_,h.2,λK' hk=>⟨h.1,hk⟩⟩
    ·rename_i j hj
     rw[h2 x (by simp) j (by rw[hj];rfl)]
     split at h
     ·rename_i t xs _
      cases hb:Nat.beq t'.size t.size with
      |false=>rw[hb]at h;exact h.elim
      |true=>rw[hb,AI]at h;simp only[AI];exact⟨_,h.2,λK' hk=>⟨h.1,hk⟩⟩
     ·exact h.elim
    ·exact h.elim
   ·exact h.elim
  ·exact h.elim
 case index T x ix=>
  rw[h1 x (by simp),h1 ix (by simp)]
  unfold zcm at h⊢
  split at h
  ·cases hb:sH T E.q.strs with
   |false=>rw[hb]at h;exact h.elim
   |true=>rw[hb,AI]at h;simp only[AI];exact⟨_,h.2,λK' hk=>⟨h.1,hk⟩⟩
  ·exact h.elim
 case extract x i=>
  rw[h1 x (by simp)]
  unfold LL at h⊢
  split at h
  ·split at h
   ·exact⟨_,h,λK' hk=>hk⟩
   ·exact h.elim
  ·exact h.elim
 case call c=>
  have hargs:∀x∈c.args.toList,σ'.ev x=σ.ev x:=λx hx=>h1 x (by simp[Call.operands];exact .inr (by simpa using hx))
  have hobs:∀x∈c.args.toList,∀k,(σ.ev x).ref=some k->σ'.ob k=σ.ob k:=λx hx=>h2 x (by simp[Call.operands];exact .inr (by simpa using hx))
  split at h
  ·split at h
   ·rename_i hc x T ha ht
    rw[hargs x (by rw[ha];simp)]
    have hox:=hobs x (by rw[ha];simp)
    unfold zqd at h⊢
    split at h
    ·cases hb:sH T E.q.strs with
     |false=>rw[hb]at h;exact h.elim
     |true=>rw[hb,AI]at h;simp only[AI];exact⟨_,h,λK' hk=>hk⟩
    ·split at h
     ·exact⟨_,h,λK' hk=>hk⟩
     ·exact h.elim
    ·split at h
     ·exact⟨_,h,λK' hk=>hk⟩
     ·exact h.elim
    ·split at h
     ·exact⟨_,h,λK' hk=>hk⟩
     ·exact h.elim
    ·rename_i j hj
     rw[hox j (by rw[hj];rfl)]
     split at h
     ·split at h
      ·exact⟨_,h,λK' hk=>hk⟩
      ·exact h.elim
     ·split at h
      ·exact⟨_,h,λK' hk=>hk⟩
      ·exact h.elim
     ·exact h.elim
    ·exact h.elim
   ·exact h.elim
  ·rename_i hc;simp only[oq,ho,hc,AaR]at hq
  ·split at h
   ·rename_i x y ha
    rw[hargs x (by rw[ha];simp),hargs y (by rw[ha];simp)]
    unfold zqf at h⊢
    split at h
    ·exact⟨_,h,λK' hk=>hk⟩
    ·exact h.elim
   ·exact h.elim
  ·rename_i f hc
   rw[h1 f (by simp[Call.operands,hc])]
   unfold zeI at h⊢
   split at h
   ·rename_i g rs0 caps hcl
    have hh:zgQ E.q g rs0=none:=by cases rs0<;>rfl
    rw[hh]at h⊢
    simp only at h⊢
    split at h
    ·rename_i rs _
     obtain⟨hent,h⟩:=Dw.1 h;simp only[Dw]at h⊢
     rw[Ou _ _ hargs]
     have lin:∀(g:AcM) (ds:AcT) (K:D->Prop),zgM P g ds rs K->∃d,K d/\∀K':D->Prop,K' d->zgM P g ds rs K':=by
      intro g ds K h;unfold zgM at h⊢
      split at h
      ·exact⟨_,h.2,λK' hk=>⟨h.1,hk⟩⟩
      ·obtain⟨x,q1,q2⟩:=h;exact⟨_,q2,λK' hk=>⟨x,q1,hk⟩⟩
      ·obtain⟨x,y,q1,q2⟩:=h;exact⟨_,q2,λK' hk=>⟨x,y,q1,hk⟩⟩
      ·obtain⟨x,y,z,q1,q2⟩:=h;exact⟨_,q2,λK' hk=>⟨x,y,z,q1,hk⟩⟩
      ·exact h.elim
     cases hsc:rs.all Ty.scalar with
     |true=>
      rw[hsc,AI]at h
      simp only[AI]
      have ev:(gT E.q σ c.args.toList c.argTypes.toList).map (Qt σ')=(gT E.q σ c.args.toList c.argTypes.toList).map (Qt σ):=Ab3 λd hd=>znX λk hk=>by
       obtain⟨x,hx,e⟩:=ML hd hk;exact hobs x hx k e
      simp only[ev];cases hfl:((gT E.q σ c.args.toList c.argTypes.toList).map (Qt σ)).all dU with
      |false=>rw[hfl]at h;exact h.elim
      |true=>
       rw[hfl,AI]at h
       simp only[AI];obtain⟨d,q1,q2⟩:=lin _ _ _ h;exact⟨d,q1,λK' hk=>⟨hent,q2 (λr=>K' r σ') hk⟩⟩
     |false=>
      rw[hsc,Aag]at h
      simp only[Aag];rw[show A.quiet.q=1 from rfl]at h⊢
      obtain⟨hf,h⟩:=VW.1 h;obtain⟨d,q1,q2⟩:=lin _ _ _ h;exact⟨d,q1,λK' hk=>⟨hent,VW.2 ⟨hf,q2 (λr=>K' r σ') hk⟩⟩⟩
    ·exact h.elim
   ·exact h.elim
  ·exact h.elim
 all_goals exact h.elim
end
end Go.Proofs.YtdnmkinmcdihnaaGreatDoor
namespace Go.Proofs.YtdnmkinmcdihnaaGreatDoor
open Go.RowKit
variable[Lo]
section
variable {P:AcO}{E:TE}{A:xF}{σ σ1:St}{d:D}{o:Oper}
def St.px(σ:St):Option (Nat×D)->St
 |none=>σ
 |some (s,d)=>σ.put s d
def XOk(X:Option (Nat×D)):Prop:=∀s d,X=some (s,d)->d.ref=none
def Keep(σ τ:St):Prop:=∀t,(σ.get t).ref=none->τ.get t=σ.get t
theorem Keep.refl(σ:St):Keep σ σ:=λ_ _=>rfl
theorem Keep.trans{σ τ υ:St}(h:Keep σ τ)(h':Keep τ υ):Keep σ υ:=λt ht=>(h' t (by rw[h t ht];exact ht)).trans (h t ht)
variable {X:Option (Nat×D)}
theorem zkq(k:Nat):(σ.px X).ob k=σ.ob k:=by
 cases X with
 |none=>rfl
 |some x=>rfl
theorem J9{f:D->D}(hf:f .undef=.undef)(hX:XOk X)(hfd:∀d,d.ref=none->f d=d)(h:tC σ1 (σ.px X)):(∀i,((σ.map f).px X).get i=(σ1.map f).get i)/\∀k,zW k (σ.map f).hp=zW k (σ1.map f).hp:=by
 refine⟨λi=> ?_,λk=> ?_⟩
 ·have h1:=h.get i
  rw[St.get_map f hf,<-h1];cases X with
  |none=>exact St.get_map f hf σ i
  |some x=>
   obtain⟨s,d⟩:=x;simp only[St.px,St.get_put];split
   ·exact(hfd d (hX s d rfl)).symm
   ·exact St.get_map f hf σ i
 ·have h2:zW k σ.hp=zW k σ1.hp:=(zkq (X:=X) k).symm.trans (h.hp k)
  show zW k (σ.hp.map λx=>(x.1,x.2.map f))=zW k (σ1.hp.map λx=>(x.1,x.2.map f))
  rw[lG,lG,h2]
theorem zaY{k:Nat}{d:D}(h:d.ref=none):d.kill k=d:=D.kill_ne (by rw[h];simp)
theorem zkr{τ:St}{hp:List (Nat×yE)}:((⟨τ.fr,hp⟩:St).px X).fr=(τ.px X).fr:=by
 cases X<;>rfl
theorem Ek{a b:St}(hX:XOk X)(hg:∀i,(b.px X).get i=a.get i)(hh:∀k,zW k b.hp=zW k a.hp):tC a (b.px X):=⟨hg,λk=>(zkq (X:=X) k).trans (hh k)⟩
theorem zcL{a b:St}(h:a.fr=b.fr)(i:Nat):a.get i=b.get i:=by unfold St.get;rw[h]
theorem jQ(hX:XOk X)(h:tC σ1 (σ.px X))(k:Nat)(ob:yE):tC (σ1.mk' k ob) ((σ.mk' k ob).px X):=by
 obtain⟨h1,h2⟩:=J9 (f:=D.kill k) rfl hX (λd hd=>zaY hd) h
 refine Ek hX (λi=> ?_) λj=> ?_
 ·refine Eq.trans (zcL ?_ i) (h1 i)
  exact zkr (τ:=σ.map (D.kill k))
 ·simp only[St.mk',xM,pH,h2]
theorem WP(hX:XOk X)(h:tC σ1 (σ.px X))(k:Nat)(ob:yE):tC (σ1.setOb k ob) ((σ.setOb k ob).px X):=by
 refine Ek hX (λi=> ?_) λj=> ?_
 ·exact Eq.trans (zcL (zkr (τ:=σ)) i) (h.get i)
 ·have h2:zW j σ.hp=zW j σ1.hp:=(zkq (X:=X) j).symm.trans (h.hp j)
  simp only[St.setOb,xM,pH,h2]
theorem Ge{k:Nat}{ob:yE}{d:D}(h:d.ref=none):qD k ob d=d:=LJ (by rw[h];simp)
theorem zeR(hX:XOk X)(h:tC σ1 (σ.px X))(k:Nat)(ob:yE):tC (σ1.pub k ob) ((σ.pub k ob).px X):=by
 have hu:qD k ob .undef=.undef:=by cases ob<;>rfl
 obtain⟨h1,h2⟩:=J9 (f:=qD k ob) hu hX (λd hd=>Ge hd) h
 refine Ek hX (λi=> ?_) λj=> ?_
 ·exact Eq.trans (zcL (zkr (τ:=σ.map (qD k ob))) i) (h1 i)
 ·simp only[St.pub,pH,h2]
theorem DC{f:D->D}(hf:f .undef=.undef)(hfd:∀d,d.ref=none->f d=d)(hp:List (Nat×yE)):Keep σ ⟨(σ.map f).fr,hp⟩:=λt ht=>by
 have:(⟨(σ.map f).fr,hp⟩:St).get t=(σ.map f).get t:=rfl;rw[this,St.get_map f hf,hfd _ ht]
theorem jR(k:Nat)(ob:yE):Keep σ (σ.mk' k ob):=DC rfl (λd hd=>zaY hd) _
theorem WQ(k:Nat)(ob:yE):Keep σ (σ.setOb k ob):=λ_ _=>rfl
theorem zeS(k:Nat)(ob:yE):Keep σ (σ.pub k ob):=DC (by cases ob<;>rfl) (λd hd=>Ge hd) _
theorem Zr(h:tC σ1 (σ.px X))(k:Nat):σ1.ob k=σ.ob k:=(h.hp k).symm.trans (zkq k)
theorem MM(h:∀k,σ1.ob k=σ.ob k):∀n k,VS σ1 n k=VS σ n k
 |0,k=>rfl
 |n+1,k=>by
  unfold VS;rw[h k];split
  ·split
   ·exact MM h n _
   ·rfl
  ·split
   ·exact MM h n _
   ·rfl
  ·rfl
theorem zaZ(hX:XOk X):∀(n:Nat) (σ1 σ:St) (ds:AcT) (τ1:St) (ds':AcT),tC σ1 (σ.px X)->pubs n σ1 ds=some (τ1,ds')->∃τ,pubs n σ ds=some (τ,ds')/\tC τ1 (τ.px X)/\Keep σ τ
 |0,_,_,_,_,_,_,h=>by cases h
 |n+1,σ1,σ,ds,τ1,ds',hl,h=>by
  unfold pubs at h⊢
  cases hf:cP ds with
  |none=>rw[hf]at h;injection h with h;injection h with h1 h2;subst h1 h2;exact⟨σ,rfl,hl,.refl _⟩
  |some k0=>
   rw[hf]at h
   simp only at h⊢
   rw[MM (Zr hl),Zr hl]at h
   split at h
   ·rename_i ob hob
    cases hfl:ob.flatB with
    |false=>rw[hfl]at h;cases h
    |true=>
     rw[hfl,AI]at h
     simp only[AI];obtain⟨τ,q1,q2,q3⟩:=zaZ hX n _ _ _ _ _ (zeR hX hl _ ob) h;exact⟨τ,q1,q2,(zeS _ ob).trans q3⟩
   ·cases h
theorem cQ(hX:XOk X){q:Nat}{ds:AcT}{K K':AcT->St->Prop}(hl:tC σ1 (σ.px X))(h:rA q σ1 ds K)(hK:∀ds' τ τ1,tC τ1 (τ.px X)->Keep σ τ->K ds' τ1->K' ds' τ):rA q σ ds K':=by
 unfold rA at h⊢
 cases hp:pubs q σ1 ds with
 |none=>rw[hp]at h;exact h.elim
 |some x=>
  obtain⟨τ1,ds'⟩:=x;rw[hp]at h
  obtain⟨τ,q1,q2,q3⟩:=zaZ hX q _ _ _ _ _ hl hp;rw[q1];exact hK _ _ _ q2 q3 h
theorem zeT(hX:XOk X)(hl:tC σ1 (σ.px X))(k off:Nat)(e:AcN)(t:Ty):tC (Qv σ1 k off e t) ((Qv σ k off e t).px X)/\Keep σ (Qv σ k off e t):=by
 unfold Qv;rw[Zr hl k];split
 ·split
  ·cases Nat.beq k (cF k off)
   ·exact⟨WP hX (jQ hX hl _ _) _ _,(jR _ _).trans (WQ _ _)⟩
   ·exact⟨hl,.refl _⟩
  ·exact⟨WP hX hl _ _,WQ _ _⟩
  ·exact⟨hl,.refl _⟩
 ·exact⟨hl,.refl _⟩
theorem DD{τ τ':St}(ob:∀k,τ.ob k=τ'.ob k):∀ds:AcT,fj τ ds=fj τ' ds
 |[]=>rfl
 |d::r=>by
  have ih:=DD ob r;unfold fj;split
  ·rfl
  ·rename_i k r' e
   injection e with e1 e2
   subst e2;rw[ob k,ih]
  ·rename_i x r' _ e
   injection e with e1 e2
   subst e2;exact ih
theorem X7(hX:XOk X)(ds:AcT):∀(l:List (Nat×(Nat×(AcN×Ty)))) (σ1 σ:St),tC σ1 (σ.px X)->tC (jN ds l σ1) ((jN ds l σ).px X)/\Keep σ (jN ds l σ)
 |[],σ1,σ,hl=>⟨hl,.refl _⟩
 |(i,off,e,t)::r,σ1,σ,hl=>by
  unfold jN;split
  ·obtain⟨h1,h2⟩:=zeT hX hl _ off e t
   obtain⟨h3,h4⟩:=X7 hX ds r _ _ h1;exact⟨h3,h2.trans h4⟩
  ·exact X7 hX ds r _ _ hl
theorem Az(hX:XOk X)(hl:tC σ1 (σ.px X))(k off:Nat):tC (Xo σ1 k off) ((Xo σ k off).px X)/\Keep σ (Xo σ k off):=by
 unfold Xo;rw[Zr hl k];split
 ·split
  ·rename_i j _
   rw[Zr hl j];split
   ·rename_i ob _
    cases ob.flatB
    ·exact⟨hl,.refl _⟩
    ·exact⟨zeR hX hl _ _,zeS _ _⟩
   ·exact⟨hl,.refl _⟩
  ·exact⟨hl,.refl _⟩
 ·exact⟨hl,.refl _⟩
theorem WR(hX:XOk X)(ds:AcT):∀(l:List (Nat×Nat)) (σ1 σ:St),tC σ1 (σ.px X)->tC (uP ds l σ1) ((uP ds l σ).px X)/\Keep σ (uP ds l σ)
 |[],σ1,σ,hl=>⟨hl,.refl _⟩
 |(i,off)::r,σ1,σ,hl=>by
  unfold uP;split
  ·obtain⟨h1,h2⟩:=Az hX hl _ off
   obtain⟨h3,h4⟩:=WR hX ds r _ _ h1;exact⟨h3,h2.trans h4⟩
  ·exact WR hX ds r _ _ hl
theorem LV{ks:AcZ}{d:D}(h:d.ref=none):jP ks d=d:=by unfold jP;rw[h]
theorem zeU{α:Type}(k:Nat):∀(l l':List (Nat×α)),zW k (l++l')=match zW k l with|some o=>some o|none=>zW k l'
 |[],l'=>rfl
 |(i,x)::r,l'=>by
  rw[AbT,xM,xM];split
  ·rfl
  ·exact zeU k r l'
theorem Sc{α:Type}(ks:AcZ)(k:Nat):∀(l:List (Nat×α)),zW k (VU ks l)=if sH k ks=true then none else zW k l
 |[]=>by simp[VU,zW]
 |(i,x)::r=>by
  unfold VU;cases hm:sH i ks with
  |true=>
   rw[AI,Sc ks k r,xM]
   by_cases e:i=k
   ·subst e;rw[As hm,As hm]
   ·rw[An e]
  |false=>
   rw[Aag,xM,xM,Sc ks k r]
   by_cases e:i=k
   ·subst e;rw[As rfl,As rfl,An (by rw[hm];simp)]
   ·rw[An e,An e]
theorem zg0(hX:XOk X)(hl:tC σ1 (σ.px X))(ρ:List (Nat×Nat))(dst:Nat)(h':List (Nat×yE)):tC (σ1.after ρ dst h') ((σ.after ρ dst h').px X)/\Keep σ (σ.after ρ dst h'):=by
 refine⟨?_,?_⟩
 ·unfold St.after
  simp only;generalize(((ρ.filter λx=> !stabK x.2|| !(sH x.2 (h'.map (·.1)))).map (·.1))++((h'.map λx=>(x.1,jO (JZ ρ) dst x.1)).filter λx=> !(sH x.1 (ρ.map (·.2)))).map (·.2))=dead
  obtain⟨h1,h2⟩:=J9 (f:=jP dead) rfl hX (λd hd=>LV hd) hl
  refine Ek hX (λi=> ?_) λj=> ?_
  ·exact Eq.trans (zcL (zkr (τ:=σ.map (jP dead))) i) (h1 i)
  ·simp only[zeU,Sc]
   have:=h2 j;simp only[St.map]at this
   rw[this]
 ·exact DC rfl (λd hd=>LV hd) _
theorem zeV:∀ {ts:Ac2} {K K':AcT->Prop},(∀xs,K xs->K' xs)->exH ts K->exH ts K'
 |[],K,K',hk,h=>hk _ h
 |t::ts,K,K',hk,h=>by
  obtain⟨x,h⟩:=h;exact⟨x,zeV (λxs=>hk _) h⟩
theorem zg1(hX:XOk X)(hl:tC σ1 (σ.px X)){f:AcM}{hs:zcg}{dst:Nat}{ds0 caps:AcT}{K K':D->St->Prop}(h:H5 P A f hs dst ds0 caps σ1 K)(hK:∀d τ τ1,tC τ1 (τ.px X)->Keep σ τ->K d τ1->K' d τ):H5 P A f hs dst ds0 caps σ K':=by
 unfold H5 at h⊢
 cases hb:caps.all dU&&ds0.all MC with
 |false=>rw[hb]at h;exact h.elim
 |true=>
  rw[hb,AI]at h
  simp only[AI]at h⊢
  obtain⟨a1,a2⟩:=WR hX ds0 hs.datas _ _ hl;rw[DD (Zr a1) ds0]at h
  obtain⟨b1,b2⟩:=X7 hX (ds0++fj (uP ds0 hs.datas σ) ds0) hs.nils _ _ a1;generalize jN (ds0++fj (uP ds0 hs.datas σ) ds0) hs.nils (uP ds0 hs.datas σ1)=υ1 at h b1
  generalize jN (ds0++fj (uP ds0 hs.datas σ) ds0) hs.nils (uP ds0 hs.datas σ)=υ at b1 b2⊢
  have ho:υ1.ob=υ.ob:=funext (Zr b1);rw[ho]at h
  refine zeV (λxs h=> ?_) h
  split
  ·rename_i r h' hr
   rw[hr]at h
   simp only at h
   have hch:∀a b:St,zeH a=zeH b:=λ_ _=>rfl
   rw[hch υ1 υ]at h
   cases hc:zeH υ (zcp υ.ob (Qu ds0) (reach υ.ob 400 [] ds0) 0 0) dst h' with
   |false=>rw[hc]at h;exact h.elim
   |true=>
    rw[hc,AI]at h
    rw[AI];obtain⟨c1,c2⟩:=zg0 hX b1 (zcp υ.ob (Qu ds0) (reach υ.ob 400 [] ds0) 0 0) dst h';exact⟨h.1,hK _ _ _ c1 ((a2.trans b2).trans c2) h.2⟩
  ·rename_i hr
   rw[hr]at h
   exact h
theorem zn0{op:BinOp}{b:Bool}{K K':D->Prop}(hk:∀d,K d->K' d)(h:eqK op b K):eqK op b K':=by
 unfold eqK at h⊢
 split at h
 ·exact hk _ h
 ·exact hk _ h
 ·exact h.elim
theorem DE(h:∀k,σ1.ob k=σ.ob k)(k:Nat)(t:Ty)(d:D):H4 σ1 k t d=H4 σ k t d:=by
 cases d<;>simp only[H4,h]
theorem zg2{τ τ':St}(ob:∀k,τ.ob k=τ'.ob k){x:D}:Ef τ x=Ef τ' x:=by
 unfold Ef;cases x with
 |ptr k off=>simp only[ob k]
 |_=>rfl
theorem zlO{b:Bool}{new:AcT}{K K':AcT->Prop}(hm:∀new,K new->K' new)(h:zlC b new K):zlC b new K':=by
 unfold zlC at h⊢
 split at h
 ·split at h
  ·exact⟨h.1,hm _ h.2⟩
  ·exact hm _ h
 ·exact hm _ h
theorem zlP(hX:XOk X)(hl:tC σ1 (σ.px X))(hx:∀s d,X=some (s,d)->Operand.tmp s∉o.op.operands)(hq:oq E A o=false){K K':D->St->Prop}(h:Ei P E A o σ1 K)
  (hK:∀d τ τ1,tC τ1 (τ.px X)->Keep σ τ->K d τ1->K' d τ):Ei P E A o σ K':=by
 have ev0:∀(a b:St),tC a (b.px X)->∀x∈o.op.operands,a.ev x=b.ev x:=λa b hab x hxo=>by
  cases x with
  |tmp t=>
   show a.get t=b.get t
   rw[<-hab.get];cases X with
   |none=>rfl
   |some y=>
    obtain⟨s,d⟩:=y;simp only[St.px,St.get_put];rw[An];intro e;subst e;exact hx _ _ rfl hxo
  |_=>rfl
 have ev:=ev0 σ1 σ hl;have ob:=Zr hl;unfold Ei at h⊢
 cases ho:o.op<;>rw[ho]at h ev ev0<;>simp only[Op.operands]at h ev ev0⊢
 case move x=>
  rw[ev x (by simp)]at h
  unfold zeF at h⊢
  split at h
  ·split at h
   ·split at h
    ·exact hK _ _ _ (jQ hX hl _ _) (jR _ _) h
    ·exact hK _ _ _ hl (.refl _) h
   ·exact hK _ _ _ hl (.refl _) h
  ·exact hK _ _ _ hl (.refl _) h
 case assign x=>
  rw[ev x (by simp)]at h
  unfold zeF at h⊢
  split at h
  ·split at h
   ·split at h
    ·exact hK _ _ _ (jQ hX hl _ _) (jR _ _) h
    ·exact hK _ _ _ hl (.refl _) h
   ·exact hK _ _ _ hl (.refl _) h
  ·exact hK _ _ _ hl (.refl _) h
 case alloc T=>
  unfold Dl at h⊢
  split at h
  case h_2 l hnil=>
   unfold zgP at h⊢
   split at h
   ·split at h
    ·rename_i k _
     cases hb:Nat.blt k 1000000 with
     |false=>rw[hb]at h;exact h.elim
     |true=>
      rw[hb,AI]at h
      simp only[AI];obtain⟨b1,b2⟩:=X7 hX [.ptr k 0] (zcq k A.nz) _ _ (jQ hX hl k (.cells (YP (zcq k A.nz) _)));exact hK _ _ _ b1 ((jR _ _).trans b2) h
    ·exact hK _ _ _ hl (.refl _) h
   ·exact h.elim
  unfold Di at h⊢
  split at h
  ·split at h
   ·exact hK _ _ _ (jQ hX hl _ _) (jR _ _) h
   ·exact hK _ _ _ hl (.refl _) h
  ·exact h.elim
 case box T x=>
  rw[ev x (by simp)]at h
  unfold zns at h⊢
  rw[Ot λk _=>ob k]at h
  split at h
  ·rename_i cs _
   split at h
   ·rename_i k _
    cases hb:zci k T cs with
    |true=>rw[hb]at h;exact h.elim
    |false=>
     rw[hb,Aag]at h
     exact hK _ _ _ (jQ hX hl _ _) (jR _ _) h
   ·exact cQ hX hl h λds' τ τ1 q1 q2 q3=>hK _ _ _ q1 q2 q3
  ·exact h.elim
 case build T parts=>
  unfold Dk at h⊢
  split at h
  ·rename_i zs pf _ _
   have hp:∀x∈parts.toList,x.2∈(parts.toList.map (·.2)).toArray:=λx hx=>by simp only[Acp,OF];exact⟨x,hx,rfl⟩
   rw[QB (σ':=σ1) (σ:=σ) parts.toList zs (λx hx=>ev x.2 (hp x hx)) λx hx k _=>ob k]at h
   split at h
   ·cases hb:sH T E.vals&&zcn o.dst with
    |true=>
     rw[hb,AI]at h
     exact hK _ _ _ (jQ hX hl _ _) (jR _ _) h
    |false=>
     rw[hb,Aag]at h
     exact cQ hX hl h λds' τ τ1 q1 q2 q3=>hK _ _ _ q1 q2 q3
   ·exact h.elim
  ·exact h.elim
 case buildSlice T len parts=>
  unfold Xn at h⊢
  split at h
  ·rename_i e t _
   cases hb:yX t len&&Nat.ble (len*t.size) 16777216 with
   |false=>rw[hb]at h;exact h.elim
   |true=>
    rw[hb,AI]at h
    rw[AI];have hp:∀x∈parts.toList,x.2∈(parts.toList.map (·.2)).toArray:=λx hx=>by simp only[Acp,OF];exact⟨x,hx,rfl⟩
    rw[QB (σ':=σ1) (σ:=σ) parts.toList _ (λx hx=>ev x.2 (hp x hx)) λx hx k _=>ob k]at h
    split at h
    ·refine cQ hX hl h λds' τ τ1 q1 q2 q3=> ?_
     split at q3
     ·split at q3
      ·exact hK _ _ _ (jQ hX q1 _ _) (q2.trans (jR _ _)) q3
      ·exact hK _ _ _ q1 q2 q3
     ·exact q3.elim
    ·exact h.elim
  ·exact h.elim
 case store T x y=>
  rw[ev x (by simp),ev y (by simp)]at h
  unfold zcj at h⊢
  split at h
  ·rename_i _ zs _
   rw[Ot λk _=>ob k]at h
   split at h
   ·exact h.elim
   ·rename_i new _
    rw[zg2 ob]at h
    refine zlO (λnew h=> ?_) h
    cases hb:Nat.beq new.length zs.length&&new.all kM with
    |false=>rw[hb]at h;exact h.elim
    |true=>
     rw[hb,AI]at h
     rw[AI];split at h
     ·rename_i k off _
      rw[ob k]at h
      split at h
      ·rename_i ds _
       cases hb2:Nat.ble (off+new.length) ds.length with
       |false=>rw[hb2]at h;exact h.elim
       |true=>rw[hb2,AI]at h;exact hK _ _ _ (WP hX hl _ _) (WQ _ _) h
      ·exact h.elim
     ·rename_i k sz i off _
      refine cQ hX hl h λds' τ τ1 q1 q2 q3=> ?_
      rw[Zr q1]at q3
      split at q3
      ·rename_i e t xs _
       cases hb2:Nat.beq sz t.size with
       |false=>rw[hb2]at q3;exact q3.elim
       |true=>
        rw[hb2,AI]at q3
        rw[AI];split at q3
        ·cases hb3:Nat.ble (off+ds'.length) t.size with
         |false=>rw[hb3]at q3;exact q3.elim
         |true=>rw[hb3,AI]at q3;exact hK _ _ _ (WP hX q1 _ _) (q2.trans (WQ _ _)) q3
        ·exact q3.elim
      ·exact q3.elim
     ·exact h.elim
  ·exact h.elim
 case binOp op T x y T'=>
  rw[ev x (by simp),ev y (by simp)]at h
  have hE:∀ {op:BinOp} {b:Bool},eqK op b (λd=>K d σ1)->eqK op b λd=>K' d σ:=λh=>zn0 (λd hd=>hK _ _ _ hl (.refl _) hd) h
  unfold zeG at h⊢
  split at h
  ·split at h
   ·split at h
    ·exact hE h
    ·exact h.elim
   ·exact h.elim
  ·cases hb:E.nilq&&VT E T with
   |false=>rw[hb]at h;exact h.elim
   |true=>rw[hb,AI]at h;rw[AI];exact hE h
  ·cases hb:E.nilq&&VT E T with
   |false=>rw[hb]at h;exact h.elim
   |true=>rw[hb,AI]at h;rw[AI];exact λb hb=>hE (h b hb)
  ·cases hb:E.nilq&&VT E T with
   |false=>rw[hb]at h;exact h.elim
   |true=>rw[hb,AI]at h;rw[AI];exact hE h
  ·rename_i k _ _
   rw[ob k]at h
   split at h
   ·cases hb:E.nilq&&VT E T with
    |false=>rw[hb]at h;exact h.elim
    |true=>rw[hb,AI]at h;rw[AI];exact λb hb=>hE (h b hb)
   ·exact h.elim
  ·have hk:∀d,K d σ1->K' d σ:=λd hd=>hK _ _ _ hl (.refl _) hd
   unfold znt at h⊢
   split at h
   ·split at h<;>first|exact h.elim|exact hk _ h|exact⟨h.1,hk _ h.2⟩
   ·split at h<;>first|exact h.elim|exact hk _ h
   ·split at h<;>first|exact h.elim|exact hk _ h|exact⟨h.1,hk _ h.2⟩
   ·cases hb:sH T E.bools with
    |false=>rw[hb]at h;exact h.elim
    |true=>
     rw[hb,AI]at h
     simp only[AI];split at h<;>first|exact h.elim|exact hk _ h
   ·exact h.elim
 case makeSlice T l c=>
  rw[ev l (by simp),ev c (by simp)]at h
  unfold WL at h⊢
  split at h
  ·split at h
   ·obtain⟨g1,g2,g3,h⟩:=h
    refine⟨g1,g2,g3,?_⟩;split at h
    ·exact hK _ _ _ (jQ hX hl _ _) (jR _ _) h
    ·exact hK _ _ _ hl (.refl _) h
   ·exact h.elim
  ·exact h.elim
 case makeMap T r=>
  cases r with
  |some _=>exact h.elim
  |none=>
   simp only at h⊢
   unfold Qs at h⊢
   split at h
   ·split at h
    ·exact hK _ _ _ (jQ hX hl _ _) (jR _ _) h
    ·exact hK _ _ _ hl (.refl _) h
   ·exact h.elim
 case mapUpdate T m x y=>
  rw[ev m (by simp),ev x (by simp),ev y (by simp)]at h
  unfold T7 at h⊢
  split at h
  ·rename_i kt0 vt0 j _ _
   refine cQ hX hl h λds' τ τ1 q1 q2 q3=> ?_
   rw[Zr q1]at q3
   split at q3
   ·rename_i kt vt es _
    cases hb:decide (kt=kt0)&&decide (vt=vt0)with
    |false=>rw[hb]at q3;exact q3.elim
    |true=>
     rw[hb,AI]at q3
     rw[AI];split at q3
     ·exact⟨q3.1,hK _ _ _ (WP hX q1 _ _) (q2.trans (WQ _ _)) q3.2⟩
     ·exact q3.elim
   ·exact q3.elim
  ·exact h.elim
 case call c=>
  have hargs:∀(a b:St),tC a (b.px X)->∀x∈c.args.toList,a.ev x=b.ev x:=λa b hab x hx=>ev0 a b hab x (by simp[Call.operands];exact .inr (by simpa using hx))
  split at h
  ·rename_i hc;simp only[oq,ho,hc,Acq]at hq
  ·split at h
   ·rename_i hc x y T T' ha ht
    rw[hargs σ1 σ hl x (by rw[ha];simp)]at h
    have hy:=λa b hab=>hargs a b hab y (by rw[ha];simp)
    unfold Eh at h⊢
    split at h
    ·rename_i e t' _
     cases hT:Nat.beq T T' with
     |false=>
      rw[hT,Aag]at h
      rw[Aag];unfold zsv at h⊢
      split at h
      ·rw[hy σ1 σ hl]at h
       split at h
       ·rename_i k _ _ _ _
        rw[ob]at h
        split at h
        ·rename_i e' xs _
         cases hb:Nat.beq e e'&& !stabK k with
         |false=>rw[hb]at h;exact h.elim
         |true=>
          rw[hb,AI]at h
          simp only[AI];exact⟨h.1,hK _ _ _ (jQ hX hl _ _) (jR _ _) h.2⟩
        ·exact h.elim
       ·exact h.elim
      ·exact h.elim
     |true=>
      rw[hT,AI]at h
      rw[AI];split at h
      ·rename_i k _
       rw[ob k]at h
       split at h
       ·rename_i e' t xs _
        cases hb:Nat.beq e e'&&Nat.beq t'.size t.size&&Nat.beq t'.bytes t.bytes&& !stabK k with
        |false=>rw[hb]at h;exact h.elim
        |true=>
         rw[hb,AI]at h
         rw[AI];rw[hy σ1 σ hl,DE ob]at h
         split at h
         ·exact⟨h.1,hK _ _ _ (jQ hX hl _ _) (jR _ _) h.2⟩
         ·exact h.elim
       ·exact h.elim
      ·rename_i k _
       rw[ob k]at h
       split at h
       ·rename_i e' t xs _
        cases hb:Nat.beq e e'&&Nat.beq t'.size t.size&&Nat.beq t'.bytes t.bytes&& !stabK k with
        |false=>rw[hb]at h;exact h.elim
        |true=>
         rw[hb,AI]at h
         rw[AI];rw[hy σ1 σ hl,DE ob]at h
         split at h
         ·rename_i ys _
          cases hz:Nat.blt 0 ys.length with
          |false=>rw[hz]at h;exact h.elim
          |true=>
           rw[hz,AI]at h
           rw[AI];exact⟨h.1,hK _ _ _ (jQ hX hl _ _) (jR _ _) h.2⟩
         ·exact h.elim
       ·exact h.elim
      ·split at h
       ·rename_i k _
        have hl2:=jQ hX hl k (.row e t' []);rw[hy _ _ hl2,DE (Zr hl2)]at h
        split at h
        ·exact⟨h.1,hK _ _ _ (jQ hX hl2 _ _) ((jR _ _).trans (jR _ _)) h.2⟩
        ·exact h.elim
       ·exact h.elim
      ·exact h.elim
    ·exact h.elim
   ·exact h.elim
  ·rename_i hc;simp only[oq,ho,hc,Acq]at hq
  ·rename_i f hc
   rw[ev f (by simp[Call.operands,hc])]at h
   cases f with
   |func g=>
    simp only[oq,ho,hc]at hq
    cases hg:zW g E.hsig with
    |none=>rw[hg]at hq;cases hq
    |some hs=>
     unfold zeI at h⊢
     have e1:∀τ:St,τ.ev (.func g)=.clo g none []:=λ_=>rfl
     rw[e1]at h⊢
     simp only[zgQ,hg]at h⊢
     rw[zqB (σ':=σ1) (σ:=σ) _ _ (hargs σ1 σ hl)]at h
     exact zg1 hX hl h hK
   |_=>simp only[oq,ho,hc,Acq]at hq
  ·exact h.elim
 all_goals first|exact h.elim|(simp only[oq,ho,Acq]at hq)
end
end Go.Proofs.YtdnmkinmcdihnaaGreatDoor
namespace Go.Proofs.YtdnmkinmcdihnaaGreatDoor
open Go.RowKit
variable[Lo]
section
variable {P:AcO}{E:TE}{A:xF}{b0:Yo}{w w':World}{S S':Nat->Prop}{pl pl':Nat->Value}{N:Nat}{σ σ':St}{a:Act}{v:Value}{d:D}{o:Oper}
theorem Zs{all:List Oper}{yes no:St->Prop}(h:bX all o σ yes no)(σ2:St)(hl:tC σ σ2)(m:Mt P b0 N σ2 a w):
  (Region.wanted o (yielded all.toArray a.tmps)=true/\∃σ',tC σ2 σ'/\yes σ')\/(Region.wanted o (yielded all.toArray a.tmps)=false/\∃σ',tC σ2 σ'/\no σ'):=by
 unfold bX at h
 split at h
 ·rename_i hg
  exact .inl ⟨by unfold Region.wanted;rw[hg],σ,hl.symm,h⟩
 ·rename_i j want hg
  split at h
  ·rename_i s hs
   split at h
   ·rename_i b hb
    obtain⟨S,pl,m⟩:=m
    have hv:a.tmps.getD s undef=.bool b:=by
     have:=m.fr s;rw[hl.get,hb]at this
     exact(this.flat (d:=.bool b) rfl).bool_inv
    have hy:yielded all.toArray a.tmps j=some b:=by
     unfold yielded;unfold zaW at hs
     split at hs
     ·rename_i o' ho'
      have hlt:s<a.tmps.size:=by
       rcases AaP s a.tmps.size with h|h
       ·exact h
       ·rw[Aaj,AbD h]at hv;cases hv
      rw[Aaj,AaW hlt]at hv
      simp only[Ab4,ho',Abk,hs,AaW hlt];have hv:a.tmps[s]=.bool b:=hv;rw[hv]
     ·cases hs
    have hw:Region.wanted o (yielded all.toArray a.tmps)=(b==want):=by
     unfold Region.wanted;rw[hg];simp only[hy];cases b<;>cases want<;>rfl
    rw[hw];have hp:tC σ2 (σ.put s (.bool b)):=hl.symm.trans (QA hb);cases b<;>cases want
    ·exact .inl ⟨rfl,_,hp,h⟩
    ·exact .inr ⟨rfl,_,hp,h⟩
    ·exact .inr ⟨rfl,_,hp,h⟩
    ·exact .inl ⟨rfl,_,hp,h⟩
   ·rename_i hb
    obtain⟨S,pl,m⟩:=m
    have hv:a.tmps.getD s undef=.tuple #[]:=by
     have:=m.fr s;rw[hl.get,hb]at this
     obtain⟨vs,hv,hl2,_⟩:=(this.flat (d:=.tup []) rfl).tup_inv;obtain rfl:vs= #[]:=AcH (by simpa using hl2)
     exact hv
    refine .inr ⟨?_,σ,hl.symm,h⟩
    have hy:yielded all.toArray a.tmps j=none:=by
     unfold yielded;unfold zaW at hs
     split at hs
     ·rename_i o' ho'
      simp only[Ab4,ho',Abk,hs];rw[Aaj]at hv
      cases hg':a.tmps[s]? with
      |none=>rfl
      |some u=>rw[hg']at hv;have hv:u=.tuple #[]:=hv;rw[hv]
     ·cases hs
    unfold Region.wanted;rw[hg];simp only[hy];rfl
   ·exact h.elim
  ·exact h.elim
theorem LW:Rd w S pl undef (.tup []):=Rp.rd (.tup #[] [] rfl λi d h=>by simp at h)
theorem Yr{n:Nat}:∀ {l:List Oper},XW n l=true->∀o∈l,∀i,o.dst=some i->i<n
 |[],_,o,ho,_,_=>by cases ho
 |x::l,h,o,ho,i,hi=>by
  simp only[XW,If]at h
  rcases Aad.1 ho with rfl|ho
  ·have:=h.1
   rw[hi]at this
   exact Nat.lt_of_succ_le (Aau this)
  ·exact Yr h.2 o ho i hi
theorem zg3(F:vE P E){all:List Oper}{K:Ex->St->Prop}{Q:Exit->Act->World->Prop}(hQ:∀σ a w,K .normal σ->Mt P b0 A.n σ a w->Q .normal a w)(hT:∀e a w,ztU b0 K e a w->Q e a w):
  ∀(l:List Oper) (σ:St) (a:Act) (w:World),XW A.n l=true->zqy P E A all l σ K->Mt P b0 A.n σ a w->wpList P all.toArray Q l a w
 |[],σ,a,w,_,h,m=>hQ σ a w h m
 |o::r,σ,a,w,hd,h,m=>by
  simp only[XW,If]at hd
  have hdst:∀i,o.dst=some i->i<A.n:=λi hi=>Yr (l:=[o]) (by simp[XW,hd.1]) o (by simp) i hi
  unfold wpList;rcases Zs (a:=a) (w:=w) h σ (.refl σ) m with⟨hw,σ',hl,hy⟩|⟨hw,σ',hl,hn⟩
  ·rw[As hw]
   left;obtain⟨S,pl,m'⟩:=m.like hl;exact znT F m' hy (λd σ'' v w' S' pl' hk hm hv=>zg3 F hQ hT r _ _ _ hd.2 hk ⟨S',pl',hm.putO hdst hv⟩) λu w' ht hb=>hT _ _ _ ⟨u,_,rfl,ht,m'.dz,hb⟩
  ·rw[An (by rw[hw];simp)]
   obtain⟨S,pl,m'⟩:=m.like hl;exact zg3 F hQ hT r _ _ _ hd.2 hn ⟨S,pl,m'.putO hdst LW⟩
def jS(P:AcO)(E:TE)(A:xF)(all:List Oper)(o:Oper)(d:D)(σ:St):Prop:=
 (oo all o σ=some true/\∀K':D->St->Prop,K' d σ->Ei P E.q A.quiet o σ K')\/(oo all o σ=some false/\d=.tup [])
def WS(K:St->Prop):Prop:=∀σ σ',tC σ σ'->K σ->K σ'
theorem LX{all:List Oper}(h:tC σ σ'):oo all o σ'=oo all o σ:=by
 unfold oo;split
 ·rfl
 ·split
  ·rw[h.get]
  ·rfl
theorem gJ(h:tC σ σ'):zqA o σ σ':=⟨λx _=>h.ev x,λ_ _ k _=>h.ob k⟩
theorem jS.same{all:List Oper}(hq:oq E A o=true)(h:jS P E A all o d σ)(he:zqA o σ σ')(hw:oo all o σ'=oo all o σ):jS P E A all o d σ':=by
 rcases h with⟨h1,h2⟩|⟨h1,h2⟩
 ·left
  refine⟨hw.trans h1,λK' hk=> ?_⟩
  obtain⟨d',e,h'⟩:=nW (K:=λd'=>d'=d) hq he (h2 (λd' _=>d'=d) rfl)
  subst e;exact h' K' hk
 ·exact .inr ⟨hw.trans h1,h2⟩
theorem jS.like{all:List Oper}(hq:oq E A o=true)(h:jS P E A all o d σ)(hl:tC σ σ'):jS P E A all o d σ':=h.same hq (gJ hl) (LX hl)
theorem za0(σ:St){x y:Option Nat}(d e:D)(h:∀i,x=some i->y≠some i):tC ((σ.putO x d).putO y e) ((σ.putO y e).putO x d):=by
 cases x with
 |none=>exact .refl _
 |some i=>
  cases y with
  |none=>exact .refl _
  |some j=>
   have hne:i≠j:=λe=>h i rfl (by rw[e])
   refine⟨λk=> ?_,λ_=>rfl⟩
   simp only[St.putO,St.get_put];split<;>split<;>first|rfl|omega
theorem DF{all:List Oper}{x:Option Nat}{d:D}(h:∀i,x=some i->i∉o.looksAt all.toArray)(hob:True):zqA o σ (σ.putO x d)/\oo all o (σ.putO x d)=oo all o σ:=by
 cases x with
 |none=>exact⟨⟨λ_ _=>rfl,λ_ _ _ _=>rfl⟩,rfl⟩
 |some i=>
  have hi:=h i rfl;refine⟨⟨λx hx=> ?_,λ_ _ _ _=>rfl⟩,?_⟩
  ·cases x with
   |tmp t=>
    show(σ.put i d).get t=σ.get t
    rw[St.get_put,An];intro e;subst e;exact hi (AaH _ (Acr.2 ⟨.tmp i,by simpa using hx,rfl⟩))
   |_=>rfl
  ·unfold oo
   split
   ·rfl
   ·rename_i j want hg
    split
    ·rename_i s hs
     rw[show(σ.putO (some i) d).get s=σ.get s from ?_]
     show(σ.put i d).get s=σ.get s
     rw[St.get_put,An];intro e;subst e;refine hi ?_;unfold zaW at hs
     split at hs
     ·rename_i o' ho'
      simp[Oper.looksAt,hg,ho',hs]
     ·cases hs
    ·rfl
theorem zcM{all:List Oper}{yes no:St->Prop}(h:bX all o σ yes no):(oo all o σ=some true/\∃σ',tC σ σ'/\yes σ')\/(oo all o σ=some false/\∃σ',tC σ σ'/\no σ'):=by
 unfold bX at h
 unfold oo;split at h
 ·rename_i e;exact .inl ⟨rfl,σ,.refl _,h⟩
 ·rename_i j want e
  split at h
  ·rename_i s e2
   split at h
   ·rename_i b e3
    have hp:=QA e3;cases b<;>cases want
    ·exact .inl ⟨rfl,_,hp,h⟩
    ·exact .inr ⟨rfl,_,hp,h⟩
    ·exact .inr ⟨rfl,_,hp,h⟩
    ·exact .inl ⟨rfl,_,hp,h⟩
   ·exact .inr ⟨rfl,σ,.refl _,h⟩
   ·exact h.elim
  ·exact h.elim
end
end Go.Proofs.YtdnmkinmcdihnaaGreatDoor
namespace Go.Proofs.YtdnmkinmcdihnaaGreatDoor
open Go.RowKit
variable[Lo]
section
variable {P:AcO}{E:TE}{A:xF}{b0:Yo}{w w':World}{S S':Nat->Prop}{pl pl':Nat->Value}{N:Nat}{σ σ':St}{a:Act}{v:Value}{d:D}{o:Oper}
theorem vE.q(F:vE P E):vE P E.q where
 zs:=F.zs
 sl:=F.sl
 fld:=F.fld
 strs:=F.strs
 ints:=F.ints
 bools:=F.bools
 sig:=F.sig
 hsig:=λf hs h=>by cases h
 arr:=F.arr
 mps:=F.mps
 sts:=F.sts
 mixed:=F.mixed
 byt:=F.byt
theorem Ov(F:vE P E){all:List Oper}{K:St->Prop}{Q:Exit->Act->World->Prop}(hd:XW A.n all=true)(hQ:∀σ a w,K σ->Mt P b0 A.n σ a w->Q .normal a w):
  ∀(fuel:Nat) (listed:Array Bool) (σ:St) (a:Act) (w:World),Ux P E A all K fuel listed σ->Mt P b0 A.n σ a w->wpAny P .any all.toArray Q fuel listed a w
 |0,_,σ,a,w,h,m=>⟨h.1,hQ _ _ _ h.2 m⟩
 |fuel+1,listed,σ,a,w,h,m=>⟨λh0=>hQ _ _ _ (h.1 h0) m,λi hi=>by
  have h1:=h.2 i hi;unfold Ap at h1
  unfold wpOp;simp only[Ab4];cases ho:all[i]? with
  |none=>rw[ho]at h1;exact h1.elim
  |some o=>
   rw[ho]at h1
   simp only at h1⊢
   have hdst:∀i,o.dst=some i->i<A.n:=Yr hd o (AaS ho);unfold Ay at h1
   split at h1
   ·rename_i hqt
    unfold zeQ at h1
    rcases Zs h1 σ (.refl σ) m with⟨hw,σ',hl,hy⟩|⟨hw,σ',hl,hn⟩
    ·rw[As hw]
     left;obtain⟨S,pl,m'⟩:=m.like hl;obtain⟨d,q1,q2⟩:=nW hqt (gJ (.refl σ')) hy;refine zko F.q m' (q2 (λd' τ=>d'=d/\τ=σ') ⟨rfl,rfl⟩) λd' τ v w' S' pl' hk hm hv=> ?_
     obtain⟨e1,e2⟩:=hk;subst e1 e2;exact Ov F hd hQ fuel _ _ _ _ q1 ⟨S',pl',hm.putO hdst hv⟩
    ·rw[An (by rw[hw];simp)]
     obtain⟨S,pl,m'⟩:=m.like hl;exact Ov F hd hQ fuel _ _ _ _ hn ⟨S,pl,m'.putO hdst LW⟩
   ·unfold zqz at h1
    rcases Zs h1 σ (.refl σ) m with⟨hw,σ',hl,hy⟩|⟨hw,σ',hl,hn⟩
    ·rw[As hw]
     left;obtain⟨S,pl,m'⟩:=m.like hl;refine zko F m' hy λd' τ v w' S' pl' hk hm hv=> ?_
     exact Ov F hd hQ fuel _ _ _ _ hk ⟨S',pl',hm.putO hdst hv⟩
    ·rw[An (by rw[hw];simp)]
     obtain⟨S,pl,m'⟩:=m.like hl;exact Ov F hd hQ fuel _ _ _ _ hn ⟨S,pl,m'.putO hdst LW⟩⟩
theorem LY{all:List Oper}{yes no:St->Prop}{b:Bool}(h:oo all o σ=some b)(hy:b=true->∀σ',tC σ σ'->yes σ')(hn:b=false->∀σ',tC σ σ'->no σ'):bX all o σ yes no:=by
 unfold oo at h
 unfold bX;split at h
 ·injection h with h;exact hy h.symm σ (.refl σ)
 ·rename_i j want e
  split at h
  ·rename_i s e2
   split at h
   ·rename_i c e3
    injection h with h
    have hp:=QA e3;cases c<;>cases want<;>subst h
    ·exact hy rfl _ hp
    ·exact hn rfl _ hp
    ·exact hn rfl _ hp
    ·exact hy rfl _ hp
   ·injection h with h;exact hn h.symm σ (.refl σ)
   ·cases h
  ·cases h
theorem Ow{all:List Oper}(hq:oq E A o=true){K:St->Prop}(hK:WS K)(h:zeQ P E A all o σ K):∃d,jS P E A all o d σ/\K (σ.putO o.dst d):=by
 rcases zcM h with⟨hw,σ',hl,hy⟩|⟨hw,σ',hl,hn⟩
 ·obtain⟨d,q1,q2⟩:=nW hq (gJ hl.symm) hy
  exact⟨d,.inl ⟨hw,q2⟩,hK _ _ (hl.symm.putO _ _) q1⟩
 ·exact⟨.tup [],.inr ⟨hw,rfl⟩,hK _ _ (hl.symm.putO _ _) hn⟩
theorem zcN{all:List Oper}(hq:oq E A o=true){K:St->Prop}(hK:WS K)(hy:jS P E A all o d σ)(h:K (σ.putO o.dst d)):zeQ P E A all o σ K:=by
 rcases hy with⟨hw,hy⟩|⟨hw,rfl⟩
 ·refine LY hw (λ_ σ' hl=> ?_) λe=>by cases e
  obtain⟨d',e,q⟩:=nW (K:=λd'=>d'=d) hq (gJ hl) (hy (λd' _=>d'=d) rfl)
  subst e;exact q _ (hK _ _ (hl.putO _ _) h)
 ·exact LY hw (λe=>by cases e) λ_ σ' hl=>hK _ _ (hl.putO _ _) h
theorem zsH{X:Option (Nat×D)}{i:Option Nat}{e:D}{τ τ1:St}(h:tC τ1 (τ.px X))(hne:∀s d,X=some (s,d)->i≠some s):tC (τ1.putO i e) ((τ.putO i e).px X):=by
 cases X with
 |none=>exact h.putO i e
 |some x=>
  obtain⟨s,d⟩:=x;have h1:=h.putO i e;refine h1.trans ?_;exact za0 τ (x:=some s) (y:=i) d e λj hj=>by injection hj with hj;subst hj;exact hne s d rfl
theorem U2{all:List Oper}{X:Option (Nat×D)}(hX:XOk X){σ1:St}(hl:tC σ1 (σ.px X))(hx:∀s d,X=some (s,d)->s∉o.looksAt all.toArray)(hd:∀s d,X=some (s,d)->o.dst≠some s)(hq:oq E A o=false){K K':St->Prop}
  (h:zqz P E A all o σ1 K) (hK:∀τ τ1,tC τ1 (τ.px X)->(∀t,(σ.get t).ref=none->o.dst≠some t->τ.get t=σ.get t)->K τ1->K' τ):zqz P E A all o σ K':=by
 have hw:oo all o σ1=oo all o σ:=by
  rw[<-LX hl];cases X with
  |none=>rfl
  |some x=>
   obtain⟨s,d⟩:=x;exact(DF (x:=some s) (λi hi=>by injection hi with hi;subst hi;exact hx _ _ rfl) trivial).2
 have hop:∀s d,X=some (s,d)->Operand.tmp s∉o.op.operands:=λs d e hm=>hx s d e (AaH _ (Acr.2 ⟨.tmp s,by simpa using hm,rfl⟩))
 have fin:∀(e:D) (τ τ1:St),tC τ1 (τ.px X)->Keep σ τ->K (τ1.putO o.dst e)->K' (τ.putO o.dst e):=λe τ τ1 q1 q2 q3=>hK _ _ (zsH q1 hd) (λt ht hne=>by
  rw[<-q2 t ht];cases hdst:o.dst with
  |none=>rfl
  |some j=>
   show(τ.put j e).get t=_
   rw[St.get_put,An];intro ej;subst ej;exact hne hdst) q3
 have liken:∀σ1' σ',tC σ1 σ1'->tC σ σ'->tC σ1' (σ'.px X):=λσ1' σ' h1 h2=>by
  have h3:=h1.symm.trans hl;refine h3.trans ?_;cases X with
  |none=>exact h2
  |some x=>exact h2.put _ _
 rcases zcM h with⟨hw1,σ1',hl1,hy⟩|⟨hw1,σ1',hl1,hn⟩
 ·refine LY (hw.symm.trans hw1) (λ_ σ' hl'=> ?_) λe=>by cases e
  exact zlP hX (liken _ _ hl1 hl') hop hq hy λe τ τ1 q1 q2 q3=>fin e τ τ1 q1 (λt ht=>by rw[<-hl'.get t];exact q2 t (by rw[hl'.get t];exact ht)) q3
 ·refine LY (hw.symm.trans hw1) (λe=>by cases e) λ_ σ' hl'=> ?_
  exact fin _ σ' σ1' (liken _ _ hl1 hl') (λt _=>hl'.get t) hn
theorem aN{all:List Oper}{K:St->Prop}(hK:WS K):∀(fuel:Nat) (listed:Array Bool),WS (Ux P E A all K fuel listed)
 |0,_,σ,σ',hl,h=>⟨h.1,hK _ _ hl h.2⟩
 |fuel+1,listed,σ,σ',hl,h=>⟨λh0=>hK _ _ hl (h.1 h0),λi hi=>by
  have h1:=h.2 i hi;have ih:WS (Ux P E A all K fuel (listed.setIfInBounds i true)):=aN hK fuel _;unfold Ap at h1⊢
  cases ho:all[i]? with
  |none=>rw[ho]at h1;exact h1.elim
  |some o=>
   rw[ho]at h1
   simp only at h1⊢
   unfold Ay at h1⊢
   split at h1
   ·rename_i hq
    obtain⟨d,q1,q2⟩:=Ow hq ih h1;exact zcN hq ih (q1.like hq hl) (ih _ _ (hl.putO _ _) q2)
   ·rename_i hq
    exact U2 (X:=none) (λs d e=>by cases e) (σ:=σ') hl.symm.symm (λs d e=>by cases e) (λs d e=>by cases e) hq h1 λτ τ1 q1 _ q3=>ih _ _ q1 q3⟩
theorem Gf{all:List Oper}{oi oj:Oper}{τ:St}(hy:jS P E A all oi d σ)(h:∀t,(σ.get t).ref=none->oj.dst≠some t->τ.get t=σ.get t)(ha:∀i,oj.dst=some i->i∉oi.looksAt all.toArray):oo all oi τ=oo all oi σ:=by
 have hw:∃b,oo all oi σ=some b:=by rcases hy with⟨h,_⟩|⟨h,_⟩<;>exact⟨_,h⟩
 obtain⟨b,hw⟩:=hw;unfold oo at hw⊢
 split
 ·rfl
 ·rename_i j want e
  rw[e]at hw
  simp only at hw
  split
  ·rename_i s hs
   rw[hs]at hw
   simp only at hw
   have hr:(σ.get s).ref=none:=by
    cases hg:σ.get s<;>rw[hg]at hw<;>first|rfl|(simp at hw)
   rw[h s hr λe'=>ha s e' (by
    unfold zaW at hs
    split at hs
    ·rename_i o' ho'
     simp[Oper.looksAt,e,ho',hs]
    ·cases hs)]
  ·rfl
theorem Sd{all:List Oper}{K:St->Prop}(hK:WS K){i:Nat}{oi:Oper}{d:D}(hi:all[i]? =some oi)(hqi:oq E A oi=true):
  ∀(fuel:Nat) (listed:Array Bool) (σ:St),
   (∀j oj,all[j]? =some oj->j≠i->listed.getD j true=false->(∀e∈oj.after,Region.binds .any e=true->e.on≠i)->oi.apart all.toArray oj=true/\(oq E A oj=true\/((∀x∈oi.op.operands,(σ.ev x).ref=none)/\d.ref=none)))->
   i∈Region.ready .any all.toArray listed->jS P E A all oi d σ->
   Ux P E A all K fuel (listed.setIfInBounds i true) (σ.putO oi.dst d)->Ux P E A all K (fuel+1) listed σ:=by
 intro fuel
 have self:∀(K:St->Prop) (σ:St),WS K->jS P E A all oi d σ->K (σ.putO oi.dst d)->Ap all i λo=>Ay P E A all o σ K:=λK σ hK hy h=>by
  unfold Ap;rw[hi];simp only;unfold Ay;rw[hqi];exact zcN hqi hK hy h
 induction fuel with
 |zero=>
  intro listed σ _ hr hy H;refine⟨λh=>(by rw[h]at hr;cases hr),λj hj=> ?_⟩
  by_cases hji:j=i
  ·subst hji;exact self _ _ (aN hK 0 _) hy H
  ·have:=ready_mono hj hji
   rw[H.1]at this
   cases this
 |succ fuel ih=>
  intro listed σ hfree hr hy H;refine⟨λh=>(by rw[h]at hr;cases hr),λj hj=> ?_⟩
  by_cases hji:j=i
  ·subst hji;exact self _ _ (aN hK _ _) hy H
  ·have h1:=H.2 j (ready_mono hj hji)
   obtain⟨hjun,oj,hoj,hall⟩:=mem_ready.1 hj;have hoj':all[j]? =some oj:=by simpa using hoj
   have hnot:∀e∈oj.after,Region.binds .any e=true->e.on≠i:=λe he hb heq=>by
    have h1:=hall e he hb;have h0:=(mem_ready.1 hr).1;rw[heq]at h1
    rcases AaP i listed.size with h'|h'
    ·simp[h']at h0 h1;rw[h0]at h1;cases h1
    ·simp[AbD h']at h1
   obtain⟨hap,hkind⟩:=hfree j oj hoj' hji hjun hnot;obtain⟨a1,a2,a3⟩:=Oper.apart_spec hap;have hcomm:(listed.setIfInBounds i true).setIfInBounds j true=(listed.setIfInBounds j true).setIfInBounds i true:=Array.setIfInBounds_comm _ _ (Ne.symm hji)
   have hstep:∀σ',jS P E A all oi d σ'->((∀x∈oi.op.operands,(σ.ev x).ref=none)->∀x∈oi.op.operands,σ'.ev x=σ.ev x)->
     Ux P E A all K fuel ((listed.setIfInBounds j true).setIfInBounds i true) (σ'.putO oi.dst d)->Ux P E A all K (fuel+1) (listed.setIfInBounds j true) σ':=λσ' hy' hpure h3=>by
    refine ih (listed.setIfInBounds j true) σ' (λk ok hk hki hun hno=> ?_) (ready_mono hr (Ne.symm hji)) hy' h3
    have:=hfree k ok hk hki (by
     by_cases hjk:j=k
     ·subst hjk;exact hjun
     ·rw[getD_set_ne true hjk]at hun;exact hun) hno
    exact⟨this.1,this.2.imp id λh=>⟨λx hx=>by rw[hpure h.1 x hx];exact h.1 x hx,h.2⟩⟩
   unfold Ap at h1⊢
   rw[hoj']at h1⊢
   simp only at h1⊢
   rw[hcomm]at h1
   have hLk:=aN hK fuel ((listed.setIfInBounds j true).setIfInBounds i true) (P:=P) (E:=E) (A:=A) (all:=all);have hLk':=aN hK (fuel+1) (listed.setIfInBounds j true) (P:=P) (E:=E) (A:=A) (all:=all);unfold Ay at h1⊢
   split at h1
   ·rename_i hqj
    obtain⟨e,q1,q2⟩:=Ow hqj hLk h1;have hp:=DF (σ:=σ) (d:=d) a1 trivial (o:=oj);have q1':jS P E A all oj e σ:=q1.same hqj ⟨λx hx=>(hp.1.1 x hx).symm,λx _ k _=>by cases oi.dst<;>rfl⟩ hp.2.symm
    refine zcN hqj hLk' q1' ?_;have hp':=DF (σ:=σ) (d:=e) a3 trivial (o:=oi);refine hstep _ (hy.same hqi hp'.1 hp'.2) (λ_ x hx=>hp'.1.1 x hx) ?_
    exact hLk _ _ (za0 σ d e a2) q2
   ·rename_i hqj
    rcases hkind with hkind|⟨hpure,hdr⟩
    ·rw[hkind]at hqj;cases hqj
    ·cases hdst:oi.dst with
     |none=>
      rw[hdst]at h1
      refine U2 (X:=none) (λs d e=>by cases e) (σ:=σ) (σ1:=σ.putO none d) (.refl _) (λs d e=>by cases e) (λs d e=>by cases e) hqj h1 λτ τ1 p1 p2 p3=> ?_
      have hev:∀x∈oi.op.operands,τ.ev x=σ.ev x:=λx hx=>by
       cases x with
       |tmp t=>exact p2 t (hpure _ hx) λe=>a3 t e (AaH _ (Acr.2 ⟨.tmp t,by simpa using hx,rfl⟩))
       |_=>rfl
      refine hstep τ (hy.same hqi ⟨hev,λx hx k hk=>by rw[hpure x hx]at hk;cases hk⟩ ?_) (λ_=>hev) ?_
      ·exact Gf hy p2 a3
      ·rw[hdst];exact hLk _ _ p1 p3
     |some s=>
      rw[hdst]at h1
      refine U2 (X:=some (s,d)) (λs' d' e=>by injection e with e;injection e with e1 e2;subst e2;exact hdr) (σ:=σ) (σ1:=σ.put s d) (.refl _) (λs' d' e=>by injection e with e;injection e with e1 e2;subst e1;exact a1 s hdst)
       (λs' d' e=>by injection e with e;injection e with e1 e2;subst e1;exact a2 s hdst) hqj h1 λτ τ1 p1 p2 p3=> ?_
      have hev:∀x∈oi.op.operands,τ.ev x=σ.ev x:=λx hx=>by
       cases x with
       |tmp t=>exact p2 t (hpure _ hx) λe=>a3 t e (AaH _ (Acr.2 ⟨.tmp t,by simpa using hx,rfl⟩))
       |_=>rfl
      refine hstep τ (hy.same hqi ⟨hev,λx hx k hk=>by rw[hpure x hx]at hk;cases hk⟩ ?_) (λ_=>hev) ?_
      ·exact Gf hy p2 a3
      ·rw[hdst];exact hLk _ _ p1 p3
theorem Ys{f:Nat->Bool}:∀ {l:AcZ} {i:Nat},Gd f l=some i->i∈l/\f i=true
 |[],i,h=>by cases h
 |j::r,i,h=>by
  unfold Gd at h
  cases hf:f j with
  |true=>rw[hf,AI]at h;injection h with h;subst h;exact⟨Aaa,hf⟩
  |false=>rw[hf,Aag]at h;have:=Ys h;exact⟨Aac _ this.1,this.2⟩
theorem Ox{f:Nat->Prop}:∀ {l:AcZ},znU f l->∀i∈l,f i
 |[],_,i,hi=>by cases hi
 |[j],h,i,hi=>by rcases Aad.1 hi with rfl|hi;exact h;cases hi
 |j::k::r,h,i,hi=>by
  rcases Aad.1 hi with rfl|hi
  ·exact h.1
  ·exact Ox h.2 i hi
theorem kO{all:List Oper}{listed:Array Bool}{i:Nat}{oi:Oper}{f:Oper->Bool}:∀ {l:List Oper} {k:Nat},WE all listed i oi f k l=true->
  ∀j oj,l[j]? =some oj->k+j≠i->listed.getD (k+j) true=false->(∀e∈oj.after,Region.binds .any e=true->e.on≠i)->oi.apart all.toArray oj=true/\f oj=true
 |[],k,h,j,oj,hj,_,_,_=>by simp at hj
 |o::r,k,h,j,oj,hj,h1,h2,h3=>by
  simp only[WE,If,AaY]at h
  cases j with
  |zero=>
   simp at hj;subst hj
   rcases h.1 with((h0|h0)|h0)|h0
   ·exact At (xA.1 h0) h1
   ·rw[Nat.add_zero]at h2;rw[h2]at h0;cases h0
   ·exfalso
    obtain⟨e,he,hb⟩:=AaI.1 h0;simp only[If]at hb
    exact h3 e (by simpa using he) hb.1 (xA.1 hb.2)
   ·exact h0
  |succ j=>
   exact kO h.2 j oj (by simpa using hj) (by omega) (by rw[show k+1+j=k+(j+1) by omega];exact h2) h3
theorem VY{all:List Oper}{yes no yes' no':St->Prop}(h:bX all o σ yes no)(hy:∀σ,yes σ->yes' σ)(hn:∀σ,no σ->no' σ):bX all o σ yes' no':=by
 unfold bX at h⊢
 split at h
 ·exact hy _ h
 ·rename_i j want _
  split at h
  ·split at h
   ·rename_i b _
    cases b<;>cases want
    ·exact hy _ h
    ·exact hn _ h
    ·exact hn _ h
    ·exact hy _ h
   ·exact hn _ h
   ·exact h.elim
  ·exact h.elim
theorem zn1{all:List Oper}{K K':St->Prop}(hKK:∀σ,K σ->K' σ)(hK:WS K'):∀(fuel:Nat) (listed:Array Bool) (σ:St),Dx P E A all K fuel listed σ->Ux P E A all K' fuel listed σ
 |0,listed,σ,h=>by
  unfold Dx at h
  unfold Ux;split at h
  ·rename_i hr;exact⟨hr,hKK _ h⟩
  ·exact h.elim
 |fuel+1,listed,σ,h=>by
  have ih:∀l σ,Dx P E A all K fuel l σ->Ux P E A all K' fuel l σ:=λl σ=>zn1 hKK hK fuel l σ
  have ihK:∀l,WS (Ux P E A all K' fuel l):=λl=>aN hK fuel l
  unfold Dx at h
  split at h
  ·rename_i hr
   exact⟨λ_=>hKK _ h,λi hi=>by rw[hr]at hi;cases hi⟩
  ·rename_i hnil
   split at h
   ·rename_i i hf
    obtain⟨him,hc⟩:=Ys hf;unfold Ap at h
    unfold zcH at hc
    cases ho:all[i]? with
    |none=>rw[ho]at h;exact h.elim
    |some oi=>
     rw[ho]at h hc
     simp only[If]at h hc
     obtain⟨hq,hg⟩:=hc
     have h':zeQ P E A all oi σ (Ux P E A all K' fuel (listed.setIfInBounds i true)):=VY h (λσ h=>by
      obtain⟨d,q1,q2⟩:=nW hq (gJ (.refl σ)) h;exact q2 _ (ih _ _ q1)) λσ h=>ih _ _ h
     obtain⟨d,q1,q2⟩:=Ow hq (ihK _) h';refine Sd hK ho hq fuel listed σ (λj oj hj hne hun hno=> ?_) him q1 q2
     have:=kO hg j oj hj (by omega) (by rw[Aat];exact hun) hno
     exact⟨this.1,.inl this.2⟩
   ·split at h
    ·rename_i i hf
     obtain⟨him,hc⟩:=Ys hf;unfold Ap at h
     unfold zcI at hc
     cases ho:all[i]? with
     |none=>rw[ho]at h;exact h.elim
     |some oi=>
      rw[ho]at h hc
      simp only[If]at h hc
      obtain⟨⟨hq,hp⟩,hg⟩:=hc;have hpure:∀x∈oi.op.operands,(σ.ev x).ref=none:=λx hx=>oU.1 (Aav.1 hp x (by simpa using hx))
      have h':∃d,jS P E A all oi d σ/\d.ref=none/\Ux P E A all K' fuel (listed.setIfInBounds i true) (σ.putO oi.dst d):=by
       rcases zcM h with⟨hw,σ',hl,hy⟩|⟨hw,σ',hl,hn⟩
       ·obtain⟨d,q1,q2⟩:=nW (σ':=σ) hq (gJ hl.symm) hy
        cases hd:dU d with
        |false=>rw[hd]at q1;exact q1.elim
        |true=>
         rw[hd,AI]at q1
         exact⟨d,.inl ⟨hw,q2⟩,oU.1 hd,ihK _ _ _ (hl.symm.putO _ _) (ih _ _ q1)⟩
       ·exact⟨.tup [],.inr ⟨hw,rfl⟩,rfl,ihK _ _ _ (hl.symm.putO _ _) (ih _ _ hn)⟩
      obtain⟨d,q1,q2,q3⟩:=h';refine Sd hK ho hq fuel listed σ (λj oj hj hne hun hno=> ?_) him q1 q3
      have:=kO hg j oj hj (by omega) (by rw[Aat];exact hun) hno
      exact⟨this.1,.inr ⟨hpure,q2⟩⟩
    ·refine⟨λh0=>(hnil h0).elim,λi hi=> ?_⟩
     have h1:=Ox h i hi;unfold Ap at h1⊢
     cases ho:all[i]? with
     |none=>rw[ho]at h1;exact h1.elim
     |some o=>
      rw[ho]at h1
      simp only at h1⊢
      unfold Ay at h1⊢
      split at h1
      ·rename_i hq
       exact VY h1 (λσ h=>by
        obtain⟨d,q1,q2⟩:=nW hq (gJ (.refl σ)) h;exact q2 _ (ih _ _ q1)) λσ h=>ih _ _ h
      ·rename_i hq
       exact U2 (X:=none) (λs d e=>by cases e) (σ:=σ) (.refl σ) (λs d e=>by cases e) (λs d e=>by cases e) hq h1 λτ τ1 q1 _ q3=>ihK _ _ _ q1 (ih _ _ q3)
theorem zg4{K:St->Prop}:WS (zkp K):=λσ1 σ2 hl ⟨σ'',h1,h2⟩=>⟨σ'',hl.symm.trans h1,h2⟩
theorem Xq{α:Type}{ks:AcZ}:∀ {l:List (Nat×α)},(l.all λx=>sH x.1 ks)=true->∀i,sH i ks=false->zW i l=none
 |[],_,i,_=>rfl
 |x::r,h,i,hi=>by
  rw[Abr,If]at h
  rw[xM];split
  ·rename_i e
   rw[e]at h;rw[hi]at h;cases h.1
  ·exact Xq h.2 i hi
theorem zqC{σ τ:St}(ks kh:AcZ)(h:((σ.fr.all λx=>sH x.1 ks)&&((τ.fr.all λx=>sH x.1 ks)&&((σ.hp.all λx=>sH x.1 kh)&&τ.hp.all λx=>sH x.1 kh)),ks.map τ.get,kh.map λk=>zW k τ.hp)=(true,ks.map σ.get,kh.map λk=>zW k σ.hp)):tC σ τ:=by
 injection h with h1 h2
 injection h2 with h2 h3
 simp only[If]at h1
 obtain⟨a1,a2,a3,a4⟩:=h1;refine⟨λi=> ?_,λk=> ?_⟩
 ·cases hi:sH i ks with
  |true=>exact List.map_inj_left.1 h2 i (Qy.1 hi)
  |false=>unfold St.get;rw[Xq a1 i hi,Xq a2 i hi]
 ·cases hi:sH k kh with
  |true=>exact List.map_inj_left.1 h3 k (Qy.1 hi)
  |false=>rw[Xq a3 k hi,Xq a4 k hi]
def zn2(P:AcO)(E:TE)(A:xF)(all:List Oper)(K:St->Prop)(N:Array Bool->St->Prop)(listed:Array Bool)(σ:St):Prop:=
 match Region.ready .any all.toArray listed with
  |[]=>K σ
  |r=>match Gd (zcH E A all listed) r with
   |some i=>Ap all i λo=>zeQ P E A all o σ (N (listed.setIfInBounds i true))
   |none=>match Gd (zcI E A all listed σ) r with
    |some i=>Ap all i λo=>ztR P E A all o σ (N (listed.setIfInBounds i true))
    |none=>znU (λi=>Ap all i λo=>Ay P E A all o σ (N (listed.setIfInBounds i true))) r
theorem zX{all:List Oper}{K:St->Prop}(hK:WS K){fuel:Nat}{N:Array Bool->St->Prop}(ih:∀l σ,N l σ->Ux P E A all K fuel l σ){listed:Array Bool}{σ:St}(h:zn2 P E A all K N listed σ):Ux P E A all K (fuel+1) listed σ:=by
  have ihK:∀l,WS (Ux P E A all K fuel l):=λl=>aN hK fuel l
  unfold zn2 at h
  split at h
  ·rename_i hr
   exact⟨λ_=>h,λi hi=>by rw[hr]at hi;cases hi⟩
  ·rename_i hnil
   split at h
   ·rename_i i hf
    obtain⟨him,hc⟩:=Ys hf;unfold Ap at h
    unfold zcH at hc
    cases ho:all[i]? with
    |none=>rw[ho]at h;exact h.elim
    |some oi=>
     rw[ho]at h hc
     simp only[If]at h hc
     obtain⟨hq,hg⟩:=hc
     have h':zeQ P E A all oi σ (Ux P E A all K fuel (listed.setIfInBounds i true)):=VY h (λσ h=>by
      obtain⟨d,q1,q2⟩:=nW hq (gJ (.refl σ)) h;exact q2 _ (ih _ _ q1)) λσ h=>ih _ _ h
     obtain⟨d,q1,q2⟩:=Ow hq (ihK _) h';refine Sd hK ho hq fuel listed σ (λj oj hj hne hun hno=> ?_) him q1 q2
     have:=kO hg j oj hj (by omega) (by rw[Aat];exact hun) hno
     exact⟨this.1,.inl this.2⟩
   ·split at h
    ·rename_i i hf
     obtain⟨him,hc⟩:=Ys hf;unfold Ap at h
     unfold zcI at hc
     cases ho:all[i]? with
     |none=>rw[ho]at h;exact h.elim
     |some oi=>
      rw[ho]at h hc
      simp only[If]at h hc
      obtain⟨⟨hq,hp⟩,hg⟩:=hc;have hpure:∀x∈oi.op.operands,(σ.ev x).ref=none:=λx hx=>oU.1 (Aav.1 hp x (by simpa using hx))
      have h':∃d,jS P E A all oi d σ/\d.ref=none/\Ux P E A all K fuel (listed.setIfInBounds i true) (σ.putO oi.dst d):=by
       rcases zcM h with⟨hw,σ',hl,hy⟩|⟨hw,σ',hl,hn⟩
       ·obtain⟨d,q1,q2⟩:=nW (σ':=σ) hq (gJ hl.symm) hy
        cases hd:dU d with
        |false=>rw[hd]at q1;exact q1.elim
        |true=>
         rw[hd,AI]at q1
         exact⟨d,.inl ⟨hw,q2⟩,oU.1 hd,ihK _ _ _ (hl.symm.putO _ _) (ih _ _ q1)⟩
       ·exact⟨.tup [],.inr ⟨hw,rfl⟩,rfl,ihK _ _ _ (hl.symm.putO _ _) (ih _ _ hn)⟩
      obtain⟨d,q1,q2,q3⟩:=h';refine Sd hK ho hq fuel listed σ (λj oj hj hne hun hno=> ?_) him q1 q3
      have:=kO hg j oj hj (by omega) (by rw[Aat];exact hun) hno
      exact⟨this.1,.inr ⟨hpure,q2⟩⟩
    ·refine⟨λh0=>(hnil h0).elim,λi hi=> ?_⟩
     have h1:=Ox h i hi;unfold Ap at h1⊢
     cases ho:all[i]? with
     |none=>rw[ho]at h1;exact h1.elim
     |some o=>
      rw[ho]at h1
      simp only at h1⊢
      unfold Ay at h1⊢
      split at h1
      ·rename_i hq
       exact VY h1 (λσ h=>by
        obtain⟨d,q1,q2⟩:=nW hq (gJ (.refl σ)) h;exact q2 _ (ih _ _ q1)) λσ h=>ih _ _ h
      ·rename_i hq
       exact U2 (X:=none) (λs d e=>by cases e) (σ:=σ) (.refl σ) (λs d e=>by cases e) (λs d e=>by cases e) hq h1 λτ τ1 q1 _ q3=>ihK _ _ _ q1 (ih _ _ q3)
end
end Go.Proofs.YtdnmkinmcdihnaaGreatDoor
namespace Go.Proofs.YtdnmkinmcdihnaaGreatDoor
open Go.RowKit
variable[Lo]
section
variable {P:AcO}{E:TE}{A:xF}{b0:Yo}{w w':World}{S S':Nat->Prop}{pl pl':Nat->Value}{N:Nat}{σ σ':St}{a:Act}{v:Value}{d:D}{o:Oper}
theorem aO(k:Nat):∀(l:AcZ) {o:yE},zW k (Dy σ l)=some o->zW k σ.hp=some o
 |[],o,h=>by cases h
 |j::r,o,h=>by
  unfold Dy at h
  cases ho:σ.ob j with
  |none=>rw[ho]at h;exact aO k r h
  |some o'=>
   rw[ho]at h
   simp only[xM]at h
   split at h
   ·rename_i e;subst e;injection h with h;subst h;exact ho
   ·exact aO k r h
theorem za1(i:Nat):∀(l:AcZ),zW i (l.map λj=>(j,σ.get j))=some (σ.get i)\/zW i (l.map λj=>(j,σ.get j))=none
 |[]=> .inr rfl
 |j::r=>by
  rw[Aaq,xM];split
  ·rename_i e;subst e;exact .inl rfl
  ·exact za1 i r
theorem tF.keep(m:tF P b0 N σ a w S pl)(L:AcZ×AcZ):tF P b0 N (σ.keep L) a w S pl where
 dz:=m.dz
 sz:=m.sz
 fr:=λi=>by
  unfold St.get St.keep;rcases za1 (σ:=σ) i L.1 with h|h
  ·rw[h];exact m.fr i
  ·rw[h];exact tD
 hp:=λk o h=>m.hp k o (aO k _ h)
 lt:=m.lt
 src:=m.src
 priv:=λk o b h=>m.priv k o b (aO k _ h)
 inj:=λk k' o o' b h1 h2=>m.inj k k' o o' b (aO k _ h1) (aO k' _ h2)
 below:=m.below
 stay:=m.stay
 gok:=m.gok
theorem DG(m:tF P b0 N σ a w S pl)(k off:Nat):∃S',tF P b0 N (zcJ σ k off) a w S' pl:=by
 unfold zcJ;cases Nat.beq off 999999 with
 |false=>obtain⟨S',_,m'⟩:=Gb m k off;exact⟨S',m'⟩
 |true=>
  rw[AI];split
  ·rename_i o ho
   cases hf:o.flatB with
   |false=>exact⟨S,m⟩
   |true=>
    have hfl:o.flat:=by
     cases o with
     |cells cs=>exact λd hd=>oU.1 (Aav.1 hf d hd)
     |row _ _ _=>trivial
     |mp _ _ _=>trivial
     |val cs=>exact λd hd=>oU.1 (Aav.1 hf d hd)
    exact⟨_,m.pub ho hfl⟩
  ·exact⟨S,m⟩
theorem El{L:AcZ×AcZ}{K:St->Prop}(h:headD A L σ K)(m:Mt P b0 N σ a w):∃σ',K σ'/\Mt P b0 N σ' a w:=by
 obtain⟨S,pl,m⟩:=m;unfold headD at h
 simp only at h
 have hp:∀(l:List (Nat×Nat)) (σ:St) (S:Nat->Prop),tF P b0 N σ a w S pl->∃S',tF P b0 N (WO l σ) a w S' pl:=by
  intro l
  induction l with
  |nil=>exact λσ S m=>⟨S,m⟩
  |cons x r ih=>exact λσ S m=>let⟨S1,m1⟩:=DG m x.1 x.2;ih _ _ m1
 have hn:∀(l:List (Nat×(Nat×(AcN×Ty)))) (σ:St) (S:Nat->Prop) (pl:Nat->Value),tF P b0 N σ a w S pl->∃pl',tF P b0 N (Dz l σ) a w S pl':=by
  intro l
  induction l with
  |nil=>exact λσ S pl m=>⟨pl,m⟩
  |cons x r ih=>exact λσ S pl m=>let⟨pl1,m1,_⟩:=zaR m x.1 x.2.1 x.2.2.1 x.2.2.2;ih _ _ _ m1
 obtain⟨S1,m1⟩:=hp A.pubs σ S m;obtain⟨pl1,m2⟩:=hn A.nils _ _ _ m1;obtain⟨σ',ds',S',hK,_,m',_⟩:=pL h m2;exact⟨_,hK,S',pl1,m'.keep L⟩
theorem zcO(F:vE P E){all:List Oper}{K:Ex->St->Prop}(hd:XW A.n all=true)(fuel:Nat)(listed:Array Bool)(σ:St)(a:Act)(w:World)(h:Dx P E A all (K .normal) fuel listed σ)(m:Mt P b0 A.n σ a w):wpAny P .any all.toArray (QK P b0 A.n K) fuel listed a w:=by
 have hK:WS λσ'=>∃σ'',tC σ' σ''/\K .normal σ'':=λσ1 σ2 hl ⟨σ'',h1,h2⟩=>⟨σ'',hl.symm.trans h1,h2⟩
 have h':=zn1 (K':=λσ'=>∃σ'',tC σ' σ''/\K .normal σ'') (λσ hk=>⟨σ,.refl _,hk⟩) hK _ _ _ h
 exact Ov (b0:=b0) (Q:=QK P b0 A.n K) F hd (λσ1 a1 w1 ⟨σ'',hl,hk⟩ m1=>(.inl ⟨.normal,σ'',rfl,hk,m1.like hl⟩)) _ _ σ _ _ h' m
theorem Em(F:vE P E){all:List Oper}{K:Ex->St->Prop}{σ0:St}(hd:XW A.n all=true):∀(fuel:Nat) (listed:Array Bool) (σ:St) (a:Act) (w:World),zgY P E A all (K .normal) (λu=>K (.thr u) σ0) fuel listed σ->Mt P b0 A.n σ a w->wpAny P .any all.toArray (QK P b0 A.n K) fuel listed a w
 |0,listed,σ,a,w,h,m=>zcO F hd 0 listed σ a w h m
 |fuel+1,listed,σ,a,w,h,m=>by
  unfold zgY at h
  split at h
  ·exact zcO F hd _ listed σ a w h m
  ·split at h
   ·rename_i i hf
    obtain⟨him,hc⟩:=Ys hf;unfold Ap at h
    unfold znV at hc
    cases ho:all[i]? with
    |none=>rw[ho]at h;exact h.elim
    |some oi=>
     rw[ho]at h hc
     simp only[If]at h hc
     obtain⟨⟨⟨hq,hgd⟩,hg⟩,hsel⟩:=hc;have hdst:∀i,oi.dst=some i->i<A.n:=Yr hd oi (AaS ho)
     have hwant:Region.wanted oi (yielded all.toArray a.tmps)=true:=by
      unfold Region.wanted;rw[Option.isNone_iff_eq_none.1 hgd]
     have fin:∀(u:Value) (d:D),(∀w,(execOp a.eval oi).run P w=.ok (.value u) w)->(∀S pl,tF P b0 A.n σ a w S pl->Rd w S pl u d)->zgY P E A all (K .normal) (λu=>K (.thr u) σ0) fuel (listed.setIfInBounds i true) (σ.putO oi.dst d)->wpAny P .any all.toArray (QK P b0 A.n K) (fuel+1) listed a w:=λu d hrun hrd h=>by
      obtain⟨S,pl,m⟩:=m;refine wpAny_first (by simpa using ho) (λj o cs b hj hs=> ?_) (λc a w hq=>by rcases hq with⟨x,σ,e,_⟩|⟨u,σ,e,h1,h2,h3⟩<;>first|cases e;done|exact .inr ⟨u,σ,e,h1,by rw[<-h2];cases oi.dst<;>rfl,h3⟩) fuel listed a w (λj oj hj hne hun hno=> ?_) him (.inl ⟨hwant,hrun⟩) ?_
      ·have:=Aav.1 hsel o (AaS (by simpa using hj))
       rw[hs]at this;cases this
      ·exact(kO hg j oj (by simpa using hj) (by omega) (by rw[Aat];exact hun) hno).1
      ·exact Em F hd fuel _ _ _ _ h ⟨S,pl,m.putO hdst (hrd S pl m)⟩
     have pt:∀t k off,σ.get t=.ptr k off->∃b,a.eval (.tmp t)=.pointer (some ⟨b,off,none⟩)/\∀S pl,tF P b0 A.n σ a w S pl->pl k=.pointer (some ⟨b,0,none⟩):=λt k off hget=>by
      obtain⟨S,pl,m⟩:=m;have hx:=m.fr t;rw[hget]at hx
      obtain⟨b,hp,hv⟩:=hx;refine⟨b,hv,λS' pl' m'=> ?_⟩
      have hx':=m'.fr t;rw[hget]at hx'
      obtain⟨b',hp',hv'⟩:=hx';rw[hv]at hv'
      injection hv' with e;injection e with e;injection e with e
      rw[hp',e]
     split at hq
     ·rename_i T t f hop
      split at hq
      ·rename_i k off hget
       obtain⟨b,hev,hpl⟩:=pt t k off hget;unfold Ei at h
       rw[hop]at h
       simp only at h
       unfold Dj at h
       split at h
       ·rename_i δ hfo
        rw[show σ.ev (.tmp t)=σ.get t from rfl,hget]at h
        simp only at h
        exact fin (.pointer (some ⟨b,off+δ,none⟩)) (.ptr k (off+δ)) (λw=>by
         unfold execOp;rw[hop];simp only[hev,IT,H6 F hfo,No,TO]) (λS pl m=>⟨b,hpl S pl m,rfl⟩) h
       ·exact h.elim
      ·cases hq
     ·rename_i t hop
      split at hq
      ·rename_i k off hget
       obtain⟨b,hev,hpl⟩:=pt t k off hget;unfold Ei at h
       rw[hop]at h
       simp only at h
       rw[show σ.ev (.tmp t)=σ.get t from rfl,hget]at h
       exact fin (.pointer (some ⟨b,off,none⟩)) (.ptr k off) (λw=>by
        unfold execOp;rw[hop];simp only[hev,TO]) (λS pl m=>⟨b,hpl S pl m,rfl⟩) h
      ·cases hq
     ·rename_i t hop
      split at hq
      ·rename_i k off hget
       obtain⟨b,hev,hpl⟩:=pt t k off hget;unfold Ei at h
       rw[hop]at h
       simp only at h
       rw[show σ.ev (.tmp t)=σ.get t from rfl,hget]at h
       exact fin (.pointer (some ⟨b,off,none⟩)) (.ptr k off) (λw=>by
        unfold execOp;rw[hop];simp only[hev,TO,IT,No]) (λS pl m=>⟨b,hpl S pl m,rfl⟩) h
      ·cases hq
     ·cases hq
   ·split at h
    ·obtain⟨S,pl,m⟩:=m
     exact Ov (b0:=b0) (Q:=QK P b0 A.n K) F hd (λσ1 a1 w1 ⟨σ'',hl,hk⟩ m1=>(.inl ⟨.normal,σ'',rfl,hk,m1.like hl⟩)) _ _ _ _ _ h ⟨S,pl,m.keep _⟩
    split at h
    ·exact zcO F hd _ listed σ a w h m
    ·split at h
     ·rename_i hr
      exact⟨λ_=> .inl ⟨.normal,σ,rfl,h,m⟩,λi hi=>by rw[hr]at hi;cases hi⟩
     ·rename_i hnil
      refine⟨λh0=>(hnil h0).elim,λi hi=> ?_⟩
      have h1:=Ox h i hi;unfold Ap at h1
      unfold wpOp;simp only[Ab4];cases ho:all[i]? with
      |none=>rw[ho]at h1;exact h1.elim
      |some o=>
       rw[ho]at h1
       simp only at h1⊢
       have hdst:∀i,o.dst=some i->i<A.n:=Yr hd o (AaS ho);rcases Zs h1 σ (.refl σ) m with⟨hw,σ',hl,hy⟩|⟨hw,σ',hl,hn⟩
       ·rw[As hw]
        left;obtain⟨S,pl,m'⟩:=m.like hl;exact znT F m' hy (λd' τ v w' S' pl' hk hm hv=>Em F hd fuel _ _ _ _ hk ⟨S',pl',hm.putO hdst hv⟩) λu w' ht hb=> .inr ⟨u,σ0,rfl,ht,m'.dz,hb⟩
       ·rw[An (by rw[hw];simp)]
        obtain⟨S,pl,m'⟩:=m.like hl;exact Em F hd fuel _ _ _ _ hn ⟨S,pl,m'.putO hdst LW⟩
theorem za2(F:vE P E){id:Nat}{ops:Array Oper}{draw:Bool}{c:Nat}{K:Ex->St->Prop}(h:den P E A (.region id ops draw) c σ K)(m:Mt P b0 A.n σ a w):(Code.region id ops draw).wp P (QK P b0 A.n K) a w:=by
 unfold den at h
 cases hd:XW A.n ops.toList with
 |false=>rw[hd]at h;exact h.elim
 |true=>
  rw[hd]at h
  cases draw with
  |false=>
   refine wp_region ?_;have hl:=wpOps_eq_wpList (P:=P) (ops:=ops) (Q:=QK P b0 A.n K) ops.toList 0 (λj=>by simp)
   rw[show List.range ops.size=List.range' 0 ops.toList.length by simp[List.range_eq_range'],hl]
   exact zg3 F (λσ a w hk m=> .inl ⟨.normal,σ,rfl,hk,m⟩) (λe a w h=> .inr h) ops.toList σ a w hd h m
  |true=>
   simp only at h
   refine wp_region_any F.mixed ?_
   have m':Mt P b0 A.n σ a {w with drawn:=w.drawn+1}:=by
    obtain⟨S,pl,m⟩:=m;exact⟨S,pl,m.later (w':=w.drew) ⟨rfl,rfl,rfl,IN _,λ_ _=>rfl⟩⟩
   have:=Em F hd _ _ σ _ _ h m';simpa using this
theorem zcP(F:vE P E):∀(c:Code) (cur:Nat) (σ:St) (K:Ex->St->Prop) (a:Act) (w:World),den P E A c cur σ K->Mt P b0 A.n σ a w->c.wp P (QK P b0 A.n K) a w:=by
 intro c
 induction c with
 |skip=>intro cur σ K a w h m;exact wp_skip (.inl ⟨.normal,σ,rfl,h,m⟩)
 |region id ops draw=>intro cur σ K a w h m;exact za2 F h m
 |seq x y ihx ihy=>
  intro cur σ K a w h m;unfold den at h
  refine wp_seq (wp_mono (ihx cur σ _ a w h m) λe a w h=> ?_)
  rcases h with⟨x,σ',he,hk,m'⟩|⟨u,σ',rfl,hk,dz,hb⟩
  case inr=>exact .inr ⟨u,σ',rfl,hk,dz,hb⟩
  cases e<;>simp only[Ni,Option.some.injEq,reduceCtorEq]at he<;>subst he
  ·exact ihy cur σ' K a w hk m'
  ·exact .inl ⟨_,σ',rfl,hk,m'⟩
  ·exact .inl ⟨_,σ',rfl,hk,m'⟩
 |cond x y z ihy ihz=>
  intro cur σ K a w h m;unfold den at h
  split at h
  ·rename_i t hx
   have m0:=m;obtain⟨S,pl,m⟩:=m;have hv:a.eval x=.bool t:=by have:=tB m x;rw[hx]at this;exact(this.flat (d:=.bool t) rfl).bool_inv
   have hlk:tC σ (σ.know x t):=by
    cases x with
    |tmp s=>exact QA hx
    |_=>exact .refl σ
   cases t
   ·exact wp_cond_false hv (ihz cur _ K a w h (m0.like hlk))
   ·exact wp_cond_true hv (ihy cur _ K a w h (m0.like hlk))
  ·exact h.elim
 |block id body ih=>
  intro cur σ K a w h m;unfold den at h
  refine wp_block (wp_mono (ih id σ _ a w h m) λe a w h=> ?_)
  rcases h with⟨x,σ',he,hk,m'⟩|⟨u,σ',rfl,hk,dz,hb⟩
  case inr=>exact .inr ⟨u,σ',rfl,hk,dz,hb⟩
  cases e<;>simp only[Ni,Option.some.injEq,reduceCtorEq]at he<;>subst he
  ·exact .inl ⟨_,σ',rfl,hk,m'⟩
  ·rename_i j
   simp only at hk
   unfold Exit.inBlock
   by_cases hj:j=id
   ·rw[xA.2 hj,AI]at hk
    simp only[hj,if_true];exact .inl ⟨_,σ',rfl,hk,m'⟩
   ·rw[fN hj,Aag]at hk
    simp only[hj,if_false];exact .inl ⟨_,σ',rfl,hk,m'⟩
  ·exact .inl ⟨_,σ',rfl,hk,m'⟩
 |loop body ih=>
  intro cur σ K a w h m;unfold den at h
  obtain⟨σ',⟨n,hn⟩,m'⟩:=El h m;refine wp_loop_rounds n ?_;clear h m
  induction n generalizing σ' a w with
  |zero=>exact hn.elim
  |succ n ihn=>
   rw[rounds_succ];unfold DA at hn
   refine wp_mono (ih cur σ' _ a w hn m') λe a w h=> ?_
   rcases h with⟨x,σ'',he,hk,m''⟩|⟨u,σ'',rfl,hk,dz,hb⟩
   case inr=>exact .inr ⟨u,σ'',rfl,hk,dz,hb⟩
   cases e<;>simp only[Ni,Option.some.injEq,reduceCtorEq]at he<;>subst he
   ·obtain⟨σ3,hk,m3⟩:=El hk m''
    exact ihn a w σ3 m3 hk
   ·exact .inl ⟨_,σ'',rfl,hk,m''⟩
   ·exact .inl ⟨_,σ'',rfl,hk,m''⟩
 |exit id=>intro cur σ K a w h m;exact wp_exit (.inl ⟨.exit id,σ,rfl,h,m⟩)
 |ret=>intro cur σ K a w h m;exact wp_ret (.inl ⟨.ret,σ,rfl,h,m⟩)
 |_=>intro cur σ K a w h m;exact h.elim
def zqD(P:AcO)(E:TE)(A:xF)(b:Code)(c:Nat)(K:Ex->St->Prop):Ex->St->Prop:=λe σ=>match e with
 | .normal=>den P E A b c σ K
 | .exit id=>K (.exit id) σ
 | .ret=>K .ret σ
 | .thr u=>K (.thr u) σ
def zP(id:Nat)(K:Ex->St->Prop):Ex->St->Prop:=λe σ=>match e with
 | .normal=>K .normal σ
 | .exit j=>bif Nat.beq j id then K .normal σ else K (.exit j) σ
 | .ret=>K .ret σ
 | .thr u=>K (.thr u) σ
def zks(body:St->(Ex->St->Prop)->Prop)(A:xF)(L:AcZ×AcZ)(n:Nat)(K:Ex->St->Prop):Ex->St->Prop:=λe σ=>match e with
 | .normal=>headD A L σ λσ=>DA body A L n σ K
 | .exit id=>K (.exit id) σ
 | .ret=>K .ret σ
 | .thr u=>K (.thr u) σ
def sub:AcZ->Code->Code
 |[],c=>c
 |0::p,.seq a _=>sub p a
 |_::p,.seq _ b=>sub p b
 |0::p,.cond _ a _=>sub p a
 |_::p,.cond _ _ b=>sub p b
 |_::p,.block _ b=>sub p b
 |_::p,.loop b=>sub p b
 |_,_=> .skip
def LZ:Nat->AcT->List (Nat×D)
 |_,[]=>[]
 |i,d::ds=>(i,d)::LZ (i+1) ds
def St.init(args:AcT):St:=⟨LZ 0 args,[]⟩
def QC(E:TE)(σ:St):List ResultVar->AcT
 |[]=>[]
 | .tmp t::rs=>σ.get t::QC E σ rs
 | .cell t T::rs=>(match zW T E.zs,aM σ (σ.get t)with
  |some (_,zs),some cs=>cs.take zs.length
  |_,_=>[])++QC E σ rs
def zsI(E:TE)(σ:St):ResultVar->Option D
 | .tmp t=>bif dU (σ.get t)then some (σ.get t)else none
 | .cell t T=>match zW T E.zs,aM σ (σ.get t)with
  |some (true,zs),some cs=>bif Nat.ble zs.length cs.length&&(cs.take zs.length).all dU then some (.agg (cs.take zs.length))else none
  |some (false,_),some (d::_)=>bif dU d then some d else none
  |_,_=>none
def za3(E:TE)(σ:St):List ResultVar->Option AcT
 |[]=>some []
 |r::rs=>match zsI E σ r,za3 E σ rs with
  |some d,some ds=>some (d::ds)
  |_,_=>none
def zsJ:AcT->D
 |[d]=>d
 |ds=> .tup ds
def zqE(E:TE)(rs:List ResultVar)(R:D->Prop)(e:Ex)(σ:St):Prop:=match e with
 | .exit _=>False
 | .thr _=>False
 |_=>rA 12 σ (QC E σ rs) λ_ σ=>match za3 E σ rs with
  |some ds=>R (zsJ ds)
  |none=>False
def fnD(P:AcO)(E:TE)(A:xF)(rs:List ResultVar)(body:Code)(args:AcT)(R:D->Prop):Prop:=den P E A body 0 (St.init args) (zqE E rs R)
theorem DH(j:Nat):∀(ds:AcT) (i:Nat),zW j (LZ i ds)=if i<=j then ds[j-i]? else none
 |[],i=>by simp[LZ,zW]
 |d::ds,i=>by
  unfold LZ;rw[xM,DH j ds (i+1)]
  by_cases h1:i=j
  ·subst h1;simp
  ·rw[An h1]
   by_cases h2:i<=j
   ·rw[As (by omega),As h2,show j-i=(j-(i+1))+1 by omega,Acm]
   ·rw[An (by omega),An h2]
theorem L0(args:AcT)(i:Nat):(St.init args).get i=D.or args[i]? :=by
 unfold St.get St.init;rw[DH];simp
def XO(a:Act):ResultVar->Sem Value
 | .tmp t=>pure (a.tmps.getD t undef)
 | .cell x t=>do loadVar t (<-asAddr (a.tmps.getD x undef))
theorem zcQ(F:vE P E)(m:tF P b0 N σ a w S pl):∀(rs:List ResultVar) (ds:AcT),za3 E σ rs=some ds->∃vs:List Value,(rs.mapM (XO a)).run P w=.ok vs w/\xK (Rp w S) vs ds
 |[],ds,h=>by injection h with h;subst h;exact⟨[],by simp,.nil⟩
 |r::rs,ds,h=>by
  unfold za3 at h
  split at h
  ·rename_i d ds' h1 h2
   injection h with h;subst h
   obtain⟨vs,q1,q2⟩:=zcQ F m rs ds' h2
   have one:∃u,(XO a r).run P w=.ok u w/\Rp w S u d:=by
    cases r with
    |tmp t=>
     unfold zsI at h1
     simp only at h1
     cases hn:dU (σ.get t)with
     |false=>rw[hn]at h1;cases h1
     |true=>rw[hn]at h1;injection h1 with h1;subst h1;exact⟨_,by simp[XO],(m.fr t).flat (oU.1 hn)⟩
    |cell x T=>
     unfold zsI at h1
     simp only at h1
     split at h1
     ·rename_i zs cs hz hc
      cases hb:Nat.ble zs.length cs.length&&(cs.take zs.length).all dU with
      |false=>rw[hb]at h1;cases h1
      |true=>
       rw[hb]at h1;injection h1 with h1;subst h1
       simp only[If]at hb
       obtain⟨i,z,u,hi,hz',hsz,hu,hag,hzb⟩:=(F.zs T true zs hz).ex;obtain⟨b,off,hv,hcell⟩:=MG m (m.fr x) hc
       obtain⟨vs,e1,e2⟩:=zcu (Rd w S pl) b (cs.take zs.length) off λj d hd=>hcell j d (by
        rw[Abs]at hd;split at hd
        ·exact hd
        ·cases hd)
       have hlen:vs.length=zs.length:=by rw[e1.len,Aak];have:=Aau hb.1;omega
       have hload:(loadCells ⟨b,off,none⟩ zs.length).run P w=.ok vs.toArray w:=by
        rw[<-hlen];refine run_loadCells_list (P:=P) w ⟨b,off,none⟩ vs λj u hu=> ?_
        have:=e2 j u hu;unfold Addr.add;split
        ·rename_i e;subst e;simpa using this
        ·exact this
       have hs:(sizeOf T).run P w=.ok zs.length w:=by simp[sizeOf,typeInfo,hi,hsz]
       have hr:=e1.flat λd hd=>oU.1 (Aav.1 hb.2 d hd)
       refine⟨.agg vs.toArray,?_,.agg _ _ (by simpa using hr.len) λj d hd=>H8 (vs:=vs.toArray) (by simpa using hr) j d hd⟩
       simp only[XO,hv,asAddr,loadVar,IT,TO,No,U1 hu,hag,if_true,hs,hload]
     ·rename_i zs d' r' hz hc
      cases hn:dU d' with
      |false=>rw[hn]at h1;cases h1
      |true=>
       rw[hn]at h1;injection h1 with h1;subst h1
       obtain⟨b,off,hv,hcell⟩:=MG m (m.fr x) hc;obtain⟨u,hu,hr⟩:=hcell 0 d' rfl;obtain⟨i,z,ud,hi,hz',hsz,hud,hag,hzb⟩:=(F.zs T false zs hz).ex;refine⟨u,?_,hr.flat (oU.1 hn)⟩
       have hld:(load ⟨b,off,none⟩).run P w=.ok u w:=by
        have:w.cell? ⟨b,off,none⟩=some u:=hu;simp only[load,Sem.run,this]
       simp only[XO,hv,asAddr,loadVar,IT,TO,No,U1 hud,hag,AaR,if_false,hld]
     ·cases h1
   obtain⟨u,e1,e2⟩:=one;exact⟨u::vs,by rw[List.mapM_cons];simp only[IT,e1,No,q1,TO],.cons e2 q2⟩
  ·cases h
def okL{α:Type}(bytes:Nat)(p:α->Prop)(xs:List α):Prop:=xs.length*bytes<=140737488355328/\∀x∈xs,p x
def okS(s:AcL):Prop:=s.size<=140737488355328
def zkt(x:zA):Prop:=xE x.var/\xE x.op/\xE x.n
def zn3(x:zO):Prop:=okS x.name/\xE x.lo/\xE x.hi
def zn4(x:zF):Prop:=xE x.kind/\xE x.n/\okL 8 xE x.vars/\okL 8 xE x.consts/\okL 24 (okL 8 xE) x.rows/\okL 24 zkt x.lits
def zsf(x:zE):Prop:=xE x.goal/\xE x.var/\okL 32 zn3 x.vars/\okL 112 zn4 x.cons
def zg5(x:zR):Prop:=xE x.kind/\xE x.con/\okL 24 zkt x.clause
def En:(t:Ty)->t.den->Prop
 | .int,n=>xE n
 | .bool,_=>True
 | .str,s=>okS s
 | .tok,x=>xE x.kind/\xE x.at_/\okS x.text
 | .lit,x=>zkt x
 | .var,x=>zn3 x
 | .con,x=>zn4 x
 | .mdl,x=>zsf x
 | .step,x=>zg5 x
 | .term,x=>xE x.v/\xE x.times
 | .ans,x=>xE x.verdict/\okL 8 xE x.values/\okL 40 zg5 x.proof
 | .list t,xs=>okL t.bytes (En t) xs
 | .pr a b,x=>En a x.1/\En b x.2
 | .byte,_=>True
 | .mk _ t,x=>En t x
theorem zcR{α:Type}[xU α]{v:Value}{xs:List α}{p:α->Prop}(h:fE w S v xs)(hp:∀cs x,xU.rd w S cs x->p x):okL (xU.bytes α) p xs:=by
 obtain⟨A,c,rfl,h1⟩:=sM h;refine⟨h1.bytes,λx hx=> ?_⟩
 obtain⟨i,hi,rfl⟩:=Aas hx;obtain⟨b,o,cs,_,_,hr,_⟩:=Qo h hi;exact hp _ _ hr
theorem Se{α:Type}[xU α]{v:Value}{xs:List α}{p:α->Prop}(h:Oc w S [v] xs)(hp:∀cs x,xU.rd w S cs x->p x):okL (xU.bytes α) p xs:=by
 obtain⟨A,c,rfl,_,h⟩:=zey h;exact zcR h hp
theorem DI{cs:List Value}{x:Int}(h:xU.rd w S cs x):xE x:=h.2
theorem zg6{cs:List Value}{x:zA}(h:xU.rd w S cs x):zkt x:=h.2
theorem zn5{cs:List Value}{x:zO}(h:xU.rd w S cs x):zn3 x:=h.2
theorem zqF{cs:List Value}{x:AcP}(h:xU.rd w S cs x):okL 8 xE x:=by
 obtain⟨A,c,rfl,h⟩:=h;exact zcR (α:=Int) ⟨_,rfl,A,c,rfl,h⟩ λ_ _=>DI
theorem zn6{cs:List Value}{x:zF}(h:xU.rd w S cs x):zn4 x:=by
 obtain⟨v1,v2,v3,v4,rfl,a,b,h1,h2,h3,h4⟩:=h;exact⟨a,b,Se h1 λ_ _=>DI,Se h2 λ_ _=>DI,Se h3 λ_ _=>zqF,Se h4 λ_ _=>zg6⟩
theorem zsK{cs:List Value}{x:zE}(h:xU.rd w S cs x):zsf x:=by
 obtain⟨v1,v2,rfl,a,b,h1,h2⟩:=h;exact⟨a,b,Se h1 λ_ _=>zn5,Se h2 λ_ _=>zn6⟩
theorem zku{cs:List Value}{x:zR}(h:xU.rd w S cs x):zg5 x:=by
 obtain⟨v,rfl,a,b,h1⟩:=h;exact⟨a,b,Se h1 λ_ _=>zg6⟩
theorem Gg{w:World}:(t:Ty)-> {S:Nat->Prop}-> {x:t.den}-> {cs:List Value}->xU.rd w S cs x->En t x
 | .int,S,x,cs,h=>by exact DI h
 | .bool,S,x,cs,h=>trivial
 | .byte,S,x,cs,h=>trivial
 | .str,S,x,cs,h=>by exact h.2
 | .tok,S,x,cs,h=>by exact h.2
 | .lit,S,x,cs,h=>by exact zg6 h
 | .var,S,x,cs,h=>by exact zn5 h
 | .con,S,x,cs,h=>by exact zn6 h
 | .mdl,S,x,cs,h=>by exact zsK h
 | .step,S,x,cs,h=>by exact zku h
 | .term,S,x,cs,h=>by exact h.2
 | .ans,S,x,cs,h=>by
  obtain⟨v1,v2,rfl,a,h1,h2⟩:=h;exact⟨a,Se h1 λ_ _=>DI,Se h2 λ_ _=>zku⟩
 | .pr a b,S,x,cs,h=>by
  obtain⟨c1,c2,rfl,h1,h2⟩:=h;exact⟨Gg a h1,Gg b h2⟩
 | .list t,S,xs,cs,h=>by
  obtain⟨A,c,rfl,h⟩:=h;have:=zcR (α:=t.den) (p:=En t) ⟨_,rfl,A,c,rfl,h⟩ λ_ _ h=>Gg t h
  rw[<-Ty.bytes_eq]at this
  exact this
 | .mk k t,S,x,cs,h=>Gg (S:=RO k w S) t h
theorem zn7{t:Ty}{xs:List t.den}{cs:List Value}{S':Nat->Prop}(h: @xU.rd _ (@xU.list _ (Ty.rep t)) w S' cs xs):En (.list t) xs:=by
 obtain⟨A,c,rfl,h⟩:=h;have:=zcR (α:=t.den) (p:=En t) ⟨_,rfl,A,c,rfl,h⟩ λ_ _ h=>Gg t h
 rw[<-Ty.bytes_eq]at this
 exact this
def okC:D->Prop
 | .int k n=>inK k n
 | .str s=>okS s
 | .sl t xs=>En (.list t) xs
 |_=>True
def MN:D->Prop
 | .agg cs=>∀c∈cs,okC c
 | .iptr cs _=>∀c∈cs,okC c
 |d=>okC d
theorem DJ(h:Rp w S v d):okC d:=by
 cases h
 case int k n h=>exact h
 case str s h=>exact h
 case sl t xs h=>
  obtain⟨cs,e,hr⟩:=h;exact Gg (.list t) hr
 all_goals trivial
theorem zg7(h:Rp w S v d):MN d:=by
 cases d
 case agg cs=>
  obtain⟨vs,_,_,hr⟩:=h.agg_inv;intro c hc;obtain⟨i,hi,rfl⟩:=Aas hc;exact DJ (hr i _ (Aal hi))
 case iptr cs off=>
  obtain⟨b,_,_,hr⟩:=h.iptr_inv;intro c hc;obtain⟨i,hi,rfl⟩:=Aas hc;obtain⟨u,_,hr⟩:=hr i _ (Aal hi);exact DJ hr
 all_goals exact DJ h
theorem zcS(F:vE P E){f:AcM}{fn:Func}{body:Code}{args:AcT}{r:D}(hf:P.funcs[f]? =some fn)(hb:fn.body=some body)(hn:A.n=fn.ntmps)(hle:args.length<=fn.ntmps)
  (h:(∀d∈args,MN d)->fnD P E A fn.results.toList body args λd=>d=r):oT P f args r:=by
 intro w S vs hS hl hv hg
 have hok:∀d∈args,MN d:=λd hd=>by
  obtain⟨i,hi,rfl⟩:=Aas hd;exact zg7 (hv i _ (Aal hi))
 refine calls_of_wp hf hb ?_
 have m0:tF P ⟨w,S,λ_=>False,λ_=>undef⟩ A.n (St.init args) {tmps:=vs++Array.replicate (fn.ntmps-vs.size) undef,defers:=[]} w S (λ_=>undef):=by
  refine⟨rfl,by simp;omega,λi=> ?_,(λk o h=>by cases h),hS,λb h=> .inl h,(λk o b h=>by cases h),(λk k' o o' b h=>by cases h),.of (Below.refl _ _),λ_ _=>rfl,hg⟩
  rw[L0];cases hi:args[i]? with
  |none=>exact tD
  |some d=>
   have hlt:i<vs.size:=by rw[hl];exact(AaB.1 hi).1
   have:=hv i d hi;rw[Aaj,Ab5 hlt,<-Aaj];exact this.rd
 refine wp_mono (zcP F body 0 _ _ _ w (h hok) ⟨_,_,m0⟩) λe a w' hq=> ?_
 rcases hq with⟨x,σ,he,hk,S',pl,m⟩|⟨u,σ,rfl,hk,dz,hb⟩
 case inr=>exact hk.elim
 have fin:(rA 12 σ (QC E σ fn.results.toList) λ_ σ=>match za3 E σ fn.results.toList with
   |some ds=>zsJ ds=r
   |none=>False)->a.defers=[]/\∃v,(results fn a.tmps).run P w'=.ok v w'/\∃v',Ending.returned v=.returned v'/\Rp w' (λb=>S b\/(w.heap.size<=b/\b<w'.heap.size)) v' r/\Below w.heap.size w w':=by
  intro hk;refine⟨m.dz,?_⟩;obtain⟨σ2,_,S2,hk,hS2,m2,_⟩:=pL hk m;split at hk
  ·rename_i ds' hds
   have hr:=hk;obtain⟨us,q1,hrd⟩:=zcQ F m2 _ ds' hds
   have hsrc:∀b,S2 b->S b\/(w.heap.size<=b/\b<w'.heap.size):=λb hb=>by
    rcases m2.src b hb with h|h
    ·exact .inl h
    ·exact .inr ⟨h.resolve_left id,m2.lt b hb⟩
   have hrd':=hrd.rmono (w':=w') (λ_ _=>rfl) hsrc
   have hrun:(results fn a.tmps).run P w'=.ok (if h:us.length=1 then us[0]else .tuple us.toArray) w':=by
    have hr0:results fn a.tmps=(do let vs<-fn.results.mapM (XO a);pure (if h:vs.size=1 then vs[0]else .tuple vs)):=rfl
    rw[hr0];simp only[Acs,IT,map_eq_pure_bind,q1,No,TO,On];rfl
   refine⟨_,hrun,_,rfl,?_,m.below.below λ_=>id⟩
   rw[<-hr];have hlen:=hrd'.len;cases ds' with
   |nil=>
    rw[dif_neg (by simp at hlen;simp[hlen])]
    exact .tup _ _ (by simpa using hlen) λi d hd=>by simp at hd
   |cons d1 rest=>
    cases rest with
    |nil=>
     have h1:us.length=1:=by simpa using hlen
     rw[dif_pos h1];exact hrd'.get_ 0 _ d1 (Aal (by omega)) rfl
    |cons d2 rest=>
     rw[dif_neg (by rw[hlen];simp)]
     exact .tup _ _ (by simpa using hlen) λi d hd=>H8 (vs:=us.toArray) (by simpa using hrd') i d hd
  ·exact hk.elim
 cases e<;>simp only[Ni,Option.some.injEq,reduceCtorEq]at he<;>subst he
 ·exact fin hk
 ·exact hk.elim
 ·exact fin hk
def Ia:Nat->AcZ->List (Nat×Nat)
 |_,[]=>[]
 |i,k::r=>bif Nat.ble 1000 k&&Nat.blt k 3000 then(k,k)::Ia i r else(k,3000+i)::Ia (i+1) r
def Sf(ρ:List (Nat×Nat)):Bool:=kN (ρ.map (·.1))&&kN (ρ.map (·.2))&&ρ.all λx=> !stabK x.2||Nat.beq x.1 x.2
def Nj(E:TE)(rs:List ResultVar)(roots:AcT)(own:Bool)(R:D->List (Nat×yE)->Prop)(e:Ex)(σ:St):Prop:=match e with
 | .exit _=>False
 | .thr _=>False
 |_=>match own with
  |true=>(match rs with
   |[.tmp t]=>bif Sf (Ia 0 (reach σ.ob 400 [] (σ.get t::roots)))then R ((σ.get t).ren (Ia 0 (reach σ.ob 400 [] (σ.get t::roots)))) (gU σ.ob (Ia 0 (reach σ.ob 400 [] (σ.get t::roots))) (Ia 0 (reach σ.ob 400 [] (σ.get t::roots))))else False
   |_=>False)
  |false=>rA 12 σ (QC E σ rs) λ_ σ=>match za3 E σ rs with
   |some ds=>bif Sf (Ia 0 (reach σ.ob 400 [] roots))then R (zsJ ds) (gU σ.ob (Ia 0 (reach σ.ob 400 [] roots)) (Ia 0 (reach σ.ob 400 [] roots)))else False
   |none=>False
def fnH(P:AcO)(E:TE)(A:xF)(rs:List ResultVar)(body:Code)(args:AcT)(h:List (Nat×yE))(roots:AcT)(own:Bool)(R:D->List (Nat×yE)->Prop):Prop:=den P E A body 0 ⟨LZ 0 args,h⟩ (Nj E rs roots own R)
def okO:yE->Prop
 | .cells ds=>∀d∈ds,okC d
 | .row _ t xs=>En (.list t) xs
 | .mp kt vt es=>es.length<=140737488355328/\∀x∈es,En kt x.1/\En vt x.2
 | .val ds=>∀d∈ds,okC d
theorem zn8(h:Rd w S pl v d):okC d:=by
 cases hr:d.ref with
 |none=>exact DJ (h.flat hr)
 |some k=>cases d<;>first|trivial|(simp[D.ref]at hr)
theorem zsL(h:Rd w S pl v d):MN d:=by
 cases hr:d.ref with
 |none=>exact zg7 (h.flat hr)
 |some k=>cases d<;>first|trivial|(simp[D.ref]at hr)
theorem zsg{p:Value}{ob:yE}(h:jF w S pl p ob):okO ob:=by
 cases ob with
 |cells ds=>
  obtain⟨b,vs,T,_,_,_,h,_⟩:=h;intro d hd;obtain⟨i,hi,rfl⟩:=Aas hd;exact zn8 (h i _ (Aal hi))
 |val ds=>
  obtain⟨vs,_,_,h⟩:=h;intro d hd;obtain⟨i,hi,rfl⟩:=Aas hd;exact zn8 (h i _ (Aal hi)).1
 |row e t xs=>
  obtain⟨cs,_,hr⟩:=Og h;exact zn7 hr
 |mp kt vt es=>
  obtain⟨b,_,h0,ents,clock,_,h⟩:=h;refine⟨h0,λx hx=> ?_⟩
  obtain⟨i,hi,rfl⟩:=Aas hx;obtain⟨e,_,⟨_,_,h1⟩,⟨_,_,h2⟩⟩:=h.at (Aal hi);exact⟨Gg kt h1,Gg vt h2⟩
def zsM(E:TE)(rs:List ResultVar)(roots:AcT)(own:Bool)(R:D->List (Nat×yE)->Prop)(T:Value->Prop)(e:Ex)(σ:St):Prop:=match e with
 | .thr u=>T u
 | .normal=>Nj E rs roots own R .normal σ
 | .ret=>Nj E rs roots own R .ret σ
 | .exit i=>Nj E rs roots own R (.exit i) σ
def fnX(P:AcO)(E:TE)(A:xF)(rs:List ResultVar)(body:Code)(args:AcT)(h:List (Nat×yE))(roots:AcT)(own:Bool)(R:D->List (Nat×yE)->Prop)(T:Value->Prop):Prop:=den P E A body 0 ⟨LZ 0 args,h⟩ (zsM E rs roots own R T)
theorem zlQ{E:TE}{rs:List ResultVar}{roots:AcT}{own:Bool}{R:D->List (Nat×yE)->Prop}:zsM E rs roots own R (λ_=>False)=Nj E rs roots own R:=by
 funext e σ;cases e<;>rfl
theorem zlR{rs:List ResultVar}{roots:AcT}{own:Bool}{R:D->List (Nat×yE)->Prop}{e:Ex}{σ:St}(h:Nj E rs roots own R e σ):∃r hp',R r hp'/\Nj E rs roots own (λd h'=>d=r/\h'=hp') e σ:=by
 have norm:Nj E rs roots own R .normal σ->∃r hp',R r hp'/\Nj E rs roots own (λd h'=>d=r/\h'=hp') .normal σ:=λh=>by
  unfold Nj at h⊢
  cases own with
  |true=>
   simp only at h⊢
   split at h
   ·rename_i t _
    cases hc:Sf (Ia 0 (reach σ.ob 400 [] (σ.get t::roots)))with
    |false=>rw[hc]at h;exact h.elim
    |true=>rw[hc,AI]at h;exact⟨_,_,h,by rw[AI];exact⟨rfl,rfl⟩⟩
   ·exact h.elim
  |false=>
   simp only at h⊢
   unfold rA at h⊢
   split at h
   ·rename_i σ' ds' hp
    split at h
    ·rename_i ds hds
     cases hc:Sf (Ia 0 (reach σ'.ob 400 [] roots))with
     |false=>rw[hc]at h;exact h.elim
     |true=>rw[hc,AI]at h;exact⟨_,_,h,by simp only[hds,hc,AI,Abt]⟩
    ·exact h.elim
   ·exact h.elim
 cases e with
 |normal=>exact norm h
 |ret=>exact norm h
 |exit i=>exact h.elim
 |thr u=>exact h.elim
theorem zcT(F:vE P E){f:AcM}{fn:Func}{body:Code}{args roots:AcT}{hp:List (Nat×yE)}{own:Bool}{R:D->List (Nat×yE)->Prop}{T:Value->Prop}(hf:P.funcs[f]? =some fn)(hb:fn.body=some body)(hn:A.n=fn.ntmps)(hle:args.length<=fn.ntmps)
  (h:(∀d∈args,MN d)->(∀k o,zW k hp=some o->okO o)->fnX P E A fn.results.toList body args hp roots own R T)
  (w:World) (S:Nat->Prop) (vs:Array Value) (pl0:Nat->Value) (hS:∀b,S b->b<w.heap.size) (hl:vs.size=args.length) (hv:∀i d,args[i]? =some d->Rd w S pl0 (vs.getD i undef) d) (hh:Av w S pl0 hp) (hg:Ee P w (o9 pl0 hp)):
  Calls P f vs w λe w'=>(∃r hp',R r hp'/\∃v S' pl',e=.returned v/\Rd w' S' pl' v r/\Av w' S' pl' hp'/\(∀b,S' b->b<w'.heap.size)/\(∀b,S' b->S b\/o9 pl0 hp b\/w.heap.size<=b)/\
    (∀b,o9 pl' hp' b->o9 pl0 hp b\/w.heap.size<=b)/\(∀k,stabK k=true->pl' k=pl0 k)/\rE w.heap.size (o9 pl0 hp) w w')\/
   ∃u,e=.panicked [{v:=u,recovered:=false}]/\T u/\rE w.heap.size (o9 pl0 hp) w w':=by
 have hok:∀d∈args,MN d:=λd hd=>by
  obtain⟨i,hi,rfl⟩:=Aas hd;exact zsL (hv i _ (Aal hi))
 have hok2:∀k o,zW k hp=some o->okO o:=λk o hk=>zsg (hh.ok k o hk)
 refine calls_of_wp hf hb ?_
 have m0:tF P ⟨w,S,o9 pl0 hp,pl0⟩ A.n ⟨LZ 0 args,hp⟩ {tmps:=vs++Array.replicate (fn.ntmps-vs.size) undef,defers:=[]} w S pl0:=by
  refine⟨rfl,by simp;omega,λi=> ?_,hh.ok,hS,λb h=> .inl h,(λk o b h hb=>⟨.inl ⟨k,o,h,hb⟩,hh.priv k o b h hb⟩),hh.inj,.of (Below.refl _ _),λ_ _=>rfl,hg⟩
  rw[show(⟨LZ 0 args,hp⟩:St).get i=(St.init args).get i from rfl,L0]
  cases hi:args[i]? with
  |none=>exact tD
  |some d=>
   have hlt:i<vs.size:=by rw[hl];exact(AaB.1 hi).1
   have:=hv i d hi;rw[Aaj,Ab5 hlt,<-Aaj];exact this
 refine wp_mono (zcP F body 0 _ _ _ w (h hok hok2) ⟨_,_,m0⟩) λe a w' hq=> ?_
 rcases hq with⟨x,σ,he,hk,S',pl,m⟩|⟨u,σ,rfl,hk,dz,hb⟩
 case inr=>exact⟨dz,.inr ⟨u,rfl,hk,hb⟩⟩
 have hk:x=.normal\/x=.ret\/∃i,x=.exit i:=by cases e<;>simp only[Ni,Option.some.injEq,reduceCtorEq]at he<;>subst he<;>simp
 have hk0:Nj E fn.results.toList roots own R x σ:=by rcases hk with rfl|rfl|⟨i,rfl⟩<;>assumption
 obtain⟨r,hp',hR,hk⟩:=zlR hk0
 have out:∀ {S':Nat->Prop} {σ:St} (m:tF P ⟨w,S,o9 pl0 hp,pl0⟩ A.n σ a w' S' pl) (ρ:List (Nat×Nat)),Sf ρ=true->∀(v:Value),(results fn a.tmps).run P w'=.ok v w'->Rd w' S' (plC ρ pl) v r->gU σ.ob ρ ρ=hp'->
   ∃v,(results fn a.tmps).run P w'=.ok v w'/\∃v' S'' pl',Ending.returned v=.returned v'/\Rd w' S'' pl' v' r/\Av w' S'' pl' hp'/\(∀b,S'' b->b<w'.heap.size)/\(∀b,S'' b->S b\/o9 pl0 hp b\/w.heap.size<=b)/\
    (∀b,o9 pl' hp' b->o9 pl0 hp b\/w.heap.size<=b)/\(∀k,stabK k=true->pl' k=pl0 k)/\rE w.heap.size (o9 pl0 hp) w w':=by
  intro S' σ m ρ hc v hrun hr hpk;simp only[Sf,If]at hc
  obtain⟨⟨n1,n2⟩,n3⟩:=hc;subst hpk;refine⟨v,hrun,v,S',plC ρ pl,rfl,hr,J8 m n1 n2,m.lt,m.src,λb hb=> ?_,λk hk=> ?_,m.below⟩
  ·obtain⟨k,c,o,h1,h2,h3⟩:=LT n2 hb
   exact(m.priv k o b h2 h3).1
  ·refine Eq.trans ?_ (m.stay k hk)
   unfold plC;cases hl:zW k (JZ ρ)with
   |none=>rfl
   |some k'=>
    have:=Aav.1 n3 _ (LR hl);simp only[AaY,Aa1]at this
    rcases this with h|h
    ·rw[hk]at h;cases h
    ·rw[xA.1 h]
 have runv:∀(us:List Value),(fn.results.toList.mapM (XO a)).run P w'=.ok us w'->(results fn a.tmps).run P w'=.ok (if h:us.length=1 then us[0]else .tuple us.toArray) w':=λus q1=>by
  have hr0:results fn a.tmps=(do let vs<-fn.results.mapM (XO a);pure (if h:vs.size=1 then vs[0]else .tuple vs)):=rfl
  rw[hr0];simp only[Acs,IT,map_eq_pure_bind,q1,No,TO,On];rfl
 have fin:Nj E fn.results.toList roots own (λd h'=>d=r/\h'=hp') .normal σ->a.defers=[]/\∃v,(results fn a.tmps).run P w'=.ok v w'/\∃v' S'' pl',Ending.returned v=.returned v'/\Rd w' S'' pl' v' r/\Av w' S'' pl' hp'/\(∀b,S'' b->b<w'.heap.size)/\(∀b,S'' b->S b\/o9 pl0 hp b\/w.heap.size<=b)/\
    (∀b,o9 pl' hp' b->o9 pl0 hp b\/w.heap.size<=b)/\(∀k,stabK k=true->pl' k=pl0 k)/\rE w.heap.size (o9 pl0 hp) w w':=by
  intro hk;refine⟨m.dz,?_⟩;unfold Nj at hk
  clear h he;cases own with
  |true=>
   simp only at hk
   split at hk
   ·rename_i t hrs
    cases hc:Sf (Ia 0 (reach σ.ob 400 [] (σ.get t::roots)))with
    |false=>rw[hc]at hk;exact hk.elim
    |true=>
     rw[hc,AI]at hk
     obtain⟨e1,e2⟩:=hk;have hc':=hc;simp only[Sf,If]at hc'
     have hrun:=runv [a.tmps.getD t undef] (by rw[hrs];simp[XO])
     refine out m _ hc _ hrun ?_ e2;rw[<-e1];exact J7 (λk j hj=>WM hc'.1.2 (fM hj)) (m.fr t)
   ·exact hk.elim
  |false=>
   simp only at hk
   obtain⟨σ2,_,S2,hk,hS2,m2,_⟩:=pL hk m;split at hk
   ·rename_i ds' hds
    cases hc:Sf (Ia 0 (reach σ2.ob 400 [] roots))with
    |false=>rw[hc]at hk;exact hk.elim
    |true=>
     rw[hc,AI]at hk
     obtain⟨e1,e2⟩:=hk;obtain⟨us,q1,hrd⟩:=zcQ F m2 _ ds' hds;have hlen:=hrd.len;refine out m2 _ hc _ (runv us q1) ?_ e2;rw[<-e1];cases ds' with
     |nil=>
      rw[dif_neg (by simp at hlen;simp[hlen])]
      exact Rp.rd (.tup _ _ (by simpa using hlen) λi d hd=>by simp at hd)
     |cons d1 rest=>
      cases rest with
      |nil=>
       have h1:us.length=1:=by simpa using hlen
       rw[dif_pos h1];exact(hrd.get_ 0 _ d1 (Aal (by omega)) rfl).rd
      |cons d2 rest=>
       rw[dif_neg (by rw[hlen];simp)]
       exact Rp.rd (.tup _ _ (by simpa using hlen) λi d hd=>H8 (vs:=us.toArray) (by simpa using hrd) i d hd)
   ·exact hk.elim
 cases e<;>simp only[Ni,Option.some.injEq,reduceCtorEq]at he<;>subst he
 ·obtain⟨h1,v,h2,h3⟩:=fin hk;exact⟨h1,v,h2,.inl ⟨r,hp',hR,h3⟩⟩
 ·exact hk.elim
 ·obtain⟨h1,v,h2,h3⟩:=fin hk;exact⟨h1,v,h2,.inl ⟨r,hp',hR,h3⟩⟩
theorem Eo(F:vE P E){f:AcM}{fn:Func}{body:Code}{args roots:AcT}{hp hp':List (Nat×yE)}{own:Bool}{r:D}(hf:P.funcs[f]? =some fn)(hb:fn.body=some body)(hn:A.n=fn.ntmps)(hle:args.length<=fn.ntmps)
  (h:(∀d∈args,MN d)->(∀k o,zW k hp=some o->okO o)->fnH P E A fn.results.toList body args hp roots own λd h'=>d=r/\h'=hp'):zlE P f args hp r hp':=by
 intro w S vs pl0 hS hl hv hh hg;refine(zcT F hf hb hn hle (T:=λ_=>False) (λh1 h2=>by have:=h h1 h2;unfold fnX;rw[zlQ];exact this) w S vs pl0 hS hl hv hh hg).mono λe w' h=> ?_
 rcases h with⟨_,_,⟨rfl,rfl⟩,h'⟩|⟨_,_,h',_⟩
 ·exact h'
 ·exact h'.elim
theorem zeY(F:vE P E){f:AcM}{fn:Func}{body:Code}{args roots:AcT}{hp hp':List (Nat×yE)}{own:Bool}{r:D}(hf:P.funcs[f]? =some fn)(hb:fn.body=some body)(hn:A.n=fn.ntmps)(hle:args.length<=fn.ntmps)
  (h:(∀d∈args,MN d)->(∀k o,zW k hp=some o->okO o)->fnX P E A fn.results.toList body args hp roots own (λd h'=>d=r/\h'=hp') λ_=>False):zlE P f args hp r hp':=by
 intro w S vs pl0 hS hl hv hh hg;refine(zcT F hf hb hn hle h w S vs pl0 hS hl hv hh hg).mono λe w' h=> ?_
 rcases h with⟨_,_,⟨rfl,rfl⟩,h'⟩|⟨_,_,h',_⟩
 ·exact h'
 ·exact h'.elim
theorem zkv(F:vE P E){f:AcM}{fn:Func}{body:Code}{args roots:AcT}{hp:List (Nat×yE)}{own:Bool}{u:Value}(hf:P.funcs[f]? =some fn)(hb:fn.body=some body)(hn:A.n=fn.ntmps)(hle:args.length<=fn.ntmps)
  (h:(∀d∈args,MN d)->(∀k o,zW k hp=some o->okO o)->fnX P E A fn.results.toList body args hp roots own (λ_ _=>False) λu'=>u'=u):zqg P f args hp u:=by
 intro w S vs pl0 hS hl hv hh hg;refine(zcT F hf hb hn hle h w S vs pl0 hS hl hv hh hg).mono λe w' h=> ?_
 rcases h with⟨_,_,h',_⟩|⟨_,h1,rfl,h2⟩
 ·exact h'.elim
 ·exact⟨h1,h2⟩
end
end Go.Proofs.YtdnmkinmcdihnaaGreatDoor
namespace Go.Proofs.YtdnmkinmcdihnaaGreatDoor
open Go.RowKit
variable[Lo]
def ztX(P:AcO)(x:AcN×(Bool×AcT)):Bool:=match P.info? x.1,P.underlying x.1 with
 |some i,some u=>(match i.zero with
  |some z=>Nat.beq i.size x.2.2.length&&(zny u==x.2.1)&&GX z.cells.toList x.2.2&&(x.2.1||Nat.beq x.2.2.length 1)&&(!cE x.2.2||memT zeC x.1 x.2.2.length)
  |none=>false)
 |_,_=>false
def ztY(e:AcN):Option TypeDesc->Bool
 |some (.slice e')=>Nat.beq e' e
 |_=>false
def zsh(P:AcO)(x:AcN×(AcN×Ty)):Bool:=ztY x.2.1 (P.underlying x.1)&&(match P.info? x.2.1 with
 |some i=>Nat.beq i.size x.2.2.size&&Nat.beq i.bytes x.2.2.bytes&&(match i.zero with
  |some z=>GX z.cells.toList (cells x.2.2 x.2.2.dflt)
  |none=>false)
 |none=>false)
def zcU:List (Nat×Nat)->List (Nat×Nat)->Bool
 |[],[]=>true
 |(a,b)::r,(c,d)::r'=>Nat.beq a c&&Nat.beq b d&&zcU r r'
 |_,_=>false
theorem za4:∀ {a b:List (Nat×Nat)},zcU a b=true->a=b
 |[],[],_=>rfl
 |(a,b)::r,(c,d)::r',h=>by
  simp only[zcU,If]at h
  rw[xA.1 h.1.1,xA.1 h.1.2,za4 h.2]
 |[],_::_,h=>by cases h
 |_::_,[],h=>by cases h
def zn9(P:AcO)(x:AcN×List (Nat×Nat)):Bool:=match P.underlying x.1 with
 |some (.struct fs)=>(match fs.toList.mapM λf=>(P.info? f.type).map λi=>(f.offset,i.size)with
  |some offs=>zcU offs x.2&&x.2.all λy=> !Nat.beq y.2 0
  |none=>false)
 |_=>false
def zkw:Option TypeDesc->Bool
 |some .string=>true
 |_=>false
def za5(k:IntKind):Option TypeDesc->Bool
 |some (.int k')=>decide (k'=k)
 |_=>false
def zkx:Option TypeDesc->Bool
 |some .bool=>true
 |_=>false
def zeZ:Option TypeDesc->Bool
 |some (.struct _)=>true
 |_=>false
def zoa(P:AcO)(kT:AcN):Ty->Bool
 | .int=>za5 .i64 (P.underlying kT)
 | .str=>zkw (P.underlying kT)
 | .pr .int .int=>match P.underlying kT with
  |some (.array n e)=>Nat.beq n 2&&za5 .i64 (P.underlying e)&&(P.info? e).isSome&&Nat.beq (P.cellsOf e) 1
  |_=>false
 |_=>false
def zsi(P:AcO)(x:AcN×(Ty×Ty)):Bool:=match P.underlying x.1 with
 |some (.map kT eT)=>zoa P kT x.2.1&&(match P.info? eT with
  |some i=>(match i.zero,cells x.2.2 x.2.2.dflt with
   |some z,[d]=>zB z d&&z.oneCell'
   |_,_=>false)
  |none=>false)
 |_=>false
def zqG:List (Bool×Nat)->List (Bool×Nat)->Bool
 |[],[]=>true
 |x::xs,y::ys=>(x.1==y.1)&&Nat.beq x.2 y.2&&zqG xs ys
 |_,_=>false
theorem zky:∀ {xs ys:List (Bool×Nat)},zqG xs ys=true->xs=ys
 |[],[],_=>rfl
 |x::xs,y::ys,h=>by
  simp only[zqG,If,beq_iff_eq]at h
  rw[zky h.2,show x=y from Prod.ext h.1.1 (xA.1 h.1.2)]
 |[],_::_,h=>by cases h
 |_::_,[],h=>by cases h
def zsj(P:AcO)(x:AcN×Ty):Bool:=zeZ (P.underlying x.1)&& !P.stoodInHeld x.1&& !P.eqGuardType P.depth x.1&&(match fkT x.2,(P.fieldsOf x.1).toList.mapM (zqi P)with
 |some l,some l'=>zqG l l'
 |_,_=>false)
def zob(P:AcO)(T:AcN):Bool:=match P.underlying T with
 |some (.array n e)=>Nat.beq n 2&&(match P.info? e with
  |some i=>Nat.beq i.size 1
  |none=>false)
 |_=>false
def zkz(P:AcO)(x:AcN×(AcN×Ty)):Bool:=match x.2.2 with
 | .byte=>(match P.info? x.2.1 with
  |some i=>(match i.zero with
   |some (.int .u8 n)=>decide (n=0)
   |_=>false)
  |none=>false)
 |_=>true
def TE.chk2(E:TE)(P:AcO):Bool:=E.mps.all (zsi P)&&E.sts.all (zsj P)&&E.arr.all (zob P)&&E.sl.all (zkz P)
def TE.chk(E:TE)(P:AcO):Bool:=E.zs.all (ztX P)&&E.sl.all (zsh P)&&E.fld.all (zn9 P)&&E.strs.all (λT=>zkw (P.underlying T))&&E.ints.all (λx=>za5 x.2 (P.underlying x.1))&&E.bools.all λT=>zkx (P.underlying T)
theorem WT{α:Type}{p:Nat×α->Bool}{l:List (Nat×α)}(h:l.all p=true){k:Nat}{a:α}(hl:zW k l=some a):p (k,a)=true:=Aav.1 h _ (fM hl)
theorem L1{k:Nat}:∀ {l:AcZ},sH k l=true->k∈l
 |[],h=>by cases h
 |i::r,h=>by
  unfold sH at h
  cases hb:Nat.beq i k with
  |true=>rw[xA.1 hb];exact Aaa
  |false=>rw[hb,Aag]at h;exact Aac _ (L1 h)
theorem QD{P:AcO}{E:TE}(hm:P.follows .mixedOrders=true)(h:E.chk P=true)(h':E.chk2 P=true)(hs:∀x∈E.sig,∀args w,(callFunc x.1 args).run P w=.ok (.enter x.1 args) w)(hh:∀x∈E.hsig,Ent P x.1):vE P E:=by
 simp only[TE.chk2,If]at h'
 obtain⟨⟨⟨k1,k2⟩,k3⟩,k4⟩:=h';simp only[TE.chk,If]at h
 obtain⟨⟨⟨⟨⟨h1,h2⟩,h3⟩,h4⟩,h5⟩,h6⟩:=h;refine⟨λT ag cs hl=> ?_,λT e t hl=> ?_,λT offs hl=> ?_,λT hl=> ?_,λT k hl=> ?_,λT hl=> ?_,λf rs hl=>hs (f,rs) (fM hl),λf x hl=>hh (f,x) (fM hl),λT hl=> ?_,λT k v hl=> ?_,λT t hl=> ?_,hm,λT e hl=> ?byt⟩
 case byt=>
  have:=WT k4 hl;unfold zkz at this
  simp only at this
  split at this
  ·rename_i i hi
   split at this
   ·rename_i n hz;exact⟨i,hi,by rw[hz,BY this]⟩
   ·cases this
  ·cases this
 ·have:=WT h1 hl
  unfold ztX at this
  split at this
  ·rename_i i u hi hu
   split at this
   ·rename_i z hz
    simp only[If,AaY,beq_iff_eq]at this
    obtain⟨⟨⟨⟨q1,q2⟩,q3⟩,q4⟩,q5⟩:=this;refine⟨λhh=>by rw[hh]at q5;simpa using q5,⟨i,z,u,hi,hz,xA.1 q1,hu,q2,q3⟩,λhag=> ?_⟩
    rcases q4 with q4|q4
    ·rw[hag]at q4;cases q4
    ·exact xA.1 q4
   ·cases this
  ·cases this
 ·have:=WT h2 hl
  unfold zsh at this
  simp only[If]at this
  obtain⟨q1,q2⟩:=this;split at q2
  ·rename_i i hi
   simp only[If]at q2
   split at q2
   ·rename_i z hz
    refine⟨?_,i,z,hi,hz,xA.1 q2.1.1,xA.1 q2.1.2,q2.2⟩;unfold ztY at q1
    split at q1
    ·rename_i e' he
     have he':P.underlying T=some (.slice e'):=he;rw[he',xA.1 q1]
    ·cases q1
   ·have:=q2.2;cases this
  ·cases q2
 ·have:=WT h3 hl
  unfold zn9 at this
  split at this
  ·rename_i fs hu
   split at this
   ·rename_i offs' ho
    simp only[If]at this
    refine⟨fs,hu,?_,this.2⟩;rw[ho,za4 this.1]
   ·cases this
  ·cases this
 ·have:=Aav.1 h4 _ (L1 hl)
  unfold zkw at this
  split at this
  ·rename_i e;exact e
  ·cases this
 ·have:=WT h5 hl
  unfold za5 at this
  split at this
  ·rename_i k' e
   have e':P.underlying T=some (.int k'):=e;rw[e',BY this]
  ·cases this
 ·have:=Aav.1 h6 _ (L1 hl)
  unfold zkx at this
  split at this
  ·rename_i e;exact e
  ·cases this
 ·have:=Aav.1 k3 _ (L1 hl)
  unfold zob at this
  split at this
  ·rename_i n e hu
   simp only[If]at this
   split at this
   ·rename_i i hi
    obtain rfl:=xA.1 this.1;exact⟨e,i,hu,hi,xA.1 this.2⟩
   ·cases this.2
  ·cases this
 ·have:=WT k1 hl
  unfold zsi at this
  split at this
  ·rename_i kT eT hu
   simp only[If]at this
   obtain⟨q1,q2⟩:=this;split at q2
   ·rename_i i hi
    split at q2
    ·rename_i z d hz hc
     simp only[If]at q2
     refine⟨kT,eT,i,z,d,hu,?_,hi,hz,hc,q2.1,q2.2⟩;unfold zoa at q1
     unfold J4;split at q1
     ·unfold za5 at q1
      split at q1
      ·rename_i k' e;rw[show P.underlying kT=some (.int k')from e,BY q1]
      ·cases q1
     ·unfold zkw at q1
      split at q1
      ·rename_i e;exact e
      ·cases q1
     ·split at q1
      ·rename_i n e he
       simp only[If]at q1
       obtain⟨⟨⟨p1,p2⟩,p3⟩,p4⟩:=q1;obtain rfl:=xA.1 p1;obtain⟨i',hi'⟩:=Acu.1 p3;refine⟨e,i',he,?_,hi',xA.1 p4⟩;unfold za5 at p2
       split at p2
       ·rename_i k' e';rw[show P.underlying e=some (.int k')from e',BY p2]
       ·cases p2
      ·cases q1
     ·cases q1
    ·cases q2
   ·cases q2
  ·cases this
 ·have:=WT k2 hl
  simp only[zsj,If,Aa1]at this
  obtain⟨⟨⟨q1,q2⟩,q3⟩,q4⟩:=this
  have hst:P.underlying T=some (.struct (P.fieldsOf T)):=by
   unfold zeZ at q1
   split at q1
   ·rename_i fs e
    have e:P.underlying T=some (.struct fs):=e;unfold Program.fieldsOf;rw[e]
   ·cases q1
  split at q4
  ·rename_i l l' e1 e2
   exact⟨hst,q2,q3,l,e1,by rw[e2,zky q4]⟩
  ·cases q4
def vB(f:Func):Code:=match f.body with
 |some c=>c
 |none=> .skip
abbrev zJ(t:Ty)(xs:List t.den)(i:Nat):t.den:=xs.getD i t.dflt
theorem zC{b:Bool}{X Y:Prop}(h1:b=true->X)(h2:b=false->Y):zT b X Y:=by
 cases b
 ·exact h2 rfl
 ·exact h1 rfl
theorem zG{P:AcO}{f:AcM}{args:AcT}{t:Ty}{K:t.den->Prop}{x:t.den}(h:oT P f args (Yn t x))(hk:K x):znu P f args t K:=⟨x,h,hk⟩
theorem Zt{P:AcO}{f:AcM}{args:AcT}{t u:Ty}{K:t.den->u.den->Prop}{x:t.den}{y:u.den}(h:oT P f args (.tup [Yn t x,Yn u y]))(hk:K x y):znv P f args t u K:=⟨x,y,h,hk⟩
theorem ze0{P:AcO}{f:AcM}{args:AcT}{t u v:Ty}{K:t.den->u.den->v.den->Prop}{x:t.den}{y:u.den}{z:v.den}(h:oT P f args (.tup [Yn t x,Yn u y,Yn v z]))(hk:K x y z):znw P f args t u v K:=⟨x,y,z,h,hk⟩
end Go.Proofs.YtdnmkinmcdihnaaGreatDoor
namespace Go.Proofs.YtdnmkinmcdihnaaGreatDoor
open Go.RowKit
variable[Lo]
def Gh(u u':Value):Prop:=u'=u\/(∃n m,u=.int .i64 n/\u'=.int .i64 m/\xE m)\/∃s s',u=.string s/\u'=.string s'/\s'.size<=140737488355328
theorem Gh.refl(u:Value):Gh u u:=.inl rfl
theorem Gh.trans{a b c:Value}(h:Gh a b)(k:Gh b c):Gh a c:=by
 rcases h with rfl|⟨n,m,rfl,rfl,hm⟩|⟨s,s',rfl,rfl,hs⟩
 ·exact k
 ·rcases k with rfl|⟨n',m',e,rfl,hm'⟩|⟨_,_,e,_⟩
  ·exact .inr (.inl ⟨n,m,rfl,rfl,hm⟩)
  ·exact .inr (.inl ⟨n,m',rfl,rfl,hm'⟩)
  ·cases e
 ·rcases k with rfl|⟨_,_,e,_⟩|⟨t,t',e,rfl,ht⟩
  ·exact .inr (.inr ⟨s,s',rfl,rfl,hs⟩)
  ·cases e
  ·exact .inr (.inr ⟨s,t',rfl,rfl,ht⟩)
structure WU (R:Nat->Prop)(w w':World):Prop where
 os:w'.os=w.os
 tape:w'.tape=w.tape
 output:w'.output=w.output
 size:w.heap.size<=w'.heap.size
 block:∀b,b<w.heap.size->¬R b->w'.heap[b]? =w.heap[b]?
 cell:∀(x:Addr) (u:Value),w.cell? x=some u->∃u',w'.cell? x=some u'/\Gh u u'
 soft:∀b,VQ w b->VQ w' b
theorem WU.refl(R:Nat->Prop)(w:World):WU R w w:=⟨rfl,rfl,rfl,IN _,λ_ _ _=>rfl,λx u h=>⟨u,h,.refl u⟩,λ_ h=>h⟩
theorem WU.trans{R:Nat->Prop}{a b c:World}(h:WU R a b)(k:WU R b c):WU R a c:=
 ⟨k.os.trans h.os,k.tape.trans h.tape,k.output.trans h.output,Aan h.size k.size,λi hl hi=>(k.block i (Aaz hl h.size) hi).trans (h.block i hl hi),λx u hx=>by
  obtain⟨u1,h1,c1⟩:=h.cell x u hx;obtain⟨u2,h2,c2⟩:=k.cell x u1 h1;exact⟨u2,h2,c1.trans c2⟩,λb hb=>k.soft b (h.soft b hb)⟩
theorem WU.more{R R':Nat->Prop}{a b:World}(h:WU R a b)(hR:∀x,R x->R' x):WU R' a b:=
 ⟨h.os,h.tape,h.output,h.size,λi hl hi=>h.block i hl λhr=>hi (hR i hr),h.cell,h.soft⟩
theorem lH{n:Int}{u:Value}(h:Gh (.int .i64 n) u)(hn:xE n):∃m,u=.int .i64 m/\xE m:=by
 rcases h with rfl|⟨_,m,_,rfl,hm⟩|⟨_,_,e,_⟩
 ·exact⟨n,rfl,hn⟩
 ·exact⟨m,rfl,hm⟩
 ·cases e
theorem zcV{s:AcL}{u:Value}(h:Gh (.string s) u)(hs:s.size<=140737488355328):∃t:AcL,u=.string t/\t.size<=140737488355328:=by
 rcases h with rfl|⟨_,_,e,_⟩|⟨_,t,_,rfl,ht⟩
 ·exact⟨s,rfl,hs⟩
 ·cases e
 ·exact⟨t,rfl,ht⟩
theorem zsN{A:Option Addr}{n c:Nat}{u:Value}(h:Gh (.slice A n c) u):u=.slice A n c:=by
 rcases h with rfl|⟨_,_,e,_⟩|⟨_,_,e,_⟩
 ·rfl
 ·cases e
 ·cases e
section
variable {w w':World}
def Yt(w w':World):Prop:=∀(x:Addr) (u:Value),w.cell? x=some u->∃u',w'.cell? x=some u'/\Gh u u'
theorem za6(hc:Yt w w'){b o:Nat}:∀(cs:List Value) (j0:Nat),(∀j u,cs[j]? =some u->w.cell? ⟨b,o+(j0+j),none⟩=some u)->∃cs',xK Gh cs cs'/\∀j u,cs'[j]? =some u->w'.cell? ⟨b,o+(j0+j),none⟩=some u
 |[],j0,_=>⟨[],.nil,λj u h=>by simp at h⟩
 |c::cs,j0,h=>by
  obtain⟨u',h1,h2⟩:=hc _ _ (h 0 c rfl)
  obtain⟨cs',h3,h4⟩:=za6 hc cs (j0+1) λj u hu=>by
   have:=h (j+1) u (by simpa using hu)
   rwa[show j0+1+j=j0+(j+1) by omega]
  refine⟨u'::cs',.cons h2 h3,λj u hu=> ?_⟩
  cases j with
  |zero=>simp at hu;subst hu;exact h1
  |succ j=>
   have:=h4 j u (by simpa using hu)
   rwa[show j0+(j+1)=j0+1+j by omega]
theorem ze1(hc:Yt w w'){α:Type}(R:xU α){S:Nat->Prop}(hr:∀cs cs' x,R.rd w S cs x->xK Gh cs cs'->∃x',R.rd w' S cs' x'){cs:List Value}{xs:List α}(h:(@xU.list _ R).rd w S cs xs):
  ∃ys:List α,ys.length=xs.length/\(@xU.list _ R).rd w' S cs ys:=by
 obtain⟨A,c,e2,h0,h1,h2,h3,h4⟩:=h
 by_cases hn:0<xs.length
 ·obtain⟨b,o,hA,hb,hcell⟩:=h4 hn
  have key:∀i:Fin xs.length,∃x',∃cs',R.rd w' S cs' x'/\∀j u,cs'[j]? =some u->w'.cell? ⟨b,o+i*R.size+j,none⟩=some u:=λi=>by
   obtain⟨cs,hr1,hc1⟩:=hcell i xs[i] (Aal i.2);obtain⟨cs',k2,k3⟩:=za6 hc (b:=b) (o:=o+i*R.size) cs 0 λj u hu=>by rw[Aat];exact hc1 j u hu
   obtain⟨x',k4⟩:=hr _ _ _ hr1 k2;exact⟨x',cs',k4,λj u hu=>by have:=k3 j u hu;rwa[Aat]at this⟩
  let f:Fin xs.length->α:=λi=>(key i).choose
  refine⟨List.ofFn f,by simp,A,c,by simpa using e2,by simpa using h0,by simpa using h1,h2,h3,λ_=>⟨b,o,hA,hb,λi x hx=> ?_⟩⟩
  have hi:i<xs.length:=by have:=(AaB.1 hx).1;simpa using this
  have:x=f ⟨i,hi⟩:=by simpa[Ab1,hi]using hx.symm
  subst this;exact(key ⟨i,hi⟩).choose_spec
 ·have hz:xs.length=0:=by omega
  exact⟨[],hz.symm,A,c,by rw[e2,hz];rfl,by simp,by simp,h2,h3,λh=>At h (by simp)⟩
theorem Ib(hc:Yt w w'){α:Type}(R:xU α){S:Nat->Prop}(hr:∀cs cs' x,R.rd w S cs x->xK Gh cs cs'->∃x',R.rd w' S cs' x'){cs cs':List Value}{xs:List α}(h:(@xU.list _ R).rd w S cs xs)(ht:xK Gh cs cs'):
  ∃ys:List α,(@xU.list _ R).rd w' S cs' ys:=by
 have e:cs'=cs:=by
  obtain⟨A,c,e2,_⟩:=h;subst e2;obtain _|⟨h1,_|_⟩:=ht
  rw[zsN h1]
 subst e;obtain⟨ys,_,h⟩:=ze1 hc R hr h;exact⟨ys,h⟩
theorem QE{S:Nat->Prop}:∀cs cs' x,xU.int.rd w S cs x->xK Gh cs cs'->∃x',xU.int.rd w' S cs' x':=λcs cs' x ⟨e,hx⟩ ht=>by
 subst e;obtain _|⟨h1,_|_⟩:=ht
 obtain⟨m,rfl,hm⟩:=lH h1 hx;exact⟨m,rfl,hm⟩
theorem DK{S:Nat->Prop}:∀cs cs' x,xU.lit.rd w S cs x->xK Gh cs cs'->∃x',xU.lit.rd w' S cs' x':=λcs cs' x ⟨e,a,b,c⟩ ht=>by
 subst e;obtain _|⟨h1,_|⟨h2,_|⟨h3,_|_⟩⟩⟩:=ht
 obtain⟨m1,rfl,k1⟩:=lH h1 a;obtain⟨m2,rfl,k2⟩:=lH h2 b;obtain⟨m3,rfl,k3⟩:=lH h3 c;exact⟨⟨m1,m2,m3⟩,rfl,k1,k2,k3⟩
theorem ze2{S:Nat->Prop}:∀cs cs' x,xU.var.rd w S cs x->xK Gh cs cs'->∃x',xU.var.rd w' S cs' x':=λcs cs' x ⟨e,a,b,c⟩ ht=>by
 subst e;obtain _|⟨h1,_|⟨h2,_|⟨h3,_|_⟩⟩⟩:=ht
 obtain⟨m1,rfl,k1⟩:=zcV h1 a;obtain⟨m2,rfl,k2⟩:=lH h2 b;obtain⟨m3,rfl,k3⟩:=lH h3 c;exact⟨⟨m1,m2,m3⟩,rfl,k1,k2,k3⟩
theorem X8{α:Type}{R:xU α}{S:Nat->Prop}{v v':Value}(hc:Yt w w')(hr:∀cs cs' x,R.rd w S cs x->xK Gh cs cs'->∃x',R.rd w' S cs' x'){xs:List α}(h: @Oc _ (@xU.list _ R) w S [v] xs)(ht:Gh v v'):∃ys,@Oc _ (@xU.list _ R) w' S [v'] ys:=
 Ib hc R hr h (.cons ht .nil)
theorem ze3(hc:Yt w w'){S:Nat->Prop}:∀cs cs' x,xU.con.rd w S cs x->xK Gh cs cs'->∃x',xU.con.rd w' S cs' x':=λcs cs' x h ht=>by
 obtain⟨v1,v2,v3,v4,rfl,a,b,h1,h2,h3,h4⟩:=h;obtain _|⟨t1,_|⟨t2,_|⟨t3,_|⟨t4,_|⟨t5,_|⟨t6,_|_⟩⟩⟩⟩⟩⟩:=ht
 obtain⟨m1,rfl,k1⟩:=lH t1 a;obtain⟨m2,rfl,k2⟩:=lH t4 b;obtain⟨x1,g1⟩:=X8 hc QE h1 t2;obtain⟨x2,g2⟩:=X8 hc QE h2 t3;obtain⟨x3,g3⟩:=X8 hc (λcs cs' x=>Ib hc _ QE) h3 t5
 obtain⟨x4,g4⟩:=X8 hc DK h4 t6;exact⟨⟨m1,x1,x2,m2,x3,x4⟩,_,_,_,_,rfl,k1,k2,g1,g2,g3,g4⟩
theorem za7(hc:Yt w w'){S:Nat->Prop}:∀cs cs' x,xU.step.rd w S cs x->xK Gh cs cs'->∃x',xU.step.rd w' S cs' x':=λcs cs' x h ht=>by
 obtain⟨v1,rfl,a,b,h1⟩:=h;obtain _|⟨t1,_|⟨t2,_|⟨t3,_|_⟩⟩⟩:=ht
 obtain⟨m1,rfl,k1⟩:=lH t1 a;obtain⟨m2,rfl,k2⟩:=lH t2 b;obtain⟨x1,g1⟩:=X8 hc DK h1 t3;exact⟨⟨m1,m2,x1⟩,_,rfl,k1,k2,g1⟩
theorem Ic(hc:Yt w w')(hf:∀b,VQ w b->VQ w' b):(t:Ty)-> {S:Nat->Prop}-> {x:t.den}-> {cs cs':List Value}->xU.rd w S cs x->xK Gh cs cs'->∃x':t.den,xU.rd w' S cs' x'
 | .int,S,x,cs,cs',h,ht=>QE cs cs' x h ht
 | .lit,S,x,cs,cs',h,ht=>DK cs cs' x h ht
 | .var,S,x,cs,cs',h,ht=>ze2 cs cs' x h ht
 | .con,S,x,cs,cs',h,ht=>ze3 hc cs cs' x h ht
 | .step,S,x,cs,cs',h,ht=>za7 hc cs cs' x h ht
 | .bool,S,x,cs,cs',h,ht=>by
  have e:cs=[.bool x]:=h;subst e;obtain _|⟨h1,_|_⟩:=ht
  rcases h1 with rfl|⟨_,_,e,_⟩|⟨_,_,e,_⟩
  ·exact⟨x,rfl⟩
  ·cases e
  ·cases e
 | .byte,S,x,cs,cs',h,ht=>by
  have e:cs=[.int .u8 (x.toNat:Int)]:=h;subst e;obtain _|⟨h1,_|_⟩:=ht
  rcases h1 with rfl|⟨_,_,e,_⟩|⟨_,_,e,_⟩
  ·exact⟨x,rfl⟩
  ·cases e
  ·cases e
 | .str,S,x,cs,cs',h,ht=>by
  obtain⟨e,hx⟩:=h;subst e;obtain _|⟨h1,_|_⟩:=ht
  obtain⟨m,rfl,hm⟩:=zcV h1 hx;exact⟨m,rfl,hm⟩
 | .tok,S,x,cs,cs',h,ht=>by
  obtain⟨e,a,b,c⟩:=h;subst e;obtain _|⟨h1,_|⟨h2,_|⟨h3,_|_⟩⟩⟩:=ht
  obtain⟨m1,rfl,k1⟩:=lH h1 a;obtain⟨m2,rfl,k2⟩:=lH h2 b;obtain⟨m3,rfl,k3⟩:=zcV h3 c;exact⟨⟨m1,m2,m3⟩,rfl,k1,k2,k3⟩
 | .term,S,x,cs,cs',h,ht=>by
  obtain⟨e,a,b⟩:=h;subst e;obtain _|⟨h1,_|⟨h2,_|_⟩⟩:=ht
  obtain⟨m1,rfl,k1⟩:=lH h1 a;obtain⟨m2,rfl,k2⟩:=lH h2 b;exact⟨⟨m1,m2⟩,rfl,k1,k2⟩
 | .mdl,S,x,cs,cs',h,ht=>by
  obtain⟨v1,v2,rfl,a,b,h1,h2⟩:=h;obtain _|⟨t1,_|⟨t2,_|⟨t3,_|⟨t4,_|_⟩⟩⟩⟩:=ht
  obtain⟨m1,rfl,k1⟩:=lH t3 a;obtain⟨m2,rfl,k2⟩:=lH t4 b;obtain⟨x1,g1⟩:=X8 hc ze2 h1 t1;obtain⟨x2,g2⟩:=X8 hc (ze3 hc) h2 t2;exact⟨⟨x1,x2,m1,m2⟩,_,_,rfl,k1,k2,g1,g2⟩
 | .ans,S,x,cs,cs',h,ht=>by
  obtain⟨v1,v2,rfl,a,h1,h2⟩:=h;obtain _|⟨t1,_|⟨t2,_|⟨t3,_|_⟩⟩⟩:=ht
  obtain⟨m1,rfl,k1⟩:=lH t1 a;obtain⟨x1,g1⟩:=X8 hc QE h1 t2;obtain⟨x2,g2⟩:=X8 hc (za7 hc) h2 t3;exact⟨⟨m1,x1,x2⟩,_,_,rfl,k1,g1,g2⟩
 | .pr a b,S,x,cs,cs',h,ht=>by
  obtain⟨c1,c2,rfl,h1,h2⟩:=h;have hs:=ht.split c1.length;rw[List.take_left,List.drop_left]at hs
  obtain⟨x1,g1⟩:=Ic hc hf a h1 hs.1;obtain⟨x2,g2⟩:=Ic hc hf b h2 hs.2;exact⟨(x1,x2),_,_,(AbZ c1.length cs').symm,g1,g2⟩
 | .list t,S,x,cs,cs',h,ht=>by
  obtain⟨ys,h⟩:=Ib hc (Ty.rep t) (S:=Eb t w S) (λcs cs' x hr ht=>Ic hc hf t hr ht) h ht
  exact⟨ys,(@xU.list _ (Ty.rep t)).mono h (λ_ _=>rfl) λb hb=>znm hf hb⟩
 | .mk k t,S,x,cs,cs',h,ht=>by
  obtain⟨y,h⟩:=Ic hc hf t (S:=RO k w S) h ht;exact⟨y,(Ty.rep t).mono h (λ_ _=>rfl) λb hb=>Dh hf hb⟩
end
end Go.Proofs.YtdnmkinmcdihnaaGreatDoor
namespace Go.Proofs.YtdnmkinmcdihnaaGreatDoor
open Go.RowKit
variable[Lo]
def Gi:D->D
 | .sl (.mk false t) xs=> .sl (.mk false t) xs
 | .nil=> .nil
 | .int k n=> .int k n
 | .bool b=> .bool b
 | .str s=> .str s
 | .ifc u=> .ifc u
 | .own k=> .own k
 | .ownN k=> .ownN k
 | .ptr k off=> .ptr k off
 | .oelt k sz i off=> .oelt k sz i off
 | .clp f bd k off=> .clp f bd k off
 | .slf k=> .slf k
 |_=> .undef
def ztZ:D->D
 | .agg cs=> .agg (cs.map Gi)
 |d=>Gi d
def DL:AcT->(AcT->Prop)->Prop
 |[],K=>K []
 |d::r,K=>match d with
  | .sl (.mk true t) xs=>∀ys:List t.den,ys.length=xs.length->DL r λl=>K (.sl (.mk true t) ys::l)
  |d=>DL r λl=>K (Gi d::l)
def zg8(σ:St):AcZ->(List (Nat×D)->Prop)->Prop
 |[],K=>K []
 |i::r,K=>match σ.get i with
  | .sl (.mk true t) xs=>∀ys:List t.den,ys.length=xs.length->zg8 σ r λl=>K ((i,.sl (.mk true t) ys)::l)
  | .agg cs=>DL cs λcs'=>zg8 σ r λl=>K ((i,.agg cs')::l)
  |d=>zg8 σ r λl=>K ((i,Gi d)::l)
def zcW(σ:St):AcZ->(List (Nat×yE)->Prop)->Prop
 |[],K=>K []
 |k::r,K=>match σ.ob k with
  |some (.cells ds)=>DL ds λds'=>zcW σ r λl=>K ((k,.cells ds')::l)
  |some (.row e (.mk true t) xs)=>∀ys:List t.den,ys.length=xs.length->zcW σ r λl=>K ((k,.row e (.mk true t) ys)::l)
  |some (.row e t xs)=>bif t.plain then zcW σ r λl=>K ((k,.row e t xs)::l)else zcW σ r K
  |_=>zcW σ r K
def wob(L:AcZ×AcZ)(σ:St)(K:St->Prop):Prop:=zg8 σ L.1 λl=>zcW σ L.2 λh=>K ⟨l,h⟩
section
variable {P:AcO}{E:TE}{A:xF}{b0:Yo}{w w':World}{S:Nat->Prop}{pl:Nat->Value}{N:Nat}{σ:St}{a:Act}{v:Value}{d:D}{o:Oper}
theorem DM(hk:∀b,S b->¬Lo.new b->w'.heap[b]? =w.heap[b]?)(h:Rp w S v d):Rp w' S v (Gi d):=by
 cases d<;>try exact .undef v
 case nil=>rw[h.nil_inv];exact .nil
 case int k n=>obtain⟨rfl,h'⟩:=h.int_inv;exact .int _ _ h'
 case bool b=>rw[h.bool_inv];exact .bool b
 case str s=>obtain⟨rfl,h'⟩:=h.str_inv;exact .str _ h'
 case ifc u=>rw[h.ifc_inv];exact .ifc u
 case own k=>cases h
 case ownN k=>cases h
 case ptr k off=>cases h
 case oelt k sz i off=>cases h
 case clp f bd k off=>cases h
 case slf k=>cases h
 case sl t xs=>
  cases t<;>try exact .undef v
  case mk k t=>
   cases k
   ·refine .sl (.mk false t) xs v (fE.mono h.sl_inv' (λb hb=>hk b hb.1 hb.2) λb hb=>hb)
   ·exact .undef v
theorem zqH(hk:∀b,S b->¬Lo.new b->w'.heap[b]? =w.heap[b]?)(h:Rd w S pl v d):Rd w' S pl v (ztZ d):=by
 cases hr:d.ref with
 |some k=>
  cases d<;>simp only[D.ref,Option.some.injEq,reduceCtorEq]at hr
  all_goals exact h
 |none=>
  have hp:=h.flat hr;cases d
  case agg cs=>
   obtain⟨vs,rfl,hl,he⟩:=hp.agg_inv;refine Rp.rd (.agg vs _ (by simpa using hl) λi d hd=> ?_)
   rw[Aaw,AaD]at hd
   obtain⟨d0,h0,rfl⟩:=hd;exact DM hk (he i d0 h0)
  all_goals exact(DM hk hp).rd
theorem zlS{d:D}(h:o8 (ztZ d)=true):o8 d=true:=by
 cases d<;>try first|exact h|(cases h;done)
 case sl t xs=>
  cases t<;>try(cases h;done)
  case mk k t=>cases k<;>cases h
theorem ze4(hk:∀b,S b->¬Lo.new b->w'.heap[b]? =w.heap[b]?)(h:Rd w S pl v d):Rd w' S pl v (Gi d):=by
 cases d
 case agg cs=>exact tD
 all_goals exact zqH hk h
theorem zg9{d:D}(h:o8 (Gi d)=true):o8 d=true:=by
 cases d
 case agg cs=>cases h
 all_goals exact zlS h
theorem zha(hc:WU (RO true w S) w w'){t:Ty}{xs:List t.den}(h:Rp w S v (.sl (.mk true t) xs)):∃ys:List t.den,ys.length=xs.length/\Rp w' S v (.sl (.mk true t) ys):=by
 obtain⟨cs,e,hr⟩:=h.sl_inv';obtain⟨ys,hl,hr'⟩:=ze1 hc.cell (xU.mkd true (Ty.rep t)) (S:=RO true w S) (λcs cs' x hr ht=>Ic hc.cell hc.soft (.mk true t) hr ht) hr
 refine⟨ys,hl,.sl (.mk true t) ys _ ⟨cs,e,?_⟩⟩;exact(@xU.list _ (xU.mkd true (Ty.rep t))).mono hr' (λ_ _=>rfl) λb hb=>Dh hc.soft hb
theorem DN{R R':Value->D->Prop}(h1:∀(u:Value) (t:Ty) (xs:List t.den),R u (.sl (.mk true t) xs)->∃ys:List t.den,ys.length=xs.length/\R' u (.sl (.mk true t) ys))(h2:∀u d,R u d->R' u (Gi d)):
  ∀(ds:AcT) (vs:Nat->Value) (K:AcT->Prop),(∀i d,ds[i]? =some d->R (vs i) d)->DL ds K->∃l,K l/\l.length=ds.length/\(cE l=true->cE ds=true)/\∀i d,l[i]? =some d->R' (vs i) d
 |[],vs,K,h,hk=>⟨[],hk,rfl,id,λi d h=>by simp at h⟩
 |d::r,vs,K,h,hk=>by
  have hr:∀i d,r[i]? =some d->R (vs (i+1)) d:=λi d hi=>h (i+1) d (by simpa using hi)
  have hd:=h 0 d rfl
  have add:∀d',(o8 d'=true->o8 d=true)->R' (vs 0) d'->DL r (λl=>K (d'::l))->∃l,K l/\l.length=(d::r).length/\(cE l=true->cE (d::r)=true)/\∀i d,l[i]? =some d->R' (vs i) d:=λd' hs hd' hk=>by
   obtain⟨l,a,b,c,e⟩:=DN h1 h2 r (λi=>vs (i+1)) _ hr hk
   refine⟨d'::l,a,by simp[b],hs,λi d0 hi=> ?_⟩
   cases i with
   |zero=>injection hi with hi;subst hi;exact hd'
   |succ i=>exact e i d0 (by simpa using hi)
  unfold DL at hk
  split at hk
  ·rename_i t xs
   obtain⟨ys,hl,hy⟩:=h1 _ _ _ hd;exact add _ (λh=>by cases h) hy (hk ys hl)
  ·exact add _ zg9 (h2 _ _ hd) hk
theorem zkA(hc:WU (RO true w S) w w')(hlt:∀b,S b->b<w.heap.size)(hfr:∀i,Rd w S pl (a.tmps.getD i undef) (σ.get i)):∀(L:AcZ) (K:List (Nat×D)->Prop),zg8 σ L K->∃l,K l/\∀i d,zW i l=some d->Rd w' S pl (a.tmps.getD i undef) d
 |[],K,h=>⟨[],h,λi d h=>by cases h⟩
 |i::r,K,h=>by
  have hk:∀b,S b->¬Lo.new b->w'.heap[b]? =w.heap[b]? :=λb _ hb=>hc.block b (hlt b ‹_›) λhm=>hb hm.2.1
  have add:∀(d:D),Rd w' S pl (a.tmps.getD i undef) d->(zg8 σ r λl=>K ((i,d)::l))->∃l,K l/\∀i d,zW i l=some d->Rd w' S pl (a.tmps.getD i undef) d:=λd hd h=>by
   obtain⟨l,h1,h2⟩:=zkA hc hlt hfr r _ h;refine⟨_,h1,λj e he=> ?_⟩
   rw[xM]at he
   split at he
   ·rename_i hj;subst hj;injection he with he;subst he;exact hd
   ·exact h2 j e he
  unfold zg8 at h
  split at h
  ·rename_i t xs hg
   have hx:=hfr i;rw[hg]at hx
   obtain⟨ys,hl,hy⟩:=zha hc (hx.flat (d:=.sl (.mk true t) xs) rfl);exact add _ hy.rd (h ys hl)
  ·rename_i cs hg
   have hx:=hfr i;rw[hg]at hx
   obtain⟨vs,hv,hl,he⟩:=(hx.flat (d:=.agg cs) rfl).agg_inv;obtain⟨cs',h',b,_,e⟩:=DN (R:=Rp w S) (R':=Rp w' S) (λu t xs hr=>zha hc hr) (λu d hr=>DM hk hr) cs (λi=>vs.getD i undef) _ he h
   refine add _ ?_ h';rw[hv];exact Rp.rd (.agg vs _ (by rw[hl,b]) e)
  ·exact add _ (ze4 hk (hfr i)) h
theorem zlT: {t:Ty}->t.plain=true-> {x:t.den}-> {cs:List Value}->xU.rd w S cs x->xU.rd w' S cs x
 | .int,_,_,_,h| .bool,_,_,_,h| .str,_,_,_,h| .tok,_,_,_,h| .lit,_,_,_,h| .var,_,_,_,h| .term,_,_,_,h| .byte,_,_,_,h=>h
theorem ze5:∀cs:List Value,xK Gh cs cs
 |[]=> .nil
 |c::cs=> .cons (.refl c) (ze5 cs)
theorem Ep(hc:WU (RO true w S) w w')(hlt:∀b,S b->b<w.heap.size)(hpriv:∀k o b,zW k σ.hp=some o->sR (pl k)=some b->b<w.heap.size/\¬S b)(hhp:∀k o,zW k σ.hp=some o->jF w S pl (pl k) o):
  ∀(L:AcZ) (K:List (Nat×yE)->Prop),zcW σ L K->∃l,K l/\∀k o,zW k l=some o->(∃o0,zW k σ.hp=some o0)/\jF w' S pl (pl k) o
 |[],K,h=>⟨[],h,λk o h=>by cases h⟩
 |j::r,K,h=>by
  have hk:∀b,S b->¬Lo.new b->w'.heap[b]? =w.heap[b]? :=λb _ hb=>hc.block b (hlt b ‹_›) λhm=>hb hm.2.1
  have own:∀ {o:yE} {b:Nat},zW j σ.hp=some o->sR (pl j)=some b->w'.heap[b]? =w.heap[b]? :=λh hb=>hc.block _ (hpriv j _ _ h hb).1 λhm=>(hpriv j _ _ h hb).2 hm.1
  have add:∀(o:yE),((∃o0,zW j σ.hp=some o0)/\jF w' S pl (pl j) o)->(zcW σ r λl=>K ((j,o)::l))->∃l,K l/\∀k o,zW k l=some o->(∃o0,zW k σ.hp=some o0)/\jF w' S pl (pl k) o:=λo ho h=>by
   obtain⟨l,h1,h2⟩:=Ep hc hlt hpriv hhp r _ h;refine⟨_,h1,λk o' hk=> ?_⟩
   rw[xM]at hk
   split at hk
   ·rename_i hj;subst hj;injection hk with hk;subst hk;exact ho
   ·exact h2 k o' hk
  unfold zcW at h
  split at h
  ·rename_i ds hob
   have hob:zW j σ.hp=some (.cells ds):=hob;obtain⟨b,vs,T,e1,e2,e3,e4,e5⟩:=hhp j _ hob
   obtain⟨ds',h',bl,hs,e⟩:=DN (R:=Rd w S pl) (R':=Rd w' S pl) (λu t xs hr=>by
    obtain⟨ys,hl,hy⟩:=zha hc (hr.flat (d:=.sl (.mk true t) xs) rfl);exact⟨ys,hl,hy.rd⟩) (λu d hr=>ze4 hk hr) ds (λi=>vs.getD i undef) _ e4 h
   refine add _ ⟨⟨_,hob⟩,?_⟩ h';exact⟨b,vs,T,e1,(own hob (by rw[e1];rfl)).trans e2,by rw[bl];exact e3,e,λhh=>by rw[bl];exact e5 (hs hh)⟩
  ·rename_i e t xs hob
   have hob:zW j σ.hp=some (.row e (.mk true t) xs):=hob;obtain⟨h0,css,h1,h2,h3,h4⟩:=hhp j _ hob
   have key:∀i:Fin xs.length,∃y:t.den,∀cs,css[i.1]? =some cs-> @xU.rd _ (Ty.rep (.mk true t)) w' S cs y:=λi=>by
    have hi:i.1<css.length:=by have:=h1;omega
    obtain⟨y,hy⟩:=Ic hc.cell hc.soft (.mk true t) (h4 i.1 xs[i] css[i.1] (Aal i.2) (Aal hi)) (ze5 _);exact⟨y,λcs hcs=>by rw[Aal hi]at hcs;injection hcs with hcs;subst hcs;exact hy⟩
   let f:Fin xs.length->t.den:=λi=>(key i).choose
   have hl:(List.ofFn f).length=xs.length:=by simp
   refine add _ ⟨⟨_,hob⟩,?_⟩ (h (List.ofFn f) hl);refine⟨by rw[hl];exact h0,css,by rw[hl];exact h1,⟨by rw[hl];exact h2.1,?_⟩,h3,λi x cs hx hcs=> ?_⟩
   ·rcases h2.2 with hn|⟨g,cap,cur,eg,hb',hg,rest⟩
    ·exact .inl (by rw[hl];exact hn)
    ·exact .inr ⟨g,cap,cur,by rw[hl];exact eg,hb',(own hob (by rw[eg];rfl)).trans hg,by rw[hl];exact rest⟩
   ·have hi:i<xs.length:=by have:=(AaB.1 hx).1;simpa using this
    have:x=f ⟨i,hi⟩:=by simpa[Ab1,hi]using hx.symm
    subst this;exact(key ⟨i,hi⟩).choose_spec cs hcs
  ·rename_i e t xs _ hob
   cases ht:t.plain with
   |false=>rw[ht]at h;exact Ep hc hlt hpriv hhp r K h
   |true=>
    rw[ht,AI]at h
    have hob:zW j σ.hp=some (.row e t xs):=hob;refine add _ ⟨⟨_,hob⟩,?_⟩ h;obtain⟨h0,css,h1,h2,h3,h4⟩:=hhp j _ hob;refine⟨h0,css,h1,⟨h2.1,?_⟩,h3,λi x cs hx hcs=>zlT ht (h4 i x cs hx hcs)⟩
    rcases h2.2 with hn|⟨g,cap,cur,eg,hb',hg,rest⟩
    ·exact .inl hn
    ·exact .inr ⟨g,cap,cur,eg,hb',(own hob (by rw[eg];rfl)).trans hg,rest⟩
  ·exact Ep hc hlt hpriv hhp r K h
def DO(σ:St)(pl:Nat->Value)(b:Nat):Prop:=∃k o,zW k σ.hp=some o/\sR (pl k)=some b
theorem zsO(hc:WU (RO true w S) w w')(m:tF P b0 N σ a w S pl)(ht:∀g,P.globalNamed "internal/strconv.uint64pow10" =some g->¬RO true w S g){L:AcZ×AcZ}{K:St->Prop}(h:wob L σ K):
  ∃σ',K σ'/\tF P ⟨w',S,DO σ pl,pl⟩ N σ' a w' S pl:=by
 obtain⟨l,hK,hl⟩:=zkA hc m.lt m.fr L.1 _ h;obtain⟨lh,hK,ho⟩:=Ep hc m.lt (λk o b hk hb=>(m.priv k o b hk hb).2) m.hp L.2 _ hK
 have hg:Ee P w (DO σ pl):=m.gnow λb ⟨k,o,hk,hb⟩=>(m.priv k o b hk hb).1
 refine⟨_,hK,m.dz,m.sz,λi=> ?_,λk o hk=>(ho k o hk).2,λb hb=>Aaz (m.lt b hb) hc.size,λb hb=> .inl hb,λk o b hk hb=> ?_,λk k' o o' b hk hk' hb hb'=> ?_,.of (Below.refl _ _),λ_ _=>rfl,λg hg'=> ?_,λb hge=>hg.2.1 b (Aan hc.size hge),hg.2.2⟩
 ·show Rd w' S pl _ (D.or (zW i l))
  cases hi:zW i l with
  |none=>exact tD
  |some d=>exact hl i d hi
 ·obtain⟨⟨o0,h0⟩,_⟩:=ho k o hk
  have:=m.priv k o0 b h0 hb;exact⟨.inl ⟨k,o0,h0,hb⟩,Aaz this.2.1 hc.size,this.2.2⟩
 ·obtain⟨⟨o0,h0⟩,_⟩:=ho k o hk
  obtain⟨⟨o1,h1⟩,_⟩:=ho k' o' hk';exact m.inj k k' o0 o1 b h0 h1 hb hb'
 ·obtain⟨h1,h2⟩:=hg.1 g hg'
  refine⟨?_,h2⟩
  have hlt:g<w.heap.size:=by
   rcases AaP g w.heap.size with hl|hl
   ·exact hl
   ·unfold Lib.TabIs World.var? at h1
    rw[hg']at h1
    simp only[Abk,AbD hl]at h1
    cases h1
  unfold Lib.TabIs World.var? at h1⊢
  rw[hg']at h1⊢
  simp only[Abk]at h1⊢
  rw[hc.block g hlt (ht g hg')];exact h1
end
end Go.Proofs.YtdnmkinmcdihnaaGreatDoor
namespace Go.Proofs.YtdnmkinmcdihnaaGreatDoor
open Go.RowKit
variable[Lo]
def zsP(P:AcO)(S:Nat->Prop):Prop:=∀g,P.globalNamed "internal/strconv.uint64pow10" =some g->¬S g
def AA(P:AcO)(f:AcM)(t:Ty):Prop:=
 ∀(w:World) (S:Nat->Prop) (v:Value) (xs:List t.den),(∀b,S b->b<w.heap.size)->(∀b,S b->Lo.new b/\VQ w b)->zsP P S-> @fE _ (@xU.list _ (Ty.rep t)) w S v xs->Ee P w (λ_=>False)->
  Calls P f #[v] w λe w'=>∃vs,e=.returned (.tuple vs)/\vs.size=0/\WU S w w'
def opS(P:AcO)(E:TE)(A:xF)(o:Oper)(σ:St)(K:D->St->Prop):Prop:=match o.op with
 | .call c=>match c.callee,c.args.toList with
  | .value (.func f),[x]=>match zW f E.sp with
   |some _=>match σ.ev x with
    | .sl (.mk true t) _=>AA P f t/\wob A.keep σ (K (.tup []))
    |_=>False
   |none=>Ei P E A o σ K
  |_,_=>Ei P E A o σ K
 | .store T x y=>match σ.ev x with
  | .elt (.mk true t) xs i off=>match zW T E.zs with
   |some (_,[_])=>match(cells t (xs.getD i t.dflt))[off]?,σ.ev y with
    |some (.int .i64 _),.int .i64 _=>wob A.keep σ (K .undef)
    |some (.str _),.str _=>wob A.keep σ (K .undef)
    |_,_=>False
   |_=>False
  |_=>Ei P E A o σ K
 |_=>Ei P E A o σ K
def zqI(P:AcO)(E:TE)(A:xF)(all:List Oper):List Oper->St->(Ex->St->Prop)->Prop
 |[],σ,K=>K .normal σ
 |o::r,σ,K=>bX all o σ (λσ=>opS P E A o σ λd σ=>zqI P E A all r (σ.putO o.dst d) K) λσ=>zqI P E A all r (σ.putO o.dst (.tup [])) K
def Sg(P:AcO)(E:TE)(A:xF):Code->Nat->St->(Ex->St->Prop)->Prop
 | .skip,_,σ,K=>K .normal σ
 | .region id ops draw,c,σ,K=>match draw with
  |false=>match XW A.n ops.toList with
   |true=>zqI P E A ops.toList ops.toList σ K
   |false=>False
  |true=>den P E A (.region id ops true) c σ λe σ=>match e with
   | .normal=>K .normal σ
   |_=>False
 | .seq a b,c,σ,K=>Sg P E A a c σ λe σ=>match e with
  | .normal=>Sg P E A b c σ K
  | .exit id=>K (.exit id) σ
  | .ret=>K .ret σ
  | .thr _=>False
 | .cond x a b,c,σ,K=>match σ.ev x with
  | .bool t=>zT t (Sg P E A a c (σ.know x true) K) (Sg P E A b c (σ.know x false) K)
  |_=>False
 | .block id body,_,σ,K=>Sg P E A body id σ λe σ=>match e with
  | .normal=>K .normal σ
  | .exit j=>bif Nat.beq j id then K .normal σ else K (.exit j) σ
  | .ret=>K .ret σ
  | .thr _=>False
 | .loop body,c,σ,K=>headD A (Yq A c) σ λσ=>∃n,DA (Sg P E A body c) A (Yq A c) n σ K
 | .exit id,_,σ,K=>K (.exit id) σ
 | .ret,_,σ,K=>K .ret σ
 |_,_,_,_=>False
section
variable {P:AcO}{E:TE}{A:xF}{b0:Yo}{w w' w0:World}{S R:Nat->Prop}{pl:Nat->Value}{N:Nat}{σ:St}{a:Act}{v:Value}{d:D}{o:Oper}
theorem zqJ{x:Addr}{u:Value}(h:w.cell? x=some u):x.block<w.heap.size:=by
 unfold World.cell? at h
 rcases AaP x.block w.heap.size with hl|hl
 ·exact hl
 ·rw[AbD hl]at h;cases h
theorem za8{x:Addr}(h:w'.heap[x.block]? =w.heap[x.block]?):w'.cell? x=w.cell? x:=by
 unfold World.cell?;rw[h]
theorem za9{b:Nat}(h:w'.heap[b]? =w.heap[b]?)(hs:VQ w b):VQ w' b:=by
 obtain⟨c,t,e⟩:=hs;exact⟨c,t,h.trans e⟩
theorem zqK{b:Nat}(h:VQ w b):b<w.heap.size:=by
 obtain⟨c,t,e⟩:=h;exact(Abd.1 e).1
theorem zqL{b i:Nat}{vs:Array Value}{T:AcN}{u u':Value}(hb:R b)(hg:w.heap[b]? =some (.cells vs T (0,0)))(hi:vs[i]? =some u)(hc:Gh u u'):
  WU R w (w.setRow b (spl vs.toList i [u']).toArray):=by
 have hlt:i<vs.size:=(Abd.1 hi).1;have hg':=setRow_heap w b vs (spl vs.toList i [u']).toArray T (0,0) hg;have ho:∀c,c≠b->(w.setRow b (spl vs.toList i [u']).toArray).heap[c]? =w.heap[c]? :=λc hc=>setRow_other _ _ _ _ hc
 refine⟨rfl,rfl,rfl,by rw[setRow_size];exact IN _,λc _ hr=>ho c λe=>hr (e▸hb),λx x' hx=> ?_,λc hs=> ?_⟩
 ·by_cases hxb:x.block=b
  ·unfold World.cell? at hx⊢
   rw[hxb,hg]at hx
   rw[hxb,hg'];simp only at hx⊢
   cases hsp:x.spot.isSome with
   |true=>rw[hsp]at hx;simp at hx
   |false=>
    rw[hsp]at hx
    simp only[AaR,if_false]at hx⊢
    have:=Ol (l:=vs.toList) (off:=i) (new:=[u']) (by simp;omega) x.off
    simp only[Ab4,this]
    by_cases hxi:i<=x.off/\x.off<i+[u'].length
    ·have e:x.off=i:=by have:=hxi.2;simp at this;omega
     rw[As hxi,e,AbU];rw[e,hi]at hx;injection hx with hx;subst hx
     exact⟨u',rfl,hc⟩
    ·rw[An hxi]
     exact⟨x',by simpa using hx,.refl _⟩
  ·exact⟨x',by rw[za8 (ho _ hxb)];exact hx,.refl _⟩
 ·by_cases hcb:c=b
  ·subst hcb;exact⟨_,_,hg'⟩
  ·exact za9 (ho c hcb) hs
def OkB(P:AcO)(w0:World)(R:Nat->Prop)(b:Yo):Prop:=
 (∀g,P.globalNamed "internal/strconv.uint64pow10" =some g->b.S g->¬Lo.new g)/\WU R w0 b.w/\(∀x,b.O x->w0.heap.size<=x)/\∀x,b.S x->Lo.new x->R x\/w0.heap.size<=x
def MtS(P:AcO)(w0:World)(R:Nat->Prop)(N:Nat)(σ:St)(a:Act)(w:World):Prop:=∃b,OkB P w0 R b/\Mt P b N σ a w
def QS(P:AcO)(w0:World)(R:Nat->Prop)(N:Nat)(K:Ex->St->Prop)(e:Exit)(a:Act)(w:World):Prop:=∃x σ,Ni e=some x/\K x σ/\MtS P w0 R N σ a w
theorem zsQ(hg:Ee P w R){g:Nat}(h:P.globalNamed "internal/strconv.uint64pow10" =some g):g<w.heap.size:=by
 have h1:=(hg.1 g h).1;rcases AaP g w.heap.size with hl|hl
 ·exact hl
 ·unfold Lib.TabIs World.var? at h1
  rw[h]at h1
  simp only[Abk,AbD hl]at h1
  cases h1
theorem OkB.tab(hb:OkB P w0 R b0)(m:tF P b0 N σ a w S pl){g:Nat}(h:P.globalNamed "internal/strconv.uint64pow10" =some g)(hs:S g):¬Lo.new g:=by
 rcases m.src g hs with h1|h1|h1
 ·exact hb.1 g h h1
 ·exact At h1 (m.gok.1 g h).2
 ·have:=zsQ m.gok h;omega
theorem WU.below{B:Nat}{O:Nat->Prop}(hB:w0.heap.size<=w.heap.size)(h:WU R w0 w)(hb:rE w.heap.size O w w')(hO:∀x,O x->w0.heap.size<=x):WU R w0 w':=by
 have same:∀c,c<w0.heap.size->w'.heap[c]? =w.heap[c]? :=λc hc=>hb.block c (Aaz hc hB) λho=>by have:=hO c ho;omega
 refine⟨hb.os.trans h.os,hb.tape.trans h.tape,hb.output.trans h.output,Aan h.size hb.size,λc hc hr=>(same c hc).trans (h.block c hc hr),λx u hx=> ?_,λc hs=> ?_⟩
 ·obtain⟨u',h1,h2⟩:=h.cell x u hx
  exact⟨u',by rw[za8 (same _ (zqJ hx))];exact h1,h2⟩
 ·exact za9 (same c (zqK hs)) (h.soft c hs)
theorem ze6(hb:OkB P w0 R b0)(hc:WU (RO true w S) w w')(m:tF P b0 N σ a w S pl){L:AcZ×AcZ}{K:St->Prop}(h:wob L σ K):∃σ' b,K σ'/\OkB P w0 R b/\tF P b N σ' a w' S pl:=by
 obtain⟨σ',hK,m'⟩:=zsO hc m (λg hg hs=>hb.tab m hg hs.1 hs.2.1) h
 obtain⟨h1,h2,h3⟩:=hb.2;have hw:=h1.below (B:=0) h1.size m.below h2
 have hO:∀x,DO σ pl x->w0.heap.size<=x:=λx ⟨k,o,hk,hx⟩=>by
  rcases(m.priv k o x hk hx).1 with h|h
  ·exact h2 x h
  ·exact Aan h1.size h
 have hS:∀x,S x->Lo.new x->R x\/w0.heap.size<=x:=λx hx hn=>by
  rcases m.src x hx with h|h|h
  ·exact h3 x h hn
  ·exact .inr (h2 x h)
  ·exact .inr (Aan h1.size h)
 refine⟨σ',_,hK,⟨λg hg hs=>hb.tab m hg hs,⟨hc.os.trans hw.os,hc.tape.trans hw.tape,hc.output.trans hw.output,Aan hw.size hc.size,λc hl hr=> ?_,λx u hx=> ?_,λc hs=>hc.soft c (hw.soft c hs)⟩,hO,hS⟩,m'⟩
 ·refine(hc.block c (Aaz hl hw.size) λhm=> ?_).trans (hw.block c hl hr)
  rcases hS c hm.1 hm.2.1 with h|h
  ·exact hr h
  ·omega
 ·obtain⟨u1,e1,c1⟩:=hw.cell x u hx
  obtain⟨u2,e2,c2⟩:=hc.cell x u1 e1;exact⟨u2,e2,c1.trans c2⟩
theorem zkB(F:vE P E)(hb:OkB P w0 R b0)(m:tF P b0 N σ a w S pl){K:D->St->Prop}{next:Act->World->Prop}{Q:Exit->Act->World->Prop}(h:Ei P E A o σ K)
  (hn:∀d σ' v w' b S' pl',K d σ'->OkB P w0 R b->tF P b N σ' a w' S' pl'->Rd w' S' pl' v d->next (a.put o.dst v) w'):o.wp P a w next Q:=
 zko F m h λd σ' v w' S' pl' hk hm hv=>hn d σ' v w' b0 S' pl' hk hb hm hv
theorem zlU{t:Ty}{cs:List Value}{xs:List t.den}(h:(@xU.list _ (Ty.rep (.mk true t))).rd w S cs xs):(@xU.list _ (Ty.rep t)).rd w S cs xs:=by
 obtain⟨A,c,e2,h0,h1,h2,h3,h4⟩:=h;refine⟨A,c,e2,h0,h1,h2,h3,λhn=> ?_⟩
 obtain⟨b,o,hA,hb,hc⟩:=h4 hn;refine⟨b,o,hA,hb,λi x hx=> ?_⟩
 obtain⟨cs,hr,hcell⟩:=hc i x hx;exact⟨cs,(Ty.rep t).mono hr (λ_ _=>rfl) λb hb=>zqb hb,hcell⟩
theorem zqM{t:Ty}{cs:List Value}{xs:List t.den}(hk:∀b,S b->RO true w S b)(h:(@xU.list _ (Ty.rep t)).rd w S cs xs):(@xU.list _ (Ty.rep (.mk true t))).rd w (RO true w S) cs xs:=by
 obtain⟨A,c,e2,h0,h1,h2,h3,h4⟩:=h;refine⟨A,c,e2,h0,h1,h2,h3,λhn=> ?_⟩
 obtain⟨b,o,hA,hb,hc⟩:=h4 hn;refine⟨b,o,hA,hk b hb,λi x hx=> ?_⟩
 obtain⟨cs,hr,hcell⟩:=hc i x hx;exact⟨cs,(Ty.rep t).mono hr (λ_ _=>rfl) λb hb=>⟨hk b hb,(hk b hb).2⟩,hcell⟩
theorem zsR{t:Ty}{xs:List t.den}(h: @fE _ (@xU.list _ (Ty.rep t)) w S v xs):En (.list t) xs:=by
 obtain⟨cs,_,h⟩:=h;exact zn7 (t:=t) (S':=S) h
theorem zoc{t:Ty}{x:t.den}{off:Nat}:(cells (.mk true t) x)[off]? =(cells t x)[off]?.map (Ao true):=by
 show((cells t x).map (Ao true))[off]? =_
 rw[Aaw]
theorem zsS(F:vE P E)(hs:∀f t,zW f E.sp=some t->Ent P f)(hb:OkB P w0 R b0)(m:tF P b0 N σ a w S pl){K:D->St->Prop}{next:Act->World->Prop}{Q:Exit->Act->World->Prop}(h:opS P E A o σ K)
  (hn:∀d σ' v w' b S' pl',K d σ'->OkB P w0 R b->tF P b N σ' a w' S' pl'->Rd w' S' pl' v d->next (a.put o.dst v) w'):o.wp P a w next Q:=by
 unfold opS at h
 split at h
 ·rename_i c ho
  split at h
  ·rename_i f x hcal hargs
   split at h
   ·rename_i t0 hl
    split at h
    ·rename_i t xs ex
     obtain⟨hsp,h⟩:=h;have hx:=tB m x;rw[ex]at hx
     have hv:=(hx.flat (d:=.sl (.mk true t) xs) rfl).sl_inv'
     have hv': @fE _ (@xU.list _ (Ty.rep t)) w (RO true w S) (a.eval x) xs:=by
      obtain⟨cs,e,hr⟩:=hv;exact⟨cs,e,zlU (t:=t) hr⟩
     have hrun:(execOp a.eval o).run P w=.ok (.enter f #[a.eval x]) w:=by
      unfold execOp;rw[ho];have he:a.eval (.func f)=.func (.func f) #[] #[]:=rfl
      have hm:c.args.map a.eval= #[a.eval x]:=by
       apply Array.toList_inj.1;rw[Array.toList_map,hargs];rfl
      simp only[resolve,hcal,he,Deferred.ofValue,invoke,IT,TO,No,Ab2,Array.append_empty,hm];exact hs f t0 hl _ _
     unfold Oper.wp;rw[hrun];have hc:=hsp w (RO true w S) (a.eval x) xs (λb hb=>m.lt b hb.1) (λb hb=>hb.2) (λg hg hm=>hb.tab m hg hm.1 hm.2.1) hv' (m.gnow λ_ h=>h.elim)
     refine hc.mono λe w' he=> ?_
     obtain⟨vs,rfl,hz,hch⟩:=he;obtain⟨σ',b,hk,hb',m'⟩:=ze6 hb hch m h;exact hn _ _ _ _ _ _ _ hk hb' m' (Rp.rd (.tup vs [] (by simpa using hz) λi d hd=>by simp at hd))
    ·exact h.elim
   ·exact zkB F hb m h hn
  ·exact zkB F hb m h hn
 ·rename_i T x y ho
  split at h
  ·rename_i t xs i off ex
   split at h
   ·rename_i ag z hl
    have hx:=tB m x;rw[ex]at hx
    obtain⟨b,o',c,hv,hi,hr⟩:=(hx.flat (d:=.elt (.mk true t) xs i off) rfl).elt_inv';obtain⟨b',o'',cs,e,hmk,hrd,hcell⟩:=Qo hr hi;injection e with e;injection e with e1 e2;subst e1 e2
    have ha:=cO (.mk true t) hrd;have hmk:RO true w S b:=hmk;obtain⟨vs,T',hg⟩:=hmk.2.2;have hget:xs.getD i t.dflt=xs[i]:=by rw[Aar,Aal hi];rfl
    have hy:=tB m y
    have fin:∀(d0 d1:D) (u':Value),(cells t (xs.getD i t.dflt))[off]? =some d0->Ao true d0=d0->σ.ev y=d1->Zq σ d1=some [d1]->kM d1=true->a.eval y=u'->u'.cells.toList=[u']->(∀u,Rp w (RO true w S) u d0->Gh u u')->wob A.keep σ (K .undef)->o.wp P a w next Q:=λd0 d1 u' h1 h2 h3 h4 h5 h6 h7 h8 hw=>by
     obtain⟨u,hu,hru⟩:=ha.at (i:=off) (b:=d0) (by rw[zoc,<-hget];erw[h1];simp[h2])
     have hcu:=hcell off u hu;rw[<-Ty.size_eq]at hcu
     rw[cell_of_row w b _ vs T' (0,0) hg]at hcu
     have hlt:=(Abd.1 hcu).1;have hc:=Oj m hy (by rw[h3];exact h4)
     have hst:=Sa F hl hc rfl (by simp[h5]) hg (off:=o'+i*(Ty.mk true t).size+off) (by simp;omega)
     rw[h6,h7]at hst
     have hch:WU (RO true w S) w _:=zqL (R:=RO true w S) hmk hg hcu (h8 u (hru.mono (λ_ _=>rfl) λ_ h=>h))
     have hrun:(execOp a.eval o).run P w=.ok .skip (w.setRow b (spl vs.toList (o'+i*(Ty.mk true t).size+off) [u']).toArray):=by
      unfold execOp;rw[ho];simp only[Instr.storeAt,hv,Instr.sureAddr,IT,TO,No,h6,hst]
     obtain⟨σ',bb,hk,hb',m'⟩:=ze6 hb hch m hw;exact zcr hrun (hn _ _ _ _ _ _ _ hk hb' m' tD)
    split at h
    ·rename_i n n' e1 e2
     rw[e2]at hy
     obtain⟨h1,h2⟩:=(hy.flat (d:=.int .i64 n') rfl).int_inv;exact fin _ _ _ e1 rfl e2 rfl rfl h1 rfl (λu hu=> .inr (.inl ⟨n,n',hu.int_inv.1,rfl,h2⟩)) h
    ·rename_i n n' e1 e2
     rw[e2]at hy
     obtain⟨h1,h2⟩:=(hy.flat (d:=.str n') rfl).str_inv;exact fin _ _ _ e1 rfl e2 rfl rfl h1 rfl (λu hu=> .inr (.inr ⟨n,n',hu.str_inv.1,rfl,h2⟩)) h
    ·exact h.elim
   ·exact h.elim
  ·exact zkB F hb m h hn
 ·exact zkB F hb m h hn
theorem zcX(F:vE P E)(hs:∀f t,zW f E.sp=some t->Ent P f){all:List Oper}{K:Ex->St->Prop}{Q:Exit->Act->World->Prop}(hQ:∀σ a w,K .normal σ->MtS P w0 R A.n σ a w->Q .normal a w):
  ∀(l:List Oper) (σ:St) (a:Act) (w:World),XW A.n l=true->zqI P E A all l σ K->MtS P w0 R A.n σ a w->wpList P all.toArray Q l a w
 |[],σ,a,w,_,h,m=>hQ σ a w h m
 |o::r,σ,a,w,hd,h,⟨b,hb,m⟩=>by
  simp only[XW,If]at hd
  have hdst:∀i,o.dst=some i->i<A.n:=λi hi=>Yr (l:=[o]) (by simp[XW,hd.1]) o (by simp) i hi
  unfold wpList;rcases Zs (a:=a) (w:=w) h σ (.refl σ) m with⟨hw,σ',hl,hy⟩|⟨hw,σ',hl,hn⟩
  ·rw[As hw]
   left;obtain⟨S,pl,m'⟩:=m.like hl;exact zsS F hs hb m' hy λd σ'' v w' b' S' pl' hk hb' hm hv=>zcX F hs hQ r _ _ _ hd.2 hk ⟨b',hb',S',pl',hm.putO hdst hv⟩
  ·rw[An (by rw[hw];simp)]
   obtain⟨S,pl,m'⟩:=m.like hl;exact zcX F hs hQ r _ _ _ hd.2 hn ⟨b,hb,S,pl,m'.putO hdst LW⟩
theorem zkC(F:vE P E)(hs:∀f t,zW f E.sp=some t->Ent P f):∀(c:Code) (cur:Nat) (σ:St) (K:Ex->St->Prop) (a:Act) (w:World),Sg P E A c cur σ K->MtS P w0 R A.n σ a w->c.wp P (QS P w0 R A.n K) a w:=by
 intro c
 induction c with
 |skip=>intro cur σ K a w h m;exact wp_skip ⟨.normal,σ,rfl,h,m⟩
 |region id ops draw=>
  intro cur σ K a w h m;unfold Sg at h
  cases draw with
  |false=>
   cases hd:XW A.n ops.toList with
   |false=>rw[hd]at h;exact h.elim
   |true=>
    rw[hd]at h
    refine wp_region ?_;have hl:=wpOps_eq_wpList (P:=P) (ops:=ops) (Q:=QS P w0 R A.n K) ops.toList 0 (λj=>by simp)
    rw[show List.range ops.size=List.range' 0 ops.toList.length by simp[List.range_eq_range'],hl]
    exact zcX F hs (λσ a w hk m=>⟨.normal,σ,rfl,hk,m⟩) ops.toList σ a w hd h m
  |true=>
   obtain⟨b,hb,m⟩:=m;refine wp_mono (za2 F h m) λe a w h=> ?_
   rcases h with⟨x,σ',he,hk,m'⟩|⟨u,σ',rfl,hk,dz,hbb⟩
   ·cases x<;>first|exact⟨_,σ',he,hk,b,hb,m'⟩|exact hk.elim
   ·exact hk.elim
 |seq x y ihx ihy=>
  intro cur σ K a w h m;unfold Sg at h
  refine wp_seq (wp_mono (ihx cur σ _ a w h m) λe a w h=> ?_)
  obtain⟨x,σ',he,hk,m'⟩:=h;cases e<;>simp only[Ni,Option.some.injEq,reduceCtorEq]at he<;>subst he
  ·exact ihy cur σ' K a w hk m'
  ·exact⟨_,σ',rfl,hk,m'⟩
  ·exact⟨_,σ',rfl,hk,m'⟩
 |cond x y z ihy ihz=>
  intro cur σ K a w h m;unfold Sg at h
  split at h
  ·rename_i t hx
   obtain⟨b,hb,m0⟩:=m;have m1:=m0;obtain⟨S,pl,m⟩:=m0;have hv:a.eval x=.bool t:=by have:=tB m x;rw[hx]at this;exact(this.flat (d:=.bool t) rfl).bool_inv
   have hlk:tC σ (σ.know x t):=by
    cases x with
    |tmp s=>exact QA hx
    |_=>exact .refl σ
   cases t
   ·exact wp_cond_false hv (ihz cur _ K a w h ⟨b,hb,m1.like hlk⟩)
   ·exact wp_cond_true hv (ihy cur _ K a w h ⟨b,hb,m1.like hlk⟩)
  ·exact h.elim
 |block id body ih=>
  intro cur σ K a w h m;unfold Sg at h
  refine wp_block (wp_mono (ih id σ _ a w h m) λe a w h=> ?_)
  obtain⟨x,σ',he,hk,m'⟩:=h;cases e<;>simp only[Ni,Option.some.injEq,reduceCtorEq]at he<;>subst he
  ·exact⟨_,σ',rfl,hk,m'⟩
  ·rename_i j
   simp only at hk
   unfold Exit.inBlock
   by_cases hj:j=id
   ·rw[xA.2 hj,AI]at hk
    simp only[hj,if_true];exact⟨_,σ',rfl,hk,m'⟩
   ·rw[fN hj,Aag]at hk
    simp only[hj,if_false];exact⟨_,σ',rfl,hk,m'⟩
  ·exact⟨_,σ',rfl,hk,m'⟩
 |loop body ih=>
  intro cur σ K a w h m;unfold Sg at h
  obtain⟨b,hb,m⟩:=m;obtain⟨σ',⟨n,hn⟩,m'⟩:=El h m;refine wp_loop_rounds n ?_;replace m':MtS P w0 R A.n σ' a w:=⟨b,hb,m'⟩;clear h m hb;clear b
  induction n generalizing σ' a w with
  |zero=>exact hn.elim
  |succ n ihn=>
   rw[rounds_succ];unfold DA at hn
   refine wp_mono (ih cur σ' _ a w hn m') λe a w h=> ?_
   obtain⟨x,σ'',he,hk,m''⟩:=h;cases e<;>simp only[Ni,Option.some.injEq,reduceCtorEq]at he<;>subst he
   ·obtain⟨b,hb,m''⟩:=m''
    obtain⟨σ3,hk,m3⟩:=El hk m'';exact ihn a w σ3 hk ⟨b,hb,m3⟩
   ·exact⟨_,σ'',rfl,hk,m''⟩
   ·exact⟨_,σ'',rfl,hk,m''⟩
 |exit id=>intro cur σ K a w h m;exact wp_exit ⟨.exit id,σ,rfl,h,m⟩
 |ret=>intro cur σ K a w h m;exact wp_ret ⟨.ret,σ,rfl,h,m⟩
 |_=>intro cur σ K a w h m;exact h.elim
theorem vE.sp(F:vE P E)(s:List (AcM×Ty)):vE P {E with sp:=s}:=
 ⟨F.zs,F.sl,F.fld,F.strs,F.ints,F.bools,F.sig,F.hsig,F.arr,F.mps,F.sts,F.mixed,F.byt⟩
theorem Gj{f:AcM}{t:Ty}:∀ {l:List (AcM×Ty)},(∀x∈l,Ent P x.1)->zW f l=some t->Ent P f
 |[],_,h=>by cases h
 |x::l,hl,h=>by
  rw[show x=(x.1,x.2)from rfl,xM]at h
  split at h
  ·rename_i e;subst e;exact hl x (Aaa)
  ·exact Gj (λy hy=>hl y (Aac _ hy)) h
def zuC(P:AcO)(E:TE)(A:xF)(b:Code)(c:Nat)(K:Ex->St->Prop):Ex->St->Prop:=λe σ=>match e with
 | .normal=>Sg P E A b c σ K
 | .exit id=>K (.exit id) σ
 | .ret=>K .ret σ
 | .thr _=>False
def cG(id:Nat)(K:Ex->St->Prop):Ex->St->Prop:=λe σ=>match e with
 | .normal=>K .normal σ
 | .exit j=>bif Nat.beq j id then K .normal σ else K (.exit j) σ
 | .ret=>K .ret σ
 | .thr _=>False
def zqN(e:Ex)(σ:St):Prop:=match e with
 | .normal=>True
 | .ret=>True
 |_=>False
def fnS(P:AcO)(E:TE)(A:xF)(body:Code)(args:AcT):Prop:=Sg P E A body 0 (St.init args) zqN
theorem zhb(F:vE P E)(hs:∀f t,zW f E.sp=some t->Ent P f){f:AcM}{fn:Func}{body:Code}{t:Ty}(hf:P.funcs[f]? =some fn)(hb:fn.body=some body)(hr:fn.results.toList=[])(hn:A.n=fn.ntmps)(hle:1<=fn.ntmps)
  (h:∀xs:List t.den,En (.list t) xs->fnS P E A body [.sl (.mk true t) xs]):AA P f t:=by
 intro w S v xs hS hsoft htab hv hg;refine calls_of_wp hf hb ?_;have hmk:∀b,S b->RO true w S b:=λb hb=>⟨hb,hsoft b hb⟩
 have hrp:Rp w S v (.sl (.mk true t) xs):=by
  obtain⟨cs,e,hr⟩:=hv;exact .sl (.mk true t) xs v ⟨cs,e,zqM hmk hr⟩
 have m0:tF P ⟨w,S,λ_=>False,λ_=>undef⟩ A.n (St.init [.sl (.mk true t) xs]) {tmps:= #[v]++Array.replicate (fn.ntmps-1) undef,defers:=[]} w S (λ_=>undef):=by
  refine⟨rfl,by simp;omega,λi=> ?_,(λk o h=>by cases h),hS,λb h=> .inl h,(λk o b h=>by cases h),(λk k' o o' b h=>by cases h),.of (Below.refl _ _),λ_ _=>rfl,hg⟩
  rw[L0];cases i with
  |zero=>
   show Rd w S _ ((#[v]++Array.replicate (fn.ntmps-1) undef).getD 0 undef) (.sl (.mk true t) xs)
   rw[Aaj,Ab5 (by simp)]
   exact hrp.rd
  |succ i=>exact tD
 have hok:OkB P w S ⟨w,S,λ_=>False,λ_=>undef⟩:=⟨λg hg hs=>At hs (htab g hg),.refl S w,λx h=>h.elim,λx h _=> .inl h⟩
 refine wp_mono (zkC (w0:=w) (R:=S) F hs body 0 _ _ _ w (h xs (zsR hv)) ⟨_,hok,_,_,m0⟩) λe a w' hq=> ?_
 obtain⟨x,σ,he,hk,b,hb',S',pl,m⟩:=hq;obtain⟨h1,h2,h3⟩:=hb'.2;have hw:=h1.below (B:=0) h1.size m.below h2
 have hres:(results fn a.tmps).run P w'=.ok (.tuple #[]) w':=by
  have hr0:results fn a.tmps=(do let vs<-fn.results.mapM (XO a);pure (if h:vs.size=1 then vs[0]else .tuple vs)):=rfl
  rw[hr0];simp only[Acs,hr,List.mapM_nil,IT,map_eq_pure_bind,No,TO];rfl
 have fin:a.defers=[]/\∃v,(results fn a.tmps).run P w'=.ok v w'/\∃vs,Ending.returned v=.returned (.tuple vs)/\vs.size=0/\WU S w w':=⟨m.dz,_,hres,#[],rfl,rfl,hw⟩;cases e<;>simp only[Ni,Option.some.injEq,reduceCtorEq]at he<;>subst he
 ·exact fin
 ·exact hk.elim
 ·exact fin
end
end Go.Proofs.YtdnmkinmcdihnaaGreatDoor
