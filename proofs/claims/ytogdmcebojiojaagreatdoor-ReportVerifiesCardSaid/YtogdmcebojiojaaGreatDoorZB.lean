/- Texts of this proof, one behind the other: nothing is handed in but what is proved here; no condition. -/
import Derived.Laws.StructEq
import Derived.ChangeKeysEq
import Derived.MapKept
import Derived.LoopN
import Derived.Orders
import Derived.Still
import Derived.Test.YtogdmcebojiojaaGreatDoorZA
set_option linter.unusedVariables false
set_option linter.unusedSimpArgs false
namespace Go.Proofs.YtogdmcebojiojaaGreatDoor
open Go.RowKit
set_option maxRecDepth 100000
section
variable {P:AcJ}{E:TE}{A:wG}{b0:Tx}{w w':World}{S S':Nat->Prop}{pl pl':Nat->Value}{N:Nat}{σ:St}{a:Act}{v:Value}{d:D}{o:Oper}{K:D->St->Prop}{next:Act->World->Prop}{Q:Exit->Act->World->Prop}
theorem zaf{α:Type}{s:Nat}:∀(css:List (List α)) (_:∀cs∈css,cs.length=s),css.flatten.length=css.length*s
 |[],_=>by simp
 |c::css,hl=>by
  have ih:=zaf css (λcs hcs=>hl cs (by simp[hcs]))
  simp only[Aa6,It,Aad,ih,hl c (by simp),Abm];omega
theorem zdf(off:Nat):∀(vl:List Value) (j0:Nat) (cells:Array Value) (p:Nat),off+j0+vl.length<=cells.size->
  ((vl.zipIdx j0).foldl (λcs (x:Value×Nat)=>cs.setIfInBounds (off+x.2) x.1) cells)[p]? =(if off+j0<=p/\p<off+j0+vl.length then vl[p-(off+j0)]? else cells[p]?)
 |[],j0,cells,p,h=>by simp;intro h1 h2;omega
 |v::vl,j0,cells,p,h=>by
  simp only[Aad]at h
  rw[List.zipIdx_cons,AbO,zdf off vl (j0+1) _ p (by simp;omega)]
  by_cases h1:p=off+j0
  ·subst h1
   rw[An (by omega),As (by simp),Array.getElem?_setIfInBounds_self_of_lt (by omega)]
   simp
  ·rw[Acz (Ne.symm h1)]
   by_cases h2:off+(j0+1)<=p/\p<off+(j0+1)+vl.length
   ·rw[As h2,As (by simp;omega)]
    rw[show p-(off+j0)=(p-(off+(j0+1)))+1 by omega,Ace]
   ·rw[An h2,An (by simp;omega)]
theorem zag(off:Nat):∀(l:List (Value×Nat)) (cells:Array Value),(l.foldl (λcs (x:Value×Nat)=>cs.setIfInBounds (off+x.2) x.1) cells).size=cells.size
 |[],_=>rfl
 |x::l,cells=>by rw[AbO,zag off l];simp
theorem zjT(vs:Array Value)(off:Nat)(cells:Array Value)(h:off+vs.size<=cells.size):
  (vs.zipIdx.foldl (λcs (x:Value×Nat)=>cs.setIfInBounds (off+x.2) x.1) cells).toList=spl cells.toList off vs.toList:=by
 have hl:vs.zipIdx.toList=vs.toList.zipIdx 0:=by simp
 rw[<-Array.foldl_toList,hl];apply Acd;intro p;rw[AaE,zdf off vs.toList 0 cells p (by simp;omega),Jv (by simp;omega)]
 simp
theorem zbM(m:qQ P b0 N σ a w S pl){place:Nat->Option (Nat×Nat)}:∀(parts:List (Nat×Operand)) (ds ds':AcO) (cells:Array Value),LK σ place ds parts=some ds'->wF (Rc w S pl) cells.toList ds->
  ∃cells',Instr.fill place cells (parts.map λx=>(x.1,a.eval x.2))=some cells'/\wF (Rc w S pl) cells'.toList ds'
 |[],ds,ds',cells,h,hr=>by
  injection h with h;subst h
  exact⟨cells,rfl,hr⟩
 |(f,x)::r,ds,ds',cells,h,hr=>by
  unfold LK at h
  cases hp:place f with
  |none=>rw[hp]at h;cases h
  |some y=>
   obtain⟨off,sz⟩:=y;rw[hp]at h
   simp only at h
   have hnew:∀new,Mw σ (σ.ev x) ds[off]? =some new->wF (Rc w S pl) (a.eval x).cells.toList new:=by
    intro new hn;unfold Mw at hn
    split at hn
    ·rename_i t ys e1 e2
     injection hn with hn;subst hn
     have hx:=rF m x;rw[e1]at hx
     rw[(hx.flat (d:=.nil) rfl).nil_inv];exact .cons ⟨Rp.rd (.sl _ _ _ ⟨[.slice none 0 0],rfl,none,0,rfl,by simp,by simp,by simp,λ_=>rfl,λhn=>At hn (by simp)⟩),λ_=>rfl⟩ .nil
    ·rename_i t ys nl e1
     injection hn with hn;subst hn
     have hx:=rF m x;rw[e1]at hx
     have h1:=(hx.flat (d:=.slN t ys nl) rfl).slN_inv.1;obtain⟨A,c,e,_⟩:=rN h1;rw[show(a.eval x).cells.toList=[a.eval x] by rw[e];rfl]
     exact .cons ⟨Rp.rd (.sl _ _ _ h1),λ_=>by rw[e];rfl⟩ .nil
    ·exact Hk m (rF m x) hn
   split at h
   ·rename_i new he
    have hn:=hnew new he;cases hb:Nat.beq new.length sz&&Nat.ble (off+sz) ds.length with
    |false=>rw[hb]at h;cases h
    |true=>
     rw[hb,AI]at h
     simp only[If]at hb
     have h1:=xG.1 hb.1;have h2:=Aat hb.2;have hl:=hr.len;have hl2:=hn.len;simp only[Acc]at hl hl2
     have hs:=wF.spl hr hn (off:=off) (by omega)
     rw[<-zjT _ _ _ (by omega)]at hs
     obtain⟨cells',q1,q2⟩:=zbM m r _ ds' _ h hs;refine⟨cells',?_,q2⟩;rw[Aak];unfold Instr.fill;rw[hp];simp only
     rw[An (by
      intro h;simp only[AaJ,decide_eq_true_eq]at h
      omega)]
     exact q1
   ·cases h
theorem znj{vs:List Value}{ds:AcO}(h:F1 vs ds=true):wF (Rc w S pl) vs ds:=(Ki (w:=w) (S:=S) h).imp λ_ _ h=>⟨h.rd,zfq h⟩
theorem zjU(F:sR P E){T:AcI}{pf:Nat->Option (Nat×Nat)}(h:zbD E T=some pf){i:TypeInfo}{z:Value}(hi:P.info? T=some i)(hz:i.zero=some z)(parts:List (Nat×Value)):P.built T parts=Instr.fill pf z.cells parts:=by
 unfold zbD at h
 cases hm:pX T E.arr with
 |true=>
  rw[hm,AI]at h;injection h with h;subst h
  obtain⟨e,ie,hu,hie,hs⟩:=F.arr T hm;unfold Program.built;rw[hi,hu];simp only[hz,hie,hs,Abg]
 |false=>
  rw[hm,Vs]at h
  split at h
  ·rename_i offs hf
   injection h with h;subst h
   obtain⟨fs,hu',hm,_⟩:=F.fld T offs hf;unfold Program.built;rw[hi,hu'];simp only[hz,hm];have:(λi:Nat=>offs.toArray[i]?)=λi:Nat=>offs[i]? :=by funext i;simp
   rw[this]
  ·cases h
theorem zjV(F:sR P E)(m:qQ P b0 N σ a w S pl){T:AcI}{parts:Array (Nat×Operand)}(ho:o.op=.build T parts)(h:Dt E A o T parts.toList σ K)(hn:rY P b0 N o a K next):o.wp P a w next Q:=by
 unfold Dt at h
 split at h
 ·rename_i zs pf hl hf
  obtain⟨i,z,u,hi,hz,hsz,hu,hag,hzb⟩:=(F.zs T true zs hl).ex;split at h
  ·rename_i ds hfill
   obtain⟨cells',q1,q2⟩:=zbM m _ _ _ z.cells hfill (znj hzb)
   have hb:P.built T (parts.toList.map λx=>(x.1,a.eval x.2))=some cells':=by
    rw[zjU F hf hi hz];exact q1
   have hrun:(execOp a.eval o).run P w=.ok (.value (.agg cells')) w:=by
    unfold execOp;rw[ho];have e:(parts.map λx=>(x.1,a.eval x.2)).toList=parts.toList.map λx=>(x.1,a.eval x.2):=by simp
    have:=run_build (P:=P) w T (parts.map λx=>(x.1,a.eval x.2)) cells' (by rw[e];exact hb)
    simp only[IS,this,IT,No]
   cases hv:pX T E.vals&&zbC o.dst with
   |true=>
    rw[hv,AI]at h
    simp only[If]at hv
    have hst:stabK (zib o.dst)=false:=by
     have:=hv.2;cases hd:o.dst with
     |none=>rw[hd]at this;cases this
     |some j=>rw[hd]at this;simpa[zbC,zib]using this
    refine yV hrun (hn _ _ _ _ _ _ h (m.mk' (w':=w) (zib o.dst) hst _ (.agg cells') (Below.refl _ _) (λb hb=>by cases hb) λpl' hpl=> ?_) (As rfl).symm)
    refine⟨cells',rfl,by have:=q2.len;simpa using this,λj d hd=> ?_⟩
    simp only[Aau,Aba]at hd
    obtain⟨d0,hd0,rfl⟩:=hd;obtain⟨u0,hu0,hr1,hr2⟩:=q2.at hd0;have e:cells'.getD j undef=u0:=by rw[Aae];rw[AaE]at hu0;rw[hu0];rfl
    rw[e];exact⟨(hr1.kill _).mono (λ_ _=>rfl) (λ_ h=>h) λk hk=>hpl k λek=>UC _ _ (ek▸hk),λhc=>hr2 (Mu hc)⟩
   |false=>
    rw[hv,Vs]at h
    obtain⟨σ',ds',S',hK,hS,m',hv⟩:=oE h m;have hr:=hv _ (q2.imp λ_ _ h=>h.1)
    exact yV hrun (hn _ _ _ _ _ _ hK m' (Rp.rd (.agg _ _ (by simpa using hr.len) λj d hd=>VH hr j d hd)))
  ·exact h.elim
 ·exact h.elim
theorem zdg{t:Ty}:∀(n:Nat) (ds:AcO) (xs:List t.den) (vs:List Value),elems t n ds=some xs->wF (Rp w S) vs ds->vs.length=n*t.size->
  ∃css:List (List Value),css.flatten=vs/\css.length=xs.length/\xs.length=n/\(∀cs∈css,cs.length=t.size)/\∀(i:Nat) (x:t.den) (cs:List Value),xs[i]? =some x->css[i]? =some cs->vV.rd w S cs x
 |0,ds,xs,vs,h,hr,hl=>by
  injection h with h;subst h
  have:vs=[]:=Aa9 (by omega)
  subst this;exact⟨[],rfl,rfl,rfl,by simp,by simp⟩
 |n+1,ds,xs,vs,h,hr,hl=>by
  unfold elems at h
  split at h
  ·rename_i x ys h1 h2
   injection h with h;subst h
   rw[Abm]at hl
   obtain⟨css,e1,e2,e3,e4,e5⟩:=zdg n _ _ (vs.drop t.size) h2 (hr.drop t.size) (by simp;omega)
   have hlen:(vs.take t.size).length=t.size:=by simp;omega
   refine⟨vs.take t.size::css,by rw[Aa6,e1,List.take_append_drop],by simp[e2],by simp[e3],λcs hcs=> ?_,λi z cs hz hcs=> ?_⟩
   ·rcases OF.1 hcs with rfl|hcs
    ·exact hlen
    ·exact e4 cs hcs
   ·cases i with
    |zero=>
     simp at hz hcs;subst hz hcs
     exact OD t h1 (hr.take t.size)
    |succ i=>exact e5 i z cs (by simpa using hz) (by simpa using hcs)
  ·cases h
theorem zft{vs:Array Value}{css:List (List Value)}{e:AcI}{t:Ty}{xs:List t.den}(hw:w'.heap[w.heap.size]? =some (.cells vs e (0,0)))(h1:css.flatten=vs.toList)(h2:css.length=xs.length)(h3:∀cs∈css,cs.length=t.size)
  (h4:∀(i:Nat) (x:t.den) (cs:List Value),xs[i]? =some x->css[i]? =some cs->vV.rd w' S cs x) (hb:xQ t xs.length=true):
  W2 w' S pl (.slice (some ⟨w.heap.size,0,none⟩) xs.length xs.length) (.row e t xs):=by
 have hb:xs.length*t.bytes<=140737488355328:=By hb;have hbp:0<t.bytes:=t.bytes_pos;have hle:xs.length<=xs.length*t.bytes:=Nat.le_mul_of_pos_right _ hbp;refine⟨hb,css,h2,⟨by rw[UB _ h3,h2],.inr ⟨w.heap.size,xs.length,vs,rfl,AT _,hw,BY _,by unfold maxLen;omega,?_,?_⟩⟩,h3,h4⟩
 ·rw[<-Acc,<-h1,UB _ h3,h2]
 ·rw[h1,AaP];rw[<-h1,UB _ h3,h2];exact BY _
theorem zhc{vs:Array Value}{n:Nat}{ds:AcO}{t:Ty}{xs:List t.den}(e:AcI)(hr:wF (Rp w S) vs.toList ds)(h:elems t n ds=some xs)(hl:vs.size=n*t.size)(hb:xQ t n=true)(m:qQ P b0 N σ a w S pl):
  xs.length=n/\(∀k,stabK k=false->qQ P b0 N (σ.mk' k (.row e t xs)) a (w.alloc (.cells vs e)) S (MT pl k (.slice (some ⟨w.heap.size,0,none⟩) n n)))/\
   qQ P b0 N σ a (w.alloc (.cells vs e)) (λb=>S b\/b=w.heap.size) pl/\XX (w.alloc (.cells vs e)) (λb=>S b\/b=w.heap.size) (.slice (some ⟨w.heap.size,0,none⟩) n n) xs:=by
 obtain⟨css,e1,e2,e3,e4,e5⟩:=zdg n ds xs vs.toList h hr (by simpa using hl)
 have hkeep:=Kk m (.cells vs e)
 have key:∀S',(∀b,S b->S' b)->∀pl',W2 (w.alloc (.cells vs e)) S' pl' (.slice (some ⟨w.heap.size,0,none⟩) xs.length xs.length) (.row e t xs):=λS' hS' pl'=>
  zft (w:=w) (heap_alloc_new w _) e1 e2 e4 (λi x cs hx hcs=>vV.mono (e5 i x cs hx hcs) hkeep hS') (by rw[e3];exact hb)
 rw[<-e3];refine⟨rfl,λk hst=>m.mk' (w':=w.alloc (.cells vs e)) k hst _ _ (OK w _) (λb hb'=>by injection hb' with hb';subst hb';exact⟨BY _,by show w.heap.size<_;rw[Kj];omega⟩) λpl' _=>key S (λ_ h=>h) pl',m.newS _,?_⟩
 have:=VW (key S (λ_ h=>h) pl)
 exact XX.mono this (λ_ _=>rfl) λb hb'=>by
  rcases hb' with hb'|hb'
  ·exact .inl hb'
  ·injection hb' with hb';exact .inr hb'.symm
theorem Dw{z:Value}{t:Ty}(hz:F1 z.cells.toList (cells t t.dflt)=true)(hs:(cells t t.dflt).length=t.size)(n:Nat):
  wF (Rp w S) (madeCells z.cells (n*t.size)).toList (List.replicate n (cells t t.dflt)).flatten:=by
 have hr:wF (Rp w S) z.cells.toList (cells t t.dflt):=Ki hz;have hzl:z.cells.size=t.size:=by have:=hr.len;simp at this;omega
 have hpos:0<t.size:=by rw[Ty.size_eq];exact vV.pos
 have hlen:(List.replicate n (cells t t.dflt)).flatten.length=n*t.size:=by
  rw[zaf (s:=t.size)]
  ·simp
  ·intro cs hcs;rw[(List.mem_replicate.1 hcs).2,hs]
 refine wF.of (by rw[hlen];simp[madeCells]) λi u d hu hd=> ?_
 have hi:i<n*t.size:=by rw[<-hlen];exact(AaD.1 hd).1
 rw[OL hpos _ (λcs hcs=>by rw[(List.mem_replicate.1 hcs).2,hs])]at hd
 have hq:i/t.size<n:=Nat.div_lt_of_lt_mul (by rw[Nat.mul_comm];exact hi)
 rw[List.getElem?_replicate,As hq]at hd
 simp only[AbH]at hd
 have hu':u=z.cells[i%z.cells.size]! :=by
  simp only[madeCells,Array.toList_map,Array.toList_range,Aau,List.getElem?_range hi,Abe,Option.some.injEq]at hu
  exact hu.symm
 obtain⟨u2,h1,h2⟩:=hr.at hd;rw[hu',hzl]
 have:z.cells[i%t.size]! =u2:=by
  rw[AaE]at h1
  simp[getElem!_def,h1]
 rw[this];exact h2
theorem B5(F:sR P E)(m:qQ P b0 N σ a w S pl){T:AcI}{len:Nat}{parts:Array (Nat×Operand)}(ho:o.op=.buildSlice T len parts)(h:W3 E A o T len parts.toList σ K)(hn:rY P b0 N o a K next):o.wp P a w next Q:=by
 unfold W3 at h
 split at h
 ·rename_i e t hl
  obtain⟨hu,i,z,hi,hz,hsz,hby,hzb⟩:=F.sl T e t hl;cases hb:xQ t len&&Nat.ble (len*t.size) 16777216 with
  |false=>rw[hb]at h;exact h.elim
  |true=>
   rw[hb,AI]at h
   simp only[If]at hb
   have hle:=Aat hb.2;split at h
   ·rename_i ds hfill
    have hz0:=Dw (w:=w) (S:=S) hzb (aR t _) len;obtain⟨cells',q1,q2⟩:=zbM m _ _ _ (madeCells z.cells (len*t.size)) hfill (hz0.imp λ_ _ h=>⟨h.rd,zfq h⟩)
    have hsize:cells'.size=len*t.size:=by
     have key:∀(place:Nat->Option (Nat×Nat)) (l:List (Nat×Value)) (c c':Array Value),Instr.fill place c l=some c'->c'.size=c.size:=by
      intro place l
      induction l with
      |nil=>intro c c' h;injection h with h;rw[h]
      |cons x l ih=>
       intro c c' h;obtain⟨i,v⟩:=x;unfold Instr.fill at h
       split at h
       ·cases h
       ·split at h
        ·cases h
        ·rw[ih _ _ h]
         rw[<-Array.foldl_toList];exact zag _ _ _
     rw[key _ _ _ _ q1];simp[madeCells]
    have hpos:0<t.size:=by rw[Ty.size_eq];exact vV.pos
    have hrun:(execOp a.eval o).run P w=.ok (.value (.slice (some ⟨w.heap.size,0,none⟩) len len)) (w.alloc (.cells cells' e)):=by
     unfold execOp;rw[ho];have hs:(sizeOf e).run P w=.ok t.size w:=Km F hl;have e2:(parts.map λx=>(x.1,a.eval x.2)).toList=parts.toList.map λx=>(x.1,a.eval x.2):=by simp
     have hzv:(zeroValue e).run P w=.ok z w:=by simp[zeroValue,typeInfo,hi,hz]
     simp only[Instr.buildSlice,IS,run_underlying hu,IT,hs,An (Nat.not_lt.2 hle),No]
     by_cases h0:len*t.size=0
     ·rw[h0]at q1
      have hm:madeCells z.cells 0= #[]:=by simp[madeCells]
      rw[hm]at q1
      rw[As h0,h0];have hr0:((Array.range 0).map λx=>(#[]:Array Value)[x%(#[]:Array Value).size]!)= #[]:=by simp
      simp only[IS,No,IT];rw[e2,hr0,q1];rfl
     ·rw[An h0]
      simp only[IS,No,IT,hzv];have q1':=q1;unfold madeCells at q1'
      rw[e2,q1'];rfl
    obtain⟨σ',ds',S',hK,hS,m',hv⟩:=oE h m;have hr:=hv _ (q2.imp λ_ _ h=>h.1)
    split at hK
    ·rename_i xs hel
     obtain⟨r1,r2,r3,r4⟩:=zhc e hr hel hsize hb.1 m';split at hK
     ·rename_i k hk
      refine yV hrun (hn _ _ _ _ _ _ hK (r2 k (aS ‹_›)) ?_);cases pX k A.nn
      ·exact(As rfl).symm
      ·exact⟨(As rfl).symm,λe=>by cases e⟩
     ·exact yV hrun (hn _ _ _ _ _ _ hK r3 (Rp.rd (.sl t xs _ r4)))
    ·exact hK.elim
   ·exact h.elim
 ·exact h.elim
theorem Dx(t:Ty):∀n:Nat,ofD t (cells t t.dflt)=some t.dflt->elems t n (List.replicate n (cells t t.dflt)).flatten=some (List.replicate n t.dflt)
 |0,_=>rfl
 |n+1,h=>by
  unfold elems
  rw[List.replicate_succ,Aa6,List.take_append_of_le_length (by rw[aR];exact BY _),AaP (by rw[aR];exact BY _),
   show t.size=(cells t t.dflt).length by rw[aR],List.drop_left,h,Dx t n h]
  rfl
theorem zbN(F:sR P E)(m:qQ P b0 N σ a w S pl){T:AcI}{l c:Operand}(ho:o.op=.makeSlice T l c)(h:UD E A o T (σ.ev l) (σ.ev c) σ K)(hn:rY P b0 N o a K next):o.wp P a w next Q:=by
 have hx:=rF m l;have hy:=rF m c;unfold UD at h
 split at h
 ·rename_i e t hl
  obtain⟨hu,i,z,hi,hz,hsz,hby,hzb⟩:=F.sl T e t hl;split at h
  ·rename_i p q ex ey
   rw[ex]at hx;rw[ey]at hy
   obtain⟨hx,kx⟩:=(hx.flat (d:=.int .i64 p) rfl).int_inv;obtain⟨hy,ky⟩:=(hy.flat (d:=.int .i64 q) rfl).int_inv;obtain⟨rfl,h0,hroom,h⟩:=h;have hroom':p.toNat*t.bytes<=140737488355328:=By hroom
   have hb:(i.bytes:Int)*p<=281474976710656:=by
    rw[hby]
    have:((p.toNat*t.bytes:Nat):Int)=(t.bytes:Int)*p:=by
     rw[Int.natCast_mul,Abc h0,Int.mul_comm]
    omega
   have hrun:(execOp a.eval o).run P w=.ok (.value (.slice (some ⟨w.heap.size,0,none⟩) p.toNat p.toNat)) (w.alloc (.cells (madeCells z.cells (p.toNat*t.size)) e)):=by
    unfold execOp;rw[ho];have:=run_make (P:=P) w T e i z hu hi hz .i64 .i64 p p h0 (Aav _) hb ky.2;rw[hsz]at this
    simp only[hx,hy,IS,this,IT,No]
   have hr:=Dw (w:=w) (S:=S) hzb (aR t _) p.toNat;obtain⟨r1,r2,r3,r4⟩:=zhc e hr (Dx t p.toNat (Jp t)) (by simp[madeCells]) hroom m
   split at h
   ·rename_i k hk
    exact yV hrun (hn _ _ _ _ _ _ h (r2 k (aS ‹_›)) (As rfl).symm)
   ·exact yV hrun (hn _ _ _ _ _ _ h r3 (Rp.rd (.sl t _ _ r4)))
  ·exact h.elim
 ·exact h.elim
end
section
variable {P:AcJ}{E:TE}{A:wG}{b0:Tx}{w w':World}{S S':Nat->Prop}{pl pl':Nat->Value}{N:Nat}{σ:St}{a:Act}{v:Value}{d:D}{o:Oper}{K:D->St->Prop}{next:Act->World->Prop}{Q:Exit->Act->World->Prop}
def Jx(xs ys:Array Value)(x:Bool×Nat):Bool:=match xs[x.2]?,ys[x.2]? with
 |some (.int _ p),some (.int _ q)=>p==q
 |some (.string p),some (.string q)=>p.toList==q.toList
 |_,_=>false
def Dy(xs ys:Array Value)(x:Bool×Nat):Prop:=match x.1 with
 |false=>∃p q,xs[x.2]? =some (.int .i64 p)/\ys[x.2]? =some (.int .i64 q)
 |true=>∃p q,xs[x.2]? =some (.string p)/\ys[x.2]? =some (.string q)
theorem W5{T:AcI}{u:TypeDesc}(hu:P.underlying T=some u)(ha:zjN u=false){xs:Array Value}{off:Nat}{v:Value}(h:xs[off]? =some v):(part T xs off).run P w=.ok v w:=by
 unfold part;simp only[IS,S3 hu,IT,ha,Aa0,if_false,h,No]
theorem Jy(xs ys:Array Value)(dp:Nat):∀(fs:List Field) (l:List (Bool×Nat)),fs.mapM (zlT P)=some l->(∀x∈l,Dy xs ys x)->(Op.eqFields (dp+1) xs ys fs).run P w=.ok (l.all (Jx xs ys)) w
 |[],l,h,_=>by
  simp at h;subst h;rfl
 |f::fs,l,h,hg=>by
  simp only[List.mapM_cons,Option.pure_def,Option.bind_eq_bind,Option.bind_eq_some_iff,Option.some.injEq]at h
  obtain⟨x,hx,l',hl,rfl⟩:=h;have ih:=Jy xs ys dp fs l' hl λy hy=>hg y (On _ hy)
  have hgx:=hg x Ks;unfold zlT at hx
  split at hx
  case isFalse=>cases hx
  case isTrue hn=>
   simp only[Op.eqFields];rw[As hn];split at hx
   ·rename_i hu
    injection hx with hx;subst hx
    obtain⟨p,q,h1,h2⟩:=hgx;simp only[IS,W5 hu rfl h1,W5 hu rfl h2,IT,run_equalIn_int w dp f.type .i64 .i64 p q hu];rw[AbI,show Jx xs ys (false,f.offset)=(p==q) by simp[Jx,h1,h2]]
    cases(p==q)
    ·simp
    ·simp[ih]
   ·rename_i hu
    injection hx with hx;subst hx
    obtain⟨p,q,h1,h2⟩:=hgx;simp only[IS,W5 hu rfl h1,W5 hu rfl h2,IT,run_equalIn_string w dp f.type p q hu];rw[AbI,show Jx xs ys (true,f.offset)=(p.toList==q.toList) by simp[Jx,h1,h2]]
    cases(p.toList==q.toList)
    ·simp
    ·simp[ih]
   ·cases hx
theorem R5(p q:AcG):(p.toList==q.toList)=decide (p=q):=by
 rw[Aap];simp only[beq_iff_eq,decide_eq_true_eq];refine⟨λe=> ?_,λe=>by rw[e]⟩
 apply ByteArray.ext;apply Array.ext';rw[Abo,Abo]at e;exact e
theorem zl0{T:AcI}{t:Ty}(h:znS P T t){vs us:Array Value}{x y:t.den}(hx:vV.rd w S vs.toList x)(hy:vV.rd w S' us.toList y):(Op.equalIn 10000 T (.agg vs) (.agg us)).run P w=.ok (teq t x y) w:=by
 obtain⟨hu,hs,hg,l,hl,hm⟩:=h;rw[run_equalIn_struct w 9999 T vs us hu hs]
 have fin:(∀z∈l,Dy vs us z)->l.all (Jx vs us)=teq t x y->(Op.eqFields 9999 vs us (P.fieldsOf T).toList).run P w=.ok (teq t x y) w:=λh1 h2=>by
  rw[Jy vs us 9998 _ l hm h1,h2]
 cases t<;>simp only[fkT,Option.some.injEq,reduceCtorEq]at hl<;>subst hl
 ·obtain⟨h1,_⟩:=hx;obtain⟨h2,_⟩:=hy
  have e1:vs= #[.int .i64 x.kind,.int .i64 x.at_,.string x.text]:=by apply Array.ext';exact h1
  have e2:us= #[.int .i64 y.kind,.int .i64 y.at_,.string y.text]:=by apply Array.ext';exact h2
  subst e1 e2;refine fin (by simp[Dy]) ?_
  obtain⟨x1,x2,x3⟩:=x;obtain⟨y1,y2,y3⟩:=y;simp[Jx,teq,R5];rw[Aap];simp[R5,and_assoc]
 ·obtain⟨h1,_⟩:=hx;obtain⟨h2,_⟩:=hy
  have e1:vs= #[.int .i64 x.var,.int .i64 x.op,.int .i64 x.n]:=by apply Array.ext';exact h1
  have e2:us= #[.int .i64 y.var,.int .i64 y.op,.int .i64 y.n]:=by apply Array.ext';exact h2
  subst e1 e2;refine fin (by simp[Dy]) ?_
  obtain⟨x1,x2,x3⟩:=x;obtain⟨y1,y2,y3⟩:=y;rw[Aap];simp[Jx,teq]
 ·obtain⟨h1,_⟩:=hx;obtain⟨h2,_⟩:=hy
  have e1:vs= #[.string x.name,.int .i64 x.lo,.int .i64 x.hi]:=by apply Array.ext';exact h1
  have e2:us= #[.string y.name,.int .i64 y.lo,.int .i64 y.hi]:=by apply Array.ext';exact h2
  subst e1 e2;refine fin (by simp[Dy]) ?_
  obtain⟨x1,x2,x3⟩:=x;obtain⟨y1,y2,y3⟩:=y;simp[Jx,teq];rw[Aap];simp[R5,and_assoc]
theorem Dz(m:qQ P b0 N σ a w S pl){op:BinOp}{b:Bool}(h:eqK op b λd=>K d σ)(he:op=.eql->(execOp a.eval o).run P w=.ok (.value (.bool b)) w)(hne:op=.neq->(execOp a.eval o).run P w=.ok (.value (.bool (!b))) w)
  (hn:rY P b0 N o a K next):o.wp P a w next Q:=by
 unfold eqK at h
 split at h
 ·exact yV (he rfl) (hn _ _ _ _ _ _ h m (Rp.rd (.bool _)))
 ·exact yV (hne rfl) (hn _ _ _ _ _ _ h m (Rp.rd (.bool _)))
 ·exact h.elim
theorem znU(dp:Nat){T e:AcI}(hu:P.underlying T=some (.slice e))(A:Option Addr)(n c:Nat):(Op.equalIn (dp+1) T (.slice A n c) (.slice none 0 0)).run P w=.ok A.isNone w:=by
 cases A<;>simp only[Op.equalIn,IS,run_underlying hu,IT,No]<;>rfl
theorem zbO{T e:AcI}(hu:P.underlying T=some (.slice e))(op:BinOp){x y:Operand}{T':AcI}(ho:o.op=.binOp op T x y T'){A:Option Addr}{n c:Nat}(hx:a.eval x=.slice A n c)(hy:a.eval y=.slice none 0 0):
  (op=.eql->(execOp a.eval o).run P w=.ok (.value (.bool A.isNone)) w)/\(op=.neq->(execOp a.eval o).run P w=.ok (.value (.bool (!A.isNone))) w):=by
 have heq:(Op.equal T (.slice A n c) (.slice none 0 0)).run P w=.ok A.isNone w:=znU 9999 hu A n c;have hg:∀op,(eqGuard op T x y (.slice A n c) (.slice none 0 0)).run P w=.ok () w:=λop=>zae op T x y _ _ (λcs e=>by cases e) (λe=>by cases e)
 refine⟨?_,?_⟩
 ·rintro rfl
  unfold execOp;rw[ho];simp only[IS,hx,hy,hg,IT,binOp,heq,No]
 ·rintro rfl
  unfold execOp;rw[ho];simp only[IS,hx,hy,hg,IT,binOp,heq,No]
theorem R6{T:AcI}(F:sR P E)(h:TU E T=true):∃e,P.underlying T=some (.slice e):=by
 unfold TU at h
 split at h
 ·rename_i x hx;obtain⟨e,t⟩:=x;exact⟨e,(F.sl T e t hx).und⟩
 ·cases h
theorem zl1(F:sR P E)(m:qQ P b0 N σ a w S pl){op:BinOp}{T T':AcI}{x y:Operand}(ho:o.op=.binOp op T x y T')(h:zdb E op T (σ.ev x) (σ.ev y) σ λd=>K d σ)(hn:rY P b0 N o a K next):o.wp P a w next Q:=by
 have hx:=rF m x;have hy:=rF m y;unfold zdb at h
 split at h
 ·rename_i xs ys ex ey
  split at h
  ·rename_i t hl
   split at h
   ·rename_i p q e1 e2
    have hst:=F.sts T t hl;rw[ex]at hx;rw[ey]at hy
    obtain⟨vs,hv,hvl,hvr⟩:=(hx.flat (d:=.agg xs) rfl).agg_inv;obtain⟨us,hu,hul,hur⟩:=(hy.flat (d:=.agg ys) rfl).agg_inv;have r1:=OD t e1 (My hvl hvr);have r2:=OD t e2 (My hul hur);have hrun:=zl0 (w:=w) hst r1 r2;have hg:(eqGuard op T x y (.agg vs) (.agg us)).run P w=.ok () w:=run_eqGuard_agg w op T x y vs us hst.2.2.1;refine Dz m h (λe=> ?_) (λe=> ?_) hn
    ·subst e
     unfold execOp;rw[ho];simp only[IS,hv,hu,hg,IT,run_eql_struct,hrun,No]
    ·subst e
     unfold execOp;rw[ho];simp only[IS,hv,hu,hg,IT,run_neq_struct,hrun,No]
   ·exact h.elim
  ·exact h.elim
 ·rename_i t xs nl ex ey
  cases hs:E.nilq&&TU E T with
  |false=>rw[hs]at h;exact h.elim
  |true=>
   rw[hs,AI]at h
   obtain⟨e,hu⟩:=R6 F (Acf.1 hs).2;rw[ex]at hx;rw[ey]at hy
   obtain⟨hv0,hnn,hyy⟩:=(hx.flat (d:=.slN t xs nl) rfl).slN_inv;obtain⟨A',c,hv,hok⟩:=rN hv0;have hv2:=(hy.flat (d:=.nil) rfl).nil_inv;have hr:=zbO (P:=P) (w:=w) hu op ho hv hv2
   have hA:A'.isNone=nl:=by
    cases nl with
    |true=>
     have:=hyy rfl;rw[hv]at this
     injection this with h1;rw[h1];rfl
    |false=>
     cases A' with
     |some _=>rfl
     |none=>
      have h1:=hok.none_ rfl;have h2:=hok.cap;have h3:xs.length=0:=by omega
      exact At (by rw[hv,h3,h1]) (hnn rfl)
   rw[hA]at hr
   exact Dz m h hr.1 hr.2 hn
 ·rename_i t xs ex ey
  cases hs:E.nilq&&TU E T with
  |false=>rw[hs]at h;exact h.elim
  |true=>
   rw[hs,AI]at h
   obtain⟨e,hu⟩:=R6 F (Acf.1 hs).2;rw[ex]at hx;rw[ey]at hy
   obtain⟨A',c,hv,hok⟩:=rN (hx.flat (d:=.sl t xs) rfl).sl_inv;have hv2:=(hy.flat (d:=.nil) rfl).nil_inv;have hr:=zbO (P:=P) (w:=w) hu op ho hv hv2;have hsl:=(hx.flat (d:=.sl t xs) rfl).sl_inv
   exact Dz m (h A'.isNone λhn0=>by
    cases A' with
    |some _=>cases hn0
    |none=>
     have:=hok.none_ rfl;have h2:=hok.cap;exact Aa9 (by omega)) hr.1 hr.2 hn
 ·rename_i ex ey
  cases hs:E.nilq&&TU E T with
  |false=>rw[hs]at h;exact h.elim
  |true=>
   rw[hs,AI]at h
   obtain⟨e,hu⟩:=R6 F (Acf.1 hs).2;rw[ex]at hx;rw[ey]at hy
   have hv1:=(hx.flat (d:=.nil) rfl).nil_inv;have hv2:=(hy.flat (d:=.nil) rfl).nil_inv;have hr:=zbO (P:=P) (w:=w) hu op ho hv1 hv2;exact Dz m h hr.1 hr.2 hn
 ·rename_i k ex ey
  split at h
  ·rename_i e0 t xs hob
   cases hs:E.nilq&&TU E T with
   |false=>rw[hs]at h;exact h.elim
   |true=>
    rw[hs,AI]at h
    obtain⟨e,hu⟩:=R6 F (Acf.1 hs).2;rw[ex]at hx;rw[ey]at hy
    have hx:a.eval x=pl k:=hx;have hv2:=(hy.flat (d:=.nil) rfl).nil_inv;obtain⟨A',c,hv,hok⟩:=rN (VW (m.hp k _ hob));rw[hv]at hx
    have hr:=zbO (P:=P) (w:=w) hu op ho hx hv2
    exact Dz m (h A'.isNone λhn0=>by
     cases A' with
     |some _=>cases hn0
     |none=>
      have:=hok.none_ rfl;have h2:=hok.cap;exact Aa9 (by omega)) hr.1 hr.2 hn
  ·exact h.elim
 ·exact zni F m ho h hn
end
section
variable {P:AcJ}{E:TE}{A:wG}{b0:Tx}{w w':World}{S S':Nat->Prop}{pl pl':Nat->Value}{N:Nat}{σ:St}{a:Act}{v:Value}{d:D}{o:Oper}{K:D->St->Prop}{next:Act->World->Prop}{Q:Exit->Act->World->Prop}
def cE:(t:Ty)->t.den->Value
 | .int,n=> .int .i64 n
 | .str,s=> .string s
 | .pr .int .int,x=> .agg #[.int .i64 x.1,.int .i64 x.2]
 |_,_=>undef
theorem zhd{k:Ty}{x:k.den}(h:zlO k d=some x)(hr:Rd w S pl v d):v=cE k x/\XX w S v x:=by
 unfold zlO at h
 split at h
 ·injection h with h;subst h
  obtain⟨rfl,hi⟩:=(hr.flat (d:=.int .i64 _) rfl).int_inv;exact⟨rfl,[_],rfl,rfl,hi⟩
 ·injection h with h;subst h
  obtain⟨rfl,hi⟩:=(hr.flat (d:=.str _) rfl).str_inv;exact⟨rfl,[_],rfl,rfl,hi⟩
 ·rename_i p q
  injection h with h;subst h
  obtain⟨vs,rfl,hl,hv⟩:=(hr.flat (d:=.agg [.int .i64 p,.int .i64 q]) rfl).agg_inv;obtain⟨e1,i1⟩:=(hv 0 _ rfl).int_inv;obtain⟨e2,i2⟩:=(hv 1 _ rfl).int_inv;have hl:vs.size=2:=hl
  have e:vs= #[.int .i64 p,.int .i64 q]:=by
   apply Array.ext
   ·simpa using hl
   ·intro i h1 h2
    have:i=0\/i=1:=by omega
    rcases this with rfl|rfl
    ·simpa[Aae,h1]using e1
    ·simpa[Aae,h1]using e2
  subst e;exact⟨rfl,[_,_],rfl,[_],[_],rfl,⟨rfl,i1⟩,⟨rfl,i2⟩⟩
 ·cases h
theorem zhe{kT:AcI}{k:Ty}(hk:Hi P kT k){x:k.den}(h:XX w S v x):v=cE k x:=by
 obtain⟨cs,rfl,hr⟩:=h;unfold Hi at hk
 split at hk
 ·obtain⟨rfl,_⟩:=hr;rfl
 ·obtain⟨rfl,_⟩:=hr;rfl
 ·obtain⟨c1,c2,rfl,⟨rfl,_⟩,⟨rfl,_⟩⟩:=hr;rfl
 ·exact hk.elim
theorem zl2(dp:Nat){kT e:AcI}{i:TypeInfo}(hu:P.underlying kT=some (.array 2 e))(he:P.underlying e=some (.int .i64))(hi:P.info? e=some i)(hs:P.cellsOf e=1)(p q p' q':Int):
  (Op.equalIn (dp+2) kT (.agg #[.int .i64 p,.int .i64 q]) (.agg #[.int .i64 p',.int .i64 q'])).run P w=.ok (decide (p=p')&&decide (q=q')) w:=by
 have f1:∀p q:Int,(part e #[.int .i64 p,.int .i64 q] (0*1)).run P w=.ok (.int .i64 p) w:=λp q=>W5 he rfl rfl
 have f2:∀p q:Int,(part e #[.int .i64 p,.int .i64 q] (1*1)).run P w=.ok (.int .i64 q) w:=λp q=>W5 he rfl rfl
 have e1:∀p q:Int,(Op.equalIn (dp+1) e (.int .i64 p) (.int .i64 q)).run P w=.ok (p==q) w:=λp q=>run_equalIn_int w dp e .i64 .i64 p q he
 rw[run_equalIn_array w (dp+1) _ _ hu hi,hs];rw[show List.range 2=[0,1]from rfl]
 simp only[Op.eqItems,IS,f1,e1,IT]
 by_cases h1:p=p'
 ·subst h1
  simp only[BEq.rfl,Abq,Aa0,if_false,IS,f2,e1,IT]
  by_cases h2:q=q'<;>simp[h2]
 ·simp[h1]
def zbP(kt:Ty){vt:Ty}(x:kt.den):List (kt.den×vt.den)->Nat->Option Nat
 |[],_=>none
 |(p,_)::r,i=>bif Kg kt x p then some i else zbP kt x r (i+1)
theorem TW{kT:AcI}{k:Ty}(hk:Hi P kT k)(x y:k.den):(∃d,P.underlying kT=some d/\((Instr.sameNow d (cE k x) (cE k y)=some (Kg k x y))\/((∀u u',Instr.sameNow d u u'=none)/\∀w,(Op.equal kT (cE k x) (cE k y)).run P w=.ok (Kg k x y) w))):=by
 unfold Hi at hk
 split at hk
 ·refine⟨_,hk,.inl ?_⟩
  show(if IntKind.i64=IntKind.i64 then some (x==y)else none)=some (decide (x=y))
  rw[As rfl]
  congr 1
 ·refine⟨_,hk,.inl ?_⟩
  show some (x==y)=some (decide (x=y))
  rw[<-R5,beq_toListBytes]
 ·obtain⟨e,i,hu,he,hi,hs⟩:=hk
  exact⟨_,hu,.inr ⟨λu u'=>rfl,λw=>zl2 9998 hu he hi hs _ _ _ _⟩⟩
 ·exact hk.elim
theorem Fc{kT:AcI}{k vt:Ty}(hk:Hi P kT k)(x:k.den){ents:List MapEntry}{es:List (k.den×vt.den)}(h:wF (λ(e:MapEntry) (y:k.den×vt.den)=>e.key=cE k y.1) ents es):
  (Instr.findKey kT (cE k x) ents).run P w=.ok ((zbP k x es 0).map λi=>(i,((ents[i]?).map (·.val)).getD undef)) w:=by
 have now:∀(d:TypeDesc),(∀y:k.den,Instr.sameNow d (cE k x) (cE k y)=some (Kg k x y))->∀(ents:List MapEntry) (es:List (k.den×vt.den)),wF (λ(e:MapEntry) (y:k.den×vt.den)=>e.key=cE k y.1) ents es->
   ∀(all:List MapEntry) (i:Nat),all.drop i=ents->Instr.findNow d (cE k x) ents i=some ((zbP k x es i).map λi=>(i,((all[i]?).map (·.val)).getD undef)):=by
  intro d hd ents es h
  induction h with
  |nil=>intro all i _;rfl
  | @cons e y ents es h1 hs ih=>
   intro all i hall;have h0:all[i]? =some e:=by have:=Abw (xs:=all) (i:=i) (j:=0);rw[hall]at this;simpa using this.symm
   unfold Instr.findNow zbP;rw[h1,hd];cases Kg k x y.1
   ·simp only[Vs]
    exact ih all (i+1) (by rw[<-List.tail_drop,hall];rfl)
   ·simp only[AI,Abe,h0,AbT]
 have ask:(∀(y:k.den) w,(Op.equal kT (cE k x) (cE k y)).run P w=.ok (Kg k x y) w)->∀(ents:List MapEntry) (es:List (k.den×vt.den)),wF (λ(e:MapEntry) (y:k.den×vt.den)=>e.key=cE k y.1) ents es->
   ∀(all:List MapEntry) (i:Nat),all.drop i=ents->(Instr.findAsking kT (cE k x) ents i).run P w=.ok ((zbP k x es i).map λi=>(i,((all[i]?).map (·.val)).getD undef)) w:=by
  intro hd ents es h
  induction h with
  |nil=>intro all i _;rfl
  | @cons e y ents es h1 hs ih=>
   intro all i hall;have h0:all[i]? =some e:=by have:=Abw (xs:=all) (i:=i) (j:=0);rw[hall]at this;simpa using this.symm
   unfold Instr.findAsking zbP;simp only[IS,h1,hd,IT];cases Kg k x y.1
   ·simp only[Vs,Aa0,if_false]
    exact ih all (i+1) (by rw[<-List.tail_drop,hall];rfl)
   ·simp only[AI,if_true,Abe,h0,AbT,No]
 unfold Instr.findKey;cases h with
 |nil=>
  obtain⟨d,hu,_⟩:=TW hk x x;simp only[IS,run_underlying hu,IT,Instr.findNow,No];rfl
 | @cons e y ents es h1 hs=>
  obtain⟨d,hu,hd⟩:=TW hk x y.1;simp only[IS,run_underlying hu,IT];rcases hd with hd|⟨hn,hd⟩
  ·have hd':∀y:k.den,Instr.sameNow d (cE k x) (cE k y)=some (Kg k x y):=λy'=>by
    obtain⟨d',hu',hd'⟩:=TW hk x y';rw[hu]at hu';injection hu' with hu';subst hu'
    rcases hd' with hd'|⟨hn',_⟩
    ·exact hd'
    ·rw[hn']at hd;cases hd
   rw[now d hd' _ _ (.cons h1 hs) (e::ents) 0 rfl,No]
  ·have hd':∀(y:k.den) w,(Op.equal kT (cE k x) (cE k y)).run P w=.ok (Kg k x y) w:=λy'=>by
    obtain⟨d',hu',hd'⟩:=TW hk x y';rw[hu]at hu';injection hu' with hu';subst hu'
    rcases hd' with hd'|⟨_,hd'⟩
    ·rw[hn]at hd';cases hd'
    ·exact hd'
   rw[show Instr.findNow d (cE k x) (e::ents) 0=none by unfold Instr.findNow;rw[hn]]
   exact ask hd' _ _ (.cons h1 hs) (e::ents) 0 rfl
theorem VX{kT:AcI}{k:Ty}(hk:Hi P kT k)(x:k.den)(em:Bool):(Instr.checkKey em 10000 kT (cE k x)).run P w=.ok () w:=by
 have one:∀(n:Nat) (T:AcI) (u:Value),(P.underlying T=some (.int .i64)\/P.underlying T=some .string)->(Instr.checkKey em (n+1) T u).run P w=.ok () w:=λn T u h=>by
  rcases h with h|h<;>simp only[Instr.checkKey,IS,run_underlying h,IT,No]
 unfold Hi at hk
 split at hk
 ·exact one 9999 _ _ (.inl hk)
 ·exact one 9999 _ _ (.inr hk)
 ·obtain⟨e,i,hu,he,hi,hs⟩:=hk
  have hsz:(sizeOf e).run P w=.ok 1 w:=by rw[run_sizeOf w hi,hs]
  have f1:∀p q:Int,(part e #[.int .i64 p,.int .i64 q] (0*1)).run P w=.ok (.int .i64 p) w:=λp q=>W5 he rfl rfl
  have f2:∀p q:Int,(part e #[.int .i64 p,.int .i64 q] (1*1)).run P w=.ok (.int .i64 q) w:=λp q=>W5 he rfl rfl
  have key:∀n,(Instr.checkKey em (n+2) kT (.agg #[.int .i64 x.1,.int .i64 x.2])).run P w=.ok () w:=λn=>by
   rw[Instr.checkKey];simp only[IS,run_underlying hu,IT,Std.Legacy.Range.forIn_eq_forIn_range',Std.Legacy.Range.size,Nat.sub_zero,Nat.add_one_sub_one,Nat.div_one];rw[show List.range' 0 2=[0,1]from rfl]
   simp only[List.forIn_cons,List.forIn_nil,IS,hsz,IT,f1,f2,one n e _ (.inl he),No]
  exact key 9998
 ·exact hk.elim
theorem Hl{kt vt:Ty}(x:kt.den):∀(es:List (kt.den×vt.den)) (i:Nat),(zbP kt x es i=none/\uZ kt vt x es=none/\∀y,qH kt vt x y es=es++[(x,y)])\/
  ∃j q,zbP kt x es i=some (i+j)/\es[j]? =some q/\Kg kt x q.1=true/\uZ kt vt x es=some q.2/\∀y,qH kt vt x y es=es.set j (q.1,y)
 |[],i=> .inl ⟨rfl,rfl,λy=>rfl⟩
 |(p,q)::r,i=>by
  unfold zbP uZ;cases hk:Kg kt x p with
  |true=>exact .inr ⟨0,(p,q),rfl,rfl,hk,rfl,λy=>by unfold qH;rw[hk];rfl⟩
  |false=>
   simp only[Vs];rcases Hl x r (i+1)with⟨h1,h2,h3⟩|⟨j,z,h1,h2,h3,h4,h5⟩
   ·exact .inl ⟨h1,h2,λy=>by unfold qH;rw[hk,Vs,h3];rfl⟩
   ·refine .inr ⟨j+1,z,by rw[h1];congr 1;omega,by simpa using h2,h3,h4,λy=> ?_⟩
    unfold qH;rw[hk,Vs,h5];rfl
theorem zhf: {t:Ty}-> {x:t.den}->XX w S v x->Rp w S v (TS t x)
 | .int,x,h=>by obtain⟨rfl,g⟩:=zlN h;exact .int_mk g
 | .bool,x,⟨cs,e,h⟩=>by have h:cs=[.bool x]:=h;subst h e;exact .bool x
 | .byte,x,⟨cs,e,h⟩=>by have h:cs=[.int .u8 (x.toNat:Int)]:=h;subst h e;exact .int _ _ ⟨by omega,by have:=x.toNat_lt;omega⟩
 | .str,x,h=>by obtain⟨rfl,g⟩:=zg6 h;exact .str _ g
 | .list t,x,h=> .sl t x v h
 | .tok,x,⟨cs,e,h⟩=>by have hc:=jX .tok h;obtain⟨h,_⟩:=h;subst h e;exact .agg _ _ rfl λi d hd=>VH hc i d hd
 | .lit,x,⟨cs,e,h⟩=>by have hc:=jX .lit h;obtain⟨h,_⟩:=h;subst h e;exact .agg _ _ rfl λi d hd=>VH hc i d hd
 | .var,x,⟨cs,e,h⟩=>by have hc:=jX .var h;obtain⟨h,_⟩:=h;subst h e;exact .agg _ _ rfl λi d hd=>VH hc i d hd
 | .con,x,⟨cs,e,h⟩=>by have hc:=jX .con h;obtain⟨_,_,_,_,h,_⟩:=h;subst h e;exact .agg _ _ rfl λi d hd=>VH hc i d hd
 | .mdl,x,⟨cs,e,h⟩=>by have hc:=jX .mdl h;obtain⟨_,_,h,_⟩:=h;subst h e;exact .agg _ _ rfl λi d hd=>VH hc i d hd
 | .step,x,⟨cs,e,h⟩=>by have hc:=jX .step h;obtain⟨_,h,_⟩:=h;subst h e;exact .agg _ _ rfl λi d hd=>VH hc i d hd
 | .term,x,⟨cs,e,h⟩=>by have hc:=jX .term h;obtain⟨h,_⟩:=h;subst h e;exact .agg _ _ rfl λi d hd=>VH hc i d hd
 | .ans,x,⟨cs,e,h⟩=>by have hc:=jX .ans h;obtain⟨_,_,h,_⟩:=h;subst h e;exact .agg _ _ rfl λi d hd=>VH hc i d hd
 | .pr p q,x,⟨cs,e,h⟩=>by
  have hl:=vV.len h;have hc:=jX (.pr p q) h
  have h2:2<=cs.length:=by
   rw[hl];show 2<= @vV.size _ (Ty.rep p)+ @vV.size _ (Ty.rep q)
   have:= @vV.pos _ (Ty.rep p);have:= @vV.pos _ (Ty.rep q);omega
  obtain _|⟨u,_|⟨u',r⟩⟩:=cs
  ·simp at h2
  ·simp at h2
  ·subst e;exact .agg _ _ (by simpa using hc.len) λi d hd=>VH hc i d hd
theorem zfu(F:sR P E)(m:qQ P b0 N σ a w S pl){T:AcI}(ho:o.op=.makeMap T none)(h:OG E A o T σ K)(hn:rY P b0 N o a K next):o.wp P a w next Q:=by
 have hrun:(execOp a.eval o).run P w=.ok (.value (.map (some w.heap.size))) (w.alloc (.map #[] 0)):=by
  unfold execOp;rw[ho];simp[Instr.makeMap,newObj];rfl
 have hnew:(w.alloc (.map #[] 0)).heap[w.heap.size]? =some (.map #[] 0):=heap_alloc_new w _;unfold OG at h
 split at h
 ·rename_i k u hl
  split at h
  ·rename_i j hj
   refine yV hrun (hn _ _ _ _ _ _ h (m.mk' (w':=w.alloc (.map #[] 0)) j (aS hj) (.mp k u []) (.map (some w.heap.size)) (OK w _) (λb hb=>by injection hb with hb;subst hb;exact⟨BY _,by rw[Kj];omega⟩) λpl' _=> ?_) (As rfl).symm)
   exact⟨w.heap.size,rfl,by simp,#[],0,hnew,.nil⟩
  ·exact yV hrun (hn _ _ _ _ _ _ h (m.newS _) (Rp.rd (.mp k u [] w.heap.size (.inr rfl) ⟨by simp,#[],0,hnew,.nil⟩)))
 ·exact h.elim
theorem zjW(m:qQ P b0 N σ a w S pl){u:Value}(hr:Rd w S pl u d){kt vt:Ty}{es:List (kt.den×vt.den)}(h:zad σ d=some ⟨(kt,vt),es⟩):∃b,u=.map (some b)/\zc6 w S b kt vt es:=by
 unfold zad at h
 split at h
 ·simp only[Option.some.injEq,Sigma.mk.injEq,Prod.mk.injEq]at h
  obtain⟨⟨rfl,rfl⟩,h⟩:=h;subst h;obtain⟨b,e,_,h⟩:=(hr.flat (d:=.mp _ _ _) rfl).mp_inv;exact⟨b,e,h⟩
 ·rename_i j
  split at h
  ·rename_i hob
   simp only[Option.some.injEq,Sigma.mk.injEq,Prod.mk.injEq]at h
   obtain⟨⟨rfl,rfl⟩,h⟩:=h;subst h;obtain⟨b,e,h⟩:=m.hp j _ hob;have hr:u=pl j:=hr;exact⟨b,hr.trans e,h⟩
  ·cases h
 ·cases h
theorem zhg{kT:AcI}{k vt:Ty}(hk:Hi P kT k){ents:List MapEntry}{es:List (k.den×vt.den)}(h:wF (λ(e:MapEntry) (x:k.den×vt.den)=>XX w S e.key x.1/\XX w S e.val x.2) ents es):wF (λ(e:MapEntry) (y:k.den×vt.den)=>e.key=cE k y.1) ents es:=
 h.imp λe x h=>zhe hk h.1
theorem zjX{T kT eT:AcI}{k vt:Ty}(hu:P.underlying T=some (.map kT eT))(hk:Hi P kT k){i:TypeInfo}{z:Value}{dz:D}(hi:P.info? eT=some i)(hz:i.zero=some z)(hc:cells vt vt.dflt=[dz])(hzb:zB z dz=true)(hz1:z.oneCell'=true)
  {b:Nat} {es:List (k.den×vt.den)} (hm:zc6 w S b k vt es) (x:k.den):∃u,XX w S u (gH k vt x es)/\∀ok,(Instr.lookup T (.map (some b)) (cE k x) ok).run P w=.ok (if ok then .tuple #[u,.bool (MU k vt x es)]else u) w:=by
 obtain⟨_,ents,clock,hb,hes⟩:=hm;have hget:(getObj b).run P w=.ok (.map ents clock) w:=by simp[getObj,Sem.run,hb]
 have hzr:(zeroValue eT).run P w=.ok z w:=by simp[zeroValue,typeInfo,hi,hz]
 have hf:=Fc (w:=w) hk x (zhg hk hes);rcases Hl (vt:=vt) x es 0 with⟨h1,h2,_⟩|⟨j,q,h1,h2,h3,h4,_⟩
 ·refine⟨z,?_,λok=> ?_⟩
  ·rw[gH,h2]
   have hr:=zmY (w:=w) (S:=S) hzb;have h1:z.cells.toList=[z]:=by cases z<;>first|rfl|(cases hz1)
   have:vV.rd w S [z] vt.dflt:=OD vt (ds:=[dz]) (by rw[<-hc];exact Jp vt) (.cons hr .nil)
   exact⟨[z],rfl,this⟩
  ·rw[h1]at hf
   unfold Instr.lookup;simp only[IS,run_underlying hu,IT,hget,No,VX hk,hf,AbJ,hzr,MU,h2,Option.isSome_none]
 ·obtain⟨e,he,hr⟩:=hes.at h2
  refine⟨e.val,?_,λok=> ?_⟩
  ·rw[gH,h4];exact hr.2
  ·rw[h1,Aas]at hf
   have he':(ents.toList[j]?.map (·.val)).getD undef=e.val:=by rw[he];rfl
   unfold Instr.lookup;simp only[IS,run_underlying hu,IT,hget,No,VX hk,hf,Abe,he',MU,h4,Option.isSome_some]
theorem zig(F:sR P E)(m:qQ P b0 N σ a w S pl){T:AcI}{x y:Operand}{ok:Bool}(ho:o.op=.lookup T x y ok)(h:E9 E T (σ.ev x) (σ.ev y) ok σ λd=>K d σ)(hn:rY P b0 N o a K next):o.wp P a w next Q:=by
 have hx:=rF m x;have hy:=rF m y;unfold E9 at h
 split at h
 ·rename_i kt0 vt0 kt vt es hl hm
  cases hb:decide (kt=kt0)&&decide (vt=vt0)with
  |false=>rw[hb]at h;exact h.elim
  |true=>
   rw[hb,AI]at h
   simp only[If,decide_eq_true_eq]at hb
   obtain⟨rfl,rfl⟩:=hb;obtain⟨kT,eT,i,z,dz,hu,hk,hi,hz,hc,hzb,hz1⟩:=F.mps T _ _ hl;obtain⟨b,hv,hmp⟩:=zjW m hx hm;split at h
   ·rename_i p hp
    obtain⟨hkv,_⟩:=zhd hp hy;obtain⟨u,hu1,hu2⟩:=zjX hu hk hi hz hc hzb hz1 hmp p
    have hrun:∀ok',ok=ok'->(execOp a.eval o).run P w=.ok (.value (if ok' then .tuple #[u,.bool (MU kt vt p es)]else u)) w:=λok' e=>by
     subst e;unfold execOp;rw[ho];simp only[IS,hv,hkv,hu2,IT,No]
    cases ok with
    |true=>exact yV (hrun true rfl) (hn _ _ _ _ _ _ h m (Rp.rd (.tup _ _ rfl λi d hd=>by
      match i,hd with
      |0,hd=>simp at hd;subst hd;exact zhf hu1
      |1,hd=>simp at hd;subst hd;exact .bool _
      |i+2,hd=>simp at hd)))
    |false=>exact yV (hrun false rfl) (hn _ _ _ _ _ _ h m (zhf hu1).rd)
   ·exact h.elim
 ·exact h.elim
theorem zdh{b:Nat}{o':Obj}(hb:b<w.heap.size):({w with heap:=w.heap.setIfInBounds b o'}:World).heap[b]? =some o'/\(∀c,c≠b->({w with heap:=w.heap.setIfInBounds b o'}:World).heap[c]? =w.heap[c]?)/\({w with heap:=w.heap.setIfInBounds b o'}:World).heap.size=w.heap.size:=
 ⟨by simp[hb],λc hc=>by simp[Array.getElem?_setIfInBounds,Ne.symm hc],by simp⟩
theorem zjY{k:Ty}{kT:AcI}(hk:Hi P kT k){x y:k.den}(h:Kg k x y=true):cE k x=cE k y/\Instr.sameBits 10000 (cE k y) (cE k x)=true:=by
 unfold Hi at hk
 split at hk
 ·have e:x=y:=By h
  subst e;exact⟨rfl,by show(IntKind.i64==IntKind.i64&&(x:Int)==x)=true;simp⟩
 ·have e:x=y:=By h
  subst e;exact⟨rfl,by show((x:AcG)==x)=true;rw[beq_toListBytes,R5];simp⟩
 ·simp only[Kg,If,decide_eq_true_eq]at h
  obtain⟨x1,x2⟩:=x;obtain⟨y1,y2⟩:=y;obtain⟨e1,e2⟩:=h;have e1:x1=y1:=e1;have e2:x2=y2:=e2;subst e1 e2;refine⟨rfl,?_⟩;show((2:Nat)==2&&[(Value.int .i64 x1,Value.int .i64 x1),(Value.int .i64 x2,Value.int .i64 x2)].all λ(p:Value×Value)=>Instr.sameBits 9999 p.1 p.2)=true
  simp[Instr.sameBits]
 ·exact hk.elim
theorem wF.set{α β:Type}{R:α->β->Prop}:∀ {xs:List α} {ys:List β},wF R xs ys->∀(i:Nat) {a:α} {b:β},R a b->wF R (xs.set i a) (ys.set i b)
 |_,_,.nil,_,_,_,_=>by simp;exact .nil
 |_,_,.cons h hs,0,_,_,hr=> .cons hr hs
 |_,_,.cons h hs,i+1,_,_,hr=> .cons h (hs.set i hr)
theorem zbQ(F:sR P E)(m:qQ P b0 N σ a w S pl){T:AcI}{x y z:Operand}(ho:o.op=.mapUpdate T x y z)(h:R3 E A T (σ.ev x) (σ.ev y) (σ.ev z) σ K)(hn:rY P b0 N o a K next):o.wp P a w next Q:=by
 have hx:=rF m x;have hy:=rF m y;unfold R3 at h
 split at h
 ·rename_i kt0 vt0 j hl ex
  rw[ex]at hx
  have hx:a.eval x=pl j:=hx;obtain⟨σ',ds',S',hK,hS,m',hv⟩:=oE h m;have hz:=hv [a.eval z] (.cons (rF m z) .nil);split at hK
  ·rename_i kt vt es hob
   cases hb:decide (kt=kt0)&&decide (vt=vt0)with
   |false=>rw[hb]at hK;exact hK.elim
   |true=>
    rw[hb,AI]at hK
    simp only[If,decide_eq_true_eq]at hb
    obtain⟨rfl,rfl⟩:=hb;obtain⟨kT,eT,i,zz,dz,hu,hk,hi,hzz,hc,hzb,hz1⟩:=F.mps T _ _ hl;split at hK
    ·rename_i p q hp hq
     obtain⟨hroom,hK⟩:=hK;have hroom:es.length+1<=140737488355328:=By hroom;obtain⟨hkv,hkr⟩:=zhd hp hy;have hkr:=hkr.mono (w':=w) (λ_ _=>rfl) hS
     have hqr:XX w S' (a.eval z) q:=by
      have h1:=OD vt hq hz;refine⟨[a.eval z],rfl,h1⟩
     obtain⟨b,hpl,h0,ents,clock,hbk,hes⟩:=m'.hp j _ hob;have hlt:b<w.heap.size:=(m'.priv j _ b hob (by rw[hpl];rfl)).2.1
     have hnS:¬S' b:=(m'.priv j _ b hob (by rw[hpl];rfl)).2.2
     have hget:(getObj b).run P w=.ok (.map ents clock) w:=by simp[getObj,Sem.run,hbk]
     have hset:∀o',(setObj b o').run P w=.ok () {w with heap:=w.heap.setIfInBounds b o'}:=λo'=>by simp[setObj,Sem.run,hbk]
     have hf:=Fc (w:=w) hk p (zhg hk hes)
     have fin:∀(ents':Array MapEntry) (clock':Nat) (es':List (kt.den×vt.den)),es'=qH kt vt p q es->es'.length<=140737488355328->wF (λ(e:MapEntry) (x:kt.den×vt.den)=>XX w S' e.key x.1/\XX w S' e.val x.2) ents'.toList es'->
       (Instr.mapUpdate T (.map (some b)) (cE kt p) (a.eval z)).run P w=.ok () {w with heap:=w.heap.setIfInBounds b (.map ents' clock')}->o.wp P a w next Q:=by
      intro ents' clock' es' he hle hall hrun;obtain⟨g1,g2,g3⟩:=zdh (w:=w) (o':=.map ents' clock') hlt
      have hop:(execOp a.eval o).run P w=.ok .skip {w with heap:=w.heap.setIfInBounds b (.map ents' clock')}:=by
       unfold execOp;rw[ho];simp only[IS,hx,hpl,hkv,hrun,IT,No]
      subst he;refine zfp hop (hn _ _ _ _ _ _ hK (m'.setOb hob (by rw[hpl];rfl) g2 g3 ⟨rfl,rfl,rfl⟩ ?_) kH)
      exact⟨b,hpl,hle,ents',clock',g1,hall.imp λ_ _ h=>⟨h.1.mono (λc hc=>g2 c λe=>hnS (e▸hc)) λ_ h=>h,h.2.mono (λc hc=>g2 c λe=>hnS (e▸hc)) λ_ h=>h⟩⟩
     rcases Hl (vt:=vt) p es 0 with⟨h1,h2,h3⟩|⟨j',e',h1,h2,h3,h4,h5⟩
     ·refine fin (ents.push {key:=cE kt p,val:=a.eval z,born:=clock}) (clock+1) (es++[(p,q)]) (h3 q).symm (by simp;omega) ?_ ?_
      ·rw[Array.toList_push]
       exact hes.append (.cons ⟨by rw[<-hkv];exact hkr,hqr⟩ .nil)
      ·rw[h1]at hf
       unfold Instr.mapUpdate;simp only[IS,run_underlying hu,IT,hget,VX hk,hf,AbJ,hset]
     ·obtain⟨e0,he0,hr0⟩:=hes.at h2
      rw[Aas]at h1
      have hk0:e0.key=cE kt e'.1:=zhe hk hr0.1;obtain⟨ek,hsb⟩:=zjY (P:=P) hk h3;refine fin (ents.modify j' λe=> {e with key:=cE kt p,val:=a.eval z}) clock (es.set j' (e'.1,q)) (h5 q).symm (by simp;omega) ?_ ?_
      ·have:(ents.modify j' λe=> {e with key:=cE kt p,val:=a.eval z}).toList=ents.toList.set j' {e0 with key:=cE kt p,val:=a.eval z}:=by
        apply Acd;intro n;rw[AaE,AbS,AbP]
        by_cases hn':j'=n
        ·subst hn'
         have hlt':=(AaD.1 he0).1;rw[As rfl,As rfl,As hlt',<-AaE,he0];rfl
        ·rw[An hn',An hn',AaE]
       rw[this];exact hes.set j' ⟨by show XX w S' (cE kt p) e'.1;rw[ek,<-hk0];exact hr0.1,hqr⟩
      ·rw[h1]at hf
       have hkey:(((ents[j']?).map (·.key)).getD (cE kt p))=cE kt e'.1:=by rw[<-AaE,he0];exact hk0
       unfold Instr.mapUpdate;simp only[IS,run_underlying hu,IT,hget,VX hk,hf,Abe,hkey,Instr.keyThatStays,hsb,if_true,No,hset]
    ·exact hK.elim
  ·exact hK.elim
 ·exact h.elim
end
section
variable {P:AcJ}{E:TE}{A:wG}{b0:Tx}{w w':World}{S S':Nat->Prop}{pl pl':Nat->Value}{N:Nat}{σ:St}{a:Act}{v:Value}{d:D}{o:Oper}{K:D->St->Prop}{next:Act->World->Prop}{Q:Exit->Act->World->Prop}
theorem DA{k:Nat}:∀ {l:AcU},pX k l=true↔k∈l
 |[]=>by simp[pX]
 |i::r=>by
  unfold pX;cases hb:Nat.beq i k with
  |true=>rw[xG.1 hb];simp
  |false=>
   rw[Vs,DA,OF];refine⟨.inr,λh=>h.resolve_left λe=> ?_⟩
   rw[e,xG.2 rfl]at hb;cases hb
theorem Jz{k:Nat}{l:AcU}:pX k l=false↔k∉l:=by
 rw[<-DA];cases pX k l<;>simp
theorem bM{α:Type}{k:Nat}{o:α}:∀ {l:List (Nat×α)},gW (l.map (·.1))=true->(k,o)∈l->yG k l=some o
 |[],_,h=>by cases h
 |(i,x)::r,hn,h=>by
  simp only[Aak,gW,If,AaI]at hn
  rw[wR];rcases OF.1 h with h|h
  ·injection h with h1 h2;subst h1 h2;rw[As rfl]
  ·rw[An,bM hn.2 h]
   intro e;subst e;exact Jz.1 hn.1 (Of.2 ⟨_,h,rfl⟩)
theorem zl3(ρ:List (Nat×Nat)):(Hf ρ).map (·.1)=ρ.map (·.2):=by simp[Hf]
theorem JA{ρ:List (Nat×Nat)}(hn:gW (ρ.map (·.2))=true){k c:Nat}(h:(k,c)∈ρ):yG c (Hf ρ)=some k:=
 bM (by rw[zl3];exact hn) (Of.2 ⟨_,h,rfl⟩)
theorem JB{ρ:List (Nat×Nat)}{k c:Nat}(h:yG c (Hf ρ)=some k):(k,c)∈ρ:=by
 obtain⟨x,hx,e⟩:=Of.1 (bL h);injection e with e1 e2;subst e1 e2;exact hx
theorem Hm{ρ:List (Nat×Nat)}(hρ:∀k j,yG k ρ=some j->pl' j=pl k)(h:Rd w S pl v d):Rd w S pl' v (d.ren ρ):=by
 cases hr:d.ref with
 |none=>
  have e:d.ren ρ=d:=by cases d<;>first|rfl|(simp[D.ref]at hr)
  rw[e];exact(h.flat hr).rd
 |some k=>
  cases d<;>simp only[D.ref,Option.some.injEq,reduceCtorEq]at hr
  all_goals
   subst hr;simp only[D.ren];split
   ·rename_i j hj
    simp only[Rd]at h⊢
    rw[hρ _ _ hj];exact h
   ·exact kH
theorem zjZ{ρ:List (Nat×Nat)}{d:D}(h:fC (d.ren ρ)=true):fC d=true:=by
 cases d<;>first|rfl|exact h|(simp only[D.ren]at h;revert h;split<;>exact id)
theorem zj0{ρ:List (Nat×Nat)}{d:D}(h:Zv (d.ren ρ)=true):Zv d=true:=by
 cases d<;>first|rfl|exact h|(simp only[D.ren]at h;revert h;split<;>exact λh=>(by cases h))
theorem zj1{ρ:List (Nat×Nat)}{p:Value}{o:yN}(hρ:∀k j,yG k ρ=some j->pl' j=pl k)(h:W2 w S pl p o):W2 w S pl' p (o.ren ρ):=by
 cases o with
 |cells ds=>
  obtain⟨b,vs,T,e1,e2,e3,e4,e5⟩:=h;refine⟨b,vs,T,e1,e2,by simpa using e3,λi d hd=> ?_,Jq (λ_=>zj0) e5⟩
  simp only[Aau,Aba]at hd
  obtain⟨d0,hd0,rfl⟩:=hd;exact Hm hρ (e4 i d0 hd0)
 |row e t xs=>exact h
 |mp kt vt es=>exact h
 |val ds=>
  obtain⟨vs,e1,e3,e4⟩:=h;refine⟨vs,e1,by simpa using e3,λi d hd=> ?_⟩
  simp only[Aau,Aba]at hd
  obtain⟨d0,hd0,rfl⟩:=hd;exact⟨Hm hρ (e4 i d0 hd0).1,λhc=>(e4 i d0 hd0).2 (zjZ hc)⟩
theorem bN{ob:Nat->Option yN}{ρ:List (Nat×Nat)}{c:Nat}{o:yN}:∀ {l:List (Nat×Nat)},yG c (cD ob ρ l)=some o->∃k o',(k,c)∈l/\ob k=some o'/\o=o'.ren ρ
 |[],h=>by cases h
 |(k,c')::r,h=>by
  unfold cD at h
  cases ho:ob k with
  |none=>
   rw[ho]at h
   obtain⟨k',o',h1,h2⟩:=bN (l:=r) h;exact⟨k',o',On _ h1,h2⟩
  |some o'=>
   rw[ho]at h
   simp only[wR]at h
   split at h
   ·rename_i e;subst e;injection h with h;exact⟨k,o',Ks,ho,h.symm⟩
   ·obtain⟨k',o',h1,h2⟩:=bN (l:=r) h
    exact⟨k',o',On _ h1,h2⟩
def plC(ρ:List (Nat×Nat))(pl:Nat->Value)(c:Nat):Value:=match yG c (Hf ρ)with
 |some k=>pl k
 |none=>pl c
theorem UE{ρ:List (Nat×Nat)}(hn:gW (ρ.map (·.2))=true){k c:Nat}(h:(k,c)∈ρ):plC ρ pl c=pl k:=by
 unfold plC;rw[JA hn h]
theorem Hn(m:qQ P b0 N σ a w S pl){ρ:List (Nat×Nat)}(hn1:gW (ρ.map (·.1))=true)(hn:gW (ρ.map (·.2))=true):HOk w S (plC ρ pl) (cD σ.ob ρ ρ) where
 ok:=λc o h=>by
  obtain⟨k,o',h1,h2,rfl⟩:=bN h;rw[UE hn h1];exact zj1 (λk j hj=>UE hn (bL hj)) (m.hp k o' h2)
 priv:=λc o b h hb=>by
  obtain⟨k,o',h1,h2,rfl⟩:=bN h;rw[UE hn h1]at hb
  exact(m.priv k o' b h2 hb).2
 inj:=λc c' o o' b h h' hb hb'=>by
  obtain⟨k,o1,h1,h2,rfl⟩:=bN h;obtain⟨k',o2,h1',h2',rfl⟩:=bN h';rw[UE hn h1]at hb
  rw[UE hn h1']at hb'
  have e:=m.inj k k' o1 o2 b h2 h2' hb hb';subst e;have:=bM hn1 h1;rw[bM hn1 h1']at this
  injection this with this;exact this.symm
theorem JC{ρ:List (Nat×Nat)}(hn:gW (ρ.map (·.2))=true){b:Nat}(h:kG (plC ρ pl) (cD σ.ob ρ ρ) b):∃k c o,(k,c)∈ρ/\yG k σ.hp=some o/\oY (pl k)=some b:=by
 obtain⟨c,o,h1,h2⟩:=h;obtain⟨k,o',h3,h4,rfl⟩:=bN h1;rw[UE hn h3]at h2
 exact⟨k,c,o',h3,h4,h2⟩
theorem OM{α:Type}{ks:AcU}{k:Nat}{o:α}:∀ {l:List (Nat×α)},yG k (TV ks l)=some o->k∉ks/\yG k l=some o
 |[],h=>by cases h
 |(i,x)::r,h=>by
  unfold TV at h
  cases hm:pX i ks with
  |true=>
   rw[hm,AI]at h
   obtain⟨h1,h2⟩:=OM h;refine⟨h1,?_⟩;rw[wR,An]
   ·exact h2
   ·intro e;subst e;exact h1 (DA.1 hm)
  |false=>
   rw[hm,Vs,wR]at h
   rw[wR];split at h
   ·rename_i e;subst e;rw[As rfl];exact⟨Jz.1 hm,h⟩
   ·rename_i e;rw[An e];exact OM h
theorem Fd{α:Type}{k:Nat}{o:α}:∀ {l l':List (Nat×α)},yG k (l++l')=some o->(k,o)∈l\/(yG k l'=some o)
 |[],l',h=> .inr h
 |(i,x)::r,l',h=>by
  rw[Abz,wR]at h
  split at h
  ·rename_i e;subst e;injection h with h;subst h;exact .inl Ks
  ·rcases Fd h with h|h
   ·exact .inl (On _ h)
   ·exact .inr h
theorem zbR{ks:AcU}{d:D}(h:fC (fF ks d)=true):fC d=true:=by
 cases d<;>first|rfl|exact h|(simp only[fF,D.ref]at h;revert h;cases pX _ ks<;>exact id)
theorem zbS{ks:AcU}{d:D}(h:Zv (fF ks d)=true):Zv d=true:=by
 cases d<;>first|rfl|exact h|(simp only[fF,D.ref]at h;revert h;cases pX _ ks<;>exact λh=>(by cases h))
theorem Kn{ks:AcU}(h:Rd w S pl v d)(hk:∀b,S b->w'.heap[b]? =w.heap[b]?)(hS:∀b,S b->S' b)(hp:∀k,k∉ks->d.ref=some k->pl' k=pl k):Rd w' S' pl' v (fF ks d):=by
 unfold fF;split
 ·rename_i j hj
  cases hm:pX j ks with
  |true=>rw[AI];exact kH
  |false=>rw[Vs];exact h.mono hk hS λk hk'=>hp k (by rw[hj]at hk';injection hk' with hk';subst hk';exact Jz.1 hm) hk'
 ·rename_i hj;exact h.mono hk hS λk hk'=>by rw[hj]at hk';cases hk'
theorem qQ.after(m:qQ P b0 N σ a w S pl){ρ:List (Nat×Nat)}{dst:Nat}{h':List (Nat×yN)}(hc:zdc σ ρ dst h'=true){S1:Nat->Prop}{pl1:Nat->Value}(g1:HOk w' S1 pl1 h')(g2:∀b,S1 b->b<w'.heap.size)
  (g3:∀b,S1 b->S b\/kG (plC ρ pl) (cD σ.ob ρ ρ) b\/w.heap.size<=b) (g4:∀b,kG pl1 h' b->kG (plC ρ pl) (cD σ.ob ρ ρ) b\/w.heap.size<=b) (g5:∀k,stabK k=true->pl1 k=plC ρ pl k)
  (g6:pH w.heap.size (kG (plC ρ pl) (cD σ.ob ρ ρ)) w w'):
  ∃pl2,qQ P b0 N (σ.after ρ dst h') a w' (λb=>S b\/S1 b) pl2/\∀v d,Rd w' S1 pl1 v d->Rd w' (λb=>S b\/S1 b) pl2 v (d.ren (h'.map λx=>(x.1,fE (Hf ρ) dst x.1))):=by
 simp only[zdc,If]at hc
 obtain⟨⟨⟨⟨⟨n1,n2⟩,n3⟩,n4⟩,c1⟩,c2⟩:=hc
 have c1':∀k c,(k,c)∈ρ->(stabK k=true->stabK c=true)/\c<3000:=λk c hm=>by
  have:=Aao.1 c1 _ hm;simp only[If,AaJ,AaI]at this
  exact⟨λhs=>by rcases this.1 with h|h;rw[hs]at h;cases h;exact h,Aat this.2⟩
 let f:Nat×yN->Nat×Nat:=λx=>(x.1,fE (Hf ρ) dst x.1)
 let β:=h'.map f
 have nb2:gW (β.map (·.2))=true:=by rw[List.map_map];exact n4
 have nb1:gW (β.map (·.1))=true:=by rw[List.map_map];exact n3
 let pl2:Nat->Value:=λk=>match yG k (Hf β)with
  |some c=>pl1 c
  |none=>pl k
 have e2:∀c k,(c,k)∈β->pl2 k=pl1 c:=λc k h=>by
  show(match yG k (Hf β)with|some c=>pl1 c|none=>pl k)=_
  rw[JA nb2 h]
 have hwB:∀b,kG (plC ρ pl) (cD σ.ob ρ ρ) b->b<w.heap.size/\¬S b/\(b0.O b\/b0.w.heap.size<=b):=λb hb=>by
  obtain⟨k,c,o,h1,h2,h3⟩:=JC n2 hb;have:=m.priv k o b h2 h3;exact⟨this.2.1,this.2.2,this.1⟩
 have hS:∀b,S b->w'.heap[b]? =w.heap[b]? :=λb hb=>g6.block b (m.lt b hb) λhh=>(hwB b hh).2.1 hb
 let dead:=((ρ.filter λx=> !stabK x.2|| !(pX x.2 (h'.map (·.1)))).map (·.1))++(β.filter λx=> !(pX x.1 (ρ.map (·.2)))).map (·.2)
 have keep:∀k,k∉dead->pl2 k=pl k:=λk hk=>by
  show(match yG k (Hf β)with|some c=>pl1 c|none=>pl k)=_
  cases hl:yG k (Hf β)with
  |none=>rfl
  |some c=>
   simp only;have hm:=JB hl;obtain⟨x,hx,e⟩:=Of.1 hm
   by_cases hr:c∈ρ.map (·.2)
   ·obtain⟨⟨k0,c0⟩,h0,e0⟩:=Of.1 hr
    simp only at e0;subst e0
    have hb:fE (Hf ρ) dst c0=k0:=by unfold fE;rw[JA n2 h0]
    have e1:x.1=c0:=Is Prod.fst e;have e3:fE (Hf ρ) dst x.1=k:=Is Prod.snd e;rw[e1,hb]at e3;subst e3
    have hnd:¬(!stabK c0|| !(pX c0 (h'.map (·.1))))=true:=λhh=>hk (AaB _ (Of.2 ⟨(k0,c0),Aan.2 ⟨h0,hh⟩,rfl⟩))
    simp only[AaJ,not_or]at hnd
    have hst:stabK c0=true:=by simpa using hnd.1
    rw[g5 c0 hst,UE n2 h0]
   ·exact At (AaK _ (Of.2 ⟨(c,k),Aan.2 ⟨hm,by rw[AaI,Jz];exact hr⟩,rfl⟩)) hk
 have e1:∀i,(σ.after ρ dst h').get i=fF dead (σ.get i):=λi=>by
  show D.or (yG i (σ.fr.map λx=>(x.1,fF dead x.2)))=_
  rw[eN];unfold St.get;cases yG i σ.fr<;>rfl
 have hold:∀k o,yG k (σ.after ρ dst h').hp=some o->(∃c o',yG c h'=some o'/\(c,k)∈β/\o=o'.ren β)\/((k∉ρ.map (·.1))/\k∉β.map (·.2)/\∃o0,yG k σ.hp=some o0/\o=o0.map (fF dead)):=λk o h=>by
  rcases Fd h with h|h
  ·left
   obtain⟨x,hx,e⟩:=Of.1 h;injection e with e3 e4
   exact⟨x.1,x.2,bM n3 hx,Of.2 ⟨x,hx,by show(x.1,fE (Hf ρ) dst x.1)=_;rw[e3]⟩,e4.symm⟩
  ·right
   obtain⟨h1,h2⟩:=OM h;rw[eN]at h2
   simp only[TO,not_or]at h1
   refine⟨h1.1,h1.2,?_⟩;cases h0:yG k σ.hp with
   |none=>rw[h0]at h2;cases h2
   |some o0=>rw[h0]at h2;injection h2 with h2;exact⟨o0,rfl,h2.symm⟩
 have other:∀k o0 b,k∉ρ.map (·.1)->yG k σ.hp=some o0->oY (pl k)=some b->¬kG (plC ρ pl) (cD σ.ob ρ ρ) b:=λk o0 b hk h0 hb hh=>by
  obtain⟨k',c,o,h1,h2,h3⟩:=JC n2 hh;have:=m.inj k k' o0 o b h0 h2 hb h3;subst this;exact hk (Of.2 ⟨_,h1,rfl⟩)
 have place:∀k,k∉β.map (·.2)->pl2 k=pl k:=λk hk=>by
  show(match yG k (Hf β)with|some c=>pl1 c|none=>pl k)=_
  cases hl:yG k (Hf β)with
  |none=>rfl
  |some c=>exact At (Of.2 ⟨_,JB hl,rfl⟩) hk
 refine⟨pl2,⟨m.dz,m.sz,λi=> ?_,λk o h=> ?_,λb hb=> ?_,λb hb=> ?_,λk o b h hb=> ?_,λk k' o o' b h hh hb hb'=> ?_,?_,λk hk=> ?_,m.gok⟩,λv d h=> ?_⟩
 ·rw[e1]
  exact Kn (m.fr i) hS (λb hb=> .inl hb) λk hk _=>keep k hk
 ·rcases hold k o h with⟨c,o',h1,h2,rfl⟩|⟨h1,h2,o0,h3,rfl⟩
  ·rw[e2 c k h2]
   refine zj1 (λc j hj=>e2 c j (bL hj)) ?_
   exact(g1.ok c o' h1).mono (pl:=pl1) (λ_ _=>rfl) (λ_ _=>rfl) (λb hb=> .inr hb) λ_ _ _ _=>rfl
  ·rw[place k h2]
   have h0:=m.hp k o0 h3;have hb:∀b,oY (pl k)=some b->w'.heap[b]? =w.heap[b]? :=λb hb=>g6.block b (m.priv k o0 b h3 hb).2.1 (other k o0 b h1 h3 hb)
   cases o0 with
   |cells ds=>
    obtain⟨b,vs,T,q1,q2,q3,q4,q5⟩:=h0;refine⟨b,vs,T,q1,by rw[hb b (by rw[q1];rfl)];exact q2,by simpa using q3,λi d hd=> ?_,Jq (λ_=>zbS) q5⟩
    simp only[Aau,Aba]at hd
    obtain⟨d0,hd0,rfl⟩:=hd;exact Kn (q4 i d0 hd0) hS (λb hb=> .inl hb) λk hk _=>keep k hk
   |row e t xs=>exact W2.mono (pl:=pl) (pl':=pl2) h0 hS hb (λb hb=> .inl hb) λ_ _ e=>by cases e
   |mp kt vt es=>exact W2.mono (pl:=pl) (pl':=pl2) h0 hS hb (λb hb=> .inl hb) λ_ _ e=>by cases e
   |val ds=>
    obtain⟨vs,q1,q3,q4⟩:=h0;refine⟨vs,q1,by simpa using q3,λi d hd=> ?_⟩
    simp only[Aau,Aba]at hd
    obtain⟨d0,hd0,rfl⟩:=hd;exact⟨Kn (q4 i d0 hd0).1 hS (λb hb=> .inl hb) λk hk _=>keep k hk,λhc=>(q4 i d0 hd0).2 (zbR hc)⟩
 ·rcases hb with hb|hb
  ·exact Aax (m.lt b hb) g6.size
  ·exact g2 b hb
 ·rcases hb with hb|hb
  ·exact m.src b hb
  ·rcases g3 b hb with hb|hb|hb
   ·exact m.src b hb
   ·exact .inr (hwB b hb).2.2
   ·exact .inr (.inr (Aai m.below.size hb))
 ·rcases hold k o h with⟨c,o',h1,h2,rfl⟩|⟨h1,h2,o0,h3,rfl⟩
  ·rw[e2 c k h2]at hb
   obtain⟨p1,p2⟩:=g1.priv c o' b h1 hb;rcases g4 b ⟨c,o',h1,hb⟩with hh|hh
   ·have:=hwB b hh
    exact⟨this.2.2,p1,λhs=>hs.elim this.2.1 p2⟩
   ·exact⟨.inr (Aai m.below.size hh),p1,λhs=>hs.elim (λhs=>by have:=m.lt b hs;omega) p2⟩
  ·rw[place k h2]at hb
   obtain⟨p1,p2,p3⟩:=m.priv k o0 b h3 hb;refine⟨p1,Aax p2 g6.size,λhs=> ?_⟩
   rcases hs with hs|hs
   ·exact p3 hs
   ·rcases g3 b hs with hs|hs|hs
    ·exact p3 hs
    ·exact other k o0 b h1 h3 hb hs
    ·omega
 ·rcases hold k o h with⟨c,o1,h1,h2,rfl⟩|⟨h1,h2,o0,h3,rfl⟩<;>rcases hold k' o' hh with⟨c',o2,h1',h2',rfl⟩|⟨h1',h2',o0',h3',rfl⟩
  ·rw[e2 c k h2]at hb
   rw[e2 c' k' h2']at hb'
   have:=g1.inj c c' o1 o2 b h1 h1' hb hb';subst this;have e3:=bM nb1 h2;rw[bM nb1 h2']at e3
   injection e3 with e3;exact e3.symm
  ·rw[e2 c k h2]at hb
   rw[place k' h2']at hb'
   rcases g4 b ⟨c,o1,h1,hb⟩with hh|hh
   ·exact(other k' o0' b h1' h3' hb' hh).elim
   ·have:=(m.priv k' o0' b h3' hb').2.1;omega
  ·rw[place k h2]at hb
   rw[e2 c' k' h2']at hb'
   rcases g4 b ⟨c',o2,h1',hb'⟩with hh|hh
   ·exact(other k o0 b h1 h3 hb hh).elim
   ·have:=(m.priv k o0 b h3 hb).2.1;omega
  ·rw[place k h2]at hb
   rw[place k' h2']at hb'
   exact m.inj k k' o0 o0' b h3 h3' hb hb'
 ·exact⟨g6.os.trans m.below.os,g6.tape.trans m.below.tape,g6.output.trans m.below.output,Aai m.below.size g6.size,λc hc hO=>by
   refine(g6.block c (Aax hc m.below.size) λhh=> ?_).trans (m.below.block c hc hO)
   rcases(hwB c hh).2.2 with h|h
   ·exact hO h
   ·omega⟩
 ·
  refine Eq.trans ?_ (m.stay k hk);show(match yG k (Hf β)with|some c=>pl1 c|none=>pl k)=_
  cases hl:yG k (Hf β)with
  |none=>rfl
  |some c=>
   simp only;obtain⟨x,hx,e⟩:=Of.1 (JB hl);have e1:x.1=c:=Is Prod.fst e;have e3:fE (Hf ρ) dst x.1=k:=Is Prod.snd e
   by_cases hr:c∈ρ.map (·.2)
   ·obtain⟨⟨k0,c0⟩,h0,e0⟩:=Of.1 hr
    simp only at e0;subst e0
    have hb:fE (Hf ρ) dst c0=k0:=by unfold fE;rw[JA n2 h0]
    rw[e1,hb]at e3;subst e3
    rw[g5 c0 ((c1' k0 c0 h0).1 hk),UE n2 h0]
   ·exfalso
    have hn:yG c (Hf ρ)=none:=by
     cases hh:yG c (Hf ρ)with
     |none=>rfl
     |some k0=>exact At (Of.2 ⟨_,JB hh,rfl⟩) hr
    rw[e1]at e3
    simp only[fE,hn]at e3
    simp only[stabK,If]at hk
    have h2:=Aat hk.2;omega
 ·exact Hm (λc j hj=>e2 c j (bL hj)) (h.mono (λ_ _=>rfl) (λb hb=> .inr hb) λ_ _=>rfl)
theorem zih(k off:Nat):stabK (Zw k off)=false:=by
 unfold stabK Zw;cases h:Nat.ble 1000 (1000000+1000*k+off)&&Nat.blt (1000000+1000*k+off) 2000 with
 |false=>rfl
 |true=>
  simp only[If]at h
  have:=Aat h.2;omega
theorem zii{ds:AcO}(h:ds[0]? =some (.ifc (.pointer none))):Vz ds=true:=by
 cases ds with
 |nil=>cases h
 |cons a r=>injection h with h;subst h;rfl
theorem zai(m:qQ P b0 N σ a w S pl)(k off:Nat)(e:AcI)(t:Ty):∃pl',qQ P b0 N (OJ σ k off e t) a w S pl'/\∀v d,d.ref≠some (Zw k off)->Rd w S pl v d->Rd w S pl' v d:=by
 unfold OJ;split
 ·rename_i ds hob
  split
  ·rename_i hnil
   cases hb:Nat.beq k (Zw k off)with
   |true=>exact⟨pl,m,λ_ _ _ h=>h⟩
   |false=>
    rw[Vs];have hne:k≠Zw k off:=λe=>by rw[<-e,xG.2 rfl]at hb;cases hb
    have m1:=m.mk' (w':=w) (Zw k off) (zih k off) (.row e t []) (.slice none 0 0) (Below.refl _ _) (λb hb=>by cases hb) λpl' _=>⟨by simp[lim],[],rfl,by simpa using World.ownsRow_nil w 0 e t.size,by simp,by simp⟩
    have hob1:yG k (σ.mk' (Zw k off) (.row e t [])).hp=some (.cells (ds.map (D.kill (Zw k off)))):=by
     simp only[St.mk',wR,ov,An (Ne.symm hne),St.map,eN];have:yG k σ.hp=some (.cells ds):=hob;rw[this];rfl
    obtain⟨b,vs,T,q1,q2,q3,q4,q5⟩:=m1.hp k _ hob1;refine⟨_,m1.setOb (w':=w) hob1 (b:=b) (by rw[q1];rfl) (λ_ _=>rfl) rfl ⟨rfl,rfl,rfl⟩ ?_,λv d hd h=>h.mono (λ_ _=>rfl) (λ_ h=>h) λj hj=>An λe=>hd (by rw[hj,e])⟩
    refine⟨b,vs,T,q1,q2,by simpa using q3,λi d hd=> ?_,λhh=>by rw[Aaw];exact q5 ((Ke hh).resolve_right λx=>by cases x.2)⟩
    rw[AbP]at hd
    split at hd
    ·rename_i e;subst e
     split at hd
     ·injection hd with hd;subst hd
      have:=q4 off .nil (by rw[Aau,hnil];rfl)
      have hv:=(this.flat (d:=.nil) rfl).nil_inv;show _=(if Zw k off=Zw k off then _ else _)
      rw[As rfl,hv]
     ·cases hd
    ·exact q4 i d hd
  ·rename_i hnil
   obtain⟨b,vs,T,q1,q2,q3,q4,q5⟩:=m.hp k _ hob;refine⟨pl,m.setOb (w':=w) hob (b:=b) (by rw[q1];rfl) (λ_ _=>rfl) rfl ⟨rfl,rfl,rfl⟩ ?_,λv d hd h=>h⟩
   refine⟨b,vs,T,q1,q2,by simpa using q3,λi d hd=> ?_,λhh=>by rw[Aaw];exact q5 ((Ke hh).elim id λx=>zii (x.1▸hnil))⟩
   rw[AbP]at hd
   split at hd
   ·rename_i e;subst e
    split at hd
    ·injection hd with hd;subst hd
     have:=q4 off _ hnil;exact .inl (this.flat (d:=.ifc (.pointer none)) rfl).ifc_inv
    ·cases hd
   ·exact q4 i d hd
  ·exact⟨pl,m,λ_ _ _ h=>h⟩
 ·exact⟨pl,m,λ_ _ _ h=>h⟩
theorem UF(ds:AcO):∀(l:List (Nat×(Nat×(AcI×Ty)))) (σ:St) (pl:Nat->Value),qQ P b0 N σ a w S pl->∃pl',qQ P b0 N (fD ds l σ) a w S pl'/\∀v d,(∀k,d.ref=some k->k<1000000)->Rd w S pl v d->Rd w S pl' v d
 |[],σ,pl,m=>⟨pl,m,λ_ _ _ h=>h⟩
 |(i,off,e,t)::r,σ,pl,m=>by
  unfold fD;split
  ·rename_i k _
   obtain⟨pl1,m1,h1⟩:=zai m k off e t;obtain⟨pl2,m2,h2⟩:=UF ds r _ _ m1;exact⟨pl2,m2,λv d hd h=>h2 v d hd (h1 v d (λe=>by have:=hd _ e;unfold Zw at this;omega) h)⟩
  ·exact UF ds r σ pl m
theorem Fe(m:qQ P b0 N σ a w S pl)(k off:Nat):∃S',(∀b,S b->S' b)/\qQ P b0 N (W4 σ k off) a w S' pl:=by
 unfold W4;split
 ·split
  ·split
   ·rename_i j _ o hob
    cases hf:o.flatB with
    |false=>exact⟨S,λ_ h=>h,m⟩
    |true=>
     have hfl:o.flat:=by
      cases o with
      |cells cs=>exact λd hd=>jT.1 (Aao.1 hf d hd)
      |row _ _ _=>trivial
      |mp _ _ _=>trivial
      |val cs=>exact λd hd=>jT.1 (Aao.1 hf d hd)
     exact⟨_,λ_ h=> .inl h,m.pub hob hfl⟩
   ·exact⟨S,λ_ h=>h,m⟩
  ·exact⟨S,λ_ h=>h,m⟩
 ·exact⟨S,λ_ h=>h,m⟩
theorem VY(ds:AcO):∀(l:List (Nat×Nat)) (σ:St) (S:Nat->Prop),qQ P b0 N σ a w S pl->∃S',(∀b,S b->S' b)/\qQ P b0 N (tP ds l σ) a w S' pl
 |[],σ,S,m=>⟨S,λ_ h=>h,m⟩
 |(i,off)::r,σ,S,m=>by
  unfold tP;split
  ·rename_i k _
   obtain⟨S1,h1,m1⟩:=Fe m k off;obtain⟨S2,h2,m2⟩:=VY ds r _ _ m1;exact⟨S2,λb h=>h2 b (h1 b h),m2⟩
  ·exact VY ds r σ S m
theorem zj2:∀ {ts:AcW} {K:AcO->Prop},exH ts K->∃xs,K xs
 |[],K,h=>⟨[],h⟩
 |t::ts,K,h=>by
  obtain⟨x,h⟩:=h;obtain⟨xs,h⟩:=zj2 h;exact⟨_,h⟩
theorem Ko(m:qQ P b0 N σ a w S pl){f:AcH}{hs:zbv}{ds0 caps:AcO}{vs cvs:Array Value}(h:G9 P A f hs (zid o.dst) ds0 caps σ K)(hv:wF (Rd w S pl) vs.toList ds0)(hcv:wF (Rp w S) cvs.toList caps)
  (hn:rY P b0 N o a K next):Calls P f (vs++cvs) w fun
   | .returned v,w''=>next (a.put o.dst v) w''
   | .panicked chain,w''=>Q (.panic chain) a w''
   | .outgrown,_=>LetsOut Q:=by
 unfold G9 at h
 cases hb:caps.all ZE&&ds0.all Kh with
 |false=>rw[hb]at h;exact h.elim
 |true=>
  rw[hb,AI]at h
  simp only[If]at hb
  obtain⟨hb1,hb2⟩:=hb;simp only at h
  obtain⟨S1,hS1,m1⟩:=VY ds0 hs.datas σ S m;obtain⟨pl1,m2,hr1⟩:=UF (ds0++cU (tP ds0 hs.datas σ) ds0) hs.nils _ _ m1;generalize fD (ds0++cU (tP ds0 hs.datas σ) ds0) hs.nils (tP ds0 hs.datas σ)=σ1 at h m2
  generalize zbE σ1.ob (OI ds0) (reach σ1.ob 400 [] ds0) 0 0=ρ at h
  obtain⟨xs,h⟩:=zj2 h;split at h
  ·rename_i r h' _
   cases hc:zdc σ1 ρ (zid o.dst) h' with
   |false=>rw[hc]at h;exact h.elim
   |true=>
    rw[hc,AI]at h
    obtain⟨hs',hK⟩:=h;have hc':=hc;simp only[zdc,If]at hc'
    obtain⟨⟨⟨⟨⟨n1,n2⟩,n3⟩,n4⟩,_⟩,_⟩:=hc';have hpk:=Hn m2 n1 n2
    have hv2:wF (Rd w S1 (plC ρ pl1)) vs.toList (ds0.map (D.ren ρ)):=by
     refine wF.map_right ?_;have:=hv.len;refine wF.of this λi u d hu hd=> ?_
     obtain⟨u',hu',hr⟩:=hv.at hd;rw[hu]at hu';injection hu' with hu';subst hu'
     refine Hm (λk j hj=>UE n2 (bL hj)) (hr1 u d (λk hk=> ?_) (hr.mono (λ_ _=>rfl) hS1 λ_ _=>rfl))
     have:=Aao.1 hb2 d (AaQ hd);unfold Kh at this
     rw[hk]at this
     exact Aat this
    have hcv2:wF (Rd w S1 (plC ρ pl1)) cvs.toList caps:=(hcv.rmono (λ_ _=>rfl) hS1).rd
    have hall:=hv2.append hcv2
    refine(hs' w S1 (vs++cvs) (plC ρ pl1) m2.lt (by have:=hall.len;simpa using this) (λi d hd=> ?_) hpk (m2.gnow λb hb=>by
     obtain⟨k,c,o,h1,h2,h3⟩:=JC n2 hb;exact(m2.priv k o b h2 h3).1)).mono λe w' hh=> ?_
    ·obtain⟨u,hu,hr⟩:=hall.at hd
     have:(vs++cvs).getD i undef=u:=by rw[Aae,<-AaE,Array.toList_append,hu];rfl
     rw[this];exact hr
    ·obtain⟨v,S',pl',rfl,k1,k2,k3,k4,k5,k6,k7⟩:=hh
     obtain⟨pl2,m3,hr3⟩:=m2.after hc k2 k3 k4 k5 k6 k7;exact hn _ _ _ _ _ _ hK m3 (hr3 v r k1)
  ·exact h.elim
theorem zfv(m:qQ P b0 N σ a w S pl){f:AcH}{hs:zbv}{ds0 caps:AcO}{vs cvs:Array Value}{T:Value->Prop}(h:zjM P f hs ds0 caps σ T)(hv:wF (Rd w S pl) vs.toList ds0)(hcv:wF (Rp w S) cvs.toList caps)
  (hT:∀u w',T u->pH b0.w.heap.size b0.O b0.w w'->Q (.panic [{v:=u,recovered:=false}]) a w'):Calls P f (vs++cvs) w fun
   | .returned v,w''=>next (a.put o.dst v) w''
   | .panicked chain,w''=>Q (.panic chain) a w''
   | .outgrown,_=>LetsOut Q:=by
 unfold zjM at h
 cases hb:caps.all ZE&&ds0.all Kh with
 |false=>rw[hb]at h;exact h.elim
 |true=>
  rw[hb,AI]at h
  simp only[If]at hb
  obtain⟨hb1,hb2⟩:=hb;simp only at h
  obtain⟨S1,hS1,m1⟩:=VY ds0 hs.datas σ S m;obtain⟨pl1,m2,hr1⟩:=UF (ds0++cU (tP ds0 hs.datas σ) ds0) hs.nils _ _ m1;generalize fD (ds0++cU (tP ds0 hs.datas σ) ds0) hs.nils (tP ds0 hs.datas σ)=σ1 at h m2
  generalize zbE σ1.ob (OI ds0) (reach σ1.ob 400 [] ds0) 0 0=ρ at h
  cases hc:gW (ρ.map (·.1))&&gW (ρ.map (·.2))with
  |false=>rw[hc]at h;exact h.elim
  |true=>
   rw[hc,AI]at h
   obtain⟨u,hs',hK⟩:=h;simp only[If]at hc
   obtain⟨n1,n2⟩:=hc;have hpk:=Hn m2 n1 n2
   have hv2:wF (Rd w S1 (plC ρ pl1)) vs.toList (ds0.map (D.ren ρ)):=by
    refine wF.map_right ?_;have:=hv.len;refine wF.of this λi u d hu hd=> ?_
    obtain⟨u',hu',hr⟩:=hv.at hd;rw[hu]at hu';injection hu' with hu';subst hu'
    refine Hm (λk j hj=>UE n2 (bL hj)) (hr1 u d (λk hk=> ?_) (hr.mono (λ_ _=>rfl) hS1 λ_ _=>rfl))
    have:=Aao.1 hb2 d (AaQ hd);unfold Kh at this
    rw[hk]at this
    exact Aat this
   have hcv2:wF (Rd w S1 (plC ρ pl1)) cvs.toList caps:=(hcv.rmono (λ_ _=>rfl) hS1).rd
   have hall:=hv2.append hcv2
   have hwB:∀b,kG (plC ρ pl1) (cD σ1.ob ρ ρ) b->b0.O b\/b0.w.heap.size<=b:=λb hb=>by
    obtain⟨k,c,o,h1,h2,h3⟩:=JC n2 hb;exact(m2.priv k o b h2 h3).1
   refine(hs' w S1 (vs++cvs) (plC ρ pl1) m2.lt (by have:=hall.len;simpa using this) (λi d hd=> ?_) hpk (m2.gnow hwB)).mono λe w' hh=> ?_
   ·obtain⟨u,hu,hr⟩:=hall.at hd
    have:(vs++cvs).getD i undef=u:=by rw[Aae,<-AaE,Array.toList_append,hu];rfl
    rw[this];exact hr
   ·obtain⟨rfl,g6⟩:=hh
    refine hT u w' hK ⟨g6.os.trans m.below.os,g6.tape.trans m.below.tape,g6.output.trans m.below.output,Aai m.below.size g6.size,λc hc hO=> ?_⟩
    refine(g6.block c (Aax hc m.below.size) λhh=> ?_).trans (m.below.block c hc hO)
    rcases hwB c hh with h|h
    ·exact hO h
    ·omega
end
section
variable {P:AcJ}{E:TE}{A:wG}{b0:Tx}{w w':World}{S S':Nat->Prop}{pl pl':Nat->Value}{N:Nat}{σ:St}{a:Act}{v:Value}{d:D}{o:Oper}{K:D->St->Prop}{next:Act->World->Prop}{Q:Exit->Act->World->Prop}
theorem JD(m:qQ P b0 N σ a w S pl){dflt:Int}{x:Option Operand}{n:Int}(h:Wc σ dflt x=some n):(x=none/\n=dflt)\/∃y,x=some y/\a.eval y=.int .i64 n:=by
 cases x with
 |none=>injection h with h;exact .inl ⟨rfl,h.symm⟩
 |some y=>
  right;have hy:=rF m y;simp only[Wc]at h
  split at h
  ·rename_i k e
   injection h with h;subst h
   rw[e]at hy
   exact⟨y,rfl,(hy.flat (d:=.int .i64 k) rfl).int_inv.1⟩
  ·cases h
theorem zbT(n:Int)(y:Nat)(code:BoundsCode)(h0:0<=n)(h1:n<=(y:Int)):(Instr.sliceBound (.int .i64 n) y code).run P w=.ok n.toNat w:=by
 simp only[Instr.sliceBound,asIntOf,IS,No,IT];rw[As ⟨h0,h1⟩];rfl
theorem DB{lo hi:Option Operand}{l h:Int}{isS:Bool}{len cap:Nat}(hlo:(lo=none/\l=0)\/∃y,lo=some y/\a.eval y=.int .i64 l)(hhi:(hi=none/\h=(len:Int))\/∃y,hi=some y/\a.eval y=.int .i64 h)
  (h0:0<=l) (h1:l<=h) (h2:h<=(len:Int)) (hc:len<=cap):(Instr.sliceBounds isS len cap (lo.map a.eval) (hi.map a.eval) none).run P w=.ok (l.toNat,h.toNat,cap) w:=by
 unfold Instr.sliceBounds;rcases hhi with⟨rfl,rfl⟩|⟨y,rfl,e⟩<;>rcases hlo with⟨rfl,rfl⟩|⟨z,rfl,e'⟩
 ·simp only[AbJ,IS,No,IT];try rfl
 ·simp only[AbJ,Abe,e',IS,No,IT,zbT l len _ h0 (by omega)];try rfl
 ·simp only[AbJ,Abe,e,IS,No,IT,zbT h cap _ (by omega) (by omega)];try rfl
 ·simp only[Abe,e,e',IS,No,IT,zbT h cap _ (by omega) (by omega),zbT l h.toNat _ h0 (by omega)]
theorem zaj{l h:Int}{len:Nat}(hh:Js l h len=true):0<=l/\l<=h/\h<=(len:Int):=by simpa[Js,and_assoc]using hh
theorem znk{t:Ty}{xs:List t.den}{A:Option Addr}{c l h:Nat}(hr:XX w S (.slice A xs.length c) xs)(h1:l<=h)(h2:h<=xs.length):XX w S (sliced A l h c t.size) ((xs.take h).drop l):=by
 obtain⟨cs,e,A',c',rfl,k0,k1,k2,k3,k4⟩:=hr;simp only[vOf,Value.slice.injEq]at e
 obtain⟨rfl,_,rfl⟩:=e;have hlen:((xs.take h).drop l).length=h-l:=by rw[Aa1,Aaf];omega
 refine⟨[_],rfl,(if c=l then A else A.map (·.add (l*t.size))),c-l,by rw[hlen],?_,by omega,by omega,λhn=> ?_,λhn=> ?_⟩
 ·rw[hlen]
  exact Aai (Abf _ (by omega)) k0
 ·split at hn
  ·have:=k3 hn;omega
  ·cases A with
   |none=>have:=k3 rfl;omega
   |some ad=>cases hn
 ·obtain⟨b,o',rfl,hb,hc⟩:=k4 (by omega)
  rw[An (by omega)]
  refine⟨b,o'+l*t.size,?_,hb,λi x hx=> ?_⟩
  ·simp only[Abe,Addr.add]
   split
   ·rename_i e;rw[e];rfl
   ·rfl
  ·rw[Abw,Abx]at hx
   split at hx
   ·obtain⟨cs,hcs,hcell⟩:=hc (l+i) x hx
    refine⟨cs,hcs,λj u hu=> ?_⟩
    have:=hcell j u hu;rw[<-this,<-Ty.size_eq]
    congr 2
    rw[Nat.add_mul];omega
   ·cases hx
theorem zj3(F:sR P E)(m:qQ P b0 N σ a w S pl){T:AcI}{x:Operand}{lo hi:Option Operand}(ho:o.op=.slice T x lo hi none)(h:zbz E A T (σ.ev x) σ lo hi K)(hn:rY P b0 N o a K next):o.wp P a w next Q:=by
 have hx:=rF m x;unfold zbz at h
 split at h
 ·rename_i s e
  rw[e]at hx
  obtain⟨hx,hsz⟩:=(hx.flat (d:=.str s) rfl).str_inv;cases hm:pX T E.strs with
  |false=>rw[hm]at h;exact h.elim
  |true=>
   rw[hm,AI]at h
   split at h
   ·rename_i l hh e1 e2
    obtain⟨hin,h⟩:=h;obtain⟨h0,h1,h2⟩:=zaj hin;have hb:=DB (P:=P) (w:=w) (isS:=false) (cap:=s.size) (JD m e1) (JD m e2) h0 h1 h2 (BY _)
    have hrun:(execOp a.eval o).run P w=.ok (.value (.string (s.extract l.toNat hh.toNat))) w:=by
     unfold execOp;rw[ho];simp only[Instr.sliceAt,Instr.slice,IS,run_underlying (F.strs T hm),IT,hx,AbJ,Option.isSome_none,Aa0,if_false,hb,No]
    refine yV hrun (hn _ _ _ _ _ _ h m (Rp.rd (.str _ ?_)));rw[Abr];omega
   ·exact h.elim
 ·obtain⟨σ',ds',S',hK,hS,m',hv⟩:=oE h m
  have hr:=hv [a.eval x] (.cons hx .nil);split at hK
  ·rename_i t xs
   split at hK
   ·rename_i e t' l hh hl e1 e2
    cases hz:Nat.beq t'.size t.size with
    |false=>rw[hz]at hK;exact hK.elim
    |true=>
     rw[hz,AI]at hK
     obtain⟨hin,hK⟩:=hK;obtain⟨h0,h1,h2⟩:=zaj hin;obtain _|⟨hr1,_⟩:=hr
     have hrd:=hr1.sl_inv;obtain⟨A',c,hv',hok⟩:=rN hrd;have hb:=DB (P:=P) (w:=w) (isS:=true) (cap:=c) (JD m' e1) (JD m' e2) h0 h1 h2 hok.cap
     have hrun:(execOp a.eval o).run P w=.ok (.value (sliced A' l.toNat hh.toNat c t.size)) w:=by
      unfold execOp;rw[ho];simp only[Instr.sliceAt,Instr.slice,IS,run_underlying (F.sl T e t' hl).und,IT,hv',AbJ,hb,Km F hl,No];rw[xG.1 hz];rfl
     rw[hv']at hrd
     exact yV hrun (hn _ _ _ _ _ _ hK m' (Rp.rd (.sl t _ _ (znk hrd (by omega) (by omega)))))
   ·exact hK.elim
  ·exact hK.elim
theorem znl(F:sR P E)(m:qQ P b0 N σ a w S pl){c:Call}(ho:o.op=.call c)(hc:c.callee=.builtin .len){x:Operand}{T:AcI}(ha:c.args.toList=[x])(ht:c.argTypes.toList=[T])(h:zlP E T (σ.ev x) σ λd=>K d σ)(hn:rY P b0 N o a K next):o.wp P a w next Q:=by
 have hx:=rF m x;have ha':c.args= #[x]:=by apply Array.ext';simpa using ha
 have ht':c.argTypes= #[T]:=by apply Array.ext';simpa using ht
 have run:∀u,(Builtin.len_ #[T] o.type #[a.eval x]).run P w=.ok u w->(execOp a.eval o).run P w=.ok (.value u) w:=λu h=>by
  unfold execOp;rw[ho];simp only[resolve,hc,ha',ht',invoke,builtin,AbF,Aak,AbG,IS,No,IT,h]
 have ii:∀n:Nat,n<=9223372036854775807->Rd w S pl (.int .i64 (n:Int)) (.int .i64 (n:Int)):=λn hn=>Rp.rd (.int _ _ (by unfold inK yY;omega))
 have srun:∀e A n c,P.underlying T=some (.slice e)->a.eval x=.slice A n c->(Builtin.len_ #[T] o.type #[a.eval x]).run P w=.ok (.int .i64 (n:Int)) w:=λe A n c hu hv=>by
  simp[Builtin.len_,run_underlying hu,hv,goInt]
 have mrun:∀kT eT b ents clock {n:Nat},P.underlying T=some (.map kT eT)->a.eval x=.map (some b)->w.heap[b]? =some (.map ents clock)->ents.toList.length=n->(Builtin.len_ #[T] o.type #[a.eval x]).run P w=.ok (.int .i64 (n:Int)) w:=λkT eT b ents clock n hu hv hb hl=>by
  have hget:(getObj b).run P w=.ok (.map ents clock) w:=by simp[getObj,Sem.run,hb]
  subst hl;simp[Builtin.len_,run_underlying hu,hv,goInt,hget]
 unfold zlP at h
 split at h
 ·rename_i s e
  rw[e]at hx
  obtain⟨hx,hsz⟩:=(hx.flat (d:=.str s) rfl).str_inv;cases hm:pX T E.strs with
  |false=>rw[hm]at h;exact h.elim
  |true=>
   rw[hm,AI]at h
   refine yV (run (.int .i64 (s.size:Int)) ?_) (hn _ _ _ _ _ _ h m (ii _ (by omega)))
   simp[Builtin.len_,run_underlying (F.strs T hm),hx,goInt]
 ·rename_i e
  rw[e]at hx
  have hx:=(hx.flat (d:=.nil) rfl).nil_inv;split at h
  ·rename_i y hl
   obtain⟨te,t⟩:=y;exact yV (run _ (srun _ _ _ _ (F.sl T te t hl).und hx)) (hn _ _ _ _ _ _ h m (ii 0 (by omega)))
  ·exact h.elim
 ·rename_i kt vt es e
  rw[e]at hx
  obtain⟨b,hv,_,h0,ents,clock,hb,hes⟩:=(hx.flat (d:=.mp kt vt es) rfl).mp_inv;split at h
  ·rename_i y hl
   obtain⟨k0,v0⟩:=y;obtain⟨kT,eT,i,z,dz,hu,_⟩:=F.mps T _ _ hl;exact yV (run _ (mrun _ _ _ _ _ hu hv hb hes.len)) (hn _ _ _ _ _ _ h m (ii _ (by omega)))
  ·exact h.elim
 ·rename_i t xs e
  rw[e]at hx
  obtain⟨A',c',hv,hok⟩:=rN (hx.flat (d:=.sl t xs) rfl).sl_inv;split at h
  ·rename_i y hl
   obtain⟨te,t'⟩:=y;exact yV (run _ (srun _ _ _ _ (F.sl T te t' hl).und hv)) (hn _ _ _ _ _ _ h m (ii _ (Aai hok.cap hok.max)))
  ·exact h.elim
 ·rename_i k e
  rw[e]at hx
  have hx:a.eval x=pl k:=hx;split at h
  ·rename_i e' t xs hob
   split at h
   ·rename_i y hl
    obtain⟨te,t'⟩:=y;obtain⟨_,css,_,q2,_⟩:=m.hp k _ hob;rcases q2.2 with⟨ep,e0⟩|⟨g,cap,cur,ep,_,_,hcap,hmax,_⟩
    ·rw[e0]at h
     exact yV (run _ (srun _ _ _ _ (F.sl T te t' hl).und (hx.trans ep))) (hn _ _ _ _ _ _ h m (ii 0 (by omega)))
    ·exact yV (run _ (srun _ _ _ _ (F.sl T te t' hl).und (hx.trans ep))) (hn _ _ _ _ _ _ h m (ii _ (by unfold maxLen at hmax;omega)))
   ·exact h.elim
  ·rename_i kt vt es hob
   split at h
   ·rename_i y hl
    obtain⟨k0,v0⟩:=y;obtain⟨kT,eT,i,z,dz,hu,_⟩:=F.mps T _ _ hl;obtain⟨b,hv,h0,ents,clock,hb,hes⟩:=m.hp k _ hob;exact yV (run _ (mrun _ _ _ _ _ hu (hx.trans hv) hb hes.len)) (hn _ _ _ _ _ _ h m (ii _ (by omega)))
   ·exact h.elim
  ·exact h.elim
 ·exact h.elim
def Src(w:World)(S:Nat->Prop)(t:Ty)(u:Value)(ys:List t.den):Prop:=
 ∃A c,u=.slice A ys.length c/\∃ccs:List (List Value),ccs.length=ys.length/\(∀cs∈ccs,cs.length=t.size)/\(∀(i:Nat) (x:t.den) (cs:List Value),ys[i]? =some x->ccs[i]? =some cs->vV.rd w S cs x)/\
  (0<ys.length->∃b o,A=some ⟨b,o,none⟩/\∀j u,ccs.flatten[j]? =some u->w.cell? ⟨b,o+j,none⟩=some u)
theorem zhh(t:Ty):Src w S t (.slice none 0 0) ([]:List t.den):=⟨none,0,rfl,[],rfl,by simp,by simp,by simp⟩
theorem znm{t:Ty}{u:Value}{ys:List t.den}(hy:XX w S u ys):Src w S t u ys:=by
 obtain⟨ucs,rfl,A,c,rfl,k0,k1,k2,k3,k4⟩:=hy;refine⟨A,c,rfl,?_⟩
 by_cases hn:0<ys.length
 ·obtain⟨b,o',hA,hb',hc⟩:=k4 hn
  have hc':∀i:Fin ys.length,∃cs,vV.rd w S cs ys[i]/\∀j u,cs[j]? =some u->w.cell? ⟨b,o'+i*vV.size t.den+j,none⟩=some u:=λi=>hc i _ (Aac i.2)
  let f:Fin ys.length->List Value:=λi=>(hc' i).choose
  have hf:∀i,vV.rd w S (f i) ys[i]/\∀j u,(f i)[j]? =some u->w.cell? ⟨b,o'+i*vV.size t.den+j,none⟩=some u:=λi=>(hc' i).choose_spec
  have hl:∀cs∈List.ofFn f,cs.length=t.size:=λcs hcs=>by
   obtain⟨i,rfl⟩:=List.mem_ofFn.1 hcs;rw[Ty.size_eq];exact vV.len (hf i).1
  refine⟨List.ofFn f,by simp,hl,λi x cs hx hcs=> ?_,λ_=>⟨b,o',hA,λj u hu=> ?_⟩⟩
  ·have hi:i<ys.length:=(AaD.1 hx).1
   rw[Aac hi]at hx
   have:cs=f ⟨i,hi⟩:=by simpa[List.getElem?_ofFn,hi]using hcs.symm
   subst this;injection hx with hx
   rw[<-hx];exact(hf ⟨i,hi⟩).1
  ·have hpos:0<t.size:=by rw[Ty.size_eq];exact vV.pos
   rw[OL hpos _ hl]at hu
   have hdm:j/t.size*t.size+j%t.size=j:=by rw[Nat.mul_comm];exact Nat.div_add_mod _ _
   cases hq:(List.ofFn f)[j/t.size]? with
   |none=>rw[hq]at hu;cases hu
   |some cs=>
    rw[hq]at hu
    simp only[AbH]at hu
    have hi:j/t.size<ys.length:=by have:=(AaD.1 hq).1;simpa using this
    have:cs=f ⟨j/t.size,hi⟩:=by simpa[List.getElem?_ofFn,hi]using hq.symm
    subst this;have:=(hf ⟨j/t.size,hi⟩).2 _ u hu;rw[<-Ty.size_eq,Nat.add_assoc]at this
    simp only[hdm]at this
    exact this
 ·have:ys=[]:=Aa9 (by omega)
  subst this;exact⟨[],rfl,by simp,by simp,λh=>At h (by simp)⟩
theorem zl4{e:AcI}{t:Ty}{p:Value}{ys:List t.den}(h:W2 w S pl p (.row e t ys)):Src w S t p ys:=by
 obtain⟨q0,css,q1,q2,q3,q4⟩:=h;rcases q2.2 with⟨ep,e0⟩|⟨g,cap,cur,ep,_,hg,hcap,hmax,hcur,htake⟩
 ·have:ys=[]:=Aa9 e0
  subst this;rw[ep];exact zhh t
 ·refine⟨some ⟨g,0,none⟩,cap,ep,css,q1,q3,q4,λ_=>⟨g,0,rfl,λj u hu=> ?_⟩⟩
  have:=q2.cells (g:=g) (by rw[ep];rfl) j u hu
  rw[<-this];unfold Addr.add;split
  ·rename_i e;simp[e]
  ·simp
theorem Kp(F:sR P E){T e:AcI}{t' t:Ty}(hl:yG T E.sl=some (e,t'))(ht:t'.size=t.size)(hby:t'.bytes=t.bytes){p u:Value}{xs ys:List t.den}(hx:W2 w S pl p (.row e t xs))(hy:Src w S t u ys)(hb:xQ t (xs.length+ys.length)=true)
  (hSb:∀b,oY p=some b->¬S b) (hlt:∀b,S b->b<w.heap.size) (ty:AcI):
  ∃p' w',(Builtin.append_ #[T,T] ty #[p,u]).run P w=.ok p' w'/\w.grownBy w' (oY p)/\(∀b,oY p'=some b->oY p=some b\/(w.heap.size<=b/\b<w'.heap.size))/\W2 w' S pl' p' (.row e t (xs++ys)):=by
 obtain⟨hu,i,z,hi,hz,hsz,hbt,hzb⟩:=F.sl T e t' hl;have hzs:z.cells.size=t.size:=by have:=(Ki (w:=w) (S:=S) hzb).len;rw[aR,ht]at this;simpa using this
 obtain⟨A,c,rfl,ccs,y1,y2,y3,y4⟩:=hy;obtain⟨q0,css,q1,q2,q3,q4⟩:=hx;have hroom:(xs.length+ys.length)*t.bytes<=140737488355328:=By hb;have hbp:0<t.bytes:=t.bytes_pos;have hle:xs.length+ys.length<=(xs.length+ys.length)*t.bytes:=Nat.le_mul_of_pos_right _ hbp;have hpos:0<t.size:=by rw[Ty.size_eq];exact vV.pos
 have hob:oY p=p.ownBlock:=by
  rcases q2.2 with⟨ep,_⟩|⟨g,cap,cur,ep,_⟩<;>rw[ep]<;>rfl
 have hone:∀u∈ccs.flatten,u.oneCell'=true:=λu hu=>by
  obtain⟨cs,hcs,hu⟩:=List.mem_flatten.1 hu;obtain⟨j,hj,rfl⟩:=Aal hcs;exact vV.one (y3 j (ys[j]'(by omega)) _ (Aac (by omega)) (Aac hj)) u hu
 have main:∃p' w',(Builtin.append_ #[T,T] ty #[p,.slice A ys.length c]).run P w=.ok p' w'/\w'.ownsRow 0 e t.size p' (xs.length+ys.length) (css.flatten++ccs.flatten)/\w.grownBy w' p.ownBlock/\(p'.ownBlock=p.ownBlock\/p'.ownBlock=some w.heap.size):=by
  by_cases hn:0<ys.length
  ·obtain⟨b,o',hA,hc⟩:=y4 hn
   subst hA
   obtain⟨v',w',r1,r2,r3,_,r4⟩:=run_append_own_at (P:=P) w 0 T ty e i z t.size t.bytes hu hi hz (hsz.trans ht) (hbt.trans hby) hzs hpos p xs.length css.flatten q2 ⟨b,o',none⟩ ys.length c ccs.flatten (by rw[UB _ y2,y1])
    (λj u hu=>by
     have:=hc j u hu;unfold Addr.add;split
     ·rename_i e;subst e;simpa using this
     ·exact this)
    hone (by unfold maxLen;omega) hroom (AT _)
   exact⟨v',w',r1,r2,r3,r4⟩
  ·have e0:ys=[]:=Aa9 (by omega)
   subst e0;have e1:ccs=[]:=Aa9 (by simpa using y1)
   subst e1;rcases A with _|ad
   ·refine⟨p,w,?_,by simpa using q2,World.grownBy.refl w _,.inl rfl⟩
    rcases q2.2 with⟨rfl,e0⟩|⟨g,cap,cur,rfl,_,_,hnc,_⟩
    ·simp[Builtin.append_,run_underlying hu,sizeOf,typeInfo,hi,Builtin.lenOf,Builtin.firstCells]
    ·simp[Builtin.append_,run_underlying hu,sizeOf,typeInfo,hi,Builtin.lenOf,Builtin.firstCells,hnc,storeCells]
   ·obtain⟨v',w',r1,r2,r3,_,r4⟩:=run_append_own_at (P:=P) w 0 T ty e i z t.size t.bytes hu hi hz (hsz.trans ht) (hbt.trans hby) hzs hpos p xs.length css.flatten q2 ad 0 c [] (by simp) (by simp) (by simp) (by unfold maxLen;simp at hle hroom;omega) (by simpa using hroom) (AT _)
    exact⟨v',w',r1,by simpa using r2,r3,r4⟩
 obtain⟨p',w',r1,r2,r3,r4⟩:=main;have hkeep:∀b,S b->w'.heap[b]? =w.heap[b]? :=λb hb=>r3.block b (hlt b hb) λe=>hSb b (by rw[hob];exact e.symm) hb
 refine⟨p',w',r1,by rw[hob];exact r3,λb hb=> ?_,by rw[It];exact hroom,css++ccs,by simp[q1,y1],by simpa using r2,λcs hcs=> ?_,λj x cs hx hcs=> ?_⟩
 ·have hpb:p'.ownBlock=some b:=by
   rcases r2.2 with⟨ep,_⟩|⟨g,cap,cur,ep,_⟩
   ·rw[ep]at hb;cases hb
   ·rw[ep]at hb⊢;exact hb
  rcases r4 with r4|r4
  ·left;rw[hob,<-r4];exact hpb
  ·right
   rw[hpb]at r4;injection r4 with r4
   have:=r2.lt b hpb;omega
 ·rcases TO.1 hcs with h|h
  ·exact q3 cs h
  ·exact y2 cs h
 ·have key:vV.rd w S cs x:=by
   by_cases hj:j<xs.length
   ·rw[AaO hj]at hx
    rw[AaO (by omega)]at hcs
    exact q4 j x cs hx hcs
   ·rw[AaG (by omega)]at hx
    rw[AaG (by omega),q1]at hcs
    exact y3 _ x cs hx hcs
  exact vV.mono key hkeep λ_ h=>h
theorem DC(m:qQ P b0 N σ a w S pl){k:Nat}{t:Ty}{ys:List t.den}(h:Rd w S pl v d)(hs:G8 σ k t d=some ys):Src w S t v ys:=by
 unfold G8 at hs
 split at hs
 ·injection hs with hs;subst hs
  rw[(h.flat (d:=.nil) rfl).nil_inv];exact zhh t
 ·rename_i t' zs
  split at hs
  ·rename_i e;subst e;injection hs with hs;subst hs
   exact znm (h.flat (d:=.sl t' zs) rfl).sl_inv
  ·cases hs
 ·rename_i j
  cases hb:Nat.beq j k with
  |true=>rw[hb]at hs;cases hs
  |false=>
   rw[hb,Vs]at hs
   split at hs
   ·rename_i e' t' zs hob
    split at hs
    ·rename_i e;subst e;injection hs with hs;subst hs
     have h:v=pl j:=h;rw[h];exact zl4 (m.hp j _ hob)
    ·cases hs
   ·cases hs
 ·cases hs
theorem DD(F:sR P E){T T' e:AcI}(hl:yG T E.sl=some (e,.byte))(hT':pX T' E.strs=true){p:Value}{xs:AcT}{s:AcG}(hx:W2 w S pl p (.row e .byte xs))(hb:xQ .byte (xs.length+s.size)=true)
  (hSb:∀b,oY p=some b->¬S b) (hlt:∀b,S b->b<w.heap.size) (ty:AcI):
  ∃p' w',(Builtin.append_ #[T,T'] ty #[p,.string s]).run P w=.ok p' w'/\w.grownBy w' (oY p)/\(∀b,oY p'=some b->oY p=some b\/(w.heap.size<=b/\b<w'.heap.size))/\W2 w' S pl' p' (.row e .byte (xs++s.data.toList)):=by
 obtain⟨hu,i0,z0,hi0,_,hsz,hbt,_⟩:=F.sl T e .byte hl;obtain⟨i,hi,hz⟩:=F.byt T e hl;obtain rfl:i0=i:=by rw[hi0]at hi;injection hi
 have hsz:i0.size=1:=hsz;have hbt:i0.bytes=1:=hbt;have hstr:=F.strs T' hT';obtain⟨q0,css,q1,q2,q3,q4⟩:=hx;have hroom:(xs.length+s.size)*1<=140737488355328:=By hb;have q2:w.ownsRow 0 e 1 p xs.length css.flatten:=q2
 have hob:oY p=p.ownBlock:=by
  rcases q2.2 with⟨ep,_⟩|⟨g,cap,cur,ep,_⟩<;>rw[ep]<;>rfl
 obtain⟨v',w',r1,r2,r3,r4⟩:=Lib.run_append_own_string (P:=P) (w:=w) 0 T T' ty e i0 hu hstr hi hz hsz hbt p _ _ q2 s (by unfold maxLen;omega) (by omega) (AT _)
 have hblk:v'.ownBlock=p.ownBlock\/v'.ownBlock=some w.heap.size:=by
  rcases q2.2 with⟨ep,e0⟩|⟨g,cap,cur,ep,hbg,hg,hnc,hcm,hcs,htake⟩
  ·by_cases hm:s.size=0
   ·left;rw[r4.2 ⟨ep,hm⟩,ep]
   ·have hr:=run_append_nil_string (P:=P) w T T' ty e i0 (.int .u8 0) hu hstr hi hz s (by omega) (by omega) (by rw[hbt];omega)
    rw[ep,hr]at r1;injection r1 with r1;right;rw[<-r1];rfl
  ·by_cases hrm:xs.length+s.size<=cap
   ·have hr:=Lib.run_append_room_string (P:=P) (w:=w) T T' ty e i0 hu hstr hi hsz g xs.length cap cur hg s hrm (by omega)
    rw[ep,hr]at r1;injection r1 with r1;left;rw[<-r1,ep];rfl
   ·have hr:=Lib.run_append_grow_string (P:=P) (w:=w) T T' ty e i0 (.int .u8 0) hu hstr hi hz ⟨g,0,none⟩ xs.length cap css.flatten (by rw[hsz];simpa using q2.1) (q2.cells (g:=g) (by rw[ep];rfl)) s (by omega) (by omega) (by rw[hbt];exact growslice_fits (by omega) (by omega))
    rw[ep,hr]at r1;injection r1 with r1;right;rw[<-r1];rfl
 have hkeep:∀b,S b->w'.heap[b]? =w.heap[b]? :=λb hb=>r3.block b (hlt b hb) λe=>hSb b (by rw[hob];exact e.symm) hb
 have hsl:s.data.toList.length=s.size:=by rw[Acc];rfl
 have hob':oY v'=v'.ownBlock:=by
  rcases r2.2 with⟨ep,_⟩|⟨g,cap,cur,ep,_⟩<;>rw[ep]<;>rfl
 refine⟨v',w',r1,by rw[hob];exact r3,λb hb=> ?_,by rw[It,hsl];exact hroom,css++s.data.toList.map (λc=>[Value.int .u8 (c.toNat:Int)]),by rw[It,It,Aag,q1],?_,λcs hcs=> ?_,λj x cs hx hcs=> ?_⟩
 ·rw[hob']at hb
  rcases hblk with h|h
  ·left;rw[hob,<-h];exact hb
  ·right
   rw[h]at hb;injection hb with hb
   have:=r2.lt b (by rw[h,hb])
   omega
 ·rw[It,hsl,List.flatten_append]
  have e2:(s.data.toList.map (λc=>[Value.int .u8 (c.toNat:Int)])).flatten=Lib.strCells s:=by
   rw[Lib.strCells];generalize s.data.toList=l
   induction l with
   |nil=>rfl
   |cons c l ih=>rw[Aak,Aa6,ih];rfl
  rw[e2];exact r2
 ·rcases TO.1 hcs with h|h
  ·exact q3 cs h
  ·obtain⟨c,_,rfl⟩:=Of.1 h;rfl
 ·have key:vV.rd w S cs x:=by
   by_cases hj:j<xs.length
   ·rw[AaO hj]at hx
    rw[AaO (by omega)]at hcs
    exact q4 j x cs hx hcs
   ·rw[AaG (by omega)]at hx
    rw[AaG (by omega),q1,Aau,hx]at hcs
    injection hcs with hcs
    exact hcs.symm
  exact vV.mono key hkeep λ_ h=>h
theorem zij(F:sR P E)(m:qQ P b0 N σ a w S pl){c:Call}(ho:o.op=.call c)(hc:c.callee=.builtin .append){x y:Operand}{T T':AcI}(ha:c.args.toList=[x,y])(ht:c.argTypes.toList=[T,T'])(h:Da E A o T T' (σ.ev x) y σ K)(hn:rY P b0 N o a K next):o.wp P a w next Q:=by
 have hx:=rF m x;have hy:=rF m y;have ha':c.args= #[x,y]:=by apply Array.ext';simpa using ha
 have ht':c.argTypes= #[T,T']:=by apply Array.ext';simpa using ht
 unfold Da at h
 split at h
 ·rename_i e t' hl
  cases hT:Nat.beq T T' with
  |false=>
   rw[hT,Vs]at h
   unfold zne at h
   split at h
   ·rename_i hstr
    split at h
    ·rename_i k s ex ey
     rw[ex]at hx
     rw[ey]at hy
     have hx:a.eval x=pl k:=hx;have hy:=(hy.flat (d:=.str s) rfl).str_inv.1;split at h
     ·rename_i e' xs hob
      cases he:Nat.beq e e'&& !stabK k with
      |false=>rw[he]at h;exact h.elim
      |true=>
       rw[he,AI]at h
       simp only[If]at he
       have hee:=xG.1 he.1;subst hee;obtain⟨hroom,h⟩:=h;obtain⟨p',w',r1,r2,r3,r4⟩:=DD (P:=P) (pl':=λj=>pl j) F hl hstr (m.hp k _ hob) hroom (λb hb=>(m.priv k _ b hob hb).2.2) m.lt o.type
       have hrun:(execOp a.eval o).run P w=.ok (.value p') w':=by
        unfold execOp;rw[ho];simp only[resolve,hc,ha',ht',invoke,builtin,AbF,Aak,AbG,IS,No,IT,hx,hy,r1]
       exact yV hrun (hn _ _ _ _ _ _ h (m.grow (by simpa using he.2) hob p' r2 r3 r4) (As rfl).symm)
     ·exact h.elim
    ·exact h.elim
   ·exact h.elim
  |true=>
   rw[hT,AI]at h
   have hT:=xG.1 hT;subst hT;split at h
   ·rename_i k ex
    rw[ex]at hx
    have hx:a.eval x=pl k:=hx;split at h
    ·rename_i e' t xs hob
     cases he:Nat.beq e e'&&Nat.beq t'.size t.size&&Nat.beq t'.bytes t.bytes&& !stabK k with
     |false=>rw[he]at h;exact h.elim
     |true=>
      rw[he,AI]at h
      simp only[If]at he
      have hee:=xG.1 he.1.1.1;subst hee;split at h
      ·rename_i ys hs
       obtain⟨hroom,h⟩:=h;obtain⟨p',w',r1,r2,r3,r4⟩:=Kp (P:=P) (pl':=λj=>pl j) F hl (xG.1 he.1.1.2) (xG.1 he.1.2) (m.hp k _ hob) (DC m hy hs) hroom (λb hb=>(m.priv k _ b hob hb).2.2) m.lt o.type
       have hrun:(execOp a.eval o).run P w=.ok (.value p') w':=by
        unfold execOp;rw[ho];simp only[resolve,hc,ha',ht',invoke,builtin,AbF,Aak,AbG,IS,No,IT,hx,r1]
       exact yV hrun (hn _ _ _ _ _ _ h (m.grow (by simpa using he.2) hob p' r2 r3 r4) (As rfl).symm)
      ·exact h.elim
    ·exact h.elim
   ·rename_i k ex
    rw[ex]at hx
    have hx:a.eval x=pl k:=(show a.eval x=pl k/\a.eval x≠ .slice none 0 0 from hx).1
    split at h
    ·rename_i e' t xs hob
     cases he:Nat.beq e e'&&Nat.beq t'.size t.size&&Nat.beq t'.bytes t.bytes&& !stabK k with
     |false=>rw[he]at h;exact h.elim
     |true=>
      rw[he,AI]at h
      simp only[If]at he
      have hee:=xG.1 he.1.1.1;subst hee;split at h
      ·rename_i ys hs
       cases hys:Nat.blt 0 ys.length with
       |false=>rw[hys]at h;exact h.elim
       |true=>
        rw[hys,AI]at h
        have hys:0<ys.length:=by simpa using hys
        obtain⟨hroom,h⟩:=h;obtain⟨p',w',r1,r2,r3,r4⟩:=Kp (P:=P) (pl':=λj=>pl j) F hl (xG.1 he.1.1.2) (xG.1 he.1.2) (m.hp k _ hob) (DC m hy hs) hroom (λb hb=>(m.priv k _ b hob hb).2.2) m.lt o.type
        have hrun:(execOp a.eval o).run P w=.ok (.value p') w':=by
         unfold execOp;rw[ho];simp only[resolve,hc,ha',ht',invoke,builtin,AbF,Aak,AbG,IS,No,IT,hx,r1]
        have hnn:p'≠ .slice none 0 0:=λe=>by
         obtain⟨_,_,_,q2,_⟩:=r4;rcases q2.2 with⟨_,e0⟩|⟨g,cap,cur,ep,_⟩
         ·rw[It]at e0;omega
         ·rw[e]at ep;cases ep
        exact yV hrun (hn _ _ _ _ _ _ h (m.grow (by simpa using he.2) hob p' r2 r3 r4) ⟨(As rfl).symm,hnn⟩)
      ·exact h.elim
    ·exact h.elim
   ·rename_i ex
    rw[ex]at hx
    have hxv:=(hx.flat (d:=.nil) rfl).nil_inv;split at h
    ·rename_i k hk
     split at h
     ·rename_i ys hs
      obtain⟨hroom,h⟩:=h;have m1:=m.mk' (w':=w) k (aS hk) (.row e t' []) (.slice none 0 0) (Below.refl _ _) (λb hb=>by cases hb) λpl' _=>⟨by simp[lim],[],rfl,by simpa using World.ownsRow_nil w 0 e t'.size,by simp,by simp⟩
      have hob:yG k (σ.mk' k (.row e t' [])).hp=some (.row e t' []):=by simp only[St.mk',wR,As]
      obtain⟨p',w',r1,r2,r3,r4⟩:=Kp (P:=P) (pl':=λj=>(λj=>if j=k then Value.slice none 0 0 else pl j) j) F hl rfl rfl (m1.hp k _ hob) (DC m1 (rF m1 y) hs) (by simpa using hroom) (λb hb=>(m1.priv k _ b hob hb).2.2) m1.lt o.type
      rw[As rfl]at r1
      have hrun:(execOp a.eval o).run P w=.ok (.value p') w':=by
       unfold execOp;rw[ho];simp only[resolve,hc,ha',ht',invoke,builtin,AbF,Aak,AbG,IS,No,IT,hxv,r1]
      exact yV hrun (hn _ _ _ _ _ _ h (m1.grow (aS hk) hob p' r2 r3 r4) (As rfl).symm)
     ·exact h.elim
    ·exact h.elim
   ·exact h.elim
 ·exact h.elim
theorem DE(m:qQ P b0 N σ a w S pl):∀(xs:List Operand),wF (Rd w S pl) (xs.map a.eval) (xs.map σ.ev)
 |[]=> .nil
 |x::xs=> .cons (rF m x) (DE m xs)
theorem zdi(m:qQ P b0 N σ a w S pl){f:AcH}{first caps:Array Operand}(ho:o.op=.makeFunc (.func f) first caps)(hf:first.toList=[])(h:qG A.q σ (caps.toList.map σ.ev) λcs σ=>K (.clo f none cs) σ)(hn:rY P b0 N o a K next):o.wp P a w next Q:=by
 obtain⟨σ',ds',S',hK,hS,m',hv⟩:=oE h m;have hr:=hv _ (DE m caps.toList);have hf':first= #[]:=by apply Array.ext';simpa using hf
 have hrun:(execOp a.eval o).run P w=.ok (.value (.func (.func f) #[] (caps.map a.eval))) w:=by
  unfold execOp;rw[ho];simp only[Instr.makeFunc,hf',IS,No,IT,Array.map_empty]
 have hr':wF (Rp w S') (caps.map a.eval).toList ds':=by simpa using hr
 exact yV hrun (hn _ _ _ _ _ _ hK m' (Rp.rd (.clo f none ds' _ (by simpa using hr'.len) λi d hd=>VH hr' i d hd)))
theorem DF(m:qQ P b0 N σ a w S pl){f:AcH}{first caps:Array Operand}{k off:Nat}{bd:Bool}(ho:o.op=.makeFunc (.func f) first caps)
  (hf:(first.toList.map σ.ev=[.ptr k off]/\caps.toList.map σ.ev=[]/\bd=true)\/(first.toList.map σ.ev=[]/\caps.toList.map σ.ev=[.ptr k off]/\bd=false)) (h:K (.clp f bd k off) σ) (hn:rY P b0 N o a K next):o.wp P a w next Q:=by
 have hrun:(execOp a.eval o).run P w=.ok (.value (.func (.func f) (first.map a.eval) (caps.map a.eval))) w:=by
  unfold execOp;rw[ho];simp only[Instr.makeFunc,IS,No,IT]
 have r1:=DE m first.toList
 have r2:=DE m caps.toList;refine yV hrun (hn _ _ _ _ _ _ h m ?_)
 have one:∀ {xs:Array Operand},xs.toList.map σ.ev=[.ptr k off]->∃b,pl k=.pointer (some ⟨b,0,none⟩)/\xs.map a.eval= #[.pointer (some ⟨b,off,none⟩)]:=fun {xs} hx=>by
  have hr:=DE m xs.toList;rw[hx]at hr
  generalize e:xs.toList.map a.eval=vs at hr
  obtain _|⟨⟨b,h1,h2⟩,_|_⟩:=hr
  exact⟨b,h1,by rw[<-h2];apply Array.ext';simpa using e⟩
 have non:∀ {xs:Array Operand},xs.toList.map σ.ev=[]->xs.map a.eval= #[]:=fun {xs} hx=>by
  have:xs.toList=[]:=List.map_eq_nil_iff.1 hx;apply Array.ext';simp[this]
 rcases hf with⟨h1,h2,rfl⟩|⟨h1,h2,rfl⟩
 ·obtain⟨b,p1,p2⟩:=one h1
  exact⟨b,p1,by rw[p2,non h2];rfl⟩
 ·obtain⟨b,p1,p2⟩:=one h2
  exact⟨b,p1,by rw[p2,non h1];rfl⟩
theorem znn{t:Ty}(h:zB v (.sl t [])=true):zB v .nil=true:=by
 unfold zB at h
 split at h<;>first|rfl|(simp only[reduceCtorEq]at*)|simp_all
theorem zhi:∀ {vs:List Value} {cs:AcO} {off:Nat} {t:Ty},F1 vs cs=true->cs[off]? =some (.sl t [])->F1 vs (cs.set off .nil)=true
 |[],[],off,t,_,h=>by simp at h
 |v::vs,d::cs,0,t,hz,h=>by
  simp only[F1,If]at hz
  have h:d=.sl t []:=by simpa using h
  subst h;simp only[List.set_cons_zero,F1,If];exact⟨znn hz.1,hz.2⟩
 |v::vs,d::cs,off+1,t,hz,h=>by
  simp only[F1,If]at hz
  simp only[List.set_cons_succ,F1,If];exact⟨hz.1,zhi hz.2 (by simpa using h)⟩
 |[],_::_,_,_,hz,_=>by simp[F1]at hz
 |_::_,[],_,_,hz,_=>by simp[F1]at hz
theorem Ff:∀(l:List (Nat×(Nat×(AcI×Ty)))) (cs:AcO),(Wy l cs).length=cs.length
 |[],_=>rfl
 |(_,off,_,_)::r,cs=>by
  unfold Wy;rw[Ff r];split
  ·rw[Aaw]
  ·rfl
theorem zak:∀(l:List (Nat×(Nat×(AcI×Ty)))) {cs:AcO},Vz (Wy l cs)=true->Vz cs=true
 |[],cs,h=>h
 |(j,off,e,t)::r,cs,h=>by
  unfold Wy at h
  have h:=zak r h;split at h
  ·rcases Ke h with h|⟨_,h⟩
   ·exact h
   ·cases h
  ·exact h
theorem zj4:∀(l:List (Nat×(Nat×(AcI×Ty)))) {vs:List Value} {cs:AcO},F1 vs cs=true->F1 vs (Wy l cs)=true
 |[],vs,cs,h=>h
 |(_,off,_,_)::r,vs,cs,h=>by
  unfold Wy;refine zj4 r ?_;split
  ·rename_i t ho;exact zhi h ho
  ·exact h
theorem zik(F:sR P E)(m:qQ P b0 N σ a w S pl){T:AcI}(ho:o.op=.alloc T)(h:Du E A o T σ K)(hn:rY P b0 N o a K next):o.wp P a w next Q:=by
 unfold Du at h
 split at h
 ·exact zjP F m ho h hn
 unfold zfn at h
 split at h
 ·rename_i ag cs hl
  obtain⟨i,z,u,hi,hz,hsz,hu,hag,hzb⟩:=(F.zs T ag cs hl).ex
  have hrun:(execOp a.eval o).run P w=.ok (.value (.pointer (some ⟨w.heap.size,0,none⟩))) (w.alloc (.cells z.cells T)):=by
   unfold execOp;rw[ho];simp[Instr.alloc,zeroValue,typeInfo,hi,hz,newVar,newRow,newObj];rfl
  split at h
  ·rename_i k hk
   cases hb:Nat.blt k 1000000 with
   |false=>rw[hb]at h;exact h.elim
   |true=>
    rw[hb,AI]at h
    have hb:=Aat hb;have hzb:=zj4 (zbG k A.nz) hzb;have hrd:wF (Rp w S) z.cells.toList (Wy (zbG k A.nz) cs):=Ki hzb;have m1:=zbI m k (aS hk) T hrd.rd (λe=>by rw[Ff];exact(F.zs T ag cs hl).ty (zak _ e)) λd hd e=>by rw[zbJ hzb d hd]at e;cases e
    obtain⟨pl2,m2,hr⟩:=UF [.ptr k 0] (zbG k A.nz) _ _ m1;exact yV hrun (hn _ _ _ _ _ _ h m2 (hr _ _ (λj hj=>by injection hj with hj;omega) (zfr k _)))
  ·have hrd:wF (Rp w S) z.cells.toList cs:=Ki hzb
   exact yV hrun (hn _ _ _ _ _ _ h (Mx m T hrd).1 (Mx m T hrd).2.rd)
 ·exact h.elim
theorem zhj:∀ {ds:AcO} {l:List Value} {vs:List Value},zbw ds=some l->wF (Rp w S) vs ds->vs=l
 |[],l,vs,h,hr=>by injection h with h;subst h;cases hr;rfl
 |d::r,l,vs,h,hr=>by
  unfold zbw at h
  split at h
  ·rename_i e;cases e
  ·rename_i k n r' e
   injection e with e1 e2;subst e1 e2
   split at h
   ·rename_i l' hl
    injection h with h;subst h
    obtain _|⟨h1,h2⟩:=hr
    rw[h1.int_inv.1,zhj hl h2]
   ·cases h
  ·cases h
theorem zl5{u:Value}(h:zac d=some u)(hr:Rp w S v d):v=u:=by
 unfold zac at h
 split at h
 ·split at h
  ·rename_i ds l hl
   injection h with h;subst h
   obtain⟨vs,rfl,hs,hq⟩:=hr.agg_inv;have:=zhj (vs:=vs.toList) hl (My hs hq);rw[<-this]
  ·cases h
 ·cases h
theorem zj5{u:Value}(h:zac d=some u):d.ref=none:=by
 unfold zac at h
 split at h
 ·rfl
 ·cases h
theorem zbU(F:sR P E)(m:qQ P b0 N σ a w S pl){T:AcI}{x:Operand}{zs:AcO}{u:Value}(ho:o.op=.makeInterface T x)(hz:yG T E.zs=some (true,zs))(hs:zac (σ.ev x)=some u)(h:K (.ifc (.iface T u)) σ)(hn:rY P b0 N o a K next):o.wp P a w next Q:=by
 obtain⟨i,z,ud,hi,hz',hsz,hu,hag,hzb⟩:=(F.zs T true zs hz).ex;have hx:=zl5 hs ((rF m x).flat (zj5 hs))
 have hrun:(execOp a.eval o).run P w=.ok (.value (.iface T u)) w:=by
  unfold execOp;rw[ho];have hun:(underlying T).run P w=.ok ud w:=by simp[underlying,hu]
  simp only[Instr.makeInterface,IS,No,IT,hun,hx];cases ud<;>first|rfl|(simp[zjN]at hag)
 exact yV hrun (hn _ _ _ _ _ _ h m (Rp.rd (.ifc _)))
theorem Mz(m:qQ P b0 N σ a w S pl):∀(xs:List Operand) (ts:List AcI),wF (Rd w S pl) (xs.map a.eval) (cC E σ xs ts)
 |[],_=> .nil
 |x::xs,[]=> .cons (rF m x) (Mz m xs [])
 |x::xs,T::ts=> .cons (Hj T (rF m x)) (Mz m xs ts)
theorem zal(m:qQ P b0 N σ a w S pl):∀xs:List Operand,wF (Rd w S pl) (xs.map a.eval) (xs.map σ.ev)
 |[]=> .nil
 |x::xs=> .cons (rF m x) (zal m xs)
theorem zbV(m:qQ P b0 N σ a w S pl)(raw:Bool)(xs:List Operand)(ts:List AcI):wF (Rd w S pl) (xs.map a.eval) (zfm raw E σ xs ts):=by
 cases raw
 ·exact Mz m xs ts
 ·exact zal m xs
def zno(σ:St)(pl:Nat->Value)(b:Nat):Prop:=∃k o,yG k σ.hp=some o/\oY (pl k)=some b
theorem zl6(m:qQ P b0 N σ a w S pl)(h:Rd w S pl v d):Rd w (λb=>S b\/zno σ pl b) pl v (OH σ d):=by
 unfold OH;split
 ·rename_i k
  split
  ·rename_i e t xs hob
   have h:v=pl k:=h;rw[h]
   exact Rp.rd (.sl t xs _ (XX.mono (VW (m.hp k _ hob)) (λ_ _=>rfl) λb hb=>by
    rcases hb with hb|hb
    ·exact .inl hb
    ·exact .inr ⟨k,_,hob,hb⟩))
  ·exact h
 ·exact h.mono (λ_ _=>rfl) (λ_ h=> .inl h) λ_ _=>rfl
theorem Ur{t:Ty}{x:t.den}(ht:t.scalar=true)(h:Rp w S v (TS t x)):Rp w S' v (TS t x):=by
 cases t<;>simp only[Ty.scalar,Aa0]at ht
 ·obtain⟨rfl,g⟩:=h.int_inv;exact .int _ _ g
 ·rw[h.bool_inv];exact .bool _
 ·obtain⟨rfl,g⟩:=h.str_inv;exact .str _ g
theorem zam{f:AcH}{args:AcO}{r:D}(hs:VA P f args r)(hg:GOk P w λ_=>False)(hS:∀b,S b->b<w.heap.size){vs:Array Value}(hv:wF (Rp w S) vs.toList args)
  (hk:∀v w',Rp w' (λb=>S b\/(w.heap.size<=b/\b<w'.heap.size)) v r->Below w.heap.size w w'->next (a.put o.dst v) w'):
  Calls P f vs w fun
   | .returned v,w''=>next (a.put o.dst v) w''
   | .panicked chain,w''=>Q (.panic chain) a w''
   | .outgrown,_=>LetsOut Q:=
 (hs w S vs hS (by simpa using hv.len) (λi d hd=>VH hv i d hd) hg).mono λe w' ⟨v,he,hr,hb⟩=>by subst he;exact hk v w' hr hb
theorem zhk{f:AcH}{args:AcO}{rs:AcW}{K:D->Prop}(h:zfl P f args rs K):∃r,VA P f args r/\K r/\(rs.all Ty.scalar=true->∀w S S' v,Rp w S v r->Rp w S' v r):=by
 unfold zfl at h
 split at h
 ·exact⟨_,h.1,h.2,λ_ w S S' v hr=>by
   obtain⟨vs,rfl,hl,_⟩:=hr.tup_inv;exact .tup vs [] hl λi d hd=>by simp at hd⟩
 ·rename_i t
  obtain⟨x,h1,h2⟩:=h;exact⟨_,h1,h2,λhs w S S' v hr=>Ur (by simpa using hs) hr⟩
 ·rename_i t u
  obtain⟨x,y,h1,h2⟩:=h;refine⟨_,h1,h2,λhs w S S' v hr=> ?_⟩
  simp only[AbI,List.all_nil,AbK,If]at hs
  obtain⟨vs,rfl,hl,hr⟩:=hr.tup_inv;refine .tup vs _ hl λi d hd=> ?_
  have:=hr i d hd
  match i,hd with
  |0,hd=>simp at hd;subst hd;exact Ur hs.1 this
  |1,hd=>simp at hd;subst hd;exact Ur hs.2 this
  |i+2,hd=>simp at hd
 ·rename_i t u s
  obtain⟨x,y,z,h1,h2⟩:=h;refine⟨_,h1,h2,λhs w S S' v hr=> ?_⟩
  simp only[AbI,List.all_nil,AbK,If]at hs
  obtain⟨vs,rfl,hl,hr⟩:=hr.tup_inv;refine .tup vs _ hl λi d hd=> ?_
  have:=hr i d hd
  match i,hd with
  |0,hd=>simp at hd;subst hd;exact Ur hs.1 this
  |1,hd=>simp at hd;subst hd;exact Ur hs.2.1 this
  |2,hd=>simp at hd;subst hd;exact Ur hs.2.2 this
  |i+3,hd=>simp at hd
 ·exact h.elim
theorem qQ.called(m:qQ P b0 N σ a w S pl)(hb:Below w.heap.size w w'):qQ P b0 N σ a w' (λb=>S b\/(w.heap.size<=b/\b<w'.heap.size)) pl:=
 (m.later hb).more (λ_ h=> .inl h)
  (λb h=>by
   rcases h with h|h
   ·exact Aax (m.lt b h) hb.size
   ·exact h.2)
  (λb h=>by
   rcases h with h|h
   ·exact m.src b h
   ·exact .inr (.inr (Aai m.below.size h.1)))
  (λk o b h h' hs=>by
   have:=m.priv k o b h h';rcases hs with hs|hs
   ·exact this.2.2 hs
   ·omega)
theorem DG{f:AcH}{rs0:Option AcW}{X:Prop}:znf P f rs0 X↔(rs0.isSome=true->Ent P f)/\X:=by
 cases rs0<;>simp[znf]
theorem zl7(F:sR P E)(m:qQ P b0 N σ a w S pl){c:Call}{f:Operand}(ho:o.op=.call c)(hc:c.callee=.value f)(h:zdd P E A o (σ.ev f) c.args.toList c.argTypes.toList σ K)(hn:rY P b0 N o a K next):o.wp P a w next Q:=by
 have hf:=rF m f;unfold zdd at h
 split at h
 ·rename_i g rs0 caps e
  rw[e]at hf
  obtain⟨cvs,hfv,hcl,hcr⟩:=(hf.flat (d:=.clo g rs0 caps) rfl).clo_inv;have hcaps:wF (Rp w S) cvs.toList caps:=My hcl hcr
  have hrun':Ent P g->(execOp a.eval o).run P w=.ok (.enter g (c.args.map a.eval++cvs)) w:=λhent=>by
   unfold execOp;rw[ho];simp only[resolve,hc,hfv,Deferred.ofValue,invoke,IS,No,IT,Acg];exact hent _ _
  split at h
  ·rename_i hs hl
   have hz:=zbV (E:=E) m hs.raw c.args.toList c.argTypes.toList;unfold Oper.wp;rw[hrun' (F.hsig g hs (by cases rs0 with|none=>exact hl|some _=>cases hl))]
   exact Ko m h (by simpa using hz) hcaps hn
  split at h
  ·rename_i rs hl
   obtain⟨hent0,h⟩:=DG.1 h
   have hent:Ent P g:=by
    cases rs0 with
    |some r=>exact hent0 rfl
    |none=>exact F.sig g rs hl
   have hrun:(execOp a.eval o).run P w=.ok (.enter g (c.args.map a.eval++cvs)) w:=by
    unfold execOp;rw[ho];simp only[resolve,hc,hfv,Deferred.ofValue,invoke,IS,No,IT,Acg];exact hent _ _
   have hz:=Mz (E:=E) m c.args.toList c.argTypes.toList
   have fin:∀ {P':Prop},(Calls P g (c.args.map a.eval++cvs) w fun
     | .returned v,w''=>next (a.put o.dst v) w''
     | .panicked chain,w''=>Q (.panic chain) a w''
     | .outgrown,_=>LetsOut Q)->o.wp P a w next Q:=λh=>by
    unfold Oper.wp;rw[hrun];exact h
   simp only at h
   cases hsc:rs.all Ty.scalar with
   |true=>
    rw[hsc,AI]at h
    cases hfl:((cC E σ c.args.toList c.argTypes.toList).map (OH σ)).all ZE with
    |false=>rw[hfl]at h;exact h.elim
    |true=>
     rw[hfl,AI]at h
     obtain⟨r,hs,hK,hsr⟩:=zhk h
     have hlt:∀b,(S b\/zno σ pl b)->b<w.heap.size:=λb hb=>by
      rcases hb with hb|⟨k,o',hk,hb⟩
      ·exact m.lt b hb
      ·exact(m.priv k o' b hk hb).2.1
     have hv:wF (Rd w (λb=>S b\/zno σ pl b) pl) (c.args.toList.map a.eval) ((cC E σ c.args.toList c.argTypes.toList).map (OH σ)):=wF.map_right (hz.imp λ_ _ h=>zl6 m h)
     have hv':=hv.flat λd hd=>jT.1 (Aao.1 hfl d hd)
     refine fin (P':=True) (zam hs (m.gnow λ_ h=>h.elim) hlt (by simpa using hv'.append (hcaps.rmono (λ_ _=>rfl) λ_ h=> .inl h)) λv w' hr hb=> ?_)
     exact hn _ _ _ _ _ _ hK (m.later hb) (hsr hsc w' _ _ v hr).rd
   |false=>
    rw[hsc,Vs]at h
    obtain⟨σ',ds',S',hK,hS,m',hv⟩:=oE h m;obtain⟨r,hs,hK,_⟩:=zhk hK;have hv':=hv _ hz;refine fin (P':=True) (zam hs (m'.gnow λ_ h=>h.elim) m'.lt (by simpa using hv'.append (hcaps.rmono (λ_ _=>rfl) hS)) λv w' hr hb=> ?_)
    exact hn _ _ _ _ _ _ hK (m'.called hb) hr.rd
  ·exact h.elim
 ·exact h.elim
theorem zj6(F:sR P E)(m:qQ P b0 N σ a w S pl)(h:opD P E A o σ K)(hn:rY P b0 N o a K next):o.wp P a w next Q:=by
 have h0:=h;unfold opD at h
 split at h
 ·rename_i x ho;exact zjO F m (.inl ho) h hn
 ·rename_i x ho;exact zjO F m (.inr ho) h hn
 ·rename_i c x y ho
  split at h
  ·rename_i t hc;exact zlU m ho hc h hn
  ·exact h.elim
 ·rename_i T ho;exact zik F m ho h hn
 ·rename_i T x ho;exact znh F m ho h hn
 ·rename_i T parts ho;exact zjV F m ho h hn
 ·rename_i T len parts ho;exact B5 F m ho h hn
 ·rename_i T x ho;exact zlV F m ho h hn
 ·rename_i T x y ho;exact zjS F m ho h hn
 ·rename_i x ho;exact zde m ho h0 hn
 ·rename_i op T x y T' ho;exact zl1 F m ho h hn
 ·rename_i T ho;exact zfu F m ho h hn
 ·rename_i T x y z ho;exact zbQ F m ho h hn
 ·rename_i T x y ok ho;exact zig F m ho h hn
 ·rename_i op T x ho;exact znT m ho h hn
 ·rename_i src dst x ho;exact zlY F m ho h hn
 ·rename_i f first caps ho
  split at h
  ·split at h
   ·rename_i hf;exact zdi m ho hf h hn
   ·exact h.elim
  ·split at h
   ·rename_i k off hf hc;exact DF m ho (.inl ⟨hf,hc,rfl⟩) h hn
   ·rename_i k off hf hc;exact DF m ho (.inr ⟨hf,hc,rfl⟩) h hn
   ·exact h.elim
 ·rename_i T x ho
  split at h
  ·rename_i zs u hz hs;exact zbU F m ho hz hs h hn
  ·exact h.elim
 ·rename_i T x lo hi ho;exact zj3 F m ho h hn
 ·rename_i T x f ho;exact zjQ F m ho h hn
 ·rename_i T x ix ho;exact zbL F m ho h hn
 ·rename_i T x ix ho;exact zjR F m ho h hn
 ·rename_i x i ho;exact zfs m ho h hn
 ·rename_i T l c ho;exact zbN F m ho h hn
 ·rename_i c ho
  split at h
  ·rename_i hc
   split at h
   ·rename_i x T ha ht;exact znl F m ho hc ha ht h hn
   ·exact h.elim
  ·rename_i hc
   split at h
   ·rename_i x y T T' ha ht;exact zij F m ho hc ha ht h hn
   ·exact h.elim
  ·rename_i hc
   split at h
   ·rename_i x y ha;exact zlX m ho hc ha h hn
   ·exact h.elim
  ·rename_i f hc;exact zl7 F m ho hc h hn
  ·exact h.elim
 ·exact h.elim
theorem zj7(F:sR P E)(m:qQ P b0 N σ a w S pl){T:Value->Prop}(h:opX P E A o σ K T)(hn:rY P b0 N o a K next)
  (hT:∀u w',T u->pH b0.w.heap.size b0.O b0.w w'->Q (.panic [{v:=u,recovered:=false}]) a w'):o.wp P a w next Q:=by
 unfold opX at h
 split at h
 ·rename_i X hX
  unfold zmX at hX
  have enter:∀ {g:AcH} {hs:zbv} {ds caps:AcO} {vs cvs:Array Value},zlS P E A g hs (zid o.dst) ds caps σ K T->wF (Rd w S pl) vs.toList ds->wF (Rp w S) cvs.toList caps->(execOp a.eval o).run P w=.ok (.enter g (vs++cvs)) w->o.wp P a w next Q:=fun {g hs ds caps vs cvs} hd hv hcv hrun=>by
   unfold Oper.wp;rw[hrun];unfold zlS at hd
   split at hd
   ·rcases hd with hd|hd
    ·exact Ko m hd hv hcv hn
    ·exact zfv m hd hv hcv hT
   ·exact Ko m hd hv hcv hn
  split at hX
  ·rename_i x ho
   injection hX with hX;subst hX
   split at h
   ·rename_i t u hx
    have hv:=((rF m x).flat (by rw[hx];rfl))
    rw[hx]at hv
    have hrun:(execOp a.eval o).run P w=.halt (.panic (.iface t u)) w:=by
     unfold execOp;rw[ho];simp only[hv.ifc_inv];rfl
    unfold Oper.wp;rw[hrun];exact hT _ w h m.below
   ·exact h.elim
  ·rename_i c ho
   split at hX
   ·rename_i f hc
    have hf:=rF m f;split at hX
    ·rename_i g caps e
     rw[e]at hf
     obtain⟨cvs,hfv,hcl,hcr⟩:=(hf.flat (d:=.clo g none caps) rfl).clo_inv;have hcaps:wF (Rp w S) cvs.toList caps:=My hcl hcr;split at hX
     ·injection hX with hX;subst hX
      split at h
      ·rename_i hs hl
       have hz:=zbV (E:=E) m hs.raw c.args.toList c.argTypes.toList;refine enter h (vs:=c.args.map a.eval) (by simpa using hz) hcaps ?_
       unfold execOp;rw[ho];simp only[resolve,hc,hfv,Deferred.ofValue,invoke,IS,No,IT,Acg];exact F.hsig g hs hl _ _
      ·exact h.elim
     ·cases hX
    ·rename_i g bd k off e
     rw[e]at hf
     obtain⟨b,hp,hfv⟩:=hf;injection hX with hX;subst hX
     split at h
     ·rename_i hs hl
      have hz:=zbV (E:=E) m hs.raw c.args.toList c.argTypes.toList;have hpt:Rd w S pl (.pointer (some ⟨b,off,none⟩)) (.ptr k off):=⟨b,hp,rfl⟩;cases bd with
      |true=>
       refine enter h (vs:= #[.pointer (some ⟨b,off,none⟩)]++c.args.map a.eval) (cvs:= #[]) (by simpa using wF.cons hpt hz) .nil ?_
       unfold execOp;rw[ho];simp only[resolve,hc,hfv,Deferred.ofValue,invoke,IS,No,IT,AI,Array.append_empty];exact F.hsig g hs hl _ _
      |false=>
       refine enter h (vs:=c.args.map a.eval++ #[.pointer (some ⟨b,off,none⟩)]) (cvs:= #[]) (by simpa using wF.append hz (.cons hpt .nil)) .nil ?_
       unfold execOp;rw[ho];simp only[resolve,hc,hfv,Deferred.ofValue,invoke,IS,No,IT,Vs,Acg,Array.append_empty];exact F.hsig g hs hl _ _
     ·exact h.elim
    ·cases hX
   ·cases hX
  ·cases hX
 ·exact zj6 F m h hn
end
inductive Ex|normal|exit (id:Nat)|ret|thr (u:Value)
def zan(all:List Oper)(j:Nat):Option Nat:=match all[j]? with
 |some o=>o.dst
 |none=>none
def Y5(all:List Oper)(o:Oper)(σ:St)(yes no:St->Prop):Prop:=match o.guard with
 |none=>yes σ
 |some (j,want)=>match zan all j with
  |some s=>match σ.get s with
   | .bool b=>zJ b (match want with|true=>yes (σ.put s (.bool true))|false=>no (σ.put s (.bool true))) (match want with|true=>no (σ.put s (.bool false))|false=>yes (σ.put s (.bool false)))
   | .tup []=>no σ
   |_=>False
  |none=>False
def nE(all:List Oper)(o:Oper)(σ:St):Option Bool:=match o.guard with
 |none=>some true
 |some (j,want)=>match zan all j with
  |some s=>match σ.get s with
   | .bool b=>some (b==want)
   | .tup []=>some false
   |_=>none
  |none=>none
def zl8(P:AcJ)(E:TE)(A:wG)(all:List Oper):List Oper->St->(Ex->St->Prop)->Prop
 |[],σ,K=>K .normal σ
 |o::r,σ,K=>Y5 all o σ (λσ=>opX P E A o σ (λd σ=>zl8 P E A all r (σ.putO o.dst d) K) λu=>K (.thr u) σ) λσ=>zl8 P E A all r (σ.putO o.dst (.tup [])) K
def TE.q(E:TE):TE:= {E with hsig:=[],vals:=[],nilq:=false}
def zfw:Operand->Bool
 | .const (.slice none 0 0)=>true
 |_=>false
def nF(E:TE)(A:wG)(o:Oper):Bool:=match o.op with
 | .store _ _ _=>false
 | .mapUpdate _ _ _ _=>false
 | .move x=> !zfw x||(cB A o.dst).isNone
 | .assign x=> !zfw x||(cB A o.dst).isNone
 | .binOp _ _ _ y _=> !zfw y
 | .alloc _=>(cB A o.dst).isNone
 | .box _ _=>(cB A o.dst).isNone
 | .buildSlice _ _ _=>(cB A o.dst).isNone
 | .makeSlice _ _ _=>(cB A o.dst).isNone
 | .makeMap _ _=>(cB A o.dst).isNone
 | .build T _=> !pX T E.vals
 | .call c=>match c.callee with
  | .builtin .append=>false
  | .value (.func f)=>match yG f E.hsig with
   |some _=>false
   |none=>true
  |_=>true
 |_=>true
def wG.quiet(A:wG):wG:= {A with own:=[],q:=1,nz:=[]}
def zil(P:AcJ)(E:TE)(A:wG)(all:List Oper)(o:Oper)(σ:St)(K:St->Prop):Prop:=
 Y5 all o σ (λσ=>opD P E.q A.quiet o σ λd _=>K (σ.putO o.dst d)) λσ=>K (σ.putO o.dst (.tup []))
def zou(P:AcJ)(E:TE)(A:wG)(all:List Oper)(o:Oper)(σ:St)(K:St->Prop):Prop:=
 Y5 all o σ (λσ=>opD P E.q A.quiet o σ λd _=>bif ZE d then K (σ.putO o.dst d)else False) λσ=>K (σ.putO o.dst (.tup []))
def zl9(P:AcJ)(E:TE)(A:wG)(all:List Oper)(o:Oper)(σ:St)(K:St->Prop):Prop:=
 Y5 all o σ (λσ=>opD P E A o σ λd σ=>K (σ.putO o.dst d)) λσ=>K (σ.putO o.dst (.tup []))
def zdj(P:AcJ)(E:TE)(A:wG)(all:List Oper)(o:Oper)(σ:St)(K:St->Prop):Prop:=match nF E A o with
 |true=>zil P E A all o σ K
 |false=>zl9 P E A all o σ K
def edgeOn(o:Oper)(i:Nat):Bool:=o.after.toList.any λe=>Region.binds .any e&&Nat.beq e.on i
def Us(all:List Oper)(listed:Array Bool)(i:Nat)(oi:Oper)(f:Oper->Bool):Nat->List Oper->Bool
 |_,[]=>true
 |k,oj::r=>(Nat.beq k i||listed.getD k true||edgeOn oj i||(oi.apart all.toArray oj&&f oj))&&Us all listed i oi f (k+1) r
def znW(all:List Oper)(o:Oper)(σ:St):Bool:=o.op.operands.toList.all λx=>ZE (σ.ev x)
def zj8(E:TE)(A:wG)(all:List Oper)(listed:Array Bool)(i:Nat):Bool:=match all[i]? with
 |some oi=>nF E A oi&&Us all listed i oi (nF E A) 0 all
 |none=>false
def zj9(E:TE)(A:wG)(all:List Oper)(listed:Array Bool)(σ:St)(i:Nat):Bool:=match all[i]? with
 |some oi=>nF E A oi&&znW all oi σ&&Us all listed i oi (λ_=>true) 0 all
 |none=>false
def zao(f:Nat->Bool):AcU->Option Nat
 |[]=>none
 |i::r=>bif f i then some i else zao f r
def zma(f:Nat->Prop):AcU->Prop
 |[]=>True
 |[i]=>f i
 |i::j::r=>f i/\zma f (j::r)
def atD(all:List Oper)(i:Nat)(f:Oper->Prop):Prop:=match all[i]? with
 |some o=>f o
 |none=>False
def DH(P:AcJ)(E:TE)(A:wG)(all:List Oper)(K:St->Prop):Nat->Array Bool->St->Prop
 |0,listed,σ=>match Region.ready .any all.toArray listed with
  |[]=>K σ
  |_=>False
 |fuel+1,listed,σ=>match Region.ready .any all.toArray listed with
  |[]=>K σ
  |r=>match zao (zj8 E A all listed) r with
   |some i=>atD all i λo=>zil P E A all o σ (DH P E A all K fuel (listed.setIfInBounds i true))
   |none=>match zao (zj9 E A all listed σ) r with
    |some i=>atD all i λo=>zou P E A all o σ (DH P E A all K fuel (listed.setIfInBounds i true))
    |none=>zma (λi=>atD all i λo=>zdj P E A all o σ (DH P E A all K fuel (listed.setIfInBounds i true))) r
def znX:Op->Bool
 | .select _ _=>true
 |_=>false
def zka(all:List Oper)(listed:Array Bool)(σ:St)(i:Nat):Bool:=match all[i]? with
 |some oi=>(match oi.op with
  | .fieldAddr _ (.tmp t) _=>(match σ.get t with
   | .ptr _ _=>true
   |_=>false)
  | .move (.tmp t)=>(match σ.get t with
   | .ptr _ _=>true
   |_=>false)
  | .nilCheck (.tmp t)=>(match σ.get t with
   | .ptr _ _=>true
   |_=>false)
  |_=>false)&&oi.guard.isNone&&Us all listed i oi (λ_=>true) 0 all&&all.all (λo=> !znX o.op)
 |none=>false
def zfx(P:AcJ)(E:TE)(A:wG)(all:List Oper)(K:St->Prop)(T:Value->Prop):Nat->Array Bool->St->Prop
 |0,listed,σ=>DH P E A all K 0 listed σ
 |fuel+1,listed,σ=>match A.first with
  |false=>DH P E A all K (fuel+1) listed σ
  |true=>match zao (zka all listed σ) (Region.ready .any all.toArray listed)with
   |some i=>atD all i λo=>opD P E A o σ λd σ=>zfx P E A all K T fuel (listed.setIfInBounds i true) (σ.putO o.dst d)
   |none=>match A.tdraw with
    |false=>DH P E A all K (fuel+1) listed σ
    |true=>match Region.ready .any all.toArray listed with
     |[]=>K σ
     |r=>zma (λi=>atD all i λo=>Y5 all o σ (λσ=>opX P E A o σ (λd σ=>zfx P E A all K T fuel (listed.setIfInBounds i true) (σ.putO o.dst d)) T) λσ=>zfx P E A all K T fuel (listed.setIfInBounds i true) (σ.putO o.dst (.tup []))) r
def ON(n:Nat):List Oper->Bool
 |[]=>true
 |o::r=>(match o.dst with
  |some d=>Nat.ble (d+1) n
  |none=>true)&&ON n r
def zbW(A:wG)(c:Nat):AcU×AcU:=match yG c A.live with
 |some l=>l
 |none=>([],[])
def DI(σ:St):AcU->List (Nat×yN)
 |[]=>[]
 |k::r=>match σ.ob k with
  |some o=>(k,o)::DI σ r
  |none=>DI σ r
def St.keep(σ:St)(L:AcU×AcU):St:=⟨L.1.map λi=>(i,σ.get i),DI σ L.2⟩
def zkb(σ:St)(L:AcU×AcU):AcO:=
 ((L.1.map λi=>σ.get i)++(L.2.flatMap λk=>match σ.ob k with
  |some (.cells ds)=>ds
  |some (.val ds)=>ds
  |_=>[])).filter λd=>match d.ref with
   |some k=> !pX k L.2
   |none=>false
def zbX(σ:St)(k off:Nat):St:=bif Nat.beq off 999999 then(match σ.ob k with
 |some o=>bif o.flatB then σ.pub k o else σ
 |none=>σ)else W4 σ k off
def DJ:List (Nat×Nat)->St->St
 |[],σ=>σ
 |(k,off)::r,σ=>DJ r (zbX σ k off)
def DK:List (Nat×(Nat×(AcI×Ty)))->St->St
 |[],σ=>σ
 |(k,off,e,t)::r,σ=>DK r (OJ σ k off e t)
def headD(A:wG)(L:AcU×AcU)(σ:St)(K:St->Prop):Prop:=
 let σ:=DK A.nils (DJ A.pubs σ)
 qG 12 σ (zkb σ L) λ_ σ=>K (σ.keep L)
def St.know(σ:St)(x:Operand)(b:Bool):St:=match x with
 | .tmp s=>σ.put s (.bool b)
 |_=>σ
def zkc(body:St->(Ex->St->Prop)->Prop)(A:wG)(L:AcU×AcU):Nat->St->(Ex->St->Prop)->Prop
 |0,_,_=>False
 |n+1,σ,K=>body σ λe σ=>match e with
  | .normal=>headD A L σ λσ=>zkc body A L n σ K
  | .exit id=>K (.exit id) σ
  | .ret=>K .ret σ
  | .thr u=>K (.thr u) σ
def den(P:AcJ)(E:TE)(A:wG):Code->Nat->St->(Ex->St->Prop)->Prop
 | .skip,_,σ,K=>K .normal σ
 | .region _ ops draw,_,σ,K=>match ON A.n ops.toList with
  |true=>(match draw with
   |false=>zl8 P E A ops.toList ops.toList σ K
   |true=>zfx P E A ops.toList (K .normal) (λu=>K (.thr u) σ) ops.size (Array.replicate ops.size false) σ)
  |false=>False
 | .seq a b,c,σ,K=>den P E A a c σ λe σ=>match e with
  | .normal=>den P E A b c σ K
  | .exit id=>K (.exit id) σ
  | .ret=>K .ret σ
  | .thr u=>K (.thr u) σ
 | .cond x a b,c,σ,K=>match σ.ev x with
  | .bool t=>zJ t (den P E A a c (σ.know x true) K) (den P E A b c (σ.know x false) K)
  |_=>False
 | .block id body,_,σ,K=>den P E A body id σ λe σ=>match e with
  | .normal=>K .normal σ
  | .exit j=>bif Nat.beq j id then K .normal σ else K (.exit j) σ
  | .ret=>K .ret σ
  | .thr u=>K (.thr u) σ
 | .loop body,c,σ,K=>headD A (zbW A c) σ λσ=>∃n,zkc (den P E A body c) A (zbW A c) n σ K
 | .exit id,_,σ,K=>K (.exit id) σ
 | .ret,_,σ,K=>K .ret σ
 |_,_,_,_=>False
def zdk:Exit->Option Ex
 | .normal=>some .normal
 | .exit id=>some (.exit id)
 | .ret=>some .ret
 |_=>none
section
variable {P:AcJ}{E:TE}{A:wG}{b0:Tx}{w w':World}{S S':Nat->Prop}{pl pl':Nat->Value}{N:Nat}{σ σ':St}{a:Act}{v:Value}{d:D}{o:Oper}
def Mt(P:AcJ)(b0:Tx)(N:Nat)(σ:St)(a:Act)(w:World):Prop:=∃S pl,qQ P b0 N σ a w S pl
def znY(b0:Tx)(K:Ex->St->Prop)(e:Exit)(a:Act)(w:World):Prop:=∃u σ,e=.panic [{v:=u,recovered:=false}]/\K (.thr u) σ/\a.defers=[]/\pH b0.w.heap.size b0.O b0.w w
def QN(P:AcJ)(b0:Tx)(N:Nat)(K:Ex->St->Prop)(e:Exit)(a:Act)(w:World):Prop:=∃x σ,zdk e=some x/\K x σ/\Mt P b0 N σ a w
def QK(P:AcJ)(b0:Tx)(N:Nat)(K:Ex->St->Prop)(e:Exit)(a:Act)(w:World):Prop:=QN P b0 N K e a w\/znY b0 K e a w
structure sU (σ σ':St):Prop where
 get:∀i,σ'.get i=σ.get i
 hp:∀k,yG k σ'.hp=yG k σ.hp
theorem sU.refl(σ:St):sU σ σ:=⟨λ_=>rfl,λ_=>rfl⟩
theorem sU.symm(h:sU σ σ'):sU σ' σ:=⟨λi=>(h.get i).symm,λk=>(h.hp k).symm⟩
theorem sU.trans{σ'':St}(h:sU σ σ')(h':sU σ' σ''):sU σ σ'':=⟨λi=>(h'.get i).trans (h.get i),λk=>(h'.hp k).trans (h.hp k)⟩
theorem sU.ob(h:sU σ σ')(k:Nat):σ'.ob k=σ.ob k:=h.hp k
theorem sU.put(h:sU σ σ')(i:Nat)(d:D):sU (σ.put i d) (σ'.put i d):=⟨λj=>by rw[St.get_put,St.get_put,h.get],h.hp⟩
theorem sU.putO(h:sU σ σ')(i:Option Nat)(d:D):sU (σ.putO i d) (σ'.putO i d):=by
 cases i with
 |none=>exact h
 |some i=>exact h.put i d
theorem sU.ev(h:sU σ σ')(x:Operand):σ'.ev x=σ.ev x:=by
 cases x<;>first|exact h.get _|rfl
theorem qQ.like(m:qQ P b0 N σ a w S pl)(h:sU σ σ'):qQ P b0 N σ' a w S pl:=
 ⟨m.dz,m.sz,λi=>by rw[h.get];exact m.fr i,λk o hk=>m.hp k o (by rw[<-h.hp];exact hk),m.lt,m.src,λk o b hk=>m.priv k o b (by rw[<-h.hp];exact hk),
  λk k' o o' b h1 h2=>m.inj k k' o o' b (by rw[<-h.hp];exact h1) (by rw[<-h.hp];exact h2),m.below,m.stay,m.gok⟩
theorem Mt.like(m:Mt P b0 N σ a w)(h:sU σ σ'):Mt P b0 N σ' a w:=let⟨S,pl,m⟩:=m;⟨S,pl,m.like h⟩
theorem JE{s:Nat}{d:D}(h:σ.get s=d):sU σ (σ.put s d):=⟨λi=>by
 rw[St.get_put];split
 ·rename_i e;subst e;exact h.symm
 ·rfl,λ_=>rfl⟩
theorem TX{ds:AcO}{K:AcO->St->Prop}:qG 1 σ ds K↔ZF ds=none/\K ds σ:=by
 unfold qG pubs;cases ZF ds with
 |none=>simp
 |some k=>
  simp only[pubs];cases σ.ob (TT σ 4 k)with
  |none=>simp
  |some o=>cases o.flatB<;>simp
def zmb(o:Oper)(σ σ':St):Prop:=(∀x∈o.op.operands,σ'.ev x=σ.ev x)/\∀x∈o.op.operands,∀k,(σ.ev x).ref=some k->σ'.ob k=σ.ob k
theorem zbY{d:D}(h:∀k,d.ref=some k->σ'.ob k=σ.ob k):YD σ' d=YD σ d:=by cases d<;>first|rfl|simp only[YD,h _ rfl]
theorem MA{d:D}(h:∀k,d.ref=some k->σ'.ob k=σ.ob k):Wb σ' d=Wb σ d:=by cases d<;>first|rfl|simp only[Wb,h _ rfl]
theorem zkd{d:D}(h:∀k,d.ref=some k->σ'.ob k=σ.ob k):OH σ' d=OH σ d:=by cases d<;>first|rfl|simp only[OH,h _ rfl]
theorem zke{d:D}(h:∀k,d.ref=some k->σ'.ob k=σ.ob k):zad σ' d=zad σ d:=by cases d<;>first|rfl|simp only[zad,h _ rfl]
theorem DL{T:AcI}{d:D}{k:Nat}(h:(Kf E T d).ref=some k):d.ref=some k:=by
 cases d<;>first|exact h|(unfold Kf at h;simp only at h;split at h<;>cases h)
theorem zap{n:Int}{x:Option Operand}(h:∀y,x=some y->σ'.ev y=σ.ev y):Wc σ' n x=Wc σ n x:=by
 cases x with
 |none=>rfl
 |some y=>simp only[Wc,h y rfl]
theorem OO{place:Nat->Option (Nat×Nat)}:∀(parts:List (Nat×Operand)) (ds:AcO),(∀x∈parts,σ'.ev x.2=σ.ev x.2)->(∀x∈parts,∀k,(σ.ev x.2).ref=some k->σ'.ob k=σ.ob k)->LK σ' place ds parts=LK σ place ds parts
 |[],ds,_,_=>rfl
 |(f,x)::r,ds,hx,ho=>by
  unfold LK;have hr:∀ds,LK σ' place ds r=LK σ place ds r:=λds=>OO (place:=place) r ds (λy hy=>hx y (On _ hy)) λy hy=>ho y (On _ hy)
  have hv:Wb σ' (σ.ev x)=Wb σ (σ.ev x):=MA (ho (f,x) Ks)
  have hm:∀z:Option D,Mw σ' (σ.ev x) z=Mw σ (σ.ev x) z:=λz=>by
   unfold Mw;split
   ·rfl
   ·rfl
   ·exact hv
  rw[show σ'.ev x=σ.ev x from hx (f,x) Ks]
  simp only[hr,hm]
theorem MB:∀(xs:List Operand) (ts:List AcI),(∀x∈xs,σ'.ev x=σ.ev x)->cC E σ' xs ts=cC E σ xs ts
 |[],_,_=>rfl
 |x::xs,[],h=>by unfold cC;rw[h x Ks,MB xs [] λy hy=>h y (On _ hy)]
 |x::xs,T::ts,h=>by unfold cC;rw[h x Ks,MB xs ts λy hy=>h y (On _ hy)]
theorem zmc{raw:Bool}(xs:List Operand)(ts:List AcI)(h:∀x∈xs,σ'.ev x=σ.ev x):zfm raw E σ' xs ts=zfm raw E σ xs ts:=by
 cases raw
 ·exact MB xs ts h
 ·exact AbV h
theorem Kq:∀ {xs:List Operand} {ts:List AcI} {d:D} {k:Nat},d∈cC E σ xs ts->d.ref=some k->∃x∈xs,(σ.ev x).ref=some k
 |[],_,d,k,h,_=>by unfold cC at h;cases h
 |x::xs,[],d,k,h,hr=>by
  unfold cC at h
  rcases OF.1 h with rfl|h
  ·exact⟨x,Ks,hr⟩
  ·obtain⟨y,hy,e⟩:=Kq h hr;exact⟨y,On _ hy,e⟩
 |x::xs,T::ts,d,k,h,hr=>by
  unfold cC at h
  rcases OF.1 h with rfl|h
  ·exact⟨x,Ks,DL hr⟩
  ·obtain⟨y,hy,e⟩:=Kq h hr;exact⟨y,On _ hy,e⟩
theorem zkf{xs:List Operand}(h:∀x∈xs,σ'.ev x=σ.ev x):xs.map σ'.ev=xs.map σ.ev:=AbV h
theorem TY(A:wG)(d:Option Nat):cB A.quiet d=none:=by cases d<;>rfl
theorem bO(hq:nF E A o=true)(he:zmb o σ σ'){K:D->Prop}(h:opD P E.q A.quiet o σ λd _=>K d):∃d,K d/\∀K':D->St->Prop,K' d σ'->opD P E.q A.quiet o σ' K':=by
 obtain⟨h1,h2⟩:=he;unfold opD at h⊢
 cases ho:o.op<;>rw[ho]at h h1 h2<;>simp only[Op.operands]at h h1 h2⊢
 case move x=>
  rw[h1 x (by simp)]
  unfold zda at h⊢
  split at h
  ·split at h
   ·rw[TY]at h⊢;exact⟨_,h,λK' hk=>hk⟩
   ·exact⟨_,h,λK' hk=>hk⟩
  ·exact⟨_,h,λK' hk=>hk⟩
 case assign x=>
  rw[h1 x (by simp)]
  unfold zda at h⊢
  split at h
  ·split at h
   ·rw[TY]at h⊢;exact⟨_,h,λK' hk=>hk⟩
   ·exact⟨_,h,λK' hk=>hk⟩
  ·exact⟨_,h,λK' hk=>hk⟩
 case pick c x y=>
  rw[h1 c (by simp),h1 x (by simp),h1 y (by simp)]
  generalize σ.ev c=dc at h⊢
  split at h
  ·rename_i t
   cases t
   ·exact⟨_,h,λK' hk=>hk⟩
   ·exact⟨_,h,λK' hk=>hk⟩
  ·exact h.elim
 case alloc T=>
  unfold Du at h⊢
  rw[show A.quiet.nz=[]from rfl]at h⊢
  simp only at h⊢
  unfold Dr at h⊢
  split at h
  ·rw[TY]at h⊢;exact⟨_,h,λK' hk=>hk⟩
  ·exact h.elim
 case box T x=>
  unfold zjH at h⊢
  rw[h1 x (by simp),MA λk hk=>h2 x (by simp) k (DL hk)]
  split at h
  ·rw[TY]at h⊢
   rw[show A.quiet.q=1 from rfl]at h⊢
   obtain⟨hf,h⟩:=TX.1 h;exact⟨_,h,λK' hk=>TX.2 ⟨hf,hk⟩⟩
  ·exact h.elim
 case build T parts=>
  unfold Dt at h⊢
  split at h
  ·rename_i zs offs _ _
   have hp:∀x∈parts.toList,x.2∈(parts.toList.map (·.2)).toArray:=λx hx=>by simp only[Ach,Of];exact⟨x,hx,rfl⟩
   rw[OO parts.toList zs (λx hx=>h1 x.2 (hp x hx)) λx hx=>h2 x.2 (hp x hx)]
   split at h
   ·rw[show A.quiet.q=1 from rfl]at h⊢
    obtain⟨hf,h⟩:=TX.1 h;exact⟨_,h,λK' hk=>TX.2 ⟨hf,hk⟩⟩
   ·exact h.elim
  ·exact h.elim
 case buildSlice T len parts=>
  unfold W3 at h⊢
  split at h
  ·rename_i e t _
   have hp:∀x∈parts.toList,x.2∈(parts.toList.map (·.2)).toArray:=λx hx=>by simp only[Ach,Of];exact⟨x,hx,rfl⟩
   rw[OO parts.toList _ (λx hx=>h1 x.2 (hp x hx)) λx hx=>h2 x.2 (hp x hx)]
   cases hb:xQ t len&&Nat.ble (len*t.size) 16777216 with
   |false=>rw[hb]at h;exact h.elim
   |true=>
    rw[hb,AI]at h
    simp only[AI];split at h
    ·rw[show A.quiet.q=1 from rfl]at h⊢
     obtain⟨hf,h⟩:=TX.1 h;split at h
     ·rename_i xs hel
      rw[TY]at h
      refine⟨_,h,λK' hk=>TX.2 ⟨hf,?_⟩⟩
      rw[hel,TY];exact hk
     ·exact h.elim
    ·exact h.elim
  ·exact h.elim
 case load T x=>
  unfold zg8 at h⊢
  rw[h1 x (by simp),zbY (h2 x (by simp))]
  split at h
  ·rename_i ag zs _
   split at h
   ·rename_i cs _
    cases hb:Nat.ble zs.length cs.length with
    |false=>rw[hb]at h;exact h.elim
    |true=>
     rw[hb,AI]at h
     simp only[AI];cases ag with
     |true=>
      rw[show A.quiet.q=1 from rfl]at h⊢
      obtain⟨hf,h⟩:=TX.1 h;exact⟨_,h,λK' hk=>TX.2 ⟨hf,hk⟩⟩
     |false=>
      cases cs with
      |nil=>exact h.elim
      |cons d r=>exact⟨_,h,λK' hk=>hk⟩
   ·exact h.elim
  ·exact h.elim
 case store T x y=>simp only[nF,ho,Aa0]at hq
 case nilCheck x=>
  rw[h1 x (by simp)]
  split at h
  ·exact⟨_,h,λK' hk=>hk⟩
  ·exact⟨_,h,λK' hk=>hk⟩
  ·exact⟨_,h,λK' hk=>hk⟩
  ·exact⟨_,h,λK' hk=>hk⟩
  ·exact h.elim
 case binOp op T x y T'=>
  rw[h1 x (by simp),h1 y (by simp)]
  have hE:∀(op:BinOp) (b:Bool) (K:D->Prop),eqK op b K->∃d,K d/\∀K':D->Prop,K' d->eqK op b K':=λop b K h=>by
   unfold eqK at h⊢
   split at h
   ·exact⟨_,h,λK' hk=>hk⟩
   ·exact⟨_,h,λK' hk=>hk⟩
   ·exact h.elim
  unfold zdb at h⊢
  split at h
  ·split at h
   ·split at h
    ·obtain⟨d,q1,q2⟩:=hE _ _ _ h
     exact⟨d,q1,λK' hk=>q2 (λd=>K' d σ') hk⟩
    ·exact h.elim
   ·exact h.elim
  ·exact h.elim
  ·exact h.elim
  ·exact h.elim
  ·split at h<;>exact h.elim
  ·unfold zjI at h⊢
   split at h
   ·split at h<;>first|exact h.elim|exact⟨_,h,λK' hk=>hk⟩|exact⟨_,h.2,λK' hk=>⟨h.1,hk⟩⟩
   ·split at h<;>first|exact h.elim|exact⟨_,h,λK' hk=>hk⟩
   ·split at h<;>first|exact h.elim|exact⟨_,h,λK' hk=>hk⟩|exact⟨_,h.2,λK' hk=>⟨h.1,hk⟩⟩
   ·cases hb:pX T E.q.bools with
    |false=>rw[hb]at h;exact h.elim
    |true=>
     rw[hb,AI]at h
     simp only[AI];split at h<;>first|exact h.elim|exact⟨_,h,λK' hk=>hk⟩
   ·exact h.elim
 case makeMap T r=>
  cases r with
  |some _=>exact h.elim
  |none=>
   simp only at h⊢
   unfold OG at h⊢
   split at h
   ·rw[TY]at h⊢;exact⟨_,h,λK' hk=>hk⟩
   ·exact h.elim
 case mapUpdate T m x y=>simp only[nF,ho,Aa0]at hq
 case lookup T m x ok=>
  rw[h1 m (by simp),h1 x (by simp)]
  unfold E9 at h⊢
  rw[zke (h2 m (by simp))]
  split at h
  ·rename_i kt0 vt0 kt vt es _ _
   cases hb:decide (kt=kt0)&&decide (vt=vt0)with
   |false=>rw[hb]at h;exact h.elim
   |true=>
    rw[hb,AI]at h
    simp only[AI];split at h
    ·cases ok
     ·exact⟨_,h,λK' hk=>hk⟩
     ·exact⟨_,h,λK' hk=>hk⟩
    ·exact h.elim
  ·exact h.elim
 case unOp op T x=>
  rw[h1 x (by simp)]
  unfold unD at h⊢
  split at h<;>first|exact h.elim|exact⟨_,h,λK' hk=>hk⟩
 case convert src dst x=>
  rw[h1 x (by simp)]
  unfold zha at h⊢
  split at h
  ·split at h<;>first|exact h.elim|exact⟨_,h,λK' hk=>hk⟩
  ·split at h
   ·split at h<;>first|exact h.elim|exact⟨_,h,λK' hk=>hk⟩
   ·exact h.elim
 case makeFunc fn first caps=>
  cases fn<;>simp only at h⊢
  case func f=>
   rw[zkf (xs:=caps.toList) λx hx=>h1 x (by simp;exact .inr (by simpa using hx)),zkf (xs:=first.toList) λx hx=>h1 x (by simp;exact .inl (by simpa using hx))]
   cases hcl:A.quiet.clp with
   |true=>
    rw[hcl]at h
    simp only at h⊢
    split at h<;>first|exact⟨_,h,λK' hk=>hk⟩|exact h.elim
   |false=>
   rw[hcl]at h
   simp only at h⊢
   split at h
   ·rw[show A.quiet.q=1 from rfl]at h⊢
    obtain⟨hf,h⟩:=TX.1 h;exact⟨_,h,λK' hk=>TX.2 ⟨hf,hk⟩⟩
   ·exact h.elim
  all_goals exact h.elim
 case makeInterface T x=>
  rw[h1 x (by simp)]
  split at h
  ·exact⟨_,h,λK' hk=>hk⟩
  ·exact h.elim
 case makeSlice T l c=>
  rw[h1 l (by simp),h1 c (by simp)]
  unfold UD at h⊢
  split at h
  ·split at h
   ·rw[TY]at h⊢
    exact⟨_,h.2.2.2,λK' hk=>⟨h.1,h.2.1,h.2.2.1,hk⟩⟩
   ·exact h.elim
  ·exact h.elim
 case slice T x lo hi mx=>
  cases mx with
  |some m=>exact h.elim
  |none=>
   simp only at h⊢
   have e1:∀n,Wc σ' n lo=Wc σ n lo:=λn=>zap λy hy=>h1 y (by subst hy;simp)
   have e2:∀n,Wc σ' n hi=Wc σ n hi:=λn=>zap λy hy=>h1 y (by subst hy;simp)
   rw[h1 x (by simp)]
   unfold zbz at h⊢
   split at h
   ·simp only[e1,e2]
    rename_i s _;cases hb:pX T E.q.strs with
    |false=>rw[hb]at h;exact h.elim
    |true=>
     rw[hb,AI]at h
     simp only[AI];split at h
     ·exact⟨_,h.2,λK' hk=>⟨h.1,hk⟩⟩
     ·exact h.elim
   ·rw[show A.quiet.q=1 from rfl]at h⊢
    obtain⟨hf,h⟩:=TX.1 h;split at h
    ·rename_i t xs heq
     split at h
     ·rename_i e t' l hh q1 q2 q3
      cases hb:Nat.beq t'.size t.size with
      |false=>rw[hb]at h;exact h.elim
      |true=>
       rw[hb,AI]at h
       refine⟨_,h.2,λK' hk=>TX.2 ⟨hf,?_⟩⟩
       have e3:σ.ev x=.sl t xs:=by injection heq
       simp only[e1,e2,e3,q1,q2,q3,hb,AI];exact⟨h.1,hk⟩
     ·exact h.elim
    ·exact h.elim
 case fieldAddr T x f=>
  rw[h1 x (by simp)]
  unfold Ds at h⊢
  split at h
  ·split at h<;>first|exact h.elim|exact⟨_,h,λK' hk=>hk⟩
  ·exact h.elim
 case indexAddr T x ix=>
  rw[h1 x (by simp),h1 ix (by simp)]
  unfold R4 at h⊢
  split at h
  ·rename_i e t' _
   split at h
   ·split at h
    ·rename_i t xs _
     cases hb:Nat.beq t'.size t.size with
     |false=>rw[hb]at h;exact h.elim
     |true=>rw[hb,AI]at h;simp only[AI];exact⟨_,h.2,λK' hk=>⟨h.1,hk⟩⟩
    ·rename_i j hj
     rw[h2 x (by simp) j (by rw[hj];rfl)]
     split at h
     ·rename_i t xs _
      cases hb:Nat.beq t'.size t.size with
      |false=>rw[hb]at h;exact h.elim
      |true=>rw[hb,AI]at h;simp only[AI];exact⟨_,h.2,λK' hk=>⟨h.1,hk⟩⟩
     ·exact h.elim
    ·exact h.elim
   ·exact h.elim
  ·exact h.elim
 case index T x ix=>
  rw[h1 x (by simp),h1 ix (by simp)]
  unfold zbB at h⊢
  split at h
  ·cases hb:pX T E.q.strs with
   |false=>rw[hb]at h;exact h.elim
   |true=>rw[hb,AI]at h;simp only[AI];exact⟨_,h.2,λK' hk=>⟨h.1,hk⟩⟩
  ·exact h.elim
 case extract x i=>
  rw[h1 x (by simp)]
  unfold Ju at h⊢
  split at h
  ·split at h
   ·exact⟨_,h,λK' hk=>hk⟩
   ·exact h.elim
  ·exact h.elim
 case call c=>
  have hargs:∀x∈c.args.toList,σ'.ev x=σ.ev x:=λx hx=>h1 x (by simp[Call.operands];exact .inr (by simpa using hx))
  have hobs:∀x∈c.args.toList,∀k,(σ.ev x).ref=some k->σ'.ob k=σ.ob k:=λx hx=>h2 x (by simp[Call.operands];exact .inr (by simpa using hx))
  split at h
  ·split at h
   ·rename_i hc x T ha ht
    rw[hargs x (by rw[ha];simp)]
    have hox:=hobs x (by rw[ha];simp)
    unfold zlP at h⊢
    split at h
    ·cases hb:pX T E.q.strs with
     |false=>rw[hb]at h;exact h.elim
     |true=>rw[hb,AI]at h;simp only[AI];exact⟨_,h,λK' hk=>hk⟩
    ·split at h
     ·exact⟨_,h,λK' hk=>hk⟩
     ·exact h.elim
    ·split at h
     ·exact⟨_,h,λK' hk=>hk⟩
     ·exact h.elim
    ·split at h
     ·exact⟨_,h,λK' hk=>hk⟩
     ·exact h.elim
    ·rename_i j hj
     rw[hox j (by rw[hj];rfl)]
     split at h
     ·split at h
      ·exact⟨_,h,λK' hk=>hk⟩
      ·exact h.elim
     ·split at h
      ·exact⟨_,h,λK' hk=>hk⟩
      ·exact h.elim
     ·exact h.elim
    ·exact h.elim
   ·exact h.elim
  ·rename_i hc;simp only[nF,ho,hc,Aa0]at hq
  ·split at h
   ·rename_i x y ha
    rw[hargs x (by rw[ha];simp),hargs y (by rw[ha];simp)]
    unfold zlQ at h⊢
    split at h
    ·exact⟨_,h,λK' hk=>hk⟩
    ·exact h.elim
   ·exact h.elim
  ·rename_i f hc
   rw[h1 f (by simp[Call.operands,hc])]
   unfold zdd at h⊢
   split at h
   ·rename_i g rs0 caps hcl
    have hh:zfo E.q g rs0=none:=by cases rs0<;>rfl
    rw[hh]at h⊢
    simp only at h⊢
    split at h
    ·rename_i rs _
     obtain⟨hent,h⟩:=DG.1 h;simp only[DG]at h⊢
     rw[MB _ _ hargs]
     have lin:∀(g:AcH) (ds:AcO) (K:D->Prop),zfl P g ds rs K->∃d,K d/\∀K':D->Prop,K' d->zfl P g ds rs K':=by
      intro g ds K h;unfold zfl at h⊢
      split at h
      ·exact⟨_,h.2,λK' hk=>⟨h.1,hk⟩⟩
      ·obtain⟨x,q1,q2⟩:=h;exact⟨_,q2,λK' hk=>⟨x,q1,hk⟩⟩
      ·obtain⟨x,y,q1,q2⟩:=h;exact⟨_,q2,λK' hk=>⟨x,y,q1,hk⟩⟩
      ·obtain⟨x,y,z,q1,q2⟩:=h;exact⟨_,q2,λK' hk=>⟨x,y,z,q1,hk⟩⟩
      ·exact h.elim
     cases hsc:rs.all Ty.scalar with
     |true=>
      rw[hsc,AI]at h
      simp only[AI]
      have ev:(cC E.q σ c.args.toList c.argTypes.toList).map (OH σ')=(cC E.q σ c.args.toList c.argTypes.toList).map (OH σ):=AbV λd hd=>zkd λk hk=>by
       obtain⟨x,hx,e⟩:=Kq hd hk;exact hobs x hx k e
      simp only[ev];cases hfl:((cC E.q σ c.args.toList c.argTypes.toList).map (OH σ)).all ZE with
      |false=>rw[hfl]at h;exact h.elim
      |true=>
       rw[hfl,AI]at h
       simp only[AI];obtain⟨d,q1,q2⟩:=lin _ _ _ h;exact⟨d,q1,λK' hk=>⟨hent,q2 (λr=>K' r σ') hk⟩⟩
     |false=>
      rw[hsc,Vs]at h
      simp only[Vs];rw[show A.quiet.q=1 from rfl]at h⊢
      obtain⟨hf,h⟩:=TX.1 h;obtain⟨d,q1,q2⟩:=lin _ _ _ h;exact⟨d,q1,λK' hk=>⟨hent,TX.2 ⟨hf,q2 (λr=>K' r σ') hk⟩⟩⟩
    ·exact h.elim
   ·exact h.elim
  ·exact h.elim
 all_goals exact h.elim
end
section
variable {P:AcJ}{E:TE}{A:wG}{σ σ1:St}{d:D}{o:Oper}
def St.px(σ:St):Option (Nat×D)->St
 |none=>σ
 |some (s,d)=>σ.put s d
def XOk(X:Option (Nat×D)):Prop:=∀s d,X=some (s,d)->d.ref=none
def Keep(σ τ:St):Prop:=∀t,(σ.get t).ref=none->τ.get t=σ.get t
theorem Keep.refl(σ:St):Keep σ σ:=λ_ _=>rfl
theorem Keep.trans{σ τ υ:St}(h:Keep σ τ)(h':Keep τ υ):Keep σ υ:=λt ht=>(h' t (by rw[h t ht];exact ht)).trans (h t ht)
variable {X:Option (Nat×D)}
theorem zhl(k:Nat):(σ.px X).ob k=σ.ob k:=by
 cases X with
 |none=>rfl
 |some x=>rfl
theorem Ho{f:D->D}(hf:f .undef=.undef)(hX:XOk X)(hfd:∀d,d.ref=none->f d=d)(h:sU σ1 (σ.px X)):(∀i,((σ.map f).px X).get i=(σ1.map f).get i)/\∀k,yG k (σ.map f).hp=yG k (σ1.map f).hp:=by
 refine⟨λi=> ?_,λk=> ?_⟩
 ·have h1:=h.get i
  rw[St.get_map f hf,<-h1];cases X with
  |none=>exact St.get_map f hf σ i
  |some x=>
   obtain⟨s,d⟩:=x;simp only[St.px,St.get_put];split
   ·exact(hfd d (hX s d rfl)).symm
   ·exact St.get_map f hf σ i
 ·have h2:yG k σ.hp=yG k σ1.hp:=(zhl (X:=X) k).symm.trans (h.hp k)
  show yG k (σ.hp.map λx=>(x.1,x.2.map f))=yG k (σ1.hp.map λx=>(x.1,x.2.map f))
  rw[eN,eN,h2]
theorem zaq{k:Nat}{d:D}(h:d.ref=none):d.kill k=d:=D.kill_ne (by rw[h];simp)
theorem zhm{τ:St}{hp:List (Nat×yN)}:((⟨τ.fr,hp⟩:St).px X).fr=(τ.px X).fr:=by
 cases X<;>rfl
theorem Dc{a b:St}(hX:XOk X)(hg:∀i,(b.px X).get i=a.get i)(hh:∀k,yG k b.hp=yG k a.hp):sU a (b.px X):=⟨hg,λk=>(zhl (X:=X) k).trans (hh k)⟩
theorem zbZ{a b:St}(h:a.fr=b.fr)(i:Nat):a.get i=b.get i:=by unfold St.get;rw[h]
theorem fG(hX:XOk X)(h:sU σ1 (σ.px X))(k:Nat)(ob:yN):sU (σ1.mk' k ob) ((σ.mk' k ob).px X):=by
 obtain⟨h1,h2⟩:=Ho (f:=D.kill k) rfl hX (λd hd=>zaq hd) h
 refine Dc hX (λi=> ?_) λj=> ?_
 ·refine Eq.trans (zbZ ?_ i) (h1 i)
  exact zhm (τ:=σ.map (D.kill k))
 ·simp only[St.mk',wR,ov,h2]
theorem UG(hX:XOk X)(h:sU σ1 (σ.px X))(k:Nat)(ob:yN):sU (σ1.setOb k ob) ((σ.setOb k ob).px X):=by
 refine Dc hX (λi=> ?_) λj=> ?_
 ·exact Eq.trans (zbZ (zhm (τ:=σ)) i) (h.get i)
 ·have h2:yG j σ.hp=yG j σ1.hp:=(zhl (X:=X) j).symm.trans (h.hp j)
  simp only[St.setOb,wR,ov,h2]
theorem Fg{k:Nat}{ob:yN}{d:D}(h:d.ref=none):pG k ob d=d:=Jr (by rw[h];simp)
theorem zdl(hX:XOk X)(h:sU σ1 (σ.px X))(k:Nat)(ob:yN):sU (σ1.pub k ob) ((σ.pub k ob).px X):=by
 have hu:pG k ob .undef=.undef:=by cases ob<;>rfl
 obtain⟨h1,h2⟩:=Ho (f:=pG k ob) hu hX (λd hd=>Fg hd) h
 refine Dc hX (λi=> ?_) λj=> ?_
 ·exact Eq.trans (zbZ (zhm (τ:=σ.map (pG k ob))) i) (h1 i)
 ·simp only[St.pub,ov,h2]
theorem DM{f:D->D}(hf:f .undef=.undef)(hfd:∀d,d.ref=none->f d=d)(hp:List (Nat×yN)):Keep σ ⟨(σ.map f).fr,hp⟩:=λt ht=>by
 have:(⟨(σ.map f).fr,hp⟩:St).get t=(σ.map f).get t:=rfl;rw[this,St.get_map f hf,hfd _ ht]
theorem fH(k:Nat)(ob:yN):Keep σ (σ.mk' k ob):=DM rfl (λd hd=>zaq hd) _
theorem UH(k:Nat)(ob:yN):Keep σ (σ.setOb k ob):=λ_ _=>rfl
theorem zdm(k:Nat)(ob:yN):Keep σ (σ.pub k ob):=DM (by cases ob<;>rfl) (λd hd=>Fg hd) _
theorem Y6(h:sU σ1 (σ.px X))(k:Nat):σ1.ob k=σ.ob k:=(h.hp k).symm.trans (zhl k)
theorem Kr(h:∀k,σ1.ob k=σ.ob k):∀n k,TT σ1 n k=TT σ n k
 |0,k=>rfl
 |n+1,k=>by
  unfold TT;rw[h k];split
  ·split
   ·exact Kr h n _
   ·rfl
  ·split
   ·exact Kr h n _
   ·rfl
  ·rfl
theorem zar(hX:XOk X):∀(n:Nat) (σ1 σ:St) (ds:AcO) (τ1:St) (ds':AcO),sU σ1 (σ.px X)->pubs n σ1 ds=some (τ1,ds')->∃τ,pubs n σ ds=some (τ,ds')/\sU τ1 (τ.px X)/\Keep σ τ
 |0,_,_,_,_,_,_,h=>by cases h
 |n+1,σ1,σ,ds,τ1,ds',hl,h=>by
  unfold pubs at h⊢
  cases hf:ZF ds with
  |none=>rw[hf]at h;injection h with h;injection h with h1 h2;subst h1 h2;exact⟨σ,rfl,hl,.refl _⟩
  |some k0=>
   rw[hf]at h
   simp only at h⊢
   rw[Kr (Y6 hl),Y6 hl]at h
   split at h
   ·rename_i ob hob
    cases hfl:ob.flatB with
    |false=>rw[hfl]at h;cases h
    |true=>
     rw[hfl,AI]at h
     simp only[AI];obtain⟨τ,q1,q2,q3⟩:=zar hX n _ _ _ _ _ (zdl hX hl _ ob) h;exact⟨τ,q1,q2,(zdm _ ob).trans q3⟩
   ·cases h
theorem ZG(hX:XOk X){q:Nat}{ds:AcO}{K K':AcO->St->Prop}(hl:sU σ1 (σ.px X))(h:qG q σ1 ds K)(hK:∀ds' τ τ1,sU τ1 (τ.px X)->Keep σ τ->K ds' τ1->K' ds' τ):qG q σ ds K':=by
 unfold qG at h⊢
 cases hp:pubs q σ1 ds with
 |none=>rw[hp]at h;exact h.elim
 |some x=>
  obtain⟨τ1,ds'⟩:=x;rw[hp]at h
  obtain⟨τ,q1,q2,q3⟩:=zar hX q _ _ _ _ _ hl hp;rw[q1];exact hK _ _ _ q2 q3 h
theorem zdn(hX:XOk X)(hl:sU σ1 (σ.px X))(k off:Nat)(e:AcI)(t:Ty):sU (OJ σ1 k off e t) ((OJ σ k off e t).px X)/\Keep σ (OJ σ k off e t):=by
 unfold OJ;rw[Y6 hl k];split
 ·split
  ·cases Nat.beq k (Zw k off)
   ·exact⟨UG hX (fG hX hl _ _) _ _,(fH _ _).trans (UH _ _)⟩
   ·exact⟨hl,.refl _⟩
  ·exact⟨UG hX hl _ _,UH _ _⟩
  ·exact⟨hl,.refl _⟩
 ·exact⟨hl,.refl _⟩
theorem DN{τ τ':St}(ob:∀k,τ.ob k=τ'.ob k):∀ds:AcO,cU τ ds=cU τ' ds
 |[]=>rfl
 |d::r=>by
  have ih:=DN ob r;unfold cU;split
  ·rfl
  ·rename_i k r' e
   injection e with e1 e2
   subst e2;rw[ob k,ih]
  ·rename_i x r' _ e
   injection e with e1 e2
   subst e2;exact ih
theorem VZ(hX:XOk X)(ds:AcO):∀(l:List (Nat×(Nat×(AcI×Ty)))) (σ1 σ:St),sU σ1 (σ.px X)->sU (fD ds l σ1) ((fD ds l σ).px X)/\Keep σ (fD ds l σ)
 |[],σ1,σ,hl=>⟨hl,.refl _⟩
 |(i,off,e,t)::r,σ1,σ,hl=>by
  unfold fD;split
  ·obtain⟨h1,h2⟩:=zdn hX hl _ off e t
   obtain⟨h3,h4⟩:=VZ hX ds r _ _ h1;exact⟨h3,h2.trans h4⟩
  ·exact VZ hX ds r _ _ hl
theorem B6(hX:XOk X)(hl:sU σ1 (σ.px X))(k off:Nat):sU (W4 σ1 k off) ((W4 σ k off).px X)/\Keep σ (W4 σ k off):=by
 unfold W4;rw[Y6 hl k];split
 ·split
  ·rename_i j _
   rw[Y6 hl j];split
   ·rename_i ob _
    cases ob.flatB
    ·exact⟨hl,.refl _⟩
    ·exact⟨zdl hX hl _ _,zdm _ _⟩
   ·exact⟨hl,.refl _⟩
  ·exact⟨hl,.refl _⟩
 ·exact⟨hl,.refl _⟩
theorem UI(hX:XOk X)(ds:AcO):∀(l:List (Nat×Nat)) (σ1 σ:St),sU σ1 (σ.px X)->sU (tP ds l σ1) ((tP ds l σ).px X)/\Keep σ (tP ds l σ)
 |[],σ1,σ,hl=>⟨hl,.refl _⟩
 |(i,off)::r,σ1,σ,hl=>by
  unfold tP;split
  ·obtain⟨h1,h2⟩:=B6 hX hl _ off
   obtain⟨h3,h4⟩:=UI hX ds r _ _ h1;exact⟨h3,h2.trans h4⟩
  ·exact UI hX ds r _ _ hl
theorem JF{ks:AcU}{d:D}(h:d.ref=none):fF ks d=d:=by unfold fF;rw[h]
theorem zdo{α:Type}(k:Nat):∀(l l':List (Nat×α)),yG k (l++l')=match yG k l with|some o=>some o|none=>yG k l'
 |[],l'=>rfl
 |(i,x)::r,l'=>by
  rw[Abz,wR,wR];split
  ·rfl
  ·exact zdo k r l'
theorem R7{α:Type}(ks:AcU)(k:Nat):∀(l:List (Nat×α)),yG k (TV ks l)=if pX k ks=true then none else yG k l
 |[]=>by simp[TV,yG]
 |(i,x)::r=>by
  unfold TV;cases hm:pX i ks with
  |true=>
   rw[AI,R7 ks k r,wR]
   by_cases e:i=k
   ·subst e;rw[As hm,As hm]
   ·rw[An e]
  |false=>
   rw[Vs,wR,wR,R7 ks k r]
   by_cases e:i=k
   ·subst e;rw[As rfl,As rfl,An (by rw[hm];simp)]
   ·rw[An e,An e]
theorem zfz(hX:XOk X)(hl:sU σ1 (σ.px X))(ρ:List (Nat×Nat))(dst:Nat)(h':List (Nat×yN)):sU (σ1.after ρ dst h') ((σ.after ρ dst h').px X)/\Keep σ (σ.after ρ dst h'):=by
 refine⟨?_,?_⟩
 ·unfold St.after
  simp only;generalize(((ρ.filter λx=> !stabK x.2|| !(pX x.2 (h'.map (·.1)))).map (·.1))++((h'.map λx=>(x.1,fE (Hf ρ) dst x.1)).filter λx=> !(pX x.1 (ρ.map (·.2)))).map (·.2))=dead
  obtain⟨h1,h2⟩:=Ho (f:=fF dead) rfl hX (λd hd=>JF hd) hl
  refine Dc hX (λi=> ?_) λj=> ?_
  ·exact Eq.trans (zbZ (zhm (τ:=σ.map (fF dead))) i) (h1 i)
  ·simp only[zdo,R7]
   have:=h2 j;simp only[St.map]at this
   rw[this]
 ·exact DM rfl (λd hd=>JF hd) _
theorem zdp:∀ {ts:AcW} {K K':AcO->Prop},(∀xs,K xs->K' xs)->exH ts K->exH ts K'
 |[],K,K',hk,h=>hk _ h
 |t::ts,K,K',hk,h=>by
  obtain⟨x,h⟩:=h;exact⟨x,zdp (λxs=>hk _) h⟩
theorem zfA(hX:XOk X)(hl:sU σ1 (σ.px X)){f:AcH}{hs:zbv}{dst:Nat}{ds0 caps:AcO}{K K':D->St->Prop}(h:G9 P A f hs dst ds0 caps σ1 K)(hK:∀d τ τ1,sU τ1 (τ.px X)->Keep σ τ->K d τ1->K' d τ):G9 P A f hs dst ds0 caps σ K':=by
 unfold G9 at h⊢
 cases hb:caps.all ZE&&ds0.all Kh with
 |false=>rw[hb]at h;exact h.elim
 |true=>
  rw[hb,AI]at h
  simp only[AI]at h⊢
  obtain⟨a1,a2⟩:=UI hX ds0 hs.datas _ _ hl;rw[DN (Y6 a1) ds0]at h
  obtain⟨b1,b2⟩:=VZ hX (ds0++cU (tP ds0 hs.datas σ) ds0) hs.nils _ _ a1;generalize fD (ds0++cU (tP ds0 hs.datas σ) ds0) hs.nils (tP ds0 hs.datas σ1)=υ1 at h b1
  generalize fD (ds0++cU (tP ds0 hs.datas σ) ds0) hs.nils (tP ds0 hs.datas σ)=υ at b1 b2⊢
  have ho:υ1.ob=υ.ob:=funext (Y6 b1);rw[ho]at h
  refine zdp (λxs h=> ?_) h
  split
  ·rename_i r h' hr
   rw[hr]at h
   simp only at h
   have hch:∀a b:St,zdc a=zdc b:=λ_ _=>rfl
   rw[hch υ1 υ]at h
   cases hc:zdc υ (zbE υ.ob (OI ds0) (reach υ.ob 400 [] ds0) 0 0) dst h' with
   |false=>rw[hc]at h;exact h.elim
   |true=>
    rw[hc,AI]at h
    rw[AI];obtain⟨c1,c2⟩:=zfz hX b1 (zbE υ.ob (OI ds0) (reach υ.ob 400 [] ds0) 0 0) dst h';exact⟨h.1,hK _ _ _ c1 ((a2.trans b2).trans c2) h.2⟩
  ·rename_i hr
   rw[hr]at h
   exact h
theorem zkg{op:BinOp}{b:Bool}{K K':D->Prop}(hk:∀d,K d->K' d)(h:eqK op b K):eqK op b K':=by
 unfold eqK at h⊢
 split at h
 ·exact hk _ h
 ·exact hk _ h
 ·exact h.elim
theorem DO(h:∀k,σ1.ob k=σ.ob k)(k:Nat)(t:Ty)(d:D):G8 σ1 k t d=G8 σ k t d:=by
 cases d<;>simp only[G8,h]
theorem zfB{τ τ':St}(ob:∀k,τ.ob k=τ'.ob k){x:D}:E8 τ x=E8 τ' x:=by
 unfold E8;cases x with
 |ptr k off=>simp only[ob k]
 |_=>rfl
theorem zim{b:Bool}{new:AcO}{K K':AcO->Prop}(hm:∀new,K new->K' new)(h:zia b new K):zia b new K':=by
 unfold zia at h⊢
 split at h
 ·split at h
  ·exact⟨h.1,hm _ h.2⟩
  ·exact hm _ h
 ·exact hm _ h
theorem zin(hX:XOk X)(hl:sU σ1 (σ.px X))(hx:∀s d,X=some (s,d)->Operand.tmp s∉o.op.operands)(hq:nF E A o=false){K K':D->St->Prop}(h:opD P E A o σ1 K)
  (hK:∀d τ τ1,sU τ1 (τ.px X)->Keep σ τ->K d τ1->K' d τ):opD P E A o σ K':=by
 have ev0:∀(a b:St),sU a (b.px X)->∀x∈o.op.operands,a.ev x=b.ev x:=λa b hab x hxo=>by
  cases x with
  |tmp t=>
   show a.get t=b.get t
   rw[<-hab.get];cases X with
   |none=>rfl
   |some y=>
    obtain⟨s,d⟩:=y;simp only[St.px,St.get_put];rw[An];intro e;subst e;exact hx _ _ rfl hxo
  |_=>rfl
 have ev:=ev0 σ1 σ hl;have ob:=Y6 hl;unfold opD at h⊢
 cases ho:o.op<;>rw[ho]at h ev ev0<;>simp only[Op.operands]at h ev ev0⊢
 case move x=>
  rw[ev x (by simp)]at h
  unfold zda at h⊢
  split at h
  ·split at h
   ·split at h
    ·exact hK _ _ _ (fG hX hl _ _) (fH _ _) h
    ·exact hK _ _ _ hl (.refl _) h
   ·exact hK _ _ _ hl (.refl _) h
  ·exact hK _ _ _ hl (.refl _) h
 case assign x=>
  rw[ev x (by simp)]at h
  unfold zda at h⊢
  split at h
  ·split at h
   ·split at h
    ·exact hK _ _ _ (fG hX hl _ _) (fH _ _) h
    ·exact hK _ _ _ hl (.refl _) h
   ·exact hK _ _ _ hl (.refl _) h
  ·exact hK _ _ _ hl (.refl _) h
 case alloc T=>
  unfold Du at h⊢
  split at h
  case h_2 l hnil=>
   unfold zfn at h⊢
   split at h
   ·split at h
    ·rename_i k _
     cases hb:Nat.blt k 1000000 with
     |false=>rw[hb]at h;exact h.elim
     |true=>
      rw[hb,AI]at h
      simp only[AI];obtain⟨b1,b2⟩:=VZ hX [.ptr k 0] (zbG k A.nz) _ _ (fG hX hl k (.cells (Wy (zbG k A.nz) _)));exact hK _ _ _ b1 ((fH _ _).trans b2) h
    ·exact hK _ _ _ hl (.refl _) h
   ·exact h.elim
  unfold Dr at h⊢
  split at h
  ·split at h
   ·exact hK _ _ _ (fG hX hl _ _) (fH _ _) h
   ·exact hK _ _ _ hl (.refl _) h
  ·exact h.elim
 case box T x=>
  rw[ev x (by simp)]at h
  unfold zjH at h⊢
  rw[MA λk _=>ob k]at h
  split at h
  ·rename_i cs _
   split at h
   ·rename_i k _
    cases hb:zbx k T cs with
    |true=>rw[hb]at h;exact h.elim
    |false=>
     rw[hb,Vs]at h
     exact hK _ _ _ (fG hX hl _ _) (fH _ _) h
   ·exact ZG hX hl h λds' τ τ1 q1 q2 q3=>hK _ _ _ q1 q2 q3
  ·exact h.elim
 case build T parts=>
  unfold Dt at h⊢
  split at h
  ·rename_i zs pf _ _
   have hp:∀x∈parts.toList,x.2∈(parts.toList.map (·.2)).toArray:=λx hx=>by simp only[Ach,Of];exact⟨x,hx,rfl⟩
   rw[OO (σ':=σ1) (σ:=σ) parts.toList zs (λx hx=>ev x.2 (hp x hx)) λx hx k _=>ob k]at h
   split at h
   ·cases hb:pX T E.vals&&zbC o.dst with
    |true=>
     rw[hb,AI]at h
     exact hK _ _ _ (fG hX hl _ _) (fH _ _) h
    |false=>
     rw[hb,Vs]at h
     exact ZG hX hl h λds' τ τ1 q1 q2 q3=>hK _ _ _ q1 q2 q3
   ·exact h.elim
  ·exact h.elim
 case buildSlice T len parts=>
  unfold W3 at h⊢
  split at h
  ·rename_i e t _
   cases hb:xQ t len&&Nat.ble (len*t.size) 16777216 with
   |false=>rw[hb]at h;exact h.elim
   |true=>
    rw[hb,AI]at h
    rw[AI];have hp:∀x∈parts.toList,x.2∈(parts.toList.map (·.2)).toArray:=λx hx=>by simp only[Ach,Of];exact⟨x,hx,rfl⟩
    rw[OO (σ':=σ1) (σ:=σ) parts.toList _ (λx hx=>ev x.2 (hp x hx)) λx hx k _=>ob k]at h
    split at h
    ·refine ZG hX hl h λds' τ τ1 q1 q2 q3=> ?_
     split at q3
     ·split at q3
      ·exact hK _ _ _ (fG hX q1 _ _) (q2.trans (fH _ _)) q3
      ·exact hK _ _ _ q1 q2 q3
     ·exact q3.elim
    ·exact h.elim
  ·exact h.elim
 case store T x y=>
  rw[ev x (by simp),ev y (by simp)]at h
  unfold zby at h⊢
  split at h
  ·rename_i _ zs _
   rw[MA λk _=>ob k]at h
   split at h
   ·exact h.elim
   ·rename_i new _
    rw[zfB ob]at h
    refine zim (λnew h=> ?_) h
    cases hb:Nat.beq new.length zs.length&&new.all fC with
    |false=>rw[hb]at h;exact h.elim
    |true=>
     rw[hb,AI]at h
     rw[AI];split at h
     ·rename_i k off _
      rw[ob k]at h
      split at h
      ·rename_i ds _
       cases hb2:Nat.ble (off+new.length) ds.length with
       |false=>rw[hb2]at h;exact h.elim
       |true=>rw[hb2,AI]at h;exact hK _ _ _ (UG hX hl _ _) (UH _ _) h
      ·exact h.elim
     ·rename_i k sz i off _
      refine ZG hX hl h λds' τ τ1 q1 q2 q3=> ?_
      rw[Y6 q1]at q3
      split at q3
      ·rename_i e t xs _
       cases hb2:Nat.beq sz t.size with
       |false=>rw[hb2]at q3;exact q3.elim
       |true=>
        rw[hb2,AI]at q3
        rw[AI];split at q3
        ·cases hb3:Nat.ble (off+ds'.length) t.size with
         |false=>rw[hb3]at q3;exact q3.elim
         |true=>rw[hb3,AI]at q3;exact hK _ _ _ (UG hX q1 _ _) (q2.trans (UH _ _)) q3
        ·exact q3.elim
      ·exact q3.elim
     ·exact h.elim
  ·exact h.elim
 case binOp op T x y T'=>
  rw[ev x (by simp),ev y (by simp)]at h
  have hE:∀ {op:BinOp} {b:Bool},eqK op b (λd=>K d σ1)->eqK op b λd=>K' d σ:=λh=>zkg (λd hd=>hK _ _ _ hl (.refl _) hd) h
  unfold zdb at h⊢
  split at h
  ·split at h
   ·split at h
    ·exact hE h
    ·exact h.elim
   ·exact h.elim
  ·cases hb:E.nilq&&TU E T with
   |false=>rw[hb]at h;exact h.elim
   |true=>rw[hb,AI]at h;rw[AI];exact hE h
  ·cases hb:E.nilq&&TU E T with
   |false=>rw[hb]at h;exact h.elim
   |true=>rw[hb,AI]at h;rw[AI];exact λb hb=>hE (h b hb)
  ·cases hb:E.nilq&&TU E T with
   |false=>rw[hb]at h;exact h.elim
   |true=>rw[hb,AI]at h;rw[AI];exact hE h
  ·rename_i k _ _
   rw[ob k]at h
   split at h
   ·cases hb:E.nilq&&TU E T with
    |false=>rw[hb]at h;exact h.elim
    |true=>rw[hb,AI]at h;rw[AI];exact λb hb=>hE (h b hb)
   ·exact h.elim
  ·have hk:∀d,K d σ1->K' d σ:=λd hd=>hK _ _ _ hl (.refl _) hd
   unfold zjI at h⊢
   split at h
   ·split at h<;>first|exact h.elim|exact hk _ h|exact⟨h.1,hk _ h.2⟩
   ·split at h<;>first|exact h.elim|exact hk _ h
   ·split at h<;>first|exact h.elim|exact hk _ h|exact⟨h.1,hk _ h.2⟩
   ·cases hb:pX T E.bools with
    |false=>rw[hb]at h;exact h.elim
    |true=>
     rw[hb,AI]at h
     simp only[AI];split at h<;>first|exact h.elim|exact hk _ h
   ·exact h.elim
 case makeSlice T l c=>
  rw[ev l (by simp),ev c (by simp)]at h
  unfold UD at h⊢
  split at h
  ·split at h
   ·obtain⟨g1,g2,g3,h⟩:=h
    refine⟨g1,g2,g3,?_⟩;split at h
    ·exact hK _ _ _ (fG hX hl _ _) (fH _ _) h
    ·exact hK _ _ _ hl (.refl _) h
   ·exact h.elim
  ·exact h.elim
 case makeMap T r=>
  cases r with
  |some _=>exact h.elim
  |none=>
   simp only at h⊢
   unfold OG at h⊢
   split at h
   ·split at h
    ·exact hK _ _ _ (fG hX hl _ _) (fH _ _) h
    ·exact hK _ _ _ hl (.refl _) h
   ·exact h.elim
 case mapUpdate T m x y=>
  rw[ev m (by simp),ev x (by simp),ev y (by simp)]at h
  unfold R3 at h⊢
  split at h
  ·rename_i kt0 vt0 j _ _
   refine ZG hX hl h λds' τ τ1 q1 q2 q3=> ?_
   rw[Y6 q1]at q3
   split at q3
   ·rename_i kt vt es _
    cases hb:decide (kt=kt0)&&decide (vt=vt0)with
    |false=>rw[hb]at q3;exact q3.elim
    |true=>
     rw[hb,AI]at q3
     rw[AI];split at q3
     ·exact⟨q3.1,hK _ _ _ (UG hX q1 _ _) (q2.trans (UH _ _)) q3.2⟩
     ·exact q3.elim
   ·exact q3.elim
  ·exact h.elim
 case call c=>
  have hargs:∀(a b:St),sU a (b.px X)->∀x∈c.args.toList,a.ev x=b.ev x:=λa b hab x hx=>ev0 a b hab x (by simp[Call.operands];exact .inr (by simpa using hx))
  split at h
  ·rename_i hc;simp only[nF,ho,hc,Aci]at hq
  ·split at h
   ·rename_i hc x y T T' ha ht
    rw[hargs σ1 σ hl x (by rw[ha];simp)]at h
    have hy:=λa b hab=>hargs a b hab y (by rw[ha];simp)
    unfold Da at h⊢
    split at h
    ·rename_i e t' _
     cases hT:Nat.beq T T' with
     |false=>
      rw[hT,Vs]at h
      rw[Vs];unfold zne at h⊢
      split at h
      ·rw[hy σ1 σ hl]at h
       split at h
       ·rename_i k _ _ _ _
        rw[ob]at h
        split at h
        ·rename_i e' xs _
         cases hb:Nat.beq e e'&& !stabK k with
         |false=>rw[hb]at h;exact h.elim
         |true=>
          rw[hb,AI]at h
          simp only[AI];exact⟨h.1,hK _ _ _ (fG hX hl _ _) (fH _ _) h.2⟩
        ·exact h.elim
       ·exact h.elim
      ·exact h.elim
     |true=>
      rw[hT,AI]at h
      rw[AI];split at h
      ·rename_i k _
       rw[ob k]at h
       split at h
       ·rename_i e' t xs _
        cases hb:Nat.beq e e'&&Nat.beq t'.size t.size&&Nat.beq t'.bytes t.bytes&& !stabK k with
        |false=>rw[hb]at h;exact h.elim
        |true=>
         rw[hb,AI]at h
         rw[AI];rw[hy σ1 σ hl,DO ob]at h
         split at h
         ·exact⟨h.1,hK _ _ _ (fG hX hl _ _) (fH _ _) h.2⟩
         ·exact h.elim
       ·exact h.elim
      ·rename_i k _
       rw[ob k]at h
       split at h
       ·rename_i e' t xs _
        cases hb:Nat.beq e e'&&Nat.beq t'.size t.size&&Nat.beq t'.bytes t.bytes&& !stabK k with
        |false=>rw[hb]at h;exact h.elim
        |true=>
         rw[hb,AI]at h
         rw[AI];rw[hy σ1 σ hl,DO ob]at h
         split at h
         ·rename_i ys _
          cases hz:Nat.blt 0 ys.length with
          |false=>rw[hz]at h;exact h.elim
          |true=>
           rw[hz,AI]at h
           rw[AI];exact⟨h.1,hK _ _ _ (fG hX hl _ _) (fH _ _) h.2⟩
         ·exact h.elim
       ·exact h.elim
      ·split at h
       ·rename_i k _
        have hl2:=fG hX hl k (.row e t' []);rw[hy _ _ hl2,DO (Y6 hl2)]at h
        split at h
        ·exact⟨h.1,hK _ _ _ (fG hX hl2 _ _) ((fH _ _).trans (fH _ _)) h.2⟩
        ·exact h.elim
       ·exact h.elim
      ·exact h.elim
    ·exact h.elim
   ·exact h.elim
  ·rename_i hc;simp only[nF,ho,hc,Aci]at hq
  ·rename_i f hc
   rw[ev f (by simp[Call.operands,hc])]at h
   cases f with
   |func g=>
    simp only[nF,ho,hc]at hq
    cases hg:yG g E.hsig with
    |none=>rw[hg]at hq;cases hq
    |some hs=>
     unfold zdd at h⊢
     have e1:∀τ:St,τ.ev (.func g)=.clo g none []:=λ_=>rfl
     rw[e1]at h⊢
     simp only[zfo,hg]at h⊢
     rw[zmc (σ':=σ1) (σ:=σ) _ _ (hargs σ1 σ hl)]at h
     exact zfA hX hl h hK
   |_=>simp only[nF,ho,hc,Aci]at hq
  ·exact h.elim
 all_goals first|exact h.elim|(simp only[nF,ho,Aci]at hq)
end
section
variable {P:AcJ}{E:TE}{A:wG}{b0:Tx}{w w':World}{S S':Nat->Prop}{pl pl':Nat->Value}{N:Nat}{σ σ':St}{a:Act}{v:Value}{d:D}{o:Oper}
theorem V0{all:List Oper}{yes no:St->Prop}(h:Y5 all o σ yes no)(σ2:St)(hl:sU σ σ2)(m:Mt P b0 N σ2 a w):
  (Region.wanted o (yielded all.toArray a.tmps)=true/\∃σ',sU σ2 σ'/\yes σ')\/(Region.wanted o (yielded all.toArray a.tmps)=false/\∃σ',sU σ2 σ'/\no σ'):=by
 unfold Y5 at h
 split at h
 ·rename_i hg
  exact .inl ⟨by unfold Region.wanted;rw[hg],σ,hl.symm,h⟩
 ·rename_i j want hg
  split at h
  ·rename_i s hs
   split at h
   ·rename_i b hb
    obtain⟨S,pl,m⟩:=m
    have hv:a.tmps.getD s undef=.bool b:=by
     have:=m.fr s;rw[hl.get,hb]at this
     exact(this.flat (d:=.bool b) rfl).bool_inv
    have hy:yielded all.toArray a.tmps j=some b:=by
     unfold yielded;unfold zan at hs
     split at hs
     ·rename_i o' ho'
      have hlt:s<a.tmps.size:=by
       rcases Aa8 s a.tmps.size with h|h
       ·exact h
       ·rw[Aae,Acb h]at hv;cases hv
      rw[Aae,AaR hlt]at hv
      simp only[Acj,ho',AbH,hs,AaR hlt];have hv:a.tmps[s]=.bool b:=hv;rw[hv]
     ·cases hs
    have hw:Region.wanted o (yielded all.toArray a.tmps)=(b==want):=by
     unfold Region.wanted;rw[hg];simp only[hy];cases b<;>cases want<;>rfl
    rw[hw];have hp:sU σ2 (σ.put s (.bool b)):=hl.symm.trans (JE hb);cases b<;>cases want
    ·exact .inl ⟨rfl,_,hp,h⟩
    ·exact .inr ⟨rfl,_,hp,h⟩
    ·exact .inr ⟨rfl,_,hp,h⟩
    ·exact .inl ⟨rfl,_,hp,h⟩
   ·rename_i hb
    obtain⟨S,pl,m⟩:=m
    have hv:a.tmps.getD s undef=.tuple #[]:=by
     have:=m.fr s;rw[hl.get,hb]at this
     obtain⟨vs,hv,hl2,_⟩:=(this.flat (d:=.tup []) rfl).tup_inv;obtain rfl:vs= #[]:=AcA (by simpa using hl2)
     exact hv
    refine .inr ⟨?_,σ,hl.symm,h⟩
    have hy:yielded all.toArray a.tmps j=none:=by
     unfold yielded;unfold zan at hs
     split at hs
     ·rename_i o' ho'
      simp only[Acj,ho',AbH,hs];rw[Aae]at hv
      cases hg':a.tmps[s]? with
      |none=>rfl
      |some u=>rw[hg']at hv;have hv:u=.tuple #[]:=hv;rw[hv]
     ·cases hs
    unfold Region.wanted;rw[hg];simp only[hy];rfl
   ·exact h.elim
  ·exact h.elim
theorem Dd:Rd w S pl undef (.tup []):=Rp.rd (.tup #[] [] rfl λi d h=>by simp at h)
theorem UJ{n:Nat}:∀ {l:List Oper},ON n l=true->∀o∈l,∀i,o.dst=some i->i<n
 |[],_,o,ho,_,_=>by cases ho
 |x::l,h,o,ho,i,hi=>by
  simp only[ON,If]at h
  rcases OF.1 ho with rfl|ho
  ·have:=h.1
   rw[hi]at this
   exact Nat.lt_of_succ_le (Aat this)
  ·exact UJ h.2 o ho i hi
theorem zfC(F:sR P E){all:List Oper}{K:Ex->St->Prop}{Q:Exit->Act->World->Prop}(hQ:∀σ a w,K .normal σ->Mt P b0 A.n σ a w->Q .normal a w)(hT:∀e a w,znY b0 K e a w->Q e a w):
  ∀(l:List Oper) (σ:St) (a:Act) (w:World),ON A.n l=true->zl8 P E A all l σ K->Mt P b0 A.n σ a w->wpList P all.toArray Q l a w
 |[],σ,a,w,_,h,m=>hQ σ a w h m
 |o::r,σ,a,w,hd,h,m=>by
  simp only[ON,If]at hd
  have hdst:∀i,o.dst=some i->i<A.n:=λi hi=>UJ (l:=[o]) (by simp[ON,hd.1]) o (by simp) i hi
  unfold wpList;rcases V0 (a:=a) (w:=w) h σ (.refl σ) m with⟨hw,σ',hl,hy⟩|⟨hw,σ',hl,hn⟩
  ·rw[As hw]
   left;obtain⟨S,pl,m'⟩:=m.like hl;exact zj7 F m' hy (λd σ'' v w' S' pl' hk hm hv=>zfC F hQ hT r _ _ _ hd.2 hk ⟨S',pl',hm.putO hdst hv⟩) λu w' ht hb=>hT _ _ _ ⟨u,_,rfl,ht,m'.dz,hb⟩
  ·rw[An (by rw[hw];simp)]
   obtain⟨S,pl,m'⟩:=m.like hl;exact zfC F hQ hT r _ _ _ hd.2 hn ⟨S,pl,m'.putO hdst Dd⟩
def cV(P:AcJ)(E:TE)(A:wG)(all:List Oper)(o:Oper)(d:D)(σ:St):Prop:=
 (nE all o σ=some true/\∀K':D->St->Prop,K' d σ->opD P E.q A.quiet o σ K')\/(nE all o σ=some false/\d=.tup [])
def LM(K:St->Prop):Prop:=∀σ σ',sU σ σ'->K σ->K σ'
theorem JG{all:List Oper}(h:sU σ σ'):nE all o σ'=nE all o σ:=by
 unfold nE;split
 ·rfl
 ·split
  ·rw[h.get]
  ·rfl
theorem Wd(h:sU σ σ'):zmb o σ σ':=⟨λx _=>h.ev x,λ_ _ k _=>h.ob k⟩
theorem cV.same{all:List Oper}(hq:nF E A o=true)(h:cV P E A all o d σ)(he:zmb o σ σ')(hw:nE all o σ'=nE all o σ):cV P E A all o d σ':=by
 rcases h with⟨h1,h2⟩|⟨h1,h2⟩
 ·left
  refine⟨hw.trans h1,λK' hk=> ?_⟩
  obtain⟨d',e,h'⟩:=bO (K:=λd'=>d'=d) hq he (h2 (λd' _=>d'=d) rfl)
  subst e;exact h' K' hk
 ·exact .inr ⟨hw.trans h1,h2⟩
theorem cV.like{all:List Oper}(hq:nF E A o=true)(h:cV P E A all o d σ)(hl:sU σ σ'):cV P E A all o d σ':=h.same hq (Wd hl) (JG hl)
theorem zas(σ:St){x y:Option Nat}(d e:D)(h:∀i,x=some i->y≠some i):sU ((σ.putO x d).putO y e) ((σ.putO y e).putO x d):=by
 cases x with
 |none=>exact .refl _
 |some i=>
  cases y with
  |none=>exact .refl _
  |some j=>
   have hne:i≠j:=λe=>h i rfl (by rw[e])
   refine⟨λk=> ?_,λ_=>rfl⟩
   simp only[St.putO,St.get_put];split<;>split<;>first|rfl|omega
theorem DP{all:List Oper}{x:Option Nat}{d:D}(h:∀i,x=some i->i∉o.looksAt all.toArray)(hob:True):zmb o σ (σ.putO x d)/\nE all o (σ.putO x d)=nE all o σ:=by
 cases x with
 |none=>exact⟨⟨λ_ _=>rfl,λ_ _ _ _=>rfl⟩,rfl⟩
 |some i=>
  have hi:=h i rfl;refine⟨⟨λx hx=> ?_,λ_ _ _ _=>rfl⟩,?_⟩
  ·cases x with
   |tmp t=>
    show(σ.put i d).get t=σ.get t
    rw[St.get_put,An];intro e;subst e;exact hi (AaB _ (Ack.2 ⟨.tmp i,by simpa using hx,rfl⟩))
   |_=>rfl
  ·unfold nE
   split
   ·rfl
   ·rename_i j want hg
    split
    ·rename_i s hs
     rw[show(σ.putO (some i) d).get s=σ.get s from ?_]
     show(σ.put i d).get s=σ.get s
     rw[St.get_put,An];intro e;subst e;refine hi ?_;unfold zan at hs
     split at hs
     ·rename_i o' ho'
      simp[Oper.looksAt,hg,ho',hs]
     ·cases hs
    ·rfl
theorem zfD{all:List Oper}{yes no:St->Prop}(h:Y5 all o σ yes no):(nE all o σ=some true/\∃σ',sU σ σ'/\yes σ')\/(nE all o σ=some false/\∃σ',sU σ σ'/\no σ'):=by
 unfold Y5 at h
 unfold nE;split at h
 ·rename_i e;exact .inl ⟨rfl,σ,.refl _,h⟩
 ·rename_i j want e
  split at h
  ·rename_i s e2
   split at h
   ·rename_i b e3
    have hp:=JE e3;cases b<;>cases want
    ·exact .inl ⟨rfl,_,hp,h⟩
    ·exact .inr ⟨rfl,_,hp,h⟩
    ·exact .inr ⟨rfl,_,hp,h⟩
    ·exact .inl ⟨rfl,_,hp,h⟩
   ·exact .inr ⟨rfl,σ,.refl _,h⟩
   ·exact h.elim
  ·exact h.elim
end
section
variable {P:AcJ}{E:TE}{A:wG}{b0:Tx}{w w':World}{S S':Nat->Prop}{pl pl':Nat->Value}{N:Nat}{σ σ':St}{a:Act}{v:Value}{d:D}{o:Oper}
def JH(P:AcJ)(E:TE)(A:wG)(all:List Oper)(K:St->Prop):Nat->Array Bool->St->Prop
 |0,listed,σ=>Region.ready .any all.toArray listed=[]/\K σ
 |fuel+1,listed,σ=>(Region.ready .any all.toArray listed=[]->K σ)/\∀i∈Region.ready .any all.toArray listed,atD all i λo=>zdj P E A all o σ (JH P E A all K fuel (listed.setIfInBounds i true))
theorem sR.q(F:sR P E):sR P E.q where
 zs:=F.zs
 sl:=F.sl
 fld:=F.fld
 strs:=F.strs
 ints:=F.ints
 bools:=F.bools
 sig:=F.sig
 hsig:=λf hs h=>by cases h
 arr:=F.arr
 mps:=F.mps
 sts:=F.sts
 mixed:=F.mixed
 byt:=F.byt
theorem JI(F:sR P E){all:List Oper}{K:St->Prop}{Q:Exit->Act->World->Prop}(hd:ON A.n all=true)(hQ:∀σ a w,K σ->Mt P b0 A.n σ a w->Q .normal a w):
  ∀(fuel:Nat) (listed:Array Bool) (σ:St) (a:Act) (w:World),JH P E A all K fuel listed σ->Mt P b0 A.n σ a w->wpAny P .any all.toArray Q fuel listed a w
 |0,_,σ,a,w,h,m=>⟨h.1,hQ _ _ _ h.2 m⟩
 |fuel+1,listed,σ,a,w,h,m=>⟨λh0=>hQ _ _ _ (h.1 h0) m,λi hi=>by
  have h1:=h.2 i hi;unfold atD at h1
  unfold wpOp;simp only[Acj];cases ho:all[i]? with
  |none=>rw[ho]at h1;exact h1.elim
  |some o=>
   rw[ho]at h1
   simp only at h1⊢
   have hdst:∀i,o.dst=some i->i<A.n:=UJ hd o (AaQ ho);unfold zdj at h1
   split at h1
   ·rename_i hqt
    unfold zil at h1
    rcases V0 h1 σ (.refl σ) m with⟨hw,σ',hl,hy⟩|⟨hw,σ',hl,hn⟩
    ·rw[As hw]
     left;obtain⟨S,pl,m'⟩:=m.like hl;obtain⟨d,q1,q2⟩:=bO hqt (Wd (.refl σ')) hy;refine zj6 F.q m' (q2 (λd' τ=>d'=d/\τ=σ') ⟨rfl,rfl⟩) λd' τ v w' S' pl' hk hm hv=> ?_
     obtain⟨e1,e2⟩:=hk;subst e1 e2;exact JI F hd hQ fuel _ _ _ _ q1 ⟨S',pl',hm.putO hdst hv⟩
    ·rw[An (by rw[hw];simp)]
     obtain⟨S,pl,m'⟩:=m.like hl;exact JI F hd hQ fuel _ _ _ _ hn ⟨S,pl,m'.putO hdst Dd⟩
   ·unfold zl9 at h1
    rcases V0 h1 σ (.refl σ) m with⟨hw,σ',hl,hy⟩|⟨hw,σ',hl,hn⟩
    ·rw[As hw]
     left;obtain⟨S,pl,m'⟩:=m.like hl;refine zj6 F m' hy λd' τ v w' S' pl' hk hm hv=> ?_
     exact JI F hd hQ fuel _ _ _ _ hk ⟨S',pl',hm.putO hdst hv⟩
    ·rw[An (by rw[hw];simp)]
     obtain⟨S,pl,m'⟩:=m.like hl;exact JI F hd hQ fuel _ _ _ _ hn ⟨S,pl,m'.putO hdst Dd⟩⟩
theorem JJ{all:List Oper}{yes no:St->Prop}{b:Bool}(h:nE all o σ=some b)(hy:b=true->∀σ',sU σ σ'->yes σ')(hn:b=false->∀σ',sU σ σ'->no σ'):Y5 all o σ yes no:=by
 unfold nE at h
 unfold Y5;split at h
 ·injection h with h;exact hy h.symm σ (.refl σ)
 ·rename_i j want e
  split at h
  ·rename_i s e2
   split at h
   ·rename_i c e3
    injection h with h
    have hp:=JE e3;cases c<;>cases want<;>subst h
    ·exact hy rfl _ hp
    ·exact hn rfl _ hp
    ·exact hn rfl _ hp
    ·exact hy rfl _ hp
   ·injection h with h;exact hn h.symm σ (.refl σ)
   ·cases h
  ·cases h
theorem Hp{all:List Oper}(hq:nF E A o=true){K:St->Prop}(hK:LM K)(h:zil P E A all o σ K):∃d,cV P E A all o d σ/\K (σ.putO o.dst d):=by
 rcases zfD h with⟨hw,σ',hl,hy⟩|⟨hw,σ',hl,hn⟩
 ·obtain⟨d,q1,q2⟩:=bO hq (Wd hl.symm) hy
  exact⟨d,.inl ⟨hw,q2⟩,hK _ _ (hl.symm.putO _ _) q1⟩
 ·exact⟨.tup [],.inr ⟨hw,rfl⟩,hK _ _ (hl.symm.putO _ _) hn⟩
theorem zb0{all:List Oper}(hq:nF E A o=true){K:St->Prop}(hK:LM K)(hy:cV P E A all o d σ)(h:K (σ.putO o.dst d)):zil P E A all o σ K:=by
 rcases hy with⟨hw,hy⟩|⟨hw,rfl⟩
 ·refine JJ hw (λ_ σ' hl=> ?_) λe=>by cases e
  obtain⟨d',e,q⟩:=bO (K:=λd'=>d'=d) hq (Wd hl) (hy (λd' _=>d'=d) rfl)
  subst e;exact q _ (hK _ _ (hl.putO _ _) h)
 ·exact JJ hw (λe=>by cases e) λ_ σ' hl=>hK _ _ (hl.putO _ _) h
theorem znp{X:Option (Nat×D)}{i:Option Nat}{e:D}{τ τ1:St}(h:sU τ1 (τ.px X))(hne:∀s d,X=some (s,d)->i≠some s):sU (τ1.putO i e) ((τ.putO i e).px X):=by
 cases X with
 |none=>exact h.putO i e
 |some x=>
  obtain⟨s,d⟩:=x;have h1:=h.putO i e;refine h1.trans ?_;exact zas τ (x:=some s) (y:=i) d e λj hj=>by injection hj with hj;subst hj;exact hne s d rfl
theorem MC{all:List Oper}{X:Option (Nat×D)}(hX:XOk X){σ1:St}(hl:sU σ1 (σ.px X))(hx:∀s d,X=some (s,d)->s∉o.looksAt all.toArray)(hd:∀s d,X=some (s,d)->o.dst≠some s)(hq:nF E A o=false){K K':St->Prop}
  (h:zl9 P E A all o σ1 K) (hK:∀τ τ1,sU τ1 (τ.px X)->(∀t,(σ.get t).ref=none->o.dst≠some t->τ.get t=σ.get t)->K τ1->K' τ):zl9 P E A all o σ K':=by
 have hw:nE all o σ1=nE all o σ:=by
  rw[<-JG hl];cases X with
  |none=>rfl
  |some x=>
   obtain⟨s,d⟩:=x;exact(DP (x:=some s) (λi hi=>by injection hi with hi;subst hi;exact hx _ _ rfl) trivial).2
 have hop:∀s d,X=some (s,d)->Operand.tmp s∉o.op.operands:=λs d e hm=>hx s d e (AaB _ (Ack.2 ⟨.tmp s,by simpa using hm,rfl⟩))
 have fin:∀(e:D) (τ τ1:St),sU τ1 (τ.px X)->Keep σ τ->K (τ1.putO o.dst e)->K' (τ.putO o.dst e):=λe τ τ1 q1 q2 q3=>hK _ _ (znp q1 hd) (λt ht hne=>by
  rw[<-q2 t ht];cases hdst:o.dst with
  |none=>rfl
  |some j=>
   show(τ.put j e).get t=_
   rw[St.get_put,An];intro ej;subst ej;exact hne hdst) q3
 have liken:∀σ1' σ',sU σ1 σ1'->sU σ σ'->sU σ1' (σ'.px X):=λσ1' σ' h1 h2=>by
  have h3:=h1.symm.trans hl;refine h3.trans ?_;cases X with
  |none=>exact h2
  |some x=>exact h2.put _ _
 rcases zfD h with⟨hw1,σ1',hl1,hy⟩|⟨hw1,σ1',hl1,hn⟩
 ·refine JJ (hw.symm.trans hw1) (λ_ σ' hl'=> ?_) λe=>by cases e
  exact zin hX (liken _ _ hl1 hl') hop hq hy λe τ τ1 q1 q2 q3=>fin e τ τ1 q1 (λt ht=>by rw[<-hl'.get t];exact q2 t (by rw[hl'.get t];exact ht)) q3
 ·refine JJ (hw.symm.trans hw1) (λe=>by cases e) λ_ σ' hl'=> ?_
  exact fin _ σ' σ1' (liken _ _ hl1 hl') (λt _=>hl'.get t) hn
theorem Ut{all:List Oper}{K:St->Prop}(hK:LM K):∀(fuel:Nat) (listed:Array Bool),LM (JH P E A all K fuel listed)
 |0,_,σ,σ',hl,h=>⟨h.1,hK _ _ hl h.2⟩
 |fuel+1,listed,σ,σ',hl,h=>⟨λh0=>hK _ _ hl (h.1 h0),λi hi=>by
  have h1:=h.2 i hi;have ih:LM (JH P E A all K fuel (listed.setIfInBounds i true)):=Ut hK fuel _;unfold atD at h1⊢
  cases ho:all[i]? with
  |none=>rw[ho]at h1;exact h1.elim
  |some o=>
   rw[ho]at h1
   simp only at h1⊢
   unfold zdj at h1⊢
   split at h1
   ·rename_i hq
    obtain⟨d,q1,q2⟩:=Hp hq ih h1;exact zb0 hq ih (q1.like hq hl) (ih _ _ (hl.putO _ _) q2)
   ·rename_i hq
    exact MC (X:=none) (λs d e=>by cases e) (σ:=σ') hl.symm.symm (λs d e=>by cases e) (λs d e=>by cases e) hq h1 λτ τ1 q1 _ q3=>ih _ _ q1 q3⟩
theorem Fh{all:List Oper}{oi oj:Oper}{τ:St}(hy:cV P E A all oi d σ)(h:∀t,(σ.get t).ref=none->oj.dst≠some t->τ.get t=σ.get t)(ha:∀i,oj.dst=some i->i∉oi.looksAt all.toArray):nE all oi τ=nE all oi σ:=by
 have hw:∃b,nE all oi σ=some b:=by rcases hy with⟨h,_⟩|⟨h,_⟩<;>exact⟨_,h⟩
 obtain⟨b,hw⟩:=hw;unfold nE at hw⊢
 split
 ·rfl
 ·rename_i j want e
  rw[e]at hw
  simp only at hw
  split
  ·rename_i s hs
   rw[hs]at hw
   simp only at hw
   have hr:(σ.get s).ref=none:=by
    cases hg:σ.get s<;>rw[hg]at hw<;>first|rfl|(simp at hw)
   rw[h s hr λe'=>ha s e' (by
    unfold zan at hs
    split at hs
    ·rename_i o' ho'
     simp[Oper.looksAt,e,ho',hs]
    ·cases hs)]
  ·rfl
theorem DQ{all:List Oper}{K:St->Prop}(hK:LM K){i:Nat}{oi:Oper}{d:D}(hi:all[i]? =some oi)(hqi:nF E A oi=true):
  ∀(fuel:Nat) (listed:Array Bool) (σ:St),
   (∀j oj,all[j]? =some oj->j≠i->listed.getD j true=false->(∀e∈oj.after,Region.binds .any e=true->e.on≠i)->oi.apart all.toArray oj=true/\(nF E A oj=true\/((∀x∈oi.op.operands,(σ.ev x).ref=none)/\d.ref=none)))->
   i∈Region.ready .any all.toArray listed->cV P E A all oi d σ->
   JH P E A all K fuel (listed.setIfInBounds i true) (σ.putO oi.dst d)->JH P E A all K (fuel+1) listed σ:=by
 intro fuel
 have self:∀(K:St->Prop) (σ:St),LM K->cV P E A all oi d σ->K (σ.putO oi.dst d)->atD all i λo=>zdj P E A all o σ K:=λK σ hK hy h=>by
  unfold atD;rw[hi];simp only;unfold zdj;rw[hqi];exact zb0 hqi hK hy h
 induction fuel with
 |zero=>
  intro listed σ _ hr hy H;refine⟨λh=>(by rw[h]at hr;cases hr),λj hj=> ?_⟩
  by_cases hji:j=i
  ·subst hji;exact self _ _ (Ut hK 0 _) hy H
  ·have:=ready_mono hj hji
   rw[H.1]at this
   cases this
 |succ fuel ih=>
  intro listed σ hfree hr hy H;refine⟨λh=>(by rw[h]at hr;cases hr),λj hj=> ?_⟩
  by_cases hji:j=i
  ·subst hji;exact self _ _ (Ut hK _ _) hy H
  ·have h1:=H.2 j (ready_mono hj hji)
   obtain⟨hjun,oj,hoj,hall⟩:=mem_ready.1 hj;have hoj':all[j]? =some oj:=by simpa using hoj
   have hnot:∀e∈oj.after,Region.binds .any e=true->e.on≠i:=λe he hb heq=>by
    have h1:=hall e he hb;have h0:=(mem_ready.1 hr).1;rw[heq]at h1
    rcases Aa8 i listed.size with h'|h'
    ·simp[h']at h0 h1;rw[h0]at h1;cases h1
    ·simp[Acb h']at h1
   obtain⟨hap,hkind⟩:=hfree j oj hoj' hji hjun hnot;obtain⟨a1,a2,a3⟩:=Oper.apart_spec hap;have hcomm:(listed.setIfInBounds i true).setIfInBounds j true=(listed.setIfInBounds j true).setIfInBounds i true:=Array.setIfInBounds_comm _ _ (Ne.symm hji)
   have hstep:∀σ',cV P E A all oi d σ'->((∀x∈oi.op.operands,(σ.ev x).ref=none)->∀x∈oi.op.operands,σ'.ev x=σ.ev x)->
     JH P E A all K fuel ((listed.setIfInBounds j true).setIfInBounds i true) (σ'.putO oi.dst d)->JH P E A all K (fuel+1) (listed.setIfInBounds j true) σ':=λσ' hy' hpure h3=>by
    refine ih (listed.setIfInBounds j true) σ' (λk ok hk hki hun hno=> ?_) (ready_mono hr (Ne.symm hji)) hy' h3
    have:=hfree k ok hk hki (by
     by_cases hjk:j=k
     ·subst hjk;exact hjun
     ·rw[getD_set_ne true hjk]at hun;exact hun) hno
    exact⟨this.1,this.2.imp id λh=>⟨λx hx=>by rw[hpure h.1 x hx];exact h.1 x hx,h.2⟩⟩
   unfold atD at h1⊢
   rw[hoj']at h1⊢
   simp only at h1⊢
   rw[hcomm]at h1
   have hLk:=Ut hK fuel ((listed.setIfInBounds j true).setIfInBounds i true) (P:=P) (E:=E) (A:=A) (all:=all);have hLk':=Ut hK (fuel+1) (listed.setIfInBounds j true) (P:=P) (E:=E) (A:=A) (all:=all);unfold zdj at h1⊢
   split at h1
   ·rename_i hqj
    obtain⟨e,q1,q2⟩:=Hp hqj hLk h1;have hp:=DP (σ:=σ) (d:=d) a1 trivial (o:=oj);have q1':cV P E A all oj e σ:=q1.same hqj ⟨λx hx=>(hp.1.1 x hx).symm,λx _ k _=>by cases oi.dst<;>rfl⟩ hp.2.symm
    refine zb0 hqj hLk' q1' ?_;have hp':=DP (σ:=σ) (d:=e) a3 trivial (o:=oi);refine hstep _ (hy.same hqi hp'.1 hp'.2) (λ_ x hx=>hp'.1.1 x hx) ?_
    exact hLk _ _ (zas σ d e a2) q2
   ·rename_i hqj
    rcases hkind with hkind|⟨hpure,hdr⟩
    ·rw[hkind]at hqj;cases hqj
    ·cases hdst:oi.dst with
     |none=>
      rw[hdst]at h1
      refine MC (X:=none) (λs d e=>by cases e) (σ:=σ) (σ1:=σ.putO none d) (.refl _) (λs d e=>by cases e) (λs d e=>by cases e) hqj h1 λτ τ1 p1 p2 p3=> ?_
      have hev:∀x∈oi.op.operands,τ.ev x=σ.ev x:=λx hx=>by
       cases x with
       |tmp t=>exact p2 t (hpure _ hx) λe=>a3 t e (AaB _ (Ack.2 ⟨.tmp t,by simpa using hx,rfl⟩))
       |_=>rfl
      refine hstep τ (hy.same hqi ⟨hev,λx hx k hk=>by rw[hpure x hx]at hk;cases hk⟩ ?_) (λ_=>hev) ?_
      ·exact Fh hy p2 a3
      ·rw[hdst];exact hLk _ _ p1 p3
     |some s=>
      rw[hdst]at h1
      refine MC (X:=some (s,d)) (λs' d' e=>by injection e with e;injection e with e1 e2;subst e2;exact hdr) (σ:=σ) (σ1:=σ.put s d) (.refl _) (λs' d' e=>by injection e with e;injection e with e1 e2;subst e1;exact a1 s hdst)
       (λs' d' e=>by injection e with e;injection e with e1 e2;subst e1;exact a2 s hdst) hqj h1 λτ τ1 p1 p2 p3=> ?_
      have hev:∀x∈oi.op.operands,τ.ev x=σ.ev x:=λx hx=>by
       cases x with
       |tmp t=>exact p2 t (hpure _ hx) λe=>a3 t e (AaB _ (Ack.2 ⟨.tmp t,by simpa using hx,rfl⟩))
       |_=>rfl
      refine hstep τ (hy.same hqi ⟨hev,λx hx k hk=>by rw[hpure x hx]at hk;cases hk⟩ ?_) (λ_=>hev) ?_
      ·exact Fh hy p2 a3
      ·rw[hdst];exact hLk _ _ p1 p3
theorem R8{f:Nat->Bool}:∀ {l:AcU} {i:Nat},zao f l=some i->i∈l/\f i=true
 |[],i,h=>by cases h
 |j::r,i,h=>by
  unfold zao at h
  cases hf:f j with
  |true=>rw[hf,AI]at h;injection h with h;subst h;exact⟨Ks,hf⟩
  |false=>rw[hf,Vs]at h;have:=R8 h;exact⟨On _ this.1,this.2⟩
theorem Hq{f:Nat->Prop}:∀ {l:AcU},zma f l->∀i∈l,f i
 |[],_,i,hi=>by cases hi
 |[j],h,i,hi=>by rcases OF.1 hi with rfl|hi;exact h;cases hi
 |j::k::r,h,i,hi=>by
  rcases OF.1 hi with rfl|hi
  ·exact h.1
  ·exact Hq h.2 i hi
theorem Y7{all:List Oper}{listed:Array Bool}{i:Nat}{oi:Oper}{f:Oper->Bool}:∀ {l:List Oper} {k:Nat},Us all listed i oi f k l=true->
  ∀j oj,l[j]? =some oj->k+j≠i->listed.getD (k+j) true=false->(∀e∈oj.after,Region.binds .any e=true->e.on≠i)->oi.apart all.toArray oj=true/\f oj=true
 |[],k,h,j,oj,hj,_,_,_=>by simp at hj
 |o::r,k,h,j,oj,hj,h1,h2,h3=>by
  simp only[Us,If,AaJ]at h
  cases j with
  |zero=>
   simp at hj;subst hj
   rcases h.1 with((h0|h0)|h0)|h0
   ·exact At (xG.1 h0) h1
   ·rw[Nat.add_zero]at h2;rw[h2]at h0;cases h0
   ·exfalso
    obtain⟨e,he,hb⟩:=Aay.1 h0;simp only[If]at hb
    exact h3 e (by simpa using he) hb.1 (xG.1 hb.2)
   ·exact h0
  |succ j=>
   exact Y7 h.2 j oj (by simpa using hj) (by omega) (by rw[show k+1+j=k+(j+1) by omega];exact h2) h3
theorem Fi{all:List Oper}{yes no yes' no':St->Prop}(h:Y5 all o σ yes no)(hy:∀σ,yes σ->yes' σ)(hn:∀σ,no σ->no' σ):Y5 all o σ yes' no':=by
 unfold Y5 at h⊢
 split at h
 ·exact hy _ h
 ·rename_i j want _
  split at h
  ·split at h
   ·rename_i b _
    cases b<;>cases want
    ·exact hy _ h
    ·exact hn _ h
    ·exact hn _ h
    ·exact hy _ h
   ·exact hn _ h
   ·exact h.elim
  ·exact h.elim
theorem zkh{all:List Oper}{K K':St->Prop}(hKK:∀σ,K σ->K' σ)(hK:LM K'):∀(fuel:Nat) (listed:Array Bool) (σ:St),DH P E A all K fuel listed σ->JH P E A all K' fuel listed σ
 |0,listed,σ,h=>by
  unfold DH at h
  unfold JH;split at h
  ·rename_i hr;exact⟨hr,hKK _ h⟩
  ·exact h.elim
 |fuel+1,listed,σ,h=>by
  have ih:∀l σ,DH P E A all K fuel l σ->JH P E A all K' fuel l σ:=λl σ=>zkh hKK hK fuel l σ
  have ihK:∀l,LM (JH P E A all K' fuel l):=λl=>Ut hK fuel l
  unfold DH at h
  split at h
  ·rename_i hr
   exact⟨λ_=>hKK _ h,λi hi=>by rw[hr]at hi;cases hi⟩
  ·rename_i hnil
   split at h
   ·rename_i i hf
    obtain⟨him,hc⟩:=R8 hf;unfold atD at h
    unfold zj8 at hc
    cases ho:all[i]? with
    |none=>rw[ho]at h;exact h.elim
    |some oi=>
     rw[ho]at h hc
     simp only[If]at h hc
     obtain⟨hq,hg⟩:=hc
     have h':zil P E A all oi σ (JH P E A all K' fuel (listed.setIfInBounds i true)):=Fi h (λσ h=>by
      obtain⟨d,q1,q2⟩:=bO hq (Wd (.refl σ)) h;exact q2 _ (ih _ _ q1)) λσ h=>ih _ _ h
     obtain⟨d,q1,q2⟩:=Hp hq (ihK _) h';refine DQ hK ho hq fuel listed σ (λj oj hj hne hun hno=> ?_) him q1 q2
     have:=Y7 hg j oj hj (by omega) (by rw[Aas];exact hun) hno
     exact⟨this.1,.inl this.2⟩
   ·split at h
    ·rename_i i hf
     obtain⟨him,hc⟩:=R8 hf;unfold atD at h
     unfold zj9 at hc
     cases ho:all[i]? with
     |none=>rw[ho]at h;exact h.elim
     |some oi=>
      rw[ho]at h hc
      simp only[If]at h hc
      obtain⟨⟨hq,hp⟩,hg⟩:=hc;have hpure:∀x∈oi.op.operands,(σ.ev x).ref=none:=λx hx=>jT.1 (Aao.1 hp x (by simpa using hx))
      have h':∃d,cV P E A all oi d σ/\d.ref=none/\JH P E A all K' fuel (listed.setIfInBounds i true) (σ.putO oi.dst d):=by
       rcases zfD h with⟨hw,σ',hl,hy⟩|⟨hw,σ',hl,hn⟩
       ·obtain⟨d,q1,q2⟩:=bO (σ':=σ) hq (Wd hl.symm) hy
        cases hd:ZE d with
        |false=>rw[hd]at q1;exact q1.elim
        |true=>
         rw[hd,AI]at q1
         exact⟨d,.inl ⟨hw,q2⟩,jT.1 hd,ihK _ _ _ (hl.symm.putO _ _) (ih _ _ q1)⟩
       ·exact⟨.tup [],.inr ⟨hw,rfl⟩,rfl,ihK _ _ _ (hl.symm.putO _ _) (ih _ _ hn)⟩
      obtain⟨d,q1,q2,q3⟩:=h';refine DQ hK ho hq fuel listed σ (λj oj hj hne hun hno=> ?_) him q1 q3
      have:=Y7 hg j oj hj (by omega) (by rw[Aas];exact hun) hno
      exact⟨this.1,.inr ⟨hpure,q2⟩⟩
    ·refine⟨λh0=>(hnil h0).elim,λi hi=> ?_⟩
     have h1:=Hq h i hi;unfold atD at h1⊢
     cases ho:all[i]? with
     |none=>rw[ho]at h1;exact h1.elim
     |some o=>
      rw[ho]at h1
      simp only at h1⊢
      unfold zdj at h1⊢
      split at h1
      ·rename_i hq
       exact Fi h1 (λσ h=>by
        obtain⟨d,q1,q2⟩:=bO hq (Wd (.refl σ)) h;exact q2 _ (ih _ _ q1)) λσ h=>ih _ _ h
      ·rename_i hq
       exact MC (X:=none) (λs d e=>by cases e) (σ:=σ) (.refl σ) (λs d e=>by cases e) (λs d e=>by cases e) hq h1 λτ τ1 q1 _ q3=>ihK _ _ _ q1 (ih _ _ q3)
end
section
variable {P:AcJ}{E:TE}{A:wG}{b0:Tx}{w w':World}{S S':Nat->Prop}{pl pl':Nat->Value}{N:Nat}{σ σ':St}{a:Act}{v:Value}{d:D}{o:Oper}
theorem YE(k:Nat):∀(l:AcU) {o:yN},yG k (DI σ l)=some o->yG k σ.hp=some o
 |[],o,h=>by cases h
 |j::r,o,h=>by
  unfold DI at h
  cases ho:σ.ob j with
  |none=>rw[ho]at h;exact YE k r h
  |some o'=>
   rw[ho]at h
   simp only[wR]at h
   split at h
   ·rename_i e;subst e;injection h with h;subst h;exact ho
   ·exact YE k r h
theorem zat(i:Nat):∀(l:AcU),yG i (l.map λj=>(j,σ.get j))=some (σ.get i)\/yG i (l.map λj=>(j,σ.get j))=none
 |[]=> .inr rfl
 |j::r=>by
  rw[Aak,wR];split
  ·rename_i e;subst e;exact .inl rfl
  ·exact zat i r
theorem qQ.keep(m:qQ P b0 N σ a w S pl)(L:AcU×AcU):qQ P b0 N (σ.keep L) a w S pl where
 dz:=m.dz
 sz:=m.sz
 fr:=λi=>by
  unfold St.get St.keep;rcases zat (σ:=σ) i L.1 with h|h
  ·rw[h];exact m.fr i
  ·rw[h];exact kH
 hp:=λk o h=>m.hp k o (YE k _ h)
 lt:=m.lt
 src:=m.src
 priv:=λk o b h=>m.priv k o b (YE k _ h)
 inj:=λk k' o o' b h1 h2=>m.inj k k' o o' b (YE k _ h1) (YE k' _ h2)
 below:=m.below
 stay:=m.stay
 gok:=m.gok
theorem zfE(m:qQ P b0 N σ a w S pl)(k off:Nat):∃S',qQ P b0 N (zbX σ k off) a w S' pl:=by
 unfold zbX;cases Nat.beq off 999999 with
 |false=>obtain⟨S',_,m'⟩:=Fe m k off;exact⟨S',m'⟩
 |true=>
  rw[AI];split
  ·rename_i o ho
   cases hf:o.flatB with
   |false=>exact⟨S,m⟩
   |true=>
    have hfl:o.flat:=by
     cases o with
     |cells cs=>exact λd hd=>jT.1 (Aao.1 hf d hd)
     |row _ _ _=>trivial
     |mp _ _ _=>trivial
     |val cs=>exact λd hd=>jT.1 (Aao.1 hf d hd)
    exact⟨_,m.pub ho hfl⟩
  ·exact⟨S,m⟩
theorem zhn{L:AcU×AcU}{K:St->Prop}(h:headD A L σ K)(m:Mt P b0 N σ a w):∃σ',K σ'/\Mt P b0 N σ' a w:=by
 obtain⟨S,pl,m⟩:=m;unfold headD at h
 simp only at h
 have hp:∀(l:List (Nat×Nat)) (σ:St) (S:Nat->Prop),qQ P b0 N σ a w S pl->∃S',qQ P b0 N (DJ l σ) a w S' pl:=by
  intro l
  induction l with
  |nil=>exact λσ S m=>⟨S,m⟩
  |cons x r ih=>exact λσ S m=>let⟨S1,m1⟩:=zfE m x.1 x.2;ih _ _ m1
 have hn:∀(l:List (Nat×(Nat×(AcI×Ty)))) (σ:St) (S:Nat->Prop) (pl:Nat->Value),qQ P b0 N σ a w S pl->∃pl',qQ P b0 N (DK l σ) a w S pl':=by
  intro l
  induction l with
  |nil=>exact λσ S pl m=>⟨pl,m⟩
  |cons x r ih=>exact λσ S pl m=>let⟨pl1,m1,_⟩:=zai m x.1 x.2.1 x.2.2.1 x.2.2.2;ih _ _ _ m1
 obtain⟨S1,m1⟩:=hp A.pubs σ S m;obtain⟨pl1,m2⟩:=hn A.nils _ _ _ m1;obtain⟨σ',ds',S',hK,_,m',_⟩:=oE h m2;exact⟨_,hK,S',pl1,m'.keep L⟩
theorem zb1(F:sR P E){all:List Oper}{K:Ex->St->Prop}(hd:ON A.n all=true)(fuel:Nat)(listed:Array Bool)(σ:St)(a:Act)(w:World)(h:DH P E A all (K .normal) fuel listed σ)(m:Mt P b0 A.n σ a w):wpAny P .any all.toArray (QK P b0 A.n K) fuel listed a w:=by
 have hK:LM λσ'=>∃σ'',sU σ' σ''/\K .normal σ'':=λσ1 σ2 hl ⟨σ'',h1,h2⟩=>⟨σ'',hl.symm.trans h1,h2⟩
 have h':=zkh (K':=λσ'=>∃σ'',sU σ' σ''/\K .normal σ'') (λσ hk=>⟨σ,.refl _,hk⟩) hK _ _ _ h
 exact JI (b0:=b0) (Q:=QK P b0 A.n K) F hd (λσ1 a1 w1 ⟨σ'',hl,hk⟩ m1=>(.inl ⟨.normal,σ'',rfl,hk,m1.like hl⟩)) _ _ σ _ _ h' m
theorem De(F:sR P E){all:List Oper}{K:Ex->St->Prop}{σ0:St}(hd:ON A.n all=true):∀(fuel:Nat) (listed:Array Bool) (σ:St) (a:Act) (w:World),zfx P E A all (K .normal) (λu=>K (.thr u) σ0) fuel listed σ->Mt P b0 A.n σ a w->wpAny P .any all.toArray (QK P b0 A.n K) fuel listed a w
 |0,listed,σ,a,w,h,m=>zb1 F hd 0 listed σ a w h m
 |fuel+1,listed,σ,a,w,h,m=>by
  unfold zfx at h
  split at h
  ·exact zb1 F hd _ listed σ a w h m
  ·split at h
   ·rename_i i hf
    obtain⟨him,hc⟩:=R8 hf;unfold atD at h
    unfold zka at hc
    cases ho:all[i]? with
    |none=>rw[ho]at h;exact h.elim
    |some oi=>
     rw[ho]at h hc
     simp only[If]at h hc
     obtain⟨⟨⟨hq,hgd⟩,hg⟩,hsel⟩:=hc;have hdst:∀i,oi.dst=some i->i<A.n:=UJ hd oi (AaQ ho)
     have hwant:Region.wanted oi (yielded all.toArray a.tmps)=true:=by
      unfold Region.wanted;rw[Option.isNone_iff_eq_none.1 hgd]
     have fin:∀(u:Value) (d:D),(∀w,(execOp a.eval oi).run P w=.ok (.value u) w)->(∀S pl,qQ P b0 A.n σ a w S pl->Rd w S pl u d)->zfx P E A all (K .normal) (λu=>K (.thr u) σ0) fuel (listed.setIfInBounds i true) (σ.putO oi.dst d)->wpAny P .any all.toArray (QK P b0 A.n K) (fuel+1) listed a w:=λu d hrun hrd h=>by
      obtain⟨S,pl,m⟩:=m;refine wpAny_first (by simpa using ho) (λj o cs b hj hs=> ?_) (λc a w hq=>by rcases hq with⟨x,σ,e,_⟩|⟨u,σ,e,h1,h2,h3⟩<;>first|cases e;done|exact .inr ⟨u,σ,e,h1,by rw[<-h2];cases oi.dst<;>rfl,h3⟩) fuel listed a w (λj oj hj hne hun hno=> ?_) him (.inl ⟨hwant,hrun⟩) ?_
      ·have:=Aao.1 hsel o (AaQ (by simpa using hj))
       rw[hs]at this;cases this
      ·exact(Y7 hg j oj (by simpa using hj) (by omega) (by rw[Aas];exact hun) hno).1
      ·exact De F hd fuel _ _ _ _ h ⟨S,pl,m.putO hdst (hrd S pl m)⟩
     have pt:∀t k off,σ.get t=.ptr k off->∃b,a.eval (.tmp t)=.pointer (some ⟨b,off,none⟩)/\∀S pl,qQ P b0 A.n σ a w S pl->pl k=.pointer (some ⟨b,0,none⟩):=λt k off hget=>by
      obtain⟨S,pl,m⟩:=m;have hx:=m.fr t;rw[hget]at hx
      obtain⟨b,hp,hv⟩:=hx;refine⟨b,hv,λS' pl' m'=> ?_⟩
      have hx':=m'.fr t;rw[hget]at hx'
      obtain⟨b',hp',hv'⟩:=hx';rw[hv]at hv'
      injection hv' with e;injection e with e;injection e with e
      rw[hp',e]
     split at hq
     ·rename_i T t f hop
      split at hq
      ·rename_i k off hget
       obtain⟨b,hev,hpl⟩:=pt t k off hget;unfold opD at h
       rw[hop]at h
       simp only at h
       unfold Ds at h
       split at h
       ·rename_i δ hfo
        rw[show σ.ev (.tmp t)=σ.get t from rfl,hget]at h
        simp only at h
        exact fin (.pointer (some ⟨b,off+δ,none⟩)) (.ptr k (off+δ)) (λw=>by
         unfold execOp;rw[hop];simp only[hev,IS,Fa F hfo,IT,No]) (λS pl m=>⟨b,hpl S pl m,rfl⟩) h
       ·exact h.elim
      ·cases hq
     ·rename_i t hop
      split at hq
      ·rename_i k off hget
       obtain⟨b,hev,hpl⟩:=pt t k off hget;unfold opD at h
       rw[hop]at h
       simp only at h
       rw[show σ.ev (.tmp t)=σ.get t from rfl,hget]at h
       exact fin (.pointer (some ⟨b,off,none⟩)) (.ptr k off) (λw=>by
        unfold execOp;rw[hop];simp only[hev,No]) (λS pl m=>⟨b,hpl S pl m,rfl⟩) h
      ·cases hq
     ·rename_i t hop
      split at hq
      ·rename_i k off hget
       obtain⟨b,hev,hpl⟩:=pt t k off hget;unfold opD at h
       rw[hop]at h
       simp only at h
       rw[show σ.ev (.tmp t)=σ.get t from rfl,hget]at h
       exact fin (.pointer (some ⟨b,off,none⟩)) (.ptr k off) (λw=>by
        unfold execOp;rw[hop];simp only[hev,No,IS,IT]) (λS pl m=>⟨b,hpl S pl m,rfl⟩) h
      ·cases hq
     ·cases hq
   ·split at h
    ·exact zb1 F hd _ listed σ a w h m
    ·split at h
     ·rename_i hr
      exact⟨λ_=> .inl ⟨.normal,σ,rfl,h,m⟩,λi hi=>by rw[hr]at hi;cases hi⟩
     ·rename_i hnil
      refine⟨λh0=>(hnil h0).elim,λi hi=> ?_⟩
      have h1:=Hq h i hi;unfold atD at h1
      unfold wpOp;simp only[Acj];cases ho:all[i]? with
      |none=>rw[ho]at h1;exact h1.elim
      |some o=>
       rw[ho]at h1
       simp only at h1⊢
       have hdst:∀i,o.dst=some i->i<A.n:=UJ hd o (AaQ ho);rcases V0 h1 σ (.refl σ) m with⟨hw,σ',hl,hy⟩|⟨hw,σ',hl,hn⟩
       ·rw[As hw]
        left;obtain⟨S,pl,m'⟩:=m.like hl;exact zj7 F m' hy (λd' τ v w' S' pl' hk hm hv=>De F hd fuel _ _ _ _ hk ⟨S',pl',hm.putO hdst hv⟩) λu w' ht hb=> .inr ⟨u,σ0,rfl,ht,m'.dz,hb⟩
       ·rw[An (by rw[hw];simp)]
        obtain⟨S,pl,m'⟩:=m.like hl;exact De F hd fuel _ _ _ _ hn ⟨S,pl,m'.putO hdst Dd⟩
theorem zio(F:sR P E){id:Nat}{ops:Array Oper}{draw:Bool}{c:Nat}{K:Ex->St->Prop}(h:den P E A (.region id ops draw) c σ K)(m:Mt P b0 A.n σ a w):(Code.region id ops draw).wp P (QK P b0 A.n K) a w:=by
 unfold den at h
 cases hd:ON A.n ops.toList with
 |false=>rw[hd]at h;exact h.elim
 |true=>
  rw[hd]at h
  cases draw with
  |false=>
   refine wp_region ?_;have hl:=wpOps_eq_wpList (P:=P) (ops:=ops) (Q:=QK P b0 A.n K) ops.toList 0 (λj=>by simp)
   rw[show List.range ops.size=List.range' 0 ops.toList.length by simp[List.range_eq_range'],hl]
   exact zfC F (λσ a w hk m=> .inl ⟨.normal,σ,rfl,hk,m⟩) (λe a w h=> .inr h) ops.toList σ a w hd h m
  |true=>
   simp only at h
   refine wp_region_any F.mixed ?_
   have m':Mt P b0 A.n σ a {w with drawn:=w.drawn+1}:=by
    obtain⟨S,pl,m⟩:=m;exact⟨S,pl,m.later (w':=w.drew) ⟨rfl,rfl,rfl,BY _,λ_ _=>rfl⟩⟩
   have:=De F hd _ _ σ _ _ h m';simpa using this
theorem zfF(F:sR P E):∀(c:Code) (cur:Nat) (σ:St) (K:Ex->St->Prop) (a:Act) (w:World),den P E A c cur σ K->Mt P b0 A.n σ a w->c.wp P (QK P b0 A.n K) a w:=by
 intro c
 induction c with
 |skip=>intro cur σ K a w h m;exact wp_skip (.inl ⟨.normal,σ,rfl,h,m⟩)
 |region id ops draw=>intro cur σ K a w h m;exact zio F h m
 |seq x y ihx ihy=>
  intro cur σ K a w h m;unfold den at h
  refine wp_seq (wp_mono (ihx cur σ _ a w h m) λe a w h=> ?_)
  rcases h with⟨x,σ',he,hk,m'⟩|⟨u,σ',rfl,hk,dz,hb⟩
  case inr=>exact .inr ⟨u,σ',rfl,hk,dz,hb⟩
  cases e<;>simp only[zdk,Option.some.injEq,reduceCtorEq]at he<;>subst he
  ·exact ihy cur σ' K a w hk m'
  ·exact .inl ⟨_,σ',rfl,hk,m'⟩
  ·exact .inl ⟨_,σ',rfl,hk,m'⟩
 |cond x y z ihy ihz=>
  intro cur σ K a w h m;unfold den at h
  split at h
  ·rename_i t hx
   have m0:=m;obtain⟨S,pl,m⟩:=m;have hv:a.eval x=.bool t:=by have:=rF m x;rw[hx]at this;exact(this.flat (d:=.bool t) rfl).bool_inv
   have hlk:sU σ (σ.know x t):=by
    cases x with
    |tmp s=>exact JE hx
    |_=>exact .refl σ
   cases t
   ·exact wp_cond_false hv (ihz cur _ K a w h (m0.like hlk))
   ·exact wp_cond_true hv (ihy cur _ K a w h (m0.like hlk))
  ·exact h.elim
 |block id body ih=>
  intro cur σ K a w h m;unfold den at h
  refine wp_block (wp_mono (ih id σ _ a w h m) λe a w h=> ?_)
  rcases h with⟨x,σ',he,hk,m'⟩|⟨u,σ',rfl,hk,dz,hb⟩
  case inr=>exact .inr ⟨u,σ',rfl,hk,dz,hb⟩
  cases e<;>simp only[zdk,Option.some.injEq,reduceCtorEq]at he<;>subst he
  ·exact .inl ⟨_,σ',rfl,hk,m'⟩
  ·rename_i j
   simp only at hk
   unfold Exit.inBlock
   by_cases hj:j=id
   ·rw[xG.2 hj,AI]at hk
    simp only[hj,if_true];exact .inl ⟨_,σ',rfl,hk,m'⟩
   ·rw[Yp hj,Vs]at hk
    simp only[hj,if_false];exact .inl ⟨_,σ',rfl,hk,m'⟩
  ·exact .inl ⟨_,σ',rfl,hk,m'⟩
 |loop body ih=>
  intro cur σ K a w h m;unfold den at h
  obtain⟨σ',⟨n,hn⟩,m'⟩:=zhn h m;refine wp_loop_rounds n ?_;clear h m
  induction n generalizing σ' a w with
  |zero=>exact hn.elim
  |succ n ihn=>
   rw[rounds_succ];unfold zkc at hn
   refine wp_mono (ih cur σ' _ a w hn m') λe a w h=> ?_
   rcases h with⟨x,σ'',he,hk,m''⟩|⟨u,σ'',rfl,hk,dz,hb⟩
   case inr=>exact .inr ⟨u,σ'',rfl,hk,dz,hb⟩
   cases e<;>simp only[zdk,Option.some.injEq,reduceCtorEq]at he<;>subst he
   ·obtain⟨σ3,hk,m3⟩:=zhn hk m''
    exact ihn a w σ3 m3 hk
   ·exact .inl ⟨_,σ'',rfl,hk,m''⟩
   ·exact .inl ⟨_,σ'',rfl,hk,m''⟩
 |exit id=>intro cur σ K a w h m;exact wp_exit (.inl ⟨.exit id,σ,rfl,h,m⟩)
 |ret=>intro cur σ K a w h m;exact wp_ret (.inl ⟨.ret,σ,rfl,h,m⟩)
 |_=>intro cur σ K a w h m;exact h.elim
def zov(P:AcJ)(E:TE)(A:wG)(b:Code)(c:Nat)(K:Ex->St->Prop):Ex->St->Prop:=λe σ=>match e with
 | .normal=>den P E A b c σ K
 | .exit id=>K (.exit id) σ
 | .ret=>K .ret σ
 | .thr u=>K (.thr u) σ
def zH(id:Nat)(K:Ex->St->Prop):Ex->St->Prop:=λe σ=>match e with
 | .normal=>K .normal σ
 | .exit j=>bif Nat.beq j id then K .normal σ else K (.exit j) σ
 | .ret=>K .ret σ
 | .thr u=>K (.thr u) σ
def znZ(body:St->(Ex->St->Prop)->Prop)(A:wG)(L:AcU×AcU)(n:Nat)(K:Ex->St->Prop):Ex->St->Prop:=λe σ=>match e with
 | .normal=>headD A L σ λσ=>zkc body A L n σ K
 | .exit id=>K (.exit id) σ
 | .ret=>K .ret σ
 | .thr u=>K (.thr u) σ
def sub:AcU->Code->Code
 |[],c=>c
 |0::p,.seq a _=>sub p a
 |_::p,.seq _ b=>sub p b
 |0::p,.cond _ a _=>sub p a
 |_::p,.cond _ _ b=>sub p b
 |_::p,.block _ b=>sub p b
 |_::p,.loop b=>sub p b
 |_,_=> .skip
def JK:Nat->AcO->List (Nat×D)
 |_,[]=>[]
 |i,d::ds=>(i,d)::JK (i+1) ds
def St.init(args:AcO):St:=⟨JK 0 args,[]⟩
def OP(E:TE)(σ:St):List ResultVar->AcO
 |[]=>[]
 | .tmp t::rs=>σ.get t::OP E σ rs
 | .cell t T::rs=>(match yG T E.zs,YD σ (σ.get t)with
  |some (_,zs),some cs=>cs.take zs.length
  |_,_=>[])++OP E σ rs
def znq(E:TE)(σ:St):ResultVar->Option D
 | .tmp t=>bif ZE (σ.get t)then some (σ.get t)else none
 | .cell t T=>match yG T E.zs,YD σ (σ.get t)with
  |some (true,zs),some cs=>bif Nat.ble zs.length cs.length&&(cs.take zs.length).all ZE then some (.agg (cs.take zs.length))else none
  |some (false,_),some (d::_)=>bif ZE d then some d else none
  |_,_=>none
def zau(E:TE)(σ:St):List ResultVar->Option AcO
 |[]=>some []
 |r::rs=>match znq E σ r,zau E σ rs with
  |some d,some ds=>some (d::ds)
  |_,_=>none
def znr:AcO->D
 |[d]=>d
 |ds=> .tup ds
def zn0(E:TE)(rs:List ResultVar)(R:D->Prop)(e:Ex)(σ:St):Prop:=match e with
 | .exit _=>False
 | .thr _=>False
 |_=>qG 12 σ (OP E σ rs) λ_ σ=>match zau E σ rs with
  |some ds=>R (znr ds)
  |none=>False
def fnD(P:AcJ)(E:TE)(A:wG)(rs:List ResultVar)(body:Code)(args:AcO)(R:D->Prop):Prop:=den P E A body 0 (St.init args) (zn0 E rs R)
theorem DR(j:Nat):∀(ds:AcO) (i:Nat),yG j (JK i ds)=if i<=j then ds[j-i]? else none
 |[],i=>by simp[JK,yG]
 |d::ds,i=>by
  unfold JK;rw[wR,DR j ds (i+1)]
  by_cases h1:i=j
  ·subst h1;simp
  ·rw[An h1]
   by_cases h2:i<=j
   ·rw[As (by omega),As h2,show j-i=(j-(i+1))+1 by omega,Ace]
   ·rw[An (by omega),An h2]
theorem zdq(args:AcO)(i:Nat):(St.init args).get i=D.or args[i]? :=by
 unfold St.get St.init;rw[DR];simp
def R9(a:Act):ResultVar->Sem Value
 | .tmp t=>pure (a.tmps.getD t undef)
 | .cell x t=>do loadVar t (<-asAddr (a.tmps.getD x undef))
theorem zb2(F:sR P E)(m:qQ P b0 N σ a w S pl):∀(rs:List ResultVar) (ds:AcO),zau E σ rs=some ds->∃vs:List Value,(rs.mapM (R9 a)).run P w=.ok vs w/\wF (Rp w S) vs ds
 |[],ds,h=>by injection h with h;subst h;exact⟨[],by simp,.nil⟩
 |r::rs,ds,h=>by
  unfold zau at h
  split at h
  ·rename_i d ds' h1 h2
   injection h with h;subst h
   obtain⟨vs,q1,q2⟩:=zb2 F m rs ds' h2
   have one:∃u,(R9 a r).run P w=.ok u w/\Rp w S u d:=by
    cases r with
    |tmp t=>
     unfold znq at h1
     simp only at h1
     cases hn:ZE (σ.get t)with
     |false=>rw[hn]at h1;cases h1
     |true=>rw[hn]at h1;injection h1 with h1;subst h1;exact⟨_,by simp[R9],(m.fr t).flat (jT.1 hn)⟩
    |cell x T=>
     unfold znq at h1
     simp only at h1
     split at h1
     ·rename_i zs cs hz hc
      cases hb:Nat.ble zs.length cs.length&&(cs.take zs.length).all ZE with
      |false=>rw[hb]at h1;cases h1
      |true=>
       rw[hb]at h1;injection h1 with h1;subst h1
       simp only[If]at hb
       obtain⟨i,z,u,hi,hz',hsz,hu,hag,hzb⟩:=(F.zs T true zs hz).ex;obtain⟨b,off,hv,hcell⟩:=Kl m (m.fr x) hc
       obtain⟨vs,e1,e2⟩:=zbK (Rd w S pl) b (cs.take zs.length) off λj d hd=>hcell j d (by
        rw[Abx]at hd;split at hd
        ·exact hd
        ·cases hd)
       have hlen:vs.length=zs.length:=by rw[e1.len,Aaf];have:=Aat hb.1;omega
       have hload:(loadCells ⟨b,off,none⟩ zs.length).run P w=.ok vs.toArray w:=by
        rw[<-hlen];refine run_loadCells_list (P:=P) w ⟨b,off,none⟩ vs λj u hu=> ?_
        have:=e2 j u hu;unfold Addr.add;split
        ·rename_i e;subst e;simpa using this
        ·exact this
       have hs:(sizeOf T).run P w=.ok zs.length w:=by simp[sizeOf,typeInfo,hi,hsz]
       have hr:=e1.flat λd hd=>jT.1 (Aao.1 hb.2 d hd)
       refine⟨.agg vs.toArray,?_,.agg _ _ (by simpa using hr.len) λj d hd=>VH (vs:=vs.toArray) (by simpa using hr) j d hd⟩
       simp only[R9,hv,asAddr,loadVar,IS,No,IT,S3 hu,hag,if_true,hs,hload]
     ·rename_i zs d' r' hz hc
      cases hn:ZE d' with
      |false=>rw[hn]at h1;cases h1
      |true=>
       rw[hn]at h1;injection h1 with h1;subst h1
       obtain⟨b,off,hv,hcell⟩:=Kl m (m.fr x) hc;obtain⟨u,hu,hr⟩:=hcell 0 d' rfl;obtain⟨i,z,ud,hi,hz',hsz,hud,hag,hzb⟩:=(F.zs T false zs hz).ex;refine⟨u,?_,hr.flat (jT.1 hn)⟩
       have hld:(load ⟨b,off,none⟩).run P w=.ok u w:=by
        have:w.cell? ⟨b,off,none⟩=some u:=hu;simp only[load,Sem.run,this]
       simp only[R9,hv,asAddr,loadVar,IS,No,IT,S3 hud,hag,Aa0,if_false,hld]
     ·cases h1
   obtain⟨u,e1,e2⟩:=one;exact⟨u::vs,by rw[List.mapM_cons];simp only[IS,e1,IT,q1,No],.cons e2 q2⟩
  ·cases h
def okL{α:Type}(bytes:Nat)(p:α->Prop)(xs:List α):Prop:=xs.length*bytes<=140737488355328/\∀x∈xs,p x
def okS(s:AcG):Prop:=s.size<=140737488355328
def zho(x:zC):Prop:=yY x.var/\yY x.op/\yY x.n
def zki(x:zQ):Prop:=okS x.name/\yY x.lo/\yY x.hi
def zkj(x:zF):Prop:=yY x.kind/\yY x.n/\okL 8 yY x.vars/\okL 8 yY x.consts/\okL 24 (okL 8 yY) x.rows/\okL 24 zho x.lits
def zmZ(x:zG):Prop:=yY x.goal/\yY x.var/\okL 32 zki x.vars/\okL 112 zkj x.cons
def zfG(x:zX):Prop:=yY x.kind/\yY x.con/\okL 24 zho x.clause
def okT:(t:Ty)->t.den->Prop
 | .int,n=>yY n
 | .bool,_=>True
 | .str,s=>okS s
 | .tok,x=>yY x.kind/\yY x.at_/\okS x.text
 | .lit,x=>zho x
 | .var,x=>zki x
 | .con,x=>zkj x
 | .mdl,x=>zmZ x
 | .step,x=>zfG x
 | .term,x=>yY x.v/\yY x.times
 | .ans,x=>yY x.verdict/\okL 8 yY x.values/\okL 40 zfG x.proof
 | .list t,xs=>okL t.bytes (okT t) xs
 | .pr a b,x=>okT a x.1/\okT b x.2
 | .byte,_=>True
theorem zfH{α:Type}[vV α]{v:Value}{xs:List α}{p:α->Prop}(h:XX w S v xs)(hp:∀cs x,vV.rd w S cs x->p x):okL (vV.bytes α) p xs:=by
 obtain⟨A,c,rfl,h1⟩:=rN h;refine⟨h1.bytes,λx hx=> ?_⟩
 obtain⟨i,hi,rfl⟩:=Aal hx;obtain⟨b,o,cs,_,_,hr,_⟩:=Kb h hi;exact hp _ _ hr
theorem Qa{α:Type}[vV α]{v:Value}{xs:List α}{p:α->Prop}(h:LJ w S [v] xs)(hp:∀cs x,vV.rd w S cs x->p x):okL (vV.bytes α) p xs:=by
 obtain⟨A,c,rfl,_,h⟩:=zc3 h;exact zfH h hp
theorem DS{cs:List Value}{x:Int}(h:vV.rd w S cs x):yY x:=h.2
theorem zfI{cs:List Value}{x:zC}(h:vV.rd w S cs x):zho x:=h.2
theorem zkl{cs:List Value}{x:zQ}(h:vV.rd w S cs x):zki x:=h.2
theorem zmd{cs:List Value}{x:AcK}(h:vV.rd w S cs x):okL 8 yY x:=by
 obtain⟨A,c,rfl,h⟩:=h;exact zfH (α:=Int) ⟨_,rfl,A,c,rfl,h⟩ λ_ _=>DS
theorem zkm{cs:List Value}{x:zF}(h:vV.rd w S cs x):zkj x:=by
 obtain⟨v1,v2,v3,v4,rfl,a,b,h1,h2,h3,h4⟩:=h;exact⟨a,b,Qa h1 λ_ _=>DS,Qa h2 λ_ _=>DS,Qa h3 λ_ _=>zmd,Qa h4 λ_ _=>zfI⟩
theorem zns{cs:List Value}{x:zG}(h:vV.rd w S cs x):zmZ x:=by
 obtain⟨v1,v2,rfl,a,b,h1,h2⟩:=h;exact⟨a,b,Qa h1 λ_ _=>zkl,Qa h2 λ_ _=>zkm⟩
theorem zhp{cs:List Value}{x:zX}(h:vV.rd w S cs x):zfG x:=by
 obtain⟨v,rfl,a,b,h1⟩:=h;exact⟨a,b,Qa h1 λ_ _=>zfI⟩
theorem DT:(t:Ty)-> {x:t.den}-> {cs:List Value}->vV.rd w S cs x->okT t x
 | .int,x,cs,h=>by exact DS h
 | .bool,x,cs,h=>trivial
 | .byte,x,cs,h=>trivial
 | .str,x,cs,h=>by exact h.2
 | .tok,x,cs,h=>by exact h.2
 | .lit,x,cs,h=>by exact zfI h
 | .var,x,cs,h=>by exact zkl h
 | .con,x,cs,h=>by exact zkm h
 | .mdl,x,cs,h=>by exact zns h
 | .step,x,cs,h=>by exact zhp h
 | .term,x,cs,h=>by exact h.2
 | .ans,x,cs,h=>by
  obtain⟨v1,v2,rfl,a,h1,h2⟩:=h;exact⟨a,Qa h1 λ_ _=>DS,Qa h2 λ_ _=>zhp⟩
 | .pr a b,x,cs,h=>by
  obtain⟨c1,c2,rfl,h1,h2⟩:=h;exact⟨DT a h1,DT b h2⟩
 | .list t,xs,cs,h=>by
  obtain⟨A,c,rfl,h⟩:=h;have:=zfH (α:=t.den) (p:=okT t) ⟨_,rfl,A,c,rfl,h⟩ λ_ _ h=>DT t h
  rw[<-Ty.bytes_eq]at this
  exact this
def okC:D->Prop
 | .int k n=>inK k n
 | .str s=>okS s
 | .sl t xs=>okT (.list t) xs
 |_=>True
def B7:D->Prop
 | .agg cs=>∀c∈cs,okC c
 | .iptr cs _=>∀c∈cs,okC c
 |d=>okC d
theorem zb3(h:Rp w S v d):okC d:=by
 cases h
 case int k n h=>exact h
 case str s h=>exact h
 case sl t xs h=>
  obtain⟨cs,e,hr⟩:=h;exact DT (.list t) hr
 all_goals trivial
theorem zkn(h:Rp w S v d):B7 d:=by
 cases d
 case agg cs=>
  obtain⟨vs,_,_,hr⟩:=h.agg_inv;intro c hc;obtain⟨i,hi,rfl⟩:=Aal hc;exact zb3 (hr i _ (Aac hi))
 case iptr cs off=>
  obtain⟨b,_,_,hr⟩:=h.iptr_inv;intro c hc;obtain⟨i,hi,rfl⟩:=Aal hc;obtain⟨u,_,hr⟩:=hr i _ (Aac hi);exact zb3 hr
 all_goals exact zb3 h
theorem znt(F:sR P E){f:AcH}{fn:Func}{body:Code}{args:AcO}{r:D}(hf:P.funcs[f]? =some fn)(hb:fn.body=some body)(hn:A.n=fn.ntmps)(hle:args.length<=fn.ntmps)
  (h:(∀d∈args,B7 d)->fnD P E A fn.results.toList body args λd=>d=r):VA P f args r:=by
 intro w S vs hS hl hv hg
 have hok:∀d∈args,B7 d:=λd hd=>by
  obtain⟨i,hi,rfl⟩:=Aal hd;exact zkn (hv i _ (Aac hi))
 refine calls_of_wp hf hb ?_
 have m0:qQ P ⟨w,S,λ_=>False,λ_=>undef⟩ A.n (St.init args) {tmps:=vs++Array.replicate (fn.ntmps-vs.size) undef,defers:=[]} w S (λ_=>undef):=by
  refine⟨rfl,by simp;omega,λi=> ?_,(λk o h=>by cases h),hS,λb h=> .inl h,(λk o b h=>by cases h),(λk k' o o' b h=>by cases h),.of (Below.refl _ _),λ_ _=>rfl,hg⟩
  rw[zdq];cases hi:args[i]? with
  |none=>exact kH
  |some d=>
   have hlt:i<vs.size:=by rw[hl];exact(AaD.1 hi).1
   have:=hv i d hi;rw[Aae,AcB hlt,<-Aae];exact this.rd
 refine wp_mono (zfF F body 0 _ _ _ w (h hok) ⟨_,_,m0⟩) λe a w' hq=> ?_
 rcases hq with⟨x,σ,he,hk,S',pl,m⟩|⟨u,σ,rfl,hk,dz,hb⟩
 case inr=>exact hk.elim
 have fin:(qG 12 σ (OP E σ fn.results.toList) λ_ σ=>match zau E σ fn.results.toList with
   |some ds=>znr ds=r
   |none=>False)->a.defers=[]/\∃v,(results fn a.tmps).run P w'=.ok v w'/\∃v',Ending.returned v=.returned v'/\Rp w' (λb=>S b\/(w.heap.size<=b/\b<w'.heap.size)) v' r/\Below w.heap.size w w':=by
  intro hk;refine⟨m.dz,?_⟩;obtain⟨σ2,_,S2,hk,hS2,m2,_⟩:=oE hk m;split at hk
  ·rename_i ds' hds
   have hr:=hk;obtain⟨us,q1,hrd⟩:=zb2 F m2 _ ds' hds
   have hsrc:∀b,S2 b->S b\/(w.heap.size<=b/\b<w'.heap.size):=λb hb=>by
    rcases m2.src b hb with h|h
    ·exact .inl h
    ·exact .inr ⟨h.resolve_left id,m2.lt b hb⟩
   have hrd':=hrd.rmono (w':=w') (λ_ _=>rfl) hsrc
   have hrun:(results fn a.tmps).run P w'=.ok (if h:us.length=1 then us[0]else .tuple us.toArray) w':=by
    have hr0:results fn a.tmps=(do let vs<-fn.results.mapM (R9 a);pure (if h:vs.size=1 then vs[0]else .tuple vs)):=rfl
    rw[hr0];simp only[Array.mapM_eq_mapM_toList,IS,map_eq_pure_bind,q1,IT,No,AaT];rfl
   refine⟨_,hrun,_,rfl,?_,m.below.below λ_=>id⟩
   rw[<-hr];have hlen:=hrd'.len;cases ds' with
   |nil=>
    rw[dif_neg (by simp at hlen;simp[hlen])]
    exact .tup _ _ (by simpa using hlen) λi d hd=>by simp at hd
   |cons d1 rest=>
    cases rest with
    |nil=>
     have h1:us.length=1:=by simpa using hlen
     rw[dif_pos h1];exact hrd'.get_ 0 _ d1 (Aac (by omega)) rfl
    |cons d2 rest=>
     rw[dif_neg (by rw[hlen];simp)]
     exact .tup _ _ (by simpa using hlen) λi d hd=>VH (vs:=us.toArray) (by simpa using hrd') i d hd
  ·exact hk.elim
 cases e<;>simp only[zdk,Option.some.injEq,reduceCtorEq]at he<;>subst he
 ·exact fin hk
 ·exact hk.elim
 ·exact fin hk
def Hr:Nat->AcU->List (Nat×Nat)
 |_,[]=>[]
 |i,k::r=>bif Nat.ble 1000 k&&Nat.blt k 3000 then(k,k)::Hr i r else(k,3000+i)::Hr (i+1) r
def Qb(ρ:List (Nat×Nat)):Bool:=gW (ρ.map (·.1))&&gW (ρ.map (·.2))&&ρ.all λx=> !stabK x.2||Nat.beq x.1 x.2
def JL(E:TE)(rs:List ResultVar)(roots:AcO)(own:Bool)(R:D->List (Nat×yN)->Prop)(e:Ex)(σ:St):Prop:=match e with
 | .exit _=>False
 | .thr _=>False
 |_=>match own with
  |true=>(match rs with
   |[.tmp t]=>bif Qb (Hr 0 (reach σ.ob 400 [] (σ.get t::roots)))then R ((σ.get t).ren (Hr 0 (reach σ.ob 400 [] (σ.get t::roots)))) (cD σ.ob (Hr 0 (reach σ.ob 400 [] (σ.get t::roots))) (Hr 0 (reach σ.ob 400 [] (σ.get t::roots))))else False
   |_=>False)
  |false=>qG 12 σ (OP E σ rs) λ_ σ=>match zau E σ rs with
   |some ds=>bif Qb (Hr 0 (reach σ.ob 400 [] roots))then R (znr ds) (cD σ.ob (Hr 0 (reach σ.ob 400 [] roots)) (Hr 0 (reach σ.ob 400 [] roots)))else False
   |none=>False
def fnH(P:AcJ)(E:TE)(A:wG)(rs:List ResultVar)(body:Code)(args:AcO)(h:List (Nat×yN))(roots:AcO)(own:Bool)(R:D->List (Nat×yN)->Prop):Prop:=den P E A body 0 ⟨JK 0 args,h⟩ (JL E rs roots own R)
def okO:yN->Prop
 | .cells ds=>∀d∈ds,okC d
 | .row _ t xs=>okT (.list t) xs
 | .mp kt vt es=>es.length<=140737488355328/\∀x∈es,okT kt x.1/\okT vt x.2
 | .val ds=>∀d∈ds,okC d
theorem zko(h:Rd w S pl v d):okC d:=by
 cases hr:d.ref with
 |none=>exact zb3 (h.flat hr)
 |some k=>cases d<;>first|trivial|(simp[D.ref]at hr)
theorem znu(h:Rd w S pl v d):B7 d:=by
 cases hr:d.ref with
 |none=>exact zkn (h.flat hr)
 |some k=>cases d<;>first|trivial|(simp[D.ref]at hr)
theorem zm0{p:Value}{ob:yN}(h:W2 w S pl p ob):okO ob:=by
 cases ob with
 |cells ds=>
  obtain⟨b,vs,T,_,_,_,h,_⟩:=h;intro d hd;obtain⟨i,hi,rfl⟩:=Aal hd;exact zko (h i _ (Aac hi))
 |val ds=>
  obtain⟨vs,_,_,h⟩:=h;intro d hd;obtain⟨i,hi,rfl⟩:=Aal hd;exact zko (h i _ (Aac hi)).1
 |row e t xs=>
  obtain⟨cs,_,hr⟩:=VW h;exact DT (.list t) hr
 |mp kt vt es=>
  obtain⟨b,_,h0,ents,clock,_,h⟩:=h;refine⟨h0,λx hx=> ?_⟩
  obtain⟨i,hi,rfl⟩:=Aal hx;obtain⟨e,_,⟨_,_,h1⟩,⟨_,_,h2⟩⟩:=h.at (Aac hi);exact⟨DT kt h1,DT vt h2⟩
def znv(E:TE)(rs:List ResultVar)(roots:AcO)(own:Bool)(R:D->List (Nat×yN)->Prop)(T:Value->Prop)(e:Ex)(σ:St):Prop:=match e with
 | .thr u=>T u
 | .normal=>JL E rs roots own R .normal σ
 | .ret=>JL E rs roots own R .ret σ
 | .exit i=>JL E rs roots own R (.exit i) σ
def fnX(P:AcJ)(E:TE)(A:wG)(rs:List ResultVar)(body:Code)(args:AcO)(h:List (Nat×yN))(roots:AcO)(own:Bool)(R:D->List (Nat×yN)->Prop)(T:Value->Prop):Prop:=den P E A body 0 ⟨JK 0 args,h⟩ (znv E rs roots own R T)
theorem zir{E:TE}{rs:List ResultVar}{roots:AcO}{own:Bool}{R:D->List (Nat×yN)->Prop}:znv E rs roots own R (λ_=>False)=JL E rs roots own R:=by
 funext e σ;cases e<;>rfl
theorem zis{rs:List ResultVar}{roots:AcO}{own:Bool}{R:D->List (Nat×yN)->Prop}{e:Ex}{σ:St}(h:JL E rs roots own R e σ):∃r hp',R r hp'/\JL E rs roots own (λd h'=>d=r/\h'=hp') e σ:=by
 have norm:JL E rs roots own R .normal σ->∃r hp',R r hp'/\JL E rs roots own (λd h'=>d=r/\h'=hp') .normal σ:=λh=>by
  unfold JL at h⊢
  cases own with
  |true=>
   simp only at h⊢
   split at h
   ·rename_i t _
    cases hc:Qb (Hr 0 (reach σ.ob 400 [] (σ.get t::roots)))with
    |false=>rw[hc]at h;exact h.elim
    |true=>rw[hc,AI]at h;exact⟨_,_,h,by rw[AI];exact⟨rfl,rfl⟩⟩
   ·exact h.elim
  |false=>
   simp only at h⊢
   unfold qG at h⊢
   split at h
   ·rename_i σ' ds' hp
    split at h
    ·rename_i ds hds
     cases hc:Qb (Hr 0 (reach σ'.ob 400 [] roots))with
     |false=>rw[hc]at h;exact h.elim
     |true=>rw[hc,AI]at h;exact⟨_,_,h,by simp only[hds,hc,AI,Abn]⟩
    ·exact h.elim
   ·exact h.elim
 cases e with
 |normal=>exact norm h
 |ret=>exact norm h
 |exit i=>exact h.elim
 |thr u=>exact h.elim
theorem zb4(F:sR P E){f:AcH}{fn:Func}{body:Code}{args roots:AcO}{hp:List (Nat×yN)}{own:Bool}{R:D->List (Nat×yN)->Prop}{T:Value->Prop}(hf:P.funcs[f]? =some fn)(hb:fn.body=some body)(hn:A.n=fn.ntmps)(hle:args.length<=fn.ntmps)
  (h:(∀d∈args,B7 d)->(∀k o,yG k hp=some o->okO o)->fnX P E A fn.results.toList body args hp roots own R T)
  (w:World) (S:Nat->Prop) (vs:Array Value) (pl0:Nat->Value) (hS:∀b,S b->b<w.heap.size) (hl:vs.size=args.length) (hv:∀i d,args[i]? =some d->Rd w S pl0 (vs.getD i undef) d) (hh:HOk w S pl0 hp) (hg:GOk P w (kG pl0 hp)):
  Calls P f vs w λe w'=>(∃r hp',R r hp'/\∃v S' pl',e=.returned v/\Rd w' S' pl' v r/\HOk w' S' pl' hp'/\(∀b,S' b->b<w'.heap.size)/\(∀b,S' b->S b\/kG pl0 hp b\/w.heap.size<=b)/\
    (∀b,kG pl' hp' b->kG pl0 hp b\/w.heap.size<=b)/\(∀k,stabK k=true->pl' k=pl0 k)/\pH w.heap.size (kG pl0 hp) w w')\/
   ∃u,e=.panicked [{v:=u,recovered:=false}]/\T u/\pH w.heap.size (kG pl0 hp) w w':=by
 have hok:∀d∈args,B7 d:=λd hd=>by
  obtain⟨i,hi,rfl⟩:=Aal hd;exact znu (hv i _ (Aac hi))
 have hok2:∀k o,yG k hp=some o->okO o:=λk o hk=>zm0 (hh.ok k o hk)
 refine calls_of_wp hf hb ?_
 have m0:qQ P ⟨w,S,kG pl0 hp,pl0⟩ A.n ⟨JK 0 args,hp⟩ {tmps:=vs++Array.replicate (fn.ntmps-vs.size) undef,defers:=[]} w S pl0:=by
  refine⟨rfl,by simp;omega,λi=> ?_,hh.ok,hS,λb h=> .inl h,(λk o b h hb=>⟨.inl ⟨k,o,h,hb⟩,hh.priv k o b h hb⟩),hh.inj,.of (Below.refl _ _),λ_ _=>rfl,hg⟩
  rw[show(⟨JK 0 args,hp⟩:St).get i=(St.init args).get i from rfl,zdq]
  cases hi:args[i]? with
  |none=>exact kH
  |some d=>
   have hlt:i<vs.size:=by rw[hl];exact(AaD.1 hi).1
   have:=hv i d hi;rw[Aae,AcB hlt,<-Aae];exact this
 refine wp_mono (zfF F body 0 _ _ _ w (h hok hok2) ⟨_,_,m0⟩) λe a w' hq=> ?_
 rcases hq with⟨x,σ,he,hk,S',pl,m⟩|⟨u,σ,rfl,hk,dz,hb⟩
 case inr=>exact⟨dz,.inr ⟨u,rfl,hk,hb⟩⟩
 have hk:x=.normal\/x=.ret\/∃i,x=.exit i:=by cases e<;>simp only[zdk,Option.some.injEq,reduceCtorEq]at he<;>subst he<;>simp
 have hk0:JL E fn.results.toList roots own R x σ:=by rcases hk with rfl|rfl|⟨i,rfl⟩<;>assumption
 obtain⟨r,hp',hR,hk⟩:=zis hk0
 have out:∀ {S':Nat->Prop} {σ:St} (m:qQ P ⟨w,S,kG pl0 hp,pl0⟩ A.n σ a w' S' pl) (ρ:List (Nat×Nat)),Qb ρ=true->∀(v:Value),(results fn a.tmps).run P w'=.ok v w'->Rd w' S' (plC ρ pl) v r->cD σ.ob ρ ρ=hp'->
   ∃v,(results fn a.tmps).run P w'=.ok v w'/\∃v' S'' pl',Ending.returned v=.returned v'/\Rd w' S'' pl' v' r/\HOk w' S'' pl' hp'/\(∀b,S'' b->b<w'.heap.size)/\(∀b,S'' b->S b\/kG pl0 hp b\/w.heap.size<=b)/\
    (∀b,kG pl' hp' b->kG pl0 hp b\/w.heap.size<=b)/\(∀k,stabK k=true->pl' k=pl0 k)/\pH w.heap.size (kG pl0 hp) w w':=by
  intro S' σ m ρ hc v hrun hr hpk;simp only[Qb,If]at hc
  obtain⟨⟨n1,n2⟩,n3⟩:=hc;subst hpk;refine⟨v,hrun,v,S',plC ρ pl,rfl,hr,Hn m n1 n2,m.lt,m.src,λb hb=> ?_,λk hk=> ?_,m.below⟩
  ·obtain⟨k,c,o,h1,h2,h3⟩:=JC n2 hb
   exact(m.priv k o b h2 h3).1
  ·refine Eq.trans ?_ (m.stay k hk)
   unfold plC;cases hl:yG k (Hf ρ)with
   |none=>rfl
   |some k'=>
    have:=Aao.1 n3 _ (JB hl);simp only[AaJ,AaI]at this
    rcases this with h|h
    ·rw[hk]at h;cases h
    ·rw[xG.1 h]
 have runv:∀(us:List Value),(fn.results.toList.mapM (R9 a)).run P w'=.ok us w'->(results fn a.tmps).run P w'=.ok (if h:us.length=1 then us[0]else .tuple us.toArray) w':=λus q1=>by
  have hr0:results fn a.tmps=(do let vs<-fn.results.mapM (R9 a);pure (if h:vs.size=1 then vs[0]else .tuple vs)):=rfl
  rw[hr0];simp only[Array.mapM_eq_mapM_toList,IS,map_eq_pure_bind,q1,IT,No,AaT];rfl
 have fin:JL E fn.results.toList roots own (λd h'=>d=r/\h'=hp') .normal σ->a.defers=[]/\∃v,(results fn a.tmps).run P w'=.ok v w'/\∃v' S'' pl',Ending.returned v=.returned v'/\Rd w' S'' pl' v' r/\HOk w' S'' pl' hp'/\(∀b,S'' b->b<w'.heap.size)/\(∀b,S'' b->S b\/kG pl0 hp b\/w.heap.size<=b)/\
    (∀b,kG pl' hp' b->kG pl0 hp b\/w.heap.size<=b)/\(∀k,stabK k=true->pl' k=pl0 k)/\pH w.heap.size (kG pl0 hp) w w':=by
  intro hk;refine⟨m.dz,?_⟩;unfold JL at hk
  clear h he;cases own with
  |true=>
   simp only at hk
   split at hk
   ·rename_i t hrs
    cases hc:Qb (Hr 0 (reach σ.ob 400 [] (σ.get t::roots)))with
    |false=>rw[hc]at hk;exact hk.elim
    |true=>
     rw[hc,AI]at hk
     obtain⟨e1,e2⟩:=hk;have hc':=hc;simp only[Qb,If]at hc'
     have hrun:=runv [a.tmps.getD t undef] (by rw[hrs];simp[R9])
     refine out m _ hc _ hrun ?_ e2;rw[<-e1];exact Hm (λk j hj=>UE hc'.1.2 (bL hj)) (m.fr t)
   ·exact hk.elim
  |false=>
   simp only at hk
   obtain⟨σ2,_,S2,hk,hS2,m2,_⟩:=oE hk m;split at hk
   ·rename_i ds' hds
    cases hc:Qb (Hr 0 (reach σ2.ob 400 [] roots))with
    |false=>rw[hc]at hk;exact hk.elim
    |true=>
     rw[hc,AI]at hk
     obtain⟨e1,e2⟩:=hk;obtain⟨us,q1,hrd⟩:=zb2 F m2 _ ds' hds;have hlen:=hrd.len;refine out m2 _ hc _ (runv us q1) ?_ e2;rw[<-e1];cases ds' with
     |nil=>
      rw[dif_neg (by simp at hlen;simp[hlen])]
      exact Rp.rd (.tup _ _ (by simpa using hlen) λi d hd=>by simp at hd)
     |cons d1 rest=>
      cases rest with
      |nil=>
       have h1:us.length=1:=by simpa using hlen
       rw[dif_pos h1];exact(hrd.get_ 0 _ d1 (Aac (by omega)) rfl).rd
      |cons d2 rest=>
       rw[dif_neg (by rw[hlen];simp)]
       exact Rp.rd (.tup _ _ (by simpa using hlen) λi d hd=>VH (vs:=us.toArray) (by simpa using hrd) i d hd)
   ·exact hk.elim
 cases e<;>simp only[zdk,Option.some.injEq,reduceCtorEq]at he<;>subst he
 ·obtain⟨h1,v,h2,h3⟩:=fin hk;exact⟨h1,v,h2,.inl ⟨r,hp',hR,h3⟩⟩
 ·exact hk.elim
 ·obtain⟨h1,v,h2,h3⟩:=fin hk;exact⟨h1,v,h2,.inl ⟨r,hp',hR,h3⟩⟩
theorem zmf(F:sR P E){f:AcH}{fn:Func}{body:Code}{args roots:AcO}{hp hp':List (Nat×yN)}{own:Bool}{r:D}(hf:P.funcs[f]? =some fn)(hb:fn.body=some body)(hn:A.n=fn.ntmps)(hle:args.length<=fn.ntmps)
  (h:(∀d∈args,B7 d)->(∀k o,yG k hp=some o->okO o)->fnH P E A fn.results.toList body args hp roots own λd h'=>d=r/\h'=hp'):zic P f args hp r hp':=by
 intro w S vs pl0 hS hl hv hh hg;refine(zb4 F hf hb hn hle (T:=λ_=>False) (λh1 h2=>by have:=h h1 h2;unfold fnX;rw[zir];exact this) w S vs pl0 hS hl hv hh hg).mono λe w' h=> ?_
 rcases h with⟨_,_,⟨rfl,rfl⟩,h'⟩|⟨_,_,h',_⟩
 ·exact h'
 ·exact h'.elim
theorem zkp(F:sR P E){f:AcH}{fn:Func}{body:Code}{args roots:AcO}{hp hp':List (Nat×yN)}{own:Bool}{r:D}(hf:P.funcs[f]? =some fn)(hb:fn.body=some body)(hn:A.n=fn.ntmps)(hle:args.length<=fn.ntmps)
  (h:(∀d∈args,B7 d)->(∀k o,yG k hp=some o->okO o)->fnX P E A fn.results.toList body args hp roots own (λd h'=>d=r/\h'=hp') λ_=>False):zic P f args hp r hp':=by
 intro w S vs pl0 hS hl hv hh hg;refine(zb4 F hf hb hn hle h w S vs pl0 hS hl hv hh hg).mono λe w' h=> ?_
 rcases h with⟨_,_,⟨rfl,rfl⟩,h'⟩|⟨_,_,h',_⟩
 ·exact h'
 ·exact h'.elim
theorem zmg(F:sR P E){f:AcH}{fn:Func}{body:Code}{args roots:AcO}{hp:List (Nat×yN)}{own:Bool}{u:Value}(hf:P.funcs[f]? =some fn)(hb:fn.body=some body)(hn:A.n=fn.ntmps)(hle:args.length<=fn.ntmps)
  (h:(∀d∈args,B7 d)->(∀k o,yG k hp=some o->okO o)->fnX P E A fn.results.toList body args hp roots own (λ_ _=>False) λu'=>u'=u):zlR P f args hp u:=by
 intro w S vs pl0 hS hl hv hh hg;refine(zb4 F hf hb hn hle h w S vs pl0 hS hl hv hh hg).mono λe w' h=> ?_
 rcases h with⟨_,_,h',_⟩|⟨_,h1,rfl,h2⟩
 ·exact h'.elim
 ·exact⟨h1,h2⟩
end
def zn2(P:AcJ)(x:AcI×(Bool×AcO)):Bool:=match P.info? x.1,P.underlying x.1 with
 |some i,some u=>(match i.zero with
  |some z=>Nat.beq i.size x.2.2.length&&(zjN u==x.2.1)&&F1 z.cells.toList x.2.2&&(x.2.1||Nat.beq x.2.2.length 1)&&(!Vz x.2.2||memT zc7 x.1 x.2.2.length)
  |none=>false)
 |_,_=>false
def zn3(e:AcI):Option TypeDesc->Bool
 |some (.slice e')=>Nat.beq e' e
 |_=>false
def zm1(P:AcJ)(x:AcI×(AcI×Ty)):Bool:=zn3 x.2.1 (P.underlying x.1)&&(match P.info? x.2.1 with
 |some i=>Nat.beq i.size x.2.2.size&&Nat.beq i.bytes x.2.2.bytes&&(match i.zero with
  |some z=>F1 z.cells.toList (cells x.2.2 x.2.2.dflt)
  |none=>false)
 |none=>false)
def zb5:List (Nat×Nat)->List (Nat×Nat)->Bool
 |[],[]=>true
 |(a,b)::r,(c,d)::r'=>Nat.beq a c&&Nat.beq b d&&zb5 r r'
 |_,_=>false
theorem zav:∀ {a b:List (Nat×Nat)},zb5 a b=true->a=b
 |[],[],_=>rfl
 |(a,b)::r,(c,d)::r',h=>by
  simp only[zb5,If]at h
  rw[xG.1 h.1.1,xG.1 h.1.2,zav h.2]
 |[],_::_,h=>by cases h
 |_::_,[],h=>by cases h
def zkq(P:AcJ)(x:AcI×List (Nat×Nat)):Bool:=match P.underlying x.1 with
 |some (.struct fs)=>(match fs.toList.mapM λf=>(P.info? f.type).map λi=>(f.offset,i.size)with
  |some offs=>zb5 offs x.2&&x.2.all λy=> !Nat.beq y.2 0
  |none=>false)
 |_=>false
def zhq:Option TypeDesc->Bool
 |some .string=>true
 |_=>false
def zaw(k:IntKind):Option TypeDesc->Bool
 |some (.int k')=>decide (k'=k)
 |_=>false
def zhr:Option TypeDesc->Bool
 |some .bool=>true
 |_=>false
def zds:Option TypeDesc->Bool
 |some (.struct _)=>true
 |_=>false
def zkr(P:AcJ)(kT:AcI):Ty->Bool
 | .int=>zaw .i64 (P.underlying kT)
 | .str=>zhq (P.underlying kT)
 | .pr .int .int=>match P.underlying kT with
  |some (.array n e)=>Nat.beq n 2&&zaw .i64 (P.underlying e)&&(P.info? e).isSome&&Nat.beq (P.cellsOf e) 1
  |_=>false
 |_=>false
def zm2(P:AcJ)(x:AcI×(Ty×Ty)):Bool:=match P.underlying x.1 with
 |some (.map kT eT)=>zkr P kT x.2.1&&(match P.info? eT with
  |some i=>(match i.zero,cells x.2.2 x.2.2.dflt with
   |some z,[d]=>zB z d&&z.oneCell'
   |_,_=>false)
  |none=>false)
 |_=>false
def zmh:List (Bool×Nat)->List (Bool×Nat)->Bool
 |[],[]=>true
 |x::xs,y::ys=>(x.1==y.1)&&Nat.beq x.2 y.2&&zmh xs ys
 |_,_=>false
theorem zhs:∀ {xs ys:List (Bool×Nat)},zmh xs ys=true->xs=ys
 |[],[],_=>rfl
 |x::xs,y::ys,h=>by
  simp only[zmh,If,beq_iff_eq]at h
  rw[zhs h.2,show x=y from Prod.ext h.1.1 (xG.1 h.1.2)]
 |[],_::_,h=>by cases h
 |_::_,[],h=>by cases h
def zm3(P:AcJ)(x:AcI×Ty):Bool:=zds (P.underlying x.1)&& !P.stoodInHeld x.1&& !P.eqGuardType P.depth x.1&&(match fkT x.2,(P.fieldsOf x.1).toList.mapM (zlT P)with
 |some l,some l'=>zmh l l'
 |_,_=>false)
def zks(P:AcJ)(T:AcI):Bool:=match P.underlying T with
 |some (.array n e)=>Nat.beq n 2&&(match P.info? e with
  |some i=>Nat.beq i.size 1
  |none=>false)
 |_=>false
def zht(P:AcJ)(x:AcI×(AcI×Ty)):Bool:=match x.2.2 with
 | .byte=>(match P.info? x.2.1 with
  |some i=>(match i.zero with
   |some (.int .u8 n)=>decide (n=0)
   |_=>false)
  |none=>false)
 |_=>true
def TE.chk2(E:TE)(P:AcJ):Bool:=E.mps.all (zm2 P)&&E.sts.all (zm3 P)&&E.arr.all (zks P)&&E.sl.all (zht P)
def TE.chk(E:TE)(P:AcJ):Bool:=E.zs.all (zn2 P)&&E.sl.all (zm1 P)&&E.fld.all (zkq P)&&E.strs.all (λT=>zhq (P.underlying T))&&E.ints.all (λx=>zaw x.2 (P.underlying x.1))&&E.bools.all λT=>zhr (P.underlying T)
theorem UK{α:Type}{p:Nat×α->Bool}{l:List (Nat×α)}(h:l.all p=true){k:Nat}{a:α}(hl:yG k l=some a):p (k,a)=true:=Aao.1 h _ (bL hl)
theorem JM{k:Nat}:∀ {l:AcU},pX k l=true->k∈l
 |[],h=>by cases h
 |i::r,h=>by
  unfold pX at h
  cases hb:Nat.beq i k with
  |true=>rw[xG.1 hb];exact Ks
  |false=>rw[hb,Vs]at h;exact On _ (JM h)
theorem zkt{P:AcJ}{E:TE}(hm:P.follows .mixedOrders=true)(h:E.chk P=true)(h':E.chk2 P=true)(hs:∀x∈E.sig,∀args w,(callFunc x.1 args).run P w=.ok (.enter x.1 args) w)(hh:∀x∈E.hsig,Ent P x.1):sR P E:=by
 simp only[TE.chk2,If]at h'
 obtain⟨⟨⟨k1,k2⟩,k3⟩,k4⟩:=h';simp only[TE.chk,If]at h
 obtain⟨⟨⟨⟨⟨h1,h2⟩,h3⟩,h4⟩,h5⟩,h6⟩:=h;refine⟨λT ag cs hl=> ?_,λT e t hl=> ?_,λT offs hl=> ?_,λT hl=> ?_,λT k hl=> ?_,λT hl=> ?_,λf rs hl=>hs (f,rs) (bL hl),λf x hl=>hh (f,x) (bL hl),λT hl=> ?_,λT k v hl=> ?_,λT t hl=> ?_,hm,λT e hl=> ?byt⟩
 case byt=>
  have:=UK k4 hl;unfold zht at this
  simp only at this
  split at this
  ·rename_i i hi
   split at this
   ·rename_i n hz;exact⟨i,hi,by rw[hz,By this]⟩
   ·cases this
  ·cases this
 ·have:=UK h1 hl
  unfold zn2 at this
  split at this
  ·rename_i i u hi hu
   split at this
   ·rename_i z hz
    simp only[If,AaJ,beq_iff_eq]at this
    obtain⟨⟨⟨⟨q1,q2⟩,q3⟩,q4⟩,q5⟩:=this;refine⟨λhh=>by rw[hh]at q5;simpa using q5,⟨i,z,u,hi,hz,xG.1 q1,hu,q2,q3⟩,λhag=> ?_⟩
    rcases q4 with q4|q4
    ·rw[hag]at q4;cases q4
    ·exact xG.1 q4
   ·cases this
  ·cases this
 ·have:=UK h2 hl
  unfold zm1 at this
  simp only[If]at this
  obtain⟨q1,q2⟩:=this;split at q2
  ·rename_i i hi
   simp only[If]at q2
   split at q2
   ·rename_i z hz
    refine⟨?_,i,z,hi,hz,xG.1 q2.1.1,xG.1 q2.1.2,q2.2⟩;unfold zn3 at q1
    split at q1
    ·rename_i e' he
     have he':P.underlying T=some (.slice e'):=he;rw[he',xG.1 q1]
    ·cases q1
   ·have:=q2.2;cases this
  ·cases q2
 ·have:=UK h3 hl
  unfold zkq at this
  split at this
  ·rename_i fs hu
   split at this
   ·rename_i offs' ho
    simp only[If]at this
    refine⟨fs,hu,?_,this.2⟩;rw[ho,zav this.1]
   ·cases this
  ·cases this
 ·have:=Aao.1 h4 _ (JM hl)
  unfold zhq at this
  split at this
  ·rename_i e;exact e
  ·cases this
 ·have:=UK h5 hl
  unfold zaw at this
  split at this
  ·rename_i k' e
   have e':P.underlying T=some (.int k'):=e;rw[e',By this]
  ·cases this
 ·have:=Aao.1 h6 _ (JM hl)
  unfold zhr at this
  split at this
  ·rename_i e;exact e
  ·cases this
 ·have:=Aao.1 k3 _ (JM hl)
  unfold zks at this
  split at this
  ·rename_i n e hu
   simp only[If]at this
   split at this
   ·rename_i i hi
    obtain rfl:=xG.1 this.1;exact⟨e,i,hu,hi,xG.1 this.2⟩
   ·cases this.2
  ·cases this
 ·have:=UK k1 hl
  unfold zm2 at this
  split at this
  ·rename_i kT eT hu
   simp only[If]at this
   obtain⟨q1,q2⟩:=this;split at q2
   ·rename_i i hi
    split at q2
    ·rename_i z d hz hc
     simp only[If]at q2
     refine⟨kT,eT,i,z,d,hu,?_,hi,hz,hc,q2.1,q2.2⟩;unfold zkr at q1
     unfold Hi;split at q1
     ·unfold zaw at q1
      split at q1
      ·rename_i k' e;rw[show P.underlying kT=some (.int k')from e,By q1]
      ·cases q1
     ·unfold zhq at q1
      split at q1
      ·rename_i e;exact e
      ·cases q1
     ·split at q1
      ·rename_i n e he
       simp only[If]at q1
       obtain⟨⟨⟨p1,p2⟩,p3⟩,p4⟩:=q1;obtain rfl:=xG.1 p1;obtain⟨i',hi'⟩:=Acl.1 p3;refine⟨e,i',he,?_,hi',xG.1 p4⟩;unfold zaw at p2
       split at p2
       ·rename_i k' e';rw[show P.underlying e=some (.int k')from e',By p2]
       ·cases p2
      ·cases q1
     ·cases q1
    ·cases q2
   ·cases q2
  ·cases this
 ·have:=UK k2 hl
  simp only[zm3,If,AaI]at this
  obtain⟨⟨⟨q1,q2⟩,q3⟩,q4⟩:=this
  have hst:P.underlying T=some (.struct (P.fieldsOf T)):=by
   unfold zds at q1
   split at q1
   ·rename_i fs e
    have e:P.underlying T=some (.struct fs):=e;unfold Program.fieldsOf;rw[e]
   ·cases q1
  split at q4
  ·rename_i l l' e1 e2
   exact⟨hst,q2,q3,l,e1,by rw[e2,zhs q4]⟩
  ·cases q4
def We(f:Func):Code:=match f.body with
 |some c=>c
 |none=> .skip
abbrev zW(t:Ty)(xs:List t.den)(i:Nat):t.den:=xs.getD i t.dflt
theorem zA{b:Bool}{X Y:Prop}(h1:b=true->X)(h2:b=false->Y):zJ b X Y:=by
 cases b
 ·exact h2 rfl
 ·exact h1 rfl
theorem DU{X Y:Prop}:zJ true X Y=X:=rfl
theorem Hs{X Y:Prop}:zJ false X Y=Y:=rfl
theorem zI{P:AcJ}{f:AcH}{args:AcO}{t:Ty}{K:t.den->Prop}{x:t.den}(h:VA P f args (TS t x))(hk:K x):zjJ P f args t K:=⟨x,h,hk⟩
theorem Pk{P:AcJ}{f:AcH}{args:AcO}{t u:Ty}{K:t.den->u.den->Prop}{x:t.den}{y:u.den}(h:VA P f args (.tup [TS t x,TS u y]))(hk:K x y):zjK P f args t u K:=⟨x,y,h,hk⟩
theorem zdt{P:AcJ}{f:AcH}{args:AcO}{t u v:Ty}{K:t.den->u.den->v.den->Prop}{x:t.den}{y:u.den}{z:v.den}(h:VA P f args (.tup [TS t x,TS u y,TS v z]))(hk:K x y z):zjL P f args t u v K:=⟨x,y,z,h,hk⟩
end Go.Proofs.YtogdmcebojiojaaGreatDoor
