/- Texts of this proof, one behind the other: nothing is handed in but what is proved here; no condition. -/
import Derived.Laws.StructEq
import Derived.ChangeKeysEq
import Derived.MapKept
import Derived.LoopN
import Derived.Orders
import Derived.Still
import Derived.Test.YtogdmcebojiojaaGreatDoorZA
namespace Go.Proofs.YtogdmcebojiojaaGreatDoor
open Go.RowKit
set_option maxRecDepth 100000
set_option linter.unusedVariables false
set_option linter.unusedSimpArgs false
section
variable {P:Program}{E:TE}{A:wA}{b0:Vy}{w w':World}{S S':Nat→Prop}{pl pl':Nat→Value}{N:Nat}{σ:St}{a:Act}{v:Value}{d:D}{o:Oper}{K:D→St→Prop}{next:Act→World→Prop}{Q:Exit→Act→World→Prop}
theorem DX{α:Type}{s:Nat}:∀(css:List (List α)) (_:∀cs∈css,cs.length=s),css.flatten.length=css.length*s
 |[],_=>by simp
 |c::css,hl=>by
  have ih:=DX css (λcs hcs=>hl cs (by simp[hcs]))
  simp only[List.flatten_cons,List.length_append,List.length_cons,ih,hl c (by simp),Nat.succ_mul];omega
theorem zad(off:Nat):∀(vl:List Value) (j0:Nat) (cells:Array Value) (p:Nat),off+j0+vl.length≤cells.size→
  ((vl.zipIdx j0).foldl (λcs (x:Value×Nat)=>cs.setIfInBounds (off+x.2) x.1) cells)[p]? =(if off+j0≤p∧p<off+j0+vl.length then vl[p-(off+j0)]? else cells[p]?)
 |[],j0,cells,p,h=>by simp;intro h1 h2;omega
 |v::vl,j0,cells,p,h=>by
  simp only[List.length_cons]at h
  rw[List.zipIdx_cons,List.foldl_cons,zad off vl (j0+1) _ p (by simp;omega)]
  by_cases h1:p=off+j0
  ·subst h1
   rw[if_neg (by omega),if_pos (by simp),Array.getElem?_setIfInBounds_self_of_lt (by omega)]
   simp
  ·rw[Array.getElem?_setIfInBounds_ne (Ne.symm h1)]
   by_cases h2:off+(j0+1)≤p∧p<off+(j0+1)+vl.length
   ·rw[if_pos h2,if_pos (by simp;omega)]
    rw[show p-(off+j0)=(p-(off+(j0+1)))+1 by omega,List.getElem?_cons_succ]
   ·rw[if_neg h2,if_neg (by simp;omega)]
theorem DY(off:Nat):∀(l:List (Value×Nat)) (cells:Array Value),(l.foldl (λcs (x:Value×Nat)=>cs.setIfInBounds (off+x.2) x.1) cells).size=cells.size
 |[],_=>rfl
 |x::l,cells=>by rw[List.foldl_cons,DY off l];simp
theorem zgJ(vs:Array Value)(off:Nat)(cells:Array Value)(h:off+vs.size≤cells.size):
  (vs.zipIdx.foldl (λcs (x:Value×Nat)=>cs.setIfInBounds (off+x.2) x.1) cells).toList=spl cells.toList off vs.toList:=by
 have hl:vs.zipIdx.toList=vs.toList.zipIdx 0:=by simp
 rw[←Array.foldl_toList,hl];apply List.ext_getElem?;intro p;rw[Array.getElem?_toList,zad off vs.toList 0 cells p (by simp;omega),Mq (by simp;omega)]
 simp
theorem BA(m:rL P b0 N σ a w S pl){place:Nat→Option (Nat×Nat)}:∀(parts:List (Nat×Operand)) (ds ds':List D) (cells:Array Value),OB σ place ds parts=some ds'→xP (Rc w S pl) cells.toList ds→
  ∃cells',Instr.fill place cells (parts.map λx=>(x.1,a.eval x.2))=some cells'∧xP (Rc w S pl) cells'.toList ds'
 |[],ds,ds',cells,h,hr=>by
  injection h with h;subst h
  exact⟨cells,rfl,hr⟩
 |(f,x)::r,ds,ds',cells,h,hr=>by
  unfold OB at h
  cases hp:place f with
  |none=>rw[hp]at h;cases h
  |some y=>
   obtain⟨off,sz⟩:=y;rw[hp]at h
   simp only at h
   have hnew:∀new,Pl σ (σ.ev x) ds[off]? =some new→xP (Rc w S pl) (a.eval x).cells.toList new:=by
    intro new hn;unfold Pl at hn
    split at hn
    ·rename_i t ys e1 e2
     injection hn with hn;subst hn
     have hx:=sF m x;rw[e1]at hx
     rw[(hx.flat (d:=.nil) rfl).nil_inv];exact .cons ⟨Rp.rd (.sl _ _ _ ⟨[.slice none 0 0],rfl,none,0,rfl,by simp,by simp,by simp,λ_=>rfl,λhn=>absurd hn (by simp)⟩),λ_=>rfl⟩ .nil
    ·rename_i t ys nl e1
     injection hn with hn;subst hn
     have hx:=sF m x;rw[e1]at hx
     have h1:=(hx.flat (d:=.slN t ys nl) rfl).slN_inv.1;obtain⟨A,c,e,_⟩:=sO h1;rw[show(a.eval x).cells.toList=[a.eval x] by rw[e];rfl]
     exact .cons ⟨Rp.rd (.sl _ _ _ h1),λ_=>by rw[e];rfl⟩ .nil
    ·exact Ka m (sF m x) hn
   split at h
   ·rename_i new he
    have hn:=hnew new he;cases hb:Nat.beq new.length sz&&Nat.ble (off+sz) ds.length with
    |false=>rw[hb]at h;cases h
    |true=>
     rw[hb,cond_true]at h
     simp only[Bool.and_eq_true]at hb
     have h1:=yY.1 hb.1;have h2:=Nat.le_of_ble_eq_true hb.2;have hl:=hr.len;have hl2:=hn.len;simp only[Array.length_toList]at hl hl2
     have hs:=xP.spl hr hn (off:=off) (by omega)
     rw[←zgJ _ _ _ (by omega)]at hs
     obtain⟨cells',q1,q2⟩:=BA m r _ ds' _ h hs;refine⟨cells',?_,q2⟩;rw[List.map_cons];unfold Instr.fill;rw[hp];simp only
     rw[if_neg (by
      intro h;simp only[Bool.or_eq_true,decide_eq_true_eq]at h
      omega)]
     exact q1
   ·cases h
theorem zj8{vs:List Value}{ds:List D}(h:Iv vs ds=true):xP (Rc w S pl) vs ds:=(Na (w:=w) (S:=S) h).imp λ_ _ h=>⟨h.rd,zcm h⟩
theorem zgK(F:tT P E){T:TypeId}{pf:Nat→Option (Nat×Nat)}(h:Bq E T=some pf){i:TypeInfo}{z:Value}(hi:P.info? T=some i)(hz:i.zero=some z)(parts:List (Nat×Value)):P.built T parts=Instr.fill pf z.cells parts:=by
 unfold Bq at h
 cases hm:qO T E.arr with
 |true=>
  rw[hm,cond_true]at h;injection h with h;subst h
  obtain⟨e,ie,hu,hie,hs⟩:=F.arr T hm;unfold Program.built;rw[hi,hu];simp only[hz,hie,hs,Nat.mul_one]
 |false=>
  rw[hm,cond_false]at h
  split at h
  ·rename_i offs hf
   injection h with h;subst h
   obtain⟨fs,hu',hm,_⟩:=F.fld T offs hf;unfold Program.built;rw[hi,hu'];simp only[hz,hm];have:(λi:Nat=>offs.toArray[i]?)=λi:Nat=>offs[i]? :=by funext i;simp
   rw[this]
  ·cases h
theorem zgL(F:tT P E)(m:rL P b0 N σ a w S pl){T:TypeId}{parts:Array (Nat×Operand)}(ho:o.op=.build T parts)(h:Gf E A o T parts.toList σ K)(hn:sX P b0 N o a K next):o.wp P a w next Q:=by
 unfold Gf at h
 split at h
 ·rename_i zs pf hl hf
  obtain⟨i,z,u,hi,hz,hsz,hu,hag,hzb⟩:=(F.zs T true zs hl).ex;split at h
  ·rename_i ds hfill
   obtain⟨cells',q1,q2⟩:=BA m _ _ _ z.cells hfill (zj8 hzb)
   have hb:P.built T (parts.toList.map λx=>(x.1,a.eval x.2))=some cells':=by
    rw[zgK F hf hi hz];exact q1
   have hrun:(execOp a.eval o).run P w=.ok (.value (.agg cells')) w:=by
    unfold execOp;rw[ho];have e:(parts.map λx=>(x.1,a.eval x.2)).toList=parts.toList.map λx=>(x.1,a.eval x.2):=by simp
    have:=run_build (P:=P) w T (parts.map λx=>(x.1,a.eval x.2)) cells' (by rw[e];exact hb)
    simp only[Sem.run_bind,this,Result.andThen_ok,Sem.run_pure]
   cases hv:qO T E.vals&&Bp o.dst with
   |true=>
    rw[hv,cond_true]at h
    simp only[Bool.and_eq_true]at hv
    have hst:stabK (ze8 o.dst)=false:=by
     have:=hv.2;cases hd:o.dst with
     |none=>rw[hd]at this;cases this
     |some j=>rw[hd]at this;simpa[Bp,ze8]using this
    refine yN hrun (hn _ _ _ _ _ _ h (m.mk' (w':=w) (ze8 o.dst) hst _ (.agg cells') (Below.refl _ _) (λb hb=>by cases hb) λpl' hpl=> ?_) (if_pos rfl).symm)
    refine⟨cells',rfl,by have:=q2.len;simpa using this,λj d hd=> ?_⟩
    simp only[List.getElem?_map,Option.map_eq_some_iff]at hd
    obtain⟨d0,hd0,rfl⟩:=hd;obtain⟨u0,hu0,hr1,hr2⟩:=q2.at hd0;have e:cells'.getD j undef=u0:=by rw[Array.getD_eq_getD_getElem?];rw[Array.getElem?_toList]at hu0;rw[hu0];rfl
    rw[e];exact⟨(hr1.kill _).mono (λ_ _=>rfl) (λ_ h=>h) λk hk=>hpl k λek=>WG _ _ (ek▸hk),λhc=>hr2 (Pj hc)⟩
   |false=>
    rw[hv,cond_false]at h
    obtain⟨σ',ds',S',hK,hS,m',hv⟩:=pH h m;have hr:=hv _ (q2.imp λ_ _ h=>h.1)
    exact yN hrun (hn _ _ _ _ _ _ hK m' (Rp.rd (.agg _ _ (by simpa using hr.len) λj d hd=>XQ hr j d hd)))
  ·exact h.elim
 ·exact h.elim
theorem zae{t:Ty}:∀(n:Nat) (ds:List D) (xs:List t.den) (vs:List Value),elems t n ds=some xs→xP (Rp w S) vs ds→vs.length=n*t.size→
  ∃css:List (List Value),css.flatten=vs∧css.length=xs.length∧xs.length=n∧(∀cs∈css,cs.length=t.size)∧∀(i:Nat) (x:t.den) (cs:List Value),xs[i]? =some x→css[i]? =some cs→vS.rd w S cs x
 |0,ds,xs,vs,h,hr,hl=>by
  injection h with h;subst h
  have:vs=[]:=List.eq_nil_of_length_eq_zero (by omega)
  subst this;exact⟨[],rfl,rfl,rfl,by simp,by simp⟩
 |n+1,ds,xs,vs,h,hr,hl=>by
  unfold elems at h
  split at h
  ·rename_i x ys h1 h2
   injection h with h;subst h
   rw[Nat.succ_mul]at hl
   obtain⟨css,e1,e2,e3,e4,e5⟩:=zae n _ _ (vs.drop t.size) h2 (hr.drop t.size) (by simp;omega)
   have hlen:(vs.take t.size).length=t.size:=by simp;omega
   refine⟨vs.take t.size::css,by rw[List.flatten_cons,e1,List.take_append_drop],by simp[e2],by simp[e3],λcs hcs=> ?_,λi z cs hz hcs=> ?_⟩
   ·rcases List.mem_cons.1 hcs with rfl|hcs
    ·exact hlen
    ·exact e4 cs hcs
   ·cases i with
    |zero=>
     simp at hz hcs;subst hz hcs
     exact RH t h1 (hr.take t.size)
    |succ i=>exact e5 i z cs (by simpa using hz) (by simpa using hcs)
  ·cases h
theorem zcp{vs:Array Value}{css:List (List Value)}{e:TypeId}{t:Ty}{xs:List t.den}(hw:w'.heap[w.heap.size]? =some (.cells vs e (0,0)))(h1:css.flatten=vs.toList)(h2:css.length=xs.length)(h3:∀cs∈css,cs.length=t.size)
  (h4:∀(i:Nat) (x:t.den) (cs:List Value),xs[i]? =some x→css[i]? =some cs→vS.rd w' S cs x) (hb:wN t xs.length=true):
  Xf w' S pl (.slice (some ⟨w.heap.size,0,none⟩) xs.length xs.length) (.row e t xs):=by
 have hb:xs.length*t.bytes≤140737488355328:=of_decide_eq_true hb;have hbp:0<t.bytes:=t.bytes_pos;have hle:xs.length≤xs.length*t.bytes:=Nat.le_mul_of_pos_right _ hbp;refine⟨hb,css,h2,⟨by rw[WF _ h3,h2],.inr ⟨w.heap.size,xs.length,vs,rfl,Nat.zero_le _,hw,Nat.le_refl _,by unfold maxLen;omega,?_,?_⟩⟩,h3,h4⟩
 ·rw[←Array.length_toList,←h1,WF _ h3,h2]
 ·rw[h1,List.take_of_length_le];rw[←h1,WF _ h3,h2];exact Nat.le_refl _
theorem zea{vs:Array Value}{n:Nat}{ds:List D}{t:Ty}{xs:List t.den}(e:TypeId)(hr:xP (Rp w S) vs.toList ds)(h:elems t n ds=some xs)(hl:vs.size=n*t.size)(hb:wN t n=true)(m:rL P b0 N σ a w S pl):
  xs.length=n∧(∀k,stabK k=false→rL P b0 N (σ.mk' k (.row e t xs)) a (w.alloc (.cells vs e)) S (PJ pl k (.slice (some ⟨w.heap.size,0,none⟩) n n)))∧
   rL P b0 N σ a (w.alloc (.cells vs e)) (λb=>S b∨b=w.heap.size) pl∧Yd (w.alloc (.cells vs e)) (λb=>S b∨b=w.heap.size) (.slice (some ⟨w.heap.size,0,none⟩) n n) xs:=by
 obtain⟨css,e1,e2,e3,e4,e5⟩:=zae n ds xs vs.toList h hr (by simpa using hl)
 have hkeep:=Nc m (.cells vs e)
 have key:∀S',(∀b,S b→S' b)→∀pl',Xf (w.alloc (.cells vs e)) S' pl' (.slice (some ⟨w.heap.size,0,none⟩) xs.length xs.length) (.row e t xs):=λS' hS' pl'=>
  zcp (w:=w) (heap_alloc_new w _) e1 e2 e4 (λi x cs hx hcs=>vS.mono (e5 i x cs hx hcs) hkeep hS') (by rw[e3];exact hb)
 rw[←e3];refine⟨rfl,λk hst=>m.mk' (w':=w.alloc (.cells vs e)) k hst _ _ (RN w _) (λb hb'=>by injection hb' with hb';subst hb';exact⟨Nat.le_refl _,by show w.heap.size<_;rw[Nb];omega⟩) λpl' _=>key S (λ_ h=>h) pl',m.newS _,?_⟩
 have:=X0 (key S (λ_ h=>h) pl)
 exact Yd.mono this (λ_ _=>rfl) λb hb'=>by
  rcases hb' with hb'|hb'
  ·exact .inl hb'
  ·injection hb' with hb';exact .inr hb'.symm
theorem Gi{z:Value}{t:Ty}(hz:Iv z.cells.toList (cells t t.dflt)=true)(hs:(cells t t.dflt).length=t.size)(n:Nat):
  xP (Rp w S) (madeCells z.cells (n*t.size)).toList (List.replicate n (cells t t.dflt)).flatten:=by
 have hr:xP (Rp w S) z.cells.toList (cells t t.dflt):=Na hz;have hzl:z.cells.size=t.size:=by have:=hr.len;simp at this;omega
 have hpos:0<t.size:=by rw[Ty.size_eq];exact vS.pos
 have hlen:(List.replicate n (cells t t.dflt)).flatten.length=n*t.size:=by
  rw[DX (s:=t.size)]
  ·simp
  ·intro cs hcs;rw[(List.mem_replicate.1 hcs).2,hs]
 refine xP.of (by rw[hlen];simp[madeCells]) λi u d hu hd=> ?_
 have hi:i<n*t.size:=by rw[←hlen];exact(List.getElem?_eq_some_iff.1 hd).1
 rw[RO hpos _ (λcs hcs=>by rw[(List.mem_replicate.1 hcs).2,hs])]at hd
 have hq:i/t.size<n:=Nat.div_lt_of_lt_mul (by rw[Nat.mul_comm];exact hi)
 rw[List.getElem?_replicate,if_pos hq]at hd
 simp only[Option.bind_some]at hd
 have hu':u=z.cells[i%z.cells.size]! :=by
  simp only[madeCells,Array.toList_map,Array.toList_range,List.getElem?_map,List.getElem?_range hi,Option.map_some,Option.some.injEq]at hu
  exact hu.symm
 obtain⟨u2,h1,h2⟩:=hr.at hd;rw[hu',hzl]
 have:z.cells[i%t.size]! =u2:=by
  rw[Array.getElem?_toList]at h1
  simp[getElem!_def,h1]
 rw[this];exact h2
theorem EV(F:tT P E)(m:rL P b0 N σ a w S pl){T:TypeId}{len:Nat}{parts:Array (Nat×Operand)}(ho:o.op=.buildSlice T len parts)(h:Xg E A o T len parts.toList σ K)(hn:sX P b0 N o a K next):o.wp P a w next Q:=by
 unfold Xg at h
 split at h
 ·rename_i e t hl
  obtain⟨hu,i,z,hi,hz,hsz,hby,hzb⟩:=F.sl T e t hl;cases hb:wN t len&&Nat.ble (len*t.size) 16777216 with
  |false=>rw[hb]at h;exact h.elim
  |true=>
   rw[hb,cond_true]at h
   simp only[Bool.and_eq_true]at hb
   have hle:=Nat.le_of_ble_eq_true hb.2;split at h
   ·rename_i ds hfill
    have hz0:=Gi (w:=w) (S:=S) hzb (eJ t _) len;obtain⟨cells',q1,q2⟩:=BA m _ _ _ (madeCells z.cells (len*t.size)) hfill (hz0.imp λ_ _ h=>⟨h.rd,zcm h⟩)
    have hsize:cells'.size=len*t.size:=by
     have key:∀(place:Nat→Option (Nat×Nat)) (l:List (Nat×Value)) (c c':Array Value),Instr.fill place c l=some c'→c'.size=c.size:=by
      intro place l
      induction l with
      |nil=>intro c c' h;injection h with h;rw[h]
      |cons x l ih=>
       intro c c' h;obtain⟨i,v⟩:=x;unfold Instr.fill at h
       split at h
       ·cases h
       ·split at h
        ·cases h
        ·rw[ih _ _ h]
         rw[←Array.foldl_toList];exact DY _ _ _
     rw[key _ _ _ _ q1];simp[madeCells]
    have hpos:0<t.size:=by rw[Ty.size_eq];exact vS.pos
    have hrun:(execOp a.eval o).run P w=.ok (.value (.slice (some ⟨w.heap.size,0,none⟩) len len)) (w.alloc (.cells cells' e)):=by
     unfold execOp;rw[ho];have hs:(sizeOf e).run P w=.ok t.size w:=Nf F hl;have e2:(parts.map λx=>(x.1,a.eval x.2)).toList=parts.toList.map λx=>(x.1,a.eval x.2):=by simp
     have hzv:(zeroValue e).run P w=.ok z w:=by simp[zeroValue,typeInfo,hi,hz]
     simp only[Instr.buildSlice,Sem.run_bind,run_underlying hu,Result.andThen_ok,hs,if_neg (Nat.not_lt.2 hle),Sem.run_pure]
     by_cases h0:len*t.size=0
     ·rw[h0]at q1
      have hm:madeCells z.cells 0= #[]:=by simp[madeCells]
      rw[hm]at q1
      rw[if_pos h0,h0];have hr0:((Array.range 0).map λx=>(#[]:Array Value)[x%(#[]:Array Value).size]!)= #[]:=by simp
      simp only[Sem.run_bind,Sem.run_pure,Result.andThen_ok];rw[e2,hr0,q1];rfl
     ·rw[if_neg h0]
      simp only[Sem.run_bind,Sem.run_pure,Result.andThen_ok,hzv];have q1':=q1;unfold madeCells at q1'
      rw[e2,q1'];rfl
    obtain⟨σ',ds',S',hK,hS,m',hv⟩:=pH h m;have hr:=hv _ (q2.imp λ_ _ h=>h.1)
    split at hK
    ·rename_i xs hel
     obtain⟨r1,r2,r3,r4⟩:=zea e hr hel hsize hb.1 m';split at hK
     ·rename_i k hk
      refine yN hrun (hn _ _ _ _ _ _ hK (r2 k (eL ‹_›)) ?_);cases qO k A.nn
      ·exact(if_pos rfl).symm
      ·exact⟨(if_pos rfl).symm,λe=>by cases e⟩
     ·exact yN hrun (hn _ _ _ _ _ _ hK r3 (Rp.rd (.sl t xs _ r4)))
    ·exact hK.elim
   ·exact h.elim
 ·exact h.elim
theorem Gj(t:Ty):∀n:Nat,ofD t (cells t t.dflt)=some t.dflt→elems t n (List.replicate n (cells t t.dflt)).flatten=some (List.replicate n t.dflt)
 |0,_=>rfl
 |n+1,h=>by
  unfold elems
  rw[List.replicate_succ,List.flatten_cons,List.take_append_of_le_length (by rw[eJ];exact Nat.le_refl _),List.take_of_length_le (by rw[eJ];exact Nat.le_refl _),
   show t.size=(cells t t.dflt).length by rw[eJ],List.drop_left,h,Gj t n h]
  rfl
theorem BB(F:tT P E)(m:rL P b0 N σ a w S pl){T:TypeId}{l c:Operand}(ho:o.op=.makeSlice T l c)(h:WH E A o T (σ.ev l) (σ.ev c) σ K)(hn:sX P b0 N o a K next):o.wp P a w next Q:=by
 have hx:=sF m l;have hy:=sF m c;unfold WH at h
 split at h
 ·rename_i e t hl
  obtain⟨hu,i,z,hi,hz,hsz,hby,hzb⟩:=F.sl T e t hl;split at h
  ·rename_i p q ex ey
   rw[ex]at hx;rw[ey]at hy
   obtain⟨hx,kx⟩:=(hx.flat (d:=.int .i64 p) rfl).int_inv;obtain⟨hy,ky⟩:=(hy.flat (d:=.int .i64 q) rfl).int_inv;obtain⟨rfl,h0,hroom,h⟩:=h;have hroom':p.toNat*t.bytes≤140737488355328:=of_decide_eq_true hroom
   have hb:(i.bytes:Int)*p≤281474976710656:=by
    rw[hby]
    have:((p.toNat*t.bytes:Nat):Int)=(t.bytes:Int)*p:=by
     rw[Int.natCast_mul,Int.toNat_of_nonneg h0,Int.mul_comm]
    omega
   have hrun:(execOp a.eval o).run P w=.ok (.value (.slice (some ⟨w.heap.size,0,none⟩) p.toNat p.toNat)) (w.alloc (.cells (madeCells z.cells (p.toNat*t.size)) e)):=by
    unfold execOp;rw[ho];have:=run_make (P:=P) w T e i z hu hi hz .i64 .i64 p p h0 (Int.le_refl _) hb ky.2;rw[hsz]at this
    simp only[hx,hy,Sem.run_bind,this,Result.andThen_ok,Sem.run_pure]
   have hr:=Gi (w:=w) (S:=S) hzb (eJ t _) p.toNat;obtain⟨r1,r2,r3,r4⟩:=zea e hr (Gj t p.toNat (Mk t)) (by simp[madeCells]) hroom m
   split at h
   ·rename_i k hk
    exact yN hrun (hn _ _ _ _ _ _ h (r2 k (eL ‹_›)) (if_pos rfl).symm)
   ·exact yN hrun (hn _ _ _ _ _ _ h r3 (Rp.rd (.sl t _ _ r4)))
  ·exact h.elim
 ·exact h.elim
end
section
variable {P:Program}{E:TE}{A:wA}{b0:Vy}{w w':World}{S S':Nat→Prop}{pl pl':Nat→Value}{N:Nat}{σ:St}{a:Act}{v:Value}{d:D}{o:Oper}{K:D→St→Prop}{next:Act→World→Prop}{Q:Exit→Act→World→Prop}
def Ms(xs ys:Array Value)(x:Bool×Nat):Bool:=match xs[x.2]?,ys[x.2]? with
 |some (.int _ p),some (.int _ q)=>p==q
 |some (.string p),some (.string q)=>p.toList==q.toList
 |_,_=>false
def Gk(xs ys:Array Value)(x:Bool×Nat):Prop:=match x.1 with
 |false=>∃p q,xs[x.2]? =some (.int .i64 p)∧ys[x.2]? =some (.int .i64 q)
 |true=>∃p q,xs[x.2]? =some (.string p)∧ys[x.2]? =some (.string q)
theorem Xi{T:TypeId}{u:TypeDesc}(hu:P.underlying T=some u)(ha:zgD u=false){xs:Array Value}{off:Nat}{v:Value}(h:xs[off]? =some v):(part T xs off).run P w=.ok v w:=by
 unfold part;simp only[Sem.run_bind,UN hu,Result.andThen_ok,ha,Bool.false_eq_true,if_false,h,Sem.run_pure]
theorem Mu(xs ys:Array Value)(dp:Nat):∀(fs:List Field) (l:List (Bool×Nat)),fs.mapM (ziM P)=some l→(∀x∈l,Gk xs ys x)→(Op.eqFields (dp+1) xs ys fs).run P w=.ok (l.all (Ms xs ys)) w
 |[],l,h,_=>by
  simp at h;subst h;rfl
 |f::fs,l,h,hg=>by
  simp only[List.mapM_cons,Option.pure_def,Option.bind_eq_bind,Option.bind_eq_some_iff,Option.some.injEq]at h
  obtain⟨x,hx,l',hl,rfl⟩:=h;have ih:=Mu xs ys dp fs l' hl λy hy=>hg y (List.mem_cons_of_mem _ hy)
  have hgx:=hg x List.mem_cons_self;unfold ziM at hx
  split at hx
  case isFalse=>cases hx
  case isTrue hn=>
   simp only[Op.eqFields];rw[if_pos hn];split at hx
   ·rename_i hu
    injection hx with hx;subst hx
    obtain⟨p,q,h1,h2⟩:=hgx;simp only[Sem.run_bind,Xi hu rfl h1,Xi hu rfl h2,Result.andThen_ok,run_equalIn_int w dp f.type .i64 .i64 p q hu];rw[List.all_cons,show Ms xs ys (false,f.offset)=(p==q) by simp[Ms,h1,h2]]
    cases(p==q)
    ·simp
    ·simp[ih]
   ·rename_i hu
    injection hx with hx;subst hx
    obtain⟨p,q,h1,h2⟩:=hgx;simp only[Sem.run_bind,Xi hu rfl h1,Xi hu rfl h2,Result.andThen_ok,run_equalIn_string w dp f.type p q hu];rw[List.all_cons,show Ms xs ys (true,f.offset)=(p.toList==q.toList) by simp[Ms,h1,h2]]
    cases(p.toList==q.toList)
    ·simp
    ·simp[ih]
   ·cases hx
theorem TP(p q:ByteArray):(p.toList==q.toList)=decide (p=q):=by
 rw[Bool.eq_iff_iff];simp only[beq_iff_eq,decide_eq_true_eq];refine⟨λe=> ?_,λe=>by rw[e]⟩
 apply ByteArray.ext;apply Array.ext';rw[ByteArray.toList_eq,ByteArray.toList_eq]at e;exact e
theorem ziT{T:TypeId}{t:Ty}(h:zkF P T t){vs us:Array Value}{x y:t.den}(hx:vS.rd w S vs.toList x)(hy:vS.rd w S' us.toList y):(Op.equalIn 10000 T (.agg vs) (.agg us)).run P w=.ok (teq t x y) w:=by
 obtain⟨hu,hs,hg,l,hl,hm⟩:=h;rw[run_equalIn_struct w 9999 T vs us hu hs]
 have fin:(∀z∈l,Gk vs us z)→l.all (Ms vs us)=teq t x y→(Op.eqFields 9999 vs us (P.fieldsOf T).toList).run P w=.ok (teq t x y) w:=λh1 h2=>by
  rw[Mu vs us 9998 _ l hm h1,h2]
 cases t<;>simp only[fkT,Option.some.injEq,reduceCtorEq]at hl<;>subst hl
 ·obtain⟨h1,_⟩:=hx;obtain⟨h2,_⟩:=hy
  have e1:vs= #[.int .i64 x.kind,.int .i64 x.at_,.string x.text]:=by apply Array.ext';exact h1
  have e2:us= #[.int .i64 y.kind,.int .i64 y.at_,.string y.text]:=by apply Array.ext';exact h2
  subst e1 e2;refine fin (by simp[Gk]) ?_
  obtain⟨x1,x2,x3⟩:=x;obtain⟨y1,y2,y3⟩:=y;simp[Ms,teq,TP];rw[Bool.eq_iff_iff];simp[TP,and_assoc]
 ·obtain⟨h1,_⟩:=hx;obtain⟨h2,_⟩:=hy
  have e1:vs= #[.int .i64 x.var,.int .i64 x.op,.int .i64 x.n]:=by apply Array.ext';exact h1
  have e2:us= #[.int .i64 y.var,.int .i64 y.op,.int .i64 y.n]:=by apply Array.ext';exact h2
  subst e1 e2;refine fin (by simp[Gk]) ?_
  obtain⟨x1,x2,x3⟩:=x;obtain⟨y1,y2,y3⟩:=y;rw[Bool.eq_iff_iff];simp[Ms,teq]
 ·obtain⟨h1,_⟩:=hx;obtain⟨h2,_⟩:=hy
  have e1:vs= #[.string x.name,.int .i64 x.lo,.int .i64 x.hi]:=by apply Array.ext';exact h1
  have e2:us= #[.string y.name,.int .i64 y.lo,.int .i64 y.hi]:=by apply Array.ext';exact h2
  subst e1 e2;refine fin (by simp[Gk]) ?_
  obtain⟨x1,x2,x3⟩:=x;obtain⟨y1,y2,y3⟩:=y;simp[Ms,teq];rw[Bool.eq_iff_iff];simp[TP,and_assoc]
theorem Gl(m:rL P b0 N σ a w S pl){op:BinOp}{b:Bool}(h:eqK op b λd=>K d σ)(he:op=.eql→(execOp a.eval o).run P w=.ok (.value (.bool b)) w)(hne:op=.neq→(execOp a.eval o).run P w=.ok (.value (.bool (!b))) w)
  (hn:sX P b0 N o a K next):o.wp P a w next Q:=by
 unfold eqK at h
 split at h
 ·exact yN (he rfl) (hn _ _ _ _ _ _ h m (Rp.rd (.bool _)))
 ·exact yN (hne rfl) (hn _ _ _ _ _ _ h m (Rp.rd (.bool _)))
 ·exact h.elim
theorem zkH(dp:Nat){T e:TypeId}(hu:P.underlying T=some (.slice e))(A:Option Addr)(n c:Nat):(Op.equalIn (dp+1) T (.slice A n c) (.slice none 0 0)).run P w=.ok A.isNone w:=by
 cases A<;>simp only[Op.equalIn,Sem.run_bind,run_underlying hu,Result.andThen_ok,Sem.run_pure]<;>rfl
theorem BC{T e:TypeId}(hu:P.underlying T=some (.slice e))(op:BinOp){x y:Operand}{T':TypeId}(ho:o.op=.binOp op T x y T'){A:Option Addr}{n c:Nat}(hx:a.eval x=.slice A n c)(hy:a.eval y=.slice none 0 0):
  (op=.eql→(execOp a.eval o).run P w=.ok (.value (.bool A.isNone)) w)∧(op=.neq→(execOp a.eval o).run P w=.ok (.value (.bool (!A.isNone))) w):=by
 have heq:(Op.equal T (.slice A n c) (.slice none 0 0)).run P w=.ok A.isNone w:=zkH 9999 hu A n c;have hg:∀op,(eqGuard op T x y (.slice A n c) (.slice none 0 0)).run P w=.ok () w:=λop=>DW op T x y _ _ (λcs e=>by cases e) (λe=>by cases e)
 refine⟨?_,?_⟩
 ·rintro rfl
  unfold execOp;rw[ho];simp only[Sem.run_bind,hx,hy,hg,Result.andThen_ok,binOp,heq,Sem.run_pure]
 ·rintro rfl
  unfold execOp;rw[ho];simp only[Sem.run_bind,hx,hy,hg,Result.andThen_ok,binOp,heq,Sem.run_pure]
theorem TQ{T:TypeId}(F:tT P E)(h:VN E T=true):∃e,P.underlying T=some (.slice e):=by
 unfold VN at h
 split at h
 ·rename_i x hx;obtain⟨e,t⟩:=x;exact⟨e,(F.sl T e t hx).und⟩
 ·cases h
theorem ziU(F:tT P E)(m:rL P b0 N σ a w S pl){op:BinOp}{T T':TypeId}{x y:Operand}(ho:o.op=.binOp op T x y T')(h:A9 E op T (σ.ev x) (σ.ev y) σ λd=>K d σ)(hn:sX P b0 N o a K next):o.wp P a w next Q:=by
 have hx:=sF m x;have hy:=sF m y;unfold A9 at h
 split at h
 ·rename_i xs ys ex ey
  split at h
  ·rename_i t hl
   split at h
   ·rename_i p q e1 e2
    have hst:=F.sts T t hl;rw[ex]at hx;rw[ey]at hy
    obtain⟨vs,hv,hvl,hvr⟩:=(hx.flat (d:=.agg xs) rfl).agg_inv;obtain⟨us,hu,hul,hur⟩:=(hy.flat (d:=.agg ys) rfl).agg_inv;have r1:=RH t e1 (Pn hvl hvr);have r2:=RH t e2 (Pn hul hur);have hrun:=ziT (w:=w) hst r1 r2;have hg:(eqGuard op T x y (.agg vs) (.agg us)).run P w=.ok () w:=run_eqGuard_agg w op T x y vs us hst.2.2.1;refine Gl m h (λe=> ?_) (λe=> ?_) hn
    ·subst e
     unfold execOp;rw[ho];simp only[Sem.run_bind,hv,hu,hg,Result.andThen_ok,run_eql_struct,hrun,Sem.run_pure]
    ·subst e
     unfold execOp;rw[ho];simp only[Sem.run_bind,hv,hu,hg,Result.andThen_ok,run_neq_struct,hrun,Sem.run_pure]
   ·exact h.elim
  ·exact h.elim
 ·rename_i t xs nl ex ey
  cases hs:E.nilq&&VN E T with
  |false=>rw[hs]at h;exact h.elim
  |true=>
   rw[hs,cond_true]at h
   obtain⟨e,hu⟩:=TQ F (Bool.and_eq_true_iff.1 hs).2;rw[ex]at hx;rw[ey]at hy
   obtain⟨hv0,hnn,hyy⟩:=(hx.flat (d:=.slN t xs nl) rfl).slN_inv;obtain⟨A',c,hv,hok⟩:=sO hv0;have hv2:=(hy.flat (d:=.nil) rfl).nil_inv;have hr:=BC (P:=P) (w:=w) hu op ho hv hv2
   have hA:A'.isNone=nl:=by
    cases nl with
    |true=>
     have:=hyy rfl;rw[hv]at this
     injection this with h1;rw[h1];rfl
    |false=>
     cases A' with
     |some _=>rfl
     |none=>
      have h1:=hok.none_ rfl;have h2:=hok.cap;have h3:xs.length=0:=by omega
      exact absurd (by rw[hv,h3,h1]) (hnn rfl)
   rw[hA]at hr
   exact Gl m h hr.1 hr.2 hn
 ·rename_i t xs ex ey
  cases hs:E.nilq&&VN E T with
  |false=>rw[hs]at h;exact h.elim
  |true=>
   rw[hs,cond_true]at h
   obtain⟨e,hu⟩:=TQ F (Bool.and_eq_true_iff.1 hs).2;rw[ex]at hx;rw[ey]at hy
   obtain⟨A',c,hv,hok⟩:=sO (hx.flat (d:=.sl t xs) rfl).sl_inv;have hv2:=(hy.flat (d:=.nil) rfl).nil_inv;have hr:=BC (P:=P) (w:=w) hu op ho hv hv2;have hsl:=(hx.flat (d:=.sl t xs) rfl).sl_inv
   exact Gl m (h A'.isNone λhn0=>by
    cases A' with
    |some _=>cases hn0
    |none=>
     have:=hok.none_ rfl;have h2:=hok.cap;exact List.eq_nil_of_length_eq_zero (by omega)) hr.1 hr.2 hn
 ·rename_i ex ey
  cases hs:E.nilq&&VN E T with
  |false=>rw[hs]at h;exact h.elim
  |true=>
   rw[hs,cond_true]at h
   obtain⟨e,hu⟩:=TQ F (Bool.and_eq_true_iff.1 hs).2;rw[ex]at hx;rw[ey]at hy
   have hv1:=(hx.flat (d:=.nil) rfl).nil_inv;have hv2:=(hy.flat (d:=.nil) rfl).nil_inv;have hr:=BC (P:=P) (w:=w) hu op ho hv1 hv2;exact Gl m h hr.1 hr.2 hn
 ·rename_i k ex ey
  split at h
  ·rename_i e0 t xs hob
   cases hs:E.nilq&&VN E T with
   |false=>rw[hs]at h;exact h.elim
   |true=>
    rw[hs,cond_true]at h
    obtain⟨e,hu⟩:=TQ F (Bool.and_eq_true_iff.1 hs).2;rw[ex]at hx;rw[ey]at hy
    have hx:a.eval x=pl k:=hx;have hv2:=(hy.flat (d:=.nil) rfl).nil_inv;obtain⟨A',c,hv,hok⟩:=sO (X0 (m.hp k _ hob));rw[hv]at hx
    have hr:=BC (P:=P) (w:=w) hu op ho hx hv2
    exact Gl m (h A'.isNone λhn0=>by
     cases A' with
     |some _=>cases hn0
     |none=>
      have:=hok.none_ rfl;have h2:=hok.cap;exact List.eq_nil_of_length_eq_zero (by omega)) hr.1 hr.2 hn
  ·exact h.elim
 ·exact zj7 F m ho h hn
end
section
variable {P:Program}{E:TE}{A:wA}{b0:Vy}{w w':World}{S S':Nat→Prop}{pl pl':Nat→Value}{N:Nat}{σ:St}{a:Act}{v:Value}{d:D}{o:Oper}{K:D→St→Prop}{next:Act→World→Prop}{Q:Exit→Act→World→Prop}
def fb:(t:Ty)→t.den→Value
 | .int,n=> .int .i64 n
 | .str,s=> .string s
 | .pr .int .int,x=> .agg #[.int .i64 x.1,.int .i64 x.2]
 |_,_=>undef
theorem zeb{k:Ty}{x:k.den}(h:ziH k d=some x)(hr:Rd w S pl v d):v=fb k x∧Yd w S v x:=by
 unfold ziH at h
 split at h
 ·injection h with h;subst h
  obtain⟨rfl,hi⟩:=(hr.flat (d:=.int .i64 _) rfl).int_inv;exact⟨rfl,[_],rfl,rfl,hi⟩
 ·injection h with h;subst h
  obtain⟨rfl,hi⟩:=(hr.flat (d:=.str _) rfl).str_inv;exact⟨rfl,[_],rfl,rfl,hi⟩
 ·rename_i p q
  injection h with h;subst h
  obtain⟨vs,rfl,hl,hv⟩:=(hr.flat (d:=.agg [.int .i64 p,.int .i64 q]) rfl).agg_inv;obtain⟨e1,i1⟩:=(hv 0 _ rfl).int_inv;obtain⟨e2,i2⟩:=(hv 1 _ rfl).int_inv;have hl:vs.size=2:=hl
  have e:vs= #[.int .i64 p,.int .i64 q]:=by
   apply Array.ext
   ·simpa using hl
   ·intro i h1 h2
    have:i=0∨i=1:=by omega
    rcases this with rfl|rfl
    ·simpa[Array.getD_eq_getD_getElem?,h1]using e1
    ·simpa[Array.getD_eq_getD_getElem?,h1]using e2
  subst e;exact⟨rfl,[_,_],rfl,[_],[_],rfl,⟨rfl,i1⟩,⟨rfl,i2⟩⟩
 ·cases h
theorem zec{kT:TypeId}{k:Ty}(hk:L8 P kT k){x:k.den}(h:Yd w S v x):v=fb k x:=by
 obtain⟨cs,rfl,hr⟩:=h;unfold L8 at hk
 split at hk
 ·obtain⟨rfl,_⟩:=hr;rfl
 ·obtain⟨rfl,_⟩:=hr;rfl
 ·obtain⟨c1,c2,rfl,⟨rfl,_⟩,⟨rfl,_⟩⟩:=hr;rfl
 ·exact hk.elim
theorem ziV(dp:Nat){kT e:TypeId}{i:TypeInfo}(hu:P.underlying kT=some (.array 2 e))(he:P.underlying e=some (.int .i64))(hi:P.info? e=some i)(hs:P.cellsOf e=1)(p q p' q':Int):
  (Op.equalIn (dp+2) kT (.agg #[.int .i64 p,.int .i64 q]) (.agg #[.int .i64 p',.int .i64 q'])).run P w=.ok (decide (p=p')&&decide (q=q')) w:=by
 have f1:∀p q:Int,(part e #[.int .i64 p,.int .i64 q] (0*1)).run P w=.ok (.int .i64 p) w:=λp q=>Xi he rfl rfl
 have f2:∀p q:Int,(part e #[.int .i64 p,.int .i64 q] (1*1)).run P w=.ok (.int .i64 q) w:=λp q=>Xi he rfl rfl
 have e1:∀p q:Int,(Op.equalIn (dp+1) e (.int .i64 p) (.int .i64 q)).run P w=.ok (p==q) w:=λp q=>run_equalIn_int w dp e .i64 .i64 p q he
 rw[run_equalIn_array w (dp+1) _ _ hu hi,hs];rw[show List.range 2=[0,1]from rfl]
 simp only[Op.eqItems,Sem.run_bind,f1,e1,Result.andThen_ok]
 by_cases h1:p=p'
 ·subst h1
  simp only[BEq.rfl,Bool.not_true,Bool.false_eq_true,if_false,Sem.run_bind,f2,e1,Result.andThen_ok]
  by_cases h2:q=q'<;>simp[h2]
 ·simp[h1]
def BD(kt:Ty){vt:Ty}(x:kt.den):List (kt.den×vt.den)→Nat→Option Nat
 |[],_=>none
 |(p,_)::r,i=>bif O8 kt x p then some i else BD kt x r (i+1)
theorem VP{kT:TypeId}{k:Ty}(hk:L8 P kT k)(x y:k.den):(∃d,P.underlying kT=some d∧((Instr.sameNow d (fb k x) (fb k y)=some (O8 k x y))∨((∀u u',Instr.sameNow d u u'=none)∧∀w,(Op.equal kT (fb k x) (fb k y)).run P w=.ok (O8 k x y) w))):=by
 unfold L8 at hk
 split at hk
 ·refine⟨_,hk,.inl ?_⟩
  show(if IntKind.i64=IntKind.i64 then some (x==y)else none)=some (decide (x=y))
  rw[if_pos rfl]
  congr 1
 ·refine⟨_,hk,.inl ?_⟩
  show some (x==y)=some (decide (x=y))
  rw[←TP,beq_toListBytes]
 ·obtain⟨e,i,hu,he,hi,hs⟩:=hk
  exact⟨_,hu,.inr ⟨λu u'=>rfl,λw=>ziV 9998 hu he hi hs _ _ _ _⟩⟩
 ·exact hk.elim
theorem JM{kT:TypeId}{k vt:Ty}(hk:L8 P kT k)(x:k.den){ents:List MapEntry}{es:List (k.den×vt.den)}(h:xP (λ(e:MapEntry) (y:k.den×vt.den)=>e.key=fb k y.1) ents es):
  (Instr.findKey kT (fb k x) ents).run P w=.ok ((BD k x es 0).map λi=>(i,((ents[i]?).map (·.val)).getD undef)) w:=by
 have now:∀(d:TypeDesc),(∀y:k.den,Instr.sameNow d (fb k x) (fb k y)=some (O8 k x y))→∀(ents:List MapEntry) (es:List (k.den×vt.den)),xP (λ(e:MapEntry) (y:k.den×vt.den)=>e.key=fb k y.1) ents es→
   ∀(all:List MapEntry) (i:Nat),all.drop i=ents→Instr.findNow d (fb k x) ents i=some ((BD k x es i).map λi=>(i,((all[i]?).map (·.val)).getD undef)):=by
  intro d hd ents es h
  induction h with
  |nil=>intro all i _;rfl
  | @cons e y ents es h1 hs ih=>
   intro all i hall;have h0:all[i]? =some e:=by have:=List.getElem?_drop (xs:=all) (i:=i) (j:=0);rw[hall]at this;simpa using this.symm
   unfold Instr.findNow BD;rw[h1,hd];cases O8 k x y.1
   ·simp only[cond_false]
    exact ih all (i+1) (by rw[←List.tail_drop,hall];rfl)
   ·simp only[cond_true,Option.map_some,h0,Option.getD_some]
 have ask:(∀(y:k.den) w,(Op.equal kT (fb k x) (fb k y)).run P w=.ok (O8 k x y) w)→∀(ents:List MapEntry) (es:List (k.den×vt.den)),xP (λ(e:MapEntry) (y:k.den×vt.den)=>e.key=fb k y.1) ents es→
   ∀(all:List MapEntry) (i:Nat),all.drop i=ents→(Instr.findAsking kT (fb k x) ents i).run P w=.ok ((BD k x es i).map λi=>(i,((all[i]?).map (·.val)).getD undef)) w:=by
  intro hd ents es h
  induction h with
  |nil=>intro all i _;rfl
  | @cons e y ents es h1 hs ih=>
   intro all i hall;have h0:all[i]? =some e:=by have:=List.getElem?_drop (xs:=all) (i:=i) (j:=0);rw[hall]at this;simpa using this.symm
   unfold Instr.findAsking BD;simp only[Sem.run_bind,h1,hd,Result.andThen_ok];cases O8 k x y.1
   ·simp only[cond_false,Bool.false_eq_true,if_false]
    exact ih all (i+1) (by rw[←List.tail_drop,hall];rfl)
   ·simp only[cond_true,if_true,Option.map_some,h0,Option.getD_some,Sem.run_pure]
 unfold Instr.findKey;cases h with
 |nil=>
  obtain⟨d,hu,_⟩:=VP hk x x;simp only[Sem.run_bind,run_underlying hu,Result.andThen_ok,Instr.findNow,Sem.run_pure];rfl
 | @cons e y ents es h1 hs=>
  obtain⟨d,hu,hd⟩:=VP hk x y.1;simp only[Sem.run_bind,run_underlying hu,Result.andThen_ok];rcases hd with hd|⟨hn,hd⟩
  ·have hd':∀y:k.den,Instr.sameNow d (fb k x) (fb k y)=some (O8 k x y):=λy'=>by
    obtain⟨d',hu',hd'⟩:=VP hk x y';rw[hu]at hu';injection hu' with hu';subst hu'
    rcases hd' with hd'|⟨hn',_⟩
    ·exact hd'
    ·rw[hn']at hd;cases hd
   rw[now d hd' _ _ (.cons h1 hs) (e::ents) 0 rfl,Sem.run_pure]
  ·have hd':∀(y:k.den) w,(Op.equal kT (fb k x) (fb k y)).run P w=.ok (O8 k x y) w:=λy'=>by
    obtain⟨d',hu',hd'⟩:=VP hk x y';rw[hu]at hu';injection hu' with hu';subst hu'
    rcases hd' with hd'|⟨_,hd'⟩
    ·rw[hn]at hd';cases hd'
    ·exact hd'
   rw[show Instr.findNow d (fb k x) (e::ents) 0=none by unfold Instr.findNow;rw[hn]]
   exact ask hd' _ _ (.cons h1 hs) (e::ents) 0 rfl
theorem X1{kT:TypeId}{k:Ty}(hk:L8 P kT k)(x:k.den)(em:Bool):(Instr.checkKey em 10000 kT (fb k x)).run P w=.ok () w:=by
 have one:∀(n:Nat) (T:TypeId) (u:Value),(P.underlying T=some (.int .i64)∨P.underlying T=some .string)→(Instr.checkKey em (n+1) T u).run P w=.ok () w:=λn T u h=>by
  rcases h with h|h<;>simp only[Instr.checkKey,Sem.run_bind,run_underlying h,Result.andThen_ok,Sem.run_pure]
 unfold L8 at hk
 split at hk
 ·exact one 9999 _ _ (.inl hk)
 ·exact one 9999 _ _ (.inr hk)
 ·obtain⟨e,i,hu,he,hi,hs⟩:=hk
  have hsz:(sizeOf e).run P w=.ok 1 w:=by rw[run_sizeOf w hi,hs]
  have f1:∀p q:Int,(part e #[.int .i64 p,.int .i64 q] (0*1)).run P w=.ok (.int .i64 p) w:=λp q=>Xi he rfl rfl
  have f2:∀p q:Int,(part e #[.int .i64 p,.int .i64 q] (1*1)).run P w=.ok (.int .i64 q) w:=λp q=>Xi he rfl rfl
  have key:∀n,(Instr.checkKey em (n+2) kT (.agg #[.int .i64 x.1,.int .i64 x.2])).run P w=.ok () w:=λn=>by
   rw[Instr.checkKey];simp only[Sem.run_bind,run_underlying hu,Result.andThen_ok,Std.Legacy.Range.forIn_eq_forIn_range',Std.Legacy.Range.size,Nat.sub_zero,Nat.add_one_sub_one,Nat.div_one];rw[show List.range' 0 2=[0,1]from rfl]
   simp only[List.forIn_cons,List.forIn_nil,Sem.run_bind,hsz,Result.andThen_ok,f1,f2,one n e _ (.inl he),Sem.run_pure]
  exact key 9998
 ·exact hk.elim
theorem Kb{kt vt:Ty}(x:kt.den):∀(es:List (kt.den×vt.den)) (i:Nat),(BD kt x es i=none∧uH kt vt x es=none∧∀y,rD kt vt x y es=es++[(x,y)])∨
  ∃j q,BD kt x es i=some (i+j)∧es[j]? =some q∧O8 kt x q.1=true∧uH kt vt x es=some q.2∧∀y,rD kt vt x y es=es.set j (q.1,y)
 |[],i=> .inl ⟨rfl,rfl,λy=>rfl⟩
 |(p,q)::r,i=>by
  unfold BD uH;cases hk:O8 kt x p with
  |true=>exact .inr ⟨0,(p,q),rfl,rfl,hk,rfl,λy=>by unfold rD;rw[hk];rfl⟩
  |false=>
   simp only[cond_false];rcases Kb x r (i+1)with⟨h1,h2,h3⟩|⟨j,z,h1,h2,h3,h4,h5⟩
   ·exact .inl ⟨h1,h2,λy=>by unfold rD;rw[hk,cond_false,h3];rfl⟩
   ·refine .inr ⟨j+1,z,by rw[h1];congr 1;omega,by simpa using h2,h3,h4,λy=> ?_⟩
    unfold rD;rw[hk,cond_false,h5];rfl
theorem zed: {t:Ty}→ {x:t.den}→Yd w S v x→Rp w S v (XH t x)
 | .int,x,h=>by obtain⟨rfl,g⟩:=ziG h;exact .int_mk g
 | .bool,x,⟨cs,e,h⟩=>by have h:cs=[.bool x]:=h;subst h e;exact .bool x
 | .byte,x,⟨cs,e,h⟩=>by have h:cs=[.int .u8 (x.toNat:Int)]:=h;subst h e;exact .int _ _ ⟨by omega,by have:=x.toNat_lt;omega⟩
 | .str,x,h=>by obtain⟨rfl,g⟩:=zd4 h;exact .str _ g
 | .list t,x,h=> .sl t x v h
 | .tok,x,⟨cs,e,h⟩=>by have hc:=mY .tok h;obtain⟨h,_⟩:=h;subst h e;exact .agg _ _ rfl λi d hd=>XQ hc i d hd
 | .lit,x,⟨cs,e,h⟩=>by have hc:=mY .lit h;obtain⟨h,_⟩:=h;subst h e;exact .agg _ _ rfl λi d hd=>XQ hc i d hd
 | .var,x,⟨cs,e,h⟩=>by have hc:=mY .var h;obtain⟨h,_⟩:=h;subst h e;exact .agg _ _ rfl λi d hd=>XQ hc i d hd
 | .con,x,⟨cs,e,h⟩=>by have hc:=mY .con h;obtain⟨_,_,_,_,h,_⟩:=h;subst h e;exact .agg _ _ rfl λi d hd=>XQ hc i d hd
 | .mdl,x,⟨cs,e,h⟩=>by have hc:=mY .mdl h;obtain⟨_,_,h,_⟩:=h;subst h e;exact .agg _ _ rfl λi d hd=>XQ hc i d hd
 | .step,x,⟨cs,e,h⟩=>by have hc:=mY .step h;obtain⟨_,h,_⟩:=h;subst h e;exact .agg _ _ rfl λi d hd=>XQ hc i d hd
 | .term,x,⟨cs,e,h⟩=>by have hc:=mY .term h;obtain⟨h,_⟩:=h;subst h e;exact .agg _ _ rfl λi d hd=>XQ hc i d hd
 | .ans,x,⟨cs,e,h⟩=>by have hc:=mY .ans h;obtain⟨_,_,h,_⟩:=h;subst h e;exact .agg _ _ rfl λi d hd=>XQ hc i d hd
 | .pr p q,x,⟨cs,e,h⟩=>by
  have hl:=vS.len h;have hc:=mY (.pr p q) h
  have h2:2≤cs.length:=by
   rw[hl];show 2≤ @vS.size _ (Ty.rep p)+ @vS.size _ (Ty.rep q)
   have:= @vS.pos _ (Ty.rep p);have:= @vS.pos _ (Ty.rep q);omega
  obtain _|⟨u,_|⟨u',r⟩⟩:=cs
  ·simp at h2
  ·simp at h2
  ·subst e;exact .agg _ _ (by simpa using hc.len) λi d hd=>XQ hc i d hd
theorem zcq(F:tT P E)(m:rL P b0 N σ a w S pl){T:TypeId}(ho:o.op=.makeMap T none)(h:RJ E A o T σ K)(hn:sX P b0 N o a K next):o.wp P a w next Q:=by
 have hrun:(execOp a.eval o).run P w=.ok (.value (.map (some w.heap.size))) (w.alloc (.map #[] 0)):=by
  unfold execOp;rw[ho];simp[Instr.makeMap,newObj];rfl
 have hnew:(w.alloc (.map #[] 0)).heap[w.heap.size]? =some (.map #[] 0):=heap_alloc_new w _;unfold RJ at h
 split at h
 ·rename_i k u hl
  split at h
  ·rename_i j hj
   refine yN hrun (hn _ _ _ _ _ _ h (m.mk' (w':=w.alloc (.map #[] 0)) j (eL hj) (.mp k u []) (.map (some w.heap.size)) (RN w _) (λb hb=>by injection hb with hb;subst hb;exact⟨Nat.le_refl _,by rw[Nb];omega⟩) λpl' _=> ?_) (if_pos rfl).symm)
   exact⟨w.heap.size,rfl,by simp,#[],0,hnew,.nil⟩
  ·exact yN hrun (hn _ _ _ _ _ _ h (m.newS _) (Rp.rd (.mp k u [] w.heap.size (.inr rfl) ⟨by simp,#[],0,hnew,.nil⟩)))
 ·exact h.elim
theorem zgM(m:rL P b0 N σ a w S pl){u:Value}(hr:Rd w S pl u d){kt vt:Ty}{es:List (kt.den×vt.den)}(h:DV σ d=some ⟨(kt,vt),es⟩):∃b,u=.map (some b)∧A4 w S b kt vt es:=by
 unfold DV at h
 split at h
 ·simp only[Option.some.injEq,Sigma.mk.injEq,Prod.mk.injEq]at h
  obtain⟨⟨rfl,rfl⟩,h⟩:=h;subst h;obtain⟨b,e,_,h⟩:=(hr.flat (d:=.mp _ _ _) rfl).mp_inv;exact⟨b,e,h⟩
 ·rename_i j
  split at h
  ·rename_i hob
   simp only[Option.some.injEq,Sigma.mk.injEq,Prod.mk.injEq]at h
   obtain⟨⟨rfl,rfl⟩,h⟩:=h;subst h;obtain⟨b,e,h⟩:=m.hp j _ hob;have hr:u=pl j:=hr;exact⟨b,hr.trans e,h⟩
  ·cases h
 ·cases h
theorem zee{kT:TypeId}{k vt:Ty}(hk:L8 P kT k){ents:List MapEntry}{es:List (k.den×vt.den)}(h:xP (λ(e:MapEntry) (x:k.den×vt.den)=>Yd w S e.key x.1∧Yd w S e.val x.2) ents es):xP (λ(e:MapEntry) (y:k.den×vt.den)=>e.key=fb k y.1) ents es:=
 h.imp λe x h=>zec hk h.1
theorem zgN{T kT eT:TypeId}{k vt:Ty}(hu:P.underlying T=some (.map kT eT))(hk:L8 P kT k){i:TypeInfo}{z:Value}{dz:D}(hi:P.info? eT=some i)(hz:i.zero=some z)(hc:cells vt vt.dflt=[dz])(hzb:zB z dz=true)(hz1:z.oneCell'=true)
  {b:Nat} {es:List (k.den×vt.den)} (hm:A4 w S b k vt es) (x:k.den):∃u,Yd w S u (kJ k vt x es)∧∀ok,(Instr.lookup T (.map (some b)) (fb k x) ok).run P w=.ok (if ok then .tuple #[u,.bool (PK k vt x es)]else u) w:=by
 obtain⟨_,ents,clock,hb,hes⟩:=hm;have hget:(getObj b).run P w=.ok (.map ents clock) w:=by simp[getObj,Sem.run,hb]
 have hzr:(zeroValue eT).run P w=.ok z w:=by simp[zeroValue,typeInfo,hi,hz]
 have hf:=JM (w:=w) hk x (zee hk hes);rcases Kb (vt:=vt) x es 0 with⟨h1,h2,_⟩|⟨j,q,h1,h2,h3,h4,_⟩
 ·refine⟨z,?_,λok=> ?_⟩
  ·rw[kJ,h2]
   have hr:=zjP (w:=w) (S:=S) hzb;have h1:z.cells.toList=[z]:=by cases z<;>first|rfl|(cases hz1)
   have:vS.rd w S [z] vt.dflt:=RH vt (ds:=[dz]) (by rw[←hc];exact Mk vt) (.cons hr .nil)
   exact⟨[z],rfl,this⟩
  ·rw[h1]at hf
   unfold Instr.lookup;simp only[Sem.run_bind,run_underlying hu,Result.andThen_ok,hget,Sem.run_pure,X1 hk,hf,Option.map_none,hzr,PK,h2,Option.isSome_none]
 ·obtain⟨e,he,hr⟩:=hes.at h2
  refine⟨e.val,?_,λok=> ?_⟩
  ·rw[kJ,h4];exact hr.2
  ·rw[h1,Nat.zero_add]at hf
   have he':(ents.toList[j]?.map (·.val)).getD undef=e.val:=by rw[he];rfl
   unfold Instr.lookup;simp only[Sem.run_bind,run_underlying hu,Result.andThen_ok,hget,Sem.run_pure,X1 hk,hf,Option.map_some,he',PK,h4,Option.isSome_some]
theorem zfd(F:tT P E)(m:rL P b0 N σ a w S pl){T:TypeId}{x y:Operand}{ok:Bool}(ho:o.op=.lookup T x y ok)(h:HG E T (σ.ev x) (σ.ev y) ok σ λd=>K d σ)(hn:sX P b0 N o a K next):o.wp P a w next Q:=by
 have hx:=sF m x;have hy:=sF m y;unfold HG at h
 split at h
 ·rename_i kt0 vt0 kt vt es hl hm
  cases hb:decide (kt=kt0)&&decide (vt=vt0)with
  |false=>rw[hb]at h;exact h.elim
  |true=>
   rw[hb,cond_true]at h
   simp only[Bool.and_eq_true,decide_eq_true_eq]at hb
   obtain⟨rfl,rfl⟩:=hb;obtain⟨kT,eT,i,z,dz,hu,hk,hi,hz,hc,hzb,hz1⟩:=F.mps T _ _ hl;obtain⟨b,hv,hmp⟩:=zgM m hx hm;split at h
   ·rename_i p hp
    obtain⟨hkv,_⟩:=zeb hp hy;obtain⟨u,hu1,hu2⟩:=zgN hu hk hi hz hc hzb hz1 hmp p
    have hrun:∀ok',ok=ok'→(execOp a.eval o).run P w=.ok (.value (if ok' then .tuple #[u,.bool (PK kt vt p es)]else u)) w:=λok' e=>by
     subst e;unfold execOp;rw[ho];simp only[Sem.run_bind,hv,hkv,hu2,Result.andThen_ok,Sem.run_pure]
    cases ok with
    |true=>exact yN (hrun true rfl) (hn _ _ _ _ _ _ h m (Rp.rd (.tup _ _ rfl λi d hd=>by
      match i,hd with
      |0,hd=>simp at hd;subst hd;exact zed hu1
      |1,hd=>simp at hd;subst hd;exact .bool _
      |i+2,hd=>simp at hd)))
    |false=>exact yN (hrun false rfl) (hn _ _ _ _ _ _ h m (zed hu1).rd)
   ·exact h.elim
 ·exact h.elim
theorem zaf{b:Nat}{o':Obj}(hb:b<w.heap.size):({w with heap:=w.heap.setIfInBounds b o'}:World).heap[b]? =some o'∧(∀c,c≠b→({w with heap:=w.heap.setIfInBounds b o'}:World).heap[c]? =w.heap[c]?)∧({w with heap:=w.heap.setIfInBounds b o'}:World).heap.size=w.heap.size:=
 ⟨by simp[hb],λc hc=>by simp[Array.getElem?_setIfInBounds,Ne.symm hc],by simp⟩
theorem zgO{k:Ty}{kT:TypeId}(hk:L8 P kT k){x y:k.den}(h:O8 k x y=true):fb k x=fb k y∧Instr.sameBits 10000 (fb k y) (fb k x)=true:=by
 unfold L8 at hk
 split at hk
 ·have e:x=y:=of_decide_eq_true h
  subst e;exact⟨rfl,by show(IntKind.i64==IntKind.i64&&(x:Int)==x)=true;simp⟩
 ·have e:x=y:=of_decide_eq_true h
  subst e;exact⟨rfl,by show((x:ByteArray)==x)=true;rw[beq_toListBytes,TP];simp⟩
 ·simp only[O8,Bool.and_eq_true,decide_eq_true_eq]at h
  obtain⟨x1,x2⟩:=x;obtain⟨y1,y2⟩:=y;obtain⟨e1,e2⟩:=h;have e1:x1=y1:=e1;have e2:x2=y2:=e2;subst e1 e2;refine⟨rfl,?_⟩;show((2:Nat)==2&&[(Value.int .i64 x1,Value.int .i64 x1),(Value.int .i64 x2,Value.int .i64 x2)].all λ(p:Value×Value)=>Instr.sameBits 9999 p.1 p.2)=true
  simp[Instr.sameBits]
 ·exact hk.elim
theorem xP.set{α β:Type}{R:α→β→Prop}:∀ {xs:List α} {ys:List β},xP R xs ys→∀(i:Nat) {a:α} {b:β},R a b→xP R (xs.set i a) (ys.set i b)
 |_,_,.nil,_,_,_,_=>by simp;exact .nil
 |_,_,.cons h hs,0,_,_,hr=> .cons hr hs
 |_,_,.cons h hs,i+1,_,_,hr=> .cons h (hs.set i hr)
theorem BE(F:tT P E)(m:rL P b0 N σ a w S pl){T:TypeId}{x y z:Operand}(ho:o.op=.mapUpdate T x y z)(h:TM E A T (σ.ev x) (σ.ev y) (σ.ev z) σ K)(hn:sX P b0 N o a K next):o.wp P a w next Q:=by
 have hx:=sF m x;have hy:=sF m y;unfold TM at h
 split at h
 ·rename_i kt0 vt0 j hl ex
  rw[ex]at hx
  have hx:a.eval x=pl j:=hx;obtain⟨σ',ds',S',hK,hS,m',hv⟩:=pH h m;have hz:=hv [a.eval z] (.cons (sF m z) .nil);split at hK
  ·rename_i kt vt es hob
   cases hb:decide (kt=kt0)&&decide (vt=vt0)with
   |false=>rw[hb]at hK;exact hK.elim
   |true=>
    rw[hb,cond_true]at hK
    simp only[Bool.and_eq_true,decide_eq_true_eq]at hb
    obtain⟨rfl,rfl⟩:=hb;obtain⟨kT,eT,i,zz,dz,hu,hk,hi,hzz,hc,hzb,hz1⟩:=F.mps T _ _ hl;split at hK
    ·rename_i p q hp hq
     obtain⟨hroom,hK⟩:=hK;have hroom:es.length+1≤140737488355328:=of_decide_eq_true hroom;obtain⟨hkv,hkr⟩:=zeb hp hy;have hkr:=hkr.mono (w':=w) (λ_ _=>rfl) hS
     have hqr:Yd w S' (a.eval z) q:=by
      have h1:=RH vt hq hz;refine⟨[a.eval z],rfl,h1⟩
     obtain⟨b,hpl,h0,ents,clock,hbk,hes⟩:=m'.hp j _ hob;have hlt:b<w.heap.size:=(m'.priv j _ b hob (by rw[hpl];rfl)).2.1
     have hnS:¬S' b:=(m'.priv j _ b hob (by rw[hpl];rfl)).2.2
     have hget:(getObj b).run P w=.ok (.map ents clock) w:=by simp[getObj,Sem.run,hbk]
     have hset:∀o',(setObj b o').run P w=.ok () {w with heap:=w.heap.setIfInBounds b o'}:=λo'=>by simp[setObj,Sem.run,hbk]
     have hf:=JM (w:=w) hk p (zee hk hes)
     have fin:∀(ents':Array MapEntry) (clock':Nat) (es':List (kt.den×vt.den)),es'=rD kt vt p q es→es'.length≤140737488355328→xP (λ(e:MapEntry) (x:kt.den×vt.den)=>Yd w S' e.key x.1∧Yd w S' e.val x.2) ents'.toList es'→
       (Instr.mapUpdate T (.map (some b)) (fb kt p) (a.eval z)).run P w=.ok () {w with heap:=w.heap.setIfInBounds b (.map ents' clock')}→o.wp P a w next Q:=by
      intro ents' clock' es' he hle hall hrun;obtain⟨g1,g2,g3⟩:=zaf (w:=w) (o':=.map ents' clock') hlt
      have hop:(execOp a.eval o).run P w=.ok .skip {w with heap:=w.heap.setIfInBounds b (.map ents' clock')}:=by
       unfold execOp;rw[ho];simp only[Sem.run_bind,hx,hpl,hkv,hrun,Result.andThen_ok,Sem.run_pure]
      subst he;refine zcl hop (hn _ _ _ _ _ _ hK (m'.setOb hob (by rw[hpl];rfl) g2 g3 ⟨rfl,rfl,rfl⟩ ?_) nW)
      exact⟨b,hpl,hle,ents',clock',g1,hall.imp λ_ _ h=>⟨h.1.mono (λc hc=>g2 c λe=>hnS (e▸hc)) λ_ h=>h,h.2.mono (λc hc=>g2 c λe=>hnS (e▸hc)) λ_ h=>h⟩⟩
     rcases Kb (vt:=vt) p es 0 with⟨h1,h2,h3⟩|⟨j',e',h1,h2,h3,h4,h5⟩
     ·refine fin (ents.push {key:=fb kt p,val:=a.eval z,born:=clock}) (clock+1) (es++[(p,q)]) (h3 q).symm (by simp;omega) ?_ ?_
      ·rw[Array.toList_push]
       exact hes.append (.cons ⟨by rw[←hkv];exact hkr,hqr⟩ .nil)
      ·rw[h1]at hf
       unfold Instr.mapUpdate;simp only[Sem.run_bind,run_underlying hu,Result.andThen_ok,hget,X1 hk,hf,Option.map_none,hset]
     ·obtain⟨e0,he0,hr0⟩:=hes.at h2
      rw[Nat.zero_add]at h1
      have hk0:e0.key=fb kt e'.1:=zec hk hr0.1;obtain⟨ek,hsb⟩:=zgO (P:=P) hk h3;refine fin (ents.modify j' λe=> {e with key:=fb kt p,val:=a.eval z}) clock (es.set j' (e'.1,q)) (h5 q).symm (by simp;omega) ?_ ?_
      ·have:(ents.modify j' λe=> {e with key:=fb kt p,val:=a.eval z}).toList=ents.toList.set j' {e0 with key:=fb kt p,val:=a.eval z}:=by
        apply List.ext_getElem?;intro n;rw[Array.getElem?_toList,Array.getElem?_modify,List.getElem?_set]
        by_cases hn':j'=n
        ·subst hn'
         have hlt':=(List.getElem?_eq_some_iff.1 he0).1;rw[if_pos rfl,if_pos rfl,if_pos hlt',←Array.getElem?_toList,he0];rfl
        ·rw[if_neg hn',if_neg hn',Array.getElem?_toList]
       rw[this];exact hes.set j' ⟨by show Yd w S' (fb kt p) e'.1;rw[ek,←hk0];exact hr0.1,hqr⟩
      ·rw[h1]at hf
       have hkey:(((ents[j']?).map (·.key)).getD (fb kt p))=fb kt e'.1:=by rw[←Array.getElem?_toList,he0];exact hk0
       unfold Instr.mapUpdate;simp only[Sem.run_bind,run_underlying hu,Result.andThen_ok,hget,X1 hk,hf,Option.map_some,hkey,Instr.keyThatStays,hsb,if_true,Sem.run_pure,hset]
    ·exact hK.elim
  ·exact hK.elim
 ·exact h.elim
end
section
variable {P:Program}{E:TE}{A:wA}{b0:Vy}{w w':World}{S S':Nat→Prop}{pl pl':Nat→Value}{N:Nat}{σ:St}{a:Act}{v:Value}{d:D}{o:Oper}{K:D→St→Prop}{next:Act→World→Prop}{Q:Exit→Act→World→Prop}
theorem Gm{k:Nat}:∀ {l:List Nat},qO k l=true↔k∈l
 |[]=>by simp[qO]
 |i::r=>by
  unfold qO;cases hb:Nat.beq i k with
  |true=>rw[yY.1 hb];simp
  |false=>
   rw[cond_false,Gm,List.mem_cons];refine⟨.inr,λh=>h.resolve_left λe=> ?_⟩
   rw[e,yY.2 rfl]at hb;cases hb
theorem Mv{k:Nat}{l:List Nat}:qO k l=false↔k∉l:=by
 rw[←Gm];cases qO k l<;>simp
theorem fJ{α:Type}{k:Nat}{o:α}:∀ {l:List (Nat×α)},kW (l.map (·.1))=true→(k,o)∈l→zZ k l=some o
 |[],_,h=>by cases h
 |(i,x)::r,hn,h=>by
  simp only[List.map_cons,kW,Bool.and_eq_true,Bool.not_eq_true']at hn
  rw[xX];rcases List.mem_cons.1 h with h|h
  ·injection h with h1 h2;subst h1 h2;rw[if_pos rfl]
  ·rw[if_neg,fJ hn.2 h]
   intro e;subst e;exact Mv.1 hn.1 (List.mem_map.2 ⟨_,h,rfl⟩)
theorem ziW(ρ:List (Nat×Nat)):(L4 ρ).map (·.1)=ρ.map (·.2):=by simp[L4]
theorem Mw{ρ:List (Nat×Nat)}(hn:kW (ρ.map (·.2))=true){k c:Nat}(h:(k,c)∈ρ):zZ c (L4 ρ)=some k:=
 fJ (by rw[ziW];exact hn) (List.mem_map.2 ⟨_,h,rfl⟩)
theorem Mx{ρ:List (Nat×Nat)}{k c:Nat}(h:zZ c (L4 ρ)=some k):(k,c)∈ρ:=by
 obtain⟨x,hx,e⟩:=List.mem_map.1 (fI h);injection e with e1 e2;subst e1 e2;exact hx
theorem Kc{ρ:List (Nat×Nat)}(hρ:∀k j,zZ k ρ=some j→pl' j=pl k)(h:Rd w S pl v d):Rd w S pl' v (d.ren ρ):=by
 cases hr:d.ref with
 |none=>
  have e:d.ren ρ=d:=by cases d<;>first|rfl|(simp[D.ref]at hr)
  rw[e];exact(h.flat hr).rd
 |some k=>
  cases d<;>simp only[D.ref,Option.some.injEq,reduceCtorEq]at hr
  all_goals
   subst hr;simp only[D.ren];split
   ·rename_i j hj
    simp only[Rd]at h⊢
    rw[hρ _ _ hj];exact h
   ·exact nW
theorem zgP{ρ:List (Nat×Nat)}{d:D}(h:jT (d.ren ρ)=true):jT d=true:=by
 cases d<;>first|rfl|exact h|(simp only[D.ren]at h;revert h;split<;>exact id)
theorem zgQ{ρ:List (Nat×Nat)}{d:D}(h:cA (d.ren ρ)=true):cA d=true:=by
 cases d<;>first|rfl|exact h|(simp only[D.ren]at h;revert h;split<;>exact λh=>(by cases h))
theorem zgR{ρ:List (Nat×Nat)}{p:Value}{o:yD}(hρ:∀k j,zZ k ρ=some j→pl' j=pl k)(h:Xf w S pl p o):Xf w S pl' p (o.ren ρ):=by
 cases o with
 |cells ds=>
  obtain⟨b,vs,T,e1,e2,e3,e4,e5⟩:=h;refine⟨b,vs,T,e1,e2,by simpa using e3,λi d hd=> ?_,Ml (λ_=>zgQ) e5⟩
  simp only[List.getElem?_map,Option.map_eq_some_iff]at hd
  obtain⟨d0,hd0,rfl⟩:=hd;exact Kc hρ (e4 i d0 hd0)
 |row e t xs=>exact h
 |mp kt vt es=>exact h
 |val ds=>
  obtain⟨vs,e1,e3,e4⟩:=h;refine⟨vs,e1,by simpa using e3,λi d hd=> ?_⟩
  simp only[List.getElem?_map,Option.map_eq_some_iff]at hd
  obtain⟨d0,hd0,rfl⟩:=hd;exact⟨Kc hρ (e4 i d0 hd0).1,λhc=>(e4 i d0 hd0).2 (zgP hc)⟩
theorem fK{ob:Nat→Option yD}{ρ:List (Nat×Nat)}{c:Nat}{o:yD}:∀ {l:List (Nat×Nat)},zZ c (fa ob ρ l)=some o→∃k o',(k,c)∈l∧ob k=some o'∧o=o'.ren ρ
 |[],h=>by cases h
 |(k,c')::r,h=>by
  unfold fa at h
  cases ho:ob k with
  |none=>
   rw[ho]at h
   obtain⟨k',o',h1,h2⟩:=fK (l:=r) h;exact⟨k',o',List.mem_cons_of_mem _ h1,h2⟩
  |some o'=>
   rw[ho]at h
   simp only[xX]at h
   split at h
   ·rename_i e;subst e;injection h with h;exact⟨k,o',List.mem_cons_self,ho,h.symm⟩
   ·obtain⟨k',o',h1,h2⟩:=fK (l:=r) h
    exact⟨k',o',List.mem_cons_of_mem _ h1,h2⟩
def DZ(ρ:List (Nat×Nat))(pl:Nat→Value)(c:Nat):Value:=match zZ c (L4 ρ)with
 |some k=>pl k
 |none=>pl c
theorem WI{ρ:List (Nat×Nat)}(hn:kW (ρ.map (·.2))=true){k c:Nat}(h:(k,c)∈ρ):DZ ρ pl c=pl k:=by
 unfold DZ;rw[Mw hn h]
theorem Kd(m:rL P b0 N σ a w S pl){ρ:List (Nat×Nat)}(hn1:kW (ρ.map (·.1))=true)(hn:kW (ρ.map (·.2))=true):Bs w S (DZ ρ pl) (fa σ.ob ρ ρ) where
 ok:=λc o h=>by
  obtain⟨k,o',h1,h2,rfl⟩:=fK h;rw[WI hn h1];exact zgR (λk j hj=>WI hn (fI hj)) (m.hp k o' h2)
 priv:=λc o b h hb=>by
  obtain⟨k,o',h1,h2,rfl⟩:=fK h;rw[WI hn h1]at hb
  exact(m.priv k o' b h2 hb).2
 inj:=λc c' o o' b h h' hb hb'=>by
  obtain⟨k,o1,h1,h2,rfl⟩:=fK h;obtain⟨k',o2,h1',h2',rfl⟩:=fK h';rw[WI hn h1]at hb
  rw[WI hn h1']at hb'
  have e:=m.inj k k' o1 o2 b h2 h2' hb hb';subst e;have:=fJ hn1 h1;rw[fJ hn1 h1']at this
  injection this with this;exact this.symm
theorem My{ρ:List (Nat×Nat)}(hn:kW (ρ.map (·.2))=true){b:Nat}(h:nS (DZ ρ pl) (fa σ.ob ρ ρ) b):∃k c o,(k,c)∈ρ∧zZ k σ.hp=some o∧pY (pl k)=some b:=by
 obtain⟨c,o,h1,h2⟩:=h;obtain⟨k,o',h3,h4,rfl⟩:=fK h1;rw[WI hn h3]at h2
 exact⟨k,c,o',h3,h4,h2⟩
theorem RP{α:Type}{ks:List Nat}{k:Nat}{o:α}:∀ {l:List (Nat×α)},zZ k (VO ks l)=some o→k∉ks∧zZ k l=some o
 |[],h=>by cases h
 |(i,x)::r,h=>by
  unfold VO at h
  cases hm:qO i ks with
  |true=>
   rw[hm,cond_true]at h
   obtain⟨h1,h2⟩:=RP h;refine⟨h1,?_⟩;rw[xX,if_neg]
   ·exact h2
   ·intro e;subst e;exact h1 (Gm.1 hm)
  |false=>
   rw[hm,cond_false,xX]at h
   rw[xX];split at h
   ·rename_i e;subst e;rw[if_pos rfl];exact⟨Mv.1 hm,h⟩
   ·rename_i e;rw[if_neg e];exact RP h
theorem JN{α:Type}{k:Nat}{o:α}:∀ {l l':List (Nat×α)},zZ k (l++l')=some o→(k,o)∈l∨(zZ k l'=some o)
 |[],l',h=> .inr h
 |(i,x)::r,l',h=>by
  rw[List.cons_append,xX]at h
  split at h
  ·rename_i e;subst e;injection h with h;subst h;exact .inl List.mem_cons_self
  ·rcases JN h with h|h
   ·exact .inl (List.mem_cons_of_mem _ h)
   ·exact .inr h
theorem BF{ks:List Nat}{d:D}(h:jT (jW ks d)=true):jT d=true:=by
 cases d<;>first|rfl|exact h|(simp only[jW,D.ref]at h;revert h;cases qO _ ks<;>exact id)
theorem BG{ks:List Nat}{d:D}(h:cA (jW ks d)=true):cA d=true:=by
 cases d<;>first|rfl|exact h|(simp only[jW,D.ref]at h;revert h;cases qO _ ks<;>exact λh=>(by cases h))
theorem Ng{ks:List Nat}(h:Rd w S pl v d)(hk:∀b,S b→w'.heap[b]? =w.heap[b]?)(hS:∀b,S b→S' b)(hp:∀k,k∉ks→d.ref=some k→pl' k=pl k):Rd w' S' pl' v (jW ks d):=by
 unfold jW;split
 ·rename_i j hj
  cases hm:qO j ks with
  |true=>rw[cond_true];exact nW
  |false=>rw[cond_false];exact h.mono hk hS λk hk'=>hp k (by rw[hj]at hk';injection hk' with hk';subst hk';exact Mv.1 hm) hk'
 ·rename_i hj;exact h.mono hk hS λk hk'=>by rw[hj]at hk';cases hk'
theorem rL.after(m:rL P b0 N σ a w S pl){ρ:List (Nat×Nat)}{dst:Nat}{h':List (Nat×yD)}(hc:zaa σ ρ dst h'=true){S1:Nat→Prop}{pl1:Nat→Value}(g1:Bs w' S1 pl1 h')(g2:∀b,S1 b→b<w'.heap.size)
  (g3:∀b,S1 b→S b∨nS (DZ ρ pl) (fa σ.ob ρ ρ) b∨w.heap.size≤b) (g4:∀b,nS pl1 h' b→nS (DZ ρ pl) (fa σ.ob ρ ρ) b∨w.heap.size≤b) (g5:∀k,stabK k=true→pl1 k=DZ ρ pl k)
  (g6:qB w.heap.size (nS (DZ ρ pl) (fa σ.ob ρ ρ)) w w'):
  ∃pl2,rL P b0 N (σ.after ρ dst h') a w' (λb=>S b∨S1 b) pl2∧∀v d,Rd w' S1 pl1 v d→Rd w' (λb=>S b∨S1 b) pl2 v (d.ren (h'.map λx=>(x.1,jV (L4 ρ) dst x.1))):=by
 simp only[zaa,Bool.and_eq_true]at hc
 obtain⟨⟨⟨⟨⟨n1,n2⟩,n3⟩,n4⟩,c1⟩,c2⟩:=hc
 have c1':∀k c,(k,c)∈ρ→(stabK k=true→stabK c=true)∧c<3000:=λk c hm=>by
  have:=List.all_eq_true.1 c1 _ hm;simp only[Bool.and_eq_true,Bool.or_eq_true,Bool.not_eq_true']at this
  exact⟨λhs=>by rcases this.1 with h|h;rw[hs]at h;cases h;exact h,Nat.le_of_ble_eq_true this.2⟩
 let f:Nat×yD→Nat×Nat:=λx=>(x.1,jV (L4 ρ) dst x.1)
 let β:=h'.map f
 have nb2:kW (β.map (·.2))=true:=by rw[List.map_map];exact n4
 have nb1:kW (β.map (·.1))=true:=by rw[List.map_map];exact n3
 let pl2:Nat→Value:=λk=>match zZ k (L4 β)with
  |some c=>pl1 c
  |none=>pl k
 have e2:∀c k,(c,k)∈β→pl2 k=pl1 c:=λc k h=>by
  show(match zZ k (L4 β)with|some c=>pl1 c|none=>pl k)=_
  rw[Mw nb2 h]
 have hwB:∀b,nS (DZ ρ pl) (fa σ.ob ρ ρ) b→b<w.heap.size∧¬S b∧(b0.O b∨b0.w.heap.size≤b):=λb hb=>by
  obtain⟨k,c,o,h1,h2,h3⟩:=My n2 hb;have:=m.priv k o b h2 h3;exact⟨this.2.1,this.2.2,this.1⟩
 have hS:∀b,S b→w'.heap[b]? =w.heap[b]? :=λb hb=>g6.block b (m.lt b hb) λhh=>(hwB b hh).2.1 hb
 let dead:=((ρ.filter λx=> !stabK x.2|| !(qO x.2 (h'.map (·.1)))).map (·.1))++(β.filter λx=> !(qO x.1 (ρ.map (·.2)))).map (·.2)
 have keep:∀k,k∉dead→pl2 k=pl k:=λk hk=>by
  show(match zZ k (L4 β)with|some c=>pl1 c|none=>pl k)=_
  cases hl:zZ k (L4 β)with
  |none=>rfl
  |some c=>
   simp only;have hm:=Mx hl;obtain⟨x,hx,e⟩:=List.mem_map.1 hm
   by_cases hr:c∈ρ.map (·.2)
   ·obtain⟨⟨k0,c0⟩,h0,e0⟩:=List.mem_map.1 hr
    simp only at e0;subst e0
    have hb:jV (L4 ρ) dst c0=k0:=by unfold jV;rw[Mw n2 h0]
    have e1:x.1=c0:=congrArg Prod.fst e;have e3:jV (L4 ρ) dst x.1=k:=congrArg Prod.snd e;rw[e1,hb]at e3;subst e3
    have hnd:¬(!stabK c0|| !(qO c0 (h'.map (·.1))))=true:=λhh=>hk (List.mem_append_left _ (List.mem_map.2 ⟨(k0,c0),List.mem_filter.2 ⟨h0,hh⟩,rfl⟩))
    simp only[Bool.or_eq_true,not_or]at hnd
    have hst:stabK c0=true:=by simpa using hnd.1
    rw[g5 c0 hst,WI n2 h0]
   ·exact absurd (List.mem_append_right _ (List.mem_map.2 ⟨(c,k),List.mem_filter.2 ⟨hm,by rw[Bool.not_eq_true',Mv];exact hr⟩,rfl⟩)) hk
 have e1:∀i,(σ.after ρ dst h').get i=jW dead (σ.get i):=λi=>by
  show D.or (zZ i (σ.fr.map λx=>(x.1,jW dead x.2)))=_
  rw[iZ];unfold St.get;cases zZ i σ.fr<;>rfl
 have hold:∀k o,zZ k (σ.after ρ dst h').hp=some o→(∃c o',zZ c h'=some o'∧(c,k)∈β∧o=o'.ren β)∨((k∉ρ.map (·.1))∧k∉β.map (·.2)∧∃o0,zZ k σ.hp=some o0∧o=o0.map (jW dead)):=λk o h=>by
  rcases JN h with h|h
  ·left
   obtain⟨x,hx,e⟩:=List.mem_map.1 h;injection e with e3 e4
   exact⟨x.1,x.2,fJ n3 hx,List.mem_map.2 ⟨x,hx,by show(x.1,jV (L4 ρ) dst x.1)=_;rw[e3]⟩,e4.symm⟩
  ·right
   obtain⟨h1,h2⟩:=RP h;rw[iZ]at h2
   simp only[List.mem_append,not_or]at h1
   refine⟨h1.1,h1.2,?_⟩;cases h0:zZ k σ.hp with
   |none=>rw[h0]at h2;cases h2
   |some o0=>rw[h0]at h2;injection h2 with h2;exact⟨o0,rfl,h2.symm⟩
 have other:∀k o0 b,k∉ρ.map (·.1)→zZ k σ.hp=some o0→pY (pl k)=some b→¬nS (DZ ρ pl) (fa σ.ob ρ ρ) b:=λk o0 b hk h0 hb hh=>by
  obtain⟨k',c,o,h1,h2,h3⟩:=My n2 hh;have:=m.inj k k' o0 o b h0 h2 hb h3;subst this;exact hk (List.mem_map.2 ⟨_,h1,rfl⟩)
 have place:∀k,k∉β.map (·.2)→pl2 k=pl k:=λk hk=>by
  show(match zZ k (L4 β)with|some c=>pl1 c|none=>pl k)=_
  cases hl:zZ k (L4 β)with
  |none=>rfl
  |some c=>exact absurd (List.mem_map.2 ⟨_,Mx hl,rfl⟩) hk
 refine⟨pl2,⟨m.dz,m.sz,λi=> ?_,λk o h=> ?_,λb hb=> ?_,λb hb=> ?_,λk o b h hb=> ?_,λk k' o o' b h hh hb hb'=> ?_,?_,λk hk=> ?_,m.gok⟩,λv d h=> ?_⟩
 ·rw[e1]
  exact Ng (m.fr i) hS (λb hb=> .inl hb) λk hk _=>keep k hk
 ·rcases hold k o h with⟨c,o',h1,h2,rfl⟩|⟨h1,h2,o0,h3,rfl⟩
  ·rw[e2 c k h2]
   refine zgR (λc j hj=>e2 c j (fI hj)) ?_
   exact(g1.ok c o' h1).mono (pl:=pl1) (λ_ _=>rfl) (λ_ _=>rfl) (λb hb=> .inr hb) λ_ _ _ _=>rfl
  ·rw[place k h2]
   have h0:=m.hp k o0 h3;have hb:∀b,pY (pl k)=some b→w'.heap[b]? =w.heap[b]? :=λb hb=>g6.block b (m.priv k o0 b h3 hb).2.1 (other k o0 b h1 h3 hb)
   cases o0 with
   |cells ds=>
    obtain⟨b,vs,T,q1,q2,q3,q4,q5⟩:=h0;refine⟨b,vs,T,q1,by rw[hb b (by rw[q1];rfl)];exact q2,by simpa using q3,λi d hd=> ?_,Ml (λ_=>BG) q5⟩
    simp only[List.getElem?_map,Option.map_eq_some_iff]at hd
    obtain⟨d0,hd0,rfl⟩:=hd;exact Ng (q4 i d0 hd0) hS (λb hb=> .inl hb) λk hk _=>keep k hk
   |row e t xs=>exact Xf.mono (pl:=pl) (pl':=pl2) h0 hS hb (λb hb=> .inl hb) λ_ _ e=>by cases e
   |mp kt vt es=>exact Xf.mono (pl:=pl) (pl':=pl2) h0 hS hb (λb hb=> .inl hb) λ_ _ e=>by cases e
   |val ds=>
    obtain⟨vs,q1,q3,q4⟩:=h0;refine⟨vs,q1,by simpa using q3,λi d hd=> ?_⟩
    simp only[List.getElem?_map,Option.map_eq_some_iff]at hd
    obtain⟨d0,hd0,rfl⟩:=hd;exact⟨Ng (q4 i d0 hd0).1 hS (λb hb=> .inl hb) λk hk _=>keep k hk,λhc=>(q4 i d0 hd0).2 (BF hc)⟩
 ·rcases hb with hb|hb
  ·exact Nat.lt_of_lt_of_le (m.lt b hb) g6.size
  ·exact g2 b hb
 ·rcases hb with hb|hb
  ·exact m.src b hb
  ·rcases g3 b hb with hb|hb|hb
   ·exact m.src b hb
   ·exact .inr (hwB b hb).2.2
   ·exact .inr (.inr (Nat.le_trans m.below.size hb))
 ·rcases hold k o h with⟨c,o',h1,h2,rfl⟩|⟨h1,h2,o0,h3,rfl⟩
  ·rw[e2 c k h2]at hb
   obtain⟨p1,p2⟩:=g1.priv c o' b h1 hb;rcases g4 b ⟨c,o',h1,hb⟩with hh|hh
   ·have:=hwB b hh
    exact⟨this.2.2,p1,λhs=>hs.elim this.2.1 p2⟩
   ·exact⟨.inr (Nat.le_trans m.below.size hh),p1,λhs=>hs.elim (λhs=>by have:=m.lt b hs;omega) p2⟩
  ·rw[place k h2]at hb
   obtain⟨p1,p2,p3⟩:=m.priv k o0 b h3 hb;refine⟨p1,Nat.lt_of_lt_of_le p2 g6.size,λhs=> ?_⟩
   rcases hs with hs|hs
   ·exact p3 hs
   ·rcases g3 b hs with hs|hs|hs
    ·exact p3 hs
    ·exact other k o0 b h1 h3 hb hs
    ·omega
 ·rcases hold k o h with⟨c,o1,h1,h2,rfl⟩|⟨h1,h2,o0,h3,rfl⟩<;>rcases hold k' o' hh with⟨c',o2,h1',h2',rfl⟩|⟨h1',h2',o0',h3',rfl⟩
  ·rw[e2 c k h2]at hb
   rw[e2 c' k' h2']at hb'
   have:=g1.inj c c' o1 o2 b h1 h1' hb hb';subst this;have e3:=fJ nb1 h2;rw[fJ nb1 h2']at e3
   injection e3 with e3;exact e3.symm
  ·rw[e2 c k h2]at hb
   rw[place k' h2']at hb'
   rcases g4 b ⟨c,o1,h1,hb⟩with hh|hh
   ·exact(other k' o0' b h1' h3' hb' hh).elim
   ·have:=(m.priv k' o0' b h3' hb').2.1;omega
  ·rw[place k h2]at hb
   rw[e2 c' k' h2']at hb'
   rcases g4 b ⟨c',o2,h1',hb'⟩with hh|hh
   ·exact(other k o0 b h1 h3 hb hh).elim
   ·have:=(m.priv k o0 b h3 hb).2.1;omega
  ·rw[place k h2]at hb
   rw[place k' h2']at hb'
   exact m.inj k k' o0 o0' b h3 h3' hb hb'
 ·exact⟨g6.os.trans m.below.os,g6.tape.trans m.below.tape,g6.output.trans m.below.output,Nat.le_trans m.below.size g6.size,λc hc hO=>by
   refine(g6.block c (Nat.lt_of_lt_of_le hc m.below.size) λhh=> ?_).trans (m.below.block c hc hO)
   rcases(hwB c hh).2.2 with h|h
   ·exact hO h
   ·omega⟩
 · --a place that stays
  refine Eq.trans ?_ (m.stay k hk);show(match zZ k (L4 β)with|some c=>pl1 c|none=>pl k)=_
  cases hl:zZ k (L4 β)with
  |none=>rfl
  |some c=>
   simp only;obtain⟨x,hx,e⟩:=List.mem_map.1 (Mx hl);have e1:x.1=c:=congrArg Prod.fst e;have e3:jV (L4 ρ) dst x.1=k:=congrArg Prod.snd e
   by_cases hr:c∈ρ.map (·.2)
   ·obtain⟨⟨k0,c0⟩,h0,e0⟩:=List.mem_map.1 hr
    simp only at e0;subst e0
    have hb:jV (L4 ρ) dst c0=k0:=by unfold jV;rw[Mw n2 h0]
    rw[e1,hb]at e3;subst e3
    rw[g5 c0 ((c1' k0 c0 h0).1 hk),WI n2 h0]
   ·exfalso
    have hn:zZ c (L4 ρ)=none:=by
     cases hh:zZ c (L4 ρ)with
     |none=>rfl
     |some k0=>exact absurd (List.mem_map.2 ⟨_,Mx hh,rfl⟩) hr
    rw[e1]at e3
    simp only[jV,hn]at e3
    simp only[stabK,Bool.and_eq_true]at hk
    have h2:=Nat.le_of_ble_eq_true hk.2;omega
 ·exact Kc (λc j hj=>e2 c j (fI hj)) (h.mono (λ_ _=>rfl) (λb hb=> .inr hb) λ_ _=>rfl)
theorem zfe(k off:Nat):stabK (cB k off)=false:=by
 unfold stabK cB;cases h:Nat.ble 1000 (1000000+1000*k+off)&&Nat.blt (1000000+1000*k+off) 2000 with
 |false=>rfl
 |true=>
  simp only[Bool.and_eq_true]at h
  have:=Nat.le_of_ble_eq_true h.2;omega
theorem zff{ds:List D}(h:ds[0]? =some (.ifc (.pointer none))):XI ds=true:=by
 cases ds with
 |nil=>cases h
 |cons a r=>injection h with h;subst h;rfl
theorem D0(m:rL P b0 N σ a w S pl)(k off:Nat)(e:TypeId)(t:Ty):∃pl',rL P b0 N (RM σ k off e t) a w S pl'∧∀v d,d.ref≠some (cB k off)→Rd w S pl v d→Rd w S pl' v d:=by
 unfold RM;split
 ·rename_i ds hob
  split
  ·rename_i hnil
   cases hb:Nat.beq k (cB k off)with
   |true=>exact⟨pl,m,λ_ _ _ h=>h⟩
   |false=>
    rw[cond_false];have hne:k≠cB k off:=λe=>by rw[←e,yY.2 rfl]at hb;cases hb
    have m1:=m.mk' (w':=w) (cB k off) (zfe k off) (.row e t []) (.slice none 0 0) (Below.refl _ _) (λb hb=>by cases hb) λpl' _=>⟨by simp[lim],[],rfl,by simpa using World.ownsRow_nil w 0 e t.size,by simp,by simp⟩
    have hob1:zZ k (σ.mk' (cB k off) (.row e t [])).hp=some (.cells (ds.map (D.kill (cB k off)))):=by
     simp only[St.mk',xX,pC,if_neg (Ne.symm hne),St.map,iZ];have:zZ k σ.hp=some (.cells ds):=hob;rw[this];rfl
    obtain⟨b,vs,T,q1,q2,q3,q4,q5⟩:=m1.hp k _ hob1;refine⟨_,m1.setOb (w':=w) hob1 (b:=b) (by rw[q1];rfl) (λ_ _=>rfl) rfl ⟨rfl,rfl,rfl⟩ ?_,λv d hd h=>h.mono (λ_ _=>rfl) (λ_ h=>h) λj hj=>if_neg λe=>hd (by rw[hj,e])⟩
    refine⟨b,vs,T,q1,q2,by simpa using q3,λi d hd=> ?_,λhh=>by rw[List.length_set];exact q5 ((O6 hh).resolve_right λx=>by cases x.2)⟩
    rw[List.getElem?_set]at hd
    split at hd
    ·rename_i e;subst e
     split at hd
     ·injection hd with hd;subst hd
      have:=q4 off .nil (by rw[List.getElem?_map,hnil];rfl)
      have hv:=(this.flat (d:=.nil) rfl).nil_inv;show _=(if cB k off=cB k off then _ else _)
      rw[if_pos rfl,hv]
     ·cases hd
    ·exact q4 i d hd
  ·rename_i hnil
   obtain⟨b,vs,T,q1,q2,q3,q4,q5⟩:=m.hp k _ hob;refine⟨pl,m.setOb (w':=w) hob (b:=b) (by rw[q1];rfl) (λ_ _=>rfl) rfl ⟨rfl,rfl,rfl⟩ ?_,λv d hd h=>h⟩
   refine⟨b,vs,T,q1,q2,by simpa using q3,λi d hd=> ?_,λhh=>by rw[List.length_set];exact q5 ((O6 hh).elim id λx=>zff (x.1▸hnil))⟩
   rw[List.getElem?_set]at hd
   split at hd
   ·rename_i e;subst e
    split at hd
    ·injection hd with hd;subst hd
     have:=q4 off _ hnil;exact .inl (this.flat (d:=.ifc (.pointer none)) rfl).ifc_inv
    ·cases hd
   ·exact q4 i d hd
  ·exact⟨pl,m,λ_ _ _ h=>h⟩
 ·exact⟨pl,m,λ_ _ _ h=>h⟩
theorem WJ(ds:List D):∀(l:List (Nat×(Nat×(TypeId×Ty)))) (σ:St) (pl:Nat→Value),rL P b0 N σ a w S pl→∃pl',rL P b0 N (jU ds l σ) a w S pl'∧∀v d,(∀k,d.ref=some k→k<1000000)→Rd w S pl v d→Rd w S pl' v d
 |[],σ,pl,m=>⟨pl,m,λ_ _ _ h=>h⟩
 |(i,off,e,t)::r,σ,pl,m=>by
  unfold jU;split
  ·rename_i k _
   obtain⟨pl1,m1,h1⟩:=D0 m k off e t;obtain⟨pl2,m2,h2⟩:=WJ ds r _ _ m1;exact⟨pl2,m2,λv d hd h=>h2 v d hd (h1 v d (λe=>by have:=hd _ e;unfold cB at this;omega) h)⟩
  ·exact WJ ds r σ pl m
theorem JO(m:rL P b0 N σ a w S pl)(k off:Nat):∃S',(∀b,S b→S' b)∧rL P b0 N (Xh σ k off) a w S' pl:=by
 unfold Xh;split
 ·split
  ·split
   ·rename_i j _ o hob
    cases hf:o.flatB with
    |false=>exact⟨S,λ_ h=>h,m⟩
    |true=>
     have hfl:o.flat:=by
      cases o with
      |cells cs=>exact λd hd=>mV.1 (List.all_eq_true.1 hf d hd)
      |row _ _ _=>trivial
      |mp _ _ _=>trivial
      |val cs=>exact λd hd=>mV.1 (List.all_eq_true.1 hf d hd)
     exact⟨_,λ_ h=> .inl h,m.pub hob hfl⟩
   ·exact⟨S,λ_ h=>h,m⟩
  ·exact⟨S,λ_ h=>h,m⟩
 ·exact⟨S,λ_ h=>h,m⟩
theorem X2(ds:List D):∀(l:List (Nat×Nat)) (σ:St) (S:Nat→Prop),rL P b0 N σ a w S pl→∃S',(∀b,S b→S' b)∧rL P b0 N (uV ds l σ) a w S' pl
 |[],σ,S,m=>⟨S,λ_ h=>h,m⟩
 |(i,off)::r,σ,S,m=>by
  unfold uV;split
  ·rename_i k _
   obtain⟨S1,h1,m1⟩:=JO m k off;obtain⟨S2,h2,m2⟩:=X2 ds r _ _ m1;exact⟨S2,λb h=>h2 b (h1 b h),m2⟩
  ·exact X2 ds r σ S m
theorem zgS:∀ {ts:List Ty} {K:List D→Prop},exH ts K→∃xs,K xs
 |[],K,h=>⟨[],h⟩
 |t::ts,K,h=>by
  obtain⟨x,h⟩:=h;obtain⟨xs,h⟩:=zgS h;exact⟨_,h⟩
theorem Nh(m:rL P b0 N σ a w S pl){f:FuncId}{hs:Bi}{ds0 caps:List D}{vs cvs:Array Value}(h:JJ P A f hs (zfa o.dst) ds0 caps σ K)(hv:xP (Rd w S pl) vs.toList ds0)(hcv:xP (Rp w S) cvs.toList caps)
  (hn:sX P b0 N o a K next):Calls P f (vs++cvs) w fun
   | .returned v,w''=>next (a.put o.dst v) w''
   | .panicked chain,w''=>Q (.panic chain) a w''
   | .outgrown,_=>LetsOut Q:=by
 unfold JJ at h
 cases hb:caps.all cJ&&ds0.all O9 with
 |false=>rw[hb]at h;exact h.elim
 |true=>
  rw[hb,cond_true]at h
  simp only[Bool.and_eq_true]at hb
  obtain⟨hb1,hb2⟩:=hb;simp only at h
  obtain⟨S1,hS1,m1⟩:=X2 ds0 hs.datas σ S m;obtain⟨pl1,m2,hr1⟩:=WJ (ds0++fw (uV ds0 hs.datas σ) ds0) hs.nils _ _ m1;generalize jU (ds0++fw (uV ds0 hs.datas σ) ds0) hs.nils (uV ds0 hs.datas σ)=σ1 at h m2
  generalize Br σ1.ob (RL ds0) (reach σ1.ob 400 [] ds0) 0 0=ρ at h
  obtain⟨xs,h⟩:=zgS h;split at h
  ·rename_i r h' _
   cases hc:zaa σ1 ρ (zfa o.dst) h' with
   |false=>rw[hc]at h;exact h.elim
   |true=>
    rw[hc,cond_true]at h
    obtain⟨hs',hK⟩:=h;have hc':=hc;simp only[zaa,Bool.and_eq_true]at hc'
    obtain⟨⟨⟨⟨⟨n1,n2⟩,n3⟩,n4⟩,_⟩,_⟩:=hc';have hpk:=Kd m2 n1 n2
    have hv2:xP (Rd w S1 (DZ ρ pl1)) vs.toList (ds0.map (D.ren ρ)):=by
     refine xP.map_right ?_;have:=hv.len;refine xP.of this λi u d hu hd=> ?_
     obtain⟨u',hu',hr⟩:=hv.at hd;rw[hu]at hu';injection hu' with hu';subst hu'
     refine Kc (λk j hj=>WI n2 (fI hj)) (hr1 u d (λk hk=> ?_) (hr.mono (λ_ _=>rfl) hS1 λ_ _=>rfl))
     have:=List.all_eq_true.1 hb2 d (List.mem_of_getElem? hd);unfold O9 at this
     rw[hk]at this
     exact Nat.le_of_ble_eq_true this
    have hcv2:xP (Rd w S1 (DZ ρ pl1)) cvs.toList caps:=(hcv.rmono (λ_ _=>rfl) hS1).rd
    have hall:=hv2.append hcv2
    refine(hs' w S1 (vs++cvs) (DZ ρ pl1) m2.lt (by have:=hall.len;simpa using this) (λi d hd=> ?_) hpk (m2.gnow λb hb=>by
     obtain⟨k,c,o,h1,h2,h3⟩:=My n2 hb;exact(m2.priv k o b h2 h3).1)).mono λe w' hh=> ?_
    ·obtain⟨u,hu,hr⟩:=hall.at hd
     have:(vs++cvs).getD i undef=u:=by rw[Array.getD_eq_getD_getElem?,←Array.getElem?_toList,Array.toList_append,hu];rfl
     rw[this];exact hr
    ·obtain⟨v,S',pl',rfl,k1,k2,k3,k4,k5,k6,k7⟩:=hh
     obtain⟨pl2,m3,hr3⟩:=m2.after hc k2 k3 k4 k5 k6 k7;exact hn _ _ _ _ _ _ hK m3 (hr3 v r k1)
  ·exact h.elim
theorem zcr(m:rL P b0 N σ a w S pl){f:FuncId}{hs:Bi}{ds0 caps:List D}{vs cvs:Array Value}{T:Value→Prop}(h:zgC P f hs ds0 caps σ T)(hv:xP (Rd w S pl) vs.toList ds0)(hcv:xP (Rp w S) cvs.toList caps)
  (hT:∀u w',T u→qB b0.w.heap.size b0.O b0.w w'→Q (.panic [{v:=u,recovered:=false}]) a w'):Calls P f (vs++cvs) w fun
   | .returned v,w''=>next (a.put o.dst v) w''
   | .panicked chain,w''=>Q (.panic chain) a w''
   | .outgrown,_=>LetsOut Q:=by
 unfold zgC at h
 cases hb:caps.all cJ&&ds0.all O9 with
 |false=>rw[hb]at h;exact h.elim
 |true=>
  rw[hb,cond_true]at h
  simp only[Bool.and_eq_true]at hb
  obtain⟨hb1,hb2⟩:=hb;simp only at h
  obtain⟨S1,hS1,m1⟩:=X2 ds0 hs.datas σ S m;obtain⟨pl1,m2,hr1⟩:=WJ (ds0++fw (uV ds0 hs.datas σ) ds0) hs.nils _ _ m1;generalize jU (ds0++fw (uV ds0 hs.datas σ) ds0) hs.nils (uV ds0 hs.datas σ)=σ1 at h m2
  generalize Br σ1.ob (RL ds0) (reach σ1.ob 400 [] ds0) 0 0=ρ at h
  cases hc:kW (ρ.map (·.1))&&kW (ρ.map (·.2))with
  |false=>rw[hc]at h;exact h.elim
  |true=>
   rw[hc,cond_true]at h
   obtain⟨u,hs',hK⟩:=h;simp only[Bool.and_eq_true]at hc
   obtain⟨n1,n2⟩:=hc;have hpk:=Kd m2 n1 n2
   have hv2:xP (Rd w S1 (DZ ρ pl1)) vs.toList (ds0.map (D.ren ρ)):=by
    refine xP.map_right ?_;have:=hv.len;refine xP.of this λi u d hu hd=> ?_
    obtain⟨u',hu',hr⟩:=hv.at hd;rw[hu]at hu';injection hu' with hu';subst hu'
    refine Kc (λk j hj=>WI n2 (fI hj)) (hr1 u d (λk hk=> ?_) (hr.mono (λ_ _=>rfl) hS1 λ_ _=>rfl))
    have:=List.all_eq_true.1 hb2 d (List.mem_of_getElem? hd);unfold O9 at this
    rw[hk]at this
    exact Nat.le_of_ble_eq_true this
   have hcv2:xP (Rd w S1 (DZ ρ pl1)) cvs.toList caps:=(hcv.rmono (λ_ _=>rfl) hS1).rd
   have hall:=hv2.append hcv2
   have hwB:∀b,nS (DZ ρ pl1) (fa σ1.ob ρ ρ) b→b0.O b∨b0.w.heap.size≤b:=λb hb=>by
    obtain⟨k,c,o,h1,h2,h3⟩:=My n2 hb;exact(m2.priv k o b h2 h3).1
   refine(hs' w S1 (vs++cvs) (DZ ρ pl1) m2.lt (by have:=hall.len;simpa using this) (λi d hd=> ?_) hpk (m2.gnow hwB)).mono λe w' hh=> ?_
   ·obtain⟨u,hu,hr⟩:=hall.at hd
    have:(vs++cvs).getD i undef=u:=by rw[Array.getD_eq_getD_getElem?,←Array.getElem?_toList,Array.toList_append,hu];rfl
    rw[this];exact hr
   ·obtain⟨rfl,g6⟩:=hh
    refine hT u w' hK ⟨g6.os.trans m.below.os,g6.tape.trans m.below.tape,g6.output.trans m.below.output,Nat.le_trans m.below.size g6.size,λc hc hO=> ?_⟩
    refine(g6.block c (Nat.lt_of_lt_of_le hc m.below.size) λhh=> ?_).trans (m.below.block c hc hO)
    rcases hwB c hh with h|h
    ·exact hO h
    ·omega
end
section
variable {P:Program}{E:TE}{A:wA}{b0:Vy}{w w':World}{S S':Nat→Prop}{pl pl':Nat→Value}{N:Nat}{σ:St}{a:Act}{v:Value}{d:D}{o:Oper}{K:D→St→Prop}{next:Act→World→Prop}{Q:Exit→Act→World→Prop}
theorem Mz(m:rL P b0 N σ a w S pl){dflt:Int}{x:Option Operand}{n:Int}(h:Yq σ dflt x=some n):(x=none∧n=dflt)∨∃y,x=some y∧a.eval y=.int .i64 n:=by
 cases x with
 |none=>injection h with h;exact .inl ⟨rfl,h.symm⟩
 |some y=>
  right;have hy:=sF m y;simp only[Yq]at h
  split at h
  ·rename_i k e
   injection h with h;subst h
   rw[e]at hy
   exact⟨y,rfl,(hy.flat (d:=.int .i64 k) rfl).int_inv.1⟩
  ·cases h
theorem BH(n:Int)(y:Nat)(code:BoundsCode)(h0:0≤n)(h1:n≤(y:Int)):(Instr.sliceBound (.int .i64 n) y code).run P w=.ok n.toNat w:=by
 simp only[Instr.sliceBound,asIntOf,Sem.run_bind,Sem.run_pure,Result.andThen_ok];rw[if_pos ⟨h0,h1⟩];rfl
theorem Gn{lo hi:Option Operand}{l h:Int}{isS:Bool}{len cap:Nat}(hlo:(lo=none∧l=0)∨∃y,lo=some y∧a.eval y=.int .i64 l)(hhi:(hi=none∧h=(len:Int))∨∃y,hi=some y∧a.eval y=.int .i64 h)
  (h0:0≤l) (h1:l≤h) (h2:h≤(len:Int)) (hc:len≤cap):(Instr.sliceBounds isS len cap (lo.map a.eval) (hi.map a.eval) none).run P w=.ok (l.toNat,h.toNat,cap) w:=by
 unfold Instr.sliceBounds;rcases hhi with⟨rfl,rfl⟩|⟨y,rfl,e⟩<;>rcases hlo with⟨rfl,rfl⟩|⟨z,rfl,e'⟩
 ·simp only[Option.map_none,Sem.run_bind,Sem.run_pure,Result.andThen_ok];try rfl
 ·simp only[Option.map_none,Option.map_some,e',Sem.run_bind,Sem.run_pure,Result.andThen_ok,BH l len _ h0 (by omega)];try rfl
 ·simp only[Option.map_none,Option.map_some,e,Sem.run_bind,Sem.run_pure,Result.andThen_ok,BH h cap _ (by omega) (by omega)];try rfl
 ·simp only[Option.map_some,e,e',Sem.run_bind,Sem.run_pure,Result.andThen_ok,BH h cap _ (by omega) (by omega),BH l h.toNat _ h0 (by omega)]
theorem D1{l h:Int}{len:Nat}(hh:Mn l h len=true):0≤l∧l≤h∧h≤(len:Int):=by simpa[Mn,and_assoc]using hh
theorem zj9{t:Ty}{xs:List t.den}{A:Option Addr}{c l h:Nat}(hr:Yd w S (.slice A xs.length c) xs)(h1:l≤h)(h2:h≤xs.length):Yd w S (sliced A l h c t.size) ((xs.take h).drop l):=by
 obtain⟨cs,e,A',c',rfl,k0,k1,k2,k3,k4⟩:=hr;simp only[vOf,Value.slice.injEq]at e
 obtain⟨rfl,_,rfl⟩:=e;have hlen:((xs.take h).drop l).length=h-l:=by rw[List.length_drop,List.length_take];omega
 refine⟨[_],rfl,(if c=l then A else A.map (·.add (l*t.size))),c-l,by rw[hlen],?_,by omega,by omega,λhn=> ?_,λhn=> ?_⟩
 ·rw[hlen]
  exact Nat.le_trans (Nat.mul_le_mul_right _ (by omega)) k0
 ·split at hn
  ·have:=k3 hn;omega
  ·cases A with
   |none=>have:=k3 rfl;omega
   |some ad=>cases hn
 ·obtain⟨b,o',rfl,hb,hc⟩:=k4 (by omega)
  rw[if_neg (by omega)]
  refine⟨b,o'+l*t.size,?_,hb,λi x hx=> ?_⟩
  ·simp only[Option.map_some,Addr.add]
   split
   ·rename_i e;rw[e];rfl
   ·rfl
  ·rw[List.getElem?_drop,List.getElem?_take]at hx
   split at hx
   ·obtain⟨cs,hcs,hcell⟩:=hc (l+i) x hx
    refine⟨cs,hcs,λj u hu=> ?_⟩
    have:=hcell j u hu;rw[←this,←Ty.size_eq]
    congr 2
    rw[Nat.add_mul];omega
   ·cases hx
theorem zgT(F:tT P E)(m:rL P b0 N σ a w S pl){T:TypeId}{x:Operand}{lo hi:Option Operand}(ho:o.op=.slice T x lo hi none)(h:Bm E A T (σ.ev x) σ lo hi K)(hn:sX P b0 N o a K next):o.wp P a w next Q:=by
 have hx:=sF m x;unfold Bm at h
 split at h
 ·rename_i s e
  rw[e]at hx
  obtain⟨hx,hsz⟩:=(hx.flat (d:=.str s) rfl).str_inv;cases hm:qO T E.strs with
  |false=>rw[hm]at h;exact h.elim
  |true=>
   rw[hm,cond_true]at h
   split at h
   ·rename_i l hh e1 e2
    obtain⟨hin,h⟩:=h;obtain⟨h0,h1,h2⟩:=D1 hin;have hb:=Gn (P:=P) (w:=w) (isS:=false) (cap:=s.size) (Mz m e1) (Mz m e2) h0 h1 h2 (Nat.le_refl _)
    have hrun:(execOp a.eval o).run P w=.ok (.value (.string (s.extract l.toNat hh.toNat))) w:=by
     unfold execOp;rw[ho];simp only[Instr.sliceAt,Instr.slice,Sem.run_bind,run_underlying (F.strs T hm),Result.andThen_ok,hx,Option.map_none,Option.isSome_none,Bool.false_eq_true,if_false,hb,Sem.run_pure]
    refine yN hrun (hn _ _ _ _ _ _ h m (Rp.rd (.str _ ?_)));rw[ByteArray.size_extract];omega
   ·exact h.elim
 ·obtain⟨σ',ds',S',hK,hS,m',hv⟩:=pH h m
  have hr:=hv [a.eval x] (.cons hx .nil);split at hK
  ·rename_i t xs
   split at hK
   ·rename_i e t' l hh hl e1 e2
    cases hz:Nat.beq t'.size t.size with
    |false=>rw[hz]at hK;exact hK.elim
    |true=>
     rw[hz,cond_true]at hK
     obtain⟨hin,hK⟩:=hK;obtain⟨h0,h1,h2⟩:=D1 hin;obtain _|⟨hr1,_⟩:=hr
     have hrd:=hr1.sl_inv;obtain⟨A',c,hv',hok⟩:=sO hrd;have hb:=Gn (P:=P) (w:=w) (isS:=true) (cap:=c) (Mz m' e1) (Mz m' e2) h0 h1 h2 hok.cap
     have hrun:(execOp a.eval o).run P w=.ok (.value (sliced A' l.toNat hh.toNat c t.size)) w:=by
      unfold execOp;rw[ho];simp only[Instr.sliceAt,Instr.slice,Sem.run_bind,run_underlying (F.sl T e t' hl).und,Result.andThen_ok,hv',Option.map_none,hb,Nf F hl,Sem.run_pure];rw[yY.1 hz];rfl
     rw[hv']at hrd
     exact yN hrun (hn _ _ _ _ _ _ hK m' (Rp.rd (.sl t _ _ (zj9 hrd (by omega) (by omega)))))
   ·exact hK.elim
  ·exact hK.elim
theorem zka(F:tT P E)(m:rL P b0 N σ a w S pl){c:Call}(ho:o.op=.call c)(hc:c.callee=.builtin .len){x:Operand}{T:TypeId}(ha:c.args.toList=[x])(ht:c.argTypes.toList=[T])(h:ziI E T (σ.ev x) σ λd=>K d σ)(hn:sX P b0 N o a K next):o.wp P a w next Q:=by
 have hx:=sF m x;have ha':c.args= #[x]:=by apply Array.ext';simpa using ha
 have ht':c.argTypes= #[T]:=by apply Array.ext';simpa using ht
 have run:∀u,(Builtin.len_ #[T] o.type #[a.eval x]).run P w=.ok u w→(execOp a.eval o).run P w=.ok (.value u) w:=λu h=>by
  unfold execOp;rw[ho];simp only[resolve,hc,ha',ht',invoke,builtin,List.map_toArray,List.map_cons,List.map_nil,Sem.run_bind,Sem.run_pure,Result.andThen_ok,h]
 have ii:∀n:Nat,n≤9223372036854775807→Rd w S pl (.int .i64 (n:Int)) (.int .i64 (n:Int)):=λn hn=>Rp.rd (.int _ _ (by unfold inK yJ;omega))
 have srun:∀e A n c,P.underlying T=some (.slice e)→a.eval x=.slice A n c→(Builtin.len_ #[T] o.type #[a.eval x]).run P w=.ok (.int .i64 (n:Int)) w:=λe A n c hu hv=>by
  simp[Builtin.len_,run_underlying hu,hv,goInt]
 have mrun:∀kT eT b ents clock {n:Nat},P.underlying T=some (.map kT eT)→a.eval x=.map (some b)→w.heap[b]? =some (.map ents clock)→ents.toList.length=n→(Builtin.len_ #[T] o.type #[a.eval x]).run P w=.ok (.int .i64 (n:Int)) w:=λkT eT b ents clock n hu hv hb hl=>by
  have hget:(getObj b).run P w=.ok (.map ents clock) w:=by simp[getObj,Sem.run,hb]
  subst hl;simp[Builtin.len_,run_underlying hu,hv,goInt,hget]
 unfold ziI at h
 split at h
 ·rename_i s e
  rw[e]at hx
  obtain⟨hx,hsz⟩:=(hx.flat (d:=.str s) rfl).str_inv;cases hm:qO T E.strs with
  |false=>rw[hm]at h;exact h.elim
  |true=>
   rw[hm,cond_true]at h
   refine yN (run (.int .i64 (s.size:Int)) ?_) (hn _ _ _ _ _ _ h m (ii _ (by omega)))
   simp[Builtin.len_,run_underlying (F.strs T hm),hx,goInt]
 ·rename_i e
  rw[e]at hx
  have hx:=(hx.flat (d:=.nil) rfl).nil_inv;split at h
  ·rename_i y hl
   obtain⟨te,t⟩:=y;exact yN (run _ (srun _ _ _ _ (F.sl T te t hl).und hx)) (hn _ _ _ _ _ _ h m (ii 0 (by omega)))
  ·exact h.elim
 ·rename_i kt vt es e
  rw[e]at hx
  obtain⟨b,hv,_,h0,ents,clock,hb,hes⟩:=(hx.flat (d:=.mp kt vt es) rfl).mp_inv;split at h
  ·rename_i y hl
   obtain⟨k0,v0⟩:=y;obtain⟨kT,eT,i,z,dz,hu,_⟩:=F.mps T _ _ hl;exact yN (run _ (mrun _ _ _ _ _ hu hv hb hes.len)) (hn _ _ _ _ _ _ h m (ii _ (by omega)))
  ·exact h.elim
 ·rename_i t xs e
  rw[e]at hx
  obtain⟨A',c',hv,hok⟩:=sO (hx.flat (d:=.sl t xs) rfl).sl_inv;split at h
  ·rename_i y hl
   obtain⟨te,t'⟩:=y;exact yN (run _ (srun _ _ _ _ (F.sl T te t' hl).und hv)) (hn _ _ _ _ _ _ h m (ii _ (Nat.le_trans hok.cap hok.max)))
  ·exact h.elim
 ·rename_i k e
  rw[e]at hx
  have hx:a.eval x=pl k:=hx;split at h
  ·rename_i e' t xs hob
   split at h
   ·rename_i y hl
    obtain⟨te,t'⟩:=y;obtain⟨_,css,_,q2,_⟩:=m.hp k _ hob;rcases q2.2 with⟨ep,e0⟩|⟨g,cap,cur,ep,_,_,hcap,hmax,_⟩
    ·rw[e0]at h
     exact yN (run _ (srun _ _ _ _ (F.sl T te t' hl).und (hx.trans ep))) (hn _ _ _ _ _ _ h m (ii 0 (by omega)))
    ·exact yN (run _ (srun _ _ _ _ (F.sl T te t' hl).und (hx.trans ep))) (hn _ _ _ _ _ _ h m (ii _ (by unfold maxLen at hmax;omega)))
   ·exact h.elim
  ·rename_i kt vt es hob
   split at h
   ·rename_i y hl
    obtain⟨k0,v0⟩:=y;obtain⟨kT,eT,i,z,dz,hu,_⟩:=F.mps T _ _ hl;obtain⟨b,hv,h0,ents,clock,hb,hes⟩:=m.hp k _ hob;exact yN (run _ (mrun _ _ _ _ _ hu (hx.trans hv) hb hes.len)) (hn _ _ _ _ _ _ h m (ii _ (by omega)))
   ·exact h.elim
  ·exact h.elim
 ·exact h.elim
def Src(w:World)(S:Nat→Prop)(t:Ty)(u:Value)(ys:List t.den):Prop:=
 ∃A c,u=.slice A ys.length c∧∃ccs:List (List Value),ccs.length=ys.length∧(∀cs∈ccs,cs.length=t.size)∧(∀(i:Nat) (x:t.den) (cs:List Value),ys[i]? =some x→ccs[i]? =some cs→vS.rd w S cs x)∧
  (0<ys.length→∃b o,A=some ⟨b,o,none⟩∧∀j u,ccs.flatten[j]? =some u→w.cell? ⟨b,o+j,none⟩=some u)
theorem zef(t:Ty):Src w S t (.slice none 0 0) ([]:List t.den):=⟨none,0,rfl,[],rfl,by simp,by simp,by simp⟩
theorem zkb{t:Ty}{u:Value}{ys:List t.den}(hy:Yd w S u ys):Src w S t u ys:=by
 obtain⟨ucs,rfl,A,c,rfl,k0,k1,k2,k3,k4⟩:=hy;refine⟨A,c,rfl,?_⟩
 by_cases hn:0<ys.length
 ·obtain⟨b,o',hA,hb',hc⟩:=k4 hn
  have hc':∀i:Fin ys.length,∃cs,vS.rd w S cs ys[i]∧∀j u,cs[j]? =some u→w.cell? ⟨b,o'+i*vS.size t.den+j,none⟩=some u:=λi=>hc i _ (List.getElem?_eq_getElem i.2)
  let f:Fin ys.length→List Value:=λi=>(hc' i).choose
  have hf:∀i,vS.rd w S (f i) ys[i]∧∀j u,(f i)[j]? =some u→w.cell? ⟨b,o'+i*vS.size t.den+j,none⟩=some u:=λi=>(hc' i).choose_spec
  have hl:∀cs∈List.ofFn f,cs.length=t.size:=λcs hcs=>by
   obtain⟨i,rfl⟩:=List.mem_ofFn.1 hcs;rw[Ty.size_eq];exact vS.len (hf i).1
  refine⟨List.ofFn f,by simp,hl,λi x cs hx hcs=> ?_,λ_=>⟨b,o',hA,λj u hu=> ?_⟩⟩
  ·have hi:i<ys.length:=(List.getElem?_eq_some_iff.1 hx).1
   rw[List.getElem?_eq_getElem hi]at hx
   have:cs=f ⟨i,hi⟩:=by simpa[List.getElem?_ofFn,hi]using hcs.symm
   subst this;injection hx with hx
   rw[←hx];exact(hf ⟨i,hi⟩).1
  ·have hpos:0<t.size:=by rw[Ty.size_eq];exact vS.pos
   rw[RO hpos _ hl]at hu
   have hdm:j/t.size*t.size+j%t.size=j:=by rw[Nat.mul_comm];exact Nat.div_add_mod _ _
   cases hq:(List.ofFn f)[j/t.size]? with
   |none=>rw[hq]at hu;cases hu
   |some cs=>
    rw[hq]at hu
    simp only[Option.bind_some]at hu
    have hi:j/t.size<ys.length:=by have:=(List.getElem?_eq_some_iff.1 hq).1;simpa using this
    have:cs=f ⟨j/t.size,hi⟩:=by simpa[List.getElem?_ofFn,hi]using hq.symm
    subst this;have:=(hf ⟨j/t.size,hi⟩).2 _ u hu;rw[←Ty.size_eq,Nat.add_assoc]at this
    simp only[hdm]at this
    exact this
 ·have:ys=[]:=List.eq_nil_of_length_eq_zero (by omega)
  subst this;exact⟨[],rfl,by simp,by simp,λh=>absurd h (by simp)⟩
theorem ziX{e:TypeId}{t:Ty}{p:Value}{ys:List t.den}(h:Xf w S pl p (.row e t ys)):Src w S t p ys:=by
 obtain⟨q0,css,q1,q2,q3,q4⟩:=h;rcases q2.2 with⟨ep,e0⟩|⟨g,cap,cur,ep,_,hg,hcap,hmax,hcur,htake⟩
 ·have:ys=[]:=List.eq_nil_of_length_eq_zero e0
  subst this;rw[ep];exact zef t
 ·refine⟨some ⟨g,0,none⟩,cap,ep,css,q1,q3,q4,λ_=>⟨g,0,rfl,λj u hu=> ?_⟩⟩
  have:=q2.cells (g:=g) (by rw[ep];rfl) j u hu
  rw[←this];unfold Addr.add;split
  ·rename_i e;simp[e]
  ·simp
theorem Ni(F:tT P E){T e:TypeId}{t' t:Ty}(hl:zZ T E.sl=some (e,t'))(ht:t'.size=t.size)(hby:t'.bytes=t.bytes){p u:Value}{xs ys:List t.den}(hx:Xf w S pl p (.row e t xs))(hy:Src w S t u ys)(hb:wN t (xs.length+ys.length)=true)
  (hSb:∀b,pY p=some b→¬S b) (hlt:∀b,S b→b<w.heap.size) (ty:TypeId):
  ∃p' w',(Builtin.append_ #[T,T] ty #[p,u]).run P w=.ok p' w'∧w.grownBy w' (pY p)∧(∀b,pY p'=some b→pY p=some b∨(w.heap.size≤b∧b<w'.heap.size))∧Xf w' S pl' p' (.row e t (xs++ys)):=by
 obtain⟨hu,i,z,hi,hz,hsz,hbt,hzb⟩:=F.sl T e t' hl;have hzs:z.cells.size=t.size:=by have:=(Na (w:=w) (S:=S) hzb).len;rw[eJ,ht]at this;simpa using this
 obtain⟨A,c,rfl,ccs,y1,y2,y3,y4⟩:=hy;obtain⟨q0,css,q1,q2,q3,q4⟩:=hx;have hroom:(xs.length+ys.length)*t.bytes≤140737488355328:=of_decide_eq_true hb;have hbp:0<t.bytes:=t.bytes_pos;have hle:xs.length+ys.length≤(xs.length+ys.length)*t.bytes:=Nat.le_mul_of_pos_right _ hbp;have hpos:0<t.size:=by rw[Ty.size_eq];exact vS.pos
 have hob:pY p=p.ownBlock:=by
  rcases q2.2 with⟨ep,_⟩|⟨g,cap,cur,ep,_⟩<;>rw[ep]<;>rfl
 have hone:∀u∈ccs.flatten,u.oneCell'=true:=λu hu=>by
  obtain⟨cs,hcs,hu⟩:=List.mem_flatten.1 hu;obtain⟨j,hj,rfl⟩:=List.getElem_of_mem hcs;exact vS.one (y3 j (ys[j]'(by omega)) _ (List.getElem?_eq_getElem (by omega)) (List.getElem?_eq_getElem hj)) u hu
 have main:∃p' w',(Builtin.append_ #[T,T] ty #[p,.slice A ys.length c]).run P w=.ok p' w'∧w'.ownsRow 0 e t.size p' (xs.length+ys.length) (css.flatten++ccs.flatten)∧w.grownBy w' p.ownBlock∧(p'.ownBlock=p.ownBlock∨p'.ownBlock=some w.heap.size):=by
  by_cases hn:0<ys.length
  ·obtain⟨b,o',hA,hc⟩:=y4 hn
   subst hA
   obtain⟨v',w',r1,r2,r3,_,r4⟩:=run_append_own_at (P:=P) w 0 T ty e i z t.size t.bytes hu hi hz (hsz.trans ht) (hbt.trans hby) hzs hpos p xs.length css.flatten q2 ⟨b,o',none⟩ ys.length c ccs.flatten (by rw[WF _ y2,y1])
    (λj u hu=>by
     have:=hc j u hu;unfold Addr.add;split
     ·rename_i e;subst e;simpa using this
     ·exact this)
    hone (by unfold maxLen;omega) hroom (Nat.zero_le _)
   exact⟨v',w',r1,r2,r3,r4⟩
  ·have e0:ys=[]:=List.eq_nil_of_length_eq_zero (by omega)
   subst e0;have e1:ccs=[]:=List.eq_nil_of_length_eq_zero (by simpa using y1)
   subst e1;rcases A with _|ad
   ·refine⟨p,w,?_,by simpa using q2,World.grownBy.refl w _,.inl rfl⟩
    rcases q2.2 with⟨rfl,e0⟩|⟨g,cap,cur,rfl,_,_,hnc,_⟩
    ·simp[Builtin.append_,run_underlying hu,sizeOf,typeInfo,hi,Builtin.lenOf,Builtin.firstCells]
    ·simp[Builtin.append_,run_underlying hu,sizeOf,typeInfo,hi,Builtin.lenOf,Builtin.firstCells,hnc,storeCells]
   ·obtain⟨v',w',r1,r2,r3,_,r4⟩:=run_append_own_at (P:=P) w 0 T ty e i z t.size t.bytes hu hi hz (hsz.trans ht) (hbt.trans hby) hzs hpos p xs.length css.flatten q2 ad 0 c [] (by simp) (by simp) (by simp) (by unfold maxLen;simp at hle hroom;omega) (by simpa using hroom) (Nat.zero_le _)
    exact⟨v',w',r1,by simpa using r2,r3,r4⟩
 obtain⟨p',w',r1,r2,r3,r4⟩:=main;have hkeep:∀b,S b→w'.heap[b]? =w.heap[b]? :=λb hb=>r3.block b (hlt b hb) λe=>hSb b (by rw[hob];exact e.symm) hb
 refine⟨p',w',r1,by rw[hob];exact r3,λb hb=> ?_,by rw[List.length_append];exact hroom,css++ccs,by simp[q1,y1],by simpa using r2,λcs hcs=> ?_,λj x cs hx hcs=> ?_⟩
 ·have hpb:p'.ownBlock=some b:=by
   rcases r2.2 with⟨ep,_⟩|⟨g,cap,cur,ep,_⟩
   ·rw[ep]at hb;cases hb
   ·rw[ep]at hb⊢;exact hb
  rcases r4 with r4|r4
  ·left;rw[hob,←r4];exact hpb
  ·right
   rw[hpb]at r4;injection r4 with r4
   have:=r2.lt b hpb;omega
 ·rcases List.mem_append.1 hcs with h|h
  ·exact q3 cs h
  ·exact y2 cs h
 ·have key:vS.rd w S cs x:=by
   by_cases hj:j<xs.length
   ·rw[List.getElem?_append_left hj]at hx
    rw[List.getElem?_append_left (by omega)]at hcs
    exact q4 j x cs hx hcs
   ·rw[List.getElem?_append_right (by omega)]at hx
    rw[List.getElem?_append_right (by omega),q1]at hcs
    exact y3 _ x cs hx hcs
  exact vS.mono key hkeep λ_ h=>h
theorem Gp(m:rL P b0 N σ a w S pl){k:Nat}{t:Ty}{ys:List t.den}(h:Rd w S pl v d)(hs:JI σ k t d=some ys):Src w S t v ys:=by
 unfold JI at hs
 split at hs
 ·injection hs with hs;subst hs
  rw[(h.flat (d:=.nil) rfl).nil_inv];exact zef t
 ·rename_i t' zs
  split at hs
  ·rename_i e;subst e;injection hs with hs;subst hs
   exact zkb (h.flat (d:=.sl t' zs) rfl).sl_inv
  ·cases hs
 ·rename_i j
  cases hb:Nat.beq j k with
  |true=>rw[hb]at hs;cases hs
  |false=>
   rw[hb,cond_false]at hs
   split at hs
   ·rename_i e' t' zs hob
    split at hs
    ·rename_i e;subst e;injection hs with hs;subst hs
     have h:v=pl j:=h;rw[h];exact ziX (m.hp j _ hob)
    ·cases hs
   ·cases hs
 ·cases hs
theorem Gq(F:tT P E){T T' e:TypeId}(hl:zZ T E.sl=some (e,.byte))(hT':qO T' E.strs=true){p:Value}{xs:List UInt8}{s:ByteArray}(hx:Xf w S pl p (.row e .byte xs))(hb:wN .byte (xs.length+s.size)=true)
  (hSb:∀b,pY p=some b→¬S b) (hlt:∀b,S b→b<w.heap.size) (ty:TypeId):
  ∃p' w',(Builtin.append_ #[T,T'] ty #[p,.string s]).run P w=.ok p' w'∧w.grownBy w' (pY p)∧(∀b,pY p'=some b→pY p=some b∨(w.heap.size≤b∧b<w'.heap.size))∧Xf w' S pl' p' (.row e .byte (xs++s.data.toList)):=by
 obtain⟨hu,i0,z0,hi0,_,hsz,hbt,_⟩:=F.sl T e .byte hl;obtain⟨i,hi,hz⟩:=F.byt T e hl;obtain rfl:i0=i:=by rw[hi0]at hi;injection hi
 have hsz:i0.size=1:=hsz;have hbt:i0.bytes=1:=hbt;have hstr:=F.strs T' hT';obtain⟨q0,css,q1,q2,q3,q4⟩:=hx;have hroom:(xs.length+s.size)*1≤140737488355328:=of_decide_eq_true hb;have q2:w.ownsRow 0 e 1 p xs.length css.flatten:=q2
 have hob:pY p=p.ownBlock:=by
  rcases q2.2 with⟨ep,_⟩|⟨g,cap,cur,ep,_⟩<;>rw[ep]<;>rfl
 obtain⟨v',w',r1,r2,r3,r4⟩:=Lib.run_append_own_string (P:=P) (w:=w) 0 T T' ty e i0 hu hstr hi hz hsz hbt p _ _ q2 s (by unfold maxLen;omega) (by omega) (Nat.zero_le _)
 have hblk:v'.ownBlock=p.ownBlock∨v'.ownBlock=some w.heap.size:=by
  rcases q2.2 with⟨ep,e0⟩|⟨g,cap,cur,ep,hbg,hg,hnc,hcm,hcs,htake⟩
  ·by_cases hm:s.size=0
   ·left;rw[r4.2 ⟨ep,hm⟩,ep]
   ·have hr:=run_append_nil_string (P:=P) w T T' ty e i0 (.int .u8 0) hu hstr hi hz s (by omega) (by omega) (by rw[hbt];omega)
    rw[ep,hr]at r1;injection r1 with r1;right;rw[←r1];rfl
  ·by_cases hrm:xs.length+s.size≤cap
   ·have hr:=Lib.run_append_room_string (P:=P) (w:=w) T T' ty e i0 hu hstr hi hsz g xs.length cap cur hg s hrm (by omega)
    rw[ep,hr]at r1;injection r1 with r1;left;rw[←r1,ep];rfl
   ·have hr:=Lib.run_append_grow_string (P:=P) (w:=w) T T' ty e i0 (.int .u8 0) hu hstr hi hz ⟨g,0,none⟩ xs.length cap css.flatten (by rw[hsz];simpa using q2.1) (q2.cells (g:=g) (by rw[ep];rfl)) s (by omega) (by omega) (by rw[hbt];exact growslice_fits (by omega) (by omega))
    rw[ep,hr]at r1;injection r1 with r1;right;rw[←r1];rfl
 have hkeep:∀b,S b→w'.heap[b]? =w.heap[b]? :=λb hb=>r3.block b (hlt b hb) λe=>hSb b (by rw[hob];exact e.symm) hb
 have hsl:s.data.toList.length=s.size:=by rw[Array.length_toList];rfl
 have hob':pY v'=v'.ownBlock:=by
  rcases r2.2 with⟨ep,_⟩|⟨g,cap,cur,ep,_⟩<;>rw[ep]<;>rfl
 refine⟨v',w',r1,by rw[hob];exact r3,λb hb=> ?_,by rw[List.length_append,hsl];exact hroom,css++s.data.toList.map (λc=>[Value.int .u8 (c.toNat:Int)]),by rw[List.length_append,List.length_append,List.length_map,q1],?_,λcs hcs=> ?_,λj x cs hx hcs=> ?_⟩
 ·rw[hob']at hb
  rcases hblk with h|h
  ·left;rw[hob,←h];exact hb
  ·right
   rw[h]at hb;injection hb with hb
   have:=r2.lt b (by rw[h,hb])
   omega
 ·rw[List.length_append,hsl,List.flatten_append]
  have e2:(s.data.toList.map (λc=>[Value.int .u8 (c.toNat:Int)])).flatten=Lib.strCells s:=by
   rw[Lib.strCells];generalize s.data.toList=l
   induction l with
   |nil=>rfl
   |cons c l ih=>rw[List.map_cons,List.flatten_cons,ih];rfl
  rw[e2];exact r2
 ·rcases List.mem_append.1 hcs with h|h
  ·exact q3 cs h
  ·obtain⟨c,_,rfl⟩:=List.mem_map.1 h;rfl
 ·have key:vS.rd w S cs x:=by
   by_cases hj:j<xs.length
   ·rw[List.getElem?_append_left hj]at hx
    rw[List.getElem?_append_left (by omega)]at hcs
    exact q4 j x cs hx hcs
   ·rw[List.getElem?_append_right (by omega)]at hx
    rw[List.getElem?_append_right (by omega),q1,List.getElem?_map,hx]at hcs
    injection hcs with hcs
    exact hcs.symm
  exact vS.mono key hkeep λ_ h=>h
theorem zfg(F:tT P E)(m:rL P b0 N σ a w S pl){c:Call}(ho:o.op=.call c)(hc:c.callee=.builtin .append){x y:Operand}{T T':TypeId}(ha:c.args.toList=[x,y])(ht:c.argTypes.toList=[T,T'])(h:HH E A o T T' (σ.ev x) y σ K)(hn:sX P b0 N o a K next):o.wp P a w next Q:=by
 have hx:=sF m x;have hy:=sF m y;have ha':c.args= #[x,y]:=by apply Array.ext';simpa using ha
 have ht':c.argTypes= #[T,T']:=by apply Array.ext';simpa using ht
 unfold HH at h
 split at h
 ·rename_i e t' hl
  cases hT:Nat.beq T T' with
  |false=>
   rw[hT,cond_false]at h
   unfold zj3 at h
   split at h
   ·rename_i hstr
    split at h
    ·rename_i k s ex ey
     rw[ex]at hx
     rw[ey]at hy
     have hx:a.eval x=pl k:=hx;have hy:=(hy.flat (d:=.str s) rfl).str_inv.1;split at h
     ·rename_i e' xs hob
      cases he:Nat.beq e e'&& !stabK k with
      |false=>rw[he]at h;exact h.elim
      |true=>
       rw[he,cond_true]at h
       simp only[Bool.and_eq_true]at he
       have hee:=yY.1 he.1;subst hee;obtain⟨hroom,h⟩:=h;obtain⟨p',w',r1,r2,r3,r4⟩:=Gq (P:=P) (pl':=λj=>pl j) F hl hstr (m.hp k _ hob) hroom (λb hb=>(m.priv k _ b hob hb).2.2) m.lt o.type
       have hrun:(execOp a.eval o).run P w=.ok (.value p') w':=by
        unfold execOp;rw[ho];simp only[resolve,hc,ha',ht',invoke,builtin,List.map_toArray,List.map_cons,List.map_nil,Sem.run_bind,Sem.run_pure,Result.andThen_ok,hx,hy,r1]
       exact yN hrun (hn _ _ _ _ _ _ h (m.grow (by simpa using he.2) hob p' r2 r3 r4) (if_pos rfl).symm)
     ·exact h.elim
    ·exact h.elim
   ·exact h.elim
  |true=>
   rw[hT,cond_true]at h
   have hT:=yY.1 hT;subst hT;split at h
   ·rename_i k ex
    rw[ex]at hx
    have hx:a.eval x=pl k:=hx;split at h
    ·rename_i e' t xs hob
     cases he:Nat.beq e e'&&Nat.beq t'.size t.size&&Nat.beq t'.bytes t.bytes&& !stabK k with
     |false=>rw[he]at h;exact h.elim
     |true=>
      rw[he,cond_true]at h
      simp only[Bool.and_eq_true]at he
      have hee:=yY.1 he.1.1.1;subst hee;split at h
      ·rename_i ys hs
       obtain⟨hroom,h⟩:=h;obtain⟨p',w',r1,r2,r3,r4⟩:=Ni (P:=P) (pl':=λj=>pl j) F hl (yY.1 he.1.1.2) (yY.1 he.1.2) (m.hp k _ hob) (Gp m hy hs) hroom (λb hb=>(m.priv k _ b hob hb).2.2) m.lt o.type
       have hrun:(execOp a.eval o).run P w=.ok (.value p') w':=by
        unfold execOp;rw[ho];simp only[resolve,hc,ha',ht',invoke,builtin,List.map_toArray,List.map_cons,List.map_nil,Sem.run_bind,Sem.run_pure,Result.andThen_ok,hx,r1]
       exact yN hrun (hn _ _ _ _ _ _ h (m.grow (by simpa using he.2) hob p' r2 r3 r4) (if_pos rfl).symm)
      ·exact h.elim
    ·exact h.elim
   ·rename_i k ex
    rw[ex]at hx
    have hx:a.eval x=pl k:=(show a.eval x=pl k∧a.eval x≠ .slice none 0 0 from hx).1
    split at h
    ·rename_i e' t xs hob
     cases he:Nat.beq e e'&&Nat.beq t'.size t.size&&Nat.beq t'.bytes t.bytes&& !stabK k with
     |false=>rw[he]at h;exact h.elim
     |true=>
      rw[he,cond_true]at h
      simp only[Bool.and_eq_true]at he
      have hee:=yY.1 he.1.1.1;subst hee;split at h
      ·rename_i ys hs
       cases hys:Nat.blt 0 ys.length with
       |false=>rw[hys]at h;exact h.elim
       |true=>
        rw[hys,cond_true]at h
        have hys:0<ys.length:=by simpa using hys
        obtain⟨hroom,h⟩:=h;obtain⟨p',w',r1,r2,r3,r4⟩:=Ni (P:=P) (pl':=λj=>pl j) F hl (yY.1 he.1.1.2) (yY.1 he.1.2) (m.hp k _ hob) (Gp m hy hs) hroom (λb hb=>(m.priv k _ b hob hb).2.2) m.lt o.type
        have hrun:(execOp a.eval o).run P w=.ok (.value p') w':=by
         unfold execOp;rw[ho];simp only[resolve,hc,ha',ht',invoke,builtin,List.map_toArray,List.map_cons,List.map_nil,Sem.run_bind,Sem.run_pure,Result.andThen_ok,hx,r1]
        have hnn:p'≠ .slice none 0 0:=λe=>by
         obtain⟨_,_,_,q2,_⟩:=r4;rcases q2.2 with⟨_,e0⟩|⟨g,cap,cur,ep,_⟩
         ·rw[List.length_append]at e0;omega
         ·rw[e]at ep;cases ep
        exact yN hrun (hn _ _ _ _ _ _ h (m.grow (by simpa using he.2) hob p' r2 r3 r4) ⟨(if_pos rfl).symm,hnn⟩)
      ·exact h.elim
    ·exact h.elim
   ·rename_i ex
    rw[ex]at hx
    have hxv:=(hx.flat (d:=.nil) rfl).nil_inv;split at h
    ·rename_i k hk
     split at h
     ·rename_i ys hs
      obtain⟨hroom,h⟩:=h;have m1:=m.mk' (w':=w) k (eL hk) (.row e t' []) (.slice none 0 0) (Below.refl _ _) (λb hb=>by cases hb) λpl' _=>⟨by simp[lim],[],rfl,by simpa using World.ownsRow_nil w 0 e t'.size,by simp,by simp⟩
      have hob:zZ k (σ.mk' k (.row e t' [])).hp=some (.row e t' []):=by simp only[St.mk',xX,if_pos]
      obtain⟨p',w',r1,r2,r3,r4⟩:=Ni (P:=P) (pl':=λj=>(λj=>if j=k then Value.slice none 0 0 else pl j) j) F hl rfl rfl (m1.hp k _ hob) (Gp m1 (sF m1 y) hs) (by simpa using hroom) (λb hb=>(m1.priv k _ b hob hb).2.2) m1.lt o.type
      rw[if_pos rfl]at r1
      have hrun:(execOp a.eval o).run P w=.ok (.value p') w':=by
       unfold execOp;rw[ho];simp only[resolve,hc,ha',ht',invoke,builtin,List.map_toArray,List.map_cons,List.map_nil,Sem.run_bind,Sem.run_pure,Result.andThen_ok,hxv,r1]
      exact yN hrun (hn _ _ _ _ _ _ h (m1.grow (eL hk) hob p' r2 r3 r4) (if_pos rfl).symm)
     ·exact h.elim
    ·exact h.elim
   ·exact h.elim
 ·exact h.elim
theorem Gr(m:rL P b0 N σ a w S pl):∀(xs:List Operand),xP (Rd w S pl) (xs.map a.eval) (xs.map σ.ev)
 |[]=> .nil
 |x::xs=> .cons (sF m x) (Gr m xs)
theorem zag(m:rL P b0 N σ a w S pl){f:FuncId}{first caps:Array Operand}(ho:o.op=.makeFunc (.func f) first caps)(hf:first.toList=[])(h:rC A.q σ (caps.toList.map σ.ev) λcs σ=>K (.clo f none cs) σ)(hn:sX P b0 N o a K next):o.wp P a w next Q:=by
 obtain⟨σ',ds',S',hK,hS,m',hv⟩:=pH h m;have hr:=hv _ (Gr m caps.toList);have hf':first= #[]:=by apply Array.ext';simpa using hf
 have hrun:(execOp a.eval o).run P w=.ok (.value (.func (.func f) #[] (caps.map a.eval))) w:=by
  unfold execOp;rw[ho];simp only[Instr.makeFunc,hf',Sem.run_bind,Sem.run_pure,Result.andThen_ok,Array.map_empty]
 have hr':xP (Rp w S') (caps.map a.eval).toList ds':=by simpa using hr
 exact yN hrun (hn _ _ _ _ _ _ hK m' (Rp.rd (.clo f none ds' _ (by simpa using hr'.len) λi d hd=>XQ hr' i d hd)))
theorem Gs(m:rL P b0 N σ a w S pl){f:FuncId}{first caps:Array Operand}{k off:Nat}{bd:Bool}(ho:o.op=.makeFunc (.func f) first caps)
  (hf:(first.toList.map σ.ev=[.ptr k off]∧caps.toList.map σ.ev=[]∧bd=true)∨(first.toList.map σ.ev=[]∧caps.toList.map σ.ev=[.ptr k off]∧bd=false)) (h:K (.clp f bd k off) σ) (hn:sX P b0 N o a K next):o.wp P a w next Q:=by
 have hrun:(execOp a.eval o).run P w=.ok (.value (.func (.func f) (first.map a.eval) (caps.map a.eval))) w:=by
  unfold execOp;rw[ho];simp only[Instr.makeFunc,Sem.run_bind,Sem.run_pure,Result.andThen_ok]
 have r1:=Gr m first.toList
 have r2:=Gr m caps.toList;refine yN hrun (hn _ _ _ _ _ _ h m ?_)
 have one:∀ {xs:Array Operand},xs.toList.map σ.ev=[.ptr k off]→∃b,pl k=.pointer (some ⟨b,0,none⟩)∧xs.map a.eval= #[.pointer (some ⟨b,off,none⟩)]:=fun {xs} hx=>by
  have hr:=Gr m xs.toList;rw[hx]at hr
  generalize e:xs.toList.map a.eval=vs at hr
  obtain _|⟨⟨b,h1,h2⟩,_|_⟩:=hr
  exact⟨b,h1,by rw[←h2];apply Array.ext';simpa using e⟩
 have non:∀ {xs:Array Operand},xs.toList.map σ.ev=[]→xs.map a.eval= #[]:=fun {xs} hx=>by
  have:xs.toList=[]:=List.map_eq_nil_iff.1 hx;apply Array.ext';simp[this]
 rcases hf with⟨h1,h2,rfl⟩|⟨h1,h2,rfl⟩
 ·obtain⟨b,p1,p2⟩:=one h1
  exact⟨b,p1,by rw[p2,non h2];rfl⟩
 ·obtain⟨b,p1,p2⟩:=one h2
  exact⟨b,p1,by rw[p2,non h1];rfl⟩
theorem zkc{t:Ty}(h:zB v (.sl t [])=true):zB v .nil=true:=by
 unfold zB at h
 split at h<;>first|rfl|(simp only[reduceCtorEq]at*)|simp_all
theorem zeg:∀ {vs:List Value} {cs:List D} {off:Nat} {t:Ty},Iv vs cs=true→cs[off]? =some (.sl t [])→Iv vs (cs.set off .nil)=true
 |[],[],off,t,_,h=>by simp at h
 |v::vs,d::cs,0,t,hz,h=>by
  simp only[Iv,Bool.and_eq_true]at hz
  have h:d=.sl t []:=by simpa using h
  subst h;simp only[List.set_cons_zero,Iv,Bool.and_eq_true];exact⟨zkc hz.1,hz.2⟩
 |v::vs,d::cs,off+1,t,hz,h=>by
  simp only[Iv,Bool.and_eq_true]at hz
  simp only[List.set_cons_succ,Iv,Bool.and_eq_true];exact⟨hz.1,zeg hz.2 (by simpa using h)⟩
 |[],_::_,_,_,hz,_=>by simp[Iv]at hz
 |_::_,[],_,_,hz,_=>by simp[Iv]at hz
theorem JP:∀(l:List (Nat×(Nat×(TypeId×Ty)))) (cs:List D),(YM l cs).length=cs.length
 |[],_=>rfl
 |(_,off,_,_)::r,cs=>by
  unfold YM;rw[JP r];split
  ·rw[List.length_set]
  ·rfl
theorem D2:∀(l:List (Nat×(Nat×(TypeId×Ty)))) {cs:List D},XI (YM l cs)=true→XI cs=true
 |[],cs,h=>h
 |(j,off,e,t)::r,cs,h=>by
  unfold YM at h
  have h:=D2 r h;split at h
  ·rcases O6 h with h|⟨_,h⟩
   ·exact h
   ·cases h
  ·exact h
theorem zgU:∀(l:List (Nat×(Nat×(TypeId×Ty)))) {vs:List Value} {cs:List D},Iv vs cs=true→Iv vs (YM l cs)=true
 |[],vs,cs,h=>h
 |(_,off,_,_)::r,vs,cs,h=>by
  unfold YM;refine zgU r ?_;split
  ·rename_i t ho;exact zeg h ho
  ·exact h
theorem zfh(F:tT P E)(m:rL P b0 N σ a w S pl){T:TypeId}(ho:o.op=.alloc T)(h:Gg E A o T σ K)(hn:sX P b0 N o a K next):o.wp P a w next Q:=by
 unfold Gg at h
 split at h
 ·exact zgF F m ho h hn
 unfold zcj at h
 split at h
 ·rename_i ag cs hl
  obtain⟨i,z,u,hi,hz,hsz,hu,hag,hzb⟩:=(F.zs T ag cs hl).ex
  have hrun:(execOp a.eval o).run P w=.ok (.value (.pointer (some ⟨w.heap.size,0,none⟩))) (w.alloc (.cells z.cells T)):=by
   unfold execOp;rw[ho];simp[Instr.alloc,zeroValue,typeInfo,hi,hz,newVar,newRow,newObj];rfl
  split at h
  ·rename_i k hk
   cases hb:Nat.blt k 1000000 with
   |false=>rw[hb]at h;exact h.elim
   |true=>
    rw[hb,cond_true]at h
    have hb:=Nat.le_of_ble_eq_true hb;have hzb:=zgU (Bt k A.nz) hzb;have hrd:xP (Rp w S) z.cells.toList (YM (Bt k A.nz) cs):=Na hzb;have m1:=Bv m k (eL hk) T hrd.rd (λe=>by rw[JP];exact(F.zs T ag cs hl).ty (D2 _ e)) λd hd e=>by rw[Bw hzb d hd]at e;cases e
    obtain⟨pl2,m2,hr⟩:=WJ [.ptr k 0] (Bt k A.nz) _ _ m1;exact yN hrun (hn _ _ _ _ _ _ h m2 (hr _ _ (λj hj=>by injection hj with hj;omega) (zcn k _)))
  ·have hrd:xP (Rp w S) z.cells.toList cs:=Na hzb
   exact yN hrun (hn _ _ _ _ _ _ h (Pm m T hrd).1 (Pm m T hrd).2.rd)
 ·exact h.elim
theorem zeh:∀ {ds:List D} {l:List Value} {vs:List Value},Bj ds=some l→xP (Rp w S) vs ds→vs=l
 |[],l,vs,h,hr=>by injection h with h;subst h;cases hr;rfl
 |d::r,l,vs,h,hr=>by
  unfold Bj at h
  split at h
  ·rename_i e;cases e
  ·rename_i k n r' e
   injection e with e1 e2;subst e1 e2
   split at h
   ·rename_i l' hl
    injection h with h;subst h
    obtain _|⟨h1,h2⟩:=hr
    rw[h1.int_inv.1,zeh hl h2]
   ·cases h
  ·cases h
theorem ziY{u:Value}(h:DU d=some u)(hr:Rp w S v d):v=u:=by
 unfold DU at h
 split at h
 ·split at h
  ·rename_i ds l hl
   injection h with h;subst h
   obtain⟨vs,rfl,hs,hq⟩:=hr.agg_inv;have:=zeh (vs:=vs.toList) hl (Pn hs hq);rw[←this]
  ·cases h
 ·cases h
theorem zgV{u:Value}(h:DU d=some u):d.ref=none:=by
 unfold DU at h
 split at h
 ·rfl
 ·cases h
theorem BI(F:tT P E)(m:rL P b0 N σ a w S pl){T:TypeId}{x:Operand}{zs:List D}{u:Value}(ho:o.op=.makeInterface T x)(hz:zZ T E.zs=some (true,zs))(hs:DU (σ.ev x)=some u)(h:K (.ifc (.iface T u)) σ)(hn:sX P b0 N o a K next):o.wp P a w next Q:=by
 obtain⟨i,z,ud,hi,hz',hsz,hu,hag,hzb⟩:=(F.zs T true zs hz).ex;have hx:=ziY hs ((sF m x).flat (zgV hs))
 have hrun:(execOp a.eval o).run P w=.ok (.value (.iface T u)) w:=by
  unfold execOp;rw[ho];have hun:(underlying T).run P w=.ok ud w:=by simp[underlying,hu]
  simp only[Instr.makeInterface,Sem.run_bind,Sem.run_pure,Result.andThen_ok,hun,hx];cases ud<;>first|rfl|(simp[zgD]at hag)
 exact yN hrun (hn _ _ _ _ _ _ h m (Rp.rd (.ifc _)))
theorem Po(m:rL P b0 N σ a w S pl):∀(xs:List Operand) (ts:List TypeId),xP (Rd w S pl) (xs.map a.eval) (gZ E σ xs ts)
 |[],_=> .nil
 |x::xs,[]=> .cons (sF m x) (Po m xs [])
 |x::xs,T::ts=> .cons (L9 T (sF m x)) (Po m xs ts)
theorem D3(m:rL P b0 N σ a w S pl):∀xs:List Operand,xP (Rd w S pl) (xs.map a.eval) (xs.map σ.ev)
 |[]=> .nil
 |x::xs=> .cons (sF m x) (D3 m xs)
theorem BJ(m:rL P b0 N σ a w S pl)(raw:Bool)(xs:List Operand)(ts:List TypeId):xP (Rd w S pl) (xs.map a.eval) (zci raw E σ xs ts):=by
 cases raw
 ·exact Po m xs ts
 ·exact D3 m xs
def zkd(σ:St)(pl:Nat→Value)(b:Nat):Prop:=∃k o,zZ k σ.hp=some o∧pY (pl k)=some b
theorem ziZ(m:rL P b0 N σ a w S pl)(h:Rd w S pl v d):Rd w (λb=>S b∨zkd σ pl b) pl v (RK σ d):=by
 unfold RK;split
 ·rename_i k
  split
  ·rename_i e t xs hob
   have h:v=pl k:=h;rw[h]
   exact Rp.rd (.sl t xs _ (Yd.mono (X0 (m.hp k _ hob)) (λ_ _=>rfl) λb hb=>by
    rcases hb with hb|hb
    ·exact .inl hb
    ·exact .inr ⟨k,_,hob,hb⟩))
  ·exact h
 ·exact h.mono (λ_ _=>rfl) (λ_ h=> .inl h) λ_ _=>rfl
theorem Wv{t:Ty}{x:t.den}(ht:t.scalar=true)(h:Rp w S v (XH t x)):Rp w S' v (XH t x):=by
 cases t<;>simp only[Ty.scalar,Bool.false_eq_true]at ht
 ·obtain⟨rfl,g⟩:=h.int_inv;exact .int _ _ g
 ·rw[h.bool_inv];exact .bool _
 ·obtain⟨rfl,g⟩:=h.str_inv;exact .str _ g
theorem D4{f:FuncId}{args:List D}{r:D}(hs:XJ P f args r)(hg:DT P w λ_=>False)(hS:∀b,S b→b<w.heap.size){vs:Array Value}(hv:xP (Rp w S) vs.toList args)
  (hk:∀v w',Rp w' (λb=>S b∨(w.heap.size≤b∧b<w'.heap.size)) v r→Below w.heap.size w w'→next (a.put o.dst v) w'):
  Calls P f vs w fun
   | .returned v,w''=>next (a.put o.dst v) w''
   | .panicked chain,w''=>Q (.panic chain) a w''
   | .outgrown,_=>LetsOut Q:=
 (hs w S vs hS (by simpa using hv.len) (λi d hd=>XQ hv i d hd) hg).mono λe w' ⟨v,he,hr,hb⟩=>by subst he;exact hk v w' hr hb
theorem zei{f:FuncId}{args:List D}{rs:List Ty}{K:D→Prop}(h:zch P f args rs K):∃r,XJ P f args r∧K r∧(rs.all Ty.scalar=true→∀w S S' v,Rp w S v r→Rp w S' v r):=by
 unfold zch at h
 split at h
 ·exact⟨_,h.1,h.2,λ_ w S S' v hr=>by
   obtain⟨vs,rfl,hl,_⟩:=hr.tup_inv;exact .tup vs [] hl λi d hd=>by simp at hd⟩
 ·rename_i t
  obtain⟨x,h1,h2⟩:=h;exact⟨_,h1,h2,λhs w S S' v hr=>Wv (by simpa using hs) hr⟩
 ·rename_i t u
  obtain⟨x,y,h1,h2⟩:=h;refine⟨_,h1,h2,λhs w S S' v hr=> ?_⟩
  simp only[List.all_cons,List.all_nil,Bool.and_true,Bool.and_eq_true]at hs
  obtain⟨vs,rfl,hl,hr⟩:=hr.tup_inv;refine .tup vs _ hl λi d hd=> ?_
  have:=hr i d hd
  match i,hd with
  |0,hd=>simp at hd;subst hd;exact Wv hs.1 this
  |1,hd=>simp at hd;subst hd;exact Wv hs.2 this
  |i+2,hd=>simp at hd
 ·rename_i t u s
  obtain⟨x,y,z,h1,h2⟩:=h;refine⟨_,h1,h2,λhs w S S' v hr=> ?_⟩
  simp only[List.all_cons,List.all_nil,Bool.and_true,Bool.and_eq_true]at hs
  obtain⟨vs,rfl,hl,hr⟩:=hr.tup_inv;refine .tup vs _ hl λi d hd=> ?_
  have:=hr i d hd
  match i,hd with
  |0,hd=>simp at hd;subst hd;exact Wv hs.1 this
  |1,hd=>simp at hd;subst hd;exact Wv hs.2.1 this
  |2,hd=>simp at hd;subst hd;exact Wv hs.2.2 this
  |i+3,hd=>simp at hd
 ·exact h.elim
theorem rL.called(m:rL P b0 N σ a w S pl)(hb:Below w.heap.size w w'):rL P b0 N σ a w' (λb=>S b∨(w.heap.size≤b∧b<w'.heap.size)) pl:=
 (m.later hb).more (λ_ h=> .inl h)
  (λb h=>by
   rcases h with h|h
   ·exact Nat.lt_of_lt_of_le (m.lt b h) hb.size
   ·exact h.2)
  (λb h=>by
   rcases h with h|h
   ·exact m.src b h
   ·exact .inr (.inr (Nat.le_trans m.below.size h.1)))
  (λk o b h h' hs=>by
   have:=m.priv k o b h h';rcases hs with hs|hs
   ·exact this.2.2 hs
   ·omega)
theorem Gt{f:FuncId}{rs0:Option (List Ty)}{X:Prop}:zj4 P f rs0 X↔(rs0.isSome=true→Ent P f)∧X:=by
 cases rs0<;>simp[zj4]
theorem zi0(F:tT P E)(m:rL P b0 N σ a w S pl){c:Call}{f:Operand}(ho:o.op=.call c)(hc:c.callee=.value f)(h:zab P E A o (σ.ev f) c.args.toList c.argTypes.toList σ K)(hn:sX P b0 N o a K next):o.wp P a w next Q:=by
 have hf:=sF m f;unfold zab at h
 split at h
 ·rename_i g rs0 caps e
  rw[e]at hf
  obtain⟨cvs,hfv,hcl,hcr⟩:=(hf.flat (d:=.clo g rs0 caps) rfl).clo_inv;have hcaps:xP (Rp w S) cvs.toList caps:=Pn hcl hcr
  have hrun':Ent P g→(execOp a.eval o).run P w=.ok (.enter g (c.args.map a.eval++cvs)) w:=λhent=>by
   unfold execOp;rw[ho];simp only[resolve,hc,hfv,Deferred.ofValue,invoke,Sem.run_bind,Sem.run_pure,Result.andThen_ok,Array.empty_append];exact hent _ _
  split at h
  ·rename_i hs hl
   have hz:=BJ (E:=E) m hs.raw c.args.toList c.argTypes.toList;unfold Oper.wp;rw[hrun' (F.hsig g hs (by cases rs0 with|none=>exact hl|some _=>cases hl))]
   exact Nh m h (by simpa using hz) hcaps hn
  split at h
  ·rename_i rs hl
   obtain⟨hent0,h⟩:=Gt.1 h
   have hent:Ent P g:=by
    cases rs0 with
    |some r=>exact hent0 rfl
    |none=>exact F.sig g rs hl
   have hrun:(execOp a.eval o).run P w=.ok (.enter g (c.args.map a.eval++cvs)) w:=by
    unfold execOp;rw[ho];simp only[resolve,hc,hfv,Deferred.ofValue,invoke,Sem.run_bind,Sem.run_pure,Result.andThen_ok,Array.empty_append];exact hent _ _
   have hz:=Po (E:=E) m c.args.toList c.argTypes.toList
   have fin:∀ {P':Prop},(Calls P g (c.args.map a.eval++cvs) w fun
     | .returned v,w''=>next (a.put o.dst v) w''
     | .panicked chain,w''=>Q (.panic chain) a w''
     | .outgrown,_=>LetsOut Q)→o.wp P a w next Q:=λh=>by
    unfold Oper.wp;rw[hrun];exact h
   simp only at h
   cases hsc:rs.all Ty.scalar with
   |true=>
    rw[hsc,cond_true]at h
    cases hfl:((gZ E σ c.args.toList c.argTypes.toList).map (RK σ)).all cJ with
    |false=>rw[hfl]at h;exact h.elim
    |true=>
     rw[hfl,cond_true]at h
     obtain⟨r,hs,hK,hsr⟩:=zei h
     have hlt:∀b,(S b∨zkd σ pl b)→b<w.heap.size:=λb hb=>by
      rcases hb with hb|⟨k,o',hk,hb⟩
      ·exact m.lt b hb
      ·exact(m.priv k o' b hk hb).2.1
     have hv:xP (Rd w (λb=>S b∨zkd σ pl b) pl) (c.args.toList.map a.eval) ((gZ E σ c.args.toList c.argTypes.toList).map (RK σ)):=xP.map_right (hz.imp λ_ _ h=>ziZ m h)
     have hv':=hv.flat λd hd=>mV.1 (List.all_eq_true.1 hfl d hd)
     refine fin (P':=True) (D4 hs (m.gnow λ_ h=>h.elim) hlt (by simpa using hv'.append (hcaps.rmono (λ_ _=>rfl) λ_ h=> .inl h)) λv w' hr hb=> ?_)
     exact hn _ _ _ _ _ _ hK (m.later hb) (hsr hsc w' _ _ v hr).rd
   |false=>
    rw[hsc,cond_false]at h
    obtain⟨σ',ds',S',hK,hS,m',hv⟩:=pH h m;obtain⟨r,hs,hK,_⟩:=zei hK;have hv':=hv _ hz;refine fin (P':=True) (D4 hs (m'.gnow λ_ h=>h.elim) m'.lt (by simpa using hv'.append (hcaps.rmono (λ_ _=>rfl) hS)) λv w' hr hb=> ?_)
    exact hn _ _ _ _ _ _ hK (m'.called hb) hr.rd
  ·exact h.elim
 ·exact h.elim
theorem zgW(F:tT P E)(m:rL P b0 N σ a w S pl)(h:Bu P E A o σ K)(hn:sX P b0 N o a K next):o.wp P a w next Q:=by
 have h0:=h;unfold Bu at h
 split at h
 ·rename_i x ho;exact zgE F m (.inl ho) h hn
 ·rename_i x ho;exact zgE F m (.inr ho) h hn
 ·rename_i c x y ho
  split at h
  ·rename_i t hc;exact ziN m ho hc h hn
  ·exact h.elim
 ·rename_i T ho;exact zfh F m ho h hn
 ·rename_i T x ho;exact zj6 F m ho h hn
 ·rename_i T parts ho;exact zgL F m ho h hn
 ·rename_i T len parts ho;exact EV F m ho h hn
 ·rename_i T x ho;exact ziO F m ho h hn
 ·rename_i T x y ho;exact zgI F m ho h hn
 ·rename_i x ho;exact zac m ho h0 hn
 ·rename_i op T x y T' ho;exact ziU F m ho h hn
 ·rename_i T ho;exact zcq F m ho h hn
 ·rename_i T x y z ho;exact BE F m ho h hn
 ·rename_i T x y ok ho;exact zfd F m ho h hn
 ·rename_i op T x ho;exact zkG m ho h hn
 ·rename_i src dst x ho;exact ziR F m ho h hn
 ·rename_i f first caps ho
  split at h
  ·split at h
   ·rename_i hf;exact zag m ho hf h hn
   ·exact h.elim
  ·split at h
   ·rename_i k off hf hc;exact Gs m ho (.inl ⟨hf,hc,rfl⟩) h hn
   ·rename_i k off hf hc;exact Gs m ho (.inr ⟨hf,hc,rfl⟩) h hn
   ·exact h.elim
 ·rename_i T x ho
  split at h
  ·rename_i zs u hz hs;exact BI F m ho hz hs h hn
  ·exact h.elim
 ·rename_i T x lo hi ho;exact zgT F m ho h hn
 ·rename_i T x f ho;exact zgG F m ho h hn
 ·rename_i T x ix ho;exact Bz F m ho h hn
 ·rename_i T x ix ho;exact zgH F m ho h hn
 ·rename_i x i ho;exact zco m ho h hn
 ·rename_i T l c ho;exact BB F m ho h hn
 ·rename_i c ho
  split at h
  ·rename_i hc
   split at h
   ·rename_i x T ha ht;exact zka F m ho hc ha ht h hn
   ·exact h.elim
  ·rename_i hc
   split at h
   ·rename_i x y T T' ha ht;exact zfg F m ho hc ha ht h hn
   ·exact h.elim
  ·rename_i hc
   split at h
   ·rename_i x y ha;exact ziQ m ho hc ha h hn
   ·exact h.elim
  ·rename_i f hc;exact zi0 F m ho hc h hn
  ·exact h.elim
 ·exact h.elim
theorem zgX(F:tT P E)(m:rL P b0 N σ a w S pl){T:Value→Prop}(h:opX P E A o σ K T)(hn:sX P b0 N o a K next)
  (hT:∀u w',T u→qB b0.w.heap.size b0.O b0.w w'→Q (.panic [{v:=u,recovered:=false}]) a w'):o.wp P a w next Q:=by
 unfold opX at h
 split at h
 ·rename_i X hX
  unfold zjO at hX
  have enter:∀ {g:FuncId} {hs:Bi} {ds caps:List D} {vs cvs:Array Value},ziL P E A g hs (zfa o.dst) ds caps σ K T→xP (Rd w S pl) vs.toList ds→xP (Rp w S) cvs.toList caps→(execOp a.eval o).run P w=.ok (.enter g (vs++cvs)) w→o.wp P a w next Q:=fun {g hs ds caps vs cvs} hd hv hcv hrun=>by
   unfold Oper.wp;rw[hrun];unfold ziL at hd
   split at hd
   ·rcases hd with hd|hd
    ·exact Nh m hd hv hcv hn
    ·exact zcr m hd hv hcv hT
   ·exact Nh m hd hv hcv hn
  split at hX
  ·rename_i x ho
   injection hX with hX;subst hX
   split at h
   ·rename_i t u hx
    have hv:=((sF m x).flat (by rw[hx];rfl))
    rw[hx]at hv
    have hrun:(execOp a.eval o).run P w=.halt (.panic (.iface t u)) w:=by
     unfold execOp;rw[ho];simp only[hv.ifc_inv];rfl
    unfold Oper.wp;rw[hrun];exact hT _ w h m.below
   ·exact h.elim
  ·rename_i c ho
   split at hX
   ·rename_i f hc
    have hf:=sF m f;split at hX
    ·rename_i g caps e
     rw[e]at hf
     obtain⟨cvs,hfv,hcl,hcr⟩:=(hf.flat (d:=.clo g none caps) rfl).clo_inv;have hcaps:xP (Rp w S) cvs.toList caps:=Pn hcl hcr;split at hX
     ·injection hX with hX;subst hX
      split at h
      ·rename_i hs hl
       have hz:=BJ (E:=E) m hs.raw c.args.toList c.argTypes.toList;refine enter h (vs:=c.args.map a.eval) (by simpa using hz) hcaps ?_
       unfold execOp;rw[ho];simp only[resolve,hc,hfv,Deferred.ofValue,invoke,Sem.run_bind,Sem.run_pure,Result.andThen_ok,Array.empty_append];exact F.hsig g hs hl _ _
      ·exact h.elim
     ·cases hX
    ·rename_i g bd k off e
     rw[e]at hf
     obtain⟨b,hp,hfv⟩:=hf;injection hX with hX;subst hX
     split at h
     ·rename_i hs hl
      have hz:=BJ (E:=E) m hs.raw c.args.toList c.argTypes.toList;have hpt:Rd w S pl (.pointer (some ⟨b,off,none⟩)) (.ptr k off):=⟨b,hp,rfl⟩;cases bd with
      |true=>
       refine enter h (vs:= #[.pointer (some ⟨b,off,none⟩)]++c.args.map a.eval) (cvs:= #[]) (by simpa using xP.cons hpt hz) .nil ?_
       unfold execOp;rw[ho];simp only[resolve,hc,hfv,Deferred.ofValue,invoke,Sem.run_bind,Sem.run_pure,Result.andThen_ok,cond_true,Array.append_empty];exact F.hsig g hs hl _ _
      |false=>
       refine enter h (vs:=c.args.map a.eval++ #[.pointer (some ⟨b,off,none⟩)]) (cvs:= #[]) (by simpa using xP.append hz (.cons hpt .nil)) .nil ?_
       unfold execOp;rw[ho];simp only[resolve,hc,hfv,Deferred.ofValue,invoke,Sem.run_bind,Sem.run_pure,Result.andThen_ok,cond_false,Array.empty_append,Array.append_empty];exact F.hsig g hs hl _ _
     ·exact h.elim
    ·cases hX
   ·cases hX
  ·cases hX
 ·exact zgW F m h hn
end
inductive Ex|normal|exit (id:Nat)|ret|thr (u:Value)
def D5(all:List Oper)(j:Nat):Option Nat:=match all[j]? with
 |some o=>o.dst
 |none=>none
def Zq(all:List Oper)(o:Oper)(σ:St)(yes no:St→Prop):Prop:=match o.guard with
 |none=>yes σ
 |some (j,want)=>match D5 all j with
  |some s=>match σ.get s with
   | .bool b=>zP b (match want with|true=>yes (σ.put s (.bool true))|false=>no (σ.put s (.bool true))) (match want with|true=>no (σ.put s (.bool false))|false=>yes (σ.put s (.bool false)))
   | .tup []=>no σ
   |_=>False
  |none=>False
def ol(all:List Oper)(o:Oper)(σ:St):Option Bool:=match o.guard with
 |none=>some true
 |some (j,want)=>match D5 all j with
  |some s=>match σ.get s with
   | .bool b=>some (b==want)
   | .tup []=>some false
   |_=>none
  |none=>none
def zi1(P:Program)(E:TE)(A:wA)(all:List Oper):List Oper→St→(Ex→St→Prop)→Prop
 |[],σ,K=>K .normal σ
 |o::r,σ,K=>Zq all o σ (λσ=>opX P E A o σ (λd σ=>zi1 P E A all r (σ.putO o.dst d) K) λu=>K (.thr u) σ) λσ=>zi1 P E A all r (σ.putO o.dst (.tup [])) K
def TE.q(E:TE):TE:= {E with hsig:=[],vals:=[],nilq:=false}
def zcs:Operand→Bool
 | .const (.slice none 0 0)=>true
 |_=>false
def om(E:TE)(A:wA)(o:Oper):Bool:=match o.op with
 | .store _ _ _=>false
 | .mapUpdate _ _ _ _=>false
 | .move x=> !zcs x||(gY A o.dst).isNone
 | .assign x=> !zcs x||(gY A o.dst).isNone
 | .binOp _ _ _ y _=> !zcs y
 | .alloc _=>(gY A o.dst).isNone
 | .box _ _=>(gY A o.dst).isNone
 | .buildSlice _ _ _=>(gY A o.dst).isNone
 | .makeSlice _ _ _=>(gY A o.dst).isNone
 | .makeMap _ _=>(gY A o.dst).isNone
 | .build T _=> !qO T E.vals
 | .call c=>match c.callee with
  | .builtin .append=>false
  | .value (.func f)=>match zZ f E.hsig with
   |some _=>false
   |none=>true
  |_=>true
 |_=>true
def wA.quiet(A:wA):wA:= {A with own:=[],q:=1,nz:=[]}
def zfi(P:Program)(E:TE)(A:wA)(all:List Oper)(o:Oper)(σ:St)(K:St→Prop):Prop:=
 Zq all o σ (λσ=>Bu P E.q A.quiet o σ λd _=>K (σ.putO o.dst d)) λσ=>K (σ.putO o.dst (.tup []))
def zli(P:Program)(E:TE)(A:wA)(all:List Oper)(o:Oper)(σ:St)(K:St→Prop):Prop:=
 Zq all o σ (λσ=>Bu P E.q A.quiet o σ λd _=>bif cJ d then K (σ.putO o.dst d)else False) λσ=>K (σ.putO o.dst (.tup []))
def zi2(P:Program)(E:TE)(A:wA)(all:List Oper)(o:Oper)(σ:St)(K:St→Prop):Prop:=
 Zq all o σ (λσ=>Bu P E A o σ λd σ=>K (σ.putO o.dst d)) λσ=>K (σ.putO o.dst (.tup []))
def zah(P:Program)(E:TE)(A:wA)(all:List Oper)(o:Oper)(σ:St)(K:St→Prop):Prop:=match om E A o with
 |true=>zfi P E A all o σ K
 |false=>zi2 P E A all o σ K
def edgeOn(o:Oper)(i:Nat):Bool:=o.after.toList.any λe=>Region.binds .any e&&Nat.beq e.on i
def Ww(all:List Oper)(listed:Array Bool)(i:Nat)(oi:Oper)(f:Oper→Bool):Nat→List Oper→Bool
 |_,[]=>true
 |k,oj::r=>(Nat.beq k i||listed.getD k true||edgeOn oj i||(oi.apart all.toArray oj&&f oj))&&Ww all listed i oi f (k+1) r
def zkJ(all:List Oper)(o:Oper)(σ:St):Bool:=o.op.operands.toList.all λx=>cJ (σ.ev x)
def zgY(E:TE)(A:wA)(all:List Oper)(listed:Array Bool)(i:Nat):Bool:=match all[i]? with
 |some oi=>om E A oi&&Ww all listed i oi (om E A) 0 all
 |none=>false
def zgZ(E:TE)(A:wA)(all:List Oper)(listed:Array Bool)(σ:St)(i:Nat):Bool:=match all[i]? with
 |some oi=>om E A oi&&zkJ all oi σ&&Ww all listed i oi (λ_=>true) 0 all
 |none=>false
def D6(f:Nat→Bool):List Nat→Option Nat
 |[]=>none
 |i::r=>bif f i then some i else D6 f r
def zi3(f:Nat→Prop):List Nat→Prop
 |[]=>True
 |[i]=>f i
 |i::j::r=>f i∧zi3 f (j::r)
def atD(all:List Oper)(i:Nat)(f:Oper→Prop):Prop:=match all[i]? with
 |some o=>f o
 |none=>False
def Gu(P:Program)(E:TE)(A:wA)(all:List Oper)(K:St→Prop):Nat→Array Bool→St→Prop
 |0,listed,σ=>match Region.ready .any all.toArray listed with
  |[]=>K σ
  |_=>False
 |fuel+1,listed,σ=>match Region.ready .any all.toArray listed with
  |[]=>K σ
  |r=>match D6 (zgY E A all listed) r with
   |some i=>atD all i λo=>zfi P E A all o σ (Gu P E A all K fuel (listed.setIfInBounds i true))
   |none=>match D6 (zgZ E A all listed σ) r with
    |some i=>atD all i λo=>zli P E A all o σ (Gu P E A all K fuel (listed.setIfInBounds i true))
    |none=>zi3 (λi=>atD all i λo=>zah P E A all o σ (Gu P E A all K fuel (listed.setIfInBounds i true))) r
def zkK:Op→Bool
 | .select _ _=>true
 |_=>false
def zg0(all:List Oper)(listed:Array Bool)(σ:St)(i:Nat):Bool:=match all[i]? with
 |some oi=>(match oi.op with
  | .fieldAddr _ (.tmp t) _=>(match σ.get t with
   | .ptr _ _=>true
   |_=>false)
  | .move (.tmp t)=>(match σ.get t with
   | .ptr _ _=>true
   |_=>false)
  | .nilCheck (.tmp t)=>(match σ.get t with
   | .ptr _ _=>true
   |_=>false)
  |_=>false)&&oi.guard.isNone&&Ww all listed i oi (λ_=>true) 0 all&&all.all (λo=> !zkK o.op)
 |none=>false
def zct(P:Program)(E:TE)(A:wA)(all:List Oper)(K:St→Prop)(T:Value→Prop):Nat→Array Bool→St→Prop
 |0,listed,σ=>Gu P E A all K 0 listed σ
 |fuel+1,listed,σ=>match A.first with
  |false=>Gu P E A all K (fuel+1) listed σ
  |true=>match D6 (zg0 all listed σ) (Region.ready .any all.toArray listed)with
   |some i=>atD all i λo=>Bu P E A o σ λd σ=>zct P E A all K T fuel (listed.setIfInBounds i true) (σ.putO o.dst d)
   |none=>match A.tdraw with
    |false=>Gu P E A all K (fuel+1) listed σ
    |true=>match Region.ready .any all.toArray listed with
     |[]=>K σ
     |r=>zi3 (λi=>atD all i λo=>Zq all o σ (λσ=>opX P E A o σ (λd σ=>zct P E A all K T fuel (listed.setIfInBounds i true) (σ.putO o.dst d)) T) λσ=>zct P E A all K T fuel (listed.setIfInBounds i true) (σ.putO o.dst (.tup []))) r
def RQ(n:Nat):List Oper→Bool
 |[]=>true
 |o::r=>(match o.dst with
  |some d=>Nat.ble (d+1) n
  |none=>true)&&RQ n r
def BK(A:wA)(c:Nat):List Nat×List Nat:=match zZ c A.live with
 |some l=>l
 |none=>([],[])
def Gv(σ:St):List Nat→List (Nat×yD)
 |[]=>[]
 |k::r=>match σ.ob k with
  |some o=>(k,o)::Gv σ r
  |none=>Gv σ r
def St.keep(σ:St)(L:List Nat×List Nat):St:=⟨L.1.map λi=>(i,σ.get i),Gv σ L.2⟩
def zg1(σ:St)(L:List Nat×List Nat):List D:=
 ((L.1.map λi=>σ.get i)++(L.2.flatMap λk=>match σ.ob k with
  |some (.cells ds)=>ds
  |some (.val ds)=>ds
  |_=>[])).filter λd=>match d.ref with
   |some k=> !qO k L.2
   |none=>false
def BM(σ:St)(k off:Nat):St:=bif Nat.beq off 999999 then(match σ.ob k with
 |some o=>bif o.flatB then σ.pub k o else σ
 |none=>σ)else Xh σ k off
def Gw:List (Nat×Nat)→St→St
 |[],σ=>σ
 |(k,off)::r,σ=>Gw r (BM σ k off)
def Gx:List (Nat×(Nat×(TypeId×Ty)))→St→St
 |[],σ=>σ
 |(k,off,e,t)::r,σ=>Gx r (RM σ k off e t)
def headD(A:wA)(L:List Nat×List Nat)(σ:St)(K:St→Prop):Prop:=
 let σ:=Gx A.nils (Gw A.pubs σ)
 rC 12 σ (zg1 σ L) λ_ σ=>K (σ.keep L)
def St.know(σ:St)(x:Operand)(b:Bool):St:=match x with
 | .tmp s=>σ.put s (.bool b)
 |_=>σ
def zg2(body:St→(Ex→St→Prop)→Prop)(A:wA)(L:List Nat×List Nat):Nat→St→(Ex→St→Prop)→Prop
 |0,_,_=>False
 |n+1,σ,K=>body σ λe σ=>match e with
  | .normal=>headD A L σ λσ=>zg2 body A L n σ K
  | .exit id=>K (.exit id) σ
  | .ret=>K .ret σ
  | .thr u=>K (.thr u) σ
def den(P:Program)(E:TE)(A:wA):Code→Nat→St→(Ex→St→Prop)→Prop
 | .skip,_,σ,K=>K .normal σ
 | .region _ ops draw,_,σ,K=>match RQ A.n ops.toList with
  |true=>(match draw with
   |false=>zi1 P E A ops.toList ops.toList σ K
   |true=>zct P E A ops.toList (K .normal) (λu=>K (.thr u) σ) ops.size (Array.replicate ops.size false) σ)
  |false=>False
 | .seq a b,c,σ,K=>den P E A a c σ λe σ=>match e with
  | .normal=>den P E A b c σ K
  | .exit id=>K (.exit id) σ
  | .ret=>K .ret σ
  | .thr u=>K (.thr u) σ
 | .cond x a b,c,σ,K=>match σ.ev x with
  | .bool t=>zP t (den P E A a c (σ.know x true) K) (den P E A b c (σ.know x false) K)
  |_=>False
 | .block id body,_,σ,K=>den P E A body id σ λe σ=>match e with
  | .normal=>K .normal σ
  | .exit j=>bif Nat.beq j id then K .normal σ else K (.exit j) σ
  | .ret=>K .ret σ
  | .thr u=>K (.thr u) σ
 | .loop body,c,σ,K=>headD A (BK A c) σ λσ=>∃n,zg2 (den P E A body c) A (BK A c) n σ K
 | .exit id,_,σ,K=>K (.exit id) σ
 | .ret,_,σ,K=>K .ret σ
 |_,_,_,_=>False
def zai:Exit→Option Ex
 | .normal=>some .normal
 | .exit id=>some (.exit id)
 | .ret=>some .ret
 |_=>none
section
variable {P:Program}{E:TE}{A:wA}{b0:Vy}{w w':World}{S S':Nat→Prop}{pl pl':Nat→Value}{N:Nat}{σ σ':St}{a:Act}{v:Value}{d:D}{o:Oper}
def Mt(P:Program)(b0:Vy)(N:Nat)(σ:St)(a:Act)(w:World):Prop:=∃S pl,rL P b0 N σ a w S pl
def zkL(b0:Vy)(K:Ex→St→Prop)(e:Exit)(a:Act)(w:World):Prop:=∃u σ,e=.panic [{v:=u,recovered:=false}]∧K (.thr u) σ∧a.defers=[]∧qB b0.w.heap.size b0.O b0.w w
def QN(P:Program)(b0:Vy)(N:Nat)(K:Ex→St→Prop)(e:Exit)(a:Act)(w:World):Prop:=∃x σ,zai e=some x∧K x σ∧Mt P b0 N σ a w
def QK(P:Program)(b0:Vy)(N:Nat)(K:Ex→St→Prop)(e:Exit)(a:Act)(w:World):Prop:=QN P b0 N K e a w∨zkL b0 K e a w
structure tW (σ σ':St):Prop where
 get:∀i,σ'.get i=σ.get i
 hp:∀k,zZ k σ'.hp=zZ k σ.hp
theorem tW.refl(σ:St):tW σ σ:=⟨λ_=>rfl,λ_=>rfl⟩
theorem tW.symm(h:tW σ σ'):tW σ' σ:=⟨λi=>(h.get i).symm,λk=>(h.hp k).symm⟩
theorem tW.trans{σ'':St}(h:tW σ σ')(h':tW σ' σ''):tW σ σ'':=⟨λi=>(h'.get i).trans (h.get i),λk=>(h'.hp k).trans (h.hp k)⟩
theorem tW.ob(h:tW σ σ')(k:Nat):σ'.ob k=σ.ob k:=h.hp k
theorem tW.put(h:tW σ σ')(i:Nat)(d:D):tW (σ.put i d) (σ'.put i d):=⟨λj=>by rw[St.get_put,St.get_put,h.get],h.hp⟩
theorem tW.putO(h:tW σ σ')(i:Option Nat)(d:D):tW (σ.putO i d) (σ'.putO i d):=by
 cases i with
 |none=>exact h
 |some i=>exact h.put i d
theorem tW.ev(h:tW σ σ')(x:Operand):σ'.ev x=σ.ev x:=by
 cases x<;>first|exact h.get _|rfl
theorem rL.like(m:rL P b0 N σ a w S pl)(h:tW σ σ'):rL P b0 N σ' a w S pl:=
 ⟨m.dz,m.sz,λi=>by rw[h.get];exact m.fr i,λk o hk=>m.hp k o (by rw[←h.hp];exact hk),m.lt,m.src,λk o b hk=>m.priv k o b (by rw[←h.hp];exact hk),
  λk k' o o' b h1 h2=>m.inj k k' o o' b (by rw[←h.hp];exact h1) (by rw[←h.hp];exact h2),m.below,m.stay,m.gok⟩
theorem Mt.like(m:Mt P b0 N σ a w)(h:tW σ σ'):Mt P b0 N σ' a w:=let⟨S,pl,m⟩:=m;⟨S,pl,m.like h⟩
theorem MA{s:Nat}{d:D}(h:σ.get s=d):tW σ (σ.put s d):=⟨λi=>by
 rw[St.get_put];split
 ·rename_i e;subst e;exact h.symm
 ·rfl,λ_=>rfl⟩
theorem VQ{ds:List D}{K:List D→St→Prop}:rC 1 σ ds K↔cK ds=none∧K ds σ:=by
 unfold rC pubs;cases cK ds with
 |none=>simp
 |some k=>
  simp only[pubs];cases σ.ob (VM σ 4 k)with
  |none=>simp
  |some o=>cases o.flatB<;>simp
def zi4(o:Oper)(σ σ':St):Prop:=(∀x∈o.op.operands,σ'.ev x=σ.ev x)∧∀x∈o.op.operands,∀k,(σ.ev x).ref=some k→σ'.ob k=σ.ob k
theorem BN{d:D}(h:∀k,d.ref=some k→σ'.ob k=σ.ob k):aQ σ' d=aQ σ d:=by cases d<;>first|rfl|simp only[aQ,h _ rfl]
theorem Pp{d:D}(h:∀k,d.ref=some k→σ'.ob k=σ.ob k):Yp σ' d=Yp σ d:=by cases d<;>first|rfl|simp only[Yp,h _ rfl]
theorem zg3{d:D}(h:∀k,d.ref=some k→σ'.ob k=σ.ob k):RK σ' d=RK σ d:=by cases d<;>first|rfl|simp only[RK,h _ rfl]
theorem zg4{d:D}(h:∀k,d.ref=some k→σ'.ob k=σ.ob k):DV σ' d=DV σ d:=by cases d<;>first|rfl|simp only[DV,h _ rfl]
theorem Gy{T:TypeId}{d:D}{k:Nat}(h:(O7 E T d).ref=some k):d.ref=some k:=by
 cases d<;>first|exact h|(unfold O7 at h;simp only at h;split at h<;>cases h)
theorem D7{n:Int}{x:Option Operand}(h:∀y,x=some y→σ'.ev y=σ.ev y):Yq σ' n x=Yq σ n x:=by
 cases x with
 |none=>rfl
 |some y=>simp only[Yq,h y rfl]
theorem RR{place:Nat→Option (Nat×Nat)}:∀(parts:List (Nat×Operand)) (ds:List D),(∀x∈parts,σ'.ev x.2=σ.ev x.2)→(∀x∈parts,∀k,(σ.ev x.2).ref=some k→σ'.ob k=σ.ob k)→OB σ' place ds parts=OB σ place ds parts
 |[],ds,_,_=>rfl
 |(f,x)::r,ds,hx,ho=>by
  unfold OB;have hr:∀ds,OB σ' place ds r=OB σ place ds r:=λds=>RR (place:=place) r ds (λy hy=>hx y (List.mem_cons_of_mem _ hy)) λy hy=>ho y (List.mem_cons_of_mem _ hy)
  have hv:Yp σ' (σ.ev x)=Yp σ (σ.ev x):=Pp (ho (f,x) List.mem_cons_self)
  have hm:∀z:Option D,Pl σ' (σ.ev x) z=Pl σ (σ.ev x) z:=λz=>by
   unfold Pl;split
   ·rfl
   ·rfl
   ·exact hv
  rw[show σ'.ev x=σ.ev x from hx (f,x) List.mem_cons_self]
  simp only[hr,hm]
theorem Pq:∀(xs:List Operand) (ts:List TypeId),(∀x∈xs,σ'.ev x=σ.ev x)→gZ E σ' xs ts=gZ E σ xs ts
 |[],_,_=>rfl
 |x::xs,[],h=>by unfold gZ;rw[h x List.mem_cons_self,Pq xs [] λy hy=>h y (List.mem_cons_of_mem _ hy)]
 |x::xs,T::ts,h=>by unfold gZ;rw[h x List.mem_cons_self,Pq xs ts λy hy=>h y (List.mem_cons_of_mem _ hy)]
theorem zi5{raw:Bool}(xs:List Operand)(ts:List TypeId)(h:∀x∈xs,σ'.ev x=σ.ev x):zci raw E σ' xs ts=zci raw E σ xs ts:=by
 cases raw
 ·exact Pq xs ts h
 ·exact List.map_congr_left h
theorem Nj:∀ {xs:List Operand} {ts:List TypeId} {d:D} {k:Nat},d∈gZ E σ xs ts→d.ref=some k→∃x∈xs,(σ.ev x).ref=some k
 |[],_,d,k,h,_=>by unfold gZ at h;cases h
 |x::xs,[],d,k,h,hr=>by
  unfold gZ at h
  rcases List.mem_cons.1 h with rfl|h
  ·exact⟨x,List.mem_cons_self,hr⟩
  ·obtain⟨y,hy,e⟩:=Nj h hr;exact⟨y,List.mem_cons_of_mem _ hy,e⟩
 |x::xs,T::ts,d,k,h,hr=>by
  unfold gZ at h
  rcases List.mem_cons.1 h with rfl|h
  ·exact⟨x,List.mem_cons_self,Gy hr⟩
  ·obtain⟨y,hy,e⟩:=Nj h hr;exact⟨y,List.mem_cons_of_mem _ hy,e⟩
theorem zg5{xs:List Operand}(h:∀x∈xs,σ'.ev x=σ.ev x):xs.map σ'.ev=xs.map σ.ev:=List.map_congr_left h
theorem VR(A:wA)(d:Option Nat):gY A.quiet d=none:=by cases d<;>rfl
theorem fL(hq:om E A o=true)(he:zi4 o σ σ'){K:D→Prop}(h:Bu P E.q A.quiet o σ λd _=>K d):∃d,K d∧∀K':D→St→Prop,K' d σ'→Bu P E.q A.quiet o σ' K':=by
 obtain⟨h1,h2⟩:=he;unfold Bu at h⊢
 cases ho:o.op<;>rw[ho]at h h1 h2<;>simp only[Op.operands]at h h1 h2⊢
 case move x=>
  rw[h1 x (by simp)]
  unfold A8 at h⊢
  split at h
  ·split at h
   ·rw[VR]at h⊢;exact⟨_,h,λK' hk=>hk⟩
   ·exact⟨_,h,λK' hk=>hk⟩
  ·exact⟨_,h,λK' hk=>hk⟩
 case assign x=>
  rw[h1 x (by simp)]
  unfold A8 at h⊢
  split at h
  ·split at h
   ·rw[VR]at h⊢;exact⟨_,h,λK' hk=>hk⟩
   ·exact⟨_,h,λK' hk=>hk⟩
  ·exact⟨_,h,λK' hk=>hk⟩
 case pick c x y=>
  rw[h1 c (by simp),h1 x (by simp),h1 y (by simp)]
  generalize σ.ev c=dc at h⊢
  split at h
  ·rename_i t
   cases t
   ·exact⟨_,h,λK' hk=>hk⟩
   ·exact⟨_,h,λK' hk=>hk⟩
  ·exact h.elim
 case alloc T=>
  unfold Gg at h⊢
  rw[show A.quiet.nz=[]from rfl]at h⊢
  simp only at h⊢
  unfold Gd at h⊢
  split at h
  ·rw[VR]at h⊢;exact⟨_,h,λK' hk=>hk⟩
  ·exact h.elim
 case box T x=>
  unfold zgx at h⊢
  rw[h1 x (by simp),Pp λk hk=>h2 x (by simp) k (Gy hk)]
  split at h
  ·rw[VR]at h⊢
   rw[show A.quiet.q=1 from rfl]at h⊢
   obtain⟨hf,h⟩:=VQ.1 h;exact⟨_,h,λK' hk=>VQ.2 ⟨hf,hk⟩⟩
  ·exact h.elim
 case build T parts=>
  unfold Gf at h⊢
  split at h
  ·rename_i zs offs _ _
   have hp:∀x∈parts.toList,x.2∈(parts.toList.map (·.2)).toArray:=λx hx=>by simp only[List.mem_toArray,List.mem_map];exact⟨x,hx,rfl⟩
   rw[RR parts.toList zs (λx hx=>h1 x.2 (hp x hx)) λx hx=>h2 x.2 (hp x hx)]
   split at h
   ·rw[show A.quiet.q=1 from rfl]at h⊢
    obtain⟨hf,h⟩:=VQ.1 h;exact⟨_,h,λK' hk=>VQ.2 ⟨hf,hk⟩⟩
   ·exact h.elim
  ·exact h.elim
 case buildSlice T len parts=>
  unfold Xg at h⊢
  split at h
  ·rename_i e t _
   have hp:∀x∈parts.toList,x.2∈(parts.toList.map (·.2)).toArray:=λx hx=>by simp only[List.mem_toArray,List.mem_map];exact⟨x,hx,rfl⟩
   rw[RR parts.toList _ (λx hx=>h1 x.2 (hp x hx)) λx hx=>h2 x.2 (hp x hx)]
   cases hb:wN t len&&Nat.ble (len*t.size) 16777216 with
   |false=>rw[hb]at h;exact h.elim
   |true=>
    rw[hb,cond_true]at h
    simp only[cond_true];split at h
    ·rw[show A.quiet.q=1 from rfl]at h⊢
     obtain⟨hf,h⟩:=VQ.1 h;split at h
     ·rename_i xs hel
      rw[VR]at h
      refine⟨_,h,λK' hk=>VQ.2 ⟨hf,?_⟩⟩
      rw[hel,VR];exact hk
     ·exact h.elim
    ·exact h.elim
  ·exact h.elim
 case load T x=>
  unfold zd6 at h⊢
  rw[h1 x (by simp),BN (h2 x (by simp))]
  split at h
  ·rename_i ag zs _
   split at h
   ·rename_i cs _
    cases hb:Nat.ble zs.length cs.length with
    |false=>rw[hb]at h;exact h.elim
    |true=>
     rw[hb,cond_true]at h
     simp only[cond_true];cases ag with
     |true=>
      rw[show A.quiet.q=1 from rfl]at h⊢
      obtain⟨hf,h⟩:=VQ.1 h;exact⟨_,h,λK' hk=>VQ.2 ⟨hf,hk⟩⟩
     |false=>
      cases cs with
      |nil=>exact h.elim
      |cons d r=>exact⟨_,h,λK' hk=>hk⟩
   ·exact h.elim
  ·exact h.elim
 case store T x y=>simp only[om,ho,Bool.false_eq_true]at hq
 case nilCheck x=>
  rw[h1 x (by simp)]
  split at h
  ·exact⟨_,h,λK' hk=>hk⟩
  ·exact⟨_,h,λK' hk=>hk⟩
  ·exact⟨_,h,λK' hk=>hk⟩
  ·exact⟨_,h,λK' hk=>hk⟩
  ·exact h.elim
 case binOp op T x y T'=>
  rw[h1 x (by simp),h1 y (by simp)]
  have hE:∀(op:BinOp) (b:Bool) (K:D→Prop),eqK op b K→∃d,K d∧∀K':D→Prop,K' d→eqK op b K':=λop b K h=>by
   unfold eqK at h⊢
   split at h
   ·exact⟨_,h,λK' hk=>hk⟩
   ·exact⟨_,h,λK' hk=>hk⟩
   ·exact h.elim
  unfold A9 at h⊢
  split at h
  ·split at h
   ·split at h
    ·obtain⟨d,q1,q2⟩:=hE _ _ _ h
     exact⟨d,q1,λK' hk=>q2 (λd=>K' d σ') hk⟩
    ·exact h.elim
   ·exact h.elim
  ·exact h.elim
  ·exact h.elim
  ·exact h.elim
  ·split at h<;>exact h.elim
  ·unfold zgy at h⊢
   split at h
   ·split at h<;>first|exact h.elim|exact⟨_,h,λK' hk=>hk⟩|exact⟨_,h.2,λK' hk=>⟨h.1,hk⟩⟩
   ·split at h<;>first|exact h.elim|exact⟨_,h,λK' hk=>hk⟩
   ·split at h<;>first|exact h.elim|exact⟨_,h,λK' hk=>hk⟩|exact⟨_,h.2,λK' hk=>⟨h.1,hk⟩⟩
   ·cases hb:qO T E.q.bools with
    |false=>rw[hb]at h;exact h.elim
    |true=>
     rw[hb,cond_true]at h
     simp only[cond_true];split at h<;>first|exact h.elim|exact⟨_,h,λK' hk=>hk⟩
   ·exact h.elim
 case makeMap T r=>
  cases r with
  |some _=>exact h.elim
  |none=>
   simp only at h⊢
   unfold RJ at h⊢
   split at h
   ·rw[VR]at h⊢;exact⟨_,h,λK' hk=>hk⟩
   ·exact h.elim
 case mapUpdate T m x y=>simp only[om,ho,Bool.false_eq_true]at hq
 case lookup T m x ok=>
  rw[h1 m (by simp),h1 x (by simp)]
  unfold HG at h⊢
  rw[zg4 (h2 m (by simp))]
  split at h
  ·rename_i kt0 vt0 kt vt es _ _
   cases hb:decide (kt=kt0)&&decide (vt=vt0)with
   |false=>rw[hb]at h;exact h.elim
   |true=>
    rw[hb,cond_true]at h
    simp only[cond_true];split at h
    ·cases ok
     ·exact⟨_,h,λK' hk=>hk⟩
     ·exact⟨_,h,λK' hk=>hk⟩
    ·exact h.elim
  ·exact h.elim
 case unOp op T x=>
  rw[h1 x (by simp)]
  unfold unD at h⊢
  split at h<;>first|exact h.elim|exact⟨_,h,λK' hk=>hk⟩
 case convert src dst x=>
  rw[h1 x (by simp)]
  unfold zd8 at h⊢
  split at h
  ·split at h<;>first|exact h.elim|exact⟨_,h,λK' hk=>hk⟩
  ·split at h
   ·split at h<;>first|exact h.elim|exact⟨_,h,λK' hk=>hk⟩
   ·exact h.elim
 case makeFunc fn first caps=>
  cases fn<;>simp only at h⊢
  case func f=>
   rw[zg5 (xs:=caps.toList) λx hx=>h1 x (by simp;exact .inr (by simpa using hx)),zg5 (xs:=first.toList) λx hx=>h1 x (by simp;exact .inl (by simpa using hx))]
   cases hcl:A.quiet.clp with
   |true=>
    rw[hcl]at h
    simp only at h⊢
    split at h<;>first|exact⟨_,h,λK' hk=>hk⟩|exact h.elim
   |false=>
   rw[hcl]at h
   simp only at h⊢
   split at h
   ·rw[show A.quiet.q=1 from rfl]at h⊢
    obtain⟨hf,h⟩:=VQ.1 h;exact⟨_,h,λK' hk=>VQ.2 ⟨hf,hk⟩⟩
   ·exact h.elim
  all_goals exact h.elim
 case makeInterface T x=>
  rw[h1 x (by simp)]
  split at h
  ·exact⟨_,h,λK' hk=>hk⟩
  ·exact h.elim
 case makeSlice T l c=>
  rw[h1 l (by simp),h1 c (by simp)]
  unfold WH at h⊢
  split at h
  ·split at h
   ·rw[VR]at h⊢
    exact⟨_,h.2.2.2,λK' hk=>⟨h.1,h.2.1,h.2.2.1,hk⟩⟩
   ·exact h.elim
  ·exact h.elim
 case slice T x lo hi mx=>
  cases mx with
  |some m=>exact h.elim
  |none=>
   simp only at h⊢
   have e1:∀n,Yq σ' n lo=Yq σ n lo:=λn=>D7 λy hy=>h1 y (by subst hy;simp)
   have e2:∀n,Yq σ' n hi=Yq σ n hi:=λn=>D7 λy hy=>h1 y (by subst hy;simp)
   rw[h1 x (by simp)]
   unfold Bm at h⊢
   split at h
   ·simp only[e1,e2]
    rename_i s _;cases hb:qO T E.q.strs with
    |false=>rw[hb]at h;exact h.elim
    |true=>
     rw[hb,cond_true]at h
     simp only[cond_true];split at h
     ·exact⟨_,h.2,λK' hk=>⟨h.1,hk⟩⟩
     ·exact h.elim
   ·rw[show A.quiet.q=1 from rfl]at h⊢
    obtain⟨hf,h⟩:=VQ.1 h;split at h
    ·rename_i t xs heq
     split at h
     ·rename_i e t' l hh q1 q2 q3
      cases hb:Nat.beq t'.size t.size with
      |false=>rw[hb]at h;exact h.elim
      |true=>
       rw[hb,cond_true]at h
       refine⟨_,h.2,λK' hk=>VQ.2 ⟨hf,?_⟩⟩
       have e3:σ.ev x=.sl t xs:=by injection heq
       simp only[e1,e2,e3,q1,q2,q3,hb,cond_true];exact⟨h.1,hk⟩
     ·exact h.elim
    ·exact h.elim
 case fieldAddr T x f=>
  rw[h1 x (by simp)]
  unfold Ge at h⊢
  split at h
  ·split at h<;>first|exact h.elim|exact⟨_,h,λK' hk=>hk⟩
  ·exact h.elim
 case indexAddr T x ix=>
  rw[h1 x (by simp),h1 ix (by simp)]
  unfold TN at h⊢
  split at h
  ·rename_i e t' _
   split at h
   ·split at h
    ·rename_i t xs _
     cases hb:Nat.beq t'.size t.size with
     |false=>rw[hb]at h;exact h.elim
     |true=>rw[hb,cond_true]at h;simp only[cond_true];exact⟨_,h.2,λK' hk=>⟨h.1,hk⟩⟩
    ·rename_i j hj
     rw[h2 x (by simp) j (by rw[hj];rfl)]
     split at h
     ·rename_i t xs _
      cases hb:Nat.beq t'.size t.size with
      |false=>rw[hb]at h;exact h.elim
      |true=>rw[hb,cond_true]at h;simp only[cond_true];exact⟨_,h.2,λK' hk=>⟨h.1,hk⟩⟩
     ·exact h.elim
    ·exact h.elim
   ·exact h.elim
  ·exact h.elim
 case index T x ix=>
  rw[h1 x (by simp),h1 ix (by simp)]
  unfold Bo at h⊢
  split at h
  ·cases hb:qO T E.q.strs with
   |false=>rw[hb]at h;exact h.elim
   |true=>rw[hb,cond_true]at h;simp only[cond_true];exact⟨_,h.2,λK' hk=>⟨h.1,hk⟩⟩
  ·exact h.elim
 case extract x i=>
  rw[h1 x (by simp)]
  unfold Mp at h⊢
  split at h
  ·split at h
   ·exact⟨_,h,λK' hk=>hk⟩
   ·exact h.elim
  ·exact h.elim
 case call c=>
  have hargs:∀x∈c.args.toList,σ'.ev x=σ.ev x:=λx hx=>h1 x (by simp[Call.operands];exact .inr (by simpa using hx))
  have hobs:∀x∈c.args.toList,∀k,(σ.ev x).ref=some k→σ'.ob k=σ.ob k:=λx hx=>h2 x (by simp[Call.operands];exact .inr (by simpa using hx))
  split at h
  ·split at h
   ·rename_i hc x T ha ht
    rw[hargs x (by rw[ha];simp)]
    have hox:=hobs x (by rw[ha];simp)
    unfold ziI at h⊢
    split at h
    ·cases hb:qO T E.q.strs with
     |false=>rw[hb]at h;exact h.elim
     |true=>rw[hb,cond_true]at h;simp only[cond_true];exact⟨_,h,λK' hk=>hk⟩
    ·split at h
     ·exact⟨_,h,λK' hk=>hk⟩
     ·exact h.elim
    ·split at h
     ·exact⟨_,h,λK' hk=>hk⟩
     ·exact h.elim
    ·split at h
     ·exact⟨_,h,λK' hk=>hk⟩
     ·exact h.elim
    ·rename_i j hj
     rw[hox j (by rw[hj];rfl)]
     split at h
     ·split at h
      ·exact⟨_,h,λK' hk=>hk⟩
      ·exact h.elim
     ·split at h
      ·exact⟨_,h,λK' hk=>hk⟩
      ·exact h.elim
     ·exact h.elim
    ·exact h.elim
   ·exact h.elim
  ·rename_i hc;simp only[om,ho,hc,Bool.false_eq_true]at hq
  ·split at h
   ·rename_i x y ha
    rw[hargs x (by rw[ha];simp),hargs y (by rw[ha];simp)]
    unfold ziJ at h⊢
    split at h
    ·exact⟨_,h,λK' hk=>hk⟩
    ·exact h.elim
   ·exact h.elim
  ·rename_i f hc
   rw[h1 f (by simp[Call.operands,hc])]
   unfold zab at h⊢
   split at h
   ·rename_i g rs0 caps hcl
    have hh:zck E.q g rs0=none:=by cases rs0<;>rfl
    rw[hh]at h⊢
    simp only at h⊢
    split at h
    ·rename_i rs _
     obtain⟨hent,h⟩:=Gt.1 h;simp only[Gt]at h⊢
     rw[Pq _ _ hargs]
     have lin:∀(g:FuncId) (ds:List D) (K:D→Prop),zch P g ds rs K→∃d,K d∧∀K':D→Prop,K' d→zch P g ds rs K':=by
      intro g ds K h;unfold zch at h⊢
      split at h
      ·exact⟨_,h.2,λK' hk=>⟨h.1,hk⟩⟩
      ·obtain⟨x,q1,q2⟩:=h;exact⟨_,q2,λK' hk=>⟨x,q1,hk⟩⟩
      ·obtain⟨x,y,q1,q2⟩:=h;exact⟨_,q2,λK' hk=>⟨x,y,q1,hk⟩⟩
      ·obtain⟨x,y,z,q1,q2⟩:=h;exact⟨_,q2,λK' hk=>⟨x,y,z,q1,hk⟩⟩
      ·exact h.elim
     cases hsc:rs.all Ty.scalar with
     |true=>
      rw[hsc,cond_true]at h
      simp only[cond_true]
      have ev:(gZ E.q σ c.args.toList c.argTypes.toList).map (RK σ')=(gZ E.q σ c.args.toList c.argTypes.toList).map (RK σ):=List.map_congr_left λd hd=>zg3 λk hk=>by
       obtain⟨x,hx,e⟩:=Nj hd hk;exact hobs x hx k e
      simp only[ev];cases hfl:((gZ E.q σ c.args.toList c.argTypes.toList).map (RK σ)).all cJ with
      |false=>rw[hfl]at h;exact h.elim
      |true=>
       rw[hfl,cond_true]at h
       simp only[cond_true];obtain⟨d,q1,q2⟩:=lin _ _ _ h;exact⟨d,q1,λK' hk=>⟨hent,q2 (λr=>K' r σ') hk⟩⟩
     |false=>
      rw[hsc,cond_false]at h
      simp only[cond_false];rw[show A.quiet.q=1 from rfl]at h⊢
      obtain⟨hf,h⟩:=VQ.1 h;obtain⟨d,q1,q2⟩:=lin _ _ _ h;exact⟨d,q1,λK' hk=>⟨hent,VQ.2 ⟨hf,q2 (λr=>K' r σ') hk⟩⟩⟩
    ·exact h.elim
   ·exact h.elim
  ·exact h.elim
 all_goals exact h.elim
end
section
variable {P:Program}{E:TE}{A:wA}{σ σ1:St}{d:D}{o:Oper}
def St.px(σ:St):Option (Nat×D)→St
 |none=>σ
 |some (s,d)=>σ.put s d
def XOk(X:Option (Nat×D)):Prop:=∀s d,X=some (s,d)→d.ref=none
def Keep(σ τ:St):Prop:=∀t,(σ.get t).ref=none→τ.get t=σ.get t
theorem Keep.refl(σ:St):Keep σ σ:=λ_ _=>rfl
theorem Keep.trans{σ τ υ:St}(h:Keep σ τ)(h':Keep τ υ):Keep σ υ:=λt ht=>(h' t (by rw[h t ht];exact ht)).trans (h t ht)
variable {X:Option (Nat×D)}
theorem zej(k:Nat):(σ.px X).ob k=σ.ob k:=by
 cases X with
 |none=>rfl
 |some x=>rfl
theorem Ke{f:D→D}(hf:f .undef=.undef)(hX:XOk X)(hfd:∀d,d.ref=none→f d=d)(h:tW σ1 (σ.px X)):(∀i,((σ.map f).px X).get i=(σ1.map f).get i)∧∀k,zZ k (σ.map f).hp=zZ k (σ1.map f).hp:=by
 refine⟨λi=> ?_,λk=> ?_⟩
 ·have h1:=h.get i
  rw[St.get_map f hf,←h1];cases X with
  |none=>exact St.get_map f hf σ i
  |some x=>
   obtain⟨s,d⟩:=x;simp only[St.px,St.get_put];split
   ·exact(hfd d (hX s d rfl)).symm
   ·exact St.get_map f hf σ i
 ·have h2:zZ k σ.hp=zZ k σ1.hp:=(zej (X:=X) k).symm.trans (h.hp k)
  show zZ k (σ.hp.map λx=>(x.1,x.2.map f))=zZ k (σ1.hp.map λx=>(x.1,x.2.map f))
  rw[iZ,iZ,h2]
theorem D8{k:Nat}{d:D}(h:d.ref=none):d.kill k=d:=D.kill_ne (by rw[h];simp)
theorem zek{τ:St}{hp:List (Nat×yD)}:((⟨τ.fr,hp⟩:St).px X).fr=(τ.px X).fr:=by
 cases X<;>rfl
theorem HM{a b:St}(hX:XOk X)(hg:∀i,(b.px X).get i=a.get i)(hh:∀k,zZ k b.hp=zZ k a.hp):tW a (b.px X):=⟨hg,λk=>(zej (X:=X) k).trans (hh k)⟩
theorem BO{a b:St}(h:a.fr=b.fr)(i:Nat):a.get i=b.get i:=by unfold St.get;rw[h]
theorem jX(hX:XOk X)(h:tW σ1 (σ.px X))(k:Nat)(ob:yD):tW (σ1.mk' k ob) ((σ.mk' k ob).px X):=by
 obtain⟨h1,h2⟩:=Ke (f:=D.kill k) rfl hX (λd hd=>D8 hd) h
 refine HM hX (λi=> ?_) λj=> ?_
 ·refine Eq.trans (BO ?_ i) (h1 i)
  exact zek (τ:=σ.map (D.kill k))
 ·simp only[St.mk',xX,pC,h2]
theorem WK(hX:XOk X)(h:tW σ1 (σ.px X))(k:Nat)(ob:yD):tW (σ1.setOb k ob) ((σ.setOb k ob).px X):=by
 refine HM hX (λi=> ?_) λj=> ?_
 ·exact Eq.trans (BO (zek (τ:=σ)) i) (h.get i)
 ·have h2:zZ j σ.hp=zZ j σ1.hp:=(zej (X:=X) j).symm.trans (h.hp j)
  simp only[St.setOb,xX,pC,h2]
theorem JQ{k:Nat}{ob:yD}{d:D}(h:d.ref=none):qA k ob d=d:=Mm (by rw[h];simp)
theorem zaj(hX:XOk X)(h:tW σ1 (σ.px X))(k:Nat)(ob:yD):tW (σ1.pub k ob) ((σ.pub k ob).px X):=by
 have hu:qA k ob .undef=.undef:=by cases ob<;>rfl
 obtain⟨h1,h2⟩:=Ke (f:=qA k ob) hu hX (λd hd=>JQ hd) h
 refine HM hX (λi=> ?_) λj=> ?_
 ·exact Eq.trans (BO (zek (τ:=σ.map (qA k ob))) i) (h1 i)
 ·simp only[St.pub,pC,h2]
theorem Gz{f:D→D}(hf:f .undef=.undef)(hfd:∀d,d.ref=none→f d=d)(hp:List (Nat×yD)):Keep σ ⟨(σ.map f).fr,hp⟩:=λt ht=>by
 have:(⟨(σ.map f).fr,hp⟩:St).get t=(σ.map f).get t:=rfl;rw[this,St.get_map f hf,hfd _ ht]
theorem jY(k:Nat)(ob:yD):Keep σ (σ.mk' k ob):=Gz rfl (λd hd=>D8 hd) _
theorem WL(k:Nat)(ob:yD):Keep σ (σ.setOb k ob):=λ_ _=>rfl
theorem zak(k:Nat)(ob:yD):Keep σ (σ.pub k ob):=Gz (by cases ob<;>rfl) (λd hd=>JQ hd) _
theorem Zr(h:tW σ1 (σ.px X))(k:Nat):σ1.ob k=σ.ob k:=(h.hp k).symm.trans (zej k)
theorem Nk(h:∀k,σ1.ob k=σ.ob k):∀n k,VM σ1 n k=VM σ n k
 |0,k=>rfl
 |n+1,k=>by
  unfold VM;rw[h k];split
  ·split
   ·exact Nk h n _
   ·rfl
  ·split
   ·exact Nk h n _
   ·rfl
  ·rfl
theorem D9(hX:XOk X):∀(n:Nat) (σ1 σ:St) (ds:List D) (τ1:St) (ds':List D),tW σ1 (σ.px X)→pubs n σ1 ds=some (τ1,ds')→∃τ,pubs n σ ds=some (τ,ds')∧tW τ1 (τ.px X)∧Keep σ τ
 |0,_,_,_,_,_,_,h=>by cases h
 |n+1,σ1,σ,ds,τ1,ds',hl,h=>by
  unfold pubs at h⊢
  cases hf:cK ds with
  |none=>rw[hf]at h;injection h with h;injection h with h1 h2;subst h1 h2;exact⟨σ,rfl,hl,.refl _⟩
  |some k0=>
   rw[hf]at h
   simp only at h⊢
   rw[Nk (Zr hl),Zr hl]at h
   split at h
   ·rename_i ob hob
    cases hfl:ob.flatB with
    |false=>rw[hfl]at h;cases h
    |true=>
     rw[hfl,cond_true]at h
     simp only[cond_true];obtain⟨τ,q1,q2,q3⟩:=D9 hX n _ _ _ _ _ (zaj hX hl _ ob) h;exact⟨τ,q1,q2,(zak _ ob).trans q3⟩
   ·cases h
theorem cL(hX:XOk X){q:Nat}{ds:List D}{K K':List D→St→Prop}(hl:tW σ1 (σ.px X))(h:rC q σ1 ds K)(hK:∀ds' τ τ1,tW τ1 (τ.px X)→Keep σ τ→K ds' τ1→K' ds' τ):rC q σ ds K':=by
 unfold rC at h⊢
 cases hp:pubs q σ1 ds with
 |none=>rw[hp]at h;exact h.elim
 |some x=>
  obtain⟨τ1,ds'⟩:=x;rw[hp]at h
  obtain⟨τ,q1,q2,q3⟩:=D9 hX q _ _ _ _ _ hl hp;rw[q1];exact hK _ _ _ q2 q3 h
theorem zal(hX:XOk X)(hl:tW σ1 (σ.px X))(k off:Nat)(e:TypeId)(t:Ty):tW (RM σ1 k off e t) ((RM σ k off e t).px X)∧Keep σ (RM σ k off e t):=by
 unfold RM;rw[Zr hl k];split
 ·split
  ·cases Nat.beq k (cB k off)
   ·exact⟨WK hX (jX hX hl _ _) _ _,(jY _ _).trans (WL _ _)⟩
   ·exact⟨hl,.refl _⟩
  ·exact⟨WK hX hl _ _,WL _ _⟩
  ·exact⟨hl,.refl _⟩
 ·exact⟨hl,.refl _⟩
theorem GA{τ τ':St}(ob:∀k,τ.ob k=τ'.ob k):∀ds:List D,fw τ ds=fw τ' ds
 |[]=>rfl
 |d::r=>by
  have ih:=GA ob r;unfold fw;split
  ·rfl
  ·rename_i k r' e
   injection e with e1 e2
   subst e2;rw[ob k,ih]
  ·rename_i x r' _ e
   injection e with e1 e2
   subst e2;exact ih
theorem X3(hX:XOk X)(ds:List D):∀(l:List (Nat×(Nat×(TypeId×Ty)))) (σ1 σ:St),tW σ1 (σ.px X)→tW (jU ds l σ1) ((jU ds l σ).px X)∧Keep σ (jU ds l σ)
 |[],σ1,σ,hl=>⟨hl,.refl _⟩
 |(i,off,e,t)::r,σ1,σ,hl=>by
  unfold jU;split
  ·obtain⟨h1,h2⟩:=zal hX hl _ off e t
   obtain⟨h3,h4⟩:=X3 hX ds r _ _ h1;exact⟨h3,h2.trans h4⟩
  ·exact X3 hX ds r _ _ hl
theorem EW(hX:XOk X)(hl:tW σ1 (σ.px X))(k off:Nat):tW (Xh σ1 k off) ((Xh σ k off).px X)∧Keep σ (Xh σ k off):=by
 unfold Xh;rw[Zr hl k];split
 ·split
  ·rename_i j _
   rw[Zr hl j];split
   ·rename_i ob _
    cases ob.flatB
    ·exact⟨hl,.refl _⟩
    ·exact⟨zaj hX hl _ _,zak _ _⟩
   ·exact⟨hl,.refl _⟩
  ·exact⟨hl,.refl _⟩
 ·exact⟨hl,.refl _⟩
theorem WM(hX:XOk X)(ds:List D):∀(l:List (Nat×Nat)) (σ1 σ:St),tW σ1 (σ.px X)→tW (uV ds l σ1) ((uV ds l σ).px X)∧Keep σ (uV ds l σ)
 |[],σ1,σ,hl=>⟨hl,.refl _⟩
 |(i,off)::r,σ1,σ,hl=>by
  unfold uV;split
  ·obtain⟨h1,h2⟩:=EW hX hl _ off
   obtain⟨h3,h4⟩:=WM hX ds r _ _ h1;exact⟨h3,h2.trans h4⟩
  ·exact WM hX ds r _ _ hl
theorem MB{ks:List Nat}{d:D}(h:d.ref=none):jW ks d=d:=by unfold jW;rw[h]
theorem zam{α:Type}(k:Nat):∀(l l':List (Nat×α)),zZ k (l++l')=match zZ k l with|some o=>some o|none=>zZ k l'
 |[],l'=>rfl
 |(i,x)::r,l'=>by
  rw[List.cons_append,xX,xX];split
  ·rfl
  ·exact zam k r l'
theorem TR{α:Type}(ks:List Nat)(k:Nat):∀(l:List (Nat×α)),zZ k (VO ks l)=if qO k ks=true then none else zZ k l
 |[]=>by simp[VO,zZ]
 |(i,x)::r=>by
  unfold VO;cases hm:qO i ks with
  |true=>
   rw[cond_true,TR ks k r,xX]
   by_cases e:i=k
   ·subst e;rw[if_pos hm,if_pos hm]
   ·rw[if_neg e]
  |false=>
   rw[cond_false,xX,xX,TR ks k r]
   by_cases e:i=k
   ·subst e;rw[if_pos rfl,if_pos rfl,if_neg (by rw[hm];simp)]
   ·rw[if_neg e,if_neg e]
theorem zcv(hX:XOk X)(hl:tW σ1 (σ.px X))(ρ:List (Nat×Nat))(dst:Nat)(h':List (Nat×yD)):tW (σ1.after ρ dst h') ((σ.after ρ dst h').px X)∧Keep σ (σ.after ρ dst h'):=by
 refine⟨?_,?_⟩
 ·unfold St.after
  simp only;generalize(((ρ.filter λx=> !stabK x.2|| !(qO x.2 (h'.map (·.1)))).map (·.1))++((h'.map λx=>(x.1,jV (L4 ρ) dst x.1)).filter λx=> !(qO x.1 (ρ.map (·.2)))).map (·.2))=dead
  obtain⟨h1,h2⟩:=Ke (f:=jW dead) rfl hX (λd hd=>MB hd) hl
  refine HM hX (λi=> ?_) λj=> ?_
  ·exact Eq.trans (BO (zek (τ:=σ.map (jW dead))) i) (h1 i)
  ·simp only[zam,TR]
   have:=h2 j;simp only[St.map]at this
   rw[this]
 ·exact Gz rfl (λd hd=>MB hd) _
theorem zan:∀ {ts:List Ty} {K K':List D→Prop},(∀xs,K xs→K' xs)→exH ts K→exH ts K'
 |[],K,K',hk,h=>hk _ h
 |t::ts,K,K',hk,h=>by
  obtain⟨x,h⟩:=h;exact⟨x,zan (λxs=>hk _) h⟩
theorem zcw(hX:XOk X)(hl:tW σ1 (σ.px X)){f:FuncId}{hs:Bi}{dst:Nat}{ds0 caps:List D}{K K':D→St→Prop}(h:JJ P A f hs dst ds0 caps σ1 K)(hK:∀d τ τ1,tW τ1 (τ.px X)→Keep σ τ→K d τ1→K' d τ):JJ P A f hs dst ds0 caps σ K':=by
 unfold JJ at h⊢
 cases hb:caps.all cJ&&ds0.all O9 with
 |false=>rw[hb]at h;exact h.elim
 |true=>
  rw[hb,cond_true]at h
  simp only[cond_true]at h⊢
  obtain⟨a1,a2⟩:=WM hX ds0 hs.datas _ _ hl;rw[GA (Zr a1) ds0]at h
  obtain⟨b1,b2⟩:=X3 hX (ds0++fw (uV ds0 hs.datas σ) ds0) hs.nils _ _ a1;generalize jU (ds0++fw (uV ds0 hs.datas σ) ds0) hs.nils (uV ds0 hs.datas σ1)=υ1 at h b1
  generalize jU (ds0++fw (uV ds0 hs.datas σ) ds0) hs.nils (uV ds0 hs.datas σ)=υ at b1 b2⊢
  have ho:υ1.ob=υ.ob:=funext (Zr b1);rw[ho]at h
  refine zan (λxs h=> ?_) h
  split
  ·rename_i r h' hr
   rw[hr]at h
   simp only at h
   have hch:∀a b:St,zaa a=zaa b:=λ_ _=>rfl
   rw[hch υ1 υ]at h
   cases hc:zaa υ (Br υ.ob (RL ds0) (reach υ.ob 400 [] ds0) 0 0) dst h' with
   |false=>rw[hc]at h;exact h.elim
   |true=>
    rw[hc,cond_true]at h
    rw[cond_true];obtain⟨c1,c2⟩:=zcv hX b1 (Br υ.ob (RL ds0) (reach υ.ob 400 [] ds0) 0 0) dst h';exact⟨h.1,hK _ _ _ c1 ((a2.trans b2).trans c2) h.2⟩
  ·rename_i hr
   rw[hr]at h
   exact h
theorem zg6{op:BinOp}{b:Bool}{K K':D→Prop}(hk:∀d,K d→K' d)(h:eqK op b K):eqK op b K':=by
 unfold eqK at h⊢
 split at h
 ·exact hk _ h
 ·exact hk _ h
 ·exact h.elim
theorem GB(h:∀k,σ1.ob k=σ.ob k)(k:Nat)(t:Ty)(d:D):JI σ1 k t d=JI σ k t d:=by
 cases d<;>simp only[JI,h]
theorem zcx{τ τ':St}(ob:∀k,τ.ob k=τ'.ob k){x:D}:HE τ x=HE τ' x:=by
 unfold HE;cases x with
 |ptr k off=>simp only[ob k]
 |_=>rfl
theorem zfj{b:Bool}{new:List D}{K K':List D→Prop}(hm:∀new,K new→K' new)(h:ze7 b new K):ze7 b new K':=by
 unfold ze7 at h⊢
 split at h
 ·split at h
  ·exact⟨h.1,hm _ h.2⟩
  ·exact hm _ h
 ·exact hm _ h
theorem zfk(hX:XOk X)(hl:tW σ1 (σ.px X))(hx:∀s d,X=some (s,d)→Operand.tmp s∉o.op.operands)(hq:om E A o=false){K K':D→St→Prop}(h:Bu P E A o σ1 K)
  (hK:∀d τ τ1,tW τ1 (τ.px X)→Keep σ τ→K d τ1→K' d τ):Bu P E A o σ K':=by
 have ev0:∀(a b:St),tW a (b.px X)→∀x∈o.op.operands,a.ev x=b.ev x:=λa b hab x hxo=>by
  cases x with
  |tmp t=>
   show a.get t=b.get t
   rw[←hab.get];cases X with
   |none=>rfl
   |some y=>
    obtain⟨s,d⟩:=y;simp only[St.px,St.get_put];rw[if_neg];intro e;subst e;exact hx _ _ rfl hxo
  |_=>rfl
 have ev:=ev0 σ1 σ hl;have ob:=Zr hl;unfold Bu at h⊢
 cases ho:o.op<;>rw[ho]at h ev ev0<;>simp only[Op.operands]at h ev ev0⊢
 case move x=>
  rw[ev x (by simp)]at h
  unfold A8 at h⊢
  split at h
  ·split at h
   ·split at h
    ·exact hK _ _ _ (jX hX hl _ _) (jY _ _) h
    ·exact hK _ _ _ hl (.refl _) h
   ·exact hK _ _ _ hl (.refl _) h
  ·exact hK _ _ _ hl (.refl _) h
 case assign x=>
  rw[ev x (by simp)]at h
  unfold A8 at h⊢
  split at h
  ·split at h
   ·split at h
    ·exact hK _ _ _ (jX hX hl _ _) (jY _ _) h
    ·exact hK _ _ _ hl (.refl _) h
   ·exact hK _ _ _ hl (.refl _) h
  ·exact hK _ _ _ hl (.refl _) h
 case alloc T=>
  unfold Gg at h⊢
  split at h
  case h_2 l hnil=>
   unfold zcj at h⊢
   split at h
   ·split at h
    ·rename_i k _
     cases hb:Nat.blt k 1000000 with
     |false=>rw[hb]at h;exact h.elim
     |true=>
      rw[hb,cond_true]at h
      simp only[cond_true];obtain⟨b1,b2⟩:=X3 hX [.ptr k 0] (Bt k A.nz) _ _ (jX hX hl k (.cells (YM (Bt k A.nz) _)));exact hK _ _ _ b1 ((jY _ _).trans b2) h
    ·exact hK _ _ _ hl (.refl _) h
   ·exact h.elim
  unfold Gd at h⊢
  split at h
  ·split at h
   ·exact hK _ _ _ (jX hX hl _ _) (jY _ _) h
   ·exact hK _ _ _ hl (.refl _) h
  ·exact h.elim
 case box T x=>
  rw[ev x (by simp)]at h
  unfold zgx at h⊢
  rw[Pp λk _=>ob k]at h
  split at h
  ·rename_i cs _
   split at h
   ·rename_i k _
    cases hb:Bk k T cs with
    |true=>rw[hb]at h;exact h.elim
    |false=>
     rw[hb,cond_false]at h
     exact hK _ _ _ (jX hX hl _ _) (jY _ _) h
   ·exact cL hX hl h λds' τ τ1 q1 q2 q3=>hK _ _ _ q1 q2 q3
  ·exact h.elim
 case build T parts=>
  unfold Gf at h⊢
  split at h
  ·rename_i zs pf _ _
   have hp:∀x∈parts.toList,x.2∈(parts.toList.map (·.2)).toArray:=λx hx=>by simp only[List.mem_toArray,List.mem_map];exact⟨x,hx,rfl⟩
   rw[RR (σ':=σ1) (σ:=σ) parts.toList zs (λx hx=>ev x.2 (hp x hx)) λx hx k _=>ob k]at h
   split at h
   ·cases hb:qO T E.vals&&Bp o.dst with
    |true=>
     rw[hb,cond_true]at h
     exact hK _ _ _ (jX hX hl _ _) (jY _ _) h
    |false=>
     rw[hb,cond_false]at h
     exact cL hX hl h λds' τ τ1 q1 q2 q3=>hK _ _ _ q1 q2 q3
   ·exact h.elim
  ·exact h.elim
 case buildSlice T len parts=>
  unfold Xg at h⊢
  split at h
  ·rename_i e t _
   cases hb:wN t len&&Nat.ble (len*t.size) 16777216 with
   |false=>rw[hb]at h;exact h.elim
   |true=>
    rw[hb,cond_true]at h
    rw[cond_true];have hp:∀x∈parts.toList,x.2∈(parts.toList.map (·.2)).toArray:=λx hx=>by simp only[List.mem_toArray,List.mem_map];exact⟨x,hx,rfl⟩
    rw[RR (σ':=σ1) (σ:=σ) parts.toList _ (λx hx=>ev x.2 (hp x hx)) λx hx k _=>ob k]at h
    split at h
    ·refine cL hX hl h λds' τ τ1 q1 q2 q3=> ?_
     split at q3
     ·split at q3
      ·exact hK _ _ _ (jX hX q1 _ _) (q2.trans (jY _ _)) q3
      ·exact hK _ _ _ q1 q2 q3
     ·exact q3.elim
    ·exact h.elim
  ·exact h.elim
 case store T x y=>
  rw[ev x (by simp),ev y (by simp)]at h
  unfold Bl at h⊢
  split at h
  ·rename_i _ zs _
   rw[Pp λk _=>ob k]at h
   split at h
   ·exact h.elim
   ·rename_i new _
    rw[zcx ob]at h
    refine zfj (λnew h=> ?_) h
    cases hb:Nat.beq new.length zs.length&&new.all jT with
    |false=>rw[hb]at h;exact h.elim
    |true=>
     rw[hb,cond_true]at h
     rw[cond_true];split at h
     ·rename_i k off _
      rw[ob k]at h
      split at h
      ·rename_i ds _
       cases hb2:Nat.ble (off+new.length) ds.length with
       |false=>rw[hb2]at h;exact h.elim
       |true=>rw[hb2,cond_true]at h;exact hK _ _ _ (WK hX hl _ _) (WL _ _) h
      ·exact h.elim
     ·rename_i k sz i off _
      refine cL hX hl h λds' τ τ1 q1 q2 q3=> ?_
      rw[Zr q1]at q3
      split at q3
      ·rename_i e t xs _
       cases hb2:Nat.beq sz t.size with
       |false=>rw[hb2]at q3;exact q3.elim
       |true=>
        rw[hb2,cond_true]at q3
        rw[cond_true];split at q3
        ·cases hb3:Nat.ble (off+ds'.length) t.size with
         |false=>rw[hb3]at q3;exact q3.elim
         |true=>rw[hb3,cond_true]at q3;exact hK _ _ _ (WK hX q1 _ _) (q2.trans (WL _ _)) q3
        ·exact q3.elim
      ·exact q3.elim
     ·exact h.elim
  ·exact h.elim
 case binOp op T x y T'=>
  rw[ev x (by simp),ev y (by simp)]at h
  have hE:∀ {op:BinOp} {b:Bool},eqK op b (λd=>K d σ1)→eqK op b λd=>K' d σ:=λh=>zg6 (λd hd=>hK _ _ _ hl (.refl _) hd) h
  unfold A9 at h⊢
  split at h
  ·split at h
   ·split at h
    ·exact hE h
    ·exact h.elim
   ·exact h.elim
  ·cases hb:E.nilq&&VN E T with
   |false=>rw[hb]at h;exact h.elim
   |true=>rw[hb,cond_true]at h;rw[cond_true];exact hE h
  ·cases hb:E.nilq&&VN E T with
   |false=>rw[hb]at h;exact h.elim
   |true=>rw[hb,cond_true]at h;rw[cond_true];exact λb hb=>hE (h b hb)
  ·cases hb:E.nilq&&VN E T with
   |false=>rw[hb]at h;exact h.elim
   |true=>rw[hb,cond_true]at h;rw[cond_true];exact hE h
  ·rename_i k _ _
   rw[ob k]at h
   split at h
   ·cases hb:E.nilq&&VN E T with
    |false=>rw[hb]at h;exact h.elim
    |true=>rw[hb,cond_true]at h;rw[cond_true];exact λb hb=>hE (h b hb)
   ·exact h.elim
  ·have hk:∀d,K d σ1→K' d σ:=λd hd=>hK _ _ _ hl (.refl _) hd
   unfold zgy at h⊢
   split at h
   ·split at h<;>first|exact h.elim|exact hk _ h|exact⟨h.1,hk _ h.2⟩
   ·split at h<;>first|exact h.elim|exact hk _ h
   ·split at h<;>first|exact h.elim|exact hk _ h|exact⟨h.1,hk _ h.2⟩
   ·cases hb:qO T E.bools with
    |false=>rw[hb]at h;exact h.elim
    |true=>
     rw[hb,cond_true]at h
     simp only[cond_true];split at h<;>first|exact h.elim|exact hk _ h
   ·exact h.elim
 case makeSlice T l c=>
  rw[ev l (by simp),ev c (by simp)]at h
  unfold WH at h⊢
  split at h
  ·split at h
   ·obtain⟨g1,g2,g3,h⟩:=h
    refine⟨g1,g2,g3,?_⟩;split at h
    ·exact hK _ _ _ (jX hX hl _ _) (jY _ _) h
    ·exact hK _ _ _ hl (.refl _) h
   ·exact h.elim
  ·exact h.elim
 case makeMap T r=>
  cases r with
  |some _=>exact h.elim
  |none=>
   simp only at h⊢
   unfold RJ at h⊢
   split at h
   ·split at h
    ·exact hK _ _ _ (jX hX hl _ _) (jY _ _) h
    ·exact hK _ _ _ hl (.refl _) h
   ·exact h.elim
 case mapUpdate T m x y=>
  rw[ev m (by simp),ev x (by simp),ev y (by simp)]at h
  unfold TM at h⊢
  split at h
  ·rename_i kt0 vt0 j _ _
   refine cL hX hl h λds' τ τ1 q1 q2 q3=> ?_
   rw[Zr q1]at q3
   split at q3
   ·rename_i kt vt es _
    cases hb:decide (kt=kt0)&&decide (vt=vt0)with
    |false=>rw[hb]at q3;exact q3.elim
    |true=>
     rw[hb,cond_true]at q3
     rw[cond_true];split at q3
     ·exact⟨q3.1,hK _ _ _ (WK hX q1 _ _) (q2.trans (WL _ _)) q3.2⟩
     ·exact q3.elim
   ·exact q3.elim
  ·exact h.elim
 case call c=>
  have hargs:∀(a b:St),tW a (b.px X)→∀x∈c.args.toList,a.ev x=b.ev x:=λa b hab x hx=>ev0 a b hab x (by simp[Call.operands];exact .inr (by simpa using hx))
  split at h
  ·rename_i hc;simp only[om,ho,hc,Bool.true_eq_false]at hq
  ·split at h
   ·rename_i hc x y T T' ha ht
    rw[hargs σ1 σ hl x (by rw[ha];simp)]at h
    have hy:=λa b hab=>hargs a b hab y (by rw[ha];simp)
    unfold HH at h⊢
    split at h
    ·rename_i e t' _
     cases hT:Nat.beq T T' with
     |false=>
      rw[hT,cond_false]at h
      rw[cond_false];unfold zj3 at h⊢
      split at h
      ·rw[hy σ1 σ hl]at h
       split at h
       ·rename_i k _ _ _ _
        rw[ob]at h
        split at h
        ·rename_i e' xs _
         cases hb:Nat.beq e e'&& !stabK k with
         |false=>rw[hb]at h;exact h.elim
         |true=>
          rw[hb,cond_true]at h
          simp only[cond_true];exact⟨h.1,hK _ _ _ (jX hX hl _ _) (jY _ _) h.2⟩
        ·exact h.elim
       ·exact h.elim
      ·exact h.elim
     |true=>
      rw[hT,cond_true]at h
      rw[cond_true];split at h
      ·rename_i k _
       rw[ob k]at h
       split at h
       ·rename_i e' t xs _
        cases hb:Nat.beq e e'&&Nat.beq t'.size t.size&&Nat.beq t'.bytes t.bytes&& !stabK k with
        |false=>rw[hb]at h;exact h.elim
        |true=>
         rw[hb,cond_true]at h
         rw[cond_true];rw[hy σ1 σ hl,GB ob]at h
         split at h
         ·exact⟨h.1,hK _ _ _ (jX hX hl _ _) (jY _ _) h.2⟩
         ·exact h.elim
       ·exact h.elim
      ·rename_i k _
       rw[ob k]at h
       split at h
       ·rename_i e' t xs _
        cases hb:Nat.beq e e'&&Nat.beq t'.size t.size&&Nat.beq t'.bytes t.bytes&& !stabK k with
        |false=>rw[hb]at h;exact h.elim
        |true=>
         rw[hb,cond_true]at h
         rw[cond_true];rw[hy σ1 σ hl,GB ob]at h
         split at h
         ·rename_i ys _
          cases hz:Nat.blt 0 ys.length with
          |false=>rw[hz]at h;exact h.elim
          |true=>
           rw[hz,cond_true]at h
           rw[cond_true];exact⟨h.1,hK _ _ _ (jX hX hl _ _) (jY _ _) h.2⟩
         ·exact h.elim
       ·exact h.elim
      ·split at h
       ·rename_i k _
        have hl2:=jX hX hl k (.row e t' []);rw[hy _ _ hl2,GB (Zr hl2)]at h
        split at h
        ·exact⟨h.1,hK _ _ _ (jX hX hl2 _ _) ((jY _ _).trans (jY _ _)) h.2⟩
        ·exact h.elim
       ·exact h.elim
      ·exact h.elim
    ·exact h.elim
   ·exact h.elim
  ·rename_i hc;simp only[om,ho,hc,Bool.true_eq_false]at hq
  ·rename_i f hc
   rw[ev f (by simp[Call.operands,hc])]at h
   cases f with
   |func g=>
    simp only[om,ho,hc]at hq
    cases hg:zZ g E.hsig with
    |none=>rw[hg]at hq;cases hq
    |some hs=>
     unfold zab at h⊢
     have e1:∀τ:St,τ.ev (.func g)=.clo g none []:=λ_=>rfl
     rw[e1]at h⊢
     simp only[zck,hg]at h⊢
     rw[zi5 (σ':=σ1) (σ:=σ) _ _ (hargs σ1 σ hl)]at h
     exact zcw hX hl h hK
   |_=>simp only[om,ho,hc,Bool.true_eq_false]at hq
  ·exact h.elim
 all_goals first|exact h.elim|(simp only[om,ho,Bool.true_eq_false]at hq)
end
section
variable {P:Program}{E:TE}{A:wA}{b0:Vy}{w w':World}{S S':Nat→Prop}{pl pl':Nat→Value}{N:Nat}{σ σ':St}{a:Act}{v:Value}{d:D}{o:Oper}
theorem X4{all:List Oper}{yes no:St→Prop}(h:Zq all o σ yes no)(σ2:St)(hl:tW σ σ2)(m:Mt P b0 N σ2 a w):
  (Region.wanted o (yielded all.toArray a.tmps)=true∧∃σ',tW σ2 σ'∧yes σ')∨(Region.wanted o (yielded all.toArray a.tmps)=false∧∃σ',tW σ2 σ'∧no σ'):=by
 unfold Zq at h
 split at h
 ·rename_i hg
  exact .inl ⟨by unfold Region.wanted;rw[hg],σ,hl.symm,h⟩
 ·rename_i j want hg
  split at h
  ·rename_i s hs
   split at h
   ·rename_i b hb
    obtain⟨S,pl,m⟩:=m
    have hv:a.tmps.getD s undef=.bool b:=by
     have:=m.fr s;rw[hl.get,hb]at this
     exact(this.flat (d:=.bool b) rfl).bool_inv
    have hy:yielded all.toArray a.tmps j=some b:=by
     unfold yielded;unfold D5 at hs
     split at hs
     ·rename_i o' ho'
      have hlt:s<a.tmps.size:=by
       rcases Nat.lt_or_ge s a.tmps.size with h|h
       ·exact h
       ·rw[Array.getD_eq_getD_getElem?,Array.getElem?_eq_none h]at hv;cases hv
      rw[Array.getD_eq_getD_getElem?,Array.getElem?_eq_getElem hlt]at hv
      simp only[List.getElem?_toArray,ho',Option.bind_some,hs,Array.getElem?_eq_getElem hlt];have hv:a.tmps[s]=.bool b:=hv;rw[hv]
     ·cases hs
    have hw:Region.wanted o (yielded all.toArray a.tmps)=(b==want):=by
     unfold Region.wanted;rw[hg];simp only[hy];cases b<;>cases want<;>rfl
    rw[hw];have hp:tW σ2 (σ.put s (.bool b)):=hl.symm.trans (MA hb);cases b<;>cases want
    ·exact .inl ⟨rfl,_,hp,h⟩
    ·exact .inr ⟨rfl,_,hp,h⟩
    ·exact .inr ⟨rfl,_,hp,h⟩
    ·exact .inl ⟨rfl,_,hp,h⟩
   ·rename_i hb
    obtain⟨S,pl,m⟩:=m
    have hv:a.tmps.getD s undef=.tuple #[]:=by
     have:=m.fr s;rw[hl.get,hb]at this
     obtain⟨vs,hv,hl2,_⟩:=(this.flat (d:=.tup []) rfl).tup_inv;obtain rfl:vs= #[]:=Array.eq_empty_of_size_eq_zero (by simpa using hl2)
     exact hv
    refine .inr ⟨?_,σ,hl.symm,h⟩
    have hy:yielded all.toArray a.tmps j=none:=by
     unfold yielded;unfold D5 at hs
     split at hs
     ·rename_i o' ho'
      simp only[List.getElem?_toArray,ho',Option.bind_some,hs];rw[Array.getD_eq_getD_getElem?]at hv
      cases hg':a.tmps[s]? with
      |none=>rfl
      |some u=>rw[hg']at hv;have hv:u=.tuple #[]:=hv;rw[hv]
     ·cases hs
    unfold Region.wanted;rw[hg];simp only[hy];rfl
   ·exact h.elim
  ·exact h.elim
theorem HU:Rd w S pl undef (.tup []):=Rp.rd (.tup #[] [] rfl λi d h=>by simp at h)
theorem WN{n:Nat}:∀ {l:List Oper},RQ n l=true→∀o∈l,∀i,o.dst=some i→i<n
 |[],_,o,ho,_,_=>by cases ho
 |x::l,h,o,ho,i,hi=>by
  simp only[RQ,Bool.and_eq_true]at h
  rcases List.mem_cons.1 ho with rfl|ho
  ·have:=h.1
   rw[hi]at this
   exact Nat.lt_of_succ_le (Nat.le_of_ble_eq_true this)
  ·exact WN h.2 o ho i hi
theorem zcy(F:tT P E){all:List Oper}{K:Ex→St→Prop}{Q:Exit→Act→World→Prop}(hQ:∀σ a w,K .normal σ→Mt P b0 A.n σ a w→Q .normal a w)(hT:∀e a w,zkL b0 K e a w→Q e a w):
  ∀(l:List Oper) (σ:St) (a:Act) (w:World),RQ A.n l=true→zi1 P E A all l σ K→Mt P b0 A.n σ a w→wpList P all.toArray Q l a w
 |[],σ,a,w,_,h,m=>hQ σ a w h m
 |o::r,σ,a,w,hd,h,m=>by
  simp only[RQ,Bool.and_eq_true]at hd
  have hdst:∀i,o.dst=some i→i<A.n:=λi hi=>WN (l:=[o]) (by simp[RQ,hd.1]) o (by simp) i hi
  unfold wpList;rcases X4 (a:=a) (w:=w) h σ (.refl σ) m with⟨hw,σ',hl,hy⟩|⟨hw,σ',hl,hn⟩
  ·rw[if_pos hw]
   left;obtain⟨S,pl,m'⟩:=m.like hl;exact zgX F m' hy (λd σ'' v w' S' pl' hk hm hv=>zcy F hQ hT r _ _ _ hd.2 hk ⟨S',pl',hm.putO hdst hv⟩) λu w' ht hb=>hT _ _ _ ⟨u,_,rfl,ht,m'.dz,hb⟩
  ·rw[if_neg (by rw[hw];simp)]
   obtain⟨S,pl,m'⟩:=m.like hl;exact zcy F hQ hT r _ _ _ hd.2 hn ⟨S,pl,m'.putO hdst HU⟩
def fx(P:Program)(E:TE)(A:wA)(all:List Oper)(o:Oper)(d:D)(σ:St):Prop:=
 (ol all o σ=some true∧∀K':D→St→Prop,K' d σ→Bu P E.q A.quiet o σ K')∨(ol all o σ=some false∧d=.tup [])
def OD(K:St→Prop):Prop:=∀σ σ',tW σ σ'→K σ→K σ'
theorem MC{all:List Oper}(h:tW σ σ'):ol all o σ'=ol all o σ:=by
 unfold ol;split
 ·rfl
 ·split
  ·rw[h.get]
  ·rfl
theorem Yr(h:tW σ σ'):zi4 o σ σ':=⟨λx _=>h.ev x,λ_ _ k _=>h.ob k⟩
theorem fx.same{all:List Oper}(hq:om E A o=true)(h:fx P E A all o d σ)(he:zi4 o σ σ')(hw:ol all o σ'=ol all o σ):fx P E A all o d σ':=by
 rcases h with⟨h1,h2⟩|⟨h1,h2⟩
 ·left
  refine⟨hw.trans h1,λK' hk=> ?_⟩
  obtain⟨d',e,h'⟩:=fL (K:=λd'=>d'=d) hq he (h2 (λd' _=>d'=d) rfl)
  subst e;exact h' K' hk
 ·exact .inr ⟨hw.trans h1,h2⟩
theorem fx.like{all:List Oper}(hq:om E A o=true)(h:fx P E A all o d σ)(hl:tW σ σ'):fx P E A all o d σ':=h.same hq (Yr hl) (MC hl)
theorem Ca(σ:St){x y:Option Nat}(d e:D)(h:∀i,x=some i→y≠some i):tW ((σ.putO x d).putO y e) ((σ.putO y e).putO x d):=by
 cases x with
 |none=>exact .refl _
 |some i=>
  cases y with
  |none=>exact .refl _
  |some j=>
   have hne:i≠j:=λe=>h i rfl (by rw[e])
   refine⟨λk=> ?_,λ_=>rfl⟩
   simp only[St.putO,St.get_put];split<;>split<;>first|rfl|omega
theorem GC{all:List Oper}{x:Option Nat}{d:D}(h:∀i,x=some i→i∉o.looksAt all.toArray)(hob:True):zi4 o σ (σ.putO x d)∧ol all o (σ.putO x d)=ol all o σ:=by
 cases x with
 |none=>exact⟨⟨λ_ _=>rfl,λ_ _ _ _=>rfl⟩,rfl⟩
 |some i=>
  have hi:=h i rfl;refine⟨⟨λx hx=> ?_,λ_ _ _ _=>rfl⟩,?_⟩
  ·cases x with
   |tmp t=>
    show(σ.put i d).get t=σ.get t
    rw[St.get_put,if_neg];intro e;subst e;exact hi (List.mem_append_left _ (List.mem_filterMap.2 ⟨.tmp i,by simpa using hx,rfl⟩))
   |_=>rfl
  ·unfold ol
   split
   ·rfl
   ·rename_i j want hg
    split
    ·rename_i s hs
     rw[show(σ.putO (some i) d).get s=σ.get s from ?_]
     show(σ.put i d).get s=σ.get s
     rw[St.get_put,if_neg];intro e;subst e;refine hi ?_;unfold D5 at hs
     split at hs
     ·rename_i o' ho'
      simp[Oper.looksAt,hg,ho',hs]
     ·cases hs
    ·rfl
theorem zcz{all:List Oper}{yes no:St→Prop}(h:Zq all o σ yes no):(ol all o σ=some true∧∃σ',tW σ σ'∧yes σ')∨(ol all o σ=some false∧∃σ',tW σ σ'∧no σ'):=by
 unfold Zq at h
 unfold ol;split at h
 ·rename_i e;exact .inl ⟨rfl,σ,.refl _,h⟩
 ·rename_i j want e
  split at h
  ·rename_i s e2
   split at h
   ·rename_i b e3
    have hp:=MA e3;cases b<;>cases want
    ·exact .inl ⟨rfl,_,hp,h⟩
    ·exact .inr ⟨rfl,_,hp,h⟩
    ·exact .inr ⟨rfl,_,hp,h⟩
    ·exact .inl ⟨rfl,_,hp,h⟩
   ·exact .inr ⟨rfl,σ,.refl _,h⟩
   ·exact h.elim
  ·exact h.elim
end
section
variable {P:Program}{E:TE}{A:wA}{b0:Vy}{w w':World}{S S':Nat→Prop}{pl pl':Nat→Value}{N:Nat}{σ σ':St}{a:Act}{v:Value}{d:D}{o:Oper}
def MD(P:Program)(E:TE)(A:wA)(all:List Oper)(K:St→Prop):Nat→Array Bool→St→Prop
 |0,listed,σ=>Region.ready .any all.toArray listed=[]∧K σ
 |fuel+1,listed,σ=>(Region.ready .any all.toArray listed=[]→K σ)∧∀i∈Region.ready .any all.toArray listed,atD all i λo=>zah P E A all o σ (MD P E A all K fuel (listed.setIfInBounds i true))
theorem tT.q(F:tT P E):tT P E.q where
 zs:=F.zs
 sl:=F.sl
 fld:=F.fld
 strs:=F.strs
 ints:=F.ints
 bools:=F.bools
 sig:=F.sig
 hsig:=λf hs h=>by cases h
 arr:=F.arr
 mps:=F.mps
 sts:=F.sts
 mixed:=F.mixed
 byt:=F.byt
theorem ME(F:tT P E){all:List Oper}{K:St→Prop}{Q:Exit→Act→World→Prop}(hd:RQ A.n all=true)(hQ:∀σ a w,K σ→Mt P b0 A.n σ a w→Q .normal a w):
  ∀(fuel:Nat) (listed:Array Bool) (σ:St) (a:Act) (w:World),MD P E A all K fuel listed σ→Mt P b0 A.n σ a w→wpAny P .any all.toArray Q fuel listed a w
 |0,_,σ,a,w,h,m=>⟨h.1,hQ _ _ _ h.2 m⟩
 |fuel+1,listed,σ,a,w,h,m=>⟨λh0=>hQ _ _ _ (h.1 h0) m,λi hi=>by
  have h1:=h.2 i hi;unfold atD at h1
  unfold wpOp;simp only[List.getElem?_toArray];cases ho:all[i]? with
  |none=>rw[ho]at h1;exact h1.elim
  |some o=>
   rw[ho]at h1
   simp only at h1⊢
   have hdst:∀i,o.dst=some i→i<A.n:=WN hd o (List.mem_of_getElem? ho);unfold zah at h1
   split at h1
   ·rename_i hqt
    unfold zfi at h1
    rcases X4 h1 σ (.refl σ) m with⟨hw,σ',hl,hy⟩|⟨hw,σ',hl,hn⟩
    ·rw[if_pos hw]
     left;obtain⟨S,pl,m'⟩:=m.like hl;obtain⟨d,q1,q2⟩:=fL hqt (Yr (.refl σ')) hy;refine zgW F.q m' (q2 (λd' τ=>d'=d∧τ=σ') ⟨rfl,rfl⟩) λd' τ v w' S' pl' hk hm hv=> ?_
     obtain⟨e1,e2⟩:=hk;subst e1 e2;exact ME F hd hQ fuel _ _ _ _ q1 ⟨S',pl',hm.putO hdst hv⟩
    ·rw[if_neg (by rw[hw];simp)]
     obtain⟨S,pl,m'⟩:=m.like hl;exact ME F hd hQ fuel _ _ _ _ hn ⟨S,pl,m'.putO hdst HU⟩
   ·unfold zi2 at h1
    rcases X4 h1 σ (.refl σ) m with⟨hw,σ',hl,hy⟩|⟨hw,σ',hl,hn⟩
    ·rw[if_pos hw]
     left;obtain⟨S,pl,m'⟩:=m.like hl;refine zgW F m' hy λd' τ v w' S' pl' hk hm hv=> ?_
     exact ME F hd hQ fuel _ _ _ _ hk ⟨S',pl',hm.putO hdst hv⟩
    ·rw[if_neg (by rw[hw];simp)]
     obtain⟨S,pl,m'⟩:=m.like hl;exact ME F hd hQ fuel _ _ _ _ hn ⟨S,pl,m'.putO hdst HU⟩⟩
theorem MF{all:List Oper}{yes no:St→Prop}{b:Bool}(h:ol all o σ=some b)(hy:b=true→∀σ',tW σ σ'→yes σ')(hn:b=false→∀σ',tW σ σ'→no σ'):Zq all o σ yes no:=by
 unfold ol at h
 unfold Zq;split at h
 ·injection h with h;exact hy h.symm σ (.refl σ)
 ·rename_i j want e
  split at h
  ·rename_i s e2
   split at h
   ·rename_i c e3
    injection h with h
    have hp:=MA e3;cases c<;>cases want<;>subst h
    ·exact hy rfl _ hp
    ·exact hn rfl _ hp
    ·exact hn rfl _ hp
    ·exact hy rfl _ hp
   ·injection h with h;exact hn h.symm σ (.refl σ)
   ·cases h
  ·cases h
theorem Kf{all:List Oper}(hq:om E A o=true){K:St→Prop}(hK:OD K)(h:zfi P E A all o σ K):∃d,fx P E A all o d σ∧K (σ.putO o.dst d):=by
 rcases zcz h with⟨hw,σ',hl,hy⟩|⟨hw,σ',hl,hn⟩
 ·obtain⟨d,q1,q2⟩:=fL hq (Yr hl.symm) hy
  exact⟨d,.inl ⟨hw,q2⟩,hK _ _ (hl.symm.putO _ _) q1⟩
 ·exact⟨.tup [],.inr ⟨hw,rfl⟩,hK _ _ (hl.symm.putO _ _) hn⟩
theorem BP{all:List Oper}(hq:om E A o=true){K:St→Prop}(hK:OD K)(hy:fx P E A all o d σ)(h:K (σ.putO o.dst d)):zfi P E A all o σ K:=by
 rcases hy with⟨hw,hy⟩|⟨hw,rfl⟩
 ·refine MF hw (λ_ σ' hl=> ?_) λe=>by cases e
  obtain⟨d',e,q⟩:=fL (K:=λd'=>d'=d) hq (Yr hl) (hy (λd' _=>d'=d) rfl)
  subst e;exact q _ (hK _ _ (hl.putO _ _) h)
 ·exact MF hw (λe=>by cases e) λ_ σ' hl=>hK _ _ (hl.putO _ _) h
theorem zke{X:Option (Nat×D)}{i:Option Nat}{e:D}{τ τ1:St}(h:tW τ1 (τ.px X))(hne:∀s d,X=some (s,d)→i≠some s):tW (τ1.putO i e) ((τ.putO i e).px X):=by
 cases X with
 |none=>exact h.putO i e
 |some x=>
  obtain⟨s,d⟩:=x;have h1:=h.putO i e;refine h1.trans ?_;exact Ca τ (x:=some s) (y:=i) d e λj hj=>by injection hj with hj;subst hj;exact hne s d rfl
theorem Ps{all:List Oper}{X:Option (Nat×D)}(hX:XOk X){σ1:St}(hl:tW σ1 (σ.px X))(hx:∀s d,X=some (s,d)→s∉o.looksAt all.toArray)(hd:∀s d,X=some (s,d)→o.dst≠some s)(hq:om E A o=false){K K':St→Prop}
  (h:zi2 P E A all o σ1 K) (hK:∀τ τ1,tW τ1 (τ.px X)→(∀t,(σ.get t).ref=none→o.dst≠some t→τ.get t=σ.get t)→K τ1→K' τ):zi2 P E A all o σ K':=by
 have hw:ol all o σ1=ol all o σ:=by
  rw[←MC hl];cases X with
  |none=>rfl
  |some x=>
   obtain⟨s,d⟩:=x;exact(GC (x:=some s) (λi hi=>by injection hi with hi;subst hi;exact hx _ _ rfl) trivial).2
 have hop:∀s d,X=some (s,d)→Operand.tmp s∉o.op.operands:=λs d e hm=>hx s d e (List.mem_append_left _ (List.mem_filterMap.2 ⟨.tmp s,by simpa using hm,rfl⟩))
 have fin:∀(e:D) (τ τ1:St),tW τ1 (τ.px X)→Keep σ τ→K (τ1.putO o.dst e)→K' (τ.putO o.dst e):=λe τ τ1 q1 q2 q3=>hK _ _ (zke q1 hd) (λt ht hne=>by
  rw[←q2 t ht];cases hdst:o.dst with
  |none=>rfl
  |some j=>
   show(τ.put j e).get t=_
   rw[St.get_put,if_neg];intro ej;subst ej;exact hne hdst) q3
 have liken:∀σ1' σ',tW σ1 σ1'→tW σ σ'→tW σ1' (σ'.px X):=λσ1' σ' h1 h2=>by
  have h3:=h1.symm.trans hl;refine h3.trans ?_;cases X with
  |none=>exact h2
  |some x=>exact h2.put _ _
 rcases zcz h with⟨hw1,σ1',hl1,hy⟩|⟨hw1,σ1',hl1,hn⟩
 ·refine MF (hw.symm.trans hw1) (λ_ σ' hl'=> ?_) λe=>by cases e
  exact zfk hX (liken _ _ hl1 hl') hop hq hy λe τ τ1 q1 q2 q3=>fin e τ τ1 q1 (λt ht=>by rw[←hl'.get t];exact q2 t (by rw[hl'.get t];exact ht)) q3
 ·refine MF (hw.symm.trans hw1) (λe=>by cases e) λ_ σ' hl'=> ?_
  exact fin _ σ' σ1' (liken _ _ hl1 hl') (λt _=>hl'.get t) hn
theorem Wx{all:List Oper}{K:St→Prop}(hK:OD K):∀(fuel:Nat) (listed:Array Bool),OD (MD P E A all K fuel listed)
 |0,_,σ,σ',hl,h=>⟨h.1,hK _ _ hl h.2⟩
 |fuel+1,listed,σ,σ',hl,h=>⟨λh0=>hK _ _ hl (h.1 h0),λi hi=>by
  have h1:=h.2 i hi;have ih:OD (MD P E A all K fuel (listed.setIfInBounds i true)):=Wx hK fuel _;unfold atD at h1⊢
  cases ho:all[i]? with
  |none=>rw[ho]at h1;exact h1.elim
  |some o=>
   rw[ho]at h1
   simp only at h1⊢
   unfold zah at h1⊢
   split at h1
   ·rename_i hq
    obtain⟨d,q1,q2⟩:=Kf hq ih h1;exact BP hq ih (q1.like hq hl) (ih _ _ (hl.putO _ _) q2)
   ·rename_i hq
    exact Ps (X:=none) (λs d e=>by cases e) (σ:=σ') hl.symm.symm (λs d e=>by cases e) (λs d e=>by cases e) hq h1 λτ τ1 q1 _ q3=>ih _ _ q1 q3⟩
theorem JR{all:List Oper}{oi oj:Oper}{τ:St}(hy:fx P E A all oi d σ)(h:∀t,(σ.get t).ref=none→oj.dst≠some t→τ.get t=σ.get t)(ha:∀i,oj.dst=some i→i∉oi.looksAt all.toArray):ol all oi τ=ol all oi σ:=by
 have hw:∃b,ol all oi σ=some b:=by rcases hy with⟨h,_⟩|⟨h,_⟩<;>exact⟨_,h⟩
 obtain⟨b,hw⟩:=hw;unfold ol at hw⊢
 split
 ·rfl
 ·rename_i j want e
  rw[e]at hw
  simp only at hw
  split
  ·rename_i s hs
   rw[hs]at hw
   simp only at hw
   have hr:(σ.get s).ref=none:=by
    cases hg:σ.get s<;>rw[hg]at hw<;>first|rfl|(simp at hw)
   rw[h s hr λe'=>ha s e' (by
    unfold D5 at hs
    split at hs
    ·rename_i o' ho'
     simp[Oper.looksAt,e,ho',hs]
    ·cases hs)]
  ·rfl
theorem GD{all:List Oper}{K:St→Prop}(hK:OD K){i:Nat}{oi:Oper}{d:D}(hi:all[i]? =some oi)(hqi:om E A oi=true):
  ∀(fuel:Nat) (listed:Array Bool) (σ:St),
   (∀j oj,all[j]? =some oj→j≠i→listed.getD j true=false→(∀e∈oj.after,Region.binds .any e=true→e.on≠i)→oi.apart all.toArray oj=true∧(om E A oj=true∨((∀x∈oi.op.operands,(σ.ev x).ref=none)∧d.ref=none)))→
   i∈Region.ready .any all.toArray listed→fx P E A all oi d σ→
   MD P E A all K fuel (listed.setIfInBounds i true) (σ.putO oi.dst d)→MD P E A all K (fuel+1) listed σ:=by
 intro fuel
 have self:∀(K:St→Prop) (σ:St),OD K→fx P E A all oi d σ→K (σ.putO oi.dst d)→atD all i λo=>zah P E A all o σ K:=λK σ hK hy h=>by
  unfold atD;rw[hi];simp only;unfold zah;rw[hqi];exact BP hqi hK hy h
 induction fuel with
 |zero=>
  intro listed σ _ hr hy H;refine⟨λh=>(by rw[h]at hr;cases hr),λj hj=> ?_⟩
  by_cases hji:j=i
  ·subst hji;exact self _ _ (Wx hK 0 _) hy H
  ·have:=ready_mono hj hji
   rw[H.1]at this
   cases this
 |succ fuel ih=>
  intro listed σ hfree hr hy H;refine⟨λh=>(by rw[h]at hr;cases hr),λj hj=> ?_⟩
  by_cases hji:j=i
  ·subst hji;exact self _ _ (Wx hK _ _) hy H
  ·have h1:=H.2 j (ready_mono hj hji)
   obtain⟨hjun,oj,hoj,hall⟩:=mem_ready.1 hj;have hoj':all[j]? =some oj:=by simpa using hoj
   have hnot:∀e∈oj.after,Region.binds .any e=true→e.on≠i:=λe he hb heq=>by
    have h1:=hall e he hb;have h0:=(mem_ready.1 hr).1;rw[heq]at h1
    rcases Nat.lt_or_ge i listed.size with h'|h'
    ·simp[h']at h0 h1;rw[h0]at h1;cases h1
    ·simp[Array.getElem?_eq_none h']at h1
   obtain⟨hap,hkind⟩:=hfree j oj hoj' hji hjun hnot;obtain⟨a1,a2,a3⟩:=Oper.apart_spec hap;have hcomm:(listed.setIfInBounds i true).setIfInBounds j true=(listed.setIfInBounds j true).setIfInBounds i true:=Array.setIfInBounds_comm _ _ (Ne.symm hji)
   have hstep:∀σ',fx P E A all oi d σ'→((∀x∈oi.op.operands,(σ.ev x).ref=none)→∀x∈oi.op.operands,σ'.ev x=σ.ev x)→
     MD P E A all K fuel ((listed.setIfInBounds j true).setIfInBounds i true) (σ'.putO oi.dst d)→MD P E A all K (fuel+1) (listed.setIfInBounds j true) σ':=λσ' hy' hpure h3=>by
    refine ih (listed.setIfInBounds j true) σ' (λk ok hk hki hun hno=> ?_) (ready_mono hr (Ne.symm hji)) hy' h3
    have:=hfree k ok hk hki (by
     by_cases hjk:j=k
     ·subst hjk;exact hjun
     ·rw[getD_set_ne true hjk]at hun;exact hun) hno
    exact⟨this.1,this.2.imp id λh=>⟨λx hx=>by rw[hpure h.1 x hx];exact h.1 x hx,h.2⟩⟩
   unfold atD at h1⊢
   rw[hoj']at h1⊢
   simp only at h1⊢
   rw[hcomm]at h1
   have hLk:=Wx hK fuel ((listed.setIfInBounds j true).setIfInBounds i true) (P:=P) (E:=E) (A:=A) (all:=all);have hLk':=Wx hK (fuel+1) (listed.setIfInBounds j true) (P:=P) (E:=E) (A:=A) (all:=all);unfold zah at h1⊢
   split at h1
   ·rename_i hqj
    obtain⟨e,q1,q2⟩:=Kf hqj hLk h1;have hp:=GC (σ:=σ) (d:=d) a1 trivial (o:=oj);have q1':fx P E A all oj e σ:=q1.same hqj ⟨λx hx=>(hp.1.1 x hx).symm,λx _ k _=>by cases oi.dst<;>rfl⟩ hp.2.symm
    refine BP hqj hLk' q1' ?_;have hp':=GC (σ:=σ) (d:=e) a3 trivial (o:=oi);refine hstep _ (hy.same hqi hp'.1 hp'.2) (λ_ x hx=>hp'.1.1 x hx) ?_
    exact hLk _ _ (Ca σ d e a2) q2
   ·rename_i hqj
    rcases hkind with hkind|⟨hpure,hdr⟩
    ·rw[hkind]at hqj;cases hqj
    ·cases hdst:oi.dst with
     |none=>
      rw[hdst]at h1
      refine Ps (X:=none) (λs d e=>by cases e) (σ:=σ) (σ1:=σ.putO none d) (.refl _) (λs d e=>by cases e) (λs d e=>by cases e) hqj h1 λτ τ1 p1 p2 p3=> ?_
      have hev:∀x∈oi.op.operands,τ.ev x=σ.ev x:=λx hx=>by
       cases x with
       |tmp t=>exact p2 t (hpure _ hx) λe=>a3 t e (List.mem_append_left _ (List.mem_filterMap.2 ⟨.tmp t,by simpa using hx,rfl⟩))
       |_=>rfl
      refine hstep τ (hy.same hqi ⟨hev,λx hx k hk=>by rw[hpure x hx]at hk;cases hk⟩ ?_) (λ_=>hev) ?_
      ·exact JR hy p2 a3
      ·rw[hdst];exact hLk _ _ p1 p3
     |some s=>
      rw[hdst]at h1
      refine Ps (X:=some (s,d)) (λs' d' e=>by injection e with e;injection e with e1 e2;subst e2;exact hdr) (σ:=σ) (σ1:=σ.put s d) (.refl _) (λs' d' e=>by injection e with e;injection e with e1 e2;subst e1;exact a1 s hdst)
       (λs' d' e=>by injection e with e;injection e with e1 e2;subst e1;exact a2 s hdst) hqj h1 λτ τ1 p1 p2 p3=> ?_
      have hev:∀x∈oi.op.operands,τ.ev x=σ.ev x:=λx hx=>by
       cases x with
       |tmp t=>exact p2 t (hpure _ hx) λe=>a3 t e (List.mem_append_left _ (List.mem_filterMap.2 ⟨.tmp t,by simpa using hx,rfl⟩))
       |_=>rfl
      refine hstep τ (hy.same hqi ⟨hev,λx hx k hk=>by rw[hpure x hx]at hk;cases hk⟩ ?_) (λ_=>hev) ?_
      ·exact JR hy p2 a3
      ·rw[hdst];exact hLk _ _ p1 p3
theorem TS{f:Nat→Bool}:∀ {l:List Nat} {i:Nat},D6 f l=some i→i∈l∧f i=true
 |[],i,h=>by cases h
 |j::r,i,h=>by
  unfold D6 at h
  cases hf:f j with
  |true=>rw[hf,cond_true]at h;injection h with h;subst h;exact⟨List.mem_cons_self,hf⟩
  |false=>rw[hf,cond_false]at h;have:=TS h;exact⟨List.mem_cons_of_mem _ this.1,this.2⟩
theorem Kg{f:Nat→Prop}:∀ {l:List Nat},zi3 f l→∀i∈l,f i
 |[],_,i,hi=>by cases hi
 |[j],h,i,hi=>by rcases List.mem_cons.1 hi with rfl|hi;exact h;cases hi
 |j::k::r,h,i,hi=>by
  rcases List.mem_cons.1 hi with rfl|hi
  ·exact h.1
  ·exact Kg h.2 i hi
theorem Zs{all:List Oper}{listed:Array Bool}{i:Nat}{oi:Oper}{f:Oper→Bool}:∀ {l:List Oper} {k:Nat},Ww all listed i oi f k l=true→
  ∀j oj,l[j]? =some oj→k+j≠i→listed.getD (k+j) true=false→(∀e∈oj.after,Region.binds .any e=true→e.on≠i)→oi.apart all.toArray oj=true∧f oj=true
 |[],k,h,j,oj,hj,_,_,_=>by simp at hj
 |o::r,k,h,j,oj,hj,h1,h2,h3=>by
  simp only[Ww,Bool.and_eq_true,Bool.or_eq_true]at h
  cases j with
  |zero=>
   simp at hj;subst hj
   rcases h.1 with((h0|h0)|h0)|h0
   ·exact absurd (yY.1 h0) h1
   ·rw[Nat.add_zero]at h2;rw[h2]at h0;cases h0
   ·exfalso
    obtain⟨e,he,hb⟩:=List.any_eq_true.1 h0;simp only[Bool.and_eq_true]at hb
    exact h3 e (by simpa using he) hb.1 (yY.1 hb.2)
   ·exact h0
  |succ j=>
   exact Zs h.2 j oj (by simpa using hj) (by omega) (by rw[show k+1+j=k+(j+1) by omega];exact h2) h3
theorem JS{all:List Oper}{yes no yes' no':St→Prop}(h:Zq all o σ yes no)(hy:∀σ,yes σ→yes' σ)(hn:∀σ,no σ→no' σ):Zq all o σ yes' no':=by
 unfold Zq at h⊢
 split at h
 ·exact hy _ h
 ·rename_i j want _
  split at h
  ·split at h
   ·rename_i b _
    cases b<;>cases want
    ·exact hy _ h
    ·exact hn _ h
    ·exact hn _ h
    ·exact hy _ h
   ·exact hn _ h
   ·exact h.elim
  ·exact h.elim
theorem zg7{all:List Oper}{K K':St→Prop}(hKK:∀σ,K σ→K' σ)(hK:OD K'):∀(fuel:Nat) (listed:Array Bool) (σ:St),Gu P E A all K fuel listed σ→MD P E A all K' fuel listed σ
 |0,listed,σ,h=>by
  unfold Gu at h
  unfold MD;split at h
  ·rename_i hr;exact⟨hr,hKK _ h⟩
  ·exact h.elim
 |fuel+1,listed,σ,h=>by
  have ih:∀l σ,Gu P E A all K fuel l σ→MD P E A all K' fuel l σ:=λl σ=>zg7 hKK hK fuel l σ
  have ihK:∀l,OD (MD P E A all K' fuel l):=λl=>Wx hK fuel l
  unfold Gu at h
  split at h
  ·rename_i hr
   exact⟨λ_=>hKK _ h,λi hi=>by rw[hr]at hi;cases hi⟩
  ·rename_i hnil
   split at h
   ·rename_i i hf
    obtain⟨him,hc⟩:=TS hf;unfold atD at h
    unfold zgY at hc
    cases ho:all[i]? with
    |none=>rw[ho]at h;exact h.elim
    |some oi=>
     rw[ho]at h hc
     simp only[Bool.and_eq_true]at h hc
     obtain⟨hq,hg⟩:=hc
     have h':zfi P E A all oi σ (MD P E A all K' fuel (listed.setIfInBounds i true)):=JS h (λσ h=>by
      obtain⟨d,q1,q2⟩:=fL hq (Yr (.refl σ)) h;exact q2 _ (ih _ _ q1)) λσ h=>ih _ _ h
     obtain⟨d,q1,q2⟩:=Kf hq (ihK _) h';refine GD hK ho hq fuel listed σ (λj oj hj hne hun hno=> ?_) him q1 q2
     have:=Zs hg j oj hj (by omega) (by rw[Nat.zero_add];exact hun) hno
     exact⟨this.1,.inl this.2⟩
   ·split at h
    ·rename_i i hf
     obtain⟨him,hc⟩:=TS hf;unfold atD at h
     unfold zgZ at hc
     cases ho:all[i]? with
     |none=>rw[ho]at h;exact h.elim
     |some oi=>
      rw[ho]at h hc
      simp only[Bool.and_eq_true]at h hc
      obtain⟨⟨hq,hp⟩,hg⟩:=hc;have hpure:∀x∈oi.op.operands,(σ.ev x).ref=none:=λx hx=>mV.1 (List.all_eq_true.1 hp x (by simpa using hx))
      have h':∃d,fx P E A all oi d σ∧d.ref=none∧MD P E A all K' fuel (listed.setIfInBounds i true) (σ.putO oi.dst d):=by
       rcases zcz h with⟨hw,σ',hl,hy⟩|⟨hw,σ',hl,hn⟩
       ·obtain⟨d,q1,q2⟩:=fL (σ':=σ) hq (Yr hl.symm) hy
        cases hd:cJ d with
        |false=>rw[hd]at q1;exact q1.elim
        |true=>
         rw[hd,cond_true]at q1
         exact⟨d,.inl ⟨hw,q2⟩,mV.1 hd,ihK _ _ _ (hl.symm.putO _ _) (ih _ _ q1)⟩
       ·exact⟨.tup [],.inr ⟨hw,rfl⟩,rfl,ihK _ _ _ (hl.symm.putO _ _) (ih _ _ hn)⟩
      obtain⟨d,q1,q2,q3⟩:=h';refine GD hK ho hq fuel listed σ (λj oj hj hne hun hno=> ?_) him q1 q3
      have:=Zs hg j oj hj (by omega) (by rw[Nat.zero_add];exact hun) hno
      exact⟨this.1,.inr ⟨hpure,q2⟩⟩
    ·refine⟨λh0=>(hnil h0).elim,λi hi=> ?_⟩
     have h1:=Kg h i hi;unfold atD at h1⊢
     cases ho:all[i]? with
     |none=>rw[ho]at h1;exact h1.elim
     |some o=>
      rw[ho]at h1
      simp only at h1⊢
      unfold zah at h1⊢
      split at h1
      ·rename_i hq
       exact JS h1 (λσ h=>by
        obtain⟨d,q1,q2⟩:=fL hq (Yr (.refl σ)) h;exact q2 _ (ih _ _ q1)) λσ h=>ih _ _ h
      ·rename_i hq
       exact Ps (X:=none) (λs d e=>by cases e) (σ:=σ) (.refl σ) (λs d e=>by cases e) (λs d e=>by cases e) hq h1 λτ τ1 q1 _ q3=>ihK _ _ _ q1 (ih _ _ q3)
end
section
variable {P:Program}{E:TE}{A:wA}{b0:Vy}{w w':World}{S S':Nat→Prop}{pl pl':Nat→Value}{N:Nat}{σ σ':St}{a:Act}{v:Value}{d:D}{o:Oper}
theorem aR(k:Nat):∀(l:List Nat) {o:yD},zZ k (Gv σ l)=some o→zZ k σ.hp=some o
 |[],o,h=>by cases h
 |j::r,o,h=>by
  unfold Gv at h
  cases ho:σ.ob j with
  |none=>rw[ho]at h;exact aR k r h
  |some o'=>
   rw[ho]at h
   simp only[xX]at h
   split at h
   ·rename_i e;subst e;injection h with h;subst h;exact ho
   ·exact aR k r h
theorem Cb(i:Nat):∀(l:List Nat),zZ i (l.map λj=>(j,σ.get j))=some (σ.get i)∨zZ i (l.map λj=>(j,σ.get j))=none
 |[]=> .inr rfl
 |j::r=>by
  rw[List.map_cons,xX];split
  ·rename_i e;subst e;exact .inl rfl
  ·exact Cb i r
theorem rL.keep(m:rL P b0 N σ a w S pl)(L:List Nat×List Nat):rL P b0 N (σ.keep L) a w S pl where
 dz:=m.dz
 sz:=m.sz
 fr:=λi=>by
  unfold St.get St.keep;rcases Cb (σ:=σ) i L.1 with h|h
  ·rw[h];exact m.fr i
  ·rw[h];exact nW
 hp:=λk o h=>m.hp k o (aR k _ h)
 lt:=m.lt
 src:=m.src
 priv:=λk o b h=>m.priv k o b (aR k _ h)
 inj:=λk k' o o' b h1 h2=>m.inj k k' o o' b (aR k _ h1) (aR k' _ h2)
 below:=m.below
 stay:=m.stay
 gok:=m.gok
theorem zcA(m:rL P b0 N σ a w S pl)(k off:Nat):∃S',rL P b0 N (BM σ k off) a w S' pl:=by
 unfold BM;cases Nat.beq off 999999 with
 |false=>obtain⟨S',_,m'⟩:=JO m k off;exact⟨S',m'⟩
 |true=>
  rw[cond_true];split
  ·rename_i o ho
   cases hf:o.flatB with
   |false=>exact⟨S,m⟩
   |true=>
    have hfl:o.flat:=by
     cases o with
     |cells cs=>exact λd hd=>mV.1 (List.all_eq_true.1 hf d hd)
     |row _ _ _=>trivial
     |mp _ _ _=>trivial
     |val cs=>exact λd hd=>mV.1 (List.all_eq_true.1 hf d hd)
    exact⟨_,m.pub ho hfl⟩
  ·exact⟨S,m⟩
theorem zel{L:List Nat×List Nat}{K:St→Prop}(h:headD A L σ K)(m:Mt P b0 N σ a w):∃σ',K σ'∧Mt P b0 N σ' a w:=by
 obtain⟨S,pl,m⟩:=m;unfold headD at h
 simp only at h
 have hp:∀(l:List (Nat×Nat)) (σ:St) (S:Nat→Prop),rL P b0 N σ a w S pl→∃S',rL P b0 N (Gw l σ) a w S' pl:=by
  intro l
  induction l with
  |nil=>exact λσ S m=>⟨S,m⟩
  |cons x r ih=>exact λσ S m=>let⟨S1,m1⟩:=zcA m x.1 x.2;ih _ _ m1
 have hn:∀(l:List (Nat×(Nat×(TypeId×Ty)))) (σ:St) (S:Nat→Prop) (pl:Nat→Value),rL P b0 N σ a w S pl→∃pl',rL P b0 N (Gx l σ) a w S pl':=by
  intro l
  induction l with
  |nil=>exact λσ S pl m=>⟨pl,m⟩
  |cons x r ih=>exact λσ S pl m=>let⟨pl1,m1,_⟩:=D0 m x.1 x.2.1 x.2.2.1 x.2.2.2;ih _ _ _ m1
 obtain⟨S1,m1⟩:=hp A.pubs σ S m;obtain⟨pl1,m2⟩:=hn A.nils _ _ _ m1;obtain⟨σ',ds',S',hK,_,m',_⟩:=pH h m2;exact⟨_,hK,S',pl1,m'.keep L⟩
theorem BQ(F:tT P E){all:List Oper}{K:Ex→St→Prop}(hd:RQ A.n all=true)(fuel:Nat)(listed:Array Bool)(σ:St)(a:Act)(w:World)(h:Gu P E A all (K .normal) fuel listed σ)(m:Mt P b0 A.n σ a w):wpAny P .any all.toArray (QK P b0 A.n K) fuel listed a w:=by
 have hK:OD λσ'=>∃σ'',tW σ' σ''∧K .normal σ'':=λσ1 σ2 hl ⟨σ'',h1,h2⟩=>⟨σ'',hl.symm.trans h1,h2⟩
 have h':=zg7 (K':=λσ'=>∃σ'',tW σ' σ''∧K .normal σ'') (λσ hk=>⟨σ,.refl _,hk⟩) hK _ _ _ h
 exact ME (b0:=b0) (Q:=QK P b0 A.n K) F hd (λσ1 a1 w1 ⟨σ'',hl,hk⟩ m1=>(.inl ⟨.normal,σ'',rfl,hk,m1.like hl⟩)) _ _ σ _ _ h' m
theorem HW(F:tT P E){all:List Oper}{K:Ex→St→Prop}{σ0:St}(hd:RQ A.n all=true):∀(fuel:Nat) (listed:Array Bool) (σ:St) (a:Act) (w:World),zct P E A all (K .normal) (λu=>K (.thr u) σ0) fuel listed σ→Mt P b0 A.n σ a w→wpAny P .any all.toArray (QK P b0 A.n K) fuel listed a w
 |0,listed,σ,a,w,h,m=>BQ F hd 0 listed σ a w h m
 |fuel+1,listed,σ,a,w,h,m=>by
  unfold zct at h
  split at h
  ·exact BQ F hd _ listed σ a w h m
  ·split at h
   ·rename_i i hf
    obtain⟨him,hc⟩:=TS hf;unfold atD at h
    unfold zg0 at hc
    cases ho:all[i]? with
    |none=>rw[ho]at h;exact h.elim
    |some oi=>
     rw[ho]at h hc
     simp only[Bool.and_eq_true]at h hc
     obtain⟨⟨⟨hq,hgd⟩,hg⟩,hsel⟩:=hc;have hdst:∀i,oi.dst=some i→i<A.n:=WN hd oi (List.mem_of_getElem? ho)
     have hwant:Region.wanted oi (yielded all.toArray a.tmps)=true:=by
      unfold Region.wanted;rw[Option.isNone_iff_eq_none.1 hgd]
     have fin:∀(u:Value) (d:D),(∀w,(execOp a.eval oi).run P w=.ok (.value u) w)→(∀S pl,rL P b0 A.n σ a w S pl→Rd w S pl u d)→zct P E A all (K .normal) (λu=>K (.thr u) σ0) fuel (listed.setIfInBounds i true) (σ.putO oi.dst d)→wpAny P .any all.toArray (QK P b0 A.n K) (fuel+1) listed a w:=λu d hrun hrd h=>by
      obtain⟨S,pl,m⟩:=m;refine wpAny_first (by simpa using ho) (λj o cs b hj hs=> ?_) (λc a w hq=>by rcases hq with⟨x,σ,e,_⟩|⟨u,σ,e,h1,h2,h3⟩<;>first|cases e;done|exact .inr ⟨u,σ,e,h1,by rw[←h2];cases oi.dst<;>rfl,h3⟩) fuel listed a w (λj oj hj hne hun hno=> ?_) him (.inl ⟨hwant,hrun⟩) ?_
      ·have:=List.all_eq_true.1 hsel o (List.mem_of_getElem? (by simpa using hj))
       rw[hs]at this;cases this
      ·exact(Zs hg j oj (by simpa using hj) (by omega) (by rw[Nat.zero_add];exact hun) hno).1
      ·exact HW F hd fuel _ _ _ _ h ⟨S,pl,m.putO hdst (hrd S pl m)⟩
     have pt:∀t k off,σ.get t=.ptr k off→∃b,a.eval (.tmp t)=.pointer (some ⟨b,off,none⟩)∧∀S pl,rL P b0 A.n σ a w S pl→pl k=.pointer (some ⟨b,0,none⟩):=λt k off hget=>by
      obtain⟨S,pl,m⟩:=m;have hx:=m.fr t;rw[hget]at hx
      obtain⟨b,hp,hv⟩:=hx;refine⟨b,hv,λS' pl' m'=> ?_⟩
      have hx':=m'.fr t;rw[hget]at hx'
      obtain⟨b',hp',hv'⟩:=hx';rw[hv]at hv'
      injection hv' with e;injection e with e;injection e with e
      rw[hp',e]
     split at hq
     ·rename_i T t f hop
      split at hq
      ·rename_i k off hget
       obtain⟨b,hev,hpl⟩:=pt t k off hget;unfold Bu at h
       rw[hop]at h
       simp only at h
       unfold Ge at h
       split at h
       ·rename_i δ hfo
        rw[show σ.ev (.tmp t)=σ.get t from rfl,hget]at h
        simp only at h
        exact fin (.pointer (some ⟨b,off+δ,none⟩)) (.ptr k (off+δ)) (λw=>by
         unfold execOp;rw[hop];simp only[hev,Sem.run_bind,JK F hfo,Result.andThen_ok,Sem.run_pure]) (λS pl m=>⟨b,hpl S pl m,rfl⟩) h
       ·exact h.elim
      ·cases hq
     ·rename_i t hop
      split at hq
      ·rename_i k off hget
       obtain⟨b,hev,hpl⟩:=pt t k off hget;unfold Bu at h
       rw[hop]at h
       simp only at h
       rw[show σ.ev (.tmp t)=σ.get t from rfl,hget]at h
       exact fin (.pointer (some ⟨b,off,none⟩)) (.ptr k off) (λw=>by
        unfold execOp;rw[hop];simp only[hev,Sem.run_pure]) (λS pl m=>⟨b,hpl S pl m,rfl⟩) h
      ·cases hq
     ·rename_i t hop
      split at hq
      ·rename_i k off hget
       obtain⟨b,hev,hpl⟩:=pt t k off hget;unfold Bu at h
       rw[hop]at h
       simp only at h
       rw[show σ.ev (.tmp t)=σ.get t from rfl,hget]at h
       exact fin (.pointer (some ⟨b,off,none⟩)) (.ptr k off) (λw=>by
        unfold execOp;rw[hop];simp only[hev,Sem.run_pure,Sem.run_bind,Result.andThen_ok]) (λS pl m=>⟨b,hpl S pl m,rfl⟩) h
      ·cases hq
     ·cases hq
   ·split at h
    ·exact BQ F hd _ listed σ a w h m
    ·split at h
     ·rename_i hr
      exact⟨λ_=> .inl ⟨.normal,σ,rfl,h,m⟩,λi hi=>by rw[hr]at hi;cases hi⟩
     ·rename_i hnil
      refine⟨λh0=>(hnil h0).elim,λi hi=> ?_⟩
      have h1:=Kg h i hi;unfold atD at h1
      unfold wpOp;simp only[List.getElem?_toArray];cases ho:all[i]? with
      |none=>rw[ho]at h1;exact h1.elim
      |some o=>
       rw[ho]at h1
       simp only at h1⊢
       have hdst:∀i,o.dst=some i→i<A.n:=WN hd o (List.mem_of_getElem? ho);rcases X4 h1 σ (.refl σ) m with⟨hw,σ',hl,hy⟩|⟨hw,σ',hl,hn⟩
       ·rw[if_pos hw]
        left;obtain⟨S,pl,m'⟩:=m.like hl;exact zgX F m' hy (λd' τ v w' S' pl' hk hm hv=>HW F hd fuel _ _ _ _ hk ⟨S',pl',hm.putO hdst hv⟩) λu w' ht hb=> .inr ⟨u,σ0,rfl,ht,m'.dz,hb⟩
       ·rw[if_neg (by rw[hw];simp)]
        obtain⟨S,pl,m'⟩:=m.like hl;exact HW F hd fuel _ _ _ _ hn ⟨S,pl,m'.putO hdst HU⟩
theorem zfl(F:tT P E){id:Nat}{ops:Array Oper}{draw:Bool}{c:Nat}{K:Ex→St→Prop}(h:den P E A (.region id ops draw) c σ K)(m:Mt P b0 A.n σ a w):(Code.region id ops draw).wp P (QK P b0 A.n K) a w:=by
 unfold den at h
 cases hd:RQ A.n ops.toList with
 |false=>rw[hd]at h;exact h.elim
 |true=>
  rw[hd]at h
  cases draw with
  |false=>
   refine wp_region ?_;have hl:=wpOps_eq_wpList (P:=P) (ops:=ops) (Q:=QK P b0 A.n K) ops.toList 0 (λj=>by simp)
   rw[show List.range ops.size=List.range' 0 ops.toList.length by simp[List.range_eq_range'],hl]
   exact zcy F (λσ a w hk m=> .inl ⟨.normal,σ,rfl,hk,m⟩) (λe a w h=> .inr h) ops.toList σ a w hd h m
  |true=>
   simp only at h
   refine wp_region_any F.mixed ?_
   have m':Mt P b0 A.n σ a {w with drawn:=w.drawn+1}:=by
    obtain⟨S,pl,m⟩:=m;exact⟨S,pl,m.later (w':=w.drew) ⟨rfl,rfl,rfl,Nat.le_refl _,λ_ _=>rfl⟩⟩
   have:=HW F hd _ _ σ _ _ h m';simpa using this
theorem zcB(F:tT P E):∀(c:Code) (cur:Nat) (σ:St) (K:Ex→St→Prop) (a:Act) (w:World),den P E A c cur σ K→Mt P b0 A.n σ a w→c.wp P (QK P b0 A.n K) a w:=by
 intro c
 induction c with
 |skip=>intro cur σ K a w h m;exact wp_skip (.inl ⟨.normal,σ,rfl,h,m⟩)
 |region id ops draw=>intro cur σ K a w h m;exact zfl F h m
 |seq x y ihx ihy=>
  intro cur σ K a w h m;unfold den at h
  refine wp_seq (wp_mono (ihx cur σ _ a w h m) λe a w h=> ?_)
  rcases h with⟨x,σ',he,hk,m'⟩|⟨u,σ',rfl,hk,dz,hb⟩
  case inr=>exact .inr ⟨u,σ',rfl,hk,dz,hb⟩
  cases e<;>simp only[zai,Option.some.injEq,reduceCtorEq]at he<;>subst he
  ·exact ihy cur σ' K a w hk m'
  ·exact .inl ⟨_,σ',rfl,hk,m'⟩
  ·exact .inl ⟨_,σ',rfl,hk,m'⟩
 |cond x y z ihy ihz=>
  intro cur σ K a w h m;unfold den at h
  split at h
  ·rename_i t hx
   have m0:=m;obtain⟨S,pl,m⟩:=m;have hv:a.eval x=.bool t:=by have:=sF m x;rw[hx]at this;exact(this.flat (d:=.bool t) rfl).bool_inv
   have hlk:tW σ (σ.know x t):=by
    cases x with
    |tmp s=>exact MA hx
    |_=>exact .refl σ
   cases t
   ·exact wp_cond_false hv (ihz cur _ K a w h (m0.like hlk))
   ·exact wp_cond_true hv (ihy cur _ K a w h (m0.like hlk))
  ·exact h.elim
 |block id body ih=>
  intro cur σ K a w h m;unfold den at h
  refine wp_block (wp_mono (ih id σ _ a w h m) λe a w h=> ?_)
  rcases h with⟨x,σ',he,hk,m'⟩|⟨u,σ',rfl,hk,dz,hb⟩
  case inr=>exact .inr ⟨u,σ',rfl,hk,dz,hb⟩
  cases e<;>simp only[zai,Option.some.injEq,reduceCtorEq]at he<;>subst he
  ·exact .inl ⟨_,σ',rfl,hk,m'⟩
  ·rename_i j
   simp only at hk
   unfold Exit.inBlock
   by_cases hj:j=id
   ·rw[yY.2 hj,cond_true]at hk
    simp only[hj,if_true];exact .inl ⟨_,σ',rfl,hk,m'⟩
   ·rw[aB hj,cond_false]at hk
    simp only[hj,if_false];exact .inl ⟨_,σ',rfl,hk,m'⟩
  ·exact .inl ⟨_,σ',rfl,hk,m'⟩
 |loop body ih=>
  intro cur σ K a w h m;unfold den at h
  obtain⟨σ',⟨n,hn⟩,m'⟩:=zel h m;refine wp_loop_rounds n ?_;clear h m
  induction n generalizing σ' a w with
  |zero=>exact hn.elim
  |succ n ihn=>
   rw[rounds_succ];unfold zg2 at hn
   refine wp_mono (ih cur σ' _ a w hn m') λe a w h=> ?_
   rcases h with⟨x,σ'',he,hk,m''⟩|⟨u,σ'',rfl,hk,dz,hb⟩
   case inr=>exact .inr ⟨u,σ'',rfl,hk,dz,hb⟩
   cases e<;>simp only[zai,Option.some.injEq,reduceCtorEq]at he<;>subst he
   ·obtain⟨σ3,hk,m3⟩:=zel hk m''
    exact ihn a w σ3 m3 hk
   ·exact .inl ⟨_,σ'',rfl,hk,m''⟩
   ·exact .inl ⟨_,σ'',rfl,hk,m''⟩
 |exit id=>intro cur σ K a w h m;exact wp_exit (.inl ⟨.exit id,σ,rfl,h,m⟩)
 |ret=>intro cur σ K a w h m;exact wp_ret (.inl ⟨.ret,σ,rfl,h,m⟩)
 |_=>intro cur σ K a w h m;exact h.elim
def zlj(P:Program)(E:TE)(A:wA)(b:Code)(c:Nat)(K:Ex→St→Prop):Ex→St→Prop:=λe σ=>match e with
 | .normal=>den P E A b c σ K
 | .exit id=>K (.exit id) σ
 | .ret=>K .ret σ
 | .thr u=>K (.thr u) σ
def zQ(id:Nat)(K:Ex→St→Prop):Ex→St→Prop:=λe σ=>match e with
 | .normal=>K .normal σ
 | .exit j=>bif Nat.beq j id then K .normal σ else K (.exit j) σ
 | .ret=>K .ret σ
 | .thr u=>K (.thr u) σ
def zkM(body:St→(Ex→St→Prop)→Prop)(A:wA)(L:List Nat×List Nat)(n:Nat)(K:Ex→St→Prop):Ex→St→Prop:=λe σ=>match e with
 | .normal=>headD A L σ λσ=>zg2 body A L n σ K
 | .exit id=>K (.exit id) σ
 | .ret=>K .ret σ
 | .thr u=>K (.thr u) σ
def sub:List Nat→Code→Code
 |[],c=>c
 |0::p,.seq a _=>sub p a
 |_::p,.seq _ b=>sub p b
 |0::p,.cond _ a _=>sub p a
 |_::p,.cond _ _ b=>sub p b
 |_::p,.block _ b=>sub p b
 |_::p,.loop b=>sub p b
 |_,_=> .skip
def MG:Nat→List D→List (Nat×D)
 |_,[]=>[]
 |i,d::ds=>(i,d)::MG (i+1) ds
def St.init(args:List D):St:=⟨MG 0 args,[]⟩
def RS(E:TE)(σ:St):List ResultVar→List D
 |[]=>[]
 | .tmp t::rs=>σ.get t::RS E σ rs
 | .cell t T::rs=>(match zZ T E.zs,aQ σ (σ.get t)with
  |some (_,zs),some cs=>cs.take zs.length
  |_,_=>[])++RS E σ rs
def zkf(E:TE)(σ:St):ResultVar→Option D
 | .tmp t=>bif cJ (σ.get t)then some (σ.get t)else none
 | .cell t T=>match zZ T E.zs,aQ σ (σ.get t)with
  |some (true,zs),some cs=>bif Nat.ble zs.length cs.length&&(cs.take zs.length).all cJ then some (.agg (cs.take zs.length))else none
  |some (false,_),some (d::_)=>bif cJ d then some d else none
  |_,_=>none
def Cc(E:TE)(σ:St):List ResultVar→Option (List D)
 |[]=>some []
 |r::rs=>match zkf E σ r,Cc E σ rs with
  |some d,some ds=>some (d::ds)
  |_,_=>none
def zkg:List D→D
 |[d]=>d
 |ds=> .tup ds
def zkN(E:TE)(rs:List ResultVar)(R:D→Prop)(e:Ex)(σ:St):Prop:=match e with
 | .exit _=>False
 | .thr _=>False
 |_=>rC 12 σ (RS E σ rs) λ_ σ=>match Cc E σ rs with
  |some ds=>R (zkg ds)
  |none=>False
def fnD(P:Program)(E:TE)(A:wA)(rs:List ResultVar)(body:Code)(args:List D)(R:D→Prop):Prop:=den P E A body 0 (St.init args) (zkN E rs R)
theorem GE(j:Nat):∀(ds:List D) (i:Nat),zZ j (MG i ds)=if i≤j then ds[j-i]? else none
 |[],i=>by simp[MG,zZ]
 |d::ds,i=>by
  unfold MG;rw[xX,GE j ds (i+1)]
  by_cases h1:i=j
  ·subst h1;simp
  ·rw[if_neg h1]
   by_cases h2:i≤j
   ·rw[if_pos (by omega),if_pos h2,show j-i=(j-(i+1))+1 by omega,List.getElem?_cons_succ]
   ·rw[if_neg (by omega),if_neg h2]
theorem zao(args:List D)(i:Nat):(St.init args).get i=D.or args[i]? :=by
 unfold St.get St.init;rw[GE];simp
def TT(a:Act):ResultVar→Sem Value
 | .tmp t=>pure (a.tmps.getD t undef)
 | .cell x t=>do loadVar t (←asAddr (a.tmps.getD x undef))
theorem BR(F:tT P E)(m:rL P b0 N σ a w S pl):∀(rs:List ResultVar) (ds:List D),Cc E σ rs=some ds→∃vs:List Value,(rs.mapM (TT a)).run P w=.ok vs w∧xP (Rp w S) vs ds
 |[],ds,h=>by injection h with h;subst h;exact⟨[],by simp,.nil⟩
 |r::rs,ds,h=>by
  unfold Cc at h
  split at h
  ·rename_i d ds' h1 h2
   injection h with h;subst h
   obtain⟨vs,q1,q2⟩:=BR F m rs ds' h2
   have one:∃u,(TT a r).run P w=.ok u w∧Rp w S u d:=by
    cases r with
    |tmp t=>
     unfold zkf at h1
     simp only at h1
     cases hn:cJ (σ.get t)with
     |false=>rw[hn]at h1;cases h1
     |true=>rw[hn]at h1;injection h1 with h1;subst h1;exact⟨_,by simp[TT],(m.fr t).flat (mV.1 hn)⟩
    |cell x T=>
     unfold zkf at h1
     simp only at h1
     split at h1
     ·rename_i zs cs hz hc
      cases hb:Nat.ble zs.length cs.length&&(cs.take zs.length).all cJ with
      |false=>rw[hb]at h1;cases h1
      |true=>
       rw[hb]at h1;injection h1 with h1;subst h1
       simp only[Bool.and_eq_true]at hb
       obtain⟨i,z,u,hi,hz',hsz,hu,hag,hzb⟩:=(F.zs T true zs hz).ex;obtain⟨b,off,hv,hcell⟩:=Nd m (m.fr x) hc
       obtain⟨vs,e1,e2⟩:=Bx (Rd w S pl) b (cs.take zs.length) off λj d hd=>hcell j d (by
        rw[List.getElem?_take]at hd;split at hd
        ·exact hd
        ·cases hd)
       have hlen:vs.length=zs.length:=by rw[e1.len,List.length_take];have:=Nat.le_of_ble_eq_true hb.1;omega
       have hload:(loadCells ⟨b,off,none⟩ zs.length).run P w=.ok vs.toArray w:=by
        rw[←hlen];refine run_loadCells_list (P:=P) w ⟨b,off,none⟩ vs λj u hu=> ?_
        have:=e2 j u hu;unfold Addr.add;split
        ·rename_i e;subst e;simpa using this
        ·exact this
       have hs:(sizeOf T).run P w=.ok zs.length w:=by simp[sizeOf,typeInfo,hi,hsz]
       have hr:=e1.flat λd hd=>mV.1 (List.all_eq_true.1 hb.2 d hd)
       refine⟨.agg vs.toArray,?_,.agg _ _ (by simpa using hr.len) λj d hd=>XQ (vs:=vs.toArray) (by simpa using hr) j d hd⟩
       simp only[TT,hv,asAddr,loadVar,Sem.run_bind,Sem.run_pure,Result.andThen_ok,UN hu,hag,if_true,hs,hload]
     ·rename_i zs d' r' hz hc
      cases hn:cJ d' with
      |false=>rw[hn]at h1;cases h1
      |true=>
       rw[hn]at h1;injection h1 with h1;subst h1
       obtain⟨b,off,hv,hcell⟩:=Nd m (m.fr x) hc;obtain⟨u,hu,hr⟩:=hcell 0 d' rfl;obtain⟨i,z,ud,hi,hz',hsz,hud,hag,hzb⟩:=(F.zs T false zs hz).ex;refine⟨u,?_,hr.flat (mV.1 hn)⟩
       have hld:(load ⟨b,off,none⟩).run P w=.ok u w:=by
        have:w.cell? ⟨b,off,none⟩=some u:=hu;simp only[load,Sem.run,this]
       simp only[TT,hv,asAddr,loadVar,Sem.run_bind,Sem.run_pure,Result.andThen_ok,UN hud,hag,Bool.false_eq_true,if_false,hld]
     ·cases h1
   obtain⟨u,e1,e2⟩:=one;exact⟨u::vs,by rw[List.mapM_cons];simp only[Sem.run_bind,e1,Result.andThen_ok,q1,Sem.run_pure],.cons e2 q2⟩
  ·cases h
def okL{α:Type}(bytes:Nat)(p:α→Prop)(xs:List α):Prop:=xs.length*bytes≤140737488355328∧∀x∈xs,p x
def okS(s:ByteArray):Prop:=s.size≤140737488355328
def zem(x:zC):Prop:=yJ x.var∧yJ x.op∧yJ x.n
def zg8(x:zN):Prop:=okS x.name∧yJ x.lo∧yJ x.hi
def zg9(x:zE):Prop:=yJ x.kind∧yJ x.n∧okL 8 yJ x.vars∧okL 8 yJ x.consts∧okL 24 (okL 8 yJ) x.rows∧okL 24 zem x.lits
def zjQ(x:zG):Prop:=yJ x.goal∧yJ x.var∧okL 32 zg8 x.vars∧okL 112 zg9 x.cons
def zcC(x:zU):Prop:=yJ x.kind∧yJ x.con∧okL 24 zem x.clause
def okT:(t:Ty)→t.den→Prop
 | .int,n=>yJ n
 | .bool,_=>True
 | .str,s=>okS s
 | .tok,x=>yJ x.kind∧yJ x.at_∧okS x.text
 | .lit,x=>zem x
 | .var,x=>zg8 x
 | .con,x=>zg9 x
 | .mdl,x=>zjQ x
 | .step,x=>zcC x
 | .term,x=>yJ x.v∧yJ x.times
 | .ans,x=>yJ x.verdict∧okL 8 yJ x.values∧okL 40 zcC x.proof
 | .list t,xs=>okL t.bytes (okT t) xs
 | .pr a b,x=>okT a x.1∧okT b x.2
 | .byte,_=>True
theorem zcD{α:Type}[vS α]{v:Value}{xs:List α}{p:α→Prop}(h:Yd w S v xs)(hp:∀cs x,vS.rd w S cs x→p x):okL (vS.bytes α) p xs:=by
 obtain⟨A,c,rfl,h1⟩:=sO h;refine⟨h1.bytes,λx hx=> ?_⟩
 obtain⟨i,hi,rfl⟩:=List.getElem_of_mem hx;obtain⟨b,o,cs,_,_,hr,_⟩:=O2 h hi;exact hp _ _ hr
theorem TU{α:Type}[vS α]{v:Value}{xs:List α}{p:α→Prop}(h:OA w S [v] xs)(hp:∀cs x,vS.rd w S cs x→p x):okL (vS.bytes α) p xs:=by
 obtain⟨A,c,rfl,_,h⟩:=AZ h;exact zcD h hp
theorem GF{cs:List Value}{x:Int}(h:vS.rd w S cs x):yJ x:=h.2
theorem zcE{cs:List Value}{x:zC}(h:vS.rd w S cs x):zem x:=h.2
theorem zhb{cs:List Value}{x:zN}(h:vS.rd w S cs x):zg8 x:=h.2
theorem zi6{cs:List Value}{x:List Int}(h:vS.rd w S cs x):okL 8 yJ x:=by
 obtain⟨A,c,rfl,h⟩:=h;exact zcD (α:=Int) ⟨_,rfl,A,c,rfl,h⟩ λ_ _=>GF
theorem zhc{cs:List Value}{x:zE}(h:vS.rd w S cs x):zg9 x:=by
 obtain⟨v1,v2,v3,v4,rfl,a,b,h1,h2,h3,h4⟩:=h;exact⟨a,b,TU h1 λ_ _=>GF,TU h2 λ_ _=>GF,TU h3 λ_ _=>zi6,TU h4 λ_ _=>zcE⟩
theorem zkh{cs:List Value}{x:zG}(h:vS.rd w S cs x):zjQ x:=by
 obtain⟨v1,v2,rfl,a,b,h1,h2⟩:=h;exact⟨a,b,TU h1 λ_ _=>zhb,TU h2 λ_ _=>zhc⟩
theorem zen{cs:List Value}{x:zU}(h:vS.rd w S cs x):zcC x:=by
 obtain⟨v,rfl,a,b,h1⟩:=h;exact⟨a,b,TU h1 λ_ _=>zcE⟩
theorem GG:(t:Ty)→ {x:t.den}→ {cs:List Value}→vS.rd w S cs x→okT t x
 | .int,x,cs,h=>by exact GF h
 | .bool,x,cs,h=>trivial
 | .byte,x,cs,h=>trivial
 | .str,x,cs,h=>by exact h.2
 | .tok,x,cs,h=>by exact h.2
 | .lit,x,cs,h=>by exact zcE h
 | .var,x,cs,h=>by exact zhb h
 | .con,x,cs,h=>by exact zhc h
 | .mdl,x,cs,h=>by exact zkh h
 | .step,x,cs,h=>by exact zen h
 | .term,x,cs,h=>by exact h.2
 | .ans,x,cs,h=>by
  obtain⟨v1,v2,rfl,a,h1,h2⟩:=h;exact⟨a,TU h1 λ_ _=>GF,TU h2 λ_ _=>zen⟩
 | .pr a b,x,cs,h=>by
  obtain⟨c1,c2,rfl,h1,h2⟩:=h;exact⟨GG a h1,GG b h2⟩
 | .list t,xs,cs,h=>by
  obtain⟨A,c,rfl,h⟩:=h;have:=zcD (α:=t.den) (p:=okT t) ⟨_,rfl,A,c,rfl,h⟩ λ_ _ h=>GG t h
  rw[←Ty.bytes_eq]at this
  exact this
def okC:D→Prop
 | .int k n=>inK k n
 | .str s=>okS s
 | .sl t xs=>okT (.list t) xs
 |_=>True
def EX:D→Prop
 | .agg cs=>∀c∈cs,okC c
 | .iptr cs _=>∀c∈cs,okC c
 |d=>okC d
theorem BS(h:Rp w S v d):okC d:=by
 cases h
 case int k n h=>exact h
 case str s h=>exact h
 case sl t xs h=>
  obtain⟨cs,e,hr⟩:=h;exact GG (.list t) hr
 all_goals trivial
theorem zhd(h:Rp w S v d):EX d:=by
 cases d
 case agg cs=>
  obtain⟨vs,_,_,hr⟩:=h.agg_inv;intro c hc;obtain⟨i,hi,rfl⟩:=List.getElem_of_mem hc;exact BS (hr i _ (List.getElem?_eq_getElem hi))
 case iptr cs off=>
  obtain⟨b,_,_,hr⟩:=h.iptr_inv;intro c hc;obtain⟨i,hi,rfl⟩:=List.getElem_of_mem hc;obtain⟨u,_,hr⟩:=hr i _ (List.getElem?_eq_getElem hi);exact BS hr
 all_goals exact BS h
theorem zki(F:tT P E){f:FuncId}{fn:Func}{body:Code}{args:List D}{r:D}(hf:P.funcs[f]? =some fn)(hb:fn.body=some body)(hn:A.n=fn.ntmps)(hle:args.length≤fn.ntmps)
  (h:(∀d∈args,EX d)→fnD P E A fn.results.toList body args λd=>d=r):XJ P f args r:=by
 intro w S vs hS hl hv hg
 have hok:∀d∈args,EX d:=λd hd=>by
  obtain⟨i,hi,rfl⟩:=List.getElem_of_mem hd;exact zhd (hv i _ (List.getElem?_eq_getElem hi))
 refine calls_of_wp hf hb ?_
 have m0:rL P ⟨w,S,λ_=>False,λ_=>undef⟩ A.n (St.init args) {tmps:=vs++Array.replicate (fn.ntmps-vs.size) undef,defers:=[]} w S (λ_=>undef):=by
  refine⟨rfl,by simp;omega,λi=> ?_,(λk o h=>by cases h),hS,λb h=> .inl h,(λk o b h=>by cases h),(λk k' o o' b h=>by cases h),.of (Below.refl _ _),λ_ _=>rfl,hg⟩
  rw[zao];cases hi:args[i]? with
  |none=>exact nW
  |some d=>
   have hlt:i<vs.size:=by rw[hl];exact(List.getElem?_eq_some_iff.1 hi).1
   have:=hv i d hi;rw[Array.getD_eq_getD_getElem?,Array.getElem?_append_left hlt,←Array.getD_eq_getD_getElem?];exact this.rd
 refine wp_mono (zcB F body 0 _ _ _ w (h hok) ⟨_,_,m0⟩) λe a w' hq=> ?_
 rcases hq with⟨x,σ,he,hk,S',pl,m⟩|⟨u,σ,rfl,hk,dz,hb⟩
 case inr=>exact hk.elim
 have fin:(rC 12 σ (RS E σ fn.results.toList) λ_ σ=>match Cc E σ fn.results.toList with
   |some ds=>zkg ds=r
   |none=>False)→a.defers=[]∧∃v,(results fn a.tmps).run P w'=.ok v w'∧∃v',Ending.returned v=.returned v'∧Rp w' (λb=>S b∨(w.heap.size≤b∧b<w'.heap.size)) v' r∧Below w.heap.size w w':=by
  intro hk;refine⟨m.dz,?_⟩;obtain⟨σ2,_,S2,hk,hS2,m2,_⟩:=pH hk m;split at hk
  ·rename_i ds' hds
   have hr:=hk;obtain⟨us,q1,hrd⟩:=BR F m2 _ ds' hds
   have hsrc:∀b,S2 b→S b∨(w.heap.size≤b∧b<w'.heap.size):=λb hb=>by
    rcases m2.src b hb with h|h
    ·exact .inl h
    ·exact .inr ⟨h.resolve_left id,m2.lt b hb⟩
   have hrd':=hrd.rmono (w':=w') (λ_ _=>rfl) hsrc
   have hrun:(results fn a.tmps).run P w'=.ok (if h:us.length=1 then us[0]else .tuple us.toArray) w':=by
    have hr0:results fn a.tmps=(do let vs←fn.results.mapM (TT a);pure (if h:vs.size=1 then vs[0]else .tuple vs)):=rfl
    rw[hr0];simp only[Array.mapM_eq_mapM_toList,Sem.run_bind,map_eq_pure_bind,q1,Result.andThen_ok,Sem.run_pure,List.size_toArray];rfl
   refine⟨_,hrun,_,rfl,?_,m.below.below λ_=>id⟩
   rw[←hr];have hlen:=hrd'.len;cases ds' with
   |nil=>
    rw[dif_neg (by simp at hlen;simp[hlen])]
    exact .tup _ _ (by simpa using hlen) λi d hd=>by simp at hd
   |cons d1 rest=>
    cases rest with
    |nil=>
     have h1:us.length=1:=by simpa using hlen
     rw[dif_pos h1];exact hrd'.get_ 0 _ d1 (List.getElem?_eq_getElem (by omega)) rfl
    |cons d2 rest=>
     rw[dif_neg (by rw[hlen];simp)]
     exact .tup _ _ (by simpa using hlen) λi d hd=>XQ (vs:=us.toArray) (by simpa using hrd') i d hd
  ·exact hk.elim
 cases e<;>simp only[zai,Option.some.injEq,reduceCtorEq]at he<;>subst he
 ·exact fin hk
 ·exact hk.elim
 ·exact fin hk
def Kh:Nat→List Nat→List (Nat×Nat)
 |_,[]=>[]
 |i,k::r=>bif Nat.ble 1000 k&&Nat.blt k 3000 then(k,k)::Kh i r else(k,3000+i)::Kh (i+1) r
def TV(ρ:List (Nat×Nat)):Bool:=kW (ρ.map (·.1))&&kW (ρ.map (·.2))&&ρ.all λx=> !stabK x.2||Nat.beq x.1 x.2
def MH(E:TE)(rs:List ResultVar)(roots:List D)(own:Bool)(R:D→List (Nat×yD)→Prop)(e:Ex)(σ:St):Prop:=match e with
 | .exit _=>False
 | .thr _=>False
 |_=>match own with
  |true=>(match rs with
   |[.tmp t]=>bif TV (Kh 0 (reach σ.ob 400 [] (σ.get t::roots)))then R ((σ.get t).ren (Kh 0 (reach σ.ob 400 [] (σ.get t::roots)))) (fa σ.ob (Kh 0 (reach σ.ob 400 [] (σ.get t::roots))) (Kh 0 (reach σ.ob 400 [] (σ.get t::roots))))else False
   |_=>False)
  |false=>rC 12 σ (RS E σ rs) λ_ σ=>match Cc E σ rs with
   |some ds=>bif TV (Kh 0 (reach σ.ob 400 [] roots))then R (zkg ds) (fa σ.ob (Kh 0 (reach σ.ob 400 [] roots)) (Kh 0 (reach σ.ob 400 [] roots)))else False
   |none=>False
def fnH(P:Program)(E:TE)(A:wA)(rs:List ResultVar)(body:Code)(args:List D)(h:List (Nat×yD))(roots:List D)(own:Bool)(R:D→List (Nat×yD)→Prop):Prop:=den P E A body 0 ⟨MG 0 args,h⟩ (MH E rs roots own R)
def okO:yD→Prop
 | .cells ds=>∀d∈ds,okC d
 | .row _ t xs=>okT (.list t) xs
 | .mp kt vt es=>es.length≤140737488355328∧∀x∈es,okT kt x.1∧okT vt x.2
 | .val ds=>∀d∈ds,okC d
theorem zhe(h:Rd w S pl v d):okC d:=by
 cases hr:d.ref with
 |none=>exact BS (h.flat hr)
 |some k=>cases d<;>first|trivial|(simp[D.ref]at hr)
theorem zkj(h:Rd w S pl v d):EX d:=by
 cases hr:d.ref with
 |none=>exact zhd (h.flat hr)
 |some k=>cases d<;>first|trivial|(simp[D.ref]at hr)
theorem zjR{p:Value}{ob:yD}(h:Xf w S pl p ob):okO ob:=by
 cases ob with
 |cells ds=>
  obtain⟨b,vs,T,_,_,_,h,_⟩:=h;intro d hd;obtain⟨i,hi,rfl⟩:=List.getElem_of_mem hd;exact zhe (h i _ (List.getElem?_eq_getElem hi))
 |val ds=>
  obtain⟨vs,_,_,h⟩:=h;intro d hd;obtain⟨i,hi,rfl⟩:=List.getElem_of_mem hd;exact zhe (h i _ (List.getElem?_eq_getElem hi)).1
 |row e t xs=>
  obtain⟨cs,_,hr⟩:=X0 h;exact GG (.list t) hr
 |mp kt vt es=>
  obtain⟨b,_,h0,ents,clock,_,h⟩:=h;refine⟨h0,λx hx=> ?_⟩
  obtain⟨i,hi,rfl⟩:=List.getElem_of_mem hx;obtain⟨e,_,⟨_,_,h1⟩,⟨_,_,h2⟩⟩:=h.at (List.getElem?_eq_getElem hi);exact⟨GG kt h1,GG vt h2⟩
def zkk(E:TE)(rs:List ResultVar)(roots:List D)(own:Bool)(R:D→List (Nat×yD)→Prop)(T:Value→Prop)(e:Ex)(σ:St):Prop:=match e with
 | .thr u=>T u
 | .normal=>MH E rs roots own R .normal σ
 | .ret=>MH E rs roots own R .ret σ
 | .exit i=>MH E rs roots own R (.exit i) σ
def fnX(P:Program)(E:TE)(A:wA)(rs:List ResultVar)(body:Code)(args:List D)(h:List (Nat×yD))(roots:List D)(own:Bool)(R:D→List (Nat×yD)→Prop)(T:Value→Prop):Prop:=den P E A body 0 ⟨MG 0 args,h⟩ (zkk E rs roots own R T)
theorem zfn{E:TE}{rs:List ResultVar}{roots:List D}{own:Bool}{R:D→List (Nat×yD)→Prop}:zkk E rs roots own R (λ_=>False)=MH E rs roots own R:=by
 funext e σ;cases e<;>rfl
theorem zfo{rs:List ResultVar}{roots:List D}{own:Bool}{R:D→List (Nat×yD)→Prop}{e:Ex}{σ:St}(h:MH E rs roots own R e σ):∃r hp',R r hp'∧MH E rs roots own (λd h'=>d=r∧h'=hp') e σ:=by
 have norm:MH E rs roots own R .normal σ→∃r hp',R r hp'∧MH E rs roots own (λd h'=>d=r∧h'=hp') .normal σ:=λh=>by
  unfold MH at h⊢
  cases own with
  |true=>
   simp only at h⊢
   split at h
   ·rename_i t _
    cases hc:TV (Kh 0 (reach σ.ob 400 [] (σ.get t::roots)))with
    |false=>rw[hc]at h;exact h.elim
    |true=>rw[hc,cond_true]at h;exact⟨_,_,h,by rw[cond_true];exact⟨rfl,rfl⟩⟩
   ·exact h.elim
  |false=>
   simp only at h⊢
   unfold rC at h⊢
   split at h
   ·rename_i σ' ds' hp
    split at h
    ·rename_i ds hds
     cases hc:TV (Kh 0 (reach σ'.ob 400 [] roots))with
     |false=>rw[hc]at h;exact h.elim
     |true=>rw[hc,cond_true]at h;exact⟨_,_,h,by simp only[hds,hc,cond_true,and_self]⟩
    ·exact h.elim
   ·exact h.elim
 cases e with
 |normal=>exact norm h
 |ret=>exact norm h
 |exit i=>exact h.elim
 |thr u=>exact h.elim
theorem BT(F:tT P E){f:FuncId}{fn:Func}{body:Code}{args roots:List D}{hp:List (Nat×yD)}{own:Bool}{R:D→List (Nat×yD)→Prop}{T:Value→Prop}(hf:P.funcs[f]? =some fn)(hb:fn.body=some body)(hn:A.n=fn.ntmps)(hle:args.length≤fn.ntmps)
  (h:(∀d∈args,EX d)→(∀k o,zZ k hp=some o→okO o)→fnX P E A fn.results.toList body args hp roots own R T)
  (w:World) (S:Nat→Prop) (vs:Array Value) (pl0:Nat→Value) (hS:∀b,S b→b<w.heap.size) (hl:vs.size=args.length) (hv:∀i d,args[i]? =some d→Rd w S pl0 (vs.getD i undef) d) (hh:Bs w S pl0 hp) (hg:DT P w (nS pl0 hp)):
  Calls P f vs w λe w'=>(∃r hp',R r hp'∧∃v S' pl',e=.returned v∧Rd w' S' pl' v r∧Bs w' S' pl' hp'∧(∀b,S' b→b<w'.heap.size)∧(∀b,S' b→S b∨nS pl0 hp b∨w.heap.size≤b)∧
    (∀b,nS pl' hp' b→nS pl0 hp b∨w.heap.size≤b)∧(∀k,stabK k=true→pl' k=pl0 k)∧qB w.heap.size (nS pl0 hp) w w')∨
   ∃u,e=.panicked [{v:=u,recovered:=false}]∧T u∧qB w.heap.size (nS pl0 hp) w w':=by
 have hok:∀d∈args,EX d:=λd hd=>by
  obtain⟨i,hi,rfl⟩:=List.getElem_of_mem hd;exact zkj (hv i _ (List.getElem?_eq_getElem hi))
 have hok2:∀k o,zZ k hp=some o→okO o:=λk o hk=>zjR (hh.ok k o hk)
 refine calls_of_wp hf hb ?_
 have m0:rL P ⟨w,S,nS pl0 hp,pl0⟩ A.n ⟨MG 0 args,hp⟩ {tmps:=vs++Array.replicate (fn.ntmps-vs.size) undef,defers:=[]} w S pl0:=by
  refine⟨rfl,by simp;omega,λi=> ?_,hh.ok,hS,λb h=> .inl h,(λk o b h hb=>⟨.inl ⟨k,o,h,hb⟩,hh.priv k o b h hb⟩),hh.inj,.of (Below.refl _ _),λ_ _=>rfl,hg⟩
  rw[show(⟨MG 0 args,hp⟩:St).get i=(St.init args).get i from rfl,zao]
  cases hi:args[i]? with
  |none=>exact nW
  |some d=>
   have hlt:i<vs.size:=by rw[hl];exact(List.getElem?_eq_some_iff.1 hi).1
   have:=hv i d hi;rw[Array.getD_eq_getD_getElem?,Array.getElem?_append_left hlt,←Array.getD_eq_getD_getElem?];exact this
 refine wp_mono (zcB F body 0 _ _ _ w (h hok hok2) ⟨_,_,m0⟩) λe a w' hq=> ?_
 rcases hq with⟨x,σ,he,hk,S',pl,m⟩|⟨u,σ,rfl,hk,dz,hb⟩
 case inr=>exact⟨dz,.inr ⟨u,rfl,hk,hb⟩⟩
 have hk:x=.normal∨x=.ret∨∃i,x=.exit i:=by cases e<;>simp only[zai,Option.some.injEq,reduceCtorEq]at he<;>subst he<;>simp
 have hk0:MH E fn.results.toList roots own R x σ:=by rcases hk with rfl|rfl|⟨i,rfl⟩<;>assumption
 obtain⟨r,hp',hR,hk⟩:=zfo hk0
 have out:∀ {S':Nat→Prop} {σ:St} (m:rL P ⟨w,S,nS pl0 hp,pl0⟩ A.n σ a w' S' pl) (ρ:List (Nat×Nat)),TV ρ=true→∀(v:Value),(results fn a.tmps).run P w'=.ok v w'→Rd w' S' (DZ ρ pl) v r→fa σ.ob ρ ρ=hp'→
   ∃v,(results fn a.tmps).run P w'=.ok v w'∧∃v' S'' pl',Ending.returned v=.returned v'∧Rd w' S'' pl' v' r∧Bs w' S'' pl' hp'∧(∀b,S'' b→b<w'.heap.size)∧(∀b,S'' b→S b∨nS pl0 hp b∨w.heap.size≤b)∧
    (∀b,nS pl' hp' b→nS pl0 hp b∨w.heap.size≤b)∧(∀k,stabK k=true→pl' k=pl0 k)∧qB w.heap.size (nS pl0 hp) w w':=by
  intro S' σ m ρ hc v hrun hr hpk;simp only[TV,Bool.and_eq_true]at hc
  obtain⟨⟨n1,n2⟩,n3⟩:=hc;subst hpk;refine⟨v,hrun,v,S',DZ ρ pl,rfl,hr,Kd m n1 n2,m.lt,m.src,λb hb=> ?_,λk hk=> ?_,m.below⟩
  ·obtain⟨k,c,o,h1,h2,h3⟩:=My n2 hb
   exact(m.priv k o b h2 h3).1
  ·refine Eq.trans ?_ (m.stay k hk)
   unfold DZ;cases hl:zZ k (L4 ρ)with
   |none=>rfl
   |some k'=>
    have:=List.all_eq_true.1 n3 _ (Mx hl);simp only[Bool.or_eq_true,Bool.not_eq_true']at this
    rcases this with h|h
    ·rw[hk]at h;cases h
    ·rw[yY.1 h]
 have runv:∀(us:List Value),(fn.results.toList.mapM (TT a)).run P w'=.ok us w'→(results fn a.tmps).run P w'=.ok (if h:us.length=1 then us[0]else .tuple us.toArray) w':=λus q1=>by
  have hr0:results fn a.tmps=(do let vs←fn.results.mapM (TT a);pure (if h:vs.size=1 then vs[0]else .tuple vs)):=rfl
  rw[hr0];simp only[Array.mapM_eq_mapM_toList,Sem.run_bind,map_eq_pure_bind,q1,Result.andThen_ok,Sem.run_pure,List.size_toArray];rfl
 have fin:MH E fn.results.toList roots own (λd h'=>d=r∧h'=hp') .normal σ→a.defers=[]∧∃v,(results fn a.tmps).run P w'=.ok v w'∧∃v' S'' pl',Ending.returned v=.returned v'∧Rd w' S'' pl' v' r∧Bs w' S'' pl' hp'∧(∀b,S'' b→b<w'.heap.size)∧(∀b,S'' b→S b∨nS pl0 hp b∨w.heap.size≤b)∧
    (∀b,nS pl' hp' b→nS pl0 hp b∨w.heap.size≤b)∧(∀k,stabK k=true→pl' k=pl0 k)∧qB w.heap.size (nS pl0 hp) w w':=by
  intro hk;refine⟨m.dz,?_⟩;unfold MH at hk
  clear h he;cases own with
  |true=>
   simp only at hk
   split at hk
   ·rename_i t hrs
    cases hc:TV (Kh 0 (reach σ.ob 400 [] (σ.get t::roots)))with
    |false=>rw[hc]at hk;exact hk.elim
    |true=>
     rw[hc,cond_true]at hk
     obtain⟨e1,e2⟩:=hk;have hc':=hc;simp only[TV,Bool.and_eq_true]at hc'
     have hrun:=runv [a.tmps.getD t undef] (by rw[hrs];simp[TT])
     refine out m _ hc _ hrun ?_ e2;rw[←e1];exact Kc (λk j hj=>WI hc'.1.2 (fI hj)) (m.fr t)
   ·exact hk.elim
  |false=>
   simp only at hk
   obtain⟨σ2,_,S2,hk,hS2,m2,_⟩:=pH hk m;split at hk
   ·rename_i ds' hds
    cases hc:TV (Kh 0 (reach σ2.ob 400 [] roots))with
    |false=>rw[hc]at hk;exact hk.elim
    |true=>
     rw[hc,cond_true]at hk
     obtain⟨e1,e2⟩:=hk;obtain⟨us,q1,hrd⟩:=BR F m2 _ ds' hds;have hlen:=hrd.len;refine out m2 _ hc _ (runv us q1) ?_ e2;rw[←e1];cases ds' with
     |nil=>
      rw[dif_neg (by simp at hlen;simp[hlen])]
      exact Rp.rd (.tup _ _ (by simpa using hlen) λi d hd=>by simp at hd)
     |cons d1 rest=>
      cases rest with
      |nil=>
       have h1:us.length=1:=by simpa using hlen
       rw[dif_pos h1];exact(hrd.get_ 0 _ d1 (List.getElem?_eq_getElem (by omega)) rfl).rd
      |cons d2 rest=>
       rw[dif_neg (by rw[hlen];simp)]
       exact Rp.rd (.tup _ _ (by simpa using hlen) λi d hd=>XQ (vs:=us.toArray) (by simpa using hrd) i d hd)
   ·exact hk.elim
 cases e<;>simp only[zai,Option.some.injEq,reduceCtorEq]at he<;>subst he
 ·obtain⟨h1,v,h2,h3⟩:=fin hk;exact⟨h1,v,h2,.inl ⟨r,hp',hR,h3⟩⟩
 ·exact hk.elim
 ·obtain⟨h1,v,h2,h3⟩:=fin hk;exact⟨h1,v,h2,.inl ⟨r,hp',hR,h3⟩⟩
theorem zi8(F:tT P E){f:FuncId}{fn:Func}{body:Code}{args roots:List D}{hp hp':List (Nat×yD)}{own:Bool}{r:D}(hf:P.funcs[f]? =some fn)(hb:fn.body=some body)(hn:A.n=fn.ntmps)(hle:args.length≤fn.ntmps)
  (h:(∀d∈args,EX d)→(∀k o,zZ k hp=some o→okO o)→fnH P E A fn.results.toList body args hp roots own λd h'=>d=r∧h'=hp'):ze9 P f args hp r hp':=by
 intro w S vs pl0 hS hl hv hh hg;refine(BT F hf hb hn hle (T:=λ_=>False) (λh1 h2=>by have:=h h1 h2;unfold fnX;rw[zfn];exact this) w S vs pl0 hS hl hv hh hg).mono λe w' h=> ?_
 rcases h with⟨_,_,⟨rfl,rfl⟩,h'⟩|⟨_,_,h',_⟩
 ·exact h'
 ·exact h'.elim
theorem zhf(F:tT P E){f:FuncId}{fn:Func}{body:Code}{args roots:List D}{hp hp':List (Nat×yD)}{own:Bool}{r:D}(hf:P.funcs[f]? =some fn)(hb:fn.body=some body)(hn:A.n=fn.ntmps)(hle:args.length≤fn.ntmps)
  (h:(∀d∈args,EX d)→(∀k o,zZ k hp=some o→okO o)→fnX P E A fn.results.toList body args hp roots own (λd h'=>d=r∧h'=hp') λ_=>False):ze9 P f args hp r hp':=by
 intro w S vs pl0 hS hl hv hh hg;refine(BT F hf hb hn hle h w S vs pl0 hS hl hv hh hg).mono λe w' h=> ?_
 rcases h with⟨_,_,⟨rfl,rfl⟩,h'⟩|⟨_,_,h',_⟩
 ·exact h'
 ·exact h'.elim
theorem zi9(F:tT P E){f:FuncId}{fn:Func}{body:Code}{args roots:List D}{hp:List (Nat×yD)}{own:Bool}{u:Value}(hf:P.funcs[f]? =some fn)(hb:fn.body=some body)(hn:A.n=fn.ntmps)(hle:args.length≤fn.ntmps)
  (h:(∀d∈args,EX d)→(∀k o,zZ k hp=some o→okO o)→fnX P E A fn.results.toList body args hp roots own (λ_ _=>False) λu'=>u'=u):ziK P f args hp u:=by
 intro w S vs pl0 hS hl hv hh hg;refine(BT F hf hb hn hle h w S vs pl0 hS hl hv hh hg).mono λe w' h=> ?_
 rcases h with⟨_,_,h',_⟩|⟨_,h1,rfl,h2⟩
 ·exact h'.elim
 ·exact⟨h1,h2⟩
end
def zkP(P:Program)(x:TypeId×(Bool×List D)):Bool:=match P.info? x.1,P.underlying x.1 with
 |some i,some u=>(match i.zero with
  |some z=>Nat.beq i.size x.2.2.length&&(zgD u==x.2.1)&&Iv z.cells.toList x.2.2&&(x.2.1||Nat.beq x.2.2.length 1)&&(!XI x.2.2||memT A5 x.1 x.2.2.length)
  |none=>false)
 |_,_=>false
def zkQ(e:TypeId):Option TypeDesc→Bool
 |some (.slice e')=>Nat.beq e' e
 |_=>false
def zjS(P:Program)(x:TypeId×(TypeId×Ty)):Bool:=zkQ x.2.1 (P.underlying x.1)&&(match P.info? x.2.1 with
 |some i=>Nat.beq i.size x.2.2.size&&Nat.beq i.bytes x.2.2.bytes&&(match i.zero with
  |some z=>Iv z.cells.toList (cells x.2.2 x.2.2.dflt)
  |none=>false)
 |none=>false)
def BU:List (Nat×Nat)→List (Nat×Nat)→Bool
 |[],[]=>true
 |(a,b)::r,(c,d)::r'=>Nat.beq a c&&Nat.beq b d&&BU r r'
 |_,_=>false
theorem Cd:∀ {a b:List (Nat×Nat)},BU a b=true→a=b
 |[],[],_=>rfl
 |(a,b)::r,(c,d)::r',h=>by
  simp only[BU,Bool.and_eq_true]at h
  rw[yY.1 h.1.1,yY.1 h.1.2,Cd h.2]
 |[],_::_,h=>by cases h
 |_::_,[],h=>by cases h
def zhg(P:Program)(x:TypeId×List (Nat×Nat)):Bool:=match P.underlying x.1 with
 |some (.struct fs)=>(match fs.toList.mapM λf=>(P.info? f.type).map λi=>(f.offset,i.size)with
  |some offs=>BU offs x.2&&x.2.all λy=> !Nat.beq y.2 0
  |none=>false)
 |_=>false
def zeo:Option TypeDesc→Bool
 |some .string=>true
 |_=>false
def Ce(k:IntKind):Option TypeDesc→Bool
 |some (.int k')=>decide (k'=k)
 |_=>false
def zep:Option TypeDesc→Bool
 |some .bool=>true
 |_=>false
def zaq:Option TypeDesc→Bool
 |some (.struct _)=>true
 |_=>false
def zhh(P:Program)(kT:TypeId):Ty→Bool
 | .int=>Ce .i64 (P.underlying kT)
 | .str=>zeo (P.underlying kT)
 | .pr .int .int=>match P.underlying kT with
  |some (.array n e)=>Nat.beq n 2&&Ce .i64 (P.underlying e)&&(P.info? e).isSome&&Nat.beq (P.cellsOf e) 1
  |_=>false
 |_=>false
def zjT(P:Program)(x:TypeId×(Ty×Ty)):Bool:=match P.underlying x.1 with
 |some (.map kT eT)=>zhh P kT x.2.1&&(match P.info? eT with
  |some i=>(match i.zero,cells x.2.2 x.2.2.dflt with
   |some z,[d]=>zB z d&&z.oneCell'
   |_,_=>false)
  |none=>false)
 |_=>false
def zja:List (Bool×Nat)→List (Bool×Nat)→Bool
 |[],[]=>true
 |x::xs,y::ys=>(x.1==y.1)&&Nat.beq x.2 y.2&&zja xs ys
 |_,_=>false
theorem zeq:∀ {xs ys:List (Bool×Nat)},zja xs ys=true→xs=ys
 |[],[],_=>rfl
 |x::xs,y::ys,h=>by
  simp only[zja,Bool.and_eq_true,beq_iff_eq]at h
  rw[zeq h.2,show x=y from Prod.ext h.1.1 (yY.1 h.1.2)]
 |[],_::_,h=>by cases h
 |_::_,[],h=>by cases h
def zjU(P:Program)(x:TypeId×Ty):Bool:=zaq (P.underlying x.1)&& !P.stoodInHeld x.1&& !P.eqGuardType P.depth x.1&&(match fkT x.2,(P.fieldsOf x.1).toList.mapM (ziM P)with
 |some l,some l'=>zja l l'
 |_,_=>false)
def zhi(P:Program)(T:TypeId):Bool:=match P.underlying T with
 |some (.array n e)=>Nat.beq n 2&&(match P.info? e with
  |some i=>Nat.beq i.size 1
  |none=>false)
 |_=>false
def zer(P:Program)(x:TypeId×(TypeId×Ty)):Bool:=match x.2.2 with
 | .byte=>(match P.info? x.2.1 with
  |some i=>(match i.zero with
   |some (.int .u8 n)=>decide (n=0)
   |_=>false)
  |none=>false)
 |_=>true
def TE.chk2(E:TE)(P:Program):Bool:=E.mps.all (zjT P)&&E.sts.all (zjU P)&&E.arr.all (zhi P)&&E.sl.all (zer P)
def TE.chk(E:TE)(P:Program):Bool:=E.zs.all (zkP P)&&E.sl.all (zjS P)&&E.fld.all (zhg P)&&E.strs.all (λT=>zeo (P.underlying T))&&E.ints.all (λx=>Ce x.2 (P.underlying x.1))&&E.bools.all λT=>zep (P.underlying T)
theorem WO{α:Type}{p:Nat×α→Bool}{l:List (Nat×α)}(h:l.all p=true){k:Nat}{a:α}(hl:zZ k l=some a):p (k,a)=true:=List.all_eq_true.1 h _ (fI hl)
theorem MI{k:Nat}:∀ {l:List Nat},qO k l=true→k∈l
 |[],h=>by cases h
 |i::r,h=>by
  unfold qO at h
  cases hb:Nat.beq i k with
  |true=>rw[yY.1 hb];exact List.mem_cons_self
  |false=>rw[hb,cond_false]at h;exact List.mem_cons_of_mem _ (MI h)
theorem zhj{P:Program}{E:TE}(hm:P.follows .mixedOrders=true)(h:E.chk P=true)(h':E.chk2 P=true)(hs:∀x∈E.sig,∀args w,(callFunc x.1 args).run P w=.ok (.enter x.1 args) w)(hh:∀x∈E.hsig,Ent P x.1):tT P E:=by
 simp only[TE.chk2,Bool.and_eq_true]at h'
 obtain⟨⟨⟨k1,k2⟩,k3⟩,k4⟩:=h';simp only[TE.chk,Bool.and_eq_true]at h
 obtain⟨⟨⟨⟨⟨h1,h2⟩,h3⟩,h4⟩,h5⟩,h6⟩:=h;refine⟨λT ag cs hl=> ?_,λT e t hl=> ?_,λT offs hl=> ?_,λT hl=> ?_,λT k hl=> ?_,λT hl=> ?_,λf rs hl=>hs (f,rs) (fI hl),λf x hl=>hh (f,x) (fI hl),λT hl=> ?_,λT k v hl=> ?_,λT t hl=> ?_,hm,λT e hl=> ?byt⟩
 case byt=>
  have:=WO k4 hl;unfold zer at this
  simp only at this
  split at this
  ·rename_i i hi
   split at this
   ·rename_i n hz;exact⟨i,hi,by rw[hz,of_decide_eq_true this]⟩
   ·cases this
  ·cases this
 ·have:=WO h1 hl
  unfold zkP at this
  split at this
  ·rename_i i u hi hu
   split at this
   ·rename_i z hz
    simp only[Bool.and_eq_true,Bool.or_eq_true,beq_iff_eq]at this
    obtain⟨⟨⟨⟨q1,q2⟩,q3⟩,q4⟩,q5⟩:=this;refine⟨λhh=>by rw[hh]at q5;simpa using q5,⟨i,z,u,hi,hz,yY.1 q1,hu,q2,q3⟩,λhag=> ?_⟩
    rcases q4 with q4|q4
    ·rw[hag]at q4;cases q4
    ·exact yY.1 q4
   ·cases this
  ·cases this
 ·have:=WO h2 hl
  unfold zjS at this
  simp only[Bool.and_eq_true]at this
  obtain⟨q1,q2⟩:=this;split at q2
  ·rename_i i hi
   simp only[Bool.and_eq_true]at q2
   split at q2
   ·rename_i z hz
    refine⟨?_,i,z,hi,hz,yY.1 q2.1.1,yY.1 q2.1.2,q2.2⟩;unfold zkQ at q1
    split at q1
    ·rename_i e' he
     have he':P.underlying T=some (.slice e'):=he;rw[he',yY.1 q1]
    ·cases q1
   ·have:=q2.2;cases this
  ·cases q2
 ·have:=WO h3 hl
  unfold zhg at this
  split at this
  ·rename_i fs hu
   split at this
   ·rename_i offs' ho
    simp only[Bool.and_eq_true]at this
    refine⟨fs,hu,?_,this.2⟩;rw[ho,Cd this.1]
   ·cases this
  ·cases this
 ·have:=List.all_eq_true.1 h4 _ (MI hl)
  unfold zeo at this
  split at this
  ·rename_i e;exact e
  ·cases this
 ·have:=WO h5 hl
  unfold Ce at this
  split at this
  ·rename_i k' e
   have e':P.underlying T=some (.int k'):=e;rw[e',of_decide_eq_true this]
  ·cases this
 ·have:=List.all_eq_true.1 h6 _ (MI hl)
  unfold zep at this
  split at this
  ·rename_i e;exact e
  ·cases this
 ·have:=List.all_eq_true.1 k3 _ (MI hl)
  unfold zhi at this
  split at this
  ·rename_i n e hu
   simp only[Bool.and_eq_true]at this
   split at this
   ·rename_i i hi
    obtain rfl:=yY.1 this.1;exact⟨e,i,hu,hi,yY.1 this.2⟩
   ·cases this.2
  ·cases this
 ·have:=WO k1 hl
  unfold zjT at this
  split at this
  ·rename_i kT eT hu
   simp only[Bool.and_eq_true]at this
   obtain⟨q1,q2⟩:=this;split at q2
   ·rename_i i hi
    split at q2
    ·rename_i z d hz hc
     simp only[Bool.and_eq_true]at q2
     refine⟨kT,eT,i,z,d,hu,?_,hi,hz,hc,q2.1,q2.2⟩;unfold zhh at q1
     unfold L8;split at q1
     ·unfold Ce at q1
      split at q1
      ·rename_i k' e;rw[show P.underlying kT=some (.int k')from e,of_decide_eq_true q1]
      ·cases q1
     ·unfold zeo at q1
      split at q1
      ·rename_i e;exact e
      ·cases q1
     ·split at q1
      ·rename_i n e he
       simp only[Bool.and_eq_true]at q1
       obtain⟨⟨⟨p1,p2⟩,p3⟩,p4⟩:=q1;obtain rfl:=yY.1 p1;obtain⟨i',hi'⟩:=Option.isSome_iff_exists.1 p3;refine⟨e,i',he,?_,hi',yY.1 p4⟩;unfold Ce at p2
       split at p2
       ·rename_i k' e';rw[show P.underlying e=some (.int k')from e',of_decide_eq_true p2]
       ·cases p2
      ·cases q1
     ·cases q1
    ·cases q2
   ·cases q2
  ·cases this
 ·have:=WO k2 hl
  simp only[zjU,Bool.and_eq_true,Bool.not_eq_true']at this
  obtain⟨⟨⟨q1,q2⟩,q3⟩,q4⟩:=this
  have hst:P.underlying T=some (.struct (P.fieldsOf T)):=by
   unfold zaq at q1
   split at q1
   ·rename_i fs e
    have e:P.underlying T=some (.struct fs):=e;unfold Program.fieldsOf;rw[e]
   ·cases q1
  split at q4
  ·rename_i l l' e1 e2
   exact⟨hst,q2,q3,l,e1,by rw[e2,zeq q4]⟩
  ·cases q4
def Ys(f:Func):Code:=match f.body with
 |some c=>c
 |none=> .skip
abbrev yO(t:Ty)(xs:List t.den)(i:Nat):t.den:=xs.getD i t.dflt
theorem zA{b:Bool}{X Y:Prop}(h1:b=true→X)(h2:b=false→Y):zP b X Y:=by
 cases b
 ·exact h2 rfl
 ·exact h1 rfl
theorem zar{X Y:Prop}:zP true X Y=X:=rfl
theorem Cf{X Y:Prop}:zP false X Y=Y:=rfl
theorem zH{P:Program}{f:FuncId}{args:List D}{t:Ty}{K:t.den→Prop}{x:t.den}(h:XJ P f args (XH t x))(hk:K x):zgz P f args t K:=⟨x,h,hk⟩
theorem WP{P:Program}{f:FuncId}{args:List D}{t u:Ty}{K:t.den→u.den→Prop}{x:t.den}{y:u.den}(h:XJ P f args (.tup [XH t x,XH u y]))(hk:K x y):zgA P f args t u K:=⟨x,y,h,hk⟩
theorem zas{P:Program}{f:FuncId}{args:List D}{t u v:Ty}{K:t.den→u.den→v.den→Prop}{x:t.den}{y:u.den}{z:v.den}(h:XJ P f args (.tup [XH t x,XH u y,XH v z]))(hk:K x y z):zgB P f args t u v K:=⟨x,y,z,h,hk⟩
end Go.Proofs.YtogdmcebojiojaaGreatDoor
