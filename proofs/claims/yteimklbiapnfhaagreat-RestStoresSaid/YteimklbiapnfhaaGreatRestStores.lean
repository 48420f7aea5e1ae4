/- The law RestStores: whatever is done to stores and clauses that were answered, what was handed in stays as it was, and later answers are the same; no condition beyond those of the given statement. -/
import Derived.Test.YteimklbiapnfhaaGreatRows
import Derived.ProofKit
import Derived.OpenShut
import Derived.ShutString
import Derived.ChangeOld
import Derived.SizedLaws
import Derived.Test.YteimklbiapnfhaaGreatZF
set_option linter.unusedSectionVars false
namespace Go.Proofs.YteimklbiapnfhaaGreat.restStores
open Go.ChangeShapes Go.WideShapes Go.ChangeAt Go.RowKit
open Go.ChangeMaps (open_string shut_string)
set_option linter.unusedVariables false
set_option linter.unusedSimpArgs false
 local instance:Lo:=LoT
theorem own:ownKnob Tryz.prog.godebug=none:=by kernel_rfl
theorem laidOut:laidOutB Tryz.prog=true:=by kernel_rfl
set_option maxRecDepth 100000 in
theorem lifted(os:Os)(started:os.Started)(H:Type)(enc:TypeId×Value→H):
  ReturnsInHanded {} Tryz.checked os 3 .any (Rows.restStoresSpec.pre6 enc Tryz.prog Tryz.f3 Rows.restStoresRow.domain false) (Rows.restStoresSpec.post enc Tryz.prog Tryz.f3 false true false false):=by
 refine returnsInHanded_of_change_sized (C:=Tryz.checked) own started (by kernel_rfl) Tryz.func3
  (ChangeSpec.witness6 (enc:=enc) (C:=Tryz.checked) false ⟨#[],#[.agg #[.slice none 0 0,.slice none 0 0,.int .i64 0,.int .i64 0],.int .i64 0,.slice none 0 0,.slice none 0 0,.slice none 0 0,.slice none 0 0],[]⟩ 8 (by kernel_rfl) (by kernel_rfl) (by kernel_rfl) (by kernel_rfl)) ?_
 intro W base args ds gs before hval0 hW hcnd hsz0 _;have hval:∀(j:Nat) t v,Tryz.f3.params[j]? =some t→args[j]? =some v→Value.okWide Tryz.prog W .any base t v:=hval0;have hW':=hW;obtain⟨p,q,hA0,hV,rfl,hfz,hnd⟩:=hW;have hA:DataW.TrodAll enc Tryz.prog W 0 (λ_=>true) true Tryz.f3.params.toList args.toList ds p:=hA0
 have hsz:(DataW.weightsEach Tryz.prog (Tryz.f3.params.toList++Rows.restStoresSpec.plain.varTypes Tryz.prog) (ds++gs)).all (·≤reachBytes)=true:=hsz0;rw[Tryz.params3]at hA hval hsz
 obtain⟨v0,vs0,d0,ds0,p0,q0,hargs,rfl,rfl,h0,r0⟩:=trodAll_cons hA;obtain⟨v1,vs1,d1,ds1,p1,q1,rfl,rfl,rfl,h1,r1⟩:=trodAll_cons r0;obtain⟨v2,vs2,d2,ds2,p2,q2,rfl,rfl,rfl,h2,r2⟩:=trodAll_cons r1;obtain⟨v3,vs3,d3,ds3,p3,q3,rfl,rfl,rfl,h3,r3⟩:=trodAll_cons r2;obtain⟨v4,vs4,d4,ds4,p4,q4,rfl,rfl,rfl,h4,r4⟩:=trodAll_cons r3;obtain⟨v5,vs5,d5,ds5,p5,q5,rfl,rfl,rfl,h5,r5⟩:=trodAll_cons r4;obtain⟨rfl,rfl,rfl⟩:=trodAll_nil r5;obtain rfl:args= #[v0,v1,v2,v3,v4,v5]:=by cases args;simp_all
 obtain⟨rfl,rfl⟩:=trodVars_none hV;have k0:=h0;have lt0:∀x∈p0,x.block<W.heap.size:=by obtain⟨m,hm⟩:=k0;exact DataW.trod_lt m _ _ _ hm
 obtain⟨c0,rfl,e0⟩:=okWide_struct Tryz.underlying25 (hval 0 25 v0 rfl rfl);have s0:vOf (Value.agg c0).cells.toList=.agg c0:=zm9 (by rw[e0,zo1.1];decide)
 obtain⟨x0,y0⟩:=Xu zo1 h0 s0 (PX hsz (j:=0) rfl rfl);have k1:=h1;have lt1:∀x∈p1,x.block<W.heap.size:=by obtain⟨m,hm⟩:=k1;exact DataW.trod_lt m _ _ _ hm
 obtain⟨n1,rfl,hd1,_,w1⟩:=open_int Tryz.underlying3 (hval 1 3 v1 rfl rfl) h1;have z1:vK n1:=by simpa[vK,Lit.wf,IntKind.min,IntKind.max,IntKind.signed,IntKind.bits]using w1
 have k2:=h2;have lt2:∀x∈p2,x.block<W.heap.size:=by obtain⟨m,hm⟩:=k2;exact DataW.trod_lt m _ _ _ hm
 obtain⟨a2,l2,c2,rfl⟩:=okWide_slice Tryz.underlying27 (hval 2 27 v2 rfl rfl);have s2:vOf (Value.slice a2 l2 c2).cells.toList=.slice a2 l2 c2:=rfl;obtain⟨x2,y2⟩:=Xu zlH h2 s2 (PX hsz (j:=2) rfl rfl);have k3:=h3;have lt3:∀x∈p3,x.block<W.heap.size:=by obtain⟨m,hm⟩:=k3;exact DataW.trod_lt m _ _ _ hm
 obtain⟨a3,l3,c3,rfl⟩:=okWide_slice Tryz.underlying27 (hval 3 27 v3 rfl rfl);have s3:vOf (Value.slice a3 l3 c3).cells.toList=.slice a3 l3 c3:=rfl;obtain⟨x3,y3⟩:=Xu zlH h3 s3 (PX hsz (j:=3) rfl rfl);have k4:=h4;have lt4:∀x∈p4,x.block<W.heap.size:=by obtain⟨m,hm⟩:=k4;exact DataW.trod_lt m _ _ _ hm
 obtain⟨a4,l4,c4,rfl⟩:=okWide_slice Tryz.underlying28 (hval 4 28 v4 rfl rfl);have s4:vOf (Value.slice a4 l4 c4).cells.toList=.slice a4 l4 c4:=rfl;obtain⟨x4,y4⟩:=Xu zlI h4 s4 (PX hsz (j:=4) rfl rfl);have k5:=h5;have lt5:∀x∈p5,x.block<W.heap.size:=by obtain⟨m,hm⟩:=k5;exact DataW.trod_lt m _ _ _ hm
 obtain⟨a5,l5,c5,rfl⟩:=okWide_slice Tryz.underlying29 (hval 5 29 v5 rfl rfl);have s5:vOf (Value.slice a5 l5 c5).cells.toList=.slice a5 l5 c5:=rfl;obtain⟨x5,y5⟩:=Xu znq h5 s5 (PX hsz (j:=5) rfl rfl);clear hA0 hval0 hsz hsz0;refine(mB.calls (TQ x0 n1 x2 x3 x4 x5) W (.cons (zmD y0) (.cons (zmE z1) (.cons (Av y2) (.cons (Av y3) (.cons (zc2 y4) (.cons (zeJ y5) .nil)))))) (zk1 (by kernel_rfl) (λ_ _=>trivial) (λ_ h=>h.elim))).mono λe W' ⟨he,bel⟩=> ?_
 subst he;exact⟨_,rfl,_,_,_,[],_,[],hW',trodAll_mk1 (shut_bool Tryz.underlying4 _),(trodAll_cons_mk (Below.trod laidOut (by kernel_rfl) (of_decide_eq_true (by kernel_rfl)) k0 bel lt0) (trodAll_cons_mk (Below.trod laidOut (by kernel_rfl) (of_decide_eq_true (by kernel_rfl)) k1 bel lt1) (trodAll_cons_mk (Below.trod laidOut (by kernel_rfl) (of_decide_eq_true (by kernel_rfl)) k2 bel lt2) (trodAll_cons_mk (Below.trod laidOut (by kernel_rfl) (of_decide_eq_true (by kernel_rfl)) k3 bel lt3) (trodAll_cons_mk (Below.trod laidOut (by kernel_rfl) (of_decide_eq_true (by kernel_rfl)) k4 bel lt4) (trodAll_cons_mk (Below.trod laidOut (by kernel_rfl) (of_decide_eq_true (by kernel_rfl)) k5 bel lt5) trodAll_mk0)))))),rfl,bel.frame _,λh=>by cases h⟩
theorem over:Rows.restStoresRow.holds Tryz.pinned (OpenSpec.ofChange Rows.restStoresSpec):=
 OpenClaim.holds_of_wide 3 Tryz.f3 rfl rfl rfl rfl rfl rfl rfl ⟨rfl,rfl,rfl,rfl,rfl⟩ rfl rfl rfl rfl rfl (by kernel_rfl) Tryz.func3 (by kernel_rfl)
  (of_decide_eq_true (by kernel_rfl)) (by unfold Func.isWrapper;first|(rw[if_pos (by decide+kernel)];kernel_rfl)|(rw[if_neg (by decide+kernel)];exact⟨rfl,rfl⟩))
  (λos started H enc _=>lifted os started H enc)
theorem proved:Rows.RestStoresSaid:=over
end Go.Proofs.YteimklbiapnfhaaGreat.restStores
