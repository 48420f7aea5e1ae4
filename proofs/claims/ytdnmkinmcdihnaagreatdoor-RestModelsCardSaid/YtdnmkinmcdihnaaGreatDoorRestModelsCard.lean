/- The law RestModels, as a tied card: whatever is done to models, answers and lists that were answered, what was handed in stays as it was, and later answers are the same; no condition beyond those of the given statement. -/
import Derived.Test.YtdnmkinmcdihnaaGreatDoorRows
import Derived.Test.YtdnmkinmcdihnaaGreatDoorTie
import Derived.Test.YtdnmkinmcdihnaaGreatDoorCards
import Derived.SevenTiedAt
import Derived.ProofKit
import Derived.OpenShut
import Derived.ShutString
import Derived.ChangeOld
import Derived.SizedLaws
import Derived.Test.YtdnmkinmcdihnaaGreatDoorZG
set_option linter.unusedSectionVars false
set_option linter.unusedVariables false
set_option linter.unusedSimpArgs false
namespace Go.Proofs.YtdnmkinmcdihnaaGreatDoor.restModelsCard
open Go.Proofs.Tryz
open Go.ChangeShapes Go.WideShapes Go.ChangeAt Go.RowKit
open Go.ChangeMaps (open_string shut_string)
 local instance:Lo:=LoT
theorem own:ownKnob prog.godebug=none:=by kernel_rfl
theorem laidOut:laidOutB prog=true:=by kernel_rfl
set_option maxRecDepth 100000 in
theorem lifted(os:Os)(started:os.Started)(H:Type)(enc:AcN×Value->H):
  ReturnsInHanded {} checked os 3 .any (λw args=>(Rows.restModelsSpec.pre enc prog Tryz.f3 [] false w args/\laidMetH prog zgC w)/\sizedMet enc prog Tryz.f3 (OpenSpec.ofChange Rows.restModelsSpec) false w args) (Rows.restModelsSpec.post enc prog Tryz.f3 false true false false):=by
 refine returnsInHanded_of_change_and (C:=checked) (X:=λw _=>laidMetH prog zgC w) (λ_ _ _ hh h=>h.of_heap hh) own started (by kernel_rfl) func3
  (ChangeSpec.witness_shaped (enc:=enc) (C:=checked) (os:=os) (X:=λw _=>laidMetH prog zgC w) false (World.doorLaid prog 62 os) #[.agg #[.slice none 0 0,.slice none 0 0,.int .i64 0,.int .i64 0],.string ⟨#[]⟩,.int .i64 0] 8 rfl (World.shaped_of_RefB (by kernel_rfl) (by kernel_rfl)) (by kernel_rfl) (by kernel_rfl) (by kernel_rfl) (zpW os _)) ?_
 intro W base args ds gs before hval0 hW hcnd hsz0 hL _;have hval:∀(j:Nat) t v,Tryz.f3.params[j]? =some t->args[j]? =some v->Value.okWide prog W .any base t v:=hval0;have hW':=hW;obtain⟨p,q,hA0,hV,rfl,hfz,hnd⟩:=hW;have hA:DataW.TrodAll enc prog W 0 (λ_=>true) true Tryz.f3.params.toList args.toList ds p:=hA0
 have hsz:(DataW.weightsEach prog (Tryz.f3.params.toList++Rows.restModelsSpec.plain.varTypes prog) (ds++gs)).all (·<=reachBytes)=true:=hsz0;rw[params3]at hA hval hsz
 obtain⟨v0,vs0,d0,ds0,p0,q0,hargs,rfl,rfl,h0,r0⟩:=trodAll_cons hA;obtain⟨v1,vs1,d1,ds1,p1,q1,rfl,rfl,rfl,h1,r1⟩:=trodAll_cons r0;obtain⟨v2,vs2,d2,ds2,p2,q2,rfl,rfl,rfl,h2,r2⟩:=trodAll_cons r1;obtain⟨rfl,rfl,rfl⟩:=trodAll_nil r2;obtain rfl:args= #[v0,v1,v2]:=by cases args;simp_all
 obtain⟨rfl,rfl⟩:=trodVars_none hV;have k0:=h0;have lt0:∀x∈p0,x.block<W.heap.size:=by obtain⟨m,hm⟩:=k0;exact DataW.trod_lt m _ _ _ hm
 obtain⟨c0,rfl,e0⟩:=okWide_struct underlying25 (hval 0 25 v0 rfl rfl);have s0:vOf (Value.agg c0).cells.toList=.agg c0:=zr8 (by rw[e0,zuo.1];decide)
 obtain⟨x0,y0⟩:=zgF zuo h0 s0 (zpX hsz (j:=0) rfl rfl);have k1:=h1;have lt1:∀x∈p1,x.block<W.heap.size:=by obtain⟨m,hm⟩:=k1;exact DataW.trod_lt m _ _ _ hm
 obtain⟨s1,rfl,hd1,_,hs1⟩:=open_string underlying9 (hval 1 9 v1 rfl rfl) h1
 have z1:s1.size<=140737488355328:=by
  have:=sized_string hsz (j:=1) (t:=9) (bytes:=s1.data.toList) rfl (by rw[hd1];rfl)
  have hr:reachBytes<=140737488355328:=by decide
  simp at this;omega
 have k2:=h2;have lt2:∀x∈p2,x.block<W.heap.size:=by obtain⟨m,hm⟩:=k2;exact DataW.trod_lt m _ _ _ hm
 obtain⟨n2,rfl,hd2,_,w2⟩:=open_int underlying3 (hval 2 3 v2 rfl rfl) h2;have z2:xE n2:=by simpa[xE,Lit.wf,IntKind.min,IntKind.max,IntKind.signed,IntKind.bits]using w2
 clear hA0 hval0 hsz hsz0;refine(oT.calls (T4 x0 s1 n2) W (.cons (zq4 y0) (.cons (zq6 z1) (.cons (zq5 z2) .nil))) (zq7 (zgD hL) (λ_ _=>trivial))).mono λe W' ⟨he,bel⟩=> ?_
 subst he;exact⟨_,rfl,_,_,_,[],_,[],hW',trodAll_mk1 (shut_bool underlying4 _),(trodAll_cons_mk (Below.trod laidOut (by kernel_rfl) (BY (by kernel_rfl)) k0 bel lt0) (trodAll_cons_mk (Below.trod laidOut (by kernel_rfl) (BY (by kernel_rfl)) k1 bel lt1) (trodAll_cons_mk (Below.trod laidOut (by kernel_rfl) (BY (by kernel_rfl)) k2 bel lt2) trodAll_mk0))),rfl,bel.frame _,λh=>by cases h⟩
theorem and_mk{a b:Bool}(h:a=true)(k:b=true):(a&&b)=true:=by rw[h,k];rfl
theorem fact0:(OpenClaim.wf (OpenSpec.ofChange Rows.restModelsSpec) Rows.restModelsRow)=true:=by kernel_rfl
theorem fact1:(laidOutB prog)=true:=by kernel_rfl
theorem fact2:(mapsRowed prog)=true:=by kernel_rfl
theorem fact3:(Tryz.f3.params.all λx=>prog.readableRec x)=true:=by kernel_rfl
theorem fact4:(namedTie prog Rows.restModelsRow.named Rows.restModelsSpec.vars)=true:=by kernel_rfl
theorem fact5:(Rows.restModelsRow.stops==[])=true:=by kernel_rfl
theorem fact6:(prog.stops==[])=true:=by kernel_rfl
theorem fact7:(Rows.restModelsRow.knobs==[])=true:=by kernel_rfl
theorem fact8:(prog.stopKnobs==[])=true:=by kernel_rfl
theorem fact9:(Rows.restModelsRow.inPlace==prog.inPlace 3)=true:=by kernel_rfl
theorem fact10:(Rows.restModelsRow.unfollowed==prog.unfollowed 3)=true:=by kernel_rfl
theorem fact11:(Rows.restModelsRow.recurses==prog.recurses 3)=true:=by kernel_rfl
theorem fact12:(Rows.restModelsRow.named==prog.varsNamed 3)=true:=by kernel_rfl
theorem fact13:(Rows.restModelsRow.maps==(Tryz.f3.params.toList++DataSpec.varTypes prog Rows.restModelsSpec.plain).any λx=>prog.mapsRec x)=true:=by kernel_rfl
theorem fact14:(Rows.restModelsRow.ifaces==(Tryz.f3.params.toList++DataSpec.varTypes prog Rows.restModelsSpec.plain).any λx=>prog.ifacesRec x)=true:=by kernel_rfl
theorem fact15:(Rows.restModelsRow.mapsOut==prog.mapsAmong Tryz.f3.resultTypes.toList)=true:=by kernel_rfl
theorem fact16:(Rows.restModelsRow.loops==(Tryz.f3.params.toList++DataSpec.varTypes prog Rows.restModelsSpec.plain).any λx=>prog.loopsFrom x)=true:=by kernel_rfl
theorem fact17:(Rows.restModelsRow.wideKeys==(Tryz.f3.params.toList++DataSpec.varTypes prog Rows.restModelsSpec.plain++Tryz.f3.resultTypes.toList).any λx=>prog.wideKeysFrom x)=true:=by kernel_rfl
theorem fact18:(Rows.restModelsSpec.vars.all λx=>prog.varReadable x)=true:=by kernel_rfl
theorem fact19:(Tryz.f3.resultTypes.all λt=>prog.readableRec t&&decide (t<prog.types.size))=true:=by kernel_rfl
theorem fact20:(Rows.restModelsRow.ifacesOut==Tryz.f3.resultTypes.toList.any λx=>prog.ifacesRec x)=true:=by kernel_rfl
theorem fact21:(Rows.restModelsRow.loopsOut==Tryz.f3.resultTypes.toList.any λx=>prog.loopsFrom x)=true:=by kernel_rfl
theorem fact22:(Rows.restModelsRow.plainKeys==prog.plainKeys)=true:=by kernel_rfl
theorem fact23:(Rows.restModelsRow.shortTexts.isNone)=true:=by kernel_rfl
theorem fact24:(prog.stopsHeard)=true:=by kernel_rfl
theorem fact25:(prog.mayEnter)=true:=by kernel_rfl
theorem fact26:(Rows.restModelsRow.lifted==prog.liftsFinal)=true:=by kernel_rfl
theorem fact27:(prog.make==some Rows.restModelsRow.make)=true:=by kernel_rfl
theorem fact28:(Rows.restModelsRow.kinds==if Rows.restModelsRow.domain.isEmpty=true then[]else List.map (λt=>match prog.underlying t with|some (TypeDesc.int k)=>some k|x=>none) Tryz.f3.params.toList)=true:=by kernel_rfl
theorem fact29:(Rows.restModelsRow.pinned==Rows.restModelsRow.pinnedBy)=true:=by kernel_rfl
theorem fact30:(Rows.restModelsRow.veiled==(Tryz.f3.params.toList++DataSpec.varTypes prog Rows.restModelsSpec.plain++Tryz.f3.resultTypes.toList).any λx=>prog.veiledRec x)=true:=by kernel_rfl
theorem fact31:(Rows.restModelsRow.veiledFits prog Tryz.f3.params.toList (Tryz.f3.params.toList++DataSpec.varTypes prog Rows.restModelsSpec.plain++Tryz.f3.resultTypes.toList))=true:=by kernel_rfl
set_option maxRecDepth 100000 in
theorem joined:joinedFacts prog 3 Tryz.f3 Rows.restModelsSpec Rows.restModelsRow=true:=by
 have g1:=and_mk fact0 fact1;have g2:=and_mk g1 fact2;have g3:=and_mk g2 fact3;have g4:=and_mk g3 fact4;have g5:=and_mk g4 fact5;have g6:=and_mk g5 fact6;have g7:=and_mk g6 fact7;have g8:=and_mk g7 fact8;have g9:=and_mk g8 fact9;have g10:=and_mk g9 fact10;have g11:=and_mk g10 fact11;have g12:=and_mk g11 fact12;have g13:=and_mk g12 fact13;have g14:=and_mk g13 fact14;have g15:=and_mk g14 fact15;have g16:=and_mk g15 fact16;have g17:=and_mk g16 fact17;have g18:=and_mk g17 fact18;have g19:=and_mk g18 fact19;have g20:=and_mk g19 fact20;have g21:=and_mk g20 fact21;have g22:=and_mk g21 fact22;have g23:=and_mk g22 fact23;have g24:=and_mk g23 fact24;have g25:=and_mk g24 fact25;have g26:=and_mk g25 fact26;have g27:=and_mk g26 fact27;have g28:=and_mk g27 fact28;have g29:=and_mk g28 fact29;have g30:=and_mk g29 fact30;have g31:=and_mk g30 fact31;exact g31
set_option maxRecDepth 100000 in
theorem over:Rows.restModelsRow.holds Tryz.pinned (OpenSpec.ofChange Rows.restModelsSpec):=
 OpenClaim.holds_of_wide 3 Tryz.f3 rfl rfl rfl rfl rfl rfl rfl ⟨rfl,rfl,rfl,rfl,rfl⟩ rfl rfl rfl rfl rfl (by kernel_rfl) func3 joined
  (BY (by kernel_rfl)) (by unfold Func.isWrapper;first|(rw[As (by decide+kernel)];kernel_rfl)|(rw[An (by decide+kernel)];exact⟨rfl,rfl⟩))
  (λos started H enc _=>lifted os started H enc)
theorem proved:Rows.RestModelsCardSaid:=
 Claim7.holds_tied_plain_at .later [] [.data,.data,.data,.sentinel,.sentinel] true (true,"4ac28ef53b7d6f9549072e27aeb2a642546617873e9f880d866da66111ebdd32") true
  over (λ_ h=>by cases h) (by kernel_rfl) (λ_ h=>by cases h) restModels_row_tie rfl ⟨rfl,rfl⟩ (by kernel_rfl) rfl
  (λf fn hf hfn=>by
   obtain rfl:f=3:=Option.some.inj ((show prog.funcNamed "cordon/cordonlaw.RestModels" =some 3 by kernel_rfl).symm.trans hf)|>.symm
   obtain rfl:fn=Tryz.f3:=(Option.some.inj (func3.symm.trans hfn)).symm
   exact⟨by kernel_rfl,λj t ht=>by
    rw[params3]at ht
    have hm:t∈[25,9,3]:=by simpa using Array.mem_of_getElem? ht
    have hall:([25,9,3].all λu=> !prog.wantsStandIn u)=true:=by kernel_rfl
    exact(show prog.wantsStandIn t=false by simpa using Aav.1 hall t hm)⟩)
  (by kernel_rfl)
end Go.Proofs.YtdnmkinmcdihnaaGreatDoor.restModelsCard
