/- The law ReportAnswers, as a tied card: Answer answers of a text what the document says of what Best does with its model, errors too. No condition. -/
import Derived.Test.YtogdmcebojiojaaGreatDoorRows
import Derived.Test.YtogdmcebojiojaaGreatDoorTie
import Derived.Test.YtogdmcebojiojaaGreatDoorCards
import Derived.SevenTiedAt
import Derived.ProofKit
import Derived.OpenShut
import Derived.ShutString
import Derived.ChangeOld
import Derived.SizedLaws
import Derived.Test.YtogdmcebojiojaaGreatDoorZF
namespace Go.Proofs.YtogdmcebojiojaaGreatDoor.reportAnswersCard
open Go.ChangeShapes Go.WideShapes Go.ChangeAt Go.RowKit
open Go.ChangeMaps (open_string shut_string)
set_option linter.unusedVariables false
set_option linter.unusedSimpArgs false
theorem own:ownKnob Tryz.prog.godebug=none:=by kernel_rfl
theorem laidOut:laidOutB Tryz.prog=true:=by kernel_rfl
set_option maxRecDepth 100000 in
theorem lifted(os:Os)(started:os.Started)(H:Type)(enc:TypeId×Value→H):
  ReturnsInHanded {} Tryz.checked os 6 .any (λw args=>(Rows.reportAnswersSpec.pre enc Tryz.prog Tryz.f6 [] false w args∧laidMetH Tryz.prog zb9 w)∧sizedMet enc Tryz.prog Tryz.f6 (OpenSpec.ofChange Rows.reportAnswersSpec) false w args) (Rows.reportAnswersSpec.post enc Tryz.prog Tryz.f6 false true false false):=by
 refine returnsInHanded_of_change_and (C:=Tryz.checked) (X:=λw _=>laidMetH Tryz.prog zb9 w) (λ_ _ _ hh h=>h.of_heap hh) own started (by kernel_rfl) Tryz.func6
  (ChangeSpec.witness_shaped (enc:=enc) (C:=Tryz.checked) (os:=os) (X:=λw _=>laidMetH Tryz.prog zb9 w) false (World.doorLaid Tryz.prog 62 os) #[.string ⟨#[]⟩,.int .i64 0] 8 rfl (World.shaped_of_RefB (by kernel_rfl) (by kernel_rfl)) (by kernel_rfl) (by kernel_rfl) (by kernel_rfl) (ziz os _)) ?_
 intro W base args ds gs before hval0 hW hcnd hsz0 hL _;have hval:∀(j:Nat) t v,Tryz.f6.params[j]? =some t→args[j]? =some v→Value.okWide Tryz.prog W .any base t v:=hval0;have hW':=hW;obtain⟨p,q,hA0,hV,rfl,hfz,hnd⟩:=hW;have hA:DataW.TrodAll enc Tryz.prog W 0 (λ_=>true) true Tryz.f6.params.toList args.toList ds p:=hA0
 have hsz:(DataW.weightsEach Tryz.prog (Tryz.f6.params.toList++Rows.reportAnswersSpec.plain.varTypes Tryz.prog) (ds++gs)).all (·≤reachBytes)=true:=hsz0;rw[Tryz.params6]at hA hval hsz
 obtain⟨v0,vs0,d0,ds0,p0,q0,hargs,rfl,rfl,h0,r0⟩:=trodAll_cons hA;obtain⟨v1,vs1,d1,ds1,p1,q1,rfl,rfl,rfl,h1,r1⟩:=trodAll_cons r0;obtain⟨rfl,rfl,rfl⟩:=trodAll_nil r1;obtain rfl:args= #[v0,v1]:=by cases args;simp_all
 obtain⟨rfl,rfl⟩:=trodVars_none hV;have k0:=h0;have lt0:∀x∈p0,x.block<W.heap.size:=by obtain⟨m,hm⟩:=k0;exact DataW.trod_lt m _ _ _ hm
 obtain⟨s0,rfl,hd0,_,hs0⟩:=open_string Tryz.underlying9 (hval 0 9 v0 rfl rfl) h0
 have z0:s0.size≤140737488355328:=by
  have:=sized_string hsz (j:=0) (t:=9) (bytes:=s0.data.toList) rfl (by rw[hd0];rfl)
  have hr:reachBytes≤140737488355328:=by decide
  simp at this;omega
 have k1:=h1;have lt1:∀x∈p1,x.block<W.heap.size:=by obtain⟨m,hm⟩:=k1;exact DataW.trod_lt m _ _ _ hm
 obtain⟨n1,rfl,hd1,_,w1⟩:=open_int Tryz.underlying3 (hval 1 3 v1 rfl rfl) h1;have z1:yJ n1:=by simpa[yJ,Lit.wf,IntKind.min,IntKind.max,IntKind.signed,IntKind.bits]using w1
 clear hA0 hval0 hsz hsz0;refine(XJ.calls (Vw s0 n1) W (.cons (zjg z0) (.cons (zjf z1) .nil)) (zjh (zca hL))).mono λe W' ⟨he,bel⟩=> ?_
 subst he;exact⟨_,rfl,_,_,_,[],_,[],hW',trodAll_mk1 (shut_bool Tryz.underlying4 _),(trodAll_cons_mk (Below.trod laidOut (by kernel_rfl) (of_decide_eq_true (by kernel_rfl)) k0 bel lt0) (trodAll_cons_mk (Below.trod laidOut (by kernel_rfl) (of_decide_eq_true (by kernel_rfl)) k1 bel lt1) trodAll_mk0)),rfl,bel.frame _,λh=>by cases h⟩
theorem and_mk{a b:Bool}(h:a=true)(k:b=true):(a&&b)=true:=by rw[h,k];rfl
theorem fact0:(OpenClaim.wf (OpenSpec.ofChange Rows.reportAnswersSpec) Rows.reportAnswersRow)=true:=by kernel_rfl
theorem fact1:(laidOutB Tryz.prog)=true:=by kernel_rfl
theorem fact2:(mapsRowed Tryz.prog)=true:=by kernel_rfl
theorem fact3:(Tryz.f6.params.all λx=>Tryz.prog.readableRec x)=true:=by kernel_rfl
theorem fact4:(namedTie Tryz.prog Rows.reportAnswersRow.named Rows.reportAnswersSpec.vars)=true:=by kernel_rfl
theorem fact5:(Rows.reportAnswersRow.stops==[])=true:=by kernel_rfl
theorem fact6:(Tryz.prog.stops==[])=true:=by kernel_rfl
theorem fact7:(Rows.reportAnswersRow.knobs==[])=true:=by kernel_rfl
theorem fact8:(Tryz.prog.stopKnobs==[])=true:=by kernel_rfl
theorem fact9:(Rows.reportAnswersRow.inPlace==Tryz.prog.inPlace 6)=true:=by kernel_rfl
theorem fact10:(Rows.reportAnswersRow.unfollowed==Tryz.prog.unfollowed 6)=true:=by kernel_rfl
theorem fact11:(Rows.reportAnswersRow.recurses==Tryz.prog.recurses 6)=true:=by kernel_rfl
theorem fact12:(Rows.reportAnswersRow.named==Tryz.prog.varsNamed 6)=true:=by kernel_rfl
theorem fact13:(Rows.reportAnswersRow.maps==(Tryz.f6.params.toList++DataSpec.varTypes Tryz.prog Rows.reportAnswersSpec.plain).any λx=>Tryz.prog.mapsRec x)=true:=by kernel_rfl
theorem fact14:(Rows.reportAnswersRow.ifaces==(Tryz.f6.params.toList++DataSpec.varTypes Tryz.prog Rows.reportAnswersSpec.plain).any λx=>Tryz.prog.ifacesRec x)=true:=by kernel_rfl
theorem fact15:(Rows.reportAnswersRow.mapsOut==Tryz.prog.mapsAmong Tryz.f6.resultTypes.toList)=true:=by kernel_rfl
theorem fact16:(Rows.reportAnswersRow.loops==(Tryz.f6.params.toList++DataSpec.varTypes Tryz.prog Rows.reportAnswersSpec.plain).any λx=>Tryz.prog.loopsFrom x)=true:=by kernel_rfl
theorem fact17:(Rows.reportAnswersRow.wideKeys==(Tryz.f6.params.toList++DataSpec.varTypes Tryz.prog Rows.reportAnswersSpec.plain++Tryz.f6.resultTypes.toList).any λx=>Tryz.prog.wideKeysFrom x)=true:=by kernel_rfl
theorem fact18:(Rows.reportAnswersSpec.vars.all λx=>Tryz.prog.varReadable x)=true:=by kernel_rfl
theorem fact19:(Tryz.f6.resultTypes.all λt=>Tryz.prog.readableRec t&&decide (t<Tryz.prog.types.size))=true:=by kernel_rfl
theorem fact20:(Rows.reportAnswersRow.ifacesOut==Tryz.f6.resultTypes.toList.any λx=>Tryz.prog.ifacesRec x)=true:=by kernel_rfl
theorem fact21:(Rows.reportAnswersRow.loopsOut==Tryz.f6.resultTypes.toList.any λx=>Tryz.prog.loopsFrom x)=true:=by kernel_rfl
theorem fact22:(Rows.reportAnswersRow.plainKeys==Tryz.prog.plainKeys)=true:=by kernel_rfl
theorem fact23:(Rows.reportAnswersRow.shortTexts.isNone)=true:=by kernel_rfl
theorem fact24:(Tryz.prog.stopsHeard)=true:=by kernel_rfl
theorem fact25:(Tryz.prog.mayEnter)=true:=by kernel_rfl
theorem fact26:(Rows.reportAnswersRow.lifted==Tryz.prog.liftsFinal)=true:=by kernel_rfl
theorem fact27:(Tryz.prog.make==some Rows.reportAnswersRow.make)=true:=by kernel_rfl
theorem fact28:(Rows.reportAnswersRow.kinds==if Rows.reportAnswersRow.domain.isEmpty=true then[]else List.map (λt=>match Tryz.prog.underlying t with|some (TypeDesc.int k)=>some k|x=>none) Tryz.f6.params.toList)=true:=by kernel_rfl
theorem fact29:(Rows.reportAnswersRow.pinned==Rows.reportAnswersRow.pinnedBy)=true:=by kernel_rfl
theorem fact30:(Rows.reportAnswersRow.veiled==(Tryz.f6.params.toList++DataSpec.varTypes Tryz.prog Rows.reportAnswersSpec.plain++Tryz.f6.resultTypes.toList).any λx=>Tryz.prog.veiledRec x)=true:=by kernel_rfl
theorem fact31:(Rows.reportAnswersRow.veiledFits Tryz.prog Tryz.f6.params.toList (Tryz.f6.params.toList++DataSpec.varTypes Tryz.prog Rows.reportAnswersSpec.plain++Tryz.f6.resultTypes.toList))=true:=by kernel_rfl
set_option maxRecDepth 100000 in
theorem joined:joinedFacts Tryz.prog 6 Tryz.f6 Rows.reportAnswersSpec Rows.reportAnswersRow=true:=by
 have g1:=and_mk fact0 fact1;have g2:=and_mk g1 fact2;have g3:=and_mk g2 fact3;have g4:=and_mk g3 fact4;have g5:=and_mk g4 fact5;have g6:=and_mk g5 fact6;have g7:=and_mk g6 fact7;have g8:=and_mk g7 fact8;have g9:=and_mk g8 fact9;have g10:=and_mk g9 fact10;have g11:=and_mk g10 fact11;have g12:=and_mk g11 fact12;have g13:=and_mk g12 fact13;have g14:=and_mk g13 fact14;have g15:=and_mk g14 fact15;have g16:=and_mk g15 fact16;have g17:=and_mk g16 fact17;have g18:=and_mk g17 fact18;have g19:=and_mk g18 fact19;have g20:=and_mk g19 fact20;have g21:=and_mk g20 fact21;have g22:=and_mk g21 fact22;have g23:=and_mk g22 fact23;have g24:=and_mk g23 fact24;have g25:=and_mk g24 fact25;have g26:=and_mk g25 fact26;have g27:=and_mk g26 fact27;have g28:=and_mk g27 fact28;have g29:=and_mk g28 fact29;have g30:=and_mk g29 fact30;have g31:=and_mk g30 fact31;exact g31
theorem over:Rows.reportAnswersRow.holds Tryz.pinned (OpenSpec.ofChange Rows.reportAnswersSpec):=
 OpenClaim.holds_of_wide 6 Tryz.f6 rfl rfl rfl rfl rfl rfl rfl ⟨rfl,rfl,rfl,rfl,rfl⟩ rfl rfl rfl rfl rfl (by kernel_rfl) Tryz.func6 joined
  (of_decide_eq_true (by kernel_rfl)) (by unfold Func.isWrapper;first|(rw[if_pos (by decide+kernel)];kernel_rfl)|(rw[if_neg (by decide+kernel)];exact⟨rfl,rfl⟩))
  (λos started H enc _=>lifted os started H enc)
theorem fwf:Rows.reportAnswersRow.wfByText (OpenSpec.ofChange Rows.reportAnswersSpec)=true:=by kernel_rfl
theorem fmain:Tryz.prog.mainIs=some (true,String.toList "71b267f0d22864643fff2e80e01a46fb1b49e49d7215b6a929fa4b3e8b96c126"):=by kernel_rfl
theorem fname:Tryz.prog.funcNamed "cordon/cordonlaw.ReportAnswers" =some 6:=by kernel_rfl
theorem flooks:true=Tryz.prog.looks []:=by kernel_rfl
theorem fall:([9,3].all λu=> !Tryz.prog.wantsStandIn u)=true:=by kernel_rfl
theorem fgoes:false=Rows.reportAnswersRow.goesBy Tryz.prog:=by kernel_rfl
theorem proved:Rows.ReportAnswersCardSaid:=
 Claim7.holds_tied_plain_at .later [] [.data,.data,.data,.sentinel,.sentinel] true (true,"71b267f0d22864643fff2e80e01a46fb1b49e49d7215b6a929fa4b3e8b96c126") true
  over (λ_ h=>by cases h) fwf (λ_ h=>by cases h) reportAnswers_row_tie rfl ⟨rfl,rfl⟩ fmain rfl
  (λf fn hf hfn=>by
   obtain rfl:f=6:=Option.some.inj (fname.symm.trans hf)|>.symm
   obtain rfl:fn=Tryz.f6:=(Option.some.inj (Tryz.func6.symm.trans hfn)).symm
   exact ⟨flooks,λj t ht=>by
    rw[Tryz.params6]at ht
    have hm:t∈[9,3]:=by simpa using Array.mem_of_getElem? ht
    have hall:=fall
    exact(show Tryz.prog.wantsStandIn t=false by simpa using List.all_eq_true.1 hall t hm)⟩)
  fgoes
end Go.Proofs.YtogdmcebojiojaaGreatDoor.reportAnswersCard
