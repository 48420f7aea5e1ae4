/- The law ReportWhole, as a tied card: what is answered of a text is verified of it, and what is verified is best, or there is nothing. No condition. -/
import Derived.Test.YtogdmcebojiojaaGreatDoorRows
import Derived.Test.YtogdmcebojiojaaGreatDoorTie
import Derived.Test.YtogdmcebojiojaaGreatDoorCards
import Derived.SevenTiedAt
import Derived.ProofKit
import Derived.OpenShut
import Derived.ShutString
import Derived.ChangeOld
import Derived.SizedLaws
import Derived.Test.YtogdmcebojiojaaGreatDoorZF
namespace Go.Proofs.YtogdmcebojiojaaGreatDoor.reportWholeCard
open Go.ChangeShapes Go.WideShapes Go.ChangeAt Go.RowKit
open Go.ChangeMaps (open_string shut_string)
set_option linter.unusedVariables false
set_option linter.unusedSimpArgs false
theorem own:ownKnob Tryz.prog.godebug=none:=by kernel_rfl
theorem laidOut:laidOutB Tryz.prog=true:=by kernel_rfl
set_option maxRecDepth 100000 in
theorem lifted(os:Os)(started:os.Started)(H:Type)(enc:TypeId×Value→H):
  ReturnsInHanded {} Tryz.checked os 8 .any (λw args=>(Rows.reportWholeSpec.pre enc Tryz.prog Tryz.f8 [] false w args∧laidMetH Tryz.prog zaM w)∧sizedMet enc Tryz.prog Tryz.f8 (OpenSpec.ofChange Rows.reportWholeSpec) false w args) (Rows.reportWholeSpec.post enc Tryz.prog Tryz.f8 false true false false):=by
 refine returnsInHanded_of_change_and (C:=Tryz.checked) (X:=λw _=>laidMetH Tryz.prog zaM w) (λ_ _ _ hh h=>h.of_heap hh) own started (by kernel_rfl) Tryz.func8
  (ChangeSpec.witness_shaped (enc:=enc) (C:=Tryz.checked) (os:=os) (X:=λw _=>laidMetH Tryz.prog zaM w) false (World.doorLaid Tryz.prog 62 os) #[.string ⟨#[]⟩,.int .i64 0,.slice none 0 0,.slice none 0 0,.slice none 0 0] 8 rfl (World.shaped_of_RefB (by kernel_rfl) (by kernel_rfl)) (by kernel_rfl) (by kernel_rfl) (by kernel_rfl) (zhj os _)) ?_
 intro W base args ds gs before hval0 hW hcnd hsz0 hL _;have hval:∀(j:Nat) t v,Tryz.f8.params[j]? =some t→args[j]? =some v→Value.okWide Tryz.prog W .any base t v:=hval0;have hW':=hW;obtain⟨p,q,hA0,hV,rfl,hfz,hnd⟩:=hW;have hA:DataW.TrodAll enc Tryz.prog W 0 (λ_=>true) true Tryz.f8.params.toList args.toList ds p:=hA0
 have hsz:(DataW.weightsEach Tryz.prog (Tryz.f8.params.toList++Rows.reportWholeSpec.plain.varTypes Tryz.prog) (ds++gs)).all (·≤reachBytes)=true:=hsz0;rw[Tryz.params8]at hA hval hsz
 obtain⟨v0,vs0,d0,ds0,p0,q0,hargs,rfl,rfl,h0,r0⟩:=trodAll_cons hA;obtain⟨v1,vs1,d1,ds1,p1,q1,rfl,rfl,rfl,h1,r1⟩:=trodAll_cons r0;obtain⟨v2,vs2,d2,ds2,p2,q2,rfl,rfl,rfl,h2,r2⟩:=trodAll_cons r1;obtain⟨v3,vs3,d3,ds3,p3,q3,rfl,rfl,rfl,h3,r3⟩:=trodAll_cons r2;obtain⟨v4,vs4,d4,ds4,p4,q4,rfl,rfl,rfl,h4,r4⟩:=trodAll_cons r3;obtain⟨rfl,rfl,rfl⟩:=trodAll_nil r4;obtain rfl:args= #[v0,v1,v2,v3,v4]:=by cases args;simp_all
 obtain⟨rfl,rfl⟩:=trodVars_none hV;have k0:=h0;have lt0:∀x∈p0,x.block<W.heap.size:=by obtain⟨m,hm⟩:=k0;exact DataW.trod_lt m _ _ _ hm
 obtain⟨s0,rfl,hd0,_,hs0⟩:=open_string Tryz.underlying9 (hval 0 9 v0 rfl rfl) h0
 have z0:s0.size≤140737488355328:=by
  have:=sized_string hsz (j:=0) (t:=9) (bytes:=s0.data.toList) rfl (by rw[hd0];rfl)
  have hr:reachBytes≤140737488355328:=by decide
  simp at this;omega
 have k1:=h1;have lt1:∀x∈p1,x.block<W.heap.size:=by obtain⟨m,hm⟩:=k1;exact DataW.trod_lt m _ _ _ hm
 obtain⟨n1,rfl,hd1,_,w1⟩:=open_int Tryz.underlying3 (hval 1 3 v1 rfl rfl) h1;have z1:yQ n1:=by simpa[yQ,Lit.wf,IntKind.min,IntKind.max,IntKind.signed,IntKind.bits]using w1
 have k2:=h2;have lt2:∀x∈p2,x.block<W.heap.size:=by obtain⟨m,hm⟩:=k2;exact DataW.trod_lt m _ _ _ hm
 obtain⟨a2,l2,c2,rfl⟩:=okWide_slice Tryz.underlying40 (hval 2 40 v2 rfl rfl);have s2:vOf (Value.slice a2 l2 c2).cells.toList=.slice a2 l2 c2:=rfl;obtain⟨x2,y2⟩:=RE zi0 h2 s2 (FC hsz (j:=2) rfl rfl);have k3:=h3;have lt3:∀x∈p3,x.block<W.heap.size:=by obtain⟨m,hm⟩:=k3;exact DataW.trod_lt m _ _ _ hm
 obtain⟨a3,l3,c3,rfl⟩:=okWide_slice Tryz.underlying41 (hval 3 41 v3 rfl rfl);have s3:vOf (Value.slice a3 l3 c3).cells.toList=.slice a3 l3 c3:=rfl;obtain⟨x3,y3⟩:=RE zjL h3 s3 (FC hsz (j:=3) rfl rfl);have k4:=h4;have lt4:∀x∈p4,x.block<W.heap.size:=by obtain⟨m,hm⟩:=k4;exact DataW.trod_lt m _ _ _ hm
 obtain⟨a4,l4,c4,rfl⟩:=okWide_slice Tryz.underlying40 (hval 4 40 v4 rfl rfl);have s4:vOf (Value.slice a4 l4 c4).cells.toList=.slice a4 l4 c4:=rfl;obtain⟨x4,y4⟩:=RE zi0 h4 s4 (FC hsz (j:=4) rfl rfl);clear hA0 hval0 hsz hsz0;refine(Yl.calls (W0 s0 n1 x2 x3 x4) W (.cons (zh5 z0) (.cons (zh4 z1) (.cons (Aj y2) (.cons (zdY y3) (.cons (Aj y4) .nil))))) (zh6 (zaN hL))).mono λe W' ⟨he,bel⟩=> ?_
 subst he;exact⟨_,rfl,_,_,_,[],_,[],hW',trodAll_mk1 (shut_bool Tryz.underlying4 _),(trodAll_cons_mk (Below.trod laidOut (by kernel_rfl) (of_decide_eq_true (by kernel_rfl)) k0 bel lt0) (trodAll_cons_mk (Below.trod laidOut (by kernel_rfl) (of_decide_eq_true (by kernel_rfl)) k1 bel lt1) (trodAll_cons_mk (Below.trod laidOut (by kernel_rfl) (of_decide_eq_true (by kernel_rfl)) k2 bel lt2) (trodAll_cons_mk (Below.trod laidOut (by kernel_rfl) (of_decide_eq_true (by kernel_rfl)) k3 bel lt3) (trodAll_cons_mk (Below.trod laidOut (by kernel_rfl) (of_decide_eq_true (by kernel_rfl)) k4 bel lt4) trodAll_mk0))))),rfl,bel.frame _,λh=>by cases h⟩
theorem and_mk{a b:Bool}(h:a=true)(k:b=true):(a&&b)=true:=by rw[h,k];rfl
theorem fact0:(OpenClaim.wf (OpenSpec.ofChange Rows.reportWholeSpec) Rows.reportWholeRow)=true:=by kernel_rfl
theorem fact1:(laidOutB Tryz.prog)=true:=by kernel_rfl
theorem fact2:(mapsRowed Tryz.prog)=true:=by kernel_rfl
theorem fact3:(Tryz.f8.params.all λx=>Tryz.prog.readableRec x)=true:=by kernel_rfl
theorem fact4:(namedTie Tryz.prog Rows.reportWholeRow.named Rows.reportWholeSpec.vars)=true:=by kernel_rfl
theorem fact5:(Rows.reportWholeRow.stops==[])=true:=by kernel_rfl
theorem fact6:(Tryz.prog.stops==[])=true:=by kernel_rfl
theorem fact7:(Rows.reportWholeRow.knobs==[])=true:=by kernel_rfl
theorem fact8:(Tryz.prog.stopKnobs==[])=true:=by kernel_rfl
theorem fact9:(Rows.reportWholeRow.inPlace==Tryz.prog.inPlace 8)=true:=by kernel_rfl
theorem fact10:(Rows.reportWholeRow.unfollowed==Tryz.prog.unfollowed 8)=true:=by kernel_rfl
theorem fact11:(Rows.reportWholeRow.recurses==Tryz.prog.recurses 8)=true:=by kernel_rfl
theorem fact12:(Rows.reportWholeRow.named==Tryz.prog.varsNamed 8)=true:=by kernel_rfl
theorem fact13:(Rows.reportWholeRow.maps==(Tryz.f8.params.toList++DataSpec.varTypes Tryz.prog Rows.reportWholeSpec.plain).any λx=>Tryz.prog.mapsRec x)=true:=by kernel_rfl
theorem fact14:(Rows.reportWholeRow.ifaces==(Tryz.f8.params.toList++DataSpec.varTypes Tryz.prog Rows.reportWholeSpec.plain).any λx=>Tryz.prog.ifacesRec x)=true:=by kernel_rfl
theorem fact15:(Rows.reportWholeRow.mapsOut==Tryz.prog.mapsAmong Tryz.f8.resultTypes.toList)=true:=by kernel_rfl
theorem fact16:(Rows.reportWholeRow.loops==(Tryz.f8.params.toList++DataSpec.varTypes Tryz.prog Rows.reportWholeSpec.plain).any λx=>Tryz.prog.loopsFrom x)=true:=by kernel_rfl
theorem fact17:(Rows.reportWholeRow.wideKeys==(Tryz.f8.params.toList++DataSpec.varTypes Tryz.prog Rows.reportWholeSpec.plain++Tryz.f8.resultTypes.toList).any λx=>Tryz.prog.wideKeysFrom x)=true:=by kernel_rfl
theorem fact18:(Rows.reportWholeSpec.vars.all λx=>Tryz.prog.varReadable x)=true:=by kernel_rfl
theorem fact19:(Tryz.f8.resultTypes.all λt=>Tryz.prog.readableRec t&&decide (t<Tryz.prog.types.size))=true:=by kernel_rfl
theorem fact20:(Rows.reportWholeRow.ifacesOut==Tryz.f8.resultTypes.toList.any λx=>Tryz.prog.ifacesRec x)=true:=by kernel_rfl
theorem fact21:(Rows.reportWholeRow.loopsOut==Tryz.f8.resultTypes.toList.any λx=>Tryz.prog.loopsFrom x)=true:=by kernel_rfl
theorem fact22:(Rows.reportWholeRow.plainKeys==Tryz.prog.plainKeys)=true:=by kernel_rfl
theorem fact23:(Rows.reportWholeRow.shortTexts.isNone)=true:=by kernel_rfl
theorem fact24:(Tryz.prog.stopsHeard)=true:=by kernel_rfl
theorem fact25:(Tryz.prog.mayEnter)=true:=by kernel_rfl
theorem fact26:(Rows.reportWholeRow.lifted==Tryz.prog.liftsFinal)=true:=by kernel_rfl
theorem fact27:(Tryz.prog.make==some Rows.reportWholeRow.make)=true:=by kernel_rfl
theorem fact28:(Rows.reportWholeRow.kinds==if Rows.reportWholeRow.domain.isEmpty=true then[]else List.map (λt=>match Tryz.prog.underlying t with|some (TypeDesc.int k)=>some k|x=>none) Tryz.f8.params.toList)=true:=by kernel_rfl
theorem fact29:(Rows.reportWholeRow.pinned==Rows.reportWholeRow.pinnedBy)=true:=by kernel_rfl
theorem fact30:(Rows.reportWholeRow.veiled==(Tryz.f8.params.toList++DataSpec.varTypes Tryz.prog Rows.reportWholeSpec.plain++Tryz.f8.resultTypes.toList).any λx=>Tryz.prog.veiledRec x)=true:=by kernel_rfl
theorem fact31:(Rows.reportWholeRow.veiledFits Tryz.prog Tryz.f8.params.toList (Tryz.f8.params.toList++DataSpec.varTypes Tryz.prog Rows.reportWholeSpec.plain++Tryz.f8.resultTypes.toList))=true:=by kernel_rfl
set_option maxRecDepth 100000 in
theorem joined:joinedFacts Tryz.prog 8 Tryz.f8 Rows.reportWholeSpec Rows.reportWholeRow=true:=by
 have g1:=and_mk fact0 fact1;have g2:=and_mk g1 fact2;have g3:=and_mk g2 fact3;have g4:=and_mk g3 fact4;have g5:=and_mk g4 fact5;have g6:=and_mk g5 fact6;have g7:=and_mk g6 fact7;have g8:=and_mk g7 fact8;have g9:=and_mk g8 fact9;have g10:=and_mk g9 fact10;have g11:=and_mk g10 fact11;have g12:=and_mk g11 fact12;have g13:=and_mk g12 fact13;have g14:=and_mk g13 fact14;have g15:=and_mk g14 fact15;have g16:=and_mk g15 fact16;have g17:=and_mk g16 fact17;have g18:=and_mk g17 fact18;have g19:=and_mk g18 fact19;have g20:=and_mk g19 fact20;have g21:=and_mk g20 fact21;have g22:=and_mk g21 fact22;have g23:=and_mk g22 fact23;have g24:=and_mk g23 fact24;have g25:=and_mk g24 fact25;have g26:=and_mk g25 fact26;have g27:=and_mk g26 fact27;have g28:=and_mk g27 fact28;have g29:=and_mk g28 fact29;have g30:=and_mk g29 fact30;have g31:=and_mk g30 fact31;exact g31
theorem over:Rows.reportWholeRow.holds Tryz.pinned (OpenSpec.ofChange Rows.reportWholeSpec):=
 OpenClaim.holds_of_wide 8 Tryz.f8 rfl rfl rfl rfl rfl rfl rfl ⟨rfl,rfl,rfl,rfl,rfl⟩ rfl rfl rfl rfl rfl (by kernel_rfl) Tryz.func8 joined
  (of_decide_eq_true (by kernel_rfl)) (by unfold Func.isWrapper;first|(rw[if_pos (by decide+kernel)];kernel_rfl)|(rw[if_neg (by decide+kernel)];exact⟨rfl,rfl⟩))
  (λos started H enc _=>lifted os started H enc)
theorem fwf:Rows.reportWholeRow.wfByText (OpenSpec.ofChange Rows.reportWholeSpec)=true:=by kernel_rfl
theorem fmain:Tryz.prog.mainIs=some (true,String.toList "71b267f0d22864643fff2e80e01a46fb1b49e49d7215b6a929fa4b3e8b96c126"):=by kernel_rfl
theorem fname:Tryz.prog.funcNamed "cordon/cordonlaw.ReportWhole" =some 8:=by kernel_rfl
theorem flooks:true=Tryz.prog.looks []:=by kernel_rfl
theorem fall:([9,3,40,41,40].all λu=> !Tryz.prog.wantsStandIn u)=true:=by kernel_rfl
theorem fgoes:false=Rows.reportWholeRow.goesBy Tryz.prog:=by kernel_rfl
theorem proved:Rows.ReportWholeCardSaid:=
 Claim7.holds_tied_plain_at .later [] [.data,.data,.data,.sentinel,.sentinel] true (true,"71b267f0d22864643fff2e80e01a46fb1b49e49d7215b6a929fa4b3e8b96c126") true
  over (λ_ h=>by cases h) fwf (λ_ h=>by cases h) reportWhole_row_tie rfl ⟨rfl,rfl⟩ fmain rfl
  (λf fn hf hfn=>by
   obtain rfl:f=8:=Option.some.inj (fname.symm.trans hf)|>.symm
   obtain rfl:fn=Tryz.f8:=(Option.some.inj (Tryz.func8.symm.trans hfn)).symm
   exact ⟨flooks,λj t ht=>by
    rw[Tryz.params8]at ht
    have hm:t∈[9,3,40,41,40]:=by simpa using Array.mem_of_getElem? ht
    have hall:=fall
    exact(show Tryz.prog.wantsStandIn t=false by simpa using List.all_eq_true.1 hall t hm)⟩)
  fgoes
end Go.Proofs.YtogdmcebojiojaaGreatDoor.reportWholeCard
