/- The law SearchSolves, as a tied card: for whatever model and fuel, what the search finds holds, a proof of none is right, and with much fuel a small model is never left unknown; errors too. -/
import Derived.Test.YtajnbkhgnppckaaGreatDoorRows
import Derived.Test.YtajnbkhgnppckaaGreatDoorMN
import Derived.Test.YtajnbkhgnppckaaGreatDoorME
import Derived.Test.YtajnbkhgnppckaaGreatDoorPDoor
import Derived.Test.YtajnbkhgnppckaaGreatDoorTie
import Derived.Test.YtajnbkhgnppckaaGreatDoorCards
import Derived.SevenTiedAt
import Derived.Test.YtajnbkhgnppckaaGreatDoorTypes
import Derived.ProofKit
import Derived.OpenShut
import Derived.ShutString
import Derived.ChangeOld
import Derived.SizedLaws
namespace Go.Proofs.YtajnbkhgnppckaaGreatDoor.searchSolvesCard
open Go.ChangeShapes Go.WideShapes Go.ChangeAt Go.RowKit
open Go.ChangeMaps (open_string shut_string)
set_option linter.unusedVariables false
theorem own : ownKnob Tryz.prog.godebug = none := by kernel_rfl
theorem laidOut : laidOutB Tryz.prog = true := by kernel_rfl
set_option maxRecDepth 100000 in
theorem lifted (os : Os) (started : os.Started) (H : Type) (enc : TypeId × Value → H) :
  ReturnsInHanded {} Tryz.checked os 8 .any (fun w args => (Rows.searchSolvesSpec.pre enc Tryz.prog Tryz.f8 [] false w args ∧ laidMetH Tryz.prog laidL w) ∧ sizedMet enc Tryz.prog Tryz.f8 (OpenSpec.ofChange Rows.searchSolvesSpec) false w args) (Rows.searchSolvesSpec.post enc Tryz.prog Tryz.f8 false true false false) := by
 refine returnsInHanded_of_change_and (C := Tryz.checked) (X := fun w _ => laidMetH Tryz.prog laidL w) (fun _ _ _ hh h => h.of_heap hh) own started (by kernel_rfl) Tryz.func8
  (ChangeSpec.witness_shaped (enc := enc) (C := Tryz.checked) (os := os) (X := fun w _ => laidMetH Tryz.prog laidL w) false (World.doorLaid Tryz.prog 24 os) #[.agg #[.slice none 0 0, .slice none 0 0, .int .i64 0, .int .i64 0], .int .i64 0] 8 rfl (World.shaped_of_RefB (by kernel_rfl) (by kernel_rfl)) (by kernel_rfl) (by kernel_rfl) (by kernel_rfl) (zxC os _)) ?_
 intro W base args ds gs before hval0 hW hcnd hsz0 hL _
 have hval : ∀ (j : Nat) t v, Tryz.f8.params[j]? = some t → args[j]? = some v → Value.okWide Tryz.prog W .any base t v := hval0
 have hW' := hW
 obtain ⟨p, q, hA0, hV, rfl, hfz, hnd⟩ := hW
 have hA : DataW.TrodAll enc Tryz.prog W 0 (fun _ => true) true Tryz.f8.params.toList args.toList ds p := hA0
 have hsz : (DataW.weightsEach Tryz.prog (Tryz.f8.params.toList ++ Rows.searchSolvesSpec.plain.varTypes Tryz.prog) (ds ++ gs)).all (· ≤ reachBytes) = true := hsz0
 rw [Tryz.params8] at hA hval hsz
 obtain ⟨v0, vs0, d0, ds0, p0, q0, hargs, rfl, rfl, h0, r0⟩ := trodAll_cons hA
 obtain ⟨v1, vs1, d1, ds1, p1, q1, rfl, rfl, rfl, h1, r1⟩ := trodAll_cons r0
 obtain ⟨rfl, rfl, rfl⟩ := trodAll_nil r1
 obtain rfl : args = #[v0, v1] := by cases args; simp_all
 obtain ⟨rfl, rfl⟩ := trodVars_none hV
 have k0 := h0
 have lt0 : ∀ x ∈ p0, x.block < W.heap.size := by obtain ⟨m, hm⟩ := k0; exact DataW.trod_lt m _ _ _ hm
 obtain ⟨c0, rfl, e0⟩ := okWide_struct Tryz.underlying25 (hval 0 25 v0 rfl rfl)
 have s0 : vOf (Value.agg c0).cells.toList = .agg c0 := vOf_agg (by rw [e0, oMdl.1]; decide)
 obtain ⟨x0, y0⟩ := zAC oMdl h0 s0 (zBC hsz (j := 0) rfl rfl)
 have k1 := h1
 have lt1 : ∀ x ∈ p1, x.block < W.heap.size := by obtain ⟨m, hm⟩ := k1; exact DataW.trod_lt m _ _ _ hm
 obtain ⟨n1, rfl, hd1, _, w1⟩ := open_int Tryz.underlying3 (hval 1 3 v1 rfl rfl) h1
 have z1 : inI64 n1 := by simpa [inI64, Lit.wf, IntKind.min, IntKind.max, IntKind.signed, IntKind.bits] using w1
 clear hA0 hval0 hsz hsz0
 refine (Sat.calls (zuC x0 n1) W (.cons (rds_mdl y0) (.cons (rds_int z1) .nil)) (gok_tab (zwC hL))).mono fun e W' ⟨he, bel⟩ => ?_
 subst he
 exact ⟨_, rfl, _, _, _, [], _, [], hW', trodAll_mk1 (shut_bool Tryz.underlying4 _), (trodAll_cons_mk (Below.trod laidOut (by kernel_rfl) (of_decide_eq_true (by kernel_rfl)) k0 bel lt0) (trodAll_cons_mk (Below.trod laidOut (by kernel_rfl) (of_decide_eq_true (by kernel_rfl)) k1 bel lt1) trodAll_mk0)), rfl, bel.frame _, fun h => by cases h⟩
theorem and_mk {a b : Bool} (h : a = true) (k : b = true) : (a && b) = true := by rw [h, k]; rfl
theorem fact0 : (OpenClaim.wf (OpenSpec.ofChange Rows.searchSolvesSpec) Rows.searchSolvesRow) = true := by kernel_rfl
theorem fact1 : (laidOutB Tryz.prog) = true := by kernel_rfl
theorem fact2 : (mapsRowed Tryz.prog) = true := by kernel_rfl
theorem fact3 : (Tryz.f8.params.all fun x => Tryz.prog.readableRec x) = true := by kernel_rfl
theorem fact4 : (namedTie Tryz.prog Rows.searchSolvesRow.named Rows.searchSolvesSpec.vars) = true := by kernel_rfl
theorem fact5 : (Rows.searchSolvesRow.stops == []) = true := by kernel_rfl
theorem fact6 : (Tryz.prog.stops == []) = true := by kernel_rfl
theorem fact7 : (Rows.searchSolvesRow.knobs == []) = true := by kernel_rfl
theorem fact8 : (Tryz.prog.stopKnobs == []) = true := by kernel_rfl
theorem fact9 : (Rows.searchSolvesRow.inPlace == Tryz.prog.inPlace 8) = true := by kernel_rfl
theorem fact10 : (Rows.searchSolvesRow.unfollowed == Tryz.prog.unfollowed 8) = true := by kernel_rfl
theorem fact11 : (Rows.searchSolvesRow.recurses == Tryz.prog.recurses 8) = true := by kernel_rfl
theorem fact12 : (Rows.searchSolvesRow.named == Tryz.prog.varsNamed 8) = true := by kernel_rfl
theorem fact13 : (Rows.searchSolvesRow.maps == (Tryz.f8.params.toList ++ DataSpec.varTypes Tryz.prog Rows.searchSolvesSpec.plain).any fun x => Tryz.prog.mapsRec x) = true := by kernel_rfl
theorem fact14 : (Rows.searchSolvesRow.ifaces == (Tryz.f8.params.toList ++ DataSpec.varTypes Tryz.prog Rows.searchSolvesSpec.plain).any fun x => Tryz.prog.ifacesRec x) = true := by kernel_rfl
theorem fact15 : (Rows.searchSolvesRow.mapsOut == Tryz.prog.mapsAmong Tryz.f8.resultTypes.toList) = true := by kernel_rfl
theorem fact16 : (Rows.searchSolvesRow.loops == (Tryz.f8.params.toList ++ DataSpec.varTypes Tryz.prog Rows.searchSolvesSpec.plain).any fun x => Tryz.prog.loopsFrom x) = true := by kernel_rfl
theorem fact17 : (Rows.searchSolvesRow.wideKeys == (Tryz.f8.params.toList ++ DataSpec.varTypes Tryz.prog Rows.searchSolvesSpec.plain ++ Tryz.f8.resultTypes.toList).any fun x => Tryz.prog.wideKeysFrom x) = true := by kernel_rfl
theorem fact18 : (Rows.searchSolvesSpec.vars.all fun x => Tryz.prog.varReadable x) = true := by kernel_rfl
theorem fact19 : (Tryz.f8.resultTypes.all fun t => Tryz.prog.readableRec t && decide (t < Tryz.prog.types.size)) = true := by kernel_rfl
theorem fact20 : (Rows.searchSolvesRow.ifacesOut == Tryz.f8.resultTypes.toList.any fun x => Tryz.prog.ifacesRec x) = true := by kernel_rfl
theorem fact21 : (Rows.searchSolvesRow.loopsOut == Tryz.f8.resultTypes.toList.any fun x => Tryz.prog.loopsFrom x) = true := by kernel_rfl
theorem fact22 : (Rows.searchSolvesRow.plainKeys == Tryz.prog.plainKeys) = true := by kernel_rfl
theorem fact23 : (Rows.searchSolvesRow.shortTexts.isNone) = true := by kernel_rfl
theorem fact24 : (Tryz.prog.stopsHeard) = true := by kernel_rfl
theorem fact25 : (Tryz.prog.mayEnter) = true := by kernel_rfl
theorem fact26 : (Rows.searchSolvesRow.lifted == Tryz.prog.liftsFinal) = true := by kernel_rfl
theorem fact27 : (Tryz.prog.make == some Rows.searchSolvesRow.make) = true := by kernel_rfl
theorem fact28 : (Rows.searchSolvesRow.kinds == if Rows.searchSolvesRow.domain.isEmpty = true then [] else List.map (fun t => match Tryz.prog.underlying t with | some (TypeDesc.int k) => some k | x => none) Tryz.f8.params.toList) = true := by kernel_rfl
theorem fact29 : (Rows.searchSolvesRow.pinned == Rows.searchSolvesRow.pinnedBy) = true := by kernel_rfl
theorem fact30 : (Rows.searchSolvesRow.veiled == (Tryz.f8.params.toList ++ DataSpec.varTypes Tryz.prog Rows.searchSolvesSpec.plain ++ Tryz.f8.resultTypes.toList).any fun x => Tryz.prog.veiledRec x) = true := by kernel_rfl
theorem fact31 : (Rows.searchSolvesRow.veiledFits Tryz.prog Tryz.f8.params.toList (Tryz.f8.params.toList ++ DataSpec.varTypes Tryz.prog Rows.searchSolvesSpec.plain ++ Tryz.f8.resultTypes.toList)) = true := by kernel_rfl
set_option maxRecDepth 100000 in
theorem joined : joinedFacts Tryz.prog 8 Tryz.f8 Rows.searchSolvesSpec Rows.searchSolvesRow = true := by
  have g1 := and_mk fact0 fact1
  have g2 := and_mk g1 fact2
  have g3 := and_mk g2 fact3
  have g4 := and_mk g3 fact4
  have g5 := and_mk g4 fact5
  have g6 := and_mk g5 fact6
  have g7 := and_mk g6 fact7
  have g8 := and_mk g7 fact8
  have g9 := and_mk g8 fact9
  have g10 := and_mk g9 fact10
  have g11 := and_mk g10 fact11
  have g12 := and_mk g11 fact12
  have g13 := and_mk g12 fact13
  have g14 := and_mk g13 fact14
  have g15 := and_mk g14 fact15
  have g16 := and_mk g15 fact16
  have g17 := and_mk g16 fact17
  have g18 := and_mk g17 fact18
  have g19 := and_mk g18 fact19
  have g20 := and_mk g19 fact20
  have g21 := and_mk g20 fact21
  have g22 := and_mk g21 fact22
  have g23 := and_mk g22 fact23
  have g24 := and_mk g23 fact24
  have g25 := and_mk g24 fact25
  have g26 := and_mk g25 fact26
  have g27 := and_mk g26 fact27
  have g28 := and_mk g27 fact28
  have g29 := and_mk g28 fact29
  have g30 := and_mk g29 fact30
  have g31 := and_mk g30 fact31
  exact g31

set_option maxRecDepth 100000 in
theorem over : Rows.searchSolvesRow.holds Tryz.pinned (OpenSpec.ofChange Rows.searchSolvesSpec) :=
 OpenClaim.holds_of_wide 8 Tryz.f8 rfl rfl rfl rfl rfl rfl rfl ⟨rfl, rfl, rfl, rfl, rfl⟩ rfl rfl rfl rfl rfl (by kernel_rfl) Tryz.func8 joined
  (of_decide_eq_true (by kernel_rfl)) (by unfold Func.isWrapper; first | (rw [if_pos (by decide +kernel)]; kernel_rfl) | (rw [if_neg (by decide +kernel)]; exact ⟨rfl, rfl⟩))
  (fun os started H enc _ => lifted os started H enc)
theorem fwf : Rows.searchSolvesRow.wfByText (OpenSpec.ofChange Rows.searchSolvesSpec) = true := by kernel_rfl
theorem fmain : Tryz.prog.mainIs = some (true, String.toList "c857859665fb6858e414370fddee62487fc79fb8db49648b7091d9f7a0ad1203") := by kernel_rfl
theorem fname : Tryz.prog.funcNamed "cordon/cordonlaw.SearchSolves" = some 8 := by kernel_rfl
theorem flooks : false = Tryz.prog.looks [] := by kernel_rfl
theorem fall : ([25, 3].all fun u => !Tryz.prog.wantsStandIn u) = true := by kernel_rfl
theorem fgoes : false = Rows.searchSolvesRow.goesBy Tryz.prog := by kernel_rfl

theorem proved : Rows.SearchSolvesCardSaid :=
 Claim7.holds_tied_plain_at .later [] [.data, .data, .data] true (true, "c857859665fb6858e414370fddee62487fc79fb8db49648b7091d9f7a0ad1203") false
  over (fun _ h => by cases h) fwf (fun _ h => by cases h) searchSolves_row_tie rfl ⟨rfl, rfl⟩ fmain rfl
  (fun f fn hf hfn => by
   obtain rfl : f = 8 := Option.some.inj (fname.symm.trans hf) |>.symm
   obtain rfl : fn = Tryz.f8 := (Option.some.inj (Tryz.func8.symm.trans hfn)).symm
   exact ⟨flooks, fun j t ht => by
    rw [Tryz.params8] at ht
    have hm : t ∈ [25, 3] := by simpa using Array.mem_of_getElem? ht
    have hall := fall
    exact (show Tryz.prog.wantsStandIn t = false by simpa using List.all_eq_true.1 hall t hm)⟩)
  fgoes
end Go.Proofs.YtajnbkhgnppckaaGreatDoor.searchSolvesCard
