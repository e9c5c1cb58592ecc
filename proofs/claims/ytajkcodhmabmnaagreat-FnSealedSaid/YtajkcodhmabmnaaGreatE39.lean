/- FnSealed: each law function of these statements answers true, for all arguments that can be read. Conditions: none. -/
import Derived.Test.YtajkcodhmabmnaaGreatRows
import Derived.Test.YtajkcodhmabmnaaGreatW39z0
import Derived.Test.YtajkcodhmabmnaaGreatP2
namespace Go.Proofs.YtajkcodhmabmnaaGreat
open Go.ChangeShapes Go.WideShapes Go.ChangeAt Go.RowKit
theorem Tryz.own:ownKnob Tryz.prog.godebug=none:=by kernel_rfl
theorem Tryz.laidOut:laidOutB Tryz.prog=true:=by kernel_rfl
theorem and_mk {a b:Bool}(h:a=true)(k:b=true):(a&&b)=true:=by rw[h,k];rfl
set_option maxRecDepth 100000 in
theorem fnSealed_lifted (os:Os)(started:os.Started)(H:Type)(enc:TypeId×Value→H):
   ReturnsInHanded {} Tryz.checked os 3 .any (Rows.fnSealedSpec.pre6 enc Tryz.prog Tryz.f3 Rows.fnSealedRow.domain false) (Rows.fnSealedSpec.post enc Tryz.prog Tryz.f3 false true false false):=by
 refine returnsInHanded_of_change (C:=Tryz.checked) Tryz.own started (by kernel_rfl) Tryz.func3
   (ChangeSpec.witness6 (enc:=enc) (C:=Tryz.checked) false ⟨#[],#[.slice none 0 0],[]⟩ 12 (by kernel_rfl) (by kernel_rfl) (by kernel_rfl) (by kernel_rfl)) ?_
 intro W base args ds gs before hval0 hW hcnd _
 have hval:∀ (j:Nat) t v,Tryz.f3.params[j]?=some t→args[j]?=some v→Value.okWide Tryz.prog W .any base t v:=hval0
 have hW':=hW
 obtain⟨p,q,hA0,hV,rfl,hfz,hnd⟩:=hW
 have hA:DataW.TrodAll enc Tryz.prog W 0 (fun _=>true) true Tryz.f3.params.toList args.toList ds p:=hA0
 obtain⟨rfl,rfl⟩:=trodVars_none hV
 have hlen:ds.length=1:=Fw.trodAll_len hA
 rcases ds with _ | ⟨d1,_ | ⟨d2,ds⟩⟩<;>first | (simp at hlen;done) | skip
 refine(Fw.yes_call Fw.F3_ok (fun _ _=>trivial) (fun _ _=>rfl) (ts:=Tryz.f3.params.toList) (by kernel_rfl) hA (fun j t v h1 h2=>hval j t v (by simpa using h1) (by simpa using h2))).mono fun e W' ⟨he,hfr⟩=>?_
 subst he
 exact⟨_,rfl,Fw.post_yes Tryz.laidOut (by kernel_rfl) rfl rfl rfl Tryz.underlying4 hW' hfr⟩
theorem fnSealed_q0:(Rows.fnSealedRow.wf (OpenSpec.ofChange Rows.fnSealedSpec):Bool)=true:=by kernel_rfl
theorem fnSealed_q1:(laidOutB Tryz.pinned.checked.prog:Bool)=true:=by kernel_rfl
theorem fnSealed_q2:(mapsRowed Tryz.pinned.checked.prog:Bool)=true:=by kernel_rfl
theorem fnSealed_q3:(Tryz.f3.params.all (Tryz.pinned.checked.prog.readableRec ·):Bool)=true:=by kernel_rfl
theorem fnSealed_q4:(namedTie Tryz.pinned.checked.prog Rows.fnSealedRow.named Rows.fnSealedSpec.vars:Bool)=true:=by kernel_rfl
theorem fnSealed_q5:((Rows.fnSealedRow.stops==[]):Bool)=true:=by kernel_rfl
theorem fnSealed_q6:((Tryz.pinned.checked.prog.stops==[]):Bool)=true:=by kernel_rfl
theorem fnSealed_q7:((Rows.fnSealedRow.knobs==[]):Bool)=true:=by kernel_rfl
theorem fnSealed_q8:((Tryz.pinned.checked.prog.stopKnobs==[]):Bool)=true:=by kernel_rfl
theorem fnSealed_q9:((Rows.fnSealedRow.inPlace==Tryz.pinned.checked.prog.inPlace 3):Bool)=true:=by kernel_rfl
theorem fnSealed_q10:((Rows.fnSealedRow.unfollowed==Tryz.pinned.checked.prog.unfollowed 3):Bool)=true:=by kernel_rfl
theorem fnSealed_q11:((Rows.fnSealedRow.recurses==Tryz.pinned.checked.prog.recurses 3):Bool)=true:=by kernel_rfl
theorem fnSealed_q12:((Rows.fnSealedRow.named==Tryz.pinned.checked.prog.varsNamed 3):Bool)=true:=by kernel_rfl
theorem fnSealed_q13:((Rows.fnSealedRow.maps==(Tryz.f3.params.toList++Rows.fnSealedSpec.plain.varTypes Tryz.pinned.checked.prog).any (Tryz.pinned.checked.prog.mapsRec ·)):Bool)=true:=by kernel_rfl
theorem fnSealed_q14:((Rows.fnSealedRow.ifaces==(Tryz.f3.params.toList++Rows.fnSealedSpec.plain.varTypes Tryz.pinned.checked.prog).any (Tryz.pinned.checked.prog.ifacesRec ·)):Bool)=true:=by kernel_rfl
theorem fnSealed_q15:((Rows.fnSealedRow.mapsOut==Tryz.pinned.checked.prog.mapsAmong Tryz.f3.resultTypes.toList):Bool)=true:=by kernel_rfl
theorem fnSealed_q16:((Rows.fnSealedRow.loops==(Tryz.f3.params.toList++Rows.fnSealedSpec.plain.varTypes Tryz.pinned.checked.prog).any (Tryz.pinned.checked.prog.loopsFrom ·)):Bool)=true:=by kernel_rfl
theorem fnSealed_q17:((Rows.fnSealedRow.wideKeys==(Tryz.f3.params.toList++Rows.fnSealedSpec.plain.varTypes Tryz.pinned.checked.prog++Tryz.f3.resultTypes.toList).any (Tryz.pinned.checked.prog.wideKeysFrom ·)):Bool)=true:=by kernel_rfl
theorem fnSealed_q18:(Rows.fnSealedSpec.vars.all (Tryz.pinned.checked.prog.varReadable ·):Bool)=true:=by kernel_rfl
theorem fnSealed_q19:(Tryz.f3.resultTypes.all (fun t=>Tryz.pinned.checked.prog.readableRec t&&decide (t<Tryz.pinned.checked.prog.types.size)):Bool)=true:=by kernel_rfl
theorem fnSealed_q20:((Rows.fnSealedRow.ifacesOut==Tryz.f3.resultTypes.toList.any (Tryz.pinned.checked.prog.ifacesRec ·)):Bool)=true:=by kernel_rfl
theorem fnSealed_q21:((Rows.fnSealedRow.loopsOut==Tryz.f3.resultTypes.toList.any (Tryz.pinned.checked.prog.loopsFrom ·)):Bool)=true:=by kernel_rfl
theorem fnSealed_q22:((Rows.fnSealedRow.plainKeys==Tryz.pinned.checked.prog.plainKeys):Bool)=true:=by kernel_rfl
theorem fnSealed_q23:(Rows.fnSealedRow.shortTexts.isNone:Bool)=true:=by kernel_rfl
theorem fnSealed_q24:(Tryz.pinned.checked.prog.stopsHeard:Bool)=true:=by kernel_rfl
theorem fnSealed_q25:(Tryz.pinned.checked.prog.mayEnter:Bool)=true:=by kernel_rfl
theorem fnSealed_q26:((Rows.fnSealedRow.lifted==Tryz.pinned.checked.prog.liftsFinal):Bool)=true:=by kernel_rfl
theorem fnSealed_q27:((Tryz.pinned.checked.prog.make==some Rows.fnSealedRow.make):Bool)=true:=by kernel_rfl
theorem fnSealed_q28:((Rows.fnSealedRow.kinds==(if Rows.fnSealedRow.domain.isEmpty then []else Tryz.f3.params.toList.map fun t=>match Tryz.pinned.checked.prog.underlying t with | some (.int k)=>some k | _=>none)):Bool)=true:=by kernel_rfl
theorem fnSealed_q29:((Rows.fnSealedRow.pinned==Rows.fnSealedRow.pinnedBy):Bool)=true:=by kernel_rfl
theorem fnSealed_q30:((Rows.fnSealedRow.veiled==(Tryz.f3.params.toList++Rows.fnSealedSpec.plain.varTypes Tryz.pinned.checked.prog++Tryz.f3.resultTypes.toList).any (Tryz.pinned.checked.prog.veiledRec ·)):Bool)=true:=by kernel_rfl
theorem fnSealed_q31:(Rows.fnSealedRow.veiledFits Tryz.pinned.checked.prog Tryz.f3.params.toList (Tryz.f3.params.toList++Rows.fnSealedSpec.plain.varTypes Tryz.pinned.checked.prog++Tryz.f3.resultTypes.toList):Bool)=true:=by kernel_rfl
set_option maxRecDepth 100000 in
theorem fnSealed_joined:joinedFacts Tryz.pinned.checked.prog 3 Tryz.f3 Rows.fnSealedSpec Rows.fnSealedRow=true:=
 (and_mk (and_mk (and_mk (and_mk (and_mk (and_mk (and_mk (and_mk (and_mk (and_mk (and_mk (and_mk (and_mk (and_mk (and_mk (and_mk (and_mk (and_mk (and_mk (and_mk (and_mk (and_mk (and_mk (and_mk (and_mk (and_mk (and_mk (and_mk (and_mk (and_mk (and_mk fnSealed_q0 fnSealed_q1) fnSealed_q2) fnSealed_q3) fnSealed_q4) fnSealed_q5) fnSealed_q6) fnSealed_q7) fnSealed_q8) fnSealed_q9) fnSealed_q10) fnSealed_q11) fnSealed_q12) fnSealed_q13) fnSealed_q14) fnSealed_q15) fnSealed_q16) fnSealed_q17) fnSealed_q18) fnSealed_q19) fnSealed_q20) fnSealed_q21) fnSealed_q22) fnSealed_q23) fnSealed_q24) fnSealed_q25) fnSealed_q26) fnSealed_q27) fnSealed_q28) fnSealed_q29) fnSealed_q30) fnSealed_q31)
theorem fnSealed_holds:Rows.FnSealedSaid:=
 OpenClaim.holds_of_wide 3 Tryz.f3 rfl rfl rfl rfl rfl rfl rfl ⟨rfl,rfl,rfl,rfl,rfl⟩ rfl rfl rfl rfl rfl (by kernel_rfl) Tryz.func3 fnSealed_joined
   (of_decide_eq_true (by kernel_rfl)) (by unfold Func.isWrapper;first | (rw[if_pos (by decide +kernel)];kernel_rfl) | (rw[if_neg (by decide +kernel)];exact⟨rfl,rfl⟩))
   (fun os started H enc _=>fnSealed_lifted os started H enc)
end Go.Proofs.YtajkcodhmabmnaaGreat
