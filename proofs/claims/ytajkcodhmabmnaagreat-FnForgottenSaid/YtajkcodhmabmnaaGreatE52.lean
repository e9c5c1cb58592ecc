/- FnForgotten: each law function of these statements answers true, for all arguments that can be read. Conditions: none. -/
import Derived.Test.YtajkcodhmabmnaaGreatRows
import Derived.Test.YtajkcodhmabmnaaGreatW52z0
import Derived.Test.YtajkcodhmabmnaaGreatP2
namespace Go.Proofs.YtajkcodhmabmnaaGreat
open Go.ChangeShapes Go.WideShapes Go.ChangeAt Go.RowKit
theorem Tryz.own:ownKnob Tryz.prog.godebug=none:=by kernel_rfl
theorem Tryz.laidOut:laidOutB Tryz.prog=true:=by kernel_rfl
theorem and_mk {a b:Bool}(h:a=true)(k:b=true):(a&&b)=true:=by rw[h,k];rfl
set_option maxRecDepth 100000 in
theorem fnForgotten_lifted (os:Os)(started:os.Started)(H:Type)(enc:TypeId×Value→H):
   ReturnsInHanded {} Tryz.checked os 4 .any (Rows.fnForgottenSpec.pre6 enc Tryz.prog Tryz.f4 Rows.fnForgottenRow.domain false) (Rows.fnForgottenSpec.post enc Tryz.prog Tryz.f4 false true false false):=by
 refine returnsInHanded_of_change (C:=Tryz.checked) Tryz.own started (by kernel_rfl) Tryz.func4
   (ChangeSpec.witness6 (enc:=enc) (C:=Tryz.checked) false ⟨#[],#[.slice none 0 0],[]⟩ 12 (by kernel_rfl) (by kernel_rfl) (by kernel_rfl) (by kernel_rfl)) ?_
 intro W base args ds gs before hval0 hW hcnd _
 have hval:∀ (j:Nat) t v,Tryz.f4.params[j]?=some t→args[j]?=some v→Value.okWide Tryz.prog W .any base t v:=hval0
 have hW':=hW
 obtain⟨p,q,hA0,hV,rfl,hfz,hnd⟩:=hW
 have hA:DataW.TrodAll enc Tryz.prog W 0 (fun _=>true) true Tryz.f4.params.toList args.toList ds p:=hA0
 obtain⟨rfl,rfl⟩:=trodVars_none hV
 have hlen:ds.length=1:=Fw.trodAll_len hA
 rcases ds with _ | ⟨d1,_ | ⟨d2,ds⟩⟩<;>first | (simp at hlen;done) | skip
 refine(Fw.yes_call Fw.F4_ok (fun _ _=>trivial) (fun _ _=>rfl) (ts:=Tryz.f4.params.toList) (by kernel_rfl) hA (fun j t v h1 h2=>hval j t v (by simpa using h1) (by simpa using h2))).mono fun e W' ⟨he,hfr⟩=>?_
 subst he
 exact⟨_,rfl,Fw.post_yes Tryz.laidOut (by kernel_rfl) rfl rfl rfl Tryz.underlying4 hW' hfr⟩
theorem fnForgotten_q0:(Rows.fnForgottenRow.wf (OpenSpec.ofChange Rows.fnForgottenSpec):Bool)=true:=by kernel_rfl
theorem fnForgotten_q1:(laidOutB Tryz.pinned.checked.prog:Bool)=true:=by kernel_rfl
theorem fnForgotten_q2:(mapsRowed Tryz.pinned.checked.prog:Bool)=true:=by kernel_rfl
theorem fnForgotten_q3:(Tryz.f4.params.all (Tryz.pinned.checked.prog.readableRec ·):Bool)=true:=by kernel_rfl
theorem fnForgotten_q4:(namedTie Tryz.pinned.checked.prog Rows.fnForgottenRow.named Rows.fnForgottenSpec.vars:Bool)=true:=by kernel_rfl
theorem fnForgotten_q5:((Rows.fnForgottenRow.stops==[]):Bool)=true:=by kernel_rfl
theorem fnForgotten_q6:((Tryz.pinned.checked.prog.stops==[]):Bool)=true:=by kernel_rfl
theorem fnForgotten_q7:((Rows.fnForgottenRow.knobs==[]):Bool)=true:=by kernel_rfl
theorem fnForgotten_q8:((Tryz.pinned.checked.prog.stopKnobs==[]):Bool)=true:=by kernel_rfl
theorem fnForgotten_q9:((Rows.fnForgottenRow.inPlace==Tryz.pinned.checked.prog.inPlace 4):Bool)=true:=by kernel_rfl
theorem fnForgotten_q10:((Rows.fnForgottenRow.unfollowed==Tryz.pinned.checked.prog.unfollowed 4):Bool)=true:=by kernel_rfl
theorem fnForgotten_q11:((Rows.fnForgottenRow.recurses==Tryz.pinned.checked.prog.recurses 4):Bool)=true:=by kernel_rfl
theorem fnForgotten_q12:((Rows.fnForgottenRow.named==Tryz.pinned.checked.prog.varsNamed 4):Bool)=true:=by kernel_rfl
theorem fnForgotten_q13:((Rows.fnForgottenRow.maps==(Tryz.f4.params.toList++Rows.fnForgottenSpec.plain.varTypes Tryz.pinned.checked.prog).any (Tryz.pinned.checked.prog.mapsRec ·)):Bool)=true:=by kernel_rfl
theorem fnForgotten_q14:((Rows.fnForgottenRow.ifaces==(Tryz.f4.params.toList++Rows.fnForgottenSpec.plain.varTypes Tryz.pinned.checked.prog).any (Tryz.pinned.checked.prog.ifacesRec ·)):Bool)=true:=by kernel_rfl
theorem fnForgotten_q15:((Rows.fnForgottenRow.mapsOut==Tryz.pinned.checked.prog.mapsAmong Tryz.f4.resultTypes.toList):Bool)=true:=by kernel_rfl
theorem fnForgotten_q16:((Rows.fnForgottenRow.loops==(Tryz.f4.params.toList++Rows.fnForgottenSpec.plain.varTypes Tryz.pinned.checked.prog).any (Tryz.pinned.checked.prog.loopsFrom ·)):Bool)=true:=by kernel_rfl
theorem fnForgotten_q17:((Rows.fnForgottenRow.wideKeys==(Tryz.f4.params.toList++Rows.fnForgottenSpec.plain.varTypes Tryz.pinned.checked.prog++Tryz.f4.resultTypes.toList).any (Tryz.pinned.checked.prog.wideKeysFrom ·)):Bool)=true:=by kernel_rfl
theorem fnForgotten_q18:(Rows.fnForgottenSpec.vars.all (Tryz.pinned.checked.prog.varReadable ·):Bool)=true:=by kernel_rfl
theorem fnForgotten_q19:(Tryz.f4.resultTypes.all (fun t=>Tryz.pinned.checked.prog.readableRec t&&decide (t<Tryz.pinned.checked.prog.types.size)):Bool)=true:=by kernel_rfl
theorem fnForgotten_q20:((Rows.fnForgottenRow.ifacesOut==Tryz.f4.resultTypes.toList.any (Tryz.pinned.checked.prog.ifacesRec ·)):Bool)=true:=by kernel_rfl
theorem fnForgotten_q21:((Rows.fnForgottenRow.loopsOut==Tryz.f4.resultTypes.toList.any (Tryz.pinned.checked.prog.loopsFrom ·)):Bool)=true:=by kernel_rfl
theorem fnForgotten_q22:((Rows.fnForgottenRow.plainKeys==Tryz.pinned.checked.prog.plainKeys):Bool)=true:=by kernel_rfl
theorem fnForgotten_q23:(Rows.fnForgottenRow.shortTexts.isNone:Bool)=true:=by kernel_rfl
theorem fnForgotten_q24:(Tryz.pinned.checked.prog.stopsHeard:Bool)=true:=by kernel_rfl
theorem fnForgotten_q25:(Tryz.pinned.checked.prog.mayEnter:Bool)=true:=by kernel_rfl
theorem fnForgotten_q26:((Rows.fnForgottenRow.lifted==Tryz.pinned.checked.prog.liftsFinal):Bool)=true:=by kernel_rfl
theorem fnForgotten_q27:((Tryz.pinned.checked.prog.make==some Rows.fnForgottenRow.make):Bool)=true:=by kernel_rfl
theorem fnForgotten_q28:((Rows.fnForgottenRow.kinds==(if Rows.fnForgottenRow.domain.isEmpty then []else Tryz.f4.params.toList.map fun t=>match Tryz.pinned.checked.prog.underlying t with | some (.int k)=>some k | _=>none)):Bool)=true:=by kernel_rfl
theorem fnForgotten_q29:((Rows.fnForgottenRow.pinned==Rows.fnForgottenRow.pinnedBy):Bool)=true:=by kernel_rfl
theorem fnForgotten_q30:((Rows.fnForgottenRow.veiled==(Tryz.f4.params.toList++Rows.fnForgottenSpec.plain.varTypes Tryz.pinned.checked.prog++Tryz.f4.resultTypes.toList).any (Tryz.pinned.checked.prog.veiledRec ·)):Bool)=true:=by kernel_rfl
theorem fnForgotten_q31:(Rows.fnForgottenRow.veiledFits Tryz.pinned.checked.prog Tryz.f4.params.toList (Tryz.f4.params.toList++Rows.fnForgottenSpec.plain.varTypes Tryz.pinned.checked.prog++Tryz.f4.resultTypes.toList):Bool)=true:=by kernel_rfl
set_option maxRecDepth 100000 in
theorem fnForgotten_joined:joinedFacts Tryz.pinned.checked.prog 4 Tryz.f4 Rows.fnForgottenSpec Rows.fnForgottenRow=true:=
 (and_mk (and_mk (and_mk (and_mk (and_mk (and_mk (and_mk (and_mk (and_mk (and_mk (and_mk (and_mk (and_mk (and_mk (and_mk (and_mk (and_mk (and_mk (and_mk (and_mk (and_mk (and_mk (and_mk (and_mk (and_mk (and_mk (and_mk (and_mk (and_mk (and_mk (and_mk fnForgotten_q0 fnForgotten_q1) fnForgotten_q2) fnForgotten_q3) fnForgotten_q4) fnForgotten_q5) fnForgotten_q6) fnForgotten_q7) fnForgotten_q8) fnForgotten_q9) fnForgotten_q10) fnForgotten_q11) fnForgotten_q12) fnForgotten_q13) fnForgotten_q14) fnForgotten_q15) fnForgotten_q16) fnForgotten_q17) fnForgotten_q18) fnForgotten_q19) fnForgotten_q20) fnForgotten_q21) fnForgotten_q22) fnForgotten_q23) fnForgotten_q24) fnForgotten_q25) fnForgotten_q26) fnForgotten_q27) fnForgotten_q28) fnForgotten_q29) fnForgotten_q30) fnForgotten_q31)
theorem fnForgotten_holds:Rows.FnForgottenSaid:=
 OpenClaim.holds_of_wide 4 Tryz.f4 rfl rfl rfl rfl rfl rfl rfl ⟨rfl,rfl,rfl,rfl,rfl⟩ rfl rfl rfl rfl rfl (by kernel_rfl) Tryz.func4 fnForgotten_joined
   (of_decide_eq_true (by kernel_rfl)) (by unfold Func.isWrapper;first | (rw[if_pos (by decide +kernel)];kernel_rfl) | (rw[if_neg (by decide +kernel)];exact⟨rfl,rfl⟩))
   (fun os started H enc _=>fnForgotten_lifted os started H enc)
end Go.Proofs.YtajkcodhmabmnaaGreat
