/- FnOrderless: each law function of these statements answers true, for all arguments that can be read. Conditions: none. -/
import Derived.Test.YtajkcodhmabmnaaGreatRows
import Derived.Test.YtajkcodhmabmnaaGreatW56z0
import Derived.Test.YtajkcodhmabmnaaGreatP2
namespace Go.Proofs.YtajkcodhmabmnaaGreat
open Go.ChangeShapes Go.WideShapes Go.ChangeAt Go.RowKit
theorem Tryz.own:ownKnob Tryz.prog.godebug=none:=by kernel_rfl
theorem Tryz.laidOut:laidOutB Tryz.prog=true:=by kernel_rfl
theorem and_mk {a b:Bool}(h:a=true)(k:b=true):(a&&b)=true:=by rw[h,k];rfl
set_option maxRecDepth 100000 in
theorem fnOrderless_lifted (os:Os)(started:os.Started)(H:Type)(enc:TypeId×Value→H):
   ReturnsInHanded {} Tryz.checked os 5 .any (Rows.fnOrderlessSpec.pre6 enc Tryz.prog Tryz.f5 Rows.fnOrderlessRow.domain false) (Rows.fnOrderlessSpec.post enc Tryz.prog Tryz.f5 false true false false):=by
 refine returnsInHanded_of_change (C:=Tryz.checked) Tryz.own started (by kernel_rfl) Tryz.func5
   (ChangeSpec.witness6 (enc:=enc) (C:=Tryz.checked) false ⟨#[],#[.slice none 0 0],[]⟩ 12 (by kernel_rfl) (by kernel_rfl) (by kernel_rfl) (by kernel_rfl)) ?_
 intro W base args ds gs before hval0 hW hcnd _
 have hval:∀ (j:Nat) t v,Tryz.f5.params[j]?=some t→args[j]?=some v→Value.okWide Tryz.prog W .any base t v:=hval0
 have hW':=hW
 obtain⟨p,q,hA0,hV,rfl,hfz,hnd⟩:=hW
 have hA:DataW.TrodAll enc Tryz.prog W 0 (fun _=>true) true Tryz.f5.params.toList args.toList ds p:=hA0
 obtain⟨rfl,rfl⟩:=trodVars_none hV
 have hlen:ds.length=1:=Fw.trodAll_len hA
 rcases ds with _ | ⟨d1,_ | ⟨d2,ds⟩⟩<;>first | (simp at hlen;done) | skip
 refine(Fw.yes_call Fw.F5_ok (fun _ _=>trivial) (fun _ _=>rfl) (ts:=Tryz.f5.params.toList) (by kernel_rfl) hA (fun j t v h1 h2=>hval j t v (by simpa using h1) (by simpa using h2))).mono fun e W' ⟨he,hfr⟩=>?_
 subst he
 exact⟨_,rfl,Fw.post_yes Tryz.laidOut (by kernel_rfl) rfl rfl rfl Tryz.underlying4 hW' hfr⟩
theorem fnOrderless_q0:(Rows.fnOrderlessRow.wf (OpenSpec.ofChange Rows.fnOrderlessSpec):Bool)=true:=by kernel_rfl
theorem fnOrderless_q1:(laidOutB Tryz.pinned.checked.prog:Bool)=true:=by kernel_rfl
theorem fnOrderless_q2:(mapsRowed Tryz.pinned.checked.prog:Bool)=true:=by kernel_rfl
theorem fnOrderless_q3:(Tryz.f5.params.all (Tryz.pinned.checked.prog.readableRec ·):Bool)=true:=by kernel_rfl
theorem fnOrderless_q4:(namedTie Tryz.pinned.checked.prog Rows.fnOrderlessRow.named Rows.fnOrderlessSpec.vars:Bool)=true:=by kernel_rfl
theorem fnOrderless_q5:((Rows.fnOrderlessRow.stops==[]):Bool)=true:=by kernel_rfl
theorem fnOrderless_q6:((Tryz.pinned.checked.prog.stops==[]):Bool)=true:=by kernel_rfl
theorem fnOrderless_q7:((Rows.fnOrderlessRow.knobs==[]):Bool)=true:=by kernel_rfl
theorem fnOrderless_q8:((Tryz.pinned.checked.prog.stopKnobs==[]):Bool)=true:=by kernel_rfl
theorem fnOrderless_q9:((Rows.fnOrderlessRow.inPlace==Tryz.pinned.checked.prog.inPlace 5):Bool)=true:=by kernel_rfl
theorem fnOrderless_q10:((Rows.fnOrderlessRow.unfollowed==Tryz.pinned.checked.prog.unfollowed 5):Bool)=true:=by kernel_rfl
theorem fnOrderless_q11:((Rows.fnOrderlessRow.recurses==Tryz.pinned.checked.prog.recurses 5):Bool)=true:=by kernel_rfl
theorem fnOrderless_q12:((Rows.fnOrderlessRow.named==Tryz.pinned.checked.prog.varsNamed 5):Bool)=true:=by kernel_rfl
theorem fnOrderless_q13:((Rows.fnOrderlessRow.maps==(Tryz.f5.params.toList++Rows.fnOrderlessSpec.plain.varTypes Tryz.pinned.checked.prog).any (Tryz.pinned.checked.prog.mapsRec ·)):Bool)=true:=by kernel_rfl
theorem fnOrderless_q14:((Rows.fnOrderlessRow.ifaces==(Tryz.f5.params.toList++Rows.fnOrderlessSpec.plain.varTypes Tryz.pinned.checked.prog).any (Tryz.pinned.checked.prog.ifacesRec ·)):Bool)=true:=by kernel_rfl
theorem fnOrderless_q15:((Rows.fnOrderlessRow.mapsOut==Tryz.pinned.checked.prog.mapsAmong Tryz.f5.resultTypes.toList):Bool)=true:=by kernel_rfl
theorem fnOrderless_q16:((Rows.fnOrderlessRow.loops==(Tryz.f5.params.toList++Rows.fnOrderlessSpec.plain.varTypes Tryz.pinned.checked.prog).any (Tryz.pinned.checked.prog.loopsFrom ·)):Bool)=true:=by kernel_rfl
theorem fnOrderless_q17:((Rows.fnOrderlessRow.wideKeys==(Tryz.f5.params.toList++Rows.fnOrderlessSpec.plain.varTypes Tryz.pinned.checked.prog++Tryz.f5.resultTypes.toList).any (Tryz.pinned.checked.prog.wideKeysFrom ·)):Bool)=true:=by kernel_rfl
theorem fnOrderless_q18:(Rows.fnOrderlessSpec.vars.all (Tryz.pinned.checked.prog.varReadable ·):Bool)=true:=by kernel_rfl
theorem fnOrderless_q19:(Tryz.f5.resultTypes.all (fun t=>Tryz.pinned.checked.prog.readableRec t&&decide (t<Tryz.pinned.checked.prog.types.size)):Bool)=true:=by kernel_rfl
theorem fnOrderless_q20:((Rows.fnOrderlessRow.ifacesOut==Tryz.f5.resultTypes.toList.any (Tryz.pinned.checked.prog.ifacesRec ·)):Bool)=true:=by kernel_rfl
theorem fnOrderless_q21:((Rows.fnOrderlessRow.loopsOut==Tryz.f5.resultTypes.toList.any (Tryz.pinned.checked.prog.loopsFrom ·)):Bool)=true:=by kernel_rfl
theorem fnOrderless_q22:((Rows.fnOrderlessRow.plainKeys==Tryz.pinned.checked.prog.plainKeys):Bool)=true:=by kernel_rfl
theorem fnOrderless_q23:(Rows.fnOrderlessRow.shortTexts.isNone:Bool)=true:=by kernel_rfl
theorem fnOrderless_q24:(Tryz.pinned.checked.prog.stopsHeard:Bool)=true:=by kernel_rfl
theorem fnOrderless_q25:(Tryz.pinned.checked.prog.mayEnter:Bool)=true:=by kernel_rfl
theorem fnOrderless_q26:((Rows.fnOrderlessRow.lifted==Tryz.pinned.checked.prog.liftsFinal):Bool)=true:=by kernel_rfl
theorem fnOrderless_q27:((Tryz.pinned.checked.prog.make==some Rows.fnOrderlessRow.make):Bool)=true:=by kernel_rfl
theorem fnOrderless_q28:((Rows.fnOrderlessRow.kinds==(if Rows.fnOrderlessRow.domain.isEmpty then []else Tryz.f5.params.toList.map fun t=>match Tryz.pinned.checked.prog.underlying t with | some (.int k)=>some k | _=>none)):Bool)=true:=by kernel_rfl
theorem fnOrderless_q29:((Rows.fnOrderlessRow.pinned==Rows.fnOrderlessRow.pinnedBy):Bool)=true:=by kernel_rfl
theorem fnOrderless_q30:((Rows.fnOrderlessRow.veiled==(Tryz.f5.params.toList++Rows.fnOrderlessSpec.plain.varTypes Tryz.pinned.checked.prog++Tryz.f5.resultTypes.toList).any (Tryz.pinned.checked.prog.veiledRec ·)):Bool)=true:=by kernel_rfl
theorem fnOrderless_q31:(Rows.fnOrderlessRow.veiledFits Tryz.pinned.checked.prog Tryz.f5.params.toList (Tryz.f5.params.toList++Rows.fnOrderlessSpec.plain.varTypes Tryz.pinned.checked.prog++Tryz.f5.resultTypes.toList):Bool)=true:=by kernel_rfl
set_option maxRecDepth 100000 in
theorem fnOrderless_joined:joinedFacts Tryz.pinned.checked.prog 5 Tryz.f5 Rows.fnOrderlessSpec Rows.fnOrderlessRow=true:=
 (and_mk (and_mk (and_mk (and_mk (and_mk (and_mk (and_mk (and_mk (and_mk (and_mk (and_mk (and_mk (and_mk (and_mk (and_mk (and_mk (and_mk (and_mk (and_mk (and_mk (and_mk (and_mk (and_mk (and_mk (and_mk (and_mk (and_mk (and_mk (and_mk (and_mk (and_mk fnOrderless_q0 fnOrderless_q1) fnOrderless_q2) fnOrderless_q3) fnOrderless_q4) fnOrderless_q5) fnOrderless_q6) fnOrderless_q7) fnOrderless_q8) fnOrderless_q9) fnOrderless_q10) fnOrderless_q11) fnOrderless_q12) fnOrderless_q13) fnOrderless_q14) fnOrderless_q15) fnOrderless_q16) fnOrderless_q17) fnOrderless_q18) fnOrderless_q19) fnOrderless_q20) fnOrderless_q21) fnOrderless_q22) fnOrderless_q23) fnOrderless_q24) fnOrderless_q25) fnOrderless_q26) fnOrderless_q27) fnOrderless_q28) fnOrderless_q29) fnOrderless_q30) fnOrderless_q31)
theorem fnOrderless_holds:Rows.FnOrderlessSaid:=
 OpenClaim.holds_of_wide 5 Tryz.f5 rfl rfl rfl rfl rfl rfl rfl ⟨rfl,rfl,rfl,rfl,rfl⟩ rfl rfl rfl rfl rfl (by kernel_rfl) Tryz.func5 fnOrderless_joined
   (of_decide_eq_true (by kernel_rfl)) (by unfold Func.isWrapper;first | (rw[if_pos (by decide +kernel)];kernel_rfl) | (rw[if_neg (by decide +kernel)];exact⟨rfl,rfl⟩))
   (fun os started H enc _=>fnOrderless_lifted os started H enc)
end Go.Proofs.YtajkcodhmabmnaaGreat
