/- Part. -/
import Derived.Test.YtacgmapjhpghkaaGreatDoorRows
import Derived.JoinedOf
set_option linter.all false
namespace Go.Sy
open Go Go.Proofs Go.Proofs.Tryz
open YtacgmapjhpghkaaGreatDoor
theorem jm{a b:Bool}(ha:a=true)(hb:b=true):(a&&b)=true:=by rw[ha,hb];rfl
noncomputable abbrev KF(F:Program->FuncId->Func->ChangeSpec->OpenClaim->Bool):Bool:=F prog 5 f5 ((OpenSpec.ofChange Rows.splineHermitesSpec).bare) Rows.splineHermitesRow
theorem kf1:KF (fun P f fn s c=>c.wf (OpenSpec.ofChange s))=true:=by kernel_rfl
theorem kf2:KF (fun P f fn s c=>laidOutB P)=true:=by kernel_rfl
theorem kf3:KF (fun P f fn s c=>mapsRowed P)=true:=by kernel_rfl
theorem kf4:KF (fun P f fn s c=>fn.params.all (P.readableRec ·))=true:=by kernel_rfl
theorem kf5:KF (fun P f fn s c=>namedTie P c.named s.vars)=true:=by kernel_rfl
theorem kf6:KF (fun P f fn s c=>(c.stops == []))=true:=by kernel_rfl
theorem kf7:KF (fun P f fn s c=>(P.stops == []))=true:=by kernel_rfl
theorem kf8:KF (fun P f fn s c=>(c.knobs == []))=true:=by kernel_rfl
theorem kf9:KF (fun P f fn s c=>(P.stopKnobs == []))=true:=by kernel_rfl
theorem cg3:KF (fun P f fn s c=>(c.inPlace==P.inPlace f))=true:=by kernel_rfl
theorem ci3:KF (fun P f fn s c=>(c.unfollowed==P.unfollowed f))=true:=by kernel_rfl
theorem cf6:KF (fun P f fn s c=>(c.recurses==P.recurses f))=true:=by kernel_rfl
theorem cj1:KF (fun P f fn s c=>(c.named==P.varsNamed f))=true:=by kernel_rfl
theorem ce9:KF (fun P f fn s c=>(c.maps==(fn.params.toList++s.plain.varTypes P).any (P.mapsRec ·)))=true:=by kernel_rfl
theorem ch3:KF (fun P f fn s c=>(c.ifaces==(fn.params.toList++s.plain.varTypes P).any (P.ifacesRec ·)))=true:=by kernel_rfl
theorem ci4:KF (fun P f fn s c=>(c.mapsOut==P.mapsAmong fn.resultTypes.toList))=true:=by kernel_rfl
theorem cf0:KF (fun P f fn s c=>(c.loops==(fn.params.toList++s.plain.varTypes P).any (P.loopsFrom ·)))=true:=by kernel_rfl
theorem ce8:KF (fun P f fn s c=>(c.wideKeys==(fn.params.toList++s.plain.varTypes P++fn.resultTypes.toList).any (P.wideKeysFrom ·)))=true:=by kernel_rfl
theorem cg8:KF (fun P f fn s c=>s.vars.all (P.varReadable ·))=true:=by kernel_rfl
theorem ch6:KF (fun P f fn s c=>fn.resultTypes.all (fun t=>P.readableRec t&&decide (t<P.types.size)))=true:=by kernel_rfl
theorem cg5:KF (fun P f fn s c=>(c.ifacesOut==fn.resultTypes.toList.any (P.ifacesRec ·)))=true:=by kernel_rfl
theorem cf4:KF (fun P f fn s c=>(c.loopsOut==fn.resultTypes.toList.any (P.loopsFrom ·)))=true:=by kernel_rfl
theorem cj0:KF (fun P f fn s c=>(c.plainKeys==P.plainKeys))=true:=by kernel_rfl
theorem cg6:KF (fun P f fn s c=>c.shortTexts.isNone)=true:=by kernel_rfl
theorem cg9:KF (fun P f fn s c=>P.stopsHeard)=true:=by kernel_rfl
theorem cg1:KF (fun P f fn s c=>P.mayEnter)=true:=by kernel_rfl
theorem ch2:KF (fun P f fn s c=>(c.lifted==P.liftsFinal))=true:=by kernel_rfl
theorem ci2:KF (fun P f fn s c=>(P.make==some c.make))=true:=by kernel_rfl
theorem cj7:KF (fun P f fn s c=>(c.kinds==(if c.domain.isEmpty then[]else fn.params.toList.map fun t=>match P.underlying t with | some (.int k)=>some k | _=>none)))=true:=by kernel_rfl
theorem cg0:KF (fun P f fn s c=>(c.pinned==c.pinnedBy))=true:=by kernel_rfl
theorem ce6:KF (fun P f fn s c=>(c.veiled==(fn.params.toList++s.plain.varTypes P++fn.resultTypes.toList).any (P.veiledRec ·)))=true:=by kernel_rfl
theorem cf7:KF (fun P f fn s c=>c.veiledFits P fn.params.toList (fn.params.toList++s.plain.varTypes P++fn.resultTypes.toList))=true:=by kernel_rfl
set_option maxRecDepth 100000 in
theorem kf:joinedFacts prog 5 f5 ((OpenSpec.ofChange Rows.splineHermitesSpec).bare) (Rows.splineHermitesRow)=true:=by
 unfold joinedFacts;exact jm (jm (jm (jm (jm (jm (jm (jm (jm (jm (jm (jm (jm (jm (jm (jm (jm (jm (jm (jm (jm (jm (jm (jm (jm (jm (jm (jm (jm (jm (jm kf1 kf2) kf3) kf4) kf5) kf6) kf7) kf8) kf9) cg3) ci3) cf6) cj1) ce9) ch3) ci4) cf0) ce8) cg8) ch6) cg5) cf4) cj0) cg6) cg9) cg1) ch2) ci2) cj7) cg0) ce6) cf7
end Go.Sy
