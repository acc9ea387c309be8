/- Part. -/
import Derived.Test.YtacgmapjhpghkaaGreatDoorRows
import Derived.JoinedOf
set_option linter.all false
namespace Go.Sy
open Go Go.Proofs Go.Proofs.Tryz
open YtacgmapjhpghkaaGreatDoor
theorem jH {a b:Bool} (ha:a=true) (hb:b=true):(a&&b)=true:=by rw [ha,hb];rfl
noncomputable abbrev KF (F:Program->FuncId->Func->ChangeSpec->OpenClaim->Bool):Bool:=F prog 10 f10 ((OpenSpec.ofChange Rows.splineThroughSpec).bare) Rows.splineThroughRow
theorem kf1:KF (fun P f fn s c=>c.wf (OpenSpec.ofChange s))=true:=by kernel_rfl
theorem kf2:KF (fun P f fn s c=>laidOutB P)=true:=by kernel_rfl
theorem kf3:KF (fun P f fn s c=>mapsRowed P)=true:=by kernel_rfl
theorem kf4:KF (fun P f fn s c=>fn.params.all (P.readableRec ·))=true:=by kernel_rfl
theorem kf5:KF (fun P f fn s c=>namedTie P c.named s.vars)=true:=by kernel_rfl
theorem kf6:KF (fun P f fn s c=>(c.stops == []))=true:=by kernel_rfl
theorem kf7:KF (fun P f fn s c=>(P.stops == []))=true:=by kernel_rfl
theorem kf8:KF (fun P f fn s c=>(c.knobs == []))=true:=by kernel_rfl
theorem kf9:KF (fun P f fn s c=>(P.stopKnobs == []))=true:=by kernel_rfl
theorem bH3:KF (fun P f fn s c=>(c.inPlace==P.inPlace f))=true:=by kernel_rfl
theorem bJ3:KF (fun P f fn s c=>(c.unfollowed==P.unfollowed f))=true:=by kernel_rfl
theorem bG8:KF (fun P f fn s c=>(c.recurses==P.recurses f))=true:=by kernel_rfl
theorem bK1:KF (fun P f fn s c=>(c.named==P.varsNamed f))=true:=by kernel_rfl
theorem bG0:KF (fun P f fn s c=>(c.maps==(fn.params.toList++s.plain.varTypes P).any (P.mapsRec ·)))=true:=by kernel_rfl
theorem bI3:KF (fun P f fn s c=>(c.ifaces==(fn.params.toList++s.plain.varTypes P).any (P.ifacesRec ·)))=true:=by kernel_rfl
theorem bJ4:KF (fun P f fn s c=>(c.mapsOut==P.mapsAmong fn.resultTypes.toList))=true:=by kernel_rfl
theorem bG1:KF (fun P f fn s c=>(c.loops==(fn.params.toList++s.plain.varTypes P).any (P.loopsFrom ·)))=true:=by kernel_rfl
theorem bF9:KF (fun P f fn s c=>(c.wideKeys==(fn.params.toList++s.plain.varTypes P++fn.resultTypes.toList).any (P.wideKeysFrom ·)))=true:=by kernel_rfl
theorem bH9:KF (fun P f fn s c=>s.vars.all (P.varReadable ·))=true:=by kernel_rfl
theorem bI6:KF (fun P f fn s c=>fn.resultTypes.all (fun t=>P.readableRec t&&decide (t<P.types.size)))=true:=by kernel_rfl
theorem bH6:KF (fun P f fn s c=>(c.ifacesOut==fn.resultTypes.toList.any (P.ifacesRec ·)))=true:=by kernel_rfl
theorem bG6:KF (fun P f fn s c=>(c.loopsOut==fn.resultTypes.toList.any (P.loopsFrom ·)))=true:=by kernel_rfl
theorem bK0:KF (fun P f fn s c=>(c.plainKeys==P.plainKeys))=true:=by kernel_rfl
theorem bH7:KF (fun P f fn s c=>c.shortTexts.isNone)=true:=by kernel_rfl
theorem bI0:KF (fun P f fn s c=>P.stopsHeard)=true:=by kernel_rfl
theorem bH2:KF (fun P f fn s c=>P.mayEnter)=true:=by kernel_rfl
theorem bI2:KF (fun P f fn s c=>(c.lifted==P.liftsFinal))=true:=by kernel_rfl
theorem bJ2:KF (fun P f fn s c=>(P.make==some c.make))=true:=by kernel_rfl
theorem bK6:KF (fun P f fn s c=>(c.kinds==(if c.domain.isEmpty then [] else fn.params.toList.map fun t=>match P.underlying t with | some (.int k)=>some k | _=>none)))=true:=by kernel_rfl
theorem bH1:KF (fun P f fn s c=>(c.pinned==c.pinnedBy))=true:=by kernel_rfl
theorem bF8:KF (fun P f fn s c=>(c.veiled==(fn.params.toList++s.plain.varTypes P++fn.resultTypes.toList).any (P.veiledRec ·)))=true:=by kernel_rfl
theorem bG9:KF (fun P f fn s c=>c.veiledFits P fn.params.toList (fn.params.toList++s.plain.varTypes P++fn.resultTypes.toList))=true:=by kernel_rfl
set_option maxRecDepth 100000 in
theorem kf:joinedFacts prog 10 f10 ((OpenSpec.ofChange Rows.splineThroughSpec).bare) (Rows.splineThroughRow)=true:=by
 unfold joinedFacts;exact jH (jH (jH (jH (jH (jH (jH (jH (jH (jH (jH (jH (jH (jH (jH (jH (jH (jH (jH (jH (jH (jH (jH (jH (jH (jH (jH (jH (jH (jH (jH kf1 kf2) kf3) kf4) kf5) kf6) kf7) kf8) kf9) bH3) bJ3) bG8) bK1) bG0) bI3) bJ4) bG1) bF9) bH9) bI6) bH6) bG6) bK0) bH7) bI0) bH2) bI2) bJ2) bK6) bH1) bF8) bG9
end Go.Sy
