/- Part. -/
import Derived.Test.YtacgmapjhpghkaaGreatDoorRows
import Derived.JoinedOf
set_option linter.all false
namespace Go.Sy
open Go Go.Proofs Go.Proofs.Tryz
open YtacgmapjhpghkaaGreatDoor
theorem iO {a b:Bool} (ha:a=true) (hb:b=true):(a&&b)=true:=by rw [ha,hb];rfl
noncomputable abbrev KF (F:Program→FuncId→Func→ChangeSpec→OpenClaim→Bool):Bool:=F prog 3 f3 ((OpenSpec.ofChange Rows.splineValuesSpec).bare) Rows.splineValuesRow
theorem kf1:KF (fun P f fn s c=>c.wf (OpenSpec.ofChange s))=true:=by kernel_rfl
theorem kf2:KF (fun P f fn s c=>laidOutB P)=true:=by kernel_rfl
theorem kf3:KF (fun P f fn s c=>mapsRowed P)=true:=by kernel_rfl
theorem kf4:KF (fun P f fn s c=>fn.params.all (P.readableRec ·))=true:=by kernel_rfl
theorem kf5:KF (fun P f fn s c=>namedTie P c.named s.vars)=true:=by kernel_rfl
theorem kf6:KF (fun P f fn s c=>(c.stops == []))=true:=by kernel_rfl
theorem kf7:KF (fun P f fn s c=>(P.stops == []))=true:=by kernel_rfl
theorem kf8:KF (fun P f fn s c=>(c.knobs == []))=true:=by kernel_rfl
theorem kf9:KF (fun P f fn s c=>(P.stopKnobs == []))=true:=by kernel_rfl
theorem bv2:KF (fun P f fn s c=>(c.inPlace==P.inPlace f))=true:=by kernel_rfl
theorem bx3:KF (fun P f fn s c=>(c.unfollowed==P.unfollowed f))=true:=by kernel_rfl
theorem bu7:KF (fun P f fn s c=>(c.recurses==P.recurses f))=true:=by kernel_rfl
theorem by1:KF (fun P f fn s c=>(c.named==P.varsNamed f))=true:=by kernel_rfl
theorem bu0:KF (fun P f fn s c=>(c.maps==(fn.params.toList++s.plain.varTypes P).any (P.mapsRec ·)))=true:=by kernel_rfl
theorem bw3:KF (fun P f fn s c=>(c.ifaces==(fn.params.toList++s.plain.varTypes P).any (P.ifacesRec ·)))=true:=by kernel_rfl
theorem bx4:KF (fun P f fn s c=>(c.mapsOut==P.mapsAmong fn.resultTypes.toList))=true:=by kernel_rfl
theorem bu1:KF (fun P f fn s c=>(c.loops==(fn.params.toList++s.plain.varTypes P).any (P.loopsFrom ·)))=true:=by kernel_rfl
theorem bt9:KF (fun P f fn s c=>(c.wideKeys==(fn.params.toList++s.plain.varTypes P++fn.resultTypes.toList).any (P.wideKeysFrom ·)))=true:=by kernel_rfl
theorem bv7:KF (fun P f fn s c=>s.vars.all (P.varReadable ·))=true:=by kernel_rfl
theorem bw6:KF (fun P f fn s c=>fn.resultTypes.all (fun t=>P.readableRec t&&decide (t<P.types.size)))=true:=by kernel_rfl
theorem bv4:KF (fun P f fn s c=>(c.ifacesOut==fn.resultTypes.toList.any (P.ifacesRec ·)))=true:=by kernel_rfl
theorem bu5:KF (fun P f fn s c=>(c.loopsOut==fn.resultTypes.toList.any (P.loopsFrom ·)))=true:=by kernel_rfl
theorem by0:KF (fun P f fn s c=>(c.plainKeys==P.plainKeys))=true:=by kernel_rfl
theorem bv5:KF (fun P f fn s c=>c.shortTexts.isNone)=true:=by kernel_rfl
theorem bv8:KF (fun P f fn s c=>P.stopsHeard)=true:=by kernel_rfl
theorem bv1:KF (fun P f fn s c=>P.mayEnter)=true:=by kernel_rfl
theorem bw2:KF (fun P f fn s c=>(c.lifted==P.liftsFinal))=true:=by kernel_rfl
theorem bx2:KF (fun P f fn s c=>(P.make==some c.make))=true:=by kernel_rfl
theorem by6:KF (fun P f fn s c=>(c.kinds==(if c.domain.isEmpty then [] else fn.params.toList.map fun t=>match P.underlying t with | some (.int k)=>some k | _=>none)))=true:=by kernel_rfl
theorem bv0:KF (fun P f fn s c=>(c.pinned==c.pinnedBy))=true:=by kernel_rfl
theorem bt7:KF (fun P f fn s c=>(c.veiled==(fn.params.toList++s.plain.varTypes P++fn.resultTypes.toList).any (P.veiledRec ·)))=true:=by kernel_rfl
theorem bu8:KF (fun P f fn s c=>c.veiledFits P fn.params.toList (fn.params.toList++s.plain.varTypes P++fn.resultTypes.toList))=true:=by kernel_rfl
set_option maxRecDepth 100000 in
theorem kf:joinedFacts prog 3 f3 ((OpenSpec.ofChange Rows.splineValuesSpec).bare) (Rows.splineValuesRow)=true:=by
 unfold joinedFacts;exact iO (iO (iO (iO (iO (iO (iO (iO (iO (iO (iO (iO (iO (iO (iO (iO (iO (iO (iO (iO (iO (iO (iO (iO (iO (iO (iO (iO (iO (iO (iO kf1 kf2) kf3) kf4) kf5) kf6) kf7) kf8) kf9) bv2) bx3) bu7) by1) bu0) bw3) bx4) bu1) bt9) bv7) bw6) bv4) bu5) by0) bv5) bv8) bv1) bw2) bx2) by6) bv0) bt7) bu8
end Go.Sy
