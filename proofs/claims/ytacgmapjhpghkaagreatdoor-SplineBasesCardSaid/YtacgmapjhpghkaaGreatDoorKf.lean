/- Part. -/
import Derived.Test.YtacgmapjhpghkaaGreatDoorRows
import Derived.JoinedOf
set_option linter.all false
namespace Go.Sy
open Go Go.Proofs Go.Proofs.Tryz
open YtacgmapjhpghkaaGreatDoor
theorem je{a b:Bool}(ha:a=true)(hb:b=true):(a&&b)=true:=by rw[ha,hb];rfl
noncomputable abbrev KF(F:Program->FuncId->Func->ChangeSpec->OpenClaim->Bool):Bool:=F prog 4 f4 ((OpenSpec.ofChange Rows.splineBasesSpec).bare) Rows.splineBasesRow
theorem kf1:KF (fun P f fn s c=>c.wf (OpenSpec.ofChange s))=true:=by kernel_rfl
theorem kf2:KF (fun P f fn s c=>laidOutB P)=true:=by kernel_rfl
theorem kf3:KF (fun P f fn s c=>mapsRowed P)=true:=by kernel_rfl
theorem kf4:KF (fun P f fn s c=>fn.params.all (P.readableRec ·))=true:=by kernel_rfl
theorem kf5:KF (fun P f fn s c=>namedTie P c.named s.vars)=true:=by kernel_rfl
theorem kf6:KF (fun P f fn s c=>(c.stops == []))=true:=by kernel_rfl
theorem kf7:KF (fun P f fn s c=>(P.stops == []))=true:=by kernel_rfl
theorem kf8:KF (fun P f fn s c=>(c.knobs == []))=true:=by kernel_rfl
theorem kf9:KF (fun P f fn s c=>(P.stopKnobs == []))=true:=by kernel_rfl
theorem cn2:KF (fun P f fn s c=>(c.inPlace==P.inPlace f))=true:=by kernel_rfl
theorem cp2:KF (fun P f fn s c=>(c.unfollowed==P.unfollowed f))=true:=by kernel_rfl
theorem cm6:KF (fun P f fn s c=>(c.recurses==P.recurses f))=true:=by kernel_rfl
theorem cp9:KF (fun P f fn s c=>(c.named==P.varsNamed f))=true:=by kernel_rfl
theorem cl7:KF (fun P f fn s c=>(c.maps==(fn.params.toList++s.plain.varTypes P).any (P.mapsRec ·)))=true:=by kernel_rfl
theorem co2:KF (fun P f fn s c=>(c.ifaces==(fn.params.toList++s.plain.varTypes P).any (P.ifacesRec ·)))=true:=by kernel_rfl
theorem cp3:KF (fun P f fn s c=>(c.mapsOut==P.mapsAmong fn.resultTypes.toList))=true:=by kernel_rfl
theorem cl8:KF (fun P f fn s c=>(c.loops==(fn.params.toList++s.plain.varTypes P).any (P.loopsFrom ·)))=true:=by kernel_rfl
theorem cl6:KF (fun P f fn s c=>(c.wideKeys==(fn.params.toList++s.plain.varTypes P++fn.resultTypes.toList).any (P.wideKeysFrom ·)))=true:=by kernel_rfl
theorem cn8:KF (fun P f fn s c=>s.vars.all (P.varReadable ·))=true:=by kernel_rfl
theorem co5:KF (fun P f fn s c=>fn.resultTypes.all (fun t=>P.readableRec t&&decide (t<P.types.size)))=true:=by kernel_rfl
theorem cn4:KF (fun P f fn s c=>(c.ifacesOut==fn.resultTypes.toList.any (P.ifacesRec ·)))=true:=by kernel_rfl
theorem cm4:KF (fun P f fn s c=>(c.loopsOut==fn.resultTypes.toList.any (P.loopsFrom ·)))=true:=by kernel_rfl
theorem cp8:KF (fun P f fn s c=>(c.plainKeys==P.plainKeys))=true:=by kernel_rfl
theorem cn6:KF (fun P f fn s c=>c.shortTexts.isNone)=true:=by kernel_rfl
theorem cn9:KF (fun P f fn s c=>P.stopsHeard)=true:=by kernel_rfl
theorem cn1:KF (fun P f fn s c=>P.mayEnter)=true:=by kernel_rfl
theorem co1:KF (fun P f fn s c=>(c.lifted==P.liftsFinal))=true:=by kernel_rfl
theorem cp1:KF (fun P f fn s c=>(P.make==some c.make))=true:=by kernel_rfl
theorem cq4:KF (fun P f fn s c=>(c.kinds==(if c.domain.isEmpty then[]else fn.params.toList.map fun t=>match P.underlying t with | some (.int k)=>some k | _=>none)))=true:=by kernel_rfl
theorem cm9:KF (fun P f fn s c=>(c.pinned==c.pinnedBy))=true:=by kernel_rfl
theorem cl4:KF (fun P f fn s c=>(c.veiled==(fn.params.toList++s.plain.varTypes P++fn.resultTypes.toList).any (P.veiledRec ·)))=true:=by kernel_rfl
theorem cm7:KF (fun P f fn s c=>c.veiledFits P fn.params.toList (fn.params.toList++s.plain.varTypes P++fn.resultTypes.toList))=true:=by kernel_rfl
set_option maxRecDepth 100000 in
theorem kf:joinedFacts prog 4 f4 ((OpenSpec.ofChange Rows.splineBasesSpec).bare) (Rows.splineBasesRow)=true:=by
 unfold joinedFacts;exact je (je (je (je (je (je (je (je (je (je (je (je (je (je (je (je (je (je (je (je (je (je (je (je (je (je (je (je (je (je (je kf1 kf2) kf3) kf4) kf5) kf6) kf7) kf8) kf9) cn2) cp2) cm6) cp9) cl7) co2) cp3) cl8) cl6) cn8) co5) cn4) cm4) cp8) cn6) cn9) cn1) co1) cp1) cq4) cm9) cl4) cm7
end Go.Sy
