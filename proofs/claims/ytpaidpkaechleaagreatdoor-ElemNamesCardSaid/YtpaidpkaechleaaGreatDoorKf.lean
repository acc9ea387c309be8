/- Part. -/
import Derived.Test.YtpaidpkaechleaaGreatDoorRows
import Derived.JoinedOf
set_option linter.all false
namespace Go.Sy
open Go Go.Proofs Go.Proofs.Tryz
open YtpaidpkaechleaaGreatDoor
theorem fQ {a b:Bool} (ha:a=true) (hb:b=true):(a&&b)=true:=by rw [ha,hb];rfl
noncomputable abbrev KF (F:Program→FuncId→Func→ChangeSpec→OpenClaim→Bool):Bool:=F prog 5 f5 ((OpenSpec.ofChange Rows.elemNamesSpec).bare) Rows.elemNamesRow
theorem kf1:KF (fun P f fn s c=>c.wf (OpenSpec.ofChange s))=true:=by kernel_rfl
theorem kf2:KF (fun P f fn s c=>laidOutB P)=true:=by kernel_rfl
theorem kf3:KF (fun P f fn s c=>mapsRowed P)=true:=by kernel_rfl
theorem kf4:KF (fun P f fn s c=>fn.params.all (P.readableRec ·))=true:=by kernel_rfl
theorem kf5:KF (fun P f fn s c=>namedTie P c.named s.vars)=true:=by kernel_rfl
theorem kf6:KF (fun P f fn s c=>(c.stops == []))=true:=by kernel_rfl
theorem kf7:KF (fun P f fn s c=>(P.stops == []))=true:=by kernel_rfl
theorem kf8:KF (fun P f fn s c=>(c.knobs == []))=true:=by kernel_rfl
theorem kf9:KF (fun P f fn s c=>(P.stopKnobs == []))=true:=by kernel_rfl
theorem au0:KF (fun P f fn s c=>(c.inPlace==P.inPlace f))=true:=by kernel_rfl
theorem ax2:KF (fun P f fn s c=>(c.unfollowed==P.unfollowed f))=true:=by kernel_rfl
theorem as5:KF (fun P f fn s c=>(c.recurses==P.recurses f))=true:=by kernel_rfl
theorem ay5:KF (fun P f fn s c=>(c.named==P.varsNamed f))=true:=by kernel_rfl
theorem aq9:KF (fun P f fn s c=>(c.maps==(fn.params.toList++s.plain.varTypes P).any (P.mapsRec ·)))=true:=by kernel_rfl
theorem av8:KF (fun P f fn s c=>(c.ifaces==(fn.params.toList++s.plain.varTypes P).any (P.ifacesRec ·)))=true:=by kernel_rfl
theorem ax4:KF (fun P f fn s c=>(c.mapsOut==P.mapsAmong fn.resultTypes.toList))=true:=by kernel_rfl
theorem ar1:KF (fun P f fn s c=>(c.loops==(fn.params.toList++s.plain.varTypes P).any (P.loopsFrom ·)))=true:=by kernel_rfl
theorem aq7:KF (fun P f fn s c=>(c.wideKeys==(fn.params.toList++s.plain.varTypes P++fn.resultTypes.toList).any (P.wideKeysFrom ·)))=true:=by kernel_rfl
theorem av2:KF (fun P f fn s c=>s.vars.all (P.varReadable ·))=true:=by kernel_rfl
theorem aw3:KF (fun P f fn s c=>fn.resultTypes.all (fun t=>P.readableRec t&&decide (t<P.types.size)))=true:=by kernel_rfl
theorem au7:KF (fun P f fn s c=>(c.ifacesOut==fn.resultTypes.toList.any (P.ifacesRec ·)))=true:=by kernel_rfl
theorem ar9:KF (fun P f fn s c=>(c.loopsOut==fn.resultTypes.toList.any (P.loopsFrom ·)))=true:=by kernel_rfl
theorem ay4:KF (fun P f fn s c=>(c.plainKeys==P.plainKeys))=true:=by kernel_rfl
theorem av0:KF (fun P f fn s c=>c.shortTexts.isNone)=true:=by kernel_rfl
theorem av4:KF (fun P f fn s c=>P.stopsHeard)=true:=by kernel_rfl
theorem at3:KF (fun P f fn s c=>P.mayEnter)=true:=by kernel_rfl
theorem av7:KF (fun P f fn s c=>(c.lifted==P.liftsFinal))=true:=by kernel_rfl
theorem ax1:KF (fun P f fn s c=>(P.make==some c.make))=true:=by kernel_rfl
theorem az3:KF (fun P f fn s c=>(c.kinds==(if c.domain.isEmpty then [] else fn.params.toList.map fun t=>match P.underlying t with | some (.int k)=>some k | _=>none)))=true:=by kernel_rfl
theorem as9:KF (fun P f fn s c=>(c.pinned==c.pinnedBy))=true:=by kernel_rfl
theorem aq5:KF (fun P f fn s c=>(c.veiled==(fn.params.toList++s.plain.varTypes P++fn.resultTypes.toList).any (P.veiledRec ·)))=true:=by kernel_rfl
theorem as6:KF (fun P f fn s c=>c.veiledFits P fn.params.toList (fn.params.toList++s.plain.varTypes P++fn.resultTypes.toList))=true:=by kernel_rfl
set_option maxRecDepth 100000 in
theorem kf:joinedFacts prog 5 f5 ((OpenSpec.ofChange Rows.elemNamesSpec).bare) (Rows.elemNamesRow)=true:=by
 unfold joinedFacts;exact fQ (fQ (fQ (fQ (fQ (fQ (fQ (fQ (fQ (fQ (fQ (fQ (fQ (fQ (fQ (fQ (fQ (fQ (fQ (fQ (fQ (fQ (fQ (fQ (fQ (fQ (fQ (fQ (fQ (fQ (fQ kf1 kf2) kf3) kf4) kf5) kf6) kf7) kf8) kf9) au0) ax2) as5) ay5) aq9) av8) ax4) ar1) aq7) av2) aw3) au7) ar9) ay4) av0) av4) at3) av7) ax1) az3) as9) aq5) as6
end Go.Sy
