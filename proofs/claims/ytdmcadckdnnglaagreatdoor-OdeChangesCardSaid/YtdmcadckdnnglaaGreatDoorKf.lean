/- Part. -/
import Derived.Test.YtdmcadckdnnglaaGreatDoorRows
import Derived.JoinedOf
set_option linter.all false
namespace Go.Sy
open Go Go.Proofs Go.Proofs.Tryz
open YtdmcadckdnnglaaGreatDoor
def lg{a b:Bool}(ha:a=true)(hb:b=true):(a&&b)=true:=by rw[ha,hb];rfl
noncomputable abbrev KF(F:Program->FuncId->Func->ChangeSpec->OpenClaim->Bool):Bool:=F prog 14 f14 ((OpenSpec.ofChange Rows.odeChangesSpec).bare) Rows.odeChangesRow
def kf1:KF (fun P f fn s c=>c.wf (OpenSpec.ofChange s))=true:=by kernel_rfl
def kf2:KF (fun P f fn s c=>laidOutB P)=true:=by kernel_rfl
def kf3:KF (fun P f fn s c=>mapsRowed P)=true:=by kernel_rfl
def kf4:KF (fun P f fn s c=>fn.params.all (P.readableRec ·))=true:=by kernel_rfl
def kf5:KF (fun P f fn s c=>namedTie P c.named s.vars)=true:=by kernel_rfl
def kf6:KF (fun P f fn s c=>(c.stops == []))=true:=by kernel_rfl
def kf7:KF (fun P f fn s c=>(P.stops == []))=true:=by kernel_rfl
def kf8:KF (fun P f fn s c=>(c.knobs == []))=true:=by kernel_rfl
def kf9:KF (fun P f fn s c=>(P.stopKnobs == []))=true:=by kernel_rfl
def cG7:KF (fun P f fn s c=>(c.inPlace==P.inPlace f))=true:=by kernel_rfl
def cJ1:KF (fun P f fn s c=>(c.unfollowed==P.unfollowed f))=true:=by kernel_rfl
def cG0:KF (fun P f fn s c=>(c.recurses==P.recurses f))=true:=by kernel_rfl
def cK5:KF (fun P f fn s c=>(c.named==P.varsNamed f))=true:=by kernel_rfl
def cE7:KF (fun P f fn s c=>(c.maps==(fn.params.toList++s.plain.varTypes P).any (P.mapsRec ·)))=true:=by kernel_rfl
def cI0:KF (fun P f fn s c=>(c.ifaces==(fn.params.toList++s.plain.varTypes P).any (P.ifacesRec ·)))=true:=by kernel_rfl
def cJ2:KF (fun P f fn s c=>(c.mapsOut==P.mapsAmong fn.resultTypes.toList))=true:=by kernel_rfl
def cE9:KF (fun P f fn s c=>(c.loops==(fn.params.toList++s.plain.varTypes P).any (P.loopsFrom ·)))=true:=by kernel_rfl
def cE6:KF (fun P f fn s c=>(c.wideKeys==(fn.params.toList++s.plain.varTypes P++fn.resultTypes.toList).any (P.wideKeysFrom ·)))=true:=by kernel_rfl
def cH5:KF (fun P f fn s c=>s.vars.all (P.varReadable ·))=true:=by kernel_rfl
def cI3:KF (fun P f fn s c=>fn.resultTypes.all (fun t=>P.readableRec t&&decide (t<P.types.size)))=true:=by kernel_rfl
def cH0:KF (fun P f fn s c=>(c.ifacesOut==fn.resultTypes.toList.any (P.ifacesRec ·)))=true:=by kernel_rfl
def cF8:KF (fun P f fn s c=>(c.loopsOut==fn.resultTypes.toList.any (P.loopsFrom ·)))=true:=by kernel_rfl
def cK4:KF (fun P f fn s c=>(c.plainKeys==P.plainKeys))=true:=by kernel_rfl
def cH3:KF (fun P f fn s c=>c.shortTexts.isNone)=true:=by kernel_rfl
def cH6:KF (fun P f fn s c=>P.stopsHeard)=true:=by kernel_rfl
def cG5:KF (fun P f fn s c=>P.mayEnter)=true:=by kernel_rfl
def cH9:KF (fun P f fn s c=>(c.lifted==P.liftsFinal))=true:=by kernel_rfl
def cJ0:KF (fun P f fn s c=>(P.make==some c.make))=true:=by kernel_rfl
def cL1:KF (fun P f fn s c=>(c.kinds==(if c.domain.isEmpty then[]else fn.params.toList.map fun t=>match P.underlying t with | some (.int k)=>some k | _=>none)))=true:=by kernel_rfl
def cG4:KF (fun P f fn s c=>(c.pinned==c.pinnedBy))=true:=by kernel_rfl
def cE5:KF (fun P f fn s c=>(c.veiled==(fn.params.toList++s.plain.varTypes P++fn.resultTypes.toList).any (P.veiledRec ·)))=true:=by kernel_rfl
def cG1:KF (fun P f fn s c=>c.veiledFits P fn.params.toList (fn.params.toList++s.plain.varTypes P++fn.resultTypes.toList))=true:=by kernel_rfl
set_option maxRecDepth 100000 in
def kf:joinedFacts prog 14 f14 ((OpenSpec.ofChange Rows.odeChangesSpec).bare) (Rows.odeChangesRow)=true:=by
 unfold joinedFacts;exact lg (lg (lg (lg (lg (lg (lg (lg (lg (lg (lg (lg (lg (lg (lg (lg (lg (lg (lg (lg (lg (lg (lg (lg (lg (lg (lg (lg (lg (lg (lg kf1 kf2) kf3) kf4) kf5) kf6) kf7) kf8) kf9) cG7) cJ1) cG0) cK5) cE7) cI0) cJ2) cE9) cE6) cH5) cI3) cH0) cF8) cK4) cH3) cH6) cG5) cH9) cJ0) cL1) cG4) cE5) cG1
end Go.Sy
