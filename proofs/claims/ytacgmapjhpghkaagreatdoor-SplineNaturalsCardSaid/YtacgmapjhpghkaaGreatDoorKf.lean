/- Part. -/
import Derived.Test.YtacgmapjhpghkaaGreatDoorRows
import Derived.JoinedOf
set_option linter.all false
namespace Go.Sy
open Go Go.Proofs Go.Proofs.Tryz
open YtacgmapjhpghkaaGreatDoor
def kg{a b:Bool}(ha:a=true)(hb:b=true):(a&&b)=true:=by rw[ha,hb];rfl
noncomputable abbrev KF(F:Program->FuncId->Func->ChangeSpec->OpenClaim->Bool):Bool:=F prog 6 f6 ((OpenSpec.ofChange Rows.splineNaturalsSpec).bare) Rows.splineNaturalsRow
def kf1:KF (fun P f fn s c=>c.wf (OpenSpec.ofChange s))=true:=by kernel_rfl
def kf2:KF (fun P f fn s c=>laidOutB P)=true:=by kernel_rfl
def kf3:KF (fun P f fn s c=>mapsRowed P)=true:=by kernel_rfl
def kf4:KF (fun P f fn s c=>fn.params.all (P.readableRec ·))=true:=by kernel_rfl
def kf5:KF (fun P f fn s c=>namedTie P c.named s.vars)=true:=by kernel_rfl
def kf6:KF (fun P f fn s c=>(c.stops == []))=true:=by kernel_rfl
def kf7:KF (fun P f fn s c=>(P.stops == []))=true:=by kernel_rfl
def kf8:KF (fun P f fn s c=>(c.knobs == []))=true:=by kernel_rfl
def kf9:KF (fun P f fn s c=>(P.stopKnobs == []))=true:=by kernel_rfl
def cD5:KF (fun P f fn s c=>(c.inPlace==P.inPlace f))=true:=by kernel_rfl
def cF5:KF (fun P f fn s c=>(c.unfollowed==P.unfollowed f))=true:=by kernel_rfl
def cC9:KF (fun P f fn s c=>(c.recurses==P.recurses f))=true:=by kernel_rfl
def cG3:KF (fun P f fn s c=>(c.named==P.varsNamed f))=true:=by kernel_rfl
def cC2:KF (fun P f fn s c=>(c.maps==(fn.params.toList++s.plain.varTypes P).any (P.mapsRec ·)))=true:=by kernel_rfl
def cE5:KF (fun P f fn s c=>(c.ifaces==(fn.params.toList++s.plain.varTypes P).any (P.ifacesRec ·)))=true:=by kernel_rfl
def cF6:KF (fun P f fn s c=>(c.mapsOut==P.mapsAmong fn.resultTypes.toList))=true:=by kernel_rfl
def cC3:KF (fun P f fn s c=>(c.loops==(fn.params.toList++s.plain.varTypes P).any (P.loopsFrom ·)))=true:=by kernel_rfl
def cC1:KF (fun P f fn s c=>(c.wideKeys==(fn.params.toList++s.plain.varTypes P++fn.resultTypes.toList).any (P.wideKeysFrom ·)))=true:=by kernel_rfl
def cE1:KF (fun P f fn s c=>s.vars.all (P.varReadable ·))=true:=by kernel_rfl
def cE8:KF (fun P f fn s c=>fn.resultTypes.all (fun t=>P.readableRec t&&decide (t<P.types.size)))=true:=by kernel_rfl
def cD8:KF (fun P f fn s c=>(c.ifacesOut==fn.resultTypes.toList.any (P.ifacesRec ·)))=true:=by kernel_rfl
def cC7:KF (fun P f fn s c=>(c.loopsOut==fn.resultTypes.toList.any (P.loopsFrom ·)))=true:=by kernel_rfl
def cG2:KF (fun P f fn s c=>(c.plainKeys==P.plainKeys))=true:=by kernel_rfl
def cD9:KF (fun P f fn s c=>c.shortTexts.isNone)=true:=by kernel_rfl
def cE2:KF (fun P f fn s c=>P.stopsHeard)=true:=by kernel_rfl
def cD3:KF (fun P f fn s c=>P.mayEnter)=true:=by kernel_rfl
def cE4:KF (fun P f fn s c=>(c.lifted==P.liftsFinal))=true:=by kernel_rfl
def cF4:KF (fun P f fn s c=>(P.make==some c.make))=true:=by kernel_rfl
def cG8:KF (fun P f fn s c=>(c.kinds==(if c.domain.isEmpty then[]else fn.params.toList.map fun t=>match P.underlying t with | some (.int k)=>some k | _=>none)))=true:=by kernel_rfl
def cD2:KF (fun P f fn s c=>(c.pinned==c.pinnedBy))=true:=by kernel_rfl
def cB9:KF (fun P f fn s c=>(c.veiled==(fn.params.toList++s.plain.varTypes P++fn.resultTypes.toList).any (P.veiledRec ·)))=true:=by kernel_rfl
def cD0:KF (fun P f fn s c=>c.veiledFits P fn.params.toList (fn.params.toList++s.plain.varTypes P++fn.resultTypes.toList))=true:=by kernel_rfl
set_option maxRecDepth 100000 in
def kf:joinedFacts prog 6 f6 ((OpenSpec.ofChange Rows.splineNaturalsSpec).bare) (Rows.splineNaturalsRow)=true:=by
 unfold joinedFacts;exact kg (kg (kg (kg (kg (kg (kg (kg (kg (kg (kg (kg (kg (kg (kg (kg (kg (kg (kg (kg (kg (kg (kg (kg (kg (kg (kg (kg (kg (kg (kg kf1 kf2) kf3) kf4) kf5) kf6) kf7) kf8) kf9) cD5) cF5) cC9) cG3) cC2) cE5) cF6) cC3) cC1) cE1) cE8) cD8) cC7) cG2) cD9) cE2) cD3) cE4) cF4) cG8) cD2) cB9) cD0
end Go.Sy
