/- The closed facts of the row.
-/
import Derived.Test.YtdmcadckdnnglaaGreatDoorRows
import Derived.JoinedOf
import Derived.KernelRfl
set_option linter.unusedVariables false
set_option linter.unusedSimpArgs false
namespace Go.Sy
open Go Go.Proofs Go.Proofs.Tryz
open YtdmcadckdnnglaaGreatDoor
theorem iC {a b:Bool} (ha:a=true) (hb:b=true):(a&&b)=true:=by rw [ha,hb];rfl
noncomputable abbrev KF (F:Program→FuncId→Func→ChangeSpec→OpenClaim→Bool):Bool:=F prog 9 f9 ((OpenSpec.ofChange Rows.odeBackSpec).bare) Rows.odeBackRow
theorem kf1:KF (fun P f fn s c=>c.wf (OpenSpec.ofChange s))=true:=by kernel_rfl
theorem kf2:KF (fun P f fn s c=>laidOutB P)=true:=by kernel_rfl
theorem kf3:KF (fun P f fn s c=>mapsRowed P)=true:=by kernel_rfl
theorem kf4:KF (fun P f fn s c=>fn.params.all (P.readableRec ·))=true:=by kernel_rfl
theorem kf5:KF (fun P f fn s c=>namedTie P c.named s.vars)=true:=by kernel_rfl
theorem kf6:KF (fun P f fn s c=>(c.stops == []))=true:=by kernel_rfl
theorem kf7:KF (fun P f fn s c=>(P.stops == []))=true:=by kernel_rfl
theorem kf8:KF (fun P f fn s c=>(c.knobs == []))=true:=by kernel_rfl
theorem kf9:KF (fun P f fn s c=>(P.stopKnobs == []))=true:=by kernel_rfl
theorem aZ6:KF (fun P f fn s c=>(c.inPlace==P.inPlace f))=true:=by kernel_rfl
theorem bb8:KF (fun P f fn s c=>(c.unfollowed==P.unfollowed f))=true:=by kernel_rfl
theorem aY8:KF (fun P f fn s c=>(c.recurses==P.recurses f))=true:=by kernel_rfl
theorem bc8:KF (fun P f fn s c=>(c.named==P.varsNamed f))=true:=by kernel_rfl
theorem aX7:KF (fun P f fn s c=>(c.maps==(fn.params.toList++s.plain.varTypes P).any (P.mapsRec ·)))=true:=by kernel_rfl
theorem ba7:KF (fun P f fn s c=>(c.ifaces==(fn.params.toList++s.plain.varTypes P).any (P.ifacesRec ·)))=true:=by kernel_rfl
theorem bb9:KF (fun P f fn s c=>(c.mapsOut==P.mapsAmong fn.resultTypes.toList))=true:=by kernel_rfl
theorem aX9:KF (fun P f fn s c=>(c.loops==(fn.params.toList++s.plain.varTypes P).any (P.loopsFrom ·)))=true:=by kernel_rfl
theorem aX6:KF (fun P f fn s c=>(c.wideKeys==(fn.params.toList++s.plain.varTypes P++fn.resultTypes.toList).any (P.wideKeysFrom ·)))=true:=by kernel_rfl
theorem ba3:KF (fun P f fn s c=>s.vars.all (P.varReadable ·))=true:=by kernel_rfl
theorem bb0:KF (fun P f fn s c=>fn.resultTypes.all (fun t=>P.readableRec t&&decide (t<P.types.size)))=true:=by kernel_rfl
theorem aZ9:KF (fun P f fn s c=>(c.ifacesOut==fn.resultTypes.toList.any (P.ifacesRec ·)))=true:=by kernel_rfl
theorem aY6:KF (fun P f fn s c=>(c.loopsOut==fn.resultTypes.toList.any (P.loopsFrom ·)))=true:=by kernel_rfl
theorem bc7:KF (fun P f fn s c=>(c.plainKeys==P.plainKeys))=true:=by kernel_rfl
theorem ba1:KF (fun P f fn s c=>c.shortTexts.isNone)=true:=by kernel_rfl
theorem ba4:KF (fun P f fn s c=>P.stopsHeard)=true:=by kernel_rfl
theorem aZ4:KF (fun P f fn s c=>P.mayEnter)=true:=by kernel_rfl
theorem ba6:KF (fun P f fn s c=>(c.lifted==P.liftsFinal))=true:=by kernel_rfl
theorem bb7:KF (fun P f fn s c=>(P.make==some c.make))=true:=by kernel_rfl
theorem bd5:KF (fun P f fn s c=>(c.kinds==(if c.domain.isEmpty then [] else fn.params.toList.map fun t=>match P.underlying t with | some (.int k)=>some k | _=>none)))=true:=by kernel_rfl
theorem aZ3:KF (fun P f fn s c=>(c.pinned==c.pinnedBy))=true:=by kernel_rfl
theorem aX4:KF (fun P f fn s c=>(c.veiled==(fn.params.toList++s.plain.varTypes P++fn.resultTypes.toList).any (P.veiledRec ·)))=true:=by kernel_rfl
theorem aY9:KF (fun P f fn s c=>c.veiledFits P fn.params.toList (fn.params.toList++s.plain.varTypes P++fn.resultTypes.toList))=true:=by kernel_rfl
set_option maxRecDepth 100000 in
theorem kf:joinedFacts prog 9 f9 ((OpenSpec.ofChange Rows.odeBackSpec).bare) (Rows.odeBackRow)=true:=by
 unfold joinedFacts;exact iC (iC (iC (iC (iC (iC (iC (iC (iC (iC (iC (iC (iC (iC (iC (iC (iC (iC (iC (iC (iC (iC (iC (iC (iC (iC (iC (iC (iC (iC (iC kf1 kf2) kf3) kf4) kf5) kf6) kf7) kf8) kf9) aZ6) bb8) aY8) bc8) aX7) ba7) bb9) aX9) aX6) ba3) bb0) aZ9) aY6) bc7) ba1) ba4) aZ4) ba6) bb7) bd5) aZ3) aX4) aY9
end Go.Sy
