/- The closed facts of the row.
-/
import Derived.Test.YtdmcadckdnnglaaGreatDoorRows
import Derived.JoinedOf
import Derived.KernelRfl
set_option linter.unusedVariables false
set_option linter.unusedSimpArgs false
namespace Go.Sy
open Go Go.Proofs Go.Proofs.Tryz
open YtdmcadckdnnglaaGreatDoor
theorem fH {a b:Bool} (ha:a=true) (hb:b=true):(a&&b)=true:=by rw [ha,hb];rfl
noncomputable abbrev KF (F:Program→FuncId→Func→ChangeSpec→OpenClaim→Bool):Bool:=F prog 7 f7 ((OpenSpec.ofChange Rows.odeFamiliesSpec).bare) Rows.odeFamiliesRow
theorem VZ:KF (fun P f fn s c=>c.wf (OpenSpec.ofChange s))=true:=by kernel_rfl
theorem VY:KF (fun P f fn s c=>laidOutB P)=true:=by kernel_rfl
theorem VN:KF (fun P f fn s c=>mapsRowed P)=true:=by kernel_rfl
theorem Wc:KF (fun P f fn s c=>fn.params.all (P.readableRec ·))=true:=by kernel_rfl
theorem VU:KF (fun P f fn s c=>namedTie P c.named s.vars)=true:=by kernel_rfl
theorem VL:KF (fun P f fn s c=>(c.stops == []))=true:=by kernel_rfl
theorem VQ:KF (fun P f fn s c=>(P.stops == []))=true:=by kernel_rfl
theorem VV:KF (fun P f fn s c=>(c.knobs == []))=true:=by kernel_rfl
theorem VW:KF (fun P f fn s c=>(P.stopKnobs == []))=true:=by kernel_rfl
theorem UJ:KF (fun P f fn s c=>(c.inPlace==P.inPlace f))=true:=by kernel_rfl
theorem Vg:KF (fun P f fn s c=>(c.unfollowed==P.unfollowed f))=true:=by kernel_rfl
theorem UE:KF (fun P f fn s c=>(c.recurses==P.recurses f))=true:=by kernel_rfl
theorem Vq:KF (fun P f fn s c=>(c.named==P.varsNamed f))=true:=by kernel_rfl
theorem Uu:KF (fun P f fn s c=>(c.maps==(fn.params.toList++s.plain.varTypes P).any (P.mapsRec ·)))=true:=by kernel_rfl
theorem UW:KF (fun P f fn s c=>(c.ifaces==(fn.params.toList++s.plain.varTypes P).any (P.ifacesRec ·)))=true:=by kernel_rfl
theorem Vi:KF (fun P f fn s c=>(c.mapsOut==P.mapsAmong fn.resultTypes.toList))=true:=by kernel_rfl
theorem Uw:KF (fun P f fn s c=>(c.loops==(fn.params.toList++s.plain.varTypes P).any (P.loopsFrom ·)))=true:=by kernel_rfl
theorem Ut:KF (fun P f fn s c=>(c.wideKeys==(fn.params.toList++s.plain.varTypes P++fn.resultTypes.toList).any (P.wideKeysFrom ·)))=true:=by kernel_rfl
theorem UP:KF (fun P f fn s c=>s.vars.all (P.varReadable ·))=true:=by kernel_rfl
theorem UY:KF (fun P f fn s c=>fn.resultTypes.all (fun t=>P.readableRec t&&decide (t<P.types.size)))=true:=by kernel_rfl
theorem UL:KF (fun P f fn s c=>(c.ifacesOut==fn.resultTypes.toList.any (P.ifacesRec ·)))=true:=by kernel_rfl
theorem UC:KF (fun P f fn s c=>(c.loopsOut==fn.resultTypes.toList.any (P.loopsFrom ·)))=true:=by kernel_rfl
theorem Vp:KF (fun P f fn s c=>(c.plainKeys==P.plainKeys))=true:=by kernel_rfl
theorem UM:KF (fun P f fn s c=>c.shortTexts.isNone)=true:=by kernel_rfl
theorem UQ:KF (fun P f fn s c=>P.stopsHeard)=true:=by kernel_rfl
theorem UI:KF (fun P f fn s c=>P.mayEnter)=true:=by kernel_rfl
theorem UU:KF (fun P f fn s c=>(c.lifted==P.liftsFinal))=true:=by kernel_rfl
theorem Vf:KF (fun P f fn s c=>(P.make==some c.make))=true:=by kernel_rfl
theorem Vw:KF (fun P f fn s c=>(c.kinds==(if c.domain.isEmpty then [] else fn.params.toList.map fun t=>match P.underlying t with | some (.int k)=>some k | _=>none)))=true:=by kernel_rfl
theorem UH:KF (fun P f fn s c=>(c.pinned==c.pinnedBy))=true:=by kernel_rfl
theorem Uq:KF (fun P f fn s c=>(c.veiled==(fn.params.toList++s.plain.varTypes P++fn.resultTypes.toList).any (P.veiledRec ·)))=true:=by kernel_rfl
theorem UF:KF (fun P f fn s c=>c.veiledFits P fn.params.toList (fn.params.toList++s.plain.varTypes P++fn.resultTypes.toList))=true:=by kernel_rfl
set_option maxRecDepth 100000 in
theorem kf:joinedFacts prog 7 f7 ((OpenSpec.ofChange Rows.odeFamiliesSpec).bare) (Rows.odeFamiliesRow)=true:=by
 unfold joinedFacts;exact fH (fH (fH (fH (fH (fH (fH (fH (fH (fH (fH (fH (fH (fH (fH (fH (fH (fH (fH (fH (fH (fH (fH (fH (fH (fH (fH (fH (fH (fH (fH VZ VY) VN) Wc) VU) VL) VQ) VV) VW) UJ) Vg) UE) Vq) Uu) UW) Vi) Uw) Ut) UP) UY) UL) UC) Vp) UM) UQ) UI) UU) Vf) Vw) UH) Uq) UF
end Go.Sy
