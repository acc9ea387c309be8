/- The closed facts of the row.
-/
import Derived.Test.YtdmcadckdnnglaaGreatDoorRows
import Derived.JoinedOf
import Derived.KernelRfl
set_option linter.unusedVariables false
set_option linter.unusedSimpArgs false
namespace Go.Sy
open Go Go.Proofs Go.Proofs.Tryz
open YtdmcadckdnnglaaGreatDoor
theorem iB {a b:Bool} (ha:a = true) (hb:b = true):(a && b) = true:=by rw [ha,hb]; rfl
noncomputable abbrev KF (F:Program → FuncId → Func → ChangeSpec → OpenClaim → Bool):Bool:=F prog 6 f6 ((OpenSpec.ofChange Rows.odeReachesSpec).bare) Rows.odeReachesRow
theorem kf1:KF (fun P f fn s c=>c.wf (OpenSpec.ofChange s)) = true:=by kernel_rfl
theorem kf2:KF (fun P f fn s c=>laidOutB P) = true:=by kernel_rfl
theorem kf3:KF (fun P f fn s c=>mapsRowed P) = true:=by kernel_rfl
theorem kf4:KF (fun P f fn s c=>fn.params.all (P.readableRec ·)) = true:=by kernel_rfl
theorem kf5:KF (fun P f fn s c=>namedTie P c.named s.vars) = true:=by kernel_rfl
theorem kf6:KF (fun P f fn s c=>(c.stops == [])) = true:=by kernel_rfl
theorem kf7:KF (fun P f fn s c=>(P.stops == [])) = true:=by kernel_rfl
theorem kf8:KF (fun P f fn s c=>(c.knobs == [])) = true:=by kernel_rfl
theorem kf9:KF (fun P f fn s c=>(P.stopKnobs == [])) = true:=by kernel_rfl
theorem aM9:KF (fun P f fn s c=>(c.inPlace == P.inPlace f)) = true:=by kernel_rfl
theorem aK7:KF (fun P f fn s c=>(c.unfollowed == P.unfollowed f)) = true:=by kernel_rfl
theorem aL5:KF (fun P f fn s c=>(c.recurses == P.recurses f)) = true:=by kernel_rfl
theorem aO9:KF (fun P f fn s c=>(c.named == P.varsNamed f)) = true:=by kernel_rfl
theorem aK6:KF (fun P f fn s c=>(c.maps == (fn.params.toList ++ s.plain.varTypes P).any (P.mapsRec ·))) = true:=by kernel_rfl
theorem aK5:KF (fun P f fn s c=>(c.ifaces == (fn.params.toList ++ s.plain.varTypes P).any (P.ifacesRec ·))) = true:=by kernel_rfl
theorem aO1:KF (fun P f fn s c=>(c.mapsOut == P.mapsAmong fn.resultTypes.toList)) = true:=by kernel_rfl
theorem aL9:KF (fun P f fn s c=>(c.loops == (fn.params.toList ++ s.plain.varTypes P).any (P.loopsFrom ·))) = true:=by kernel_rfl
theorem aO2:KF (fun P f fn s c=>(c.wideKeys == (fn.params.toList ++ s.plain.varTypes P ++ fn.resultTypes.toList).any (P.wideKeysFrom ·))) = true:=by kernel_rfl
theorem aK0:KF (fun P f fn s c=>s.vars.all (P.varReadable ·)) = true:=by kernel_rfl
theorem aM6:KF (fun P f fn s c=>fn.resultTypes.all (fun t=>P.readableRec t && decide (t < P.types.size))) = true:=by kernel_rfl
theorem aP2:KF (fun P f fn s c=>(c.ifacesOut == fn.resultTypes.toList.any (P.ifacesRec ·))) = true:=by kernel_rfl
theorem aM4:KF (fun P f fn s c=>(c.loopsOut == fn.resultTypes.toList.any (P.loopsFrom ·))) = true:=by kernel_rfl
theorem aN0:KF (fun P f fn s c=>(c.plainKeys == P.plainKeys)) = true:=by kernel_rfl
theorem aN3:KF (fun P f fn s c=>c.shortTexts.isNone) = true:=by kernel_rfl
theorem aO0:KF (fun P f fn s c=>P.stopsHeard) = true:=by kernel_rfl
theorem aM2:KF (fun P f fn s c=>P.mayEnter) = true:=by kernel_rfl
theorem aK3:KF (fun P f fn s c=>(c.lifted == P.liftsFinal)) = true:=by kernel_rfl
theorem aL6:KF (fun P f fn s c=>(P.make == some c.make)) = true:=by kernel_rfl
theorem aO6:KF (fun P f fn s c=>(c.kinds == (if c.domain.isEmpty then [] else fn.params.toList.map fun t=>match P.underlying t with | some (.int k)=>some k | _=>none))) = true:=by kernel_rfl
theorem aO3:KF (fun P f fn s c=>(c.pinned == c.pinnedBy)) = true:=by kernel_rfl
theorem aK4:KF (fun P f fn s c=>(c.veiled == (fn.params.toList ++ s.plain.varTypes P ++ fn.resultTypes.toList).any (P.veiledRec ·))) = true:=by kernel_rfl
theorem aN4:KF (fun P f fn s c=>c.veiledFits P fn.params.toList (fn.params.toList ++ s.plain.varTypes P ++ fn.resultTypes.toList)) = true:=by kernel_rfl
set_option maxRecDepth 100000 in
theorem kf:joinedFacts prog 6 f6 ((OpenSpec.ofChange Rows.odeReachesSpec).bare) (Rows.odeReachesRow) = true:=by
 unfold joinedFacts
 exact iB (iB (iB (iB (iB (iB (iB (iB (iB (iB (iB (iB (iB (iB (iB (iB (iB (iB (iB (iB (iB (iB (iB (iB (iB (iB (iB (iB (iB (iB (iB kf1 kf2) kf3) kf4) kf5) kf6) kf7) kf8) kf9) aM9) aK7) aL5) aO9) aK6) aK5) aO1) aL9) aO2) aK0) aM6) aP2) aM4) aN0) aN3) aO0) aM2) aK3) aL6) aO6) aO3) aK4) aN4
end Go.Sy
