/- The closed facts of the row.
-/
import Derived.Test.YtdmcadckdnnglaaGreatDoorRows
import Derived.JoinedOf
import Derived.KernelRfl
set_option linter.unusedVariables false
set_option linter.unusedSimpArgs false
namespace Go.Sy
open Go Go.Proofs Go.Proofs.Tryz
open YtdmcadckdnnglaaGreatDoor
theorem fW {a b : Bool} (ha : a = true) (hb : b = true) : (a && b) = true := by rw [ha, hb]; rfl
noncomputable abbrev KF (F : Program → FuncId → Func → ChangeSpec → OpenClaim → Bool) : Bool := F prog 4 f4 ((OpenSpec.ofChange Rows.odeSeriesSpec).bare) Rows.odeSeriesRow
theorem Zm : KF (fun P f fn s c => c.wf (OpenSpec.ofChange s)) = true := by kernel_rfl
theorem Zq : KF (fun P f fn s c => laidOutB P) = true := by kernel_rfl
theorem Zi : KF (fun P f fn s c => mapsRowed P) = true := by kernel_rfl
theorem Zn : KF (fun P f fn s c => fn.params.all (P.readableRec ·)) = true := by kernel_rfl
theorem Zh : KF (fun P f fn s c => namedTie P c.named s.vars) = true := by kernel_rfl
theorem Zu : KF (fun P f fn s c => (c.stops == [])) = true := by kernel_rfl
theorem Zj : KF (fun P f fn s c => (P.stops == [])) = true := by kernel_rfl
theorem Zs : KF (fun P f fn s c => (c.knobs == [])) = true := by kernel_rfl
theorem Zo : KF (fun P f fn s c => (P.stopKnobs == [])) = true := by kernel_rfl
theorem Yi : KF (fun P f fn s c => (c.inPlace == P.inPlace f)) = true := by kernel_rfl
theorem YT : KF (fun P f fn s c => (c.unfollowed == P.unfollowed f)) = true := by kernel_rfl
theorem YK : KF (fun P f fn s c => (c.recurses == P.recurses f)) = true := by kernel_rfl
theorem YC : KF (fun P f fn s c => (c.named == P.varsNamed f)) = true := by kernel_rfl
theorem Yv : KF (fun P f fn s c => (c.maps == (fn.params.toList ++ s.plain.varTypes P).any (P.mapsRec ·))) = true := by kernel_rfl
theorem YA : KF (fun P f fn s c => (c.ifaces == (fn.params.toList ++ s.plain.varTypes P).any (P.ifacesRec ·))) = true := by kernel_rfl
theorem YV : KF (fun P f fn s c => (c.mapsOut == P.mapsAmong fn.resultTypes.toList)) = true := by kernel_rfl
theorem Yn : KF (fun P f fn s c => (c.loops == (fn.params.toList ++ s.plain.varTypes P).any (P.loopsFrom ·))) = true := by kernel_rfl
theorem YQ : KF (fun P f fn s c => (c.wideKeys == (fn.params.toList ++ s.plain.varTypes P ++ fn.resultTypes.toList).any (P.wideKeysFrom ·))) = true := by kernel_rfl
theorem XX : KF (fun P f fn s c => s.vars.all (P.varReadable ·)) = true := by kernel_rfl
theorem YM : KF (fun P f fn s c => fn.resultTypes.all (fun t => P.readableRec t && decide (t < P.types.size))) = true := by kernel_rfl
theorem Yr : KF (fun P f fn s c => (c.ifacesOut == fn.resultTypes.toList.any (P.ifacesRec ·))) = true := by kernel_rfl
theorem YS : KF (fun P f fn s c => (c.loopsOut == fn.resultTypes.toList.any (P.loopsFrom ·))) = true := by kernel_rfl
theorem Ye : KF (fun P f fn s c => (c.plainKeys == P.plainKeys)) = true := by kernel_rfl
theorem YJ : KF (fun P f fn s c => c.shortTexts.isNone) = true := by kernel_rfl
theorem XY : KF (fun P f fn s c => P.stopsHeard) = true := by kernel_rfl
theorem YP : KF (fun P f fn s c => P.mayEnter) = true := by kernel_rfl
theorem Yk : KF (fun P f fn s c => (c.lifted == P.liftsFinal)) = true := by kernel_rfl
theorem Ym : KF (fun P f fn s c => (P.make == some c.make)) = true := by kernel_rfl
theorem YH : KF (fun P f fn s c => (c.kinds == (if c.domain.isEmpty then [] else fn.params.toList.map fun t => match P.underlying t with | some (.int k) => some k | _ => none))) = true := by kernel_rfl
theorem Yp : KF (fun P f fn s c => (c.pinned == c.pinnedBy)) = true := by kernel_rfl
theorem YN : KF (fun P f fn s c => (c.veiled == (fn.params.toList ++ s.plain.varTypes P ++ fn.resultTypes.toList).any (P.veiledRec ·))) = true := by kernel_rfl
theorem YD : KF (fun P f fn s c => c.veiledFits P fn.params.toList (fn.params.toList ++ s.plain.varTypes P ++ fn.resultTypes.toList)) = true := by kernel_rfl
set_option maxRecDepth 100000 in
theorem kf : joinedFacts prog 4 f4 ((OpenSpec.ofChange Rows.odeSeriesSpec).bare) (Rows.odeSeriesRow) = true := by
 unfold joinedFacts
 exact fW (fW (fW (fW (fW (fW (fW (fW (fW (fW (fW (fW (fW (fW (fW (fW (fW (fW (fW (fW (fW (fW (fW (fW (fW (fW (fW (fW (fW (fW (fW Zm Zq) Zi) Zn) Zh) Zu) Zj) Zs) Zo) Yi) YT) YK) YC) Yv) YA) YV) Yn) YQ) XX) YM) Yr) YS) Ye) YJ) XY) YP) Yk) Ym) YH) Yp) YN) YD
end Go.Sy
