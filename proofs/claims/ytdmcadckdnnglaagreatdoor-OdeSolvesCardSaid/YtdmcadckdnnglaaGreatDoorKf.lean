/- The closed facts of the row.
-/
import Derived.Test.YtdmcadckdnnglaaGreatDoorRows
import Derived.JoinedOf
import Derived.KernelRfl
set_option linter.unusedVariables false
set_option linter.unusedSimpArgs false
namespace Go.Sy
open Go Go.Proofs Go.Proofs.Tryz
open YtdmcadckdnnglaaGreatDoor
theorem fL {a b : Bool} (ha : a = true) (hb : b = true) : (a && b) = true := by rw [ha, hb]; rfl
noncomputable abbrev KF (F : Program → FuncId → Func → ChangeSpec → OpenClaim → Bool) : Bool := F prog 5 f5 ((OpenSpec.ofChange Rows.odeSolvesSpec).bare) Rows.odeSolvesRow
theorem Xd : KF (fun P f fn s c => c.wf (OpenSpec.ofChange s)) = true := by kernel_rfl
theorem Xh : KF (fun P f fn s c => laidOutB P) = true := by kernel_rfl
theorem Xm : KF (fun P f fn s c => mapsRowed P) = true := by kernel_rfl
theorem Xc : KF (fun P f fn s c => fn.params.all (P.readableRec ·)) = true := by kernel_rfl
theorem Xr : KF (fun P f fn s c => namedTie P c.named s.vars) = true := by kernel_rfl
theorem Xs : KF (fun P f fn s c => (c.stops == [])) = true := by kernel_rfl
theorem Xf : KF (fun P f fn s c => (P.stops == [])) = true := by kernel_rfl
theorem Xj : KF (fun P f fn s c => (c.knobs == [])) = true := by kernel_rfl
theorem Xg : KF (fun P f fn s c => (P.stopKnobs == [])) = true := by kernel_rfl
theorem Wb : KF (fun P f fn s c => (c.inPlace == P.inPlace f)) = true := by kernel_rfl
theorem WH : KF (fun P f fn s c => (c.unfollowed == P.unfollowed f)) = true := by kernel_rfl
theorem VX : KF (fun P f fn s c => (c.recurses == P.recurses f)) = true := by kernel_rfl
theorem Wk : KF (fun P f fn s c => (c.named == P.varsNamed f)) = true := by kernel_rfl
theorem Wr : KF (fun P f fn s c => (c.maps == (fn.params.toList ++ s.plain.varTypes P).any (P.mapsRec ·))) = true := by kernel_rfl
theorem Wp : KF (fun P f fn s c => (c.ifaces == (fn.params.toList ++ s.plain.varTypes P).any (P.ifacesRec ·))) = true := by kernel_rfl
theorem VN : KF (fun P f fn s c => (c.mapsOut == P.mapsAmong fn.resultTypes.toList)) = true := by kernel_rfl
theorem Wn : KF (fun P f fn s c => (c.loops == (fn.params.toList ++ s.plain.varTypes P).any (P.loopsFrom ·))) = true := by kernel_rfl
theorem VQ : KF (fun P f fn s c => (c.wideKeys == (fn.params.toList ++ s.plain.varTypes P ++ fn.resultTypes.toList).any (P.wideKeysFrom ·))) = true := by kernel_rfl
theorem VK : KF (fun P f fn s c => s.vars.all (P.varReadable ·)) = true := by kernel_rfl
theorem VU : KF (fun P f fn s c => fn.resultTypes.all (fun t => P.readableRec t && decide (t < P.types.size))) = true := by kernel_rfl
theorem We : KF (fun P f fn s c => (c.ifacesOut == fn.resultTypes.toList.any (P.ifacesRec ·))) = true := by kernel_rfl
theorem Wf : KF (fun P f fn s c => (c.loopsOut == fn.resultTypes.toList.any (P.loopsFrom ·))) = true := by kernel_rfl
theorem WL : KF (fun P f fn s c => (c.plainKeys == P.plainKeys)) = true := by kernel_rfl
theorem Ws : KF (fun P f fn s c => c.shortTexts.isNone) = true := by kernel_rfl
theorem VO : KF (fun P f fn s c => P.stopsHeard) = true := by kernel_rfl
theorem WA : KF (fun P f fn s c => P.mayEnter) = true := by kernel_rfl
theorem WO : KF (fun P f fn s c => (c.lifted == P.liftsFinal)) = true := by kernel_rfl
theorem Wy : KF (fun P f fn s c => (P.make == some c.make)) = true := by kernel_rfl
theorem Wc : KF (fun P f fn s c => (c.kinds == (if c.domain.isEmpty then [] else fn.params.toList.map fun t => match P.underlying t with | some (.int k) => some k | _ => none))) = true := by kernel_rfl
theorem VY : KF (fun P f fn s c => (c.pinned == c.pinnedBy)) = true := by kernel_rfl
theorem VZ : KF (fun P f fn s c => (c.veiled == (fn.params.toList ++ s.plain.varTypes P ++ fn.resultTypes.toList).any (P.veiledRec ·))) = true := by kernel_rfl
theorem Wg : KF (fun P f fn s c => c.veiledFits P fn.params.toList (fn.params.toList ++ s.plain.varTypes P ++ fn.resultTypes.toList)) = true := by kernel_rfl
set_option maxRecDepth 100000 in
theorem kf : joinedFacts prog 5 f5 ((OpenSpec.ofChange Rows.odeSolvesSpec).bare) (Rows.odeSolvesRow) = true := by
 unfold joinedFacts
 exact fL (fL (fL (fL (fL (fL (fL (fL (fL (fL (fL (fL (fL (fL (fL (fL (fL (fL (fL (fL (fL (fL (fL (fL (fL (fL (fL (fL (fL (fL (fL Xd Xh) Xm) Xc) Xr) Xs) Xf) Xj) Xg) Wb) WH) VX) Wk) Wr) Wp) VN) Wn) VQ) VK) VU) We) Wf) WL) Ws) VO) WA) WO) Wy) Wc) VY) VZ) Wg
end Go.Sy
