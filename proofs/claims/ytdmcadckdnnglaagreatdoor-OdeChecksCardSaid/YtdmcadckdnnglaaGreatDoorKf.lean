/- The closed facts of the row. The closed facts of the row, joined.
-/
import Derived.Test.YtdmcadckdnnglaaGreatDoorRows
import Derived.JoinedOf
import Derived.KernelRfl
set_option linter.unusedVariables false
set_option linter.unusedSimpArgs false
namespace Go.Sy
open Go Go.Proofs Go.Proofs.Tryz
open YtdmcadckdnnglaaGreatDoor
theorem andT {a b : Bool} (ha : a = true) (hb : b = true) : (a && b) = true := by rw [ha, hb]; rfl
theorem kf1 : (fun (P : Program) (f : FuncId) (fn : Func) (s : ChangeSpec) (c : OpenClaim) => (c.wf (OpenSpec.ofChange s) : Bool)) prog 3 f3 ((OpenSpec.ofChange Rows.odeChecksSpec).bare) (Rows.odeChecksRow) = true := by kernel_rfl
theorem kf2 : (fun (P : Program) (f : FuncId) (fn : Func) (s : ChangeSpec) (c : OpenClaim) => (laidOutB P : Bool)) prog 3 f3 ((OpenSpec.ofChange Rows.odeChecksSpec).bare) (Rows.odeChecksRow) = true := by kernel_rfl
theorem kf3 : (fun (P : Program) (f : FuncId) (fn : Func) (s : ChangeSpec) (c : OpenClaim) => (mapsRowed P : Bool)) prog 3 f3 ((OpenSpec.ofChange Rows.odeChecksSpec).bare) (Rows.odeChecksRow) = true := by kernel_rfl
theorem kf4 : (fun (P : Program) (f : FuncId) (fn : Func) (s : ChangeSpec) (c : OpenClaim) => (fn.params.all (P.readableRec ·) : Bool)) prog 3 f3 ((OpenSpec.ofChange Rows.odeChecksSpec).bare) (Rows.odeChecksRow) = true := by kernel_rfl
theorem kf5 : (fun (P : Program) (f : FuncId) (fn : Func) (s : ChangeSpec) (c : OpenClaim) => (namedTie P c.named s.vars : Bool)) prog 3 f3 ((OpenSpec.ofChange Rows.odeChecksSpec).bare) (Rows.odeChecksRow) = true := by kernel_rfl
theorem kf6 : (fun (P : Program) (f : FuncId) (fn : Func) (s : ChangeSpec) (c : OpenClaim) => ((c.stops == []) : Bool)) prog 3 f3 ((OpenSpec.ofChange Rows.odeChecksSpec).bare) (Rows.odeChecksRow) = true := by kernel_rfl
theorem kf7 : (fun (P : Program) (f : FuncId) (fn : Func) (s : ChangeSpec) (c : OpenClaim) => ((P.stops == []) : Bool)) prog 3 f3 ((OpenSpec.ofChange Rows.odeChecksSpec).bare) (Rows.odeChecksRow) = true := by kernel_rfl
theorem kf8 : (fun (P : Program) (f : FuncId) (fn : Func) (s : ChangeSpec) (c : OpenClaim) => ((c.knobs == []) : Bool)) prog 3 f3 ((OpenSpec.ofChange Rows.odeChecksSpec).bare) (Rows.odeChecksRow) = true := by kernel_rfl
theorem kf9 : (fun (P : Program) (f : FuncId) (fn : Func) (s : ChangeSpec) (c : OpenClaim) => ((P.stopKnobs == []) : Bool)) prog 3 f3 ((OpenSpec.ofChange Rows.odeChecksSpec).bare) (Rows.odeChecksRow) = true := by kernel_rfl
theorem kf10 : (fun (P : Program) (f : FuncId) (fn : Func) (s : ChangeSpec) (c : OpenClaim) => ((c.inPlace == P.inPlace f) : Bool)) prog 3 f3 ((OpenSpec.ofChange Rows.odeChecksSpec).bare) (Rows.odeChecksRow) = true := by kernel_rfl
theorem kf11 : (fun (P : Program) (f : FuncId) (fn : Func) (s : ChangeSpec) (c : OpenClaim) => ((c.unfollowed == P.unfollowed f) : Bool)) prog 3 f3 ((OpenSpec.ofChange Rows.odeChecksSpec).bare) (Rows.odeChecksRow) = true := by kernel_rfl
theorem kf12 : (fun (P : Program) (f : FuncId) (fn : Func) (s : ChangeSpec) (c : OpenClaim) => ((c.recurses == P.recurses f) : Bool)) prog 3 f3 ((OpenSpec.ofChange Rows.odeChecksSpec).bare) (Rows.odeChecksRow) = true := by kernel_rfl
theorem kf13 : (fun (P : Program) (f : FuncId) (fn : Func) (s : ChangeSpec) (c : OpenClaim) => ((c.named == P.varsNamed f) : Bool)) prog 3 f3 ((OpenSpec.ofChange Rows.odeChecksSpec).bare) (Rows.odeChecksRow) = true := by kernel_rfl
theorem kf14 : (fun (P : Program) (f : FuncId) (fn : Func) (s : ChangeSpec) (c : OpenClaim) => ((c.maps == (fn.params.toList ++ s.plain.varTypes P).any (P.mapsRec ·)) : Bool)) prog 3 f3 ((OpenSpec.ofChange Rows.odeChecksSpec).bare) (Rows.odeChecksRow) = true := by kernel_rfl
theorem kf15 : (fun (P : Program) (f : FuncId) (fn : Func) (s : ChangeSpec) (c : OpenClaim) => ((c.ifaces == (fn.params.toList ++ s.plain.varTypes P).any (P.ifacesRec ·)) : Bool)) prog 3 f3 ((OpenSpec.ofChange Rows.odeChecksSpec).bare) (Rows.odeChecksRow) = true := by kernel_rfl
theorem kf16 : (fun (P : Program) (f : FuncId) (fn : Func) (s : ChangeSpec) (c : OpenClaim) => ((c.mapsOut == P.mapsAmong fn.resultTypes.toList) : Bool)) prog 3 f3 ((OpenSpec.ofChange Rows.odeChecksSpec).bare) (Rows.odeChecksRow) = true := by kernel_rfl
theorem kf17 : (fun (P : Program) (f : FuncId) (fn : Func) (s : ChangeSpec) (c : OpenClaim) => ((c.loops == (fn.params.toList ++ s.plain.varTypes P).any (P.loopsFrom ·)) : Bool)) prog 3 f3 ((OpenSpec.ofChange Rows.odeChecksSpec).bare) (Rows.odeChecksRow) = true := by kernel_rfl
theorem kf18 : (fun (P : Program) (f : FuncId) (fn : Func) (s : ChangeSpec) (c : OpenClaim) => ((c.wideKeys == (fn.params.toList ++ s.plain.varTypes P ++ fn.resultTypes.toList).any (P.wideKeysFrom ·)) : Bool)) prog 3 f3 ((OpenSpec.ofChange Rows.odeChecksSpec).bare) (Rows.odeChecksRow) = true := by kernel_rfl
theorem kf19 : (fun (P : Program) (f : FuncId) (fn : Func) (s : ChangeSpec) (c : OpenClaim) => (s.vars.all (P.varReadable ·) : Bool)) prog 3 f3 ((OpenSpec.ofChange Rows.odeChecksSpec).bare) (Rows.odeChecksRow) = true := by kernel_rfl
theorem kf20 : (fun (P : Program) (f : FuncId) (fn : Func) (s : ChangeSpec) (c : OpenClaim) => (fn.resultTypes.all (fun t => P.readableRec t && decide (t < P.types.size)) : Bool)) prog 3 f3 ((OpenSpec.ofChange Rows.odeChecksSpec).bare) (Rows.odeChecksRow) = true := by kernel_rfl
theorem kf21 : (fun (P : Program) (f : FuncId) (fn : Func) (s : ChangeSpec) (c : OpenClaim) => ((c.ifacesOut == fn.resultTypes.toList.any (P.ifacesRec ·)) : Bool)) prog 3 f3 ((OpenSpec.ofChange Rows.odeChecksSpec).bare) (Rows.odeChecksRow) = true := by kernel_rfl
theorem kf22 : (fun (P : Program) (f : FuncId) (fn : Func) (s : ChangeSpec) (c : OpenClaim) => ((c.loopsOut == fn.resultTypes.toList.any (P.loopsFrom ·)) : Bool)) prog 3 f3 ((OpenSpec.ofChange Rows.odeChecksSpec).bare) (Rows.odeChecksRow) = true := by kernel_rfl
theorem kf23 : (fun (P : Program) (f : FuncId) (fn : Func) (s : ChangeSpec) (c : OpenClaim) => ((c.plainKeys == P.plainKeys) : Bool)) prog 3 f3 ((OpenSpec.ofChange Rows.odeChecksSpec).bare) (Rows.odeChecksRow) = true := by kernel_rfl
theorem kf24 : (fun (P : Program) (f : FuncId) (fn : Func) (s : ChangeSpec) (c : OpenClaim) => (c.shortTexts.isNone : Bool)) prog 3 f3 ((OpenSpec.ofChange Rows.odeChecksSpec).bare) (Rows.odeChecksRow) = true := by kernel_rfl
theorem kf25 : (fun (P : Program) (f : FuncId) (fn : Func) (s : ChangeSpec) (c : OpenClaim) => (P.stopsHeard : Bool)) prog 3 f3 ((OpenSpec.ofChange Rows.odeChecksSpec).bare) (Rows.odeChecksRow) = true := by kernel_rfl
theorem kf26 : (fun (P : Program) (f : FuncId) (fn : Func) (s : ChangeSpec) (c : OpenClaim) => (P.mayEnter : Bool)) prog 3 f3 ((OpenSpec.ofChange Rows.odeChecksSpec).bare) (Rows.odeChecksRow) = true := by kernel_rfl
theorem kf27 : (fun (P : Program) (f : FuncId) (fn : Func) (s : ChangeSpec) (c : OpenClaim) => ((c.lifted == P.liftsFinal) : Bool)) prog 3 f3 ((OpenSpec.ofChange Rows.odeChecksSpec).bare) (Rows.odeChecksRow) = true := by kernel_rfl
theorem kf28 : (fun (P : Program) (f : FuncId) (fn : Func) (s : ChangeSpec) (c : OpenClaim) => ((P.make == some c.make) : Bool)) prog 3 f3 ((OpenSpec.ofChange Rows.odeChecksSpec).bare) (Rows.odeChecksRow) = true := by kernel_rfl
theorem kf29 : (fun (P : Program) (f : FuncId) (fn : Func) (s : ChangeSpec) (c : OpenClaim) => ((c.kinds == (if c.domain.isEmpty then [] else fn.params.toList.map fun t => match P.underlying t with | some (.int k) => some k | _ => none)) : Bool)) prog 3 f3 ((OpenSpec.ofChange Rows.odeChecksSpec).bare) (Rows.odeChecksRow) = true := by kernel_rfl
theorem kf30 : (fun (P : Program) (f : FuncId) (fn : Func) (s : ChangeSpec) (c : OpenClaim) => ((c.pinned == c.pinnedBy) : Bool)) prog 3 f3 ((OpenSpec.ofChange Rows.odeChecksSpec).bare) (Rows.odeChecksRow) = true := by kernel_rfl
theorem kf31 : (fun (P : Program) (f : FuncId) (fn : Func) (s : ChangeSpec) (c : OpenClaim) => ((c.veiled == (fn.params.toList ++ s.plain.varTypes P ++ fn.resultTypes.toList).any (P.veiledRec ·)) : Bool)) prog 3 f3 ((OpenSpec.ofChange Rows.odeChecksSpec).bare) (Rows.odeChecksRow) = true := by kernel_rfl
theorem kf32 : (fun (P : Program) (f : FuncId) (fn : Func) (s : ChangeSpec) (c : OpenClaim) => (c.veiledFits P fn.params.toList (fn.params.toList ++ s.plain.varTypes P ++ fn.resultTypes.toList) : Bool)) prog 3 f3 ((OpenSpec.ofChange Rows.odeChecksSpec).bare) (Rows.odeChecksRow) = true := by kernel_rfl
end Go.Sy
namespace Go.Sy
open Go Go.Proofs Go.Proofs.Tryz
open YtdmcadckdnnglaaGreatDoor
set_option maxRecDepth 100000
theorem kf : joinedFacts prog 3 f3 ((OpenSpec.ofChange Rows.odeChecksSpec).bare) (Rows.odeChecksRow) = true := by
  unfold joinedFacts
  exact andT (andT (andT (andT (andT (andT (andT (andT (andT (andT (andT (andT (andT (andT (andT (andT (andT (andT (andT (andT (andT (andT (andT (andT (andT (andT (andT (andT (andT (andT (andT kf1 kf2) kf3) kf4) kf5) kf6) kf7) kf8) kf9) kf10) kf11) kf12) kf13) kf14) kf15) kf16) kf17) kf18) kf19) kf20) kf21) kf22) kf23) kf24) kf25) kf26) kf27) kf28) kf29) kf30) kf31) kf32
end Go.Sy
