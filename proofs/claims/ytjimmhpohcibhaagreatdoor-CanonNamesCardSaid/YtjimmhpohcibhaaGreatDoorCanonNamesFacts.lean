/- THE ROW'S CLOSED FACTS OF THE LAW 'CanonNames', ONE BY ONE. No condition. -/
import Derived.Test.YtjimmhpohcibhaaGreatDoorCards
import Derived.Test.YtjimmhpohcibhaaGreatDoorTie
import Derived.JoinedCond
import Derived.KernelRfl
namespace Go.Proofs.YtjimmhpohcibhaaGreatDoor.canonNames
open Go
set_option linter.unusedVariables false
def c0 (P : Program) (f : FuncId) (fn : Func) (s : ChangeSpec) (c : OpenClaim) : Bool := c.wf (OpenSpec.ofChange s)
def c1 (P : Program) (f : FuncId) (fn : Func) (s : ChangeSpec) (c : OpenClaim) : Bool := laidOutB P
def c2 (P : Program) (f : FuncId) (fn : Func) (s : ChangeSpec) (c : OpenClaim) : Bool := mapsRowed P
def c3 (P : Program) (f : FuncId) (fn : Func) (s : ChangeSpec) (c : OpenClaim) : Bool := fn.params.all (P.readableRec ·)
def c4 (P : Program) (f : FuncId) (fn : Func) (s : ChangeSpec) (c : OpenClaim) : Bool := namedTie P c.named s.vars
def c5 (P : Program) (f : FuncId) (fn : Func) (s : ChangeSpec) (c : OpenClaim) : Bool := (c.stops == [])
def c6 (P : Program) (f : FuncId) (fn : Func) (s : ChangeSpec) (c : OpenClaim) : Bool := (P.stops == [])
def c7 (P : Program) (f : FuncId) (fn : Func) (s : ChangeSpec) (c : OpenClaim) : Bool := (c.knobs == [])
def c8 (P : Program) (f : FuncId) (fn : Func) (s : ChangeSpec) (c : OpenClaim) : Bool := (P.stopKnobs == [])
def c9 (P : Program) (f : FuncId) (fn : Func) (s : ChangeSpec) (c : OpenClaim) : Bool := (c.inPlace == P.inPlace f)
def c10 (P : Program) (f : FuncId) (fn : Func) (s : ChangeSpec) (c : OpenClaim) : Bool := (c.unfollowed == P.unfollowed f)
def c11 (P : Program) (f : FuncId) (fn : Func) (s : ChangeSpec) (c : OpenClaim) : Bool := (c.recurses == P.recurses f)
def c12 (P : Program) (f : FuncId) (fn : Func) (s : ChangeSpec) (c : OpenClaim) : Bool := (c.named == P.varsNamed f)
def c13 (P : Program) (f : FuncId) (fn : Func) (s : ChangeSpec) (c : OpenClaim) : Bool := (c.maps == (fn.params.toList ++ s.plain.varTypes P).any (P.mapsRec ·))
def c14 (P : Program) (f : FuncId) (fn : Func) (s : ChangeSpec) (c : OpenClaim) : Bool := (c.ifaces == (fn.params.toList ++ s.plain.varTypes P).any (P.ifacesRec ·))
def c15 (P : Program) (f : FuncId) (fn : Func) (s : ChangeSpec) (c : OpenClaim) : Bool := (c.mapsOut == P.mapsAmong fn.resultTypes.toList)
def c16 (P : Program) (f : FuncId) (fn : Func) (s : ChangeSpec) (c : OpenClaim) : Bool := (c.loops == (fn.params.toList ++ s.plain.varTypes P).any (P.loopsFrom ·))
def c17 (P : Program) (f : FuncId) (fn : Func) (s : ChangeSpec) (c : OpenClaim) : Bool := (c.wideKeys == (fn.params.toList ++ s.plain.varTypes P ++ fn.resultTypes.toList).any (P.wideKeysFrom ·))
def c18 (P : Program) (f : FuncId) (fn : Func) (s : ChangeSpec) (c : OpenClaim) : Bool := s.vars.all (P.varReadable ·)
def c19 (P : Program) (f : FuncId) (fn : Func) (s : ChangeSpec) (c : OpenClaim) : Bool := fn.resultTypes.all (fun t => P.readableRec t && decide (t < P.types.size))
def c20 (P : Program) (f : FuncId) (fn : Func) (s : ChangeSpec) (c : OpenClaim) : Bool := (c.ifacesOut == fn.resultTypes.toList.any (P.ifacesRec ·))
def c21 (P : Program) (f : FuncId) (fn : Func) (s : ChangeSpec) (c : OpenClaim) : Bool := (c.loopsOut == fn.resultTypes.toList.any (P.loopsFrom ·))
def c22 (P : Program) (f : FuncId) (fn : Func) (s : ChangeSpec) (c : OpenClaim) : Bool := (c.plainKeys == P.plainKeys)
def c23 (P : Program) (f : FuncId) (fn : Func) (s : ChangeSpec) (c : OpenClaim) : Bool := c.shortTexts.isNone
def c24 (P : Program) (f : FuncId) (fn : Func) (s : ChangeSpec) (c : OpenClaim) : Bool := P.stopsHeard
def c25 (P : Program) (f : FuncId) (fn : Func) (s : ChangeSpec) (c : OpenClaim) : Bool := P.mayEnter
def c26 (P : Program) (f : FuncId) (fn : Func) (s : ChangeSpec) (c : OpenClaim) : Bool := (c.lifted == P.liftsFinal)
def c27 (P : Program) (f : FuncId) (fn : Func) (s : ChangeSpec) (c : OpenClaim) : Bool := (P.make == some c.make)
def c28 (P : Program) (f : FuncId) (fn : Func) (s : ChangeSpec) (c : OpenClaim) : Bool := (c.kinds == (if c.domain.isEmpty then [] else fn.params.toList.map fun t => match P.underlying t with | some (.int k) => some k | _ => none))
def c29 (P : Program) (f : FuncId) (fn : Func) (s : ChangeSpec) (c : OpenClaim) : Bool := (c.pinned == c.pinnedBy)
def c30 (P : Program) (f : FuncId) (fn : Func) (s : ChangeSpec) (c : OpenClaim) : Bool := (c.veiled == (fn.params.toList ++ s.plain.varTypes P ++ fn.resultTypes.toList).any (P.veiledRec ·))
def c31 (P : Program) (f : FuncId) (fn : Func) (s : ChangeSpec) (c : OpenClaim) : Bool := c.veiledFits P fn.params.toList (fn.params.toList ++ s.plain.varTypes P ++ fn.resultTypes.toList)
theorem k0 : c0 Tryz.prog 7 Tryz.f7 (OpenSpec.ofChange Rows.canonNamesSpec).bare Rows.canonNamesRow = true := by kernel_rfl
theorem k1 : c1 Tryz.prog 7 Tryz.f7 (OpenSpec.ofChange Rows.canonNamesSpec).bare Rows.canonNamesRow = true := by kernel_rfl
theorem k2 : c2 Tryz.prog 7 Tryz.f7 (OpenSpec.ofChange Rows.canonNamesSpec).bare Rows.canonNamesRow = true := by kernel_rfl
theorem k3 : c3 Tryz.prog 7 Tryz.f7 (OpenSpec.ofChange Rows.canonNamesSpec).bare Rows.canonNamesRow = true := by kernel_rfl
theorem k4 : c4 Tryz.prog 7 Tryz.f7 (OpenSpec.ofChange Rows.canonNamesSpec).bare Rows.canonNamesRow = true := by kernel_rfl
theorem k5 : c5 Tryz.prog 7 Tryz.f7 (OpenSpec.ofChange Rows.canonNamesSpec).bare Rows.canonNamesRow = true := by kernel_rfl
theorem k6 : c6 Tryz.prog 7 Tryz.f7 (OpenSpec.ofChange Rows.canonNamesSpec).bare Rows.canonNamesRow = true := by kernel_rfl
theorem k7 : c7 Tryz.prog 7 Tryz.f7 (OpenSpec.ofChange Rows.canonNamesSpec).bare Rows.canonNamesRow = true := by kernel_rfl
theorem k8 : c8 Tryz.prog 7 Tryz.f7 (OpenSpec.ofChange Rows.canonNamesSpec).bare Rows.canonNamesRow = true := by kernel_rfl
theorem k9 : c9 Tryz.prog 7 Tryz.f7 (OpenSpec.ofChange Rows.canonNamesSpec).bare Rows.canonNamesRow = true := by kernel_rfl
theorem k10 : c10 Tryz.prog 7 Tryz.f7 (OpenSpec.ofChange Rows.canonNamesSpec).bare Rows.canonNamesRow = true := by kernel_rfl
theorem k11 : c11 Tryz.prog 7 Tryz.f7 (OpenSpec.ofChange Rows.canonNamesSpec).bare Rows.canonNamesRow = true := by kernel_rfl
theorem k12 : c12 Tryz.prog 7 Tryz.f7 (OpenSpec.ofChange Rows.canonNamesSpec).bare Rows.canonNamesRow = true := by kernel_rfl
theorem k13 : c13 Tryz.prog 7 Tryz.f7 (OpenSpec.ofChange Rows.canonNamesSpec).bare Rows.canonNamesRow = true := by kernel_rfl
theorem k14 : c14 Tryz.prog 7 Tryz.f7 (OpenSpec.ofChange Rows.canonNamesSpec).bare Rows.canonNamesRow = true := by kernel_rfl
theorem k15 : c15 Tryz.prog 7 Tryz.f7 (OpenSpec.ofChange Rows.canonNamesSpec).bare Rows.canonNamesRow = true := by kernel_rfl
theorem k16 : c16 Tryz.prog 7 Tryz.f7 (OpenSpec.ofChange Rows.canonNamesSpec).bare Rows.canonNamesRow = true := by kernel_rfl
theorem k17 : c17 Tryz.prog 7 Tryz.f7 (OpenSpec.ofChange Rows.canonNamesSpec).bare Rows.canonNamesRow = true := by kernel_rfl
theorem k18 : c18 Tryz.prog 7 Tryz.f7 (OpenSpec.ofChange Rows.canonNamesSpec).bare Rows.canonNamesRow = true := by kernel_rfl
theorem k19 : c19 Tryz.prog 7 Tryz.f7 (OpenSpec.ofChange Rows.canonNamesSpec).bare Rows.canonNamesRow = true := by kernel_rfl
theorem k20 : c20 Tryz.prog 7 Tryz.f7 (OpenSpec.ofChange Rows.canonNamesSpec).bare Rows.canonNamesRow = true := by kernel_rfl
theorem k21 : c21 Tryz.prog 7 Tryz.f7 (OpenSpec.ofChange Rows.canonNamesSpec).bare Rows.canonNamesRow = true := by kernel_rfl
theorem k22 : c22 Tryz.prog 7 Tryz.f7 (OpenSpec.ofChange Rows.canonNamesSpec).bare Rows.canonNamesRow = true := by kernel_rfl
theorem k23 : c23 Tryz.prog 7 Tryz.f7 (OpenSpec.ofChange Rows.canonNamesSpec).bare Rows.canonNamesRow = true := by kernel_rfl
theorem k24 : c24 Tryz.prog 7 Tryz.f7 (OpenSpec.ofChange Rows.canonNamesSpec).bare Rows.canonNamesRow = true := by kernel_rfl
theorem k25 : c25 Tryz.prog 7 Tryz.f7 (OpenSpec.ofChange Rows.canonNamesSpec).bare Rows.canonNamesRow = true := by kernel_rfl
theorem k26 : c26 Tryz.prog 7 Tryz.f7 (OpenSpec.ofChange Rows.canonNamesSpec).bare Rows.canonNamesRow = true := by kernel_rfl
theorem k27 : c27 Tryz.prog 7 Tryz.f7 (OpenSpec.ofChange Rows.canonNamesSpec).bare Rows.canonNamesRow = true := by kernel_rfl
theorem k28 : c28 Tryz.prog 7 Tryz.f7 (OpenSpec.ofChange Rows.canonNamesSpec).bare Rows.canonNamesRow = true := by kernel_rfl
theorem k29 : c29 Tryz.prog 7 Tryz.f7 (OpenSpec.ofChange Rows.canonNamesSpec).bare Rows.canonNamesRow = true := by kernel_rfl
theorem k30 : c30 Tryz.prog 7 Tryz.f7 (OpenSpec.ofChange Rows.canonNamesSpec).bare Rows.canonNamesRow = true := by kernel_rfl
theorem k31 : c31 Tryz.prog 7 Tryz.f7 (OpenSpec.ofChange Rows.canonNamesSpec).bare Rows.canonNamesRow = true := by kernel_rfl
theorem split (P : Program) (f : FuncId) (fn : Func) (s : ChangeSpec) (c : OpenClaim) : joinedFacts P f fn s c = (c0 P f fn s c && c1 P f fn s c && c2 P f fn s c && c3 P f fn s c && c4 P f fn s c && c5 P f fn s c && c6 P f fn s c && c7 P f fn s c && c8 P f fn s c && c9 P f fn s c && c10 P f fn s c && c11 P f fn s c && c12 P f fn s c && c13 P f fn s c && c14 P f fn s c && c15 P f fn s c && c16 P f fn s c && c17 P f fn s c && c18 P f fn s c && c19 P f fn s c && c20 P f fn s c && c21 P f fn s c && c22 P f fn s c && c23 P f fn s c && c24 P f fn s c && c25 P f fn s c && c26 P f fn s c && c27 P f fn s c && c28 P f fn s c && c29 P f fn s c && c30 P f fn s c && c31 P f fn s c) := rfl
theorem prog_eq : Tryz.pinned.checked.prog = Tryz.prog := by kernel_rfl
theorem closed : joinedFacts Tryz.pinned.checked.prog 7 Tryz.f7 (OpenSpec.ofChange Rows.canonNamesSpec).bare Rows.canonNamesRow = true := by
  rw [prog_eq, split, k0, k1, k2, k3, k4, k5, k6, k7, k8, k9, k10, k11, k12, k13, k14, k15, k16, k17, k18, k19, k20, k21, k22, k23, k24, k25, k26, k27, k28, k29, k30, k31]
  rfl
theorem named : Tryz.prog.funcNamed "berthmaster/berthmasterlaw13.CanonNames" = some 7 := by kernel_rfl
theorem named' : Tryz.pinned.checked.prog.funcNamed Rows.canonNamesRow.func = some 7 := by rw [prog_eq]; exact named
theorem instance' : decide (Tryz.f7.isInstance Tryz.prog Rows.canonNamesRow.origin Rows.canonNamesRow.targs) = true := by kernel_rfl
theorem inst' : Tryz.f7.isInstance Tryz.pinned.checked.prog Rows.canonNamesRow.origin Rows.canonNamesRow.targs := by rw [prog_eq]; exact of_decide_eq_true instance'
theorem looked : true = Tryz.pinned.checked.prog.looks [] := by kernel_rfl
end Go.Proofs.YtjimmhpohcibhaaGreatDoor.canonNames
