/- How the laws' argument types open. Made by program. -/
import Derived.Test.YtffmilciidedjaaSlk
import Derived.Test.YtffmilciidedjaaFc
namespace Go.Proofs.Ytffmilciidedjaa
open Go.RowKit
set_option linter.unusedVariables false
theorem lawOwn : ownKnob Try.prog.godebug = none := by kernel_rfl
theorem lawLaid : laidOutB Try.prog = true := by kernel_rfl
theorem lawBool : Try.prog.underlying 4 = some .bool := by kernel_rfl
theorem lawInt : Try.prog.underlying tI = some (.int .i64) := by kernel_rfl
theorem op_I : Opens Try.prog Enc.int tI := Opens.int lawInt
theorem op_B : Opens Try.prog Enc.bool 4 := Opens.bool lawBool
theorem op_Is : Opens Try.prog eIs 22 := Opens.sl us_Is (by kernel_rfl) op_I
theorem op_lFact : Opens Try.prog eFact 56 := Opens.struct Try.underlying56 (by kernel_rfl) (FO.cons rfl (by kernel_rfl) op_I (FO.one rfl (by kernel_rfl) op_Is))
theorem op_lAtom : Opens Try.prog eAtom 126 := Opens.struct Try.underlying126 (by kernel_rfl) (FO.cons rfl (by kernel_rfl) op_I (FO.one rfl (by kernel_rfl) op_Is))
theorem op_lAtoms : Opens Try.prog eAtoms 67 := Opens.sl us_lAtoms (by kernel_rfl) op_lAtom
theorem op_lAccess : Opens Try.prog eAccess 98 := Opens.struct Try.underlying98 (by kernel_rfl) (FO.cons rfl (by kernel_rfl) op_I (FO.one rfl (by kernel_rfl) op_Is))
theorem op_lAccesss : Opens Try.prog eAccesss 44 := Opens.sl us_lAccesss (by kernel_rfl) op_lAccess
theorem op_lQuery : Opens Try.prog eQuery 69 := Opens.struct Try.underlying69 (by kernel_rfl) (FO.cons rfl (by kernel_rfl) op_Is (FO.one rfl (by kernel_rfl) op_lAtoms))
theorem op_lBinding : Opens Try.prog eBinding 80 := Opens.struct Try.underlying80 (by kernel_rfl) (FO.cons rfl (by kernel_rfl) op_Is (FO.one rfl (by kernel_rfl) op_Is))
theorem op_lMethod : Opens Try.prog eMethod 95 := Opens.struct Try.underlying95 (by kernel_rfl) (FO.cons rfl (by kernel_rfl) op_I (FO.cons rfl (by kernel_rfl) op_Is (FO.cons rfl (by kernel_rfl) op_I (FO.cons rfl (by kernel_rfl) op_I (FO.one rfl (by kernel_rfl) op_I)))))
theorem op_lMethods : Opens Try.prog eMethods 43 := Opens.sl us_lMethods (by kernel_rfl) op_lMethod
theorem op_lRule : Opens Try.prog eRule 24 := Opens.struct Try.underlying24 (by kernel_rfl) (FO.cons rfl (by kernel_rfl) op_I (FO.cons rfl (by kernel_rfl) op_I (FO.one rfl (by kernel_rfl) op_Is)))
theorem op_lRules : Opens Try.prog eRules 33 := Opens.sl us_lRules (by kernel_rfl) op_lRule
end Go.Proofs.Ytffmilciidedjaa
