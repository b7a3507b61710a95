/- How the laws' argument types open. Made by program. -/
import Derived.Test.YtnagfcajnbkdoaaSlk
import Derived.Test.YtnagfcajnbkdoaaFc
namespace Go.Proofs.Ytnagfcajnbkdoaa
open Go.RowKit
set_option linter.unusedVariables false
theorem lawOwn : ownKnob Try.prog.godebug = none := by kernel_rfl
theorem lawLaid : laidOutB Try.prog = true := by kernel_rfl
theorem lawBool : Try.prog.underlying 4 = some .bool := by kernel_rfl
theorem lawInt : Try.prog.underlying tI = some (.int .i64) := by kernel_rfl
theorem op_I : Opens Try.prog Enc.int tI := Opens.int lawInt
theorem op_B : Opens Try.prog Enc.bool 4 := Opens.bool lawBool
theorem op_Is : Opens Try.prog eIs 22 := Opens.sl us_Is (by kernel_rfl) op_I
theorem op_Iss : Opens Try.prog eIss 178 := Opens.sl us_Iss (by kernel_rfl) op_Is
theorem op_lFact : Opens Try.prog eFact 62 := Opens.struct Try.underlying62 (by kernel_rfl) (FO.cons rfl (by kernel_rfl) op_I (FO.one rfl (by kernel_rfl) op_Is))
theorem op_lFacts : Opens Try.prog eFacts 35 := Opens.sl us_lFacts (by kernel_rfl) op_lFact
theorem op_lAtom : Opens Try.prog eAtom 162 := Opens.struct Try.underlying162 (by kernel_rfl) (FO.cons rfl (by kernel_rfl) op_I (FO.one rfl (by kernel_rfl) op_Is))
theorem op_lAtoms : Opens Try.prog eAtoms 23 := Opens.sl us_lAtoms (by kernel_rfl) op_lAtom
theorem op_lAccess : Opens Try.prog eAccess 167 := Opens.struct Try.underlying167 (by kernel_rfl) (FO.cons rfl (by kernel_rfl) op_I (FO.one rfl (by kernel_rfl) op_Is))
theorem op_lAccesss : Opens Try.prog eAccesss 36 := Opens.sl us_lAccesss (by kernel_rfl) op_lAccess
theorem op_lQuery : Opens Try.prog eQuery 25 := Opens.struct Try.underlying25 (by kernel_rfl) (FO.cons rfl (by kernel_rfl) op_Is (FO.one rfl (by kernel_rfl) op_lAtoms))
theorem op_lQuerys : Opens Try.prog eQuerys 94 := Opens.sl us_lQuerys (by kernel_rfl) op_lQuery
theorem op_lBinding : Opens Try.prog eBinding 48 := Opens.struct Try.underlying48 (by kernel_rfl) (FO.cons rfl (by kernel_rfl) op_Is (FO.one rfl (by kernel_rfl) op_Is))
theorem op_lMethod : Opens Try.prog eMethod 139 := Opens.struct Try.underlying139 (by kernel_rfl) (FO.cons rfl (by kernel_rfl) op_I (FO.cons rfl (by kernel_rfl) op_Is (FO.cons rfl (by kernel_rfl) op_I (FO.cons rfl (by kernel_rfl) op_I (FO.one rfl (by kernel_rfl) op_I)))))
theorem op_lMethods : Opens Try.prog eMethods 78 := Opens.sl us_lMethods (by kernel_rfl) op_lMethod
theorem op_lRule : Opens Try.prog eRule 130 := Opens.struct Try.underlying130 (by kernel_rfl) (FO.cons rfl (by kernel_rfl) op_I (FO.cons rfl (by kernel_rfl) op_I (FO.one rfl (by kernel_rfl) op_Is)))
theorem op_lRules : Opens Try.prog eRules 60 := Opens.sl us_lRules (by kernel_rfl) op_lRule
theorem op_lGuarded : Opens Try.prog eGuarded 102 := Opens.struct Try.underlying102 (by kernel_rfl) (FO.cons rfl (by kernel_rfl) op_lQuery (FO.one rfl (by kernel_rfl) op_lAtoms))
theorem op_lReached : Opens Try.prog eReached 38 := Opens.struct Try.underlying38 (by kernel_rfl) (FO.cons rfl (by kernel_rfl) op_lFacts (FO.cons rfl (by kernel_rfl) op_Is (FO.cons rfl (by kernel_rfl) op_lAccesss (FO.one rfl (by kernel_rfl) op_I))))
end Go.Proofs.Ytnagfcajnbkdoaa
