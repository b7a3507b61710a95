/- The facts on this translation's types, by name, and the encodings of the program's structs. Made by program. -/
import Derived.Test.YtnagfcajnbkdoaaRows
import Derived.Test.YtnagfcajnbkdoaaSlf
import Derived.KernelRfl
namespace Go.Proofs.Ytnagfcajnbkdoaa
open Go.RowKit
set_option linter.unusedVariables false
theorem mixed : Try.prog.follows .mixedOrders = true := by kernel_rfl
abbrev tI : TypeId := 3
abbrev tFact : TypeId := 69
abbrev tAtom : TypeId := 112
abbrev tAccess : TypeId := 147
abbrev tStep : TypeId := 0
abbrev tQuery : TypeId := 29
abbrev tBinding : TypeId := 54
abbrev tMethod : TypeId := 142
abbrev tRule : TypeId := 134
abbrev tGuarded : TypeId := 106
abbrev tLine : TypeId := 0
abbrev tProof : TypeId := 0
abbrev tReached : TypeId := 44
abbrev tRun : TypeId := 0
abbrev tCertificate : TypeId := 0
abbrev tway : TypeId := 181
abbrev tIs : TypeId := 22
theorem ty_I : TyOk Try.prog tI false 1 [.int .i64 0] 8 := TyOk.mk' (z := .int .i64 0) (by kernel_rfl) (by kernel_rfl) rfl rfl
theorem ty_B : TyOk Try.prog 4 false 1 [.bool false] 1 := TyOk.mk' (z := .bool false) (by kernel_rfl) (by kernel_rfl) rfl rfl
theorem ty_S : TyOk Try.prog 9 false 1 [.string ByteArray.empty] 16 := TyOk.mk' (z := .string ByteArray.empty) (by kernel_rfl) (by kernel_rfl) rfl rfl
theorem ty_Fact : TyOk Try.prog tFact true 2 [.int .i64 0, .slice none 0 0] 32 := TyOk.mk' (z := .agg #[.int .i64 0, .slice none 0 0]) (by kernel_rfl) (by kernel_rfl) rfl rfl
theorem fo_Fact_0 : fOff Try.prog tFact 0 = some (0, tI) := by kernel_rfl
theorem fo_Fact_1 : fOff Try.prog tFact 1 = some (1, 22) := by kernel_rfl
theorem ty_lFact : TyOk Try.prog 62 true 2 [.int .i64 0, .slice none 0 0] 32 := TyOk.mk' (z := .agg #[.int .i64 0, .slice none 0 0]) (by kernel_rfl) (by kernel_rfl) rfl rfl
theorem fo_lFact_0 : fOff Try.prog 62 0 = some (0, tI) := by kernel_rfl
theorem fo_lFact_1 : fOff Try.prog 62 1 = some (1, 22) := by kernel_rfl
theorem ty_Atom : TyOk Try.prog tAtom true 2 [.int .i64 0, .slice none 0 0] 32 := TyOk.mk' (z := .agg #[.int .i64 0, .slice none 0 0]) (by kernel_rfl) (by kernel_rfl) rfl rfl
theorem fo_Atom_0 : fOff Try.prog tAtom 0 = some (0, tI) := by kernel_rfl
theorem fo_Atom_1 : fOff Try.prog tAtom 1 = some (1, 22) := by kernel_rfl
theorem ty_lAtom : TyOk Try.prog 162 true 2 [.int .i64 0, .slice none 0 0] 32 := TyOk.mk' (z := .agg #[.int .i64 0, .slice none 0 0]) (by kernel_rfl) (by kernel_rfl) rfl rfl
theorem fo_lAtom_0 : fOff Try.prog 162 0 = some (0, tI) := by kernel_rfl
theorem fo_lAtom_1 : fOff Try.prog 162 1 = some (1, 22) := by kernel_rfl
theorem ty_Access : TyOk Try.prog tAccess true 2 [.int .i64 0, .slice none 0 0] 32 := TyOk.mk' (z := .agg #[.int .i64 0, .slice none 0 0]) (by kernel_rfl) (by kernel_rfl) rfl rfl
theorem fo_Access_0 : fOff Try.prog tAccess 0 = some (0, tI) := by kernel_rfl
theorem fo_Access_1 : fOff Try.prog tAccess 1 = some (1, 22) := by kernel_rfl
theorem ty_lAccess : TyOk Try.prog 167 true 2 [.int .i64 0, .slice none 0 0] 32 := TyOk.mk' (z := .agg #[.int .i64 0, .slice none 0 0]) (by kernel_rfl) (by kernel_rfl) rfl rfl
theorem fo_lAccess_0 : fOff Try.prog 167 0 = some (0, tI) := by kernel_rfl
theorem fo_lAccess_1 : fOff Try.prog 167 1 = some (1, 22) := by kernel_rfl
theorem ty_Query : TyOk Try.prog tQuery true 2 [.slice none 0 0, .slice none 0 0] 48 := TyOk.mk' (z := .agg #[.slice none 0 0, .slice none 0 0]) (by kernel_rfl) (by kernel_rfl) rfl rfl
theorem fo_Query_0 : fOff Try.prog tQuery 0 = some (0, 22) := by kernel_rfl
theorem fo_Query_1 : fOff Try.prog tQuery 1 = some (1, 27) := by kernel_rfl
theorem ty_lQuery : TyOk Try.prog 25 true 2 [.slice none 0 0, .slice none 0 0] 48 := TyOk.mk' (z := .agg #[.slice none 0 0, .slice none 0 0]) (by kernel_rfl) (by kernel_rfl) rfl rfl
theorem fo_lQuery_0 : fOff Try.prog 25 0 = some (0, 22) := by kernel_rfl
theorem fo_lQuery_1 : fOff Try.prog 25 1 = some (1, 23) := by kernel_rfl
theorem ty_Binding : TyOk Try.prog tBinding true 2 [.slice none 0 0, .slice none 0 0] 48 := TyOk.mk' (z := .agg #[.slice none 0 0, .slice none 0 0]) (by kernel_rfl) (by kernel_rfl) rfl rfl
theorem fo_Binding_0 : fOff Try.prog tBinding 0 = some (0, 22) := by kernel_rfl
theorem fo_Binding_1 : fOff Try.prog tBinding 1 = some (1, 22) := by kernel_rfl
theorem ty_lBinding : TyOk Try.prog 48 true 2 [.slice none 0 0, .slice none 0 0] 48 := TyOk.mk' (z := .agg #[.slice none 0 0, .slice none 0 0]) (by kernel_rfl) (by kernel_rfl) rfl rfl
theorem fo_lBinding_0 : fOff Try.prog 48 0 = some (0, 22) := by kernel_rfl
theorem fo_lBinding_1 : fOff Try.prog 48 1 = some (1, 22) := by kernel_rfl
theorem ty_Method : TyOk Try.prog tMethod true 5 [.int .i64 0, .slice none 0 0, .int .i64 0, .int .i64 0, .int .i64 0] 56 := TyOk.mk' (z := .agg #[.int .i64 0, .slice none 0 0, .int .i64 0, .int .i64 0, .int .i64 0]) (by kernel_rfl) (by kernel_rfl) rfl rfl
theorem fo_Method_0 : fOff Try.prog tMethod 0 = some (0, tI) := by kernel_rfl
theorem fo_Method_1 : fOff Try.prog tMethod 1 = some (1, 22) := by kernel_rfl
theorem fo_Method_2 : fOff Try.prog tMethod 2 = some (2, tI) := by kernel_rfl
theorem fo_Method_3 : fOff Try.prog tMethod 3 = some (3, tI) := by kernel_rfl
theorem fo_Method_4 : fOff Try.prog tMethod 4 = some (4, tI) := by kernel_rfl
theorem ty_lMethod : TyOk Try.prog 139 true 5 [.int .i64 0, .slice none 0 0, .int .i64 0, .int .i64 0, .int .i64 0] 56 := TyOk.mk' (z := .agg #[.int .i64 0, .slice none 0 0, .int .i64 0, .int .i64 0, .int .i64 0]) (by kernel_rfl) (by kernel_rfl) rfl rfl
theorem fo_lMethod_0 : fOff Try.prog 139 0 = some (0, tI) := by kernel_rfl
theorem fo_lMethod_1 : fOff Try.prog 139 1 = some (1, 22) := by kernel_rfl
theorem fo_lMethod_2 : fOff Try.prog 139 2 = some (2, tI) := by kernel_rfl
theorem fo_lMethod_3 : fOff Try.prog 139 3 = some (3, tI) := by kernel_rfl
theorem fo_lMethod_4 : fOff Try.prog 139 4 = some (4, tI) := by kernel_rfl
theorem ty_Rule : TyOk Try.prog tRule true 3 [.int .i64 0, .int .i64 0, .slice none 0 0] 40 := TyOk.mk' (z := .agg #[.int .i64 0, .int .i64 0, .slice none 0 0]) (by kernel_rfl) (by kernel_rfl) rfl rfl
theorem fo_Rule_0 : fOff Try.prog tRule 0 = some (0, tI) := by kernel_rfl
theorem fo_Rule_1 : fOff Try.prog tRule 1 = some (1, tI) := by kernel_rfl
theorem fo_Rule_2 : fOff Try.prog tRule 2 = some (2, 22) := by kernel_rfl
theorem ty_lRule : TyOk Try.prog 130 true 3 [.int .i64 0, .int .i64 0, .slice none 0 0] 40 := TyOk.mk' (z := .agg #[.int .i64 0, .int .i64 0, .slice none 0 0]) (by kernel_rfl) (by kernel_rfl) rfl rfl
theorem fo_lRule_0 : fOff Try.prog 130 0 = some (0, tI) := by kernel_rfl
theorem fo_lRule_1 : fOff Try.prog 130 1 = some (1, tI) := by kernel_rfl
theorem fo_lRule_2 : fOff Try.prog 130 2 = some (2, 22) := by kernel_rfl
theorem ty_Guarded : TyOk Try.prog tGuarded true 3 [.slice none 0 0, .slice none 0 0, .slice none 0 0] 72 := TyOk.mk' (z := .agg #[.slice none 0 0, .slice none 0 0, .slice none 0 0]) (by kernel_rfl) (by kernel_rfl) rfl rfl
theorem fo_Guarded_0 : fOff Try.prog tGuarded 0 = some (0, 29) := by kernel_rfl
theorem fo_Guarded_1 : fOff Try.prog tGuarded 1 = some (2, 27) := by kernel_rfl
theorem ty_lGuarded : TyOk Try.prog 102 true 3 [.slice none 0 0, .slice none 0 0, .slice none 0 0] 72 := TyOk.mk' (z := .agg #[.slice none 0 0, .slice none 0 0, .slice none 0 0]) (by kernel_rfl) (by kernel_rfl) rfl rfl
theorem fo_lGuarded_0 : fOff Try.prog 102 0 = some (0, 25) := by kernel_rfl
theorem fo_lGuarded_1 : fOff Try.prog 102 1 = some (2, 23) := by kernel_rfl
theorem ty_Reached : TyOk Try.prog tReached true 4 [.slice none 0 0, .slice none 0 0, .slice none 0 0, .int .i64 0] 80 := TyOk.mk' (z := .agg #[.slice none 0 0, .slice none 0 0, .slice none 0 0, .int .i64 0]) (by kernel_rfl) (by kernel_rfl) rfl rfl
theorem fo_Reached_0 : fOff Try.prog tReached 0 = some (0, 41) := by kernel_rfl
theorem fo_Reached_1 : fOff Try.prog tReached 1 = some (1, 22) := by kernel_rfl
theorem fo_Reached_2 : fOff Try.prog tReached 2 = some (2, 42) := by kernel_rfl
theorem fo_Reached_3 : fOff Try.prog tReached 3 = some (3, tI) := by kernel_rfl
theorem ty_lReached : TyOk Try.prog 38 true 4 [.slice none 0 0, .slice none 0 0, .slice none 0 0, .int .i64 0] 80 := TyOk.mk' (z := .agg #[.slice none 0 0, .slice none 0 0, .slice none 0 0, .int .i64 0]) (by kernel_rfl) (by kernel_rfl) rfl rfl
theorem fo_lReached_0 : fOff Try.prog 38 0 = some (0, 35) := by kernel_rfl
theorem fo_lReached_1 : fOff Try.prog 38 1 = some (1, 22) := by kernel_rfl
theorem fo_lReached_2 : fOff Try.prog 38 2 = some (2, 36) := by kernel_rfl
theorem fo_lReached_3 : fOff Try.prog 38 3 = some (3, tI) := by kernel_rfl
theorem ty_way : TyOk Try.prog tway true 3 [.int .i64 0, .slice none 0 0, .slice none 0 0] 56 := TyOk.mk' (z := .agg #[.int .i64 0, .slice none 0 0, .slice none 0 0]) (by kernel_rfl) (by kernel_rfl) rfl rfl
theorem fo_way_0 : fOff Try.prog tway 0 = some (0, 69) := by kernel_rfl
theorem fo_way_1 : fOff Try.prog tway 1 = some (2, 22) := by kernel_rfl
theorem us_Is : Try.prog.underlying 22 = some (.slice tI) := by kernel_rfl
theorem ty_Is : TyOk Try.prog 22 false 1 [.slice none 0 0] 24 := TyOk.mk' (z := .slice none 0 0) (by kernel_rfl) (by kernel_rfl) rfl rfl
theorem us_Iss : Try.prog.underlying 178 = some (.slice tIs) := by kernel_rfl
theorem ty_Iss : TyOk Try.prog 178 false 1 [.slice none 0 0] 24 := TyOk.mk' (z := .slice none 0 0) (by kernel_rfl) (by kernel_rfl) rfl rfl
theorem us_Facts : Try.prog.underlying 41 = some (.slice tFact) := by kernel_rfl
theorem ty_Facts : TyOk Try.prog 41 false 1 [.slice none 0 0] 24 := TyOk.mk' (z := .slice none 0 0) (by kernel_rfl) (by kernel_rfl) rfl rfl
theorem us_lFacts : Try.prog.underlying 35 = some (.slice 62) := by kernel_rfl
theorem ty_lFacts : TyOk Try.prog 35 false 1 [.slice none 0 0] 24 := TyOk.mk' (z := .slice none 0 0) (by kernel_rfl) (by kernel_rfl) rfl rfl
theorem us_Atoms : Try.prog.underlying 27 = some (.slice tAtom) := by kernel_rfl
theorem ty_Atoms : TyOk Try.prog 27 false 1 [.slice none 0 0] 24 := TyOk.mk' (z := .slice none 0 0) (by kernel_rfl) (by kernel_rfl) rfl rfl
theorem us_lAtoms : Try.prog.underlying 23 = some (.slice 162) := by kernel_rfl
theorem ty_lAtoms : TyOk Try.prog 23 false 1 [.slice none 0 0] 24 := TyOk.mk' (z := .slice none 0 0) (by kernel_rfl) (by kernel_rfl) rfl rfl
theorem us_Accesss : Try.prog.underlying 42 = some (.slice tAccess) := by kernel_rfl
theorem ty_Accesss : TyOk Try.prog 42 false 1 [.slice none 0 0] 24 := TyOk.mk' (z := .slice none 0 0) (by kernel_rfl) (by kernel_rfl) rfl rfl
theorem us_lAccesss : Try.prog.underlying 36 = some (.slice 167) := by kernel_rfl
theorem ty_lAccesss : TyOk Try.prog 36 false 1 [.slice none 0 0] 24 := TyOk.mk' (z := .slice none 0 0) (by kernel_rfl) (by kernel_rfl) rfl rfl
theorem us_Querys : Try.prog.underlying 97 = some (.slice tQuery) := by kernel_rfl
theorem ty_Querys : TyOk Try.prog 97 false 1 [.slice none 0 0] 24 := TyOk.mk' (z := .slice none 0 0) (by kernel_rfl) (by kernel_rfl) rfl rfl
theorem us_lQuerys : Try.prog.underlying 94 = some (.slice 25) := by kernel_rfl
theorem ty_lQuerys : TyOk Try.prog 94 false 1 [.slice none 0 0] 24 := TyOk.mk' (z := .slice none 0 0) (by kernel_rfl) (by kernel_rfl) rfl rfl
theorem us_Methods : Try.prog.underlying 81 = some (.slice tMethod) := by kernel_rfl
theorem ty_Methods : TyOk Try.prog 81 false 1 [.slice none 0 0] 24 := TyOk.mk' (z := .slice none 0 0) (by kernel_rfl) (by kernel_rfl) rfl rfl
theorem us_lMethods : Try.prog.underlying 78 = some (.slice 139) := by kernel_rfl
theorem ty_lMethods : TyOk Try.prog 78 false 1 [.slice none 0 0] 24 := TyOk.mk' (z := .slice none 0 0) (by kernel_rfl) (by kernel_rfl) rfl rfl
theorem us_Rules : Try.prog.underlying 67 = some (.slice tRule) := by kernel_rfl
theorem ty_Rules : TyOk Try.prog 67 false 1 [.slice none 0 0] 24 := TyOk.mk' (z := .slice none 0 0) (by kernel_rfl) (by kernel_rfl) rfl rfl
theorem us_lRules : Try.prog.underlying 60 = some (.slice 130) := by kernel_rfl
theorem ty_lRules : TyOk Try.prog 60 false 1 [.slice none 0 0] 24 := TyOk.mk' (z := .slice none 0 0) (by kernel_rfl) (by kernel_rfl) rfl rfl
theorem us_ways : Try.prog.underlying 182 = some (.slice tway) := by kernel_rfl
theorem ty_ways : TyOk Try.prog 182 false 1 [.slice none 0 0] 24 := TyOk.mk' (z := .slice none 0 0) (by kernel_rfl) (by kernel_rfl) rfl rfl
abbrev eIs : Enc (List Int) := Enc.sl tI Enc.int
abbrev eIss : Enc (List (List Int)) := Enc.sl tIs eIs
abbrev eFact : Enc (Int × List Int) := Enc.pair Enc.int eIs
abbrev eFacts : Enc (List (Int × List Int)) := Enc.sl tFact eFact
abbrev eAtom : Enc (Int × List Int) := Enc.pair Enc.int eIs
abbrev eAtoms : Enc (List (Int × List Int)) := Enc.sl tAtom eAtom
abbrev eAccess : Enc (Int × List Int) := Enc.pair Enc.int eIs
abbrev eAccesss : Enc (List (Int × List Int)) := Enc.sl tAccess eAccess
abbrev eStep : Enc (Int × Int) := Enc.pair Enc.int Enc.int
abbrev eSteps : Enc (List (Int × Int)) := Enc.sl tStep eStep
abbrev eQuery : Enc (List Int × List (Int × List Int)) := Enc.pair eIs eAtoms
abbrev eQuerys : Enc (List (List Int × List (Int × List Int))) := Enc.sl tQuery eQuery
abbrev eBinding : Enc (List Int × List Int) := Enc.pair eIs eIs
abbrev eBindings : Enc (List (List Int × List Int)) := Enc.sl tBinding eBinding
abbrev eMethod : Enc (Int × List Int × Int × Int × Int) := Enc.pair Enc.int (Enc.pair eIs (Enc.pair Enc.int (Enc.pair Enc.int Enc.int)))
abbrev eMethods : Enc (List (Int × List Int × Int × Int × Int)) := Enc.sl tMethod eMethod
abbrev eRule : Enc (Int × Int × List Int) := Enc.pair Enc.int (Enc.pair Enc.int eIs)
abbrev eRules : Enc (List (Int × Int × List Int)) := Enc.sl tRule eRule
abbrev eGuarded : Enc ((List Int × List (Int × List Int)) × List (Int × List Int)) := Enc.pair eQuery eAtoms
abbrev eGuardeds : Enc (List ((List Int × List (Int × List Int)) × List (Int × List Int))) := Enc.sl tGuarded eGuarded
abbrev eLine : Enc (Int × (Int × List Int) × Int × List Int) := Enc.pair Enc.int (Enc.pair eAccess eFact)
abbrev eLines : Enc (List (Int × (Int × List Int) × Int × List Int)) := Enc.sl tLine eLine
abbrev eProof : Enc (List (Int × (Int × List Int) × Int × List Int)) := eLines
abbrev eProofs : Enc (List (List (Int × (Int × List Int) × Int × List Int))) := Enc.sl tProof eProof
abbrev eReached : Enc ((List (Int × List Int)) × List Int × (List (Int × List Int)) × Int) := Enc.pair eFacts (Enc.pair eIs (Enc.pair eAccesss Enc.int))
abbrev eReacheds : Enc (List ((List (Int × List Int)) × List Int × (List (Int × List Int)) × Int)) := Enc.sl tReached eReached
abbrev eRun : Enc (List (List Int) × (List (Int × List Int)) × (List (Int × List Int)) × Int) := Enc.pair eIss (Enc.pair eAccesss (Enc.pair eFacts Enc.int))
abbrev eRuns : Enc (List (List (List Int) × (List (Int × List Int)) × (List (Int × List Int)) × Int)) := Enc.sl tRun eRun
abbrev eCertificate : Enc ((List (Int × List Int)) × (List (Int × List Int)) × List Int) := Enc.pair eFacts (Enc.pair eFacts eIs)
abbrev eCertificates : Enc (List ((List (Int × List Int)) × (List (Int × List Int)) × List Int)) := Enc.sl tCertificate eCertificate
abbrev eway : Enc ((Int × List Int) × List Int) := Enc.pair eFact eIs
abbrev eways : Enc (List ((Int × List Int) × List Int)) := Enc.sl tway eway
theorem Ro.pFact {w0 : World} {L0 : List Nat} {cs : List Value} {x : Int × List Int} (h : Ro w0 L0 eFact cs x) : ∃ (a0 : Option Addr) (c0 : Nat), cs = [.int .i64 x.1, .slice a0 x.2.length c0] ∧ I64 x.1 ∧ Ro w0 L0 eIs [.slice a0 x.2.length c0] x.2 := by
  obtain ⟨_, _, rfl, h1, g1⟩ := Ro.pair h
  obtain ⟨rfl, h1i⟩ := h1.int
  obtain ⟨a_g1, c_g1, rfl⟩ := g1.sl
  exact ⟨a_g1, c_g1, rfl, h1i, g1⟩
theorem Ro.mkFact {w0 : World} {L0 : List Nat} {x : Int × List Int} {a0 : Option Addr} {m0 c0 : Nat} (h0 : I64 x.1) (h1 : Ro w0 L0 eIs [.slice a0 m0 c0] x.2) : Ro w0 L0 eFact [.int .i64 x.1, .slice a0 m0 c0] x := (Ro.mkpair (Ro.mkint h0) h1)
theorem Ro.pAtom {w0 : World} {L0 : List Nat} {cs : List Value} {x : Int × List Int} (h : Ro w0 L0 eAtom cs x) : ∃ (a0 : Option Addr) (c0 : Nat), cs = [.int .i64 x.1, .slice a0 x.2.length c0] ∧ I64 x.1 ∧ Ro w0 L0 eIs [.slice a0 x.2.length c0] x.2 := by
  obtain ⟨_, _, rfl, h1, g1⟩ := Ro.pair h
  obtain ⟨rfl, h1i⟩ := h1.int
  obtain ⟨a_g1, c_g1, rfl⟩ := g1.sl
  exact ⟨a_g1, c_g1, rfl, h1i, g1⟩
theorem Ro.mkAtom {w0 : World} {L0 : List Nat} {x : Int × List Int} {a0 : Option Addr} {m0 c0 : Nat} (h0 : I64 x.1) (h1 : Ro w0 L0 eIs [.slice a0 m0 c0] x.2) : Ro w0 L0 eAtom [.int .i64 x.1, .slice a0 m0 c0] x := (Ro.mkpair (Ro.mkint h0) h1)
theorem Ro.pAccess {w0 : World} {L0 : List Nat} {cs : List Value} {x : Int × List Int} (h : Ro w0 L0 eAccess cs x) : ∃ (a0 : Option Addr) (c0 : Nat), cs = [.int .i64 x.1, .slice a0 x.2.length c0] ∧ I64 x.1 ∧ Ro w0 L0 eIs [.slice a0 x.2.length c0] x.2 := by
  obtain ⟨_, _, rfl, h1, g1⟩ := Ro.pair h
  obtain ⟨rfl, h1i⟩ := h1.int
  obtain ⟨a_g1, c_g1, rfl⟩ := g1.sl
  exact ⟨a_g1, c_g1, rfl, h1i, g1⟩
theorem Ro.mkAccess {w0 : World} {L0 : List Nat} {x : Int × List Int} {a0 : Option Addr} {m0 c0 : Nat} (h0 : I64 x.1) (h1 : Ro w0 L0 eIs [.slice a0 m0 c0] x.2) : Ro w0 L0 eAccess [.int .i64 x.1, .slice a0 m0 c0] x := (Ro.mkpair (Ro.mkint h0) h1)
theorem Ro.pStep {w0 : World} {L0 : List Nat} {cs : List Value} {x : Int × Int} (h : Ro w0 L0 eStep cs x) : cs = [.int .i64 x.1, .int .i64 x.2] ∧ I64 x.1 ∧ I64 x.2 := by
  obtain ⟨_, _, rfl, h1, g1⟩ := Ro.pair h
  obtain ⟨rfl, h1i⟩ := h1.int
  obtain ⟨rfl, g1i⟩ := g1.int
  exact ⟨rfl, h1i, g1i⟩
theorem Ro.mkStep {w0 : World} {L0 : List Nat} {x : Int × Int} (h0 : I64 x.1) (h1 : I64 x.2) : Ro w0 L0 eStep [.int .i64 x.1, .int .i64 x.2] x := (Ro.mkpair (Ro.mkint h0) (Ro.mkint h1))
theorem Ro.pQuery {w0 : World} {L0 : List Nat} {cs : List Value} {x : List Int × List (Int × List Int)} (h : Ro w0 L0 eQuery cs x) : ∃ (a0 : Option Addr) (c0 : Nat) (a1 : Option Addr) (c1 : Nat), cs = [.slice a0 x.1.length c0, .slice a1 x.2.length c1] ∧ Ro w0 L0 eIs [.slice a0 x.1.length c0] x.1 ∧ Ro w0 L0 eAtoms [.slice a1 x.2.length c1] x.2 := by
  obtain ⟨_, _, rfl, h1, g1⟩ := Ro.pair h
  obtain ⟨a_h1, c_h1, rfl⟩ := h1.sl
  obtain ⟨a_g1, c_g1, rfl⟩ := g1.sl
  exact ⟨a_h1, c_h1, a_g1, c_g1, rfl, h1, g1⟩
theorem Ro.mkQuery {w0 : World} {L0 : List Nat} {x : List Int × List (Int × List Int)} {a0 a1 : Option Addr} {m0 c0 m1 c1 : Nat} (h0 : Ro w0 L0 eIs [.slice a0 m0 c0] x.1) (h1 : Ro w0 L0 eAtoms [.slice a1 m1 c1] x.2) : Ro w0 L0 eQuery [.slice a0 m0 c0, .slice a1 m1 c1] x := (Ro.mkpair h0 h1)
theorem Ro.pBinding {w0 : World} {L0 : List Nat} {cs : List Value} {x : List Int × List Int} (h : Ro w0 L0 eBinding cs x) : ∃ (a0 : Option Addr) (c0 : Nat) (a1 : Option Addr) (c1 : Nat), cs = [.slice a0 x.1.length c0, .slice a1 x.2.length c1] ∧ Ro w0 L0 eIs [.slice a0 x.1.length c0] x.1 ∧ Ro w0 L0 eIs [.slice a1 x.2.length c1] x.2 := by
  obtain ⟨_, _, rfl, h1, g1⟩ := Ro.pair h
  obtain ⟨a_h1, c_h1, rfl⟩ := h1.sl
  obtain ⟨a_g1, c_g1, rfl⟩ := g1.sl
  exact ⟨a_h1, c_h1, a_g1, c_g1, rfl, h1, g1⟩
theorem Ro.mkBinding {w0 : World} {L0 : List Nat} {x : List Int × List Int} {a0 a1 : Option Addr} {m0 c0 m1 c1 : Nat} (h0 : Ro w0 L0 eIs [.slice a0 m0 c0] x.1) (h1 : Ro w0 L0 eIs [.slice a1 m1 c1] x.2) : Ro w0 L0 eBinding [.slice a0 m0 c0, .slice a1 m1 c1] x := (Ro.mkpair h0 h1)
theorem Ro.pMethod {w0 : World} {L0 : List Nat} {cs : List Value} {x : Int × List Int × Int × Int × Int} (h : Ro w0 L0 eMethod cs x) : ∃ (a0 : Option Addr) (c0 : Nat), cs = [.int .i64 x.1, .slice a0 x.2.1.length c0, .int .i64 x.2.2.1, .int .i64 x.2.2.2.1, .int .i64 x.2.2.2.2] ∧ I64 x.1 ∧ Ro w0 L0 eIs [.slice a0 x.2.1.length c0] x.2.1 ∧ I64 x.2.2.1 ∧ I64 x.2.2.2.1 ∧ I64 x.2.2.2.2 := by
  obtain ⟨_, _, rfl, h1, g1⟩ := Ro.pair h
  obtain ⟨rfl, h1i⟩ := h1.int
  obtain ⟨_, _, rfl, h2, g2⟩ := Ro.pair g1
  obtain ⟨a_h2, c_h2, rfl⟩ := h2.sl
  obtain ⟨_, _, rfl, h3, g3⟩ := Ro.pair g2
  obtain ⟨rfl, h3i⟩ := h3.int
  obtain ⟨_, _, rfl, h4, g4⟩ := Ro.pair g3
  obtain ⟨rfl, h4i⟩ := h4.int
  obtain ⟨rfl, g4i⟩ := g4.int
  exact ⟨a_h2, c_h2, rfl, h1i, h2, h3i, h4i, g4i⟩
theorem Ro.mkMethod {w0 : World} {L0 : List Nat} {x : Int × List Int × Int × Int × Int} {a0 : Option Addr} {m0 c0 : Nat} (h0 : I64 x.1) (h1 : Ro w0 L0 eIs [.slice a0 m0 c0] x.2.1) (h2 : I64 x.2.2.1) (h3 : I64 x.2.2.2.1) (h4 : I64 x.2.2.2.2) : Ro w0 L0 eMethod [.int .i64 x.1, .slice a0 m0 c0, .int .i64 x.2.2.1, .int .i64 x.2.2.2.1, .int .i64 x.2.2.2.2] x := (Ro.mkpair (Ro.mkint h0) (Ro.mkpair h1 (Ro.mkpair (Ro.mkint h2) (Ro.mkpair (Ro.mkint h3) (Ro.mkint h4)))))
theorem Ro.pRule {w0 : World} {L0 : List Nat} {cs : List Value} {x : Int × Int × List Int} (h : Ro w0 L0 eRule cs x) : ∃ (a0 : Option Addr) (c0 : Nat), cs = [.int .i64 x.1, .int .i64 x.2.1, .slice a0 x.2.2.length c0] ∧ I64 x.1 ∧ I64 x.2.1 ∧ Ro w0 L0 eIs [.slice a0 x.2.2.length c0] x.2.2 := by
  obtain ⟨_, _, rfl, h1, g1⟩ := Ro.pair h
  obtain ⟨rfl, h1i⟩ := h1.int
  obtain ⟨_, _, rfl, h2, g2⟩ := Ro.pair g1
  obtain ⟨rfl, h2i⟩ := h2.int
  obtain ⟨a_g2, c_g2, rfl⟩ := g2.sl
  exact ⟨a_g2, c_g2, rfl, h1i, h2i, g2⟩
theorem Ro.mkRule {w0 : World} {L0 : List Nat} {x : Int × Int × List Int} {a0 : Option Addr} {m0 c0 : Nat} (h0 : I64 x.1) (h1 : I64 x.2.1) (h2 : Ro w0 L0 eIs [.slice a0 m0 c0] x.2.2) : Ro w0 L0 eRule [.int .i64 x.1, .int .i64 x.2.1, .slice a0 m0 c0] x := (Ro.mkpair (Ro.mkint h0) (Ro.mkpair (Ro.mkint h1) h2))
theorem Ro.pGuarded {w0 : World} {L0 : List Nat} {cs : List Value} {x : (List Int × List (Int × List Int)) × List (Int × List Int)} (h : Ro w0 L0 eGuarded cs x) : ∃ (a0 : Option Addr) (c0 : Nat) (a1 : Option Addr) (c1 : Nat) (a2 : Option Addr) (c2 : Nat), cs = [.slice a0 x.1.1.length c0, .slice a1 x.1.2.length c1, .slice a2 x.2.length c2] ∧ Ro w0 L0 eIs [.slice a0 x.1.1.length c0] x.1.1 ∧ Ro w0 L0 eAtoms [.slice a1 x.1.2.length c1] x.1.2 ∧ Ro w0 L0 eAtoms [.slice a2 x.2.length c2] x.2 := by
  obtain ⟨_, _, rfl, h1, g1⟩ := Ro.pair h
  obtain ⟨_, _, rfl, h2, g2⟩ := Ro.pair h1
  obtain ⟨a_h2, c_h2, rfl⟩ := h2.sl
  obtain ⟨a_g2, c_g2, rfl⟩ := g2.sl
  obtain ⟨a_g1, c_g1, rfl⟩ := g1.sl
  exact ⟨a_h2, c_h2, a_g2, c_g2, a_g1, c_g1, rfl, h2, g2, g1⟩
theorem Ro.mkGuarded {w0 : World} {L0 : List Nat} {x : (List Int × List (Int × List Int)) × List (Int × List Int)} {a0 a1 a2 : Option Addr} {m0 c0 m1 c1 m2 c2 : Nat} (h0 : Ro w0 L0 eIs [.slice a0 m0 c0] x.1.1) (h1 : Ro w0 L0 eAtoms [.slice a1 m1 c1] x.1.2) (h2 : Ro w0 L0 eAtoms [.slice a2 m2 c2] x.2) : Ro w0 L0 eGuarded [.slice a0 m0 c0, .slice a1 m1 c1, .slice a2 m2 c2] x := (Ro.mkpair (Ro.mkpair h0 h1) h2)
theorem Ro.pLine {w0 : World} {L0 : List Nat} {cs : List Value} {x : Int × (Int × List Int) × Int × List Int} (h : Ro w0 L0 eLine cs x) : ∃ (a0 : Option Addr) (c0 : Nat) (a1 : Option Addr) (c1 : Nat), cs = [.int .i64 x.1, .int .i64 x.2.1.1, .slice a0 x.2.1.2.length c0, .int .i64 x.2.2.1, .slice a1 x.2.2.2.length c1] ∧ I64 x.1 ∧ I64 x.2.1.1 ∧ Ro w0 L0 eIs [.slice a0 x.2.1.2.length c0] x.2.1.2 ∧ I64 x.2.2.1 ∧ Ro w0 L0 eIs [.slice a1 x.2.2.2.length c1] x.2.2.2 := by
  obtain ⟨_, _, rfl, h1, g1⟩ := Ro.pair h
  obtain ⟨rfl, h1i⟩ := h1.int
  obtain ⟨_, _, rfl, h2, g2⟩ := Ro.pair g1
  obtain ⟨_, _, rfl, h3, g3⟩ := Ro.pair h2
  obtain ⟨rfl, h3i⟩ := h3.int
  obtain ⟨a_g3, c_g3, rfl⟩ := g3.sl
  obtain ⟨_, _, rfl, h4, g4⟩ := Ro.pair g2
  obtain ⟨rfl, h4i⟩ := h4.int
  obtain ⟨a_g4, c_g4, rfl⟩ := g4.sl
  exact ⟨a_g3, c_g3, a_g4, c_g4, rfl, h1i, h3i, g3, h4i, g4⟩
theorem Ro.mkLine {w0 : World} {L0 : List Nat} {x : Int × (Int × List Int) × Int × List Int} {a0 a1 : Option Addr} {m0 c0 m1 c1 : Nat} (h0 : I64 x.1) (h1 : I64 x.2.1.1) (h2 : Ro w0 L0 eIs [.slice a0 m0 c0] x.2.1.2) (h3 : I64 x.2.2.1) (h4 : Ro w0 L0 eIs [.slice a1 m1 c1] x.2.2.2) : Ro w0 L0 eLine [.int .i64 x.1, .int .i64 x.2.1.1, .slice a0 m0 c0, .int .i64 x.2.2.1, .slice a1 m1 c1] x := (Ro.mkpair (Ro.mkint h0) (Ro.mkpair (Ro.mkpair (Ro.mkint h1) h2) (Ro.mkpair (Ro.mkint h3) h4)))
theorem Ro.pProof {w0 : World} {L0 : List Nat} {cs : List Value} {x : List (Int × (Int × List Int) × Int × List Int)} (h : Ro w0 L0 eProof cs x) : ∃ (a0 : Option Addr) (c0 : Nat), cs = [.slice a0 x.length c0] ∧ Ro w0 L0 eLines [.slice a0 x.length c0] x := by
  obtain ⟨a_h, c_h, rfl⟩ := h.sl
  exact ⟨a_h, c_h, rfl, h⟩
theorem Ro.mkProof {w0 : World} {L0 : List Nat} {x : List (Int × (Int × List Int) × Int × List Int)} {a0 : Option Addr} {m0 c0 : Nat} (h0 : Ro w0 L0 eLines [.slice a0 m0 c0] x) : Ro w0 L0 eProof [.slice a0 m0 c0] x := h0
theorem Ro.pReached {w0 : World} {L0 : List Nat} {cs : List Value} {x : (List (Int × List Int)) × List Int × (List (Int × List Int)) × Int} (h : Ro w0 L0 eReached cs x) : ∃ (a0 : Option Addr) (c0 : Nat) (a1 : Option Addr) (c1 : Nat) (a2 : Option Addr) (c2 : Nat), cs = [.slice a0 x.1.length c0, .slice a1 x.2.1.length c1, .slice a2 x.2.2.1.length c2, .int .i64 x.2.2.2] ∧ Ro w0 L0 eFacts [.slice a0 x.1.length c0] x.1 ∧ Ro w0 L0 eIs [.slice a1 x.2.1.length c1] x.2.1 ∧ Ro w0 L0 eAccesss [.slice a2 x.2.2.1.length c2] x.2.2.1 ∧ I64 x.2.2.2 := by
  obtain ⟨_, _, rfl, h1, g1⟩ := Ro.pair h
  obtain ⟨a_h1, c_h1, rfl⟩ := h1.sl
  obtain ⟨_, _, rfl, h2, g2⟩ := Ro.pair g1
  obtain ⟨a_h2, c_h2, rfl⟩ := h2.sl
  obtain ⟨_, _, rfl, h3, g3⟩ := Ro.pair g2
  obtain ⟨a_h3, c_h3, rfl⟩ := h3.sl
  obtain ⟨rfl, g3i⟩ := g3.int
  exact ⟨a_h1, c_h1, a_h2, c_h2, a_h3, c_h3, rfl, h1, h2, h3, g3i⟩
theorem Ro.mkReached {w0 : World} {L0 : List Nat} {x : (List (Int × List Int)) × List Int × (List (Int × List Int)) × Int} {a0 a1 a2 : Option Addr} {m0 c0 m1 c1 m2 c2 : Nat} (h0 : Ro w0 L0 eFacts [.slice a0 m0 c0] x.1) (h1 : Ro w0 L0 eIs [.slice a1 m1 c1] x.2.1) (h2 : Ro w0 L0 eAccesss [.slice a2 m2 c2] x.2.2.1) (h3 : I64 x.2.2.2) : Ro w0 L0 eReached [.slice a0 m0 c0, .slice a1 m1 c1, .slice a2 m2 c2, .int .i64 x.2.2.2] x := (Ro.mkpair h0 (Ro.mkpair h1 (Ro.mkpair h2 (Ro.mkint h3))))
theorem Ro.pRun {w0 : World} {L0 : List Nat} {cs : List Value} {x : List (List Int) × (List (Int × List Int)) × (List (Int × List Int)) × Int} (h : Ro w0 L0 eRun cs x) : ∃ (a0 : Option Addr) (c0 : Nat) (a1 : Option Addr) (c1 : Nat) (a2 : Option Addr) (c2 : Nat), cs = [.slice a0 x.1.length c0, .slice a1 x.2.1.length c1, .slice a2 x.2.2.1.length c2, .int .i64 x.2.2.2] ∧ Ro w0 L0 eIss [.slice a0 x.1.length c0] x.1 ∧ Ro w0 L0 eAccesss [.slice a1 x.2.1.length c1] x.2.1 ∧ Ro w0 L0 eFacts [.slice a2 x.2.2.1.length c2] x.2.2.1 ∧ I64 x.2.2.2 := by
  obtain ⟨_, _, rfl, h1, g1⟩ := Ro.pair h
  obtain ⟨a_h1, c_h1, rfl⟩ := h1.sl
  obtain ⟨_, _, rfl, h2, g2⟩ := Ro.pair g1
  obtain ⟨a_h2, c_h2, rfl⟩ := h2.sl
  obtain ⟨_, _, rfl, h3, g3⟩ := Ro.pair g2
  obtain ⟨a_h3, c_h3, rfl⟩ := h3.sl
  obtain ⟨rfl, g3i⟩ := g3.int
  exact ⟨a_h1, c_h1, a_h2, c_h2, a_h3, c_h3, rfl, h1, h2, h3, g3i⟩
theorem Ro.mkRun {w0 : World} {L0 : List Nat} {x : List (List Int) × (List (Int × List Int)) × (List (Int × List Int)) × Int} {a0 a1 a2 : Option Addr} {m0 c0 m1 c1 m2 c2 : Nat} (h0 : Ro w0 L0 eIss [.slice a0 m0 c0] x.1) (h1 : Ro w0 L0 eAccesss [.slice a1 m1 c1] x.2.1) (h2 : Ro w0 L0 eFacts [.slice a2 m2 c2] x.2.2.1) (h3 : I64 x.2.2.2) : Ro w0 L0 eRun [.slice a0 m0 c0, .slice a1 m1 c1, .slice a2 m2 c2, .int .i64 x.2.2.2] x := (Ro.mkpair h0 (Ro.mkpair h1 (Ro.mkpair h2 (Ro.mkint h3))))
theorem Ro.pCertificate {w0 : World} {L0 : List Nat} {cs : List Value} {x : (List (Int × List Int)) × (List (Int × List Int)) × List Int} (h : Ro w0 L0 eCertificate cs x) : ∃ (a0 : Option Addr) (c0 : Nat) (a1 : Option Addr) (c1 : Nat) (a2 : Option Addr) (c2 : Nat), cs = [.slice a0 x.1.length c0, .slice a1 x.2.1.length c1, .slice a2 x.2.2.length c2] ∧ Ro w0 L0 eFacts [.slice a0 x.1.length c0] x.1 ∧ Ro w0 L0 eFacts [.slice a1 x.2.1.length c1] x.2.1 ∧ Ro w0 L0 eIs [.slice a2 x.2.2.length c2] x.2.2 := by
  obtain ⟨_, _, rfl, h1, g1⟩ := Ro.pair h
  obtain ⟨a_h1, c_h1, rfl⟩ := h1.sl
  obtain ⟨_, _, rfl, h2, g2⟩ := Ro.pair g1
  obtain ⟨a_h2, c_h2, rfl⟩ := h2.sl
  obtain ⟨a_g2, c_g2, rfl⟩ := g2.sl
  exact ⟨a_h1, c_h1, a_h2, c_h2, a_g2, c_g2, rfl, h1, h2, g2⟩
theorem Ro.mkCertificate {w0 : World} {L0 : List Nat} {x : (List (Int × List Int)) × (List (Int × List Int)) × List Int} {a0 a1 a2 : Option Addr} {m0 c0 m1 c1 m2 c2 : Nat} (h0 : Ro w0 L0 eFacts [.slice a0 m0 c0] x.1) (h1 : Ro w0 L0 eFacts [.slice a1 m1 c1] x.2.1) (h2 : Ro w0 L0 eIs [.slice a2 m2 c2] x.2.2) : Ro w0 L0 eCertificate [.slice a0 m0 c0, .slice a1 m1 c1, .slice a2 m2 c2] x := (Ro.mkpair h0 (Ro.mkpair h1 h2))
theorem Ro.pway {w0 : World} {L0 : List Nat} {cs : List Value} {x : (Int × List Int) × List Int} (h : Ro w0 L0 eway cs x) : ∃ (a0 : Option Addr) (c0 : Nat) (a1 : Option Addr) (c1 : Nat), cs = [.int .i64 x.1.1, .slice a0 x.1.2.length c0, .slice a1 x.2.length c1] ∧ I64 x.1.1 ∧ Ro w0 L0 eIs [.slice a0 x.1.2.length c0] x.1.2 ∧ Ro w0 L0 eIs [.slice a1 x.2.length c1] x.2 := by
  obtain ⟨_, _, rfl, h1, g1⟩ := Ro.pair h
  obtain ⟨_, _, rfl, h2, g2⟩ := Ro.pair h1
  obtain ⟨rfl, h2i⟩ := h2.int
  obtain ⟨a_g2, c_g2, rfl⟩ := g2.sl
  obtain ⟨a_g1, c_g1, rfl⟩ := g1.sl
  exact ⟨a_g2, c_g2, a_g1, c_g1, rfl, h2i, g2, g1⟩
theorem Ro.mkway {w0 : World} {L0 : List Nat} {x : (Int × List Int) × List Int} {a0 a1 : Option Addr} {m0 c0 m1 c1 : Nat} (h0 : I64 x.1.1) (h1 : Ro w0 L0 eIs [.slice a0 m0 c0] x.1.2) (h2 : Ro w0 L0 eIs [.slice a1 m1 c1] x.2) : Ro w0 L0 eway [.int .i64 x.1.1, .slice a0 m0 c0, .slice a1 m1 c1] x := (Ro.mkpair (Ro.mkpair (Ro.mkint h0) h1) h2)
end Go.Proofs.Ytnagfcajnbkdoaa
