import Derived.Test.YtonkkkjgdohooaaGreatBd
namespace Go.Proofs.YtonkkkjgdohooaaGreat
set_option linter.unusedVariables false
set_option linter.unusedSimpArgs false
def uniS (s : List Int) (facts : List (Int × List Int)) (out : List (List Int)) (q : List Int × List (Int × List Int)) : List (List Int) := (ansR s q facts).foldl addT out
def uniA (s : List Int) (u : List (List Int × List (Int × List Int))) (facts : List (Int × List Int)) : List (List Int) := if okUnion s u then u.foldl (uniS s facts) [] else []
/- frozen queries -/
end Go.Proofs.YtonkkkjgdohooaaGreat
