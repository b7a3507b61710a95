import Derived.Test.YtdopeopehgdccaaBd
namespace Go.Proofs.Ytdopeopehgdccaa
set_option linter.unusedVariables false
set_option linter.unusedSimpArgs false
def a3N (s : List Int) (a8 : List (Int × List Int)) (out : List (List Int)) (q : List Int × List (Int × List Int)) : List (List Int) := (a3M s q a8).foldl a2X out
def a4C (s : List Int) (u : List (List Int × List (Int × List Int))) (a8 : List (Int × List Int)) : List (List Int) := if a2u s u then u.foldl (a3N s a8) [] else []
/- frozen queries -/
end Go.Proofs.Ytdopeopehgdccaa
