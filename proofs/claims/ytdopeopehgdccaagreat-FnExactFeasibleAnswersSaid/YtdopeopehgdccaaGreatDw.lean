import Derived.Test.YtdopeopehgdccaaGreatDy
import Derived.Test.YtdopeopehgdccaaGreatBl
namespace Go.Proofs.YtdopeopehgdccaaGreat
set_option linter.unusedVariables false
set_option linter.unusedSimpArgs false
def b6G (d8 n : List (Int × List Int)) (b : List Int × List Int) : Bool := n.any fun a => G6 d8 (E2 a b)
def b6z (s : List Int) (g : (List Int × List (Int × List Int)) × List (Int × List Int)) (d8 : List (Int × List Int)) : List (List Int) :=
  if a7S s g && B7 s d8 then M0 g.1.1 ((t7 g.1.2 d8).filter fun b => !b6G d8 g.2 b) else []
def b7l (s : List Int) (g : (List Int × List (Int × List Int)) × List (Int × List Int)) (d8 : List (Int × List Int)) (t : List Int) : Bool := a7S s g && (L9 (b5j s g.1 d8) t && !L9 (b6z s g d8) t)
end Go.Proofs.YtdopeopehgdccaaGreat
