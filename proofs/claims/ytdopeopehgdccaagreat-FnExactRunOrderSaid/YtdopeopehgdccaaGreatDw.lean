import Derived.Test.YtdopeopehgdccaaGreatDs
import Derived.Test.YtdopeopehgdccaaGreatBl
namespace Go.Proofs.YtdopeopehgdccaaGreat
set_option linter.unusedVariables false
set_option linter.unusedSimpArgs false
def b2F (d8 n : List (Int × List Int)) (b : List Int × List Int) : Bool := n.any fun a => F1 d8 (a8S a b)
def b2D (s : List Int) (g : (List Int × List (Int × List Int)) × List (Int × List Int)) (d8 : List (Int × List Int)) : List (List Int) :=
  if a5T s g && C5 s d8 then J8 g.1.1 ((a7B g.1.2 d8).filter fun b => !b2F d8 g.2 b) else []
def b3x (s : List Int) (g : (List Int × List (Int × List Int)) × List (Int × List Int)) (d8 : List (Int × List Int)) (t : List Int) : Bool := a5T s g && (I6 (b1p s g.1 d8) t && !I6 (b2D s g d8) t)
end Go.Proofs.YtdopeopehgdccaaGreat
