import Derived.Test.YtonkkkjgdohooaaGreatDs
namespace Go.Proofs.YtonkkkjgdohooaaGreat
def conIn (s : List Int) (u : List (List Int × List (Int × List Int))) (q : List Int × List (Int × List Int)) : Bool := u.any (conR s q)
def notIn (s : List Int) (u : List (List Int × List (Int × List Int))) (q : List Int × List (Int × List Int)) : Bool := !conIn s u q
def areW (s : List Int) (a b : List (List Int × List (Int × List Int))) : Bool := !a.any (notIn s b)
def sameU (s : List Int) (a b : List (List Int × List (Int × List Int))) : Bool := okUnion s a && (okUnion s b && (areW s a b && areW s b a))
end Go.Proofs.YtonkkkjgdohooaaGreat
