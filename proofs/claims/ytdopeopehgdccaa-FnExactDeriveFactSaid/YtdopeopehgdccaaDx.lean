import Derived.Test.YtdopeopehgdccaaDr
namespace Go.Proofs.Ytdopeopehgdccaa
set_option linter.unusedVariables false
set_option linter.unusedSimpArgs false
def a3T (v : List Int) (p : Int × Int) : Bool := decide (at0 v p.1 = p.2)
/-- the fact is of the method's relation and has the values at its inputs -/
def a3p (m : Int × List Int × Int × Int × Int) (v : List Int) (f : Int × List Int) : Bool := decide (f.1 = m.1) && (m.2.1.zip v).all (a3T f.2)
end Go.Proofs.Ytdopeopehgdccaa
