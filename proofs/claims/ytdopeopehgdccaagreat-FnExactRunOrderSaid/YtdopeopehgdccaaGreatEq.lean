import Derived.Test.YtdopeopehgdccaaGreatBu
import Derived.Test.YtdopeopehgdccaaGreatEp
namespace Go.Proofs.YtdopeopehgdccaaGreat
set_option linter.unusedVariables false
def b2x (m : Int × (Option Addr × Nat × Nat) × Int × Int × Int) : Int × (Option Addr × Nat × Nat) × Int × Int × Int := cond (decide (m.2.2.1 ≠ 0)) (-1, m.2) m
def exB (l : List (Int × (Option Addr × Nat × Nat) × Int × Int × Int)) : List (Int × (Option Addr × Nat × Nat) × Int × Int × Int) := l.map b2x
section
variable {l : List (Int × (Option Addr × Nat × Nat) × Int × Int × Int)} {xs : List MT5} {g : Nat} {w : World} {L : List Nat}
end
end Go.Proofs.YtdopeopehgdccaaGreat
