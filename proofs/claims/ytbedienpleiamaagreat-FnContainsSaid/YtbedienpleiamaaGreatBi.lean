import Derived.Test.YtbedienpleiamaaGreatBb
namespace Go.Proofs.YtbedienpleiamaaGreat
open Go.RowKit
set_option linter.unusedVariables false
theorem a2M {α : Type} {E : Enc α} {A B : List HP} {c1 c2 : List Value} {x y : α} {e : TypeId} {a : Option Addr} {c : Nat} (h : Own A E c1 x) (h' : Own B E c2 y) : Own (Go.Proofs.YtbedienpleiamaaGreat.row e E.k a 2 c (c1 ++ c2) :: (A ++ B)) (Enc.sl e E) [.slice a 2 c] [x, y] := fun w L ⟨L1, L2, h1, h2, h3⟩ => by
 obtain ⟨M1, M2, rfl, h4, h5⟩ := Sep.append.1 h3
 exact ⟨a, 2, c, c1 ++ c2, L1, M1 ++ M2, rfl, rfl, by decide, h1, ⟨c1, c2, M1, M2, rfl, rfl, h _ _ h4, a0n (h' _ _ h5)⟩, h2⟩
end Go.Proofs.YtbedienpleiamaaGreat
