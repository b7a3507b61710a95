import Derived.Test.YtfnbilpemdgkkaaGreatDoorBb
namespace Go.Proofs.YtfnbilpemdgkkaaGreatDoor
open Go.RowKit
set_option linter.unusedVariables false
theorem a8w {α : Type} {E : Enc α} {w : World} {L : List Nat} {e : TypeId} : Ro w L (Enc.sl e E) [.slice none 0 0] [] :=
 ⟨[], ⟨none, 0, 0, [], [], [], rfl, rfl, Nat.zero_le _, rfl, ⟨rfl, rfl⟩, ⟨⟨Nat.le_refl _, Nat.zero_le _⟩, .inl ⟨rfl, rfl⟩⟩⟩, by simp⟩
end Go.Proofs.YtfnbilpemdgkkaaGreatDoor
