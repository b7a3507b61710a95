/- Cells of a row from an element on. -/
import Derived.Test.YtnagfcajnbkdoaaSlt
namespace Go.Proofs.Ytnagfcajnbkdoaa
open Go.RowKit
set_option linter.unusedVariables false
section
variable {w0 : World} {L0 : List Nat} {H : List HP} {e : TypeId} {k m c g : Nat} {cs news rest : List Value}
theorem Has.rowd (hm : Go.Proofs.Ytnagfcajnbkdoaa.row e k (some ⟨g, 0, none⟩) m c cs ∈ H) (p : Nat) (h : cs.drop (p * k) = news ++ rest) : Has w0 L0 H g (p * k) news := fun w hw => by
  have h1 := (Has.row (w0 := w0) (L0 := L0) rfl hm) w hw
  intro j v hj
  have hj' : (cs.drop (p * k))[j]? = some v := by
    rw [h, List.getElem?_append_left (List.getElem?_eq_some_iff.1 hj).1]; exact hj
  rw [List.getElem?_drop] at hj'
  have := h1 _ v hj'
  rwa [Nat.zero_add] at this
theorem Has.row0 (hm : Go.Proofs.Ytnagfcajnbkdoaa.row e k (some ⟨g, 0, none⟩) m c cs ∈ H) : Has w0 L0 H g 0 cs := Has.row rfl hm
end
theorem take_all_drop {cs : List Value} {j k n : Nat} {vcs : List Value} (hc : cs.length = n * k) (hj : j = n) : cs ++ vcs = cs.take (j * k) ++ vcs ++ cs.drop (j * k) := by
  subst hj
  rw [List.take_of_length_le (by omega), List.drop_eq_nil_of_le (by omega), List.append_nil]
end Go.Proofs.Ytnagfcajnbkdoaa
