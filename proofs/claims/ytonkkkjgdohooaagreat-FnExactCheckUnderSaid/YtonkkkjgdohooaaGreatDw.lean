import Derived.Test.YtonkkkjgdohooaaGreatBd
import Derived.Test.YtonkkkjgdohooaaGreatBl
section
namespace Go.Proofs.YtonkkkjgdohooaaGreat
set_option linter.unusedVariables false
set_option linter.unusedSimpArgs false
theorem Ro.i64B {w : World} {L : List Nat} {e : TypeId} {a : Option Addr} {m c : Nat} {xs : List (List Int × List Int)} (h : Ro w L (Enc.sl e (Enc.pair (Enc.sl tI Enc.int) (Enc.sl tI Enc.int))) [.slice a m c] xs) : ∀ x ∈ xs, (∀ y ∈ x.1, I64 y) ∧ ∀ y ∈ x.2, I64 y := by
  intro x hx
  obtain ⟨i, hi, rfl⟩ := List.getElem_of_mem hx
  obtain ⟨_, _, ci, _, h1, _⟩ := h.elem i hi
  obtain ⟨c1, c2, rfl, h2, h3⟩ := h1.pair
  obtain ⟨a', c', rfl⟩ := h3.sl
  obtain ⟨a2, c2', rfl⟩ := h2.sl
  exact ⟨h2.i64, h3.i64⟩
def uniS (s : List Int) (facts : List (Int × List Int)) (out : List (List Int)) (q : List Int × List (Int × List Int)) : List (List Int) := (ansR s q facts).foldl addT out
def uniA (s : List Int) (u : List (List Int × List (Int × List Int))) (facts : List (Int × List Int)) : List (List Int) := if okUnion s u then u.foldl (uniS s facts) [] else []
/- frozen queries -/
end Go.Proofs.YtonkkkjgdohooaaGreat
end
section
namespace Go.Proofs.YtonkkkjgdohooaaGreat
set_option linter.unusedVariables false
set_option linter.unusedSimpArgs false
def refB (facts n : List (Int × List Int)) (b : List Int × List Int) : Bool := n.any fun a => hasF facts (factO a b)
def grdA (s : List Int) (g : (List Int × List (Int × List Int)) × List (Int × List Int)) (facts : List (Int × List Int)) : List (List Int) :=
  if okGuard s g && okFacts s facts then tupF g.1.1 ((bindsF g.1.2 facts).filter fun b => !refB facts g.2 b) else []
def refR (s : List Int) (g : (List Int × List (Int × List Int)) × List (Int × List Int)) (facts : List (Int × List Int)) (t : List Int) : Bool := okGuard s g && (hasT (ansR s g.1 facts) t && !hasT (grdA s g facts) t)
end Go.Proofs.YtonkkkjgdohooaaGreat
end
