import Derived.Test.YtdopeopehgdccaaGreatBd
section
namespace Go.Proofs.YtdopeopehgdccaaGreat
set_option linter.unusedVariables false
set_option linter.unusedSimpArgs false
theorem Ro.i64B {w : World} {L : List Nat} {e : TypeId} {a : Option Addr} {m c : Nat} {xs : List (List Int × List Int)} (h : Ro w L (Enc.sl e (Enc.pair (Enc.sl tI Enc.int) (Enc.sl tI Enc.int))) [.slice a m c] xs) : ∀ x ∈ xs, (∀ y ∈ x.1, I64 y) ∧ ∀ y ∈ x.2, I64 y := by
  intro x hx
  obtain ⟨i, hi, rfl⟩ := List.getElem_of_mem hx
  obtain ⟨_, _, ci, _, h1, _⟩ := h.elem i hi
  obtain ⟨c1, c2, rfl, h2, h3⟩ := h1.pair
  obtain ⟨a', c', rfl⟩ := h3.sl
  obtain ⟨a2, c2', rfl⟩ := h2.sl
  exact ⟨h2.i64, h3.i64⟩
def b2E (s : List Int) (d8 : List (Int × List Int)) (out : List (List Int)) (q : List Int × List (Int × List Int)) : List (List Int) := (b1p s q d8).foldl H8 out
def b3E (s : List Int) (u : List (List Int × List (Int × List Int))) (d8 : List (Int × List Int)) : List (List Int) := if b0V s u then u.foldl (b2E s d8) [] else []
/- frozen queries -/
end Go.Proofs.YtdopeopehgdccaaGreat
end
section
namespace Go.Proofs.YtdopeopehgdccaaGreat
set_option linter.unusedVariables false
set_option linter.unusedSimpArgs false
def b1L (h head : List Int) (b : List Int × List Int) : Bool := decide (h.map (B7 b) = head)
def b3j (l : List (List Int × List Int)) (h head : List Int) : List Int × List Int := (l.find? (b1L h head)).getD ([], [])
/-- p's atoms, and one atom for each constant of q -/
def xF (p q : List (Int × List Int)) : List (Int × List Int) := p ++ (D1 (fun t => inR t 0 9) q).map fun c => ((3 : Int), [c])
def b2H (p q : List Int × List (Int × List Int)) : Bool :=
  decide (p.1.length = q.1.length) && (fzB [D1 (fun t => inR t 0 9) p.2, D1 (fun t => inR t 0 9) q.2].flatten p.2 &&
    (a7B q.2 (fzF [D1 (fun t => inR t 0 9) p.2, D1 (fun t => inR t 0 9) q.2].flatten p.2)).any (b1L q.1 (p.1.map (B7 (fzV [D1 (fun t => inR t 0 9) p.2, D1 (fun t => inR t 0 9) q.2].flatten p.2, fzX [D1 (fun t => inR t 0 9) p.2, D1 (fun t => inR t 0 9) q.2].flatten p.2)))))
def b3t (s : List Int) (p q : List Int × List (Int × List Int)) : Bool := E2 s p && (E2 s q && b2H p q)
def b3u (l : List (List Int)) : Nat := (l.map List.length).sum
end Go.Proofs.YtdopeopehgdccaaGreat
end
