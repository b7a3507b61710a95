/- Plain laws: one query contained in another. No program in sight. -/
import Derived.Test.YtonkkkjgdohooaaGreatDr
namespace Go.Proofs.YtonkkkjgdohooaaGreat
set_option linter.unusedVariables false
set_option linter.unusedSimpArgs false
def hitB (h head : List Int) (b : List Int × List Int) : Bool := decide (h.map (valO b) = head)
def findV (l : List (List Int × List Int)) (h head : List Int) : List Int × List Int := (l.find? (hitB h head)).getD ([], [])
/-- p's atoms, and one atom for each constant of q -/
def xF (p q : List (Int × List Int)) : List (Int × List Int) := p ++ (termsF (fun t => inR t 0 9) q).map fun c => ((3 : Int), [c])
def conB (p q : List Int × List (Int × List Int)) : Bool :=
  decide (p.1.length = q.1.length) && (fzB [termsF (fun t => inR t 0 9) p.2, termsF (fun t => inR t 0 9) q.2].flatten p.2 &&
    (bindsF q.2 (fzF [termsF (fun t => inR t 0 9) p.2, termsF (fun t => inR t 0 9) q.2].flatten p.2)).any (hitB q.1 (p.1.map (valO (fzV [termsF (fun t => inR t 0 9) p.2, termsF (fun t => inR t 0 9) q.2].flatten p.2, fzX [termsF (fun t => inR t 0 9) p.2, termsF (fun t => inR t 0 9) q.2].flatten p.2)))))
def conR (s : List Int) (p q : List Int × List (Int × List Int)) : Bool := okQuery s p && (okQuery s q && conB p q)
def lenS (l : List (List Int)) : Nat := (l.map List.length).sum
end Go.Proofs.YtonkkkjgdohooaaGreat
