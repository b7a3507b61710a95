import Derived.Test.YtonkkkjgdohooaaGreatDw
namespace Go.Proofs.YtonkkkjgdohooaaGreat
set_option linter.unusedVariables false
set_option linter.unusedSimpArgs false
def hitB (h head : List Int) (b : List Int × List Int) : Bool := decide (h.map (valO b) = head)
def findV (l : List (List Int × List Int)) (h head : List Int) : List Int × List Int := (l.find? (hitB h head)).getD ([], [])
theorem consts_few {atoms : List (Int × List Int)} : (termsF (fun t => inR t 0 9) atoms).length ≤ 10 := by
  have h1 : (termsF (fun t => inR t 0 9) atoms).Pairwise (· < ·) := (setI_fold List.Pairwise.nil).1
  have h2 : ((termsF (fun t => inR t 0 9) atoms).map fun x => x.toNat).Nodup := by
    unfold List.Nodup
    rw [List.pairwise_map]
    refine List.Pairwise.imp_of_mem (fun {a b} ha hb hab e => ?_) h1
    have ra := cons_in a ha
    have rb := cons_in b hb
    omega
  have h3 := nodup_lt (n := 10) h2 fun x hx => by
    obtain ⟨y, hy, rfl⟩ := List.mem_map.1 hx
    have := cons_in y hy
    omega
  simpa using h3
/-- p's atoms, and one atom for each constant of q -/
def xF (p q : List (Int × List Int)) : List (Int × List Int) := p ++ (termsF (fun t => inR t 0 9) q).map fun c => ((3 : Int), [c])
def conB (p q : List Int × List (Int × List Int)) : Bool :=
  decide (p.1.length = q.1.length) && (fzB [termsF (fun t => inR t 0 9) p.2, termsF (fun t => inR t 0 9) q.2].flatten p.2 &&
    (bindsF q.2 (fzF [termsF (fun t => inR t 0 9) p.2, termsF (fun t => inR t 0 9) q.2].flatten p.2)).any (hitB q.1 (p.1.map (valO (fzV [termsF (fun t => inR t 0 9) p.2, termsF (fun t => inR t 0 9) q.2].flatten p.2, fzX [termsF (fun t => inR t 0 9) p.2, termsF (fun t => inR t 0 9) q.2].flatten p.2)))))
def conR (s : List Int) (p q : List Int × List (Int × List Int)) : Bool := okQuery s p && (okQuery s q && conB p q)
def lenS (l : List (List Int)) : Nat := (l.map List.length).sum
theorem lenS_snoc {l : List (List Int)} {x : List Int} : lenS (l ++ [x]) = lenS l + x.length := by simp [lenS, List.sum_append]
theorem lenS_nil : lenS [] = 0 := rfl
theorem lenS_take {l : List (List Int)} {g : Nat} : lenS (l.take g) ≤ lenS l := by
  have : lenS l = lenS (l.take g) + lenS (l.drop g) := by
    rw [lenS, lenS, lenS, ← List.sum_append, ← List.map_append, List.take_append_drop]
  omega
theorem flatten_len {l : List (List Int)} : l.flatten.length = lenS l := by rw [lenS, List.length_flatten]
end Go.Proofs.YtonkkkjgdohooaaGreat
