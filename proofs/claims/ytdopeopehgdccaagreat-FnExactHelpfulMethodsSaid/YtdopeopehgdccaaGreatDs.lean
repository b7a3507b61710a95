import Derived.Test.YtdopeopehgdccaaGreatDx
namespace Go.Proofs.YtdopeopehgdccaaGreat
set_option linter.unusedVariables false
set_option linter.unusedSimpArgs false
def K2 (h head : List Int) (b : List Int × List Int) : Bool := decide (h.map (B4 b) = head)
def G5 (l : List (List Int × List Int)) (h head : List Int) : List Int × List Int := (l.find? (K2 h head)).getD ([], [])
theorem K6 {l : List (List Int × List Int)} {h head : List Int} {g : Nat} (hg : g < l.length) : G5 (l.drop g) h head = if K2 h head l[g] then l[g] else G5 (l.drop (g + 1)) h head := by
  rw [List.drop_eq_getElem_cons hg]
  unfold G5
  rw [List.find?_cons]
  cases K2 h head l[g] <;> simp
theorem N3 {l : List (List Int × List Int)} {h head : List Int} {g : Nat} (hg : l.length ≤ g) : G5 (l.drop g) h head = ([], []) := by
  rw [List.drop_eq_nil_of_le hg]; rfl
theorem a1J {n0 : List (Int × List Int)} : (f0 (fun t => inR t 0 9) n0).length ≤ 10 := by
  have h1 : (f0 (fun t => inR t 0 9) n0).Pairwise (· < ·) := (a1t List.Pairwise.nil).1
  have h2 : ((f0 (fun t => inR t 0 9) n0).map fun x => x.toNat).Nodup := by
    unfold List.Nodup
    rw [List.pairwise_map]
    refine List.Pairwise.imp_of_mem (fun {a b} ha hb hab e => ?_) h1
    have ra := a3N a ha
    have rb := a3N b hb
    omega
  have h3 := a2s (n := 10) h2 fun x hx => by
    obtain ⟨y, hy, rfl⟩ := List.mem_map.1 hx
    have := a3N y hy
    omega
  simpa using h3
/-- p's atoms, and one atom for each constant of q -/
def xF (p q : List (Int × List Int)) : List (Int × List Int) := p ++ (f0 (fun t => inR t 0 9) q).map fun c => ((3 : Int), [c])
theorem b1w {is : Int → Bool} {l : List (Int × List Int)} {x : Int} : x ∈ f0 is l ↔ x ∈ l.flatMap (fun a => a.2) ∧ is x = true := by
  unfold f0
  rw [a1i, List.mem_filter]
def b4S (p q : List Int × List (Int × List Int)) : Bool :=
  decide (p.1.length = q.1.length) && (fzB [f0 (fun t => inR t 0 9) p.2, f0 (fun t => inR t 0 9) q.2].flatten p.2 &&
    (t7 q.2 (fzF [f0 (fun t => inR t 0 9) p.2, f0 (fun t => inR t 0 9) q.2].flatten p.2)).any (K2 q.1 (p.1.map (B4 (fzV [f0 (fun t => inR t 0 9) p.2, f0 (fun t => inR t 0 9) q.2].flatten p.2, fzX [f0 (fun t => inR t 0 9) p.2, f0 (fun t => inR t 0 9) q.2].flatten p.2)))))
def b5D (s : List Int) (p q : List Int × List (Int × List Int)) : Bool := I0 s p && (I0 s q && b4S p q)
def W2 (l : List (List Int)) : Nat := (l.map List.length).sum
theorem a0q {l : List (List Int)} {x : List Int} : W2 (l ++ [x]) = W2 l + x.length := by simp [W2, List.sum_append]
theorem a2V : W2 [] = 0 := rfl
theorem a3t {l : List (List Int)} {g : Nat} : W2 (l.take g) ≤ W2 l := by
  have : W2 l = W2 (l.take g) + W2 (l.drop g) := by
    rw [W2, W2, W2, ← List.sum_append, ← List.map_append, List.take_append_drop]
  omega
theorem b0A {l : List (List Int)} : l.flatten.length = W2 l := by rw [W2, List.length_flatten]
end Go.Proofs.YtdopeopehgdccaaGreat
