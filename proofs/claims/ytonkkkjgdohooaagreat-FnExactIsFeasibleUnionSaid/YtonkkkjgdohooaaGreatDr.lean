import Derived.Test.YtonkkkjgdohooaaGreatBd
namespace Go.Proofs.YtonkkkjgdohooaaGreat
set_option linter.unusedVariables false
set_option linter.unusedSimpArgs false
def uniS (s : List Int) (facts : List (Int × List Int)) (out : List (List Int)) (q : List Int × List (Int × List Int)) : List (List Int) := (ansR s q facts).foldl addT out
def uniA (s : List Int) (u : List (List Int × List (Int × List Int))) (facts : List (Int × List Int)) : List (List Int) := if okUnion s u then u.foldl (uniS s facts) [] else []
/- frozen queries -/
theorem vars_few {atoms : List (Int × List Int)} : (termsF (fun t => inR t 10 17) atoms).length ≤ 8 := by
  have h1 : (termsF (fun t => inR t 10 17) atoms).Pairwise (· < ·) := (setI_fold List.Pairwise.nil).1
  have h2 : ((termsF (fun t => inR t 10 17) atoms).map fun x => (x - 10).toNat).Nodup := by
    unfold List.Nodup
    rw [List.pairwise_map]
    refine List.Pairwise.imp_of_mem (fun {a b} ha hb hab e => ?_) h1
    have ra := vars_in a ha
    have rb := vars_in b hb
    omega
  have h3 := nodup_lt (n := 8) h2 fun x hx => by
    obtain ⟨y, hy, rfl⟩ := List.mem_map.1 hx
    have := vars_in y hy
    omega
  simpa using h3
theorem frzV_i64 {u : List Int} {n : Nat} (h : ∀ i, i < n → nextV u (fzN u i) ≤ 9) : ∀ x ∈ frzV u n, I64 x := by
  intro x hx
  simp only [frzV, List.mem_map, List.mem_range] at hx
  obtain ⟨i, hi, rfl⟩ := hx
  have := h i hi
  unfold I64; constructor <;> omega
end Go.Proofs.YtonkkkjgdohooaaGreat
