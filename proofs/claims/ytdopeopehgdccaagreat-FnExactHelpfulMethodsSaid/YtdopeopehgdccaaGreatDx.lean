import Derived.Test.YtdopeopehgdccaaGreatBd
section
namespace Go.Proofs.YtdopeopehgdccaaGreat
set_option linter.unusedVariables false
set_option linter.unusedSimpArgs false
def b4J (s : List Int) (d6 : List (Int × List Int)) (out : List (List Int)) (q : List Int × List (Int × List Int)) : List (List Int) := (b4K s q d6).foldl b3O out
def b5z (s : List Int) (u : List (List Int × List (Int × List Int))) (d6 : List (Int × List Int)) : List (List Int) := if b3e s u then u.foldl (b4J s d6) [] else []
/- frozen queries -/
theorem a9O {n0 : List (Int × List Int)} : (f0 (fun t => inR t 10 17) n0).length ≤ 8 := by
  have h1 : (f0 (fun t => inR t 10 17) n0).Pairwise (· < ·) := (a1t List.Pairwise.nil).1
  have h2 : ((f0 (fun t => inR t 10 17) n0).map fun x => (x - 10).toNat).Nodup := by
    unfold List.Nodup
    rw [List.pairwise_map]
    refine List.Pairwise.imp_of_mem (fun {a b} ha hb hab e => ?_) h1
    have ra := a7v a ha
    have rb := a7v b hb
    omega
  have h3 := a2s (n := 8) h2 fun x hx => by
    obtain ⟨y, hy, rfl⟩ := List.mem_map.1 hx
    have := a7v y hy
    omega
  simpa using h3
theorem b2n {u : List Int} {n : Nat} (h : ∀ i, i < n → J3 u (fzN u i) ≤ 9) : ∀ x ∈ B9 u n, I64 x := by
  intro x hx
  simp only [B9, List.mem_map, List.mem_range] at hx
  obtain ⟨i, hi, rfl⟩ := hx
  have := h i hi
  unfold I64; constructor <;> omega
end Go.Proofs.YtdopeopehgdccaaGreat
end
section
namespace Go.Proofs.YtdopeopehgdccaaGreat
set_option linter.unusedVariables false
set_option linter.unusedSimpArgs false
def a2b (v : List Int) (p : Int × Int) : Bool := decide (at0 v p.1 = p.2)
/-- the fact is of the method's relation and has the values at its inputs -/
def u8 (m : Int × List Int × Int × Int × Int) (v : List Int) (f : Int × List Int) : Bool := decide (f.1 = m.1) && (m.2.1.zip v).all (a2b f.2)
theorem X7 {a b : List Int} {p : Int × Int → Bool} {g : Nat} (h : g < a.length) (h2 : g < b.length) : ((a.zip b).drop g).all p = (p (a[g], b[g]) && ((a.zip b).drop (g + 1)).all p) := by
  rw [List.drop_eq_getElem_cons (by simp; omega)]
  simp
theorem a2k {a b : List Int} {p : Int × Int → Bool} {g : Nat} (h : a.length ≤ g) : ((a.zip b).drop g).all p = true := by
  rw [List.drop_eq_nil_of_le (by simp; omega)]; rfl
theorem b1U {α : Type} {s : List α} {p : α → Bool} : s.filter (fun x => !!p x) = s.filter p := by
  congr 1; funext x; cases p x <;> rfl
theorem b0z {s : List Int} {m : Int × List Int × Int × Int × Int} {f : Int × List Int} (h1 : M6 s m = true) (h2 : D6 s f = true) (e : f.1 = m.1) : ∀ i ∈ m.2.1, 0 ≤ i ∧ i < f.2.length := by
  simp only [M6, V7, D6, L6, Bool.and_eq_true, decide_eq_true_eq, Bool.not_eq_true', List.any_eq_false] at h1 h2
  intro i hi
  have h3 := h1.2.2.1 i hi
  have h4 := h2.2.1
  rw [e] at h4
  simp only [inR, Bool.not_eq_true, Bool.and_eq_false_imp, Bool.and_eq_true, decide_eq_true_eq, decide_eq_false_iff_not] at h3
  omega
end Go.Proofs.YtdopeopehgdccaaGreat
end
