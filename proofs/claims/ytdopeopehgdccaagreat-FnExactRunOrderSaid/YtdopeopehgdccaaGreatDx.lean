import Derived.Test.YtdopeopehgdccaaGreatDs
namespace Go.Proofs.YtdopeopehgdccaaGreat
set_option linter.unusedVariables false
set_option linter.unusedSimpArgs false
def a0T (v : List Int) (p : Int × Int) : Bool := decide (at0 v p.1 = p.2)
/-- the fact is of the method's relation and has the values at its inputs -/
def z6 (m : Int × List Int × Int × Int × Int) (v : List Int) (f : Int × List Int) : Bool := decide (f.1 = m.1) && (m.2.1.zip v).all (a0T f.2)
theorem W6 {a b : List Int} {p : Int × Int → Bool} {g : Nat} (h : g < a.length) (h2 : g < b.length) : ((a.zip b).drop g).all p = (p (a[g], b[g]) && ((a.zip b).drop (g + 1)).all p) := by
  rw [List.drop_eq_getElem_cons (by simp; omega)]
  simp
theorem a0U {a b : List Int} {p : Int × Int → Bool} {g : Nat} (h : a.length ≤ g) : ((a.zip b).drop g).all p = true := by
  rw [List.drop_eq_nil_of_le (by simp; omega)]; rfl
theorem a9k {α : Type} {s : List α} {p : α → Bool} : s.filter (fun x => !!p x) = s.filter p := by
  congr 1; funext x; cases p x <;> rfl
theorem a8d {s : List Int} {m : Int × List Int × Int × Int × Int} {f : Int × List Int} (h1 : H6 s m = true) (h2 : F3 s f = true) (e : f.1 = m.1) : ∀ i ∈ m.2.1, 0 ≤ i ∧ i < f.2.length := by
  simp only [H6, S7, F3, P1, Bool.and_eq_true, decide_eq_true_eq, Bool.not_eq_true', List.any_eq_false] at h1 h2
  intro i hi
  have h3 := h1.2.2.1 i hi
  have h4 := h2.2.1
  rw [e] at h4
  simp only [inR, Bool.not_eq_true, Bool.and_eq_false_imp, Bool.and_eq_true, decide_eq_true_eq, decide_eq_false_iff_not] at h3
  omega
end Go.Proofs.YtdopeopehgdccaaGreat
