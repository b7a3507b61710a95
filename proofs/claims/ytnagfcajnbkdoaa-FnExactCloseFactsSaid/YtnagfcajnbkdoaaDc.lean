/- Plain definitions: facts, and what a rule makes of a fact. No program in sight. -/
import Derived.Test.YtnagfcajnbkdoaaDm
import Derived.Test.YtnagfcajnbkdoaaSln
namespace Go.Proofs.Ytnagfcajnbkdoaa
set_option linter.unusedVariables false
def okVals (l : List Int) : Bool := !l.any fun n => !inR n 0 9
def okFact (s : List Int) (f : Int × List Int) : Bool := okRel s f.1 && (decide ((f.2.length : Int) = at0 s f.1) && okVals f.2)
theorem okFact_no1 {s : List Int} {f : Int × List Int} (h : okRel s f.1 = false) : false = okFact s f := by simp [okFact, h]
theorem okFact_no2 {s : List Int} {f : Int × List Int} {k : Int} (e : at0 s f.1 = k) (h : (f.2.length : Int) ≠ k) : false = okFact s f := by simp [okFact, e, h]
theorem okFact_no3 {s : List Int} {f : Int × List Int} (h : okVals f.2 = false) : false = okFact s f := by simp [okFact, h]
theorem okFact_is {s : List Int} {f : Int × List Int} {k : Int} (h : okRel s f.1 = true) (e : at0 s f.1 = k) (h2 : (f.2.length : Int) = k) : okVals f.2 = okFact s f := by simp [okFact, h, e, h2]
/-- a rule's positions lie in a fact of its relation -/
theorem rule_fact {s : List Int} {r : Int × Int × List Int} {f : Int × List Int} (h1 : okRule s r = true) (h2 : okFact s f = true) (e : f.1 = r.1) : ∀ x ∈ r.2.2, 0 ≤ x ∧ x < f.2.length := by
  simp only [okRule, okFact, okPos, Bool.and_eq_true, decide_eq_true_eq, Bool.not_eq_true', List.any_eq_false] at h1 h2
  intro x hx
  have h3 := h1.2.2.2 x hx
  have h4 := h2.2.1
  rw [e] at h4
  simp [inR] at h3
  omega
def impB (s : List Int) (r : Int × Int × List Int) (f : Int × List Int) : Bool := okRule s r && (okFact s f && decide (f.1 = r.1))
theorem impB_no1 {s : List Int} {r : Int × Int × List Int} {f : Int × List Int} (h : okRule s r = false) : impB s r f = false := by simp [impB, h]
theorem impB_no2 {s : List Int} {r : Int × Int × List Int} {f : Int × List Int} (h : okFact s f = false) : impB s r f = false := by simp [impB, h]
theorem impB_no3 {s : List Int} {r : Int × Int × List Int} {f : Int × List Int} (h : f.1 ≠ r.1) : impB s r f = false := by simp [impB, h]
theorem impB_yes {s : List Int} {r : Int × Int × List Int} {f : Int × List Int} (h1 : okRule s r = true) (h2 : okFact s f = true) (h : f.1 = r.1) : impB s r f = true := by simp [impB, h, h1, h2]
theorem impB_is {s : List Int} {r : Int × Int × List Int} {f : Int × List Int} (h1 : okRule s r = true) (h2 : okFact s f = true) : impB s r f = decide (f.1 = r.1) := by simp [impB, h1, h2]
def vals (m : List Int) (v : List Int) : List Int := m.map (at0 v)
theorem vals_step {m v : List Int} {g : Nat} (h : g < m.length) (h2 : m[g].toNat < v.length) : vals (m.take g) v ++ [v[m[g].toNat]] = vals (m.take (g + 1)) v := by
  rw [List.take_succ_eq_append_getElem h, vals, vals, List.map_append]
  simp [at0_get h2]
theorem vals_len {m v : List Int} : (vals m v).length = m.length := by simp [vals]
theorem vals_all {m v : List Int} {g : Nat} (h : m.length ≤ g) : vals (m.take g) v = vals m v := by rw [List.take_of_length_le h]
theorem vals_takelen {m v : List Int} {g : Nat} (h : g ≤ m.length) : (vals (m.take g) v).length = g := by simp [vals]; omega
def impR (s : List Int) (r : Int × Int × List Int) (f : Int × List Int) : Int := cond (impB s r f) r.2.1 0
def impV (s : List Int) (r : Int × Int × List Int) (f : Int × List Int) : List Int := cond (impB s r f) (vals r.2.2 f.2) []
theorem impR_I64 {s : List Int} {r : Int × Int × List Int} {f : Int × List Int} (h : I64 r.2.1) : I64 (impR s r f) := by
  rw [impR]; cases impB s r f
  · show I64 0; exact ⟨by decide, by decide⟩
  · exact h
theorem rule_len {s : List Int} {r : Int × Int × List Int} (h : okRule s r = true) : r.2.2.length ≤ 3 := by
  simp only [okRule, Bool.and_eq_true, decide_eq_true_eq] at h
  have := okRel_lt h.2.1
  simp only [at0] at h; omega
theorem impV_len {s : List Int} {r : Int × Int × List Int} {f : Int × List Int} : totS cE_I (impV s r f) ≤ r.2.2.length := by
  rw [totS_I, impV]; cases impB s r f <;> simp [vals]
theorem totS_lin {α : Type} {c t : α → Nat} {n : Nat} (h : ∀ x, c x ≤ n + t x) : ∀ {l : List α}, totS c l ≤ n * l.length + totS t l
  | [] => by simp [totS]
  | x :: l => by
    have h1 := totS_lin h (l := l)
    have h2 := h x
    simp only [totS, List.map_cons, List.sum_cons, List.length_cons, Nat.mul_add, Nat.mul_one] at h1 ⊢; omega
end Go.Proofs.Ytnagfcajnbkdoaa
