/- Plain definitions: what the document's first functions compute, over lists of numbers. No program in sight. -/
import Derived.Test.YtnagfcajnbkdoaaFc
import Derived.Test.YtnagfcajnbkdoaaSlj
namespace Go.Proofs.Ytnagfcajnbkdoaa
set_option linter.unusedVariables false
def inR (n lo hi : Int) : Bool := decide (lo ≤ n ∧ n ≤ hi)
/-- slices.IndexFunc -/
def idxP {α : Type} (p : α → Bool) (s : List α) : Int := if s.any p then (s.findIdx p : Int) else -1
theorem idxP_hit {α : Type} {p : α → Bool} {s : List α} {k : Nat} (hk : k < s.length) (h : ∀ x ∈ s.take k, p x = false) (hp : p s[k] = true) : (k : Int) = idxP p s := by
  have h1 : s.any p = true := List.any_eq_true.2 ⟨_, List.getElem_mem hk, hp⟩
  have h2 : s.findIdx p = k := by
    rw [List.findIdx_eq hk]
    refine ⟨hp, fun j hj => h _ ?_⟩
    rw [List.mem_take_iff_getElem]
    exact ⟨j, by omega, rfl⟩
  rw [idxP, if_pos h1, h2]
theorem idxP_miss {α : Type} {p : α → Bool} {s : List α} {k : Nat} (hk : ¬ k < s.length) (h : ∀ x ∈ s.take k, p x = false) : (-1 : Int) = idxP p s := by
  rw [List.take_of_length_le (by omega)] at h
  have : ¬ s.any p = true := fun h' => by
    obtain ⟨x, hx, hp⟩ := List.any_eq_true.1 h'
    rw [h x hx] at hp; cases hp
  rw [idxP, if_neg this]
theorem idxP_nonneg {α : Type} {p : α → Bool} {s : List α} : decide (0 ≤ idxP p s) = s.any p := by
  unfold idxP; split <;> simp_all
theorem take_step {α : Type} {p : α → Bool} {s : List α} {k : Nat} (hk : k < s.length) (h : ∀ x ∈ s.take k, p x = false) (hp : p s[k] = false) : ∀ x ∈ s.take (k + 1), p x = false := by
  intro x hx
  rw [List.take_succ_eq_append_getElem hk] at hx
  rcases List.mem_append.1 hx with hx | hx
  · exact h x hx
  · simp at hx; subst hx; exact hp
theorem any_hit {α : Type} {p : α → Bool} {s : List α} {k : Nat} (hk : k < s.length) (hp : p s[k] = true) : s.any p = true := List.any_eq_true.2 ⟨_, List.getElem_mem hk, hp⟩
theorem any_miss {α : Type} {p : α → Bool} {s : List α} {k : Nat} (hk : ¬ k < s.length) (h : ∀ x ∈ s.take k, p x = false) : s.any p = false := by
  rw [List.take_of_length_le (by omega)] at h
  rw [← Bool.not_eq_true]
  intro h'
  obtain ⟨x, hx, hp⟩ := List.any_eq_true.1 h'
  rw [h x hx] at hp; cases hp
def okSchema (s : List Int) : Bool := inR (s.length : Int) 1 3 && !s.any fun n => !inR n 1 3
def okRel (s : List Int) (rel : Int) : Bool := okSchema s && inR rel 0 ((s.length : Int) - 1)
def okPos (l : List Int) (arity : Int) : Bool := !l.any fun i => !inR i 0 (arity - 1)
def at0 (s : List Int) (i : Int) : Int := s.getD i.toNat 0
def okRule (s : List Int) (r : Int × Int × List Int) : Bool := okRel s r.1 && (okRel s r.2.1 && (decide ((r.2.2.length : Int) = at0 s r.2.1) && okPos r.2.2 (at0 s r.1)))
theorem getD_get {α : Type} {s : List α} {i : Nat} {d : α} (h : i < s.length) : s.getD i d = s[i] := by simp [List.getD, h]
theorem okRel_lt {s : List Int} {i : Int} (h : okRel s i = true) : 0 ≤ i ∧ i < s.length ∧ 1 ≤ s.getD i.toNat 0 ∧ s.getD i.toNat 0 ≤ 3 := by
  simp only [okRel, okSchema, inR, Bool.and_eq_true, decide_eq_true_eq, Bool.not_eq_true', List.any_eq_false] at h
  obtain ⟨⟨_, h1⟩, h2, h3⟩ := h
  have h5 : i.toNat < s.length := by omega
  have h4 := h1 s[i.toNat] (List.getElem_mem h5)
  rw [getD_get h5]
  simp at h4
  omega
theorem at0_get {s : List Int} {i : Int} (h : i.toNat < s.length) : at0 s i = s[i.toNat] := by simp [at0, h]
def szR (t : Nat) (left : Int) : Int := if (t : Int) ≤ left then left - t else -1
theorem szR_bad {t : Nat} {l : Int} (h : szR t l < 0) (hl : 0 ≤ l) : l < t := by unfold szR at h; split at h <;> omega
theorem szR_ok {t : Nat} {l : Int} (h : ¬ szR t l < 0) (hl : 0 ≤ l) : szR t l = l - t ∧ (t : Int) ≤ l := by unfold szR at h ⊢; split at h <;> simp_all
theorem take_eq_step {α : Type} {a b : List α} {g : Nat} (ha : g < a.length) (hb : g < b.length) (h : a.take g = b.take g) (he : a[g] = b[g]) : a.take (g + 1) = b.take (g + 1) := by
  rw [List.take_succ_eq_append_getElem ha, List.take_succ_eq_append_getElem hb, h, he]
theorem take_eq_all {α : Type} {a b : List α} {g : Nat} (ha : a.length ≤ g) (hb : b.length ≤ g) (h : a.take g = b.take g) : a = b := by
  rwa [List.take_of_length_le ha, List.take_of_length_le hb] at h
theorem okRule_no1 {s : List Int} {r : Int × Int × List Int} (h : okRel s r.1 = false) : false = okRule s r := by simp [okRule, h]
theorem okRule_no2 {s : List Int} {r : Int × Int × List Int} (h : okRel s r.2.1 = false) : false = okRule s r := by simp [okRule, h]
theorem okRule_no3 {s : List Int} {r : Int × Int × List Int} {k : Int} (e : at0 s r.2.1 = k) (h : (r.2.2.length : Int) ≠ k) : false = okRule s r := by simp [okRule, e, h]
theorem okRule_no4 {s : List Int} {r : Int × Int × List Int} {k : Int} (e : at0 s r.1 = k) (h : okPos r.2.2 k = false) : false = okRule s r := by simp [okRule, e, h]
theorem okRule_yes {s : List Int} {r : Int × Int × List Int} {k l : Int} (h1 : okRel s r.1 = true) (h2 : okRel s r.2.1 = true) (e : at0 s r.1 = k) (e2 : at0 s r.2.1 = l) (h : (r.2.2.length : Int) = l) (h4 : okPos r.2.2 k = true) : true = okRule s r := by simp [okRule, h1, h2, e, e2, h, h4]
theorem okRel_no {s : List Int} {r : Int} (h : inR r 0 ((s.length : Int) - 1) = false) : okRel s r = false := by simp [okRel, h]
theorem okRel_no0 {s : List Int} {r : Int} (h : okSchema s = false) : okRel s r = false := by simp [okRel, h]
theorem frI {a b : Int} (h : a = b) : some (Value.int .i64 a) = some (Value.int .i64 b) := by rw [h]
/-- the sum of t over a list, one for each element beside it -/
def totS {α : Type} (t : α → Nat) (l : List α) : Nat := (l.map t).sum
theorem totS_nil {α : Type} {t : α → Nat} : totS t [] = 0 := rfl
theorem totS_step {α : Type} {t : α → Nat} {l : List α} {g : Nat} (h : g < l.length) : totS t (l.take (g + 1)) = totS t (l.take g) + t l[g] := by
  unfold totS; rw [List.take_succ_eq_append_getElem h, List.map_append, List.sum_append]; rfl
theorem totS_le {α : Type} {t : α → Nat} {l : List α} {g : Nat} : totS t (l.take g) ≤ totS t l := by
  have : totS t l = totS t (l.take g) + totS t (l.drop g) := by
    rw [totS, totS, totS, ← List.sum_append, ← List.map_append, List.take_append_drop]
  omega
theorem totS_all {α : Type} {t : α → Nat} {l : List α} {g : Nat} (h : l.length ≤ g) : totS t (l.take g) = totS t l := by rw [List.take_of_length_le h]
/-- what szXS reckons of a list -/
def totL {α : Type} (t : α → Nat) (l : List α) : Nat := l.length + totS t l
theorem szS_no1 {α : Type} {t : α → Nat} {l : List α} {left : Int} (h : left - (l.length : Int) < 0) : (-1 : Int) = szR (totL t l) left := by unfold szR totL; split <;> omega
theorem szS_no2 {α : Type} {t : α → Nat} {l : List α} {left : Int} {g n : Nat} (hg : g < l.length) (hn : t l[g] = n) (h : left - ((l.length : Int) + (totS t (l.take g) : Nat)) < (n : Nat)) : (-1 : Int) = szR (totL t l) left := by
  subst hn
  have h1 := totS_le (t := t) (l := l) (g := g + 1)
  rw [totS_step hg] at h1
  unfold szR totL; split <;> omega
theorem szS_yes {α : Type} {t : α → Nat} {l : List α} {left : Int} {g : Nat} (hg : l.length ≤ g) (h : (l.length : Int) + (totS t (l.take g) : Nat) ≤ left) : left - ((l.length : Int) + (totS t (l.take g) : Nat)) = szR (totL t l) left := by
  rw [totS_all hg] at h ⊢
  unfold szR totL; split <;> omega
theorem set_takeS {α : Type} {s : List α} {d x : α} {g n : Nat} (h : g < s.length) (hn : n = s.length) (hx : x = s[g]) : (s.take g ++ List.replicate (n - g) d).set g x = s.take (g + 1) ++ List.replicate (n - (g + 1)) d := by
  subst hx; exact set_take h hn
theorem take_rep_all {α : Type} {s : List α} {d : α} {g : Nat} (h : s.length ≤ g) : s.take g ++ List.replicate (s.length - g) d = s := by
  rw [List.take_of_length_le h, show s.length - g = 0 by omega]; simp
theorem tot_elem {α : Type} {t : α → Nat} {l : List α} {g : Nat} (h : g < l.length) : t l[g] ≤ totL t l := by
  have h1 := totS_le (t := t) (l := l) (g := g + 1)
  rw [totS_step h] at h1
  unfold totL; omega
theorem ne_of_len {α : Type} {a b : List α} [Decidable (a = b)] (h : (a.length : Int) ≠ b.length) : false = decide (a = b) := by
  symm; rw [decide_eq_false_iff_not]; intro e; subst e; exact h rfl
theorem ne_of_get {α : Type} {a b : List α} [Decidable (a = b)] {g : Nat} (ha : g < a.length) (hb : g < b.length) (h : a[g] ≠ b[g]) : false = decide (a = b) := by
  symm; rw [decide_eq_false_iff_not]; intro e; subst e; exact h rfl
theorem eq_of_take {α : Type} {a b : List α} [Decidable (a = b)] {g : Nat} (ha : a.length ≤ g) (hb : b.length ≤ g) (h : a.take g = b.take g) : true = decide (a = b) := by
  symm; rw [decide_eq_true_eq]; exact take_eq_all ha hb h
def okRules (s : List Int) (l : List (Int × Int × List Int)) : Bool := okSchema s && (decide ((l.length : Int) ≤ 4) && !l.any fun r => !okRule s r)
end Go.Proofs.Ytnagfcajnbkdoaa
