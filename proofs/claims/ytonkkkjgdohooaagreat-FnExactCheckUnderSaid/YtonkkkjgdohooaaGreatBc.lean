import Derived.Test.YtonkkkjgdohooaaGreatBb
namespace Go.Proofs.YtonkkkjgdohooaaGreat
set_option linter.unusedVariables false
def inR (n lo hi : Int) : Bool := decide (lo ≤ n ∧ n ≤ hi)
/-- slices.IndexFunc -/
def idxP {α : Type} (p : α → Bool) (s : List α) : Int := if s.any p then (s.findIdx p : Int) else -1
theorem idxP_hit {α : Type} {p : α → Bool} {s : List α} {k : Nat} (hk : k < s.length) (h : ∀ x ∈ s.take k, p x = false) (hp : p s[k] = true) : (k : Int) = idxP p s := by
  have h1 : s.any p = true := List.any_eq_true.2 ⟨_, List.getElem_mem hk, hp⟩
  have h2 : s.findIdx p = k := by
    rw [List.findIdx_eq hk]
    refine ⟨hp, fun j hj => h _ ?_⟩
    rw [List.mem_take_iff_getElem]
    exact ⟨j, by omega, rfl⟩
  rw [idxP, if_pos h1, h2]
theorem idxP_miss {α : Type} {p : α → Bool} {s : List α} {k : Nat} (hk : ¬ k < s.length) (h : ∀ x ∈ s.take k, p x = false) : (-1 : Int) = idxP p s := by
  rw [List.take_of_length_le (by omega)] at h
  have : ¬ s.any p = true := fun h' => by
    obtain ⟨x, hx, hp⟩ := List.any_eq_true.1 h'
    rw [h x hx] at hp; cases hp
  rw [idxP, if_neg this]
theorem idxP_nonneg {α : Type} {p : α → Bool} {s : List α} : decide (0 ≤ idxP p s) = s.any p := by
  unfold idxP; split <;> simp_all
theorem take_step {α : Type} {p : α → Bool} {s : List α} {k : Nat} (hk : k < s.length) (h : ∀ x ∈ s.take k, p x = false) (hp : p s[k] = false) : ∀ x ∈ s.take (k + 1), p x = false := by
  intro x hx
  rw [List.take_succ_eq_append_getElem hk] at hx
  rcases List.mem_append.1 hx with hx | hx
  · exact h x hx
  · simp at hx; subst hx; exact hp
theorem any_hit {α : Type} {p : α → Bool} {s : List α} {k : Nat} (hk : k < s.length) (hp : p s[k] = true) : s.any p = true := List.any_eq_true.2 ⟨_, List.getElem_mem hk, hp⟩
theorem any_miss {α : Type} {p : α → Bool} {s : List α} {k : Nat} (hk : ¬ k < s.length) (h : ∀ x ∈ s.take k, p x = false) : s.any p = false := by
  rw [List.take_of_length_le (by omega)] at h
  rw [← Bool.not_eq_true]
  intro h'
  obtain ⟨x, hx, hp⟩ := List.any_eq_true.1 h'
  rw [h x hx] at hp; cases hp
def okSchema (s : List Int) : Bool := inR (s.length : Int) 1 3 && !s.any fun n => !inR n 1 3
def okRel (s : List Int) (rel : Int) : Bool := okSchema s && inR rel 0 ((s.length : Int) - 1)
def okPos (l : List Int) (arity : Int) : Bool := !l.any fun i => !inR i 0 (arity - 1)
def at0 (s : List Int) (i : Int) : Int := s.getD i.toNat 0
def okRule (s : List Int) (r : Int × Int × List Int) : Bool := okRel s r.1 && (okRel s r.2.1 && (decide ((r.2.2.length : Int) = at0 s r.2.1) && okPos r.2.2 (at0 s r.1)))
theorem getD_get {α : Type} {s : List α} {i : Nat} {d : α} (h : i < s.length) : s.getD i d = s[i] := by simp [List.getD, h]
theorem okRel_lt {s : List Int} {i : Int} (h : okRel s i = true) : 0 ≤ i ∧ i < s.length ∧ 1 ≤ s.getD i.toNat 0 ∧ s.getD i.toNat 0 ≤ 3 := by
  simp only [okRel, okSchema, inR, Bool.and_eq_true, decide_eq_true_eq, Bool.not_eq_true', List.any_eq_false] at h
  obtain ⟨⟨_, h1⟩, h2, h3⟩ := h
  have h5 : i.toNat < s.length := by omega
  have h4 := h1 s[i.toNat] (List.getElem_mem h5)
  rw [getD_get h5]
  simp at h4
  omega
theorem at0_get {s : List Int} {i : Int} (h : i.toNat < s.length) : at0 s i = s[i.toNat] := by simp [at0, h]
def szR (t : Nat) (left : Int) : Int := if (t : Int) ≤ left then left - t else -1
theorem szR_bad {t : Nat} {l : Int} (h : szR t l < 0) (hl : 0 ≤ l) : l < t := by unfold szR at h; split at h <;> omega
theorem szR_ok {t : Nat} {l : Int} (h : ¬ szR t l < 0) (hl : 0 ≤ l) : szR t l = l - t ∧ (t : Int) ≤ l := by unfold szR at h ⊢; split at h <;> simp_all
theorem take_eq_step {α : Type} {a b : List α} {g : Nat} (ha : g < a.length) (hb : g < b.length) (h : a.take g = b.take g) (he : a[g] = b[g]) : a.take (g + 1) = b.take (g + 1) := by
  rw [List.take_succ_eq_append_getElem ha, List.take_succ_eq_append_getElem hb, h, he]
theorem take_eq_all {α : Type} {a b : List α} {g : Nat} (ha : a.length ≤ g) (hb : b.length ≤ g) (h : a.take g = b.take g) : a = b := by
  rwa [List.take_of_length_le ha, List.take_of_length_le hb] at h
theorem okRule_no1 {s : List Int} {r : Int × Int × List Int} (h : okRel s r.1 = false) : false = okRule s r := by simp [okRule, h]
theorem okRule_no2 {s : List Int} {r : Int × Int × List Int} (h : okRel s r.2.1 = false) : false = okRule s r := by simp [okRule, h]
theorem okRule_no3 {s : List Int} {r : Int × Int × List Int} {k : Int} (e : at0 s r.2.1 = k) (h : (r.2.2.length : Int) ≠ k) : false = okRule s r := by simp [okRule, e, h]
theorem okRule_no4 {s : List Int} {r : Int × Int × List Int} {k : Int} (e : at0 s r.1 = k) (h : okPos r.2.2 k = false) : false = okRule s r := by simp [okRule, e, h]
theorem okRule_yes {s : List Int} {r : Int × Int × List Int} {k l : Int} (h1 : okRel s r.1 = true) (h2 : okRel s r.2.1 = true) (e : at0 s r.1 = k) (e2 : at0 s r.2.1 = l) (h : (r.2.2.length : Int) = l) (h4 : okPos r.2.2 k = true) : true = okRule s r := by simp [okRule, h1, h2, e, e2, h, h4]
theorem okRel_no {s : List Int} {r : Int} (h : inR r 0 ((s.length : Int) - 1) = false) : okRel s r = false := by simp [okRel, h]
theorem okRel_no0 {s : List Int} {r : Int} (h : okSchema s = false) : okRel s r = false := by simp [okRel, h]
theorem frI {a b : Int} (h : a = b) : some (Value.int .i64 a) = some (Value.int .i64 b) := by rw [h]
/-- the sum of t over a list, one for each element beside it -/
def totS {α : Type} (t : α → Nat) (l : List α) : Nat := (l.map t).sum
theorem totS_step {α : Type} {t : α → Nat} {l : List α} {g : Nat} (h : g < l.length) : totS t (l.take (g + 1)) = totS t (l.take g) + t l[g] := by
  unfold totS; rw [List.take_succ_eq_append_getElem h, List.map_append, List.sum_append]; rfl
theorem totS_le {α : Type} {t : α → Nat} {l : List α} {g : Nat} : totS t (l.take g) ≤ totS t l := by
  have : totS t l = totS t (l.take g) + totS t (l.drop g) := by
    rw [totS, totS, totS, ← List.sum_append, ← List.map_append, List.take_append_drop]
  omega
theorem totS_all {α : Type} {t : α → Nat} {l : List α} {g : Nat} (h : l.length ≤ g) : totS t (l.take g) = totS t l := by rw [List.take_of_length_le h]
/-- what szXS reckons of a list -/
def totL {α : Type} (t : α → Nat) (l : List α) : Nat := l.length + totS t l
theorem szS_no1 {α : Type} {t : α → Nat} {l : List α} {left : Int} (h : left - (l.length : Int) < 0) : (-1 : Int) = szR (totL t l) left := by unfold szR totL; split <;> omega
theorem szS_no2 {α : Type} {t : α → Nat} {l : List α} {left : Int} {g n : Nat} (hg : g < l.length) (hn : t l[g] = n) (h : left - ((l.length : Int) + (totS t (l.take g) : Nat)) < (n : Nat)) : (-1 : Int) = szR (totL t l) left := by
  subst hn
  have h1 := totS_le (t := t) (l := l) (g := g + 1)
  rw [totS_step hg] at h1
  unfold szR totL; split <;> omega
theorem szS_yes {α : Type} {t : α → Nat} {l : List α} {left : Int} {g : Nat} (hg : l.length ≤ g) (h : (l.length : Int) + (totS t (l.take g) : Nat) ≤ left) : left - ((l.length : Int) + (totS t (l.take g) : Nat)) = szR (totL t l) left := by
  rw [totS_all hg] at h ⊢
  unfold szR totL; split <;> omega
theorem take_rep_all {α : Type} {s : List α} {d : α} {g : Nat} (h : s.length ≤ g) : s.take g ++ List.replicate (s.length - g) d = s := by
  rw [List.take_of_length_le h, show s.length - g = 0 by omega]; simp
theorem tot_elem {α : Type} {t : α → Nat} {l : List α} {g : Nat} (h : g < l.length) : t l[g] ≤ totL t l := by
  have h1 := totS_le (t := t) (l := l) (g := g + 1)
  rw [totS_step h] at h1
  unfold totL; omega
theorem ne_of_len {α : Type} {a b : List α} [Decidable (a = b)] (h : (a.length : Int) ≠ b.length) : false = decide (a = b) := by
  symm; rw [decide_eq_false_iff_not]; intro e; subst e; exact h rfl
theorem ne_of_get {α : Type} {a b : List α} [Decidable (a = b)] {g : Nat} (ha : g < a.length) (hb : g < b.length) (h : a[g] ≠ b[g]) : false = decide (a = b) := by
  symm; rw [decide_eq_false_iff_not]; intro e; subst e; exact h rfl
theorem eq_of_take {α : Type} {a b : List α} [Decidable (a = b)] {g : Nat} (ha : a.length ≤ g) (hb : b.length ≤ g) (h : a.take g = b.take g) : true = decide (a = b) := by
  symm; rw [decide_eq_true_eq]; exact take_eq_all ha hb h
def okRules (s : List Int) (l : List (Int × Int × List Int)) : Bool := okSchema s && (decide ((l.length : Int) ≤ 4) && !l.any fun r => !okRule s r)
end Go.Proofs.YtonkkkjgdohooaaGreat

namespace Go.Proofs.YtonkkkjgdohooaaGreat
set_option linter.unusedVariables false
def bitI (b : Bool) : Int := if b then 1 else 0
def uses (log : List (Int × List Int)) (m : Int) : Int := ((log.countP fun a => decide (a.1 = m) : Nat) : Int)
def quo (l : List (Int × List Int × Int × Int × Int)) (m : Int) : Int := (l.getD m.toNat (0, [], 0, 0, 0)).2.2.2.2
def quotaBad (l : List (Int × List Int × Int × Int × Int)) (log : List (Int × List Int)) (m : Int) : Bool := !inR m 0 ((l.length : Int) - 1) || decide (quo l m < uses log m)
def okQuota (l : List (Int × List Int × Int × Int × Int)) (log : List (Int × List Int)) : Bool := !log.any fun a => quotaBad l log a.1
end Go.Proofs.YtonkkkjgdohooaaGreat

namespace Go.Proofs.YtonkkkjgdohooaaGreat
set_option linter.unusedVariables false
set_option linter.unusedSimpArgs false
def mkL {α : Type} (c : α → Nat) (m : α → Int → α) : List α → Int → List α
  | [], _ => []
  | x :: xs, k => m x k :: mkL c m xs (k + (c x : Nat))
section
variable {α : Type} {c : α → Nat} {m : α → Int → α}
end
def cE_I (_ : Int) : Nat := 1
def mE_I (_ : Int) (k : Int) : Int := k
theorem totS_I : ∀ {l : List Int}, totS cE_I l = l.length
  | [] => rfl
  | x :: l => by have h := totS_I (l := l); simp only [totS, List.map_cons, List.sum_cons, List.length_cons] at h ⊢; rw [h]; simp [cE_I]; omega
def cE_Is (x : List Int) : Nat := totS cE_I x
def mE_Is (x : List Int) (k : Int) : List Int := mkL cE_I mE_I x k
def cE_Fact (x : Int × List Int) : Nat := 1 + totS cE_I x.2
def mE_Fact (x : Int × List Int) (k : Int) : Int × List Int := ((k), mkL cE_I mE_I x.2 (k + 1))
def cE_Facts (x : List (Int × List Int)) : Nat := totS cE_Fact x
def mE_Facts (x : List (Int × List Int)) (k : Int) : List (Int × List Int) := mkL cE_Fact mE_Fact x k
def cE_Atom (x : Int × List Int) : Nat := 1 + totS cE_I x.2
def mE_Atom (x : Int × List Int) (k : Int) : Int × List Int := ((k), mkL cE_I mE_I x.2 (k + 1))
def cE_Atoms (x : List (Int × List Int)) : Nat := totS cE_Atom x
def mE_Atoms (x : List (Int × List Int)) (k : Int) : List (Int × List Int) := mkL cE_Atom mE_Atom x k
def cE_Access (x : Int × List Int) : Nat := 1 + totS cE_I x.2
def mE_Access (x : Int × List Int) (k : Int) : Int × List Int := ((k), mkL cE_I mE_I x.2 (k + 1))
def cE_Accesss (x : List (Int × List Int)) : Nat := totS cE_Access x
def mE_Accesss (x : List (Int × List Int)) (k : Int) : List (Int × List Int) := mkL cE_Access mE_Access x k
def cE_Step (x : Int × Int) : Nat := 1 + 1
def mE_Step (x : Int × Int) (k : Int) : Int × Int := ((k), (k + 1))
def cE_Steps (x : List (Int × Int)) : Nat := totS cE_Step x
def mE_Steps (x : List (Int × Int)) (k : Int) : List (Int × Int) := mkL cE_Step mE_Step x k
def cE_Query (x : List Int × List (Int × List Int)) : Nat := totS cE_I x.1 + totS cE_Atom x.2
def mE_Query (x : List Int × List (Int × List Int)) (k : Int) : List Int × List (Int × List Int) := (mkL cE_I mE_I x.1 (k), mkL cE_Atom mE_Atom x.2 (k + (totS cE_I x.1 : Nat)))
def cE_Querys (x : List (List Int × List (Int × List Int))) : Nat := totS cE_Query x
def mE_Querys (x : List (List Int × List (Int × List Int))) (k : Int) : List (List Int × List (Int × List Int)) := mkL cE_Query mE_Query x k
def cE_Binding (x : List Int × List Int) : Nat := totS cE_I x.1 + totS cE_I x.2
def mE_Binding (x : List Int × List Int) (k : Int) : List Int × List Int := (mkL cE_I mE_I x.1 (k), mkL cE_I mE_I x.2 (k + (totS cE_I x.1 : Nat)))
def cE_Bindings (x : List (List Int × List Int)) : Nat := totS cE_Binding x
def mE_Bindings (x : List (List Int × List Int)) (k : Int) : List (List Int × List Int) := mkL cE_Binding mE_Binding x k
def cE_Method (x : Int × List Int × Int × Int × Int) : Nat := 1 + totS cE_I x.2.1 + 1 + 1 + 1
def mE_Method (x : Int × List Int × Int × Int × Int) (k : Int) : Int × List Int × Int × Int × Int := ((k), mkL cE_I mE_I x.2.1 (k + 1), (k + 1 + (totS cE_I x.2.1 : Nat)), (k + 1 + (totS cE_I x.2.1 : Nat) + 1), (k + 1 + (totS cE_I x.2.1 : Nat) + 1 + 1))
def cE_Methods (x : List (Int × List Int × Int × Int × Int)) : Nat := totS cE_Method x
def mE_Methods (x : List (Int × List Int × Int × Int × Int)) (k : Int) : List (Int × List Int × Int × Int × Int) := mkL cE_Method mE_Method x k
def cE_Rule (x : Int × Int × List Int) : Nat := 1 + 1 + totS cE_I x.2.2
def mE_Rule (x : Int × Int × List Int) (k : Int) : Int × Int × List Int := ((k), (k + 1), mkL cE_I mE_I x.2.2 (k + 1 + 1))
def cE_Rules (x : List (Int × Int × List Int)) : Nat := totS cE_Rule x
def mE_Rules (x : List (Int × Int × List Int)) (k : Int) : List (Int × Int × List Int) := mkL cE_Rule mE_Rule x k
def cE_Guarded (x : (List Int × List (Int × List Int)) × List (Int × List Int)) : Nat := totS cE_I x.1.1 + totS cE_Atom x.1.2 + totS cE_Atom x.2
def mE_Guarded (x : (List Int × List (Int × List Int)) × List (Int × List Int)) (k : Int) : (List Int × List (Int × List Int)) × List (Int × List Int) := ((mkL cE_I mE_I x.1.1 (k), mkL cE_Atom mE_Atom x.1.2 (k + (totS cE_I x.1.1 : Nat))), mkL cE_Atom mE_Atom x.2 (k + (totS cE_I x.1.1 : Nat) + (totS cE_Atom x.1.2 : Nat)))
def cE_Guardeds (x : List ((List Int × List (Int × List Int)) × List (Int × List Int))) : Nat := totS cE_Guarded x
def mE_Guardeds (x : List ((List Int × List (Int × List Int)) × List (Int × List Int))) (k : Int) : List ((List Int × List (Int × List Int)) × List (Int × List Int)) := mkL cE_Guarded mE_Guarded x k
def cE_Line (x : Int × (Int × List Int) × Int × List Int) : Nat := 1 + 1 + totS cE_I x.2.1.2 + 1 + totS cE_I x.2.2.2
def mE_Line (x : Int × (Int × List Int) × Int × List Int) (k : Int) : Int × (Int × List Int) × Int × List Int := ((k), ((k + 1), mkL cE_I mE_I x.2.1.2 (k + 1 + 1)), ((k + 1 + 1 + (totS cE_I x.2.1.2 : Nat)), mkL cE_I mE_I x.2.2.2 (k + 1 + 1 + (totS cE_I x.2.1.2 : Nat) + 1)))
def cE_Lines (x : List (Int × (Int × List Int) × Int × List Int)) : Nat := totS cE_Line x
def mE_Lines (x : List (Int × (Int × List Int) × Int × List Int)) (k : Int) : List (Int × (Int × List Int) × Int × List Int) := mkL cE_Line mE_Line x k
def cE_Proof (x : List (Int × (Int × List Int) × Int × List Int)) : Nat := totS cE_Line x
def mE_Proof (x : List (Int × (Int × List Int) × Int × List Int)) (k : Int) : List (Int × (Int × List Int) × Int × List Int) := (mkL cE_Line mE_Line x (k))
def cE_Proofs (x : List (List (Int × (Int × List Int) × Int × List Int))) : Nat := totS cE_Proof x
def mE_Proofs (x : List (List (Int × (Int × List Int) × Int × List Int))) (k : Int) : List (List (Int × (Int × List Int) × Int × List Int)) := mkL cE_Proof mE_Proof x k
def cE_Reached (x : (List (Int × List Int)) × List Int × (List (Int × List Int)) × Int) : Nat := totS cE_Fact x.1 + totS cE_I x.2.1 + totS cE_Access x.2.2.1 + 1
def mE_Reached (x : (List (Int × List Int)) × List Int × (List (Int × List Int)) × Int) (k : Int) : (List (Int × List Int)) × List Int × (List (Int × List Int)) × Int := (mkL cE_Fact mE_Fact x.1 (k), mkL cE_I mE_I x.2.1 (k + (totS cE_Fact x.1 : Nat)), mkL cE_Access mE_Access x.2.2.1 (k + (totS cE_Fact x.1 : Nat) + (totS cE_I x.2.1 : Nat)), (k + (totS cE_Fact x.1 : Nat) + (totS cE_I x.2.1 : Nat) + (totS cE_Access x.2.2.1 : Nat)))
def cE_Reacheds (x : List ((List (Int × List Int)) × List Int × (List (Int × List Int)) × Int)) : Nat := totS cE_Reached x
def mE_Reacheds (x : List ((List (Int × List Int)) × List Int × (List (Int × List Int)) × Int)) (k : Int) : List ((List (Int × List Int)) × List Int × (List (Int × List Int)) × Int) := mkL cE_Reached mE_Reached x k
def cE_Certificate (x : (List (Int × List Int)) × (List (Int × List Int)) × List Int) : Nat := totS cE_Fact x.1 + totS cE_Fact x.2.1 + totS cE_I x.2.2
def mE_Certificate (x : (List (Int × List Int)) × (List (Int × List Int)) × List Int) (k : Int) : (List (Int × List Int)) × (List (Int × List Int)) × List Int := (mkL cE_Fact mE_Fact x.1 (k), mkL cE_Fact mE_Fact x.2.1 (k + (totS cE_Fact x.1 : Nat)), mkL cE_I mE_I x.2.2 (k + (totS cE_Fact x.1 : Nat) + (totS cE_Fact x.2.1 : Nat)))
def cE_Certificates (x : List ((List (Int × List Int)) × (List (Int × List Int)) × List Int)) : Nat := totS cE_Certificate x
def mE_Certificates (x : List ((List (Int × List Int)) × (List (Int × List Int)) × List Int)) (k : Int) : List ((List (Int × List Int)) × (List (Int × List Int)) × List Int) := mkL cE_Certificate mE_Certificate x k
end Go.Proofs.YtonkkkjgdohooaaGreat

namespace Go.Proofs.YtonkkkjgdohooaaGreat
set_option linter.unusedVariables false
def okVals (l : List Int) : Bool := !l.any fun n => !inR n 0 9
def okFact (s : List Int) (f : Int × List Int) : Bool := okRel s f.1 && (decide ((f.2.length : Int) = at0 s f.1) && okVals f.2)
theorem okFact_no1 {s : List Int} {f : Int × List Int} (h : okRel s f.1 = false) : false = okFact s f := by simp [okFact, h]
theorem okFact_no2 {s : List Int} {f : Int × List Int} {k : Int} (e : at0 s f.1 = k) (h : (f.2.length : Int) ≠ k) : false = okFact s f := by simp [okFact, e, h]
theorem okFact_no3 {s : List Int} {f : Int × List Int} (h : okVals f.2 = false) : false = okFact s f := by simp [okFact, h]
theorem okFact_is {s : List Int} {f : Int × List Int} {k : Int} (h : okRel s f.1 = true) (e : at0 s f.1 = k) (h2 : (f.2.length : Int) = k) : okVals f.2 = okFact s f := by simp [okFact, h, e, h2]
/-- a rule's positions lie in a fact of its relation -/
theorem rule_fact {s : List Int} {r : Int × Int × List Int} {f : Int × List Int} (h1 : okRule s r = true) (h2 : okFact s f = true) (e : f.1 = r.1) : ∀ x ∈ r.2.2, 0 ≤ x ∧ x < f.2.length := by
  simp only [okRule, okFact, okPos, Bool.and_eq_true, decide_eq_true_eq, Bool.not_eq_true', List.any_eq_false] at h1 h2
  intro x hx
  have h3 := h1.2.2.2 x hx
  have h4 := h2.2.1
  rw [e] at h4
  simp [inR] at h3
  omega
def impB (s : List Int) (r : Int × Int × List Int) (f : Int × List Int) : Bool := okRule s r && (okFact s f && decide (f.1 = r.1))
def vals (m : List Int) (v : List Int) : List Int := m.map (at0 v)
theorem vals_step {m v : List Int} {g : Nat} (h : g < m.length) (h2 : m[g].toNat < v.length) : vals (m.take g) v ++ [v[m[g].toNat]] = vals (m.take (g + 1)) v := by
  rw [List.take_succ_eq_append_getElem h, vals, vals, List.map_append]
  simp [at0_get h2]
theorem vals_len {m v : List Int} : (vals m v).length = m.length := by simp [vals]
theorem vals_all {m v : List Int} {g : Nat} (h : m.length ≤ g) : vals (m.take g) v = vals m v := by rw [List.take_of_length_le h]
def impR (s : List Int) (r : Int × Int × List Int) (f : Int × List Int) : Int := cond (impB s r f) r.2.1 0
def impV (s : List Int) (r : Int × Int × List Int) (f : Int × List Int) : List Int := cond (impB s r f) (vals r.2.2 f.2) []
theorem rule_len {s : List Int} {r : Int × Int × List Int} (h : okRule s r = true) : r.2.2.length ≤ 3 := by
  simp only [okRule, Bool.and_eq_true, decide_eq_true_eq] at h
  have := okRel_lt h.2.1
  simp only [at0] at h; omega
theorem totS_lin {α : Type} {c t : α → Nat} {n : Nat} (h : ∀ x, c x ≤ n + t x) : ∀ {l : List α}, totS c l ≤ n * l.length + totS t l
  | [] => by simp [totS]
  | x :: l => by
    have h1 := totS_lin h (l := l)
    have h2 := h x
    simp only [totS, List.map_cons, List.sum_cons, List.length_cons, Nat.mul_add, Nat.mul_one] at h1 ⊢; omega
end Go.Proofs.YtonkkkjgdohooaaGreat

namespace Go.Proofs.YtonkkkjgdohooaaGreat
set_option linter.unusedVariables false
/-- the value of a term under a binding -/
def valO (b : List Int × List Int) (t : Int) : Int :=
  if inR t 10 17 then (let i := idxP (fun x => decide (x = t)) (b.1.take (min b.1.length b.2.length)); if i < 0 then -1 else at0 b.2 i) else t
theorem valO_no {b : List Int × List Int} {t : Int} (h : inR t 10 17 = false) : t = valO b t := by simp [valO, h]
theorem valO_neg {b : List Int × List Int} {t : Int} (h : inR t 10 17 = true) (h2 : idxP (fun x => decide (x = t)) (b.1.take (min b.1.length b.2.length)) < 0) : -1 = valO b t := by simp only [valO, h, if_true, if_pos h2]
theorem idx_lt {α : Type} {p : α → Bool} {s : List α} (h : ¬ idxP p s < 0) : 0 ≤ idxP p s ∧ (idxP p s).toNat < s.length := by
  unfold idxP at *
  by_cases q : s.any p = true
  · rw [if_pos q] at h ⊢
    have := List.findIdx_lt_length.2 (List.any_eq_true.1 q)
    omega
  · rw [if_neg q] at h; omega
theorem valO_pos {b : List Int × List Int} {t : Int} (h : inR t 10 17 = true) (h2 : ¬ idxP (fun x => decide (x = t)) (b.1.take (min b.1.length b.2.length)) < 0) (h3 : (idxP (fun x => decide (x = t)) (b.1.take (min b.1.length b.2.length))).toNat < b.2.length) :
    b.2[(idxP (fun x => decide (x = t)) (b.1.take (min b.1.length b.2.length))).toNat] = valO b t := by
  simp only [valO, h, if_true, if_neg h2, at0_get h3]
theorem valO_hit {b : List Int × List Int} {t : Int} {g : Nat} (h : inR t 10 17 = true) (h1 : g < b.1.length) (h2 : g < b.2.length) (e : b.1[g] = t) (pa : ∀ x ∈ b.1.take g, decide (x = t) = false) : b.2[g] = valO b t := by
  have h3 : g < (b.1.take (min b.1.length b.2.length)).length := by simp; omega
  have hi := idxP_hit (p := fun x => decide (x = t)) h3 (by rw [List.take_take, Nat.min_eq_left (by omega)]; exact pa) (by simp [e])
  have h4 : ¬ ((g : Nat) : Int) < 0 := by omega
  simp only [valO, h, if_true, ← hi, if_neg h4, at0_get (i := (g : Int)) (s := b.2) (by simpa using h2)]
  rfl
theorem valO_miss {b : List Int × List Int} {t : Int} {g : Nat} (h : inR t 10 17 = true) (h1 : ¬ (g < b.1.length ∧ g < b.2.length)) (pa : ∀ x ∈ b.1.take g, decide (x = t) = false) : -1 = valO b t := by
  refine valO_neg h ?_
  rw [← idxP_miss (p := fun x => decide (x = t)) (s := b.1.take (min b.1.length b.2.length)) (k := min b.1.length b.2.length) (by simp) ?_]
  · omega
  · intro x hx
    rw [List.take_take, Nat.min_self] at hx
    refine pa x ?_
    rw [List.mem_take_iff_getElem] at hx ⊢
    obtain ⟨i, hi, rfl⟩ := hx
    exact ⟨i, by omega, rfl⟩
theorem valO_i64 {b : List Int × List Int} {t : Int} (h : I64 t) (hb : ∀ x ∈ b.2, I64 x) : I64 (valO b t) := by
  simp only [valO]
  split
  · split
    · exact ⟨by decide, by decide⟩
    · unfold at0
      rcases Nat.lt_or_ge (idxP (fun x => decide (x = t)) (b.1.take (min b.1.length b.2.length))).toNat b.2.length with h1 | h1
      · rw [getD_get h1]; exact hb _ (List.getElem_mem h1)
      · have : b.2.getD (idxP (fun x => decide (x = t)) (b.1.take (min b.1.length b.2.length))).toNat 0 = 0 := by simp [List.getD, List.getElem?_eq_none h1]
        rw [this]; exact ⟨by decide, by decide⟩
  · exact h
theorem valO_i64s {b : List Int × List Int} {l : List Int} (h : ∀ x ∈ l, I64 x) (h1 : ∀ x ∈ b.1, I64 x) (h2 : ∀ x ∈ b.2, I64 x) : ∀ x ∈ l, I64 (valO b x) := fun x hx => valO_i64 (h x hx) h2
end Go.Proofs.YtonkkkjgdohooaaGreat

namespace Go.Proofs.YtonkkkjgdohooaaGreat
set_option linter.unusedVariables false
def pick {α : Type} (p : Nat → Bool) : List α → Nat → List α
  | [], _ => []
  | x :: xs, i => if p i then x :: pick p xs (i + 1) else pick p xs (i + 1)
def bitOf (mask : Int) (i : Nat) : Bool := decide (0 < mask) && decide (andI (mask / 2 ^ i) 1 = 1)
def chosen (l : List (Int × Int × List Int)) (mask : Int) : List (Int × Int × List Int) := pick (bitOf mask) (l.take 20) 0
/-- append([]T{}, t...) with a t that is only read: a list of its own, and nothing else turns -/
theorem N.pushR0 {P : Program} {Q : Exit → Act → World → Prop} {n : Nat} {w0 : World} {L0 : List Nat} {fr : Fr} {H : List HP} {d : Nat} {ty : TypeId} {pos : String} {af : Array Edge} {g : Option (Nat × Bool)} {α : Type} {E : Enc α} {T e e2 : TypeId} {agg : Bool} {k m2 : Nat} {z : List Value} {by' : Nat} {x y : Operand} {ad a2 : Option Addr} {c2 : Nat} {ys : List α} (hE : Plain E) (hT : P.underlying T = some (.slice e)) (ht : TyOk P e agg k z by') (hk : k = E.k)
    (hx : ev fr x = some (.slice ad 0 0)) (hy : ev fr y = some (.slice a2 m2 c2)) (hr : Ro w0 L0 (Enc.sl e2 E) [.slice a2 m2 c2] ys) (h63 : m2 ≤ 9223372036854775807) (hbytes : m2 * by' ≤ 140737488355328) (hd : d < n) :
    Nop P Q n w0 L0 fr H ⟨some d, .call ⟨.builtin .append, #[x, y], #[T, T]⟩, ty, pos, af, g⟩ true (κ := Option Addr × Nat) (fun p => (d, .slice p.1 m2 p.2) :: fr) (fun p => ow (Enc.sl e E) [.slice p.1 m2 p.2] ys :: H) (fun _ => True) := fun K hK a w ha hw => by
  subst hk
  obtain ⟨ccs, ⟨Lc, h1⟩, h2, h3⟩ := hr.src
  have hsrc : (m2 = 0 ∧ ccs = []) ∨ ∃ b o, a2 = some ⟨b, o, none⟩ ∧ CellsAt w b o ccs := by
    rcases h3 H with h | ⟨b, o, k1, k2⟩
    · exact .inl h
    · exact .inr ⟨b, o, k1, k2 w hw⟩
  have hy1 : Elems E w ccs ys [] true := (hE.elems h1).stable (by simp)
  have hm2 := hr.slen.1
  obtain ⟨a', c', w', L1', r1, r2, r3, r4, -⟩ := run_append_any (P := P) (ty := ty) (c2 := c2) hT ht E.pos (show (row e E.k ad 0 0 []).holds w [] from ⟨by simp, .inl ⟨rfl, rfl, rfl⟩⟩) hsrc (by rw [hy1.len, hm2]) hy1.one (by rw [Nat.zero_add]; exact h63) (by rw [Nat.zero_add]; exact hbytes)
  obtain ⟨L, hs, hn, hst⟩ := id hw
  obtain ⟨d1, d2, d3⟩ := grow_core (xs := ([] : List α)) (m := 0) rfl hm2 (by rw [Nat.zero_add]; exact h63) ⟨rfl, rfl⟩ hy1 (by simp) r2 r3 r4
  obtain ⟨k1, k2, k3⟩ := Step.call (Lp := []) (Lr := L) (by simpa using hst) (by simpa using hn) hs.inh (by simpa using d3) d2
  have hrun : (execOp a.eval ⟨some d, .call ⟨.builtin .append, #[x, y], #[T, T]⟩, ty, pos, af, g⟩).run P w = .ok (.value (.slice a' (0 + m2) c')) w' := by
    simp only [execOp, resolve, ha.ev hx, ha.ev hy, List.map_toArray, List.map_cons, List.map_nil, Sem.run_bind, Sem.run_pure, Result.andThen_ok, invoke, builtin, r1]
  simp only [Nat.zero_add, List.nil_append] at d1 hrun
  rw [Oper.wp, hrun]
  exact hK (a', c') trivial w _ _ (ha.put hd _) ⟨_, ⟨_, L, rfl, d1, hs.stable k3⟩, k2, k1⟩ (fun _ => r4.below)
end Go.Proofs.YtonkkkjgdohooaaGreat
