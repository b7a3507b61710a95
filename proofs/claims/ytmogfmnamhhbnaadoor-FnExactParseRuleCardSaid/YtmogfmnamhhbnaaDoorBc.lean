/- Plain definitions: what the document's first functions compute, over lists of numbers. No program in sight. -/
import Derived.Test.YtmogfmnamhhbnaaDoorBb
namespace Go.Proofs.YtmogfmnamhhbnaaDoor
set_option linter.unusedVariables false
def inR (n lo hi : Int) : Bool := decide (lo ≤ n ∧ n ≤ hi)
/-- slices.IndexFunc -/
def idxP {α : Type} (p : α → Bool) (s : List α) : Int := if s.any p then (s.findIdx p : Int) else -1
theorem idxP_hit {α : Type} {p : α → Bool} {s : List α} {k : Nat} (hk : k < s.length) (h : ∀ x ∈ s.take k, p x = false) (hp : p s[k] = true) : (k : Int) = idxP p s := by
  have h1 : s.any p = true := List.any_eq_true.2 ⟨_, List.getElem_mem hk, hp⟩
  have h2 : s.findIdx p = k := by
    rw [List.findIdx_eq hk]
    refine ⟨hp, fun j hj => h _ ?_⟩
    rw [List.mem_take_iff_getElem]
    exact ⟨j, by omega, rfl⟩
  rw [idxP, if_pos h1, h2]
theorem idxP_miss {α : Type} {p : α → Bool} {s : List α} {k : Nat} (hk : ¬ k < s.length) (h : ∀ x ∈ s.take k, p x = false) : (-1 : Int) = idxP p s := by
  rw [List.take_of_length_le (by omega)] at h
  have : ¬ s.any p = true := fun h' => by
    obtain ⟨x, hx, hp⟩ := List.any_eq_true.1 h'
    rw [h x hx] at hp; cases hp
  rw [idxP, if_neg this]
theorem idxP_nonneg {α : Type} {p : α → Bool} {s : List α} : decide (0 ≤ idxP p s) = s.any p := by
  unfold idxP; split <;> simp_all
theorem take_step {α : Type} {p : α → Bool} {s : List α} {k : Nat} (hk : k < s.length) (h : ∀ x ∈ s.take k, p x = false) (hp : p s[k] = false) : ∀ x ∈ s.take (k + 1), p x = false := by
  intro x hx
  rw [List.take_succ_eq_append_getElem hk] at hx
  rcases List.mem_append.1 hx with hx | hx
  · exact h x hx
  · simp at hx; subst hx; exact hp
theorem any_hit {α : Type} {p : α → Bool} {s : List α} {k : Nat} (hk : k < s.length) (hp : p s[k] = true) : s.any p = true := List.any_eq_true.2 ⟨_, List.getElem_mem hk, hp⟩
theorem any_miss {α : Type} {p : α → Bool} {s : List α} {k : Nat} (hk : ¬ k < s.length) (h : ∀ x ∈ s.take k, p x = false) : s.any p = false := by
  rw [List.take_of_length_le (by omega)] at h
  rw [← Bool.not_eq_true]
  intro h'
  obtain ⟨x, hx, hp⟩ := List.any_eq_true.1 h'
  rw [h x hx] at hp; cases hp
def okSchema (s : List Int) : Bool := inR (s.length : Int) 1 3 && !s.any fun n => !inR n 1 3
def okRel (s : List Int) (rel : Int) : Bool := okSchema s && inR rel 0 ((s.length : Int) - 1)
def okPos (l : List Int) (arity : Int) : Bool := !l.any fun i => !inR i 0 (arity - 1)
def at0 (s : List Int) (i : Int) : Int := s.getD i.toNat 0
def okRule (s : List Int) (r : Int × Int × List Int) : Bool := okRel s r.1 && (okRel s r.2.1 && (decide ((r.2.2.length : Int) = at0 s r.2.1) && okPos r.2.2 (at0 s r.1)))
theorem getD_get {α : Type} {s : List α} {i : Nat} {d : α} (h : i < s.length) : s.getD i d = s[i] := by simp [List.getD, h]
theorem okRel_lt {s : List Int} {i : Int} (h : okRel s i = true) : 0 ≤ i ∧ i < s.length ∧ 1 ≤ s.getD i.toNat 0 ∧ s.getD i.toNat 0 ≤ 3 := by
  simp only [okRel, okSchema, inR, Bool.and_eq_true, decide_eq_true_eq, Bool.not_eq_true', List.any_eq_false] at h
  obtain ⟨⟨_, h1⟩, h2, h3⟩ := h
  have h5 : i.toNat < s.length := by omega
  have h4 := h1 s[i.toNat] (List.getElem_mem h5)
  rw [getD_get h5]
  simp at h4
  omega
theorem at0_get {s : List Int} {i : Int} (h : i.toNat < s.length) : at0 s i = s[i.toNat] := by simp [at0, h]
def szR (t : Nat) (left : Int) : Int := if (t : Int) ≤ left then left - t else -1
theorem szR_bad {t : Nat} {l : Int} (h : szR t l < 0) (hl : 0 ≤ l) : l < t := by unfold szR at h; split at h <;> omega
theorem szR_ok {t : Nat} {l : Int} (h : ¬ szR t l < 0) (hl : 0 ≤ l) : szR t l = l - t ∧ (t : Int) ≤ l := by unfold szR at h ⊢; split at h <;> simp_all
theorem take_eq_step {α : Type} {a b : List α} {g : Nat} (ha : g < a.length) (hb : g < b.length) (h : a.take g = b.take g) (he : a[g] = b[g]) : a.take (g + 1) = b.take (g + 1) := by
  rw [List.take_succ_eq_append_getElem ha, List.take_succ_eq_append_getElem hb, h, he]
theorem take_eq_all {α : Type} {a b : List α} {g : Nat} (ha : a.length ≤ g) (hb : b.length ≤ g) (h : a.take g = b.take g) : a = b := by
  rwa [List.take_of_length_le ha, List.take_of_length_le hb] at h
theorem okRule_no1 {s : List Int} {r : Int × Int × List Int} (h : okRel s r.1 = false) : false = okRule s r := by simp [okRule, h]
theorem okRule_no2 {s : List Int} {r : Int × Int × List Int} (h : okRel s r.2.1 = false) : false = okRule s r := by simp [okRule, h]
theorem okRule_no3 {s : List Int} {r : Int × Int × List Int} {k : Int} (e : at0 s r.2.1 = k) (h : (r.2.2.length : Int) ≠ k) : false = okRule s r := by simp [okRule, e, h]
theorem okRule_no4 {s : List Int} {r : Int × Int × List Int} {k : Int} (e : at0 s r.1 = k) (h : okPos r.2.2 k = false) : false = okRule s r := by simp [okRule, e, h]
theorem okRule_yes {s : List Int} {r : Int × Int × List Int} {k l : Int} (h1 : okRel s r.1 = true) (h2 : okRel s r.2.1 = true) (e : at0 s r.1 = k) (e2 : at0 s r.2.1 = l) (h : (r.2.2.length : Int) = l) (h4 : okPos r.2.2 k = true) : true = okRule s r := by simp [okRule, h1, h2, e, e2, h, h4]
theorem okRel_no {s : List Int} {r : Int} (h : inR r 0 ((s.length : Int) - 1) = false) : okRel s r = false := by simp [okRel, h]
theorem okRel_no0 {s : List Int} {r : Int} (h : okSchema s = false) : okRel s r = false := by simp [okRel, h]
theorem frI {a b : Int} (h : a = b) : some (Value.int .i64 a) = some (Value.int .i64 b) := by rw [h]
/-- the sum of t over a list, one for each element beside it -/
def totS {α : Type} (t : α → Nat) (l : List α) : Nat := (l.map t).sum
theorem totS_nil {α : Type} {t : α → Nat} : totS t [] = 0 := rfl
theorem totS_step {α : Type} {t : α → Nat} {l : List α} {g : Nat} (h : g < l.length) : totS t (l.take (g + 1)) = totS t (l.take g) + t l[g] := by
  unfold totS; rw [List.take_succ_eq_append_getElem h, List.map_append, List.sum_append]; rfl
theorem totS_le {α : Type} {t : α → Nat} {l : List α} {g : Nat} : totS t (l.take g) ≤ totS t l := by
  have : totS t l = totS t (l.take g) + totS t (l.drop g) := by
    rw [totS, totS, totS, ← List.sum_append, ← List.map_append, List.take_append_drop]
  omega
theorem totS_all {α : Type} {t : α → Nat} {l : List α} {g : Nat} (h : l.length ≤ g) : totS t (l.take g) = totS t l := by rw [List.take_of_length_le h]
/-- what szXS reckons of a list -/
def totL {α : Type} (t : α → Nat) (l : List α) : Nat := l.length + totS t l
theorem szS_no1 {α : Type} {t : α → Nat} {l : List α} {left : Int} (h : left - (l.length : Int) < 0) : (-1 : Int) = szR (totL t l) left := by unfold szR totL; split <;> omega
theorem szS_no2 {α : Type} {t : α → Nat} {l : List α} {left : Int} {g n : Nat} (hg : g < l.length) (hn : t l[g] = n) (h : left - ((l.length : Int) + (totS t (l.take g) : Nat)) < (n : Nat)) : (-1 : Int) = szR (totL t l) left := by
  subst hn
  have h1 := totS_le (t := t) (l := l) (g := g + 1)
  rw [totS_step hg] at h1
  unfold szR totL; split <;> omega
theorem szS_yes {α : Type} {t : α → Nat} {l : List α} {left : Int} {g : Nat} (hg : l.length ≤ g) (h : (l.length : Int) + (totS t (l.take g) : Nat) ≤ left) : left - ((l.length : Int) + (totS t (l.take g) : Nat)) = szR (totL t l) left := by
  rw [totS_all hg] at h ⊢
  unfold szR totL; split <;> omega
theorem set_takeS {α : Type} {s : List α} {d x : α} {g n : Nat} (h : g < s.length) (hn : n = s.length) (hx : x = s[g]) : (s.take g ++ List.replicate (n - g) d).set g x = s.take (g + 1) ++ List.replicate (n - (g + 1)) d := by
  subst hx; exact set_take h hn
theorem take_rep_all {α : Type} {s : List α} {d : α} {g : Nat} (h : s.length ≤ g) : s.take g ++ List.replicate (s.length - g) d = s := by
  rw [List.take_of_length_le h, show s.length - g = 0 by omega]; simp
theorem tot_elem {α : Type} {t : α → Nat} {l : List α} {g : Nat} (h : g < l.length) : t l[g] ≤ totL t l := by
  have h1 := totS_le (t := t) (l := l) (g := g + 1)
  rw [totS_step h] at h1
  unfold totL; omega
theorem ne_of_len {α : Type} {a b : List α} [Decidable (a = b)] (h : (a.length : Int) ≠ b.length) : false = decide (a = b) := by
  symm; rw [decide_eq_false_iff_not]; intro e; subst e; exact h rfl
theorem ne_of_get {α : Type} {a b : List α} [Decidable (a = b)] {g : Nat} (ha : g < a.length) (hb : g < b.length) (h : a[g] ≠ b[g]) : false = decide (a = b) := by
  symm; rw [decide_eq_false_iff_not]; intro e; subst e; exact h rfl
theorem eq_of_take {α : Type} {a b : List α} [Decidable (a = b)] {g : Nat} (ha : a.length ≤ g) (hb : b.length ≤ g) (h : a.take g = b.take g) : true = decide (a = b) := by
  symm; rw [decide_eq_true_eq]; exact take_eq_all ha hb h
def okRules (s : List Int) (l : List (Int × Int × List Int)) : Bool := okSchema s && (decide ((l.length : Int) ≤ 4) && !l.any fun r => !okRule s r)
end Go.Proofs.YtmogfmnamhhbnaaDoor

namespace Go.Proofs.YtmogfmnamhhbnaaDoor
set_option linter.unusedVariables false
def bitI (b : Bool) : Int := if b then 1 else 0
def uses (log : List (Int × List Int)) (m : Int) : Int := ((log.countP fun a => decide (a.1 = m) : Nat) : Int)
theorem uses_nil {m : Int} : uses [] m = 0 := rfl
theorem uses_step {l : List (Int × List Int)} {m : Int} {g : Nat} (h : g < l.length) : uses (l.take (g + 1)) m = uses (l.take g) m + bitI (decide (l[g].1 = m)) := by
  unfold uses bitI; rw [List.take_succ_eq_append_getElem h, List.countP_append]; by_cases e : l[g].1 = m <;> simp [e]
theorem uses_ge {l : List (Int × List Int)} {m : Int} : 0 ≤ uses l m := by unfold uses; omega
theorem uses_le {l : List (Int × List Int)} {m : Int} {g : Nat} : uses (l.take g) m ≤ g := by
  have h1 := List.countP_le_length (p := fun a : Int × List Int => decide (a.1 = m)) (l := l.take g)
  have h2 := List.length_take_le g l
  unfold uses; omega
def quo (l : List (Int × List Int × Int × Int × Int)) (m : Int) : Int := (l.getD m.toNat (0, [], 0, 0, 0)).2.2.2.2
theorem quo_get {l : List (Int × List Int × Int × Int × Int)} {m : Int} (h : m.toNat < l.length) : quo l m = l[m.toNat].2.2.2.2 := by rw [quo, getD_get h]
def quotaBad (l : List (Int × List Int × Int × Int × Int)) (log : List (Int × List Int)) (m : Int) : Bool := !inR m 0 ((l.length : Int) - 1) || decide (quo l m < uses log m)
theorem inR_true {n lo hi : Int} (h : inR n lo hi = true) : lo ≤ n ∧ n ≤ hi := by simpa [inR] using h
theorem quotaBad1 {l : List (Int × List Int × Int × Int × Int)} {log : List (Int × List Int)} {m : Int} (h : inR m 0 ((l.length : Int) - 1) = false) : quotaBad l log m = true := by simp [quotaBad, h]
theorem quotaBad2 {l : List (Int × List Int × Int × Int × Int)} {log : List (Int × List Int)} {m : Int} (h : inR m 0 ((l.length : Int) - 1) = true) {k : Int} (e : quo l m = k) : quotaBad l log m = decide (k < uses log m) := by simp [quotaBad, h, e]
def okQuota (l : List (Int × List Int × Int × Int × Int)) (log : List (Int × List Int)) : Bool := !log.any fun a => quotaBad l log a.1
end Go.Proofs.YtmogfmnamhhbnaaDoor

namespace Go.Proofs.YtmogfmnamhhbnaaDoor
set_option linter.unusedVariables false
set_option linter.unusedSimpArgs false
def mkL {α : Type} (c : α → Nat) (m : α → Int → α) : List α → Int → List α
  | [], _ => []
  | x :: xs, k => m x k :: mkL c m xs (k + (c x : Nat))
section
variable {α : Type} {c : α → Nat} {m : α → Int → α}
theorem mkL_len : ∀ {xs : List α} {k : Int}, (mkL c m xs k).length = xs.length
  | [], _ => rfl
  | _ :: xs, k => by simp [mkL, mkL_len]
theorem mkL_app : ∀ {xs ys : List α} {k : Int}, mkL c m (xs ++ ys) k = mkL c m xs k ++ mkL c m ys (k + (totS c xs : Nat))
  | [], ys, k => by simp [mkL, totS]
  | x :: xs, ys, k => by
    have h : (totS c (x :: xs) : Int) = (c x : Int) + (totS c xs : Int) := by simp [totS]
    simp [mkL, mkL_app (xs := xs), h, Int.add_assoc]
theorem mk_get {a : List α} {k : Int} {g : Nat} (h : g < a.length) : (mkL c m (a.take g) k ++ a.drop g)[g]? = some a[g] := by
  rw [List.getElem?_append_right (by rw [mkL_len]; simp; omega), mkL_len, List.length_take, Nat.min_eq_left (by omega), Nat.sub_self, List.getElem?_drop]
  simp [h]
theorem mk_set {a : List α} {k : Int} {g : Nat} {x : α} (h : g < a.length) (hx : x = m a[g] (k + (totS c (a.take g) : Nat))) : (mkL c m (a.take g) k ++ a.drop g).set g x = mkL c m (a.take (g + 1)) k ++ a.drop (g + 1) := by
  subst hx
  rw [List.take_succ_eq_append_getElem h, mkL_app, List.drop_eq_getElem_cons h]
  have hl : (mkL c m (a.take g) k).length = g := by rw [mkL_len]; simp; omega
  rw [List.set_append_right _ _ (by omega), hl, Nat.sub_self]
  simp only [List.set_cons_zero, mkL, List.append_assoc, List.singleton_append]
theorem mk_all {a : List α} {k : Int} {g : Nat} (h : a.length ≤ g) : mkL c m (a.take g) k ++ a.drop g = mkL c m a k := by
  rw [List.take_of_length_le h, List.drop_eq_nil_of_le h, List.append_nil]
theorem mkL_getq : ∀ {a : List α} {k : Int} {g : Nat} (h : g < a.length), (mkL c m a k)[g]? = some (m a[g] (k + (totS c (a.take g) : Nat)))
  | x :: xs, k, 0, _ => by simp [mkL, totS]
  | x :: xs, k, g + 1, h => by
    have h1 : g < xs.length := by simpa using h
    have e : (totS c ((x :: xs).take (g + 1)) : Int) = (c x : Int) + (totS c (xs.take g) : Int) := by simp [totS]
    simp only [mkL, List.getElem?_cons_succ, mkL_getq h1, List.getElem_cons_succ, e, Int.add_assoc]
/-- in a list that is marked each element is marked -/
theorem mkL_at {a : List α} {k : Int} {g : Nat} (hz : mkL c m a k = a) (h : g < a.length) : m a[g] (k + (totS c (a.take g) : Nat)) = a[g] := by
  have h1 := mkL_getq (c := c) (m := m) (k := k) h
  rw [hz, List.getElem?_eq_getElem h] at h1
  exact (Option.some.inj h1).symm
theorem mkL_c (hc : ∀ x k, c (m x k) = c x) : ∀ {xs : List α} {k : Int}, totS c (mkL c m xs k) = totS c xs
  | [], _ => rfl
  | x :: xs, k => by
    have h := mkL_c hc (xs := xs) (k := k + (c x : Nat))
    simp only [totS, mkL, List.map_cons, List.sum_cons, hc] at h ⊢; rw [h]
theorem mkL_mk (hc : ∀ x k, c (m x k) = c x) (hm : ∀ x k, m (m x k) k = m x k) : ∀ {xs : List α} {k : Int}, mkL c m (mkL c m xs k) k = mkL c m xs k
  | [], _ => rfl
  | x :: xs, k => by simp only [mkL, hc, hm, mkL_mk hc hm]
end
theorem permOw {α : Type} {E : Enc α} {cs : List Value} {xs ys : α} (h : xs = ys) : [ow E cs xs].Perm [ow E cs ys] := by rw [h]
def cE_I (_ : Int) : Nat := 1
def mE_I (_ : Int) (k : Int) : Int := k
theorem cm_I (x k : Int) : cE_I (mE_I x k) = cE_I x := rfl
theorem mm_I (x k : Int) : mE_I (mE_I x k) k = mE_I x k := rfl
theorem totS_I : ∀ {l : List Int}, totS cE_I l = l.length
  | [] => rfl
  | x :: l => by have h := totS_I (l := l); simp only [totS, List.map_cons, List.sum_cons, List.length_cons] at h ⊢; rw [h]; simp [cE_I]; omega
def cE_Is (x : List Int) : Nat := totS cE_I x
def mE_Is (x : List Int) (k : Int) : List Int := mkL cE_I mE_I x k
theorem cm_Is (x : List Int) (k : Int) : cE_Is (mE_Is x k) = cE_Is x := mkL_c cm_I
theorem mm_Is (x : List Int) (k : Int) : mE_Is (mE_Is x k) k = mE_Is x k := mkL_mk cm_I mm_I
def cE_Fact (x : Int × List Int) : Nat := 1 + totS cE_I x.2
def mE_Fact (x : Int × List Int) (k : Int) : Int × List Int := ((k), mkL cE_I mE_I x.2 (k + 1))
theorem cm_Fact (x : Int × List Int) (k : Int) : cE_Fact (mE_Fact x k) = cE_Fact x := by simp [cE_Fact, mE_Fact, mkL_c cm_I]
theorem mm_Fact (x : Int × List Int) (k : Int) : mE_Fact (mE_Fact x k) k = mE_Fact x k := by simp [mE_Fact, mkL_c cm_I, mkL_mk cm_I mm_I]
def cE_Facts (x : List (Int × List Int)) : Nat := totS cE_Fact x
def mE_Facts (x : List (Int × List Int)) (k : Int) : List (Int × List Int) := mkL cE_Fact mE_Fact x k
theorem cm_Facts (x : List (Int × List Int)) (k : Int) : cE_Facts (mE_Facts x k) = cE_Facts x := mkL_c cm_Fact
theorem mm_Facts (x : List (Int × List Int)) (k : Int) : mE_Facts (mE_Facts x k) k = mE_Facts x k := mkL_mk cm_Fact mm_Fact
def cE_Atom (x : Int × List Int) : Nat := 1 + totS cE_I x.2
def mE_Atom (x : Int × List Int) (k : Int) : Int × List Int := ((k), mkL cE_I mE_I x.2 (k + 1))
theorem cm_Atom (x : Int × List Int) (k : Int) : cE_Atom (mE_Atom x k) = cE_Atom x := by simp [cE_Atom, mE_Atom, mkL_c cm_I]
theorem mm_Atom (x : Int × List Int) (k : Int) : mE_Atom (mE_Atom x k) k = mE_Atom x k := by simp [mE_Atom, mkL_c cm_I, mkL_mk cm_I mm_I]
def cE_Atoms (x : List (Int × List Int)) : Nat := totS cE_Atom x
def mE_Atoms (x : List (Int × List Int)) (k : Int) : List (Int × List Int) := mkL cE_Atom mE_Atom x k
theorem cm_Atoms (x : List (Int × List Int)) (k : Int) : cE_Atoms (mE_Atoms x k) = cE_Atoms x := mkL_c cm_Atom
theorem mm_Atoms (x : List (Int × List Int)) (k : Int) : mE_Atoms (mE_Atoms x k) k = mE_Atoms x k := mkL_mk cm_Atom mm_Atom
def cE_Access (x : Int × List Int) : Nat := 1 + totS cE_I x.2
def mE_Access (x : Int × List Int) (k : Int) : Int × List Int := ((k), mkL cE_I mE_I x.2 (k + 1))
theorem cm_Access (x : Int × List Int) (k : Int) : cE_Access (mE_Access x k) = cE_Access x := by simp [cE_Access, mE_Access, mkL_c cm_I]
theorem mm_Access (x : Int × List Int) (k : Int) : mE_Access (mE_Access x k) k = mE_Access x k := by simp [mE_Access, mkL_c cm_I, mkL_mk cm_I mm_I]
def cE_Accesss (x : List (Int × List Int)) : Nat := totS cE_Access x
def mE_Accesss (x : List (Int × List Int)) (k : Int) : List (Int × List Int) := mkL cE_Access mE_Access x k
theorem cm_Accesss (x : List (Int × List Int)) (k : Int) : cE_Accesss (mE_Accesss x k) = cE_Accesss x := mkL_c cm_Access
theorem mm_Accesss (x : List (Int × List Int)) (k : Int) : mE_Accesss (mE_Accesss x k) k = mE_Accesss x k := mkL_mk cm_Access mm_Access
def cE_Step (x : Int × Int) : Nat := 1 + 1
def mE_Step (x : Int × Int) (k : Int) : Int × Int := ((k), (k + 1))
theorem cm_Step (x : Int × Int) (k : Int) : cE_Step (mE_Step x k) = cE_Step x := by simp [cE_Step, mE_Step]
theorem mm_Step (x : Int × Int) (k : Int) : mE_Step (mE_Step x k) k = mE_Step x k := by simp [mE_Step]
def cE_Steps (x : List (Int × Int)) : Nat := totS cE_Step x
def mE_Steps (x : List (Int × Int)) (k : Int) : List (Int × Int) := mkL cE_Step mE_Step x k
theorem cm_Steps (x : List (Int × Int)) (k : Int) : cE_Steps (mE_Steps x k) = cE_Steps x := mkL_c cm_Step
theorem mm_Steps (x : List (Int × Int)) (k : Int) : mE_Steps (mE_Steps x k) k = mE_Steps x k := mkL_mk cm_Step mm_Step
def cE_Query (x : List Int × List (Int × List Int)) : Nat := totS cE_I x.1 + totS cE_Atom x.2
def mE_Query (x : List Int × List (Int × List Int)) (k : Int) : List Int × List (Int × List Int) := (mkL cE_I mE_I x.1 (k), mkL cE_Atom mE_Atom x.2 (k + (totS cE_I x.1 : Nat)))
theorem cm_Query (x : List Int × List (Int × List Int)) (k : Int) : cE_Query (mE_Query x k) = cE_Query x := by simp [cE_Query, mE_Query, mkL_c cm_Atom, mkL_c cm_I]
theorem mm_Query (x : List Int × List (Int × List Int)) (k : Int) : mE_Query (mE_Query x k) k = mE_Query x k := by simp [mE_Query, mkL_c cm_Atom, mkL_c cm_I, mkL_mk cm_Atom mm_Atom, mkL_mk cm_I mm_I]
def cE_Querys (x : List (List Int × List (Int × List Int))) : Nat := totS cE_Query x
def mE_Querys (x : List (List Int × List (Int × List Int))) (k : Int) : List (List Int × List (Int × List Int)) := mkL cE_Query mE_Query x k
theorem cm_Querys (x : List (List Int × List (Int × List Int))) (k : Int) : cE_Querys (mE_Querys x k) = cE_Querys x := mkL_c cm_Query
theorem mm_Querys (x : List (List Int × List (Int × List Int))) (k : Int) : mE_Querys (mE_Querys x k) k = mE_Querys x k := mkL_mk cm_Query mm_Query
def cE_Binding (x : List Int × List Int) : Nat := totS cE_I x.1 + totS cE_I x.2
def mE_Binding (x : List Int × List Int) (k : Int) : List Int × List Int := (mkL cE_I mE_I x.1 (k), mkL cE_I mE_I x.2 (k + (totS cE_I x.1 : Nat)))
theorem cm_Binding (x : List Int × List Int) (k : Int) : cE_Binding (mE_Binding x k) = cE_Binding x := by simp [cE_Binding, mE_Binding, mkL_c cm_I]
theorem mm_Binding (x : List Int × List Int) (k : Int) : mE_Binding (mE_Binding x k) k = mE_Binding x k := by simp [mE_Binding, mkL_c cm_I, mkL_mk cm_I mm_I]
def cE_Bindings (x : List (List Int × List Int)) : Nat := totS cE_Binding x
def mE_Bindings (x : List (List Int × List Int)) (k : Int) : List (List Int × List Int) := mkL cE_Binding mE_Binding x k
theorem cm_Bindings (x : List (List Int × List Int)) (k : Int) : cE_Bindings (mE_Bindings x k) = cE_Bindings x := mkL_c cm_Binding
theorem mm_Bindings (x : List (List Int × List Int)) (k : Int) : mE_Bindings (mE_Bindings x k) k = mE_Bindings x k := mkL_mk cm_Binding mm_Binding
def cE_Method (x : Int × List Int × Int × Int × Int) : Nat := 1 + totS cE_I x.2.1 + 1 + 1 + 1
def mE_Method (x : Int × List Int × Int × Int × Int) (k : Int) : Int × List Int × Int × Int × Int := ((k), mkL cE_I mE_I x.2.1 (k + 1), (k + 1 + (totS cE_I x.2.1 : Nat)), (k + 1 + (totS cE_I x.2.1 : Nat) + 1), (k + 1 + (totS cE_I x.2.1 : Nat) + 1 + 1))
theorem cm_Method (x : Int × List Int × Int × Int × Int) (k : Int) : cE_Method (mE_Method x k) = cE_Method x := by simp [cE_Method, mE_Method, mkL_c cm_I]
theorem mm_Method (x : Int × List Int × Int × Int × Int) (k : Int) : mE_Method (mE_Method x k) k = mE_Method x k := by simp [mE_Method, mkL_c cm_I, mkL_mk cm_I mm_I]
def cE_Methods (x : List (Int × List Int × Int × Int × Int)) : Nat := totS cE_Method x
def mE_Methods (x : List (Int × List Int × Int × Int × Int)) (k : Int) : List (Int × List Int × Int × Int × Int) := mkL cE_Method mE_Method x k
theorem cm_Methods (x : List (Int × List Int × Int × Int × Int)) (k : Int) : cE_Methods (mE_Methods x k) = cE_Methods x := mkL_c cm_Method
theorem mm_Methods (x : List (Int × List Int × Int × Int × Int)) (k : Int) : mE_Methods (mE_Methods x k) k = mE_Methods x k := mkL_mk cm_Method mm_Method
def cE_Rule (x : Int × Int × List Int) : Nat := 1 + 1 + totS cE_I x.2.2
def mE_Rule (x : Int × Int × List Int) (k : Int) : Int × Int × List Int := ((k), (k + 1), mkL cE_I mE_I x.2.2 (k + 1 + 1))
theorem cm_Rule (x : Int × Int × List Int) (k : Int) : cE_Rule (mE_Rule x k) = cE_Rule x := by simp [cE_Rule, mE_Rule, mkL_c cm_I]
theorem mm_Rule (x : Int × Int × List Int) (k : Int) : mE_Rule (mE_Rule x k) k = mE_Rule x k := by simp [mE_Rule, mkL_c cm_I, mkL_mk cm_I mm_I]
def cE_Rules (x : List (Int × Int × List Int)) : Nat := totS cE_Rule x
def mE_Rules (x : List (Int × Int × List Int)) (k : Int) : List (Int × Int × List Int) := mkL cE_Rule mE_Rule x k
theorem cm_Rules (x : List (Int × Int × List Int)) (k : Int) : cE_Rules (mE_Rules x k) = cE_Rules x := mkL_c cm_Rule
theorem mm_Rules (x : List (Int × Int × List Int)) (k : Int) : mE_Rules (mE_Rules x k) k = mE_Rules x k := mkL_mk cm_Rule mm_Rule
def cE_Guarded (x : (List Int × List (Int × List Int)) × List (Int × List Int)) : Nat := totS cE_I x.1.1 + totS cE_Atom x.1.2 + totS cE_Atom x.2
def mE_Guarded (x : (List Int × List (Int × List Int)) × List (Int × List Int)) (k : Int) : (List Int × List (Int × List Int)) × List (Int × List Int) := ((mkL cE_I mE_I x.1.1 (k), mkL cE_Atom mE_Atom x.1.2 (k + (totS cE_I x.1.1 : Nat))), mkL cE_Atom mE_Atom x.2 (k + (totS cE_I x.1.1 : Nat) + (totS cE_Atom x.1.2 : Nat)))
theorem cm_Guarded (x : (List Int × List (Int × List Int)) × List (Int × List Int)) (k : Int) : cE_Guarded (mE_Guarded x k) = cE_Guarded x := by simp [cE_Guarded, mE_Guarded, mkL_c cm_Atom, mkL_c cm_I]
theorem mm_Guarded (x : (List Int × List (Int × List Int)) × List (Int × List Int)) (k : Int) : mE_Guarded (mE_Guarded x k) k = mE_Guarded x k := by simp [mE_Guarded, mkL_c cm_Atom, mkL_c cm_I, mkL_mk cm_Atom mm_Atom, mkL_mk cm_I mm_I]
def cE_Guardeds (x : List ((List Int × List (Int × List Int)) × List (Int × List Int))) : Nat := totS cE_Guarded x
def mE_Guardeds (x : List ((List Int × List (Int × List Int)) × List (Int × List Int))) (k : Int) : List ((List Int × List (Int × List Int)) × List (Int × List Int)) := mkL cE_Guarded mE_Guarded x k
theorem cm_Guardeds (x : List ((List Int × List (Int × List Int)) × List (Int × List Int))) (k : Int) : cE_Guardeds (mE_Guardeds x k) = cE_Guardeds x := mkL_c cm_Guarded
theorem mm_Guardeds (x : List ((List Int × List (Int × List Int)) × List (Int × List Int))) (k : Int) : mE_Guardeds (mE_Guardeds x k) k = mE_Guardeds x k := mkL_mk cm_Guarded mm_Guarded
def cE_Line (x : Int × (Int × List Int) × Int × List Int) : Nat := 1 + 1 + totS cE_I x.2.1.2 + 1 + totS cE_I x.2.2.2
def mE_Line (x : Int × (Int × List Int) × Int × List Int) (k : Int) : Int × (Int × List Int) × Int × List Int := ((k), ((k + 1), mkL cE_I mE_I x.2.1.2 (k + 1 + 1)), ((k + 1 + 1 + (totS cE_I x.2.1.2 : Nat)), mkL cE_I mE_I x.2.2.2 (k + 1 + 1 + (totS cE_I x.2.1.2 : Nat) + 1)))
theorem cm_Line (x : Int × (Int × List Int) × Int × List Int) (k : Int) : cE_Line (mE_Line x k) = cE_Line x := by simp [cE_Line, mE_Line, mkL_c cm_I]
theorem mm_Line (x : Int × (Int × List Int) × Int × List Int) (k : Int) : mE_Line (mE_Line x k) k = mE_Line x k := by simp [mE_Line, mkL_c cm_I, mkL_mk cm_I mm_I]
def cE_Lines (x : List (Int × (Int × List Int) × Int × List Int)) : Nat := totS cE_Line x
def mE_Lines (x : List (Int × (Int × List Int) × Int × List Int)) (k : Int) : List (Int × (Int × List Int) × Int × List Int) := mkL cE_Line mE_Line x k
theorem cm_Lines (x : List (Int × (Int × List Int) × Int × List Int)) (k : Int) : cE_Lines (mE_Lines x k) = cE_Lines x := mkL_c cm_Line
theorem mm_Lines (x : List (Int × (Int × List Int) × Int × List Int)) (k : Int) : mE_Lines (mE_Lines x k) k = mE_Lines x k := mkL_mk cm_Line mm_Line
def cE_Proof (x : List (Int × (Int × List Int) × Int × List Int)) : Nat := totS cE_Line x
def mE_Proof (x : List (Int × (Int × List Int) × Int × List Int)) (k : Int) : List (Int × (Int × List Int) × Int × List Int) := (mkL cE_Line mE_Line x (k))
theorem cm_Proof (x : List (Int × (Int × List Int) × Int × List Int)) (k : Int) : cE_Proof (mE_Proof x k) = cE_Proof x := by simp [cE_Proof, mE_Proof, mkL_c cm_Line]
theorem mm_Proof (x : List (Int × (Int × List Int) × Int × List Int)) (k : Int) : mE_Proof (mE_Proof x k) k = mE_Proof x k := by simp [mE_Proof, mkL_c cm_Line, mkL_mk cm_Line mm_Line]
def cE_Proofs (x : List (List (Int × (Int × List Int) × Int × List Int))) : Nat := totS cE_Proof x
def mE_Proofs (x : List (List (Int × (Int × List Int) × Int × List Int))) (k : Int) : List (List (Int × (Int × List Int) × Int × List Int)) := mkL cE_Proof mE_Proof x k
theorem cm_Proofs (x : List (List (Int × (Int × List Int) × Int × List Int))) (k : Int) : cE_Proofs (mE_Proofs x k) = cE_Proofs x := mkL_c cm_Proof
theorem mm_Proofs (x : List (List (Int × (Int × List Int) × Int × List Int))) (k : Int) : mE_Proofs (mE_Proofs x k) k = mE_Proofs x k := mkL_mk cm_Proof mm_Proof
def cE_Reached (x : (List (Int × List Int)) × List Int × (List (Int × List Int)) × Int) : Nat := totS cE_Fact x.1 + totS cE_I x.2.1 + totS cE_Access x.2.2.1 + 1
def mE_Reached (x : (List (Int × List Int)) × List Int × (List (Int × List Int)) × Int) (k : Int) : (List (Int × List Int)) × List Int × (List (Int × List Int)) × Int := (mkL cE_Fact mE_Fact x.1 (k), mkL cE_I mE_I x.2.1 (k + (totS cE_Fact x.1 : Nat)), mkL cE_Access mE_Access x.2.2.1 (k + (totS cE_Fact x.1 : Nat) + (totS cE_I x.2.1 : Nat)), (k + (totS cE_Fact x.1 : Nat) + (totS cE_I x.2.1 : Nat) + (totS cE_Access x.2.2.1 : Nat)))
theorem cm_Reached (x : (List (Int × List Int)) × List Int × (List (Int × List Int)) × Int) (k : Int) : cE_Reached (mE_Reached x k) = cE_Reached x := by simp [cE_Reached, mE_Reached, mkL_c cm_Access, mkL_c cm_Fact, mkL_c cm_I]
theorem mm_Reached (x : (List (Int × List Int)) × List Int × (List (Int × List Int)) × Int) (k : Int) : mE_Reached (mE_Reached x k) k = mE_Reached x k := by simp [mE_Reached, mkL_c cm_Access, mkL_c cm_Fact, mkL_c cm_I, mkL_mk cm_Access mm_Access, mkL_mk cm_Fact mm_Fact, mkL_mk cm_I mm_I]
def cE_Reacheds (x : List ((List (Int × List Int)) × List Int × (List (Int × List Int)) × Int)) : Nat := totS cE_Reached x
def mE_Reacheds (x : List ((List (Int × List Int)) × List Int × (List (Int × List Int)) × Int)) (k : Int) : List ((List (Int × List Int)) × List Int × (List (Int × List Int)) × Int) := mkL cE_Reached mE_Reached x k
theorem cm_Reacheds (x : List ((List (Int × List Int)) × List Int × (List (Int × List Int)) × Int)) (k : Int) : cE_Reacheds (mE_Reacheds x k) = cE_Reacheds x := mkL_c cm_Reached
theorem mm_Reacheds (x : List ((List (Int × List Int)) × List Int × (List (Int × List Int)) × Int)) (k : Int) : mE_Reacheds (mE_Reacheds x k) k = mE_Reacheds x k := mkL_mk cm_Reached mm_Reached
def cE_Certificate (x : (List (Int × List Int)) × (List (Int × List Int)) × List Int) : Nat := totS cE_Fact x.1 + totS cE_Fact x.2.1 + totS cE_I x.2.2
def mE_Certificate (x : (List (Int × List Int)) × (List (Int × List Int)) × List Int) (k : Int) : (List (Int × List Int)) × (List (Int × List Int)) × List Int := (mkL cE_Fact mE_Fact x.1 (k), mkL cE_Fact mE_Fact x.2.1 (k + (totS cE_Fact x.1 : Nat)), mkL cE_I mE_I x.2.2 (k + (totS cE_Fact x.1 : Nat) + (totS cE_Fact x.2.1 : Nat)))
theorem cm_Certificate (x : (List (Int × List Int)) × (List (Int × List Int)) × List Int) (k : Int) : cE_Certificate (mE_Certificate x k) = cE_Certificate x := by simp [cE_Certificate, mE_Certificate, mkL_c cm_Fact, mkL_c cm_I]
theorem mm_Certificate (x : (List (Int × List Int)) × (List (Int × List Int)) × List Int) (k : Int) : mE_Certificate (mE_Certificate x k) k = mE_Certificate x k := by simp [mE_Certificate, mkL_c cm_Fact, mkL_c cm_I, mkL_mk cm_Fact mm_Fact, mkL_mk cm_I mm_I]
def cE_Certificates (x : List ((List (Int × List Int)) × (List (Int × List Int)) × List Int)) : Nat := totS cE_Certificate x
def mE_Certificates (x : List ((List (Int × List Int)) × (List (Int × List Int)) × List Int)) (k : Int) : List ((List (Int × List Int)) × (List (Int × List Int)) × List Int) := mkL cE_Certificate mE_Certificate x k
theorem cm_Certificates (x : List ((List (Int × List Int)) × (List (Int × List Int)) × List Int)) (k : Int) : cE_Certificates (mE_Certificates x k) = cE_Certificates x := mkL_c cm_Certificate
theorem mm_Certificates (x : List ((List (Int × List Int)) × (List (Int × List Int)) × List Int)) (k : Int) : mE_Certificates (mE_Certificates x k) k = mE_Certificates x k := mkL_mk cm_Certificate mm_Certificate
end Go.Proofs.YtmogfmnamhhbnaaDoor

namespace Go.Proofs.YtmogfmnamhhbnaaDoor
set_option linter.unusedVariables false
def okVals (l : List Int) : Bool := !l.any fun n => !inR n 0 9
def okFact (s : List Int) (f : Int × List Int) : Bool := okRel s f.1 && (decide ((f.2.length : Int) = at0 s f.1) && okVals f.2)
theorem okFact_no1 {s : List Int} {f : Int × List Int} (h : okRel s f.1 = false) : false = okFact s f := by simp [okFact, h]
theorem okFact_no2 {s : List Int} {f : Int × List Int} {k : Int} (e : at0 s f.1 = k) (h : (f.2.length : Int) ≠ k) : false = okFact s f := by simp [okFact, e, h]
theorem okFact_no3 {s : List Int} {f : Int × List Int} (h : okVals f.2 = false) : false = okFact s f := by simp [okFact, h]
theorem okFact_is {s : List Int} {f : Int × List Int} {k : Int} (h : okRel s f.1 = true) (e : at0 s f.1 = k) (h2 : (f.2.length : Int) = k) : okVals f.2 = okFact s f := by simp [okFact, h, e, h2]
/-- a rule's positions lie in a fact of its relation -/
theorem rule_fact {s : List Int} {r : Int × Int × List Int} {f : Int × List Int} (h1 : okRule s r = true) (h2 : okFact s f = true) (e : f.1 = r.1) : ∀ x ∈ r.2.2, 0 ≤ x ∧ x < f.2.length := by
  simp only [okRule, okFact, okPos, Bool.and_eq_true, decide_eq_true_eq, Bool.not_eq_true', List.any_eq_false] at h1 h2
  intro x hx
  have h3 := h1.2.2.2 x hx
  have h4 := h2.2.1
  rw [e] at h4
  simp [inR] at h3
  omega
def impB (s : List Int) (r : Int × Int × List Int) (f : Int × List Int) : Bool := okRule s r && (okFact s f && decide (f.1 = r.1))
theorem impB_no1 {s : List Int} {r : Int × Int × List Int} {f : Int × List Int} (h : okRule s r = false) : impB s r f = false := by simp [impB, h]
theorem impB_no2 {s : List Int} {r : Int × Int × List Int} {f : Int × List Int} (h : okFact s f = false) : impB s r f = false := by simp [impB, h]
theorem impB_no3 {s : List Int} {r : Int × Int × List Int} {f : Int × List Int} (h : f.1 ≠ r.1) : impB s r f = false := by simp [impB, h]
theorem impB_yes {s : List Int} {r : Int × Int × List Int} {f : Int × List Int} (h1 : okRule s r = true) (h2 : okFact s f = true) (h : f.1 = r.1) : impB s r f = true := by simp [impB, h, h1, h2]
theorem impB_is {s : List Int} {r : Int × Int × List Int} {f : Int × List Int} (h1 : okRule s r = true) (h2 : okFact s f = true) : impB s r f = decide (f.1 = r.1) := by simp [impB, h1, h2]
def vals (m : List Int) (v : List Int) : List Int := m.map (at0 v)
theorem vals_step {m v : List Int} {g : Nat} (h : g < m.length) (h2 : m[g].toNat < v.length) : vals (m.take g) v ++ [v[m[g].toNat]] = vals (m.take (g + 1)) v := by
  rw [List.take_succ_eq_append_getElem h, vals, vals, List.map_append]
  simp [at0_get h2]
theorem vals_len {m v : List Int} : (vals m v).length = m.length := by simp [vals]
theorem vals_all {m v : List Int} {g : Nat} (h : m.length ≤ g) : vals (m.take g) v = vals m v := by rw [List.take_of_length_le h]
theorem vals_takelen {m v : List Int} {g : Nat} (h : g ≤ m.length) : (vals (m.take g) v).length = g := by simp [vals]; omega
def impR (s : List Int) (r : Int × Int × List Int) (f : Int × List Int) : Int := cond (impB s r f) r.2.1 0
def impV (s : List Int) (r : Int × Int × List Int) (f : Int × List Int) : List Int := cond (impB s r f) (vals r.2.2 f.2) []
theorem impR_I64 {s : List Int} {r : Int × Int × List Int} {f : Int × List Int} (h : I64 r.2.1) : I64 (impR s r f) := by
  rw [impR]; cases impB s r f
  · show I64 0; exact ⟨by decide, by decide⟩
  · exact h
theorem rule_len {s : List Int} {r : Int × Int × List Int} (h : okRule s r = true) : r.2.2.length ≤ 3 := by
  simp only [okRule, Bool.and_eq_true, decide_eq_true_eq] at h
  have := okRel_lt h.2.1
  simp only [at0] at h; omega
theorem impV_len {s : List Int} {r : Int × Int × List Int} {f : Int × List Int} : totS cE_I (impV s r f) ≤ r.2.2.length := by
  rw [totS_I, impV]; cases impB s r f <;> simp [vals]
theorem totS_lin {α : Type} {c t : α → Nat} {n : Nat} (h : ∀ x, c x ≤ n + t x) : ∀ {l : List α}, totS c l ≤ n * l.length + totS t l
  | [] => by simp [totS]
  | x :: l => by
    have h1 := totS_lin h (l := l)
    have h2 := h x
    simp only [totS, List.map_cons, List.sum_cons, List.length_cons, Nat.mul_add, Nat.mul_one] at h1 ⊢; omega
end Go.Proofs.YtmogfmnamhhbnaaDoor

namespace Go.Proofs.YtmogfmnamhhbnaaDoor
set_option linter.unusedVariables false
/-- the value of a term under a binding -/
def valO (b : List Int × List Int) (t : Int) : Int :=
  if inR t 10 17 then (let i := idxP (fun x => decide (x = t)) (b.1.take (min b.1.length b.2.length)); if i < 0 then -1 else at0 b.2 i) else t
theorem valO_no {b : List Int × List Int} {t : Int} (h : inR t 10 17 = false) : t = valO b t := by simp [valO, h]
theorem valO_neg {b : List Int × List Int} {t : Int} (h : inR t 10 17 = true) (h2 : idxP (fun x => decide (x = t)) (b.1.take (min b.1.length b.2.length)) < 0) : -1 = valO b t := by simp only [valO, h, if_true, if_pos h2]
theorem idx_lt {α : Type} {p : α → Bool} {s : List α} (h : ¬ idxP p s < 0) : 0 ≤ idxP p s ∧ (idxP p s).toNat < s.length := by
  unfold idxP at *
  by_cases q : s.any p = true
  · rw [if_pos q] at h ⊢
    have := List.findIdx_lt_length.2 (List.any_eq_true.1 q)
    omega
  · rw [if_neg q] at h; omega
theorem valO_pos {b : List Int × List Int} {t : Int} (h : inR t 10 17 = true) (h2 : ¬ idxP (fun x => decide (x = t)) (b.1.take (min b.1.length b.2.length)) < 0) (h3 : (idxP (fun x => decide (x = t)) (b.1.take (min b.1.length b.2.length))).toNat < b.2.length) :
    b.2[(idxP (fun x => decide (x = t)) (b.1.take (min b.1.length b.2.length))).toNat] = valO b t := by
  simp only [valO, h, if_true, if_neg h2, at0_get h3]
theorem valO_hit {b : List Int × List Int} {t : Int} {g : Nat} (h : inR t 10 17 = true) (h1 : g < b.1.length) (h2 : g < b.2.length) (e : b.1[g] = t) (pa : ∀ x ∈ b.1.take g, decide (x = t) = false) : b.2[g] = valO b t := by
  have h3 : g < (b.1.take (min b.1.length b.2.length)).length := by simp; omega
  have hi := idxP_hit (p := fun x => decide (x = t)) h3 (by rw [List.take_take, Nat.min_eq_left (by omega)]; exact pa) (by simp [e])
  have h4 : ¬ ((g : Nat) : Int) < 0 := by omega
  simp only [valO, h, if_true, ← hi, if_neg h4, at0_get (i := (g : Int)) (s := b.2) (by simpa using h2)]
  rfl
theorem valO_miss {b : List Int × List Int} {t : Int} {g : Nat} (h : inR t 10 17 = true) (h1 : ¬ (g < b.1.length ∧ g < b.2.length)) (pa : ∀ x ∈ b.1.take g, decide (x = t) = false) : -1 = valO b t := by
  refine valO_neg h ?_
  rw [← idxP_miss (p := fun x => decide (x = t)) (s := b.1.take (min b.1.length b.2.length)) (k := min b.1.length b.2.length) (by simp) ?_]
  · omega
  · intro x hx
    rw [List.take_take, Nat.min_self] at hx
    refine pa x ?_
    rw [List.mem_take_iff_getElem] at hx ⊢
    obtain ⟨i, hi, rfl⟩ := hx
    exact ⟨i, by omega, rfl⟩
theorem map_step {α β : Type} {f : α → β} {l : List α} {g : Nat} (h : g < l.length) : (l.take g).map f ++ [f l[g]] = (l.take (g + 1)).map f := by
  rw [List.take_succ_eq_append_getElem h, List.map_append]; rfl
theorem map_all {α β : Type} {f : α → β} {l : List α} {g : Nat} (h : l.length ≤ g) : (l.take g).map f = l.map f := by rw [List.take_of_length_le h]
theorem valO_i64 {b : List Int × List Int} {t : Int} (h : I64 t) (hb : ∀ x ∈ b.2, I64 x) : I64 (valO b t) := by
  simp only [valO]
  split
  · split
    · exact ⟨by decide, by decide⟩
    · unfold at0
      rcases Nat.lt_or_ge (idxP (fun x => decide (x = t)) (b.1.take (min b.1.length b.2.length))).toNat b.2.length with h1 | h1
      · rw [getD_get h1]; exact hb _ (List.getElem_mem h1)
      · have : b.2.getD (idxP (fun x => decide (x = t)) (b.1.take (min b.1.length b.2.length))).toNat 0 = 0 := by simp [List.getD, List.getElem?_eq_none h1]
        rw [this]; exact ⟨by decide, by decide⟩
  · exact h
theorem valO_i64s {b : List Int × List Int} {l : List Int} (h : ∀ x ∈ l, I64 x) (h1 : ∀ x ∈ b.1, I64 x) (h2 : ∀ x ∈ b.2, I64 x) : ∀ x ∈ l, I64 (valO b x) := fun x hx => valO_i64 (h x hx) h2
end Go.Proofs.YtmogfmnamhhbnaaDoor

namespace Go.Proofs.YtmogfmnamhhbnaaDoor
set_option linter.unusedVariables false
def pick {α : Type} (p : Nat → Bool) : List α → Nat → List α
  | [], _ => []
  | x :: xs, i => if p i then x :: pick p xs (i + 1) else pick p xs (i + 1)
theorem pick_app {α : Type} {p : Nat → Bool} : ∀ {xs ys : List α} {i : Nat}, pick p (xs ++ ys) i = pick p xs i ++ pick p ys (i + xs.length)
  | [], ys, i => by simp [pick]
  | x :: xs, ys, i => by
    simp only [List.cons_append, pick, pick_app (xs := xs), List.length_cons, show i + 1 + xs.length = i + (xs.length + 1) by omega]
    split <;> rfl
theorem pick_step {α : Type} {p : Nat → Bool} {l : List α} {g : Nat} (h : g < l.length) (hp : p g = true) : pick p (l.take g) 0 ++ [l[g]] = pick p (l.take (g + 1)) 0 := by
  rw [List.take_succ_eq_append_getElem h, pick_app]
  simp [pick, hp, Nat.min_eq_left (Nat.le_of_lt h)]
theorem pick_skip {α : Type} {p : Nat → Bool} {l : List α} {g : Nat} (h : g < l.length) (hp : p g = false) : pick p (l.take g) 0 = pick p (l.take (g + 1)) 0 := by
  rw [List.take_succ_eq_append_getElem h, pick_app]
  simp [pick, hp, Nat.min_eq_left (Nat.le_of_lt h)]
theorem pick_le {α : Type} {p : Nat → Bool} : ∀ {l : List α} {i : Nat}, (pick p l i).length ≤ l.length
  | [], _ => by simp [pick]
  | x :: xs, i => by
    have := pick_le (p := p) (l := xs) (i := i + 1)
    simp only [pick]; split <;> simp <;> omega
theorem pick_tot {α : Type} {c : α → Nat} {p : Nat → Bool} : ∀ {l : List α} {i : Nat}, totS c (pick p l i) ≤ totS c l
  | [], _ => by simp [pick, totS]
  | x :: xs, i => by
    have := pick_tot (c := c) (p := p) (l := xs) (i := i + 1)
    simp only [pick]; split <;> simp [totS] at * <;> omega
theorem pick_no {α : Type} {p : Nat → Bool} : ∀ {l : List α} {i : Nat}, (∀ j, p j = false) → pick p l i = []
  | [], _, _ => rfl
  | x :: xs, i, h => by simp [pick, h, pick_no h]
def bitOf (mask : Int) (i : Nat) : Bool := decide (0 < mask) && decide (andI (mask / 2 ^ i) 1 = 1)
theorem bitOf_nonneg {mask : Int} {i : Nat} (h : 0 ≤ mask) : bitOf mask i = decide (andI (mask / 2 ^ i) 1 = 1) := by
  unfold bitOf
  rcases Int.lt_or_eq_of_le h with h | h
  · simp [h]
  · subst h; simp [andI]; decide
theorem bitOf_neg {mask : Int} {i : Nat} (h : ¬ 0 < mask) : bitOf mask i = false := by simp [bitOf, h]
def chosen (l : List (Int × Int × List Int)) (mask : Int) : List (Int × Int × List Int) := pick (bitOf mask) (l.take 20) 0
theorem chosen_tot {c : (Int × Int × List Int) → Nat} {l : List (Int × Int × List Int)} {mask : Int} : totS c (chosen l mask) ≤ totS c l :=
  Nat.le_trans pick_tot totS_le
theorem chosen_take {l : List (Int × Int × List Int)} {mask : Int} {g : Nat} (h : l.length ≤ g ∨ 20 ≤ g) (h2 : g ≤ 20) (h3 : g ≤ l.length) : pick (bitOf mask) (l.take g) 0 = chosen l mask := by
  unfold chosen
  rcases h with h | h
  · rw [List.take_of_length_le h, List.take_of_length_le (by omega)]
  · rw [show g = 20 by omega]
theorem chosen_none {l : List (Int × Int × List Int)} {mask : Int} (h : ¬ 0 < mask) {g : Nat} : pick (bitOf mask) (l.take g) 0 = chosen l mask := by
  rw [chosen, pick_no fun j => bitOf_neg h, pick_no fun j => bitOf_neg h]
/-- append([]T{}, t...) with a t that is only read: a list of its own, and nothing else turns -/
theorem N.pushR0 {P : Program} {Q : Exit → Act → World → Prop} {n : Nat} {w0 : World} {L0 : List Nat} {fr : Fr} {H : List HP} {d : Nat} {ty : TypeId} {pos : String} {af : Array Edge} {g : Option (Nat × Bool)} {α : Type} {E : Enc α} {T e e2 : TypeId} {agg : Bool} {k m2 : Nat} {z : List Value} {by' : Nat} {x y : Operand} {ad a2 : Option Addr} {c2 : Nat} {ys : List α} (hE : Plain E) (hT : P.underlying T = some (.slice e)) (ht : TyOk P e agg k z by') (hk : k = E.k)
    (hx : ev fr x = some (.slice ad 0 0)) (hy : ev fr y = some (.slice a2 m2 c2)) (hr : Ro w0 L0 (Enc.sl e2 E) [.slice a2 m2 c2] ys) (h63 : m2 ≤ 9223372036854775807) (hbytes : m2 * by' ≤ 140737488355328) (hd : d < n) :
    Nop P Q n w0 L0 fr H ⟨some d, .call ⟨.builtin .append, #[x, y], #[T, T]⟩, ty, pos, af, g⟩ true (κ := Option Addr × Nat) (fun p => (d, .slice p.1 m2 p.2) :: fr) (fun p => ow (Enc.sl e E) [.slice p.1 m2 p.2] ys :: H) (fun _ => True) := fun K hK a w ha hw => by
  subst hk
  obtain ⟨ccs, ⟨Lc, h1⟩, h2, h3⟩ := hr.src
  have hsrc : (m2 = 0 ∧ ccs = []) ∨ ∃ b o, a2 = some ⟨b, o, none⟩ ∧ CellsAt w b o ccs := by
    rcases h3 H with h | ⟨b, o, k1, k2⟩
    · exact .inl h
    · exact .inr ⟨b, o, k1, k2 w hw⟩
  have hy1 : Elems E w ccs ys [] true := (hE.elems h1).stable (by simp)
  have hm2 := hr.slen.1
  obtain ⟨a', c', w', L1', r1, r2, r3, r4, -⟩ := run_append_any (P := P) (ty := ty) (c2 := c2) hT ht E.pos (show (row e E.k ad 0 0 []).holds w [] from ⟨by simp, .inl ⟨rfl, rfl, rfl⟩⟩) hsrc (by rw [hy1.len, hm2]) hy1.one (by rw [Nat.zero_add]; exact h63) (by rw [Nat.zero_add]; exact hbytes)
  obtain ⟨L, hs, hn, hst⟩ := id hw
  obtain ⟨d1, d2, d3⟩ := grow_core (xs := ([] : List α)) (m := 0) rfl hm2 (by rw [Nat.zero_add]; exact h63) ⟨rfl, rfl⟩ hy1 (by simp) r2 r3 r4
  obtain ⟨k1, k2, k3⟩ := Step.call (Lp := []) (Lr := L) (by simpa using hst) (by simpa using hn) hs.inh (by simpa using d3) d2
  have hrun : (execOp a.eval ⟨some d, .call ⟨.builtin .append, #[x, y], #[T, T]⟩, ty, pos, af, g⟩).run P w = .ok (.value (.slice a' (0 + m2) c')) w' := by
    simp only [execOp, resolve, ha.ev hx, ha.ev hy, List.map_toArray, List.map_cons, List.map_nil, Sem.run_bind, Sem.run_pure, Result.andThen_ok, invoke, builtin, r1]
  simp only [Nat.zero_add, List.nil_append] at d1 hrun
  rw [Oper.wp, hrun]
  exact hK (a', c') trivial w _ _ (ha.put hd _) ⟨_, ⟨_, L, rfl, d1, hs.stable k3⟩, k2, k1⟩ (fun _ => r4.below)
theorem Y.shrN {P : Program} {n : Nat} {fr : Fr} {x y : Operand} {T U : TypeId} {a : Int} {b : Nat} (hx : ev fr x = some (.int .i64 a)) (hy : ev fr y = some (.int .i64 (b : Int))) (h1 : b ≤ 64) : Yp P n fr (.binOp .shr T x y U) (.int .i64 (a / 2 ^ b)) := by
  have := Y.shr (P := P) (n := n) (T := T) (U := U) hx hy (by omega) (by omega)
  simpa using this
theorem chosen_min {l : List (Int × Int × List Int)} {mask : Int} {g : Nat} (h : (l.take (min 20 l.length)).length ≤ g) : pick (bitOf mask) ((l.take (min 20 l.length)).take g) 0 = chosen l mask := by
  rw [List.take_of_length_le h, chosen]
  rcases Nat.le_total 20 l.length with h1 | h1
  · rw [Nat.min_eq_left h1]
  · rw [Nat.min_eq_right h1, List.take_of_length_le (Nat.le_refl _), List.take_of_length_le h1]
theorem take_take_min {α : Type} {l : List α} {g : Nat} (h : g ≤ min 20 l.length) : (l.take (min 20 l.length)).take g = l.take g := by rw [List.take_take, Nat.min_eq_left h]
end Go.Proofs.YtmogfmnamhhbnaaDoor
