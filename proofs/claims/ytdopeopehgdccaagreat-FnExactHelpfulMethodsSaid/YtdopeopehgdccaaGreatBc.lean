import Derived.Test.YtdopeopehgdccaaGreatBb
namespace Go.Proofs.YtdopeopehgdccaaGreat
set_option linter.unusedVariables false
def inR (n lo hi : Int) : Bool := decide (lo ≤ n ∧ n ≤ hi)
/-- slices.IndexFunc -/
def F3 {α : Type} (p : α → Bool) (s : List α) : Int := if s.any p then (s.findIdx p : Int) else -1
theorem N4 {α : Type} {p : α → Bool} {s : List α} {k : Nat} (hk : k < s.length) (h : ∀ x ∈ s.take k, p x = false) (hp : p s[k] = true) : (k : Int) = F3 p s := by
  have h1 : s.any p = true := List.any_eq_true.2 ⟨_, List.getElem_mem hk, hp⟩
  have h2 : s.findIdx p = k := by
    rw [List.findIdx_eq hk]
    refine ⟨hp, fun j hj => h _ ?_⟩
    rw [List.mem_take_iff_getElem]
    exact ⟨j, by omega, rfl⟩
  rw [F3, if_pos h1, h2]
theorem L7 {α : Type} {p : α → Bool} {s : List α} {k : Nat} (hk : ¬ k < s.length) (h : ∀ x ∈ s.take k, p x = false) : (-1 : Int) = F3 p s := by
  rw [List.take_of_length_le (by omega)] at h
  have : ¬ s.any p = true := fun h' => by
    obtain ⟨x, hx, hp⟩ := List.any_eq_true.1 h'
    rw [h x hx] at hp; cases hp
  rw [F3, if_neg this]
theorem W3 {α : Type} {p : α → Bool} {s : List α} : decide (0 ≤ F3 p s) = s.any p := by
  unfold F3; split <;> simp_all
theorem P1 {α : Type} {p : α → Bool} {s : List α} {k : Nat} (hk : k < s.length) (h : ∀ x ∈ s.take k, p x = false) (hp : p s[k] = false) : ∀ x ∈ s.take (k + 1), p x = false := by
  intro x hx
  rw [List.take_succ_eq_append_getElem hk] at hx
  rcases List.mem_append.1 hx with hx | hx
  · exact h x hx
  · simp at hx; subst hx; exact hp
theorem a5D {α : Type} {p : α → Bool} {s : List α} {k : Nat} (hk : k < s.length) (hp : p s[k] = true) : s.any p = true := List.any_eq_true.2 ⟨_, List.getElem_mem hk, hp⟩
theorem a4r {α : Type} {p : α → Bool} {s : List α} {k : Nat} (hk : ¬ k < s.length) (h : ∀ x ∈ s.take k, p x = false) : s.any p = false := by
  rw [List.take_of_length_le (by omega)] at h
  rw [← Bool.not_eq_true]
  intro h'
  obtain ⟨x, hx, hp⟩ := List.any_eq_true.1 h'
  rw [h x hx] at hp; cases hp
def K5 (s : List Int) : Bool := inR (s.length : Int) 1 3 && !s.any fun n => !inR n 1 3
def G0 (s : List Int) (rel : Int) : Bool := K5 s && inR rel 0 ((s.length : Int) - 1)
def L6 (l : List Int) (arity : Int) : Bool := !l.any fun i => !inR i 0 (arity - 1)
def at0 (s : List Int) (i : Int) : Int := s.getD i.toNat 0
def E3 (s : List Int) (r : Int × Int × List Int) : Bool := G0 s r.1 && (G0 s r.2.1 && (decide ((r.2.2.length : Int) = at0 s r.2.1) && L6 r.2.2 (at0 s r.1)))
theorem a1k {α : Type} {s : List α} {i : Nat} {d : α} (h : i < s.length) : s.getD i d = s[i] := by simp [List.getD, h]
theorem Q8 {s : List Int} {i : Int} (h : G0 s i = true) : 0 ≤ i ∧ i < s.length ∧ 1 ≤ s.getD i.toNat 0 ∧ s.getD i.toNat 0 ≤ 3 := by
  simp only [G0, K5, inR, Bool.and_eq_true, decide_eq_true_eq, Bool.not_eq_true', List.any_eq_false] at h
  obtain ⟨⟨_, h1⟩, h2, h3⟩ := h
  have h5 : i.toNat < s.length := by omega
  have h4 := h1 s[i.toNat] (List.getElem_mem h5)
  rw [a1k h5]
  simp at h4
  omega
theorem B7 {s : List Int} {i : Int} (h : i.toNat < s.length) : at0 s i = s[i.toNat] := by simp [at0, h]
def szR (t : Nat) (left : Int) : Int := if (t : Int) ≤ left then left - t else -1
theorem X1 {t : Nat} {l : Int} (h : szR t l < 0) (hl : 0 ≤ l) : l < t := by unfold szR at h; split at h <;> omega
theorem a0t {t : Nat} {l : Int} (h : ¬ szR t l < 0) (hl : 0 ≤ l) : szR t l = l - t ∧ (t : Int) ≤ l := by unfold szR at h ⊢; split at h <;> simp_all
theorem a1Q {α : Type} {a b : List α} {g : Nat} (ha : g < a.length) (hb : g < b.length) (h : a.take g = b.take g) (he : a[g] = b[g]) : a.take (g + 1) = b.take (g + 1) := by
  rw [List.take_succ_eq_append_getElem ha, List.take_succ_eq_append_getElem hb, h, he]
theorem b0y {α : Type} {a b : List α} {g : Nat} (ha : a.length ≤ g) (hb : b.length ≤ g) (h : a.take g = b.take g) : a = b := by
  rwa [List.take_of_length_le ha, List.take_of_length_le hb] at h
theorem a7p {s : List Int} {r : Int × Int × List Int} (h : G0 s r.1 = false) : false = E3 s r := by simp [E3, h]
theorem b0X {s : List Int} {r : Int × Int × List Int} (h : G0 s r.2.1 = false) : false = E3 s r := by simp [E3, h]
theorem b0U {s : List Int} {r : Int × Int × List Int} {k : Int} (e : at0 s r.2.1 = k) (h : (r.2.2.length : Int) ≠ k) : false = E3 s r := by simp [E3, e, h]
theorem b0Y {s : List Int} {r : Int × Int × List Int} {k : Int} (e : at0 s r.1 = k) (h : L6 r.2.2 k = false) : false = E3 s r := by simp [E3, e, h]
theorem b1m {s : List Int} {r : Int × Int × List Int} {k l : Int} (h1 : G0 s r.1 = true) (h2 : G0 s r.2.1 = true) (e : at0 s r.1 = k) (e2 : at0 s r.2.1 = l) (h : (r.2.2.length : Int) = l) (h4 : L6 r.2.2 k = true) : true = E3 s r := by simp [E3, h1, h2, e, e2, h, h4]
theorem a9I {s : List Int} {r : Int} (h : inR r 0 ((s.length : Int) - 1) = false) : G0 s r = false := by simp [G0, h]
theorem b1Q {s : List Int} {r : Int} (h : K5 s = false) : G0 s r = false := by simp [G0, h]
theorem frI {a b : Int} (h : a = b) : some (Value.int .i64 a) = some (Value.int .i64 b) := by rw [h]
/-- the sum of t over a list, one for each element beside it -/
def r9 {α : Type} (t : α → Nat) (l : List α) : Nat := (l.map t).sum
theorem N0 {α : Type} {t : α → Nat} {l : List α} {g : Nat} (h : g < l.length) : r9 t (l.take (g + 1)) = r9 t (l.take g) + t l[g] := by
  unfold r9; rw [List.take_succ_eq_append_getElem h, List.map_append, List.sum_append]; rfl
theorem S2 {α : Type} {t : α → Nat} {l : List α} {g : Nat} : r9 t (l.take g) ≤ r9 t l := by
  have : r9 t l = r9 t (l.take g) + r9 t (l.drop g) := by
    rw [r9, r9, r9, ← List.sum_append, ← List.map_append, List.take_append_drop]
  omega
theorem W1 {α : Type} {t : α → Nat} {l : List α} {g : Nat} (h : l.length ≤ g) : r9 t (l.take g) = r9 t l := by rw [List.take_of_length_le h]
/-- what szXS reckons of a list -/
def F0 {α : Type} (t : α → Nat) (l : List α) : Nat := l.length + r9 t l
theorem a7y {α : Type} {t : α → Nat} {l : List α} {left : Int} (h : left - (l.length : Int) < 0) : (-1 : Int) = szR (F0 t l) left := by unfold szR F0; split <;> omega
theorem a7Q {α : Type} {t : α → Nat} {l : List α} {left : Int} {g n : Nat} (hg : g < l.length) (hn : t l[g] = n) (h : left - ((l.length : Int) + (r9 t (l.take g) : Nat)) < (n : Nat)) : (-1 : Int) = szR (F0 t l) left := by
  subst hn
  have h1 := S2 (t := t) (l := l) (g := g + 1)
  rw [N0 hg] at h1
  unfold szR F0; split <;> omega
theorem a7R {α : Type} {t : α → Nat} {l : List α} {left : Int} {g : Nat} (hg : l.length ≤ g) (h : (l.length : Int) + (r9 t (l.take g) : Nat) ≤ left) : left - ((l.length : Int) + (r9 t (l.take g) : Nat)) = szR (F0 t l) left := by
  rw [W1 hg] at h ⊢
  unfold szR F0; split <;> omega
theorem a2T {α : Type} {s : List α} {d : α} {g : Nat} (h : s.length ≤ g) : s.take g ++ List.replicate (s.length - g) d = s := by
  rw [List.take_of_length_le h, show s.length - g = 0 by omega]; simp
theorem a4o {α : Type} {t : α → Nat} {l : List α} {g : Nat} (h : g < l.length) : t l[g] ≤ F0 t l := by
  have h1 := S2 (t := t) (l := l) (g := g + 1)
  rw [N0 h] at h1
  unfold F0; omega
theorem a3s {α : Type} {a b : List α} [Decidable (a = b)] (h : (a.length : Int) ≠ b.length) : false = decide (a = b) := by
  symm; rw [decide_eq_false_iff_not]; intro e; subst e; exact h rfl
theorem a3y {α : Type} {a b : List α} [Decidable (a = b)] {g : Nat} (ha : g < a.length) (hb : g < b.length) (h : a[g] ≠ b[g]) : false = decide (a = b) := by
  symm; rw [decide_eq_false_iff_not]; intro e; subst e; exact h rfl
theorem a2K {α : Type} {a b : List α} [Decidable (a = b)] {g : Nat} (ha : a.length ≤ g) (hb : b.length ≤ g) (h : a.take g = b.take g) : true = decide (a = b) := by
  symm; rw [decide_eq_true_eq]; exact b0y ha hb h
def x7 (s : List Int) (l : List (Int × Int × List Int)) : Bool := K5 s && (decide ((l.length : Int) ≤ 4) && !l.any fun r => !E3 s r)
end Go.Proofs.YtdopeopehgdccaaGreat

namespace Go.Proofs.YtdopeopehgdccaaGreat
set_option linter.unusedVariables false
def b5y (b : Bool) : Int := if b then 1 else 0
def b4L (log : List (Int × List Int)) (m : Int) : Int := ((log.countP fun a => decide (a.1 = m) : Nat) : Int)
def quo (l : List (Int × List Int × Int × Int × Int)) (m : Int) : Int := (l.getD m.toNat (0, [], 0, 0, 0)).2.2.2.2
def b2E (l : List (Int × List Int × Int × Int × Int)) (log : List (Int × List Int)) (m : Int) : Bool := !inR m 0 ((l.length : Int) - 1) || decide (quo l m < b4L log m)
def b5b (l : List (Int × List Int × Int × Int × Int)) (log : List (Int × List Int)) : Bool := !log.any fun a => b2E l log a.1
end Go.Proofs.YtdopeopehgdccaaGreat

namespace Go.Proofs.YtdopeopehgdccaaGreat
set_option linter.unusedVariables false
set_option linter.unusedSimpArgs false
def mkL {α : Type} (c : α → Nat) (m : α → Int → α) : List α → Int → List α
  | [], _ => []
  | x :: xs, k => m x k :: mkL c m xs (k + (c x : Nat))
section
variable {α : Type} {c : α → Nat} {m : α → Int → α}
theorem a0P : ∀ {xs : List α} {k : Int}, (mkL c m xs k).length = xs.length
  | [], _ => rfl
  | _ :: xs, k => by simp [mkL, a0P]
theorem b0F : ∀ {xs ys : List α} {k : Int}, mkL c m (xs ++ ys) k = mkL c m xs k ++ mkL c m ys (k + (r9 c xs : Nat))
  | [], ys, k => by simp [mkL, r9]
  | x :: xs, ys, k => by
    have h : (r9 c (x :: xs) : Int) = (c x : Int) + (r9 c xs : Int) := by simp [r9]
    simp [mkL, b0F (xs := xs), h, Int.add_assoc]
theorem a9L {a : List α} {k : Int} {g : Nat} (h : g < a.length) : (mkL c m (a.take g) k ++ a.drop g)[g]? = some a[g] := by
  rw [List.getElem?_append_right (by rw [a0P]; simp; omega), a0P, List.length_take, Nat.min_eq_left (by omega), Nat.sub_self, List.getElem?_drop]
  simp [h]
theorem a7l {a : List α} {k : Int} {g : Nat} {x : α} (h : g < a.length) (hx : x = m a[g] (k + (r9 c (a.take g) : Nat))) : (mkL c m (a.take g) k ++ a.drop g).set g x = mkL c m (a.take (g + 1)) k ++ a.drop (g + 1) := by
  subst hx
  rw [List.take_succ_eq_append_getElem h, b0F, List.drop_eq_getElem_cons h]
  have hl : (mkL c m (a.take g) k).length = g := by rw [a0P]; simp; omega
  rw [List.set_append_right _ _ (by omega), hl, Nat.sub_self]
  simp only [List.set_cons_zero, mkL, List.append_assoc, List.singleton_append]
theorem a2B {a : List α} {k : Int} {g : Nat} (h : a.length ≤ g) : mkL c m (a.take g) k ++ a.drop g = mkL c m a k := by
  rw [List.take_of_length_le h, List.drop_eq_nil_of_le h, List.append_nil]
theorem a9J : ∀ {a : List α} {k : Int} {g : Nat} (h : g < a.length), (mkL c m a k)[g]? = some (m a[g] (k + (r9 c (a.take g) : Nat)))
  | x :: xs, k, 0, _ => by simp [mkL, r9]
  | x :: xs, k, g + 1, h => by
    have h1 : g < xs.length := by simpa using h
    have e : (r9 c ((x :: xs).take (g + 1)) : Int) = (c x : Int) + (r9 c (xs.take g) : Int) := by simp [r9]
    simp only [mkL, List.getElem?_cons_succ, a9J h1, List.getElem_cons_succ, e, Int.add_assoc]
/-- in a list that is marked each element is marked -/
theorem b3K {a : List α} {k : Int} {g : Nat} (hz : mkL c m a k = a) (h : g < a.length) : m a[g] (k + (r9 c (a.take g) : Nat)) = a[g] := by
  have h1 := a9J (c := c) (m := m) (k := k) h
  rw [hz, List.getElem?_eq_getElem h] at h1
  exact (Option.some.inj h1).symm
theorem o5 (hc : ∀ x k, c (m x k) = c x) : ∀ {xs : List α} {k : Int}, r9 c (mkL c m xs k) = r9 c xs
  | [], _ => rfl
  | x :: xs, k => by
    have h := o5 hc (xs := xs) (k := k + (c x : Nat))
    simp only [r9, mkL, List.map_cons, List.sum_cons, hc] at h ⊢; rw [h]
theorem a9P (hc : ∀ x k, c (m x k) = c x) (hm : ∀ x k, m (m x k) k = m x k) : ∀ {xs : List α} {k : Int}, mkL c m (mkL c m xs k) k = mkL c m xs k
  | [], _ => rfl
  | x :: xs, k => by simp only [mkL, hc, hm, a9P hc hm]
end
theorem a6O {α : Type} {E : Enc α} {cs : List Value} {xs ys : α} (h : xs = ys) : [ow E cs xs].Perm [ow E cs ys] := by rw [h]
def z8 (_ : Int) : Nat := 1
def O6 (_ : Int) (k : Int) : Int := k
theorem a0s (x k : Int) : z8 (O6 x k) = z8 x := rfl
theorem b3P (x k : Int) : O6 (O6 x k) k = O6 x k := rfl
theorem a3a : ∀ {l : List Int}, r9 z8 l = l.length
  | [] => rfl
  | x :: l => by have h := a3a (l := l); simp only [r9, List.map_cons, List.sum_cons, List.length_cons] at h ⊢; rw [h]; simp [z8]; omega
def b2M (x : List Int) : Nat := r9 z8 x
def b4k (x : List Int) (k : Int) : List Int := mkL z8 O6 x k
theorem a5C (x : List Int) (k : Int) : b2M (b4k x k) = b2M x := o5 a0s
def N5 (x : Int × List Int) : Nat := 1 + r9 z8 x.2
def a2M (x : Int × List Int) (k : Int) : Int × List Int := ((k), mkL z8 O6 x.2 (k + 1))
theorem a2r (x : Int × List Int) (k : Int) : N5 (a2M x k) = N5 x := by simp [N5, a2M, o5 a0s]
def a9x (x : List (Int × List Int)) : Nat := r9 N5 x
def b2l (x : List (Int × List Int)) (k : Int) : List (Int × List Int) := mkL N5 a2M x k
theorem a2l (x : List (Int × List Int)) (k : Int) : a9x (b2l x k) = a9x x := o5 a2r
def D0 (x : Int × List Int) : Nat := 1 + r9 z8 x.2
def Q0 (x : Int × List Int) (k : Int) : Int × List Int := ((k), mkL z8 O6 x.2 (k + 1))
theorem a1x (x : Int × List Int) (k : Int) : D0 (Q0 x k) = D0 x := by simp [D0, Q0, o5 a0s]
def a9A (x : List (Int × List Int)) : Nat := r9 D0 x
def b2s (x : List (Int × List Int)) (k : Int) : List (Int × List Int) := mkL D0 Q0 x k
theorem a2p (x : List (Int × List Int)) (k : Int) : a9A (b2s x k) = a9A x := o5 a1x
def X8 (x : Int × List Int) : Nat := 1 + r9 z8 x.2
def a3w (x : Int × List Int) (k : Int) : Int × List Int := ((k), mkL z8 O6 x.2 (k + 1))
theorem a0p (x : Int × List Int) (k : Int) : X8 (a3w x k) = X8 x := by simp [X8, a3w, o5 a0s]
def a7a (x : List (Int × List Int)) : Nat := r9 X8 x
def b1g (x : List (Int × List Int)) (k : Int) : List (Int × List Int) := mkL X8 a3w x k
theorem a0L (x : List (Int × List Int)) (k : Int) : a7a (b1g x k) = a7a x := o5 a0p
def a3M (x : Int × Int) : Nat := 1 + 1
def a7L (x : Int × Int) (k : Int) : Int × Int := ((k), (k + 1))
theorem a2e (x : Int × Int) (k : Int) : a3M (a7L x k) = a3M x := by simp [a3M, a7L]
def b0a (x : List (Int × Int)) : Nat := r9 a3M x
def b2k (x : List (Int × Int)) (k : Int) : List (Int × Int) := mkL a3M a7L x k
theorem a2g (x : List (Int × Int)) (k : Int) : b0a (b2k x k) = b0a x := o5 a2e
def a3d (x : List Int × List (Int × List Int)) : Nat := r9 z8 x.1 + r9 D0 x.2
def a6s (x : List Int × List (Int × List Int)) (k : Int) : List Int × List (Int × List Int) := (mkL z8 O6 x.1 (k), mkL D0 Q0 x.2 (k + (r9 z8 x.1 : Nat)))
theorem a1p (x : List Int × List (Int × List Int)) (k : Int) : a3d (a6s x k) = a3d x := by simp [a3d, a6s, o5 a1x, o5 a0s]
def a8y (x : List (List Int × List (Int × List Int))) : Nat := r9 a3d x
def b1E (x : List (List Int × List (Int × List Int))) (k : Int) : List (List Int × List (Int × List Int)) := mkL a3d a6s x k
theorem a1v (x : List (List Int × List (Int × List Int))) (k : Int) : a8y (b1E x k) = a8y x := o5 a1p
def a1H (x : List Int × List Int) : Nat := r9 z8 x.1 + r9 z8 x.2
def a4t (x : List Int × List Int) (k : Int) : List Int × List Int := (mkL z8 O6 x.1 (k), mkL z8 O6 x.2 (k + (r9 z8 x.1 : Nat)))
theorem Y2 (x : List Int × List Int) (k : Int) : a1H (a4t x k) = a1H x := by simp [a1H, a4t, o5 a0s]
def a5Y (x : List (List Int × List Int)) : Nat := r9 a1H x
def b0B (x : List (List Int × List Int)) (k : Int) : List (List Int × List Int) := mkL a1H a4t x k
theorem a0h (x : List (List Int × List Int)) (k : Int) : a5Y (b0B x k) = a5Y x := o5 Y2
def E1 (x : Int × List Int × Int × Int × Int) : Nat := 1 + r9 z8 x.2.1 + 1 + 1 + 1
def V5 (x : Int × List Int × Int × Int × Int) (k : Int) : Int × List Int × Int × Int × Int := ((k), mkL z8 O6 x.2.1 (k + 1), (k + 1 + (r9 z8 x.2.1 : Nat)), (k + 1 + (r9 z8 x.2.1 : Nat) + 1), (k + 1 + (r9 z8 x.2.1 : Nat) + 1 + 1))
theorem a0v (x : Int × List Int × Int × Int × Int) (k : Int) : E1 (V5 x k) = E1 x := by simp [E1, V5, o5 a0s]
def a6X (x : List (Int × List Int × Int × Int × Int)) : Nat := r9 E1 x
def b1p (x : List (Int × List Int × Int × Int × Int)) (k : Int) : List (Int × List Int × Int × Int × Int) := mkL E1 V5 x k
theorem a0I (x : List (Int × List Int × Int × Int × Int)) (k : Int) : a6X (b1p x k) = a6X x := o5 a0v
def H4 (x : Int × Int × List Int) : Nat := 1 + 1 + r9 z8 x.2.2
def a0M (x : Int × Int × List Int) (k : Int) : Int × Int × List Int := ((k), (k + 1), mkL z8 O6 x.2.2 (k + 1 + 1))
theorem a2f (x : Int × Int × List Int) (k : Int) : H4 (a0M x k) = H4 x := by simp [H4, a0M, o5 a0s]
def a9U (x : List (Int × Int × List Int)) : Nat := r9 H4 x
def b2g (x : List (Int × Int × List Int)) (k : Int) : List (Int × Int × List Int) := mkL H4 a0M x k
theorem a2m (x : List (Int × Int × List Int)) (k : Int) : a9U (b2g x k) = a9U x := o5 a2f
def a7j (x : (List Int × List (Int × List Int)) × List (Int × List Int)) : Nat := r9 z8 x.1.1 + r9 D0 x.1.2 + r9 D0 x.2
def b1j (x : (List Int × List (Int × List Int)) × List (Int × List Int)) (k : Int) : (List Int × List (Int × List Int)) × List (Int × List Int) := ((mkL z8 O6 x.1.1 (k), mkL D0 Q0 x.1.2 (k + (r9 z8 x.1.1 : Nat))), mkL D0 Q0 x.2 (k + (r9 z8 x.1.1 : Nat) + (r9 D0 x.1.2 : Nat)))
def b4c (x : List ((List Int × List (Int × List Int)) × List (Int × List Int))) : Nat := r9 a7j x
def b4e (x : List ((List Int × List (Int × List Int)) × List (Int × List Int))) (k : Int) : List ((List Int × List (Int × List Int)) × List (Int × List Int)) := mkL a7j b1j x k
def a2t (x : Int × (Int × List Int) × Int × List Int) : Nat := 1 + 1 + r9 z8 x.2.1.2 + 1 + r9 z8 x.2.2.2
def a5E (x : Int × (Int × List Int) × Int × List Int) (k : Int) : Int × (Int × List Int) × Int × List Int := ((k), ((k + 1), mkL z8 O6 x.2.1.2 (k + 1 + 1)), ((k + 1 + 1 + (r9 z8 x.2.1.2 : Nat)), mkL z8 O6 x.2.2.2 (k + 1 + 1 + (r9 z8 x.2.1.2 : Nat) + 1)))
theorem a2h (x : Int × (Int × List Int) × Int × List Int) (k : Int) : a2t (a5E x k) = a2t x := by simp [a2t, a5E, o5 a0s]
def a9Y (x : List (Int × (Int × List Int) × Int × List Int)) : Nat := r9 a2t x
def b2h (x : List (Int × (Int × List Int) × Int × List Int)) (k : Int) : List (Int × (Int × List Int) × Int × List Int) := mkL a2t a5E x k
theorem a2d (x : List (Int × (Int × List Int) × Int × List Int)) (k : Int) : a9Y (b2h x k) = a9Y x := o5 a2h
def a9V (x : List (Int × (Int × List Int) × Int × List Int)) : Nat := r9 a2t x
def b2d (x : List (Int × (Int × List Int) × Int × List Int)) (k : Int) : List (Int × (Int × List Int) × Int × List Int) := (mkL a2t a5E x (k))
def b4y (x : List (List (Int × (Int × List Int) × Int × List Int))) : Nat := r9 a9V x
def b4z (x : List (List (Int × (Int × List Int) × Int × List Int))) (k : Int) : List (List (Int × (Int × List Int) × Int × List Int)) := mkL a9V b2d x k
def a7b (x : (List (Int × List Int)) × List Int × (List (Int × List Int)) × Int) : Nat := r9 N5 x.1 + r9 z8 x.2.1 + r9 X8 x.2.2.1 + 1
def b1f (x : (List (Int × List Int)) × List Int × (List (Int × List Int)) × Int) (k : Int) : (List (Int × List Int)) × List Int × (List (Int × List Int)) × Int := (mkL N5 a2M x.1 (k), mkL z8 O6 x.2.1 (k + (r9 N5 x.1 : Nat)), mkL X8 a3w x.2.2.1 (k + (r9 N5 x.1 : Nat) + (r9 z8 x.2.1 : Nat)), (k + (r9 N5 x.1 : Nat) + (r9 z8 x.2.1 : Nat) + (r9 X8 x.2.2.1 : Nat)))
def b4b (x : List ((List (Int × List Int)) × List Int × (List (Int × List Int)) × Int)) : Nat := r9 a7b x
def b4d (x : List ((List (Int × List Int)) × List Int × (List (Int × List Int)) × Int)) (k : Int) : List ((List (Int × List Int)) × List Int × (List (Int × List Int)) × Int) := mkL a7b b1f x k
def a3U (x : (List (Int × List Int)) × (List (Int × List Int)) × List Int) : Nat := r9 N5 x.1 + r9 N5 x.2.1 + r9 z8 x.2.2
def a7Y (x : (List (Int × List Int)) × (List (Int × List Int)) × List Int) (k : Int) : (List (Int × List Int)) × (List (Int × List Int)) × List Int := (mkL N5 a2M x.1 (k), mkL N5 a2M x.2.1 (k + (r9 N5 x.1 : Nat)), mkL z8 O6 x.2.2 (k + (r9 N5 x.1 : Nat) + (r9 N5 x.2.1 : Nat)))
def b2N (x : List ((List (Int × List Int)) × (List (Int × List Int)) × List Int)) : Nat := r9 a3U x
def b2U (x : List ((List (Int × List Int)) × (List (Int × List Int)) × List Int)) (k : Int) : List ((List (Int × List Int)) × (List (Int × List Int)) × List Int) := mkL a3U a7Y x k
end Go.Proofs.YtdopeopehgdccaaGreat

namespace Go.Proofs.YtdopeopehgdccaaGreat
set_option linter.unusedVariables false
def a1L (l : List Int) : Bool := !l.any fun n => !inR n 0 9
def D6 (s : List Int) (f : Int × List Int) : Bool := G0 s f.1 && (decide ((f.2.length : Int) = at0 s f.1) && a1L f.2)
/-- a rule's positions lie in a fact of its relation -/
theorem a8E {s : List Int} {r : Int × Int × List Int} {f : Int × List Int} (h1 : E3 s r = true) (h2 : D6 s f = true) (e : f.1 = r.1) : ∀ x ∈ r.2.2, 0 ≤ x ∧ x < f.2.length := by
  simp only [E3, D6, L6, Bool.and_eq_true, decide_eq_true_eq, Bool.not_eq_true', List.any_eq_false] at h1 h2
  intro x hx
  have h3 := h1.2.2.2 x hx
  have h4 := h2.2.1
  rw [e] at h4
  simp [inR] at h3
  omega
def b2u (s : List Int) (r : Int × Int × List Int) (f : Int × List Int) : Bool := E3 s r && (D6 s f && decide (f.1 = r.1))
def vals (m : List Int) (v : List Int) : List Int := m.map (at0 v)
theorem a8O {m v : List Int} {g : Nat} (h : g < m.length) (h2 : m[g].toNat < v.length) : vals (m.take g) v ++ [v[m[g].toNat]] = vals (m.take (g + 1)) v := by
  rw [List.take_succ_eq_append_getElem h, vals, vals, List.map_append]
  simp [B7 h2]
theorem b0b {m v : List Int} : (vals m v).length = m.length := by simp [vals]
theorem a4p {m v : List Int} {g : Nat} (h : m.length ≤ g) : vals (m.take g) v = vals m v := by rw [List.take_of_length_le h]
def b4T (s : List Int) (r : Int × Int × List Int) (f : Int × List Int) : Int := cond (b2u s r f) r.2.1 0
def b4H (s : List Int) (r : Int × Int × List Int) (f : Int × List Int) : List Int := cond (b2u s r f) (vals r.2.2 f.2) []
theorem b2z {s : List Int} {r : Int × Int × List Int} (h : E3 s r = true) : r.2.2.length ≤ 3 := by
  simp only [E3, Bool.and_eq_true, decide_eq_true_eq] at h
  have := Q8 h.2.1
  simp only [at0] at h; omega
theorem a4j {α : Type} {c t : α → Nat} {n : Nat} (h : ∀ x, c x ≤ n + t x) : ∀ {l : List α}, r9 c l ≤ n * l.length + r9 t l
  | [] => by simp [r9]
  | x :: l => by
    have h1 := a4j h (l := l)
    have h2 := h x
    simp only [r9, List.map_cons, List.sum_cons, List.length_cons, Nat.mul_add, Nat.mul_one] at h1 ⊢; omega
end Go.Proofs.YtdopeopehgdccaaGreat

namespace Go.Proofs.YtdopeopehgdccaaGreat
set_option linter.unusedVariables false
/-- the value of a term under a binding -/
def B4 (b : List Int × List Int) (t : Int) : Int :=
  if inR t 10 17 then (let i := F3 (fun x => decide (x = t)) (b.1.take (min b.1.length b.2.length)); if i < 0 then -1 else at0 b.2 i) else t
theorem a7J {b : List Int × List Int} {t : Int} (h : inR t 10 17 = false) : t = B4 b t := by simp [B4, h]
theorem b0o {b : List Int × List Int} {t : Int} (h : inR t 10 17 = true) (h2 : F3 (fun x => decide (x = t)) (b.1.take (min b.1.length b.2.length)) < 0) : -1 = B4 b t := by simp only [B4, h, if_true, if_pos h2]
theorem b1u {α : Type} {p : α → Bool} {s : List α} (h : ¬ F3 p s < 0) : 0 ≤ F3 p s ∧ (F3 p s).toNat < s.length := by
  unfold F3 at *
  by_cases q : s.any p = true
  · rw [if_pos q] at h ⊢
    have := List.findIdx_lt_length.2 (List.any_eq_true.1 q)
    omega
  · rw [if_neg q] at h; omega
theorem b2D {b : List Int × List Int} {t : Int} (h : inR t 10 17 = true) (h2 : ¬ F3 (fun x => decide (x = t)) (b.1.take (min b.1.length b.2.length)) < 0) (h3 : (F3 (fun x => decide (x = t)) (b.1.take (min b.1.length b.2.length))).toNat < b.2.length) :
    b.2[(F3 (fun x => decide (x = t)) (b.1.take (min b.1.length b.2.length))).toNat] = B4 b t := by
  simp only [B4, h, if_true, if_neg h2, B7 h3]
theorem a9R {b : List Int × List Int} {t : Int} {g : Nat} (h : inR t 10 17 = true) (h1 : g < b.1.length) (h2 : g < b.2.length) (e : b.1[g] = t) (pa : ∀ x ∈ b.1.take g, decide (x = t) = false) : b.2[g] = B4 b t := by
  have h3 : g < (b.1.take (min b.1.length b.2.length)).length := by simp; omega
  have hi := N4 (p := fun x => decide (x = t)) h3 (by rw [List.take_take, Nat.min_eq_left (by omega)]; exact pa) (by simp [e])
  have h4 : ¬ ((g : Nat) : Int) < 0 := by omega
  simp only [B4, h, if_true, ← hi, if_neg h4, B7 (i := (g : Int)) (s := b.2) (by simpa using h2)]
  rfl
theorem a8T {b : List Int × List Int} {t : Int} {g : Nat} (h : inR t 10 17 = true) (h1 : ¬ (g < b.1.length ∧ g < b.2.length)) (pa : ∀ x ∈ b.1.take g, decide (x = t) = false) : -1 = B4 b t := by
  refine b0o h ?_
  rw [← L7 (p := fun x => decide (x = t)) (s := b.1.take (min b.1.length b.2.length)) (k := min b.1.length b.2.length) (by simp) ?_]
  · omega
  · intro x hx
    rw [List.take_take, Nat.min_self] at hx
    refine pa x ?_
    rw [List.mem_take_iff_getElem] at hx ⊢
    obtain ⟨i, hi, rfl⟩ := hx
    exact ⟨i, by omega, rfl⟩
theorem a9H {b : List Int × List Int} {t : Int} (h : I64 t) (hb : ∀ x ∈ b.2, I64 x) : I64 (B4 b t) := by
  simp only [B4]
  split
  · split
    · exact ⟨by decide, by decide⟩
    · unfold at0
      rcases Nat.lt_or_ge (F3 (fun x => decide (x = t)) (b.1.take (min b.1.length b.2.length))).toNat b.2.length with h1 | h1
      · rw [a1k h1]; exact hb _ (List.getElem_mem h1)
      · have : b.2.getD (F3 (fun x => decide (x = t)) (b.1.take (min b.1.length b.2.length))).toNat 0 = 0 := by simp [List.getD, List.getElem?_eq_none h1]
        rw [this]; exact ⟨by decide, by decide⟩
  · exact h
theorem a4Z {b : List Int × List Int} {l : List Int} (h : ∀ x ∈ l, I64 x) (h1 : ∀ x ∈ b.1, I64 x) (h2 : ∀ x ∈ b.2, I64 x) : ∀ x ∈ l, I64 (B4 b x) := fun x hx => a9H (h x hx) h2
end Go.Proofs.YtdopeopehgdccaaGreat

namespace Go.Proofs.YtdopeopehgdccaaGreat
set_option linter.unusedVariables false
def pick {α : Type} (p : Nat → Bool) : List α → Nat → List α
  | [], _ => []
  | x :: xs, i => if p i then x :: pick p xs (i + 1) else pick p xs (i + 1)
def b4n (mask : Int) (i : Nat) : Bool := decide (0 < mask) && decide (a7z (mask / 2 ^ i) 1 = 1)
def b5j (l : List (Int × Int × List Int)) (mask : Int) : List (Int × Int × List Int) := pick (b4n mask) (l.take 20) 0
/-- append([]T{}, t...) with a t that is only read: a list of its own, and nothing else turns -/
theorem N.pushR0 {P : Program} {Q : Exit → Act → World → Prop} {n : Nat} {w0 : World} {L0 : List Nat} {fr : Fr} {H : List HP} {d : Nat} {ty : TypeId} {pos : String} {af : Array Edge} {g : Option (Nat × Bool)} {α : Type} {E : Enc α} {T e e2 : TypeId} {agg : Bool} {k m2 : Nat} {z : List Value} {by' : Nat} {x y : Operand} {ad a2 : Option Addr} {c2 : Nat} {ys : List α} (hE : Plain E) (hT : P.underlying T = some (.slice e)) (ht : TyOk P e agg k z by') (hk : k = E.k)
    (hx : ev fr x = some (.slice ad 0 0)) (hy : ev fr y = some (.slice a2 m2 c2)) (hr : Ro w0 L0 (Enc.sl e2 E) [.slice a2 m2 c2] ys) (h63 : m2 ≤ 9223372036854775807) (hbytes : m2 * by' ≤ 140737488355328) (hd : d < n) :
    Nop P Q n w0 L0 fr H ⟨some d, .call ⟨.builtin .append, #[x, y], #[T, T]⟩, ty, pos, af, g⟩ true (κ := Option Addr × Nat) (fun p => (d, .slice p.1 m2 p.2) :: fr) (fun p => ow (Enc.sl e E) [.slice p.1 m2 p.2] ys :: H) (fun _ => True) := fun K hK a w ha hw => by
  subst hk
  obtain ⟨ccs, ⟨Lc, h1⟩, h2, h3⟩ := hr.src
  have hsrc : (m2 = 0 ∧ ccs = []) ∨ ∃ b o, a2 = some ⟨b, o, none⟩ ∧ F5 w b o ccs := by
    rcases h3 H with h | ⟨b, o, k1, k2⟩
    · exact .inl h
    · exact .inr ⟨b, o, k1, k2 w hw⟩
  have hy1 : w5 E w ccs ys [] true := (hE.elems h1).stable (by simp)
  have hm2 := hr.slen.1
  obtain ⟨a', c', w', L1', r1, r2, r3, r4, -⟩ := a0Q (P := P) (ty := ty) (c2 := c2) hT ht E.pos (show (row e E.k ad 0 0 []).holds w [] from ⟨by simp, .inl ⟨rfl, rfl, rfl⟩⟩) hsrc (by rw [hy1.len, hm2]) hy1.one (by rw [Nat.zero_add]; exact h63) (by rw [Nat.zero_add]; exact hbytes)
  obtain ⟨L, hs, hn, hst⟩ := id hw
  obtain ⟨d1, d2, d3⟩ := a8k (xs := ([] : List α)) (m := 0) rfl hm2 (by rw [Nat.zero_add]; exact h63) ⟨rfl, rfl⟩ hy1 (by simp) r2 r3 r4
  obtain ⟨k1, k2, k3⟩ := Step.call (Lp := []) (Lr := L) (by simpa using hst) (by simpa using hn) hs.inh (by simpa using d3) d2
  have hrun : (execOp a.eval ⟨some d, .call ⟨.builtin .append, #[x, y], #[T, T]⟩, ty, pos, af, g⟩).run P w = .ok (.value (.slice a' (0 + m2) c')) w' := by
    simp only [execOp, resolve, ha.ev hx, ha.ev hy, List.map_toArray, List.map_cons, List.map_nil, Sem.run_bind, Sem.run_pure, Result.andThen_ok, invoke, builtin, r1]
  simp only [Nat.zero_add, List.nil_append] at d1 hrun
  rw [Oper.wp, hrun]
  exact hK (a', c') trivial w _ _ (ha.put hd _) ⟨_, ⟨_, L, rfl, d1, hs.stable k3⟩, k2, k1⟩ (fun _ => r4.below)
theorem Y.shrN {P : Program} {n : Nat} {fr : Fr} {x y : Operand} {T U : TypeId} {a : Int} {b : Nat} (hx : ev fr x = some (.int .i64 a)) (hy : ev fr y = some (.int .i64 (b : Int))) (h1 : b ≤ 64) : Yp P n fr (.binOp .shr T x y U) (.int .i64 (a / 2 ^ b)) := by
  have := Y.shr (P := P) (n := n) (T := T) (U := U) hx hy (by omega) (by omega)
  simpa using this
end Go.Proofs.YtdopeopehgdccaaGreat
