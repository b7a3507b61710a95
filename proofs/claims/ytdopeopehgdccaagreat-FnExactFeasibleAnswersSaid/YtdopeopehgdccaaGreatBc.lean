import Derived.Test.YtdopeopehgdccaaGreatBb
namespace Go.Proofs.YtdopeopehgdccaaGreat
set_option linter.unusedVariables false
def inR (n lo hi : Int) : Bool := decide (lo ≤ n ∧ n ≤ hi)
/-- slices.IndexFunc -/
def E8 {α : Type} (p : α → Bool) (s : List α) : Int := if s.any p then (s.findIdx p : Int) else -1
theorem L6 {α : Type} {p : α → Bool} {s : List α} {k : Nat} (hk : k < s.length) (h : ∀ x ∈ s.take k, p x = false) (hp : p s[k] = true) : (k : Int) = E8 p s := by
  have h1 : s.any p = true := List.any_eq_true.2 ⟨_, List.getElem_mem hk, hp⟩
  have h2 : s.findIdx p = k := by
    rw [List.findIdx_eq hk]
    refine ⟨hp, fun j hj => h _ ?_⟩
    rw [List.mem_take_iff_getElem]
    exact ⟨j, by omega, rfl⟩
  rw [E8, if_pos h1, h2]
theorem J2 {α : Type} {p : α → Bool} {s : List α} {k : Nat} (hk : ¬ k < s.length) (h : ∀ x ∈ s.take k, p x = false) : (-1 : Int) = E8 p s := by
  rw [List.take_of_length_le (by omega)] at h
  have : ¬ s.any p = true := fun h' => by
    obtain ⟨x, hx, hp⟩ := List.any_eq_true.1 h'
    rw [h x hx] at hp; cases hp
  rw [E8, if_neg this]
theorem R9 {α : Type} {p : α → Bool} {s : List α} : decide (0 ≤ E8 p s) = s.any p := by
  unfold E8; split <;> simp_all
theorem S1 {α : Type} {p : α → Bool} {s : List α} {k : Nat} (hk : k < s.length) (h : ∀ x ∈ s.take k, p x = false) (hp : p s[k] = false) : ∀ x ∈ s.take (k + 1), p x = false := by
  intro x hx
  rw [List.take_succ_eq_append_getElem hk] at hx
  rcases List.mem_append.1 hx with hx | hx
  · exact h x hx
  · simp at hx; subst hx; exact hp
theorem a7I {α : Type} {p : α → Bool} {s : List α} {k : Nat} (hk : k < s.length) (hp : p s[k] = true) : s.any p = true := List.any_eq_true.2 ⟨_, List.getElem_mem hk, hp⟩
theorem a6v {α : Type} {p : α → Bool} {s : List α} {k : Nat} (hk : ¬ k < s.length) (h : ∀ x ∈ s.take k, p x = false) : s.any p = false := by
  rw [List.take_of_length_le (by omega)] at h
  rw [← Bool.not_eq_true]
  intro h'
  obtain ⟨x, hx, hp⟩ := List.any_eq_true.1 h'
  rw [h x hx] at hp; cases hp
def L5 (s : List Int) : Bool := inR (s.length : Int) 1 3 && !s.any fun n => !inR n 1 3
def G5 (s : List Int) (rel : Int) : Bool := L5 s && inR rel 0 ((s.length : Int) - 1)
def R7 (l : List Int) (arity : Int) : Bool := !l.any fun i => !inR i 0 (arity - 1)
def at0 (s : List Int) (i : Int) : Int := s.getD i.toNat 0
def b2A (s : List Int) (r : Int × Int × List Int) : Bool := G5 s r.1 && (G5 s r.2.1 && (decide ((r.2.2.length : Int) = at0 s r.2.1) && R7 r.2.2 (at0 s r.1)))
theorem F6 {α : Type} {s : List α} {i : Nat} {d : α} (h : i < s.length) : s.getD i d = s[i] := by simp [List.getD, h]
theorem V6 {s : List Int} {i : Int} (h : G5 s i = true) : 0 ≤ i ∧ i < s.length ∧ 1 ≤ s.getD i.toNat 0 ∧ s.getD i.toNat 0 ≤ 3 := by
  simp only [G5, L5, inR, Bool.and_eq_true, decide_eq_true_eq, Bool.not_eq_true', List.any_eq_false] at h
  obtain ⟨⟨_, h1⟩, h2, h3⟩ := h
  have h5 : i.toNat < s.length := by omega
  have h4 := h1 s[i.toNat] (List.getElem_mem h5)
  rw [F6 h5]
  simp at h4
  omega
theorem B6 {s : List Int} {i : Int} (h : i.toNat < s.length) : at0 s i = s[i.toNat] := by simp [at0, h]
def szR (t : Nat) (left : Int) : Int := if (t : Int) ≤ left then left - t else -1
theorem Y3 {t : Nat} {l : Int} (h : szR t l < 0) (hl : 0 ≤ l) : l < t := by unfold szR at h; split at h <;> omega
theorem a0A {t : Nat} {l : Int} (h : ¬ szR t l < 0) (hl : 0 ≤ l) : szR t l = l - t ∧ (t : Int) ≤ l := by unfold szR at h ⊢; split at h <;> simp_all
theorem a0w {α : Type} {a b : List α} {g : Nat} (ha : g < a.length) (hb : g < b.length) (h : a.take g = b.take g) (he : a[g] = b[g]) : a.take (g + 1) = b.take (g + 1) := by
  rw [List.take_succ_eq_append_getElem ha, List.take_succ_eq_append_getElem hb, h, he]
theorem b0R {α : Type} {a b : List α} {g : Nat} (ha : a.length ≤ g) (hb : b.length ≤ g) (h : a.take g = b.take g) : a = b := by
  rwa [List.take_of_length_le ha, List.take_of_length_le hb] at h
theorem b3w {s : List Int} {r : Int} (h : inR r 0 ((s.length : Int) - 1) = false) : G5 s r = false := by simp [G5, h]
theorem b2x {s : List Int} {r : Int} (h : L5 s = false) : G5 s r = false := by simp [G5, h]
theorem frI {a b : Int} (h : a = b) : some (Value.int .i64 a) = some (Value.int .i64 b) := by rw [h]
/-- the sum of t over a list, one for each element beside it -/
def o5 {α : Type} (t : α → Nat) (l : List α) : Nat := (l.map t).sum
theorem J3 {α : Type} {t : α → Nat} {l : List α} {g : Nat} (h : g < l.length) : o5 t (l.take (g + 1)) = o5 t (l.take g) + t l[g] := by
  unfold o5; rw [List.take_succ_eq_append_getElem h, List.map_append, List.sum_append]; rfl
theorem N5 {α : Type} {t : α → Nat} {l : List α} {g : Nat} : o5 t (l.take g) ≤ o5 t l := by
  have : o5 t l = o5 t (l.take g) + o5 t (l.drop g) := by
    rw [o5, o5, o5, ← List.sum_append, ← List.map_append, List.take_append_drop]
  omega
theorem R1 {α : Type} {t : α → Nat} {l : List α} {g : Nat} (h : l.length ≤ g) : o5 t (l.take g) = o5 t l := by rw [List.take_of_length_le h]
/-- what szXS reckons of a list -/
def C8 {α : Type} (t : α → Nat) (l : List α) : Nat := l.length + o5 t l
theorem a7O {α : Type} {t : α → Nat} {l : List α} {left : Int} (h : left - (l.length : Int) < 0) : (-1 : Int) = szR (C8 t l) left := by unfold szR C8; split <;> omega
theorem a7K {α : Type} {t : α → Nat} {l : List α} {left : Int} {g n : Nat} (hg : g < l.length) (hn : t l[g] = n) (h : left - ((l.length : Int) + (o5 t (l.take g) : Nat)) < (n : Nat)) : (-1 : Int) = szR (C8 t l) left := by
  subst hn
  have h1 := N5 (t := t) (l := l) (g := g + 1)
  rw [J3 hg] at h1
  unfold szR C8; split <;> omega
theorem a7W {α : Type} {t : α → Nat} {l : List α} {left : Int} {g : Nat} (hg : l.length ≤ g) (h : (l.length : Int) + (o5 t (l.take g) : Nat) ≤ left) : left - ((l.length : Int) + (o5 t (l.take g) : Nat)) = szR (C8 t l) left := by
  rw [R1 hg] at h ⊢
  unfold szR C8; split <;> omega
theorem a2L {α : Type} {s : List α} {d : α} {g : Nat} (h : s.length ≤ g) : s.take g ++ List.replicate (s.length - g) d = s := by
  rw [List.take_of_length_le h, show s.length - g = 0 by omega]; simp
theorem a3Y {α : Type} {t : α → Nat} {l : List α} {g : Nat} (h : g < l.length) : t l[g] ≤ C8 t l := by
  have h1 := N5 (t := t) (l := l) (g := g + 1)
  rw [J3 h] at h1
  unfold C8; omega
theorem a2l {α : Type} {a b : List α} [Decidable (a = b)] (h : (a.length : Int) ≠ b.length) : false = decide (a = b) := by
  symm; rw [decide_eq_false_iff_not]; intro e; subst e; exact h rfl
theorem a2p {α : Type} {a b : List α} [Decidable (a = b)] {g : Nat} (ha : g < a.length) (hb : g < b.length) (h : a[g] ≠ b[g]) : false = decide (a = b) := by
  symm; rw [decide_eq_false_iff_not]; intro e; subst e; exact h rfl
theorem a1H {α : Type} {a b : List α} [Decidable (a = b)] {g : Nat} (ha : a.length ≤ g) (hb : b.length ≤ g) (h : a.take g = b.take g) : true = decide (a = b) := by
  symm; rw [decide_eq_true_eq]; exact b0R ha hb h
def a5s (s : List Int) (l : List (Int × Int × List Int)) : Bool := L5 s && (decide ((l.length : Int) ≤ 4) && !l.any fun r => !b2A s r)
end Go.Proofs.YtdopeopehgdccaaGreat

namespace Go.Proofs.YtdopeopehgdccaaGreat
set_option linter.unusedVariables false
def b7p (b : Bool) : Int := if b then 1 else 0
def b6w (log : List (Int × List Int)) (m : Int) : Int := ((log.countP fun a => decide (a.1 = m) : Nat) : Int)
def quo (l : List (Int × List Int × Int × Int × Int)) (m : Int) : Int := (l.getD m.toNat (0, [], 0, 0, 0)).2.2.2.2
def b3h (l : List (Int × List Int × Int × Int × Int)) (log : List (Int × List Int)) (m : Int) : Bool := !inR m 0 ((l.length : Int) - 1) || decide (quo l m < b6w log m)
def b6P (l : List (Int × List Int × Int × Int × Int)) (log : List (Int × List Int)) : Bool := !log.any fun a => b3h l log a.1
end Go.Proofs.YtdopeopehgdccaaGreat

namespace Go.Proofs.YtdopeopehgdccaaGreat
set_option linter.unusedVariables false
set_option linter.unusedSimpArgs false
def mkL {α : Type} (c : α → Nat) (m : α → Int → α) : List α → Int → List α
  | [], _ => []
  | x :: xs, k => m x k :: mkL c m xs (k + (c x : Nat))
section
variable {α : Type} {c : α → Nat} {m : α → Int → α}
theorem a0h : ∀ {xs : List α} {k : Int}, (mkL c m xs k).length = xs.length
  | [], _ => rfl
  | _ :: xs, k => by simp [mkL, a0h]
theorem b0Z : ∀ {xs ys : List α} {k : Int}, mkL c m (xs ++ ys) k = mkL c m xs k ++ mkL c m ys (k + (o5 c xs : Nat))
  | [], ys, k => by simp [mkL, o5]
  | x :: xs, ys, k => by
    have h : (o5 c (x :: xs) : Int) = (c x : Int) + (o5 c xs : Int) := by simp [o5]
    simp [mkL, b0Z (xs := xs), h, Int.add_assoc]
theorem a6V {a : List α} {k : Int} {g : Nat} (h : g < a.length) : (mkL c m (a.take g) k ++ a.drop g)[g]? = some a[g] := by
  rw [List.getElem?_append_right (by rw [a0h]; simp; omega), a0h, List.length_take, Nat.min_eq_left (by omega), Nat.sub_self, List.getElem?_drop]
  simp [h]
theorem a5c {a : List α} {k : Int} {g : Nat} {x : α} (h : g < a.length) (hx : x = m a[g] (k + (o5 c (a.take g) : Nat))) : (mkL c m (a.take g) k ++ a.drop g).set g x = mkL c m (a.take (g + 1)) k ++ a.drop (g + 1) := by
  subst hx
  rw [List.take_succ_eq_append_getElem h, b0Z, List.drop_eq_getElem_cons h]
  have hl : (mkL c m (a.take g) k).length = g := by rw [a0h]; simp; omega
  rw [List.set_append_right _ _ (by omega), hl, Nat.sub_self]
  simp only [List.set_cons_zero, mkL, List.append_assoc, List.singleton_append]
theorem a0Y {a : List α} {k : Int} {g : Nat} (h : a.length ≤ g) : mkL c m (a.take g) k ++ a.drop g = mkL c m a k := by
  rw [List.take_of_length_le h, List.drop_eq_nil_of_le h, List.append_nil]
theorem a9U : ∀ {a : List α} {k : Int} {g : Nat} (h : g < a.length), (mkL c m a k)[g]? = some (m a[g] (k + (o5 c (a.take g) : Nat)))
  | x :: xs, k, 0, _ => by simp [mkL, o5]
  | x :: xs, k, g + 1, h => by
    have h1 : g < xs.length := by simpa using h
    have e : (o5 c ((x :: xs).take (g + 1)) : Int) = (c x : Int) + (o5 c (xs.take g) : Int) := by simp [o5]
    simp only [mkL, List.getElem?_cons_succ, a9U h1, List.getElem_cons_succ, e, Int.add_assoc]
/-- in a list that is marked each element is marked -/
theorem b2k {a : List α} {k : Int} {g : Nat} (hz : mkL c m a k = a) (h : g < a.length) : m a[g] (k + (o5 c (a.take g) : Nat)) = a[g] := by
  have h1 := a9U (c := c) (m := m) (k := k) h
  rw [hz, List.getElem?_eq_getElem h] at h1
  exact (Option.some.inj h1).symm
theorem r7 (hc : ∀ x k, c (m x k) = c x) : ∀ {xs : List α} {k : Int}, o5 c (mkL c m xs k) = o5 c xs
  | [], _ => rfl
  | x :: xs, k => by
    have h := r7 hc (xs := xs) (k := k + (c x : Nat))
    simp only [o5, mkL, List.map_cons, List.sum_cons, hc] at h ⊢; rw [h]
theorem a7n (hc : ∀ x k, c (m x k) = c x) (hm : ∀ x k, m (m x k) k = m x k) : ∀ {xs : List α} {k : Int}, mkL c m (mkL c m xs k) k = mkL c m xs k
  | [], _ => rfl
  | x :: xs, k => by simp only [mkL, hc, hm, a7n hc hm]
end
theorem a2J {α : Type} {E : Enc α} {cs : List Value} {xs ys : α} (h : xs = ys) : [ow E cs xs].Perm [ow E cs ys] := by rw [h]
def z7 (_ : Int) : Nat := 1
def P0 (_ : Int) (k : Int) : Int := k
theorem a0R (x k : Int) : z7 (P0 x k) = z7 x := rfl
theorem b6s (x k : Int) : P0 (P0 x k) k = P0 x k := rfl
theorem a2G : ∀ {l : List Int}, o5 z7 l = l.length
  | [] => rfl
  | x :: l => by have h := a2G (l := l); simp only [o5, List.map_cons, List.sum_cons, List.length_cons] at h ⊢; rw [h]; simp [z7]; omega
def H4 (x : List Int) : Nat := o5 z7 x
def a1b (x : List Int) (k : Int) : List Int := mkL z7 P0 x k
theorem a2U (x : List Int) (k : Int) : H4 (a1b x k) = H4 x := r7 a0R
theorem b3P (x : List Int) (k : Int) : a1b (a1b x k) k = a1b x k := a7n a0R b6s
def C7 (x : Int × List Int) : Nat := 1 + o5 z7 x.2
def V4 (x : Int × List Int) (k : Int) : Int × List Int := ((k), mkL z7 P0 x.2 (k + 1))
theorem a1W (x : Int × List Int) (k : Int) : C7 (V4 x k) = C7 x := by simp [C7, V4, r7 a0R]
def a9G (x : List (Int × List Int)) : Nat := o5 C7 x
def b3a (x : List (Int × List Int)) (k : Int) : List (Int × List Int) := mkL C7 V4 x k
theorem a2e (x : List (Int × List Int)) (k : Int) : a9G (b3a x k) = a9G x := r7 a1W
def C9 (x : Int × List Int) : Nat := 1 + o5 z7 x.2
def R2 (x : Int × List Int) (k : Int) : Int × List Int := ((k), mkL z7 P0 x.2 (k + 1))
theorem a1o (x : Int × List Int) (k : Int) : C9 (R2 x k) = C9 x := by simp [C9, R2, r7 a0R]
def a9F (x : List (Int × List Int)) : Nat := o5 C9 x
def b3H (x : List (Int × List Int)) (k : Int) : List (Int × List Int) := mkL C9 R2 x k
theorem a2b (x : List (Int × List Int)) (k : Int) : a9F (b3H x k) = a9F x := r7 a1o
def P9 (x : Int × List Int) : Nat := 1 + o5 z7 x.2
def a2q (x : Int × List Int) (k : Int) : Int × List Int := ((k), mkL z7 P0 x.2 (k + 1))
theorem a0u (x : Int × List Int) (k : Int) : P9 (a2q x k) = P9 x := by simp [P9, a2q, r7 a0R]
def a6Z (x : List (Int × List Int)) : Nat := o5 P9 x
def b1K (x : List (Int × List Int)) (k : Int) : List (Int × List Int) := mkL P9 a2q x k
theorem a0G (x : List (Int × List Int)) (k : Int) : a6Z (b1K x k) = a6Z x := r7 a0u
def a3t (x : Int × Int) : Nat := 1 + 1
def a8k (x : Int × Int) (k : Int) : Int × Int := ((k), (k + 1))
theorem a1P (x : Int × Int) (k : Int) : a3t (a8k x k) = a3t x := by simp [a3t, a8k]
def b0q (x : List (Int × Int)) : Nat := o5 a3t x
def b3s (x : List (Int × Int)) (k : Int) : List (Int × Int) := mkL a3t a8k x k
theorem a1S (x : List (Int × Int)) (k : Int) : b0q (b3s x k) = b0q x := r7 a1P
def a2H (x : List Int × List (Int × List Int)) : Nat := o5 z7 x.1 + o5 C9 x.2
def a6t (x : List Int × List (Int × List Int)) (k : Int) : List Int × List (Int × List Int) := (mkL z7 P0 x.1 (k), mkL C9 R2 x.2 (k + (o5 z7 x.1 : Nat)))
theorem a1d (x : List Int × List (Int × List Int)) (k : Int) : a2H (a6t x k) = a2H x := by simp [a2H, a6t, r7 a1o, r7 a0R]
def a8z (x : List (List Int × List (Int × List Int))) : Nat := o5 a2H x
def b2B (x : List (List Int × List (Int × List Int))) (k : Int) : List (List Int × List (Int × List Int)) := mkL a2H a6t x k
theorem a1j (x : List (List Int × List (Int × List Int))) (k : Int) : a8z (b2B x k) = a8z x := r7 a1d
def a1A (x : List Int × List Int) : Nat := o5 z7 x.1 + o5 z7 x.2
def a4g (x : List Int × List Int) (k : Int) : List Int × List Int := (mkL z7 P0 x.1 (k), mkL z7 P0 x.2 (k + (o5 z7 x.1 : Nat)))
theorem a0a (x : List Int × List Int) (k : Int) : a1A (a4g x k) = a1A x := by simp [a1A, a4g, r7 a0R]
def a5P (x : List (List Int × List Int)) : Nat := o5 a1A x
def b0S (x : List (List Int × List Int)) (k : Int) : List (List Int × List Int) := mkL a1A a4g x k
theorem a0i (x : List (List Int × List Int)) (k : Int) : a5P (b0S x k) = a5P x := r7 a0a
def E3 (x : Int × List Int × Int × Int × Int) : Nat := 1 + o5 z7 x.2.1 + 1 + 1 + 1
def X1 (x : Int × List Int × Int × Int × Int) (k : Int) : Int × List Int × Int × Int × Int := ((k), mkL z7 P0 x.2.1 (k + 1), (k + 1 + (o5 z7 x.2.1 : Nat)), (k + 1 + (o5 z7 x.2.1 : Nat) + 1), (k + 1 + (o5 z7 x.2.1 : Nat) + 1 + 1))
theorem a0p (x : Int × List Int × Int × Int × Int) (k : Int) : E3 (X1 x k) = E3 x := by simp [E3, X1, r7 a0R]
def a7e (x : List (Int × List Int × Int × Int × Int)) : Nat := o5 E3 x
def b1D (x : List (Int × List Int × Int × Int × Int)) (k : Int) : List (Int × List Int × Int × Int × Int) := mkL E3 X1 x k
theorem a0J (x : List (Int × List Int × Int × Int × Int)) (k : Int) : a7e (b1D x k) = a7e x := r7 a0p
def a3B (x : Int × Int × List Int) : Nat := 1 + 1 + o5 z7 x.2.2
def a7J (x : Int × Int × List Int) (k : Int) : Int × Int × List Int := ((k), (k + 1), mkL z7 P0 x.2.2 (k + 1 + 1))
theorem a2a (x : Int × Int × List Int) (k : Int) : a3B (a7J x k) = a3B x := by simp [a3B, a7J, r7 a0R]
def b0s (x : List (Int × Int × List Int)) : Nat := o5 a3B x
def b3I (x : List (Int × Int × List Int)) (k : Int) : List (Int × Int × List Int) := mkL a3B a7J x k
theorem a1X (x : List (Int × Int × List Int)) (k : Int) : b0s (b3I x k) = b0s x := r7 a2a
def a6P (x : (List Int × List (Int × List Int)) × List (Int × List Int)) : Nat := o5 z7 x.1.1 + o5 C9 x.1.2 + o5 C9 x.2
def b1S (x : (List Int × List (Int × List Int)) × List (Int × List Int)) (k : Int) : (List Int × List (Int × List Int)) × List (Int × List Int) := ((mkL z7 P0 x.1.1 (k), mkL C9 R2 x.1.2 (k + (o5 z7 x.1.1 : Nat))), mkL C9 R2 x.2 (k + (o5 z7 x.1.1 : Nat) + (o5 C9 x.1.2 : Nat)))
def b5N (x : List ((List Int × List (Int × List Int)) × List (Int × List Int))) : Nat := o5 a6P x
def b5K (x : List ((List Int × List (Int × List Int)) × List (Int × List Int))) (k : Int) : List ((List Int × List (Int × List Int)) × List (Int × List Int)) := mkL a6P b1S x k
def a2d (x : Int × (Int × List Int) × Int × List Int) : Nat := 1 + 1 + o5 z7 x.2.1.2 + 1 + o5 z7 x.2.2.2
def a5p (x : Int × (Int × List Int) × Int × List Int) (k : Int) : Int × (Int × List Int) × Int × List Int := ((k), ((k + 1), mkL z7 P0 x.2.1.2 (k + 1 + 1)), ((k + 1 + 1 + (o5 z7 x.2.1.2 : Nat)), mkL z7 P0 x.2.2.2 (k + 1 + 1 + (o5 z7 x.2.1.2 : Nat) + 1)))
theorem a1Z (x : Int × (Int × List Int) × Int × List Int) (k : Int) : a2d (a5p x k) = a2d x := by simp [a2d, a5p, r7 a0R]
def b0z (x : List (Int × (Int × List Int) × Int × List Int)) : Nat := o5 a2d x
def b3v (x : List (Int × (Int × List Int) × Int × List Int)) (k : Int) : List (Int × (Int × List Int) × Int × List Int) := mkL a2d a5p x k
theorem a1Q (x : List (Int × (Int × List Int) × Int × List Int)) (k : Int) : b0z (b3v x k) = b0z x := r7 a1Z
def a9A (x : List (Int × (Int × List Int) × Int × List Int)) : Nat := o5 a2d x
def b3f (x : List (Int × (Int × List Int) × Int × List Int)) (k : Int) : List (Int × (Int × List Int) × Int × List Int) := (mkL a2d a5p x (k))
def b6k (x : List (List (Int × (Int × List Int) × Int × List Int))) : Nat := o5 a9A x
def b6l (x : List (List (Int × (Int × List Int) × Int × List Int))) (k : Int) : List (List (Int × (Int × List Int) × Int × List Int)) := mkL a9A b3f x k
def a7c (x : (List (Int × List Int)) × List Int × (List (Int × List Int)) × Int) : Nat := o5 C7 x.1 + o5 z7 x.2.1 + o5 P9 x.2.2.1 + 1
def b1P (x : (List (Int × List Int)) × List Int × (List (Int × List Int)) × Int) (k : Int) : (List (Int × List Int)) × List Int × (List (Int × List Int)) × Int := (mkL C7 V4 x.1 (k), mkL z7 P0 x.2.1 (k + (o5 C7 x.1 : Nat)), mkL P9 a2q x.2.2.1 (k + (o5 C7 x.1 : Nat) + (o5 z7 x.2.1 : Nat)), (k + (o5 C7 x.1 : Nat) + (o5 z7 x.2.1 : Nat) + (o5 P9 x.2.2.1 : Nat)))
def b5M (x : List ((List (Int × List Int)) × List Int × (List (Int × List Int)) × Int)) : Nat := o5 a7c x
def b5L (x : List ((List (Int × List Int)) × List Int × (List (Int × List Int)) × Int)) (k : Int) : List ((List (Int × List Int)) × List Int × (List (Int × List Int)) × Int) := mkL a7c b1P x k
def a3s (x : (List (Int × List Int)) × (List (Int × List Int)) × List Int) : Nat := o5 C7 x.1 + o5 C7 x.2.1 + o5 z7 x.2.2
def a8p (x : (List (Int × List Int)) × (List (Int × List Int)) × List Int) (k : Int) : (List (Int × List Int)) × (List (Int × List Int)) × List Int := (mkL C7 V4 x.1 (k), mkL C7 V4 x.2.1 (k + (o5 C7 x.1 : Nat)), mkL z7 P0 x.2.2 (k + (o5 C7 x.1 : Nat) + (o5 C7 x.2.1 : Nat)))
def b3W (x : List ((List (Int × List Int)) × (List (Int × List Int)) × List Int)) : Nat := o5 a3s x
def b3X (x : List ((List (Int × List Int)) × (List (Int × List Int)) × List Int)) (k : Int) : List ((List (Int × List Int)) × (List (Int × List Int)) × List Int) := mkL a3s a8p x k
end Go.Proofs.YtdopeopehgdccaaGreat

namespace Go.Proofs.YtdopeopehgdccaaGreat
set_option linter.unusedVariables false
def M6 (l : List Int) : Bool := !l.any fun n => !inR n 0 9
def H2 (s : List Int) (f : Int × List Int) : Bool := G5 s f.1 && (decide ((f.2.length : Int) = at0 s f.1) && M6 f.2)
theorem a3L {s : List Int} {f : Int × List Int} (h : G5 s f.1 = false) : false = H2 s f := by simp [H2, h]
theorem a7p {s : List Int} {f : Int × List Int} {k : Int} (e : at0 s f.1 = k) (h : (f.2.length : Int) ≠ k) : false = H2 s f := by simp [H2, e, h]
theorem b1I {s : List Int} {f : Int × List Int} (h : M6 f.2 = false) : false = H2 s f := by simp [H2, h]
theorem a8R {s : List Int} {f : Int × List Int} {k : Int} (h : G5 s f.1 = true) (e : at0 s f.1 = k) (h2 : (f.2.length : Int) = k) : M6 f.2 = H2 s f := by simp [H2, h, e, h2]
def b3p (s : List Int) (r : Int × Int × List Int) (f : Int × List Int) : Bool := b2A s r && (H2 s f && decide (f.1 = r.1))
def vals (m : List Int) (v : List Int) : List Int := m.map (at0 v)
def b6y (s : List Int) (r : Int × Int × List Int) (f : Int × List Int) : Int := cond (b3p s r f) r.2.1 0
def b6x (s : List Int) (r : Int × Int × List Int) (f : Int × List Int) : List Int := cond (b3p s r f) (vals r.2.2 f.2) []
theorem a3P {α : Type} {c t : α → Nat} {n : Nat} (h : ∀ x, c x ≤ n + t x) : ∀ {l : List α}, o5 c l ≤ n * l.length + o5 t l
  | [] => by simp [o5]
  | x :: l => by
    have h1 := a3P h (l := l)
    have h2 := h x
    simp only [o5, List.map_cons, List.sum_cons, List.length_cons, Nat.mul_add, Nat.mul_one] at h1 ⊢; omega
end Go.Proofs.YtdopeopehgdccaaGreat

namespace Go.Proofs.YtdopeopehgdccaaGreat
set_option linter.unusedVariables false
/-- the value of a term under a binding -/
def w4 (b : List Int × List Int) (t : Int) : Int :=
  if inR t 10 17 then (let i := E8 (fun x => decide (x = t)) (b.1.take (min b.1.length b.2.length)); if i < 0 then -1 else at0 b.2 i) else t
theorem a7D {b : List Int × List Int} {t : Int} (h : inR t 10 17 = false) : t = w4 b t := by simp [w4, h]
theorem b0a {b : List Int × List Int} {t : Int} (h : inR t 10 17 = true) (h2 : E8 (fun x => decide (x = t)) (b.1.take (min b.1.length b.2.length)) < 0) : -1 = w4 b t := by simp only [w4, h, if_true, if_pos h2]
theorem a4Q {α : Type} {p : α → Bool} {s : List α} (h : ¬ E8 p s < 0) : 0 ≤ E8 p s ∧ (E8 p s).toNat < s.length := by
  unfold E8 at *
  by_cases q : s.any p = true
  · rw [if_pos q] at h ⊢
    have := List.findIdx_lt_length.2 (List.any_eq_true.1 q)
    omega
  · rw [if_neg q] at h; omega
theorem b3A {b : List Int × List Int} {t : Int} (h : inR t 10 17 = true) (h2 : ¬ E8 (fun x => decide (x = t)) (b.1.take (min b.1.length b.2.length)) < 0) (h3 : (E8 (fun x => decide (x = t)) (b.1.take (min b.1.length b.2.length))).toNat < b.2.length) :
    b.2[(E8 (fun x => decide (x = t)) (b.1.take (min b.1.length b.2.length))).toNat] = w4 b t := by
  simp only [w4, h, if_true, if_neg h2, B6 h3]
theorem a9W {b : List Int × List Int} {t : Int} {g : Nat} (h : inR t 10 17 = true) (h1 : g < b.1.length) (h2 : g < b.2.length) (e : b.1[g] = t) (pa : ∀ x ∈ b.1.take g, decide (x = t) = false) : b.2[g] = w4 b t := by
  have h3 : g < (b.1.take (min b.1.length b.2.length)).length := by simp; omega
  have hi := L6 (p := fun x => decide (x = t)) h3 (by rw [List.take_take, Nat.min_eq_left (by omega)]; exact pa) (by simp [e])
  have h4 : ¬ ((g : Nat) : Int) < 0 := by omega
  simp only [w4, h, if_true, ← hi, if_neg h4, B6 (i := (g : Int)) (s := b.2) (by simpa using h2)]
  rfl
theorem a8C {b : List Int × List Int} {t : Int} {g : Nat} (h : inR t 10 17 = true) (h1 : ¬ (g < b.1.length ∧ g < b.2.length)) (pa : ∀ x ∈ b.1.take g, decide (x = t) = false) : -1 = w4 b t := by
  refine b0a h ?_
  rw [← J2 (p := fun x => decide (x = t)) (s := b.1.take (min b.1.length b.2.length)) (k := min b.1.length b.2.length) (by simp) ?_]
  · omega
  · intro x hx
    rw [List.take_take, Nat.min_self] at hx
    refine pa x ?_
    rw [List.mem_take_iff_getElem] at hx ⊢
    obtain ⟨i, hi, rfl⟩ := hx
    exact ⟨i, by omega, rfl⟩
theorem a2R {b : List Int × List Int} {t : Int} (h : I64 t) (hb : ∀ x ∈ b.2, I64 x) : I64 (w4 b t) := by
  simp only [w4]
  split
  · split
    · exact ⟨by decide, by decide⟩
    · unfold at0
      rcases Nat.lt_or_ge (E8 (fun x => decide (x = t)) (b.1.take (min b.1.length b.2.length))).toNat b.2.length with h1 | h1
      · rw [F6 h1]; exact hb _ (List.getElem_mem h1)
      · have : b.2.getD (E8 (fun x => decide (x = t)) (b.1.take (min b.1.length b.2.length))).toNat 0 = 0 := by simp [List.getD, List.getElem?_eq_none h1]
        rw [this]; exact ⟨by decide, by decide⟩
  · exact h
theorem a4O {b : List Int × List Int} {l : List Int} (h : ∀ x ∈ l, I64 x) (h1 : ∀ x ∈ b.1, I64 x) (h2 : ∀ x ∈ b.2, I64 x) : ∀ x ∈ l, I64 (w4 b x) := fun x hx => a2R (h x hx) h2
end Go.Proofs.YtdopeopehgdccaaGreat

namespace Go.Proofs.YtdopeopehgdccaaGreat
set_option linter.unusedVariables false
def pick {α : Type} (p : Nat → Bool) : List α → Nat → List α
  | [], _ => []
  | x :: xs, i => if p i then x :: pick p xs (i + 1) else pick p xs (i + 1)
def b5Q (mask : Int) (i : Nat) : Bool := decide (0 < mask) && decide (b2V (mask / 2 ^ i) 1 = 1)
def b6X (l : List (Int × Int × List Int)) (mask : Int) : List (Int × Int × List Int) := pick (b5Q mask) (l.take 20) 0
/-- append([]T{}, t...) with a t that is only read: a list of its own, and nothing else turns -/
theorem N.pushR0 {P : Program} {Q : Exit → Act → World → Prop} {n : Nat} {w0 : World} {L0 : List Nat} {fr : Fr} {H : List HP} {d : Nat} {ty : TypeId} {pos : String} {af : Array Edge} {g : Option (Nat × Bool)} {α : Type} {E : Enc α} {T e e2 : TypeId} {agg : Bool} {k m2 : Nat} {z : List Value} {by' : Nat} {x y : Operand} {ad a2 : Option Addr} {c2 : Nat} {ys : List α} (hE : Plain E) (hT : P.underlying T = some (.slice e)) (ht : TyOk P e agg k z by') (hk : k = E.k)
    (hx : ev fr x = some (.slice ad 0 0)) (hy : ev fr y = some (.slice a2 m2 c2)) (hr : Ro w0 L0 (Enc.sl e2 E) [.slice a2 m2 c2] ys) (h63 : m2 ≤ 9223372036854775807) (hbytes : m2 * by' ≤ 140737488355328) (hd : d < n) :
    Nop P Q n w0 L0 fr H ⟨some d, .call ⟨.builtin .append, #[x, y], #[T, T]⟩, ty, pos, af, g⟩ true (κ := Option Addr × Nat) (fun p => (d, .slice p.1 m2 p.2) :: fr) (fun p => ow (Enc.sl e E) [.slice p.1 m2 p.2] ys :: H) (fun _ => True) := fun K hK a w ha hw => by
  subst hk
  obtain ⟨ccs, ⟨Lc, h1⟩, h2, h3⟩ := hr.src
  have hsrc : (m2 = 0 ∧ ccs = []) ∨ ∃ b o, a2 = some ⟨b, o, none⟩ ∧ G3 w b o ccs := by
    rcases h3 H with h | ⟨b, o, k1, k2⟩
    · exact .inl h
    · exact .inr ⟨b, o, k1, k2 w hw⟩
  have hy1 : x5 E w ccs ys [] true := (hE.elems h1).stable (by simp)
  have hm2 := hr.slen.1
  obtain ⟨a', c', w', L1', r1, r2, r3, r4, -⟩ := a1V (P := P) (ty := ty) (c2 := c2) hT ht E.pos (show (row e E.k ad 0 0 []).holds w [] from ⟨by simp, .inl ⟨rfl, rfl, rfl⟩⟩) hsrc (by rw [hy1.len, hm2]) hy1.one (by rw [Nat.zero_add]; exact h63) (by rw [Nat.zero_add]; exact hbytes)
  obtain ⟨L, hs, hn, hst⟩ := id hw
  obtain ⟨d1, d2, d3⟩ := a8L (xs := ([] : List α)) (m := 0) rfl hm2 (by rw [Nat.zero_add]; exact h63) ⟨rfl, rfl⟩ hy1 (by simp) r2 r3 r4
  obtain ⟨k1, k2, k3⟩ := Step.call (Lp := []) (Lr := L) (by simpa using hst) (by simpa using hn) hs.inh (by simpa using d3) d2
  have hrun : (execOp a.eval ⟨some d, .call ⟨.builtin .append, #[x, y], #[T, T]⟩, ty, pos, af, g⟩).run P w = .ok (.value (.slice a' (0 + m2) c')) w' := by
    simp only [execOp, resolve, ha.ev hx, ha.ev hy, List.map_toArray, List.map_cons, List.map_nil, Sem.run_bind, Sem.run_pure, Result.andThen_ok, invoke, builtin, r1]
  simp only [Nat.zero_add, List.nil_append] at d1 hrun
  rw [Oper.wp, hrun]
  exact hK (a', c') trivial w _ _ (ha.put hd _) ⟨_, ⟨_, L, rfl, d1, hs.stable k3⟩, k2, k1⟩ (fun _ => r4.below)
end Go.Proofs.YtdopeopehgdccaaGreat
