import Derived.Test.YtdopeopehgdccaaGreatBb
namespace Go.Proofs.YtdopeopehgdccaaGreat
set_option linter.unusedVariables false
def inR (n lo hi : Int) : Bool := decide (lo ≤ n ∧ n ≤ hi)
/-- slices.IndexFunc -/
def D3 {α : Type} (p : α → Bool) (s : List α) : Int := if s.any p then (s.findIdx p : Int) else -1
theorem M3 {α : Type} {p : α → Bool} {s : List α} {k : Nat} (hk : k < s.length) (h : ∀ x ∈ s.take k, p x = false) (hp : p s[k] = true) : (k : Int) = D3 p s := by
  have h1 : s.any p = true := List.any_eq_true.2 ⟨_, List.getElem_mem hk, hp⟩
  have h2 : s.findIdx p = k := by
    rw [List.findIdx_eq hk]
    refine ⟨hp, fun j hj => h _ ?_⟩
    rw [List.mem_take_iff_getElem]
    exact ⟨j, by omega, rfl⟩
  rw [D3, if_pos h1, h2]
theorem J2 {α : Type} {p : α → Bool} {s : List α} {k : Nat} (hk : ¬ k < s.length) (h : ∀ x ∈ s.take k, p x = false) : (-1 : Int) = D3 p s := by
  rw [List.take_of_length_le (by omega)] at h
  have : ¬ s.any p = true := fun h' => by
    obtain ⟨x, hx, hp⟩ := List.any_eq_true.1 h'
    rw [h x hx] at hp; cases hp
  rw [D3, if_neg this]
theorem U9 {α : Type} {p : α → Bool} {s : List α} : decide (0 ≤ D3 p s) = s.any p := by
  unfold D3; split <;> simp_all
theorem S0 {α : Type} {p : α → Bool} {s : List α} {k : Nat} (hk : k < s.length) (h : ∀ x ∈ s.take k, p x = false) (hp : p s[k] = false) : ∀ x ∈ s.take (k + 1), p x = false := by
  intro x hx
  rw [List.take_succ_eq_append_getElem hk] at hx
  rcases List.mem_append.1 hx with hx | hx
  · exact h x hx
  · simp at hx; subst hx; exact hp
theorem a5v {α : Type} {p : α → Bool} {s : List α} {k : Nat} (hk : k < s.length) (hp : p s[k] = true) : s.any p = true := List.any_eq_true.2 ⟨_, List.getElem_mem hk, hp⟩
theorem a3L {α : Type} {p : α → Bool} {s : List α} {k : Nat} (hk : ¬ k < s.length) (h : ∀ x ∈ s.take k, p x = false) : s.any p = false := by
  rw [List.take_of_length_le (by omega)] at h
  rw [← Bool.not_eq_true]
  intro h'
  obtain ⟨x, hx, hp⟩ := List.any_eq_true.1 h'
  rw [h x hx] at hp; cases hp
def J1 (s : List Int) : Bool := inR (s.length : Int) 1 3 && !s.any fun n => !inR n 1 3
def F4 (s : List Int) (rel : Int) : Bool := J1 s && inR rel 0 ((s.length : Int) - 1)
def P1 (l : List Int) (arity : Int) : Bool := !l.any fun i => !inR i 0 (arity - 1)
def at0 (s : List Int) (i : Int) : Int := s.getD i.toNat 0
def a9H (s : List Int) (r : Int × Int × List Int) : Bool := F4 s r.1 && (F4 s r.2.1 && (decide ((r.2.2.length : Int) = at0 s r.2.1) && P1 r.2.2 (at0 s r.1)))
theorem F5 {α : Type} {s : List α} {i : Nat} {d : α} (h : i < s.length) : s.getD i d = s[i] := by simp [List.getD, h]
theorem V1 {s : List Int} {i : Int} (h : F4 s i = true) : 0 ≤ i ∧ i < s.length ∧ 1 ≤ s.getD i.toNat 0 ∧ s.getD i.toNat 0 ≤ 3 := by
  simp only [F4, J1, inR, Bool.and_eq_true, decide_eq_true_eq, Bool.not_eq_true', List.any_eq_false] at h
  obtain ⟨⟨_, h1⟩, h2, h3⟩ := h
  have h5 : i.toNat < s.length := by omega
  have h4 := h1 s[i.toNat] (List.getElem_mem h5)
  rw [F5 h5]
  simp at h4
  omega
theorem z7 {s : List Int} {i : Int} (h : i.toNat < s.length) : at0 s i = s[i.toNat] := by simp [at0, h]
def szR (t : Nat) (left : Int) : Int := if (t : Int) ≤ left then left - t else -1
theorem U1 {t : Nat} {l : Int} (h : szR t l < 0) (hl : 0 ≤ l) : l < t := by unfold szR at h; split at h <;> omega
theorem X4 {t : Nat} {l : Int} (h : ¬ szR t l < 0) (hl : 0 ≤ l) : szR t l = l - t ∧ (t : Int) ≤ l := by unfold szR at h ⊢; split at h <;> simp_all
theorem S5 {α : Type} {a b : List α} {g : Nat} (ha : g < a.length) (hb : g < b.length) (h : a.take g = b.take g) (he : a[g] = b[g]) : a.take (g + 1) = b.take (g + 1) := by
  rw [List.take_succ_eq_append_getElem ha, List.take_succ_eq_append_getElem hb, h, he]
theorem a8g {α : Type} {a b : List α} {g : Nat} (ha : a.length ≤ g) (hb : b.length ≤ g) (h : a.take g = b.take g) : a = b := by
  rwa [List.take_of_length_le ha, List.take_of_length_le hb] at h
theorem a9Z {s : List Int} {r : Int} (h : inR r 0 ((s.length : Int) - 1) = false) : F4 s r = false := by simp [F4, h]
theorem a9f {s : List Int} {r : Int} (h : J1 s = false) : F4 s r = false := by simp [F4, h]
theorem frI {a b : Int} (h : a = b) : some (Value.int .i64 a) = some (Value.int .i64 b) := by rw [h]
/-- the sum of t over a list, one for each element beside it -/
def j8 {α : Type} (t : α → Nat) (l : List α) : Nat := (l.map t).sum
theorem E8 {α : Type} {t : α → Nat} {l : List α} {g : Nat} (h : g < l.length) : j8 t (l.take (g + 1)) = j8 t (l.take g) + t l[g] := by
  unfold j8; rw [List.take_succ_eq_append_getElem h, List.map_append, List.sum_append]; rfl
theorem F0 {α : Type} {t : α → Nat} {l : List α} {g : Nat} : j8 t (l.take g) ≤ j8 t l := by
  have : j8 t l = j8 t (l.take g) + j8 t (l.drop g) := by
    rw [j8, j8, j8, ← List.sum_append, ← List.map_append, List.take_append_drop]
  omega
theorem G9 {α : Type} {t : α → Nat} {l : List α} {g : Nat} (h : l.length ≤ g) : j8 t (l.take g) = j8 t l := by rw [List.take_of_length_le h]
/-- what szXS reckons of a list -/
def E0 {α : Type} (t : α → Nat) (l : List α) : Nat := l.length + j8 t l
theorem a5i {α : Type} {t : α → Nat} {l : List α} {left : Int} (h : left - (l.length : Int) < 0) : (-1 : Int) = szR (E0 t l) left := by unfold szR E0; split <;> omega
theorem a5j {α : Type} {t : α → Nat} {l : List α} {left : Int} {g n : Nat} (hg : g < l.length) (hn : t l[g] = n) (h : left - ((l.length : Int) + (j8 t (l.take g) : Nat)) < (n : Nat)) : (-1 : Int) = szR (E0 t l) left := by
  subst hn
  have h1 := F0 (t := t) (l := l) (g := g + 1)
  rw [E8 hg] at h1
  unfold szR E0; split <;> omega
theorem a5D {α : Type} {t : α → Nat} {l : List α} {left : Int} {g : Nat} (hg : l.length ≤ g) (h : (l.length : Int) + (j8 t (l.take g) : Nat) ≤ left) : left - ((l.length : Int) + (j8 t (l.take g) : Nat)) = szR (E0 t l) left := by
  rw [G9 hg] at h ⊢
  unfold szR E0; split <;> omega
theorem a0L {α : Type} {s : List α} {d : α} {g : Nat} (h : s.length ≤ g) : s.take g ++ List.replicate (s.length - g) d = s := by
  rw [List.take_of_length_le h, show s.length - g = 0 by omega]; simp
theorem a4f {α : Type} {t : α → Nat} {l : List α} {g : Nat} (h : g < l.length) : t l[g] ≤ E0 t l := by
  have h1 := F0 (t := t) (l := l) (g := g + 1)
  rw [E8 h] at h1
  unfold E0; omega
theorem Y9 {α : Type} {a b : List α} [Decidable (a = b)] (h : (a.length : Int) ≠ b.length) : false = decide (a = b) := by
  symm; rw [decide_eq_false_iff_not]; intro e; subst e; exact h rfl
theorem a0c {α : Type} {a b : List α} [Decidable (a = b)] {g : Nat} (ha : g < a.length) (hb : g < b.length) (h : a[g] ≠ b[g]) : false = decide (a = b) := by
  symm; rw [decide_eq_false_iff_not]; intro e; subst e; exact h rfl
theorem X0 {α : Type} {a b : List α} [Decidable (a = b)] {g : Nat} (ha : a.length ≤ g) (hb : b.length ≤ g) (h : a.take g = b.take g) : true = decide (a = b) := by
  symm; rw [decide_eq_true_eq]; exact a8g ha hb h
def a3l (s : List Int) (l : List (Int × Int × List Int)) : Bool := J1 s && (decide ((l.length : Int) ≤ 4) && !l.any fun r => !a9H s r)
end Go.Proofs.YtdopeopehgdccaaGreat

namespace Go.Proofs.YtdopeopehgdccaaGreat
set_option linter.unusedVariables false
def b3q (b : Bool) : Int := if b then 1 else 0
def b2J (log : List (Int × List Int)) (m : Int) : Int := ((log.countP fun a => decide (a.1 = m) : Nat) : Int)
def quo (l : List (Int × List Int × Int × Int × Int)) (m : Int) : Int := (l.getD m.toNat (0, [], 0, 0, 0)).2.2.2.2
def a9X (l : List (Int × List Int × Int × Int × Int)) (log : List (Int × List Int)) (m : Int) : Bool := !inR m 0 ((l.length : Int) - 1) || decide (quo l m < b2J log m)
def b2S (l : List (Int × List Int × Int × Int × Int)) (log : List (Int × List Int)) : Bool := !log.any fun a => a9X l log a.1
end Go.Proofs.YtdopeopehgdccaaGreat

namespace Go.Proofs.YtdopeopehgdccaaGreat
set_option linter.unusedVariables false
set_option linter.unusedSimpArgs false
def mkL {α : Type} (c : α → Nat) (m : α → Int → α) : List α → Int → List α
  | [], _ => []
  | x :: xs, k => m x k :: mkL c m xs (k + (c x : Nat))
section
variable {α : Type} {c : α → Nat} {m : α → Int → α}
theorem T7 : ∀ {xs : List α} {k : Int}, (mkL c m xs k).length = xs.length
  | [], _ => rfl
  | _ :: xs, k => by simp [mkL, T7]
theorem a8h : ∀ {xs ys : List α} {k : Int}, mkL c m (xs ++ ys) k = mkL c m xs k ++ mkL c m ys (k + (j8 c xs : Nat))
  | [], ys, k => by simp [mkL, j8]
  | x :: xs, ys, k => by
    have h : (j8 c (x :: xs) : Int) = (c x : Int) + (j8 c xs : Int) := by simp [j8]
    simp [mkL, a8h (xs := xs), h, Int.add_assoc]
theorem a1O {a : List α} {k : Int} {g : Nat} (h : g < a.length) : (mkL c m (a.take g) k ++ a.drop g)[g]? = some a[g] := by
  rw [List.getElem?_append_right (by rw [T7]; simp; omega), T7, List.length_take, Nat.min_eq_left (by omega), Nat.sub_self, List.getElem?_drop]
  simp [h]
theorem a1r {a : List α} {k : Int} {g : Nat} {x : α} (h : g < a.length) (hx : x = m a[g] (k + (j8 c (a.take g) : Nat))) : (mkL c m (a.take g) k ++ a.drop g).set g x = mkL c m (a.take (g + 1)) k ++ a.drop (g + 1) := by
  subst hx
  rw [List.take_succ_eq_append_getElem h, a8h, List.drop_eq_getElem_cons h]
  have hl : (mkL c m (a.take g) k).length = g := by rw [T7]; simp; omega
  rw [List.set_append_right _ _ (by omega), hl, Nat.sub_self]
  simp only [List.set_cons_zero, mkL, List.append_assoc, List.singleton_append]
theorem U6 {a : List α} {k : Int} {g : Nat} (h : a.length ≤ g) : mkL c m (a.take g) k ++ a.drop g = mkL c m a k := by
  rw [List.take_of_length_le h, List.drop_eq_nil_of_le h, List.append_nil]
theorem a7R : ∀ {a : List α} {k : Int} {g : Nat} (h : g < a.length), (mkL c m a k)[g]? = some (m a[g] (k + (j8 c (a.take g) : Nat)))
  | x :: xs, k, 0, _ => by simp [mkL, j8]
  | x :: xs, k, g + 1, h => by
    have h1 : g < xs.length := by simpa using h
    have e : (j8 c ((x :: xs).take (g + 1)) : Int) = (c x : Int) + (j8 c (xs.take g) : Int) := by simp [j8]
    simp only [mkL, List.getElem?_cons_succ, a7R h1, List.getElem_cons_succ, e, Int.add_assoc]
/-- in a list that is marked each element is marked -/
theorem a1P {a : List α} {k : Int} {g : Nat} (hz : mkL c m a k = a) (h : g < a.length) : m a[g] (k + (j8 c (a.take g) : Nat)) = a[g] := by
  have h1 := a7R (c := c) (m := m) (k := k) h
  rw [hz, List.getElem?_eq_getElem h] at h1
  exact (Option.some.inj h1).symm
theorem j6 (hc : ∀ x k, c (m x k) = c x) : ∀ {xs : List α} {k : Int}, j8 c (mkL c m xs k) = j8 c xs
  | [], _ => rfl
  | x :: xs, k => by
    have h := j6 hc (xs := xs) (k := k + (c x : Nat))
    simp only [j8, mkL, List.map_cons, List.sum_cons, hc] at h ⊢; rw [h]
theorem R3 (hc : ∀ x k, c (m x k) = c x) (hm : ∀ x k, m (m x k) k = m x k) : ∀ {xs : List α} {k : Int}, mkL c m (mkL c m xs k) k = mkL c m xs k
  | [], _ => rfl
  | x :: xs, k => by simp only [mkL, hc, hm, R3 hc hm]
end
theorem a1s {α : Type} {E : Enc α} {cs : List Value} {xs ys : α} (h : xs = ys) : [ow E cs xs].Perm [ow E cs ys] := by rw [h]
def v7 (_ : Int) : Nat := 1
def J7 (_ : Int) (k : Int) : Int := k
theorem P3 (x k : Int) : v7 (J7 x k) = v7 x := rfl
theorem b0v (x k : Int) : J7 (J7 x k) k = J7 x k := rfl
theorem a0i : ∀ {l : List Int}, j8 v7 l = l.length
  | [] => rfl
  | x :: l => by have h := a0i (l := l); simp only [j8, List.map_cons, List.sum_cons, List.length_cons] at h ⊢; rw [h]; simp [v7]; omega
def C1 (x : List Int) : Nat := j8 v7 x
def W9 (x : List Int) (k : Int) : List Int := mkL v7 J7 x k
theorem V3 (x : List Int) (k : Int) : C1 (W9 x k) = C1 x := j6 P3
theorem a6Y (x : List Int) (k : Int) : W9 (W9 x k) k = W9 x k := R3 P3 b0v
def s7 (x : Int × List Int) : Nat := 1 + j8 v7 x.2
def G0 (x : Int × List Int) (k : Int) : Int × List Int := ((k), mkL v7 J7 x.2 (k + 1))
theorem K8 (x : Int × List Int) (k : Int) : s7 (G0 x k) = s7 x := by simp [s7, G0, j6 P3]
theorem a3n (x : Int × List Int) (k : Int) : G0 (G0 x k) k = G0 x k := by simp [G0, j6 P3, R3 P3 b0v]
def a7U (x : List (Int × List Int)) : Nat := j8 s7 x
def b0u (x : List (Int × List Int)) (k : Int) : List (Int × List Int) := mkL s7 G0 x k
theorem Q9 (x : List (Int × List Int)) (k : Int) : a7U (b0u x k) = a7U x := j6 K8
def B3 (x : Int × List Int) : Nat := 1 + j8 v7 x.2
def N3 (x : Int × List Int) (k : Int) : Int × List Int := ((k), mkL v7 J7 x.2 (k + 1))
theorem P8 (x : Int × List Int) (k : Int) : B3 (N3 x k) = B3 x := by simp [B3, N3, j6 P3]
def a7e (x : List (Int × List Int)) : Nat := j8 B3 x
def a9T (x : List (Int × List Int)) (k : Int) : List (Int × List Int) := mkL B3 N3 x k
theorem Q4 (x : List (Int × List Int)) (k : Int) : a7e (a9T x k) = a7e x := j6 P8
def o9 (x : Int × List Int) : Nat := 1 + j8 v7 x.2
def E5 (x : Int × List Int) (k : Int) : Int × List Int := ((k), mkL v7 J7 x.2 (k + 1))
theorem G5 (x : Int × List Int) (k : Int) : o9 (E5 x k) = o9 x := by simp [o9, E5, j6 P3]
theorem a1A (x : Int × List Int) (k : Int) : E5 (E5 x k) k = E5 x k := by simp [E5, j6 P3, R3 P3 b0v]
def a4S (x : List (Int × List Int)) : Nat := j8 o9 x
def a8J (x : List (Int × List Int)) (k : Int) : List (Int × List Int) := mkL o9 E5 x k
theorem J9 (x : List (Int × List Int)) (k : Int) : a4S (a8J x k) = a4S x := j6 G5
def E9 (x : Int × Int) : Nat := 1 + 1
def X6 (x : Int × Int) (k : Int) : Int × Int := ((k), (k + 1))
theorem S4 (x : Int × Int) (k : Int) : E9 (X6 x k) = E9 x := by simp [E9, X6]
def a7G (x : List (Int × Int)) : Nat := j8 E9 x
def b0d (x : List (Int × Int)) (k : Int) : List (Int × Int) := mkL E9 X6 x k
theorem Q7 (x : List (Int × Int)) (k : Int) : a7G (b0d x k) = a7G x := j6 S4
def a1n (x : List Int × List (Int × List Int)) : Nat := j8 v7 x.1 + j8 B3 x.2
def a4u (x : List Int × List (Int × List Int)) (k : Int) : List Int × List (Int × List Int) := (mkL v7 J7 x.1 (k), mkL B3 N3 x.2 (k + (j8 v7 x.1 : Nat)))
theorem O5 (x : List Int × List (Int × List Int)) (k : Int) : a1n (a4u x k) = a1n x := by simp [a1n, a4u, j6 P8, j6 P3]
def a6h (x : List (List Int × List (Int × List Int))) : Nat := j8 a1n x
def a9o (x : List (List Int × List (Int × List Int))) (k : Int) : List (List Int × List (Int × List Int)) := mkL a1n a4u x k
theorem N4 (x : List (List Int × List (Int × List Int))) (k : Int) : a6h (a9o x k) = a6h x := j6 O5
def a0z (x : List Int × List Int) : Nat := j8 v7 x.1 + j8 v7 x.2
def a2p (x : List Int × List Int) (k : Int) : List Int × List Int := (mkL v7 J7 x.1 (k), mkL v7 J7 x.2 (k + (j8 v7 x.1 : Nat)))
theorem I5 (x : List Int × List Int) (k : Int) : a0z (a2p x k) = a0z x := by simp [a0z, a2p, j6 P3]
def a3E (x : List (List Int × List Int)) : Nat := j8 a0z x
def a8f (x : List (List Int × List Int)) (k : Int) : List (List Int × List Int) := mkL a0z a2p x k
theorem I3 (x : List (List Int × List Int)) (k : Int) : a3E (a8f x k) = a3E x := j6 I5
def B1 (x : Int × List Int × Int × Int × Int) : Nat := 1 + j8 v7 x.2.1 + 1 + 1 + 1
def S1 (x : Int × List Int × Int × Int × Int) (k : Int) : Int × List Int × Int × Int × Int := ((k), mkL v7 J7 x.2.1 (k + 1), (k + 1 + (j8 v7 x.2.1 : Nat)), (k + 1 + (j8 v7 x.2.1 : Nat) + 1), (k + 1 + (j8 v7 x.2.1 : Nat) + 1 + 1))
theorem K9 (x : Int × List Int × Int × Int × Int) (k : Int) : B1 (S1 x k) = B1 x := by simp [B1, S1, j6 P3]
def a4Y (x : List (Int × List Int × Int × Int × Int)) : Nat := j8 B1 x
def a8V (x : List (Int × List Int × Int × Int × Int)) (k : Int) : List (Int × List Int × Int × Int × Int) := mkL B1 S1 x k
theorem K0 (x : List (Int × List Int × Int × Int × Int)) (k : Int) : a4Y (a8V x k) = a4Y x := j6 K9
def a2b (x : Int × Int × List Int) : Nat := 1 + 1 + j8 v7 x.2.2
def a5k (x : Int × Int × List Int) (k : Int) : Int × Int × List Int := ((k), (k + 1), mkL v7 J7 x.2.2 (k + 1 + 1))
theorem S3 (x : Int × Int × List Int) (k : Int) : a2b (a5k x k) = a2b x := by simp [a2b, a5k, j6 P3]
def a7j (x : List (Int × Int × List Int)) : Nat := j8 a2b x
def b0l (x : List (Int × Int × List Int)) (k : Int) : List (Int × Int × List Int) := mkL a2b a5k x k
theorem Q5 (x : List (Int × Int × List Int)) (k : Int) : a7j (b0l x k) = a7j x := j6 S3
def a4O (x : (List Int × List (Int × List Int)) × List (Int × List Int)) : Nat := j8 v7 x.1.1 + j8 B3 x.1.2 + j8 B3 x.2
def a8N (x : (List Int × List (Int × List Int)) × List (Int × List Int)) (k : Int) : (List Int × List (Int × List Int)) × List (Int × List Int) := ((mkL v7 J7 x.1.1 (k), mkL B3 N3 x.1.2 (k + (j8 v7 x.1.1 : Nat))), mkL B3 N3 x.2 (k + (j8 v7 x.1.1 : Nat) + (j8 B3 x.1.2 : Nat)))
def b1O (x : List ((List Int × List (Int × List Int)) × List (Int × List Int))) : Nat := j8 a4O x
def b1Q (x : List ((List Int × List (Int × List Int)) × List (Int × List Int))) (k : Int) : List ((List Int × List (Int × List Int)) × List (Int × List Int)) := mkL a4O a8N x k
def a0R (x : Int × (Int × List Int) × Int × List Int) : Nat := 1 + 1 + j8 v7 x.2.1.2 + 1 + j8 v7 x.2.2.2
def a3q (x : Int × (Int × List Int) × Int × List Int) (k : Int) : Int × (Int × List Int) × Int × List Int := ((k), ((k + 1), mkL v7 J7 x.2.1.2 (k + 1 + 1)), ((k + 1 + 1 + (j8 v7 x.2.1.2 : Nat)), mkL v7 J7 x.2.2.2 (k + 1 + 1 + (j8 v7 x.2.1.2 : Nat) + 1)))
theorem S2 (x : Int × (Int × List Int) × Int × List Int) (k : Int) : a0R (a3q x k) = a0R x := by simp [a0R, a3q, j6 P3]
def a7k (x : List (Int × (Int × List Int) × Int × List Int)) : Nat := j8 a0R x
def b0t (x : List (Int × (Int × List Int) × Int × List Int)) (k : Int) : List (Int × (Int × List Int) × Int × List Int) := mkL a0R a3q x k
theorem R0 (x : List (Int × (Int × List Int) × Int × List Int)) (k : Int) : a7k (b0t x k) = a7k x := j6 S2
def a7c (x : List (Int × (Int × List Int) × Int × List Int)) : Nat := j8 a0R x
def b0m (x : List (Int × (Int × List Int) × Int × List Int)) (k : Int) : List (Int × (Int × List Int) × Int × List Int) := (mkL a0R a3q x (k))
def b2n (x : List (List (Int × (Int × List Int) × Int × List Int))) : Nat := j8 a7c x
def b2k (x : List (List (Int × (Int × List Int) × Int × List Int))) (k : Int) : List (List (Int × (Int × List Int) × Int × List Int)) := mkL a7c b0m x k
def a4C (x : (List (Int × List Int)) × List Int × (List (Int × List Int)) × Int) : Nat := j8 s7 x.1 + j8 v7 x.2.1 + j8 o9 x.2.2.1 + 1
def a8F (x : (List (Int × List Int)) × List Int × (List (Int × List Int)) × Int) (k : Int) : (List (Int × List Int)) × List Int × (List (Int × List Int)) × Int := (mkL s7 G0 x.1 (k), mkL v7 J7 x.2.1 (k + (j8 s7 x.1 : Nat)), mkL o9 E5 x.2.2.1 (k + (j8 s7 x.1 : Nat) + (j8 v7 x.2.1 : Nat)), (k + (j8 s7 x.1 : Nat) + (j8 v7 x.2.1 : Nat) + (j8 o9 x.2.2.1 : Nat)))
def b1P (x : List ((List (Int × List Int)) × List Int × (List (Int × List Int)) × Int)) : Nat := j8 a4C x
def b1N (x : List ((List (Int × List Int)) × List Int × (List (Int × List Int)) × Int)) (k : Int) : List ((List (Int × List Int)) × List Int × (List (Int × List Int)) × Int) := mkL a4C a8F x k
def a1M (x : (List (Int × List Int)) × (List (Int × List Int)) × List Int) : Nat := j8 s7 x.1 + j8 s7 x.2.1 + j8 v7 x.2.2
def a5N (x : (List (Int × List Int)) × (List (Int × List Int)) × List Int) (k : Int) : (List (Int × List Int)) × (List (Int × List Int)) × List Int := (mkL s7 G0 x.1 (k), mkL s7 G0 x.2.1 (k + (j8 s7 x.1 : Nat)), mkL v7 J7 x.2.2 (k + (j8 s7 x.1 : Nat) + (j8 s7 x.2.1 : Nat)))
def b0C (x : List ((List (Int × List Int)) × (List (Int × List Int)) × List Int)) : Nat := j8 a1M x
def b0G (x : List ((List (Int × List Int)) × (List (Int × List Int)) × List Int)) (k : Int) : List ((List (Int × List Int)) × (List (Int × List Int)) × List Int) := mkL a1M a5N x k
end Go.Proofs.YtdopeopehgdccaaGreat

namespace Go.Proofs.YtdopeopehgdccaaGreat
set_option linter.unusedVariables false
def I7 (l : List Int) : Bool := !l.any fun n => !inR n 0 9
def F3 (s : List Int) (f : Int × List Int) : Bool := F4 s f.1 && (decide ((f.2.length : Int) = at0 s f.1) && I7 f.2)
theorem a2r {s : List Int} {f : Int × List Int} (h : F4 s f.1 = false) : false = F3 s f := by simp [F3, h]
theorem a4T {s : List Int} {f : Int × List Int} {k : Int} (e : at0 s f.1 = k) (h : (f.2.length : Int) ≠ k) : false = F3 s f := by simp [F3, e, h]
theorem a8H {s : List Int} {f : Int × List Int} (h : I7 f.2 = false) : false = F3 s f := by simp [F3, h]
theorem a6l {s : List Int} {f : Int × List Int} {k : Int} (h : F4 s f.1 = true) (e : at0 s f.1 = k) (h2 : (f.2.length : Int) = k) : I7 f.2 = F3 s f := by simp [F3, h, e, h2]
def b0p (s : List Int) (r : Int × Int × List Int) (f : Int × List Int) : Bool := a9H s r && (F3 s f && decide (f.1 = r.1))
def vals (m : List Int) (v : List Int) : List Int := m.map (at0 v)
def b2K (s : List Int) (r : Int × Int × List Int) (f : Int × List Int) : Int := cond (b0p s r f) r.2.1 0
def b2u (s : List Int) (r : Int × Int × List Int) (f : Int × List Int) : List Int := cond (b0p s r f) (vals r.2.2 f.2) []
theorem a1l {α : Type} {c t : α → Nat} {n : Nat} (h : ∀ x, c x ≤ n + t x) : ∀ {l : List α}, j8 c l ≤ n * l.length + j8 t l
  | [] => by simp [j8]
  | x :: l => by
    have h1 := a1l h (l := l)
    have h2 := h x
    simp only [j8, List.map_cons, List.sum_cons, List.length_cons, Nat.mul_add, Nat.mul_one] at h1 ⊢; omega
end Go.Proofs.YtdopeopehgdccaaGreat

namespace Go.Proofs.YtdopeopehgdccaaGreat
set_option linter.unusedVariables false
/-- the value of a term under a binding -/
def B7 (b : List Int × List Int) (t : Int) : Int :=
  if inR t 10 17 then (let i := D3 (fun x => decide (x = t)) (b.1.take (min b.1.length b.2.length)); if i < 0 then -1 else at0 b.2 i) else t
theorem a5t {b : List Int × List Int} {t : Int} (h : inR t 10 17 = false) : t = B7 b t := by simp [B7, h]
theorem a7F {b : List Int × List Int} {t : Int} (h : inR t 10 17 = true) (h2 : D3 (fun x => decide (x = t)) (b.1.take (min b.1.length b.2.length)) < 0) : -1 = B7 b t := by simp only [B7, h, if_true, if_pos h2]
theorem a7H {α : Type} {p : α → Bool} {s : List α} (h : ¬ D3 p s < 0) : 0 ≤ D3 p s ∧ (D3 p s).toNat < s.length := by
  unfold D3 at *
  by_cases q : s.any p = true
  · rw [if_pos q] at h ⊢
    have := List.findIdx_lt_length.2 (List.any_eq_true.1 q)
    omega
  · rw [if_neg q] at h; omega
theorem b0x {b : List Int × List Int} {t : Int} (h : inR t 10 17 = true) (h2 : ¬ D3 (fun x => decide (x = t)) (b.1.take (min b.1.length b.2.length)) < 0) (h3 : (D3 (fun x => decide (x = t)) (b.1.take (min b.1.length b.2.length))).toNat < b.2.length) :
    b.2[(D3 (fun x => decide (x = t)) (b.1.take (min b.1.length b.2.length))).toNat] = B7 b t := by
  simp only [B7, h, if_true, if_neg h2, z7 h3]
theorem a7T {b : List Int × List Int} {t : Int} {g : Nat} (h : inR t 10 17 = true) (h1 : g < b.1.length) (h2 : g < b.2.length) (e : b.1[g] = t) (pa : ∀ x ∈ b.1.take g, decide (x = t) = false) : b.2[g] = B7 b t := by
  have h3 : g < (b.1.take (min b.1.length b.2.length)).length := by simp; omega
  have hi := M3 (p := fun x => decide (x = t)) h3 (by rw [List.take_take, Nat.min_eq_left (by omega)]; exact pa) (by simp [e])
  have h4 : ¬ ((g : Nat) : Int) < 0 := by omega
  simp only [B7, h, if_true, ← hi, if_neg h4, z7 (i := (g : Int)) (s := b.2) (by simpa using h2)]
  rfl
theorem a6r {b : List Int × List Int} {t : Int} {g : Nat} (h : inR t 10 17 = true) (h1 : ¬ (g < b.1.length ∧ g < b.2.length)) (pa : ∀ x ∈ b.1.take g, decide (x = t) = false) : -1 = B7 b t := by
  refine a7F h ?_
  rw [← J2 (p := fun x => decide (x = t)) (s := b.1.take (min b.1.length b.2.length)) (k := min b.1.length b.2.length) (by simp) ?_]
  · omega
  · intro x hx
    rw [List.take_take, Nat.min_self] at hx
    refine pa x ?_
    rw [List.mem_take_iff_getElem] at hx ⊢
    obtain ⟨i, hi, rfl⟩ := hx
    exact ⟨i, by omega, rfl⟩
theorem a2m {b : List Int × List Int} {t : Int} (h : I64 t) (hb : ∀ x ∈ b.2, I64 x) : I64 (B7 b t) := by
  simp only [B7]
  split
  · split
    · exact ⟨by decide, by decide⟩
    · unfold at0
      rcases Nat.lt_or_ge (D3 (fun x => decide (x = t)) (b.1.take (min b.1.length b.2.length))).toNat b.2.length with h1 | h1
      · rw [F5 h1]; exact hb _ (List.getElem_mem h1)
      · have : b.2.getD (D3 (fun x => decide (x = t)) (b.1.take (min b.1.length b.2.length))).toNat 0 = 0 := by simp [List.getD, List.getElem?_eq_none h1]
        rw [this]; exact ⟨by decide, by decide⟩
  · exact h
theorem a9A {b : List Int × List Int} {l : List Int} (h : ∀ x ∈ l, I64 x) (h1 : ∀ x ∈ b.1, I64 x) (h2 : ∀ x ∈ b.2, I64 x) : ∀ x ∈ l, I64 (B7 b x) := fun x hx => a2m (h x hx) h2
end Go.Proofs.YtdopeopehgdccaaGreat

namespace Go.Proofs.YtdopeopehgdccaaGreat
set_option linter.unusedVariables false
def pick {α : Type} (p : Nat → Bool) : List α → Nat → List α
  | [], _ => []
  | x :: xs, i => if p i then x :: pick p xs (i + 1) else pick p xs (i + 1)
def b1T (mask : Int) (i : Nat) : Bool := decide (0 < mask) && decide (b0n (mask / 2 ^ i) 1 = 1)
def b2Y (l : List (Int × Int × List Int)) (mask : Int) : List (Int × Int × List Int) := pick (b1T mask) (l.take 20) 0
/-- append([]T{}, t...) with a t that is only read: a list of its own, and nothing else turns -/
theorem N.pushR0 {P : Program} {Q : Exit → Act → World → Prop} {n : Nat} {w0 : World} {L0 : List Nat} {fr : Fr} {H : List HP} {d : Nat} {ty : TypeId} {pos : String} {af : Array Edge} {g : Option (Nat × Bool)} {α : Type} {E : Enc α} {T e e2 : TypeId} {agg : Bool} {k m2 : Nat} {z : List Value} {by' : Nat} {x y : Operand} {ad a2 : Option Addr} {c2 : Nat} {ys : List α} (hE : Plain E) (hT : P.underlying T = some (.slice e)) (ht : TyOk P e agg k z by') (hk : k = E.k)
    (hx : ev fr x = some (.slice ad 0 0)) (hy : ev fr y = some (.slice a2 m2 c2)) (hr : Ro w0 L0 (Enc.sl e2 E) [.slice a2 m2 c2] ys) (h63 : m2 ≤ 9223372036854775807) (hbytes : m2 * by' ≤ 140737488355328) (hd : d < n) :
    Nop P Q n w0 L0 fr H ⟨some d, .call ⟨.builtin .append, #[x, y], #[T, T]⟩, ty, pos, af, g⟩ true (κ := Option Addr × Nat) (fun p => (d, .slice p.1 m2 p.2) :: fr) (fun p => ow (Enc.sl e E) [.slice p.1 m2 p.2] ys :: H) (fun _ => True) := fun K hK a w ha hw => by
  subst hk
  obtain ⟨ccs, ⟨Lc, h1⟩, h2, h3⟩ := hr.src
  have hsrc : (m2 = 0 ∧ ccs = []) ∨ ∃ b o, a2 = some ⟨b, o, none⟩ ∧ E3 w b o ccs := by
    rcases h3 H with h | ⟨b, o, k1, k2⟩
    · exact .inl h
    · exact .inr ⟨b, o, k1, k2 w hw⟩
  have hy1 : w6 E w ccs ys [] true := (hE.elems h1).stable (by simp)
  have hm2 := hr.slen.1
  obtain ⟨a', c', w', L1', r1, r2, r3, r4, -⟩ := a0V (P := P) (ty := ty) (c2 := c2) hT ht E.pos (show (row e E.k ad 0 0 []).holds w [] from ⟨by simp, .inl ⟨rfl, rfl, rfl⟩⟩) hsrc (by rw [hy1.len, hm2]) hy1.one (by rw [Nat.zero_add]; exact h63) (by rw [Nat.zero_add]; exact hbytes)
  obtain ⟨L, hs, hn, hst⟩ := id hw
  obtain ⟨d1, d2, d3⟩ := a6k (xs := ([] : List α)) (m := 0) rfl hm2 (by rw [Nat.zero_add]; exact h63) ⟨rfl, rfl⟩ hy1 (by simp) r2 r3 r4
  obtain ⟨k1, k2, k3⟩ := Step.call (Lp := []) (Lr := L) (by simpa using hst) (by simpa using hn) hs.inh (by simpa using d3) d2
  have hrun : (execOp a.eval ⟨some d, .call ⟨.builtin .append, #[x, y], #[T, T]⟩, ty, pos, af, g⟩).run P w = .ok (.value (.slice a' (0 + m2) c')) w' := by
    simp only [execOp, resolve, ha.ev hx, ha.ev hy, List.map_toArray, List.map_cons, List.map_nil, Sem.run_bind, Sem.run_pure, Result.andThen_ok, invoke, builtin, r1]
  simp only [Nat.zero_add, List.nil_append] at d1 hrun
  rw [Oper.wp, hrun]
  exact hK (a', c') trivial w _ _ (ha.put hd _) ⟨_, ⟨_, L, rfl, d1, hs.stable k3⟩, k2, k1⟩ (fun _ => r4.below)
end Go.Proofs.YtdopeopehgdccaaGreat
