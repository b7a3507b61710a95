import Derived.Test.YtdopeopehgdccaaGreatBb
namespace Go.Proofs.YtdopeopehgdccaaGreat
set_option linter.unusedVariables false
def inR (n lo hi : Int) : Bool := decide (lo ≤ n ∧ n ≤ hi)
def H0 {α : Type} (p : α → Bool) (s : List α) : Int := if s.any p then (s.findIdx p : Int) else -1
theorem P0 {α : Type} {p : α → Bool} {s : List α} {k : Nat} (hk : k < s.length) (h : ∀ x ∈ s.take k, p x = false) (hp : p s[k] = true) : (k : Int) = H0 p s := by
 have h1 : s.any p = true := List.any_eq_true.2 ⟨_, List.getElem_mem hk, hp⟩
 have h2 : s.findIdx p = k := by
  rw [List.findIdx_eq hk]
  refine ⟨hp, fun j hj => h _ ?_⟩
  rw [List.mem_take_iff_getElem]
  exact ⟨j, by omega, rfl⟩
 rw [H0, if_pos h1, h2]
theorem O2 {α : Type} {p : α → Bool} {s : List α} {k : Nat} (hk : ¬ k < s.length) (h : ∀ x ∈ s.take k, p x = false) : (-1 : Int) = H0 p s := by
 rw [List.take_of_length_le (by omega)] at h
 have : ¬ s.any p = true := fun h' => by
  obtain ⟨x, hx, hp⟩ := List.any_eq_true.1 h'
  rw [h x hx] at hp; cases hp
 rw [H0, if_neg this]
theorem a0Q {α : Type} {p : α → Bool} {s : List α} : decide (0 ≤ H0 p s) = s.any p := by
 unfold H0; split <;> simp_all
theorem T2 {α : Type} {p : α → Bool} {s : List α} {k : Nat} (hk : k < s.length) (h : ∀ x ∈ s.take k, p x = false) (hp : p s[k] = false) : ∀ x ∈ s.take (k + 1), p x = false := by
 intro x hx
 rw [List.take_succ_eq_append_getElem hk] at hx
 rcases List.mem_append.1 hx with hx | hx
 ·exact h x hx
 ·simp at hx; subst hx; exact hp
theorem b0I {α : Type} {p : α → Bool} {s : List α} {k : Nat} (hk : k < s.length) (hp : p s[k] = true) : s.any p = true := List.any_eq_true.2 ⟨_, List.getElem_mem hk, hp⟩
theorem a8C {α : Type} {p : α → Bool} {s : List α} {k : Nat} (hk : ¬ k < s.length) (h : ∀ x ∈ s.take k, p x = false) : s.any p = false := by
 rw [List.take_of_length_le (by omega)] at h
 rw [← Bool.not_eq_true]
 intro h'
 obtain ⟨x, hx, hp⟩ := List.any_eq_true.1 h'
 rw [h x hx] at hp; cases hp
def U6 (s : List Int) : Bool := inR (s.length : Int) 1 3 && !s.any fun n => !inR n 1 3
def N6 (s : List Int) (rel : Int) : Bool := U6 s && inR rel 0 ((s.length : Int) - 1)
def a0l (l : List Int) (arity : Int) : Bool := !l.any fun i => !inR i 0 (arity - 1)
def at0 (s : List Int) (i : Int) : Int := s.getD i.toNat 0
def b5t (s : List Int) (r : Int × Int × List Int) : Bool := N6 s r.1 && (N6 s r.2.1 && (decide ((r.2.2.length : Int) = at0 s r.2.1) && a0l r.2.2 (at0 s r.1)))
theorem J3 {α : Type} {s : List α} {i : Nat} {d : α} (h : i < s.length) : s.getD i d = s[i] := by simp [List.getD, h]
theorem a1e {s : List Int} {i : Int} (h : N6 s i = true) : 0 ≤ i ∧ i < s.length ∧ 1 ≤ s.getD i.toNat 0 ∧ s.getD i.toNat 0 ≤ 3 := by
 simp only [N6, U6, inR, Bool.and_eq_true, decide_eq_true_eq, Bool.not_eq_true', List.any_eq_false] at h
 obtain ⟨⟨_, h1⟩, h2, h3⟩ := h
 have h5 : i.toNat < s.length := by omega
 have h4 := h1 s[i.toNat] (List.getElem_mem h5)
 rw [J3 h5]
 simp at h4
 omega
theorem G0 {s : List Int} {i : Int} (h : i.toNat < s.length) : at0 s i = s[i.toNat] := by simp [at0, h]
def szR (t : Nat) (left : Int) : Int := if (t : Int) ≤ left then left - t else -1
theorem a0X {t : Nat} {l : Int} (h : szR t l < 0) (hl : 0 ≤ l) : l < t := by unfold szR at h; split at h <;> omega
theorem a1I {t : Nat} {l : Int} (h : ¬ szR t l < 0) (hl : 0 ≤ l) : szR t l = l - t ∧ (t : Int) ≤ l := by unfold szR at h ⊢; split at h <;> simp_all
theorem a1E {α : Type} {a b : List α} {g : Nat} (ha : g < a.length) (hb : g < b.length) (h : a.take g = b.take g) (he : a[g] = b[g]) : a.take (g + 1) = b.take (g + 1) := by
 rw [List.take_succ_eq_append_getElem ha, List.take_succ_eq_append_getElem hb, h, he]
theorem b3z {α : Type} {a b : List α} {g : Nat} (ha : a.length ≤ g) (hb : b.length ≤ g) (h : a.take g = b.take g) : a = b := by
 rwa [List.take_of_length_le ha, List.take_of_length_le hb] at h
theorem b6i {s : List Int} {r : Int} (h : inR r 0 ((s.length : Int) - 1) = false) : N6 s r = false := by simp [N6, h]
theorem b4V {s : List Int} {r : Int} (h : U6 s = false) : N6 s r = false := by simp [N6, h]
theorem frI {a b : Int} (h : a = b) : some (Value.int .i64 a) = some (Value.int .i64 b) := by rw [h]
def r9 {α : Type} (t : α → Nat) (l : List α) : Nat := (l.map t).sum
theorem P7 {α : Type} {t : α → Nat} {l : List α} {g : Nat} (h : g < l.length) : r9 t (l.take (g + 1)) = r9 t (l.take g) + t l[g] := by
 unfold r9; rw [List.take_succ_eq_append_getElem h, List.map_append, List.sum_append]; rfl
theorem R3 {α : Type} {t : α → Nat} {l : List α} {g : Nat} : r9 t (l.take g) ≤ r9 t l := by
 have : r9 t l = r9 t (l.take g) + r9 t (l.drop g) := by
  rw [r9, r9, r9, ← List.sum_append, ← List.map_append, List.take_append_drop]
 omega
theorem U8 {α : Type} {t : α → Nat} {l : List α} {g : Nat} (h : l.length ≤ g) : r9 t (l.take g) = r9 t l := by rw [List.take_of_length_le h]
def I9 {α : Type} (t : α → Nat) (l : List α) : Nat := l.length + r9 t l
theorem b0h {α : Type} {t : α → Nat} {l : List α} {left : Int} (h : left - (l.length : Int) < 0) : (-1 : Int) = szR (I9 t l) left := by unfold szR I9; split <;> omega
theorem b0B {α : Type} {t : α → Nat} {l : List α} {left : Int} {g n : Nat} (hg : g < l.length) (hn : t l[g] = n) (h : left - ((l.length : Int) + (r9 t (l.take g) : Nat)) < (n : Nat)) : (-1 : Int) = szR (I9 t l) left := by
 subst hn
 have h1 := R3 (t := t) (l := l) (g := g + 1)
 rw [P7 hg] at h1
 unfold szR I9; split <;> omega
theorem b0s {α : Type} {t : α → Nat} {l : List α} {left : Int} {g : Nat} (hg : l.length ≤ g) (h : (l.length : Int) + (r9 t (l.take g) : Nat) ≤ left) : left - ((l.length : Int) + (r9 t (l.take g) : Nat)) = szR (I9 t l) left := by
 rw [U8 hg] at h ⊢
 unfold szR I9; split <;> omega
theorem a4L {α : Type} {s : List α} {d : α} {g : Nat} (h : s.length ≤ g) : s.take g ++ List.replicate (s.length - g) d = s := by
 rw [List.take_of_length_le h, show s.length - g = 0 by omega]; simp
theorem a8Q {α : Type} {t : α → Nat} {l : List α} {g : Nat} (h : g < l.length) : t l[g] ≤ I9 t l := by
 have h1 := R3 (t := t) (l := l) (g := g + 1)
 rw [P7 h] at h1
 unfold I9; omega
theorem a3l {α : Type} {a b : List α} [Decidable (a = b)] (h : (a.length : Int) ≠ b.length) : false = decide (a = b) := by
 symm; rw [decide_eq_false_iff_not]; intro e; subst e; exact h rfl
theorem a3j {α : Type} {a b : List α} [Decidable (a = b)] {g : Nat} (ha : g < a.length) (hb : g < b.length) (h : a[g] ≠ b[g]) : false = decide (a = b) := by
 symm; rw [decide_eq_false_iff_not]; intro e; subst e; exact h rfl
theorem a2C {α : Type} {a b : List α} [Decidable (a = b)] {g : Nat} (ha : a.length ≤ g) (hb : b.length ≤ g) (h : a.take g = b.take g) : true = decide (a = b) := by
 symm; rw [decide_eq_true_eq]; exact b3z ha hb h
def a5K (s : List Int) (l : List (Int × Int × List Int)) : Bool := U6 s && (decide ((l.length : Int) ≤ 4) && !l.any fun r => !b5t s r)
end Go.Proofs.YtdopeopehgdccaaGreat

namespace Go.Proofs.YtdopeopehgdccaaGreat
set_option linter.unusedVariables false
def c1z (b : Bool) : Int := if b then 1 else 0
def c0z (log : List (Int × List Int)) (m : Int) : Int := ((log.countP fun a => decide (a.1 = m) : Nat) : Int)
def quo (l : List (Int × List Int × Int × Int × Int)) (m : Int) : Int := (l.getD m.toNat (0, [], 0, 0, 0)).2.2.2.2
def b6w (l : List (Int × List Int × Int × Int × Int)) (log : List (Int × List Int)) (m : Int) : Bool := !inR m 0 ((l.length : Int) - 1) || decide (quo l m < c0z log m)
def c0N (l : List (Int × List Int × Int × Int × Int)) (log : List (Int × List Int)) : Bool := !log.any fun a => b6w l log a.1
end Go.Proofs.YtdopeopehgdccaaGreat

namespace Go.Proofs.YtdopeopehgdccaaGreat
set_option linter.unusedVariables false
set_option linter.unusedSimpArgs false
def mkL {α : Type} (c : α → Nat) (m : α → Int → α) : List α → Int → List α
 | [], _ => []
 | x :: xs, k => m x k :: mkL c m xs (k + (c x : Nat))
section
variable {α : Type} {c : α → Nat} {m : α → Int → α}
theorem a1H : ∀ {xs : List α} {k : Int}, (mkL c m xs k).length = xs.length
 | [], _ => rfl
 | _ :: xs, k => by simp [mkL, a1H]
theorem b3W : ∀ {xs ys : List α} {k : Int}, mkL c m (xs ++ ys) k = mkL c m xs k ++ mkL c m ys (k + (r9 c xs : Nat))
 | [], ys, k => by simp [mkL, r9]
 | x :: xs, ys, k => by
  have h : (r9 c (x :: xs) : Int) = (c x : Int) + (r9 c xs : Int) := by simp [r9]
  simp [mkL, b3W (xs := xs), h, Int.add_assoc]
theorem a7a {a : List α} {k : Int} {g : Nat} (h : g < a.length) : (mkL c m (a.take g) k ++ a.drop g)[g]? = some a[g] := by
 rw [List.getElem?_append_right (by rw [a1H]; simp; omega), a1H, List.length_take, Nat.min_eq_left (by omega), Nat.sub_self, List.getElem?_drop]
 simp [h]
theorem a5P {a : List α} {k : Int} {g : Nat} {x : α} (h : g < a.length) (hx : x = m a[g] (k + (r9 c (a.take g) : Nat))) : (mkL c m (a.take g) k ++ a.drop g).set g x = mkL c m (a.take (g + 1)) k ++ a.drop (g + 1) := by
 subst hx
 rw [List.take_succ_eq_append_getElem h, b3W, List.drop_eq_getElem_cons h]
 have hl : (mkL c m (a.take g) k).length = g := by rw [a1H]; simp; omega
 rw [List.set_append_right _ _ (by omega), hl, Nat.sub_self]
 simp only [List.set_cons_zero, mkL, List.append_assoc, List.singleton_append]
theorem a2f {a : List α} {k : Int} {g : Nat} (h : a.length ≤ g) : mkL c m (a.take g) k ++ a.drop g = mkL c m a k := by
 rw [List.take_of_length_le h, List.drop_eq_nil_of_le h, List.append_nil]
theorem b2E : ∀ {a : List α} {k : Int} {g : Nat} (h : g < a.length), (mkL c m a k)[g]? = some (m a[g] (k + (r9 c (a.take g) : Nat)))
 | x :: xs, k, 0, _ => by simp [mkL, r9]
 | x :: xs, k, g + 1, h => by
  have h1 : g < xs.length := by simpa using h
  have e : (r9 c ((x :: xs).take (g + 1)) : Int) = (c x : Int) + (r9 c (xs.take g) : Int) := by simp [r9]
  simp only [mkL, List.getElem?_cons_succ, b2E h1, List.getElem_cons_succ, e, Int.add_assoc]
theorem a9H {a : List α} {k : Int} {g : Nat} (hz : mkL c m a k = a) (h : g < a.length) : m a[g] (k + (r9 c (a.take g) : Nat)) = a[g] := by
 have h1 := b2E (c := c) (m := m) (k := k) h
 rw [hz, List.getElem?_eq_getElem h] at h1
 exact (Option.some.inj h1).symm
theorem o1 (hc : ∀ x k, c (m x k) = c x) : ∀ {xs : List α} {k : Int}, r9 c (mkL c m xs k) = r9 c xs
 | [], _ => rfl
 | x :: xs, k => by
  have h := o1 hc (xs := xs) (k := k + (c x : Nat))
  simp only [r9, mkL, List.map_cons, List.sum_cons, hc] at h ⊢; rw [h]
theorem a3B (hc : ∀ x k, c (m x k) = c x) (hm : ∀ x k, m (m x k) k = m x k) : ∀ {xs : List α} {k : Int}, mkL c m (mkL c m xs k) k = mkL c m xs k
 | [], _ => rfl
 | x :: xs, k => by simp only [mkL, hc, hm, a3B hc hm]
end
theorem a4d {α : Type} {E : Enc α} {cs : List Value} {xs ys : α} (h : xs = ys) : [ow E cs xs].Perm [ow E cs ys] := by rw [h]
def E1 (_ : Int) : Nat := 1
def V7 (_ : Int) (k : Int) : Int := k
theorem a0K (x k : Int) : E1 (V7 x k) = E1 x := rfl
theorem b8v (x k : Int) : V7 (V7 x k) k = V7 x k := rfl
theorem a3s : ∀ {l : List Int}, r9 E1 l = l.length
 | [] => rfl
 | x :: l => by have h := a3s (l := l); simp only [r9, List.map_cons, List.sum_cons, List.length_cons] at h ⊢; rw [h]; simp [E1]; omega
def O9 (x : List Int) : Nat := r9 E1 x
def a2Q (x : List Int) (k : Int) : List Int := mkL E1 V7 x k
theorem a2l (x : List Int) (k : Int) : O9 (a2Q x k) = O9 x := o1 a0K
theorem b6X (x : List Int) (k : Int) : a2Q (a2Q x k) k = a2Q x k := a3B a0K b8v
def H2 (x : Int × List Int) : Nat := 1 + r9 E1 x.2
def a0T (x : Int × List Int) (k : Int) : Int × List Int := ((k), mkL E1 V7 x.2 (k + 1))
theorem a0Y (x : Int × List Int) (k : Int) : H2 (a0T x k) = H2 x := by simp [H2, a0T, o1 a0K]
def b2V (x : List (Int × List Int)) : Nat := r9 H2 x
def b6L (x : List (Int × List Int)) (k : Int) : List (Int × List Int) := mkL H2 a0T x k
theorem a0A (x : List (Int × List Int)) (k : Int) : b2V (b6L x k) = b2V x := o1 a0Y
def E2 (x : Int × List Int) : Nat := 1 + r9 E1 x.2
def U0 (x : Int × List Int) (k : Int) : Int × List Int := ((k), mkL E1 V7 x.2 (k + 1))
theorem a0q (x : Int × List Int) (k : Int) : E2 (U0 x k) = E2 x := by simp [E2, U0, o1 a0K]
def b2t (x : List (Int × List Int)) : Nat := r9 E2 x
def b6m (x : List (Int × List Int)) (k : Int) : List (Int × List Int) := mkL E2 U0 x k
theorem a0F (x : List (Int × List Int)) (k : Int) : b2t (b6m x k) = b2t x := o1 a0q
def E4 (x : Int × List Int) : Nat := 1 + r9 E1 x.2
def R8 (x : Int × List Int) (k : Int) : Int × List Int := ((k), mkL E1 V7 x.2 (k + 1))
theorem Q9 (x : Int × List Int) (k : Int) : E4 (R8 x k) = E4 x := by simp [E4, R8, o1 a0K]
theorem a5b (x : Int × List Int) (k : Int) : R8 (R8 x k) k = R8 x k := by simp [R8, o1 a0K, a3B a0K b8v]
def a9Y (x : List (Int × List Int)) : Nat := r9 E4 x
def b4v (x : List (Int × List Int)) (k : Int) : List (Int × List Int) := mkL E4 R8 x k
theorem V5 (x : List (Int × List Int)) (k : Int) : a9Y (b4v x k) = a9Y x := o1 Q9
def a5F (x : Int × Int) : Nat := 1 + 1
def b0A (x : Int × Int) (k : Int) : Int × Int := ((k), (k + 1))
theorem a0S (x : Int × Int) (k : Int) : a5F (b0A x k) = a5F x := by simp [a5F, b0A]
def b2h (x : List (Int × Int)) : Nat := r9 a5F x
def b6e (x : List (Int × Int)) (k : Int) : List (Int × Int) := mkL a5F b0A x k
theorem a0E (x : List (Int × Int)) (k : Int) : b2h (b6e x k) = b2h x := o1 a0S
def a4B (x : List Int × List (Int × List Int)) : Nat := r9 E1 x.1 + r9 E2 x.2
def a8K (x : List Int × List (Int × List Int)) (k : Int) : List Int × List (Int × List Int) := (mkL E1 V7 x.1 (k), mkL E2 U0 x.2 (k + (r9 E1 x.1 : Nat)))
theorem a0b (x : List Int × List (Int × List Int)) (k : Int) : a4B (a8K x k) = a4B x := by simp [a4B, a8K, o1 a0q, o1 a0K]
def b0U (x : List (List Int × List (Int × List Int))) : Nat := r9 a4B x
def b5h (x : List (List Int × List (Int × List Int))) (k : Int) : List (List Int × List (Int × List Int)) := mkL a4B a8K x k
theorem Y5 (x : List (List Int × List (Int × List Int))) (k : Int) : b0U (b5h x k) = b0U x := o1 a0b
def a3v (x : List Int × List Int) : Nat := r9 E1 x.1 + r9 E1 x.2
def a6h (x : List Int × List Int) (k : Int) : List Int × List Int := (mkL E1 V7 x.1 (k), mkL E1 V7 x.2 (k + (r9 E1 x.1 : Nat)))
theorem U4 (x : List Int × List Int) (k : Int) : a3v (a6h x k) = a3v x := by simp [a3v, a6h, o1 a0K]
def a8o (x : List (List Int × List Int)) : Nat := r9 a3v x
def b3A (x : List (List Int × List Int)) (k : Int) : List (List Int × List Int) := mkL a3v a6h x k
theorem T7 (x : List (List Int × List Int)) (k : Int) : a8o (b3A x k) = a8o x := o1 U4
def I5 (x : Int × List Int × Int × Int × Int) : Nat := 1 + r9 E1 x.2.1 + 1 + 1 + 1
def a1u (x : Int × List Int × Int × Int × Int) (k : Int) : Int × List Int × Int × Int × Int := ((k), mkL E1 V7 x.2.1 (k + 1), (k + 1 + (r9 E1 x.2.1 : Nat)), (k + 1 + (r9 E1 x.2.1 : Nat) + 1), (k + 1 + (r9 E1 x.2.1 : Nat) + 1 + 1))
theorem W4 (x : Int × List Int × Int × Int × Int) (k : Int) : I5 (a1u x k) = I5 x := by simp [I5, a1u, o1 a0K]
def a9O (x : List (Int × List Int × Int × Int × Int)) : Nat := r9 I5 x
def b4O (x : List (Int × List Int × Int × Int × Int)) (k : Int) : List (Int × List Int × Int × Int × Int) := mkL I5 a1u x k
theorem V6 (x : List (Int × List Int × Int × Int × Int)) (k : Int) : a9O (b4O x k) = a9O x := o1 W4
def a5x (x : Int × Int × List Int) : Nat := 1 + 1 + r9 E1 x.2.2
def b0w (x : Int × Int × List Int) (k : Int) : Int × Int × List Int := ((k), (k + 1), mkL E1 V7 x.2.2 (k + 1 + 1))
theorem a0V (x : Int × Int × List Int) (k : Int) : a5x (b0w x k) = a5x x := by simp [a5x, b0w, o1 a0K]
def b3m (x : List (Int × Int × List Int)) : Nat := r9 a5x x
def b6A (x : List (Int × Int × List Int)) (k : Int) : List (Int × Int × List Int) := mkL a5x b0w x k
theorem a0D (x : List (Int × Int × List Int)) (k : Int) : b3m (b6A x k) = b3m x := o1 a0V
def a9P (x : (List Int × List (Int × List Int)) × List (Int × List Int)) : Nat := r9 E1 x.1.1 + r9 E2 x.1.2 + r9 E2 x.2
def b4M (x : (List Int × List (Int × List Int)) × List (Int × List Int)) (k : Int) : (List Int × List (Int × List Int)) × List (Int × List Int) := ((mkL E1 V7 x.1.1 (k), mkL E2 U0 x.1.2 (k + (r9 E1 x.1.1 : Nat))), mkL E2 U0 x.2 (k + (r9 E1 x.1.1 : Nat) + (r9 E2 x.1.2 : Nat)))
def b9j (x : List ((List Int × List (Int × List Int)) × List (Int × List Int))) : Nat := r9 a9P x
def b9h (x : List ((List Int × List (Int × List Int)) × List (Int × List Int))) (k : Int) : List ((List Int × List (Int × List Int)) × List (Int × List Int)) := mkL a9P b4M x k
def a3T (x : Int × (Int × List Int) × Int × List Int) : Nat := 1 + 1 + r9 E1 x.2.1.2 + 1 + r9 E1 x.2.2.2
def a7Q (x : Int × (Int × List Int) × Int × List Int) (k : Int) : Int × (Int × List Int) × Int × List Int := ((k), ((k + 1), mkL E1 V7 x.2.1.2 (k + 1 + 1)), ((k + 1 + 1 + (r9 E1 x.2.1.2 : Nat)), mkL E1 V7 x.2.2.2 (k + 1 + 1 + (r9 E1 x.2.1.2 : Nat) + 1)))
theorem a0W (x : Int × (Int × List Int) × Int × List Int) (k : Int) : a3T (a7Q x k) = a3T x := by simp [a3T, a7Q, o1 a0K]
def b2k (x : List (Int × (Int × List Int) × Int × List Int)) : Nat := r9 a3T x
def b6g (x : List (Int × (Int × List Int) × Int × List Int)) (k : Int) : List (Int × (Int × List Int) × Int × List Int) := mkL a3T a7Q x k
theorem a0G (x : List (Int × (Int × List Int) × Int × List Int)) (k : Int) : b2k (b6g x k) = b2k x := o1 a0W
def b2A (x : List (Int × (Int × List Int) × Int × List Int)) : Nat := r9 a3T x
def b6O (x : List (Int × (Int × List Int) × Int × List Int)) (k : Int) : List (Int × (Int × List Int) × Int × List Int) := (mkL a3T a7Q x (k))
def b9R (x : List (List (Int × (Int × List Int) × Int × List Int))) : Nat := r9 b2A x
def b9T (x : List (List (Int × (Int × List Int) × Int × List Int))) (k : Int) : List (List (Int × (Int × List Int) × Int × List Int)) := mkL b2A b6O x k
def a9v (x : (List (Int × List Int)) × List Int × (List (Int × List Int)) × Int) : Nat := r9 H2 x.1 + r9 E1 x.2.1 + r9 E4 x.2.2.1 + 1
def b4L (x : (List (Int × List Int)) × List Int × (List (Int × List Int)) × Int) (k : Int) : (List (Int × List Int)) × List Int × (List (Int × List Int)) × Int := (mkL H2 a0T x.1 (k), mkL E1 V7 x.2.1 (k + (r9 H2 x.1 : Nat)), mkL E4 R8 x.2.2.1 (k + (r9 H2 x.1 : Nat) + (r9 E1 x.2.1 : Nat)), (k + (r9 H2 x.1 : Nat) + (r9 E1 x.2.1 : Nat) + (r9 E4 x.2.2.1 : Nat)))
def b9k (x : List ((List (Int × List Int)) × List Int × (List (Int × List Int)) × Int)) : Nat := r9 a9v x
def b9i (x : List ((List (Int × List Int)) × List Int × (List (Int × List Int)) × Int)) (k : Int) : List ((List (Int × List Int)) × List Int × (List (Int × List Int)) × Int) := mkL a9v b4L x k
def a5A (x : (List (Int × List Int)) × (List (Int × List Int)) × List Int) : Nat := r9 H2 x.1 + r9 H2 x.2.1 + r9 E1 x.2.2
def b0g (x : (List (Int × List Int)) × (List (Int × List Int)) × List Int) (k : Int) : (List (Int × List Int)) × (List (Int × List Int)) × List Int := (mkL H2 a0T x.1 (k), mkL H2 a0T x.2.1 (k + (r9 H2 x.1 : Nat)), mkL E1 V7 x.2.2 (k + (r9 H2 x.1 : Nat) + (r9 H2 x.2.1 : Nat)))
def b6Y (x : List ((List (Int × List Int)) × (List (Int × List Int)) × List Int)) : Nat := r9 a5A x
def b7a (x : List ((List (Int × List Int)) × (List (Int × List Int)) × List Int)) (k : Int) : List ((List (Int × List Int)) × (List (Int × List Int)) × List Int) := mkL a5A b0g x k
end Go.Proofs.YtdopeopehgdccaaGreat

namespace Go.Proofs.YtdopeopehgdccaaGreat
set_option linter.unusedVariables false
def U5 (l : List Int) : Bool := !l.any fun n => !inR n 0 9
def J2 (s : List Int) (f : Int × List Int) : Bool := N6 s f.1 && (decide ((f.2.length : Int) = at0 s f.1) && U5 f.2)
theorem a6l {s : List Int} {f : Int × List Int} (h : N6 s f.1 = false) : false = J2 s f := by simp [J2, h]
theorem a9A {s : List Int} {f : Int × List Int} {k : Int} (e : at0 s f.1 = k) (h : (f.2.length : Int) ≠ k) : false = J2 s f := by simp [J2, e, h]
theorem b4B {s : List Int} {f : Int × List Int} (h : U5 f.2 = false) : false = J2 s f := by simp [J2, h]
theorem b1e {s : List Int} {f : Int × List Int} {k : Int} (h : N6 s f.1 = true) (e : at0 s f.1 = k) (h2 : (f.2.length : Int) = k) : U5 f.2 = J2 s f := by simp [J2, h, e, h2]
def b6B (s : List Int) (r : Int × Int × List Int) (f : Int × List Int) : Bool := b5t s r && (J2 s f && decide (f.1 = r.1))
def a2W (m : List Int) (v : List Int) : List Int := m.map (at0 v)
def c0m (s : List Int) (r : Int × Int × List Int) (f : Int × List Int) : Int := cond (b6B s r f) r.2.1 0
def c0v (s : List Int) (r : Int × Int × List Int) (f : Int × List Int) : List Int := cond (b6B s r f) (a2W r.2.2 f.2) []
theorem a4F {α : Type} {c t : α → Nat} {n : Nat} (h : ∀ x, c x ≤ n + t x) : ∀ {l : List α}, r9 c l ≤ n * l.length + r9 t l
 | [] => by simp [r9]
 | x :: l => by
  have h1 := a4F h (l := l)
  have h2 := h x
  simp only [r9, List.map_cons, List.sum_cons, List.length_cons, Nat.mul_add, Nat.mul_one] at h1 ⊢; omega
end Go.Proofs.YtdopeopehgdccaaGreat

namespace Go.Proofs.YtdopeopehgdccaaGreat
set_option linter.unusedVariables false
def F3 (b : List Int × List Int) (t : Int) : Int :=
 if inR t 10 17 then (let i := H0 (fun x => decide (x = t)) (b.1.take (min b.1.length b.2.length)); if i < 0 then -1 else at0 b.2 i) else t
theorem b0t {b : List Int × List Int} {t : Int} (h : inR t 10 17 = false) : t = F3 b t := by simp [F3, h]
theorem b2Q {b : List Int × List Int} {t : Int} (h : inR t 10 17 = true) (h2 : H0 (fun x => decide (x = t)) (b.1.take (min b.1.length b.2.length)) < 0) : -1 = F3 b t := by simp only [F3, h, if_true, if_pos h2]
theorem a7p {α : Type} {p : α → Bool} {s : List α} (h : ¬ H0 p s < 0) : 0 ≤ H0 p s ∧ (H0 p s).toNat < s.length := by
 unfold H0 at *
 by_cases q : s.any p = true
 ·rw [if_pos q] at h ⊢
  have := List.findIdx_lt_length.2 (List.any_eq_true.1 q)
  omega
 ·rw [if_neg q] at h; omega
theorem b6C {b : List Int × List Int} {t : Int} (h : inR t 10 17 = true) (h2 : ¬ H0 (fun x => decide (x = t)) (b.1.take (min b.1.length b.2.length)) < 0) (h3 : (H0 (fun x => decide (x = t)) (b.1.take (min b.1.length b.2.length))).toNat < b.2.length) :
  b.2[(H0 (fun x => decide (x = t)) (b.1.take (min b.1.length b.2.length))).toNat] = F3 b t := by
 simp only [F3, h, if_true, if_neg h2, G0 h3]
theorem b3j {b : List Int × List Int} {t : Int} {g : Nat} (h : inR t 10 17 = true) (h1 : g < b.1.length) (h2 : g < b.2.length) (e : b.1[g] = t) (pa : ∀ x ∈ b.1.take g, decide (x = t) = false) : b.2[g] = F3 b t := by
 have h3 : g < (b.1.take (min b.1.length b.2.length)).length := by simp; omega
 have hi := P0 (p := fun x => decide (x = t)) h3 (by rw [List.take_take, Nat.min_eq_left (by omega)]; exact pa) (by simp [e])
 have h4 : ¬ ((g : Nat) : Int) < 0 := by omega
 simp only [F3, h, if_true, ← hi, if_neg h4, G0 (i := (g : Int)) (s := b.2) (by simpa using h2)]
 rfl
theorem b1m {b : List Int × List Int} {t : Int} {g : Nat} (h : inR t 10 17 = true) (h1 : ¬ (g < b.1.length ∧ g < b.2.length)) (pa : ∀ x ∈ b.1.take g, decide (x = t) = false) : -1 = F3 b t := by
 refine b2Q h ?_
 rw [← O2 (p := fun x => decide (x = t)) (s := b.1.take (min b.1.length b.2.length)) (k := min b.1.length b.2.length) (by simp) ?_]
 ·omega
 ·intro x hx
  rw [List.take_take, Nat.min_self] at hx
  refine pa x ?_
  rw [List.mem_take_iff_getElem] at hx ⊢
  obtain ⟨i, hi, rfl⟩ := hx
  exact ⟨i, by omega, rfl⟩
theorem a6v {b : List Int × List Int} {t : Int} (h : I64 t) (hb : ∀ x ∈ b.2, I64 x) : I64 (F3 b t) := by
 simp only [F3]
 split
 ·split
  ·exact ⟨by decide, by decide⟩
  ·unfold at0
   rcases Nat.lt_or_ge (H0 (fun x => decide (x = t)) (b.1.take (min b.1.length b.2.length))).toNat b.2.length with h1 | h1
   ·rw [J3 h1]; exact hb _ (List.getElem_mem h1)
   ·have : b.2.getD (H0 (fun x => decide (x = t)) (b.1.take (min b.1.length b.2.length))).toNat 0 = 0 := by simp [List.getD, List.getElem?_eq_none h1]
    rw [this]; exact ⟨by decide, by decide⟩
 ·exact h
theorem a7x {b : List Int × List Int} {l : List Int} (h : ∀ x ∈ l, I64 x) (h1 : ∀ x ∈ b.1, I64 x) (h2 : ∀ x ∈ b.2, I64 x) : ∀ x ∈ l, I64 (F3 b x) := fun x hx => a6v (h x hx) h2
end Go.Proofs.YtdopeopehgdccaaGreat

namespace Go.Proofs.YtdopeopehgdccaaGreat
set_option linter.unusedVariables false
def pick {α : Type} (p : Nat → Bool) : List α → Nat → List α
 | [], _ => []
 | x :: xs, i => if p i then x :: pick p xs (i + 1) else pick p xs (i + 1)
def b9r (mask : Int) (i : Nat) : Bool := decide (0 < mask) && decide (b6o (mask / 2 ^ i) 1 = 1)
def c1b (l : List (Int × Int × List Int)) (mask : Int) : List (Int × Int × List Int) := pick (b9r mask) (l.take 20) 0
theorem O6 {P : Program} {Q : Exit → Act → World → Prop} {n : Nat} {w0 : World} {L0 : List Nat} {fr : Fr} {H : List HP} {d : Nat} {ty : TypeId} {pos : String} {af : Array Edge} {g : Option (Nat × Bool)} {α : Type} {E : Enc α} {T e e2 : TypeId} {agg : Bool} {k m2 : Nat} {z : List Value} {by' : Nat} {x y : Operand} {ad a2 : Option Addr} {c2 : Nat} {ys : List α} (hE : Plain E) (hT : P.underlying T = some (.slice e)) (ht : TyOk P e agg k z by') (hk : k = E.k)
  (hx : ev fr x = some (.slice ad 0 0)) (hy : ev fr y = some (.slice a2 m2 c2)) (hr : Ro w0 L0 (Enc.sl e2 E) [.slice a2 m2 c2] ys) (h63 : m2 ≤ 9223372036854775807) (hbytes : m2 * by' ≤ 140737488355328) (hd : d < n) :
  Nop P Q n w0 L0 fr H ⟨some d, .call ⟨.builtin .append, #[x, y], #[T, T]⟩, ty, pos, af, g⟩ true (κ := Option Addr × Nat) (fun p => (d, .slice p.1 m2 p.2) :: fr) (fun p => ow (Enc.sl e E) [.slice p.1 m2 p.2] ys :: H) (fun _ => True) := fun K hK a w ha hw => by
 subst hk
 obtain ⟨ccs, ⟨Lc, h1⟩, h2, h3⟩ := hr.src
 have hsrc : (m2 = 0 ∧ ccs = []) ∨ ∃ b o, a2 = some ⟨b, o, none⟩ ∧ M6 w b o ccs := by
  rcases h3 H with h | ⟨b, o, k1, k2⟩
  ·exact .inl h
  ·exact .inr ⟨b, o, k1, k2 w hw⟩
 have hy1 : D8 E w ccs ys [] true := (hE.elems h1).stable (by simp)
 have hm2 := hr.slen.1
 obtain ⟨a', c', w', L1', r1, r2, r3, r4, -⟩ := a2B (P := P) (ty := ty) (c2 := c2) hT ht E.pos (show (row e E.k ad 0 0 []).holds w [] from ⟨by simp, .inl ⟨rfl, rfl, rfl⟩⟩) hsrc (by rw [hy1.len, hm2]) hy1.one (by rw [Nat.zero_add]; exact h63) (by rw [Nat.zero_add]; exact hbytes)
 obtain ⟨L, hs, hn, hst⟩ := id hw
 obtain ⟨d1, d2, d3⟩ := b0T (xs := ([] : List α)) (m := 0) rfl hm2 (by rw [Nat.zero_add]; exact h63) ⟨rfl, rfl⟩ hy1 (by simp) r2 r3 r4
 obtain ⟨k1, k2, k3⟩ := Step.call (Lp := []) (Lr := L) (by simpa using hst) (by simpa using hn) hs.inh (by simpa using d3) d2
 have hrun : (execOp a.eval ⟨some d, .call ⟨.builtin .append, #[x, y], #[T, T]⟩, ty, pos, af, g⟩).run P w = .ok (.value (.slice a' (0 + m2) c')) w' := by
  simp only [execOp, resolve, ha.ev hx, ha.ev hy, List.map_toArray, List.map_cons, List.map_nil, Sem.run_bind, Sem.run_pure, Result.andThen_ok, invoke, builtin, r1]
 simp only [Nat.zero_add, List.nil_append] at d1 hrun
 rw [Oper.wp, hrun]
 exact hK (a', c') trivial w _ _ (ha.put hd _) ⟨_, ⟨_, L, rfl, d1, hs.stable k3⟩, k2, k1⟩ (fun _ => r4.below)
end Go.Proofs.YtdopeopehgdccaaGreat
