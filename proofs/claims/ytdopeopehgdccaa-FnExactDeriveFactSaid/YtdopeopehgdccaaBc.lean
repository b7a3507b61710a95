import Derived.Test.YtdopeopehgdccaaBb
namespace Go.Proofs.Ytdopeopehgdccaa
set_option linter.unusedVariables false
def inR (n lo hi : Int) : Bool := decide (lo ≤ n ∧ n ≤ hi)
/-- slices.IndexFunc -/
def H3 {α : Type} (p : α → Bool) (s : List α) : Int := if s.any p then (s.findIdx p : Int) else -1
theorem E0 {α : Type} {p : α → Bool} {s : List α} {k : Nat} (hk : k < s.length) (h : ∀ x ∈ s.take k, p x = false) (hp : p s[k] = true) : (k : Int) = H3 p s := by
  have h1 : s.any p = true := List.any_eq_true.2 ⟨_, List.getElem_mem hk, hp⟩
  have h2 : s.findIdx p = k := by
    rw [List.findIdx_eq hk]
    refine ⟨hp, fun j hj => h _ ?_⟩
    rw [List.mem_take_iff_getElem]
    exact ⟨j, by omega, rfl⟩
  rw [H3, if_pos h1, h2]
theorem C3 {α : Type} {p : α → Bool} {s : List α} {k : Nat} (hk : ¬ k < s.length) (h : ∀ x ∈ s.take k, p x = false) : (-1 : Int) = H3 p s := by
  rw [List.take_of_length_le (by omega)] at h
  have : ¬ s.any p = true := fun h' => by
    obtain ⟨x, hx, hp⟩ := List.any_eq_true.1 h'
    rw [h x hx] at hp; cases hp
  rw [H3, if_neg this]
theorem I5 {α : Type} {p : α → Bool} {s : List α} : decide (0 ≤ H3 p s) = s.any p := by
  unfold H3; split <;> simp_all
theorem v7 {α : Type} {p : α → Bool} {s : List α} {k : Nat} (hk : k < s.length) (h : ∀ x ∈ s.take k, p x = false) (hp : p s[k] = false) : ∀ x ∈ s.take (k + 1), p x = false := by
  intro x hx
  rw [List.take_succ_eq_append_getElem hk] at hx
  rcases List.mem_append.1 hx with hx | hx
  · exact h x hx
  · simp at hx; subst hx; exact hp
theorem J9 {α : Type} {p : α → Bool} {s : List α} {k : Nat} (hk : k < s.length) (hp : p s[k] = true) : s.any p = true := List.any_eq_true.2 ⟨_, List.getElem_mem hk, hp⟩
theorem G8 {α : Type} {p : α → Bool} {s : List α} {k : Nat} (hk : ¬ k < s.length) (h : ∀ x ∈ s.take k, p x = false) : s.any p = false := by
  rw [List.take_of_length_le (by omega)] at h
  rw [← Bool.not_eq_true]
  intro h'
  obtain ⟨x, hx, hp⟩ := List.any_eq_true.1 h'
  rw [h x hx] at hp; cases hp
def l2 (s : List Int) : Bool := inR (s.length : Int) 1 3 && !s.any fun n => !inR n 1 3
def l3 (s : List Int) (rel : Int) : Bool := l2 s && inR rel 0 ((s.length : Int) - 1)
def F7 (l : List Int) (arity : Int) : Bool := !l.any fun i => !inR i 0 (arity - 1)
def at0 (s : List Int) (i : Int) : Int := s.getD i.toNat 0
def g9 (s : List Int) (r : Int × Int × List Int) : Bool := l3 s r.1 && (l3 s r.2.1 && (decide ((r.2.2.length : Int) = at0 s r.2.1) && F7 r.2.2 (at0 s r.1)))
theorem u8 {α : Type} {s : List α} {i : Nat} {d : α} (h : i < s.length) : s.getD i d = s[i] := by simp [List.getD, h]
theorem w2 {s : List Int} {i : Int} (h : l3 s i = true) : 0 ≤ i ∧ i < s.length ∧ 1 ≤ s.getD i.toNat 0 ∧ s.getD i.toNat 0 ≤ 3 := by
  simp only [l3, l2, inR, Bool.and_eq_true, decide_eq_true_eq, Bool.not_eq_true', List.any_eq_false] at h
  obtain ⟨⟨_, h1⟩, h2, h3⟩ := h
  have h5 : i.toNat < s.length := by omega
  have h4 := h1 s[i.toNat] (List.getElem_mem h5)
  rw [u8 h5]
  simp at h4
  omega
theorem m5 {s : List Int} {i : Int} (h : i.toNat < s.length) : at0 s i = s[i.toNat] := by simp [at0, h]
def szR (t : Nat) (left : Int) : Int := if (t : Int) ≤ left then left - t else -1
theorem E4 {t : Nat} {l : Int} (h : szR t l < 0) (hl : 0 ≤ l) : l < t := by unfold szR at h; split at h <;> omega
theorem G9 {t : Nat} {l : Int} (h : ¬ szR t l < 0) (hl : 0 ≤ l) : szR t l = l - t ∧ (t : Int) ≤ l := by unfold szR at h ⊢; split at h <;> simp_all
theorem H4 {α : Type} {a b : List α} {g : Nat} (ha : g < a.length) (hb : g < b.length) (h : a.take g = b.take g) (he : a[g] = b[g]) : a.take (g + 1) = b.take (g + 1) := by
  rw [List.take_succ_eq_append_getElem ha, List.take_succ_eq_append_getElem hb, h, he]
theorem a0z {α : Type} {a b : List α} {g : Nat} (ha : a.length ≤ g) (hb : b.length ≤ g) (h : a.take g = b.take g) : a = b := by
  rwa [List.take_of_length_le ha, List.take_of_length_le hb] at h
theorem R3 {s : List Int} {r : Int × Int × List Int} (h : l3 s r.1 = false) : false = g9 s r := by simp [g9, h]
theorem a0O {s : List Int} {r : Int × Int × List Int} (h : l3 s r.2.1 = false) : false = g9 s r := by simp [g9, h]
theorem a0N {s : List Int} {r : Int × Int × List Int} {k : Int} (e : at0 s r.2.1 = k) (h : (r.2.2.length : Int) ≠ k) : false = g9 s r := by simp [g9, e, h]
theorem a0X {s : List Int} {r : Int × Int × List Int} {k : Int} (e : at0 s r.1 = k) (h : F7 r.2.2 k = false) : false = g9 s r := by simp [g9, e, h]
theorem a0J {s : List Int} {r : Int × Int × List Int} {k l : Int} (h1 : l3 s r.1 = true) (h2 : l3 s r.2.1 = true) (e : at0 s r.1 = k) (e2 : at0 s r.2.1 = l) (h : (r.2.2.length : Int) = l) (h4 : F7 r.2.2 k = true) : true = g9 s r := by simp [g9, h1, h2, e, e2, h, h4]
theorem Q0 {s : List Int} {r : Int} (h : inR r 0 ((s.length : Int) - 1) = false) : l3 s r = false := by simp [l3, h]
theorem W4 {s : List Int} {r : Int} (h : l2 s = false) : l3 s r = false := by simp [l3, h]
theorem frI {a b : Int} (h : a = b) : some (Value.int .i64 a) = some (Value.int .i64 b) := by rw [h]
/-- the sum of t over a list, one for each element beside it -/
def c7 {α : Type} (t : α → Nat) (l : List α) : Nat := (l.map t).sum
theorem s8 {α : Type} {t : α → Nat} {l : List α} {g : Nat} (h : g < l.length) : c7 t (l.take (g + 1)) = c7 t (l.take g) + t l[g] := by
  unfold c7; rw [List.take_succ_eq_append_getElem h, List.map_append, List.sum_append]; rfl
theorem w9 {α : Type} {t : α → Nat} {l : List α} {g : Nat} : c7 t (l.take g) ≤ c7 t l := by
  have : c7 t l = c7 t (l.take g) + c7 t (l.drop g) := by
    rw [c7, c7, c7, ← List.sum_append, ← List.map_append, List.take_append_drop]
  omega
theorem y8 {α : Type} {t : α → Nat} {l : List α} {g : Nat} (h : l.length ≤ g) : c7 t (l.take g) = c7 t l := by rw [List.take_of_length_le h]
/-- what szXS reckons of a list -/
def x4 {α : Type} (t : α → Nat) (l : List α) : Nat := l.length + c7 t l
theorem a0G {α : Type} {t : α → Nat} {l : List α} {left : Int} (h : left - (l.length : Int) < 0) : (-1 : Int) = szR (x4 t l) left := by unfold szR x4; split <;> omega
theorem a0A {α : Type} {t : α → Nat} {l : List α} {left : Int} {g n : Nat} (hg : g < l.length) (hn : t l[g] = n) (h : left - ((l.length : Int) + (c7 t (l.take g) : Nat)) < (n : Nat)) : (-1 : Int) = szR (x4 t l) left := by
  subst hn
  have h1 := w9 (t := t) (l := l) (g := g + 1)
  rw [s8 hg] at h1
  unfold szR x4; split <;> omega
theorem a0F {α : Type} {t : α → Nat} {l : List α} {left : Int} {g : Nat} (hg : l.length ≤ g) (h : (l.length : Int) + (c7 t (l.take g) : Nat) ≤ left) : left - ((l.length : Int) + (c7 t (l.take g) : Nat)) = szR (x4 t l) left := by
  rw [y8 hg] at h ⊢
  unfold szR x4; split <;> omega
theorem M4 {α : Type} {s : List α} {d : α} {g : Nat} (h : s.length ≤ g) : s.take g ++ List.replicate (s.length - g) d = s := by
  rw [List.take_of_length_le h, show s.length - g = 0 by omega]; simp
theorem a0v {α : Type} {t : α → Nat} {l : List α} {g : Nat} (h : g < l.length) : t l[g] ≤ x4 t l := by
  have h1 := w9 (t := t) (l := l) (g := g + 1)
  rw [s8 h] at h1
  unfold x4; omega
theorem N4 {α : Type} {a b : List α} [Decidable (a = b)] (h : (a.length : Int) ≠ b.length) : false = decide (a = b) := by
  symm; rw [decide_eq_false_iff_not]; intro e; subst e; exact h rfl
theorem M7 {α : Type} {a b : List α} [Decidable (a = b)] {g : Nat} (ha : g < a.length) (hb : g < b.length) (h : a[g] ≠ b[g]) : false = decide (a = b) := by
  symm; rw [decide_eq_false_iff_not]; intro e; subst e; exact h rfl
theorem K7 {α : Type} {a b : List α} [Decidable (a = b)] {g : Nat} (ha : a.length ≤ g) (hb : b.length ≤ g) (h : a.take g = b.take g) : true = decide (a = b) := by
  symm; rw [decide_eq_true_eq]; exact a0z ha hb h
def g0 (s : List Int) (l : List (Int × Int × List Int)) : Bool := l2 s && (decide ((l.length : Int) ≤ 4) && !l.any fun r => !g9 s r)
end Go.Proofs.Ytdopeopehgdccaa

namespace Go.Proofs.Ytdopeopehgdccaa
set_option linter.unusedVariables false
def a4z (b : Bool) : Int := if b then 1 else 0
def a4a (log : List (Int × List Int)) (m : Int) : Int := ((log.countP fun a => decide (a.1 = m) : Nat) : Int)
def quo (l : List (Int × List Int × Int × Int × Int)) (m : Int) : Int := (l.getD m.toNat (0, [], 0, 0, 0)).2.2.2.2
def a1C (l : List (Int × List Int × Int × Int × Int)) (log : List (Int × List Int)) (m : Int) : Bool := !inR m 0 ((l.length : Int) - 1) || decide (quo l m < a4a log m)
def a4i (l : List (Int × List Int × Int × Int × Int)) (log : List (Int × List Int)) : Bool := !log.any fun a => a1C l log a.1
end Go.Proofs.Ytdopeopehgdccaa

namespace Go.Proofs.Ytdopeopehgdccaa
set_option linter.unusedVariables false
set_option linter.unusedSimpArgs false
def mkL {α : Type} (c : α → Nat) (m : α → Int → α) : List α → Int → List α
  | [], _ => []
  | x :: xs, k => m x k :: mkL c m xs (k + (c x : Nat))
section
variable {α : Type} {c : α → Nat} {m : α → Int → α}
theorem C1 : ∀ {xs : List α} {k : Int}, (mkL c m xs k).length = xs.length
  | [], _ => rfl
  | _ :: xs, k => by simp [mkL, C1]
theorem a0D : ∀ {xs ys : List α} {k : Int}, mkL c m (xs ++ ys) k = mkL c m xs k ++ mkL c m ys (k + (c7 c xs : Nat))
  | [], ys, k => by simp [mkL, c7]
  | x :: xs, ys, k => by
    have h : (c7 c (x :: xs) : Int) = (c x : Int) + (c7 c xs : Int) := by simp [c7]
    simp [mkL, a0D (xs := xs), h, Int.add_assoc]
theorem a1m {a : List α} {k : Int} {g : Nat} (h : g < a.length) : (mkL c m (a.take g) k ++ a.drop g)[g]? = some a[g] := by
  rw [List.getElem?_append_right (by rw [C1]; simp; omega), C1, List.length_take, Nat.min_eq_left (by omega), Nat.sub_self, List.getElem?_drop]
  simp [h]
theorem Y1 {a : List α} {k : Int} {g : Nat} {x : α} (h : g < a.length) (hx : x = m a[g] (k + (c7 c (a.take g) : Nat))) : (mkL c m (a.take g) k ++ a.drop g).set g x = mkL c m (a.take (g + 1)) k ++ a.drop (g + 1) := by
  subst hx
  rw [List.take_succ_eq_append_getElem h, a0D, List.drop_eq_getElem_cons h]
  have hl : (mkL c m (a.take g) k).length = g := by rw [C1]; simp; omega
  rw [List.set_append_right _ _ (by omega), hl, Nat.sub_self]
  simp only [List.set_cons_zero, mkL, List.append_assoc, List.singleton_append]
theorem J6 {a : List α} {k : Int} {g : Nat} (h : a.length ≤ g) : mkL c m (a.take g) k ++ a.drop g = mkL c m a k := by
  rw [List.take_of_length_le h, List.drop_eq_nil_of_le h, List.append_nil]
theorem a0i : ∀ {a : List α} {k : Int} {g : Nat} (h : g < a.length), (mkL c m a k)[g]? = some (m a[g] (k + (c7 c (a.take g) : Nat)))
  | x :: xs, k, 0, _ => by simp [mkL, c7]
  | x :: xs, k, g + 1, h => by
    have h1 : g < xs.length := by simpa using h
    have e : (c7 c ((x :: xs).take (g + 1)) : Int) = (c x : Int) + (c7 c (xs.take g) : Int) := by simp [c7]
    simp only [mkL, List.getElem?_cons_succ, a0i h1, List.getElem_cons_succ, e, Int.add_assoc]
/-- in a list that is marked each element is marked -/
theorem a2E {a : List α} {k : Int} {g : Nat} (hz : mkL c m a k = a) (h : g < a.length) : m a[g] (k + (c7 c (a.take g) : Nat)) = a[g] := by
  have h1 := a0i (c := c) (m := m) (k := k) h
  rw [hz, List.getElem?_eq_getElem h] at h1
  exact (Option.some.inj h1).symm
theorem c5 (hc : ∀ x k, c (m x k) = c x) : ∀ {xs : List α} {k : Int}, c7 c (mkL c m xs k) = c7 c xs
  | [], _ => rfl
  | x :: xs, k => by
    have h := c5 hc (xs := xs) (k := k + (c x : Nat))
    simp only [c7, mkL, List.map_cons, List.sum_cons, hc] at h ⊢; rw [h]
theorem a0p (hc : ∀ x k, c (m x k) = c x) (hm : ∀ x k, m (m x k) k = m x k) : ∀ {xs : List α} {k : Int}, mkL c m (mkL c m xs k) k = mkL c m xs k
  | [], _ => rfl
  | x :: xs, k => by simp only [mkL, hc, hm, a0p hc hm]
end
theorem a0c {α : Type} {E : Enc α} {cs : List Value} {xs ys : α} (h : xs = ys) : [ow E cs xs].Perm [ow E cs ys] := by rw [h]
def f5 (_ : Int) : Nat := 1
def o6 (_ : Int) (k : Int) : Int := k
theorem y9 (x k : Int) : f5 (o6 x k) = f5 x := rfl
theorem a2K (x k : Int) : o6 (o6 x k) k = o6 x k := rfl
theorem K0 : ∀ {l : List Int}, c7 f5 l = l.length
  | [] => rfl
  | x :: l => by have h := K0 (l := l); simp only [c7, List.map_cons, List.sum_cons, List.length_cons] at h ⊢; rw [h]; simp [f5]; omega
def a2c (x : List Int) : Nat := c7 f5 x
def a3o (x : List Int) (k : Int) : List Int := mkL f5 o6 x k
theorem O6 (x : List Int) (k : Int) : a2c (a3o x k) = a2c x := c5 y9
def f9 (x : Int × List Int) : Nat := 1 + c7 f5 x.2
def t8 (x : Int × List Int) (k : Int) : Int × List Int := ((k), mkL f5 o6 x.2 (k + 1))
theorem E1 (x : Int × List Int) (k : Int) : f9 (t8 x k) = f9 x := by simp [f9, t8, c5 y9]
def a0g (x : List (Int × List Int)) : Nat := c7 f9 x
def a1O (x : List (Int × List Int)) (k : Int) : List (Int × List Int) := mkL f9 t8 x k
theorem D5 (x : List (Int × List Int)) (k : Int) : a0g (a1O x k) = a0g x := c5 E1
def t5 (x : Int × List Int) : Nat := 1 + c7 f5 x.2
def G3 (x : Int × List Int) (k : Int) : Int × List Int := ((k), mkL f5 o6 x.2 (k + 1))
theorem C2 (x : Int × List Int) (k : Int) : t5 (G3 x k) = t5 x := by simp [t5, G3, c5 y9]
def a0u (x : List (Int × List Int)) : Nat := c7 t5 x
def a1z (x : List (Int × List Int)) (k : Int) : List (Int × List Int) := mkL t5 G3 x k
theorem E3 (x : List (Int × List Int)) (k : Int) : a0u (a1z x k) = a0u x := c5 C2
def v6 (x : Int × List Int) : Nat := 1 + c7 f5 x.2
def I1 (x : Int × List Int) (k : Int) : Int × List Int := ((k), mkL f5 o6 x.2 (k + 1))
theorem y6 (x : Int × List Int) (k : Int) : v6 (I1 x k) = v6 x := by simp [v6, I1, c5 y9]
def R2 (x : List (Int × List Int)) : Nat := c7 v6 x
def a0K (x : List (Int × List Int)) (k : Int) : List (Int × List Int) := mkL v6 I1 x k
theorem A9 (x : List (Int × List Int)) (k : Int) : R2 (a0K x k) = R2 x := c5 y6
def J2 (x : Int × Int) : Nat := 1 + 1
def T7 (x : Int × Int) (k : Int) : Int × Int := ((k), (k + 1))
theorem D3 (x : Int × Int) (k : Int) : J2 (T7 x k) = J2 x := by simp [J2, T7]
def a0l (x : List (Int × Int)) : Nat := c7 J2 x
def a1J (x : List (Int × Int)) (k : Int) : List (Int × Int) := mkL J2 T7 x k
theorem E6 (x : List (Int × Int)) (k : Int) : a0l (a1J x k) = a0l x := c5 D3
def H2 (x : List Int × List (Int × List Int)) : Nat := c7 f5 x.1 + c7 t5 x.2
def P8 (x : List Int × List (Int × List Int)) (k : Int) : List Int × List (Int × List Int) := (mkL f5 o6 x.1 (k), mkL t5 G3 x.2 (k + (c7 f5 x.1 : Nat)))
theorem B7 (x : List Int × List (Int × List Int)) (k : Int) : H2 (P8 x k) = H2 x := by simp [H2, P8, c5 C2, c5 y9]
def W0 (x : List (List Int × List (Int × List Int))) : Nat := c7 H2 x
def a1h (x : List (List Int × List (Int × List Int))) (k : Int) : List (List Int × List (Int × List Int)) := mkL H2 P8 x k
theorem C0 (x : List (List Int × List (Int × List Int))) (k : Int) : W0 (a1h x k) = W0 x := c5 B7
def C4 (x : List Int × List Int) : Nat := c7 f5 x.1 + c7 f5 x.2
def K4 (x : List Int × List Int) (k : Int) : List Int × List Int := (mkL f5 o6 x.1 (k), mkL f5 o6 x.2 (k + (c7 f5 x.1 : Nat)))
theorem v9 (x : List Int × List Int) (k : Int) : C4 (K4 x k) = C4 x := by simp [C4, K4, c5 y9]
def P3 (x : List (List Int × List Int)) : Nat := c7 C4 x
def a0y (x : List (List Int × List Int)) (k : Int) : List (List Int × List Int) := mkL C4 K4 x k
theorem w7 (x : List (List Int × List Int)) (k : Int) : P3 (a0y x k) = P3 x := c5 v9
def E9 (x : Int × List Int × Int × Int × Int) : Nat := 1 + c7 f5 x.2.1 + 1 + 1 + 1
def N0 (x : Int × List Int × Int × Int × Int) (k : Int) : Int × List Int × Int × Int × Int := ((k), mkL f5 o6 x.2.1 (k + 1), (k + 1 + (c7 f5 x.2.1 : Nat)), (k + 1 + (c7 f5 x.2.1 : Nat) + 1), (k + 1 + (c7 f5 x.2.1 : Nat) + 1 + 1))
theorem y7 (x : Int × List Int × Int × Int × Int) (k : Int) : E9 (N0 x k) = E9 x := by simp [E9, N0, c5 y9]
def S0 (x : List (Int × List Int × Int × Int × Int)) : Nat := c7 E9 x
def a0T (x : List (Int × List Int × Int × Int × Int)) (k : Int) : List (Int × List Int × Int × Int × Int) := mkL E9 N0 x k
theorem z8 (x : List (Int × List Int × Int × Int × Int)) (k : Int) : S0 (a0T x k) = S0 x := c5 y7
def j7 (x : Int × Int × List Int) : Nat := 1 + 1 + c7 f5 x.2.2
def B1 (x : Int × Int × List Int) (k : Int) : Int × Int × List Int := ((k), (k + 1), mkL f5 o6 x.2.2 (k + 1 + 1))
theorem E5 (x : Int × Int × List Int) (k : Int) : j7 (B1 x k) = j7 x := by simp [j7, B1, c5 y9]
def Y3 (x : List (Int × Int × List Int)) : Nat := c7 j7 x
def a1Z (x : List (Int × Int × List Int)) (k : Int) : List (Int × Int × List Int) := mkL j7 B1 x k
theorem E2 (x : List (Int × Int × List Int)) (k : Int) : Y3 (a1Z x k) = Y3 x := c5 E5
def R8 (x : (List Int × List (Int × List Int)) × List (Int × List Int)) : Nat := c7 f5 x.1.1 + c7 t5 x.1.2 + c7 t5 x.2
def a0W (x : (List Int × List (Int × List Int)) × List (Int × List Int)) (k : Int) : (List Int × List (Int × List Int)) × List (Int × List Int) := ((mkL f5 o6 x.1.1 (k), mkL t5 G3 x.1.2 (k + (c7 f5 x.1.1 : Nat))), mkL t5 G3 x.2 (k + (c7 f5 x.1.1 : Nat) + (c7 t5 x.1.2 : Nat)))
def a3g (x : List ((List Int × List (Int × List Int)) × List (Int × List Int))) : Nat := c7 R8 x
def a3j (x : List ((List Int × List (Int × List Int)) × List (Int × List Int))) (k : Int) : List ((List Int × List (Int × List Int)) × List (Int × List Int)) := mkL R8 a0W x k
def D8 (x : Int × (Int × List Int) × Int × List Int) : Nat := 1 + 1 + c7 f5 x.2.1.2 + 1 + c7 f5 x.2.2.2
def O3 (x : Int × (Int × List Int) × Int × List Int) (k : Int) : Int × (Int × List Int) × Int × List Int := ((k), ((k + 1), mkL f5 o6 x.2.1.2 (k + 1 + 1)), ((k + 1 + 1 + (c7 f5 x.2.1.2 : Nat)), mkL f5 o6 x.2.2.2 (k + 1 + 1 + (c7 f5 x.2.1.2 : Nat) + 1)))
theorem D6 (x : Int × (Int × List Int) × Int × List Int) (k : Int) : D8 (O3 x k) = D8 x := by simp [D8, O3, c5 y9]
def a0b (x : List (Int × (Int × List Int) × Int × List Int)) : Nat := c7 D8 x
def a1E (x : List (Int × (Int × List Int) × Int × List Int)) (k : Int) : List (Int × (Int × List Int) × Int × List Int) := mkL D8 O3 x k
theorem D4 (x : List (Int × (Int × List Int) × Int × List Int)) (k : Int) : a0b (a1E x k) = a0b x := c5 D6
def a0a (x : List (Int × (Int × List Int) × Int × List Int)) : Nat := c7 D8 x
def a2a (x : List (Int × (Int × List Int) × Int × List Int)) (k : Int) : List (Int × (Int × List Int) × Int × List Int) := (mkL D8 O3 x (k))
def a3G (x : List (List (Int × (Int × List Int) × Int × List Int))) : Nat := c7 a0a x
def a3H (x : List (List (Int × (Int × List Int) × Int × List Int))) (k : Int) : List (List (Int × (Int × List Int) × Int × List Int)) := mkL a0a a2a x k
def R7 (x : (List (Int × List Int)) × List Int × (List (Int × List Int)) × Int) : Nat := c7 f9 x.1 + c7 f5 x.2.1 + c7 v6 x.2.2.1 + 1
def a0Y (x : (List (Int × List Int)) × List Int × (List (Int × List Int)) × Int) (k : Int) : (List (Int × List Int)) × List Int × (List (Int × List Int)) × Int := (mkL f9 t8 x.1 (k), mkL f5 o6 x.2.1 (k + (c7 f9 x.1 : Nat)), mkL v6 I1 x.2.2.1 (k + (c7 f9 x.1 : Nat) + (c7 f5 x.2.1 : Nat)), (k + (c7 f9 x.1 : Nat) + (c7 f5 x.2.1 : Nat) + (c7 v6 x.2.2.1 : Nat)))
def a3h (x : List ((List (Int × List Int)) × List Int × (List (Int × List Int)) × Int)) : Nat := c7 R7 x
def a3i (x : List ((List (Int × List Int)) × List Int × (List (Int × List Int)) × Int)) (k : Int) : List ((List (Int × List Int)) × List Int × (List (Int × List Int)) × Int) := mkL R7 a0Y x k
def J7 (x : (List (Int × List Int)) × (List (Int × List Int)) × List Int) : Nat := c7 f9 x.1 + c7 f9 x.2.1 + c7 f5 x.2.2
def U2 (x : (List (Int × List Int)) × (List (Int × List Int)) × List Int) (k : Int) : (List (Int × List Int)) × (List (Int × List Int)) × List Int := (mkL f9 t8 x.1 (k), mkL f9 t8 x.2.1 (k + (c7 f9 x.1 : Nat)), mkL f5 o6 x.2.2 (k + (c7 f9 x.1 : Nat) + (c7 f9 x.2.1 : Nat)))
def a2e (x : List ((List (Int × List Int)) × (List (Int × List Int)) × List Int)) : Nat := c7 J7 x
def a2i (x : List ((List (Int × List Int)) × (List (Int × List Int)) × List Int)) (k : Int) : List ((List (Int × List Int)) × (List (Int × List Int)) × List Int) := mkL J7 U2 x k
end Go.Proofs.Ytdopeopehgdccaa

namespace Go.Proofs.Ytdopeopehgdccaa
set_option linter.unusedVariables false
def w5 (l : List Int) : Bool := !l.any fun n => !inR n 0 9
def j5 (s : List Int) (f : Int × List Int) : Bool := l3 s f.1 && (decide ((f.2.length : Int) = at0 s f.1) && w5 f.2)
theorem K8 {s : List Int} {f : Int × List Int} (h : l3 s f.1 = false) : false = j5 s f := by simp [j5, h]
theorem S5 {s : List Int} {f : Int × List Int} {k : Int} (e : at0 s f.1 = k) (h : (f.2.length : Int) ≠ k) : false = j5 s f := by simp [j5, e, h]
theorem a0I {s : List Int} {f : Int × List Int} (h : w5 f.2 = false) : false = j5 s f := by simp [j5, h]
theorem W5 {s : List Int} {f : Int × List Int} {k : Int} (h : l3 s f.1 = true) (e : at0 s f.1 = k) (h2 : (f.2.length : Int) = k) : w5 f.2 = j5 s f := by simp [j5, h, e, h2]
/-- a rule's positions lie in a fact of its relation -/
theorem N7 {s : List Int} {r : Int × Int × List Int} {f : Int × List Int} (h1 : g9 s r = true) (h2 : j5 s f = true) (e : f.1 = r.1) : ∀ x ∈ r.2.2, 0 ≤ x ∧ x < f.2.length := by
  simp only [g9, j5, F7, Bool.and_eq_true, decide_eq_true_eq, Bool.not_eq_true', List.any_eq_false] at h1 h2
  intro x hx
  have h3 := h1.2.2.2 x hx
  have h4 := h2.2.1
  rw [e] at h4
  simp [inR] at h3
  omega
def a1H (s : List Int) (r : Int × Int × List Int) (f : Int × List Int) : Bool := g9 s r && (j5 s f && decide (f.1 = r.1))
def f7 (m : List Int) (v : List Int) : List Int := m.map (at0 v)
theorem W1 {m v : List Int} {g : Nat} (h : g < m.length) (h2 : m[g].toNat < v.length) : f7 (m.take g) v ++ [v[m[g].toNat]] = f7 (m.take (g + 1)) v := by
  rw [List.take_succ_eq_append_getElem h, f7, f7, List.map_append]
  simp [m5 h2]
theorem a1D {m v : List Int} : (f7 m v).length = m.length := by simp [f7]
theorem K6 {m v : List Int} {g : Nat} (h : m.length ≤ g) : f7 (m.take g) v = f7 m v := by rw [List.take_of_length_le h]
def a3Y (s : List Int) (r : Int × Int × List Int) (f : Int × List Int) : Int := cond (a1H s r f) r.2.1 0
def a3S (s : List Int) (r : Int × Int × List Int) (f : Int × List Int) : List Int := cond (a1H s r f) (f7 r.2.2 f.2) []
theorem Y2 {s : List Int} {r : Int × Int × List Int} (h : g9 s r = true) : r.2.2.length ≤ 3 := by
  simp only [g9, Bool.and_eq_true, decide_eq_true_eq] at h
  have := w2 h.2.1
  simp only [at0] at h; omega
theorem Q5 {α : Type} {c t : α → Nat} {n : Nat} (h : ∀ x, c x ≤ n + t x) : ∀ {l : List α}, c7 c l ≤ n * l.length + c7 t l
  | [] => by simp [c7]
  | x :: l => by
    have h1 := Q5 h (l := l)
    have h2 := h x
    simp only [c7, List.map_cons, List.sum_cons, List.length_cons, Nat.mul_add, Nat.mul_one] at h1 ⊢; omega
end Go.Proofs.Ytdopeopehgdccaa

namespace Go.Proofs.Ytdopeopehgdccaa
set_option linter.unusedVariables false
/-- the value of a term under a binding -/
def a0M (b : List Int × List Int) (t : Int) : Int :=
  if inR t 10 17 then (let i := H3 (fun x => decide (x = t)) (b.1.take (min b.1.length b.2.length)); if i < 0 then -1 else at0 b.2 i) else t
end Go.Proofs.Ytdopeopehgdccaa

namespace Go.Proofs.Ytdopeopehgdccaa
set_option linter.unusedVariables false
def pick {α : Type} (p : Nat → Bool) : List α → Nat → List α
  | [], _ => []
  | x :: xs, i => if p i then x :: pick p xs (i + 1) else pick p xs (i + 1)
def a3u (mask : Int) (i : Nat) : Bool := decide (0 < mask) && decide (a1U (mask / 2 ^ i) 1 = 1)
def a4q (l : List (Int × Int × List Int)) (mask : Int) : List (Int × Int × List Int) := pick (a3u mask) (l.take 20) 0
/-- append([]T{}, t...) with a t that is only read: a list of its own, and nothing else turns -/
theorem N.pushR0 {P : Program} {Q : Exit → Act → World → Prop} {n : Nat} {w0 : World} {L0 : List Nat} {fr : Fr} {H : List HP} {d : Nat} {ty : TypeId} {pos : String} {af : Array Edge} {g : Option (Nat × Bool)} {α : Type} {E : Enc α} {T e e2 : TypeId} {agg : Bool} {k m2 : Nat} {z : List Value} {by' : Nat} {x y : Operand} {ad a2 : Option Addr} {c2 : Nat} {ys : List α} (hE : t4 E) (hT : P.underlying T = some (.slice e)) (ht : TyOk P e agg k z by') (hk : k = E.k)
    (hx : ev fr x = some (.slice ad 0 0)) (hy : ev fr y = some (.slice a2 m2 c2)) (hr : Ro w0 L0 (Enc.sl e2 E) [.slice a2 m2 c2] ys) (h63 : m2 ≤ 9223372036854775807) (hbytes : m2 * by' ≤ 140737488355328) (hd : d < n) :
    Nop P Q n w0 L0 fr H ⟨some d, .call ⟨.builtin .append, #[x, y], #[T, T]⟩, ty, pos, af, g⟩ true (κ := Option Addr × Nat) (fun p => (d, .slice p.1 m2 p.2) :: fr) (fun p => ow (Enc.sl e E) [.slice p.1 m2 p.2] ys :: H) (fun _ => True) := fun K hK a w ha hw => by
  subst hk
  obtain ⟨ccs, ⟨Lc, h1⟩, h2, h3⟩ := hr.src
  have hsrc : (m2 = 0 ∧ ccs = []) ∨ ∃ b o, a2 = some ⟨b, o, none⟩ ∧ j6 w b o ccs := by
    rcases h3 H with h | ⟨b, o, k1, k2⟩
    · exact .inl h
    · exact .inr ⟨b, o, k1, k2 w hw⟩
  have hy1 : d6 E w ccs ys [] true := (hE.elems h1).stable (by simp)
  have hm2 := hr.slen.1
  obtain ⟨a', c', w', L1', r1, r2, r3, r4, -⟩ := D7 (P := P) (ty := ty) (c2 := c2) hT ht E.pos (show (row e E.k ad 0 0 []).holds w [] from ⟨by simp, .inl ⟨rfl, rfl, rfl⟩⟩) hsrc (by rw [hy1.len, hm2]) hy1.one (by rw [Nat.zero_add]; exact h63) (by rw [Nat.zero_add]; exact hbytes)
  obtain ⟨L, hs, hn, hst⟩ := id hw
  obtain ⟨d1, d2, d3⟩ := W9 (xs := ([] : List α)) (m := 0) rfl hm2 (by rw [Nat.zero_add]; exact h63) ⟨rfl, rfl⟩ hy1 (by simp) r2 r3 r4
  obtain ⟨k1, k2, k3⟩ := Step.call (Lp := []) (Lr := L) (by simpa using hst) (by simpa using hn) hs.inh (by simpa using d3) d2
  have hrun : (execOp a.eval ⟨some d, .call ⟨.builtin .append, #[x, y], #[T, T]⟩, ty, pos, af, g⟩).run P w = .ok (.value (.slice a' (0 + m2) c')) w' := by
    simp only [execOp, resolve, ha.ev hx, ha.ev hy, List.map_toArray, List.map_cons, List.map_nil, Sem.run_bind, Sem.run_pure, Result.andThen_ok, invoke, builtin, r1]
  simp only [Nat.zero_add, List.nil_append] at d1 hrun
  rw [Oper.wp, hrun]
  exact hK (a', c') trivial w _ _ (ha.put hd _) ⟨_, ⟨_, L, rfl, d1, hs.stable k3⟩, k2, k1⟩ (fun _ => r4.below)
end Go.Proofs.Ytdopeopehgdccaa
