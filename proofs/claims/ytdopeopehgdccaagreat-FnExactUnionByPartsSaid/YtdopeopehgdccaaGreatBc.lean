import Derived.Test.YtdopeopehgdccaaGreatBb
namespace Go.Proofs.YtdopeopehgdccaaGreat
set_option linter.unusedVariables false
def inR (n lo hi : Int) : Bool := decide (lo ≤ n ∧ n ≤ hi)
def J0 {α : Type} (p : α → Bool) (s : List α) : Int := if s.any p then (s.findIdx p : Int) else -1
theorem P8 {α : Type} {p : α → Bool} {s : List α} {k : Nat} (hk : k < s.length) (h : ∀ x ∈ s.take k, p x = false) (hp : p s[k] = true) : (k : Int) = J0 p s := by
 have h1 : s.any p = true := List.any_eq_true.2 ⟨_, List.getElem_mem hk, hp⟩
 have h2 : s.findIdx p = k := by
  rw [List.findIdx_eq hk]
  refine ⟨hp, fun j hj => h _ ?_⟩
  rw [List.mem_take_iff_getElem]
  exact ⟨j, by omega, rfl⟩
 rw [J0, if_pos h1, h2]
theorem O4 {α : Type} {p : α → Bool} {s : List α} {k : Nat} (hk : ¬ k < s.length) (h : ∀ x ∈ s.take k, p x = false) : (-1 : Int) = J0 p s := by
 rw [List.take_of_length_le (by omega)] at h
 have : ¬ s.any p = true := fun h' => by
  obtain ⟨x, hx, hp⟩ := List.any_eq_true.1 h'
  rw [h x hx] at hp; cases hp
 rw [J0, if_neg this]
theorem W6 {α : Type} {p : α → Bool} {s : List α} : decide (0 ≤ J0 p s) = s.any p := by
 unfold J0; split <;> simp_all
theorem X8 {α : Type} {p : α → Bool} {s : List α} {k : Nat} (hk : k < s.length) (h : ∀ x ∈ s.take k, p x = false) (hp : p s[k] = false) : ∀ x ∈ s.take (k + 1), p x = false := by
 intro x hx
 rw [List.take_succ_eq_append_getElem hk] at hx
 rcases List.mem_append.1 hx with hx | hx
 ·exact h x hx
 ·simp at hx; subst hx; exact hp
theorem b0R {α : Type} {p : α → Bool} {s : List α} {k : Nat} (hk : k < s.length) (hp : p s[k] = true) : s.any p = true := List.any_eq_true.2 ⟨_, List.getElem_mem hk, hp⟩
theorem a9a {α : Type} {p : α → Bool} {s : List α} {k : Nat} (hk : ¬ k < s.length) (h : ∀ x ∈ s.take k, p x = false) : s.any p = false := by
 rw [List.take_of_length_le (by omega)] at h
 rw [← Bool.not_eq_true]
 intro h'
 obtain ⟨x, hx, hp⟩ := List.any_eq_true.1 h'
 rw [h x hx] at hp; cases hp
def Q9 (s : List Int) : Bool := inR (s.length : Int) 1 3 && !s.any fun n => !inR n 1 3
def M4 (s : List Int) (rel : Int) : Bool := Q9 s && inR rel 0 ((s.length : Int) - 1)
def Z0 (l : List Int) (arity : Int) : Bool := !l.any fun i => !inR i 0 (arity - 1)
def at0 (s : List Int) (i : Int) : Int := s.getD i.toNat 0
def b6Q (s : List Int) (r : Int × Int × List Int) : Bool := M4 s r.1 && (M4 s r.2.1 && (decide ((r.2.2.length : Int) = at0 s r.2.1) && Z0 r.2.2 (at0 s r.1)))
theorem K5 {α : Type} {s : List α} {i : Nat} {d : α} (h : i < s.length) : s.getD i d = s[i] := by simp [List.getD, h]
theorem a0E {s : List Int} {i : Int} (h : M4 s i = true) : 0 ≤ i ∧ i < s.length ∧ 1 ≤ s.getD i.toNat 0 ∧ s.getD i.toNat 0 ≤ 3 := by
 simp only [M4, Q9, inR, Bool.and_eq_true, decide_eq_true_eq, Bool.not_eq_true', List.any_eq_false] at h
 obtain ⟨⟨_, h1⟩, h2, h3⟩ := h
 have h5 : i.toNat < s.length := by omega
 have h4 := h1 s[i.toNat] (List.getElem_mem h5)
 rw [K5 h5]
 simp at h4
 omega
theorem F6 {s : List Int} {i : Int} (h : i.toNat < s.length) : at0 s i = s[i.toNat] := by simp [at0, h]
def szR (t : Nat) (left : Int) : Int := if (t : Int) ≤ left then left - t else -1
theorem a0Q {t : Nat} {l : Int} (h : szR t l < 0) (hl : 0 ≤ l) : l < t := by unfold szR at h; split at h <;> omega
theorem a1Q {t : Nat} {l : Int} (h : ¬ szR t l < 0) (hl : 0 ≤ l) : szR t l = l - t ∧ (t : Int) ≤ l := by unfold szR at h ⊢; split at h <;> simp_all
theorem a1q {α : Type} {a b : List α} {g : Nat} (ha : g < a.length) (hb : g < b.length) (h : a.take g = b.take g) (he : a[g] = b[g]) : a.take (g + 1) = b.take (g + 1) := by
 rw [List.take_succ_eq_append_getElem ha, List.take_succ_eq_append_getElem hb, h, he]
theorem b4u {α : Type} {a b : List α} {g : Nat} (ha : a.length ≤ g) (hb : b.length ≤ g) (h : a.take g = b.take g) : a = b := by
 rwa [List.take_of_length_le ha, List.take_of_length_le hb] at h
theorem b7o {s : List Int} {r : Int} (h : inR r 0 ((s.length : Int) - 1) = false) : M4 s r = false := by simp [M4, h]
theorem b6X {s : List Int} {r : Int} (h : Q9 s = false) : M4 s r = false := by simp [M4, h]
theorem frI {a b : Int} (h : a = b) : some (Value.int .i64 a) = some (Value.int .i64 b) := by rw [h]
def u5 {α : Type} (t : α → Nat) (l : List α) : Nat := (l.map t).sum
theorem N5 {α : Type} {t : α → Nat} {l : List α} {g : Nat} (h : g < l.length) : u5 t (l.take (g + 1)) = u5 t (l.take g) + t l[g] := by
 unfold u5; rw [List.take_succ_eq_append_getElem h, List.map_append, List.sum_append]; rfl
theorem R6 {α : Type} {t : α → Nat} {l : List α} {g : Nat} : u5 t (l.take g) ≤ u5 t l := by
 have : u5 t l = u5 t (l.take g) + u5 t (l.drop g) := by
  rw [u5, u5, u5, ← List.sum_append, ← List.map_append, List.take_append_drop]
 omega
theorem V6 {α : Type} {t : α → Nat} {l : List α} {g : Nat} (h : l.length ≤ g) : u5 t (l.take g) = u5 t l := by rw [List.take_of_length_le h]
def B9 {α : Type} (t : α → Nat) (l : List α) : Nat := l.length + u5 t l
theorem a7Z {α : Type} {t : α → Nat} {l : List α} {left : Int} (h : left - (l.length : Int) < 0) : (-1 : Int) = szR (B9 t l) left := by unfold szR B9; split <;> omega
theorem a8f {α : Type} {t : α → Nat} {l : List α} {left : Int} {g n : Nat} (hg : g < l.length) (hn : t l[g] = n) (h : left - ((l.length : Int) + (u5 t (l.take g) : Nat)) < (n : Nat)) : (-1 : Int) = szR (B9 t l) left := by
 subst hn
 have h1 := R6 (t := t) (l := l) (g := g + 1)
 rw [N5 hg] at h1
 unfold szR B9; split <;> omega
theorem a7W {α : Type} {t : α → Nat} {l : List α} {left : Int} {g : Nat} (hg : l.length ≤ g) (h : (l.length : Int) + (u5 t (l.take g) : Nat) ≤ left) : left - ((l.length : Int) + (u5 t (l.take g) : Nat)) = szR (B9 t l) left := by
 rw [V6 hg] at h ⊢
 unfold szR B9; split <;> omega
theorem a3j {α : Type} {s : List α} {d : α} {g : Nat} (h : s.length ≤ g) : s.take g ++ List.replicate (s.length - g) d = s := by
 rw [List.take_of_length_le h, show s.length - g = 0 by omega]; simp
theorem a3G {α : Type} {t : α → Nat} {l : List α} {g : Nat} (h : g < l.length) : t l[g] ≤ B9 t l := by
 have h1 := R6 (t := t) (l := l) (g := g + 1)
 rw [N5 h] at h1
 unfold B9; omega
theorem a3d {α : Type} {a b : List α} [Decidable (a = b)] (h : (a.length : Int) ≠ b.length) : false = decide (a = b) := by
 symm; rw [decide_eq_false_iff_not]; intro e; subst e; exact h rfl
theorem a2U {α : Type} {a b : List α} [Decidable (a = b)] {g : Nat} (ha : g < a.length) (hb : g < b.length) (h : a[g] ≠ b[g]) : false = decide (a = b) := by
 symm; rw [decide_eq_false_iff_not]; intro e; subst e; exact h rfl
theorem a2v {α : Type} {a b : List α} [Decidable (a = b)] {g : Nat} (ha : a.length ≤ g) (hb : b.length ≤ g) (h : a.take g = b.take g) : true = decide (a = b) := by
 symm; rw [decide_eq_true_eq]; exact b4u ha hb h
def a8g (s : List Int) (l : List (Int × Int × List Int)) : Bool := Q9 s && (decide ((l.length : Int) ≤ 4) && !l.any fun r => !b6Q s r)
end Go.Proofs.YtdopeopehgdccaaGreat

namespace Go.Proofs.YtdopeopehgdccaaGreat
set_option linter.unusedVariables false
def c2O (b : Bool) : Int := if b then 1 else 0
def c1F (log : List (Int × List Int)) (m : Int) : Int := ((log.countP fun a => decide (a.1 = m) : Nat) : Int)
def quo (l : List (Int × List Int × Int × Int × Int)) (m : Int) : Int := (l.getD m.toNat (0, [], 0, 0, 0)).2.2.2.2
def b7B (l : List (Int × List Int × Int × Int × Int)) (log : List (Int × List Int)) (m : Int) : Bool := !inR m 0 ((l.length : Int) - 1) || decide (quo l m < c1F log m)
def c1Y (l : List (Int × List Int × Int × Int × Int)) (log : List (Int × List Int)) : Bool := !log.any fun a => b7B l log a.1
end Go.Proofs.YtdopeopehgdccaaGreat

namespace Go.Proofs.YtdopeopehgdccaaGreat
set_option linter.unusedVariables false
set_option linter.unusedSimpArgs false
def mkL {α : Type} (c : α → Nat) (m : α → Int → α) : List α → Int → List α
 | [], _ => []
 | x :: xs, k => m x k :: mkL c m xs (k + (c x : Nat))
section
variable {α : Type} {c : α → Nat} {m : α → Int → α}
theorem a1j : ∀ {xs : List α} {k : Int}, (mkL c m xs k).length = xs.length
 | [], _ => rfl
 | _ :: xs, k => by simp [mkL, a1j]
theorem b5m : ∀ {xs ys : List α} {k : Int}, mkL c m (xs ++ ys) k = mkL c m xs k ++ mkL c m ys (k + (u5 c xs : Nat))
 | [], ys, k => by simp [mkL, u5]
 | x :: xs, ys, k => by
  have h : (u5 c (x :: xs) : Int) = (c x : Int) + (u5 c xs : Int) := by simp [u5]
  simp [mkL, b5m (xs := xs), h, Int.add_assoc]
theorem a7r {a : List α} {k : Int} {g : Nat} (h : g < a.length) : (mkL c m (a.take g) k ++ a.drop g)[g]? = some a[g] := by
 rw [List.getElem?_append_right (by rw [a1j]; simp; omega), a1j, List.length_take, Nat.min_eq_left (by omega), Nat.sub_self, List.getElem?_drop]
 simp [h]
theorem a5P {a : List α} {k : Int} {g : Nat} {x : α} (h : g < a.length) (hx : x = m a[g] (k + (u5 c (a.take g) : Nat))) : (mkL c m (a.take g) k ++ a.drop g).set g x = mkL c m (a.take (g + 1)) k ++ a.drop (g + 1) := by
 subst hx
 rw [List.take_succ_eq_append_getElem h, b5m, List.drop_eq_getElem_cons h]
 have hl : (mkL c m (a.take g) k).length = g := by rw [a1j]; simp; omega
 rw [List.set_append_right _ _ (by omega), hl, Nat.sub_self]
 simp only [List.set_cons_zero, mkL, List.append_assoc, List.singleton_append]
theorem a1P {a : List α} {k : Int} {g : Nat} (h : a.length ≤ g) : mkL c m (a.take g) k ++ a.drop g = mkL c m a k := by
 rw [List.take_of_length_le h, List.drop_eq_nil_of_le h, List.append_nil]
theorem b4b : ∀ {a : List α} {k : Int} {g : Nat} (h : g < a.length), (mkL c m a k)[g]? = some (m a[g] (k + (u5 c (a.take g) : Nat)))
 | x :: xs, k, 0, _ => by simp [mkL, u5]
 | x :: xs, k, g + 1, h => by
  have h1 : g < xs.length := by simpa using h
  have e : (u5 c ((x :: xs).take (g + 1)) : Int) = (c x : Int) + (u5 c (xs.take g) : Int) := by simp [u5]
  simp only [mkL, List.getElem?_cons_succ, b4b h1, List.getElem_cons_succ, e, Int.add_assoc]
theorem b6F {a : List α} {k : Int} {g : Nat} (hz : mkL c m a k = a) (h : g < a.length) : m a[g] (k + (u5 c (a.take g) : Nat)) = a[g] := by
 have h1 := b4b (c := c) (m := m) (k := k) h
 rw [hz, List.getElem?_eq_getElem h] at h1
 exact (Option.some.inj h1).symm
theorem w6 (hc : ∀ x k, c (m x k) = c x) : ∀ {xs : List α} {k : Int}, u5 c (mkL c m xs k) = u5 c xs
 | [], _ => rfl
 | x :: xs, k => by
  have h := w6 hc (xs := xs) (k := k + (c x : Nat))
  simp only [u5, mkL, List.map_cons, List.sum_cons, hc] at h ⊢; rw [h]
theorem a9S (hc : ∀ x k, c (m x k) = c x) (hm : ∀ x k, m (m x k) k = m x k) : ∀ {xs : List α} {k : Int}, mkL c m (mkL c m xs k) k = mkL c m xs k
 | [], _ => rfl
 | x :: xs, k => by simp only [mkL, hc, hm, a9S hc hm]
end
theorem a4i {α : Type} {E : Enc α} {cs : List Value} {xs ys : α} (h : xs = ys) : [ow E cs xs].Perm [ow E cs ys] := by rw [h]
def E8 (_ : Int) : Nat := 1
def W8 (_ : Int) (k : Int) : Int := k
theorem a2G (x k : Int) : E8 (W8 x k) = E8 x := rfl
theorem c1J (x k : Int) : W8 (W8 x k) k = W8 x k := rfl
theorem a4L : ∀ {l : List Int}, u5 E8 l = l.length
 | [] => rfl
 | x :: l => by have h := a4L (l := l); simp only [u5, List.map_cons, List.sum_cons, List.length_cons] at h ⊢; rw [h]; simp [E8]; omega
def M7 (x : List Int) : Nat := u5 E8 x
def a2N (x : List Int) (k : Int) : List Int := mkL E8 W8 x k
theorem a5g (x : List Int) (k : Int) : M7 (a2N x k) = M7 x := w6 a2G
theorem b8x (x : List Int) (k : Int) : a2N (a2N x k) k = a2N x k := a9S a2G c1J
def G9 (x : Int × List Int) : Nat := 1 + u5 E8 x.2
def a0A (x : Int × List Int) (k : Int) : Int × List Int := ((k), mkL E8 W8 x.2 (k + 1))
theorem a3M (x : Int × List Int) (k : Int) : G9 (a0A x k) = G9 x := by simp [G9, a0A, w6 a2G]
def b3E (x : List (Int × List Int)) : Nat := u5 G9 x
def b7w (x : List (Int × List Int)) (k : Int) : List (Int × List Int) := mkL G9 a0A x k
theorem a3V (x : List (Int × List Int)) (k : Int) : b3E (b7w x k) = b3E x := w6 a3M
def J3 (x : Int × List Int) : Nat := 1 + u5 E8 x.2
def a0z (x : Int × List Int) (k : Int) : Int × List Int := ((k), mkL E8 W8 x.2 (k + 1))
theorem a2Z (x : Int × List Int) (k : Int) : J3 (a0z x k) = J3 x := by simp [J3, a0z, w6 a2G]
def b2R (x : List (Int × List Int)) : Nat := u5 J3 x
def b8d (x : List (Int × List Int)) (k : Int) : List (Int × List Int) := mkL J3 a0z x k
theorem a3C (x : List (Int × List Int)) (k : Int) : b2R (b8d x k) = b2R x := w6 a2Z
def X5 (x : Int × List Int) : Nat := 1 + u5 E8 x.2
def a4k (x : Int × List Int) (k : Int) : Int × List Int := ((k), mkL E8 W8 x.2 (k + 1))
theorem a2m (x : Int × List Int) (k : Int) : X5 (a4k x k) = X5 x := by simp [X5, a4k, w6 a2G]
def b0x (x : List (Int × List Int)) : Nat := u5 X5 x
def b5J (x : List (Int × List Int)) (k : Int) : List (Int × List Int) := mkL X5 a4k x k
theorem a2w (x : List (Int × List Int)) (k : Int) : b0x (b5J x k) = b0x x := w6 a2m
def a5G (x : Int × Int) : Nat := 1 + 1
def b1s (x : Int × Int) (k : Int) : Int × Int := ((k), (k + 1))
theorem a3I (x : Int × Int) (k : Int) : a5G (b1s x k) = a5G x := by simp [a5G, b1s]
def b3H (x : List (Int × Int)) : Nat := u5 a5G x
def b7Y (x : List (Int × Int)) (k : Int) : List (Int × Int) := mkL a5G b1s x k
theorem a3Q (x : List (Int × Int)) (k : Int) : b3H (b7Y x k) = b3H x := w6 a3I
def L5 (x : List Int × List (Int × List Int)) : Nat := u5 E8 x.1 + u5 J3 x.2
def a1C (x : List Int × List (Int × List Int)) (k : Int) : List Int × List (Int × List Int) := (mkL E8 W8 x.1 (k), mkL J3 a0z x.2 (k + (u5 E8 x.1 : Nat)))
theorem a2Q (x : List Int × List (Int × List Int)) (k : Int) : L5 (a1C x k) = L5 x := by simp [L5, a1C, w6 a2Z, w6 a2G]
def b2d (x : List (List Int × List (Int × List Int))) : Nat := u5 L5 x
def b6a (x : List (List Int × List (Int × List Int))) (k : Int) : List (List Int × List (Int × List Int)) := mkL L5 a1C x k
theorem a3b (x : List (List Int × List (Int × List Int))) (k : Int) : b2d (b6a x k) = b2d x := w6 a2Q
def a3l (x : List Int × List Int) : Nat := u5 E8 x.1 + u5 E8 x.2
def a6l (x : List Int × List Int) (k : Int) : List Int × List Int := (mkL E8 W8 x.1 (k), mkL E8 W8 x.2 (k + (u5 E8 x.1 : Nat)))
theorem a1A (x : List Int × List Int) (k : Int) : a3l (a6l x k) = a3l x := by simp [a3l, a6l, w6 a2G]
def a8I (x : List (List Int × List Int)) : Nat := u5 a3l x
def b4y (x : List (List Int × List Int)) (k : Int) : List (List Int × List Int) := mkL a3l a6l x k
theorem a1U (x : List (List Int × List Int)) (k : Int) : a8I (b4y x k) = a8I x := w6 a1A
def I3 (x : Int × List Int × Int × Int × Int) : Nat := 1 + u5 E8 x.2.1 + 1 + 1 + 1
def a0V (x : Int × List Int × Int × Int × Int) (k : Int) : Int × List Int × Int × Int × Int := ((k), mkL E8 W8 x.2.1 (k + 1), (k + 1 + (u5 E8 x.2.1 : Nat)), (k + 1 + (u5 E8 x.2.1 : Nat) + 1), (k + 1 + (u5 E8 x.2.1 : Nat) + 1 + 1))
theorem a2b (x : Int × List Int × Int × Int × Int) (k : Int) : I3 (a0V x k) = I3 x := by simp [I3, a0V, w6 a2G]
def a9Z (x : List (Int × List Int × Int × Int × Int)) : Nat := u5 I3 x
def b5E (x : List (Int × List Int × Int × Int × Int)) (k : Int) : List (Int × List Int × Int × Int × Int) := mkL I3 a0V x k
theorem a2y (x : List (Int × List Int × Int × Int × Int)) (k : Int) : a9Z (b5E x k) = a9Z x := w6 a2b
def a5Q (x : Int × Int × List Int) : Nat := 1 + 1 + u5 E8 x.2.2
def b0J (x : Int × Int × List Int) (k : Int) : Int × Int × List Int := ((k), (k + 1), mkL E8 W8 x.2.2 (k + 1 + 1))
theorem a3J (x : Int × Int × List Int) (k : Int) : a5Q (b0J x k) = a5Q x := by simp [a5Q, b0J, w6 a2G]
def b3a (x : List (Int × Int × List Int)) : Nat := u5 a5Q x
def b7r (x : List (Int × Int × List Int)) (k : Int) : List (Int × Int × List Int) := mkL a5Q b0J x k
theorem a3N (x : List (Int × Int × List Int)) (k : Int) : b3a (b7r x k) = b3a x := w6 a3J
def b0o (x : (List Int × List (Int × List Int)) × List (Int × List Int)) : Nat := u5 E8 x.1.1 + u5 J3 x.1.2 + u5 J3 x.2
def b5S (x : (List Int × List (Int × List Int)) × List (Int × List Int)) (k : Int) : (List Int × List (Int × List Int)) × List (Int × List Int) := ((mkL E8 W8 x.1.1 (k), mkL J3 a0z x.1.2 (k + (u5 E8 x.1.1 : Nat))), mkL J3 a0z x.2 (k + (u5 E8 x.1.1 : Nat) + (u5 J3 x.1.2 : Nat)))
def c0C (x : List ((List Int × List (Int × List Int)) × List (Int × List Int))) : Nat := u5 b0o x
def c0F (x : List ((List Int × List (Int × List Int)) × List (Int × List Int))) (k : Int) : List ((List Int × List (Int × List Int)) × List (Int × List Int)) := mkL b0o b5S x k
def a3R (x : Int × (Int × List Int) × Int × List Int) : Nat := 1 + 1 + u5 E8 x.2.1.2 + 1 + u5 E8 x.2.2.2
def a8a (x : Int × (Int × List Int) × Int × List Int) (k : Int) : Int × (Int × List Int) × Int × List Int := ((k), ((k + 1), mkL E8 W8 x.2.1.2 (k + 1 + 1)), ((k + 1 + 1 + (u5 E8 x.2.1.2 : Nat)), mkL E8 W8 x.2.2.2 (k + 1 + 1 + (u5 E8 x.2.1.2 : Nat) + 1)))
theorem a3D (x : Int × (Int × List Int) × Int × List Int) (k : Int) : a3R (a8a x k) = a3R x := by simp [a3R, a8a, w6 a2G]
def b3c (x : List (Int × (Int × List Int) × Int × List Int)) : Nat := u5 a3R x
def b8l (x : List (Int × (Int × List Int) × Int × List Int)) (k : Int) : List (Int × (Int × List Int) × Int × List Int) := mkL a3R a8a x k
theorem a3H (x : List (Int × (Int × List Int) × Int × List Int)) (k : Int) : b3c (b8l x k) = b3c x := w6 a3D
def b3z (x : List (Int × (Int × List Int) × Int × List Int)) : Nat := u5 a3R x
def b7R (x : List (Int × (Int × List Int) × Int × List Int)) (k : Int) : List (Int × (Int × List Int) × Int × List Int) := (mkL a3R a8a x (k))
def c1k (x : List (List (Int × (Int × List Int) × Int × List Int))) : Nat := u5 b3z x
def c1n (x : List (List (Int × (Int × List Int) × Int × List Int))) (k : Int) : List (List (Int × (Int × List Int) × Int × List Int)) := mkL b3z b7R x k
def b0z (x : (List (Int × List Int)) × List Int × (List (Int × List Int)) × Int) : Nat := u5 G9 x.1 + u5 E8 x.2.1 + u5 X5 x.2.2.1 + 1
def b5M (x : (List (Int × List Int)) × List Int × (List (Int × List Int)) × Int) (k : Int) : (List (Int × List Int)) × List Int × (List (Int × List Int)) × Int := (mkL G9 a0A x.1 (k), mkL E8 W8 x.2.1 (k + (u5 G9 x.1 : Nat)), mkL X5 a4k x.2.2.1 (k + (u5 G9 x.1 : Nat) + (u5 E8 x.2.1 : Nat)), (k + (u5 G9 x.1 : Nat) + (u5 E8 x.2.1 : Nat) + (u5 X5 x.2.2.1 : Nat)))
def c0D (x : List ((List (Int × List Int)) × List Int × (List (Int × List Int)) × Int)) : Nat := u5 b0z x
def c0E (x : List ((List (Int × List Int)) × List Int × (List (Int × List Int)) × Int)) (k : Int) : List ((List (Int × List Int)) × List Int × (List (Int × List Int)) × Int) := mkL b0z b5M x k
def a5y (x : (List (Int × List Int)) × (List (Int × List Int)) × List Int) : Nat := u5 G9 x.1 + u5 G9 x.2.1 + u5 E8 x.2.2
def b1u (x : (List (Int × List Int)) × (List (Int × List Int)) × List Int) (k : Int) : (List (Int × List Int)) × (List (Int × List Int)) × List Int := (mkL G9 a0A x.1 (k), mkL G9 a0A x.2.1 (k + (u5 G9 x.1 : Nat)), mkL E8 W8 x.2.2 (k + (u5 G9 x.1 : Nat) + (u5 G9 x.2.1 : Nat)))
def b8u (x : List ((List (Int × List Int)) × (List (Int × List Int)) × List Int)) : Nat := u5 a5y x
def b8t (x : List ((List (Int × List Int)) × (List (Int × List Int)) × List Int)) (k : Int) : List ((List (Int × List Int)) × (List (Int × List Int)) × List Int) := mkL a5y b1u x k
end Go.Proofs.YtdopeopehgdccaaGreat

namespace Go.Proofs.YtdopeopehgdccaaGreat
set_option linter.unusedVariables false
def T7 (l : List Int) : Bool := !l.any fun n => !inR n 0 9
def N7 (s : List Int) (f : Int × List Int) : Bool := M4 s f.1 && (decide ((f.2.length : Int) = at0 s f.1) && T7 f.2)
theorem a6j {s : List Int} {f : Int × List Int} (h : M4 s f.1 = false) : false = N7 s f := by simp [N7, h]
theorem b0m {s : List Int} {f : Int × List Int} {k : Int} (e : at0 s f.1 = k) (h : (f.2.length : Int) ≠ k) : false = N7 s f := by simp [N7, e, h]
theorem b5P {s : List Int} {f : Int × List Int} (h : T7 f.2 = false) : false = N7 s f := by simp [N7, h]
theorem b1L {s : List Int} {f : Int × List Int} {k : Int} (h : M4 s f.1 = true) (e : at0 s f.1 = k) (h2 : (f.2.length : Int) = k) : T7 f.2 = N7 s f := by simp [N7, h, e, h2]
def b7Z (s : List Int) (r : Int × Int × List Int) (f : Int × List Int) : Bool := b6Q s r && (N7 s f && decide (f.1 = r.1))
def a3k (m : List Int) (v : List Int) : List Int := m.map (at0 v)
def c1C (s : List Int) (r : Int × Int × List Int) (f : Int × List Int) : Int := cond (b7Z s r f) r.2.1 0
def c1L (s : List Int) (r : Int × Int × List Int) (f : Int × List Int) : List Int := cond (b7Z s r f) (a3k r.2.2 f.2) []
theorem a4J {α : Type} {c t : α → Nat} {n : Nat} (h : ∀ x, c x ≤ n + t x) : ∀ {l : List α}, u5 c l ≤ n * l.length + u5 t l
 | [] => by simp [u5]
 | x :: l => by
  have h1 := a4J h (l := l)
  have h2 := h x
  simp only [u5, List.map_cons, List.sum_cons, List.length_cons, Nat.mul_add, Nat.mul_one] at h1 ⊢; omega
end Go.Proofs.YtdopeopehgdccaaGreat

namespace Go.Proofs.YtdopeopehgdccaaGreat
set_option linter.unusedVariables false
def C7 (b : List Int × List Int) (t : Int) : Int :=
 if inR t 10 17 then (let i := J0 (fun x => decide (x = t)) (b.1.take (min b.1.length b.2.length)); if i < 0 then -1 else at0 b.2 i) else t
theorem b0N {b : List Int × List Int} {t : Int} (h : inR t 10 17 = false) : t = C7 b t := by simp [C7, h]
theorem b3P {b : List Int × List Int} {t : Int} (h : inR t 10 17 = true) (h2 : J0 (fun x => decide (x = t)) (b.1.take (min b.1.length b.2.length)) < 0) : -1 = C7 b t := by simp only [C7, h, if_true, if_pos h2]
theorem a7d {α : Type} {p : α → Bool} {s : List α} (h : ¬ J0 p s < 0) : 0 ≤ J0 p s ∧ (J0 p s).toNat < s.length := by
 unfold J0 at *
 by_cases q : s.any p = true
 ·rw [if_pos q] at h ⊢
  have := List.findIdx_lt_length.2 (List.any_eq_true.1 q)
  omega
 ·rw [if_neg q] at h; omega
theorem b7H {b : List Int × List Int} {t : Int} (h : inR t 10 17 = true) (h2 : ¬ J0 (fun x => decide (x = t)) (b.1.take (min b.1.length b.2.length)) < 0) (h3 : (J0 (fun x => decide (x = t)) (b.1.take (min b.1.length b.2.length))).toNat < b.2.length) :
  b.2[(J0 (fun x => decide (x = t)) (b.1.take (min b.1.length b.2.length))).toNat] = C7 b t := by
 simp only [C7, h, if_true, if_neg h2, F6 h3]
theorem b3i {b : List Int × List Int} {t : Int} {g : Nat} (h : inR t 10 17 = true) (h1 : g < b.1.length) (h2 : g < b.2.length) (e : b.1[g] = t) (pa : ∀ x ∈ b.1.take g, decide (x = t) = false) : b.2[g] = C7 b t := by
 have h3 : g < (b.1.take (min b.1.length b.2.length)).length := by simp; omega
 have hi := P8 (p := fun x => decide (x = t)) h3 (by rw [List.take_take, Nat.min_eq_left (by omega)]; exact pa) (by simp [e])
 have h4 : ¬ ((g : Nat) : Int) < 0 := by omega
 simp only [C7, h, if_true, ← hi, if_neg h4, F6 (i := (g : Int)) (s := b.2) (by simpa using h2)]
 rfl
theorem b2b {b : List Int × List Int} {t : Int} {g : Nat} (h : inR t 10 17 = true) (h1 : ¬ (g < b.1.length ∧ g < b.2.length)) (pa : ∀ x ∈ b.1.take g, decide (x = t) = false) : -1 = C7 b t := by
 refine b3P h ?_
 rw [← O4 (p := fun x => decide (x = t)) (s := b.1.take (min b.1.length b.2.length)) (k := min b.1.length b.2.length) (by simp) ?_]
 ·omega
 ·intro x hx
  rw [List.take_take, Nat.min_self] at hx
  refine pa x ?_
  rw [List.mem_take_iff_getElem] at hx ⊢
  obtain ⟨i, hi, rfl⟩ := hx
  exact ⟨i, by omega, rfl⟩
theorem a4T {b : List Int × List Int} {t : Int} (h : I64 t) (hb : ∀ x ∈ b.2, I64 x) : I64 (C7 b t) := by
 simp only [C7]
 split
 ·split
  ·exact ⟨by decide, by decide⟩
  ·unfold at0
   rcases Nat.lt_or_ge (J0 (fun x => decide (x = t)) (b.1.take (min b.1.length b.2.length))).toNat b.2.length with h1 | h1
   ·rw [K5 h1]; exact hb _ (List.getElem_mem h1)
   ·have : b.2.getD (J0 (fun x => decide (x = t)) (b.1.take (min b.1.length b.2.length))).toNat 0 = 0 := by simp [List.getD, List.getElem?_eq_none h1]
    rw [this]; exact ⟨by decide, by decide⟩
 ·exact h
theorem a7s {b : List Int × List Int} {l : List Int} (h : ∀ x ∈ l, I64 x) (h1 : ∀ x ∈ b.1, I64 x) (h2 : ∀ x ∈ b.2, I64 x) : ∀ x ∈ l, I64 (C7 b x) := fun x hx => a4T (h x hx) h2
end Go.Proofs.YtdopeopehgdccaaGreat

namespace Go.Proofs.YtdopeopehgdccaaGreat
set_option linter.unusedVariables false
def pick {α : Type} (p : Nat → Bool) : List α → Nat → List α
 | [], _ => []
 | x :: xs, i => if p i then x :: pick p xs (i + 1) else pick p xs (i + 1)
def c0V (mask : Int) (i : Nat) : Bool := decide (0 < mask) && decide (b8f (mask / 2 ^ i) 1 = 1)
def c2j (l : List (Int × Int × List Int)) (mask : Int) : List (Int × Int × List Int) := pick (c0V mask) (l.take 20) 0
theorem K7 {P : Program} {Q : Exit → Act → World → Prop} {n : Nat} {w0 : World} {L0 : List Nat} {fr : Fr} {H : List HP} {d : Nat} {ty : TypeId} {pos : String} {af : Array Edge} {g : Option (Nat × Bool)} {α : Type} {E : Enc α} {T e e2 : TypeId} {agg : Bool} {k m2 : Nat} {z : List Value} {by' : Nat} {x y : Operand} {ad a2 : Option Addr} {c2 : Nat} {ys : List α} (hE : Plain E) (hT : P.underlying T = some (.slice e)) (ht : TyOk P e agg k z by') (hk : k = E.k)
  (hx : ev fr x = some (.slice ad 0 0)) (hy : ev fr y = some (.slice a2 m2 c2)) (hr : Ro w0 L0 (Enc.sl e2 E) [.slice a2 m2 c2] ys) (h63 : m2 ≤ 9223372036854775807) (hbytes : m2 * by' ≤ 140737488355328) (hd : d < n) :
  Nop P Q n w0 L0 fr H ⟨some d, .call ⟨.builtin .append, #[x, y], #[T, T]⟩, ty, pos, af, g⟩ true (κ := Option Addr × Nat) (fun p => (d, .slice p.1 m2 p.2) :: fr) (fun p => ow (Enc.sl e E) [.slice p.1 m2 p.2] ys :: H) (fun _ => True) := fun K hK a w ha hw => by
 subst hk
 obtain ⟨ccs, ⟨Lc, h1⟩, h2, h3⟩ := hr.src
 have hsrc : (m2 = 0 ∧ ccs = []) ∨ ∃ b o, a2 = some ⟨b, o, none⟩ ∧ K0 w b o ccs := by
  rcases h3 H with h | ⟨b, o, k1, k2⟩
  ·exact .inl h
  ·exact .inr ⟨b, o, k1, k2 w hw⟩
 have hy1 : B0 E w ccs ys [] true := (hE.elems h1).stable (by simp)
 have hm2 := hr.slen.1
 obtain ⟨a', c', w', L1', r1, r2, r3, r4, -⟩ := a3L (P := P) (ty := ty) (c2 := c2) hT ht E.pos (show (row e E.k ad 0 0 []).holds w [] from ⟨by simp, .inl ⟨rfl, rfl, rfl⟩⟩) hsrc (by rw [hy1.len, hm2]) hy1.one (by rw [Nat.zero_add]; exact h63) (by rw [Nat.zero_add]; exact hbytes)
 obtain ⟨L, hs, hn, hst⟩ := id hw
 obtain ⟨d1, d2, d3⟩ := b2e (xs := ([] : List α)) (m := 0) rfl hm2 (by rw [Nat.zero_add]; exact h63) ⟨rfl, rfl⟩ hy1 (by simp) r2 r3 r4
 obtain ⟨k1, k2, k3⟩ := Step.call (Lp := []) (Lr := L) (by simpa using hst) (by simpa using hn) hs.inh (by simpa using d3) d2
 have hrun : (execOp a.eval ⟨some d, .call ⟨.builtin .append, #[x, y], #[T, T]⟩, ty, pos, af, g⟩).run P w = .ok (.value (.slice a' (0 + m2) c')) w' := by
  simp only [execOp, resolve, ha.ev hx, ha.ev hy, List.map_toArray, List.map_cons, List.map_nil, Sem.run_bind, Sem.run_pure, Result.andThen_ok, invoke, builtin, r1]
 simp only [Nat.zero_add, List.nil_append] at d1 hrun
 rw [Oper.wp, hrun]
 exact hK (a', c') trivial w _ _ (ha.put hd _) ⟨_, ⟨_, L, rfl, d1, hs.stable k3⟩, k2, k1⟩ (fun _ => r4.below)
end Go.Proofs.YtdopeopehgdccaaGreat
